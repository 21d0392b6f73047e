/- Own work of this seat: PWstep, PBits, PWAll, PLists, PWNew, PHeld, PCnt, PWOnce, PItems, PMstep, PHp, PFirst, PNewI, PFull, PHold, PFWork, PEngI, PRem, PHeldAll, PHOwed, PReach, PHTold, PEngN, PLaw19. -/
import Derived.Test.YtehnegeacckkaaaGreatDoorHXPa
set_option linter.unusedVariables false
set_option linter.unusedSimpArgs false
set_option linter.unnecessarySimpa false
set_option linter.unusedSectionVars false
set_option linter.deprecated false
set_option maxRecDepth 20000
open BitVec renaming getLsbD_and → zHZ, toNat_and → zH0, eq_of_getLsbD_eq → zIf, getLsbD_zero → zIg, getLsbD_not → zIq
open Bool renaming and_eq_true → zGO, not_eq_true' → zG4, not_true → zG5, false_eq_true → zHm, true_and → zHK, or_eq_true → zHV
open Int renaming toNat_natCast → zHw, le_refl → zHA
open List renaming getElem?_eq_getElem → zGP, append_nil → zGQ, append_assoc → zGR, getD_eq_getElem?_getD → zGS, length_append → zGV, mem_cons_of_mem → zGW, mem_of_getElem? → zGX, nil_append → zGY, getElem?_eq_some_iff → zG1, mem_map → zG3, length_cons → zG7, mem_append → zG8, mem_cons_self → zG9, mem_append_left → zHa, mem_cons → zHc, perm_append_comm_assoc → zHe, getElem?_map → zHh, length_set → zHi, getElem?_append_left → zHj, mem_range → zHk, getElem_mem → zHn, getElem?_append_right → zHo, mem_singleton → zHq, mem_append_right → zHr, getElem?_set_ne → zHu, drop_eq_getElem_cons → zHv, perm_append_comm → zHx, eq_nil_of_length_eq_zero → zHz, flatMap_cons → zHB, getElem?_set → zHC, length_replicate → zHD, length_nil → zHE, foldl_cons → zHI, length_map → zHL, range_succ → zHP, flatMap_append → zHQ, getElem?_cons_zero → zHR, mem_or_eq_of_mem_set → zHS, getElem?_eq_none → zHU, length_take → zHX, map_cons → zHY, nodup_append → zH1, length_drop → zH4, take_add_one → zH7, length_filter_le → zH8, cons_append → zId, getElem?_replicate → zIe, mem_flatMap → zIh, mem_of_mem_take → zIi, range_eq_range' → zIl, map_congr_left → zIm, take_append_drop → zIn, take_length → zIo, getElem?_set_self → zIs, getElem?_cons_succ → zIx, length_singleton → zIz
open List.Perm renaming append_left → zG0, refl → zHd, append_right → zH9
open Nat renaming le_refl → zGT, lt_or_ge → zHl, mul_le_mul_right → zHN, zero_le → zHO, le_trans → zHT, lt_of_le_of_lt → zIr
open Option renaming bind_some → zGN, bind_eq_some_iff → zGZ, map_some → zHH
namespace Go.Pe.G
open Go.Pe
noncomputable section
def we (x:zh):List Int:=if x.PC=3\/x.PC=4 then [x.Bin] else if x.PC=6 then x8 x.G else []
def UO (s:za) (x:zh):List Int:=if x.PC=0 then ZQ s.M x.D else if x.PC=3 then ym s x.Bin else if x.PC=5\/x.PC=8 then [x.Obj] else if x.PC=6 then x.Obj::yj x.G else []
def zH (s:za) (x:zh):List Int:=x.Batch++UO s x
structure WX (p:zb) (s:za) (gh:Gh) (w:Int) (x:zh):Prop where
 c0:x.PC≠0->gh.c w=0
 bt:x.PC<=3->x.Batch=[]
 p0:x.PC=0->PK p s.M w (gh.t w) (gh.D w) (gh.c w) x.D
 p1:x.PC=1->TK p s.M x.Victim (gh.t x.Victim) (gh.D x.Victim) x.D
 p2:x.PC=2->x.C.Out=0/\(0<=x.C.PC/\x.C.PC<=2)/\CK p s.M x.C
 p4:x.PC=4->x.C.Out=0/\(0<=x.C.PC/\x.C.PC<=2)/\x.C.X=x.Bin/\CK p s.M x.C
 p6:x.PC=6->GX p s gh x.G/\x.G.Mode=1/\x.G.Who=w/\x.G.Out=0
theorem WX.plain {p:zb}{s:za}{gh:Gh}{w:Int}{x:zh}(h:x.PC=5\/x.PC=7\/x.PC=8\/x.PC=9) (c:gh.c w=0):WX p s gh w x :=
 ⟨fun _=>c,fun e=>by omega,fun e=>by omega,fun e=>by omega,fun e=>by omega,fun e=>by omega,fun e=>by omega⟩
theorem CK.start {p:zb}{m:List (BitVec 64)}{k h x:Int}:CK p m ⟨k,0,h,zD p,0#64,x,0,0⟩ :=
 ⟨fun e=>absurd e (by show ¬(1:Int)<=0;decide),fun e=>absurd e (by show ¬(0:Int)=2;decide),fun e=>absurd e (by show ¬(0:Int)=2;decide)⟩
theorem WX.begin {p:zb}{s:za}{gh:Gh}{w:Int}{x:zh}(c:gh.c w=0) (hb:x.Batch=[]):WX p s gh w (VN p w x):=by
 refine ⟨fun e=>absurd rfl e,fun _=>hb,fun _=>⟨rfl,rfl,rfl,rfl,⟨by show (0:Int)<=0;decide,by show (0:Int)<=6;decide⟩,fun _=>c,?_,?_,?_,?_,?_,?_,?_,?_⟩,fun e=>(by cases e),fun e=>(by cases e),fun e=>(by cases e),fun e=>(by cases e)⟩
 all_goals (intro e;first | (exact absurd e (by show ¬((0:Int)=2\/(4:Int)<=0);decide)) | (exact absurd e (by show ¬(0:Int)=3;decide)) | (exact absurd e (by show ¬(0:Int)=4;decide)) | (exact absurd e (by show ¬((0:Int)=3\/(0:Int)=4);decide)) | (exact absurd e (by show ¬(5:Int)<=0;decide)) | skip)
 rcases e with e | e | e | e
 ·exact absurd e (by show ¬(0:Int)=1;decide)
 ·exact absurd e (by show ¬(0:Int)=2;decide)
 ·exact absurd e (by show ¬(4:Int)<=0;decide)
 ·exact absurd e.1 (by show ¬(0:Int)=3;decide)
theorem ziZ {p:zb}{s:za}{w:Int}{x:zh}:UO s (VN p w x)=[]:=by
 unfold UO
 rw [if_pos (show (VN p w x).PC=0 from rfl)]
 exact vE (.inl (by show (0:Int)≠3;decide)) (by show (0:Int)≠6;decide)
theorem WX.look {p:zb}{s:za}{gh:Gh}{w:Int}{x:zh}(c:gh.c w=0) (hb:x.Batch=[]):WX p s gh w (Yn p w x)/\UO s (Yn p w x)=[]/\we (Yn p w x)=[]:=by
 unfold Yn
 split
 ·refine ⟨⟨fun _=>c,fun _=>hb,fun e=>(by cases e),fun e=>(by cases e),fun _=>⟨rfl,⟨by show (0:Int)<=0;decide,by show (0:Int)<=2;decide⟩,CK.start⟩,fun e=>(by cases e),fun e=>(by cases e)⟩,?_,?_⟩
  ·unfold UO;rw [if_neg (by show ¬(2:Int)=0;decide),if_neg (by show ¬(2:Int)=3;decide),if_neg (by show ¬((2:Int)=5\/(2:Int)=8);decide),if_neg (by show ¬(2:Int)=6;decide)]
  ·unfold we;rw [if_neg (by show ¬((2:Int)=3\/(2:Int)=4);decide),if_neg (by show ¬(2:Int)=6;decide)]
 ·refine ⟨⟨fun _=>c,fun _=>hb,fun e=>(by cases e),fun _=>⟨rfl,rfl,rfl,rfl,⟨by show (0:Int)<=0;decide,by show (0:Int)<=3;decide⟩,fun e=>absurd e (by show ¬(1:Int)<=0;decide),fun e=>absurd e (by show ¬(2:Int)<=0;decide),fun e=>absurd e (by show ¬(0:Int)=3;decide)⟩,fun e=>(by cases e),fun e=>(by cases e),fun e=>(by cases e)⟩,?_,?_⟩
  ·unfold UO;rw [if_neg (by show ¬(1:Int)=0;decide),if_neg (by show ¬(1:Int)=3;decide),if_neg (by show ¬((1:Int)=5\/(1:Int)=8);decide),if_neg (by show ¬(1:Int)=6;decide)]
  ·unfold we;rw [if_neg (by show ¬((1:Int)=3\/(1:Int)=4);decide),if_neg (by show ¬(1:Int)=6;decide)]
theorem WX.other {p:zb}(hp:zB p) {nb k:Nat}{s s':za}{gh gh':Gh}{X R:List Int}{O:Int->Prop}{w:Int}{x:zh}(hw:1<=w/\w<=p.Workers) (Y:SX p nb s gh (X++R) k) (Fx:FX p nb X O s s' gh gh') (K:WX p s gh w x) (W:WOk p nb w x)
  (hR:∀b∈we x,b∈R) (apart: ¬O w):WX p s' gh' w x/\zH s' x=zH s x:=by
 have hsub:∀b∈X,b∈X++R:=fun b hb=>zHa _ hb
 have hnd:=(zH1.1 Y.L.nodup).2.1
 have hnot:∀b,b∈we x->b∉X:=fun b hb hg=>(zH1.1 hnd).2.2 b hg b (hR b hb) rfl
 have hc:gh'.c w=gh.c w:=by
  rcases Fx.dq w hw.1 hw.2 with h | h
  ·cases h with
   | same e1 e2 e3 e4=>exact e3
   | stolen y e1 e2 e3 e4=>exact e3
  ·exact absurd h.1 apart
 have hcell:∀a,zJ p w<a->a<zJ p w+p.Cap+2->ld s'.M a=ld s.M a:=by
  rcases Fx.dq w hw.1 hw.2 with h | h
  ·cases h with
   | same e1 e2 e3 e4=>exact fun a h1 h2=>e4 a (by omega) h2
   | stolen y e1 e2 e3 e4=>exact e4
  ·exact absurd h.1 apart
 refine ⟨⟨fun e=>hc.trans (K.c0 e),K.bt,fun e=>Fx.pk hp hw.1 hw.2 apart (K.p0 e),fun e=>Fx.tk W.vic.1 W.vic.2 (K.p1 e),fun e=>?_,fun e=>?_,fun e=>?_⟩,?_⟩
 ·obtain ⟨a,b,c⟩:=K.p2 e
  have C:=W.c2 e
  exact ⟨a,b,c.mv Y.L Fx.mv hsub (.inl C.h) (fun h _=>C.v h) (fun e2=>by have:=C.k;omega)⟩
 ·obtain ⟨a,b,c,d⟩:=K.p4 e
  have C:=W.c4 e
  have hno:=hnot x.Bin (by unfold we;rw [if_pos (.inr e)];simp)
  exact ⟨a,b,c,d.mv Y.L Fx.mv hsub (.inr C.h) (fun _ e2=>by have:=C.k;omega) (fun _=>⟨C.x.1,C.x.2,by rw [c];exact hno⟩)⟩
 ·obtain ⟨a,b,c,d⟩:=K.p6 e
  have M:=(W.g6 e).1
  refine ⟨a.other hp Y Fx M (fun y hy=>hR y ?_) (fun _=>by rw [c];exact apart),b,c,d⟩
  unfold we;rw [if_neg (by omega),if_pos e];exact hy
 ·unfold zH UO
  congr 1
  by_cases e0:x.PC=0
  ·rw [if_pos e0,if_pos e0]
   have P:=K.p0 e0
   unfold ZQ
   have hpl:=(zsJ hp hw.1 hw.2 P.base P.size (x.D.B-1#64)).2
   rw [hcell _ (by rw [P.base] at hpl;omega) (by rw [P.base] at hpl;omega)]
  ·rw [if_neg e0,if_neg e0]
   by_cases e3:x.PC=3
   ·rw [if_pos e3,if_pos e3]
    have hb:=W.b3 e3
    have hno:=hnot x.Bin (by unfold we;rw [if_pos (.inl e3)];simp)
    unfold ym
    rw [Fx.bn x.Bin hb.1 hno]
   ·rw [if_neg e3,if_neg e3]
theorem zxv (s:za) (b:Int):WV s b=ym s b:=by unfold WV ym;rw [zGS]
theorem FX.mono {p:zb}{nb:Nat}{X:List Int}{O O':Int->Prop}{s s':za}{g g':Gh}(h:FX p nb X O s s' g g') (i:∀v,O v->O' v):FX p nb X O' s s' g g' :=
 ⟨h.mv,h.bn,fun v a b=>(h.dq v a b).imp id (fun e=>⟨i v e.1,e.2⟩),h.fb⟩
theorem vZ {x:zh}(h3:x.PC≠3) (h4:x.PC≠4) (h6:x.PC≠6):we x=[]:=by unfold we;rw [if_neg (by omega),if_neg h6]
theorem zj0 {x:zh}(h:x.PC=3\/x.PC=4):we x=[x.Bin]:=by unfold we;rw [if_pos h]
theorem zyq {x:zh}(h:x.PC=6):we x=x8 x.G:=by unfold we;rw [if_neg (by omega),if_pos h]
theorem zCy {s:za}{x:zh}(h:x.PC=0):UO s x=ZQ s.M x.D:=by unfold UO;rw [if_pos h]
theorem zCj {s:za}{x:zh}(h:x.PC=3):UO s x=ym s x.Bin:=by unfold UO;rw [if_neg (by omega),if_pos h]
theorem UZ {s:za}{x:zh}(h:x.PC=5\/x.PC=8):UO s x=[x.Obj]:=by unfold UO;rw [if_neg (by omega),if_neg (by omega),if_pos h]
theorem zyB {s:za}{x:zh}(h:x.PC=6):UO s x=x.Obj::yj x.G:=by unfold UO;rw [if_neg (by omega),if_neg (by omega),if_neg (by omega),if_pos h]
theorem Yh {s:za}{x:zh}(h:x.PC=1\/x.PC=2\/x.PC=4\/x.PC=7\/x.PC=9):UO s x=[]:=by unfold UO;rw [if_neg (by omega),if_neg (by omega),if_neg (by omega),if_neg (by omega)]
def zkw (p:zb) (nb k:Nat) (R:List Int) (gh:Gh) (s:za) (w:Int) (x:zh) (s':za) (x':zh):Prop :=
 ∃gh',SX p nb s' gh' (we x'++R) (k+1)/\WX p s' gh' w x'/\FX p nb (we x) (fun v=>v=w) s s' gh gh' /\
  ∃N B,List.Perm (yo p s' gh'++zH s' x'++B) (N++(yo p s gh++zH s x)) /\
   ((N=[]/\B=[]/\s'.T=s.T)\/(N=[x.G.Obj]/\B=[]/\x.PC=6/\¬(s.T.Marks|||bit x.G.Obj=s.T.Marks)/\s'.T={s.T with Marks:=s.T.Marks|||bit x.G.Obj})\/(N=[]/\B=[x.Obj]/\x.PC=8/\s'.T=wJ s.T x.Obj))
theorem zkw.quiet {p:zb}{nb k:Nat}{R:List Int}{gh:Gh}{s s':za}{w:Int}{x x':zh}(X:SX p nb s gh (we x++R) k) (S':SOk p nb s') (hm:s'.M=s.M) (hb:s'.Bins=s.Bins) (hT:s'.T=s.T)
  (ho:we x'=we x) (hh:List.Perm (zH s' x') (zH s x)) (W':WX p s' gh w x'):zkw p nb k R gh s w x s' x' :=
 ⟨gh,by rw [ho];exact X.quiet S' hm,W',FX.quiet hm (fun _ _ _=>by rw [hb]),[],[],by rw [uQ hb,zGQ];exact zG0 _ hh,.inl ⟨rfl,rfl,hT⟩⟩
theorem zEb {p:zb}(hp:zB p) {nb k:Nat}{R:List Int}{gh:Gh}{s:za}{w:Int}{x:zh}(hk:k<4294960000) (hw:1<=w/\w<=p.Workers) (X:SX p nb s gh (we x++R) k) (W:WOk p nb w x) (K:WX p s gh w x)
  (hH:∀o i,0<=xC s.H o i/\xC s.H o i<=64):zkw p nb k R gh s w x (zo s w x).1 (zo s w x).2:=by
 have S':=(zAr hp hw X.S W).1
 have hP:=X.S.P
 have eL:∀y,Yn s.P w y=Yn p w y:=fun y=>by rw [hP]
 have eB:∀y,VN s.P w y=VN p w y:=fun y=>by rw [hP]
 have eC:zbx s.P (zD s.P) x.Bin=zbx p (zD p) x.Bin:=by rw [hP]
 have hpc:=W.pc
 have hlen:=X.L.len
 have hE:=wm hp
 revert S'
 unfold zo
 by_cases p01:x.PC=0\/x.PC=1
 ·rw [if_pos p01]
  intro S'
  have S':SOk p nb {s with M:=(zT s.M x.D).1}:=S'
  have hl:=(zmk s.M x.D).1
  have eo:we x=[]:=vZ (by omega) (by omega) (by omega)
  have hbt:=K.bt (by omega)
  rw [eo] at X
  dsimp only
  by_cases p0:x.PC=0
  ·have K0:=K.p0 p0
   have D0:=X.D w hw.1 hw.2
   have hdk:=X.dk w hw.1 hw.2
   obtain ⟨t',l',c',D',hm,V,hle,r⟩:=zyy hp hw (by omega) D0 K0
   have hc:=hp.cap
   have hm':∀a,(a<zJ p w\/zJ p w+p.Cap+2<=a)->ld (zT s.M x.D).1 a=ld s.M a:=fun a ha=>hm a (by omega) (by omega)
   have X':=X.dq hp S' hl hw hm' D' (by omega)
   have Fx:FX p nb (we x) (fun v=>v=w) s {s with M:=(zT s.M x.D).1} gh (WJ gh w t' l' c'):=FX.own (O:=fun v=>v=w) (s:=s) (s':={s with M:=(zT s.M x.D).1}) (g:=gh) hp hw hm' rfl rfl V
   obtain ⟨u,v,f1,f2⟩:=zpq (p:=p) (s:=s) (s':={s with M:=(zT s.M x.D).1}) (g:=gh) rfl hw (t:=t') (c:=c') (l:=l')
   have fin:∀x':zh,we x'=[]->WX p {s with M:=(zT s.M x.D).1} (WJ gh w t' l' c') w x'->List.Perm (l'++zH {s with M:=(zT s.M x.D).1} x') (gh.D w++zH s x)->zkw p nb k R gh s w x {s with M:=(zT s.M x.D).1} x':=by
    intro x' a b c
    refine ⟨_,by rw [a];exact X',b,Fx,[],[],?_,.inl ⟨rfl,rfl,rfl⟩⟩
    rw [f1,f2,zGQ,zGY]
    simp only [zGR]
    refine zG0 _ ?_
    refine (zHe l' v _).trans (List.Perm.trans ?_ (zHe v (gh.D w) _))
    exact zG0 _ c
   have hh:zH s x=ZQ s.M x.D:=by unfold zH;rw [hbt,zCy p0,zGY]
   rw [hh] at fin
   rcases r with ⟨r1,r2,r3⟩ | ⟨r1,r2,r3⟩ | ⟨r1,r2,r3,r4,r5⟩
   ·rw [r1,if_neg (by decide),if_neg (by decide)]
    refine fin _ (vZ (by show x.PC≠3;omega) (by show x.PC≠4;omega) (by show x.PC≠6;omega)) ⟨fun e=>absurd p0 e,fun _=>hbt,fun _=>?_,fun e=>by have e:x.PC=1:=e;omega,fun e=>by have e:x.PC=2:=e;omega,fun e=>by have e:x.PC=4:=e;omega,fun e=>by have e:x.PC=6:=e;omega⟩ ?_
    ·rw [wq.1,wq.2.1,wq.2.2];exact r2
    ·unfold zH
     rw [zCy (x:={x with D:=(zT s.M x.D).2}) p0]
     show List.Perm (l'++(x.Batch++ZQ (zT s.M x.D).1 (zT s.M x.D).2)) _
     rw [hbt,zGY];exact r3
   ·rw [r1,if_pos rfl]
    refine fin _ (vZ (by show (5:Int)≠3;decide) (by show (5:Int)≠4;decide) (by show (5:Int)≠6;decide)) (WX.plain (.inl rfl) (by rw [wq.2.2];exact r2)) ?_
    unfold zH
    rw [UZ (.inl rfl)]
    show List.Perm (l'++(x.Batch++[(zT s.M x.D).2.X])) _
    rw [hbt,zGY];exact r3
   ·rw [r1,if_neg (by decide),if_pos (.inl rfl),eL]
    obtain ⟨a,b,c⟩:=WX.look (p:=p) (s:={s with M:=(zT s.M x.D).1}) (gh:=WJ gh w t' l' c') (w:=w) (x:={x with D:=(zT s.M x.D).2}) (by rw [wq.2.2];exact r2) hbt
    refine fin _ c a ?_
    unfold zH
    rw [b,r3,r4,r5,show (Yn p w {x with D:=(zT s.M x.D).2}).Batch=x.Batch by unfold Yn;split<;>rfl,hbt]
    exact zHd _
  ·have p1:x.PC=1:=by omega
   have K1:=K.p1 p1
   have hv:=W.vic
   have hc0:=K.c0 p0
   have D0:=X.D x.Victim hv.1 hv.2
   have hdk:=X.dk x.Victim hv.1 hv.2
   have hh:zH s x=[]:=by unfold zH;rw [hbt,Yh (.inl p1)];rfl
   rcases zBs hp hv (by omega) D0 K1 with ⟨hm,r⟩ | ⟨y,l',e1,e2,e3,e4,e5⟩
   ·have S2:=S'
    have q:∀x':zh,we x'=[]->zH {s with M:=(zT s.M x.D).1} x'=[]->WX p {s with M:=(zT s.M x.D).1} gh w x'->zkw p nb k R gh s w x {s with M:=(zT s.M x.D).1} x' :=
     fun x' a b c=>.quiet (by rw [eo];exact X) S' hm rfl rfl (by rw [a,eo]) (by rw [b,hh]) c
    rcases r with ⟨r1,r2⟩ | r
    ·rw [r1,if_neg (by decide),if_neg (by decide)]
     refine q _ (vZ (by show x.PC≠3;omega) (by show x.PC≠4;omega) (by show x.PC≠6;omega)) ?_ ⟨fun _=>hc0,fun _=>hbt,fun e=>absurd e p0,fun _=>?_,fun e=>by have e:x.PC=2:=e;omega,fun e=>by have e:x.PC=4:=e;omega,fun e=>by have e:x.PC=6:=e;omega⟩
     ·unfold zH
      rw [Yh (x:={x with D:=(zT s.M x.D).2}) (.inl p1)]
      show x.Batch++[]=[]
      rw [hbt];rfl
     ·show TK p (zT s.M x.D).1 _ _ _ _
      rw [hm];exact r2
    ·rw [if_neg (by omega),if_pos r,eL]
     obtain ⟨a,b,c⟩:=WX.look (p:=p) (s:={s with M:=(zT s.M x.D).1}) (gh:=gh) (w:=w) (x:={x with D:=(zT s.M x.D).2}) hc0 hbt
     refine q _ c ?_ a
     unfold zH
     rw [b,show (Yn p w {x with D:=(zT s.M x.D).2}).Batch=x.Batch by unfold Yn;split<;>rfl,hbt];rfl
   ·have hc:=hp.cap
    have hm':∀a,(a<zJ p x.Victim\/zJ p x.Victim+p.Cap+2<=a)->ld (zT s.M x.D).1 a=ld s.M a:=fun a ha=>e5 a (by omega)
    have X':=X.dq hp S' hl hv hm' e4 (by rw [e1] at hdk;simp at hdk;omega)
    obtain ⟨h1,h2⟩:=zvR hp hv hm'
    obtain ⟨u,v,f1,f2⟩:=zpq (p:=p) (s:=s) (s':={s with M:=(zT s.M x.D).1}) (g:=gh) rfl hv (t:=gh.t x.Victim+1) (c:=gh.c x.Victim) (l:=l')
    rw [e2,if_pos rfl]
    refine ⟨WJ gh x.Victim (gh.t x.Victim+1) l' (gh.c x.Victim),by rw [vZ (by show (5:Int)≠3;decide) (by show (5:Int)≠4;decide) (by show (5:Int)≠6;decide)];exact X',WX.plain (.inl rfl) ?_,⟨Mv.low hp h1,fun _ _ _=>rfl,fun v' a b=>.inl ?_,fun _ h=>.inl h⟩,[],[],?_,.inl ⟨rfl,rfl,rfl⟩⟩
    ·by_cases e:w=x.Victim
     ·rw [e,wq.2.2,<-e];exact hc0
     ·rw [(YW e).2.2];exact hc0
    ·by_cases e:v'=x.Victim
     ·subst e
      exact .stolen y wq.2.1 (by rw [wq.1];exact e1) wq.2.2 (fun a h1 _=>e5 a (by omega))
     ·exact .same (YW e).2.1 (YW e).1 (YW e).2.2 (h2 v' a b e)
    ·rw [f1,f2,hh,zGQ,zGQ,zGY,e1]
     unfold zH
     rw [UZ (.inl rfl)]
     show List.Perm (u++l'++v++(x.Batch++[(zT s.M x.D).2.X])) _
     rw [hbt,zGY,e3]
     simp only [zGR]
     refine zG0 _ ?_
     show List.Perm (l'++(v++[y])) (y::(l'++v))
     rw [<-zGR]
     exact zHx
 rw [if_neg p01]
 have hc0:=K.c0 (by omega)
 by_cases p2:x.PC=2
 ·rw [if_pos p2]
  intro S'
  have S':SOk p nb {s with M:=(zn s.M x.C).1}:=S'
  have C:=W.c2 p2
  obtain ⟨c1,c2,c3⟩:=K.p2 p2
  have hbt:=K.bt (by omega)
  have eo:we x=[]:=vZ (by omega) (by omega) (by omega)
  have hh:zH s x=[]:=by unfold zH;rw [hbt,Yh (.inr (.inl p2))];rfl
  dsimp only
  rcases SX.popF hp X hk C.k C.h C.n c1 c2 c3 C.v S' with ⟨a,b,c,d⟩ | ⟨y,l,a,b,c,d,e⟩
  ·rw [if_neg b]
   have hout:=zbf s.M c1 c2 (.inr C.k)
   by_cases o2:(zn s.M x.C).2.Out=2
   ·rw [if_pos o2,eB]
    refine .quiet X S' a rfl rfl ?_ ?_ (WX.begin hc0 hbt)
    ·rw [eo];exact vZ (by show (0:Int)≠3;decide) (by show (0:Int)≠4;decide) (by show (0:Int)≠6;decide)
    ·unfold zH
     rw [ziZ,show (VN p w {x with C:=(zn s.M x.C).2}).Batch=x.Batch from rfl]
     rw [hbt,Yh (.inr (.inl p2))]
   ·rw [if_neg o2]
    have hpc':(zn s.M x.C).2.Out=0/\0<=(zn s.M x.C).2.PC/\(zn s.M x.C).2.PC<=2:=by omega
    refine .quiet X S' a rfl rfl ?_ ?_ ⟨fun _=>hc0,fun _=>hbt,fun e=>by have e:x.PC=0:=e;omega,fun e=>by have e:x.PC=1:=e;omega,fun _=>⟨hpc'.1,hpc'.2,?_⟩,fun e=>by have e:x.PC=4:=e;omega,fun e=>by have e:x.PC=6:=e;omega⟩
    ·rw [eo];exact vZ (by show x.PC≠3;omega) (by show x.PC≠4;omega) (by show x.PC≠6;omega)
    ·unfold zH
     rw [Yh (x:={x with C:=(zn s.M x.C).2}) (.inr (.inl p2)),Yh (.inr (.inl p2))]
    ·rw [show ({s with M:=(zn s.M x.C).1}:za).M=s.M from a];exact c
  ·rw [if_pos b]
   have e1:we {x with C:=(zn s.M x.C).2,Bin:=(zn s.M x.C).2.X,PC:=3}=[y]:=by rw [<-c];exact zj0 (x:={x with C:=(zn s.M x.C).2,Bin:=(zn s.M x.C).2.X,PC:=3}) (.inl rfl)
   refine ⟨{gh with F:=l},by rw [e1];rw [eo] at d;exact d,⟨fun _=>hc0,fun _=>hbt,fun e=>(by cases e),fun e=>(by cases e),fun e=>(by cases e),fun e=>(by cases e),fun e=>(by cases e)⟩,e _ _,[],[],?_,.inl ⟨rfl,rfl,rfl⟩⟩
   rw [hh,zGQ,zGQ,zGY]
   unfold zH
   rw [zCj (x:={x with C:=(zn s.M x.C).2,Bin:=(zn s.M x.C).2.X,PC:=3}) rfl]
   show List.Perm (yo p s {gh with F:=l}++(x.Batch++ym s (zn s.M x.C).2.X)) _
   rw [hbt,zGY,c]
   have:yo p s gh=ym s y++yo p s {gh with F:=l}:=by unfold yo;rw [a];simp [zGR]
   rw [this]
   exact zHx
 rw [if_neg p2]
 by_cases p3:x.PC=3
 ·rw [if_pos p3]
  intro S'
  have hb:=W.b3 p3
  have hbt:=K.bt (by omega)
  have eo:we x=[x.Bin]:=zj0 (.inl p3)
  rw [eC]
  have e1:we {x with Batch:=WV s x.Bin,PC:=4,C:=zbx p (zD p) x.Bin}=[x.Bin]:=zj0 (x:={x with Batch:=WV s x.Bin,PC:=4,C:=zbx p (zD p) x.Bin}) (.inr rfl)
  have hget:∀b,1<=b->b∉we x->(s.Bins.set x.Bin.toNat [])[b.toNat]? =s.Bins[b.toNat]? :=fun b b1 b2=>by
   rw [zHu]
   intro e
   rw [eo] at b2
   exact b2 (by rw [show b=x.Bin by omega];simp)
  refine ⟨gh,by rw [e1,<-eo];exact X.quiet S' rfl,⟨fun _=>hc0,fun e=>absurd e (by show ¬(4:Int)<=3;decide),fun e=>(by cases e),fun e=>(by cases e),fun e=>(by cases e),fun _=>⟨rfl,⟨by show (0:Int)<=0;decide,by show (0:Int)<=2;decide⟩,rfl,CK.start⟩,fun e=>(by cases e)⟩,FX.quiet rfl hget,[],[],?_,.inl ⟨rfl,rfl,rfl⟩⟩
  have hbag:yo p {s with Bins:=s.Bins.set x.Bin.toNat []} gh=yo p s gh:=by
   unfold yo
   congr 1
   refine xz (fun b hb=>?_)
   have hm:=X.L.cF.mem b hb
   have hno:=(X.L.notF (x:=x.Bin) (by rw [eo];simp)).1
   unfold ym
   rw [show ({s with Bins:=s.Bins.set x.Bin.toNat []}:za).Bins=s.Bins.set x.Bin.toNat [] from rfl,hget b hm.1 (by rw [eo];intro e;rw [zHq.1 e] at hb;exact hno hb)]
  rw [hbag,zGQ,zGY]
  unfold zH
  rw [zCj p3,Yh (x:={x with Batch:=WV s x.Bin,PC:=4,C:=zbx p (zD p) x.Bin}) (.inr (.inr (.inl rfl)))]
  show List.Perm (yo p s gh++(WV s x.Bin++[])) _
  rw [hbt,zGQ,zGY,zxv]
 rw [if_neg p3]
 by_cases p4:x.PC=4
 ·rw [if_pos p4]
  intro S'
  have S':SOk p nb {s with M:=(zn s.M x.C).1}:=S'
  have C:=W.c4 p4
  obtain ⟨c1,c2,c3,c4⟩:=K.p4 p4
  have eo:we x=[x.Bin]:=zj0 (.inr p4)
  have hh:zH s x=x.Batch:=by unfold zH;rw [Yh (.inr (.inr (.inl p4))),zGQ]
  rw [eo] at X
  dsimp only
  rcases SX.pushE hp (o1:=[]) (o2:=R) (b:=x.Bin) X hk C.k C.h C.n c3 c1 c2 c4 C.v S' with ⟨a,b,c,d⟩ | ⟨a,b,d⟩
  ·rw [a,if_neg (by decide)]
   have hout:=zbf s.M c1 c2 (.inl C.k)
   have hsame:=zmJ s.M x.C
   have hpc':0<=(zn s.M x.C).2.PC/\(zn s.M x.C).2.PC<=2:=by omega
   have e1:we {x with C:=(zn s.M x.C).2}=[x.Bin]:=zj0 (x:={x with C:=(zn s.M x.C).2}) (.inr p4)
   refine ⟨gh,by rw [e1];exact b,⟨fun _=>hc0,fun e=>by have e:x.PC<=3:=e;omega,fun e=>by have e:x.PC=0:=e;omega,fun e=>by have e:x.PC=1:=e;omega,fun e=>by have e:x.PC=2:=e;omega,fun _=>⟨a,hpc',(hsame.2.2.2 C.k).trans c3,c⟩,fun e=>by have e:x.PC=6:=e;omega⟩,by rw [eo];exact d _ _ (by simp),[],[],?_,.inl ⟨rfl,rfl,rfl⟩⟩
   rw [uQ rfl,hh,zGQ]
   unfold zH
   rw [Yh (x:={x with C:=(zn s.M x.C).2}) (.inr (.inr (.inl p4))),zGQ]
   exact zHd _
  ·rw [a,if_pos rfl]
   refine ⟨{gh with E:=x.Bin::gh.E},by rw [vZ (by show (7:Int)≠3;decide) (by show (7:Int)≠4;decide) (by show (7:Int)≠6;decide)];exact b,WX.plain (.inr (.inl rfl)) hc0,by rw [eo];exact d _ _,[],[],?_,.inl ⟨rfl,rfl,rfl⟩⟩
   rw [hh,zGQ]
   unfold zH
   rw [Yh (.inr (.inr (.inr (.inl rfl)))),zGQ]
   exact zHd _
 rw [if_neg p4]
 by_cases p5:x.PC=5
 ·rw [if_pos p5]
  intro S'
  have eo:we x=[]:=vZ (by omega) (by omega) (by omega)
  have hv:=hH x.Obj x.Slot
  dsimp only
  split
  ·rcases zkq s (wc (x.Slot+1)) with e | e<;>rw [e]
   ·refine .quiet X S' rfl rfl rfl (by rw [eo];exact vZ (by show (5:Int)≠3;decide) (by show (5:Int)≠4;decide) (by show (5:Int)≠6;decide)) ?_ (WX.plain (.inl rfl) hc0)
    unfold zH
    rw [UZ (.inl p5),UZ (.inl rfl)]
   ·refine .quiet X S' rfl rfl rfl (by rw [eo];exact vZ (by show (8:Int)≠3;decide) (by show (8:Int)≠4;decide) (by show (8:Int)≠6;decide)) ?_ (WX.plain (.inr (.inr (.inl rfl))) hc0)
    unfold zH
    rw [UZ (.inl p5),UZ (.inr rfl)]
  ·rename_i hne
   have e0:(ZN 1 (xC s.H x.Obj x.Slot) w).PC=0:=rfl
   refine .quiet X S' rfl rfl rfl ?_ ?_ ⟨fun _=>hc0,fun e=>absurd e (by show ¬(6:Int)<=3;decide),fun e=>(by cases e),fun e=>(by cases e),fun e=>(by cases e),fun e=>(by cases e),fun _=>⟨GX.plain (.inl rfl) ⟨by show (0:Int)<=0;decide,by show (0:Int)<=7;decide⟩ ⟨by show (1:Int)<=1;decide,by show (1:Int)<=3;decide⟩ ⟨by show 1<=xC s.H x.Obj x.Slot;omega,hv.2⟩ (fun _ _=>hc0) (.inr ⟨by show (0:Int)≠3;decide,by show (0:Int)≠5;decide,by show (0:Int)≠7;decide⟩),rfl,rfl,rfl⟩⟩
   ·rw [eo,zyq (x:={x with Slot:=wc (x.Slot+1),PC:=6,G:=ZN 1 (xC s.H x.Obj x.Slot) w}) rfl]
    exact vc (.inr ⟨by show (0:Int)≠6;decide,by show (0:Int)≠7;decide⟩)
   ·unfold zH
    rw [UZ (.inl p5),zyB (x:={x with Slot:=wc (x.Slot+1),PC:=6,G:=ZN 1 (xC s.H x.Obj x.Slot) w}) rfl]
    rw [Zp (g:=ZN 1 (xC s.H x.Obj x.Slot) w) (.inr (.inl (by show (0:Int)<3;decide)))]
 rw [if_neg p5]
 by_cases p6:x.PC=6
 ·rw [if_pos p6]
  intro S'
  obtain ⟨G,gm,gw,g0⟩:=K.p6 p6
  obtain ⟨M,h5o,_,hn4⟩:=W.g6 p6
  have eo:we x=x8 x.G:=zyq p6
  have hh:zH s x=x.Batch++x.Obj::yj x.G:=by unfold zH;rw [zyB p6]
  rw [eo] at X
  obtain ⟨gh',X',G',Fx,hc',hFb,N,hN,hT⟩:=zAA hp hk X M h5o G
  have so:=UE s x.G
  have Fx':FX p nb (we x) (fun v=>v=w) s (zx s x.G).1 gh gh':=by
   rw [eo]
   exact Fx.mono (fun v e=>e.2.trans gw)
  have hcw:gh'.c w=0:=by have:=hc' gm g0;rwa [gw] at this
  dsimp only
  have hT':(N=[]/\([]:List Int)=[]/\(zx s x.G).1.T=s.T)\/(N=[x.G.Obj]/\([]:List Int)=[]/\x.PC=6/\¬(s.T.Marks|||bit x.G.Obj=s.T.Marks)/\(zx s x.G).1.T={s.T with Marks:=s.T.Marks|||bit x.G.Obj})\/(N=[]/\([]:List Int)=[x.Obj]/\x.PC=8/\(zx s x.G).1.T=wJ s.T x.Obj):=by
   rcases hT with ⟨a,b⟩ | ⟨a,b,c⟩
   ·exact .inl ⟨a,rfl,b⟩
   ·exact .inr (.inl ⟨a,rfl,p6,b,c⟩)
  have perm:∀H':List Int,H'=x.Batch++x.Obj::yj (zx s x.G).2->List.Perm (yo p (zx s x.G).1 gh'++H'++[]) (N++(yo p s gh++zH s x)):=by
   intro H' e
   rw [e,hh,zGQ]
   have a1:List.Perm (yo p (zx s x.G).1 gh'++(x.Batch++x.Obj::yj (zx s x.G).2)) ((x.Batch++[x.Obj])++(yo p (zx s x.G).1 gh'++yj (zx s x.G).2)):=by
    rw [show x.Batch++x.Obj::yj (zx s x.G).2=(x.Batch++[x.Obj])++yj (zx s x.G).2 by simp]
    exact zHe _ _ _
   have a2:List.Perm (N++(yo p s gh++(x.Batch++x.Obj::yj x.G))) ((x.Batch++[x.Obj])++(N++(yo p s gh++yj x.G))):=by
    rw [show x.Batch++x.Obj::yj x.G=(x.Batch++[x.Obj])++yj x.G by simp]
    exact (zG0 N (zHe _ _ _)).trans (zHe _ _ _)
   exact a1.trans ((zG0 _ hN).trans a2.symm)
  split
  ·rename_i o1
   have n1:x8 (zx s x.G).2=[]:=vc (.inl (by omega))
   have n2:yj (zx s x.G).2=[]:=Zp (.inl (by omega))
   rw [n1] at X'
   rcases zkq s x.Slot with e | e<;>rw [e]
   ·refine ⟨gh',by rw [vZ (by show (5:Int)≠3;decide) (by show (5:Int)≠4;decide) (by show (5:Int)≠6;decide)];exact X',WX.plain (.inl rfl) hcw,Fx',N,[],perm _ ?_,hT'⟩
    unfold zH;rw [UZ (.inl rfl),n2]
   ·refine ⟨gh',by rw [vZ (by show (8:Int)≠3;decide) (by show (8:Int)≠4;decide) (by show (8:Int)≠6;decide)];exact X',WX.plain (.inr (.inr (.inl rfl))) hcw,Fx',N,[],perm _ ?_,hT'⟩
    unfold zH;rw [UZ (.inr rfl),n2]
  ·rename_i o1
   have o0:(zx s x.G).2.Out=0:=by have:=G'.o;omega
   refine ⟨gh',by rw [zyq (x:={x with G:=(zx s x.G).2}) p6];exact X',⟨fun _=>hcw,fun e=>by have e:x.PC<=3:=e;omega,fun e=>by have e:x.PC=0:=e;omega,fun e=>by have e:x.PC=1:=e;omega,fun e=>by have e:x.PC=2:=e;omega,fun e=>by have e:x.PC=4:=e;omega,fun _=>⟨G',so.2.2.trans gm,so.2.1.trans gw,o0⟩⟩,Fx',N,[],perm _ ?_,hT'⟩
   unfold zH;rw [zyB (x:={x with G:=(zx s x.G).2}) p6]
 rw [if_neg p6]
 have eo:we x=[]:=vZ (by omega) (by omega) (by omega)
 by_cases p7:x.PC=7
 ·rw [if_pos p7]
  intro S'
  dsimp only
  split
  ·rename_i hb
   rw [eB]
   refine .quiet X S' rfl rfl rfl (by rw [eo];exact vZ (by show (0:Int)≠3;decide) (by show (0:Int)≠4;decide) (by show (0:Int)≠6;decide)) ?_ (WX.begin hc0 hb)
   unfold zH
   rw [ziZ,Yh (.inr (.inr (.inr (.inl p7))))]
   exact zHd _
  ·rename_i o l hb
   refine .quiet X S' rfl rfl rfl (by rw [eo];exact vZ (by show (5:Int)≠3;decide) (by show (5:Int)≠4;decide) (by show (5:Int)≠6;decide)) ?_ (WX.plain (.inl rfl) hc0)
   unfold zH
   rw [UZ (.inl rfl),Yh (.inr (.inr (.inr (.inl p7)))),hb,zGQ]
   exact zHx
 rw [if_neg p7]
 by_cases p8:x.PC=8
 ·rw [if_pos p8]
  intro S'
  refine ⟨gh,by rw [vZ (by show (9:Int)≠3;decide) (by show (9:Int)≠4;decide) (by show (9:Int)≠6;decide)];rw [eo] at X;exact X.quiet S' rfl,WX.plain (.inr (.inr (.inr rfl))) hc0,FX.quiet rfl (fun _ _ _=>rfl),[],[x.Obj],?_,.inr (.inr ⟨rfl,rfl,p8,rfl⟩)⟩
  rw [uQ rfl,zGY]
  unfold zH
  rw [UZ (.inr p8),Yh (.inr (.inr (.inr (.inr rfl)))),zGQ,zGR]
  exact zHd _
 rw [if_neg p8]
 have p9:x.PC=9:=by omega
 rw [if_pos p9]
 intro S'
 refine .quiet X S' rfl rfl rfl (by rw [eo];exact vZ (by show (7:Int)≠3;decide) (by show (7:Int)≠4;decide) (by show (7:Int)≠6;decide)) ?_ (WX.plain (.inr (.inl rfl)) hc0)
 unfold zH
 rw [Yh (.inr (.inr (.inr (.inr p9)))),Yh (.inr (.inr (.inr (.inl rfl))))]
theorem zya (s:za) (w:Int) (x:zh) (h:(zo s w x).2.PC=6):(x.PC=6/\(zo s w x).2.G.Obj=x.G.Obj)\/(x.PC=5/\(zo s w x).2.G.Obj=xC s.H x.Obj x.Slot):=by
 revert h
 have hon:∀i,onW s i≠6:=fun i e=>by rcases zkq s i with h | h<;>omega
 have hlk:∀y:zh,(Yn s.P w y).PC≠6:=fun y e=>by unfold Yn at e;split at e<;>cases e
 unfold zo
 split
 ·rename_i h0
  dsimp only
  split
  ·exact fun e=>by cases e
  split
  ·exact fun e=>absurd e (hlk _)
  ·exact fun e=>by have e:x.PC=6:=e;omega
 split
 ·dsimp only
  split
  ·exact fun e=>by cases e
  split
  ·exact fun e=>by cases e
  ·exact fun e=>by have e:x.PC=6:=e;omega
 split
 ·exact fun e=>by cases e
 split
 ·dsimp only
  split
  ·exact fun e=>by cases e
  ·exact fun e=>by have e:x.PC=6:=e;omega
 split
 ·rename_i h5
  dsimp only
  split
  ·exact fun e=>absurd e (hon _)
  ·exact fun _=>.inr ⟨h5,rfl⟩
 split
 ·rename_i h6
  dsimp only
  split
  ·exact fun e=>absurd e (hon _)
  ·exact fun _=>.inl ⟨h6,(UE s x.G).1⟩
 split
 ·dsimp only
  split
  ·exact fun e=>by cases e
  ·exact fun e=>by cases e
 split
 ·exact fun e=>by cases e
 split
 ·exact fun e=>by cases e
 ·exact fun e=>.inl ⟨e,rfl⟩
end
end Go.Pe.G
namespace Go.Pe.G
open Go.Pe
noncomputable section
theorem zvW {o:Int}(h:1<=o/\o<=64) (j:Nat):(bit o).getLsbD j=decide ((o-1).toNat=j):=by
 unfold bit
 rw [if_pos h,<-BitVec.twoPow_eq,BitVec.getLsbD_twoPow,decide_eq_true (by omega:(o-1).toNat<64),zHK]
theorem xL (s:BitVec 64) (o:Int):z9 s o=true↔1<=o/\o<=64/\s.getLsbD (o-1).toNat=true:=by
 unfold z9
 rw [zG4,decide_eq_false_iff_not]
 by_cases h:1<=o/\o<=64
 ·constructor
  ·intro h1
   refine ⟨h.1,h.2,Classical.byContradiction (fun h2=>h1 ?_)⟩
   apply zIf
   intro j hj
   rw [zHZ,zvW h,zIg]
   by_cases e:(o-1).toNat=j
   ·rw [<-e];simp only [Bool.not_eq_true] at h2;rw [h2];rfl
   ·rw [decide_eq_false e,Bool.and_false]
  ·rintro ⟨_,_,h1⟩ h2
   have:=congrArg (fun v=>BitVec.getLsbD v (o-1).toNat) h2
   simp only [zHZ,zvW h,h1,zIg] at this
   simp at this
 ·constructor
  ·intro h1
   exact absurd (by unfold bit;rw [if_neg h,BitVec.and_zero]) h1
  ·rintro ⟨a,b,_⟩;exact absurd ⟨a,b⟩ h
theorem wR (s:BitVec 64) {o:Int}(h:1<=o/\o<=64) (q:Int):z9 (s|||bit o) q=true↔z9 s q=true\/q=o:=by
 rw [xL,xL,BitVec.getLsbD_or,zvW h]
 simp only [zHV,decide_eq_true_eq]
 constructor
 ·rintro ⟨a,b,c | c⟩
  ·exact .inl ⟨a,b,c⟩
  ·exact .inr (by omega)
 ·rintro (⟨a,b,c⟩ | rfl)
  ·exact ⟨a,b,.inl c⟩
  ·exact ⟨h.1,h.2,.inr rfl⟩
theorem zcG (s t:BitVec 64) (q:Int):z9 (s&&&t) q=true↔z9 s q=true/\z9 t q=true:=by
 rw [xL,xL,xL,zHZ]
 simp only [zGO]
 constructor
 ·rintro ⟨a,b,c,d⟩;exact ⟨⟨a,b,c⟩,a,b,d⟩
 ·rintro ⟨⟨a,b,c⟩,_,_,d⟩;exact ⟨a,b,c,d⟩
theorem zdg (q:Int): ¬z9 0#64 q=true:=by
 rw [xL,zIg];exact fun h=>by cases h.2.2
theorem zAa {s t:BitVec 64}(h:∀o,z9 s o=true↔z9 t o=true):s=t:=by
 apply zIf
 intro j hj
 have:=h ((j:Int)+1)
 rw [xL,xL,show ((j:Int)+1-1).toNat=j by omega] at this
 rw [Bool.eq_iff_iff]
 exact ⟨fun e=>(this.1 ⟨by omega,by omega,e⟩).2.2,fun e=>(this.2 ⟨by omega,by omega,e⟩).2.2⟩
theorem zdW {m:BitVec 64}{o:Int}(h:1<=o/\o<=64): ¬(m|||bit o=m)↔¬z9 m o=true:=by
 constructor
 ·intro h1 h2
  refine h1 (zAa (fun q=>?_))
  rw [wR _ h]
  exact ⟨fun e=>e.elim id (fun e=>by rw [e];exact h2),.inl⟩
 ·intro h1 h2
  refine h1 ?_
  rw [<-h2,wR _ h];exact .inr rfl
theorem WZ (t:zp) (o:Int):wQ t o=1↔z9 t.Marks o=true/\¬z9 t.Black o=true:=by
 unfold wQ
 by_cases h1:z9 (t.Marks&&&t.Black) o=true
 ·rw [if_pos h1]
  rw [zcG] at h1
  exact ⟨fun e=>(by cases e),fun e=>absurd h1.2 e.2⟩
 ·rw [if_neg h1]
  rw [zcG] at h1
  by_cases h2:z9 t.Marks o=true
  ·rw [if_pos h2];exact ⟨fun _=>⟨h2,fun e=>h1 ⟨h2,e⟩⟩,fun _=>rfl⟩
  ·rw [if_neg h2];exact ⟨fun e=>(by cases e),fun e=>absurd e.1 h2⟩
end
end Go.Pe.G
namespace Go.Pe.G
open Go.Pe
noncomputable section
theorem zsp {α:Type}{l:List α}{i:Nat}{x:α}(h:l[i]? =some x):∃a b,l=a++x::b/\(∀y,l.set i y=a++y::b)/\(∀z∈a++b,∃j,j≠i/\l[j]? =some z) /\
  (∀j z,j≠i->l[j]? =some z->z∈a++b):=by
 obtain ⟨hi,e⟩:=zG1.1 h
 have hl:(l.take i).length=i:=by rw [zHX];omega
 have el:l=l.take i++x::l.drop (i+1):=by
  conv=>lhs;rw [<-zIn i l,zHv hi,e]
 refine ⟨l.take i,l.drop (i+1),el,fun y=>?_,fun z hz=>?_,fun j z hj hz=>?_⟩
 ·rw [List.set_eq_take_append_cons_drop,if_pos hi]
 ·rcases zG8.1 hz with hz | hz
  ·obtain ⟨j,hj⟩:=List.mem_iff_getElem?.1 hz
   obtain ⟨hj1,hj2⟩:=zG1.1 hj
   have hj3:j<i:=by omega
   exact ⟨j,by omega,by rw [List.getElem?_take_of_lt hj3] at hj;exact hj⟩
  ·obtain ⟨j,hj⟩:=List.mem_iff_getElem?.1 hz
   exact ⟨i+1+j,by omega,by rw [List.getElem?_drop] at hj;exact hj⟩
 ·rw [el] at hz
  rcases zHl j i with h1 | h1
  ·rw [zHj (by omega)] at hz
   exact zHa _ (zGX hz)
  ·rw [zHo (by omega),hl] at hz
   rw [show j-i=(j-i-1)+1 by omega,zIx] at hz
   exact zHr _ (zGX hz)
theorem u9 {α β:Type}{f:α->List β}{a b:List α}{x:α}:List.Perm ((a++x::b).flatMap f) (f x++(a++b).flatMap f):=by
 rw [zHQ,zHB,zHQ]
 exact zHe _ _ _
theorem SX.perm {p:zb}{nb k:Nat}{s:za}{g:Gh}{o o':List Int}(X:SX p nb s g o k) (h:List.Perm o' o):SX p nb s g o' k :=
 ⟨X.S,⟨X.L.hs,X.L.cF,X.L.cE,(zG0 _ h).trans X.L.all,X.L.len⟩,X.D,X.v,X.dk⟩
theorem SX.state {p:zb}{nb k:Nat}{s s':za}{g:Gh}{o:List Int}(X:SX p nb s g o k) (S':SOk p nb s') (hm:s'.M=s.M):SX p nb s' g o k :=
 ⟨S',by rw [hm];exact X.L,by rw [hm];exact X.D,by rw [hm];exact X.v,X.dk⟩
theorem GX.state {p:zb}{s s':za}{gh:Gh}{g:zu}(G:GX p s gh g) (hm:s'.M=s.M) (hb:s'.Bins=s.Bins):GX p s' gh g :=
 ⟨G.o,G.pc,G.md,G.ob,G.c0,by rw [hm];exact G.c5,by rw [hm,hb];exact G.c7,by rw [hm];exact G.d3⟩
theorem WX.state {p:zb}{s s':za}{gh:Gh}{w:Int}{x:zh}(W:WX p s gh w x) (hm:s'.M=s.M) (hb:s'.Bins=s.Bins):WX p s' gh w x :=
 ⟨W.c0,W.bt,by rw [hm];exact W.p0,by rw [hm];exact W.p1,by rw [hm];exact W.p2,by rw [hm];exact W.p4,fun e=>⟨(W.p6 e).1.state hm hb,(W.p6 e).2⟩⟩
theorem zb4 {s s':za}{x:zh}(hm:s'.M=s.M) (hb:s'.Bins=s.Bins):zH s' x=zH s x:=by
 unfold zH UO ym;rw [hm,hb]
def zp8 (p:zb) (s:za) (g:Gh):List Int:=yo p s g++s.Ws.flatMap (zH s)
structure zap (B:List Int) (t:zp):Prop where
 blk:∀o,z9 t.Black o=true->z9 t.Marks o=true
 nd:B.Nodup
 gr:∀o,o∈B↔wQ t o=1
theorem ziR {t:zp}{o:Int}(h:wQ t o=1):1<=o/\o<=64:=by
 have:=(xL _ _).1 ((WZ t o).1 h).1
 exact ⟨this.1,this.2.1⟩
theorem zap.more {B B':List Int}{t:zp}{o:Int}(K:zap B t) (ho:1<=o/\o<=64) (hn: ¬(t.Marks|||bit o=t.Marks)) (h:List.Perm B' (o::B)):zap B' {t with Marks:=t.Marks|||bit o}:=by
 have hn:=(zdW ho).1 hn
 have hnb: ¬z9 t.Black o=true:=fun e=>hn (K.blk o e)
 have hno:o∉B:=fun e=>hn ((WZ t o).1 ((K.gr o).1 e)).1
 refine ⟨fun q hq=>(wR _ ho q).2 (.inl (K.blk q hq)),h.nodup_iff.2 (List.nodup_cons.2 ⟨hno,K.nd⟩),fun q=>?_⟩
 rw [h.mem_iff,zHc,K.gr,WZ,WZ]
 show q=o\/_↔z9 (t.Marks|||bit o) q=true/\¬z9 t.Black q=true
 rw [wR _ ho]
 constructor
 ·rintro (rfl | ⟨a,b⟩)
  ·exact ⟨.inr rfl,hnb⟩
  ·exact ⟨.inl a,b⟩
 ·rintro ⟨a | a,b⟩
  ·exact .inr ⟨a,b⟩
  ·exact .inl a
theorem zap.less {B B':List Int}{t:zp}{o:Int}(K:zap B t) (h:List.Perm (B'++[o]) B):zap B' (wJ t o)/\(wJ t o).Marks=t.Marks/\wQ t o=1/\∀q,z9 (wJ t o).Black q=true↔z9 t.Black q=true\/q=o:=by
 have ho:wQ t o=1:=(K.gr o).1 (h.mem_iff.1 (by simp))
 have hr:=ziR ho
 have hm:=((WZ t o).1 ho)
 have hnd:=h.nodup_iff.2 K.nd
 have hnd:=zH1.1 hnd
 unfold wJ
 rw [if_pos ho]
 refine ⟨⟨fun q hq=>?_,hnd.1,fun q=>?_⟩,rfl,ho,fun q=>wR _ hr q⟩
 ·rcases (wR _ hr q).1 hq with e | e
  ·exact K.blk q e
  ·rw [e];exact hm.1
 ·have e1:q∈B↔q∈B'\/q=o:=by rw [<-h.mem_iff,zG8,zHq]
  rw [K.gr,WZ] at e1
  rw [WZ]
  show _↔z9 t.Marks q=true/\¬z9 (t.Black|||bit o) q=true
  rw [wR _ hr]
  constructor
  ·intro hq
   have:=e1.2 (.inl hq)
   exact ⟨this.1,fun e=>e.elim this.2 (fun e=>hnd.2.2 q hq o (by simp) e)⟩
  ·rintro ⟨a,b⟩
   rcases e1.1 ⟨a,fun e=>b (.inl e)⟩ with e | e
   ·exact e
   ·exact absurd (.inr e) b
theorem HOk.get {p:zb}(hp:zB p) {h:zt}(H:HOk p h) (o i:Int):0<=xC h o i/\xC h o i<=64:=by
 have h1:=H.n
 have h2:p.Most<=64:=by have:=hp.most;have:=hp.n;omega
 unfold xC
 split
 ·unfold zX
  rw [zGS,zGS]
  cases hx:h.Objs[(o-1).toNat]? with
  | none=>show 0<=(([]:List Int)[i.toNat]?).getD 0/\_;simp
  | some l =>
   show 0<=(l[i.toNat]?).getD 0/\(l[i.toNat]?).getD 0<=64
   cases hv:l[i.toNat]? with
   | none=>show (0:Int)<=0/\(0:Int)<=64;decide
   | some v =>
    have:=(H.objs l (zGX hx)).2 v (zGX hv)
    show 0<=v/\v<=64;omega
 ·exact ⟨by decide,by decide⟩
structure WG (p:zb) (nb k:Nat) (s:za) (gh:Gh):Prop where
 E:EOk p nb s
 X:SX p nb s gh (s.Ws.flatMap we) k
 W:∀(i:Nat) x,s.Ws[i]? =some x->WX p s gh ((i:Int)+1) x
 B:zap (zp8 p s gh) s.T
def zEf (s s':za) (w:Int):Prop :=
 s'.T=s.T\/(∃x o,s.Ws[(w-1).toNat]? =some x/\x.PC=6/\o=x.G.Obj/\(1<=o/\o<=64)/\¬z9 s.T.Marks o=true/\s'.T={s.T with Marks:=s.T.Marks|||bit o}) \/
  (∃x,s.Ws[(w-1).toNat]? =some x/\x.PC=8/\wQ s.T x.Obj=1/\s'.T={s.T with Black:=s.T.Black|||bit x.Obj})
theorem WG.step {p:zb}(hp:zB p) {nb k:Nat}{s:za}{gh:Gh}(hk:k<4294960000) (G:WG p nb k s gh) {w:Int}(hw:1<=w/\w<=p.Workers) (hd:s.Done=false):∃gh',WG p nb (k+1) (yz s w) gh'/\zEf s (yz s w) w:=by
 have hE:=zsb hp G.E w
 have hwl:=G.E.wl
 have e0: ¬(s.Done=true\/w<1\/(s.Ws.length:Int)<w):=by rw [hd];rintro (e | e | e)<;>first | cases e | omega
 revert hE
 unfold yz
 rw [if_neg e0]
 have hi:(w-1).toNat<s.Ws.length:=by omega
 have hx:=zGP hi
 generalize s.Ws[(w-1).toNat]=x at hx
 rw [hx]
 dsimp only
 intro hE
 obtain ⟨a,b,el,es,hab,hba⟩:=zsp hx
 have ei:(((w-1).toNat:Nat):Int)+1=w:=by omega
 have hWX:=G.W _ x hx
 have hWO:=G.E.W _ x hx
 rw [ei] at hWX hWO
 have X0:SX p nb s gh (we x++(a++b).flatMap we) k:=G.X.perm (by rw [el];exact u9.symm)
 obtain ⟨gh',X',W',Fx,N,C,hN,hT⟩:=zEb hp hk hw X0 hWO hWX (fun o i=>G.E.H.get hp o i)
 have hoth:∀(j:Nat) y,j≠(w-1).toNat->s.Ws[j]? =some y->WX p (zo s w x).1 gh' ((j:Int)+1) y/\zH (zo s w x).1 y=zH s y:=by
  intro j y hj hy
  have hjl:=(zG1.1 hy).1
  exact WX.other hp (w:=(j:Int)+1) (by omega) X0 Fx (G.W j y hy) (G.E.W j y hy) (fun z hz=>zIh.2 ⟨y,hba j y hj hy,hz⟩) (fun e=>hj (by omega))
 have hbag:List.Perm (zp8 p {(zo s w x).1 with Ws:=s.Ws.set (w-1).toNat (zo s w x).2} gh'++C) (N++zp8 p s gh):=by
  unfold zp8
  have q1:yo p {(zo s w x).1 with Ws:=s.Ws.set (w-1).toNat (zo s w x).2} gh'=yo p (zo s w x).1 gh':=rfl
  have q2:(s.Ws.set (w-1).toNat (zo s w x).2).flatMap (zH {(zo s w x).1 with Ws:=s.Ws.set (w-1).toNat (zo s w x).2})=(a++(zo s w x).2::b).flatMap (zH (zo s w x).1):=by
   rw [es];exact xz (fun y _=>zb4 rfl rfl)
  have q3:(a++b).flatMap (zH (zo s w x).1)=(a++b).flatMap (zH s):=xz (fun y hy=>by
   obtain ⟨j,hj,hjy⟩:=hab y hy
   exact (hoth j y hj hjy).2)
  rw [q1]
  show List.Perm (yo p (zo s w x).1 gh'++(s.Ws.set (w-1).toNat (zo s w x).2).flatMap (zH {(zo s w x).1 with Ws:=s.Ws.set (w-1).toNat (zo s w x).2})++C) _
  rw [q2]
  have r1:List.Perm (yo p (zo s w x).1 gh'++(a++(zo s w x).2::b).flatMap (zH (zo s w x).1)++C) ((a++b).flatMap (zH s)++(yo p (zo s w x).1 gh'++zH (zo s w x).1 (zo s w x).2++C)):=by
   refine ((zG0 _ u9).append_right C).trans ?_
   rw [q3,zGR,zGR,zGR]
   refine (zHe _ _ _).trans ?_
   refine (zG0 _ (zHe _ _ _)).trans ?_
   refine (zHe _ _ _).trans (zG0 _ ?_)
   exact zHe _ _ _
  have r2:List.Perm (N++(yo p s gh++s.Ws.flatMap (zH s))) ((a++b).flatMap (zH s)++(N++(yo p s gh++zH s x))):=by
   conv=>lhs;rw [el]
   refine (zG0 _ (zG0 _ u9)).trans ?_
   refine (zG0 _ ?_).trans (zHe _ _ _)
   rw [<-zGR]
   exact zHx
  exact r1.trans ((zG0 _ hN).trans r2.symm)
 have fin:zap (zp8 p {(zo s w x).1 with Ws:=s.Ws.set (w-1).toNat (zo s w x).2} gh') (zo s w x).1.T->WG p nb (k+1) {(zo s w x).1 with Ws:=s.Ws.set (w-1).toNat (zo s w x).2} gh':=by
  intro hB
  refine ⟨hE,?_,fun j y hy=>?_,hB⟩
  ·refine (X'.state hE.S rfl).perm ?_
   show List.Perm ((s.Ws.set (w-1).toNat (zo s w x).2).flatMap we) _
   rw [es];exact u9
  ·have hy:(s.Ws.set (w-1).toNat (zo s w x).2)[j]? =some y:=hy
   by_cases hj:j=(w-1).toNat
   ·subst hj
    rw [zIs hi] at hy
    injection hy with hy
    rw [<-hy,ei]
    exact W'.state rfl rfl
   ·rw [zHu (fun e=>hj e.symm)] at hy
    exact (hoth j y hj hy).1.state rfl rfl
 refine ⟨gh',?_⟩
 rcases hT with ⟨rfl,rfl,t1⟩ | ⟨rfl,rfl,t1,t2,t3⟩ | ⟨rfl,rfl,t1,t2⟩
 ·rw [zGQ,zGY] at hbag
  refine ⟨fin ⟨?_,hbag.nodup_iff.2 G.B.nd,fun o=>?_⟩,.inl t1⟩
  ·rw [t1];exact G.B.blk
  ·rw [t1,hbag.mem_iff];exact G.B.gr o
 ·have ho:=((hWX.p6 t1).1).ob
  rw [zGQ] at hbag
  refine ⟨fin ?_,.inr (.inl ⟨x,x.G.Obj,hx,t1,rfl,ho,(zdW ho).1 t2,t3⟩)⟩
  rw [t3]
  exact G.B.more ho t2 hbag
 ·rw [zGY] at hbag
  obtain ⟨b1,b2,b3,b4⟩:=G.B.less hbag
  refine ⟨fin ?_,.inr (.inr ⟨x,hx,t1,b3,?_⟩)⟩
  ·rw [t2];exact b1
  ·show (zo s w x).1.T=_
   rw [t2];unfold wJ;rw [if_pos b3]
end
end Go.Pe.G
namespace Go.Pe.G
open Go.Pe
noncomputable section
theorem zok {N:Int}{nb:Nat}(hN:0<=N/\N<1000) (hnb:nb<1000):∀(l:List Int) (m:List (BitVec 64)) (a:Int),(∀x∈l,1<=x/\x<nb)->(∀x∈l,a≠N+x)->ld (links m N l) a=ld m a
 | [],m,a,_,_=>rfl
 | [x],m,a,h,h2=>by
  have:=h x (by simp)
  have:=h2 x (by simp)
  rw [links,xu (by omega) (by omega)]
  exact yq (by omega)
 | x::y::l,m,a,h,h2=>by
  have:=h x (by simp)
  have:=h2 x (by simp)
  rw [links,zok hN hnb (y::l) _ a (fun z hz=>h z (zGW _ hz)) (fun z hz=>h2 z (zGW _ hz)),xu (by omega) (by omega)]
  exact yq (by omega)
theorem zpQ {N:Int}{nb:Nat}(hN:0<=N/\N<1000) (hnb:nb<1000):∀(l:List Int) (m:List (BitVec 64)),(∀x∈l,1<=x/\x<nb)->l.Nodup->N+nb<=m.length->Chn (links m N l) N nb (l.headD 0) l
 | [],m,_,_,_=>rfl
 | [x],m,h,_,hl=>by
  have:=h x (by simp)
  refine ⟨rfl,this.1,this.2,?_⟩
  rw [links,xu (by omega) (by omega),Wp,if_pos ⟨rfl,by omega,by omega⟩]
  rfl
 | x::y::l,m,h,hd,hl=>by
  have hx:=h x (by simp)
  have hy:=h y (by simp)
  have hd:=List.nodup_cons.1 hd
  refine ⟨rfl,hx.1,hx.2,?_⟩
  have ih:=zpQ hN hnb (y::l) (st m (wc (N+x)) (BitVec.ofInt 64 y)) (fun z hz=>h z (zGW _ hz)) hd.2 (by rw [ZK];exact hl)
  rw [links,zok hN hnb (y::l) _ (N+x) (fun z hz=>h z (zGW _ hz)) (fun z hz e=>hd.1 (by rw [znK e] at hz;exact hz)),xu (by omega) (by omega),Wp,if_pos ⟨rfl,by omega,by omega⟩,toInt_ofInt (by omega) (by omega)]
  rw [xu (by omega) (by omega)] at ih
  exact ih
theorem Chn.links {N:Int}{nb:Nat}(hN:0<=N/\N<1000) (hnb:nb<1000) {l r:List Int}{h:Int}{m:List (BitVec 64)}(hr:∀x∈r,1<=x/\x<nb) (hd:∀x∈l,x∉r) (c:Chn m N nb h l):Chn (Go.Pe.G.links m N r) N nb h l:=by
 induction l generalizing h with
 | nil=>exact c
 | cons y l ih =>
  refine ⟨c.1,c.2.1,c.2.2.1,?_⟩
  rw [zok hN hnb r m (N+y) hr (fun z hz e=>hd y (by simp) (by rw [znK e] at hz;exact hz))]
  exact ih (fun x hx=>hd x (zGW _ hx)) c.2.2.2
theorem zzd {l:List Int}{nb:Nat}(h:∀x∈l,1<=x/\x<nb) (hnb:nb<1000):0<=l.headD 0/\l.headD 0<4294967296:=by
 cases l with
 | nil=>exact ⟨by decide,by decide⟩
 | cons a r=>have:=h a (by simp);show 0<=a/\a<4294967296;omega
theorem zCV {p:zb}(h:zB p):LI p (zS p+1) (yv p).M (zY p) (zD p) ((xn (zS p)).take (yV p).length) ((xn (zS p)).drop (yV p).length) []/\xg (ld (yv p).M (zY p))=0/\xg (ld (yv p).M (zD p))=0:=by
 have hb:=zcM h
 have hF:=Zk h
 have hE:=wm h
 have hcl:=UK p p.Workers.toNat
 have hw:=h.wk
 have hc:=h.cap
 have hfe:zY p=((p.Workers.toNat*(p.Cap.toNat+2):Nat):Int):=by
  rw [hF.1]
  have e1:p.Workers=((p.Workers.toNat:Nat):Int):=by omega
  have e2:p.Cap+2=((p.Cap.toNat+2:Nat):Int):=by omega
  rw [e2,Int.natCast_mul]
  rw [<-e1]
 have hN:0<=zD p/\zD p<1000:=by omega
 have hnb:zS p+1<1000:=by omega
 generalize hk:(yV p).length=k
 have t1:∀x∈(xn (zS p)).take k,1<=x/\x<((zS p+1:Nat):Int):=fun x hx=>by have:=zfT (zIi hx);omega
 have t2:∀x∈(xn (zS p)).drop k,1<=x/\x<((zS p+1:Nat):Int):=fun x hx=>by have:=zfT (List.mem_of_mem_drop hx);omega
 have nd:((xn (zS p)).take k++(xn (zS p)).drop k).Nodup:=by rw [zIn];exact zrI (zS p+1)
 have nd3:=zH1.1 nd
 have eM:(yv p).M=zcU (zcU (YA p p.Workers.toNat++List.replicate (2+zS p) 0#64) (zY p) (zD p) ((xn (zS p)).take k)) (zD p) (zD p) ((xn (zS p)).drop k):=by rw [<-hk];rfl
 rw [eM]
 generalize hm0:YA p p.Workers.toNat++List.replicate (2+zS p) 0#64=m0
 have l0:zD p+((zS p+1:Nat):Int)<=m0.length:=by
  rw [<-hm0,zGV,hcl,zHD];omega
 have p1:=zzd t1 hnb
 have p2:=zzd t2 hnb
 have v0:∀n:Int,0<=n->n<4294967296->xg (xd 0#64 n)=0:=fun n h1 h2=>by
  unfold xg;rw [ztE _ h1 h2];show (0*4294967296+n.toNat)/4294967296=0;omega
 have c1:=zpQ hN hnb _ m0 t1 nd3.1 l0
 generalize hm1:links m0 (zD p) ((xn (zS p)).take k)=m1 at c1
 have l1:m1.length=m0.length:=by rw [<-hm1,zdh]
 have c1':=(c1.st_head h (a:=zY p) (v:=xd 0#64 (((xn (zS p)).take k).headD 0)) (.inl rfl)).links hN hnb t2 (fun x hx hx2=>nd3.2.2 x hx x hx2 rfl)
 have c2:=zpQ hN hnb _ (st m1 (zY p) (xd 0#64 (((xn (zS p)).take k).headD 0))) t2 nd3.2.1 (by rw [ZK,l1];exact l0)
 have hd1:ld (links (st m1 (zY p) (xd 0#64 (((xn (zS p)).take k).headD 0))) (zD p) ((xn (zS p)).drop k)) (zY p)=xd 0#64 (((xn (zS p)).take k).headD 0):=by
  rw [zok hN hnb _ _ _ t2 (fun x hx=>by have:=t2 x hx;omega),Wp,if_pos ⟨rfl,by omega,by omega⟩]
 unfold zcU
 rw [hm1]
 generalize hm2:links (st m1 (zY p) (xd 0#64 (((xn (zS p)).take k).headD 0))) (zD p) ((xn (zS p)).drop k)=m2 at c1' c2 hd1
 have l2:m2.length=m0.length:=by rw [<-hm2,zdh,ZK,l1]
 have g1:ld (st m2 (zD p) (xd 0#64 (((xn (zS p)).drop k).headD 0))) (zY p)=xd 0#64 (((xn (zS p)).take k).headD 0):=by rw [yq (by omega),hd1]
 have g2:ld (st m2 (zD p) (xd 0#64 (((xn (zS p)).drop k).headD 0))) (zD p)=xd 0#64 (((xn (zS p)).drop k).headD 0):=by rw [Wp,if_pos ⟨rfl,by omega,by omega⟩]
 refine ⟨⟨.inl ⟨rfl,rfl⟩,?_,?_,?_,by rw [ZK,l2];exact l0⟩,?_,?_⟩
 ·rw [g1,zc9 _ p1.1 p1.2]
  exact c1'.st_head h (.inr rfl)
 ·rw [g2,zc9 _ p2.1 p2.2]
  exact c2.st_head h (.inr rfl)
 ·rw [zGQ,zIn]
  exact zHd _
 ·rw [g1];exact v0 _ p1.1 p1.2
 ·rw [g2];exact v0 _ p2.1 p2.2
end
end Go.Pe.G
namespace Go.Pe.G
open Go.Pe
noncomputable section
theorem zqE {N:Int}(hN:0<=N/\N<1000):∀(l:List Int) (m:List (BitVec 64)) (a:Int),(∀x∈l,1<=x/\x<1000)->a<=N->ld (links m N l) a=ld m a
 | [],m,a,_,_=>rfl
 | [x],m,a,h,h2=>by
  have:=h x (by simp)
  rw [links,xu (by omega) (by omega)]
  exact yq (by omega)
 | x::y::l,m,a,h,h2=>by
  have:=h x (by simp)
  rw [links,zqE hN (y::l) _ a (fun z hz=>h z (zGW _ hz)) h2,xu (by omega) (by omega)]
  exact yq (by omega)
theorem zE4 {p:zb}(h:zB p) {a:Int}(ha:a<zY p):ld (yv p).M a=ld (YA p p.Workers.toNat++List.replicate (2+zS p) 0#64) a:=by
 have hb:=zcM h
 have hF:=Zk h
 have hE:=wm h
 have t1:∀x∈(xn (zS p)).take (yV p).length,1<=x/\x<1000:=fun x hx=>by have:=zfT (zIi hx);omega
 have t2:∀x∈(xn (zS p)).drop (yV p).length,1<=x/\x<1000:=fun x hx=>by have:=zfT (List.mem_of_mem_drop hx);omega
 show ld (zcU (zcU _ (zY p) (zD p) _) (zD p) (zD p) _) a=_
 unfold zcU
 rw [yq (by omega),zqE (by omega) _ _ _ t2 (by omega),yq (by omega),zqE (by omega) _ _ _ t1 (by omega)]
theorem zwF (p:zb):∀(k i j:Nat),i<k->j<p.Cap.toNat+2->(YA p k)[i*(p.Cap.toNat+2)+j]? =(zgC p.Cap)[j]?
 | 0,i,j,h,_=>by omega
 | k+1,i,j,h,hj=>by
  rw [zmx]
  have hl:=UK p k
  rcases zHl i k with h1 | h1
  ·have h2:=zHN (p.Cap.toNat+2) (show i+1<=k from h1)
   rw [Nat.succ_mul] at h2
   rw [zHj (by omega)]
   exact zwF p k i j h1 hj
  ·have:i=k:=by omega
   subst this
   rw [zHo (by omega),hl,show i*(p.Cap.toNat+2)+j-i*(p.Cap.toNat+2)=j by omega]
theorem zyl {p:zb}(h:zB p) {w:Int}(hw:1<=w/\w<=p.Workers) {j:Nat}(hj:j<2):ld (yv p).M (zJ p w+j)=1#64:=by
 have hd:=Ya h hw.1 hw.2
 have hc:=h.cap
 have hl:=UK p p.Workers.toNat
 have hlt:(w-1).toNat<p.Workers.toNat:=by omega
 have e1:(zJ p w+j).toNat=(w-1).toNat*(p.Cap.toNat+2)+j:=by
  obtain ⟨n,hn⟩:∃n:Nat,w-1=(n:Int):=⟨(w-1).toNat,by omega⟩
  have e2:p.Cap+2=((p.Cap.toNat+2:Nat):Int):=by omega
  rw [hd.1,hn,e2,<-Int.natCast_mul,zHw]
  omega
 have h2:=zHN (p.Cap.toNat+2) (show (w-1).toNat+1<=p.Workers.toNat from hlt)
 rw [Nat.succ_mul] at h2
 rw [zE4 h (by omega)]
 unfold ld
 rw [if_pos (by omega),e1,zGS,zHj (by omega),zwF p _ _ _ hlt (by omega)]
 unfold zgC
 match j,hj with
 | 0,_=>rfl
 | 1,_=>rfl
theorem zrN (n:Nat) (hn:1<=n):∀(f:Nat) (l:List Int),l.length<=f->(vo n f l).flatten=l
 | 0,l,h=>by
  have:l=[]:=List.length_eq_zero_iff.1 (by omega)
  subst this;simp [vo]
 | f+1,[],_=>by simp [vo]
 | f+1,x::l,h=>by
  have:=zrN n hn f ((x::l).drop n) (by rw [zH4];simp at h ⊢;omega)
  simp only [vo,List.flatten_cons] at this ⊢
  rw [this,zIn]
theorem zCg {α:Type}(l:List (List α)):(List.range l.length).flatMap (fun i:Nat=>(l[i]?).getD [])=l.flatten:=by
 rw [List.flatMap_def]
 congr 1
 apply List.ext_getElem
 ·simp
 ·intro i h1 h2
  simp [zGP h2]
def gh0 (p:zb):Gh:=⟨(xn (zS p)).take (yV p).length,(xn (zS p)).drop (yV p).length,fun _=>[],fun _=>1,fun _=>0⟩
theorem zaO {α β:Type}{f:α->List β}:∀ {l:List α},(∀x∈l,f x=[])->l.flatMap f=[]
 | [],_=>rfl
 | a::l,h=>by rw [zHB,h a (by simp),zaO (fun x hx=>h x (zGW _ hx))];rfl
theorem zAb {p:zb}(h:zB p):yo p (yv p) (gh0 p)=Wo (Yc p):=by
 have hb:=h.bin
 have hfl:=zoa h
 have hbs:=zcM h
 have hmost:=h.most
 have hw:=h.wk
 have hm:=h.mt
 have e1:yo p (yv p) (gh0 p)=((xn (zS p)).take (yV p).length).flatMap (ym (yv p)):=by
  show ((xn (zS p)).take (yV p).length).flatMap (ym (yv p))++(List.range p.Workers.toNat).flatMap (fun _=>([]:List Int))=_
  rw [zaO (f:=fun _=>([]:List Int)) (fun _ _=>rfl),zGQ]
 have e2:(xn (zS p)).take (yV p).length=(List.range (yV p).length).map (fun i:Nat=>(i:Int)+1):=by
  unfold xn
  rw [<-List.map_take,List.take_range,Nat.min_eq_left (by omega)]
 rw [e1,e2,List.flatMap_map]
 have e3:(List.range (yV p).length).flatMap (fun i:Nat=>ym (yv p) ((i:Int)+1))=(List.range (yV p).length).flatMap (fun i:Nat=>((yV p)[i]?).getD []):=by
  refine xz (fun i hi=>?_)
  have hi:=zHk.1 hi
  unfold ym
  show (([[]]++yV p++List.replicate (zS p-(yV p).length) [])[((i:Int)+1).toNat]?).getD []=_
  rw [show ((i:Int)+1).toNat=i+1 by omega,zGR]
  show ((yV p++List.replicate (zS p-(yV p).length) [])[i]?).getD []=_
  rw [zHj hi]
 rw [e3,zCg]
 exact zrN _ (by omega) _ _ (zGT _)
theorem zzl (s:BitVec 64):(Wo s).Nodup:=by
 unfold Wo
 rw [List.Nodup,List.pairwise_map]
 exact (List.nodup_range.filter _).imp (fun h e=>h (by omega))
theorem zBo {s:BitVec 64}(h:s&&& ~~~63#64=0#64) {j:Nat}(hs:s.getLsbD j=true):j<6:=by
 have hj:j<64:=BitVec.lt_of_getLsbD hs
 have:=congrArg (fun x=>x.getLsbD j) h
 simp only [zHZ,zIq,hs,hj,decide_true,zHK,zIg] at this
 have h63:(63#64).getLsbD j=decide (j<6):=by
  have:∀j:Fin 64,(63#64).getLsbD j.1=decide (j.1<6):=by decide
  exact this ⟨j,hj⟩
 rw [h63] at this
 by_cases e:j<6
 ·exact e
 ·rw [decide_eq_false e] at this;cases this
theorem zCR {s:BitVec 64}(h:s&&& ~~~63#64=0#64) (o:Int):o∈Wo s↔z9 s o=true:=by
 unfold Wo
 rw [xL,zG3]
 constructor
 ·rintro ⟨i,hi,rfl⟩
  obtain ⟨h1,h2⟩:=List.mem_filter.1 hi
  have:=zHk.1 h1
  exact ⟨by omega,by omega,by rw [show ((i:Int)+1-1).toNat=i by omega];exact h2⟩
 ·rintro ⟨h1,h2,h3⟩
  exact ⟨(o-1).toNat,List.mem_filter.2 ⟨zHk.2 (zBo h h3),h3⟩,by omega⟩
theorem zFl {p:zb}(h:zB p):WG p (zS p+1) 0 (yv p) (gh0 p):=by
 have hE:=zCL h
 obtain ⟨L,v1,v2⟩:=zCV h
 have hc:=h.cap
 have hws:∀x∈(yv p).Ws,∃i:Nat,x=ux p i:=fun x hx=>by
  obtain ⟨i,_,rfl⟩:=zG3.1 (show x∈(List.range p.Workers.toNat).map (ux p) from hx)
  exact ⟨i,rfl⟩
 have hb:∀i:Nat,ux p i=VN p ((i:Int)+1) (ux p i):=fun i=>rfl
 have own:(yv p).Ws.flatMap we=[]:=zaO (fun x hx=>by
  obtain ⟨i,rfl⟩:=hws x hx
  exact vZ (by show (0:Int)≠3;decide) (by show (0:Int)≠4;decide) (by show (0:Int)≠6;decide))
 have hold:(yv p).Ws.flatMap (zH (yv p))=[]:=zaO (fun x hx=>by
  obtain ⟨i,rfl⟩:=hws x hx
  unfold zH
  rw [hb i,ziZ];rfl)
 refine ⟨hE,⟨hE.S,by rw [own];exact L,fun w h1 h2=>?_,?_,fun w _ _=>by show 1+0<=0+1000;decide⟩,fun i x hx=>?_,?_⟩
 ·have c0:=zyl h ⟨h1,h2⟩ (j:=0) (by decide)
  have c1:=zyl h ⟨h1,h2⟩ (j:=1) (by decide)
  rw [show zJ p w+((0:Nat):Int)=zJ p w by omega] at c0
  exact ⟨c0,c1,by show (0:Nat)<=1;decide,by show (1:Nat)<=1;decide,zHO _,by show 1+0<4294967296;decide,fun i hi=>absurd hi (Nat.not_lt_zero _)⟩
 ·rw [v1,v2];exact ⟨zGT _,zGT _⟩
 ·have hx:((List.range p.Workers.toNat).map (ux p))[i]? =some x:=hx
  rw [zHh] at hx
  cases hr:(List.range p.Workers.toNat)[i]? with
  | none=>rw [hr] at hx;cases hx
  | some j =>
   rw [hr] at hx
   injection hx with hx
   obtain ⟨h1,h2⟩:=zG1.1 hr
   rw [List.getElem_range] at h2
   subst h2
   rw [<-hx,hb i]
   exact WX.begin rfl rfl
 ·have hs:=zgi h
  unfold zp8
  rw [hold,zGQ,zAb h]
  refine ⟨fun o ho=>absurd ho (zdg o),zzl _,fun o=>?_⟩
  rw [zCR hs,WZ]
  exact ⟨fun e=>⟨e,zdg o⟩,fun e=>e.1⟩
theorem zwc (n:Nat) (hn:1<=n):∀(f:Nat) (l c:List Int),c∈vo n f l->c≠[]
 | 0,l,c,h=>by simp [vo] at h
 | f+1,[],c,h=>by simp [vo] at h
 | f+1,x::l,c,h=>by
  simp only [vo,zHc] at h
  rcases h with h | h
  ·rw [h]
   match n,hn with
   | m+1,_=>exact List.cons_ne_nil _ _
  ·exact zwc n hn f _ c h
theorem zFu {p:zb}(h:zB p):∀y∈(gh0 p).F,ym (yv p) y≠[]:=by
 intro y hy
 have hb:=h.bin
 have hfl:=zoa h
 have hbs:=zcM h
 have hmost:=h.most
 have hw:=h.wk
 have hm:=h.mt
 have hy:y∈(xn (zS p)).take (yV p).length:=hy
 have e2:(xn (zS p)).take (yV p).length=(List.range (yV p).length).map (fun i:Nat=>(i:Int)+1):=by
  unfold xn
  rw [<-List.map_take,List.take_range,Nat.min_eq_left (by omega)]
 rw [e2] at hy
 obtain ⟨i,hi,rfl⟩:=zG3.1 hy
 have hi:=zHk.1 hi
 unfold ym
 show (([[]]++yV p++List.replicate (zS p-(yV p).length) [])[((i:Int)+1).toNat]?).getD []≠[]
 rw [show ((i:Int)+1).toNat=i+1 by omega,zGR]
 show ((yV p++List.replicate (zS p-(yV p).length) [])[i]?).getD []≠[]
 rw [zHj hi,zGP hi]
 exact zwc _ (by omega) _ _ _ (zHn hi)
end
end Go.Pe.G
namespace Go.Pe.G
open Go.Pe
noncomputable section
def noD (base cap:Int):zd:=⟨0,0,base,cap,0#64,0#64,0,0⟩
def zje (o:zd):Prop:=o.Kind=2/\o.Out=0/\(o.PC=2\/o.PC=4\/o.PC=5\/(o.PC=3/\o.T=o.B-1#64))
instance (o:zd):Decidable (zje o):=by unfold zje;infer_instance
def zfB (m:List (BitVec 64)) (base:Int) (o:zd):BitVec 64:=if zje o then ld m (wc (base+1))+1#64 else ld m (wc (base+1))
def YL (m:List (BitVec 64)) (base cap:Int) (top:BitVec 64) (n:Nat):List Int:=(List.range n).map (fun j:Nat=>(ld m (YG (noD base cap) (top+BitVec.ofNat 64 j))).toInt)
def XV (m:List (BitVec 64)) (base cap:Int) (o:zd):List Int :=
 if ¬0<(zfB m base o-ld m base).toInt\/(min (ua (noD base cap)).toNat 64)<(zfB m base o-ld m base).toNat then []
 else YL m base cap (ld m base) (zfB m base o-ld m base).toNat
theorem zEX {p:zb}(h:zB p) (b:Int):(ua (noD b p.Cap)).toNat=p.Cap.toNat:=by
 have hc:=h.cap
 have hx:p.Cap=1\/p.Cap=2\/p.Cap=3:=by omega
 unfold ua noD
 rcases hx with e | e | e<;>simp only [e]<;>decide
theorem zAd {a b:Nat}(h:b<=a) (h2:a<4294967296):BitVec.ofNat 64 a-BitVec.ofNat 64 b=BitVec.ofNat 64 (a-b):=zgX h (by omega)
theorem zyM {p:zb}(h:zB p) {m:List (BitVec 64)}{w:Int}{t c:Nat}{l:List Int}{o:zd}(hw:1<=w/\w<=p.Workers) (D:DQ p m w t l c) (he:zfB m (zJ p w) o=BitVec.ofNat 64 (t+l.length)):XV m (zJ p w) p.Cap o=l:=by
 have hs:=D.small
 have hcap:=D.cap
 have hc:=h.cap
 have ed:zfB m (zJ p w) o-ld m (zJ p w)=BitVec.ofNat 64 l.length:=by
  rw [he,D.top,zAd (by omega) hs];congr 1;omega
 unfold XV
 rw [ed,Zx (by omega),zEX h]
 by_cases hl:l=[]
 ·subst hl
  rw [if_pos (.inl (by decide))]
 ·have hpos:0<l.length:=List.length_pos_iff.2 hl
  have:0<(BitVec.ofNat 64 l.length).toInt:=by
   have:=(zgy (a:=t+l.length) (b:=t) hs (by omega)).2 (by omega)
   rw [zAd (by omega) hs] at this
   rwa [show t+l.length-t=l.length by omega] at this
  rw [if_neg (by omega)]
  unfold YL
  apply List.ext_getElem
  ·simp
  ·intro i h1 h2
   rw [List.getElem_map,List.getElem_range,D.top,zc2 (by omega),zgr h hw rfl rfl (by omega),D.cell i h2]
theorem zCk {p:zb}(h:zB p) {m:List (BitVec 64)}{w:Int}{t c:Nat}{o:zd}(D:DQ p m w t [] c) (he:zfB m (zJ p w) o=BitVec.ofNat 64 (t-1)):XV m (zJ p w) p.Cap o=[]:=by
 have hs:=D.small
 unfold XV
 refine if_pos (.inl (fun e=>?_))
 rw [he,D.top] at e
 have:=(zgy (by have:t+0<4294967296:=hs;omega) (by have:t+0<4294967296:=hs;omega)).1 e
 omega
theorem zx1 {p:zb}(h:zB p) {w:Int}(hw:1<=w/\w<=p.Workers):wc (zJ p w+1)=zJ p w+1:=by
 have hd:=Ya h hw.1 hw.2
 have hf:=Zk h
 have hc:=h.cap
 exact xu (by omega) (by omega)
theorem znT {p:zb}(h:zB p) {m:List (BitVec 64)}{w:Int}{t:Nat}{l:List Int}{o:zd}(hw:1<=w/\w<=p.Workers) (D:DQ p m w t l 0) (ho: ¬zje o):XV m (zJ p w) p.Cap o=l:=by
 refine zyM h hw D ?_
 unfold zfB
 rw [if_neg ho,zx1 h hw,D.bot];rfl
theorem zBK {p:zb}(h:zB p) {m:List (BitVec 64)}{w:Int}{t c:Nat}{l:List Int}{o:zd}(hw:1<=w/\w<=p.Workers) (D:DQ p m w t l c) (K:PK p m w t l c o):XV m (zJ p w) p.Cap o=l:=by
 have hs:=D.small
 have ht:=D.t1
 have hpc:=K.pc
 by_cases h1:zje o
 ·have hc:c=1:=by
   rcases h1.2.2 with e | e | e | ⟨e,e2⟩
   ·exact K.c1 (.inl e)
   ·exact K.c1 (.inr (by omega))
   ·exact K.c1 (.inr (by omega))
   ·exact K.c3 e e2
  subst hc
  refine zyM h hw D ?_
  unfold zfB
  rw [if_pos h1,zx1 h hw,D.bot,show (1#64:BitVec 64)=BitVec.ofNat 64 1 from rfl,zc2 (by omega)]
  congr 1;omega
 ·have hn: ¬(o.PC=2\/o.PC=4\/o.PC=5\/(o.PC=3/\o.T=o.B-1#64)):=fun e=>h1 ⟨K.kind,K.out,e⟩
  by_cases h6:o.PC=6
  ·have hl:=K.e5 (by omega)
   have hc:=K.c1 (.inr (by omega))
   subst hl;subst hc
   refine zCk h D ?_
   unfold zfB
   rw [if_neg h1,zx1 h hw,D.bot];rfl
  ·have hc:c=0:=by
    by_cases h3:o.PC=3
    ·exact (K.n3 h3 (fun e=>hn (.inr (.inr (.inr ⟨h3,e⟩))))).1
    ·exact K.c0 (by omega)
   subst hc
   exact znT h hw D h1
end
end Go.Pe.G
namespace Go.Pe.G
open Go.Pe
noncomputable section
theorem zFM {s:BitVec 64}(h:∀o,z9 s o=true->o<=9):∃t:Fin 512,s=BitVec.ofNat 64 t.1:=by
 have h2:s=s&&&511#64:=by
  apply zIf
  intro j hj
  rw [zHZ]
  have h63:(511#64).getLsbD j=decide (j<9):=by
   have:∀j:Fin 64,(511#64).getLsbD j.1=decide (j.1<9):=by decide
   exact this ⟨j,hj⟩
  rw [h63]
  cases hs:s.getLsbD j with
  | false=>rfl
  | true =>
   have:=h ((j:Int)+1) ((xL _ _).2 ⟨by omega,by omega,by rw [show ((j:Int)+1-1).toNat=j by omega];exact hs⟩)
   rw [decide_eq_true (by omega:j<9)];rfl
 have h3:s.toNat<512:=by
  rw [h2,zH0]
  exact zIr Nat.and_le_right (by decide)
 exact ⟨⟨s.toNat,h3⟩,by rw [BitVec.ofNat_toNat,BitVec.setWidth_eq]⟩
theorem zsm (s:BitVec 64) {q:Int}(h:1<=q/\q<=64):z9 (~~~s) q=true↔¬z9 s q=true:=by
 rw [xL,xL,zIq]
 simp only [show (q-1).toNat<64 by omega,decide_true,zHK,zG4]
 constructor
 ·rintro ⟨_,_,e⟩ ⟨_,_,e2⟩;rw [e] at e2;cases e2
 ·intro e
  refine ⟨h.1,h.2,?_⟩
  cases hs:s.getLsbD (q-1).toNat with
  | false=>rfl
  | true=>exact absurd ⟨h.1,h.2,hs⟩ e
end
end Go.Pe.G
namespace Go.Pe.G
open Go.Pe
noncomputable section
structure zDZ (s:za):Prop where
 mks:∀o,z9 s.T.Marks o=true->o<=9
 ob:∀(i:Nat) x,s.Ws[i]? =some x->x.PC=6->x.G.Obj<=9
theorem HOk.get9 {p:zb}(hp:zB p) {h:zt}(H:HOk p h) (o i:Int):xC h o i<=9:=by
 have h1:=H.n
 have h2:p.Most<=9:=by have:=hp.most;have:=hp.n;omega
 unfold xC
 split
 ·unfold zX
  rw [zGS,zGS]
  cases hx:h.Objs[(o-1).toNat]? with
  | none=>show (([]:List Int)[i.toNat]?).getD 0<=9;simp
  | some l =>
   show (l[i.toNat]?).getD 0<=9
   cases hv:l[i.toNat]? with
   | none=>show (0:Int)<=9;decide
   | some v =>
    have:=(H.objs l (zGX hx)).2 v (zGX hv)
    show v<=9;omega
 ·decide
theorem zDZ.step {p:zb}(hp:zB p) {nb k:Nat}{s:za}{gh:Gh}(L:zDZ s) (G:WG p nb k s gh) {w:Int}(hw:1<=w/\w<=p.Workers) (hd:s.Done=false) (T:zEf s (yz s w) w):zDZ (yz s w):=by
 have hwl:=G.E.wl
 refine ⟨fun o ho=>?_,fun i y hy h6=>?_⟩
 ·rcases T with e | ⟨x,q,hx,h6,rfl,hr,hn,e⟩ | ⟨x,hx,h8,h1,e⟩
  ·rw [e] at ho;exact L.mks o ho
  ·rw [e] at ho
   rcases (wR _ hr o).1 ho with e | e
   ·exact L.mks o e
   ·rw [e];exact L.ob _ x hx h6
  ·rw [e] at ho;exact L.mks o ho
 ·have e0: ¬(s.Done=true\/w<1\/(s.Ws.length:Int)<w):=by rw [hd];rintro (e | e | e)<;>first | cases e | omega
  have hi:(w-1).toNat<s.Ws.length:=by omega
  have hx:=zGP hi
  generalize s.Ws[(w-1).toNat]=x at hx
  unfold yz at hy
  rw [if_neg e0,hx] at hy
  have hy:(s.Ws.set (w-1).toNat (zo s w x).2)[i]? =some y:=hy
  by_cases hj:i=(w-1).toNat
  ·subst hj
   rw [zIs hi] at hy
   injection hy with hy
   subst hy
   rcases zya s w x h6 with ⟨a,b⟩ | ⟨a,b⟩
   ·rw [b];exact L.ob _ x hx a
   ·rw [b];exact G.E.H.get9 hp _ _
  ·rw [zHu (fun e=>hj e.symm)] at hy
   exact L.ob i y hy h6
theorem zqr {α β:Type}{f g:α->List β}:∀(l:List α),List.Perm (l.flatMap (fun x=>f x++g x)) (l.flatMap f++l.flatMap g)
 | []=>zHd _
 | a::l=>by
  rw [zHB,zHB,zHB]
  refine (zG0 _ (zqr l)).trans ?_
  simp only [zGR]
  exact zG0 _ (zHe _ _ _)
theorem zim {α β:Type}{f:α->List β}(l:List α):(List.range l.length).flatMap (fun i:Nat=>(l[i]?).elim [] f)=l.flatMap f:=by
 rw [List.flatMap_def,List.flatMap_def]
 congr 1
 apply List.ext_getElem
 ·simp
 ·intro i h1 h2
  have hi:i<l.length:=by simpa using h2
  simp [zGP hi]
end
end Go.Pe.G
namespace Go.Pe.G
open Go.Pe
noncomputable section
theorem zA3 {m:List (BitVec 64)}{base cap:Int}{top:BitVec 64}(hc:cap<1000) (e:BitVec 64) (h:(e-top).toNat<=64) :
  zO z8 (m,e,top,zd.mk 0 0 base cap 0#64 0#64 0 0,([]:List Int),())=some (.brk (YL m base cap top (e-top).toNat,())):=by
 have he:e=top+BitVec.ofNat 64 (e-top).toNat:=by
  rw [BitVec.ofNat_toNat,BitVec.setWidth_eq,BitVec.add_comm,BitVec.sub_add_cancel]
 generalize (e-top).toNat=n at he h
 subst he
 have:=zE3 (f:=z8) (fun (i:Int) (_:Unit)=>(m,top+BitVec.ofNat 64 n,top+BitVec.ofNat 64 i.toNat,zd.mk 0 0 base cap 0#64 0#64 0 0,YL m base cap top i.toNat,())) (fun _=>(YL m base cap top n,())) n (by omega) (fun _ _=>()) (fun _=>True) (fun _ _ _=>trivial)
  (fun i _ hi _=>by
   have hne: ¬(top+BitVec.ofNat 64 i=top+BitVec.ofNat 64 n):=fun e=>by
    have e:=congrArg (fun x=>x-top) e
    rw [BitVec.add_comm top,BitVec.add_comm top,BitVec.add_sub_cancel,BitVec.add_sub_cancel] at e
    have:=zv6 (by omega) (by omega) e
    omega
   have e2:top+BitVec.ofNat 64 i+1#64=top+BitVec.ofNat 64 (i+1):=by
    rw [BitVec.add_assoc,show (1#64:BitVec 64)=BitVec.ofNat 64 1 from rfl,zc2 (by omega)]
   have e3:YL m base cap top (i+1)=YL m base cap top i++[(ld m (YG (zd.mk 0 0 base cap 0#64 0#64 0 0) (top+BitVec.ofNat 64 i))).toInt]:=by
    unfold YL noD
    rw [zHP,List.map_append];rfl
   have el:(YL m base cap top i).length=i:=by unfold YL;simp
   show z8 (m,top+BitVec.ofNat 64 n,top+BitVec.ofNat 64 i,zd.mk 0 0 base cap 0#64 0#64 0 0,YL m base cap top i,())=some (.again (m,top+BitVec.ofNat 64 n,top+BitVec.ofNat 64 (i+1),zd.mk 0 0 base cap 0#64 0#64 0 0,YL m base cap top (i+1),()))
   rw [zej,yt,if_neg hne,zgb (show (zd.mk 0 0 base cap 0#64 0#64 0 0).Cap<1000 from hc),zGN,Yr,zGN,yr (by rw [zGV,el];simp;omega),zGN,e2,e3])
  (fun _ _=>by
   show z8 (m,top+BitVec.ofNat 64 n,top+BitVec.ofNat 64 n,zd.mk 0 0 base cap 0#64 0#64 0 0,YL m base cap top n,())=_
   rw [zej,yt,if_pos rfl]) (s:=()) trivial
 have e0:top+BitVec.ofNat 64 (0:Int).toNat=top:=by show top+0#64=top;rw [BitVec.add_zero]
 simp only [e0] at this
 exact this
theorem zEj (S d:BitVec 64):((bif decide (64#64<S) then 64#64 else S)<d)↔min S.toNat 64<d.toNat:=by
 rw [zj]
 by_cases h:64#64<S
 ·rw [if_pos h]
  have h':64<S.toNat:=h
  show 64<d.toNat↔_
  rw [Nat.min_eq_right (by omega)]
 ·rw [if_neg h]
  have h': ¬64<S.toNat:=h
  show S.toNat<d.toNat↔_
  rw [Nat.min_eq_left (by omega)]
theorem zzt {m:List (BitVec 64)}{base cap:Int}(hc:cap<1000) (o:zd):xU m base cap o=some (XV m base cap o,()):=by
 have hl:=fun e h=>zA3 (m:=m) (base:=base) (cap:=cap) (top:=ld m base) hc e h
 have hlim:=fun d=>zEj (ua (noD base cap)) d
 unfold noD at hlim
 have done:∀e:BitVec 64,∀ {b:Option (List Int×Unit)},(¬0<(e-ld m base).toInt->b=some ([],()))->(0<(e-ld m base).toInt->(min (ua (noD base cap)).toNat 64<(e-ld m base).toNat)->b=some ([],()))->(0<(e-ld m base).toInt->¬(min (ua (noD base cap)).toNat 64<(e-ld m base).toNat)->b=some (YL m base cap (ld m base) (e-ld m base).toNat,())) ->
   b=some (if ¬0<(e-ld m base).toInt\/(min (ua (noD base cap)).toNat 64)<(e-ld m base).toNat then [] else YL m base cap (ld m base) (e-ld m base).toNat,()):=by
  intro e b h1 h2 h3
  by_cases a:0<(e-ld m base).toInt
  ·by_cases c:min (ua (noD base cap)).toNat 64<(e-ld m base).toNat
   ·rw [if_pos (.inr c)];exact h2 a c
   ·rw [if_neg (by rintro (x | x);exact x a;exact c x)];exact h3 a c
  ·rw [if_pos (.inl a)];exact h1 a
 rw [zsw]
 simp only [u0,xk,xi,zGN,Yr,zcI,zn3]
 unfold XV
 by_cases h:zje o
 ·have he:zfB m base o=ld m (wc (base+1))+1#64:=by unfold zfB;rw [if_pos h]
  rw [he]
  obtain ⟨k,u,pc⟩:=h
  rcases pc with p | p | p | ⟨p,t⟩
  all_goals
   first | simp only [k,u,p,t,Int.reduceEq,decide_true,decide_false,cond_true,cond_false] | simp only [k,u,p,Int.reduceEq,decide_true,decide_false,cond_true,cond_false]
   generalize ld m (wc (base+1))+1#64=e
   refine done e (fun a=>?_) (fun a c=>?_) (fun a c=>?_)
   ·simp only [decide_eq_false a,Bool.not_false,cond_true]
   ·simp only [decide_eq_true a,zG5,cond_false]
    rw [zj,if_pos ((hlim (e-ld m base)).2 c)]
   ·simp only [decide_eq_true a,zG5,cond_false]
    rw [zj,if_neg (fun x=>c ((hlim (e-ld m base)).1 x)),hl e (by omega)]
    rfl
 ·have he:zfB m base o=ld m (wc (base+1)):=by unfold zfB;rw [if_neg h]
  rw [he]
  have fin:∀b:Option (List Int×Unit),(b=(bif !decide (0<(ld m (wc (base+1))-ld m base).toInt) then some ([],()) else bif decide ((bif decide (64#64<ua (noD base cap)) then 64#64 else ua (noD base cap))<(ld m (wc (base+1))-ld m base)) then some ([],()) else (zO z8 (m,ld m (wc (base+1)),ld m base,zd.mk 0 0 base cap 0#64 0#64 0 0,([]:List Int),())).bind (fun st=>match st with | .again _=>none | .brk y=>some (y.1,()) | .ret y=>none)))->b=some (if ¬0<(ld m (wc (base+1))-ld m base).toInt\/(min (ua (noD base cap)).toNat 64)<(ld m (wc (base+1))-ld m base).toNat then [] else YL m base cap (ld m base) (ld m (wc (base+1))-ld m base).toNat,()):=by
   intro b hb
   rw [hb]
   generalize ld m (wc (base+1))=e
   refine done e (fun a=>?_) (fun a c=>?_) (fun a c=>?_)
   ·simp only [decide_eq_false a,Bool.not_false,cond_true]
   ·simp only [decide_eq_true a,zG5,cond_false]
    rw [zj]
    exact if_pos ((hlim (e-ld m base)).2 c)
   ·simp only [decide_eq_true a,zG5,cond_false]
    rw [zj]
    refine (if_neg (fun x=>c ((hlim (e-ld m base)).1 x))).trans ?_
    rw [hl e (by omega)]
    rfl
  refine fin _ ?_
  by_cases k:o.Kind=2
  ·by_cases u:o.Out=0
   ·have pc: ¬(o.PC=2\/o.PC=4\/o.PC=5\/(o.PC=3/\o.T=o.B-1#64)):=fun e=>h ⟨k,u,e⟩
    have p2: ¬o.PC=2:=fun e=>pc (.inl e)
    have p4: ¬o.PC=4:=fun e=>pc (.inr (.inl e))
    have p5: ¬o.PC=5:=fun e=>pc (.inr (.inr (.inl e)))
    by_cases p3:o.PC=3
    ·have t: ¬o.T=o.B-1#64:=fun e=>pc (.inr (.inr (.inr ⟨p3,e⟩)))
     simp only [decide_eq_true k,decide_eq_true u,decide_eq_false p2,decide_eq_false p4,decide_eq_false p5,decide_eq_true p3,decide_eq_false t,cond_true,cond_false]
     rfl
    ·simp only [decide_eq_true k,decide_eq_true u,decide_eq_false p2,decide_eq_false p4,decide_eq_false p5,decide_eq_false p3,cond_true,cond_false]
     rfl
   ·simp only [decide_eq_true k,decide_eq_false u,cond_true,cond_false]
    rfl
  ·simp only [decide_eq_false k,cond_true,cond_false]
   rfl
theorem zCs (m:List (BitVec 64)) (base cap:Int) (o:zd):(XV m base cap o).length<=64:=by
 unfold XV
 split
 ·simp
 ·rename_i h
  unfold YL
  rw [zHL,List.length_range]
  omega
end
end Go.Pe.G
namespace Go.Pe.G
open Go.Pe
noncomputable section
def uc (x:zc):List Int:=if x.PC=33\/x.PC=34 then [x.Bin] else if x.PC=3\/x.PC=37 then x8 x.G else []
def zbO (s:za) (x:zc):List Int:=if x.PC=33 then ym s x.Bin else if x.PC=36\/x.PC=38 then [x.Obj] else if x.PC=37 then x.Obj::yj x.G else if x.PC=3 then yj x.G else []
def zV (s:za) (x:zc):List Int:=x.Batch++zbO s x
structure MX (p:zb) (s:za) (gh:Gh) (x:zc):Prop where
 bt:x.PC<=33->x.Batch=[]
 bf:∀v∈x.Buf,1<=v/\v<=64
 ol:(x.PC=21->0<=x.Old/\x.Old<=64)/\(x.PC=22\/((x.PC=1\/x.PC=3)/\x.Ret=22)->1<=x.Old/\x.Old<=64)
 p3:x.PC=3->GX p s gh x.G/\x.G.Mode=2/\x.G.Out=0
 p32:x.PC=32->x.C.Out=0/\(0<=x.C.PC/\x.C.PC<=2)/\CK p s.M x.C
 p34:x.PC=34->x.C.Out=0/\(0<=x.C.PC/\x.C.PC<=2)/\x.C.X=x.Bin/\CK p s.M x.C
 p37:x.PC=37->GX p s gh x.G/\x.G.Mode=3/\x.G.Out=0
theorem MX.plain {p:zb}{s:za}{gh:Gh}{x:zc}(h:x.PC≠3/\x.PC≠32/\x.PC≠34/\x.PC≠37) (bt:x.PC<=33->x.Batch=[]) (bf:∀v∈x.Buf,1<=v/\v<=64)
  (ol:(x.PC=21->0<=x.Old/\x.Old<=64)/\(x.PC=22\/((x.PC=1\/x.PC=3)/\x.Ret=22)->1<=x.Old/\x.Old<=64)):MX p s gh x :=
 ⟨bt,bf,ol,fun e=>by omega,fun e=>by omega,fun e=>by omega,fun e=>by omega⟩
theorem vC {x:zc}(h:x.PC≠3/\x.PC≠33/\x.PC≠34/\x.PC≠37):uc x=[]:=by unfold uc;rw [if_neg (by omega),if_neg (by omega)]
theorem zcJ {x:zc}(h:x.PC=33\/x.PC=34):uc x=[x.Bin]:=by unfold uc;rw [if_pos h]
theorem zgL {x:zc}(h:x.PC=3\/x.PC=37):uc x=x8 x.G:=by unfold uc;rw [if_neg (by omega),if_pos h]
theorem uw {s:za}{x:zc}(h:x.PC≠3/\x.PC≠33/\x.PC≠36/\x.PC≠37/\x.PC≠38):zbO s x=[]:=by unfold zbO;rw [if_neg (by omega),if_neg (by omega),if_neg (by omega),if_neg (by omega)]
theorem zqZ {s:za}{x:zc}(h:x.PC=33):zbO s x=ym s x.Bin:=by unfold zbO;rw [if_pos h]
theorem zb5 {s:za}{x:zc}(h:x.PC=36\/x.PC=38):zbO s x=[x.Obj]:=by unfold zbO;rw [if_neg (by omega),if_pos h]
theorem zuW {s:za}{x:zc}(h:x.PC=37):zbO s x=x.Obj::yj x.G:=by unfold zbO;rw [if_neg (by omega),if_neg (by omega),if_pos h]
theorem zpX {s:za}{x:zc}(h:x.PC=3):zbO s x=yj x.G:=by unfold zbO;rw [if_neg (by omega),if_neg (by omega),if_neg (by omega),if_pos h]
theorem MX.other {p:zb}(hp:zB p) {nb k:Nat}{s s':za}{gh gh':Gh}{X R:List Int}{O:Int->Prop}{m:Int}{x:zc}(Y:SX p nb s gh (X++R) k) (Fx:FX p nb X O s s' gh gh') (K:MX p s gh x) (W:XOk p nb m x)
  (hR:∀b∈uc x,b∈R):MX p s' gh' x/\zV s' x=zV s x:=by
 have hsub:∀b∈X,b∈X++R:=fun b hb=>zHa _ hb
 have hnd:=(zH1.1 Y.L.nodup).2.1
 have hnot:∀b,b∈uc x->b∉X:=fun b hb hg=>(zH1.1 hnd).2.2 b hg b (hR b hb) rfl
 refine ⟨⟨K.bt,K.bf,K.ol,fun e=>?_,fun e=>?_,fun e=>?_,fun e=>?_⟩,?_⟩
 ·obtain ⟨a,b,c⟩:=K.p3 e
  obtain ⟨M,_,_⟩:=W.g (.inl e)
  exact ⟨a.other hp Y Fx M (fun y hy=>hR y (by rw [zgL (.inl e)];exact hy)) (fun e2=>by omega),b,c⟩
 ·obtain ⟨a,b,c⟩:=K.p32 e
  have C:=W.c32 e
  exact ⟨a,b,c.mv Y.L Fx.mv hsub (.inl C.h) (fun h _=>C.v h) (fun e2=>by have:=C.k;omega)⟩
 ·obtain ⟨a,b,c,d⟩:=K.p34 e
  have C:=W.c34 e
  have hno:=hnot x.Bin (by rw [zcJ (.inr e)];simp)
  exact ⟨a,b,c,d.mv Y.L Fx.mv hsub (.inr C.h) (fun _ e2=>by have:=C.k;omega) (fun _=>⟨C.x.1,C.x.2,by rw [c];exact hno⟩)⟩
 ·obtain ⟨a,b,c⟩:=K.p37 e
  obtain ⟨M,_,_⟩:=W.g (.inr e)
  exact ⟨a.other hp Y Fx M (fun y hy=>hR y (by rw [zgL (.inr e)];exact hy)) (fun e2=>by omega),b,c⟩
 ·unfold zV
  congr 1
  by_cases e3:x.PC=33
  ·rw [zqZ e3,zqZ e3]
   have hb:=W.b33 e3
   have hno:=hnot x.Bin (by rw [zcJ (.inl e3)];simp)
   unfold ym
   rw [Fx.bn x.Bin hb.1 hno]
  ·unfold zbO
   rw [if_neg e3,if_neg e3]
def zfu (p:zb) (nb k:Nat) (R:List Int) (gh:Gh) (s:za) (x:zc) (s':za) (x':zc):Prop :=
 ∃gh',SX p nb s' gh' (uc x'++R) (k+1)/\MX p s' gh' x'/\FX p nb (uc x) (fun _=>False) s s' gh gh' /\
  ∃N B,List.Perm (yo p s' gh'++zV s' x'++B) (N++(yo p s gh++zV s x)) /\
   ((N=[]/\B=[]/\s'.T=s.T)\/(N=[x.G.Obj]/\B=[]/\(x.PC=3\/x.PC=37)/\¬(s.T.Marks|||bit x.G.Obj=s.T.Marks)/\s'.T={s.T with Marks:=s.T.Marks|||bit x.G.Obj})\/(N=[]/\B=[x.Obj]/\x.PC=38/\s'.T=wJ s.T x.Obj) \/
    (N=[]/\B=[]/\x.PC=30/\Xy s.H s.P.Most=true/\s'.H=Z7 s.H/\s'.T=XS s.T (wc (s.H.Objs.length+1))))
theorem zfu.quiet {p:zb}{nb k:Nat}{R:List Int}{gh:Gh}{s s':za}{x x':zc}(X:SX p nb s gh (uc x++R) k) (S':SOk p nb s') (hm:s'.M=s.M) (hb:s'.Bins=s.Bins) (hT:s'.T=s.T)
  (ho:uc x'=uc x) (hh:List.Perm (zV s' x') (zV s x)) (W':MX p s' gh x'):zfu p nb k R gh s x s' x' :=
 ⟨gh,by rw [ho];exact X.quiet S' hm,W',FX.quiet hm (fun _ _ _=>by rw [hb]),[],[],by rw [uQ hb,zGQ];exact zG0 _ hh,.inl ⟨rfl,rfl,hT⟩⟩
theorem zfu.calm {p:zb}{nb k:Nat}{R:List Int}{gh:Gh}{s s':za}{x x':zc}(X:SX p nb s gh (uc x++R) k) (S':SOk p nb s') (hm:s'.M=s.M) (hb:s'.Bins=s.Bins) (hT:s'.T=s.T)
  (h:x.PC≠3/\x.PC≠33/\x.PC≠34/\x.PC≠36/\x.PC≠37/\x.PC≠38) (h':x'.PC≠3/\x'.PC≠32/\x'.PC≠33/\x'.PC≠34/\x'.PC≠36/\x'.PC≠37/\x'.PC≠38) (eb:x'.Batch=x.Batch)
  (bt:x'.PC<=33->x'.Batch=[]) (bf:∀v∈x'.Buf,1<=v/\v<=64) (ol:(x'.PC=21->0<=x'.Old/\x'.Old<=64)/\(x'.PC=22\/((x'.PC=1\/x'.PC=3)/\x'.Ret=22)->1<=x'.Old/\x'.Old<=64)):zfu p nb k R gh s x s' x':=by
 refine .quiet X S' hm hb hT ?_ ?_ (MX.plain (by omega) bt bf ol)
 ·rw [vC (by omega),vC (by omega)]
 ·unfold zV
  rw [uw (by omega),uw (by omega),eb]
theorem ztC {p:zb}{s:za}{gh:Gh}{md o w:Int}(hmd:md=2\/md=3) (ho:1<=o/\o<=64):GX p s gh (ZN md o w)/\(ZN md o w).Mode=md/\(ZN md o w).Out=0/\x8 (ZN md o w)=[]/\yj (ZN md o w)=[]:=by
 refine ⟨GX.plain (.inl rfl) ⟨by show (0:Int)<=0;decide,by show (0:Int)<=7;decide⟩ ⟨by show 1<=md;omega,by show md<=3;omega⟩ ho (fun e=>by have e:md=1:=e;omega) (.inr ⟨by show (0:Int)≠3;decide,by show (0:Int)≠5;decide,by show (0:Int)≠7;decide⟩),rfl,rfl,
  vc (.inr ⟨by show (0:Int)≠6;decide,by show (0:Int)≠7;decide⟩),Zp (.inr (.inl (by show (0:Int)<3;decide)))⟩
theorem zFU {p:zb}(hp:zB p) {nb k:Nat}{R:List Int}{gh:Gh}{s:za}{m:Int}{x:zc}(hk:k<4294960000) (X:SX p nb s gh (uc x++R) k) (W:XOk p nb m x) (K:MX p s gh x) (hpl:((wU p m).length:Int)<=64)
  (hH:∀o i,0<=xC s.H o i/\xC s.H o i<=64):zfu p nb k R gh s x (zA s m x).1 (zA s m x).2:=by
 have S':=(zCq hp hpl X.S W).1
 have hP:=X.S.P
 have eC:zbx s.P (zD s.P) x.Bin=zbx p (zD p) x.Bin:=by rw [hP]
 have hbf:=K.bf
 have hol:=K.ol
 revert S'
 refine uq (motive:=fun r=>SOk p nb r.1->zfu p nb k R gh s x r.1 r.2) s m x ?_ ?_ ?_ ?_ ?_ ?_ ?_ ?_ ?_ ?_ ?_ ?_ ?_ ?_ ?_ ?_ ?_ ?_ ?_ ?_
 ·intro c;unfold mu0 zdT;dsimp only
  have hbt:=K.bt (by omega)
  repeat' split
  all_goals (intro S')
  all_goals (refine .calm X S' rfl rfl rfl (by omega) (by (try dsimp only [setM]);omega) rfl (fun _=>hbt) hbf ⟨fun e=>?_,fun e=>?_⟩<;>((try dsimp only [setM] at e);omega))
 ·intro c;unfold mu1;dsimp only
  have hbt:=K.bt (by omega)
  have hrt:=W.ret (.inl c)
  split
  ·intro S'
   exact .calm X S' rfl rfl rfl (by omega) (by dsimp only;omega) rfl (fun _=>hbt) hbf ⟨fun e=>by dsimp only at e;omega,fun e=>by dsimp only at e ⊢;exact hol.2 (by omega)⟩
  ·rename_i hl
   intro S'
   have hv:1<=x.Buf.getD (x.Buf.length-1) 0/\x.Buf.getD (x.Buf.length-1) 0<=64:=by
    rw [zGS,zGP (show x.Buf.length-1<x.Buf.length by omega)]
    exact hbf _ (zHn _)
   obtain ⟨g1,g2,g3,g4,g5⟩:=ztC (p:=p) (s:=s) (gh:=gh) (w:=m) (.inl rfl) hv
   refine .quiet X S' rfl rfl rfl ?_ ?_ ⟨fun _=>hbt,fun v hv=>hbf v (zIi hv),⟨fun e=>(by cases e),fun e=>?_⟩,fun _=>⟨g1,g2,g3⟩,fun e=>(by cases e),fun e=>(by cases e),fun e=>(by cases e)⟩
   ·rw [vC (x:=x) (by omega),zgL (.inl rfl)];exact g4
   ·unfold zV
    rw [uw (x:=x) (by omega),zpX rfl]
    show List.Perm (x.Batch++yj (ZN 2 (x.Buf.getD (x.Buf.length-1) 0) m)) _
    rw [g5]
   ·rcases e with e | e
    ·cases e
    ·exact hol.2 (.inr ⟨.inl c,e.2⟩)
 ·intro c S';unfold mu2 at S' ⊢
  exact .calm X S' rfl rfl rfl (by omega) (by dsimp only;omega) rfl (fun _=>K.bt (by omega)) hbf ⟨fun e=>by dsimp only at e;omega,fun e=>by dsimp only at e;omega⟩
 ·intro c;unfold mu3;dsimp only
  have hbt:=K.bt (by omega)
  obtain ⟨G,gm,g0⟩:=K.p3 c
  obtain ⟨M,h5o,hn1⟩:=W.g (.inl c)
  have eo:uc x=x8 x.G:=zgL (.inl c)
  have hh:zV s x=yj x.G:=by unfold zV;rw [zpX c,hbt,zGY]
  rw [eo] at X
  obtain ⟨gh',X',G',Fx,hc',hFb,N,hN,hT⟩:=zAA hp hk X M h5o G
  have so:=UE s x.G
  have Fx':FX p nb (uc x) (fun _=>False) s (zx s x.G).1 gh gh':=by rw [eo];exact Fx.mono (fun v e=>by have:=e.1;omega)
  have hT':(N=[]/\([]:List Int)=[]/\(zx s x.G).1.T=s.T)\/(N=[x.G.Obj]/\([]:List Int)=[]/\(x.PC=3\/x.PC=37)/\¬(s.T.Marks|||bit x.G.Obj=s.T.Marks)/\(zx s x.G).1.T={s.T with Marks:=s.T.Marks|||bit x.G.Obj}):=by
   rcases hT with ⟨a,b⟩ | ⟨a,b,c'⟩
   ·exact .inl ⟨a,rfl,b⟩
   ·exact .inr ⟨a,rfl,.inl c,b,c'⟩
  split
  ·rename_i o1
   intro S'
   have n1:x8 (zx s x.G).2=[]:=vc (.inl (by omega))
   have n2:yj (zx s x.G).2=[]:=Zp (.inl (by omega))
   rw [n1] at X'
   refine ⟨gh',by rw [vC (by dsimp only;omega)];exact X',MX.plain (by dsimp only;omega) (fun _=>hbt) hbf ⟨fun e=>(by cases e),fun e=>?_⟩,Fx',N,[],?_,hT'.elim .inl (fun h=>.inr (.inl h))⟩
   ·rcases e with e | e
    ·cases e
    ·exact hol.2 (.inr ⟨.inr c,e.2⟩)
   ·unfold zV
    rw [uw (by dsimp only;omega),zGQ,zGQ]
    rw [n2,zGQ] at hN
    show List.Perm (yo p (zx s x.G).1 gh'++x.Batch) (N++(yo p s gh++(x.Batch++zbO s x)))
    rw [hbt,zpX c,zGQ,zGY]
    exact hN
  ·rename_i o1
   intro S'
   have o0:(zx s x.G).2.Out=0:=by have:=G'.o;omega
   refine ⟨gh',by rw [zgL (x:={x with G:=(zx s x.G).2}) (.inl c)];exact X',⟨fun _=>hbt,hbf,hol,fun _=>⟨G',so.2.2.trans gm,o0⟩,fun e=>by have e:x.PC=32:=e;omega,fun e=>by have e:x.PC=34:=e;omega,fun e=>by have e:x.PC=37:=e;omega⟩,Fx',N,[],?_,hT'.elim .inl (fun h=>.inr (.inl h))⟩
   unfold zV
   rw [zpX (x:={x with G:=(zx s x.G).2}) c,zGQ]
   show List.Perm (yo p (zx s x.G).1 gh'++(x.Batch++yj (zx s x.G).2)) (N++(yo p s gh++(x.Batch++zbO s x)))
   rw [hbt,zpX c,zGY,zGY]
   exact hN
 ·intro c S';unfold zou at S' ⊢
  exact .calm X S' rfl rfl rfl (by omega) (by dsimp only [setM];omega) rfl (fun _=>K.bt (by omega)) hbf ⟨fun e=>by dsimp only [setM] at e;omega,fun e=>by dsimp only [setM] at e;omega⟩
 ·intro c;unfold zmQ;dsimp only
  have hbt:=K.bt (by omega)
  split
  ·intro S'
   exact .calm X S' rfl rfl rfl (by omega) (by dsimp only [VG];omega) rfl (fun _=>hbt) hbf ⟨fun e=>by dsimp only [VG] at e;omega,fun e=>by dsimp only [VG] at e;omega⟩
  ·intro S'
   exact .calm X S' rfl rfl rfl (by omega) (by dsimp only;omega) rfl (fun _=>hbt) hbf ⟨fun _=>hH _ _,fun e=>by dsimp only at e;omega⟩
 ·intro c;unfold zmT;dsimp only
  have hbt:=K.bt (by omega)
  have h21:=hol.1 c
  split
  ·intro S'
   exact .calm X S' rfl rfl rfl (by omega) (by dsimp only;omega) rfl (fun _=>hbt) hbf ⟨fun e=>by dsimp only at e;omega,fun e=>by dsimp only at e;omega⟩
  ·rename_i hn
   intro S'
   have: ¬x.Old=0:=fun e=>hn (.inl e)
   exact .calm X S' rfl rfl rfl (by omega) (by dsimp only;omega) rfl (fun _=>hbt) hbf ⟨fun e=>by dsimp only at e;omega,fun e=>by dsimp only;omega⟩
 ·intro c;unfold zl4;dsimp only
  have hbt:=K.bt (by omega)
  have h22:=hol.2 (.inl c)
  split
  ·intro S'
   exact .calm X S' rfl rfl rfl (by omega) (by dsimp only;omega) rfl (fun _=>hbt) hbf ⟨fun e=>by dsimp only at e;omega,fun e=>h22⟩
  ·intro S'
   refine .calm X S' rfl rfl rfl (by omega) (by dsimp only;omega) rfl (fun _=>hbt) (fun v hv=>?_) ⟨fun e=>by dsimp only at e;omega,fun e=>by dsimp only at e;omega⟩
   rcases zG8.1 hv with h | h
   ·exact hbf v h
   ·rw [zHq.1 h];exact h22
 ·intro c S';unfold zow at S' ⊢
  exact .calm X S' rfl rfl rfl (by omega) (by dsimp only [VG];omega) rfl (fun _=>K.bt (by omega)) hbf ⟨fun e=>by dsimp only [VG] at e;omega,fun e=>by dsimp only [VG] at e;omega⟩
 ·intro c;unfold zh0
  have hbt:=K.bt (by omega)
  split
  ·split
   ·rename_i h1 h2
    intro S'
    refine ⟨gh,by rw [vC (by dsimp only [setM];omega)];rw [vC (x:=x) (by omega)] at X;exact X.quiet S' rfl,MX.plain (by dsimp only [setM];omega) (fun _=>hbt) hbf ⟨fun e=>by dsimp only [setM] at e;omega,fun e=>by dsimp only [setM] at e;omega⟩,FX.quiet rfl (fun _ _ _=>rfl),[],[],?_,.inr (.inr (.inr ⟨rfl,rfl,c,h2,rfl,rfl⟩))⟩
    rw [uQ rfl,zGQ,zGY]
    unfold zV
    rw [uw (by dsimp only [setM];omega),uw (x:=x) (by omega)]
    exact zHd _
   ·intro S'
    exact .calm X S' rfl rfl rfl (by omega) (by dsimp only [VG];omega) rfl (fun _=>hbt) hbf ⟨fun e=>by dsimp only [VG] at e;omega,fun e=>by dsimp only [VG] at e;omega⟩
  ·intro S'
   exact .calm X S' rfl rfl rfl (by omega) (by dsimp only;omega) rfl (fun _=>hbt) hbf ⟨fun e=>by dsimp only at e;omega,fun e=>by dsimp only at e;omega⟩
 ·intro c;unfold zmd;dsimp only
  have hbt:=K.bt (by omega)
  split
  ·intro S'
   refine .quiet X S' rfl rfl rfl (by rw [vC (by dsimp only;omega),vC (x:=x) (by omega)]) ?_ ⟨fun _=>hbt,hbf,⟨fun e=>by dsimp only at e;omega,fun e=>by dsimp only at e;omega⟩,fun e=>by dsimp only at e;omega,fun _=>⟨rfl,⟨by show (0:Int)<=0;decide,by show (0:Int)<=2;decide⟩,by show CK p s.M (zBk s.P (zY s.P) x.Bin);rw [hP];exact CK.start⟩,fun e=>by dsimp only at e;omega,fun e=>by dsimp only at e;omega⟩
   unfold zV
   rw [uw (by dsimp only;omega),uw (x:=x) (by omega)]
  ·intro S'
   exact .calm X S' rfl rfl rfl (by omega) (by dsimp only;omega) rfl (fun _=>hbt) hbf ⟨fun e=>by dsimp only at e;omega,fun e=>by dsimp only at e;omega⟩
 ·intro c;unfold zmy;dsimp only
  have C:=W.c32 c
  obtain ⟨c1,c2,c3⟩:=K.p32 c
  have hbt:=K.bt (by omega)
  have eo:uc x=[]:=vC (by omega)
  have hh:zV s x=[]:=by unfold zV;rw [hbt,uw (by omega)];rfl
  have nn:∀e:x.PC=21,False:=fun e=>by omega
  intro S'
  have S':SOk p nb {s with M:=(zn s.M x.C).1}:=S'
  rcases SX.popF hp X hk C.k C.h C.n c1 c2 c3 C.v S' with ⟨a,b,cc,d⟩ | ⟨y,l,a,b,cc,d,e⟩
  ·rw [if_neg b]
   have hout:=zbf s.M c1 c2 (.inr C.k)
   by_cases o2:(zn s.M x.C).2.Out=2
   ·rw [if_pos o2]
    exact .calm X S' a rfl rfl (by omega) (by dsimp only;omega) rfl (fun _=>hbt) hbf ⟨fun e=>by dsimp only at e;omega,fun e=>by dsimp only at e;omega⟩
   ·rw [if_neg o2]
    have hpc':(zn s.M x.C).2.Out=0/\0<=(zn s.M x.C).2.PC/\(zn s.M x.C).2.PC<=2:=by omega
    refine .quiet X S' a rfl rfl ?_ ?_ ⟨fun _=>hbt,hbf,hol,fun e=>by have e:x.PC=3:=e;omega,fun _=>⟨hpc'.1,hpc'.2,?_⟩,fun e=>by have e:x.PC=34:=e;omega,fun e=>by have e:x.PC=37:=e;omega⟩
    ·rw [eo];exact vC (by dsimp only;omega)
    ·unfold zV
     rw [uw (by dsimp only;omega),uw (x:=x) (by omega)]
    ·rw [show ({s with M:=(zn s.M x.C).1}:za).M=s.M from a];exact cc
  ·rw [if_pos b]
   have e1:uc {x with PC:=33,Bin:=(zn s.M x.C).2.X,C:=(zn s.M x.C).2}=[y]:=by rw [<-cc];exact zcJ (x:={x with PC:=33,Bin:=(zn s.M x.C).2.X,C:=(zn s.M x.C).2}) (.inl rfl)
   refine ⟨{gh with F:=l},by rw [e1];rw [eo] at d;exact d,MX.plain (by dsimp only;omega) (fun _=>hbt) hbf ⟨fun e=>by dsimp only at e;omega,fun e=>by dsimp only at e;omega⟩,e _ _,[],[],?_,.inl ⟨rfl,rfl,rfl⟩⟩
   rw [hh,zGQ,zGQ,zGY]
   unfold zV
   rw [zqZ (x:={x with PC:=33,Bin:=(zn s.M x.C).2.X,C:=(zn s.M x.C).2}) rfl]
   show List.Perm (yo p s {gh with F:=l}++(x.Batch++ym s (zn s.M x.C).2.X)) _
   rw [hbt,zGY,cc]
   have:yo p s gh=ym s y++yo p s {gh with F:=l}:=by unfold yo;rw [a];simp [zGR]
   rw [this]
   exact zHx
 ·intro c;unfold znP;dsimp only
  intro S'
  have hb:=W.b33 c
  have hbt:=K.bt (by omega)
  have eo:uc x=[x.Bin]:=zcJ (.inl c)
  rw [eC] at *
  have e1:uc {x with Batch:=WV s x.Bin,PC:=34,C:=zbx p (zD p) x.Bin}=[x.Bin]:=zcJ (x:={x with Batch:=WV s x.Bin,PC:=34,C:=zbx p (zD p) x.Bin}) (.inr rfl)
  have hget:∀b,1<=b->b∉uc x->(s.Bins.set x.Bin.toNat [])[b.toNat]? =s.Bins[b.toNat]? :=fun b b1 b2=>by
   rw [zHu]
   intro e
   rw [eo] at b2
   exact b2 (by rw [show b=x.Bin by omega];simp)
  refine ⟨gh,by rw [e1,<-eo];exact X.quiet S' rfl,⟨fun e=>absurd e (by show ¬(34:Int)<=33;decide),hbf,⟨fun e=>by dsimp only at e;omega,fun e=>by dsimp only at e;omega⟩,fun e=>by dsimp only at e;omega,fun e=>by dsimp only at e;omega,fun _=>⟨rfl,⟨by show (0:Int)<=0;decide,by show (0:Int)<=2;decide⟩,rfl,CK.start⟩,fun e=>by dsimp only at e;omega⟩,FX.quiet rfl hget,[],[],?_,.inl ⟨rfl,rfl,rfl⟩⟩
  have hbag:yo p {s with Bins:=s.Bins.set x.Bin.toNat []} gh=yo p s gh:=by
   unfold yo
   congr 1
   refine xz (fun b hb=>?_)
   have hm:=X.L.cF.mem b hb
   have hno:=(X.L.notF (x:=x.Bin) (by rw [eo];simp)).1
   unfold ym
   rw [show ({s with Bins:=s.Bins.set x.Bin.toNat []}:za).Bins=s.Bins.set x.Bin.toNat [] from rfl,hget b hm.1 (by rw [eo];intro e;rw [zHq.1 e] at hb;exact hno hb)]
  rw [hbag,zGQ,zGY]
  unfold zV
  rw [zqZ c,uw (x:={x with Batch:=WV s x.Bin,PC:=34,C:=zbx p (zD p) x.Bin}) (by dsimp only;omega)]
  show List.Perm (yo p s gh++(WV s x.Bin++[])) _
  rw [hbt,zGQ,zGY,zxv]
 ·intro c;unfold zmF;dsimp only
  intro S'
  have S':SOk p nb {s with M:=(zn s.M x.C).1}:=S'
  have C:=W.c34 c
  obtain ⟨c1,c2,c3,c4⟩:=K.p34 c
  have eo:uc x=[x.Bin]:=zcJ (.inr c)
  have hh:zV s x=x.Batch:=by unfold zV;rw [uw (by omega),zGQ]
  rw [eo] at X
  rcases SX.pushE hp (o1:=[]) (o2:=R) (b:=x.Bin) X hk C.k C.h C.n c3 c1 c2 c4 C.v S' with ⟨a,b,cc,d⟩ | ⟨a,b,d⟩
  ·rw [a,if_neg (by decide)]
   have hout:=zbf s.M c1 c2 (.inl C.k)
   have hsame:=zmJ s.M x.C
   have hpc':0<=(zn s.M x.C).2.PC/\(zn s.M x.C).2.PC<=2:=by omega
   have e1:uc {x with C:=(zn s.M x.C).2}=[x.Bin]:=zcJ (x:={x with C:=(zn s.M x.C).2}) (.inr c)
   refine ⟨gh,by rw [e1];exact b,⟨fun e=>by have e:x.PC<=33:=e;omega,hbf,hol,fun e=>by have e:x.PC=3:=e;omega,fun e=>by have e:x.PC=32:=e;omega,fun _=>⟨a,hpc',(hsame.2.2.2 C.k).trans c3,cc⟩,fun e=>by have e:x.PC=37:=e;omega⟩,by rw [eo];exact d _ _ (by simp),[],[],?_,.inl ⟨rfl,rfl,rfl⟩⟩
   rw [uQ rfl,hh,zGQ]
   unfold zV
   rw [uw (x:={x with C:=(zn s.M x.C).2}) (by dsimp only;omega),zGQ]
   exact zHd _
  ·rw [a,if_pos rfl]
   refine ⟨{gh with E:=x.Bin::gh.E},by rw [vC (by dsimp only;omega)];exact b,MX.plain (by dsimp only;omega) (fun e=>absurd e (by show ¬(35:Int)<=33;decide)) hbf ⟨fun e=>by dsimp only at e;omega,fun e=>by dsimp only at e;omega⟩,by rw [eo];exact d _ _,[],[],?_,.inl ⟨rfl,rfl,rfl⟩⟩
   rw [hh,zGQ]
   unfold zV
   rw [uw (by dsimp only;omega),zGQ]
   exact zHd _
 ·intro c;unfold zmv;dsimp only
  split
  ·rename_i hb
   intro S'
   exact .calm X S' rfl rfl rfl (by omega) (by dsimp only;omega) rfl (fun _=>hb) hbf ⟨fun e=>by dsimp only at e;omega,fun e=>by dsimp only at e;omega⟩
  ·rename_i o l hb
   intro S'
   refine .quiet X S' rfl rfl rfl (by rw [vC (by dsimp only;omega),vC (x:=x) (by omega)]) ?_ (MX.plain (by dsimp only;omega) (fun e=>absurd e (by show ¬(36:Int)<=33;decide)) hbf ⟨fun e=>by dsimp only at e;omega,fun e=>by dsimp only at e;omega⟩)
   unfold zV
   rw [zb5 (.inl rfl),uw (x:=x) (by omega),hb,zGQ]
   exact zHx
 ·intro c;unfold zm0;dsimp only
  have hv:=hH x.Obj x.Slot
  have eo:uc x=[]:=vC (by omega)
  split
  ·rcases zg6 s (wc (x.Slot+1)) with e | e<;>rw [e]<;>intro S'
   ·refine .quiet X S' rfl rfl rfl (by rw [eo,vC (by dsimp only;omega)]) ?_ (MX.plain (by dsimp only;omega) (fun e=>absurd e (by show ¬(36:Int)<=33;decide)) hbf ⟨fun e=>by dsimp only at e;omega,fun e=>by dsimp only at e;omega⟩)
    unfold zV
    rw [zb5 (.inl c),zb5 (.inl rfl)]
   ·refine .quiet X S' rfl rfl rfl (by rw [eo,vC (by dsimp only;omega)]) ?_ (MX.plain (by dsimp only;omega) (fun e=>absurd e (by show ¬(38:Int)<=33;decide)) hbf ⟨fun e=>by dsimp only at e;omega,fun e=>by dsimp only at e;omega⟩)
    unfold zV
    rw [zb5 (.inl c),zb5 (.inr rfl)]
  ·rename_i hne
   intro S'
   obtain ⟨g1,g2,g3,g4,g5⟩:=ztC (p:=p) (s:=s) (gh:=gh) (w:=m) (.inr rfl) (show 1<=xC s.H x.Obj x.Slot/\xC s.H x.Obj x.Slot<=64 by omega)
   refine .quiet X S' rfl rfl rfl ?_ ?_ ⟨fun e=>absurd e (by show ¬(37:Int)<=33;decide),hbf,⟨fun e=>by dsimp only at e;omega,fun e=>by dsimp only at e;omega⟩,fun e=>by dsimp only at e;omega,fun e=>by dsimp only at e;omega,fun e=>by dsimp only at e;omega,fun _=>⟨g1,g2,g3⟩⟩
   ·rw [eo,zgL (.inr rfl)];exact g4
   ·unfold zV
    rw [zb5 (.inl c),zuW rfl]
    show List.Perm (x.Batch++x.Obj::yj (ZN 3 (xC s.H x.Obj x.Slot) m)) _
    rw [g5]
 ·intro c;unfold zke;dsimp only
  obtain ⟨G,gm,g0⟩:=K.p37 c
  obtain ⟨M,h5o,hn1⟩:=W.g (.inr c)
  have eo:uc x=x8 x.G:=zgL (.inr c)
  have hh:zV s x=x.Batch++x.Obj::yj x.G:=by unfold zV;rw [zuW c]
  rw [eo] at X
  obtain ⟨gh',X',G',Fx,hc',hFb,N,hN,hT⟩:=zAA hp hk X M h5o G
  have so:=UE s x.G
  have Fx':FX p nb (uc x) (fun _=>False) s (zx s x.G).1 gh gh':=by rw [eo];exact Fx.mono (fun v e=>by have:=e.1;omega)
  have hT':(N=[]/\([]:List Int)=[]/\(zx s x.G).1.T=s.T)\/(N=[x.G.Obj]/\([]:List Int)=[]/\(x.PC=3\/x.PC=37)/\¬(s.T.Marks|||bit x.G.Obj=s.T.Marks)/\(zx s x.G).1.T={s.T with Marks:=s.T.Marks|||bit x.G.Obj}):=by
   rcases hT with ⟨a,b⟩ | ⟨a,b,c'⟩
   ·exact .inl ⟨a,rfl,b⟩
   ·exact .inr ⟨a,rfl,.inr c,b,c'⟩
  have perm:∀H':List Int,H'=x.Batch++x.Obj::yj (zx s x.G).2->List.Perm (yo p (zx s x.G).1 gh'++H'++[]) (N++(yo p s gh++zV s x)):=by
   intro H' e
   rw [e,hh,zGQ]
   have a1:List.Perm (yo p (zx s x.G).1 gh'++(x.Batch++x.Obj::yj (zx s x.G).2)) ((x.Batch++[x.Obj])++(yo p (zx s x.G).1 gh'++yj (zx s x.G).2)):=by
    rw [show x.Batch++x.Obj::yj (zx s x.G).2=(x.Batch++[x.Obj])++yj (zx s x.G).2 by simp]
    exact zHe _ _ _
   have a2:List.Perm (N++(yo p s gh++(x.Batch++x.Obj::yj x.G))) ((x.Batch++[x.Obj])++(N++(yo p s gh++yj x.G))):=by
    rw [show x.Batch++x.Obj::yj x.G=(x.Batch++[x.Obj])++yj x.G by simp]
    exact (zG0 N (zHe _ _ _)).trans (zHe _ _ _)
   exact a1.trans ((zG0 _ hN).trans a2.symm)
  split
  ·rename_i o1
   intro S'
   have n1:x8 (zx s x.G).2=[]:=vc (.inl (by omega))
   have n2:yj (zx s x.G).2=[]:=Zp (.inl (by omega))
   rw [n1] at X'
   rcases zg6 s x.Slot with e | e<;>rw [e]
   ·refine ⟨gh',by rw [vC (by dsimp only;omega)];exact X',MX.plain (by dsimp only;omega) (fun e=>absurd e (by show ¬(36:Int)<=33;decide)) hbf ⟨fun e=>by dsimp only at e;omega,fun e=>by dsimp only at e;omega⟩,Fx',N,[],perm _ ?_,hT'.elim .inl (fun h=>.inr (.inl h))⟩
    unfold zV;rw [zb5 (.inl rfl),n2]
   ·refine ⟨gh',by rw [vC (by dsimp only;omega)];exact X',MX.plain (by dsimp only;omega) (fun e=>absurd e (by show ¬(38:Int)<=33;decide)) hbf ⟨fun e=>by dsimp only at e;omega,fun e=>by dsimp only at e;omega⟩,Fx',N,[],perm _ ?_,hT'.elim .inl (fun h=>.inr (.inl h))⟩
    unfold zV;rw [zb5 (.inr rfl),n2]
  ·rename_i o1
   intro S'
   have o0:(zx s x.G).2.Out=0:=by have:=G'.o;omega
   refine ⟨gh',by rw [zgL (x:={x with G:=(zx s x.G).2}) (.inr c)];exact X',⟨fun e=>by have e:x.PC<=33:=e;omega,hbf,hol,fun e=>by have e:x.PC=3:=e;omega,fun e=>by have e:x.PC=32:=e;omega,fun e=>by have e:x.PC=34:=e;omega,fun _=>⟨G',so.2.2.trans gm,o0⟩⟩,Fx',N,[],perm _ ?_,hT'.elim .inl (fun h=>.inr (.inl h))⟩
   unfold zV;rw [zuW (x:={x with G:=(zx s x.G).2}) c]
 ·intro c S';unfold zod at S' ⊢
  have eo:uc x=[]:=vC (by omega)
  refine ⟨gh,by rw [vC (by dsimp only;omega)];rw [eo] at X;exact X.quiet S' rfl,MX.plain (by dsimp only;omega) (fun e=>absurd e (by show ¬(39:Int)<=33;decide)) hbf ⟨fun e=>by dsimp only at e;omega,fun e=>by dsimp only at e;omega⟩,FX.quiet rfl (fun _ _ _=>rfl),[],[x.Obj],?_,.inr (.inr (.inl ⟨rfl,rfl,c,rfl⟩))⟩
  rw [uQ rfl,zGY]
  unfold zV
  rw [zb5 (.inr c),uw (by dsimp only;omega),zGQ,zGR]
  exact zHd _
 ·intro c S';unfold zpJ at S' ⊢
  exact .calm X S' rfl rfl rfl (by omega) (by dsimp only;omega) rfl (fun e=>absurd e (by show ¬(35:Int)<=33;decide)) hbf ⟨fun e=>by dsimp only at e;omega,fun e=>by dsimp only at e;omega⟩
 ·intro S'
  exact ⟨gh,X.quiet S' rfl,K,FX.quiet rfl (fun _ _ _=>rfl),[],[],by rw [zGQ];exact zHd _,.inl ⟨rfl,rfl,rfl⟩⟩
end
end Go.Pe.G
namespace Go.Pe.G
open Go.Pe
noncomputable section
theorem Vi (a b:BitVec 64) (q:Int):z9 (a|||b) q=true↔z9 a q=true\/z9 b q=true:=by
 rw [xL,xL,xL,BitVec.getLsbD_or,zHV]
 constructor
 ·rintro ⟨h1,h2,h | h⟩
  ·exact .inl ⟨h1,h2,h⟩
  ·exact .inr ⟨h1,h2,h⟩
 ·rintro (⟨h1,h2,h⟩ | ⟨h1,h2,h⟩)
  ·exact ⟨h1,h2,.inl h⟩
  ·exact ⟨h1,h2,.inr h⟩
theorem zeT (h:zt) (a i v:Int):(zfw h a i v).Objs.length=h.Objs.length:=by
 unfold zfw;split<;>simp
theorem zp6 (h:zt):(Z7 h).Objs.length=h.Objs.length+1:=by unfold Z7;simp
end
end Go.Pe.G
namespace Go.Pe.G
open Go.Pe
noncomputable section
theorem zt8:∀(n:Fin 10) (j:Fin 64),(wZ (n.1:Int)).getLsbD j.1=decide (j.1<n.1):=by decide +kernel
theorem zog {n:Nat}(hn:n<=9) (o:Int):z9 (wZ (n:Int)) o=true↔1<=o/\o<=(n:Int):=by
 rw [xL]
 constructor
 ·rintro ⟨a,b,c⟩
  have:=zt8 ⟨n,by omega⟩ ⟨(o-1).toNat,by omega⟩
  rw [this] at c
  have:(o-1).toNat<n:=by simpa using c
  omega
 ·rintro ⟨a,b⟩
  have:=zt8 ⟨n,by omega⟩ ⟨(o-1).toNat,by omega⟩
  refine ⟨a,by omega,?_⟩
  rw [this]
  exact decide_eq_true (by show (o-1).toNat<n;omega)
end
end Go.Pe.G
namespace Go.Pe.G
open Go.Pe
noncomputable section
theorem zwl {t:zp}{o:Int}(ho:1<=o/\o<=64) (hm: ¬z9 t.Marks o=true) (hb: ¬z9 t.Black o=true):vw t o=({t with Marks:=t.Marks|||bit o},true):=by
 unfold vw
 rw [if_neg ((zdW ho).2 hm),if_pos]
 unfold z9 at hb
 simpa using hb
theorem zyj {o q:Int}(h:z9 (bit o) q=true):q=o:=by
 by_cases ho:1<=o/\o<=64
 ·have:=(wR 0#64 ho q).1 (by simpa using h)
  exact this.resolve_left (zdg q)
 ·unfold bit at h;rw [if_neg ho] at h;exact absurd h (zdg q)
theorem zkp {m:BitVec 64}{o q:Int}(h:z9 (m|||bit o) q=true):z9 m q=true\/q=o:=((Vi _ _ _).1 h).imp id zyj
theorem zxj (t:zp) (o:Int):wQ t o=2↔z9 t.Marks o=true/\z9 t.Black o=true:=by
 unfold wQ
 cases h:z9 (t.Marks&&&t.Black) o with
 | true=>simp only [if_true,true_iff];exact (zcG _ _ o).1 h
 | false =>
  have hn: ¬(z9 t.Marks o=true/\z9 t.Black o=true):=fun e=>by rw [(zcG _ _ o).2 e] at h;cases h
  simp only [zHm,if_false]
  constructor
  ·intro e;split at e<;>omega
  ·intro e;exact absurd e hn
theorem zg1 (t:zp) (o:Int):(vw t o).1.Black=t.Black/\((vw t o).1.Marks=t.Marks\/(vw t o).1.Marks=t.Marks|||bit o):=by
 unfold vw
 split
 ·exact ⟨rfl,.inl rfl⟩
 split
 ·exact ⟨rfl,.inr rfl⟩
 ·exact ⟨rfl,.inl rfl⟩
theorem zm1 (t:zp) (o:Int):(wJ t o).Marks=t.Marks/\((wJ t o).Black=t.Black\/((wJ t o).Black=t.Black|||bit o/\z9 t.Marks o=true)):=by
 unfold wJ
 split
 ·rename_i h;exact ⟨rfl,.inr ⟨rfl,((WZ t o).1 h).1⟩⟩
 ·exact ⟨rfl,.inl rfl⟩
theorem zBW (s:za) (g:zu):(zx s g).1.T=s.T\/(zx s g).1.T=(vw s.T g.Obj).1:=by
 unfold zx
 split
 ·exact .inl rfl
 split
 ·exact .inl rfl
 split
 ·exact .inl rfl
 split
 ·exact .inl rfl
 split
 ·exact .inl rfl
 split
 ·exact .inl rfl
 split
 ·exact .inl rfl
 split
 ·exact .inr rfl
 ·exact .inl rfl
theorem zsG (s:za) (m:Int) (x:zc) :
  ((zA s m x).1.H.Objs.length=s.H.Objs.length/\((zA s m x).1.T=s.T\/((zA s m x).1.T=(vw s.T x.G.Obj).1/\(x.PC=3\/x.PC=37))\/(zA s m x).1.T=wJ s.T x.Obj) /\
   ((zA s m x).1.L=s.L\/(∃w,(zA s m x).1.L=(zcy s.L m w).1)\/(zA s m x).1.L=zcz s.L m)) \/
  ((zA s m x).1.H=Z7 s.H/\(zA s m x).1.T=XS s.T (wc (s.H.Objs.length+1))/\(zA s m x).1.L=zb9 s.L m s.P.Price/\zfc s.L m s.P.Price s.P.Limit=true/\Xy s.H s.P.Most=true):=by
 refine uq (motive:=fun r=>(r.1.H.Objs.length=s.H.Objs.length/\(r.1.T=s.T\/(r.1.T=(vw s.T x.G.Obj).1/\(x.PC=3\/x.PC=37))\/r.1.T=wJ s.T x.Obj)/\(r.1.L=s.L\/(∃w,r.1.L=(zcy s.L m w).1)\/r.1.L=zcz s.L m)) \/
  (r.1.H=Z7 s.H/\r.1.T=XS s.T (wc (s.H.Objs.length+1))/\r.1.L=zb9 s.L m s.P.Price/\zfc s.L m s.P.Price s.P.Limit=true/\Xy s.H s.P.Most=true)) s m x ?_ ?_ ?_ ?_ ?_ ?_ ?_ ?_ ?_ ?_ ?_ ?_ ?_ ?_ ?_ ?_ ?_ ?_ ?_ ?_
 ·intro c;exact .inl ⟨rfl,.inl rfl,.inl rfl⟩
 ·intro c;exact .inl ⟨rfl,.inl rfl,.inl rfl⟩
 ·intro c;exact .inl ⟨rfl,.inl rfl,.inl rfl⟩
 ·intro c;unfold mu3
  refine .inl ⟨by rw [zbm],(zBW s x.G).imp id (fun h=>.inl ⟨h,.inl c⟩),.inl (by rw [zbm])⟩
 ·intro c;exact .inl ⟨rfl,.inl rfl,.inl rfl⟩
 ·intro c;exact .inl ⟨rfl,.inl rfl,.inl rfl⟩
 ·intro c;exact .inl ⟨rfl,.inl rfl,.inl rfl⟩
 ·intro c;exact .inl ⟨rfl,.inl rfl,.inl rfl⟩
 ·intro c;exact .inl ⟨zeT _ _ _ _,.inl rfl,.inl rfl⟩
 ·intro c;unfold zh0
  split
  ·split
   ·rename_i h1 h2;exact .inr ⟨rfl,rfl,rfl,h1,h2⟩
   ·exact .inl ⟨rfl,.inl rfl,.inl rfl⟩
  ·exact .inl ⟨rfl,.inl rfl,.inl rfl⟩
 ·intro c;exact .inl ⟨rfl,.inl rfl,.inr (.inl ⟨_,rfl⟩)⟩
 ·intro c;exact .inl ⟨rfl,.inl rfl,.inl rfl⟩
 ·intro c;exact .inl ⟨rfl,.inl rfl,.inl rfl⟩
 ·intro c;exact .inl ⟨rfl,.inl rfl,.inl rfl⟩
 ·intro c;exact .inl ⟨rfl,.inl rfl,.inl rfl⟩
 ·intro c;exact .inl ⟨rfl,.inl rfl,.inl rfl⟩
 ·intro c;unfold zke
  refine .inl ⟨by rw [zbm],(zBW s x.G).imp id (fun h=>.inl ⟨h,.inr c⟩),.inl (by rw [zbm])⟩
 ·intro c;exact .inl ⟨rfl,.inr (.inr rfl),.inr (.inr rfl)⟩
 ·intro c;exact .inl ⟨rfl,.inl rfl,.inl rfl⟩
 ·exact .inl ⟨rfl,.inl rfl,.inl rfl⟩
def zbq (n:Int) (x:zc):Prop:=(∀v∈x.Buf,v<=n)/\x.Old<=n/\(x.PC=3\/x.PC=37->x.G.Obj<=n)
theorem zyD {h:zt}{n:Int}(h0:0<=n) (hv:∀l∈h.Objs,∀v∈l,v<=n) (o i:Int):xC h o i<=n:=by
 unfold xC
 split
 ·rw [zGS]
  cases hx:(zX h o)[i.toNat]? with
  | none=>exact h0
  | some v =>
   have hm:=zGX hx
   unfold zX at hm
   rw [zGS] at hm
   cases hy:h.Objs[(o-1).toNat]? with
   | none=>rw [hy] at hm;cases hm
   | some l=>rw [hy] at hm;exact hv l (zGX hy) v hm
 ·exact h0
theorem zwh {p:zb}{nb:Nat}{s:za}{m:Int}{x:zc}(X:XOk p nb m x) {n:Int}(h0:0<=n) (hv:∀l∈s.H.Objs,∀v∈l,v<=n) (B:zbq n x):zbq n (zA s m x).2:=by
 obtain ⟨b1,b2,b3⟩:=B
 have no:∀ {y:zc},(∀v∈y.Buf,v<=n)->y.Old<=n->¬(y.PC=3\/y.PC=37)->zbq n y:=fun h1 h2 h3=>⟨h1,h2,fun e=>absurd e h3⟩
 refine uq (motive:=fun r=>zbq n r.2) s m x ?_ ?_ ?_ ?_ ?_ ?_ ?_ ?_ ?_ ?_ ?_ ?_ ?_ ?_ ?_ ?_ ?_ ?_ ?_ ?_
 ·intro c;unfold mu0 zdT
  repeat' split
  all_goals exact no b1 b2 (by dsimp only [setM];omega)
 ·intro c;unfold mu1;dsimp only
  split
  ·exact no b1 b2 (by have:=X.ret (.inl c);show ¬(x.Ret=3\/x.Ret=37);omega)
  ·rename_i hl
   refine ⟨fun v hv=>b1 v (zIi hv),b2,fun _=>?_⟩
   show x.Buf.getD (x.Buf.length-1) 0<=n
   rw [zGS,zGP (show x.Buf.length-1<x.Buf.length by omega)]
   exact b1 _ (zHn _)
 ·intro c;unfold mu2;exact no b1 b2 (by show ¬((0:Int)=3\/(0:Int)=37);decide)
 ·intro c;unfold mu3;dsimp only
  split
  ·exact no b1 b2 (by show ¬((1:Int)=3\/(1:Int)=37);decide)
  ·exact ⟨b1,b2,fun _=>by show (zx s x.G).2.Obj<=n;rw [(UE s x.G).1];exact b3 (.inl c)⟩
 ·intro c;unfold zou;exact no b1 b2 (by show ¬((0:Int)=3\/(0:Int)=37);decide)
 ·intro c;unfold zmQ;dsimp only
  split
  ·exact no b1 b2 (by show ¬((0:Int)=3\/(0:Int)=37);decide)
  ·exact no b1 (zyD h0 hv _ _) (by show ¬((21:Int)=3\/(21:Int)=37);decide)
 ·intro c;unfold zmT;dsimp only
  split
  ·exact no b1 h0 (by show ¬((23:Int)=3\/(23:Int)=37);decide)
  ·exact no b1 b2 (by show ¬((22:Int)=3\/(22:Int)=37);decide)
 ·intro c;unfold zl4;dsimp only
  split
  ·exact no b1 b2 (by show ¬((1:Int)=3\/(1:Int)=37);decide)
  ·refine no (fun v hv=>?_) h0 (by show ¬((23:Int)=3\/(23:Int)=37);decide)
   rcases zG8.1 hv with h | h
   ·exact b1 v h
   ·rw [zHq.1 h];exact b2
 ·intro c;unfold zow;exact no b1 b2 (by show ¬((0:Int)=3\/(0:Int)=37);decide)
 ·intro c;unfold zh0
  split
  ·split
   ·exact no b1 b2 (by show ¬((0:Int)=3\/(0:Int)=37);decide)
   ·exact no b1 b2 (by show ¬((0:Int)=3\/(0:Int)=37);decide)
  ·exact no b1 b2 (by show ¬((31:Int)=3\/(31:Int)=37);decide)
 ·intro c;unfold zmd;dsimp only
  split
  ·exact no b1 b2 (by show ¬((32:Int)=3\/(32:Int)=37);decide)
  ·exact no b1 b2 (by show ¬((0:Int)=3\/(0:Int)=37);decide)
 ·intro c;unfold zmy;dsimp only
  split
  ·exact no b1 b2 (by show ¬((33:Int)=3\/(33:Int)=37);decide)
  split
  ·exact no b1 b2 (by show ¬((0:Int)=3\/(0:Int)=37);decide)
  ·exact no b1 b2 (by show ¬(x.PC=3\/x.PC=37);omega)
 ·intro c;unfold znP;exact no b1 b2 (by show ¬((34:Int)=3\/(34:Int)=37);decide)
 ·intro c;unfold zmF;dsimp only
  split
  ·exact no b1 b2 (by show ¬((35:Int)=3\/(35:Int)=37);decide)
  ·exact no b1 b2 (by show ¬(x.PC=3\/x.PC=37);omega)
 ·intro c;unfold zmv;dsimp only
  split
  ·exact no b1 b2 (by show ¬((0:Int)=3\/(0:Int)=37);decide)
  ·exact no b1 b2 (by show ¬((36:Int)=3\/(36:Int)=37);decide)
 ·intro c;unfold zm0;dsimp only
  split
  ·exact no b1 b2 (by have:=zg6 s (wc (x.Slot+1));show ¬(onM s (wc (x.Slot+1))=3\/onM s (wc (x.Slot+1))=37);omega)
  ·exact ⟨b1,b2,fun _=>zyD h0 hv _ _⟩
 ·intro c;unfold zke;dsimp only
  split
  ·exact no b1 b2 (by have:=zg6 s x.Slot;show ¬(onM s x.Slot=3\/onM s x.Slot=37);omega)
  ·exact ⟨b1,b2,fun _=>by show (zx s x.G).2.Obj<=n;rw [(UE s x.G).1];exact b3 (.inr c)⟩
 ·intro c;unfold zod;exact no b1 b2 (by show ¬((39:Int)=3\/(39:Int)=37);decide)
 ·intro c;unfold zpJ;exact no b1 b2 (by show ¬((35:Int)=3\/(35:Int)=37);decide)
 ·exact ⟨b1,b2,b3⟩
theorem zq3:∀(l:List Int) (i:Nat) (v:Int),i<l.length->(l.set i v).sum=l.sum-l.getD i 0+v
 | [],i,v,h=>by simp at h
 | a::l,0,v,h=>by simp only [List.set_cons_zero,List.sum_cons,List.getD_cons_zero];omega
 | a::l,i+1,v,h=>by
  simp only [List.set_cons_succ,List.sum_cons,List.getD_cons_succ,zq3 l i v (by simpa using h)];omega
structure LdI (p:zb) (k d:Int) (l:zk):Prop where
 pool:l.Pool=0
 sc:0<=l.Scanned/\l.Scanned<=k
 sp:l.Spent=p.Price*d
 bal:∀b∈l.Bal,-p.Limit<=b/\b<=k
 sum:l.Bal.sum=l.Scanned-l.Spent
theorem LdI.more {p:zb}{k d:Int}{l:zk}(I:LdI p k d l):LdI p (k+1) d l :=
 ⟨I.pool,by have:=I.sc;omega,I.sp,fun b hb=>by have:=I.bal b hb;omega,I.sum⟩
theorem zCM {l:List Int}{i:Nat}(h:i<l.length):l.getD i 0∈l:=by
 rw [zGS,zGP h];exact zHn h
theorem LdI.take {p:zb}{k d:Int}{l:zk}(I:LdI p k d l) (m w:Int):(zcy l m w).1=l:=by
 unfold zcy zmN
 rw [if_neg]
 rintro ⟨_,h⟩
 rw [I.pool] at h
 split at h<;>omega
theorem LdI.earn {p:zb}(hp:zB p) {k d:Int}(hk:0<=k/\k<=1000) {l:zk}(I:LdI p k d l) {m:Int}(hm:1<=m/\m<=(l.Bal.length:Int)):LdI p (k+1) d (zcz l m):=by
 have hsc:=I.sc
 have hl:=hp.limit
 have hb:=I.bal _ (zCM (l:=l.Bal) (i:=(m-1).toNat) (by omega))
 unfold zcz
 rw [if_pos hm]
 have w1:wc (l.Scanned+1)=l.Scanned+1:=xu (by omega) (by omega)
 have w2:wc (l.Bal.getD (m-1).toNat 0+1)=l.Bal.getD (m-1).toNat 0+1:=xu (by omega) (by omega)
 rw [w1,w2]
 refine ⟨I.pool,by dsimp only;omega,I.sp,fun b hb'=>?_,?_⟩
 ·rcases zHS hb' with h | rfl
  ·have:=I.bal b h;omega
  ·omega
 ·dsimp only
  rw [zq3 _ _ _ (by omega),I.sum];omega
theorem zB1 {a d:Int}(h:0<=a/\a<=3):a*(d+1)=a*d+a:=by rw [Int.mul_add,Int.mul_one]
theorem zDG {a d:Int}(h:0<=a/\a<=3) (hd:0<=d/\d<=10):0<=a*d/\a*d<=30:=by
 refine ⟨Int.mul_nonneg h.1 hd.1,?_⟩
 have:=Int.mul_le_mul h.2 hd.2 hd.1 (by decide:(0:Int)<=3)
 omega
theorem LdI.spend {p:zb}(hp:zB p) {k d:Int}(hk:0<=k/\k<=1000) (hd:0<=d/\d<=9) {l:zk}(I:LdI p k d l) {m:Int}(h:zfc l m p.Price p.Limit=true):LdI p (k+1) (d+1) (zb9 l m p.Price):=by
 have hsc:=I.sc
 have hl:=hp.limit
 have hpr:=hp.price
 have hsp:=zDG hpr (d:=d) (by omega)
 have e1:=I.sp
 unfold zfc U7 US at h
 simp only [zGO,decide_eq_true_eq] at h
 obtain ⟨⟨⟨⟨⟨⟨m1,m2⟩,_⟩,_⟩,_⟩,_⟩,h⟩:=h
 have hb:=I.bal _ (zCM (l:=l.Bal) (i:=(m-1).toNat) (by omega))
 unfold zbh at h
 rw [xu (by omega) (by omega),xu (by omega) (by omega)] at h
 unfold zb9 zbh
 rw [xu (by omega) (by omega),xu (by omega) (by omega)]
 refine ⟨I.pool,by dsimp only;omega,?_,fun b hb'=>?_,?_⟩
 ·dsimp only;rw [zB1 hpr];omega
 ·rcases zHS hb' with h2 | rfl
  ·have:=I.bal b h2;omega
  ·omega
 ·dsimp only
  rw [zq3 _ _ _ (by omega),I.sum];omega
structure NwI (p:zb) (k:Int) (s:za):Prop where
 mrk:∀o,z9 s.T.Marks o=true->o<=(s.H.Objs.length:Int)
 bm:∀o,z9 s.T.Black o=true->z9 s.T.Marks o=true
 bk:∀o,(p.H.Objs.length:Int)<o->o<=(s.H.Objs.length:Int)->wQ s.T o=2
 buf:∀x∈s.Ms,zbq (s.H.Objs.length:Int) x
 bl:s.L.Bal.length=s.Ms.length
 L:LdI p k ((s.H.Objs.length:Int)-(p.H.Objs.length:Int)) s.L
theorem zC0 (l:zk) (m:Int):(zcz l m).Bal.length=l.Bal.length:=by unfold zcz;split<;>simp
theorem NwI.step {p:zb}{nb:Nat}(hp:zB p) {k:Int}(hk:0<=k/\k<=1000) {s:za}(E:EOk p nb s) (I:NwI p k s) (m:Int):NwI p (k+1) (yJ s m):=by
 have hN:=E.H.n
 have hM:=hp.most
 have hn6:=hp.n
 unfold yJ
 split
 ·exact ⟨I.mrk,I.bm,I.bk,I.buf,I.bl,I.L.more⟩
 rename_i hne
 cases hx:s.Ms[(m-1).toNat]? with
 | none=>exact ⟨I.mrk,I.bm,I.bk,I.buf,I.bl,I.L.more⟩
 | some x =>
  have hm:1<=m/\m<=(s.Ms.length:Int):=by omega
  have X:=E.X _ x hx
  have B:=I.buf x (zGX hx)
  have em:(((m-1).toNat:Nat):Int)+1=m:=by omega
  rw [em] at X
  have B':=zwh (s:=s) X (n:=(s.H.Objs.length:Int)) (by omega) (fun l hl v hv=>((E.H.objs l hl).2 v hv).2) B
  have bufs:∀N':Int,(s.H.Objs.length:Int)<=N'->∀y∈s.Ms.set (m-1).toNat (zA s m x).2,zbq N' y:=fun N' hN' y hy=>by
   have up:∀ {z:zc},zbq (s.H.Objs.length:Int) z->zbq N' z:=fun ⟨a,b,c⟩=>⟨fun v hv=>by have:=a v hv;omega,by omega,fun e=>by have:=c e;omega⟩
   rcases zHS hy with h | rfl
   ·exact up (I.buf y h)
   ·exact up B'
  have hL:=I.L
  rcases zsG s m x with ⟨k1,k2,k3⟩ | ⟨k1,k2,k3,k4,k5⟩
  ·refine ⟨fun o ho=>?_,fun o ho=>?_,fun o h1 h2=>?_,?_,?_,?_⟩
   ·dsimp only at ho ⊢
    rw [k1]
    rcases k2 with e | ⟨e,hpc⟩ | e
    ·rw [e] at ho;exact I.mrk o ho
    ·rw [e] at ho
     rcases (zg1 s.T x.G.Obj).2 with e2 | e2
     ·rw [e2] at ho;exact I.mrk o ho
     ·rw [e2] at ho
      rcases zkp ho with h | rfl
      ·exact I.mrk o h
      ·exact B.2.2 hpc
    ·rw [e,(zm1 s.T x.Obj).1] at ho;exact I.mrk o ho
   ·dsimp only at ho ⊢
    rcases k2 with e | ⟨e,hpc⟩ | e
    ·rw [e] at ho ⊢;exact I.bm o ho
    ·rw [e] at ho ⊢
     rw [(zg1 s.T x.G.Obj).1] at ho
     have:=I.bm o ho
     rcases (zg1 s.T x.G.Obj).2 with e2 | e2
     ·rw [e2];exact this
     ·rw [e2];exact (Vi _ _ _).2 (.inl this)
    ·rw [e] at ho ⊢
     rw [(zm1 s.T x.Obj).1]
     rcases (zm1 s.T x.Obj).2 with e2 | ⟨e2,h3⟩
     ·rw [e2] at ho;exact I.bm o ho
     ·rw [e2] at ho
      rcases zkp ho with h | rfl
      ·exact I.bm o h
      ·exact h3
   ·dsimp only at h2 ⊢
    rw [k1] at h2
    have h:=(zxj _ _).1 (I.bk o h1 h2)
    rw [zxj]
    rcases k2 with e | ⟨e,hpc⟩ | e
    ·rw [e];exact h
    ·rw [e,(zg1 s.T x.G.Obj).1]
     refine ⟨?_,h.2⟩
     rcases (zg1 s.T x.G.Obj).2 with e2 | e2
     ·rw [e2];exact h.1
     ·rw [e2];exact (Vi _ _ _).2 (.inl h.1)
    ·rw [e,(zm1 s.T x.Obj).1]
     refine ⟨h.1,?_⟩
     rcases (zm1 s.T x.Obj).2 with e2 | ⟨e2,_⟩
     ·rw [e2];exact h.2
     ·rw [e2];exact (Vi _ _ _).2 (.inl h.2)
   ·dsimp only;rw [k1];exact bufs _ (zHA _)
   ·dsimp only
    rw [zHi]
    rcases k3 with e | ⟨w,e⟩ | e
    ·rw [e];exact I.bl
    ·rw [e,hL.take];exact I.bl
    ·rw [e,zC0];exact I.bl
   ·dsimp only
    rw [k1]
    rcases k3 with e | ⟨w,e⟩ | e
    ·rw [e];exact hL.more
    ·rw [e,hL.take];exact hL.more
    ·rw [e];exact hL.earn hp hk (by have:=I.bl;omega)
  ·have w:wc ((s.H.Objs.length:Int)+1)=(s.H.Objs.length:Int)+1:=xu (by omega) (by omega)
   have hal:=zp6 s.H
   have hP:=E.S.P
   have hr:(s.H.Objs.length:Int)<s.P.Most:=by
    unfold Xy at k5
    simp only [zGO,decide_eq_true_eq] at k5
    exact k5.1
   rw [hP] at hr k3 k4
   rw [w] at k2
   have nm: ¬z9 s.T.Marks ((s.H.Objs.length:Int)+1)=true:=fun e=>by have:=I.mrk _ e;omega
   have nb': ¬z9 s.T.Black ((s.H.Objs.length:Int)+1)=true:=fun e=>nm (I.bm _ e)
   have hsh:=zwl (t:=s.T) (o:=(s.H.Objs.length:Int)+1) (by omega) nm nb'
   have ht1:wQ {s.T with Marks:=s.T.Marks|||bit ((s.H.Objs.length:Int)+1)} ((s.H.Objs.length:Int)+1)=1 :=
    (WZ _ _).2 ⟨(wR _ (by omega) _).2 (.inr rfl),nb'⟩
   have hT:(zA s m x).1.T=⟨s.T.Marks|||bit ((s.H.Objs.length:Int)+1),s.T.Black|||bit ((s.H.Objs.length:Int)+1)⟩:=by
    rw [k2]
    unfold XS
    rw [hsh]
    dsimp only
    rw [if_pos rfl]
    unfold wJ
    rw [if_pos ht1]
   refine ⟨fun o ho=>?_,fun o ho=>?_,fun o h1 h2=>?_,?_,?_,?_⟩
   ·dsimp only at ho ⊢
    rw [k1,hal]
    rw [hT] at ho
    rcases zkp ho with h | rfl
    ·have:=I.mrk o h;omega
    ·omega
   ·dsimp only at ho ⊢
    rw [hT] at ho ⊢
    dsimp only at ho ⊢
    rw [Vi]
    rcases (Vi _ _ _).1 ho with h | h
    ·exact .inl (I.bm o h)
    ·exact .inr h
   ·dsimp only at h2 ⊢
    rw [k1,hal] at h2
    rw [zxj,hT]
    dsimp only
    by_cases ho:o<=(s.H.Objs.length:Int)
    ·have h:=(zxj _ _).1 (I.bk o h1 ho)
     exact ⟨(Vi _ _ _).2 (.inl h.1),(Vi _ _ _).2 (.inl h.2)⟩
    ·have:o=(s.H.Objs.length:Int)+1:=by omega
     subst this
     exact ⟨(wR _ (by omega) _).2 (.inr rfl),(wR _ (by omega) _).2 (.inr rfl)⟩
   ·dsimp only;rw [k1,hal];exact bufs _ (by omega)
   ·dsimp only
    rw [zHi,k3]
    unfold zb9
    rw [zHi]
    exact I.bl
   ·dsimp only
    rw [k3,k1,hal]
    have:=hL.spend hp hk (by omega) k4
    have e:((s.H.Objs.length+1:Nat):Int)-(p.H.Objs.length:Int)=(s.H.Objs.length:Int)-(p.H.Objs.length:Int)+1:=by omega
    rw [e]
    exact this
end
end Go.Pe.G
namespace Go.Pe.G
open Go.Pe
noncomputable section
def vv (p:zb) (s:za) (g:Gh):List Int:=yo p s g++(s.Ws.flatMap (zH s)++s.Ms.flatMap (zV s))
structure FG (p:zb) (nb k:Nat) (s:za) (gh:Gh):Prop where
 E:EOk p nb s
 X:SX p nb s gh (s.Ws.flatMap we++s.Ms.flatMap uc) k
 W:∀(i:Nat) x,s.Ws[i]? =some x->WX p s gh ((i:Int)+1) x
 M:∀(i:Nat) x,s.Ms[i]? =some x->MX p s gh x
 B:zap (vv p s gh) s.T
 mrk:∀o,z9 s.T.Marks o=true->o<=(s.H.Objs.length:Int)
 wob:∀(i:Nat) x,s.Ws[i]? =some x->x.PC=6->x.G.Obj<=(s.H.Objs.length:Int)
 buf:∀x∈s.Ms,zbq (s.H.Objs.length:Int) x
 bk:∀o,(p.H.Objs.length:Int)<o->o<=(s.H.Objs.length:Int)->z9 s.T.Black o=true
 ne:∀y∈gh.F,ym s y≠[]
theorem FX.ne {p:zb}{nb k:Nat}{s s':za}{gh gh':Gh}{Y R:List Int}{O:Int->Prop}(X:SX p nb s gh (Y++R) k) (Fx:FX p nb Y O s s' gh gh') (h:∀y∈gh.F,ym s y≠[]):∀y∈gh'.F,ym s' y≠[]:=fun y hy =>
 (Fx.fb y hy).elim (fun hy=>by
  have h1:=zpR.1 (X.L.all.subset (zHa _ (zHa _ hy)))
  have h2:y∉Y:=fun e=>(X.L.notF (zHa _ e)).1 hy
  have:=Fx.bn y h1.1 h2
  unfold ym
  rw [this];exact h y hy) id
theorem MX.state {p:zb}{s s':za}{gh:Gh}{x:zc}(W:MX p s gh x) (hm:s'.M=s.M) (hb:s'.Bins=s.Bins):MX p s' gh x :=
 ⟨W.bt,W.bf,W.ol,fun e=>⟨(W.p3 e).1.state hm hb,(W.p3 e).2⟩,by rw [hm];exact W.p32,by rw [hm];exact W.p34,fun e=>⟨(W.p37 e).1.state hm hb,(W.p37 e).2⟩⟩
theorem zga {s s':za}{x:zc}(hb:s'.Bins=s.Bins):zV s' x=zV s x:=by
 unfold zV zbO ym;rw [hb]
def zii (s s':za):Prop :=
 (s'.T=s.T/\s'.H.Objs.length=s.H.Objs.length) \/
 (∃o,(1<=o/\o<=(s.H.Objs.length:Int))/\¬z9 s.T.Marks o=true/\s'.T={s.T with Marks:=s.T.Marks|||bit o}/\s'.H=s.H) \/
 (∃o,wQ s.T o=1/\s'.T={s.T with Black:=s.T.Black|||bit o}/\s'.H=s.H) \/
 (s'.H=Z7 s.H/\(s.H.Objs.length:Int)<9/\s'.T=⟨s.T.Marks|||bit ((s.H.Objs.length:Int)+1),s.T.Black|||bit ((s.H.Objs.length:Int)+1)⟩)
theorem FG.tints {p:zb}{nb k:Nat}{s:za}{gh:Gh}(G:FG p nb k s gh) {s':za}(F:zii s s') :
  (∀o,z9 s'.T.Marks o=true->o<=(s'.H.Objs.length:Int))/\(∀o,(p.H.Objs.length:Int)<o->o<=(s'.H.Objs.length:Int)->z9 s'.T.Black o=true):=by
 rcases F with ⟨e,h⟩ | ⟨o,ho,hn,e,h⟩ | ⟨o,ho,e,h⟩ | ⟨h,hl,e⟩
 ·rw [e,h];exact ⟨G.mrk,G.bk⟩
 ·rw [e,h]
  refine ⟨fun q hq=>?_,G.bk⟩
  rcases zkp hq with hq | rfl
  ·exact G.mrk q hq
  ·exact ho.2
 ·rw [e,h]
  exact ⟨G.mrk,fun q h1 h2=>(Vi _ _ _).2 (.inl (G.bk q h1 h2))⟩
 ·rw [e,h]
  have hal:=zp6 s.H
  refine ⟨fun q hq=>?_,fun q h1 h2=>?_⟩
  ·rcases zkp hq with hq | rfl
   ·have:=G.mrk q hq;omega
   ·omega
  ·dsimp only
   by_cases hq:q<=(s.H.Objs.length:Int)
   ·exact (Vi _ _ _).2 (.inl (G.bk q h1 hq))
   ·have:q=(s.H.Objs.length:Int)+1:=by omega
    subst this
    exact (wR _ (by omega) _).2 (.inr rfl)
theorem FG.det {p:zb}(hp:zB p) {nb k:Nat}{s:za}{gh:Gh}(G:FG p nb k s gh) (hd:({xB s with Epoch:=s.Epoch,Flag:=s.Flag,Done:=s.Done,Restarts:=s.Restarts,D:=s.D}:za)=s):FG p nb (k+1) (xB s) gh:=by
 have hE:=zEd hp G.E
 have eM:(xB s).M=s.M:=by conv=>rhs;rw [<-hd]
 have eB:(xB s).Bins=s.Bins:=by conv=>rhs;rw [<-hd]
 have eT:(xB s).T=s.T:=by conv=>rhs;rw [<-hd]
 have eH:(xB s).H=s.H:=by conv=>rhs;rw [<-hd]
 have eW:(xB s).Ws=s.Ws:=by conv=>rhs;rw [<-hd]
 have eX:(xB s).Ms=s.Ms:=by conv=>rhs;rw [<-hd]
 refine ⟨hE,?_,?_,?_,?_,by rw [eT,eH];exact G.mrk,by rw [eW,eH];exact G.wob,by rw [eX,eH];exact G.buf,by rw [eT,eH];exact G.bk,by unfold ym;rw [eB];exact G.ne⟩
 ·rw [eW,eX];exact G.X.quiet hE.S eM
 ·rw [eW];exact fun i x hx=>(G.W i x hx).state eM eB
 ·rw [eX];exact fun i x hx=>(G.M i x hx).state eM eB
 ·have e:vv p (xB s) gh=vv p s gh:=by
   unfold vv
   rw [eW,eX,uQ eB,xz (fun x _=>zb4 (x:=x) eM eB),xz (fun x _=>zga (x:=x) eB)]
  rw [e,eT];exact G.B
theorem FG.worker {p:zb}(hp:zB p) {nb k:Nat}{s:za}{gh:Gh}(hk:k<4294960000) (G:FG p nb k s gh) {w:Int}(hw:1<=w/\w<=p.Workers) (hd:s.Done=false):∃gh',FG p nb (k+1) (yz s w) gh'/\zii s (yz s w) /\
  ∃x,s.Ws[(w-1).toNat]? =some x/\∃N C,List.Perm (vv p (yz s w) gh'++C) (N++vv p s gh)/\((N=[]/\C=[]/\(zo s w x).1.T=s.T)\/(N=[x.G.Obj]/\C=[]/\x.PC=6/\¬(s.T.Marks|||bit x.G.Obj=s.T.Marks)/\(zo s w x).1.T={s.T with Marks:=s.T.Marks|||bit x.G.Obj})\/(N=[]/\C=[x.Obj]/\x.PC=8/\(zo s w x).1.T=wJ s.T x.Obj)):=by
 have hE:=zsb hp G.E w
 have hwl:=G.E.wl
 have e0: ¬(s.Done=true\/w<1\/(s.Ws.length:Int)<w):=by rw [hd];rintro (e | e | e)<;>first | cases e | omega
 revert hE
 unfold yz
 rw [if_neg e0]
 have hi:(w-1).toNat<s.Ws.length:=by omega
 have hx:=zGP hi
 generalize s.Ws[(w-1).toNat]=x at hx
 rw [hx]
 dsimp only
 intro hE
 obtain ⟨a,b,el,es,hab,hba⟩:=zsp hx
 have ei:(((w-1).toNat:Nat):Int)+1=w:=by omega
 have hWX:=G.W _ x hx
 have hWO:=G.E.W _ x hx
 rw [ei] at hWX hWO
 have hfr:=zuz (s:=s) hWO
 have eH:(zo s w x).1.H=s.H:=by rw [hfr]
 have eMs:(zo s w x).1.Ms=s.Ms:=by rw [hfr]
 have X0:SX p nb s gh (we x++((a++b).flatMap we++s.Ms.flatMap uc)) k:=by
  refine G.X.perm ?_
  rw [<-zGR]
  refine zH9 _ ?_
  conv=>rhs;rw [el]
  exact u9.symm
 obtain ⟨gh',X',W',Fx,N,C,hN,hT⟩:=zEb hp hk hw X0 hWO hWX (fun o i=>G.E.H.get hp o i)
 have hoth:∀(j:Nat) y,j≠(w-1).toNat->s.Ws[j]? =some y->WX p (zo s w x).1 gh' ((j:Int)+1) y/\zH (zo s w x).1 y=zH s y:=by
  intro j y hj hy
  have hjl:=(zG1.1 hy).1
  exact WX.other hp (w:=(j:Int)+1) (by omega) X0 Fx (G.W j y hy) (G.E.W j y hy) (fun z hz=>zHa _ (zIh.2 ⟨y,hba j y hj hy,hz⟩)) (fun e=>hj (by omega))
 have hmut:∀(j:Nat) y,s.Ms[j]? =some y->MX p (zo s w x).1 gh' y/\zV (zo s w x).1 y=zV s y:=by
  intro j y hy
  exact MX.other hp X0 Fx (G.M j y hy) (G.E.X j y hy) (fun z hz=>zHr _ (zIh.2 ⟨y,zGX hy,hz⟩))
 have hbag:List.Perm (vv p {(zo s w x).1 with Ws:=s.Ws.set (w-1).toNat (zo s w x).2} gh'++C) (N++vv p s gh):=by
  unfold vv
  have q2:(s.Ws.set (w-1).toNat (zo s w x).2).flatMap (zH {(zo s w x).1 with Ws:=s.Ws.set (w-1).toNat (zo s w x).2})=(a++(zo s w x).2::b).flatMap (zH (zo s w x).1):=by
   rw [es];exact xz (fun y _=>zb4 rfl rfl)
  have q3:(a++b).flatMap (zH (zo s w x).1)=(a++b).flatMap (zH s):=xz (fun y hy=>by
   obtain ⟨j,hj,hjy⟩:=hab y hy
   exact (hoth j y hj hjy).2)
  have q4:(zo s w x).1.Ms.flatMap (zV {(zo s w x).1 with Ws:=s.Ws.set (w-1).toNat (zo s w x).2})=s.Ms.flatMap (zV s):=by
   rw [eMs]
   refine xz (fun y hy=>?_)
   obtain ⟨j,hj⟩:=List.mem_iff_getElem?.1 hy
   exact (zga (s:=(zo s w x).1) rfl).trans (hmut j y hj).2
  show List.Perm (yo p (zo s w x).1 gh'++((s.Ws.set (w-1).toNat (zo s w x).2).flatMap (zH {(zo s w x).1 with Ws:=s.Ws.set (w-1).toNat (zo s w x).2})++(zo s w x).1.Ms.flatMap (zV {(zo s w x).1 with Ws:=s.Ws.set (w-1).toNat (zo s w x).2}))++C) _
  rw [q2,q4]
  have r1:List.Perm (yo p (zo s w x).1 gh'++((a++(zo s w x).2::b).flatMap (zH (zo s w x).1)++s.Ms.flatMap (zV s))++C) (((a++b).flatMap (zH s)++s.Ms.flatMap (zV s))++(yo p (zo s w x).1 gh'++zH (zo s w x).1 (zo s w x).2++C)):=by
   refine ((zG0 _ (zH9 _ u9)).append_right C).trans ?_
   rw [q3]
   generalize (a++b).flatMap (zH s)=u
   generalize s.Ms.flatMap (zV s)=v
   generalize yo p (zo s w x).1 gh'=y
   generalize zH (zo s w x).1 (zo s w x).2=z
   have:List.Perm (y++(z++(u++v))++C) ((u++v)++(y++z++C)):=by
    generalize u++v=q
    rw [zGR,zGR,zGR]
    refine (zG0 _ (zHe _ _ _)).trans ?_
    exact (zHe _ _ _)
   rw [zGR z u v]
   exact this
  have r2:List.Perm (N++(yo p s gh++(s.Ws.flatMap (zH s)++s.Ms.flatMap (zV s)))) (((a++b).flatMap (zH s)++s.Ms.flatMap (zV s))++(N++(yo p s gh++zH s x))):=by
   conv=>lhs;rw [el]
   refine (zG0 _ (zG0 _ (zH9 _ u9))).trans ?_
   generalize (a++b).flatMap (zH s)=u
   generalize s.Ms.flatMap (zV s)=v
   generalize yo p s gh=y
   generalize zH s x=z
   rw [zGR z u v]
   generalize u++v=q
   refine (zG0 _ ?_).trans (zHe _ _ _)
   rw [<-zGR]
   exact zHx
  exact r1.trans ((zG0 _ hN).trans r2.symm)
 have hFM:zii s {(zo s w x).1 with Ws:=s.Ws.set (w-1).toNat (zo s w x).2}/\zap (vv p {(zo s w x).1 with Ws:=s.Ws.set (w-1).toNat (zo s w x).2} gh') (zo s w x).1.T:=by
  rcases hT with ⟨e1,e2,t1⟩ | ⟨e1,e2,t1,t2,t3⟩ | ⟨e1,e2,t1,t2⟩
  ·rw [e1,e2,zGQ,zGY] at hbag
   refine ⟨.inl ⟨t1,congrArg (fun h:zt=>h.Objs.length) eH⟩,⟨?_,hbag.nodup_iff.2 G.B.nd,fun o=>?_⟩⟩
   ·rw [t1];exact G.B.blk
   ·rw [t1,hbag.mem_iff];exact G.B.gr o
  ·have ho:=((hWX.p6 t1).1).ob
   rw [e1,e2,zGQ] at hbag
   refine ⟨.inr (.inl ⟨x.G.Obj,⟨ho.1,G.wob _ x hx t1⟩,(zdW ho).1 t2,t3,eH⟩),?_⟩
   rw [t3]
   exact G.B.more ho t2 hbag
  ·rw [e1,e2,zGY] at hbag
   obtain ⟨b1,b2,b3,b4⟩:=G.B.less hbag
   refine ⟨.inr (.inr (.inl ⟨x.Obj,b3,?_,eH⟩)),by rw [t2];exact b1⟩
   show (zo s w x).1.T=_
   rw [t2];unfold wJ;rw [if_pos b3]
 obtain ⟨hFM,hB⟩:=hFM
 obtain ⟨t1,t2⟩:=G.tints hFM
 refine ⟨gh',⟨hE,?_,fun j y hy=>?_,fun j y hy=>?_,hB,t1,fun j y hy h6=>?_,fun y hy=>?_,t2,fun y hy=>show ym (zo s w x).1 y≠[] from FX.ne X0 Fx G.ne y hy⟩,hFM,x,rfl,N,C,hbag,hT⟩
 ·refine (X'.state hE.S rfl).perm ?_
  show List.Perm ((s.Ws.set (w-1).toNat (zo s w x).2).flatMap we++(zo s w x).1.Ms.flatMap uc) _
  rw [es,eMs,<-zGR]
  exact zH9 _ u9
 ·have hy:(s.Ws.set (w-1).toNat (zo s w x).2)[j]? =some y:=hy
  by_cases hj:j=(w-1).toNat
  ·subst hj
   rw [zIs hi] at hy
   injection hy with hy
   rw [<-hy,ei]
   exact W'.state rfl rfl
  ·rw [zHu (fun e=>hj e.symm)] at hy
   exact (hoth j y hj hy).1.state rfl rfl
 ·have hy:(zo s w x).1.Ms[j]? =some y:=hy
  rw [eMs] at hy
  exact (hmut j y hy).1.state rfl rfl
 ·have hy:(s.Ws.set (w-1).toNat (zo s w x).2)[j]? =some y:=hy
  show y.G.Obj<=((zo s w x).1.H.Objs.length:Int)
  rw [eH]
  by_cases hj:j=(w-1).toNat
  ·subst hj
   rw [zIs hi] at hy
   injection hy with hy
   rw [<-hy] at h6 ⊢
   rcases zya s w x h6 with ⟨h,e⟩ | ⟨h,e⟩
   ·rw [e];exact G.wob _ x hx h
   ·rw [e];exact zyD (by omega) (fun l hl v hv=>((G.E.H.objs l hl).2 v hv).2) _ _
  ·rw [zHu (fun e=>hj e.symm)] at hy
   exact G.wob j y hy h6
 ·have hy:y∈(zo s w x).1.Ms:=hy
  show zbq ((zo s w x).1.H.Objs.length:Int) y
  rw [eMs] at hy
  rw [eH]
  exact G.buf y hy
theorem zyc (s:za) (m:Int) (x:zc):(zA s m x).1.H=s.H\/x.PC=23\/x.PC=30:=by
 refine uq (motive:=fun r=>r.1.H=s.H\/x.PC=23\/x.PC=30) s m x ?_ ?_ ?_ ?_ ?_ ?_ ?_ ?_ ?_ ?_ ?_ ?_ ?_ ?_ ?_ ?_ ?_ ?_ ?_ ?_
 all_goals first
  | exact fun _=>.inl rfl
  | exact fun c=>.inr (.inl c)
  | exact fun c=>.inr (.inr c)
  | (intro c;unfold mu3;exact .inl (by dsimp only;rw [zbm]))
  | (intro c;unfold zke;exact .inl (by dsimp only;rw [zbm]))
  | exact .inl rfl
theorem zyA {t:zp}{n:Int}(hn:1<=n/\n<=64) (nm: ¬z9 t.Marks n=true) (nb': ¬z9 t.Black n=true):XS t n=⟨t.Marks|||bit n,t.Black|||bit n⟩:=by
 have ht1:wQ {t with Marks:=t.Marks|||bit n} n=1:=(WZ _ _).2 ⟨(wR _ hn _).2 (.inr rfl),nb'⟩
 unfold XS
 rw [zwl hn nm nb']
 dsimp only
 rw [if_pos rfl]
 unfold wJ
 rw [if_pos ht1]
theorem zap.fresh {B B':List Int}{t:zp}{n:Int}(hn:1<=n/\n<=64) (nm: ¬z9 t.Marks n=true) (K:zap B t) (h:List.Perm B' B):zap B' ⟨t.Marks|||bit n,t.Black|||bit n⟩:=by
 refine ⟨fun o ho=>?_,h.nodup_iff.2 K.nd,fun o=>?_⟩
 ·rcases (wR _ hn o).1 ho with h | h
  ·exact (wR _ hn o).2 (.inl (K.blk o h))
  ·exact (wR _ hn o).2 (.inr h)
 ·rw [h.mem_iff,K.gr,WZ,WZ]
  dsimp only
  rw [wR _ hn,wR _ hn]
  constructor
  ·rintro ⟨a1,a2⟩
   refine ⟨.inl a1,fun e=>e.elim a2 (fun e=>?_)⟩
   rw [e] at a1;exact nm a1
  ·rintro ⟨a1,a2⟩
   exact ⟨a1.resolve_right (fun e=>a2 (.inr e)),fun e=>a2 (.inl e)⟩
theorem FG.mut_tint {p:zb}(hp:zB p) {nb k:Nat}{s:za}{gh:Gh}(G:FG p nb k s gh) {m:Int}{x:zc}(hMX:MX p s gh x) (hBI:zbq (s.H.Objs.length:Int) x) {l:List zc}{N C B':List Int}
  (hbag:List.Perm (B'++C) (N++vv p s gh))
  (hT:(N=[]/\C=[]/\(zA s m x).1.T=s.T)\/(N=[x.G.Obj]/\C=[]/\(x.PC=3\/x.PC=37)/\¬(s.T.Marks|||bit x.G.Obj=s.T.Marks)/\(zA s m x).1.T={s.T with Marks:=s.T.Marks|||bit x.G.Obj})\/(N=[]/\C=[x.Obj]/\x.PC=38/\(zA s m x).1.T=wJ s.T x.Obj) \/
   (N=[]/\C=[]/\x.PC=30/\Xy s.H s.P.Most=true/\(zA s m x).1.H=Z7 s.H/\(zA s m x).1.T=XS s.T (wc (s.H.Objs.length+1)))) :
  zii s {(zA s m x).1 with Ms:=l}/\zap B' (zA s m x).1.T:=by
 have hN0:=G.E.H.n
 have hM0:=hp.most
 have hn6:=hp.n
 have nm: ¬z9 s.T.Marks ((s.H.Objs.length:Int)+1)=true:=fun e=>by have:=G.mrk _ e;omega
 have nb': ¬z9 s.T.Black ((s.H.Objs.length:Int)+1)=true:=fun e=>nm (G.B.blk _ e)
 have hw:wc ((s.H.Objs.length:Int)+1)=(s.H.Objs.length:Int)+1:=xu (by omega) (by omega)
 rcases hT with ⟨e1,e2,t1⟩ | ⟨e1,e2,t1,t2,t3⟩ | ⟨e1,e2,t1,t2⟩ | ⟨e1,e2,t1,t2,t3,t4⟩
 ·rw [e1,e2,zGQ,zGY] at hbag
  refine ⟨.inl ⟨t1,?_⟩,⟨?_,hbag.nodup_iff.2 G.B.nd,fun o=>?_⟩⟩
  ·show (zA s m x).1.H.Objs.length=_
   rcases zsG s m x with h | ⟨h1,h2,_,_,h5⟩
   ·exact h.1
   ·exfalso
    rw [t1,hw,zyA (by omega) nm nb'] at h2
    have h3:=congrArg zp.Marks h2
    exact nm (by rw [h3];exact (wR _ (by omega) _).2 (.inr rfl))
  ·rw [t1];exact G.B.blk
  ·rw [t1,hbag.mem_iff];exact G.B.gr o
 ·have ho:1<=x.G.Obj/\x.G.Obj<=64:=by
   rcases t1 with h | h
   ·exact (hMX.p3 h).1.ob
   ·exact (hMX.p37 h).1.ob
  rw [e1,e2,zGQ] at hbag
  have eH:(zA s m x).1.H=s.H:=by
   rcases zyc s m x with h | h | h
   ·exact h
   ·omega
   ·omega
  refine ⟨.inr (.inl ⟨x.G.Obj,⟨ho.1,hBI.2.2 t1⟩,(zdW ho).1 t2,t3,eH⟩),?_⟩
  rw [t3]
  exact G.B.more ho t2 hbag
 ·rw [e1,e2,zGY] at hbag
  obtain ⟨b1,b2,b3,b4⟩:=G.B.less hbag
  have eH:(zA s m x).1.H=s.H:=by
   rcases zyc s m x with h | h | h
   ·exact h
   ·omega
   ·omega
  refine ⟨.inr (.inr (.inl ⟨x.Obj,b3,?_,eH⟩)),by rw [t2];exact b1⟩
  show (zA s m x).1.T=_
  rw [t2];unfold wJ;rw [if_pos b3]
 ·rw [e1,e2,zGQ,zGY] at hbag
  have hr:(s.H.Objs.length:Int)<s.P.Most:=by
   unfold Xy at t2
   simp only [zGO,decide_eq_true_eq] at t2
   exact t2.1
  rw [G.E.S.P] at hr
  have hTT:(zA s m x).1.T=⟨s.T.Marks|||bit ((s.H.Objs.length:Int)+1),s.T.Black|||bit ((s.H.Objs.length:Int)+1)⟩:=by
   rw [t4,hw,zyA (by omega) nm nb']
  refine ⟨.inr (.inr (.inr ⟨t3,by omega,hTT⟩)),?_⟩
  rw [hTT]
  exact G.B.fresh (by omega) nm hbag
theorem FG.mutator {p:zb}(hp:zB p) {nb k:Nat}{s:za}{gh:Gh}(hk:k<4294960000) (G:FG p nb k s gh) {m:Int}(hm:1<=m/\m<=p.Mutators) (hd:s.Done=false):∃gh',FG p nb (k+1) (yJ s m) gh'/\zii s (yJ s m) /\
  ∃x,s.Ms[(m-1).toNat]? =some x/\∃N C,List.Perm (vv p (yJ s m) gh'++C) (N++vv p s gh)/\((N=[]/\C=[]/\(zA s m x).1.T=s.T)\/(N=[x.G.Obj]/\C=[]/\(x.PC=3\/x.PC=37)/\¬(s.T.Marks|||bit x.G.Obj=s.T.Marks)/\(zA s m x).1.T={s.T with Marks:=s.T.Marks|||bit x.G.Obj})\/(N=[]/\C=[x.Obj]/\x.PC=38/\(zA s m x).1.T=wJ s.T x.Obj) \/
   (N=[]/\C=[]/\x.PC=30/\Xy s.H s.P.Most=true/\(zA s m x).1.H=Z7 s.H/\(zA s m x).1.T=XS s.T (wc (s.H.Objs.length+1)))):=by
 have hE:=zwm hp G.E m
 have hml:=G.E.ml
 have hwl:=G.E.wl
 have hN0:=G.E.H.n
 have hM0:=hp.most
 have hn6:=hp.n
 have e0: ¬(s.Done=true\/m<1\/(s.Ms.length:Int)<m):=by rw [hd];rintro (e | e | e)<;>first | cases e | omega
 revert hE
 unfold yJ
 rw [if_neg e0]
 have hi:(m-1).toNat<s.Ms.length:=by omega
 have hx:=zGP hi
 generalize s.Ms[(m-1).toNat]=x at hx
 rw [hx]
 dsimp only
 intro hE
 obtain ⟨a,b,el,es,hab,hba⟩:=zsp hx
 have ei:(((m-1).toNat:Nat):Int)+1=m:=by omega
 have hMX:=G.M _ x hx
 have hXO:=G.E.X _ x hx
 rw [ei] at hXO
 have hBI:=G.buf x (zGX hx)
 have hfr:=zv8 s m x
 have eWs:(zA s m x).1.Ws=s.Ws:=by rw [hfr]
 have X0:SX p nb s gh (uc x++((a++b).flatMap uc++s.Ws.flatMap we)) k:=by
  refine G.X.perm ?_
  rw [<-zGR]
  refine List.Perm.trans (zH9 _ ?_) zHx
  conv=>rhs;rw [el]
  exact u9.symm
 obtain ⟨gh',X',M',Fx,N,C,hN,hT⟩:=zFU hp hk X0 hXO hMX (zua hp m) (fun o i=>G.E.H.get hp o i)
 have hoth:∀(j:Nat) y,j≠(m-1).toNat->s.Ms[j]? =some y->MX p (zA s m x).1 gh' y/\zV (zA s m x).1 y=zV s y:=by
  intro j y hj hy
  exact MX.other hp X0 Fx (G.M j y hy) (G.E.X j y hy) (fun z hz=>zHa _ (zIh.2 ⟨y,hba j y hj hy,hz⟩))
 have hwrk:∀(j:Nat) y,s.Ws[j]? =some y->WX p (zA s m x).1 gh' ((j:Int)+1) y/\zH (zA s m x).1 y=zH s y:=by
  intro j y hy
  have hjl:=(zG1.1 hy).1
  exact WX.other hp (w:=(j:Int)+1) (by omega) X0 Fx (G.W j y hy) (G.E.W j y hy) (fun z hz=>zHr _ (zIh.2 ⟨y,zGX hy,hz⟩)) (fun e=>e)
 have hbag:List.Perm (vv p {(zA s m x).1 with Ms:=s.Ms.set (m-1).toNat (zA s m x).2} gh'++C) (N++vv p s gh):=by
  unfold vv
  have q2:(s.Ms.set (m-1).toNat (zA s m x).2).flatMap (zV {(zA s m x).1 with Ms:=s.Ms.set (m-1).toNat (zA s m x).2})=(a++(zA s m x).2::b).flatMap (zV (zA s m x).1):=by
   rw [es];exact xz (fun y _=>zga rfl)
  have q3:(a++b).flatMap (zV (zA s m x).1)=(a++b).flatMap (zV s):=xz (fun y hy=>by
   obtain ⟨j,hj,hjy⟩:=hab y hy
   exact (hoth j y hj hjy).2)
  have q4:(zA s m x).1.Ws.flatMap (zH {(zA s m x).1 with Ms:=s.Ms.set (m-1).toNat (zA s m x).2})=s.Ws.flatMap (zH s):=by
   rw [eWs]
   refine xz (fun y hy=>?_)
   obtain ⟨j,hj⟩:=List.mem_iff_getElem?.1 hy
   exact (zb4 (s:=(zA s m x).1) rfl rfl).trans (hwrk j y hj).2
  show List.Perm (yo p (zA s m x).1 gh'++((zA s m x).1.Ws.flatMap (zH {(zA s m x).1 with Ms:=s.Ms.set (m-1).toNat (zA s m x).2})++(s.Ms.set (m-1).toNat (zA s m x).2).flatMap (zV {(zA s m x).1 with Ms:=s.Ms.set (m-1).toNat (zA s m x).2}))++C) _
  rw [q2,q4]
  have r1:List.Perm (yo p (zA s m x).1 gh'++(s.Ws.flatMap (zH s)++(a++(zA s m x).2::b).flatMap (zV (zA s m x).1))++C) ((s.Ws.flatMap (zH s)++(a++b).flatMap (zV s))++(yo p (zA s m x).1 gh'++zV (zA s m x).1 (zA s m x).2++C)):=by
   refine ((zG0 _ (zG0 _ u9)).append_right C).trans ?_
   rw [q3]
   generalize (a++b).flatMap (zV s)=u
   generalize s.Ws.flatMap (zH s)=v
   generalize yo p (zA s m x).1 gh'=y
   generalize zV (zA s m x).1 (zA s m x).2=z
   refine ((zG0 y (zHe v z u)).append_right C).trans ?_
   generalize v++u=q
   rw [zGR,zGR,zGR]
   refine (zG0 _ (zHe _ _ _)).trans ?_
   exact (zHe _ _ _)
  have r2:List.Perm (N++(yo p s gh++(s.Ws.flatMap (zH s)++s.Ms.flatMap (zV s)))) ((s.Ws.flatMap (zH s)++(a++b).flatMap (zV s))++(N++(yo p s gh++zV s x))):=by
   conv=>lhs;rw [el]
   refine (zG0 _ (zG0 _ (zG0 _ u9))).trans ?_
   generalize (a++b).flatMap (zV s)=u
   generalize s.Ws.flatMap (zH s)=v
   generalize yo p s gh=y
   generalize zV s x=z
   refine (zG0 N (zG0 y (zHe v z u))).trans ?_
   generalize v++u=q
   refine (zG0 _ ?_).trans (zHe _ _ _)
   rw [<-zGR]
   exact zHx
  exact r1.trans ((zG0 _ hN).trans r2.symm)
 have hlen:(zA s m x).1.H.Objs.length=s.H.Objs.length\/(zA s m x).1.H=Z7 s.H:=by
  rcases zsG s m x with h | h
  ·exact .inl h.1
  ·exact .inr h.1
 have hFM:=G.mut_tint hp (m:=m) (l:=s.Ms.set (m-1).toNat (zA s m x).2) hMX hBI hbag hT
 obtain ⟨hFM,hB⟩:=hFM
 obtain ⟨t1,t2⟩:=G.tints hFM
 have hN1:(s.H.Objs.length:Int)<=((zA s m x).1.H.Objs.length:Int):=by
  rcases hlen with h | h
  ·omega
  ·rw [h,zp6];omega
 have B':=zwh (s:=s) hXO (n:=(s.H.Objs.length:Int)) (by omega) (fun l hl v hv=>((G.E.H.objs l hl).2 v hv).2) hBI
 refine ⟨gh',⟨hE,?_,fun j y hy=>?_,fun j y hy=>?_,hB,t1,fun j y hy h6=>?_,fun y hy=>?_,t2,fun y hy=>show ym (zA s m x).1 y≠[] from FX.ne X0 Fx G.ne y hy⟩,hFM,x,rfl,N,C,hbag,hT⟩
 ·refine (X'.state hE.S rfl).perm ?_
  show List.Perm ((zA s m x).1.Ws.flatMap we++(s.Ms.set (m-1).toNat (zA s m x).2).flatMap uc) _
  rw [es,eWs,<-zGR]
  exact zHx.trans (zH9 _ u9)
 ·have hy:(zA s m x).1.Ws[j]? =some y:=hy
  rw [eWs] at hy
  exact (hwrk j y hy).1.state rfl rfl
 ·have hy:(s.Ms.set (m-1).toNat (zA s m x).2)[j]? =some y:=hy
  by_cases hj:j=(m-1).toNat
  ·subst hj
   rw [zIs hi] at hy
   injection hy with hy
   rw [<-hy]
   exact M'.state rfl rfl
  ·rw [zHu (fun e=>hj e.symm)] at hy
   exact (hoth j y hj hy).1.state rfl rfl
 ·have hy:(zA s m x).1.Ws[j]? =some y:=hy
  rw [eWs] at hy
  have:=G.wob j y hy h6
  show y.G.Obj<=((zA s m x).1.H.Objs.length:Int)
  omega
 ·have up:∀ {z:zc},zbq (s.H.Objs.length:Int) z->zbq ((zA s m x).1.H.Objs.length:Int) z:=fun ⟨a,b,c⟩=>⟨fun v hv=>by have:=a v hv;omega,by omega,fun e=>by have:=c e;omega⟩
  rcases zHS (show y∈s.Ms.set (m-1).toNat (zA s m x).2 from hy) with h | rfl
  ·exact up (G.buf y h)
  ·exact up B'
theorem zFB {p:zb}(h:zB p):FG p (zS p+1) 0 (yv p) (gh0 p):=by
 have G:=zFl h
 have hn:=h.n
 have hms:∀x∈(yv p).Ms,∃r,x=vJ r:=fun x hx=>by
  obtain ⟨r,_,e⟩:=zG3.1 (show x∈p.Regs.map vJ from hx)
  exact ⟨r,e.symm⟩
 have own:(yv p).Ms.flatMap uc=[]:=zaO (fun x hx=>by
  obtain ⟨r,rfl⟩:=hms x hx
  exact vC ⟨by show (0:Int)≠3;decide,by show (0:Int)≠33;decide,by show (0:Int)≠34;decide,by show (0:Int)≠37;decide⟩)
 have hold:(yv p).Ms.flatMap (zV (yv p))=[]:=zaO (fun x hx=>by
  obtain ⟨r,rfl⟩:=hms x hx
  unfold zV
  rw [uw ⟨by show (0:Int)≠3;decide,by show (0:Int)≠33;decide,by show (0:Int)≠36;decide,by show (0:Int)≠37;decide,by show (0:Int)≠38;decide⟩];rfl)
 refine ⟨G.E,by rw [own,zGQ];exact G.X,G.W,fun i x hx=>?_,?_,fun o ho=>?_,fun i x hx h6=>?_,fun x hx=>?_,fun o h1 h2=>?_,zFu h⟩
 ·obtain ⟨r,rfl⟩:=hms x (zGX hx)
  exact MX.plain ⟨by show (0:Int)≠3;decide,by show (0:Int)≠32;decide,by show (0:Int)≠34;decide,by show (0:Int)≠37;decide⟩ (fun _=>rfl) (fun v hv=>by cases hv)
   ⟨fun e=>absurd e (by show ¬(0:Int)=21;decide),fun e=>absurd e (by show ¬((0:Int)=22\/(((0:Int)=1\/(0:Int)=3)/\(0:Int)=22));decide)⟩
 ·have e:vv p (yv p) (gh0 p)=zp8 p (yv p) (gh0 p):=by unfold vv zp8;rw [hold,zGQ]
  rw [e];exact G.B
 ·have ho:z9 (Yc p) o=true:=ho
  show o<=(p.H.Objs.length:Int)
  refine Int.not_lt.1 fun hlt=>?_
  obtain ⟨a,b,_⟩:=(xL _ _).1 ho
  have b2: ¬z9 (wZ (p.H.Objs.length:Int)) o=true:=fun e=>by
   have:=(zog (n:=p.H.Objs.length) (by omega) o).1 e
   omega
  have b3:=(zcG _ _ o).2 ⟨ho,(zsm _ (by omega)).2 b2⟩
  rw [zmw h] at b3
  exact zdg o b3
 ·obtain ⟨j,_,e⟩:=zG3.1 (show x∈(List.range p.Workers.toNat).map (ux p) from zGX hx)
  rw [<-e] at h6
  exact absurd h6 (by show ¬(0:Int)=6;decide)
 ·obtain ⟨r,rfl⟩:=hms x hx
  exact ⟨fun v hv=>(by cases hv),(by show (0:Int)<=(p.H.Objs.length:Int);omega),fun e=>absurd e (by show ¬((0:Int)=3\/(0:Int)=37);decide)⟩
 ·have:o<=(p.H.Objs.length:Int):=h2
  omega
theorem FG.grey {p:zb}{nb k:Nat}{s:za}{gh:Gh}(G:FG p nb k s gh) {o:Int}(h:o∈vv p s gh):wQ s.T o=1:=(G.B.gr o).1 h
theorem zFz {p:zb}{s:za}{gh:Gh}{i:Nat}{x:zh}(hx:s.Ws[i]? =some x) {o:Int}(h:o∈zH s x):o∈vv p s gh :=
 zHr _ (zHa _ (zIh.2 ⟨x,zGX hx,h⟩))
theorem zFA {p:zb}{s:za}{gh:Gh}{i:Nat}{x:zc}(hx:s.Ms[i]? =some x) {o:Int}(h:o∈zV s x):o∈vv p s gh :=
 zHr _ (zHr _ (zIh.2 ⟨x,zGX hx,h⟩))
end
end Go.Pe.G
namespace Go.Pe.G
open Go.Pe
noncomputable section
theorem zaT {l:List Int}(h:l.length<4294967296):yA l=some (wx l,()):=by
 rw [zwY,zqt h];rfl
theorem zot (g:zu) (h:1<=g.Obj):∃v,uY g=some (v,())/\zdU [v]=some (yj g,()):=by
 rw [ztu,zkd]
 simp only [zj]
 have z:zdU [0]=some ([],()):=by rw [zxZ];rfl
 unfold yj
 by_cases c1:g.Out=0
 ·rw [if_pos c1]
  by_cases c2:3<=g.PC
  ·rw [if_pos c2]
   by_cases c3:g.PC<=7
   ·rw [if_pos c3,if_pos ⟨c1,c2,c3⟩]
    refine ⟨g.Obj,rfl,?_⟩
    rw [zxZ]
    unfold zum
    have:decide (g.Obj=0)=false:=decide_eq_false (by omega)
    simp [this]
   ·rw [if_neg c3,if_neg (fun e=>c3 e.2.2)];exact ⟨0,rfl,z⟩
  ·rw [if_neg c2,if_neg (fun e=>c2 e.2.1)];exact ⟨0,rfl,z⟩
 ·rw [if_neg c1,if_neg (fun e=>c1 e.1)];exact ⟨0,rfl,z⟩
theorem zDl {m:List (BitVec 64)}{p:zb}(hc:p.Cap<1000) (w:Int) (o:zd) {l:List Int}(hl:l.length<4000000) :
  ((yU p w).bind fun y5=>(xU m y5.1 p.Cap o).bind fun y6=>(yc (l++y6.1)).bind fun l7=>(yA l7).bind fun y8=>some (y8.1,()))=some (wx (l++XV m (zJ p w) p.Cap o),()):=by
 have hi:=zCs m (zJ p w) p.Cap o
 rw [U3,zGN,zzt hc,zGN,yr (by simp;omega),zGN,zaT (by simp;omega)];rfl
theorem zCw {p:zb}(h:zB p) {s:za}(hP:s.P=p) {w:Int}{t c:Nat}{l:List Int}{d:zd}(K:PK p s.M w t l c d):zhi s w d=some (ZQ s.M d,()):=by
 have hc:=h.cap
 rw [zrW,hP]
 unfold ZQ
 by_cases c3:d.PC=3
 ·rw [decide_eq_true c3,cond_true,yt]
  by_cases ct:d.T=d.B-1#64
  ·rw [if_pos ct,if_neg (fun e=>e.2 ct),zj,if_neg (show ¬d.PC=6 by omega),if_neg (show ¬d.PC=6 by omega)]
  ·rw [if_neg ct,if_pos ⟨c3,ct⟩,U3,zGN,zj,if_neg ?_]
   ·obtain ⟨b,e⟩:=zvm s.M (w64 ((w64 (zJ p w+2))+(((d.B-1#64)%(BitVec.ofInt 64 p.Cap)).toInt))) 0#64 0#64
    have ea:w64 ((w64 (zJ p w+2))+(((d.B-1#64)%(BitVec.ofInt 64 p.Cap)).toInt))=YG d (d.B-1#64):=by
     unfold YG ua
     rw [K.base,K.size,if_neg (by omega),xi]
    dsimp only
    rw [e,ea];rfl
   ·have hx:p.Cap=1\/p.Cap=2\/p.Cap=3:=by omega
    rcases hx with e | e | e<;>rw [e]<;>decide
 ·rw [decide_eq_false c3,cond_false,zj,if_neg (show ¬(d.PC=3/\d.T≠d.B-1#64) from fun e=>c3 e.1)]
  by_cases c6:d.PC=6
  ·rw [if_pos c6,if_pos c6]
  ·rw [if_neg c6,if_neg c6]
theorem zuY {p:zb}{nb k:Nat}{s:za}{gh:Gh}(G:FG p nb k s gh) {b:Int}(h:1<=b/\b<nb):idx s.Bins b=some (ym s b)/\(ym s b).length<1000000:=by
 have hl:=G.E.S.bins
 have hb:=zGP (show b.toNat<s.Bins.length by omega)
 have hm:=zHn (show b.toNat<s.Bins.length by omega)
 unfold ym
 rw [w9 (by omega),hb]
 exact ⟨rfl,G.E.small.bin _ hm⟩
theorem zmc {p:zb}(h:zB p) {nb k:Nat}{s:za}{gh:Gh}(G:FG p nb k s gh) {i:Nat}{x:zh}(hx:s.Ws[i]? =some x):wK s ((i:Int)+1)=some (wx (zH s x++gh.D ((i:Int)+1)),()):=by
 have hil:=(zG1.1 hx).1
 have hwl:=G.E.wl
 have hwk:=h.wk
 have hP:=G.E.S.P
 have hcap:=h.cap
 have W:=G.W i x hx
 have O:=G.E.W i x hx
 have hw:1<=(i:Int)+1/\(i:Int)+1<=p.Workers:=by omega
 have D:=G.X.D _ hw.1 hw.2
 have hb:=G.E.small.w x (zGX hx)
 have e1:w64 ((i:Int)+1-1)=(i:Int):=by rw [zR (by omega) (by omega)];omega
 have none0:XV s.M (zJ p ((i:Int)+1)) p.Cap (zd.mk 0 0 0 0 0#64 0#64 0 0)=gh.D ((i:Int)+1)\/x.PC=0:=by
  by_cases p0:x.PC=0
  ·exact .inr p0
  ·refine .inl (znT h hw (by have:=W.c0 p0;rw [this] at D;exact D) (fun e=>absurd e.1 (by show ¬(0:Int)=2;decide)))
 rw [Ux,zj,if_neg (by omega),zj,if_neg (by omega),e1,xf hx,zGN,Xw (by omega),zGN,hP]
 generalize hwi:(i:Int)+1=w at *
 unfold zH UO
 have hpc:=O.pc
 have cases10:x.PC=0\/x.PC=1\/x.PC=2\/x.PC=3\/x.PC=4\/x.PC=5\/x.PC=6\/x.PC=7\/x.PC=8\/x.PC=9:=by omega
 have fin:∀ {l:List Int}(o:zd),l.length<4000000->XV s.M (zJ p w) p.Cap o=gh.D w->((yU p w).bind fun y5=>(xU s.M y5.1 p.Cap o).bind fun y6=>(yc (l++y6.1)).bind fun l7=>(yA l7).bind fun y8=>some (y8.1,()))=some (wx (l++gh.D w),()):=fun o hl e=>by
  rw [zDl (by omega) w o hl,e]
 rcases cases10 with c | c | c | c | c | c | c | c | c | c
 all_goals simp only [c,Int.reduceEq,decide_true,decide_false,cond_true,cond_false,if_true,if_false,or_true,or_false,true_or,false_or]
 ·have K:=W.p0 c
  have hpl:(ZQ s.M x.D).length<=1:=by
   unfold ZQ
   split
   ·simp
   ·split<;>simp
  rw [zCw h hP K,zGN,yr (by simp;omega),zGN]
  exact fin _ (by simp;omega) (zBK h hw D K)
 ·rw [zGQ];exact fin _ (by omega) (none0.resolve_right (by omega))
 ·rw [zGQ];exact fin _ (by omega) (none0.resolve_right (by omega))
 ·obtain ⟨b1,b2⟩:=zuY G (O.b3 c)
  rw [b1,zGN,yr (by simp;omega),zGN]
  exact fin _ (by simp;omega) (none0.resolve_right (by omega))
 ·rw [zGQ];exact fin _ (by omega) (none0.resolve_right (by omega))
 ·rw [yr (by simp;omega),zGN]
  exact fin _ (by simp;omega) (none0.resolve_right (by omega))
 ·obtain ⟨g1,g2,g3,g4⟩:=W.p6 c
  have hob:=g1.ob
  obtain ⟨v,v1,v2⟩:=zot x.G hob.1
  have hhl:(yj x.G).length<=1:=by unfold yj;split<;>simp
  rw [yr (by simp;omega),zGN,v1,zGN]
  dsimp only
  rw [v2,zGN,yr (by simp;omega),zGN]
  have ea:x.Batch++x.Obj::yj x.G=x.Batch++[x.Obj]++yj x.G:=by simp
  rw [ea,zj]
  by_cases g3':x.G.PC=3
  ·rw [if_pos g3']
   have:=(g1.d3 g3' g4).2.2.kind
   exact fin _ (by simp;omega) (znT h hw (by have:=W.c0 (by omega);rw [this] at D;exact D) (fun e=>by have:=e.1;omega))
  ·rw [if_neg g3']
   exact fin _ (by simp;omega) (none0.resolve_right (by omega))
 ·rw [zGQ];exact fin _ (by omega) (none0.resolve_right (by omega))
 ·rw [yr (by simp;omega),zGN]
  exact fin _ (by simp;omega) (none0.resolve_right (by omega))
 ·rw [zGQ];exact fin _ (by omega) (none0.resolve_right (by omega))
theorem zjQ {p:zb}(h:zB p) {nb k:Nat}{s:za}{gh:Gh}(G:FG p nb k s gh) {i:Nat}{x:zc}(hx:s.Ms[i]? =some x):Zm s ((i:Int)+1)=some (wx (zV s x),()):=by
 have hil:=(zG1.1 hx).1
 have hml:=G.E.ml
 have hmt:=h.mt
 have W:=G.M i x hx
 have O:=G.E.X i x hx
 have hb:=(G.E.small.mu x (zGX hx)).2.2
 have e1:w64 ((i:Int)+1-1)=(i:Int):=by rw [zR (by omega) (by omega)];omega
 have hhl:(yj x.G).length<=1:=by unfold yj;split<;>simp
 rw [zid,zj,if_neg (by omega),zj,if_neg (by omega),e1,xf hx,zGN,Xw (by omega),zGN]
 unfold zV zbO
 have nog:x.PC≠3/\x.PC≠37->uj x=some (false,()):=fun e=>by rw [zdA,decide_eq_false e.1,decide_eq_false e.2];rfl
 have ysg:x.PC=3\/x.PC=37->uj x=some (true,()):=fun e=>by
  rw [zdA]
  by_cases c:x.PC=3
  ·rw [decide_eq_true c];rfl
  ·rw [decide_eq_false c,decide_eq_true (e.resolve_left c)];rfl
 by_cases c33:x.PC=33
 ·obtain ⟨b1,b2⟩:=zuY G (O.b33 c33)
  have h36: ¬(36:Int)<=x.PC:=by omega
  rw [decide_eq_true c33,cond_true,b1,zGN,yr (by simp;omega),zGN,decide_eq_false h36,cond_false,nog (by omega),zGN,cond_false,zaT (by simp;omega),if_pos c33];rfl
 rw [decide_eq_false c33,cond_false,if_neg c33]
 by_cases c3:x.PC=3
 ·obtain ⟨v,v1,v2⟩:=zot x.G (W.p3 c3).1.ob.1
  have h36: ¬(36:Int)<=x.PC:=by omega
  rw [decide_eq_false h36,cond_false,ysg (.inl c3),zGN,cond_true,v1,zGN]
  dsimp only
  rw [v2,zGN,yr (by simp;omega),zGN,zaT (by simp;omega),if_neg (by omega),if_neg (by omega),if_pos c3];rfl
 by_cases c36:36<=x.PC/\x.PC<=38
 ·rw [decide_eq_true c36.1,cond_true,decide_eq_true c36.2,cond_true,yr (by simp;omega),zGN]
  by_cases c37:x.PC=37
  ·obtain ⟨v,v1,v2⟩:=zot x.G (W.p37 c37).1.ob.1
   rw [ysg (.inr c37),zGN,cond_true,v1,zGN]
   dsimp only
   rw [v2,zGN,yr (by simp;omega),zGN,zaT (by simp;omega),if_neg (by omega),if_pos c37]
   have ea:x.Batch++x.Obj::yj x.G=x.Batch++[x.Obj]++yj x.G:=by simp
   rw [ea];rfl
  ·rw [nog ⟨c3,c37⟩,zGN,cond_false,zaT (by simp;omega),if_pos (by omega)];rfl
 ·rw [if_neg (by omega),if_neg (by omega),if_neg c3,zGQ]
  by_cases h36:36<=x.PC
  ·have h38: ¬x.PC<=38:=fun e=>c36 ⟨h36,e⟩
   rw [decide_eq_true h36,cond_true,decide_eq_false h38,cond_false,nog (by omega),zGN,cond_false,zaT (show x.Batch.length<4294967296 by omega)];rfl
  ·rw [decide_eq_false h36,cond_false,nog (by omega),zGN,cond_false,zaT (show x.Batch.length<4294967296 by omega)];rfl
end
end Go.Pe.G
namespace Go.Pe.G
open Go.Pe
noncomputable section
def owG (g:zu):Int:=if g.Out=0/\(g.PC=1\/g.PC=2) then 1 else 0
def owW (x:zh):Int:=if x.PC=9 then 1 else if x.PC=6 then owG x.G else 0
def owX (x:zc):Int:=if x.PC=39 then 1 else if x.PC=3\/x.PC=37 then owG x.G else 0
theorem zBB (g:zu):0<=owG g/\owG g<=1:=by unfold owG;split<;>decide
theorem zy2 (x:zh):0<=owW x/\owW x<=1:=by
 unfold owW
 split
 ·decide
 split
 ·exact zBB _
 ·decide
theorem zxP (x:zc):0<=owX x/\owX x<=1:=by
 unfold owX
 split
 ·decide
 split
 ·exact zBB _
 ·decide
theorem Z5 {g:zu}(h:g.Out≠0\/(g.PC≠1/\g.PC≠2)):owG g=0:=by unfold owG;rw [if_neg (by omega)]
theorem ztm {g:zu}(h:g.Out=0) (h2:g.PC=1\/g.PC=2):owG g=1:=by unfold owG;rw [if_pos ⟨h,h2⟩]
theorem zBJ (t:zp) (o:Int):((vw t o).2=false/\(vw t o).1=t)\/((vw t o).2=true/\¬(t.Marks|||bit o=t.Marks)/\(vw t o).1={t with Marks:=t.Marks|||bit o}):=by
 unfold vw
 split
 ·exact .inl ⟨rfl,rfl⟩
 split
 ·rename_i h _;exact .inr ⟨rfl,h,rfl⟩
 ·exact .inl ⟨rfl,rfl⟩
theorem zwq {p:zb}{s:za}{gh:Gh}{g:zu}(G:GX p s gh g) (g0:g.Out=0) (hw:0<=s.Work/\s.Work<=4294970000) :
  ((zx s g).1.T=s.T/\(zx s g).1.Work=s.Work+owG (zx s g).2-owG g) \/
  (¬(s.T.Marks|||bit g.Obj=s.T.Marks)/\(zx s g).1.T={s.T with Marks:=s.T.Marks|||bit g.Obj}/\(zx s g).1.Work=s.Work+owG (zx s g).2-owG g+1):=by
 have hpc:=G.pc
 have hmd:=G.md
 unfold zx
 rw [if_neg (by omega)]
 by_cases c7:g.PC=7
 ·rw [if_pos c7]
  unfold zcN;dsimp only
  left;refine ⟨rfl,?_⟩
  rw [Z5 (g:=g) (by omega),Z5 (by split<;>(dsimp only;omega))];omega
 rw [if_neg c7]
 by_cases c6:g.PC=6
 ·rw [if_pos c6]
  left;refine ⟨rfl,?_⟩
  rw [Z5 (g:=g) (by omega),Z5 (by show _\/((7:Int)≠1/\(7:Int)≠2);omega)]
  show s.Work=_;omega
 rw [if_neg c6]
 by_cases c5:g.PC=5
 ·rw [if_pos c5]
  unfold zlr zhO;dsimp only
  left;refine ⟨rfl,?_⟩
  rw [Z5 (g:=g) (by omega),Z5 (by (repeat' split)<;>(dsimp only;omega))];omega
 rw [if_neg c5]
 by_cases c4:g.PC=4
 ·rw [if_pos c4]
  left;refine ⟨rfl,?_⟩
  rw [Z5 (g:=g) (by omega),Z5 (by show _\/((5:Int)≠1/\(5:Int)≠2);omega)]
  show s.Work=_;omega
 rw [if_neg c4]
 by_cases c3:g.PC=3
 ·rw [if_pos c3]
  unfold zlP zhO;dsimp only
  left;refine ⟨rfl,?_⟩
  rw [Z5 (g:=g) (by omega),Z5 (by (repeat' split)<;>(dsimp only;omega))];omega
 rw [if_neg c3]
 by_cases c2:g.PC=2
 ·rw [if_pos c2]
  left;refine ⟨rfl,?_⟩
  rw [ztm g0 (.inr c2),Z5 (by show (1:Int)≠0\/_;omega)]
  show wc (s.Work-1)=_
  rw [xu (by omega) (by omega)];omega
 rw [if_neg c2]
 by_cases c1:g.PC=1
 ·rw [if_pos c1]
  unfold zls;dsimp only
  rw [ztm g0 (.inl c1)]
  rcases zBJ s.T g.Obj with ⟨a,b⟩ | ⟨a,b,c⟩
  ·left
   refine ⟨b,?_⟩
   rw [if_pos a,ztm (by dsimp only;exact g0) (.inr rfl)];omega
  ·right
   refine ⟨b,c,?_⟩
   rw [if_neg (by rw [a];decide)]
   unfold zhO
   rw [Z5 (by (repeat' split)<;>(dsimp only;omega))];omega
 rw [if_neg c1]
 left;refine ⟨rfl,?_⟩
 rw [Z5 (g:=g) (by omega),ztm (by dsimp only;exact g0) (.inl rfl)]
 show wc (s.Work+1)=_
 rw [xu (by omega) (by omega)];omega
theorem zob {t:zp}{o:Int}(h:wQ t o=1):wJ t o≠t:=by
 have hb:=(WZ t o).1 h
 have hr:=ziR h
 unfold wJ
 rw [if_pos h]
 intro e
 have e:=congrArg zp.Black e
 exact hb.2 (by rw [<-e];exact (wR _ hr o).2 (.inr rfl))
theorem zeb {t:zp}{o:Int}(h: ¬(t.Marks|||bit o=t.Marks)):({t with Marks:=t.Marks|||bit o}:zp)≠t:=fun e=>h (congrArg zp.Marks e)
theorem zCX {p:zb}{nb:Nat}{s:za}{gh:Gh}{w:Int}{x:zh}(W:WX p s gh w x) (O:WOk p nb w x) (hw:0<=s.Work/\s.Work<=4294970000) (h8:x.PC=8->wQ s.T x.Obj=1) {N C:List Int}
  (hT:(N=[]/\C=[]/\(zo s w x).1.T=s.T)\/(N=[x.G.Obj]/\C=[]/\x.PC=6/\¬(s.T.Marks|||bit x.G.Obj=s.T.Marks)/\(zo s w x).1.T={s.T with Marks:=s.T.Marks|||bit x.G.Obj})\/(N=[]/\C=[x.Obj]/\x.PC=8/\(zo s w x).1.T=wJ s.T x.Obj)) :
  (zo s w x).1.Work=s.Work+owW (zo s w x).2-owW x+(N.length:Int)-(C.length:Int):=by
 have hpc:=O.pc
 revert hT
 have ob:∀y:zh,owW (VN s.P w y)=0:=fun y=>rfl
 have ol:∀y:zh,owW (Yn s.P w y)=0:=fun y=>by unfold Yn;split<;>rfl
 have quiet:∀ {t:za}{y:zh},(N=[]/\C=[]/\t.T=s.T)\/(N=[x.G.Obj]/\C=[]/\x.PC=6/\¬(s.T.Marks|||bit x.G.Obj=s.T.Marks)/\t.T={s.T with Marks:=s.T.Marks|||bit x.G.Obj})\/(N=[]/\C=[x.Obj]/\x.PC=8/\t.T=wJ s.T x.Obj) ->
   x.PC≠6->x.PC≠8->t.Work=s.Work+owW y-owW x->t.Work=s.Work+owW y-owW x+(N.length:Int)-(C.length:Int):=by
  rintro t y (⟨e1,e2,_⟩ | ⟨_,_,e,_⟩ | ⟨_,_,e,_⟩) h1 h2 h
  ·rw [e1,e2];simp only [zHE];omega
  ·omega
  ·omega
 have o0:x.PC≠9->x.PC≠6->owW x=0:=fun h1 h2=>by unfold owW;rw [if_neg h1,if_neg h2]
 unfold zo
 split
 ·rename_i c
  intro hT
  refine quiet hT (by omega) (by omega) ?_
  rw [o0 (by omega) (by omega)]
  show s.Work=_
  dsimp only
  split
  ·show s.Work=s.Work+0-0;omega
  split
  ·rw [ol];omega
  ·rw [show owW {x with D:=(zT s.M x.D).2}=owW x from rfl,o0 (by omega) (by omega)];omega
 split
 ·intro hT
  refine quiet hT (by omega) (by omega) ?_
  rw [o0 (by omega) (by omega)]
  show s.Work=_
  dsimp only
  split
  ·rw [show ∀b c,owW {x with C:=c,Bin:=b,PC:=3}=0 from fun _ _=>rfl];omega
  split
  ·rw [ob];omega
  ·rw [show owW {x with C:=(zn s.M x.C).2}=owW x from rfl,o0 (by omega) (by omega)];omega
 split
 ·intro hT
  refine quiet hT (by omega) (by omega) ?_
  rw [o0 (by omega) (by omega)]
  show s.Work=s.Work+0-0;omega
 split
 ·intro hT
  refine quiet hT (by omega) (by omega) ?_
  rw [o0 (by omega) (by omega)]
  show s.Work=_
  dsimp only
  split
  ·rw [show ∀c,owW {x with PC:=7,C:=c,Bin:=0}=0 from fun _=>rfl];omega
  ·rw [show owW {x with C:=(zn s.M x.C).2}=owW x from rfl,o0 (by omega) (by omega)];omega
 split
 ·intro hT
  refine quiet hT (by omega) (by omega) ?_
  rw [o0 (by omega) (by omega)]
  dsimp only
  split
  ·have:∀y,owW {x with Slot:=y,PC:=onW s y}=0:=fun y=>by
    unfold owW
    rcases zkq s y with e | e<;>rw [if_neg (by dsimp only;omega),if_neg (by dsimp only;omega)]
   rw [this];omega
  ·rw [show ∀y v,owW {x with Slot:=y,PC:=6,G:=ZN 1 v w}=0 from fun _ _=>rfl];omega
 split
 ·rename_i c
  intro hT
  obtain ⟨G,gm,gw,g0⟩:=W.p6 c
  have e1:owW x=owG x.G:=by unfold owW;rw [if_neg (by omega),if_pos c]
  have e2:owW (if (zx s x.G).2.Out=1 then {x with G:=(zx s x.G).2,PC:=onW s x.Slot} else {x with G:=(zx s x.G).2})=owG (zx s x.G).2:=by
   split
   ·rename_i o
    rw [Z5 (.inl (by omega))]
    unfold owW
    rcases zkq s x.Slot with e | e<;>rw [if_neg (by dsimp only;omega),if_neg (by dsimp only;omega)]
   ·unfold owW;rw [if_neg (by dsimp only;omega),if_pos c]
  dsimp only at hT ⊢
  rw [e1,e2]
  rcases zwq G g0 hw with ⟨a,b⟩ | ⟨a,b,d⟩
  ·rcases hT with ⟨n1,n2,_⟩ | ⟨_,_,_,n3,n4⟩ | ⟨_,_,e,_⟩
   ·rw [n1,n2,b];simp only [zHE];omega
   ·exact absurd (n4.symm.trans a) (zeb n3)
   ·omega
  ·rcases hT with ⟨n1,n2,n3⟩ | ⟨n1,n2,_,n3,n4⟩ | ⟨_,_,e,_⟩
   ·exact absurd (b.symm.trans n3) (zeb a)
   ·rw [n1,n2,d];simp only [zHE,zG7];omega
   ·omega
 split
 ·intro hT
  refine quiet hT (by omega) (by omega) ?_
  rw [o0 (by omega) (by omega)]
  dsimp only
  split
  ·rw [ob];omega
  ·rw [show ∀o l,owW {x with PC:=5,Obj:=o,Slot:=0,Batch:=l}=0 from fun _ _=>rfl];omega
 split
 ·rename_i c
  intro hT
  have e0:owW x=0:=o0 (by omega) (by omega)
  rw [e0]
  rcases hT with ⟨_,_,e⟩ | ⟨_,_,e,_⟩ | ⟨n1,n2,_,_⟩
  ·exact absurd e (zob (h8 c))
  ·omega
  ·rw [n1,n2]
   show s.Work=s.Work+1-0+0-1
   omega
 split
 ·rename_i c
  intro hT
  refine quiet hT (by omega) (by omega) ?_
  have e1:owW x=1:=by unfold owW;rw [if_pos c]
  rw [e1]
  show wc (s.Work-1)=s.Work+0-1
  rw [xu (by omega) (by omega)];omega
 ·intro hT;omega
theorem zDu {p:zb}{nb:Nat}{s:za}{gh:Gh}{m:Int}{x:zc}(W:MX p s gh x) (O:XOk p nb m x) (hw:0<=s.Work/\s.Work<=4294970000) (h8:x.PC=38->wQ s.T x.Obj=1) {N C:List Int}
  (hT:(N=[]/\C=[]/\(zA s m x).1.T=s.T)\/(N=[x.G.Obj]/\C=[]/\(x.PC=3\/x.PC=37)/\¬(s.T.Marks|||bit x.G.Obj=s.T.Marks)/\(zA s m x).1.T={s.T with Marks:=s.T.Marks|||bit x.G.Obj})\/(N=[]/\C=[x.Obj]/\x.PC=38/\(zA s m x).1.T=wJ s.T x.Obj) \/
   (N=[]/\C=[]/\x.PC=30/\Xy s.H s.P.Most=true/\(zA s m x).1.H=Z7 s.H/\(zA s m x).1.T=XS s.T (wc (s.H.Objs.length+1)))) :
  (zA s m x).1.Work=s.Work+owX (zA s m x).2-owX x+(N.length:Int)-(C.length:Int):=by
 have hpc:=O.pc
 have hrt:=O.ret
 have calm:∀ {r:za×zc},(N=[]/\C=[]/\r.1.T=s.T)\/(N=[x.G.Obj]/\C=[]/\(x.PC=3\/x.PC=37)/\¬(s.T.Marks|||bit x.G.Obj=s.T.Marks)/\r.1.T={s.T with Marks:=s.T.Marks|||bit x.G.Obj})\/(N=[]/\C=[x.Obj]/\x.PC=38/\r.1.T=wJ s.T x.Obj) \/
   (N=[]/\C=[]/\x.PC=30/\Xy s.H s.P.Most=true/\r.1.H=Z7 s.H/\r.1.T=XS s.T (wc (s.H.Objs.length+1))) ->
   x.PC≠3->x.PC≠37->x.PC≠38->r.1.Work=s.Work+owX r.2-owX x->r.1.Work=s.Work+owX r.2-owX x+(N.length:Int)-(C.length:Int):=by
  rintro r (⟨e1,e2,_⟩ | ⟨_,_,e,_⟩ | ⟨_,_,e,_⟩ | ⟨e1,e2,_⟩) h1 h2 h3 h
  ·rw [e1,e2];simp only [zHE];omega
  ·omega
  ·omega
  ·rw [e1,e2];simp only [zHE];omega
 have o0:∀ {y:zc},y.PC≠39->y.PC≠3->y.PC≠37->owX y=0:=fun h1 h2 h3=>by unfold owX;rw [if_neg h1,if_neg (by omega)]
 have og:∀(y:zc) (k a b:Int),owX {y with PC:=3,G:=ZN k a b}=0:=fun y k a b=>by unfold owX;rw [if_neg (by dsimp only;omega),if_pos (.inl rfl)];exact Z5 (.inr ⟨by show (0:Int)≠1;decide,by show (0:Int)≠2;decide⟩)
 have gq:∀(N C:List Int) (G:GX p s gh x.G) (g0:x.G.Out=0) (hT:(N=[]/\C=[]/\(zx s x.G).1.T=s.T)\/(N=[x.G.Obj]/\C=[]/\(x.PC=3\/x.PC=37)/\¬(s.T.Marks|||bit x.G.Obj=s.T.Marks)/\(zx s x.G).1.T={s.T with Marks:=s.T.Marks|||bit x.G.Obj})),
   (zx s x.G).1.Work=s.Work+owG (zx s x.G).2-owG x.G+(N.length:Int)-(C.length:Int):=by
  intro N C G g0 hT
  rcases zwq G g0 hw with ⟨a,b⟩ | ⟨a,b,d⟩
  ·rcases hT with ⟨n1,n2,_⟩ | ⟨_,_,_,n3,n4⟩
   ·rw [n1,n2,b];simp only [zHE];omega
   ·exact absurd (n4.symm.trans a) (zeb n3)
  ·rcases hT with ⟨n1,n2,n3⟩ | ⟨n1,n2,_,n3,n4⟩
   ·exact absurd (b.symm.trans n3) (zeb a)
   ·rw [n1,n2,d];simp only [zHE,zG7];omega
 revert hT
 refine uq (motive:=fun r=>((N=[]/\C=[]/\r.1.T=s.T)\/(N=[x.G.Obj]/\C=[]/\(x.PC=3\/x.PC=37)/\¬(s.T.Marks|||bit x.G.Obj=s.T.Marks)/\r.1.T={s.T with Marks:=s.T.Marks|||bit x.G.Obj})\/(N=[]/\C=[x.Obj]/\x.PC=38/\r.1.T=wJ s.T x.Obj) \/
   (N=[]/\C=[]/\x.PC=30/\Xy s.H s.P.Most=true/\r.1.H=Z7 s.H/\r.1.T=XS s.T (wc (s.H.Objs.length+1)))) ->
   r.1.Work=s.Work+owX r.2-owX x+(N.length:Int)-(C.length:Int)) s m x ?_ ?_ ?_ ?_ ?_ ?_ ?_ ?_ ?_ ?_ ?_ ?_ ?_ ?_ ?_ ?_ ?_ ?_ ?_ ?_
 ·intro c hT
  refine calm hT (by omega) (by omega) (by omega) ?_
  rw [o0 (y:=x) (by omega) (by omega) (by omega)]
  unfold mu0 zdT
  repeat' split
  all_goals (rw [o0 (by (try dsimp only [setM]);omega) (by (try dsimp only [setM]);omega) (by (try dsimp only [setM]);omega)];dsimp only;omega)
 ·intro c hT
  refine calm hT (by omega) (by omega) (by omega) ?_
  rw [o0 (y:=x) (by omega) (by omega) (by omega)]
  unfold mu1;dsimp only
  split
  ·have:=hrt (.inl c)
   rw [o0 (by dsimp only;omega) (by dsimp only;omega) (by dsimp only;omega)];omega
  ·have e:∀l,owX {x with PC:=3,Buf:=l,G:=ZN 2 (x.Buf.getD (x.Buf.length-1) 0) m}=0:=fun l=>og {x with Buf:=l} 2 _ m
   rw [e];omega
 ·intro c hT
  refine calm hT (by omega) (by omega) (by omega) ?_
  rw [o0 (y:=x) (by omega) (by omega) (by omega)]
  show s.Work=s.Work+0-0;omega
 ·intro c hT
  obtain ⟨G,gm,g0⟩:=W.p3 c
  have e1:owX x=owG x.G:=by unfold owX;rw [if_neg (by omega),if_pos (.inl c)]
  unfold mu3 at hT ⊢
  dsimp only at hT ⊢
  have e2:owX (if (zx s x.G).2.Out=1 then {x with PC:=1,G:=(zx s x.G).2} else {x with G:=(zx s x.G).2})=owG (zx s x.G).2:=by
   split
   ·rename_i o
    rw [Z5 (.inl (by omega)),o0 (by dsimp only;omega) (by dsimp only;omega) (by dsimp only;omega)]
   ·unfold owX;rw [if_neg (by dsimp only;omega),if_pos (.inl c)]
  rw [e1,e2]
  refine gq N C G g0 ?_
  rcases hT with h | h | ⟨_,_,e,_⟩ | ⟨_,_,e,_⟩
  ·exact .inl h
  ·exact .inr h
  ·omega
  ·omega
 ·intro c hT
  refine calm hT (by omega) (by omega) (by omega) ?_
  rw [o0 (y:=x) (by omega) (by omega) (by omega)]
  show s.Work=s.Work+0-0;omega
 ·intro c hT
  refine calm hT (by omega) (by omega) (by omega) ?_
  rw [o0 (y:=x) (by omega) (by omega) (by omega)]
  unfold zmQ;dsimp only
  split<;>(rw [o0 (by dsimp only [VG];omega) (by dsimp only [VG];omega) (by dsimp only [VG];omega)];omega)
 ·intro c hT
  refine calm hT (by omega) (by omega) (by omega) ?_
  rw [o0 (y:=x) (by omega) (by omega) (by omega)]
  unfold zmT;dsimp only
  split<;>(rw [o0 (by dsimp only;omega) (by dsimp only;omega) (by dsimp only;omega)];omega)
 ·intro c hT
  refine calm hT (by omega) (by omega) (by omega) ?_
  rw [o0 (y:=x) (by omega) (by omega) (by omega)]
  unfold zl4;dsimp only
  split<;>(rw [o0 (by dsimp only;omega) (by dsimp only;omega) (by dsimp only;omega)];omega)
 ·intro c hT
  refine calm hT (by omega) (by omega) (by omega) ?_
  rw [o0 (y:=x) (by omega) (by omega) (by omega)]
  show s.Work=s.Work+0-0;omega
 ·intro c hT
  refine calm hT (by omega) (by omega) (by omega) ?_
  rw [o0 (y:=x) (by omega) (by omega) (by omega)]
  unfold zh0
  split
  ·split
   ·show s.Work=s.Work+0-0;omega
   ·show s.Work=s.Work+0-0;omega
  ·show s.Work=s.Work+0-0;omega
 ·intro c hT
  refine calm hT (by omega) (by omega) (by omega) ?_
  rw [o0 (y:=x) (by omega) (by omega) (by omega)]
  unfold zmd;dsimp only
  split<;>(rw [o0 (by dsimp only;omega) (by dsimp only;omega) (by dsimp only;omega)];omega)
 ·intro c hT
  refine calm hT (by omega) (by omega) (by omega) ?_
  rw [o0 (y:=x) (by omega) (by omega) (by omega)]
  unfold zmy;dsimp only
  split
  ·rw [o0 (by dsimp only;omega) (by dsimp only;omega) (by dsimp only;omega)];omega
  split<;>(rw [o0 (by dsimp only;omega) (by dsimp only;omega) (by dsimp only;omega)];omega)
 ·intro c hT
  refine calm hT (by omega) (by omega) (by omega) ?_
  rw [o0 (y:=x) (by omega) (by omega) (by omega)]
  show s.Work=s.Work+0-0;omega
 ·intro c hT
  refine calm hT (by omega) (by omega) (by omega) ?_
  rw [o0 (y:=x) (by omega) (by omega) (by omega)]
  unfold zmF;dsimp only
  split<;>(rw [o0 (by dsimp only;omega) (by dsimp only;omega) (by dsimp only;omega)];omega)
 ·intro c hT
  refine calm hT (by omega) (by omega) (by omega) ?_
  rw [o0 (y:=x) (by omega) (by omega) (by omega)]
  unfold zmv;dsimp only
  split<;>(rw [o0 (by dsimp only;omega) (by dsimp only;omega) (by dsimp only;omega)];omega)
 ·intro c hT
  refine calm hT (by omega) (by omega) (by omega) ?_
  rw [o0 (y:=x) (by omega) (by omega) (by omega)]
  unfold zm0;dsimp only
  split
  ·have:=zg6 s (wc (x.Slot+1))
   rw [o0 (by dsimp only;omega) (by dsimp only;omega) (by dsimp only;omega)];omega
  ·have e:∀y v,owX {x with Slot:=y,PC:=37,G:=ZN 3 v m}=0:=fun y v=>by unfold owX;rw [if_neg (by dsimp only;omega),if_pos (.inr rfl)];exact Z5 (.inr ⟨by show (0:Int)≠1;decide,by show (0:Int)≠2;decide⟩)
   rw [e];omega
 ·intro c hT
  obtain ⟨G,gm,g0⟩:=W.p37 c
  have e1:owX x=owG x.G:=by unfold owX;rw [if_neg (by omega),if_pos (.inr c)]
  unfold zke at hT ⊢
  dsimp only at hT ⊢
  have e2:owX (if (zx s x.G).2.Out=1 then {x with G:=(zx s x.G).2,PC:=onM s x.Slot} else {x with G:=(zx s x.G).2})=owG (zx s x.G).2:=by
   split
   ·rename_i o
    have:=zg6 s x.Slot
    rw [Z5 (.inl (by omega)),o0 (by dsimp only;omega) (by dsimp only;omega) (by dsimp only;omega)]
   ·unfold owX;rw [if_neg (by dsimp only;omega),if_pos (.inr c)]
  rw [e1,e2]
  refine gq N C G g0 ?_
  rcases hT with h | h | ⟨_,_,e,_⟩ | ⟨_,_,e,_⟩
  ·exact .inl h
  ·exact .inr h
  ·omega
  ·omega
 ·intro c hT
  rw [o0 (y:=x) (by omega) (by omega) (by omega)]
  rcases hT with ⟨_,_,e⟩ | ⟨_,_,e,_⟩ | ⟨n1,n2,_,_⟩ | ⟨_,_,e,_⟩
  ·exact absurd e (zob (h8 c))
  ·omega
  ·rw [n1,n2]
   show s.Work=s.Work+1-0+0-1
   omega
  ·omega
 ·intro c hT
  refine calm hT (by omega) (by omega) (by omega) ?_
  have e1:owX x=1:=by unfold owX;rw [if_pos c]
  rw [e1]
  show wc (s.Work-1)=s.Work+0-1
  rw [xu (by omega) (by omega)];omega
 ·intro hT
  rcases hT with ⟨n1,n2,_⟩ | ⟨_,_,_,n3,n4⟩ | ⟨n1,n2,c,e⟩ | ⟨n1,n2,_⟩
  ·rw [n1,n2];simp only [zHE];omega
  ·exact absurd n4.symm (zeb n3)
  ·exact absurd e.symm (zob (h8 c))
  ·rw [n1,n2];simp only [zHE];omega
end
end Go.Pe.G
namespace Go.Pe.G
open Go.Pe
noncomputable section
def zae (s:za):Int:=(s.Ws.map owW).sum+(s.Ms.map owX).sum
theorem zzf:∀ {l:List Int},(∀v∈l,0<=v)->0<=l.sum
 | [],_=>by simp
 | a::l,h=>by
  have:=zzf (l:=l) (fun v hv=>h v (zGW _ hv))
  have:=h a (zG9 ..)
  rw [List.sum_cons];omega
theorem zFa (s:za):0<=zae s:=by
 have h1:0<=(s.Ws.map owW).sum:=zzf (fun v hv=>by obtain ⟨x,_,rfl⟩:=zG3.1 hv;exact (zy2 x).1)
 have h2:0<=(s.Ms.map owX).sum:=zzf (fun v hv=>by obtain ⟨x,_,rfl⟩:=zG3.1 hv;exact (zxP x).1)
 unfold zae;omega
theorem zxz {α:Type}{f:α->Int}{l:List α}{i:Nat}{x:α}(h:l[i]? =some x) (y:α):((l.set i y).map f).sum=(l.map f).sum-f x+f y:=by
 have hi:=(zG1.1 h).1
 rw [List.map_set,zq3 _ _ _ (by simpa using hi)]
 rw [zGS,zHh,h]
 rfl
structure EG (p:zb) (nb k:Nat) (s:za) (gh:Gh):Prop where
 G:FG p nb k s gh
 wk:s.Work=((vv p s gh).length:Int)+zae s
 le:s.Work<=2*(k:Int)+100
theorem EG.work_nn {p:zb}{nb k:Nat}{s:za}{gh:Gh}(I:EG p nb k s gh):0<=s.Work:=by
 have:=I.wk;have:=zFa s;omega
theorem zBO (s:za):({xB s with Epoch:=s.Epoch,Flag:=s.Flag,Done:=s.Done,Restarts:=s.Restarts,D:=s.D}:za)=s:=by
 unfold xB
 repeat' split
 all_goals rfl
theorem FG.more {p:zb}{nb k:Nat}{s:za}{gh:Gh}(G:FG p nb k s gh):FG p nb (k+1) s gh:=⟨G.E,G.X.quiet G.E.S rfl,G.W,G.M,G.B,G.mrk,G.wob,G.buf,G.bk,G.ne⟩
theorem EG.more {p:zb}{nb k:Nat}{s:za}{gh:Gh}(I:EG p nb k s gh):EG p nb (k+1) s gh:=⟨I.G.more,I.wk,by have:=I.le;omega⟩
theorem EG.det {p:zb}(hp:zB p) {nb k:Nat}{s:za}{gh:Gh}(I:EG p nb k s gh):EG p nb (k+1) (xB s) gh/\zii s (xB s):=by
 have hd:=zBO s
 have eM:(xB s).M=s.M:=by conv=>rhs;rw [<-hd]
 have eB:(xB s).Bins=s.Bins:=by conv=>rhs;rw [<-hd]
 have eT:(xB s).T=s.T:=by conv=>rhs;rw [<-hd]
 have eH:(xB s).H=s.H:=by conv=>rhs;rw [<-hd]
 have eW:(xB s).Ws=s.Ws:=by conv=>rhs;rw [<-hd]
 have eX:(xB s).Ms=s.Ms:=by conv=>rhs;rw [<-hd]
 have eK:(xB s).Work=s.Work:=by conv=>rhs;rw [<-hd]
 have e:vv p (xB s) gh=vv p s gh:=by
  unfold vv
  rw [eW,eX,uQ eB,xz (fun x _=>zb4 (x:=x) eM eB),xz (fun x _=>zga (x:=x) eB)]
 have e2:zae (xB s)=zae s:=by unfold zae;rw [eW,eX]
 exact ⟨⟨I.G.det hp hd,by rw [e,e2,eK];exact I.wk,by rw [eK];have:=I.le;omega⟩,.inl ⟨eT,by rw [eH]⟩⟩
theorem EG.worker {p:zb}(hp:zB p) {nb k:Nat}{s:za}{gh:Gh}(hk:k<2147480000) (I:EG p nb k s gh) {w:Int}(hw:1<=w/\w<=p.Workers) (hd:s.Done=false):∃gh',EG p nb (k+1) (yz s w) gh'/\zii s (yz s w):=by
 obtain ⟨gh',G',F,x,hx,N,C,hbag,hT⟩:=I.G.worker hp (by omega) hw hd
 have hwl:=I.G.E.wl
 have ei:(((w-1).toNat:Nat):Int)+1=w:=by omega
 have hWX:=I.G.W _ x hx
 have hWO:=I.G.E.W _ x hx
 rw [ei] at hWX hWO
 have h8:x.PC=8->wQ s.T x.Obj=1:=fun e=>I.G.grey (zFz hx (by unfold zH;rw [UZ (.inr e)];simp))
 have hnn:=I.work_nn
 have hle:=I.le
 have hW:=zCX hWX hWO (by omega) h8 hT
 have hlen:=hbag.length_eq
 rw [zGV,zGV] at hlen
 have eS:yz s w={(zo s w x).1 with Ws:=s.Ws.set (w-1).toNat (zo s w x).2}:=by
  unfold yz
  rw [if_neg (by rw [hd];rintro (e | e | e)<;>first | cases e | omega),hx]
 have eK:(yz s w).Work=(zo s w x).1.Work:=by rw [eS]
 have eX:(yz s w).Ms=s.Ms:=by rw [eS];show (zo s w x).1.Ms=_;rw [zuz hWO]
 have eW:(yz s w).Ws=s.Ws.set (w-1).toNat (zo s w x).2:=by rw [eS]
 have ho:zae (yz s w)=zae s-owW x+owW (zo s w x).2:=by
  unfold zae
  rw [eX,eW,zxz hx];omega
 have hwk:=I.wk
 have hN:N.length<=1:=by rcases hT with ⟨e,_⟩ | ⟨e,_⟩ | ⟨e,_⟩<;>rw [e]<;>simp
 have o1:=zy2 x
 have o2:=zy2 (zo s w x).2
 refine ⟨gh',⟨G',by rw [eK,hW,ho];omega,?_⟩,F⟩
 rw [eK,hW]
 omega
theorem EG.mutator {p:zb}(hp:zB p) {nb k:Nat}{s:za}{gh:Gh}(hk:k<2147480000) (I:EG p nb k s gh) {m:Int}(hm:1<=m/\m<=p.Mutators) (hd:s.Done=false):∃gh',EG p nb (k+1) (yJ s m) gh'/\zii s (yJ s m):=by
 obtain ⟨gh',G',F,x,hx,N,C,hbag,hT⟩:=I.G.mutator hp (by omega) hm hd
 have hml:=I.G.E.ml
 have ei:(((m-1).toNat:Nat):Int)+1=m:=by omega
 have hMX:=I.G.M _ x hx
 have hXO:=I.G.E.X _ x hx
 rw [ei] at hXO
 have h8:x.PC=38->wQ s.T x.Obj=1:=fun e=>I.G.grey (zFA hx (by unfold zV;rw [zb5 (.inr e)];simp))
 have hnn:=I.work_nn
 have hle:=I.le
 have hW:=zDu (m:=m) hMX hXO (by omega) h8 hT
 have hlen:=hbag.length_eq
 rw [zGV,zGV] at hlen
 have eS:yJ s m={(zA s m x).1 with Ms:=s.Ms.set (m-1).toNat (zA s m x).2}:=by
  unfold yJ
  rw [if_neg (by rw [hd];rintro (e | e | e)<;>first | cases e | omega),hx]
 have eK:(yJ s m).Work=(zA s m x).1.Work:=by rw [eS]
 have eW:(yJ s m).Ws=s.Ws:=by rw [eS];show (zA s m x).1.Ws=_;rw [zv8]
 have eX:(yJ s m).Ms=s.Ms.set (m-1).toNat (zA s m x).2:=by rw [eS]
 have ho:zae (yJ s m)=zae s-owX x+owX (zA s m x).2:=by
  unfold zae
  rw [eX,eW,zxz hx];omega
 have hwk:=I.wk
 have hN:N.length<=1:=by rcases hT with ⟨e,_⟩ | ⟨e,_⟩ | ⟨e,_⟩ | ⟨e,_⟩<;>rw [e]<;>simp
 have o1:=zxP x
 have o2:=zxP (zA s m x).2
 refine ⟨gh',⟨G',by rw [eK,hW,ho];omega,?_⟩,F⟩
 rw [eK,hW]
 omega
theorem zCe {s:za}(hd:s.Done=true) (j:Int):zi7 s j=s:=by
 unfold zi7
 split
 ·unfold xB;rw [if_pos hd]
 split
 ·unfold yz;rw [if_pos (.inl hd)]
 ·unfold yJ;rw [if_pos (.inl hd)]
theorem EG.next {p:zb}(hp:zB p) {nb k:Nat}{s:za}{gh:Gh}(hk:k<2147480000) (I:EG p nb k s gh) (j:Int):∃gh',EG p nb (k+1) (zi7 s j) gh'/\zii s (zi7 s j):=by
 cases hd:s.Done with
 | true=>rw [zCe hd];exact ⟨gh,I.more,.inl ⟨rfl,rfl⟩⟩
 | false =>
  have hwl:=I.G.E.wl
  have hml:=I.G.E.ml
  unfold zi7
  split
  ·exact ⟨gh,I.det hp⟩
  split
  ·by_cases h1:1<=j
   ·exact I.worker hp hk (by omega) hd
   ·have:yz s j=s:=by unfold yz;rw [if_pos (.inr (.inl (by omega)))]
    rw [this];exact ⟨gh,I.more,.inl ⟨rfl,rfl⟩⟩
  ·by_cases h1:1<=j-(s.Ws.length:Int)/\j-(s.Ws.length:Int)<=(s.Ms.length:Int)
   ·exact I.mutator hp hk (by omega) hd
   ·have:yJ s (j-(s.Ws.length:Int))=s:=by unfold yJ;rw [if_pos (by omega)]
    rw [this];exact ⟨gh,I.more,.inl ⟨rfl,rfl⟩⟩
end
end Go.Pe.G
namespace Go.Pe.G
open Go.Pe
noncomputable section
theorem zst:∀(n:Nat) (l:List Int),l.Nodup->(∀o∈l,1<=o/\o<=(n:Int))->l.length<=n
 | 0,[],_,_=>zGT _
 | 0,a::l,_,h=>by have:=h a (by simp);omega
 | n+1,l,hd,h=>by
  have ih:=zst n (l.erase ((n+1:Nat):Int)) (hd.erase _) (fun o ho=>by
   have:=(hd.mem_erase_iff).1 ho
   have h2:=h o this.2
   have h3:=this.1
   omega)
  rw [List.length_erase] at ih
  split at ih<;>omega
end
end Go.Pe.G
namespace Go.Pe.G
open Go.Pe
noncomputable section
theorem zzN {p:zb}(h:zB p) {nb k:Nat}{s:za}{gh:Gh}{own:List Int}(X:SX p nb s gh own k) (hnb:nb<=50) {N:Int}(hN:(nb:Int)<=N) (hN2:N<1000):zj2 s.M (zY p) (zD p) N=some (gh.F,()):=by
 have hF:=Zk h
 have hE:=wm h
 have hl:gh.F.length<nb\/gh.F.length=0:=by
  have:=X.L.all.length_eq
  simp [znN] at this
  omega
 rw [zuI,zix,zGN,zen,zGN]
 obtain ⟨o,e,ho⟩:=xt (f:=zex) (fun a=>∃x pre rest,gh.F=pre++rest/\a=(s.M,zD p,N,x,pre,())/\Chn s.M (zD p) nb x rest) (fun a=>gh.F.length-a.2.2.2.2.1.length) (fun o=>o= .brk (gh.F,())) (by
  rintro _ ⟨x,pre,rest,e,rfl,c⟩
  rw [zps,yt]
  cases rest with
  | nil =>
   have hx:x=0:=c
   rw [if_pos hx]
   exact ⟨_,rfl,by rw [e,zGQ]⟩
  | cons y l =>
   obtain ⟨c1,c2,c3,c4⟩:=c
   have hlen:gh.F.length=pre.length+(l.length+1):=by rw [e,zGV,zG7]
   rw [if_neg (by omega),zj,if_pos (show (pre.length:Int)<(bif decide ((1000:Int)<N) then 1000 else N) by rw [zj,if_neg (by omega)];omega),yr (by simp;omega),zGN,zR (by omega) (by omega),zix,zGN]
   refine ⟨_,rfl,⟨_,pre++[x],l,by rw [e,c1];simp,rfl,?_⟩,?_⟩
   ·rw [c1];exact c4
   ·show gh.F.length-(pre++[x]).length<gh.F.length-pre.length
    rw [zGV,zIz];omega) (s.M,zD p,N,yf (ld s.M (zY p)),([]:List Int),()) ⟨_,[],gh.F,rfl,rfl,X.L.cF⟩ (by show gh.F.length-0<18446744073709551616;omega)
 subst ho
 exact congrArg (fun o=>Option.bind o _) e
theorem zvY {α β:Type}(f:α->List β):∀(l:List α) (a:List β),l.foldl (fun r x=>r++f x) a=a++l.flatMap f
 | [],a=>by simp
 | x::l,a=>by rw [zHI,zvY f l,zHB,zGR]
theorem ziz {p:zb}(h:zB p) {k:Nat}{s:za}{gh:Gh}(G:FG p (zS p+1) k s gh):uZ s=some (wx (gh.F.flatMap (ym s)),())/\(gh.F.flatMap (ym s)).length<=9:=by
 have hP:=G.E.S.P
 have hbl:=G.E.S.bins
 have hbp:=zcM h
 have hN:=G.E.H.n
 have hn:=h.n
 have hmo:=h.most
 have hl9:(gh.F.flatMap (ym s)).length<=9:=by
  have hs:(gh.F.flatMap (ym s)).Sublist (vv p s gh):=(List.sublist_append_left _ _).trans (List.sublist_append_left _ _)
  have:=zst s.H.Objs.length _ (G.B.nd.sublist hs) (fun o ho=>by
   have ho:=hs.subset ho
   exact ⟨(ziR ((G.B.gr o).1 ho)).1,G.mrk o ((WZ _ _).1 ((G.B.gr o).1 ho)).1⟩)
  omega
 refine ⟨?_,hl9⟩
 have hF:gh.F.length<1000:=by
  have:=G.X.L.all.length_eq
  simp [znN] at this
  omega
 have hnode:∀y∈gh.F,1<=y/\y<((zS p+1:Nat):Int):=fun y hy=>zpR.1 (G.X.L.all.subset (zHa _ (zHa _ hy)))
 rw [zs1,zbe,zGN,Uq,zGN,hP]
 dsimp only
 rw [zzN h G.X (by omega) (by omega) (by omega),zGN]
 dsimp only
 obtain ⟨e,_⟩:=ZW (f:=WT) (fun j r=>((gh.F.length:Int),j,s,r,gh.F,())) (fun r=>(r,())) gh.F (by omega) (fun r y=>r++ym s y) (fun i r=>r=(gh.F.take i).flatMap (ym s)) (s:=[]) rfl
  (fun i r y hy hi hr=>by
   have hm:=zGX hy
   obtain ⟨b1,b2⟩:=zuY G (hnode y hm)
   have hsub:r.length+(ym s y).length<=9:=by
    have h1:r++ym s y=(gh.F.take (i+1)).flatMap (ym s):=by rw [hr,zH7,hy];simp
    have h2:((gh.F.take (i+1)).flatMap (ym s)).Sublist (gh.F.flatMap (ym s)):=by
     conv=>rhs;rw [<-zIn (i+1) gh.F,zHQ]
     exact List.sublist_append_left _ _
    have h3:=h2.length_le
    rw [<-zGV,h1];omega
   have hb2:=(hnode y hm).2
   refine ⟨by rw [hr,zH7,hy];simp,?_⟩
   show WT ((gh.F.length:Int),(i:Int),s,r,gh.F,())=_
   rw [zhc,zj,if_pos (by omega),va (by omega) (by omega),zGN,zHw,hy,zGN,zj,if_pos (by omega),b1,zGN,yr (by simp;omega),zGN,yx (by omega)])
  (fun r hr=>by
   show WT ((gh.F.length:Int),(gh.F.length:Int),s,r,gh.F,())=_
   rw [zhc,zj,if_neg (by omega)])
 rw [zvY,zGY] at e
 rw [e,zGN]
 dsimp only
 rw [zaT (by omega)];rfl
theorem zz8 {p:zb}(h:zB p) {nb k:Nat}{s:za}{gh:Gh}(G:FG p nb k s gh):∀(n i:Nat),i+n=s.Ws.length->zvg s n (i:Int)=some ((List.range' i n).map fun j:Nat=>(s.Ws[j]?).elim [] fun x=>wx (zH s x++gh.D ((j:Int)+1)))
 | 0,i,_=>rfl
 | n+1,i,hi=>by
  have hx:=zGP (show i<s.Ws.length by omega)
  have ih:=zz8 h G n (i+1) (by omega)
  rw [show ((i+1:Nat):Int)=(i:Int)+1 by omega] at ih
  rw [zvg,zmc h G hx,zGN,ih,zGN,List.range'_succ,zHY,hx];rfl
theorem zz4 {p:zb}(h:zB p) {nb k:Nat}{s:za}{gh:Gh}(G:FG p nb k s gh):∀(n i:Nat),i+n=s.Ms.length->zuM s n (i:Int)=some ((List.range' i n).map fun j:Nat=>(s.Ms[j]?).elim [] fun x=>wx (zV s x))
 | 0,i,_=>rfl
 | n+1,i,hi=>by
  have hx:=zGP (show i<s.Ms.length by omega)
  have ih:=zz4 h G n (i+1) (by omega)
  rw [show ((i+1:Nat):Int)=(i:Int)+1 by omega] at ih
  rw [zuM,zjQ h G hx,zGN,ih,zGN,List.range'_succ,zHY,hx];rfl
theorem zCo {a b:List Int}(ha:a.length<1000000) (hb:b.length<1000000):YF [a,b]=some (a++b,()):=by
 rw [zdB]
 obtain ⟨e,_⟩:=ZW (f:=xA) (fun j (r:Int)=>([a,b],r,[a,b],2,j,())) (fun r=>([a,b],r,())) [a,b] (show 2<1000000 by decide) (fun r x=>r+(x.length:Int)) (fun i r=>0<=r/\r<=(i:Int)*1000000) (s:=0) ⟨by omega,by omega⟩
  (fun i r x hx hi hr=>by
   have hi:i<2:=hi
   have hxl:x.length<1000000:=by
    rcases zHc.1 (zGX hx) with rfl | hx
    ·exact ha
    ·rw [zHq.1 hx];exact hb
   refine ⟨⟨by omega,by omega⟩,?_⟩
   show xA ([a,b],r,[a,b],2,(i:Int),())=_
   rw [XL,zj,if_pos (by omega),xf hx,zGN,zR (a:=r+(x.length:Int)) (by omega) (by omega),zj,if_neg (by omega),yx (by omega)])
  (fun r hr=>by
   show xA ([a,b],r,[a,b],2,2,())=_
   rw [XL];rfl)
 have e:zO xA ([a,b],0,[a,b],(([a,b]:List (List Int)).length:Int),0,())=some (.brk ([a,b],0+(a.length:Int)+(b.length:Int),())):=e
 rw [e,zGN]
 dsimp only
 have hg:zAP (0+(a.length:Int)+(b.length:Int))=some ([],()):=by
  rw [zDM]
  unfold zt6
  rw [decide_eq_true (by omega:(0:Int)<=0+(a.length:Int)+(b.length:Int)),decide_eq_true (by omega:0+(a.length:Int)+(b.length:Int)<4294967296)];rfl
 rw [hg,zGN]
 obtain ⟨e,_⟩:=ZW (f:=xq) (fun j (r:List Int)=>([a,b],2,j,r,())) (fun r=>(r,())) [a,b] (show 2<1000000 by decide) (fun r x=>r++x) (fun i r=>r.length<=i*1000000) (s:=[]) (by simp)
  (fun i r x hx hi hr=>by
   have hi:i<2:=hi
   have hxl:x.length<1000000:=by
    rcases zHc.1 (zGX hx) with rfl | hx
    ·exact ha
    ·rw [zHq.1 hx];exact hb
   refine ⟨by rw [zGV];omega,?_⟩
   show xq ([a,b],2,(i:Int),r,())=_
   rw [Xm,zj,if_pos (by omega),xf hx,zGN,yr (by simp;omega),zGN,yx (by omega)])
  (fun r hr=>by
   show xq ([a,b],2,2,r,())=_
   rw [Xm];rfl)
 have e:zO xq ([a,b],(([a,b]:List (List Int)).length:Int),0,([]:List Int),())=some (.brk ([]++a++b,())):=e
 rw [e];rfl
theorem zvS {a b:List Int}(ha:a.length<1000000) (hb:b.length<1000000):zgN a b=some (wx (a++b),()):=by
 rw [zzc,zCo ha hb,zGN,zqt (by simp;omega)];rfl
theorem zv2:∀(ys:List (List Int)) (a:List Int),(a++ys.flatten).length<1000000->Za zbi ys (wx a,())=some (wx (a++ys.flatten),())
 | [],a,_=>by rw [Za];simp
 | y::ys,a,hl=>by
  rw [List.flatten_cons,<-zGR] at hl ⊢
  have hl2:=hl
  rw [zGV,zGV] at hl2
  rw [Za,zq9,zvS (by rw [zaJ];omega) (by omega),zGN,zGN]
  dsimp only
  rw [zr4]
  exact zv2 ys (a++y) hl
theorem zwu {α:Type}{f:α->List Int}(l:List α):List.Perm ((l.map fun x=>wx (f x)).flatten) (l.flatMap f):=by
 induction l with
 | nil=>exact zHd _
 | cons a l ih =>
  rw [zHY,List.flatten_cons,zHB]
  exact (XM _).append ih
theorem zDJ {p:zb}(h:zB p) {k:Nat}{s:za}{gh:Gh}(G:FG p (zS p+1) k s gh):∃ys,ztF s=some ys/\List.Perm ys.flatten (vv p s gh):=by
 have hwl:=G.E.wl
 have hwk:=h.wk
 have hml:=G.E.ml
 have hmt:=h.mt
 refine ⟨_,by
  unfold ztF
  rw [decide_eq_true (show s.Ws.length<1000000 by omega),decide_eq_true (show s.Ms.length<1000000 by omega),(ziz h G).1,Bool.and_self,cond_true,zGN,show (0:Int)=((0:Nat):Int) from rfl,zz8 h G s.Ws.length 0 (by omega),zGN,zz4 h G s.Ms.length 0 (by omega),zGN],?_⟩
 have eW:((List.range' 0 s.Ws.length).map fun j:Nat=>(s.Ws[j]?).elim [] fun x=>wx (zH s x++gh.D ((j:Int)+1)))=(List.range s.Ws.length).map fun j:Nat=>wx ((s.Ws[j]?).elim [] fun x=>zH s x++gh.D ((j:Int)+1)):=by
  rw [<-zIl]
  refine zIm (fun j hj=>?_)
  rw [zGP (zHk.1 hj)];rfl
 have eM:((List.range' 0 s.Ms.length).map fun j:Nat=>(s.Ms[j]?).elim [] fun x=>wx (zV s x))=(List.range s.Ms.length).map fun j:Nat=>wx ((s.Ms[j]?).elim [] (zV s)):=by
  rw [<-zIl]
  refine zIm (fun j hj=>?_)
  rw [zGP (zHk.1 hj)];rfl
 dsimp only
 rw [eW,eM,List.flatten_cons,List.flatten_append]
 refine ((XM _).append ((zwu _).append (zwu _))).trans ?_
 rw [zim (f:=zV s) s.Ms]
 have eW2:(List.range s.Ws.length).flatMap (fun j:Nat=>(s.Ws[j]?).elim [] fun x=>zH s x++gh.D ((j:Int)+1))=(List.range s.Ws.length).flatMap (fun j:Nat=>(s.Ws[j]?).elim [] (zH s)++gh.D ((j:Int)+1)) :=
  xz (fun j hj=>by rw [zGP (zHk.1 hj)];rfl)
 rw [eW2]
 unfold vv yo
 have en:p.Workers.toNat=s.Ws.length:=by omega
 rw [en,zGR]
 refine zG0 _ ?_
 rw [<-zGR]
 refine zH9 _ ?_
 refine (zqr (List.range s.Ws.length) (f:=fun i:Nat=>(s.Ws[i]?).elim [] (zH s)) (g:=fun i:Nat=>gh.D ((i:Int)+1))).trans ?_
 rw [zim (f:=zH s) s.Ws]
 exact zHx
theorem FG.bag9 {p:zb}(h:zB p) {nb k:Nat}{s:za}{gh:Gh}(G:FG p nb k s gh):(vv p s gh).length<=9/\∀o∈vv p s gh,1<=o/\o<=9:=by
 have hN:=G.E.H.n
 have hn:=h.n
 have hmo:=h.most
 have hr:∀o∈vv p s gh,1<=o/\o<=(s.H.Objs.length:Int):=fun o ho=>⟨(ziR ((G.B.gr o).1 ho)).1,G.mrk o ((WZ _ _).1 ((G.B.gr o).1 ho)).1⟩
 have:=zst s.H.Objs.length _ G.B.nd hr
 exact ⟨by omega,fun o ho=>by have:=hr o ho;omega⟩
theorem zwE {p:zb}(h:zB p) {k:Nat}{s:za}{gh:Gh}(G:FG p (zS p+1) k s gh):Va s=some (wx (vv p s gh),()):=by
 obtain ⟨ys,e,hp⟩:=zDJ h G
 have hl:=(G.bag9 h).1
 rw [zvd,zw1,zGN]
 have ej:zpM s.P.Workers s.P.Mutators s.P.Cap s.P.Buf s.P.Bin s.P.Most s.P.Price s.P.Limit s.P.H.Slots s.P.H.Objs s.P.Roots s.P.Regs s.P.Progs s.P.Picks s.H.Slots s.H.Objs s.M s.Bins s.T.Marks s.T.Black s.Work s.Epoch s.Flag s.Done s.Restarts s.Acks s.L.Scanned s.L.Spent s.L.Pool s.L.Bal s.Ws s.Ms s.D.PC s.D.I=some ys:=e
 dsimp only
 rw [ej,zGN]
 have:=zv2 ys [] (by rw [zGY,hp.length_eq];omega)
 rw [zGY] at this
 have this:Za zbi ys (([]:List Int),())=some (wx ys.flatten,()):=this
 rw [this,zq2 hp];rfl
end
end Go.Pe.G
namespace Go.Pe.G
open Go.Pe
noncomputable section
def uN (s:za):List zu:=(s.Ws.filter (fun x=>decide (x.PC=6))).map (·.G)++(s.Ms.filter (fun x=>decide (x.PC=3\/x.PC=37))).map (·.G)
theorem zoA {α β:Type}(c:α->Bool) (f:α->β):∀(l:List α) (a:List β),l.foldl (fun r x=>bif c x then r++[f x] else r) a=a++(l.filter c).map f
 | [],a=>by simp
 | x::l,a=>by
  rw [zHI,zoA c f l,List.filter_cons]
  cases c x<;>simp
theorem zAK (x:zc):uj x=some (decide (x.PC=3\/x.PC=37),()):=by
 rw [zdA]
 by_cases c:x.PC=3
 ·rw [decide_eq_true c,decide_eq_true (show x.PC=3\/x.PC=37 from .inl c)];rfl
 ·rw [decide_eq_false c]
  by_cases c2:x.PC=37
  ·rw [decide_eq_true c2,decide_eq_true (show x.PC=3\/x.PC=37 from .inr c2)];rfl
  ·rw [decide_eq_false c2,decide_eq_false (show ¬(x.PC=3\/x.PC=37) from fun e=>e.elim c c2)];rfl
theorem zo1 {s:za}(h1:s.Ws.length<=100) (h2:s.Ms.length<=100):zas s=some (uN s,()):=by
 rw [zpw]
 obtain ⟨e,_⟩:=ZW (f:=Yy) (fun j r=>(s.Ws,(s.Ws.length:Int),j,s,r,())) (fun r=>(s,r,())) s.Ws (zIr h1 (by decide)) (fun r x=>bif decide (x.PC=6) then r++[x.G] else r) (fun i r=>r.length<=i) (s:=[]) (by simp)
  (fun i r x hx hi hr=>by
   refine ⟨?_,?_⟩
   ·cases decide (x.PC=6)
    ·show r.length<=_;omega
    ·show (r++[x.G]).length<=_;simp;omega
   show Yy (s.Ws,(s.Ws.length:Int),(i:Int),s,r,())=_
   rw [zdc,zj,if_pos (by omega),xf hx,zGN,yr (by simp;omega),zGN,yx (by omega)]
   cases decide (x.PC=6)<;>rfl)
  (fun r hr=>by
   show Yy (s.Ws,(s.Ws.length:Int),(s.Ws.length:Int),s,r,())=_
   rw [zdc,zj,if_neg (by omega)])
 rw [zoA,zGY] at e
 rw [e,zGN]
 dsimp only
 have hfl:((s.Ws.filter (fun x:zh=>decide (x.PC=6))).map fun x:zh=>x.G).length<=s.Ws.length:=by rw [zHL];exact zH8 _ _
 obtain ⟨e,_⟩:=ZW (f:=YB) (fun j r=>(s.Ms,(s.Ms.length:Int),j,r,())) (fun r=>(r,())) s.Ms (zIr h2 (by decide)) (fun r x=>bif decide (x.PC=3\/x.PC=37) then r++[x.G] else r) (fun i r=>r.length<=i+100) (s:=(s.Ws.filter (fun x:zh=>decide (x.PC=6))).map fun x:zh=>x.G) (by omega)
  (fun i r x hx hi hr=>by
   refine ⟨?_,?_⟩
   ·cases decide (x.PC=3\/x.PC=37)
    ·show r.length<=_;omega
    ·show (r++[x.G]).length<=_;simp;omega
   show YB (s.Ms,(s.Ms.length:Int),(i:Int),r,())=_
   rw [zcY,zj,if_pos (by omega),xf hx,zGN,zAK,zGN,yr (by simp;omega),zGN,yx (by omega)]
   dsimp only
   cases decide (x.PC=3\/x.PC=37)<;>rfl)
  (fun r hr=>by
   show YB (s.Ms,(s.Ms.length:Int),(s.Ms.length:Int),r,())=_
   rw [zcY,zj,if_neg (by omega)])
 rw [zoA] at e
 rw [e];rfl
theorem zE6 (g:zu):owG g=0\/owG g=1:=by unfold owG;split<;>simp
theorem zBF (g:zu):zmh g=some (owG g,()):=by
 rw [zuV,zkd]
 simp only [zj]
 unfold owG
 by_cases c1:g.Out=0
 ·rw [if_pos c1]
  by_cases c2:1<=g.PC
  ·rw [if_pos c2]
   by_cases c3:g.PC<=2
   ·rw [if_pos c3,if_pos ⟨c1,by omega⟩];rfl
   ·rw [if_neg c3,if_neg (by omega)];rfl
  ·rw [if_neg c2,if_neg (by omega)];rfl
 ·rw [if_neg c1,if_neg (fun e=>c1 e.1)];rfl
theorem zlE {α:Type}(f:α->Int):∀(l:List α) (a:Int),l.foldl (fun r x=>r+f x) a=a+(l.map f).sum
 | [],a=>by simp
 | x::l,a=>by rw [zHI,zlE f l,zHY,List.sum_cons];omega
theorem zqs {α:Type}(c:α->Bool) (f g h:α->Int) (e:∀x,h x=(bif c x then f x else 0)+g x):∀l:List α,(l.map h).sum=((l.filter c).map f).sum+(l.map g).sum
 | []=>rfl
 | x::l=>by
  rw [zHY,List.sum_cons,zqs c f g h e l,List.filter_cons,e x,zHY,List.sum_cons]
  cases c x<;>simp<;>omega
theorem zCn (s:za):zae s=((uN s).map owG).sum+(s.Ws.map fun x=>if x.PC=9 then (1:Int) else 0).sum+(s.Ms.map fun x=>if x.PC=39 then (1:Int) else 0).sum:=by
 have hW:=zqs (fun x:zh=>decide (x.PC=6)) (fun x=>owG x.G) (fun x=>if x.PC=9 then (1:Int) else 0) owW (fun x=>by
  unfold owW
  by_cases c:x.PC=9
  ·rw [if_pos c,if_pos c,decide_eq_false (show ¬x.PC=6 by omega)];rfl
  ·rw [if_neg c,if_neg c]
   by_cases c6:x.PC=6
   ·rw [if_pos c6,decide_eq_true c6];show owG x.G=owG x.G+0;omega
   ·rw [if_neg c6,decide_eq_false c6];rfl) s.Ws
 have hX:=zqs (fun x:zc=>decide (x.PC=3\/x.PC=37)) (fun x=>owG x.G) (fun x=>if x.PC=39 then (1:Int) else 0) owX (fun x=>by
  unfold owX
  by_cases c:x.PC=39
  ·rw [if_pos c,if_pos c,decide_eq_false (show ¬(x.PC=3\/x.PC=37) by omega)];rfl
  ·rw [if_neg c,if_neg c]
   by_cases c6:x.PC=3\/x.PC=37
   ·rw [if_pos c6,decide_eq_true c6];show owG x.G=owG x.G+0;omega
   ·rw [if_neg c6,decide_eq_false c6];rfl) s.Ms
 unfold zae uN
 rw [hW,hX,List.map_append,List.sum_append,List.map_map,List.map_map]
 have a1:(List.map (owG ∘ fun x:zh=>x.G) (s.Ws.filter fun x=>decide (x.PC=6)))=(s.Ws.filter fun x=>decide (x.PC=6)).map fun x=>owG x.G:=rfl
 have a2:(List.map (owG ∘ fun x:zc=>x.G) (s.Ms.filter fun x=>decide (x.PC=3\/x.PC=37)))=(s.Ms.filter fun x=>decide (x.PC=3\/x.PC=37)).map fun x=>owG x.G:=rfl
 rw [a1,a2]
 omega
theorem zBR {s:za}(h1:s.Ws.length<=100) (h2:s.Ms.length<=100):zmS s=some (zae s,()):=by
 rw [zvX,zo1 h1 h2,zGN]
 dsimp only
 have hl:(uN s).length<=200:=by
  unfold uN
  rw [zGV,zHL,zHL]
  have:=zH8 (fun x:zh=>decide (x.PC=6)) s.Ws
  have:=zH8 (fun x:zc=>decide (x.PC=3\/x.PC=37)) s.Ms
  omega
 obtain ⟨e,b1,b2⟩:=ZW (f:=V3) (fun j r=>(r,((uN s).length:Int),j,s,uN s,())) (fun r=>(r,s,())) (uN s) (by omega) (fun r x=>r+owG x) (fun i r=>0<=r/\r<=(i:Int)) (s:=0) ⟨by omega,by omega⟩
  (fun i r x hx hi hr=>by
   have:=zE6 x
   refine ⟨⟨by omega,by omega⟩,?_⟩
   show V3 (r,((uN s).length:Int),(i:Int),s,uN s,())=_
   rw [zib,zj,if_pos (by omega),va (by omega) (by omega),zGN,zHw,hx,zGN,zBF,zGN,yx (by omega),zR (by omega) (by omega)])
  (fun r hr=>by
   show V3 (r,((uN s).length:Int),((uN s).length:Int),s,uN s,())=_
   rw [zib,zj,if_neg (by omega)])
 rw [zlE] at e b1 b2
 rw [e,zGN]
 dsimp only
 generalize hr0:0+((uN s).map owG).sum=r0 at b1 b2
 obtain ⟨e,b3,b4⟩:=ZW (f:=V6) (fun j r=>(r,s.Ws,(s.Ws.length:Int),j,s,())) (fun r=>(r,s,())) s.Ws (by omega) (fun (r:Int) x=>r+if x.PC=9 then 1 else 0) (fun i r=>0<=r/\r<=200+(i:Int)) (s:=r0) ⟨by omega,by omega⟩
  (fun i r x hx hi hr=>by
   refine ⟨⟨by split<;>omega,by split<;>omega⟩,?_⟩
   show V6 (r,s.Ws,(s.Ws.length:Int),(i:Int),s,())=_
   rw [zh8,zj,if_pos (by omega),xf hx,zGN,yx (by omega),zj]
   by_cases c:x.PC=9
   ·rw [if_pos c,if_pos c,zR (by omega) (by omega)]
   ·rw [if_neg c,if_neg c,show r+0=r by omega])
  (fun r hr=>by
   show V6 (r,s.Ws,(s.Ws.length:Int),(s.Ws.length:Int),s,())=_
   rw [zh8,zj,if_neg (by omega)])
 rw [zlE] at e b3 b4
 rw [e,zGN]
 dsimp only
 generalize hr1:r0+(s.Ws.map fun x=>if x.PC=9 then (1:Int) else 0).sum=r1 at b3 b4
 obtain ⟨e,_⟩:=ZW (f:=WR) (fun j r=>(r,s.Ms,(s.Ms.length:Int),j,())) (fun r=>(r,())) s.Ms (by omega) (fun (r:Int) x=>r+if x.PC=39 then 1 else 0) (fun i r=>0<=r/\r<=400+(i:Int)) (s:=r1) ⟨by omega,by omega⟩
  (fun i r x hx hi hr=>by
   refine ⟨⟨by split<;>omega,by split<;>omega⟩,?_⟩
   show WR (r,s.Ms,(s.Ms.length:Int),(i:Int),())=_
   rw [zgP,zj,if_pos (by omega),xf hx,zGN,yx (by omega),zj]
   by_cases c:x.PC=39
   ·rw [if_pos c,if_pos c,zR (by omega) (by omega)]
   ·rw [if_neg c,if_neg c,show r+0=r by omega])
  (fun r hr=>by
   show WR (r,s.Ms,(s.Ms.length:Int),(s.Ms.length:Int),())=_
   rw [zgP,zj,if_neg (by omega)])
 rw [zlE] at e
 rw [e,zGN,zCn]
 dsimp only
 rw [<-hr1,<-hr0]
 congr 2
 omega
end
end Go.Pe.G
namespace Go.Pe.G
open Go.Pe
noncomputable section
inductive Reach (h:zt) (R:BitVec 64):Int->Prop
 | root (o:Int) (h1:z9 R o=true) (h2:1<=o/\o<=(h.Objs.length:Int)):Reach h R o
 | step (o v:Int) (h1:Reach h R o) (h2:v∈zX h o) (h3:1<=v/\v<=(h.Objs.length:Int)):Reach h R v
theorem Reach.in {h:zt}{R:BitVec 64}{o:Int}(r:Reach h R o):1<=o/\o<=(h.Objs.length:Int):=by
 cases r with
 | root _ _ h2=>exact h2
 | step _ _ _ _ h3=>exact h3
theorem zAH:∀t:Fin 512,zol 66 (BitVec.ofNat 64 t.1)=some (((List.range 9).filter fun i=>(BitVec.ofNat 64 t.1).getLsbD i).map fun i:Nat=>(i:Int)+1):=by decide +kernel
def XH (s:BitVec 64):List Int:=((List.range 9).filter fun i=>s.getLsbD i).map fun i:Nat=>(i:Int)+1
theorem zEA:∀t:Fin 512,Go.Lib.ctz 64 t.1<=64:=by decide +kernel
theorem zwB:∀(f:Nat) (s:BitVec 64),s.toNat<512->VZ f s=zol f s
 | 0,_,_=>rfl
 | f+1,s,h=>by
  simp only [VZ,zol]
  rw [zwB f _ (by rw [zH0];exact zIr Nat.and_le_left h)]
  have:Go.Lib.ctz 64 s.toNat<=64:=zEA ⟨s.toNat,h⟩
  have e:w64 (tz s+1)=((Go.Lib.ctz 64 s.toNat:Nat):Int)+1:=by
   unfold tz
   exact zR (by omega) (by omega)
  rw [e]
theorem zBN (s:BitVec 64) (o:Int):o∈XH s↔1<=o/\o<=9/\z9 s o=true:=by
 unfold XH
 rw [zG3]
 constructor
 ·rintro ⟨i,hi,rfl⟩
  obtain ⟨a,b⟩:=List.mem_filter.1 hi
  have a:=zHk.1 a
  exact ⟨by omega,by omega,(xL _ _).2 ⟨by omega,by omega,by rw [show ((i:Int)+1-1).toNat=i by omega];exact b⟩⟩
 ·rintro ⟨a,b,c⟩
  obtain ⟨_,_,d⟩:=(xL _ _).1 c
  exact ⟨(o-1).toNat,List.mem_filter.2 ⟨zHk.2 (by omega),d⟩,by omega⟩
theorem zv0 (s:BitVec 64):(XH s).length<=9:=by
 unfold XH
 rw [zHL]
 exact zHT (zH8 _ _) (by simp)
theorem zCY {s:BitVec 64}(h:∀o,z9 s o=true->o<=9):zd9 s=some (XH s,()):=by
 obtain ⟨t,rfl⟩:=zFM h
 have e:zkE (BitVec.ofNat 64 t.1)=some (XH (BitVec.ofNat 64 t.1)):=by
  show VZ 66 _=_
  rw [zwB 66 _ (by simp;omega),zAH t];rfl
 have:=zv0 (BitVec.ofNat 64 t.1)
 rw [zoY,zoV,zGN,e,zGN,zoO _ _ (by simp;omega)]
 rfl
theorem zqL {α:Type}{l:List α}{n:Nat}{i:Int}(h:0<=i) (h1:i<l.length) (h2:i<n):zfe l n i=some i.toNat:=by
 unfold zfe;simp [h,h1,h2]
def mt (met:List Int) (o:Int):Int:=met.getD (o-1).toNat 0
def Wl (met:List Int):Nat:=met.countP (fun x=>decide (x=0))
theorem zsY {met:List Int}{o:Int}(h:1<=o/\o<=(met.length:Int)):met[(o-1).toNat]? =some (mt met o):=by
 have e:=zGP (show (o-1).toNat<met.length by omega)
 unfold mt
 rw [zGS,e];rfl
theorem zji {met:List Int}{o q x:Int}(h:1<=o/\o<=(met.length:Int)) (hq:1<=q):mt (met.set (o-1).toNat x) q=if q=o then x else mt met q:=by
 unfold mt
 rw [zGS,zGS,zHC]
 by_cases e:q=o
 ·subst e;rw [if_pos rfl,if_pos rfl,if_pos (by omega)];rfl
 ·rw [if_neg (by omega),if_neg e]
theorem zB9 {met:List Int}{o x:Int}(h:1<=o/\o<=(met.length:Int)) (h0:mt met o=0) (hx:x≠0):Wl (met.set (o-1).toNat x)+1=Wl met:=by
 have hl:(o-1).toNat<met.length:=by omega
 have e:met[(o-1).toNat]'hl=0:=by
  have:=zsY h
  rw [h0,zGP hl] at this
  exact Option.some.inj this
 have hm:(0:Int)∈met:=by rw [<-e];exact zHn hl
 have hp:0<Wl met:=List.countP_pos_iff.2 ⟨0,hm,by simp⟩
 unfold Wl at hp ⊢
 rw [List.countP_set hl,e]
 simp [hx]
 omega
structure RI (h:zt) (R:BitVec 64) (met wait:List Int):Prop where
 len:met.length=64
 val:∀o,1<=o->0<=mt met o/\mt met o<=100-(Wl met:Int)
 rc:∀o,1<=o->0<mt met o->Reach h R o
 rt:∀o,z9 R o=true->1<=o/\o<=(h.Objs.length:Int)->0<mt met o
 wt:∀o∈wait,(1<=o/\o<=(h.Objs.length:Int))/\0<mt met o
 cl:∀o,1<=o->0<mt met o->o∉wait->∀v∈zX h o,1<=v/\v<=(h.Objs.length:Int)->0<mt met v
 zl:Wl met<=64
theorem zDt (met:List Int):Wl met<=met.length:=List.countP_le_length
theorem RI.add {h:zt}{R:BitVec 64}{met wait:List Int}{o v:Int}(hn:h.Objs.length<=9) (I:RI h R met wait) (ho:o∈wait) (hv:v∈zX h o) (hr:1<=v/\v<=(h.Objs.length:Int)) (h0:mt met v=0) :
  RI h R (met.set (v-1).toNat (mt met o+1)) (wait++[v])/\Wl (met.set (v-1).toNat (mt met o+1))+1=Wl met:=by
 obtain ⟨ho1,ho2⟩:=I.wt o ho
 have hlen:=I.len
 have hvl:1<=v/\v<=(met.length:Int):=by omega
 have hz:=zB9 (x:=mt met o+1) hvl h0 (by omega)
 have hval:=I.val o ho1.1
 have hzl:=I.zl
 have key:∀q,1<=q->0<mt met q->0<mt (met.set (v-1).toNat (mt met o+1)) q:=fun q hq hp=>by
  rw [zji hvl hq];split<;>omega
 refine ⟨⟨by rw [zHi];exact hlen,fun q hq=>?_,fun q hq hp=>?_,fun q a b=>key q b.1 (I.rt q a b),fun q hq=>?_,fun q hq hp hw u hu hur=>?_,by omega⟩,hz⟩
 ·have:=I.val q hq
  rw [zji hvl hq];split<;>omega
 ·rw [zji hvl hq] at hp
  split at hp
  ·rename_i e;subst e;exact .step o q (I.rc o ho1.1 ho2) hv hr
  ·exact I.rc q hq hp
 ·rcases zG8.1 hq with hq | hq
  ·exact ⟨(I.wt q hq).1,key q (I.wt q hq).1.1 (I.wt q hq).2⟩
  ·simp at hq;subst hq
   refine ⟨hr,?_⟩
   rw [zji hvl hr.1,if_pos rfl];omega
 ·have hw1:q∉wait:=fun e=>hw (zHa _ e)
  have hw2:q≠v:=fun e=>hw (by rw [e];simp)
  rw [zji hvl hq,if_neg hw2] at hp
  exact key u hur.1 (I.cl q hq hp hw1 u hu hur)
theorem RI.rm {h:zt}{R:BitVec 64}{met:List Int}{o:Int}{w:List Int}(I:RI h R met (o::w)) (hd:∀v∈zX h o,1<=v/\v<=(h.Objs.length:Int)->0<mt met v):RI h R met w :=
 ⟨I.len,I.val,I.rc,I.rt,fun q hq=>I.wt q (zGW _ hq),fun q hq hp hw v hv hr=>by
  by_cases e:q=o
  ·rw [e] at hv;exact hd v hv hr
  ·exact I.cl q hq hp (fun h=>(zHc.1 h).elim e hw) v hv hr,I.zl⟩
theorem zAT {h:zt}{R:BitVec 64}(hn:h.Objs.length<=9) {o:Int}{w0:List Int}{a7:List Int}(hs:(zX h o).length<1000000):∀(n:Nat) (met added:List Int) (i:Nat),(zX h o).length-i=n->i<=(zX h o).length->RI h R met (o::w0++added)->(o::w0++added).length+Wl met<=200 ->
  (∀v∈(zX h o).take i,1<=v/\v<=(h.Objs.length:Int)->0<mt met v)->∀m,n<m ->
  ∃met' added',xr vh m (wZ (h.Objs.length:Int),o,zX h o,((zX h o).length:Int),(i:Int),h,a7,met,o::w0++added,())=some (.brk (wZ (h.Objs.length:Int),h,a7,met',o::w0++added',())) /\
   RI h R met' (o::w0++added')/\(o::w0++added').length+Wl met'=(o::w0++added).length+Wl met/\Wl met'<=Wl met/\(∀v∈zX h o,1<=v/\v<=(h.Objs.length:Int)->0<mt met' v):=by
 intro n
 induction n with
 | zero =>
  intro met added i hk hi I hz hd m hm
  obtain ⟨m,rfl⟩:∃x,m=x+1:=⟨m-1,by omega⟩
  have e:i=(zX h o).length:=by omega
  subst e
  rw [zIo] at hd
  refine ⟨met,added,?_,I,rfl,zGT _,hd⟩
  rw [xr,YP,zj,if_neg (by omega)];rfl
 | succ n ih =>
  intro met added i hk hi I hz hd m hm
  obtain ⟨m,rfl⟩:∃x,m=x+1:=⟨m-1,by omega⟩
  have hx:=zGP (show i<(zX h o).length by omega)
  generalize hxv:(zX h o)[i]'(by omega)=v at hx
  have hv:v∈zX h o:=zGX hx
  have hlen:=I.len
  have ho:=I.wt o (by simp)
  have hval:=I.val o ho.1.1
  have htk:(zX h o).take (i+1)=(zX h o).take i++[v]:=by rw [zH7,hx];rfl
  rw [xr,YP,zj,if_pos (by omega),xf hx,zGN,zqO,zGN]
  have hb:=zog hn v
  unfold z9 at hb
  by_cases hr:1<=v/\v<=(h.Objs.length:Int)
  ·have hb1:=hb.2 hr
   dsimp only
   rw [hb1,cond_true,zR (a:=v-1) (by omega) (by omega),zqL (by omega) (by omega) (by omega),zGN,zsY (by omega),zGN,zj]
   by_cases h0:mt met v=0
   ·rw [if_pos h0,zR (a:=o-1) (by omega) (by omega),zqL (by omega) (by omega) (by omega),zGN,zsY (by omega),zGN,zGN,yr (by rw [zGV];show _+1<_;omega),zGN,zR (a:=(i:Int)+1) (by omega) (by omega),zR (a:=mt met o+1) (by omega) (by omega),zGN]
    obtain ⟨I',hz'⟩:=I.add hn (by simp) hv hr h0
    dsimp only
    rw [zGR] at I' ⊢
    have hz2:(o::w0++(added++[v])).length=(o::w0++added).length+1:=by simp;omega
    obtain ⟨met',added',e1,e2,e3,e4,e5⟩:=ih (met.set (v-1).toNat (mt met o+1)) (added++[v]) (i+1) (by omega) (by omega) I' (by omega) (fun q hq hqr=>by
     rw [zji (by omega) hqr.1]
     split
     ·omega
     ·rename_i hne
      rw [htk] at hq
      rcases zG8.1 hq with hq | hq
      ·exact hd q hq hqr
      ·simp at hq;exact absurd hq hne) m (by omega)
    refine ⟨met',added',?_,e2,by omega,by omega,e5⟩
    have:((i+1:Nat):Int)=(i:Int)+1:=by omega
    rw [<-this]
    exact e1
   ·rw [if_neg h0,zR (a:=(i:Int)+1) (by omega) (by omega),zGN]
    have hp:0<mt met v:=by have:=I.val v hr.1;omega
    obtain ⟨met',added',e1,e2⟩:=ih met added (i+1) (by omega) (by omega) I hz (fun q hq hqr=>by
     rw [htk] at hq
     rcases zG8.1 hq with hq | hq
     ·exact hd q hq hqr
     ·simp at hq;rw [hq];exact hp) m (by omega)
    refine ⟨met',added',?_,e2⟩
    have:((i+1:Nat):Int)=(i:Int)+1:=by omega
    rw [<-this]
    exact e1
  ·have hb1:(!(decide (wZ (h.Objs.length:Int)&&&bit v=0#64)))=false:=by
    cases hc:(!(decide (wZ (h.Objs.length:Int)&&&bit v=0#64))) with
    | false=>rfl
    | true=>exact absurd (hb.1 hc) hr
   dsimp only
   rw [hb1,cond_false,zR (a:=(i:Int)+1) (by omega) (by omega),zGN]
   obtain ⟨met',added',e1,e2⟩:=ih met added (i+1) (by omega) (by omega) I hz (fun q hq hqr=>by
    rw [htk] at hq
    rcases zG8.1 hq with hq | hq
    ·exact hd q hq hqr
    ·simp at hq;rw [hq] at hqr;exact absurd hqr hr) m (by omega)
   refine ⟨met',added',?_,e2⟩
   have:((i+1:Nat):Int)=(i:Int)+1:=by omega
   rw [<-this]
   exact e1
theorem zsc {A B D:Type}{f:A->Option (yy A B D)}{x:A}{b:B}{n:Nat}(h:xr f n x=some (.brk b)) (hn:n<=vO):zO f x=some (.brk b):=by
 rw [X3]
 have key:∀(n m:Nat) (x:A),xr f n x=some (.brk b)->n<=m->xr f m x=some (.brk b):=by
  intro n
  induction n with
  | zero=>intro m x h;cases h
  | succ n ih =>
   intro m x h hm
   obtain ⟨m,rfl⟩:∃q,m=q+1:=⟨m-1,by omega⟩
   simp only [xr,zGZ] at h ⊢
   obtain ⟨s,h1,h2⟩:=h
   refine ⟨s,h1,?_⟩
   cases s with
   | again y=>exact ih m y h2 (by omega)
   | brk b'=>exact h2
   | ret c=>exact h2
 exact key n vO x h hn
theorem zDE {h:zt}{R:BitVec 64}(hn:h.Objs.length<=9) (hs:∀o,(zX h o).length<1000000) {a7:List Int}:∀(n:Nat) (met wait:List Int),wait.length+2*Wl met<=n->wait.length+Wl met<=200->RI h R met wait->∀m,n<m ->
  ∃met',xr ZB m (wZ (h.Objs.length:Int),h,a7,met,wait,())=some (.brk (a7,met',()))/\RI h R met' []:=by
 intro n
 induction n with
 | zero =>
  intro met wait hz hz2 I m hm
  obtain ⟨m,rfl⟩:∃x,m=x+1:=⟨m-1,by omega⟩
  have:wait=[]:=zHz (by omega)
  subst this
  refine ⟨met,?_,I⟩
  rw [xr,uH,zj,if_neg (by simp)];rfl
 | succ n ih =>
  intro met wait hz hz2 I m hm
  obtain ⟨m,rfl⟩:∃x,m=x+1:=⟨m-1,by omega⟩
  cases wait with
  | nil =>
   refine ⟨met,?_,I⟩
   rw [xr,uH,zj,if_neg (by simp)];rfl
  | cons o w =>
   have ho:=(I.wt o (by simp)).1
   have hso:=hs o
   have eo:=zGP (show (o-1).toNat<h.Objs.length by omega)
   have es:h.Objs[(o-1).toNat]'(by omega)=zX h o:=by unfold zX;rw [zGS,eo];rfl
   obtain ⟨met',added',e1,e2,e3,e4,e5⟩:=zAT (a7:=a7) hn (o:=o) (w0:=w) hso _ met [] 0 rfl (zHO _) (by simpa using I) (by simpa using hz2) (fun v hv=>by simp at hv) ((zX h o).length+1) (by omega)
   simp only [zGQ,Int.natCast_zero] at e1 e3
   have e1:xr vh ((zX h o).length+1) (wZ (h.Objs.length:Int),o,zX h o,((zX h o).length:Int),0,h,a7,met,o::w,())=some (.brk (wZ (h.Objs.length:Int),h,a7,met',o::w++added',())):=e1
   have hidx:xw (o::w) 0=some 0:=by rw [va (by omega) (by simp)];rfl
   rw [xr,uH,zj,if_pos (by simp),hidx,zGN]
   simp only [zHR,zGN,zrh,zG5,cond_false]
   rw [zR (a:=o-1) (by omega) (by omega),w9 (by omega),eo,zGN,es,zsc e1 (by have:vO=18446744073709551616:=rfl;omega)]
   dsimp only [zGN]
   rw [zId,zr2,zGN,zGN]
   dsimp only
   rw [zId] at e2
   exact ih met' (w++added') (by simp at e3 hz ⊢;omega) (by simp at e3 hz2 ⊢;omega) (e2.rm e5) m (by omega)
theorem zEK (o:Int):mt (List.replicate 64 (0:Int)) o=0:=by
 unfold mt
 rw [zGS,zIe];split<;>rfl
theorem zBa {h:zt}{a1:BitVec 64}{a5:List Int}:∀(n i:Nat) (l met:List Int),l.length-i=n->i<=l.length->l.length<1000000->(∀o∈l,1<=o/\o<=9)->met.length=64->(∀o,1<=o->mt met o=if o∈l.take i then 1 else 0)->∀m,n<m ->
  ∃met',xr ZA m (a1,(l.length:Int),(i:Int),h,a5,met,l,())=some (.brk (a1,h,a5,met',l,()))/\met'.length=64/\∀o,1<=o->mt met' o=if o∈l then 1 else 0:=by
 intro n
 induction n with
 | zero =>
  intro i l met hk hi hl hr hm ht m hm2
  obtain ⟨m,rfl⟩:∃x,m=x+1:=⟨m-1,by omega⟩
  have e:i=l.length:=by omega
  subst e
  rw [zIo] at ht
  refine ⟨met,?_,hm,ht⟩
  rw [xr,Xh,zj,if_neg (by omega)];rfl
 | succ n ih =>
  intro i l met hk hi hl hr hm ht m hm2
  obtain ⟨m,rfl⟩:∃x,m=x+1:=⟨m-1,by omega⟩
  have hx:=zGP (show i<l.length by omega)
  generalize hxv:l[i]'(by omega)=v at hx
  have hv:=hr v (zGX hx)
  have htk:l.take (i+1)=l.take i++[v]:=by rw [zH7,hx];rfl
  rw [xr,Xh,zj,if_pos (by omega),va (by omega) (by omega),zGN,zHw,hx,zGN,zR (a:=v-1) (by omega) (by omega),zqL (by omega) (by omega) (by omega),zGN,zR (a:=(i:Int)+1) (by omega) (by omega),zGN]
  obtain ⟨met',e1,e2⟩:=ih (i+1) l (met.set (v-1).toNat 1) (by omega) (by omega) hl hr (by rw [zHi];exact hm) (fun o ho=>by
   rw [zji (by omega) ho,ht o ho,htk]
   by_cases e:o=v
   ·rw [if_pos e,if_pos (by rw [e];simp)]
   ·rw [if_neg e]
    by_cases e2:o∈l.take i
    ·rw [if_pos e2,if_pos (zHa _ e2)]
    ·rw [if_neg e2,if_neg (fun h=>(zG8.1 h).elim e2 (fun h=>e (by simpa using h)))]) m (by omega)
  refine ⟨met',?_,e2⟩
  have:((i+1:Nat):Int)=(i:Int)+1:=by omega
  rw [<-this]
  exact e1
theorem zzU {met:List Int}(hl:met.length=64):∃S,zcR met=some (S,())/\∀o,z9 S o=true↔1<=o/\0<mt met o:=by
 rw [zo7,zj,if_pos hl]
 have key:=xt (f:=zad) (fun a=>∃(i:Nat) (S:BitVec 64),i<=64/\a=(S,met,(i:Int),())/\∀o,z9 S o=true↔(1<=o/\o<=(i:Int))/\0<mt met o) (fun a=>64-a.2.2.1.toNat) (fun o=>∃S,o= .brk (S,())/\∀o,z9 S o=true↔1<=o/\0<mt met o) (by
  rintro _ ⟨i,S,hi,rfl,hS⟩
  rw [zmH,zj]
  by_cases c:(i:Int)<64
  ·have hx:=zsY (met:=met) (o:=(i:Int)+1) (by omega)
   rw [show ((i:Int)+1-1).toNat=i by omega] at hx
   rw [if_pos c,zqL (by omega) (by omega) c,zGN,zHw,hx,zGN,zj,zR (a:=(i:Int)+1) (by omega) (by omega),ze0,zGN]
   by_cases hp:0<mt met ((i:Int)+1)
   ·rw [if_pos hp]
    refine ⟨_,rfl,⟨i+1,_,by omega,rfl,fun o=>?_⟩,?_⟩
    ·dsimp only
     rw [wR _ (by omega),hS o]
     constructor
     ·rintro (⟨a,b⟩ | rfl)
      ·exact ⟨by omega,b⟩
      ·exact ⟨by omega,hp⟩
     ·rintro ⟨a,b⟩
      by_cases e:o=(i:Int)+1
      ·exact .inr e
      ·exact .inl ⟨by omega,b⟩
    ·show 64-((i:Int)+1).toNat<64-(i:Int).toNat
     omega
   ·rw [if_neg hp]
    refine ⟨_,rfl,⟨i+1,S,by omega,rfl,fun o=>?_⟩,?_⟩
    ·rw [hS o]
     constructor
     ·rintro ⟨a,b⟩;exact ⟨by omega,b⟩
     ·rintro ⟨a,b⟩
      by_cases e:o=(i:Int)+1
      ·rw [e] at b;exact absurd b hp
      ·exact ⟨by omega,b⟩
    ·show 64-((i:Int)+1).toNat<64-(i:Int).toNat
     omega
  ·rw [if_neg c]
   refine ⟨_,rfl,S,rfl,fun o=>?_⟩
   rw [hS o]
   have hi:i=64:=by omega
   subst hi
   constructor
   ·rintro ⟨a,b⟩;exact ⟨a.1,b⟩
   ·rintro ⟨a,b⟩
    refine ⟨⟨a,?_⟩,b⟩
    by_cases h:64<o
    ·exfalso
     unfold mt at b
     rw [zGS,zHU (by omega)] at b
     exact absurd b (by show ¬(0:Int)<0;decide)
    ·show o<=64;omega) (0#64,met,0,()) ⟨0,0#64,by omega,rfl,fun o=>⟨fun e=>absurd e (zdg o),fun e=>by have:=e.1;omega⟩⟩ (by show 64-0<18446744073709551616;decide)
 obtain ⟨o,e,S,rfl,hS⟩:=key
 refine ⟨S,?_,hS⟩
 exact congrArg (fun o=>Option.bind o _) e
theorem zxD {h:zt}(hn:h.Objs.length<=9) (hs:∀l∈h.Objs,l.length<1000000) (R:BitVec 64):∃S,zaX h R=some (S,())/\∀o,z9 S o=true↔Reach h R o:=by
 have hso:∀o,(zX h o).length<1000000:=fun o=>by
  unfold zX
  rw [zGS]
  cases hx:h.Objs[(o-1).toNat]? with
  | none=>show ([]:List Int).length<_;simp
  | some l=>exact hs l (zGX hx)
 have hF:=fun o=>zog hn o
 have hA:∀o,z9 (R&&&wZ (h.Objs.length:Int)) o=true↔z9 R o=true/\1<=o/\o<=(h.Objs.length:Int):=fun o=>by rw [zcG,hF]
 have h9:∀o,z9 (R&&&wZ (h.Objs.length:Int)) o=true->o<=9:=fun o e=>by have:=(hA o).1 e;omega
 have hw:=zBN (R&&&wZ (h.Objs.length:Int))
 have hwl:=zv0 (R&&&wZ (h.Objs.length:Int))
 generalize hwd:XH (R&&&wZ (h.Objs.length:Int))=wait at hw hwl
 obtain ⟨met,e1,m1,m2⟩:=zBa (h:=h) (a1:=wZ (h.Objs.length:Int)) (a5:=List.replicate 64 (0:Int)) wait.length 0 wait (List.replicate 64 (0:Int)) rfl (zHO _) (by omega) (fun o ho=>by have:=(hw o).1 ho;omega) (by simp) (fun o _=>by rw [zEK];simp) (wait.length+1) (by omega)
 have hz:=zDt met
 have I:RI h R met wait:=by
  refine ⟨m1,fun o ho=>?_,fun o ho hp=>?_,fun o ho hr=>?_,fun o ho=>?_,fun o ho hp hno=>?_,by omega⟩
  ·rw [m2 o ho];split<;>omega
  ·rw [m2 o ho] at hp
   split at hp
   ·rename_i hm
    have a:=(hA o).1 ((hw o).1 hm).2.2
    exact .root o a.1 a.2
   ·omega
  ·rw [m2 o hr.1,if_pos ((hw o).2 ⟨hr.1,by omega,(hA o).2 ⟨ho,hr⟩⟩)];decide
  ·have a:=(hA o).1 ((hw o).1 ho).2.2
   refine ⟨a.2,?_⟩
   rw [m2 o a.2.1,if_pos ho];decide
  ·rw [m2 o ho,if_neg hno] at hp;omega
 obtain ⟨met',e2,I'⟩:=zDE (a7:=List.replicate 64 (0:Int)) hn hso (wait.length+2*Wl met) met wait (zGT _) (by omega) I (wait.length+2*Wl met+1) (by omega)
 obtain ⟨S,e3,hS⟩:=zzU I'.len
 refine ⟨S,?_,fun o=>?_⟩
 ·have hrd:vO=18446744073709551616:=rfl
  have ew:Ye h R=some (met',()):=by
   rw [zdr,zwi _ (by omega),zGN,zCY h9,zGN,hwd]
   refine (congrArg (fun o=>Option.bind o _) (zsc e1 (by omega))).trans ?_
   rw [zGN]
   dsimp only
   refine (congrArg (fun o=>Option.bind o _) (zsc e2 (by omega))).trans ?_
   rw [zGN]
   dsimp only
   rw [zj,zj,zj,if_pos I'.len,if_pos (by simp),if_pos I'.len]
  rw [ztk,ew,zGN,e3];rfl
 ·rw [hS o]
  constructor
  ·rintro ⟨a,b⟩;exact I'.rc o a b
  ·intro r
   induction r with
   | root o h1 h2=>exact ⟨h2.1,I'.rt o h1 h2⟩
   | step o v _ h2 h3 ih=>exact ⟨h3.1,I'.cl o ih.1 ih.2 (by simp) v h2 h3⟩
def zqV (h:zt) (R:BitVec 64):BitVec 64:=match zaX h R with | some x=>x.1 | none=>0#64
theorem zBi {h:zt}(hn:h.Objs.length<=9) (hs:∀l∈h.Objs,l.length<1000000) (R:BitVec 64):zaX h R=some (zqV h R,()):=by
 obtain ⟨S,e,_⟩:=zxD hn hs R
 unfold zqV
 rw [e]
theorem zCU {h:zt}(hn:h.Objs.length<=9) (hs:∀l∈h.Objs,l.length<1000000) (R:BitVec 64) (o:Int):z9 (zqV h R) o=true↔Reach h R o:=by
 obtain ⟨S,e,h2⟩:=zxD hn hs R
 unfold zqV
 rw [e]
 exact h2 o
end
end Go.Pe.G
namespace Go.Pe.G
open Go.Pe
noncomputable section
theorem zxF (s:BitVec 64):List.Pairwise (fun a b:Int=>a<=b) (XH s):=by
 unfold XH
 rw [List.pairwise_map]
 refine (List.Pairwise.filter _ (List.pairwise_lt_range (n:=9))).imp (fun h=>?_)
 omega
theorem zzZ (s:BitVec 64):(XH s).Nodup:=by
 unfold XH
 have:List.Pairwise (fun a b:Int=>a≠b) (((List.range 9).filter fun i=>s.getLsbD i).map fun i:Nat=>(i:Int)+1):=by
  rw [List.pairwise_map]
  refine (List.Pairwise.filter _ (List.pairwise_lt_range (n:=9))).imp (fun h=>?_)
  omega
 exact this
theorem zBQ {s:BitVec 64}{o:Int}:o∈XH s↔z9 s o=true/\o<=9:=by
 unfold XH
 rw [zG3]
 constructor
 ·rintro ⟨i,hi,rfl⟩
  rw [List.mem_filter,zHk] at hi
  refine ⟨(xL _ _).2 ⟨by omega,by omega,?_⟩,by omega⟩
  rw [show ((i:Int)+1-1).toNat=i by omega];exact hi.2
 ·rintro ⟨h,h9⟩
  obtain ⟨a,b,c⟩:=(xL _ _).1 h
  exact ⟨(o-1).toNat,List.mem_filter.2 ⟨zHk.2 (by omega),c⟩,by omega⟩
def zlv (s:za):BitVec 64:=s.T.Marks&&& ~~~s.T.Black
theorem zCl {s:za}(o:Int):z9 (zlv s) o=true↔wQ s.T o=1:=by
 unfold zlv
 rw [zcG,WZ]
 constructor
 ·rintro ⟨a,b⟩
  have:=(xL _ _).1 a
  exact ⟨a,(zsm _ ⟨this.1,this.2.1⟩).1 b⟩
 ·rintro ⟨a,b⟩
  have:=(xL _ _).1 a
  exact ⟨a,(zsm _ ⟨this.1,this.2.1⟩).2 b⟩
theorem zDf {p:zb}(h:zB p) {nb k:Nat}{s:za}{gh:Gh}(G:FG p nb k s gh):List.Perm (vv p s gh) (XH (zlv s)):=by
 refine (List.perm_ext_iff_of_nodup G.B.nd (zzZ _)).2 (fun o=>?_)
 rw [zBQ,zCl,G.B.gr]
 exact ⟨fun e=>⟨e,((G.bag9 h).2 o ((G.B.gr o).2 e)).2⟩,fun e=>e.1⟩
theorem zDN {p:zb}(h:zB p) {nb k:Nat}{s:za}{gh:Gh}(G:FG p nb k s gh):wx (vv p s gh)=XH (zlv s) :=
 zpN (zcb _) (zxF _) ((XM _).trans (zDf h G))
theorem zzg {p:zb}(h:zB p) {k:Nat}{s:za}{gh:Gh}(G:FG p (zS p+1) k s gh):Va s=some (XH (zlv s),()):=by
 rw [zwE h G,zDN h G]
def atS (g:zu) (a b v:Int):Int:=if g.Out=0 then (if a<=g.PC then (if g.PC<=b then v else 0) else 0) else 0
theorem zCN (g:zu):zmz g=some (atS g 0 1 g.Obj,()):=by
 rw [zu8,zkd]
 simp only [zj]
 unfold atS
 split
 ·split
  ·split<;>rfl
  ·rfl
 ·rfl
def zjf (x:zc):Prop:=x.PC=21\/x.PC=22\/(x.Ret=22/\(x.PC=1\/x.PC=3))
instance (x:zc):Decidable (zjf x):=by unfold zjf;infer_instance
def zuZ (a:BitVec 64) (x:zc):BitVec 64:=if zjf x then (a|||ziW x.Buf)|||bit x.Old else a|||ziW x.Buf
def zts (s:za):BitVec 64:=s.Ms.foldl zuZ ((uN s).foldl (fun a g=>a|||bit (atS g 0 1 g.Obj)) 0#64)
theorem zdV {s:za}(hs:Yp s) (h1:s.Ws.length<=100) (h2:s.Ms.length<=100):XO s=some (zts s,()):=by
 rw [zq4,zo1 h1 h2,zGN]
 dsimp only
 have hl:(uN s).length<=200:=by
  unfold uN
  rw [zGV,zHL,zHL]
  have:=zH8 (fun x:zh=>decide (x.PC=6)) s.Ws
  have:=zH8 (fun x:zc=>decide (x.PC=3\/x.PC=37)) s.Ms
  omega
 obtain ⟨e,_⟩:=ZW (f:=Xq) (fun j r=>(r,((uN s).length:Int),j,s,uN s,())) (fun r=>(r,s,())) (uN s) (by omega) (fun (a:BitVec 64) g=>a|||bit (atS g 0 1 g.Obj)) (fun _ _=>True) (s:=0#64) trivial
  (fun i r x hx hi hr=>by
   refine ⟨trivial,?_⟩
   show Xq (r,((uN s).length:Int),(i:Int),s,uN s,())=_
   rw [zdC,zj,if_pos (by omega),va (by omega) (by omega),zGN,zHw,hx,zGN,zCN,zGN,ze0,zGN,yx (by omega)])
  (fun r hr=>by
   show Xq (r,((uN s).length:Int),((uN s).length:Int),s,uN s,())=_
   rw [zdC,zj,if_neg (by omega)])
 rw [e,zGN]
 dsimp only
 obtain ⟨e,_⟩:=ZW (f:=Xl) (fun j r=>(r,s.Ms,(s.Ms.length:Int),j,())) (fun r=>(r,())) s.Ms (by omega) zuZ (fun _ _=>True) (s:=(uN s).foldl (fun (a:BitVec 64) g=>a|||bit (atS g 0 1 g.Obj)) 0#64) trivial
  (fun i r x hx hi hr=>by
   refine ⟨trivial,?_⟩
   show Xl (r,s.Ms,(s.Ms.length:Int),(i:Int),())=_
   rw [zdX,zj,if_pos (by omega),xf hx,zGN,zyW (hs.mu x (zGX hx)).2.1,zGN,yx (by omega),ze0,zGN]
   simp only [zj]
   unfold zuZ
   by_cases c1:x.PC=21
   ·rw [if_pos c1,if_pos (show zjf x from .inl c1)]
   rw [if_neg c1]
   by_cases c2:x.PC=22
   ·rw [if_pos c2,if_pos (show zjf x from .inr (.inl c2))]
   rw [if_neg c2]
   by_cases c3:x.Ret=22
   ·rw [if_pos c3]
    by_cases c4:x.PC=1
    ·rw [if_pos c4,if_pos (show zjf x from .inr (.inr ⟨c3,.inl c4⟩))]
    rw [if_neg c4]
    by_cases c5:x.PC=3
    ·rw [if_pos c5,if_pos (show zjf x from .inr (.inr ⟨c3,.inr c5⟩))]
    ·rw [if_neg c5,if_neg (show ¬zjf x by unfold zjf;omega)]
   ·rw [if_neg c3,if_neg (show ¬zjf x by unfold zjf;omega)])
  (fun r hr=>by
   show Xl (r,s.Ms,(s.Ms.length:Int),(s.Ms.length:Int),())=_
   rw [zdX,zj,if_neg (by omega)])
 rw [e];rfl
def zuv (a:BitVec 64) (l:List zc):BitVec 64:=l.foldl (fun a x=>a|||ziW x.Regs) a
theorem zwf {s:za}(hs:Yp s):zf3 s=some (zuv 0#64 s.Ms,()):=by
 have hl:=hs.ms
 rw [zuO]
 obtain ⟨e,_⟩:=ZW (f:=VK) (fun j r=>(r,s.Ms,(s.Ms.length:Int),j,())) (fun r=>(r,())) s.Ms hl (fun (a:BitVec 64) x=>a|||ziW x.Regs) (fun _ _=>True) (s:=0#64) trivial
  (fun i r x hx hi hr=>by
   refine ⟨trivial,?_⟩
   show VK (r,s.Ms,(s.Ms.length:Int),(i:Int),())=_
   rw [zh6,zj,if_pos (by omega),xf hx,zGN,zyW (hs.mu x (zGX hx)).1,zGN,yx (by omega)])
  (fun r hr=>by
   show VK (r,s.Ms,(s.Ms.length:Int),(s.Ms.length:Int),())=_
   rw [zh6,zj,if_neg (by omega)])
 rw [e];rfl
def ztz (s:za):BitVec 64:=zqV s.H (s.P.Roots|||zuv 0#64 s.Ms)
theorem zv1 {s:za}(hs:Yp s) (hn:s.H.Objs.length<=9):zf7 s=some (ztz s,()):=by
 rw [zvf,zwf hs,zGN,zBi hn hs.obj,zGN];rfl
def zl5 (x:zh):Bool:= !decide (x.Obj=0)||decide (0<(x.Batch.length:Int))
def zoy (x:zc):Bool:= !decide (x.Obj=0)||decide (0<(x.Batch.length:Int)+(x.Buf.length:Int))
theorem zE0 {l:List zh}(hl:l.length<1000000):yO l=some (l.any zl5,()):=by
 rw [uT,Zh]
 obtain ⟨o,e,ho⟩:=xt (f:=yN) (fun a=>∃i:Nat,i<=l.length/\a=(l,(l.length:Int),(i:Int),())/\l.any zl5=(l.drop i).any zl5) (fun a=>l.length-a.2.2.1.toNat) (fun o=>(o= .brk ()/\l.any zl5=false)\/∃i:Nat,o= .ret ((i:Int),())/\l.any zl5=true) (by
  rintro _ ⟨i,hi,rfl,ha⟩
  rw [uU,zj]
  by_cases c1:(i:Int)<(l.length:Int)
  ·have hx:=zGP (show i<l.length by omega)
   have hd:=zHv (show i<l.length by omega)
   generalize l[i]'(by omega)=x at hx hd
   rw [hd,List.any_cons] at ha
   have hq:zfG x=some (zl5 x,()):=by
    rw [zrt];unfold zl5
    cases decide (x.Obj=0)<;>rfl
   rw [if_pos c1,xf hx,zGN,hq,zGN]
   cases hc:zl5 x with
   | true=>exact ⟨_,rfl,.inr ⟨i,rfl,by rw [ha,hc];rfl⟩⟩
   | false =>
    rw [yx (by omega)]
    refine ⟨_,rfl,⟨i+1,by omega,rfl,by rw [ha,hc];rfl⟩,?_⟩
    show l.length-((i+1:Nat):Int).toNat<l.length-(i:Int).toNat
    omega
  ·rw [if_neg c1]
   have:i=l.length:=by omega
   subst this
   rw [List.drop_length] at ha
   exact ⟨_,rfl,.inl ⟨rfl,ha⟩⟩) (l,(l.length:Int),0,()) ⟨0,by omega,rfl,rfl⟩ (by show l.length-0<18446744073709551616;omega)
 rw [e]
 rcases ho with ⟨rfl,hn⟩ | ⟨i,rfl,hn⟩
 ·rw [hn];rfl
 ·rw [hn]
  show some (decide ((0:Int)<=(i:Int)),())=_
  rw [decide_eq_true (by omega)]
theorem zEH {l:List zc}(hl:l.length<1000000) (hb:∀x∈l,x.Buf.length<1000000/\x.Batch.length<1000000):yI l=some (l.any zoy,()):=by
 rw [uF,u4]
 obtain ⟨o,e,ho⟩:=xt (f:=yH) (fun a=>∃i:Nat,i<=l.length/\a=(l,(l.length:Int),(i:Int),())/\l.any zoy=(l.drop i).any zoy) (fun a=>l.length-a.2.2.1.toNat) (fun o=>(o= .brk ()/\l.any zoy=false)\/∃i:Nat,o= .ret ((i:Int),())/\l.any zoy=true) (by
  rintro _ ⟨i,hi,rfl,ha⟩
  rw [uB,zj]
  by_cases c1:(i:Int)<(l.length:Int)
  ·have hx:=zGP (show i<l.length by omega)
   have hd:=zHv (show i<l.length by omega)
   have hm:=zHn (show i<l.length by omega)
   generalize l[i]'(by omega)=x at hx hd hm
   rw [hd,List.any_cons] at ha
   have hbx:=hb x hm
   have hq:zfM x=some (zoy x,()):=by
    rw [zrw,zR (by omega) (by omega)];unfold zoy
    cases decide (x.Obj=0)<;>rfl
   rw [if_pos c1,xf hx,zGN,hq,zGN]
   cases hc:zoy x with
   | true=>exact ⟨_,rfl,.inr ⟨i,rfl,by rw [ha,hc];rfl⟩⟩
   | false =>
    rw [yx (by omega)]
    refine ⟨_,rfl,⟨i+1,by omega,rfl,by rw [ha,hc];rfl⟩,?_⟩
    show l.length-((i+1:Nat):Int).toNat<l.length-(i:Int).toNat
    omega
  ·rw [if_neg c1]
   have:i=l.length:=by omega
   subst this
   rw [List.drop_length] at ha
   exact ⟨_,rfl,.inl ⟨rfl,ha⟩⟩) (l,(l.length:Int),0,()) ⟨0,by omega,rfl,rfl⟩ (by show l.length-0<18446744073709551616;omega)
 rw [e]
 rcases ho with ⟨rfl,hn⟩ | ⟨i,rfl,hn⟩
 ·rw [hn];rfl
 ·rw [hn]
  show some (decide ((0:Int)<=(i:Int)),())=_
  rw [decide_eq_true (by omega)]
def zuk (s:za):Bool:=(XH (zlv s)).isEmpty&& !(s.Ws.any zl5)&& !(s.Ms.any zoy)
theorem ztp {p:zb}(h:zB p) {k:Nat}{s:za}{gh:Gh}(G:FG p (zS p+1) k s gh):zdE s=some (zuk s,()):=by
 have hs:=G.E.small
 rw [zuh,zzg h G,zGN,zE0 hs.ws,zGN,zEH hs.ms (fun x hx=>(hs.mu x hx).2),zGN]
 unfold zuk
 dsimp only
 cases hl:XH (zlv s) with
 | nil =>
  show (bif decide ((0:Int)=0) then _ else _)=_
  rw [decide_eq_true rfl,cond_true]
  cases s.Ws.any zl5<;>rfl
 | cons a l =>
  rw [decide_eq_false (show ¬(((a::l).length:Nat):Int)=0 by rw [zG7];omega)];rfl
end
end Go.Pe.G
namespace Go.Pe.G
open Go.Pe
noncomputable section
theorem zD6:∀t:Fin 64,cnt (BitVec.ofNat 64 t.1)=((Wo (BitVec.ofNat 64 t.1)).length:Int):=by decide +kernel
theorem zCS {s:BitVec 64}(h:s&&& ~~~63#64=0#64):cnt s=((Wo s).length:Int):=by
 have hs:s.toNat<64:=by
  have e:s=s&&&63#64:=by
   have:s=(s&&&63#64)|||(s&&& ~~~63#64):=by
    apply zIf
    intro i hi
    simp only [BitVec.getLsbD_or,zHZ,zIq]
    cases s.getLsbD i<;>cases (63#64:BitVec 64).getLsbD i<;>simp [hi]
   rw [h,BitVec.or_zero] at this
   exact this
  rw [e,zH0]
  have:s.toNat&&&(63#64:BitVec 64).toNat<=(63#64:BitVec 64).toNat:=Nat.and_le_right
  have e63:(63#64:BitVec 64).toNat=63:=by decide
  omega
 have:=zD6 ⟨s.toNat,hs⟩
 have e:BitVec.ofNat 64 s.toNat=s:=by simp
 rw [e] at this
 exact this
theorem zt3 {p:zb}(h:zB p):EG p (zS p+1) 0 (yv p) (gh0 p):=by
 have hms:∀x∈(yv p).Ms,x.PC=0:=fun x hx=>by
  obtain ⟨r,_,e⟩:=zG3.1 (show x∈p.Regs.map vJ from hx)
  rw [<-e];rfl
 have hws:∀x∈(yv p).Ws,∃i:Nat,x=ux p i:=fun x hx=>by
  obtain ⟨j,_,e⟩:=zG3.1 (show x∈(List.range p.Workers.toNat).map (ux p) from hx)
  exact ⟨j,e.symm⟩
 have z:∀ {l:List Int},(∀v∈l,v=0)->l.sum=0:=fun {l} h=>by
  induction l with
  | nil=>rfl
  | cons a l ih=>rw [List.sum_cons,h a (zG9 ..),ih (fun v hv=>h v (zGW _ hv))];rfl
 have ho:zae (yv p)=0:=by
  unfold zae
  rw [z (fun v hv=>by
   obtain ⟨x,hx,rfl⟩:=zG3.1 hv
   obtain ⟨i,rfl⟩:=hws x hx
   rfl),z (fun v hv=>by
   obtain ⟨x,hx,rfl⟩:=zG3.1 hv
   have:=hms x hx
   unfold owX;rw [if_neg (by omega),if_neg (by omega)])]
  rfl
 have hold1:(yv p).Ms.flatMap (zV (yv p))=[]:=zaO (fun x hx=>by
  obtain ⟨r,_,e⟩:=zG3.1 (show x∈p.Regs.map vJ from hx)
  rw [<-e]
  unfold zV
  rw [uw ⟨by show (0:Int)≠3;decide,by show (0:Int)≠33;decide,by show (0:Int)≠36;decide,by show (0:Int)≠37;decide,by show (0:Int)≠38;decide⟩];rfl)
 have hold2:(yv p).Ws.flatMap (zH (yv p))=[]:=zaO (fun x hx=>by
  obtain ⟨i,rfl⟩:=hws x hx
  have hb:ux p i=VN p ((i:Int)+1) (ux p i):=rfl
  unfold zH
  rw [hb,ziZ];rfl)
 have hb:vv p (yv p) (gh0 p)=Wo (Yc p):=by
  unfold vv
  rw [hold1,hold2,zGQ,zGQ,zAb h]
 have hc:=zCS (zgi h)
 have hw:(yv p).Work=cnt (Yc p):=rfl
 have hl:=zlD h
 have hn:=h.n
 exact ⟨zFB h,by rw [hb,ho,hw,hc];omega,by rw [hw,hc];omega⟩
end
end Go.Pe.G
namespace Go.Pe.G
open Go.Pe
noncomputable section
namespace B19
theorem ztx {p:zb}(hp:zB p) {nb:Nat}:∀(l:List zg) {k:Nat}{s:za}{gh:Gh},(∀x∈l,Yx p x)->k+l.length<2147480000->EG p nb k s gh->∃k' gh',k'<=k+l.length/\EG p nb k' (um s l).1 gh'
 | [],k,s,gh,_,_,I=>⟨k,gh,by simp,I⟩
 | x::l,k,s,gh,hx,hk,I=>by
  rw [zG7] at hk
  rw [zpZ]
  split
  ·exact ⟨k,gh,by simp,I⟩
  ·obtain ⟨gh',I',_⟩:=I.next hp (by omega) (znS p x)
   rw [<-zCT hp I.G.E (hx x (zG9 ..))] at I'
   obtain ⟨k',gh2,h1,h2⟩:=ztx hp l (fun y hy=>hx y (zGW _ hy)) (by omega) I'
   exact ⟨k',gh2,by rw [zG7];omega,h2⟩
theorem zwx {p:zb}(hp:zB p) {nb:Nat}{l:List zg}(hl:∀x∈l,Yx p x) (hlen:l.length<=10):∀(n:Nat) {k:Nat}{s:za}{gh:Gh},k+10*n<2147480000->EG p nb k s gh->∃k' gh',k'<=k+10*n/\EG p nb k' (ut l n s).1 gh'
 | 0,k,s,gh,_,I=>⟨k,gh,by omega,I⟩
 | n+1,k,s,gh,hk,I=>by
  rw [zp1]
  split
  ·exact ⟨k,gh,by omega,I⟩
  ·obtain ⟨k1,gh1,h1,I1⟩:=ztx hp l hl (by omega) I
   obtain ⟨k',gh',h2,I2⟩:=zwx hp hl hlen n (by omega) I1
   exact ⟨k',gh',by omega,I2⟩
theorem zC7 {p:zb}(hp:zB p) {n m:Nat}(hn:(n:Int)=p.Workers) (hm:(m:Int)=p.Mutators):(∀x∈Xj n m,Yx p x)/\(Xj n m).length<=10:=by
 have hw:=hp.wk
 have hmt:=hp.mt
 refine ⟨fun x hx=>?_,by simp [Xj,zln];omega⟩
 have hp':∀k n,x∈zaw k n->x.Kind=k/\1<=x.N/\x.N<=(n:Int):=fun k n h=>by
  obtain ⟨i,hi,rfl⟩:=zG3.1 (show x∈(List.range n).map _ from h)
  have:=zHk.1 hi
  exact ⟨rfl,by show (1:Int)<=(i:Int)+1;omega,by show (i:Int)+1<=(n:Int);omega⟩
 rcases zG8.1 (show x∈(⟨0,0⟩::zaw 1 n)++zaw 2 m from hx) with h | h
 ·rcases zHc.1 h with rfl | h
  ·exact .inl ⟨rfl,rfl⟩
  ·have:=hp' 1 n h;exact .inr (.inl ⟨this.1,this.2.1,by omega⟩)
 ·have:=hp' 2 m h;exact .inr (.inr ⟨this.1,this.2.1,by omega⟩)
theorem zC8 {p:zb}{nb k:Nat}{s:za}{gh:Gh}(G:FG p nb k s gh) (h:yf (ld s.M (zY p))=0):gh.F=[]:=by
 have c:=G.X.L.cF
 rw [h] at c
 cases hf:gh.F with
 | nil=>rfl
 | cons y l =>
  rw [hf] at c
  have c:_/\_:=c
  omega
theorem zx3 {p:zb}(h:zB p) {nb k:Nat}{s:za}{gh:Gh}(G:FG p nb k s gh) {x:zh}(hx:s.Ws[0]? =some x) (h0:x.PC≠0):wK s 1=some (wx (zH s x++XV s.M (zJ p 1) p.Cap ⟨0,0,0,0,0#64,0#64,0,0⟩),()):=by
 have hwk:=h.wk
 have:=zmc h G hx
 have D:=G.X.D 1 (by omega) (by omega)
 have hc:=(G.W 0 x hx).c0 h0
 rw [show ((0:Nat):Int)+1=1 from rfl] at this hc
 rw [hc] at D
 rw [znT h (by omega) D (fun e=>absurd e.1 (by show ¬(0:Int)=2;decide))]
 exact this
theorem zCp {A B D:Type}{f:A->Option (yy A B D)}{x y:A}{b:B}(h1:f x=some (.again y)) (h:f y=some (.brk b)):zO f x=some (.brk b):=by
 rw [X3]
 show xr f (18446744073709551614+1+1) x=_
 rw [xr,h1,zGN]
 dsimp only
 rw [xr,h];rfl
def zxi:List zm:=[⟨1,1,0,0⟩,⟨5,1,0,0⟩,⟨2,1,0,0⟩]
def pEx:zb:=⟨1,1,2,1,1,4,2,2,⟨1,[[2],[0],[0]]⟩,1#64,[[1,0]],[zxi],[]⟩
theorem zDq:zaQ [zxi]=some (pEx,()):=by
 rw [znp,zCp (by rw [za9,zj,if_pos (by decide),yr (by decide),zGN,w9 (by decide)];simp only [Int.toNat_zero,zHR,zGN];rw [yr (by decide),zGN,zR (by decide) (by decide)]) (by rw [za9,zj,if_neg (by decide)])];rfl
theorem zab:zB pEx:=by
 constructor
 case objs=>intro o ho;simp [pEx] at ho ⊢;rcases ho with rfl | rfl | rfl<;>simp
 case roots=>exact ⟨1,by decide,by decide,by decide⟩
 case reg=>intro r hr;simp [pEx] at hr ⊢;subst hr;simp
 case prog =>
  intro k r ops hr ho
  cases k with
  | succ k=>cases ho
  | zero =>
   injection hr with hr
   injection ho with ho
   subst hr;subst ho
   refine ⟨by decide,fun o h=>?_⟩
   simp [zxi] at h
   rcases h with rfl | rfl | rfl
   ·exact ⟨by decide,.inl ⟨.inl rfl,by decide,by decide⟩⟩
   ·exact ⟨by decide,.inr (.inr ⟨.inr rfl,rfl,rfl⟩)⟩
   ·exact ⟨by decide,.inl ⟨.inr rfl,by decide,by decide⟩⟩
 all_goals first | decide | rfl
def mEx:List zg:=[⟨2,1⟩]
def wEx:List zg:=[⟨1,1⟩,⟨1,1⟩,⟨1,1⟩,⟨1,1⟩,⟨1,1⟩,⟨1,1⟩,⟨1,1⟩]
def aEx:za:=(List.replicate 6 ()).foldl (fun r _=>(um r mEx).1) (yv pEx)
def bEx:za:=(um aEx mEx).1
def cEx:za:=(um bEx mEx).1
def dEx:za:=(ut (Xj 1 1) 900 cEx).1
def vEx:za:=(um (yv pEx) wEx).1
theorem zxI:∀x∈mEx,Yx pEx x:=fun x hx=>by rw [zHq.1 hx];exact .inr (.inr ⟨rfl,by decide,by decide⟩)
theorem zFe:∀x∈wEx,Yx pEx x:=fun x hx=>by
 have:x=⟨1,1⟩:=by simpa [wEx] using hx
 rw [this];exact .inr (.inl ⟨rfl,by decide,by decide⟩)
def EGx (k:Nat) (s:za):Prop:=∃k' gh,k'<=k/\EG pEx (zS pEx+1) k' s gh
theorem zq1 {k:Nat}{s:za}(h:EGx k s) (hk:k<1000000) {l:List zg}(hl:∀x∈l,Yx pEx x) (hlen:l.length<=10):EGx (k+10) (um s l).1:=by
 obtain ⟨k',gh,h1,I⟩:=h
 obtain ⟨k2,gh2,h2,I2⟩:=ztx zab l hl (by omega) I
 exact ⟨k2,gh2,by omega,I2⟩
theorem zFb:EGx 60 aEx:=by
 have h0:EGx 0 (yv pEx):=⟨0,gh0 pEx,by omega,zt3 zab⟩
 have go:∀(n:Nat) {k:Nat}{s:za},k+10*n<1000000->EGx k s->EGx (k+10*n) ((List.replicate n ()).foldl (fun r _=>(um r mEx).1) s):=by
  intro n
  induction n with
  | zero=>intro k s _ h;exact h
  | succ n ih =>
   intro k s hk h
   rw [List.replicate_succ,zHI]
   have:=ih (k:=k+10) (by omega) (zq1 h (by omega) zxI (by decide))
   rwa [show k+10+10*n=k+10*(n+1) by omega] at this
 exact go 6 (by omega) h0
theorem zFC:EGx 70 bEx:=zq1 zFb (by omega) zxI (by decide)
theorem zFp:EGx 80 cEx:=zq1 zFC (by omega) zxI (by decide)
theorem zGz:EGx 10 vEx:=zq1 ⟨0,gh0 pEx,by omega,zt3 zab⟩ (by omega) zFe (by decide)
theorem zGq:EGx 10000 dEx:=by
 obtain ⟨k,gh,h1,I⟩:=zFp
 obtain ⟨a,b⟩:=zC7 zab (n:=1) (m:=1) rfl rfl
 obtain ⟨k',gh',h2,I2⟩:=zwx zab a b 900 (by omega) I
 exact ⟨k',gh',by omega,I2⟩
theorem zEp:zO wV (mEx,0,yv pEx,yv pEx,())=some (.brk (mEx,yv pEx,aEx,())):=by
 have E0:=zCL zab
 have:=ZW (f:=wV) (fun j r=>(mEx,j,yv pEx,r,())) (fun r=>(mEx,yv pEx,r,())) (List.replicate 6 ()) (by decide) (fun r _=>(um r mEx).1) (fun _ r=>EOk pEx (zS pEx+1) r) (s:=yv pEx) E0
  (fun i r x hx hi E=>by
   have hi:i<6:=by simpa using hi
   refine ⟨zyv zab mEx E,?_⟩
   show wV (mEx,(i:Int),yv pEx,r,())=_
   rw [Ug,zj,if_pos (by omega),zby zab E (by decide),zGN,yx (by omega)])
  (fun r E=>by
   show wV (mEx,6,yv pEx,r,())=_
   rw [Ug,zj,if_neg (by decide)])
 exact this.1
theorem zEm (a b:List Int) (ha:a.length<1000000):ZS a b=some (decide (a=b),()):=by
 rw [znM,yt]
 by_cases hl:a.length=b.length
 rotate_left
 ·rw [if_neg (by omega),decide_eq_false (fun e=>hl (by rw [e]))]
 rw [if_pos (by omega)]
 obtain ⟨o,e,ho⟩:=xt (f:=UL) (fun c=>∃i:Nat,i<=a.length/\c=(a,b,(i:Int),())/\(a=b↔a.drop i=b.drop i)) (fun c=>a.length-c.2.2.1.toNat) (fun o=>(o= .brk ()/\a=b)\/(o= .ret (false,())/\a≠b)) (by
  rintro _ ⟨i,hi,rfl,h⟩
  rw [zkN,zj]
  by_cases c1:(i:Int)<(a.length:Int)
  ·have hx:=zGP (show i<a.length by omega)
   have hy:=zGP (show i<b.length by omega)
   have dx:=zHv (show i<a.length by omega)
   have dy:=zHv (show i<b.length by omega)
   generalize a[i]'(by omega)=x at hx dx
   generalize b[i]'(by omega)=y at hy dy
   rw [dx,dy,List.cons.injEq] at h
   rw [if_pos c1,xf hx,zGN,xf hy,zGN,yt]
   by_cases c2:x=y
   ·rw [if_pos c2,yx (by omega)]
    refine ⟨_,rfl,⟨i+1,by omega,rfl,h.trans ⟨fun e=>e.2,fun e=>⟨c2,e⟩⟩⟩,?_⟩
    show a.length-((i+1:Nat):Int).toNat<a.length-(i:Int).toNat
    omega
   ·rw [if_neg c2]
    exact ⟨_,rfl,.inr ⟨rfl,fun e=>c2 (h.1 e).1⟩⟩
  ·rw [if_neg c1]
   have:i=a.length:=by omega
   refine ⟨_,rfl,.inl ⟨rfl,h.2 ?_⟩⟩
   rw [List.drop_of_length_le (by omega),List.drop_of_length_le (by omega)]) (a,b,0,()) ⟨0,by omega,rfl,Iff.rfl⟩ (by show a.length-0<18446744073709551616;omega)
 rw [e]
 rcases ho with ⟨rfl,h⟩ | ⟨rfl,h⟩
 ·rw [decide_eq_true h];rfl
 ·rw [decide_eq_false h];rfl
theorem zyK {h:zt}(hn:h.Objs.length<=9) (hs:∀l∈h.Objs,l.length<1000000) (R S:BitVec 64) (h1:∀o,Reach h R o↔z9 S o=true):zqV h R=S:=zAa (fun o=>(zCU hn hs R o).trans (h1 o))
theorem zvt {o:Int}:z9 1#64 o=true↔o=1:=by
 rw [show (1#64:BitVec 64)=bit 1 by decide]
 exact ⟨fun e=>zyj e,fun e=>by rw [e];decide⟩
theorem zGw {o:Int}:z9 3#64 o=true↔o=1\/o=2:=by
 rw [show (3#64:BitVec 64)=1#64|||bit 2 by decide,wR _ (by decide),zvt]
theorem zDs:ztz (yv pEx)=3#64:=by
 have eR:(yv pEx).P.Roots|||zuv 0#64 (yv pEx).Ms=1#64:=by decide +kernel
 have eH:(yv pEx).H=⟨1,[[2],[0],[0]]⟩:=rfl
 unfold ztz
 rw [eR,eH]
 refine zyK (by decide) (by intro l hl;simp at hl;rcases hl with rfl | rfl | rfl<;>decide) _ _ (fun o=>?_)
 rw [zGw]
 constructor
 ·intro r
  induction r with
  | root o h1 h2=>exact .inl (zvt.1 h1)
  | step o v _ h2 h3 ih =>
   rcases ih with rfl | rfl
   ·have h2:v∈([2]:List Int):=h2
    exact .inr (zHq.1 h2)
   ·have h2:v∈([0]:List Int):=h2
    have:=zHq.1 h2
    omega
 ·have r1:Reach ⟨1,[[2],[0],[0]]⟩ 1#64 1:= .root 1 (zvt.2 rfl) (by decide)
  rintro (rfl | rfl)
  ·exact r1
  ·exact .step 1 2 r1 (by show (2:Int)∈([2]:List Int);decide) (by decide)
theorem zFD:ztz cEx=1#64:=by
 have eR:cEx.P.Roots|||zuv 0#64 cEx.Ms=1#64:=by decide +kernel
 have eH:cEx.H=⟨1,[[0],[0],[0]]⟩:=by kernel_rfl
 unfold ztz
 rw [eR,eH]
 refine zyK (by decide) (by intro l hl;simp at hl;subst hl;decide) _ _ (fun o=>?_)
 rw [zvt]
 constructor
 ·intro r
  induction r with
  | root o h1 h2=>exact zvt.1 h1
  | step o v _ h2 h3 ih =>
   subst ih
   have h2:v∈([0]:List Int):=h2
   have:=zHq.1 h2
   omega
 ·rintro rfl
  exact .root 1 (zvt.2 rfl) (by decide)
theorem zw2:V8=some (true,()):=by
 have h:=zab
 have I0:=zt3 zab
 have E0:=I0.G.E
 obtain ⟨ka,ga,_,Ia⟩:=zFb
 obtain ⟨kb,gb,_,Ib⟩:=zFC
 obtain ⟨kc,gc,_,Ic⟩:=zFp
 obtain ⟨kd,gd,_,Id⟩:=zGq
 obtain ⟨kv,gv,_,Iv⟩:=zGz
 have sa:=Ia.G.E
 have sb:=Ib.G.E
 have sc:=Ic.G.E
 have lw:∀ {s:za},EOk pEx (zS pEx+1) s->s.Ws.length<=100/\s.Ms.length<=100:=fun E=>by
  have a:((_:Nat):Int)=1:=E.wl
  have b:((_:Nat):Int)=1:=E.ml
  omega
 have rb:ul aEx mEx=some (bEx,(um aEx mEx).2,()):=zby h sa (by decide)
 have rc:ul bEx mEx=some (cEx,(um bEx mEx).2,()):=zby h sb (by decide)
 have rd:zaH cEx 900=some (dEx,(ut (Xj 1 1) 900 cEx).2,()):=by
  have e1:cEx.Ws.length=1:=by have:=sc.wl;have:((cEx.Ws.length:Nat):Int)=1:=this;omega
  have e2:cEx.Ms.length=1:=by have:=sc.ml;have:((cEx.Ms.length:Nat):Int)=1:=this;omega
  have:=zxc h sc (most:=900) (by decide)
  rw [e1,e2] at this
  exact this
 have rv:ul (yv pEx) wEx=some (vEx,(um (yv pEx) wEx).2,()):=zby h E0 (by decide)
 have hv:uZ vEx=some ([],()):=by
  rw [(ziz h Iv.G).1,zC8 Iv.G (by decide +kernel)];rfl
 have hl0:uZ (yv pEx)=some ([1],()):=by
  rw [(ziz h I0.G).1]
  have:wx ((gh0 pEx).F.flatMap (ym (yv pEx)))=[1]:=by decide +kernel
  rw [this]
 have hh0:Va (yv pEx)=some ([1],()):=by
  rw [zzg h I0.G]
  have:XH (zlv (yv pEx))=[1]:=by decide +kernel
  rw [this]
 have hw1:wK vEx 1=some ([1],()):=by
  obtain ⟨x,hx⟩:∃x,vEx.Ws[0]? =some x:=⟨_,zGP (show 0<vEx.Ws.length by have:=Iv.G.E.wl;have:((vEx.Ws.length:Nat):Int)=1:=this;omega)⟩
  have hc:(vEx.Ws[0]?).map (fun x=>decide (x.PC≠0))=some true:=by decide +kernel
  have hd:(vEx.Ws[0]?).map (fun x=>wx (zH vEx x++XV vEx.M (zJ pEx 1) pEx.Cap ⟨0,0,0,0,0#64,0#64,0,0⟩))=some [1]:=by decide +kernel
  rw [hx,zHH,Option.some.injEq] at hc hd
  rw [zx3 h Iv.G hx (by simpa using hc),hd]
 have hw2:wK (yv pEx) 2=some ([],()):=by
  rw [Ux,zj,if_neg (by decide),zj,if_pos (by decide +kernel)]
 have hm1:Zm (yv pEx) 1=some ([],()):=by
  obtain ⟨x,hx⟩:∃x,(yv pEx).Ms[0]? =some x:=⟨_,rfl⟩
  have hd:((yv pEx).Ms[0]?).map (fun x=>wx (zV (yv pEx) x))=some []:=by decide +kernel
  rw [hx,zHH,Option.some.injEq] at hd
  have:=zjQ h I0.G hx
  rw [hd] at this
  exact this
 have p0:zts (yv pEx)=0#64:=by decide +kernel
 have pa:zts aEx=2#64:=by decide +kernel
 have pb:zts bEx=2#64:=by decide +kernel
 have pc:zts cEx=2#64:=by decide +kernel
 have g0:zuv 0#64 (yv pEx).Ms=1#64:=by decide +kernel
 have dd:dEx.Done=true:=by decide +kernel
 have dq:zuk dEx=true:=by decide +kernel
 have dm:dEx.T.Marks=3#64:=by decide +kernel
 have q0:zuk (yv pEx)=false:=by decide +kernel
 have o0:zae (yv pEx)=0:=by decide +kernel
 have s1:ZS [1] [1]=some (true,()):=by rw [zEm _ _ (by decide)];rfl
 have nO:∀ {s:za},EOk pEx (zS pEx+1) s->s.H.Objs.length<=9:=fun E=>by
  have a:=E.H.n
  have b:pEx.Most=4:=rfl
  omega
 rw [zkB,show ([([zm.mk 1 1 0 0,zm.mk 5 1 0 0,zm.mk 2 1 0 0]:List zm)]:List (List zm))=[zxi] from rfl,zDq,zGN,zwA h,zGN]
 dsimp only
 rw [show ([zg.mk 2 1]:List zg)=mEx from rfl,zEp,zGN]
 dsimp only
 rw [rb,zGN]
 dsimp only
 rw [rc,zGN]
 dsimp only
 rw [rd,zGN]
 rw [show ([zg.mk 1 1,zg.mk 1 1,zg.mk 1 1,zg.mk 1 1,zg.mk 1 1,zg.mk 1 1,zg.mk 1 1]:List zg)=wEx from rfl,rv,zGN,hh0,zGN]
 dsimp only
 rw [s1,zGN,cond_true,hl0,zGN]
 dsimp only
 rw [s1,zGN,cond_true,zdV E0.small (lw E0).1 (lw E0).2,zGN,p0]
 dsimp only
 rw [decide_eq_true rfl,cond_true,zv1 E0.small (nO E0),zGN,zDs]
 dsimp only
 rw [decide_eq_true rfl,cond_true,zwf E0.small,zGN,g0]
 dsimp only
 rw [decide_eq_true rfl,cond_true,zdV sa.small (lw sa).1 (lw sa).2,zGN,pa]
 dsimp only
 rw [decide_eq_true rfl,cond_true,zdV sb.small (lw sb).1 (lw sb).2,zGN,pb]
 dsimp only
 rw [decide_eq_true rfl,cond_true,zv1 sc.small (nO sc),zGN,zFD]
 dsimp only
 rw [decide_eq_true rfl,cond_true,zdV sc.small (lw sc).1 (lw sc).2,zGN,pc]
 dsimp only
 rw [decide_eq_true rfl,cond_true,dd,cond_true,ztp h Id.G,zGN,dq]
 dsimp only
 rw [cond_true,dm,decide_eq_true rfl,cond_true,ztp h I0.G,zGN,q0]
 dsimp only
 rw [Bool.not_false,cond_true,hv,zGN]
 dsimp only
 rw [hw1,zGN]
 dsimp only
 rw [s1,zGN,hw2,zGN,hm1,zGN,zBR (lw E0).1 (lw E0).2,zGN,o0]
 rfl
theorem zCa (a b:List Int) (ha:a.length<1000000):Xd a b=some (decide (a=b),()):=by
 rw [zeK,yt]
 by_cases hl:a.length=b.length
 rotate_left
 ·rw [if_neg (by omega),decide_eq_false (fun e=>hl (by rw [e]))]
 rw [if_pos (by omega)]
 obtain ⟨o,e,ho⟩:=xt (f:=Z0) (fun c=>∃i:Nat,i<=a.length/\c=(a,b,(a.length:Int),(i:Int),())/\(a=b↔a.drop i=b.drop i)) (fun c=>a.length-c.2.2.2.1.toNat) (fun o=>(o= .brk ()/\a=b)\/(o= .ret (false,())/\a≠b)) (by
  rintro _ ⟨i,hi,rfl,h⟩
  rw [zcO,zj]
  by_cases c1:(i:Int)<(a.length:Int)
  ·have hx:=zGP (show i<a.length by omega)
   have hy:=zGP (show i<b.length by omega)
   have dx:=zHv (show i<a.length by omega)
   have dy:=zHv (show i<b.length by omega)
   generalize a[i]'(by omega)=x at hx dx
   generalize b[i]'(by omega)=y at hy dy
   rw [dx,dy,List.cons.injEq] at h
   rw [if_pos c1,xf hx,zGN,xf hy,zGN,yt]
   by_cases c2:x=y
   ·rw [if_pos c2,yx (by omega)]
    refine ⟨_,rfl,⟨i+1,by omega,rfl,h.trans ⟨fun e=>e.2,fun e=>⟨c2,e⟩⟩⟩,?_⟩
    show a.length-((i+1:Nat):Int).toNat<a.length-(i:Int).toNat
    omega
   ·rw [if_neg c2]
    exact ⟨_,rfl,.inr ⟨rfl,fun e=>c2 (h.1 e).1⟩⟩
  ·rw [if_neg c1]
   have:i=a.length:=by omega
   refine ⟨_,rfl,.inl ⟨rfl,h.2 ?_⟩⟩
   rw [List.drop_of_length_le (by omega),List.drop_of_length_le (by omega)]) (a,b,(a.length:Int),0,()) ⟨0,by omega,rfl,Iff.rfl⟩ (by show a.length-0<18446744073709551616;omega)
 rw [e]
 rcases ho with ⟨rfl,h⟩ | ⟨rfl,h⟩
 ·rw [decide_eq_true h];rfl
 ·rw [decide_eq_false h];rfl
def UB (s:za) (gh:Gh) (n:Nat):List Int:=(List.range n).flatMap fun i:Nat=>(s.Ws[i]?).elim [] (zH s)++gh.D ((i:Int)+1)
def zcA (s:za) (n:Nat):List Int:=(List.range n).flatMap fun i:Nat=>(s.Ms[i]?).elim [] (zV s)
theorem zCz {p:zb}(h:zB p) {nb k:Nat}{s:za}{gh:Gh}(G:FG p nb k s gh):List.Perm (gh.F.flatMap (ym s)++UB s gh s.Ws.length++zcA s s.Ms.length) (vv p s gh):=by
 have hwl:=G.E.wl
 have hwk:=h.wk
 unfold zcA
 rw [zim (f:=zV s) s.Ms]
 unfold vv yo UB
 have en:p.Workers.toNat=s.Ws.length:=by omega
 rw [en,zGR,zGR]
 refine zG0 _ ?_
 rw [<-zGR]
 refine zH9 _ ?_
 refine (zqr (List.range s.Ws.length) (f:=fun i:Nat=>(s.Ws[i]?).elim [] (zH s)) (g:=fun i:Nat=>gh.D ((i:Int)+1))).trans ?_
 rw [zim (f:=zH s) s.Ws]
 exact zHx
theorem zyX {α:Type}{f:Nat->List α}{n m:Nat}(h:n<=m):((List.range n).flatMap f).length<=((List.range m).flatMap f).length:=by
 obtain ⟨d,rfl⟩:=Nat.exists_eq_add_of_le h
 rw [List.range_add,zHQ,zGV];omega
theorem holdParts_plain (l m:List (BitVec 8)):uX l m=some (true,()):=by
 obtain ⟨p,ep,h⟩:=zEs l
 obtain ⟨ps,epk,hl,hok⟩:=zDk h m 300 (by decide)
 have epk:W1 p m 300=some (ps,()):=epk
 have I0:=zt3 h
 obtain ⟨k,gh,hk,I⟩:=ztx h ps hok (by omega) I0
 have ew:zbK l m 300=some ((um (yv p) ps).1,()):=by
  rw [znW,ep,zGN,zwA h,zGN]
  dsimp only
  rw [epk,zGN]
  dsimp only
  rw [zby h I0.G.E (by omega),zGN]
 rw [ziA,zw2,zGN]
 dsimp only
 rw [zG5,cond_false,ew,zGN]
 dsimp only
 generalize (um (yv p) ps).1=s at I
 have G:=I.G
 have wl:=G.E.wl
 have ml:=G.E.ml
 have hwk:=h.wk
 have hmt:=h.mt
 obtain ⟨hL,hL9⟩:=ziz h G
 have hb:=zCz h G
 have h9:=(G.bag9 h).1
 have hlen:=hb.length_eq
 rw [zGV,zGV] at hlen
 rw [hL,zGN]
 dsimp only
 obtain ⟨o,e,rfl⟩:=xt (f:=XE) (fun a=>∃i:Nat,i<=s.Ws.length/\a=(true,(i:Int)+1,s,wx (gh.F.flatMap (ym s)++UB s gh i),())) (fun a=>s.Ws.length+1-a.2.1.toNat) (fun o=>o= .brk (true,s,wx (gh.F.flatMap (ym s)++UB s gh s.Ws.length),())) (by
  rintro _ ⟨i,hi,rfl⟩
  rw [zfd,zj]
  by_cases c1:(i:Int)+1<=(s.Ws.length:Int)
  ·have hx:=zGP (show i<s.Ws.length by omega)
   have es:UB s gh (i+1)=UB s gh i++((s.Ws[i]?).elim [] (zH s)++gh.D ((i:Int)+1)):=by unfold UB;rw [zHP,zHQ];simp
   have hp1:(UB s gh (i+1)).length<=(UB s gh s.Ws.length).length:=zyX (by omega)
   rw [hx] at es
   have hq:=zmc h G hx
   generalize s.Ws[i]'(by omega)=x at hx es hq
   have es:UB s gh (i+1)=UB s gh i++(zH s x++gh.D ((i:Int)+1)):=es
   rw [es,zGV] at hp1
   rw [if_pos c1,hq,zGN]
   dsimp only
   rw [zvS (by rw [zaJ,zGV];omega) (by rw [zaJ];omega),zGN,zR (by omega) (by omega),zr4,zwo,zGR,<-es]
   refine ⟨_,rfl,⟨i+1,by omega,?_⟩,?_⟩
   ·rw [show ((i+1:Nat):Int)+1=(i:Int)+1+1 by omega]
   ·show s.Ws.length+1-((i:Int)+1+1).toNat<s.Ws.length+1-((i:Int)+1).toNat
    omega
  ·rw [if_neg c1]
   have:i=s.Ws.length:=by omega
   subst this
   exact ⟨_,rfl,rfl⟩) (true,1,s,wx (gh.F.flatMap (ym s)),()) ⟨0,by omega,by unfold UB;simp⟩ (by show s.Ws.length+1-1<18446744073709551616;omega)
 rw [e,zGN]
 dsimp only
 obtain ⟨o,e,rfl⟩:=xt (f:=Y0) (fun a=>∃i:Nat,i<=s.Ms.length/\a=(true,(i:Int)+1,s,wx (gh.F.flatMap (ym s)++UB s gh s.Ws.length++zcA s i),())) (fun a=>s.Ms.length+1-a.2.1.toNat) (fun o=>o= .brk (true,s,wx (gh.F.flatMap (ym s)++UB s gh s.Ws.length++zcA s s.Ms.length),())) (by
  rintro _ ⟨i,hi,rfl⟩
  rw [zeH,zj]
  by_cases c1:(i:Int)+1<=(s.Ms.length:Int)
  ·have hx:=zGP (show i<s.Ms.length by omega)
   have es:zcA s (i+1)=zcA s i++(s.Ms[i]?).elim [] (zV s):=by unfold zcA;rw [zHP,zHQ];simp
   have hp1:(zcA s (i+1)).length<=(zcA s s.Ms.length).length:=zyX (by omega)
   rw [hx] at es
   have hq:=zjQ h G hx
   generalize s.Ms[i]'(by omega)=x at hx es hq
   have es:zcA s (i+1)=zcA s i++zV s x:=es
   rw [es,zGV] at hp1
   rw [if_pos c1,hq,zGN]
   dsimp only
   rw [zvS (by rw [zaJ,zGV,zGV];omega) (by rw [zaJ];omega),zGN,zR (by omega) (by omega),zr4,zwo,zGR,<-es]
   refine ⟨_,rfl,⟨i+1,by omega,?_⟩,?_⟩
   ·rw [show ((i+1:Nat):Int)+1=(i:Int)+1+1 by omega]
   ·show s.Ms.length+1-((i:Int)+1+1).toNat<s.Ms.length+1-((i:Int)+1).toNat
    omega
  ·rw [if_neg c1]
   have:i=s.Ms.length:=by omega
   subst this
   exact ⟨_,rfl,rfl⟩) (true,1,s,wx (gh.F.flatMap (ym s)++UB s gh s.Ws.length),()) ⟨0,by omega,by unfold zcA;simp⟩ (by show s.Ms.length+1-1<18446744073709551616;omega)
 rw [e,zGN]
 dsimp only
 rw [zq2 hb,cond_true,zwE h G,zGN,zwQ]
 dsimp only
 rw [zqt (by rw [zaJ];omega),zGN,zGN]
 dsimp only
 rw [zCa _ _ (by rw [zaJ,zaJ];omega),decide_eq_true rfl,zGN,zGN]
 dsimp only
 rw [cond_true,Ux,zj,if_pos (by omega),zGN]
 dsimp only
 rw [show decide ((([]:List Int).length:Int)=0)=true from rfl,cond_true,zid,zj,if_pos (by omega),zGN]
 dsimp only
 rw [show decide ((([]:List Int).length:Int)=0)=true from rfl,cond_true,zR (by omega) (by omega),Ux,zj,if_neg (by omega),zj,if_pos (by omega)]
 rfl
end B19
end
end Go.Pe.G
