/- Own work of this seat: PWstep, PBits, PWAll, PLists, PWNew, PHeld, PCnt, PWOnce, PItems, PMstep, PHp, PFirst, PNewI, PFull, PHold, PFWork, PEngI, PRem, PHeldAll, PHOwed, PReach, PHTold, PEngN, PRegs, PUnder, PHLive, PLaw19. -/
import Derived.Test.YtkjaippaennbeaaGreatDoorHLPa
set_option linter.unusedVariables false
set_option linter.unusedSimpArgs false
set_option linter.unnecessarySimpa false
set_option linter.unusedSectionVars false
set_option linter.deprecated false
set_option maxRecDepth 20000
open BitVec renaming getLsbD_and → zHV, toNat_and → zHW, eq_of_getLsbD_eq → zIc, getLsbD_zero → zId, getLsbD_not → zIo
open Bool renaming and_eq_true → zGM, not_true → zG1, not_eq_true' → zG3, false_eq_true → zHl, true_and → zHJ, or_eq_true → zHR
open Int renaming toNat_natCast → zHs, le_refl → zHv
open List renaming getElem?_eq_getElem → zGN, append_nil → zGO, getD_eq_getElem?_getD → zGP, append_assoc → zGR, mem_of_getElem? → zGT, mem_cons_of_mem → zGU, nil_append → zGV, getElem?_eq_some_iff → zGX, length_append → zGZ, mem_map → zG2, mem_cons_self → zG4, length_cons → zG6, mem_cons → zG7, mem_append → zG8, mem_append_left → zG9, perm_append_comm_assoc → zHc, getElem?_append_left → zHe, getElem?_map → zHg, length_set → zHh, getElem_mem → zHi, mem_range → zHj, getElem?_append_right → zHm, mem_singleton → zHo, mem_append_right → zHp, getElem?_set_ne → zHt, perm_append_comm → zHw, getElem?_set → zHx, eq_nil_of_length_eq_zero → zHy, drop_eq_getElem_cons → zHz, flatMap_cons → zHA, mem_or_eq_of_mem_set → zHB, length_replicate → zHC, length_nil → zHD, foldl_cons → zHH, length_map → zHK, getElem?_cons_zero → zHO, getElem?_eq_none → zHQ, length_take → zHT, map_cons → zHU, nodup_append → zHX, range_succ → zH0, length_drop → zH1, take_add_one → zH4, length_filter_le → zH5, flatMap_append → zH7, cons_append → zIa, getElem?_replicate → zIb, mem_flatMap → zIe, mem_of_mem_take → zIg, range_eq_range' → zIj, map_congr_left → zIk, take_append_drop → zIl, take_length → zIm, getElem?_set_self → zIq, getElem?_cons_succ → zIv, length_singleton → zIx
open List.Perm renaming append_left → zGY, refl → zHb, append_right → zIf
open Nat renaming le_refl → zGQ, lt_or_ge → zHk, mul_le_mul_right → zHM, zero_le → zHN, le_trans → zHP, lt_of_le_of_lt → zIp
open Option renaming bind_some → zGL, bind_eq_some_iff → zGW, map_some → zHG
namespace Go.Pe.G
open Go.Pe
noncomputable section
def wb (x:zh):List Int:=if x.PC=3\/x.PC=4 then [x.Bin] else if x.PC=6 then x8 x.G else []
def UK (s:za) (x:zh):List Int:=if x.PC=0 then ZN s.M x.D else if x.PC=3 then yw s x.Bin else if x.PC=5\/x.PC=8 then [x.Obj] else if x.PC=6 then x.Obj::ym x.G else []
def zJ (s:za) (x:zh):List Int:=x.Batch++UK s x
structure WX (p:zb) (s:za) (gh:Gh) (w:Int) (x:zh):Prop where
 c0:x.PC≠0->gh.c w=0
 bt:x.PC<=3->x.Batch=[]
 p0:x.PC=0->PK p s.M w (gh.t w) (gh.D w) (gh.c w) x.D
 p1:x.PC=1->TK p s.M x.Victim (gh.t x.Victim) (gh.D x.Victim) x.D
 p2:x.PC=2->x.C.Out=0/\(0<=x.C.PC/\x.C.PC<=2)/\CK p s.M x.C
 p4:x.PC=4->x.C.Out=0/\(0<=x.C.PC/\x.C.PC<=2)/\x.C.X=x.Bin/\CK p s.M x.C
 p6:x.PC=6->GX p s gh x.G/\x.G.Mode=1/\x.G.Who=w/\x.G.Out=0
theorem WX.plain {p:zb}{s:za}{gh:Gh}{w:Int}{x:zh}(h:x.PC=5\/x.PC=7\/x.PC=8\/x.PC=9) (c:gh.c w=0):WX p s gh w x :=
 ⟨fun _=>c,fun e=>by omega,fun e=>by omega,fun e=>by omega,fun e=>by omega,fun e=>by omega,fun e=>by omega⟩
theorem CK.start {p:zb}{m:List (BitVec 64)}{k h x:Int}:CK p m ⟨k,0,h,zD p,0#64,x,0,0⟩ :=
 ⟨fun e=>absurd e (by show ¬(1:Int)<=0;decide),fun e=>absurd e (by show ¬(0:Int)=2;decide),fun e=>absurd e (by show ¬(0:Int)=2;decide)⟩
theorem WX.begin {p:zb}{s:za}{gh:Gh}{w:Int}{x:zh}(c:gh.c w=0) (hb:x.Batch=[]):WX p s gh w (V8 p w x):=by
 refine ⟨fun e=>absurd rfl e,fun _=>hb,fun _=>⟨rfl,rfl,rfl,rfl,⟨by show (0:Int)<=0;decide,by show (0:Int)<=6;decide⟩,fun _=>c,?_,?_,?_,?_,?_,?_,?_,?_⟩,fun e=>(by cases e),fun e=>(by cases e),fun e=>(by cases e),fun e=>(by cases e)⟩
 all_goals (intro e;first | (exact absurd e (by show ¬((0:Int)=2\/(4:Int)<=0);decide)) | (exact absurd e (by show ¬(0:Int)=3;decide)) | (exact absurd e (by show ¬(0:Int)=4;decide)) | (exact absurd e (by show ¬((0:Int)=3\/(0:Int)=4);decide)) | (exact absurd e (by show ¬(5:Int)<=0;decide)) | skip)
 rcases e with e | e | e | e
 ·exact absurd e (by show ¬(0:Int)=1;decide)
 ·exact absurd e (by show ¬(0:Int)=2;decide)
 ·exact absurd e (by show ¬(4:Int)<=0;decide)
 ·exact absurd e.1 (by show ¬(0:Int)=3;decide)
theorem ziz {p:zb}{s:za}{w:Int}{x:zh}:UK s (V8 p w x)=[]:=by
 unfold UK
 rw [if_pos (show (V8 p w x).PC=0 from rfl)]
 exact vz (.inl (by show (0:Int)≠3;decide)) (by show (0:Int)≠6;decide)
theorem WX.look {p:zb}{s:za}{gh:Gh}{w:Int}{x:zh}(c:gh.c w=0) (hb:x.Batch=[]):WX p s gh w (Yo p w x)/\UK s (Yo p w x)=[]/\wb (Yo p w x)=[]:=by
 unfold Yo
 split
 ·refine ⟨⟨fun _=>c,fun _=>hb,fun e=>(by cases e),fun e=>(by cases e),fun _=>⟨rfl,⟨by show (0:Int)<=0;decide,by show (0:Int)<=2;decide⟩,CK.start⟩,fun e=>(by cases e),fun e=>(by cases e)⟩,?_,?_⟩
  ·unfold UK;rw [if_neg (by show ¬(2:Int)=0;decide),if_neg (by show ¬(2:Int)=3;decide),if_neg (by show ¬((2:Int)=5\/(2:Int)=8);decide),if_neg (by show ¬(2:Int)=6;decide)]
  ·unfold wb;rw [if_neg (by show ¬((2:Int)=3\/(2:Int)=4);decide),if_neg (by show ¬(2:Int)=6;decide)]
 ·refine ⟨⟨fun _=>c,fun _=>hb,fun e=>(by cases e),fun _=>⟨rfl,rfl,rfl,rfl,⟨by show (0:Int)<=0;decide,by show (0:Int)<=3;decide⟩,fun e=>absurd e (by show ¬(1:Int)<=0;decide),fun e=>absurd e (by show ¬(2:Int)<=0;decide),fun e=>absurd e (by show ¬(0:Int)=3;decide)⟩,fun e=>(by cases e),fun e=>(by cases e),fun e=>(by cases e)⟩,?_,?_⟩
  ·unfold UK;rw [if_neg (by show ¬(1:Int)=0;decide),if_neg (by show ¬(1:Int)=3;decide),if_neg (by show ¬((1:Int)=5\/(1:Int)=8);decide),if_neg (by show ¬(1:Int)=6;decide)]
  ·unfold wb;rw [if_neg (by show ¬((1:Int)=3\/(1:Int)=4);decide),if_neg (by show ¬(1:Int)=6;decide)]
theorem WX.other {p:zb}(hp:zB p) {nb k:Nat}{s s':za}{gh gh':Gh}{X R:List Int}{O:Int->Prop}{w:Int}{x:zh}(hw:1<=w/\w<=p.Workers) (Y:SX p nb s gh (X++R) k) (Fx:FX p nb X O s s' gh gh') (K:WX p s gh w x) (W:WOk p nb w x)
  (hR:∀b∈wb x,b∈R) (apart: ¬O w):WX p s' gh' w x/\zJ s' x=zJ s x:=by
 have hsub:∀b∈X,b∈X++R:=fun b hb=>zG9 _ hb
 have hnd:=(zHX.1 Y.L.nodup).2.1
 have hnot:∀b,b∈wb x->b∉X:=fun b hb hg=>(zHX.1 hnd).2.2 b hg b (hR b hb) rfl
 have hc:gh'.c w=gh.c w:=by
  rcases Fx.dq w hw.1 hw.2 with h | h
  ·cases h with
   | same e1 e2 e3 e4=>exact e3
   | stolen y e1 e2 e3 e4=>exact e3
  ·exact absurd h.1 apart
 have hcell:∀a,zI p w<a->a<zI p w+p.Cap+2->ld s'.M a=ld s.M a:=by
  rcases Fx.dq w hw.1 hw.2 with h | h
  ·cases h with
   | same e1 e2 e3 e4=>exact fun a h1 h2=>e4 a (by omega) h2
   | stolen y e1 e2 e3 e4=>exact e4
  ·exact absurd h.1 apart
 refine ⟨⟨fun e=>hc.trans (K.c0 e),K.bt,fun e=>Fx.pk hp hw.1 hw.2 apart (K.p0 e),fun e=>Fx.tk W.vic.1 W.vic.2 (K.p1 e),fun e=>?_,fun e=>?_,fun e=>?_⟩,?_⟩
 ·obtain ⟨a,b,c⟩:=K.p2 e
  have C:=W.c2 e
  exact ⟨a,b,c.mv Y.L Fx.mv hsub (.inl C.h) (fun h _=>C.v h) (fun e2=>by have:=C.k;omega)⟩
 ·obtain ⟨a,b,c,d⟩:=K.p4 e
  have C:=W.c4 e
  have hno:=hnot x.Bin (by unfold wb;rw [if_pos (.inr e)];simp)
  exact ⟨a,b,c,d.mv Y.L Fx.mv hsub (.inr C.h) (fun _ e2=>by have:=C.k;omega) (fun _=>⟨C.x.1,C.x.2,by rw [c];exact hno⟩)⟩
 ·obtain ⟨a,b,c,d⟩:=K.p6 e
  have M:=(W.g6 e).1
  refine ⟨a.other hp Y Fx M (fun y hy=>hR y ?_) (fun _=>by rw [c];exact apart),b,c,d⟩
  unfold wb;rw [if_neg (by omega),if_pos e];exact hy
 ·unfold zJ UK
  congr 1
  by_cases e0:x.PC=0
  ·rw [if_pos e0,if_pos e0]
   have P:=K.p0 e0
   unfold ZN
   have hpl:=(zrR hp hw.1 hw.2 P.base P.size (x.D.B-1#64)).2
   rw [hcell _ (by rw [P.base] at hpl;omega) (by rw [P.base] at hpl;omega)]
  ·rw [if_neg e0,if_neg e0]
   by_cases e3:x.PC=3
   ·rw [if_pos e3,if_pos e3]
    have hb:=W.b3 e3
    have hno:=hnot x.Bin (by unfold wb;rw [if_pos (.inl e3)];simp)
    unfold yw
    rw [Fx.bn x.Bin hb.1 hno]
   ·rw [if_neg e3,if_neg e3]
theorem zyv (s:za) (b:Int):W1 s b=yw s b:=by unfold W1 yw;rw [zGP]
theorem FX.mono {p:zb}{nb:Nat}{X:List Int}{O O':Int->Prop}{s s':za}{g g':Gh}(h:FX p nb X O s s' g g') (i:∀v,O v->O' v):FX p nb X O' s s' g g' :=
 ⟨h.mv,h.bn,fun v a b=>(h.dq v a b).imp id (fun e=>⟨i v e.1,e.2⟩),h.fb⟩
theorem v8 {x:zh}(h3:x.PC≠3) (h4:x.PC≠4) (h6:x.PC≠6):wb x=[]:=by unfold wb;rw [if_neg (by omega),if_neg h6]
theorem zkx {x:zh}(h:x.PC=3\/x.PC=4):wb x=[x.Bin]:=by unfold wb;rw [if_pos h]
theorem zxu {x:zh}(h:x.PC=6):wb x=x8 x.G:=by unfold wb;rw [if_neg (by omega),if_pos h]
theorem zCt {s:za}{x:zh}(h:x.PC=0):UK s x=ZN s.M x.D:=by unfold UK;rw [if_pos h]
theorem zCh {s:za}{x:zh}(h:x.PC=3):UK s x=yw s x.Bin:=by unfold UK;rw [if_neg (by omega),if_pos h]
theorem UW {s:za}{x:zh}(h:x.PC=5\/x.PC=8):UK s x=[x.Obj]:=by unfold UK;rw [if_neg (by omega),if_neg (by omega),if_pos h]
theorem zxj {s:za}{x:zh}(h:x.PC=6):UK s x=x.Obj::ym x.G:=by unfold UK;rw [if_neg (by omega),if_neg (by omega),if_neg (by omega),if_pos h]
theorem Yj {s:za}{x:zh}(h:x.PC=1\/x.PC=2\/x.PC=4\/x.PC=7\/x.PC=9):UK s x=[]:=by unfold UK;rw [if_neg (by omega),if_neg (by omega),if_neg (by omega),if_neg (by omega)]
def zjt (p:zb) (nb k:Nat) (R:List Int) (gh:Gh) (s:za) (w:Int) (x:zh) (s':za) (x':zh):Prop :=
 ∃gh',SX p nb s' gh' (wb x'++R) (k+1)/\WX p s' gh' w x'/\FX p nb (wb x) (fun v=>v=w) s s' gh gh' /\
  ∃N B,List.Perm (yo p s' gh'++zJ s' x'++B) (N++(yo p s gh++zJ s x)) /\
   ((N=[]/\B=[]/\s'.T=s.T)\/(N=[x.G.Obj]/\B=[]/\x.PC=6/\¬(s.T.Marks|||bit x.G.Obj=s.T.Marks)/\s'.T={s.T with Marks:=s.T.Marks|||bit x.G.Obj})\/(N=[]/\B=[x.Obj]/\x.PC=8/\s'.T=wK s.T x.Obj))
theorem zjt.quiet {p:zb}{nb k:Nat}{R:List Int}{gh:Gh}{s s':za}{w:Int}{x x':zh}(X:SX p nb s gh (wb x++R) k) (S':SOk p nb s') (hm:s'.M=s.M) (hb:s'.Bins=s.Bins) (hT:s'.T=s.T)
  (ho:wb x'=wb x) (hh:List.Perm (zJ s' x') (zJ s x)) (W':WX p s' gh w x'):zjt p nb k R gh s w x s' x' :=
 ⟨gh,by rw [ho];exact X.quiet S' hm,W',FX.quiet hm (fun _ _ _=>by rw [hb]),[],[],by rw [uL hb,zGO];exact zGY _ hh,.inl ⟨rfl,rfl,hT⟩⟩
theorem zD6 {p:zb}(hp:zB p) {nb k:Nat}{R:List Int}{gh:Gh}{s:za}{w:Int}{x:zh}(hk:k<4294960000) (hw:1<=w/\w<=p.Workers) (X:SX p nb s gh (wb x++R) k) (W:WOk p nb w x) (K:WX p s gh w x)
  (hH:∀o i,0<=yV s.H o i/\yV s.H o i<=64):zjt p nb k R gh s w x (zp s w x).1 (zp s w x).2:=by
 have S':=(zz3 hp hw X.S W).1
 have hP:=X.S.P
 have eL:∀y,Yo s.P w y=Yo p w y:=fun y=>by rw [hP]
 have eB:∀y,V8 s.P w y=V8 p w y:=fun y=>by rw [hP]
 have eC:za9 s.P (zD s.P) x.Bin=za9 p (zD p) x.Bin:=by rw [hP]
 have hpc:=W.pc
 have hlen:=X.L.len
 have hE:=wo hp
 revert S'
 unfold zp
 by_cases p01:x.PC=0\/x.PC=1
 ·rw [if_pos p01]
  intro S'
  have S':SOk p nb {s with M:=(zT s.M x.D).1}:=S'
  have hl:=(zmL s.M x.D).1
  have eo:wb x=[]:=v8 (by omega) (by omega) (by omega)
  have hbt:=K.bt (by omega)
  rw [eo] at X
  dsimp only
  by_cases p0:x.PC=0
  ·have K0:=K.p0 p0
   have D0:=X.D w hw.1 hw.2
   have hdk:=X.dk w hw.1 hw.2
   obtain ⟨t',l',c',D',hm,V,hle,r⟩:=zyH hp hw (by omega) D0 K0
   have hc:=hp.cap
   have hm':∀a,(a<zI p w\/zI p w+p.Cap+2<=a)->ld (zT s.M x.D).1 a=ld s.M a:=fun a ha=>hm a (by omega) (by omega)
   have X':=X.dq hp S' hl hw hm' D' (by omega)
   have Fx:FX p nb (wb x) (fun v=>v=w) s {s with M:=(zT s.M x.D).1} gh (WC gh w t' l' c'):=FX.own (O:=fun v=>v=w) (s:=s) (s':={s with M:=(zT s.M x.D).1}) (g:=gh) hp hw hm' rfl rfl V
   obtain ⟨u,v,f1,f2⟩:=zph (p:=p) (s:=s) (s':={s with M:=(zT s.M x.D).1}) (g:=gh) rfl hw (t:=t') (c:=c') (l:=l')
   have fin:∀x':zh,wb x'=[]->WX p {s with M:=(zT s.M x.D).1} (WC gh w t' l' c') w x'->List.Perm (l'++zJ {s with M:=(zT s.M x.D).1} x') (gh.D w++zJ s x)->zjt p nb k R gh s w x {s with M:=(zT s.M x.D).1} x':=by
    intro x' a b c
    refine ⟨_,by rw [a];exact X',b,Fx,[],[],?_,.inl ⟨rfl,rfl,rfl⟩⟩
    rw [f1,f2,zGO,zGV]
    simp only [zGR]
    refine zGY _ ?_
    refine (zHc l' v _).trans (List.Perm.trans ?_ (zHc v (gh.D w) _))
    exact zGY _ c
   have hh:zJ s x=ZN s.M x.D:=by unfold zJ;rw [hbt,zCt p0,zGV]
   rw [hh] at fin
   rcases r with ⟨r1,r2,r3⟩ | ⟨r1,r2,r3⟩ | ⟨r1,r2,r3,r4,r5⟩
   ·rw [r1,if_neg (by decide),if_neg (by decide)]
    refine fin _ (v8 (by show x.PC≠3;omega) (by show x.PC≠4;omega) (by show x.PC≠6;omega)) ⟨fun e=>absurd p0 e,fun _=>hbt,fun _=>?_,fun e=>by have e:x.PC=1:=e;omega,fun e=>by have e:x.PC=2:=e;omega,fun e=>by have e:x.PC=4:=e;omega,fun e=>by have e:x.PC=6:=e;omega⟩ ?_
    ·rw [wq.1,wq.2.1,wq.2.2];exact r2
    ·unfold zJ
     rw [zCt (x:={x with D:=(zT s.M x.D).2}) p0]
     show List.Perm (l'++(x.Batch++ZN (zT s.M x.D).1 (zT s.M x.D).2)) _
     rw [hbt,zGV];exact r3
   ·rw [r1,if_pos rfl]
    refine fin _ (v8 (by show (5:Int)≠3;decide) (by show (5:Int)≠4;decide) (by show (5:Int)≠6;decide)) (WX.plain (.inl rfl) (by rw [wq.2.2];exact r2)) ?_
    unfold zJ
    rw [UW (.inl rfl)]
    show List.Perm (l'++(x.Batch++[(zT s.M x.D).2.X])) _
    rw [hbt,zGV];exact r3
   ·rw [r1,if_neg (by decide),if_pos (.inl rfl),eL]
    obtain ⟨a,b,c⟩:=WX.look (p:=p) (s:={s with M:=(zT s.M x.D).1}) (gh:=WC gh w t' l' c') (w:=w) (x:={x with D:=(zT s.M x.D).2}) (by rw [wq.2.2];exact r2) hbt
    refine fin _ c a ?_
    unfold zJ
    rw [b,r3,r4,r5,show (Yo p w {x with D:=(zT s.M x.D).2}).Batch=x.Batch by unfold Yo;split<;>rfl,hbt]
    exact zHb _
  ·have p1:x.PC=1:=by omega
   have K1:=K.p1 p1
   have hv:=W.vic
   have hc0:=K.c0 p0
   have D0:=X.D x.Victim hv.1 hv.2
   have hdk:=X.dk x.Victim hv.1 hv.2
   have hh:zJ s x=[]:=by unfold zJ;rw [hbt,Yj (.inl p1)];rfl
   rcases zBq hp hv (by omega) D0 K1 with ⟨hm,r⟩ | ⟨y,l',e1,e2,e3,e4,e5⟩
   ·have S2:=S'
    have q:∀x':zh,wb x'=[]->zJ {s with M:=(zT s.M x.D).1} x'=[]->WX p {s with M:=(zT s.M x.D).1} gh w x'->zjt p nb k R gh s w x {s with M:=(zT s.M x.D).1} x' :=
     fun x' a b c=>.quiet (by rw [eo];exact X) S' hm rfl rfl (by rw [a,eo]) (by rw [b,hh]) c
    rcases r with ⟨r1,r2⟩ | r
    ·rw [r1,if_neg (by decide),if_neg (by decide)]
     refine q _ (v8 (by show x.PC≠3;omega) (by show x.PC≠4;omega) (by show x.PC≠6;omega)) ?_ ⟨fun _=>hc0,fun _=>hbt,fun e=>absurd e p0,fun _=>?_,fun e=>by have e:x.PC=2:=e;omega,fun e=>by have e:x.PC=4:=e;omega,fun e=>by have e:x.PC=6:=e;omega⟩
     ·unfold zJ
      rw [Yj (x:={x with D:=(zT s.M x.D).2}) (.inl p1)]
      show x.Batch++[]=[]
      rw [hbt];rfl
     ·show TK p (zT s.M x.D).1 _ _ _ _
      rw [hm];exact r2
    ·rw [if_neg (by omega),if_pos r,eL]
     obtain ⟨a,b,c⟩:=WX.look (p:=p) (s:={s with M:=(zT s.M x.D).1}) (gh:=gh) (w:=w) (x:={x with D:=(zT s.M x.D).2}) hc0 hbt
     refine q _ c ?_ a
     unfold zJ
     rw [b,show (Yo p w {x with D:=(zT s.M x.D).2}).Batch=x.Batch by unfold Yo;split<;>rfl,hbt];rfl
   ·have hc:=hp.cap
    have hm':∀a,(a<zI p x.Victim\/zI p x.Victim+p.Cap+2<=a)->ld (zT s.M x.D).1 a=ld s.M a:=fun a ha=>e5 a (by omega)
    have X':=X.dq hp S' hl hv hm' e4 (by rw [e1] at hdk;simp at hdk;omega)
    obtain ⟨h1,h2⟩:=zuP hp hv hm'
    obtain ⟨u,v,f1,f2⟩:=zph (p:=p) (s:=s) (s':={s with M:=(zT s.M x.D).1}) (g:=gh) rfl hv (t:=gh.t x.Victim+1) (c:=gh.c x.Victim) (l:=l')
    rw [e2,if_pos rfl]
    refine ⟨WC gh x.Victim (gh.t x.Victim+1) l' (gh.c x.Victim),by rw [v8 (by show (5:Int)≠3;decide) (by show (5:Int)≠4;decide) (by show (5:Int)≠6;decide)];exact X',WX.plain (.inl rfl) ?_,⟨Mv.low hp h1,fun _ _ _=>rfl,fun v' a b=>.inl ?_,fun _ h=>.inl h⟩,[],[],?_,.inl ⟨rfl,rfl,rfl⟩⟩
    ·by_cases e:w=x.Victim
     ·rw [e,wq.2.2,<-e];exact hc0
     ·rw [(YR e).2.2];exact hc0
    ·by_cases e:v'=x.Victim
     ·subst e
      exact .stolen y wq.2.1 (by rw [wq.1];exact e1) wq.2.2 (fun a h1 _=>e5 a (by omega))
     ·exact .same (YR e).2.1 (YR e).1 (YR e).2.2 (h2 v' a b e)
    ·rw [f1,f2,hh,zGO,zGO,zGV,e1]
     unfold zJ
     rw [UW (.inl rfl)]
     show List.Perm (u++l'++v++(x.Batch++[(zT s.M x.D).2.X])) _
     rw [hbt,zGV,e3]
     simp only [zGR]
     refine zGY _ ?_
     show List.Perm (l'++(v++[y])) (y::(l'++v))
     rw [<-zGR]
     exact zHw
 rw [if_neg p01]
 have hc0:=K.c0 (by omega)
 by_cases p2:x.PC=2
 ·rw [if_pos p2]
  intro S'
  have S':SOk p nb {s with M:=(zn s.M x.C).1}:=S'
  have C:=W.c2 p2
  obtain ⟨c1,c2,c3⟩:=K.p2 p2
  have hbt:=K.bt (by omega)
  have eo:wb x=[]:=v8 (by omega) (by omega) (by omega)
  have hh:zJ s x=[]:=by unfold zJ;rw [hbt,Yj (.inr (.inl p2))];rfl
  dsimp only
  rcases SX.popF hp X hk C.k C.h C.n c1 c2 c3 C.v S' with ⟨a,b,c,d⟩ | ⟨y,l,a,b,c,d,e⟩
  ·rw [if_neg b]
   have hout:=zbk s.M c1 c2 (.inr C.k)
   by_cases o2:(zn s.M x.C).2.Out=2
   ·rw [if_pos o2,eB]
    refine .quiet X S' a rfl rfl ?_ ?_ (WX.begin hc0 hbt)
    ·rw [eo];exact v8 (by show (0:Int)≠3;decide) (by show (0:Int)≠4;decide) (by show (0:Int)≠6;decide)
    ·unfold zJ
     rw [ziz,show (V8 p w {x with C:=(zn s.M x.C).2}).Batch=x.Batch from rfl]
     rw [hbt,Yj (.inr (.inl p2))]
   ·rw [if_neg o2]
    have hpc':(zn s.M x.C).2.Out=0/\0<=(zn s.M x.C).2.PC/\(zn s.M x.C).2.PC<=2:=by omega
    refine .quiet X S' a rfl rfl ?_ ?_ ⟨fun _=>hc0,fun _=>hbt,fun e=>by have e:x.PC=0:=e;omega,fun e=>by have e:x.PC=1:=e;omega,fun _=>⟨hpc'.1,hpc'.2,?_⟩,fun e=>by have e:x.PC=4:=e;omega,fun e=>by have e:x.PC=6:=e;omega⟩
    ·rw [eo];exact v8 (by show x.PC≠3;omega) (by show x.PC≠4;omega) (by show x.PC≠6;omega)
    ·unfold zJ
     rw [Yj (x:={x with C:=(zn s.M x.C).2}) (.inr (.inl p2)),Yj (.inr (.inl p2))]
    ·rw [show ({s with M:=(zn s.M x.C).1}:za).M=s.M from a];exact c
  ·rw [if_pos b]
   have e1:wb {x with C:=(zn s.M x.C).2,Bin:=(zn s.M x.C).2.X,PC:=3}=[y]:=by rw [<-c];exact zkx (x:={x with C:=(zn s.M x.C).2,Bin:=(zn s.M x.C).2.X,PC:=3}) (.inl rfl)
   refine ⟨{gh with F:=l},by rw [e1];rw [eo] at d;exact d,⟨fun _=>hc0,fun _=>hbt,fun e=>(by cases e),fun e=>(by cases e),fun e=>(by cases e),fun e=>(by cases e),fun e=>(by cases e)⟩,e _ _,[],[],?_,.inl ⟨rfl,rfl,rfl⟩⟩
   rw [hh,zGO,zGO,zGV]
   unfold zJ
   rw [zCh (x:={x with C:=(zn s.M x.C).2,Bin:=(zn s.M x.C).2.X,PC:=3}) rfl]
   show List.Perm (yo p s {gh with F:=l}++(x.Batch++yw s (zn s.M x.C).2.X)) _
   rw [hbt,zGV,c]
   have:yo p s gh=yw s y++yo p s {gh with F:=l}:=by unfold yo;rw [a];simp [zGR]
   rw [this]
   exact zHw
 rw [if_neg p2]
 by_cases p3:x.PC=3
 ·rw [if_pos p3]
  intro S'
  have hb:=W.b3 p3
  have hbt:=K.bt (by omega)
  have eo:wb x=[x.Bin]:=zkx (.inl p3)
  rw [eC]
  have e1:wb {x with Batch:=W1 s x.Bin,PC:=4,C:=za9 p (zD p) x.Bin}=[x.Bin]:=zkx (x:={x with Batch:=W1 s x.Bin,PC:=4,C:=za9 p (zD p) x.Bin}) (.inr rfl)
  have hget:∀b,1<=b->b∉wb x->(s.Bins.set x.Bin.toNat [])[b.toNat]? =s.Bins[b.toNat]? :=fun b b1 b2=>by
   rw [zHt]
   intro e
   rw [eo] at b2
   exact b2 (by rw [show b=x.Bin by omega];simp)
  refine ⟨gh,by rw [e1,<-eo];exact X.quiet S' rfl,⟨fun _=>hc0,fun e=>absurd e (by show ¬(4:Int)<=3;decide),fun e=>(by cases e),fun e=>(by cases e),fun e=>(by cases e),fun _=>⟨rfl,⟨by show (0:Int)<=0;decide,by show (0:Int)<=2;decide⟩,rfl,CK.start⟩,fun e=>(by cases e)⟩,FX.quiet rfl hget,[],[],?_,.inl ⟨rfl,rfl,rfl⟩⟩
  have hbag:yo p {s with Bins:=s.Bins.set x.Bin.toNat []} gh=yo p s gh:=by
   unfold yo
   congr 1
   refine xA (fun b hb=>?_)
   have hm:=X.L.cF.mem b hb
   have hno:=(X.L.notF (x:=x.Bin) (by rw [eo];simp)).1
   unfold yw
   rw [show ({s with Bins:=s.Bins.set x.Bin.toNat []}:za).Bins=s.Bins.set x.Bin.toNat [] from rfl,hget b hm.1 (by rw [eo];intro e;rw [zHo.1 e] at hb;exact hno hb)]
  rw [hbag,zGO,zGV]
  unfold zJ
  rw [zCh p3,Yj (x:={x with Batch:=W1 s x.Bin,PC:=4,C:=za9 p (zD p) x.Bin}) (.inr (.inr (.inl rfl)))]
  show List.Perm (yo p s gh++(W1 s x.Bin++[])) _
  rw [hbt,zGO,zGV,zyv]
 rw [if_neg p3]
 by_cases p4:x.PC=4
 ·rw [if_pos p4]
  intro S'
  have S':SOk p nb {s with M:=(zn s.M x.C).1}:=S'
  have C:=W.c4 p4
  obtain ⟨c1,c2,c3,c4⟩:=K.p4 p4
  have eo:wb x=[x.Bin]:=zkx (.inr p4)
  have hh:zJ s x=x.Batch:=by unfold zJ;rw [Yj (.inr (.inr (.inl p4))),zGO]
  rw [eo] at X
  dsimp only
  rcases SX.pushE hp (o1:=[]) (o2:=R) (b:=x.Bin) X hk C.k C.h C.n c3 c1 c2 c4 C.v S' with ⟨a,b,c,d⟩ | ⟨a,b,d⟩
  ·rw [a,if_neg (by decide)]
   have hout:=zbk s.M c1 c2 (.inl C.k)
   have hsame:=zmf s.M x.C
   have hpc':0<=(zn s.M x.C).2.PC/\(zn s.M x.C).2.PC<=2:=by omega
   have e1:wb {x with C:=(zn s.M x.C).2}=[x.Bin]:=zkx (x:={x with C:=(zn s.M x.C).2}) (.inr p4)
   refine ⟨gh,by rw [e1];exact b,⟨fun _=>hc0,fun e=>by have e:x.PC<=3:=e;omega,fun e=>by have e:x.PC=0:=e;omega,fun e=>by have e:x.PC=1:=e;omega,fun e=>by have e:x.PC=2:=e;omega,fun _=>⟨a,hpc',(hsame.2.2.2 C.k).trans c3,c⟩,fun e=>by have e:x.PC=6:=e;omega⟩,by rw [eo];exact d _ _ (by simp),[],[],?_,.inl ⟨rfl,rfl,rfl⟩⟩
   rw [uL rfl,hh,zGO]
   unfold zJ
   rw [Yj (x:={x with C:=(zn s.M x.C).2}) (.inr (.inr (.inl p4))),zGO]
   exact zHb _
  ·rw [a,if_pos rfl]
   refine ⟨{gh with E:=x.Bin::gh.E},by rw [v8 (by show (7:Int)≠3;decide) (by show (7:Int)≠4;decide) (by show (7:Int)≠6;decide)];exact b,WX.plain (.inr (.inl rfl)) hc0,by rw [eo];exact d _ _,[],[],?_,.inl ⟨rfl,rfl,rfl⟩⟩
   rw [hh,zGO]
   unfold zJ
   rw [Yj (.inr (.inr (.inr (.inl rfl)))),zGO]
   exact zHb _
 rw [if_neg p4]
 by_cases p5:x.PC=5
 ·rw [if_pos p5]
  intro S'
  have eo:wb x=[]:=v8 (by omega) (by omega) (by omega)
  have hv:=hH x.Obj x.Slot
  dsimp only
  split
  ·rcases zjK s (wc (x.Slot+1)) with e | e<;>rw [e]
   ·refine .quiet X S' rfl rfl rfl (by rw [eo];exact v8 (by show (5:Int)≠3;decide) (by show (5:Int)≠4;decide) (by show (5:Int)≠6;decide)) ?_ (WX.plain (.inl rfl) hc0)
    unfold zJ
    rw [UW (.inl p5),UW (.inl rfl)]
   ·refine .quiet X S' rfl rfl rfl (by rw [eo];exact v8 (by show (8:Int)≠3;decide) (by show (8:Int)≠4;decide) (by show (8:Int)≠6;decide)) ?_ (WX.plain (.inr (.inr (.inl rfl))) hc0)
    unfold zJ
    rw [UW (.inl p5),UW (.inr rfl)]
  ·rename_i hne
   have e0:(ZM 1 (yV s.H x.Obj x.Slot) w).PC=0:=rfl
   refine .quiet X S' rfl rfl rfl ?_ ?_ ⟨fun _=>hc0,fun e=>absurd e (by show ¬(6:Int)<=3;decide),fun e=>(by cases e),fun e=>(by cases e),fun e=>(by cases e),fun e=>(by cases e),fun _=>⟨GX.plain (.inl rfl) ⟨by show (0:Int)<=0;decide,by show (0:Int)<=7;decide⟩ ⟨by show (1:Int)<=1;decide,by show (1:Int)<=3;decide⟩ ⟨by show 1<=yV s.H x.Obj x.Slot;omega,hv.2⟩ (fun _ _=>hc0) (.inr ⟨by show (0:Int)≠3;decide,by show (0:Int)≠5;decide,by show (0:Int)≠7;decide⟩),rfl,rfl,rfl⟩⟩
   ·rw [eo,zxu (x:={x with Slot:=wc (x.Slot+1),PC:=6,G:=ZM 1 (yV s.H x.Obj x.Slot) w}) rfl]
    exact vg (.inr ⟨by show (0:Int)≠6;decide,by show (0:Int)≠7;decide⟩)
   ·unfold zJ
    rw [UW (.inl p5),zxj (x:={x with Slot:=wc (x.Slot+1),PC:=6,G:=ZM 1 (yV s.H x.Obj x.Slot) w}) rfl]
    rw [Zt (g:=ZM 1 (yV s.H x.Obj x.Slot) w) (.inr (.inl (by show (0:Int)<3;decide)))]
 rw [if_neg p5]
 by_cases p6:x.PC=6
 ·rw [if_pos p6]
  intro S'
  obtain ⟨G,gm,gw,g0⟩:=K.p6 p6
  obtain ⟨M,h5o,_,hn4⟩:=W.g6 p6
  have eo:wb x=x8 x.G:=zxu p6
  have hh:zJ s x=x.Batch++x.Obj::ym x.G:=by unfold zJ;rw [zxj p6]
  rw [eo] at X
  obtain ⟨gh',X',G',Fx,hc',hFb,N,hN,hT⟩:=zAB hp hk X M h5o G
  have so:=Ux s x.G
  have Fx':FX p nb (wb x) (fun v=>v=w) s (zx s x.G).1 gh gh':=by
   rw [eo]
   exact Fx.mono (fun v e=>e.2.trans gw)
  have hcw:gh'.c w=0:=by have:=hc' gm g0;rwa [gw] at this
  dsimp only
  have hT':(N=[]/\([]:List Int)=[]/\(zx s x.G).1.T=s.T)\/(N=[x.G.Obj]/\([]:List Int)=[]/\x.PC=6/\¬(s.T.Marks|||bit x.G.Obj=s.T.Marks)/\(zx s x.G).1.T={s.T with Marks:=s.T.Marks|||bit x.G.Obj})\/(N=[]/\([]:List Int)=[x.Obj]/\x.PC=8/\(zx s x.G).1.T=wK s.T x.Obj):=by
   rcases hT with ⟨a,b⟩ | ⟨a,b,c⟩
   ·exact .inl ⟨a,rfl,b⟩
   ·exact .inr (.inl ⟨a,rfl,p6,b,c⟩)
  have perm:∀H':List Int,H'=x.Batch++x.Obj::ym (zx s x.G).2->List.Perm (yo p (zx s x.G).1 gh'++H'++[]) (N++(yo p s gh++zJ s x)):=by
   intro H' e
   rw [e,hh,zGO]
   have a1:List.Perm (yo p (zx s x.G).1 gh'++(x.Batch++x.Obj::ym (zx s x.G).2)) ((x.Batch++[x.Obj])++(yo p (zx s x.G).1 gh'++ym (zx s x.G).2)):=by
    rw [show x.Batch++x.Obj::ym (zx s x.G).2=(x.Batch++[x.Obj])++ym (zx s x.G).2 by simp]
    exact zHc _ _ _
   have a2:List.Perm (N++(yo p s gh++(x.Batch++x.Obj::ym x.G))) ((x.Batch++[x.Obj])++(N++(yo p s gh++ym x.G))):=by
    rw [show x.Batch++x.Obj::ym x.G=(x.Batch++[x.Obj])++ym x.G by simp]
    exact (zGY N (zHc _ _ _)).trans (zHc _ _ _)
   exact a1.trans ((zGY _ hN).trans a2.symm)
  split
  ·rename_i o1
   have n1:x8 (zx s x.G).2=[]:=vg (.inl (by omega))
   have n2:ym (zx s x.G).2=[]:=Zt (.inl (by omega))
   rw [n1] at X'
   rcases zjK s x.Slot with e | e<;>rw [e]
   ·refine ⟨gh',by rw [v8 (by show (5:Int)≠3;decide) (by show (5:Int)≠4;decide) (by show (5:Int)≠6;decide)];exact X',WX.plain (.inl rfl) hcw,Fx',N,[],perm _ ?_,hT'⟩
    unfold zJ;rw [UW (.inl rfl),n2]
   ·refine ⟨gh',by rw [v8 (by show (8:Int)≠3;decide) (by show (8:Int)≠4;decide) (by show (8:Int)≠6;decide)];exact X',WX.plain (.inr (.inr (.inl rfl))) hcw,Fx',N,[],perm _ ?_,hT'⟩
    unfold zJ;rw [UW (.inr rfl),n2]
  ·rename_i o1
   have o0:(zx s x.G).2.Out=0:=by have:=G'.o;omega
   refine ⟨gh',by rw [zxu (x:={x with G:=(zx s x.G).2}) p6];exact X',⟨fun _=>hcw,fun e=>by have e:x.PC<=3:=e;omega,fun e=>by have e:x.PC=0:=e;omega,fun e=>by have e:x.PC=1:=e;omega,fun e=>by have e:x.PC=2:=e;omega,fun e=>by have e:x.PC=4:=e;omega,fun _=>⟨G',so.2.2.trans gm,so.2.1.trans gw,o0⟩⟩,Fx',N,[],perm _ ?_,hT'⟩
   unfold zJ;rw [zxj (x:={x with G:=(zx s x.G).2}) p6]
 rw [if_neg p6]
 have eo:wb x=[]:=v8 (by omega) (by omega) (by omega)
 by_cases p7:x.PC=7
 ·rw [if_pos p7]
  intro S'
  dsimp only
  split
  ·rename_i hb
   rw [eB]
   refine .quiet X S' rfl rfl rfl (by rw [eo];exact v8 (by show (0:Int)≠3;decide) (by show (0:Int)≠4;decide) (by show (0:Int)≠6;decide)) ?_ (WX.begin hc0 hb)
   unfold zJ
   rw [ziz,Yj (.inr (.inr (.inr (.inl p7))))]
   exact zHb _
  ·rename_i o l hb
   refine .quiet X S' rfl rfl rfl (by rw [eo];exact v8 (by show (5:Int)≠3;decide) (by show (5:Int)≠4;decide) (by show (5:Int)≠6;decide)) ?_ (WX.plain (.inl rfl) hc0)
   unfold zJ
   rw [UW (.inl rfl),Yj (.inr (.inr (.inr (.inl p7)))),hb,zGO]
   exact zHw
 rw [if_neg p7]
 by_cases p8:x.PC=8
 ·rw [if_pos p8]
  intro S'
  refine ⟨gh,by rw [v8 (by show (9:Int)≠3;decide) (by show (9:Int)≠4;decide) (by show (9:Int)≠6;decide)];rw [eo] at X;exact X.quiet S' rfl,WX.plain (.inr (.inr (.inr rfl))) hc0,FX.quiet rfl (fun _ _ _=>rfl),[],[x.Obj],?_,.inr (.inr ⟨rfl,rfl,p8,rfl⟩)⟩
  rw [uL rfl,zGV]
  unfold zJ
  rw [UW (.inr p8),Yj (.inr (.inr (.inr (.inr rfl)))),zGO,zGR]
  exact zHb _
 rw [if_neg p8]
 have p9:x.PC=9:=by omega
 rw [if_pos p9]
 intro S'
 refine .quiet X S' rfl rfl rfl (by rw [eo];exact v8 (by show (7:Int)≠3;decide) (by show (7:Int)≠4;decide) (by show (7:Int)≠6;decide)) ?_ (WX.plain (.inr (.inl rfl)) hc0)
 unfold zJ
 rw [Yj (.inr (.inr (.inr (.inr p9)))),Yj (.inr (.inr (.inr (.inl rfl))))]
theorem zxv (s:za) (w:Int) (x:zh) (h:(zp s w x).2.PC=6):(x.PC=6/\(zp s w x).2.G.Obj=x.G.Obj)\/(x.PC=5/\(zp s w x).2.G.Obj=yV s.H x.Obj x.Slot):=by
 revert h
 have hon:∀i,onW s i≠6:=fun i e=>by rcases zjK s i with h | h<;>omega
 have hlk:∀y:zh,(Yo s.P w y).PC≠6:=fun y e=>by unfold Yo at e;split at e<;>cases e
 unfold zp
 split
 ·rename_i h0
  dsimp only
  split
  ·exact fun e=>by cases e
  split
  ·exact fun e=>absurd e (hlk _)
  ·exact fun e=>by have e:x.PC=6:=e;omega
 split
 ·dsimp only
  split
  ·exact fun e=>by cases e
  split
  ·exact fun e=>by cases e
  ·exact fun e=>by have e:x.PC=6:=e;omega
 split
 ·exact fun e=>by cases e
 split
 ·dsimp only
  split
  ·exact fun e=>by cases e
  ·exact fun e=>by have e:x.PC=6:=e;omega
 split
 ·rename_i h5
  dsimp only
  split
  ·exact fun e=>absurd e (hon _)
  ·exact fun _=>.inr ⟨h5,rfl⟩
 split
 ·rename_i h6
  dsimp only
  split
  ·exact fun e=>absurd e (hon _)
  ·exact fun _=>.inl ⟨h6,(Ux s x.G).1⟩
 split
 ·dsimp only
  split
  ·exact fun e=>by cases e
  ·exact fun e=>by cases e
 split
 ·exact fun e=>by cases e
 split
 ·exact fun e=>by cases e
 ·exact fun e=>.inl ⟨e,rfl⟩
end
end Go.Pe.G
namespace Go.Pe.G
open Go.Pe
noncomputable section
theorem zuK {o:Int}(h:1<=o/\o<=64) (j:Nat):(bit o).getLsbD j=decide ((o-1).toNat=j):=by
 unfold bit
 rw [if_pos h,<-BitVec.twoPow_eq,BitVec.getLsbD_twoPow,decide_eq_true (by omega:(o-1).toNat<64),zHJ]
theorem xm (s:BitVec 64) (o:Int):zX s o=true↔1<=o/\o<=64/\s.getLsbD (o-1).toNat=true:=by
 unfold zX
 rw [zG3,decide_eq_false_iff_not]
 by_cases h:1<=o/\o<=64
 ·constructor
  ·intro h1
   refine ⟨h.1,h.2,Classical.byContradiction (fun h2=>h1 ?_)⟩
   apply zIc
   intro j hj
   rw [zHV,zuK h,zId]
   by_cases e:(o-1).toNat=j
   ·rw [<-e];simp only [Bool.not_eq_true] at h2;rw [h2];rfl
   ·rw [decide_eq_false e,Bool.and_false]
  ·rintro ⟨_,_,h1⟩ h2
   have:=congrArg (fun v=>BitVec.getLsbD v (o-1).toNat) h2
   simp only [zHV,zuK h,h1,zId] at this
   simp at this
 ·constructor
  ·intro h1
   exact absurd (by unfold bit;rw [if_neg h,BitVec.and_zero]) h1
  ·rintro ⟨a,b,_⟩;exact absurd ⟨a,b⟩ h
theorem wB (s:BitVec 64) {o:Int}(h:1<=o/\o<=64) (q:Int):zX (s|||bit o) q=true↔zX s q=true\/q=o:=by
 rw [xm,xm,BitVec.getLsbD_or,zuK h]
 simp only [zHR,decide_eq_true_eq]
 constructor
 ·rintro ⟨a,b,c | c⟩
  ·exact .inl ⟨a,b,c⟩
  ·exact .inr (by omega)
 ·rintro (⟨a,b,c⟩ | rfl)
  ·exact ⟨a,b,.inl c⟩
  ·exact ⟨h.1,h.2,.inr rfl⟩
theorem Vt (s t:BitVec 64) (q:Int):zX (s&&&t) q=true↔zX s q=true/\zX t q=true:=by
 rw [xm,xm,xm,zHV]
 simp only [zGM]
 constructor
 ·rintro ⟨a,b,c,d⟩;exact ⟨⟨a,b,c⟩,a,b,d⟩
 ·rintro ⟨⟨a,b,c⟩,_,_,d⟩;exact ⟨a,b,c,d⟩
theorem YC (q:Int): ¬zX 0#64 q=true:=by
 rw [xm,zId];exact fun h=>by cases h.2.2
theorem zuV {s t:BitVec 64}(h:∀o,zX s o=true↔zX t o=true):s=t:=by
 apply zIc
 intro j hj
 have:=h ((j:Int)+1)
 rw [xm,xm,show ((j:Int)+1-1).toNat=j by omega] at this
 rw [Bool.eq_iff_iff]
 exact ⟨fun e=>(this.1 ⟨by omega,by omega,e⟩).2.2,fun e=>(this.2 ⟨by omega,by omega,e⟩).2.2⟩
theorem zd4 {m:BitVec 64}{o:Int}(h:1<=o/\o<=64): ¬(m|||bit o=m)↔¬zX m o=true:=by
 constructor
 ·intro h1 h2
  refine h1 (zuV (fun q=>?_))
  rw [wB _ h]
  exact ⟨fun e=>e.elim id (fun e=>by rw [e];exact h2),.inl⟩
 ·intro h1 h2
  refine h1 ?_
  rw [<-h2,wB _ h];exact .inr rfl
theorem WS (t:zq) (o:Int):wW t o=1↔zX t.Marks o=true/\¬zX t.Black o=true:=by
 unfold wW
 by_cases h1:zX (t.Marks&&&t.Black) o=true
 ·rw [if_pos h1]
  rw [Vt] at h1
  exact ⟨fun e=>(by cases e),fun e=>absurd h1.2 e.2⟩
 ·rw [if_neg h1]
  rw [Vt] at h1
  by_cases h2:zX t.Marks o=true
  ·rw [if_pos h2];exact ⟨fun _=>⟨h2,fun e=>h1 ⟨h2,e⟩⟩,fun _=>rfl⟩
  ·rw [if_neg h2];exact ⟨fun e=>(by cases e),fun e=>absurd e.1 h2⟩
end
end Go.Pe.G
namespace Go.Pe.G
open Go.Pe
noncomputable section
theorem zsh {α:Type}{l:List α}{i:Nat}{x:α}(h:l[i]? =some x):∃a b,l=a++x::b/\(∀y,l.set i y=a++y::b)/\(∀z∈a++b,∃j,j≠i/\l[j]? =some z) /\
  (∀j z,j≠i->l[j]? =some z->z∈a++b):=by
 obtain ⟨hi,e⟩:=zGX.1 h
 have hl:(l.take i).length=i:=by rw [zHT];omega
 have el:l=l.take i++x::l.drop (i+1):=by
  conv=>lhs;rw [<-zIl i l,zHz hi,e]
 refine ⟨l.take i,l.drop (i+1),el,fun y=>?_,fun z hz=>?_,fun j z hj hz=>?_⟩
 ·rw [List.set_eq_take_append_cons_drop,if_pos hi]
 ·rcases zG8.1 hz with hz | hz
  ·obtain ⟨j,hj⟩:=List.mem_iff_getElem?.1 hz
   obtain ⟨hj1,hj2⟩:=zGX.1 hj
   have hj3:j<i:=by omega
   exact ⟨j,by omega,by rw [List.getElem?_take_of_lt hj3] at hj;exact hj⟩
  ·obtain ⟨j,hj⟩:=List.mem_iff_getElem?.1 hz
   exact ⟨i+1+j,by omega,by rw [List.getElem?_drop] at hj;exact hj⟩
 ·rw [el] at hz
  rcases zHk j i with h1 | h1
  ·rw [zHe (by omega)] at hz
   exact zG9 _ (zGT hz)
  ·rw [zHm (by omega),hl] at hz
   rw [show j-i=(j-i-1)+1 by omega,zIv] at hz
   exact zHp _ (zGT hz)
theorem Za {α β:Type}{f:α->List β}{a b:List α}{x:α}:List.Perm ((a++x::b).flatMap f) (f x++(a++b).flatMap f):=by
 rw [zH7,zHA,zH7]
 exact zHc _ _ _
theorem SX.perm {p:zb}{nb k:Nat}{s:za}{g:Gh}{o o':List Int}(X:SX p nb s g o k) (h:List.Perm o' o):SX p nb s g o' k :=
 ⟨X.S,⟨X.L.hs,X.L.cF,X.L.cE,(zGY _ h).trans X.L.all,X.L.len⟩,X.D,X.v,X.dk⟩
theorem SX.state {p:zb}{nb k:Nat}{s s':za}{g:Gh}{o:List Int}(X:SX p nb s g o k) (S':SOk p nb s') (hm:s'.M=s.M):SX p nb s' g o k :=
 ⟨S',by rw [hm];exact X.L,by rw [hm];exact X.D,by rw [hm];exact X.v,X.dk⟩
theorem GX.state {p:zb}{s s':za}{gh:Gh}{g:zu}(G:GX p s gh g) (hm:s'.M=s.M) (hb:s'.Bins=s.Bins):GX p s' gh g :=
 ⟨G.o,G.pc,G.md,G.ob,G.c0,by rw [hm];exact G.c5,by rw [hm,hb];exact G.c7,by rw [hm];exact G.d3⟩
theorem WX.state {p:zb}{s s':za}{gh:Gh}{w:Int}{x:zh}(W:WX p s gh w x) (hm:s'.M=s.M) (hb:s'.Bins=s.Bins):WX p s' gh w x :=
 ⟨W.c0,W.bt,by rw [hm];exact W.p0,by rw [hm];exact W.p1,by rw [hm];exact W.p2,by rw [hm];exact W.p4,fun e=>⟨(W.p6 e).1.state hm hb,(W.p6 e).2⟩⟩
theorem zb4 {s s':za}{x:zh}(hm:s'.M=s.M) (hb:s'.Bins=s.Bins):zJ s' x=zJ s x:=by
 unfold zJ UK yw;rw [hm,hb]
def zqa (p:zb) (s:za) (g:Gh):List Int:=yo p s g++s.Ws.flatMap (zJ s)
structure zaB (B:List Int) (t:zq):Prop where
 blk:∀o,zX t.Black o=true->zX t.Marks o=true
 nd:B.Nodup
 gr:∀o,o∈B↔wW t o=1
theorem ziy {t:zq}{o:Int}(h:wW t o=1):1<=o/\o<=64:=by
 have:=(xm _ _).1 ((WS t o).1 h).1
 exact ⟨this.1,this.2.1⟩
theorem zaB.more {B B':List Int}{t:zq}{o:Int}(K:zaB B t) (ho:1<=o/\o<=64) (hn: ¬(t.Marks|||bit o=t.Marks)) (h:List.Perm B' (o::B)):zaB B' {t with Marks:=t.Marks|||bit o}:=by
 have hn:=(zd4 ho).1 hn
 have hnb: ¬zX t.Black o=true:=fun e=>hn (K.blk o e)
 have hno:o∉B:=fun e=>hn ((WS t o).1 ((K.gr o).1 e)).1
 refine ⟨fun q hq=>(wB _ ho q).2 (.inl (K.blk q hq)),h.nodup_iff.2 (List.nodup_cons.2 ⟨hno,K.nd⟩),fun q=>?_⟩
 rw [h.mem_iff,zG7,K.gr,WS,WS]
 show q=o\/_↔zX (t.Marks|||bit o) q=true/\¬zX t.Black q=true
 rw [wB _ ho]
 constructor
 ·rintro (rfl | ⟨a,b⟩)
  ·exact ⟨.inr rfl,hnb⟩
  ·exact ⟨.inl a,b⟩
 ·rintro ⟨a | a,b⟩
  ·exact .inr ⟨a,b⟩
  ·exact .inl a
theorem zaB.less {B B':List Int}{t:zq}{o:Int}(K:zaB B t) (h:List.Perm (B'++[o]) B):zaB B' (wK t o)/\(wK t o).Marks=t.Marks/\wW t o=1/\∀q,zX (wK t o).Black q=true↔zX t.Black q=true\/q=o:=by
 have ho:wW t o=1:=(K.gr o).1 (h.mem_iff.1 (by simp))
 have hr:=ziy ho
 have hm:=((WS t o).1 ho)
 have hnd:=h.nodup_iff.2 K.nd
 have hnd:=zHX.1 hnd
 unfold wK
 rw [if_pos ho]
 refine ⟨⟨fun q hq=>?_,hnd.1,fun q=>?_⟩,rfl,ho,fun q=>wB _ hr q⟩
 ·rcases (wB _ hr q).1 hq with e | e
  ·exact K.blk q e
  ·rw [e];exact hm.1
 ·have e1:q∈B↔q∈B'\/q=o:=by rw [<-h.mem_iff,zG8,zHo]
  rw [K.gr,WS] at e1
  rw [WS]
  show _↔zX t.Marks q=true/\¬zX (t.Black|||bit o) q=true
  rw [wB _ hr]
  constructor
  ·intro hq
   have:=e1.2 (.inl hq)
   exact ⟨this.1,fun e=>e.elim this.2 (fun e=>hnd.2.2 q hq o (by simp) e)⟩
  ·rintro ⟨a,b⟩
   rcases e1.1 ⟨a,fun e=>b (.inl e)⟩ with e | e
   ·exact e
   ·exact absurd (.inr e) b
theorem HOk.get {p:zb}(hp:zB p) {h:zo}(H:HOk p h) (o i:Int):0<=yV h o i/\yV h o i<=64:=by
 have h1:=H.n
 have h2:p.Most<=64:=by have:=hp.most;have:=hp.n;omega
 unfold yV
 split
 ·unfold zN
  rw [zGP,zGP]
  cases hx:h.Objs[(o-1).toNat]? with
  | none=>show 0<=(([]:List Int)[i.toNat]?).getD 0/\_;simp
  | some l =>
   show 0<=(l[i.toNat]?).getD 0/\(l[i.toNat]?).getD 0<=64
   cases hv:l[i.toNat]? with
   | none=>show (0:Int)<=0/\(0:Int)<=64;decide
   | some v =>
    have:=(H.objs l (zGT hx)).2 v (zGT hv)
    show 0<=v/\v<=64;omega
 ·exact ⟨by decide,by decide⟩
structure WG (p:zb) (nb k:Nat) (s:za) (gh:Gh):Prop where
 E:EOk p nb s
 X:SX p nb s gh (s.Ws.flatMap wb) k
 W:∀(i:Nat) x,s.Ws[i]? =some x->WX p s gh ((i:Int)+1) x
 B:zaB (zqa p s gh) s.T
def zEa (s s':za) (w:Int):Prop :=
 s'.T=s.T\/(∃x o,s.Ws[(w-1).toNat]? =some x/\x.PC=6/\o=x.G.Obj/\(1<=o/\o<=64)/\¬zX s.T.Marks o=true/\s'.T={s.T with Marks:=s.T.Marks|||bit o}) \/
  (∃x,s.Ws[(w-1).toNat]? =some x/\x.PC=8/\wW s.T x.Obj=1/\s'.T={s.T with Black:=s.T.Black|||bit x.Obj})
theorem WG.step {p:zb}(hp:zB p) {nb k:Nat}{s:za}{gh:Gh}(hk:k<4294960000) (G:WG p nb k s gh) {w:Int}(hw:1<=w/\w<=p.Workers) (hd:s.Done=false):∃gh',WG p nb (k+1) (z9 s w) gh'/\zEa s (z9 s w) w:=by
 have hE:=zrG hp G.E w
 have hwl:=G.E.wl
 have e0: ¬(s.Done=true\/w<1\/(s.Ws.length:Int)<w):=by rw [hd];rintro (e | e | e)<;>first | cases e | omega
 revert hE
 unfold z9
 rw [if_neg e0]
 have hi:(w-1).toNat<s.Ws.length:=by omega
 have hx:=zGN hi
 generalize s.Ws[(w-1).toNat]=x at hx
 rw [hx]
 dsimp only
 intro hE
 obtain ⟨a,b,el,es,hab,hba⟩:=zsh hx
 have ei:(((w-1).toNat:Nat):Int)+1=w:=by omega
 have hWX:=G.W _ x hx
 have hWO:=G.E.W _ x hx
 rw [ei] at hWX hWO
 have X0:SX p nb s gh (wb x++(a++b).flatMap wb) k:=G.X.perm (by rw [el];exact Za.symm)
 obtain ⟨gh',X',W',Fx,N,C,hN,hT⟩:=zD6 hp hk hw X0 hWO hWX (fun o i=>G.E.H.get hp o i)
 have hoth:∀(j:Nat) y,j≠(w-1).toNat->s.Ws[j]? =some y->WX p (zp s w x).1 gh' ((j:Int)+1) y/\zJ (zp s w x).1 y=zJ s y:=by
  intro j y hj hy
  have hjl:=(zGX.1 hy).1
  exact WX.other hp (w:=(j:Int)+1) (by omega) X0 Fx (G.W j y hy) (G.E.W j y hy) (fun z hz=>zIe.2 ⟨y,hba j y hj hy,hz⟩) (fun e=>hj (by omega))
 have hbag:List.Perm (zqa p {(zp s w x).1 with Ws:=s.Ws.set (w-1).toNat (zp s w x).2} gh'++C) (N++zqa p s gh):=by
  unfold zqa
  have q1:yo p {(zp s w x).1 with Ws:=s.Ws.set (w-1).toNat (zp s w x).2} gh'=yo p (zp s w x).1 gh':=rfl
  have q2:(s.Ws.set (w-1).toNat (zp s w x).2).flatMap (zJ {(zp s w x).1 with Ws:=s.Ws.set (w-1).toNat (zp s w x).2})=(a++(zp s w x).2::b).flatMap (zJ (zp s w x).1):=by
   rw [es];exact xA (fun y _=>zb4 rfl rfl)
  have q3:(a++b).flatMap (zJ (zp s w x).1)=(a++b).flatMap (zJ s):=xA (fun y hy=>by
   obtain ⟨j,hj,hjy⟩:=hab y hy
   exact (hoth j y hj hjy).2)
  rw [q1]
  show List.Perm (yo p (zp s w x).1 gh'++(s.Ws.set (w-1).toNat (zp s w x).2).flatMap (zJ {(zp s w x).1 with Ws:=s.Ws.set (w-1).toNat (zp s w x).2})++C) _
  rw [q2]
  have r1:List.Perm (yo p (zp s w x).1 gh'++(a++(zp s w x).2::b).flatMap (zJ (zp s w x).1)++C) ((a++b).flatMap (zJ s)++(yo p (zp s w x).1 gh'++zJ (zp s w x).1 (zp s w x).2++C)):=by
   refine ((zGY _ Za).append_right C).trans ?_
   rw [q3,zGR,zGR,zGR]
   refine (zHc _ _ _).trans ?_
   refine (zGY _ (zHc _ _ _)).trans ?_
   refine (zHc _ _ _).trans (zGY _ ?_)
   exact zHc _ _ _
  have r2:List.Perm (N++(yo p s gh++s.Ws.flatMap (zJ s))) ((a++b).flatMap (zJ s)++(N++(yo p s gh++zJ s x))):=by
   conv=>lhs;rw [el]
   refine (zGY _ (zGY _ Za)).trans ?_
   refine (zGY _ ?_).trans (zHc _ _ _)
   rw [<-zGR]
   exact zHw
  exact r1.trans ((zGY _ hN).trans r2.symm)
 have fin:zaB (zqa p {(zp s w x).1 with Ws:=s.Ws.set (w-1).toNat (zp s w x).2} gh') (zp s w x).1.T->WG p nb (k+1) {(zp s w x).1 with Ws:=s.Ws.set (w-1).toNat (zp s w x).2} gh':=by
  intro hB
  refine ⟨hE,?_,fun j y hy=>?_,hB⟩
  ·refine (X'.state hE.S rfl).perm ?_
   show List.Perm ((s.Ws.set (w-1).toNat (zp s w x).2).flatMap wb) _
   rw [es];exact Za
  ·have hy:(s.Ws.set (w-1).toNat (zp s w x).2)[j]? =some y:=hy
   by_cases hj:j=(w-1).toNat
   ·subst hj
    rw [zIq hi] at hy
    injection hy with hy
    rw [<-hy,ei]
    exact W'.state rfl rfl
   ·rw [zHt (fun e=>hj e.symm)] at hy
    exact (hoth j y hj hy).1.state rfl rfl
 refine ⟨gh',?_⟩
 rcases hT with ⟨rfl,rfl,t1⟩ | ⟨rfl,rfl,t1,t2,t3⟩ | ⟨rfl,rfl,t1,t2⟩
 ·rw [zGO,zGV] at hbag
  refine ⟨fin ⟨?_,hbag.nodup_iff.2 G.B.nd,fun o=>?_⟩,.inl t1⟩
  ·rw [t1];exact G.B.blk
  ·rw [t1,hbag.mem_iff];exact G.B.gr o
 ·have ho:=((hWX.p6 t1).1).ob
  rw [zGO] at hbag
  refine ⟨fin ?_,.inr (.inl ⟨x,x.G.Obj,hx,t1,rfl,ho,(zd4 ho).1 t2,t3⟩)⟩
  rw [t3]
  exact G.B.more ho t2 hbag
 ·rw [zGV] at hbag
  obtain ⟨b1,b2,b3,b4⟩:=G.B.less hbag
  refine ⟨fin ?_,.inr (.inr ⟨x,hx,t1,b3,?_⟩)⟩
  ·rw [t2];exact b1
  ·show (zp s w x).1.T=_
   rw [t2];unfold wK;rw [if_pos b3]
end
end Go.Pe.G
namespace Go.Pe.G
open Go.Pe
noncomputable section
theorem znH {N:Int}{nb:Nat}(hN:0<=N/\N<1000) (hnb:nb<1000):∀(l:List Int) (m:List (BitVec 64)) (a:Int),(∀x∈l,1<=x/\x<nb)->(∀x∈l,a≠N+x)->ld (links m N l) a=ld m a
 | [],m,a,_,_=>rfl
 | [x],m,a,h,h2=>by
  have:=h x (by simp)
  have:=h2 x (by simp)
  rw [links,xr (by omega) (by omega)]
  exact yp (by omega)
 | x::y::l,m,a,h,h2=>by
  have:=h x (by simp)
  have:=h2 x (by simp)
  rw [links,znH hN hnb (y::l) _ a (fun z hz=>h z (zGU _ hz)) (fun z hz=>h2 z (zGU _ hz)),xr (by omega) (by omega)]
  exact yp (by omega)
theorem zpe {N:Int}{nb:Nat}(hN:0<=N/\N<1000) (hnb:nb<1000):∀(l:List Int) (m:List (BitVec 64)),(∀x∈l,1<=x/\x<nb)->l.Nodup->N+nb<=m.length->Chn (links m N l) N nb (l.headD 0) l
 | [],m,_,_,_=>rfl
 | [x],m,h,_,hl=>by
  have:=h x (by simp)
  refine ⟨rfl,this.1,this.2,?_⟩
  rw [links,xr (by omega) (by omega),Wl,if_pos ⟨rfl,by omega,by omega⟩]
  rfl
 | x::y::l,m,h,hd,hl=>by
  have hx:=h x (by simp)
  have hy:=h y (by simp)
  have hd:=List.nodup_cons.1 hd
  refine ⟨rfl,hx.1,hx.2,?_⟩
  have ih:=zpe hN hnb (y::l) (st m (wc (N+x)) (BitVec.ofInt 64 y)) (fun z hz=>h z (zGU _ hz)) hd.2 (by rw [ZS];exact hl)
  rw [links,znH hN hnb (y::l) _ (N+x) (fun z hz=>h z (zGU _ hz)) (fun z hz e=>hd.1 (by rw [znu e] at hz;exact hz)),xr (by omega) (by omega),Wl,if_pos ⟨rfl,by omega,by omega⟩,toInt_ofInt (by omega) (by omega)]
  rw [xr (by omega) (by omega)] at ih
  exact ih
theorem Chn.links {N:Int}{nb:Nat}(hN:0<=N/\N<1000) (hnb:nb<1000) {l r:List Int}{h:Int}{m:List (BitVec 64)}(hr:∀x∈r,1<=x/\x<nb) (hd:∀x∈l,x∉r) (c:Chn m N nb h l):Chn (Go.Pe.G.links m N r) N nb h l:=by
 induction l generalizing h with
 | nil=>exact c
 | cons y l ih =>
  refine ⟨c.1,c.2.1,c.2.2.1,?_⟩
  rw [znH hN hnb r m (N+y) hr (fun z hz e=>hd y (by simp) (by rw [znu e] at hz;exact hz))]
  exact ih (fun x hx=>hd x (zGU _ hx)) c.2.2.2
theorem zxE {l:List Int}{nb:Nat}(h:∀x∈l,1<=x/\x<nb) (hnb:nb<1000):0<=l.headD 0/\l.headD 0<4294967296:=by
 cases l with
 | nil=>exact ⟨by decide,by decide⟩
 | cons a r=>have:=h a (by simp);show 0<=a/\a<4294967296;omega
theorem zBB {p:zb}(h:zB p):LI p (zR p+1) (yv p).M (zZ p) (zD p) ((xq (zR p)).take (yW p).length) ((xq (zR p)).drop (yW p).length) []/\xg (ld (yv p).M (zZ p))=0/\xg (ld (yv p).M (zD p))=0:=by
 have hb:=zcJ h
 have hF:=Zx h
 have hE:=wo h
 have hcl:=UB p p.Workers.toNat
 have hw:=h.wk
 have hc:=h.cap
 have hfe:zZ p=((p.Workers.toNat*(p.Cap.toNat+2):Nat):Int):=by
  rw [hF.1]
  have e1:p.Workers=((p.Workers.toNat:Nat):Int):=by omega
  have e2:p.Cap+2=((p.Cap.toNat+2:Nat):Int):=by omega
  rw [e2,Int.natCast_mul]
  rw [<-e1]
 have hN:0<=zD p/\zD p<1000:=by omega
 have hnb:zR p+1<1000:=by omega
 generalize hk:(yW p).length=k
 have t1:∀x∈(xq (zR p)).take k,1<=x/\x<((zR p+1:Nat):Int):=fun x hx=>by have:=zff (zIg hx);omega
 have t2:∀x∈(xq (zR p)).drop k,1<=x/\x<((zR p+1:Nat):Int):=fun x hx=>by have:=zff (List.mem_of_mem_drop hx);omega
 have nd:((xq (zR p)).take k++(xq (zR p)).drop k).Nodup:=by rw [zIl];exact zru (zR p+1)
 have nd3:=zHX.1 nd
 have eM:(yv p).M=zcA (zcA (Yw p p.Workers.toNat++List.replicate (2+zR p) 0#64) (zZ p) (zD p) ((xq (zR p)).take k)) (zD p) (zD p) ((xq (zR p)).drop k):=by rw [<-hk];rfl
 rw [eM]
 generalize hm0:Yw p p.Workers.toNat++List.replicate (2+zR p) 0#64=m0
 have l0:zD p+((zR p+1:Nat):Int)<=m0.length:=by
  rw [<-hm0,zGZ,hcl,zHC];omega
 have p1:=zxE t1 hnb
 have p2:=zxE t2 hnb
 have v0:∀n:Int,0<=n->n<4294967296->xg (xd 0#64 n)=0:=fun n h1 h2=>by
  unfold xg;rw [zsS _ h1 h2];show (0*4294967296+n.toNat)/4294967296=0;omega
 have c1:=zpe hN hnb _ m0 t1 nd3.1 l0
 generalize hm1:links m0 (zD p) ((xq (zR p)).take k)=m1 at c1
 have l1:m1.length=m0.length:=by rw [<-hm1,zcR]
 have c1':=(c1.st_head h (a:=zZ p) (v:=xd 0#64 (((xq (zR p)).take k).headD 0)) (.inl rfl)).links hN hnb t2 (fun x hx hx2=>nd3.2.2 x hx x hx2 rfl)
 have c2:=zpe hN hnb _ (st m1 (zZ p) (xd 0#64 (((xq (zR p)).take k).headD 0))) t2 nd3.2.1 (by rw [ZS,l1];exact l0)
 have hd1:ld (links (st m1 (zZ p) (xd 0#64 (((xq (zR p)).take k).headD 0))) (zD p) ((xq (zR p)).drop k)) (zZ p)=xd 0#64 (((xq (zR p)).take k).headD 0):=by
  rw [znH hN hnb _ _ _ t2 (fun x hx=>by have:=t2 x hx;omega),Wl,if_pos ⟨rfl,by omega,by omega⟩]
 unfold zcA
 rw [hm1]
 generalize hm2:links (st m1 (zZ p) (xd 0#64 (((xq (zR p)).take k).headD 0))) (zD p) ((xq (zR p)).drop k)=m2 at c1' c2 hd1
 have l2:m2.length=m0.length:=by rw [<-hm2,zcR,ZS,l1]
 have g1:ld (st m2 (zD p) (xd 0#64 (((xq (zR p)).drop k).headD 0))) (zZ p)=xd 0#64 (((xq (zR p)).take k).headD 0):=by rw [yp (by omega),hd1]
 have g2:ld (st m2 (zD p) (xd 0#64 (((xq (zR p)).drop k).headD 0))) (zD p)=xd 0#64 (((xq (zR p)).drop k).headD 0):=by rw [Wl,if_pos ⟨rfl,by omega,by omega⟩]
 refine ⟨⟨.inl ⟨rfl,rfl⟩,?_,?_,?_,by rw [ZS,l2];exact l0⟩,?_,?_⟩
 ·rw [g1,zc9 _ p1.1 p1.2]
  exact c1'.st_head h (.inr rfl)
 ·rw [g2,zc9 _ p2.1 p2.2]
  exact c2.st_head h (.inr rfl)
 ·rw [zGO,zIl]
  exact zHb _
 ·rw [g1];exact v0 _ p1.1 p1.2
 ·rw [g2];exact v0 _ p2.1 p2.2
end
end Go.Pe.G
namespace Go.Pe.G
open Go.Pe
noncomputable section
theorem zp7 {N:Int}(hN:0<=N/\N<1000):∀(l:List Int) (m:List (BitVec 64)) (a:Int),(∀x∈l,1<=x/\x<1000)->a<=N->ld (links m N l) a=ld m a
 | [],m,a,_,_=>rfl
 | [x],m,a,h,h2=>by
  have:=h x (by simp)
  rw [links,xr (by omega) (by omega)]
  exact yp (by omega)
 | x::y::l,m,a,h,h2=>by
  have:=h x (by simp)
  rw [links,zp7 hN (y::l) _ a (fun z hz=>h z (zGU _ hz)) h2,xr (by omega) (by omega)]
  exact yp (by omega)
theorem zEx {p:zb}(h:zB p) {a:Int}(ha:a<zZ p):ld (yv p).M a=ld (Yw p p.Workers.toNat++List.replicate (2+zR p) 0#64) a:=by
 have hb:=zcJ h
 have hF:=Zx h
 have hE:=wo h
 have t1:∀x∈(xq (zR p)).take (yW p).length,1<=x/\x<1000:=fun x hx=>by have:=zff (zIg hx);omega
 have t2:∀x∈(xq (zR p)).drop (yW p).length,1<=x/\x<1000:=fun x hx=>by have:=zff (List.mem_of_mem_drop hx);omega
 show ld (zcA (zcA _ (zZ p) (zD p) _) (zD p) (zD p) _) a=_
 unfold zcA
 rw [yp (by omega),zp7 (by omega) _ _ _ t2 (by omega),yp (by omega),zp7 (by omega) _ _ _ t1 (by omega)]
theorem zww (p:zb):∀(k i j:Nat),i<k->j<p.Cap.toNat+2->(Yw p k)[i*(p.Cap.toNat+2)+j]? =(zgB p.Cap)[j]?
 | 0,i,j,h,_=>by omega
 | k+1,i,j,h,hj=>by
  rw [zmE]
  have hl:=UB p k
  rcases zHk i k with h1 | h1
  ·have h2:=zHM (p.Cap.toNat+2) (show i+1<=k from h1)
   rw [Nat.succ_mul] at h2
   rw [zHe (by omega)]
   exact zww p k i j h1 hj
  ·have:i=k:=by omega
   subst this
   rw [zHm (by omega),hl,show i*(p.Cap.toNat+2)+j-i*(p.Cap.toNat+2)=j by omega]
theorem zyK {p:zb}(h:zB p) {w:Int}(hw:1<=w/\w<=p.Workers) {j:Nat}(hj:j<2):ld (yv p).M (zI p w+j)=1#64:=by
 have hd:=Yl h hw.1 hw.2
 have hc:=h.cap
 have hl:=UB p p.Workers.toNat
 have hlt:(w-1).toNat<p.Workers.toNat:=by omega
 have e1:(zI p w+j).toNat=(w-1).toNat*(p.Cap.toNat+2)+j:=by
  obtain ⟨n,hn⟩:∃n:Nat,w-1=(n:Int):=⟨(w-1).toNat,by omega⟩
  have e2:p.Cap+2=((p.Cap.toNat+2:Nat):Int):=by omega
  rw [hd.1,hn,e2,<-Int.natCast_mul,zHs]
  omega
 have h2:=zHM (p.Cap.toNat+2) (show (w-1).toNat+1<=p.Workers.toNat from hlt)
 rw [Nat.succ_mul] at h2
 rw [zEx h (by omega)]
 unfold ld
 rw [if_pos (by omega),e1,zGP,zHe (by omega),zww p _ _ _ hlt (by omega)]
 unfold zgB
 match j,hj with
 | 0,_=>rfl
 | 1,_=>rfl
theorem zrw (n:Nat) (hn:1<=n):∀(f:Nat) (l:List Int),l.length<=f->(vr n f l).flatten=l
 | 0,l,h=>by
  have:l=[]:=List.length_eq_zero_iff.1 (by omega)
  subst this;simp [vr]
 | f+1,[],_=>by simp [vr]
 | f+1,x::l,h=>by
  have:=zrw n hn f ((x::l).drop n) (by rw [zH1];simp at h ⊢;omega)
  simp only [vr,List.flatten_cons] at this ⊢
  rw [this,zIl]
theorem zB8 {α:Type}(l:List (List α)):(List.range l.length).flatMap (fun i:Nat=>(l[i]?).getD [])=l.flatten:=by
 rw [List.flatMap_def]
 congr 1
 apply List.ext_getElem
 ·simp
 ·intro i h1 h2
  simp [zGN h2]
def gh0 (p:zb):Gh:=⟨(xq (zR p)).take (yW p).length,(xq (zR p)).drop (yW p).length,fun _=>[],fun _=>1,fun _=>0⟩
theorem zaI {α β:Type}{f:α->List β}:∀ {l:List α},(∀x∈l,f x=[])->l.flatMap f=[]
 | [],_=>rfl
 | a::l,h=>by rw [zHA,h a (by simp),zaI (fun x hx=>h x (zGU _ hx))];rfl
theorem zz0 {p:zb}(h:zB p):yo p (yv p) (gh0 p)=Wm (Zk p):=by
 have hb:=h.bin
 have hfl:=zoB h
 have hbs:=zcJ h
 have hmost:=h.most
 have hw:=h.wk
 have hm:=h.mt
 have e1:yo p (yv p) (gh0 p)=((xq (zR p)).take (yW p).length).flatMap (yw (yv p)):=by
  show ((xq (zR p)).take (yW p).length).flatMap (yw (yv p))++(List.range p.Workers.toNat).flatMap (fun _=>([]:List Int))=_
  rw [zaI (f:=fun _=>([]:List Int)) (fun _ _=>rfl),zGO]
 have e2:(xq (zR p)).take (yW p).length=(List.range (yW p).length).map (fun i:Nat=>(i:Int)+1):=by
  unfold xq
  rw [<-List.map_take,List.take_range,Nat.min_eq_left (by omega)]
 rw [e1,e2,List.flatMap_map]
 have e3:(List.range (yW p).length).flatMap (fun i:Nat=>yw (yv p) ((i:Int)+1))=(List.range (yW p).length).flatMap (fun i:Nat=>((yW p)[i]?).getD []):=by
  refine xA (fun i hi=>?_)
  have hi:=zHj.1 hi
  unfold yw
  show (([[]]++yW p++List.replicate (zR p-(yW p).length) [])[((i:Int)+1).toNat]?).getD []=_
  rw [show ((i:Int)+1).toNat=i+1 by omega,zGR]
  show ((yW p++List.replicate (zR p-(yW p).length) [])[i]?).getD []=_
  rw [zHe hi]
 rw [e3,zB8]
 exact zrw _ (by omega) _ _ (zGQ _)
theorem zzE (s:BitVec 64):(Wm s).Nodup:=by
 unfold Wm
 rw [List.Nodup,List.pairwise_map]
 exact (List.nodup_range.filter _).imp (fun h e=>h (by omega))
theorem zAL {s:BitVec 64}(h:s&&& ~~~63#64=0#64) {j:Nat}(hs:s.getLsbD j=true):j<6:=by
 have hj:j<64:=BitVec.lt_of_getLsbD hs
 have:=congrArg (fun x=>x.getLsbD j) h
 simp only [zHV,zIo,hs,hj,decide_true,zHJ,zId] at this
 have h63:(63#64).getLsbD j=decide (j<6):=by
  have:∀j:Fin 64,(63#64).getLsbD j.1=decide (j.1<6):=by decide
  exact this ⟨j,hj⟩
 rw [h63] at this
 by_cases e:j<6
 ·exact e
 ·rw [decide_eq_false e] at this;cases this
theorem zCs {s:BitVec 64}(h:s&&& ~~~63#64=0#64) (o:Int):o∈Wm s↔zX s o=true:=by
 unfold Wm
 rw [xm,zG2]
 constructor
 ·rintro ⟨i,hi,rfl⟩
  obtain ⟨h1,h2⟩:=List.mem_filter.1 hi
  have:=zHj.1 h1
  exact ⟨by omega,by omega,by rw [show ((i:Int)+1-1).toNat=i by omega];exact h2⟩
 ·rintro ⟨h1,h2,h3⟩
  exact ⟨(o-1).toNat,List.mem_filter.2 ⟨zHj.2 (zAL h h3),h3⟩,by omega⟩
theorem zFC {p:zb}(h:zB p):WG p (zR p+1) 0 (yv p) (gh0 p):=by
 have hE:=zB7 h
 obtain ⟨L,v1,v2⟩:=zBB h
 have hc:=h.cap
 have hws:∀x∈(yv p).Ws,∃i:Nat,x=uw p i:=fun x hx=>by
  obtain ⟨i,_,rfl⟩:=zG2.1 (show x∈(List.range p.Workers.toNat).map (uw p) from hx)
  exact ⟨i,rfl⟩
 have hb:∀i:Nat,uw p i=V8 p ((i:Int)+1) (uw p i):=fun i=>rfl
 have own:(yv p).Ws.flatMap wb=[]:=zaI (fun x hx=>by
  obtain ⟨i,rfl⟩:=hws x hx
  exact v8 (by show (0:Int)≠3;decide) (by show (0:Int)≠4;decide) (by show (0:Int)≠6;decide))
 have hold:(yv p).Ws.flatMap (zJ (yv p))=[]:=zaI (fun x hx=>by
  obtain ⟨i,rfl⟩:=hws x hx
  unfold zJ
  rw [hb i,ziz];rfl)
 refine ⟨hE,⟨hE.S,by rw [own];exact L,fun w h1 h2=>?_,?_,fun w _ _=>by show 1+0<=0+1000;decide⟩,fun i x hx=>?_,?_⟩
 ·have c0:=zyK h ⟨h1,h2⟩ (j:=0) (by decide)
  have c1:=zyK h ⟨h1,h2⟩ (j:=1) (by decide)
  rw [show zI p w+((0:Nat):Int)=zI p w by omega] at c0
  exact ⟨c0,c1,by show (0:Nat)<=1;decide,by show (1:Nat)<=1;decide,zHN _,by show 1+0<4294967296;decide,fun i hi=>absurd hi (Nat.not_lt_zero _)⟩
 ·rw [v1,v2];exact ⟨zGQ _,zGQ _⟩
 ·have hx:((List.range p.Workers.toNat).map (uw p))[i]? =some x:=hx
  rw [zHg] at hx
  cases hr:(List.range p.Workers.toNat)[i]? with
  | none=>rw [hr] at hx;cases hx
  | some j =>
   rw [hr] at hx
   injection hx with hx
   obtain ⟨h1,h2⟩:=zGX.1 hr
   rw [List.getElem_range] at h2
   subst h2
   rw [<-hx,hb i]
   exact WX.begin rfl rfl
 ·have hs:=zfY h
  unfold zqa
  rw [hold,zGO,zz0 h]
  refine ⟨fun o ho=>absurd ho (YC o),zzE _,fun o=>?_⟩
  rw [zCs hs,WS]
  exact ⟨fun e=>⟨e,YC o⟩,fun e=>e.1⟩
theorem zvX (n:Nat) (hn:1<=n):∀(f:Nat) (l c:List Int),c∈vr n f l->c≠[]
 | 0,l,c,h=>by simp [vr] at h
 | f+1,[],c,h=>by simp [vr] at h
 | f+1,x::l,c,h=>by
  simp only [vr,zG7] at h
  rcases h with h | h
  ·rw [h]
   match n,hn with
   | m+1,_=>exact List.cons_ne_nil _ _
  ·exact zvX n hn f _ c h
theorem zFD {p:zb}(h:zB p):∀y∈(gh0 p).F,yw (yv p) y≠[]:=by
 intro y hy
 have hb:=h.bin
 have hfl:=zoB h
 have hbs:=zcJ h
 have hmost:=h.most
 have hw:=h.wk
 have hm:=h.mt
 have hy:y∈(xq (zR p)).take (yW p).length:=hy
 have e2:(xq (zR p)).take (yW p).length=(List.range (yW p).length).map (fun i:Nat=>(i:Int)+1):=by
  unfold xq
  rw [<-List.map_take,List.take_range,Nat.min_eq_left (by omega)]
 rw [e2] at hy
 obtain ⟨i,hi,rfl⟩:=zG2.1 hy
 have hi:=zHj.1 hi
 unfold yw
 show (([[]]++yW p++List.replicate (zR p-(yW p).length) [])[((i:Int)+1).toNat]?).getD []≠[]
 rw [show ((i:Int)+1).toNat=i+1 by omega,zGR]
 show ((yW p++List.replicate (zR p-(yW p).length) [])[i]?).getD []≠[]
 rw [zHe hi,zGN hi]
 exact zvX _ (by omega) _ _ _ (zHi hi)
end
end Go.Pe.G
namespace Go.Pe.G
open Go.Pe
noncomputable section
def noD (base cap:Int):zd:=⟨0,0,base,cap,0#64,0#64,0,0⟩
def zi7 (o:zd):Prop:=o.Kind=2/\o.Out=0/\(o.PC=2\/o.PC=4\/o.PC=5\/(o.PC=3/\o.T=o.B-1#64))
instance (o:zd):Decidable (zi7 o):=by unfold zi7;infer_instance
def ze3 (m:List (BitVec 64)) (base:Int) (o:zd):BitVec 64:=if zi7 o then ld m (wc (base+1))+1#64 else ld m (wc (base+1))
def Yx (m:List (BitVec 64)) (base cap:Int) (top:BitVec 64) (n:Nat):List Int:=(List.range n).map (fun j:Nat=>(ld m (YN (noD base cap) (top+BitVec.ofNat 64 j))).toInt)
def XW (m:List (BitVec 64)) (base cap:Int) (o:zd):List Int :=
 if ¬0<(ze3 m base o-ld m base).toInt\/(min (uc (noD base cap)).toNat 64)<(ze3 m base o-ld m base).toNat then []
 else Yx m base cap (ld m base) (ze3 m base o-ld m base).toNat
theorem zEO {p:zb}(h:zB p) (b:Int):(uc (noD b p.Cap)).toNat=p.Cap.toNat:=by
 have hc:=h.cap
 have hx:p.Cap=1\/p.Cap=2\/p.Cap=3:=by omega
 unfold uc noD
 rcases hx with e | e | e<;>simp only [e]<;>decide
theorem zAg {a b:Nat}(h:b<=a) (h2:a<4294967296):BitVec.ofNat 64 a-BitVec.ofNat 64 b=BitVec.ofNat 64 (a-b):=zgX h (by omega)
theorem zyh {p:zb}(h:zB p) {m:List (BitVec 64)}{w:Int}{t c:Nat}{l:List Int}{o:zd}(hw:1<=w/\w<=p.Workers) (D:DQ p m w t l c) (he:ze3 m (zI p w) o=BitVec.ofNat 64 (t+l.length)):XW m (zI p w) p.Cap o=l:=by
 have hs:=D.small
 have hcap:=D.cap
 have hc:=h.cap
 have ed:ze3 m (zI p w) o-ld m (zI p w)=BitVec.ofNat 64 l.length:=by
  rw [he,D.top,zAg (by omega) hs];congr 1;omega
 unfold XW
 rw [ed,ZA (by omega),zEO h]
 by_cases hl:l=[]
 ·subst hl
  rw [if_pos (.inl (by decide))]
 ·have hpos:0<l.length:=List.length_pos_iff.2 hl
  have:0<(BitVec.ofNat 64 l.length).toInt:=by
   have:=(zgS (a:=t+l.length) (b:=t) hs (by omega)).2 (by omega)
   rw [zAg (by omega) hs] at this
   rwa [show t+l.length-t=l.length by omega] at this
  rw [if_neg (by omega)]
  unfold Yx
  apply List.ext_getElem
  ·simp
  ·intro i h1 h2
   rw [List.getElem_map,List.getElem_range,D.top,zc3 (by omega),zgs h hw rfl rfl (by omega),D.cell i h2]
theorem zCr {p:zb}(h:zB p) {m:List (BitVec 64)}{w:Int}{t c:Nat}{o:zd}(D:DQ p m w t [] c) (he:ze3 m (zI p w) o=BitVec.ofNat 64 (t-1)):XW m (zI p w) p.Cap o=[]:=by
 have hs:=D.small
 unfold XW
 refine if_pos (.inl (fun e=>?_))
 rw [he,D.top] at e
 have:=(zgS (by have:t+0<4294967296:=hs;omega) (by have:t+0<4294967296:=hs;omega)).1 e
 omega
theorem zyz {p:zb}(h:zB p) {w:Int}(hw:1<=w/\w<=p.Workers):wc (zI p w+1)=zI p w+1:=by
 have hd:=Yl h hw.1 hw.2
 have hf:=Zx h
 have hc:=h.cap
 exact xr (by omega) (by omega)
theorem zoI {p:zb}(h:zB p) {m:List (BitVec 64)}{w:Int}{t:Nat}{l:List Int}{o:zd}(hw:1<=w/\w<=p.Workers) (D:DQ p m w t l 0) (ho: ¬zi7 o):XW m (zI p w) p.Cap o=l:=by
 refine zyh h hw D ?_
 unfold ze3
 rw [if_neg ho,zyz h hw,D.bot];rfl
theorem zCC {p:zb}(h:zB p) {m:List (BitVec 64)}{w:Int}{t c:Nat}{l:List Int}{o:zd}(hw:1<=w/\w<=p.Workers) (D:DQ p m w t l c) (K:PK p m w t l c o):XW m (zI p w) p.Cap o=l:=by
 have hs:=D.small
 have ht:=D.t1
 have hpc:=K.pc
 by_cases h1:zi7 o
 ·have hc:c=1:=by
   rcases h1.2.2 with e | e | e | ⟨e,e2⟩
   ·exact K.c1 (.inl e)
   ·exact K.c1 (.inr (by omega))
   ·exact K.c1 (.inr (by omega))
   ·exact K.c3 e e2
  subst hc
  refine zyh h hw D ?_
  unfold ze3
  rw [if_pos h1,zyz h hw,D.bot,show (1#64:BitVec 64)=BitVec.ofNat 64 1 from rfl,zc3 (by omega)]
  congr 1;omega
 ·have hn: ¬(o.PC=2\/o.PC=4\/o.PC=5\/(o.PC=3/\o.T=o.B-1#64)):=fun e=>h1 ⟨K.kind,K.out,e⟩
  by_cases h6:o.PC=6
  ·have hl:=K.e5 (by omega)
   have hc:=K.c1 (.inr (by omega))
   subst hl;subst hc
   refine zCr h D ?_
   unfold ze3
   rw [if_neg h1,zyz h hw,D.bot];rfl
  ·have hc:c=0:=by
    by_cases h3:o.PC=3
    ·exact (K.n3 h3 (fun e=>hn (.inr (.inr (.inr ⟨h3,e⟩))))).1
    ·exact K.c0 (by omega)
   subst hc
   exact zoI h hw D h1
end
end Go.Pe.G
namespace Go.Pe.G
open Go.Pe
noncomputable section
theorem zE7 {s:BitVec 64}(h:∀o,zX s o=true->o<=9):∃t:Fin 512,s=BitVec.ofNat 64 t.1:=by
 have h2:s=s&&&511#64:=by
  apply zIc
  intro j hj
  rw [zHV]
  have h63:(511#64).getLsbD j=decide (j<9):=by
   have:∀j:Fin 64,(511#64).getLsbD j.1=decide (j.1<9):=by decide
   exact this ⟨j,hj⟩
  rw [h63]
  cases hs:s.getLsbD j with
  | false=>rfl
  | true =>
   have:=h ((j:Int)+1) ((xm _ _).2 ⟨by omega,by omega,by rw [show ((j:Int)+1-1).toNat=j by omega];exact hs⟩)
   rw [decide_eq_true (by omega:j<9)];rfl
 have h3:s.toNat<512:=by
  rw [h2,zHW]
  exact zIp Nat.and_le_right (by decide)
 exact ⟨⟨s.toNat,h3⟩,by rw [BitVec.ofNat_toNat,BitVec.setWidth_eq]⟩
theorem zfe (s:BitVec 64) {q:Int}(h:1<=q/\q<=64):zX (~~~s) q=true↔¬zX s q=true:=by
 rw [xm,xm,zIo]
 simp only [show (q-1).toNat<64 by omega,decide_true,zHJ,zG3]
 constructor
 ·rintro ⟨_,_,e⟩ ⟨_,_,e2⟩;rw [e] at e2;cases e2
 ·intro e
  refine ⟨h.1,h.2,?_⟩
  cases hs:s.getLsbD (q-1).toNat with
  | false=>rfl
  | true=>exact absurd ⟨h.1,h.2,hs⟩ e
end
end Go.Pe.G
namespace Go.Pe.G
open Go.Pe
noncomputable section
structure zDr (s:za):Prop where
 mks:∀o,zX s.T.Marks o=true->o<=9
 ob:∀(i:Nat) x,s.Ws[i]? =some x->x.PC=6->x.G.Obj<=9
theorem HOk.get9 {p:zb}(hp:zB p) {h:zo}(H:HOk p h) (o i:Int):yV h o i<=9:=by
 have h1:=H.n
 have h2:p.Most<=9:=by have:=hp.most;have:=hp.n;omega
 unfold yV
 split
 ·unfold zN
  rw [zGP,zGP]
  cases hx:h.Objs[(o-1).toNat]? with
  | none=>show (([]:List Int)[i.toNat]?).getD 0<=9;simp
  | some l =>
   show (l[i.toNat]?).getD 0<=9
   cases hv:l[i.toNat]? with
   | none=>show (0:Int)<=9;decide
   | some v =>
    have:=(H.objs l (zGT hx)).2 v (zGT hv)
    show v<=9;omega
 ·decide
theorem zDr.step {p:zb}(hp:zB p) {nb k:Nat}{s:za}{gh:Gh}(L:zDr s) (G:WG p nb k s gh) {w:Int}(hw:1<=w/\w<=p.Workers) (hd:s.Done=false) (T:zEa s (z9 s w) w):zDr (z9 s w):=by
 have hwl:=G.E.wl
 refine ⟨fun o ho=>?_,fun i y hy h6=>?_⟩
 ·rcases T with e | ⟨x,q,hx,h6,rfl,hr,hn,e⟩ | ⟨x,hx,h8,h1,e⟩
  ·rw [e] at ho;exact L.mks o ho
  ·rw [e] at ho
   rcases (wB _ hr o).1 ho with e | e
   ·exact L.mks o e
   ·rw [e];exact L.ob _ x hx h6
  ·rw [e] at ho;exact L.mks o ho
 ·have e0: ¬(s.Done=true\/w<1\/(s.Ws.length:Int)<w):=by rw [hd];rintro (e | e | e)<;>first | cases e | omega
  have hi:(w-1).toNat<s.Ws.length:=by omega
  have hx:=zGN hi
  generalize s.Ws[(w-1).toNat]=x at hx
  unfold z9 at hy
  rw [if_neg e0,hx] at hy
  have hy:(s.Ws.set (w-1).toNat (zp s w x).2)[i]? =some y:=hy
  by_cases hj:i=(w-1).toNat
  ·subst hj
   rw [zIq hi] at hy
   injection hy with hy
   subst hy
   rcases zxv s w x h6 with ⟨a,b⟩ | ⟨a,b⟩
   ·rw [b];exact L.ob _ x hx a
   ·rw [b];exact G.E.H.get9 hp _ _
  ·rw [zHt (fun e=>hj e.symm)] at hy
   exact L.ob i y hy h6
theorem zvJ {α β:Type}{f g:α->List β}:∀(l:List α),List.Perm (l.flatMap (fun x=>f x++g x)) (l.flatMap f++l.flatMap g)
 | []=>zHb _
 | a::l=>by
  rw [zHA,zHA,zHA]
  refine (zGY _ (zvJ l)).trans ?_
  simp only [zGR]
  exact zGY _ (zHc _ _ _)
theorem zsM {α β:Type}{f:α->List β}(l:List α):(List.range l.length).flatMap (fun i:Nat=>(l[i]?).elim [] f)=l.flatMap f:=by
 rw [List.flatMap_def,List.flatMap_def]
 congr 1
 apply List.ext_getElem
 ·simp
 ·intro i h1 h2
  have hi:i<l.length:=by simpa using h2
  simp [zGN hi]
end
end Go.Pe.G
namespace Go.Pe.G
open Go.Pe
noncomputable section
theorem zAI {m:List (BitVec 64)}{base cap:Int}{top:BitVec 64}(hc:cap<1000) (e:BitVec 64) (h:(e-top).toNat<=64) :
  zP ya (m,e,top,zd.mk 0 0 base cap 0#64 0#64 0 0,([]:List Int),())=some (.brk (Yx m base cap top (e-top).toNat,())):=by
 have he:e=top+BitVec.ofNat 64 (e-top).toNat:=by
  rw [BitVec.ofNat_toNat,BitVec.setWidth_eq,BitVec.add_comm,BitVec.sub_add_cancel]
 generalize (e-top).toNat=n at he h
 subst he
 have:=zEK (f:=ya) (fun (i:Int) (_:Unit)=>(m,top+BitVec.ofNat 64 n,top+BitVec.ofNat 64 i.toNat,zd.mk 0 0 base cap 0#64 0#64 0 0,Yx m base cap top i.toNat,())) (fun _=>(Yx m base cap top n,())) n (by omega) (fun _ _=>()) (fun _=>True) (fun _ _ _=>trivial)
  (fun i _ hi _=>by
   have hne: ¬(top+BitVec.ofNat 64 i=top+BitVec.ofNat 64 n):=fun e=>by
    have e:=congrArg (fun x=>x-top) e
    rw [BitVec.add_comm top,BitVec.add_comm top,BitVec.add_sub_cancel,BitVec.add_sub_cancel] at e
    have:=zv5 (by omega) (by omega) e
    omega
   have e2:top+BitVec.ofNat 64 i+1#64=top+BitVec.ofNat 64 (i+1):=by
    rw [BitVec.add_assoc,show (1#64:BitVec 64)=BitVec.ofNat 64 1 from rfl,zc3 (by omega)]
   have e3:Yx m base cap top (i+1)=Yx m base cap top i++[(ld m (YN (zd.mk 0 0 base cap 0#64 0#64 0 0) (top+BitVec.ofNat 64 i))).toInt]:=by
    unfold Yx noD
    rw [zH0,List.map_append];rfl
   have el:(Yx m base cap top i).length=i:=by unfold Yx;simp
   show ya (m,top+BitVec.ofNat 64 n,top+BitVec.ofNat 64 i,zd.mk 0 0 base cap 0#64 0#64 0 0,Yx m base cap top i,())=some (.again (m,top+BitVec.ofNat 64 n,top+BitVec.ofNat 64 (i+1),zd.mk 0 0 base cap 0#64 0#64 0 0,Yx m base cap top (i+1),()))
   rw [zdC,yx,if_neg hne,zf9 (show (zd.mk 0 0 base cap 0#64 0#64 0 0).Cap<1000 from hc),zGL,Yp,zGL,yq (by rw [zGZ,el];simp;omega),zGL,e2,e3])
  (fun _ _=>by
   show ya (m,top+BitVec.ofNat 64 n,top+BitVec.ofNat 64 n,zd.mk 0 0 base cap 0#64 0#64 0 0,Yx m base cap top n,())=_
   rw [zdC,yx,if_pos rfl]) (s:=()) trivial
 have e0:top+BitVec.ofNat 64 (0:Int).toNat=top:=by show top+0#64=top;rw [BitVec.add_zero]
 simp only [e0] at this
 exact this
theorem zEp (S d:BitVec 64):((bif decide (64#64<S) then 64#64 else S)<d)↔min S.toNat 64<d.toNat:=by
 rw [zj]
 by_cases h:64#64<S
 ·rw [if_pos h]
  have h':64<S.toNat:=h
  show 64<d.toNat↔_
  rw [Nat.min_eq_right (by omega)]
 ·rw [if_neg h]
  have h': ¬64<S.toNat:=h
  show S.toNat<d.toNat↔_
  rw [Nat.min_eq_left (by omega)]
theorem zzp {m:List (BitVec 64)}{base cap:Int}(hc:cap<1000) (o:zd):xS m base cap o=some (XW m base cap o,()):=by
 have hl:=fun e h=>zAI (m:=m) (base:=base) (cap:=cap) (top:=ld m base) hc e h
 have hlim:=fun d=>zEp (uc (noD base cap)) d
 unfold noD at hlim
 have done:∀e:BitVec 64,∀ {b:Option (List Int×Unit)},(¬0<(e-ld m base).toInt->b=some ([],()))->(0<(e-ld m base).toInt->(min (uc (noD base cap)).toNat 64<(e-ld m base).toNat)->b=some ([],()))->(0<(e-ld m base).toInt->¬(min (uc (noD base cap)).toNat 64<(e-ld m base).toNat)->b=some (Yx m base cap (ld m base) (e-ld m base).toNat,())) ->
   b=some (if ¬0<(e-ld m base).toInt\/(min (uc (noD base cap)).toNat 64)<(e-ld m base).toNat then [] else Yx m base cap (ld m base) (e-ld m base).toNat,()):=by
  intro e b h1 h2 h3
  by_cases a:0<(e-ld m base).toInt
  ·by_cases c:min (uc (noD base cap)).toNat 64<(e-ld m base).toNat
   ·rw [if_pos (.inr c)];exact h2 a c
   ·rw [if_neg (by rintro (x | x);exact x a;exact c x)];exact h3 a c
  ·rw [if_pos (.inl a)];exact h1 a
 rw [zr7]
 simp only [uY,xk,xi,zGL,Yp,zcE,znZ]
 unfold XW
 by_cases h:zi7 o
 ·have he:ze3 m base o=ld m (wc (base+1))+1#64:=by unfold ze3;rw [if_pos h]
  rw [he]
  obtain ⟨k,u,pc⟩:=h
  rcases pc with p | p | p | ⟨p,t⟩
  all_goals
   first | simp only [k,u,p,t,Int.reduceEq,decide_true,decide_false,cond_true,cond_false] | simp only [k,u,p,Int.reduceEq,decide_true,decide_false,cond_true,cond_false]
   generalize ld m (wc (base+1))+1#64=e
   refine done e (fun a=>?_) (fun a c=>?_) (fun a c=>?_)
   ·simp only [decide_eq_false a,Bool.not_false,cond_true]
   ·simp only [decide_eq_true a,zG1,cond_false]
    rw [zj,if_pos ((hlim (e-ld m base)).2 c)]
   ·simp only [decide_eq_true a,zG1,cond_false]
    rw [zj,if_neg (fun x=>c ((hlim (e-ld m base)).1 x)),hl e (by omega)]
    rfl
 ·have he:ze3 m base o=ld m (wc (base+1)):=by unfold ze3;rw [if_neg h]
  rw [he]
  have fin:∀b:Option (List Int×Unit),(b=(bif !decide (0<(ld m (wc (base+1))-ld m base).toInt) then some ([],()) else bif decide ((bif decide (64#64<uc (noD base cap)) then 64#64 else uc (noD base cap))<(ld m (wc (base+1))-ld m base)) then some ([],()) else (zP ya (m,ld m (wc (base+1)),ld m base,zd.mk 0 0 base cap 0#64 0#64 0 0,([]:List Int),())).bind (fun st=>match st with | .again _=>none | .brk y=>some (y.1,()) | .ret y=>none)))->b=some (if ¬0<(ld m (wc (base+1))-ld m base).toInt\/(min (uc (noD base cap)).toNat 64)<(ld m (wc (base+1))-ld m base).toNat then [] else Yx m base cap (ld m base) (ld m (wc (base+1))-ld m base).toNat,()):=by
   intro b hb
   rw [hb]
   generalize ld m (wc (base+1))=e
   refine done e (fun a=>?_) (fun a c=>?_) (fun a c=>?_)
   ·simp only [decide_eq_false a,Bool.not_false,cond_true]
   ·simp only [decide_eq_true a,zG1,cond_false]
    rw [zj]
    exact if_pos ((hlim (e-ld m base)).2 c)
   ·simp only [decide_eq_true a,zG1,cond_false]
    rw [zj]
    refine (if_neg (fun x=>c ((hlim (e-ld m base)).1 x))).trans ?_
    rw [hl e (by omega)]
    rfl
  refine fin _ ?_
  by_cases k:o.Kind=2
  ·by_cases u:o.Out=0
   ·have pc: ¬(o.PC=2\/o.PC=4\/o.PC=5\/(o.PC=3/\o.T=o.B-1#64)):=fun e=>h ⟨k,u,e⟩
    have p2: ¬o.PC=2:=fun e=>pc (.inl e)
    have p4: ¬o.PC=4:=fun e=>pc (.inr (.inl e))
    have p5: ¬o.PC=5:=fun e=>pc (.inr (.inr (.inl e)))
    by_cases p3:o.PC=3
    ·have t: ¬o.T=o.B-1#64:=fun e=>pc (.inr (.inr (.inr ⟨p3,e⟩)))
     simp only [decide_eq_true k,decide_eq_true u,decide_eq_false p2,decide_eq_false p4,decide_eq_false p5,decide_eq_true p3,decide_eq_false t,cond_true,cond_false]
     rfl
    ·simp only [decide_eq_true k,decide_eq_true u,decide_eq_false p2,decide_eq_false p4,decide_eq_false p5,decide_eq_false p3,cond_true,cond_false]
     rfl
   ·simp only [decide_eq_true k,decide_eq_false u,cond_true,cond_false]
    rfl
  ·simp only [decide_eq_false k,cond_true,cond_false]
   rfl
theorem zB5 (m:List (BitVec 64)) (base cap:Int) (o:zd):(XW m base cap o).length<=64:=by
 unfold XW
 split
 ·simp
 ·rename_i h
  unfold Yx
  rw [zHK,List.length_range]
  omega
end
end Go.Pe.G
namespace Go.Pe.G
open Go.Pe
noncomputable section
def ui (x:zc):List Int:=if x.PC=33\/x.PC=34 then [x.Bin] else if x.PC=3\/x.PC=37 then x8 x.G else []
def zbE (s:za) (x:zc):List Int:=if x.PC=33 then yw s x.Bin else if x.PC=36\/x.PC=38 then [x.Obj] else if x.PC=37 then x.Obj::ym x.G else if x.PC=3 then ym x.G else []
def zW (s:za) (x:zc):List Int:=x.Batch++zbE s x
structure MX (p:zb) (s:za) (gh:Gh) (x:zc):Prop where
 bt:x.PC<=33->x.Batch=[]
 bf:∀v∈x.Buf,1<=v/\v<=64
 ol:(x.PC=21->0<=x.Old/\x.Old<=64)/\(x.PC=22\/((x.PC=1\/x.PC=3)/\x.Ret=22)->1<=x.Old/\x.Old<=64)
 p3:x.PC=3->GX p s gh x.G/\x.G.Mode=2/\x.G.Out=0
 p32:x.PC=32->x.C.Out=0/\(0<=x.C.PC/\x.C.PC<=2)/\CK p s.M x.C
 p34:x.PC=34->x.C.Out=0/\(0<=x.C.PC/\x.C.PC<=2)/\x.C.X=x.Bin/\CK p s.M x.C
 p37:x.PC=37->GX p s gh x.G/\x.G.Mode=3/\x.G.Out=0
theorem MX.plain {p:zb}{s:za}{gh:Gh}{x:zc}(h:x.PC≠3/\x.PC≠32/\x.PC≠34/\x.PC≠37) (bt:x.PC<=33->x.Batch=[]) (bf:∀v∈x.Buf,1<=v/\v<=64)
  (ol:(x.PC=21->0<=x.Old/\x.Old<=64)/\(x.PC=22\/((x.PC=1\/x.PC=3)/\x.Ret=22)->1<=x.Old/\x.Old<=64)):MX p s gh x :=
 ⟨bt,bf,ol,fun e=>by omega,fun e=>by omega,fun e=>by omega,fun e=>by omega⟩
theorem vC {x:zc}(h:x.PC≠3/\x.PC≠33/\x.PC≠34/\x.PC≠37):ui x=[]:=by unfold ui;rw [if_neg (by omega),if_neg (by omega)]
theorem zcD {x:zc}(h:x.PC=33\/x.PC=34):ui x=[x.Bin]:=by unfold ui;rw [if_pos h]
theorem zgv {x:zc}(h:x.PC=3\/x.PC=37):ui x=x8 x.G:=by unfold ui;rw [if_neg (by omega),if_pos h]
theorem uu {s:za}{x:zc}(h:x.PC≠3/\x.PC≠33/\x.PC≠36/\x.PC≠37/\x.PC≠38):zbE s x=[]:=by unfold zbE;rw [if_neg (by omega),if_neg (by omega),if_neg (by omega),if_neg (by omega)]
theorem zqB {s:za}{x:zc}(h:x.PC=33):zbE s x=yw s x.Bin:=by unfold zbE;rw [if_pos h]
theorem zb8 {s:za}{x:zc}(h:x.PC=36\/x.PC=38):zbE s x=[x.Obj]:=by unfold zbE;rw [if_neg (by omega),if_pos h]
theorem zuE {s:za}{x:zc}(h:x.PC=37):zbE s x=x.Obj::ym x.G:=by unfold zbE;rw [if_neg (by omega),if_neg (by omega),if_pos h]
theorem zql {s:za}{x:zc}(h:x.PC=3):zbE s x=ym x.G:=by unfold zbE;rw [if_neg (by omega),if_neg (by omega),if_neg (by omega),if_pos h]
theorem MX.other {p:zb}(hp:zB p) {nb k:Nat}{s s':za}{gh gh':Gh}{X R:List Int}{O:Int->Prop}{m:Int}{x:zc}(Y:SX p nb s gh (X++R) k) (Fx:FX p nb X O s s' gh gh') (K:MX p s gh x) (W:XOk p nb m x)
  (hR:∀b∈ui x,b∈R):MX p s' gh' x/\zW s' x=zW s x:=by
 have hsub:∀b∈X,b∈X++R:=fun b hb=>zG9 _ hb
 have hnd:=(zHX.1 Y.L.nodup).2.1
 have hnot:∀b,b∈ui x->b∉X:=fun b hb hg=>(zHX.1 hnd).2.2 b hg b (hR b hb) rfl
 refine ⟨⟨K.bt,K.bf,K.ol,fun e=>?_,fun e=>?_,fun e=>?_,fun e=>?_⟩,?_⟩
 ·obtain ⟨a,b,c⟩:=K.p3 e
  obtain ⟨M,_,_⟩:=W.g (.inl e)
  exact ⟨a.other hp Y Fx M (fun y hy=>hR y (by rw [zgv (.inl e)];exact hy)) (fun e2=>by omega),b,c⟩
 ·obtain ⟨a,b,c⟩:=K.p32 e
  have C:=W.c32 e
  exact ⟨a,b,c.mv Y.L Fx.mv hsub (.inl C.h) (fun h _=>C.v h) (fun e2=>by have:=C.k;omega)⟩
 ·obtain ⟨a,b,c,d⟩:=K.p34 e
  have C:=W.c34 e
  have hno:=hnot x.Bin (by rw [zcD (.inr e)];simp)
  exact ⟨a,b,c,d.mv Y.L Fx.mv hsub (.inr C.h) (fun _ e2=>by have:=C.k;omega) (fun _=>⟨C.x.1,C.x.2,by rw [c];exact hno⟩)⟩
 ·obtain ⟨a,b,c⟩:=K.p37 e
  obtain ⟨M,_,_⟩:=W.g (.inr e)
  exact ⟨a.other hp Y Fx M (fun y hy=>hR y (by rw [zgv (.inr e)];exact hy)) (fun e2=>by omega),b,c⟩
 ·unfold zW
  congr 1
  by_cases e3:x.PC=33
  ·rw [zqB e3,zqB e3]
   have hb:=W.b33 e3
   have hno:=hnot x.Bin (by rw [zcD (.inl e3)];simp)
   unfold yw
   rw [Fx.bn x.Bin hb.1 hno]
  ·unfold zbE
   rw [if_neg e3,if_neg e3]
def zfC (p:zb) (nb k:Nat) (R:List Int) (gh:Gh) (s:za) (x:zc) (s':za) (x':zc):Prop :=
 ∃gh',SX p nb s' gh' (ui x'++R) (k+1)/\MX p s' gh' x'/\FX p nb (ui x) (fun _=>False) s s' gh gh' /\
  ∃N B,List.Perm (yo p s' gh'++zW s' x'++B) (N++(yo p s gh++zW s x)) /\
   ((N=[]/\B=[]/\s'.T=s.T)\/(N=[x.G.Obj]/\B=[]/\(x.PC=3\/x.PC=37)/\¬(s.T.Marks|||bit x.G.Obj=s.T.Marks)/\s'.T={s.T with Marks:=s.T.Marks|||bit x.G.Obj})\/(N=[]/\B=[x.Obj]/\x.PC=38/\s'.T=wK s.T x.Obj) \/
    (N=[]/\B=[]/\x.PC=30/\Xy s.H s.P.Most=true/\s'.H=uk s.H/\s'.T=XT s.T (wc (s.H.Objs.length+1))))
theorem zfC.quiet {p:zb}{nb k:Nat}{R:List Int}{gh:Gh}{s s':za}{x x':zc}(X:SX p nb s gh (ui x++R) k) (S':SOk p nb s') (hm:s'.M=s.M) (hb:s'.Bins=s.Bins) (hT:s'.T=s.T)
  (ho:ui x'=ui x) (hh:List.Perm (zW s' x') (zW s x)) (W':MX p s' gh x'):zfC p nb k R gh s x s' x' :=
 ⟨gh,by rw [ho];exact X.quiet S' hm,W',FX.quiet hm (fun _ _ _=>by rw [hb]),[],[],by rw [uL hb,zGO];exact zGY _ hh,.inl ⟨rfl,rfl,hT⟩⟩
theorem zfC.calm {p:zb}{nb k:Nat}{R:List Int}{gh:Gh}{s s':za}{x x':zc}(X:SX p nb s gh (ui x++R) k) (S':SOk p nb s') (hm:s'.M=s.M) (hb:s'.Bins=s.Bins) (hT:s'.T=s.T)
  (h:x.PC≠3/\x.PC≠33/\x.PC≠34/\x.PC≠36/\x.PC≠37/\x.PC≠38) (h':x'.PC≠3/\x'.PC≠32/\x'.PC≠33/\x'.PC≠34/\x'.PC≠36/\x'.PC≠37/\x'.PC≠38) (eb:x'.Batch=x.Batch)
  (bt:x'.PC<=33->x'.Batch=[]) (bf:∀v∈x'.Buf,1<=v/\v<=64) (ol:(x'.PC=21->0<=x'.Old/\x'.Old<=64)/\(x'.PC=22\/((x'.PC=1\/x'.PC=3)/\x'.Ret=22)->1<=x'.Old/\x'.Old<=64)):zfC p nb k R gh s x s' x':=by
 refine .quiet X S' hm hb hT ?_ ?_ (MX.plain (by omega) bt bf ol)
 ·rw [vC (by omega),vC (by omega)]
 ·unfold zW
  rw [uu (by omega),uu (by omega),eb]
theorem zsN {p:zb}{s:za}{gh:Gh}{md o w:Int}(hmd:md=2\/md=3) (ho:1<=o/\o<=64):GX p s gh (ZM md o w)/\(ZM md o w).Mode=md/\(ZM md o w).Out=0/\x8 (ZM md o w)=[]/\ym (ZM md o w)=[]:=by
 refine ⟨GX.plain (.inl rfl) ⟨by show (0:Int)<=0;decide,by show (0:Int)<=7;decide⟩ ⟨by show 1<=md;omega,by show md<=3;omega⟩ ho (fun e=>by have e:md=1:=e;omega) (.inr ⟨by show (0:Int)≠3;decide,by show (0:Int)≠5;decide,by show (0:Int)≠7;decide⟩),rfl,rfl,
  vg (.inr ⟨by show (0:Int)≠6;decide,by show (0:Int)≠7;decide⟩),Zt (.inr (.inl (by show (0:Int)<3;decide)))⟩
theorem zF3 {p:zb}(hp:zB p) {nb k:Nat}{R:List Int}{gh:Gh}{s:za}{m:Int}{x:zc}(hk:k<4294960000) (X:SX p nb s gh (ui x++R) k) (W:XOk p nb m x) (K:MX p s gh x) (hpl:((wM p m).length:Int)<=64)
  (hH:∀o i,0<=yV s.H o i/\yV s.H o i<=64):zfC p nb k R gh s x (zA s m x).1 (zA s m x).2:=by
 have S':=(zCw hp hpl X.S W).1
 have hP:=X.S.P
 have eC:za9 s.P (zD s.P) x.Bin=za9 p (zD p) x.Bin:=by rw [hP]
 have hbf:=K.bf
 have hol:=K.ol
 revert S'
 refine vu (motive:=fun r=>SOk p nb r.1->zfC p nb k R gh s x r.1 r.2) s m x ?_ ?_ ?_ ?_ ?_ ?_ ?_ ?_ ?_ ?_ ?_ ?_ ?_ ?_ ?_ ?_ ?_ ?_ ?_ ?_
 ·intro c;unfold mu0 zcm;dsimp only
  have hbt:=K.bt (by omega)
  repeat' split
  all_goals (intro S')
  all_goals (refine .calm X S' rfl rfl rfl (by omega) (by (try dsimp only [setM]);omega) rfl (fun _=>hbt) hbf ⟨fun e=>?_,fun e=>?_⟩<;>((try dsimp only [setM] at e);omega))
 ·intro c;unfold mu1;dsimp only
  have hbt:=K.bt (by omega)
  have hrt:=W.ret (.inl c)
  split
  ·intro S'
   exact .calm X S' rfl rfl rfl (by omega) (by dsimp only;omega) rfl (fun _=>hbt) hbf ⟨fun e=>by dsimp only at e;omega,fun e=>by dsimp only at e ⊢;exact hol.2 (by omega)⟩
  ·rename_i hl
   intro S'
   have hv:1<=x.Buf.getD (x.Buf.length-1) 0/\x.Buf.getD (x.Buf.length-1) 0<=64:=by
    rw [zGP,zGN (show x.Buf.length-1<x.Buf.length by omega)]
    exact hbf _ (zHi _)
   obtain ⟨g1,g2,g3,g4,g5⟩:=zsN (p:=p) (s:=s) (gh:=gh) (w:=m) (.inl rfl) hv
   refine .quiet X S' rfl rfl rfl ?_ ?_ ⟨fun _=>hbt,fun v hv=>hbf v (zIg hv),⟨fun e=>(by cases e),fun e=>?_⟩,fun _=>⟨g1,g2,g3⟩,fun e=>(by cases e),fun e=>(by cases e),fun e=>(by cases e)⟩
   ·rw [vC (x:=x) (by omega),zgv (.inl rfl)];exact g4
   ·unfold zW
    rw [uu (x:=x) (by omega),zql rfl]
    show List.Perm (x.Batch++ym (ZM 2 (x.Buf.getD (x.Buf.length-1) 0) m)) _
    rw [g5]
   ·rcases e with e | e
    ·cases e
    ·exact hol.2 (.inr ⟨.inl c,e.2⟩)
 ·intro c S';unfold mu2 at S' ⊢
  exact .calm X S' rfl rfl rfl (by omega) (by dsimp only;omega) rfl (fun _=>K.bt (by omega)) hbf ⟨fun e=>by dsimp only at e;omega,fun e=>by dsimp only at e;omega⟩
 ·intro c;unfold mu3;dsimp only
  have hbt:=K.bt (by omega)
  obtain ⟨G,gm,g0⟩:=K.p3 c
  obtain ⟨M,h5o,hn1⟩:=W.g (.inl c)
  have eo:ui x=x8 x.G:=zgv (.inl c)
  have hh:zW s x=ym x.G:=by unfold zW;rw [zql c,hbt,zGV]
  rw [eo] at X
  obtain ⟨gh',X',G',Fx,hc',hFb,N,hN,hT⟩:=zAB hp hk X M h5o G
  have so:=Ux s x.G
  have Fx':FX p nb (ui x) (fun _=>False) s (zx s x.G).1 gh gh':=by rw [eo];exact Fx.mono (fun v e=>by have:=e.1;omega)
  have hT':(N=[]/\([]:List Int)=[]/\(zx s x.G).1.T=s.T)\/(N=[x.G.Obj]/\([]:List Int)=[]/\(x.PC=3\/x.PC=37)/\¬(s.T.Marks|||bit x.G.Obj=s.T.Marks)/\(zx s x.G).1.T={s.T with Marks:=s.T.Marks|||bit x.G.Obj}):=by
   rcases hT with ⟨a,b⟩ | ⟨a,b,c'⟩
   ·exact .inl ⟨a,rfl,b⟩
   ·exact .inr ⟨a,rfl,.inl c,b,c'⟩
  split
  ·rename_i o1
   intro S'
   have n1:x8 (zx s x.G).2=[]:=vg (.inl (by omega))
   have n2:ym (zx s x.G).2=[]:=Zt (.inl (by omega))
   rw [n1] at X'
   refine ⟨gh',by rw [vC (by dsimp only;omega)];exact X',MX.plain (by dsimp only;omega) (fun _=>hbt) hbf ⟨fun e=>(by cases e),fun e=>?_⟩,Fx',N,[],?_,hT'.elim .inl (fun h=>.inr (.inl h))⟩
   ·rcases e with e | e
    ·cases e
    ·exact hol.2 (.inr ⟨.inr c,e.2⟩)
   ·unfold zW
    rw [uu (by dsimp only;omega),zGO,zGO]
    rw [n2,zGO] at hN
    show List.Perm (yo p (zx s x.G).1 gh'++x.Batch) (N++(yo p s gh++(x.Batch++zbE s x)))
    rw [hbt,zql c,zGO,zGV]
    exact hN
  ·rename_i o1
   intro S'
   have o0:(zx s x.G).2.Out=0:=by have:=G'.o;omega
   refine ⟨gh',by rw [zgv (x:={x with G:=(zx s x.G).2}) (.inl c)];exact X',⟨fun _=>hbt,hbf,hol,fun _=>⟨G',so.2.2.trans gm,o0⟩,fun e=>by have e:x.PC=32:=e;omega,fun e=>by have e:x.PC=34:=e;omega,fun e=>by have e:x.PC=37:=e;omega⟩,Fx',N,[],?_,hT'.elim .inl (fun h=>.inr (.inl h))⟩
   unfold zW
   rw [zql (x:={x with G:=(zx s x.G).2}) c,zGO]
   show List.Perm (yo p (zx s x.G).1 gh'++(x.Batch++ym (zx s x.G).2)) (N++(yo p s gh++(x.Batch++zbE s x)))
   rw [hbt,zql c,zGV,zGV]
   exact hN
 ·intro c S';unfold zmF at S' ⊢
  exact .calm X S' rfl rfl rfl (by omega) (by dsimp only [setM];omega) rfl (fun _=>K.bt (by omega)) hbf ⟨fun e=>by dsimp only [setM] at e;omega,fun e=>by dsimp only [setM] at e;omega⟩
 ·intro c;unfold zkr;dsimp only
  have hbt:=K.bt (by omega)
  split
  ·intro S'
   exact .calm X S' rfl rfl rfl (by omega) (by dsimp only [VI];omega) rfl (fun _=>hbt) hbf ⟨fun e=>by dsimp only [VI] at e;omega,fun e=>by dsimp only [VI] at e;omega⟩
  ·intro S'
   exact .calm X S' rfl rfl rfl (by omega) (by dsimp only;omega) rfl (fun _=>hbt) hbf ⟨fun _=>hH _ _,fun e=>by dsimp only at e;omega⟩
 ·intro c;unfold zjf;dsimp only
  have hbt:=K.bt (by omega)
  have h21:=hol.1 c
  split
  ·intro S'
   exact .calm X S' rfl rfl rfl (by omega) (by dsimp only;omega) rfl (fun _=>hbt) hbf ⟨fun e=>by dsimp only at e;omega,fun e=>by dsimp only at e;omega⟩
  ·rename_i hn
   intro S'
   have: ¬x.Old=0:=fun e=>hn (.inl e)
   exact .calm X S' rfl rfl rfl (by omega) (by dsimp only;omega) rfl (fun _=>hbt) hbf ⟨fun e=>by dsimp only at e;omega,fun e=>by dsimp only;omega⟩
 ·intro c;unfold zjG;dsimp only
  have hbt:=K.bt (by omega)
  have h22:=hol.2 (.inl c)
  split
  ·intro S'
   exact .calm X S' rfl rfl rfl (by omega) (by dsimp only;omega) rfl (fun _=>hbt) hbf ⟨fun e=>by dsimp only at e;omega,fun e=>h22⟩
  ·intro S'
   refine .calm X S' rfl rfl rfl (by omega) (by dsimp only;omega) rfl (fun _=>hbt) (fun v hv=>?_) ⟨fun e=>by dsimp only at e;omega,fun e=>by dsimp only at e;omega⟩
   rcases zG8.1 hv with h | h
   ·exact hbf v h
   ·rw [zHo.1 h];exact h22
 ·intro c S';unfold zme at S' ⊢
  exact .calm X S' rfl rfl rfl (by omega) (by dsimp only [VI];omega) rfl (fun _=>K.bt (by omega)) hbf ⟨fun e=>by dsimp only [VI] at e;omega,fun e=>by dsimp only [VI] at e;omega⟩
 ·intro c;unfold zfi
  have hbt:=K.bt (by omega)
  split
  ·split
   ·rename_i h1 h2
    intro S'
    refine ⟨gh,by rw [vC (by dsimp only [setM];omega)];rw [vC (x:=x) (by omega)] at X;exact X.quiet S' rfl,MX.plain (by dsimp only [setM];omega) (fun _=>hbt) hbf ⟨fun e=>by dsimp only [setM] at e;omega,fun e=>by dsimp only [setM] at e;omega⟩,FX.quiet rfl (fun _ _ _=>rfl),[],[],?_,.inr (.inr (.inr ⟨rfl,rfl,c,h2,rfl,rfl⟩))⟩
    rw [uL rfl,zGO,zGV]
    unfold zW
    rw [uu (by dsimp only [setM];omega),uu (x:=x) (by omega)]
    exact zHb _
   ·intro S'
    exact .calm X S' rfl rfl rfl (by omega) (by dsimp only [VI];omega) rfl (fun _=>hbt) hbf ⟨fun e=>by dsimp only [VI] at e;omega,fun e=>by dsimp only [VI] at e;omega⟩
  ·intro S'
   exact .calm X S' rfl rfl rfl (by omega) (by dsimp only;omega) rfl (fun _=>hbt) hbf ⟨fun e=>by dsimp only at e;omega,fun e=>by dsimp only at e;omega⟩
 ·intro c;unfold zjL;dsimp only
  have hbt:=K.bt (by omega)
  split
  ·intro S'
   refine .quiet X S' rfl rfl rfl (by rw [vC (by dsimp only;omega),vC (x:=x) (by omega)]) ?_ ⟨fun _=>hbt,hbf,⟨fun e=>by dsimp only at e;omega,fun e=>by dsimp only at e;omega⟩,fun e=>by dsimp only at e;omega,fun _=>⟨rfl,⟨by show (0:Int)<=0;decide,by show (0:Int)<=2;decide⟩,by show CK p s.M (zA1 s.P (zZ s.P) x.Bin);rw [hP];exact CK.start⟩,fun e=>by dsimp only at e;omega,fun e=>by dsimp only at e;omega⟩
   unfold zW
   rw [uu (by dsimp only;omega),uu (x:=x) (by omega)]
  ·intro S'
   exact .calm X S' rfl rfl rfl (by omega) (by dsimp only;omega) rfl (fun _=>hbt) hbf ⟨fun e=>by dsimp only at e;omega,fun e=>by dsimp only at e;omega⟩
 ·intro c;unfold zj8;dsimp only
  have C:=W.c32 c
  obtain ⟨c1,c2,c3⟩:=K.p32 c
  have hbt:=K.bt (by omega)
  have eo:ui x=[]:=vC (by omega)
  have hh:zW s x=[]:=by unfold zW;rw [hbt,uu (by omega)];rfl
  have nn:∀e:x.PC=21,False:=fun e=>by omega
  intro S'
  have S':SOk p nb {s with M:=(zn s.M x.C).1}:=S'
  rcases SX.popF hp X hk C.k C.h C.n c1 c2 c3 C.v S' with ⟨a,b,cc,d⟩ | ⟨y,l,a,b,cc,d,e⟩
  ·rw [if_neg b]
   have hout:=zbk s.M c1 c2 (.inr C.k)
   by_cases o2:(zn s.M x.C).2.Out=2
   ·rw [if_pos o2]
    exact .calm X S' a rfl rfl (by omega) (by dsimp only;omega) rfl (fun _=>hbt) hbf ⟨fun e=>by dsimp only at e;omega,fun e=>by dsimp only at e;omega⟩
   ·rw [if_neg o2]
    have hpc':(zn s.M x.C).2.Out=0/\0<=(zn s.M x.C).2.PC/\(zn s.M x.C).2.PC<=2:=by omega
    refine .quiet X S' a rfl rfl ?_ ?_ ⟨fun _=>hbt,hbf,hol,fun e=>by have e:x.PC=3:=e;omega,fun _=>⟨hpc'.1,hpc'.2,?_⟩,fun e=>by have e:x.PC=34:=e;omega,fun e=>by have e:x.PC=37:=e;omega⟩
    ·rw [eo];exact vC (by dsimp only;omega)
    ·unfold zW
     rw [uu (by dsimp only;omega),uu (x:=x) (by omega)]
    ·rw [show ({s with M:=(zn s.M x.C).1}:za).M=s.M from a];exact cc
  ·rw [if_pos b]
   have e1:ui {x with PC:=33,Bin:=(zn s.M x.C).2.X,C:=(zn s.M x.C).2}=[y]:=by rw [<-cc];exact zcD (x:={x with PC:=33,Bin:=(zn s.M x.C).2.X,C:=(zn s.M x.C).2}) (.inl rfl)
   refine ⟨{gh with F:=l},by rw [e1];rw [eo] at d;exact d,MX.plain (by dsimp only;omega) (fun _=>hbt) hbf ⟨fun e=>by dsimp only at e;omega,fun e=>by dsimp only at e;omega⟩,e _ _,[],[],?_,.inl ⟨rfl,rfl,rfl⟩⟩
   rw [hh,zGO,zGO,zGV]
   unfold zW
   rw [zqB (x:={x with PC:=33,Bin:=(zn s.M x.C).2.X,C:=(zn s.M x.C).2}) rfl]
   show List.Perm (yo p s {gh with F:=l}++(x.Batch++yw s (zn s.M x.C).2.X)) _
   rw [hbt,zGV,cc]
   have:yo p s gh=yw s y++yo p s {gh with F:=l}:=by unfold yo;rw [a];simp [zGR]
   rw [this]
   exact zHw
 ·intro c;unfold zmI;dsimp only
  intro S'
  have hb:=W.b33 c
  have hbt:=K.bt (by omega)
  have eo:ui x=[x.Bin]:=zcD (.inl c)
  rw [eC] at *
  have e1:ui {x with Batch:=W1 s x.Bin,PC:=34,C:=za9 p (zD p) x.Bin}=[x.Bin]:=zcD (x:={x with Batch:=W1 s x.Bin,PC:=34,C:=za9 p (zD p) x.Bin}) (.inr rfl)
  have hget:∀b,1<=b->b∉ui x->(s.Bins.set x.Bin.toNat [])[b.toNat]? =s.Bins[b.toNat]? :=fun b b1 b2=>by
   rw [zHt]
   intro e
   rw [eo] at b2
   exact b2 (by rw [show b=x.Bin by omega];simp)
  refine ⟨gh,by rw [e1,<-eo];exact X.quiet S' rfl,⟨fun e=>absurd e (by show ¬(34:Int)<=33;decide),hbf,⟨fun e=>by dsimp only at e;omega,fun e=>by dsimp only at e;omega⟩,fun e=>by dsimp only at e;omega,fun e=>by dsimp only at e;omega,fun _=>⟨rfl,⟨by show (0:Int)<=0;decide,by show (0:Int)<=2;decide⟩,rfl,CK.start⟩,fun e=>by dsimp only at e;omega⟩,FX.quiet rfl hget,[],[],?_,.inl ⟨rfl,rfl,rfl⟩⟩
  have hbag:yo p {s with Bins:=s.Bins.set x.Bin.toNat []} gh=yo p s gh:=by
   unfold yo
   congr 1
   refine xA (fun b hb=>?_)
   have hm:=X.L.cF.mem b hb
   have hno:=(X.L.notF (x:=x.Bin) (by rw [eo];simp)).1
   unfold yw
   rw [show ({s with Bins:=s.Bins.set x.Bin.toNat []}:za).Bins=s.Bins.set x.Bin.toNat [] from rfl,hget b hm.1 (by rw [eo];intro e;rw [zHo.1 e] at hb;exact hno hb)]
  rw [hbag,zGO,zGV]
  unfold zW
  rw [zqB c,uu (x:={x with Batch:=W1 s x.Bin,PC:=34,C:=za9 p (zD p) x.Bin}) (by dsimp only;omega)]
  show List.Perm (yo p s gh++(W1 s x.Bin++[])) _
  rw [hbt,zGO,zGV,zyv]
 ·intro c;unfold zj4;dsimp only
  intro S'
  have S':SOk p nb {s with M:=(zn s.M x.C).1}:=S'
  have C:=W.c34 c
  obtain ⟨c1,c2,c3,c4⟩:=K.p34 c
  have eo:ui x=[x.Bin]:=zcD (.inr c)
  have hh:zW s x=x.Batch:=by unfold zW;rw [uu (by omega),zGO]
  rw [eo] at X
  rcases SX.pushE hp (o1:=[]) (o2:=R) (b:=x.Bin) X hk C.k C.h C.n c3 c1 c2 c4 C.v S' with ⟨a,b,cc,d⟩ | ⟨a,b,d⟩
  ·rw [a,if_neg (by decide)]
   have hout:=zbk s.M c1 c2 (.inl C.k)
   have hsame:=zmf s.M x.C
   have hpc':0<=(zn s.M x.C).2.PC/\(zn s.M x.C).2.PC<=2:=by omega
   have e1:ui {x with C:=(zn s.M x.C).2}=[x.Bin]:=zcD (x:={x with C:=(zn s.M x.C).2}) (.inr c)
   refine ⟨gh,by rw [e1];exact b,⟨fun e=>by have e:x.PC<=33:=e;omega,hbf,hol,fun e=>by have e:x.PC=3:=e;omega,fun e=>by have e:x.PC=32:=e;omega,fun _=>⟨a,hpc',(hsame.2.2.2 C.k).trans c3,cc⟩,fun e=>by have e:x.PC=37:=e;omega⟩,by rw [eo];exact d _ _ (by simp),[],[],?_,.inl ⟨rfl,rfl,rfl⟩⟩
   rw [uL rfl,hh,zGO]
   unfold zW
   rw [uu (x:={x with C:=(zn s.M x.C).2}) (by dsimp only;omega),zGO]
   exact zHb _
  ·rw [a,if_pos rfl]
   refine ⟨{gh with E:=x.Bin::gh.E},by rw [vC (by dsimp only;omega)];exact b,MX.plain (by dsimp only;omega) (fun e=>absurd e (by show ¬(35:Int)<=33;decide)) hbf ⟨fun e=>by dsimp only at e;omega,fun e=>by dsimp only at e;omega⟩,by rw [eo];exact d _ _,[],[],?_,.inl ⟨rfl,rfl,rfl⟩⟩
   rw [hh,zGO]
   unfold zW
   rw [uu (by dsimp only;omega),zGO]
   exact zHb _
 ·intro c;unfold zjh;dsimp only
  split
  ·rename_i hb
   intro S'
   exact .calm X S' rfl rfl rfl (by omega) (by dsimp only;omega) rfl (fun _=>hb) hbf ⟨fun e=>by dsimp only at e;omega,fun e=>by dsimp only at e;omega⟩
  ·rename_i o l hb
   intro S'
   refine .quiet X S' rfl rfl rfl (by rw [vC (by dsimp only;omega),vC (x:=x) (by omega)]) ?_ (MX.plain (by dsimp only;omega) (fun e=>absurd e (by show ¬(36:Int)<=33;decide)) hbf ⟨fun e=>by dsimp only at e;omega,fun e=>by dsimp only at e;omega⟩)
   unfold zW
   rw [zb8 (.inl rfl),uu (x:=x) (by omega),hb,zGO]
   exact zHw
 ·intro c;unfold zjH;dsimp only
  have hv:=hH x.Obj x.Slot
  have eo:ui x=[]:=vC (by omega)
  split
  ·rcases zg2 s (wc (x.Slot+1)) with e | e<;>rw [e]<;>intro S'
   ·refine .quiet X S' rfl rfl rfl (by rw [eo,vC (by dsimp only;omega)]) ?_ (MX.plain (by dsimp only;omega) (fun e=>absurd e (by show ¬(36:Int)<=33;decide)) hbf ⟨fun e=>by dsimp only at e;omega,fun e=>by dsimp only at e;omega⟩)
    unfold zW
    rw [zb8 (.inl c),zb8 (.inl rfl)]
   ·refine .quiet X S' rfl rfl rfl (by rw [eo,vC (by dsimp only;omega)]) ?_ (MX.plain (by dsimp only;omega) (fun e=>absurd e (by show ¬(38:Int)<=33;decide)) hbf ⟨fun e=>by dsimp only at e;omega,fun e=>by dsimp only at e;omega⟩)
    unfold zW
    rw [zb8 (.inl c),zb8 (.inr rfl)]
  ·rename_i hne
   intro S'
   obtain ⟨g1,g2,g3,g4,g5⟩:=zsN (p:=p) (s:=s) (gh:=gh) (w:=m) (.inr rfl) (show 1<=yV s.H x.Obj x.Slot/\yV s.H x.Obj x.Slot<=64 by omega)
   refine .quiet X S' rfl rfl rfl ?_ ?_ ⟨fun e=>absurd e (by show ¬(37:Int)<=33;decide),hbf,⟨fun e=>by dsimp only at e;omega,fun e=>by dsimp only at e;omega⟩,fun e=>by dsimp only at e;omega,fun e=>by dsimp only at e;omega,fun e=>by dsimp only at e;omega,fun _=>⟨g1,g2,g3⟩⟩
   ·rw [eo,zgv (.inr rfl)];exact g4
   ·unfold zW
    rw [zb8 (.inl c),zuE rfl]
    show List.Perm (x.Batch++x.Obj::ym (ZM 3 (yV s.H x.Obj x.Slot) m)) _
    rw [g5]
 ·intro c;unfold zhK;dsimp only
  obtain ⟨G,gm,g0⟩:=K.p37 c
  obtain ⟨M,h5o,hn1⟩:=W.g (.inr c)
  have eo:ui x=x8 x.G:=zgv (.inr c)
  have hh:zW s x=x.Batch++x.Obj::ym x.G:=by unfold zW;rw [zuE c]
  rw [eo] at X
  obtain ⟨gh',X',G',Fx,hc',hFb,N,hN,hT⟩:=zAB hp hk X M h5o G
  have so:=Ux s x.G
  have Fx':FX p nb (ui x) (fun _=>False) s (zx s x.G).1 gh gh':=by rw [eo];exact Fx.mono (fun v e=>by have:=e.1;omega)
  have hT':(N=[]/\([]:List Int)=[]/\(zx s x.G).1.T=s.T)\/(N=[x.G.Obj]/\([]:List Int)=[]/\(x.PC=3\/x.PC=37)/\¬(s.T.Marks|||bit x.G.Obj=s.T.Marks)/\(zx s x.G).1.T={s.T with Marks:=s.T.Marks|||bit x.G.Obj}):=by
   rcases hT with ⟨a,b⟩ | ⟨a,b,c'⟩
   ·exact .inl ⟨a,rfl,b⟩
   ·exact .inr ⟨a,rfl,.inr c,b,c'⟩
  have perm:∀H':List Int,H'=x.Batch++x.Obj::ym (zx s x.G).2->List.Perm (yo p (zx s x.G).1 gh'++H'++[]) (N++(yo p s gh++zW s x)):=by
   intro H' e
   rw [e,hh,zGO]
   have a1:List.Perm (yo p (zx s x.G).1 gh'++(x.Batch++x.Obj::ym (zx s x.G).2)) ((x.Batch++[x.Obj])++(yo p (zx s x.G).1 gh'++ym (zx s x.G).2)):=by
    rw [show x.Batch++x.Obj::ym (zx s x.G).2=(x.Batch++[x.Obj])++ym (zx s x.G).2 by simp]
    exact zHc _ _ _
   have a2:List.Perm (N++(yo p s gh++(x.Batch++x.Obj::ym x.G))) ((x.Batch++[x.Obj])++(N++(yo p s gh++ym x.G))):=by
    rw [show x.Batch++x.Obj::ym x.G=(x.Batch++[x.Obj])++ym x.G by simp]
    exact (zGY N (zHc _ _ _)).trans (zHc _ _ _)
   exact a1.trans ((zGY _ hN).trans a2.symm)
  split
  ·rename_i o1
   intro S'
   have n1:x8 (zx s x.G).2=[]:=vg (.inl (by omega))
   have n2:ym (zx s x.G).2=[]:=Zt (.inl (by omega))
   rw [n1] at X'
   rcases zg2 s x.Slot with e | e<;>rw [e]
   ·refine ⟨gh',by rw [vC (by dsimp only;omega)];exact X',MX.plain (by dsimp only;omega) (fun e=>absurd e (by show ¬(36:Int)<=33;decide)) hbf ⟨fun e=>by dsimp only at e;omega,fun e=>by dsimp only at e;omega⟩,Fx',N,[],perm _ ?_,hT'.elim .inl (fun h=>.inr (.inl h))⟩
    unfold zW;rw [zb8 (.inl rfl),n2]
   ·refine ⟨gh',by rw [vC (by dsimp only;omega)];exact X',MX.plain (by dsimp only;omega) (fun e=>absurd e (by show ¬(38:Int)<=33;decide)) hbf ⟨fun e=>by dsimp only at e;omega,fun e=>by dsimp only at e;omega⟩,Fx',N,[],perm _ ?_,hT'.elim .inl (fun h=>.inr (.inl h))⟩
    unfold zW;rw [zb8 (.inr rfl),n2]
  ·rename_i o1
   intro S'
   have o0:(zx s x.G).2.Out=0:=by have:=G'.o;omega
   refine ⟨gh',by rw [zgv (x:={x with G:=(zx s x.G).2}) (.inr c)];exact X',⟨fun e=>by have e:x.PC<=33:=e;omega,hbf,hol,fun e=>by have e:x.PC=3:=e;omega,fun e=>by have e:x.PC=32:=e;omega,fun e=>by have e:x.PC=34:=e;omega,fun _=>⟨G',so.2.2.trans gm,o0⟩⟩,Fx',N,[],perm _ ?_,hT'.elim .inl (fun h=>.inr (.inl h))⟩
   unfold zW;rw [zuE (x:={x with G:=(zx s x.G).2}) c]
 ·intro c S';unfold zmM at S' ⊢
  have eo:ui x=[]:=vC (by omega)
  refine ⟨gh,by rw [vC (by dsimp only;omega)];rw [eo] at X;exact X.quiet S' rfl,MX.plain (by dsimp only;omega) (fun e=>absurd e (by show ¬(39:Int)<=33;decide)) hbf ⟨fun e=>by dsimp only at e;omega,fun e=>by dsimp only at e;omega⟩,FX.quiet rfl (fun _ _ _=>rfl),[],[x.Obj],?_,.inr (.inr (.inl ⟨rfl,rfl,c,rfl⟩))⟩
  rw [uL rfl,zGV]
  unfold zW
  rw [zb8 (.inr c),uu (by dsimp only;omega),zGO,zGR]
  exact zHb _
 ·intro c S';unfold zn0 at S' ⊢
  exact .calm X S' rfl rfl rfl (by omega) (by dsimp only;omega) rfl (fun e=>absurd e (by show ¬(35:Int)<=33;decide)) hbf ⟨fun e=>by dsimp only at e;omega,fun e=>by dsimp only at e;omega⟩
 ·intro S'
  exact ⟨gh,X.quiet S' rfl,K,FX.quiet rfl (fun _ _ _=>rfl),[],[],by rw [zGO];exact zHb _,.inl ⟨rfl,rfl,rfl⟩⟩
end
end Go.Pe.G
namespace Go.Pe.G
open Go.Pe
noncomputable section
theorem wO (a b:BitVec 64) (q:Int):zX (a|||b) q=true↔zX a q=true\/zX b q=true:=by
 rw [xm,xm,xm,BitVec.getLsbD_or,zHR]
 constructor
 ·rintro ⟨h1,h2,h | h⟩
  ·exact .inl ⟨h1,h2,h⟩
  ·exact .inr ⟨h1,h2,h⟩
 ·rintro (⟨h1,h2,h⟩ | ⟨h1,h2,h⟩)
  ·exact ⟨h1,h2,.inl h⟩
  ·exact ⟨h1,h2,.inr h⟩
theorem zba (h:zo) (a i v:Int):(U8 h a i v).Objs.length=h.Objs.length:=by
 unfold U8;split<;>simp
theorem zgo (h:zo):(uk h).Objs.length=h.Objs.length+1:=by unfold uk;simp
end
end Go.Pe.G
namespace Go.Pe.G
open Go.Pe
noncomputable section
theorem ztv:∀(n:Fin 10) (j:Fin 64),(wG (n.1:Int)).getLsbD j.1=decide (j.1<n.1):=by decide +kernel
theorem zer {n:Nat}(hn:n<=9) (o:Int):zX (wG (n:Int)) o=true↔1<=o/\o<=(n:Int):=by
 rw [xm]
 constructor
 ·rintro ⟨a,b,c⟩
  have:=ztv ⟨n,by omega⟩ ⟨(o-1).toNat,by omega⟩
  rw [this] at c
  have:(o-1).toNat<n:=by simpa using c
  omega
 ·rintro ⟨a,b⟩
  have:=ztv ⟨n,by omega⟩ ⟨(o-1).toNat,by omega⟩
  refine ⟨a,by omega,?_⟩
  rw [this]
  exact decide_eq_true (by show (o-1).toNat<n;omega)
end
end Go.Pe.G
namespace Go.Pe.G
open Go.Pe
noncomputable section
theorem zwg {t:zq}{o:Int}(ho:1<=o/\o<=64) (hm: ¬zX t.Marks o=true) (hb: ¬zX t.Black o=true):vw t o=({t with Marks:=t.Marks|||bit o},true):=by
 unfold vw
 rw [if_neg ((zd4 ho).2 hm),if_pos]
 unfold zX at hb
 simpa using hb
theorem zxd {o q:Int}(h:zX (bit o) q=true):q=o:=by
 by_cases ho:1<=o/\o<=64
 ·have:=(wB 0#64 ho q).1 (by simpa using h)
  exact this.resolve_left (YC q)
 ·unfold bit at h;rw [if_neg ho] at h;exact absurd h (YC q)
theorem zfS {m:BitVec 64}{o q:Int}(h:zX (m|||bit o) q=true):zX m q=true\/q=o:=((wO _ _ _).1 h).imp id zxd
theorem zw2 (t:zq) (o:Int):wW t o=2↔zX t.Marks o=true/\zX t.Black o=true:=by
 unfold wW
 cases h:zX (t.Marks&&&t.Black) o with
 | true=>simp only [if_true,true_iff];exact (Vt _ _ o).1 h
 | false =>
  have hn: ¬(zX t.Marks o=true/\zX t.Black o=true):=fun e=>by rw [(Vt _ _ o).2 e] at h;cases h
  simp only [zHl,if_false]
  constructor
  ·intro e;split at e<;>omega
  ·intro e;exact absurd e hn
theorem zgA (t:zq) (o:Int):(vw t o).1.Black=t.Black/\((vw t o).1.Marks=t.Marks\/(vw t o).1.Marks=t.Marks|||bit o):=by
 unfold vw
 split
 ·exact ⟨rfl,.inl rfl⟩
 split
 ·exact ⟨rfl,.inr rfl⟩
 ·exact ⟨rfl,.inl rfl⟩
theorem zne (t:zq) (o:Int):(wK t o).Marks=t.Marks/\((wK t o).Black=t.Black\/((wK t o).Black=t.Black|||bit o/\zX t.Marks o=true)):=by
 unfold wK
 split
 ·rename_i h;exact ⟨rfl,.inr ⟨rfl,((WS t o).1 h).1⟩⟩
 ·exact ⟨rfl,.inl rfl⟩
theorem zB1 (s:za) (g:zu):(zx s g).1.T=s.T\/(zx s g).1.T=(vw s.T g.Obj).1:=by
 unfold zx
 split
 ·exact .inl rfl
 split
 ·exact .inl rfl
 split
 ·exact .inl rfl
 split
 ·exact .inl rfl
 split
 ·exact .inl rfl
 split
 ·exact .inl rfl
 split
 ·exact .inl rfl
 split
 ·exact .inr rfl
 ·exact .inl rfl
theorem zsw (s:za) (m:Int) (x:zc) :
  ((zA s m x).1.H.Objs.length=s.H.Objs.length/\((zA s m x).1.T=s.T\/((zA s m x).1.T=(vw s.T x.G.Obj).1/\(x.PC=3\/x.PC=37))\/(zA s m x).1.T=wK s.T x.Obj) /\
   ((zA s m x).1.L=s.L\/(∃w,(zA s m x).1.L=(zcq s.L m w).1)\/(zA s m x).1.L=zcx s.L m)) \/
  ((zA s m x).1.H=uk s.H/\(zA s m x).1.T=XT s.T (wc (s.H.Objs.length+1))/\(zA s m x).1.L=zbR s.L m s.P.Price/\zfJ s.L m s.P.Price s.P.Limit=true/\Xy s.H s.P.Most=true):=by
 refine vu (motive:=fun r=>(r.1.H.Objs.length=s.H.Objs.length/\(r.1.T=s.T\/(r.1.T=(vw s.T x.G.Obj).1/\(x.PC=3\/x.PC=37))\/r.1.T=wK s.T x.Obj)/\(r.1.L=s.L\/(∃w,r.1.L=(zcq s.L m w).1)\/r.1.L=zcx s.L m)) \/
  (r.1.H=uk s.H/\r.1.T=XT s.T (wc (s.H.Objs.length+1))/\r.1.L=zbR s.L m s.P.Price/\zfJ s.L m s.P.Price s.P.Limit=true/\Xy s.H s.P.Most=true)) s m x ?_ ?_ ?_ ?_ ?_ ?_ ?_ ?_ ?_ ?_ ?_ ?_ ?_ ?_ ?_ ?_ ?_ ?_ ?_ ?_
 ·intro c;exact .inl ⟨rfl,.inl rfl,.inl rfl⟩
 ·intro c;exact .inl ⟨rfl,.inl rfl,.inl rfl⟩
 ·intro c;exact .inl ⟨rfl,.inl rfl,.inl rfl⟩
 ·intro c;unfold mu3
  refine .inl ⟨by rw [WT],(zB1 s x.G).imp id (fun h=>.inl ⟨h,.inl c⟩),.inl (by rw [WT])⟩
 ·intro c;exact .inl ⟨rfl,.inl rfl,.inl rfl⟩
 ·intro c;exact .inl ⟨rfl,.inl rfl,.inl rfl⟩
 ·intro c;exact .inl ⟨rfl,.inl rfl,.inl rfl⟩
 ·intro c;exact .inl ⟨rfl,.inl rfl,.inl rfl⟩
 ·intro c;exact .inl ⟨zba _ _ _ _,.inl rfl,.inl rfl⟩
 ·intro c;unfold zfi
  split
  ·split
   ·rename_i h1 h2;exact .inr ⟨rfl,rfl,rfl,h1,h2⟩
   ·exact .inl ⟨rfl,.inl rfl,.inl rfl⟩
  ·exact .inl ⟨rfl,.inl rfl,.inl rfl⟩
 ·intro c;exact .inl ⟨rfl,.inl rfl,.inr (.inl ⟨_,rfl⟩)⟩
 ·intro c;exact .inl ⟨rfl,.inl rfl,.inl rfl⟩
 ·intro c;exact .inl ⟨rfl,.inl rfl,.inl rfl⟩
 ·intro c;exact .inl ⟨rfl,.inl rfl,.inl rfl⟩
 ·intro c;exact .inl ⟨rfl,.inl rfl,.inl rfl⟩
 ·intro c;exact .inl ⟨rfl,.inl rfl,.inl rfl⟩
 ·intro c;unfold zhK
  refine .inl ⟨by rw [WT],(zB1 s x.G).imp id (fun h=>.inl ⟨h,.inr c⟩),.inl (by rw [WT])⟩
 ·intro c;exact .inl ⟨rfl,.inr (.inr rfl),.inr (.inr rfl)⟩
 ·intro c;exact .inl ⟨rfl,.inl rfl,.inl rfl⟩
 ·exact .inl ⟨rfl,.inl rfl,.inl rfl⟩
def zem (n:Int) (x:zc):Prop:=(∀v∈x.Buf,v<=n)/\x.Old<=n/\(x.PC=3\/x.PC=37->x.G.Obj<=n)
theorem zxZ {h:zo}{n:Int}(h0:0<=n) (hv:∀l∈h.Objs,∀v∈l,v<=n) (o i:Int):yV h o i<=n:=by
 unfold yV
 split
 ·rw [zGP]
  cases hx:(zN h o)[i.toNat]? with
  | none=>exact h0
  | some v =>
   have hm:=zGT hx
   unfold zN at hm
   rw [zGP] at hm
   cases hy:h.Objs[(o-1).toNat]? with
   | none=>rw [hy] at hm;cases hm
   | some l=>rw [hy] at hm;exact hv l (zGT hy) v hm
 ·exact h0
def zA9 (Q:Int->Prop) (x:zc):Prop:=(∀v∈x.Buf,Q v)/\Q x.Old/\(x.PC=3\/x.PC=37->Q x.G.Obj)
theorem zDi {p:zb}{nb:Nat}{s:za}{m:Int}{x:zc}(X:XOk p nb m x) {Q:Int->Prop}(h0:Q 0) (hg:∀r i,Q (yV s.H (zbH x r) i)) (hg2:x.PC=36->Q (yV s.H x.Obj x.Slot)) (B:zA9 Q x):zA9 Q (zA s m x).2:=by
 obtain ⟨b1,b2,b3⟩:=B
 have no:∀ {y:zc},(∀v∈y.Buf,Q v)->Q y.Old->¬(y.PC=3\/y.PC=37)->zA9 Q y:=fun h1 h2 h3=>⟨h1,h2,fun e=>absurd e h3⟩
 refine vu (motive:=fun r=>zA9 Q r.2) s m x ?_ ?_ ?_ ?_ ?_ ?_ ?_ ?_ ?_ ?_ ?_ ?_ ?_ ?_ ?_ ?_ ?_ ?_ ?_ ?_
 ·intro c;unfold mu0 zcm
  repeat' split
  all_goals exact no b1 b2 (by dsimp only [setM];omega)
 ·intro c;unfold mu1;dsimp only
  split
  ·exact no b1 b2 (by have:=X.ret (.inl c);show ¬(x.Ret=3\/x.Ret=37);omega)
  ·rename_i hl
   refine ⟨fun v hv=>b1 v (zIg hv),b2,fun _=>?_⟩
   show Q (x.Buf.getD (x.Buf.length-1) 0)
   rw [zGP,zGN (show x.Buf.length-1<x.Buf.length by omega)]
   exact b1 _ (zHi _)
 ·intro c;unfold mu2;exact no b1 b2 (by show ¬((0:Int)=3\/(0:Int)=37);decide)
 ·intro c;unfold mu3;dsimp only
  split
  ·exact no b1 b2 (by show ¬((1:Int)=3\/(1:Int)=37);decide)
  ·exact ⟨b1,b2,fun _=>by show Q (zx s x.G).2.Obj;rw [(Ux s x.G).1];exact b3 (.inl c)⟩
 ·intro c;unfold zmF;exact no b1 b2 (by show ¬((0:Int)=3\/(0:Int)=37);decide)
 ·intro c;unfold zkr;dsimp only
  split
  ·exact no b1 b2 (by show ¬((0:Int)=3\/(0:Int)=37);decide)
  ·exact no b1 (hg _ _) (by show ¬((21:Int)=3\/(21:Int)=37);decide)
 ·intro c;unfold zjf;dsimp only
  split
  ·exact no b1 h0 (by show ¬((23:Int)=3\/(23:Int)=37);decide)
  ·exact no b1 b2 (by show ¬((22:Int)=3\/(22:Int)=37);decide)
 ·intro c;unfold zjG;dsimp only
  split
  ·exact no b1 b2 (by show ¬((1:Int)=3\/(1:Int)=37);decide)
  ·refine no (fun v hv=>?_) h0 (by show ¬((23:Int)=3\/(23:Int)=37);decide)
   rcases zG8.1 hv with h | h
   ·exact b1 v h
   ·rw [zHo.1 h];exact b2
 ·intro c;unfold zme;exact no b1 b2 (by show ¬((0:Int)=3\/(0:Int)=37);decide)
 ·intro c;unfold zfi
  split
  ·split
   ·exact no b1 b2 (by show ¬((0:Int)=3\/(0:Int)=37);decide)
   ·exact no b1 b2 (by show ¬((0:Int)=3\/(0:Int)=37);decide)
  ·exact no b1 b2 (by show ¬((31:Int)=3\/(31:Int)=37);decide)
 ·intro c;unfold zjL;dsimp only
  split
  ·exact no b1 b2 (by show ¬((32:Int)=3\/(32:Int)=37);decide)
  ·exact no b1 b2 (by show ¬((0:Int)=3\/(0:Int)=37);decide)
 ·intro c;unfold zj8;dsimp only
  split
  ·exact no b1 b2 (by show ¬((33:Int)=3\/(33:Int)=37);decide)
  split
  ·exact no b1 b2 (by show ¬((0:Int)=3\/(0:Int)=37);decide)
  ·exact no b1 b2 (by show ¬(x.PC=3\/x.PC=37);omega)
 ·intro c;unfold zmI;exact no b1 b2 (by show ¬((34:Int)=3\/(34:Int)=37);decide)
 ·intro c;unfold zj4;dsimp only
  split
  ·exact no b1 b2 (by show ¬((35:Int)=3\/(35:Int)=37);decide)
  ·exact no b1 b2 (by show ¬(x.PC=3\/x.PC=37);omega)
 ·intro c;unfold zjh;dsimp only
  split
  ·exact no b1 b2 (by show ¬((0:Int)=3\/(0:Int)=37);decide)
  ·exact no b1 b2 (by show ¬((36:Int)=3\/(36:Int)=37);decide)
 ·intro c;unfold zjH;dsimp only
  split
  ·exact no b1 b2 (by have:=zg2 s (wc (x.Slot+1));show ¬(onM s (wc (x.Slot+1))=3\/onM s (wc (x.Slot+1))=37);omega)
  ·exact ⟨b1,b2,fun _=>hg2 c⟩
 ·intro c;unfold zhK;dsimp only
  split
  ·exact no b1 b2 (by have:=zg2 s x.Slot;show ¬(onM s x.Slot=3\/onM s x.Slot=37);omega)
  ·exact ⟨b1,b2,fun _=>by show Q (zx s x.G).2.Obj;rw [(Ux s x.G).1];exact b3 (.inr c)⟩
 ·intro c;unfold zmM;exact no b1 b2 (by show ¬((39:Int)=3\/(39:Int)=37);decide)
 ·intro c;unfold zn0;exact no b1 b2 (by show ¬((35:Int)=3\/(35:Int)=37);decide)
 ·exact ⟨b1,b2,b3⟩
theorem zvW {p:zb}{nb:Nat}{s:za}{m:Int}{x:zc}(X:XOk p nb m x) {n:Int}(h0:0<=n) (hv:∀l∈s.H.Objs,∀v∈l,v<=n) (B:zem n x):zem n (zA s m x).2 :=
 zDi (Q:=fun v=>v<=n) X h0 (fun _ _=>zxZ h0 hv _ _) (fun _=>zxZ h0 hv _ _) B
theorem zqA:∀(l:List Int) (i:Nat) (v:Int),i<l.length->(l.set i v).sum=l.sum-l.getD i 0+v
 | [],i,v,h=>by simp at h
 | a::l,0,v,h=>by simp only [List.set_cons_zero,List.sum_cons,List.getD_cons_zero];omega
 | a::l,i+1,v,h=>by
  simp only [List.set_cons_succ,List.sum_cons,List.getD_cons_succ,zqA l i v (by simpa using h)];omega
structure LdI (p:zb) (k d:Int) (l:zk):Prop where
 pool:l.Pool=0
 sc:0<=l.Scanned/\l.Scanned<=k
 sp:l.Spent=p.Price*d
 bal:∀b∈l.Bal,-p.Limit<=b/\b<=k
 sum:l.Bal.sum=l.Scanned-l.Spent
theorem LdI.more {p:zb}{k d:Int}{l:zk}(I:LdI p k d l):LdI p (k+1) d l :=
 ⟨I.pool,by have:=I.sc;omega,I.sp,fun b hb=>by have:=I.bal b hb;omega,I.sum⟩
theorem zCg {l:List Int}{i:Nat}(h:i<l.length):l.getD i 0∈l:=by
 rw [zGP,zGN h];exact zHi h
theorem LdI.take {p:zb}{k d:Int}{l:zk}(I:LdI p k d l) (m w:Int):(zcq l m w).1=l:=by
 unfold zcq zmH
 rw [if_neg]
 rintro ⟨_,h⟩
 rw [I.pool] at h
 split at h<;>omega
theorem LdI.earn {p:zb}(hp:zB p) {k d:Int}(hk:0<=k/\k<=1000) {l:zk}(I:LdI p k d l) {m:Int}(hm:1<=m/\m<=(l.Bal.length:Int)):LdI p (k+1) d (zcx l m):=by
 have hsc:=I.sc
 have hl:=hp.limit
 have hb:=I.bal _ (zCg (l:=l.Bal) (i:=(m-1).toNat) (by omega))
 unfold zcx
 rw [if_pos hm]
 have w1:wc (l.Scanned+1)=l.Scanned+1:=xr (by omega) (by omega)
 have w2:wc (l.Bal.getD (m-1).toNat 0+1)=l.Bal.getD (m-1).toNat 0+1:=xr (by omega) (by omega)
 rw [w1,w2]
 refine ⟨I.pool,by dsimp only;omega,I.sp,fun b hb'=>?_,?_⟩
 ·rcases zHB hb' with h | rfl
  ·have:=I.bal b h;omega
  ·omega
 ·dsimp only
  rw [zqA _ _ _ (by omega),I.sum];omega
theorem zBO {a d:Int}(h:0<=a/\a<=3):a*(d+1)=a*d+a:=by rw [Int.mul_add,Int.mul_one]
theorem zD3 {a d:Int}(h:0<=a/\a<=3) (hd:0<=d/\d<=10):0<=a*d/\a*d<=30:=by
 refine ⟨Int.mul_nonneg h.1 hd.1,?_⟩
 have:=Int.mul_le_mul h.2 hd.2 hd.1 (by decide:(0:Int)<=3)
 omega
theorem LdI.spend {p:zb}(hp:zB p) {k d:Int}(hk:0<=k/\k<=1000) (hd:0<=d/\d<=9) {l:zk}(I:LdI p k d l) {m:Int}(h:zfJ l m p.Price p.Limit=true):LdI p (k+1) (d+1) (zbR l m p.Price):=by
 have hsc:=I.sc
 have hl:=hp.limit
 have hpr:=hp.price
 have hsp:=zD3 hpr (d:=d) (by omega)
 have e1:=I.sp
 unfold zfJ U5 US at h
 simp only [zGM,decide_eq_true_eq] at h
 obtain ⟨⟨⟨⟨⟨⟨m1,m2⟩,_⟩,_⟩,_⟩,_⟩,h⟩:=h
 have hb:=I.bal _ (zCg (l:=l.Bal) (i:=(m-1).toNat) (by omega))
 unfold zbh at h
 rw [xr (by omega) (by omega),xr (by omega) (by omega)] at h
 unfold zbR zbh
 rw [xr (by omega) (by omega),xr (by omega) (by omega)]
 refine ⟨I.pool,by dsimp only;omega,?_,fun b hb'=>?_,?_⟩
 ·dsimp only;rw [zBO hpr];omega
 ·rcases zHB hb' with h2 | rfl
  ·have:=I.bal b h2;omega
  ·omega
 ·dsimp only
  rw [zqA _ _ _ (by omega),I.sum];omega
structure NwI (p:zb) (k:Int) (s:za):Prop where
 mrk:∀o,zX s.T.Marks o=true->o<=(s.H.Objs.length:Int)
 bm:∀o,zX s.T.Black o=true->zX s.T.Marks o=true
 bk:∀o,(p.H.Objs.length:Int)<o->o<=(s.H.Objs.length:Int)->wW s.T o=2
 buf:∀x∈s.Ms,zem (s.H.Objs.length:Int) x
 bl:s.L.Bal.length=s.Ms.length
 L:LdI p k ((s.H.Objs.length:Int)-(p.H.Objs.length:Int)) s.L
theorem zDj (l:zk) (m:Int):(zcx l m).Bal.length=l.Bal.length:=by unfold zcx;split<;>simp
theorem NwI.step {p:zb}{nb:Nat}(hp:zB p) {k:Int}(hk:0<=k/\k<=1000) {s:za}(E:EOk p nb s) (I:NwI p k s) (m:Int):NwI p (k+1) (yu s m):=by
 have hN:=E.H.n
 have hM:=hp.most
 have hn6:=hp.n
 unfold yu
 split
 ·exact ⟨I.mrk,I.bm,I.bk,I.buf,I.bl,I.L.more⟩
 rename_i hne
 cases hx:s.Ms[(m-1).toNat]? with
 | none=>exact ⟨I.mrk,I.bm,I.bk,I.buf,I.bl,I.L.more⟩
 | some x =>
  have hm:1<=m/\m<=(s.Ms.length:Int):=by omega
  have X:=E.X _ x hx
  have B:=I.buf x (zGT hx)
  have em:(((m-1).toNat:Nat):Int)+1=m:=by omega
  rw [em] at X
  have B':=zvW (s:=s) X (n:=(s.H.Objs.length:Int)) (by omega) (fun l hl v hv=>((E.H.objs l hl).2 v hv).2) B
  have bufs:∀N':Int,(s.H.Objs.length:Int)<=N'->∀y∈s.Ms.set (m-1).toNat (zA s m x).2,zem N' y:=fun N' hN' y hy=>by
   have up:∀ {z:zc},zem (s.H.Objs.length:Int) z->zem N' z:=fun ⟨a,b,c⟩=>⟨fun v hv=>by have:=a v hv;omega,by omega,fun e=>by have:=c e;omega⟩
   rcases zHB hy with h | rfl
   ·exact up (I.buf y h)
   ·exact up B'
  have hL:=I.L
  rcases zsw s m x with ⟨k1,k2,k3⟩ | ⟨k1,k2,k3,k4,k5⟩
  ·refine ⟨fun o ho=>?_,fun o ho=>?_,fun o h1 h2=>?_,?_,?_,?_⟩
   ·dsimp only at ho ⊢
    rw [k1]
    rcases k2 with e | ⟨e,hpc⟩ | e
    ·rw [e] at ho;exact I.mrk o ho
    ·rw [e] at ho
     rcases (zgA s.T x.G.Obj).2 with e2 | e2
     ·rw [e2] at ho;exact I.mrk o ho
     ·rw [e2] at ho
      rcases zfS ho with h | rfl
      ·exact I.mrk o h
      ·exact B.2.2 hpc
    ·rw [e,(zne s.T x.Obj).1] at ho;exact I.mrk o ho
   ·dsimp only at ho ⊢
    rcases k2 with e | ⟨e,hpc⟩ | e
    ·rw [e] at ho ⊢;exact I.bm o ho
    ·rw [e] at ho ⊢
     rw [(zgA s.T x.G.Obj).1] at ho
     have:=I.bm o ho
     rcases (zgA s.T x.G.Obj).2 with e2 | e2
     ·rw [e2];exact this
     ·rw [e2];exact (wO _ _ _).2 (.inl this)
    ·rw [e] at ho ⊢
     rw [(zne s.T x.Obj).1]
     rcases (zne s.T x.Obj).2 with e2 | ⟨e2,h3⟩
     ·rw [e2] at ho;exact I.bm o ho
     ·rw [e2] at ho
      rcases zfS ho with h | rfl
      ·exact I.bm o h
      ·exact h3
   ·dsimp only at h2 ⊢
    rw [k1] at h2
    have h:=(zw2 _ _).1 (I.bk o h1 h2)
    rw [zw2]
    rcases k2 with e | ⟨e,hpc⟩ | e
    ·rw [e];exact h
    ·rw [e,(zgA s.T x.G.Obj).1]
     refine ⟨?_,h.2⟩
     rcases (zgA s.T x.G.Obj).2 with e2 | e2
     ·rw [e2];exact h.1
     ·rw [e2];exact (wO _ _ _).2 (.inl h.1)
    ·rw [e,(zne s.T x.Obj).1]
     refine ⟨h.1,?_⟩
     rcases (zne s.T x.Obj).2 with e2 | ⟨e2,_⟩
     ·rw [e2];exact h.2
     ·rw [e2];exact (wO _ _ _).2 (.inl h.2)
   ·dsimp only;rw [k1];exact bufs _ (zHv _)
   ·dsimp only
    rw [zHh]
    rcases k3 with e | ⟨w,e⟩ | e
    ·rw [e];exact I.bl
    ·rw [e,hL.take];exact I.bl
    ·rw [e,zDj];exact I.bl
   ·dsimp only
    rw [k1]
    rcases k3 with e | ⟨w,e⟩ | e
    ·rw [e];exact hL.more
    ·rw [e,hL.take];exact hL.more
    ·rw [e];exact hL.earn hp hk (by have:=I.bl;omega)
  ·have w:wc ((s.H.Objs.length:Int)+1)=(s.H.Objs.length:Int)+1:=xr (by omega) (by omega)
   have hal:=zgo s.H
   have hP:=E.S.P
   have hr:(s.H.Objs.length:Int)<s.P.Most:=by
    unfold Xy at k5
    simp only [zGM,decide_eq_true_eq] at k5
    exact k5.1
   rw [hP] at hr k3 k4
   rw [w] at k2
   have nm: ¬zX s.T.Marks ((s.H.Objs.length:Int)+1)=true:=fun e=>by have:=I.mrk _ e;omega
   have nb': ¬zX s.T.Black ((s.H.Objs.length:Int)+1)=true:=fun e=>nm (I.bm _ e)
   have hsh:=zwg (t:=s.T) (o:=(s.H.Objs.length:Int)+1) (by omega) nm nb'
   have ht1:wW {s.T with Marks:=s.T.Marks|||bit ((s.H.Objs.length:Int)+1)} ((s.H.Objs.length:Int)+1)=1 :=
    (WS _ _).2 ⟨(wB _ (by omega) _).2 (.inr rfl),nb'⟩
   have hT:(zA s m x).1.T=⟨s.T.Marks|||bit ((s.H.Objs.length:Int)+1),s.T.Black|||bit ((s.H.Objs.length:Int)+1)⟩:=by
    rw [k2]
    unfold XT
    rw [hsh]
    dsimp only
    rw [if_pos rfl]
    unfold wK
    rw [if_pos ht1]
   refine ⟨fun o ho=>?_,fun o ho=>?_,fun o h1 h2=>?_,?_,?_,?_⟩
   ·dsimp only at ho ⊢
    rw [k1,hal]
    rw [hT] at ho
    rcases zfS ho with h | rfl
    ·have:=I.mrk o h;omega
    ·omega
   ·dsimp only at ho ⊢
    rw [hT] at ho ⊢
    dsimp only at ho ⊢
    rw [wO]
    rcases (wO _ _ _).1 ho with h | h
    ·exact .inl (I.bm o h)
    ·exact .inr h
   ·dsimp only at h2 ⊢
    rw [k1,hal] at h2
    rw [zw2,hT]
    dsimp only
    by_cases ho:o<=(s.H.Objs.length:Int)
    ·have h:=(zw2 _ _).1 (I.bk o h1 ho)
     exact ⟨(wO _ _ _).2 (.inl h.1),(wO _ _ _).2 (.inl h.2)⟩
    ·have:o=(s.H.Objs.length:Int)+1:=by omega
     subst this
     exact ⟨(wB _ (by omega) _).2 (.inr rfl),(wB _ (by omega) _).2 (.inr rfl)⟩
   ·dsimp only;rw [k1,hal];exact bufs _ (by omega)
   ·dsimp only
    rw [zHh,k3]
    unfold zbR
    rw [zHh]
    exact I.bl
   ·dsimp only
    rw [k3,k1,hal]
    have:=hL.spend hp hk (by omega) k4
    have e:((s.H.Objs.length+1:Nat):Int)-(p.H.Objs.length:Int)=(s.H.Objs.length:Int)-(p.H.Objs.length:Int)+1:=by omega
    rw [e]
    exact this
end
end Go.Pe.G
namespace Go.Pe.G
open Go.Pe
noncomputable section
def vS (p:zb) (s:za) (g:Gh):List Int:=yo p s g++(s.Ws.flatMap (zJ s)++s.Ms.flatMap (zW s))
structure FG (p:zb) (nb k:Nat) (s:za) (gh:Gh):Prop where
 E:EOk p nb s
 X:SX p nb s gh (s.Ws.flatMap wb++s.Ms.flatMap ui) k
 W:∀(i:Nat) x,s.Ws[i]? =some x->WX p s gh ((i:Int)+1) x
 M:∀(i:Nat) x,s.Ms[i]? =some x->MX p s gh x
 B:zaB (vS p s gh) s.T
 mrk:∀o,zX s.T.Marks o=true->o<=(s.H.Objs.length:Int)
 wob:∀(i:Nat) x,s.Ws[i]? =some x->x.PC=6->x.G.Obj<=(s.H.Objs.length:Int)
 buf:∀x∈s.Ms,zem (s.H.Objs.length:Int) x
 bk:∀o,(p.H.Objs.length:Int)<o->o<=(s.H.Objs.length:Int)->zX s.T.Black o=true
 ne:∀y∈gh.F,yw s y≠[]
theorem FX.ne {p:zb}{nb k:Nat}{s s':za}{gh gh':Gh}{Y R:List Int}{O:Int->Prop}(X:SX p nb s gh (Y++R) k) (Fx:FX p nb Y O s s' gh gh') (h:∀y∈gh.F,yw s y≠[]):∀y∈gh'.F,yw s' y≠[]:=fun y hy =>
 (Fx.fb y hy).elim (fun hy=>by
  have h1:=zpQ.1 (X.L.all.subset (zG9 _ (zG9 _ hy)))
  have h2:y∉Y:=fun e=>(X.L.notF (zG9 _ e)).1 hy
  have:=Fx.bn y h1.1 h2
  unfold yw
  rw [this];exact h y hy) id
theorem MX.state {p:zb}{s s':za}{gh:Gh}{x:zc}(W:MX p s gh x) (hm:s'.M=s.M) (hb:s'.Bins=s.Bins):MX p s' gh x :=
 ⟨W.bt,W.bf,W.ol,fun e=>⟨(W.p3 e).1.state hm hb,(W.p3 e).2⟩,by rw [hm];exact W.p32,by rw [hm];exact W.p34,fun e=>⟨(W.p37 e).1.state hm hb,(W.p37 e).2⟩⟩
theorem zf3 {s s':za}{x:zc}(hb:s'.Bins=s.Bins):zW s' x=zW s x:=by
 unfold zW zbE yw;rw [hb]
def ziW (s s':za):Prop :=
 (s'.T=s.T/\s'.H.Objs.length=s.H.Objs.length) \/
 (∃o,(1<=o/\o<=(s.H.Objs.length:Int))/\¬zX s.T.Marks o=true/\s'.T={s.T with Marks:=s.T.Marks|||bit o}/\s'.H=s.H) \/
 (∃o,wW s.T o=1/\s'.T={s.T with Black:=s.T.Black|||bit o}/\s'.H=s.H) \/
 (s'.H=uk s.H/\(s.H.Objs.length:Int)<9/\s'.T=⟨s.T.Marks|||bit ((s.H.Objs.length:Int)+1),s.T.Black|||bit ((s.H.Objs.length:Int)+1)⟩)
theorem FG.tints {p:zb}{nb k:Nat}{s:za}{gh:Gh}(G:FG p nb k s gh) {s':za}(F:ziW s s') :
  (∀o,zX s'.T.Marks o=true->o<=(s'.H.Objs.length:Int))/\(∀o,(p.H.Objs.length:Int)<o->o<=(s'.H.Objs.length:Int)->zX s'.T.Black o=true):=by
 rcases F with ⟨e,h⟩ | ⟨o,ho,hn,e,h⟩ | ⟨o,ho,e,h⟩ | ⟨h,hl,e⟩
 ·rw [e,h];exact ⟨G.mrk,G.bk⟩
 ·rw [e,h]
  refine ⟨fun q hq=>?_,G.bk⟩
  rcases zfS hq with hq | rfl
  ·exact G.mrk q hq
  ·exact ho.2
 ·rw [e,h]
  exact ⟨G.mrk,fun q h1 h2=>(wO _ _ _).2 (.inl (G.bk q h1 h2))⟩
 ·rw [e,h]
  have hal:=zgo s.H
  refine ⟨fun q hq=>?_,fun q h1 h2=>?_⟩
  ·rcases zfS hq with hq | rfl
   ·have:=G.mrk q hq;omega
   ·omega
  ·dsimp only
   by_cases hq:q<=(s.H.Objs.length:Int)
   ·exact (wO _ _ _).2 (.inl (G.bk q h1 hq))
   ·have:q=(s.H.Objs.length:Int)+1:=by omega
    subst this
    exact (wB _ (by omega) _).2 (.inr rfl)
theorem FG.det {p:zb}(hp:zB p) {nb k:Nat}{s:za}{gh:Gh}(G:FG p nb k s gh) (hd:({xB s with Epoch:=s.Epoch,Flag:=s.Flag,Done:=s.Done,Restarts:=s.Restarts,D:=s.D}:za)=s):FG p nb (k+1) (xB s) gh:=by
 have hE:=zD9 hp G.E
 have eM:(xB s).M=s.M:=by conv=>rhs;rw [<-hd]
 have eB:(xB s).Bins=s.Bins:=by conv=>rhs;rw [<-hd]
 have eT:(xB s).T=s.T:=by conv=>rhs;rw [<-hd]
 have eH:(xB s).H=s.H:=by conv=>rhs;rw [<-hd]
 have eW:(xB s).Ws=s.Ws:=by conv=>rhs;rw [<-hd]
 have eX:(xB s).Ms=s.Ms:=by conv=>rhs;rw [<-hd]
 refine ⟨hE,?_,?_,?_,?_,by rw [eT,eH];exact G.mrk,by rw [eW,eH];exact G.wob,by rw [eX,eH];exact G.buf,by rw [eT,eH];exact G.bk,by unfold yw;rw [eB];exact G.ne⟩
 ·rw [eW,eX];exact G.X.quiet hE.S eM
 ·rw [eW];exact fun i x hx=>(G.W i x hx).state eM eB
 ·rw [eX];exact fun i x hx=>(G.M i x hx).state eM eB
 ·have e:vS p (xB s) gh=vS p s gh:=by
   unfold vS
   rw [eW,eX,uL eB,xA (fun x _=>zb4 (x:=x) eM eB),xA (fun x _=>zf3 (x:=x) eB)]
  rw [e,eT];exact G.B
theorem FG.worker {p:zb}(hp:zB p) {nb k:Nat}{s:za}{gh:Gh}(hk:k<4294960000) (G:FG p nb k s gh) {w:Int}(hw:1<=w/\w<=p.Workers) (hd:s.Done=false):∃gh',FG p nb (k+1) (z9 s w) gh'/\ziW s (z9 s w) /\
  ∃x,s.Ws[(w-1).toNat]? =some x/\∃N C,List.Perm (vS p (z9 s w) gh'++C) (N++vS p s gh)/\((N=[]/\C=[]/\(zp s w x).1.T=s.T)\/(N=[x.G.Obj]/\C=[]/\x.PC=6/\¬(s.T.Marks|||bit x.G.Obj=s.T.Marks)/\(zp s w x).1.T={s.T with Marks:=s.T.Marks|||bit x.G.Obj})\/(N=[]/\C=[x.Obj]/\x.PC=8/\(zp s w x).1.T=wK s.T x.Obj)):=by
 have hE:=zrG hp G.E w
 have hwl:=G.E.wl
 have e0: ¬(s.Done=true\/w<1\/(s.Ws.length:Int)<w):=by rw [hd];rintro (e | e | e)<;>first | cases e | omega
 revert hE
 unfold z9
 rw [if_neg e0]
 have hi:(w-1).toNat<s.Ws.length:=by omega
 have hx:=zGN hi
 generalize s.Ws[(w-1).toNat]=x at hx
 rw [hx]
 dsimp only
 intro hE
 obtain ⟨a,b,el,es,hab,hba⟩:=zsh hx
 have ei:(((w-1).toNat:Nat):Int)+1=w:=by omega
 have hWX:=G.W _ x hx
 have hWO:=G.E.W _ x hx
 rw [ei] at hWX hWO
 have hfr:=znK (s:=s) hWO
 have eH:(zp s w x).1.H=s.H:=by rw [hfr]
 have eMs:(zp s w x).1.Ms=s.Ms:=by rw [hfr]
 have X0:SX p nb s gh (wb x++((a++b).flatMap wb++s.Ms.flatMap ui)) k:=by
  refine G.X.perm ?_
  rw [<-zGR]
  refine zIf _ ?_
  conv=>rhs;rw [el]
  exact Za.symm
 obtain ⟨gh',X',W',Fx,N,C,hN,hT⟩:=zD6 hp hk hw X0 hWO hWX (fun o i=>G.E.H.get hp o i)
 have hoth:∀(j:Nat) y,j≠(w-1).toNat->s.Ws[j]? =some y->WX p (zp s w x).1 gh' ((j:Int)+1) y/\zJ (zp s w x).1 y=zJ s y:=by
  intro j y hj hy
  have hjl:=(zGX.1 hy).1
  exact WX.other hp (w:=(j:Int)+1) (by omega) X0 Fx (G.W j y hy) (G.E.W j y hy) (fun z hz=>zG9 _ (zIe.2 ⟨y,hba j y hj hy,hz⟩)) (fun e=>hj (by omega))
 have hmut:∀(j:Nat) y,s.Ms[j]? =some y->MX p (zp s w x).1 gh' y/\zW (zp s w x).1 y=zW s y:=by
  intro j y hy
  exact MX.other hp X0 Fx (G.M j y hy) (G.E.X j y hy) (fun z hz=>zHp _ (zIe.2 ⟨y,zGT hy,hz⟩))
 have hbag:List.Perm (vS p {(zp s w x).1 with Ws:=s.Ws.set (w-1).toNat (zp s w x).2} gh'++C) (N++vS p s gh):=by
  unfold vS
  have q2:(s.Ws.set (w-1).toNat (zp s w x).2).flatMap (zJ {(zp s w x).1 with Ws:=s.Ws.set (w-1).toNat (zp s w x).2})=(a++(zp s w x).2::b).flatMap (zJ (zp s w x).1):=by
   rw [es];exact xA (fun y _=>zb4 rfl rfl)
  have q3:(a++b).flatMap (zJ (zp s w x).1)=(a++b).flatMap (zJ s):=xA (fun y hy=>by
   obtain ⟨j,hj,hjy⟩:=hab y hy
   exact (hoth j y hj hjy).2)
  have q4:(zp s w x).1.Ms.flatMap (zW {(zp s w x).1 with Ws:=s.Ws.set (w-1).toNat (zp s w x).2})=s.Ms.flatMap (zW s):=by
   rw [eMs]
   refine xA (fun y hy=>?_)
   obtain ⟨j,hj⟩:=List.mem_iff_getElem?.1 hy
   exact (zf3 (s:=(zp s w x).1) rfl).trans (hmut j y hj).2
  show List.Perm (yo p (zp s w x).1 gh'++((s.Ws.set (w-1).toNat (zp s w x).2).flatMap (zJ {(zp s w x).1 with Ws:=s.Ws.set (w-1).toNat (zp s w x).2})++(zp s w x).1.Ms.flatMap (zW {(zp s w x).1 with Ws:=s.Ws.set (w-1).toNat (zp s w x).2}))++C) _
  rw [q2,q4]
  have r1:List.Perm (yo p (zp s w x).1 gh'++((a++(zp s w x).2::b).flatMap (zJ (zp s w x).1)++s.Ms.flatMap (zW s))++C) (((a++b).flatMap (zJ s)++s.Ms.flatMap (zW s))++(yo p (zp s w x).1 gh'++zJ (zp s w x).1 (zp s w x).2++C)):=by
   refine ((zGY _ (zIf _ Za)).append_right C).trans ?_
   rw [q3]
   generalize (a++b).flatMap (zJ s)=u
   generalize s.Ms.flatMap (zW s)=v
   generalize yo p (zp s w x).1 gh'=y
   generalize zJ (zp s w x).1 (zp s w x).2=z
   have:List.Perm (y++(z++(u++v))++C) ((u++v)++(y++z++C)):=by
    generalize u++v=q
    rw [zGR,zGR,zGR]
    refine (zGY _ (zHc _ _ _)).trans ?_
    exact (zHc _ _ _)
   rw [zGR z u v]
   exact this
  have r2:List.Perm (N++(yo p s gh++(s.Ws.flatMap (zJ s)++s.Ms.flatMap (zW s)))) (((a++b).flatMap (zJ s)++s.Ms.flatMap (zW s))++(N++(yo p s gh++zJ s x))):=by
   conv=>lhs;rw [el]
   refine (zGY _ (zGY _ (zIf _ Za))).trans ?_
   generalize (a++b).flatMap (zJ s)=u
   generalize s.Ms.flatMap (zW s)=v
   generalize yo p s gh=y
   generalize zJ s x=z
   rw [zGR z u v]
   generalize u++v=q
   refine (zGY _ ?_).trans (zHc _ _ _)
   rw [<-zGR]
   exact zHw
  exact r1.trans ((zGY _ hN).trans r2.symm)
 have hFM:ziW s {(zp s w x).1 with Ws:=s.Ws.set (w-1).toNat (zp s w x).2}/\zaB (vS p {(zp s w x).1 with Ws:=s.Ws.set (w-1).toNat (zp s w x).2} gh') (zp s w x).1.T:=by
  rcases hT with ⟨e1,e2,t1⟩ | ⟨e1,e2,t1,t2,t3⟩ | ⟨e1,e2,t1,t2⟩
  ·rw [e1,e2,zGO,zGV] at hbag
   refine ⟨.inl ⟨t1,congrArg (fun h:zo=>h.Objs.length) eH⟩,⟨?_,hbag.nodup_iff.2 G.B.nd,fun o=>?_⟩⟩
   ·rw [t1];exact G.B.blk
   ·rw [t1,hbag.mem_iff];exact G.B.gr o
  ·have ho:=((hWX.p6 t1).1).ob
   rw [e1,e2,zGO] at hbag
   refine ⟨.inr (.inl ⟨x.G.Obj,⟨ho.1,G.wob _ x hx t1⟩,(zd4 ho).1 t2,t3,eH⟩),?_⟩
   rw [t3]
   exact G.B.more ho t2 hbag
  ·rw [e1,e2,zGV] at hbag
   obtain ⟨b1,b2,b3,b4⟩:=G.B.less hbag
   refine ⟨.inr (.inr (.inl ⟨x.Obj,b3,?_,eH⟩)),by rw [t2];exact b1⟩
   show (zp s w x).1.T=_
   rw [t2];unfold wK;rw [if_pos b3]
 obtain ⟨hFM,hB⟩:=hFM
 obtain ⟨t1,t2⟩:=G.tints hFM
 refine ⟨gh',⟨hE,?_,fun j y hy=>?_,fun j y hy=>?_,hB,t1,fun j y hy h6=>?_,fun y hy=>?_,t2,fun y hy=>show yw (zp s w x).1 y≠[] from FX.ne X0 Fx G.ne y hy⟩,hFM,x,rfl,N,C,hbag,hT⟩
 ·refine (X'.state hE.S rfl).perm ?_
  show List.Perm ((s.Ws.set (w-1).toNat (zp s w x).2).flatMap wb++(zp s w x).1.Ms.flatMap ui) _
  rw [es,eMs,<-zGR]
  exact zIf _ Za
 ·have hy:(s.Ws.set (w-1).toNat (zp s w x).2)[j]? =some y:=hy
  by_cases hj:j=(w-1).toNat
  ·subst hj
   rw [zIq hi] at hy
   injection hy with hy
   rw [<-hy,ei]
   exact W'.state rfl rfl
  ·rw [zHt (fun e=>hj e.symm)] at hy
   exact (hoth j y hj hy).1.state rfl rfl
 ·have hy:(zp s w x).1.Ms[j]? =some y:=hy
  rw [eMs] at hy
  exact (hmut j y hy).1.state rfl rfl
 ·have hy:(s.Ws.set (w-1).toNat (zp s w x).2)[j]? =some y:=hy
  show y.G.Obj<=((zp s w x).1.H.Objs.length:Int)
  rw [eH]
  by_cases hj:j=(w-1).toNat
  ·subst hj
   rw [zIq hi] at hy
   injection hy with hy
   rw [<-hy] at h6 ⊢
   rcases zxv s w x h6 with ⟨h,e⟩ | ⟨h,e⟩
   ·rw [e];exact G.wob _ x hx h
   ·rw [e];exact zxZ (by omega) (fun l hl v hv=>((G.E.H.objs l hl).2 v hv).2) _ _
  ·rw [zHt (fun e=>hj e.symm)] at hy
   exact G.wob j y hy h6
 ·have hy:y∈(zp s w x).1.Ms:=hy
  show zem ((zp s w x).1.H.Objs.length:Int) y
  rw [eMs] at hy
  rw [eH]
  exact G.buf y hy
theorem zxN (s:za) (m:Int) (x:zc):(zA s m x).1.H=s.H\/x.PC=23\/x.PC=30:=by
 refine vu (motive:=fun r=>r.1.H=s.H\/x.PC=23\/x.PC=30) s m x ?_ ?_ ?_ ?_ ?_ ?_ ?_ ?_ ?_ ?_ ?_ ?_ ?_ ?_ ?_ ?_ ?_ ?_ ?_ ?_
 all_goals first
  | exact fun _=>.inl rfl
  | exact fun c=>.inr (.inl c)
  | exact fun c=>.inr (.inr c)
  | (intro c;unfold mu3;exact .inl (by dsimp only;rw [WT]))
  | (intro c;unfold zhK;exact .inl (by dsimp only;rw [WT]))
  | exact .inl rfl
theorem zxf {t:zq}{n:Int}(hn:1<=n/\n<=64) (nm: ¬zX t.Marks n=true) (nb': ¬zX t.Black n=true):XT t n=⟨t.Marks|||bit n,t.Black|||bit n⟩:=by
 have ht1:wW {t with Marks:=t.Marks|||bit n} n=1:=(WS _ _).2 ⟨(wB _ hn _).2 (.inr rfl),nb'⟩
 unfold XT
 rw [zwg hn nm nb']
 dsimp only
 rw [if_pos rfl]
 unfold wK
 rw [if_pos ht1]
theorem zaB.fresh {B B':List Int}{t:zq}{n:Int}(hn:1<=n/\n<=64) (nm: ¬zX t.Marks n=true) (K:zaB B t) (h:List.Perm B' B):zaB B' ⟨t.Marks|||bit n,t.Black|||bit n⟩:=by
 refine ⟨fun o ho=>?_,h.nodup_iff.2 K.nd,fun o=>?_⟩
 ·rcases (wB _ hn o).1 ho with h | h
  ·exact (wB _ hn o).2 (.inl (K.blk o h))
  ·exact (wB _ hn o).2 (.inr h)
 ·rw [h.mem_iff,K.gr,WS,WS]
  dsimp only
  rw [wB _ hn,wB _ hn]
  constructor
  ·rintro ⟨a1,a2⟩
   refine ⟨.inl a1,fun e=>e.elim a2 (fun e=>?_)⟩
   rw [e] at a1;exact nm a1
  ·rintro ⟨a1,a2⟩
   exact ⟨a1.resolve_right (fun e=>a2 (.inr e)),fun e=>a2 (.inl e)⟩
theorem FG.mut_tint {p:zb}(hp:zB p) {nb k:Nat}{s:za}{gh:Gh}(G:FG p nb k s gh) {m:Int}{x:zc}(hMX:MX p s gh x) (hBI:zem (s.H.Objs.length:Int) x) {l:List zc}{N C B':List Int}
  (hbag:List.Perm (B'++C) (N++vS p s gh))
  (hT:(N=[]/\C=[]/\(zA s m x).1.T=s.T)\/(N=[x.G.Obj]/\C=[]/\(x.PC=3\/x.PC=37)/\¬(s.T.Marks|||bit x.G.Obj=s.T.Marks)/\(zA s m x).1.T={s.T with Marks:=s.T.Marks|||bit x.G.Obj})\/(N=[]/\C=[x.Obj]/\x.PC=38/\(zA s m x).1.T=wK s.T x.Obj) \/
   (N=[]/\C=[]/\x.PC=30/\Xy s.H s.P.Most=true/\(zA s m x).1.H=uk s.H/\(zA s m x).1.T=XT s.T (wc (s.H.Objs.length+1)))) :
  ziW s {(zA s m x).1 with Ms:=l}/\zaB B' (zA s m x).1.T:=by
 have hN0:=G.E.H.n
 have hM0:=hp.most
 have hn6:=hp.n
 have nm: ¬zX s.T.Marks ((s.H.Objs.length:Int)+1)=true:=fun e=>by have:=G.mrk _ e;omega
 have nb': ¬zX s.T.Black ((s.H.Objs.length:Int)+1)=true:=fun e=>nm (G.B.blk _ e)
 have hw:wc ((s.H.Objs.length:Int)+1)=(s.H.Objs.length:Int)+1:=xr (by omega) (by omega)
 rcases hT with ⟨e1,e2,t1⟩ | ⟨e1,e2,t1,t2,t3⟩ | ⟨e1,e2,t1,t2⟩ | ⟨e1,e2,t1,t2,t3,t4⟩
 ·rw [e1,e2,zGO,zGV] at hbag
  refine ⟨.inl ⟨t1,?_⟩,⟨?_,hbag.nodup_iff.2 G.B.nd,fun o=>?_⟩⟩
  ·show (zA s m x).1.H.Objs.length=_
   rcases zsw s m x with h | ⟨h1,h2,_,_,h5⟩
   ·exact h.1
   ·exfalso
    rw [t1,hw,zxf (by omega) nm nb'] at h2
    have h3:=congrArg zq.Marks h2
    exact nm (by rw [h3];exact (wB _ (by omega) _).2 (.inr rfl))
  ·rw [t1];exact G.B.blk
  ·rw [t1,hbag.mem_iff];exact G.B.gr o
 ·have ho:1<=x.G.Obj/\x.G.Obj<=64:=by
   rcases t1 with h | h
   ·exact (hMX.p3 h).1.ob
   ·exact (hMX.p37 h).1.ob
  rw [e1,e2,zGO] at hbag
  have eH:(zA s m x).1.H=s.H:=by
   rcases zxN s m x with h | h | h
   ·exact h
   ·omega
   ·omega
  refine ⟨.inr (.inl ⟨x.G.Obj,⟨ho.1,hBI.2.2 t1⟩,(zd4 ho).1 t2,t3,eH⟩),?_⟩
  rw [t3]
  exact G.B.more ho t2 hbag
 ·rw [e1,e2,zGV] at hbag
  obtain ⟨b1,b2,b3,b4⟩:=G.B.less hbag
  have eH:(zA s m x).1.H=s.H:=by
   rcases zxN s m x with h | h | h
   ·exact h
   ·omega
   ·omega
  refine ⟨.inr (.inr (.inl ⟨x.Obj,b3,?_,eH⟩)),by rw [t2];exact b1⟩
  show (zA s m x).1.T=_
  rw [t2];unfold wK;rw [if_pos b3]
 ·rw [e1,e2,zGO,zGV] at hbag
  have hr:(s.H.Objs.length:Int)<s.P.Most:=by
   unfold Xy at t2
   simp only [zGM,decide_eq_true_eq] at t2
   exact t2.1
  rw [G.E.S.P] at hr
  have hTT:(zA s m x).1.T=⟨s.T.Marks|||bit ((s.H.Objs.length:Int)+1),s.T.Black|||bit ((s.H.Objs.length:Int)+1)⟩:=by
   rw [t4,hw,zxf (by omega) nm nb']
  refine ⟨.inr (.inr (.inr ⟨t3,by omega,hTT⟩)),?_⟩
  rw [hTT]
  exact G.B.fresh (by omega) nm hbag
theorem FG.mutator {p:zb}(hp:zB p) {nb k:Nat}{s:za}{gh:Gh}(hk:k<4294960000) (G:FG p nb k s gh) {m:Int}(hm:1<=m/\m<=p.Mutators) (hd:s.Done=false):∃gh',FG p nb (k+1) (yu s m) gh'/\ziW s (yu s m) /\
  ∃x,s.Ms[(m-1).toNat]? =some x/\∃N C,List.Perm (vS p (yu s m) gh'++C) (N++vS p s gh)/\((N=[]/\C=[]/\(zA s m x).1.T=s.T)\/(N=[x.G.Obj]/\C=[]/\(x.PC=3\/x.PC=37)/\¬(s.T.Marks|||bit x.G.Obj=s.T.Marks)/\(zA s m x).1.T={s.T with Marks:=s.T.Marks|||bit x.G.Obj})\/(N=[]/\C=[x.Obj]/\x.PC=38/\(zA s m x).1.T=wK s.T x.Obj) \/
   (N=[]/\C=[]/\x.PC=30/\Xy s.H s.P.Most=true/\(zA s m x).1.H=uk s.H/\(zA s m x).1.T=XT s.T (wc (s.H.Objs.length+1)))):=by
 have hE:=zwa hp G.E m
 have hml:=G.E.ml
 have hwl:=G.E.wl
 have hN0:=G.E.H.n
 have hM0:=hp.most
 have hn6:=hp.n
 have e0: ¬(s.Done=true\/m<1\/(s.Ms.length:Int)<m):=by rw [hd];rintro (e | e | e)<;>first | cases e | omega
 revert hE
 unfold yu
 rw [if_neg e0]
 have hi:(m-1).toNat<s.Ms.length:=by omega
 have hx:=zGN hi
 generalize s.Ms[(m-1).toNat]=x at hx
 rw [hx]
 dsimp only
 intro hE
 obtain ⟨a,b,el,es,hab,hba⟩:=zsh hx
 have ei:(((m-1).toNat:Nat):Int)+1=m:=by omega
 have hMX:=G.M _ x hx
 have hXO:=G.E.X _ x hx
 rw [ei] at hXO
 have hBI:=G.buf x (zGT hx)
 have hfr:=zv9 s m x
 have eWs:(zA s m x).1.Ws=s.Ws:=by rw [hfr]
 have X0:SX p nb s gh (ui x++((a++b).flatMap ui++s.Ws.flatMap wb)) k:=by
  refine G.X.perm ?_
  rw [<-zGR]
  refine List.Perm.trans (zIf _ ?_) zHw
  conv=>rhs;rw [el]
  exact Za.symm
 obtain ⟨gh',X',M',Fx,N,C,hN,hT⟩:=zF3 hp hk X0 hXO hMX (zt9 hp m) (fun o i=>G.E.H.get hp o i)
 have hoth:∀(j:Nat) y,j≠(m-1).toNat->s.Ms[j]? =some y->MX p (zA s m x).1 gh' y/\zW (zA s m x).1 y=zW s y:=by
  intro j y hj hy
  exact MX.other hp X0 Fx (G.M j y hy) (G.E.X j y hy) (fun z hz=>zG9 _ (zIe.2 ⟨y,hba j y hj hy,hz⟩))
 have hwrk:∀(j:Nat) y,s.Ws[j]? =some y->WX p (zA s m x).1 gh' ((j:Int)+1) y/\zJ (zA s m x).1 y=zJ s y:=by
  intro j y hy
  have hjl:=(zGX.1 hy).1
  exact WX.other hp (w:=(j:Int)+1) (by omega) X0 Fx (G.W j y hy) (G.E.W j y hy) (fun z hz=>zHp _ (zIe.2 ⟨y,zGT hy,hz⟩)) (fun e=>e)
 have hbag:List.Perm (vS p {(zA s m x).1 with Ms:=s.Ms.set (m-1).toNat (zA s m x).2} gh'++C) (N++vS p s gh):=by
  unfold vS
  have q2:(s.Ms.set (m-1).toNat (zA s m x).2).flatMap (zW {(zA s m x).1 with Ms:=s.Ms.set (m-1).toNat (zA s m x).2})=(a++(zA s m x).2::b).flatMap (zW (zA s m x).1):=by
   rw [es];exact xA (fun y _=>zf3 rfl)
  have q3:(a++b).flatMap (zW (zA s m x).1)=(a++b).flatMap (zW s):=xA (fun y hy=>by
   obtain ⟨j,hj,hjy⟩:=hab y hy
   exact (hoth j y hj hjy).2)
  have q4:(zA s m x).1.Ws.flatMap (zJ {(zA s m x).1 with Ms:=s.Ms.set (m-1).toNat (zA s m x).2})=s.Ws.flatMap (zJ s):=by
   rw [eWs]
   refine xA (fun y hy=>?_)
   obtain ⟨j,hj⟩:=List.mem_iff_getElem?.1 hy
   exact (zb4 (s:=(zA s m x).1) rfl rfl).trans (hwrk j y hj).2
  show List.Perm (yo p (zA s m x).1 gh'++((zA s m x).1.Ws.flatMap (zJ {(zA s m x).1 with Ms:=s.Ms.set (m-1).toNat (zA s m x).2})++(s.Ms.set (m-1).toNat (zA s m x).2).flatMap (zW {(zA s m x).1 with Ms:=s.Ms.set (m-1).toNat (zA s m x).2}))++C) _
  rw [q2,q4]
  have r1:List.Perm (yo p (zA s m x).1 gh'++(s.Ws.flatMap (zJ s)++(a++(zA s m x).2::b).flatMap (zW (zA s m x).1))++C) ((s.Ws.flatMap (zJ s)++(a++b).flatMap (zW s))++(yo p (zA s m x).1 gh'++zW (zA s m x).1 (zA s m x).2++C)):=by
   refine ((zGY _ (zGY _ Za)).append_right C).trans ?_
   rw [q3]
   generalize (a++b).flatMap (zW s)=u
   generalize s.Ws.flatMap (zJ s)=v
   generalize yo p (zA s m x).1 gh'=y
   generalize zW (zA s m x).1 (zA s m x).2=z
   refine ((zGY y (zHc v z u)).append_right C).trans ?_
   generalize v++u=q
   rw [zGR,zGR,zGR]
   refine (zGY _ (zHc _ _ _)).trans ?_
   exact (zHc _ _ _)
  have r2:List.Perm (N++(yo p s gh++(s.Ws.flatMap (zJ s)++s.Ms.flatMap (zW s)))) ((s.Ws.flatMap (zJ s)++(a++b).flatMap (zW s))++(N++(yo p s gh++zW s x))):=by
   conv=>lhs;rw [el]
   refine (zGY _ (zGY _ (zGY _ Za))).trans ?_
   generalize (a++b).flatMap (zW s)=u
   generalize s.Ws.flatMap (zJ s)=v
   generalize yo p s gh=y
   generalize zW s x=z
   refine (zGY N (zGY y (zHc v z u))).trans ?_
   generalize v++u=q
   refine (zGY _ ?_).trans (zHc _ _ _)
   rw [<-zGR]
   exact zHw
  exact r1.trans ((zGY _ hN).trans r2.symm)
 have hlen:(zA s m x).1.H.Objs.length=s.H.Objs.length\/(zA s m x).1.H=uk s.H:=by
  rcases zsw s m x with h | h
  ·exact .inl h.1
  ·exact .inr h.1
 have hFM:=G.mut_tint hp (m:=m) (l:=s.Ms.set (m-1).toNat (zA s m x).2) hMX hBI hbag hT
 obtain ⟨hFM,hB⟩:=hFM
 obtain ⟨t1,t2⟩:=G.tints hFM
 have hN1:(s.H.Objs.length:Int)<=((zA s m x).1.H.Objs.length:Int):=by
  rcases hlen with h | h
  ·omega
  ·rw [h,zgo];omega
 have B':=zvW (s:=s) hXO (n:=(s.H.Objs.length:Int)) (by omega) (fun l hl v hv=>((G.E.H.objs l hl).2 v hv).2) hBI
 refine ⟨gh',⟨hE,?_,fun j y hy=>?_,fun j y hy=>?_,hB,t1,fun j y hy h6=>?_,fun y hy=>?_,t2,fun y hy=>show yw (zA s m x).1 y≠[] from FX.ne X0 Fx G.ne y hy⟩,hFM,x,rfl,N,C,hbag,hT⟩
 ·refine (X'.state hE.S rfl).perm ?_
  show List.Perm ((zA s m x).1.Ws.flatMap wb++(s.Ms.set (m-1).toNat (zA s m x).2).flatMap ui) _
  rw [es,eWs,<-zGR]
  exact zHw.trans (zIf _ Za)
 ·have hy:(zA s m x).1.Ws[j]? =some y:=hy
  rw [eWs] at hy
  exact (hwrk j y hy).1.state rfl rfl
 ·have hy:(s.Ms.set (m-1).toNat (zA s m x).2)[j]? =some y:=hy
  by_cases hj:j=(m-1).toNat
  ·subst hj
   rw [zIq hi] at hy
   injection hy with hy
   rw [<-hy]
   exact M'.state rfl rfl
  ·rw [zHt (fun e=>hj e.symm)] at hy
   exact (hoth j y hj hy).1.state rfl rfl
 ·have hy:(zA s m x).1.Ws[j]? =some y:=hy
  rw [eWs] at hy
  have:=G.wob j y hy h6
  show y.G.Obj<=((zA s m x).1.H.Objs.length:Int)
  omega
 ·have up:∀ {z:zc},zem (s.H.Objs.length:Int) z->zem ((zA s m x).1.H.Objs.length:Int) z:=fun ⟨a,b,c⟩=>⟨fun v hv=>by have:=a v hv;omega,by omega,fun e=>by have:=c e;omega⟩
  rcases zHB (show y∈s.Ms.set (m-1).toNat (zA s m x).2 from hy) with h | rfl
  ·exact up (G.buf y h)
  ·exact up B'
theorem zFw {p:zb}(h:zB p):FG p (zR p+1) 0 (yv p) (gh0 p):=by
 have G:=zFC h
 have hn:=h.n
 have hms:∀x∈(yv p).Ms,∃r,x=vh r:=fun x hx=>by
  obtain ⟨r,_,e⟩:=zG2.1 (show x∈p.Regs.map vh from hx)
  exact ⟨r,e.symm⟩
 have own:(yv p).Ms.flatMap ui=[]:=zaI (fun x hx=>by
  obtain ⟨r,rfl⟩:=hms x hx
  exact vC ⟨by show (0:Int)≠3;decide,by show (0:Int)≠33;decide,by show (0:Int)≠34;decide,by show (0:Int)≠37;decide⟩)
 have hold:(yv p).Ms.flatMap (zW (yv p))=[]:=zaI (fun x hx=>by
  obtain ⟨r,rfl⟩:=hms x hx
  unfold zW
  rw [uu ⟨by show (0:Int)≠3;decide,by show (0:Int)≠33;decide,by show (0:Int)≠36;decide,by show (0:Int)≠37;decide,by show (0:Int)≠38;decide⟩];rfl)
 refine ⟨G.E,by rw [own,zGO];exact G.X,G.W,fun i x hx=>?_,?_,fun o ho=>?_,fun i x hx h6=>?_,fun x hx=>?_,fun o h1 h2=>?_,zFD h⟩
 ·obtain ⟨r,rfl⟩:=hms x (zGT hx)
  exact MX.plain ⟨by show (0:Int)≠3;decide,by show (0:Int)≠32;decide,by show (0:Int)≠34;decide,by show (0:Int)≠37;decide⟩ (fun _=>rfl) (fun v hv=>by cases hv)
   ⟨fun e=>absurd e (by show ¬(0:Int)=21;decide),fun e=>absurd e (by show ¬((0:Int)=22\/(((0:Int)=1\/(0:Int)=3)/\(0:Int)=22));decide)⟩
 ·have e:vS p (yv p) (gh0 p)=zqa p (yv p) (gh0 p):=by unfold vS zqa;rw [hold,zGO]
  rw [e];exact G.B
 ·have ho:zX (Zk p) o=true:=ho
  show o<=(p.H.Objs.length:Int)
  refine Int.not_lt.1 fun hlt=>?_
  obtain ⟨a,b,_⟩:=(xm _ _).1 ho
  have b2: ¬zX (wG (p.H.Objs.length:Int)) o=true:=fun e=>by
   have:=(zer (n:=p.H.Objs.length) (by omega) o).1 e
   omega
  have b3:=(Vt _ _ o).2 ⟨ho,(zfe _ (by omega)).2 b2⟩
  rw [zmk h] at b3
  exact YC o b3
 ·obtain ⟨j,_,e⟩:=zG2.1 (show x∈(List.range p.Workers.toNat).map (uw p) from zGT hx)
  rw [<-e] at h6
  exact absurd h6 (by show ¬(0:Int)=6;decide)
 ·obtain ⟨r,rfl⟩:=hms x hx
  exact ⟨fun v hv=>(by cases hv),(by show (0:Int)<=(p.H.Objs.length:Int);omega),fun e=>absurd e (by show ¬((0:Int)=3\/(0:Int)=37);decide)⟩
 ·have:o<=(p.H.Objs.length:Int):=h2
  omega
theorem FG.grey {p:zb}{nb k:Nat}{s:za}{gh:Gh}(G:FG p nb k s gh) {o:Int}(h:o∈vS p s gh):wW s.T o=1:=(G.B.gr o).1 h
theorem zE8 {p:zb}{s:za}{gh:Gh}{i:Nat}{x:zh}(hx:s.Ws[i]? =some x) {o:Int}(h:o∈zJ s x):o∈vS p s gh :=
 zHp _ (zG9 _ (zIe.2 ⟨x,zGT hx,h⟩))
theorem zFv {p:zb}{s:za}{gh:Gh}{i:Nat}{x:zc}(hx:s.Ms[i]? =some x) {o:Int}(h:o∈zW s x):o∈vS p s gh :=
 zHp _ (zHp _ (zIe.2 ⟨x,zGT hx,h⟩))
end
end Go.Pe.G
namespace Go.Pe.G
open Go.Pe
noncomputable section
theorem zaR {l:List Int}(h:l.length<4294967296):yA l=some (ud l,()):=by
 rw [zwM,zv4 h];rfl
theorem zoj (g:zu) (h:1<=g.Obj):∃v,u0 g=some (v,())/\zdx [v]=some (ym g,()):=by
 rw [ztw,zjM]
 simp only [zj]
 have z:zdx [0]=some ([],()):=by rw [zyx];rfl
 unfold ym
 by_cases c1:g.Out=0
 ·rw [if_pos c1]
  by_cases c2:3<=g.PC
  ·rw [if_pos c2]
   by_cases c3:g.PC<=7
   ·rw [if_pos c3,if_pos ⟨c1,c2,c3⟩]
    refine ⟨g.Obj,rfl,?_⟩
    rw [zyx]
    unfold zsW
    have:decide (g.Obj=0)=false:=decide_eq_false (by omega)
    simp [this]
   ·rw [if_neg c3,if_neg (fun e=>c3 e.2.2)];exact ⟨0,rfl,z⟩
  ·rw [if_neg c2,if_neg (fun e=>c2 e.2.1)];exact ⟨0,rfl,z⟩
 ·rw [if_neg c1,if_neg (fun e=>c1 e.1)];exact ⟨0,rfl,z⟩
theorem zDk {m:List (BitVec 64)}{p:zb}(hc:p.Cap<1000) (w:Int) (o:zd) {l:List Int}(hl:l.length<4000000) :
  ((yU p w).bind fun y5=>(xS m y5.1 p.Cap o).bind fun y6=>(yf (l++y6.1)).bind fun l7=>(yA l7).bind fun y8=>some (y8.1,()))=some (ud (l++XW m (zI p w) p.Cap o),()):=by
 have hi:=zB5 m (zI p w) p.Cap o
 rw [U0,zGL,zzp hc,zGL,yq (by simp;omega),zGL,zaR (by simp;omega)];rfl
theorem zB4 {p:zb}(h:zB p) {s:za}(hP:s.P=p) {w:Int}{t c:Nat}{l:List Int}{d:zd}(K:PK p s.M w t l c d):zhI s w d=some (ZN s.M d,()):=by
 have hc:=h.cap
 rw [zr4,hP]
 unfold ZN
 by_cases c3:d.PC=3
 ·rw [decide_eq_true c3,cond_true,yx]
  by_cases ct:d.T=d.B-1#64
  ·rw [if_pos ct,if_neg (fun e=>e.2 ct),zj,if_neg (show ¬d.PC=6 by omega),if_neg (show ¬d.PC=6 by omega)]
  ·rw [if_neg ct,if_pos ⟨c3,ct⟩,U0,zGL,zj,if_neg ?_]
   ·obtain ⟨b,e⟩:=zvc s.M (w64 ((w64 (zI p w+2))+(((d.B-1#64)%(BitVec.ofInt 64 p.Cap)).toInt))) 0#64 0#64
    have ea:w64 ((w64 (zI p w+2))+(((d.B-1#64)%(BitVec.ofInt 64 p.Cap)).toInt))=YN d (d.B-1#64):=by
     unfold YN uc
     rw [K.base,K.size,if_neg (by omega),xi]
    dsimp only
    rw [e,ea];rfl
   ·have hx:p.Cap=1\/p.Cap=2\/p.Cap=3:=by omega
    rcases hx with e | e | e<;>rw [e]<;>decide
 ·rw [decide_eq_false c3,cond_false,zj,if_neg (show ¬(d.PC=3/\d.T≠d.B-1#64) from fun e=>c3 e.1)]
  by_cases c6:d.PC=6
  ·rw [if_pos c6,if_pos c6]
  ·rw [if_neg c6,if_neg c6]
theorem zuW {p:zb}{nb k:Nat}{s:za}{gh:Gh}(G:FG p nb k s gh) {b:Int}(h:1<=b/\b<nb):idx s.Bins b=some (yw s b)/\(yw s b).length<1000000:=by
 have hl:=G.E.S.bins
 have hb:=zGN (show b.toNat<s.Bins.length by omega)
 have hm:=zHi (show b.toNat<s.Bins.length by omega)
 unfold yw
 rw [w8 (by omega),hb]
 exact ⟨rfl,G.E.small.bin _ hm⟩
theorem zrA {p:zb}(h:zB p) {nb k:Nat}{s:za}{gh:Gh}(G:FG p nb k s gh) {i:Nat}{x:zh}(hx:s.Ws[i]? =some x):u9 s ((i:Int)+1)=some (ud (zJ s x++gh.D ((i:Int)+1)),()):=by
 have hil:=(zGX.1 hx).1
 have hwl:=G.E.wl
 have hwk:=h.wk
 have hP:=G.E.S.P
 have hcap:=h.cap
 have W:=G.W i x hx
 have O:=G.E.W i x hx
 have hw:1<=(i:Int)+1/\(i:Int)+1<=p.Workers:=by omega
 have D:=G.X.D _ hw.1 hw.2
 have hb:=G.E.small.w x (zGT hx)
 have e1:w64 ((i:Int)+1-1)=(i:Int):=by rw [zV (by omega) (by omega)];omega
 have none0:XW s.M (zI p ((i:Int)+1)) p.Cap (zd.mk 0 0 0 0 0#64 0#64 0 0)=gh.D ((i:Int)+1)\/x.PC=0:=by
  by_cases p0:x.PC=0
  ·exact .inr p0
  ·refine .inl (zoI h hw (by have:=W.c0 p0;rw [this] at D;exact D) (fun e=>absurd e.1 (by show ¬(0:Int)=2;decide)))
 rw [zjx,zj,if_neg (by omega),zj,if_neg (by omega),e1,xu hx,zGL,XH (by omega),zGL,hP]
 generalize hwi:(i:Int)+1=w at *
 unfold zJ UK
 have hpc:=O.pc
 have cases10:x.PC=0\/x.PC=1\/x.PC=2\/x.PC=3\/x.PC=4\/x.PC=5\/x.PC=6\/x.PC=7\/x.PC=8\/x.PC=9:=by omega
 have fin:∀ {l:List Int}(o:zd),l.length<4000000->XW s.M (zI p w) p.Cap o=gh.D w->((yU p w).bind fun y5=>(xS s.M y5.1 p.Cap o).bind fun y6=>(yf (l++y6.1)).bind fun l7=>(yA l7).bind fun y8=>some (y8.1,()))=some (ud (l++gh.D w),()):=fun o hl e=>by
  rw [zDk (by omega) w o hl,e]
 rcases cases10 with c | c | c | c | c | c | c | c | c | c
 all_goals simp only [c,Int.reduceEq,decide_true,decide_false,cond_true,cond_false,if_true,if_false,or_true,or_false,true_or,false_or]
 ·have K:=W.p0 c
  have hpl:(ZN s.M x.D).length<=1:=by
   unfold ZN
   split
   ·simp
   ·split<;>simp
  rw [zB4 h hP K,zGL,yq (by simp;omega),zGL]
  exact fin _ (by simp;omega) (zCC h hw D K)
 ·rw [zGO];exact fin _ (by omega) (none0.resolve_right (by omega))
 ·rw [zGO];exact fin _ (by omega) (none0.resolve_right (by omega))
 ·obtain ⟨b1,b2⟩:=zuW G (O.b3 c)
  rw [b1,zGL,yq (by simp;omega),zGL]
  exact fin _ (by simp;omega) (none0.resolve_right (by omega))
 ·rw [zGO];exact fin _ (by omega) (none0.resolve_right (by omega))
 ·rw [yq (by simp;omega),zGL]
  exact fin _ (by simp;omega) (none0.resolve_right (by omega))
 ·obtain ⟨g1,g2,g3,g4⟩:=W.p6 c
  have hob:=g1.ob
  obtain ⟨v,v1,v2⟩:=zoj x.G hob.1
  have hhl:(ym x.G).length<=1:=by unfold ym;split<;>simp
  rw [yq (by simp;omega),zGL,v1,zGL]
  dsimp only
  rw [v2,zGL,yq (by simp;omega),zGL]
  have ea:x.Batch++x.Obj::ym x.G=x.Batch++[x.Obj]++ym x.G:=by simp
  rw [ea,zj]
  by_cases g3':x.G.PC=3
  ·rw [if_pos g3']
   have:=(g1.d3 g3' g4).2.2.kind
   exact fin _ (by simp;omega) (zoI h hw (by have:=W.c0 (by omega);rw [this] at D;exact D) (fun e=>by have:=e.1;omega))
  ·rw [if_neg g3']
   exact fin _ (by simp;omega) (none0.resolve_right (by omega))
 ·rw [zGO];exact fin _ (by omega) (none0.resolve_right (by omega))
 ·rw [yq (by simp;omega),zGL]
  exact fin _ (by simp;omega) (none0.resolve_right (by omega))
 ·rw [zGO];exact fin _ (by omega) (none0.resolve_right (by omega))
theorem zpy {p:zb}(h:zB p) {nb k:Nat}{s:za}{gh:Gh}(G:FG p nb k s gh) {i:Nat}{x:zc}(hx:s.Ms[i]? =some x):XL s ((i:Int)+1)=some (ud (zW s x),()):=by
 have hil:=(zGX.1 hx).1
 have hml:=G.E.ml
 have hmt:=h.mt
 have W:=G.M i x hx
 have O:=G.E.X i x hx
 have hb:=(G.E.small.mu x (zGT hx)).2.2
 have e1:w64 ((i:Int)+1-1)=(i:Int):=by rw [zV (by omega) (by omega)];omega
 have hhl:(ym x.G).length<=1:=by unfold ym;split<;>simp
 rw [zrf,zj,if_neg (by omega),zj,if_neg (by omega),e1,xu hx,zGL,XH (by omega),zGL]
 unfold zW zbE
 have nog:x.PC≠3/\x.PC≠37->uj x=some (false,()):=fun e=>by rw [zef,decide_eq_false e.1,decide_eq_false e.2];rfl
 have ysg:x.PC=3\/x.PC=37->uj x=some (true,()):=fun e=>by
  rw [zef]
  by_cases c:x.PC=3
  ·rw [decide_eq_true c];rfl
  ·rw [decide_eq_false c,decide_eq_true (e.resolve_left c)];rfl
 by_cases c33:x.PC=33
 ·obtain ⟨b1,b2⟩:=zuW G (O.b33 c33)
  have h36: ¬(36:Int)<=x.PC:=by omega
  rw [decide_eq_true c33,cond_true,b1,zGL,yq (by simp;omega),zGL,decide_eq_false h36,cond_false,nog (by omega),zGL,cond_false,zaR (by simp;omega),if_pos c33];rfl
 rw [decide_eq_false c33,cond_false,if_neg c33]
 by_cases c3:x.PC=3
 ·obtain ⟨v,v1,v2⟩:=zoj x.G (W.p3 c3).1.ob.1
  have h36: ¬(36:Int)<=x.PC:=by omega
  rw [decide_eq_false h36,cond_false,ysg (.inl c3),zGL,cond_true,v1,zGL]
  dsimp only
  rw [v2,zGL,yq (by simp;omega),zGL,zaR (by simp;omega),if_neg (by omega),if_neg (by omega),if_pos c3];rfl
 by_cases c36:36<=x.PC/\x.PC<=38
 ·rw [decide_eq_true c36.1,cond_true,decide_eq_true c36.2,cond_true,yq (by simp;omega),zGL]
  by_cases c37:x.PC=37
  ·obtain ⟨v,v1,v2⟩:=zoj x.G (W.p37 c37).1.ob.1
   rw [ysg (.inr c37),zGL,cond_true,v1,zGL]
   dsimp only
   rw [v2,zGL,yq (by simp;omega),zGL,zaR (by simp;omega),if_neg (by omega),if_pos c37]
   have ea:x.Batch++x.Obj::ym x.G=x.Batch++[x.Obj]++ym x.G:=by simp
   rw [ea];rfl
  ·rw [nog ⟨c3,c37⟩,zGL,cond_false,zaR (by simp;omega),if_pos (by omega)];rfl
 ·rw [if_neg (by omega),if_neg (by omega),if_neg c3,zGO]
  by_cases h36:36<=x.PC
  ·have h38: ¬x.PC<=38:=fun e=>c36 ⟨h36,e⟩
   rw [decide_eq_true h36,cond_true,decide_eq_false h38,cond_false,nog (by omega),zGL,cond_false,zaR (show x.Batch.length<4294967296 by omega)];rfl
  ·rw [decide_eq_false h36,cond_false,nog (by omega),zGL,cond_false,zaR (show x.Batch.length<4294967296 by omega)];rfl
end
end Go.Pe.G
namespace Go.Pe.G
open Go.Pe
noncomputable section
def owG (g:zu):Int:=if g.Out=0/\(g.PC=1\/g.PC=2) then 1 else 0
def owW (x:zh):Int:=if x.PC=9 then 1 else if x.PC=6 then owG x.G else 0
def owX (x:zc):Int:=if x.PC=39 then 1 else if x.PC=3\/x.PC=37 then owG x.G else 0
theorem zBR (g:zu):0<=owG g/\owG g<=1:=by unfold owG;split<;>decide
theorem zxC (x:zh):0<=owW x/\owW x<=1:=by
 unfold owW
 split
 ·decide
 split
 ·exact zBR _
 ·decide
theorem zy0 (x:zc):0<=owX x/\owX x<=1:=by
 unfold owX
 split
 ·decide
 split
 ·exact zBR _
 ·decide
theorem Yb {g:zu}(h:g.Out≠0\/(g.PC≠1/\g.PC≠2)):owG g=0:=by unfold owG;rw [if_neg (by omega)]
theorem ztg {g:zu}(h:g.Out=0) (h2:g.PC=1\/g.PC=2):owG g=1:=by unfold owG;rw [if_pos ⟨h,h2⟩]
theorem zCb (t:zq) (o:Int):((vw t o).2=false/\(vw t o).1=t)\/((vw t o).2=true/\¬(t.Marks|||bit o=t.Marks)/\(vw t o).1={t with Marks:=t.Marks|||bit o}):=by
 unfold vw
 split
 ·exact .inl ⟨rfl,rfl⟩
 split
 ·rename_i h _;exact .inr ⟨rfl,h,rfl⟩
 ·exact .inl ⟨rfl,rfl⟩
theorem zvY {p:zb}{s:za}{gh:Gh}{g:zu}(G:GX p s gh g) (g0:g.Out=0) (hw:0<=s.Work/\s.Work<=4294970000) :
  ((zx s g).1.T=s.T/\(zx s g).1.Work=s.Work+owG (zx s g).2-owG g) \/
  (¬(s.T.Marks|||bit g.Obj=s.T.Marks)/\(zx s g).1.T={s.T with Marks:=s.T.Marks|||bit g.Obj}/\(zx s g).1.Work=s.Work+owG (zx s g).2-owG g+1):=by
 have hpc:=G.pc
 have hmd:=G.md
 unfold zx
 rw [if_neg (by omega)]
 by_cases c7:g.PC=7
 ·rw [if_pos c7]
  unfold zcK;dsimp only
  left;refine ⟨rfl,?_⟩
  rw [Yb (g:=g) (by omega),Yb (by split<;>(dsimp only;omega))];omega
 rw [if_neg c7]
 by_cases c6:g.PC=6
 ·rw [if_pos c6]
  left;refine ⟨rfl,?_⟩
  rw [Yb (g:=g) (by omega),Yb (by show _\/((7:Int)≠1/\(7:Int)≠2);omega)]
  show s.Work=_;omega
 rw [if_neg c6]
 by_cases c5:g.PC=5
 ·rw [if_pos c5]
  unfold zlD zhS;dsimp only
  left;refine ⟨rfl,?_⟩
  rw [Yb (g:=g) (by omega),Yb (by (repeat' split)<;>(dsimp only;omega))];omega
 rw [if_neg c5]
 by_cases c4:g.PC=4
 ·rw [if_pos c4]
  left;refine ⟨rfl,?_⟩
  rw [Yb (g:=g) (by omega),Yb (by show _\/((5:Int)≠1/\(5:Int)≠2);omega)]
  show s.Work=_;omega
 rw [if_neg c4]
 by_cases c3:g.PC=3
 ·rw [if_pos c3]
  unfold zll zhS;dsimp only
  left;refine ⟨rfl,?_⟩
  rw [Yb (g:=g) (by omega),Yb (by (repeat' split)<;>(dsimp only;omega))];omega
 rw [if_neg c3]
 by_cases c2:g.PC=2
 ·rw [if_pos c2]
  left;refine ⟨rfl,?_⟩
  rw [ztg g0 (.inr c2),Yb (by show (1:Int)≠0\/_;omega)]
  show wc (s.Work-1)=_
  rw [xr (by omega) (by omega)];omega
 rw [if_neg c2]
 by_cases c1:g.PC=1
 ·rw [if_pos c1]
  unfold zlL;dsimp only
  rw [ztg g0 (.inl c1)]
  rcases zCb s.T g.Obj with ⟨a,b⟩ | ⟨a,b,c⟩
  ·left
   refine ⟨b,?_⟩
   rw [if_pos a,ztg (by dsimp only;exact g0) (.inr rfl)];omega
  ·right
   refine ⟨b,c,?_⟩
   rw [if_neg (by rw [a];decide)]
   unfold zhS
   rw [Yb (by (repeat' split)<;>(dsimp only;omega))];omega
 rw [if_neg c1]
 left;refine ⟨rfl,?_⟩
 rw [Yb (g:=g) (by omega),ztg (by dsimp only;exact g0) (.inl rfl)]
 show wc (s.Work+1)=_
 rw [xr (by omega) (by omega)];omega
theorem zoF {t:zq}{o:Int}(h:wW t o=1):wK t o≠t:=by
 have hb:=(WS t o).1 h
 have hr:=ziy h
 unfold wK
 rw [if_pos h]
 intro e
 have e:=congrArg zq.Black e
 exact hb.2 (by rw [<-e];exact (wB _ hr o).2 (.inr rfl))
theorem zeq {t:zq}{o:Int}(h: ¬(t.Marks|||bit o=t.Marks)):({t with Marks:=t.Marks|||bit o}:zq)≠t:=fun e=>h (congrArg zq.Marks e)
theorem zCp {p:zb}{nb:Nat}{s:za}{gh:Gh}{w:Int}{x:zh}(W:WX p s gh w x) (O:WOk p nb w x) (hw:0<=s.Work/\s.Work<=4294970000) (h8:x.PC=8->wW s.T x.Obj=1) {N C:List Int}
  (hT:(N=[]/\C=[]/\(zp s w x).1.T=s.T)\/(N=[x.G.Obj]/\C=[]/\x.PC=6/\¬(s.T.Marks|||bit x.G.Obj=s.T.Marks)/\(zp s w x).1.T={s.T with Marks:=s.T.Marks|||bit x.G.Obj})\/(N=[]/\C=[x.Obj]/\x.PC=8/\(zp s w x).1.T=wK s.T x.Obj)) :
  (zp s w x).1.Work=s.Work+owW (zp s w x).2-owW x+(N.length:Int)-(C.length:Int):=by
 have hpc:=O.pc
 revert hT
 have ob:∀y:zh,owW (V8 s.P w y)=0:=fun y=>rfl
 have ol:∀y:zh,owW (Yo s.P w y)=0:=fun y=>by unfold Yo;split<;>rfl
 have quiet:∀ {t:za}{y:zh},(N=[]/\C=[]/\t.T=s.T)\/(N=[x.G.Obj]/\C=[]/\x.PC=6/\¬(s.T.Marks|||bit x.G.Obj=s.T.Marks)/\t.T={s.T with Marks:=s.T.Marks|||bit x.G.Obj})\/(N=[]/\C=[x.Obj]/\x.PC=8/\t.T=wK s.T x.Obj) ->
   x.PC≠6->x.PC≠8->t.Work=s.Work+owW y-owW x->t.Work=s.Work+owW y-owW x+(N.length:Int)-(C.length:Int):=by
  rintro t y (⟨e1,e2,_⟩ | ⟨_,_,e,_⟩ | ⟨_,_,e,_⟩) h1 h2 h
  ·rw [e1,e2];simp only [zHD];omega
  ·omega
  ·omega
 have o0:x.PC≠9->x.PC≠6->owW x=0:=fun h1 h2=>by unfold owW;rw [if_neg h1,if_neg h2]
 unfold zp
 split
 ·rename_i c
  intro hT
  refine quiet hT (by omega) (by omega) ?_
  rw [o0 (by omega) (by omega)]
  show s.Work=_
  dsimp only
  split
  ·show s.Work=s.Work+0-0;omega
  split
  ·rw [ol];omega
  ·rw [show owW {x with D:=(zT s.M x.D).2}=owW x from rfl,o0 (by omega) (by omega)];omega
 split
 ·intro hT
  refine quiet hT (by omega) (by omega) ?_
  rw [o0 (by omega) (by omega)]
  show s.Work=_
  dsimp only
  split
  ·rw [show ∀b c,owW {x with C:=c,Bin:=b,PC:=3}=0 from fun _ _=>rfl];omega
  split
  ·rw [ob];omega
  ·rw [show owW {x with C:=(zn s.M x.C).2}=owW x from rfl,o0 (by omega) (by omega)];omega
 split
 ·intro hT
  refine quiet hT (by omega) (by omega) ?_
  rw [o0 (by omega) (by omega)]
  show s.Work=s.Work+0-0;omega
 split
 ·intro hT
  refine quiet hT (by omega) (by omega) ?_
  rw [o0 (by omega) (by omega)]
  show s.Work=_
  dsimp only
  split
  ·rw [show ∀c,owW {x with PC:=7,C:=c,Bin:=0}=0 from fun _=>rfl];omega
  ·rw [show owW {x with C:=(zn s.M x.C).2}=owW x from rfl,o0 (by omega) (by omega)];omega
 split
 ·intro hT
  refine quiet hT (by omega) (by omega) ?_
  rw [o0 (by omega) (by omega)]
  dsimp only
  split
  ·have:∀y,owW {x with Slot:=y,PC:=onW s y}=0:=fun y=>by
    unfold owW
    rcases zjK s y with e | e<;>rw [if_neg (by dsimp only;omega),if_neg (by dsimp only;omega)]
   rw [this];omega
  ·rw [show ∀y v,owW {x with Slot:=y,PC:=6,G:=ZM 1 v w}=0 from fun _ _=>rfl];omega
 split
 ·rename_i c
  intro hT
  obtain ⟨G,gm,gw,g0⟩:=W.p6 c
  have e1:owW x=owG x.G:=by unfold owW;rw [if_neg (by omega),if_pos c]
  have e2:owW (if (zx s x.G).2.Out=1 then {x with G:=(zx s x.G).2,PC:=onW s x.Slot} else {x with G:=(zx s x.G).2})=owG (zx s x.G).2:=by
   split
   ·rename_i o
    rw [Yb (.inl (by omega))]
    unfold owW
    rcases zjK s x.Slot with e | e<;>rw [if_neg (by dsimp only;omega),if_neg (by dsimp only;omega)]
   ·unfold owW;rw [if_neg (by dsimp only;omega),if_pos c]
  dsimp only at hT ⊢
  rw [e1,e2]
  rcases zvY G g0 hw with ⟨a,b⟩ | ⟨a,b,d⟩
  ·rcases hT with ⟨n1,n2,_⟩ | ⟨_,_,_,n3,n4⟩ | ⟨_,_,e,_⟩
   ·rw [n1,n2,b];simp only [zHD];omega
   ·exact absurd (n4.symm.trans a) (zeq n3)
   ·omega
  ·rcases hT with ⟨n1,n2,n3⟩ | ⟨n1,n2,_,n3,n4⟩ | ⟨_,_,e,_⟩
   ·exact absurd (b.symm.trans n3) (zeq a)
   ·rw [n1,n2,d];simp only [zHD,zG6];omega
   ·omega
 split
 ·intro hT
  refine quiet hT (by omega) (by omega) ?_
  rw [o0 (by omega) (by omega)]
  dsimp only
  split
  ·rw [ob];omega
  ·rw [show ∀o l,owW {x with PC:=5,Obj:=o,Slot:=0,Batch:=l}=0 from fun _ _=>rfl];omega
 split
 ·rename_i c
  intro hT
  have e0:owW x=0:=o0 (by omega) (by omega)
  rw [e0]
  rcases hT with ⟨_,_,e⟩ | ⟨_,_,e,_⟩ | ⟨n1,n2,_,_⟩
  ·exact absurd e (zoF (h8 c))
  ·omega
  ·rw [n1,n2]
   show s.Work=s.Work+1-0+0-1
   omega
 split
 ·rename_i c
  intro hT
  refine quiet hT (by omega) (by omega) ?_
  have e1:owW x=1:=by unfold owW;rw [if_pos c]
  rw [e1]
  show wc (s.Work-1)=s.Work+0-1
  rw [xr (by omega) (by omega)];omega
 ·intro hT;omega
theorem zCZ {p:zb}{nb:Nat}{s:za}{gh:Gh}{m:Int}{x:zc}(W:MX p s gh x) (O:XOk p nb m x) (hw:0<=s.Work/\s.Work<=4294970000) (h8:x.PC=38->wW s.T x.Obj=1) {N C:List Int}
  (hT:(N=[]/\C=[]/\(zA s m x).1.T=s.T)\/(N=[x.G.Obj]/\C=[]/\(x.PC=3\/x.PC=37)/\¬(s.T.Marks|||bit x.G.Obj=s.T.Marks)/\(zA s m x).1.T={s.T with Marks:=s.T.Marks|||bit x.G.Obj})\/(N=[]/\C=[x.Obj]/\x.PC=38/\(zA s m x).1.T=wK s.T x.Obj) \/
   (N=[]/\C=[]/\x.PC=30/\Xy s.H s.P.Most=true/\(zA s m x).1.H=uk s.H/\(zA s m x).1.T=XT s.T (wc (s.H.Objs.length+1)))) :
  (zA s m x).1.Work=s.Work+owX (zA s m x).2-owX x+(N.length:Int)-(C.length:Int):=by
 have hpc:=O.pc
 have hrt:=O.ret
 have calm:∀ {r:za×zc},(N=[]/\C=[]/\r.1.T=s.T)\/(N=[x.G.Obj]/\C=[]/\(x.PC=3\/x.PC=37)/\¬(s.T.Marks|||bit x.G.Obj=s.T.Marks)/\r.1.T={s.T with Marks:=s.T.Marks|||bit x.G.Obj})\/(N=[]/\C=[x.Obj]/\x.PC=38/\r.1.T=wK s.T x.Obj) \/
   (N=[]/\C=[]/\x.PC=30/\Xy s.H s.P.Most=true/\r.1.H=uk s.H/\r.1.T=XT s.T (wc (s.H.Objs.length+1))) ->
   x.PC≠3->x.PC≠37->x.PC≠38->r.1.Work=s.Work+owX r.2-owX x->r.1.Work=s.Work+owX r.2-owX x+(N.length:Int)-(C.length:Int):=by
  rintro r (⟨e1,e2,_⟩ | ⟨_,_,e,_⟩ | ⟨_,_,e,_⟩ | ⟨e1,e2,_⟩) h1 h2 h3 h
  ·rw [e1,e2];simp only [zHD];omega
  ·omega
  ·omega
  ·rw [e1,e2];simp only [zHD];omega
 have o0:∀ {y:zc},y.PC≠39->y.PC≠3->y.PC≠37->owX y=0:=fun h1 h2 h3=>by unfold owX;rw [if_neg h1,if_neg (by omega)]
 have og:∀(y:zc) (k a b:Int),owX {y with PC:=3,G:=ZM k a b}=0:=fun y k a b=>by unfold owX;rw [if_neg (by dsimp only;omega),if_pos (.inl rfl)];exact Yb (.inr ⟨by show (0:Int)≠1;decide,by show (0:Int)≠2;decide⟩)
 have gq:∀(N C:List Int) (G:GX p s gh x.G) (g0:x.G.Out=0) (hT:(N=[]/\C=[]/\(zx s x.G).1.T=s.T)\/(N=[x.G.Obj]/\C=[]/\(x.PC=3\/x.PC=37)/\¬(s.T.Marks|||bit x.G.Obj=s.T.Marks)/\(zx s x.G).1.T={s.T with Marks:=s.T.Marks|||bit x.G.Obj})),
   (zx s x.G).1.Work=s.Work+owG (zx s x.G).2-owG x.G+(N.length:Int)-(C.length:Int):=by
  intro N C G g0 hT
  rcases zvY G g0 hw with ⟨a,b⟩ | ⟨a,b,d⟩
  ·rcases hT with ⟨n1,n2,_⟩ | ⟨_,_,_,n3,n4⟩
   ·rw [n1,n2,b];simp only [zHD];omega
   ·exact absurd (n4.symm.trans a) (zeq n3)
  ·rcases hT with ⟨n1,n2,n3⟩ | ⟨n1,n2,_,n3,n4⟩
   ·exact absurd (b.symm.trans n3) (zeq a)
   ·rw [n1,n2,d];simp only [zHD,zG6];omega
 revert hT
 refine vu (motive:=fun r=>((N=[]/\C=[]/\r.1.T=s.T)\/(N=[x.G.Obj]/\C=[]/\(x.PC=3\/x.PC=37)/\¬(s.T.Marks|||bit x.G.Obj=s.T.Marks)/\r.1.T={s.T with Marks:=s.T.Marks|||bit x.G.Obj})\/(N=[]/\C=[x.Obj]/\x.PC=38/\r.1.T=wK s.T x.Obj) \/
   (N=[]/\C=[]/\x.PC=30/\Xy s.H s.P.Most=true/\r.1.H=uk s.H/\r.1.T=XT s.T (wc (s.H.Objs.length+1)))) ->
   r.1.Work=s.Work+owX r.2-owX x+(N.length:Int)-(C.length:Int)) s m x ?_ ?_ ?_ ?_ ?_ ?_ ?_ ?_ ?_ ?_ ?_ ?_ ?_ ?_ ?_ ?_ ?_ ?_ ?_ ?_
 ·intro c hT
  refine calm hT (by omega) (by omega) (by omega) ?_
  rw [o0 (y:=x) (by omega) (by omega) (by omega)]
  unfold mu0 zcm
  repeat' split
  all_goals (rw [o0 (by (try dsimp only [setM]);omega) (by (try dsimp only [setM]);omega) (by (try dsimp only [setM]);omega)];dsimp only;omega)
 ·intro c hT
  refine calm hT (by omega) (by omega) (by omega) ?_
  rw [o0 (y:=x) (by omega) (by omega) (by omega)]
  unfold mu1;dsimp only
  split
  ·have:=hrt (.inl c)
   rw [o0 (by dsimp only;omega) (by dsimp only;omega) (by dsimp only;omega)];omega
  ·have e:∀l,owX {x with PC:=3,Buf:=l,G:=ZM 2 (x.Buf.getD (x.Buf.length-1) 0) m}=0:=fun l=>og {x with Buf:=l} 2 _ m
   rw [e];omega
 ·intro c hT
  refine calm hT (by omega) (by omega) (by omega) ?_
  rw [o0 (y:=x) (by omega) (by omega) (by omega)]
  show s.Work=s.Work+0-0;omega
 ·intro c hT
  obtain ⟨G,gm,g0⟩:=W.p3 c
  have e1:owX x=owG x.G:=by unfold owX;rw [if_neg (by omega),if_pos (.inl c)]
  unfold mu3 at hT ⊢
  dsimp only at hT ⊢
  have e2:owX (if (zx s x.G).2.Out=1 then {x with PC:=1,G:=(zx s x.G).2} else {x with G:=(zx s x.G).2})=owG (zx s x.G).2:=by
   split
   ·rename_i o
    rw [Yb (.inl (by omega)),o0 (by dsimp only;omega) (by dsimp only;omega) (by dsimp only;omega)]
   ·unfold owX;rw [if_neg (by dsimp only;omega),if_pos (.inl c)]
  rw [e1,e2]
  refine gq N C G g0 ?_
  rcases hT with h | h | ⟨_,_,e,_⟩ | ⟨_,_,e,_⟩
  ·exact .inl h
  ·exact .inr h
  ·omega
  ·omega
 ·intro c hT
  refine calm hT (by omega) (by omega) (by omega) ?_
  rw [o0 (y:=x) (by omega) (by omega) (by omega)]
  show s.Work=s.Work+0-0;omega
 ·intro c hT
  refine calm hT (by omega) (by omega) (by omega) ?_
  rw [o0 (y:=x) (by omega) (by omega) (by omega)]
  unfold zkr;dsimp only
  split<;>(rw [o0 (by dsimp only [VI];omega) (by dsimp only [VI];omega) (by dsimp only [VI];omega)];omega)
 ·intro c hT
  refine calm hT (by omega) (by omega) (by omega) ?_
  rw [o0 (y:=x) (by omega) (by omega) (by omega)]
  unfold zjf;dsimp only
  split<;>(rw [o0 (by dsimp only;omega) (by dsimp only;omega) (by dsimp only;omega)];omega)
 ·intro c hT
  refine calm hT (by omega) (by omega) (by omega) ?_
  rw [o0 (y:=x) (by omega) (by omega) (by omega)]
  unfold zjG;dsimp only
  split<;>(rw [o0 (by dsimp only;omega) (by dsimp only;omega) (by dsimp only;omega)];omega)
 ·intro c hT
  refine calm hT (by omega) (by omega) (by omega) ?_
  rw [o0 (y:=x) (by omega) (by omega) (by omega)]
  show s.Work=s.Work+0-0;omega
 ·intro c hT
  refine calm hT (by omega) (by omega) (by omega) ?_
  rw [o0 (y:=x) (by omega) (by omega) (by omega)]
  unfold zfi
  split
  ·split
   ·show s.Work=s.Work+0-0;omega
   ·show s.Work=s.Work+0-0;omega
  ·show s.Work=s.Work+0-0;omega
 ·intro c hT
  refine calm hT (by omega) (by omega) (by omega) ?_
  rw [o0 (y:=x) (by omega) (by omega) (by omega)]
  unfold zjL;dsimp only
  split<;>(rw [o0 (by dsimp only;omega) (by dsimp only;omega) (by dsimp only;omega)];omega)
 ·intro c hT
  refine calm hT (by omega) (by omega) (by omega) ?_
  rw [o0 (y:=x) (by omega) (by omega) (by omega)]
  unfold zj8;dsimp only
  split
  ·rw [o0 (by dsimp only;omega) (by dsimp only;omega) (by dsimp only;omega)];omega
  split<;>(rw [o0 (by dsimp only;omega) (by dsimp only;omega) (by dsimp only;omega)];omega)
 ·intro c hT
  refine calm hT (by omega) (by omega) (by omega) ?_
  rw [o0 (y:=x) (by omega) (by omega) (by omega)]
  show s.Work=s.Work+0-0;omega
 ·intro c hT
  refine calm hT (by omega) (by omega) (by omega) ?_
  rw [o0 (y:=x) (by omega) (by omega) (by omega)]
  unfold zj4;dsimp only
  split<;>(rw [o0 (by dsimp only;omega) (by dsimp only;omega) (by dsimp only;omega)];omega)
 ·intro c hT
  refine calm hT (by omega) (by omega) (by omega) ?_
  rw [o0 (y:=x) (by omega) (by omega) (by omega)]
  unfold zjh;dsimp only
  split<;>(rw [o0 (by dsimp only;omega) (by dsimp only;omega) (by dsimp only;omega)];omega)
 ·intro c hT
  refine calm hT (by omega) (by omega) (by omega) ?_
  rw [o0 (y:=x) (by omega) (by omega) (by omega)]
  unfold zjH;dsimp only
  split
  ·have:=zg2 s (wc (x.Slot+1))
   rw [o0 (by dsimp only;omega) (by dsimp only;omega) (by dsimp only;omega)];omega
  ·have e:∀y v,owX {x with Slot:=y,PC:=37,G:=ZM 3 v m}=0:=fun y v=>by unfold owX;rw [if_neg (by dsimp only;omega),if_pos (.inr rfl)];exact Yb (.inr ⟨by show (0:Int)≠1;decide,by show (0:Int)≠2;decide⟩)
   rw [e];omega
 ·intro c hT
  obtain ⟨G,gm,g0⟩:=W.p37 c
  have e1:owX x=owG x.G:=by unfold owX;rw [if_neg (by omega),if_pos (.inr c)]
  unfold zhK at hT ⊢
  dsimp only at hT ⊢
  have e2:owX (if (zx s x.G).2.Out=1 then {x with G:=(zx s x.G).2,PC:=onM s x.Slot} else {x with G:=(zx s x.G).2})=owG (zx s x.G).2:=by
   split
   ·rename_i o
    have:=zg2 s x.Slot
    rw [Yb (.inl (by omega)),o0 (by dsimp only;omega) (by dsimp only;omega) (by dsimp only;omega)]
   ·unfold owX;rw [if_neg (by dsimp only;omega),if_pos (.inr c)]
  rw [e1,e2]
  refine gq N C G g0 ?_
  rcases hT with h | h | ⟨_,_,e,_⟩ | ⟨_,_,e,_⟩
  ·exact .inl h
  ·exact .inr h
  ·omega
  ·omega
 ·intro c hT
  rw [o0 (y:=x) (by omega) (by omega) (by omega)]
  rcases hT with ⟨_,_,e⟩ | ⟨_,_,e,_⟩ | ⟨n1,n2,_,_⟩ | ⟨_,_,e,_⟩
  ·exact absurd e (zoF (h8 c))
  ·omega
  ·rw [n1,n2]
   show s.Work=s.Work+1-0+0-1
   omega
  ·omega
 ·intro c hT
  refine calm hT (by omega) (by omega) (by omega) ?_
  have e1:owX x=1:=by unfold owX;rw [if_pos c]
  rw [e1]
  show wc (s.Work-1)=s.Work+0-1
  rw [xr (by omega) (by omega)];omega
 ·intro hT
  rcases hT with ⟨n1,n2,_⟩ | ⟨_,_,_,n3,n4⟩ | ⟨n1,n2,c,e⟩ | ⟨n1,n2,_⟩
  ·rw [n1,n2];simp only [zHD];omega
  ·exact absurd n4.symm (zeq n3)
  ·exact absurd e.symm (zoF (h8 c))
  ·rw [n1,n2];simp only [zHD];omega
end
end Go.Pe.G
namespace Go.Pe.G
open Go.Pe
noncomputable section
def zad (s:za):Int:=(s.Ws.map owW).sum+(s.Ms.map owX).sum
theorem zxM:∀ {l:List Int},(∀v∈l,0<=v)->0<=l.sum
 | [],_=>by simp
 | a::l,h=>by
  have:=zxM (l:=l) (fun v hv=>h v (zGU _ hv))
  have:=h a (zG4 ..)
  rw [List.sum_cons];omega
theorem zFI (s:za):0<=zad s:=by
 have h1:0<=(s.Ws.map owW).sum:=zxM (fun v hv=>by obtain ⟨x,_,rfl⟩:=zG2.1 hv;exact (zxC x).1)
 have h2:0<=(s.Ms.map owX).sum:=zxM (fun v hv=>by obtain ⟨x,_,rfl⟩:=zG2.1 hv;exact (zy0 x).1)
 unfold zad;omega
theorem zyG {α:Type}{f:α->Int}{l:List α}{i:Nat}{x:α}(h:l[i]? =some x) (y:α):((l.set i y).map f).sum=(l.map f).sum-f x+f y:=by
 have hi:=(zGX.1 h).1
 rw [List.map_set,zqA _ _ _ (by simpa using hi)]
 rw [zGP,zHg,h]
 rfl
structure EG (p:zb) (nb k:Nat) (s:za) (gh:Gh):Prop where
 G:FG p nb k s gh
 wk:s.Work=((vS p s gh).length:Int)+zad s
 le:s.Work<=2*(k:Int)+100
theorem EG.work_nn {p:zb}{nb k:Nat}{s:za}{gh:Gh}(I:EG p nb k s gh):0<=s.Work:=by
 have:=I.wk;have:=zFI s;omega
theorem zv8 (s:za):({xB s with Epoch:=s.Epoch,Flag:=s.Flag,Done:=s.Done,Restarts:=s.Restarts,D:=s.D}:za)=s:=by
 unfold xB
 repeat' split
 all_goals rfl
theorem FG.more {p:zb}{nb k:Nat}{s:za}{gh:Gh}(G:FG p nb k s gh):FG p nb (k+1) s gh:=⟨G.E,G.X.quiet G.E.S rfl,G.W,G.M,G.B,G.mrk,G.wob,G.buf,G.bk,G.ne⟩
theorem EG.more {p:zb}{nb k:Nat}{s:za}{gh:Gh}(I:EG p nb k s gh):EG p nb (k+1) s gh:=⟨I.G.more,I.wk,by have:=I.le;omega⟩
theorem EG.det {p:zb}(hp:zB p) {nb k:Nat}{s:za}{gh:Gh}(I:EG p nb k s gh):EG p nb (k+1) (xB s) gh/\ziW s (xB s):=by
 have hd:=zv8 s
 have eM:(xB s).M=s.M:=by conv=>rhs;rw [<-hd]
 have eB:(xB s).Bins=s.Bins:=by conv=>rhs;rw [<-hd]
 have eT:(xB s).T=s.T:=by conv=>rhs;rw [<-hd]
 have eH:(xB s).H=s.H:=by conv=>rhs;rw [<-hd]
 have eW:(xB s).Ws=s.Ws:=by conv=>rhs;rw [<-hd]
 have eX:(xB s).Ms=s.Ms:=by conv=>rhs;rw [<-hd]
 have eK:(xB s).Work=s.Work:=by conv=>rhs;rw [<-hd]
 have e:vS p (xB s) gh=vS p s gh:=by
  unfold vS
  rw [eW,eX,uL eB,xA (fun x _=>zb4 (x:=x) eM eB),xA (fun x _=>zf3 (x:=x) eB)]
 have e2:zad (xB s)=zad s:=by unfold zad;rw [eW,eX]
 exact ⟨⟨I.G.det hp hd,by rw [e,e2,eK];exact I.wk,by rw [eK];have:=I.le;omega⟩,.inl ⟨eT,by rw [eH]⟩⟩
theorem EG.worker {p:zb}(hp:zB p) {nb k:Nat}{s:za}{gh:Gh}(hk:k<2147480000) (I:EG p nb k s gh) {w:Int}(hw:1<=w/\w<=p.Workers) (hd:s.Done=false):∃gh',EG p nb (k+1) (z9 s w) gh'/\ziW s (z9 s w):=by
 obtain ⟨gh',G',F,x,hx,N,C,hbag,hT⟩:=I.G.worker hp (by omega) hw hd
 have hwl:=I.G.E.wl
 have ei:(((w-1).toNat:Nat):Int)+1=w:=by omega
 have hWX:=I.G.W _ x hx
 have hWO:=I.G.E.W _ x hx
 rw [ei] at hWX hWO
 have h8:x.PC=8->wW s.T x.Obj=1:=fun e=>I.G.grey (zE8 hx (by unfold zJ;rw [UW (.inr e)];simp))
 have hnn:=I.work_nn
 have hle:=I.le
 have hW:=zCp hWX hWO (by omega) h8 hT
 have hlen:=hbag.length_eq
 rw [zGZ,zGZ] at hlen
 have eS:z9 s w={(zp s w x).1 with Ws:=s.Ws.set (w-1).toNat (zp s w x).2}:=by
  unfold z9
  rw [if_neg (by rw [hd];rintro (e | e | e)<;>first | cases e | omega),hx]
 have eK:(z9 s w).Work=(zp s w x).1.Work:=by rw [eS]
 have eX:(z9 s w).Ms=s.Ms:=by rw [eS];show (zp s w x).1.Ms=_;rw [znK hWO]
 have eW:(z9 s w).Ws=s.Ws.set (w-1).toNat (zp s w x).2:=by rw [eS]
 have ho:zad (z9 s w)=zad s-owW x+owW (zp s w x).2:=by
  unfold zad
  rw [eX,eW,zyG hx];omega
 have hwk:=I.wk
 have hN:N.length<=1:=by rcases hT with ⟨e,_⟩ | ⟨e,_⟩ | ⟨e,_⟩<;>rw [e]<;>simp
 have o1:=zxC x
 have o2:=zxC (zp s w x).2
 refine ⟨gh',⟨G',by rw [eK,hW,ho];omega,?_⟩,F⟩
 rw [eK,hW]
 omega
theorem EG.mutator {p:zb}(hp:zB p) {nb k:Nat}{s:za}{gh:Gh}(hk:k<2147480000) (I:EG p nb k s gh) {m:Int}(hm:1<=m/\m<=p.Mutators) (hd:s.Done=false):∃gh',EG p nb (k+1) (yu s m) gh'/\ziW s (yu s m):=by
 obtain ⟨gh',G',F,x,hx,N,C,hbag,hT⟩:=I.G.mutator hp (by omega) hm hd
 have hml:=I.G.E.ml
 have ei:(((m-1).toNat:Nat):Int)+1=m:=by omega
 have hMX:=I.G.M _ x hx
 have hXO:=I.G.E.X _ x hx
 rw [ei] at hXO
 have h8:x.PC=38->wW s.T x.Obj=1:=fun e=>I.G.grey (zFv hx (by unfold zW;rw [zb8 (.inr e)];simp))
 have hnn:=I.work_nn
 have hle:=I.le
 have hW:=zCZ (m:=m) hMX hXO (by omega) h8 hT
 have hlen:=hbag.length_eq
 rw [zGZ,zGZ] at hlen
 have eS:yu s m={(zA s m x).1 with Ms:=s.Ms.set (m-1).toNat (zA s m x).2}:=by
  unfold yu
  rw [if_neg (by rw [hd];rintro (e | e | e)<;>first | cases e | omega),hx]
 have eK:(yu s m).Work=(zA s m x).1.Work:=by rw [eS]
 have eW:(yu s m).Ws=s.Ws:=by rw [eS];show (zA s m x).1.Ws=_;rw [zv9]
 have eX:(yu s m).Ms=s.Ms.set (m-1).toNat (zA s m x).2:=by rw [eS]
 have ho:zad (yu s m)=zad s-owX x+owX (zA s m x).2:=by
  unfold zad
  rw [eX,eW,zyG hx];omega
 have hwk:=I.wk
 have hN:N.length<=1:=by rcases hT with ⟨e,_⟩ | ⟨e,_⟩ | ⟨e,_⟩ | ⟨e,_⟩<;>rw [e]<;>simp
 have o1:=zy0 x
 have o2:=zy0 (zA s m x).2
 refine ⟨gh',⟨G',by rw [eK,hW,ho];omega,?_⟩,F⟩
 rw [eK,hW]
 omega
theorem zCE {s:za}(hd:s.Done=true) (j:Int):zak s j=s:=by
 unfold zak
 split
 ·unfold xB;rw [if_pos hd]
 split
 ·unfold z9;rw [if_pos (.inl hd)]
 ·unfold yu;rw [if_pos (.inl hd)]
theorem EG.next {p:zb}(hp:zB p) {nb k:Nat}{s:za}{gh:Gh}(hk:k<2147480000) (I:EG p nb k s gh) (j:Int):∃gh',EG p nb (k+1) (zak s j) gh'/\ziW s (zak s j):=by
 cases hd:s.Done with
 | true=>rw [zCE hd];exact ⟨gh,I.more,.inl ⟨rfl,rfl⟩⟩
 | false =>
  have hwl:=I.G.E.wl
  have hml:=I.G.E.ml
  unfold zak
  split
  ·exact ⟨gh,I.det hp⟩
  split
  ·by_cases h1:1<=j
   ·exact I.worker hp hk (by omega) hd
   ·have:z9 s j=s:=by unfold z9;rw [if_pos (.inr (.inl (by omega)))]
    rw [this];exact ⟨gh,I.more,.inl ⟨rfl,rfl⟩⟩
  ·by_cases h1:1<=j-(s.Ws.length:Int)/\j-(s.Ws.length:Int)<=(s.Ms.length:Int)
   ·exact I.mutator hp hk (by omega) hd
   ·have:yu s (j-(s.Ws.length:Int))=s:=by unfold yu;rw [if_pos (by omega)]
    rw [this];exact ⟨gh,I.more,.inl ⟨rfl,rfl⟩⟩
end
end Go.Pe.G
namespace Go.Pe.G
open Go.Pe
noncomputable section
theorem zrO:∀(n:Nat) (l:List Int),l.Nodup->(∀o∈l,1<=o/\o<=(n:Int))->l.length<=n
 | 0,[],_,_=>zGQ _
 | 0,a::l,_,h=>by have:=h a (by simp);omega
 | n+1,l,hd,h=>by
  have ih:=zrO n (l.erase ((n+1:Nat):Int)) (hd.erase _) (fun o ho=>by
   have:=(hd.mem_erase_iff).1 ho
   have h2:=h o this.2
   have h3:=this.1
   omega)
  rw [List.length_erase] at ih
  split at ih<;>omega
end
end Go.Pe.G
namespace Go.Pe.G
open Go.Pe
noncomputable section
theorem zzD {p:zb}(h:zB p) {nb k:Nat}{s:za}{gh:Gh}{own:List Int}(X:SX p nb s gh own k) (hnb:nb<=50) {N:Int}(hN:(nb:Int)<=N) (hN2:N<1000):zko s.M (zZ p) (zD p) N=some (gh.F,()):=by
 have hF:=Zx h
 have hE:=wo h
 have hl:gh.F.length<nb\/gh.F.length=0:=by
  have:=X.L.all.length_eq
  simp [znS] at this
  omega
 rw [zsK,ziw,zGL,zdW,zGL]
 obtain ⟨o,e,ho⟩:=xV (f:=zdN) (fun a=>∃x pre rest,gh.F=pre++rest/\a=(s.M,zD p,N,x,pre,())/\Chn s.M (zD p) nb x rest) (fun a=>gh.F.length-a.2.2.2.2.1.length) (fun o=>o= .brk (gh.F,())) (by
  rintro _ ⟨x,pre,rest,e,rfl,c⟩
  rw [zpi,yx]
  cases rest with
  | nil =>
   have hx:x=0:=c
   rw [if_pos hx]
   exact ⟨_,rfl,by rw [e,zGO]⟩
  | cons y l =>
   obtain ⟨c1,c2,c3,c4⟩:=c
   have hlen:gh.F.length=pre.length+(l.length+1):=by rw [e,zGZ,zG6]
   rw [if_neg (by omega),zj,if_pos (show (pre.length:Int)<(bif decide ((1000:Int)<N) then 1000 else N) by rw [zj,if_neg (by omega)];omega),yq (by simp;omega),zGL,zV (by omega) (by omega),ziw,zGL]
   refine ⟨_,rfl,⟨_,pre++[x],l,by rw [e,c1];simp,rfl,?_⟩,?_⟩
   ·rw [c1];exact c4
   ·show gh.F.length-(pre++[x]).length<gh.F.length-pre.length
    rw [zGZ,zIx];omega) (s.M,zD p,N,yg (ld s.M (zZ p)),([]:List Int),()) ⟨_,[],gh.F,rfl,rfl,X.L.cF⟩ (by show gh.F.length-0<18446744073709551616;omega)
 subst ho
 exact congrArg (fun o=>Option.bind o _) e
theorem zv3 {α β:Type}(f:α->List β):∀(l:List α) (a:List β),l.foldl (fun r x=>r++f x) a=a++l.flatMap f
 | [],a=>by simp
 | x::l,a=>by rw [zHH,zv3 f l,zHA,zGR]
theorem znP {p:zb}(h:zB p) {k:Nat}{s:za}{gh:Gh}(G:FG p (zR p+1) k s gh):ZO s=some (ud (gh.F.flatMap (yw s)),())/\(gh.F.flatMap (yw s)).length<=9:=by
 have hP:=G.E.S.P
 have hbl:=G.E.S.bins
 have hbp:=zcJ h
 have hN:=G.E.H.n
 have hn:=h.n
 have hmo:=h.most
 have hl9:(gh.F.flatMap (yw s)).length<=9:=by
  have hs:(gh.F.flatMap (yw s)).Sublist (vS p s gh):=(List.sublist_append_left _ _).trans (List.sublist_append_left _ _)
  have:=zrO s.H.Objs.length _ (G.B.nd.sublist hs) (fun o ho=>by
   have ho:=hs.subset ho
   exact ⟨(ziy ((G.B.gr o).1 ho)).1,G.mrk o ((WS _ _).1 ((G.B.gr o).1 ho)).1⟩)
  omega
 refine ⟨?_,hl9⟩
 have hF:gh.F.length<1000:=by
  have:=G.X.L.all.length_eq
  simp [znS] at this
  omega
 have hnode:∀y∈gh.F,1<=y/\y<((zR p+1:Nat):Int):=fun y hy=>zpQ.1 (G.X.L.all.subset (zG9 _ (zG9 _ hy)))
 rw [zs2,zbe,zGL,Uu,zGL,hP]
 dsimp only
 rw [zzD h G.X (by omega) (by omega) (by omega),zGL]
 dsimp only
 obtain ⟨e,_⟩:=Zs (f:=WR) (fun j r=>((gh.F.length:Int),j,s,r,gh.F,())) (fun r=>(r,())) gh.F (by omega) (fun r y=>r++yw s y) (fun i r=>r=(gh.F.take i).flatMap (yw s)) (s:=[]) rfl
  (fun i r y hy hi hr=>by
   have hm:=zGT hy
   obtain ⟨b1,b2⟩:=zuW G (hnode y hm)
   have hsub:r.length+(yw s y).length<=9:=by
    have h1:r++yw s y=(gh.F.take (i+1)).flatMap (yw s):=by rw [hr,zH4,hy];simp
    have h2:((gh.F.take (i+1)).flatMap (yw s)).Sublist (gh.F.flatMap (yw s)):=by
     conv=>rhs;rw [<-zIl (i+1) gh.F,zH7]
     exact List.sublist_append_left _ _
    have h3:=h2.length_le
    rw [<-zGZ,h1];omega
   have hb2:=(hnode y hm).2
   refine ⟨by rw [hr,zH4,hy];simp,?_⟩
   show WR ((gh.F.length:Int),(i:Int),s,r,gh.F,())=_
   rw [zgE,zj,if_pos (by omega),wS (by omega) (by omega),zGL,zHs,hy,zGL,zj,if_pos (by omega),b1,zGL,yq (by simp;omega),zGL,yz (by omega)])
  (fun r hr=>by
   show WR ((gh.F.length:Int),(gh.F.length:Int),s,r,gh.F,())=_
   rw [zgE,zj,if_neg (by omega)])
 rw [zv3,zGV] at e
 rw [e,zGL]
 dsimp only
 rw [zaR (by omega)];rfl
theorem zz2 {p:zb}(h:zB p) {nb k:Nat}{s:za}{gh:Gh}(G:FG p nb k s gh):∀(n i:Nat),i+n=s.Ws.length->zvb s n (i:Int)=some ((List.range' i n).map fun j:Nat=>(s.Ws[j]?).elim [] fun x=>ud (zJ s x++gh.D ((j:Int)+1)))
 | 0,i,_=>rfl
 | n+1,i,hi=>by
  have hx:=zGN (show i<s.Ws.length by omega)
  have ih:=zz2 h G n (i+1) (by omega)
  rw [show ((i+1:Nat):Int)=(i:Int)+1 by omega] at ih
  rw [zvb,zrA h G hx,zGL,ih,zGL,List.range'_succ,zHU,hx];rfl
theorem zzO {p:zb}(h:zB p) {nb k:Nat}{s:za}{gh:Gh}(G:FG p nb k s gh):∀(n i:Nat),i+n=s.Ms.length->zvj s n (i:Int)=some ((List.range' i n).map fun j:Nat=>(s.Ms[j]?).elim [] fun x=>ud (zW s x))
 | 0,i,_=>rfl
 | n+1,i,hi=>by
  have hx:=zGN (show i<s.Ms.length by omega)
  have ih:=zzO h G n (i+1) (by omega)
  rw [show ((i+1:Nat):Int)=(i:Int)+1 by omega] at ih
  rw [zvj,zpy h G hx,zGL,ih,zGL,List.range'_succ,zHU,hx];rfl
theorem zBv {a b:List Int}(ha:a.length<1000000) (hb:b.length<1000000):YE [a,b]=some (a++b,()):=by
 rw [zd3]
 obtain ⟨e,_⟩:=Zs (f:=xz) (fun j (r:Int)=>([a,b],r,[a,b],2,j,())) (fun r=>([a,b],r,())) [a,b] (show 2<1000000 by decide) (fun r x=>r+(x.length:Int)) (fun i r=>0<=r/\r<=(i:Int)*1000000) (s:=0) ⟨by omega,by omega⟩
  (fun i r x hx hi hr=>by
   have hi:i<2:=hi
   have hxl:x.length<1000000:=by
    rcases zG7.1 (zGT hx) with rfl | hx
    ·exact ha
    ·rw [zHo.1 hx];exact hb
   refine ⟨⟨by omega,by omega⟩,?_⟩
   show xz ([a,b],r,[a,b],2,(i:Int),())=_
   rw [XI,zj,if_pos (by omega),xu hx,zGL,zV (a:=r+(x.length:Int)) (by omega) (by omega),zj,if_neg (by omega),yz (by omega)])
  (fun r hr=>by
   show xz ([a,b],r,[a,b],2,2,())=_
   rw [XI];rfl)
 have e:zP xz ([a,b],0,[a,b],(([a,b]:List (List Int)).length:Int),0,())=some (.brk ([a,b],0+(a.length:Int)+(b.length:Int),())):=e
 rw [e,zGL]
 dsimp only
 have hg:zAi (0+(a.length:Int)+(b.length:Int))=some ([],()):=by
  rw [zDC]
  unfold zuh
  rw [decide_eq_true (by omega:(0:Int)<=0+(a.length:Int)+(b.length:Int)),decide_eq_true (by omega:0+(a.length:Int)+(b.length:Int)<4294967296)];rfl
 rw [hg,zGL]
 obtain ⟨e,_⟩:=Zs (f:=xt) (fun j (r:List Int)=>([a,b],2,j,r,())) (fun r=>(r,())) [a,b] (show 2<1000000 by decide) (fun r x=>r++x) (fun i r=>r.length<=i*1000000) (s:=[]) (by simp)
  (fun i r x hx hi hr=>by
   have hi:i<2:=hi
   have hxl:x.length<1000000:=by
    rcases zG7.1 (zGT hx) with rfl | hx
    ·exact ha
    ·rw [zHo.1 hx];exact hb
   refine ⟨by rw [zGZ];omega,?_⟩
   show xt ([a,b],2,(i:Int),r,())=_
   rw [Xg,zj,if_pos (by omega),xu hx,zGL,yq (by simp;omega),zGL,yz (by omega)])
  (fun r hr=>by
   show xt ([a,b],2,2,r,())=_
   rw [Xg];rfl)
 have e:zP xt ([a,b],(([a,b]:List (List Int)).length:Int),0,([]:List Int),())=some (.brk ([]++a++b,())):=e
 rw [e];rfl
theorem zEH {a b:List Int}(ha:a.length<1000000) (hb:b.length<1000000):zpN a b=some (ud (a++b),()):=by
 rw [zx8,zBv ha hb,zGL,zv4 (by simp;omega)];rfl
theorem zwk:∀(ys:List (List Int)) (a:List Int),(a++ys.flatten).length<1000000->Zb zbi ys (ud a,())=some (ud (a++ys.flatten),())
 | [],a,_=>by rw [Zb];simp
 | y::ys,a,hl=>by
  rw [List.flatten_cons,<-zGR] at hl ⊢
  have hl2:=hl
  rw [zGZ,zGZ] at hl2
  rw [Zb,zrl,zEH (by rw [zDu];omega) (by omega),zGL,zGL]
  dsimp only
  rw [zC6]
  exact zwk ys (a++y) hl
theorem zwi {α:Type}{f:α->List Int}(l:List α):List.Perm ((l.map fun x=>ud (f x)).flatten) (l.flatMap f):=by
 induction l with
 | nil=>exact zHb _
 | cons a l ih =>
  rw [zHU,List.flatten_cons,zHA]
  exact (W5 _).append ih
theorem zDL {p:zb}(h:zB p) {k:Nat}{s:za}{gh:Gh}(G:FG p (zR p+1) k s gh):∃ys,ztt s=some ys/\List.Perm ys.flatten (vS p s gh):=by
 have hwl:=G.E.wl
 have hwk:=h.wk
 have hml:=G.E.ml
 have hmt:=h.mt
 refine ⟨_,by
  unfold ztt
  rw [decide_eq_true (show s.Ws.length<1000000 by omega),decide_eq_true (show s.Ms.length<1000000 by omega),(znP h G).1,Bool.and_self,cond_true,zGL,show (0:Int)=((0:Nat):Int) from rfl,zz2 h G s.Ws.length 0 (by omega),zGL,zzO h G s.Ms.length 0 (by omega),zGL],?_⟩
 have eW:((List.range' 0 s.Ws.length).map fun j:Nat=>(s.Ws[j]?).elim [] fun x=>ud (zJ s x++gh.D ((j:Int)+1)))=(List.range s.Ws.length).map fun j:Nat=>ud ((s.Ws[j]?).elim [] fun x=>zJ s x++gh.D ((j:Int)+1)):=by
  rw [<-zIj]
  refine zIk (fun j hj=>?_)
  rw [zGN (zHj.1 hj)];rfl
 have eM:((List.range' 0 s.Ms.length).map fun j:Nat=>(s.Ms[j]?).elim [] fun x=>ud (zW s x))=(List.range s.Ms.length).map fun j:Nat=>ud ((s.Ms[j]?).elim [] (zW s)):=by
  rw [<-zIj]
  refine zIk (fun j hj=>?_)
  rw [zGN (zHj.1 hj)];rfl
 dsimp only
 rw [eW,eM,List.flatten_cons,List.flatten_append]
 refine ((W5 _).append ((zwi _).append (zwi _))).trans ?_
 rw [zsM (f:=zW s) s.Ms]
 have eW2:(List.range s.Ws.length).flatMap (fun j:Nat=>(s.Ws[j]?).elim [] fun x=>zJ s x++gh.D ((j:Int)+1))=(List.range s.Ws.length).flatMap (fun j:Nat=>(s.Ws[j]?).elim [] (zJ s)++gh.D ((j:Int)+1)) :=
  xA (fun j hj=>by rw [zGN (zHj.1 hj)];rfl)
 rw [eW2]
 unfold vS yo
 have en:p.Workers.toNat=s.Ws.length:=by omega
 rw [en,zGR]
 refine zGY _ ?_
 rw [<-zGR]
 refine zIf _ ?_
 refine (zvJ (List.range s.Ws.length) (f:=fun i:Nat=>(s.Ws[i]?).elim [] (zJ s)) (g:=fun i:Nat=>gh.D ((i:Int)+1))).trans ?_
 rw [zsM (f:=zJ s) s.Ws]
 exact zHw
theorem FG.bag9 {p:zb}(h:zB p) {nb k:Nat}{s:za}{gh:Gh}(G:FG p nb k s gh):(vS p s gh).length<=9/\∀o∈vS p s gh,1<=o/\o<=9:=by
 have hN:=G.E.H.n
 have hn:=h.n
 have hmo:=h.most
 have hr:∀o∈vS p s gh,1<=o/\o<=(s.H.Objs.length:Int):=fun o ho=>⟨(ziy ((G.B.gr o).1 ho)).1,G.mrk o ((WS _ _).1 ((G.B.gr o).1 ho)).1⟩
 have:=zrO s.H.Objs.length _ G.B.nd hr
 exact ⟨by omega,fun o ho=>by have:=hr o ho;omega⟩
theorem zCD {p:zb}(h:zB p) {k:Nat}{s:za}{gh:Gh}(G:FG p (zR p+1) k s gh):U6 s=some (ud (vS p s gh),()):=by
 obtain ⟨ys,e,hp⟩:=zDL h G
 have hl:=(G.bag9 h).1
 rw [zuI,zwH,zGL]
 have ej:zqs s.P.Workers s.P.Mutators s.P.Cap s.P.Buf s.P.Bin s.P.Most s.P.Price s.P.Limit s.P.H.Slots s.P.H.Objs s.P.Roots s.P.Regs s.P.Progs s.P.Picks s.H.Slots s.H.Objs s.M s.Bins s.T.Marks s.T.Black s.Work s.Epoch s.Flag s.Done s.Restarts s.Acks s.L.Scanned s.L.Spent s.L.Pool s.L.Bal s.Ws s.Ms s.D.PC s.D.I=some ys:=e
 dsimp only
 rw [ej,zGL]
 have:=zwk ys [] (by rw [zGV,hp.length_eq];omega)
 rw [zGV] at this
 have this:Zb zbi ys (([]:List Int),())=some (ud ys.flatten,()):=this
 rw [this,zz5 hp];rfl
end
end Go.Pe.G
namespace Go.Pe.G
open Go.Pe
noncomputable section
def uS (s:za):List zu:=(s.Ws.filter (fun x=>decide (x.PC=6))).map (·.G)++(s.Ms.filter (fun x=>decide (x.PC=3\/x.PC=37))).map (·.G)
theorem znN {α β:Type}(c:α->Bool) (f:α->β):∀(l:List α) (a:List β),l.foldl (fun r x=>bif c x then r++[f x] else r) a=a++(l.filter c).map f
 | [],a=>by simp
 | x::l,a=>by
  rw [zHH,znN c f l,List.filter_cons]
  cases c x<;>simp
theorem zAk (x:zc):uj x=some (decide (x.PC=3\/x.PC=37),()):=by
 rw [zef]
 by_cases c:x.PC=3
 ·rw [decide_eq_true c,decide_eq_true (show x.PC=3\/x.PC=37 from .inl c)];rfl
 ·rw [decide_eq_false c]
  by_cases c2:x.PC=37
  ·rw [decide_eq_true c2,decide_eq_true (show x.PC=3\/x.PC=37 from .inr c2)];rfl
  ·rw [decide_eq_false c2,decide_eq_false (show ¬(x.PC=3\/x.PC=37) from fun e=>e.elim c c2)];rfl
theorem zoV {s:za}(h1:s.Ws.length<=100) (h2:s.Ms.length<=100):zay s=some (uS s,()):=by
 rw [zpO]
 obtain ⟨e,_⟩:=Zs (f:=YF) (fun j r=>(s.Ws,(s.Ws.length:Int),j,s,r,())) (fun r=>(s,r,())) s.Ws (zIp h1 (by decide)) (fun r x=>bif decide (x.PC=6) then r++[x.G] else r) (fun i r=>r.length<=i) (s:=[]) (by simp)
  (fun i r x hx hi hr=>by
   refine ⟨?_,?_⟩
   ·cases decide (x.PC=6)
    ·show r.length<=_;omega
    ·show (r++[x.G]).length<=_;simp;omega
   show YF (s.Ws,(s.Ws.length:Int),(i:Int),s,r,())=_
   rw [zda,zj,if_pos (by omega),xu hx,zGL,yq (by simp;omega),zGL,yz (by omega)]
   cases decide (x.PC=6)<;>rfl)
  (fun r hr=>by
   show YF (s.Ws,(s.Ws.length:Int),(s.Ws.length:Int),s,r,())=_
   rw [zda,zj,if_neg (by omega)])
 rw [znN,zGV] at e
 rw [e,zGL]
 dsimp only
 have hfl:((s.Ws.filter (fun x:zh=>decide (x.PC=6))).map fun x:zh=>x.G).length<=s.Ws.length:=by rw [zHK];exact zH5 _ _
 obtain ⟨e,_⟩:=Zs (f:=YA) (fun j r=>(s.Ms,(s.Ms.length:Int),j,r,())) (fun r=>(r,())) s.Ms (zIp h2 (by decide)) (fun r x=>bif decide (x.PC=3\/x.PC=37) then r++[x.G] else r) (fun i r=>r.length<=i+100) (s:=(s.Ws.filter (fun x:zh=>decide (x.PC=6))).map fun x:zh=>x.G) (by omega)
  (fun i r x hx hi hr=>by
   refine ⟨?_,?_⟩
   ·cases decide (x.PC=3\/x.PC=37)
    ·show r.length<=_;omega
    ·show (r++[x.G]).length<=_;simp;omega
   show YA (s.Ms,(s.Ms.length:Int),(i:Int),r,())=_
   rw [zc8,zj,if_pos (by omega),xu hx,zGL,zAk,zGL,yq (by simp;omega),zGL,yz (by omega)]
   dsimp only
   cases decide (x.PC=3\/x.PC=37)<;>rfl)
  (fun r hr=>by
   show YA (s.Ms,(s.Ms.length:Int),(s.Ms.length:Int),r,())=_
   rw [zc8,zj,if_neg (by omega)])
 rw [znN] at e
 rw [e];rfl
theorem zFH (g:zu):owG g=0\/owG g=1:=by unfold owG;split<;>simp
theorem zCk (g:zu):zmP g=some (owG g,()):=by
 rw [zuB,zjM]
 simp only [zj]
 unfold owG
 by_cases c1:g.Out=0
 ·rw [if_pos c1]
  by_cases c2:1<=g.PC
  ·rw [if_pos c2]
   by_cases c3:g.PC<=2
   ·rw [if_pos c3,if_pos ⟨c1,by omega⟩];rfl
   ·rw [if_neg c3,if_neg (by omega)];rfl
  ·rw [if_neg c2,if_neg (by omega)];rfl
 ·rw [if_neg c1,if_neg (fun e=>c1 e.1)];rfl
theorem zlM {α:Type}(f:α->Int):∀(l:List α) (a:Int),l.foldl (fun r x=>r+f x) a=a+(l.map f).sum
 | [],a=>by simp
 | x::l,a=>by rw [zHH,zlM f l,zHU,List.sum_cons];omega
theorem zpM {α:Type}(c:α->Bool) (f g h:α->Int) (e:∀x,h x=(bif c x then f x else 0)+g x):∀l:List α,(l.map h).sum=((l.filter c).map f).sum+(l.map g).sum
 | []=>rfl
 | x::l=>by
  rw [zHU,List.sum_cons,zpM c f g h e l,List.filter_cons,e x,zHU,List.sum_cons]
  cases c x<;>simp<;>omega
theorem zCv (s:za):zad s=((uS s).map owG).sum+(s.Ws.map fun x=>if x.PC=9 then (1:Int) else 0).sum+(s.Ms.map fun x=>if x.PC=39 then (1:Int) else 0).sum:=by
 have hW:=zpM (fun x:zh=>decide (x.PC=6)) (fun x=>owG x.G) (fun x=>if x.PC=9 then (1:Int) else 0) owW (fun x=>by
  unfold owW
  by_cases c:x.PC=9
  ·rw [if_pos c,if_pos c,decide_eq_false (show ¬x.PC=6 by omega)];rfl
  ·rw [if_neg c,if_neg c]
   by_cases c6:x.PC=6
   ·rw [if_pos c6,decide_eq_true c6];show owG x.G=owG x.G+0;omega
   ·rw [if_neg c6,decide_eq_false c6];rfl) s.Ws
 have hX:=zpM (fun x:zc=>decide (x.PC=3\/x.PC=37)) (fun x=>owG x.G) (fun x=>if x.PC=39 then (1:Int) else 0) owX (fun x=>by
  unfold owX
  by_cases c:x.PC=39
  ·rw [if_pos c,if_pos c,decide_eq_false (show ¬(x.PC=3\/x.PC=37) by omega)];rfl
  ·rw [if_neg c,if_neg c]
   by_cases c6:x.PC=3\/x.PC=37
   ·rw [if_pos c6,decide_eq_true c6];show owG x.G=owG x.G+0;omega
   ·rw [if_neg c6,decide_eq_false c6];rfl) s.Ms
 unfold zad uS
 rw [hW,hX,List.map_append,List.sum_append,List.map_map,List.map_map]
 have a1:(List.map (owG ∘ fun x:zh=>x.G) (s.Ws.filter fun x=>decide (x.PC=6)))=(s.Ws.filter fun x=>decide (x.PC=6)).map fun x=>owG x.G:=rfl
 have a2:(List.map (owG ∘ fun x:zc=>x.G) (s.Ms.filter fun x=>decide (x.PC=3\/x.PC=37)))=(s.Ms.filter fun x=>decide (x.PC=3\/x.PC=37)).map fun x=>owG x.G:=rfl
 rw [a1,a2]
 omega
theorem zCG {s:za}(h1:s.Ws.length<=100) (h2:s.Ms.length<=100):zmj s=some (zad s,()):=by
 rw [zvn,zoV h1 h2,zGL]
 dsimp only
 have hl:(uS s).length<=200:=by
  unfold uS
  rw [zGZ,zHK,zHK]
  have:=zH5 (fun x:zh=>decide (x.PC=6)) s.Ws
  have:=zH5 (fun x:zc=>decide (x.PC=3\/x.PC=37)) s.Ms
  omega
 obtain ⟨e,b1,b2⟩:=Zs (f:=VX) (fun j r=>(r,((uS s).length:Int),j,s,uS s,())) (fun r=>(r,s,())) (uS s) (by omega) (fun r x=>r+owG x) (fun i r=>0<=r/\r<=(i:Int)) (s:=0) ⟨by omega,by omega⟩
  (fun i r x hx hi hr=>by
   have:=zFH x
   refine ⟨⟨by omega,by omega⟩,?_⟩
   show VX (r,((uS s).length:Int),(i:Int),s,uS s,())=_
   rw [zh1,zj,if_pos (by omega),wS (by omega) (by omega),zGL,zHs,hx,zGL,zCk,zGL,yz (by omega),zV (by omega) (by omega)])
  (fun r hr=>by
   show VX (r,((uS s).length:Int),((uS s).length:Int),s,uS s,())=_
   rw [zh1,zj,if_neg (by omega)])
 rw [zlM] at e b1 b2
 rw [e,zGL]
 dsimp only
 generalize hr0:0+((uS s).map owG).sum=r0 at b1 b2
 obtain ⟨e,b3,b4⟩:=Zs (f:=Uc) (fun j r=>(r,s.Ws,(s.Ws.length:Int),j,s,())) (fun r=>(r,s,())) s.Ws (by omega) (fun (r:Int) x=>r+if x.PC=9 then 1 else 0) (fun i r=>0<=r/\r<=200+(i:Int)) (s:=r0) ⟨by omega,by omega⟩
  (fun i r x hx hi hr=>by
   refine ⟨⟨by split<;>omega,by split<;>omega⟩,?_⟩
   show Uc (r,s.Ws,(s.Ws.length:Int),(i:Int),s,())=_
   rw [zhZ,zj,if_pos (by omega),xu hx,zGL,yz (by omega),zj]
   by_cases c:x.PC=9
   ·rw [if_pos c,if_pos c,zV (by omega) (by omega)]
   ·rw [if_neg c,if_neg c,show r+0=r by omega])
  (fun r hr=>by
   show Uc (r,s.Ws,(s.Ws.length:Int),(s.Ws.length:Int),s,())=_
   rw [zhZ,zj,if_neg (by omega)])
 rw [zlM] at e b3 b4
 rw [e,zGL]
 dsimp only
 generalize hr1:r0+(s.Ws.map fun x=>if x.PC=9 then (1:Int) else 0).sum=r1 at b3 b4
 obtain ⟨e,_⟩:=Zs (f:=WW) (fun j r=>(r,s.Ms,(s.Ms.length:Int),j,())) (fun r=>(r,())) s.Ms (by omega) (fun (r:Int) x=>r+if x.PC=39 then 1 else 0) (fun i r=>0<=r/\r<=400+(i:Int)) (s:=r1) ⟨by omega,by omega⟩
  (fun i r x hx hi hr=>by
   refine ⟨⟨by split<;>omega,by split<;>omega⟩,?_⟩
   show WW (r,s.Ms,(s.Ms.length:Int),(i:Int),())=_
   rw [zhg,zj,if_pos (by omega),xu hx,zGL,yz (by omega),zj]
   by_cases c:x.PC=39
   ·rw [if_pos c,if_pos c,zV (by omega) (by omega)]
   ·rw [if_neg c,if_neg c,show r+0=r by omega])
  (fun r hr=>by
   show WW (r,s.Ms,(s.Ms.length:Int),(s.Ms.length:Int),())=_
   rw [zhg,zj,if_neg (by omega)])
 rw [zlM] at e
 rw [e,zGL,zCv]
 dsimp only
 rw [<-hr1,<-hr0]
 congr 2
 omega
end
end Go.Pe.G
namespace Go.Pe.G
open Go.Pe
noncomputable section
inductive Reach (h:zo) (R:BitVec 64):Int->Prop
 | root (o:Int) (h1:zX R o=true) (h2:1<=o/\o<=(h.Objs.length:Int)):Reach h R o
 | step (o v:Int) (h1:Reach h R o) (h2:v∈zN h o) (h3:1<=v/\v<=(h.Objs.length:Int)):Reach h R v
theorem Reach.in {h:zo}{R:BitVec 64}{o:Int}(r:Reach h R o):1<=o/\o<=(h.Objs.length:Int):=by
 cases r with
 | root _ _ h2=>exact h2
 | step _ _ _ _ h3=>exact h3
theorem zAS:∀t:Fin 512,znR 66 (BitVec.ofNat 64 t.1)=some (((List.range 9).filter fun i=>(BitVec.ofNat 64 t.1).getLsbD i).map fun i:Nat=>(i:Int)+1):=by decide +kernel
def XA (s:BitVec 64):List Int:=((List.range 9).filter fun i=>s.getLsbD i).map fun i:Nat=>(i:Int)+1
theorem zEv:∀t:Fin 512,Go.Lib.ctz 64 t.1<=64:=by decide +kernel
theorem zwn:∀(f:Nat) (s:BitVec 64),s.toNat<512->VV f s=znR f s
 | 0,_,_=>rfl
 | f+1,s,h=>by
  simp only [VV,znR]
  rw [zwn f _ (by rw [zHW];exact zIp Nat.and_le_left h)]
  have:Go.Lib.ctz 64 s.toNat<=64:=zEv ⟨s.toNat,h⟩
  have e:w64 (tz s+1)=((Go.Lib.ctz 64 s.toNat:Nat):Int)+1:=by
   unfold tz
   exact zV (by omega) (by omega)
  rw [e]
theorem zBW (s:BitVec 64) (o:Int):o∈XA s↔1<=o/\o<=9/\zX s o=true:=by
 unfold XA
 rw [zG2]
 constructor
 ·rintro ⟨i,hi,rfl⟩
  obtain ⟨a,b⟩:=List.mem_filter.1 hi
  have a:=zHj.1 a
  exact ⟨by omega,by omega,(xm _ _).2 ⟨by omega,by omega,by rw [show ((i:Int)+1-1).toNat=i by omega];exact b⟩⟩
 ·rintro ⟨a,b,c⟩
  obtain ⟨_,_,d⟩:=(xm _ _).1 c
  exact ⟨(o-1).toNat,List.mem_filter.2 ⟨zHj.2 (by omega),d⟩,by omega⟩
theorem zv7 (s:BitVec 64):(XA s).length<=9:=by
 unfold XA
 rw [zHK]
 exact zHP (zH5 _ _) (by simp)
theorem zBI {s:BitVec 64}(h:∀o,zX s o=true->o<=9):zeo s=some (XA s,()):=by
 obtain ⟨t,rfl⟩:=zE7 h
 have e:zj2 (BitVec.ofNat 64 t.1)=some (XA (BitVec.ofNat 64 t.1)):=by
  show VV 66 _=_
  rw [zwn 66 _ (by simp;omega),zAS t];rfl
 have:=zv7 (BitVec.ofNat 64 t.1)
 rw [zoR,zoU,zGL,e,zGL,zn2 _ _ (by simp;omega)]
 rfl
theorem zqC {α:Type}{l:List α}{n:Nat}{i:Int}(h:0<=i) (h1:i<l.length) (h2:i<n):zfm l n i=some i.toNat:=by
 unfold zfm;simp [h,h1,h2]
def mt (met:List Int) (o:Int):Int:=met.getD (o-1).toNat 0
def Wp (met:List Int):Nat:=met.countP (fun x=>decide (x=0))
theorem ztb {met:List Int}{o:Int}(h:1<=o/\o<=(met.length:Int)):met[(o-1).toNat]? =some (mt met o):=by
 have e:=zGN (show (o-1).toNat<met.length by omega)
 unfold mt
 rw [zGP,e];rfl
theorem zjY {met:List Int}{o q x:Int}(h:1<=o/\o<=(met.length:Int)) (hq:1<=q):mt (met.set (o-1).toNat x) q=if q=o then x else mt met q:=by
 unfold mt
 rw [zGP,zGP,zHx]
 by_cases e:q=o
 ·subst e;rw [if_pos rfl,if_pos rfl,if_pos (by omega)];rfl
 ·rw [if_neg (by omega),if_neg e]
theorem zBs {met:List Int}{o x:Int}(h:1<=o/\o<=(met.length:Int)) (h0:mt met o=0) (hx:x≠0):Wp (met.set (o-1).toNat x)+1=Wp met:=by
 have hl:(o-1).toNat<met.length:=by omega
 have e:met[(o-1).toNat]'hl=0:=by
  have:=ztb h
  rw [h0,zGN hl] at this
  exact Option.some.inj this
 have hm:(0:Int)∈met:=by rw [<-e];exact zHi hl
 have hp:0<Wp met:=List.countP_pos_iff.2 ⟨0,hm,by simp⟩
 unfold Wp at hp ⊢
 rw [List.countP_set hl,e]
 simp [hx]
 omega
structure RI (h:zo) (R:BitVec 64) (met wait:List Int):Prop where
 len:met.length=64
 val:∀o,1<=o->0<=mt met o/\mt met o<=100-(Wp met:Int)
 rc:∀o,1<=o->0<mt met o->Reach h R o
 rt:∀o,zX R o=true->1<=o/\o<=(h.Objs.length:Int)->0<mt met o
 wt:∀o∈wait,(1<=o/\o<=(h.Objs.length:Int))/\0<mt met o
 cl:∀o,1<=o->0<mt met o->o∉wait->∀v∈zN h o,1<=v/\v<=(h.Objs.length:Int)->0<mt met v
 zl:Wp met<=64
theorem zDc (met:List Int):Wp met<=met.length:=List.countP_le_length
theorem RI.add {h:zo}{R:BitVec 64}{met wait:List Int}{o v:Int}(hn:h.Objs.length<=9) (I:RI h R met wait) (ho:o∈wait) (hv:v∈zN h o) (hr:1<=v/\v<=(h.Objs.length:Int)) (h0:mt met v=0) :
  RI h R (met.set (v-1).toNat (mt met o+1)) (wait++[v])/\Wp (met.set (v-1).toNat (mt met o+1))+1=Wp met:=by
 obtain ⟨ho1,ho2⟩:=I.wt o ho
 have hlen:=I.len
 have hvl:1<=v/\v<=(met.length:Int):=by omega
 have hz:=zBs (x:=mt met o+1) hvl h0 (by omega)
 have hval:=I.val o ho1.1
 have hzl:=I.zl
 have key:∀q,1<=q->0<mt met q->0<mt (met.set (v-1).toNat (mt met o+1)) q:=fun q hq hp=>by
  rw [zjY hvl hq];split<;>omega
 refine ⟨⟨by rw [zHh];exact hlen,fun q hq=>?_,fun q hq hp=>?_,fun q a b=>key q b.1 (I.rt q a b),fun q hq=>?_,fun q hq hp hw u hu hur=>?_,by omega⟩,hz⟩
 ·have:=I.val q hq
  rw [zjY hvl hq];split<;>omega
 ·rw [zjY hvl hq] at hp
  split at hp
  ·rename_i e;subst e;exact .step o q (I.rc o ho1.1 ho2) hv hr
  ·exact I.rc q hq hp
 ·rcases zG8.1 hq with hq | hq
  ·exact ⟨(I.wt q hq).1,key q (I.wt q hq).1.1 (I.wt q hq).2⟩
  ·simp at hq;subst hq
   refine ⟨hr,?_⟩
   rw [zjY hvl hr.1,if_pos rfl];omega
 ·have hw1:q∉wait:=fun e=>hw (zG9 _ e)
  have hw2:q≠v:=fun e=>hw (by rw [e];simp)
  rw [zjY hvl hq,if_neg hw2] at hp
  exact key u hur.1 (I.cl q hq hp hw1 u hu hur)
theorem RI.rm {h:zo}{R:BitVec 64}{met:List Int}{o:Int}{w:List Int}(I:RI h R met (o::w)) (hd:∀v∈zN h o,1<=v/\v<=(h.Objs.length:Int)->0<mt met v):RI h R met w :=
 ⟨I.len,I.val,I.rc,I.rt,fun q hq=>I.wt q (zGU _ hq),fun q hq hp hw v hv hr=>by
  by_cases e:q=o
  ·rw [e] at hv;exact hd v hv hr
  ·exact I.cl q hq hp (fun h=>(zG7.1 h).elim e hw) v hv hr,I.zl⟩
theorem zBo {h:zo}{R:BitVec 64}(hn:h.Objs.length<=9) {o:Int}{w0:List Int}{a7:List Int}(hs:(zN h o).length<1000000):∀(n:Nat) (met added:List Int) (i:Nat),(zN h o).length-i=n->i<=(zN h o).length->RI h R met (o::w0++added)->(o::w0++added).length+Wp met<=200 ->
  (∀v∈(zN h o).take i,1<=v/\v<=(h.Objs.length:Int)->0<mt met v)->∀m,n<m ->
  ∃met' added',xw vf m (wG (h.Objs.length:Int),o,zN h o,((zN h o).length:Int),(i:Int),h,a7,met,o::w0++added,())=some (.brk (wG (h.Objs.length:Int),h,a7,met',o::w0++added',())) /\
   RI h R met' (o::w0++added')/\(o::w0++added').length+Wp met'=(o::w0++added).length+Wp met/\Wp met'<=Wp met/\(∀v∈zN h o,1<=v/\v<=(h.Objs.length:Int)->0<mt met' v):=by
 intro n
 induction n with
 | zero =>
  intro met added i hk hi I hz hd m hm
  obtain ⟨m,rfl⟩:∃x,m=x+1:=⟨m-1,by omega⟩
  have e:i=(zN h o).length:=by omega
  subst e
  rw [zIm] at hd
  refine ⟨met,added,?_,I,rfl,zGQ _,hd⟩
  rw [xw,YU,zj,if_neg (by omega)];rfl
 | succ n ih =>
  intro met added i hk hi I hz hd m hm
  obtain ⟨m,rfl⟩:∃x,m=x+1:=⟨m-1,by omega⟩
  have hx:=zGN (show i<(zN h o).length by omega)
  generalize hxv:(zN h o)[i]'(by omega)=v at hx
  have hv:v∈zN h o:=zGT hx
  have hlen:=I.len
  have ho:=I.wt o (by simp)
  have hval:=I.val o ho.1.1
  have htk:(zN h o).take (i+1)=(zN h o).take i++[v]:=by rw [zH4,hx];rfl
  rw [xw,YU,zj,if_pos (by omega),xu hx,zGL,zqD,zGL]
  have hb:=zer hn v
  unfold zX at hb
  by_cases hr:1<=v/\v<=(h.Objs.length:Int)
  ·have hb1:=hb.2 hr
   dsimp only
   rw [hb1,cond_true,zV (a:=v-1) (by omega) (by omega),zqC (by omega) (by omega) (by omega),zGL,ztb (by omega),zGL,zj]
   by_cases h0:mt met v=0
   ·rw [if_pos h0,zV (a:=o-1) (by omega) (by omega),zqC (by omega) (by omega) (by omega),zGL,ztb (by omega),zGL,zGL,yq (by rw [zGZ];show _+1<_;omega),zGL,zV (a:=(i:Int)+1) (by omega) (by omega),zV (a:=mt met o+1) (by omega) (by omega),zGL]
    obtain ⟨I',hz'⟩:=I.add hn (by simp) hv hr h0
    dsimp only
    rw [zGR] at I' ⊢
    have hz2:(o::w0++(added++[v])).length=(o::w0++added).length+1:=by simp;omega
    obtain ⟨met',added',e1,e2,e3,e4,e5⟩:=ih (met.set (v-1).toNat (mt met o+1)) (added++[v]) (i+1) (by omega) (by omega) I' (by omega) (fun q hq hqr=>by
     rw [zjY (by omega) hqr.1]
     split
     ·omega
     ·rename_i hne
      rw [htk] at hq
      rcases zG8.1 hq with hq | hq
      ·exact hd q hq hqr
      ·simp at hq;exact absurd hq hne) m (by omega)
    refine ⟨met',added',?_,e2,by omega,by omega,e5⟩
    have:((i+1:Nat):Int)=(i:Int)+1:=by omega
    rw [<-this]
    exact e1
   ·rw [if_neg h0,zV (a:=(i:Int)+1) (by omega) (by omega),zGL]
    have hp:0<mt met v:=by have:=I.val v hr.1;omega
    obtain ⟨met',added',e1,e2⟩:=ih met added (i+1) (by omega) (by omega) I hz (fun q hq hqr=>by
     rw [htk] at hq
     rcases zG8.1 hq with hq | hq
     ·exact hd q hq hqr
     ·simp at hq;rw [hq];exact hp) m (by omega)
    refine ⟨met',added',?_,e2⟩
    have:((i+1:Nat):Int)=(i:Int)+1:=by omega
    rw [<-this]
    exact e1
  ·have hb1:(!(decide (wG (h.Objs.length:Int)&&&bit v=0#64)))=false:=by
    cases hc:(!(decide (wG (h.Objs.length:Int)&&&bit v=0#64))) with
    | false=>rfl
    | true=>exact absurd (hb.1 hc) hr
   dsimp only
   rw [hb1,cond_false,zV (a:=(i:Int)+1) (by omega) (by omega),zGL]
   obtain ⟨met',added',e1,e2⟩:=ih met added (i+1) (by omega) (by omega) I hz (fun q hq hqr=>by
    rw [htk] at hq
    rcases zG8.1 hq with hq | hq
    ·exact hd q hq hqr
    ·simp at hq;rw [hq] at hqr;exact absurd hqr hr) m (by omega)
   refine ⟨met',added',?_,e2⟩
   have:((i+1:Nat):Int)=(i:Int)+1:=by omega
   rw [<-this]
   exact e1
theorem zsr {A B D:Type}{f:A->Option (yC A B D)}{x:A}{b:B}{n:Nat}(h:xw f n x=some (.brk b)) (hn:n<=vQ):zP f x=some (.brk b):=by
 rw [Wf]
 have key:∀(n m:Nat) (x:A),xw f n x=some (.brk b)->n<=m->xw f m x=some (.brk b):=by
  intro n
  induction n with
  | zero=>intro m x h;cases h
  | succ n ih =>
   intro m x h hm
   obtain ⟨m,rfl⟩:∃q,m=q+1:=⟨m-1,by omega⟩
   simp only [xw,zGW] at h ⊢
   obtain ⟨s,h1,h2⟩:=h
   refine ⟨s,h1,?_⟩
   cases s with
   | again y=>exact ih m y h2 (by omega)
   | brk b'=>exact h2
   | ret c=>exact h2
 exact key n vQ x h hn
theorem zDD {h:zo}{R:BitVec 64}(hn:h.Objs.length<=9) (hs:∀o,(zN h o).length<1000000) {a7:List Int}:∀(n:Nat) (met wait:List Int),wait.length+2*Wp met<=n->wait.length+Wp met<=200->RI h R met wait->∀m,n<m ->
  ∃met',xw ZE m (wG (h.Objs.length:Int),h,a7,met,wait,())=some (.brk (a7,met',()))/\RI h R met' []:=by
 intro n
 induction n with
 | zero =>
  intro met wait hz hz2 I m hm
  obtain ⟨m,rfl⟩:∃x,m=x+1:=⟨m-1,by omega⟩
  have:wait=[]:=zHy (by omega)
  subst this
  refine ⟨met,?_,I⟩
  rw [xw,uI,zj,if_neg (by simp)];rfl
 | succ n ih =>
  intro met wait hz hz2 I m hm
  obtain ⟨m,rfl⟩:∃x,m=x+1:=⟨m-1,by omega⟩
  cases wait with
  | nil =>
   refine ⟨met,?_,I⟩
   rw [xw,uI,zj,if_neg (by simp)];rfl
  | cons o w =>
   have ho:=(I.wt o (by simp)).1
   have hso:=hs o
   have eo:=zGN (show (o-1).toNat<h.Objs.length by omega)
   have es:h.Objs[(o-1).toNat]'(by omega)=zN h o:=by unfold zN;rw [zGP,eo];rfl
   obtain ⟨met',added',e1,e2,e3,e4,e5⟩:=zBo (a7:=a7) hn (o:=o) (w0:=w) hso _ met [] 0 rfl (zHN _) (by simpa using I) (by simpa using hz2) (fun v hv=>by simp at hv) ((zN h o).length+1) (by omega)
   simp only [zGO,Int.natCast_zero] at e1 e3
   have e1:xw vf ((zN h o).length+1) (wG (h.Objs.length:Int),o,zN h o,((zN h o).length:Int),0,h,a7,met,o::w,())=some (.brk (wG (h.Objs.length:Int),h,a7,met',o::w++added',())):=e1
   have hidx:xx (o::w) 0=some 0:=by rw [wS (by omega) (by simp)];rfl
   rw [xw,uI,zj,if_pos (by simp),hidx,zGL]
   simp only [zHO,zGL,zq6,zG1,cond_false]
   rw [zV (a:=o-1) (by omega) (by omega),w8 (by omega),eo,zGL,es,zsr e1 (by have:vQ=18446744073709551616:=rfl;omega)]
   dsimp only [zGL]
   rw [zIa,zrZ,zGL,zGL]
   dsimp only
   rw [zIa] at e2
   exact ih met' (w++added') (by simp at e3 hz ⊢;omega) (by simp at e3 hz2 ⊢;omega) (e2.rm e5) m (by omega)
theorem zEJ (o:Int):mt (List.replicate 64 (0:Int)) o=0:=by
 unfold mt
 rw [zGP,zIb];split<;>rfl
theorem zBk {h:zo}{a1:BitVec 64}{a5:List Int}:∀(n i:Nat) (l met:List Int),l.length-i=n->i<=l.length->l.length<1000000->(∀o∈l,1<=o/\o<=9)->met.length=64->(∀o,1<=o->mt met o=if o∈l.take i then 1 else 0)->∀m,n<m ->
  ∃met',xw ZF m (a1,(l.length:Int),(i:Int),h,a5,met,l,())=some (.brk (a1,h,a5,met',l,()))/\met'.length=64/\∀o,1<=o->mt met' o=if o∈l then 1 else 0:=by
 intro n
 induction n with
 | zero =>
  intro i l met hk hi hl hr hm ht m hm2
  obtain ⟨m,rfl⟩:∃x,m=x+1:=⟨m-1,by omega⟩
  have e:i=l.length:=by omega
  subst e
  rw [zIm] at ht
  refine ⟨met,?_,hm,ht⟩
  rw [xw,Xh,zj,if_neg (by omega)];rfl
 | succ n ih =>
  intro i l met hk hi hl hr hm ht m hm2
  obtain ⟨m,rfl⟩:∃x,m=x+1:=⟨m-1,by omega⟩
  have hx:=zGN (show i<l.length by omega)
  generalize hxv:l[i]'(by omega)=v at hx
  have hv:=hr v (zGT hx)
  have htk:l.take (i+1)=l.take i++[v]:=by rw [zH4,hx];rfl
  rw [xw,Xh,zj,if_pos (by omega),wS (by omega) (by omega),zGL,zHs,hx,zGL,zV (a:=v-1) (by omega) (by omega),zqC (by omega) (by omega) (by omega),zGL,zV (a:=(i:Int)+1) (by omega) (by omega),zGL]
  obtain ⟨met',e1,e2⟩:=ih (i+1) l (met.set (v-1).toNat 1) (by omega) (by omega) hl hr (by rw [zHh];exact hm) (fun o ho=>by
   rw [zjY (by omega) ho,ht o ho,htk]
   by_cases e:o=v
   ·rw [if_pos e,if_pos (by rw [e];simp)]
   ·rw [if_neg e]
    by_cases e2:o∈l.take i
    ·rw [if_pos e2,if_pos (zG9 _ e2)]
    ·rw [if_neg e2,if_neg (fun h=>(zG8.1 h).elim e2 (fun h=>e (by simpa using h)))]) m (by omega)
  refine ⟨met',?_,e2⟩
  have:((i+1:Nat):Int)=(i:Int)+1:=by omega
  rw [<-this]
  exact e1
theorem zzq {met:List Int}(hl:met.length=64):∃S,zcI met=some (S,())/\∀o,zX S o=true↔1<=o/\0<mt met o:=by
 rw [zo3,zj,if_pos hl]
 have key:=xV (f:=zab) (fun a=>∃(i:Nat) (S:BitVec 64),i<=64/\a=(S,met,(i:Int),())/\∀o,zX S o=true↔(1<=o/\o<=(i:Int))/\0<mt met o) (fun a=>64-a.2.2.1.toNat) (fun o=>∃S,o= .brk (S,())/\∀o,zX S o=true↔1<=o/\0<mt met o) (by
  rintro _ ⟨i,S,hi,rfl,hS⟩
  rw [zmx,zj]
  by_cases c:(i:Int)<64
  ·have hx:=ztb (met:=met) (o:=(i:Int)+1) (by omega)
   rw [show ((i:Int)+1-1).toNat=i by omega] at hx
   rw [if_pos c,zqC (by omega) (by omega) c,zGL,zHs,hx,zGL,zj,zV (a:=(i:Int)+1) (by omega) (by omega),zfq,zGL]
   by_cases hp:0<mt met ((i:Int)+1)
   ·rw [if_pos hp]
    refine ⟨_,rfl,⟨i+1,_,by omega,rfl,fun o=>?_⟩,?_⟩
    ·dsimp only
     rw [wB _ (by omega),hS o]
     constructor
     ·rintro (⟨a,b⟩ | rfl)
      ·exact ⟨by omega,b⟩
      ·exact ⟨by omega,hp⟩
     ·rintro ⟨a,b⟩
      by_cases e:o=(i:Int)+1
      ·exact .inr e
      ·exact .inl ⟨by omega,b⟩
    ·show 64-((i:Int)+1).toNat<64-(i:Int).toNat
     omega
   ·rw [if_neg hp]
    refine ⟨_,rfl,⟨i+1,S,by omega,rfl,fun o=>?_⟩,?_⟩
    ·rw [hS o]
     constructor
     ·rintro ⟨a,b⟩;exact ⟨by omega,b⟩
     ·rintro ⟨a,b⟩
      by_cases e:o=(i:Int)+1
      ·rw [e] at b;exact absurd b hp
      ·exact ⟨by omega,b⟩
    ·show 64-((i:Int)+1).toNat<64-(i:Int).toNat
     omega
  ·rw [if_neg c]
   refine ⟨_,rfl,S,rfl,fun o=>?_⟩
   rw [hS o]
   have hi:i=64:=by omega
   subst hi
   constructor
   ·rintro ⟨a,b⟩;exact ⟨a.1,b⟩
   ·rintro ⟨a,b⟩
    refine ⟨⟨a,?_⟩,b⟩
    by_cases h:64<o
    ·exfalso
     unfold mt at b
     rw [zGP,zHQ (by omega)] at b
     exact absurd b (by show ¬(0:Int)<0;decide)
    ·show o<=64;omega) (0#64,met,0,()) ⟨0,0#64,by omega,rfl,fun o=>⟨fun e=>absurd e (YC o),fun e=>by have:=e.1;omega⟩⟩ (by show 64-0<18446744073709551616;decide)
 obtain ⟨o,e,S,rfl,hS⟩:=key
 refine ⟨S,?_,hS⟩
 exact congrArg (fun o=>Option.bind o _) e
theorem zxQ {h:zo}(hn:h.Objs.length<=9) (hs:∀l∈h.Objs,l.length<1000000) (R:BitVec 64):∃S,zaH h R=some (S,())/\∀o,zX S o=true↔Reach h R o:=by
 have hso:∀o,(zN h o).length<1000000:=fun o=>by
  unfold zN
  rw [zGP]
  cases hx:h.Objs[(o-1).toNat]? with
  | none=>show ([]:List Int).length<_;simp
  | some l=>exact hs l (zGT hx)
 have hF:=fun o=>zer hn o
 have hA:∀o,zX (R&&&wG (h.Objs.length:Int)) o=true↔zX R o=true/\1<=o/\o<=(h.Objs.length:Int):=fun o=>by rw [Vt,hF]
 have h9:∀o,zX (R&&&wG (h.Objs.length:Int)) o=true->o<=9:=fun o e=>by have:=(hA o).1 e;omega
 have hw:=zBW (R&&&wG (h.Objs.length:Int))
 have hwl:=zv7 (R&&&wG (h.Objs.length:Int))
 generalize hwd:XA (R&&&wG (h.Objs.length:Int))=wait at hw hwl
 obtain ⟨met,e1,m1,m2⟩:=zBk (h:=h) (a1:=wG (h.Objs.length:Int)) (a5:=List.replicate 64 (0:Int)) wait.length 0 wait (List.replicate 64 (0:Int)) rfl (zHN _) (by omega) (fun o ho=>by have:=(hw o).1 ho;omega) (by simp) (fun o _=>by rw [zEJ];simp) (wait.length+1) (by omega)
 have hz:=zDc met
 have I:RI h R met wait:=by
  refine ⟨m1,fun o ho=>?_,fun o ho hp=>?_,fun o ho hr=>?_,fun o ho=>?_,fun o ho hp hno=>?_,by omega⟩
  ·rw [m2 o ho];split<;>omega
  ·rw [m2 o ho] at hp
   split at hp
   ·rename_i hm
    have a:=(hA o).1 ((hw o).1 hm).2.2
    exact .root o a.1 a.2
   ·omega
  ·rw [m2 o hr.1,if_pos ((hw o).2 ⟨hr.1,by omega,(hA o).2 ⟨ho,hr⟩⟩)];decide
  ·have a:=(hA o).1 ((hw o).1 ho).2.2
   refine ⟨a.2,?_⟩
   rw [m2 o a.2.1,if_pos ho];decide
  ·rw [m2 o ho,if_neg hno] at hp;omega
 obtain ⟨met',e2,I'⟩:=zDD (a7:=List.replicate 64 (0:Int)) hn hso (wait.length+2*Wp met) met wait (zGQ _) (by omega) I (wait.length+2*Wp met+1) (by omega)
 obtain ⟨S,e3,hS⟩:=zzq I'.len
 refine ⟨S,?_,fun o=>?_⟩
 ·have hrd:vQ=18446744073709551616:=rfl
  have ew:Yh h R=some (met',()):=by
   rw [zde,zl0 _ (by omega),zGL,zBI h9,zGL,hwd]
   refine (congrArg (fun o=>Option.bind o _) (zsr e1 (by omega))).trans ?_
   rw [zGL]
   dsimp only
   refine (congrArg (fun o=>Option.bind o _) (zsr e2 (by omega))).trans ?_
   rw [zGL]
   dsimp only
   rw [zj,zj,zj,if_pos I'.len,if_pos (by simp),if_pos I'.len]
  rw [ztp,ew,zGL,e3];rfl
 ·rw [hS o]
  constructor
  ·rintro ⟨a,b⟩;exact I'.rc o a b
  ·intro r
   induction r with
   | root o h1 h2=>exact ⟨h2.1,I'.rt o h1 h2⟩
   | step o v _ h2 h3 ih=>exact ⟨h3.1,I'.cl o ih.1 ih.2 (by simp) v h2 h3⟩
def zqH (h:zo) (R:BitVec 64):BitVec 64:=match zaH h R with | some x=>x.1 | none=>0#64
theorem zAP {h:zo}(hn:h.Objs.length<=9) (hs:∀l∈h.Objs,l.length<1000000) (R:BitVec 64):zaH h R=some (zqH h R,()):=by
 obtain ⟨S,e,_⟩:=zxQ hn hs R
 unfold zqH
 rw [e]
theorem zlp {h:zo}(hn:h.Objs.length<=9) (hs:∀l∈h.Objs,l.length<1000000) (R:BitVec 64) (o:Int):zX (zqH h R) o=true↔Reach h R o:=by
 obtain ⟨S,e,h2⟩:=zxQ hn hs R
 unfold zqH
 rw [e]
 exact h2 o
end
end Go.Pe.G
namespace Go.Pe.G
open Go.Pe
noncomputable section
theorem zx3 (s:BitVec 64):List.Pairwise (fun a b:Int=>a<=b) (XA s):=by
 unfold XA
 rw [List.pairwise_map]
 refine (List.Pairwise.filter _ (List.pairwise_lt_range (n:=9))).imp (fun h=>?_)
 omega
theorem zzI (s:BitVec 64):(XA s).Nodup:=by
 unfold XA
 have:List.Pairwise (fun a b:Int=>a≠b) (((List.range 9).filter fun i=>s.getLsbD i).map fun i:Nat=>(i:Int)+1):=by
  rw [List.pairwise_map]
  refine (List.Pairwise.filter _ (List.pairwise_lt_range (n:=9))).imp (fun h=>?_)
  omega
 exact this
theorem zCA {s:BitVec 64}{o:Int}:o∈XA s↔zX s o=true/\o<=9:=by
 unfold XA
 rw [zG2]
 constructor
 ·rintro ⟨i,hi,rfl⟩
  rw [List.mem_filter,zHj] at hi
  refine ⟨(xm _ _).2 ⟨by omega,by omega,?_⟩,by omega⟩
  rw [show ((i:Int)+1-1).toNat=i by omega];exact hi.2
 ·rintro ⟨h,h9⟩
  obtain ⟨a,b,c⟩:=(xm _ _).1 h
  exact ⟨(o-1).toNat,List.mem_filter.2 ⟨zHj.2 (by omega),c⟩,by omega⟩
def zlg (s:za):BitVec 64:=s.T.Marks&&& ~~~s.T.Black
theorem zCM {s:za}(o:Int):zX (zlg s) o=true↔wW s.T o=1:=by
 unfold zlg
 rw [Vt,WS]
 constructor
 ·rintro ⟨a,b⟩
  have:=(xm _ _).1 a
  exact ⟨a,(zfe _ ⟨this.1,this.2.1⟩).1 b⟩
 ·rintro ⟨a,b⟩
  have:=(xm _ _).1 a
  exact ⟨a,(zfe _ ⟨this.1,this.2.1⟩).2 b⟩
theorem zDM {p:zb}(h:zB p) {nb k:Nat}{s:za}{gh:Gh}(G:FG p nb k s gh):List.Perm (vS p s gh) (XA (zlg s)):=by
 refine (List.perm_ext_iff_of_nodup G.B.nd (zzI _)).2 (fun o=>?_)
 rw [zCA,zCM,G.B.gr]
 exact ⟨fun e=>⟨e,((G.bag9 h).2 o ((G.B.gr o).2 e)).2⟩,fun e=>e.1⟩
theorem zCU {p:zb}(h:zB p) {nb k:Nat}{s:za}{gh:Gh}(G:FG p nb k s gh):ud (vS p s gh)=XA (zlg s) :=
 zpE (zcd _) (zx3 _) ((W5 _).trans (zDM h G))
theorem zxF {p:zb}(h:zB p) {k:Nat}{s:za}{gh:Gh}(G:FG p (zR p+1) k s gh):U6 s=some (XA (zlg s),()):=by
 rw [zCD h G,zCU h G]
def atS (g:zu) (a b v:Int):Int:=if g.Out=0 then (if a<=g.PC then (if g.PC<=b then v else 0) else 0) else 0
theorem zCJ (g:zu):zl8 g=some (atS g 0 1 g.Obj,()):=by
 rw [zu2,zjM]
 simp only [zj]
 unfold atS
 split
 ·split
  ·split<;>rfl
  ·rfl
 ·rfl
def zke (x:zc):Prop:=x.PC=21\/x.PC=22\/(x.Ret=22/\(x.PC=1\/x.PC=3))
instance (x:zc):Decidable (zke x):=by unfold zke;infer_instance
def zvt (a:BitVec 64) (x:zc):BitVec 64:=if zke x then (a|||zgl x.Buf)|||bit x.Old else a|||zgl x.Buf
def ztE (s:za):BitVec 64:=s.Ms.foldl zvt ((uS s).foldl (fun a g=>a|||bit (atS g 0 1 g.Obj)) 0#64)
theorem zeb {s:za}(hs:Yq s) (h1:s.Ws.length<=100) (h2:s.Ms.length<=100):XK s=some (ztE s,()):=by
 rw [zrc,zoV h1 h2,zGL]
 dsimp only
 have hl:(uS s).length<=200:=by
  unfold uS
  rw [zGZ,zHK,zHK]
  have:=zH5 (fun x:zh=>decide (x.PC=6)) s.Ws
  have:=zH5 (fun x:zc=>decide (x.PC=3\/x.PC=37)) s.Ms
  omega
 obtain ⟨e,_⟩:=Zs (f:=Xl) (fun j r=>(r,((uS s).length:Int),j,s,uS s,())) (fun r=>(r,s,())) (uS s) (by omega) (fun (a:BitVec 64) g=>a|||bit (atS g 0 1 g.Obj)) (fun _ _=>True) (s:=0#64) trivial
  (fun i r x hx hi hr=>by
   refine ⟨trivial,?_⟩
   show Xl (r,((uS s).length:Int),(i:Int),s,uS s,())=_
   rw [zet,zj,if_pos (by omega),wS (by omega) (by omega),zGL,zHs,hx,zGL,zCJ,zGL,zfq,zGL,yz (by omega)])
  (fun r hr=>by
   show Xl (r,((uS s).length:Int),((uS s).length:Int),s,uS s,())=_
   rw [zet,zj,if_neg (by omega)])
 rw [e,zGL]
 dsimp only
 obtain ⟨e,_⟩:=Zs (f:=Xf) (fun j r=>(r,s.Ms,(s.Ms.length:Int),j,())) (fun r=>(r,())) s.Ms (by omega) zvt (fun _ _=>True) (s:=(uS s).foldl (fun (a:BitVec 64) g=>a|||bit (atS g 0 1 g.Obj)) 0#64) trivial
  (fun i r x hx hi hr=>by
   refine ⟨trivial,?_⟩
   show Xf (r,s.Ms,(s.Ms.length:Int),(i:Int),())=_
   rw [zep,zj,if_pos (by omega),xu hx,zGL,zyA (hs.mu x (zGT hx)).2.1,zGL,yz (by omega),zfq,zGL]
   simp only [zj]
   unfold zvt
   by_cases c1:x.PC=21
   ·rw [if_pos c1,if_pos (show zke x from .inl c1)]
   rw [if_neg c1]
   by_cases c2:x.PC=22
   ·rw [if_pos c2,if_pos (show zke x from .inr (.inl c2))]
   rw [if_neg c2]
   by_cases c3:x.Ret=22
   ·rw [if_pos c3]
    by_cases c4:x.PC=1
    ·rw [if_pos c4,if_pos (show zke x from .inr (.inr ⟨c3,.inl c4⟩))]
    rw [if_neg c4]
    by_cases c5:x.PC=3
    ·rw [if_pos c5,if_pos (show zke x from .inr (.inr ⟨c3,.inr c5⟩))]
    ·rw [if_neg c5,if_neg (show ¬zke x by unfold zke;omega)]
   ·rw [if_neg c3,if_neg (show ¬zke x by unfold zke;omega)])
  (fun r hr=>by
   show Xf (r,s.Ms,(s.Ms.length:Int),(s.Ms.length:Int),())=_
   rw [zep,zj,if_neg (by omega)])
 rw [e];rfl
def zed (a:BitVec 64) (l:List zc):BitVec 64:=l.foldl (fun a x=>a|||zgl x.Regs) a
theorem zqp {s:za}(hs:Yq s):zbP s=some (zed 0#64 s.Ms,()):=by
 have hl:=hs.ms
 rw [zvi]
 obtain ⟨e,_⟩:=Zs (f:=VP) (fun j r=>(r,s.Ms,(s.Ms.length:Int),j,())) (fun r=>(r,())) s.Ms hl (fun (a:BitVec 64) x=>a|||zgl x.Regs) (fun _ _=>True) (s:=0#64) trivial
  (fun i r x hx hi hr=>by
   refine ⟨trivial,?_⟩
   show VP (r,s.Ms,(s.Ms.length:Int),(i:Int),())=_
   rw [zh0,zj,if_pos (by omega),xu hx,zGL,zyA (hs.mu x (zGT hx)).1,zGL,yz (by omega)])
  (fun r hr=>by
   show VP (r,s.Ms,(s.Ms.length:Int),(s.Ms.length:Int),())=_
   rw [zh0,zj,if_neg (by omega)])
 rw [e];rfl
def zlN (s:za):BitVec 64:=zqH s.H (s.P.Roots|||zed 0#64 s.Ms)
theorem zly {s:za}(hs:Yq s) (hn:s.H.Objs.length<=9):Ve s=some (zlN s,()):=by
 rw [zvC,zqp hs,zGL,zAP hn hs.obj,zGL];rfl
def zl6 (x:zh):Bool:= !decide (x.Obj=0)||decide (0<(x.Batch.length:Int))
def zoE (x:zc):Bool:= !decide (x.Obj=0)||decide (0<(x.Batch.length:Int)+(x.Buf.length:Int))
theorem zEe {l:List zh}(hl:l.length<1000000):yO l=some (l.any zl6,()):=by
 rw [uW,Zg]
 obtain ⟨o,e,ho⟩:=xV (f:=yN) (fun a=>∃i:Nat,i<=l.length/\a=(l,(l.length:Int),(i:Int),())/\l.any zl6=(l.drop i).any zl6) (fun a=>l.length-a.2.2.1.toNat) (fun o=>(o= .brk ()/\l.any zl6=false)\/∃i:Nat,o= .ret ((i:Int),())/\l.any zl6=true) (by
  rintro _ ⟨i,hi,rfl,ha⟩
  rw [uU,zj]
  by_cases c1:(i:Int)<(l.length:Int)
  ·have hx:=zGN (show i<l.length by omega)
   have hd:=zHz (show i<l.length by omega)
   generalize l[i]'(by omega)=x at hx hd
   rw [hd,List.any_cons] at ha
   have hq:zeU x=some (zl6 x,()):=by
    rw [zri];unfold zl6
    cases decide (x.Obj=0)<;>rfl
   rw [if_pos c1,xu hx,zGL,hq,zGL]
   cases hc:zl6 x with
   | true=>exact ⟨_,rfl,.inr ⟨i,rfl,by rw [ha,hc];rfl⟩⟩
   | false =>
    rw [yz (by omega)]
    refine ⟨_,rfl,⟨i+1,by omega,rfl,by rw [ha,hc];rfl⟩,?_⟩
    show l.length-((i+1:Nat):Int).toNat<l.length-(i:Int).toNat
    omega
  ·rw [if_neg c1]
   have:i=l.length:=by omega
   subst this
   rw [List.drop_length] at ha
   exact ⟨_,rfl,.inl ⟨rfl,ha⟩⟩) (l,(l.length:Int),0,()) ⟨0,by omega,rfl,rfl⟩ (by show l.length-0<18446744073709551616;omega)
 rw [e]
 rcases ho with ⟨rfl,hn⟩ | ⟨i,rfl,hn⟩
 ·rw [hn];rfl
 ·rw [hn]
  show some (decide ((0:Int)<=(i:Int)),())=_
  rw [decide_eq_true (by omega)]
theorem zEY {l:List zc}(hl:l.length<1000000) (hb:∀x∈l,x.Buf.length<1000000/\x.Batch.length<1000000):yK l=some (l.any zoE,()):=by
 rw [uF,u4]
 obtain ⟨o,e,ho⟩:=xV (f:=yH) (fun a=>∃i:Nat,i<=l.length/\a=(l,(l.length:Int),(i:Int),())/\l.any zoE=(l.drop i).any zoE) (fun a=>l.length-a.2.2.1.toNat) (fun o=>(o= .brk ()/\l.any zoE=false)\/∃i:Nat,o= .ret ((i:Int),())/\l.any zoE=true) (by
  rintro _ ⟨i,hi,rfl,ha⟩
  rw [uG,zj]
  by_cases c1:(i:Int)<(l.length:Int)
  ·have hx:=zGN (show i<l.length by omega)
   have hd:=zHz (show i<l.length by omega)
   have hm:=zHi (show i<l.length by omega)
   generalize l[i]'(by omega)=x at hx hd hm
   rw [hd,List.any_cons] at ha
   have hbx:=hb x hm
   have hq:zfg x=some (zoE x,()):=by
    rw [zqZ,zV (by omega) (by omega)];unfold zoE
    cases decide (x.Obj=0)<;>rfl
   rw [if_pos c1,xu hx,zGL,hq,zGL]
   cases hc:zoE x with
   | true=>exact ⟨_,rfl,.inr ⟨i,rfl,by rw [ha,hc];rfl⟩⟩
   | false =>
    rw [yz (by omega)]
    refine ⟨_,rfl,⟨i+1,by omega,rfl,by rw [ha,hc];rfl⟩,?_⟩
    show l.length-((i+1:Nat):Int).toNat<l.length-(i:Int).toNat
    omega
  ·rw [if_neg c1]
   have:i=l.length:=by omega
   subst this
   rw [List.drop_length] at ha
   exact ⟨_,rfl,.inl ⟨rfl,ha⟩⟩) (l,(l.length:Int),0,()) ⟨0,by omega,rfl,rfl⟩ (by show l.length-0<18446744073709551616;omega)
 rw [e]
 rcases ho with ⟨rfl,hn⟩ | ⟨i,rfl,hn⟩
 ·rw [hn];rfl
 ·rw [hn]
  show some (decide ((0:Int)<=(i:Int)),())=_
  rw [decide_eq_true (by omega)]
def zt0 (s:za):Bool:=(XA (zlg s)).isEmpty&& !(s.Ws.any zl6)&& !(s.Ms.any zoE)
theorem ztX {p:zb}(h:zB p) {k:Nat}{s:za}{gh:Gh}(G:FG p (zR p+1) k s gh):zdF s=some (zt0 s,()):=by
 have hs:=G.E.small
 rw [zs6,zxF h G,zGL,zEe hs.ws,zGL,zEY hs.ms (fun x hx=>(hs.mu x hx).2),zGL]
 unfold zt0
 dsimp only
 cases hl:XA (zlg s) with
 | nil =>
  show (bif decide ((0:Int)=0) then _ else _)=_
  rw [decide_eq_true rfl,cond_true]
  cases s.Ws.any zl6<;>rfl
 | cons a l =>
  rw [decide_eq_false (show ¬(((a::l).length:Nat):Int)=0 by rw [zG6];omega)];rfl
end
end Go.Pe.G
namespace Go.Pe.G
open Go.Pe
noncomputable section
theorem zCQ:∀t:Fin 64,cnt (BitVec.ofNat 64 t.1)=((Wm (BitVec.ofNat 64 t.1)).length:Int):=by decide +kernel
theorem zBG {s:BitVec 64}(h:s&&& ~~~63#64=0#64):cnt s=((Wm s).length:Int):=by
 have hs:s.toNat<64:=by
  have e:s=s&&&63#64:=by
   have:s=(s&&&63#64)|||(s&&& ~~~63#64):=by
    apply zIc
    intro i hi
    simp only [BitVec.getLsbD_or,zHV,zIo]
    cases s.getLsbD i<;>cases (63#64:BitVec 64).getLsbD i<;>simp [hi]
   rw [h,BitVec.or_zero] at this
   exact this
  rw [e,zHW]
  have:s.toNat&&&(63#64:BitVec 64).toNat<=(63#64:BitVec 64).toNat:=Nat.and_le_right
  have e63:(63#64:BitVec 64).toNat=63:=by decide
  omega
 have:=zCQ ⟨s.toNat,hs⟩
 have e:BitVec.ofNat 64 s.toNat=s:=by simp
 rw [e] at this
 exact this
theorem zuk {p:zb}(h:zB p):EG p (zR p+1) 0 (yv p) (gh0 p):=by
 have hms:∀x∈(yv p).Ms,x.PC=0:=fun x hx=>by
  obtain ⟨r,_,e⟩:=zG2.1 (show x∈p.Regs.map vh from hx)
  rw [<-e];rfl
 have hws:∀x∈(yv p).Ws,∃i:Nat,x=uw p i:=fun x hx=>by
  obtain ⟨j,_,e⟩:=zG2.1 (show x∈(List.range p.Workers.toNat).map (uw p) from hx)
  exact ⟨j,e.symm⟩
 have z:∀ {l:List Int},(∀v∈l,v=0)->l.sum=0:=fun {l} h=>by
  induction l with
  | nil=>rfl
  | cons a l ih=>rw [List.sum_cons,h a (zG4 ..),ih (fun v hv=>h v (zGU _ hv))];rfl
 have ho:zad (yv p)=0:=by
  unfold zad
  rw [z (fun v hv=>by
   obtain ⟨x,hx,rfl⟩:=zG2.1 hv
   obtain ⟨i,rfl⟩:=hws x hx
   rfl),z (fun v hv=>by
   obtain ⟨x,hx,rfl⟩:=zG2.1 hv
   have:=hms x hx
   unfold owX;rw [if_neg (by omega),if_neg (by omega)])]
  rfl
 have hold1:(yv p).Ms.flatMap (zW (yv p))=[]:=zaI (fun x hx=>by
  obtain ⟨r,_,e⟩:=zG2.1 (show x∈p.Regs.map vh from hx)
  rw [<-e]
  unfold zW
  rw [uu ⟨by show (0:Int)≠3;decide,by show (0:Int)≠33;decide,by show (0:Int)≠36;decide,by show (0:Int)≠37;decide,by show (0:Int)≠38;decide⟩];rfl)
 have hold2:(yv p).Ws.flatMap (zJ (yv p))=[]:=zaI (fun x hx=>by
  obtain ⟨i,rfl⟩:=hws x hx
  have hb:uw p i=V8 p ((i:Int)+1) (uw p i):=rfl
  unfold zJ
  rw [hb,ziz];rfl)
 have hb:vS p (yv p) (gh0 p)=Wm (Zk p):=by
  unfold vS
  rw [hold1,hold2,zGO,zGO,zz0 h]
 have hc:=zBG (zfY h)
 have hw:(yv p).Work=cnt (Zk p):=rfl
 have hl:=zlr h
 have hn:=h.n
 exact ⟨zFw h,by rw [hb,ho,hw,hc];omega,by rw [hw,hc];omega⟩
end
end Go.Pe.G
namespace Go.Pe.G
open Go.Pe
noncomputable section
theorem zzU {l:List Int}{v:Int}(hv:1<=v/\v<=64):∀(a:BitVec 64),zX a v=true\/v∈l->zX (l.foldl (fun s o=>s|||bit o) a) v=true:=by
 induction l with
 | nil=>rintro a (h | h);exact h;cases h
 | cons x l ih =>
  rintro a h
  refine ih _ ?_
  rw [wO]
  rcases h with h | h
  ·exact .inl (.inl h)
  ·rcases zG7.1 h with rfl | h
   ·exact .inl (.inr ((wB 0#64 hv v).2 (.inr rfl) |> fun h=>by simpa using h))
   ·exact .inr h
theorem zvN {v:Int}(hv:1<=v/\v<=64):∀(L:List (List Int)) (a:BitVec 64),(zX a v=true\/∃r∈L,v∈r)->zX (L.foldl (fun s l=>s|||zgl l) a) v=true
 | [],a,h=>by
  rcases h with h | ⟨r,h,_⟩
  ·exact h
  ·cases h
 | r::L,a,h=>by
  refine zvN hv L _ ?_
  rw [wO]
  rcases h with h | ⟨q,h,hq⟩
  ·exact .inl (.inl h)
  ·rcases zG7.1 h with rfl | h
   ·exact .inl (.inr (zzU hv _ (.inr hq)))
   ·exact .inr ⟨q,h,hq⟩
def LvH (p:zb) (h:zo) (o:Int):Prop:=Reach p.H (Zk p) o\/((p.H.Objs.length:Int)<o/\o<=(h.Objs.length:Int))
def ZY (p:zb) (h:zo):Prop:=∀o v,LvH p h o->v∈zN h o->v=0\/LvH p h v
def Zj (p:zb) (h:zo) (r:List Int):Prop:=∀v∈r,v=0\/LvH p h v
theorem LvH.mono {p:zb}{h h':zo}(hl:h.Objs.length<=h'.Objs.length) {o:Int}(L:LvH p h o):LvH p h' o:=by
 rcases L with L | L
 ·exact .inl L
 ·exact .inr (by omega)
theorem LvH.inn {p:zb}{h:zo}(hn:(p.H.Objs.length:Int)<=(h.Objs.length:Int)) {o:Int}(L:LvH p h o):1<=o/\o<=(h.Objs.length:Int):=by
 rcases L with L | L
 ·have:=L.in
  omega
 ·omega
theorem LvH.in {p:zb}(hp:zB p) {h:zo}(hn:(p.H.Objs.length:Int)<=(h.Objs.length:Int)) {o:Int}(L:LvH p h o):1<=o/\o<=(h.Objs.length:Int):=L.inn hn
theorem Zj.mono {p:zb}{h h':zo}(hl:h.Objs.length<=h'.Objs.length) {r:List Int}(R:Zj p h r):Zj p h' r:=fun v hv=>(R v hv).imp id (fun L=>L.mono hl)
theorem Zj.set {p:zb}{h:zo}{r:List Int}(R:Zj p h r) {v:Int}(hv:v=0\/LvH p h v) (i:Nat):Zj p h (r.set i v):=fun u hu=>by
 rcases zHB hu with h | rfl
 ·exact R u h
 ·exact hv
theorem Zj.reg {p:zb}{h:zo}{x:zc}(R:Zj p h x.Regs) (r:Int):zbH x r=0\/LvH p h (zbH x r):=by
 unfold zbH
 rw [zGP]
 cases hx:x.Regs[r.toNat]? with
 | none=>exact .inl rfl
 | some v=>exact R v (zGT hx)
theorem zAD {p:zb}{h:zo}(C:ZY p h) {a:Int}(ha:a=0\/LvH p h a) (i:Int):yV h a i=0\/LvH p h (yV h a i):=by
 unfold yV
 split
 ·rename_i hs
  simp only [WO,zGM,decide_eq_true_eq] at hs
  have L:LvH p h a:=ha.resolve_left (by omega)
  rw [zGP]
  cases hx:(zN h a)[i.toNat]? with
  | none=>exact .inl rfl
  | some v=>exact C a v L (zGT hx)
 ·exact .inl rfl
theorem zAQ {p:zb}{h:zo}(C:ZY p h) {a i v:Int}(hv:v=0\/LvH p h v):ZY p (U8 h a i v):=by
 intro o w L hw
 have hl:=zba h a i v
 have L':LvH p h o:=L.mono (by omega)
 have up:∀ {u:Int},(u=0\/LvH p h u)->(u=0\/LvH p (U8 h a i v) u):=fun hu=>hu.imp id (fun L=>L.mono (by omega))
 unfold U8 at hw
 split at hw
 ·rename_i hs
  obtain ⟨hs,_⟩:=hs
  simp only [WO,zGM,decide_eq_true_eq] at hs
  have hw:w∈(h.Objs.set (a-1).toNat ((zN h a).set i.toNat v)).getD (o-1).toNat []:=hw
  rw [zCW (by omega)] at hw
  split at hw
  ·rename_i e
   have es:zN h a=zN h o:=by unfold zN;rw [e]
   rcases zHB hw with h1 | rfl
   ·exact up (C o w L' (es▸h1))
   ·exact up hv
  ·exact up (C o w L' hw)
 ·exact up (C o w L' hw)
theorem zxk {p:zb}{h:zo}(hn:(p.H.Objs.length:Int)<=(h.Objs.length:Int)) (C:ZY p h):ZY p (uk h):=by
 intro o w L hw
 have hl:=zgo h
 have hin:=L.inn (by omega)
 by_cases ho:o<=(h.Objs.length:Int)
 ·have L':LvH p h o:=by
   rcases L with L | L
   ·exact .inl L
   ·exact .inr (by omega)
  have e:zN (uk h) o=zN h o:=by
   unfold zN uk
   rw [zGP,zGP,zHe (by omega)]
  rw [e] at hw
  exact (C o w L' hw).imp id (fun L=>L.mono (by omega))
 ·have e:zN (uk h) o=List.replicate h.Slots.toNat 0:=by
   unfold zN uk
   rw [zGP,zHm (by omega),show (o-1).toNat-h.Objs.length=0 by omega]
   rfl
  rw [e] at hw
  exact .inl (List.eq_of_mem_replicate hw)
structure RgI (p:zb) (s:za):Prop where
 hp:ZY p s.H
 rg:∀x∈s.Ms,Zj p s.H x.Regs
theorem zz8 {p:zb}{s:za}{m:Int}{x:zc}(hN:(p.H.Objs.length:Int)<=(s.H.Objs.length:Int)) (h9:s.H.Objs.length<1000000) (C:ZY p s.H) (R:Zj p s.H x.Regs) :
  ZY p (zA s m x).1.H/\Zj p (zA s m x).1.H (zA s m x).2.Regs/\s.H.Objs.length<=(zA s m x).1.H.Objs.length:=by
 have same:∀ {t:za}{y:zc},t.H=s.H->y.Regs=x.Regs->ZY p t.H/\Zj p t.H y.Regs/\s.H.Objs.length<=t.H.Objs.length:=fun e1 e2=>by rw [e1,e2];exact ⟨C,R,zGQ _⟩
 refine vu (motive:=fun r=>ZY p r.1.H/\Zj p r.1.H r.2.Regs/\s.H.Objs.length<=r.1.H.Objs.length) s m x ?_ ?_ ?_ ?_ ?_ ?_ ?_ ?_ ?_ ?_ ?_ ?_ ?_ ?_ ?_ ?_ ?_ ?_ ?_ ?_
 ·intro c;unfold mu0 zcm
  split
  ·exact same rfl rfl
  split
  ·exact same rfl rfl
  split
  ·exact same rfl rfl
  split
  ·exact same rfl rfl
  split
  ·exact same rfl rfl
  split
  ·exact ⟨C,R.set (R.reg _) _,zGQ _⟩
  ·exact ⟨C,R.set (.inl rfl) _,zGQ _⟩
 ·intro c;unfold mu1;split<;>exact same rfl rfl
 ·intro c;unfold mu2;exact same rfl rfl
 ·intro c;unfold mu3;refine same (by rw [WT]) ?_;dsimp only;split<;>rfl
 ·intro c;unfold zmF;exact ⟨C,R.set (zAD C (R.reg _) _) _,zGQ _⟩
 ·intro c;unfold zkr;refine same rfl ?_;dsimp only;split<;>rfl
 ·intro c;unfold zjf;refine same rfl ?_;dsimp only;split<;>rfl
 ·intro c;unfold zjG;refine same rfl ?_;dsimp only;split<;>rfl
 ·intro c;unfold zme
  have hl:=zba s.H (zbH x (opM s.P m x).A) (opM s.P m x).S (zbH x (opM s.P m x).R)
  exact ⟨zAQ C (R.reg _),R.mono (by dsimp only;omega),by dsimp only;omega⟩
 ·intro c;unfold zfi
  split
  ·split
   ·have hl:=zgo s.H
    have w:wc ((s.H.Objs.length:Int)+1)=(s.H.Objs.length:Int)+1:=xr (by omega) (by omega)
    refine ⟨zxk hN C,?_,by dsimp only;omega⟩
    refine Zj.set (R.mono (by dsimp only;omega)) (.inr (.inr ?_)) _
    rw [w]
    exact ⟨by omega,by dsimp only;omega⟩
   ·exact same rfl rfl
  ·exact same rfl rfl
 ·intro c;unfold zjL;refine same rfl ?_;dsimp only;split<;>rfl
 ·intro c;unfold zj8;refine same rfl ?_;dsimp only;repeat' split
  all_goals rfl
 ·intro c;unfold zmI;exact same rfl rfl
 ·intro c;unfold zj4;refine same rfl ?_;dsimp only;split<;>rfl
 ·intro c;unfold zjh;refine same rfl ?_;dsimp only;split<;>rfl
 ·intro c;unfold zjH;refine same rfl ?_;dsimp only;split<;>rfl
 ·intro c;unfold zhK;refine same (by rw [WT]) ?_;dsimp only;split<;>rfl
 ·intro c;unfold zmM;exact same rfl rfl
 ·intro c;unfold zn0;exact same rfl rfl
 ·exact same rfl rfl
theorem zFq {p:zb}(hp:zB p) {s:za}{m:Int}{x:zc}(hn:HOk p s.H) (C:ZY p s.H) (R:Zj p s.H x.Regs) :
  ZY p (zA s m x).1.H/\Zj p (zA s m x).1.H (zA s m x).2.Regs/\s.H.Objs.length<=(zA s m x).1.H.Objs.length:=by
 have hN:=hn.n
 have hM:=hp.most
 have hn6:=hp.n
 exact zz8 hN.1 (by omega) C R
theorem RgI.step {p:zb}{nb:Nat}(hp:zB p) {s:za}(E:EOk p nb s) (I:RgI p s) (m:Int):RgI p (yu s m):=by
 unfold yu
 split
 ·exact I
 cases hx:s.Ms[(m-1).toNat]? with
 | none=>exact I
 | some x =>
  obtain ⟨h1,h2,h3⟩:=zFq (m:=m) hp E.H I.hp (I.rg x (zGT hx))
  refine ⟨h1,fun y hy=>?_⟩
  rcases zHB hy with hy | rfl
  ·exact (I.rg y hy).mono h3
  ·exact h2
theorem zFL {p:zb}(hp:zB p):RgI p (yv p):=by
 have hn:=hp.n
 refine ⟨fun o v L hv=>?_,fun x hx v hv=>?_⟩
 ·by_cases h0:v=0
  ·exact .inl h0
  refine .inr (.inl ?_)
  rcases L with L | L
  ·have r:=L
   have ho:=r.in
   have hm:zN p.H o∈p.H.Objs:=by
    unfold zN
    rw [zGP,zGN (show (o-1).toNat<p.H.Objs.length by omega)]
    exact zHi _
   have:=(hp.objs _ hm).2 v hv
   exact .step o v r hv (by omega)
  ·have:o<=(p.H.Objs.length:Int):=L.2
   omega
 ·have hx:x∈p.Regs.map vh:=hx
  obtain ⟨r,hr,rfl⟩:=zG2.1 hx
  have hv:v∈r:=hv
  have:=(hp.reg r hr).2 v hv
  by_cases h0:v=0
  ·exact .inl h0
  exact .inr (.inl (.root v (zvN (by omega) _ _ (.inr ⟨r,hr,hv⟩)) (by omega)))
end
end Go.Pe.G
namespace Go.Pe.G
open Go.Pe
noncomputable section
theorem zwm (a b:BitVec 64):a&&& ~~~b=0#64↔∀o,zX a o=true->zX b o=true:=by
 constructor
 ·intro h o ho
  have hr:=(xm _ _).1 ho
  refine Classical.byContradiction (fun hb=>?_)
  have:zX (a&&& ~~~b) o=true:=(Vt _ _ _).2 ⟨ho,(zfe b ⟨hr.1,hr.2.1⟩).2 hb⟩
  rw [h] at this
  exact YC o this
 ·intro h
  refine zuV (fun o=>⟨fun e=>?_,fun e=>absurd e (YC o)⟩)
  obtain ⟨e1,e2⟩:=(Vt _ _ _).1 e
  have hr:=(xm _ _).1 e1
  exact absurd (h o e1) ((zfe b ⟨hr.1,hr.2.1⟩).1 e2)
end
end Go.Pe.G
namespace Go.Pe.G
open Go.Pe
noncomputable section
theorem zxb {v:Int}:∀(l:List Int) (a:BitVec 64),zX (l.foldl (fun s o=>s|||bit o) a) v=true->zX a v=true\/v∈l
 | [],a,h=>.inl h
 | o::l,a,h=>by
  rcases zxb l _ h with h | h
  ·rcases zfS h with h | rfl
   ·exact .inl h
   ·exact .inr (zG4 ..)
  ·exact .inr (zGU _ h)
theorem zr5 {v:Int}:∀(l:List zc) (a:BitVec 64),zX (zed a l) v=true->zX a v=true\/∃x∈l,v∈x.Regs
 | [],a,h=>.inl h
 | x::l,a,h=>by
  rcases zr5 l _ h with h | ⟨y,hy,h⟩
  ·rcases (wO _ _ _).1 h with h | h
   ·exact .inl h
   ·rcases zxb _ _ h with h | h
    ·exact absurd h (YC v)
    ·exact .inr ⟨x,zG4 ..,h⟩
  ·exact .inr ⟨y,zGU _ hy,h⟩
theorem zxo {v:Int}(hv:1<=v/\v<=64):∀(l:List zc) (a:BitVec 64),(zX a v=true\/∃x∈l,v∈x.Regs)->zX (zed a l) v=true
 | [],a,h=>by
  rcases h with h | ⟨x,h,_⟩
  ·exact h
  ·cases h
 | x::l,a,h=>by
  refine zxo hv l _ ?_
  rcases h with h | ⟨y,hy,h⟩
  ·exact .inl ((wO _ _ _).2 (.inl h))
  ·rcases zG7.1 hy with rfl | hy
   ·exact .inl ((wO _ _ _).2 (.inr (zzU hv _ (.inr h))))
   ·exact .inr ⟨y,hy,h⟩
def zkh (s:za):zb:={s.P with H:=s.H,Roots:=s.P.Roots|||zed 0#64 s.Ms,Regs:=[]}
theorem zwv (s:za):Zk (zkh s)=s.P.Roots|||zed 0#64 s.Ms:=rfl
theorem zBx {p:zb}{s:za}(H:HOk p s.H) (I:RgI p s) {x:zc}(hx:x∈s.Ms) {v:Int}(hv:v∈x.Regs):v=0\/(1<=v/\v<=(s.H.Objs.length:Int)) :=
 (I.rg x hx v hv).imp id (fun L=>L.inn H.n.1)
theorem zBg {p:zb}{s:za}(H:HOk p s.H):ZY (zkh s) s.H:=by
 intro o v L hv
 rcases L with L | L
 ·have ho:=L.in
  have hm:zN s.H o∈s.H.Objs:=by
   have ho:1<=o/\o<=(s.H.Objs.length:Int):=ho
   unfold zN
   rw [zGP,zGN (show (o-1).toNat<s.H.Objs.length by omega)]
   exact zHi _
  have hr:=(H.objs _ hm).2 v hv
  by_cases h0:v=0
  ·exact .inl h0
  ·exact .inr (.inl (.step o v L hv ⟨by omega,hr.2⟩))
 ·have L:(s.H.Objs.length:Int)<o/\o<=(s.H.Objs.length:Int):=L
  omega
theorem zCY {p:zb}(hp:zB p) {s:za}(H:HOk p s.H) (I:RgI p s):∀x∈s.Ms,Zj (zkh s) s.H x.Regs:=by
 intro x hx v hv
 have hN:=H.n
 have hn:=hp.n
 have hmo:=hp.most
 refine (zBx H I hx hv).imp id (fun hr=>.inl (.root v ?_ hr))
 have hr:1<=v/\v<=(s.H.Objs.length:Int):=hr
 rw [zwv]
 exact (wO _ _ _).2 (.inr (zxo (by omega) _ _ (.inr ⟨x,hx,hv⟩)))
theorem zCy {s n:za}(hP:n.P=s.P) (C:ZY (zkh s) n.H) (R:∀x∈n.Ms,Zj (zkh s) n.H x.Regs) {o:Int}(h:Reach n.H (n.P.Roots|||zed 0#64 n.Ms) o):LvH (zkh s) n.H o:=by
 induction h with
 | root o h1 h2 =>
  rcases (wO _ _ _).1 h1 with h | h
  ·by_cases hl:o<=(s.H.Objs.length:Int)
   ·refine .inl (.root o ?_ ⟨h2.1,hl⟩)
    rw [zwv,<-hP]
    exact (wO _ _ _).2 (.inl h)
   ·exact .inr ⟨by show (s.H.Objs.length:Int)<o;omega,h2.2⟩
  ·rcases zr5 _ _ h with h | ⟨x,hx,h⟩
   ·exact absurd h (YC o)
   ·exact (R x hx o h).resolve_left (by omega)
 | step o v _ h2 h3 ih=>exact (C o v ih h2).resolve_left (by omega)
theorem zDR {p:zb}(hp:zB p) {nb:Nat}{s:za}(E:EOk p nb s) (I:RgI p s) (j:Int):ZY (zkh s) (zak s j).H/\(∀x∈(zak s j).Ms,Zj (zkh s) (zak s j).H x.Regs)/\RgI p (zak s j):=by
 have C0:=zBg E.H
 have R0:=zCY hp E.H I
 have hN:=E.H.n
 have hn:=hp.n
 have hmo:=hp.most
 have same:∀ {t:za},t.H=s.H->t.Ms=s.Ms->ZY (zkh s) t.H/\(∀x∈t.Ms,Zj (zkh s) t.H x.Regs)/\RgI p t:=fun e1 e2=>by
  refine ⟨by rw [e1];exact C0,by rw [e1,e2];exact R0,⟨by rw [e1];exact I.hp,by rw [e1,e2];exact I.rg⟩⟩
 unfold zak
 split
 ·have hf:=zv8 s
  exact same (by conv=>rhs;rw [<-hf]) (by conv=>rhs;rw [<-hf])
 split
 ·have hf:=zrQ E j
  exact same (by rw [hf]) (by rw [hf])
 ·generalize j-(s.Ws.length:Int)=m
  have hR:=I.step hp E m
  refine ⟨?_,?_,hR⟩<;>revert hR<;>unfold yu<;>(split;· intro _;first | exact C0 | exact R0)
  all_goals
   intro _
   cases hx:s.Ms[(m-1).toNat]? with
   | none=>first | exact C0 | exact R0
   | some x =>
    obtain ⟨h1,h2,h3⟩:=zz8 (p:=zkh s) (m:=m) (zHv _) (by omega) C0 (R0 x (zGT hx))
    first | exact h1 | exact fun y hy=>(zHB hy).elim (fun hy=>(R0 y hy).mono h3) (fun e=>e▸h2)
end
end Go.Pe.G
namespace Go.Pe.G
open Go.Pe
noncomputable section
namespace B19
theorem zym {p:zb}(hp:zB p) {nb:Nat}:∀(l:List zg) {k:Nat}{s:za}{gh:Gh},(∀x∈l,YH p x)->k+l.length<2147480000->EG p nb k s gh->∃k' gh',k'<=k+l.length/\EG p nb k' (uJ s l).1 gh'
 | [],k,s,gh,_,_,I=>⟨k,gh,by simp,I⟩
 | x::l,k,s,gh,hx,hk,I=>by
  rw [zG6] at hk
  rw [zqv]
  split
  ·exact ⟨k,gh,by simp,I⟩
  ·obtain ⟨gh',I',_⟩:=I.next hp (by omega) (ziI p x)
   rw [<-zwo hp I.G.E (hx x (zG4 ..))] at I'
   obtain ⟨k',gh2,h1,h2⟩:=zym hp l (fun y hy=>hx y (zGU _ hy)) (by omega) I'
   exact ⟨k',gh2,by rw [zG6];omega,h2⟩
theorem zvP {p:zb}(hp:zB p) {nb:Nat}{l:List zg}(hl:∀x∈l,YH p x) (hlen:l.length<=10):∀(n:Nat) {k:Nat}{s:za}{gh:Gh},k+10*n<2147480000->EG p nb k s gh->∃k' gh',k'<=k+10*n/\EG p nb k' (uA l n s).1 gh'
 | 0,k,s,gh,_,I=>⟨k,gh,by omega,I⟩
 | n+1,k,s,gh,hk,I=>by
  rw [zp6]
  split
  ·exact ⟨k,gh,by omega,I⟩
  ·obtain ⟨k1,gh1,h1,I1⟩:=zym hp l hl (by omega) I
   obtain ⟨k',gh',h2,I2⟩:=zvP hp hl hlen n (by omega) I1
   exact ⟨k',gh',by omega,I2⟩
theorem zDS {p:zb}(hp:zB p) {n m:Nat}(hn:(n:Int)=p.Workers) (hm:(m:Int)=p.Mutators):(∀x∈Xk n m,YH p x)/\(Xk n m).length<=10:=by
 have hw:=hp.wk
 have hmt:=hp.mt
 refine ⟨fun x hx=>?_,by simp [Xk,zlm];omega⟩
 have hp':∀k n,x∈zav k n->x.Kind=k/\1<=x.N/\x.N<=(n:Int):=fun k n h=>by
  obtain ⟨i,hi,rfl⟩:=zG2.1 (show x∈(List.range n).map _ from h)
  have:=zHj.1 hi
  exact ⟨rfl,by show (1:Int)<=(i:Int)+1;omega,by show (i:Int)+1<=(n:Int);omega⟩
 rcases zG8.1 (show x∈(⟨0,0⟩::zav 1 n)++zav 2 m from hx) with h | h
 ·rcases zG7.1 h with rfl | h
  ·exact .inl ⟨rfl,rfl⟩
  ·have:=hp' 1 n h;exact .inr (.inl ⟨this.1,this.2.1,by omega⟩)
 ·have:=hp' 2 m h;exact .inr (.inr ⟨this.1,this.2.1,by omega⟩)
theorem zDl {p:zb}{nb k:Nat}{s:za}{gh:Gh}(G:FG p nb k s gh) (h:yg (ld s.M (zZ p))=0):gh.F=[]:=by
 have c:=G.X.L.cF
 rw [h] at c
 cases hf:gh.F with
 | nil=>rfl
 | cons y l =>
  rw [hf] at c
  have c:_/\_:=c
  omega
theorem zx9 {p:zb}(h:zB p) {nb k:Nat}{s:za}{gh:Gh}(G:FG p nb k s gh) {x:zh}(hx:s.Ws[0]? =some x) (h0:x.PC≠0):u9 s 1=some (ud (zJ s x++XW s.M (zI p 1) p.Cap ⟨0,0,0,0,0#64,0#64,0,0⟩),()):=by
 have hwk:=h.wk
 have:=zrA h G hx
 have D:=G.X.D 1 (by omega) (by omega)
 have hc:=(G.W 0 x hx).c0 h0
 rw [show ((0:Nat):Int)+1=1 from rfl] at this hc
 rw [hc] at D
 rw [zoI h (by omega) D (fun e=>absurd e.1 (by show ¬(0:Int)=2;decide))]
 exact this
theorem zBD {A B D:Type}{f:A->Option (yC A B D)}{x y:A}{b:B}(h1:f x=some (.again y)) (h:f y=some (.brk b)):zP f x=some (.brk b):=by
 rw [Wf]
 show xw f (18446744073709551614+1+1) x=_
 rw [xw,h1,zGL]
 dsimp only
 rw [xw,h];rfl
def zw1:List zm:=[⟨1,1,0,0⟩,⟨5,1,0,0⟩,⟨2,1,0,0⟩]
def pEx:zb:=⟨1,1,2,1,1,4,2,2,⟨1,[[2],[0],[0]]⟩,1#64,[[1,0]],[zw1],[]⟩
theorem zDA:zaS [zw1]=some (pEx,()):=by
 rw [zm8,zBD (by rw [za3,zj,if_pos (by decide),yq (by decide),zGL,w8 (by decide)];simp only [Int.toNat_zero,zHO,zGL];rw [yq (by decide),zGL,zV (by decide) (by decide)]) (by rw [za3,zj,if_neg (by decide)])];rfl
theorem UY:zB pEx:=by
 constructor
 case objs=>intro o ho;simp [pEx] at ho ⊢;rcases ho with rfl | rfl | rfl<;>simp
 case roots=>exact ⟨1,by decide,by decide,by decide⟩
 case reg=>intro r hr;simp [pEx] at hr ⊢;subst hr;simp
 case prog =>
  intro k r ops hr ho
  cases k with
  | succ k=>cases ho
  | zero =>
   injection hr with hr
   injection ho with ho
   subst hr;subst ho
   refine ⟨by decide,fun o h=>?_⟩
   simp [zw1] at h
   rcases h with rfl | rfl | rfl
   ·exact ⟨by decide,.inl ⟨.inl rfl,by decide,by decide⟩⟩
   ·exact ⟨by decide,.inr (.inr ⟨.inr rfl,rfl,rfl⟩)⟩
   ·exact ⟨by decide,.inl ⟨.inr rfl,by decide,by decide⟩⟩
 all_goals first | decide | rfl
def mEx:List zg:=[⟨2,1⟩]
def wEx:List zg:=[⟨1,1⟩,⟨1,1⟩,⟨1,1⟩,⟨1,1⟩,⟨1,1⟩,⟨1,1⟩,⟨1,1⟩]
def aEx:za:=(List.replicate 6 ()).foldl (fun r _=>(uJ r mEx).1) (yv pEx)
def bEx:za:=(uJ aEx mEx).1
def cEx:za:=(uJ bEx mEx).1
def dEx:za:=(uA (Xk 1 1) 900 cEx).1
def vEx:za:=(uJ (yv pEx) wEx).1
theorem zxX:∀x∈mEx,YH pEx x:=fun x hx=>by rw [zHo.1 hx];exact .inr (.inr ⟨rfl,by decide,by decide⟩)
theorem zFz:∀x∈wEx,YH pEx x:=fun x hx=>by
 have:x=⟨1,1⟩:=by simpa [wEx] using hx
 rw [this];exact .inr (.inl ⟨rfl,by decide,by decide⟩)
def EGx (k:Nat) (s:za):Prop:=∃k' gh,k'<=k/\EG pEx (zR pEx+1) k' s gh
theorem zqF {k:Nat}{s:za}(h:EGx k s) (hk:k<1000000) {l:List zg}(hl:∀x∈l,YH pEx x) (hlen:l.length<=10):EGx (k+10) (uJ s l).1:=by
 obtain ⟨k',gh,h1,I⟩:=h
 obtain ⟨k2,gh2,h2,I2⟩:=zym UY l hl (by omega) I
 exact ⟨k2,gh2,by omega,I2⟩
theorem zFF:EGx 60 aEx:=by
 have h0:EGx 0 (yv pEx):=⟨0,gh0 pEx,by omega,zuk UY⟩
 have go:∀(n:Nat) {k:Nat}{s:za},k+10*n<1000000->EGx k s->EGx (k+10*n) ((List.replicate n ()).foldl (fun r _=>(uJ r mEx).1) s):=by
  intro n
  induction n with
  | zero=>intro k s _ h;exact h
  | succ n ih =>
   intro k s hk h
   rw [List.replicate_succ,zHH]
   have:=ih (k:=k+10) (by omega) (zqF h (by omega) zxX (by decide))
   rwa [show k+10+10*n=k+10*(n+1) by omega] at this
 exact go 6 (by omega) h0
theorem zFe:EGx 70 bEx:=zqF zFF (by omega) zxX (by decide)
theorem zFA:EGx 80 cEx:=zqF zFe (by omega) zxX (by decide)
theorem zGA:EGx 10 vEx:=zqF ⟨0,gh0 pEx,by omega,zuk UY⟩ (by omega) zFz (by decide)
theorem zGw:EGx 10000 dEx:=by
 obtain ⟨k,gh,h1,I⟩:=zFA
 obtain ⟨a,b⟩:=zDS UY (n:=1) (m:=1) rfl rfl
 obtain ⟨k',gh',h2,I2⟩:=zvP UY a b 900 (by omega) I
 exact ⟨k',gh',by omega,I2⟩
theorem zEN:zP wQ (mEx,0,yv pEx,yv pEx,())=some (.brk (mEx,yv pEx,aEx,())):=by
 have E0:=zB7 UY
 have:=Zs (f:=wQ) (fun j r=>(mEx,j,yv pEx,r,())) (fun r=>(mEx,yv pEx,r,())) (List.replicate 6 ()) (by decide) (fun r _=>(uJ r mEx).1) (fun _ r=>EOk pEx (zR pEx+1) r) (s:=yv pEx) E0
  (fun i r x hx hi E=>by
   have hi:i<6:=by simpa using hi
   refine ⟨zxe UY mEx E,?_⟩
   show wQ (mEx,(i:Int),yv pEx,r,())=_
   rw [Ug,zj,if_pos (by omega),zdO UY E (by decide),zGL,yz (by omega)])
  (fun r E=>by
   show wQ (mEx,6,yv pEx,r,())=_
   rw [Ug,zj,if_neg (by decide)])
 exact this.1
theorem zEy (a b:List Int) (ha:a.length<1000000):ZZ a b=some (decide (a=b),()):=by
 rw [zos,yx]
 by_cases hl:a.length=b.length
 rotate_left
 ·rw [if_neg (by omega),decide_eq_false (fun e=>hl (by rw [e]))]
 rw [if_pos (by omega)]
 obtain ⟨o,e,ho⟩:=xV (f:=Um) (fun c=>∃i:Nat,i<=a.length/\c=(a,b,(i:Int),())/\(a=b↔a.drop i=b.drop i)) (fun c=>a.length-c.2.2.1.toNat) (fun o=>(o= .brk ()/\a=b)\/(o= .ret (false,())/\a≠b)) (by
  rintro _ ⟨i,hi,rfl,h⟩
  rw [zk2,zj]
  by_cases c1:(i:Int)<(a.length:Int)
  ·have hx:=zGN (show i<a.length by omega)
   have hy:=zGN (show i<b.length by omega)
   have dx:=zHz (show i<a.length by omega)
   have dy:=zHz (show i<b.length by omega)
   generalize a[i]'(by omega)=x at hx dx
   generalize b[i]'(by omega)=y at hy dy
   rw [dx,dy,List.cons.injEq] at h
   rw [if_pos c1,xu hx,zGL,xu hy,zGL,yx]
   by_cases c2:x=y
   ·rw [if_pos c2,yz (by omega)]
    refine ⟨_,rfl,⟨i+1,by omega,rfl,h.trans ⟨fun e=>e.2,fun e=>⟨c2,e⟩⟩⟩,?_⟩
    show a.length-((i+1:Nat):Int).toNat<a.length-(i:Int).toNat
    omega
   ·rw [if_neg c2]
    exact ⟨_,rfl,.inr ⟨rfl,fun e=>c2 (h.1 e).1⟩⟩
  ·rw [if_neg c1]
   have:i=a.length:=by omega
   refine ⟨_,rfl,.inl ⟨rfl,h.2 ?_⟩⟩
   rw [List.drop_of_length_le (by omega),List.drop_of_length_le (by omega)]) (a,b,0,()) ⟨0,by omega,rfl,Iff.rfl⟩ (by show a.length-0<18446744073709551616;omega)
 rw [e]
 rcases ho with ⟨rfl,h⟩ | ⟨rfl,h⟩
 ·rw [decide_eq_true h];rfl
 ·rw [decide_eq_false h];rfl
theorem zyt {h:zo}(hn:h.Objs.length<=9) (hs:∀l∈h.Objs,l.length<1000000) (R S:BitVec 64) (h1:∀o,Reach h R o↔zX S o=true):zqH h R=S:=zuV (fun o=>(zlp hn hs R o).trans (h1 o))
theorem zuM {o:Int}:zX 1#64 o=true↔o=1:=by
 rw [show (1#64:BitVec 64)=bit 1 by decide]
 exact ⟨fun e=>zxd e,fun e=>by rw [e];decide⟩
theorem zGx {o:Int}:zX 3#64 o=true↔o=1\/o=2:=by
 rw [show (3#64:BitVec 64)=1#64|||bit 2 by decide,wB _ (by decide),zuM]
theorem zCX:zlN (yv pEx)=3#64:=by
 have eR:(yv pEx).P.Roots|||zed 0#64 (yv pEx).Ms=1#64:=by decide +kernel
 have eH:(yv pEx).H=⟨1,[[2],[0],[0]]⟩:=rfl
 unfold zlN
 rw [eR,eH]
 refine zyt (by decide) (by intro l hl;simp at hl;rcases hl with rfl | rfl | rfl<;>decide) _ _ (fun o=>?_)
 rw [zGx]
 constructor
 ·intro r
  induction r with
  | root o h1 h2=>exact .inl (zuM.1 h1)
  | step o v _ h2 h3 ih =>
   rcases ih with rfl | rfl
   ·have h2:v∈([2]:List Int):=h2
    exact .inr (zHo.1 h2)
   ·have h2:v∈([0]:List Int):=h2
    have:=zHo.1 h2
    omega
 ·have r1:Reach ⟨1,[[2],[0],[0]]⟩ 1#64 1:= .root 1 (zuM.2 rfl) (by decide)
  rintro (rfl | rfl)
  ·exact r1
  ·exact .step 1 2 r1 (by show (2:Int)∈([2]:List Int);decide) (by decide)
theorem zFu:zlN cEx=1#64:=by
 have eR:cEx.P.Roots|||zed 0#64 cEx.Ms=1#64:=by decide +kernel
 have eH:cEx.H=⟨1,[[0],[0],[0]]⟩:=by kernel_rfl
 unfold zlN
 rw [eR,eH]
 refine zyt (by decide) (by intro l hl;simp at hl;subst hl;decide) _ _ (fun o=>?_)
 rw [zuM]
 constructor
 ·intro r
  induction r with
  | root o h1 h2=>exact zuM.1 h1
  | step o v _ h2 h3 ih =>
   subst ih
   have h2:v∈([0]:List Int):=h2
   have:=zHo.1 h2
   omega
 ·rintro rfl
  exact .root 1 (zuM.2 rfl) (by decide)
theorem zwC:V7=some (true,()):=by
 have h:=UY
 have I0:=zuk UY
 have E0:=I0.G.E
 obtain ⟨ka,ga,_,Ia⟩:=zFF
 obtain ⟨kb,gb,_,Ib⟩:=zFe
 obtain ⟨kc,gc,_,Ic⟩:=zFA
 obtain ⟨kd,gd,_,Id⟩:=zGw
 obtain ⟨kv,gv,_,Iv⟩:=zGA
 have sa:=Ia.G.E
 have sb:=Ib.G.E
 have sc:=Ic.G.E
 have lw:∀ {s:za},EOk pEx (zR pEx+1) s->s.Ws.length<=100/\s.Ms.length<=100:=fun E=>by
  have a:((_:Nat):Int)=1:=E.wl
  have b:((_:Nat):Int)=1:=E.ml
  omega
 have rb:u6 aEx mEx=some (bEx,(uJ aEx mEx).2,()):=zdO h sa (by decide)
 have rc:u6 bEx mEx=some (cEx,(uJ bEx mEx).2,()):=zdO h sb (by decide)
 have rd:zap cEx 900=some (dEx,(uA (Xk 1 1) 900 cEx).2,()):=by
  have e1:cEx.Ws.length=1:=by have:=sc.wl;have:((cEx.Ws.length:Nat):Int)=1:=this;omega
  have e2:cEx.Ms.length=1:=by have:=sc.ml;have:((cEx.Ms.length:Nat):Int)=1:=this;omega
  have:=zwQ h sc (most:=900) (by decide)
  rw [e1,e2] at this
  exact this
 have rv:u6 (yv pEx) wEx=some (vEx,(uJ (yv pEx) wEx).2,()):=zdO h E0 (by decide)
 have hv:ZO vEx=some ([],()):=by
  rw [(znP h Iv.G).1,zDl Iv.G (by decide +kernel)];rfl
 have hl0:ZO (yv pEx)=some ([1],()):=by
  rw [(znP h I0.G).1]
  have:ud ((gh0 pEx).F.flatMap (yw (yv pEx)))=[1]:=by decide +kernel
  rw [this]
 have hh0:U6 (yv pEx)=some ([1],()):=by
  rw [zxF h I0.G]
  have:XA (zlg (yv pEx))=[1]:=by decide +kernel
  rw [this]
 have hw1:u9 vEx 1=some ([1],()):=by
  obtain ⟨x,hx⟩:∃x,vEx.Ws[0]? =some x:=⟨_,zGN (show 0<vEx.Ws.length by have:=Iv.G.E.wl;have:((vEx.Ws.length:Nat):Int)=1:=this;omega)⟩
  have hc:(vEx.Ws[0]?).map (fun x=>decide (x.PC≠0))=some true:=by decide +kernel
  have hd:(vEx.Ws[0]?).map (fun x=>ud (zJ vEx x++XW vEx.M (zI pEx 1) pEx.Cap ⟨0,0,0,0,0#64,0#64,0,0⟩))=some [1]:=by decide +kernel
  rw [hx,zHG,Option.some.injEq] at hc hd
  rw [zx9 h Iv.G hx (by simpa using hc),hd]
 have hw2:u9 (yv pEx) 2=some ([],()):=by
  rw [zjx,zj,if_neg (by decide),zj,if_pos (by decide +kernel)]
 have hm1:XL (yv pEx) 1=some ([],()):=by
  obtain ⟨x,hx⟩:∃x,(yv pEx).Ms[0]? =some x:=⟨_,rfl⟩
  have hd:((yv pEx).Ms[0]?).map (fun x=>ud (zW (yv pEx) x))=some []:=by decide +kernel
  rw [hx,zHG,Option.some.injEq] at hd
  have:=zpy h I0.G hx
  rw [hd] at this
  exact this
 have p0:ztE (yv pEx)=0#64:=by decide +kernel
 have pa:ztE aEx=2#64:=by decide +kernel
 have pb:ztE bEx=2#64:=by decide +kernel
 have pc:ztE cEx=2#64:=by decide +kernel
 have g0:zed 0#64 (yv pEx).Ms=1#64:=by decide +kernel
 have dd:dEx.Done=true:=by decide +kernel
 have dq:zt0 dEx=true:=by decide +kernel
 have dm:dEx.T.Marks=3#64:=by decide +kernel
 have q0:zt0 (yv pEx)=false:=by decide +kernel
 have o0:zad (yv pEx)=0:=by decide +kernel
 have s1:ZZ [1] [1]=some (true,()):=by rw [zEy _ _ (by decide)];rfl
 have nO:∀ {s:za},EOk pEx (zR pEx+1) s->s.H.Objs.length<=9:=fun E=>by
  have a:=E.H.n
  have b:pEx.Most=4:=rfl
  omega
 rw [zkE,show ([([zm.mk 1 1 0 0,zm.mk 5 1 0 0,zm.mk 2 1 0 0]:List zm)]:List (List zm))=[zw1] from rfl,zDA,zGL,zwp h,zGL]
 dsimp only
 rw [show ([zg.mk 2 1]:List zg)=mEx from rfl,zEN,zGL]
 dsimp only
 rw [rb,zGL]
 dsimp only
 rw [rc,zGL]
 dsimp only
 rw [rd,zGL]
 rw [show ([zg.mk 1 1,zg.mk 1 1,zg.mk 1 1,zg.mk 1 1,zg.mk 1 1,zg.mk 1 1,zg.mk 1 1]:List zg)=wEx from rfl,rv,zGL,hh0,zGL]
 dsimp only
 rw [s1,zGL,cond_true,hl0,zGL]
 dsimp only
 rw [s1,zGL,cond_true,zeb E0.small (lw E0).1 (lw E0).2,zGL,p0]
 dsimp only
 rw [decide_eq_true rfl,cond_true,zly E0.small (nO E0),zGL,zCX]
 dsimp only
 rw [decide_eq_true rfl,cond_true,zqp E0.small,zGL,g0]
 dsimp only
 rw [decide_eq_true rfl,cond_true,zeb sa.small (lw sa).1 (lw sa).2,zGL,pa]
 dsimp only
 rw [decide_eq_true rfl,cond_true,zeb sb.small (lw sb).1 (lw sb).2,zGL,pb]
 dsimp only
 rw [decide_eq_true rfl,cond_true,zly sc.small (nO sc),zGL,zFu]
 dsimp only
 rw [decide_eq_true rfl,cond_true,zeb sc.small (lw sc).1 (lw sc).2,zGL,pc]
 dsimp only
 rw [decide_eq_true rfl,cond_true,dd,cond_true,ztX h Id.G,zGL,dq]
 dsimp only
 rw [cond_true,dm,decide_eq_true rfl,cond_true,ztX h I0.G,zGL,q0]
 dsimp only
 rw [Bool.not_false,cond_true,hv,zGL]
 dsimp only
 rw [hw1,zGL]
 dsimp only
 rw [s1,zGL,hw2,zGL,hm1,zGL,zCG (lw E0).1 (lw E0).2,zGL,o0]
 rfl
theorem holdLive_plain (l m:List (BitVec 8)):Zo l m=some (true,()):=by
 obtain ⟨p,ep,h⟩:=zEj l
 obtain ⟨ps,epk,hl,hok⟩:=zDz h m 300 (by decide)
 have hn:=h.n
 have hmo:=h.most
 have epk:W3 p m 300=some (ps,()):=epk
 rw [zkI,zwC]
 simp only [zGL,zG1,cond_false,ep,zwp h,epk]
 obtain ⟨e,_⟩:=Zs (f:=ul) (fun j s=>(true,(ps.length:Int),j,s,ps,())) (fun _=>(true,())) ps (by omega) vO (fun i s=>(∃gh,EG p (zR p+1) i s gh)/\RgI p s) (s:=yv p) ⟨⟨gh0 p,zuk h⟩,zFL h⟩
  (fun i s x hx hi ⟨⟨gh,I⟩,J⟩=>by
   have es:=zwo h I.G.E (hok x (zGT hx))
   obtain ⟨gh',I',_⟩:=I.next h (by omega) (ziI p x)
   obtain ⟨C,R,J'⟩:=zDR h I.G.E J (ziI p x)
   rw [<-es] at I' C R J'
   refine ⟨⟨⟨gh',I'⟩,J'⟩,?_⟩
   have E:=I.G.E
   have E':=I'.G.E
   have hN:=E.H.n
   have hN':=E'.H.n
   have hP:(vO s x).P=s.P:=E'.S.P.trans E.S.P.symm
   have u1:zlN (vO s x)&&& ~~~(zlN s|||(wG ((vO s x).H.Objs.length:Int)&&& ~~~wG (s.H.Objs.length:Int)))=0#64:=(zwm _ _).2 (fun o ho=>(wO _ _ _).2 (by
    have r:=(zlp (by omega) E'.small.obj _ o).1 ho
    have rin:=r.in
    rcases zCy hP C R r with q | q
    ·exact .inl ((zlp (by omega) E.small.obj _ o).2 q)
    ·have q:(s.H.Objs.length:Int)<o/\o<=((vO s x).H.Objs.length:Int):=q
     refine .inr ((Vt _ _ _).2 ⟨(zer (by omega) o).2 rin,(zfe _ (by omega)).2 (fun e=>?_)⟩)
     have:=(zer (by omega) o).1 e
     omega))
   have u2:zed 0#64 (vO s x).Ms&&& ~~~zlN (vO s x)=0#64:=(zwm _ _).2 (fun o ho=>by
    rcases zr5 _ _ ho with q | ⟨y,hy,q⟩
    ·exact absurd q (YC o)
    ·have hb:=(xm _ _).1 ho
     have hr:=(zBx E'.H J' hy q).resolve_left (by omega)
     exact (zlp (by omega) E'.small.obj _ o).2 (.root o ((wO _ _ _).2 (.inr ho)) hr))
   show ul (true,(ps.length:Int),(i:Int),s,ps,())=_
   rw [Uf,zj,if_pos (by omega),wS (by omega) (by omega),zGL,zHs,hx,zGL,zrF h E,zGL]
   dsimp only
   rw [zl0 _ (by omega),zGL,zl0 _ (by omega),zGL,zly E'.small (by omega),zGL,zly E.small (by omega),zGL,zfl,zGL]
   dsimp only
   rw [u1,decide_eq_true rfl,zG1,cond_false,zqp E'.small,zGL,zGL,zfl,zGL]
   dsimp only
   rw [u2,decide_eq_true rfl,zG1,cond_false,yz (by omega)])
  (fun s _=>by
   show ul (true,(ps.length:Int),(ps.length:Int),s,ps,())=_
   rw [Uf,zj,if_neg (by omega)])
 rw [e];rfl
end B19
end
end Go.Pe.G
