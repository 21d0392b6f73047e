/- Own work of this seat: PWstep, PBits, PWAll, PLists, PWNew, PHeld, PCnt, PWOnce, PItems, PMstep, PHp, PFirst, PNewI, PFull, PHold, PFWork, PEngI, PRem, PHeldAll, PHOwed, PReach, PHTold, PEngN, PLiveP, PProt, PMProt, PMSnap, PWSnap, PEngP, PUnder, PRegs, PNewPi, PHPend, PLaw19. -/
import Derived.Test.YtbppdaabhmmfiaaGreatDoorHPPa
set_option linter.unusedVariables false
set_option linter.unusedSimpArgs false
set_option linter.unnecessarySimpa false
set_option linter.unusedSectionVars false
set_option linter.deprecated false
set_option maxRecDepth 20000
open BitVec renaming getLsbD_and → zHX, toNat_and → zHY, eq_of_getLsbD_eq → zIg, getLsbD_zero → zIh, getLsbD_not → zIr
open Bool renaming and_eq_true → zGP, not_true → zG5, not_eq_true' → zG6, true_and → zHL, or_eq_true → zHS
open Int renaming toNat_natCast → zHv, le_refl → zHD
open List renaming getElem?_eq_getElem → zGQ, append_nil → zGR, getD_eq_getElem?_getD → zGS, append_assoc → zGV, mem_of_getElem? → zGW, mem_cons_of_mem → zGX, getElem?_eq_some_iff → zGY, nil_append → zG0, length_append → zG1, mem_map → zG2, mem_append_left → zG7, length_cons → zG8, mem_cons → zG9, mem_append → zHb, mem_cons_self → zHc, getElem?_append_left → zHg, getElem?_map → zHi, getElem_mem → zHj, mem_append_right → zHk, mem_range → zHl, getElem?_append_right → zHn, length_set → zHo, getElem?_set_ne → zHp, mem_singleton → zHs, perm_append_comm_assoc → zHt, getElem?_set → zHy, eq_nil_of_length_eq_zero → zHz, drop_eq_getElem_cons → zHA, flatMap_cons → zHB, perm_append_comm → zHC, length_replicate → zHE, length_nil → zHF, foldl_cons → zHI, length_map → zHM, getElem?_cons_zero → zHP, getElem?_eq_none → zHR, length_take → zHU, map_cons → zHW, nodup_append → zHZ, range_succ → zH2, length_drop → zH3, take_add_one → zH6, length_filter_le → zH7, getElem?_set_self → zH8, mem_filter → zH9, flatMap_append → zIb, cons_append → zIe, getElem?_replicate → zIf, mem_or_eq_of_mem_set → zIi, mem_of_mem_take → zIk, range_eq_range' → zIn, map_congr_left → zIo, take_append_drop → zIp, take_length → zIq, mem_iff_getElem? → zIt, mem_flatMap → zIu, getElem?_cons_succ → zIz, length_singleton → zIB
open List.Perm renaming append_left → zG3, refl → zHe, append_right → zIj
open Nat renaming le_refl → zGT, lt_or_ge → zHm, mul_le_mul_right → zHO, le_trans → zHQ, zero_le → zHV, lt_of_le_of_lt → zIs
open Option renaming bind_some → zGO, bind_eq_some_iff → zGZ, map_some → zHH
namespace Go.Pe.G
open Go.Pe
noncomputable section
def wA (x:zg):List Int:=if x.PC=3\/x.PC=4 then [x.Bin] else if x.PC=6 then x8 x.G else []
def Up (s:za) (x:zg):List Int:=if x.PC=0 then ZN s.M x.D else if x.PC=3 then yw s x.Bin else if x.PC=5\/x.PC=8 then [x.Obj] else if x.PC=6 then x.Obj::ym x.G else []
def zQ (s:za) (x:zg):List Int:=x.Batch++Up s x
structure WX (p:zb) (s:za) (gh:Gh) (w:Int) (x:zg):Prop where
 c0:x.PC≠0->gh.c w=0
 bt:x.PC<=3->x.Batch=[]
 p0:x.PC=0->PK p s.M w (gh.t w) (gh.D w) (gh.c w) x.D
 p1:x.PC=1->TK p s.M x.Victim (gh.t x.Victim) (gh.D x.Victim) x.D
 p2:x.PC=2->x.C.Out=0/\(0<=x.C.PC/\x.C.PC<=2)/\CK p s.M x.C
 p4:x.PC=4->x.C.Out=0/\(0<=x.C.PC/\x.C.PC<=2)/\x.C.X=x.Bin/\CK p s.M x.C
 p6:x.PC=6->GX p s gh x.G/\x.G.Mode=1/\x.G.Who=w/\x.G.Out=0
theorem WX.plain {p:zb}{s:za}{gh:Gh}{w:Int}{x:zg}(h:x.PC=5\/x.PC=7\/x.PC=8\/x.PC=9) (c:gh.c w=0):WX p s gh w x :=
 ⟨fun _=>c,fun e=>by omega,fun e=>by omega,fun e=>by omega,fun e=>by omega,fun e=>by omega,fun e=>by omega⟩
theorem CK.start {p:zb}{m:List (BitVec 64)}{k h x:Int}:CK p m ⟨k,0,h,zD p,0#64,x,0,0⟩ :=
 ⟨fun e=>absurd e (by show ¬(1:Int)<=0;decide),fun e=>absurd e (by show ¬(0:Int)=2;decide),fun e=>absurd e (by show ¬(0:Int)=2;decide)⟩
theorem WX.begin {p:zb}{s:za}{gh:Gh}{w:Int}{x:zg}(c:gh.c w=0) (hb:x.Batch=[]):WX p s gh w (V0 p w x):=by
 refine ⟨fun e=>absurd rfl e,fun _=>hb,fun _=>⟨rfl,rfl,rfl,rfl,⟨by show (0:Int)<=0;decide,by show (0:Int)<=6;decide⟩,fun _=>c,?_,?_,?_,?_,?_,?_,?_,?_⟩,fun e=>(by cases e),fun e=>(by cases e),fun e=>(by cases e),fun e=>(by cases e)⟩
 all_goals (intro e;first | (exact absurd e (by show ¬((0:Int)=2\/(4:Int)<=0);decide)) | (exact absurd e (by show ¬(0:Int)=3;decide)) | (exact absurd e (by show ¬(0:Int)=4;decide)) | (exact absurd e (by show ¬((0:Int)=3\/(0:Int)=4);decide)) | (exact absurd e (by show ¬(5:Int)<=0;decide)) | skip)
 rcases e with e | e | e | e
 ·exact absurd e (by show ¬(0:Int)=1;decide)
 ·exact absurd e (by show ¬(0:Int)=2;decide)
 ·exact absurd e (by show ¬(4:Int)<=0;decide)
 ·exact absurd e.1 (by show ¬(0:Int)=3;decide)
theorem ziv {p:zb}{s:za}{w:Int}{x:zg}:Up s (V0 p w x)=[]:=by
 unfold Up
 rw [if_pos (show (V0 p w x).PC=0 from rfl)]
 exact vG (.inl (by show (0:Int)≠3;decide)) (by show (0:Int)≠6;decide)
theorem WX.look {p:zb}{s:za}{gh:Gh}{w:Int}{x:zg}(c:gh.c w=0) (hb:x.Batch=[]):WX p s gh w (ZF p w x)/\Up s (ZF p w x)=[]/\wA (ZF p w x)=[]:=by
 unfold ZF
 split
 ·refine ⟨⟨fun _=>c,fun _=>hb,fun e=>(by cases e),fun e=>(by cases e),fun _=>⟨rfl,⟨by show (0:Int)<=0;decide,by show (0:Int)<=2;decide⟩,CK.start⟩,fun e=>(by cases e),fun e=>(by cases e)⟩,?_,?_⟩
  ·unfold Up;rw [if_neg (by show ¬(2:Int)=0;decide),if_neg (by show ¬(2:Int)=3;decide),if_neg (by show ¬((2:Int)=5\/(2:Int)=8);decide),if_neg (by show ¬(2:Int)=6;decide)]
  ·unfold wA;rw [if_neg (by show ¬((2:Int)=3\/(2:Int)=4);decide),if_neg (by show ¬(2:Int)=6;decide)]
 ·refine ⟨⟨fun _=>c,fun _=>hb,fun e=>(by cases e),fun _=>⟨rfl,rfl,rfl,rfl,⟨by show (0:Int)<=0;decide,by show (0:Int)<=3;decide⟩,fun e=>absurd e (by show ¬(1:Int)<=0;decide),fun e=>absurd e (by show ¬(2:Int)<=0;decide),fun e=>absurd e (by show ¬(0:Int)=3;decide)⟩,fun e=>(by cases e),fun e=>(by cases e),fun e=>(by cases e)⟩,?_,?_⟩
  ·unfold Up;rw [if_neg (by show ¬(1:Int)=0;decide),if_neg (by show ¬(1:Int)=3;decide),if_neg (by show ¬((1:Int)=5\/(1:Int)=8);decide),if_neg (by show ¬(1:Int)=6;decide)]
  ·unfold wA;rw [if_neg (by show ¬((1:Int)=3\/(1:Int)=4);decide),if_neg (by show ¬(1:Int)=6;decide)]
theorem WX.other {p:zb}(hp:zB p) {nb k:Nat}{s s':za}{gh gh':Gh}{X R:List Int}{O:Int->Prop}{w:Int}{x:zg}(hw:1<=w/\w<=p.Workers) (Y:SX p nb s gh (X++R) k) (Fx:FX p nb X O s s' gh gh') (K:WX p s gh w x) (W:WOk p nb w x)
  (hR:∀b∈wA x,b∈R) (apart: ¬O w):WX p s' gh' w x/\zQ s' x=zQ s x:=by
 have hsub:∀b∈X,b∈X++R:=fun b hb=>zG7 _ hb
 have hnd:=(zHZ.1 Y.L.nodup).2.1
 have hnot:∀b,b∈wA x->b∉X:=fun b hb hg=>(zHZ.1 hnd).2.2 b hg b (hR b hb) rfl
 have hc:gh'.c w=gh.c w:=by
  rcases Fx.dq w hw.1 hw.2 with h | h
  ·cases h with
   | same e1 e2 e3 e4=>exact e3
   | stolen y e1 e2 e3 e4=>exact e3
  ·exact absurd h.1 apart
 have hcell:∀a,zL p w<a->a<zL p w+p.Cap+2->ld s'.M a=ld s.M a:=by
  rcases Fx.dq w hw.1 hw.2 with h | h
  ·cases h with
   | same e1 e2 e3 e4=>exact fun a h1 h2=>e4 a (by omega) h2
   | stolen y e1 e2 e3 e4=>exact e4
  ·exact absurd h.1 apart
 refine ⟨⟨fun e=>hc.trans (K.c0 e),K.bt,fun e=>Fx.pk hp hw.1 hw.2 apart (K.p0 e),fun e=>Fx.tk W.vic.1 W.vic.2 (K.p1 e),fun e=>?_,fun e=>?_,fun e=>?_⟩,?_⟩
 ·obtain ⟨a,b,c⟩:=K.p2 e
  have C:=W.c2 e
  exact ⟨a,b,c.mv Y.L Fx.mv hsub (.inl C.h) (fun h _=>C.v h) (fun e2=>by have:=C.k;omega)⟩
 ·obtain ⟨a,b,c,d⟩:=K.p4 e
  have C:=W.c4 e
  have hno:=hnot x.Bin (by unfold wA;rw [if_pos (.inr e)];simp)
  exact ⟨a,b,c,d.mv Y.L Fx.mv hsub (.inr C.h) (fun _ e2=>by have:=C.k;omega) (fun _=>⟨C.x.1,C.x.2,by rw [c];exact hno⟩)⟩
 ·obtain ⟨a,b,c,d⟩:=K.p6 e
  have M:=(W.g6 e).1
  refine ⟨a.other hp Y Fx M (fun y hy=>hR y ?_) (fun _=>by rw [c];exact apart),b,c,d⟩
  unfold wA;rw [if_neg (by omega),if_pos e];exact hy
 ·unfold zQ Up
  congr 1
  by_cases e0:x.PC=0
  ·rw [if_pos e0,if_pos e0]
   have P:=K.p0 e0
   unfold ZN
   have hpl:=(zsS hp hw.1 hw.2 P.base P.size (x.D.B-1#64)).2
   rw [hcell _ (by rw [P.base] at hpl;omega) (by rw [P.base] at hpl;omega)]
  ·rw [if_neg e0,if_neg e0]
   by_cases e3:x.PC=3
   ·rw [if_pos e3,if_pos e3]
    have hb:=W.b3 e3
    have hno:=hnot x.Bin (by unfold wA;rw [if_pos (.inl e3)];simp)
    unfold yw
    rw [Fx.bn x.Bin hb.1 hno]
   ·rw [if_neg e3,if_neg e3]
theorem zyB (s:za) (b:Int):Vc s b=yw s b:=by unfold Vc yw;rw [zGS]
theorem FX.mono {p:zb}{nb:Nat}{X:List Int}{O O':Int->Prop}{s s':za}{g g':Gh}(h:FX p nb X O s s' g g') (i:∀v,O v->O' v):FX p nb X O' s s' g g' :=
 ⟨h.mv,h.bn,fun v a b=>(h.dq v a b).imp id (fun e=>⟨i v e.1,e.2⟩),h.fb⟩
theorem vZ {x:zg}(h3:x.PC≠3) (h4:x.PC≠4) (h6:x.PC≠6):wA x=[]:=by unfold wA;rw [if_neg (by omega),if_neg h6]
theorem zjX {x:zg}(h:x.PC=3\/x.PC=4):wA x=[x.Bin]:=by unfold wA;rw [if_pos h]
theorem zyH {x:zg}(h:x.PC=6):wA x=x8 x.G:=by unfold wA;rw [if_neg (by omega),if_pos h]
theorem zB3 {s:za}{x:zg}(h:x.PC=0):Up s x=ZN s.M x.D:=by unfold Up;rw [if_pos h]
theorem zCQ {s:za}{x:zg}(h:x.PC=3):Up s x=yw s x.Bin:=by unfold Up;rw [if_neg (by omega),if_pos h]
theorem Wl {s:za}{x:zg}(h:x.PC=5\/x.PC=8):Up s x=[x.Obj]:=by unfold Up;rw [if_neg (by omega),if_neg (by omega),if_pos h]
theorem zto {s:za}{x:zg}(h:x.PC=6):Up s x=x.Obj::ym x.G:=by unfold Up;rw [if_neg (by omega),if_neg (by omega),if_neg (by omega),if_pos h]
theorem Yg {s:za}{x:zg}(h:x.PC=1\/x.PC=2\/x.PC=4\/x.PC=7\/x.PC=9):Up s x=[]:=by unfold Up;rw [if_neg (by omega),if_neg (by omega),if_neg (by omega),if_neg (by omega)]
def zkf (p:zb) (nb k:Nat) (R:List Int) (gh:Gh) (s:za) (w:Int) (x:zg) (s':za) (x':zg):Prop :=
 ∃gh',SX p nb s' gh' (wA x'++R) (k+1)/\WX p s' gh' w x'/\FX p nb (wA x) (fun v=>v=w) s s' gh gh' /\
  ∃N B,List.Perm (yx p s' gh'++zQ s' x'++B) (N++(yx p s gh++zQ s x)) /\
   ((N=[]/\B=[]/\s'.T=s.T)\/(N=[x.G.Obj]/\B=[]/\x.PC=6/\¬(s.T.Marks|||bit x.G.Obj=s.T.Marks)/\s'.T={s.T with Marks:=s.T.Marks|||bit x.G.Obj})\/(N=[]/\B=[x.Obj]/\x.PC=8/\s'.T=wC s.T x.Obj))
theorem zkf.quiet {p:zb}{nb k:Nat}{R:List Int}{gh:Gh}{s s':za}{w:Int}{x x':zg}(X:SX p nb s gh (wA x++R) k) (S':SOk p nb s') (hm:s'.M=s.M) (hb:s'.Bins=s.Bins) (hT:s'.T=s.T)
  (ho:wA x'=wA x) (hh:List.Perm (zQ s' x') (zQ s x)) (W':WX p s' gh w x'):zkf p nb k R gh s w x s' x' :=
 ⟨gh,by rw [ho];exact X.quiet S' hm,W',FX.quiet hm (fun _ _ _=>by rw [hb]),[],[],by rw [uO hb,zGR];exact zG3 _ hh,.inl ⟨rfl,rfl,hT⟩⟩
theorem zGd {p:zb}(hp:zB p) {nb k:Nat}{R:List Int}{gh:Gh}{s:za}{w:Int}{x:zg}(hk:k<4294960000) (hw:1<=w/\w<=p.Workers) (X:SX p nb s gh (wA x++R) k) (W:WOk p nb w x) (K:WX p s gh w x)
  (hH:∀o i,0<=zH s.H o i/\zH s.H o i<=64):zkf p nb k R gh s w x (zu s w x).1 (zu s w x).2:=by
 have S':=(zAq hp hw X.S W).1
 have hP:=X.S.P
 have eL:∀y,ZF s.P w y=ZF p w y:=fun y=>by rw [hP]
 have eB:∀y,V0 s.P w y=V0 p w y:=fun y=>by rw [hP]
 have eC:zbs s.P (zD s.P) x.Bin=zbs p (zD p) x.Bin:=by rw [hP]
 have hpc:=W.pc
 have hlen:=X.L.len
 have hE:=wn hp
 revert S'
 unfold zu
 by_cases p01:x.PC=0\/x.PC=1
 ·rw [if_pos p01]
  intro S'
  have S':SOk p nb {s with M:=(zU s.M x.D).1}:=S'
  have hl:=(zmq s.M x.D).1
  have eo:wA x=[]:=vZ (by omega) (by omega) (by omega)
  have hbt:=K.bt (by omega)
  rw [eo] at X
  dsimp only
  by_cases p0:x.PC=0
  ·have K0:=K.p0 p0
   have D0:=X.D w hw.1 hw.2
   have hdk:=X.dk w hw.1 hw.2
   obtain ⟨t',l',c',D',hm,V,hle,r⟩:=zzg hp hw (by omega) D0 K0
   have hc:=hp.cap
   have hm':∀a,(a<zL p w\/zL p w+p.Cap+2<=a)->ld (zU s.M x.D).1 a=ld s.M a:=fun a ha=>hm a (by omega) (by omega)
   have X':=X.dq hp S' hl hw hm' D' (by omega)
   have Fx:FX p nb (wA x) (fun v=>v=w) s {s with M:=(zU s.M x.D).1} gh (WK gh w t' l' c'):=FX.own (O:=fun v=>v=w) (s:=s) (s':={s with M:=(zU s.M x.D).1}) (g:=gh) hp hw hm' rfl rfl V
   obtain ⟨u,v,f1,f2⟩:=zqk (p:=p) (s:=s) (s':={s with M:=(zU s.M x.D).1}) (g:=gh) rfl hw (t:=t') (c:=c') (l:=l')
   have fin:∀x':zg,wA x'=[]->WX p {s with M:=(zU s.M x.D).1} (WK gh w t' l' c') w x'->List.Perm (l'++zQ {s with M:=(zU s.M x.D).1} x') (gh.D w++zQ s x)->zkf p nb k R gh s w x {s with M:=(zU s.M x.D).1} x':=by
    intro x' a b c
    refine ⟨_,by rw [a];exact X',b,Fx,[],[],?_,.inl ⟨rfl,rfl,rfl⟩⟩
    rw [f1,f2,zGR,zG0]
    simp only [zGV]
    refine zG3 _ ?_
    refine (zHt l' v _).trans (List.Perm.trans ?_ (zHt v (gh.D w) _))
    exact zG3 _ c
   have hh:zQ s x=ZN s.M x.D:=by unfold zQ;rw [hbt,zB3 p0,zG0]
   rw [hh] at fin
   rcases r with ⟨r1,r2,r3⟩ | ⟨r1,r2,r3⟩ | ⟨r1,r2,r3,r4,r5⟩
   ·rw [r1,if_neg (by decide),if_neg (by decide)]
    refine fin _ (vZ (by show x.PC≠3;omega) (by show x.PC≠4;omega) (by show x.PC≠6;omega)) ⟨fun e=>absurd p0 e,fun _=>hbt,fun _=>?_,fun e=>by have e:x.PC=1:=e;omega,fun e=>by have e:x.PC=2:=e;omega,fun e=>by have e:x.PC=4:=e;omega,fun e=>by have e:x.PC=6:=e;omega⟩ ?_
    ·rw [wv.1,wv.2.1,wv.2.2];exact r2
    ·unfold zQ
     rw [zB3 (x:={x with D:=(zU s.M x.D).2}) p0]
     show List.Perm (l'++(x.Batch++ZN (zU s.M x.D).1 (zU s.M x.D).2)) _
     rw [hbt,zG0];exact r3
   ·rw [r1,if_pos rfl]
    refine fin _ (vZ (by show (5:Int)≠3;decide) (by show (5:Int)≠4;decide) (by show (5:Int)≠6;decide)) (WX.plain (.inl rfl) (by rw [wv.2.2];exact r2)) ?_
    unfold zQ
    rw [Wl (.inl rfl)]
    show List.Perm (l'++(x.Batch++[(zU s.M x.D).2.X])) _
    rw [hbt,zG0];exact r3
   ·rw [r1,if_neg (by decide),if_pos (.inl rfl),eL]
    obtain ⟨a,b,c⟩:=WX.look (p:=p) (s:={s with M:=(zU s.M x.D).1}) (gh:=WK gh w t' l' c') (w:=w) (x:={x with D:=(zU s.M x.D).2}) (by rw [wv.2.2];exact r2) hbt
    refine fin _ c a ?_
    unfold zQ
    rw [b,r3,r4,r5,show (ZF p w {x with D:=(zU s.M x.D).2}).Batch=x.Batch by unfold ZF;split<;>rfl,hbt]
    exact zHe _
  ·have p1:x.PC=1:=by omega
   have K1:=K.p1 p1
   have hv:=W.vic
   have hc0:=K.c0 p0
   have D0:=X.D x.Victim hv.1 hv.2
   have hdk:=X.dk x.Victim hv.1 hv.2
   have hh:zQ s x=[]:=by unfold zQ;rw [hbt,Yg (.inl p1)];rfl
   rcases zA6 hp hv (by omega) D0 K1 with ⟨hm,r⟩ | ⟨y,l',e1,e2,e3,e4,e5⟩
   ·have S2:=S'
    have q:∀x':zg,wA x'=[]->zQ {s with M:=(zU s.M x.D).1} x'=[]->WX p {s with M:=(zU s.M x.D).1} gh w x'->zkf p nb k R gh s w x {s with M:=(zU s.M x.D).1} x' :=
     fun x' a b c=>.quiet (by rw [eo];exact X) S' hm rfl rfl (by rw [a,eo]) (by rw [b,hh]) c
    rcases r with ⟨r1,r2⟩ | r
    ·rw [r1,if_neg (by decide),if_neg (by decide)]
     refine q _ (vZ (by show x.PC≠3;omega) (by show x.PC≠4;omega) (by show x.PC≠6;omega)) ?_ ⟨fun _=>hc0,fun _=>hbt,fun e=>absurd e p0,fun _=>?_,fun e=>by have e:x.PC=2:=e;omega,fun e=>by have e:x.PC=4:=e;omega,fun e=>by have e:x.PC=6:=e;omega⟩
     ·unfold zQ
      rw [Yg (x:={x with D:=(zU s.M x.D).2}) (.inl p1)]
      show x.Batch++[]=[]
      rw [hbt];rfl
     ·show TK p (zU s.M x.D).1 _ _ _ _
      rw [hm];exact r2
    ·rw [if_neg (by omega),if_pos r,eL]
     obtain ⟨a,b,c⟩:=WX.look (p:=p) (s:={s with M:=(zU s.M x.D).1}) (gh:=gh) (w:=w) (x:={x with D:=(zU s.M x.D).2}) hc0 hbt
     refine q _ c ?_ a
     unfold zQ
     rw [b,show (ZF p w {x with D:=(zU s.M x.D).2}).Batch=x.Batch by unfold ZF;split<;>rfl,hbt];rfl
   ·have hc:=hp.cap
    have hm':∀a,(a<zL p x.Victim\/zL p x.Victim+p.Cap+2<=a)->ld (zU s.M x.D).1 a=ld s.M a:=fun a ha=>e5 a (by omega)
    have X':=X.dq hp S' hl hv hm' e4 (by rw [e1] at hdk;simp at hdk;omega)
    obtain ⟨h1,h2⟩:=zvb hp hv hm'
    obtain ⟨u,v,f1,f2⟩:=zqk (p:=p) (s:=s) (s':={s with M:=(zU s.M x.D).1}) (g:=gh) rfl hv (t:=gh.t x.Victim+1) (c:=gh.c x.Victim) (l:=l')
    rw [e2,if_pos rfl]
    refine ⟨WK gh x.Victim (gh.t x.Victim+1) l' (gh.c x.Victim),by rw [vZ (by show (5:Int)≠3;decide) (by show (5:Int)≠4;decide) (by show (5:Int)≠6;decide)];exact X',WX.plain (.inl rfl) ?_,⟨Mv.low hp h1,fun _ _ _=>rfl,fun v' a b=>.inl ?_,fun _ h=>.inl h⟩,[],[],?_,.inl ⟨rfl,rfl,rfl⟩⟩
    ·by_cases e:w=x.Victim
     ·rw [e,wv.2.2,<-e];exact hc0
     ·rw [(YZ e).2.2];exact hc0
    ·by_cases e:v'=x.Victim
     ·subst e
      exact .stolen y wv.2.1 (by rw [wv.1];exact e1) wv.2.2 (fun a h1 _=>e5 a (by omega))
     ·exact .same (YZ e).2.1 (YZ e).1 (YZ e).2.2 (h2 v' a b e)
    ·rw [f1,f2,hh,zGR,zGR,zG0,e1]
     unfold zQ
     rw [Wl (.inl rfl)]
     show List.Perm (u++l'++v++(x.Batch++[(zU s.M x.D).2.X])) _
     rw [hbt,zG0,e3]
     simp only [zGV]
     refine zG3 _ ?_
     show List.Perm (l'++(v++[y])) (y::(l'++v))
     rw [<-zGV]
     exact zHC
 rw [if_neg p01]
 have hc0:=K.c0 (by omega)
 by_cases p2:x.PC=2
 ·rw [if_pos p2]
  intro S'
  have S':SOk p nb {s with M:=(zm s.M x.C).1}:=S'
  have C:=W.c2 p2
  obtain ⟨c1,c2,c3⟩:=K.p2 p2
  have hbt:=K.bt (by omega)
  have eo:wA x=[]:=vZ (by omega) (by omega) (by omega)
  have hh:zQ s x=[]:=by unfold zQ;rw [hbt,Yg (.inr (.inl p2))];rfl
  dsimp only
  rcases SX.popF hp X hk C.k C.h C.n c1 c2 c3 C.v S' with ⟨a,b,c,d⟩ | ⟨y,l,a,b,c,d,e⟩
  ·rw [if_neg b]
   have hout:=zba s.M c1 c2 (.inr C.k)
   by_cases o2:(zm s.M x.C).2.Out=2
   ·rw [if_pos o2,eB]
    refine .quiet X S' a rfl rfl ?_ ?_ (WX.begin hc0 hbt)
    ·rw [eo];exact vZ (by show (0:Int)≠3;decide) (by show (0:Int)≠4;decide) (by show (0:Int)≠6;decide)
    ·unfold zQ
     rw [ziv,show (V0 p w {x with C:=(zm s.M x.C).2}).Batch=x.Batch from rfl]
     rw [hbt,Yg (.inr (.inl p2))]
   ·rw [if_neg o2]
    have hpc':(zm s.M x.C).2.Out=0/\0<=(zm s.M x.C).2.PC/\(zm s.M x.C).2.PC<=2:=by omega
    refine .quiet X S' a rfl rfl ?_ ?_ ⟨fun _=>hc0,fun _=>hbt,fun e=>by have e:x.PC=0:=e;omega,fun e=>by have e:x.PC=1:=e;omega,fun _=>⟨hpc'.1,hpc'.2,?_⟩,fun e=>by have e:x.PC=4:=e;omega,fun e=>by have e:x.PC=6:=e;omega⟩
    ·rw [eo];exact vZ (by show x.PC≠3;omega) (by show x.PC≠4;omega) (by show x.PC≠6;omega)
    ·unfold zQ
     rw [Yg (x:={x with C:=(zm s.M x.C).2}) (.inr (.inl p2)),Yg (.inr (.inl p2))]
    ·rw [show ({s with M:=(zm s.M x.C).1}:za).M=s.M from a];exact c
  ·rw [if_pos b]
   have e1:wA {x with C:=(zm s.M x.C).2,Bin:=(zm s.M x.C).2.X,PC:=3}=[y]:=by rw [<-c];exact zjX (x:={x with C:=(zm s.M x.C).2,Bin:=(zm s.M x.C).2.X,PC:=3}) (.inl rfl)
   refine ⟨{gh with F:=l},by rw [e1];rw [eo] at d;exact d,⟨fun _=>hc0,fun _=>hbt,fun e=>(by cases e),fun e=>(by cases e),fun e=>(by cases e),fun e=>(by cases e),fun e=>(by cases e)⟩,e _ _,[],[],?_,.inl ⟨rfl,rfl,rfl⟩⟩
   rw [hh,zGR,zGR,zG0]
   unfold zQ
   rw [zCQ (x:={x with C:=(zm s.M x.C).2,Bin:=(zm s.M x.C).2.X,PC:=3}) rfl]
   show List.Perm (yx p s {gh with F:=l}++(x.Batch++yw s (zm s.M x.C).2.X)) _
   rw [hbt,zG0,c]
   have:yx p s gh=yw s y++yx p s {gh with F:=l}:=by unfold yx;rw [a];simp [zGV]
   rw [this]
   exact zHC
 rw [if_neg p2]
 by_cases p3:x.PC=3
 ·rw [if_pos p3]
  intro S'
  have hb:=W.b3 p3
  have hbt:=K.bt (by omega)
  have eo:wA x=[x.Bin]:=zjX (.inl p3)
  rw [eC]
  have e1:wA {x with Batch:=Vc s x.Bin,PC:=4,C:=zbs p (zD p) x.Bin}=[x.Bin]:=zjX (x:={x with Batch:=Vc s x.Bin,PC:=4,C:=zbs p (zD p) x.Bin}) (.inr rfl)
  have hget:∀b,1<=b->b∉wA x->(s.Bins.set x.Bin.toNat [])[b.toNat]? =s.Bins[b.toNat]? :=fun b b1 b2=>by
   rw [zHp]
   intro e
   rw [eo] at b2
   exact b2 (by rw [show b=x.Bin by omega];simp)
  refine ⟨gh,by rw [e1,<-eo];exact X.quiet S' rfl,⟨fun _=>hc0,fun e=>absurd e (by show ¬(4:Int)<=3;decide),fun e=>(by cases e),fun e=>(by cases e),fun e=>(by cases e),fun _=>⟨rfl,⟨by show (0:Int)<=0;decide,by show (0:Int)<=2;decide⟩,rfl,CK.start⟩,fun e=>(by cases e)⟩,FX.quiet rfl hget,[],[],?_,.inl ⟨rfl,rfl,rfl⟩⟩
  have hbag:yx p {s with Bins:=s.Bins.set x.Bin.toNat []} gh=yx p s gh:=by
   unfold yx
   congr 1
   refine wa (fun b hb=>?_)
   have hm:=X.L.cF.mem b hb
   have hno:=(X.L.notF (x:=x.Bin) (by rw [eo];simp)).1
   unfold yw
   rw [show ({s with Bins:=s.Bins.set x.Bin.toNat []}:za).Bins=s.Bins.set x.Bin.toNat [] from rfl,hget b hm.1 (by rw [eo];intro e;rw [zHs.1 e] at hb;exact hno hb)]
  rw [hbag,zGR,zG0]
  unfold zQ
  rw [zCQ p3,Yg (x:={x with Batch:=Vc s x.Bin,PC:=4,C:=zbs p (zD p) x.Bin}) (.inr (.inr (.inl rfl)))]
  show List.Perm (yx p s gh++(Vc s x.Bin++[])) _
  rw [hbt,zGR,zG0,zyB]
 rw [if_neg p3]
 by_cases p4:x.PC=4
 ·rw [if_pos p4]
  intro S'
  have S':SOk p nb {s with M:=(zm s.M x.C).1}:=S'
  have C:=W.c4 p4
  obtain ⟨c1,c2,c3,c4⟩:=K.p4 p4
  have eo:wA x=[x.Bin]:=zjX (.inr p4)
  have hh:zQ s x=x.Batch:=by unfold zQ;rw [Yg (.inr (.inr (.inl p4))),zGR]
  rw [eo] at X
  dsimp only
  rcases SX.pushE hp (o1:=[]) (o2:=R) (b:=x.Bin) X hk C.k C.h C.n c3 c1 c2 c4 C.v S' with ⟨a,b,c,d⟩ | ⟨a,b,d⟩
  ·rw [a,if_neg (by decide)]
   have hout:=zba s.M c1 c2 (.inl C.k)
   have hsame:=zmp s.M x.C
   have hpc':0<=(zm s.M x.C).2.PC/\(zm s.M x.C).2.PC<=2:=by omega
   have e1:wA {x with C:=(zm s.M x.C).2}=[x.Bin]:=zjX (x:={x with C:=(zm s.M x.C).2}) (.inr p4)
   refine ⟨gh,by rw [e1];exact b,⟨fun _=>hc0,fun e=>by have e:x.PC<=3:=e;omega,fun e=>by have e:x.PC=0:=e;omega,fun e=>by have e:x.PC=1:=e;omega,fun e=>by have e:x.PC=2:=e;omega,fun _=>⟨a,hpc',(hsame.2.2.2 C.k).trans c3,c⟩,fun e=>by have e:x.PC=6:=e;omega⟩,by rw [eo];exact d _ _ (by simp),[],[],?_,.inl ⟨rfl,rfl,rfl⟩⟩
   rw [uO rfl,hh,zGR]
   unfold zQ
   rw [Yg (x:={x with C:=(zm s.M x.C).2}) (.inr (.inr (.inl p4))),zGR]
   exact zHe _
  ·rw [a,if_pos rfl]
   refine ⟨{gh with E:=x.Bin::gh.E},by rw [vZ (by show (7:Int)≠3;decide) (by show (7:Int)≠4;decide) (by show (7:Int)≠6;decide)];exact b,WX.plain (.inr (.inl rfl)) hc0,by rw [eo];exact d _ _,[],[],?_,.inl ⟨rfl,rfl,rfl⟩⟩
   rw [hh,zGR]
   unfold zQ
   rw [Yg (.inr (.inr (.inr (.inl rfl)))),zGR]
   exact zHe _
 rw [if_neg p4]
 by_cases p5:x.PC=5
 ·rw [if_pos p5]
  intro S'
  have eo:wA x=[]:=vZ (by omega) (by omega) (by omega)
  have hv:=hH x.Obj x.Slot
  dsimp only
  split
  ·rcases zj4 s (wc (x.Slot+1)) with e | e<;>rw [e]
   ·refine .quiet X S' rfl rfl rfl (by rw [eo];exact vZ (by show (5:Int)≠3;decide) (by show (5:Int)≠4;decide) (by show (5:Int)≠6;decide)) ?_ (WX.plain (.inl rfl) hc0)
    unfold zQ
    rw [Wl (.inl p5),Wl (.inl rfl)]
   ·refine .quiet X S' rfl rfl rfl (by rw [eo];exact vZ (by show (8:Int)≠3;decide) (by show (8:Int)≠4;decide) (by show (8:Int)≠6;decide)) ?_ (WX.plain (.inr (.inr (.inl rfl))) hc0)
    unfold zQ
    rw [Wl (.inl p5),Wl (.inr rfl)]
  ·rename_i hne
   have e0:(ZU 1 (zH s.H x.Obj x.Slot) w).PC=0:=rfl
   refine .quiet X S' rfl rfl rfl ?_ ?_ ⟨fun _=>hc0,fun e=>absurd e (by show ¬(6:Int)<=3;decide),fun e=>(by cases e),fun e=>(by cases e),fun e=>(by cases e),fun e=>(by cases e),fun _=>⟨GX.plain (.inl rfl) ⟨by show (0:Int)<=0;decide,by show (0:Int)<=7;decide⟩ ⟨by show (1:Int)<=1;decide,by show (1:Int)<=3;decide⟩ ⟨by show 1<=zH s.H x.Obj x.Slot;omega,hv.2⟩ (fun _ _=>hc0) (.inr ⟨by show (0:Int)≠3;decide,by show (0:Int)≠5;decide,by show (0:Int)≠7;decide⟩),rfl,rfl,rfl⟩⟩
   ·rw [eo,zyH (x:={x with Slot:=wc (x.Slot+1),PC:=6,G:=ZU 1 (zH s.H x.Obj x.Slot) w}) rfl]
    exact vn (.inr ⟨by show (0:Int)≠6;decide,by show (0:Int)≠7;decide⟩)
   ·unfold zQ
    rw [Wl (.inl p5),zto (x:={x with Slot:=wc (x.Slot+1),PC:=6,G:=ZU 1 (zH s.H x.Obj x.Slot) w}) rfl]
    rw [Zs (g:=ZU 1 (zH s.H x.Obj x.Slot) w) (.inr (.inl (by show (0:Int)<3;decide)))]
 rw [if_neg p5]
 by_cases p6:x.PC=6
 ·rw [if_pos p6]
  intro S'
  obtain ⟨G,gm,gw,g0⟩:=K.p6 p6
  obtain ⟨M,h5o,_,hn4⟩:=W.g6 p6
  have eo:wA x=x8 x.G:=zyH p6
  have hh:zQ s x=x.Batch++x.Obj::ym x.G:=by unfold zQ;rw [zto p6]
  rw [eo] at X
  obtain ⟨gh',X',G',Fx,hc',hFb,N,hN,hT⟩:=zAI hp hk X M h5o G
  have so:=Uy s x.G
  have Fx':FX p nb (wA x) (fun v=>v=w) s (zt s x.G).1 gh gh':=by
   rw [eo]
   exact Fx.mono (fun v e=>e.2.trans gw)
  have hcw:gh'.c w=0:=by have:=hc' gm g0;rwa [gw] at this
  dsimp only
  have hT':(N=[]/\([]:List Int)=[]/\(zt s x.G).1.T=s.T)\/(N=[x.G.Obj]/\([]:List Int)=[]/\x.PC=6/\¬(s.T.Marks|||bit x.G.Obj=s.T.Marks)/\(zt s x.G).1.T={s.T with Marks:=s.T.Marks|||bit x.G.Obj})\/(N=[]/\([]:List Int)=[x.Obj]/\x.PC=8/\(zt s x.G).1.T=wC s.T x.Obj):=by
   rcases hT with ⟨a,b⟩ | ⟨a,b,c⟩
   ·exact .inl ⟨a,rfl,b⟩
   ·exact .inr (.inl ⟨a,rfl,p6,b,c⟩)
  have perm:∀H':List Int,H'=x.Batch++x.Obj::ym (zt s x.G).2->List.Perm (yx p (zt s x.G).1 gh'++H'++[]) (N++(yx p s gh++zQ s x)):=by
   intro H' e
   rw [e,hh,zGR]
   have a1:List.Perm (yx p (zt s x.G).1 gh'++(x.Batch++x.Obj::ym (zt s x.G).2)) ((x.Batch++[x.Obj])++(yx p (zt s x.G).1 gh'++ym (zt s x.G).2)):=by
    rw [show x.Batch++x.Obj::ym (zt s x.G).2=(x.Batch++[x.Obj])++ym (zt s x.G).2 by simp]
    exact zHt _ _ _
   have a2:List.Perm (N++(yx p s gh++(x.Batch++x.Obj::ym x.G))) ((x.Batch++[x.Obj])++(N++(yx p s gh++ym x.G))):=by
    rw [show x.Batch++x.Obj::ym x.G=(x.Batch++[x.Obj])++ym x.G by simp]
    exact (zG3 N (zHt _ _ _)).trans (zHt _ _ _)
   exact a1.trans ((zG3 _ hN).trans a2.symm)
  split
  ·rename_i o1
   have n1:x8 (zt s x.G).2=[]:=vn (.inl (by omega))
   have n2:ym (zt s x.G).2=[]:=Zs (.inl (by omega))
   rw [n1] at X'
   rcases zj4 s x.Slot with e | e<;>rw [e]
   ·refine ⟨gh',by rw [vZ (by show (5:Int)≠3;decide) (by show (5:Int)≠4;decide) (by show (5:Int)≠6;decide)];exact X',WX.plain (.inl rfl) hcw,Fx',N,[],perm _ ?_,hT'⟩
    unfold zQ;rw [Wl (.inl rfl),n2]
   ·refine ⟨gh',by rw [vZ (by show (8:Int)≠3;decide) (by show (8:Int)≠4;decide) (by show (8:Int)≠6;decide)];exact X',WX.plain (.inr (.inr (.inl rfl))) hcw,Fx',N,[],perm _ ?_,hT'⟩
    unfold zQ;rw [Wl (.inr rfl),n2]
  ·rename_i o1
   have o0:(zt s x.G).2.Out=0:=by have:=G'.o;omega
   refine ⟨gh',by rw [zyH (x:={x with G:=(zt s x.G).2}) p6];exact X',⟨fun _=>hcw,fun e=>by have e:x.PC<=3:=e;omega,fun e=>by have e:x.PC=0:=e;omega,fun e=>by have e:x.PC=1:=e;omega,fun e=>by have e:x.PC=2:=e;omega,fun e=>by have e:x.PC=4:=e;omega,fun _=>⟨G',so.2.2.trans gm,so.2.1.trans gw,o0⟩⟩,Fx',N,[],perm _ ?_,hT'⟩
   unfold zQ;rw [zto (x:={x with G:=(zt s x.G).2}) p6]
 rw [if_neg p6]
 have eo:wA x=[]:=vZ (by omega) (by omega) (by omega)
 by_cases p7:x.PC=7
 ·rw [if_pos p7]
  intro S'
  dsimp only
  split
  ·rename_i hb
   rw [eB]
   refine .quiet X S' rfl rfl rfl (by rw [eo];exact vZ (by show (0:Int)≠3;decide) (by show (0:Int)≠4;decide) (by show (0:Int)≠6;decide)) ?_ (WX.begin hc0 hb)
   unfold zQ
   rw [ziv,Yg (.inr (.inr (.inr (.inl p7))))]
   exact zHe _
  ·rename_i o l hb
   refine .quiet X S' rfl rfl rfl (by rw [eo];exact vZ (by show (5:Int)≠3;decide) (by show (5:Int)≠4;decide) (by show (5:Int)≠6;decide)) ?_ (WX.plain (.inl rfl) hc0)
   unfold zQ
   rw [Wl (.inl rfl),Yg (.inr (.inr (.inr (.inl p7)))),hb,zGR]
   exact zHC
 rw [if_neg p7]
 by_cases p8:x.PC=8
 ·rw [if_pos p8]
  intro S'
  refine ⟨gh,by rw [vZ (by show (9:Int)≠3;decide) (by show (9:Int)≠4;decide) (by show (9:Int)≠6;decide)];rw [eo] at X;exact X.quiet S' rfl,WX.plain (.inr (.inr (.inr rfl))) hc0,FX.quiet rfl (fun _ _ _=>rfl),[],[x.Obj],?_,.inr (.inr ⟨rfl,rfl,p8,rfl⟩)⟩
  rw [uO rfl,zG0]
  unfold zQ
  rw [Wl (.inr p8),Yg (.inr (.inr (.inr (.inr rfl)))),zGR,zGV]
  exact zHe _
 rw [if_neg p8]
 have p9:x.PC=9:=by omega
 rw [if_pos p9]
 intro S'
 refine .quiet X S' rfl rfl rfl (by rw [eo];exact vZ (by show (7:Int)≠3;decide) (by show (7:Int)≠4;decide) (by show (7:Int)≠6;decide)) ?_ (WX.plain (.inr (.inl rfl)) hc0)
 unfold zQ
 rw [Yg (.inr (.inr (.inr (.inr p9)))),Yg (.inr (.inr (.inr (.inl rfl))))]
theorem zDl (s:za) (w:Int) (x:zg) (h:(zu s w x).2.PC=6):(x.PC=6/\(zu s w x).2.G.Obj=x.G.Obj)\/(x.PC=5/\(zu s w x).2.G.Obj=zH s.H x.Obj x.Slot):=by
 revert h
 have hon:∀i,onW s i≠6:=fun i e=>by rcases zj4 s i with h | h<;>omega
 have hlk:∀y:zg,(ZF s.P w y).PC≠6:=fun y e=>by unfold ZF at e;split at e<;>cases e
 unfold zu
 split
 ·rename_i h0
  dsimp only
  split
  ·exact fun e=>by cases e
  split
  ·exact fun e=>absurd e (hlk _)
  ·exact fun e=>by have e:x.PC=6:=e;omega
 split
 ·dsimp only
  split
  ·exact fun e=>by cases e
  split
  ·exact fun e=>by cases e
  ·exact fun e=>by have e:x.PC=6:=e;omega
 split
 ·exact fun e=>by cases e
 split
 ·dsimp only
  split
  ·exact fun e=>by cases e
  ·exact fun e=>by have e:x.PC=6:=e;omega
 split
 ·rename_i h5
  dsimp only
  split
  ·exact fun e=>absurd e (hon _)
  ·exact fun _=>.inr ⟨h5,rfl⟩
 split
 ·rename_i h6
  dsimp only
  split
  ·exact fun e=>absurd e (hon _)
  ·exact fun _=>.inl ⟨h6,(Uy s x.G).1⟩
 split
 ·dsimp only
  split
  ·exact fun e=>by cases e
  ·exact fun e=>by cases e
 split
 ·exact fun e=>by cases e
 split
 ·exact fun e=>by cases e
 ·exact fun e=>.inl ⟨e,rfl⟩
end
end Go.Pe.G
namespace Go.Pe.G
open Go.Pe
noncomputable section
theorem zu7 {o:Int}(h:1<=o/\o<=64) (j:Nat):(bit o).getLsbD j=decide ((o-1).toNat=j):=by
 unfold bit
 rw [if_pos h,<-BitVec.twoPow_eq,BitVec.getLsbD_twoPow,decide_eq_true (by omega:(o-1).toNat<64),zHL]
theorem xy (s:BitVec 64) (o:Int):zI s o=true↔1<=o/\o<=64/\s.getLsbD (o-1).toNat=true:=by
 unfold zI
 rw [zG6,decide_eq_false_iff_not]
 by_cases h:1<=o/\o<=64
 ·constructor
  ·intro h1
   refine ⟨h.1,h.2,Classical.byContradiction (fun h2=>h1 ?_)⟩
   apply zIg
   intro j hj
   rw [zHX,zu7 h,zIh]
   by_cases e:(o-1).toNat=j
   ·rw [<-e];simp only [Bool.not_eq_true] at h2;rw [h2];rfl
   ·rw [decide_eq_false e,Bool.and_false]
  ·rintro ⟨_,_,h1⟩ h2
   have:=congrArg (fun v=>BitVec.getLsbD v (o-1).toNat) h2
   simp only [zHX,zu7 h,h1,zIh] at this
   simp at this
 ·constructor
  ·intro h1
   exact absurd (by unfold bit;rw [if_neg h,BitVec.and_zero]) h1
  ·rintro ⟨a,b,_⟩;exact absurd ⟨a,b⟩ h
theorem wq (s:BitVec 64) {o:Int}(h:1<=o/\o<=64) (q:Int):zI (s|||bit o) q=true↔zI s q=true\/q=o:=by
 rw [xy,xy,BitVec.getLsbD_or,zu7 h]
 simp only [zHS,decide_eq_true_eq]
 constructor
 ·rintro ⟨a,b,c | c⟩
  ·exact .inl ⟨a,b,c⟩
  ·exact .inr (by omega)
 ·rintro (⟨a,b,c⟩ | rfl)
  ·exact ⟨a,b,.inl c⟩
  ·exact ⟨h.1,h.2,.inr rfl⟩
theorem za6 (s t:BitVec 64) (q:Int):zI (s&&&t) q=true↔zI s q=true/\zI t q=true:=by
 rw [xy,xy,xy,zHX]
 simp only [zGP]
 constructor
 ·rintro ⟨a,b,c,d⟩;exact ⟨⟨a,b,c⟩,a,b,d⟩
 ·rintro ⟨⟨a,b,c⟩,_,_,d⟩;exact ⟨a,b,c,d⟩
theorem XO (q:Int): ¬zI 0#64 q=true:=by
 rw [xy,zIh];exact fun h=>by cases h.2.2
theorem zvS {s t:BitVec 64}(h:∀o,zI s o=true↔zI t o=true):s=t:=by
 apply zIg
 intro j hj
 have:=h ((j:Int)+1)
 rw [xy,xy,show ((j:Int)+1-1).toNat=j by omega] at this
 rw [Bool.eq_iff_iff]
 exact ⟨fun e=>(this.1 ⟨by omega,by omega,e⟩).2.2,fun e=>(this.2 ⟨by omega,by omega,e⟩).2.2⟩
theorem zdH {m:BitVec 64}{o:Int}(h:1<=o/\o<=64): ¬(m|||bit o=m)↔¬zI m o=true:=by
 constructor
 ·intro h1 h2
  refine h1 (zvS (fun q=>?_))
  rw [wq _ h]
  exact ⟨fun e=>e.elim id (fun e=>by rw [e];exact h2),.inl⟩
 ·intro h1 h2
  refine h1 ?_
  rw [<-h2,wq _ h];exact .inr rfl
theorem ux (t:zo) (o:Int):xg t o=1↔zI t.Marks o=true/\¬zI t.Black o=true:=by
 unfold xg
 by_cases h1:zI (t.Marks&&&t.Black) o=true
 ·rw [if_pos h1]
  rw [za6] at h1
  exact ⟨fun e=>(by cases e),fun e=>absurd h1.2 e.2⟩
 ·rw [if_neg h1]
  rw [za6] at h1
  by_cases h2:zI t.Marks o=true
  ·rw [if_pos h2];exact ⟨fun _=>⟨h2,fun e=>h1 ⟨h2,e⟩⟩,fun _=>rfl⟩
  ·rw [if_neg h2];exact ⟨fun e=>(by cases e),fun e=>absurd e.1 h2⟩
end
end Go.Pe.G
namespace Go.Pe.G
open Go.Pe
noncomputable section
theorem zxH {α:Type}{l:List α}{i:Nat}{x:α}(h:l[i]? =some x):∃a b,l=a++x::b/\(∀y,l.set i y=a++y::b)/\(∀z∈a++b,∃j,j≠i/\l[j]? =some z) /\
  (∀j z,j≠i->l[j]? =some z->z∈a++b):=by
 obtain ⟨hi,e⟩:=zGY.1 h
 have hl:(l.take i).length=i:=by rw [zHU];omega
 have el:l=l.take i++x::l.drop (i+1):=by
  conv=>lhs;rw [<-zIp i l,zHA hi,e]
 refine ⟨l.take i,l.drop (i+1),el,fun y=>?_,fun z hz=>?_,fun j z hj hz=>?_⟩
 ·rw [List.set_eq_take_append_cons_drop,if_pos hi]
 ·rcases zHb.1 hz with hz | hz
  ·obtain ⟨j,hj⟩:=zIt.1 hz
   obtain ⟨hj1,hj2⟩:=zGY.1 hj
   have hj3:j<i:=by omega
   exact ⟨j,by omega,by rw [List.getElem?_take_of_lt hj3] at hj;exact hj⟩
  ·obtain ⟨j,hj⟩:=zIt.1 hz
   exact ⟨i+1+j,by omega,by rw [List.getElem?_drop] at hj;exact hj⟩
 ·rw [el] at hz
  rcases zHm j i with h1 | h1
  ·rw [zHg (by omega)] at hz
   exact zG7 _ (zGW hz)
  ·rw [zHn (by omega),hl] at hz
   rw [show j-i=(j-i-1)+1 by omega,zIz] at hz
   exact zHk _ (zGW hz)
theorem Vf {α β:Type}{f:α->List β}{a b:List α}{x:α}:List.Perm ((a++x::b).flatMap f) (f x++(a++b).flatMap f):=by
 rw [zIb,zHB,zIb]
 exact zHt _ _ _
theorem SX.perm {p:zb}{nb k:Nat}{s:za}{g:Gh}{o o':List Int}(X:SX p nb s g o k) (h:List.Perm o' o):SX p nb s g o' k :=
 ⟨X.S,⟨X.L.hs,X.L.cF,X.L.cE,(zG3 _ h).trans X.L.all,X.L.len⟩,X.D,X.v,X.dk⟩
theorem SX.state {p:zb}{nb k:Nat}{s s':za}{g:Gh}{o:List Int}(X:SX p nb s g o k) (S':SOk p nb s') (hm:s'.M=s.M):SX p nb s' g o k :=
 ⟨S',by rw [hm];exact X.L,by rw [hm];exact X.D,by rw [hm];exact X.v,X.dk⟩
theorem GX.state {p:zb}{s s':za}{gh:Gh}{g:zx}(G:GX p s gh g) (hm:s'.M=s.M) (hb:s'.Bins=s.Bins):GX p s' gh g :=
 ⟨G.o,G.pc,G.md,G.ob,G.c0,by rw [hm];exact G.c5,by rw [hm,hb];exact G.c7,by rw [hm];exact G.d3⟩
theorem WX.state {p:zb}{s s':za}{gh:Gh}{w:Int}{x:zg}(W:WX p s gh w x) (hm:s'.M=s.M) (hb:s'.Bins=s.Bins):WX p s' gh w x :=
 ⟨W.c0,W.bt,by rw [hm];exact W.p0,by rw [hm];exact W.p1,by rw [hm];exact W.p2,by rw [hm];exact W.p4,fun e=>⟨(W.p6 e).1.state hm hb,(W.p6 e).2⟩⟩
theorem zgs {s s':za}{x:zg}(hm:s'.M=s.M) (hb:s'.Bins=s.Bins):zQ s' x=zQ s x:=by
 unfold zQ Up yw;rw [hm,hb]
def zAM (p:zb) (s:za) (g:Gh):List Int:=yx p s g++s.Ws.flatMap (zQ s)
structure zbw (B:List Int) (t:zo):Prop where
 blk:∀o,zI t.Black o=true->zI t.Marks o=true
 nd:B.Nodup
 gr:∀o,o∈B↔xg t o=1
theorem zbd {t:zo}{o:Int}(h:xg t o=1):1<=o/\o<=64:=by
 have:=(xy _ _).1 ((ux t o).1 h).1
 exact ⟨this.1,this.2.1⟩
theorem zbw.more {B B':List Int}{t:zo}{o:Int}(K:zbw B t) (ho:1<=o/\o<=64) (hn: ¬(t.Marks|||bit o=t.Marks)) (h:List.Perm B' (o::B)):zbw B' {t with Marks:=t.Marks|||bit o}:=by
 have hn:=(zdH ho).1 hn
 have hnb: ¬zI t.Black o=true:=fun e=>hn (K.blk o e)
 have hno:o∉B:=fun e=>hn ((ux t o).1 ((K.gr o).1 e)).1
 refine ⟨fun q hq=>(wq _ ho q).2 (.inl (K.blk q hq)),h.nodup_iff.2 (List.nodup_cons.2 ⟨hno,K.nd⟩),fun q=>?_⟩
 rw [h.mem_iff,zG9,K.gr,ux,ux]
 show q=o\/_↔zI (t.Marks|||bit o) q=true/\¬zI t.Black q=true
 rw [wq _ ho]
 constructor
 ·rintro (rfl | ⟨a,b⟩)
  ·exact ⟨.inr rfl,hnb⟩
  ·exact ⟨.inl a,b⟩
 ·rintro ⟨a | a,b⟩
  ·exact .inr ⟨a,b⟩
  ·exact .inl a
theorem zbw.less {B B':List Int}{t:zo}{o:Int}(K:zbw B t) (h:List.Perm (B'++[o]) B):zbw B' (wC t o)/\(wC t o).Marks=t.Marks/\xg t o=1/\∀q,zI (wC t o).Black q=true↔zI t.Black q=true\/q=o:=by
 have ho:xg t o=1:=(K.gr o).1 (h.mem_iff.1 (by simp))
 have hr:=zbd ho
 have hm:=((ux t o).1 ho)
 have hnd:=h.nodup_iff.2 K.nd
 have hnd:=zHZ.1 hnd
 unfold wC
 rw [if_pos ho]
 refine ⟨⟨fun q hq=>?_,hnd.1,fun q=>?_⟩,rfl,ho,fun q=>wq _ hr q⟩
 ·rcases (wq _ hr q).1 hq with e | e
  ·exact K.blk q e
  ·rw [e];exact hm.1
 ·have e1:q∈B↔q∈B'\/q=o:=by rw [<-h.mem_iff,zHb,zHs]
  rw [K.gr,ux] at e1
  rw [ux]
  show _↔zI t.Marks q=true/\¬zI (t.Black|||bit o) q=true
  rw [wq _ hr]
  constructor
  ·intro hq
   have:=e1.2 (.inl hq)
   exact ⟨this.1,fun e=>e.elim this.2 (fun e=>hnd.2.2 q hq o (by simp) e)⟩
  ·rintro ⟨a,b⟩
   rcases e1.1 ⟨a,fun e=>b (.inl e)⟩ with e | e
   ·exact e
   ·exact absurd (.inr e) b
theorem HOk.get {p:zb}(hp:zB p) {h:zr}(H:HOk p h) (o i:Int):0<=zH h o i/\zH h o i<=64:=by
 have h1:=H.n
 have h2:p.Most<=64:=by have:=hp.most;have:=hp.n;omega
 unfold zH
 split
 ·unfold zK
  rw [zGS,zGS]
  cases hx:h.Objs[(o-1).toNat]? with
  | none=>show 0<=(([]:List Int)[i.toNat]?).getD 0/\_;simp
  | some l =>
   show 0<=(l[i.toNat]?).getD 0/\(l[i.toNat]?).getD 0<=64
   cases hv:l[i.toNat]? with
   | none=>show (0:Int)<=0/\(0:Int)<=64;decide
   | some v =>
    have:=(H.objs l (zGW hx)).2 v (zGW hv)
    show 0<=v/\v<=64;omega
 ·exact ⟨by decide,by decide⟩
structure WG (p:zb) (nb k:Nat) (s:za) (gh:Gh):Prop where
 E:EOk p nb s
 X:SX p nb s gh (s.Ws.flatMap wA) k
 W:∀(i:Nat) x,s.Ws[i]? =some x->WX p s gh ((i:Int)+1) x
 B:zbw (zAM p s gh) s.T
end
end Go.Pe.G
namespace Go.Pe.G
open Go.Pe
noncomputable section
theorem zoh {N:Int}{nb:Nat}(hN:0<=N/\N<1000) (hnb:nb<1000):∀(l:List Int) (m:List (BitVec 64)) (a:Int),(∀x∈l,1<=x/\x<nb)->(∀x∈l,a≠N+x)->ld (links m N l) a=ld m a
 | [],m,a,_,_=>rfl
 | [x],m,a,h,h2=>by
  have:=h x (by simp)
  have:=h2 x (by simp)
  rw [links,xS (by omega) (by omega)]
  exact yq (by omega)
 | x::y::l,m,a,h,h2=>by
  have:=h x (by simp)
  have:=h2 x (by simp)
  rw [links,zoh hN hnb (y::l) _ a (fun z hz=>h z (zGX _ hz)) (fun z hz=>h2 z (zGX _ hz)),xS (by omega) (by omega)]
  exact yq (by omega)
theorem zpr {N:Int}{nb:Nat}(hN:0<=N/\N<1000) (hnb:nb<1000):∀(l:List Int) (m:List (BitVec 64)),(∀x∈l,1<=x/\x<nb)->l.Nodup->N+nb<=m.length->Chn (links m N l) N nb (l.headD 0) l
 | [],m,_,_,_=>rfl
 | [x],m,h,_,hl=>by
  have:=h x (by simp)
  refine ⟨rfl,this.1,this.2,?_⟩
  rw [links,xS (by omega) (by omega),Ww,if_pos ⟨rfl,by omega,by omega⟩]
  rfl
 | x::y::l,m,h,hd,hl=>by
  have hx:=h x (by simp)
  have hy:=h y (by simp)
  have hd:=List.nodup_cons.1 hd
  refine ⟨rfl,hx.1,hx.2,?_⟩
  have ih:=zpr hN hnb (y::l) (st m (wc (N+x)) (BitVec.ofInt 64 y)) (fun z hz=>h z (zGX _ hz)) hd.2 (by rw [ZP];exact hl)
  rw [links,zoh hN hnb (y::l) _ (N+x) (fun z hz=>h z (zGX _ hz)) (fun z hz e=>hd.1 (by rw [znC e] at hz;exact hz)),xS (by omega) (by omega),Ww,if_pos ⟨rfl,by omega,by omega⟩,toInt_ofInt (by omega) (by omega)]
  rw [xS (by omega) (by omega)] at ih
  exact ih
theorem Chn.links {N:Int}{nb:Nat}(hN:0<=N/\N<1000) (hnb:nb<1000) {l r:List Int}{h:Int}{m:List (BitVec 64)}(hr:∀x∈r,1<=x/\x<nb) (hd:∀x∈l,x∉r) (c:Chn m N nb h l):Chn (Go.Pe.G.links m N r) N nb h l:=by
 induction l generalizing h with
 | nil=>exact c
 | cons y l ih =>
  refine ⟨c.1,c.2.1,c.2.2.1,?_⟩
  rw [zoh hN hnb r m (N+y) hr (fun z hz e=>hd y (by simp) (by rw [znC e] at hz;exact hz))]
  exact ih (fun x hx=>hd x (zGX _ hx)) c.2.2.2
theorem zxT {l:List Int}{nb:Nat}(h:∀x∈l,1<=x/\x<nb) (hnb:nb<1000):0<=l.headD 0/\l.headD 0<4294967296:=by
 cases l with
 | nil=>exact ⟨by decide,by decide⟩
 | cons a r=>have:=h a (by simp);show 0<=a/\a<4294967296;omega
theorem zCJ {p:zb}(h:zB p):LI p (zS p+1) (yr p).M (z5 p) (zD p) ((xq (zS p)).take (yX p).length) ((xq (zS p)).drop (yX p).length) []/\xi (ld (yr p).M (z5 p))=0/\xi (ld (yr p).M (zD p))=0:=by
 have hb:=zcG h
 have hF:=Zt h
 have hE:=wn h
 have hcl:=UE p p.Workers.toNat
 have hw:=h.wk
 have hc:=h.cap
 have hfe:z5 p=((p.Workers.toNat*(p.Cap.toNat+2):Nat):Int):=by
  rw [hF.1]
  have e1:p.Workers=((p.Workers.toNat:Nat):Int):=by omega
  have e2:p.Cap+2=((p.Cap.toNat+2:Nat):Int):=by omega
  rw [e2,Int.natCast_mul]
  rw [<-e1]
 have hN:0<=zD p/\zD p<1000:=by omega
 have hnb:zS p+1<1000:=by omega
 generalize hk:(yX p).length=k
 have t1:∀x∈(xq (zS p)).take k,1<=x/\x<((zS p+1:Nat):Int):=fun x hx=>by have:=ze9 (zIk hx);omega
 have t2:∀x∈(xq (zS p)).drop k,1<=x/\x<((zS p+1:Nat):Int):=fun x hx=>by have:=ze9 (List.mem_of_mem_drop hx);omega
 have nd:((xq (zS p)).take k++(xq (zS p)).drop k).Nodup:=by rw [zIp];exact zrP (zS p+1)
 have nd3:=zHZ.1 nd
 have eM:(yr p).M=zcz (zcz (YF p p.Workers.toNat++List.replicate (2+zS p) 0#64) (z5 p) (zD p) ((xq (zS p)).take k)) (zD p) (zD p) ((xq (zS p)).drop k):=by rw [<-hk];rfl
 rw [eM]
 generalize hm0:YF p p.Workers.toNat++List.replicate (2+zS p) 0#64=m0
 have l0:zD p+((zS p+1:Nat):Int)<=m0.length:=by
  rw [<-hm0,zG1,hcl,zHE];omega
 have p1:=zxT t1 hnb
 have p2:=zxT t2 hnb
 have v0:∀n:Int,0<=n->n<4294967296->xi (xf 0#64 n)=0:=fun n h1 h2=>by
  unfold xi;rw [zuf _ h1 h2];show (0*4294967296+n.toNat)/4294967296=0;omega
 have c1:=zpr hN hnb _ m0 t1 nd3.1 l0
 generalize hm1:links m0 (zD p) ((xq (zS p)).take k)=m1 at c1
 have l1:m1.length=m0.length:=by rw [<-hm1,zcY]
 have c1':=(c1.st_head h (a:=z5 p) (v:=xf 0#64 (((xq (zS p)).take k).headD 0)) (.inl rfl)).links hN hnb t2 (fun x hx hx2=>nd3.2.2 x hx x hx2 rfl)
 have c2:=zpr hN hnb _ (st m1 (z5 p) (xf 0#64 (((xq (zS p)).take k).headD 0))) t2 nd3.2.1 (by rw [ZP,l1];exact l0)
 have hd1:ld (links (st m1 (z5 p) (xf 0#64 (((xq (zS p)).take k).headD 0))) (zD p) ((xq (zS p)).drop k)) (z5 p)=xf 0#64 (((xq (zS p)).take k).headD 0):=by
  rw [zoh hN hnb _ _ _ t2 (fun x hx=>by have:=t2 x hx;omega),Ww,if_pos ⟨rfl,by omega,by omega⟩]
 unfold zcz
 rw [hm1]
 generalize hm2:links (st m1 (z5 p) (xf 0#64 (((xq (zS p)).take k).headD 0))) (zD p) ((xq (zS p)).drop k)=m2 at c1' c2 hd1
 have l2:m2.length=m0.length:=by rw [<-hm2,zcY,ZP,l1]
 have g1:ld (st m2 (zD p) (xf 0#64 (((xq (zS p)).drop k).headD 0))) (z5 p)=xf 0#64 (((xq (zS p)).take k).headD 0):=by rw [yq (by omega),hd1]
 have g2:ld (st m2 (zD p) (xf 0#64 (((xq (zS p)).drop k).headD 0))) (zD p)=xf 0#64 (((xq (zS p)).drop k).headD 0):=by rw [Ww,if_pos ⟨rfl,by omega,by omega⟩]
 refine ⟨⟨.inl ⟨rfl,rfl⟩,?_,?_,?_,by rw [ZP,l2];exact l0⟩,?_,?_⟩
 ·rw [g1,zcP _ p1.1 p1.2]
  exact c1'.st_head h (.inr rfl)
 ·rw [g2,zcP _ p2.1 p2.2]
  exact c2.st_head h (.inr rfl)
 ·rw [zGR,zIp]
  exact zHe _
 ·rw [g1];exact v0 _ p1.1 p1.2
 ·rw [g2];exact v0 _ p2.1 p2.2
end
end Go.Pe.G
namespace Go.Pe.G
open Go.Pe
noncomputable section
theorem zp6 {N:Int}(hN:0<=N/\N<1000):∀(l:List Int) (m:List (BitVec 64)) (a:Int),(∀x∈l,1<=x/\x<1000)->a<=N->ld (links m N l) a=ld m a
 | [],m,a,_,_=>rfl
 | [x],m,a,h,h2=>by
  have:=h x (by simp)
  rw [links,xS (by omega) (by omega)]
  exact yq (by omega)
 | x::y::l,m,a,h,h2=>by
  have:=h x (by simp)
  rw [links,zp6 hN (y::l) _ a (fun z hz=>h z (zGX _ hz)) h2,xS (by omega) (by omega)]
  exact yq (by omega)
theorem zFg {p:zb}(h:zB p) {a:Int}(ha:a<z5 p):ld (yr p).M a=ld (YF p p.Workers.toNat++List.replicate (2+zS p) 0#64) a:=by
 have hb:=zcG h
 have hF:=Zt h
 have hE:=wn h
 have t1:∀x∈(xq (zS p)).take (yX p).length,1<=x/\x<1000:=fun x hx=>by have:=ze9 (zIk hx);omega
 have t2:∀x∈(xq (zS p)).drop (yX p).length,1<=x/\x<1000:=fun x hx=>by have:=ze9 (List.mem_of_mem_drop hx);omega
 show ld (zcz (zcz _ (z5 p) (zD p) _) (zD p) (zD p) _) a=_
 unfold zcz
 rw [yq (by omega),zp6 (by omega) _ _ _ t2 (by omega),yq (by omega),zp6 (by omega) _ _ _ t1 (by omega)]
theorem zwq (p:zb):∀(k i j:Nat),i<k->j<p.Cap.toNat+2->(YF p k)[i*(p.Cap.toNat+2)+j]? =(zhn p.Cap)[j]?
 | 0,i,j,h,_=>by omega
 | k+1,i,j,h,hj=>by
  rw [zmb]
  have hl:=UE p k
  rcases zHm i k with h1 | h1
  ·have h2:=zHO (p.Cap.toNat+2) (show i+1<=k from h1)
   rw [Nat.succ_mul] at h2
   rw [zHg (by omega)]
   exact zwq p k i j h1 hj
  ·have:i=k:=by omega
   subst this
   rw [zHn (by omega),hl,show i*(p.Cap.toNat+2)+j-i*(p.Cap.toNat+2)=j by omega]
theorem zyQ {p:zb}(h:zB p) {w:Int}(hw:1<=w/\w<=p.Workers) {j:Nat}(hj:j<2):ld (yr p).M (zL p w+j)=1#64:=by
 have hd:=Yj h hw.1 hw.2
 have hc:=h.cap
 have hl:=UE p p.Workers.toNat
 have hlt:(w-1).toNat<p.Workers.toNat:=by omega
 have e1:(zL p w+j).toNat=(w-1).toNat*(p.Cap.toNat+2)+j:=by
  obtain ⟨n,hn⟩:∃n:Nat,w-1=(n:Int):=⟨(w-1).toNat,by omega⟩
  have e2:p.Cap+2=((p.Cap.toNat+2:Nat):Int):=by omega
  rw [hd.1,hn,e2,<-Int.natCast_mul,zHv]
  omega
 have h2:=zHO (p.Cap.toNat+2) (show (w-1).toNat+1<=p.Workers.toNat from hlt)
 rw [Nat.succ_mul] at h2
 rw [zFg h (by omega)]
 unfold ld
 rw [if_pos (by omega),e1,zGS,zHg (by omega),zwq p _ _ _ hlt (by omega)]
 unfold zhn
 match j,hj with
 | 0,_=>rfl
 | 1,_=>rfl
theorem zrH (n:Nat) (hn:1<=n):∀(f:Nat) (l:List Int),l.length<=f->(vz n f l).flatten=l
 | 0,l,h=>by
  have:l=[]:=List.length_eq_zero_iff.1 (by omega)
  subst this;simp [vz]
 | f+1,[],_=>by simp [vz]
 | f+1,x::l,h=>by
  have:=zrH n hn f ((x::l).drop n) (by rw [zH3];simp at h ⊢;omega)
  simp only [vz,List.flatten_cons] at this ⊢
  rw [this,zIp]
theorem zC9 {α:Type}(l:List (List α)):(List.range l.length).flatMap (fun i:Nat=>(l[i]?).getD [])=l.flatten:=by
 rw [List.flatMap_def]
 congr 1
 apply List.ext_getElem
 ·simp
 ·intro i h1 h2
  simp [zGQ h2]
def gh0 (p:zb):Gh:=⟨(xq (zS p)).take (yX p).length,(xq (zS p)).drop (yX p).length,fun _=>[],fun _=>1,fun _=>0⟩
theorem zaX {α β:Type}{f:α->List β}:∀ {l:List α},(∀x∈l,f x=[])->l.flatMap f=[]
 | [],_=>rfl
 | a::l,h=>by rw [zHB,h a (by simp),zaX (fun x hx=>h x (zGX _ hx))];rfl
theorem zAa {p:zb}(h:zB p):yx p (yr p) (gh0 p)=Wx (u5 p):=by
 have hb:=h.bin
 have hfl:=zou h
 have hbs:=zcG h
 have hmost:=h.most
 have hw:=h.wk
 have hm:=h.mt
 have e1:yx p (yr p) (gh0 p)=((xq (zS p)).take (yX p).length).flatMap (yw (yr p)):=by
  show ((xq (zS p)).take (yX p).length).flatMap (yw (yr p))++(List.range p.Workers.toNat).flatMap (fun _=>([]:List Int))=_
  rw [zaX (f:=fun _=>([]:List Int)) (fun _ _=>rfl),zGR]
 have e2:(xq (zS p)).take (yX p).length=(List.range (yX p).length).map (fun i:Nat=>(i:Int)+1):=by
  unfold xq
  rw [<-List.map_take,List.take_range,Nat.min_eq_left (by omega)]
 rw [e1,e2,List.flatMap_map]
 have e3:(List.range (yX p).length).flatMap (fun i:Nat=>yw (yr p) ((i:Int)+1))=(List.range (yX p).length).flatMap (fun i:Nat=>((yX p)[i]?).getD []):=by
  refine wa (fun i hi=>?_)
  have hi:=zHl.1 hi
  unfold yw
  show (([[]]++yX p++List.replicate (zS p-(yX p).length) [])[((i:Int)+1).toNat]?).getD []=_
  rw [show ((i:Int)+1).toNat=i+1 by omega,zGV]
  show ((yX p++List.replicate (zS p-(yX p).length) [])[i]?).getD []=_
  rw [zHg hi]
 rw [e3,zC9]
 exact zrH _ (by omega) _ _ (zGT _)
theorem zz3 (s:BitVec 64):(Wx s).Nodup:=by
 unfold Wx
 rw [List.Nodup,List.pairwise_map]
 exact (List.nodup_range.filter _).imp (fun h e=>h (by omega))
theorem zAZ {s:BitVec 64}(h:s&&& ~~~63#64=0#64) {j:Nat}(hs:s.getLsbD j=true):j<6:=by
 have hj:j<64:=BitVec.lt_of_getLsbD hs
 have:=congrArg (fun x=>x.getLsbD j) h
 simp only [zHX,zIr,hs,hj,decide_true,zHL,zIh] at this
 have h63:(63#64).getLsbD j=decide (j<6):=by
  have:∀j:Fin 64,(63#64).getLsbD j.1=decide (j.1<6):=by decide
  exact this ⟨j,hj⟩
 rw [h63] at this
 by_cases e:j<6
 ·exact e
 ·rw [decide_eq_false e] at this;cases this
theorem zCc {s:BitVec 64}(h:s&&& ~~~63#64=0#64) (o:Int):o∈Wx s↔zI s o=true:=by
 unfold Wx
 rw [xy,zG2]
 constructor
 ·rintro ⟨i,hi,rfl⟩
  obtain ⟨h1,h2⟩:=zH9.1 hi
  have:=zHl.1 h1
  exact ⟨by omega,by omega,by rw [show ((i:Int)+1-1).toNat=i by omega];exact h2⟩
 ·rintro ⟨h1,h2,h3⟩
  exact ⟨(o-1).toNat,zH9.2 ⟨zHl.2 (zAZ h h3),h3⟩,by omega⟩
theorem zF1 {p:zb}(h:zB p):WG p (zS p+1) 0 (yr p) (gh0 p):=by
 have hE:=zCI h
 obtain ⟨L,v1,v2⟩:=zCJ h
 have hc:=h.cap
 have hws:∀x∈(yr p).Ws,∃i:Nat,x=ub p i:=fun x hx=>by
  obtain ⟨i,_,rfl⟩:=zG2.1 (show x∈(List.range p.Workers.toNat).map (ub p) from hx)
  exact ⟨i,rfl⟩
 have hb:∀i:Nat,ub p i=V0 p ((i:Int)+1) (ub p i):=fun i=>rfl
 have own:(yr p).Ws.flatMap wA=[]:=zaX (fun x hx=>by
  obtain ⟨i,rfl⟩:=hws x hx
  exact vZ (by show (0:Int)≠3;decide) (by show (0:Int)≠4;decide) (by show (0:Int)≠6;decide))
 have hold:(yr p).Ws.flatMap (zQ (yr p))=[]:=zaX (fun x hx=>by
  obtain ⟨i,rfl⟩:=hws x hx
  unfold zQ
  rw [hb i,ziv];rfl)
 refine ⟨hE,⟨hE.S,by rw [own];exact L,fun w h1 h2=>?_,?_,fun w _ _=>by show 1+0<=0+1000;decide⟩,fun i x hx=>?_,?_⟩
 ·have c0:=zyQ h ⟨h1,h2⟩ (j:=0) (by decide)
  have c1:=zyQ h ⟨h1,h2⟩ (j:=1) (by decide)
  rw [show zL p w+((0:Nat):Int)=zL p w by omega] at c0
  exact ⟨c0,c1,by show (0:Nat)<=1;decide,by show (1:Nat)<=1;decide,zHV _,by show 1+0<4294967296;decide,fun i hi=>absurd hi (Nat.not_lt_zero _)⟩
 ·rw [v1,v2];exact ⟨zGT _,zGT _⟩
 ·have hx:((List.range p.Workers.toNat).map (ub p))[i]? =some x:=hx
  rw [zHi] at hx
  cases hr:(List.range p.Workers.toNat)[i]? with
  | none=>rw [hr] at hx;cases hx
  | some j =>
   rw [hr] at hx
   injection hx with hx
   obtain ⟨h1,h2⟩:=zGY.1 hr
   rw [List.getElem_range] at h2
   subst h2
   rw [<-hx,hb i]
   exact WX.begin rfl rfl
 ·have hs:=zgw h
  unfold zAM
  rw [hold,zGR,zAa h]
  refine ⟨fun o ho=>absurd ho (XO o),zz3 _,fun o=>?_⟩
  rw [zCc hs,ux]
  exact ⟨fun e=>⟨e,XO o⟩,fun e=>e.1⟩
theorem zwO (n:Nat) (hn:1<=n):∀(f:Nat) (l c:List Int),c∈vz n f l->c≠[]
 | 0,l,c,h=>by simp [vz] at h
 | f+1,[],c,h=>by simp [vz] at h
 | f+1,x::l,c,h=>by
  simp only [vz,zG9] at h
  rcases h with h | h
  ·rw [h]
   match n,hn with
   | m+1,_=>exact List.cons_ne_nil _ _
  ·exact zwO n hn f _ c h
theorem zFs {p:zb}(h:zB p):∀y∈(gh0 p).F,yw (yr p) y≠[]:=by
 intro y hy
 have hb:=h.bin
 have hfl:=zou h
 have hbs:=zcG h
 have hmost:=h.most
 have hw:=h.wk
 have hm:=h.mt
 have hy:y∈(xq (zS p)).take (yX p).length:=hy
 have e2:(xq (zS p)).take (yX p).length=(List.range (yX p).length).map (fun i:Nat=>(i:Int)+1):=by
  unfold xq
  rw [<-List.map_take,List.take_range,Nat.min_eq_left (by omega)]
 rw [e2] at hy
 obtain ⟨i,hi,rfl⟩:=zG2.1 hy
 have hi:=zHl.1 hi
 unfold yw
 show (([[]]++yX p++List.replicate (zS p-(yX p).length) [])[((i:Int)+1).toNat]?).getD []≠[]
 rw [show ((i:Int)+1).toNat=i+1 by omega,zGV]
 show ((yX p++List.replicate (zS p-(yX p).length) [])[i]?).getD []≠[]
 rw [zHg hi,zGQ hi]
 exact zwO _ (by omega) _ _ _ (zHj hi)
end
end Go.Pe.G
namespace Go.Pe.G
open Go.Pe
noncomputable section
def noD (base cap:Int):zd:=⟨0,0,base,cap,0#64,0#64,0,0⟩
def zjf (o:zd):Prop:=o.Kind=2/\o.Out=0/\(o.PC=2\/o.PC=4\/o.PC=5\/(o.PC=3/\o.T=o.B-1#64))
instance (o:zd):Decidable (zjf o):=by unfold zjf;infer_instance
def zfW (m:List (BitVec 64)) (base:Int) (o:zd):BitVec 64:=if zjf o then ld m (wc (base+1))+1#64 else ld m (wc (base+1))
def YA (m:List (BitVec 64)) (base cap:Int) (top:BitVec 64) (n:Nat):List Int:=(List.range n).map (fun j:Nat=>(ld m (Yx (noD base cap) (top+BitVec.ofNat 64 j))).toInt)
def X7 (m:List (BitVec 64)) (base cap:Int) (o:zd):List Int :=
 if ¬0<(zfW m base o-ld m base).toInt\/(min (ug (noD base cap)).toNat 64)<(zfW m base o-ld m base).toNat then []
 else YA m base cap (ld m base) (zfW m base o-ld m base).toNat
theorem zE1 {p:zb}(h:zB p) (b:Int):(ug (noD b p.Cap)).toNat=p.Cap.toNat:=by
 have hc:=h.cap
 have hx:p.Cap=1\/p.Cap=2\/p.Cap=3:=by omega
 unfold ug noD
 rcases hx with e | e | e<;>simp only [e]<;>decide
theorem zAf {a b:Nat}(h:b<=a) (h2:a<4294967296):BitVec.ofNat 64 a-BitVec.ofNat 64 b=BitVec.ofNat 64 (a-b):=zg4 h (by omega)
theorem zxL {p:zb}(h:zB p) {m:List (BitVec 64)}{w:Int}{t c:Nat}{l:List Int}{o:zd}(hw:1<=w/\w<=p.Workers) (D:DQ p m w t l c) (he:zfW m (zL p w) o=BitVec.ofNat 64 (t+l.length)):X7 m (zL p w) p.Cap o=l:=by
 have hs:=D.small
 have hcap:=D.cap
 have hc:=h.cap
 have ed:zfW m (zL p w) o-ld m (zL p w)=BitVec.ofNat 64 l.length:=by
  rw [he,D.top,zAf (by omega) hs];congr 1;omega
 unfold X7
 rw [ed,ZC (by omega),zE1 h]
 by_cases hl:l=[]
 ·subst hl
  rw [if_pos (.inl (by decide))]
 ·have hpos:0<l.length:=List.length_pos_iff.2 hl
  have:0<(BitVec.ofNat 64 l.length).toInt:=by
   have:=(zhg (a:=t+l.length) (b:=t) hs (by omega)).2 (by omega)
   rw [zAf (by omega) hs] at this
   rwa [show t+l.length-t=l.length by omega] at this
  rw [if_neg (by omega)]
  unfold YA
  apply List.ext_getElem
  ·simp
  ·intro i h1 h2
   rw [List.getElem_map,List.getElem_range,D.top,zcV (by omega),zgE h hw rfl rfl (by omega),D.cell i h2]
theorem zCR {p:zb}(h:zB p) {m:List (BitVec 64)}{w:Int}{t c:Nat}{o:zd}(D:DQ p m w t [] c) (he:zfW m (zL p w) o=BitVec.ofNat 64 (t-1)):X7 m (zL p w) p.Cap o=[]:=by
 have hs:=D.small
 unfold X7
 refine if_pos (.inl (fun e=>?_))
 rw [he,D.top] at e
 have:=(zhg (by have:t+0<4294967296:=hs;omega) (by have:t+0<4294967296:=hs;omega)).1 e
 omega
theorem zzl {p:zb}(h:zB p) {w:Int}(hw:1<=w/\w<=p.Workers):wc (zL p w+1)=zL p w+1:=by
 have hd:=Yj h hw.1 hw.2
 have hf:=Zt h
 have hc:=h.cap
 exact xS (by omega) (by omega)
theorem zn9 {p:zb}(h:zB p) {m:List (BitVec 64)}{w:Int}{t:Nat}{l:List Int}{o:zd}(hw:1<=w/\w<=p.Workers) (D:DQ p m w t l 0) (ho: ¬zjf o):X7 m (zL p w) p.Cap o=l:=by
 refine zxL h hw D ?_
 unfold zfW
 rw [if_neg ho,zzl h hw,D.bot];rfl
theorem zCN {p:zb}(h:zB p) {m:List (BitVec 64)}{w:Int}{t c:Nat}{l:List Int}{o:zd}(hw:1<=w/\w<=p.Workers) (D:DQ p m w t l c) (K:PK p m w t l c o):X7 m (zL p w) p.Cap o=l:=by
 have hs:=D.small
 have ht:=D.t1
 have hpc:=K.pc
 by_cases h1:zjf o
 ·have hc:c=1:=by
   rcases h1.2.2 with e | e | e | ⟨e,e2⟩
   ·exact K.c1 (.inl e)
   ·exact K.c1 (.inr (by omega))
   ·exact K.c1 (.inr (by omega))
   ·exact K.c3 e e2
  subst hc
  refine zxL h hw D ?_
  unfold zfW
  rw [if_pos h1,zzl h hw,D.bot,show (1#64:BitVec 64)=BitVec.ofNat 64 1 from rfl,zcV (by omega)]
  congr 1;omega
 ·have hn: ¬(o.PC=2\/o.PC=4\/o.PC=5\/(o.PC=3/\o.T=o.B-1#64)):=fun e=>h1 ⟨K.kind,K.out,e⟩
  by_cases h6:o.PC=6
  ·have hl:=K.e5 (by omega)
   have hc:=K.c1 (.inr (by omega))
   subst hl;subst hc
   refine zCR h D ?_
   unfold zfW
   rw [if_neg h1,zzl h hw,D.bot];rfl
  ·have hc:c=0:=by
    by_cases h3:o.PC=3
    ·exact (K.n3 h3 (fun e=>hn (.inr (.inr (.inr ⟨h3,e⟩))))).1
    ·exact K.c0 (by omega)
   subst hc
   exact zn9 h hw D h1
end
end Go.Pe.G
namespace Go.Pe.G
open Go.Pe
noncomputable section
theorem zFo {s:BitVec 64}(h:∀o,zI s o=true->o<=9):∃t:Fin 512,s=BitVec.ofNat 64 t.1:=by
 have h2:s=s&&&511#64:=by
  apply zIg
  intro j hj
  rw [zHX]
  have h63:(511#64).getLsbD j=decide (j<9):=by
   have:∀j:Fin 64,(511#64).getLsbD j.1=decide (j.1<9):=by decide
   exact this ⟨j,hj⟩
  rw [h63]
  cases hs:s.getLsbD j with
  | false=>rfl
  | true =>
   have:=h ((j:Int)+1) ((xy _ _).2 ⟨by omega,by omega,by rw [show ((j:Int)+1-1).toNat=j by omega];exact hs⟩)
   rw [decide_eq_true (by omega:j<9)];rfl
 have h3:s.toNat<512:=by
  rw [h2,zHY]
  exact zIs Nat.and_le_right (by decide)
 exact ⟨⟨s.toNat,h3⟩,by rw [BitVec.ofNat_toNat,BitVec.setWidth_eq]⟩
theorem zkm (s:BitVec 64) {q:Int}(h:1<=q/\q<=64):zI (~~~s) q=true↔¬zI s q=true:=by
 rw [xy,xy,zIr]
 simp only [show (q-1).toNat<64 by omega,decide_true,zHL,zG6]
 constructor
 ·rintro ⟨_,_,e⟩ ⟨_,_,e2⟩;rw [e] at e2;cases e2
 ·intro e
  refine ⟨h.1,h.2,?_⟩
  cases hs:s.getLsbD (q-1).toNat with
  | false=>rfl
  | true=>exact absurd ⟨h.1,h.2,hs⟩ e
end
end Go.Pe.G
namespace Go.Pe.G
open Go.Pe
noncomputable section
theorem zwP {α β:Type}{f g:α->List β}:∀(l:List α),List.Perm (l.flatMap (fun x=>f x++g x)) (l.flatMap f++l.flatMap g)
 | []=>zHe _
 | a::l=>by
  rw [zHB,zHB,zHB]
  refine (zG3 _ (zwP l)).trans ?_
  simp only [zGV]
  exact zG3 _ (zHt _ _ _)
theorem ztr {α β:Type}{f:α->List β}(l:List α):(List.range l.length).flatMap (fun i:Nat=>(l[i]?).elim [] f)=l.flatMap f:=by
 rw [List.flatMap_def,List.flatMap_def]
 congr 1
 apply List.ext_getElem
 ·simp
 ·intro i h1 h2
  have hi:i<l.length:=by simpa using h2
  simp [zGQ hi]
end
end Go.Pe.G
namespace Go.Pe.G
open Go.Pe
noncomputable section
theorem zBq {m:List (BitVec 64)}{base cap:Int}{top:BitVec 64}(hc:cap<1000) (e:BitVec 64) (h:(e-top).toNat<=64) :
  zR yb (m,e,top,zd.mk 0 0 base cap 0#64 0#64 0 0,([]:List Int),())=some (.brk (YA m base cap top (e-top).toNat,())):=by
 have he:e=top+BitVec.ofNat 64 (e-top).toNat:=by
  rw [BitVec.ofNat_toNat,BitVec.setWidth_eq,BitVec.add_comm,BitVec.sub_add_cancel]
 generalize (e-top).toNat=n at he h
 subst he
 have:=zE0 (f:=yb) (fun (i:Int) (_:Unit)=>(m,top+BitVec.ofNat 64 n,top+BitVec.ofNat 64 i.toNat,zd.mk 0 0 base cap 0#64 0#64 0 0,YA m base cap top i.toNat,())) (fun _=>(YA m base cap top n,())) n (by omega) (fun _ _=>()) (fun _=>True) (fun _ _ _=>trivial)
  (fun i _ hi _=>by
   have hne: ¬(top+BitVec.ofNat 64 i=top+BitVec.ofNat 64 n):=fun e=>by
    have e:=congrArg (fun x=>x-top) e
    rw [BitVec.add_comm top,BitVec.add_comm top,BitVec.add_sub_cancel,BitVec.add_sub_cancel] at e
    have:=zws (by omega) (by omega) e
    omega
   have e2:top+BitVec.ofNat 64 i+1#64=top+BitVec.ofNat 64 (i+1):=by
    rw [BitVec.add_assoc,show (1#64:BitVec 64)=BitVec.ofNat 64 1 from rfl,zcV (by omega)]
   have e3:YA m base cap top (i+1)=YA m base cap top i++[(ld m (Yx (zd.mk 0 0 base cap 0#64 0#64 0 0) (top+BitVec.ofNat 64 i))).toInt]:=by
    unfold YA noD
    rw [zH2,List.map_append];rfl
   have el:(YA m base cap top i).length=i:=by unfold YA;simp
   show yb (m,top+BitVec.ofNat 64 n,top+BitVec.ofNat 64 i,zd.mk 0 0 base cap 0#64 0#64 0 0,YA m base cap top i,())=some (.again (m,top+BitVec.ofNat 64 n,top+BitVec.ofNat 64 (i+1),zd.mk 0 0 base cap 0#64 0#64 0 0,YA m base cap top (i+1),()))
   rw [zee,yy,if_neg hne,zf3 (show (zd.mk 0 0 base cap 0#64 0#64 0 0).Cap<1000 from hc),zGO,Yr,zGO,yt (by rw [zG1,el];simp;omega),zGO,e2,e3])
  (fun _ _=>by
   show yb (m,top+BitVec.ofNat 64 n,top+BitVec.ofNat 64 n,zd.mk 0 0 base cap 0#64 0#64 0 0,YA m base cap top n,())=_
   rw [zee,yy,if_pos rfl]) (s:=()) trivial
 have e0:top+BitVec.ofNat 64 (0:Int).toNat=top:=by show top+0#64=top;rw [BitVec.add_zero]
 simp only [e0] at this
 exact this
theorem zFd (S d:BitVec 64):((bif decide (64#64<S) then 64#64 else S)<d)↔min S.toNat 64<d.toNat:=by
 rw [zj]
 by_cases h:64#64<S
 ·rw [if_pos h]
  have h':64<S.toNat:=h
  show 64<d.toNat↔_
  rw [Nat.min_eq_right (by omega)]
 ·rw [if_neg h]
  have h': ¬64<S.toNat:=h
  show S.toNat<d.toNat↔_
  rw [Nat.min_eq_left (by omega)]
theorem zzH {m:List (BitVec 64)}{base cap:Int}(hc:cap<1000) (o:zd):xT m base cap o=some (X7 m base cap o,()):=by
 have hl:=fun e h=>zBq (m:=m) (base:=base) (cap:=cap) (top:=ld m base) hc e h
 have hlim:=fun d=>zFd (ug (noD base cap)) d
 unfold noD at hlim
 have done:∀e:BitVec 64,∀ {b:Option (List Int×Unit)},(¬0<(e-ld m base).toInt->b=some ([],()))->(0<(e-ld m base).toInt->(min (ug (noD base cap)).toNat 64<(e-ld m base).toNat)->b=some ([],()))->(0<(e-ld m base).toInt->¬(min (ug (noD base cap)).toNat 64<(e-ld m base).toNat)->b=some (YA m base cap (ld m base) (e-ld m base).toNat,())) ->
   b=some (if ¬0<(e-ld m base).toInt\/(min (ug (noD base cap)).toNat 64)<(e-ld m base).toNat then [] else YA m base cap (ld m base) (e-ld m base).toNat,()):=by
  intro e b h1 h2 h3
  by_cases a:0<(e-ld m base).toInt
  ·by_cases c:min (ug (noD base cap)).toNat 64<(e-ld m base).toNat
   ·rw [if_pos (.inr c)];exact h2 a c
   ·rw [if_neg (by rintro (x | x);exact x a;exact c x)];exact h3 a c
  ·rw [if_pos (.inl a)];exact h1 a
 rw [zsa]
 simp only [Zd,xm,xk,zGO,Yr,zcL,zoJ]
 unfold X7
 by_cases h:zjf o
 ·have he:zfW m base o=ld m (wc (base+1))+1#64:=by unfold zfW;rw [if_pos h]
  rw [he]
  obtain ⟨k,u,pc⟩:=h
  rcases pc with p | p | p | ⟨p,t⟩
  all_goals
   first | simp only [k,u,p,t,Int.reduceEq,decide_true,decide_false,cond_true,cond_false] | simp only [k,u,p,Int.reduceEq,decide_true,decide_false,cond_true,cond_false]
   generalize ld m (wc (base+1))+1#64=e
   refine done e (fun a=>?_) (fun a c=>?_) (fun a c=>?_)
   ·simp only [decide_eq_false a,Bool.not_false,cond_true]
   ·simp only [decide_eq_true a,zG5,cond_false]
    rw [zj,if_pos ((hlim (e-ld m base)).2 c)]
   ·simp only [decide_eq_true a,zG5,cond_false]
    rw [zj,if_neg (fun x=>c ((hlim (e-ld m base)).1 x)),hl e (by omega)]
    rfl
 ·have he:zfW m base o=ld m (wc (base+1)):=by unfold zfW;rw [if_neg h]
  rw [he]
  have fin:∀b:Option (List Int×Unit),(b=(bif !decide (0<(ld m (wc (base+1))-ld m base).toInt) then some ([],()) else bif decide ((bif decide (64#64<ug (noD base cap)) then 64#64 else ug (noD base cap))<(ld m (wc (base+1))-ld m base)) then some ([],()) else (zR yb (m,ld m (wc (base+1)),ld m base,zd.mk 0 0 base cap 0#64 0#64 0 0,([]:List Int),())).bind (fun st=>match st with | .again _=>none | .brk y=>some (y.1,()) | .ret y=>none)))->b=some (if ¬0<(ld m (wc (base+1))-ld m base).toInt\/(min (ug (noD base cap)).toNat 64)<(ld m (wc (base+1))-ld m base).toNat then [] else YA m base cap (ld m base) (ld m (wc (base+1))-ld m base).toNat,()):=by
   intro b hb
   rw [hb]
   generalize ld m (wc (base+1))=e
   refine done e (fun a=>?_) (fun a c=>?_) (fun a c=>?_)
   ·simp only [decide_eq_false a,Bool.not_false,cond_true]
   ·simp only [decide_eq_true a,zG5,cond_false]
    rw [zj]
    exact if_pos ((hlim (e-ld m base)).2 c)
   ·simp only [decide_eq_true a,zG5,cond_false]
    rw [zj]
    refine (if_neg (fun x=>c ((hlim (e-ld m base)).1 x))).trans ?_
    rw [hl e (by omega)]
    rfl
  refine fin _ ?_
  by_cases k:o.Kind=2
  ·by_cases u:o.Out=0
   ·have pc: ¬(o.PC=2\/o.PC=4\/o.PC=5\/(o.PC=3/\o.T=o.B-1#64)):=fun e=>h ⟨k,u,e⟩
    have p2: ¬o.PC=2:=fun e=>pc (.inl e)
    have p4: ¬o.PC=4:=fun e=>pc (.inr (.inl e))
    have p5: ¬o.PC=5:=fun e=>pc (.inr (.inr (.inl e)))
    by_cases p3:o.PC=3
    ·have t: ¬o.T=o.B-1#64:=fun e=>pc (.inr (.inr (.inr ⟨p3,e⟩)))
     simp only [decide_eq_true k,decide_eq_true u,decide_eq_false p2,decide_eq_false p4,decide_eq_false p5,decide_eq_true p3,decide_eq_false t,cond_true,cond_false]
     rfl
    ·simp only [decide_eq_true k,decide_eq_true u,decide_eq_false p2,decide_eq_false p4,decide_eq_false p5,decide_eq_false p3,cond_true,cond_false]
     rfl
   ·simp only [decide_eq_true k,decide_eq_false u,cond_true,cond_false]
    rfl
  ·simp only [decide_eq_false k,cond_true,cond_false]
   rfl
theorem zBY (m:List (BitVec 64)) (base cap:Int) (o:zd):(X7 m base cap o).length<=64:=by
 unfold X7
 split
 ·simp
 ·rename_i h
  unfold YA
  rw [zHM,List.length_range]
  omega
end
end Go.Pe.G
namespace Go.Pe.G
open Go.Pe
noncomputable section
def um (x:zc):List Int:=if x.PC=33\/x.PC=34 then [x.Bin] else if x.PC=3\/x.PC=37 then x8 x.G else []
def zbG (s:za) (x:zc):List Int:=if x.PC=33 then yw s x.Bin else if x.PC=36\/x.PC=38 then [x.Obj] else if x.PC=37 then x.Obj::ym x.G else if x.PC=3 then ym x.G else []
def zZ (s:za) (x:zc):List Int:=x.Batch++zbG s x
structure MX (p:zb) (s:za) (gh:Gh) (x:zc):Prop where
 bt:x.PC<=33->x.Batch=[]
 bf:∀v∈x.Buf,1<=v/\v<=64
 ol:(x.PC=21->0<=x.Old/\x.Old<=64)/\(x.PC=22\/((x.PC=1\/x.PC=3)/\x.Ret=22)->1<=x.Old/\x.Old<=64)
 p3:x.PC=3->GX p s gh x.G/\x.G.Mode=2/\x.G.Out=0
 p32:x.PC=32->x.C.Out=0/\(0<=x.C.PC/\x.C.PC<=2)/\CK p s.M x.C
 p34:x.PC=34->x.C.Out=0/\(0<=x.C.PC/\x.C.PC<=2)/\x.C.X=x.Bin/\CK p s.M x.C
 p37:x.PC=37->GX p s gh x.G/\x.G.Mode=3/\x.G.Out=0
theorem MX.plain {p:zb}{s:za}{gh:Gh}{x:zc}(h:x.PC≠3/\x.PC≠32/\x.PC≠34/\x.PC≠37) (bt:x.PC<=33->x.Batch=[]) (bf:∀v∈x.Buf,1<=v/\v<=64)
  (ol:(x.PC=21->0<=x.Old/\x.Old<=64)/\(x.PC=22\/((x.PC=1\/x.PC=3)/\x.Ret=22)->1<=x.Old/\x.Old<=64)):MX p s gh x :=
 ⟨bt,bf,ol,fun e=>by omega,fun e=>by omega,fun e=>by omega,fun e=>by omega⟩
theorem vH {x:zc}(h:x.PC≠3/\x.PC≠33/\x.PC≠34/\x.PC≠37):um x=[]:=by unfold um;rw [if_neg (by omega),if_neg (by omega)]
theorem zcJ {x:zc}(h:x.PC=33\/x.PC=34):um x=[x.Bin]:=by unfold um;rw [if_pos h]
theorem zgK {x:zc}(h:x.PC=3\/x.PC=37):um x=x8 x.G:=by unfold um;rw [if_neg (by omega),if_pos h]
theorem uy {s:za}{x:zc}(h:x.PC≠3/\x.PC≠33/\x.PC≠36/\x.PC≠37/\x.PC≠38):zbG s x=[]:=by unfold zbG;rw [if_neg (by omega),if_neg (by omega),if_neg (by omega),if_neg (by omega)]
theorem zqG {s:za}{x:zc}(h:x.PC=33):zbG s x=yw s x.Bin:=by unfold zbG;rw [if_pos h]
theorem VU {s:za}{x:zc}(h:x.PC=36\/x.PC=38):zbG s x=[x.Obj]:=by unfold zbG;rw [if_neg (by omega),if_pos h]
theorem zqN {s:za}{x:zc}(h:x.PC=37):zbG s x=x.Obj::ym x.G:=by unfold zbG;rw [if_neg (by omega),if_neg (by omega),if_pos h]
theorem zqq {s:za}{x:zc}(h:x.PC=3):zbG s x=ym x.G:=by unfold zbG;rw [if_neg (by omega),if_neg (by omega),if_neg (by omega),if_pos h]
theorem MX.other {p:zb}(hp:zB p) {nb k:Nat}{s s':za}{gh gh':Gh}{X R:List Int}{O:Int->Prop}{m:Int}{x:zc}(Y:SX p nb s gh (X++R) k) (Fx:FX p nb X O s s' gh gh') (K:MX p s gh x) (W:XOk p nb m x)
  (hR:∀b∈um x,b∈R):MX p s' gh' x/\zZ s' x=zZ s x:=by
 have hsub:∀b∈X,b∈X++R:=fun b hb=>zG7 _ hb
 have hnd:=(zHZ.1 Y.L.nodup).2.1
 have hnot:∀b,b∈um x->b∉X:=fun b hb hg=>(zHZ.1 hnd).2.2 b hg b (hR b hb) rfl
 refine ⟨⟨K.bt,K.bf,K.ol,fun e=>?_,fun e=>?_,fun e=>?_,fun e=>?_⟩,?_⟩
 ·obtain ⟨a,b,c⟩:=K.p3 e
  obtain ⟨M,_,_⟩:=W.g (.inl e)
  exact ⟨a.other hp Y Fx M (fun y hy=>hR y (by rw [zgK (.inl e)];exact hy)) (fun e2=>by omega),b,c⟩
 ·obtain ⟨a,b,c⟩:=K.p32 e
  have C:=W.c32 e
  exact ⟨a,b,c.mv Y.L Fx.mv hsub (.inl C.h) (fun h _=>C.v h) (fun e2=>by have:=C.k;omega)⟩
 ·obtain ⟨a,b,c,d⟩:=K.p34 e
  have C:=W.c34 e
  have hno:=hnot x.Bin (by rw [zcJ (.inr e)];simp)
  exact ⟨a,b,c,d.mv Y.L Fx.mv hsub (.inr C.h) (fun _ e2=>by have:=C.k;omega) (fun _=>⟨C.x.1,C.x.2,by rw [c];exact hno⟩)⟩
 ·obtain ⟨a,b,c⟩:=K.p37 e
  obtain ⟨M,_,_⟩:=W.g (.inr e)
  exact ⟨a.other hp Y Fx M (fun y hy=>hR y (by rw [zgK (.inr e)];exact hy)) (fun e2=>by omega),b,c⟩
 ·unfold zZ
  congr 1
  by_cases e3:x.PC=33
  ·rw [zqG e3,zqG e3]
   have hb:=W.b33 e3
   have hno:=hnot x.Bin (by rw [zcJ (.inl e3)];simp)
   unfold yw
   rw [Fx.bn x.Bin hb.1 hno]
  ·unfold zbG
   rw [if_neg e3,if_neg e3]
def zfR (p:zb) (nb k:Nat) (R:List Int) (gh:Gh) (s:za) (x:zc) (s':za) (x':zc):Prop :=
 ∃gh',SX p nb s' gh' (um x'++R) (k+1)/\MX p s' gh' x'/\FX p nb (um x) (fun _=>False) s s' gh gh' /\
  ∃N B,List.Perm (yx p s' gh'++zZ s' x'++B) (N++(yx p s gh++zZ s x)) /\
   ((N=[]/\B=[]/\s'.T=s.T)\/(N=[x.G.Obj]/\B=[]/\(x.PC=3\/x.PC=37)/\¬(s.T.Marks|||bit x.G.Obj=s.T.Marks)/\s'.T={s.T with Marks:=s.T.Marks|||bit x.G.Obj})\/(N=[]/\B=[x.Obj]/\x.PC=38/\s'.T=wC s.T x.Obj) \/
    (N=[]/\B=[]/\x.PC=30/\XN s.H s.P.Most=true/\s'.H=wW s.H/\s'.T=Xo s.T (wc (s.H.Objs.length+1))))
theorem zfR.quiet {p:zb}{nb k:Nat}{R:List Int}{gh:Gh}{s s':za}{x x':zc}(X:SX p nb s gh (um x++R) k) (S':SOk p nb s') (hm:s'.M=s.M) (hb:s'.Bins=s.Bins) (hT:s'.T=s.T)
  (ho:um x'=um x) (hh:List.Perm (zZ s' x') (zZ s x)) (W':MX p s' gh x'):zfR p nb k R gh s x s' x' :=
 ⟨gh,by rw [ho];exact X.quiet S' hm,W',FX.quiet hm (fun _ _ _=>by rw [hb]),[],[],by rw [uO hb,zGR];exact zG3 _ hh,.inl ⟨rfl,rfl,hT⟩⟩
theorem zfR.calm {p:zb}{nb k:Nat}{R:List Int}{gh:Gh}{s s':za}{x x':zc}(X:SX p nb s gh (um x++R) k) (S':SOk p nb s') (hm:s'.M=s.M) (hb:s'.Bins=s.Bins) (hT:s'.T=s.T)
  (h:x.PC≠3/\x.PC≠33/\x.PC≠34/\x.PC≠36/\x.PC≠37/\x.PC≠38) (h':x'.PC≠3/\x'.PC≠32/\x'.PC≠33/\x'.PC≠34/\x'.PC≠36/\x'.PC≠37/\x'.PC≠38) (eb:x'.Batch=x.Batch)
  (bt:x'.PC<=33->x'.Batch=[]) (bf:∀v∈x'.Buf,1<=v/\v<=64) (ol:(x'.PC=21->0<=x'.Old/\x'.Old<=64)/\(x'.PC=22\/((x'.PC=1\/x'.PC=3)/\x'.Ret=22)->1<=x'.Old/\x'.Old<=64)):zfR p nb k R gh s x s' x':=by
 refine .quiet X S' hm hb hT ?_ ?_ (MX.plain (by omega) bt bf ol)
 ·rw [vH (by omega),vH (by omega)]
 ·unfold zZ
  rw [uy (by omega),uy (by omega),eb]
theorem ztB {p:zb}{s:za}{gh:Gh}{md o w:Int}(hmd:md=2\/md=3) (ho:1<=o/\o<=64):GX p s gh (ZU md o w)/\(ZU md o w).Mode=md/\(ZU md o w).Out=0/\x8 (ZU md o w)=[]/\ym (ZU md o w)=[]:=by
 refine ⟨GX.plain (.inl rfl) ⟨by show (0:Int)<=0;decide,by show (0:Int)<=7;decide⟩ ⟨by show 1<=md;omega,by show md<=3;omega⟩ ho (fun e=>by have e:md=1:=e;omega) (.inr ⟨by show (0:Int)≠3;decide,by show (0:Int)≠5;decide,by show (0:Int)≠7;decide⟩),rfl,rfl,
  vn (.inr ⟨by show (0:Int)≠6;decide,by show (0:Int)≠7;decide⟩),Zs (.inr (.inl (by show (0:Int)<3;decide)))⟩
theorem zGo {p:zb}(hp:zB p) {nb k:Nat}{R:List Int}{gh:Gh}{s:za}{m:Int}{x:zc}(hk:k<4294960000) (X:SX p nb s gh (um x++R) k) (W:XOk p nb m x) (K:MX p s gh x) (hpl:((wV p m).length:Int)<=64)
  (hH:∀o i,0<=zH s.H o i/\zH s.H o i<=64):zfR p nb k R gh s x (zp s m x).1 (zp s m x).2:=by
 have S':=(zC0 hp hpl X.S W).1
 have hP:=X.S.P
 have eC:zbs s.P (zD s.P) x.Bin=zbs p (zD p) x.Bin:=by rw [hP]
 have hbf:=K.bf
 have hol:=K.ol
 revert S'
 refine wu (motive:=fun r=>SOk p nb r.1->zfR p nb k R gh s x r.1 r.2) s m x ?_ ?_ ?_ ?_ ?_ ?_ ?_ ?_ ?_ ?_ ?_ ?_ ?_ ?_ ?_ ?_ ?_ ?_ ?_ ?_
 ·intro c;unfold mu0 UV;dsimp only
  have hbt:=K.bt (by omega)
  repeat' split
  all_goals (intro S')
  all_goals (refine .calm X S' rfl rfl rfl (by omega) (by (try dsimp only [setM]);omega) rfl (fun _=>hbt) hbf ⟨fun e=>?_,fun e=>?_⟩<;>((try dsimp only [setM] at e);omega))
 ·intro c;unfold mu1;dsimp only
  have hbt:=K.bt (by omega)
  have hrt:=W.ret (.inl c)
  split
  ·intro S'
   exact .calm X S' rfl rfl rfl (by omega) (by dsimp only;omega) rfl (fun _=>hbt) hbf ⟨fun e=>by dsimp only at e;omega,fun e=>by dsimp only at e ⊢;exact hol.2 (by omega)⟩
  ·rename_i hl
   intro S'
   have hv:1<=x.Buf.getD (x.Buf.length-1) 0/\x.Buf.getD (x.Buf.length-1) 0<=64:=by
    rw [zGS,zGQ (show x.Buf.length-1<x.Buf.length by omega)]
    exact hbf _ (zHj _)
   obtain ⟨g1,g2,g3,g4,g5⟩:=ztB (p:=p) (s:=s) (gh:=gh) (w:=m) (.inl rfl) hv
   refine .quiet X S' rfl rfl rfl ?_ ?_ ⟨fun _=>hbt,fun v hv=>hbf v (zIk hv),⟨fun e=>(by cases e),fun e=>?_⟩,fun _=>⟨g1,g2,g3⟩,fun e=>(by cases e),fun e=>(by cases e),fun e=>(by cases e)⟩
   ·rw [vH (x:=x) (by omega),zgK (.inl rfl)];exact g4
   ·unfold zZ
    rw [uy (x:=x) (by omega),zqq rfl]
    show List.Perm (x.Batch++ym (ZU 2 (x.Buf.getD (x.Buf.length-1) 0) m)) _
    rw [g5]
   ·rcases e with e | e
    ·cases e
    ·exact hol.2 (.inr ⟨.inl c,e.2⟩)
 ·intro c S';unfold mu2 at S' ⊢
  exact .calm X S' rfl rfl rfl (by omega) (by dsimp only;omega) rfl (fun _=>K.bt (by omega)) hbf ⟨fun e=>by dsimp only at e;omega,fun e=>by dsimp only at e;omega⟩
 ·intro c;unfold mu3;dsimp only
  have hbt:=K.bt (by omega)
  obtain ⟨G,gm,g0⟩:=K.p3 c
  obtain ⟨M,h5o,hn1⟩:=W.g (.inl c)
  have eo:um x=x8 x.G:=zgK (.inl c)
  have hh:zZ s x=ym x.G:=by unfold zZ;rw [zqq c,hbt,zG0]
  rw [eo] at X
  obtain ⟨gh',X',G',Fx,hc',hFb,N,hN,hT⟩:=zAI hp hk X M h5o G
  have so:=Uy s x.G
  have Fx':FX p nb (um x) (fun _=>False) s (zt s x.G).1 gh gh':=by rw [eo];exact Fx.mono (fun v e=>by have:=e.1;omega)
  have hT':(N=[]/\([]:List Int)=[]/\(zt s x.G).1.T=s.T)\/(N=[x.G.Obj]/\([]:List Int)=[]/\(x.PC=3\/x.PC=37)/\¬(s.T.Marks|||bit x.G.Obj=s.T.Marks)/\(zt s x.G).1.T={s.T with Marks:=s.T.Marks|||bit x.G.Obj}):=by
   rcases hT with ⟨a,b⟩ | ⟨a,b,c'⟩
   ·exact .inl ⟨a,rfl,b⟩
   ·exact .inr ⟨a,rfl,.inl c,b,c'⟩
  split
  ·rename_i o1
   intro S'
   have n1:x8 (zt s x.G).2=[]:=vn (.inl (by omega))
   have n2:ym (zt s x.G).2=[]:=Zs (.inl (by omega))
   rw [n1] at X'
   refine ⟨gh',by rw [vH (by dsimp only;omega)];exact X',MX.plain (by dsimp only;omega) (fun _=>hbt) hbf ⟨fun e=>(by cases e),fun e=>?_⟩,Fx',N,[],?_,hT'.elim .inl (fun h=>.inr (.inl h))⟩
   ·rcases e with e | e
    ·cases e
    ·exact hol.2 (.inr ⟨.inr c,e.2⟩)
   ·unfold zZ
    rw [uy (by dsimp only;omega),zGR,zGR]
    rw [n2,zGR] at hN
    show List.Perm (yx p (zt s x.G).1 gh'++x.Batch) (N++(yx p s gh++(x.Batch++zbG s x)))
    rw [hbt,zqq c,zGR,zG0]
    exact hN
  ·rename_i o1
   intro S'
   have o0:(zt s x.G).2.Out=0:=by have:=G'.o;omega
   refine ⟨gh',by rw [zgK (x:={x with G:=(zt s x.G).2}) (.inl c)];exact X',⟨fun _=>hbt,hbf,hol,fun _=>⟨G',so.2.2.trans gm,o0⟩,fun e=>by have e:x.PC=32:=e;omega,fun e=>by have e:x.PC=34:=e;omega,fun e=>by have e:x.PC=37:=e;omega⟩,Fx',N,[],?_,hT'.elim .inl (fun h=>.inr (.inl h))⟩
   unfold zZ
   rw [zqq (x:={x with G:=(zt s x.G).2}) c,zGR]
   show List.Perm (yx p (zt s x.G).1 gh'++(x.Batch++ym (zt s x.G).2)) (N++(yx p s gh++(x.Batch++zbG s x)))
   rw [hbt,zqq c,zG0,zG0]
   exact hN
 ·intro c S';unfold zjV at S' ⊢
  exact .calm X S' rfl rfl rfl (by omega) (by dsimp only [setM];omega) rfl (fun _=>K.bt (by omega)) hbf ⟨fun e=>by dsimp only [setM] at e;omega,fun e=>by dsimp only [setM] at e;omega⟩
 ·intro c;unfold zeZ;dsimp only
  have hbt:=K.bt (by omega)
  split
  ·intro S'
   exact .calm X S' rfl rfl rfl (by omega) (by dsimp only [vg];omega) rfl (fun _=>hbt) hbf ⟨fun e=>by dsimp only [vg] at e;omega,fun e=>by dsimp only [vg] at e;omega⟩
  ·intro S'
   exact .calm X S' rfl rfl rfl (by omega) (by dsimp only;omega) rfl (fun _=>hbt) hbf ⟨fun _=>hH _ _,fun e=>by dsimp only at e;omega⟩
 ·intro c;unfold zfQ;dsimp only
  have hbt:=K.bt (by omega)
  have h21:=hol.1 c
  split
  ·intro S'
   exact .calm X S' rfl rfl rfl (by omega) (by dsimp only;omega) rfl (fun _=>hbt) hbf ⟨fun e=>by dsimp only at e;omega,fun e=>by dsimp only at e;omega⟩
  ·rename_i hn
   intro S'
   have: ¬x.Old=0:=fun e=>hn (.inl e)
   exact .calm X S' rfl rfl rfl (by omega) (by dsimp only;omega) rfl (fun _=>hbt) hbf ⟨fun e=>by dsimp only at e;omega,fun e=>by dsimp only;omega⟩
 ·intro c;unfold zfV;dsimp only
  have hbt:=K.bt (by omega)
  have h22:=hol.2 (.inl c)
  split
  ·intro S'
   exact .calm X S' rfl rfl rfl (by omega) (by dsimp only;omega) rfl (fun _=>hbt) hbf ⟨fun e=>by dsimp only at e;omega,fun e=>h22⟩
  ·intro S'
   refine .calm X S' rfl rfl rfl (by omega) (by dsimp only;omega) rfl (fun _=>hbt) (fun v hv=>?_) ⟨fun e=>by dsimp only at e;omega,fun e=>by dsimp only at e;omega⟩
   rcases zHb.1 hv with h | h
   ·exact hbf v h
   ·rw [zHs.1 h];exact h22
 ·intro c S';unfold zhv at S' ⊢
  exact .calm X S' rfl rfl rfl (by omega) (by dsimp only [vg];omega) rfl (fun _=>K.bt (by omega)) hbf ⟨fun e=>by dsimp only [vg] at e;omega,fun e=>by dsimp only [vg] at e;omega⟩
 ·intro c;unfold za1
  have hbt:=K.bt (by omega)
  split
  ·split
   ·rename_i h1 h2
    intro S'
    refine ⟨gh,by rw [vH (by dsimp only [setM];omega)];rw [vH (x:=x) (by omega)] at X;exact X.quiet S' rfl,MX.plain (by dsimp only [setM];omega) (fun _=>hbt) hbf ⟨fun e=>by dsimp only [setM] at e;omega,fun e=>by dsimp only [setM] at e;omega⟩,FX.quiet rfl (fun _ _ _=>rfl),[],[],?_,.inr (.inr (.inr ⟨rfl,rfl,c,h2,rfl,rfl⟩))⟩
    rw [uO rfl,zGR,zG0]
    unfold zZ
    rw [uy (by dsimp only [setM];omega),uy (x:=x) (by omega)]
    exact zHe _
   ·intro S'
    exact .calm X S' rfl rfl rfl (by omega) (by dsimp only [vg];omega) rfl (fun _=>hbt) hbf ⟨fun e=>by dsimp only [vg] at e;omega,fun e=>by dsimp only [vg] at e;omega⟩
  ·intro S'
   exact .calm X S' rfl rfl rfl (by omega) (by dsimp only;omega) rfl (fun _=>hbt) hbf ⟨fun e=>by dsimp only at e;omega,fun e=>by dsimp only at e;omega⟩
 ·intro c;unfold zfE;dsimp only
  have hbt:=K.bt (by omega)
  split
  ·intro S'
   refine .quiet X S' rfl rfl rfl (by rw [vH (by dsimp only;omega),vH (x:=x) (by omega)]) ?_ ⟨fun _=>hbt,hbf,⟨fun e=>by dsimp only at e;omega,fun e=>by dsimp only at e;omega⟩,fun e=>by dsimp only at e;omega,fun _=>⟨rfl,⟨by show (0:Int)<=0;decide,by show (0:Int)<=2;decide⟩,by show CK p s.M (zA9 s.P (z5 s.P) x.Bin);rw [hP];exact CK.start⟩,fun e=>by dsimp only at e;omega,fun e=>by dsimp only at e;omega⟩
   unfold zZ
   rw [uy (by dsimp only;omega),uy (x:=x) (by omega)]
  ·intro S'
   exact .calm X S' rfl rfl rfl (by omega) (by dsimp only;omega) rfl (fun _=>hbt) hbf ⟨fun e=>by dsimp only at e;omega,fun e=>by dsimp only at e;omega⟩
 ·intro c;unfold zfJ;dsimp only
  have C:=W.c32 c
  obtain ⟨c1,c2,c3⟩:=K.p32 c
  have hbt:=K.bt (by omega)
  have eo:um x=[]:=vH (by omega)
  have hh:zZ s x=[]:=by unfold zZ;rw [hbt,uy (by omega)];rfl
  have nn:∀e:x.PC=21,False:=fun e=>by omega
  intro S'
  have S':SOk p nb {s with M:=(zm s.M x.C).1}:=S'
  rcases SX.popF hp X hk C.k C.h C.n c1 c2 c3 C.v S' with ⟨a,b,cc,d⟩ | ⟨y,l,a,b,cc,d,e⟩
  ·rw [if_neg b]
   have hout:=zba s.M c1 c2 (.inr C.k)
   by_cases o2:(zm s.M x.C).2.Out=2
   ·rw [if_pos o2]
    exact .calm X S' a rfl rfl (by omega) (by dsimp only;omega) rfl (fun _=>hbt) hbf ⟨fun e=>by dsimp only at e;omega,fun e=>by dsimp only at e;omega⟩
   ·rw [if_neg o2]
    have hpc':(zm s.M x.C).2.Out=0/\0<=(zm s.M x.C).2.PC/\(zm s.M x.C).2.PC<=2:=by omega
    refine .quiet X S' a rfl rfl ?_ ?_ ⟨fun _=>hbt,hbf,hol,fun e=>by have e:x.PC=3:=e;omega,fun _=>⟨hpc'.1,hpc'.2,?_⟩,fun e=>by have e:x.PC=34:=e;omega,fun e=>by have e:x.PC=37:=e;omega⟩
    ·rw [eo];exact vH (by dsimp only;omega)
    ·unfold zZ
     rw [uy (by dsimp only;omega),uy (x:=x) (by omega)]
    ·rw [show ({s with M:=(zm s.M x.C).1}:za).M=s.M from a];exact cc
  ·rw [if_pos b]
   have e1:um {x with PC:=33,Bin:=(zm s.M x.C).2.X,C:=(zm s.M x.C).2}=[y]:=by rw [<-cc];exact zcJ (x:={x with PC:=33,Bin:=(zm s.M x.C).2.X,C:=(zm s.M x.C).2}) (.inl rfl)
   refine ⟨{gh with F:=l},by rw [e1];rw [eo] at d;exact d,MX.plain (by dsimp only;omega) (fun _=>hbt) hbf ⟨fun e=>by dsimp only at e;omega,fun e=>by dsimp only at e;omega⟩,e _ _,[],[],?_,.inl ⟨rfl,rfl,rfl⟩⟩
   rw [hh,zGR,zGR,zG0]
   unfold zZ
   rw [zqG (x:={x with PC:=33,Bin:=(zm s.M x.C).2.X,C:=(zm s.M x.C).2}) rfl]
   show List.Perm (yx p s {gh with F:=l}++(x.Batch++yw s (zm s.M x.C).2.X)) _
   rw [hbt,zG0,cc]
   have:yx p s gh=yw s y++yx p s {gh with F:=l}:=by unfold yx;rw [a];simp [zGV]
   rw [this]
   exact zHC
 ·intro c;unfold zkj;dsimp only
  intro S'
  have hb:=W.b33 c
  have hbt:=K.bt (by omega)
  have eo:um x=[x.Bin]:=zcJ (.inl c)
  rw [eC] at *
  have e1:um {x with Batch:=Vc s x.Bin,PC:=34,C:=zbs p (zD p) x.Bin}=[x.Bin]:=zcJ (x:={x with Batch:=Vc s x.Bin,PC:=34,C:=zbs p (zD p) x.Bin}) (.inr rfl)
  have hget:∀b,1<=b->b∉um x->(s.Bins.set x.Bin.toNat [])[b.toNat]? =s.Bins[b.toNat]? :=fun b b1 b2=>by
   rw [zHp]
   intro e
   rw [eo] at b2
   exact b2 (by rw [show b=x.Bin by omega];simp)
  refine ⟨gh,by rw [e1,<-eo];exact X.quiet S' rfl,⟨fun e=>absurd e (by show ¬(34:Int)<=33;decide),hbf,⟨fun e=>by dsimp only at e;omega,fun e=>by dsimp only at e;omega⟩,fun e=>by dsimp only at e;omega,fun e=>by dsimp only at e;omega,fun _=>⟨rfl,⟨by show (0:Int)<=0;decide,by show (0:Int)<=2;decide⟩,rfl,CK.start⟩,fun e=>by dsimp only at e;omega⟩,FX.quiet rfl hget,[],[],?_,.inl ⟨rfl,rfl,rfl⟩⟩
  have hbag:yx p {s with Bins:=s.Bins.set x.Bin.toNat []} gh=yx p s gh:=by
   unfold yx
   congr 1
   refine wa (fun b hb=>?_)
   have hm:=X.L.cF.mem b hb
   have hno:=(X.L.notF (x:=x.Bin) (by rw [eo];simp)).1
   unfold yw
   rw [show ({s with Bins:=s.Bins.set x.Bin.toNat []}:za).Bins=s.Bins.set x.Bin.toNat [] from rfl,hget b hm.1 (by rw [eo];intro e;rw [zHs.1 e] at hb;exact hno hb)]
  rw [hbag,zGR,zG0]
  unfold zZ
  rw [zqG c,uy (x:={x with Batch:=Vc s x.Bin,PC:=34,C:=zbs p (zD p) x.Bin}) (by dsimp only;omega)]
  show List.Perm (yx p s gh++(Vc s x.Bin++[])) _
  rw [hbt,zGR,zG0,zyB]
 ·intro c;unfold zf0;dsimp only
  intro S'
  have S':SOk p nb {s with M:=(zm s.M x.C).1}:=S'
  have C:=W.c34 c
  obtain ⟨c1,c2,c3,c4⟩:=K.p34 c
  have eo:um x=[x.Bin]:=zcJ (.inr c)
  have hh:zZ s x=x.Batch:=by unfold zZ;rw [uy (by omega),zGR]
  rw [eo] at X
  rcases SX.pushE hp (o1:=[]) (o2:=R) (b:=x.Bin) X hk C.k C.h C.n c3 c1 c2 c4 C.v S' with ⟨a,b,cc,d⟩ | ⟨a,b,d⟩
  ·rw [a,if_neg (by decide)]
   have hout:=zba s.M c1 c2 (.inl C.k)
   have hsame:=zmp s.M x.C
   have hpc':0<=(zm s.M x.C).2.PC/\(zm s.M x.C).2.PC<=2:=by omega
   have e1:um {x with C:=(zm s.M x.C).2}=[x.Bin]:=zcJ (x:={x with C:=(zm s.M x.C).2}) (.inr c)
   refine ⟨gh,by rw [e1];exact b,⟨fun e=>by have e:x.PC<=33:=e;omega,hbf,hol,fun e=>by have e:x.PC=3:=e;omega,fun e=>by have e:x.PC=32:=e;omega,fun _=>⟨a,hpc',(hsame.2.2.2 C.k).trans c3,cc⟩,fun e=>by have e:x.PC=37:=e;omega⟩,by rw [eo];exact d _ _ (by simp),[],[],?_,.inl ⟨rfl,rfl,rfl⟩⟩
   rw [uO rfl,hh,zGR]
   unfold zZ
   rw [uy (x:={x with C:=(zm s.M x.C).2}) (by dsimp only;omega),zGR]
   exact zHe _
  ·rw [a,if_pos rfl]
   refine ⟨{gh with E:=x.Bin::gh.E},by rw [vH (by dsimp only;omega)];exact b,MX.plain (by dsimp only;omega) (fun e=>absurd e (by show ¬(35:Int)<=33;decide)) hbf ⟨fun e=>by dsimp only at e;omega,fun e=>by dsimp only at e;omega⟩,by rw [eo];exact d _ _,[],[],?_,.inl ⟨rfl,rfl,rfl⟩⟩
   rw [hh,zGR]
   unfold zZ
   rw [uy (by dsimp only;omega),zGR]
   exact zHe _
 ·intro c;unfold zfc;dsimp only
  split
  ·rename_i hb
   intro S'
   exact .calm X S' rfl rfl rfl (by omega) (by dsimp only;omega) rfl (fun _=>hb) hbf ⟨fun e=>by dsimp only at e;omega,fun e=>by dsimp only at e;omega⟩
  ·rename_i o l hb
   intro S'
   refine .quiet X S' rfl rfl rfl (by rw [vH (by dsimp only;omega),vH (x:=x) (by omega)]) ?_ (MX.plain (by dsimp only;omega) (fun e=>absurd e (by show ¬(36:Int)<=33;decide)) hbf ⟨fun e=>by dsimp only at e;omega,fun e=>by dsimp only at e;omega⟩)
   unfold zZ
   rw [VU (.inl rfl),uy (x:=x) (by omega),hb,zGR]
   exact zHC
 ·intro c;unfold zfm;dsimp only
  have hv:=hH x.Obj x.Slot
  have eo:um x=[]:=vH (by omega)
  split
  ·rcases zbZ s (wc (x.Slot+1)) with e | e<;>rw [e]<;>intro S'
   ·refine .quiet X S' rfl rfl rfl (by rw [eo,vH (by dsimp only;omega)]) ?_ (MX.plain (by dsimp only;omega) (fun e=>absurd e (by show ¬(36:Int)<=33;decide)) hbf ⟨fun e=>by dsimp only at e;omega,fun e=>by dsimp only at e;omega⟩)
    unfold zZ
    rw [VU (.inl c),VU (.inl rfl)]
   ·refine .quiet X S' rfl rfl rfl (by rw [eo,vH (by dsimp only;omega)]) ?_ (MX.plain (by dsimp only;omega) (fun e=>absurd e (by show ¬(38:Int)<=33;decide)) hbf ⟨fun e=>by dsimp only at e;omega,fun e=>by dsimp only at e;omega⟩)
    unfold zZ
    rw [VU (.inl c),VU (.inr rfl)]
  ·rename_i hne
   intro S'
   obtain ⟨g1,g2,g3,g4,g5⟩:=ztB (p:=p) (s:=s) (gh:=gh) (w:=m) (.inr rfl) (show 1<=zH s.H x.Obj x.Slot/\zH s.H x.Obj x.Slot<=64 by omega)
   refine .quiet X S' rfl rfl rfl ?_ ?_ ⟨fun e=>absurd e (by show ¬(37:Int)<=33;decide),hbf,⟨fun e=>by dsimp only at e;omega,fun e=>by dsimp only at e;omega⟩,fun e=>by dsimp only at e;omega,fun e=>by dsimp only at e;omega,fun e=>by dsimp only at e;omega,fun _=>⟨g1,g2,g3⟩⟩
   ·rw [eo,zgK (.inr rfl)];exact g4
   ·unfold zZ
    rw [VU (.inl c),zqN rfl]
    show List.Perm (x.Batch++x.Obj::ym (ZU 3 (zH s.H x.Obj x.Slot) m)) _
    rw [g5]
 ·intro c;unfold zbH;dsimp only
  obtain ⟨G,gm,g0⟩:=K.p37 c
  obtain ⟨M,h5o,hn1⟩:=W.g (.inr c)
  have eo:um x=x8 x.G:=zgK (.inr c)
  have hh:zZ s x=x.Batch++x.Obj::ym x.G:=by unfold zZ;rw [zqN c]
  rw [eo] at X
  obtain ⟨gh',X',G',Fx,hc',hFb,N,hN,hT⟩:=zAI hp hk X M h5o G
  have so:=Uy s x.G
  have Fx':FX p nb (um x) (fun _=>False) s (zt s x.G).1 gh gh':=by rw [eo];exact Fx.mono (fun v e=>by have:=e.1;omega)
  have hT':(N=[]/\([]:List Int)=[]/\(zt s x.G).1.T=s.T)\/(N=[x.G.Obj]/\([]:List Int)=[]/\(x.PC=3\/x.PC=37)/\¬(s.T.Marks|||bit x.G.Obj=s.T.Marks)/\(zt s x.G).1.T={s.T with Marks:=s.T.Marks|||bit x.G.Obj}):=by
   rcases hT with ⟨a,b⟩ | ⟨a,b,c'⟩
   ·exact .inl ⟨a,rfl,b⟩
   ·exact .inr ⟨a,rfl,.inr c,b,c'⟩
  have perm:∀H':List Int,H'=x.Batch++x.Obj::ym (zt s x.G).2->List.Perm (yx p (zt s x.G).1 gh'++H'++[]) (N++(yx p s gh++zZ s x)):=by
   intro H' e
   rw [e,hh,zGR]
   have a1:List.Perm (yx p (zt s x.G).1 gh'++(x.Batch++x.Obj::ym (zt s x.G).2)) ((x.Batch++[x.Obj])++(yx p (zt s x.G).1 gh'++ym (zt s x.G).2)):=by
    rw [show x.Batch++x.Obj::ym (zt s x.G).2=(x.Batch++[x.Obj])++ym (zt s x.G).2 by simp]
    exact zHt _ _ _
   have a2:List.Perm (N++(yx p s gh++(x.Batch++x.Obj::ym x.G))) ((x.Batch++[x.Obj])++(N++(yx p s gh++ym x.G))):=by
    rw [show x.Batch++x.Obj::ym x.G=(x.Batch++[x.Obj])++ym x.G by simp]
    exact (zG3 N (zHt _ _ _)).trans (zHt _ _ _)
   exact a1.trans ((zG3 _ hN).trans a2.symm)
  split
  ·rename_i o1
   intro S'
   have n1:x8 (zt s x.G).2=[]:=vn (.inl (by omega))
   have n2:ym (zt s x.G).2=[]:=Zs (.inl (by omega))
   rw [n1] at X'
   rcases zbZ s x.Slot with e | e<;>rw [e]
   ·refine ⟨gh',by rw [vH (by dsimp only;omega)];exact X',MX.plain (by dsimp only;omega) (fun e=>absurd e (by show ¬(36:Int)<=33;decide)) hbf ⟨fun e=>by dsimp only at e;omega,fun e=>by dsimp only at e;omega⟩,Fx',N,[],perm _ ?_,hT'.elim .inl (fun h=>.inr (.inl h))⟩
    unfold zZ;rw [VU (.inl rfl),n2]
   ·refine ⟨gh',by rw [vH (by dsimp only;omega)];exact X',MX.plain (by dsimp only;omega) (fun e=>absurd e (by show ¬(38:Int)<=33;decide)) hbf ⟨fun e=>by dsimp only at e;omega,fun e=>by dsimp only at e;omega⟩,Fx',N,[],perm _ ?_,hT'.elim .inl (fun h=>.inr (.inl h))⟩
    unfold zZ;rw [VU (.inr rfl),n2]
  ·rename_i o1
   intro S'
   have o0:(zt s x.G).2.Out=0:=by have:=G'.o;omega
   refine ⟨gh',by rw [zgK (x:={x with G:=(zt s x.G).2}) (.inr c)];exact X',⟨fun e=>by have e:x.PC<=33:=e;omega,hbf,hol,fun e=>by have e:x.PC=3:=e;omega,fun e=>by have e:x.PC=32:=e;omega,fun e=>by have e:x.PC=34:=e;omega,fun _=>⟨G',so.2.2.trans gm,o0⟩⟩,Fx',N,[],perm _ ?_,hT'.elim .inl (fun h=>.inr (.inl h))⟩
   unfold zZ;rw [zqN (x:={x with G:=(zt s x.G).2}) c]
 ·intro c S';unfold zjP at S' ⊢
  have eo:um x=[]:=vH (by omega)
  refine ⟨gh,by rw [vH (by dsimp only;omega)];rw [eo] at X;exact X.quiet S' rfl,MX.plain (by dsimp only;omega) (fun e=>absurd e (by show ¬(39:Int)<=33;decide)) hbf ⟨fun e=>by dsimp only at e;omega,fun e=>by dsimp only at e;omega⟩,FX.quiet rfl (fun _ _ _=>rfl),[],[x.Obj],?_,.inr (.inr (.inl ⟨rfl,rfl,c,rfl⟩))⟩
  rw [uO rfl,zG0]
  unfold zZ
  rw [VU (.inr c),uy (by dsimp only;omega),zGR,zGV]
  exact zHe _
 ·intro c S';unfold zmU at S' ⊢
  exact .calm X S' rfl rfl rfl (by omega) (by dsimp only;omega) rfl (fun e=>absurd e (by show ¬(35:Int)<=33;decide)) hbf ⟨fun e=>by dsimp only at e;omega,fun e=>by dsimp only at e;omega⟩
 ·intro S'
  exact ⟨gh,X.quiet S' rfl,K,FX.quiet rfl (fun _ _ _=>rfl),[],[],by rw [zGR];exact zHe _,.inl ⟨rfl,rfl,rfl⟩⟩
end
end Go.Pe.G
namespace Go.Pe.G
open Go.Pe
noncomputable section
theorem vf (a b:BitVec 64) (q:Int):zI (a|||b) q=true↔zI a q=true\/zI b q=true:=by
 rw [xy,xy,xy,BitVec.getLsbD_or,zHS]
 constructor
 ·rintro ⟨h1,h2,h | h⟩
  ·exact .inl ⟨h1,h2,h⟩
  ·exact .inr ⟨h1,h2,h⟩
 ·rintro (⟨h1,h2,h⟩ | ⟨h1,h2,h⟩)
  ·exact ⟨h1,h2,.inl h⟩
  ·exact ⟨h1,h2,.inr h⟩
theorem zcT (h:zr) (a i v:Int):(ZZ h a i v).Objs.length=h.Objs.length:=by
 unfold ZZ;split<;>simp
theorem zp3 (h:zr):(wW h).Objs.length=h.Objs.length+1:=by unfold wW;simp
end
end Go.Pe.G
namespace Go.Pe.G
open Go.Pe
noncomputable section
theorem zuu:∀(n:Fin 10) (j:Fin 64),(vd (n.1:Int)).getLsbD j.1=decide (j.1<n.1):=by decide +kernel
theorem zoM {n:Nat}(hn:n<=9) (o:Int):zI (vd (n:Int)) o=true↔1<=o/\o<=(n:Int):=by
 rw [xy]
 constructor
 ·rintro ⟨a,b,c⟩
  have:=zuu ⟨n,by omega⟩ ⟨(o-1).toNat,by omega⟩
  rw [this] at c
  have:(o-1).toNat<n:=by simpa using c
  omega
 ·rintro ⟨a,b⟩
  have:=zuu ⟨n,by omega⟩ ⟨(o-1).toNat,by omega⟩
  refine ⟨a,by omega,?_⟩
  rw [this]
  exact decide_eq_true (by show (o-1).toNat<n;omega)
end
end Go.Pe.G
namespace Go.Pe.G
open Go.Pe
noncomputable section
theorem zCF {t:zo}{o:Int}(ho:1<=o/\o<=64) (hm: ¬zI t.Marks o=true) (hb: ¬zI t.Black o=true):uf t o=({t with Marks:=t.Marks|||bit o},true):=by
 unfold uf
 rw [if_neg ((zdH ho).2 hm),if_pos]
 unfold zI at hb
 simpa using hb
theorem zxv {o q:Int}(h:zI (bit o) q=true):q=o:=by
 by_cases ho:1<=o/\o<=64
 ·have:=(wq 0#64 ho q).1 (by simpa using h)
  exact this.resolve_left (XO q)
 ·unfold bit at h;rw [if_neg ho] at h;exact absurd h (XO q)
theorem zaN {m:BitVec 64}{o q:Int}(h:zI (m|||bit o) q=true):zI m q=true\/q=o:=((vf _ _ _).1 h).imp id zxv
theorem zAu (t:zo) (o:Int):(wC t o).Marks=t.Marks/\((wC t o).Black=t.Black\/((wC t o).Black=t.Black|||bit o/\zI t.Marks o=true)):=by
 unfold wC
 split
 ·rename_i h;exact ⟨rfl,.inr ⟨rfl,((ux t o).1 h).1⟩⟩
 ·exact ⟨rfl,.inl rfl⟩
theorem zCv (s:za) (g:zx):(zt s g).1.T=s.T\/(zt s g).1.T=(uf s.T g.Obj).1:=by
 unfold zt
 split
 ·exact .inl rfl
 split
 ·exact .inl rfl
 split
 ·exact .inl rfl
 split
 ·exact .inl rfl
 split
 ·exact .inl rfl
 split
 ·exact .inl rfl
 split
 ·exact .inl rfl
 split
 ·exact .inr rfl
 ·exact .inl rfl
theorem zzc (s:za) (m:Int) (x:zc) :
  ((zp s m x).1.H.Objs.length=s.H.Objs.length/\((zp s m x).1.T=s.T\/((zp s m x).1.T=(uf s.T x.G.Obj).1/\(x.PC=3\/x.PC=37))\/(zp s m x).1.T=wC s.T x.Obj) /\
   ((zp s m x).1.L=s.L\/(∃w,(zp s m x).1.L=(zgd s.L m w).1)\/(zp s m x).1.L=zlY s.L m)) \/
  ((zp s m x).1.H=wW s.H/\(zp s m x).1.T=Xo s.T (wc (s.H.Objs.length+1))/\(zp s m x).1.L=zjA s.L m s.P.Price/\zj7 s.L m s.P.Price s.P.Limit=true/\XN s.H s.P.Most=true):=by
 refine wu (motive:=fun r=>(r.1.H.Objs.length=s.H.Objs.length/\(r.1.T=s.T\/(r.1.T=(uf s.T x.G.Obj).1/\(x.PC=3\/x.PC=37))\/r.1.T=wC s.T x.Obj)/\(r.1.L=s.L\/(∃w,r.1.L=(zgd s.L m w).1)\/r.1.L=zlY s.L m)) \/
  (r.1.H=wW s.H/\r.1.T=Xo s.T (wc (s.H.Objs.length+1))/\r.1.L=zjA s.L m s.P.Price/\zj7 s.L m s.P.Price s.P.Limit=true/\XN s.H s.P.Most=true)) s m x ?_ ?_ ?_ ?_ ?_ ?_ ?_ ?_ ?_ ?_ ?_ ?_ ?_ ?_ ?_ ?_ ?_ ?_ ?_ ?_
 ·intro c;exact .inl ⟨rfl,.inl rfl,.inl rfl⟩
 ·intro c;exact .inl ⟨rfl,.inl rfl,.inl rfl⟩
 ·intro c;exact .inl ⟨rfl,.inl rfl,.inl rfl⟩
 ·intro c;unfold mu3
  refine .inl ⟨by rw [Uu],(zCv s x.G).imp id (fun h=>.inl ⟨h,.inl c⟩),.inl (by rw [Uu])⟩
 ·intro c;exact .inl ⟨rfl,.inl rfl,.inl rfl⟩
 ·intro c;exact .inl ⟨rfl,.inl rfl,.inl rfl⟩
 ·intro c;exact .inl ⟨rfl,.inl rfl,.inl rfl⟩
 ·intro c;exact .inl ⟨rfl,.inl rfl,.inl rfl⟩
 ·intro c;exact .inl ⟨zcT _ _ _ _,.inl rfl,.inl rfl⟩
 ·intro c;unfold za1
  split
  ·split
   ·rename_i h1 h2;exact .inr ⟨rfl,rfl,rfl,h1,h2⟩
   ·exact .inl ⟨rfl,.inl rfl,.inl rfl⟩
  ·exact .inl ⟨rfl,.inl rfl,.inl rfl⟩
 ·intro c;exact .inl ⟨rfl,.inl rfl,.inr (.inl ⟨_,rfl⟩)⟩
 ·intro c;exact .inl ⟨rfl,.inl rfl,.inl rfl⟩
 ·intro c;exact .inl ⟨rfl,.inl rfl,.inl rfl⟩
 ·intro c;exact .inl ⟨rfl,.inl rfl,.inl rfl⟩
 ·intro c;exact .inl ⟨rfl,.inl rfl,.inl rfl⟩
 ·intro c;exact .inl ⟨rfl,.inl rfl,.inl rfl⟩
 ·intro c;unfold zbH
  refine .inl ⟨by rw [Uu],(zCv s x.G).imp id (fun h=>.inl ⟨h,.inr c⟩),.inl (by rw [Uu])⟩
 ·intro c;exact .inl ⟨rfl,.inr (.inr rfl),.inr (.inr rfl)⟩
 ·intro c;exact .inl ⟨rfl,.inl rfl,.inl rfl⟩
 ·exact .inl ⟨rfl,.inl rfl,.inl rfl⟩
def ziI (n:Int) (x:zc):Prop:=(∀v∈x.Buf,v<=n)/\x.Old<=n/\(x.PC=3\/x.PC=37->x.G.Obj<=n)
theorem zzj {h:zr}{n:Int}(h0:0<=n) (hv:∀l∈h.Objs,∀v∈l,v<=n) (o i:Int):zH h o i<=n:=by
 unfold zH
 split
 ·rw [zGS]
  cases hx:(zK h o)[i.toNat]? with
  | none=>exact h0
  | some v =>
   have hm:=zGW hx
   unfold zK at hm
   rw [zGS] at hm
   cases hy:h.Objs[(o-1).toNat]? with
   | none=>rw [hy] at hm;cases hm
   | some l=>rw [hy] at hm;exact hv l (zGW hy) v hm
 ·exact h0
theorem zB1 {p:zb}{nb:Nat}{s:za}{m:Int}{x:zc}(X:XOk p nb m x) {n:Int}(h0:0<=n) (hv:∀l∈s.H.Objs,∀v∈l,v<=n) (B:ziI n x):ziI n (zp s m x).2:=by
 obtain ⟨b1,b2,b3⟩:=B
 have no:∀ {y:zc},(∀v∈y.Buf,v<=n)->y.Old<=n->¬(y.PC=3\/y.PC=37)->ziI n y:=fun h1 h2 h3=>⟨h1,h2,fun e=>absurd e h3⟩
 refine wu (motive:=fun r=>ziI n r.2) s m x ?_ ?_ ?_ ?_ ?_ ?_ ?_ ?_ ?_ ?_ ?_ ?_ ?_ ?_ ?_ ?_ ?_ ?_ ?_ ?_
 ·intro c;unfold mu0 UV
  repeat' split
  all_goals exact no b1 b2 (by dsimp only [setM];omega)
 ·intro c;unfold mu1;dsimp only
  split
  ·exact no b1 b2 (by have:=X.ret (.inl c);show ¬(x.Ret=3\/x.Ret=37);omega)
  ·rename_i hl
   refine ⟨fun v hv=>b1 v (zIk hv),b2,fun _=>?_⟩
   show x.Buf.getD (x.Buf.length-1) 0<=n
   rw [zGS,zGQ (show x.Buf.length-1<x.Buf.length by omega)]
   exact b1 _ (zHj _)
 ·intro c;unfold mu2;exact no b1 b2 (by show ¬((0:Int)=3\/(0:Int)=37);decide)
 ·intro c;unfold mu3;dsimp only
  split
  ·exact no b1 b2 (by show ¬((1:Int)=3\/(1:Int)=37);decide)
  ·exact ⟨b1,b2,fun _=>by show (zt s x.G).2.Obj<=n;rw [(Uy s x.G).1];exact b3 (.inl c)⟩
 ·intro c;unfold zjV;exact no b1 b2 (by show ¬((0:Int)=3\/(0:Int)=37);decide)
 ·intro c;unfold zeZ;dsimp only
  split
  ·exact no b1 b2 (by show ¬((0:Int)=3\/(0:Int)=37);decide)
  ·exact no b1 (zzj h0 hv _ _) (by show ¬((21:Int)=3\/(21:Int)=37);decide)
 ·intro c;unfold zfQ;dsimp only
  split
  ·exact no b1 h0 (by show ¬((23:Int)=3\/(23:Int)=37);decide)
  ·exact no b1 b2 (by show ¬((22:Int)=3\/(22:Int)=37);decide)
 ·intro c;unfold zfV;dsimp only
  split
  ·exact no b1 b2 (by show ¬((1:Int)=3\/(1:Int)=37);decide)
  ·refine no (fun v hv=>?_) h0 (by show ¬((23:Int)=3\/(23:Int)=37);decide)
   rcases zHb.1 hv with h | h
   ·exact b1 v h
   ·rw [zHs.1 h];exact b2
 ·intro c;unfold zhv;exact no b1 b2 (by show ¬((0:Int)=3\/(0:Int)=37);decide)
 ·intro c;unfold za1
  split
  ·split
   ·exact no b1 b2 (by show ¬((0:Int)=3\/(0:Int)=37);decide)
   ·exact no b1 b2 (by show ¬((0:Int)=3\/(0:Int)=37);decide)
  ·exact no b1 b2 (by show ¬((31:Int)=3\/(31:Int)=37);decide)
 ·intro c;unfold zfE;dsimp only
  split
  ·exact no b1 b2 (by show ¬((32:Int)=3\/(32:Int)=37);decide)
  ·exact no b1 b2 (by show ¬((0:Int)=3\/(0:Int)=37);decide)
 ·intro c;unfold zfJ;dsimp only
  split
  ·exact no b1 b2 (by show ¬((33:Int)=3\/(33:Int)=37);decide)
  split
  ·exact no b1 b2 (by show ¬((0:Int)=3\/(0:Int)=37);decide)
  ·exact no b1 b2 (by show ¬(x.PC=3\/x.PC=37);omega)
 ·intro c;unfold zkj;exact no b1 b2 (by show ¬((34:Int)=3\/(34:Int)=37);decide)
 ·intro c;unfold zf0;dsimp only
  split
  ·exact no b1 b2 (by show ¬((35:Int)=3\/(35:Int)=37);decide)
  ·exact no b1 b2 (by show ¬(x.PC=3\/x.PC=37);omega)
 ·intro c;unfold zfc;dsimp only
  split
  ·exact no b1 b2 (by show ¬((0:Int)=3\/(0:Int)=37);decide)
  ·exact no b1 b2 (by show ¬((36:Int)=3\/(36:Int)=37);decide)
 ·intro c;unfold zfm;dsimp only
  split
  ·exact no b1 b2 (by have:=zbZ s (wc (x.Slot+1));show ¬(onM s (wc (x.Slot+1))=3\/onM s (wc (x.Slot+1))=37);omega)
  ·exact ⟨b1,b2,fun _=>zzj h0 hv _ _⟩
 ·intro c;unfold zbH;dsimp only
  split
  ·exact no b1 b2 (by have:=zbZ s x.Slot;show ¬(onM s x.Slot=3\/onM s x.Slot=37);omega)
  ·exact ⟨b1,b2,fun _=>by show (zt s x.G).2.Obj<=n;rw [(Uy s x.G).1];exact b3 (.inr c)⟩
 ·intro c;unfold zjP;exact no b1 b2 (by show ¬((39:Int)=3\/(39:Int)=37);decide)
 ·intro c;unfold zmU;exact no b1 b2 (by show ¬((35:Int)=3\/(35:Int)=37);decide)
 ·exact ⟨b1,b2,b3⟩
theorem zAy:∀(l:List Int) (i:Nat) (v:Int),i<l.length->(l.set i v).sum=l.sum-l.getD i 0+v
 | [],i,v,h=>by simp at h
 | a::l,0,v,h=>by simp only [List.set_cons_zero,List.sum_cons,List.getD_cons_zero];omega
 | a::l,i+1,v,h=>by
  simp only [List.set_cons_succ,List.sum_cons,List.getD_cons_succ,zAy l i v (by simpa using h)];omega
end
end Go.Pe.G
namespace Go.Pe.G
open Go.Pe
noncomputable section
def vV (p:zb) (s:za) (g:Gh):List Int:=yx p s g++(s.Ws.flatMap (zQ s)++s.Ms.flatMap (zZ s))
structure FG (p:zb) (nb k:Nat) (s:za) (gh:Gh):Prop where
 E:EOk p nb s
 X:SX p nb s gh (s.Ws.flatMap wA++s.Ms.flatMap um) k
 W:∀(i:Nat) x,s.Ws[i]? =some x->WX p s gh ((i:Int)+1) x
 M:∀(i:Nat) x,s.Ms[i]? =some x->MX p s gh x
 B:zbw (vV p s gh) s.T
 mrk:∀o,zI s.T.Marks o=true->o<=(s.H.Objs.length:Int)
 wob:∀(i:Nat) x,s.Ws[i]? =some x->x.PC=6->x.G.Obj<=(s.H.Objs.length:Int)
 buf:∀x∈s.Ms,ziI (s.H.Objs.length:Int) x
 bk:∀o,(p.H.Objs.length:Int)<o->o<=(s.H.Objs.length:Int)->zI s.T.Black o=true
 ne:∀y∈gh.F,yw s y≠[]
theorem FX.ne {p:zb}{nb k:Nat}{s s':za}{gh gh':Gh}{Y R:List Int}{O:Int->Prop}(X:SX p nb s gh (Y++R) k) (Fx:FX p nb Y O s s' gh gh') (h:∀y∈gh.F,yw s y≠[]):∀y∈gh'.F,yw s' y≠[]:=fun y hy =>
 (Fx.fb y hy).elim (fun hy=>by
  have h1:=zp8.1 (X.L.all.subset (zG7 _ (zG7 _ hy)))
  have h2:y∉Y:=fun e=>(X.L.notF (zG7 _ e)).1 hy
  have:=Fx.bn y h1.1 h2
  unfold yw
  rw [this];exact h y hy) id
theorem MX.state {p:zb}{s s':za}{gh:Gh}{x:zc}(W:MX p s gh x) (hm:s'.M=s.M) (hb:s'.Bins=s.Bins):MX p s' gh x :=
 ⟨W.bt,W.bf,W.ol,fun e=>⟨(W.p3 e).1.state hm hb,(W.p3 e).2⟩,by rw [hm];exact W.p32,by rw [hm];exact W.p34,fun e=>⟨(W.p37 e).1.state hm hb,(W.p37 e).2⟩⟩
theorem zgk {s s':za}{x:zc}(hb:s'.Bins=s.Bins):zZ s' x=zZ s x:=by
 unfold zZ zbG yw;rw [hb]
def Ur (s s':za):Prop :=
 (s'.T=s.T/\s'.H.Objs.length=s.H.Objs.length) \/
 (∃o,(1<=o/\o<=(s.H.Objs.length:Int))/\¬zI s.T.Marks o=true/\s'.T={s.T with Marks:=s.T.Marks|||bit o}/\s'.H=s.H) \/
 (∃o,xg s.T o=1/\s'.T={s.T with Black:=s.T.Black|||bit o}/\s'.H=s.H) \/
 (s'.H=wW s.H/\(s.H.Objs.length:Int)<9/\s'.T=⟨s.T.Marks|||bit ((s.H.Objs.length:Int)+1),s.T.Black|||bit ((s.H.Objs.length:Int)+1)⟩)
theorem FG.tints {p:zb}{nb k:Nat}{s:za}{gh:Gh}(G:FG p nb k s gh) {s':za}(F:Ur s s') :
  (∀o,zI s'.T.Marks o=true->o<=(s'.H.Objs.length:Int))/\(∀o,(p.H.Objs.length:Int)<o->o<=(s'.H.Objs.length:Int)->zI s'.T.Black o=true):=by
 rcases F with ⟨e,h⟩ | ⟨o,ho,hn,e,h⟩ | ⟨o,ho,e,h⟩ | ⟨h,hl,e⟩
 ·rw [e,h];exact ⟨G.mrk,G.bk⟩
 ·rw [e,h]
  refine ⟨fun q hq=>?_,G.bk⟩
  rcases zaN hq with hq | rfl
  ·exact G.mrk q hq
  ·exact ho.2
 ·rw [e,h]
  exact ⟨G.mrk,fun q h1 h2=>(vf _ _ _).2 (.inl (G.bk q h1 h2))⟩
 ·rw [e,h]
  have hal:=zp3 s.H
  refine ⟨fun q hq=>?_,fun q h1 h2=>?_⟩
  ·rcases zaN hq with hq | rfl
   ·have:=G.mrk q hq;omega
   ·omega
  ·dsimp only
   by_cases hq:q<=(s.H.Objs.length:Int)
   ·exact (vf _ _ _).2 (.inl (G.bk q h1 hq))
   ·have:q=(s.H.Objs.length:Int)+1:=by omega
    subst this
    exact (wq _ (by omega) _).2 (.inr rfl)
theorem FG.det {p:zb}(hp:zB p) {nb k:Nat}{s:za}{gh:Gh}(G:FG p nb k s gh) (hd:({xu s with Epoch:=s.Epoch,Flag:=s.Flag,Done:=s.Done,Restarts:=s.Restarts,D:=s.D}:za)=s):FG p nb (k+1) (xu s) gh:=by
 have hE:=zEr hp G.E
 have eM:(xu s).M=s.M:=by conv=>rhs;rw [<-hd]
 have eB:(xu s).Bins=s.Bins:=by conv=>rhs;rw [<-hd]
 have eT:(xu s).T=s.T:=by conv=>rhs;rw [<-hd]
 have eH:(xu s).H=s.H:=by conv=>rhs;rw [<-hd]
 have eW:(xu s).Ws=s.Ws:=by conv=>rhs;rw [<-hd]
 have eX:(xu s).Ms=s.Ms:=by conv=>rhs;rw [<-hd]
 refine ⟨hE,?_,?_,?_,?_,by rw [eT,eH];exact G.mrk,by rw [eW,eH];exact G.wob,by rw [eX,eH];exact G.buf,by rw [eT,eH];exact G.bk,by unfold yw;rw [eB];exact G.ne⟩
 ·rw [eW,eX];exact G.X.quiet hE.S eM
 ·rw [eW];exact fun i x hx=>(G.W i x hx).state eM eB
 ·rw [eX];exact fun i x hx=>(G.M i x hx).state eM eB
 ·have e:vV p (xu s) gh=vV p s gh:=by
   unfold vV
   rw [eW,eX,uO eB,wa (fun x _=>zgs (x:=x) eM eB),wa (fun x _=>zgk (x:=x) eB)]
  rw [e,eT];exact G.B
theorem FG.worker {p:zb}(hp:zB p) {nb k:Nat}{s:za}{gh:Gh}(hk:k<4294960000) (G:FG p nb k s gh) {w:Int}(hw:1<=w/\w<=p.Workers) (hd:s.Done=false):∃gh',FG p nb (k+1) (z9 s w) gh'/\Ur s (z9 s w) /\
  ∃x,s.Ws[(w-1).toNat]? =some x/\∃N C,List.Perm (vV p (z9 s w) gh'++C) (N++vV p s gh)/\((N=[]/\C=[]/\(zu s w x).1.T=s.T)\/(N=[x.G.Obj]/\C=[]/\x.PC=6/\¬(s.T.Marks|||bit x.G.Obj=s.T.Marks)/\(zu s w x).1.T={s.T with Marks:=s.T.Marks|||bit x.G.Obj})\/(N=[]/\C=[x.Obj]/\x.PC=8/\(zu s w x).1.T=wC s.T x.Obj)):=by
 have hE:=zyt hp G.E w
 have hwl:=G.E.wl
 have e0: ¬(s.Done=true\/w<1\/(s.Ws.length:Int)<w):=by rw [hd];rintro (e | e | e)<;>first | cases e | omega
 revert hE
 unfold z9
 rw [if_neg e0]
 have hi:(w-1).toNat<s.Ws.length:=by omega
 have hx:=zGQ hi
 generalize s.Ws[(w-1).toNat]=x at hx
 rw [hx]
 dsimp only
 intro hE
 obtain ⟨a,b,el,es,hab,hba⟩:=zxH hx
 have ei:(((w-1).toNat:Nat):Int)+1=w:=by omega
 have hWX:=G.W _ x hx
 have hWO:=G.E.W _ x hx
 rw [ei] at hWX hWO
 have hfr:=znN (s:=s) hWO
 have eH:(zu s w x).1.H=s.H:=by rw [hfr]
 have eMs:(zu s w x).1.Ms=s.Ms:=by rw [hfr]
 have X0:SX p nb s gh (wA x++((a++b).flatMap wA++s.Ms.flatMap um)) k:=by
  refine G.X.perm ?_
  rw [<-zGV]
  refine zIj _ ?_
  conv=>rhs;rw [el]
  exact Vf.symm
 obtain ⟨gh',X',W',Fx,N,C,hN,hT⟩:=zGd hp hk hw X0 hWO hWX (fun o i=>G.E.H.get hp o i)
 have hoth:∀(j:Nat) y,j≠(w-1).toNat->s.Ws[j]? =some y->WX p (zu s w x).1 gh' ((j:Int)+1) y/\zQ (zu s w x).1 y=zQ s y:=by
  intro j y hj hy
  have hjl:=(zGY.1 hy).1
  exact WX.other hp (w:=(j:Int)+1) (by omega) X0 Fx (G.W j y hy) (G.E.W j y hy) (fun z hz=>zG7 _ (zIu.2 ⟨y,hba j y hj hy,hz⟩)) (fun e=>hj (by omega))
 have hmut:∀(j:Nat) y,s.Ms[j]? =some y->MX p (zu s w x).1 gh' y/\zZ (zu s w x).1 y=zZ s y:=by
  intro j y hy
  exact MX.other hp X0 Fx (G.M j y hy) (G.E.X j y hy) (fun z hz=>zHk _ (zIu.2 ⟨y,zGW hy,hz⟩))
 have hbag:List.Perm (vV p {(zu s w x).1 with Ws:=s.Ws.set (w-1).toNat (zu s w x).2} gh'++C) (N++vV p s gh):=by
  unfold vV
  have q2:(s.Ws.set (w-1).toNat (zu s w x).2).flatMap (zQ {(zu s w x).1 with Ws:=s.Ws.set (w-1).toNat (zu s w x).2})=(a++(zu s w x).2::b).flatMap (zQ (zu s w x).1):=by
   rw [es];exact wa (fun y _=>zgs rfl rfl)
  have q3:(a++b).flatMap (zQ (zu s w x).1)=(a++b).flatMap (zQ s):=wa (fun y hy=>by
   obtain ⟨j,hj,hjy⟩:=hab y hy
   exact (hoth j y hj hjy).2)
  have q4:(zu s w x).1.Ms.flatMap (zZ {(zu s w x).1 with Ws:=s.Ws.set (w-1).toNat (zu s w x).2})=s.Ms.flatMap (zZ s):=by
   rw [eMs]
   refine wa (fun y hy=>?_)
   obtain ⟨j,hj⟩:=zIt.1 hy
   exact (zgk (s:=(zu s w x).1) rfl).trans (hmut j y hj).2
  show List.Perm (yx p (zu s w x).1 gh'++((s.Ws.set (w-1).toNat (zu s w x).2).flatMap (zQ {(zu s w x).1 with Ws:=s.Ws.set (w-1).toNat (zu s w x).2})++(zu s w x).1.Ms.flatMap (zZ {(zu s w x).1 with Ws:=s.Ws.set (w-1).toNat (zu s w x).2}))++C) _
  rw [q2,q4]
  have r1:List.Perm (yx p (zu s w x).1 gh'++((a++(zu s w x).2::b).flatMap (zQ (zu s w x).1)++s.Ms.flatMap (zZ s))++C) (((a++b).flatMap (zQ s)++s.Ms.flatMap (zZ s))++(yx p (zu s w x).1 gh'++zQ (zu s w x).1 (zu s w x).2++C)):=by
   refine ((zG3 _ (zIj _ Vf)).append_right C).trans ?_
   rw [q3]
   generalize (a++b).flatMap (zQ s)=u
   generalize s.Ms.flatMap (zZ s)=v
   generalize yx p (zu s w x).1 gh'=y
   generalize zQ (zu s w x).1 (zu s w x).2=z
   have:List.Perm (y++(z++(u++v))++C) ((u++v)++(y++z++C)):=by
    generalize u++v=q
    rw [zGV,zGV,zGV]
    refine (zG3 _ (zHt _ _ _)).trans ?_
    exact (zHt _ _ _)
   rw [zGV z u v]
   exact this
  have r2:List.Perm (N++(yx p s gh++(s.Ws.flatMap (zQ s)++s.Ms.flatMap (zZ s)))) (((a++b).flatMap (zQ s)++s.Ms.flatMap (zZ s))++(N++(yx p s gh++zQ s x))):=by
   conv=>lhs;rw [el]
   refine (zG3 _ (zG3 _ (zIj _ Vf))).trans ?_
   generalize (a++b).flatMap (zQ s)=u
   generalize s.Ms.flatMap (zZ s)=v
   generalize yx p s gh=y
   generalize zQ s x=z
   rw [zGV z u v]
   generalize u++v=q
   refine (zG3 _ ?_).trans (zHt _ _ _)
   rw [<-zGV]
   exact zHC
  exact r1.trans ((zG3 _ hN).trans r2.symm)
 have hFM:Ur s {(zu s w x).1 with Ws:=s.Ws.set (w-1).toNat (zu s w x).2}/\zbw (vV p {(zu s w x).1 with Ws:=s.Ws.set (w-1).toNat (zu s w x).2} gh') (zu s w x).1.T:=by
  rcases hT with ⟨e1,e2,t1⟩ | ⟨e1,e2,t1,t2,t3⟩ | ⟨e1,e2,t1,t2⟩
  ·rw [e1,e2,zGR,zG0] at hbag
   refine ⟨.inl ⟨t1,congrArg (fun h:zr=>h.Objs.length) eH⟩,⟨?_,hbag.nodup_iff.2 G.B.nd,fun o=>?_⟩⟩
   ·rw [t1];exact G.B.blk
   ·rw [t1,hbag.mem_iff];exact G.B.gr o
  ·have ho:=((hWX.p6 t1).1).ob
   rw [e1,e2,zGR] at hbag
   refine ⟨.inr (.inl ⟨x.G.Obj,⟨ho.1,G.wob _ x hx t1⟩,(zdH ho).1 t2,t3,eH⟩),?_⟩
   rw [t3]
   exact G.B.more ho t2 hbag
  ·rw [e1,e2,zG0] at hbag
   obtain ⟨b1,b2,b3,b4⟩:=G.B.less hbag
   refine ⟨.inr (.inr (.inl ⟨x.Obj,b3,?_,eH⟩)),by rw [t2];exact b1⟩
   show (zu s w x).1.T=_
   rw [t2];unfold wC;rw [if_pos b3]
 obtain ⟨hFM,hB⟩:=hFM
 obtain ⟨t1,t2⟩:=G.tints hFM
 refine ⟨gh',⟨hE,?_,fun j y hy=>?_,fun j y hy=>?_,hB,t1,fun j y hy h6=>?_,fun y hy=>?_,t2,fun y hy=>show yw (zu s w x).1 y≠[] from FX.ne X0 Fx G.ne y hy⟩,hFM,x,rfl,N,C,hbag,hT⟩
 ·refine (X'.state hE.S rfl).perm ?_
  show List.Perm ((s.Ws.set (w-1).toNat (zu s w x).2).flatMap wA++(zu s w x).1.Ms.flatMap um) _
  rw [es,eMs,<-zGV]
  exact zIj _ Vf
 ·have hy:(s.Ws.set (w-1).toNat (zu s w x).2)[j]? =some y:=hy
  by_cases hj:j=(w-1).toNat
  ·subst hj
   rw [zH8 hi] at hy
   injection hy with hy
   rw [<-hy,ei]
   exact W'.state rfl rfl
  ·rw [zHp (fun e=>hj e.symm)] at hy
   exact (hoth j y hj hy).1.state rfl rfl
 ·have hy:(zu s w x).1.Ms[j]? =some y:=hy
  rw [eMs] at hy
  exact (hmut j y hy).1.state rfl rfl
 ·have hy:(s.Ws.set (w-1).toNat (zu s w x).2)[j]? =some y:=hy
  show y.G.Obj<=((zu s w x).1.H.Objs.length:Int)
  rw [eH]
  by_cases hj:j=(w-1).toNat
  ·subst hj
   rw [zH8 hi] at hy
   injection hy with hy
   rw [<-hy] at h6 ⊢
   rcases zDl s w x h6 with ⟨h,e⟩ | ⟨h,e⟩
   ·rw [e];exact G.wob _ x hx h
   ·rw [e];exact zzj (by omega) (fun l hl v hv=>((G.E.H.objs l hl).2 v hv).2) _ _
  ·rw [zHp (fun e=>hj e.symm)] at hy
   exact G.wob j y hy h6
 ·have hy:y∈(zu s w x).1.Ms:=hy
  show ziI ((zu s w x).1.H.Objs.length:Int) y
  rw [eMs] at hy
  rw [eH]
  exact G.buf y hy
theorem zsv (s:za) (m:Int) (x:zc):(zp s m x).1.H=s.H\/x.PC=23\/x.PC=30:=by
 refine wu (motive:=fun r=>r.1.H=s.H\/x.PC=23\/x.PC=30) s m x ?_ ?_ ?_ ?_ ?_ ?_ ?_ ?_ ?_ ?_ ?_ ?_ ?_ ?_ ?_ ?_ ?_ ?_ ?_ ?_
 all_goals first
  | exact fun _=>.inl rfl
  | exact fun c=>.inr (.inl c)
  | exact fun c=>.inr (.inr c)
  | (intro c;unfold mu3;exact .inl (by dsimp only;rw [Uu]))
  | (intro c;unfold zbH;exact .inl (by dsimp only;rw [Uu]))
  | exact .inl rfl
theorem zsk {t:zo}{n:Int}(hn:1<=n/\n<=64) (nm: ¬zI t.Marks n=true) (nb': ¬zI t.Black n=true):Xo t n=⟨t.Marks|||bit n,t.Black|||bit n⟩:=by
 have ht1:xg {t with Marks:=t.Marks|||bit n} n=1:=(ux _ _).2 ⟨(wq _ hn _).2 (.inr rfl),nb'⟩
 unfold Xo
 rw [zCF hn nm nb']
 dsimp only
 rw [if_pos rfl]
 unfold wC
 rw [if_pos ht1]
theorem zbw.fresh {B B':List Int}{t:zo}{n:Int}(hn:1<=n/\n<=64) (nm: ¬zI t.Marks n=true) (K:zbw B t) (h:List.Perm B' B):zbw B' ⟨t.Marks|||bit n,t.Black|||bit n⟩:=by
 refine ⟨fun o ho=>?_,h.nodup_iff.2 K.nd,fun o=>?_⟩
 ·rcases (wq _ hn o).1 ho with h | h
  ·exact (wq _ hn o).2 (.inl (K.blk o h))
  ·exact (wq _ hn o).2 (.inr h)
 ·rw [h.mem_iff,K.gr,ux,ux]
  dsimp only
  rw [wq _ hn,wq _ hn]
  constructor
  ·rintro ⟨a1,a2⟩
   refine ⟨.inl a1,fun e=>e.elim a2 (fun e=>?_)⟩
   rw [e] at a1;exact nm a1
  ·rintro ⟨a1,a2⟩
   exact ⟨a1.resolve_right (fun e=>a2 (.inr e)),fun e=>a2 (.inl e)⟩
theorem FG.mut_tint {p:zb}(hp:zB p) {nb k:Nat}{s:za}{gh:Gh}(G:FG p nb k s gh) {m:Int}{x:zc}(hMX:MX p s gh x) (hBI:ziI (s.H.Objs.length:Int) x) {l:List zc}{N C B':List Int}
  (hbag:List.Perm (B'++C) (N++vV p s gh))
  (hT:(N=[]/\C=[]/\(zp s m x).1.T=s.T)\/(N=[x.G.Obj]/\C=[]/\(x.PC=3\/x.PC=37)/\¬(s.T.Marks|||bit x.G.Obj=s.T.Marks)/\(zp s m x).1.T={s.T with Marks:=s.T.Marks|||bit x.G.Obj})\/(N=[]/\C=[x.Obj]/\x.PC=38/\(zp s m x).1.T=wC s.T x.Obj) \/
   (N=[]/\C=[]/\x.PC=30/\XN s.H s.P.Most=true/\(zp s m x).1.H=wW s.H/\(zp s m x).1.T=Xo s.T (wc (s.H.Objs.length+1)))) :
  Ur s {(zp s m x).1 with Ms:=l}/\zbw B' (zp s m x).1.T:=by
 have hN0:=G.E.H.n
 have hM0:=hp.most
 have hn6:=hp.n
 have nm: ¬zI s.T.Marks ((s.H.Objs.length:Int)+1)=true:=fun e=>by have:=G.mrk _ e;omega
 have nb': ¬zI s.T.Black ((s.H.Objs.length:Int)+1)=true:=fun e=>nm (G.B.blk _ e)
 have hw:wc ((s.H.Objs.length:Int)+1)=(s.H.Objs.length:Int)+1:=xS (by omega) (by omega)
 rcases hT with ⟨e1,e2,t1⟩ | ⟨e1,e2,t1,t2,t3⟩ | ⟨e1,e2,t1,t2⟩ | ⟨e1,e2,t1,t2,t3,t4⟩
 ·rw [e1,e2,zGR,zG0] at hbag
  refine ⟨.inl ⟨t1,?_⟩,⟨?_,hbag.nodup_iff.2 G.B.nd,fun o=>?_⟩⟩
  ·show (zp s m x).1.H.Objs.length=_
   rcases zzc s m x with h | ⟨h1,h2,_,_,h5⟩
   ·exact h.1
   ·exfalso
    rw [t1,hw,zsk (by omega) nm nb'] at h2
    have h3:=congrArg zo.Marks h2
    exact nm (by rw [h3];exact (wq _ (by omega) _).2 (.inr rfl))
  ·rw [t1];exact G.B.blk
  ·rw [t1,hbag.mem_iff];exact G.B.gr o
 ·have ho:1<=x.G.Obj/\x.G.Obj<=64:=by
   rcases t1 with h | h
   ·exact (hMX.p3 h).1.ob
   ·exact (hMX.p37 h).1.ob
  rw [e1,e2,zGR] at hbag
  have eH:(zp s m x).1.H=s.H:=by
   rcases zsv s m x with h | h | h
   ·exact h
   ·omega
   ·omega
  refine ⟨.inr (.inl ⟨x.G.Obj,⟨ho.1,hBI.2.2 t1⟩,(zdH ho).1 t2,t3,eH⟩),?_⟩
  rw [t3]
  exact G.B.more ho t2 hbag
 ·rw [e1,e2,zG0] at hbag
  obtain ⟨b1,b2,b3,b4⟩:=G.B.less hbag
  have eH:(zp s m x).1.H=s.H:=by
   rcases zsv s m x with h | h | h
   ·exact h
   ·omega
   ·omega
  refine ⟨.inr (.inr (.inl ⟨x.Obj,b3,?_,eH⟩)),by rw [t2];exact b1⟩
  show (zp s m x).1.T=_
  rw [t2];unfold wC;rw [if_pos b3]
 ·rw [e1,e2,zGR,zG0] at hbag
  have hr:(s.H.Objs.length:Int)<s.P.Most:=by
   unfold XN at t2
   simp only [zGP,decide_eq_true_eq] at t2
   exact t2.1
  rw [G.E.S.P] at hr
  have hTT:(zp s m x).1.T=⟨s.T.Marks|||bit ((s.H.Objs.length:Int)+1),s.T.Black|||bit ((s.H.Objs.length:Int)+1)⟩:=by
   rw [t4,hw,zsk (by omega) nm nb']
  refine ⟨.inr (.inr (.inr ⟨t3,by omega,hTT⟩)),?_⟩
  rw [hTT]
  exact G.B.fresh (by omega) nm hbag
theorem FG.mutator {p:zb}(hp:zB p) {nb k:Nat}{s:za}{gh:Gh}(hk:k<4294960000) (G:FG p nb k s gh) {m:Int}(hm:1<=m/\m<=p.Mutators) (hd:s.Done=false):∃gh',FG p nb (k+1) (zY s m) gh'/\Ur s (zY s m) /\
  ∃x,s.Ms[(m-1).toNat]? =some x/\∃N C,List.Perm (vV p (zY s m) gh'++C) (N++vV p s gh)/\((N=[]/\C=[]/\(zp s m x).1.T=s.T)\/(N=[x.G.Obj]/\C=[]/\(x.PC=3\/x.PC=37)/\¬(s.T.Marks|||bit x.G.Obj=s.T.Marks)/\(zp s m x).1.T={s.T with Marks:=s.T.Marks|||bit x.G.Obj})\/(N=[]/\C=[x.Obj]/\x.PC=38/\(zp s m x).1.T=wC s.T x.Obj) \/
   (N=[]/\C=[]/\x.PC=30/\XN s.H s.P.Most=true/\(zp s m x).1.H=wW s.H/\(zp s m x).1.T=Xo s.T (wc (s.H.Objs.length+1)))):=by
 have hE:=zv3 hp G.E m
 have hml:=G.E.ml
 have hwl:=G.E.wl
 have hN0:=G.E.H.n
 have hM0:=hp.most
 have hn6:=hp.n
 have e0: ¬(s.Done=true\/m<1\/(s.Ms.length:Int)<m):=by rw [hd];rintro (e | e | e)<;>first | cases e | omega
 revert hE
 unfold zY
 rw [if_neg e0]
 have hi:(m-1).toNat<s.Ms.length:=by omega
 have hx:=zGQ hi
 generalize s.Ms[(m-1).toNat]=x at hx
 rw [hx]
 dsimp only
 intro hE
 obtain ⟨a,b,el,es,hab,hba⟩:=zxH hx
 have ei:(((m-1).toNat:Nat):Int)+1=m:=by omega
 have hMX:=G.M _ x hx
 have hXO:=G.E.X _ x hx
 rw [ei] at hXO
 have hBI:=G.buf x (zGW hx)
 have hfr:=zp1 s m x
 have eWs:(zp s m x).1.Ws=s.Ws:=by rw [hfr]
 have X0:SX p nb s gh (um x++((a++b).flatMap um++s.Ws.flatMap wA)) k:=by
  refine G.X.perm ?_
  rw [<-zGV]
  refine List.Perm.trans (zIj _ ?_) zHC
  conv=>rhs;rw [el]
  exact Vf.symm
 obtain ⟨gh',X',M',Fx,N,C,hN,hT⟩:=zGo hp hk X0 hXO hMX (zut hp m) (fun o i=>G.E.H.get hp o i)
 have hoth:∀(j:Nat) y,j≠(m-1).toNat->s.Ms[j]? =some y->MX p (zp s m x).1 gh' y/\zZ (zp s m x).1 y=zZ s y:=by
  intro j y hj hy
  exact MX.other hp X0 Fx (G.M j y hy) (G.E.X j y hy) (fun z hz=>zG7 _ (zIu.2 ⟨y,hba j y hj hy,hz⟩))
 have hwrk:∀(j:Nat) y,s.Ws[j]? =some y->WX p (zp s m x).1 gh' ((j:Int)+1) y/\zQ (zp s m x).1 y=zQ s y:=by
  intro j y hy
  have hjl:=(zGY.1 hy).1
  exact WX.other hp (w:=(j:Int)+1) (by omega) X0 Fx (G.W j y hy) (G.E.W j y hy) (fun z hz=>zHk _ (zIu.2 ⟨y,zGW hy,hz⟩)) (fun e=>e)
 have hbag:List.Perm (vV p {(zp s m x).1 with Ms:=s.Ms.set (m-1).toNat (zp s m x).2} gh'++C) (N++vV p s gh):=by
  unfold vV
  have q2:(s.Ms.set (m-1).toNat (zp s m x).2).flatMap (zZ {(zp s m x).1 with Ms:=s.Ms.set (m-1).toNat (zp s m x).2})=(a++(zp s m x).2::b).flatMap (zZ (zp s m x).1):=by
   rw [es];exact wa (fun y _=>zgk rfl)
  have q3:(a++b).flatMap (zZ (zp s m x).1)=(a++b).flatMap (zZ s):=wa (fun y hy=>by
   obtain ⟨j,hj,hjy⟩:=hab y hy
   exact (hoth j y hj hjy).2)
  have q4:(zp s m x).1.Ws.flatMap (zQ {(zp s m x).1 with Ms:=s.Ms.set (m-1).toNat (zp s m x).2})=s.Ws.flatMap (zQ s):=by
   rw [eWs]
   refine wa (fun y hy=>?_)
   obtain ⟨j,hj⟩:=zIt.1 hy
   exact (zgs (s:=(zp s m x).1) rfl rfl).trans (hwrk j y hj).2
  show List.Perm (yx p (zp s m x).1 gh'++((zp s m x).1.Ws.flatMap (zQ {(zp s m x).1 with Ms:=s.Ms.set (m-1).toNat (zp s m x).2})++(s.Ms.set (m-1).toNat (zp s m x).2).flatMap (zZ {(zp s m x).1 with Ms:=s.Ms.set (m-1).toNat (zp s m x).2}))++C) _
  rw [q2,q4]
  have r1:List.Perm (yx p (zp s m x).1 gh'++(s.Ws.flatMap (zQ s)++(a++(zp s m x).2::b).flatMap (zZ (zp s m x).1))++C) ((s.Ws.flatMap (zQ s)++(a++b).flatMap (zZ s))++(yx p (zp s m x).1 gh'++zZ (zp s m x).1 (zp s m x).2++C)):=by
   refine ((zG3 _ (zG3 _ Vf)).append_right C).trans ?_
   rw [q3]
   generalize (a++b).flatMap (zZ s)=u
   generalize s.Ws.flatMap (zQ s)=v
   generalize yx p (zp s m x).1 gh'=y
   generalize zZ (zp s m x).1 (zp s m x).2=z
   refine ((zG3 y (zHt v z u)).append_right C).trans ?_
   generalize v++u=q
   rw [zGV,zGV,zGV]
   refine (zG3 _ (zHt _ _ _)).trans ?_
   exact (zHt _ _ _)
  have r2:List.Perm (N++(yx p s gh++(s.Ws.flatMap (zQ s)++s.Ms.flatMap (zZ s)))) ((s.Ws.flatMap (zQ s)++(a++b).flatMap (zZ s))++(N++(yx p s gh++zZ s x))):=by
   conv=>lhs;rw [el]
   refine (zG3 _ (zG3 _ (zG3 _ Vf))).trans ?_
   generalize (a++b).flatMap (zZ s)=u
   generalize s.Ws.flatMap (zQ s)=v
   generalize yx p s gh=y
   generalize zZ s x=z
   refine (zG3 N (zG3 y (zHt v z u))).trans ?_
   generalize v++u=q
   refine (zG3 _ ?_).trans (zHt _ _ _)
   rw [<-zGV]
   exact zHC
  exact r1.trans ((zG3 _ hN).trans r2.symm)
 have hlen:(zp s m x).1.H.Objs.length=s.H.Objs.length\/(zp s m x).1.H=wW s.H:=by
  rcases zzc s m x with h | h
  ·exact .inl h.1
  ·exact .inr h.1
 have hFM:=G.mut_tint hp (m:=m) (l:=s.Ms.set (m-1).toNat (zp s m x).2) hMX hBI hbag hT
 obtain ⟨hFM,hB⟩:=hFM
 obtain ⟨t1,t2⟩:=G.tints hFM
 have hN1:(s.H.Objs.length:Int)<=((zp s m x).1.H.Objs.length:Int):=by
  rcases hlen with h | h
  ·omega
  ·rw [h,zp3];omega
 have B':=zB1 (s:=s) hXO (n:=(s.H.Objs.length:Int)) (by omega) (fun l hl v hv=>((G.E.H.objs l hl).2 v hv).2) hBI
 refine ⟨gh',⟨hE,?_,fun j y hy=>?_,fun j y hy=>?_,hB,t1,fun j y hy h6=>?_,fun y hy=>?_,t2,fun y hy=>show yw (zp s m x).1 y≠[] from FX.ne X0 Fx G.ne y hy⟩,hFM,x,rfl,N,C,hbag,hT⟩
 ·refine (X'.state hE.S rfl).perm ?_
  show List.Perm ((zp s m x).1.Ws.flatMap wA++(s.Ms.set (m-1).toNat (zp s m x).2).flatMap um) _
  rw [es,eWs,<-zGV]
  exact zHC.trans (zIj _ Vf)
 ·have hy:(zp s m x).1.Ws[j]? =some y:=hy
  rw [eWs] at hy
  exact (hwrk j y hy).1.state rfl rfl
 ·have hy:(s.Ms.set (m-1).toNat (zp s m x).2)[j]? =some y:=hy
  by_cases hj:j=(m-1).toNat
  ·subst hj
   rw [zH8 hi] at hy
   injection hy with hy
   rw [<-hy]
   exact M'.state rfl rfl
  ·rw [zHp (fun e=>hj e.symm)] at hy
   exact (hoth j y hj hy).1.state rfl rfl
 ·have hy:(zp s m x).1.Ws[j]? =some y:=hy
  rw [eWs] at hy
  have:=G.wob j y hy h6
  show y.G.Obj<=((zp s m x).1.H.Objs.length:Int)
  omega
 ·have up:∀ {z:zc},ziI (s.H.Objs.length:Int) z->ziI ((zp s m x).1.H.Objs.length:Int) z:=fun ⟨a,b,c⟩=>⟨fun v hv=>by have:=a v hv;omega,by omega,fun e=>by have:=c e;omega⟩
  rcases zIi (show y∈s.Ms.set (m-1).toNat (zp s m x).2 from hy) with h | rfl
  ·exact up (G.buf y h)
  ·exact up B'
theorem zFY {p:zb}(h:zB p):FG p (zS p+1) 0 (yr p) (gh0 p):=by
 have G:=zF1 h
 have hn:=h.n
 have hms:∀x∈(yr p).Ms,∃r,x=vi r:=fun x hx=>by
  obtain ⟨r,_,e⟩:=zG2.1 (show x∈p.Regs.map vi from hx)
  exact ⟨r,e.symm⟩
 have own:(yr p).Ms.flatMap um=[]:=zaX (fun x hx=>by
  obtain ⟨r,rfl⟩:=hms x hx
  exact vH ⟨by show (0:Int)≠3;decide,by show (0:Int)≠33;decide,by show (0:Int)≠34;decide,by show (0:Int)≠37;decide⟩)
 have hold:(yr p).Ms.flatMap (zZ (yr p))=[]:=zaX (fun x hx=>by
  obtain ⟨r,rfl⟩:=hms x hx
  unfold zZ
  rw [uy ⟨by show (0:Int)≠3;decide,by show (0:Int)≠33;decide,by show (0:Int)≠36;decide,by show (0:Int)≠37;decide,by show (0:Int)≠38;decide⟩];rfl)
 refine ⟨G.E,by rw [own,zGR];exact G.X,G.W,fun i x hx=>?_,?_,fun o ho=>?_,fun i x hx h6=>?_,fun x hx=>?_,fun o h1 h2=>?_,zFs h⟩
 ·obtain ⟨r,rfl⟩:=hms x (zGW hx)
  exact MX.plain ⟨by show (0:Int)≠3;decide,by show (0:Int)≠32;decide,by show (0:Int)≠34;decide,by show (0:Int)≠37;decide⟩ (fun _=>rfl) (fun v hv=>by cases hv)
   ⟨fun e=>absurd e (by show ¬(0:Int)=21;decide),fun e=>absurd e (by show ¬((0:Int)=22\/(((0:Int)=1\/(0:Int)=3)/\(0:Int)=22));decide)⟩
 ·have e:vV p (yr p) (gh0 p)=zAM p (yr p) (gh0 p):=by unfold vV zAM;rw [hold,zGR]
  rw [e];exact G.B
 ·have ho:zI (u5 p) o=true:=ho
  show o<=(p.H.Objs.length:Int)
  refine Int.not_lt.1 fun hlt=>?_
  obtain ⟨a,b,_⟩:=(xy _ _).1 ho
  have b2: ¬zI (vd (p.H.Objs.length:Int)) o=true:=fun e=>by
   have:=(zoM (n:=p.H.Objs.length) (by omega) o).1 e
   omega
  have b3:=(za6 _ _ o).2 ⟨ho,(zkm _ (by omega)).2 b2⟩
  rw [zmi h] at b3
  exact XO o b3
 ·obtain ⟨j,_,e⟩:=zG2.1 (show x∈(List.range p.Workers.toNat).map (ub p) from zGW hx)
  rw [<-e] at h6
  exact absurd h6 (by show ¬(0:Int)=6;decide)
 ·obtain ⟨r,rfl⟩:=hms x hx
  exact ⟨fun v hv=>(by cases hv),(by show (0:Int)<=(p.H.Objs.length:Int);omega),fun e=>absurd e (by show ¬((0:Int)=3\/(0:Int)=37);decide)⟩
 ·have:o<=(p.H.Objs.length:Int):=h2
  omega
theorem FG.grey {p:zb}{nb k:Nat}{s:za}{gh:Gh}(G:FG p nb k s gh) {o:Int}(h:o∈vV p s gh):xg s.T o=1:=(G.B.gr o).1 h
theorem zxV {p:zb}{s:za}{gh:Gh}{i:Nat}{x:zg}(hx:s.Ws[i]? =some x) {o:Int}(h:o∈zQ s x):o∈vV p s gh :=
 zHk _ (zG7 _ (zIu.2 ⟨x,zGW hx,h⟩))
theorem zxN {p:zb}{s:za}{gh:Gh}{i:Nat}{x:zc}(hx:s.Ms[i]? =some x) {o:Int}(h:o∈zZ s x):o∈vV p s gh :=
 zHk _ (zHk _ (zIu.2 ⟨x,zGW hx,h⟩))
end
end Go.Pe.G
namespace Go.Pe.G
open Go.Pe
noncomputable section
theorem zaZ {l:List Int}(h:l.length<4294967296):yC l=some (uj l,()):=by
 rw [zw8,zwM h];rfl
theorem zoj (g:zx) (h:1<=g.Obj):∃v,u7 g=some (v,())/\zem [v]=some (ym g,()):=by
 rw [zuD,zku]
 simp only [zj]
 have z:zem [0]=some ([],()):=by rw [zxR];rfl
 unfold ym
 by_cases c1:g.Out=0
 ·rw [if_pos c1]
  by_cases c2:3<=g.PC
  ·rw [if_pos c2]
   by_cases c3:g.PC<=7
   ·rw [if_pos c3,if_pos ⟨c1,c2,c3⟩]
    refine ⟨g.Obj,rfl,?_⟩
    rw [zxR]
    unfold zt7
    have:decide (g.Obj=0)=false:=decide_eq_false (by omega)
    simp [this]
   ·rw [if_neg c3,if_neg (fun e=>c3 e.2.2)];exact ⟨0,rfl,z⟩
  ·rw [if_neg c2,if_neg (fun e=>c2 e.2.1)];exact ⟨0,rfl,z⟩
 ·rw [if_neg c1,if_neg (fun e=>c1 e.1)];exact ⟨0,rfl,z⟩
theorem zDo {m:List (BitVec 64)}{p:zb}(hc:p.Cap<1000) (w:Int) (o:zd) {l:List Int}(hl:l.length<4000000) :
  ((yW p w).bind fun y5=>(xT m y5.1 p.Cap o).bind fun y6=>(yh (l++y6.1)).bind fun l7=>(yC l7).bind fun y8=>some (y8.1,()))=some (uj (l++X7 m (zL p w) p.Cap o),()):=by
 have hi:=zBY m (zL p w) p.Cap o
 rw [U4,zGO,zzH hc,zGO,yt (by simp;omega),zGO,zaZ (by simp;omega)];rfl
theorem zCt {p:zb}(h:zB p) {s:za}(hP:s.P=p) {w:Int}{t c:Nat}{l:List Int}{d:zd}(K:PK p s.M w t l c d):zhC s w d=some (ZN s.M d,()):=by
 have hc:=h.cap
 rw [zss,hP]
 unfold ZN
 by_cases c3:d.PC=3
 ·rw [decide_eq_true c3,cond_true,yy]
  by_cases ct:d.T=d.B-1#64
  ·rw [if_pos ct,if_neg (fun e=>e.2 ct),zj,if_neg (show ¬d.PC=6 by omega),if_neg (show ¬d.PC=6 by omega)]
  ·rw [if_neg ct,if_pos ⟨c3,ct⟩,U4,zGO,zj,if_neg ?_]
   ·obtain ⟨b,e⟩:=zuN s.M (w64 ((w64 (zL p w+2))+(((d.B-1#64)%(BitVec.ofInt 64 p.Cap)).toInt))) 0#64 0#64
    have ea:w64 ((w64 (zL p w+2))+(((d.B-1#64)%(BitVec.ofInt 64 p.Cap)).toInt))=Yx d (d.B-1#64):=by
     unfold Yx ug
     rw [K.base,K.size,if_neg (by omega),xk]
    dsimp only
    rw [e,ea];rfl
   ·have hx:p.Cap=1\/p.Cap=2\/p.Cap=3:=by omega
    rcases hx with e | e | e<;>rw [e]<;>decide
 ·rw [decide_eq_false c3,cond_false,zj,if_neg (show ¬(d.PC=3/\d.T≠d.B-1#64) from fun e=>c3 e.1)]
  by_cases c6:d.PC=6
  ·rw [if_pos c6,if_pos c6]
  ·rw [if_neg c6,if_neg c6]
theorem zvs {p:zb}{nb k:Nat}{s:za}{gh:Gh}(G:FG p nb k s gh) {b:Int}(h:1<=b/\b<nb):idx s.Bins b=some (yw s b)/\(yw s b).length<1000000:=by
 have hl:=G.E.S.bins
 have hb:=zGQ (show b.toNat<s.Bins.length by omega)
 have hm:=zHj (show b.toNat<s.Bins.length by omega)
 unfold yw
 rw [va (by omega),hb]
 exact ⟨rfl,G.E.small.bin _ hm⟩
theorem zrF {p:zb}(h:zB p) {nb k:Nat}{s:za}{gh:Gh}(G:FG p nb k s gh) {i:Nat}{x:zg}(hx:s.Ws[i]? =some x):Zi s ((i:Int)+1)=some (uj (zQ s x++gh.D ((i:Int)+1)),()):=by
 have hil:=(zGY.1 hx).1
 have hwl:=G.E.wl
 have hwk:=h.wk
 have hP:=G.E.S.P
 have hcap:=h.cap
 have W:=G.W i x hx
 have O:=G.E.W i x hx
 have hw:1<=(i:Int)+1/\(i:Int)+1<=p.Workers:=by omega
 have D:=G.X.D _ hw.1 hw.2
 have hb:=G.E.small.w x (zGW hx)
 have e1:w64 ((i:Int)+1-1)=(i:Int):=by rw [zW (by omega) (by omega)];omega
 have none0:X7 s.M (zL p ((i:Int)+1)) p.Cap (zd.mk 0 0 0 0 0#64 0#64 0 0)=gh.D ((i:Int)+1)\/x.PC=0:=by
  by_cases p0:x.PC=0
  ·exact .inr p0
  ·refine .inl (zn9 h hw (by have:=W.c0 p0;rw [this] at D;exact D) (fun e=>absurd e.1 (by show ¬(0:Int)=2;decide)))
 rw [zkE,zj,if_neg (by omega),zj,if_neg (by omega),e1,xw hx,zGO,XF (by omega),zGO,hP]
 generalize hwi:(i:Int)+1=w at *
 unfold zQ Up
 have hpc:=O.pc
 have cases10:x.PC=0\/x.PC=1\/x.PC=2\/x.PC=3\/x.PC=4\/x.PC=5\/x.PC=6\/x.PC=7\/x.PC=8\/x.PC=9:=by omega
 have fin:∀ {l:List Int}(o:zd),l.length<4000000->X7 s.M (zL p w) p.Cap o=gh.D w->((yW p w).bind fun y5=>(xT s.M y5.1 p.Cap o).bind fun y6=>(yh (l++y6.1)).bind fun l7=>(yC l7).bind fun y8=>some (y8.1,()))=some (uj (l++gh.D w),()):=fun o hl e=>by
  rw [zDo (by omega) w o hl,e]
 rcases cases10 with c | c | c | c | c | c | c | c | c | c
 all_goals simp only [c,Int.reduceEq,decide_true,decide_false,cond_true,cond_false,if_true,if_false,or_true,or_false,true_or,false_or]
 ·have K:=W.p0 c
  have hpl:(ZN s.M x.D).length<=1:=by
   unfold ZN
   split
   ·simp
   ·split<;>simp
  rw [zCt h hP K,zGO,yt (by simp;omega),zGO]
  exact fin _ (by simp;omega) (zCN h hw D K)
 ·rw [zGR];exact fin _ (by omega) (none0.resolve_right (by omega))
 ·rw [zGR];exact fin _ (by omega) (none0.resolve_right (by omega))
 ·obtain ⟨b1,b2⟩:=zvs G (O.b3 c)
  rw [b1,zGO,yt (by simp;omega),zGO]
  exact fin _ (by simp;omega) (none0.resolve_right (by omega))
 ·rw [zGR];exact fin _ (by omega) (none0.resolve_right (by omega))
 ·rw [yt (by simp;omega),zGO]
  exact fin _ (by simp;omega) (none0.resolve_right (by omega))
 ·obtain ⟨g1,g2,g3,g4⟩:=W.p6 c
  have hob:=g1.ob
  obtain ⟨v,v1,v2⟩:=zoj x.G hob.1
  have hhl:(ym x.G).length<=1:=by unfold ym;split<;>simp
  rw [yt (by simp;omega),zGO,v1,zGO]
  dsimp only
  rw [v2,zGO,yt (by simp;omega),zGO]
  have ea:x.Batch++x.Obj::ym x.G=x.Batch++[x.Obj]++ym x.G:=by simp
  rw [ea,zj]
  by_cases g3':x.G.PC=3
  ·rw [if_pos g3']
   have:=(g1.d3 g3' g4).2.2.kind
   exact fin _ (by simp;omega) (zn9 h hw (by have:=W.c0 (by omega);rw [this] at D;exact D) (fun e=>by have:=e.1;omega))
  ·rw [if_neg g3']
   exact fin _ (by simp;omega) (none0.resolve_right (by omega))
 ·rw [zGR];exact fin _ (by omega) (none0.resolve_right (by omega))
 ·rw [yt (by simp;omega),zGO]
  exact fin _ (by simp;omega) (none0.resolve_right (by omega))
 ·rw [zGR];exact fin _ (by omega) (none0.resolve_right (by omega))
theorem zpg {p:zb}(h:zB p) {nb k:Nat}{s:za}{gh:Gh}(G:FG p nb k s gh) {i:Nat}{x:zc}(hx:s.Ms[i]? =some x):XT s ((i:Int)+1)=some (uj (zZ s x),()):=by
 have hil:=(zGY.1 hx).1
 have hml:=G.E.ml
 have hmt:=h.mt
 have W:=G.M i x hx
 have O:=G.E.X i x hx
 have hb:=(G.E.small.mu x (zGW hx)).2.2
 have e1:w64 ((i:Int)+1-1)=(i:Int):=by rw [zW (by omega) (by omega)];omega
 have hhl:(ym x.G).length<=1:=by unfold ym;split<;>simp
 rw [zq2,zj,if_neg (by omega),zj,if_neg (by omega),e1,xw hx,zGO,XF (by omega),zGO]
 unfold zZ zbG
 have nog:x.PC≠3/\x.PC≠37->ut x=some (false,()):=fun e=>by rw [zdr,decide_eq_false e.1,decide_eq_false e.2];rfl
 have ysg:x.PC=3\/x.PC=37->ut x=some (true,()):=fun e=>by
  rw [zdr]
  by_cases c:x.PC=3
  ·rw [decide_eq_true c];rfl
  ·rw [decide_eq_false c,decide_eq_true (e.resolve_left c)];rfl
 by_cases c33:x.PC=33
 ·obtain ⟨b1,b2⟩:=zvs G (O.b33 c33)
  have h36: ¬(36:Int)<=x.PC:=by omega
  rw [decide_eq_true c33,cond_true,b1,zGO,yt (by simp;omega),zGO,decide_eq_false h36,cond_false,nog (by omega),zGO,cond_false,zaZ (by simp;omega),if_pos c33];rfl
 rw [decide_eq_false c33,cond_false,if_neg c33]
 by_cases c3:x.PC=3
 ·obtain ⟨v,v1,v2⟩:=zoj x.G (W.p3 c3).1.ob.1
  have h36: ¬(36:Int)<=x.PC:=by omega
  rw [decide_eq_false h36,cond_false,ysg (.inl c3),zGO,cond_true,v1,zGO]
  dsimp only
  rw [v2,zGO,yt (by simp;omega),zGO,zaZ (by simp;omega),if_neg (by omega),if_neg (by omega),if_pos c3];rfl
 by_cases c36:36<=x.PC/\x.PC<=38
 ·rw [decide_eq_true c36.1,cond_true,decide_eq_true c36.2,cond_true,yt (by simp;omega),zGO]
  by_cases c37:x.PC=37
  ·obtain ⟨v,v1,v2⟩:=zoj x.G (W.p37 c37).1.ob.1
   rw [ysg (.inr c37),zGO,cond_true,v1,zGO]
   dsimp only
   rw [v2,zGO,yt (by simp;omega),zGO,zaZ (by simp;omega),if_neg (by omega),if_pos c37]
   have ea:x.Batch++x.Obj::ym x.G=x.Batch++[x.Obj]++ym x.G:=by simp
   rw [ea];rfl
  ·rw [nog ⟨c3,c37⟩,zGO,cond_false,zaZ (by simp;omega),if_pos (by omega)];rfl
 ·rw [if_neg (by omega),if_neg (by omega),if_neg c3,zGR]
  by_cases h36:36<=x.PC
  ·have h38: ¬x.PC<=38:=fun e=>c36 ⟨h36,e⟩
   rw [decide_eq_true h36,cond_true,decide_eq_false h38,cond_false,nog (by omega),zGO,cond_false,zaZ (show x.Batch.length<4294967296 by omega)];rfl
  ·rw [decide_eq_false h36,cond_false,nog (by omega),zGO,cond_false,zaZ (show x.Batch.length<4294967296 by omega)];rfl
end
end Go.Pe.G
namespace Go.Pe.G
open Go.Pe
noncomputable section
def owG (g:zx):Int:=if g.Out=0/\(g.PC=1\/g.PC=2) then 1 else 0
def owW (x:zg):Int:=if x.PC=9 then 1 else if x.PC=6 then owG x.G else 0
def owX (x:zc):Int:=if x.PC=39 then 1 else if x.PC=3\/x.PC=37 then owG x.G else 0
theorem zCb (g:zx):0<=owG g/\owG g<=1:=by unfold owG;split<;>decide
theorem zzf (x:zg):0<=owW x/\owW x<=1:=by
 unfold owW
 split
 ·decide
 split
 ·exact zCb _
 ·decide
theorem zx7 (x:zc):0<=owX x/\owX x<=1:=by
 unfold owX
 split
 ·decide
 split
 ·exact zCb _
 ·decide
theorem Yd {g:zx}(h:g.Out≠0\/(g.PC≠1/\g.PC≠2)):owG g=0:=by unfold owG;rw [if_neg (by omega)]
theorem ztW {g:zx}(h:g.Out=0) (h2:g.PC=1\/g.PC=2):owG g=1:=by unfold owG;rw [if_pos ⟨h,h2⟩]
theorem zBR (t:zo) (o:Int):((uf t o).2=false/\(uf t o).1=t)\/((uf t o).2=true/\¬(t.Marks|||bit o=t.Marks)/\(uf t o).1={t with Marks:=t.Marks|||bit o}):=by
 unfold uf
 split
 ·exact .inl ⟨rfl,rfl⟩
 split
 ·rename_i h _;exact .inr ⟨rfl,h,rfl⟩
 ·exact .inl ⟨rfl,rfl⟩
theorem zwj {p:zb}{s:za}{gh:Gh}{g:zx}(G:GX p s gh g) (g0:g.Out=0) (hw:0<=s.Work/\s.Work<=4294970000) :
  ((zt s g).1.T=s.T/\(zt s g).1.Work=s.Work+owG (zt s g).2-owG g) \/
  (¬(s.T.Marks|||bit g.Obj=s.T.Marks)/\(zt s g).1.T={s.T with Marks:=s.T.Marks|||bit g.Obj}/\(zt s g).1.Work=s.Work+owG (zt s g).2-owG g+1):=by
 have hpc:=G.pc
 have hmd:=G.md
 unfold zt
 rw [if_neg (by omega)]
 by_cases c7:g.PC=7
 ·rw [if_pos c7]
  unfold zcy;dsimp only
  left;refine ⟨rfl,?_⟩
  rw [Yd (g:=g) (by omega),Yd (by split<;>(dsimp only;omega))];omega
 rw [if_neg c7]
 by_cases c6:g.PC=6
 ·rw [if_pos c6]
  left;refine ⟨rfl,?_⟩
  rw [Yd (g:=g) (by omega),Yd (by show _\/((7:Int)≠1/\(7:Int)≠2);omega)]
  show s.Work=_;omega
 rw [if_neg c6]
 by_cases c5:g.PC=5
 ·rw [if_pos c5]
  unfold zlK zhV;dsimp only
  left;refine ⟨rfl,?_⟩
  rw [Yd (g:=g) (by omega),Yd (by (repeat' split)<;>(dsimp only;omega))];omega
 rw [if_neg c5]
 by_cases c4:g.PC=4
 ·rw [if_pos c4]
  left;refine ⟨rfl,?_⟩
  rw [Yd (g:=g) (by omega),Yd (by show _\/((5:Int)≠1/\(5:Int)≠2);omega)]
  show s.Work=_;omega
 rw [if_neg c4]
 by_cases c3:g.PC=3
 ·rw [if_pos c3]
  unfold zlj zhV;dsimp only
  left;refine ⟨rfl,?_⟩
  rw [Yd (g:=g) (by omega),Yd (by (repeat' split)<;>(dsimp only;omega))];omega
 rw [if_neg c3]
 by_cases c2:g.PC=2
 ·rw [if_pos c2]
  left;refine ⟨rfl,?_⟩
  rw [ztW g0 (.inr c2),Yd (by show (1:Int)≠0\/_;omega)]
  show wc (s.Work-1)=_
  rw [xS (by omega) (by omega)];omega
 rw [if_neg c2]
 by_cases c1:g.PC=1
 ·rw [if_pos c1]
  unfold zlA;dsimp only
  rw [ztW g0 (.inl c1)]
  rcases zBR s.T g.Obj with ⟨a,b⟩ | ⟨a,b,c⟩
  ·left
   refine ⟨b,?_⟩
   rw [if_pos a,ztW (by dsimp only;exact g0) (.inr rfl)];omega
  ·right
   refine ⟨b,c,?_⟩
   rw [if_neg (by rw [a];decide)]
   unfold zhV
   rw [Yd (by (repeat' split)<;>(dsimp only;omega))];omega
 rw [if_neg c1]
 left;refine ⟨rfl,?_⟩
 rw [Yd (g:=g) (by omega),ztW (by dsimp only;exact g0) (.inl rfl)]
 show wc (s.Work+1)=_
 rw [xS (by omega) (by omega)];omega
theorem zoC {t:zo}{o:Int}(h:xg t o=1):wC t o≠t:=by
 have hb:=(ux t o).1 h
 have hr:=zbd h
 unfold wC
 rw [if_pos h]
 intro e
 have e:=congrArg zo.Black e
 exact hb.2 (by rw [<-e];exact (wq _ hr o).2 (.inr rfl))
theorem zed {t:zo}{o:Int}(h: ¬(t.Marks|||bit o=t.Marks)):({t with Marks:=t.Marks|||bit o}:zo)≠t:=fun e=>h (congrArg zo.Marks e)
theorem zCP {p:zb}{nb:Nat}{s:za}{gh:Gh}{w:Int}{x:zg}(W:WX p s gh w x) (O:WOk p nb w x) (hw:0<=s.Work/\s.Work<=4294970000) (h8:x.PC=8->xg s.T x.Obj=1) {N C:List Int}
  (hT:(N=[]/\C=[]/\(zu s w x).1.T=s.T)\/(N=[x.G.Obj]/\C=[]/\x.PC=6/\¬(s.T.Marks|||bit x.G.Obj=s.T.Marks)/\(zu s w x).1.T={s.T with Marks:=s.T.Marks|||bit x.G.Obj})\/(N=[]/\C=[x.Obj]/\x.PC=8/\(zu s w x).1.T=wC s.T x.Obj)) :
  (zu s w x).1.Work=s.Work+owW (zu s w x).2-owW x+(N.length:Int)-(C.length:Int):=by
 have hpc:=O.pc
 revert hT
 have ob:∀y:zg,owW (V0 s.P w y)=0:=fun y=>rfl
 have ol:∀y:zg,owW (ZF s.P w y)=0:=fun y=>by unfold ZF;split<;>rfl
 have quiet:∀ {t:za}{y:zg},(N=[]/\C=[]/\t.T=s.T)\/(N=[x.G.Obj]/\C=[]/\x.PC=6/\¬(s.T.Marks|||bit x.G.Obj=s.T.Marks)/\t.T={s.T with Marks:=s.T.Marks|||bit x.G.Obj})\/(N=[]/\C=[x.Obj]/\x.PC=8/\t.T=wC s.T x.Obj) ->
   x.PC≠6->x.PC≠8->t.Work=s.Work+owW y-owW x->t.Work=s.Work+owW y-owW x+(N.length:Int)-(C.length:Int):=by
  rintro t y (⟨e1,e2,_⟩ | ⟨_,_,e,_⟩ | ⟨_,_,e,_⟩) h1 h2 h
  ·rw [e1,e2];simp only [zHF];omega
  ·omega
  ·omega
 have o0:x.PC≠9->x.PC≠6->owW x=0:=fun h1 h2=>by unfold owW;rw [if_neg h1,if_neg h2]
 unfold zu
 split
 ·rename_i c
  intro hT
  refine quiet hT (by omega) (by omega) ?_
  rw [o0 (by omega) (by omega)]
  show s.Work=_
  dsimp only
  split
  ·show s.Work=s.Work+0-0;omega
  split
  ·rw [ol];omega
  ·rw [show owW {x with D:=(zU s.M x.D).2}=owW x from rfl,o0 (by omega) (by omega)];omega
 split
 ·intro hT
  refine quiet hT (by omega) (by omega) ?_
  rw [o0 (by omega) (by omega)]
  show s.Work=_
  dsimp only
  split
  ·rw [show ∀b c,owW {x with C:=c,Bin:=b,PC:=3}=0 from fun _ _=>rfl];omega
  split
  ·rw [ob];omega
  ·rw [show owW {x with C:=(zm s.M x.C).2}=owW x from rfl,o0 (by omega) (by omega)];omega
 split
 ·intro hT
  refine quiet hT (by omega) (by omega) ?_
  rw [o0 (by omega) (by omega)]
  show s.Work=s.Work+0-0;omega
 split
 ·intro hT
  refine quiet hT (by omega) (by omega) ?_
  rw [o0 (by omega) (by omega)]
  show s.Work=_
  dsimp only
  split
  ·rw [show ∀c,owW {x with PC:=7,C:=c,Bin:=0}=0 from fun _=>rfl];omega
  ·rw [show owW {x with C:=(zm s.M x.C).2}=owW x from rfl,o0 (by omega) (by omega)];omega
 split
 ·intro hT
  refine quiet hT (by omega) (by omega) ?_
  rw [o0 (by omega) (by omega)]
  dsimp only
  split
  ·have:∀y,owW {x with Slot:=y,PC:=onW s y}=0:=fun y=>by
    unfold owW
    rcases zj4 s y with e | e<;>rw [if_neg (by dsimp only;omega),if_neg (by dsimp only;omega)]
   rw [this];omega
  ·rw [show ∀y v,owW {x with Slot:=y,PC:=6,G:=ZU 1 v w}=0 from fun _ _=>rfl];omega
 split
 ·rename_i c
  intro hT
  obtain ⟨G,gm,gw,g0⟩:=W.p6 c
  have e1:owW x=owG x.G:=by unfold owW;rw [if_neg (by omega),if_pos c]
  have e2:owW (if (zt s x.G).2.Out=1 then {x with G:=(zt s x.G).2,PC:=onW s x.Slot} else {x with G:=(zt s x.G).2})=owG (zt s x.G).2:=by
   split
   ·rename_i o
    rw [Yd (.inl (by omega))]
    unfold owW
    rcases zj4 s x.Slot with e | e<;>rw [if_neg (by dsimp only;omega),if_neg (by dsimp only;omega)]
   ·unfold owW;rw [if_neg (by dsimp only;omega),if_pos c]
  dsimp only at hT ⊢
  rw [e1,e2]
  rcases zwj G g0 hw with ⟨a,b⟩ | ⟨a,b,d⟩
  ·rcases hT with ⟨n1,n2,_⟩ | ⟨_,_,_,n3,n4⟩ | ⟨_,_,e,_⟩
   ·rw [n1,n2,b];simp only [zHF];omega
   ·exact absurd (n4.symm.trans a) (zed n3)
   ·omega
  ·rcases hT with ⟨n1,n2,n3⟩ | ⟨n1,n2,_,n3,n4⟩ | ⟨_,_,e,_⟩
   ·exact absurd (b.symm.trans n3) (zed a)
   ·rw [n1,n2,d];simp only [zHF,zG8];omega
   ·omega
 split
 ·intro hT
  refine quiet hT (by omega) (by omega) ?_
  rw [o0 (by omega) (by omega)]
  dsimp only
  split
  ·rw [ob];omega
  ·rw [show ∀o l,owW {x with PC:=5,Obj:=o,Slot:=0,Batch:=l}=0 from fun _ _=>rfl];omega
 split
 ·rename_i c
  intro hT
  have e0:owW x=0:=o0 (by omega) (by omega)
  rw [e0]
  rcases hT with ⟨_,_,e⟩ | ⟨_,_,e,_⟩ | ⟨n1,n2,_,_⟩
  ·exact absurd e (zoC (h8 c))
  ·omega
  ·rw [n1,n2]
   show s.Work=s.Work+1-0+0-1
   omega
 split
 ·rename_i c
  intro hT
  refine quiet hT (by omega) (by omega) ?_
  have e1:owW x=1:=by unfold owW;rw [if_pos c]
  rw [e1]
  show wc (s.Work-1)=s.Work+0-1
  rw [xS (by omega) (by omega)];omega
 ·intro hT;omega
theorem zEp {p:zb}{nb:Nat}{s:za}{gh:Gh}{m:Int}{x:zc}(W:MX p s gh x) (O:XOk p nb m x) (hw:0<=s.Work/\s.Work<=4294970000) (h8:x.PC=38->xg s.T x.Obj=1) {N C:List Int}
  (hT:(N=[]/\C=[]/\(zp s m x).1.T=s.T)\/(N=[x.G.Obj]/\C=[]/\(x.PC=3\/x.PC=37)/\¬(s.T.Marks|||bit x.G.Obj=s.T.Marks)/\(zp s m x).1.T={s.T with Marks:=s.T.Marks|||bit x.G.Obj})\/(N=[]/\C=[x.Obj]/\x.PC=38/\(zp s m x).1.T=wC s.T x.Obj) \/
   (N=[]/\C=[]/\x.PC=30/\XN s.H s.P.Most=true/\(zp s m x).1.H=wW s.H/\(zp s m x).1.T=Xo s.T (wc (s.H.Objs.length+1)))) :
  (zp s m x).1.Work=s.Work+owX (zp s m x).2-owX x+(N.length:Int)-(C.length:Int):=by
 have hpc:=O.pc
 have hrt:=O.ret
 have calm:∀ {r:za×zc},(N=[]/\C=[]/\r.1.T=s.T)\/(N=[x.G.Obj]/\C=[]/\(x.PC=3\/x.PC=37)/\¬(s.T.Marks|||bit x.G.Obj=s.T.Marks)/\r.1.T={s.T with Marks:=s.T.Marks|||bit x.G.Obj})\/(N=[]/\C=[x.Obj]/\x.PC=38/\r.1.T=wC s.T x.Obj) \/
   (N=[]/\C=[]/\x.PC=30/\XN s.H s.P.Most=true/\r.1.H=wW s.H/\r.1.T=Xo s.T (wc (s.H.Objs.length+1))) ->
   x.PC≠3->x.PC≠37->x.PC≠38->r.1.Work=s.Work+owX r.2-owX x->r.1.Work=s.Work+owX r.2-owX x+(N.length:Int)-(C.length:Int):=by
  rintro r (⟨e1,e2,_⟩ | ⟨_,_,e,_⟩ | ⟨_,_,e,_⟩ | ⟨e1,e2,_⟩) h1 h2 h3 h
  ·rw [e1,e2];simp only [zHF];omega
  ·omega
  ·omega
  ·rw [e1,e2];simp only [zHF];omega
 have o0:∀ {y:zc},y.PC≠39->y.PC≠3->y.PC≠37->owX y=0:=fun h1 h2 h3=>by unfold owX;rw [if_neg h1,if_neg (by omega)]
 have og:∀(y:zc) (k a b:Int),owX {y with PC:=3,G:=ZU k a b}=0:=fun y k a b=>by unfold owX;rw [if_neg (by dsimp only;omega),if_pos (.inl rfl)];exact Yd (.inr ⟨by show (0:Int)≠1;decide,by show (0:Int)≠2;decide⟩)
 have gq:∀(N C:List Int) (G:GX p s gh x.G) (g0:x.G.Out=0) (hT:(N=[]/\C=[]/\(zt s x.G).1.T=s.T)\/(N=[x.G.Obj]/\C=[]/\(x.PC=3\/x.PC=37)/\¬(s.T.Marks|||bit x.G.Obj=s.T.Marks)/\(zt s x.G).1.T={s.T with Marks:=s.T.Marks|||bit x.G.Obj})),
   (zt s x.G).1.Work=s.Work+owG (zt s x.G).2-owG x.G+(N.length:Int)-(C.length:Int):=by
  intro N C G g0 hT
  rcases zwj G g0 hw with ⟨a,b⟩ | ⟨a,b,d⟩
  ·rcases hT with ⟨n1,n2,_⟩ | ⟨_,_,_,n3,n4⟩
   ·rw [n1,n2,b];simp only [zHF];omega
   ·exact absurd (n4.symm.trans a) (zed n3)
  ·rcases hT with ⟨n1,n2,n3⟩ | ⟨n1,n2,_,n3,n4⟩
   ·exact absurd (b.symm.trans n3) (zed a)
   ·rw [n1,n2,d];simp only [zHF,zG8];omega
 revert hT
 refine wu (motive:=fun r=>((N=[]/\C=[]/\r.1.T=s.T)\/(N=[x.G.Obj]/\C=[]/\(x.PC=3\/x.PC=37)/\¬(s.T.Marks|||bit x.G.Obj=s.T.Marks)/\r.1.T={s.T with Marks:=s.T.Marks|||bit x.G.Obj})\/(N=[]/\C=[x.Obj]/\x.PC=38/\r.1.T=wC s.T x.Obj) \/
   (N=[]/\C=[]/\x.PC=30/\XN s.H s.P.Most=true/\r.1.H=wW s.H/\r.1.T=Xo s.T (wc (s.H.Objs.length+1)))) ->
   r.1.Work=s.Work+owX r.2-owX x+(N.length:Int)-(C.length:Int)) s m x ?_ ?_ ?_ ?_ ?_ ?_ ?_ ?_ ?_ ?_ ?_ ?_ ?_ ?_ ?_ ?_ ?_ ?_ ?_ ?_
 ·intro c hT
  refine calm hT (by omega) (by omega) (by omega) ?_
  rw [o0 (y:=x) (by omega) (by omega) (by omega)]
  unfold mu0 UV
  repeat' split
  all_goals (rw [o0 (by (try dsimp only [setM]);omega) (by (try dsimp only [setM]);omega) (by (try dsimp only [setM]);omega)];dsimp only;omega)
 ·intro c hT
  refine calm hT (by omega) (by omega) (by omega) ?_
  rw [o0 (y:=x) (by omega) (by omega) (by omega)]
  unfold mu1;dsimp only
  split
  ·have:=hrt (.inl c)
   rw [o0 (by dsimp only;omega) (by dsimp only;omega) (by dsimp only;omega)];omega
  ·have e:∀l,owX {x with PC:=3,Buf:=l,G:=ZU 2 (x.Buf.getD (x.Buf.length-1) 0) m}=0:=fun l=>og {x with Buf:=l} 2 _ m
   rw [e];omega
 ·intro c hT
  refine calm hT (by omega) (by omega) (by omega) ?_
  rw [o0 (y:=x) (by omega) (by omega) (by omega)]
  show s.Work=s.Work+0-0;omega
 ·intro c hT
  obtain ⟨G,gm,g0⟩:=W.p3 c
  have e1:owX x=owG x.G:=by unfold owX;rw [if_neg (by omega),if_pos (.inl c)]
  unfold mu3 at hT ⊢
  dsimp only at hT ⊢
  have e2:owX (if (zt s x.G).2.Out=1 then {x with PC:=1,G:=(zt s x.G).2} else {x with G:=(zt s x.G).2})=owG (zt s x.G).2:=by
   split
   ·rename_i o
    rw [Yd (.inl (by omega)),o0 (by dsimp only;omega) (by dsimp only;omega) (by dsimp only;omega)]
   ·unfold owX;rw [if_neg (by dsimp only;omega),if_pos (.inl c)]
  rw [e1,e2]
  refine gq N C G g0 ?_
  rcases hT with h | h | ⟨_,_,e,_⟩ | ⟨_,_,e,_⟩
  ·exact .inl h
  ·exact .inr h
  ·omega
  ·omega
 ·intro c hT
  refine calm hT (by omega) (by omega) (by omega) ?_
  rw [o0 (y:=x) (by omega) (by omega) (by omega)]
  show s.Work=s.Work+0-0;omega
 ·intro c hT
  refine calm hT (by omega) (by omega) (by omega) ?_
  rw [o0 (y:=x) (by omega) (by omega) (by omega)]
  unfold zeZ;dsimp only
  split<;>(rw [o0 (by dsimp only [vg];omega) (by dsimp only [vg];omega) (by dsimp only [vg];omega)];omega)
 ·intro c hT
  refine calm hT (by omega) (by omega) (by omega) ?_
  rw [o0 (y:=x) (by omega) (by omega) (by omega)]
  unfold zfQ;dsimp only
  split<;>(rw [o0 (by dsimp only;omega) (by dsimp only;omega) (by dsimp only;omega)];omega)
 ·intro c hT
  refine calm hT (by omega) (by omega) (by omega) ?_
  rw [o0 (y:=x) (by omega) (by omega) (by omega)]
  unfold zfV;dsimp only
  split<;>(rw [o0 (by dsimp only;omega) (by dsimp only;omega) (by dsimp only;omega)];omega)
 ·intro c hT
  refine calm hT (by omega) (by omega) (by omega) ?_
  rw [o0 (y:=x) (by omega) (by omega) (by omega)]
  show s.Work=s.Work+0-0;omega
 ·intro c hT
  refine calm hT (by omega) (by omega) (by omega) ?_
  rw [o0 (y:=x) (by omega) (by omega) (by omega)]
  unfold za1
  split
  ·split
   ·show s.Work=s.Work+0-0;omega
   ·show s.Work=s.Work+0-0;omega
  ·show s.Work=s.Work+0-0;omega
 ·intro c hT
  refine calm hT (by omega) (by omega) (by omega) ?_
  rw [o0 (y:=x) (by omega) (by omega) (by omega)]
  unfold zfE;dsimp only
  split<;>(rw [o0 (by dsimp only;omega) (by dsimp only;omega) (by dsimp only;omega)];omega)
 ·intro c hT
  refine calm hT (by omega) (by omega) (by omega) ?_
  rw [o0 (y:=x) (by omega) (by omega) (by omega)]
  unfold zfJ;dsimp only
  split
  ·rw [o0 (by dsimp only;omega) (by dsimp only;omega) (by dsimp only;omega)];omega
  split<;>(rw [o0 (by dsimp only;omega) (by dsimp only;omega) (by dsimp only;omega)];omega)
 ·intro c hT
  refine calm hT (by omega) (by omega) (by omega) ?_
  rw [o0 (y:=x) (by omega) (by omega) (by omega)]
  show s.Work=s.Work+0-0;omega
 ·intro c hT
  refine calm hT (by omega) (by omega) (by omega) ?_
  rw [o0 (y:=x) (by omega) (by omega) (by omega)]
  unfold zf0;dsimp only
  split<;>(rw [o0 (by dsimp only;omega) (by dsimp only;omega) (by dsimp only;omega)];omega)
 ·intro c hT
  refine calm hT (by omega) (by omega) (by omega) ?_
  rw [o0 (y:=x) (by omega) (by omega) (by omega)]
  unfold zfc;dsimp only
  split<;>(rw [o0 (by dsimp only;omega) (by dsimp only;omega) (by dsimp only;omega)];omega)
 ·intro c hT
  refine calm hT (by omega) (by omega) (by omega) ?_
  rw [o0 (y:=x) (by omega) (by omega) (by omega)]
  unfold zfm;dsimp only
  split
  ·have:=zbZ s (wc (x.Slot+1))
   rw [o0 (by dsimp only;omega) (by dsimp only;omega) (by dsimp only;omega)];omega
  ·have e:∀y v,owX {x with Slot:=y,PC:=37,G:=ZU 3 v m}=0:=fun y v=>by unfold owX;rw [if_neg (by dsimp only;omega),if_pos (.inr rfl)];exact Yd (.inr ⟨by show (0:Int)≠1;decide,by show (0:Int)≠2;decide⟩)
   rw [e];omega
 ·intro c hT
  obtain ⟨G,gm,g0⟩:=W.p37 c
  have e1:owX x=owG x.G:=by unfold owX;rw [if_neg (by omega),if_pos (.inr c)]
  unfold zbH at hT ⊢
  dsimp only at hT ⊢
  have e2:owX (if (zt s x.G).2.Out=1 then {x with G:=(zt s x.G).2,PC:=onM s x.Slot} else {x with G:=(zt s x.G).2})=owG (zt s x.G).2:=by
   split
   ·rename_i o
    have:=zbZ s x.Slot
    rw [Yd (.inl (by omega)),o0 (by dsimp only;omega) (by dsimp only;omega) (by dsimp only;omega)]
   ·unfold owX;rw [if_neg (by dsimp only;omega),if_pos (.inr c)]
  rw [e1,e2]
  refine gq N C G g0 ?_
  rcases hT with h | h | ⟨_,_,e,_⟩ | ⟨_,_,e,_⟩
  ·exact .inl h
  ·exact .inr h
  ·omega
  ·omega
 ·intro c hT
  rw [o0 (y:=x) (by omega) (by omega) (by omega)]
  rcases hT with ⟨_,_,e⟩ | ⟨_,_,e,_⟩ | ⟨n1,n2,_,_⟩ | ⟨_,_,e,_⟩
  ·exact absurd e (zoC (h8 c))
  ·omega
  ·rw [n1,n2]
   show s.Work=s.Work+1-0+0-1
   omega
  ·omega
 ·intro c hT
  refine calm hT (by omega) (by omega) (by omega) ?_
  have e1:owX x=1:=by unfold owX;rw [if_pos c]
  rw [e1]
  show wc (s.Work-1)=s.Work+0-1
  rw [xS (by omega) (by omega)];omega
 ·intro hT
  rcases hT with ⟨n1,n2,_⟩ | ⟨_,_,_,n3,n4⟩ | ⟨n1,n2,c,e⟩ | ⟨n1,n2,_⟩
  ·rw [n1,n2];simp only [zHF];omega
  ·exact absurd n4.symm (zed n3)
  ·exact absurd e.symm (zoC (h8 c))
  ·rw [n1,n2];simp only [zHF];omega
end
end Go.Pe.G
namespace Go.Pe.G
open Go.Pe
noncomputable section
def zag (s:za):Int:=(s.Ws.map owW).sum+(s.Ms.map owX).sum
theorem zyN:∀ {l:List Int},(∀v∈l,0<=v)->0<=l.sum
 | [],_=>by simp
 | a::l,h=>by
  have:=zyN (l:=l) (fun v hv=>h v (zGX _ hv))
  have:=h a (zHc ..)
  rw [List.sum_cons];omega
theorem zFW (s:za):0<=zag s:=by
 have h1:0<=(s.Ws.map owW).sum:=zyN (fun v hv=>by obtain ⟨x,_,rfl⟩:=zG2.1 hv;exact (zzf x).1)
 have h2:0<=(s.Ms.map owX).sum:=zyN (fun v hv=>by obtain ⟨x,_,rfl⟩:=zG2.1 hv;exact (zx7 x).1)
 unfold zag;omega
theorem zyI {α:Type}{f:α->Int}{l:List α}{i:Nat}{x:α}(h:l[i]? =some x) (y:α):((l.set i y).map f).sum=(l.map f).sum-f x+f y:=by
 have hi:=(zGY.1 h).1
 rw [List.map_set,zAy _ _ _ (by simpa using hi)]
 rw [zGS,zHi,h]
 rfl
structure EG (p:zb) (nb k:Nat) (s:za) (gh:Gh):Prop where
 G:FG p nb k s gh
 wk:s.Work=((vV p s gh).length:Int)+zag s
 le:s.Work<=2*(k:Int)+100
theorem EG.work_nn {p:zb}{nb k:Nat}{s:za}{gh:Gh}(I:EG p nb k s gh):0<=s.Work:=by
 have:=I.wk;have:=zFW s;omega
theorem zwQ (s:za):({xu s with Epoch:=s.Epoch,Flag:=s.Flag,Done:=s.Done,Restarts:=s.Restarts,D:=s.D}:za)=s:=by
 unfold xu
 repeat' split
 all_goals rfl
theorem FG.more {p:zb}{nb k:Nat}{s:za}{gh:Gh}(G:FG p nb k s gh):FG p nb (k+1) s gh:=⟨G.E,G.X.quiet G.E.S rfl,G.W,G.M,G.B,G.mrk,G.wob,G.buf,G.bk,G.ne⟩
theorem EG.more {p:zb}{nb k:Nat}{s:za}{gh:Gh}(I:EG p nb k s gh):EG p nb (k+1) s gh:=⟨I.G.more,I.wk,by have:=I.le;omega⟩
theorem EG.det {p:zb}(hp:zB p) {nb k:Nat}{s:za}{gh:Gh}(I:EG p nb k s gh):EG p nb (k+1) (xu s) gh/\Ur s (xu s):=by
 have hd:=zwQ s
 have eM:(xu s).M=s.M:=by conv=>rhs;rw [<-hd]
 have eB:(xu s).Bins=s.Bins:=by conv=>rhs;rw [<-hd]
 have eT:(xu s).T=s.T:=by conv=>rhs;rw [<-hd]
 have eH:(xu s).H=s.H:=by conv=>rhs;rw [<-hd]
 have eW:(xu s).Ws=s.Ws:=by conv=>rhs;rw [<-hd]
 have eX:(xu s).Ms=s.Ms:=by conv=>rhs;rw [<-hd]
 have eK:(xu s).Work=s.Work:=by conv=>rhs;rw [<-hd]
 have e:vV p (xu s) gh=vV p s gh:=by
  unfold vV
  rw [eW,eX,uO eB,wa (fun x _=>zgs (x:=x) eM eB),wa (fun x _=>zgk (x:=x) eB)]
 have e2:zag (xu s)=zag s:=by unfold zag;rw [eW,eX]
 exact ⟨⟨I.G.det hp hd,by rw [e,e2,eK];exact I.wk,by rw [eK];have:=I.le;omega⟩,.inl ⟨eT,by rw [eH]⟩⟩
theorem EG.worker {p:zb}(hp:zB p) {nb k:Nat}{s:za}{gh:Gh}(hk:k<2147480000) (I:EG p nb k s gh) {w:Int}(hw:1<=w/\w<=p.Workers) (hd:s.Done=false):∃gh',EG p nb (k+1) (z9 s w) gh'/\Ur s (z9 s w):=by
 obtain ⟨gh',G',F,x,hx,N,C,hbag,hT⟩:=I.G.worker hp (by omega) hw hd
 have hwl:=I.G.E.wl
 have ei:(((w-1).toNat:Nat):Int)+1=w:=by omega
 have hWX:=I.G.W _ x hx
 have hWO:=I.G.E.W _ x hx
 rw [ei] at hWX hWO
 have h8:x.PC=8->xg s.T x.Obj=1:=fun e=>I.G.grey (zxV hx (by unfold zQ;rw [Wl (.inr e)];simp))
 have hnn:=I.work_nn
 have hle:=I.le
 have hW:=zCP hWX hWO (by omega) h8 hT
 have hlen:=hbag.length_eq
 rw [zG1,zG1] at hlen
 have eS:z9 s w={(zu s w x).1 with Ws:=s.Ws.set (w-1).toNat (zu s w x).2}:=by
  unfold z9
  rw [if_neg (by rw [hd];rintro (e | e | e)<;>first | cases e | omega),hx]
 have eK:(z9 s w).Work=(zu s w x).1.Work:=by rw [eS]
 have eX:(z9 s w).Ms=s.Ms:=by rw [eS];show (zu s w x).1.Ms=_;rw [znN hWO]
 have eW:(z9 s w).Ws=s.Ws.set (w-1).toNat (zu s w x).2:=by rw [eS]
 have ho:zag (z9 s w)=zag s-owW x+owW (zu s w x).2:=by
  unfold zag
  rw [eX,eW,zyI hx];omega
 have hwk:=I.wk
 have hN:N.length<=1:=by rcases hT with ⟨e,_⟩ | ⟨e,_⟩ | ⟨e,_⟩<;>rw [e]<;>simp
 have o1:=zzf x
 have o2:=zzf (zu s w x).2
 refine ⟨gh',⟨G',by rw [eK,hW,ho];omega,?_⟩,F⟩
 rw [eK,hW]
 omega
theorem EG.mutator {p:zb}(hp:zB p) {nb k:Nat}{s:za}{gh:Gh}(hk:k<2147480000) (I:EG p nb k s gh) {m:Int}(hm:1<=m/\m<=p.Mutators) (hd:s.Done=false):∃gh',EG p nb (k+1) (zY s m) gh'/\Ur s (zY s m):=by
 obtain ⟨gh',G',F,x,hx,N,C,hbag,hT⟩:=I.G.mutator hp (by omega) hm hd
 have hml:=I.G.E.ml
 have ei:(((m-1).toNat:Nat):Int)+1=m:=by omega
 have hMX:=I.G.M _ x hx
 have hXO:=I.G.E.X _ x hx
 rw [ei] at hXO
 have h8:x.PC=38->xg s.T x.Obj=1:=fun e=>I.G.grey (zxN hx (by unfold zZ;rw [VU (.inr e)];simp))
 have hnn:=I.work_nn
 have hle:=I.le
 have hW:=zEp (m:=m) hMX hXO (by omega) h8 hT
 have hlen:=hbag.length_eq
 rw [zG1,zG1] at hlen
 have eS:zY s m={(zp s m x).1 with Ms:=s.Ms.set (m-1).toNat (zp s m x).2}:=by
  unfold zY
  rw [if_neg (by rw [hd];rintro (e | e | e)<;>first | cases e | omega),hx]
 have eK:(zY s m).Work=(zp s m x).1.Work:=by rw [eS]
 have eW:(zY s m).Ws=s.Ws:=by rw [eS];show (zp s m x).1.Ws=_;rw [zp1]
 have eX:(zY s m).Ms=s.Ms.set (m-1).toNat (zp s m x).2:=by rw [eS]
 have ho:zag (zY s m)=zag s-owX x+owX (zp s m x).2:=by
  unfold zag
  rw [eX,eW,zyI hx];omega
 have hwk:=I.wk
 have hN:N.length<=1:=by rcases hT with ⟨e,_⟩ | ⟨e,_⟩ | ⟨e,_⟩ | ⟨e,_⟩<;>rw [e]<;>simp
 have o1:=zx7 x
 have o2:=zx7 (zp s m x).2
 refine ⟨gh',⟨G',by rw [eK,hW,ho];omega,?_⟩,F⟩
 rw [eK,hW]
 omega
theorem zwz {s:za}(hd:s.Done=true) (j:Int):WY s j=s:=by
 unfold WY
 split
 ·unfold xu;rw [if_pos hd]
 split
 ·unfold z9;rw [if_pos (.inl hd)]
 ·unfold zY;rw [if_pos (.inl hd)]
theorem EG.next {p:zb}(hp:zB p) {nb k:Nat}{s:za}{gh:Gh}(hk:k<2147480000) (I:EG p nb k s gh) (j:Int):∃gh',EG p nb (k+1) (WY s j) gh'/\Ur s (WY s j):=by
 cases hd:s.Done with
 | true=>rw [zwz hd];exact ⟨gh,I.more,.inl ⟨rfl,rfl⟩⟩
 | false =>
  have hwl:=I.G.E.wl
  have hml:=I.G.E.ml
  unfold WY
  split
  ·exact ⟨gh,I.det hp⟩
  split
  ·by_cases h1:1<=j
   ·exact I.worker hp hk (by omega) hd
   ·have:z9 s j=s:=by unfold z9;rw [if_pos (.inr (.inl (by omega)))]
    rw [this];exact ⟨gh,I.more,.inl ⟨rfl,rfl⟩⟩
  ·by_cases h1:1<=j-(s.Ws.length:Int)/\j-(s.Ws.length:Int)<=(s.Ms.length:Int)
   ·exact I.mutator hp hk (by omega) hd
   ·have:zY s (j-(s.Ws.length:Int))=s:=by unfold zY;rw [if_pos (by omega)]
    rw [this];exact ⟨gh,I.more,.inl ⟨rfl,rfl⟩⟩
end
end Go.Pe.G
namespace Go.Pe.G
open Go.Pe
noncomputable section
theorem zr6:∀(n:Nat) (l:List Int),l.Nodup->(∀o∈l,1<=o/\o<=(n:Int))->l.length<=n
 | 0,[],_,_=>zGT _
 | 0,a::l,_,h=>by have:=h a (by simp);omega
 | n+1,l,hd,h=>by
  have ih:=zr6 n (l.erase ((n+1:Nat):Int)) (hd.erase _) (fun o ho=>by
   have:=(hd.mem_erase_iff).1 ho
   have h2:=h o this.2
   have h3:=this.1
   omega)
  rw [List.length_erase] at ih
  split at ih<;>omega
end
end Go.Pe.G
namespace Go.Pe.G
open Go.Pe
noncomputable section
theorem zzP {p:zb}(h:zB p) {nb k:Nat}{s:za}{gh:Gh}{own:List Int}(X:SX p nb s gh own k) (hnb:nb<=50) {N:Int}(hN:(nb:Int)<=N) (hN2:N<1000):zkz s.M (z5 p) (zD p) N=some (gh.F,()):=by
 have hF:=Zt h
 have hE:=wn h
 have hl:gh.F.length<nb\/gh.F.length=0:=by
  have:=X.L.all.length_eq
  simp [zob] at this
  omega
 rw [ztF,ziJ,zGO,zeo,zGO]
 obtain ⟨o,e,ho⟩:=xW (f:=zd2) (fun a=>∃x pre rest,gh.F=pre++rest/\a=(s.M,zD p,N,x,pre,())/\Chn s.M (zD p) nb x rest) (fun a=>gh.F.length-a.2.2.2.2.1.length) (fun o=>o= .brk (gh.F,())) (by
  rintro _ ⟨x,pre,rest,e,rfl,c⟩
  rw [zqF,yy]
  cases rest with
  | nil =>
   have hx:x=0:=c
   rw [if_pos hx]
   exact ⟨_,rfl,by rw [e,zGR]⟩
  | cons y l =>
   obtain ⟨c1,c2,c3,c4⟩:=c
   have hlen:gh.F.length=pre.length+(l.length+1):=by rw [e,zG1,zG8]
   rw [if_neg (by omega),zj,if_pos (show (pre.length:Int)<(bif decide ((1000:Int)<N) then 1000 else N) by rw [zj,if_neg (by omega)];omega),yt (by simp;omega),zGO,zW (by omega) (by omega),ziJ,zGO]
   refine ⟨_,rfl,⟨_,pre++[x],l,by rw [e,c1];simp,rfl,?_⟩,?_⟩
   ·rw [c1];exact c4
   ·show gh.F.length-(pre++[x]).length<gh.F.length-pre.length
    rw [zG1,zIB];omega) (s.M,zD p,N,yi (ld s.M (z5 p)),([]:List Int),()) ⟨_,[],gh.F,rfl,rfl,X.L.cF⟩ (by show gh.F.length-0<18446744073709551616;omega)
 subst ho
 exact congrArg (fun o=>Option.bind o _) e
theorem zwF {α β:Type}(f:α->List β):∀(l:List α) (a:List β),l.foldl (fun r x=>r++f x) a=a++l.flatMap f
 | [],a=>by simp
 | x::l,a=>by rw [zHI,zwF f l,zHB,zGV]
theorem zoG {p:zb}(h:zB p) {k:Nat}{s:za}{gh:Gh}(G:FG p (zS p+1) k s gh):ZX s=some (uj (gh.F.flatMap (yw s)),())/\(gh.F.flatMap (yw s)).length<=9:=by
 have hP:=G.E.S.P
 have hbl:=G.E.S.bins
 have hbp:=zcG h
 have hN:=G.E.H.n
 have hn:=h.n
 have hmo:=h.most
 have hl9:(gh.F.flatMap (yw s)).length<=9:=by
  have hs:(gh.F.flatMap (yw s)).Sublist (vV p s gh):=(List.sublist_append_left _ _).trans (List.sublist_append_left _ _)
  have:=zr6 s.H.Objs.length _ (G.B.nd.sublist hs) (fun o ho=>by
   have ho:=hs.subset ho
   exact ⟨(zbd ((G.B.gr o).1 ho)).1,G.mrk o ((ux _ _).1 ((G.B.gr o).1 ho)).1⟩)
  omega
 refine ⟨?_,hl9⟩
 have hF:gh.F.length<1000:=by
  have:=G.X.L.all.length_eq
  simp [zob] at this
  omega
 have hnode:∀y∈gh.F,1<=y/\y<((zS p+1:Nat):Int):=fun y hy=>zp8.1 (G.X.L.all.subset (zG7 _ (zG7 _ hy)))
 rw [zup,zbh,zGO,UI,zGO,hP]
 dsimp only
 rw [zzP h G.X (by omega) (by omega) (by omega),zGO]
 dsimp only
 obtain ⟨e,_⟩:=Zp (f:=WW) (fun j r=>((gh.F.length:Int),j,s,r,gh.F,())) (fun r=>(r,())) gh.F (by omega) (fun r y=>r++yw s y) (fun i r=>r=(gh.F.take i).flatMap (yw s)) (s:=[]) rfl
  (fun i r y hy hi hr=>by
   have hm:=zGW hy
   obtain ⟨b1,b2⟩:=zvs G (hnode y hm)
   have hsub:r.length+(yw s y).length<=9:=by
    have h1:r++yw s y=(gh.F.take (i+1)).flatMap (yw s):=by rw [hr,zH6,hy];simp
    have h2:((gh.F.take (i+1)).flatMap (yw s)).Sublist (gh.F.flatMap (yw s)):=by
     conv=>rhs;rw [<-zIp (i+1) gh.F,zIb]
     exact List.sublist_append_left _ _
    have h3:=h2.length_le
    rw [<-zG1,h1];omega
   have hb2:=(hnode y hm).2
   refine ⟨by rw [hr,zH6,hy];simp,?_⟩
   show WW ((gh.F.length:Int),(i:Int),s,r,gh.F,())=_
   rw [zhb,zj,if_pos (by omega),wS (by omega) (by omega),zGO,zHv,hy,zGO,zj,if_pos (by omega),b1,zGO,yt (by simp;omega),zGO,yz (by omega)])
  (fun r hr=>by
   show WW ((gh.F.length:Int),(gh.F.length:Int),s,r,gh.F,())=_
   rw [zhb,zj,if_neg (by omega)])
 rw [zwF,zG0] at e
 rw [e,zGO]
 dsimp only
 rw [zaZ (by omega)];rfl
theorem zAt {p:zb}(h:zB p) {nb k:Nat}{s:za}{gh:Gh}(G:FG p nb k s gh):∀(n i:Nat),i+n=s.Ws.length->zvc s n (i:Int)=some ((List.range' i n).map fun j:Nat=>(s.Ws[j]?).elim [] fun x=>uj (zQ s x++gh.D ((j:Int)+1)))
 | 0,i,_=>rfl
 | n+1,i,hi=>by
  have hx:=zGQ (show i<s.Ws.length by omega)
  have ih:=zAt h G n (i+1) (by omega)
  rw [show ((i+1:Nat):Int)=(i:Int)+1 by omega] at ih
  rw [zvc,zrF h G hx,zGO,ih,zGO,List.range'_succ,zHW,hx];rfl
theorem zAb {p:zb}(h:zB p) {nb k:Nat}{s:za}{gh:Gh}(G:FG p nb k s gh):∀(n i:Nat),i+n=s.Ms.length->zvK s n (i:Int)=some ((List.range' i n).map fun j:Nat=>(s.Ms[j]?).elim [] fun x=>uj (zZ s x))
 | 0,i,_=>rfl
 | n+1,i,hi=>by
  have hx:=zGQ (show i<s.Ms.length by omega)
  have ih:=zAb h G n (i+1) (by omega)
  rw [show ((i+1:Nat):Int)=(i:Int)+1 by omega] at ih
  rw [zvK,zpg h G hx,zGO,ih,zGO,List.range'_succ,zHW,hx];rfl
theorem zC3 {a b:List Int}(ha:a.length<1000000) (hb:b.length<1000000):YE [a,b]=some (a++b,()):=by
 rw [zdS]
 obtain ⟨e,_⟩:=Zp (f:=xC) (fun j (r:Int)=>([a,b],r,[a,b],2,j,())) (fun r=>([a,b],r,())) [a,b] (show 2<1000000 by decide) (fun r x=>r+(x.length:Int)) (fun i r=>0<=r/\r<=(i:Int)*1000000) (s:=0) ⟨by omega,by omega⟩
  (fun i r x hx hi hr=>by
   have hi:i<2:=hi
   have hxl:x.length<1000000:=by
    rcases zG9.1 (zGW hx) with rfl | hx
    ·exact ha
    ·rw [zHs.1 hx];exact hb
   refine ⟨⟨by omega,by omega⟩,?_⟩
   show xC ([a,b],r,[a,b],2,(i:Int),())=_
   rw [XP,zj,if_pos (by omega),xw hx,zGO,zW (a:=r+(x.length:Int)) (by omega) (by omega),zj,if_neg (by omega),yz (by omega)])
  (fun r hr=>by
   show xC ([a,b],r,[a,b],2,2,())=_
   rw [XP];rfl)
 have e:zR xC ([a,b],0,[a,b],(([a,b]:List (List Int)).length:Int),0,())=some (.brk ([a,b],0+(a.length:Int)+(b.length:Int),())):=e
 rw [e,zGO]
 dsimp only
 have hg:zBu (0+(a.length:Int)+(b.length:Int))=some ([],()):=by
  rw [zD6]
  unfold zt0
  rw [decide_eq_true (by omega:(0:Int)<=0+(a.length:Int)+(b.length:Int)),decide_eq_true (by omega:0+(a.length:Int)+(b.length:Int)<4294967296)];rfl
 rw [hg,zGO]
 obtain ⟨e,_⟩:=Zp (f:=xt) (fun j (r:List Int)=>([a,b],2,j,r,())) (fun r=>(r,())) [a,b] (show 2<1000000 by decide) (fun r x=>r++x) (fun i r=>r.length<=i*1000000) (s:=[]) (by simp)
  (fun i r x hx hi hr=>by
   have hi:i<2:=hi
   have hxl:x.length<1000000:=by
    rcases zG9.1 (zGW hx) with rfl | hx
    ·exact ha
    ·rw [zHs.1 hx];exact hb
   refine ⟨by rw [zG1];omega,?_⟩
   show xt ([a,b],2,(i:Int),r,())=_
   rw [Xs,zj,if_pos (by omega),xw hx,zGO,yt (by simp;omega),zGO,yz (by omega)])
  (fun r hr=>by
   show xt ([a,b],2,2,r,())=_
   rw [Xs];rfl)
 have e:zR xt ([a,b],(([a,b]:List (List Int)).length:Int),0,([]:List Int),())=some (.brk ([]++a++b,())):=e
 rw [e];rfl
theorem zFi {a b:List Int}(ha:a.length<1000000) (hb:b.length<1000000):zpn a b=some (uj (a++b),()):=by
 rw [zyF,zC3 ha hb,zGO,zwM (by simp;omega)];rfl
theorem zwJ:∀(ys:List (List Int)) (a:List Int),(a++ys.flatten).length<1000000->Zf zbv ys (uj a,())=some (uj (a++ys.flatten),())
 | [],a,_=>by rw [Zf];simp
 | y::ys,a,hl=>by
  rw [List.flatten_cons,<-zGV] at hl ⊢
  have hl2:=hl
  rw [zG1,zG1] at hl2
  rw [Zf,zrp,zFi (by rw [zDp];omega) (by omega),zGO,zGO]
  dsimp only
  rw [zDU]
  exact zwJ ys (a++y) hl
theorem zwB {α:Type}{f:α->List Int}(l:List α):List.Perm ((l.map fun x=>uj (f x)).flatten) (l.flatMap f):=by
 induction l with
 | nil=>exact zHe _
 | cons a l ih =>
  rw [zHW,List.flatten_cons,zHB]
  exact (Va _).append ih
theorem zD4 {p:zb}(h:zB p) {k:Nat}{s:za}{gh:Gh}(G:FG p (zS p+1) k s gh):∃ys,ztM s=some ys/\List.Perm ys.flatten (vV p s gh):=by
 have hwl:=G.E.wl
 have hwk:=h.wk
 have hml:=G.E.ml
 have hmt:=h.mt
 refine ⟨_,by
  unfold ztM
  rw [decide_eq_true (show s.Ws.length<1000000 by omega),decide_eq_true (show s.Ms.length<1000000 by omega),(zoG h G).1,Bool.and_self,cond_true,zGO,show (0:Int)=((0:Nat):Int) from rfl,zAt h G s.Ws.length 0 (by omega),zGO,zAb h G s.Ms.length 0 (by omega),zGO],?_⟩
 have eW:((List.range' 0 s.Ws.length).map fun j:Nat=>(s.Ws[j]?).elim [] fun x=>uj (zQ s x++gh.D ((j:Int)+1)))=(List.range s.Ws.length).map fun j:Nat=>uj ((s.Ws[j]?).elim [] fun x=>zQ s x++gh.D ((j:Int)+1)):=by
  rw [<-zIn]
  refine zIo (fun j hj=>?_)
  rw [zGQ (zHl.1 hj)];rfl
 have eM:((List.range' 0 s.Ms.length).map fun j:Nat=>(s.Ms[j]?).elim [] fun x=>uj (zZ s x))=(List.range s.Ms.length).map fun j:Nat=>uj ((s.Ms[j]?).elim [] (zZ s)):=by
  rw [<-zIn]
  refine zIo (fun j hj=>?_)
  rw [zGQ (zHl.1 hj)];rfl
 dsimp only
 rw [eW,eM,List.flatten_cons,List.flatten_append]
 refine ((Va _).append ((zwB _).append (zwB _))).trans ?_
 rw [ztr (f:=zZ s) s.Ms]
 have eW2:(List.range s.Ws.length).flatMap (fun j:Nat=>(s.Ws[j]?).elim [] fun x=>zQ s x++gh.D ((j:Int)+1))=(List.range s.Ws.length).flatMap (fun j:Nat=>(s.Ws[j]?).elim [] (zQ s)++gh.D ((j:Int)+1)) :=
  wa (fun j hj=>by rw [zGQ (zHl.1 hj)];rfl)
 rw [eW2]
 unfold vV yx
 have en:p.Workers.toNat=s.Ws.length:=by omega
 rw [en,zGV]
 refine zG3 _ ?_
 rw [<-zGV]
 refine zIj _ ?_
 refine (zwP (List.range s.Ws.length) (f:=fun i:Nat=>(s.Ws[i]?).elim [] (zQ s)) (g:=fun i:Nat=>gh.D ((i:Int)+1))).trans ?_
 rw [ztr (f:=zQ s) s.Ws]
 exact zHC
theorem FG.bag9 {p:zb}(h:zB p) {nb k:Nat}{s:za}{gh:Gh}(G:FG p nb k s gh):(vV p s gh).length<=9/\∀o∈vV p s gh,1<=o/\o<=9:=by
 have hN:=G.E.H.n
 have hn:=h.n
 have hmo:=h.most
 have hr:∀o∈vV p s gh,1<=o/\o<=(s.H.Objs.length:Int):=fun o ho=>⟨(zbd ((G.B.gr o).1 ho)).1,G.mrk o ((ux _ _).1 ((G.B.gr o).1 ho)).1⟩
 have:=zr6 s.H.Objs.length _ G.B.nd hr
 exact ⟨by omega,fun o ho=>by have:=hr o ho;omega⟩
theorem zCX {p:zb}(h:zB p) {k:Nat}{s:za}{gh:Gh}(G:FG p (zS p+1) k s gh):U8 s=some (uj (vV p s gh),()):=by
 obtain ⟨ys,e,hp⟩:=zD4 h G
 have hl:=(G.bag9 h).1
 rw [zuW,zxc,zGO]
 have ej:zqf s.P.Workers s.P.Mutators s.P.Cap s.P.Buf s.P.Bin s.P.Most s.P.Price s.P.Limit s.P.H.Slots s.P.H.Objs s.P.Roots s.P.Regs s.P.Progs s.P.Picks s.H.Slots s.H.Objs s.M s.Bins s.T.Marks s.T.Black s.Work s.Epoch s.Flag s.Done s.Restarts s.Acks s.L.Scanned s.L.Spent s.L.Pool s.L.Bal s.Ws s.Ms s.D.PC s.D.I=some ys:=e
 dsimp only
 rw [ej,zGO]
 have:=zwJ ys [] (by rw [zG0,hp.length_eq];omega)
 rw [zG0] at this
 have this:Zf zbv ys (([]:List Int),())=some (uj ys.flatten,()):=this
 rw [this,zAh hp];rfl
end
end Go.Pe.G
namespace Go.Pe.G
open Go.Pe
noncomputable section
def uV (s:za):List zx:=(s.Ws.filter (fun x=>decide (x.PC=6))).map (·.G)++(s.Ms.filter (fun x=>decide (x.PC=3\/x.PC=37))).map (·.G)
theorem znS {α β:Type}(c:α->Bool) (f:α->β):∀(l:List α) (a:List β),l.foldl (fun r x=>bif c x then r++[f x] else r) a=a++(l.filter c).map f
 | [],a=>by simp
 | x::l,a=>by
  rw [zHI,znS c f l,List.filter_cons]
  cases c x<;>simp
theorem zBF (x:zc):ut x=some (decide (x.PC=3\/x.PC=37),()):=by
 rw [zdr]
 by_cases c:x.PC=3
 ·rw [decide_eq_true c,decide_eq_true (show x.PC=3\/x.PC=37 from .inl c)];rfl
 ·rw [decide_eq_false c]
  by_cases c2:x.PC=37
  ·rw [decide_eq_true c2,decide_eq_true (show x.PC=3\/x.PC=37 from .inr c2)];rfl
  ·rw [decide_eq_false c2,decide_eq_false (show ¬(x.PC=3\/x.PC=37) from fun e=>e.elim c c2)];rfl
theorem zoS {s:za}(h1:s.Ws.length<=100) (h2:s.Ms.length<=100):zaB s=some (uV s,()):=by
 rw [zpx]
 obtain ⟨e,_⟩:=Zp (f:=Yz) (fun j r=>(s.Ws,(s.Ws.length:Int),j,s,r,())) (fun r=>(s,r,())) s.Ws (zIs h1 (by decide)) (fun r x=>bif decide (x.PC=6) then r++[x.G] else r) (fun i r=>r.length<=i) (s:=[]) (by simp)
  (fun i r x hx hi hr=>by
   refine ⟨?_,?_⟩
   ·cases decide (x.PC=6)
    ·show r.length<=_;omega
    ·show (r++[x.G]).length<=_;simp;omega
   show Yz (s.Ws,(s.Ws.length:Int),(i:Int),s,r,())=_
   rw [zc6,zj,if_pos (by omega),xw hx,zGO,yt (by simp;omega),zGO,yz (by omega)]
   cases decide (x.PC=6)<;>rfl)
  (fun r hr=>by
   show Yz (s.Ws,(s.Ws.length:Int),(s.Ws.length:Int),s,r,())=_
   rw [zc6,zj,if_neg (by omega)])
 rw [znS,zG0] at e
 rw [e,zGO]
 dsimp only
 have hfl:((s.Ws.filter (fun x:zg=>decide (x.PC=6))).map fun x:zg=>x.G).length<=s.Ws.length:=by rw [zHM];exact zH7 _ _
 obtain ⟨e,_⟩:=Zp (f:=YQ) (fun j r=>(s.Ms,(s.Ms.length:Int),j,r,())) (fun r=>(r,())) s.Ms (zIs h2 (by decide)) (fun r x=>bif decide (x.PC=3\/x.PC=37) then r++[x.G] else r) (fun i r=>r.length<=i+100) (s:=(s.Ws.filter (fun x:zg=>decide (x.PC=6))).map fun x:zg=>x.G) (by omega)
  (fun i r x hx hi hr=>by
   refine ⟨?_,?_⟩
   ·cases decide (x.PC=3\/x.PC=37)
    ·show r.length<=_;omega
    ·show (r++[x.G]).length<=_;simp;omega
   show YQ (s.Ms,(s.Ms.length:Int),(i:Int),r,())=_
   rw [zdb,zj,if_pos (by omega),xw hx,zGO,zBF,zGO,yt (by simp;omega),zGO,yz (by omega)]
   dsimp only
   cases decide (x.PC=3\/x.PC=37)<;>rfl)
  (fun r hr=>by
   show YQ (s.Ms,(s.Ms.length:Int),(s.Ms.length:Int),r,())=_
   rw [zdb,zj,if_neg (by omega)])
 rw [znS] at e
 rw [e];rfl
theorem zFD (g:zx):owG g=0\/owG g=1:=by unfold owG;split<;>simp
theorem zCr (g:zx):zl6 g=some (owG g,()):=by
 rw [zvY,zku]
 simp only [zj]
 unfold owG
 by_cases c1:g.Out=0
 ·rw [if_pos c1]
  by_cases c2:1<=g.PC
  ·rw [if_pos c2]
   by_cases c3:g.PC<=2
   ·rw [if_pos c3,if_pos ⟨c1,by omega⟩];rfl
   ·rw [if_neg c3,if_neg (by omega)];rfl
  ·rw [if_neg c2,if_neg (by omega)];rfl
 ·rw [if_neg c1,if_neg (fun e=>c1 e.1)];rfl
theorem zlF {α:Type}(f:α->Int):∀(l:List α) (a:Int),l.foldl (fun r x=>r+f x) a=a+(l.map f).sum
 | [],a=>by simp
 | x::l,a=>by rw [zHI,zlF f l,zHW,List.sum_cons];omega
theorem zpS {α:Type}(c:α->Bool) (f g h:α->Int) (e:∀x,h x=(bif c x then f x else 0)+g x):∀l:List α,(l.map h).sum=((l.filter c).map f).sum+(l.map g).sum
 | []=>rfl
 | x::l=>by
  rw [zHW,List.sum_cons,zpS c f g h e l,List.filter_cons,e x,zHW,List.sum_cons]
  cases c x<;>simp<;>omega
theorem zBU (s:za):zag s=((uV s).map owG).sum+(s.Ws.map fun x=>if x.PC=9 then (1:Int) else 0).sum+(s.Ms.map fun x=>if x.PC=39 then (1:Int) else 0).sum:=by
 have hW:=zpS (fun x:zg=>decide (x.PC=6)) (fun x=>owG x.G) (fun x=>if x.PC=9 then (1:Int) else 0) owW (fun x=>by
  unfold owW
  by_cases c:x.PC=9
  ·rw [if_pos c,if_pos c,decide_eq_false (show ¬x.PC=6 by omega)];rfl
  ·rw [if_neg c,if_neg c]
   by_cases c6:x.PC=6
   ·rw [if_pos c6,decide_eq_true c6];show owG x.G=owG x.G+0;omega
   ·rw [if_neg c6,decide_eq_false c6];rfl) s.Ws
 have hX:=zpS (fun x:zc=>decide (x.PC=3\/x.PC=37)) (fun x=>owG x.G) (fun x=>if x.PC=39 then (1:Int) else 0) owX (fun x=>by
  unfold owX
  by_cases c:x.PC=39
  ·rw [if_pos c,if_pos c,decide_eq_false (show ¬(x.PC=3\/x.PC=37) by omega)];rfl
  ·rw [if_neg c,if_neg c]
   by_cases c6:x.PC=3\/x.PC=37
   ·rw [if_pos c6,decide_eq_true c6];show owG x.G=owG x.G+0;omega
   ·rw [if_neg c6,decide_eq_false c6];rfl) s.Ms
 unfold zag uV
 rw [hW,hX,List.map_append,List.sum_append,List.map_map,List.map_map]
 have a1:(List.map (owG ∘ fun x:zg=>x.G) (s.Ws.filter fun x=>decide (x.PC=6)))=(s.Ws.filter fun x=>decide (x.PC=6)).map fun x=>owG x.G:=rfl
 have a2:(List.map (owG ∘ fun x:zc=>x.G) (s.Ms.filter fun x=>decide (x.PC=3\/x.PC=37)))=(s.Ms.filter fun x=>decide (x.PC=3\/x.PC=37)).map fun x=>owG x.G:=rfl
 rw [a1,a2]
 omega
theorem zB7 {s:za}(h1:s.Ws.length<=100) (h2:s.Ms.length<=100):zmr s=some (zag s,()):=by
 rw [zvG,zoS h1 h2,zGO]
 dsimp only
 have hl:(uV s).length<=200:=by
  unfold uV
  rw [zG1,zHM,zHM]
  have:=zH7 (fun x:zg=>decide (x.PC=6)) s.Ws
  have:=zH7 (fun x:zc=>decide (x.PC=3\/x.PC=37)) s.Ms
  omega
 obtain ⟨e,b1,b2⟩:=Zp (f:=V4) (fun j r=>(r,((uV s).length:Int),j,s,uV s,())) (fun r=>(r,s,())) (uV s) (by omega) (fun r x=>r+owG x) (fun i r=>0<=r/\r<=(i:Int)) (s:=0) ⟨by omega,by omega⟩
  (fun i r x hx hi hr=>by
   have:=zFD x
   refine ⟨⟨by omega,by omega⟩,?_⟩
   show V4 (r,((uV s).length:Int),(i:Int),s,uV s,())=_
   rw [zii,zj,if_pos (by omega),wS (by omega) (by omega),zGO,zHv,hx,zGO,zCr,zGO,yz (by omega),zW (by omega) (by omega)])
  (fun r hr=>by
   show V4 (r,((uV s).length:Int),((uV s).length:Int),s,uV s,())=_
   rw [zii,zj,if_neg (by omega)])
 rw [zlF] at e b1 b2
 rw [e,zGO]
 dsimp only
 generalize hr0:0+((uV s).map owG).sum=r0 at b1 b2
 obtain ⟨e,b3,b4⟩:=Zp (f:=VV) (fun j r=>(r,s.Ws,(s.Ws.length:Int),j,s,())) (fun r=>(r,s,())) s.Ws (by omega) (fun (r:Int) x=>r+if x.PC=9 then 1 else 0) (fun i r=>0<=r/\r<=200+(i:Int)) (s:=r0) ⟨by omega,by omega⟩
  (fun i r x hx hi hr=>by
   refine ⟨⟨by split<;>omega,by split<;>omega⟩,?_⟩
   show VV (r,s.Ws,(s.Ws.length:Int),(i:Int),s,())=_
   rw [zil,zj,if_pos (by omega),xw hx,zGO,yz (by omega),zj]
   by_cases c:x.PC=9
   ·rw [if_pos c,if_pos c,zW (by omega) (by omega)]
   ·rw [if_neg c,if_neg c,show r+0=r by omega])
  (fun r hr=>by
   show VV (r,s.Ws,(s.Ws.length:Int),(s.Ws.length:Int),s,())=_
   rw [zil,zj,if_neg (by omega)])
 rw [zlF] at e b3 b4
 rw [e,zGO]
 dsimp only
 generalize hr1:r0+(s.Ws.map fun x=>if x.PC=9 then (1:Int) else 0).sum=r1 at b3 b4
 obtain ⟨e,_⟩:=Zp (f:=W2) (fun j r=>(r,s.Ms,(s.Ms.length:Int),j,())) (fun r=>(r,())) s.Ms (by omega) (fun (r:Int) x=>r+if x.PC=39 then 1 else 0) (fun i r=>0<=r/\r<=400+(i:Int)) (s:=r1) ⟨by omega,by omega⟩
  (fun i r x hx hi hr=>by
   refine ⟨⟨by split<;>omega,by split<;>omega⟩,?_⟩
   show W2 (r,s.Ms,(s.Ms.length:Int),(i:Int),())=_
   rw [zgF,zj,if_pos (by omega),xw hx,zGO,yz (by omega),zj]
   by_cases c:x.PC=39
   ·rw [if_pos c,if_pos c,zW (by omega) (by omega)]
   ·rw [if_neg c,if_neg c,show r+0=r by omega])
  (fun r hr=>by
   show W2 (r,s.Ms,(s.Ms.length:Int),(s.Ms.length:Int),())=_
   rw [zgF,zj,if_neg (by omega)])
 rw [zlF] at e
 rw [e,zGO,zBU]
 dsimp only
 rw [<-hr1,<-hr0]
 congr 2
 omega
end
end Go.Pe.G
namespace Go.Pe.G
open Go.Pe
noncomputable section
inductive Reach (h:zr) (R:BitVec 64):Int->Prop
 | root (o:Int) (h1:zI R o=true) (h2:1<=o/\o<=(h.Objs.length:Int)):Reach h R o
 | step (o v:Int) (h1:Reach h R o) (h2:v∈zK h o) (h3:1<=v/\v<=(h.Objs.length:Int)):Reach h R v
theorem Reach.in {h:zr}{R:BitVec 64}{o:Int}(r:Reach h R o):1<=o/\o<=(h.Objs.length:Int):=by
 cases r with
 | root _ _ h2=>exact h2
 | step _ _ _ _ h3=>exact h3
theorem zAN:∀t:Fin 512,zox 66 (BitVec.ofNat 64 t.1)=some (((List.range 9).filter fun i=>(BitVec.ofNat 64 t.1).getLsbD i).map fun i:Nat=>(i:Int)+1):=by decide +kernel
def Xv (s:BitVec 64):List Int:=((List.range 9).filter fun i=>s.getLsbD i).map fun i:Nat=>(i:Int)+1
theorem zEw:∀t:Fin 512,Go.Lib.ctz 64 t.1<=64:=by decide +kernel
theorem zwu:∀(f:Nat) (s:BitVec 64),s.toNat<512->VN f s=zox f s
 | 0,_,_=>rfl
 | f+1,s,h=>by
  simp only [VN,zox]
  rw [zwu f _ (by rw [zHY];exact zIs Nat.and_le_left h)]
  have:Go.Lib.ctz 64 s.toNat<=64:=zEw ⟨s.toNat,h⟩
  have e:w64 (tz s+1)=((Go.Lib.ctz 64 s.toNat:Nat):Int)+1:=by
   unfold tz
   exact zW (by omega) (by omega)
  rw [e]
theorem zDc (s:BitVec 64) (o:Int):o∈Xv s↔1<=o/\o<=9/\zI s o=true:=by
 unfold Xv
 rw [zG2]
 constructor
 ·rintro ⟨i,hi,rfl⟩
  obtain ⟨a,b⟩:=zH9.1 hi
  have a:=zHl.1 a
  exact ⟨by omega,by omega,(xy _ _).2 ⟨by omega,by omega,by rw [show ((i:Int)+1-1).toNat=i by omega];exact b⟩⟩
 ·rintro ⟨a,b,c⟩
  obtain ⟨_,_,d⟩:=(xy _ _).1 c
  exact ⟨(o-1).toNat,zH9.2 ⟨zHl.2 (by omega),d⟩,by omega⟩
theorem zv7 (s:BitVec 64):(Xv s).length<=9:=by
 unfold Xv
 rw [zHM]
 exact zHQ (zH7 _ _) (by simp)
theorem zCW {s:BitVec 64}(h:∀o,zI s o=true->o<=9):zdt s=some (Xv s,()):=by
 obtain ⟨t,rfl⟩:=zFo h
 have e:zj0 (BitVec.ofNat 64 t.1)=some (Xv (BitVec.ofNat 64 t.1)):=by
  show VN 66 _=_
  rw [zwu 66 _ (by simp;omega),zAN t];rfl
 have:=zv7 (BitVec.ofNat 64 t.1)
 rw [zoX,zoV,zGO,e,zGO,zoA _ _ (by simp;omega)]
 rfl
theorem zqK {α:Type}{l:List α}{n:Nat}{i:Int}(h:0<=i) (h1:i<l.length) (h2:i<n):zfZ l n i=some i.toNat:=by
 unfold zfZ;simp [h,h1,h2]
def mt (met:List Int) (o:Int):Int:=met.getD (o-1).toNat 0
def Wv (met:List Int):Nat:=met.countP (fun x=>decide (x=0))
theorem zsZ {met:List Int}{o:Int}(h:1<=o/\o<=(met.length:Int)):met[(o-1).toNat]? =some (mt met o):=by
 have e:=zGQ (show (o-1).toNat<met.length by omega)
 unfold mt
 rw [zGS,e];rfl
theorem zj8 {met:List Int}{o q x:Int}(h:1<=o/\o<=(met.length:Int)) (hq:1<=q):mt (met.set (o-1).toNat x) q=if q=o then x else mt met q:=by
 unfold mt
 rw [zGS,zGS,zHy]
 by_cases e:q=o
 ·subst e;rw [if_pos rfl,if_pos rfl,if_pos (by omega)];rfl
 ·rw [if_neg (by omega),if_neg e]
theorem zBN {met:List Int}{o x:Int}(h:1<=o/\o<=(met.length:Int)) (h0:mt met o=0) (hx:x≠0):Wv (met.set (o-1).toNat x)+1=Wv met:=by
 have hl:(o-1).toNat<met.length:=by omega
 have e:met[(o-1).toNat]'hl=0:=by
  have:=zsZ h
  rw [h0,zGQ hl] at this
  exact Option.some.inj this
 have hm:(0:Int)∈met:=by rw [<-e];exact zHj hl
 have hp:0<Wv met:=List.countP_pos_iff.2 ⟨0,hm,by simp⟩
 unfold Wv at hp ⊢
 rw [List.countP_set hl,e]
 simp [hx]
 omega
structure RI (h:zr) (R:BitVec 64) (met wait:List Int):Prop where
 len:met.length=64
 val:∀o,1<=o->0<=mt met o/\mt met o<=100-(Wv met:Int)
 rc:∀o,1<=o->0<mt met o->Reach h R o
 rt:∀o,zI R o=true->1<=o/\o<=(h.Objs.length:Int)->0<mt met o
 wt:∀o∈wait,(1<=o/\o<=(h.Objs.length:Int))/\0<mt met o
 cl:∀o,1<=o->0<mt met o->o∉wait->∀v∈zK h o,1<=v/\v<=(h.Objs.length:Int)->0<mt met v
 zl:Wv met<=64
theorem zDt (met:List Int):Wv met<=met.length:=List.countP_le_length
theorem RI.add {h:zr}{R:BitVec 64}{met wait:List Int}{o v:Int}(hn:h.Objs.length<=9) (I:RI h R met wait) (ho:o∈wait) (hv:v∈zK h o) (hr:1<=v/\v<=(h.Objs.length:Int)) (h0:mt met v=0) :
  RI h R (met.set (v-1).toNat (mt met o+1)) (wait++[v])/\Wv (met.set (v-1).toNat (mt met o+1))+1=Wv met:=by
 obtain ⟨ho1,ho2⟩:=I.wt o ho
 have hlen:=I.len
 have hvl:1<=v/\v<=(met.length:Int):=by omega
 have hz:=zBN (x:=mt met o+1) hvl h0 (by omega)
 have hval:=I.val o ho1.1
 have hzl:=I.zl
 have key:∀q,1<=q->0<mt met q->0<mt (met.set (v-1).toNat (mt met o+1)) q:=fun q hq hp=>by
  rw [zj8 hvl hq];split<;>omega
 refine ⟨⟨by rw [zHo];exact hlen,fun q hq=>?_,fun q hq hp=>?_,fun q a b=>key q b.1 (I.rt q a b),fun q hq=>?_,fun q hq hp hw u hu hur=>?_,by omega⟩,hz⟩
 ·have:=I.val q hq
  rw [zj8 hvl hq];split<;>omega
 ·rw [zj8 hvl hq] at hp
  split at hp
  ·rename_i e;subst e;exact .step o q (I.rc o ho1.1 ho2) hv hr
  ·exact I.rc q hq hp
 ·rcases zHb.1 hq with hq | hq
  ·exact ⟨(I.wt q hq).1,key q (I.wt q hq).1.1 (I.wt q hq).2⟩
  ·simp at hq;subst hq
   refine ⟨hr,?_⟩
   rw [zj8 hvl hr.1,if_pos rfl];omega
 ·have hw1:q∉wait:=fun e=>hw (zG7 _ e)
  have hw2:q≠v:=fun e=>hw (by rw [e];simp)
  rw [zj8 hvl hq,if_neg hw2] at hp
  exact key u hur.1 (I.cl q hq hp hw1 u hu hur)
theorem RI.rm {h:zr}{R:BitVec 64}{met:List Int}{o:Int}{w:List Int}(I:RI h R met (o::w)) (hd:∀v∈zK h o,1<=v/\v<=(h.Objs.length:Int)->0<mt met v):RI h R met w :=
 ⟨I.len,I.val,I.rc,I.rt,fun q hq=>I.wt q (zGX _ hq),fun q hq hp hw v hv hr=>by
  by_cases e:q=o
  ·rw [e] at hv;exact hd v hv hr
  ·exact I.cl q hq hp (fun h=>(zG9.1 h).elim e hw) v hv hr,I.zl⟩
theorem zBk {h:zr}{R:BitVec 64}(hn:h.Objs.length<=9) {o:Int}{w0:List Int}{a7:List Int}(hs:(zK h o).length<1000000):∀(n:Nat) (met added:List Int) (i:Nat),(zK h o).length-i=n->i<=(zK h o).length->RI h R met (o::w0++added)->(o::w0++added).length+Wv met<=200 ->
  (∀v∈(zK h o).take i,1<=v/\v<=(h.Objs.length:Int)->0<mt met v)->∀m,n<m ->
  ∃met' added',xz vl m (vd (h.Objs.length:Int),o,zK h o,((zK h o).length:Int),(i:Int),h,a7,met,o::w0++added,())=some (.brk (vd (h.Objs.length:Int),h,a7,met',o::w0++added',())) /\
   RI h R met' (o::w0++added')/\(o::w0++added').length+Wv met'=(o::w0++added).length+Wv met/\Wv met'<=Wv met/\(∀v∈zK h o,1<=v/\v<=(h.Objs.length:Int)->0<mt met' v):=by
 intro n
 induction n with
 | zero =>
  intro met added i hk hi I hz hd m hm
  obtain ⟨m,rfl⟩:∃x,m=x+1:=⟨m-1,by omega⟩
  have e:i=(zK h o).length:=by omega
  subst e
  rw [zIq] at hd
  refine ⟨met,added,?_,I,rfl,zGT _,hd⟩
  rw [xz,YX,zj,if_neg (by omega)];rfl
 | succ n ih =>
  intro met added i hk hi I hz hd m hm
  obtain ⟨m,rfl⟩:∃x,m=x+1:=⟨m-1,by omega⟩
  have hx:=zGQ (show i<(zK h o).length by omega)
  generalize hxv:(zK h o)[i]'(by omega)=v at hx
  have hv:v∈zK h o:=zGW hx
  have hlen:=I.len
  have ho:=I.wt o (by simp)
  have hval:=I.val o ho.1.1
  have htk:(zK h o).take (i+1)=(zK h o).take i++[v]:=by rw [zH6,hx];rfl
  rw [xz,YX,zj,if_pos (by omega),xw hx,zGO,zqM,zGO]
  have hb:=zoM hn v
  unfold zI at hb
  by_cases hr:1<=v/\v<=(h.Objs.length:Int)
  ·have hb1:=hb.2 hr
   dsimp only
   rw [hb1,cond_true,zW (a:=v-1) (by omega) (by omega),zqK (by omega) (by omega) (by omega),zGO,zsZ (by omega),zGO,zj]
   by_cases h0:mt met v=0
   ·rw [if_pos h0,zW (a:=o-1) (by omega) (by omega),zqK (by omega) (by omega) (by omega),zGO,zsZ (by omega),zGO,zGO,yt (by rw [zG1];show _+1<_;omega),zGO,zW (a:=(i:Int)+1) (by omega) (by omega),zW (a:=mt met o+1) (by omega) (by omega),zGO]
    obtain ⟨I',hz'⟩:=I.add hn (by simp) hv hr h0
    dsimp only
    rw [zGV] at I' ⊢
    have hz2:(o::w0++(added++[v])).length=(o::w0++added).length+1:=by simp;omega
    obtain ⟨met',added',e1,e2,e3,e4,e5⟩:=ih (met.set (v-1).toNat (mt met o+1)) (added++[v]) (i+1) (by omega) (by omega) I' (by omega) (fun q hq hqr=>by
     rw [zj8 (by omega) hqr.1]
     split
     ·omega
     ·rename_i hne
      rw [htk] at hq
      rcases zHb.1 hq with hq | hq
      ·exact hd q hq hqr
      ·simp at hq;exact absurd hq hne) m (by omega)
    refine ⟨met',added',?_,e2,by omega,by omega,e5⟩
    have:((i+1:Nat):Int)=(i:Int)+1:=by omega
    rw [<-this]
    exact e1
   ·rw [if_neg h0,zW (a:=(i:Int)+1) (by omega) (by omega),zGO]
    have hp:0<mt met v:=by have:=I.val v hr.1;omega
    obtain ⟨met',added',e1,e2⟩:=ih met added (i+1) (by omega) (by omega) I hz (fun q hq hqr=>by
     rw [htk] at hq
     rcases zHb.1 hq with hq | hq
     ·exact hd q hq hqr
     ·simp at hq;rw [hq];exact hp) m (by omega)
    refine ⟨met',added',?_,e2⟩
    have:((i+1:Nat):Int)=(i:Int)+1:=by omega
    rw [<-this]
    exact e1
  ·have hb1:(!(decide (vd (h.Objs.length:Int)&&&bit v=0#64)))=false:=by
    cases hc:(!(decide (vd (h.Objs.length:Int)&&&bit v=0#64))) with
    | false=>rfl
    | true=>exact absurd (hb.1 hc) hr
   dsimp only
   rw [hb1,cond_false,zW (a:=(i:Int)+1) (by omega) (by omega),zGO]
   obtain ⟨met',added',e1,e2⟩:=ih met added (i+1) (by omega) (by omega) I hz (fun q hq hqr=>by
    rw [htk] at hq
    rcases zHb.1 hq with hq | hq
    ·exact hd q hq hqr
    ·simp at hq;rw [hq] at hqr;exact absurd hqr hr) m (by omega)
   refine ⟨met',added',?_,e2⟩
   have:((i+1:Nat):Int)=(i:Int)+1:=by omega
   rw [<-this]
   exact e1
theorem zsd {A B D:Type}{f:A->Option (yE A B D)}{x:A}{b:B}{n:Nat}(h:xz f n x=some (.brk b)) (hn:n<=vQ):zR f x=some (.brk b):=by
 rw [X4]
 have key:∀(n m:Nat) (x:A),xz f n x=some (.brk b)->n<=m->xz f m x=some (.brk b):=by
  intro n
  induction n with
  | zero=>intro m x h;cases h
  | succ n ih =>
   intro m x h hm
   obtain ⟨m,rfl⟩:∃q,m=q+1:=⟨m-1,by omega⟩
   simp only [xz,zGZ] at h ⊢
   obtain ⟨s,h1,h2⟩:=h
   refine ⟨s,h1,?_⟩
   cases s with
   | again y=>exact ih m y h2 (by omega)
   | brk b'=>exact h2
   | ret c=>exact h2
 exact key n vQ x h hn
theorem zDN {h:zr}{R:BitVec 64}(hn:h.Objs.length<=9) (hs:∀o,(zK h o).length<1000000) {a7:List Int}:∀(n:Nat) (met wait:List Int),wait.length+2*Wv met<=n->wait.length+Wv met<=200->RI h R met wait->∀m,n<m ->
  ∃met',xz ZG m (vd (h.Objs.length:Int),h,a7,met,wait,())=some (.brk (a7,met',()))/\RI h R met' []:=by
 intro n
 induction n with
 | zero =>
  intro met wait hz hz2 I m hm
  obtain ⟨m,rfl⟩:∃x,m=x+1:=⟨m-1,by omega⟩
  have:wait=[]:=zHz (by omega)
  subst this
  refine ⟨met,?_,I⟩
  rw [xz,uM,zj,if_neg (by simp)];rfl
 | succ n ih =>
  intro met wait hz hz2 I m hm
  obtain ⟨m,rfl⟩:∃x,m=x+1:=⟨m-1,by omega⟩
  cases wait with
  | nil =>
   refine ⟨met,?_,I⟩
   rw [xz,uM,zj,if_neg (by simp)];rfl
  | cons o w =>
   have ho:=(I.wt o (by simp)).1
   have hso:=hs o
   have eo:=zGQ (show (o-1).toNat<h.Objs.length by omega)
   have es:h.Objs[(o-1).toNat]'(by omega)=zK h o:=by unfold zK;rw [zGS,eo];rfl
   obtain ⟨met',added',e1,e2,e3,e4,e5⟩:=zBk (a7:=a7) hn (o:=o) (w0:=w) hso _ met [] 0 rfl (zHV _) (by simpa using I) (by simpa using hz2) (fun v hv=>by simp at hv) ((zK h o).length+1) (by omega)
   simp only [zGR,Int.natCast_zero] at e1 e3
   have e1:xz vl ((zK h o).length+1) (vd (h.Objs.length:Int),o,zK h o,((zK h o).length:Int),0,h,a7,met,o::w,())=some (.brk (vd (h.Objs.length:Int),h,a7,met',o::w++added',())):=e1
   have hidx:xx (o::w) 0=some 0:=by rw [wS (by omega) (by simp)];rfl
   rw [xz,uM,zj,if_pos (by simp),hidx,zGO]
   simp only [zHP,zGO,zrf,zG5,cond_false]
   rw [zW (a:=o-1) (by omega) (by omega),va (by omega),eo,zGO,es,zsd e1 (by have:vQ=18446744073709551616:=rfl;omega)]
   dsimp only [zGO]
   rw [zIe,zrT,zGO,zGO]
   dsimp only
   rw [zIe] at e2
   exact ih met' (w++added') (by simp at e3 hz ⊢;omega) (by simp at e3 hz2 ⊢;omega) (e2.rm e5) m (by omega)
theorem zEM (o:Int):mt (List.replicate 64 (0:Int)) o=0:=by
 unfold mt
 rw [zGS,zIf];split<;>rfl
theorem zBj {h:zr}{a1:BitVec 64}{a5:List Int}:∀(n i:Nat) (l met:List Int),l.length-i=n->i<=l.length->l.length<1000000->(∀o∈l,1<=o/\o<=9)->met.length=64->(∀o,1<=o->mt met o=if o∈l.take i then 1 else 0)->∀m,n<m ->
  ∃met',xz ZH m (a1,(l.length:Int),(i:Int),h,a5,met,l,())=some (.brk (a1,h,a5,met',l,()))/\met'.length=64/\∀o,1<=o->mt met' o=if o∈l then 1 else 0:=by
 intro n
 induction n with
 | zero =>
  intro i l met hk hi hl hr hm ht m hm2
  obtain ⟨m,rfl⟩:∃x,m=x+1:=⟨m-1,by omega⟩
  have e:i=l.length:=by omega
  subst e
  rw [zIq] at ht
  refine ⟨met,?_,hm,ht⟩
  rw [xz,Xr,zj,if_neg (by omega)];rfl
 | succ n ih =>
  intro i l met hk hi hl hr hm ht m hm2
  obtain ⟨m,rfl⟩:∃x,m=x+1:=⟨m-1,by omega⟩
  have hx:=zGQ (show i<l.length by omega)
  generalize hxv:l[i]'(by omega)=v at hx
  have hv:=hr v (zGW hx)
  have htk:l.take (i+1)=l.take i++[v]:=by rw [zH6,hx];rfl
  rw [xz,Xr,zj,if_pos (by omega),wS (by omega) (by omega),zGO,zHv,hx,zGO,zW (a:=v-1) (by omega) (by omega),zqK (by omega) (by omega) (by omega),zGO,zW (a:=(i:Int)+1) (by omega) (by omega),zGO]
  obtain ⟨met',e1,e2⟩:=ih (i+1) l (met.set (v-1).toNat 1) (by omega) (by omega) hl hr (by rw [zHo];exact hm) (fun o ho=>by
   rw [zj8 (by omega) ho,ht o ho,htk]
   by_cases e:o=v
   ·rw [if_pos e,if_pos (by rw [e];simp)]
   ·rw [if_neg e]
    by_cases e2:o∈l.take i
    ·rw [if_pos e2,if_pos (zG7 _ e2)]
    ·rw [if_neg e2,if_neg (fun h=>(zHb.1 h).elim e2 (fun h=>e (by simpa using h)))]) m (by omega)
  refine ⟨met',?_,e2⟩
  have:((i+1:Nat):Int)=(i:Int)+1:=by omega
  rw [<-this]
  exact e1
theorem zzJ {met:List Int}(hl:met.length=64):∃S,zcB met=some (S,())/\∀o,zI S o=true↔1<=o/\0<mt met o:=by
 rw [zpc,zj,if_pos hl]
 have key:=xW (f:=zal) (fun a=>∃(i:Nat) (S:BitVec 64),i<=64/\a=(S,met,(i:Int),())/\∀o,zI S o=true↔(1<=o/\o<=(i:Int))/\0<mt met o) (fun a=>64-a.2.2.1.toNat) (fun o=>∃S,o= .brk (S,())/\∀o,zI S o=true↔1<=o/\0<mt met o) (by
  rintro _ ⟨i,S,hi,rfl,hS⟩
  rw [zmE,zj]
  by_cases c:(i:Int)<64
  ·have hx:=zsZ (met:=met) (o:=(i:Int)+1) (by omega)
   rw [show ((i:Int)+1-1).toNat=i by omega] at hx
   rw [if_pos c,zqK (by omega) (by omega) c,zGO,zHv,hx,zGO,zj,zW (a:=(i:Int)+1) (by omega) (by omega),zfM,zGO]
   by_cases hp:0<mt met ((i:Int)+1)
   ·rw [if_pos hp]
    refine ⟨_,rfl,⟨i+1,_,by omega,rfl,fun o=>?_⟩,?_⟩
    ·dsimp only
     rw [wq _ (by omega),hS o]
     constructor
     ·rintro (⟨a,b⟩ | rfl)
      ·exact ⟨by omega,b⟩
      ·exact ⟨by omega,hp⟩
     ·rintro ⟨a,b⟩
      by_cases e:o=(i:Int)+1
      ·exact .inr e
      ·exact .inl ⟨by omega,b⟩
    ·show 64-((i:Int)+1).toNat<64-(i:Int).toNat
     omega
   ·rw [if_neg hp]
    refine ⟨_,rfl,⟨i+1,S,by omega,rfl,fun o=>?_⟩,?_⟩
    ·rw [hS o]
     constructor
     ·rintro ⟨a,b⟩;exact ⟨by omega,b⟩
     ·rintro ⟨a,b⟩
      by_cases e:o=(i:Int)+1
      ·rw [e] at b;exact absurd b hp
      ·exact ⟨by omega,b⟩
    ·show 64-((i:Int)+1).toNat<64-(i:Int).toNat
     omega
  ·rw [if_neg c]
   refine ⟨_,rfl,S,rfl,fun o=>?_⟩
   rw [hS o]
   have hi:i=64:=by omega
   subst hi
   constructor
   ·rintro ⟨a,b⟩;exact ⟨a.1,b⟩
   ·rintro ⟨a,b⟩
    refine ⟨⟨a,?_⟩,b⟩
    by_cases h:64<o
    ·exfalso
     unfold mt at b
     rw [zGS,zHR (by omega)] at b
     exact absurd b (by show ¬(0:Int)<0;decide)
    ·show o<=64;omega) (0#64,met,0,()) ⟨0,0#64,by omega,rfl,fun o=>⟨fun e=>absurd e (XO o),fun e=>by have:=e.1;omega⟩⟩ (by show 64-0<18446744073709551616;decide)
 obtain ⟨o,e,S,rfl,hS⟩:=key
 refine ⟨S,?_,hS⟩
 exact congrArg (fun o=>Option.bind o _) e
theorem zyy {h:zr}(hn:h.Objs.length<=9) (hs:∀l∈h.Objs,l.length<1000000) (R:BitVec 64):∃S,XW h R=some (S,())/\∀o,zI S o=true↔Reach h R o:=by
 have hso:∀o,(zK h o).length<1000000:=fun o=>by
  unfold zK
  rw [zGS]
  cases hx:h.Objs[(o-1).toNat]? with
  | none=>show ([]:List Int).length<_;simp
  | some l=>exact hs l (zGW hx)
 have hF:=fun o=>zoM hn o
 have hA:∀o,zI (R&&&vd (h.Objs.length:Int)) o=true↔zI R o=true/\1<=o/\o<=(h.Objs.length:Int):=fun o=>by rw [za6,hF]
 have h9:∀o,zI (R&&&vd (h.Objs.length:Int)) o=true->o<=9:=fun o e=>by have:=(hA o).1 e;omega
 have hw:=zDc (R&&&vd (h.Objs.length:Int))
 have hwl:=zv7 (R&&&vd (h.Objs.length:Int))
 generalize hwd:Xv (R&&&vd (h.Objs.length:Int))=wait at hw hwl
 obtain ⟨met,e1,m1,m2⟩:=zBj (h:=h) (a1:=vd (h.Objs.length:Int)) (a5:=List.replicate 64 (0:Int)) wait.length 0 wait (List.replicate 64 (0:Int)) rfl (zHV _) (by omega) (fun o ho=>by have:=(hw o).1 ho;omega) (by simp) (fun o _=>by rw [zEM];simp) (wait.length+1) (by omega)
 have hz:=zDt met
 have I:RI h R met wait:=by
  refine ⟨m1,fun o ho=>?_,fun o ho hp=>?_,fun o ho hr=>?_,fun o ho=>?_,fun o ho hp hno=>?_,by omega⟩
  ·rw [m2 o ho];split<;>omega
  ·rw [m2 o ho] at hp
   split at hp
   ·rename_i hm
    have a:=(hA o).1 ((hw o).1 hm).2.2
    exact .root o a.1 a.2
   ·omega
  ·rw [m2 o hr.1,if_pos ((hw o).2 ⟨hr.1,by omega,(hA o).2 ⟨ho,hr⟩⟩)];decide
  ·have a:=(hA o).1 ((hw o).1 ho).2.2
   refine ⟨a.2,?_⟩
   rw [m2 o a.2.1,if_pos ho];decide
  ·rw [m2 o ho,if_neg hno] at hp;omega
 obtain ⟨met',e2,I'⟩:=zDN (a7:=List.replicate 64 (0:Int)) hn hso (wait.length+2*Wv met) met wait (zGT _) (by omega) I (wait.length+2*Wv met+1) (by omega)
 obtain ⟨S,e3,hS⟩:=zzJ I'.len
 refine ⟨S,?_,fun o=>?_⟩
 ·have hrd:vQ=18446744073709551616:=rfl
  have ew:Yp h R=some (met',()):=by
   rw [zdh,zwb _ (by omega),zGO,zCW h9,zGO,hwd]
   refine (congrArg (fun o=>Option.bind o _) (zsd e1 (by omega))).trans ?_
   rw [zGO]
   dsimp only
   refine (congrArg (fun o=>Option.bind o _) (zsd e2 (by omega))).trans ?_
   rw [zGO]
   dsimp only
   rw [zj,zj,zj,if_pos I'.len,if_pos (by simp),if_pos I'.len]
  rw [zs9,ew,zGO,e3];rfl
 ·rw [hS o]
  constructor
  ·rintro ⟨a,b⟩;exact I'.rc o a b
  ·intro r
   induction r with
   | root o h1 h2=>exact ⟨h2.1,I'.rt o h1 h2⟩
   | step o v _ h2 h3 ih=>exact ⟨h3.1,I'.cl o ih.1 ih.2 (by simp) v h2 h3⟩
def zlN (h:zr) (R:BitVec 64):BitVec 64:=match XW h R with | some x=>x.1 | none=>0#64
theorem znY {h:zr}(hn:h.Objs.length<=9) (hs:∀l∈h.Objs,l.length<1000000) (R:BitVec 64):XW h R=some (zlN h R,()):=by
 obtain ⟨S,e,_⟩:=zyy hn hs R
 unfold zlN
 rw [e]
theorem zpY {h:zr}(hn:h.Objs.length<=9) (hs:∀l∈h.Objs,l.length<1000000) (R:BitVec 64) (o:Int):zI (zlN h R) o=true↔Reach h R o:=by
 obtain ⟨S,e,h2⟩:=zyy hn hs R
 unfold zlN
 rw [e]
 exact h2 o
end
end Go.Pe.G
namespace Go.Pe.G
open Go.Pe
noncomputable section
theorem zy7 (s:BitVec 64):List.Pairwise (fun a b:Int=>a<=b) (Xv s):=by
 unfold Xv
 rw [List.pairwise_map]
 refine (List.Pairwise.filter _ (List.pairwise_lt_range (n:=9))).imp (fun h=>?_)
 omega
theorem zzt (s:BitVec 64):(Xv s).Nodup:=by
 unfold Xv
 have:List.Pairwise (fun a b:Int=>a≠b) (((List.range 9).filter fun i=>s.getLsbD i).map fun i:Nat=>(i:Int)+1):=by
  rw [List.pairwise_map]
  refine (List.Pairwise.filter _ (List.pairwise_lt_range (n:=9))).imp (fun h=>?_)
  omega
 exact this
theorem zBQ {s:BitVec 64}{o:Int}:o∈Xv s↔zI s o=true/\o<=9:=by
 unfold Xv
 rw [zG2]
 constructor
 ·rintro ⟨i,hi,rfl⟩
  rw [zH9,zHl] at hi
  refine ⟨(xy _ _).2 ⟨by omega,by omega,?_⟩,by omega⟩
  rw [show ((i:Int)+1-1).toNat=i by omega];exact hi.2
 ·rintro ⟨h,h9⟩
  obtain ⟨a,b,c⟩:=(xy _ _).1 h
  exact ⟨(o-1).toNat,zH9.2 ⟨zHl.2 (by omega),c⟩,by omega⟩
def zdx (s:za):BitVec 64:=s.T.Marks&&& ~~~s.T.Black
theorem zwn {s:za}(o:Int):zI (zdx s) o=true↔xg s.T o=1:=by
 unfold zdx
 rw [za6,ux]
 constructor
 ·rintro ⟨a,b⟩
  have:=(xy _ _).1 a
  exact ⟨a,(zkm _ ⟨this.1,this.2.1⟩).1 b⟩
 ·rintro ⟨a,b⟩
  have:=(xy _ _).1 a
  exact ⟨a,(zkm _ ⟨this.1,this.2.1⟩).2 b⟩
theorem zDj {p:zb}(h:zB p) {nb k:Nat}{s:za}{gh:Gh}(G:FG p nb k s gh):List.Perm (vV p s gh) (Xv (zdx s)):=by
 refine (List.perm_ext_iff_of_nodup G.B.nd (zzt _)).2 (fun o=>?_)
 rw [zBQ,zwn,G.B.gr]
 exact ⟨fun e=>⟨e,((G.bag9 h).2 o ((G.B.gr o).2 e)).2⟩,fun e=>e.1⟩
theorem zD2 {p:zb}(h:zB p) {nb k:Nat}{s:za}{gh:Gh}(G:FG p nb k s gh):uj (vV p s gh)=Xv (zdx s) :=
 zqd (zb1 _) (zy7 _) ((Va _).trans (zDj h G))
theorem zyd {p:zb}(h:zB p) {k:Nat}{s:za}{gh:Gh}(G:FG p (zS p+1) k s gh):U8 s=some (Xv (zdx s),()):=by
 rw [zCX h G,zD2 h G]
def atS (g:zx) (a b v:Int):Int:=if g.Out=0 then (if a<=g.PC then (if g.PC<=b then v else 0) else 0) else 0
theorem zCZ (g:zx):zmv g=some (atS g 0 1 g.Obj,()):=by
 rw [zvg,zku]
 simp only [zj]
 unfold atS
 split
 ·split
  ·split<;>rfl
  ·rfl
 ·rfl
def zfG (x:zc):Prop:=x.PC=21\/x.PC=22\/(x.Ret=22/\(x.PC=1\/x.PC=3))
instance (x:zc):Decidable (zfG x):=by unfold zfG;infer_instance
def zbn (a:BitVec 64) (x:zc):BitVec 64:=if zfG x then (a|||zgb x.Buf)|||bit x.Old else a|||zgb x.Buf
def zlh (s:za):BitVec 64:=s.Ms.foldl zbn ((uV s).foldl (fun a g=>a|||bit (atS g 0 1 g.Obj)) 0#64)
theorem zaP {s:za}(hs:Yt s) (h1:s.Ws.length<=100) (h2:s.Ms.length<=100):Yi s=some (zlh s,()):=by
 rw [zrx,zoS h1 h2,zGO]
 dsimp only
 have hl:(uV s).length<=200:=by
  unfold uV
  rw [zG1,zHM,zHM]
  have:=zH7 (fun x:zg=>decide (x.PC=6)) s.Ws
  have:=zH7 (fun x:zc=>decide (x.PC=3\/x.PC=37)) s.Ms
  omega
 obtain ⟨e,_⟩:=Zp (f:=Xp) (fun j r=>(r,((uV s).length:Int),j,s,uV s,())) (fun r=>(r,s,())) (uV s) (by omega) (fun (a:BitVec 64) g=>a|||bit (atS g 0 1 g.Obj)) (fun _ _=>True) (s:=0#64) trivial
  (fun i r x hx hi hr=>by
   refine ⟨trivial,?_⟩
   show Xp (r,((uV s).length:Int),(i:Int),s,uV s,())=_
   rw [zdn,zj,if_pos (by omega),wS (by omega) (by omega),zGO,zHv,hx,zGO,zCZ,zGO,zfM,zGO,yz (by omega)])
  (fun r hr=>by
   show Xp (r,((uV s).length:Int),((uV s).length:Int),s,uV s,())=_
   rw [zdn,zj,if_neg (by omega)])
 rw [e,zGO]
 dsimp only
 obtain ⟨e,_⟩:=Zp (f:=Xm) (fun j r=>(r,s.Ms,(s.Ms.length:Int),j,())) (fun r=>(r,())) s.Ms (by omega) zbn (fun _ _=>True) (s:=(uV s).foldl (fun (a:BitVec 64) g=>a|||bit (atS g 0 1 g.Obj)) 0#64) trivial
  (fun i r x hx hi hr=>by
   refine ⟨trivial,?_⟩
   show Xm (r,s.Ms,(s.Ms.length:Int),(i:Int),())=_
   rw [zdM,zj,if_pos (by omega),xw hx,zGO,zyE (hs.mu x (zGW hx)).2.1,zGO,yz (by omega),zfM,zGO]
   simp only [zj]
   unfold zbn
   by_cases c1:x.PC=21
   ·rw [if_pos c1,if_pos (show zfG x from .inl c1)]
   rw [if_neg c1]
   by_cases c2:x.PC=22
   ·rw [if_pos c2,if_pos (show zfG x from .inr (.inl c2))]
   rw [if_neg c2]
   by_cases c3:x.Ret=22
   ·rw [if_pos c3]
    by_cases c4:x.PC=1
    ·rw [if_pos c4,if_pos (show zfG x from .inr (.inr ⟨c3,.inl c4⟩))]
    rw [if_neg c4]
    by_cases c5:x.PC=3
    ·rw [if_pos c5,if_pos (show zfG x from .inr (.inr ⟨c3,.inr c5⟩))]
    ·rw [if_neg c5,if_neg (show ¬zfG x by unfold zfG;omega)]
   ·rw [if_neg c3,if_neg (show ¬zfG x by unfold zfG;omega)])
  (fun r hr=>by
   show Xm (r,s.Ms,(s.Ms.length:Int),(s.Ms.length:Int),())=_
   rw [zdM,zj,if_neg (by omega)])
 rw [e];rfl
def ztj (a:BitVec 64) (l:List zc):BitVec 64:=l.foldl (fun a x=>a|||zgb x.Regs) a
theorem zwp {s:za}(hs:Yt s):zgm s=some (ztj 0#64 s.Ms,()):=by
 have hl:=hs.ms
 rw [zvm]
 obtain ⟨e,_⟩:=Zp (f:=Ub) (fun j r=>(r,s.Ms,(s.Ms.length:Int),j,())) (fun r=>(r,())) s.Ms hl (fun (a:BitVec 64) x=>a|||zgb x.Regs) (fun _ _=>True) (s:=0#64) trivial
  (fun i r x hx hi hr=>by
   refine ⟨trivial,?_⟩
   show Ub (r,s.Ms,(s.Ms.length:Int),(i:Int),())=_
   rw [zim,zj,if_pos (by omega),xw hx,zGO,zyE (hs.mu x (zGW hx)).1,zGO,yz (by omega)])
  (fun r hr=>by
   show Ub (r,s.Ms,(s.Ms.length:Int),(s.Ms.length:Int),())=_
   rw [zim,zj,if_neg (by omega)])
 rw [e];rfl
def zsW (s:za):BitVec 64:=zlN s.H (s.P.Roots|||ztj 0#64 s.Ms)
theorem zwG {s:za}(hs:Yt s) (hn:s.H.Objs.length<=9):zf8 s=some (zsW s,()):=by
 rw [zu5,zwp hs,zGO,znY hn hs.obj,zGO];rfl
def zml (x:zg):Bool:= !decide (x.Obj=0)||decide (0<(x.Batch.length:Int))
def zn6 (x:zc):Bool:= !decide (x.Obj=0)||decide (0<(x.Batch.length:Int)+(x.Buf.length:Int))
theorem zEy {l:List zg}(hl:l.length<1000000):yR l=some (l.any zml,()):=by
 rw [u4,Zn]
 obtain ⟨o,e,ho⟩:=xW (f:=yQ) (fun a=>∃i:Nat,i<=l.length/\a=(l,(l.length:Int),(i:Int),())/\l.any zml=(l.drop i).any zml) (fun a=>l.length-a.2.2.1.toNat) (fun o=>(o= .brk ()/\l.any zml=false)\/∃i:Nat,o= .ret ((i:Int),())/\l.any zml=true) (by
  rintro _ ⟨i,hi,rfl,ha⟩
  rw [uZ,zj]
  by_cases c1:(i:Int)<(l.length:Int)
  ·have hx:=zGQ (show i<l.length by omega)
   have hd:=zHA (show i<l.length by omega)
   generalize l[i]'(by omega)=x at hx hd
   rw [hd,List.any_cons] at ha
   have hq:zfT x=some (zml x,()):=by
    rw [zq7];unfold zml
    cases decide (x.Obj=0)<;>rfl
   rw [if_pos c1,xw hx,zGO,hq,zGO]
   cases hc:zml x with
   | true=>exact ⟨_,rfl,.inr ⟨i,rfl,by rw [ha,hc];rfl⟩⟩
   | false =>
    rw [yz (by omega)]
    refine ⟨_,rfl,⟨i+1,by omega,rfl,by rw [ha,hc];rfl⟩,?_⟩
    show l.length-((i+1:Nat):Int).toNat<l.length-(i:Int).toNat
    omega
  ·rw [if_neg c1]
   have:i=l.length:=by omega
   subst this
   rw [List.drop_length] at ha
   exact ⟨_,rfl,.inl ⟨rfl,ha⟩⟩) (l,(l.length:Int),0,()) ⟨0,by omega,rfl,rfl⟩ (by show l.length-0<18446744073709551616;omega)
 rw [e]
 rcases ho with ⟨rfl,hn⟩ | ⟨i,rfl,hn⟩
 ·rw [hn];rfl
 ·rw [hn]
  show some (decide ((0:Int)<=(i:Int)),())=_
  rw [decide_eq_true (by omega)]
theorem zE8 {l:List zc}(hl:l.length<1000000) (hb:∀x∈l,x.Buf.length<1000000/\x.Batch.length<1000000):yJ l=some (l.any zn6,()):=by
 rw [uK,Zc]
 obtain ⟨o,e,ho⟩:=xW (f:=yK) (fun a=>∃i:Nat,i<=l.length/\a=(l,(l.length:Int),(i:Int),())/\l.any zn6=(l.drop i).any zn6) (fun a=>l.length-a.2.2.1.toNat) (fun o=>(o= .brk ()/\l.any zn6=false)\/∃i:Nat,o= .ret ((i:Int),())/\l.any zn6=true) (by
  rintro _ ⟨i,hi,rfl,ha⟩
  rw [uH,zj]
  by_cases c1:(i:Int)<(l.length:Int)
  ·have hx:=zGQ (show i<l.length by omega)
   have hd:=zHA (show i<l.length by omega)
   have hm:=zHj (show i<l.length by omega)
   generalize l[i]'(by omega)=x at hx hd hm
   rw [hd,List.any_cons] at ha
   have hbx:=hb x hm
   have hq:zfj x=some (zn6 x,()):=by
    rw [zrj,zW (by omega) (by omega)];unfold zn6
    cases decide (x.Obj=0)<;>rfl
   rw [if_pos c1,xw hx,zGO,hq,zGO]
   cases hc:zn6 x with
   | true=>exact ⟨_,rfl,.inr ⟨i,rfl,by rw [ha,hc];rfl⟩⟩
   | false =>
    rw [yz (by omega)]
    refine ⟨_,rfl,⟨i+1,by omega,rfl,by rw [ha,hc];rfl⟩,?_⟩
    show l.length-((i+1:Nat):Int).toNat<l.length-(i:Int).toNat
    omega
  ·rw [if_neg c1]
   have:i=l.length:=by omega
   subst this
   rw [List.drop_length] at ha
   exact ⟨_,rfl,.inl ⟨rfl,ha⟩⟩) (l,(l.length:Int),0,()) ⟨0,by omega,rfl,rfl⟩ (by show l.length-0<18446744073709551616;omega)
 rw [e]
 rcases ho with ⟨rfl,hn⟩ | ⟨i,rfl,hn⟩
 ·rw [hn];rfl
 ·rw [hn]
  show some (decide ((0:Int)<=(i:Int)),())=_
  rw [decide_eq_true (by omega)]
def zuF (s:za):Bool:=(Xv (zdx s)).isEmpty&& !(s.Ws.any zml)&& !(s.Ms.any zn6)
theorem zsY {p:zb}(h:zB p) {k:Nat}{s:za}{gh:Gh}(G:FG p (zS p+1) k s gh):zdp s=some (zuF s,()):=by
 have hs:=G.E.small
 rw [zt5,zyd h G,zGO,zEy hs.ws,zGO,zE8 hs.ms (fun x hx=>(hs.mu x hx).2),zGO]
 unfold zuF
 dsimp only
 cases hl:Xv (zdx s) with
 | nil =>
  show (bif decide ((0:Int)=0) then _ else _)=_
  rw [decide_eq_true rfl,cond_true]
  cases s.Ws.any zml<;>rfl
 | cons a l =>
  rw [decide_eq_false (show ¬(((a::l).length:Nat):Int)=0 by rw [zG8];omega)];rfl
end
end Go.Pe.G
namespace Go.Pe.G
open Go.Pe
noncomputable section
theorem zDk:∀t:Fin 64,cnt (BitVec.ofNat 64 t.1)=((Wx (BitVec.ofNat 64 t.1)).length:Int):=by decide +kernel
theorem zBV {s:BitVec 64}(h:s&&& ~~~63#64=0#64):cnt s=((Wx s).length:Int):=by
 have hs:s.toNat<64:=by
  have e:s=s&&&63#64:=by
   have:s=(s&&&63#64)|||(s&&& ~~~63#64):=by
    apply zIg
    intro i hi
    simp only [BitVec.getLsbD_or,zHX,zIr]
    cases s.getLsbD i<;>cases (63#64:BitVec 64).getLsbD i<;>simp [hi]
   rw [h,BitVec.or_zero] at this
   exact this
  rw [e,zHY]
  have:s.toNat&&&(63#64:BitVec 64).toNat<=(63#64:BitVec 64).toNat:=Nat.and_le_right
  have e63:(63#64:BitVec 64).toNat=63:=by decide
  omega
 have:=zDk ⟨s.toNat,hs⟩
 have e:BitVec.ofNat 64 s.toNat=s:=by simp
 rw [e] at this
 exact this
theorem zuJ {p:zb}(h:zB p):EG p (zS p+1) 0 (yr p) (gh0 p):=by
 have hms:∀x∈(yr p).Ms,x.PC=0:=fun x hx=>by
  obtain ⟨r,_,e⟩:=zG2.1 (show x∈p.Regs.map vi from hx)
  rw [<-e];rfl
 have hws:∀x∈(yr p).Ws,∃i:Nat,x=ub p i:=fun x hx=>by
  obtain ⟨j,_,e⟩:=zG2.1 (show x∈(List.range p.Workers.toNat).map (ub p) from hx)
  exact ⟨j,e.symm⟩
 have z:∀ {l:List Int},(∀v∈l,v=0)->l.sum=0:=fun {l} h=>by
  induction l with
  | nil=>rfl
  | cons a l ih=>rw [List.sum_cons,h a (zHc ..),ih (fun v hv=>h v (zGX _ hv))];rfl
 have ho:zag (yr p)=0:=by
  unfold zag
  rw [z (fun v hv=>by
   obtain ⟨x,hx,rfl⟩:=zG2.1 hv
   obtain ⟨i,rfl⟩:=hws x hx
   rfl),z (fun v hv=>by
   obtain ⟨x,hx,rfl⟩:=zG2.1 hv
   have:=hms x hx
   unfold owX;rw [if_neg (by omega),if_neg (by omega)])]
  rfl
 have hold1:(yr p).Ms.flatMap (zZ (yr p))=[]:=zaX (fun x hx=>by
  obtain ⟨r,_,e⟩:=zG2.1 (show x∈p.Regs.map vi from hx)
  rw [<-e]
  unfold zZ
  rw [uy ⟨by show (0:Int)≠3;decide,by show (0:Int)≠33;decide,by show (0:Int)≠36;decide,by show (0:Int)≠37;decide,by show (0:Int)≠38;decide⟩];rfl)
 have hold2:(yr p).Ws.flatMap (zQ (yr p))=[]:=zaX (fun x hx=>by
  obtain ⟨i,rfl⟩:=hws x hx
  have hb:ub p i=V0 p ((i:Int)+1) (ub p i):=rfl
  unfold zQ
  rw [hb,ziv];rfl)
 have hb:vV p (yr p) (gh0 p)=Wx (u5 p):=by
  unfold vV
  rw [hold1,hold2,zGR,zGR,zAa h]
 have hc:=zBV (zgw h)
 have hw:(yr p).Work=cnt (u5 p):=rfl
 have hl:=zlL h
 have hn:=h.n
 exact ⟨zFY h,by rw [hb,ho,hw,hc];omega,by rw [hw,hc];omega⟩
end
end Go.Pe.G
namespace Go.Pe.G
open Go.Pe
noncomputable section
def zqQ (p:zb):BitVec 64:=zlN p.H (u5 p)
theorem zB.heap9 {p:zb}(h:zB p):p.H.Objs.length<=9/\∀l∈p.H.Objs,l.length<1000000:=by
 have:=h.n
 have:=h.slots
 exact ⟨by omega,fun l hl=>by have:=(h.objs l hl).1;omega⟩
theorem zDa {p:zb}(h:zB p):zmI p=some (zqQ p,()):=by
 have hr:=h.regs
 have hm:=h.mt
 rw [zvy,zsX (by omega) (fun r hr=>by have:=(h.reg r hr).1;omega),zGO,znY h.heap9.1 h.heap9.2];rfl
theorem zDw {p:zb}(h:zB p) (o:Int):zI (zqQ p) o=true↔Reach p.H (u5 p) o:=zpY h.heap9.1 h.heap9.2 _ o
theorem zAA {h:zr}(hv:∀l∈h.Objs,∀v∈l,0<=v/\v<=(h.Objs.length:Int)) {o i:Int}(hne:zH h o i≠0):zH h o i∈zK h o/\1<=zH h o i/\zH h o i<=(h.Objs.length:Int):=by
 unfold zH at hne ⊢
 split
 ·rename_i hs
  rw [if_pos hs] at hne
  unfold yA at hs
  simp only [zGP,decide_eq_true_eq] at hs
  obtain ⟨⟨⟨h1,h2⟩,h3⟩,h4⟩:=hs
  have eo:=zGQ (show (o-1).toNat<h.Objs.length by omega)
  have es:zK h o=h.Objs[(o-1).toNat]'(by omega):=by unfold zK;rw [zGS,eo];rfl
  have ei:=zGQ (show i.toNat<(zK h o).length by omega)
  have eg:(zK h o).getD i.toNat 0=(zK h o)[i.toNat]'(by omega):=by rw [zGS,ei];rfl
  rw [eg] at hne ⊢
  have hm:(zK h o)[i.toNat]'(by omega)∈zK h o:=zHj _
  have:=hv _ (by rw [es];exact zHj _) _ hm
  exact ⟨hm,by omega,this.2⟩
 ·rename_i hs;rw [if_neg hs] at hne;exact absurd rfl hne
end
end Go.Pe.G
namespace Go.Pe.G
open Go.Pe
noncomputable section
def zjt (x:zg) (u j:Int):Prop:=(x.PC=5\/x.PC=6\/x.PC=8)->x.Obj=u->x.Slot<=j
def zsz (x:zc) (u j:Int):Prop:=(x.PC=36\/x.PC=37\/x.PC=38)->x.Obj=u->x.Slot<=j
def US (s:za) (u j:Int):Prop:=(∀(i:Nat) x,s.Ws[i]? =some x->zjt x u j)/\(∀(i:Nat) x,s.Ms[i]? =some x->zsz x u j)
def zxO (g:zx) (o:Int):Prop:=g.Out=0/\(g.PC=0\/g.PC=1)/\g.Obj=o
def zlR (x:zg) (o:Int):Prop:=x.PC=6/\zxO x.G o
def zow (x:zc) (o:Int):Prop:=o∈x.Buf\/((x.PC=22\/((x.PC=1\/x.PC=3)/\x.Ret=22))/\x.Old=o)\/((x.PC=3\/x.PC=37)/\zxO x.G o)
def zoI (s:za) (o:Int):Prop:=(∃(i:Nat) (x:zg),s.Ws[i]? =some x/\zlR x o)\/(∃(i:Nat) (x:zc),s.Ms[i]? =some x/\zow x o)
inductive znH (s:za) (W:Int->Int->Prop):Int->Prop
 | pend (o:Int) (h:zoI s o):znH s W o
 | white (u j o:Int) (hW: ¬W u j) (hj:yA s.H u j=true) (he:zH s.H u j=o) (hu: ¬zI s.T.Marks u=true) (hp:znH s W u):znH s W o
 | grey (u j o:Int) (hW: ¬W u j) (hj:yA s.H u j=true) (he:zH s.H u j=o) (hg:xg s.T u=1) (hs:US s u j):znH s W o
structure zuM (s s':za) (W W':Int->Int->Prop):Prop where
 mono:∀o,zI s.T.Marks o=true->zI s'.T.Marks o=true
 hp:∀o,zoI s o->zI s'.T.Marks o=true\/zoI s' o
 he:∀u j,¬W u j->yA s.H u j=true->(¬W' u j/\yA s'.H u j=true/\zH s'.H u j=zH s.H u j)\/(zH s.H u j=0\/zI s'.T.Marks (zH s.H u j)=true\/zoI s' (zH s.H u j))
 hg:∀u j,¬W u j->yA s.H u j=true->xg s.T u=1->US s u j->(xg s'.T u=1/\US s' u j)\/(zH s.H u j=0\/zI s'.T.Marks (zH s.H u j)=true\/zoI s' (zH s.H u j))
 hn:∀u j,¬W u j->yA s.H u j=true->¬zI s.T.Marks u=true->zI s'.T.Marks u=true->xg s'.T u=1/\US s' u j
theorem ZW {h:zr}{u j:Int}(e:yA h u j=true):(1<=u/\u<=(h.Objs.length:Int))/\0<=j/\j<((zK h u).length:Int):=by
 unfold yA at e
 simp only [zGP,decide_eq_true_eq] at e
 exact ⟨⟨e.1.1.1,e.1.1.2⟩,e.1.2,e.2⟩
theorem zuM.prot {s s':za}{W W':Int->Int->Prop}(P:zuM s s' W W') {o:Int}(h:znH s W o):o≠0->zI s'.T.Marks o=true\/znH s' W' o:=by
 have cov:∀v:Int,v≠0->(v=0\/zI s'.T.Marks v=true\/zoI s' v)->zI s'.T.Marks v=true\/znH s' W' v:=by
  rintro v h0 (e | e | e)
  ·exact absurd e h0
  ·exact .inl e
  ·exact .inr (.pend v e)
 induction h with
 | pend o h=>exact fun _=>(P.hp o h).imp id (fun h=>.pend o h)
 | white u j o hW hj he hu hp ih =>
  intro h0
  subst he
  have hu0:u≠0:=by have:=ZW hj;omega
  rcases P.he u j hW hj with ⟨a,b,c⟩ | c
  ·by_cases hm:zI s'.T.Marks u=true
   ·obtain ⟨d,e⟩:=P.hn u j hW hj hu hm
    exact .inr (.grey u j _ a b c d e)
   ·rcases ih hu0 with h | h
    ·exact absurd h hm
    ·exact .inr (.white u j _ a b c hm h)
  ·exact cov _ h0 c
 | grey u j o hW hj he hg hs =>
  intro h0
  subst he
  rcases P.he u j hW hj with ⟨a,b,c⟩ | c
  ·rcases P.hg u j hW hj hg hs with ⟨d,e⟩ | c2
   ·exact .inr (.grey u j _ a b c d e)
   ·exact cov _ h0 c2
  ·exact cov _ h0 c
def znF (n:Int) (x:zg):Prop:=(x.PC=5->0<=x.Slot/\x.Slot<n)/\(x.PC=6->1<=x.Slot/\x.Slot<=n)/\(x.PC=8->x.Slot=n)
def ztu (n:Int) (x:zc):Prop:=(x.PC=36->0<=x.Slot/\x.Slot<n)/\(x.PC=37->1<=x.Slot/\x.Slot<=n)/\(x.PC=38->x.Slot=n)
def zps (p:zb) (s:za) (W:Int->Int->Prop) (m:Int) (x:zc):Prop :=
 ¬W (uz x (opM p m x).A) (opM p m x).S->((x.PC=21\/x.PC=22\/((x.PC=1\/x.PC=3)/\x.Ret=22))->x.Old=zH s.H (uz x (opM p m x).A) (opM p m x).S) /\
  (x.PC=23->zH s.H (uz x (opM p m x).A) (opM p m x).S=0\/zI s.T.Marks (zH s.H (uz x (opM p m x).A) (opM p m x).S)=true\/zH s.H (uz x (opM p m x).A) (opM p m x).S∈x.Buf)
structure PI (p:zb) (s:za) (W:Int->Int->Prop):Prop where
 lv:∀o,Reach p.H (u5 p) o->zI s.T.Marks o=true\/znH s W o
 sw:∀(i:Nat) x,s.Ws[i]? =some x->znF p.H.Slots x
 sx:∀(i:Nat) x,s.Ms[i]? =some x->ztu p.H.Slots x
 cv:∀(i:Nat) x,s.Ms[i]? =some x->zps p s W ((i:Int)+1) x
theorem zsC {s:za}{g:zx}{o:Int}(hmd:1<=g.Mode/\g.Mode<=3) (ho:1<=o/\o<=64) (hb:zI s.T.Black o=true->zI s.T.Marks o=true) (a:zxO g o) :
  zxO (zt s g).2 o\/zI (zt s g).1.T.Marks o=true:=by
 obtain ⟨h1,h2,h3⟩:=a
 unfold zt
 rw [if_neg (by omega),if_neg (by omega),if_neg (by omega),if_neg (by omega),if_neg (by omega),if_neg (by omega),if_neg (by omega)]
 split
 ·right
  show zI (uf s.T g.Obj).1.Marks o=true
  rw [h3]
  unfold uf
  split
  ·rename_i e
   exact Decidable.byContradiction fun hc=>((zdH ho).2 hc) e
  split
  ·exact (wq _ ho o).2 (.inr rfl)
  ·rename_i e
   exact hb (by unfold zI;simpa using e)
 ·left
  exact ⟨h1,.inr rfl,h3⟩
end
end Go.Pe.G
namespace Go.Pe.G
open Go.Pe
noncomputable section
theorem zE6 {h:zr}{a i v u j:Int}(hne: ¬(u=a/\j=i)) (hi:yA h a i=true->0<=i):yA (ZZ h a i v) u j=yA h u j/\zH (ZZ h a i v) u j=zH h u j:=by
 have hl:=zcT h a i v
 by_cases hc:yA h a i=true/\0<=v/\v<=(h.Objs.length:Int)
 ·have hs:=ZW hc.1
  have e0:ZZ h a i v={h with Objs:=h.Objs.set (a-1).toNat ((zK h a).set i.toNat v)}:=by unfold ZZ;rw [if_pos hc]
  have es:1<=u->zK (ZZ h a i v) u=if u=a then (zK h a).set i.toNat v else zK h u:=fun hu=>by
   rw [e0]
   unfold zK
   rw [zy8 (by omega)]
   by_cases e:u=a
   ·rw [if_pos (by omega),if_pos e]
   ·rw [if_neg (by omega),if_neg e]
  have eh:yA (ZZ h a i v) u j=yA h u j:=by
   unfold yA
   rw [hl]
   by_cases hu:1<=u
   ·rw [es hu]
    by_cases e:u=a
    ·rw [if_pos e,zHo,e]
    ·rw [if_neg e]
   ·simp [hu]
  refine ⟨eh,?_⟩
  unfold zH
  rw [eh]
  split
  ·rename_i hj
   have hp:=ZW hj
   rw [es hp.1.1]
   by_cases e:u=a
   ·rw [if_pos e,zy8 (by omega),if_neg (by
     intro e2
     exact hne ⟨e,by omega⟩),e]
   ·rw [if_neg e]
  ·rfl
 ·have e0:ZZ h a i v=h:=by unfold ZZ;rw [if_neg hc]
  rw [e0];exact ⟨rfl,rfl⟩
theorem zCC (h:zr) (u j:Int):(yA h u j=true->yA (wW h) u j=true)/\zH (wW h) u j=zH h u j:=by
 have hl:=zp3 h
 have e1:1<=u->u<=(h.Objs.length:Int)->zK (wW h) u=zK h u:=fun h1 h2=>by
  unfold zK wW
  rw [zGS,zGS,zHg (by omega)]
 have e2:u=(h.Objs.length:Int)+1->zK (wW h) u=List.replicate h.Slots.toNat 0:=fun h1=>by
  unfold zK wW
  rw [zGS,zHn (by omega),show (u-1).toNat-h.Objs.length=0 by omega]
  rfl
 have e3:yA h u j=true->yA (wW h) u j=true:=fun e=>by
  have hs:=ZW e
  unfold yA
  rw [e1 hs.1.1 hs.1.2,hl]
  simp;omega
 refine ⟨e3,?_⟩
 by_cases c:yA h u j=true
 ·have hs:=ZW c
  unfold zH
  rw [if_pos c,if_pos (e3 c),e1 hs.1.1 hs.1.2]
 ·unfold zH
  rw [if_neg c]
  split
  ·rename_i d
   have hs:=ZW d
   by_cases hu:u<=(h.Objs.length:Int)
   ·refine absurd ?_ c
    rw [e1 hs.1.1 hu] at hs
    unfold yA;simp;omega
   ·rw [e2 (by omega),zGS]
    cases hx:(List.replicate h.Slots.toNat (0:Int))[j.toNat]? with
    | none=>rfl
    | some v=>exact List.eq_of_mem_replicate (zGW hx)
  ·rfl
theorem zDb (s:za) (m:Int) (x:zc):((zp s m x).1.H=s.H/\x.PC≠23)\/(x.PC=23/\(zp s m x).1.H=ZZ s.H (uz x (opM s.P m x).A) (opM s.P m x).S (uz x (opM s.P m x).R)/\(zp s m x).2.Buf=x.Buf)\/(x.PC=30/\(zp s m x).1.H=wW s.H):=by
 by_cases c:x.PC=23
 ·have e:zp s m x=zhv s m x:=by
   unfold zp
   rw [if_neg (by omega),if_neg (by omega),if_neg (by omega),if_neg (by omega),if_neg (by omega),if_neg (by omega),if_neg (by omega),if_neg (by omega),if_pos c]
  rw [e];exact .inr (.inl ⟨c,rfl,rfl⟩)
 by_cases d:x.PC=30
 ·have e:zp s m x=za1 s m x:=by
   unfold zp
   rw [if_neg (by omega),if_neg (by omega),if_neg (by omega),if_neg (by omega),if_neg (by omega),if_neg (by omega),if_neg (by omega),if_neg (by omega),if_neg (by omega),if_pos d]
  rw [e]
  unfold za1
  split
  ·split
   ·exact .inr (.inr ⟨d,rfl⟩)
   ·exact .inl ⟨rfl,c⟩
  ·exact .inl ⟨rfl,c⟩
 ·rcases zsv s m x with h | h | h
  ·exact .inl ⟨h,c⟩
  ·exact absurd h c
  ·exact absurd h d
theorem zD0 {p:zb}{nb:Nat}{s:za}{gh:Gh}{m:Int}{x:zc}(K:MX p s gh x) (O:XOk p nb m x) (hb:∀o,zI s.T.Black o=true->zI s.T.Marks o=true) {o:Int}(h:zow x o):zow (zp s m x).2 o\/zI (zp s m x).1.T.Marks o=true:=by
 have hrt:=O.ret
 have hpc:=O.pc
 refine wu (motive:=fun r=>zow r.2 o\/zI r.1.T.Marks o=true) s m x ?_ ?_ ?_ ?_ ?_ ?_ ?_ ?_ ?_ ?_ ?_ ?_ ?_ ?_ ?_ ?_ ?_ ?_ ?_ ?_
 all_goals try (intro c)
 ·-- 0
  rcases h with h | ⟨h,_⟩ | ⟨h,_⟩
  ·left;left;unfold mu0 UV;repeat' split
   all_goals exact h
  ·omega
  ·omega
 ·-- 1
  unfold mu1;dsimp only
  split
  ·rename_i hl
   rcases h with h | ⟨h,e⟩ | ⟨h,_⟩
   ·have:x.Buf=[]:=List.length_eq_zero_iff.1 hl
    rw [this] at h;cases h
   ·left;right;left;exact ⟨.inl (by show x.Ret=22;omega),e⟩
   ·omega
  ·rename_i hl
   rcases h with h | ⟨h,e⟩ | ⟨h,_⟩
   ·obtain ⟨i,hi⟩:=zIt.1 h
    have hil:=(zGY.1 hi).1
    by_cases hlast:i=x.Buf.length-1
    ·left;right;right
     refine ⟨.inl rfl,rfl,.inl rfl,?_⟩
     show x.Buf.getD (x.Buf.length-1) 0=o
     rw [zGS,<-hlast,hi];rfl
    ·left;left
     show o∈x.Buf.take (x.Buf.length-1)
     exact zGW (i:=i) (by rw [List.getElem?_take_of_lt (by omega)];exact hi)
   ·left;right;left;exact ⟨.inr ⟨.inr rfl,by show x.Ret=22;omega⟩,e⟩
   ·omega
 ·rcases h with h | ⟨h,_⟩ | ⟨h,_⟩
  ·left;left;exact h
  ·omega
  ·omega
 ·-- 3
  obtain ⟨G,gm,g0⟩:=K.p3 c
  unfold mu3;dsimp only
  rcases h with h | ⟨h,e⟩ | ⟨_,h⟩
  ·left;left;split<;>exact h
  ·left;right;left
   split
   ·exact ⟨.inr ⟨.inl rfl,by show x.Ret=22;omega⟩,e⟩
   ·exact ⟨.inr ⟨.inr c,by show x.Ret=22;omega⟩,e⟩
  ·rcases zsC G.md (h.2.2▸G.ob) (hb o) h with h' | h'
   ·left;right;right
    rw [if_neg (by have:=h'.1;omega)]
    exact ⟨.inl c,h'⟩
   ·exact .inr h'
 ·rcases h with h | ⟨h,_⟩ | ⟨h,_⟩
  ·left;left;exact h
  ·omega
  ·omega
 ·rcases h with h | ⟨h,_⟩ | ⟨h,_⟩
  ·left;left;unfold zeZ;dsimp only;split<;>exact h
  ·omega
  ·omega
 ·rcases h with h | ⟨h,_⟩ | ⟨h,_⟩
  ·left;left;unfold zfQ;dsimp only;split<;>exact h
  ·omega
  ·omega
 ·-- 22
  unfold zfV;dsimp only
  rcases h with h | ⟨h,e⟩ | ⟨h,_⟩
  ·left;left;split
   ·exact h
   ·exact zG7 _ h
  ·left
   split
   ·right;left;exact ⟨.inr ⟨.inl rfl,rfl⟩,e⟩
   ·left;exact zHk _ (by rw [e];simp)
  ·omega
 ·rcases h with h | ⟨h,_⟩ | ⟨h,_⟩
  ·left;left;exact h
  ·omega
  ·omega
 ·rcases h with h | ⟨h,_⟩ | ⟨h,_⟩
  ·left;left;unfold za1;repeat' split
   all_goals exact h
  ·omega
  ·omega
 ·rcases h with h | ⟨h,_⟩ | ⟨h,_⟩
  ·left;left;unfold zfE;dsimp only;split<;>exact h
  ·omega
  ·omega
 ·rcases h with h | ⟨h,_⟩ | ⟨h,_⟩
  ·left;left;unfold zfJ;dsimp only;repeat' split
   all_goals exact h
  ·omega
  ·omega
 ·rcases h with h | ⟨h,_⟩ | ⟨h,_⟩
  ·left;left;exact h
  ·omega
  ·omega
 ·rcases h with h | ⟨h,_⟩ | ⟨h,_⟩
  ·left;left;unfold zf0;dsimp only;split<;>exact h
  ·omega
  ·omega
 ·rcases h with h | ⟨h,_⟩ | ⟨h,_⟩
  ·left;left;unfold zfc;dsimp only;split<;>exact h
  ·omega
  ·omega
 ·rcases h with h | ⟨h,_⟩ | ⟨h,_⟩
  ·left;left;unfold zfm;dsimp only;split<;>exact h
  ·omega
  ·omega
 ·-- 37
  obtain ⟨G,gm,g0⟩:=K.p37 c
  unfold zbH;dsimp only
  rcases h with h | ⟨h,e⟩ | ⟨_,h⟩
  ·left;left;split<;>exact h
  ·omega
  ·rcases zsC G.md (h.2.2▸G.ob) (hb o) h with h' | h'
   ·left;right;right
    rw [if_neg (by have:=h'.1;omega)]
    exact ⟨.inr c,h'⟩
   ·exact .inr h'
 ·rcases h with h | ⟨h,_⟩ | ⟨h,_⟩
  ·left;left;exact h
  ·omega
  ·omega
 ·rcases h with h | ⟨h,_⟩ | ⟨h,_⟩
  ·left;left;exact h
  ·omega
  ·omega
 ·exact .inl h
theorem zCf {p:zb}{nb:Nat}{s:za}{gh:Gh}(hsl:s.H.Slots=p.H.Slots) (h1:1<=p.H.Slots/\p.H.Slots<=2) {m:Int}{x:zc}(O:XOk p nb m x) (S:ztu p.H.Slots x) :
  ztu p.H.Slots (zp s m x).2/\∀u j,0<=j->zsz x u j->zsz (zp s m x).2 u j\/zH s.H u j=0\/zow (zp s m x).2 (zH s.H u j):=by
 have no:∀ {y:zc},y.PC≠36->y.PC≠37->y.PC≠38->ztu p.H.Slots y/\∀u j,0<=j->zsz x u j->zsz y u j\/zH s.H u j=0\/zow y (zH s.H u j) :=
  fun a b c=>⟨⟨fun e=>absurd e a,fun e=>absurd e b,fun e=>absurd e c⟩,fun u j _ _=>.inl (fun e=>by omega)⟩
 have on:∀k:Int,(onM s k=36/\k≠p.H.Slots)\/(onM s k=38/\k=p.H.Slots):=fun k=>by
  unfold onM
  rw [hsl]
  split
  ·rename_i e;exact .inr ⟨rfl,e⟩
  ·rename_i e;exact .inl ⟨rfl,e⟩
 refine wu (motive:=fun r=>ztu p.H.Slots r.2/\∀u j,0<=j->zsz x u j->zsz r.2 u j\/zH s.H u j=0\/zow r.2 (zH s.H u j)) s m x ?_ ?_ ?_ ?_ ?_ ?_ ?_ ?_ ?_ ?_ ?_ ?_ ?_ ?_ ?_ ?_ ?_ ?_ ?_ ?_
 all_goals try (intro c)
 ·unfold mu0 UV;repeat' split
  all_goals exact no (by (try dsimp only [setM]);omega) (by (try dsimp only [setM]);omega) (by (try dsimp only [setM]);omega)
 ·have:=O.ret (.inl c)
  unfold mu1;dsimp only;split
  ·exact no (by dsimp only;omega) (by dsimp only;omega) (by dsimp only;omega)
  ·exact no (by dsimp only;omega) (by dsimp only;omega) (by dsimp only;omega)
 ·unfold mu2;exact no (by dsimp only;omega) (by dsimp only;omega) (by dsimp only;omega)
 ·unfold mu3;dsimp only;split
  ·exact no (by dsimp only;omega) (by dsimp only;omega) (by dsimp only;omega)
  ·exact no (by dsimp only;omega) (by dsimp only;omega) (by dsimp only;omega)
 ·unfold zjV;exact no (by dsimp only [setM];omega) (by dsimp only [setM];omega) (by dsimp only [setM];omega)
 ·unfold zeZ;dsimp only;split
  ·exact no (by dsimp only [vg];omega) (by dsimp only [vg];omega) (by dsimp only [vg];omega)
  ·exact no (by dsimp only;omega) (by dsimp only;omega) (by dsimp only;omega)
 ·unfold zfQ;dsimp only;split
  ·exact no (by dsimp only;omega) (by dsimp only;omega) (by dsimp only;omega)
  ·exact no (by dsimp only;omega) (by dsimp only;omega) (by dsimp only;omega)
 ·unfold zfV;dsimp only;split
  ·exact no (by dsimp only;omega) (by dsimp only;omega) (by dsimp only;omega)
  ·exact no (by dsimp only;omega) (by dsimp only;omega) (by dsimp only;omega)
 ·unfold zhv;exact no (by dsimp only [vg];omega) (by dsimp only [vg];omega) (by dsimp only [vg];omega)
 ·unfold za1;split
  ·split
   ·exact no (by dsimp only [setM];omega) (by dsimp only [setM];omega) (by dsimp only [setM];omega)
   ·exact no (by dsimp only [vg];omega) (by dsimp only [vg];omega) (by dsimp only [vg];omega)
  ·exact no (by dsimp only;omega) (by dsimp only;omega) (by dsimp only;omega)
 ·unfold zfE;dsimp only;split
  ·exact no (by dsimp only;omega) (by dsimp only;omega) (by dsimp only;omega)
  ·exact no (by dsimp only;omega) (by dsimp only;omega) (by dsimp only;omega)
 ·unfold zfJ;dsimp only;repeat' split
  all_goals exact no (by dsimp only;omega) (by dsimp only;omega) (by dsimp only;omega)
 ·unfold zkj;exact no (by dsimp only;omega) (by dsimp only;omega) (by dsimp only;omega)
 ·unfold zf0;dsimp only;split
  ·exact no (by dsimp only;omega) (by dsimp only;omega) (by dsimp only;omega)
  ·exact no (by dsimp only;omega) (by dsimp only;omega) (by dsimp only;omega)
 ·unfold zfc;dsimp only;split
  ·exact no (by dsimp only;omega) (by dsimp only;omega) (by dsimp only;omega)
  ·exact ⟨⟨fun _=>⟨zHD _,by show (0:Int)<_;omega⟩,fun e=>absurd e (by show ¬(36:Int)=37;decide),fun e=>absurd e (by show ¬(36:Int)=38;decide)⟩,fun u j h0 _=>.inl (fun _ _=>h0)⟩
 ·-- 36
  have hs:=S.1 c
  have w:wc (x.Slot+1)=x.Slot+1:=xS (by omega) (by omega)
  unfold zfm;dsimp only
  rw [w]
  split
  ·rename_i hv
   refine ⟨⟨fun e=>?_,fun e=>?_,fun e=>?_⟩,fun u j h0 h=>?_⟩
   ·dsimp only at e ⊢;have:=on (x.Slot+1);omega
   ·dsimp only at e ⊢;have:=on (x.Slot+1);omega
   ·dsimp only at e ⊢;have:=on (x.Slot+1);omega
   ·by_cases hu:x.Obj=u
    ·have hle:=h (.inl c) hu
     by_cases hj:j=x.Slot
     ·right;left;rw [<-hu,hj];exact hv
     ·left;intro _ _;show x.Slot+1<=j;omega
    ·left;intro _ e;exact absurd e hu
  ·rename_i hv
   refine ⟨⟨fun e=>absurd e (by show ¬(37:Int)=36;decide),fun _=>⟨by show 1<=x.Slot+1;omega,by show x.Slot+1<=_;omega⟩,fun e=>absurd e (by show ¬(37:Int)=38;decide)⟩,fun u j h0 h=>?_⟩
   by_cases hu:x.Obj=u
   ·have hle:=h (.inl c) hu
    by_cases hj:j=x.Slot
    ·right;right;right;right
     exact ⟨.inr rfl,rfl,.inl rfl,by rw [<-hu,hj];rfl⟩
    ·left;intro _ _;show x.Slot+1<=j;omega
   ·left;intro _ e;exact absurd e hu
 ·-- 37
  have hs:=S.2.1 c
  unfold zbH;dsimp only
  split
  ·refine ⟨⟨fun e=>?_,fun e=>?_,fun e=>?_⟩,fun u j h0 h=>.inl (fun _ e=>h (.inr (.inl c)) e)⟩
   ·dsimp only at e ⊢;have:=on x.Slot;omega
   ·dsimp only at e ⊢;have:=on x.Slot;omega
   ·dsimp only at e ⊢;have:=on x.Slot;omega
  ·exact ⟨⟨fun e=>absurd e (by show ¬x.PC=36;omega),fun _=>hs,fun e=>absurd e (by show ¬x.PC=38;omega)⟩,fun u j h0 h=>.inl (fun _ e=>h (.inr (.inl c)) e)⟩
 ·unfold zjP;exact no (by dsimp only;omega) (by dsimp only;omega) (by dsimp only;omega)
 ·unfold zmU;exact no (by dsimp only;omega) (by dsimp only;omega) (by dsimp only;omega)
 ·exact ⟨S,fun u j _ h=>.inl h⟩
theorem Ur.mono {s s':za}(F:Ur s s') {o:Int}(h:zI s.T.Marks o=true):zI s'.T.Marks o=true:=by
 rcases F with ⟨e,_⟩ | ⟨q,_,_,e,_⟩ | ⟨q,_,e,_⟩ | ⟨_,_,e⟩
 ·rw [e];exact h
 ·rw [e];exact (vf _ _ _).2 (.inl h)
 ·rw [e];exact h
 ·rw [e];exact (vf _ _ _).2 (.inl h)
theorem zCj {p:zb}{s:za}(hP:s.P=p) {W:Int->Int->Prop}{m:Int}{x:zc}(K:zps p s W m x) (mono:∀o,zI s.T.Marks o=true->zI (zp s m x).1.T.Marks o=true) (hr:x.PC=1\/x.PC=3->x.Ret=2\/x.Ret=22) :
  ∀l:List zc,zps p {(zp s m x).1 with Ms:=l} (fun u j=>W u j\/(x.PC=23/\u=uz x (opM p m x).A/\j=(opM p m x).S)) m (zp s m x).2:=by
 intro l
 have no:∀ {t:za}{y:zc},¬(y.PC=21\/y.PC=22\/((y.PC=1\/y.PC=3)/\y.Ret=22))->y.PC≠23->zps p t (fun u j=>W u j\/(x.PC=23/\u=uz x (opM p m x).A/\j=(opM p m x).S)) m y :=
  fun a b _=>⟨fun e=>absurd e a,fun e=>absurd e b⟩
 have keep:∀ {t:za}{y:zc},y.IP=x.IP->y.Regs=x.Regs->uz y (opM p m y).A=uz x (opM p m x).A/\(opM p m y).S=(opM p m x).S:=fun e1 e2=>by
  unfold opM uz;rw [e1,e2];exact ⟨rfl,rfl⟩
 revert mono
 refine wu (motive:=fun r=>(∀o,zI s.T.Marks o=true->zI r.1.T.Marks o=true)->zps p {r.1 with Ms:=l} (fun u j=>W u j\/(x.PC=23/\u=uz x (opM p m x).A/\j=(opM p m x).S)) m r.2) s m x ?_ ?_ ?_ ?_ ?_ ?_ ?_ ?_ ?_ ?_ ?_ ?_ ?_ ?_ ?_ ?_ ?_ ?_ ?_ ?_
 ·intro c _;unfold mu0 UV;repeat' split
  all_goals exact no (by (try dsimp only [setM]);omega) (by (try dsimp only [setM]);omega)
 ·intro c _
  have hr:=hr (.inl c)
  unfold mu1;dsimp only
  intro hW
  split
  ·refine ⟨fun e=>?_,fun e=>by dsimp only at e;omega⟩
   have e:x.Ret=21\/x.Ret=22\/((x.Ret=1\/x.Ret=3)/\x.Ret=22):=e
   exact (K (fun h=>hW (by split<;>exact .inl h))).1 (.inr (.inr ⟨.inl c,by omega⟩))
  ·refine ⟨fun e=>?_,fun e=>by dsimp only at e;omega⟩
   have e:(3:Int)=21\/(3:Int)=22\/(((3:Int)=1\/(3:Int)=3)/\x.Ret=22):=e
   exact (K (fun h=>hW (by split<;>exact .inl h))).1 (.inr (.inr ⟨.inl c,by omega⟩))
 ·intro c _;unfold mu2;exact no (by (try dsimp only);omega) (by (try dsimp only);omega)
 ·intro c _
  unfold mu3;dsimp only
  intro hW
  have eH:(zt s x.G).1.H=s.H:=by rw [Uu]
  split
  ·refine ⟨fun e=>?_,fun e=>by dsimp only at e;omega⟩
   have e:(1:Int)=21\/(1:Int)=22\/(((1:Int)=1\/(1:Int)=3)/\x.Ret=22):=e
   show x.Old=zH (zt s x.G).1.H _ _
   rw [eH]
   exact (K (fun h=>hW (by split<;>exact .inl h))).1 (.inr (.inr ⟨.inr c,by omega⟩))
  ·refine ⟨fun e=>?_,fun e=>by dsimp only at e;omega⟩
   have e:x.PC=21\/x.PC=22\/((x.PC=1\/x.PC=3)/\x.Ret=22):=e
   show x.Old=zH (zt s x.G).1.H _ _
   rw [eH]
   exact (K (fun h=>hW (by split<;>exact .inl h))).1 (.inr (.inr ⟨.inr c,by omega⟩))
 ·intro c _;unfold zjV;exact no (by (try dsimp only [setM]);omega) (by (try dsimp only [setM]);omega)
 ·intro c _;unfold zeZ;dsimp only;split
  ·exact no (by (try dsimp only [vg]);omega) (by (try dsimp only [vg]);omega)
  ·intro hW
   refine ⟨fun _=>?_,fun e=>by dsimp only at e;omega⟩
   show zqU s m x=_
   unfold zqU
   rw [hP];rfl
 ·intro c mono;unfold zfQ;dsimp only;split
  ·rename_i h
   intro hW
   have k:=(K (fun h=>hW (.inl h))).1 (.inl c)
   refine ⟨fun e=>by dsimp only at e;omega,fun _=>?_⟩
   show zH s.H (uz x (opM p m x).A) (opM p m x).S=0\/zI s.T.Marks (zH s.H (uz x (opM p m x).A) (opM p m x).S)=true\/_
   rw [<-k]
   rcases h with h | h
   ·exact .inl h
   ·right;left
    unfold xg at h
    split at h
    ·rename_i h2;exact ((za6 _ _ _).1 h2).1
    ·split at h
     ·assumption
     ·exact absurd rfl h
  ·intro hW
   exact ⟨fun _=>(K (fun h=>hW (.inl h))).1 (.inl c),fun e=>by dsimp only at e;omega⟩
 ·intro c mono;unfold zfV;dsimp only;split
  ·intro hW
   exact ⟨fun _=>(K (fun h=>hW (.inl h))).1 (.inr (.inl c)),fun e=>by dsimp only at e;omega⟩
  ·intro hW
   have k:=(K (fun h=>hW (.inl h))).1 (.inr (.inl c))
   refine ⟨fun e=>by dsimp only at e;omega,fun _=>.inr (.inr ?_)⟩
   show zH s.H (uz x (opM p m x).A) (opM p m x).S∈x.Buf++[x.Old]
   rw [<-k];simp
 ·intro c _;unfold zhv;exact no (by (try dsimp only [vg]);omega) (by (try dsimp only [vg]);omega)
 ·intro c _;unfold za1;split
  ·split
   ·exact no (by (try dsimp only [setM]);omega) (by (try dsimp only [setM]);omega)
   ·exact no (by (try dsimp only [vg]);omega) (by (try dsimp only [vg]);omega)
  ·exact no (by (try dsimp only);omega) (by (try dsimp only);omega)
 ·intro c _;unfold zfE;dsimp only;split
  ·exact no (by (try dsimp only);omega) (by (try dsimp only);omega)
  ·exact no (by (try dsimp only);omega) (by (try dsimp only);omega)
 ·intro c _;unfold zfJ;dsimp only;repeat' split
  all_goals exact no (by (try dsimp only);omega) (by (try dsimp only);omega)
 ·intro c _;unfold zkj;exact no (by (try dsimp only);omega) (by (try dsimp only);omega)
 ·intro c _;unfold zf0;dsimp only;split
  ·exact no (by (try dsimp only);omega) (by (try dsimp only);omega)
  ·exact no (by (try dsimp only);omega) (by (try dsimp only);omega)
 ·intro c _;unfold zfc;dsimp only;split
  ·exact no (by (try dsimp only);omega) (by (try dsimp only);omega)
  ·exact no (by (try dsimp only);omega) (by (try dsimp only);omega)
 ·intro c _;unfold zfm;dsimp only
  have:=zbZ s (wc (x.Slot+1))
  split
  ·exact no (by (try dsimp only);omega) (by (try dsimp only);omega)
  ·exact no (by (try dsimp only);omega) (by (try dsimp only);omega)
 ·intro c _;unfold zbH;dsimp only
  have:=zbZ s x.Slot
  split
  ·exact no (by (try dsimp only);omega) (by (try dsimp only);omega)
  ·exact no (by (try dsimp only);omega) (by (try dsimp only);omega)
 ·intro c _;unfold zjP;exact no (by (try dsimp only);omega) (by (try dsimp only);omega)
 ·intro c _;unfold zmU;exact no (by (try dsimp only);omega) (by (try dsimp only);omega)
 ·intro _ hW
  exact K (fun h=>hW (.inl h))
end
end Go.Pe.G
namespace Go.Pe.G
open Go.Pe
noncomputable section
theorem ztR {p:zb}{nb k:Nat}{s s':za}{gh:Gh}(G:FG p nb k s gh) (F:Ur s s') {u:Int}(hu:u<=(s.H.Objs.length:Int)) (h:xg s.T u=1):xg s'.T u=1\/(xg s.T u=1/\s'.T={s.T with Black:=s.T.Black|||bit u}):=by
 have ht:=(ux _ _).1 h
 rcases F with ⟨e,_⟩ | ⟨q,_,_,e,_⟩ | ⟨q,hq,e,_⟩ | ⟨_,_,e⟩
 ·left;rw [e];exact h
 ·left;rw [e,ux];exact ⟨(vf _ _ _).2 (.inl ht.1),ht.2⟩
 ·by_cases hqu:u=q
  ·right;subst hqu;exact ⟨h,e⟩
  ·left;rw [e,ux];exact ⟨ht.1,fun hb=>(zaN hb).elim ht.2 (fun e=>hqu e)⟩
 ·left;rw [e,ux]
  exact ⟨(vf _ _ _).2 (.inl ht.1),fun hb=>(zaN hb).elim ht.2 (fun e=>by omega)⟩
theorem zrJ {p:zb}{nb k:Nat}{s s':za}{gh:Gh}(G:FG p nb k s gh) (F:Ur s s') {u:Int}(hu:u<=(s.H.Objs.length:Int)) (h: ¬zI s.T.Marks u=true) (h':zI s'.T.Marks u=true):xg s'.T u=1:=by
 have nb: ¬zI s.T.Black u=true:=fun e=>h (G.B.blk u e)
 rcases F with ⟨e,_⟩ | ⟨q,_,_,e,_⟩ | ⟨q,hq,e,_⟩ | ⟨_,_,e⟩
 ·rw [e] at h';exact absurd h' h
 ·rw [ux];refine ⟨h',?_⟩;rw [e];exact nb
 ·rw [e] at h';exact absurd h' h
 ·rw [e] at h'
  rcases zaN h' with h2 | h2
  ·exact absurd h2 h
  ·omega
theorem zAp {p:zb}{nb:Nat}{s:za}(E:EOk p nb s) {u j:Int}(h:yA s.H u j=true):0<=j/\j<p.H.Slots:=by
 have hs:=ZW h
 have hm:zK s.H u∈s.H.Objs:=by
  unfold zK
  rw [zGS,zGQ (show (u-1).toNat<s.H.Objs.length by omega)]
  exact zHj _
 have h1:=(E.H.objs _ hm).1
 have h2:=E.H.slots
 omega
theorem zFc {s:za}{m:Int}{x:zc}(c:x.PC=3):(zp s m x).2.PC=1\/(zp s m x).2.PC=3:=by
 unfold zp
 rw [if_neg (by omega),if_neg (by omega),if_neg (by omega),if_pos c]
 unfold mu3;dsimp only
 split
 ·exact .inl rfl
 ·exact .inr c
theorem zCK {s:za}{m:Int}{x:zc}(c:x.PC=37):(zp s m x).2.Obj=x.Obj:=by
 have e37:zp s m x=zbH s m x:=by
  unfold zp
  rw [if_neg (by omega),if_neg (by omega),if_neg (by omega),if_neg (by omega),if_neg (by omega),if_neg (by omega),if_neg (by omega),if_neg (by omega),if_neg (by omega),if_neg (by omega),if_neg (by omega),if_neg (by omega),if_neg (by omega),if_neg (by omega),if_neg (by omega),if_neg (by omega),if_pos c]
 rw [e37]
 unfold zbH;dsimp only
 split<;>rfl
def zBn (s:za) (m:Int) (x:zc) (N C:List Int):Prop :=
 (N=[]/\C=[]/\(zp s m x).1.T=s.T)\/(N=[x.G.Obj]/\C=[]/\(x.PC=3\/x.PC=37)/\¬(s.T.Marks|||bit x.G.Obj=s.T.Marks)/\(zp s m x).1.T={s.T with Marks:=s.T.Marks|||bit x.G.Obj})\/(N=[]/\C=[x.Obj]/\x.PC=38/\(zp s m x).1.T=wC s.T x.Obj) \/
   (N=[]/\C=[]/\x.PC=30/\XN s.H s.P.Most=true/\(zp s m x).1.H=wW s.H/\(zp s m x).1.T=Xo s.T (wc (s.H.Objs.length+1)))
theorem FG.fresh {p:zb}(hp:zB p) {nb k:Nat}{s:za}{gh:Gh}(G:FG p nb k s gh):Xo s.T (wc (s.H.Objs.length+1))=⟨s.T.Marks|||bit ((s.H.Objs.length:Int)+1),s.T.Black|||bit ((s.H.Objs.length:Int)+1)⟩/\¬zI s.T.Marks ((s.H.Objs.length:Int)+1)=true/\(s.H.Objs.length:Int)<=9:=by
 have hN0:=G.E.H.n
 have hM0:=hp.most
 have hn6:=hp.n
 have nm: ¬zI s.T.Marks ((s.H.Objs.length:Int)+1)=true:=fun e=>by have:=G.mrk _ e;omega
 have hw:wc ((s.H.Objs.length:Int)+1)=(s.H.Objs.length:Int)+1:=xS (by omega) (by omega)
 rw [hw,zsk (by omega) nm (fun e=>nm (G.B.blk _ e))]
 exact ⟨rfl,nm,by omega⟩
theorem zBT {p:zb}(hp:zB p) {nb k:Nat}{s:za}{gh:Gh}(G:FG p nb k s gh) {m:Int}{i:Nat}{x:zc}(hx:s.Ms[i]? =some x) {N C:List Int}(hT:zBn s m x N C) {u:Int}(hg:xg s.T u=1)
  (h:(zp s m x).1.T={s.T with Black:=s.T.Black|||bit u}):x.PC=38/\x.Obj=u:=by
 have hb:=((ux _ _).1 hg).2
 have hu:=(wq s.T.Black (zbd hg) u).2 (.inr rfl)
 rcases hT with ⟨_,_,e⟩ | ⟨_,_,_,_,e⟩ | ⟨_,_,c,e⟩ | ⟨_,_,_,_,e1,e⟩
 ·rw [e] at h
  have:=congrArg zo.Black h
  exact absurd (by rw [this];exact hu) hb
 ·rw [e] at h
  have:=congrArg zo.Black h
  exact absurd (by rw [this];exact hu) hb
 ·have hob:xg s.T x.Obj=1:=G.grey (zxN hx (by unfold zZ;rw [VU (.inr c)];simp))
  rw [e] at h
  unfold wC at h
  rw [if_pos hob] at h
  have hbb:s.T.Black|||bit x.Obj=s.T.Black|||bit u:=congrArg zo.Black h
  refine ⟨c,?_⟩
  rw [<-hbb] at hu
  rcases zaN hu with h2 | h2
  ·exact absurd h2 hb
  ·exact h2.symm
 ·obtain ⟨f1,f2,f3⟩:=G.fresh hp
  rw [e,f1] at h
  have:s.T.Marks|||bit ((s.H.Objs.length:Int)+1)=s.T.Marks:=congrArg zo.Marks h
  exact absurd (by rw [<-this];exact (wq _ (by omega) _).2 (.inr rfl)) f2
theorem zC8 {p:zb}(hp:zB p) {nb k:Nat}{s:za}{gh:Gh}(G:FG p nb k s gh) {m:Int}{x:zc}{N C:List Int}(hT:zBn s m x N C) {u:Int}(hu:u<=(s.H.Objs.length:Int)) (h0: ¬zI s.T.Marks u=true) (h1:zI (zp s m x).1.T.Marks u=true):x.PC=3\/x.PC=37:=by
 rcases hT with ⟨_,_,e⟩ | ⟨_,_,c,_,e⟩ | ⟨_,_,c,e⟩ | ⟨_,_,c,_,_,e⟩
 ·rw [e] at h1;exact absurd h1 h0
 ·exact c
 ·rw [e,(zAu _ _).1] at h1;exact absurd h1 h0
 ·obtain ⟨f1,f2,f3⟩:=G.fresh hp
  rw [e,f1] at h1
  rcases zaN h1 with h | h
  ·exact absurd h h0
  ·omega
theorem zvP {p:zb}{nb k:Nat}{s:za}{gh:Gh}(G:FG p nb k s gh) {i:Nat}{y:zg}(hy:s.Ws[i]? =some y) (hpc:y.PC=5\/y.PC=6\/y.PC=8):zI s.T.Marks y.Obj=true:=by
 have hg:xg s.T y.Obj=1:=G.grey (zxV hy (by
  unfold zQ
  rcases hpc with e | e | e
  ·rw [Wl (.inl e)];simp
  ·rw [zto e];simp
  ·rw [Wl (.inr e)];simp))
 exact ((ux _ _).1 hg).1
theorem zvW {p:zb}{nb k:Nat}{s:za}{gh:Gh}(G:FG p nb k s gh) {i:Nat}{y:zc}(hy:s.Ms[i]? =some y) (hpc:y.PC=36\/y.PC=37\/y.PC=38):zI s.T.Marks y.Obj=true:=by
 have hg:xg s.T y.Obj=1:=G.grey (zxN hy (by
  unfold zZ
  rcases hpc with e | e | e
  ·rw [VU (.inl e)];simp
  ·rw [zqN e];simp
  ·rw [VU (.inr e)];simp))
 exact ((ux _ _).1 hg).1
theorem PI.mutator {p:zb}(hp:zB p) {nb k:Nat}{s:za}{gh:Gh}(hk:k<4294960000) (G:FG p nb k s gh) {W:Int->Int->Prop}(I:PI p s W) {m:Int}(hm:1<=m/\m<=p.Mutators) (hd:s.Done=false):∃W',PI p (zY s m) W':=by
 obtain ⟨gh',G',F,x,hx,N,C,hbag,hT⟩:=G.mutator hp hk hm hd
 have hT:zBn s m x N C:=hT
 have hml:=G.E.ml
 have hsl:=hp.slots
 have hi:(m-1).toNat<s.Ms.length:=(zGY.1 hx).1
 have ei:(((m-1).toNat:Nat):Int)+1=m:=by omega
 have eS:zY s m={(zp s m x).1 with Ms:=s.Ms.set (m-1).toNat (zp s m x).2}:=by
  unfold zY
  rw [if_neg (by rw [hd];rintro (e | e | e)<;>first | cases e | omega),hx]
 have hMX:=G.M _ x hx
 have hXO:=G.E.X _ x hx
 have hcv:=I.cv _ x hx
 rw [ei] at hXO hcv
 have hP:=G.E.S.P
 have eH:(zY s m).H=(zp s m x).1.H:=by rw [eS]
 have eT:(zY s m).T=(zp s m x).1.T:=by rw [eS]
 have eW:(zY s m).Ws=s.Ws:=by rw [eS];show (zp s m x).1.Ws=_;rw [zp1]
 have eX:(zY s m).Ms=s.Ms.set (m-1).toNat (zp s m x).2:=by rw [eS]
 have mono:∀o,zI s.T.Marks o=true->zI (zY s m).T.Marks o=true:=fun o h=>F.mono h
 obtain ⟨sl1,sl2⟩:=zCf (s:=s) (m:=m) (gh:=gh) G.E.H.slots hsl hXO (I.sx _ x hx)
 have here:(zY s m).Ms[(m-1).toNat]? =some (zp s m x).2:=by rw [eX];exact zH8 hi
 have there:∀(i:Nat) y,i≠(m-1).toNat->s.Ms[i]? =some y->(zY s m).Ms[i]? =some y:=fun i y hne h=>by rw [eX,zHp (fun e=>hne e.symm)];exact h
 have back:∀(i:Nat) y,(zY s m).Ms[i]? =some y->(i=(m-1).toNat/\y=(zp s m x).2)\/(i≠(m-1).toNat/\s.Ms[i]? =some y):=fun i y h=>by
  rw [eX] at h
  by_cases hne:i=(m-1).toNat
  ·subst hne
   rw [zH8 hi] at h
   injection h with h
   exact .inl ⟨rfl,h.symm⟩
  ·rw [zHp (fun e=>hne e.symm)] at h
   exact .inr ⟨hne,h⟩
 have heapS:∀u j,¬(x.PC=23/\u=uz x (opM p m x).A/\j=(opM p m x).S)->(yA s.H u j=true->yA (zY s m).H u j=true)/\zH (zY s m).H u j=zH s.H u j:=fun u j hne=>by
  rw [eH]
  rcases zDb s m x with ⟨e,_⟩ | ⟨c,e,_⟩ | ⟨_,e⟩
  ·rw [e];exact ⟨id,rfl⟩
  ·rw [e,hP]
   obtain ⟨a,b⟩:=zE6 (h:=s.H) (a:=uz x (opM p m x).A) (i:=(opM p m x).S) (v:=uz x (opM p m x).R) (u:=u) (j:=j) (fun e=>hne ⟨c,e⟩) (fun e=>(ZW e).2.1)
   exact ⟨fun h=>a.trans h,b⟩
  ·rw [e];exact zCC _ _ _
 have P:zuM s (zY s m) W (fun u j=>W u j\/(x.PC=23/\u=uz x (opM p m x).A/\j=(opM p m x).S)):=by
  refine ⟨mono,fun o h=>?_,fun u j hW hj=>?_,fun u j hW hj hg hu=>?_,fun u j hW hj hm0 hm1=>?_⟩
  ·rcases h with ⟨i,y,hy,h⟩ | ⟨i,y,hy,h⟩
   ·right;left;exact ⟨i,y,by rw [eW];exact hy,h⟩
   ·by_cases hne:i=(m-1).toNat
    ·subst hne
     rw [hx] at hy;injection hy with hy;subst hy
     rcases zD0 (m:=m) hMX hXO G.B.blk h with h | h
     ·right;right;exact ⟨_,_,here,h⟩
     ·left;rw [eT];exact h
    ·right;right;exact ⟨i,y,there i y hne hy,h⟩
  ·by_cases hc:x.PC=23/\u=uz x (opM p m x).A/\j=(opM p m x).S
   ·obtain ⟨c,rfl,rfl⟩:=hc
    right
    rcases (hcv hW).2 c with h | h | h
    ·exact .inl h
    ·exact .inr (.inl (mono _ h))
    ·right;right;right
     refine ⟨_,_,here,.inl ?_⟩
     rcases zDb s m x with ⟨_,e⟩ | ⟨_,_,e⟩ | ⟨e,_⟩
     ·exact absurd c e
     ·rw [e];exact h
     ·omega
   ·left
    obtain ⟨a,b⟩:=heapS u j hc
    exact ⟨fun h=>h.elim hW hc,a hj,b⟩
  ·have hpos:=ZW hj
   have hrow:=zAp G.E hj
   have htint:xg (zY s m).T u=1:=by
    rcases ztR G F hpos.1.2 hg with h | ⟨_,h⟩
    ·exact h
    ·exfalso
     obtain ⟨c,ho⟩:=zBT hp G hx hT hg (by rw [<-eT];exact h)
     have hle:=hu.2 _ x hx (.inr (.inr c)) ho
     have:=(I.sx _ x hx).2.2 c
     omega
   rcases sl2 u j hpos.2.1 (hu.2 _ x hx) with h | h | h
   ·left
    refine ⟨htint,fun i y hy=>hu.1 i y (by rw [<-eW];exact hy),fun i y hy=>?_⟩
    rcases back i y hy with ⟨_,rfl⟩ | ⟨_,hy⟩
    ·exact h
    ·exact hu.2 i y hy
   ·exact .inr (.inl h)
   ·exact .inr (.inr (.inr (.inr ⟨_,_,here,h⟩)))
  ·have hpos:=ZW hj
   refine ⟨zrJ G F hpos.1.2 hm0 hm1,fun i y hy hpc ho=>?_,fun i y hy hpc ho=>?_⟩
   ·rw [eW] at hy
    exact absurd (ho▸zvP G hy hpc) hm0
   ·rcases back i y hy with ⟨_,rfl⟩ | ⟨_,hy⟩
    ·exfalso
     rcases zC8 hp G hT hpos.1.2 hm0 (by rw [<-eT];exact hm1) with c | c
     ·have:=zFc (s:=s) (m:=m) c
      omega
     ·have h3:=zCK (s:=s) (m:=m) c
      exact hm0 (by rw [<-ho,h3];exact zvW G hx (.inr (.inl c)))
    ·exact absurd (ho▸zvW G hy hpc) hm0
 refine ⟨fun u j=>W u j\/(x.PC=23/\u=uz x (opM p m x).A/\j=(opM p m x).S),fun o ho=>?_,fun i y hy=>I.sw i y (by rw [<-eW];exact hy),fun i y hy=>?_,fun i y hy=>?_⟩
 ·have h0:o≠0:=by have:=ho.in;omega
  rcases I.lv o ho with h | h
  ·exact .inl (mono o h)
  ·exact P.prot h h0
 ·rcases back i y hy with ⟨_,rfl⟩ | ⟨_,hy⟩
  ·exact sl1
  ·exact I.sx i y hy
 ·rcases back i y hy with ⟨rfl,rfl⟩ | ⟨_,hy⟩
  ·rw [ei,eS]
   exact zCj hP hcv (fun o h=>by rw [<-eT];exact mono o h) hXO.ret _
  ·intro hW
   have hW1: ¬W (uz y (opM p ((i:Int)+1) y).A) (opM p ((i:Int)+1) y).S:=fun h=>hW (.inl h)
   obtain ⟨a,b⟩:=I.cv i y hy hW1
   have hh:=(heapS (uz y (opM p ((i:Int)+1) y).A) (opM p ((i:Int)+1) y).S (fun h=>hW (.inr h))).2
   rw [hh]
   exact ⟨a,fun e=>(b e).imp id (fun h=>h.imp (mono _) id)⟩
end
end Go.Pe.G
namespace Go.Pe.G
open Go.Pe
noncomputable section
theorem zx4 {s:za}{w:Int}{x:zg}(c:x.PC=6):zu s w x=((zt s x.G).1,if (zt s x.G).2.Out=1 then {x with G:=(zt s x.G).2,PC:=onW s x.Slot} else {x with G:=(zt s x.G).2}):=by
 unfold zu
 rw [if_neg (by omega),if_neg (by omega),if_neg (by omega),if_neg (by omega),if_neg (by omega),if_pos c]
theorem zB5 {p:zb}{s:za}{gh:Gh}{w:Int}{x:zg}(K:WX p s gh w x) (hb:∀o,zI s.T.Black o=true->zI s.T.Marks o=true) {o:Int}(h:zlR x o):zlR (zu s w x).2 o\/zI (zu s w x).1.T.Marks o=true:=by
 obtain ⟨c,h⟩:=h
 obtain ⟨G,gm,gw,g0⟩:=K.p6 c
 rw [zx4 c]
 dsimp only
 rcases zsC G.md (h.2.2▸G.ob) (hb o) h with h' | h'
 ·left
  rw [if_neg (by have:=h'.1;omega)]
  exact ⟨c,h'⟩
 ·exact .inr h'
theorem zA3 {p:zb}{nb:Nat}{s:za}(hsl:s.H.Slots=p.H.Slots) (h1:1<=p.H.Slots/\p.H.Slots<=2) {w:Int}{x:zg}(O:WOk p nb w x) (S:znF p.H.Slots x) :
  znF p.H.Slots (zu s w x).2/\∀u j,0<=j->zjt x u j->zjt (zu s w x).2 u j\/zH s.H u j=0\/zlR (zu s w x).2 (zH s.H u j):=by
 have hpc:=O.pc
 have no:∀ {y:zg},y.PC≠5->y.PC≠6->y.PC≠8->znF p.H.Slots y/\∀u j,0<=j->zjt x u j->zjt y u j\/zH s.H u j=0\/zlR y (zH s.H u j) :=
  fun a b c=>⟨⟨fun e=>absurd e a,fun e=>absurd e b,fun e=>absurd e c⟩,fun u j _ _=>.inl (fun e=>by omega)⟩
 have zero:∀ {y:zg},y.PC=5->y.Slot=0->znF p.H.Slots y/\∀u j,0<=j->zjt x u j->zjt y u j\/zH s.H u j=0\/zlR y (zH s.H u j) :=
  fun a b=>⟨⟨fun _=>by omega,fun e=>by omega,fun e=>by omega⟩,fun u j h0 _=>.inl (fun _ _=>by omega)⟩
 have on:∀k:Int,(onW s k=5/\k≠p.H.Slots)\/(onW s k=8/\k=p.H.Slots):=fun k=>by
  unfold onW
  rw [hsl]
  split
  ·rename_i e;exact .inr ⟨rfl,e⟩
  ·rename_i e;exact .inl ⟨rfl,e⟩
 have lk:∀y:zg,(ZF s.P w y).PC=1\/(ZF s.P w y).PC=2:=fun y=>by unfold ZF;split<;>simp
 by_cases c6:x.PC=6
 ·have hs:=S.2.1 c6
  rw [zx4 c6]
  dsimp only
  split
  ·refine ⟨⟨fun e=>?_,fun e=>?_,fun e=>?_⟩,fun u j h0 h=>.inl (fun _ e=>h (.inr (.inl c6)) e)⟩
   ·dsimp only at e ⊢;have:=on x.Slot;omega
   ·dsimp only at e ⊢;have:=on x.Slot;omega
   ·dsimp only at e ⊢;have:=on x.Slot;omega
  ·exact ⟨⟨fun e=>absurd e (by show ¬x.PC=5;omega),fun _=>hs,fun e=>absurd e (by show ¬x.PC=8;omega)⟩,fun u j h0 h=>.inl (fun _ e=>h (.inr (.inl c6)) e)⟩
 have key:∀r:za×zg,zu s w x=r->(znF p.H.Slots r.2/\∀u j,0<=j->zjt x u j->zjt r.2 u j\/zH s.H u j=0\/zlR r.2 (zH s.H u j))->znF p.H.Slots (zu s w x).2/\∀u j,0<=j->zjt x u j->zjt (zu s w x).2 u j\/zH s.H u j=0\/zlR (zu s w x).2 (zH s.H u j):=fun r e h=>by rw [e];exact h
 by_cases c01:x.PC=0\/x.PC=1
 ·refine key _ (by unfold zu;rw [if_pos c01]) ?_
  dsimp only
  split
  ·exact zero rfl rfl
  split
  ·have:=lk {x with D:=(zU s.M x.D).2}
   exact no (by omega) (by omega) (by omega)
  ·exact no (by dsimp only;omega) (by dsimp only;omega) (by dsimp only;omega)
 by_cases c2:x.PC=2
 ·refine key _ (by unfold zu;rw [if_neg c01,if_pos c2]) ?_
  dsimp only
  split
  ·exact no (by dsimp only;omega) (by dsimp only;omega) (by dsimp only;omega)
  split
  ·exact no (by show (0:Int)≠5;decide) (by show (0:Int)≠6;decide) (by show (0:Int)≠8;decide)
  ·exact no (by dsimp only;omega) (by dsimp only;omega) (by dsimp only;omega)
 by_cases c3:x.PC=3
 ·refine key _ (by unfold zu;rw [if_neg c01,if_neg c2,if_pos c3]) ?_
  exact no (by dsimp only;omega) (by dsimp only;omega) (by dsimp only;omega)
 by_cases c4:x.PC=4
 ·refine key _ (by unfold zu;rw [if_neg c01,if_neg c2,if_neg c3,if_pos c4]) ?_
  dsimp only
  split
  ·exact no (by dsimp only;omega) (by dsimp only;omega) (by dsimp only;omega)
  ·exact no (by dsimp only;omega) (by dsimp only;omega) (by dsimp only;omega)
 by_cases c:x.PC=5
 ·have hs:=S.1 c
  have ww:wc (x.Slot+1)=x.Slot+1:=xS (by omega) (by omega)
  refine key _ (by unfold zu;rw [if_neg c01,if_neg c2,if_neg c3,if_neg c4,if_pos c]) ?_
  dsimp only
  rw [ww]
  split
  ·rename_i hv
   refine ⟨⟨fun e=>?_,fun e=>?_,fun e=>?_⟩,fun u j h0 h=>?_⟩
   ·dsimp only at e ⊢;have:=on (x.Slot+1);omega
   ·dsimp only at e ⊢;have:=on (x.Slot+1);omega
   ·dsimp only at e ⊢;have:=on (x.Slot+1);omega
   ·by_cases hu:x.Obj=u
    ·have hle:=h (.inl c) hu
     by_cases hj:j=x.Slot
     ·right;left;rw [<-hu,hj];exact hv
     ·left;intro _ _;show x.Slot+1<=j;omega
    ·left;intro _ e;exact absurd e hu
  ·rename_i hv
   refine ⟨⟨fun e=>absurd e (by show ¬(6:Int)=5;decide),fun _=>⟨by show 1<=x.Slot+1;omega,by show x.Slot+1<=_;omega⟩,fun e=>absurd e (by show ¬(6:Int)=8;decide)⟩,fun u j h0 h=>?_⟩
   by_cases hu:x.Obj=u
   ·have hle:=h (.inl c) hu
    by_cases hj:j=x.Slot
    ·right;right
     exact ⟨rfl,rfl,.inl rfl,by rw [<-hu,hj];rfl⟩
    ·left;intro _ _;show x.Slot+1<=j;omega
   ·left;intro _ e;exact absurd e hu
 by_cases c7:x.PC=7
 ·refine key _ (by unfold zu;rw [if_neg c01,if_neg c2,if_neg c3,if_neg c4,if_neg c,if_neg c6,if_pos c7]) ?_
  dsimp only
  split
  ·exact no (by show (0:Int)≠5;decide) (by show (0:Int)≠6;decide) (by show (0:Int)≠8;decide)
  ·exact zero rfl rfl
 by_cases c8:x.PC=8
 ·refine key _ (by unfold zu;rw [if_neg c01,if_neg c2,if_neg c3,if_neg c4,if_neg c,if_neg c6,if_neg c7,if_pos c8]) ?_
  exact no (by dsimp only;omega) (by dsimp only;omega) (by dsimp only;omega)
 have c9:x.PC=9:=by omega
 refine key _ (by unfold zu;rw [if_neg c01,if_neg c2,if_neg c3,if_neg c4,if_neg c,if_neg c6,if_neg c7,if_neg c8,if_pos c9]) ?_
 exact no (by dsimp only;omega) (by dsimp only;omega) (by dsimp only;omega)
theorem PI.worker {p:zb}(hp:zB p) {nb k:Nat}{s:za}{gh:Gh}(hk:k<4294960000) (G:FG p nb k s gh) {W:Int->Int->Prop}(I:PI p s W) {w:Int}(hw:1<=w/\w<=p.Workers) (hd:s.Done=false):PI p (z9 s w) W:=by
 obtain ⟨gh',G',F,x,hx,N,C,hbag,hT⟩:=G.worker hp hk hw hd
 have hwl:=G.E.wl
 have hsl:=hp.slots
 have hi:(w-1).toNat<s.Ws.length:=(zGY.1 hx).1
 have ei:(((w-1).toNat:Nat):Int)+1=w:=by omega
 have eS:z9 s w={(zu s w x).1 with Ws:=s.Ws.set (w-1).toNat (zu s w x).2}:=by
  unfold z9
  rw [if_neg (by rw [hd];rintro (e | e | e)<;>first | cases e | omega),hx]
 have hWX:=G.W _ x hx
 have hWO:=G.E.W _ x hx
 rw [ei] at hWX hWO
 have hfr:=znN (s:=s) hWO
 have eH:(z9 s w).H=s.H:=by rw [eS];show (zu s w x).1.H=_;rw [hfr]
 have eT:(z9 s w).T=(zu s w x).1.T:=by rw [eS]
 have eX:(z9 s w).Ms=s.Ms:=by rw [eS];show (zu s w x).1.Ms=_;rw [hfr]
 have eW:(z9 s w).Ws=s.Ws.set (w-1).toNat (zu s w x).2:=by rw [eS]
 have mono:∀o,zI s.T.Marks o=true->zI (z9 s w).T.Marks o=true:=fun o h=>F.mono h
 obtain ⟨sl1,sl2⟩:=zA3 (s:=s) (w:=w) G.E.H.slots hsl hWO (I.sw _ x hx)
 have here:(z9 s w).Ws[(w-1).toNat]? =some (zu s w x).2:=by rw [eW];exact zH8 hi
 have there:∀(i:Nat) y,i≠(w-1).toNat->s.Ws[i]? =some y->(z9 s w).Ws[i]? =some y:=fun i y hne h=>by rw [eW,zHp (fun e=>hne e.symm)];exact h
 have back:∀(i:Nat) y,(z9 s w).Ws[i]? =some y->(i=(w-1).toNat/\y=(zu s w x).2)\/(i≠(w-1).toNat/\s.Ws[i]? =some y):=fun i y h=>by
  rw [eW] at h
  by_cases hne:i=(w-1).toNat
  ·subst hne
   rw [zH8 hi] at h
   injection h with h
   exact .inl ⟨rfl,h.symm⟩
  ·rw [zHp (fun e=>hne e.symm)] at h
   exact .inr ⟨hne,h⟩
 have P:zuM s (z9 s w) W W:=by
  refine ⟨mono,fun o h=>?_,fun u j hW hj=>.inl ⟨hW,by rw [eH];exact hj,by rw [eH]⟩,fun u j hW hj hg hu=>?_,fun u j hW hj hm0 hm1=>?_⟩
  ·rcases h with ⟨i,y,hy,h⟩ | ⟨i,y,hy,h⟩
   ·by_cases hne:i=(w-1).toNat
    ·subst hne
     rw [hx] at hy;injection hy with hy;subst hy
     rcases zB5 hWX G.B.blk h with h | h
     ·right;left;exact ⟨_,_,here,h⟩
     ·left;rw [eT];exact h
    ·right;left;exact ⟨i,y,there i y hne hy,h⟩
   ·right;right;exact ⟨i,y,by rw [eX];exact hy,h⟩
  ·have hpos:=ZW hj
   have hrow:=zAp G.E hj
   have htint:xg (z9 s w).T u=1:=by
    rcases ztR G F hpos.1.2 hg with h | ⟨_,h⟩
    ·exact h
    ·exfalso
     have hb:=((ux _ _).1 hg).2
     have huu:=(wq s.T.Black (zbd hg) u).2 (.inr rfl)
     rcases hT with ⟨_,_,e⟩ | ⟨_,_,_,_,e⟩ | ⟨_,_,c,e⟩
     ·rw [eT,e] at h
      have:=congrArg zo.Black h
      exact absurd (by rw [this];exact huu) hb
     ·rw [eT,e] at h
      have:=congrArg zo.Black h
      exact absurd (by rw [this];exact huu) hb
     ·have hob:xg s.T x.Obj=1:=G.grey (zxV hx (by unfold zQ;rw [Wl (.inr c)];simp))
      rw [eT,e] at h
      unfold wC at h
      rw [if_pos hob] at h
      have hbb:s.T.Black|||bit x.Obj=s.T.Black|||bit u:=congrArg zo.Black h
      rw [<-hbb] at huu
      rcases zaN huu with h2 | h2
      ·exact hb h2
      ·have hle:=hu.1 _ x hx (.inr (.inr c)) h2.symm
       have:=(I.sw _ x hx).2.2 c
       omega
   rcases sl2 u j hpos.2.1 (hu.1 _ x hx) with h | h | h
   ·left
    refine ⟨htint,fun i y hy=>?_,fun i y hy=>hu.2 i y (by rw [<-eX];exact hy)⟩
    rcases back i y hy with ⟨_,rfl⟩ | ⟨_,hy⟩
    ·exact h
    ·exact hu.1 i y hy
   ·exact .inr (.inl h)
   ·exact .inr (.inr (.inr (.inl ⟨_,_,here,h⟩)))
  ·have hpos:=ZW hj
   refine ⟨zrJ G F hpos.1.2 hm0 hm1,fun i y hy hpc ho=>?_,fun i y hy hpc ho=>?_⟩
   ·rcases back i y hy with ⟨_,rfl⟩ | ⟨_,hy⟩
    ·exfalso
     rcases hT with ⟨_,_,e⟩ | ⟨_,_,c,_,e⟩ | ⟨_,_,c,e⟩
     ·rw [eT,e] at hm1;exact hm0 hm1
     ·have h3:(zu s w x).2.Obj=x.Obj:=by rw [zx4 c];dsimp only;split<;>rfl
      exact hm0 (by rw [<-ho,h3];exact zvP G hx (.inr (.inl c)))
     ·rw [eT,e,(zAu _ _).1] at hm1;exact hm0 hm1
    ·exact absurd (ho▸zvP G hy hpc) hm0
   ·rw [eX] at hy
    exact absurd (ho▸zvW G hy hpc) hm0
 refine ⟨fun o ho=>?_,fun i y hy=>?_,fun i y hy=>I.sx i y (by rw [<-eX];exact hy),fun i y hy hW=>?_⟩
 ·have h0:o≠0:=by have:=ho.in;omega
  rcases I.lv o ho with h | h
  ·exact .inl (mono o h)
  ·exact P.prot h h0
 ·rcases back i y hy with ⟨_,rfl⟩ | ⟨_,hy⟩
  ·exact sl1
  ·exact I.sw i y hy
 ·rw [eX] at hy
  obtain ⟨a,b⟩:=I.cv i y hy hW
  rw [eH]
  exact ⟨a,fun e=>(b e).imp id (fun h=>h.imp (mono _) id)⟩
end
end Go.Pe.G
namespace Go.Pe.G
open Go.Pe
noncomputable section
theorem PI.same {p:zb}{s s':za}{W:Int->Int->Prop}(I:PI p s W) (eH:s'.H=s.H) (eT:s'.T=s.T) (eW:s'.Ws=s.Ws) (eX:s'.Ms=s.Ms):PI p s' W:=by
 have us:∀u j,US s u j->US s' u j:=fun u j h=>⟨fun i x hx=>h.1 i x (by rw [<-eW];exact hx),fun i x hx=>h.2 i x (by rw [<-eX];exact hx)⟩
 have pd:∀o,zoI s o->zoI s' o:=fun o h=>by
  rcases h with ⟨i,x,hx,h⟩ | ⟨i,x,hx,h⟩
  ·exact .inl ⟨i,x,by rw [eW];exact hx,h⟩
  ·exact .inr ⟨i,x,by rw [eX];exact hx,h⟩
 have P:zuM s s' W W:=⟨fun o h=>by rw [eT];exact h,fun o h=>.inr (pd o h),fun u j hW hj=>.inl ⟨hW,by rw [eH];exact hj,by rw [eH]⟩,fun u j _ _ hg hu=>.inl ⟨by rw [eT];exact hg,us u j hu⟩,fun u j _ _ h1 h2=>by rw [eT] at h2;exact absurd h2 h1⟩
 refine ⟨fun o ho=>?_,fun i x hx=>I.sw i x (by rw [<-eW];exact hx),fun i x hx=>I.sx i x (by rw [<-eX];exact hx),fun i x hx hW=>?_⟩
 ·have h0:o≠0:=by have:=ho.in;omega
  rcases I.lv o ho with h | h
  ·exact .inl (by rw [eT];exact h)
  ·exact P.prot h h0
 ·obtain ⟨a,b⟩:=I.cv i x (by rw [<-eX];exact hx) hW
  rw [eH,eT]
  exact ⟨a,b⟩
theorem PI.det {p:zb}{s:za}{W:Int->Int->Prop}(I:PI p s W):PI p (xu s) W:=by
 have hd:=zwQ s
 exact I.same (by conv=>rhs;rw [<-hd]) (by conv=>rhs;rw [<-hd]) (by conv=>rhs;rw [<-hd]) (by conv=>rhs;rw [<-hd])
theorem zDy {p:zb}(hp:zB p) {nb k:Nat}{s:za}{gh:Gh}{W:Int->Int->Prop}(hk:k<2147480000) (I:EG p nb k s gh) (J:PI p s W) (j:Int):∃gh' W',EG p nb (k+1) (WY s j) gh'/\PI p (WY s j) W'/\Ur s (WY s j):=by
 obtain ⟨gh',I',F⟩:=I.next hp hk j
 have fin:(∃W',PI p (WY s j) W')->∃gh' W',EG p nb (k+1) (WY s j) gh'/\PI p (WY s j) W'/\Ur s (WY s j):=fun ⟨W',h⟩=>⟨gh',W',I',h,F⟩
 refine fin ?_
 cases hd:s.Done with
 | true=>rw [zwz hd];exact ⟨W,J⟩
 | false =>
  have hwl:=I.G.E.wl
  have hml:=I.G.E.ml
  unfold WY
  split
  ·exact ⟨W,J.det⟩
  split
  ·by_cases h1:1<=j
   ·exact ⟨W,PI.worker hp (by omega) I.G J (by omega) hd⟩
   ·have:z9 s j=s:=by unfold z9;rw [if_pos (.inr (.inl (by omega)))]
    rw [this];exact ⟨W,J⟩
  ·by_cases h1:1<=j-(s.Ws.length:Int)/\j-(s.Ws.length:Int)<=(s.Ms.length:Int)
   ·exact PI.mutator hp (by omega) I.G J (by omega) hd
   ·have:zY s (j-(s.Ws.length:Int))=s:=by unfold zY;rw [if_pos (by omega)]
    rw [this];exact ⟨W,J⟩
end
end Go.Pe.G
namespace Go.Pe.G
open Go.Pe
noncomputable section
theorem zC2 (a b:BitVec 64):a&&& ~~~b=0#64↔∀o,zI a o=true->zI b o=true:=by
 constructor
 ·intro h o ho
  have hr:=(xy _ _).1 ho
  refine Classical.byContradiction (fun hb=>?_)
  have:zI (a&&& ~~~b) o=true:=(za6 _ _ _).2 ⟨ho,(zkm b ⟨hr.1,hr.2.1⟩).2 hb⟩
  rw [h] at this
  exact XO o this
 ·intro h
  refine zvS (fun o=>⟨fun e=>?_,fun e=>absurd e (XO o)⟩)
  obtain ⟨e1,e2⟩:=(za6 _ _ _).1 e
  have hr:=(xy _ _).1 e1
  exact absurd (h o e1) ((zkm b ⟨hr.1,hr.2.1⟩).1 e2)
end
end Go.Pe.G
namespace Go.Pe.G
open Go.Pe
noncomputable section
theorem zEC {l:List Int}{v:Int}(hv:1<=v/\v<=64):∀(a:BitVec 64),zI a v=true\/v∈l->zI (l.foldl (fun s o=>s|||bit o) a) v=true:=by
 induction l with
 | nil=>rintro a (h | h);exact h;cases h
 | cons x l ih =>
  rintro a h
  refine ih _ ?_
  rw [vf]
  rcases h with h | h
  ·exact .inl (.inl h)
  ·rcases zG9.1 h with rfl | h
   ·exact .inl (.inr ((wq 0#64 hv v).2 (.inr rfl) |> fun h=>by simpa using h))
   ·exact .inr h
end
end Go.Pe.G
namespace Go.Pe.G
open Go.Pe
noncomputable section
theorem zFB {p:zb}(h:zB p):PI p (yr p) (fun _ _=>False):=by
 have hms:∀(i:Nat) x,(yr p).Ms[i]? =some x->x.PC=0:=fun i x hx=>by
  obtain ⟨r,_,e⟩:=zG2.1 (show x∈p.Regs.map vi from zGW hx)
  rw [<-e];rfl
 have hws:∀(i:Nat) x,(yr p).Ws[i]? =some x->x.PC=0:=fun i x hx=>by
  obtain ⟨j,_,e⟩:=zG2.1 (show x∈(List.range p.Workers.toNat).map (ub p) from zGW hx)
  rw [<-e];rfl
 have us:∀u j,US (yr p) u j:=fun u j=>⟨fun i x hx e=>by have:=hws i x hx;omega,fun i x hx e=>by have:=hms i x hx;omega⟩
 refine ⟨fun o ho=>?_,fun i x hx=>?_,fun i x hx=>?_,fun i x hx _=>?_⟩
 ·induction ho with
  | root o h1 h2=>exact .inl h1
  | step o v h1 h2 h3 ih =>
   right
   have ho:=h1.in
   obtain ⟨j,hj⟩:=zIt.1 h2
   have hjl:=(zGY.1 hj).1
   have hs:yA (yr p).H o (j:Int)=true:=by
    show yA p.H o (j:Int)=true
    unfold yA;simp;omega
   have hg:zH (yr p).H o (j:Int)=v:=by
    show zH p.H o (j:Int)=v
    unfold zH
    rw [if_pos (show yA p.H o (j:Int)=true from hs),zGS,zHv,hj];rfl
   rcases ih with ih | ih
   ·exact .grey o j v (fun e=>e) hs hg ((ux _ _).2 ⟨ih,XO o⟩) (us _ _)
   ·by_cases hm:zI (yr p).T.Marks o=true
    ·exact .grey o j v (fun e=>e) hs hg ((ux _ _).2 ⟨hm,XO o⟩) (us _ _)
    ·exact .white o j v (fun e=>e) hs hg hm ih
 ·have:=hws i x hx;exact ⟨fun e=>by omega,fun e=>by omega,fun e=>by omega⟩
 ·have:=hms i x hx;exact ⟨fun e=>by omega,fun e=>by omega,fun e=>by omega⟩
 ·have:=hms i x hx
  exact ⟨fun e=>by omega,fun e=>by omega⟩
end
end Go.Pe.G
namespace Go.Pe.G
open Go.Pe
noncomputable section
theorem zwy {o:Int}(h:1<=o/\o<=64):zI (bit o) o=true:=by
 have:=(wq 0#64 h o).2 (.inr rfl)
 simpa using this
theorem zsO {o:Int}(ho:1<=o/\o<=64):∀(l:List zx) (a:BitVec 64),(zI a o=true\/∃g∈l,zxO g o)->zI (l.foldl (fun a g=>a|||bit (atS g 0 1 g.Obj)) a) o=true
 | [],a,h=>by
  rcases h with h | ⟨x,h,_⟩
  ·exact h
  ·cases h
 | y::l,a,h=>by
  refine zsO ho l _ ?_
  rcases h with h | ⟨x,hx,h⟩
  ·exact .inl ((vf _ _ _).2 (.inl h))
  ·rcases zG9.1 hx with rfl | hx
   ·refine .inl ((vf _ _ _).2 (.inr ?_))
    have:atS x 0 1 x.Obj=o:=by unfold atS;rw [if_pos h.1,if_pos (by have:=h.2.1;omega),if_pos (by have:=h.2.1;omega),h.2.2]
    rw [this];exact zwy ho
   ·exact .inr ⟨x,hx,h⟩
theorem zzm {o:Int}{a:BitVec 64}(x:zc) (h:zI a o=true):zI (zbn a x) o=true:=by
 unfold zbn
 split
 ·exact (vf _ _ _).2 (.inl ((vf _ _ _).2 (.inl h)))
 ·exact (vf _ _ _).2 (.inl h)
theorem zgx {o:Int}:∀(l:List zc) (a:BitVec 64),(zI a o=true\/∃x∈l,∀b,zI (zbn b x) o=true)->zI (l.foldl zbn a) o=true
 | [],a,h=>by
  rcases h with h | ⟨x,h,_⟩
  ·exact h
  ·cases h
 | y::l,a,h=>by
  refine zgx l _ ?_
  rcases h with h | ⟨x,hx,h⟩
  ·exact .inl (zzm y h)
  ·rcases zG9.1 hx with rfl | hx
   ·exact .inl (h a)
   ·exact .inr ⟨x,hx,h⟩
theorem zER {p:zb}{nb k:Nat}{s:za}{gh:Gh}(G:FG p nb k s gh) (hN:(s.H.Objs.length:Int)<=9) {o:Int}(h:zoI s o):(1<=o/\o<=(s.H.Objs.length:Int))/\zI (zlh s) o=true:=by
 rcases h with ⟨i,x,hx,h6,hk⟩ | ⟨i,x,hx,h⟩
 ·have hm:=zGW hx
  have hg:=(G.W i x hx).p6 h6
  have hob:=hg.1.ob
  have hw:=G.wob i x hx h6
  have hr:1<=o/\o<=(s.H.Objs.length:Int):=by have:=hk.2.2;omega
  refine ⟨hr,zgx _ _ (.inl (zsO (by omega) _ _ (.inr ⟨x.G,?_,hk⟩)))⟩
  exact zG7 _ (zG2.2 ⟨x,zH9.2 ⟨hm,decide_eq_true h6⟩,rfl⟩)
 ·have K:=G.M i x hx
  have hm:=zGW hx
  obtain ⟨b1,b2,b3⟩:=G.buf x hm
  rcases h with h | ⟨h,e⟩ | ⟨h,hk⟩
  ·have hr:1<=o/\o<=(s.H.Objs.length:Int):=⟨(K.bf o h).1,b1 o h⟩
   refine ⟨hr,zgx _ _ (.inr ⟨x,hm,fun b=>?_⟩)⟩
   have:zI (b|||zgb x.Buf) o=true:=(vf _ _ _).2 (.inr (zEC (by omega) _ (.inr h)))
   unfold zbn
   split
   ·exact (vf _ _ _).2 (.inl this)
   ·exact this
  ·have ho:=K.ol.2 h
   have hr:1<=o/\o<=(s.H.Objs.length:Int):=by omega
   refine ⟨hr,zgx _ _ (.inr ⟨x,hm,fun b=>?_⟩)⟩
   unfold zbn
   rw [if_pos (show zfG x by unfold zfG;omega)]
   exact (vf _ _ _).2 (.inr (by rw [e];exact zwy (by omega)))
  ·have h3:=b3 h
   have hob:1<=x.G.Obj:=by
    rcases h with h | h
    ·exact (K.p3 h).1.ob.1
    ·exact (K.p37 h).1.ob.1
   have hr:1<=o/\o<=(s.H.Objs.length:Int):=by have:=hk.2.2;omega
   refine ⟨hr,zgx _ _ (.inl (zsO (by omega) _ _ (.inr ⟨x.G,?_,hk⟩)))⟩
   exact zHk _ (zG2.2 ⟨x,zH9.2 ⟨hm,decide_eq_true h⟩,rfl⟩)
theorem zBg {p:zb}{nb k:Nat}{s:za}{gh:Gh}(G:FG p nb k s gh) (hN:(s.H.Objs.length:Int)<=9) {W:Int->Int->Prop}{o:Int}(h:znH s W o):o≠0->Reach s.H (zdx s|||zlh s) o:=by
 have hv:∀l∈s.H.Objs,∀v∈l,0<=v/\v<=(s.H.Objs.length:Int):=fun l hl=>(G.E.H.objs l hl).2
 induction h with
 | pend o h =>
  intro _
  obtain ⟨a,b⟩:=zER G hN h
  exact .root o ((vf _ _ _).2 (.inr b)) a
 | white u j o hW hj he hu hp ih =>
  intro h0
  subst he
  have hs:=zAA hv h0
  exact .step u _ (ih (by have:=ZW hj;omega)) hs.1 ⟨hs.2.1,hs.2.2⟩
 | grey u j o hW hj he hg hs' =>
  intro h0
  subst he
  have hs:=zAA hv h0
  have hp:=ZW hj
  exact .step u _ (.root u ((vf _ _ _).2 (.inl ((zwn u).2 hg))) hp.1) hs.1 ⟨hs.2.1,hs.2.2⟩
theorem zDr {p:zb}(h:zB p) {nb k:Nat}{s:za}{gh:Gh}{W:Int->Int->Prop}(G:FG p nb k s gh) (J:PI p s W):zqQ p&&& ~~~(s.T.Marks|||zlN s.H (zdx s|||zlh s))=0#64:=by
 have hN:=G.E.H.n
 have hn:=h.n
 have hmo:=h.most
 refine (zC2 _ _).2 (fun o ho=>(vf _ _ _).2 ?_)
 have hr:=(zDw h o).1 ho
 have h0:o≠0:=by have:=hr.in;omega
 rcases J.lv o hr with e | e
 ·exact .inl e
 ·exact .inr ((zpY (by omega) G.E.small.obj _ o).2 (zBg G (by omega) e h0))
end
end Go.Pe.G
namespace Go.Pe.G
open Go.Pe
noncomputable section
namespace B19
theorem zxD {p:zb}(hp:zB p) {nb:Nat}:∀(l:List zh) {k:Nat}{s:za}{gh:Gh},(∀x∈l,Yy p x)->k+l.length<2147480000->EG p nb k s gh->∃k' gh',k'<=k+l.length/\EG p nb k' (uN s l).1 gh'
 | [],k,s,gh,_,_,I=>⟨k,gh,by simp,I⟩
 | x::l,k,s,gh,hx,hk,I=>by
  rw [zG8] at hk
  rw [zqB]
  split
  ·exact ⟨k,gh,by simp,I⟩
  ·obtain ⟨gh',I',_⟩:=I.next hp (by omega) (zlQ p x)
   rw [<-zwE hp I.G.E (hx x (zHc ..))] at I'
   obtain ⟨k',gh2,h1,h2⟩:=zxD hp l (fun y hy=>hx y (zGX _ hy)) (by omega) I'
   exact ⟨k',gh2,by rw [zG8];omega,h2⟩
theorem zv2 {p:zb}(hp:zB p) {nb:Nat}{l:List zh}(hl:∀x∈l,Yy p x) (hlen:l.length<=10):∀(n:Nat) {k:Nat}{s:za}{gh:Gh},k+10*n<2147480000->EG p nb k s gh->∃k' gh',k'<=k+10*n/\EG p nb k' (uw l n s).1 gh'
 | 0,k,s,gh,_,I=>⟨k,gh,by omega,I⟩
 | n+1,k,s,gh,hk,I=>by
  rw [zqa]
  split
  ·exact ⟨k,gh,by omega,I⟩
  ·obtain ⟨k1,gh1,h1,I1⟩:=zxD hp l hl (by omega) I
   obtain ⟨k',gh',h2,I2⟩:=zv2 hp hl hlen n (by omega) I1
   exact ⟨k',gh',by omega,I2⟩
theorem zEd {p:zb}(hp:zB p) {n m:Nat}(hn:(n:Int)=p.Workers) (hm:(m:Int)=p.Mutators):(∀x∈Xt n m,Yy p x)/\(Xt n m).length<=10:=by
 have hw:=hp.wk
 have hmt:=hp.mt
 refine ⟨fun x hx=>?_,by simp [Xt,zlB];omega⟩
 have hp':∀k n,x∈zaD k n->x.Kind=k/\1<=x.N/\x.N<=(n:Int):=fun k n h=>by
  obtain ⟨i,hi,rfl⟩:=zG2.1 (show x∈(List.range n).map _ from h)
  have:=zHl.1 hi
  exact ⟨rfl,by show (1:Int)<=(i:Int)+1;omega,by show (i:Int)+1<=(n:Int);omega⟩
 rcases zHb.1 (show x∈(⟨0,0⟩::zaD 1 n)++zaD 2 m from hx) with h | h
 ·rcases zG9.1 h with rfl | h
  ·exact .inl ⟨rfl,rfl⟩
  ·have:=hp' 1 n h;exact .inr (.inl ⟨this.1,this.2.1,by omega⟩)
 ·have:=hp' 2 m h;exact .inr (.inr ⟨this.1,this.2.1,by omega⟩)
theorem zDx {p:zb}{nb k:Nat}{s:za}{gh:Gh}(G:FG p nb k s gh) (h:yi (ld s.M (z5 p))=0):gh.F=[]:=by
 have c:=G.X.L.cF
 rw [h] at c
 cases hf:gh.F with
 | nil=>rfl
 | cons y l =>
  rw [hf] at c
  have c:_/\_:=c
  omega
theorem zxJ {p:zb}(h:zB p) {nb k:Nat}{s:za}{gh:Gh}(G:FG p nb k s gh) {x:zg}(hx:s.Ws[0]? =some x) (h0:x.PC≠0):Zi s 1=some (uj (zQ s x++X7 s.M (zL p 1) p.Cap ⟨0,0,0,0,0#64,0#64,0,0⟩),()):=by
 have hwk:=h.wk
 have:=zrF h G hx
 have D:=G.X.D 1 (by omega) (by omega)
 have hc:=(G.W 0 x hx).c0 h0
 rw [show ((0:Nat):Int)+1=1 from rfl] at this hc
 rw [hc] at D
 rw [zn9 h (by omega) D (fun e=>absurd e.1 (by show ¬(0:Int)=2;decide))]
 exact this
theorem zCk {A B D:Type}{f:A->Option (yE A B D)}{x y:A}{b:B}(h1:f x=some (.again y)) (h:f y=some (.brk b)):zR f x=some (.brk b):=by
 rw [X4]
 show xz f (18446744073709551614+1+1) x=_
 rw [xz,h1,zGO]
 dsimp only
 rw [xz,h];rfl
def zxp:List zk:=[⟨1,1,0,0⟩,⟨5,1,0,0⟩,⟨2,1,0,0⟩]
def pEx:zb:=⟨1,1,2,1,1,4,2,2,⟨1,[[2],[0],[0]]⟩,1#64,[[1,0]],[zxp],[]⟩
theorem zD7:zaT [zxp]=some (pEx,()):=by
 rw [zm0,zCk (by rw [zaF,zj,if_pos (by decide),yt (by decide),zGO,va (by decide)];simp only [Int.toNat_zero,zHP,zGO];rw [yt (by decide),zGO,zW (by decide) (by decide)]) (by rw [zaF,zj,if_neg (by decide)])];rfl
theorem U6:zB pEx:=by
 constructor
 case objs=>intro o ho;simp [pEx] at ho ⊢;rcases ho with rfl | rfl | rfl<;>simp
 case roots=>exact ⟨1,by decide,by decide,by decide⟩
 case reg=>intro r hr;simp [pEx] at hr ⊢;subst hr;simp
 case prog =>
  intro k r ops hr ho
  cases k with
  | succ k=>cases ho
  | zero =>
   injection hr with hr
   injection ho with ho
   subst hr;subst ho
   refine ⟨by decide,fun o h=>?_⟩
   simp [zxp] at h
   rcases h with rfl | rfl | rfl
   ·exact ⟨by decide,.inl ⟨.inl rfl,by decide,by decide⟩⟩
   ·exact ⟨by decide,.inr (.inr ⟨.inr rfl,rfl,rfl⟩)⟩
   ·exact ⟨by decide,.inl ⟨.inr rfl,by decide,by decide⟩⟩
 all_goals first | decide | rfl
def mEx:List zh:=[⟨2,1⟩]
def wEx:List zh:=[⟨1,1⟩,⟨1,1⟩,⟨1,1⟩,⟨1,1⟩,⟨1,1⟩,⟨1,1⟩,⟨1,1⟩]
def aEx:za:=(List.replicate 6 ()).foldl (fun r _=>(uN r mEx).1) (yr pEx)
def bEx:za:=(uN aEx mEx).1
def cEx:za:=(uN bEx mEx).1
def dEx:za:=(uw (Xt 1 1) 900 cEx).1
def vEx:za:=(uN (yr pEx) wEx).1
theorem zzb:∀x∈mEx,Yy pEx x:=fun x hx=>by rw [zHs.1 hx];exact .inr (.inr ⟨rfl,by decide,by decide⟩)
theorem zFx:∀x∈wEx,Yy pEx x:=fun x hx=>by
 have:x=⟨1,1⟩:=by simpa [wEx] using hx
 rw [this];exact .inr (.inl ⟨rfl,by decide,by decide⟩)
def EGx (k:Nat) (s:za):Prop:=∃k' gh,k'<=k/\EG pEx (zS pEx+1) k' s gh
theorem zqL {k:Nat}{s:za}(h:EGx k s) (hk:k<1000000) {l:List zh}(hl:∀x∈l,Yy pEx x) (hlen:l.length<=10):EGx (k+10) (uN s l).1:=by
 obtain ⟨k',gh,h1,I⟩:=h
 obtain ⟨k2,gh2,h2,I2⟩:=zxD U6 l hl (by omega) I
 exact ⟨k2,gh2,by omega,I2⟩
theorem zF3:EGx 60 aEx:=by
 have h0:EGx 0 (yr pEx):=⟨0,gh0 pEx,by omega,zuJ U6⟩
 have go:∀(n:Nat) {k:Nat}{s:za},k+10*n<1000000->EGx k s->EGx (k+10*n) ((List.replicate n ()).foldl (fun r _=>(uN r mEx).1) s):=by
  intro n
  induction n with
  | zero=>intro k s _ h;exact h
  | succ n ih =>
   intro k s hk h
   rw [List.replicate_succ,zHI]
   have:=ih (k:=k+10) (by omega) (zqL h (by omega) zzb (by decide))
   rwa [show k+10+10*n=k+10*(n+1) by omega] at this
 exact go 6 (by omega) h0
theorem zF5:EGx 70 bEx:=zqL zF3 (by omega) zzb (by decide)
theorem zF2:EGx 80 cEx:=zqL zF5 (by omega) zzb (by decide)
theorem zGF:EGx 10 vEx:=zqL ⟨0,gh0 pEx,by omega,zuJ U6⟩ (by omega) zFx (by decide)
theorem zGG:EGx 10000 dEx:=by
 obtain ⟨k,gh,h1,I⟩:=zF2
 obtain ⟨a,b⟩:=zEd U6 (n:=1) (m:=1) rfl rfl
 obtain ⟨k',gh',h2,I2⟩:=zv2 U6 a b 900 (by omega) I
 exact ⟨k',gh',by omega,I2⟩
theorem zET:zR wX (mEx,0,yr pEx,yr pEx,())=some (.brk (mEx,yr pEx,aEx,())):=by
 have E0:=zCI U6
 have:=Zp (f:=wX) (fun j r=>(mEx,j,yr pEx,r,())) (fun r=>(mEx,yr pEx,r,())) (List.replicate 6 ()) (by decide) (fun r _=>(uN r mEx).1) (fun _ r=>EOk pEx (zS pEx+1) r) (s:=yr pEx) E0
  (fun i r x hx hi E=>by
   have hi:i<6:=by simpa using hi
   refine ⟨zyn U6 mEx E,?_⟩
   show wX (mEx,(i:Int),yr pEx,r,())=_
   rw [Uj,zj,if_pos (by omega),zdy U6 E (by decide),zGO,yz (by omega)])
  (fun r E=>by
   show wX (mEx,6,yr pEx,r,())=_
   rw [Uj,zj,if_neg (by decide)])
 exact this.1
theorem zFh (a b:List Int) (ha:a.length<1000000):Z0 a b=some (decide (a=b),()):=by
 rw [zov,yy]
 by_cases hl:a.length=b.length
 rotate_left
 ·rw [if_neg (by omega),decide_eq_false (fun e=>hl (by rw [e]))]
 rw [if_pos (by omega)]
 obtain ⟨o,e,ho⟩:=xW (f:=Uw) (fun c=>∃i:Nat,i<=a.length/\c=(a,b,(i:Int),())/\(a=b↔a.drop i=b.drop i)) (fun c=>a.length-c.2.2.1.toNat) (fun o=>(o= .brk ()/\a=b)\/(o= .ret (false,())/\a≠b)) (by
  rintro _ ⟨i,hi,rfl,h⟩
  rw [zlc,zj]
  by_cases c1:(i:Int)<(a.length:Int)
  ·have hx:=zGQ (show i<a.length by omega)
   have hy:=zGQ (show i<b.length by omega)
   have dx:=zHA (show i<a.length by omega)
   have dy:=zHA (show i<b.length by omega)
   generalize a[i]'(by omega)=x at hx dx
   generalize b[i]'(by omega)=y at hy dy
   rw [dx,dy,List.cons.injEq] at h
   rw [if_pos c1,xw hx,zGO,xw hy,zGO,yy]
   by_cases c2:x=y
   ·rw [if_pos c2,yz (by omega)]
    refine ⟨_,rfl,⟨i+1,by omega,rfl,h.trans ⟨fun e=>e.2,fun e=>⟨c2,e⟩⟩⟩,?_⟩
    show a.length-((i+1:Nat):Int).toNat<a.length-(i:Int).toNat
    omega
   ·rw [if_neg c2]
    exact ⟨_,rfl,.inr ⟨rfl,fun e=>c2 (h.1 e).1⟩⟩
  ·rw [if_neg c1]
   have:i=a.length:=by omega
   refine ⟨_,rfl,.inl ⟨rfl,h.2 ?_⟩⟩
   rw [List.drop_of_length_le (by omega),List.drop_of_length_le (by omega)]) (a,b,0,()) ⟨0,by omega,rfl,Iff.rfl⟩ (by show a.length-0<18446744073709551616;omega)
 rw [e]
 rcases ho with ⟨rfl,h⟩ | ⟨rfl,h⟩
 ·rw [decide_eq_true h];rfl
 ·rw [decide_eq_false h];rfl
theorem zze {h:zr}(hn:h.Objs.length<=9) (hs:∀l∈h.Objs,l.length<1000000) (R S:BitVec 64) (h1:∀o,Reach h R o↔zI S o=true):zlN h R=S:=zvS (fun o=>(zpY hn hs R o).trans (h1 o))
theorem zvR {o:Int}:zI 1#64 o=true↔o=1:=by
 rw [show (1#64:BitVec 64)=bit 1 by decide]
 exact ⟨fun e=>zxv e,fun e=>by rw [e];decide⟩
theorem zGM {o:Int}:zI 3#64 o=true↔o=1\/o=2:=by
 rw [show (3#64:BitVec 64)=1#64|||bit 2 by decide,wq _ (by decide),zvR]
theorem zDs:zsW (yr pEx)=3#64:=by
 have eR:(yr pEx).P.Roots|||ztj 0#64 (yr pEx).Ms=1#64:=by decide +kernel
 have eH:(yr pEx).H=⟨1,[[2],[0],[0]]⟩:=rfl
 unfold zsW
 rw [eR,eH]
 refine zze (by decide) (by intro l hl;simp at hl;rcases hl with rfl | rfl | rfl<;>decide) _ _ (fun o=>?_)
 rw [zGM]
 constructor
 ·intro r
  induction r with
  | root o h1 h2=>exact .inl (zvR.1 h1)
  | step o v _ h2 h3 ih =>
   rcases ih with rfl | rfl
   ·have h2:v∈([2]:List Int):=h2
    exact .inr (zHs.1 h2)
   ·have h2:v∈([0]:List Int):=h2
    have:=zHs.1 h2
    omega
 ·have r1:Reach ⟨1,[[2],[0],[0]]⟩ 1#64 1:= .root 1 (zvR.2 rfl) (by decide)
  rintro (rfl | rfl)
  ·exact r1
  ·exact .step 1 2 r1 (by show (2:Int)∈([2]:List Int);decide) (by decide)
theorem zFO:zsW cEx=1#64:=by
 have eR:cEx.P.Roots|||ztj 0#64 cEx.Ms=1#64:=by decide +kernel
 have eH:cEx.H=⟨1,[[0],[0],[0]]⟩:=by kernel_rfl
 unfold zsW
 rw [eR,eH]
 refine zze (by decide) (by intro l hl;simp at hl;subst hl;decide) _ _ (fun o=>?_)
 rw [zvR]
 constructor
 ·intro r
  induction r with
  | root o h1 h2=>exact zvR.1 h1
  | step o v _ h2 h3 ih =>
   subst ih
   have h2:v∈([0]:List Int):=h2
   have:=zHs.1 h2
   omega
 ·rintro rfl
  exact .root 1 (zvR.2 rfl) (by decide)
theorem zxi:Uf=some (true,()):=by
 have h:=U6
 have I0:=zuJ U6
 have E0:=I0.G.E
 obtain ⟨ka,ga,_,Ia⟩:=zF3
 obtain ⟨kb,gb,_,Ib⟩:=zF5
 obtain ⟨kc,gc,_,Ic⟩:=zF2
 obtain ⟨kd,gd,_,Id⟩:=zGG
 obtain ⟨kv,gv,_,Iv⟩:=zGF
 have sa:=Ia.G.E
 have sb:=Ib.G.E
 have sc:=Ic.G.E
 have lw:∀ {s:za},EOk pEx (zS pEx+1) s->s.Ws.length<=100/\s.Ms.length<=100:=fun E=>by
  have a:((_:Nat):Int)=1:=E.wl
  have b:((_:Nat):Int)=1:=E.ml
  omega
 have rb:u9 aEx mEx=some (bEx,(uN aEx mEx).2,()):=zdy h sa (by decide)
 have rc:u9 bEx mEx=some (cEx,(uN bEx mEx).2,()):=zdy h sb (by decide)
 have rd:zao cEx 900=some (dEx,(uw (Xt 1 1) 900 cEx).2,()):=by
  have e1:cEx.Ws.length=1:=by have:=sc.wl;have:((cEx.Ws.length:Nat):Int)=1:=this;omega
  have e2:cEx.Ms.length=1:=by have:=sc.ml;have:((cEx.Ms.length:Nat):Int)=1:=this;omega
  have:=zwV h sc (most:=900) (by decide)
  rw [e1,e2] at this
  exact this
 have rv:u9 (yr pEx) wEx=some (vEx,(uN (yr pEx) wEx).2,()):=zdy h E0 (by decide)
 have hv:ZX vEx=some ([],()):=by
  rw [(zoG h Iv.G).1,zDx Iv.G (by decide +kernel)];rfl
 have hl0:ZX (yr pEx)=some ([1],()):=by
  rw [(zoG h I0.G).1]
  have:uj ((gh0 pEx).F.flatMap (yw (yr pEx)))=[1]:=by decide +kernel
  rw [this]
 have hh0:U8 (yr pEx)=some ([1],()):=by
  rw [zyd h I0.G]
  have:Xv (zdx (yr pEx))=[1]:=by decide +kernel
  rw [this]
 have hw1:Zi vEx 1=some ([1],()):=by
  obtain ⟨x,hx⟩:∃x,vEx.Ws[0]? =some x:=⟨_,zGQ (show 0<vEx.Ws.length by have:=Iv.G.E.wl;have:((vEx.Ws.length:Nat):Int)=1:=this;omega)⟩
  have hc:(vEx.Ws[0]?).map (fun x=>decide (x.PC≠0))=some true:=by decide +kernel
  have hd:(vEx.Ws[0]?).map (fun x=>uj (zQ vEx x++X7 vEx.M (zL pEx 1) pEx.Cap ⟨0,0,0,0,0#64,0#64,0,0⟩))=some [1]:=by decide +kernel
  rw [hx,zHH,Option.some.injEq] at hc hd
  rw [zxJ h Iv.G hx (by simpa using hc),hd]
 have hw2:Zi (yr pEx) 2=some ([],()):=by
  rw [zkE,zj,if_neg (by decide),zj,if_pos (by decide +kernel)]
 have hm1:XT (yr pEx) 1=some ([],()):=by
  obtain ⟨x,hx⟩:∃x,(yr pEx).Ms[0]? =some x:=⟨_,rfl⟩
  have hd:((yr pEx).Ms[0]?).map (fun x=>uj (zZ (yr pEx) x))=some []:=by decide +kernel
  rw [hx,zHH,Option.some.injEq] at hd
  have:=zpg h I0.G hx
  rw [hd] at this
  exact this
 have p0:zlh (yr pEx)=0#64:=by decide +kernel
 have pa:zlh aEx=2#64:=by decide +kernel
 have pb:zlh bEx=2#64:=by decide +kernel
 have pc:zlh cEx=2#64:=by decide +kernel
 have g0:ztj 0#64 (yr pEx).Ms=1#64:=by decide +kernel
 have dd:dEx.Done=true:=by decide +kernel
 have dq:zuF dEx=true:=by decide +kernel
 have dm:dEx.T.Marks=3#64:=by decide +kernel
 have q0:zuF (yr pEx)=false:=by decide +kernel
 have o0:zag (yr pEx)=0:=by decide +kernel
 have s1:Z0 [1] [1]=some (true,()):=by rw [zFh _ _ (by decide)];rfl
 have nO:∀ {s:za},EOk pEx (zS pEx+1) s->s.H.Objs.length<=9:=fun E=>by
  have a:=E.H.n
  have b:pEx.Most=4:=rfl
  omega
 rw [zj2,show ([([zk.mk 1 1 0 0,zk.mk 5 1 0 0,zk.mk 2 1 0 0]:List zk)]:List (List zk))=[zxp] from rfl,zD7,zGO,zwa h,zGO]
 dsimp only
 rw [show ([zh.mk 2 1]:List zh)=mEx from rfl,zET,zGO]
 dsimp only
 rw [rb,zGO]
 dsimp only
 rw [rc,zGO]
 dsimp only
 rw [rd,zGO]
 rw [show ([zh.mk 1 1,zh.mk 1 1,zh.mk 1 1,zh.mk 1 1,zh.mk 1 1,zh.mk 1 1,zh.mk 1 1]:List zh)=wEx from rfl,rv,zGO,hh0,zGO]
 dsimp only
 rw [s1,zGO,cond_true,hl0,zGO]
 dsimp only
 rw [s1,zGO,cond_true,zaP E0.small (lw E0).1 (lw E0).2,zGO,p0]
 dsimp only
 rw [decide_eq_true rfl,cond_true,zwG E0.small (nO E0),zGO,zDs]
 dsimp only
 rw [decide_eq_true rfl,cond_true,zwp E0.small,zGO,g0]
 dsimp only
 rw [decide_eq_true rfl,cond_true,zaP sa.small (lw sa).1 (lw sa).2,zGO,pa]
 dsimp only
 rw [decide_eq_true rfl,cond_true,zaP sb.small (lw sb).1 (lw sb).2,zGO,pb]
 dsimp only
 rw [decide_eq_true rfl,cond_true,zwG sc.small (nO sc),zGO,zFO]
 dsimp only
 rw [decide_eq_true rfl,cond_true,zaP sc.small (lw sc).1 (lw sc).2,zGO,pc]
 dsimp only
 rw [decide_eq_true rfl,cond_true,dd,cond_true,zsY h Id.G,zGO,dq]
 dsimp only
 rw [cond_true,dm,decide_eq_true rfl,cond_true,zsY h I0.G,zGO,q0]
 dsimp only
 rw [Bool.not_false,cond_true,hv,zGO]
 dsimp only
 rw [hw1,zGO]
 dsimp only
 rw [s1,zGO,hw2,zGO,hm1,zGO,zB7 (lw E0).1 (lw E0).2,zGO,o0]
 rfl
theorem holdPending_plain (l m:List (BitVec 8)):uo l m=some (true,()):=by
 obtain ⟨p,ep,h⟩:=zEO l
 obtain ⟨ps,epk,hl,hok⟩:=zD8 h m 300 (by decide)
 have hwk:=h.wk
 have hmt:=h.mt
 have hn:=h.n
 have hmo:=h.most
 have epk:Vb p m 300=some (ps,()):=epk
 rw [zgL,zxi]
 simp only [zGO,zG5,cond_false,ep,zwa h,zDa h,epk]
 obtain ⟨e,_⟩:=Zp (f:=vb) (fun j s=>(true,zqQ p,(ps.length:Int),j,s,ps,())) (fun _=>(true,())) ps (by omega) uW (fun i s=>∃gh W,EG p (zS p+1) i s gh/\PI p s W) (s:=yr p) ⟨gh0 p,_,zuJ h,zFB h⟩
  (fun i s x hx hi ⟨gh,W,I,J⟩=>by
   obtain ⟨gh',W',I',J',_⟩:=zDy h (by omega) I J (zlQ p x)
   rw [<-zwE h I.G.E (hok x (zGW hx))] at I' J'
   refine ⟨⟨gh',W',I',J'⟩,?_⟩
   have E':=I'.G.E
   have wl:=E'.wl
   have ml:=E'.ml
   have hN:=E'.H.n
   have hg:(uW s x).T.Marks&&& ~~~(uW s x).T.Black=zdx (uW s x):=rfl
   show vb (true,zqQ p,(ps.length:Int),(i:Int),s,ps,())=_
   rw [WZ,zj,if_pos (by omega),wS (by omega) (by omega),zGO,zHv,hx,zGO,zrA h I.G.E,zGO,ztU,zGO]
   dsimp only
   rw [zaP E'.small (by omega) (by omega),zGO]
   dsimp only
   rw [znY (by omega) E'.small.obj,zGO,zna,zGO]
   dsimp only
   rw [hg,zDr h I'.G J',decide_eq_true rfl,zG5,cond_false,yz (by omega)])
  (fun s _=>by
   show vb (true,zqQ p,(ps.length:Int),(ps.length:Int),s,ps,())=_
   rw [WZ,zj,if_neg (by omega)])
 rw [e];rfl
end B19
end
end Go.Pe.G
