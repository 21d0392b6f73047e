/- Own work of this seat: PWstep, PBits, PWAll, PLists, PWNew, PHeld, PCnt, PWOnce, PItems, PMstep, PHp, PFirst, PNewI, PFull, PHold, PFWork, PEngI, PRem, PHeldAll, PHOwed, PReach, PHTold, PBetween, PRegs, PBound, PLiveP, PProt, PMProt, PMSnap, PWSnap, PEngP, PTri, PPaid, PUnder, PNewPi, PHPend. -/
import Derived.Test.YtijbahhphbkdiaaGreatDoorTRPa
set_option linter.unusedVariables false
set_option linter.unusedSimpArgs false
set_option linter.unnecessarySimpa false
set_option linter.unusedSectionVars false
set_option linter.deprecated false
set_option maxRecDepth 20000
open BitVec renaming toNat_and → zLz, getLsbD_and → zLJ, eq_of_getLsbD_eq → zL0, getLsbD_zero → zL1, toInt_eq_toNat_cond → zL5, getLsbD_not → zMb, ofNat → zMq, ofInt → zMs
open Bool renaming and_eq_true → zKu, not_true → zKI, not_eq_true' → zKQ, true_and → zLu, or_eq_true → zLD
open Int renaming le_refl → zKW, toNat_natCast → zLd
open List renaming getElem?_eq_getElem → zKv, getD_eq_getElem?_getD → zKw, append_nil → zKx, mem_of_getElem? → zKy, mem_cons_of_mem → zKA, getElem?_eq_some_iff → zKC, append_assoc → zKD, mem_map → zKE, nil_append → zKG, length_append → zKH, mem_cons_self → zKJ, length_cons → zKM, mem_cons → zKN, mem_append_left → zKO, getElem?_set_ne → zKP, getElem_mem → zKR, mem_append → zKS, length_set → zKV, getElem?_append_left → zKZ, getElem?_map → zK1, mem_append_right → zK2, getElem?_append_right → zK3, drop_eq_getElem_cons → zK4, mem_range → zK6, length_replicate → zLa, getElem?_set_self → zLb, perm_append_comm_assoc → zLc, mem_singleton → zLf, getElem?_set → zLg, eq_nil_of_length_eq_zero → zLi, mem_or_eq_of_mem_set → zLj, foldl_cons → zLk, flatMap_cons → zLl, perm_append_comm → zLm, length_nil → zLn, sum_cons → zLp, length_map → zLq, map_cons → zLr, getElem?_cons_zero → zLy, mem_iff_getElem? → zLA, getElem?_eq_none → zLC, length_take → zLF, length_filter_le → zLI, nodup_append → zLK, length_drop → zLM, getElem?_replicate → zLP, take_add_one → zLQ, mem_filter → zLR, mem_of_mem_take → zLT, range_succ → zLU, flatMap_append → zLV, range_eq_range' → zLX, cons_append → zLZ, range'_succ → zL6, map_congr_left → zL7, take_append_drop → zL9, take_length → zMa, mem_flatMap → zMd, drop_of_length_le → zMe, getElem?_cons_succ → zMi, eq_of_mem_replicate → zMj, length_singleton → zMl, replicate → zMr, range → zMt, Perm → zMu
open List.Perm renaming append_left → zKK, refl → zKX, append_right → zL2
open Nat renaming le_refl → zKz, lt_or_ge → zK5, mul_le_mul_right → zLw, le_trans → zLB, zero_le → zLH, lt_of_le_of_lt → zMc
open Option renaming bind_some → zKt, bind_eq_some_iff → zKF
namespace Go.Pe.G
open Go.Pe
noncomputable section
def vq (x:zi):List Int:=if x.PC=3\/x.PC=4 then [x.Bin] else if x.PC=6 then wV x.G else []
def UB (s:za) (x:zi):List Int:=if x.PC=0 then YM s.M x.D else if x.PC=3 then yS s x.Bin else if x.PC=5\/x.PC=8 then [x.Obj] else if x.PC=6 then x.Obj::yF x.G else []
def ya (s:za) (x:zi):List Int:=x.Batch++UB s x
structure WX (p:zd) (s:za) (gh:Gh) (w:Int) (x:zi):Prop where
 c0:x.PC≠0->gh.c w=0
 bt:x.PC<=3->x.Batch=[]
 p0:x.PC=0->PK p s.M w (gh.t w) (gh.D w) (gh.c w) x.D
 p1:x.PC=1->TK p s.M x.Victim (gh.t x.Victim) (gh.D x.Victim) x.D
 p2:x.PC=2->x.C.Out=0/\(0<=x.C.PC/\x.C.PC<=2)/\CK p s.M x.C
 p4:x.PC=4->x.C.Out=0/\(0<=x.C.PC/\x.C.PC<=2)/\x.C.X=x.Bin/\CK p s.M x.C
 p6:x.PC=6->GX p s gh x.G/\x.G.Mode=1/\x.G.Who=w/\x.G.Out=0
theorem WX.plain {p:zd}{s:za}{gh:Gh}{w:Int}{x:zi}(h:x.PC=5\/x.PC=7\/x.PC=8\/x.PC=9) (c:gh.c w=0):WX p s gh w x :=
 ⟨fun _=>c,fun e=>by omega,fun e=>by omega,fun e=>by omega,fun e=>by omega,fun e=>by omega,fun e=>by omega⟩
theorem CK.start {p:zd}{m:List (BitVec 64)}{k h x:Int}:CK p m ⟨k,0,h,zT p,0#64,x,0,0⟩ :=
 ⟨fun e=>zj e (by show ¬(1:Int)<=0;decide),fun e=>zj e (by show ¬(0:Int)=2;decide),fun e=>zj e (by show ¬(0:Int)=2;decide)⟩
theorem WX.begin {p:zd}{s:za}{gh:Gh}{w:Int}{x:zi}(c:gh.c w=0) (hb:x.Batch=[]):WX p s gh w (zaq p w x):=by
 refine ⟨fun e=>zj rfl e,fun _=>hb,fun _=>⟨rfl,rfl,rfl,rfl,⟨by show (0:Int)<=0;decide,by show (0:Int)<=6;decide⟩,fun _=>c,?_,?_,?_,?_,?_,?_,?_,?_⟩,fun e=>(by cases e),fun e=>(by cases e),fun e=>(by cases e),fun e=>(by cases e)⟩
 all_goals (intro e;first | (exact zj e (by show ¬((0:Int)=2\/(4:Int)<=0);decide)) | (exact zj e (by show ¬(0:Int)=3;decide)) | (exact zj e (by show ¬(0:Int)=4;decide)) | (exact zj e (by show ¬((0:Int)=3\/(0:Int)=4);decide)) | (exact zj e (by show ¬(5:Int)<=0;decide)) | skip)
 rcases e with e | e | e | e
 .exact zj e (by show ¬(0:Int)=1;decide)
 .exact zj e (by show ¬(0:Int)=2;decide)
 .exact zj e (by show ¬(4:Int)<=0;decide)
 .exact zj e.1 (by show ¬(0:Int)=3;decide)
theorem zkC {p:zd}{s:za}{w:Int}{x:zi}:UB s (zaq p w x)=[]:=by
 unfold UB;rw [zb (show (zaq p w x).PC=0 from rfl)];exact uA (.inl (by show (0:Int)≠3;decide)) (by show (0:Int)≠6;decide)
theorem WX.look {p:zd}{s:za}{gh:Gh}{w:Int}{x:zi}(c:gh.c w=0) (hb:x.Batch=[]):WX p s gh w (Zk p w x)/\UB s (Zk p w x)=[]/\vq (Zk p w x)=[]:=by
 unfold Zk;split
 .refine ⟨⟨fun _=>c,fun _=>hb,fun e=>(by cases e),fun e=>(by cases e),fun _=>⟨rfl,⟨by show (0:Int)<=0;decide,by show (0:Int)<=2;decide⟩,CK.start⟩,fun e=>(by cases e),fun e=>(by cases e)⟩,?_,?_⟩
  .unfold UB;rw [zc (by show ¬(2:Int)=0;decide),zc (by show ¬(2:Int)=3;decide),zc (by show ¬((2:Int)=5\/(2:Int)=8);decide),zc (by show ¬(2:Int)=6;decide)]
  .unfold vq;rw [zc (by show ¬((2:Int)=3\/(2:Int)=4);decide),zc (by show ¬(2:Int)=6;decide)]
 .refine ⟨⟨fun _=>c,fun _=>hb,fun e=>(by cases e),fun _=>⟨rfl,rfl,rfl,rfl,⟨by show (0:Int)<=0;decide,by show (0:Int)<=3;decide⟩,fun e=>zj e (by show ¬(1:Int)<=0;decide),fun e=>zj e (by show ¬(2:Int)<=0;decide),fun e=>zj e (by show ¬(0:Int)=3;decide)⟩,fun e=>(by cases e),fun e=>(by cases e),fun e=>(by cases e)⟩,?_,?_⟩
  .unfold UB;rw [zc (by show ¬(1:Int)=0;decide),zc (by show ¬(1:Int)=3;decide),zc (by show ¬((1:Int)=5\/(1:Int)=8);decide),zc (by show ¬(1:Int)=6;decide)]
  .unfold vq;rw [zc (by show ¬((1:Int)=3\/(1:Int)=4);decide),zc (by show ¬(1:Int)=6;decide)]
theorem WX.other {p:zd}(hp:zJ p) {nb k:Nat}{s s':za}{gh gh':Gh}{X R:List Int}{O:Int->Prop}{w:Int}{x:zi}(hw:1<=w/\w<=p.Workers) (Y:SX p nb s gh (X++R) k) (Fx:FX p nb X O s s' gh gh') (K:WX p s gh w x) (W:WOk p nb w x)
  (hR:∀b∈vq x,b∈R) (apart: ¬O w):WX p s' gh' w x/\ya s' x=ya s x:=by
 have hsub:∀b∈X,b∈X++R:=fun b hb=>zKO _ hb;have hnd:=(zLK.1 Y.L.nodup).2.1;have hnot:∀b,b∈vq x->b∉X:=fun b hb hg=>(zLK.1 hnd).2.2 b hg b (hR b hb) rfl;have hc:gh'.c w=gh.c w:=by
  rcases Fx.dq w hw.1 hw.2 with h | h
  .cases h with
   | same e1 e2 e3 e4=>exact e3
   | stolen y e1 e2 e3 e4=>exact e3
  .exact zj h.1 apart
 have hcell:∀a,z6 p w<a->a<z6 p w+p.Cap+2->ld s'.M a=ld s.M a:=by
  rcases Fx.dq w hw.1 hw.2 with h | h
  .cases h with
   | same e1 e2 e3 e4=>exact fun a h1 h2=>e4 a (by omega) h2
   | stolen y e1 e2 e3 e4=>exact e4
  .exact zj h.1 apart
 refine ⟨⟨fun e=>hc.trans (K.c0 e),K.bt,fun e=>Fx.pk hp hw.1 hw.2 apart (K.p0 e),fun e=>Fx.tk W.vic.1 W.vic.2 (K.p1 e),fun e=>?_,fun e=>?_,fun e=>?_⟩,?_⟩
 .obtain ⟨a,b,c⟩:=K.p2 e;have C:=W.c2 e;exact ⟨a,b,c.mv Y.L Fx.mv hsub (.inl C.h) (fun h _=>C.v h) (fun e2=>by have:=C.k;omega)⟩
 .obtain ⟨a,b,c,d⟩:=K.p4 e;have C:=W.c4 e;have hno:=hnot x.Bin (by unfold vq;rw [zb (.inr e)];simp);exact ⟨a,b,c,d.mv Y.L Fx.mv hsub (.inr C.h) (fun _ e2=>by have:=C.k;omega) (fun _=>⟨C.x.1,C.x.2,by rw [c];exact hno⟩)⟩
 .obtain ⟨a,b,c,d⟩:=K.p6 e;have M:=(W.g6 e).1;refine ⟨a.other hp Y Fx M (fun y hy=>hR y ?_) (fun _=>by rw [c];exact apart),b,c,d⟩;unfold vq;rw [zk,zb e];exact hy
 .unfold ya UB;congr 1;by_cases e0:x.PC=0
  .rw [zb e0,zb e0];have P:=K.p0 e0;unfold YM;have hpl:=(zuo hp hw.1 hw.2 P.base P.size (x.D.B-1#64)).2;rw [hcell _ (by rw [P.base] at hpl;omega) (by rw [P.base] at hpl;omega)]
  .rw [zc e0,zc e0];by_cases e3:x.PC=3
   .rw [zb e3,zb e3];have hb:=W.b3 e3;have hno:=hnot x.Bin (by unfold vq;rw [zb (.inl e3)];simp);unfold yS;rw [Fx.bn x.Bin hb.1 hno]
   .rw [zc e3,zc e3]
theorem zAu (s:za) (b:Int):Uo s b=yS s b:=by unfold Uo yS;rw [zKw]
theorem FX.mono {p:zd}{nb:Nat}{X:List Int}{O O':Int->Prop}{s s':za}{g g':Gh}(h:FX p nb X O s s' g g') (i:∀v,O v->O' v):FX p nb X O' s s' g g' :=
 ⟨h.mv,h.bn,fun v a b=>(h.dq v a b).imp id (fun e=>⟨i v e.1,e.2⟩),h.fb⟩
theorem uN {x:zi}(h3:x.PC≠3) (h4:x.PC≠4) (h6:x.PC≠6):vq x=[]:=by unfold vq;rw [zk,zc h6]
theorem zmg {x:zi}(h:x.PC=3\/x.PC=4):vq x=[x.Bin]:=by unfold vq;rw [zb h]
theorem zBA {x:zi}(h:x.PC=6):vq x=wV x.G:=by unfold vq;rw [zk,zb h]
theorem zGz {s:za}{x:zi}(h:x.PC=0):UB s x=YM s.M x.D:=by unfold UB;rw [zb h]
theorem zFr {s:za}{x:zi}(h:x.PC=3):UB s x=yS s x.Bin:=by unfold UB;rw [zk,zb h]
theorem XA {s:za}{x:zi}(h:x.PC=5\/x.PC=8):UB s x=[x.Obj]:=by unfold UB;rw [zk,zk,zb h]
theorem zrY {s:za}{x:zi}(h:x.PC=6):UB s x=x.Obj::yF x.G:=by unfold UB;rw [zk,zk,zk,zb h]
theorem Xf {s:za}{x:zi}(h:x.PC=1\/x.PC=2\/x.PC=4\/x.PC=7\/x.PC=9):UB s x=[]:=by unfold UB;rw [zk,zk,zk,zk]
def zl7 (p:zd) (nb k:Nat) (R:List Int) (gh:Gh) (s:za) (w:Int) (x:zi) (s':za) (x':zi):Prop :=
 ∃gh',SX p nb s' gh' (vq x'++R) (k+1)/\WX p s' gh' w x'/\FX p nb (vq x) (fun v=>v=w) s s' gh gh' /\
  ∃N B,zMu (yR p s' gh'++ya s' x'++B) (N++(yR p s gh++ya s x)) /\
   ((N=[]/\B=[]/\s'.T=s.T)\/(N=[x.G.Obj]/\B=[]/\x.PC=6/\¬(s.T.Marks|||bit x.G.Obj=s.T.Marks)/\s'.T={s.T with Marks:=s.T.Marks|||bit x.G.Obj})\/(N=[]/\B=[x.Obj]/\x.PC=8/\s'.T=wh s.T x.Obj))
theorem zl7.quiet {p:zd}{nb k:Nat}{R:List Int}{gh:Gh}{s s':za}{w:Int}{x x':zi}(X:SX p nb s gh (vq x++R) k) (S':SOk p nb s') (hm:s'.M=s.M) (hb:s'.Bins=s.Bins) (hT:s'.T=s.T)
  (ho:vq x'=vq x) (hh:zMu (ya s' x') (ya s x)) (W':WX p s' gh w x'):zl7 p nb k R gh s w x s' x' :=
 ⟨gh,by rw [ho];exact X.quiet S' hm,W',FX.quiet hm (fun _ _ _=>by rw [hb]),[],[],by rw [ZO hb,zKx];exact zKK _ hh,.inl ⟨rfl,rfl,hT⟩⟩
theorem zJZ {p:zd}(hp:zJ p) {nb k:Nat}{R:List Int}{gh:Gh}{s:za}{w:Int}{x:zi}(hk:k<4294960000) (hw:1<=w/\w<=p.Workers) (X:SX p nb s gh (vq x++R) k) (W:WOk p nb w x) (K:WX p s gh w x)
  (hH:∀o i,0<=zZ s.H o i/\zZ s.H o i<=64):zl7 p nb k R gh s w x (zB s w x).1 (zB s w x).2:=by
 have S':=(zDC hp hw X.S W).1;have hP:=X.S.P;have eL:∀y,Zk s.P w y=Zk p w y:=fun y=>by rw [hP]
 have eB:∀y,zaq s.P w y=zaq p w y:=fun y=>by rw [hP]
 have eC:zdc s.P (zT s.P) x.Bin=zdc p (zT p) x.Bin:=by rw [hP]
 have hpc:=W.pc;have hlen:=X.L.len;have hE:=ve hp;revert S';unfold zB;by_cases p01:x.PC=0\/x.PC=1
 .rw [zb p01];intro S';have S':SOk p nb {s with M:=(yj s.M x.D).1}:=S';have hl:=(zox s.M x.D).1;have eo:vq x=[]:=uN (by omega) (by omega) (by omega);have hbt:=K.bt (by omega);rw [eo] at X;dsimp only;by_cases p0:x.PC=0
  .have K0:=K.p0 p0;have D0:=X.D w hw.1 hw.2;have hdk:=X.dk w hw.1 hw.2;obtain ⟨t',l',c',D',hm,V,hle,r⟩:=zBc hp hw (by omega) D0 K0;have hc:=hp.cap;have hm':∀a,(a<z6 p w\/z6 p w+p.Cap+2<=a)->ld (yj s.M x.D).1 a=ld s.M a:=fun a ha=>hm a (by omega) (by omega);have X':=X.dq hp S' hl hw hm' D' (by omega);have Fx:FX p nb (vq x) (fun v=>v=w) s {s with M:=(yj s.M x.D).1} gh (VQ gh w t' l' c'):=FX.own (O:=fun v=>v=w) (s:=s) (s':={s with M:=(yj s.M x.D).1}) (g:=gh) hp hw hm' rfl rfl V;obtain ⟨u,v,f1,f2⟩:=zsD (p:=p) (s:=s) (s':={s with M:=(yj s.M x.D).1}) (g:=gh) rfl hw (t:=t') (c:=c') (l:=l');have fin:∀x':zi,vq x'=[]->WX p {s with M:=(yj s.M x.D).1} (VQ gh w t' l' c') w x'->zMu (l'++ya {s with M:=(yj s.M x.D).1} x') (gh.D w++ya s x)->zl7 p nb k R gh s w x {s with M:=(yj s.M x.D).1} x':=by
    intro x' a b c;refine ⟨_,by rw [a];exact X',b,Fx,[],[],?_,.inl ⟨rfl,rfl,rfl⟩⟩;rw [f1,f2,zKx,zKG];simp only [zKD];refine zKK _ ?_;refine (zLc l' v _).trans (List.Perm.trans ?_ (zLc v (gh.D w) _));exact zKK _ c
   have hh:ya s x=YM s.M x.D:=by unfold ya;rw [hbt,zGz p0,zKG]
   rw [hh] at fin;rcases r with ⟨r1,r2,r3⟩ | ⟨r1,r2,r3⟩ | ⟨r1,r2,r3,r4,r5⟩
   .rw [r1,zc (by decide),zc (by decide)];refine fin _ (uN (by show x.PC≠3;omega) (by show x.PC≠4;omega) (by show x.PC≠6;omega)) ⟨fun e=>zj p0 e,fun _=>hbt,fun _=>?_,fun e=>by have e:x.PC=1:=e;omega,fun e=>by have e:x.PC=2:=e;omega,fun e=>by have e:x.PC=4:=e;omega,fun e=>by have e:x.PC=6:=e;omega⟩ ?_
    .rw [vi.1,vi.2.1,vi.2.2];exact r2
    .unfold ya;rw [zGz (x:={x with D:=(yj s.M x.D).2}) p0];show zMu (l'++(x.Batch++YM (yj s.M x.D).1 (yj s.M x.D).2)) _;rw [hbt,zKG];exact r3
   .rw [r1,zb rfl];refine fin _ (uN (by show (5:Int)≠3;decide) (by show (5:Int)≠4;decide) (by show (5:Int)≠6;decide)) (WX.plain (.inl rfl) (by rw [vi.2.2];exact r2)) ?_;unfold ya;rw [XA (.inl rfl)];show zMu (l'++(x.Batch++[(yj s.M x.D).2.X])) _;rw [hbt,zKG];exact r3
   .rw [r1,zc (by decide),zb (.inl rfl),eL];obtain ⟨a,b,c⟩:=WX.look (p:=p) (s:={s with M:=(yj s.M x.D).1}) (gh:=VQ gh w t' l' c') (w:=w) (x:={x with D:=(yj s.M x.D).2}) (by rw [vi.2.2];exact r2) hbt;refine fin _ c a ?_;unfold ya;rw [b,r3,r4,r5,show (Zk p w {x with D:=(yj s.M x.D).2}).Batch=x.Batch by unfold Zk;split<;>rfl,hbt];exact zKX _
  .have p1:x.PC=1:=by omega
   have K1:=K.p1 p1;have hv:=W.vic;have hc0:=K.c0 p0;have D0:=X.D x.Victim hv.1 hv.2;have hdk:=X.dk x.Victim hv.1 hv.2;have hh:ya s x=[]:=by unfold ya;rw [hbt,Xf (.inl p1)];rfl
   rcases zEm hp hv (by omega) D0 K1 with ⟨hm,r⟩ | ⟨y,l',e1,e2,e3,e4,e5⟩
   .have S2:=S';have q:∀x':zi,vq x'=[]->ya {s with M:=(yj s.M x.D).1} x'=[]->WX p {s with M:=(yj s.M x.D).1} gh w x'->zl7 p nb k R gh s w x {s with M:=(yj s.M x.D).1} x' :=
     fun x' a b c=>.quiet (by rw [eo];exact X) S' hm rfl rfl (by rw [a,eo]) (by rw [b,hh]) c
    rcases r with ⟨r1,r2⟩ | r
    .rw [r1,zc (by decide),zc (by decide)];refine q _ (uN (by show x.PC≠3;omega) (by show x.PC≠4;omega) (by show x.PC≠6;omega)) ?_ ⟨fun _=>hc0,fun _=>hbt,fun e=>zj e p0,fun _=>?_,fun e=>by have e:x.PC=2:=e;omega,fun e=>by have e:x.PC=4:=e;omega,fun e=>by have e:x.PC=6:=e;omega⟩
     .unfold ya;rw [Xf (x:={x with D:=(yj s.M x.D).2}) (.inl p1)];show x.Batch++[]=[]
      rw [hbt];rfl
     .show TK p (yj s.M x.D).1 _ _ _ _;rw [hm];exact r2
    .rw [zk,zb r,eL];obtain ⟨a,b,c⟩:=WX.look (p:=p) (s:={s with M:=(yj s.M x.D).1}) (gh:=gh) (w:=w) (x:={x with D:=(yj s.M x.D).2}) hc0 hbt;refine q _ c ?_ a;unfold ya;rw [b,show (Zk p w {x with D:=(yj s.M x.D).2}).Batch=x.Batch by unfold Zk;split<;>rfl,hbt];rfl
   .have hc:=hp.cap;have hm':∀a,(a<z6 p x.Victim\/z6 p x.Victim+p.Cap+2<=a)->ld (yj s.M x.D).1 a=ld s.M a:=fun a ha=>e5 a (by omega);have X':=X.dq hp S' hl hv hm' e4 (by rw [e1] at hdk;simp at hdk;omega);obtain ⟨h1,h2⟩:=zxL hp hv hm';obtain ⟨u,v,f1,f2⟩:=zsD (p:=p) (s:=s) (s':={s with M:=(yj s.M x.D).1}) (g:=gh) rfl hv (t:=gh.t x.Victim+1) (c:=gh.c x.Victim) (l:=l');rw [e2,zb rfl];refine ⟨VQ gh x.Victim (gh.t x.Victim+1) l' (gh.c x.Victim),by rw [uN (by show (5:Int)≠3;decide) (by show (5:Int)≠4;decide) (by show (5:Int)≠6;decide)];exact X',WX.plain (.inl rfl) ?_,⟨Mv.low hp h1,fun _ _ _=>rfl,fun v' a b=>.inl ?_,fun _ h=>.inl h⟩,[],[],?_,.inl ⟨rfl,rfl,rfl⟩⟩
    .by_cases e:w=x.Victim
     .rw [e,vi.2.2,<-e];exact hc0
     .rw [(XT e).2.2];exact hc0
    .by_cases e:v'=x.Victim
     .subst e;exact .stolen y vi.2.1 (by rw [vi.1];exact e1) vi.2.2 (fun a h1 _=>e5 a (by omega))
     .exact .same (XT e).2.1 (XT e).1 (XT e).2.2 (h2 v' a b e)
    .rw [f1,f2,hh,zKx,zKx,zKG,e1];unfold ya;rw [XA (.inl rfl)];show zMu (u++l'++v++(x.Batch++[(yj s.M x.D).2.X])) _;rw [hbt,zKG,e3];simp only [zKD];refine zKK _ ?_;show zMu (l'++(v++[y])) (y::(l'++v));rw [<-zKD];exact zLm
 rw [zc p01];have hc0:=K.c0 (by omega);by_cases p2:x.PC=2
 .rw [zb p2];intro S';have S':SOk p nb {s with M:=(zC s.M x.C).1}:=S';have C:=W.c2 p2;obtain ⟨c1,c2,c3⟩:=K.p2 p2;have hbt:=K.bt (by omega);have eo:vq x=[]:=uN (by omega) (by omega) (by omega);have hh:ya s x=[]:=by unfold ya;rw [hbt,Xf (.inr (.inl p2))];rfl
  dsimp only;rcases SX.popF hp X hk C.k C.h C.n c1 c2 c3 C.v S' with ⟨a,b,c,d⟩ | ⟨y,l,a,b,c,d,e⟩
  .rw [zc b];have hout:=zdg s.M c1 c2 (.inr C.k);by_cases o2:(zC s.M x.C).2.Out=2
   .rw [zb o2,eB];refine .quiet X S' a rfl rfl ?_ ?_ (WX.begin hc0 hbt)
    .rw [eo];exact uN (by show (0:Int)≠3;decide) (by show (0:Int)≠4;decide) (by show (0:Int)≠6;decide)
    .unfold ya;rw [zkC,show (zaq p w {x with C:=(zC s.M x.C).2}).Batch=x.Batch from rfl];rw [hbt,Xf (.inr (.inl p2))]
   .rw [zc o2];have hpc':(zC s.M x.C).2.Out=0/\0<=(zC s.M x.C).2.PC/\(zC s.M x.C).2.PC<=2:=by omega
    refine .quiet X S' a rfl rfl ?_ ?_ ⟨fun _=>hc0,fun _=>hbt,fun e=>by have e:x.PC=0:=e;omega,fun e=>by have e:x.PC=1:=e;omega,fun _=>⟨hpc'.1,hpc'.2,?_⟩,fun e=>by have e:x.PC=4:=e;omega,fun e=>by have e:x.PC=6:=e;omega⟩
    .rw [eo];exact uN (by show x.PC≠3;omega) (by show x.PC≠4;omega) (by show x.PC≠6;omega)
    .unfold ya;rw [Xf (x:={x with C:=(zC s.M x.C).2}) (.inr (.inl p2)),Xf (.inr (.inl p2))]
    .rw [show ({s with M:=(zC s.M x.C).1}:za).M=s.M from a];exact c
  .rw [zb b];have e1:vq {x with C:=(zC s.M x.C).2,Bin:=(zC s.M x.C).2.X,PC:=3}=[y]:=by rw [<-c];exact zmg (x:={x with C:=(zC s.M x.C).2,Bin:=(zC s.M x.C).2.X,PC:=3}) (.inl rfl)
   refine ⟨{gh with F:=l},by rw [e1];rw [eo] at d;exact d,⟨fun _=>hc0,fun _=>hbt,fun e=>(by cases e),fun e=>(by cases e),fun e=>(by cases e),fun e=>(by cases e),fun e=>(by cases e)⟩,e _ _,[],[],?_,.inl ⟨rfl,rfl,rfl⟩⟩;rw [hh,zKx,zKx,zKG];unfold ya;rw [zFr (x:={x with C:=(zC s.M x.C).2,Bin:=(zC s.M x.C).2.X,PC:=3}) rfl];show zMu (yR p s {gh with F:=l}++(x.Batch++yS s (zC s.M x.C).2.X)) _;rw [hbt,zKG,c];have:yR p s gh=yS s y++yR p s {gh with F:=l}:=by unfold yR;rw [a];simp [zKD]
   rw [this];exact zLm
 rw [zc p2];by_cases p3:x.PC=3
 .rw [zb p3];intro S';have hb:=W.b3 p3;have hbt:=K.bt (by omega);have eo:vq x=[x.Bin]:=zmg (.inl p3);rw [eC];have e1:vq {x with Batch:=Uo s x.Bin,PC:=4,C:=zdc p (zT p) x.Bin}=[x.Bin]:=zmg (x:={x with Batch:=Uo s x.Bin,PC:=4,C:=zdc p (zT p) x.Bin}) (.inr rfl);have hget:∀b,1<=b->b∉vq x->(s.Bins.set x.Bin.toNat [])[b.toNat]? =s.Bins[b.toNat]? :=fun b b1 b2=>by
   rw [zKP];intro e;rw [eo] at b2;exact b2 (by rw [show b=x.Bin by omega];simp)
  refine ⟨gh,by rw [e1,<-eo];exact X.quiet S' rfl,⟨fun _=>hc0,fun e=>zj e (by show ¬(4:Int)<=3;decide),fun e=>(by cases e),fun e=>(by cases e),fun e=>(by cases e),fun _=>⟨rfl,⟨by show (0:Int)<=0;decide,by show (0:Int)<=2;decide⟩,rfl,CK.start⟩,fun e=>(by cases e)⟩,FX.quiet rfl hget,[],[],?_,.inl ⟨rfl,rfl,rfl⟩⟩;have hbag:yR p {s with Bins:=s.Bins.set x.Bin.toNat []} gh=yR p s gh:=by
   unfold yR;congr 1;refine wW (fun b hb=>?_);have hm:=X.L.cF.mem b hb;have hno:=(X.L.notF (x:=x.Bin) (by rw [eo];simp)).1;unfold yS;rw [show ({s with Bins:=s.Bins.set x.Bin.toNat []}:za).Bins=s.Bins.set x.Bin.toNat [] from rfl,hget b hm.1 (by rw [eo];intro e;rw [zLf.1 e] at hb;exact hno hb)]
  rw [hbag,zKx,zKG];unfold ya;rw [zFr p3,Xf (x:={x with Batch:=Uo s x.Bin,PC:=4,C:=zdc p (zT p) x.Bin}) (.inr (.inr (.inl rfl)))];show zMu (yR p s gh++(Uo s x.Bin++[])) _;rw [hbt,zKx,zKG,zAu]
 rw [zc p3];by_cases p4:x.PC=4
 .rw [zb p4];intro S';have S':SOk p nb {s with M:=(zC s.M x.C).1}:=S';have C:=W.c4 p4;obtain ⟨c1,c2,c3,c4⟩:=K.p4 p4;have eo:vq x=[x.Bin]:=zmg (.inr p4);have hh:ya s x=x.Batch:=by unfold ya;rw [Xf (.inr (.inr (.inl p4))),zKx]
  rw [eo] at X;dsimp only;rcases SX.pushE hp (o1:=[]) (o2:=R) (b:=x.Bin) X hk C.k C.h C.n c3 c1 c2 c4 C.v S' with ⟨a,b,c,d⟩ | ⟨a,b,d⟩
  .rw [a,zc (by decide)];have hout:=zdg s.M c1 c2 (.inl C.k);have hsame:=zot s.M x.C;have hpc':0<=(zC s.M x.C).2.PC/\(zC s.M x.C).2.PC<=2:=by omega
   have e1:vq {x with C:=(zC s.M x.C).2}=[x.Bin]:=zmg (x:={x with C:=(zC s.M x.C).2}) (.inr p4);refine ⟨gh,by rw [e1];exact b,⟨fun _=>hc0,fun e=>by have e:x.PC<=3:=e;omega,fun e=>by have e:x.PC=0:=e;omega,fun e=>by have e:x.PC=1:=e;omega,fun e=>by have e:x.PC=2:=e;omega,fun _=>⟨a,hpc',(hsame.2.2.2 C.k).trans c3,c⟩,fun e=>by have e:x.PC=6:=e;omega⟩,by rw [eo];exact d _ _ (by simp),[],[],?_,.inl ⟨rfl,rfl,rfl⟩⟩;rw [ZO rfl,hh,zKx];unfold ya;rw [Xf (x:={x with C:=(zC s.M x.C).2}) (.inr (.inr (.inl p4))),zKx];exact zKX _
  .rw [a,zb rfl];refine ⟨{gh with E:=x.Bin::gh.E},by rw [uN (by show (7:Int)≠3;decide) (by show (7:Int)≠4;decide) (by show (7:Int)≠6;decide)];exact b,WX.plain (.inr (.inl rfl)) hc0,by rw [eo];exact d _ _,[],[],?_,.inl ⟨rfl,rfl,rfl⟩⟩;rw [hh,zKx];unfold ya;rw [Xf (.inr (.inr (.inr (.inl rfl)))),zKx];exact zKX _
 rw [zc p4];by_cases p5:x.PC=5
 .rw [zb p5];intro S';have eo:vq x=[]:=uN (by omega) (by omega) (by omega);have hv:=hH x.Obj x.Slot;dsimp only;split
  .rcases zd9 s (wc (x.Slot+1)) with e | e<;>rw [e]
   .refine .quiet X S' rfl rfl rfl (by rw [eo];exact uN (by show (5:Int)≠3;decide) (by show (5:Int)≠4;decide) (by show (5:Int)≠6;decide)) ?_ (WX.plain (.inl rfl) hc0);unfold ya;rw [XA (.inl p5),XA (.inl rfl)]
   .refine .quiet X S' rfl rfl rfl (by rw [eo];exact uN (by show (8:Int)≠3;decide) (by show (8:Int)≠4;decide) (by show (8:Int)≠6;decide)) ?_ (WX.plain (.inr (.inr (.inl rfl))) hc0);unfold ya;rw [XA (.inl p5),XA (.inr rfl)]
  .rename_i hne;have e0:(YB 1 (zZ s.H x.Obj x.Slot) w).PC=0:=rfl;refine .quiet X S' rfl rfl rfl ?_ ?_ ⟨fun _=>hc0,fun e=>zj e (by show ¬(6:Int)<=3;decide),fun e=>(by cases e),fun e=>(by cases e),fun e=>(by cases e),fun e=>(by cases e),fun _=>⟨GX.plain (.inl rfl) ⟨by show (0:Int)<=0;decide,by show (0:Int)<=7;decide⟩ ⟨by show (1:Int)<=1;decide,by show (1:Int)<=3;decide⟩ ⟨by show 1<=zZ s.H x.Obj x.Slot;omega,hv.2⟩ (fun _ _=>hc0) (.inr ⟨by show (0:Int)≠3;decide,by show (0:Int)≠5;decide,by show (0:Int)≠7;decide⟩),rfl,rfl,rfl⟩⟩
   .rw [eo,zBA (x:={x with Slot:=wc (x.Slot+1),PC:=6,G:=YB 1 (zZ s.H x.Obj x.Slot) w}) rfl];exact uh (.inr ⟨by show (0:Int)≠6;decide,by show (0:Int)≠7;decide⟩)
   .unfold ya;rw [XA (.inl p5),zrY (x:={x with Slot:=wc (x.Slot+1),PC:=6,G:=YB 1 (zZ s.H x.Obj x.Slot) w}) rfl];rw [Yi (g:=YB 1 (zZ s.H x.Obj x.Slot) w) (.inr (.inl (by show (0:Int)<3;decide)))]
 rw [zc p5];by_cases p6:x.PC=6
 .rw [zb p6];intro S';obtain ⟨G,gm,gw,g0⟩:=K.p6 p6;obtain ⟨M,h5o,_,hn4⟩:=W.g6 p6;have eo:vq x=wV x.G:=zBA p6;have hh:ya s x=x.Batch++x.Obj::yF x.G:=by unfold ya;rw [zrY p6]
  rw [eo] at X;obtain ⟨gh',X',G',Fx,hc',hFb,N,hN,hT⟩:=zE1 hp hk X M h5o G;have so:=Uv s x.G;have Fx':FX p nb (vq x) (fun v=>v=w) s (zF s x.G).1 gh gh':=by
   rw [eo];exact Fx.mono (fun v e=>e.2.trans gw)
  have hcw:gh'.c w=0:=by have:=hc' gm g0;rwa [gw] at this
  dsimp only;have hT':(N=[]/\([]:List Int)=[]/\(zF s x.G).1.T=s.T)\/(N=[x.G.Obj]/\([]:List Int)=[]/\x.PC=6/\¬(s.T.Marks|||bit x.G.Obj=s.T.Marks)/\(zF s x.G).1.T={s.T with Marks:=s.T.Marks|||bit x.G.Obj})\/(N=[]/\([]:List Int)=[x.Obj]/\x.PC=8/\(zF s x.G).1.T=wh s.T x.Obj):=by
   rcases hT with ⟨a,b⟩ | ⟨a,b,c⟩
   .exact .inl ⟨a,rfl,b⟩
   .exact .inr (.inl ⟨a,rfl,p6,b,c⟩)
  have perm:∀H':List Int,H'=x.Batch++x.Obj::yF (zF s x.G).2->zMu (yR p (zF s x.G).1 gh'++H'++[]) (N++(yR p s gh++ya s x)):=by
   intro H' e;rw [e,hh,zKx];have a1:zMu (yR p (zF s x.G).1 gh'++(x.Batch++x.Obj::yF (zF s x.G).2)) ((x.Batch++[x.Obj])++(yR p (zF s x.G).1 gh'++yF (zF s x.G).2)):=by
    rw [show x.Batch++x.Obj::yF (zF s x.G).2=(x.Batch++[x.Obj])++yF (zF s x.G).2 by simp];exact zLc _ _ _
   have a2:zMu (N++(yR p s gh++(x.Batch++x.Obj::yF x.G))) ((x.Batch++[x.Obj])++(N++(yR p s gh++yF x.G))):=by
    rw [show x.Batch++x.Obj::yF x.G=(x.Batch++[x.Obj])++yF x.G by simp];exact (zKK N (zLc _ _ _)).trans (zLc _ _ _)
   exact a1.trans ((zKK _ hN).trans a2.symm)
  split
  .rename_i o1;have n1:wV (zF s x.G).2=[]:=uh (.inl (by omega));have n2:yF (zF s x.G).2=[]:=Yi (.inl (by omega));rw [n1] at X';rcases zd9 s x.Slot with e | e<;>rw [e]
   .refine ⟨gh',by rw [uN (by show (5:Int)≠3;decide) (by show (5:Int)≠4;decide) (by show (5:Int)≠6;decide)];exact X',WX.plain (.inl rfl) hcw,Fx',N,[],perm _ ?_,hT'⟩;unfold ya;rw [XA (.inl rfl),n2]
   .refine ⟨gh',by rw [uN (by show (8:Int)≠3;decide) (by show (8:Int)≠4;decide) (by show (8:Int)≠6;decide)];exact X',WX.plain (.inr (.inr (.inl rfl))) hcw,Fx',N,[],perm _ ?_,hT'⟩;unfold ya;rw [XA (.inr rfl),n2]
  .rename_i o1;have o0:(zF s x.G).2.Out=0:=by have:=G'.o;omega
   refine ⟨gh',by rw [zBA (x:={x with G:=(zF s x.G).2}) p6];exact X',⟨fun _=>hcw,fun e=>by have e:x.PC<=3:=e;omega,fun e=>by have e:x.PC=0:=e;omega,fun e=>by have e:x.PC=1:=e;omega,fun e=>by have e:x.PC=2:=e;omega,fun e=>by have e:x.PC=4:=e;omega,fun _=>⟨G',so.2.2.trans gm,so.2.1.trans gw,o0⟩⟩,Fx',N,[],perm _ ?_,hT'⟩;unfold ya;rw [zrY (x:={x with G:=(zF s x.G).2}) p6]
 rw [zc p6];have eo:vq x=[]:=uN (by omega) (by omega) (by omega);by_cases p7:x.PC=7
 .rw [zb p7];intro S';dsimp only;split
  .rename_i hb;rw [eB];refine .quiet X S' rfl rfl rfl (by rw [eo];exact uN (by show (0:Int)≠3;decide) (by show (0:Int)≠4;decide) (by show (0:Int)≠6;decide)) ?_ (WX.begin hc0 hb);unfold ya;rw [zkC,Xf (.inr (.inr (.inr (.inl p7))))];exact zKX _
  .rename_i o l hb;refine .quiet X S' rfl rfl rfl (by rw [eo];exact uN (by show (5:Int)≠3;decide) (by show (5:Int)≠4;decide) (by show (5:Int)≠6;decide)) ?_ (WX.plain (.inl rfl) hc0);unfold ya;rw [XA (.inl rfl),Xf (.inr (.inr (.inr (.inl p7)))),hb,zKx];exact zLm
 rw [zc p7];by_cases p8:x.PC=8
 .rw [zb p8];intro S';refine ⟨gh,by rw [uN (by show (9:Int)≠3;decide) (by show (9:Int)≠4;decide) (by show (9:Int)≠6;decide)];rw [eo] at X;exact X.quiet S' rfl,WX.plain (.inr (.inr (.inr rfl))) hc0,FX.quiet rfl (fun _ _ _=>rfl),[],[x.Obj],?_,.inr (.inr ⟨rfl,rfl,p8,rfl⟩)⟩;rw [ZO rfl,zKG];unfold ya;rw [XA (.inr p8),Xf (.inr (.inr (.inr (.inr rfl)))),zKx,zKD];exact zKX _
 rw [zc p8];have p9:x.PC=9:=by omega
 rw [zb p9];intro S';refine .quiet X S' rfl rfl rfl (by rw [eo];exact uN (by show (7:Int)≠3;decide) (by show (7:Int)≠4;decide) (by show (7:Int)≠6;decide)) ?_ (WX.plain (.inr (.inl rfl)) hc0);unfold ya;rw [Xf (.inr (.inr (.inr (.inr p9)))),Xf (.inr (.inr (.inr (.inl rfl))))]
theorem zAz (s:za) (w:Int) (x:zi) (h:(zB s w x).2.PC=6):(x.PC=6/\(zB s w x).2.G.Obj=x.G.Obj)\/(x.PC=5/\(zB s w x).2.G.Obj=zZ s.H x.Obj x.Slot):=by
 revert h;have hon:∀i,onW s i≠6:=fun i e=>by rcases zd9 s i with h | h<;>omega
 have hlk:∀y:zi,(Zk s.P w y).PC≠6:=fun y e=>by unfold Zk at e;split at e<;>cases e
 unfold zB;split
 .rename_i h0;dsimp only;split
  .exact fun e=>by cases e
  split
  .exact fun e=>zj e (hlk _)
  .exact fun e=>by have e:x.PC=6:=e;omega
 split
 .dsimp only;split
  .exact fun e=>by cases e
  split
  .exact fun e=>by cases e
  .exact fun e=>by have e:x.PC=6:=e;omega
 split
 .exact fun e=>by cases e
 split
 .dsimp only;split
  .exact fun e=>by cases e
  .exact fun e=>by have e:x.PC=6:=e;omega
 split
 .rename_i h5;dsimp only;split
  .exact fun e=>zj e (hon _)
  .exact fun _=>.inr ⟨h5,rfl⟩
 split
 .rename_i h6;dsimp only;split
  .exact fun e=>zj e (hon _)
  .exact fun _=>.inl ⟨h6,(Uv s x.G).1⟩
 split
 .dsimp only;split
  .exact fun e=>by cases e
  .exact fun e=>by cases e
 split
 .exact fun e=>by cases e
 split
 .exact fun e=>by cases e
 .exact fun e=>.inl ⟨e,rfl⟩
theorem zxQ {o:Int}(h:1<=o/\o<=64) (j:Nat):(bit o).getLsbD j=decide ((o-1).toNat=j):=by
 unfold bit;rw [zb h,<-BitVec.twoPow_eq,BitVec.getLsbD_twoPow,zr (by omega:(o-1).toNat<64),zLu]
theorem xw (s:BitVec 64) (o:Int):zR s o=true↔1<=o/\o<=64/\s.getLsbD (o-1).toNat=true:=by
 unfold zR;rw [zKQ,decide_eq_false_iff_not];by_cases h:1<=o/\o<=64
 .constructor
  .intro h1;refine ⟨h.1,h.2,Classical.byContradiction (fun h2=>h1 ?_)⟩;apply zL0;intro j hj;rw [zLJ,zxQ h,zL1];by_cases e:(o-1).toNat=j
   .rw [<-e];simp only [Bool.not_eq_true] at h2;rw [h2];rfl
   .rw [zN e,Bool.and_false]
  .rintro ⟨_,_,h1⟩ h2;have:=congrArg (fun v=>BitVec.getLsbD v (o-1).toNat) h2;simp only [zLJ,zxQ h,h1,zL1] at this;simp at this
 .constructor
  .intro h1;exact zj (by unfold bit;rw [zc h,BitVec.and_zero]) h1
  .rintro ⟨a,b,_⟩;exact zj ⟨a,b⟩ h
theorem wJ (s:BitVec 64) {o:Int}(h:1<=o/\o<=64) (q:Int):zR (s|||bit o) q=true↔zR s q=true\/q=o:=by
 rw [xw,xw,BitVec.getLsbD_or,zxQ h];simp only [zLD,decide_eq_true_eq];constructor
 .rintro ⟨a,b,c | c⟩
  .exact .inl ⟨a,b,c⟩
  .exact .inr (by omega)
 .rintro (⟨a,b,c⟩ | rfl)
  .exact ⟨a,b,.inl c⟩
  .exact ⟨h.1,h.2,.inr rfl⟩
theorem ZC (s t:BitVec 64) (q:Int):zR (s&&&t) q=true↔zR s q=true/\zR t q=true:=by
 rw [xw,xw,xw,zLJ];simp only [zKu];constructor
 .rintro ⟨a,b,c,d⟩;exact ⟨⟨a,b,c⟩,a,b,d⟩
 .rintro ⟨⟨a,b,c⟩,_,_,d⟩;exact ⟨a,b,c,d⟩
theorem uI (q:Int): ¬zR 0#64 q=true:=by
 rw [xw,zL1];exact fun h=>by cases h.2.2
theorem zls {s t:BitVec 64}(h:∀o,zR s o=true↔zR t o=true):s=t:=by
 apply zL0;intro j hj;have:=h ((j:Int)+1);rw [xw,xw,show ((j:Int)+1-1).toNat=j by omega] at this;rw [Bool.eq_iff_iff];exact ⟨fun e=>(this.1 ⟨by omega,by omega,e⟩).2.2,fun e=>(this.2 ⟨by omega,by omega,e⟩).2.2⟩
theorem zc8 {m:BitVec 64}{o:Int}(h:1<=o/\o<=64): ¬(m|||bit o=m)↔¬zR m o=true:=by
 constructor
 .intro h1 h2;refine h1 (zls (fun q=>?_));rw [wJ _ h];exact ⟨fun e=>e.elim id (fun e=>by rw [e];exact h2),.inl⟩
 .intro h1 h2;refine h1 ?_;rw [<-h2,wJ _ h];exact .inr rfl
theorem uw (t:zx) (o:Int):yB t o=1↔zR t.Marks o=true/\¬zR t.Black o=true:=by
 unfold yB;by_cases h1:zR (t.Marks&&&t.Black) o=true
 .rw [zb h1];rw [ZC] at h1;exact ⟨fun e=>(by cases e),fun e=>zj h1.2 e.2⟩
 .rw [zc h1];rw [ZC] at h1;by_cases h2:zR t.Marks o=true
  .rw [zb h2];exact ⟨fun _=>⟨h2,fun e=>h1 ⟨h2,e⟩⟩,fun _=>rfl⟩
  .rw [zc h2];exact ⟨fun e=>(by cases e),fun e=>zj e.1 h2⟩
theorem zB1 {α:Type}{l:List α}{i:Nat}{x:α}(h:l[i]? =some x):∃a b,l=a++x::b/\(∀y,l.set i y=a++y::b)/\(∀z∈a++b,∃j,j≠i/\l[j]? =some z) /\
  (∀j z,j≠i->l[j]? =some z->z∈a++b):=by
 obtain ⟨hi,e⟩:=zKC.1 h;have hl:(l.take i).length=i:=by rw [zLF];omega
 have el:l=l.take i++x::l.drop (i+1):=by
  conv=>lhs;rw [<-zL9 i l,zK4 hi,e]
 refine ⟨l.take i,l.drop (i+1),el,fun y=>?_,fun z hz=>?_,fun j z hj hz=>?_⟩
 .rw [List.set_eq_take_append_cons_drop,zb hi]
 .rcases zKS.1 hz with hz | hz
  .obtain ⟨j,hj⟩:=zLA.1 hz;obtain ⟨hj1,hj2⟩:=zKC.1 hj;have hj3:j<i:=by omega
   exact ⟨j,by omega,by rw [List.getElem?_take_of_lt hj3] at hj;exact hj⟩
  .obtain ⟨j,hj⟩:=zLA.1 hz;exact ⟨i+1+j,by omega,by rw [List.getElem?_drop] at hj;exact hj⟩
 .rw [el] at hz;rcases zK5 j i with h1 | h1
  .rw [zKZ (by omega)] at hz;exact zKO _ (zKy hz)
  .rw [zK3 (by omega),hl] at hz;rw [show j-i=(j-i-1)+1 by omega,zMi] at hz;exact zK2 _ (zKy hz)
theorem Uf {α β:Type}{f:α->List β}{a b:List α}{x:α}:zMu ((a++x::b).flatMap f) (f x++(a++b).flatMap f):=by
 rw [zLV,zLl,zLV];exact zLc _ _ _
theorem SX.perm {p:zd}{nb k:Nat}{s:za}{g:Gh}{o o':List Int}(X:SX p nb s g o k) (h:zMu o' o):SX p nb s g o' k :=
 ⟨X.S,⟨X.L.hs,X.L.cF,X.L.cE,(zKK _ h).trans X.L.all,X.L.len⟩,X.D,X.v,X.dk⟩
theorem SX.state {p:zd}{nb k:Nat}{s s':za}{g:Gh}{o:List Int}(X:SX p nb s g o k) (S':SOk p nb s') (hm:s'.M=s.M):SX p nb s' g o k :=
 ⟨S',by rw [hm];exact X.L,by rw [hm];exact X.D,by rw [hm];exact X.v,X.dk⟩
theorem GX.state {p:zd}{s s':za}{gh:Gh}{g:zI}(G:GX p s gh g) (hm:s'.M=s.M) (hb:s'.Bins=s.Bins):GX p s' gh g :=
 ⟨G.o,G.pc,G.md,G.ob,G.c0,by rw [hm];exact G.c5,by rw [hm,hb];exact G.c7,by rw [hm];exact G.d3⟩
theorem WX.state {p:zd}{s s':za}{gh:Gh}{w:Int}{x:zi}(W:WX p s gh w x) (hm:s'.M=s.M) (hb:s'.Bins=s.Bins):WX p s' gh w x :=
 ⟨W.c0,W.bt,by rw [hm];exact W.p0,by rw [hm];exact W.p1,by rw [hm];exact W.p2,by rw [hm];exact W.p4,fun e=>⟨(W.p6 e).1.state hm hb,(W.p6 e).2⟩⟩
theorem zie {s s':za}{x:zi}(hm:s'.M=s.M) (hb:s'.Bins=s.Bins):ya s' x=ya s x:=by
 unfold ya UB yS;rw [hm,hb]
def zEQ (p:zd) (s:za) (g:Gh):List Int:=yR p s g++s.Ws.flatMap (ya s)
structure zdb (B:List Int) (t:zx):Prop where
 blk:∀o,zR t.Black o=true->zR t.Marks o=true
 nd:B.Nodup
 gr:∀o,o∈B↔yB t o=1
theorem za6 {t:zx}{o:Int}(h:yB t o=1):1<=o/\o<=64:=by
 have:=(xw _ _).1 ((uw t o).1 h).1;exact ⟨this.1,this.2.1⟩
theorem zdb.more {B B':List Int}{t:zx}{o:Int}(K:zdb B t) (ho:1<=o/\o<=64) (hn: ¬(t.Marks|||bit o=t.Marks)) (h:zMu B' (o::B)):zdb B' {t with Marks:=t.Marks|||bit o}:=by
 have hn:=(zc8 ho).1 hn;have hnb: ¬zR t.Black o=true:=fun e=>hn (K.blk o e);have hno:o∉B:=fun e=>hn ((uw t o).1 ((K.gr o).1 e)).1;refine ⟨fun q hq=>(wJ _ ho q).2 (.inl (K.blk q hq)),h.nodup_iff.2 (List.nodup_cons.2 ⟨hno,K.nd⟩),fun q=>?_⟩;rw [h.mem_iff,zKN,K.gr,uw,uw];show q=o\/_↔zR (t.Marks|||bit o) q=true/\¬zR t.Black q=true;rw [wJ _ ho];constructor
 .rintro (rfl | ⟨a,b⟩)
  .exact ⟨.inr rfl,hnb⟩
  .exact ⟨.inl a,b⟩
 .rintro ⟨a | a,b⟩
  .exact .inr ⟨a,b⟩
  .exact .inl a
theorem zdb.less {B B':List Int}{t:zx}{o:Int}(K:zdb B t) (h:zMu (B'++[o]) B):zdb B' (wh t o)/\(wh t o).Marks=t.Marks/\yB t o=1/\∀q,zR (wh t o).Black q=true↔zR t.Black q=true\/q=o:=by
 have ho:yB t o=1:=(K.gr o).1 (h.mem_iff.1 (by simp));have hr:=za6 ho;have hm:=((uw t o).1 ho)
 have hnd:=h.nodup_iff.2 K.nd;have hnd:=zLK.1 hnd;unfold wh;rw [zb ho];refine ⟨⟨fun q hq=>?_,hnd.1,fun q=>?_⟩,rfl,ho,fun q=>wJ _ hr q⟩
 .rcases (wJ _ hr q).1 hq with e | e
  .exact K.blk q e
  .rw [e];exact hm.1
 .have e1:q∈B↔q∈B'\/q=o:=by rw [<-h.mem_iff,zKS,zLf]
  rw [K.gr,uw] at e1;rw [uw];show _↔zR t.Marks q=true/\¬zR (t.Black|||bit o) q=true;rw [wJ _ hr];constructor
  .intro hq;have:=e1.2 (.inl hq);exact ⟨this.1,fun e=>e.elim this.2 (fun e=>hnd.2.2 q hq o (by simp) e)⟩
  .rintro ⟨a,b⟩;rcases e1.1 ⟨a,fun e=>b (.inl e)⟩ with e | e
   .exact e
   .exact zj (.inr e) b
theorem HOk.get {p:zd}(hp:zJ p) {h:zt}(H:HOk p h) (o i:Int):0<=zZ h o i/\zZ h o i<=64:=by
 have h1:=H.n;have h2:p.Most<=64:=by have:=hp.most;have:=hp.n;omega
 unfold zZ;split
 .unfold zX;rw [zKw,zKw];cases hx:h.Objs[(o-1).toNat]? with
  | none=>show 0<=(([]:List Int)[i.toNat]?).getD 0/\_;simp
  | some l =>
   show 0<=(l[i.toNat]?).getD 0/\(l[i.toNat]?).getD 0<=64;cases hv:l[i.toNat]? with
   | none=>show (0:Int)<=0/\(0:Int)<=64;decide
   | some v =>
    have:=(H.objs l (zKy hx)).2 v (zKy hv);show 0<=v/\v<=64;omega
 .exact ⟨by decide,by decide⟩
structure WG (p:zd) (nb k:Nat) (s:za) (gh:Gh):Prop where
 E:EOk p nb s
 X:SX p nb s gh (s.Ws.flatMap vq) k
 W:∀(i:Nat) x,s.Ws[i]? =some x->WX p s gh ((i:Int)+1) x
 B:zdb (zEQ p s gh) s.T
theorem zpY {N:Int}{nb:Nat}(hN:0<=N/\N<1000) (hnb:nb<1000):∀(l:List Int) (m:List (BitVec 64)) (a:Int),(∀x∈l,1<=x/\x<nb)->(∀x∈l,a≠N+x)->ld (links m N l) a=ld m a
 | [],m,a,_,_=>rfl
 | [x],m,a,h,h2=>by
  have:=h x (by simp);have:=h2 x (by simp);rw [links,xq];exact yK (by omega)
 | x::y::l,m,a,h,h2=>by
  have:=h x (by simp);have:=h2 x (by simp);rw [links,zpY hN hnb (y::l) _ a (fun z hz=>h z (zKA _ hz)) (fun z hz=>h2 z (zKA _ hz)),xq];exact yK (by omega)
theorem zsX {N:Int}{nb:Nat}(hN:0<=N/\N<1000) (hnb:nb<1000):∀(l:List Int) (m:List (BitVec 64)),(∀x∈l,1<=x/\x<nb)->l.Nodup->N+nb<=m.length->Chn (links m N l) N nb (l.headD 0) l
 | [],m,_,_,_=>rfl
 | [x],m,h,_,hl=>by
  have:=h x (by simp);refine ⟨rfl,this.1,this.2,?_⟩;rw [links,xq,VD,zb ⟨rfl,by omega,by omega⟩];rfl
 | x::y::l,m,h,hd,hl=>by
  have hx:=h x (by simp);have hy:=h y (by simp);have hd:=List.nodup_cons.1 hd;refine ⟨rfl,hx.1,hx.2,?_⟩;have ih:=zsX hN hnb (y::l) (st m (wc (N+x)) (zMs 64 y)) (fun z hz=>h z (zKA _ hz)) hd.2 (by rw [YD];exact hl);rw [links,zpY hN hnb (y::l) _ (N+x) (fun z hz=>h z (zKA _ hz)) (fun z hz e=>hd.1 (by rw [zpt e] at hz;exact hz)),xq,VD,zb ⟨rfl,by omega,by omega⟩,toInt_ofInt (by omega) (by omega)];rw [xq] at ih;exact ih
theorem Chn.links {N:Int}{nb:Nat}(hN:0<=N/\N<1000) (hnb:nb<1000) {l r:List Int}{h:Int}{m:List (BitVec 64)}(hr:∀x∈r,1<=x/\x<nb) (hd:∀x∈l,x∉r) (c:Chn m N nb h l):Chn (Go.Pe.G.links m N r) N nb h l:=by
 induction l generalizing h with
 | nil=>exact c
 | cons y l ih =>
  refine ⟨c.1,c.2.1,c.2.2.1,?_⟩;rw [zpY hN hnb r m (N+y) hr (fun z hz e=>hd y (by simp) (by rw [zpt e] at hz;exact hz))];exact ih (fun x hx=>hd x (zKA _ hx)) c.2.2.2
theorem zAQ {l:List Int}{nb:Nat}(h:∀x∈l,1<=x/\x<nb) (hnb:nb<1000):0<=l.headD 0/\l.headD 0<4294967296:=by
 cases l with
 | nil=>exact ⟨by decide,by decide⟩
 | cons a r=>have:=h a (by simp);show 0<=a/\a<4294967296;omega
theorem zFg {p:zd}(h:zJ p):LI p (yh p+1) (xk p).M (yt p) (zT p) ((we (yh p)).take (xM p).length) ((we (yh p)).drop (xM p).length) []/\xU (ld (xk p).M (yt p))=0/\xU (ld (xk p).M (zT p))=0:=by
 have hb:=zeM h;have hF:=Yg h;have hE:=ve h;have hcl:=zbi p p.Workers.toNat;have hw:=h.wk;have hc:=h.cap;have hfe:yt p=((p.Workers.toNat*(p.Cap.toNat+2):Nat):Int):=by
  rw [hF.1];have e1:p.Workers=((p.Workers.toNat:Nat):Int):=by omega
  have e2:p.Cap+2=((p.Cap.toNat+2:Nat):Int):=by omega
  rw [e2,Int.natCast_mul];rw [<-e1]
 have hN:0<=zT p/\zT p<1000:=by omega
 have hnb:yh p+1<1000:=by omega
 generalize hk:(xM p).length=k;have t1:∀x∈(we (yh p)).take k,1<=x/\x<((yh p+1:Nat):Int):=fun x hx=>by have:=zh8 (zLT hx);omega
 have t2:∀x∈(we (yh p)).drop k,1<=x/\x<((yh p+1:Nat):Int):=fun x hx=>by have:=zh8 (List.mem_of_mem_drop hx);omega
 have nd:((we (yh p)).take k++(we (yh p)).drop k).Nodup:=by rw [zL9];exact zuh (yh p+1)
 have nd3:=zLK.1 nd;have eM:(xk p).M=zeT (zeT (Xy p p.Workers.toNat++zMr (2+yh p) 0#64) (yt p) (zT p) ((we (yh p)).take k)) (zT p) (zT p) ((we (yh p)).drop k):=by rw [<-hk];rfl
 rw [eM];generalize hm0:Xy p p.Workers.toNat++zMr (2+yh p) 0#64=m0;have l0:zT p+((yh p+1:Nat):Int)<=m0.length:=by
  rw [<-hm0,zKH,hcl,zLa];omega
 have p1:=zAQ t1 hnb;have p2:=zAQ t2 hnb;have v0:∀n:Int,0<=n->n<4294967296->xU (xR 0#64 n)=0:=fun n h1 h2=>by
  unfold xU;rw [zxp _ h1 h2];show (0*4294967296+n.toNat)/4294967296=0;omega
 have c1:=zsX hN hnb _ m0 t1 nd3.1 l0;generalize hm1:links m0 (zT p) ((we (yh p)).take k)=m1 at c1;have l1:m1.length=m0.length:=by rw [<-hm1,zfa]
 have c1':=(c1.st_head h (a:=yt p) (v:=xR 0#64 (((we (yh p)).take k).headD 0)) (.inl rfl)).links hN hnb t2 (fun x hx hx2=>nd3.2.2 x hx x hx2 rfl);have c2:=zsX hN hnb _ (st m1 (yt p) (xR 0#64 (((we (yh p)).take k).headD 0))) t2 nd3.2.1 (by rw [YD,l1];exact l0);have hd1:ld (links (st m1 (yt p) (xR 0#64 (((we (yh p)).take k).headD 0))) (zT p) ((we (yh p)).drop k)) (yt p)=xR 0#64 (((we (yh p)).take k).headD 0):=by
  rw [zpY hN hnb _ _ _ t2 (fun x hx=>by have:=t2 x hx;omega),VD,zb ⟨rfl,by omega,by omega⟩]
 unfold zeT;rw [hm1];generalize hm2:links (st m1 (yt p) (xR 0#64 (((we (yh p)).take k).headD 0))) (zT p) ((we (yh p)).drop k)=m2 at c1' c2 hd1;have l2:m2.length=m0.length:=by rw [<-hm2,zfa,YD,l1]
 have g1:ld (st m2 (zT p) (xR 0#64 (((we (yh p)).drop k).headD 0))) (yt p)=xR 0#64 (((we (yh p)).take k).headD 0):=by rw [yK (by omega),hd1]
 have g2:ld (st m2 (zT p) (xR 0#64 (((we (yh p)).drop k).headD 0))) (zT p)=xR 0#64 (((we (yh p)).drop k).headD 0):=by rw [VD,zb ⟨rfl,by omega,by omega⟩]
 refine ⟨⟨.inl ⟨rfl,rfl⟩,?_,?_,?_,by rw [YD,l2];exact l0⟩,?_,?_⟩
 .rw [g1,zfh _ p1.1 p1.2];exact c1'.st_head h (.inr rfl)
 .rw [g2,zfh _ p2.1 p2.2];exact c2.st_head h (.inr rfl)
 .rw [zKx,zL9];exact zKX _
 .rw [g1];exact v0 _ p1.1 p1.2
 .rw [g2];exact v0 _ p2.1 p2.2
theorem zrL {N:Int}(hN:0<=N/\N<1000):∀(l:List Int) (m:List (BitVec 64)) (a:Int),(∀x∈l,1<=x/\x<1000)->a<=N->ld (links m N l) a=ld m a
 | [],m,a,_,_=>rfl
 | [x],m,a,h,h2=>by
  have:=h x (by simp);rw [links,xq];exact yK (by omega)
 | x::y::l,m,a,h,h2=>by
  have:=h x (by simp);rw [links,zrL hN (y::l) _ a (fun z hz=>h z (zKA _ hz)) h2,xq];exact yK (by omega)
theorem zIF {p:zd}(h:zJ p) {a:Int}(ha:a<yt p):ld (xk p).M a=ld (Xy p p.Workers.toNat++zMr (2+yh p) 0#64) a:=by
 have hb:=zeM h;have hF:=Yg h;have hE:=ve h;have t1:∀x∈(we (yh p)).take (xM p).length,1<=x/\x<1000:=fun x hx=>by have:=zh8 (zLT hx);omega
 have t2:∀x∈(we (yh p)).drop (xM p).length,1<=x/\x<1000:=fun x hx=>by have:=zh8 (List.mem_of_mem_drop hx);omega
 show ld (zeT (zeT _ (yt p) (zT p) _) (zT p) (zT p) _) a=_;unfold zeT;rw [yK (by omega),zrL (by omega) _ _ _ t2 (by omega),yK (by omega),zrL (by omega) _ _ _ t1 (by omega)]
theorem zzd (p:zd):∀(k i j:Nat),i<k->j<p.Cap.toNat+2->(Xy p k)[i*(p.Cap.toNat+2)+j]? =(zi9 p.Cap)[j]?
 | 0,i,j,h,_=>by omega
 | k+1,i,j,h,hj=>by
  rw [zok];have hl:=zbi p k;rcases zK5 i k with h1 | h1
  .have h2:=zLw (p.Cap.toNat+2) (show i+1<=k from h1);rw [Nat.succ_mul] at h2;rw [zKZ (by omega)];exact zzd p k i j h1 hj
  .have:i=k:=by omega
   subst this;rw [zK3 (by omega),hl,show i*(p.Cap.toNat+2)+j-i*(p.Cap.toNat+2)=j by omega]
theorem zBo {p:zd}(h:zJ p) {w:Int}(hw:1<=w/\w<=p.Workers) {j:Nat}(hj:j<2):ld (xk p).M (z6 p w+j)=1#64:=by
 have hd:=Xe h hw.1 hw.2;have hc:=h.cap;have hl:=zbi p p.Workers.toNat;have hlt:(w-1).toNat<p.Workers.toNat:=by omega
 have e1:(z6 p w+j).toNat=(w-1).toNat*(p.Cap.toNat+2)+j:=by
  obtain ⟨n,hn⟩:∃n:Nat,w-1=(n:Int):=⟨(w-1).toNat,by omega⟩
  have e2:p.Cap+2=((p.Cap.toNat+2:Nat):Int):=by omega
  rw [hd.1,hn,e2,<-Int.natCast_mul,zLd];omega
 have h2:=zLw (p.Cap.toNat+2) (show (w-1).toNat+1<=p.Workers.toNat from hlt);rw [Nat.succ_mul] at h2;rw [zIF h (by omega)];unfold ld;rw [yg,e1,zKw,zKZ (by omega),zzd p _ _ _ hlt (by omega)];unfold zi9
 match j,hj with
 | 0,_=>rfl
 | 1,_=>rfl
theorem zt9 (n:Nat) (hn:1<=n):∀(f:Nat) (l:List Int),l.length<=f->(un n f l).flatten=l
 | 0,l,h=>by
  have:l=[]:=List.length_eq_zero_iff.1 (by omega);subst this;simp [un]
 | f+1,[],_=>by simp [un]
 | f+1,x::l,h=>by
  have:=zt9 n hn f ((x::l).drop n) (by rw [zLM];simp at h ⊢;omega);simp only [un,List.flatten_cons] at this ⊢;rw [this,zL9]
theorem zGQ {α:Type}(l:List (List α)):(zMt l.length).flatMap (fun i:Nat=>(l[i]?).getD [])=l.flatten:=by
 rw [List.flatMap_def];congr 1;apply List.ext_getElem
 .simp
 .intro i h1 h2;simp [zKv h2]
def gh0 (p:zd):Gh:=⟨(we (yh p)).take (xM p).length,(we (yh p)).drop (xM p).length,fun _=>[],fun _=>1,fun _=>0⟩
theorem zcF {α β:Type}{f:α->List β}:∀ {l:List α},(∀x∈l,f x=[])->l.flatMap f=[]
 | [],_=>rfl
 | a::l,h=>by rw [zLl,h a (by simp),zcF (fun x hx=>h x (zKA _ hx))];rfl
theorem zDA {p:zd}(h:zJ p):yR p (xk p) (gh0 p)=VB (uB p):=by
 have hb:=h.bin;have hfl:=zqw h;have hbs:=zeM h;have hmost:=h.most;have hw:=h.wk;have hm:=h.mt;have e1:yR p (xk p) (gh0 p)=((we (yh p)).take (xM p).length).flatMap (yS (xk p)):=by
  show ((we (yh p)).take (xM p).length).flatMap (yS (xk p))++(zMt p.Workers.toNat).flatMap (fun _=>([]:List Int))=_;rw [zcF (f:=fun _=>([]:List Int)) (fun _ _=>rfl),zKx]
 have e2:(we (yh p)).take (xM p).length=(zMt (xM p).length).map (fun i:Nat=>(i:Int)+1):=by
  unfold we;rw [<-List.map_take,List.take_range,Nat.min_eq_left (by omega)]
 rw [e1,e2,List.flatMap_map];have e3:(zMt (xM p).length).flatMap (fun i:Nat=>yS (xk p) ((i:Int)+1))=(zMt (xM p).length).flatMap (fun i:Nat=>((xM p)[i]?).getD []):=by
  refine wW (fun i hi=>?_);have hi:=zK6.1 hi;unfold yS;show (([[]]++xM p++zMr (yh p-(xM p).length) [])[((i:Int)+1).toNat]?).getD []=_;rw [show ((i:Int)+1).toNat=i+1 by omega,zKD];show ((xM p++zMr (yh p-(xM p).length) [])[i]?).getD []=_;rw [zKZ hi]
 rw [e3,zGQ];exact zt9 _ (by omega) _ _ (zKz _)
theorem zCC (s:BitVec 64):(VB s).Nodup:=by
 unfold VB;rw [List.Nodup,List.pairwise_map];exact (List.nodup_range.filter _).imp (fun h e=>h (by omega))
theorem zEP {s:BitVec 64}(h:s&&& ~~~63#64=0#64) {j:Nat}(hs:s.getLsbD j=true):j<6:=by
 have hj:j<64:=BitVec.lt_of_getLsbD hs;have:=congrArg (fun x=>x.getLsbD j) h;simp only [zLJ,zMb,hs,hj,decide_true,zLu,zL1] at this;have h63:(63#64).getLsbD j=decide (j<6):=by
  have:∀j:Fin 64,(63#64).getLsbD j.1=decide (j.1<6):=by decide
  exact this ⟨j,hj⟩
 rw [h63] at this;by_cases e:j<6
 .exact e
 .rw [zN e] at this;cases this
theorem zGT {s:BitVec 64}(h:s&&& ~~~63#64=0#64) (o:Int):o∈VB s↔zR s o=true:=by
 unfold VB;rw [xw,zKE];constructor
 .rintro ⟨i,hi,rfl⟩;obtain ⟨h1,h2⟩:=zLR.1 hi;have:=zK6.1 h1;exact ⟨by omega,by omega,by rw [show ((i:Int)+1-1).toNat=i by omega];exact h2⟩
 .rintro ⟨h1,h2,h3⟩;exact ⟨(o-1).toNat,zLR.2 ⟨zK6.2 (zEP h h3),h3⟩,by omega⟩
theorem zJH {p:zd}(h:zJ p):WG p (yh p+1) 0 (xk p) (gh0 p):=by
 have hE:=zAM h;obtain ⟨L,v1,v2⟩:=zFg h;have hc:=h.cap;have hws:∀x∈(xk p).Ws,∃i:Nat,x=ub p i:=fun x hx=>by
  obtain ⟨i,_,rfl⟩:=zKE.1 (show x∈(zMt p.Workers.toNat).map (ub p) from hx);exact ⟨i,rfl⟩
 have hb:∀i:Nat,ub p i=zaq p ((i:Int)+1) (ub p i):=fun i=>rfl;have own:(xk p).Ws.flatMap vq=[]:=zcF (fun x hx=>by
  obtain ⟨i,rfl⟩:=hws x hx;exact uN (by show (0:Int)≠3;decide) (by show (0:Int)≠4;decide) (by show (0:Int)≠6;decide))
 have hold:(xk p).Ws.flatMap (ya (xk p))=[]:=zcF (fun x hx=>by
  obtain ⟨i,rfl⟩:=hws x hx;unfold ya;rw [hb i,zkC];rfl)
 refine ⟨hE,⟨hE.S,by rw [own];exact L,fun w h1 h2=>?_,?_,fun w _ _=>by show 1+0<=0+1000;decide⟩,fun i x hx=>?_,?_⟩
 .have c0:=zBo h ⟨h1,h2⟩ (j:=0) (by decide);have c1:=zBo h ⟨h1,h2⟩ (j:=1) (by decide);rw [show z6 p w+((0:Nat):Int)=z6 p w by omega] at c0;exact ⟨c0,c1,by show (0:Nat)<=1;decide,by show (1:Nat)<=1;decide,zLH _,by show 1+0<4294967296;decide,fun i hi=>zj hi (Nat.not_lt_zero _)⟩
 .rw [v1,v2];exact ⟨zKz _,zKz _⟩
 .have hx:((zMt p.Workers.toNat).map (ub p))[i]? =some x:=hx;rw [zK1] at hx;cases hr:(zMt p.Workers.toNat)[i]? with
  | none=>rw [hr] at hx;cases hx
  | some j =>
   rw [hr] at hx;injection hx with hx;obtain ⟨h1,h2⟩:=zKC.1 hr;rw [List.getElem_range] at h2;subst h2;rw [<-hx,hb i];exact WX.begin rfl rfl
 .have hs:=zid h;unfold zEQ;rw [hold,zKx,zDA h];refine ⟨fun o ho=>zj ho (uI o),zCC _,fun o=>?_⟩;rw [zGT hs,uw];exact ⟨fun e=>⟨e,uI o⟩,fun e=>e.1⟩
theorem zy4 (n:Nat) (hn:1<=n):∀(f:Nat) (l c:List Int),c∈un n f l->c≠[]
 | 0,l,c,h=>by simp [un] at h
 | f+1,[],c,h=>by simp [un] at h
 | f+1,x::l,c,h=>by
  simp only [un,zKN] at h;rcases h with h | h
  .rw [h]
   match n,hn with
   | m+1,_=>exact List.cons_ne_nil _ _
  .exact zy4 n hn f _ c h
theorem zJJ {p:zd}(h:zJ p):∀y∈(gh0 p).F,yS (xk p) y≠[]:=by
 intro y hy;have hb:=h.bin;have hfl:=zqw h;have hbs:=zeM h;have hmost:=h.most;have hw:=h.wk;have hm:=h.mt;have hy:y∈(we (yh p)).take (xM p).length:=hy;have e2:(we (yh p)).take (xM p).length=(zMt (xM p).length).map (fun i:Nat=>(i:Int)+1):=by
  unfold we;rw [<-List.map_take,List.take_range,Nat.min_eq_left (by omega)]
 rw [e2] at hy;obtain ⟨i,hi,rfl⟩:=zKE.1 hy;have hi:=zK6.1 hi;unfold yS;show (([[]]++xM p++zMr (yh p-(xM p).length) [])[((i:Int)+1).toNat]?).getD []≠[];rw [show ((i:Int)+1).toNat=i+1 by omega,zKD];show ((xM p++zMr (yh p-(xM p).length) [])[i]?).getD []≠[];rw [zKZ hi,zKv hi];exact zy4 _ (by omega) _ _ _ (zKR hi)
def noD (base cap:Int):zg:=⟨0,0,base,cap,0#64,0#64,0,0⟩
def zlq (o:zg):Prop:=o.Kind=2/\o.Out=0/\(o.PC=2\/o.PC=4\/o.PC=5\/(o.PC=3/\o.T=o.B-1#64))
instance (o:zg):Decidable (zlq o):=by unfold zlq;infer_instance
def zhG (m:List (BitVec 64)) (base:Int) (o:zg):BitVec 64:=if zlq o then ld m (wc (base+1))+1#64 else ld m (wc (base+1))
def Xx (m:List (BitVec 64)) (base cap:Int) (top:BitVec 64) (n:Nat):List Int:=(zMt n).map (fun j:Nat=>(ld m (XE (noD base cap) (top+zMq 64 j))).toInt)
def zag (m:List (BitVec 64)) (base cap:Int) (o:zg):List Int :=
 if ¬0<(zhG m base o-ld m base).toInt\/(min (uX (noD base cap)).toNat 64)<(zhG m base o-ld m base).toNat then []
 else Xx m base cap (ld m base) (zhG m base o-ld m base).toNat
theorem zIH {p:zd}(h:zJ p) (b:Int):(uX (noD b p.Cap)).toNat=p.Cap.toNat:=by
 have hc:=h.cap;have hx:p.Cap=1\/p.Cap=2\/p.Cap=3:=by omega
 unfold uX noD;rcases hx with e | e | e<;>simp only [e]<;>decide
theorem zDm {a b:Nat}(h:b<=a) (h2:a<4294967296):zMq 64 a-zMq 64 b=zMq 64 (a-b):=ziO h (by omega)
theorem zB6 {p:zd}(h:zJ p) {m:List (BitVec 64)}{w:Int}{t c:Nat}{l:List Int}{o:zg}(hw:1<=w/\w<=p.Workers) (D:DQ p m w t l c) (he:zhG m (z6 p w) o=zMq 64 (t+l.length)):zag m (z6 p w) p.Cap o=l:=by
 have hs:=D.small;have hcap:=D.cap;have hc:=h.cap;have ed:zhG m (z6 p w) o-ld m (z6 p w)=zMq 64 l.length:=by
  rw [he,D.top,zDm (by omega) hs];congr 1;omega
 unfold zag;rw [ed,Yn (by omega),zIH h];by_cases hl:l=[]
 .subst hl;rw [zb (.inl (by decide))]
 .have hpos:0<l.length:=List.length_pos_iff.2 hl;have:0<(zMq 64 l.length).toInt:=by
   have:=(zi6 (a:=t+l.length) (b:=t) hs (by omega)).2 (by omega);rw [zDm (by omega) hs] at this;rwa [show t+l.length-t=l.length by omega] at this
  rw [zk];unfold Xx;apply List.ext_getElem
  .simp
  .intro i h1 h2;rw [List.getElem_map,List.getElem_range,D.top,zff (by omega),ziI h hw rfl rfl (by omega),D.cell i h2]
theorem zFJ {p:zd}(h:zJ p) {m:List (BitVec 64)}{w:Int}{t c:Nat}{o:zg}(D:DQ p m w t [] c) (he:zhG m (z6 p w) o=zMq 64 (t-1)):zag m (z6 p w) p.Cap o=[]:=by
 have hs:=D.small;unfold zag;refine zb (.inl (fun e=>?_));rw [he,D.top] at e;have:=(zi6 (by have:t+0<4294967296:=hs;omega) (by have:t+0<4294967296:=hs;omega)).1 e;omega
theorem zAN {p:zd}(h:zJ p) {w:Int}(hw:1<=w/\w<=p.Workers):wc (z6 p w+1)=z6 p w+1:=by
 have hd:=Xe h hw.1 hw.2;have hf:=Yg h;have hc:=h.cap;exact xq
theorem zuU {p:zd}(h:zJ p) {m:List (BitVec 64)}{w:Int}{t:Nat}{l:List Int}{o:zg}(hw:1<=w/\w<=p.Workers) (D:DQ p m w t l 0) (ho: ¬zlq o):zag m (z6 p w) p.Cap o=l:=by
 refine zB6 h hw D ?_;unfold zhG;rw [zc ho,zAN h hw,D.bot];rfl
theorem zGI {p:zd}(h:zJ p) {m:List (BitVec 64)}{w:Int}{t c:Nat}{l:List Int}{o:zg}(hw:1<=w/\w<=p.Workers) (D:DQ p m w t l c) (K:PK p m w t l c o):zag m (z6 p w) p.Cap o=l:=by
 have hs:=D.small;have ht:=D.t1;have hpc:=K.pc;by_cases h1:zlq o
 .have hc:c=1:=by
   rcases h1.2.2 with e | e | e | ⟨e,e2⟩
   .exact K.c1 (.inl e)
   .exact K.c1 (.inr (by omega))
   .exact K.c1 (.inr (by omega))
   .exact K.c3 e e2
  subst hc;refine zB6 h hw D ?_;unfold zhG;rw [zb h1,zAN h hw,D.bot,show (1#64:BitVec 64)=zMq 64 1 from rfl,zff (by omega)];congr 1;omega
 .have hn: ¬(o.PC=2\/o.PC=4\/o.PC=5\/(o.PC=3/\o.T=o.B-1#64)):=fun e=>h1 ⟨K.kind,K.out,e⟩;by_cases h6:o.PC=6
  .have hl:=K.e5 (by omega);have hc:=K.c1 (.inr (by omega));subst hl;subst hc;refine zFJ h D ?_;unfold zhG;rw [zc h1,zAN h hw,D.bot];rfl
  .have hc:c=0:=by
    by_cases h3:o.PC=3
    .exact (K.n3 h3 (fun e=>hn (.inr (.inr (.inr ⟨h3,e⟩))))).1
    .exact K.c0 (by omega)
   subst hc;exact zuU h hw D h1
theorem zHB:∀(t:Fin 512) (k:Fin 9),zMq 64 t.1|||bit ((k.1:Int)+1)=zMq 64 t.1\/cnt (zMq 64 t.1|||bit ((k.1:Int)+1))=cnt (zMq 64 t.1)+1:=by decide +kernel
theorem zCd {s:BitVec 64}(h:∀o,zR s o=true->o<=9):∃t:Fin 512,s=zMq 64 t.1:=by
 have h2:s=s&&&511#64:=by
  apply zL0;intro j hj;rw [zLJ];have h63:(511#64).getLsbD j=decide (j<9):=by
   have:∀j:Fin 64,(511#64).getLsbD j.1=decide (j.1<9):=by decide
   exact this ⟨j,hj⟩
  rw [h63];cases hs:s.getLsbD j with
  | false=>rfl
  | true =>
   have:=h ((j:Int)+1) ((xw _ _).2 ⟨by omega,by omega,by rw [show ((j:Int)+1-1).toNat=j by omega];exact hs⟩);rw [zr (by omega:j<9)];rfl
 have h3:s.toNat<512:=by
  rw [h2,zLz];exact zMc Nat.and_le_right (by decide)
 exact ⟨⟨s.toNat,h3⟩,by rw [BitVec.ofNat_toNat,BitVec.setWidth_eq]⟩
theorem zFZ {s:BitVec 64}(h:∀o,zR s o=true->o<=9) {o:Int}(ho:1<=o/\o<=9) (hn: ¬zR s o=true):cnt (s|||bit o)=cnt s+1:=by
 obtain ⟨t,rfl⟩:=zCd h;have:=zHB t ⟨(o-1).toNat,by omega⟩;rw [show (((o-1).toNat:Nat):Int)+1=o by omega] at this;rcases this with e | e
 .exact zj e ((zc8 ⟨ho.1,by omega⟩).2 hn)
 .exact e
theorem zBD:∀(l:List Int) (s:BitVec 64) (q:Int),(∀o∈l,1<=o/\o<=64)->(zR (l.foldl (fun s o=>s|||bit o) s) q=true↔zR s q=true\/q∈l)
 | [],s,q,_=>by simp
 | a::l,s,q,h=>by
  rw [zLk,zBD l _ q (fun o ho=>h o (zKA _ ho)),wJ _ (h a (by simp)),zKN,or_assoc]
theorem zAL:∀(l:List Int) (s:BitVec 64),(∀o∈l,1<=o/\o<=9)->(∀o,zR s o=true->o<=9)->l.Nodup->(∀o∈l,¬zR s o=true)->cnt (l.foldl (fun s o=>s|||bit o) s)=cnt s+(l.length:Int)
 | [],s,_,_,_,_=>by simp
 | a::l,s,h,hs,hd,hn=>by
  have ha:=h a (by simp);have hd:=List.nodup_cons.1 hd;have ha64:1<=a/\a<=64:=by omega
  rw [zLk,zAL l _ (fun o ho=>h o (zKA _ ho)) (fun o ho=>?_) hd.2 (fun o ho e=>?_),zFZ hs ha (hn a (by simp)),zKM]
  .omega
  .rcases (wJ _ ha64 o).1 ho with e | e
   .exact hs o e
   .omega
  .rcases (wJ _ ha64 o).1 e with e | e
   .exact hn o (zKA _ ho) e
   .exact hd.1 (e▸ho)
theorem zDX:∀t:Fin 512,cnt (zMq 64 t.1)<=9:=by decide +kernel
theorem zwX {s:BitVec 64}(h:∀o,zR s o=true->o<=9):cnt s<=9:=by
 obtain ⟨t,rfl⟩:=zCd h;exact zDX t
theorem zA1:cnt 0#64=0:=by decide +kernel
theorem zDp {l:List Int}(h:∀o∈l,1<=o/\o<=9) (hd:l.Nodup):cnt (WV l)=(l.length:Int)/\∀q,zR (WV l) q=true↔q∈l:=by
 refine ⟨?_,fun q=>?_⟩
 .unfold WV;rw [zAL l _ h (fun o e=>zj e (uI o)) hd (fun o _=>uI o),zA1,Int.zero_add]
 .unfold WV;rw [zBD l _ q (fun o ho=>by have:=h o ho;omega)];exact ⟨fun e=>e.resolve_left (uI q),.inr⟩
theorem ze1 (s:BitVec 64) {q:Int}(h:1<=q/\q<=64):zR (~~~s) q=true↔¬zR s q=true:=by
 rw [xw,xw,zMb];simp only [show (q-1).toNat<64 by omega,decide_true,zLu,zKQ];constructor
 .rintro ⟨_,_,e⟩ ⟨_,_,e2⟩;rw [e] at e2;cases e2
 .intro e;refine ⟨h.1,h.2,?_⟩;cases hs:s.getLsbD (q-1).toNat with
  | false=>rfl
  | true=>exact zj ⟨h.1,h.2,hs⟩ e
theorem zzt {α β:Type}{f g:α->List β}:∀(l:List α),zMu (l.flatMap (fun x=>f x++g x)) (l.flatMap f++l.flatMap g)
 | []=>zKX _
 | a::l=>by
  rw [zLl,zLl,zLl];refine (zKK _ (zzt l)).trans ?_;simp only [zKD];exact zKK _ (zLc _ _ _)
theorem zwG {α β:Type}{f:α->List β}(l:List α):(zMt l.length).flatMap (fun i:Nat=>(l[i]?).elim [] f)=l.flatMap f:=by
 rw [List.flatMap_def,List.flatMap_def];congr 1;apply List.ext_getElem
 .simp
 .intro i h1 h2;have hi:i<l.length:=by simpa using h2
  simp [zKv hi]
theorem zES {m:List (BitVec 64)}{base cap:Int}{top:BitVec 64}(hc:cap<1000) (e:BitVec 64) (h:(e-top).toNat<=64) :
  yf yx (m,e,top,zg.mk 0 0 base cap 0#64 0#64 0 0,([]:List Int),())=some (.brk (Xx m base cap top (e-top).toNat,())):=by
 have he:e=top+zMq 64 (e-top).toNat:=by
  rw [BitVec.ofNat_toNat,BitVec.setWidth_eq,BitVec.add_comm,BitVec.sub_add_cancel]
 generalize (e-top).toNat=n at he h;subst he;have:=zJd (f:=yx) (fun (i:Int) (_:Unit)=>(m,top+zMq 64 n,top+zMq 64 i.toNat,zg.mk 0 0 base cap 0#64 0#64 0 0,Xx m base cap top i.toNat,())) (fun _=>(Xx m base cap top n,())) n (by omega) (fun _ _=>()) (fun _=>True) (fun _ _ _=>trivial)
  (fun i _ hi _=>by
   have hne: ¬(top+zMq 64 i=top+zMq 64 n):=fun e=>by
    have e:=congrArg (fun x=>x-top) e;rw [BitVec.add_comm top,BitVec.add_comm top,BitVec.add_sub_cancel,BitVec.add_sub_cancel] at e;have:=zzD (by omega) (by omega) e;omega
   have e2:top+zMq 64 i+1#64=top+zMq 64 (i+1):=by
    rw [BitVec.add_assoc,show (1#64:BitVec 64)=zMq 64 1 from rfl,zff (by omega)]
   have e3:Xx m base cap top (i+1)=Xx m base cap top i++[(ld m (XE (zg.mk 0 0 base cap 0#64 0#64 0 0) (top+zMq 64 i))).toInt]:=by
    unfold Xx noD;rw [zLU,List.map_append];rfl
   have el:(Xx m base cap top i).length=i:=by unfold Xx;simp
   show yx (m,top+zMq 64 n,top+zMq 64 i,zg.mk 0 0 base cap 0#64 0#64 0 0,Xx m base cap top i,())=some (.again (m,top+zMq 64 n,top+zMq 64 (i+1),zg.mk 0 0 base cap 0#64 0#64 0 0,Xx m base cap top (i+1),()));rw [zfE,yq,zc hne,zir (show (zg.mk 0 0 base cap 0#64 0#64 0 0).Cap<1000 from hc),zKt,Xo,zKt,yQ (by rw [zKH,el];simp;omega),zKt,e2,e3])
  (fun _ _=>by
   show yx (m,top+zMq 64 n,top+zMq 64 n,zg.mk 0 0 base cap 0#64 0#64 0 0,Xx m base cap top n,())=_;rw [zfE,yq,zb rfl]) (s:=()) trivial
 have e0:top+zMq 64 (0:Int).toNat=top:=by show top+0#64=top;rw [BitVec.add_zero]
 simp only [e0] at this;exact this
theorem zIj (S d:BitVec 64):((bif decide (64#64<S) then 64#64 else S)<d)↔min S.toNat 64<d.toNat:=by
 rw [zp];by_cases h:64#64<S
 .rw [zb h];have h':64<S.toNat:=h;show 64<d.toNat↔_;rw [Nat.min_eq_right (by omega)]
 .rw [zc h];have h': ¬64<S.toNat:=h;show S.toNat<d.toNat↔_;rw [Nat.min_eq_left (by omega)]
theorem zCY {m:List (BitVec 64)}{base cap:Int}(hc:cap<1000) (o:zg):wM m base cap o=some (zag m base cap o,()):=by
 have hl:=fun e h=>zES (m:=m) (base:=base) (cap:=cap) (top:=ld m base) hc e h;have hlim:=fun d=>zIj (uX (noD base cap)) d;unfold noD at hlim;have done:∀e:BitVec 64,∀ {b:Option (List Int×Unit)},(¬0<(e-ld m base).toInt->b=some ([],()))->(0<(e-ld m base).toInt->(min (uX (noD base cap)).toNat 64<(e-ld m base).toNat)->b=some ([],()))->(0<(e-ld m base).toInt->¬(min (uX (noD base cap)).toNat 64<(e-ld m base).toNat)->b=some (Xx m base cap (ld m base) (e-ld m base).toNat,())) ->
   b=some (if ¬0<(e-ld m base).toInt\/(min (uX (noD base cap)).toNat 64)<(e-ld m base).toNat then [] else Xx m base cap (ld m base) (e-ld m base).toNat,()):=by
  intro e b h1 h2 h3;by_cases a:0<(e-ld m base).toInt
  .by_cases c:min (uX (noD base cap)).toNat 64<(e-ld m base).toNat
   .rw [zb (.inr c)];exact h2 a c
   .rw [zc (by rintro (x | x);exact x a;exact c x)];exact h3 a c
  .rw [zb (.inl a)];exact h1 a
 rw [zvx];simp only [ZX,x8,xV,zKt,Xo,zeE,zp2];unfold zag;by_cases h:zlq o
 .have he:zhG m base o=ld m (wc (base+1))+1#64:=by unfold zhG;rw [zb h]
  rw [he];obtain ⟨k,u,pc⟩:=h;rcases pc with p | p | p | ⟨p,t⟩
  all_goals
   first | simp only [k,u,p,t,Int.reduceEq,decide_true,decide_false,zu,zM] | simp only [k,u,p,Int.reduceEq,decide_true,decide_false,zu,zM]
   generalize ld m (wc (base+1))+1#64=e;refine done e (fun a=>?_) (fun a c=>?_) (fun a c=>?_)
   .simp only [zN a,Bool.not_false,zu]
   .simp only [zr a,zKI,zM];rw [zp,zb ((hlim (e-ld m base)).2 c)]
   .simp only [zr a,zKI,zM];rw [zp,zc (fun x=>c ((hlim (e-ld m base)).1 x)),hl e (by omega)];rfl
 .have he:zhG m base o=ld m (wc (base+1)):=by unfold zhG;rw [zc h]
  rw [he];have fin:∀b:Option (List Int×Unit),(b=(bif !decide (0<(ld m (wc (base+1))-ld m base).toInt) then some ([],()) else bif decide ((bif decide (64#64<uX (noD base cap)) then 64#64 else uX (noD base cap))<(ld m (wc (base+1))-ld m base)) then some ([],()) else (yf yx (m,ld m (wc (base+1)),ld m base,zg.mk 0 0 base cap 0#64 0#64 0 0,([]:List Int),())).bind (fun st=>match st with | .again _=>none | .brk y=>some (y.1,()) | .ret y=>none)))->b=some (if ¬0<(ld m (wc (base+1))-ld m base).toInt\/(min (uX (noD base cap)).toNat 64)<(ld m (wc (base+1))-ld m base).toNat then [] else Xx m base cap (ld m base) (ld m (wc (base+1))-ld m base).toNat,()):=by
   intro b hb;rw [hb];generalize ld m (wc (base+1))=e;refine done e (fun a=>?_) (fun a c=>?_) (fun a c=>?_)
   .simp only [zN a,Bool.not_false,zu]
   .simp only [zr a,zKI,zM];rw [zp];exact zb ((hlim (e-ld m base)).2 c)
   .simp only [zr a,zKI,zM];rw [zp];refine (zc (fun x=>c ((hlim (e-ld m base)).1 x))).trans ?_;rw [hl e (by omega)];rfl
  refine fin _ ?_;by_cases k:o.Kind=2
  .by_cases u:o.Out=0
   .have pc: ¬(o.PC=2\/o.PC=4\/o.PC=5\/(o.PC=3/\o.T=o.B-1#64)):=fun e=>h ⟨k,u,e⟩;have p2: ¬o.PC=2:=fun e=>pc (.inl e);have p4: ¬o.PC=4:=fun e=>pc (.inr (.inl e));have p5: ¬o.PC=5:=fun e=>pc (.inr (.inr (.inl e)));by_cases p3:o.PC=3
    .have t: ¬o.T=o.B-1#64:=fun e=>pc (.inr (.inr (.inr ⟨p3,e⟩)));simp only [zr k,zr u,zN p2,zN p4,zN p5,zr p3,zN t,zu,zM];rfl
    .simp only [zr k,zr u,zN p2,zN p4,zN p5,zN p3,zu,zM];rfl
   .simp only [zr k,zN u,zu,zM];rfl
  .simp only [zN k,zu,zM];rfl
theorem zGm (m:List (BitVec 64)) (base cap:Int) (o:zg):(zag m base cap o).length<=64:=by
 unfold zag;split
 .simp
 .rename_i h;unfold Xx;rw [zLq,List.length_range];omega
def u4 (x:ze):List Int:=if x.PC=33\/x.PC=34 then [x.Bin] else if x.PC=3\/x.PC=37 then wV x.G else []
def zcS (s:za) (x:ze):List Int:=if x.PC=33 then yS s x.Bin else if x.PC=36\/x.PC=38 then [x.Obj] else if x.PC=37 then x.Obj::yF x.G else if x.PC=3 then yF x.G else []
def yo (s:za) (x:ze):List Int:=x.Batch++zcS s x
structure MX (p:zd) (s:za) (gh:Gh) (x:ze):Prop where
 bt:x.PC<=33->x.Batch=[]
 bf:∀v∈x.Buf,1<=v/\v<=64
 ol:(x.PC=21->0<=x.Old/\x.Old<=64)/\(x.PC=22\/((x.PC=1\/x.PC=3)/\x.Ret=22)->1<=x.Old/\x.Old<=64)
 p3:x.PC=3->GX p s gh x.G/\x.G.Mode=2/\x.G.Out=0
 p32:x.PC=32->x.C.Out=0/\(0<=x.C.PC/\x.C.PC<=2)/\CK p s.M x.C
 p34:x.PC=34->x.C.Out=0/\(0<=x.C.PC/\x.C.PC<=2)/\x.C.X=x.Bin/\CK p s.M x.C
 p37:x.PC=37->GX p s gh x.G/\x.G.Mode=3/\x.G.Out=0
theorem MX.plain {p:zd}{s:za}{gh:Gh}{x:ze}(h:x.PC≠3/\x.PC≠32/\x.PC≠34/\x.PC≠37) (bt:x.PC<=33->x.Batch=[]) (bf:∀v∈x.Buf,1<=v/\v<=64)
  (ol:(x.PC=21->0<=x.Old/\x.Old<=64)/\(x.PC=22\/((x.PC=1\/x.PC=3)/\x.Ret=22)->1<=x.Old/\x.Old<=64)):MX p s gh x :=
 ⟨bt,bf,ol,fun e=>by omega,fun e=>by omega,fun e=>by omega,fun e=>by omega⟩
theorem uD {x:ze}(h:x.PC≠3/\x.PC≠33/\x.PC≠34/\x.PC≠37):u4 x=[]:=by unfold u4;rw [zk,zk]
theorem zeV {x:ze}(h:x.PC=33\/x.PC=34):u4 x=[x.Bin]:=by unfold u4;rw [zb h]
theorem zjn {x:ze}(h:x.PC=3\/x.PC=37):u4 x=wV x.G:=by unfold u4;rw [zk,zb h]
theorem Zs {s:za}{x:ze}(h:x.PC≠3/\x.PC≠33/\x.PC≠36/\x.PC≠37/\x.PC≠38):zcS s x=[]:=by unfold zcS;rw [zk,zk,zk,zk]
theorem zti {s:za}{x:ze}(h:x.PC=33):zcS s x=yS s x.Bin:=by unfold zcS;rw [zb h]
theorem Vi {s:za}{x:ze}(h:x.PC=36\/x.PC=38):zcS s x=[x.Obj]:=by unfold zcS;rw [zk,zb h]
theorem zpe {s:za}{x:ze}(h:x.PC=37):zcS s x=x.Obj::yF x.G:=by unfold zcS;rw [zk,zk,zb h]
theorem zpo {s:za}{x:ze}(h:x.PC=3):zcS s x=yF x.G:=by unfold zcS;rw [zk,zk,zk,zb h]
theorem MX.other {p:zd}(hp:zJ p) {nb k:Nat}{s s':za}{gh gh':Gh}{X R:List Int}{O:Int->Prop}{m:Int}{x:ze}(Y:SX p nb s gh (X++R) k) (Fx:FX p nb X O s s' gh gh') (K:MX p s gh x) (W:XOk p nb m x)
  (hR:∀b∈u4 x,b∈R):MX p s' gh' x/\yo s' x=yo s x:=by
 have hsub:∀b∈X,b∈X++R:=fun b hb=>zKO _ hb;have hnd:=(zLK.1 Y.L.nodup).2.1;have hnot:∀b,b∈u4 x->b∉X:=fun b hb hg=>(zLK.1 hnd).2.2 b hg b (hR b hb) rfl;refine ⟨⟨K.bt,K.bf,K.ol,fun e=>?_,fun e=>?_,fun e=>?_,fun e=>?_⟩,?_⟩
 .obtain ⟨a,b,c⟩:=K.p3 e;obtain ⟨M,_,_⟩:=W.g (.inl e);exact ⟨a.other hp Y Fx M (fun y hy=>hR y (by rw [zjn (.inl e)];exact hy)) (fun e2=>by omega),b,c⟩
 .obtain ⟨a,b,c⟩:=K.p32 e;have C:=W.c32 e;exact ⟨a,b,c.mv Y.L Fx.mv hsub (.inl C.h) (fun h _=>C.v h) (fun e2=>by have:=C.k;omega)⟩
 .obtain ⟨a,b,c,d⟩:=K.p34 e;have C:=W.c34 e;have hno:=hnot x.Bin (by rw [zeV (.inr e)];simp);exact ⟨a,b,c,d.mv Y.L Fx.mv hsub (.inr C.h) (fun _ e2=>by have:=C.k;omega) (fun _=>⟨C.x.1,C.x.2,by rw [c];exact hno⟩)⟩
 .obtain ⟨a,b,c⟩:=K.p37 e;obtain ⟨M,_,_⟩:=W.g (.inr e);exact ⟨a.other hp Y Fx M (fun y hy=>hR y (by rw [zjn (.inr e)];exact hy)) (fun e2=>by omega),b,c⟩
 .unfold yo;congr 1;by_cases e3:x.PC=33
  .rw [zti e3,zti e3];have hb:=W.b33 e3;have hno:=hnot x.Bin (by rw [zeV (.inl e3)];simp);unfold yS;rw [Fx.bn x.Bin hb.1 hno]
  .unfold zcS;rw [zc e3,zc e3]
def zhk (p:zd) (nb k:Nat) (R:List Int) (gh:Gh) (s:za) (x:ze) (s':za) (x':ze):Prop :=
 ∃gh',SX p nb s' gh' (u4 x'++R) (k+1)/\MX p s' gh' x'/\FX p nb (u4 x) (fun _=>False) s s' gh gh' /\
  ∃N B,zMu (yR p s' gh'++yo s' x'++B) (N++(yR p s gh++yo s x)) /\
   ((N=[]/\B=[]/\s'.T=s.T)\/(N=[x.G.Obj]/\B=[]/\(x.PC=3\/x.PC=37)/\¬(s.T.Marks|||bit x.G.Obj=s.T.Marks)/\s'.T={s.T with Marks:=s.T.Marks|||bit x.G.Obj})\/(N=[]/\B=[x.Obj]/\x.PC=38/\s'.T=wh s.T x.Obj) \/
    (N=[]/\B=[]/\x.PC=30/\Yp s.H s.P.Most=true/\s'.H=yU s.H/\s'.T=XF s.T (wc (s.H.Objs.length+1))))
theorem zhk.quiet {p:zd}{nb k:Nat}{R:List Int}{gh:Gh}{s s':za}{x x':ze}(X:SX p nb s gh (u4 x++R) k) (S':SOk p nb s') (hm:s'.M=s.M) (hb:s'.Bins=s.Bins) (hT:s'.T=s.T)
  (ho:u4 x'=u4 x) (hh:zMu (yo s' x') (yo s x)) (W':MX p s' gh x'):zhk p nb k R gh s x s' x' :=
 ⟨gh,by rw [ho];exact X.quiet S' hm,W',FX.quiet hm (fun _ _ _=>by rw [hb]),[],[],by rw [ZO hb,zKx];exact zKK _ hh,.inl ⟨rfl,rfl,hT⟩⟩
theorem zhk.calm {p:zd}{nb k:Nat}{R:List Int}{gh:Gh}{s s':za}{x x':ze}(X:SX p nb s gh (u4 x++R) k) (S':SOk p nb s') (hm:s'.M=s.M) (hb:s'.Bins=s.Bins) (hT:s'.T=s.T)
  (h:x.PC≠3/\x.PC≠33/\x.PC≠34/\x.PC≠36/\x.PC≠37/\x.PC≠38) (h':x'.PC≠3/\x'.PC≠32/\x'.PC≠33/\x'.PC≠34/\x'.PC≠36/\x'.PC≠37/\x'.PC≠38) (eb:x'.Batch=x.Batch)
  (bt:x'.PC<=33->x'.Batch=[]) (bf:∀v∈x'.Buf,1<=v/\v<=64) (ol:(x'.PC=21->0<=x'.Old/\x'.Old<=64)/\(x'.PC=22\/((x'.PC=1\/x'.PC=3)/\x'.Ret=22)->1<=x'.Old/\x'.Old<=64)):zhk p nb k R gh s x s' x':=by
 refine .quiet X S' hm hb hT ?_ ?_ (MX.plain (by omega) bt bf ol)
 .rw [uD (by omega),uD (by omega)]
 .unfold yo;rw [Zs (by omega),Zs (by omega),eb]
theorem zwt {p:zd}{s:za}{gh:Gh}{md o w:Int}(hmd:md=2\/md=3) (ho:1<=o/\o<=64):GX p s gh (YB md o w)/\(YB md o w).Mode=md/\(YB md o w).Out=0/\wV (YB md o w)=[]/\yF (YB md o w)=[]:=by
 refine ⟨GX.plain (.inl rfl) ⟨by show (0:Int)<=0;decide,by show (0:Int)<=7;decide⟩ ⟨by show 1<=md;omega,by show md<=3;omega⟩ ho (fun e=>by have e:md=1:=e;omega) (.inr ⟨by show (0:Int)≠3;decide,by show (0:Int)≠5;decide,by show (0:Int)≠7;decide⟩),rfl,rfl,
  uh (.inr ⟨by show (0:Int)≠6;decide,by show (0:Int)≠7;decide⟩),Yi (.inr (.inl (by show (0:Int)<3;decide)))⟩
theorem zKh {p:zd}(hp:zJ p) {nb k:Nat}{R:List Int}{gh:Gh}{s:za}{m:Int}{x:ze}(hk:k<4294960000) (X:SX p nb s gh (u4 x++R) k) (W:XOk p nb m x) (K:MX p s gh x) (hpl:((vJ p m).length:Int)<=64)
  (hH:∀o i,0<=zZ s.H o i/\zZ s.H o i<=64):zhk p nb k R gh s x (zn s m x).1 (zn s m x).2:=by
 have S':=(zFu hp hpl X.S W).1;have hP:=X.S.P;have eC:zdc s.P (zT s.P) x.Bin=zdc p (zT p) x.Bin:=by rw [hP]
 have hbf:=K.bf;have hol:=K.ol;revert S';refine yN (motive:=fun r=>SOk p nb r.1->zhk p nb k R gh s x r.1 r.2) s m x ?_ ?_ ?_ ?_ ?_ ?_ ?_ ?_ ?_ ?_ ?_ ?_ ?_ ?_ ?_ ?_ ?_ ?_ ?_ ?_
 .intro c;unfold mu0 YH;dsimp only;have hbt:=K.bt (by omega)
  repeat' split
  all_goals (intro S')
  all_goals (refine .calm X S' rfl rfl rfl (by omega) (by (try dsimp only [setM]);omega) rfl (fun _=>hbt) hbf ⟨fun e=>?_,fun e=>?_⟩<;>((try dsimp only [setM] at e);omega))
 .intro c;unfold mu1;dsimp only;have hbt:=K.bt (by omega);have hrt:=W.ret (.inl c);split
  .intro S';exact .calm X S' rfl rfl rfl (by omega) (by dsimp only;omega) rfl (fun _=>hbt) hbf ⟨fun e=>by dsimp only at e;omega,fun e=>by dsimp only at e ⊢;exact hol.2 (by omega)⟩
  .rename_i hl;intro S';have hv:1<=x.Buf.getD (x.Buf.length-1) 0/\x.Buf.getD (x.Buf.length-1) 0<=64:=by
    rw [zKw,zKv (show x.Buf.length-1<x.Buf.length by omega)];exact hbf _ (zKR _)
   obtain ⟨g1,g2,g3,g4,g5⟩:=zwt (p:=p) (s:=s) (gh:=gh) (w:=m) (.inl rfl) hv;refine .quiet X S' rfl rfl rfl ?_ ?_ ⟨fun _=>hbt,fun v hv=>hbf v (zLT hv),⟨fun e=>(by cases e),fun e=>?_⟩,fun _=>⟨g1,g2,g3⟩,fun e=>(by cases e),fun e=>(by cases e),fun e=>(by cases e)⟩
   .rw [uD (x:=x) (by omega),zjn (.inl rfl)];exact g4
   .unfold yo;rw [Zs (x:=x) (by omega),zpo rfl];show zMu (x.Batch++yF (YB 2 (x.Buf.getD (x.Buf.length-1) 0) m)) _;rw [g5]
   .rcases e with e | e
    .cases e
    .exact hol.2 (.inr ⟨.inl c,e.2⟩)
 .intro c S';unfold mu2 at S' ⊢;exact .calm X S' rfl rfl rfl (by omega) (by dsimp only;omega) rfl (fun _=>K.bt (by omega)) hbf ⟨fun e=>by dsimp only at e;omega,fun e=>by dsimp only at e;omega⟩
 .intro c;unfold mu3;dsimp only;have hbt:=K.bt (by omega);obtain ⟨G,gm,g0⟩:=K.p3 c;obtain ⟨M,h5o,hn1⟩:=W.g (.inl c);have eo:u4 x=wV x.G:=zjn (.inl c);have hh:yo s x=yF x.G:=by unfold yo;rw [zpo c,hbt,zKG]
  rw [eo] at X;obtain ⟨gh',X',G',Fx,hc',hFb,N,hN,hT⟩:=zE1 hp hk X M h5o G;have so:=Uv s x.G;have Fx':FX p nb (u4 x) (fun _=>False) s (zF s x.G).1 gh gh':=by rw [eo];exact Fx.mono (fun v e=>by have:=e.1;omega)
  have hT':(N=[]/\([]:List Int)=[]/\(zF s x.G).1.T=s.T)\/(N=[x.G.Obj]/\([]:List Int)=[]/\(x.PC=3\/x.PC=37)/\¬(s.T.Marks|||bit x.G.Obj=s.T.Marks)/\(zF s x.G).1.T={s.T with Marks:=s.T.Marks|||bit x.G.Obj}):=by
   rcases hT with ⟨a,b⟩ | ⟨a,b,c'⟩
   .exact .inl ⟨a,rfl,b⟩
   .exact .inr ⟨a,rfl,.inl c,b,c'⟩
  split
  .rename_i o1;intro S';have n1:wV (zF s x.G).2=[]:=uh (.inl (by omega));have n2:yF (zF s x.G).2=[]:=Yi (.inl (by omega));rw [n1] at X';refine ⟨gh',by rw [uD (by dsimp only;omega)];exact X',MX.plain (by dsimp only;omega) (fun _=>hbt) hbf ⟨fun e=>(by cases e),fun e=>?_⟩,Fx',N,[],?_,hT'.elim .inl (fun h=>.inr (.inl h))⟩
   .rcases e with e | e
    .cases e
    .exact hol.2 (.inr ⟨.inr c,e.2⟩)
   .unfold yo;rw [Zs (by dsimp only;omega),zKx,zKx];rw [n2,zKx] at hN;show zMu (yR p (zF s x.G).1 gh'++x.Batch) (N++(yR p s gh++(x.Batch++zcS s x)));rw [hbt,zpo c,zKx,zKG];exact hN
  .rename_i o1;intro S';have o0:(zF s x.G).2.Out=0:=by have:=G'.o;omega
   refine ⟨gh',by rw [zjn (x:={x with G:=(zF s x.G).2}) (.inl c)];exact X',⟨fun _=>hbt,hbf,hol,fun _=>⟨G',so.2.2.trans gm,o0⟩,fun e=>by have e:x.PC=32:=e;omega,fun e=>by have e:x.PC=34:=e;omega,fun e=>by have e:x.PC=37:=e;omega⟩,Fx',N,[],?_,hT'.elim .inl (fun h=>.inr (.inl h))⟩;unfold yo;rw [zpo (x:={x with G:=(zF s x.G).2}) c,zKx];show zMu (yR p (zF s x.G).1 gh'++(x.Batch++yF (zF s x.G).2)) (N++(yR p s gh++(x.Batch++zcS s x)));rw [hbt,zpo c,zKG,zKG];exact hN
 .intro c S';unfold zeU at S' ⊢;exact .calm X S' rfl rfl rfl (by omega) (by dsimp only [setM];omega) rfl (fun _=>K.bt (by omega)) hbf ⟨fun e=>by dsimp only [setM] at e;omega,fun e=>by dsimp only [setM] at e;omega⟩
 .intro c;unfold UP;dsimp only;have hbt:=K.bt (by omega);split
  .intro S';exact .calm X S' rfl rfl rfl (by omega) (by dsimp only [xG];omega) rfl (fun _=>hbt) hbf ⟨fun e=>by dsimp only [xG] at e;omega,fun e=>by dsimp only [xG] at e;omega⟩
  .intro S';exact .calm X S' rfl rfl rfl (by omega) (by dsimp only;omega) rfl (fun _=>hbt) hbf ⟨fun _=>hH _ _,fun e=>by dsimp only at e;omega⟩
 .intro c;unfold VR;dsimp only;have hbt:=K.bt (by omega);have h21:=hol.1 c;split
  .intro S';exact .calm X S' rfl rfl rfl (by omega) (by dsimp only;omega) rfl (fun _=>hbt) hbf ⟨fun e=>by dsimp only at e;omega,fun e=>by dsimp only at e;omega⟩
  .rename_i hn;intro S';have: ¬x.Old=0:=fun e=>hn (.inl e);exact .calm X S' rfl rfl rfl (by omega) (by dsimp only;omega) rfl (fun _=>hbt) hbf ⟨fun e=>by dsimp only at e;omega,fun e=>by dsimp only;omega⟩
 .intro c;unfold zbx;dsimp only;have hbt:=K.bt (by omega);have h22:=hol.2 (.inl c);split
  .intro S';exact .calm X S' rfl rfl rfl (by omega) (by dsimp only;omega) rfl (fun _=>hbt) hbf ⟨fun e=>by dsimp only at e;omega,fun e=>h22⟩
  .intro S';refine .calm X S' rfl rfl rfl (by omega) (by dsimp only;omega) rfl (fun _=>hbt) (fun v hv=>?_) ⟨fun e=>by dsimp only at e;omega,fun e=>by dsimp only at e;omega⟩;rcases zKS.1 hv with h | h
   .exact hbf v h
   .rw [zLf.1 h];exact h22
 .intro c S';unfold zdN at S' ⊢;exact .calm X S' rfl rfl rfl (by omega) (by dsimp only [xG];omega) rfl (fun _=>K.bt (by omega)) hbf ⟨fun e=>by dsimp only [xG] at e;omega,fun e=>by dsimp only [xG] at e;omega⟩
 .intro c;unfold Y6;have hbt:=K.bt (by omega);split
  .split
   .rename_i h1 h2;intro S';refine ⟨gh,by rw [uD (by dsimp only [setM];omega)];rw [uD (x:=x) (by omega)] at X;exact X.quiet S' rfl,MX.plain (by dsimp only [setM];omega) (fun _=>hbt) hbf ⟨fun e=>by dsimp only [setM] at e;omega,fun e=>by dsimp only [setM] at e;omega⟩,FX.quiet rfl (fun _ _ _=>rfl),[],[],?_,.inr (.inr (.inr ⟨rfl,rfl,c,h2,rfl,rfl⟩))⟩;rw [ZO rfl,zKx,zKG];unfold yo;rw [Zs (by dsimp only [setM];omega),Zs (x:=x) (by omega)];exact zKX _
   .intro S';exact .calm X S' rfl rfl rfl (by omega) (by dsimp only [xG];omega) rfl (fun _=>hbt) hbf ⟨fun e=>by dsimp only [xG] at e;omega,fun e=>by dsimp only [xG] at e;omega⟩
  .intro S';exact .calm X S' rfl rfl rfl (by omega) (by dsimp only;omega) rfl (fun _=>hbt) hbf ⟨fun e=>by dsimp only at e;omega,fun e=>by dsimp only at e;omega⟩
 .intro c;unfold zaK;dsimp only;have hbt:=K.bt (by omega);split
  .intro S';refine .quiet X S' rfl rfl rfl (by rw [uD (by dsimp only;omega),uD (x:=x) (by omega)]) ?_ ⟨fun _=>hbt,hbf,⟨fun e=>by dsimp only at e;omega,fun e=>by dsimp only at e;omega⟩,fun e=>by dsimp only at e;omega,fun _=>⟨rfl,⟨by show (0:Int)<=0;decide,by show (0:Int)<=2;decide⟩,by show CK p s.M (zE6 s.P (yt s.P) x.Bin);rw [hP];exact CK.start⟩,fun e=>by dsimp only at e;omega,fun e=>by dsimp only at e;omega⟩;unfold yo;rw [Zs (by dsimp only;omega),Zs (x:=x) (by omega)]
  .intro S';exact .calm X S' rfl rfl rfl (by omega) (by dsimp only;omega) rfl (fun _=>hbt) hbf ⟨fun e=>by dsimp only at e;omega,fun e=>by dsimp only at e;omega⟩
 .intro c;unfold zaE;dsimp only;have C:=W.c32 c;obtain ⟨c1,c2,c3⟩:=K.p32 c;have hbt:=K.bt (by omega);have eo:u4 x=[]:=uD (by omega);have hh:yo s x=[]:=by unfold yo;rw [hbt,Zs (by omega)];rfl
  have nn:∀e:x.PC=21,False:=fun e=>by omega
  intro S';have S':SOk p nb {s with M:=(zC s.M x.C).1}:=S';rcases SX.popF hp X hk C.k C.h C.n c1 c2 c3 C.v S' with ⟨a,b,cc,d⟩ | ⟨y,l,a,b,cc,d,e⟩
  .rw [zc b];have hout:=zdg s.M c1 c2 (.inr C.k);by_cases o2:(zC s.M x.C).2.Out=2
   .rw [zb o2];exact .calm X S' a rfl rfl (by omega) (by dsimp only;omega) rfl (fun _=>hbt) hbf ⟨fun e=>by dsimp only at e;omega,fun e=>by dsimp only at e;omega⟩
   .rw [zc o2];have hpc':(zC s.M x.C).2.Out=0/\0<=(zC s.M x.C).2.PC/\(zC s.M x.C).2.PC<=2:=by omega
    refine .quiet X S' a rfl rfl ?_ ?_ ⟨fun _=>hbt,hbf,hol,fun e=>by have e:x.PC=3:=e;omega,fun _=>⟨hpc'.1,hpc'.2,?_⟩,fun e=>by have e:x.PC=34:=e;omega,fun e=>by have e:x.PC=37:=e;omega⟩
    .rw [eo];exact uD (by dsimp only;omega)
    .unfold yo;rw [Zs (by dsimp only;omega),Zs (x:=x) (by omega)]
    .rw [show ({s with M:=(zC s.M x.C).1}:za).M=s.M from a];exact cc
  .rw [zb b];have e1:u4 {x with PC:=33,Bin:=(zC s.M x.C).2.X,C:=(zC s.M x.C).2}=[y]:=by rw [<-cc];exact zeV (x:={x with PC:=33,Bin:=(zC s.M x.C).2.X,C:=(zC s.M x.C).2}) (.inl rfl)
   refine ⟨{gh with F:=l},by rw [e1];rw [eo] at d;exact d,MX.plain (by dsimp only;omega) (fun _=>hbt) hbf ⟨fun e=>by dsimp only at e;omega,fun e=>by dsimp only at e;omega⟩,e _ _,[],[],?_,.inl ⟨rfl,rfl,rfl⟩⟩;rw [hh,zKx,zKx,zKG];unfold yo;rw [zti (x:={x with PC:=33,Bin:=(zC s.M x.C).2.X,C:=(zC s.M x.C).2}) rfl];show zMu (yR p s {gh with F:=l}++(x.Batch++yS s (zC s.M x.C).2.X)) _;rw [hbt,zKG,cc];have:yR p s gh=yS s y++yR p s {gh with F:=l}:=by unfold yR;rw [a];simp [zKD]
   rw [this];exact zLm
 .intro c;unfold zeW;dsimp only;intro S';have hb:=W.b33 c;have hbt:=K.bt (by omega);have eo:u4 x=[x.Bin]:=zeV (.inl c);rw [eC] at *;have e1:u4 {x with Batch:=Uo s x.Bin,PC:=34,C:=zdc p (zT p) x.Bin}=[x.Bin]:=zeV (x:={x with Batch:=Uo s x.Bin,PC:=34,C:=zdc p (zT p) x.Bin}) (.inr rfl);have hget:∀b,1<=b->b∉u4 x->(s.Bins.set x.Bin.toNat [])[b.toNat]? =s.Bins[b.toNat]? :=fun b b1 b2=>by
   rw [zKP];intro e;rw [eo] at b2;exact b2 (by rw [show b=x.Bin by omega];simp)
  refine ⟨gh,by rw [e1,<-eo];exact X.quiet S' rfl,⟨fun e=>zj e (by show ¬(34:Int)<=33;decide),hbf,⟨fun e=>by dsimp only at e;omega,fun e=>by dsimp only at e;omega⟩,fun e=>by dsimp only at e;omega,fun e=>by dsimp only at e;omega,fun _=>⟨rfl,⟨by show (0:Int)<=0;decide,by show (0:Int)<=2;decide⟩,rfl,CK.start⟩,fun e=>by dsimp only at e;omega⟩,FX.quiet rfl hget,[],[],?_,.inl ⟨rfl,rfl,rfl⟩⟩;have hbag:yR p {s with Bins:=s.Bins.set x.Bin.toNat []} gh=yR p s gh:=by
   unfold yR;congr 1;refine wW (fun b hb=>?_);have hm:=X.L.cF.mem b hb;have hno:=(X.L.notF (x:=x.Bin) (by rw [eo];simp)).1;unfold yS;rw [show ({s with Bins:=s.Bins.set x.Bin.toNat []}:za).Bins=s.Bins.set x.Bin.toNat [] from rfl,hget b hm.1 (by rw [eo];intro e;rw [zLf.1 e] at hb;exact hno hb)]
  rw [hbag,zKx,zKG];unfold yo;rw [zti c,Zs (x:={x with Batch:=Uo s x.Bin,PC:=34,C:=zdc p (zT p) x.Bin}) (by dsimp only;omega)];show zMu (yR p s gh++(Uo s x.Bin++[])) _;rw [hbt,zKx,zKG,zAu]
 .intro c;unfold zaj;dsimp only;intro S';have S':SOk p nb {s with M:=(zC s.M x.C).1}:=S';have C:=W.c34 c;obtain ⟨c1,c2,c3,c4⟩:=K.p34 c;have eo:u4 x=[x.Bin]:=zeV (.inr c);have hh:yo s x=x.Batch:=by unfold yo;rw [Zs (by omega),zKx]
  rw [eo] at X;rcases SX.pushE hp (o1:=[]) (o2:=R) (b:=x.Bin) X hk C.k C.h C.n c3 c1 c2 c4 C.v S' with ⟨a,b,cc,d⟩ | ⟨a,b,d⟩
  .rw [a,zc (by decide)];have hout:=zdg s.M c1 c2 (.inl C.k);have hsame:=zot s.M x.C;have hpc':0<=(zC s.M x.C).2.PC/\(zC s.M x.C).2.PC<=2:=by omega
   have e1:u4 {x with C:=(zC s.M x.C).2}=[x.Bin]:=zeV (x:={x with C:=(zC s.M x.C).2}) (.inr c);refine ⟨gh,by rw [e1];exact b,⟨fun e=>by have e:x.PC<=33:=e;omega,hbf,hol,fun e=>by have e:x.PC=3:=e;omega,fun e=>by have e:x.PC=32:=e;omega,fun _=>⟨a,hpc',(hsame.2.2.2 C.k).trans c3,cc⟩,fun e=>by have e:x.PC=37:=e;omega⟩,by rw [eo];exact d _ _ (by simp),[],[],?_,.inl ⟨rfl,rfl,rfl⟩⟩;rw [ZO rfl,hh,zKx];unfold yo;rw [Zs (x:={x with C:=(zC s.M x.C).2}) (by dsimp only;omega),zKx];exact zKX _
  .rw [a,zb rfl];refine ⟨{gh with E:=x.Bin::gh.E},by rw [uD (by dsimp only;omega)];exact b,MX.plain (by dsimp only;omega) (fun e=>zj e (by show ¬(35:Int)<=33;decide)) hbf ⟨fun e=>by dsimp only at e;omega,fun e=>by dsimp only at e;omega⟩,by rw [eo];exact d _ _,[],[],?_,.inl ⟨rfl,rfl,rfl⟩⟩;rw [hh,zKx];unfold yo;rw [Zs (by dsimp only;omega),zKx];exact zKX _
 .intro c;unfold zaG;dsimp only;split
  .rename_i hb;intro S';exact .calm X S' rfl rfl rfl (by omega) (by dsimp only;omega) rfl (fun _=>hb) hbf ⟨fun e=>by dsimp only at e;omega,fun e=>by dsimp only at e;omega⟩
  .rename_i o l hb;intro S';refine .quiet X S' rfl rfl rfl (by rw [uD (by dsimp only;omega),uD (x:=x) (by omega)]) ?_ (MX.plain (by dsimp only;omega) (fun e=>zj e (by show ¬(36:Int)<=33;decide)) hbf ⟨fun e=>by dsimp only at e;omega,fun e=>by dsimp only at e;omega⟩);unfold yo;rw [Vi (.inl rfl),Zs (x:=x) (by omega),hb,zKx];exact zLm
 .intro c;unfold zbZ;dsimp only;have hv:=hH x.Obj x.Slot;have eo:u4 x=[]:=uD (by omega);split
  .rcases YA s (wc (x.Slot+1)) with e | e<;>rw [e]<;>intro S'
   .refine .quiet X S' rfl rfl rfl (by rw [eo,uD (by dsimp only;omega)]) ?_ (MX.plain (by dsimp only;omega) (fun e=>zj e (by show ¬(36:Int)<=33;decide)) hbf ⟨fun e=>by dsimp only at e;omega,fun e=>by dsimp only at e;omega⟩);unfold yo;rw [Vi (.inl c),Vi (.inl rfl)]
   .refine .quiet X S' rfl rfl rfl (by rw [eo,uD (by dsimp only;omega)]) ?_ (MX.plain (by dsimp only;omega) (fun e=>zj e (by show ¬(38:Int)<=33;decide)) hbf ⟨fun e=>by dsimp only at e;omega,fun e=>by dsimp only at e;omega⟩);unfold yo;rw [Vi (.inl c),Vi (.inr rfl)]
  .rename_i hne;intro S';obtain ⟨g1,g2,g3,g4,g5⟩:=zwt (p:=p) (s:=s) (gh:=gh) (w:=m) (.inr rfl) (show 1<=zZ s.H x.Obj x.Slot/\zZ s.H x.Obj x.Slot<=64 by omega);refine .quiet X S' rfl rfl rfl ?_ ?_ ⟨fun e=>zj e (by show ¬(37:Int)<=33;decide),hbf,⟨fun e=>by dsimp only at e;omega,fun e=>by dsimp only at e;omega⟩,fun e=>by dsimp only at e;omega,fun e=>by dsimp only at e;omega,fun e=>by dsimp only at e;omega,fun _=>⟨g1,g2,g3⟩⟩
   .rw [eo,zjn (.inr rfl)];exact g4
   .unfold yo;rw [Vi (.inl c),zpe rfl];show zMu (x.Batch++x.Obj::yF (YB 3 (zZ s.H x.Obj x.Slot) m)) _;rw [g5]
 .intro c;unfold WP;dsimp only;obtain ⟨G,gm,g0⟩:=K.p37 c;obtain ⟨M,h5o,hn1⟩:=W.g (.inr c);have eo:u4 x=wV x.G:=zjn (.inr c);have hh:yo s x=x.Batch++x.Obj::yF x.G:=by unfold yo;rw [zpe c]
  rw [eo] at X;obtain ⟨gh',X',G',Fx,hc',hFb,N,hN,hT⟩:=zE1 hp hk X M h5o G;have so:=Uv s x.G;have Fx':FX p nb (u4 x) (fun _=>False) s (zF s x.G).1 gh gh':=by rw [eo];exact Fx.mono (fun v e=>by have:=e.1;omega)
  have hT':(N=[]/\([]:List Int)=[]/\(zF s x.G).1.T=s.T)\/(N=[x.G.Obj]/\([]:List Int)=[]/\(x.PC=3\/x.PC=37)/\¬(s.T.Marks|||bit x.G.Obj=s.T.Marks)/\(zF s x.G).1.T={s.T with Marks:=s.T.Marks|||bit x.G.Obj}):=by
   rcases hT with ⟨a,b⟩ | ⟨a,b,c'⟩
   .exact .inl ⟨a,rfl,b⟩
   .exact .inr ⟨a,rfl,.inr c,b,c'⟩
  have perm:∀H':List Int,H'=x.Batch++x.Obj::yF (zF s x.G).2->zMu (yR p (zF s x.G).1 gh'++H'++[]) (N++(yR p s gh++yo s x)):=by
   intro H' e;rw [e,hh,zKx];have a1:zMu (yR p (zF s x.G).1 gh'++(x.Batch++x.Obj::yF (zF s x.G).2)) ((x.Batch++[x.Obj])++(yR p (zF s x.G).1 gh'++yF (zF s x.G).2)):=by
    rw [show x.Batch++x.Obj::yF (zF s x.G).2=(x.Batch++[x.Obj])++yF (zF s x.G).2 by simp];exact zLc _ _ _
   have a2:zMu (N++(yR p s gh++(x.Batch++x.Obj::yF x.G))) ((x.Batch++[x.Obj])++(N++(yR p s gh++yF x.G))):=by
    rw [show x.Batch++x.Obj::yF x.G=(x.Batch++[x.Obj])++yF x.G by simp];exact (zKK N (zLc _ _ _)).trans (zLc _ _ _)
   exact a1.trans ((zKK _ hN).trans a2.symm)
  split
  .rename_i o1;intro S';have n1:wV (zF s x.G).2=[]:=uh (.inl (by omega));have n2:yF (zF s x.G).2=[]:=Yi (.inl (by omega));rw [n1] at X';rcases YA s x.Slot with e | e<;>rw [e]
   .refine ⟨gh',by rw [uD (by dsimp only;omega)];exact X',MX.plain (by dsimp only;omega) (fun e=>zj e (by show ¬(36:Int)<=33;decide)) hbf ⟨fun e=>by dsimp only at e;omega,fun e=>by dsimp only at e;omega⟩,Fx',N,[],perm _ ?_,hT'.elim .inl (fun h=>.inr (.inl h))⟩;unfold yo;rw [Vi (.inl rfl),n2]
   .refine ⟨gh',by rw [uD (by dsimp only;omega)];exact X',MX.plain (by dsimp only;omega) (fun e=>zj e (by show ¬(38:Int)<=33;decide)) hbf ⟨fun e=>by dsimp only at e;omega,fun e=>by dsimp only at e;omega⟩,Fx',N,[],perm _ ?_,hT'.elim .inl (fun h=>.inr (.inl h))⟩;unfold yo;rw [Vi (.inr rfl),n2]
  .rename_i o1;intro S';have o0:(zF s x.G).2.Out=0:=by have:=G'.o;omega
   refine ⟨gh',by rw [zjn (x:={x with G:=(zF s x.G).2}) (.inr c)];exact X',⟨fun e=>by have e:x.PC<=33:=e;omega,hbf,hol,fun e=>by have e:x.PC=3:=e;omega,fun e=>by have e:x.PC=32:=e;omega,fun e=>by have e:x.PC=34:=e;omega,fun _=>⟨G',so.2.2.trans gm,o0⟩⟩,Fx',N,[],perm _ ?_,hT'.elim .inl (fun h=>.inr (.inl h))⟩;unfold yo;rw [zpe (x:={x with G:=(zF s x.G).2}) c]
 .intro c S';unfold zeR at S' ⊢;have eo:u4 x=[]:=uD (by omega);refine ⟨gh,by rw [uD (by dsimp only;omega)];rw [eo] at X;exact X.quiet S' rfl,MX.plain (by dsimp only;omega) (fun e=>zj e (by show ¬(39:Int)<=33;decide)) hbf ⟨fun e=>by dsimp only at e;omega,fun e=>by dsimp only at e;omega⟩,FX.quiet rfl (fun _ _ _=>rfl),[],[x.Obj],?_,.inr (.inr (.inl ⟨rfl,rfl,c,rfl⟩))⟩;rw [ZO rfl,zKG];unfold yo;rw [Vi (.inr c),Zs (by dsimp only;omega),zKx,zKD];exact zKX _
 .intro c S';unfold zh9 at S' ⊢;exact .calm X S' rfl rfl rfl (by omega) (by dsimp only;omega) rfl (fun e=>zj e (by show ¬(35:Int)<=33;decide)) hbf ⟨fun e=>by dsimp only at e;omega,fun e=>by dsimp only at e;omega⟩
 .intro S';exact ⟨gh,X.quiet S' rfl,K,FX.quiet rfl (fun _ _ _=>rfl),[],[],by rw [zKx];exact zKX _,.inl ⟨rfl,rfl,rfl⟩⟩
theorem xO (a b:BitVec 64) (q:Int):zR (a|||b) q=true↔zR a q=true\/zR b q=true:=by
 rw [xw,xw,xw,BitVec.getLsbD_or,zLD];constructor
 .rintro ⟨h1,h2,h | h⟩
  .exact .inl ⟨h1,h2,h⟩
  .exact .inr ⟨h1,h2,h⟩
 .rintro (⟨h1,h2,h⟩ | ⟨h1,h2,h⟩)
  .exact ⟨h1,h2,.inl h⟩
  .exact ⟨h1,h2,.inr h⟩
theorem zaz (h:zt) (a i v:Int):(Zo h a i v).Objs.length=h.Objs.length:=by
 unfold Zo;split<;>simp
theorem zaZ (h:zt):(yU h).Objs.length=h.Objs.length+1:=by unfold yU;simp
theorem zwP:∀(n:Fin 10) (j:Fin 64),(xW (n.1:Int)).getLsbD j.1=decide (j.1<n.1):=by decide +kernel
theorem Xp {n:Nat}(hn:n<=9) (o:Int):zR (xW (n:Int)) o=true↔1<=o/\o<=(n:Int):=by
 rw [xw];constructor
 .rintro ⟨a,b,c⟩;have:=zwP ⟨n,by omega⟩ ⟨(o-1).toNat,by omega⟩;rw [this] at c;have:(o-1).toNat<n:=by simpa using c
  omega
 .rintro ⟨a,b⟩;have:=zwP ⟨n,by omega⟩ ⟨(o-1).toNat,by omega⟩;refine ⟨a,by omega,?_⟩;rw [this];exact zr (by show (o-1).toNat<n;omega)
theorem zFf {t:zx}{o:Int}(ho:1<=o/\o<=64) (hm: ¬zR t.Marks o=true) (hb: ¬zR t.Black o=true):wv t o=({t with Marks:=t.Marks|||bit o},true):=by
 unfold wv;rw [zc ((zc8 ho).2 hm),zb];unfold zR at hb;simpa using hb
theorem zvk {o q:Int}(h:zR (bit o) q=true):q=o:=by
 by_cases ho:1<=o/\o<=64
 .have:=(wJ 0#64 ho q).1 (by simpa using h);exact this.resolve_left (uI q)
 .unfold bit at h;rw [zc ho] at h;exact zj h (uI q)
theorem Xd {m:BitVec 64}{o q:Int}(h:zR (m|||bit o) q=true):zR m q=true\/q=o:=((xO _ _ _).1 h).imp id zvk
theorem zs9 (t:zx) (o:Int):(wh t o).Marks=t.Marks/\((wh t o).Black=t.Black\/((wh t o).Black=t.Black|||bit o/\zR t.Marks o=true)):=by
 unfold wh;split
 .rename_i h;exact ⟨rfl,.inr ⟨rfl,((uw t o).1 h).1⟩⟩
 .exact ⟨rfl,.inl rfl⟩
theorem zFy (s:za) (g:zI):(zF s g).1.T=s.T\/(zF s g).1.T=(wv s.T g.Obj).1:=by
 unfold zF;split
 .exact .inl rfl
 split
 .exact .inl rfl
 split
 .exact .inl rfl
 split
 .exact .inl rfl
 split
 .exact .inl rfl
 split
 .exact .inl rfl
 split
 .exact .inl rfl
 split
 .exact .inr rfl
 .exact .inl rfl
theorem zBC (s:za) (m:Int) (x:ze) :
  ((zn s m x).1.H.Objs.length=s.H.Objs.length/\((zn s m x).1.T=s.T\/((zn s m x).1.T=(wv s.T x.G.Obj).1/\(x.PC=3\/x.PC=37))\/(zn s m x).1.T=wh s.T x.Obj) /\
   ((zn s m x).1.L=s.L\/(∃w,(zn s m x).1.L=(zce s.L m w).1)\/(zn s m x).1.L=zda s.L m)) \/
  ((zn s m x).1.H=yU s.H/\(zn s m x).1.T=XF s.T (wc (s.H.Objs.length+1))/\(zn s m x).1.L=zcv s.L m s.P.Price/\zeN s.L m s.P.Price s.P.Limit=true/\Yp s.H s.P.Most=true):=by
 refine yN (motive:=fun r=>(r.1.H.Objs.length=s.H.Objs.length/\(r.1.T=s.T\/(r.1.T=(wv s.T x.G.Obj).1/\(x.PC=3\/x.PC=37))\/r.1.T=wh s.T x.Obj)/\(r.1.L=s.L\/(∃w,r.1.L=(zce s.L m w).1)\/r.1.L=zda s.L m)) \/
  (r.1.H=yU s.H/\r.1.T=XF s.T (wc (s.H.Objs.length+1))/\r.1.L=zcv s.L m s.P.Price/\zeN s.L m s.P.Price s.P.Limit=true/\Yp s.H s.P.Most=true)) s m x ?_ ?_ ?_ ?_ ?_ ?_ ?_ ?_ ?_ ?_ ?_ ?_ ?_ ?_ ?_ ?_ ?_ ?_ ?_ ?_
 .intro c;exact .inl ⟨rfl,.inl rfl,.inl rfl⟩
 .intro c;exact .inl ⟨rfl,.inl rfl,.inl rfl⟩
 .intro c;exact .inl ⟨rfl,.inl rfl,.inl rfl⟩
 .intro c;unfold mu3;refine .inl ⟨by rw [Zq],(zFy s x.G).imp id (fun h=>.inl ⟨h,.inl c⟩),.inl (by rw [Zq])⟩
 .intro c;exact .inl ⟨rfl,.inl rfl,.inl rfl⟩
 .intro c;exact .inl ⟨rfl,.inl rfl,.inl rfl⟩
 .intro c;exact .inl ⟨rfl,.inl rfl,.inl rfl⟩
 .intro c;exact .inl ⟨rfl,.inl rfl,.inl rfl⟩
 .intro c;exact .inl ⟨zaz _ _ _ _,.inl rfl,.inl rfl⟩
 .intro c;unfold Y6;split
  .split
   .rename_i h1 h2;exact .inr ⟨rfl,rfl,rfl,h1,h2⟩
   .exact .inl ⟨rfl,.inl rfl,.inl rfl⟩
  .exact .inl ⟨rfl,.inl rfl,.inl rfl⟩
 .intro c;exact .inl ⟨rfl,.inl rfl,.inr (.inl ⟨_,rfl⟩)⟩
 .intro c;exact .inl ⟨rfl,.inl rfl,.inl rfl⟩
 .intro c;exact .inl ⟨rfl,.inl rfl,.inl rfl⟩
 .intro c;exact .inl ⟨rfl,.inl rfl,.inl rfl⟩
 .intro c;exact .inl ⟨rfl,.inl rfl,.inl rfl⟩
 .intro c;exact .inl ⟨rfl,.inl rfl,.inl rfl⟩
 .intro c;unfold WP;refine .inl ⟨by rw [Zq],(zFy s x.G).imp id (fun h=>.inl ⟨h,.inr c⟩),.inl (by rw [Zq])⟩
 .intro c;exact .inl ⟨rfl,.inr (.inr rfl),.inr (.inr rfl)⟩
 .intro c;exact .inl ⟨rfl,.inl rfl,.inl rfl⟩
 .exact .inl ⟨rfl,.inl rfl,.inl rfl⟩
def zp8 (n:Int) (x:ze):Prop:=(∀v∈x.Buf,v<=n)/\x.Old<=n/\(x.PC=3\/x.PC=37->x.G.Obj<=n)
theorem zAI {h:zt}{n:Int}(h0:0<=n) (hv:∀l∈h.Objs,∀v∈l,v<=n) (o i:Int):zZ h o i<=n:=by
 unfold zZ;split
 .rw [zKw];cases hx:(zX h o)[i.toNat]? with
  | none=>exact h0
  | some v =>
   have hm:=zKy hx;unfold zX at hm;rw [zKw] at hm;cases hy:h.Objs[(o-1).toNat]? with
   | none=>rw [hy] at hm;cases hm
   | some l=>rw [hy] at hm;exact hv l (zKy hy) v hm
 .exact h0
def zsW (Q:Int->Prop) (x:ze):Prop:=(∀v∈x.Buf,Q v)/\Q x.Old/\(x.PC=3\/x.PC=37->Q x.G.Obj)
theorem zAB {p:zd}{nb:Nat}{s:za}{m:Int}{x:ze}(X:XOk p nb m x) {Q:Int->Prop}(h0:Q 0) (hg:∀r i,Q (zZ s.H (vX x r) i)) (hg2:x.PC=36->Q (zZ s.H x.Obj x.Slot)) (B:zsW Q x):zsW Q (zn s m x).2:=by
 obtain ⟨b1,b2,b3⟩:=B;have no:∀ {y:ze},(∀v∈y.Buf,Q v)->Q y.Old->¬(y.PC=3\/y.PC=37)->zsW Q y:=fun h1 h2 h3=>⟨h1,h2,fun e=>zj e h3⟩
 refine yN (motive:=fun r=>zsW Q r.2) s m x ?_ ?_ ?_ ?_ ?_ ?_ ?_ ?_ ?_ ?_ ?_ ?_ ?_ ?_ ?_ ?_ ?_ ?_ ?_ ?_
 .intro c;unfold mu0 YH
  repeat' split
  all_goals exact no b1 b2 (by dsimp only [setM];omega)
 .intro c;unfold mu1;dsimp only;split
  .exact no b1 b2 (by have:=X.ret (.inl c);show ¬(x.Ret=3\/x.Ret=37);omega)
  .rename_i hl;refine ⟨fun v hv=>b1 v (zLT hv),b2,fun _=>?_⟩;show Q (x.Buf.getD (x.Buf.length-1) 0);rw [zKw,zKv (show x.Buf.length-1<x.Buf.length by omega)];exact b1 _ (zKR _)
 .intro c;unfold mu2;exact no b1 b2 (by show ¬((0:Int)=3\/(0:Int)=37);decide)
 .intro c;unfold mu3;dsimp only;split
  .exact no b1 b2 (by show ¬((1:Int)=3\/(1:Int)=37);decide)
  .exact ⟨b1,b2,fun _=>by show Q (zF s x.G).2.Obj;rw [(Uv s x.G).1];exact b3 (.inl c)⟩
 .intro c;unfold zeU;exact no b1 b2 (by show ¬((0:Int)=3\/(0:Int)=37);decide)
 .intro c;unfold UP;dsimp only;split
  .exact no b1 b2 (by show ¬((0:Int)=3\/(0:Int)=37);decide)
  .exact no b1 (hg _ _) (by show ¬((21:Int)=3\/(21:Int)=37);decide)
 .intro c;unfold VR;dsimp only;split
  .exact no b1 h0 (by show ¬((23:Int)=3\/(23:Int)=37);decide)
  .exact no b1 b2 (by show ¬((22:Int)=3\/(22:Int)=37);decide)
 .intro c;unfold zbx;dsimp only;split
  .exact no b1 b2 (by show ¬((1:Int)=3\/(1:Int)=37);decide)
  .refine no (fun v hv=>?_) h0 (by show ¬((23:Int)=3\/(23:Int)=37);decide);rcases zKS.1 hv with h | h
   .exact b1 v h
   .rw [zLf.1 h];exact b2
 .intro c;unfold zdN;exact no b1 b2 (by show ¬((0:Int)=3\/(0:Int)=37);decide)
 .intro c;unfold Y6;split
  .split
   .exact no b1 b2 (by show ¬((0:Int)=3\/(0:Int)=37);decide)
   .exact no b1 b2 (by show ¬((0:Int)=3\/(0:Int)=37);decide)
  .exact no b1 b2 (by show ¬((31:Int)=3\/(31:Int)=37);decide)
 .intro c;unfold zaK;dsimp only;split
  .exact no b1 b2 (by show ¬((32:Int)=3\/(32:Int)=37);decide)
  .exact no b1 b2 (by show ¬((0:Int)=3\/(0:Int)=37);decide)
 .intro c;unfold zaE;dsimp only;split
  .exact no b1 b2 (by show ¬((33:Int)=3\/(33:Int)=37);decide)
  split
  .exact no b1 b2 (by show ¬((0:Int)=3\/(0:Int)=37);decide)
  .exact no b1 b2 (by show ¬(x.PC=3\/x.PC=37);omega)
 .intro c;unfold zeW;exact no b1 b2 (by show ¬((34:Int)=3\/(34:Int)=37);decide)
 .intro c;unfold zaj;dsimp only;split
  .exact no b1 b2 (by show ¬((35:Int)=3\/(35:Int)=37);decide)
  .exact no b1 b2 (by show ¬(x.PC=3\/x.PC=37);omega)
 .intro c;unfold zaG;dsimp only;split
  .exact no b1 b2 (by show ¬((0:Int)=3\/(0:Int)=37);decide)
  .exact no b1 b2 (by show ¬((36:Int)=3\/(36:Int)=37);decide)
 .intro c;unfold zbZ;dsimp only;split
  .exact no b1 b2 (by have:=YA s (wc (x.Slot+1));show ¬(onM s (wc (x.Slot+1))=3\/onM s (wc (x.Slot+1))=37);omega)
  .exact ⟨b1,b2,fun _=>hg2 c⟩
 .intro c;unfold WP;dsimp only;split
  .exact no b1 b2 (by have:=YA s x.Slot;show ¬(onM s x.Slot=3\/onM s x.Slot=37);omega)
  .exact ⟨b1,b2,fun _=>by show Q (zF s x.G).2.Obj;rw [(Uv s x.G).1];exact b3 (.inr c)⟩
 .intro c;unfold zeR;exact no b1 b2 (by show ¬((39:Int)=3\/(39:Int)=37);decide)
 .intro c;unfold zh9;exact no b1 b2 (by show ¬((35:Int)=3\/(35:Int)=37);decide)
 .exact ⟨b1,b2,b3⟩
theorem zGs {p:zd}{nb:Nat}{s:za}{m:Int}{x:ze}(X:XOk p nb m x) {n:Int}(h0:0<=n) (hv:∀l∈s.H.Objs,∀v∈l,v<=n) (B:zp8 n x):zp8 n (zn s m x).2 :=
 zAB (Q:=fun v=>v<=n) X h0 (fun _ _=>zAI h0 hv _ _) (fun _=>zAI h0 hv _ _) B
theorem zpQ:∀(l:List Int) (i:Nat) (v:Int),i<l.length->(l.set i v).sum=l.sum-l.getD i 0+v
 | [],i,v,h=>by simp at h
 | a::l,0,v,h=>by simp only [List.set_cons_zero,zLp,List.getD_cons_zero];omega
 | a::l,i+1,v,h=>by
  simp only [List.set_cons_succ,zLp,List.getD_cons_succ,zpQ l i v (by simpa using h)];omega
theorem zy3 {a d:Int}(h:0<=a/\a<=3):a*(d+1)=a*d+a:=by rw [Int.mul_add,Int.mul_one]
theorem zHz {a d:Int}(h:0<=a/\a<=3) (hd:0<=d/\d<=10):0<=a*d/\a*d<=30:=by
 refine ⟨Int.mul_nonneg h.1 hd.1,?_⟩;have:=Int.mul_le_mul h.2 hd.2 hd.1 (by decide:(0:Int)<=3);omega
def vd (p:zd) (s:za) (g:Gh):List Int:=yR p s g++(s.Ws.flatMap (ya s)++s.Ms.flatMap (yo s))
structure FG (p:zd) (nb k:Nat) (s:za) (gh:Gh):Prop where
 E:EOk p nb s
 X:SX p nb s gh (s.Ws.flatMap vq++s.Ms.flatMap u4) k
 W:∀(i:Nat) x,s.Ws[i]? =some x->WX p s gh ((i:Int)+1) x
 M:∀(i:Nat) x,s.Ms[i]? =some x->MX p s gh x
 B:zdb (vd p s gh) s.T
 mrk:∀o,zR s.T.Marks o=true->o<=(s.H.Objs.length:Int)
 wob:∀(i:Nat) x,s.Ws[i]? =some x->x.PC=6->x.G.Obj<=(s.H.Objs.length:Int)
 buf:∀x∈s.Ms,zp8 (s.H.Objs.length:Int) x
 bk:∀o,(p.H.Objs.length:Int)<o->o<=(s.H.Objs.length:Int)->zR s.T.Black o=true
 ne:∀y∈gh.F,yS s y≠[]
theorem FX.ne {p:zd}{nb k:Nat}{s s':za}{gh gh':Gh}{Y R:List Int}{O:Int->Prop}(X:SX p nb s gh (Y++R) k) (Fx:FX p nb Y O s s' gh gh') (h:∀y∈gh.F,yS s y≠[]):∀y∈gh'.F,yS s' y≠[]:=fun y hy =>
 (Fx.fb y hy).elim (fun hy=>by
  have h1:=zsO.1 (X.L.all.subset (zKO _ (zKO _ hy)));have h2:y∉Y:=fun e=>(X.L.notF (zKO _ e)).1 hy;have:=Fx.bn y h1.1 h2;unfold yS;rw [this];exact h y hy) id
theorem MX.state {p:zd}{s s':za}{gh:Gh}{x:ze}(W:MX p s gh x) (hm:s'.M=s.M) (hb:s'.Bins=s.Bins):MX p s' gh x :=
 ⟨W.bt,W.bf,W.ol,fun e=>⟨(W.p3 e).1.state hm hb,(W.p3 e).2⟩,by rw [hm];exact W.p32,by rw [hm];exact W.p34,fun e=>⟨(W.p37 e).1.state hm hb,(W.p37 e).2⟩⟩
theorem ziv {s s':za}{x:ze}(hb:s'.Bins=s.Bins):yo s' x=yo s x:=by
 unfold yo zcS yS;rw [hb]
def zbk (s s':za):Prop :=
 (s'.T=s.T/\s'.H.Objs.length=s.H.Objs.length) \/
 (∃o,(1<=o/\o<=(s.H.Objs.length:Int))/\¬zR s.T.Marks o=true/\s'.T={s.T with Marks:=s.T.Marks|||bit o}/\s'.H=s.H) \/
 (∃o,yB s.T o=1/\s'.T={s.T with Black:=s.T.Black|||bit o}/\s'.H=s.H) \/
 (s'.H=yU s.H/\(s.H.Objs.length:Int)<9/\s'.T=⟨s.T.Marks|||bit ((s.H.Objs.length:Int)+1),s.T.Black|||bit ((s.H.Objs.length:Int)+1)⟩)
theorem FG.tints {p:zd}{nb k:Nat}{s:za}{gh:Gh}(G:FG p nb k s gh) {s':za}(F:zbk s s') :
  (∀o,zR s'.T.Marks o=true->o<=(s'.H.Objs.length:Int))/\(∀o,(p.H.Objs.length:Int)<o->o<=(s'.H.Objs.length:Int)->zR s'.T.Black o=true):=by
 rcases F with ⟨e,h⟩ | ⟨o,ho,hn,e,h⟩ | ⟨o,ho,e,h⟩ | ⟨h,hl,e⟩
 .rw [e,h];exact ⟨G.mrk,G.bk⟩
 .rw [e,h];refine ⟨fun q hq=>?_,G.bk⟩;rcases Xd hq with hq | rfl
  .exact G.mrk q hq
  .exact ho.2
 .rw [e,h];exact ⟨G.mrk,fun q h1 h2=>(xO _ _ _).2 (.inl (G.bk q h1 h2))⟩
 .rw [e,h];have hal:=zaZ s.H;refine ⟨fun q hq=>?_,fun q h1 h2=>?_⟩
  .rcases Xd hq with hq | rfl
   .have:=G.mrk q hq;omega
   .omega
  .dsimp only;by_cases hq:q<=(s.H.Objs.length:Int)
   .exact (xO _ _ _).2 (.inl (G.bk q h1 hq))
   .have:q=(s.H.Objs.length:Int)+1:=by omega
    subst this;exact (wJ _ (by omega) _).2 (.inr rfl)
theorem FG.det {p:zd}(hp:zJ p) {nb k:Nat}{s:za}{gh:Gh}(G:FG p nb k s gh) (hd:({zV s with Epoch:=s.Epoch,Flag:=s.Flag,Done:=s.Done,Restarts:=s.Restarts,D:=s.D}:za)=s):FG p nb (k+1) (zV s) gh:=by
 have hE:=zIa hp G.E;have eM:(zV s).M=s.M:=by conv=>rhs;rw [<-hd]
 have eB:(zV s).Bins=s.Bins:=by conv=>rhs;rw [<-hd]
 have eT:(zV s).T=s.T:=by conv=>rhs;rw [<-hd]
 have eH:(zV s).H=s.H:=by conv=>rhs;rw [<-hd]
 have eW:(zV s).Ws=s.Ws:=by conv=>rhs;rw [<-hd]
 have eX:(zV s).Ms=s.Ms:=by conv=>rhs;rw [<-hd]
 refine ⟨hE,?_,?_,?_,?_,by rw [eT,eH];exact G.mrk,by rw [eW,eH];exact G.wob,by rw [eX,eH];exact G.buf,by rw [eT,eH];exact G.bk,by unfold yS;rw [eB];exact G.ne⟩
 .rw [eW,eX];exact G.X.quiet hE.S eM
 .rw [eW];exact fun i x hx=>(G.W i x hx).state eM eB
 .rw [eX];exact fun i x hx=>(G.M i x hx).state eM eB
 .have e:vd p (zV s) gh=vd p s gh:=by
   unfold vd;rw [eW,eX,ZO eB,wW (fun x _=>zie (x:=x) eM eB),wW (fun x _=>ziv (x:=x) eB)]
  rw [e,eT];exact G.B
theorem FG.worker {p:zd}(hp:zJ p) {nb k:Nat}{s:za}{gh:Gh}(hk:k<4294960000) (G:FG p nb k s gh) {w:Int}(hw:1<=w/\w<=p.Workers) (hd:s.Done=false):∃gh',FG p nb (k+1) (zP s w) gh'/\zbk s (zP s w) /\
  ∃x,s.Ws[(w-1).toNat]? =some x/\∃N C,zMu (vd p (zP s w) gh'++C) (N++vd p s gh)/\((N=[]/\C=[]/\(zB s w x).1.T=s.T)\/(N=[x.G.Obj]/\C=[]/\x.PC=6/\¬(s.T.Marks|||bit x.G.Obj=s.T.Marks)/\(zB s w x).1.T={s.T with Marks:=s.T.Marks|||bit x.G.Obj})\/(N=[]/\C=[x.Obj]/\x.PC=8/\(zB s w x).1.T=wh s.T x.Obj)):=by
 have hE:=zBU hp G.E w;have hwl:=G.E.wl;have e0: ¬(s.Done=true\/w<1\/(s.Ws.length:Int)<w):=by rw [hd];rintro (e | e | e)<;>first | cases e | omega
 revert hE;unfold zP;rw [zc e0];have hi:(w-1).toNat<s.Ws.length:=by omega
 have hx:=zKv hi;generalize s.Ws[(w-1).toNat]=x at hx;rw [hx];dsimp only;intro hE;obtain ⟨a,b,el,es,hab,hba⟩:=zB1 hx;have ei:(((w-1).toNat:Nat):Int)+1=w:=by omega
 have hWX:=G.W _ x hx;have hWO:=G.E.W _ x hx;rw [ei] at hWX hWO;have hfr:=zfI (s:=s) hWO;have eH:(zB s w x).1.H=s.H:=by rw [hfr]
 have eMs:(zB s w x).1.Ms=s.Ms:=by rw [hfr]
 have X0:SX p nb s gh (vq x++((a++b).flatMap vq++s.Ms.flatMap u4)) k:=by
  refine G.X.perm ?_;rw [<-zKD];refine zL2 _ ?_
  conv=>rhs;rw [el]
  exact Uf.symm
 obtain ⟨gh',X',W',Fx,N,C,hN,hT⟩:=zJZ hp hk hw X0 hWO hWX (fun o i=>G.E.H.get hp o i);have hoth:∀(j:Nat) y,j≠(w-1).toNat->s.Ws[j]? =some y->WX p (zB s w x).1 gh' ((j:Int)+1) y/\ya (zB s w x).1 y=ya s y:=by
  intro j y hj hy;have hjl:=(zKC.1 hy).1;exact WX.other hp (w:=(j:Int)+1) (by omega) X0 Fx (G.W j y hy) (G.E.W j y hy) (fun z hz=>zKO _ (zMd.2 ⟨y,hba j y hj hy,hz⟩)) (fun e=>hj (by omega))
 have hmut:∀(j:Nat) y,s.Ms[j]? =some y->MX p (zB s w x).1 gh' y/\yo (zB s w x).1 y=yo s y:=by
  intro j y hy;exact MX.other hp X0 Fx (G.M j y hy) (G.E.X j y hy) (fun z hz=>zK2 _ (zMd.2 ⟨y,zKy hy,hz⟩))
 have hbag:zMu (vd p {(zB s w x).1 with Ws:=s.Ws.set (w-1).toNat (zB s w x).2} gh'++C) (N++vd p s gh):=by
  unfold vd;have q2:(s.Ws.set (w-1).toNat (zB s w x).2).flatMap (ya {(zB s w x).1 with Ws:=s.Ws.set (w-1).toNat (zB s w x).2})=(a++(zB s w x).2::b).flatMap (ya (zB s w x).1):=by
   rw [es];exact wW (fun y _=>zie rfl rfl)
  have q3:(a++b).flatMap (ya (zB s w x).1)=(a++b).flatMap (ya s):=wW (fun y hy=>by
   obtain ⟨j,hj,hjy⟩:=hab y hy;exact (hoth j y hj hjy).2)
  have q4:(zB s w x).1.Ms.flatMap (yo {(zB s w x).1 with Ws:=s.Ws.set (w-1).toNat (zB s w x).2})=s.Ms.flatMap (yo s):=by
   rw [eMs];refine wW (fun y hy=>?_);obtain ⟨j,hj⟩:=zLA.1 hy;exact (ziv (s:=(zB s w x).1) rfl).trans (hmut j y hj).2
  show zMu (yR p (zB s w x).1 gh'++((s.Ws.set (w-1).toNat (zB s w x).2).flatMap (ya {(zB s w x).1 with Ws:=s.Ws.set (w-1).toNat (zB s w x).2})++(zB s w x).1.Ms.flatMap (yo {(zB s w x).1 with Ws:=s.Ws.set (w-1).toNat (zB s w x).2}))++C) _;rw [q2,q4];have r1:zMu (yR p (zB s w x).1 gh'++((a++(zB s w x).2::b).flatMap (ya (zB s w x).1)++s.Ms.flatMap (yo s))++C) (((a++b).flatMap (ya s)++s.Ms.flatMap (yo s))++(yR p (zB s w x).1 gh'++ya (zB s w x).1 (zB s w x).2++C)):=by
   refine ((zKK _ (zL2 _ Uf)).append_right C).trans ?_;rw [q3];generalize (a++b).flatMap (ya s)=u;generalize s.Ms.flatMap (yo s)=v;generalize yR p (zB s w x).1 gh'=y;generalize ya (zB s w x).1 (zB s w x).2=z;have:zMu (y++(z++(u++v))++C) ((u++v)++(y++z++C)):=by
    generalize u++v=q;rw [zKD,zKD,zKD];refine (zKK _ (zLc _ _ _)).trans ?_;exact (zLc _ _ _)
   rw [zKD z u v];exact this
  have r2:zMu (N++(yR p s gh++(s.Ws.flatMap (ya s)++s.Ms.flatMap (yo s)))) (((a++b).flatMap (ya s)++s.Ms.flatMap (yo s))++(N++(yR p s gh++ya s x))):=by
   conv=>lhs;rw [el]
   refine (zKK _ (zKK _ (zL2 _ Uf))).trans ?_;generalize (a++b).flatMap (ya s)=u;generalize s.Ms.flatMap (yo s)=v;generalize yR p s gh=y;generalize ya s x=z;rw [zKD z u v];generalize u++v=q;refine (zKK _ ?_).trans (zLc _ _ _);rw [<-zKD];exact zLm
  exact r1.trans ((zKK _ hN).trans r2.symm)
 have hFM:zbk s {(zB s w x).1 with Ws:=s.Ws.set (w-1).toNat (zB s w x).2}/\zdb (vd p {(zB s w x).1 with Ws:=s.Ws.set (w-1).toNat (zB s w x).2} gh') (zB s w x).1.T:=by
  rcases hT with ⟨e1,e2,t1⟩ | ⟨e1,e2,t1,t2,t3⟩ | ⟨e1,e2,t1,t2⟩
  .rw [e1,e2,zKx,zKG] at hbag;refine ⟨.inl ⟨t1,congrArg (fun h:zt=>h.Objs.length) eH⟩,⟨?_,hbag.nodup_iff.2 G.B.nd,fun o=>?_⟩⟩
   .rw [t1];exact G.B.blk
   .rw [t1,hbag.mem_iff];exact G.B.gr o
  .have ho:=((hWX.p6 t1).1).ob;rw [e1,e2,zKx] at hbag;refine ⟨.inr (.inl ⟨x.G.Obj,⟨ho.1,G.wob _ x hx t1⟩,(zc8 ho).1 t2,t3,eH⟩),?_⟩;rw [t3];exact G.B.more ho t2 hbag
  .rw [e1,e2,zKG] at hbag;obtain ⟨b1,b2,b3,b4⟩:=G.B.less hbag;refine ⟨.inr (.inr (.inl ⟨x.Obj,b3,?_,eH⟩)),by rw [t2];exact b1⟩;show (zB s w x).1.T=_;rw [t2];unfold wh;rw [zb b3]
 obtain ⟨hFM,hB⟩:=hFM;obtain ⟨t1,t2⟩:=G.tints hFM;refine ⟨gh',⟨hE,?_,fun j y hy=>?_,fun j y hy=>?_,hB,t1,fun j y hy h6=>?_,fun y hy=>?_,t2,fun y hy=>show yS (zB s w x).1 y≠[] from FX.ne X0 Fx G.ne y hy⟩,hFM,x,rfl,N,C,hbag,hT⟩
 .refine (X'.state hE.S rfl).perm ?_;show zMu ((s.Ws.set (w-1).toNat (zB s w x).2).flatMap vq++(zB s w x).1.Ms.flatMap u4) _;rw [es,eMs,<-zKD];exact zL2 _ Uf
 .have hy:(s.Ws.set (w-1).toNat (zB s w x).2)[j]? =some y:=hy;by_cases hj:j=(w-1).toNat
  .subst hj;rw [zLb hi] at hy;injection hy with hy;rw [<-hy,ei];exact W'.state rfl rfl
  .rw [zKP (fun e=>hj e.symm)] at hy;exact (hoth j y hj hy).1.state rfl rfl
 .have hy:(zB s w x).1.Ms[j]? =some y:=hy;rw [eMs] at hy;exact (hmut j y hy).1.state rfl rfl
 .have hy:(s.Ws.set (w-1).toNat (zB s w x).2)[j]? =some y:=hy;show y.G.Obj<=((zB s w x).1.H.Objs.length:Int);rw [eH];by_cases hj:j=(w-1).toNat
  .subst hj;rw [zLb hi] at hy;injection hy with hy;rw [<-hy] at h6 ⊢;rcases zAz s w x h6 with ⟨h,e⟩ | ⟨h,e⟩
   .rw [e];exact G.wob _ x hx h
   .rw [e];exact zAI (by omega) (fun l hl v hv=>((G.E.H.objs l hl).2 v hv).2) _ _
  .rw [zKP (fun e=>hj e.symm)] at hy;exact G.wob j y hy h6
 .have hy:y∈(zB s w x).1.Ms:=hy;show zp8 ((zB s w x).1.H.Objs.length:Int) y;rw [eMs] at hy;rw [eH];exact G.buf y hy
theorem zuz (s:za) (m:Int) (x:ze):(zn s m x).1.H=s.H\/x.PC=23\/x.PC=30:=by
 refine yN (motive:=fun r=>r.1.H=s.H\/x.PC=23\/x.PC=30) s m x ?_ ?_ ?_ ?_ ?_ ?_ ?_ ?_ ?_ ?_ ?_ ?_ ?_ ?_ ?_ ?_ ?_ ?_ ?_ ?_
 all_goals first
  | exact fun _=>.inl rfl
  | exact fun c=>.inr (.inl c)
  | exact fun c=>.inr (.inr c)
  | (intro c;unfold mu3;exact .inl (by dsimp only;rw [Zq]))
  | (intro c;unfold WP;exact .inl (by dsimp only;rw [Zq]))
  | exact .inl rfl
theorem zmK {t:zx}{n:Int}(hn:1<=n/\n<=64) (nm: ¬zR t.Marks n=true) (nb': ¬zR t.Black n=true):XF t n=⟨t.Marks|||bit n,t.Black|||bit n⟩:=by
 have ht1:yB {t with Marks:=t.Marks|||bit n} n=1:=(uw _ _).2 ⟨(wJ _ hn _).2 (.inr rfl),nb'⟩;unfold XF;rw [zFf hn nm nb'];dsimp only;rw [zb rfl];unfold wh;rw [zb ht1]
theorem zdb.fresh {B B':List Int}{t:zx}{n:Int}(hn:1<=n/\n<=64) (nm: ¬zR t.Marks n=true) (K:zdb B t) (h:zMu B' B):zdb B' ⟨t.Marks|||bit n,t.Black|||bit n⟩:=by
 refine ⟨fun o ho=>?_,h.nodup_iff.2 K.nd,fun o=>?_⟩
 .rcases (wJ _ hn o).1 ho with h | h
  .exact (wJ _ hn o).2 (.inl (K.blk o h))
  .exact (wJ _ hn o).2 (.inr h)
 .rw [h.mem_iff,K.gr,uw,uw];dsimp only;rw [wJ _ hn,wJ _ hn];constructor
  .rintro ⟨a1,a2⟩;refine ⟨.inl a1,fun e=>e.elim a2 (fun e=>?_)⟩;rw [e] at a1;exact nm a1
  .rintro ⟨a1,a2⟩;exact ⟨a1.resolve_right (fun e=>a2 (.inr e)),fun e=>a2 (.inl e)⟩
theorem FG.mut_tint {p:zd}(hp:zJ p) {nb k:Nat}{s:za}{gh:Gh}(G:FG p nb k s gh) {m:Int}{x:ze}(hMX:MX p s gh x) (hBI:zp8 (s.H.Objs.length:Int) x) {l:List ze}{N C B':List Int}
  (hbag:zMu (B'++C) (N++vd p s gh))
  (hT:(N=[]/\C=[]/\(zn s m x).1.T=s.T)\/(N=[x.G.Obj]/\C=[]/\(x.PC=3\/x.PC=37)/\¬(s.T.Marks|||bit x.G.Obj=s.T.Marks)/\(zn s m x).1.T={s.T with Marks:=s.T.Marks|||bit x.G.Obj})\/(N=[]/\C=[x.Obj]/\x.PC=38/\(zn s m x).1.T=wh s.T x.Obj) \/
   (N=[]/\C=[]/\x.PC=30/\Yp s.H s.P.Most=true/\(zn s m x).1.H=yU s.H/\(zn s m x).1.T=XF s.T (wc (s.H.Objs.length+1)))) :
  zbk s {(zn s m x).1 with Ms:=l}/\zdb B' (zn s m x).1.T:=by
 have hN0:=G.E.H.n;have hM0:=hp.most;have hn6:=hp.n;have nm: ¬zR s.T.Marks ((s.H.Objs.length:Int)+1)=true:=fun e=>by have:=G.mrk _ e;omega
 have nb': ¬zR s.T.Black ((s.H.Objs.length:Int)+1)=true:=fun e=>nm (G.B.blk _ e);have hw:wc ((s.H.Objs.length:Int)+1)=(s.H.Objs.length:Int)+1:=xq;rcases hT with ⟨e1,e2,t1⟩ | ⟨e1,e2,t1,t2,t3⟩ | ⟨e1,e2,t1,t2⟩ | ⟨e1,e2,t1,t2,t3,t4⟩
 .rw [e1,e2,zKx,zKG] at hbag;refine ⟨.inl ⟨t1,?_⟩,⟨?_,hbag.nodup_iff.2 G.B.nd,fun o=>?_⟩⟩
  .show (zn s m x).1.H.Objs.length=_;rcases zBC s m x with h | ⟨h1,h2,_,_,h5⟩
   .exact h.1
   .exfalso;rw [t1,hw,zmK (by omega) nm nb'] at h2;have h3:=congrArg zx.Marks h2;exact nm (by rw [h3];exact (wJ _ (by omega) _).2 (.inr rfl))
  .rw [t1];exact G.B.blk
  .rw [t1,hbag.mem_iff];exact G.B.gr o
 .have ho:1<=x.G.Obj/\x.G.Obj<=64:=by
   rcases t1 with h | h
   .exact (hMX.p3 h).1.ob
   .exact (hMX.p37 h).1.ob
  rw [e1,e2,zKx] at hbag;have eH:(zn s m x).1.H=s.H:=by
   rcases zuz s m x with h | h | h
   .exact h
   .omega
   .omega
  refine ⟨.inr (.inl ⟨x.G.Obj,⟨ho.1,hBI.2.2 t1⟩,(zc8 ho).1 t2,t3,eH⟩),?_⟩;rw [t3];exact G.B.more ho t2 hbag
 .rw [e1,e2,zKG] at hbag;obtain ⟨b1,b2,b3,b4⟩:=G.B.less hbag;have eH:(zn s m x).1.H=s.H:=by
   rcases zuz s m x with h | h | h
   .exact h
   .omega
   .omega
  refine ⟨.inr (.inr (.inl ⟨x.Obj,b3,?_,eH⟩)),by rw [t2];exact b1⟩;show (zn s m x).1.T=_;rw [t2];unfold wh;rw [zb b3]
 .rw [e1,e2,zKx,zKG] at hbag;have hr:(s.H.Objs.length:Int)<s.P.Most:=by
   unfold Yp at t2;simp only [zKu,decide_eq_true_eq] at t2;exact t2.1
  rw [G.E.S.P] at hr;have hTT:(zn s m x).1.T=⟨s.T.Marks|||bit ((s.H.Objs.length:Int)+1),s.T.Black|||bit ((s.H.Objs.length:Int)+1)⟩:=by
   rw [t4,hw,zmK (by omega) nm nb']
  refine ⟨.inr (.inr (.inr ⟨t3,by omega,hTT⟩)),?_⟩;rw [hTT];exact G.B.fresh (by omega) nm hbag
theorem FG.mutator {p:zd}(hp:zJ p) {nb k:Nat}{s:za}{gh:Gh}(hk:k<4294960000) (G:FG p nb k s gh) {m:Int}(hm:1<=m/\m<=p.Mutators) (hd:s.Done=false):∃gh',FG p nb (k+1) (zG s m) gh'/\zbk s (zG s m) /\
  ∃x,s.Ms[(m-1).toNat]? =some x/\∃N C,zMu (vd p (zG s m) gh'++C) (N++vd p s gh)/\((N=[]/\C=[]/\(zn s m x).1.T=s.T)\/(N=[x.G.Obj]/\C=[]/\(x.PC=3\/x.PC=37)/\¬(s.T.Marks|||bit x.G.Obj=s.T.Marks)/\(zn s m x).1.T={s.T with Marks:=s.T.Marks|||bit x.G.Obj})\/(N=[]/\C=[x.Obj]/\x.PC=38/\(zn s m x).1.T=wh s.T x.Obj) \/
   (N=[]/\C=[]/\x.PC=30/\Yp s.H s.P.Most=true/\(zn s m x).1.H=yU s.H/\(zn s m x).1.T=XF s.T (wc (s.H.Objs.length+1)))):=by
 have hE:=zy1 hp G.E m;have hml:=G.E.ml;have hwl:=G.E.wl;have hN0:=G.E.H.n;have hM0:=hp.most;have hn6:=hp.n;have e0: ¬(s.Done=true\/m<1\/(s.Ms.length:Int)<m):=by rw [hd];rintro (e | e | e)<;>first | cases e | omega
 revert hE;unfold zG;rw [zc e0];have hi:(m-1).toNat<s.Ms.length:=by omega
 have hx:=zKv hi;generalize s.Ms[(m-1).toNat]=x at hx;rw [hx];dsimp only;intro hE;obtain ⟨a,b,el,es,hab,hba⟩:=zB1 hx;have ei:(((m-1).toNat:Nat):Int)+1=m:=by omega
 have hMX:=G.M _ x hx;have hXO:=G.E.X _ x hx;rw [ei] at hXO;have hBI:=G.buf x (zKy hx);have hfr:=zcC s m x;have eWs:(zn s m x).1.Ws=s.Ws:=by rw [hfr]
 have X0:SX p nb s gh (u4 x++((a++b).flatMap u4++s.Ws.flatMap vq)) k:=by
  refine G.X.perm ?_;rw [<-zKD];refine List.Perm.trans (zL2 _ ?_) zLm
  conv=>rhs;rw [el]
  exact Uf.symm
 obtain ⟨gh',X',M',Fx,N,C,hN,hT⟩:=zKh hp hk X0 hXO hMX (zw4 hp m) (fun o i=>G.E.H.get hp o i);have hoth:∀(j:Nat) y,j≠(m-1).toNat->s.Ms[j]? =some y->MX p (zn s m x).1 gh' y/\yo (zn s m x).1 y=yo s y:=by
  intro j y hj hy;exact MX.other hp X0 Fx (G.M j y hy) (G.E.X j y hy) (fun z hz=>zKO _ (zMd.2 ⟨y,hba j y hj hy,hz⟩))
 have hwrk:∀(j:Nat) y,s.Ws[j]? =some y->WX p (zn s m x).1 gh' ((j:Int)+1) y/\ya (zn s m x).1 y=ya s y:=by
  intro j y hy;have hjl:=(zKC.1 hy).1;exact WX.other hp (w:=(j:Int)+1) (by omega) X0 Fx (G.W j y hy) (G.E.W j y hy) (fun z hz=>zK2 _ (zMd.2 ⟨y,zKy hy,hz⟩)) (fun e=>e)
 have hbag:zMu (vd p {(zn s m x).1 with Ms:=s.Ms.set (m-1).toNat (zn s m x).2} gh'++C) (N++vd p s gh):=by
  unfold vd;have q2:(s.Ms.set (m-1).toNat (zn s m x).2).flatMap (yo {(zn s m x).1 with Ms:=s.Ms.set (m-1).toNat (zn s m x).2})=(a++(zn s m x).2::b).flatMap (yo (zn s m x).1):=by
   rw [es];exact wW (fun y _=>ziv rfl)
  have q3:(a++b).flatMap (yo (zn s m x).1)=(a++b).flatMap (yo s):=wW (fun y hy=>by
   obtain ⟨j,hj,hjy⟩:=hab y hy;exact (hoth j y hj hjy).2)
  have q4:(zn s m x).1.Ws.flatMap (ya {(zn s m x).1 with Ms:=s.Ms.set (m-1).toNat (zn s m x).2})=s.Ws.flatMap (ya s):=by
   rw [eWs];refine wW (fun y hy=>?_);obtain ⟨j,hj⟩:=zLA.1 hy;exact (zie (s:=(zn s m x).1) rfl rfl).trans (hwrk j y hj).2
  show zMu (yR p (zn s m x).1 gh'++((zn s m x).1.Ws.flatMap (ya {(zn s m x).1 with Ms:=s.Ms.set (m-1).toNat (zn s m x).2})++(s.Ms.set (m-1).toNat (zn s m x).2).flatMap (yo {(zn s m x).1 with Ms:=s.Ms.set (m-1).toNat (zn s m x).2}))++C) _;rw [q2,q4];have r1:zMu (yR p (zn s m x).1 gh'++(s.Ws.flatMap (ya s)++(a++(zn s m x).2::b).flatMap (yo (zn s m x).1))++C) ((s.Ws.flatMap (ya s)++(a++b).flatMap (yo s))++(yR p (zn s m x).1 gh'++yo (zn s m x).1 (zn s m x).2++C)):=by
   refine ((zKK _ (zKK _ Uf)).append_right C).trans ?_;rw [q3];generalize (a++b).flatMap (yo s)=u;generalize s.Ws.flatMap (ya s)=v;generalize yR p (zn s m x).1 gh'=y;generalize yo (zn s m x).1 (zn s m x).2=z;refine ((zKK y (zLc v z u)).append_right C).trans ?_;generalize v++u=q;rw [zKD,zKD,zKD];refine (zKK _ (zLc _ _ _)).trans ?_;exact (zLc _ _ _)
  have r2:zMu (N++(yR p s gh++(s.Ws.flatMap (ya s)++s.Ms.flatMap (yo s)))) ((s.Ws.flatMap (ya s)++(a++b).flatMap (yo s))++(N++(yR p s gh++yo s x))):=by
   conv=>lhs;rw [el]
   refine (zKK _ (zKK _ (zKK _ Uf))).trans ?_;generalize (a++b).flatMap (yo s)=u;generalize s.Ws.flatMap (ya s)=v;generalize yR p s gh=y;generalize yo s x=z;refine (zKK N (zKK y (zLc v z u))).trans ?_;generalize v++u=q;refine (zKK _ ?_).trans (zLc _ _ _);rw [<-zKD];exact zLm
  exact r1.trans ((zKK _ hN).trans r2.symm)
 have hlen:(zn s m x).1.H.Objs.length=s.H.Objs.length\/(zn s m x).1.H=yU s.H:=by
  rcases zBC s m x with h | h
  .exact .inl h.1
  .exact .inr h.1
 have hFM:=G.mut_tint hp (m:=m) (l:=s.Ms.set (m-1).toNat (zn s m x).2) hMX hBI hbag hT;obtain ⟨hFM,hB⟩:=hFM;obtain ⟨t1,t2⟩:=G.tints hFM;have hN1:(s.H.Objs.length:Int)<=((zn s m x).1.H.Objs.length:Int):=by
  rcases hlen with h | h
  .omega
  .rw [h,zaZ];omega
 have B':=zGs (s:=s) hXO (n:=(s.H.Objs.length:Int)) (by omega) (fun l hl v hv=>((G.E.H.objs l hl).2 v hv).2) hBI;refine ⟨gh',⟨hE,?_,fun j y hy=>?_,fun j y hy=>?_,hB,t1,fun j y hy h6=>?_,fun y hy=>?_,t2,fun y hy=>show yS (zn s m x).1 y≠[] from FX.ne X0 Fx G.ne y hy⟩,hFM,x,rfl,N,C,hbag,hT⟩
 .refine (X'.state hE.S rfl).perm ?_;show zMu ((zn s m x).1.Ws.flatMap vq++(s.Ms.set (m-1).toNat (zn s m x).2).flatMap u4) _;rw [es,eWs,<-zKD];exact zLm.trans (zL2 _ Uf)
 .have hy:(zn s m x).1.Ws[j]? =some y:=hy;rw [eWs] at hy;exact (hwrk j y hy).1.state rfl rfl
 .have hy:(s.Ms.set (m-1).toNat (zn s m x).2)[j]? =some y:=hy;by_cases hj:j=(m-1).toNat
  .subst hj;rw [zLb hi] at hy;injection hy with hy;rw [<-hy];exact M'.state rfl rfl
  .rw [zKP (fun e=>hj e.symm)] at hy;exact (hoth j y hj hy).1.state rfl rfl
 .have hy:(zn s m x).1.Ws[j]? =some y:=hy;rw [eWs] at hy;have:=G.wob j y hy h6;show y.G.Obj<=((zn s m x).1.H.Objs.length:Int);omega
 .have up:∀ {z:ze},zp8 (s.H.Objs.length:Int) z->zp8 ((zn s m x).1.H.Objs.length:Int) z:=fun ⟨a,b,c⟩=>⟨fun v hv=>by have:=a v hv;omega,by omega,fun e=>by have:=c e;omega⟩
  rcases zLj (show y∈s.Ms.set (m-1).toNat (zn s m x).2 from hy) with h | rfl
  .exact up (G.buf y h)
  .exact up B'
theorem zF0 {p:zd}(h:zJ p):FG p (yh p+1) 0 (xk p) (gh0 p):=by
 have G:=zJH h;have hn:=h.n;have hms:∀x∈(xk p).Ms,∃r,x=wp r:=fun x hx=>by
  obtain ⟨r,_,e⟩:=zKE.1 (show x∈p.Regs.map wp from hx);exact ⟨r,e.symm⟩
 have own:(xk p).Ms.flatMap u4=[]:=zcF (fun x hx=>by
  obtain ⟨r,rfl⟩:=hms x hx;exact uD ⟨by show (0:Int)≠3;decide,by show (0:Int)≠33;decide,by show (0:Int)≠34;decide,by show (0:Int)≠37;decide⟩)
 have hold:(xk p).Ms.flatMap (yo (xk p))=[]:=zcF (fun x hx=>by
  obtain ⟨r,rfl⟩:=hms x hx;unfold yo;rw [Zs ⟨by show (0:Int)≠3;decide,by show (0:Int)≠33;decide,by show (0:Int)≠36;decide,by show (0:Int)≠37;decide,by show (0:Int)≠38;decide⟩];rfl)
 refine ⟨G.E,by rw [own,zKx];exact G.X,G.W,fun i x hx=>?_,?_,fun o ho=>?_,fun i x hx h6=>?_,fun x hx=>?_,fun o h1 h2=>?_,zJJ h⟩
 .obtain ⟨r,rfl⟩:=hms x (zKy hx);exact MX.plain ⟨by show (0:Int)≠3;decide,by show (0:Int)≠32;decide,by show (0:Int)≠34;decide,by show (0:Int)≠37;decide⟩ (fun _=>rfl) (fun v hv=>by cases hv)
   ⟨fun e=>zj e (by show ¬(0:Int)=21;decide),fun e=>zj e (by show ¬((0:Int)=22\/(((0:Int)=1\/(0:Int)=3)/\(0:Int)=22));decide)⟩
 .have e:vd p (xk p) (gh0 p)=zEQ p (xk p) (gh0 p):=by unfold vd zEQ;rw [hold,zKx]
  rw [e];exact G.B
 .have ho:zR (uB p) o=true:=ho;show o<=(p.H.Objs.length:Int);refine Int.not_lt.1 fun hlt=>?_;obtain ⟨a,b,_⟩:=(xw _ _).1 ho;have b2: ¬zR (xW (p.H.Objs.length:Int)) o=true:=fun e=>by
   have:=(Xp (n:=p.H.Objs.length) (by omega) o).1 e;omega
  have b3:=(ZC _ _ o).2 ⟨ho,(ze1 _ (by omega)).2 b2⟩;rw [zo4 h] at b3;exact uI o b3
 .obtain ⟨j,_,e⟩:=zKE.1 (show x∈(zMt p.Workers.toNat).map (ub p) from zKy hx);rw [<-e] at h6;exact zj h6 (by show ¬(0:Int)=6;decide)
 .obtain ⟨r,rfl⟩:=hms x hx;exact ⟨fun v hv=>(by cases hv),(by show (0:Int)<=(p.H.Objs.length:Int);omega),fun e=>zj e (by show ¬((0:Int)=3\/(0:Int)=37);decide)⟩
 .have:o<=(p.H.Objs.length:Int):=h2;omega
theorem FG.grey {p:zd}{nb k:Nat}{s:za}{gh:Gh}(G:FG p nb k s gh) {o:Int}(h:o∈vd p s gh):yB s.T o=1:=(G.B.gr o).1 h
theorem zfU {p:zd}{s:za}{gh:Gh}{i:Nat}{x:zi}(hx:s.Ws[i]? =some x) {o:Int}(h:o∈ya s x):o∈vd p s gh :=
 zK2 _ (zKO _ (zMd.2 ⟨x,zKy hx,h⟩))
theorem zd5 {p:zd}{s:za}{gh:Gh}{i:Nat}{x:ze}(hx:s.Ms[i]? =some x) {o:Int}(h:o∈yo s x):o∈vd p s gh :=
 zK2 _ (zK2 _ (zMd.2 ⟨x,zKy hx,h⟩))
theorem zcx {l:List Int}(h:l.length<4294967296):yX l=some (Z9 l,()):=by
 rw [zz6,zy0 h];rfl
theorem zqP (g:zI) (h:1<=g.Obj):∃v,ZY g=some (v,())/\zfF [v]=some (yF g,()):=by
 rw [zv9,zlX];simp only [zp];have z:zfF [0]=some ([],()):=by rw [zBv];rfl
 unfold yF;by_cases c1:g.Out=0
 .rw [zb c1];by_cases c2:3<=g.PC
  .rw [zb c2];by_cases c3:g.PC<=7
   .rw [zb c3,zb ⟨c1,c2,c3⟩];refine ⟨g.Obj,rfl,?_⟩;rw [zBv];unfold zw8;have:decide (g.Obj=0)=false:=zN (by omega);simp [this]
   .rw [zc c3,zc (fun e=>c3 e.2.2)];exact ⟨0,rfl,z⟩
  .rw [zc c2,zc (fun e=>c2 e.2.1)];exact ⟨0,rfl,z⟩
 .rw [zc c1,zc (fun e=>c1 e.1)];exact ⟨0,rfl,z⟩
theorem zHJ {m:List (BitVec 64)}{p:zd}(hc:p.Cap<1000) (w:Int) (o:zg) {l:List Int}(hl:l.length<4000000) :
  ((xL p w).bind fun y5=>(wM m y5.1 p.Cap o).bind fun y6=>(yD (l++y6.1)).bind fun l7=>(yX l7).bind fun y8=>some (y8.1,()))=some (Z9 (l++zag m (z6 p w) p.Cap o),()):=by
 have hi:=zGm m (z6 p w) p.Cap o;rw [zbU,zKt,zCY hc,zKt,yQ (by simp;omega),zKt,zcx (by simp;omega)];rfl
theorem zFW {p:zd}(h:zJ p) {s:za}(hP:s.P=p) {w:Int}{t c:Nat}{l:List Int}{d:zg}(K:PK p s.M w t l c d):zj8 s w d=some (YM s.M d,()):=by
 have hc:=h.cap;rw [zvj,hP];unfold YM;by_cases c3:d.PC=3
 .rw [zr c3,zu,yq];by_cases ct:d.T=d.B-1#64
  .rw [zb ct,zc (fun e=>e.2 ct),zp,zc (show ¬d.PC=6 by omega),zc (show ¬d.PC=6 by omega)]
  .rw [zc ct,zb ⟨c3,ct⟩,zbU,zKt,zp,zc ?_]
   .obtain ⟨b,e⟩:=zyA s.M (w64 ((w64 (z6 p w+2))+(((d.B-1#64)%(zMs 64 p.Cap)).toInt))) 0#64 0#64;have ea:w64 ((w64 (z6 p w+2))+(((d.B-1#64)%(zMs 64 p.Cap)).toInt))=XE d (d.B-1#64):=by
     unfold XE uX;rw [K.base,K.size,zk,xV]
    dsimp only;rw [e,ea];rfl
   .have hx:p.Cap=1\/p.Cap=2\/p.Cap=3:=by omega
    rcases hx with e | e | e<;>rw [e]<;>decide
 .rw [zN c3,zM,zp,zc (show ¬(d.PC=3/\d.T≠d.B-1#64) from fun e=>c3 e.1)];by_cases c6:d.PC=6
  .rw [zb c6,zb c6]
  .rw [zc c6,zc c6]
theorem zx6 {p:zd}{nb k:Nat}{s:za}{gh:Gh}(G:FG p nb k s gh) {b:Int}(h:1<=b/\b<nb):idx s.Bins b=some (yS s b)/\(yS s b).length<1000000:=by
 have hl:=G.E.S.bins;have hb:=zKv (show b.toNat<s.Bins.length by omega);have hm:=zKR (show b.toNat<s.Bins.length by omega);unfold yS;rw [v8,hb];exact ⟨rfl,G.E.small.bin _ hm⟩
theorem zDc {p:zd}(h:zJ p) {nb k:Nat}{s:za}{gh:Gh}(G:FG p nb k s gh) {i:Nat}{x:zi}(hx:s.Ws[i]? =some x):zex s ((i:Int)+1)=some (Z9 (ya s x++gh.D ((i:Int)+1)),()):=by
 have hil:=(zKC.1 hx).1;have hwl:=G.E.wl;have hwk:=h.wk;have hP:=G.E.S.P;have hcap:=h.cap;have W:=G.W i x hx;have O:=G.E.W i x hx;have hw:1<=(i:Int)+1/\(i:Int)+1<=p.Workers:=by omega
 have D:=G.X.D _ hw.1 hw.2;have hb:=G.E.small.w x (zKy hx);have e1:w64 ((i:Int)+1-1)=(i:Int):=by rw [yb];omega
 have none0:zag s.M (z6 p ((i:Int)+1)) p.Cap (zg.mk 0 0 0 0 0#64 0#64 0 0)=gh.D ((i:Int)+1)\/x.PC=0:=by
  by_cases p0:x.PC=0
  .exact .inr p0
  .refine .inl (zuU h hw (by have:=W.c0 p0;rw [this] at D;exact D) (fun e=>zj e.1 (by show ¬(0:Int)=2;decide)))
 rw [zuC,zp,zk,zp,zk,e1,yY hx,zKt,WH (by omega),zKt,hP];generalize hwi:(i:Int)+1=w at *;unfold ya UB;have hpc:=O.pc;have cases10:x.PC=0\/x.PC=1\/x.PC=2\/x.PC=3\/x.PC=4\/x.PC=5\/x.PC=6\/x.PC=7\/x.PC=8\/x.PC=9:=by omega
 have fin:∀ {l:List Int}(o:zg),l.length<4000000->zag s.M (z6 p w) p.Cap o=gh.D w->((xL p w).bind fun y5=>(wM s.M y5.1 p.Cap o).bind fun y6=>(yD (l++y6.1)).bind fun l7=>(yX l7).bind fun y8=>some (y8.1,()))=some (Z9 (l++gh.D w),()):=fun o hl e=>by
  rw [zHJ (by omega) w o hl,e]
 rcases cases10 with c | c | c | c | c | c | c | c | c | c
 all_goals simp only [c,Int.reduceEq,decide_true,decide_false,zu,zM,if_true,if_false,or_true,or_false,true_or,false_or]
 .have K:=W.p0 c;have hpl:(YM s.M x.D).length<=1:=by
   unfold YM;split
   .simp
   .split<;>simp
  rw [zFW h hP K,zKt,yQ (by simp;omega),zKt];exact fin _ (by simp;omega) (zGI h hw D K)
 .rw [zKx];exact fin _ (by omega) (none0.resolve_right (by omega))
 .rw [zKx];exact fin _ (by omega) (none0.resolve_right (by omega))
 .obtain ⟨b1,b2⟩:=zx6 G (O.b3 c);rw [b1,zKt,yQ (by simp;omega),zKt];exact fin _ (by simp;omega) (none0.resolve_right (by omega))
 .rw [zKx];exact fin _ (by omega) (none0.resolve_right (by omega))
 .rw [yQ (by simp;omega),zKt];exact fin _ (by simp;omega) (none0.resolve_right (by omega))
 .obtain ⟨g1,g2,g3,g4⟩:=W.p6 c;have hob:=g1.ob;obtain ⟨v,v1,v2⟩:=zqP x.G hob.1;have hhl:(yF x.G).length<=1:=by unfold yF;split<;>simp
  rw [yQ (by simp;omega),zKt,v1,zKt];dsimp only;rw [v2,zKt,yQ (by simp;omega),zKt];have ea:x.Batch++x.Obj::yF x.G=x.Batch++[x.Obj]++yF x.G:=by simp
  rw [ea,zp];by_cases g3':x.G.PC=3
  .rw [zb g3'];have:=(g1.d3 g3' g4).2.2.kind;exact fin _ (by simp;omega) (zuU h hw (by have:=W.c0 (by omega);rw [this] at D;exact D) (fun e=>by have:=e.1;omega))
  .rw [zc g3'];exact fin _ (by simp;omega) (none0.resolve_right (by omega))
 .rw [zKx];exact fin _ (by omega) (none0.resolve_right (by omega))
 .rw [yQ (by simp;omega),zKt];exact fin _ (by simp;omega) (none0.resolve_right (by omega))
 .rw [zKx];exact fin _ (by omega) (none0.resolve_right (by omega))
theorem zBV {p:zd}(h:zJ p) {nb k:Nat}{s:za}{gh:Gh}(G:FG p nb k s gh) {i:Nat}{x:ze}(hx:s.Ms[i]? =some x):zc6 s ((i:Int)+1)=some (Z9 (yo s x),()):=by
 have hil:=(zKC.1 hx).1;have hml:=G.E.ml;have hmt:=h.mt;have W:=G.M i x hx;have O:=G.E.X i x hx;have hb:=(G.E.small.mu x (zKy hx)).2.2;have e1:w64 ((i:Int)+1-1)=(i:Int):=by rw [yb];omega
 have hhl:(yF x.G).length<=1:=by unfold yF;split<;>simp
 rw [ztP,zp,zk,zp,zk,e1,yY hx,zKt,WH (by omega),zKt];unfold yo zcS;have nog:x.PC≠3/\x.PC≠37->Zc x=some (false,()):=fun e=>by rw [zfS,zN e.1,zN e.2];rfl
 have ysg:x.PC=3\/x.PC=37->Zc x=some (true,()):=fun e=>by
  rw [zfS];by_cases c:x.PC=3
  .rw [zr c];rfl
  .rw [zN c,zr (e.resolve_left c)];rfl
 by_cases c33:x.PC=33
 .obtain ⟨b1,b2⟩:=zx6 G (O.b33 c33);have h36: ¬(36:Int)<=x.PC:=by omega
  rw [zr c33,zu,b1,zKt,yQ (by simp;omega),zKt,zN h36,zM,nog (by omega),zKt,zM,zcx (by simp;omega),zb c33];rfl
 rw [zN c33,zM,zc c33];by_cases c3:x.PC=3
 .obtain ⟨v,v1,v2⟩:=zqP x.G (W.p3 c3).1.ob.1;have h36: ¬(36:Int)<=x.PC:=by omega
  rw [zN h36,zM,ysg (.inl c3),zKt,zu,v1,zKt];dsimp only;rw [v2,zKt,yQ (by simp;omega),zKt,zcx (by simp;omega),zk,zk,zb c3];rfl
 by_cases c36:36<=x.PC/\x.PC<=38
 .rw [zr c36.1,zu,zr c36.2,zu,yQ (by simp;omega),zKt];by_cases c37:x.PC=37
  .obtain ⟨v,v1,v2⟩:=zqP x.G (W.p37 c37).1.ob.1;rw [ysg (.inr c37),zKt,zu,v1,zKt];dsimp only;rw [v2,zKt,yQ (by simp;omega),zKt,zcx (by simp;omega),zk,zb c37];have ea:x.Batch++x.Obj::yF x.G=x.Batch++[x.Obj]++yF x.G:=by simp
   rw [ea];rfl
  .rw [nog ⟨c3,c37⟩,zKt,zM,zcx (by simp;omega),yg];rfl
 .rw [zk,zk,zc c3,zKx];by_cases h36:36<=x.PC
  .have h38: ¬x.PC<=38:=fun e=>c36 ⟨h36,e⟩;rw [zr h36,zu,zN h38,zM,nog (by omega),zKt,zM,zcx (show x.Batch.length<4294967296 by omega)];rfl
  .rw [zN h36,zM,nog (by omega),zKt,zM,zcx (show x.Batch.length<4294967296 by omega)];rfl
def owG (g:zI):Int:=if g.Out=0/\(g.PC=1\/g.PC=2) then 1 else 0
def owW (x:zi):Int:=if x.PC=9 then 1 else if x.PC=6 then owG x.G else 0
def owX (x:ze):Int:=if x.PC=39 then 1 else if x.PC=3\/x.PC=37 then owG x.G else 0
theorem zF3 (g:zI):0<=owG g/\owG g<=1:=by unfold owG;split<;>decide
theorem zrN (x:zi):0<=owW x/\owW x<=1:=by
 unfold owW;split
 .decide
 split
 .exact zF3 _
 .decide
theorem zsx (x:ze):0<=owX x/\owX x<=1:=by
 unfold owX;split
 .decide
 split
 .exact zF3 _
 .decide
theorem Y2 {g:zI}(h:g.Out≠0\/(g.PC≠1/\g.PC≠2)):owG g=0:=by unfold owG;rw [zk]
theorem zwp {g:zI}(h:g.Out=0) (h2:g.PC=1\/g.PC=2):owG g=1:=by unfold owG;rw [zb ⟨h,h2⟩]
theorem zzk (t:zx) (o:Int):((wv t o).2=false/\(wv t o).1=t)\/((wv t o).2=true/\¬(t.Marks|||bit o=t.Marks)/\(wv t o).1={t with Marks:=t.Marks|||bit o}):=by
 unfold wv;split
 .exact .inl ⟨rfl,rfl⟩
 split
 .rename_i h _;exact .inr ⟨rfl,h,rfl⟩
 .exact .inl ⟨rfl,rfl⟩
theorem zyX {p:zd}{s:za}{gh:Gh}{g:zI}(G:GX p s gh g) (g0:g.Out=0) (hw:0<=s.Work/\s.Work<=4294970000) :
  ((zF s g).1.T=s.T/\(zF s g).1.Work=s.Work+owG (zF s g).2-owG g) \/
  (¬(s.T.Marks|||bit g.Obj=s.T.Marks)/\(zF s g).1.T={s.T with Marks:=s.T.Marks|||bit g.Obj}/\(zF s g).1.Work=s.Work+owG (zF s g).2-owG g+1):=by
 have hpc:=G.pc;have hmd:=G.md;unfold zF;rw [zk];by_cases c7:g.PC=7
 .rw [zb c7];unfold zcY;dsimp only;left;refine ⟨rfl,?_⟩;rw [Y2 (g:=g) (by omega),Y2 (by split<;>(dsimp only;omega))];omega
 rw [zc c7];by_cases c6:g.PC=6
 .rw [zb c6];left;refine ⟨rfl,?_⟩;rw [Y2 (g:=g) (by omega),Y2 (by show _\/((7:Int)≠1/\(7:Int)≠2);omega)];show s.Work=_;omega
 rw [zc c6];by_cases c5:g.PC=5
 .rw [zb c5];unfold zkZ zga;dsimp only;left;refine ⟨rfl,?_⟩;rw [Y2 (g:=g) (by omega),Y2 (by (repeat' split)<;>(dsimp only;omega))];omega
 rw [zc c5];by_cases c4:g.PC=4
 .rw [zb c4];left;refine ⟨rfl,?_⟩;rw [Y2 (g:=g) (by omega),Y2 (by show _\/((5:Int)≠1/\(5:Int)≠2);omega)];show s.Work=_;omega
 rw [zc c4];by_cases c3:g.PC=3
 .rw [zb c3];unfold zlf zga;dsimp only;left;refine ⟨rfl,?_⟩;rw [Y2 (g:=g) (by omega),Y2 (by (repeat' split)<;>(dsimp only;omega))];omega
 rw [zc c3];by_cases c2:g.PC=2
 .rw [zb c2];left;refine ⟨rfl,?_⟩;rw [zwp g0 (.inr c2),Y2 (by show (1:Int)≠0\/_;omega)];show wc (s.Work-1)=_;rw [xq];omega
 rw [zc c2];by_cases c1:g.PC=1
 .rw [zb c1];unfold zli;dsimp only;rw [zwp g0 (.inl c1)];rcases zzk s.T g.Obj with ⟨a,b⟩ | ⟨a,b,c⟩
  .left;refine ⟨b,?_⟩;rw [zb a,zwp (by dsimp only;exact g0) (.inr rfl)];omega
  .right;refine ⟨b,c,?_⟩;rw [zc (by rw [a];decide)];unfold zga;rw [Y2 (by (repeat' split)<;>(dsimp only;omega))];omega
 rw [zc c1];left;refine ⟨rfl,?_⟩;rw [Y2 (g:=g) (by omega),zwp (by dsimp only;exact g0) (.inl rfl)];show wc (s.Work+1)=_;rw [xq];omega
theorem zqM {t:zx}{o:Int}(h:yB t o=1):wh t o≠t:=by
 have hb:=(uw t o).1 h;have hr:=za6 h;unfold wh;rw [zb h];intro e;have e:=congrArg zx.Black e;exact hb.2 (by rw [<-e];exact (wJ _ hr o).2 (.inr rfl))
theorem zde {t:zx}{o:Int}(h: ¬(t.Marks|||bit o=t.Marks)):({t with Marks:=t.Marks|||bit o}:zx)≠t:=fun e=>h (congrArg zx.Marks e)
theorem zGp {p:zd}{nb:Nat}{s:za}{gh:Gh}{w:Int}{x:zi}(W:WX p s gh w x) (O:WOk p nb w x) (hw:0<=s.Work/\s.Work<=4294970000) (h8:x.PC=8->yB s.T x.Obj=1) {N C:List Int}
  (hT:(N=[]/\C=[]/\(zB s w x).1.T=s.T)\/(N=[x.G.Obj]/\C=[]/\x.PC=6/\¬(s.T.Marks|||bit x.G.Obj=s.T.Marks)/\(zB s w x).1.T={s.T with Marks:=s.T.Marks|||bit x.G.Obj})\/(N=[]/\C=[x.Obj]/\x.PC=8/\(zB s w x).1.T=wh s.T x.Obj)) :
  (zB s w x).1.Work=s.Work+owW (zB s w x).2-owW x+(N.length:Int)-(C.length:Int):=by
 have hpc:=O.pc;revert hT;have ob:∀y:zi,owW (zaq s.P w y)=0:=fun y=>rfl;have ol:∀y:zi,owW (Zk s.P w y)=0:=fun y=>by unfold Zk;split<;>rfl
 have quiet:∀ {t:za}{y:zi},(N=[]/\C=[]/\t.T=s.T)\/(N=[x.G.Obj]/\C=[]/\x.PC=6/\¬(s.T.Marks|||bit x.G.Obj=s.T.Marks)/\t.T={s.T with Marks:=s.T.Marks|||bit x.G.Obj})\/(N=[]/\C=[x.Obj]/\x.PC=8/\t.T=wh s.T x.Obj) ->
   x.PC≠6->x.PC≠8->t.Work=s.Work+owW y-owW x->t.Work=s.Work+owW y-owW x+(N.length:Int)-(C.length:Int):=by
  rintro t y (⟨e1,e2,_⟩ | ⟨_,_,e,_⟩ | ⟨_,_,e,_⟩) h1 h2 h
  .rw [e1,e2];simp only [zLn];omega
  .omega
  .omega
 have o0:x.PC≠9->x.PC≠6->owW x=0:=fun h1 h2=>by unfold owW;rw [zc h1,zc h2]
 unfold zB;split
 .rename_i c;intro hT;refine quiet hT (by omega) (by omega) ?_;rw [o0 (by omega) (by omega)];show s.Work=_;dsimp only;split
  .show s.Work=s.Work+0-0;omega
  split
  .rw [ol];omega
  .rw [show owW {x with D:=(yj s.M x.D).2}=owW x from rfl,o0 (by omega) (by omega)];omega
 split
 .intro hT;refine quiet hT (by omega) (by omega) ?_;rw [o0 (by omega) (by omega)];show s.Work=_;dsimp only;split
  .rw [show ∀b c,owW {x with C:=c,Bin:=b,PC:=3}=0 from fun _ _=>rfl];omega
  split
  .rw [ob];omega
  .rw [show owW {x with C:=(zC s.M x.C).2}=owW x from rfl,o0 (by omega) (by omega)];omega
 split
 .intro hT;refine quiet hT (by omega) (by omega) ?_;rw [o0 (by omega) (by omega)];show s.Work=s.Work+0-0;omega
 split
 .intro hT;refine quiet hT (by omega) (by omega) ?_;rw [o0 (by omega) (by omega)];show s.Work=_;dsimp only;split
  .rw [show ∀c,owW {x with PC:=7,C:=c,Bin:=0}=0 from fun _=>rfl];omega
  .rw [show owW {x with C:=(zC s.M x.C).2}=owW x from rfl,o0 (by omega) (by omega)];omega
 split
 .intro hT;refine quiet hT (by omega) (by omega) ?_;rw [o0 (by omega) (by omega)];dsimp only;split
  .have:∀y,owW {x with Slot:=y,PC:=onW s y}=0:=fun y=>by
    unfold owW;rcases zd9 s y with e | e<;>rw [zc (by dsimp only;omega),zc (by dsimp only;omega)]
   rw [this];omega
  .rw [show ∀y v,owW {x with Slot:=y,PC:=6,G:=YB 1 v w}=0 from fun _ _=>rfl];omega
 split
 .rename_i c;intro hT;obtain ⟨G,gm,gw,g0⟩:=W.p6 c;have e1:owW x=owG x.G:=by unfold owW;rw [zk,zb c]
  have e2:owW (if (zF s x.G).2.Out=1 then {x with G:=(zF s x.G).2,PC:=onW s x.Slot} else {x with G:=(zF s x.G).2})=owG (zF s x.G).2:=by
   split
   .rename_i o;rw [Y2 (.inl (by omega))];unfold owW;rcases zd9 s x.Slot with e | e<;>rw [zc (by dsimp only;omega),zc (by dsimp only;omega)]
   .unfold owW;rw [zc (by dsimp only;omega),zb c]
  dsimp only at hT ⊢;rw [e1,e2];rcases zyX G g0 hw with ⟨a,b⟩ | ⟨a,b,d⟩
  .rcases hT with ⟨n1,n2,_⟩ | ⟨_,_,_,n3,n4⟩ | ⟨_,_,e,_⟩
   .rw [n1,n2,b];simp only [zLn];omega
   .exact zj (n4.symm.trans a) (zde n3)
   .omega
  .rcases hT with ⟨n1,n2,n3⟩ | ⟨n1,n2,_,n3,n4⟩ | ⟨_,_,e,_⟩
   .exact zj (b.symm.trans n3) (zde a)
   .rw [n1,n2,d];simp only [zLn,zKM];omega
   .omega
 split
 .intro hT;refine quiet hT (by omega) (by omega) ?_;rw [o0 (by omega) (by omega)];dsimp only;split
  .rw [ob];omega
  .rw [show ∀o l,owW {x with PC:=5,Obj:=o,Slot:=0,Batch:=l}=0 from fun _ _=>rfl];omega
 split
 .rename_i c;intro hT;have e0:owW x=0:=o0 (by omega) (by omega);rw [e0];rcases hT with ⟨_,_,e⟩ | ⟨_,_,e,_⟩ | ⟨n1,n2,_,_⟩
  .exact zj e (zqM (h8 c))
  .omega
  .rw [n1,n2];show s.Work=s.Work+1-0+0-1;omega
 split
 .rename_i c;intro hT;refine quiet hT (by omega) (by omega) ?_;have e1:owW x=1:=by unfold owW;rw [zb c]
  rw [e1];show wc (s.Work-1)=s.Work+0-1;rw [xq];omega
 .intro hT;omega
theorem zH7 {p:zd}{nb:Nat}{s:za}{gh:Gh}{m:Int}{x:ze}(W:MX p s gh x) (O:XOk p nb m x) (hw:0<=s.Work/\s.Work<=4294970000) (h8:x.PC=38->yB s.T x.Obj=1) {N C:List Int}
  (hT:(N=[]/\C=[]/\(zn s m x).1.T=s.T)\/(N=[x.G.Obj]/\C=[]/\(x.PC=3\/x.PC=37)/\¬(s.T.Marks|||bit x.G.Obj=s.T.Marks)/\(zn s m x).1.T={s.T with Marks:=s.T.Marks|||bit x.G.Obj})\/(N=[]/\C=[x.Obj]/\x.PC=38/\(zn s m x).1.T=wh s.T x.Obj) \/
   (N=[]/\C=[]/\x.PC=30/\Yp s.H s.P.Most=true/\(zn s m x).1.H=yU s.H/\(zn s m x).1.T=XF s.T (wc (s.H.Objs.length+1)))) :
  (zn s m x).1.Work=s.Work+owX (zn s m x).2-owX x+(N.length:Int)-(C.length:Int):=by
 have hpc:=O.pc;have hrt:=O.ret;have calm:∀ {r:za×ze},(N=[]/\C=[]/\r.1.T=s.T)\/(N=[x.G.Obj]/\C=[]/\(x.PC=3\/x.PC=37)/\¬(s.T.Marks|||bit x.G.Obj=s.T.Marks)/\r.1.T={s.T with Marks:=s.T.Marks|||bit x.G.Obj})\/(N=[]/\C=[x.Obj]/\x.PC=38/\r.1.T=wh s.T x.Obj) \/
   (N=[]/\C=[]/\x.PC=30/\Yp s.H s.P.Most=true/\r.1.H=yU s.H/\r.1.T=XF s.T (wc (s.H.Objs.length+1))) ->
   x.PC≠3->x.PC≠37->x.PC≠38->r.1.Work=s.Work+owX r.2-owX x->r.1.Work=s.Work+owX r.2-owX x+(N.length:Int)-(C.length:Int):=by
  rintro r (⟨e1,e2,_⟩ | ⟨_,_,e,_⟩ | ⟨_,_,e,_⟩ | ⟨e1,e2,_⟩) h1 h2 h3 h
  .rw [e1,e2];simp only [zLn];omega
  .omega
  .omega
  .rw [e1,e2];simp only [zLn];omega
 have o0:∀ {y:ze},y.PC≠39->y.PC≠3->y.PC≠37->owX y=0:=fun h1 h2 h3=>by unfold owX;rw [zc h1,zk]
 have og:∀(y:ze) (k a b:Int),owX {y with PC:=3,G:=YB k a b}=0:=fun y k a b=>by unfold owX;rw [zc (by dsimp only;omega),zb (.inl rfl)];exact Y2 (.inr ⟨by show (0:Int)≠1;decide,by show (0:Int)≠2;decide⟩)
 have gq:∀(N C:List Int) (G:GX p s gh x.G) (g0:x.G.Out=0) (hT:(N=[]/\C=[]/\(zF s x.G).1.T=s.T)\/(N=[x.G.Obj]/\C=[]/\(x.PC=3\/x.PC=37)/\¬(s.T.Marks|||bit x.G.Obj=s.T.Marks)/\(zF s x.G).1.T={s.T with Marks:=s.T.Marks|||bit x.G.Obj})),
   (zF s x.G).1.Work=s.Work+owG (zF s x.G).2-owG x.G+(N.length:Int)-(C.length:Int):=by
  intro N C G g0 hT;rcases zyX G g0 hw with ⟨a,b⟩ | ⟨a,b,d⟩
  .rcases hT with ⟨n1,n2,_⟩ | ⟨_,_,_,n3,n4⟩
   .rw [n1,n2,b];simp only [zLn];omega
   .exact zj (n4.symm.trans a) (zde n3)
  .rcases hT with ⟨n1,n2,n3⟩ | ⟨n1,n2,_,n3,n4⟩
   .exact zj (b.symm.trans n3) (zde a)
   .rw [n1,n2,d];simp only [zLn,zKM];omega
 revert hT;refine yN (motive:=fun r=>((N=[]/\C=[]/\r.1.T=s.T)\/(N=[x.G.Obj]/\C=[]/\(x.PC=3\/x.PC=37)/\¬(s.T.Marks|||bit x.G.Obj=s.T.Marks)/\r.1.T={s.T with Marks:=s.T.Marks|||bit x.G.Obj})\/(N=[]/\C=[x.Obj]/\x.PC=38/\r.1.T=wh s.T x.Obj) \/
   (N=[]/\C=[]/\x.PC=30/\Yp s.H s.P.Most=true/\r.1.H=yU s.H/\r.1.T=XF s.T (wc (s.H.Objs.length+1)))) ->
   r.1.Work=s.Work+owX r.2-owX x+(N.length:Int)-(C.length:Int)) s m x ?_ ?_ ?_ ?_ ?_ ?_ ?_ ?_ ?_ ?_ ?_ ?_ ?_ ?_ ?_ ?_ ?_ ?_ ?_ ?_
 .intro c hT;refine calm hT (by omega) (by omega) (by omega) ?_;rw [o0 (y:=x) (by omega) (by omega) (by omega)];unfold mu0 YH
  repeat' split
  all_goals (rw [o0 (by (try dsimp only [setM]);omega) (by (try dsimp only [setM]);omega) (by (try dsimp only [setM]);omega)];dsimp only;omega)
 .intro c hT;refine calm hT (by omega) (by omega) (by omega) ?_;rw [o0 (y:=x) (by omega) (by omega) (by omega)];unfold mu1;dsimp only;split
  .have:=hrt (.inl c);rw [o0 (by dsimp only;omega) (by dsimp only;omega) (by dsimp only;omega)];omega
  .have e:∀l,owX {x with PC:=3,Buf:=l,G:=YB 2 (x.Buf.getD (x.Buf.length-1) 0) m}=0:=fun l=>og {x with Buf:=l} 2 _ m;rw [e];omega
 .intro c hT;refine calm hT (by omega) (by omega) (by omega) ?_;rw [o0 (y:=x) (by omega) (by omega) (by omega)];show s.Work=s.Work+0-0;omega
 .intro c hT;obtain ⟨G,gm,g0⟩:=W.p3 c;have e1:owX x=owG x.G:=by unfold owX;rw [zk,zb (.inl c)]
  unfold mu3 at hT ⊢;dsimp only at hT ⊢;have e2:owX (if (zF s x.G).2.Out=1 then {x with PC:=1,G:=(zF s x.G).2} else {x with G:=(zF s x.G).2})=owG (zF s x.G).2:=by
   split
   .rename_i o;rw [Y2 (.inl (by omega)),o0 (by dsimp only;omega) (by dsimp only;omega) (by dsimp only;omega)]
   .unfold owX;rw [zc (by dsimp only;omega),zb (.inl c)]
  rw [e1,e2];refine gq N C G g0 ?_;rcases hT with h | h | ⟨_,_,e,_⟩ | ⟨_,_,e,_⟩
  .exact .inl h
  .exact .inr h
  .omega
  .omega
 .intro c hT;refine calm hT (by omega) (by omega) (by omega) ?_;rw [o0 (y:=x) (by omega) (by omega) (by omega)];show s.Work=s.Work+0-0;omega
 .intro c hT;refine calm hT (by omega) (by omega) (by omega) ?_;rw [o0 (y:=x) (by omega) (by omega) (by omega)];unfold UP;dsimp only;split<;>(rw [o0 (by dsimp only [xG];omega) (by dsimp only [xG];omega) (by dsimp only [xG];omega)];omega)
 .intro c hT;refine calm hT (by omega) (by omega) (by omega) ?_;rw [o0 (y:=x) (by omega) (by omega) (by omega)];unfold VR;dsimp only;split<;>(rw [o0 (by dsimp only;omega) (by dsimp only;omega) (by dsimp only;omega)];omega)
 .intro c hT;refine calm hT (by omega) (by omega) (by omega) ?_;rw [o0 (y:=x) (by omega) (by omega) (by omega)];unfold zbx;dsimp only;split<;>(rw [o0 (by dsimp only;omega) (by dsimp only;omega) (by dsimp only;omega)];omega)
 .intro c hT;refine calm hT (by omega) (by omega) (by omega) ?_;rw [o0 (y:=x) (by omega) (by omega) (by omega)];show s.Work=s.Work+0-0;omega
 .intro c hT;refine calm hT (by omega) (by omega) (by omega) ?_;rw [o0 (y:=x) (by omega) (by omega) (by omega)];unfold Y6;split
  .split
   .show s.Work=s.Work+0-0;omega
   .show s.Work=s.Work+0-0;omega
  .show s.Work=s.Work+0-0;omega
 .intro c hT;refine calm hT (by omega) (by omega) (by omega) ?_;rw [o0 (y:=x) (by omega) (by omega) (by omega)];unfold zaK;dsimp only;split<;>(rw [o0 (by dsimp only;omega) (by dsimp only;omega) (by dsimp only;omega)];omega)
 .intro c hT;refine calm hT (by omega) (by omega) (by omega) ?_;rw [o0 (y:=x) (by omega) (by omega) (by omega)];unfold zaE;dsimp only;split
  .rw [o0 (by dsimp only;omega) (by dsimp only;omega) (by dsimp only;omega)];omega
  split<;>(rw [o0 (by dsimp only;omega) (by dsimp only;omega) (by dsimp only;omega)];omega)
 .intro c hT;refine calm hT (by omega) (by omega) (by omega) ?_;rw [o0 (y:=x) (by omega) (by omega) (by omega)];show s.Work=s.Work+0-0;omega
 .intro c hT;refine calm hT (by omega) (by omega) (by omega) ?_;rw [o0 (y:=x) (by omega) (by omega) (by omega)];unfold zaj;dsimp only;split<;>(rw [o0 (by dsimp only;omega) (by dsimp only;omega) (by dsimp only;omega)];omega)
 .intro c hT;refine calm hT (by omega) (by omega) (by omega) ?_;rw [o0 (y:=x) (by omega) (by omega) (by omega)];unfold zaG;dsimp only;split<;>(rw [o0 (by dsimp only;omega) (by dsimp only;omega) (by dsimp only;omega)];omega)
 .intro c hT;refine calm hT (by omega) (by omega) (by omega) ?_;rw [o0 (y:=x) (by omega) (by omega) (by omega)];unfold zbZ;dsimp only;split
  .have:=YA s (wc (x.Slot+1));rw [o0 (by dsimp only;omega) (by dsimp only;omega) (by dsimp only;omega)];omega
  .have e:∀y v,owX {x with Slot:=y,PC:=37,G:=YB 3 v m}=0:=fun y v=>by unfold owX;rw [zc (by dsimp only;omega),zb (.inr rfl)];exact Y2 (.inr ⟨by show (0:Int)≠1;decide,by show (0:Int)≠2;decide⟩)
   rw [e];omega
 .intro c hT;obtain ⟨G,gm,g0⟩:=W.p37 c;have e1:owX x=owG x.G:=by unfold owX;rw [zk,zb (.inr c)]
  unfold WP at hT ⊢;dsimp only at hT ⊢;have e2:owX (if (zF s x.G).2.Out=1 then {x with G:=(zF s x.G).2,PC:=onM s x.Slot} else {x with G:=(zF s x.G).2})=owG (zF s x.G).2:=by
   split
   .rename_i o;have:=YA s x.Slot;rw [Y2 (.inl (by omega)),o0 (by dsimp only;omega) (by dsimp only;omega) (by dsimp only;omega)]
   .unfold owX;rw [zc (by dsimp only;omega),zb (.inr c)]
  rw [e1,e2];refine gq N C G g0 ?_;rcases hT with h | h | ⟨_,_,e,_⟩ | ⟨_,_,e,_⟩
  .exact .inl h
  .exact .inr h
  .omega
  .omega
 .intro c hT;rw [o0 (y:=x) (by omega) (by omega) (by omega)];rcases hT with ⟨_,_,e⟩ | ⟨_,_,e,_⟩ | ⟨n1,n2,_,_⟩ | ⟨_,_,e,_⟩
  .exact zj e (zqM (h8 c))
  .omega
  .rw [n1,n2];show s.Work=s.Work+1-0+0-1;omega
  .omega
 .intro c hT;refine calm hT (by omega) (by omega) (by omega) ?_;have e1:owX x=1:=by unfold owX;rw [zb c]
  rw [e1];show wc (s.Work-1)=s.Work+0-1;rw [xq];omega
 .intro hT;rcases hT with ⟨n1,n2,_⟩ | ⟨_,_,_,n3,n4⟩ | ⟨n1,n2,c,e⟩ | ⟨n1,n2,_⟩
  .rw [n1,n2];simp only [zLn];omega
  .exact zj n4.symm (zde n3)
  .exact zj e.symm (zqM (h8 c))
  .rw [n1,n2];simp only [zLn];omega
def WW (s:za):Int:=(s.Ws.map owW).sum+(s.Ms.map owX).sum
theorem zpI:∀ {l:List Int},(∀v∈l,0<=v)->0<=l.sum
 | [],_=>by simp
 | a::l,h=>by
  have:=zpI (l:=l) (fun v hv=>h v (zKA _ hv));have:=h a (zKJ ..);rw [zLp];omega
theorem zGq (s:za):0<=WW s:=by
 have h1:0<=(s.Ws.map owW).sum:=zpI (fun v hv=>by obtain ⟨x,_,rfl⟩:=zKE.1 hv;exact (zrN x).1);have h2:0<=(s.Ms.map owX).sum:=zpI (fun v hv=>by obtain ⟨x,_,rfl⟩:=zKE.1 hv;exact (zsx x).1);unfold WW;omega
theorem zA4 {α:Type}{f:α->Int}{l:List α}{i:Nat}{x:α}(h:l[i]? =some x) (y:α):((l.set i y).map f).sum=(l.map f).sum-f x+f y:=by
 have hi:=(zKC.1 h).1;rw [List.map_set,zpQ _ _ _ (by simpa using hi)];rw [zKw,zK1,h];rfl
structure EG (p:zd) (nb k:Nat) (s:za) (gh:Gh):Prop where
 G:FG p nb k s gh
 wk:s.Work=((vd p s gh).length:Int)+WW s
 le:s.Work<=2*(k:Int)+100
theorem EG.work_nn {p:zd}{nb k:Nat}{s:za}{gh:Gh}(I:EG p nb k s gh):0<=s.Work:=by
 have:=I.wk;have:=zGq s;omega
theorem zaY (s:za):({zV s with Epoch:=s.Epoch,Flag:=s.Flag,Done:=s.Done,Restarts:=s.Restarts,D:=s.D}:za)=s:=by
 unfold zV
 repeat' split
 all_goals rfl
theorem FG.more {p:zd}{nb k:Nat}{s:za}{gh:Gh}(G:FG p nb k s gh):FG p nb (k+1) s gh:=⟨G.E,G.X.quiet G.E.S rfl,G.W,G.M,G.B,G.mrk,G.wob,G.buf,G.bk,G.ne⟩
theorem EG.more {p:zd}{nb k:Nat}{s:za}{gh:Gh}(I:EG p nb k s gh):EG p nb (k+1) s gh:=⟨I.G.more,I.wk,by have:=I.le;omega⟩
theorem EG.det {p:zd}(hp:zJ p) {nb k:Nat}{s:za}{gh:Gh}(I:EG p nb k s gh):EG p nb (k+1) (zV s) gh/\zbk s (zV s):=by
 have hd:=zaY s;have eM:(zV s).M=s.M:=by conv=>rhs;rw [<-hd]
 have eB:(zV s).Bins=s.Bins:=by conv=>rhs;rw [<-hd]
 have eT:(zV s).T=s.T:=by conv=>rhs;rw [<-hd]
 have eH:(zV s).H=s.H:=by conv=>rhs;rw [<-hd]
 have eW:(zV s).Ws=s.Ws:=by conv=>rhs;rw [<-hd]
 have eX:(zV s).Ms=s.Ms:=by conv=>rhs;rw [<-hd]
 have eK:(zV s).Work=s.Work:=by conv=>rhs;rw [<-hd]
 have e:vd p (zV s) gh=vd p s gh:=by
  unfold vd;rw [eW,eX,ZO eB,wW (fun x _=>zie (x:=x) eM eB),wW (fun x _=>ziv (x:=x) eB)]
 have e2:WW (zV s)=WW s:=by unfold WW;rw [eW,eX]
 exact ⟨⟨I.G.det hp hd,by rw [e,e2,eK];exact I.wk,by rw [eK];have:=I.le;omega⟩,.inl ⟨eT,by rw [eH]⟩⟩
theorem EG.worker {p:zd}(hp:zJ p) {nb k:Nat}{s:za}{gh:Gh}(hk:k<2147480000) (I:EG p nb k s gh) {w:Int}(hw:1<=w/\w<=p.Workers) (hd:s.Done=false):∃gh',EG p nb (k+1) (zP s w) gh'/\zbk s (zP s w):=by
 obtain ⟨gh',G',F,x,hx,N,C,hbag,hT⟩:=I.G.worker hp (by omega) hw hd;have hwl:=I.G.E.wl;have ei:(((w-1).toNat:Nat):Int)+1=w:=by omega
 have hWX:=I.G.W _ x hx;have hWO:=I.G.E.W _ x hx;rw [ei] at hWX hWO;have h8:x.PC=8->yB s.T x.Obj=1:=fun e=>I.G.grey (zfU hx (by unfold ya;rw [XA (.inr e)];simp));have hnn:=I.work_nn;have hle:=I.le;have hW:=zGp hWX hWO (by omega) h8 hT;have hlen:=hbag.length_eq;rw [zKH,zKH] at hlen;have eS:zP s w={(zB s w x).1 with Ws:=s.Ws.set (w-1).toNat (zB s w x).2}:=by
  unfold zP;rw [zc (by rw [hd];rintro (e | e | e)<;>first | cases e | omega),hx]
 have eK:(zP s w).Work=(zB s w x).1.Work:=by rw [eS]
 have eX:(zP s w).Ms=s.Ms:=by rw [eS];show (zB s w x).1.Ms=_;rw [zfI hWO]
 have eW:(zP s w).Ws=s.Ws.set (w-1).toNat (zB s w x).2:=by rw [eS]
 have ho:WW (zP s w)=WW s-owW x+owW (zB s w x).2:=by
  unfold WW;rw [eX,eW,zA4 hx];omega
 have hwk:=I.wk;have hN:N.length<=1:=by rcases hT with ⟨e,_⟩ | ⟨e,_⟩ | ⟨e,_⟩<;>rw [e]<;>simp
 have o1:=zrN x;have o2:=zrN (zB s w x).2;refine ⟨gh',⟨G',by rw [eK,hW,ho];omega,?_⟩,F⟩;rw [eK,hW];omega
theorem EG.mutator {p:zd}(hp:zJ p) {nb k:Nat}{s:za}{gh:Gh}(hk:k<2147480000) (I:EG p nb k s gh) {m:Int}(hm:1<=m/\m<=p.Mutators) (hd:s.Done=false):∃gh',EG p nb (k+1) (zG s m) gh'/\zbk s (zG s m):=by
 obtain ⟨gh',G',F,x,hx,N,C,hbag,hT⟩:=I.G.mutator hp (by omega) hm hd;have hml:=I.G.E.ml;have ei:(((m-1).toNat:Nat):Int)+1=m:=by omega
 have hMX:=I.G.M _ x hx;have hXO:=I.G.E.X _ x hx;rw [ei] at hXO;have h8:x.PC=38->yB s.T x.Obj=1:=fun e=>I.G.grey (zd5 hx (by unfold yo;rw [Vi (.inr e)];simp));have hnn:=I.work_nn;have hle:=I.le;have hW:=zH7 (m:=m) hMX hXO (by omega) h8 hT;have hlen:=hbag.length_eq;rw [zKH,zKH] at hlen;have eS:zG s m={(zn s m x).1 with Ms:=s.Ms.set (m-1).toNat (zn s m x).2}:=by
  unfold zG;rw [zc (by rw [hd];rintro (e | e | e)<;>first | cases e | omega),hx]
 have eK:(zG s m).Work=(zn s m x).1.Work:=by rw [eS]
 have eW:(zG s m).Ws=s.Ws:=by rw [eS];show (zn s m x).1.Ws=_;rw [zcC]
 have eX:(zG s m).Ms=s.Ms.set (m-1).toNat (zn s m x).2:=by rw [eS]
 have ho:WW (zG s m)=WW s-owX x+owX (zn s m x).2:=by
  unfold WW;rw [eX,eW,zA4 hx];omega
 have hwk:=I.wk;have hN:N.length<=1:=by rcases hT with ⟨e,_⟩ | ⟨e,_⟩ | ⟨e,_⟩ | ⟨e,_⟩<;>rw [e]<;>simp
 have o1:=zsx x;have o2:=zsx (zn s m x).2;refine ⟨gh',⟨G',by rw [eK,hW,ho];omega,?_⟩,F⟩;rw [eK,hW];omega
theorem ziN {s:za}(hd:s.Done=true) (j:Int):vG s j=s:=by
 unfold vG;split
 .unfold zV;rw [zb hd]
 split
 .unfold zP;rw [zb (.inl hd)]
 .unfold zG;rw [zb (.inl hd)]
theorem EG.next {p:zd}(hp:zJ p) {nb k:Nat}{s:za}{gh:Gh}(hk:k<2147480000) (I:EG p nb k s gh) (j:Int):∃gh',EG p nb (k+1) (vG s j) gh'/\zbk s (vG s j):=by
 cases hd:s.Done with
 | true=>rw [ziN hd];exact ⟨gh,I.more,.inl ⟨rfl,rfl⟩⟩
 | false =>
  have hwl:=I.G.E.wl;have hml:=I.G.E.ml;unfold vG;split
  .exact ⟨gh,I.det hp⟩
  split
  .by_cases h1:1<=j
   .exact I.worker hp hk (by omega) hd
   .have:zP s j=s:=by unfold zP;rw [zb (.inr (.inl (by omega)))]
    rw [this];exact ⟨gh,I.more,.inl ⟨rfl,rfl⟩⟩
  .by_cases h1:1<=j-(s.Ws.length:Int)/\j-(s.Ws.length:Int)<=(s.Ms.length:Int)
   .exact I.mutator hp hk (by omega) hd
   .have:zG s (j-(s.Ws.length:Int))=s:=by unfold zG;rw [yg]
    rw [this];exact ⟨gh,I.more,.inl ⟨rfl,rfl⟩⟩
theorem zvr:∀(n:Nat) (l:List Int),l.Nodup->(∀o∈l,1<=o/\o<=(n:Int))->l.length<=n
 | 0,[],_,_=>zKz _
 | 0,a::l,_,h=>by have:=h a (by simp);omega
 | n+1,l,hd,h=>by
  have ih:=zvr n (l.erase ((n+1:Nat):Int)) (hd.erase _) (fun o ho=>by
   have:=(hd.mem_erase_iff).1 ho;have h2:=h o this.2;have h3:=this.1;omega)
  rw [List.length_erase] at ih;split at ih<;>omega
theorem zCT {p:zd}(h:zJ p) {nb k:Nat}{s:za}{gh:Gh}{own:List Int}(X:SX p nb s gh own k) (hnb:nb<=50) {N:Int}(hN:(nb:Int)<=N) (hN2:N<1000):zly s.M (yt p) (zT p) N=some (gh.F,()):=by
 have hF:=Yg h;have hE:=ve h;have hl:gh.F.length<nb\/gh.F.length=0:=by
  have:=X.L.all.length_eq;simp [zqj] at this;omega
 rw [zvG,zlp,zKt,zgL,zKt];obtain ⟨o,e,ho⟩:=wN (f:=zfB) (fun a=>∃x pre rest,gh.F=pre++rest/\a=(s.M,zT p,N,x,pre,())/\Chn s.M (zT p) nb x rest) (fun a=>gh.F.length-a.2.2.2.2.1.length) (fun o=>o= .brk (gh.F,())) (by
  rintro _ ⟨x,pre,rest,e,rfl,c⟩;rw [zrX,yq];cases rest with
  | nil =>
   have hx:x=0:=c;rw [zb hx];exact ⟨_,rfl,by rw [e,zKx]⟩
  | cons y l =>
   obtain ⟨c1,c2,c3,c4⟩:=c;have hlen:gh.F.length=pre.length+(l.length+1):=by rw [e,zKH,zKM]
   rw [zk,zp,zb (show (pre.length:Int)<(bif decide ((1000:Int)<N) then 1000 else N) by rw [zp,zk];omega),yQ (by simp;omega),zKt,yb,zlp,zKt];refine ⟨_,rfl,⟨_,pre++[x],l,by rw [e,c1];simp,rfl,?_⟩,?_⟩
   .rw [c1];exact c4
   .show gh.F.length-(pre++[x]).length<gh.F.length-pre.length;rw [zKH,zMl];omega) (s.M,zT p,N,yE (ld s.M (yt p)),([]:List Int),()) ⟨_,[],gh.F,rfl,rfl,X.L.cF⟩ (by show gh.F.length-0<18446744073709551616;omega)
 subst ho;exact congrArg (fun o=>Option.bind o _) e
theorem zzc {α β:Type}(f:α->List β):∀(l:List α) (a:List β),l.foldl (fun r x=>r++f x) a=a++l.flatMap f
 | [],a=>by simp
 | x::l,a=>by rw [zLk,zzc f l,zLl,zKD]
theorem zEL {p:zd}(h:zJ p) {k:Nat}{s:za}{gh:Gh}(G:FG p (yh p+1) k s gh):zcI s=some (Z9 (gh.F.flatMap (yS s)),())/\(gh.F.flatMap (yS s)).length<=9:=by
 have hP:=G.E.S.P;have hbl:=G.E.S.bins;have hbp:=zeM h;have hN:=G.E.H.n;have hn:=h.n;have hmo:=h.most;have hl9:(gh.F.flatMap (yS s)).length<=9:=by
  have hs:(gh.F.flatMap (yS s)).Sublist (vd p s gh):=(List.sublist_append_left _ _).trans (List.sublist_append_left _ _);have:=zvr s.H.Objs.length _ (G.B.nd.sublist hs) (fun o ho=>by
   have ho:=hs.subset ho;exact ⟨(za6 ((G.B.gr o).1 ho)).1,G.mrk o ((uw _ _).1 ((G.B.gr o).1 ho)).1⟩)
  omega
 refine ⟨?_,hl9⟩;have hF:gh.F.length<1000:=by
  have:=G.X.L.all.length_eq;simp [zqj] at this;omega
 have hnode:∀y∈gh.F,1<=y/\y<((yh p+1:Nat):Int):=fun y hy=>zsO.1 (G.X.L.all.subset (zKO _ (zKO _ hy)));rw [zwk,zdq,zKt,zbb,zKt,hP];dsimp only;rw [zCT h G.X (by omega) (by omega) (by omega),zKt];dsimp only;obtain ⟨e,_⟩:=ZM (f:=Um) (fun j r=>((gh.F.length:Int),j,s,r,gh.F,())) (fun r=>(r,())) gh.F (by omega) (fun r y=>r++yS s y) (fun i r=>r=(gh.F.take i).flatMap (yS s)) (s:=[]) rfl
  (fun i r y hy hi hr=>by
   have hm:=zKy hy;obtain ⟨b1,b2⟩:=zx6 G (hnode y hm);have hsub:r.length+(yS s y).length<=9:=by
    have h1:r++yS s y=(gh.F.take (i+1)).flatMap (yS s):=by rw [hr,zLQ,hy];simp
    have h2:((gh.F.take (i+1)).flatMap (yS s)).Sublist (gh.F.flatMap (yS s)):=by
     conv=>rhs;rw [<-zL9 (i+1) gh.F,zLV]
     exact List.sublist_append_left _ _
    have h3:=h2.length_le;rw [<-zKH,h1];omega
   have hb2:=(hnode y hm).2;refine ⟨by rw [hr,zLQ,hy];simp,?_⟩;show Um ((gh.F.length:Int),(i:Int),s,r,gh.F,())=_;rw [zjj,zp,yg,vS,zKt,zLd,hy,zKt,zp,yg,b1,zKt,yQ (by simp;omega),zKt,yM])
  (fun r hr=>by
   show Um ((gh.F.length:Int),(gh.F.length:Int),s,r,gh.F,())=_;rw [zjj,zp,zk])
 rw [zzc,zKG] at e;rw [e,zKt];dsimp only;rw [zcx (by omega)];rfl
theorem zDG {p:zd}(h:zJ p) {nb k:Nat}{s:za}{gh:Gh}(G:FG p nb k s gh):∀(n i:Nat),i+n=s.Ws.length->zyt s n (i:Int)=some ((List.range' i n).map fun j:Nat=>(s.Ws[j]?).elim [] fun x=>Z9 (ya s x++gh.D ((j:Int)+1)))
 | 0,i,_=>rfl
 | n+1,i,hi=>by
  have hx:=zKv (show i<s.Ws.length by omega);have ih:=zDG h G n (i+1) (by omega);rw [show ((i+1:Nat):Int)=(i:Int)+1 by omega] at ih;rw [zyt,zDc h G hx,zKt,ih,zKt,zL6,zLr,hx];rfl
theorem zDs {p:zd}(h:zJ p) {nb k:Nat}{s:za}{gh:Gh}(G:FG p nb k s gh):∀(n i:Nat),i+n=s.Ms.length->zx1 s n (i:Int)=some ((List.range' i n).map fun j:Nat=>(s.Ms[j]?).elim [] fun x=>Z9 (yo s x))
 | 0,i,_=>rfl
 | n+1,i,hi=>by
  have hx:=zKv (show i<s.Ms.length by omega);have ih:=zDs h G n (i+1) (by omega);rw [show ((i+1:Nat):Int)=(i:Int)+1 by omega] at ih;rw [zx1,zBV h G hx,zKt,ih,zKt,zL6,zLr,hx];rfl
theorem zGo {a b:List Int}(ha:a.length<1000000) (hb:b.length<1000000):XC [a,b]=some (a++b,()):=by
 rw [zgw];obtain ⟨e,_⟩:=ZM (f:=wo) (fun j (r:Int)=>([a,b],r,[a,b],2,j,())) (fun r=>([a,b],r,())) [a,b] (show 2<1000000 by decide) (fun r x=>r+(x.length:Int)) (fun i r=>0<=r/\r<=(i:Int)*1000000) (s:=0) ⟨by omega,by omega⟩
  (fun i r x hx hi hr=>by
   have hi:i<2:=hi;have hxl:x.length<1000000:=by
    rcases zKN.1 (zKy hx) with rfl | hx
    .exact ha
    .rw [zLf.1 hx];exact hb
   refine ⟨⟨by omega,by omega⟩,?_⟩;show wo ([a,b],r,[a,b],2,(i:Int),())=_;rw [W1,zp,yg,yY hx,zKt,yb (a:=r+(x.length:Int)) (by omega) (by omega),zp,zk,yM])
  (fun r hr=>by
   show wo ([a,b],r,[a,b],2,2,())=_;rw [W1];rfl)
 have e:yf wo ([a,b],0,[a,b],(([a,b]:List (List Int)).length:Int),0,())=some (.brk ([a,b],0+(a.length:Int)+(b.length:Int),())):=e;rw [e,zKt];dsimp only;have hg:zD6 (0+(a.length:Int)+(b.length:Int))=some ([],()):=by
  rw [zHa];unfold zv3;rw [zr (by omega:(0:Int)<=0+(a.length:Int)+(b.length:Int)),zr (by omega:0+(a.length:Int)+(b.length:Int)<4294967296)];rfl
 rw [hg,zKt];obtain ⟨e,_⟩:=ZM (f:=wi) (fun j (r:List Int)=>([a,b],2,j,r,())) (fun r=>(r,())) [a,b] (show 2<1000000 by decide) (fun r x=>r++x) (fun i r=>r.length<=i*1000000) (s:=[]) (by simp)
  (fun i r x hx hi hr=>by
   have hi:i<2:=hi;have hxl:x.length<1000000:=by
    rcases zKN.1 (zKy hx) with rfl | hx
    .exact ha
    .rw [zLf.1 hx];exact hb
   refine ⟨by rw [zKH];omega,?_⟩;show wi ([a,b],2,(i:Int),r,())=_;rw [Ww,zp,yg,yY hx,zKt,yQ (by simp;omega),zKt,yM])
  (fun r hr=>by
   show wi ([a,b],2,2,r,())=_;rw [Ww];rfl)
 have e:yf wi ([a,b],(([a,b]:List (List Int)).length:Int),0,([]:List Int),())=some (.brk ([]++a++b,())):=e;rw [e];rfl
theorem zIo {a b:List Int}(ha:a.length<1000000) (hb:b.length<1000000):zsQ a b=some (Z9 (a++b),()):=by
 rw [zBe,zGo ha hb,zKt,zy0 (by simp;omega)];rfl
theorem zzn:∀(ys:List (List Int)) (a:List Int),(a++ys.flatten).length<1000000->Z3 zdf ys (Z9 a,())=some (Z9 (a++ys.flatten),())
 | [],a,_=>by rw [Z3];simp
 | y::ys,a,hl=>by
  rw [List.flatten_cons,<-zKD] at hl ⊢;have hl2:=hl;rw [zKH,zKH] at hl2;rw [Z3,ztT,zIo (by rw [zHj];omega) (by omega),zKt,zKt];dsimp only;rw [zHi];exact zzn ys (a++y) hl
theorem zzf {α:Type}{f:α->List Int}(l:List α):zMu ((l.map fun x=>Z9 (f x)).flatten) (l.flatMap f):=by
 induction l with
 | nil=>exact zKX _
 | cons a l ih =>
  rw [zLr,List.flatten_cons,zLl];exact (Uj _).append ih
theorem zHm {p:zd}(h:zJ p) {k:Nat}{s:za}{gh:Gh}(G:FG p (yh p+1) k s gh):∃ys,zwc s=some ys/\zMu ys.flatten (vd p s gh):=by
 have hwl:=G.E.wl;have hwk:=h.wk;have hml:=G.E.ml;have hmt:=h.mt;refine ⟨_,by
  unfold zwc;rw [zr (show s.Ws.length<1000000 by omega),zr (show s.Ms.length<1000000 by omega),(zEL h G).1,Bool.and_self,zu,zKt,show (0:Int)=((0:Nat):Int) from rfl,zDG h G s.Ws.length 0 (by omega),zKt,zDs h G s.Ms.length 0 (by omega),zKt],?_⟩
 have eW:((List.range' 0 s.Ws.length).map fun j:Nat=>(s.Ws[j]?).elim [] fun x=>Z9 (ya s x++gh.D ((j:Int)+1)))=(zMt s.Ws.length).map fun j:Nat=>Z9 ((s.Ws[j]?).elim [] fun x=>ya s x++gh.D ((j:Int)+1)):=by
  rw [<-zLX];refine zL7 (fun j hj=>?_);rw [zKv (zK6.1 hj)];rfl
 have eM:((List.range' 0 s.Ms.length).map fun j:Nat=>(s.Ms[j]?).elim [] fun x=>Z9 (yo s x))=(zMt s.Ms.length).map fun j:Nat=>Z9 ((s.Ms[j]?).elim [] (yo s)):=by
  rw [<-zLX];refine zL7 (fun j hj=>?_);rw [zKv (zK6.1 hj)];rfl
 dsimp only;rw [eW,eM,List.flatten_cons,List.flatten_append];refine ((Uj _).append ((zzf _).append (zzf _))).trans ?_;rw [zwG (f:=yo s) s.Ms];have eW2:(zMt s.Ws.length).flatMap (fun j:Nat=>(s.Ws[j]?).elim [] fun x=>ya s x++gh.D ((j:Int)+1))=(zMt s.Ws.length).flatMap (fun j:Nat=>(s.Ws[j]?).elim [] (ya s)++gh.D ((j:Int)+1)) :=
  wW (fun j hj=>by rw [zKv (zK6.1 hj)];rfl)
 rw [eW2];unfold vd yR;have en:p.Workers.toNat=s.Ws.length:=by omega
 rw [en,zKD];refine zKK _ ?_;rw [<-zKD];refine zL2 _ ?_;refine (zzt (zMt s.Ws.length) (f:=fun i:Nat=>(s.Ws[i]?).elim [] (ya s)) (g:=fun i:Nat=>gh.D ((i:Int)+1))).trans ?_;rw [zwG (f:=ya s) s.Ws];exact zLm
theorem FG.bag9 {p:zd}(h:zJ p) {nb k:Nat}{s:za}{gh:Gh}(G:FG p nb k s gh):(vd p s gh).length<=9/\∀o∈vd p s gh,1<=o/\o<=9:=by
 have hN:=G.E.H.n;have hn:=h.n;have hmo:=h.most;have hr:∀o∈vd p s gh,1<=o/\o<=(s.H.Objs.length:Int):=fun o ho=>⟨(za6 ((G.B.gr o).1 ho)).1,G.mrk o ((uw _ _).1 ((G.B.gr o).1 ho)).1⟩
 have:=zvr s.H.Objs.length _ G.B.nd hr;exact ⟨by omega,fun o ho=>by have:=hr o ho;omega⟩
theorem zGy {p:zd}(h:zJ p) {k:Nat}{s:za}{gh:Gh}(G:FG p (yh p+1) k s gh):zbQ s=some (Z9 (vd p s gh),()):=by
 obtain ⟨ys,e,hp⟩:=zHm h G;have hl:=(G.bag9 h).1;rw [zxu,zzT,zKt];have ej:zrF s.P.Workers s.P.Mutators s.P.Cap s.P.Buf s.P.Bin s.P.Most s.P.Price s.P.Limit s.P.H.Slots s.P.H.Objs s.P.Roots s.P.Regs s.P.Progs s.P.Picks s.H.Slots s.H.Objs s.M s.Bins s.T.Marks s.T.Black s.Work s.Epoch s.Flag s.Done s.Restarts s.Acks s.L.Scanned s.L.Spent s.L.Pool s.L.Bal s.Ws s.Ms s.D.PC s.D.I=some ys:=e;dsimp only;rw [ej,zKt];have:=zzn ys [] (by rw [zKG,hp.length_eq];omega);rw [zKG] at this;have this:Z3 zdf ys (([]:List Int),())=some (Z9 ys.flatten,()):=this;rw [this,zDr hp];rfl
def uZ (s:za):List zI:=(s.Ws.filter (fun x=>decide (x.PC=6))).map (·.G)++(s.Ms.filter (fun x=>decide (x.PC=3\/x.PC=37))).map (·.G)
theorem zqa {α β:Type}(c:α->Bool) (f:α->β):∀(l:List α) (a:List β),l.foldl (fun r x=>bif c x then r++[f x] else r) a=a++(l.filter c).map f
 | [],a=>by simp
 | x::l,a=>by
  rw [zLk,zqa c f l,List.filter_cons];cases c x<;>simp
theorem zD7 (x:ze):Zc x=some (decide (x.PC=3\/x.PC=37),()):=by
 rw [zfS];by_cases c:x.PC=3
 .rw [zr c,zr (show x.PC=3\/x.PC=37 from .inl c)];rfl
 .rw [zN c];by_cases c2:x.PC=37
  .rw [zr c2,zr (show x.PC=3\/x.PC=37 from .inr c2)];rfl
  .rw [zN c2,zN (show ¬(x.PC=3\/x.PC=37) from fun e=>e.elim c c2)];rfl
theorem zq5 {s:za}(h1:s.Ws.length<=100) (h2:s.Ms.length<=100):zcj s=some (uZ s,()):=by
 rw [zsf];obtain ⟨e,_⟩:=ZM (f:=XJ) (fun j r=>(s.Ws,(s.Ws.length:Int),j,s,r,())) (fun r=>(s,r,())) s.Ws (zMc h1 (by decide)) (fun r x=>bif decide (x.PC=6) then r++[x.G] else r) (fun i r=>r.length<=i) (s:=[]) (by simp)
  (fun i r x hx hi hr=>by
   refine ⟨?_,?_⟩
   .cases decide (x.PC=6)
    .show r.length<=_;omega
    .show (r++[x.G]).length<=_;simp;omega
   show XJ (s.Ws,(s.Ws.length:Int),(i:Int),s,r,())=_;rw [zfo,zp,yg,yY hx,zKt,yQ (by simp;omega),zKt,yM];cases decide (x.PC=6)<;>rfl)
  (fun r hr=>by
   show XJ (s.Ws,(s.Ws.length:Int),(s.Ws.length:Int),s,r,())=_;rw [zfo,zp,zk])
 rw [zqa,zKG] at e;rw [e,zKt];dsimp only;have hfl:((s.Ws.filter (fun x:zi=>decide (x.PC=6))).map fun x:zi=>x.G).length<=s.Ws.length:=by rw [zLq];exact zLI _ _
 obtain ⟨e,_⟩:=ZM (f:=Xu) (fun j r=>(s.Ms,(s.Ms.length:Int),j,r,())) (fun r=>(r,())) s.Ms (zMc h2 (by decide)) (fun r x=>bif decide (x.PC=3\/x.PC=37) then r++[x.G] else r) (fun i r=>r.length<=i+100) (s:=(s.Ws.filter (fun x:zi=>decide (x.PC=6))).map fun x:zi=>x.G) (by omega)
  (fun i r x hx hi hr=>by
   refine ⟨?_,?_⟩
   .cases decide (x.PC=3\/x.PC=37)
    .show r.length<=_;omega
    .show (r++[x.G]).length<=_;simp;omega
   show Xu (s.Ms,(s.Ms.length:Int),(i:Int),r,())=_;rw [zfk,zp,yg,yY hx,zKt,zD7,zKt,yQ (by simp;omega),zKt,yM];dsimp only;cases decide (x.PC=3\/x.PC=37)<;>rfl)
  (fun r hr=>by
   show Xu (s.Ms,(s.Ms.length:Int),(s.Ms.length:Int),r,())=_;rw [zfk,zp,zk])
 rw [zqa] at e;rw [e];rfl
theorem zBw (g:zI):owG g=0\/owG g=1:=by unfold owG;split<;>simp
theorem zFm (g:zI):zoV g=some (owG g,()):=by
 rw [zyb,zlX];simp only [zp];unfold owG;by_cases c1:g.Out=0
 .rw [zb c1];by_cases c2:1<=g.PC
  .rw [zb c2];by_cases c3:g.PC<=2
   .rw [zb c3,zb ⟨c1,by omega⟩];rfl
   .rw [zc c3,zk];rfl
  .rw [zc c2,zk];rfl
 .rw [zc c1,zc (fun e=>c1 e.1)];rfl
theorem znz {α:Type}(f:α->Int):∀(l:List α) (a:Int),l.foldl (fun r x=>r+f x) a=a+(l.map f).sum
 | [],a=>by simp
 | x::l,a=>by rw [zLk,znz f l,zLr,zLp];omega
theorem zsY {α:Type}(c:α->Bool) (f g h:α->Int) (e:∀x,h x=(bif c x then f x else 0)+g x):∀l:List α,(l.map h).sum=((l.filter c).map f).sum+(l.map g).sum
 | []=>rfl
 | x::l=>by
  rw [zLr,zLp,zsY c f g h e l,List.filter_cons,e x,zLr,zLp];cases c x<;>simp<;>omega
theorem zGx (s:za):WW s=((uZ s).map owG).sum+(s.Ws.map fun x=>if x.PC=9 then (1:Int) else 0).sum+(s.Ms.map fun x=>if x.PC=39 then (1:Int) else 0).sum:=by
 have hW:=zsY (fun x:zi=>decide (x.PC=6)) (fun x=>owG x.G) (fun x=>if x.PC=9 then (1:Int) else 0) owW (fun x=>by
  unfold owW;by_cases c:x.PC=9
  .rw [zb c,zb c,zN (show ¬x.PC=6 by omega)];rfl
  .rw [zc c,zc c];by_cases c6:x.PC=6
   .rw [zb c6,zr c6];show owG x.G=owG x.G+0;omega
   .rw [zc c6,zN c6];rfl) s.Ws
 have hX:=zsY (fun x:ze=>decide (x.PC=3\/x.PC=37)) (fun x=>owG x.G) (fun x=>if x.PC=39 then (1:Int) else 0) owX (fun x=>by
  unfold owX;by_cases c:x.PC=39
  .rw [zb c,zb c,zN (show ¬(x.PC=3\/x.PC=37) by omega)];rfl
  .rw [zc c,zc c];by_cases c6:x.PC=3\/x.PC=37
   .rw [zb c6,zr c6];show owG x.G=owG x.G+0;omega
   .rw [zc c6,zN c6];rfl) s.Ms
 unfold WW uZ;rw [hW,hX,List.map_append,List.sum_append,List.map_map,List.map_map];have a1:(List.map (owG ∘ fun x:zi=>x.G) (s.Ws.filter fun x=>decide (x.PC=6)))=(s.Ws.filter fun x=>decide (x.PC=6)).map fun x=>owG x.G:=rfl;have a2:(List.map (owG ∘ fun x:ze=>x.G) (s.Ms.filter fun x=>decide (x.PC=3\/x.PC=37)))=(s.Ms.filter fun x=>decide (x.PC=3\/x.PC=37)).map fun x=>owG x.G:=rfl;rw [a1,a2];omega
theorem zFh {s:za}(h1:s.Ws.length<=100) (h2:s.Ms.length<=100):zoE s=some (WW s,()):=by
 rw [zx5,zq5 h1 h2,zKt];dsimp only;have hl:(uZ s).length<=200:=by
  unfold uZ;rw [zKH,zLq,zLq];have:=zLI (fun x:zi=>decide (x.PC=6)) s.Ws;have:=zLI (fun x:ze=>decide (x.PC=3\/x.PC=37)) s.Ms;omega
 obtain ⟨e,b1,b2⟩:=ZM (f:=zal) (fun j r=>(r,((uZ s).length:Int),j,s,uZ s,())) (fun r=>(r,s,())) (uZ s) (by omega) (fun r x=>r+owG x) (fun i r=>0<=r/\r<=(i:Int)) (s:=0) ⟨by omega,by omega⟩
  (fun i r x hx hi hr=>by
   have:=zBw x;refine ⟨⟨by omega,by omega⟩,?_⟩;show zal (r,((uZ s).length:Int),(i:Int),s,uZ s,())=_;rw [zkn,zp,yg,vS,zKt,zLd,hx,zKt,zFm,zKt,yM,yb])
  (fun r hr=>by
   show zal (r,((uZ s).length:Int),((uZ s).length:Int),s,uZ s,())=_;rw [zkn,zp,zk])
 rw [znz] at e b1 b2;rw [e,zKt];dsimp only;generalize hr0:0+((uZ s).map owG).sum=r0 at b1 b2;obtain ⟨e,b3,b4⟩:=ZM (f:=zaC) (fun j r=>(r,s.Ws,(s.Ws.length:Int),j,s,())) (fun r=>(r,s,())) s.Ws (by omega) (fun (r:Int) x=>r+if x.PC=9 then 1 else 0) (fun i r=>0<=r/\r<=200+(i:Int)) (s:=r0) ⟨by omega,by omega⟩
  (fun i r x hx hi hr=>by
   refine ⟨⟨by split<;>omega,by split<;>omega⟩,?_⟩;show zaC (r,s.Ws,(s.Ws.length:Int),(i:Int),s,())=_;rw [zkz,zp,yg,yY hx,zKt,yM,zp];by_cases c:x.PC=9
   .rw [zb c,zb c,yb]
   .rw [zc c,zc c,show r+0=r by omega])
  (fun r hr=>by
   show zaC (r,s.Ws,(s.Ws.length:Int),(s.Ws.length:Int),s,())=_;rw [zkz,zp,zk])
 rw [znz] at e b3 b4;rw [e,zKt];dsimp only;generalize hr1:r0+(s.Ws.map fun x=>if x.PC=9 then (1:Int) else 0).sum=r1 at b3 b4;obtain ⟨e,_⟩:=ZM (f:=Ud) (fun j r=>(r,s.Ms,(s.Ms.length:Int),j,())) (fun r=>(r,())) s.Ms (by omega) (fun (r:Int) x=>r+if x.PC=39 then 1 else 0) (fun i r=>0<=r/\r<=400+(i:Int)) (s:=r1) ⟨by omega,by omega⟩
  (fun i r x hx hi hr=>by
   refine ⟨⟨by split<;>omega,by split<;>omega⟩,?_⟩;show Ud (r,s.Ms,(s.Ms.length:Int),(i:Int),())=_;rw [ziY,zp,yg,yY hx,zKt,yM,zp];by_cases c:x.PC=39
   .rw [zb c,zb c,yb]
   .rw [zc c,zc c,show r+0=r by omega])
  (fun r hr=>by
   show Ud (r,s.Ms,(s.Ms.length:Int),(s.Ms.length:Int),())=_;rw [ziY,zp,zk])
 rw [znz] at e;rw [e,zKt,zGx];dsimp only;rw [<-hr1,<-hr0];congr 2;omega
theorem zGg (s:za):0<=WW s/\WW s<=(s.Ws.length:Int)+(s.Ms.length:Int):=by
 have b:∀ {α:Type}(f:α->Int),(∀x,0<=f x/\f x<=1)->∀l:List α,0<=(l.map f).sum/\(l.map f).sum<=(l.length:Int):=fun f hf l=>by
  induction l with
  | nil=>exact ⟨zKW _,zKW _⟩
  | cons x l ih =>
   have:=hf x;rw [zLr,zLp,zKM];omega
 have h1:=b owW (fun x=>by
  have:=zBw x.G;unfold owW;split
  .omega
  .split<;>omega) s.Ws
 have h2:=b owX (fun x=>by
  have:=zBw x.G;unfold owX;split
  .omega
  .split<;>omega) s.Ms
 unfold WW;omega
inductive Reach (h:zt) (R:BitVec 64):Int->Prop
 | root (o:Int) (h1:zR R o=true) (h2:1<=o/\o<=(h.Objs.length:Int)):Reach h R o
 | step (o v:Int) (h1:Reach h R o) (h2:v∈zX h o) (h3:1<=v/\v<=(h.Objs.length:Int)):Reach h R v
theorem Reach.in {h:zt}{R:BitVec 64}{o:Int}(r:Reach h R o):1<=o/\o<=(h.Objs.length:Int):=by
 cases r with
 | root _ _ h2=>exact h2
 | step _ _ _ _ h3=>exact h3
theorem zD8:∀t:Fin 512,zpW 66 (zMq 64 t.1)=some (((zMt 9).filter fun i=>(zMq 64 t.1).getLsbD i).map fun i:Nat=>(i:Int)+1):=by decide +kernel
def ZG (s:BitVec 64):List Int:=((zMt 9).filter fun i=>s.getLsbD i).map fun i:Nat=>(i:Int)+1
theorem zIk:∀t:Fin 512,Go.Lib.ctz 64 t.1<=64:=by decide +kernel
theorem zzl:∀(f:Nat) (s:BitVec 64),s.toNat<512->zan f s=zpW f s
 | 0,_,_=>rfl
 | f+1,s,h=>by
  simp only [zan,zpW];rw [zzl f _ (by rw [zLz];exact zMc Nat.and_le_left h)];have:Go.Lib.ctz 64 s.toNat<=64:=zIk ⟨s.toNat,h⟩;have e:w64 (tz s+1)=((Go.Lib.ctz 64 s.toNat:Nat):Int)+1:=by
   unfold tz;exact yb
  rw [e]
theorem zF6 (s:BitVec 64) (o:Int):o∈ZG s↔1<=o/\o<=9/\zR s o=true:=by
 unfold ZG;rw [zKE];constructor
 .rintro ⟨i,hi,rfl⟩;obtain ⟨a,b⟩:=zLR.1 hi;have a:=zK6.1 a;exact ⟨by omega,by omega,(xw _ _).2 ⟨by omega,by omega,by rw [show ((i:Int)+1-1).toNat=i by omega];exact b⟩⟩
 .rintro ⟨a,b,c⟩;obtain ⟨_,_,d⟩:=(xw _ _).1 c;exact ⟨(o-1).toNat,zLR.2 ⟨zK6.2 (by omega),d⟩,by omega⟩
theorem zyS (s:BitVec 64):(ZG s).length<=9:=by
 unfold ZG;rw [zLq];exact zLB (zLI _ _) (by simp)
theorem zGF {s:BitVec 64}(h:∀o,zR s o=true->o<=9):zf7 s=some (ZG s,()):=by
 obtain ⟨t,rfl⟩:=zCd h;have e:zlA (zMq 64 t.1)=some (ZG (zMq 64 t.1)):=by
  show zan 66 _=_;rw [zzl 66 _ (by simp;omega),zD8 t];rfl
 have:=zyS (zMq 64 t.1);rw [zri,zrh,zKt,e,zKt,zqK _ _ (by simp;omega)];rfl
theorem zto {α:Type}{l:List α}{n:Nat}{i:Int}(h:0<=i) (h1:i<l.length) (h2:i<n):zhe l n i=some i.toNat:=by
 unfold zhe;simp [h,h1,h2]
def mt (met:List Int) (o:Int):Int:=met.getD (o-1).toNat 0
def VC (met:List Int):Nat:=met.countP (fun x=>decide (x=0))
theorem zvY {met:List Int}{o:Int}(h:1<=o/\o<=(met.length:Int)):met[(o-1).toNat]? =some (mt met o):=by
 have e:=zKv (show (o-1).toNat<met.length by omega);unfold mt;rw [zKw,e];rfl
theorem zlF {met:List Int}{o q x:Int}(h:1<=o/\o<=(met.length:Int)) (hq:1<=q):mt (met.set (o-1).toNat x) q=if q=o then x else mt met q:=by
 unfold mt;rw [zKw,zKw,zLg];by_cases e:q=o
 .subst e;rw [zb rfl,zb rfl,yg];rfl
 .rw [zk,zc e]
theorem zFk {met:List Int}{o x:Int}(h:1<=o/\o<=(met.length:Int)) (h0:mt met o=0) (hx:x≠0):VC (met.set (o-1).toNat x)+1=VC met:=by
 have hl:(o-1).toNat<met.length:=by omega
 have e:met[(o-1).toNat]'hl=0:=by
  have:=zvY h;rw [h0,zKv hl] at this;exact Option.some.inj this
 have hm:(0:Int)∈met:=by rw [<-e];exact zKR hl
 have hp:0<VC met:=List.countP_pos_iff.2 ⟨0,hm,by simp⟩;unfold VC at hp ⊢;rw [List.countP_set hl,e];simp [hx];omega
structure RI (h:zt) (R:BitVec 64) (met wait:List Int):Prop where
 len:met.length=64
 val:∀o,1<=o->0<=mt met o/\mt met o<=100-(VC met:Int)
 rc:∀o,1<=o->0<mt met o->Reach h R o
 rt:∀o,zR R o=true->1<=o/\o<=(h.Objs.length:Int)->0<mt met o
 wt:∀o∈wait,(1<=o/\o<=(h.Objs.length:Int))/\0<mt met o
 cl:∀o,1<=o->0<mt met o->o∉wait->∀v∈zX h o,1<=v/\v<=(h.Objs.length:Int)->0<mt met v
 zl:VC met<=64
theorem zHV (met:List Int):VC met<=met.length:=List.countP_le_length
theorem RI.add {h:zt}{R:BitVec 64}{met wait:List Int}{o v:Int}(hn:h.Objs.length<=9) (I:RI h R met wait) (ho:o∈wait) (hv:v∈zX h o) (hr:1<=v/\v<=(h.Objs.length:Int)) (h0:mt met v=0) :
  RI h R (met.set (v-1).toNat (mt met o+1)) (wait++[v])/\VC (met.set (v-1).toNat (mt met o+1))+1=VC met:=by
 obtain ⟨ho1,ho2⟩:=I.wt o ho;have hlen:=I.len;have hvl:1<=v/\v<=(met.length:Int):=by omega
 have hz:=zFk (x:=mt met o+1) hvl h0 (by omega);have hval:=I.val o ho1.1;have hzl:=I.zl;have key:∀q,1<=q->0<mt met q->0<mt (met.set (v-1).toNat (mt met o+1)) q:=fun q hq hp=>by
  rw [zlF hvl hq];split<;>omega
 refine ⟨⟨by rw [zKV];exact hlen,fun q hq=>?_,fun q hq hp=>?_,fun q a b=>key q b.1 (I.rt q a b),fun q hq=>?_,fun q hq hp hw u hu hur=>?_,by omega⟩,hz⟩
 .have:=I.val q hq;rw [zlF hvl hq];split<;>omega
 .rw [zlF hvl hq] at hp;split at hp
  .rename_i e;subst e;exact .step o q (I.rc o ho1.1 ho2) hv hr
  .exact I.rc q hq hp
 .rcases zKS.1 hq with hq | hq
  .exact ⟨(I.wt q hq).1,key q (I.wt q hq).1.1 (I.wt q hq).2⟩
  .simp at hq;subst hq;refine ⟨hr,?_⟩;rw [zlF hvl hr.1,zb rfl];omega
 .have hw1:q∉wait:=fun e=>hw (zKO _ e);have hw2:q≠v:=fun e=>hw (by rw [e];simp);rw [zlF hvl hq,zc hw2] at hp;exact key u hur.1 (I.cl q hq hp hw1 u hu hur)
theorem RI.rm {h:zt}{R:BitVec 64}{met:List Int}{o:Int}{w:List Int}(I:RI h R met (o::w)) (hd:∀v∈zX h o,1<=v/\v<=(h.Objs.length:Int)->0<mt met v):RI h R met w :=
 ⟨I.len,I.val,I.rc,I.rt,fun q hq=>I.wt q (zKA _ hq),fun q hq hp hw v hv hr=>by
  by_cases e:q=o
  .rw [e] at hv;exact hd v hv hr
  .exact I.cl q hq hp (fun h=>(zKN.1 h).elim e hw) v hv hr,I.zl⟩
theorem zD9 {h:zt}{R:BitVec 64}(hn:h.Objs.length<=9) {o:Int}{w0:List Int}{a7:List Int}(hs:(zX h o).length<1000000):∀(n:Nat) (met added:List Int) (i:Nat),(zX h o).length-i=n->i<=(zX h o).length->RI h R met (o::w0++added)->(o::w0++added).length+VC met<=200 ->
  (∀v∈(zX h o).take i,1<=v/\v<=(h.Objs.length:Int)->0<mt met v)->∀m,n<m ->
  ∃met' added',yZ ue m (xW (h.Objs.length:Int),o,zX h o,((zX h o).length:Int),(i:Int),h,a7,met,o::w0++added,())=some (.brk (xW (h.Objs.length:Int),h,a7,met',o::w0++added',())) /\
   RI h R met' (o::w0++added')/\(o::w0++added').length+VC met'=(o::w0++added).length+VC met/\VC met'<=VC met/\(∀v∈zX h o,1<=v/\v<=(h.Objs.length:Int)->0<mt met' v):=by
 intro n
 induction n with
 | zero =>
  intro met added i hk hi I hz hd m hm;obtain ⟨m,rfl⟩:∃x,m=x+1:=⟨m-1,by omega⟩
  have e:i=(zX h o).length:=by omega
  subst e;rw [zMa] at hd;refine ⟨met,added,?_,I,rfl,zKz _,hd⟩;rw [yZ,XU,zp,zk];rfl
 | succ n ih =>
  intro met added i hk hi I hz hd m hm;obtain ⟨m,rfl⟩:∃x,m=x+1:=⟨m-1,by omega⟩
  have hx:=zKv (show i<(zX h o).length by omega);generalize hxv:(zX h o)[i]'(by omega)=v at hx;have hv:v∈zX h o:=zKy hx;have hlen:=I.len;have ho:=I.wt o (by simp);have hval:=I.val o ho.1.1;have htk:(zX h o).take (i+1)=(zX h o).take i++[v]:=by rw [zLQ,hx];rfl
  rw [yZ,XU,zp,yg,yY hx,zKt,zlw,zKt];have hb:=Xp hn v;unfold zR at hb;by_cases hr:1<=v/\v<=(h.Objs.length:Int)
  .have hb1:=hb.2 hr;dsimp only;rw [hb1,zu,yb (a:=v-1) (by omega) (by omega),zto (by omega) (by omega) (by omega),zKt,zvY (by omega),zKt,zp];by_cases h0:mt met v=0
   .rw [zb h0,yb (a:=o-1) (by omega) (by omega),zto (by omega) (by omega) (by omega),zKt,zvY (by omega),zKt,zKt,yQ (by rw [zKH];show _+1<_;omega),zKt,yb (a:=(i:Int)+1) (by omega) (by omega),yb (a:=mt met o+1) (by omega) (by omega),zKt];obtain ⟨I',hz'⟩:=I.add hn (by simp) hv hr h0;dsimp only;rw [zKD] at I' ⊢;have hz2:(o::w0++(added++[v])).length=(o::w0++added).length+1:=by simp;omega
    obtain ⟨met',added',e1,e2,e3,e4,e5⟩:=ih (met.set (v-1).toNat (mt met o+1)) (added++[v]) (i+1) (by omega) (by omega) I' (by omega) (fun q hq hqr=>by
     rw [zlF (by omega) hqr.1];split
     .omega
     .rename_i hne;rw [htk] at hq;rcases zKS.1 hq with hq | hq
      .exact hd q hq hqr
      .simp at hq;exact zj hq hne) m (by omega)
    refine ⟨met',added',?_,e2,by omega,by omega,e5⟩;have:((i+1:Nat):Int)=(i:Int)+1:=by omega
    rw [<-this];exact e1
   .rw [zc h0,yb (a:=(i:Int)+1) (by omega) (by omega),zKt];have hp:0<mt met v:=by have:=I.val v hr.1;omega
    obtain ⟨met',added',e1,e2⟩:=ih met added (i+1) (by omega) (by omega) I hz (fun q hq hqr=>by
     rw [htk] at hq;rcases zKS.1 hq with hq | hq
     .exact hd q hq hqr
     .simp at hq;rw [hq];exact hp) m (by omega)
    refine ⟨met',added',?_,e2⟩;have:((i+1:Nat):Int)=(i:Int)+1:=by omega
    rw [<-this];exact e1
  .have hb1:(!(decide (xW (h.Objs.length:Int)&&&bit v=0#64)))=false:=by
    cases hc:(!(decide (xW (h.Objs.length:Int)&&&bit v=0#64))) with
    | false=>rfl
    | true=>exact zj (hb.1 hc) hr
   dsimp only;rw [hb1,zM,yb (a:=(i:Int)+1) (by omega) (by omega),zKt];obtain ⟨met',added',e1,e2⟩:=ih met added (i+1) (by omega) (by omega) I hz (fun q hq hqr=>by
    rw [htk] at hq;rcases zKS.1 hq with hq | hq
    .exact hd q hq hqr
    .simp at hq;rw [hq] at hqr;exact zj hqr hr) m (by omega)
   refine ⟨met',added',?_,e2⟩;have:((i+1:Nat):Int)=(i:Int)+1:=by omega
   rw [<-this];exact e1
theorem zq4 {A B D:Type}{f:A->Option (yL A B D)}{x:A}{b:B}{n:Nat}(h:yZ f n x=some (.brk b)) (hn:n<=vZ):yf f x=some (.brk b):=by
 rw [Xh];have key:∀(n m:Nat) (x:A),yZ f n x=some (.brk b)->n<=m->yZ f m x=some (.brk b):=by
  intro n
  induction n with
  | zero=>intro m x h;cases h
  | succ n ih =>
   intro m x h hm;obtain ⟨m,rfl⟩:∃q,m=q+1:=⟨m-1,by omega⟩
   simp only [yZ,zKF] at h ⊢;obtain ⟨s,h1,h2⟩:=h;refine ⟨s,h1,?_⟩;cases s with
   | again y=>exact ih m y h2 (by omega)
   | brk b'=>exact h2
   | ret c=>exact h2
 exact key n vZ x h hn
theorem zHA {h:zt}{R:BitVec 64}(hn:h.Objs.length<=9) (hs:∀o,(zX h o).length<1000000) {a7:List Int}:∀(n:Nat) (met wait:List Int),wait.length+2*VC met<=n->wait.length+VC met<=200->RI h R met wait->∀m,n<m ->
  ∃met',yZ Yv m (xW (h.Objs.length:Int),h,a7,met,wait,())=some (.brk (a7,met',()))/\RI h R met' []:=by
 intro n
 induction n with
 | zero =>
  intro met wait hz hz2 I m hm;obtain ⟨m,rfl⟩:∃x,m=x+1:=⟨m-1,by omega⟩
  have:wait=[]:=zLi (by omega);subst this;refine ⟨met,?_,I⟩;rw [yZ,ZB,zp,zc (by simp)];rfl
 | succ n ih =>
  intro met wait hz hz2 I m hm;obtain ⟨m,rfl⟩:∃x,m=x+1:=⟨m-1,by omega⟩
  cases wait with
  | nil =>
   refine ⟨met,?_,I⟩;rw [yZ,ZB,zp,zc (by simp)];rfl
  | cons o w =>
   have ho:=(I.wt o (by simp)).1;have hso:=hs o;have eo:=zKv (show (o-1).toNat<h.Objs.length by omega);have es:h.Objs[(o-1).toNat]'(by omega)=zX h o:=by unfold zX;rw [zKw,eo];rfl
   obtain ⟨met',added',e1,e2,e3,e4,e5⟩:=zD9 (a7:=a7) hn (o:=o) (w0:=w) hso _ met [] 0 rfl (zLH _) (by simpa using I) (by simpa using hz2) (fun v hv=>by simp at hv) ((zX h o).length+1) (by omega);simp only [zKx,Int.natCast_zero] at e1 e3;have e1:yZ ue ((zX h o).length+1) (xW (h.Objs.length:Int),o,zX h o,((zX h o).length:Int),0,h,a7,met,o::w,())=some (.brk (xW (h.Objs.length:Int),h,a7,met',o::w++added',())):=e1;have hidx:wj (o::w) 0=some 0:=by rw [vS (by omega) (by simp)];rfl
   rw [yZ,ZB,zp,zb (by simp),hidx,zKt];simp only [zLy,zKt,zty,zKI,zM];rw [yb (a:=o-1) (by omega) (by omega),v8,eo,zKt,es,zq4 e1 (by have:vZ=18446744073709551616:=rfl;omega)];dsimp only [zKt];rw [zLZ,zuH,zKt,zKt];dsimp only;rw [zLZ] at e2;exact ih met' (w++added') (by simp at e3 hz ⊢;omega) (by simp at e3 hz2 ⊢;omega) (e2.rm e5) m (by omega)
theorem zI8 (o:Int):mt (zMr 64 (0:Int)) o=0:=by
 unfold mt;rw [zKw,zLP];split<;>rfl
theorem zEo {h:zt}{a1:BitVec 64}{a5:List Int}:∀(n i:Nat) (l met:List Int),l.length-i=n->i<=l.length->l.length<1000000->(∀o∈l,1<=o/\o<=9)->met.length=64->(∀o,1<=o->mt met o=if o∈l.take i then 1 else 0)->∀m,n<m ->
  ∃met',yZ Yu m (a1,(l.length:Int),(i:Int),h,a5,met,l,())=some (.brk (a1,h,a5,met',l,()))/\met'.length=64/\∀o,1<=o->mt met' o=if o∈l then 1 else 0:=by
 intro n
 induction n with
 | zero =>
  intro i l met hk hi hl hr hm ht m hm2;obtain ⟨m,rfl⟩:∃x,m=x+1:=⟨m-1,by omega⟩
  have e:i=l.length:=by omega
  subst e;rw [zMa] at ht;refine ⟨met,?_,hm,ht⟩;rw [yZ,Wx,zp,zk];rfl
 | succ n ih =>
  intro i l met hk hi hl hr hm ht m hm2;obtain ⟨m,rfl⟩:∃x,m=x+1:=⟨m-1,by omega⟩
  have hx:=zKv (show i<l.length by omega);generalize hxv:l[i]'(by omega)=v at hx;have hv:=hr v (zKy hx);have htk:l.take (i+1)=l.take i++[v]:=by rw [zLQ,hx];rfl
  rw [yZ,Wx,zp,yg,vS,zKt,zLd,hx,zKt,yb (a:=v-1) (by omega) (by omega),zto (by omega) (by omega) (by omega),zKt,yb (a:=(i:Int)+1) (by omega) (by omega),zKt];obtain ⟨met',e1,e2⟩:=ih (i+1) l (met.set (v-1).toNat 1) (by omega) (by omega) hl hr (by rw [zKV];exact hm) (fun o ho=>by
   rw [zlF (by omega) ho,ht o ho,htk];by_cases e:o=v
   .rw [zb e,zb (by rw [e];simp)]
   .rw [zc e];by_cases e2:o∈l.take i
    .rw [zb e2,zb (zKO _ e2)]
    .rw [zc e2,zc (fun h=>(zKS.1 h).elim e2 (fun h=>e (by simpa using h)))]) m (by omega)
  refine ⟨met',?_,e2⟩;have:((i+1:Nat):Int)=(i:Int)+1:=by omega
  rw [<-this];exact e1
theorem zCy {met:List Int}(hl:met.length=64):∃S,zeL met=some (S,())/\∀o,zR S o=true↔1<=o/\0<mt met o:=by
 rw [zrB,zp,zb hl];have key:=wN (f:=zb5) (fun a=>∃(i:Nat) (S:BitVec 64),i<=64/\a=(S,met,(i:Int),())/\∀o,zR S o=true↔(1<=o/\o<=(i:Int))/\0<mt met o) (fun a=>64-a.2.2.1.toNat) (fun o=>∃S,o= .brk (S,())/\∀o,zR S o=true↔1<=o/\0<mt met o) (by
  rintro _ ⟨i,S,hi,rfl,hS⟩;rw [zow,zp];by_cases c:(i:Int)<64
  .have hx:=zvY (met:=met) (o:=(i:Int)+1) (by omega);rw [show ((i:Int)+1-1).toNat=i by omega] at hx;rw [zb c,zto (by omega) (by omega) c,zKt,zLd,hx,zKt,zp,yb (a:=(i:Int)+1) (by omega) (by omega),zhY,zKt];by_cases hp:0<mt met ((i:Int)+1)
   .rw [zb hp];refine ⟨_,rfl,⟨i+1,_,by omega,rfl,fun o=>?_⟩,?_⟩
    .dsimp only;rw [wJ _ (by omega),hS o];constructor
     .rintro (⟨a,b⟩ | rfl)
      .exact ⟨by omega,b⟩
      .exact ⟨by omega,hp⟩
     .rintro ⟨a,b⟩;by_cases e:o=(i:Int)+1
      .exact .inr e
      .exact .inl ⟨by omega,b⟩
    .show 64-((i:Int)+1).toNat<64-(i:Int).toNat;omega
   .rw [zc hp];refine ⟨_,rfl,⟨i+1,S,by omega,rfl,fun o=>?_⟩,?_⟩
    .rw [hS o];constructor
     .rintro ⟨a,b⟩;exact ⟨by omega,b⟩
     .rintro ⟨a,b⟩;by_cases e:o=(i:Int)+1
      .rw [e] at b;exact zj b hp
      .exact ⟨by omega,b⟩
    .show 64-((i:Int)+1).toNat<64-(i:Int).toNat;omega
  .rw [zc c];refine ⟨_,rfl,S,rfl,fun o=>?_⟩;rw [hS o];have hi:i=64:=by omega
   subst hi;constructor
   .rintro ⟨a,b⟩;exact ⟨a.1,b⟩
   .rintro ⟨a,b⟩;refine ⟨⟨a,?_⟩,b⟩;by_cases h:64<o
    .exfalso;unfold mt at b;rw [zKw,zLC (by omega)] at b;exact zj b (by show ¬(0:Int)<0;decide)
    .show o<=64;omega) (0#64,met,0,()) ⟨0,0#64,by omega,rfl,fun o=>⟨fun e=>zj e (uI o),fun e=>by have:=e.1;omega⟩⟩ (by show 64-0<18446744073709551616;decide)
 obtain ⟨o,e,S,rfl,hS⟩:=key;refine ⟨S,?_,hS⟩;exact congrArg (fun o=>Option.bind o _) e
theorem zBO {h:zt}(hn:h.Objs.length<=9) (hs:∀l∈h.Objs,l.length<1000000) (R:BitVec 64):∃S,Vf h R=some (S,())/\∀o,zR S o=true↔Reach h R o:=by
 have hso:∀o,(zX h o).length<1000000:=fun o=>by
  unfold zX;rw [zKw];cases hx:h.Objs[(o-1).toNat]? with
  | none=>show ([]:List Int).length<_;simp
  | some l=>exact hs l (zKy hx)
 have hF:=fun o=>Xp hn o;have hA:∀o,zR (R&&&xW (h.Objs.length:Int)) o=true↔zR R o=true/\1<=o/\o<=(h.Objs.length:Int):=fun o=>by rw [ZC,hF]
 have h9:∀o,zR (R&&&xW (h.Objs.length:Int)) o=true->o<=9:=fun o e=>by have:=(hA o).1 e;omega
 have hw:=zF6 (R&&&xW (h.Objs.length:Int));have hwl:=zyS (R&&&xW (h.Objs.length:Int));generalize hwd:ZG (R&&&xW (h.Objs.length:Int))=wait at hw hwl;obtain ⟨met,e1,m1,m2⟩:=zEo (h:=h) (a1:=xW (h.Objs.length:Int)) (a5:=zMr 64 (0:Int)) wait.length 0 wait (zMr 64 (0:Int)) rfl (zLH _) (by omega) (fun o ho=>by have:=(hw o).1 ho;omega) (by simp) (fun o _=>by rw [zI8];simp) (wait.length+1) (by omega);have hz:=zHV met;have I:RI h R met wait:=by
  refine ⟨m1,fun o ho=>?_,fun o ho hp=>?_,fun o ho hr=>?_,fun o ho=>?_,fun o ho hp hno=>?_,by omega⟩
  .rw [m2 o ho];split<;>omega
  .rw [m2 o ho] at hp;split at hp
   .rename_i hm;have a:=(hA o).1 ((hw o).1 hm).2.2;exact .root o a.1 a.2
   .omega
  .rw [m2 o hr.1,zb ((hw o).2 ⟨hr.1,by omega,(hA o).2 ⟨ho,hr⟩⟩)];decide
  .have a:=(hA o).1 ((hw o).1 ho).2.2;refine ⟨a.2,?_⟩;rw [m2 o a.2.1,zb ho];decide
  .rw [m2 o ho,zc hno] at hp;omega
 obtain ⟨met',e2,I'⟩:=zHA (a7:=zMr 64 (0:Int)) hn hso (wait.length+2*VC met) met wait (zKz _) (by omega) I (wait.length+2*VC met+1) (by omega);obtain ⟨S,e3,hS⟩:=zCy I'.len;refine ⟨S,?_,fun o=>?_⟩
 .have hrd:vZ=18446744073709551616:=rfl;have ew:Xb h R=some (met',()):=by
   rw [zfr,zfd _ (by omega),zKt,zGF h9,zKt,hwd];refine (congrArg (fun o=>Option.bind o _) (zq4 e1 (by omega))).trans ?_;rw [zKt];dsimp only;refine (congrArg (fun o=>Option.bind o _) (zq4 e2 (by omega))).trans ?_;rw [zKt];dsimp only;rw [zp,zp,zp,zb I'.len,zb (by simp),zb I'.len]
  rw [zv2,ew,zKt,e3];rfl
 .rw [hS o];constructor
  .rintro ⟨a,b⟩;exact I'.rc o a b
  .intro r
   induction r with
   | root o h1 h2=>exact ⟨h2.1,I'.rt o h1 h2⟩
   | step o v _ h2 h3 ih=>exact ⟨h3.1,I'.cl o ih.1 ih.2 (by simp) v h2 h3⟩
def zqB (h:zt) (R:BitVec 64):BitVec 64:=match Vf h R with | some x=>x.1 | none=>0#64
theorem zqD {h:zt}(hn:h.Objs.length<=9) (hs:∀l∈h.Objs,l.length<1000000) (R:BitVec 64):Vf h R=some (zqB h R,()):=by
 obtain ⟨S,e,_⟩:=zBO hn hs R;unfold zqB;rw [e]
theorem zsS {h:zt}(hn:h.Objs.length<=9) (hs:∀l∈h.Objs,l.length<1000000) (R:BitVec 64) (o:Int):zR (zqB h R) o=true↔Reach h R o:=by
 obtain ⟨S,e,h2⟩:=zBO hn hs R;unfold zqB;rw [e];exact h2 o
theorem zB9 (s:BitVec 64):List.Pairwise (fun a b:Int=>a<=b) (ZG s):=by
 unfold ZG;rw [List.pairwise_map];refine (List.Pairwise.filter _ (List.pairwise_lt_range (n:=9))).imp (fun h=>?_);omega
theorem zt6 (s:BitVec 64):(ZG s).Nodup:=by
 unfold ZG;have:List.Pairwise (fun a b:Int=>a≠b) (((zMt 9).filter fun i=>s.getLsbD i).map fun i:Nat=>(i:Int)+1):=by
  rw [List.pairwise_map];refine (List.Pairwise.filter _ (List.pairwise_lt_range (n:=9))).imp (fun h=>?_);omega
 exact this
theorem znO {s:BitVec 64}{o:Int}:o∈ZG s↔zR s o=true/\o<=9:=by
 unfold ZG;rw [zKE];constructor
 .rintro ⟨i,hi,rfl⟩;rw [zLR,zK6] at hi;refine ⟨(xw _ _).2 ⟨by omega,by omega,?_⟩,by omega⟩;rw [show ((i:Int)+1-1).toNat=i by omega];exact hi.2
 .rintro ⟨h,h9⟩;obtain ⟨a,b,c⟩:=(xw _ _).1 h;exact ⟨(o-1).toNat,zLR.2 ⟨zK6.2 (by omega),c⟩,by omega⟩
def VI (s:za):BitVec 64:=s.T.Marks&&& ~~~s.T.Black
theorem znB {s:za}(o:Int):zR (VI s) o=true↔yB s.T o=1:=by
 unfold VI;rw [ZC,uw];constructor
 .rintro ⟨a,b⟩;have:=(xw _ _).1 a;exact ⟨a,(ze1 _ ⟨this.1,this.2.1⟩).1 b⟩
 .rintro ⟨a,b⟩;have:=(xw _ _).1 a;exact ⟨a,(ze1 _ ⟨this.1,this.2.1⟩).2 b⟩
theorem zGY {p:zd}(h:zJ p) {nb k:Nat}{s:za}{gh:Gh}(G:FG p nb k s gh):zMu (vd p s gh) (ZG (VI s)):=by
 refine (List.perm_ext_iff_of_nodup G.B.nd (zt6 _)).2 (fun o=>?_);rw [znO,znB,G.B.gr];exact ⟨fun e=>⟨e,((G.bag9 h).2 o ((G.B.gr o).2 e)).2⟩,fun e=>e.1⟩
theorem zHT {p:zd}(h:zJ p) {nb k:Nat}{s:za}{gh:Gh}(G:FG p nb k s gh):Z9 (vd p s gh)=ZG (VI s) :=
 zrH (zed _) (zB9 _) ((Uj _).trans (zGY h G))
theorem zuq {p:zd}(h:zJ p) {k:Nat}{s:za}{gh:Gh}(G:FG p (yh p+1) k s gh):zbQ s=some (ZG (VI s),()):=by
 rw [zGy h G,zHT h G]
theorem zFQ {p:zd}(h:zJ p) {nb k:Nat}{s:za}{gh:Gh}(G:FG p nb k s gh):∀o,zR (VI s) o=true->o<=9:=fun o ho=>((G.bag9 h).2 o ((G.B.gr o).2 ((znB o).1 ho))).2
theorem zFv {p:zd}(h:zJ p) {nb k:Nat}{s:za}{gh:Gh}(G:FG p nb k s gh):cnt (VI s)=((vd p s gh).length:Int):=by
 obtain ⟨e1,e2⟩:=zDp (G.bag9 h).2 G.B.nd;have:WV (vd p s gh)=VI s:=zls (fun o=>by rw [e2,G.B.gr,znB]);rw [<-this,e1]
def atS (g:zI) (a b v:Int):Int:=if g.Out=0 then (if a<=g.PC then (if g.PC<=b then v else 0) else 0) else 0
theorem zF4 (g:zI):zog g=some (atS g 0 1 g.Obj,()):=by
 rw [zyh,zlX];simp only [zp];unfold atS;split
 .split
  .split<;>rfl
  .rfl
 .rfl
def zeO (x:ze):Prop:=x.PC=21\/x.PC=22\/(x.Ret=22/\(x.PC=1\/x.PC=3))
instance (x:ze):Decidable (zeO x):=by unfold zeO;infer_instance
def zaI (a:BitVec 64) (x:ze):BitVec 64:=if zeO x then (a|||WV x.Buf)|||bit x.Old else a|||WV x.Buf
def zqe (s:za):BitVec 64:=s.Ms.foldl zaI ((uZ s).foldl (fun a g=>a|||bit (atS g 0 1 g.Obj)) 0#64)
theorem zlG {s:za}(hs:Xm s) (h1:s.Ws.length<=100) (h2:s.Ms.length<=100):zaP s=some (zqe s,()):=by
 rw [ztC,zq5 h1 h2,zKt];dsimp only;have hl:(uZ s).length<=200:=by
  unfold uZ;rw [zKH,zLq,zLq];have:=zLI (fun x:zi=>decide (x.PC=6)) s.Ws;have:=zLI (fun x:ze=>decide (x.PC=3\/x.PC=37)) s.Ms;omega
 obtain ⟨e,_⟩:=ZM (f:=Wu) (fun j r=>(r,((uZ s).length:Int),j,s,uZ s,())) (fun r=>(r,s,())) (uZ s) (by omega) (fun (a:BitVec 64) g=>a|||bit (atS g 0 1 g.Obj)) (fun _ _=>True) (s:=0#64) trivial
  (fun i r x hx hi hr=>by
   refine ⟨trivial,?_⟩;show Wu (r,((uZ s).length:Int),(i:Int),s,uZ s,())=_;rw [zgv,zp,yg,vS,zKt,zLd,hx,zKt,zF4,zKt,zhY,zKt,yM])
  (fun r hr=>by
   show Wu (r,((uZ s).length:Int),((uZ s).length:Int),s,uZ s,())=_;rw [zgv,zp,zk])
 rw [e,zKt];dsimp only;obtain ⟨e,_⟩:=ZM (f:=Wk) (fun j r=>(r,s.Ms,(s.Ms.length:Int),j,())) (fun r=>(r,())) s.Ms (by omega) zaI (fun _ _=>True) (s:=(uZ s).foldl (fun (a:BitVec 64) g=>a|||bit (atS g 0 1 g.Obj)) 0#64) trivial
  (fun i r x hx hi hr=>by
   refine ⟨trivial,?_⟩;show Wk (r,s.Ms,(s.Ms.length:Int),(i:Int),())=_;rw [zgx,zp,yg,yY hx,zKt,zvH (hs.mu x (zKy hx)).2.1,zKt,yM,zhY,zKt];simp only [zp];unfold zaI;by_cases c1:x.PC=21
   .rw [zb c1,zb (show zeO x from .inl c1)]
   rw [zc c1];by_cases c2:x.PC=22
   .rw [zb c2,zb (show zeO x from .inr (.inl c2))]
   rw [zc c2];by_cases c3:x.Ret=22
   .rw [zb c3];by_cases c4:x.PC=1
    .rw [zb c4,zb (show zeO x from .inr (.inr ⟨c3,.inl c4⟩))]
    rw [zc c4];by_cases c5:x.PC=3
    .rw [zb c5,zb (show zeO x from .inr (.inr ⟨c3,.inr c5⟩))]
    .rw [zc c5,zc (show ¬zeO x by unfold zeO;omega)]
   .rw [zc c3,zc (show ¬zeO x by unfold zeO;omega)])
  (fun r hr=>by
   show Wk (r,s.Ms,(s.Ms.length:Int),(s.Ms.length:Int),())=_;rw [zgx,zp,zk])
 rw [e];rfl
def zxl (a:BitVec 64) (l:List ze):BitVec 64:=l.foldl (fun a x=>a|||WV x.Regs) a
theorem zFj {s:za}(hs:Xm s):zof s=some (zxl 0#64 s.Ms,()):=by
 have hl:=hs.ms;rw [zyv];obtain ⟨e,_⟩:=ZM (f:=zak) (fun j r=>(r,s.Ms,(s.Ms.length:Int),j,())) (fun r=>(r,())) s.Ms hl (fun (a:BitVec 64) x=>a|||WV x.Regs) (fun _ _=>True) (s:=0#64) trivial
  (fun i r x hx hi hr=>by
   refine ⟨trivial,?_⟩;show zak (r,s.Ms,(s.Ms.length:Int),(i:Int),())=_;rw [zku,zp,yg,yY hx,zKt,zvH (hs.mu x (zKy hx)).1,zKt,yM])
  (fun r hr=>by
   show zak (r,s.Ms,(s.Ms.length:Int),(s.Ms.length:Int),())=_;rw [zku,zp,zk])
 rw [e];rfl
def zIe (s:za):BitVec 64:=zqB s.H (s.P.Roots|||zxl 0#64 s.Ms)
theorem zFC {s:za}(hs:Xm s) (hn:s.H.Objs.length<=9):zoj s=some (zIe s,()):=by
 rw [zxy,zFj hs,zKt,zqD hn hs.obj,zKt];rfl
def zj4 (x:zi):Bool:= !decide (x.Obj=0)||decide (0<(x.Batch.length:Int))
def zmb (x:ze):Bool:= !decide (x.Obj=0)||decide (0<(x.Batch.length:Int)+(x.Buf.length:Int))
theorem zIY {l:List zi}(hl:l.length<1000000):xD l=some (l.any zj4,()):=by
 rw [ZT,Z6];obtain ⟨o,e,ho⟩:=wN (f:=xF) (fun a=>∃i:Nat,i<=l.length/\a=(l,(l.length:Int),(i:Int),())/\l.any zj4=(l.drop i).any zj4) (fun a=>l.length-a.2.2.1.toNat) (fun o=>(o= .brk ()/\l.any zj4=false)\/∃i:Nat,o= .ret ((i:Int),())/\l.any zj4=true) (by
  rintro _ ⟨i,hi,rfl,ha⟩;rw [ZR,zp];by_cases c1:(i:Int)<(l.length:Int)
  .have hx:=zKv (show i<l.length by omega);have hd:=zK4 (show i<l.length by omega);generalize l[i]'(by omega)=x at hx hd;rw [hd,List.any_cons] at ha;have hq:zhD x=some (zj4 x,()):=by
    rw [ztE];unfold zj4;cases decide (x.Obj=0)<;>rfl
   rw [zb c1,yY hx,zKt,hq,zKt];cases hc:zj4 x with
   | true=>exact ⟨_,rfl,.inr ⟨i,rfl,by rw [ha,hc];rfl⟩⟩
   | false =>
    rw [yM];refine ⟨_,rfl,⟨i+1,by omega,rfl,by rw [ha,hc];rfl⟩,?_⟩;show l.length-((i+1:Nat):Int).toNat<l.length-(i:Int).toNat;omega
  .rw [zc c1];have:i=l.length:=by omega
   subst this;rw [List.drop_length] at ha;exact ⟨_,rfl,.inl ⟨rfl,ha⟩⟩) (l,(l.length:Int),0,()) ⟨0,by omega,rfl,rfl⟩ (by show l.length-0<18446744073709551616;omega)
 rw [e];rcases ho with ⟨rfl,hn⟩ | ⟨i,rfl,hn⟩
 .rw [hn];rfl
 .rw [hn];show some (decide ((0:Int)<=(i:Int)),())=_;rw [zr (by omega)]
theorem zIS {l:List ze}(hl:l.length<1000000) (hb:∀x∈l,x.Buf.length<1000000/\x.Batch.length<1000000):xy l=some (l.any zmb,()):=by
 rw [Zw,Z0];obtain ⟨o,e,ho⟩:=wN (f:=xu) (fun a=>∃i:Nat,i<=l.length/\a=(l,(l.length:Int),(i:Int),())/\l.any zmb=(l.drop i).any zmb) (fun a=>l.length-a.2.2.1.toNat) (fun o=>(o= .brk ()/\l.any zmb=false)\/∃i:Nat,o= .ret ((i:Int),())/\l.any zmb=true) (by
  rintro _ ⟨i,hi,rfl,ha⟩;rw [Zx,zp];by_cases c1:(i:Int)<(l.length:Int)
  .have hx:=zKv (show i<l.length by omega);have hd:=zK4 (show i<l.length by omega);have hm:=zKR (show i<l.length by omega);generalize l[i]'(by omega)=x at hx hd hm;rw [hd,List.any_cons] at ha;have hbx:=hb x hm;have hq:zhc x=some (zmb x,()):=by
    rw [ztA,yb];unfold zmb;cases decide (x.Obj=0)<;>rfl
   rw [zb c1,yY hx,zKt,hq,zKt];cases hc:zmb x with
   | true=>exact ⟨_,rfl,.inr ⟨i,rfl,by rw [ha,hc];rfl⟩⟩
   | false =>
    rw [yM];refine ⟨_,rfl,⟨i+1,by omega,rfl,by rw [ha,hc];rfl⟩,?_⟩;show l.length-((i+1:Nat):Int).toNat<l.length-(i:Int).toNat;omega
  .rw [zc c1];have:i=l.length:=by omega
   subst this;rw [List.drop_length] at ha;exact ⟨_,rfl,.inl ⟨rfl,ha⟩⟩) (l,(l.length:Int),0,()) ⟨0,by omega,rfl,rfl⟩ (by show l.length-0<18446744073709551616;omega)
 rw [e];rcases ho with ⟨rfl,hn⟩ | ⟨i,rfl,hn⟩
 .rw [hn];rfl
 .rw [hn];show some (decide ((0:Int)<=(i:Int)),())=_;rw [zr (by omega)]
def zvA (s:za):Bool:=(ZG (VI s)).isEmpty&& !(s.Ws.any zj4)&& !(s.Ms.any zmb)
theorem zDW {p:zd}(h:zJ p) {k:Nat}{s:za}{gh:Gh}(G:FG p (yh p+1) k s gh):zms s=some (zvA s,()):=by
 have hs:=G.E.small;rw [zwT,zuq h G,zKt,zIY hs.ws,zKt,zIS hs.ms (fun x hx=>(hs.mu x hx).2),zKt];unfold zvA;dsimp only;cases hl:ZG (VI s) with
 | nil =>
  show (bif decide ((0:Int)=0) then _ else _)=_;rw [zr rfl,zu];cases s.Ws.any zj4<;>rfl
 | cons a l =>
  rw [zN (show ¬(((a::l).length:Nat):Int)=0 by rw [zKM];omega)];rfl
instance:DecidableEq zx:=fun a b=>if h:a.Marks=b.Marks/\a.Black=b.Black then isTrue (by cases a;cases b;simp_all) else isFalse (fun e=>h (by rw [e];exact ⟨rfl,rfl⟩))
theorem zth (a b:zx):((decide (a.Marks=b.Marks))&&(decide (a.Black=b.Black)))=decide (a=b):=by
 rw [Bool.eq_iff_iff];simp only [zKu,decide_eq_true_eq];constructor
 .rintro ⟨h1,h2⟩;cases a;cases b;simp_all
 .intro h;rw [h];exact ⟨rfl,rfl⟩
def zat (t:zx) (o:Int):zx×Bool:=if (wv t o).2=true then (wh (wv t o).1 o,decide (yB (wv t o).1 o=1)) else (t,false)
theorem zC5 (t:zx) (o:Int):zcR t o=some ((zat t o).1,(zat t o).2,()):=by
 rw [znH,zkT,zKt];unfold zat;dsimp only;cases hs:(wv t o).2 with
 | false=>rw [zc (by simp)];rfl
 | true=>rw [zKI,zM,zjd,zb rfl];rfl
def ztn (a b:zx) (o:Int):Option (Int×Int) :=
 if (wv a o).2=true/\(wv a o).1=b then some (1,o) else if yB a o=1/\wh a o=b then some (2,o) else if (zat a o).2=true/\(zat a o).1=b then some (3,o) else none
def Xj (a b:zx):Int×Int:=if a=b then (0,0) else ((zMt 64).findSome? fun i:Nat=>ztn a b ((i:Int)+1)).getD (-1,0)
theorem zzM (a b:zx) (i:Int) (hi:0<=i/\i<64):yf uF (i,1,i,a,b,())=some (match ztn a b (i+1) with | some r=>.ret (r.1,r.2,()) | none=>.brk (i,a,b,())):=by
 have w1:w64 (i+1)=i+1:=yb;have s1:uF (i,1,i,a,b,())=if (wv a (i+1)).2=true/\(wv a (i+1)).1=b then some (.ret (1,i+1,())) else some (.again (i,2,i,a,b,())):=by
  rw [WA];simp only [zp,zth,w1];rw [zb (by decide),zc (by decide),zc (by decide),zb trivial,zkT,zKt,yb (a:=1+1) (by decide) (by decide)];dsimp only;cases hs:(wv a (i+1)).2 with
  | false=>simp
  | true =>
   rw [zu];by_cases e:(wv a (i+1)).1=b
   .rw [zb e,zb ⟨rfl,e⟩]
   .rw [zc e,zc (fun h=>e h.2)];rfl
 have s2:uF (i,2,i,a,b,())=if yB a (i+1)=1/\wh a (i+1)=b then some (.ret (2,i+1,())) else some (.again (i,3,i,a,b,())):=by
  rw [WA];simp only [zp,zth,w1];rw [zb (by decide),zc (by decide),zb trivial,zjd,zKt,yb (a:=2+1) (by decide) (by decide)];dsimp only;rw [zp];by_cases h:yB a (i+1)=1
  .rw [zb h];by_cases e:wh a (i+1)=b
   .rw [zb e,zb ⟨h,e⟩]
   .rw [zc e,zc (fun h=>e h.2)];rfl
  .rw [zc h,zc (fun e=>h e.1)];rfl
 have s3:uF (i,3,i,a,b,())=if (zat a (i+1)).2=true/\(zat a (i+1)).1=b then some (.ret (3,i+1,())) else some (.again (i,4,i,a,b,())):=by
  rw [WA];simp only [zp,zth,w1];rw [zb (by decide),zb trivial,zC5,zKt,yb (a:=3+1) (by decide) (by decide)];dsimp only;cases hs:(zat a (i+1)).2 with
  | false=>simp
  | true =>
   rw [zu];by_cases e:(zat a (i+1)).1=b
   .rw [zb e,zb ⟨rfl,e⟩]
   .rw [zc e,zc (fun h=>e h.2)];rfl
 have s4:uF (i,4,i,a,b,())=some (.brk (i,a,b,())):=by
  rw [WA,zp,zc (by decide)]
 rw [Xh];show yZ uF (18446744073709551612+1+1+1+1) (i,1,i,a,b,())=_;unfold ztn;rw [yZ,s1];by_cases c1:(wv a (i+1)).2=true/\(wv a (i+1)).1=b
 .rw [zb c1,zb c1];rfl
 rw [zc c1,zc c1,zKt];dsimp only;rw [yZ,s2];by_cases c2:yB a (i+1)=1/\wh a (i+1)=b
 .rw [zb c2,zb c2];rfl
 rw [zc c2,zc c2,zKt];dsimp only;rw [yZ,s3];by_cases c3:(zat a (i+1)).2=true/\(zat a (i+1)).1=b
 .rw [zb c3,zb c3];rfl
 rw [zc c3,zc c3,zKt];dsimp only;rw [yZ,s4];rfl
theorem zCo (a b:zx):zh0 a b=some ((Xj a b).1,(Xj a b).2,()):=by
 rw [ztw,zth,zp];unfold Xj;by_cases h:a=b
 .rw [zb h,zb h]
 rw [zc h,zc h];have key:∀(n k:Nat),64-k=n->k<=64->∀m,n<m->yZ zdP m ((k:Int),a,b,())=some (match (List.range' k n).findSome? fun i:Nat=>ztn a b ((i:Int)+1) with | some r=>.ret (r.1,r.2,()) | none=>.brk ()):=by
  intro n
  induction n with
  | zero =>
   intro k hk hk2 m hm;obtain ⟨m,rfl⟩:∃x,m=x+1:=⟨m-1,by omega⟩
   rw [yZ,zgt,zp,zk];rfl
  | succ n ih =>
   intro k hk hk2 m hm;obtain ⟨m,rfl⟩:∃x,m=x+1:=⟨m-1,by omega⟩
   rw [yZ,zgt,zp,yg,zzM a b (k:Int) (by omega),zL6,List.findSome?_cons];cases hk3:ztn a b ((k:Int)+1) with
   | some r=>rfl
   | none =>
    have:=ih (k+1) (by omega) (by omega) m (by omega);rw [show ((k+1:Nat):Int)=(k:Int)+1 by omega] at this;rw [zKt];dsimp only;rw [zKt];dsimp only;rw [yb (a:=(k:Int)+1) (by omega) (by omega)];exact this
 have:=key 64 0 rfl (by omega) vZ (by have:vZ=18446744073709551616:=rfl;omega);rw [Xh];refine (congrArg (fun o=>Option.bind o _) this).trans ?_;rw [zKt,zLX];cases (List.range' 0 64).findSome? fun i:Nat=>ztn a b ((i:Int)+1)<;>rfl
theorem zDI {l:List Int}{v:Int}(hv:1<=v/\v<=64):∀(a:BitVec 64),zR a v=true\/v∈l->zR (l.foldl (fun s o=>s|||bit o) a) v=true:=by
 induction l with
 | nil=>rintro a (h | h);exact h;cases h
 | cons x l ih =>
  rintro a h;refine ih _ ?_;rw [xO];rcases h with h | h
  .exact .inl (.inl h)
  .rcases zKN.1 h with rfl | h
   .exact .inl (.inr ((wJ 0#64 hv v).2 (.inr rfl) |> fun h=>by simpa using h))
   .exact .inr h
theorem zsg {v:Int}(hv:1<=v/\v<=64):∀(L:List (List Int)) (a:BitVec 64),(zR a v=true\/∃r∈L,v∈r)->zR (L.foldl (fun s l=>s|||WV l) a) v=true
 | [],a,h=>by
  rcases h with h | ⟨r,h,_⟩
  .exact h
  .cases h
 | r::L,a,h=>by
  refine zsg hv L _ ?_;rw [xO];rcases h with h | ⟨q,h,hq⟩
  .exact .inl (.inl h)
  .rcases zKN.1 h with rfl | h
   .exact .inl (.inr (zDI hv _ (.inr hq)))
   .exact .inr ⟨q,h,hq⟩
def LvH (p:zd) (h:zt) (o:Int):Prop:=Reach p.H (uB p) o\/((p.H.Objs.length:Int)<o/\o<=(h.Objs.length:Int))
def W6 (p:zd) (h:zt):Prop:=∀o v,LvH p h o->v∈zX h o->v=0\/LvH p h v
def XB (p:zd) (h:zt) (r:List Int):Prop:=∀v∈r,v=0\/LvH p h v
theorem LvH.mono {p:zd}{h h':zt}(hl:h.Objs.length<=h'.Objs.length) {o:Int}(L:LvH p h o):LvH p h' o:=by
 rcases L with L | L
 .exact .inl L
 .exact .inr (by omega)
theorem LvH.inn {p:zd}{h:zt}(hn:(p.H.Objs.length:Int)<=(h.Objs.length:Int)) {o:Int}(L:LvH p h o):1<=o/\o<=(h.Objs.length:Int):=by
 rcases L with L | L
 .have:=L.in;omega
 .omega
theorem XB.mono {p:zd}{h h':zt}(hl:h.Objs.length<=h'.Objs.length) {r:List Int}(R:XB p h r):XB p h' r:=fun v hv=>(R v hv).imp id (fun L=>L.mono hl)
theorem XB.set {p:zd}{h:zt}{r:List Int}(R:XB p h r) {v:Int}(hv:v=0\/LvH p h v) (i:Nat):XB p h (r.set i v):=fun u hu=>by
 rcases zLj hu with h | rfl
 .exact R u h
 .exact hv
theorem XB.reg {p:zd}{h:zt}{x:ze}(R:XB p h x.Regs) (r:Int):vX x r=0\/LvH p h (vX x r):=by
 unfold vX;rw [zKw];cases hx:x.Regs[r.toNat]? with
 | none=>exact .inl rfl
 | some v=>exact R v (zKy hx)
theorem zgn {p:zd}{h:zt}(C:W6 p h) {a:Int}(ha:a=0\/LvH p h a) (i:Int):zZ h a i=0\/LvH p h (zZ h a i):=by
 unfold zZ;split
 .rename_i hs;simp only [yP,zKu,decide_eq_true_eq] at hs;have L:LvH p h a:=ha.resolve_left (by omega);rw [zKw];cases hx:(zX h a)[i.toNat]? with
  | none=>exact .inl rfl
  | some v=>exact C a v L (zKy hx)
 .exact .inl rfl
theorem zEh {p:zd}{h:zt}(C:W6 p h) {a i v:Int}(hv:v=0\/LvH p h v):W6 p (Zo h a i v):=by
 intro o w L hw;have hl:=zaz h a i v;have L':LvH p h o:=L.mono (by omega);have up:∀ {u:Int},(u=0\/LvH p h u)->(u=0\/LvH p (Zo h a i v) u):=fun hu=>hu.imp id (fun L=>L.mono (by omega));unfold Zo at hw;split at hw
 .rename_i hs;obtain ⟨hs,_⟩:=hs;simp only [yP,zKu,decide_eq_true_eq] at hs;have hw:w∈(h.Objs.set (a-1).toNat ((zX h a).set i.toNat v)).getD (o-1).toNat []:=hw;rw [zmy (by omega)] at hw;split at hw
  .rename_i e;have es:zX h a=zX h o:=by unfold zX;rw [e]
   rcases zLj hw with h1 | rfl
   .exact up (C o w L' (es▸h1))
   .exact up hv
  .exact up (C o w L' hw)
 .exact up (C o w L' hw)
theorem zBy {p:zd}{h:zt}(hn:(p.H.Objs.length:Int)<=(h.Objs.length:Int)) (C:W6 p h):W6 p (yU h):=by
 intro o w L hw;have hl:=zaZ h;have hin:=L.inn (by omega);by_cases ho:o<=(h.Objs.length:Int)
 .have L':LvH p h o:=by
   rcases L with L | L
   .exact .inl L
   .exact .inr (by omega)
  have e:zX (yU h) o=zX h o:=by
   unfold zX yU;rw [zKw,zKw,zKZ (by omega)]
  rw [e] at hw;exact (C o w L' hw).imp id (fun L=>L.mono (by omega))
 .have e:zX (yU h) o=zMr h.Slots.toNat 0:=by
   unfold zX yU;rw [zKw,zK3 (by omega),show (o-1).toNat-h.Objs.length=0 by omega];rfl
  rw [e] at hw;exact .inl (zMj hw)
structure RgI (p:zd) (s:za):Prop where
 hp:W6 p s.H
 rg:∀x∈s.Ms,XB p s.H x.Regs
theorem zIE {p:zd}{s:za}{m:Int}{x:ze}(hN:(p.H.Objs.length:Int)<=(s.H.Objs.length:Int)) (h9:s.H.Objs.length<1000000) (C:W6 p s.H) (R:XB p s.H x.Regs) :
  W6 p (zn s m x).1.H/\XB p (zn s m x).1.H (zn s m x).2.Regs/\s.H.Objs.length<=(zn s m x).1.H.Objs.length:=by
 have same:∀ {t:za}{y:ze},t.H=s.H->y.Regs=x.Regs->W6 p t.H/\XB p t.H y.Regs/\s.H.Objs.length<=t.H.Objs.length:=fun e1 e2=>by rw [e1,e2];exact ⟨C,R,zKz _⟩
 refine yN (motive:=fun r=>W6 p r.1.H/\XB p r.1.H r.2.Regs/\s.H.Objs.length<=r.1.H.Objs.length) s m x ?_ ?_ ?_ ?_ ?_ ?_ ?_ ?_ ?_ ?_ ?_ ?_ ?_ ?_ ?_ ?_ ?_ ?_ ?_ ?_
 .intro c;unfold mu0 YH;split
  .exact same rfl rfl
  split
  .exact same rfl rfl
  split
  .exact same rfl rfl
  split
  .exact same rfl rfl
  split
  .exact same rfl rfl
  split
  .exact ⟨C,R.set (R.reg _) _,zKz _⟩
  .exact ⟨C,R.set (.inl rfl) _,zKz _⟩
 .intro c;unfold mu1;split<;>exact same rfl rfl
 .intro c;unfold mu2;exact same rfl rfl
 .intro c;unfold mu3;refine same (by rw [Zq]) ?_;dsimp only;split<;>rfl
 .intro c;unfold zeU;exact ⟨C,R.set (zgn C (R.reg _) _) _,zKz _⟩
 .intro c;unfold UP;refine same rfl ?_;dsimp only;split<;>rfl
 .intro c;unfold VR;refine same rfl ?_;dsimp only;split<;>rfl
 .intro c;unfold zbx;refine same rfl ?_;dsimp only;split<;>rfl
 .intro c;unfold zdN;have hl:=zaz s.H (vX x (opM s.P m x).A) (opM s.P m x).S (vX x (opM s.P m x).R);exact ⟨zEh C (R.reg _),R.mono (by dsimp only;omega),by dsimp only;omega⟩
 .intro c;unfold Y6;split
  .split
   .have hl:=zaZ s.H;have w:wc ((s.H.Objs.length:Int)+1)=(s.H.Objs.length:Int)+1:=xq;refine ⟨zBy hN C,?_,by dsimp only;omega⟩;refine XB.set (R.mono (by dsimp only;omega)) (.inr (.inr ?_)) _;rw [w];exact ⟨by omega,by dsimp only;omega⟩
   .exact same rfl rfl
  .exact same rfl rfl
 .intro c;unfold zaK;refine same rfl ?_;dsimp only;split<;>rfl
 .intro c;unfold zaE;refine same rfl ?_;dsimp only;repeat' split
  all_goals rfl
 .intro c;unfold zeW;exact same rfl rfl
 .intro c;unfold zaj;refine same rfl ?_;dsimp only;split<;>rfl
 .intro c;unfold zaG;refine same rfl ?_;dsimp only;split<;>rfl
 .intro c;unfold zbZ;refine same rfl ?_;dsimp only;split<;>rfl
 .intro c;unfold WP;refine same (by rw [Zq]) ?_;dsimp only;split<;>rfl
 .intro c;unfold zeR;exact same rfl rfl
 .intro c;unfold zh9;exact same rfl rfl
 .exact same rfl rfl
theorem zAH {p:zd}(hp:zJ p) {s:za}{m:Int}{x:ze}(hn:HOk p s.H) (C:W6 p s.H) (R:XB p s.H x.Regs) :
  W6 p (zn s m x).1.H/\XB p (zn s m x).1.H (zn s m x).2.Regs/\s.H.Objs.length<=(zn s m x).1.H.Objs.length:=by
 have hN:=hn.n;have hM:=hp.most;have hn6:=hp.n;exact zIE hN.1 (by omega) C R
theorem RgI.step {p:zd}{nb:Nat}(hp:zJ p) {s:za}(E:EOk p nb s) (I:RgI p s) (m:Int):RgI p (zG s m):=by
 unfold zG;split
 .exact I
 cases hx:s.Ms[(m-1).toNat]? with
 | none=>exact I
 | some x =>
  obtain ⟨h1,h2,h3⟩:=zAH (m:=m) hp E.H I.hp (I.rg x (zKy hx));refine ⟨h1,fun y hy=>?_⟩;rcases zLj hy with hy | rfl
  .exact (I.rg y hy).mono h3
  .exact h2
theorem zGD {p:zd}(hp:zJ p):RgI p (xk p):=by
 have hn:=hp.n;refine ⟨fun o v L hv=>?_,fun x hx v hv=>?_⟩
 .by_cases h0:v=0
  .exact .inl h0
  refine .inr (.inl ?_);rcases L with L | L
  .have r:=L;have ho:=r.in;have hm:zX p.H o∈p.H.Objs:=by
    unfold zX;rw [zKw,zKv (show (o-1).toNat<p.H.Objs.length by omega)];exact zKR _
   have:=(hp.objs _ hm).2 v hv;exact .step o v r hv (by omega)
  .have:o<=(p.H.Objs.length:Int):=L.2;omega
 .have hx:x∈p.Regs.map wp:=hx;obtain ⟨r,hr,rfl⟩:=zKE.1 hx;have hv:v∈r:=hv;have:=(hp.reg r hr).2 v hv;by_cases h0:v=0
  .exact .inl h0
  exact .inr (.inl (.root v (zsg (by omega) _ _ (.inr ⟨r,hr,hv⟩)) (by omega)))
def QL (p:zd) (h:zt) (v:Int):Prop:=v=0\/LvH p h v
theorem QL.mono {p:zd}{h h':zt}(hl:h.Objs.length<=h'.Objs.length) {v:Int}(q:QL p h v):QL p h' v:=q.imp id (fun L=>L.mono hl)
structure BN (p:zd) (s:za):Prop where
 rg:RgI p s
 mkd:∀o,zR s.T.Marks o=true->LvH p s.H o
 gw:∀x∈s.Ws,x.PC=6->QL p s.H x.G.Obj
 bq:∀x∈s.Ms,zsW (QL p s.H) x
theorem zsW.mono {Q Q':Int->Prop}(h:∀v,Q v->Q' v) {x:ze}(b:zsW Q x):zsW Q' x:=⟨fun v hv=>h v (b.1 v hv),h _ b.2.1,fun e=>h _ (b.2.2 e)⟩
theorem BN.same {p:zd}{s s':za}(B:BN p s) (eH:s'.H=s.H) (eT:s'.T=s.T) (eW:s'.Ws=s.Ws) (eX:s'.Ms=s.Ms):BN p s' :=
 ⟨⟨by rw [eH];exact B.rg.hp,by rw [eH,eX];exact B.rg.rg⟩,by rw [eH,eT];exact B.mkd,by rw [eH,eW];exact B.gw,by rw [eH,eX];exact B.bq⟩
theorem BN.held {p:zd}{nb k:Nat}{s:za}{gh:Gh}(B:BN p s) (G:FG p nb k s gh) {o:Int}(h:o∈vd p s gh):LvH p s.H o:=B.mkd o ((uw _ _).1 ((G.B.gr o).1 h)).1
theorem zGu {s:za}{x:zi}(h:x.PC=5\/x.PC=6\/x.PC=8):x.Obj∈ya s x:=by
 unfold ya UB;refine zK2 _ ?_;rw [zk,zk];by_cases h6:x.PC=6
 .rw [zk,zb h6];simp
 .rw [yg];simp
theorem zy9 {s:za}{x:ze}(h:x.PC=36\/x.PC=37\/x.PC=38):x.Obj∈yo s x:=by
 unfold yo zcS;refine zK2 _ ?_;rw [zk];by_cases h6:x.PC=37
 .rw [zk,zb h6];simp
 .rw [yg];simp
theorem zGA {p:zd}{h:zt}{m:BitVec 64}{o:Int}(hm:∀q,zR m q=true->LvH p h q) (ho:LvH p h o):∀q,zR (m|||bit o) q=true->LvH p h q:=fun q hq=>(Xd hq).elim (hm q) (fun e=>e▸ho)
theorem BN.worker {p:zd}(hp:zJ p) {nb k:Nat}{s:za}{gh:Gh}(hk:k<4294960000) (B:BN p s) (G:FG p nb k s gh) {w:Int}(hw:1<=w/\w<=p.Workers) (hd:s.Done=false):BN p (zP s w):=by
 obtain ⟨gh',G',_,x,hx,N,C,_,hT⟩:=G.worker hp hk hw hd;have hwl:=G.E.wl;have hm:=zKy hx;have hf:=Xa G.E w;have eH:(zP s w).H=s.H:=by rw [hf]
 have eX:(zP s w).Ms=s.Ms:=by rw [hf]
 have e0: ¬(s.Done=true\/w<1\/(s.Ws.length:Int)<w):=by rw [hd];rintro (e | e | e)<;>first | cases e | omega
 have es:zP s w={(zB s w x).1 with Ws:=s.Ws.set (w-1).toNat (zB s w x).2}:=by unfold zP;rw [zc e0,hx]
 have eT:(zP s w).T=(zB s w x).1.T:=by rw [es]
 have eW:(zP s w).Ws=s.Ws.set (w-1).toNat (zB s w x).2:=by rw [es]
 have hi:=(zKC.1 hx).1;refine ⟨⟨by rw [eH];exact B.rg.hp,by rw [eH,eX];exact B.rg.rg⟩,?_,?_,by rw [eH,eX];exact B.bq⟩
 .rw [eH,eT];rcases hT with ⟨_,_,t⟩ | ⟨_,_,h6,_,t⟩ | ⟨_,_,_,t⟩
  .rw [t];exact B.mkd
  .rw [t];have hob:=((G.W _ x hx).p6 h6).1.ob;exact zGA B.mkd ((B.gw x hm h6).resolve_left (by omega))
  .rw [t,(zs9 s.T x.Obj).1];exact B.mkd
 .rw [eH,eW];intro y hy h6;rcases zLj hy with hy | rfl
  .exact B.gw y hy h6
  .rcases zAz s w x h6 with ⟨a,b⟩ | ⟨a,b⟩
   .rw [b];exact B.gw x hm a
   .rw [b];exact zgn B.rg.hp (.inr (B.held G (zfU hx (zGu (.inl a))))) _
theorem BN.mutator {p:zd}(hp:zJ p) {nb k:Nat}{s:za}{gh:Gh}(hk:k<4294960000) (B:BN p s) (G:FG p nb k s gh) {m:Int}(hm:1<=m/\m<=p.Mutators) (hd:s.Done=false):BN p (zG s m):=by
 obtain ⟨gh',G',F,x,hx,N,C,_,hT⟩:=G.mutator hp hk hm hd;have hml:=G.E.ml;have hmem:=zKy hx;have hX:=G.E.X _ x hx;have e0: ¬(s.Done=true\/m<1\/(s.Ms.length:Int)<m):=by rw [hd];rintro (e | e | e)<;>first | cases e | omega
 have es:zG s m={(zn s m x).1 with Ms:=s.Ms.set (m-1).toNat (zn s m x).2}:=by unfold zG;rw [zc e0,hx]
 have hR:=B.rg.step hp G.E m;have hrg:=zAH (m:=m) hp G.E.H B.rg.hp (B.rg.rg x hmem);have eW:(zG s m).Ws=s.Ws:=by rw [es];show (zn s m x).1.Ws=_;rw [zcC]
 have eT:(zG s m).T=(zn s m x).1.T:=by rw [es]
 have eH:(zG s m).H=(zn s m x).1.H:=by rw [es]
 have eM:(zG s m).Ms=s.Ms.set (m-1).toNat (zn s m x).2:=by rw [es]
 have up:∀ {v:Int},LvH p s.H v->LvH p (zn s m x).1.H v:=fun L=>L.mono hrg.2.2;have uq:∀v,QL p s.H v->QL p (zn s m x).1.H v:=fun v q=>q.mono hrg.2.2;refine ⟨hR,?_,?_,?_⟩
 .rw [eH,eT];rcases hT with ⟨_,_,t⟩ | ⟨_,_,h3,_,t⟩ | ⟨_,_,_,t⟩ | ⟨_,_,_,_,t3,t4⟩
  .rw [t];exact fun o ho=>up (B.mkd o ho)
  .rw [t];have hob:1<=x.G.Obj:=by
    rcases h3 with h | h
    .exact ((G.M _ x hx).p3 h).1.ob.1
    .exact ((G.M _ x hx).p37 h).1.ob.1
   exact zGA (fun o ho=>up (B.mkd o ho)) (up (((B.bq x hmem).2.2 h3).resolve_left (by omega)))
  .rw [t,(zs9 s.T x.Obj).1];exact fun o ho=>up (B.mkd o ho)
  .intro o ho;have hF:=(G.tints F).1;have hle:=hF o (by rw [eT];exact ho);rw [eH] at hle;by_cases hl:o<=(p.H.Objs.length:Int)
   .rw [t4] at ho;have hN:=G.E.H.n;have hM0:=hp.most;have hn6:=hp.n;have nm: ¬zR s.T.Marks ((s.H.Objs.length:Int)+1)=true:=fun e=>by have:=G.mrk _ e;omega
    have nb': ¬zR s.T.Black ((s.H.Objs.length:Int)+1)=true:=fun e=>nm (G.B.blk _ e);rw [xq,zmK (by omega) nm nb'] at ho;rcases Xd ho with ho | rfl
    .exact up (B.mkd o ho)
    .omega
   .exact .inr ⟨by omega,hle⟩
 .rw [eH,eW];exact fun y hy h6=>uq _ (B.gw y hy h6)
 .rw [eH,eM];intro y hy;have em:(((m-1).toNat:Nat):Int)+1=m:=by omega
  rw [em] at hX;rcases zLj hy with hy | rfl
  .exact (B.bq y hy).mono uq
  .refine (zAB (s:=s) (m:=m) hX (Q:=QL p s.H) (.inl rfl) (fun r i=>zgn B.rg.hp ((B.rg.rg x hmem).reg r) i) (fun c=>?_) (B.bq x hmem)).mono uq;exact zgn B.rg.hp (.inr (B.held G (zd5 hx (zy9 (.inl c))))) _
theorem BN.next {p:zd}(hp:zJ p) {nb k:Nat}{s:za}{gh:Gh}(hk:k<4294960000) (B:BN p s) (G:FG p nb k s gh) (j:Int):BN p (vG s j):=by
 cases hd:s.Done with
 | true=>rw [ziN hd];exact B
 | false =>
  have hwl:=G.E.wl;have hml:=G.E.ml;unfold vG;split
  .have hf:=zaY s;exact B.same (by conv=>rhs;rw [<-hf]) (by conv=>rhs;rw [<-hf]) (by conv=>rhs;rw [<-hf]) (by conv=>rhs;rw [<-hf])
  split
  .by_cases h1:1<=j
   .exact B.worker hp hk G (by omega) hd
   .have:zP s j=s:=by unfold zP;rw [zb (.inr (.inl (by omega)))]
    rw [this];exact B
  .by_cases h1:1<=j-(s.Ws.length:Int)/\j-(s.Ws.length:Int)<=(s.Ms.length:Int)
   .exact B.mutator hp hk G (by omega) hd
   .have:zG s (j-(s.Ws.length:Int))=s:=by unfold zG;rw [yg]
    rw [this];exact B
theorem zFX {p:zd}(h:zJ p):BN p (xk p):=by
 have hn:=h.n;refine ⟨zGD h,fun o ho=>.inl (.root o ho ?_),fun x hx h6=>?_,fun x hx=>?_⟩
 .have hr:=(xw _ _).1 ho;exact ⟨hr.1,(zF0 h).mrk o ho⟩
 .obtain ⟨j,_,rfl⟩:=zKE.1 (show x∈(zMt p.Workers.toNat).map (ub p) from hx);exact zj h6 (by show ¬(0:Int)=6;decide)
 .obtain ⟨r,_,rfl⟩:=zKE.1 (show x∈p.Regs.map wp from hx);exact ⟨fun v hv=>(by cases hv),.inl rfl,fun e=>zj e (by show ¬((0:Int)=3\/(0:Int)=37);decide)⟩
def zAj (p:zd):BitVec 64:=zqB p.H (uB p)
theorem zJ.heap9 {p:zd}(h:zJ p):p.H.Objs.length<=9/\∀l∈p.H.Objs,l.length<1000000:=by
 have:=h.n;have:=h.slots;exact ⟨by omega,fun l hl=>by have:=(h.objs l hl).1;omega⟩
theorem zzx {p:zd}(h:zJ p):zil p=some (zAj p,()):=by
 have hr:=h.regs;have hm:=h.mt;rw [zyo,zwm (by omega) (fun r hr=>by have:=(h.reg r hr).1;omega),zKt,zqD h.heap9.1 h.heap9.2];rfl
theorem zAG {p:zd}(h:zJ p) (o:Int):zR (zAj p) o=true↔Reach p.H (uB p) o:=zsS h.heap9.1 h.heap9.2 _ o
theorem zDE {h:zt}(hv:∀l∈h.Objs,∀v∈l,0<=v/\v<=(h.Objs.length:Int)) {o i:Int}(hne:zZ h o i≠0):zZ h o i∈zX h o/\1<=zZ h o i/\zZ h o i<=(h.Objs.length:Int):=by
 unfold zZ at hne ⊢;split
 .rename_i hs;rw [zb hs] at hne;unfold yP at hs;simp only [zKu,decide_eq_true_eq] at hs;obtain ⟨⟨⟨h1,h2⟩,h3⟩,h4⟩:=hs;have eo:=zKv (show (o-1).toNat<h.Objs.length by omega);have es:zX h o=h.Objs[(o-1).toNat]'(by omega):=by unfold zX;rw [zKw,eo];rfl
  have ei:=zKv (show i.toNat<(zX h o).length by omega);have eg:(zX h o).getD i.toNat 0=(zX h o)[i.toNat]'(by omega):=by rw [zKw,ei];rfl
  rw [eg] at hne ⊢;have hm:(zX h o)[i.toNat]'(by omega)∈zX h o:=zKR _;have:=hv _ (by rw [es];exact zKR _) _ hm;exact ⟨hm,by omega,this.2⟩
 .rename_i hs;rw [zc hs] at hne;exact zj rfl hne
def zmz (x:zi) (u j:Int):Prop:=(x.PC=5\/x.PC=6\/x.PC=8)->x.Obj=u->x.Slot<=j
def zu8 (x:ze) (u j:Int):Prop:=(x.PC=36\/x.PC=37\/x.PC=38)->x.Obj=u->x.Slot<=j
def US (s:za) (u j:Int):Prop:=(∀(i:Nat) x,s.Ws[i]? =some x->zmz x u j)/\(∀(i:Nat) x,s.Ms[i]? =some x->zu8 x u j)
def zuR (g:zI) (o:Int):Prop:=g.Out=0/\(g.PC=0\/g.PC=1)/\g.Obj=o
def znu (x:zi) (o:Int):Prop:=x.PC=6/\zuR x.G o
def zaa (x:ze) (o:Int):Prop:=o∈x.Buf\/((x.PC=22\/((x.PC=1\/x.PC=3)/\x.Ret=22))/\x.Old=o)\/((x.PC=3\/x.PC=37)/\zuR x.G o)
def zoM (s:za) (o:Int):Prop:=(∃(i:Nat) (x:zi),s.Ws[i]? =some x/\znu x o)\/(∃(i:Nat) (x:ze),s.Ms[i]? =some x/\zaa x o)
inductive zov (s:za) (W:Int->Int->Prop):Int->Prop
 | pend (o:Int) (h:zoM s o):zov s W o
 | white (u j o:Int) (hW: ¬W u j) (hj:yP s.H u j=true) (he:zZ s.H u j=o) (hu: ¬zR s.T.Marks u=true) (hp:zov s W u):zov s W o
 | grey (u j o:Int) (hW: ¬W u j) (hj:yP s.H u j=true) (he:zZ s.H u j=o) (hg:yB s.T u=1) (hs:US s u j):zov s W o
structure zvT (s s':za) (W W':Int->Int->Prop):Prop where
 mono:∀o,zR s.T.Marks o=true->zR s'.T.Marks o=true
 hp:∀o,zoM s o->zR s'.T.Marks o=true\/zoM s' o
 he:∀u j,¬W u j->yP s.H u j=true->(¬W' u j/\yP s'.H u j=true/\zZ s'.H u j=zZ s.H u j)\/(zZ s.H u j=0\/zR s'.T.Marks (zZ s.H u j)=true\/zoM s' (zZ s.H u j))
 hg:∀u j,¬W u j->yP s.H u j=true->yB s.T u=1->US s u j->(yB s'.T u=1/\US s' u j)\/(zZ s.H u j=0\/zR s'.T.Marks (zZ s.H u j)=true\/zoM s' (zZ s.H u j))
 hn:∀u j,¬W u j->yP s.H u j=true->¬zR s.T.Marks u=true->zR s'.T.Marks u=true->yB s'.T u=1/\US s' u j
theorem YF {h:zt}{u j:Int}(e:yP h u j=true):(1<=u/\u<=(h.Objs.length:Int))/\0<=j/\j<((zX h u).length:Int):=by
 unfold yP at e;simp only [zKu,decide_eq_true_eq] at e;exact ⟨⟨e.1.1.1,e.1.1.2⟩,e.1.2,e.2⟩
theorem zvT.prot {s s':za}{W W':Int->Int->Prop}(P:zvT s s' W W') {o:Int}(h:zov s W o):o≠0->zR s'.T.Marks o=true\/zov s' W' o:=by
 have cov:∀v:Int,v≠0->(v=0\/zR s'.T.Marks v=true\/zoM s' v)->zR s'.T.Marks v=true\/zov s' W' v:=by
  rintro v h0 (e | e | e)
  .exact zj e h0
  .exact .inl e
  .exact .inr (.pend v e)
 induction h with
 | pend o h=>exact fun _=>(P.hp o h).imp id (fun h=>.pend o h)
 | white u j o hW hj he hu hp ih =>
  intro h0;subst he;have hu0:u≠0:=by have:=YF hj;omega
  rcases P.he u j hW hj with ⟨a,b,c⟩ | c
  .by_cases hm:zR s'.T.Marks u=true
   .obtain ⟨d,e⟩:=P.hn u j hW hj hu hm;exact .inr (.grey u j _ a b c d e)
   .rcases ih hu0 with h | h
    .exact zj h hm
    .exact .inr (.white u j _ a b c hm h)
  .exact cov _ h0 c
 | grey u j o hW hj he hg hs =>
  intro h0;subst he;rcases P.he u j hW hj with ⟨a,b,c⟩ | c
  .rcases P.hg u j hW hj hg hs with ⟨d,e⟩ | c2
   .exact .inr (.grey u j _ a b c d e)
   .exact cov _ h0 c2
  .exact cov _ h0 c
def zqr (n:Int) (x:zi):Prop:=(x.PC=5->0<=x.Slot/\x.Slot<n)/\(x.PC=6->1<=x.Slot/\x.Slot<=n)/\(x.PC=8->x.Slot=n)
def zvz (n:Int) (x:ze):Prop:=(x.PC=36->0<=x.Slot/\x.Slot<n)/\(x.PC=37->1<=x.Slot/\x.Slot<=n)/\(x.PC=38->x.Slot=n)
def zrM (p:zd) (s:za) (W:Int->Int->Prop) (m:Int) (x:ze):Prop :=
 ¬W (vX x (opM p m x).A) (opM p m x).S->((x.PC=21\/x.PC=22\/((x.PC=1\/x.PC=3)/\x.Ret=22))->x.Old=zZ s.H (vX x (opM p m x).A) (opM p m x).S) /\
  (x.PC=23->zZ s.H (vX x (opM p m x).A) (opM p m x).S=0\/zR s.T.Marks (zZ s.H (vX x (opM p m x).A) (opM p m x).S)=true\/zZ s.H (vX x (opM p m x).A) (opM p m x).S∈x.Buf)
structure PI (p:zd) (s:za) (W:Int->Int->Prop):Prop where
 lv:∀o,Reach p.H (uB p) o->zR s.T.Marks o=true\/zov s W o
 sw:∀(i:Nat) x,s.Ws[i]? =some x->zqr p.H.Slots x
 sx:∀(i:Nat) x,s.Ms[i]? =some x->zvz p.H.Slots x
 cv:∀(i:Nat) x,s.Ms[i]? =some x->zrM p s W ((i:Int)+1) x
theorem zvw {s:za}{g:zI}{o:Int}(hmd:1<=g.Mode/\g.Mode<=3) (ho:1<=o/\o<=64) (hb:zR s.T.Black o=true->zR s.T.Marks o=true) (a:zuR g o) :
  zuR (zF s g).2 o\/zR (zF s g).1.T.Marks o=true:=by
 obtain ⟨h1,h2,h3⟩:=a;unfold zF;rw [zk,zk,zk,zk,zk,zk,zk];split
 .right;show zR (wv s.T g.Obj).1.Marks o=true;rw [h3];unfold wv;split
  .rename_i e;exact Decidable.byContradiction fun hc=>((zc8 ho).2 hc) e
  split
  .exact (wJ _ ho o).2 (.inr rfl)
  .rename_i e;exact hb (by unfold zR;simpa using e)
 .left;exact ⟨h1,.inr rfl,h3⟩
theorem zID {h:zt}{a i v u j:Int}(hne: ¬(u=a/\j=i)) (hi:yP h a i=true->0<=i):yP (Zo h a i v) u j=yP h u j/\zZ (Zo h a i v) u j=zZ h u j:=by
 have hl:=zaz h a i v;by_cases hc:yP h a i=true/\0<=v/\v<=(h.Objs.length:Int)
 .have hs:=YF hc.1;have e0:Zo h a i v={h with Objs:=h.Objs.set (a-1).toNat ((zX h a).set i.toNat v)}:=by unfold Zo;rw [zb hc]
  have es:1<=u->zX (Zo h a i v) u=if u=a then (zX h a).set i.toNat v else zX h u:=fun hu=>by
   rw [e0];unfold zX;rw [zmy (by omega)];by_cases e:u=a
   .rw [yg,zb e]
   .rw [zk,zc e]
  have eh:yP (Zo h a i v) u j=yP h u j:=by
   unfold yP;rw [hl];by_cases hu:1<=u
   .rw [es hu];by_cases e:u=a
    .rw [zb e,zKV,e]
    .rw [zc e]
   .simp [hu]
  refine ⟨eh,?_⟩;unfold zZ;rw [eh];split
  .rename_i hj;have hp:=YF hj;rw [es hp.1.1];by_cases e:u=a
   .rw [zb e,zmy (by omega),zc (by
     intro e2;exact hne ⟨e,by omega⟩),e]
   .rw [zc e]
  .rfl
 .have e0:Zo h a i v=h:=by unfold Zo;rw [zc hc]
  rw [e0];exact ⟨rfl,rfl⟩
theorem zFV (h:zt) (u j:Int):(yP h u j=true->yP (yU h) u j=true)/\zZ (yU h) u j=zZ h u j:=by
 have hl:=zaZ h;have e1:1<=u->u<=(h.Objs.length:Int)->zX (yU h) u=zX h u:=fun h1 h2=>by
  unfold zX yU;rw [zKw,zKw,zKZ (by omega)]
 have e2:u=(h.Objs.length:Int)+1->zX (yU h) u=zMr h.Slots.toNat 0:=fun h1=>by
  unfold zX yU;rw [zKw,zK3 (by omega),show (u-1).toNat-h.Objs.length=0 by omega];rfl
 have e3:yP h u j=true->yP (yU h) u j=true:=fun e=>by
  have hs:=YF e;unfold yP;rw [e1 hs.1.1 hs.1.2,hl];simp;omega
 refine ⟨e3,?_⟩;by_cases c:yP h u j=true
 .have hs:=YF c;unfold zZ;rw [zb c,zb (e3 c),e1 hs.1.1 hs.1.2]
 .unfold zZ;rw [zc c];split
  .rename_i d;have hs:=YF d;by_cases hu:u<=(h.Objs.length:Int)
   .refine zj ?_ c;rw [e1 hs.1.1 hu] at hs;unfold yP;simp;omega
   .rw [e2 (by omega),zKw];cases hx:(zMr h.Slots.toNat (0:Int))[j.toNat]? with
    | none=>rfl
    | some v=>exact zMj (zKy hx)
  .rfl
theorem zGb (s:za) (m:Int) (x:ze):((zn s m x).1.H=s.H/\x.PC≠23)\/(x.PC=23/\(zn s m x).1.H=Zo s.H (vX x (opM s.P m x).A) (opM s.P m x).S (vX x (opM s.P m x).R)/\(zn s m x).2.Buf=x.Buf)\/(x.PC=30/\(zn s m x).1.H=yU s.H):=by
 by_cases c:x.PC=23
 .have e:zn s m x=zdN s m x:=by
   unfold zn;rw [zk,zk,zk,zk,zk,zk,zk,zk,zb c]
  rw [e];exact .inr (.inl ⟨c,rfl,rfl⟩)
 by_cases d:x.PC=30
 .have e:zn s m x=Y6 s m x:=by
   unfold zn;rw [zk,zk,zk,zk,zk,zk,zk,zk,zk,zb d]
  rw [e];unfold Y6;split
  .split
   .exact .inr (.inr ⟨d,rfl⟩)
   .exact .inl ⟨rfl,c⟩
  .exact .inl ⟨rfl,c⟩
 .rcases zuz s m x with h | h | h
  .exact .inl ⟨h,c⟩
  .exact zj h c
  .exact zj h d
theorem zBR {p:zd}{nb:Nat}{s:za}{gh:Gh}{m:Int}{x:ze}(K:MX p s gh x) (O:XOk p nb m x) (hb:∀o,zR s.T.Black o=true->zR s.T.Marks o=true) {o:Int}(h:zaa x o):zaa (zn s m x).2 o\/zR (zn s m x).1.T.Marks o=true:=by
 have hrt:=O.ret;have hpc:=O.pc;refine yN (motive:=fun r=>zaa r.2 o\/zR r.1.T.Marks o=true) s m x ?_ ?_ ?_ ?_ ?_ ?_ ?_ ?_ ?_ ?_ ?_ ?_ ?_ ?_ ?_ ?_ ?_ ?_ ?_ ?_
 all_goals try (intro c)
 .-- 0
  rcases h with h | ⟨h,_⟩ | ⟨h,_⟩
  .left;left;unfold mu0 YH;repeat' split
   all_goals exact h
  .omega
  .omega
 .-- 1
  unfold mu1;dsimp only;split
  .rename_i hl;rcases h with h | ⟨h,e⟩ | ⟨h,_⟩
   .have:x.Buf=[]:=List.length_eq_zero_iff.1 hl;rw [this] at h;cases h
   .left;right;left;exact ⟨.inl (by show x.Ret=22;omega),e⟩
   .omega
  .rename_i hl;rcases h with h | ⟨h,e⟩ | ⟨h,_⟩
   .obtain ⟨i,hi⟩:=zLA.1 h;have hil:=(zKC.1 hi).1;by_cases hlast:i=x.Buf.length-1
    .left;right;right;refine ⟨.inl rfl,rfl,.inl rfl,?_⟩;show x.Buf.getD (x.Buf.length-1) 0=o;rw [zKw,<-hlast,hi];rfl
    .left;left;show o∈x.Buf.take (x.Buf.length-1);exact zKy (i:=i) (by rw [List.getElem?_take_of_lt (by omega)];exact hi)
   .left;right;left;exact ⟨.inr ⟨.inr rfl,by show x.Ret=22;omega⟩,e⟩
   .omega
 .rcases h with h | ⟨h,_⟩ | ⟨h,_⟩
  .left;left;exact h
  .omega
  .omega
 .-- 3
  obtain ⟨G,gm,g0⟩:=K.p3 c;unfold mu3;dsimp only;rcases h with h | ⟨h,e⟩ | ⟨_,h⟩
  .left;left;split<;>exact h
  .left;right;left;split
   .exact ⟨.inr ⟨.inl rfl,by show x.Ret=22;omega⟩,e⟩
   .exact ⟨.inr ⟨.inr c,by show x.Ret=22;omega⟩,e⟩
  .rcases zvw G.md (h.2.2▸G.ob) (hb o) h with h' | h'
   .left;right;right;rw [zc (by have:=h'.1;omega)];exact ⟨.inl c,h'⟩
   .exact .inr h'
 .rcases h with h | ⟨h,_⟩ | ⟨h,_⟩
  .left;left;exact h
  .omega
  .omega
 .rcases h with h | ⟨h,_⟩ | ⟨h,_⟩
  .left;left;unfold UP;dsimp only;split<;>exact h
  .omega
  .omega
 .rcases h with h | ⟨h,_⟩ | ⟨h,_⟩
  .left;left;unfold VR;dsimp only;split<;>exact h
  .omega
  .omega
 .-- 22
  unfold zbx;dsimp only;rcases h with h | ⟨h,e⟩ | ⟨h,_⟩
  .left;left;split
   .exact h
   .exact zKO _ h
  .left;split
   .right;left;exact ⟨.inr ⟨.inl rfl,rfl⟩,e⟩
   .left;exact zK2 _ (by rw [e];simp)
  .omega
 .rcases h with h | ⟨h,_⟩ | ⟨h,_⟩
  .left;left;exact h
  .omega
  .omega
 .rcases h with h | ⟨h,_⟩ | ⟨h,_⟩
  .left;left;unfold Y6;repeat' split
   all_goals exact h
  .omega
  .omega
 .rcases h with h | ⟨h,_⟩ | ⟨h,_⟩
  .left;left;unfold zaK;dsimp only;split<;>exact h
  .omega
  .omega
 .rcases h with h | ⟨h,_⟩ | ⟨h,_⟩
  .left;left;unfold zaE;dsimp only;repeat' split
   all_goals exact h
  .omega
  .omega
 .rcases h with h | ⟨h,_⟩ | ⟨h,_⟩
  .left;left;exact h
  .omega
  .omega
 .rcases h with h | ⟨h,_⟩ | ⟨h,_⟩
  .left;left;unfold zaj;dsimp only;split<;>exact h
  .omega
  .omega
 .rcases h with h | ⟨h,_⟩ | ⟨h,_⟩
  .left;left;unfold zaG;dsimp only;split<;>exact h
  .omega
  .omega
 .rcases h with h | ⟨h,_⟩ | ⟨h,_⟩
  .left;left;unfold zbZ;dsimp only;split<;>exact h
  .omega
  .omega
 .-- 37
  obtain ⟨G,gm,g0⟩:=K.p37 c;unfold WP;dsimp only;rcases h with h | ⟨h,e⟩ | ⟨_,h⟩
  .left;left;split<;>exact h
  .omega
  .rcases zvw G.md (h.2.2▸G.ob) (hb o) h with h' | h'
   .left;right;right;rw [zc (by have:=h'.1;omega)];exact ⟨.inr c,h'⟩
   .exact .inr h'
 .rcases h with h | ⟨h,_⟩ | ⟨h,_⟩
  .left;left;exact h
  .omega
  .omega
 .rcases h with h | ⟨h,_⟩ | ⟨h,_⟩
  .left;left;exact h
  .omega
  .omega
 .exact .inl h
theorem zGv {p:zd}{nb:Nat}{s:za}{gh:Gh}(hsl:s.H.Slots=p.H.Slots) (h1:1<=p.H.Slots/\p.H.Slots<=2) {m:Int}{x:ze}(O:XOk p nb m x) (S:zvz p.H.Slots x) :
  zvz p.H.Slots (zn s m x).2/\∀u j,0<=j->zu8 x u j->zu8 (zn s m x).2 u j\/zZ s.H u j=0\/zaa (zn s m x).2 (zZ s.H u j):=by
 have no:∀ {y:ze},y.PC≠36->y.PC≠37->y.PC≠38->zvz p.H.Slots y/\∀u j,0<=j->zu8 x u j->zu8 y u j\/zZ s.H u j=0\/zaa y (zZ s.H u j) :=
  fun a b c=>⟨⟨fun e=>zj e a,fun e=>zj e b,fun e=>zj e c⟩,fun u j _ _=>.inl (fun e=>by omega)⟩
 have on:∀k:Int,(onM s k=36/\k≠p.H.Slots)\/(onM s k=38/\k=p.H.Slots):=fun k=>by
  unfold onM;rw [hsl];split
  .rename_i e;exact .inr ⟨rfl,e⟩
  .rename_i e;exact .inl ⟨rfl,e⟩
 refine yN (motive:=fun r=>zvz p.H.Slots r.2/\∀u j,0<=j->zu8 x u j->zu8 r.2 u j\/zZ s.H u j=0\/zaa r.2 (zZ s.H u j)) s m x ?_ ?_ ?_ ?_ ?_ ?_ ?_ ?_ ?_ ?_ ?_ ?_ ?_ ?_ ?_ ?_ ?_ ?_ ?_ ?_
 all_goals try (intro c)
 .unfold mu0 YH;repeat' split
  all_goals exact no (by (try dsimp only [setM]);omega) (by (try dsimp only [setM]);omega) (by (try dsimp only [setM]);omega)
 .have:=O.ret (.inl c);unfold mu1;dsimp only;split
  .exact no (by dsimp only;omega) (by dsimp only;omega) (by dsimp only;omega)
  .exact no (by dsimp only;omega) (by dsimp only;omega) (by dsimp only;omega)
 .unfold mu2;exact no (by dsimp only;omega) (by dsimp only;omega) (by dsimp only;omega)
 .unfold mu3;dsimp only;split
  .exact no (by dsimp only;omega) (by dsimp only;omega) (by dsimp only;omega)
  .exact no (by dsimp only;omega) (by dsimp only;omega) (by dsimp only;omega)
 .unfold zeU;exact no (by dsimp only [setM];omega) (by dsimp only [setM];omega) (by dsimp only [setM];omega)
 .unfold UP;dsimp only;split
  .exact no (by dsimp only [xG];omega) (by dsimp only [xG];omega) (by dsimp only [xG];omega)
  .exact no (by dsimp only;omega) (by dsimp only;omega) (by dsimp only;omega)
 .unfold VR;dsimp only;split
  .exact no (by dsimp only;omega) (by dsimp only;omega) (by dsimp only;omega)
  .exact no (by dsimp only;omega) (by dsimp only;omega) (by dsimp only;omega)
 .unfold zbx;dsimp only;split
  .exact no (by dsimp only;omega) (by dsimp only;omega) (by dsimp only;omega)
  .exact no (by dsimp only;omega) (by dsimp only;omega) (by dsimp only;omega)
 .unfold zdN;exact no (by dsimp only [xG];omega) (by dsimp only [xG];omega) (by dsimp only [xG];omega)
 .unfold Y6;split
  .split
   .exact no (by dsimp only [setM];omega) (by dsimp only [setM];omega) (by dsimp only [setM];omega)
   .exact no (by dsimp only [xG];omega) (by dsimp only [xG];omega) (by dsimp only [xG];omega)
  .exact no (by dsimp only;omega) (by dsimp only;omega) (by dsimp only;omega)
 .unfold zaK;dsimp only;split
  .exact no (by dsimp only;omega) (by dsimp only;omega) (by dsimp only;omega)
  .exact no (by dsimp only;omega) (by dsimp only;omega) (by dsimp only;omega)
 .unfold zaE;dsimp only;repeat' split
  all_goals exact no (by dsimp only;omega) (by dsimp only;omega) (by dsimp only;omega)
 .unfold zeW;exact no (by dsimp only;omega) (by dsimp only;omega) (by dsimp only;omega)
 .unfold zaj;dsimp only;split
  .exact no (by dsimp only;omega) (by dsimp only;omega) (by dsimp only;omega)
  .exact no (by dsimp only;omega) (by dsimp only;omega) (by dsimp only;omega)
 .unfold zaG;dsimp only;split
  .exact no (by dsimp only;omega) (by dsimp only;omega) (by dsimp only;omega)
  .exact ⟨⟨fun _=>⟨zKW _,by show (0:Int)<_;omega⟩,fun e=>zj e (by show ¬(36:Int)=37;decide),fun e=>zj e (by show ¬(36:Int)=38;decide)⟩,fun u j h0 _=>.inl (fun _ _=>h0)⟩
 .-- 36
  have hs:=S.1 c;have w:wc (x.Slot+1)=x.Slot+1:=xq;unfold zbZ;dsimp only;rw [w];split
  .rename_i hv;refine ⟨⟨fun e=>?_,fun e=>?_,fun e=>?_⟩,fun u j h0 h=>?_⟩
   .dsimp only at e ⊢;have:=on (x.Slot+1);omega
   .dsimp only at e ⊢;have:=on (x.Slot+1);omega
   .dsimp only at e ⊢;have:=on (x.Slot+1);omega
   .by_cases hu:x.Obj=u
    .have hle:=h (.inl c) hu;by_cases hj:j=x.Slot
     .right;left;rw [<-hu,hj];exact hv
     .left;intro _ _;show x.Slot+1<=j;omega
    .left;intro _ e;exact zj e hu
  .rename_i hv;refine ⟨⟨fun e=>zj e (by show ¬(37:Int)=36;decide),fun _=>⟨by show 1<=x.Slot+1;omega,by show x.Slot+1<=_;omega⟩,fun e=>zj e (by show ¬(37:Int)=38;decide)⟩,fun u j h0 h=>?_⟩;by_cases hu:x.Obj=u
   .have hle:=h (.inl c) hu;by_cases hj:j=x.Slot
    .right;right;right;right;exact ⟨.inr rfl,rfl,.inl rfl,by rw [<-hu,hj];rfl⟩
    .left;intro _ _;show x.Slot+1<=j;omega
   .left;intro _ e;exact zj e hu
 .-- 37
  have hs:=S.2.1 c;unfold WP;dsimp only;split
  .refine ⟨⟨fun e=>?_,fun e=>?_,fun e=>?_⟩,fun u j h0 h=>.inl (fun _ e=>h (.inr (.inl c)) e)⟩
   .dsimp only at e ⊢;have:=on x.Slot;omega
   .dsimp only at e ⊢;have:=on x.Slot;omega
   .dsimp only at e ⊢;have:=on x.Slot;omega
  .exact ⟨⟨fun e=>zj e (by show ¬x.PC=36;omega),fun _=>hs,fun e=>zj e (by show ¬x.PC=38;omega)⟩,fun u j h0 h=>.inl (fun _ e=>h (.inr (.inl c)) e)⟩
 .unfold zeR;exact no (by dsimp only;omega) (by dsimp only;omega) (by dsimp only;omega)
 .unfold zh9;exact no (by dsimp only;omega) (by dsimp only;omega) (by dsimp only;omega)
 .exact ⟨S,fun u j _ h=>.inl h⟩
theorem zbk.mono {s s':za}(F:zbk s s') {o:Int}(h:zR s.T.Marks o=true):zR s'.T.Marks o=true:=by
 rcases F with ⟨e,_⟩ | ⟨q,_,_,e,_⟩ | ⟨q,_,e,_⟩ | ⟨_,_,e⟩
 .rw [e];exact h
 .rw [e];exact (xO _ _ _).2 (.inl h)
 .rw [e];exact h
 .rw [e];exact (xO _ _ _).2 (.inl h)
theorem zFR {p:zd}{s:za}(hP:s.P=p) {W:Int->Int->Prop}{m:Int}{x:ze}(K:zrM p s W m x) (mono:∀o,zR s.T.Marks o=true->zR (zn s m x).1.T.Marks o=true) (hr:x.PC=1\/x.PC=3->x.Ret=2\/x.Ret=22) :
  ∀l:List ze,zrM p {(zn s m x).1 with Ms:=l} (fun u j=>W u j\/(x.PC=23/\u=vX x (opM p m x).A/\j=(opM p m x).S)) m (zn s m x).2:=by
 intro l;have no:∀ {t:za}{y:ze},¬(y.PC=21\/y.PC=22\/((y.PC=1\/y.PC=3)/\y.Ret=22))->y.PC≠23->zrM p t (fun u j=>W u j\/(x.PC=23/\u=vX x (opM p m x).A/\j=(opM p m x).S)) m y :=
  fun a b _=>⟨fun e=>zj e a,fun e=>zj e b⟩
 have keep:∀ {t:za}{y:ze},y.IP=x.IP->y.Regs=x.Regs->vX y (opM p m y).A=vX x (opM p m x).A/\(opM p m y).S=(opM p m x).S:=fun e1 e2=>by
  unfold opM vX;rw [e1,e2];exact ⟨rfl,rfl⟩
 revert mono;refine yN (motive:=fun r=>(∀o,zR s.T.Marks o=true->zR r.1.T.Marks o=true)->zrM p {r.1 with Ms:=l} (fun u j=>W u j\/(x.PC=23/\u=vX x (opM p m x).A/\j=(opM p m x).S)) m r.2) s m x ?_ ?_ ?_ ?_ ?_ ?_ ?_ ?_ ?_ ?_ ?_ ?_ ?_ ?_ ?_ ?_ ?_ ?_ ?_ ?_
 .intro c _;unfold mu0 YH;repeat' split
  all_goals exact no (by (try dsimp only [setM]);omega) (by (try dsimp only [setM]);omega)
 .intro c _;have hr:=hr (.inl c);unfold mu1;dsimp only;intro hW;split
  .refine ⟨fun e=>?_,fun e=>by dsimp only at e;omega⟩;have e:x.Ret=21\/x.Ret=22\/((x.Ret=1\/x.Ret=3)/\x.Ret=22):=e;exact (K (fun h=>hW (by split<;>exact .inl h))).1 (.inr (.inr ⟨.inl c,by omega⟩))
  .refine ⟨fun e=>?_,fun e=>by dsimp only at e;omega⟩;have e:(3:Int)=21\/(3:Int)=22\/(((3:Int)=1\/(3:Int)=3)/\x.Ret=22):=e;exact (K (fun h=>hW (by split<;>exact .inl h))).1 (.inr (.inr ⟨.inl c,by omega⟩))
 .intro c _;unfold mu2;exact no (by (try dsimp only);omega) (by (try dsimp only);omega)
 .intro c _;unfold mu3;dsimp only;intro hW;have eH:(zF s x.G).1.H=s.H:=by rw [Zq]
  split
  .refine ⟨fun e=>?_,fun e=>by dsimp only at e;omega⟩;have e:(1:Int)=21\/(1:Int)=22\/(((1:Int)=1\/(1:Int)=3)/\x.Ret=22):=e;show x.Old=zZ (zF s x.G).1.H _ _;rw [eH];exact (K (fun h=>hW (by split<;>exact .inl h))).1 (.inr (.inr ⟨.inr c,by omega⟩))
  .refine ⟨fun e=>?_,fun e=>by dsimp only at e;omega⟩;have e:x.PC=21\/x.PC=22\/((x.PC=1\/x.PC=3)/\x.Ret=22):=e;show x.Old=zZ (zF s x.G).1.H _ _;rw [eH];exact (K (fun h=>hW (by split<;>exact .inl h))).1 (.inr (.inr ⟨.inr c,by omega⟩))
 .intro c _;unfold zeU;exact no (by (try dsimp only [setM]);omega) (by (try dsimp only [setM]);omega)
 .intro c _;unfold UP;dsimp only;split
  .exact no (by (try dsimp only [xG]);omega) (by (try dsimp only [xG]);omega)
  .intro hW;refine ⟨fun _=>?_,fun e=>by dsimp only at e;omega⟩;show ztk s m x=_;unfold ztk;rw [hP];rfl
 .intro c mono;unfold VR;dsimp only;split
  .rename_i h;intro hW;have k:=(K (fun h=>hW (.inl h))).1 (.inl c);refine ⟨fun e=>by dsimp only at e;omega,fun _=>?_⟩;show zZ s.H (vX x (opM p m x).A) (opM p m x).S=0\/zR s.T.Marks (zZ s.H (vX x (opM p m x).A) (opM p m x).S)=true\/_;rw [<-k];rcases h with h | h
   .exact .inl h
   .right;left;unfold yB at h;split at h
    .rename_i h2;exact ((ZC _ _ _).1 h2).1
    .split at h
     .assumption
     .exact zj rfl h
  .intro hW;exact ⟨fun _=>(K (fun h=>hW (.inl h))).1 (.inl c),fun e=>by dsimp only at e;omega⟩
 .intro c mono;unfold zbx;dsimp only;split
  .intro hW;exact ⟨fun _=>(K (fun h=>hW (.inl h))).1 (.inr (.inl c)),fun e=>by dsimp only at e;omega⟩
  .intro hW;have k:=(K (fun h=>hW (.inl h))).1 (.inr (.inl c));refine ⟨fun e=>by dsimp only at e;omega,fun _=>.inr (.inr ?_)⟩;show zZ s.H (vX x (opM p m x).A) (opM p m x).S∈x.Buf++[x.Old];rw [<-k];simp
 .intro c _;unfold zdN;exact no (by (try dsimp only [xG]);omega) (by (try dsimp only [xG]);omega)
 .intro c _;unfold Y6;split
  .split
   .exact no (by (try dsimp only [setM]);omega) (by (try dsimp only [setM]);omega)
   .exact no (by (try dsimp only [xG]);omega) (by (try dsimp only [xG]);omega)
  .exact no (by (try dsimp only);omega) (by (try dsimp only);omega)
 .intro c _;unfold zaK;dsimp only;split
  .exact no (by (try dsimp only);omega) (by (try dsimp only);omega)
  .exact no (by (try dsimp only);omega) (by (try dsimp only);omega)
 .intro c _;unfold zaE;dsimp only;repeat' split
  all_goals exact no (by (try dsimp only);omega) (by (try dsimp only);omega)
 .intro c _;unfold zeW;exact no (by (try dsimp only);omega) (by (try dsimp only);omega)
 .intro c _;unfold zaj;dsimp only;split
  .exact no (by (try dsimp only);omega) (by (try dsimp only);omega)
  .exact no (by (try dsimp only);omega) (by (try dsimp only);omega)
 .intro c _;unfold zaG;dsimp only;split
  .exact no (by (try dsimp only);omega) (by (try dsimp only);omega)
  .exact no (by (try dsimp only);omega) (by (try dsimp only);omega)
 .intro c _;unfold zbZ;dsimp only;have:=YA s (wc (x.Slot+1));split
  .exact no (by (try dsimp only);omega) (by (try dsimp only);omega)
  .exact no (by (try dsimp only);omega) (by (try dsimp only);omega)
 .intro c _;unfold WP;dsimp only;have:=YA s x.Slot;split
  .exact no (by (try dsimp only);omega) (by (try dsimp only);omega)
  .exact no (by (try dsimp only);omega) (by (try dsimp only);omega)
 .intro c _;unfold zeR;exact no (by (try dsimp only);omega) (by (try dsimp only);omega)
 .intro c _;unfold zh9;exact no (by (try dsimp only);omega) (by (try dsimp only);omega)
 .intro _ hW;exact K (fun h=>hW (.inl h))
theorem zvO {p:zd}{nb k:Nat}{s s':za}{gh:Gh}(G:FG p nb k s gh) (F:zbk s s') {u:Int}(hu:u<=(s.H.Objs.length:Int)) (h:yB s.T u=1):yB s'.T u=1\/(yB s.T u=1/\s'.T={s.T with Black:=s.T.Black|||bit u}):=by
 have ht:=(uw _ _).1 h;rcases F with ⟨e,_⟩ | ⟨q,_,_,e,_⟩ | ⟨q,hq,e,_⟩ | ⟨_,_,e⟩
 .left;rw [e];exact h
 .left;rw [e,uw];exact ⟨(xO _ _ _).2 (.inl ht.1),ht.2⟩
 .by_cases hqu:u=q
  .right;subst hqu;exact ⟨h,e⟩
  .left;rw [e,uw];exact ⟨ht.1,fun hb=>(Xd hb).elim ht.2 (fun e=>hqu e)⟩
 .left;rw [e,uw];exact ⟨(xO _ _ _).2 (.inl ht.1),fun hb=>(Xd hb).elim ht.2 (fun e=>by omega)⟩
theorem zt4 {p:zd}{nb k:Nat}{s s':za}{gh:Gh}(G:FG p nb k s gh) (F:zbk s s') {u:Int}(hu:u<=(s.H.Objs.length:Int)) (h: ¬zR s.T.Marks u=true) (h':zR s'.T.Marks u=true):yB s'.T u=1:=by
 have nb: ¬zR s.T.Black u=true:=fun e=>h (G.B.blk u e);rcases F with ⟨e,_⟩ | ⟨q,_,_,e,_⟩ | ⟨q,hq,e,_⟩ | ⟨_,_,e⟩
 .rw [e] at h';exact zj h' h
 .rw [uw];refine ⟨h',?_⟩;rw [e];exact nb
 .rw [e] at h';exact zj h' h
 .rw [e] at h';rcases Xd h' with h2 | h2
  .exact zj h2 h
  .omega
theorem zDv {p:zd}{nb:Nat}{s:za}(E:EOk p nb s) {u j:Int}(h:yP s.H u j=true):0<=j/\j<p.H.Slots:=by
 have hs:=YF h;have hm:zX s.H u∈s.H.Objs:=by
  unfold zX;rw [zKw,zKv (show (u-1).toNat<s.H.Objs.length by omega)];exact zKR _
 have h1:=(E.H.objs _ hm).1;have h2:=E.H.slots;omega
theorem zJc {s:za}{m:Int}{x:ze}(c:x.PC=3):(zn s m x).2.PC=1\/(zn s m x).2.PC=3:=by
 unfold zn;rw [zk,zk,zk,zb c];unfold mu3;dsimp only;split
 .exact .inl rfl
 .exact .inr c
theorem zFF {s:za}{m:Int}{x:ze}(c:x.PC=37):(zn s m x).2.Obj=x.Obj:=by
 have e37:zn s m x=WP s m x:=by
  unfold zn;rw [zk,zk,zk,zk,zk,zk,zk,zk,zk,zk,zk,zk,zk,zk,zk,zk,zb c]
 rw [e37];unfold WP;dsimp only;split<;>rfl
def zEs (s:za) (m:Int) (x:ze) (N C:List Int):Prop :=
 (N=[]/\C=[]/\(zn s m x).1.T=s.T)\/(N=[x.G.Obj]/\C=[]/\(x.PC=3\/x.PC=37)/\¬(s.T.Marks|||bit x.G.Obj=s.T.Marks)/\(zn s m x).1.T={s.T with Marks:=s.T.Marks|||bit x.G.Obj})\/(N=[]/\C=[x.Obj]/\x.PC=38/\(zn s m x).1.T=wh s.T x.Obj) \/
   (N=[]/\C=[]/\x.PC=30/\Yp s.H s.P.Most=true/\(zn s m x).1.H=yU s.H/\(zn s m x).1.T=XF s.T (wc (s.H.Objs.length+1)))
theorem FG.fresh {p:zd}(hp:zJ p) {nb k:Nat}{s:za}{gh:Gh}(G:FG p nb k s gh):XF s.T (wc (s.H.Objs.length+1))=⟨s.T.Marks|||bit ((s.H.Objs.length:Int)+1),s.T.Black|||bit ((s.H.Objs.length:Int)+1)⟩/\¬zR s.T.Marks ((s.H.Objs.length:Int)+1)=true/\(s.H.Objs.length:Int)<=9:=by
 have hN0:=G.E.H.n;have hM0:=hp.most;have hn6:=hp.n;have nm: ¬zR s.T.Marks ((s.H.Objs.length:Int)+1)=true:=fun e=>by have:=G.mrk _ e;omega
 have hw:wc ((s.H.Objs.length:Int)+1)=(s.H.Objs.length:Int)+1:=xq;rw [hw,zmK (by omega) nm (fun e=>nm (G.B.blk _ e))];exact ⟨rfl,nm,by omega⟩
theorem zGr {p:zd}(hp:zJ p) {nb k:Nat}{s:za}{gh:Gh}(G:FG p nb k s gh) {m:Int}{i:Nat}{x:ze}(hx:s.Ms[i]? =some x) {N C:List Int}(hT:zEs s m x N C) {u:Int}(hg:yB s.T u=1)
  (h:(zn s m x).1.T={s.T with Black:=s.T.Black|||bit u}):x.PC=38/\x.Obj=u:=by
 have hb:=((uw _ _).1 hg).2;have hu:=(wJ s.T.Black (za6 hg) u).2 (.inr rfl);rcases hT with ⟨_,_,e⟩ | ⟨_,_,_,_,e⟩ | ⟨_,_,c,e⟩ | ⟨_,_,_,_,e1,e⟩
 .rw [e] at h;have:=congrArg zx.Black h;exact zj (by rw [this];exact hu) hb
 .rw [e] at h;have:=congrArg zx.Black h;exact zj (by rw [this];exact hu) hb
 .have hob:yB s.T x.Obj=1:=G.grey (zd5 hx (by unfold yo;rw [Vi (.inr c)];simp));rw [e] at h;unfold wh at h;rw [zb hob] at h;have hbb:s.T.Black|||bit x.Obj=s.T.Black|||bit u:=congrArg zx.Black h;refine ⟨c,?_⟩;rw [<-hbb] at hu;rcases Xd hu with h2 | h2
  .exact zj h2 hb
  .exact h2.symm
 .obtain ⟨f1,f2,f3⟩:=G.fresh hp;rw [e,f1] at h;have:s.T.Marks|||bit ((s.H.Objs.length:Int)+1)=s.T.Marks:=congrArg zx.Marks h;exact zj (by rw [<-this];exact (wJ _ (by omega) _).2 (.inr rfl)) f2
theorem zFo {p:zd}(hp:zJ p) {nb k:Nat}{s:za}{gh:Gh}(G:FG p nb k s gh) {m:Int}{x:ze}{N C:List Int}(hT:zEs s m x N C) {u:Int}(hu:u<=(s.H.Objs.length:Int)) (h0: ¬zR s.T.Marks u=true) (h1:zR (zn s m x).1.T.Marks u=true):x.PC=3\/x.PC=37:=by
 rcases hT with ⟨_,_,e⟩ | ⟨_,_,c,_,e⟩ | ⟨_,_,c,e⟩ | ⟨_,_,c,_,_,e⟩
 .rw [e] at h1;exact zj h1 h0
 .exact c
 .rw [e,(zs9 _ _).1] at h1;exact zj h1 h0
 .obtain ⟨f1,f2,f3⟩:=G.fresh hp;rw [e,f1] at h1;rcases Xd h1 with h | h
  .exact zj h h0
  .omega
theorem zyq {p:zd}{nb k:Nat}{s:za}{gh:Gh}(G:FG p nb k s gh) {i:Nat}{y:zi}(hy:s.Ws[i]? =some y) (hpc:y.PC=5\/y.PC=6\/y.PC=8):zR s.T.Marks y.Obj=true:=by
 have hg:yB s.T y.Obj=1:=G.grey (zfU hy (by
  unfold ya;rcases hpc with e | e | e
  .rw [XA (.inl e)];simp
  .rw [zrY e];simp
  .rw [XA (.inr e)];simp))
 exact ((uw _ _).1 hg).1
theorem zyB {p:zd}{nb k:Nat}{s:za}{gh:Gh}(G:FG p nb k s gh) {i:Nat}{y:ze}(hy:s.Ms[i]? =some y) (hpc:y.PC=36\/y.PC=37\/y.PC=38):zR s.T.Marks y.Obj=true:=by
 have hg:yB s.T y.Obj=1:=G.grey (zd5 hy (by
  unfold yo;rcases hpc with e | e | e
  .rw [Vi (.inl e)];simp
  .rw [zpe e];simp
  .rw [Vi (.inr e)];simp))
 exact ((uw _ _).1 hg).1
theorem PI.mutator {p:zd}(hp:zJ p) {nb k:Nat}{s:za}{gh:Gh}(hk:k<4294960000) (G:FG p nb k s gh) {W:Int->Int->Prop}(I:PI p s W) {m:Int}(hm:1<=m/\m<=p.Mutators) (hd:s.Done=false):∃W',PI p (zG s m) W':=by
 obtain ⟨gh',G',F,x,hx,N,C,hbag,hT⟩:=G.mutator hp hk hm hd;have hT:zEs s m x N C:=hT;have hml:=G.E.ml;have hsl:=hp.slots;have hi:(m-1).toNat<s.Ms.length:=(zKC.1 hx).1;have ei:(((m-1).toNat:Nat):Int)+1=m:=by omega
 have eS:zG s m={(zn s m x).1 with Ms:=s.Ms.set (m-1).toNat (zn s m x).2}:=by
  unfold zG;rw [zc (by rw [hd];rintro (e | e | e)<;>first | cases e | omega),hx]
 have hMX:=G.M _ x hx;have hXO:=G.E.X _ x hx;have hcv:=I.cv _ x hx;rw [ei] at hXO hcv;have hP:=G.E.S.P;have eH:(zG s m).H=(zn s m x).1.H:=by rw [eS]
 have eT:(zG s m).T=(zn s m x).1.T:=by rw [eS]
 have eW:(zG s m).Ws=s.Ws:=by rw [eS];show (zn s m x).1.Ws=_;rw [zcC]
 have eX:(zG s m).Ms=s.Ms.set (m-1).toNat (zn s m x).2:=by rw [eS]
 have mono:∀o,zR s.T.Marks o=true->zR (zG s m).T.Marks o=true:=fun o h=>F.mono h;obtain ⟨sl1,sl2⟩:=zGv (s:=s) (m:=m) (gh:=gh) G.E.H.slots hsl hXO (I.sx _ x hx);have here:(zG s m).Ms[(m-1).toNat]? =some (zn s m x).2:=by rw [eX];exact zLb hi
 have there:∀(i:Nat) y,i≠(m-1).toNat->s.Ms[i]? =some y->(zG s m).Ms[i]? =some y:=fun i y hne h=>by rw [eX,zKP (fun e=>hne e.symm)];exact h
 have back:∀(i:Nat) y,(zG s m).Ms[i]? =some y->(i=(m-1).toNat/\y=(zn s m x).2)\/(i≠(m-1).toNat/\s.Ms[i]? =some y):=fun i y h=>by
  rw [eX] at h;by_cases hne:i=(m-1).toNat
  .subst hne;rw [zLb hi] at h;injection h with h;exact .inl ⟨rfl,h.symm⟩
  .rw [zKP (fun e=>hne e.symm)] at h;exact .inr ⟨hne,h⟩
 have heapS:∀u j,¬(x.PC=23/\u=vX x (opM p m x).A/\j=(opM p m x).S)->(yP s.H u j=true->yP (zG s m).H u j=true)/\zZ (zG s m).H u j=zZ s.H u j:=fun u j hne=>by
  rw [eH];rcases zGb s m x with ⟨e,_⟩ | ⟨c,e,_⟩ | ⟨_,e⟩
  .rw [e];exact ⟨id,rfl⟩
  .rw [e,hP];obtain ⟨a,b⟩:=zID (h:=s.H) (a:=vX x (opM p m x).A) (i:=(opM p m x).S) (v:=vX x (opM p m x).R) (u:=u) (j:=j) (fun e=>hne ⟨c,e⟩) (fun e=>(YF e).2.1);exact ⟨fun h=>a.trans h,b⟩
  .rw [e];exact zFV _ _ _
 have P:zvT s (zG s m) W (fun u j=>W u j\/(x.PC=23/\u=vX x (opM p m x).A/\j=(opM p m x).S)):=by
  refine ⟨mono,fun o h=>?_,fun u j hW hj=>?_,fun u j hW hj hg hu=>?_,fun u j hW hj hm0 hm1=>?_⟩
  .rcases h with ⟨i,y,hy,h⟩ | ⟨i,y,hy,h⟩
   .right;left;exact ⟨i,y,by rw [eW];exact hy,h⟩
   .by_cases hne:i=(m-1).toNat
    .subst hne;rw [hx] at hy;injection hy with hy;subst hy;rcases zBR (m:=m) hMX hXO G.B.blk h with h | h
     .right;right;exact ⟨_,_,here,h⟩
     .left;rw [eT];exact h
    .right;right;exact ⟨i,y,there i y hne hy,h⟩
  .by_cases hc:x.PC=23/\u=vX x (opM p m x).A/\j=(opM p m x).S
   .obtain ⟨c,rfl,rfl⟩:=hc;right;rcases (hcv hW).2 c with h | h | h
    .exact .inl h
    .exact .inr (.inl (mono _ h))
    .right;right;right;refine ⟨_,_,here,.inl ?_⟩;rcases zGb s m x with ⟨_,e⟩ | ⟨_,_,e⟩ | ⟨e,_⟩
     .exact zj c e
     .rw [e];exact h
     .omega
   .left;obtain ⟨a,b⟩:=heapS u j hc;exact ⟨fun h=>h.elim hW hc,a hj,b⟩
  .have hpos:=YF hj;have hrow:=zDv G.E hj;have htint:yB (zG s m).T u=1:=by
    rcases zvO G F hpos.1.2 hg with h | ⟨_,h⟩
    .exact h
    .exfalso;obtain ⟨c,ho⟩:=zGr hp G hx hT hg (by rw [<-eT];exact h);have hle:=hu.2 _ x hx (.inr (.inr c)) ho;have:=(I.sx _ x hx).2.2 c;omega
   rcases sl2 u j hpos.2.1 (hu.2 _ x hx) with h | h | h
   .left;refine ⟨htint,fun i y hy=>hu.1 i y (by rw [<-eW];exact hy),fun i y hy=>?_⟩;rcases back i y hy with ⟨_,rfl⟩ | ⟨_,hy⟩
    .exact h
    .exact hu.2 i y hy
   .exact .inr (.inl h)
   .exact .inr (.inr (.inr (.inr ⟨_,_,here,h⟩)))
  .have hpos:=YF hj;refine ⟨zt4 G F hpos.1.2 hm0 hm1,fun i y hy hpc ho=>?_,fun i y hy hpc ho=>?_⟩
   .rw [eW] at hy;exact zj (ho▸zyq G hy hpc) hm0
   .rcases back i y hy with ⟨_,rfl⟩ | ⟨_,hy⟩
    .exfalso;rcases zFo hp G hT hpos.1.2 hm0 (by rw [<-eT];exact hm1) with c | c
     .have:=zJc (s:=s) (m:=m) c;omega
     .have h3:=zFF (s:=s) (m:=m) c;exact hm0 (by rw [<-ho,h3];exact zyB G hx (.inr (.inl c)))
    .exact zj (ho▸zyB G hy hpc) hm0
 refine ⟨fun u j=>W u j\/(x.PC=23/\u=vX x (opM p m x).A/\j=(opM p m x).S),fun o ho=>?_,fun i y hy=>I.sw i y (by rw [<-eW];exact hy),fun i y hy=>?_,fun i y hy=>?_⟩
 .have h0:o≠0:=by have:=ho.in;omega
  rcases I.lv o ho with h | h
  .exact .inl (mono o h)
  .exact P.prot h h0
 .rcases back i y hy with ⟨_,rfl⟩ | ⟨_,hy⟩
  .exact sl1
  .exact I.sx i y hy
 .rcases back i y hy with ⟨rfl,rfl⟩ | ⟨_,hy⟩
  .rw [ei,eS];exact zFR hP hcv (fun o h=>by rw [<-eT];exact mono o h) hXO.ret _
  .intro hW;have hW1: ¬W (vX y (opM p ((i:Int)+1) y).A) (opM p ((i:Int)+1) y).S:=fun h=>hW (.inl h);obtain ⟨a,b⟩:=I.cv i y hy hW1;have hh:=(heapS (vX y (opM p ((i:Int)+1) y).A) (opM p ((i:Int)+1) y).S (fun h=>hW (.inr h))).2;rw [hh];exact ⟨a,fun e=>(b e).imp id (fun h=>h.imp (mono _) id)⟩
theorem zvI {s:za}{w:Int}{x:zi}(c:x.PC=6):zB s w x=((zF s x.G).1,if (zF s x.G).2.Out=1 then {x with G:=(zF s x.G).2,PC:=onW s x.Slot} else {x with G:=(zF s x.G).2}):=by
 unfold zB;rw [zk,zk,zk,zk,zk,zb c]
theorem zF1 {p:zd}{s:za}{gh:Gh}{w:Int}{x:zi}(K:WX p s gh w x) (hb:∀o,zR s.T.Black o=true->zR s.T.Marks o=true) {o:Int}(h:znu x o):znu (zB s w x).2 o\/zR (zB s w x).1.T.Marks o=true:=by
 obtain ⟨c,h⟩:=h;obtain ⟨G,gm,gw,g0⟩:=K.p6 c;rw [zvI c];dsimp only;rcases zvw G.md (h.2.2▸G.ob) (hb o) h with h' | h'
 .left;rw [zc (by have:=h'.1;omega)];exact ⟨c,h'⟩
 .exact .inr h'
theorem zEG {p:zd}{nb:Nat}{s:za}(hsl:s.H.Slots=p.H.Slots) (h1:1<=p.H.Slots/\p.H.Slots<=2) {w:Int}{x:zi}(O:WOk p nb w x) (S:zqr p.H.Slots x) :
  zqr p.H.Slots (zB s w x).2/\∀u j,0<=j->zmz x u j->zmz (zB s w x).2 u j\/zZ s.H u j=0\/znu (zB s w x).2 (zZ s.H u j):=by
 have hpc:=O.pc;have no:∀ {y:zi},y.PC≠5->y.PC≠6->y.PC≠8->zqr p.H.Slots y/\∀u j,0<=j->zmz x u j->zmz y u j\/zZ s.H u j=0\/znu y (zZ s.H u j) :=
  fun a b c=>⟨⟨fun e=>zj e a,fun e=>zj e b,fun e=>zj e c⟩,fun u j _ _=>.inl (fun e=>by omega)⟩
 have zero:∀ {y:zi},y.PC=5->y.Slot=0->zqr p.H.Slots y/\∀u j,0<=j->zmz x u j->zmz y u j\/zZ s.H u j=0\/znu y (zZ s.H u j) :=
  fun a b=>⟨⟨fun _=>by omega,fun e=>by omega,fun e=>by omega⟩,fun u j h0 _=>.inl (fun _ _=>by omega)⟩
 have on:∀k:Int,(onW s k=5/\k≠p.H.Slots)\/(onW s k=8/\k=p.H.Slots):=fun k=>by
  unfold onW;rw [hsl];split
  .rename_i e;exact .inr ⟨rfl,e⟩
  .rename_i e;exact .inl ⟨rfl,e⟩
 have lk:∀y:zi,(Zk s.P w y).PC=1\/(Zk s.P w y).PC=2:=fun y=>by unfold Zk;split<;>simp
 by_cases c6:x.PC=6
 .have hs:=S.2.1 c6;rw [zvI c6];dsimp only;split
  .refine ⟨⟨fun e=>?_,fun e=>?_,fun e=>?_⟩,fun u j h0 h=>.inl (fun _ e=>h (.inr (.inl c6)) e)⟩
   .dsimp only at e ⊢;have:=on x.Slot;omega
   .dsimp only at e ⊢;have:=on x.Slot;omega
   .dsimp only at e ⊢;have:=on x.Slot;omega
  .exact ⟨⟨fun e=>zj e (by show ¬x.PC=5;omega),fun _=>hs,fun e=>zj e (by show ¬x.PC=8;omega)⟩,fun u j h0 h=>.inl (fun _ e=>h (.inr (.inl c6)) e)⟩
 have key:∀r:za×zi,zB s w x=r->(zqr p.H.Slots r.2/\∀u j,0<=j->zmz x u j->zmz r.2 u j\/zZ s.H u j=0\/znu r.2 (zZ s.H u j))->zqr p.H.Slots (zB s w x).2/\∀u j,0<=j->zmz x u j->zmz (zB s w x).2 u j\/zZ s.H u j=0\/znu (zB s w x).2 (zZ s.H u j):=fun r e h=>by rw [e];exact h
 by_cases c01:x.PC=0\/x.PC=1
 .refine key _ (by unfold zB;rw [zb c01]) ?_;dsimp only;split
  .exact zero rfl rfl
  split
  .have:=lk {x with D:=(yj s.M x.D).2};exact no (by omega) (by omega) (by omega)
  .exact no (by dsimp only;omega) (by dsimp only;omega) (by dsimp only;omega)
 by_cases c2:x.PC=2
 .refine key _ (by unfold zB;rw [zc c01,zb c2]) ?_;dsimp only;split
  .exact no (by dsimp only;omega) (by dsimp only;omega) (by dsimp only;omega)
  split
  .exact no (by show (0:Int)≠5;decide) (by show (0:Int)≠6;decide) (by show (0:Int)≠8;decide)
  .exact no (by dsimp only;omega) (by dsimp only;omega) (by dsimp only;omega)
 by_cases c3:x.PC=3
 .refine key _ (by unfold zB;rw [zc c01,zc c2,zb c3]) ?_;exact no (by dsimp only;omega) (by dsimp only;omega) (by dsimp only;omega)
 by_cases c4:x.PC=4
 .refine key _ (by unfold zB;rw [zc c01,zc c2,zc c3,zb c4]) ?_;dsimp only;split
  .exact no (by dsimp only;omega) (by dsimp only;omega) (by dsimp only;omega)
  .exact no (by dsimp only;omega) (by dsimp only;omega) (by dsimp only;omega)
 by_cases c:x.PC=5
 .have hs:=S.1 c;have ww:wc (x.Slot+1)=x.Slot+1:=xq;refine key _ (by unfold zB;rw [zc c01,zc c2,zc c3,zc c4,zb c]) ?_;dsimp only;rw [ww];split
  .rename_i hv;refine ⟨⟨fun e=>?_,fun e=>?_,fun e=>?_⟩,fun u j h0 h=>?_⟩
   .dsimp only at e ⊢;have:=on (x.Slot+1);omega
   .dsimp only at e ⊢;have:=on (x.Slot+1);omega
   .dsimp only at e ⊢;have:=on (x.Slot+1);omega
   .by_cases hu:x.Obj=u
    .have hle:=h (.inl c) hu;by_cases hj:j=x.Slot
     .right;left;rw [<-hu,hj];exact hv
     .left;intro _ _;show x.Slot+1<=j;omega
    .left;intro _ e;exact zj e hu
  .rename_i hv;refine ⟨⟨fun e=>zj e (by show ¬(6:Int)=5;decide),fun _=>⟨by show 1<=x.Slot+1;omega,by show x.Slot+1<=_;omega⟩,fun e=>zj e (by show ¬(6:Int)=8;decide)⟩,fun u j h0 h=>?_⟩;by_cases hu:x.Obj=u
   .have hle:=h (.inl c) hu;by_cases hj:j=x.Slot
    .right;right;exact ⟨rfl,rfl,.inl rfl,by rw [<-hu,hj];rfl⟩
    .left;intro _ _;show x.Slot+1<=j;omega
   .left;intro _ e;exact zj e hu
 by_cases c7:x.PC=7
 .refine key _ (by unfold zB;rw [zc c01,zc c2,zc c3,zc c4,zc c,zc c6,zb c7]) ?_;dsimp only;split
  .exact no (by show (0:Int)≠5;decide) (by show (0:Int)≠6;decide) (by show (0:Int)≠8;decide)
  .exact zero rfl rfl
 by_cases c8:x.PC=8
 .refine key _ (by unfold zB;rw [zc c01,zc c2,zc c3,zc c4,zc c,zc c6,zc c7,zb c8]) ?_;exact no (by dsimp only;omega) (by dsimp only;omega) (by dsimp only;omega)
 have c9:x.PC=9:=by omega
 refine key _ (by unfold zB;rw [zc c01,zc c2,zc c3,zc c4,zc c,zc c6,zc c7,zc c8,zb c9]) ?_;exact no (by dsimp only;omega) (by dsimp only;omega) (by dsimp only;omega)
theorem PI.worker {p:zd}(hp:zJ p) {nb k:Nat}{s:za}{gh:Gh}(hk:k<4294960000) (G:FG p nb k s gh) {W:Int->Int->Prop}(I:PI p s W) {w:Int}(hw:1<=w/\w<=p.Workers) (hd:s.Done=false):PI p (zP s w) W:=by
 obtain ⟨gh',G',F,x,hx,N,C,hbag,hT⟩:=G.worker hp hk hw hd;have hwl:=G.E.wl;have hsl:=hp.slots;have hi:(w-1).toNat<s.Ws.length:=(zKC.1 hx).1;have ei:(((w-1).toNat:Nat):Int)+1=w:=by omega
 have eS:zP s w={(zB s w x).1 with Ws:=s.Ws.set (w-1).toNat (zB s w x).2}:=by
  unfold zP;rw [zc (by rw [hd];rintro (e | e | e)<;>first | cases e | omega),hx]
 have hWX:=G.W _ x hx;have hWO:=G.E.W _ x hx;rw [ei] at hWX hWO;have hfr:=zfI (s:=s) hWO;have eH:(zP s w).H=s.H:=by rw [eS];show (zB s w x).1.H=_;rw [hfr]
 have eT:(zP s w).T=(zB s w x).1.T:=by rw [eS]
 have eX:(zP s w).Ms=s.Ms:=by rw [eS];show (zB s w x).1.Ms=_;rw [hfr]
 have eW:(zP s w).Ws=s.Ws.set (w-1).toNat (zB s w x).2:=by rw [eS]
 have mono:∀o,zR s.T.Marks o=true->zR (zP s w).T.Marks o=true:=fun o h=>F.mono h;obtain ⟨sl1,sl2⟩:=zEG (s:=s) (w:=w) G.E.H.slots hsl hWO (I.sw _ x hx);have here:(zP s w).Ws[(w-1).toNat]? =some (zB s w x).2:=by rw [eW];exact zLb hi
 have there:∀(i:Nat) y,i≠(w-1).toNat->s.Ws[i]? =some y->(zP s w).Ws[i]? =some y:=fun i y hne h=>by rw [eW,zKP (fun e=>hne e.symm)];exact h
 have back:∀(i:Nat) y,(zP s w).Ws[i]? =some y->(i=(w-1).toNat/\y=(zB s w x).2)\/(i≠(w-1).toNat/\s.Ws[i]? =some y):=fun i y h=>by
  rw [eW] at h;by_cases hne:i=(w-1).toNat
  .subst hne;rw [zLb hi] at h;injection h with h;exact .inl ⟨rfl,h.symm⟩
  .rw [zKP (fun e=>hne e.symm)] at h;exact .inr ⟨hne,h⟩
 have P:zvT s (zP s w) W W:=by
  refine ⟨mono,fun o h=>?_,fun u j hW hj=>.inl ⟨hW,by rw [eH];exact hj,by rw [eH]⟩,fun u j hW hj hg hu=>?_,fun u j hW hj hm0 hm1=>?_⟩
  .rcases h with ⟨i,y,hy,h⟩ | ⟨i,y,hy,h⟩
   .by_cases hne:i=(w-1).toNat
    .subst hne;rw [hx] at hy;injection hy with hy;subst hy;rcases zF1 hWX G.B.blk h with h | h
     .right;left;exact ⟨_,_,here,h⟩
     .left;rw [eT];exact h
    .right;left;exact ⟨i,y,there i y hne hy,h⟩
   .right;right;exact ⟨i,y,by rw [eX];exact hy,h⟩
  .have hpos:=YF hj;have hrow:=zDv G.E hj;have htint:yB (zP s w).T u=1:=by
    rcases zvO G F hpos.1.2 hg with h | ⟨_,h⟩
    .exact h
    .exfalso;have hb:=((uw _ _).1 hg).2;have huu:=(wJ s.T.Black (za6 hg) u).2 (.inr rfl);rcases hT with ⟨_,_,e⟩ | ⟨_,_,_,_,e⟩ | ⟨_,_,c,e⟩
     .rw [eT,e] at h;have:=congrArg zx.Black h;exact zj (by rw [this];exact huu) hb
     .rw [eT,e] at h;have:=congrArg zx.Black h;exact zj (by rw [this];exact huu) hb
     .have hob:yB s.T x.Obj=1:=G.grey (zfU hx (by unfold ya;rw [XA (.inr c)];simp));rw [eT,e] at h;unfold wh at h;rw [zb hob] at h;have hbb:s.T.Black|||bit x.Obj=s.T.Black|||bit u:=congrArg zx.Black h;rw [<-hbb] at huu;rcases Xd huu with h2 | h2
      .exact hb h2
      .have hle:=hu.1 _ x hx (.inr (.inr c)) h2.symm;have:=(I.sw _ x hx).2.2 c;omega
   rcases sl2 u j hpos.2.1 (hu.1 _ x hx) with h | h | h
   .left;refine ⟨htint,fun i y hy=>?_,fun i y hy=>hu.2 i y (by rw [<-eX];exact hy)⟩;rcases back i y hy with ⟨_,rfl⟩ | ⟨_,hy⟩
    .exact h
    .exact hu.1 i y hy
   .exact .inr (.inl h)
   .exact .inr (.inr (.inr (.inl ⟨_,_,here,h⟩)))
  .have hpos:=YF hj;refine ⟨zt4 G F hpos.1.2 hm0 hm1,fun i y hy hpc ho=>?_,fun i y hy hpc ho=>?_⟩
   .rcases back i y hy with ⟨_,rfl⟩ | ⟨_,hy⟩
    .exfalso;rcases hT with ⟨_,_,e⟩ | ⟨_,_,c,_,e⟩ | ⟨_,_,c,e⟩
     .rw [eT,e] at hm1;exact hm0 hm1
     .have h3:(zB s w x).2.Obj=x.Obj:=by rw [zvI c];dsimp only;split<;>rfl
      exact hm0 (by rw [<-ho,h3];exact zyq G hx (.inr (.inl c)))
     .rw [eT,e,(zs9 _ _).1] at hm1;exact hm0 hm1
    .exact zj (ho▸zyq G hy hpc) hm0
   .rw [eX] at hy;exact zj (ho▸zyB G hy hpc) hm0
 refine ⟨fun o ho=>?_,fun i y hy=>?_,fun i y hy=>I.sx i y (by rw [<-eX];exact hy),fun i y hy hW=>?_⟩
 .have h0:o≠0:=by have:=ho.in;omega
  rcases I.lv o ho with h | h
  .exact .inl (mono o h)
  .exact P.prot h h0
 .rcases back i y hy with ⟨_,rfl⟩ | ⟨_,hy⟩
  .exact sl1
  .exact I.sw i y hy
 .rw [eX] at hy;obtain ⟨a,b⟩:=I.cv i y hy hW;rw [eH];exact ⟨a,fun e=>(b e).imp id (fun h=>h.imp (mono _) id)⟩
theorem PI.same {p:zd}{s s':za}{W:Int->Int->Prop}(I:PI p s W) (eH:s'.H=s.H) (eT:s'.T=s.T) (eW:s'.Ws=s.Ws) (eX:s'.Ms=s.Ms):PI p s' W:=by
 have us:∀u j,US s u j->US s' u j:=fun u j h=>⟨fun i x hx=>h.1 i x (by rw [<-eW];exact hx),fun i x hx=>h.2 i x (by rw [<-eX];exact hx)⟩
 have pd:∀o,zoM s o->zoM s' o:=fun o h=>by
  rcases h with ⟨i,x,hx,h⟩ | ⟨i,x,hx,h⟩
  .exact .inl ⟨i,x,by rw [eW];exact hx,h⟩
  .exact .inr ⟨i,x,by rw [eX];exact hx,h⟩
 have P:zvT s s' W W:=⟨fun o h=>by rw [eT];exact h,fun o h=>.inr (pd o h),fun u j hW hj=>.inl ⟨hW,by rw [eH];exact hj,by rw [eH]⟩,fun u j _ _ hg hu=>.inl ⟨by rw [eT];exact hg,us u j hu⟩,fun u j _ _ h1 h2=>by rw [eT] at h2;exact zj h2 h1⟩
 refine ⟨fun o ho=>?_,fun i x hx=>I.sw i x (by rw [<-eW];exact hx),fun i x hx=>I.sx i x (by rw [<-eX];exact hx),fun i x hx hW=>?_⟩
 .have h0:o≠0:=by have:=ho.in;omega
  rcases I.lv o ho with h | h
  .exact .inl (by rw [eT];exact h)
  .exact P.prot h h0
 .obtain ⟨a,b⟩:=I.cv i x (by rw [<-eX];exact hx) hW;rw [eH,eT];exact ⟨a,b⟩
theorem PI.det {p:zd}{s:za}{W:Int->Int->Prop}(I:PI p s W):PI p (zV s) W:=by
 have hd:=zaY s;exact I.same (by conv=>rhs;rw [<-hd]) (by conv=>rhs;rw [<-hd]) (by conv=>rhs;rw [<-hd]) (by conv=>rhs;rw [<-hd])
theorem zBq {p:zd}(hp:zJ p) {nb k:Nat}{s:za}{gh:Gh}{W:Int->Int->Prop}(hk:k<2147480000) (I:EG p nb k s gh) (J:PI p s W) (j:Int):∃gh' W',EG p nb (k+1) (vG s j) gh'/\PI p (vG s j) W'/\zbk s (vG s j):=by
 obtain ⟨gh',I',F⟩:=I.next hp hk j;have fin:(∃W',PI p (vG s j) W')->∃gh' W',EG p nb (k+1) (vG s j) gh'/\PI p (vG s j) W'/\zbk s (vG s j):=fun ⟨W',h⟩=>⟨gh',W',I',h,F⟩
 refine fin ?_;cases hd:s.Done with
 | true=>rw [ziN hd];exact ⟨W,J⟩
 | false =>
  have hwl:=I.G.E.wl;have hml:=I.G.E.ml;unfold vG;split
  .exact ⟨W,J.det⟩
  split
  .by_cases h1:1<=j
   .exact ⟨W,PI.worker hp (by omega) I.G J (by omega) hd⟩
   .have:zP s j=s:=by unfold zP;rw [zb (.inr (.inl (by omega)))]
    rw [this];exact ⟨W,J⟩
  .by_cases h1:1<=j-(s.Ws.length:Int)/\j-(s.Ws.length:Int)<=(s.Ms.length:Int)
   .exact PI.mutator hp (by omega) I.G J (by omega) hd
   .have:zG s (j-(s.Ws.length:Int))=s:=by unfold zG;rw [yg]
    rw [this];exact ⟨W,J⟩
theorem PI.quiet {p:zd}{s:za}{W:Int->Int->Prop}(J:PI p s W) (hg:∀o,yB s.T o≠1) (hpd:∀o,zoM s o->zR s.T.Marks o=true) {o:Int}(ho:Reach p.H (uB p) o):zR s.T.Marks o=true:=by
 have key:∀q,zov s W q->zR s.T.Marks q=true:=fun q h=>by
  induction h with
  | pend o h=>exact hpd o h
  | white u j o _ _ _ hu _ ih=>exact zj ih hu
  | grey u j o _ _ _ h _=>exact zj h (hg u)
 rcases J.lv o ho with h | h
 .exact h
 .exact key o h
theorem zFi (a b:List Int) (h:a.length<1000000):VT a b=some (decide (a=b),()):=by
 rw [zkb,yq];by_cases hl:a.length=b.length;rotate_left
 .rw [zk,zN (fun e=>hl (by rw [e]))]
 rw [yg];obtain ⟨o,e,ho⟩:=wN (f:=X6) (fun c=>∃i:Nat,i<=a.length/\c=(a,b,(a.length:Int),(i:Int),())/\(a=b↔a.drop i=b.drop i)) (fun c=>a.length-c.2.2.2.1.toNat) (fun o=>(o= .brk ()/\a=b)\/(o= .ret (false,())/\a≠b)) (by
  rintro _ ⟨i,hi,rfl,h⟩;rw [zgW,zp];by_cases c1:(i:Int)<(a.length:Int)
  .have hx:=zKv (show i<a.length by omega);have hy:=zKv (show i<b.length by omega);have dx:=zK4 (show i<a.length by omega);have dy:=zK4 (show i<b.length by omega);generalize a[i]'(by omega)=x at hx dx;generalize b[i]'(by omega)=y at hy dy;rw [dx,dy,List.cons.injEq] at h;rw [zb c1,yY hx,zKt,yY hy,zKt,yq];by_cases c2:x=y
   .rw [zb c2,yM];refine ⟨_,rfl,⟨i+1,by omega,rfl,h.trans ⟨fun e=>e.2,fun e=>⟨c2,e⟩⟩⟩,?_⟩;show a.length-((i+1:Nat):Int).toNat<a.length-(i:Int).toNat;omega
   .rw [zc c2];exact ⟨_,rfl,.inr ⟨rfl,fun e=>c2 (h.1 e).1⟩⟩
  .rw [zc c1];have:i=a.length:=by omega
   refine ⟨_,rfl,.inl ⟨rfl,h.2 ?_⟩⟩;rw [zMe (by omega),zMe (by omega)]) (a,b,(a.length:Int),0,()) ⟨0,by omega,rfl,Iff.rfl⟩ (by show a.length-0<18446744073709551616;omega)
 rw [e];rcases ho with ⟨rfl,h⟩ | ⟨rfl,h⟩
 .rw [zr h];rfl
 .rw [zN h];rfl
theorem zGR (a b:List (List Int)) (h:a.length<1000000) (ha:∀x∈a,x.length<1000000):xC a b=some (decide (a=b),()):=by
 rw [ZA,yq];by_cases hl:a.length=b.length;rotate_left
 .rw [zk,zN (fun e=>hl (by rw [e]))]
 rw [yg];obtain ⟨o,e,ho⟩:=wN (f:=xl) (fun c=>∃i:Nat,i<=a.length/\c=(b,a,(a.length:Int),(i:Int),())/\(a=b↔a.drop i=b.drop i)) (fun c=>a.length-c.2.2.2.1.toNat) (fun o=>(o= .brk ()/\a=b)\/(o= .ret (false,())/\a≠b)) (by
  rintro _ ⟨i,hi,rfl,h⟩;rw [Zj,zp];by_cases c1:(i:Int)<(a.length:Int)
  .have hx:=zKv (show i<a.length by omega);have hy:=zKv (show i<b.length by omega);have dx:=zK4 (show i<a.length by omega);have dy:=zK4 (show i<b.length by omega);have hm:=ha _ (zKR (show i<a.length by omega));generalize a[i]'(by omega)=x at hx dx hm;generalize b[i]'(by omega)=y at hy dy;rw [dx,dy,List.cons.injEq] at h;rw [zb c1,yY hx,zKt,yY hy,zKt,zFi x y hm,zKt];dsimp only;rw [yq];by_cases c2:x=y
   .rw [zb c2,yM];refine ⟨_,rfl,⟨i+1,by omega,rfl,h.trans ⟨fun e=>e.2,fun e=>⟨c2,e⟩⟩⟩,?_⟩;show a.length-((i+1:Nat):Int).toNat<a.length-(i:Int).toNat;omega
   .rw [zc c2];exact ⟨_,rfl,.inr ⟨rfl,fun e=>c2 (h.1 e).1⟩⟩
  .rw [zc c1];have:i=a.length:=by omega
   refine ⟨_,rfl,.inl ⟨rfl,h.2 ?_⟩⟩;rw [zMe (by omega),zMe (by omega)]) (b,a,(a.length:Int),0,()) ⟨0,by omega,rfl,Iff.rfl⟩ (by show a.length-0<18446744073709551616;omega)
 rw [e];rcases ho with ⟨rfl,h⟩ | ⟨rfl,h⟩
 .rw [zr h];rfl
 .rw [zN h];rfl
theorem zy5 (a b:zt) (h:a.Objs.length<1000000) (ha:∀x∈a.Objs,x.length<1000000):ziB a b=some (decide (a.Slots=b.Slots)&&decide (a.Objs=b.Objs),()):=by
 rw [zx8,zGR _ _ h ha,zKt];cases decide (a.Slots=b.Slots)<;>rfl
def V6 (k:Int):List Int->List Int->Int×Int->Int×Int
 | x::l,y::m,r=>V6 k l m (if x=y then r else (k+1,r.2+1))
 | _,_,r=>r
def zqE:Int->List (List Int)->List (List Int)->Int×Int->Int×Int
 | k,x::l,y::m,r=>zqE (k+1) l m (V6 k x y r)
 | _,_,_,r=>r
theorem zpV (k:Int):∀(l m:List Int) (r:Int×Int),r.2<=(V6 k l m r).2/\(V6 k l m r).2<=r.2+(l.length:Int)
 | x::l,y::m,r=>by
  rw [V6,zKM];by_cases h:x=y
  .rw [zb h];have:=zpV k l m r;omega
  .rw [zc h];have h1:r.2+1<=(V6 k l m (k+1,r.2+1)).2:=(zpV k l m (k+1,r.2+1)).1;have h2:(V6 k l m (k+1,r.2+1)).2<=r.2+1+(l.length:Int):=(zpV k l m (k+1,r.2+1)).2;omega
 | [],_,r=>by unfold V6;simp
 | x::l,[],r=>by
  have h:V6 k (x::l) [] r=r:=rfl;rw [h,zKM];omega
theorem zC8 {o n k:Int}{A:List (List Int)}{N:Int}{x y:List Int}{b:zt}(hk:0<=k/\k<1000000) (hn:0<=n/\n<1000000000) (hy:idx b.Objs k=some y) (hl:x.length=y.length) (hx:x.length<1000) :
  yf zad (o,n,k,A,N,k,x,(x.length:Int),0,b,())=some (.brk ((V6 k x y (o,n)).1,(V6 k x y (o,n)).2,A,N,k,b,())):=by
 obtain ⟨q,e,ho⟩:=wN (f:=zad) (fun a=>∃(i:Nat) (r:Int×Int),i<=x.length/\a=(r.1,r.2,k,A,N,k,x,(x.length:Int),(i:Int),b,())/\V6 k x y (o,n)=V6 k (x.drop i) (y.drop i) r/\0<=r.2/\r.2<=n+(i:Int)) (fun a=>x.length-a.2.2.2.2.2.2.2.2.1.toNat) (fun s=>s= .brk ((V6 k x y (o,n)).1,(V6 k x y (o,n)).2,A,N,k,b,())) (by
  rintro _ ⟨i,r,hi,rfl,h,r1,r2⟩;rw [zqL,zp];by_cases c1:(i:Int)<(x.length:Int)
  .have h1:=zKv (show i<x.length by omega);have h2:=zKv (show i<y.length by omega);have d1:=zK4 (show i<x.length by omega);have d2:=zK4 (show i<y.length by omega);generalize x[i]'(by omega)=u at h1 d1;generalize y[i]'(by omega)=v at h2 d2;rw [d1,d2] at h;rw [zb c1,yY h1,zKt,hy,zKt,yY h2,zKt,yq,yM,yb (a:=k+1) (by omega) (by omega),yb (a:=r.2+1) (by omega) (by omega)];by_cases c2:u=v
   .rw [zb c2];refine ⟨_,rfl,⟨i+1,r,by omega,rfl,?_,r1,by omega⟩,?_⟩
    .rw [h];show V6 k (u::x.drop (i+1)) (v::y.drop (i+1)) r=_;rw [V6,zb c2]
    .show x.length-((i+1:Nat):Int).toNat<x.length-(i:Int).toNat;omega
   .rw [zc c2];refine ⟨_,rfl,⟨i+1,(k+1,r.2+1),by omega,rfl,?_,by dsimp only;omega,by dsimp only;omega⟩,?_⟩
    .rw [h];show V6 k (u::x.drop (i+1)) (v::y.drop (i+1)) r=_;rw [V6,zc c2]
    .show x.length-((i+1:Nat):Int).toNat<x.length-(i:Int).toNat;omega
  .rw [zc c1];refine ⟨_,rfl,?_⟩;rw [h,zMe (by omega)];rfl) (o,n,k,A,N,k,x,(x.length:Int),0,b,()) ⟨0,(o,n),by omega,rfl,rfl,hn.1,by omega⟩ (by show x.length-0<18446744073709551616;omega)
 rw [e,ho]
def Vw (a b:zt):Int:=if a.Slots=b.Slots/\a.Objs.length=b.Objs.length then (if (zqE 0 a.Objs b.Objs (0,0)).2=1 then (zqE 0 a.Objs b.Objs (0,0)).1 else 0) else 0
theorem zDi {a b:zt}(ha:a.Objs.length<=64) (h1:∀x∈a.Objs,(x.length:Int)=a.Slots) (h2:∀x∈b.Objs,(x.length:Int)=b.Slots) (hs:a.Slots<=4):V8 a b=some (Vw a b,()):=by
 rw [zuZ,yq];unfold Vw;by_cases c1:a.Slots=b.Slots;rotate_left
 .rw [zc c1,zc (fun e=>c1 e.1)]
 rw [zb c1,yq];by_cases c2:a.Objs.length=b.Objs.length;rotate_left
 .rw [zk,zc (fun e=>c2 e.2)]
 rw [yg,zb ⟨c1,c2⟩];obtain ⟨q,e,ho⟩:=wN (f:=zeX) (fun c=>∃(i:Nat) (r:Int×Int),i<=a.Objs.length/\c=(r.1,r.2,a.Objs,(a.Objs.length:Int),(i:Int),b,())/\zqE 0 a.Objs b.Objs (0,0)=zqE (i:Int) (a.Objs.drop i) (b.Objs.drop i) r/\0<=r.2/\r.2<=4*(i:Int)) (fun c=>a.Objs.length-c.2.2.2.2.1.toNat) (fun s=>s= .brk ((zqE 0 a.Objs b.Objs (0,0)).1,(zqE 0 a.Objs b.Objs (0,0)).2,())) (by
  rintro _ ⟨i,r,hi,rfl,h,r1,r2⟩;rw [zry,zp];by_cases c:(i:Int)<(a.Objs.length:Int)
  .have g1:=zKv (show i<a.Objs.length by omega);have g2:=zKv (show i<b.Objs.length by omega);have d1:=zK4 (show i<a.Objs.length by omega);have d2:=zK4 (show i<b.Objs.length by omega);have l1:=h1 _ (zKR (show i<a.Objs.length by omega));have l2:=h2 _ (zKR (show i<b.Objs.length by omega));generalize a.Objs[i]'(by omega)=x at g1 d1 l1;generalize b.Objs[i]'(by omega)=y at g2 d2 l2;rw [d1,d2] at h;have hlow:=zpV (i:Int) x y r;rw [zb c,yY g1,zKt,yY g2,zKt,yq,yg,zC8 (by omega) (by omega) (yY g2) (by omega) (by omega),zKt];dsimp only;rw [yM];refine ⟨_,rfl,⟨i+1,V6 (i:Int) x y (r.1,r.2),by omega,rfl,?_,?_,?_⟩,?_⟩
   .rw [h,show ((i+1:Nat):Int)=(i:Int)+1 by omega];rfl
   .show 0<=(V6 (i:Int) x y r).2;omega
   .show (V6 (i:Int) x y r).2<=4*((i+1:Nat):Int);omega
   .show a.Objs.length-((i+1:Nat):Int).toNat<a.Objs.length-(i:Int).toNat;omega
  .rw [zc c];refine ⟨_,rfl,?_⟩;rw [h,zMe (by omega)];rfl) (0,0,a.Objs,(a.Objs.length:Int),0,b,()) ⟨0,(0,0),by omega,rfl,rfl,by decide,by decide⟩ (by show a.Objs.length-0<18446744073709551616;omega)
 rw [e,ho,zKt];dsimp only;rw [yq];split<;>rfl
def zew (a b:za):Int×Int :=
 if a.H.Slots=b.H.Slots/\a.H.Objs=b.H.Objs then (if (Xj a.T b.T).1<0\/2<(Xj a.T b.T).1 then (-1,0) else Xj a.T b.T)
 else if (a.H.Objs.length<64/\(Xj a.T b.T).1=3/\(Xj a.T b.T).2=(a.H.Objs.length:Int)+1)/\(yU a.H).Slots=b.H.Slots/\(yU a.H).Objs=b.H.Objs then (3,(Xj a.T b.T).2)
 else if (Xj a.T b.T).1=0/\0<Vw a.H b.H then (4,Vw a.H b.H) else (-1,0)
theorem zmF {p:zd}(hp:zJ p) {a b:za}(ha:HOk p a.H) (hb:HOk p b.H):za9 a b=some ((zew a b).1,(zew a b).2,()):=by
 have hs:=hp.slots;have hn:=hp.n;have hmo:=hp.most;have a1:=ha.n;have b1:=hb.n;have sa:=ha.slots;have sm:∀x∈a.H.Objs,x.length<1000000:=fun x hx=>by have:=(ha.objs x hx).1;omega
 have hne:a.H.Objs≠[]:=fun e=>by
  have h:=congrArg List.length e;have h:a.H.Objs.length=0:=h;omega
 have hroom:Yp a.H 64=true:=by unfold Yp;simp;omega
 have sm2:∀x∈(yU a.H).Objs,x.length<1000000:=fun x hx=>by
  rcases zKS.1 (show x∈a.H.Objs++[zMr a.H.Slots.toNat 0] from hx) with hx | hx
  .exact sm x hx
  .rw [zLf.1 hx,zLa];omega
 have hw:=zDi (a:=a.H) (b:=b.H) (by omega) (fun x hx=>(ha.objs x hx).1) (fun x hx=>(hb.objs x hx).1) (by omega);rw [zAf,zCo,zKt,zy5 _ _ (by omega) sm,zKt,zwZ ⟨by omega,by omega⟩ (by omega) ha.objs hne,zb hroom];dsimp only;unfold zew;generalize hk:(Xj a.T b.T).1=k;generalize ho:(Xj a.T b.T).2=o;have hko:Xj a.T b.T=(k,o):=by rw [<-hk,<-ho]
 by_cases c1:a.H.Slots=b.H.Slots/\a.H.Objs=b.H.Objs
 .rw [zr c1.1,zr c1.2,Bool.and_self,zu,zb c1,zp];by_cases k1:k<0
  .rw [zb k1,zb (.inl k1)]
  rw [zc k1,zp];by_cases k2:2<k
  .rw [zb k2,zb (.inr k2)]
  .rw [zc k2,zk,hko]
 .have e1:(decide (a.H.Slots=b.H.Slots)&&decide (a.H.Objs=b.H.Objs))=false:=by
   rw [Bool.eq_false_iff];intro e;simp only [zKu,decide_eq_true_eq] at e;exact c1 e
  rw [e1,zM,zc c1,zKt];dsimp only;rw [zr rfl,zu,zy5 _ _ (by rw [zaZ];omega) sm2,zKt,hw,zKt];dsimp only;have fin:(bif decide (k=0) then (bif decide (0<Vw a.H b.H) then some (4,Vw a.H b.H,()) else some (-1,0,())) else some (-1,0,()):Option (Int×Int×Unit))=some ((if k=0/\0<Vw a.H b.H then ((4:Int),Vw a.H b.H) else (-1,0)).1,(if k=0/\0<Vw a.H b.H then ((4:Int),Vw a.H b.H) else (-1,0)).2,()):=by
   rw [zp,zp];by_cases k0:k=0
   .by_cases w0:0<Vw a.H b.H
    .rw [zb k0,zb w0,zb ⟨k0,w0⟩]
    .rw [zb k0,zc w0,zc (fun e=>w0 e.2)]
   .rw [zc k0,zc (fun e=>k0 e.1)]
  rw [fin,zp,zp];by_cases k3:k=3
  .rw [zb k3];by_cases o3:o=(a.H.Objs.length:Int)+1
   .rw [zb o3];by_cases c2:(yU a.H).Slots=b.H.Slots/\(yU a.H).Objs=b.H.Objs
    .rw [zr c2.1,zr c2.2,Bool.and_self,zu,zb ⟨⟨by omega,k3,o3⟩,c2⟩]
    .have e2:(decide ((yU a.H).Slots=b.H.Slots)&&decide ((yU a.H).Objs=b.H.Objs))=false:=by
      rw [Bool.eq_false_iff];intro e;simp only [zKu,decide_eq_true_eq] at e;exact c2 e
     have n3: ¬((a.H.Objs.length<64/\k=3/\o=(a.H.Objs.length:Int)+1)/\(yU a.H).Slots=b.H.Slots/\(yU a.H).Objs=b.H.Objs):=fun e=>c2 e.2;rw [e2,zM,zc n3]
   .have n3: ¬((a.H.Objs.length<64/\k=3/\o=(a.H.Objs.length:Int)+1)/\(yU a.H).Slots=b.H.Slots/\(yU a.H).Objs=b.H.Objs):=fun e=>o3 e.1.2.2;rw [zc o3,zc n3]
  .have n3: ¬((a.H.Objs.length<64/\k=3/\o=(a.H.Objs.length:Int)+1)/\(yU a.H).Slots=b.H.Slots/\(yU a.H).Objs=b.H.Objs):=fun e=>k3 e.1.2.1;rw [zc k3,zc n3]
theorem zHe (s:za) (w:Int) (x:zi):(zB s w x).1.L=if x.PC=8 then zda s.L 0 else s.L:=by
 by_cases h8:x.PC=8
 .rw [zb h8];unfold zB;rw [zk,zk,zk,zk,zk,zk,zk,zb h8]
 .rw [zc h8];unfold zB;split
  .rfl
  split
  .rfl
  split
  .rfl
  split
  .rfl
  split
  .rfl
  split
  .obtain ⟨m,b,t,wk,f,e,_⟩:=za7 s x.G;dsimp only;rw [e]
  split
  .rfl
  split<;>rfl
theorem zIq (s:za) (m:Int) (x:ze) :
  (x.PC=38/\(zn s m x).1.L=zda s.L m) \/
  (x.PC≠38/\(zn s m x).1.H.Objs.length=s.H.Objs.length/\((zn s m x).1.L=s.L\/∃w,(zn s m x).1.L=(zce s.L m w).1)) \/
  (x.PC=30/\(zn s m x).1.H=yU s.H/\(zn s m x).1.L=zcv s.L m s.P.Price/\zeN s.L m s.P.Price s.P.Limit=true/\Yp s.H s.P.Most=true):=by
 by_cases c38:x.PC=38
 .refine .inl ⟨c38,?_⟩;unfold zn;rw [zk,zk,zk,zk,zk,zk,zk,zk,zk,zk,zk,zk,zk,zk,zk,zk,zk,zb c38];rfl
 refine .inr ?_;refine yN (motive:=fun r=>(x.PC≠38/\r.1.H.Objs.length=s.H.Objs.length/\(r.1.L=s.L\/∃w,r.1.L=(zce s.L m w).1))\/(x.PC=30/\r.1.H=yU s.H/\r.1.L=zcv s.L m s.P.Price/\zeN s.L m s.P.Price s.P.Limit=true/\Yp s.H s.P.Most=true)) s m x ?_ ?_ ?_ ?_ ?_ ?_ ?_ ?_ ?_ ?_ ?_ ?_ ?_ ?_ ?_ ?_ ?_ ?_ ?_ ?_
 .exact fun _=>.inl ⟨c38,rfl,.inl rfl⟩
 .exact fun _=>.inl ⟨c38,rfl,.inl rfl⟩
 .exact fun _=>.inl ⟨c38,rfl,.inl rfl⟩
 .intro _;unfold mu3;exact .inl ⟨c38,by rw [Zq],.inl (by rw [Zq])⟩
 .exact fun _=>.inl ⟨c38,rfl,.inl rfl⟩
 .exact fun _=>.inl ⟨c38,rfl,.inl rfl⟩
 .exact fun _=>.inl ⟨c38,rfl,.inl rfl⟩
 .exact fun _=>.inl ⟨c38,rfl,.inl rfl⟩
 .exact fun _=>.inl ⟨c38,zaz _ _ _ _,.inl rfl⟩
 .intro c;unfold Y6;split
  .split
   .rename_i h1 h2;exact .inr ⟨c,rfl,rfl,h1,h2⟩
   .exact .inl ⟨c38,rfl,.inl rfl⟩
  .exact .inl ⟨c38,rfl,.inl rfl⟩
 .exact fun _=>.inl ⟨c38,rfl,.inr ⟨_,rfl⟩⟩
 .exact fun _=>.inl ⟨c38,rfl,.inl rfl⟩
 .exact fun _=>.inl ⟨c38,rfl,.inl rfl⟩
 .exact fun _=>.inl ⟨c38,rfl,.inl rfl⟩
 .exact fun _=>.inl ⟨c38,rfl,.inl rfl⟩
 .exact fun _=>.inl ⟨c38,rfl,.inl rfl⟩
 .intro _;unfold WP;exact .inl ⟨c38,by rw [Zq],.inl (by rw [Zq])⟩
 .exact fun c=>zj c c38
 .exact fun _=>.inl ⟨c38,rfl,.inl rfl⟩
 .exact .inl ⟨c38,rfl,.inl rfl⟩
structure LdG (p:zd) (c d:Int) (l:zy):Prop where
 len:(l.Bal.length:Int)=p.Mutators
 sc:l.Scanned=c
 sp:l.Spent=p.Price*d
 pool:0<=l.Pool
 bal:∀b∈l.Bal,-p.Limit<=b
 sum:l.Pool+l.Bal.sum=c-p.Price*d
theorem zDJ {a:Int}(ha:0<=a):∀ {l:List Int},(∀b∈l,-a<=b)-> -(a*(l.length:Int))<=l.sum/\∀b∈l,b<=l.sum+a*(l.length:Int)
 | [],_=>⟨by simp,fun b hb=>by cases hb⟩
 | x::l,h=>by
  obtain ⟨i1,i2⟩:=zDJ ha (l:=l) (fun b hb=>h b (zKA _ hb));have hx:=h x (zKJ ..);have e:a*((x::l).length:Int)=a*(l.length:Int)+a:=by rw [zKM,Int.natCast_add,Int.mul_add];simp
  rw [zLp,e];refine ⟨by omega,fun b hb=>?_⟩;rcases zKN.1 hb with rfl | hb
  .omega
  .have:=i2 b hb;omega
theorem LdG.low {p:zd}(hp:zJ p) {c d:Int}(hc:0<=c/\c<=9) (hd:0<=d/\d<=9) {l:zy}(I:LdG p c d l):(0<=p.Price*d/\p.Price*d<=30)/\l.Pool<=20/\∀b∈l.Bal,-3<=b/\b<=20:=by
 have hl:=hp.limit;have hm:=hp.mt;have hpr:=zHz hp.price (d:=d) (by omega);obtain ⟨s1,s2⟩:=zDJ hl.1 I.bal;have hlen:=I.len;rw [hlen] at s1 s2;have hb:0<=p.Limit*p.Mutators/\p.Limit*p.Mutators<=6:=by
  refine ⟨Int.mul_nonneg hl.1 hm.1,?_⟩;have:=Int.mul_le_mul hl.2 hm.2 hm.1 (by decide:(0:Int)<=3);omega
 have hs:=I.sum;have hpo:=I.pool;refine ⟨hpr,by omega,fun b hb'=>?_⟩;have:=s2 b hb';have:=I.bal b hb';omega
theorem zys {l:List Int}{i:Nat}(h:i<l.length):l.getD i 0∈l:=by
 rw [zKw,zKv h];exact zKR h
theorem LdG.earn {p:zd}(hp:zJ p) {c d:Int}(hc:0<=c/\c<=9) (hd:0<=d/\d<=9) {l:zy}(I:LdG p c d l) (w:Int):LdG p (c+1) d (zda l w):=by
 obtain ⟨h1,h2,h3⟩:=I.low hp hc hd;have hs:=I.sc;have hsum:=I.sum;unfold zda;rw [xq (a:=l.Scanned+1) (by omega) (by omega)];split
 .rename_i hw;have hm:=zys (l:=l.Bal) (i:=(w-1).toNat) (by omega);have hb:=h3 _ hm;have hb':=I.bal _ hm;rw [xq];refine ⟨by dsimp only;rw [zKV];exact I.len,by dsimp only;omega,I.sp,I.pool,fun b h=>?_,?_⟩
  .rcases zLj h with h | rfl
   .exact I.bal b h
   .omega
  .dsimp only;rw [zpQ _ _ _ (by omega)];omega
 .have hpo:=I.pool;rw [xq];exact ⟨I.len,by dsimp only;omega,I.sp,by dsimp only;omega,I.bal,by dsimp only;omega⟩
theorem LdG.take {p:zd}(hp:zJ p) {c d:Int}(hc:0<=c/\c<=9) (hd:0<=d/\d<=9) {l:zy}(I:LdG p c d l) (m w:Int):LdG p c d (zce l m w).1:=by
 obtain ⟨h1,h2,h3⟩:=I.low hp hc hd;have hsum:=I.sum;have hpo:=I.pool;unfold zce;split
 .rename_i hw;obtain ⟨ht,h0⟩:=hw;unfold zar at ht;simp only [zKu,decide_eq_true_eq] at ht;have hmn:zki w l.Pool<=l.Pool:=by unfold zki;split<;>omega
  have hm:=zys (l:=l.Bal) (i:=(m-1).toNat) (by omega);have hb:=h3 _ hm;have hb':=I.bal _ hm;unfold zcp;generalize zki w l.Pool=n at h0 hmn;rw [xq (a:=l.Pool-n) (by omega) (by omega),xq];refine ⟨by dsimp only;rw [zKV];exact I.len,I.sc,I.sp,by dsimp only;omega,fun b h=>?_,?_⟩
  .rcases zLj h with h | rfl
   .exact I.bal b h
   .omega
  .dsimp only;rw [zpQ _ _ _ (by omega)];omega
 .exact I
theorem LdG.spend {p:zd}(hp:zJ p) {c d:Int}(hc:0<=c/\c<=9) (hd:0<=d/\d<=9) {l:zy}(I:LdG p c d l) {m:Int}(h:zeN l m p.Price p.Limit=true):LdG p c (d+1) (zcv l m p.Price):=by
 obtain ⟨h1,h2,h3⟩:=I.low hp hc hd;have hsum:=I.sum;have hpo:=I.pool;have hl:=hp.limit;have hpr:=hp.price;have e1:=I.sp;unfold zeN zbM zar at h;simp only [zKu,decide_eq_true_eq] at h;obtain ⟨⟨⟨⟨⟨⟨m1,m2⟩,_⟩,_⟩,_⟩,_⟩,h⟩:=h;have hm:=zys (l:=l.Bal) (i:=(m-1).toNat) (by omega);have hb:=h3 _ hm;unfold zcp at h;rw [xq,xq] at h;unfold zcv zcp;rw [xq,xq];refine ⟨by dsimp only;rw [zKV];exact I.len,I.sc,by dsimp only;rw [zy3 hpr];omega,I.pool,fun b hb'=>?_,?_⟩
 .rcases zLj hb' with h2 | rfl
  .exact I.bal b h2
  .omega
 .dsimp only;rw [zpQ _ _ _ (by omega),zy3 hpr];omega
def XI (p:zd) (s:za):BitVec 64:=s.T.Black&&&xW (p.H.Objs.length:Int)
structure PD (p:zd) (s:za):Prop where
 L:LdG p (cnt (XI p s)) ((s.H.Objs.length:Int)-(p.H.Objs.length:Int)) s.L
theorem zEA {p:zd}(hp:zJ p) (s:za):∀o,zR (XI p s) o=true->o<=9:=fun o ho=>by
 have hn:=hp.n;have:=(Xp (n:=p.H.Objs.length) (by omega) o).1 ((ZC _ _ _).1 ho).2;omega
theorem zv0 (s:BitVec 64):0<=cnt s:=by
 unfold cnt;rw [zL5,zLz];have h1:(zMs 64 (zId s).toInt).toNat&&&(zMs 64 127).toNat<=(zMs 64 127).toNat:=Nat.and_le_right;have h2:(zMs 64 127).toNat=127:=by decide
 split<;>omega
theorem zBk {p:zd}(hp:zJ p) {nb k:Nat}{s:za}{gh:Gh}(G:FG p nb k s gh) {o:Int}(ho:yB s.T o=1) {t:zx}(ht:t=wh s.T o):cnt (t.Black&&&xW (p.H.Objs.length:Int))=cnt (XI p s)+1:=by
 have hn:=hp.n;have hg:=(uw _ _).1 ho;have hr:=za6 ho;have hle:=G.mrk o hg.1;have hold:o<=(p.H.Objs.length:Int):=Int.not_lt.1 fun h=>hg.2 (G.bk o h hle);have e:t.Black&&&xW (p.H.Objs.length:Int)=XI p s|||bit o:=by
  subst ht;unfold wh XI;rw [zb ho];refine zls (fun q=>?_);rw [ZC,xO,xO,ZC];constructor
  .rintro ⟨a | a,b⟩
   .exact .inl ⟨a,b⟩
   .exact .inr a
  .rintro (⟨a,b⟩ | a)
   .exact ⟨.inl a,b⟩
   .have:=zvk a;subst this;exact ⟨.inr a,(Xp (by omega) q).2 ⟨hr.1,hold⟩⟩
 rw [e];exact zFZ (zEA hp s) ⟨hr.1,by omega⟩ (fun h=>hg.2 ((ZC _ _ _).1 h).1)
theorem PD.same {p:zd}{s s':za}(I:PD p s) (eH:s'.H.Objs.length=s.H.Objs.length) (eB:s'.T.Black=s.T.Black) (eL:s'.L=s.L):PD p s':=by
 refine ⟨?_⟩;unfold XI;rw [eH,eB,eL];exact I.L
theorem PD.next {p:zd}(hp:zJ p) {nb k:Nat}{s:za}{gh:Gh}(hk:k<4294960000) (I:PD p s) (G:FG p nb k s gh) (j:Int):PD p (vG s j):=by
 have hN:=G.E.H.n;have hn:=hp.n;have hmo:=hp.most;have hc:0<=cnt (XI p s)/\cnt (XI p s)<=9:=⟨zv0 _,zwX (zEA hp s)⟩
 have hdd:0<=(s.H.Objs.length:Int)-(p.H.Objs.length:Int)/\(s.H.Objs.length:Int)-(p.H.Objs.length:Int)<=9:=by omega
 cases hd:s.Done with
 | true=>rw [ziN hd];exact I
 | false =>
  have hwl:=G.E.wl;have hml:=G.E.ml;unfold vG;split
  .have hf:=zaY s;exact I.same (by conv=>rhs;rw [<-hf]) (by conv=>rhs;rw [<-hf]) (by conv=>rhs;rw [<-hf])
  split
  .by_cases h1:1<=j;rotate_left
   .have:zP s j=s:=by unfold zP;rw [zb (.inr (.inl (by omega)))]
    rw [this];exact I
   obtain ⟨gh',G',_,x,hx,N,C,hb,hT⟩:=G.worker hp hk (show 1<=j/\j<=p.Workers by omega) hd;have e0: ¬(s.Done=true\/j<1\/(s.Ws.length:Int)<j):=by rw [hd];rintro (e | e | e)<;>first | cases e | omega
   have es:zP s j={(zB s j x).1 with Ws:=s.Ws.set (j-1).toNat (zB s j x).2}:=by unfold zP;rw [zc e0,hx]
   have eH:(zP s j).H=s.H:=by rw [Xa G.E j]
   have eT:(zP s j).T=(zB s j x).1.T:=by rw [es]
   have eL:(zP s j).L=if x.PC=8 then zda s.L 0 else s.L:=by rw [es];exact zHe s j x
   by_cases h8:x.PC=8
   .rw [zb h8] at eL;have hg:yB s.T x.Obj=1:=(G.B.gr _).1 (zfU hx (by unfold ya UB;rw [zk,zk,zb (.inr h8)];simp));have ht:(zB s j x).1.T=wh s.T x.Obj:=by
     unfold zB;rw [zk,zk,zk,zk,zk,zk,zk,zb h8]
    refine ⟨?_⟩;have ec:cnt (XI p (zP s j))=cnt (XI p s)+1:=by
     unfold XI at *;rw [eT];exact zBk hp G hg ht
    rw [ec,eH,eL];exact I.L.earn hp hc hdd 0
   .rw [zc h8] at eL;refine I.same (by rw [eH]) ?_ eL;rw [eT];rcases hT with ⟨_,_,t⟩ | ⟨_,_,_,_,t⟩ | ⟨_,_,h,_⟩
    .rw [t]
    .rw [t]
    .exact zj h h8
  .by_cases h1:1<=j-(s.Ws.length:Int)/\j-(s.Ws.length:Int)<=(s.Ms.length:Int);rotate_left
   .have:zG s (j-(s.Ws.length:Int))=s:=by unfold zG;rw [yg]
    rw [this];exact I
   generalize j-(s.Ws.length:Int)=m at h1 ⊢;obtain ⟨gh',G',_,x,hx,N,C,hb,hT⟩:=G.mutator hp hk (show 1<=m/\m<=p.Mutators by omega) hd;have e0: ¬(s.Done=true\/m<1\/(s.Ms.length:Int)<m):=by rw [hd];rintro (e | e | e)<;>first | cases e | omega
   have es:zG s m={(zn s m x).1 with Ms:=s.Ms.set (m-1).toNat (zn s m x).2}:=by unfold zG;rw [zc e0,hx]
   have eH:(zG s m).H=(zn s m x).1.H:=by rw [es]
   have eT:(zG s m).T=(zn s m x).1.T:=by rw [es]
   have eL:(zG s m).L=(zn s m x).1.L:=by rw [es]
   have hP:=G.E.S.P;rcases zIq s m x with ⟨c38,l38⟩ | ⟨c38,hl,hL⟩ | ⟨c30,hh,hL,hmay,hroom⟩
   .have hg:yB s.T x.Obj=1:=(G.B.gr _).1 (zd5 hx (zy9 (.inr (.inr c38))));have e38:zn s m x=zeR s m x:=by
     unfold zn;rw [zk,zk,zk,zk,zk,zk,zk,zk,zk,zk,zk,zk,zk,zk,zk,zk,zk,zb c38]
    have ht:(zn s m x).1.T=wh s.T x.Obj:=by rw [e38];rfl
    have hh:(zn s m x).1.H=s.H:=by rw [e38];rfl
    refine ⟨?_⟩;have ec:cnt (XI p (zG s m))=cnt (XI p s)+1:=by
     unfold XI at *;rw [eT];exact zBk hp G hg ht
    rw [ec,eH,hh,eL,l38];exact I.L.earn hp hc hdd m
   .have eB:(zn s m x).1.T.Black&&&xW (p.H.Objs.length:Int)=XI p s:=by
     unfold XI;rcases hT with ⟨_,_,t⟩ | ⟨_,_,_,_,t⟩ | ⟨_,_,h,_⟩ | ⟨_,_,_,_,t3,_⟩
     .rw [t]
     .rw [t]
     .exact zj h c38
     .rw [t3,zaZ] at hl;omega
    refine ⟨?_⟩;have ec:XI p (zG s m)=XI p s:=by
     rw [<-eB];unfold XI;rw [eT]
    rw [ec,eH,hl,eL];rcases hL with e | ⟨w,e⟩
    .rw [e];exact I.L
    .rw [e];exact I.L.take hp hc hdd m w
   .have hroom':(s.H.Objs.length:Int)<p.Most:=by
     unfold Yp at hroom;simp only [zKu,decide_eq_true_eq] at hroom;rw [hP] at hroom;exact hroom.1
    have nm: ¬zR s.T.Marks ((s.H.Objs.length:Int)+1)=true:=fun e=>by have:=G.mrk _ e;omega
    have nb': ¬zR s.T.Black ((s.H.Objs.length:Int)+1)=true:=fun e=>nm (G.B.blk _ e);have ec:XI p (zG s m)=XI p s:=by
     have ht:(zn s m x).1.T=s.T\/(zn s m x).1.T=XF s.T (wc (s.H.Objs.length+1))\/(zn s m x).1.T.Black=s.T.Black:=by
      rcases hT with ⟨_,_,t⟩ | ⟨_,_,_,_,t⟩ | ⟨_,_,h,_⟩ | ⟨_,_,_,_,_,t4⟩
      .exact .inl t
      .exact .inr (.inr (by rw [t]))
      .omega
      .exact .inr (.inl t4)
     unfold XI;rw [eT];rcases ht with t | t | t
     .rw [t]
     .rw [t,xq,zmK (by omega) nm nb'];refine zls (fun q=>?_);rw [ZC,ZC];dsimp only;constructor
      .rintro ⟨a,b⟩;rcases Xd a with a | a
       .exact ⟨a,b⟩
       .have:=(Xp (n:=p.H.Objs.length) (by omega) q).1 b;omega
      .rintro ⟨a,b⟩;exact ⟨(xO _ _ _).2 (.inl a),b⟩
     .rw [t]
    refine ⟨?_⟩;rw [hP] at hL hmay;rw [ec,eH,hh,eL,hL,zaZ];have:=I.L.spend hp hc hdd hmay;rw [show ((s.H.Objs.length+1:Nat):Int)-(p.H.Objs.length:Int)=(s.H.Objs.length:Int)-(p.H.Objs.length:Int)+1 by omega];exact this
theorem zF9 {p:zd}(h:zJ p):PD p (xk p):=by
 have hm:=h.mt;have hl:=h.limit;refine ⟨?_⟩;have ec:XI p (xk p)=0#64:=by show 0#64&&&_=_;simp
 rw [ec,zA1,show ((xk p).H.Objs.length:Int)-(p.H.Objs.length:Int)=0 from Int.sub_self _];have z:∀n:Nat,(zMr n (0:Int)).sum=0:=fun n=>by induction n with
  | zero=>rfl
  | succ n ih=>rw [List.replicate_succ,zLp,ih];rfl
 refine ⟨by show ((zMr p.Mutators.toNat (0:Int)).length:Int)=_;rw [zLa];omega,rfl,by show (0:Int)=_;rw [Int.mul_zero],by show (0:Int)<=0;decide,fun b hb=>?_,?_⟩
 .have:b∈zMr p.Mutators.toNat (0:Int):=hb;rw [zMj this];omega
 .show (0:Int)+(zMr p.Mutators.toNat (0:Int)).sum=_;rw [z,Int.mul_zero];rfl
theorem zcD (a b:BitVec 64):a&&& ~~~b=0#64↔∀o,zR a o=true->zR b o=true:=by
 constructor
 .intro h o ho;have hr:=(xw _ _).1 ho;refine Classical.byContradiction (fun hb=>?_);have:zR (a&&& ~~~b) o=true:=(ZC _ _ _).2 ⟨ho,(ze1 b ⟨hr.1,hr.2.1⟩).2 hb⟩;rw [h] at this;exact uI o this
 .intro h;refine zls (fun o=>⟨fun e=>?_,fun e=>zj e (uI o)⟩);obtain ⟨e1,e2⟩:=(ZC _ _ _).1 e;have hr:=(xw _ _).1 e1;exact zj (h o e1) ((ze1 b ⟨hr.1,hr.2.1⟩).1 e2)
theorem zFs {p:zd}(h:zJ p):PI p (xk p) (fun _ _=>False):=by
 have hms:∀(i:Nat) x,(xk p).Ms[i]? =some x->x.PC=0:=fun i x hx=>by
  obtain ⟨r,_,e⟩:=zKE.1 (show x∈p.Regs.map wp from zKy hx);rw [<-e];rfl
 have hws:∀(i:Nat) x,(xk p).Ws[i]? =some x->x.PC=0:=fun i x hx=>by
  obtain ⟨j,_,e⟩:=zKE.1 (show x∈(zMt p.Workers.toNat).map (ub p) from zKy hx);rw [<-e];rfl
 have us:∀u j,US (xk p) u j:=fun u j=>⟨fun i x hx e=>by have:=hws i x hx;omega,fun i x hx e=>by have:=hms i x hx;omega⟩
 refine ⟨fun o ho=>?_,fun i x hx=>?_,fun i x hx=>?_,fun i x hx _=>?_⟩
 .induction ho with
  | root o h1 h2=>exact .inl h1
  | step o v h1 h2 h3 ih =>
   right;have ho:=h1.in;obtain ⟨j,hj⟩:=zLA.1 h2;have hjl:=(zKC.1 hj).1;have hs:yP (xk p).H o (j:Int)=true:=by
    show yP p.H o (j:Int)=true;unfold yP;simp;omega
   have hg:zZ (xk p).H o (j:Int)=v:=by
    show zZ p.H o (j:Int)=v;unfold zZ;rw [zb (show yP p.H o (j:Int)=true from hs),zKw,zLd,hj];rfl
   rcases ih with ih | ih
   .exact .grey o j v (fun e=>e) hs hg ((uw _ _).2 ⟨ih,uI o⟩) (us _ _)
   .by_cases hm:zR (xk p).T.Marks o=true
    .exact .grey o j v (fun e=>e) hs hg ((uw _ _).2 ⟨hm,uI o⟩) (us _ _)
    .exact .white o j v (fun e=>e) hs hg hm ih
 .have:=hws i x hx;exact ⟨fun e=>by omega,fun e=>by omega,fun e=>by omega⟩
 .have:=hms i x hx;exact ⟨fun e=>by omega,fun e=>by omega,fun e=>by omega⟩
 .have:=hms i x hx;exact ⟨fun e=>by omega,fun e=>by omega⟩
theorem zzA {o:Int}(h:1<=o/\o<=64):zR (bit o) o=true:=by
 have:=(wJ 0#64 h o).2 (.inr rfl);simpa using this
theorem zuJ {o:Int}(ho:1<=o/\o<=64):∀(l:List zI) (a:BitVec 64),(zR a o=true\/∃g∈l,zuR g o)->zR (l.foldl (fun a g=>a|||bit (atS g 0 1 g.Obj)) a) o=true
 | [],a,h=>by
  rcases h with h | ⟨x,h,_⟩
  .exact h
  .cases h
 | y::l,a,h=>by
  refine zuJ ho l _ ?_;rcases h with h | ⟨x,hx,h⟩
  .exact .inl ((xO _ _ _).2 (.inl h))
  .rcases zKN.1 hx with rfl | hx
   .refine .inl ((xO _ _ _).2 (.inr ?_));have:atS x 0 1 x.Obj=o:=by unfold atS;rw [zb h.1,zb (by have:=h.2.1;omega),zb (by have:=h.2.1;omega),h.2.2]
    rw [this];exact zzA ho
   .exact .inr ⟨x,hx,h⟩
theorem zBs {o:Int}{a:BitVec 64}(x:ze) (h:zR a o=true):zR (zaI a x) o=true:=by
 unfold zaI;split
 .exact (xO _ _ _).2 (.inl ((xO _ _ _).2 (.inl h)))
 .exact (xO _ _ _).2 (.inl h)
theorem zjq {o:Int}:∀(l:List ze) (a:BitVec 64),(zR a o=true\/∃x∈l,∀b,zR (zaI b x) o=true)->zR (l.foldl zaI a) o=true
 | [],a,h=>by
  rcases h with h | ⟨x,h,_⟩
  .exact h
  .cases h
 | y::l,a,h=>by
  refine zjq l _ ?_;rcases h with h | ⟨x,hx,h⟩
  .exact .inl (zBs y h)
  .rcases zKN.1 hx with rfl | hx
   .exact .inl (h a)
   .exact .inr ⟨x,hx,h⟩
theorem zIG {p:zd}{nb k:Nat}{s:za}{gh:Gh}(G:FG p nb k s gh) (hN:(s.H.Objs.length:Int)<=9) {o:Int}(h:zoM s o):(1<=o/\o<=(s.H.Objs.length:Int))/\zR (zqe s) o=true:=by
 rcases h with ⟨i,x,hx,h6,hk⟩ | ⟨i,x,hx,h⟩
 .have hm:=zKy hx;have hg:=(G.W i x hx).p6 h6;have hob:=hg.1.ob;have hw:=G.wob i x hx h6;have hr:1<=o/\o<=(s.H.Objs.length:Int):=by have:=hk.2.2;omega
  refine ⟨hr,zjq _ _ (.inl (zuJ (by omega) _ _ (.inr ⟨x.G,?_,hk⟩)))⟩;exact zKO _ (zKE.2 ⟨x,zLR.2 ⟨hm,zr h6⟩,rfl⟩)
 .have K:=G.M i x hx;have hm:=zKy hx;obtain ⟨b1,b2,b3⟩:=G.buf x hm;rcases h with h | ⟨h,e⟩ | ⟨h,hk⟩
  .have hr:1<=o/\o<=(s.H.Objs.length:Int):=⟨(K.bf o h).1,b1 o h⟩
   refine ⟨hr,zjq _ _ (.inr ⟨x,hm,fun b=>?_⟩)⟩;have:zR (b|||WV x.Buf) o=true:=(xO _ _ _).2 (.inr (zDI (by omega) _ (.inr h)));unfold zaI;split
   .exact (xO _ _ _).2 (.inl this)
   .exact this
  .have ho:=K.ol.2 h;have hr:1<=o/\o<=(s.H.Objs.length:Int):=by omega
   refine ⟨hr,zjq _ _ (.inr ⟨x,hm,fun b=>?_⟩)⟩;unfold zaI;rw [zb (show zeO x by unfold zeO;omega)];exact (xO _ _ _).2 (.inr (by rw [e];exact zzA (by omega)))
  .have h3:=b3 h;have hob:1<=x.G.Obj:=by
    rcases h with h | h
    .exact (K.p3 h).1.ob.1
    .exact (K.p37 h).1.ob.1
   have hr:1<=o/\o<=(s.H.Objs.length:Int):=by have:=hk.2.2;omega
   refine ⟨hr,zjq _ _ (.inl (zuJ (by omega) _ _ (.inr ⟨x.G,?_,hk⟩)))⟩;exact zK2 _ (zKE.2 ⟨x,zLR.2 ⟨hm,zr h⟩,rfl⟩)
theorem zEc {p:zd}{nb k:Nat}{s:za}{gh:Gh}(G:FG p nb k s gh) (hN:(s.H.Objs.length:Int)<=9) {W:Int->Int->Prop}{o:Int}(h:zov s W o):o≠0->Reach s.H (VI s|||zqe s) o:=by
 have hv:∀l∈s.H.Objs,∀v∈l,0<=v/\v<=(s.H.Objs.length:Int):=fun l hl=>(G.E.H.objs l hl).2
 induction h with
 | pend o h =>
  intro _;obtain ⟨a,b⟩:=zIG G hN h;exact .root o ((xO _ _ _).2 (.inr b)) a
 | white u j o hW hj he hu hp ih =>
  intro h0;subst he;have hs:=zDE hv h0;exact .step u _ (ih (by have:=YF hj;omega)) hs.1 ⟨hs.2.1,hs.2.2⟩
 | grey u j o hW hj he hg hs' =>
  intro h0;subst he;have hs:=zDE hv h0;have hp:=YF hj;exact .step u _ (.root u ((xO _ _ _).2 (.inl ((znB u).2 hg))) hp.1) hs.1 ⟨hs.2.1,hs.2.2⟩
theorem zHC {p:zd}(h:zJ p) {nb k:Nat}{s:za}{gh:Gh}{W:Int->Int->Prop}(G:FG p nb k s gh) (J:PI p s W):zAj p&&& ~~~(s.T.Marks|||zqB s.H (VI s|||zqe s))=0#64:=by
 have hN:=G.E.H.n;have hn:=h.n;have hmo:=h.most;refine (zcD _ _).2 (fun o ho=>(xO _ _ _).2 ?_);have hr:=(zAG h o).1 ho;have h0:o≠0:=by have:=hr.in;omega
 rcases J.lv o hr with e | e
 .exact .inl e
 .exact .inr ((zsS (by omega) G.E.small.obj _ o).2 (zEc G (by omega) e h0))
end
end Go.Pe.G
