/- Own work of this seat: PWstep, PMstep, PBits, PWAll, PLists, PWNew, PHp, PFirst, PNewI, PCnt, PFull, PReach, PLiveP, PProt, PMProt, PMSnap, PWSnap, PFWork, PEngI, PEngP, PEngN, PRegs, PPhase, PDone. -/
import Derived.Test.YthmdgkhilfpgfaaGreatDoorDGPa
set_option linter.unusedVariables false
set_option linter.unusedSimpArgs false
set_option linter.unnecessarySimpa false
set_option linter.unusedSectionVars false
set_option linter.deprecated false
set_option maxRecDepth 20000
namespace Go.Pe.G
open Go.Pe
noncomputable section
def wu (x:ze):List Int:=if x.PC=3∨x.PC=4 then [x.Bin] else if x.PC=6 then wm x.G else []
def zaq (s:za) (x:ze):List Int:=if x.PC=0 then Wb s.M x.D else if x.PC=3 then xt s x.Bin else if x.PC=5∨x.PC=8 then [x.Obj] else if x.PC=6 then x.Obj::yR x.G else []
def zP (s:za) (x:ze):List Int:=x.Batch++zaq s x
structure WX (p:zb) (s:za) (gh:Gh) (w:Int) (x:ze):Prop where
 c0:x.PC≠0→gh.c w=0
 bt:x.PC≤3→x.Batch=[]
 p0:x.PC=0→PK p s.M w (gh.t w) (gh.D w) (gh.c w) x.D
 p1:x.PC=1→TK p s.M x.Victim (gh.t x.Victim) (gh.D x.Victim) x.D
 p2:x.PC=2→x.C.Out=0∧(0≤x.C.PC∧x.C.PC≤2)∧CK p s.M x.C
 p4:x.PC=4→x.C.Out=0∧(0≤x.C.PC∧x.C.PC≤2)∧x.C.X=x.Bin∧CK p s.M x.C
 p6:x.PC=6→GX p s gh x.G∧x.G.Mode=1∧x.G.Who=w∧x.G.Out=0
theorem WX.plain {p:zb} {s:za} {gh:Gh} {w:Int} {x:ze} (h:x.PC=5∨x.PC=7∨x.PC=8∨x.PC=9) (c:gh.c w=0):WX p s gh w x :=
 ⟨fun _=>c,fun e=>by omega,fun e=>by omega,fun e=>by omega,fun e=>by omega,fun e=>by omega,fun e=>by omega⟩
theorem CK.start {p:zb} {m:List (BitVec 64)} {k h x:Int}:CK p m ⟨k,0,h,zI p,0#64,x,0,0⟩ :=
 ⟨fun e=>absurd e (by show ¬(1:Int)≤0;decide),fun e=>absurd e (by show ¬(0:Int)=2;decide),fun e=>absurd e (by show ¬(0:Int)=2;decide)⟩
theorem WX.begin {p:zb} {s:za} {gh:Gh} {w:Int} {x:ze} (c:gh.c w=0) (hb:x.Batch=[]):WX p s gh w (V8 p w x):=by
 refine ⟨fun e=>absurd rfl e,fun _=>hb,fun _=>⟨rfl,rfl,rfl,rfl,⟨by show (0:Int)≤0;decide,by show (0:Int)≤6;decide⟩,fun _=>c,?_,?_,?_,?_,?_,?_,?_,?_⟩,fun e=>(by cases e),fun e=>(by cases e),fun e=>(by cases e),fun e=>(by cases e)⟩
 all_goals (intro e;first | (exact absurd e (by show ¬((0:Int)=2∨(4:Int)≤0);decide)) | (exact absurd e (by show ¬(0:Int)=3;decide)) | (exact absurd e (by show ¬(0:Int)=4;decide)) | (exact absurd e (by show ¬((0:Int)=3∨(0:Int)=4);decide)) | (exact absurd e (by show ¬(5:Int)≤0;decide)) | skip)
 rcases e with e | e | e | e
 ·exact absurd e (by show ¬(0:Int)=1;decide)
 ·exact absurd e (by show ¬(0:Int)=2;decide)
 ·exact absurd e (by show ¬(4:Int)≤0;decide)
 ·exact absurd e.1 (by show ¬(0:Int)=3;decide)
theorem zhJ {p:zb} {s:za} {w:Int} {x:ze}:zaq s (V8 p w x)=[]:=by
 unfold zaq
 rw [if_pos (show (V8 p w x).PC=0 from rfl)]
 exact vP (.inl (by show (0:Int)≠3;decide)) (by show (0:Int)≠6;decide)
theorem WX.look {p:zb} {s:za} {gh:Gh} {w:Int} {x:ze} (c:gh.c w=0) (hb:x.Batch=[]):WX p s gh w (ui p w x)∧zaq s (ui p w x)=[]∧wu (ui p w x)=[]:=by
 unfold ui
 split
 ·refine ⟨⟨fun _=>c,fun _=>hb,fun e=>(by cases e),fun e=>(by cases e),fun _=>⟨rfl,⟨by show (0:Int)≤0;decide,by show (0:Int)≤2;decide⟩,CK.start⟩,fun e=>(by cases e),fun e=>(by cases e)⟩,?_,?_⟩
  ·unfold zaq;rw [if_neg (by show ¬(2:Int)=0;decide),if_neg (by show ¬(2:Int)=3;decide),if_neg (by show ¬((2:Int)=5∨(2:Int)=8);decide),if_neg (by show ¬(2:Int)=6;decide)]
  ·unfold wu;rw [if_neg (by show ¬((2:Int)=3∨(2:Int)=4);decide),if_neg (by show ¬(2:Int)=6;decide)]
 ·refine ⟨⟨fun _=>c,fun _=>hb,fun e=>(by cases e),fun _=>⟨rfl,rfl,rfl,rfl,⟨by show (0:Int)≤0;decide,by show (0:Int)≤3;decide⟩,fun e=>absurd e (by show ¬(1:Int)≤0;decide),fun e=>absurd e (by show ¬(2:Int)≤0;decide),fun e=>absurd e (by show ¬(0:Int)=3;decide)⟩,fun e=>(by cases e),fun e=>(by cases e),fun e=>(by cases e)⟩,?_,?_⟩
  ·unfold zaq;rw [if_neg (by show ¬(1:Int)=0;decide),if_neg (by show ¬(1:Int)=3;decide),if_neg (by show ¬((1:Int)=5∨(1:Int)=8);decide),if_neg (by show ¬(1:Int)=6;decide)]
  ·unfold wu;rw [if_neg (by show ¬((1:Int)=3∨(1:Int)=4);decide),if_neg (by show ¬(1:Int)=6;decide)]
theorem WX.other {p:zb} (hp:zA p) {nb k:Nat} {s s':za} {gh gh':Gh} {X R:List Int} {O:Int→Prop} {w:Int} {x:ze} (hw:1≤w∧w≤p.Workers) (Y:SX p nb s gh (X++R) k) (Fx:FX p nb X O s s' gh gh') (K:WX p s gh w x) (W:WOk p nb w x)
  (hR: ∀b∈wu x,b∈R) (apart: ¬O w):WX p s' gh' w x∧zP s' x=zP s x:=by
 have hsub: ∀b∈X,b∈X++R:=fun b hb=>List.mem_append_left _ hb
 have hnd:=(List.nodup_append.1 Y.L.nodup).2.1
 have hnot: ∀b,b∈wu x→b∉X:=fun b hb hg=>(List.nodup_append.1 hnd).2.2 b hg b (hR b hb) rfl
 have hc:gh'.c w=gh.c w:=by
  rcases Fx.dq w hw.1 hw.2 with h | h
  ·cases h with
   | same e1 e2 e3 e4=>exact e3
   | stolen y e1 e2 e3 e4=>exact e3
  ·exact absurd h.1 apart
 have hcell: ∀a,zV p w<a→a<zV p w+p.Cap+2→ld s'.M a=ld s.M a:=by
  rcases Fx.dq w hw.1 hw.2 with h | h
  ·cases h with
   | same e1 e2 e3 e4=>exact fun a h1 h2=>e4 a (by omega) h2
   | stolen y e1 e2 e3 e4=>exact e4
  ·exact absurd h.1 apart
 refine ⟨⟨fun e=>hc.trans (K.c0 e),K.bt,fun e=>Fx.pk hp hw.1 hw.2 apart (K.p0 e),fun e=>Fx.tk W.vic.1 W.vic.2 (K.p1 e),fun e=> ?_,fun e=> ?_,fun e=> ?_⟩,?_⟩
 ·obtain ⟨a,b,c⟩:=K.p2 e
  have C:=W.c2 e
  exact ⟨a,b,c.mv Y.L Fx.mv hsub (.inl C.h) (fun h _=>C.v h) (fun e2=>by have:=C.k;omega)⟩
 ·obtain ⟨a,b,c,d⟩:=K.p4 e
  have C:=W.c4 e
  have hno:=hnot x.Bin (by unfold wu;rw [if_pos (.inr e)];simp)
  exact ⟨a,b,c,d.mv Y.L Fx.mv hsub (.inr C.h) (fun _ e2=>by have:=C.k;omega) (fun _=>⟨C.x.1,C.x.2,by rw [c];exact hno⟩)⟩
 ·obtain ⟨a,b,c,d⟩:=K.p6 e
  have M:=(W.g6 e).1
  refine ⟨a.other hp Y Fx M (fun y hy=>hR y ?_) (fun _=>by rw [c];exact apart),b,c,d⟩
  unfold wu;rw [if_neg (by omega),if_pos e];exact hy
 ·unfold zP zaq
  congr 1
  by_cases e0:x.PC=0
  ·rw [if_pos e0,if_pos e0]
   have P:=K.p0 e0
   unfold Wb
   have hpl:=(zpT hp hw.1 hw.2 P.base P.size (x.D.B-1#64)).2
   rw [hcell _ (by rw [P.base] at hpl;omega) (by rw [P.base] at hpl;omega)]
  ·rw [if_neg e0,if_neg e0]
   by_cases e3:x.PC=3
   ·rw [if_pos e3,if_pos e3]
    have hb:=W.b3 e3
    have hno:=hnot x.Bin (by unfold wu;rw [if_pos (.inl e3)];simp)
    unfold xt
    rw [Fx.bn x.Bin hb.1 hno]
   ·rw [if_neg e3,if_neg e3]
theorem zuP (s:za) (b:Int):W5 s b=xt s b:=by unfold W5 xt;rw [List.getD_eq_getElem?_getD]
theorem FX.mono {p:zb} {nb:Nat} {X:List Int} {O O':Int→Prop} {s s':za} {g g':Gh} (h:FX p nb X O s s' g g') (i: ∀v,O v→O' v):FX p nb X O' s s' g g' :=
 ⟨h.mv,h.bn,fun v a b=>(h.dq v a b).imp id (fun e=>⟨i v e.1,e.2⟩),h.fb⟩
theorem uc {x:ze} (h3:x.PC≠3) (h4:x.PC≠4) (h6:x.PC≠6):wu x=[]:=by unfold wu;rw [if_neg (by omega),if_neg h6]
theorem zi3 {x:ze} (h:x.PC=3∨x.PC=4):wu x=[x.Bin]:=by unfold wu;rw [if_pos h]
theorem zvi {x:ze} (h:x.PC=6):wu x=wm x.G:=by unfold wu;rw [if_neg (by omega),if_pos h]
theorem zyb {s:za} {x:ze} (h:x.PC=0):zaq s x=Wb s.M x.D:=by unfold zaq;rw [if_pos h]
theorem zzb {s:za} {x:ze} (h:x.PC=3):zaq s x=xt s x.Bin:=by unfold zaq;rw [if_neg (by omega),if_pos h]
theorem YA {s:za} {x:ze} (h:x.PC=5∨x.PC=8):zaq s x=[x.Obj]:=by unfold zaq;rw [if_neg (by omega),if_neg (by omega),if_pos h]
theorem znr {s:za} {x:ze} (h:x.PC=6):zaq s x=x.Obj::yR x.G:=by unfold zaq;rw [if_neg (by omega),if_neg (by omega),if_neg (by omega),if_pos h]
theorem Ye {s:za} {x:ze} (h:x.PC=1∨x.PC=2∨x.PC=4∨x.PC=7∨x.PC=9):zaq s x=[]:=by unfold zaq;rw [if_neg (by omega),if_neg (by omega),if_neg (by omega),if_neg (by omega)]
def ziD (p:zb) (nb k:Nat) (R:List Int) (gh:Gh) (s:za) (w:Int) (x:ze) (s':za) (x':ze):Prop :=
 ∃gh',SX p nb s' gh' (wu x'++R) (k+1)∧WX p s' gh' w x'∧FX p nb (wu x) (fun v=>v=w) s s' gh gh' ∧
  ∃N B,List.Perm (yC p s' gh'++zP s' x'++B) (N++(yC p s gh++zP s x)) ∧
   ((N=[]∧B=[]∧s'.T=s.T)∨(N=[x.G.Obj]∧B=[]∧x.PC=6∧¬(s.T.Marks|||bit x.G.Obj=s.T.Marks)∧s'.T={s.T with Marks:=s.T.Marks|||bit x.G.Obj})∨(N=[]∧B=[x.Obj]∧x.PC=8∧s'.T=wx s.T x.Obj))
theorem ziD.quiet {p:zb} {nb k:Nat} {R:List Int} {gh:Gh} {s s':za} {w:Int} {x x':ze} (X:SX p nb s gh (wu x++R) k) (S':SOk p nb s') (hm:s'.M=s.M) (hb:s'.Bins=s.Bins) (hT:s'.T=s.T)
  (ho:wu x'=wu x) (hh:List.Perm (zP s' x') (zP s x)) (W':WX p s' gh w x'):ziD p nb k R gh s w x s' x' :=
 ⟨gh,by rw [ho];exact X.quiet S' hm,W',FX.quiet hm (fun _ _ _=>by rw [hb]),[],[],by rw [uR hb,List.append_nil];exact List.Perm.append_left _ hh,.inl ⟨rfl,rfl,hT⟩⟩
theorem zAI {p:zb} (hp:zA p) {nb k:Nat} {R:List Int} {gh:Gh} {s:za} {w:Int} {x:ze} (hk:k<4294960000) (hw:1≤w∧w≤p.Workers) (X:SX p nb s gh (wu x++R) k) (W:WOk p nb w x) (K:WX p s gh w x)
  (hH: ∀o i,0≤zN s.H o i∧zN s.H o i≤64):ziD p nb k R gh s w x (zj s w x).1 (zj s w x).2:=by
 have S':=(zw6 hp hw X.S W).1
 have hP:=X.S.P
 have eL: ∀y,ui s.P w y=ui p w y:=fun y=>by rw [hP]
 have eB: ∀y,V8 s.P w y=V8 p w y:=fun y=>by rw [hP]
 have eC:za9 s.P (zI s.P) x.Bin=za9 p (zI p) x.Bin:=by rw [hP]
 have hpc:=W.pc
 have hlen:=X.L.len
 have hE:=wM hp
 revert S'
 unfold zj
 by_cases p01:x.PC=0∨x.PC=1
 ·rw [if_pos p01]
  intro S'
  have S':SOk p nb {s with M:=(zU s.M x.D).1}:=S'
  have hl:=(zkP s.M x.D).1
  have eo:wu x=[]:=uc (by omega) (by omega) (by omega)
  have hbt:=K.bt (by omega)
  rw [eo] at X
  dsimp only
  by_cases p0:x.PC=0
  ·have K0:=K.p0 p0
   have D0:=X.D w hw.1 hw.2
   have hdk:=X.dk w hw.1 hw.2
   obtain ⟨t',l',c',D',hm,V,hle,r⟩:=zvP hp hw (by omega) D0 K0
   have hc:=hp.cap
   have hm': ∀a,(a<zV p w∨zV p w+p.Cap+2≤a)→ld (zU s.M x.D).1 a=ld s.M a:=fun a ha=>hm a (by omega) (by omega)
   have X':=X.dq hp S' hl hw hm' D' (by omega)
   have Fx:FX p nb (wu x) (fun v=>v=w) s {s with M:=(zU s.M x.D).1} gh (WB gh w t' l' c'):=FX.own (O:=fun v=>v=w) (s:=s) (s':={s with M:=(zU s.M x.D).1}) (g:=gh) hp hw hm' rfl rfl V
   obtain ⟨u,v,f1,f2⟩:=zon (p:=p) (s:=s) (s':={s with M:=(zU s.M x.D).1}) (g:=gh) rfl hw (t:=t') (c:=c') (l:=l')
   have fin: ∀x':ze,wu x'=[]→WX p {s with M:=(zU s.M x.D).1} (WB gh w t' l' c') w x'→List.Perm (l'++zP {s with M:=(zU s.M x.D).1} x') (gh.D w++zP s x)→ziD p nb k R gh s w x {s with M:=(zU s.M x.D).1} x':=by
    intro x' a b c
    refine ⟨_,by rw [a];exact X',b,Fx,[],[],?_,.inl ⟨rfl,rfl,rfl⟩⟩
    rw [f1,f2,List.append_nil,List.nil_append]
    simp only [List.append_assoc]
    refine List.Perm.append_left _ ?_
    refine (List.perm_append_comm_assoc l' v _).trans (List.Perm.trans ?_ (List.perm_append_comm_assoc v (gh.D w) _))
    exact List.Perm.append_left _ c
   have hh:zP s x=Wb s.M x.D:=by unfold zP;rw [hbt,zyb p0,List.nil_append]
   rw [hh] at fin
   rcases r with ⟨r1,r2,r3⟩ | ⟨r1,r2,r3⟩ | ⟨r1,r2,r3,r4,r5⟩
   ·rw [r1,if_neg (by decide),if_neg (by decide)]
    refine fin _ (uc (by show x.PC≠3;omega) (by show x.PC≠4;omega) (by show x.PC≠6;omega)) ⟨fun e=>absurd p0 e,fun _=>hbt,fun _=> ?_,fun e=>by have e:x.PC=1:=e;omega,fun e=>by have e:x.PC=2:=e;omega,fun e=>by have e:x.PC=4:=e;omega,fun e=>by have e:x.PC=6:=e;omega⟩ ?_
    ·rw [wF.1,wF.2.1,wF.2.2];exact r2
    ·unfold zP
     rw [zyb (x:={x with D:=(zU s.M x.D).2}) p0]
     show List.Perm (l'++(x.Batch++Wb (zU s.M x.D).1 (zU s.M x.D).2)) _
     rw [hbt,List.nil_append];exact r3
   ·rw [r1,if_pos rfl]
    refine fin _ (uc (by show (5:Int)≠3;decide) (by show (5:Int)≠4;decide) (by show (5:Int)≠6;decide)) (WX.plain (.inl rfl) (by rw [wF.2.2];exact r2)) ?_
    unfold zP
    rw [YA (.inl rfl)]
    show List.Perm (l'++(x.Batch++[(zU s.M x.D).2.X])) _
    rw [hbt,List.nil_append];exact r3
   ·rw [r1,if_neg (by decide),if_pos (.inl rfl),eL]
    obtain ⟨a,b,c⟩:=WX.look (p:=p) (s:={s with M:=(zU s.M x.D).1}) (gh:=WB gh w t' l' c') (w:=w) (x:={x with D:=(zU s.M x.D).2}) (by rw [wF.2.2];exact r2) hbt
    refine fin _ c a ?_
    unfold zP
    rw [b,r3,r4,r5,show (ui p w {x with D:=(zU s.M x.D).2}).Batch=x.Batch by unfold ui;split<;>rfl,hbt]
    exact List.Perm.refl _
  ·have p1:x.PC=1:=by omega
   have K1:=K.p1 p1
   have hv:=W.vic
   have hc0:=K.c0 p0
   have D0:=X.D x.Victim hv.1 hv.2
   have hdk:=X.dk x.Victim hv.1 hv.2
   have hh:zP s x=[]:=by unfold zP;rw [hbt,Ye (.inl p1)];rfl
   rcases zxX hp hv (by omega) D0 K1 with ⟨hm,r⟩ | ⟨y,l',e1,e2,e3,e4,e5⟩
   ·have S2:=S'
    have q: ∀x':ze,wu x'=[]→zP {s with M:=(zU s.M x.D).1} x'=[]→WX p {s with M:=(zU s.M x.D).1} gh w x'→ziD p nb k R gh s w x {s with M:=(zU s.M x.D).1} x' :=
     fun x' a b c=> .quiet (by rw [eo];exact X) S' hm rfl rfl (by rw [a,eo]) (by rw [b,hh]) c
    rcases r with ⟨r1,r2⟩ | r
    ·rw [r1,if_neg (by decide),if_neg (by decide)]
     refine q _ (uc (by show x.PC≠3;omega) (by show x.PC≠4;omega) (by show x.PC≠6;omega)) ?_ ⟨fun _=>hc0,fun _=>hbt,fun e=>absurd e p0,fun _=> ?_,fun e=>by have e:x.PC=2:=e;omega,fun e=>by have e:x.PC=4:=e;omega,fun e=>by have e:x.PC=6:=e;omega⟩
     ·unfold zP
      rw [Ye (x:={x with D:=(zU s.M x.D).2}) (.inl p1)]
      show x.Batch++[]=[]
      rw [hbt];rfl
     ·show TK p (zU s.M x.D).1 _ _ _ _
      rw [hm];exact r2
    ·rw [if_neg (by omega),if_pos r,eL]
     obtain ⟨a,b,c⟩:=WX.look (p:=p) (s:={s with M:=(zU s.M x.D).1}) (gh:=gh) (w:=w) (x:={x with D:=(zU s.M x.D).2}) hc0 hbt
     refine q _ c ?_ a
     unfold zP
     rw [b,show (ui p w {x with D:=(zU s.M x.D).2}).Batch=x.Batch by unfold ui;split<;>rfl,hbt];rfl
   ·have hc:=hp.cap
    have hm': ∀a,(a<zV p x.Victim∨zV p x.Victim+p.Cap+2≤a)→ld (zU s.M x.D).1 a=ld s.M a:=fun a ha=>e5 a (by omega)
    have X':=X.dq hp S' hl hv hm' e4 (by rw [e1] at hdk;simp at hdk;omega)
    obtain ⟨h1,h2⟩:=zs7 hp hv hm'
    obtain ⟨u,v,f1,f2⟩:=zon (p:=p) (s:=s) (s':={s with M:=(zU s.M x.D).1}) (g:=gh) rfl hv (t:=gh.t x.Victim+1) (c:=gh.c x.Victim) (l:=l')
    rw [e2,if_pos rfl]
    refine ⟨WB gh x.Victim (gh.t x.Victim+1) l' (gh.c x.Victim),by rw [uc (by show (5:Int)≠3;decide) (by show (5:Int)≠4;decide) (by show (5:Int)≠6;decide)];exact X',WX.plain (.inl rfl) ?_,⟨Mv.low hp h1,fun _ _ _=>rfl,fun v' a b=> .inl ?_,fun _ h=> .inl h⟩,[],[],?_,.inl ⟨rfl,rfl,rfl⟩⟩
    ·by_cases e:w=x.Victim
     ·rw [e,wF.2.2,←e];exact hc0
     ·rw [(YM e).2.2];exact hc0
    ·by_cases e:v'=x.Victim
     ·subst e
      exact .stolen y wF.2.1 (by rw [wF.1];exact e1) wF.2.2 (fun a h1 _=>e5 a (by omega))
     ·exact .same (YM e).2.1 (YM e).1 (YM e).2.2 (h2 v' a b e)
    ·rw [f1,f2,hh,List.append_nil,List.append_nil,List.nil_append,e1]
     unfold zP
     rw [YA (.inl rfl)]
     show List.Perm (u++l'++v++(x.Batch++[(zU s.M x.D).2.X])) _
     rw [hbt,List.nil_append,e3]
     simp only [List.append_assoc]
     refine List.Perm.append_left _ ?_
     show List.Perm (l'++(v++[y])) (y::(l'++v))
     rw [←List.append_assoc]
     exact List.perm_append_comm
 rw [if_neg p01]
 have hc0:=K.c0 (by omega)
 by_cases p2:x.PC=2
 ·rw [if_pos p2]
  intro S'
  have S':SOk p nb {s with M:=(zn s.M x.C).1}:=S'
  have C:=W.c2 p2
  obtain ⟨c1,c2,c3⟩:=K.p2 p2
  have hbt:=K.bt (by omega)
  have eo:wu x=[]:=uc (by omega) (by omega) (by omega)
  have hh:zP s x=[]:=by unfold zP;rw [hbt,Ye (.inr (.inl p2))];rfl
  dsimp only
  rcases SX.popF hp X hk C.k C.h C.n c1 c2 c3 C.v S' with ⟨a,b,c,d⟩ | ⟨y,l,a,b,c,d,e⟩
  ·rw [if_neg b]
   have hout:=zbs s.M c1 c2 (.inr C.k)
   by_cases o2:(zn s.M x.C).2.Out=2
   ·rw [if_pos o2,eB]
    refine .quiet X S' a rfl rfl ?_ ?_ (WX.begin hc0 hbt)
    ·rw [eo];exact uc (by show (0:Int)≠3;decide) (by show (0:Int)≠4;decide) (by show (0:Int)≠6;decide)
    ·unfold zP
     rw [zhJ,show (V8 p w {x with C:=(zn s.M x.C).2}).Batch=x.Batch from rfl]
     rw [hbt,Ye (.inr (.inl p2))]
   ·rw [if_neg o2]
    have hpc':(zn s.M x.C).2.Out=0∧0≤(zn s.M x.C).2.PC∧(zn s.M x.C).2.PC≤2:=by omega
    refine .quiet X S' a rfl rfl ?_ ?_ ⟨fun _=>hc0,fun _=>hbt,fun e=>by have e:x.PC=0:=e;omega,fun e=>by have e:x.PC=1:=e;omega,fun _=>⟨hpc'.1,hpc'.2,?_⟩,fun e=>by have e:x.PC=4:=e;omega,fun e=>by have e:x.PC=6:=e;omega⟩
    ·rw [eo];exact uc (by show x.PC≠3;omega) (by show x.PC≠4;omega) (by show x.PC≠6;omega)
    ·unfold zP
     rw [Ye (x:={x with C:=(zn s.M x.C).2}) (.inr (.inl p2)),Ye (.inr (.inl p2))]
    ·rw [show ({s with M:=(zn s.M x.C).1}:za).M=s.M from a];exact c
  ·rw [if_pos b]
   have e1:wu {x with C:=(zn s.M x.C).2,Bin:=(zn s.M x.C).2.X,PC:=3}=[y]:=by rw [←c];exact zi3 (x:={x with C:=(zn s.M x.C).2,Bin:=(zn s.M x.C).2.X,PC:=3}) (.inl rfl)
   refine ⟨{gh with F:=l},by rw [e1];rw [eo] at d;exact d,⟨fun _=>hc0,fun _=>hbt,fun e=>(by cases e),fun e=>(by cases e),fun e=>(by cases e),fun e=>(by cases e),fun e=>(by cases e)⟩,e _ _,[],[],?_,.inl ⟨rfl,rfl,rfl⟩⟩
   rw [hh,List.append_nil,List.append_nil,List.nil_append]
   unfold zP
   rw [zzb (x:={x with C:=(zn s.M x.C).2,Bin:=(zn s.M x.C).2.X,PC:=3}) rfl]
   show List.Perm (yC p s {gh with F:=l}++(x.Batch++xt s (zn s.M x.C).2.X)) _
   rw [hbt,List.nil_append,c]
   have:yC p s gh=xt s y++yC p s {gh with F:=l}:=by unfold yC;rw [a];simp [List.append_assoc]
   rw [this]
   exact List.perm_append_comm
 rw [if_neg p2]
 by_cases p3:x.PC=3
 ·rw [if_pos p3]
  intro S'
  have hb:=W.b3 p3
  have hbt:=K.bt (by omega)
  have eo:wu x=[x.Bin]:=zi3 (.inl p3)
  rw [eC]
  have e1:wu {x with Batch:=W5 s x.Bin,PC:=4,C:=za9 p (zI p) x.Bin}=[x.Bin]:=zi3 (x:={x with Batch:=W5 s x.Bin,PC:=4,C:=za9 p (zI p) x.Bin}) (.inr rfl)
  have hget: ∀b,1≤b→b∉wu x→(s.Bins.set x.Bin.toNat [])[b.toNat]? =s.Bins[b.toNat]? :=fun b b1 b2=>by
   rw [List.getElem?_set_ne]
   intro e
   rw [eo] at b2
   exact b2 (by rw [show b=x.Bin by omega];simp)
  refine ⟨gh,by rw [e1,←eo];exact X.quiet S' rfl,⟨fun _=>hc0,fun e=>absurd e (by show ¬(4:Int)≤3;decide),fun e=>(by cases e),fun e=>(by cases e),fun e=>(by cases e),fun _=>⟨rfl,⟨by show (0:Int)≤0;decide,by show (0:Int)≤2;decide⟩,rfl,CK.start⟩,fun e=>(by cases e)⟩,FX.quiet rfl hget,[],[],?_,.inl ⟨rfl,rfl,rfl⟩⟩
  have hbag:yC p {s with Bins:=s.Bins.set x.Bin.toNat []} gh=yC p s gh:=by
   unfold yC
   congr 1
   refine xP (fun b hb=> ?_)
   have hm:=X.L.cF.mem b hb
   have hno:=(X.L.notF (x:=x.Bin) (by rw [eo];simp)).1
   unfold xt
   rw [show ({s with Bins:=s.Bins.set x.Bin.toNat []}:za).Bins=s.Bins.set x.Bin.toNat [] from rfl,hget b hm.1 (by rw [eo];intro e;rw [List.mem_singleton.1 e] at hb;exact hno hb)]
  rw [hbag,List.append_nil,List.nil_append]
  unfold zP
  rw [zzb p3,Ye (x:={x with Batch:=W5 s x.Bin,PC:=4,C:=za9 p (zI p) x.Bin}) (.inr (.inr (.inl rfl)))]
  show List.Perm (yC p s gh++(W5 s x.Bin++[])) _
  rw [hbt,List.append_nil,List.nil_append,zuP]
 rw [if_neg p3]
 by_cases p4:x.PC=4
 ·rw [if_pos p4]
  intro S'
  have S':SOk p nb {s with M:=(zn s.M x.C).1}:=S'
  have C:=W.c4 p4
  obtain ⟨c1,c2,c3,c4⟩:=K.p4 p4
  have eo:wu x=[x.Bin]:=zi3 (.inr p4)
  have hh:zP s x=x.Batch:=by unfold zP;rw [Ye (.inr (.inr (.inl p4))),List.append_nil]
  rw [eo] at X
  dsimp only
  rcases SX.pushE hp (o1:=[]) (o2:=R) (b:=x.Bin) X hk C.k C.h C.n c3 c1 c2 c4 C.v S' with ⟨a,b,c,d⟩ | ⟨a,b,d⟩
  ·rw [a,if_neg (by decide)]
   have hout:=zbs s.M c1 c2 (.inl C.k)
   have hsame:=zkS s.M x.C
   have hpc':0≤(zn s.M x.C).2.PC∧(zn s.M x.C).2.PC≤2:=by omega
   have e1:wu {x with C:=(zn s.M x.C).2}=[x.Bin]:=zi3 (x:={x with C:=(zn s.M x.C).2}) (.inr p4)
   refine ⟨gh,by rw [e1];exact b,⟨fun _=>hc0,fun e=>by have e:x.PC≤3:=e;omega,fun e=>by have e:x.PC=0:=e;omega,fun e=>by have e:x.PC=1:=e;omega,fun e=>by have e:x.PC=2:=e;omega,fun _=>⟨a,hpc',(hsame.2.2.2 C.k).trans c3,c⟩,fun e=>by have e:x.PC=6:=e;omega⟩,by rw [eo];exact d _ _ (by simp),[],[],?_,.inl ⟨rfl,rfl,rfl⟩⟩
   rw [uR rfl,hh,List.append_nil]
   unfold zP
   rw [Ye (x:={x with C:=(zn s.M x.C).2}) (.inr (.inr (.inl p4))),List.append_nil]
   exact List.Perm.refl _
  ·rw [a,if_pos rfl]
   refine ⟨{gh with E:=x.Bin::gh.E},by rw [uc (by show (7:Int)≠3;decide) (by show (7:Int)≠4;decide) (by show (7:Int)≠6;decide)];exact b,WX.plain (.inr (.inl rfl)) hc0,by rw [eo];exact d _ _,[],[],?_,.inl ⟨rfl,rfl,rfl⟩⟩
   rw [hh,List.append_nil]
   unfold zP
   rw [Ye (.inr (.inr (.inr (.inl rfl)))),List.append_nil]
   exact List.Perm.refl _
 rw [if_neg p4]
 by_cases p5:x.PC=5
 ·rw [if_pos p5]
  intro S'
  have eo:wu x=[]:=uc (by omega) (by omega) (by omega)
  have hv:=hH x.Obj x.Slot
  dsimp only
  split
  ·rcases ziw s (wc (x.Slot+1)) with e | e<;>rw [e]
   ·refine .quiet X S' rfl rfl rfl (by rw [eo];exact uc (by show (5:Int)≠3;decide) (by show (5:Int)≠4;decide) (by show (5:Int)≠6;decide)) ?_ (WX.plain (.inl rfl) hc0)
    unfold zP
    rw [YA (.inl p5),YA (.inl rfl)]
   ·refine .quiet X S' rfl rfl rfl (by rw [eo];exact uc (by show (8:Int)≠3;decide) (by show (8:Int)≠4;decide) (by show (8:Int)≠6;decide)) ?_ (WX.plain (.inr (.inr (.inl rfl))) hc0)
    unfold zP
    rw [YA (.inl p5),YA (.inr rfl)]
  ·rename_i hne
   have e0:(uZ 1 (zN s.H x.Obj x.Slot) w).PC=0:=rfl
   refine .quiet X S' rfl rfl rfl ?_ ?_ ⟨fun _=>hc0,fun e=>absurd e (by show ¬(6:Int)≤3;decide),fun e=>(by cases e),fun e=>(by cases e),fun e=>(by cases e),fun e=>(by cases e),fun _=>⟨GX.plain (.inl rfl) ⟨by show (0:Int)≤0;decide,by show (0:Int)≤7;decide⟩ ⟨by show (1:Int)≤1;decide,by show (1:Int)≤3;decide⟩ ⟨by show 1≤zN s.H x.Obj x.Slot;omega,hv.2⟩ (fun _ _=>hc0) (.inr ⟨by show (0:Int)≠3;decide,by show (0:Int)≠5;decide,by show (0:Int)≠7;decide⟩),rfl,rfl,rfl⟩⟩
   ·rw [eo,zvi (x:={x with Slot:=wc (x.Slot+1),PC:=6,G:=uZ 1 (zN s.H x.Obj x.Slot) w}) rfl]
    exact vy (.inr ⟨by show (0:Int)≠6;decide,by show (0:Int)≠7;decide⟩)
   ·unfold zP
    rw [YA (.inl p5),znr (x:={x with Slot:=wc (x.Slot+1),PC:=6,G:=uZ 1 (zN s.H x.Obj x.Slot) w}) rfl]
    rw [Zl (g:=uZ 1 (zN s.H x.Obj x.Slot) w) (.inr (.inl (by show (0:Int)<3;decide)))]
 rw [if_neg p5]
 by_cases p6:x.PC=6
 ·rw [if_pos p6]
  intro S'
  obtain ⟨G,gm,gw,g0⟩:=K.p6 p6
  obtain ⟨M,h5o,_,hn4⟩:=W.g6 p6
  have eo:wu x=wm x.G:=zvi p6
  have hh:zP s x=x.Batch++x.Obj::yR x.G:=by unfold zP;rw [znr p6]
  rw [eo] at X
  obtain ⟨gh',X',G',Fx,hc',hFb,N,hN,hT⟩:=zx6 hp hk X M h5o G
  have so:=Vb s x.G
  have Fx':FX p nb (wu x) (fun v=>v=w) s (zm s x.G).1 gh gh':=by
   rw [eo]
   exact Fx.mono (fun v e=>e.2.trans gw)
  have hcw:gh'.c w=0:=by have:=hc' gm g0;rwa [gw] at this
  dsimp only
  have hT':(N=[]∧([]:List Int)=[]∧(zm s x.G).1.T=s.T)∨(N=[x.G.Obj]∧([]:List Int)=[]∧x.PC=6∧¬(s.T.Marks|||bit x.G.Obj=s.T.Marks)∧(zm s x.G).1.T={s.T with Marks:=s.T.Marks|||bit x.G.Obj})∨(N=[]∧([]:List Int)=[x.Obj]∧x.PC=8∧(zm s x.G).1.T=wx s.T x.Obj):=by
   rcases hT with ⟨a,b⟩ | ⟨a,b,c⟩
   ·exact .inl ⟨a,rfl,b⟩
   ·exact .inr (.inl ⟨a,rfl,p6,b,c⟩)
  have perm: ∀H':List Int,H'=x.Batch++x.Obj::yR (zm s x.G).2→List.Perm (yC p (zm s x.G).1 gh'++H'++[]) (N++(yC p s gh++zP s x)):=by
   intro H' e
   rw [e,hh,List.append_nil]
   have a1:List.Perm (yC p (zm s x.G).1 gh'++(x.Batch++x.Obj::yR (zm s x.G).2)) ((x.Batch++[x.Obj])++(yC p (zm s x.G).1 gh'++yR (zm s x.G).2)):=by
    rw [show x.Batch++x.Obj::yR (zm s x.G).2=(x.Batch++[x.Obj])++yR (zm s x.G).2 by simp]
    exact List.perm_append_comm_assoc _ _ _
   have a2:List.Perm (N++(yC p s gh++(x.Batch++x.Obj::yR x.G))) ((x.Batch++[x.Obj])++(N++(yC p s gh++yR x.G))):=by
    rw [show x.Batch++x.Obj::yR x.G=(x.Batch++[x.Obj])++yR x.G by simp]
    exact (List.Perm.append_left N (List.perm_append_comm_assoc _ _ _)).trans (List.perm_append_comm_assoc _ _ _)
   exact a1.trans ((List.Perm.append_left _ hN).trans a2.symm)
  split
  ·rename_i o1
   have n1:wm (zm s x.G).2=[]:=vy (.inl (by omega))
   have n2:yR (zm s x.G).2=[]:=Zl (.inl (by omega))
   rw [n1] at X'
   rcases ziw s x.Slot with e | e<;>rw [e]
   ·refine ⟨gh',by rw [uc (by show (5:Int)≠3;decide) (by show (5:Int)≠4;decide) (by show (5:Int)≠6;decide)];exact X',WX.plain (.inl rfl) hcw,Fx',N,[],perm _ ?_,hT'⟩
    unfold zP;rw [YA (.inl rfl),n2]
   ·refine ⟨gh',by rw [uc (by show (8:Int)≠3;decide) (by show (8:Int)≠4;decide) (by show (8:Int)≠6;decide)];exact X',WX.plain (.inr (.inr (.inl rfl))) hcw,Fx',N,[],perm _ ?_,hT'⟩
    unfold zP;rw [YA (.inr rfl),n2]
  ·rename_i o1
   have o0:(zm s x.G).2.Out=0:=by have:=G'.o;omega
   refine ⟨gh',by rw [zvi (x:={x with G:=(zm s x.G).2}) p6];exact X',⟨fun _=>hcw,fun e=>by have e:x.PC≤3:=e;omega,fun e=>by have e:x.PC=0:=e;omega,fun e=>by have e:x.PC=1:=e;omega,fun e=>by have e:x.PC=2:=e;omega,fun e=>by have e:x.PC=4:=e;omega,fun _=>⟨G',so.2.2.trans gm,so.2.1.trans gw,o0⟩⟩,Fx',N,[],perm _ ?_,hT'⟩
   unfold zP;rw [znr (x:={x with G:=(zm s x.G).2}) p6]
 rw [if_neg p6]
 have eo:wu x=[]:=uc (by omega) (by omega) (by omega)
 by_cases p7:x.PC=7
 ·rw [if_pos p7]
  intro S'
  dsimp only
  split
  ·rename_i hb
   rw [eB]
   refine .quiet X S' rfl rfl rfl (by rw [eo];exact uc (by show (0:Int)≠3;decide) (by show (0:Int)≠4;decide) (by show (0:Int)≠6;decide)) ?_ (WX.begin hc0 hb)
   unfold zP
   rw [zhJ,Ye (.inr (.inr (.inr (.inl p7))))]
   exact List.Perm.refl _
  ·rename_i o l hb
   refine .quiet X S' rfl rfl rfl (by rw [eo];exact uc (by show (5:Int)≠3;decide) (by show (5:Int)≠4;decide) (by show (5:Int)≠6;decide)) ?_ (WX.plain (.inl rfl) hc0)
   unfold zP
   rw [YA (.inl rfl),Ye (.inr (.inr (.inr (.inl p7)))),hb,List.append_nil]
   exact List.perm_append_comm
 rw [if_neg p7]
 by_cases p8:x.PC=8
 ·rw [if_pos p8]
  intro S'
  refine ⟨gh,by rw [uc (by show (9:Int)≠3;decide) (by show (9:Int)≠4;decide) (by show (9:Int)≠6;decide)];rw [eo] at X;exact X.quiet S' rfl,WX.plain (.inr (.inr (.inr rfl))) hc0,FX.quiet rfl (fun _ _ _=>rfl),[],[x.Obj],?_,.inr (.inr ⟨rfl,rfl,p8,rfl⟩)⟩
  rw [uR rfl,List.nil_append]
  unfold zP
  rw [YA (.inr p8),Ye (.inr (.inr (.inr (.inr rfl)))),List.append_nil,List.append_assoc]
  exact List.Perm.refl _
 rw [if_neg p8]
 have p9:x.PC=9:=by omega
 rw [if_pos p9]
 intro S'
 refine .quiet X S' rfl rfl rfl (by rw [eo];exact uc (by show (7:Int)≠3;decide) (by show (7:Int)≠4;decide) (by show (7:Int)≠6;decide)) ?_ (WX.plain (.inr (.inl rfl)) hc0)
 unfold zP
 rw [Ye (.inr (.inr (.inr (.inr p9)))),Ye (.inr (.inr (.inr (.inl rfl))))]
theorem zzA (s:za) (w:Int) (x:ze) (h:(zj s w x).2.PC=6):(x.PC=6∧(zj s w x).2.G.Obj=x.G.Obj)∨(x.PC=5∧(zj s w x).2.G.Obj=zN s.H x.Obj x.Slot):=by
 revert h
 have hon: ∀i,onW s i≠6:=fun i e=>by rcases ziw s i with h | h<;>omega
 have hlk: ∀y:ze,(ui s.P w y).PC≠6:=fun y e=>by unfold ui at e;split at e<;>cases e
 unfold zj
 split
 ·rename_i h0
  dsimp only
  split
  ·exact fun e=>by cases e
  split
  ·exact fun e=>absurd e (hlk _)
  ·exact fun e=>by have e:x.PC=6:=e;omega
 split
 ·dsimp only
  split
  ·exact fun e=>by cases e
  split
  ·exact fun e=>by cases e
  ·exact fun e=>by have e:x.PC=6:=e;omega
 split
 ·exact fun e=>by cases e
 split
 ·dsimp only
  split
  ·exact fun e=>by cases e
  ·exact fun e=>by have e:x.PC=6:=e;omega
 split
 ·rename_i h5
  dsimp only
  split
  ·exact fun e=>absurd e (hon _)
  ·exact fun _=> .inr ⟨h5,rfl⟩
 split
 ·rename_i h6
  dsimp only
  split
  ·exact fun e=>absurd e (hon _)
  ·exact fun _=> .inl ⟨h6,(Vb s x.G).1⟩
 split
 ·dsimp only
  split
  ·exact fun e=>by cases e
  ·exact fun e=>by cases e
 split
 ·exact fun e=>by cases e
 split
 ·exact fun e=>by cases e
 ·exact fun e=> .inl ⟨e,rfl⟩
end
end Go.Pe.G
namespace Go.Pe.G
open Go.Pe
noncomputable section
def uu (x:zc):List Int:=if x.PC=33∨x.PC=34 then [x.Bin] else if x.PC=3∨x.PC=37 then wm x.G else []
def zcA (s:za) (x:zc):List Int:=if x.PC=33 then xt s x.Bin else if x.PC=36∨x.PC=38 then [x.Obj] else if x.PC=37 then x.Obj::yR x.G else if x.PC=3 then yR x.G else []
def zZ (s:za) (x:zc):List Int:=x.Batch++zcA s x
structure MX (p:zb) (s:za) (gh:Gh) (x:zc):Prop where
 bt:x.PC≤33→x.Batch=[]
 bf: ∀v∈x.Buf,1≤v∧v≤64
 ol:(x.PC=21→0≤x.Old∧x.Old≤64)∧(x.PC=22∨((x.PC=1∨x.PC=3)∧x.Ret=22)→1≤x.Old∧x.Old≤64)
 p3:x.PC=3→GX p s gh x.G∧x.G.Mode=2∧x.G.Out=0
 p32:x.PC=32→x.C.Out=0∧(0≤x.C.PC∧x.C.PC≤2)∧CK p s.M x.C
 p34:x.PC=34→x.C.Out=0∧(0≤x.C.PC∧x.C.PC≤2)∧x.C.X=x.Bin∧CK p s.M x.C
 p37:x.PC=37→GX p s gh x.G∧x.G.Mode=3∧x.G.Out=0
theorem MX.plain {p:zb} {s:za} {gh:Gh} {x:zc} (h:x.PC≠3∧x.PC≠32∧x.PC≠34∧x.PC≠37) (bt:x.PC≤33→x.Batch=[]) (bf: ∀v∈x.Buf,1≤v∧v≤64)
  (ol:(x.PC=21→0≤x.Old∧x.Old≤64)∧(x.PC=22∨((x.PC=1∨x.PC=3)∧x.Ret=22)→1≤x.Old∧x.Old≤64)):MX p s gh x :=
 ⟨bt,bf,ol,fun e=>by omega,fun e=>by omega,fun e=>by omega,fun e=>by omega⟩
theorem vQ {x:zc} (h:x.PC≠3∧x.PC≠33∧x.PC≠34∧x.PC≠37):uu x=[]:=by unfold uu;rw [if_neg (by omega),if_neg (by omega)]
theorem zcx {x:zc} (h:x.PC=33∨x.PC=34):uu x=[x.Bin]:=by unfold uu;rw [if_pos h]
theorem zgq {x:zc} (h:x.PC=3∨x.PC=37):uu x=wm x.G:=by unfold uu;rw [if_neg (by omega),if_pos h]
theorem uE {s:za} {x:zc} (h:x.PC≠3∧x.PC≠33∧x.PC≠36∧x.PC≠37∧x.PC≠38):zcA s x=[]:=by unfold zcA;rw [if_neg (by omega),if_neg (by omega),if_neg (by omega),if_neg (by omega)]
theorem zoK {s:za} {x:zc} (h:x.PC=33):zcA s x=xt s x.Bin:=by unfold zcA;rw [if_pos h]
theorem XX {s:za} {x:zc} (h:x.PC=36∨x.PC=38):zcA s x=[x.Obj]:=by unfold zcA;rw [if_neg (by omega),if_pos h]
theorem zlJ {s:za} {x:zc} (h:x.PC=37):zcA s x=x.Obj::yR x.G:=by unfold zcA;rw [if_neg (by omega),if_neg (by omega),if_pos h]
theorem zi5 {s:za} {x:zc} (h:x.PC=3):zcA s x=yR x.G:=by unfold zcA;rw [if_neg (by omega),if_neg (by omega),if_neg (by omega),if_pos h]
theorem MX.other {p:zb} (hp:zA p) {nb k:Nat} {s s':za} {gh gh':Gh} {X R:List Int} {O:Int→Prop} {m:Int} {x:zc} (Y:SX p nb s gh (X++R) k) (Fx:FX p nb X O s s' gh gh') (K:MX p s gh x) (W:XOk p nb m x)
  (hR: ∀b∈uu x,b∈R):MX p s' gh' x∧zZ s' x=zZ s x:=by
 have hsub: ∀b∈X,b∈X++R:=fun b hb=>List.mem_append_left _ hb
 have hnd:=(List.nodup_append.1 Y.L.nodup).2.1
 have hnot: ∀b,b∈uu x→b∉X:=fun b hb hg=>(List.nodup_append.1 hnd).2.2 b hg b (hR b hb) rfl
 refine ⟨⟨K.bt,K.bf,K.ol,fun e=> ?_,fun e=> ?_,fun e=> ?_,fun e=> ?_⟩,?_⟩
 ·obtain ⟨a,b,c⟩:=K.p3 e
  obtain ⟨M,_,_⟩:=W.g (.inl e)
  exact ⟨a.other hp Y Fx M (fun y hy=>hR y (by rw [zgq (.inl e)];exact hy)) (fun e2=>by omega),b,c⟩
 ·obtain ⟨a,b,c⟩:=K.p32 e
  have C:=W.c32 e
  exact ⟨a,b,c.mv Y.L Fx.mv hsub (.inl C.h) (fun h _=>C.v h) (fun e2=>by have:=C.k;omega)⟩
 ·obtain ⟨a,b,c,d⟩:=K.p34 e
  have C:=W.c34 e
  have hno:=hnot x.Bin (by rw [zcx (.inr e)];simp)
  exact ⟨a,b,c,d.mv Y.L Fx.mv hsub (.inr C.h) (fun _ e2=>by have:=C.k;omega) (fun _=>⟨C.x.1,C.x.2,by rw [c];exact hno⟩)⟩
 ·obtain ⟨a,b,c⟩:=K.p37 e
  obtain ⟨M,_,_⟩:=W.g (.inr e)
  exact ⟨a.other hp Y Fx M (fun y hy=>hR y (by rw [zgq (.inr e)];exact hy)) (fun e2=>by omega),b,c⟩
 ·unfold zZ
  congr 1
  by_cases e3:x.PC=33
  ·rw [zoK e3,zoK e3]
   have hb:=W.b33 e3
   have hno:=hnot x.Bin (by rw [zcx (.inl e3)];simp)
   unfold xt
   rw [Fx.bn x.Bin hb.1 hno]
  ·unfold zcA
   rw [if_neg e3,if_neg e3]
def zeR (p:zb) (nb k:Nat) (R:List Int) (gh:Gh) (s:za) (x:zc) (s':za) (x':zc):Prop :=
 ∃gh',SX p nb s' gh' (uu x'++R) (k+1)∧MX p s' gh' x'∧FX p nb (uu x) (fun _=>False) s s' gh gh' ∧
  ∃N B,List.Perm (yC p s' gh'++zZ s' x'++B) (N++(yC p s gh++zZ s x)) ∧
   ((N=[]∧B=[]∧s'.T=s.T)∨(N=[x.G.Obj]∧B=[]∧(x.PC=3∨x.PC=37)∧¬(s.T.Marks|||bit x.G.Obj=s.T.Marks)∧s'.T={s.T with Marks:=s.T.Marks|||bit x.G.Obj})∨(N=[]∧B=[x.Obj]∧x.PC=38∧s'.T=wx s.T x.Obj) ∨
    (N=[]∧B=[]∧x.PC=30∧YP s.H s.P.Most=true∧s'.H=xV s.H∧s'.T=YE s.T (wc (s.H.Objs.length+1))))
theorem zeR.quiet {p:zb} {nb k:Nat} {R:List Int} {gh:Gh} {s s':za} {x x':zc} (X:SX p nb s gh (uu x++R) k) (S':SOk p nb s') (hm:s'.M=s.M) (hb:s'.Bins=s.Bins) (hT:s'.T=s.T)
  (ho:uu x'=uu x) (hh:List.Perm (zZ s' x') (zZ s x)) (W':MX p s' gh x'):zeR p nb k R gh s x s' x' :=
 ⟨gh,by rw [ho];exact X.quiet S' hm,W',FX.quiet hm (fun _ _ _=>by rw [hb]),[],[],by rw [uR hb,List.append_nil];exact List.Perm.append_left _ hh,.inl ⟨rfl,rfl,hT⟩⟩
theorem zeR.calm {p:zb} {nb k:Nat} {R:List Int} {gh:Gh} {s s':za} {x x':zc} (X:SX p nb s gh (uu x++R) k) (S':SOk p nb s') (hm:s'.M=s.M) (hb:s'.Bins=s.Bins) (hT:s'.T=s.T)
  (h:x.PC≠3∧x.PC≠33∧x.PC≠34∧x.PC≠36∧x.PC≠37∧x.PC≠38) (h':x'.PC≠3∧x'.PC≠32∧x'.PC≠33∧x'.PC≠34∧x'.PC≠36∧x'.PC≠37∧x'.PC≠38) (eb:x'.Batch=x.Batch)
  (bt:x'.PC≤33→x'.Batch=[]) (bf: ∀v∈x'.Buf,1≤v∧v≤64) (ol:(x'.PC=21→0≤x'.Old∧x'.Old≤64)∧(x'.PC=22∨((x'.PC=1∨x'.PC=3)∧x'.Ret=22)→1≤x'.Old∧x'.Old≤64)):zeR p nb k R gh s x s' x':=by
 refine .quiet X S' hm hb hT ?_ ?_ (MX.plain (by omega) bt bf ol)
 ·rw [vQ (by omega),vQ (by omega)]
 ·unfold zZ
  rw [uE (by omega),uE (by omega),eb]
theorem zr2 {p:zb} {s:za} {gh:Gh} {md o w:Int} (hmd:md=2∨md=3) (ho:1≤o∧o≤64):GX p s gh (uZ md o w)∧(uZ md o w).Mode=md∧(uZ md o w).Out=0∧wm (uZ md o w)=[]∧yR (uZ md o w)=[]:=by
 refine ⟨GX.plain (.inl rfl) ⟨by show (0:Int)≤0;decide,by show (0:Int)≤7;decide⟩ ⟨by show 1≤md;omega,by show md≤3;omega⟩ ho (fun e=>by have e:md=1:=e;omega) (.inr ⟨by show (0:Int)≠3;decide,by show (0:Int)≠5;decide,by show (0:Int)≠7;decide⟩),rfl,rfl,
  vy (.inr ⟨by show (0:Int)≠6;decide,by show (0:Int)≠7;decide⟩),Zl (.inr (.inl (by show (0:Int)<3;decide)))⟩
theorem zCl {p:zb} (hp:zA p) {nb k:Nat} {R:List Int} {gh:Gh} {s:za} {m:Int} {x:zc} (hk:k<4294960000) (X:SX p nb s gh (uu x++R) k) (W:XOk p nb m x) (K:MX p s gh x) (hpl:((xk p m).length:Int)≤64)
  (hH: ∀o i,0≤zN s.H o i∧zN s.H o i≤64):zeR p nb k R gh s x (zg s m x).1 (zg s m x).2:=by
 have S':=(zyD hp hpl X.S W).1
 have hP:=X.S.P
 have eC:za9 s.P (zI s.P) x.Bin=za9 p (zI p) x.Bin:=by rw [hP]
 have hbf:=K.bf
 have hol:=K.ol
 revert S'
 refine yw (motive:=fun r=>SOk p nb r.1→zeR p nb k R gh s x r.1 r.2) s m x ?_ ?_ ?_ ?_ ?_ ?_ ?_ ?_ ?_ ?_ ?_ ?_ ?_ ?_ ?_ ?_ ?_ ?_ ?_ ?_
 ·intro c;unfold mu0 uY;dsimp only
  have hbt:=K.bt (by omega)
  repeat' split
  all_goals (intro S')
  all_goals (refine .calm X S' rfl rfl rfl (by omega) (by (try dsimp only [setM]);omega) rfl (fun _=>hbt) hbf ⟨fun e=> ?_,fun e=> ?_⟩<;>((try dsimp only [setM] at e);omega))
 ·intro c;unfold mu1;dsimp only
  have hbt:=K.bt (by omega)
  have hrt:=W.ret (.inl c)
  split
  ·intro S'
   exact .calm X S' rfl rfl rfl (by omega) (by dsimp only;omega) rfl (fun _=>hbt) hbf ⟨fun e=>by dsimp only at e;omega,fun e=>by dsimp only at e ⊢;exact hol.2 (by omega)⟩
  ·rename_i hl
   intro S'
   have hv:1≤x.Buf.getD (x.Buf.length-1) 0∧x.Buf.getD (x.Buf.length-1) 0≤64:=by
    rw [List.getD_eq_getElem?_getD,List.getElem?_eq_getElem (show x.Buf.length-1<x.Buf.length by omega)]
    exact hbf _ (List.getElem_mem _)
   obtain ⟨g1,g2,g3,g4,g5⟩:=zr2 (p:=p) (s:=s) (gh:=gh) (w:=m) (.inl rfl) hv
   refine .quiet X S' rfl rfl rfl ?_ ?_ ⟨fun _=>hbt,fun v hv=>hbf v (List.mem_of_mem_take hv),⟨fun e=>(by cases e),fun e=> ?_⟩,fun _=>⟨g1,g2,g3⟩,fun e=>(by cases e),fun e=>(by cases e),fun e=>(by cases e)⟩
   ·rw [vQ (x:=x) (by omega),zgq (.inl rfl)];exact g4
   ·unfold zZ
    rw [uE (x:=x) (by omega),zi5 rfl]
    show List.Perm (x.Batch++yR (uZ 2 (x.Buf.getD (x.Buf.length-1) 0) m)) _
    rw [g5]
   ·rcases e with e | e
    ·cases e
    ·exact hol.2 (.inr ⟨.inl c,e.2⟩)
 ·intro c S';unfold mu2 at S' ⊢
  exact .calm X S' rfl rfl rfl (by omega) (by dsimp only;omega) rfl (fun _=>K.bt (by omega)) hbf ⟨fun e=>by dsimp only at e;omega,fun e=>by dsimp only at e;omega⟩
 ·intro c;unfold mu3;dsimp only
  have hbt:=K.bt (by omega)
  obtain ⟨G,gm,g0⟩:=K.p3 c
  obtain ⟨M,h5o,hn1⟩:=W.g (.inl c)
  have eo:uu x=wm x.G:=zgq (.inl c)
  have hh:zZ s x=yR x.G:=by unfold zZ;rw [zi5 c,hbt,List.nil_append]
  rw [eo] at X
  obtain ⟨gh',X',G',Fx,hc',hFb,N,hN,hT⟩:=zx6 hp hk X M h5o G
  have so:=Vb s x.G
  have Fx':FX p nb (uu x) (fun _=>False) s (zm s x.G).1 gh gh':=by rw [eo];exact Fx.mono (fun v e=>by have:=e.1;omega)
  have hT':(N=[]∧([]:List Int)=[]∧(zm s x.G).1.T=s.T)∨(N=[x.G.Obj]∧([]:List Int)=[]∧(x.PC=3∨x.PC=37)∧¬(s.T.Marks|||bit x.G.Obj=s.T.Marks)∧(zm s x.G).1.T={s.T with Marks:=s.T.Marks|||bit x.G.Obj}):=by
   rcases hT with ⟨a,b⟩ | ⟨a,b,c'⟩
   ·exact .inl ⟨a,rfl,b⟩
   ·exact .inr ⟨a,rfl,.inl c,b,c'⟩
  split
  ·rename_i o1
   intro S'
   have n1:wm (zm s x.G).2=[]:=vy (.inl (by omega))
   have n2:yR (zm s x.G).2=[]:=Zl (.inl (by omega))
   rw [n1] at X'
   refine ⟨gh',by rw [vQ (by dsimp only;omega)];exact X',MX.plain (by dsimp only;omega) (fun _=>hbt) hbf ⟨fun e=>(by cases e),fun e=> ?_⟩,Fx',N,[],?_,hT'.elim .inl (fun h=> .inr (.inl h))⟩
   ·rcases e with e | e
    ·cases e
    ·exact hol.2 (.inr ⟨.inr c,e.2⟩)
   ·unfold zZ
    rw [uE (by dsimp only;omega),List.append_nil,List.append_nil]
    rw [n2,List.append_nil] at hN
    show List.Perm (yC p (zm s x.G).1 gh'++x.Batch) (N++(yC p s gh++(x.Batch++zcA s x)))
    rw [hbt,zi5 c,List.append_nil,List.nil_append]
    exact hN
  ·rename_i o1
   intro S'
   have o0:(zm s x.G).2.Out=0:=by have:=G'.o;omega
   refine ⟨gh',by rw [zgq (x:={x with G:=(zm s x.G).2}) (.inl c)];exact X',⟨fun _=>hbt,hbf,hol,fun _=>⟨G',so.2.2.trans gm,o0⟩,fun e=>by have e:x.PC=32:=e;omega,fun e=>by have e:x.PC=34:=e;omega,fun e=>by have e:x.PC=37:=e;omega⟩,Fx',N,[],?_,hT'.elim .inl (fun h=> .inr (.inl h))⟩
   unfold zZ
   rw [zi5 (x:={x with G:=(zm s x.G).2}) c,List.append_nil]
   show List.Perm (yC p (zm s x.G).1 gh'++(x.Batch++yR (zm s x.G).2)) (N++(yC p s gh++(x.Batch++zcA s x)))
   rw [hbt,zi5 c,List.nil_append,List.nil_append]
   exact hN
 ·intro c S';unfold zbH at S' ⊢
  exact .calm X S' rfl rfl rfl (by omega) (by dsimp only [setM];omega) rfl (fun _=>K.bt (by omega)) hbf ⟨fun e=>by dsimp only [setM] at e;omega,fun e=>by dsimp only [setM] at e;omega⟩
 ·intro c;unfold XK;dsimp only
  have hbt:=K.bt (by omega)
  split
  ·intro S'
   exact .calm X S' rfl rfl rfl (by omega) (by dsimp only [yP];omega) rfl (fun _=>hbt) hbf ⟨fun e=>by dsimp only [yP] at e;omega,fun e=>by dsimp only [yP] at e;omega⟩
  ·intro S'
   exact .calm X S' rfl rfl rfl (by omega) (by dsimp only;omega) rfl (fun _=>hbt) hbf ⟨fun _=>hH _ _,fun e=>by dsimp only at e;omega⟩
 ·intro c;unfold Xw;dsimp only
  have hbt:=K.bt (by omega)
  have h21:=hol.1 c
  split
  ·intro S'
   exact .calm X S' rfl rfl rfl (by omega) (by dsimp only;omega) rfl (fun _=>hbt) hbf ⟨fun e=>by dsimp only at e;omega,fun e=>by dsimp only at e;omega⟩
  ·rename_i hn
   intro S'
   have: ¬x.Old=0:=fun e=>hn (.inl e)
   exact .calm X S' rfl rfl rfl (by omega) (by dsimp only;omega) rfl (fun _=>hbt) hbf ⟨fun e=>by dsimp only at e;omega,fun e=>by dsimp only;omega⟩
 ·intro c;unfold Vi;dsimp only
  have hbt:=K.bt (by omega)
  have h22:=hol.2 (.inl c)
  split
  ·intro S'
   exact .calm X S' rfl rfl rfl (by omega) (by dsimp only;omega) rfl (fun _=>hbt) hbf ⟨fun e=>by dsimp only at e;omega,fun e=>h22⟩
  ·intro S'
   refine .calm X S' rfl rfl rfl (by omega) (by dsimp only;omega) rfl (fun _=>hbt) (fun v hv=> ?_) ⟨fun e=>by dsimp only at e;omega,fun e=>by dsimp only at e;omega⟩
   rcases List.mem_append.1 hv with h | h
   ·exact hbf v h
   ·rw [List.mem_singleton.1 h];exact h22
 ·intro c S';unfold zaR at S' ⊢
  exact .calm X S' rfl rfl rfl (by omega) (by dsimp only [yP];omega) rfl (fun _=>K.bt (by omega)) hbf ⟨fun e=>by dsimp only [yP] at e;omega,fun e=>by dsimp only [yP] at e;omega⟩
 ·intro c;unfold Z4
  have hbt:=K.bt (by omega)
  split
  ·split
   ·rename_i h1 h2
    intro S'
    refine ⟨gh,by rw [vQ (by dsimp only [setM];omega)];rw [vQ (x:=x) (by omega)] at X;exact X.quiet S' rfl,MX.plain (by dsimp only [setM];omega) (fun _=>hbt) hbf ⟨fun e=>by dsimp only [setM] at e;omega,fun e=>by dsimp only [setM] at e;omega⟩,FX.quiet rfl (fun _ _ _=>rfl),[],[],?_,.inr (.inr (.inr ⟨rfl,rfl,c,h2,rfl,rfl⟩))⟩
    rw [uR rfl,List.append_nil,List.nil_append]
    unfold zZ
    rw [uE (by dsimp only [setM];omega),uE (x:=x) (by omega)]
    exact List.Perm.refl _
   ·intro S'
    exact .calm X S' rfl rfl rfl (by omega) (by dsimp only [yP];omega) rfl (fun _=>hbt) hbf ⟨fun e=>by dsimp only [yP] at e;omega,fun e=>by dsimp only [yP] at e;omega⟩
  ·intro S'
   exact .calm X S' rfl rfl rfl (by omega) (by dsimp only;omega) rfl (fun _=>hbt) hbf ⟨fun e=>by dsimp only at e;omega,fun e=>by dsimp only at e;omega⟩
 ·intro c;unfold WR;dsimp only
  have hbt:=K.bt (by omega)
  split
  ·intro S'
   refine .quiet X S' rfl rfl rfl (by rw [vQ (by dsimp only;omega),vQ (x:=x) (by omega)]) ?_ ⟨fun _=>hbt,hbf,⟨fun e=>by dsimp only at e;omega,fun e=>by dsimp only at e;omega⟩,fun e=>by dsimp only at e;omega,fun _=>⟨rfl,⟨by show (0:Int)≤0;decide,by show (0:Int)≤2;decide⟩,by show CK p s.M (zx2 s.P (yh s.P) x.Bin);rw [hP];exact CK.start⟩,fun e=>by dsimp only at e;omega,fun e=>by dsimp only at e;omega⟩
   unfold zZ
   rw [uE (by dsimp only;omega),uE (x:=x) (by omega)]
  ·intro S'
   exact .calm X S' rfl rfl rfl (by omega) (by dsimp only;omega) rfl (fun _=>hbt) hbf ⟨fun e=>by dsimp only at e;omega,fun e=>by dsimp only at e;omega⟩
 ·intro c;unfold WD;dsimp only
  have C:=W.c32 c
  obtain ⟨c1,c2,c3⟩:=K.p32 c
  have hbt:=K.bt (by omega)
  have eo:uu x=[]:=vQ (by omega)
  have hh:zZ s x=[]:=by unfold zZ;rw [hbt,uE (by omega)];rfl
  have nn: ∀e:x.PC=21,False:=fun e=>by omega
  intro S'
  have S':SOk p nb {s with M:=(zn s.M x.C).1}:=S'
  rcases SX.popF hp X hk C.k C.h C.n c1 c2 c3 C.v S' with ⟨a,b,cc,d⟩ | ⟨y,l,a,b,cc,d,e⟩
  ·rw [if_neg b]
   have hout:=zbs s.M c1 c2 (.inr C.k)
   by_cases o2:(zn s.M x.C).2.Out=2
   ·rw [if_pos o2]
    exact .calm X S' a rfl rfl (by omega) (by dsimp only;omega) rfl (fun _=>hbt) hbf ⟨fun e=>by dsimp only at e;omega,fun e=>by dsimp only at e;omega⟩
   ·rw [if_neg o2]
    have hpc':(zn s.M x.C).2.Out=0∧0≤(zn s.M x.C).2.PC∧(zn s.M x.C).2.PC≤2:=by omega
    refine .quiet X S' a rfl rfl ?_ ?_ ⟨fun _=>hbt,hbf,hol,fun e=>by have e:x.PC=3:=e;omega,fun _=>⟨hpc'.1,hpc'.2,?_⟩,fun e=>by have e:x.PC=34:=e;omega,fun e=>by have e:x.PC=37:=e;omega⟩
    ·rw [eo];exact vQ (by dsimp only;omega)
    ·unfold zZ
     rw [uE (by dsimp only;omega),uE (x:=x) (by omega)]
    ·rw [show ({s with M:=(zn s.M x.C).1}:za).M=s.M from a];exact cc
  ·rw [if_pos b]
   have e1:uu {x with PC:=33,Bin:=(zn s.M x.C).2.X,C:=(zn s.M x.C).2}=[y]:=by rw [←cc];exact zcx (x:={x with PC:=33,Bin:=(zn s.M x.C).2.X,C:=(zn s.M x.C).2}) (.inl rfl)
   refine ⟨{gh with F:=l},by rw [e1];rw [eo] at d;exact d,MX.plain (by dsimp only;omega) (fun _=>hbt) hbf ⟨fun e=>by dsimp only at e;omega,fun e=>by dsimp only at e;omega⟩,e _ _,[],[],?_,.inl ⟨rfl,rfl,rfl⟩⟩
   rw [hh,List.append_nil,List.append_nil,List.nil_append]
   unfold zZ
   rw [zoK (x:={x with PC:=33,Bin:=(zn s.M x.C).2.X,C:=(zn s.M x.C).2}) rfl]
   show List.Perm (yC p s {gh with F:=l}++(x.Batch++xt s (zn s.M x.C).2.X)) _
   rw [hbt,List.nil_append,cc]
   have:yC p s gh=xt s y++yC p s {gh with F:=l}:=by unfold yC;rw [a];simp [List.append_assoc]
   rw [this]
   exact List.perm_append_comm
 ·intro c;unfold zbO;dsimp only
  intro S'
  have hb:=W.b33 c
  have hbt:=K.bt (by omega)
  have eo:uu x=[x.Bin]:=zcx (.inl c)
  rw [eC] at *
  have e1:uu {x with Batch:=W5 s x.Bin,PC:=34,C:=za9 p (zI p) x.Bin}=[x.Bin]:=zcx (x:={x with Batch:=W5 s x.Bin,PC:=34,C:=za9 p (zI p) x.Bin}) (.inr rfl)
  have hget: ∀b,1≤b→b∉uu x→(s.Bins.set x.Bin.toNat [])[b.toNat]? =s.Bins[b.toNat]? :=fun b b1 b2=>by
   rw [List.getElem?_set_ne]
   intro e
   rw [eo] at b2
   exact b2 (by rw [show b=x.Bin by omega];simp)
  refine ⟨gh,by rw [e1,←eo];exact X.quiet S' rfl,⟨fun e=>absurd e (by show ¬(34:Int)≤33;decide),hbf,⟨fun e=>by dsimp only at e;omega,fun e=>by dsimp only at e;omega⟩,fun e=>by dsimp only at e;omega,fun e=>by dsimp only at e;omega,fun _=>⟨rfl,⟨by show (0:Int)≤0;decide,by show (0:Int)≤2;decide⟩,rfl,CK.start⟩,fun e=>by dsimp only at e;omega⟩,FX.quiet rfl hget,[],[],?_,.inl ⟨rfl,rfl,rfl⟩⟩
  have hbag:yC p {s with Bins:=s.Bins.set x.Bin.toNat []} gh=yC p s gh:=by
   unfold yC
   congr 1
   refine xP (fun b hb=> ?_)
   have hm:=X.L.cF.mem b hb
   have hno:=(X.L.notF (x:=x.Bin) (by rw [eo];simp)).1
   unfold xt
   rw [show ({s with Bins:=s.Bins.set x.Bin.toNat []}:za).Bins=s.Bins.set x.Bin.toNat [] from rfl,hget b hm.1 (by rw [eo];intro e;rw [List.mem_singleton.1 e] at hb;exact hno hb)]
  rw [hbag,List.append_nil,List.nil_append]
  unfold zZ
  rw [zoK c,uE (x:={x with Batch:=W5 s x.Bin,PC:=34,C:=za9 p (zI p) x.Bin}) (by dsimp only;omega)]
  show List.Perm (yC p s gh++(W5 s x.Bin++[])) _
  rw [hbt,List.append_nil,List.nil_append,zuP]
 ·intro c;unfold WN;dsimp only
  intro S'
  have S':SOk p nb {s with M:=(zn s.M x.C).1}:=S'
  have C:=W.c34 c
  obtain ⟨c1,c2,c3,c4⟩:=K.p34 c
  have eo:uu x=[x.Bin]:=zcx (.inr c)
  have hh:zZ s x=x.Batch:=by unfold zZ;rw [uE (by omega),List.append_nil]
  rw [eo] at X
  rcases SX.pushE hp (o1:=[]) (o2:=R) (b:=x.Bin) X hk C.k C.h C.n c3 c1 c2 c4 C.v S' with ⟨a,b,cc,d⟩ | ⟨a,b,d⟩
  ·rw [a,if_neg (by decide)]
   have hout:=zbs s.M c1 c2 (.inl C.k)
   have hsame:=zkS s.M x.C
   have hpc':0≤(zn s.M x.C).2.PC∧(zn s.M x.C).2.PC≤2:=by omega
   have e1:uu {x with C:=(zn s.M x.C).2}=[x.Bin]:=zcx (x:={x with C:=(zn s.M x.C).2}) (.inr c)
   refine ⟨gh,by rw [e1];exact b,⟨fun e=>by have e:x.PC≤33:=e;omega,hbf,hol,fun e=>by have e:x.PC=3:=e;omega,fun e=>by have e:x.PC=32:=e;omega,fun _=>⟨a,hpc',(hsame.2.2.2 C.k).trans c3,cc⟩,fun e=>by have e:x.PC=37:=e;omega⟩,by rw [eo];exact d _ _ (by simp),[],[],?_,.inl ⟨rfl,rfl,rfl⟩⟩
   rw [uR rfl,hh,List.append_nil]
   unfold zZ
   rw [uE (x:={x with C:=(zn s.M x.C).2}) (by dsimp only;omega),List.append_nil]
   exact List.Perm.refl _
  ·rw [a,if_pos rfl]
   refine ⟨{gh with E:=x.Bin::gh.E},by rw [vQ (by dsimp only;omega)];exact b,MX.plain (by dsimp only;omega) (fun e=>absurd e (by show ¬(35:Int)≤33;decide)) hbf ⟨fun e=>by dsimp only at e;omega,fun e=>by dsimp only at e;omega⟩,by rw [eo];exact d _ _,[],[],?_,.inl ⟨rfl,rfl,rfl⟩⟩
   rw [hh,List.append_nil]
   unfold zZ
   rw [uE (by dsimp only;omega),List.append_nil]
   exact List.Perm.refl _
 ·intro c;unfold WK;dsimp only
  split
  ·rename_i hb
   intro S'
   exact .calm X S' rfl rfl rfl (by omega) (by dsimp only;omega) rfl (fun _=>hb) hbf ⟨fun e=>by dsimp only at e;omega,fun e=>by dsimp only at e;omega⟩
  ·rename_i o l hb
   intro S'
   refine .quiet X S' rfl rfl rfl (by rw [vQ (by dsimp only;omega),vQ (x:=x) (by omega)]) ?_ (MX.plain (by dsimp only;omega) (fun e=>absurd e (by show ¬(36:Int)≤33;decide)) hbf ⟨fun e=>by dsimp only at e;omega,fun e=>by dsimp only at e;omega⟩)
   unfold zZ
   rw [XX (.inl rfl),uE (x:=x) (by omega),hb,List.append_nil]
   exact List.perm_append_comm
 ·intro c;unfold Ud;dsimp only
  have hv:=hH x.Obj x.Slot
  have eo:uu x=[]:=vQ (by omega)
  split
  ·rcases Zr s (wc (x.Slot+1)) with e | e<;>rw [e]<;>intro S'
   ·refine .quiet X S' rfl rfl rfl (by rw [eo,vQ (by dsimp only;omega)]) ?_ (MX.plain (by dsimp only;omega) (fun e=>absurd e (by show ¬(36:Int)≤33;decide)) hbf ⟨fun e=>by dsimp only at e;omega,fun e=>by dsimp only at e;omega⟩)
    unfold zZ
    rw [XX (.inl c),XX (.inl rfl)]
   ·refine .quiet X S' rfl rfl rfl (by rw [eo,vQ (by dsimp only;omega)]) ?_ (MX.plain (by dsimp only;omega) (fun e=>absurd e (by show ¬(38:Int)≤33;decide)) hbf ⟨fun e=>by dsimp only at e;omega,fun e=>by dsimp only at e;omega⟩)
    unfold zZ
    rw [XX (.inl c),XX (.inr rfl)]
  ·rename_i hne
   intro S'
   obtain ⟨g1,g2,g3,g4,g5⟩:=zr2 (p:=p) (s:=s) (gh:=gh) (w:=m) (.inr rfl) (show 1≤zN s.H x.Obj x.Slot∧zN s.H x.Obj x.Slot≤64 by omega)
   refine .quiet X S' rfl rfl rfl ?_ ?_ ⟨fun e=>absurd e (by show ¬(37:Int)≤33;decide),hbf,⟨fun e=>by dsimp only at e;omega,fun e=>by dsimp only at e;omega⟩,fun e=>by dsimp only at e;omega,fun e=>by dsimp only at e;omega,fun e=>by dsimp only at e;omega,fun _=>⟨g1,g2,g3⟩⟩
   ·rw [eo,zgq (.inr rfl)];exact g4
   ·unfold zZ
    rw [XX (.inl c),zlJ rfl]
    show List.Perm (x.Batch++x.Obj::yR (uZ 3 (zN s.H x.Obj x.Slot) m)) _
    rw [g5]
 ·intro c;unfold Y5;dsimp only
  obtain ⟨G,gm,g0⟩:=K.p37 c
  obtain ⟨M,h5o,hn1⟩:=W.g (.inr c)
  have eo:uu x=wm x.G:=zgq (.inr c)
  have hh:zZ s x=x.Batch++x.Obj::yR x.G:=by unfold zZ;rw [zlJ c]
  rw [eo] at X
  obtain ⟨gh',X',G',Fx,hc',hFb,N,hN,hT⟩:=zx6 hp hk X M h5o G
  have so:=Vb s x.G
  have Fx':FX p nb (uu x) (fun _=>False) s (zm s x.G).1 gh gh':=by rw [eo];exact Fx.mono (fun v e=>by have:=e.1;omega)
  have hT':(N=[]∧([]:List Int)=[]∧(zm s x.G).1.T=s.T)∨(N=[x.G.Obj]∧([]:List Int)=[]∧(x.PC=3∨x.PC=37)∧¬(s.T.Marks|||bit x.G.Obj=s.T.Marks)∧(zm s x.G).1.T={s.T with Marks:=s.T.Marks|||bit x.G.Obj}):=by
   rcases hT with ⟨a,b⟩ | ⟨a,b,c'⟩
   ·exact .inl ⟨a,rfl,b⟩
   ·exact .inr ⟨a,rfl,.inr c,b,c'⟩
  have perm: ∀H':List Int,H'=x.Batch++x.Obj::yR (zm s x.G).2→List.Perm (yC p (zm s x.G).1 gh'++H'++[]) (N++(yC p s gh++zZ s x)):=by
   intro H' e
   rw [e,hh,List.append_nil]
   have a1:List.Perm (yC p (zm s x.G).1 gh'++(x.Batch++x.Obj::yR (zm s x.G).2)) ((x.Batch++[x.Obj])++(yC p (zm s x.G).1 gh'++yR (zm s x.G).2)):=by
    rw [show x.Batch++x.Obj::yR (zm s x.G).2=(x.Batch++[x.Obj])++yR (zm s x.G).2 by simp]
    exact List.perm_append_comm_assoc _ _ _
   have a2:List.Perm (N++(yC p s gh++(x.Batch++x.Obj::yR x.G))) ((x.Batch++[x.Obj])++(N++(yC p s gh++yR x.G))):=by
    rw [show x.Batch++x.Obj::yR x.G=(x.Batch++[x.Obj])++yR x.G by simp]
    exact (List.Perm.append_left N (List.perm_append_comm_assoc _ _ _)).trans (List.perm_append_comm_assoc _ _ _)
   exact a1.trans ((List.Perm.append_left _ hN).trans a2.symm)
  split
  ·rename_i o1
   intro S'
   have n1:wm (zm s x.G).2=[]:=vy (.inl (by omega))
   have n2:yR (zm s x.G).2=[]:=Zl (.inl (by omega))
   rw [n1] at X'
   rcases Zr s x.Slot with e | e<;>rw [e]
   ·refine ⟨gh',by rw [vQ (by dsimp only;omega)];exact X',MX.plain (by dsimp only;omega) (fun e=>absurd e (by show ¬(36:Int)≤33;decide)) hbf ⟨fun e=>by dsimp only at e;omega,fun e=>by dsimp only at e;omega⟩,Fx',N,[],perm _ ?_,hT'.elim .inl (fun h=> .inr (.inl h))⟩
    unfold zZ;rw [XX (.inl rfl),n2]
   ·refine ⟨gh',by rw [vQ (by dsimp only;omega)];exact X',MX.plain (by dsimp only;omega) (fun e=>absurd e (by show ¬(38:Int)≤33;decide)) hbf ⟨fun e=>by dsimp only at e;omega,fun e=>by dsimp only at e;omega⟩,Fx',N,[],perm _ ?_,hT'.elim .inl (fun h=> .inr (.inl h))⟩
    unfold zZ;rw [XX (.inr rfl),n2]
  ·rename_i o1
   intro S'
   have o0:(zm s x.G).2.Out=0:=by have:=G'.o;omega
   refine ⟨gh',by rw [zgq (x:={x with G:=(zm s x.G).2}) (.inr c)];exact X',⟨fun e=>by have e:x.PC≤33:=e;omega,hbf,hol,fun e=>by have e:x.PC=3:=e;omega,fun e=>by have e:x.PC=32:=e;omega,fun e=>by have e:x.PC=34:=e;omega,fun _=>⟨G',so.2.2.trans gm,o0⟩⟩,Fx',N,[],perm _ ?_,hT'.elim .inl (fun h=> .inr (.inl h))⟩
   unfold zZ;rw [zlJ (x:={x with G:=(zm s x.G).2}) c]
 ·intro c S';unfold zcF at S' ⊢
  have eo:uu x=[]:=vQ (by omega)
  refine ⟨gh,by rw [vQ (by dsimp only;omega)];rw [eo] at X;exact X.quiet S' rfl,MX.plain (by dsimp only;omega) (fun e=>absurd e (by show ¬(39:Int)≤33;decide)) hbf ⟨fun e=>by dsimp only at e;omega,fun e=>by dsimp only at e;omega⟩,FX.quiet rfl (fun _ _ _=>rfl),[],[x.Obj],?_,.inr (.inr (.inl ⟨rfl,rfl,c,rfl⟩))⟩
  rw [uR rfl,List.nil_append]
  unfold zZ
  rw [XX (.inr c),uE (by dsimp only;omega),List.append_nil,List.append_assoc]
  exact List.Perm.refl _
 ·intro c S';unfold zd9 at S' ⊢
  exact .calm X S' rfl rfl rfl (by omega) (by dsimp only;omega) rfl (fun e=>absurd e (by show ¬(35:Int)≤33;decide)) hbf ⟨fun e=>by dsimp only at e;omega,fun e=>by dsimp only at e;omega⟩
 ·intro S'
  exact ⟨gh,X.quiet S' rfl,K,FX.quiet rfl (fun _ _ _=>rfl),[],[],by rw [List.append_nil];exact List.Perm.refl _,.inl ⟨rfl,rfl,rfl⟩⟩
end
end Go.Pe.G
namespace Go.Pe.G
open Go.Pe
noncomputable section
theorem zsR {o:Int} (h:1≤o∧o≤64) (j:Nat):(bit o).getLsbD j=decide ((o-1).toNat=j):=by
 unfold bit
 rw [if_pos h,←BitVec.twoPow_eq,BitVec.getLsbD_twoPow,decide_eq_true (by omega:(o-1).toNat<64),Bool.true_and]
theorem un (s:BitVec 64) (o:Int):zL s o=true↔1≤o∧o≤64∧s.getLsbD (o-1).toNat=true:=by
 unfold zL
 rw [Bool.not_eq_true',decide_eq_false_iff_not]
 by_cases h:1≤o∧o≤64
 ·constructor
  ·intro h1
   refine ⟨h.1,h.2,Classical.byContradiction (fun h2=>h1 ?_)⟩
   apply BitVec.eq_of_getLsbD_eq
   intro j hj
   rw [BitVec.getLsbD_and,zsR h,BitVec.getLsbD_zero]
   by_cases e:(o-1).toNat=j
   ·rw [←e];simp only [Bool.not_eq_true] at h2;rw [h2];rfl
   ·rw [decide_eq_false e,Bool.and_false]
  ·rintro ⟨_,_,h1⟩ h2
   have:=congrArg (fun v=>BitVec.getLsbD v (o-1).toNat) h2
   simp only [BitVec.getLsbD_and,zsR h,h1,BitVec.getLsbD_zero] at this
   simp at this
 ·constructor
  ·intro h1
   exact absurd (by unfold bit;rw [if_neg h,BitVec.and_zero]) h1
  ·rintro ⟨a,b,_⟩;exact absurd ⟨a,b⟩ h
theorem wE (s:BitVec 64) {o:Int} (h:1≤o∧o≤64) (q:Int):zL (s|||bit o) q=true↔zL s q=true∨q=o:=by
 rw [un,un,BitVec.getLsbD_or,zsR h]
 simp only [Bool.or_eq_true,decide_eq_true_eq]
 constructor
 ·rintro ⟨a,b,c | c⟩
  ·exact .inl ⟨a,b,c⟩
  ·exact .inr (by omega)
 ·rintro (⟨a,b,c⟩ | rfl)
  ·exact ⟨a,b,.inl c⟩
  ·exact ⟨h.1,h.2,.inr rfl⟩
theorem zcv (s t:BitVec 64) (q:Int):zL (s&&&t) q=true↔zL s q=true∧zL t q=true:=by
 rw [un,un,un,BitVec.getLsbD_and]
 simp only [Bool.and_eq_true]
 constructor
 ·rintro ⟨a,b,c,d⟩;exact ⟨⟨a,b,c⟩,a,b,d⟩
 ·rintro ⟨⟨a,b,c⟩,_,_,d⟩;exact ⟨a,b,c,d⟩
theorem zaY (q:Int): ¬zL 0#64 q=true:=by
 rw [un,BitVec.getLsbD_zero];exact fun h=>by cases h.2.2
theorem zBj {s t:BitVec 64} (h: ∀o,zL s o=true↔zL t o=true):s=t:=by
 apply BitVec.eq_of_getLsbD_eq
 intro j hj
 have:=h ((j:Int)+1)
 rw [un,un,show ((j:Int)+1-1).toNat=j by omega] at this
 rw [Bool.eq_iff_iff]
 exact ⟨fun e=>(this.1 ⟨by omega,by omega,e⟩).2.2,fun e=>(this.2 ⟨by omega,by omega,e⟩).2.2⟩
theorem za7 {m:BitVec 64} {o:Int} (h:1≤o∧o≤64): ¬(m|||bit o=m)↔¬zL m o=true:=by
 constructor
 ·intro h1 h2
  refine h1 (zBj (fun q=> ?_))
  rw [wE _ h]
  exact ⟨fun e=>e.elim id (fun e=>by rw [e];exact h2),.inl⟩
 ·intro h1 h2
  refine h1 ?_
  rw [←h2,wE _ h];exact .inr rfl
theorem u7 (t:zt) (o:Int):yE t o=1↔zL t.Marks o=true∧¬zL t.Black o=true:=by
 unfold yE
 by_cases h1:zL (t.Marks&&&t.Black) o=true
 ·rw [if_pos h1]
  rw [zcv] at h1
  exact ⟨fun e=>(by cases e),fun e=>absurd h1.2 e.2⟩
 ·rw [if_neg h1]
  rw [zcv] at h1
  by_cases h2:zL t.Marks o=true
  ·rw [if_pos h2];exact ⟨fun _=>⟨h2,fun e=>h1 ⟨h2,e⟩⟩,fun _=>rfl⟩
  ·rw [if_neg h2];exact ⟨fun e=>(by cases e),fun e=>absurd e.1 h2⟩
end
end Go.Pe.G
namespace Go.Pe.G
open Go.Pe
noncomputable section
theorem zpB {α:Type} {l:List α} {i:Nat} {x:α} (h:l[i]? =some x): ∃a b,l=a++x::b∧(∀y,l.set i y=a++y::b)∧(∀z∈a++b,∃j,j≠i∧l[j]? =some z) ∧
  (∀j z,j≠i→l[j]? =some z→z∈a++b):=by
 obtain ⟨hi,e⟩:=List.getElem?_eq_some_iff.1 h
 have hl:(l.take i).length=i:=by rw [List.length_take];omega
 have el:l=l.take i++x::l.drop (i+1):=by
  conv=>lhs;rw [←List.take_append_drop i l,List.drop_eq_getElem_cons hi,e]
 refine ⟨l.take i,l.drop (i+1),el,fun y=> ?_,fun z hz=> ?_,fun j z hj hz=> ?_⟩
 ·rw [List.set_eq_take_append_cons_drop,if_pos hi]
 ·rcases List.mem_append.1 hz with hz | hz
  ·obtain ⟨j,hj⟩:=List.mem_iff_getElem?.1 hz
   obtain ⟨hj1,hj2⟩:=List.getElem?_eq_some_iff.1 hj
   have hj3:j<i:=by omega
   exact ⟨j,by omega,by rw [List.getElem?_take_of_lt hj3] at hj;exact hj⟩
  ·obtain ⟨j,hj⟩:=List.mem_iff_getElem?.1 hz
   exact ⟨i+1+j,by omega,by rw [List.getElem?_drop] at hj;exact hj⟩
 ·rw [el] at hz
  rcases Nat.lt_or_ge j i with h1 | h1
  ·rw [List.getElem?_append_left (by omega)] at hz
   exact List.mem_append_left _ (List.mem_of_getElem? hz)
  ·rw [List.getElem?_append_right (by omega),hl] at hz
   rw [show j-i=(j-i-1)+1 by omega,List.getElem?_cons_succ] at hz
   exact List.mem_append_right _ (List.mem_of_getElem? hz)
theorem u6 {α β:Type} {f:α→List β} {a b:List α} {x:α}:List.Perm ((a++x::b).flatMap f) (f x++(a++b).flatMap f):=by
 rw [List.flatMap_append,List.flatMap_cons,List.flatMap_append]
 exact List.perm_append_comm_assoc _ _ _
theorem SX.perm {p:zb} {nb k:Nat} {s:za} {g:Gh} {o o':List Int} (X:SX p nb s g o k) (h:List.Perm o' o):SX p nb s g o' k :=
 ⟨X.S,⟨X.L.hs,X.L.cF,X.L.cE,(List.Perm.append_left _ h).trans X.L.all,X.L.len⟩,X.D,X.v,X.dk⟩
theorem SX.state {p:zb} {nb k:Nat} {s s':za} {g:Gh} {o:List Int} (X:SX p nb s g o k) (S':SOk p nb s') (hm:s'.M=s.M):SX p nb s' g o k :=
 ⟨S',by rw [hm];exact X.L,by rw [hm];exact X.D,by rw [hm];exact X.v,X.dk⟩
theorem GX.state {p:zb} {s s':za} {gh:Gh} {g:zC} (G:GX p s gh g) (hm:s'.M=s.M) (hb:s'.Bins=s.Bins):GX p s' gh g :=
 ⟨G.o,G.pc,G.md,G.ob,G.c0,by rw [hm];exact G.c5,by rw [hm,hb];exact G.c7,by rw [hm];exact G.d3⟩
theorem WX.state {p:zb} {s s':za} {gh:Gh} {w:Int} {x:ze} (W:WX p s gh w x) (hm:s'.M=s.M) (hb:s'.Bins=s.Bins):WX p s' gh w x :=
 ⟨W.c0,W.bt,by rw [hm];exact W.p0,by rw [hm];exact W.p1,by rw [hm];exact W.p2,by rw [hm];exact W.p4,fun e=>⟨(W.p6 e).1.state hm hb,(W.p6 e).2⟩⟩
theorem zca {s s':za} {x:ze} (hm:s'.M=s.M) (hb:s'.Bins=s.Bins):zP s' x=zP s x:=by
 unfold zP zaq xt;rw [hm,hb]
def zno (p:zb) (s:za) (g:Gh):List Int:=yC p s g++s.Ws.flatMap (zP s)
structure zaB (B:List Int) (t:zt):Prop where
 blk: ∀o,zL t.Black o=true→zL t.Marks o=true
 nd:B.Nodup
 gr: ∀o,o∈B↔yE t o=1
theorem zhC {t:zt} {o:Int} (h:yE t o=1):1≤o∧o≤64:=by
 have:=(un _ _).1 ((u7 t o).1 h).1
 exact ⟨this.1,this.2.1⟩
theorem zaB.more {B B':List Int} {t:zt} {o:Int} (K:zaB B t) (ho:1≤o∧o≤64) (hn: ¬(t.Marks|||bit o=t.Marks)) (h:List.Perm B' (o::B)):zaB B' {t with Marks:=t.Marks|||bit o}:=by
 have hn:=(za7 ho).1 hn
 have hnb: ¬zL t.Black o=true:=fun e=>hn (K.blk o e)
 have hno:o∉B:=fun e=>hn ((u7 t o).1 ((K.gr o).1 e)).1
 refine ⟨fun q hq=>(wE _ ho q).2 (.inl (K.blk q hq)),h.nodup_iff.2 (List.nodup_cons.2 ⟨hno,K.nd⟩),fun q=> ?_⟩
 rw [h.mem_iff,List.mem_cons,K.gr,u7,u7]
 show q=o∨_↔zL (t.Marks|||bit o) q=true∧¬zL t.Black q=true
 rw [wE _ ho]
 constructor
 ·rintro (rfl | ⟨a,b⟩)
  ·exact ⟨.inr rfl,hnb⟩
  ·exact ⟨.inl a,b⟩
 ·rintro ⟨a | a,b⟩
  ·exact .inr ⟨a,b⟩
  ·exact .inl a
theorem zaB.less {B B':List Int} {t:zt} {o:Int} (K:zaB B t) (h:List.Perm (B'++[o]) B):zaB B' (wx t o)∧(wx t o).Marks=t.Marks∧yE t o=1∧∀q,zL (wx t o).Black q=true↔zL t.Black q=true∨q=o:=by
 have ho:yE t o=1:=(K.gr o).1 (h.mem_iff.1 (by simp))
 have hr:=zhC ho
 have hm:=((u7 t o).1 ho)
 have hnd:=h.nodup_iff.2 K.nd
 have hnd:=List.nodup_append.1 hnd
 unfold wx
 rw [if_pos ho]
 refine ⟨⟨fun q hq=> ?_,hnd.1,fun q=> ?_⟩,rfl,ho,fun q=>wE _ hr q⟩
 ·rcases (wE _ hr q).1 hq with e | e
  ·exact K.blk q e
  ·rw [e];exact hm.1
 ·have e1:q∈B↔q∈B'∨q=o:=by rw [←h.mem_iff,List.mem_append,List.mem_singleton]
  rw [K.gr,u7] at e1
  rw [u7]
  show _↔zL t.Marks q=true∧¬zL (t.Black|||bit o) q=true
  rw [wE _ hr]
  constructor
  ·intro hq
   have:=e1.2 (.inl hq)
   exact ⟨this.1,fun e=>e.elim this.2 (fun e=>hnd.2.2 q hq o (by simp) e)⟩
  ·rintro ⟨a,b⟩
   rcases e1.1 ⟨a,fun e=>b (.inl e)⟩ with e | e
   ·exact e
   ·exact absurd (.inr e) b
theorem HOk.get {p:zb} (hp:zA p) {h:zy} (H:HOk p h) (o i:Int):0≤zN h o i∧zN h o i≤64:=by
 have h1:=H.n
 have h2:p.Most≤64:=by have:=hp.most;have:=hp.n;omega
 unfold zN
 split
 ·unfold zW
  rw [List.getD_eq_getElem?_getD,List.getD_eq_getElem?_getD]
  cases hx:h.Objs[(o-1).toNat]? with
  | none=>show 0≤(([]:List Int)[i.toNat]?).getD 0∧_;simp
  | some l =>
   show 0≤(l[i.toNat]?).getD 0∧(l[i.toNat]?).getD 0≤64
   cases hv:l[i.toNat]? with
   | none=>show (0:Int)≤0∧(0:Int)≤64;decide
   | some v =>
    have:=(H.objs l (List.mem_of_getElem? hx)).2 v (List.mem_of_getElem? hv)
    show 0≤v∧v≤64;omega
 ·exact ⟨by decide,by decide⟩
structure WG (p:zb) (nb k:Nat) (s:za) (gh:Gh):Prop where
 E:EOk p nb s
 X:SX p nb s gh (s.Ws.flatMap wu) k
 W: ∀(i:Nat) x,s.Ws[i]? =some x→WX p s gh ((i:Int)+1) x
 B:zaB (zno p s gh) s.T
def zCv (s s':za) (w:Int):Prop :=
 s'.T=s.T∨(∃x o,s.Ws[(w-1).toNat]? =some x∧x.PC=6∧o=x.G.Obj∧(1≤o∧o≤64)∧¬zL s.T.Marks o=true∧s'.T={s.T with Marks:=s.T.Marks|||bit o}) ∨
  (∃x,s.Ws[(w-1).toNat]? =some x∧x.PC=8∧yE s.T x.Obj=1∧s'.T={s.T with Black:=s.T.Black|||bit x.Obj})
theorem WG.step {p:zb} (hp:zA p) {nb k:Nat} {s:za} {gh:Gh} (hk:k<4294960000) (G:WG p nb k s gh) {w:Int} (hw:1≤w∧w≤p.Workers) (hd:s.Done=false): ∃gh',WG p nb (k+1) (zE s w) gh'∧zCv s (zE s w) w:=by
 have hE:=zuO hp G.E w
 have hwl:=G.E.wl
 have e0: ¬(s.Done=true∨w<1∨(s.Ws.length:Int)<w):=by rw [hd];rintro (e | e | e)<;>first | cases e | omega
 revert hE
 unfold zE
 rw [if_neg e0]
 have hi:(w-1).toNat<s.Ws.length:=by omega
 have hx:=List.getElem?_eq_getElem hi
 generalize s.Ws[(w-1).toNat]=x at hx
 rw [hx]
 dsimp only
 intro hE
 obtain ⟨a,b,el,es,hab,hba⟩:=zpB hx
 have ei:(((w-1).toNat:Nat):Int)+1=w:=by omega
 have hWX:=G.W _ x hx
 have hWO:=G.E.W _ x hx
 rw [ei] at hWX hWO
 have X0:SX p nb s gh (wu x++(a++b).flatMap wu) k:=G.X.perm (by rw [el];exact u6.symm)
 obtain ⟨gh',X',W',Fx,N,C,hN,hT⟩:=zAI hp hk hw X0 hWO hWX (fun o i=>G.E.H.get hp o i)
 have hoth: ∀(j:Nat) y,j≠(w-1).toNat→s.Ws[j]? =some y→WX p (zj s w x).1 gh' ((j:Int)+1) y∧zP (zj s w x).1 y=zP s y:=by
  intro j y hj hy
  have hjl:=(List.getElem?_eq_some_iff.1 hy).1
  exact WX.other hp (w:=(j:Int)+1) (by omega) X0 Fx (G.W j y hy) (G.E.W j y hy) (fun z hz=>List.mem_flatMap.2 ⟨y,hba j y hj hy,hz⟩) (fun e=>hj (by omega))
 have hbag:List.Perm (zno p {(zj s w x).1 with Ws:=s.Ws.set (w-1).toNat (zj s w x).2} gh'++C) (N++zno p s gh):=by
  unfold zno
  have q1:yC p {(zj s w x).1 with Ws:=s.Ws.set (w-1).toNat (zj s w x).2} gh'=yC p (zj s w x).1 gh':=rfl
  have q2:(s.Ws.set (w-1).toNat (zj s w x).2).flatMap (zP {(zj s w x).1 with Ws:=s.Ws.set (w-1).toNat (zj s w x).2})=(a++(zj s w x).2::b).flatMap (zP (zj s w x).1):=by
   rw [es];exact xP (fun y _=>zca rfl rfl)
  have q3:(a++b).flatMap (zP (zj s w x).1)=(a++b).flatMap (zP s):=xP (fun y hy=>by
   obtain ⟨j,hj,hjy⟩:=hab y hy
   exact (hoth j y hj hjy).2)
  rw [q1]
  show List.Perm (yC p (zj s w x).1 gh'++(s.Ws.set (w-1).toNat (zj s w x).2).flatMap (zP {(zj s w x).1 with Ws:=s.Ws.set (w-1).toNat (zj s w x).2})++C) _
  rw [q2]
  have r1:List.Perm (yC p (zj s w x).1 gh'++(a++(zj s w x).2::b).flatMap (zP (zj s w x).1)++C) ((a++b).flatMap (zP s)++(yC p (zj s w x).1 gh'++zP (zj s w x).1 (zj s w x).2++C)):=by
   refine ((List.Perm.append_left _ u6).append_right C).trans ?_
   rw [q3,List.append_assoc,List.append_assoc,List.append_assoc]
   refine (List.perm_append_comm_assoc _ _ _).trans ?_
   refine (List.Perm.append_left _ (List.perm_append_comm_assoc _ _ _)).trans ?_
   refine (List.perm_append_comm_assoc _ _ _).trans (List.Perm.append_left _ ?_)
   exact List.perm_append_comm_assoc _ _ _
  have r2:List.Perm (N++(yC p s gh++s.Ws.flatMap (zP s))) ((a++b).flatMap (zP s)++(N++(yC p s gh++zP s x))):=by
   conv=>lhs;rw [el]
   refine (List.Perm.append_left _ (List.Perm.append_left _ u6)).trans ?_
   refine (List.Perm.append_left _ ?_).trans (List.perm_append_comm_assoc _ _ _)
   rw [←List.append_assoc]
   exact List.perm_append_comm
  exact r1.trans ((List.Perm.append_left _ hN).trans r2.symm)
 have fin:zaB (zno p {(zj s w x).1 with Ws:=s.Ws.set (w-1).toNat (zj s w x).2} gh') (zj s w x).1.T→WG p nb (k+1) {(zj s w x).1 with Ws:=s.Ws.set (w-1).toNat (zj s w x).2} gh':=by
  intro hB
  refine ⟨hE,?_,fun j y hy=> ?_,hB⟩
  ·refine (X'.state hE.S rfl).perm ?_
   show List.Perm ((s.Ws.set (w-1).toNat (zj s w x).2).flatMap wu) _
   rw [es];exact u6
  ·have hy:(s.Ws.set (w-1).toNat (zj s w x).2)[j]? =some y:=hy
   by_cases hj:j=(w-1).toNat
   ·subst hj
    rw [List.getElem?_set_self hi] at hy
    injection hy with hy
    rw [←hy,ei]
    exact W'.state rfl rfl
   ·rw [List.getElem?_set_ne (fun e=>hj e.symm)] at hy
    exact (hoth j y hj hy).1.state rfl rfl
 refine ⟨gh',?_⟩
 rcases hT with ⟨rfl,rfl,t1⟩ | ⟨rfl,rfl,t1,t2,t3⟩ | ⟨rfl,rfl,t1,t2⟩
 ·rw [List.append_nil,List.nil_append] at hbag
  refine ⟨fin ⟨?_,hbag.nodup_iff.2 G.B.nd,fun o=> ?_⟩,.inl t1⟩
  ·rw [t1];exact G.B.blk
  ·rw [t1,hbag.mem_iff];exact G.B.gr o
 ·have ho:=((hWX.p6 t1).1).ob
  rw [List.append_nil] at hbag
  refine ⟨fin ?_,.inr (.inl ⟨x,x.G.Obj,hx,t1,rfl,ho,(za7 ho).1 t2,t3⟩)⟩
  rw [t3]
  exact G.B.more ho t2 hbag
 ·rw [List.nil_append] at hbag
  obtain ⟨b1,b2,b3,b4⟩:=G.B.less hbag
  refine ⟨fin ?_,.inr (.inr ⟨x,hx,t1,b3,?_⟩)⟩
  ·rw [t2];exact b1
  ·show (zj s w x).1.T=_
   rw [t2];unfold wx;rw [if_pos b3]
end
end Go.Pe.G
namespace Go.Pe.G
open Go.Pe
noncomputable section
theorem zmI {N:Int} {nb:Nat} (hN:0≤N∧N<1000) (hnb:nb<1000): ∀(l:List Int) (m:List (BitVec 64)) (a:Int),(∀x∈l,1≤x∧x<nb)→(∀x∈l,a≠N+x)→ld (links m N l) a=ld m a
 | [],m,a,_,_=>rfl
 | [x],m,a,h,h2=>by
  have:=h x (by simp)
  have:=h2 x (by simp)
  rw [links,xf (by omega) (by omega)]
  exact yB (by omega)
 | x::y::l,m,a,h,h2=>by
  have:=h x (by simp)
  have:=h2 x (by simp)
  rw [links,zmI hN hnb (y::l) _ a (fun z hz=>h z (List.mem_cons_of_mem _ hz)) (fun z hz=>h2 z (List.mem_cons_of_mem _ hz)),xf (by omega) (by omega)]
  exact yB (by omega)
theorem zog {N:Int} {nb:Nat} (hN:0≤N∧N<1000) (hnb:nb<1000): ∀(l:List Int) (m:List (BitVec 64)),(∀x∈l,1≤x∧x<nb)→l.Nodup→N+nb≤m.length→Chn (links m N l) N nb (l.headD 0) l
 | [],m,_,_,_=>rfl
 | [x],m,h,_,hl=>by
  have:=h x (by simp)
  refine ⟨rfl,this.1,this.2,?_⟩
  rw [links,xf (by omega) (by omega),Wp,if_pos ⟨rfl,by omega,by omega⟩]
  rfl
 | x::y::l,m,h,hd,hl=>by
  have hx:=h x (by simp)
  have hy:=h y (by simp)
  have hd:=List.nodup_cons.1 hd
  refine ⟨rfl,hx.1,hx.2,?_⟩
  have ih:=zog hN hnb (y::l) (st m (wc (N+x)) (BitVec.ofInt 64 y)) (fun z hz=>h z (List.mem_cons_of_mem _ hz)) hd.2 (by rw [ZQ];exact hl)
  rw [links,zmI hN hnb (y::l) _ (N+x) (fun z hz=>h z (List.mem_cons_of_mem _ hz)) (fun z hz e=>hd.1 (by rw [zlN e] at hz;exact hz)),xf (by omega) (by omega),Wp,if_pos ⟨rfl,by omega,by omega⟩,toInt_ofInt (by omega) (by omega)]
  rw [xf (by omega) (by omega)] at ih
  exact ih
theorem Chn.links {N:Int} {nb:Nat} (hN:0≤N∧N<1000) (hnb:nb<1000) {l r:List Int} {h:Int} {m:List (BitVec 64)} (hr: ∀x∈r,1≤x∧x<nb) (hd: ∀x∈l,x∉r) (c:Chn m N nb h l):Chn (Go.Pe.G.links m N r) N nb h l:=by
 induction l generalizing h with
 | nil=>exact c
 | cons y l ih =>
  refine ⟨c.1,c.2.1,c.2.2.1,?_⟩
  rw [zmI hN hnb r m (N+y) hr (fun z hz e=>hd y (by simp) (by rw [zlN e] at hz;exact hz))]
  exact ih (fun x hx=>hd x (List.mem_cons_of_mem _ hx)) c.2.2.2
theorem zuI {l:List Int} {nb:Nat} (h: ∀x∈l,1≤x∧x<nb) (hnb:nb<1000):0≤l.headD 0∧l.headD 0<4294967296:=by
 cases l with
 | nil=>exact ⟨by decide,by decide⟩
 | cons a r=>have:=h a (by simp);show 0≤a∧a<4294967296;omega
theorem zzq {p:zb} (h:zA p):LI p (zX p+1) (yz p).M (yh p) (zI p) ((xw (zX p)).take (xi p).length) ((xw (zX p)).drop (xi p).length) []∧xp (ld (yz p).M (yh p))=0∧xp (ld (yz p).M (zI p))=0:=by
 have hb:=zfh h
 have hF:=Yf h
 have hE:=wM h
 have hcl:=UJ p p.Workers.toNat
 have hw:=h.wk
 have hc:=h.cap
 have hfe:yh p=((p.Workers.toNat*(p.Cap.toNat+2):Nat):Int):=by
  rw [hF.1]
  have e1:p.Workers=((p.Workers.toNat:Nat):Int):=by omega
  have e2:p.Cap+2=((p.Cap.toNat+2:Nat):Int):=by omega
  rw [e2,Int.natCast_mul]
  rw [←e1]
 have hN:0≤zI p∧zI p<1000:=by omega
 have hnb:zX p+1<1000:=by omega
 generalize hk:(xi p).length=k
 have t1: ∀x∈(xw (zX p)).take k,1≤x∧x<((zX p+1:Nat):Int):=fun x hx=>by have:=ze8 (List.mem_of_mem_take hx);omega
 have t2: ∀x∈(xw (zX p)).drop k,1≤x∧x<((zX p+1:Nat):Int):=fun x hx=>by have:=ze8 (List.mem_of_mem_drop hx);omega
 have nd:((xw (zX p)).take k++(xw (zX p)).drop k).Nodup:=by rw [List.take_append_drop];exact zpt (zX p+1)
 have nd3:=List.nodup_append.1 nd
 have eM:(yz p).M=zcI (zcI (Yw p p.Workers.toNat++List.replicate (2+zX p) 0#64) (yh p) (zI p) ((xw (zX p)).take k)) (zI p) (zI p) ((xw (zX p)).drop k):=by rw [←hk];rfl
 rw [eM]
 generalize hm0:Yw p p.Workers.toNat++List.replicate (2+zX p) 0#64=m0
 have l0:zI p+((zX p+1:Nat):Int)≤m0.length:=by
  rw [←hm0,List.length_append,hcl,List.length_replicate];omega
 have p1:=zuI t1 hnb
 have p2:=zuI t2 hnb
 have v0: ∀n:Int,0≤n→n<4294967296→xp (xl 0#64 n)=0:=fun n h1 h2=>by
  unfold xp;rw [zqJ _ h1 h2];show (0*4294967296+n.toNat)/4294967296=0;omega
 have c1:=zog hN hnb _ m0 t1 nd3.1 l0
 generalize hm1:links m0 (zI p) ((xw (zX p)).take k)=m1 at c1
 have l1:m1.length=m0.length:=by rw [←hm1,zcK]
 have c1':=(c1.st_head h (a:=yh p) (v:=xl 0#64 (((xw (zX p)).take k).headD 0)) (.inl rfl)).links hN hnb t2 (fun x hx hx2=>nd3.2.2 x hx x hx2 rfl)
 have c2:=zog hN hnb _ (st m1 (yh p) (xl 0#64 (((xw (zX p)).take k).headD 0))) t2 nd3.2.1 (by rw [ZQ,l1];exact l0)
 have hd1:ld (links (st m1 (yh p) (xl 0#64 (((xw (zX p)).take k).headD 0))) (zI p) ((xw (zX p)).drop k)) (yh p)=xl 0#64 (((xw (zX p)).take k).headD 0):=by
  rw [zmI hN hnb _ _ _ t2 (fun x hx=>by have:=t2 x hx;omega),Wp,if_pos ⟨rfl,by omega,by omega⟩]
 unfold zcI
 rw [hm1]
 generalize hm2:links (st m1 (yh p) (xl 0#64 (((xw (zX p)).take k).headD 0))) (zI p) ((xw (zX p)).drop k)=m2 at c1' c2 hd1
 have l2:m2.length=m0.length:=by rw [←hm2,zcK,ZQ,l1]
 have g1:ld (st m2 (zI p) (xl 0#64 (((xw (zX p)).drop k).headD 0))) (yh p)=xl 0#64 (((xw (zX p)).take k).headD 0):=by rw [yB (by omega),hd1]
 have g2:ld (st m2 (zI p) (xl 0#64 (((xw (zX p)).drop k).headD 0))) (zI p)=xl 0#64 (((xw (zX p)).drop k).headD 0):=by rw [Wp,if_pos ⟨rfl,by omega,by omega⟩]
 refine ⟨⟨.inl ⟨rfl,rfl⟩,?_,?_,?_,by rw [ZQ,l2];exact l0⟩,?_,?_⟩
 ·rw [g1,zc5 _ p1.1 p1.2]
  exact c1'.st_head h (.inr rfl)
 ·rw [g2,zc5 _ p2.1 p2.2]
  exact c2.st_head h (.inr rfl)
 ·rw [List.append_nil,List.take_append_drop]
  exact List.Perm.refl _
 ·rw [g1];exact v0 _ p1.1 p1.2
 ·rw [g2];exact v0 _ p2.1 p2.2
end
end Go.Pe.G
namespace Go.Pe.G
open Go.Pe
noncomputable section
theorem zn5 {N:Int} (hN:0≤N∧N<1000): ∀(l:List Int) (m:List (BitVec 64)) (a:Int),(∀x∈l,1≤x∧x<1000)→a≤N→ld (links m N l) a=ld m a
 | [],m,a,_,_=>rfl
 | [x],m,a,h,h2=>by
  have:=h x (by simp)
  rw [links,xf (by omega) (by omega)]
  exact yB (by omega)
 | x::y::l,m,a,h,h2=>by
  have:=h x (by simp)
  rw [links,zn5 hN (y::l) _ a (fun z hz=>h z (List.mem_cons_of_mem _ hz)) h2,xf (by omega) (by omega)]
  exact yB (by omega)
theorem zAL {p:zb} (h:zA p) {a:Int} (ha:a<yh p):ld (yz p).M a=ld (Yw p p.Workers.toNat++List.replicate (2+zX p) 0#64) a:=by
 have hb:=zfh h
 have hF:=Yf h
 have hE:=wM h
 have t1: ∀x∈(xw (zX p)).take (xi p).length,1≤x∧x<1000:=fun x hx=>by have:=ze8 (List.mem_of_mem_take hx);omega
 have t2: ∀x∈(xw (zX p)).drop (xi p).length,1≤x∧x<1000:=fun x hx=>by have:=ze8 (List.mem_of_mem_drop hx);omega
 show ld (zcI (zcI _ (yh p) (zI p) _) (zI p) (zI p) _) a=_
 unfold zcI
 rw [yB (by omega),zn5 (by omega) _ _ _ t2 (by omega),yB (by omega),zn5 (by omega) _ _ _ t1 (by omega)]
theorem ztj (p:zb): ∀(k i j:Nat),i<k→j<p.Cap.toNat+2→(Yw p k)[i*(p.Cap.toNat+2)+j]? =(zf8 p.Cap)[j]?
 | 0,i,j,h,_=>by omega
 | k+1,i,j,h,hj=>by
  rw [zll]
  have hl:=UJ p k
  rcases Nat.lt_or_ge i k with h1 | h1
  ·have h2:=Nat.mul_le_mul_right (p.Cap.toNat+2) (show i+1≤k from h1)
   rw [Nat.succ_mul] at h2
   rw [List.getElem?_append_left (by omega)]
   exact ztj p k i j h1 hj
  ·have:i=k:=by omega
   subst this
   rw [List.getElem?_append_right (by omega),hl,show i*(p.Cap.toNat+2)+j-i*(p.Cap.toNat+2)=j by omega]
theorem zv0 {p:zb} (h:zA p) {w:Int} (hw:1≤w∧w≤p.Workers) {j:Nat} (hj:j<2):ld (yz p).M (zV p w+j)=1#64:=by
 have hd:=Y4 h hw.1 hw.2
 have hc:=h.cap
 have hl:=UJ p p.Workers.toNat
 have hlt:(w-1).toNat<p.Workers.toNat:=by omega
 have e1:(zV p w+j).toNat=(w-1).toNat*(p.Cap.toNat+2)+j:=by
  obtain ⟨n,hn⟩: ∃n:Nat,w-1=(n:Int):=⟨(w-1).toNat,by omega⟩
  have e2:p.Cap+2=((p.Cap.toNat+2:Nat):Int):=by omega
  rw [hd.1,hn,e2,←Int.natCast_mul,Int.toNat_natCast]
  omega
 have h2:=Nat.mul_le_mul_right (p.Cap.toNat+2) (show (w-1).toNat+1≤p.Workers.toNat from hlt)
 rw [Nat.succ_mul] at h2
 rw [zAL h (by omega)]
 unfold ld
 rw [if_pos (by omega),e1,List.getD_eq_getElem?_getD,List.getElem?_append_left (by omega),ztj p _ _ _ hlt (by omega)]
 unfold zf8
 match j,hj with
 | 0,_=>rfl
 | 1,_=>rfl
theorem zpy (n:Nat) (hn:1≤n): ∀(f:Nat) (l:List Int),l.length≤f→(vH n f l).flatten=l
 | 0,l,h=>by
  have:l=[]:=List.length_eq_zero_iff.1 (by omega)
  subst this;simp [vH]
 | f+1,[],_=>by simp [vH]
 | f+1,x::l,h=>by
  have:=zpy n hn f ((x::l).drop n) (by rw [List.length_drop];simp at h ⊢;omega)
  simp only [vH,List.flatten_cons] at this ⊢
  rw [this,List.take_append_drop]
theorem zzk {α:Type} (l:List (List α)):(List.range l.length).flatMap (fun i:Nat=>(l[i]?).getD [])=l.flatten:=by
 rw [List.flatMap_def]
 congr 1
 apply List.ext_getElem
 ·simp
 ·intro i h1 h2
  simp [List.getElem?_eq_getElem h2]
def gh0 (p:zb):Gh:=⟨(xw (zX p)).take (xi p).length,(xw (zX p)).drop (xi p).length,fun _=>[],fun _=>1,fun _=>0⟩
theorem zaU {α β:Type} {f:α→List β}: ∀ {l:List α},(∀x∈l,f x=[])→l.flatMap f=[]
 | [],_=>rfl
 | a::l,h=>by rw [List.flatMap_cons,h a (by simp),zaU (fun x hx=>h x (List.mem_cons_of_mem _ hx))];rfl
theorem zw4 {p:zb} (h:zA p):yC p (yz p) (gh0 p)=Wr (uW p):=by
 have hb:=h.bin
 have hfl:=zmN h
 have hbs:=zfh h
 have hmost:=h.most
 have hw:=h.wk
 have hm:=h.mt
 have e1:yC p (yz p) (gh0 p)=((xw (zX p)).take (xi p).length).flatMap (xt (yz p)):=by
  show ((xw (zX p)).take (xi p).length).flatMap (xt (yz p))++(List.range p.Workers.toNat).flatMap (fun _=>([]:List Int))=_
  rw [zaU (f:=fun _=>([]:List Int)) (fun _ _=>rfl),List.append_nil]
 have e2:(xw (zX p)).take (xi p).length=(List.range (xi p).length).map (fun i:Nat=>(i:Int)+1):=by
  unfold xw
  rw [←List.map_take,List.take_range,Nat.min_eq_left (by omega)]
 rw [e1,e2,List.flatMap_map]
 have e3:(List.range (xi p).length).flatMap (fun i:Nat=>xt (yz p) ((i:Int)+1))=(List.range (xi p).length).flatMap (fun i:Nat=>((xi p)[i]?).getD []):=by
  refine xP (fun i hi=> ?_)
  have hi:=List.mem_range.1 hi
  unfold xt
  show (([[]]++xi p++List.replicate (zX p-(xi p).length) [])[((i:Int)+1).toNat]?).getD []=_
  rw [show ((i:Int)+1).toNat=i+1 by omega,List.append_assoc]
  show ((xi p++List.replicate (zX p-(xi p).length) [])[i]?).getD []=_
  rw [List.getElem?_append_left hi]
 rw [e3,zzk]
 exact zpy _ (by omega) _ _ (Nat.le_refl _)
theorem zwz (s:BitVec 64):(Wr s).Nodup:=by
 unfold Wr
 rw [List.Nodup,List.pairwise_map]
 exact (List.nodup_range.filter _).imp (fun h e=>h (by omega))
theorem zxa {s:BitVec 64} (h:s&&& ~~~63#64=0#64) {j:Nat} (hs:s.getLsbD j=true):j<6:=by
 have hj:j<64:=BitVec.lt_of_getLsbD hs
 have:=congrArg (fun x=>x.getLsbD j) h
 simp only [BitVec.getLsbD_and,BitVec.getLsbD_not,hs,hj,decide_true,Bool.true_and,BitVec.getLsbD_zero] at this
 have h63:(63#64).getLsbD j=decide (j<6):=by
  have: ∀j:Fin 64,(63#64).getLsbD j.1=decide (j.1<6):=by decide
  exact this ⟨j,hj⟩
 rw [h63] at this
 by_cases e:j<6
 ·exact e
 ·rw [decide_eq_false e] at this;cases this
theorem zyF {s:BitVec 64} (h:s&&& ~~~63#64=0#64) (o:Int):o∈Wr s↔zL s o=true:=by
 unfold Wr
 rw [un,List.mem_map]
 constructor
 ·rintro ⟨i,hi,rfl⟩
  obtain ⟨h1,h2⟩:=List.mem_filter.1 hi
  have:=List.mem_range.1 h1
  exact ⟨by omega,by omega,by rw [show ((i:Int)+1-1).toNat=i by omega];exact h2⟩
 ·rintro ⟨h1,h2,h3⟩
  exact ⟨(o-1).toNat,List.mem_filter.2 ⟨List.mem_range.2 (zxa h h3),h3⟩,by omega⟩
theorem zBJ {p:zb} (h:zA p):WG p (zX p+1) 0 (yz p) (gh0 p):=by
 have hE:=zra h
 obtain ⟨L,v1,v2⟩:=zzq h
 have hc:=h.cap
 have hws: ∀x∈(yz p).Ws,∃i:Nat,x=vT p i:=fun x hx=>by
  obtain ⟨i,_,rfl⟩:=List.mem_map.1 (show x∈(List.range p.Workers.toNat).map (vT p) from hx)
  exact ⟨i,rfl⟩
 have hb: ∀i:Nat,vT p i=V8 p ((i:Int)+1) (vT p i):=fun i=>rfl
 have own:(yz p).Ws.flatMap wu=[]:=zaU (fun x hx=>by
  obtain ⟨i,rfl⟩:=hws x hx
  exact uc (by show (0:Int)≠3;decide) (by show (0:Int)≠4;decide) (by show (0:Int)≠6;decide))
 have hold:(yz p).Ws.flatMap (zP (yz p))=[]:=zaU (fun x hx=>by
  obtain ⟨i,rfl⟩:=hws x hx
  unfold zP
  rw [hb i,zhJ];rfl)
 refine ⟨hE,⟨hE.S,by rw [own];exact L,fun w h1 h2=> ?_,?_,fun w _ _=>by show 1+0≤0+1000;decide⟩,fun i x hx=> ?_,?_⟩
 ·have c0:=zv0 h ⟨h1,h2⟩ (j:=0) (by decide)
  have c1:=zv0 h ⟨h1,h2⟩ (j:=1) (by decide)
  rw [show zV p w+((0:Nat):Int)=zV p w by omega] at c0
  exact ⟨c0,c1,by show (0:Nat)≤1;decide,by show (1:Nat)≤1;decide,Nat.zero_le _,by show 1+0<4294967296;decide,fun i hi=>absurd hi (Nat.not_lt_zero _)⟩
 ·rw [v1,v2];exact ⟨Nat.le_refl _,Nat.le_refl _⟩
 ·have hx:((List.range p.Workers.toNat).map (vT p))[i]? =some x:=hx
  rw [List.getElem?_map] at hx
  cases hr:(List.range p.Workers.toNat)[i]? with
  | none=>rw [hr] at hx;cases hx
  | some j =>
   rw [hr] at hx
   injection hx with hx
   obtain ⟨h1,h2⟩:=List.getElem?_eq_some_iff.1 hr
   rw [List.getElem_range] at h2
   subst h2
   rw [←hx,hb i]
   exact WX.begin rfl rfl
 ·have hs:=zfM h
  unfold zno
  rw [hold,List.append_nil,zw4 h]
  refine ⟨fun o ho=>absurd ho (zaY o),zwz _,fun o=> ?_⟩
  rw [zyF hs,u7]
  exact ⟨fun e=>⟨e,zaY o⟩,fun e=>e.1⟩
theorem ztq (n:Nat) (hn:1≤n): ∀(f:Nat) (l c:List Int),c∈vH n f l→c≠[]
 | 0,l,c,h=>by simp [vH] at h
 | f+1,[],c,h=>by simp [vH] at h
 | f+1,x::l,c,h=>by
  simp only [vH,List.mem_cons] at h
  rcases h with h | h
  ·rw [h]
   match n,hn with
   | m+1,_=>exact List.cons_ne_nil _ _
  ·exact ztq n hn f _ c h
theorem zBS {p:zb} (h:zA p): ∀y∈(gh0 p).F,xt (yz p) y≠[]:=by
 intro y hy
 have hb:=h.bin
 have hfl:=zmN h
 have hbs:=zfh h
 have hmost:=h.most
 have hw:=h.wk
 have hm:=h.mt
 have hy:y∈(xw (zX p)).take (xi p).length:=hy
 have e2:(xw (zX p)).take (xi p).length=(List.range (xi p).length).map (fun i:Nat=>(i:Int)+1):=by
  unfold xw
  rw [←List.map_take,List.take_range,Nat.min_eq_left (by omega)]
 rw [e2] at hy
 obtain ⟨i,hi,rfl⟩:=List.mem_map.1 hy
 have hi:=List.mem_range.1 hi
 unfold xt
 show (([[]]++xi p++List.replicate (zX p-(xi p).length) [])[((i:Int)+1).toNat]?).getD []≠[]
 rw [show ((i:Int)+1).toNat=i+1 by omega,List.append_assoc]
 show ((xi p++List.replicate (zX p-(xi p).length) [])[i]?).getD []≠[]
 rw [List.getElem?_append_left hi,List.getElem?_eq_getElem hi]
 exact ztq _ (by omega) _ _ _ (List.getElem_mem hi)
end
end Go.Pe.G
namespace Go.Pe.G
open Go.Pe
noncomputable section
theorem ul (a b:BitVec 64) (q:Int):zL (a|||b) q=true↔zL a q=true∨zL b q=true:=by
 rw [un,un,un,BitVec.getLsbD_or,Bool.or_eq_true]
 constructor
 ·rintro ⟨h1,h2,h | h⟩
  ·exact .inl ⟨h1,h2,h⟩
  ·exact .inr ⟨h1,h2,h⟩
 ·rintro (⟨h1,h2,h⟩ | ⟨h1,h2,h⟩)
  ·exact ⟨h1,h2,.inl h⟩
  ·exact ⟨h1,h2,.inr h⟩
theorem zad (h:zy) (a i v:Int):(uH h a i v).Objs.length=h.Objs.length:=by
 unfold uH;split<;>simp
theorem zc1 (h:zy):(xV h).Objs.length=h.Objs.length+1:=by unfold xV;simp
end
end Go.Pe.G
namespace Go.Pe.G
open Go.Pe
noncomputable section
theorem zrc: ∀(n:Fin 10) (j:Fin 64),(Uf (n.1:Int)).getLsbD j.1=decide (j.1<n.1):=by decide +kernel
theorem zxx {n:Nat} (hn:n≤9) (o:Int):zL (Uf (n:Int)) o=true↔1≤o∧o≤(n:Int):=by
 rw [un]
 constructor
 ·rintro ⟨a,b,c⟩
  have:=zrc ⟨n,by omega⟩ ⟨(o-1).toNat,by omega⟩
  rw [this] at c
  have:(o-1).toNat<n:=by simpa using c
  omega
 ·rintro ⟨a,b⟩
  have:=zrc ⟨n,by omega⟩ ⟨(o-1).toNat,by omega⟩
  refine ⟨a,by omega,?_⟩
  rw [this]
  exact decide_eq_true (by show (o-1).toNat<n;omega)
end
end Go.Pe.G
namespace Go.Pe.G
open Go.Pe
noncomputable section
theorem ztl {t:zt} {o:Int} (ho:1≤o∧o≤64) (hm: ¬zL t.Marks o=true) (hb: ¬zL t.Black o=true):vj t o=({t with Marks:=t.Marks|||bit o},true):=by
 unfold vj
 rw [if_neg ((za7 ho).2 hm),if_pos]
 unfold zL at hb
 simpa using hb
theorem zAi {o q:Int} (h:zL (bit o) q=true):q=o:=by
 by_cases ho:1≤o∧o≤64
 ·have:=(wE 0#64 ho q).1 (by simpa using h)
  exact this.resolve_left (zaY q)
 ·unfold bit at h;rw [if_neg ho] at h;exact absurd h (zaY q)
theorem YV {m:BitVec 64} {o q:Int} (h:zL (m|||bit o) q=true):zL m q=true∨q=o:=((ul _ _ _).1 h).imp id zAi
theorem zui (t:zt) (o:Int):yE t o=2↔zL t.Marks o=true∧zL t.Black o=true:=by
 unfold yE
 cases h:zL (t.Marks&&&t.Black) o with
 | true=>simp only [if_true,true_iff];exact (zcv _ _ o).1 h
 | false =>
  have hn: ¬(zL t.Marks o=true∧zL t.Black o=true):=fun e=>by rw [(zcv _ _ o).2 e] at h;cases h
  simp only [Bool.false_eq_true,if_false]
  constructor
  ·intro e;split at e<;>omega
  ·intro e;exact absurd e hn
theorem zf7 (t:zt) (o:Int):(vj t o).1.Black=t.Black∧((vj t o).1.Marks=t.Marks∨(vj t o).1.Marks=t.Marks|||bit o):=by
 unfold vj
 split
 ·exact ⟨rfl,.inl rfl⟩
 split
 ·exact ⟨rfl,.inr rfl⟩
 ·exact ⟨rfl,.inl rfl⟩
theorem zeZ (t:zt) (o:Int):(wx t o).Marks=t.Marks∧((wx t o).Black=t.Black∨((wx t o).Black=t.Black|||bit o∧zL t.Marks o=true)):=by
 unfold wx
 split
 ·rename_i h;exact ⟨rfl,.inr ⟨rfl,((u7 t o).1 h).1⟩⟩
 ·exact ⟨rfl,.inl rfl⟩
theorem zyN (s:za) (g:zC):(zm s g).1.T=s.T∨(zm s g).1.T=(vj s.T g.Obj).1:=by
 unfold zm
 split
 ·exact .inl rfl
 split
 ·exact .inl rfl
 split
 ·exact .inl rfl
 split
 ·exact .inl rfl
 split
 ·exact .inl rfl
 split
 ·exact .inl rfl
 split
 ·exact .inl rfl
 split
 ·exact .inr rfl
 ·exact .inl rfl
theorem zqm (s:za) (m:Int) (x:zc) :
  ((zg s m x).1.H.Objs.length=s.H.Objs.length∧((zg s m x).1.T=s.T∨((zg s m x).1.T=(vj s.T x.G.Obj).1∧(x.PC=3∨x.PC=37))∨(zg s m x).1.T=wx s.T x.Obj) ∧
   ((zg s m x).1.L=s.L∨(∃w,(zg s m x).1.L=(zck s.L m w).1)∨(zg s m x).1.L=zcq s.L m)) ∨
  ((zg s m x).1.H=xV s.H∧(zg s m x).1.T=YE s.T (wc (s.H.Objs.length+1))∧(zg s m x).1.L=zb4 s.L m s.P.Price∧ze7 s.L m s.P.Price s.P.Limit=true∧YP s.H s.P.Most=true):=by
 refine yw (motive:=fun r=>(r.1.H.Objs.length=s.H.Objs.length∧(r.1.T=s.T∨(r.1.T=(vj s.T x.G.Obj).1∧(x.PC=3∨x.PC=37))∨r.1.T=wx s.T x.Obj)∧(r.1.L=s.L∨(∃w,r.1.L=(zck s.L m w).1)∨r.1.L=zcq s.L m)) ∨
  (r.1.H=xV s.H∧r.1.T=YE s.T (wc (s.H.Objs.length+1))∧r.1.L=zb4 s.L m s.P.Price∧ze7 s.L m s.P.Price s.P.Limit=true∧YP s.H s.P.Most=true)) s m x ?_ ?_ ?_ ?_ ?_ ?_ ?_ ?_ ?_ ?_ ?_ ?_ ?_ ?_ ?_ ?_ ?_ ?_ ?_ ?_
 ·intro c;exact .inl ⟨rfl,.inl rfl,.inl rfl⟩
 ·intro c;exact .inl ⟨rfl,.inl rfl,.inl rfl⟩
 ·intro c;exact .inl ⟨rfl,.inl rfl,.inl rfl⟩
 ·intro c;unfold mu3
  refine .inl ⟨by rw [XB],(zyN s x.G).imp id (fun h=> .inl ⟨h,.inl c⟩),.inl (by rw [XB])⟩
 ·intro c;exact .inl ⟨rfl,.inl rfl,.inl rfl⟩
 ·intro c;exact .inl ⟨rfl,.inl rfl,.inl rfl⟩
 ·intro c;exact .inl ⟨rfl,.inl rfl,.inl rfl⟩
 ·intro c;exact .inl ⟨rfl,.inl rfl,.inl rfl⟩
 ·intro c;exact .inl ⟨zad _ _ _ _,.inl rfl,.inl rfl⟩
 ·intro c;unfold Z4
  split
  ·split
   ·rename_i h1 h2;exact .inr ⟨rfl,rfl,rfl,h1,h2⟩
   ·exact .inl ⟨rfl,.inl rfl,.inl rfl⟩
  ·exact .inl ⟨rfl,.inl rfl,.inl rfl⟩
 ·intro c;exact .inl ⟨rfl,.inl rfl,.inr (.inl ⟨_,rfl⟩)⟩
 ·intro c;exact .inl ⟨rfl,.inl rfl,.inl rfl⟩
 ·intro c;exact .inl ⟨rfl,.inl rfl,.inl rfl⟩
 ·intro c;exact .inl ⟨rfl,.inl rfl,.inl rfl⟩
 ·intro c;exact .inl ⟨rfl,.inl rfl,.inl rfl⟩
 ·intro c;exact .inl ⟨rfl,.inl rfl,.inl rfl⟩
 ·intro c;unfold Y5
  refine .inl ⟨by rw [XB],(zyN s x.G).imp id (fun h=> .inl ⟨h,.inr c⟩),.inl (by rw [XB])⟩
 ·intro c;exact .inl ⟨rfl,.inr (.inr rfl),.inr (.inr rfl)⟩
 ·intro c;exact .inl ⟨rfl,.inl rfl,.inl rfl⟩
 ·exact .inl ⟨rfl,.inl rfl,.inl rfl⟩
def zbg (n:Int) (x:zc):Prop:=(∀v∈x.Buf,v≤n)∧x.Old≤n∧(x.PC=3∨x.PC=37→x.G.Obj≤n)
theorem zuM {h:zy} {n:Int} (h0:0≤n) (hv: ∀l∈h.Objs,∀v∈l,v≤n) (o i:Int):zN h o i≤n:=by
 unfold zN
 split
 ·rw [List.getD_eq_getElem?_getD]
  cases hx:(zW h o)[i.toNat]? with
  | none=>exact h0
  | some v =>
   have hm:=List.mem_of_getElem? hx
   unfold zW at hm
   rw [List.getD_eq_getElem?_getD] at hm
   cases hy:h.Objs[(o-1).toNat]? with
   | none=>rw [hy] at hm;cases hm
   | some l=>rw [hy] at hm;exact hv l (List.mem_of_getElem? hy) v hm
 ·exact h0
theorem ztN {p:zb} {nb:Nat} {s:za} {m:Int} {x:zc} (X:XOk p nb m x) {n:Int} (h0:0≤n) (hv: ∀l∈s.H.Objs,∀v∈l,v≤n) (B:zbg n x):zbg n (zg s m x).2:=by
 obtain ⟨b1,b2,b3⟩:=B
 have no: ∀ {y:zc},(∀v∈y.Buf,v≤n)→y.Old≤n→¬(y.PC=3∨y.PC=37)→zbg n y:=fun h1 h2 h3=>⟨h1,h2,fun e=>absurd e h3⟩
 refine yw (motive:=fun r=>zbg n r.2) s m x ?_ ?_ ?_ ?_ ?_ ?_ ?_ ?_ ?_ ?_ ?_ ?_ ?_ ?_ ?_ ?_ ?_ ?_ ?_ ?_
 ·intro c;unfold mu0 uY
  repeat' split
  all_goals exact no b1 b2 (by dsimp only [setM];omega)
 ·intro c;unfold mu1;dsimp only
  split
  ·exact no b1 b2 (by have:=X.ret (.inl c);show ¬(x.Ret=3∨x.Ret=37);omega)
  ·rename_i hl
   refine ⟨fun v hv=>b1 v (List.mem_of_mem_take hv),b2,fun _=> ?_⟩
   show x.Buf.getD (x.Buf.length-1) 0≤n
   rw [List.getD_eq_getElem?_getD,List.getElem?_eq_getElem (show x.Buf.length-1<x.Buf.length by omega)]
   exact b1 _ (List.getElem_mem _)
 ·intro c;unfold mu2;exact no b1 b2 (by show ¬((0:Int)=3∨(0:Int)=37);decide)
 ·intro c;unfold mu3;dsimp only
  split
  ·exact no b1 b2 (by show ¬((1:Int)=3∨(1:Int)=37);decide)
  ·exact ⟨b1,b2,fun _=>by show (zm s x.G).2.Obj≤n;rw [(Vb s x.G).1];exact b3 (.inl c)⟩
 ·intro c;unfold zbH;exact no b1 b2 (by show ¬((0:Int)=3∨(0:Int)=37);decide)
 ·intro c;unfold XK;dsimp only
  split
  ·exact no b1 b2 (by show ¬((0:Int)=3∨(0:Int)=37);decide)
  ·exact no b1 (zuM h0 hv _ _) (by show ¬((21:Int)=3∨(21:Int)=37);decide)
 ·intro c;unfold Xw;dsimp only
  split
  ·exact no b1 h0 (by show ¬((23:Int)=3∨(23:Int)=37);decide)
  ·exact no b1 b2 (by show ¬((22:Int)=3∨(22:Int)=37);decide)
 ·intro c;unfold Vi;dsimp only
  split
  ·exact no b1 b2 (by show ¬((1:Int)=3∨(1:Int)=37);decide)
  ·refine no (fun v hv=> ?_) h0 (by show ¬((23:Int)=3∨(23:Int)=37);decide)
   rcases List.mem_append.1 hv with h | h
   ·exact b1 v h
   ·rw [List.mem_singleton.1 h];exact b2
 ·intro c;unfold zaR;exact no b1 b2 (by show ¬((0:Int)=3∨(0:Int)=37);decide)
 ·intro c;unfold Z4
  split
  ·split
   ·exact no b1 b2 (by show ¬((0:Int)=3∨(0:Int)=37);decide)
   ·exact no b1 b2 (by show ¬((0:Int)=3∨(0:Int)=37);decide)
  ·exact no b1 b2 (by show ¬((31:Int)=3∨(31:Int)=37);decide)
 ·intro c;unfold WR;dsimp only
  split
  ·exact no b1 b2 (by show ¬((32:Int)=3∨(32:Int)=37);decide)
  ·exact no b1 b2 (by show ¬((0:Int)=3∨(0:Int)=37);decide)
 ·intro c;unfold WD;dsimp only
  split
  ·exact no b1 b2 (by show ¬((33:Int)=3∨(33:Int)=37);decide)
  split
  ·exact no b1 b2 (by show ¬((0:Int)=3∨(0:Int)=37);decide)
  ·exact no b1 b2 (by show ¬(x.PC=3∨x.PC=37);omega)
 ·intro c;unfold zbO;exact no b1 b2 (by show ¬((34:Int)=3∨(34:Int)=37);decide)
 ·intro c;unfold WN;dsimp only
  split
  ·exact no b1 b2 (by show ¬((35:Int)=3∨(35:Int)=37);decide)
  ·exact no b1 b2 (by show ¬(x.PC=3∨x.PC=37);omega)
 ·intro c;unfold WK;dsimp only
  split
  ·exact no b1 b2 (by show ¬((0:Int)=3∨(0:Int)=37);decide)
  ·exact no b1 b2 (by show ¬((36:Int)=3∨(36:Int)=37);decide)
 ·intro c;unfold Ud;dsimp only
  split
  ·exact no b1 b2 (by have:=Zr s (wc (x.Slot+1));show ¬(onM s (wc (x.Slot+1))=3∨onM s (wc (x.Slot+1))=37);omega)
  ·exact ⟨b1,b2,fun _=>zuM h0 hv _ _⟩
 ·intro c;unfold Y5;dsimp only
  split
  ·exact no b1 b2 (by have:=Zr s x.Slot;show ¬(onM s x.Slot=3∨onM s x.Slot=37);omega)
  ·exact ⟨b1,b2,fun _=>by show (zm s x.G).2.Obj≤n;rw [(Vb s x.G).1];exact b3 (.inr c)⟩
 ·intro c;unfold zcF;exact no b1 b2 (by show ¬((39:Int)=3∨(39:Int)=37);decide)
 ·intro c;unfold zd9;exact no b1 b2 (by show ¬((35:Int)=3∨(35:Int)=37);decide)
 ·exact ⟨b1,b2,b3⟩
theorem zoO: ∀(l:List Int) (i:Nat) (v:Int),i<l.length→(l.set i v).sum=l.sum-l.getD i 0+v
 | [],i,v,h=>by simp at h
 | a::l,0,v,h=>by simp only [List.set_cons_zero,List.sum_cons,List.getD_cons_zero];omega
 | a::l,i+1,v,h=>by
  simp only [List.set_cons_succ,List.sum_cons,List.getD_cons_succ,zoO l i v (by simpa using h)];omega
structure LdI (p:zb) (k d:Int) (l:zo):Prop where
 pool:l.Pool=0
 sc:0≤l.Scanned∧l.Scanned≤k
 sp:l.Spent=p.Price*d
 bal: ∀b∈l.Bal,-p.Limit≤b∧b≤k
 sum:l.Bal.sum=l.Scanned-l.Spent
theorem LdI.more {p:zb} {k d:Int} {l:zo} (I:LdI p k d l):LdI p (k+1) d l :=
 ⟨I.pool,by have:=I.sc;omega,I.sp,fun b hb=>by have:=I.bal b hb;omega,I.sum⟩
theorem zyI {l:List Int} {i:Nat} (h:i<l.length):l.getD i 0∈l:=by
 rw [List.getD_eq_getElem?_getD,List.getElem?_eq_getElem h];exact List.getElem_mem h
theorem LdI.take {p:zb} {k d:Int} {l:zo} (I:LdI p k d l) (m w:Int):(zck l m w).1=l:=by
 unfold zck zle
 rw [if_neg]
 rintro ⟨_,h⟩
 rw [I.pool] at h
 split at h<;>omega
theorem LdI.earn {p:zb} (hp:zA p) {k d:Int} (hk:0≤k∧k≤1000) {l:zo} (I:LdI p k d l) {m:Int} (hm:1≤m∧m≤(l.Bal.length:Int)):LdI p (k+1) d (zcq l m):=by
 have hsc:=I.sc
 have hl:=hp.limit
 have hb:=I.bal _ (zyI (l:=l.Bal) (i:=(m-1).toNat) (by omega))
 unfold zcq
 rw [if_pos hm]
 have w1:wc (l.Scanned+1)=l.Scanned+1:=xf (by omega) (by omega)
 have w2:wc (l.Bal.getD (m-1).toNat 0+1)=l.Bal.getD (m-1).toNat 0+1:=xf (by omega) (by omega)
 rw [w1,w2]
 refine ⟨I.pool,by dsimp only;omega,I.sp,fun b hb'=> ?_,?_⟩
 ·rcases List.mem_or_eq_of_mem_set hb' with h | rfl
  ·have:=I.bal b h;omega
  ·omega
 ·dsimp only
  rw [zoO _ _ _ (by omega),I.sum];omega
theorem zzg {a d:Int} (h:0≤a∧a≤3):a*(d+1)=a*d+a:=by rw [Int.mul_add,Int.mul_one]
theorem zzE {a d:Int} (h:0≤a∧a≤3) (hd:0≤d∧d≤10):0≤a*d∧a*d≤30:=by
 refine ⟨Int.mul_nonneg h.1 hd.1,?_⟩
 have:=Int.mul_le_mul h.2 hd.2 hd.1 (by decide:(0:Int)≤3)
 omega
theorem LdI.spend {p:zb} (hp:zA p) {k d:Int} (hk:0≤k∧k≤1000) (hd:0≤d∧d≤9) {l:zo} (I:LdI p k d l) {m:Int} (h:ze7 l m p.Price p.Limit=true):LdI p (k+1) (d+1) (zb4 l m p.Price):=by
 have hsc:=I.sc
 have hl:=hp.limit
 have hpr:=hp.price
 have hsp:=zzE hpr (d:=d) (by omega)
 have e1:=I.sp
 unfold ze7 U9 U2 at h
 simp only [Bool.and_eq_true,decide_eq_true_eq] at h
 obtain ⟨⟨⟨⟨⟨⟨m1,m2⟩,_⟩,_⟩,_⟩,_⟩,h⟩:=h
 have hb:=I.bal _ (zyI (l:=l.Bal) (i:=(m-1).toNat) (by omega))
 unfold zbk at h
 rw [xf (by omega) (by omega),xf (by omega) (by omega)] at h
 unfold zb4 zbk
 rw [xf (by omega) (by omega),xf (by omega) (by omega)]
 refine ⟨I.pool,by dsimp only;omega,?_,fun b hb'=> ?_,?_⟩
 ·dsimp only;rw [zzg hpr];omega
 ·rcases List.mem_or_eq_of_mem_set hb' with h2 | rfl
  ·have:=I.bal b h2;omega
  ·omega
 ·dsimp only
  rw [zoO _ _ _ (by omega),I.sum];omega
structure NwI (p:zb) (k:Int) (s:za):Prop where
 mrk: ∀o,zL s.T.Marks o=true→o≤(s.H.Objs.length:Int)
 bm: ∀o,zL s.T.Black o=true→zL s.T.Marks o=true
 bk: ∀o,(p.H.Objs.length:Int)<o→o≤(s.H.Objs.length:Int)→yE s.T o=2
 buf: ∀x∈s.Ms,zbg (s.H.Objs.length:Int) x
 bl:s.L.Bal.length=s.Ms.length
 L:LdI p k ((s.H.Objs.length:Int)-(p.H.Objs.length:Int)) s.L
theorem zAB (l:zo) (m:Int):(zcq l m).Bal.length=l.Bal.length:=by unfold zcq;split<;>simp
theorem NwI.step {p:zb} {nb:Nat} (hp:zA p) {k:Int} (hk:0≤k∧k≤1000) {s:za} (E:EOk p nb s) (I:NwI p k s) (m:Int):NwI p (k+1) (zp s m):=by
 have hN:=E.H.n
 have hM:=hp.most
 have hn6:=hp.n
 unfold zp
 split
 ·exact ⟨I.mrk,I.bm,I.bk,I.buf,I.bl,I.L.more⟩
 rename_i hne
 cases hx:s.Ms[(m-1).toNat]? with
 | none=>exact ⟨I.mrk,I.bm,I.bk,I.buf,I.bl,I.L.more⟩
 | some x =>
  have hm:1≤m∧m≤(s.Ms.length:Int):=by omega
  have X:=E.X _ x hx
  have B:=I.buf x (List.mem_of_getElem? hx)
  have em:(((m-1).toNat:Nat):Int)+1=m:=by omega
  rw [em] at X
  have B':=ztN (s:=s) X (n:=(s.H.Objs.length:Int)) (by omega) (fun l hl v hv=>((E.H.objs l hl).2 v hv).2) B
  have bufs: ∀N':Int,(s.H.Objs.length:Int)≤N'→∀y∈s.Ms.set (m-1).toNat (zg s m x).2,zbg N' y:=fun N' hN' y hy=>by
   have up: ∀ {z:zc},zbg (s.H.Objs.length:Int) z→zbg N' z:=fun ⟨a,b,c⟩=>⟨fun v hv=>by have:=a v hv;omega,by omega,fun e=>by have:=c e;omega⟩
   rcases List.mem_or_eq_of_mem_set hy with h | rfl
   ·exact up (I.buf y h)
   ·exact up B'
  have hL:=I.L
  rcases zqm s m x with ⟨k1,k2,k3⟩ | ⟨k1,k2,k3,k4,k5⟩
  ·refine ⟨fun o ho=> ?_,fun o ho=> ?_,fun o h1 h2=> ?_,?_,?_,?_⟩
   ·dsimp only at ho ⊢
    rw [k1]
    rcases k2 with e | ⟨e,hpc⟩ | e
    ·rw [e] at ho;exact I.mrk o ho
    ·rw [e] at ho
     rcases (zf7 s.T x.G.Obj).2 with e2 | e2
     ·rw [e2] at ho;exact I.mrk o ho
     ·rw [e2] at ho
      rcases YV ho with h | rfl
      ·exact I.mrk o h
      ·exact B.2.2 hpc
    ·rw [e,(zeZ s.T x.Obj).1] at ho;exact I.mrk o ho
   ·dsimp only at ho ⊢
    rcases k2 with e | ⟨e,hpc⟩ | e
    ·rw [e] at ho ⊢;exact I.bm o ho
    ·rw [e] at ho ⊢
     rw [(zf7 s.T x.G.Obj).1] at ho
     have:=I.bm o ho
     rcases (zf7 s.T x.G.Obj).2 with e2 | e2
     ·rw [e2];exact this
     ·rw [e2];exact (ul _ _ _).2 (.inl this)
    ·rw [e] at ho ⊢
     rw [(zeZ s.T x.Obj).1]
     rcases (zeZ s.T x.Obj).2 with e2 | ⟨e2,h3⟩
     ·rw [e2] at ho;exact I.bm o ho
     ·rw [e2] at ho
      rcases YV ho with h | rfl
      ·exact I.bm o h
      ·exact h3
   ·dsimp only at h2 ⊢
    rw [k1] at h2
    have h:=(zui _ _).1 (I.bk o h1 h2)
    rw [zui]
    rcases k2 with e | ⟨e,hpc⟩ | e
    ·rw [e];exact h
    ·rw [e,(zf7 s.T x.G.Obj).1]
     refine ⟨?_,h.2⟩
     rcases (zf7 s.T x.G.Obj).2 with e2 | e2
     ·rw [e2];exact h.1
     ·rw [e2];exact (ul _ _ _).2 (.inl h.1)
    ·rw [e,(zeZ s.T x.Obj).1]
     refine ⟨h.1,?_⟩
     rcases (zeZ s.T x.Obj).2 with e2 | ⟨e2,_⟩
     ·rw [e2];exact h.2
     ·rw [e2];exact (ul _ _ _).2 (.inl h.2)
   ·dsimp only;rw [k1];exact bufs _ (Int.le_refl _)
   ·dsimp only
    rw [List.length_set]
    rcases k3 with e | ⟨w,e⟩ | e
    ·rw [e];exact I.bl
    ·rw [e,hL.take];exact I.bl
    ·rw [e,zAB];exact I.bl
   ·dsimp only
    rw [k1]
    rcases k3 with e | ⟨w,e⟩ | e
    ·rw [e];exact hL.more
    ·rw [e,hL.take];exact hL.more
    ·rw [e];exact hL.earn hp hk (by have:=I.bl;omega)
  ·have w:wc ((s.H.Objs.length:Int)+1)=(s.H.Objs.length:Int)+1:=xf (by omega) (by omega)
   have hal:=zc1 s.H
   have hP:=E.S.P
   have hr:(s.H.Objs.length:Int)<s.P.Most:=by
    unfold YP at k5
    simp only [Bool.and_eq_true,decide_eq_true_eq] at k5
    exact k5.1
   rw [hP] at hr k3 k4
   rw [w] at k2
   have nm: ¬zL s.T.Marks ((s.H.Objs.length:Int)+1)=true:=fun e=>by have:=I.mrk _ e;omega
   have nb': ¬zL s.T.Black ((s.H.Objs.length:Int)+1)=true:=fun e=>nm (I.bm _ e)
   have hsh:=ztl (t:=s.T) (o:=(s.H.Objs.length:Int)+1) (by omega) nm nb'
   have ht1:yE {s.T with Marks:=s.T.Marks|||bit ((s.H.Objs.length:Int)+1)} ((s.H.Objs.length:Int)+1)=1 :=
    (u7 _ _).2 ⟨(wE _ (by omega) _).2 (.inr rfl),nb'⟩
   have hT:(zg s m x).1.T=⟨s.T.Marks|||bit ((s.H.Objs.length:Int)+1),s.T.Black|||bit ((s.H.Objs.length:Int)+1)⟩:=by
    rw [k2]
    unfold YE
    rw [hsh]
    dsimp only
    rw [if_pos rfl]
    unfold wx
    rw [if_pos ht1]
   refine ⟨fun o ho=> ?_,fun o ho=> ?_,fun o h1 h2=> ?_,?_,?_,?_⟩
   ·dsimp only at ho ⊢
    rw [k1,hal]
    rw [hT] at ho
    rcases YV ho with h | rfl
    ·have:=I.mrk o h;omega
    ·omega
   ·dsimp only at ho ⊢
    rw [hT] at ho ⊢
    dsimp only at ho ⊢
    rw [ul]
    rcases (ul _ _ _).1 ho with h | h
    ·exact .inl (I.bm o h)
    ·exact .inr h
   ·dsimp only at h2 ⊢
    rw [k1,hal] at h2
    rw [zui,hT]
    dsimp only
    by_cases ho:o≤(s.H.Objs.length:Int)
    ·have h:=(zui _ _).1 (I.bk o h1 ho)
     exact ⟨(ul _ _ _).2 (.inl h.1),(ul _ _ _).2 (.inl h.2)⟩
    ·have:o=(s.H.Objs.length:Int)+1:=by omega
     subst this
     exact ⟨(wE _ (by omega) _).2 (.inr rfl),(wE _ (by omega) _).2 (.inr rfl)⟩
   ·dsimp only;rw [k1,hal];exact bufs _ (by omega)
   ·dsimp only
    rw [List.length_set,k3]
    unfold zb4
    rw [List.length_set]
    exact I.bl
   ·dsimp only
    rw [k3,k1,hal]
    have:=hL.spend hp hk (by omega) k4
    have e:((s.H.Objs.length+1:Nat):Int)-(p.H.Objs.length:Int)=(s.H.Objs.length:Int)-(p.H.Objs.length:Int)+1:=by omega
    rw [e]
    exact this
end
end Go.Pe.G
namespace Go.Pe.G
open Go.Pe
noncomputable section
theorem zAm (s:BitVec 64) {q:Int} (h:1≤q∧q≤64):zL (~~~s) q=true↔¬zL s q=true:=by
 rw [un,un,BitVec.getLsbD_not]
 simp only [show (q-1).toNat<64 by omega,decide_true,Bool.true_and,Bool.not_eq_true']
 constructor
 ·rintro ⟨_,_,e⟩ ⟨_,_,e2⟩;rw [e] at e2;cases e2
 ·intro e
  refine ⟨h.1,h.2,?_⟩
  cases hs:s.getLsbD (q-1).toNat with
  | false=>rfl
  | true=>exact absurd ⟨h.1,h.2,hs⟩ e
end
end Go.Pe.G
namespace Go.Pe.G
open Go.Pe
noncomputable section
def uB (p:zb) (s:za) (g:Gh):List Int:=yC p s g++(s.Ws.flatMap (zP s)++s.Ms.flatMap (zZ s))
structure FG (p:zb) (nb k:Nat) (s:za) (gh:Gh):Prop where
 E:EOk p nb s
 X:SX p nb s gh (s.Ws.flatMap wu++s.Ms.flatMap uu) k
 W: ∀(i:Nat) x,s.Ws[i]? =some x→WX p s gh ((i:Int)+1) x
 M: ∀(i:Nat) x,s.Ms[i]? =some x→MX p s gh x
 B:zaB (uB p s gh) s.T
 mrk: ∀o,zL s.T.Marks o=true→o≤(s.H.Objs.length:Int)
 wob: ∀(i:Nat) x,s.Ws[i]? =some x→x.PC=6→x.G.Obj≤(s.H.Objs.length:Int)
 buf: ∀x∈s.Ms,zbg (s.H.Objs.length:Int) x
 bk: ∀o,(p.H.Objs.length:Int)<o→o≤(s.H.Objs.length:Int)→zL s.T.Black o=true
 ne: ∀y∈gh.F,xt s y≠[]
theorem FX.ne {p:zb} {nb k:Nat} {s s':za} {gh gh':Gh} {Y R:List Int} {O:Int→Prop} (X:SX p nb s gh (Y++R) k) (Fx:FX p nb Y O s s' gh gh') (h: ∀y∈gh.F,xt s y≠[]): ∀y∈gh'.F,xt s' y≠[]:=fun y hy =>
 (Fx.fb y hy).elim (fun hy=>by
  have h1:=ztE.1 (X.L.all.subset (List.mem_append_left _ (List.mem_append_left _ hy)))
  have h2:y∉Y:=fun e=>(X.L.notF (List.mem_append_left _ e)).1 hy
  have:=Fx.bn y h1.1 h2
  unfold xt
  rw [this];exact h y hy) id
theorem MX.state {p:zb} {s s':za} {gh:Gh} {x:zc} (W:MX p s gh x) (hm:s'.M=s.M) (hb:s'.Bins=s.Bins):MX p s' gh x :=
 ⟨W.bt,W.bf,W.ol,fun e=>⟨(W.p3 e).1.state hm hb,(W.p3 e).2⟩,by rw [hm];exact W.p32,by rw [hm];exact W.p34,fun e=>⟨(W.p37 e).1.state hm hb,(W.p37 e).2⟩⟩
theorem zfy {s s':za} {x:zc} (hb:s'.Bins=s.Bins):zZ s' x=zZ s x:=by
 unfold zZ zcA xt;rw [hb]
def UI (s s':za):Prop :=
 (s'.T=s.T∧s'.H.Objs.length=s.H.Objs.length) ∨
 (∃o,(1≤o∧o≤(s.H.Objs.length:Int))∧¬zL s.T.Marks o=true∧s'.T={s.T with Marks:=s.T.Marks|||bit o}∧s'.H=s.H) ∨
 (∃o,yE s.T o=1∧s'.T={s.T with Black:=s.T.Black|||bit o}∧s'.H=s.H) ∨
 (s'.H=xV s.H∧(s.H.Objs.length:Int)<9∧s'.T=⟨s.T.Marks|||bit ((s.H.Objs.length:Int)+1),s.T.Black|||bit ((s.H.Objs.length:Int)+1)⟩)
theorem FG.tints {p:zb} {nb k:Nat} {s:za} {gh:Gh} (G:FG p nb k s gh) {s':za} (F:UI s s') :
  (∀o,zL s'.T.Marks o=true→o≤(s'.H.Objs.length:Int))∧(∀o,(p.H.Objs.length:Int)<o→o≤(s'.H.Objs.length:Int)→zL s'.T.Black o=true):=by
 rcases F with ⟨e,h⟩ | ⟨o,ho,hn,e,h⟩ | ⟨o,ho,e,h⟩ | ⟨h,hl,e⟩
 ·rw [e,h];exact ⟨G.mrk,G.bk⟩
 ·rw [e,h]
  refine ⟨fun q hq=> ?_,G.bk⟩
  rcases YV hq with hq | rfl
  ·exact G.mrk q hq
  ·exact ho.2
 ·rw [e,h]
  exact ⟨G.mrk,fun q h1 h2=>(ul _ _ _).2 (.inl (G.bk q h1 h2))⟩
 ·rw [e,h]
  have hal:=zc1 s.H
  refine ⟨fun q hq=> ?_,fun q h1 h2=> ?_⟩
  ·rcases YV hq with hq | rfl
   ·have:=G.mrk q hq;omega
   ·omega
  ·dsimp only
   by_cases hq:q≤(s.H.Objs.length:Int)
   ·exact (ul _ _ _).2 (.inl (G.bk q h1 hq))
   ·have:q=(s.H.Objs.length:Int)+1:=by omega
    subst this
    exact (wE _ (by omega) _).2 (.inr rfl)
theorem FG.det {p:zb} (hp:zA p) {nb k:Nat} {s:za} {gh:Gh} (G:FG p nb k s gh) (hd:({zD s with Epoch:=s.Epoch,Flag:=s.Flag,Done:=s.Done,Restarts:=s.Restarts,D:=s.D}:za)=s):FG p nb (k+1) (zD s) gh:=by
 have hE:=zxj hp G.E
 have eM:(zD s).M=s.M:=by conv=>rhs;rw [←hd]
 have eB:(zD s).Bins=s.Bins:=by conv=>rhs;rw [←hd]
 have eT:(zD s).T=s.T:=by conv=>rhs;rw [←hd]
 have eH:(zD s).H=s.H:=by conv=>rhs;rw [←hd]
 have eW:(zD s).Ws=s.Ws:=by conv=>rhs;rw [←hd]
 have eX:(zD s).Ms=s.Ms:=by conv=>rhs;rw [←hd]
 refine ⟨hE,?_,?_,?_,?_,by rw [eT,eH];exact G.mrk,by rw [eW,eH];exact G.wob,by rw [eX,eH];exact G.buf,by rw [eT,eH];exact G.bk,by unfold xt;rw [eB];exact G.ne⟩
 ·rw [eW,eX];exact G.X.quiet hE.S eM
 ·rw [eW];exact fun i x hx=>(G.W i x hx).state eM eB
 ·rw [eX];exact fun i x hx=>(G.M i x hx).state eM eB
 ·have e:uB p (zD s) gh=uB p s gh:=by
   unfold uB
   rw [eW,eX,uR eB,xP (fun x _=>zca (x:=x) eM eB),xP (fun x _=>zfy (x:=x) eB)]
  rw [e,eT];exact G.B
theorem FG.worker {p:zb} (hp:zA p) {nb k:Nat} {s:za} {gh:Gh} (hk:k<4294960000) (G:FG p nb k s gh) {w:Int} (hw:1≤w∧w≤p.Workers) (hd:s.Done=false): ∃gh',FG p nb (k+1) (zE s w) gh'∧UI s (zE s w) ∧
  ∃x,s.Ws[(w-1).toNat]? =some x∧∃N C,List.Perm (uB p (zE s w) gh'++C) (N++uB p s gh)∧((N=[]∧C=[]∧(zj s w x).1.T=s.T)∨(N=[x.G.Obj]∧C=[]∧x.PC=6∧¬(s.T.Marks|||bit x.G.Obj=s.T.Marks)∧(zj s w x).1.T={s.T with Marks:=s.T.Marks|||bit x.G.Obj})∨(N=[]∧C=[x.Obj]∧x.PC=8∧(zj s w x).1.T=wx s.T x.Obj)):=by
 have hE:=zuO hp G.E w
 have hwl:=G.E.wl
 have e0: ¬(s.Done=true∨w<1∨(s.Ws.length:Int)<w):=by rw [hd];rintro (e | e | e)<;>first | cases e | omega
 revert hE
 unfold zE
 rw [if_neg e0]
 have hi:(w-1).toNat<s.Ws.length:=by omega
 have hx:=List.getElem?_eq_getElem hi
 generalize s.Ws[(w-1).toNat]=x at hx
 rw [hx]
 dsimp only
 intro hE
 obtain ⟨a,b,el,es,hab,hba⟩:=zpB hx
 have ei:(((w-1).toNat:Nat):Int)+1=w:=by omega
 have hWX:=G.W _ x hx
 have hWO:=G.E.W _ x hx
 rw [ei] at hWX hWO
 have hfr:=zdQ (s:=s) hWO
 have eH:(zj s w x).1.H=s.H:=by rw [hfr]
 have eMs:(zj s w x).1.Ms=s.Ms:=by rw [hfr]
 have X0:SX p nb s gh (wu x++((a++b).flatMap wu++s.Ms.flatMap uu)) k:=by
  refine G.X.perm ?_
  rw [←List.append_assoc]
  refine List.Perm.append_right _ ?_
  conv=>rhs;rw [el]
  exact u6.symm
 obtain ⟨gh',X',W',Fx,N,C,hN,hT⟩:=zAI hp hk hw X0 hWO hWX (fun o i=>G.E.H.get hp o i)
 have hoth: ∀(j:Nat) y,j≠(w-1).toNat→s.Ws[j]? =some y→WX p (zj s w x).1 gh' ((j:Int)+1) y∧zP (zj s w x).1 y=zP s y:=by
  intro j y hj hy
  have hjl:=(List.getElem?_eq_some_iff.1 hy).1
  exact WX.other hp (w:=(j:Int)+1) (by omega) X0 Fx (G.W j y hy) (G.E.W j y hy) (fun z hz=>List.mem_append_left _ (List.mem_flatMap.2 ⟨y,hba j y hj hy,hz⟩)) (fun e=>hj (by omega))
 have hmut: ∀(j:Nat) y,s.Ms[j]? =some y→MX p (zj s w x).1 gh' y∧zZ (zj s w x).1 y=zZ s y:=by
  intro j y hy
  exact MX.other hp X0 Fx (G.M j y hy) (G.E.X j y hy) (fun z hz=>List.mem_append_right _ (List.mem_flatMap.2 ⟨y,List.mem_of_getElem? hy,hz⟩))
 have hbag:List.Perm (uB p {(zj s w x).1 with Ws:=s.Ws.set (w-1).toNat (zj s w x).2} gh'++C) (N++uB p s gh):=by
  unfold uB
  have q2:(s.Ws.set (w-1).toNat (zj s w x).2).flatMap (zP {(zj s w x).1 with Ws:=s.Ws.set (w-1).toNat (zj s w x).2})=(a++(zj s w x).2::b).flatMap (zP (zj s w x).1):=by
   rw [es];exact xP (fun y _=>zca rfl rfl)
  have q3:(a++b).flatMap (zP (zj s w x).1)=(a++b).flatMap (zP s):=xP (fun y hy=>by
   obtain ⟨j,hj,hjy⟩:=hab y hy
   exact (hoth j y hj hjy).2)
  have q4:(zj s w x).1.Ms.flatMap (zZ {(zj s w x).1 with Ws:=s.Ws.set (w-1).toNat (zj s w x).2})=s.Ms.flatMap (zZ s):=by
   rw [eMs]
   refine xP (fun y hy=> ?_)
   obtain ⟨j,hj⟩:=List.mem_iff_getElem?.1 hy
   exact (zfy (s:=(zj s w x).1) rfl).trans (hmut j y hj).2
  show List.Perm (yC p (zj s w x).1 gh'++((s.Ws.set (w-1).toNat (zj s w x).2).flatMap (zP {(zj s w x).1 with Ws:=s.Ws.set (w-1).toNat (zj s w x).2})++(zj s w x).1.Ms.flatMap (zZ {(zj s w x).1 with Ws:=s.Ws.set (w-1).toNat (zj s w x).2}))++C) _
  rw [q2,q4]
  have r1:List.Perm (yC p (zj s w x).1 gh'++((a++(zj s w x).2::b).flatMap (zP (zj s w x).1)++s.Ms.flatMap (zZ s))++C) (((a++b).flatMap (zP s)++s.Ms.flatMap (zZ s))++(yC p (zj s w x).1 gh'++zP (zj s w x).1 (zj s w x).2++C)):=by
   refine ((List.Perm.append_left _ (List.Perm.append_right _ u6)).append_right C).trans ?_
   rw [q3]
   generalize (a++b).flatMap (zP s)=u
   generalize s.Ms.flatMap (zZ s)=v
   generalize yC p (zj s w x).1 gh'=y
   generalize zP (zj s w x).1 (zj s w x).2=z
   have:List.Perm (y++(z++(u++v))++C) ((u++v)++(y++z++C)):=by
    generalize u++v=q
    rw [List.append_assoc,List.append_assoc,List.append_assoc]
    refine (List.Perm.append_left _ (List.perm_append_comm_assoc _ _ _)).trans ?_
    exact (List.perm_append_comm_assoc _ _ _)
   rw [List.append_assoc z u v]
   exact this
  have r2:List.Perm (N++(yC p s gh++(s.Ws.flatMap (zP s)++s.Ms.flatMap (zZ s)))) (((a++b).flatMap (zP s)++s.Ms.flatMap (zZ s))++(N++(yC p s gh++zP s x))):=by
   conv=>lhs;rw [el]
   refine (List.Perm.append_left _ (List.Perm.append_left _ (List.Perm.append_right _ u6))).trans ?_
   generalize (a++b).flatMap (zP s)=u
   generalize s.Ms.flatMap (zZ s)=v
   generalize yC p s gh=y
   generalize zP s x=z
   rw [List.append_assoc z u v]
   generalize u++v=q
   refine (List.Perm.append_left _ ?_).trans (List.perm_append_comm_assoc _ _ _)
   rw [←List.append_assoc]
   exact List.perm_append_comm
  exact r1.trans ((List.Perm.append_left _ hN).trans r2.symm)
 have hFM:UI s {(zj s w x).1 with Ws:=s.Ws.set (w-1).toNat (zj s w x).2}∧zaB (uB p {(zj s w x).1 with Ws:=s.Ws.set (w-1).toNat (zj s w x).2} gh') (zj s w x).1.T:=by
  rcases hT with ⟨e1,e2,t1⟩ | ⟨e1,e2,t1,t2,t3⟩ | ⟨e1,e2,t1,t2⟩
  ·rw [e1,e2,List.append_nil,List.nil_append] at hbag
   refine ⟨.inl ⟨t1,congrArg (fun h:zy=>h.Objs.length) eH⟩,⟨?_,hbag.nodup_iff.2 G.B.nd,fun o=> ?_⟩⟩
   ·rw [t1];exact G.B.blk
   ·rw [t1,hbag.mem_iff];exact G.B.gr o
  ·have ho:=((hWX.p6 t1).1).ob
   rw [e1,e2,List.append_nil] at hbag
   refine ⟨.inr (.inl ⟨x.G.Obj,⟨ho.1,G.wob _ x hx t1⟩,(za7 ho).1 t2,t3,eH⟩),?_⟩
   rw [t3]
   exact G.B.more ho t2 hbag
  ·rw [e1,e2,List.nil_append] at hbag
   obtain ⟨b1,b2,b3,b4⟩:=G.B.less hbag
   refine ⟨.inr (.inr (.inl ⟨x.Obj,b3,?_,eH⟩)),by rw [t2];exact b1⟩
   show (zj s w x).1.T=_
   rw [t2];unfold wx;rw [if_pos b3]
 obtain ⟨hFM,hB⟩:=hFM
 obtain ⟨t1,t2⟩:=G.tints hFM
 refine ⟨gh',⟨hE,?_,fun j y hy=> ?_,fun j y hy=> ?_,hB,t1,fun j y hy h6=> ?_,fun y hy=> ?_,t2,fun y hy=>show xt (zj s w x).1 y≠[] from FX.ne X0 Fx G.ne y hy⟩,hFM,x,rfl,N,C,hbag,hT⟩
 ·refine (X'.state hE.S rfl).perm ?_
  show List.Perm ((s.Ws.set (w-1).toNat (zj s w x).2).flatMap wu++(zj s w x).1.Ms.flatMap uu) _
  rw [es,eMs,←List.append_assoc]
  exact List.Perm.append_right _ u6
 ·have hy:(s.Ws.set (w-1).toNat (zj s w x).2)[j]? =some y:=hy
  by_cases hj:j=(w-1).toNat
  ·subst hj
   rw [List.getElem?_set_self hi] at hy
   injection hy with hy
   rw [←hy,ei]
   exact W'.state rfl rfl
  ·rw [List.getElem?_set_ne (fun e=>hj e.symm)] at hy
   exact (hoth j y hj hy).1.state rfl rfl
 ·have hy:(zj s w x).1.Ms[j]? =some y:=hy
  rw [eMs] at hy
  exact (hmut j y hy).1.state rfl rfl
 ·have hy:(s.Ws.set (w-1).toNat (zj s w x).2)[j]? =some y:=hy
  show y.G.Obj≤((zj s w x).1.H.Objs.length:Int)
  rw [eH]
  by_cases hj:j=(w-1).toNat
  ·subst hj
   rw [List.getElem?_set_self hi] at hy
   injection hy with hy
   rw [←hy] at h6 ⊢
   rcases zzA s w x h6 with ⟨h,e⟩ | ⟨h,e⟩
   ·rw [e];exact G.wob _ x hx h
   ·rw [e];exact zuM (by omega) (fun l hl v hv=>((G.E.H.objs l hl).2 v hv).2) _ _
  ·rw [List.getElem?_set_ne (fun e=>hj e.symm)] at hy
   exact G.wob j y hy h6
 ·have hy:y∈(zj s w x).1.Ms:=hy
  show zbg ((zj s w x).1.H.Objs.length:Int) y
  rw [eMs] at hy
  rw [eH]
  exact G.buf y hy
theorem zpF (s:za) (m:Int) (x:zc):(zg s m x).1.H=s.H∨x.PC=23∨x.PC=30:=by
 refine yw (motive:=fun r=>r.1.H=s.H∨x.PC=23∨x.PC=30) s m x ?_ ?_ ?_ ?_ ?_ ?_ ?_ ?_ ?_ ?_ ?_ ?_ ?_ ?_ ?_ ?_ ?_ ?_ ?_ ?_
 all_goals first
  | exact fun _=> .inl rfl
  | exact fun c=> .inr (.inl c)
  | exact fun c=> .inr (.inr c)
  | (intro c;unfold mu3;exact .inl (by dsimp only;rw [XB]))
  | (intro c;unfold Y5;exact .inl (by dsimp only;rw [XB]))
  | exact .inl rfl
theorem zqq {t:zt} {n:Int} (hn:1≤n∧n≤64) (nm: ¬zL t.Marks n=true) (nb': ¬zL t.Black n=true):YE t n=⟨t.Marks|||bit n,t.Black|||bit n⟩:=by
 have ht1:yE {t with Marks:=t.Marks|||bit n} n=1:=(u7 _ _).2 ⟨(wE _ hn _).2 (.inr rfl),nb'⟩
 unfold YE
 rw [ztl hn nm nb']
 dsimp only
 rw [if_pos rfl]
 unfold wx
 rw [if_pos ht1]
theorem zaB.fresh {B B':List Int} {t:zt} {n:Int} (hn:1≤n∧n≤64) (nm: ¬zL t.Marks n=true) (K:zaB B t) (h:List.Perm B' B):zaB B' ⟨t.Marks|||bit n,t.Black|||bit n⟩:=by
 refine ⟨fun o ho=> ?_,h.nodup_iff.2 K.nd,fun o=> ?_⟩
 ·rcases (wE _ hn o).1 ho with h | h
  ·exact (wE _ hn o).2 (.inl (K.blk o h))
  ·exact (wE _ hn o).2 (.inr h)
 ·rw [h.mem_iff,K.gr,u7,u7]
  dsimp only
  rw [wE _ hn,wE _ hn]
  constructor
  ·rintro ⟨a1,a2⟩
   refine ⟨.inl a1,fun e=>e.elim a2 (fun e=> ?_)⟩
   rw [e] at a1;exact nm a1
  ·rintro ⟨a1,a2⟩
   exact ⟨a1.resolve_right (fun e=>a2 (.inr e)),fun e=>a2 (.inl e)⟩
theorem FG.mut_tint {p:zb} (hp:zA p) {nb k:Nat} {s:za} {gh:Gh} (G:FG p nb k s gh) {m:Int} {x:zc} (hMX:MX p s gh x) (hBI:zbg (s.H.Objs.length:Int) x) {l:List zc} {N C B':List Int}
  (hbag:List.Perm (B'++C) (N++uB p s gh))
  (hT:(N=[]∧C=[]∧(zg s m x).1.T=s.T)∨(N=[x.G.Obj]∧C=[]∧(x.PC=3∨x.PC=37)∧¬(s.T.Marks|||bit x.G.Obj=s.T.Marks)∧(zg s m x).1.T={s.T with Marks:=s.T.Marks|||bit x.G.Obj})∨(N=[]∧C=[x.Obj]∧x.PC=38∧(zg s m x).1.T=wx s.T x.Obj) ∨
   (N=[]∧C=[]∧x.PC=30∧YP s.H s.P.Most=true∧(zg s m x).1.H=xV s.H∧(zg s m x).1.T=YE s.T (wc (s.H.Objs.length+1)))) :
  UI s {(zg s m x).1 with Ms:=l}∧zaB B' (zg s m x).1.T:=by
 have hN0:=G.E.H.n
 have hM0:=hp.most
 have hn6:=hp.n
 have nm: ¬zL s.T.Marks ((s.H.Objs.length:Int)+1)=true:=fun e=>by have:=G.mrk _ e;omega
 have nb': ¬zL s.T.Black ((s.H.Objs.length:Int)+1)=true:=fun e=>nm (G.B.blk _ e)
 have hw:wc ((s.H.Objs.length:Int)+1)=(s.H.Objs.length:Int)+1:=xf (by omega) (by omega)
 rcases hT with ⟨e1,e2,t1⟩ | ⟨e1,e2,t1,t2,t3⟩ | ⟨e1,e2,t1,t2⟩ | ⟨e1,e2,t1,t2,t3,t4⟩
 ·rw [e1,e2,List.append_nil,List.nil_append] at hbag
  refine ⟨.inl ⟨t1,?_⟩,⟨?_,hbag.nodup_iff.2 G.B.nd,fun o=> ?_⟩⟩
  ·show (zg s m x).1.H.Objs.length=_
   rcases zqm s m x with h | ⟨h1,h2,_,_,h5⟩
   ·exact h.1
   ·exfalso
    rw [t1,hw,zqq (by omega) nm nb'] at h2
    have h3:=congrArg zt.Marks h2
    exact nm (by rw [h3];exact (wE _ (by omega) _).2 (.inr rfl))
  ·rw [t1];exact G.B.blk
  ·rw [t1,hbag.mem_iff];exact G.B.gr o
 ·have ho:1≤x.G.Obj∧x.G.Obj≤64:=by
   rcases t1 with h | h
   ·exact (hMX.p3 h).1.ob
   ·exact (hMX.p37 h).1.ob
  rw [e1,e2,List.append_nil] at hbag
  have eH:(zg s m x).1.H=s.H:=by
   rcases zpF s m x with h | h | h
   ·exact h
   ·omega
   ·omega
  refine ⟨.inr (.inl ⟨x.G.Obj,⟨ho.1,hBI.2.2 t1⟩,(za7 ho).1 t2,t3,eH⟩),?_⟩
  rw [t3]
  exact G.B.more ho t2 hbag
 ·rw [e1,e2,List.nil_append] at hbag
  obtain ⟨b1,b2,b3,b4⟩:=G.B.less hbag
  have eH:(zg s m x).1.H=s.H:=by
   rcases zpF s m x with h | h | h
   ·exact h
   ·omega
   ·omega
  refine ⟨.inr (.inr (.inl ⟨x.Obj,b3,?_,eH⟩)),by rw [t2];exact b1⟩
  show (zg s m x).1.T=_
  rw [t2];unfold wx;rw [if_pos b3]
 ·rw [e1,e2,List.append_nil,List.nil_append] at hbag
  have hr:(s.H.Objs.length:Int)<s.P.Most:=by
   unfold YP at t2
   simp only [Bool.and_eq_true,decide_eq_true_eq] at t2
   exact t2.1
  rw [G.E.S.P] at hr
  have hTT:(zg s m x).1.T=⟨s.T.Marks|||bit ((s.H.Objs.length:Int)+1),s.T.Black|||bit ((s.H.Objs.length:Int)+1)⟩:=by
   rw [t4,hw,zqq (by omega) nm nb']
  refine ⟨.inr (.inr (.inr ⟨t3,by omega,hTT⟩)),?_⟩
  rw [hTT]
  exact G.B.fresh (by omega) nm hbag
theorem FG.mutator {p:zb} (hp:zA p) {nb k:Nat} {s:za} {gh:Gh} (hk:k<4294960000) (G:FG p nb k s gh) {m:Int} (hm:1≤m∧m≤p.Mutators) (hd:s.Done=false): ∃gh',FG p nb (k+1) (zp s m) gh'∧UI s (zp s m) ∧
  ∃x,s.Ms[(m-1).toNat]? =some x∧∃N C,List.Perm (uB p (zp s m) gh'++C) (N++uB p s gh)∧((N=[]∧C=[]∧(zg s m x).1.T=s.T)∨(N=[x.G.Obj]∧C=[]∧(x.PC=3∨x.PC=37)∧¬(s.T.Marks|||bit x.G.Obj=s.T.Marks)∧(zg s m x).1.T={s.T with Marks:=s.T.Marks|||bit x.G.Obj})∨(N=[]∧C=[x.Obj]∧x.PC=38∧(zg s m x).1.T=wx s.T x.Obj) ∨
   (N=[]∧C=[]∧x.PC=30∧YP s.H s.P.Most=true∧(zg s m x).1.H=xV s.H∧(zg s m x).1.T=YE s.T (wc (s.H.Objs.length+1)))):=by
 have hE:=zkk hp G.E m
 have hml:=G.E.ml
 have hwl:=G.E.wl
 have hN0:=G.E.H.n
 have hM0:=hp.most
 have hn6:=hp.n
 have e0: ¬(s.Done=true∨m<1∨(s.Ms.length:Int)<m):=by rw [hd];rintro (e | e | e)<;>first | cases e | omega
 revert hE
 unfold zp
 rw [if_neg e0]
 have hi:(m-1).toNat<s.Ms.length:=by omega
 have hx:=List.getElem?_eq_getElem hi
 generalize s.Ms[(m-1).toNat]=x at hx
 rw [hx]
 dsimp only
 intro hE
 obtain ⟨a,b,el,es,hab,hba⟩:=zpB hx
 have ei:(((m-1).toNat:Nat):Int)+1=m:=by omega
 have hMX:=G.M _ x hx
 have hXO:=G.E.X _ x hx
 rw [ei] at hXO
 have hBI:=G.buf x (List.mem_of_getElem? hx)
 have hfr:=zc8 s m x
 have eWs:(zg s m x).1.Ws=s.Ws:=by rw [hfr]
 have X0:SX p nb s gh (uu x++((a++b).flatMap uu++s.Ws.flatMap wu)) k:=by
  refine G.X.perm ?_
  rw [←List.append_assoc]
  refine List.Perm.trans (List.Perm.append_right _ ?_) List.perm_append_comm
  conv=>rhs;rw [el]
  exact u6.symm
 obtain ⟨gh',X',M',Fx,N,C,hN,hT⟩:=zCl hp hk X0 hXO hMX (zee hp m) (fun o i=>G.E.H.get hp o i)
 have hoth: ∀(j:Nat) y,j≠(m-1).toNat→s.Ms[j]? =some y→MX p (zg s m x).1 gh' y∧zZ (zg s m x).1 y=zZ s y:=by
  intro j y hj hy
  exact MX.other hp X0 Fx (G.M j y hy) (G.E.X j y hy) (fun z hz=>List.mem_append_left _ (List.mem_flatMap.2 ⟨y,hba j y hj hy,hz⟩))
 have hwrk: ∀(j:Nat) y,s.Ws[j]? =some y→WX p (zg s m x).1 gh' ((j:Int)+1) y∧zP (zg s m x).1 y=zP s y:=by
  intro j y hy
  have hjl:=(List.getElem?_eq_some_iff.1 hy).1
  exact WX.other hp (w:=(j:Int)+1) (by omega) X0 Fx (G.W j y hy) (G.E.W j y hy) (fun z hz=>List.mem_append_right _ (List.mem_flatMap.2 ⟨y,List.mem_of_getElem? hy,hz⟩)) (fun e=>e)
 have hbag:List.Perm (uB p {(zg s m x).1 with Ms:=s.Ms.set (m-1).toNat (zg s m x).2} gh'++C) (N++uB p s gh):=by
  unfold uB
  have q2:(s.Ms.set (m-1).toNat (zg s m x).2).flatMap (zZ {(zg s m x).1 with Ms:=s.Ms.set (m-1).toNat (zg s m x).2})=(a++(zg s m x).2::b).flatMap (zZ (zg s m x).1):=by
   rw [es];exact xP (fun y _=>zfy rfl)
  have q3:(a++b).flatMap (zZ (zg s m x).1)=(a++b).flatMap (zZ s):=xP (fun y hy=>by
   obtain ⟨j,hj,hjy⟩:=hab y hy
   exact (hoth j y hj hjy).2)
  have q4:(zg s m x).1.Ws.flatMap (zP {(zg s m x).1 with Ms:=s.Ms.set (m-1).toNat (zg s m x).2})=s.Ws.flatMap (zP s):=by
   rw [eWs]
   refine xP (fun y hy=> ?_)
   obtain ⟨j,hj⟩:=List.mem_iff_getElem?.1 hy
   exact (zca (s:=(zg s m x).1) rfl rfl).trans (hwrk j y hj).2
  show List.Perm (yC p (zg s m x).1 gh'++((zg s m x).1.Ws.flatMap (zP {(zg s m x).1 with Ms:=s.Ms.set (m-1).toNat (zg s m x).2})++(s.Ms.set (m-1).toNat (zg s m x).2).flatMap (zZ {(zg s m x).1 with Ms:=s.Ms.set (m-1).toNat (zg s m x).2}))++C) _
  rw [q2,q4]
  have r1:List.Perm (yC p (zg s m x).1 gh'++(s.Ws.flatMap (zP s)++(a++(zg s m x).2::b).flatMap (zZ (zg s m x).1))++C) ((s.Ws.flatMap (zP s)++(a++b).flatMap (zZ s))++(yC p (zg s m x).1 gh'++zZ (zg s m x).1 (zg s m x).2++C)):=by
   refine ((List.Perm.append_left _ (List.Perm.append_left _ u6)).append_right C).trans ?_
   rw [q3]
   generalize (a++b).flatMap (zZ s)=u
   generalize s.Ws.flatMap (zP s)=v
   generalize yC p (zg s m x).1 gh'=y
   generalize zZ (zg s m x).1 (zg s m x).2=z
   refine ((List.Perm.append_left y (List.perm_append_comm_assoc v z u)).append_right C).trans ?_
   generalize v++u=q
   rw [List.append_assoc,List.append_assoc,List.append_assoc]
   refine (List.Perm.append_left _ (List.perm_append_comm_assoc _ _ _)).trans ?_
   exact (List.perm_append_comm_assoc _ _ _)
  have r2:List.Perm (N++(yC p s gh++(s.Ws.flatMap (zP s)++s.Ms.flatMap (zZ s)))) ((s.Ws.flatMap (zP s)++(a++b).flatMap (zZ s))++(N++(yC p s gh++zZ s x))):=by
   conv=>lhs;rw [el]
   refine (List.Perm.append_left _ (List.Perm.append_left _ (List.Perm.append_left _ u6))).trans ?_
   generalize (a++b).flatMap (zZ s)=u
   generalize s.Ws.flatMap (zP s)=v
   generalize yC p s gh=y
   generalize zZ s x=z
   refine (List.Perm.append_left N (List.Perm.append_left y (List.perm_append_comm_assoc v z u))).trans ?_
   generalize v++u=q
   refine (List.Perm.append_left _ ?_).trans (List.perm_append_comm_assoc _ _ _)
   rw [←List.append_assoc]
   exact List.perm_append_comm
  exact r1.trans ((List.Perm.append_left _ hN).trans r2.symm)
 have hlen:(zg s m x).1.H.Objs.length=s.H.Objs.length∨(zg s m x).1.H=xV s.H:=by
  rcases zqm s m x with h | h
  ·exact .inl h.1
  ·exact .inr h.1
 have hFM:=G.mut_tint hp (m:=m) (l:=s.Ms.set (m-1).toNat (zg s m x).2) hMX hBI hbag hT
 obtain ⟨hFM,hB⟩:=hFM
 obtain ⟨t1,t2⟩:=G.tints hFM
 have hN1:(s.H.Objs.length:Int)≤((zg s m x).1.H.Objs.length:Int):=by
  rcases hlen with h | h
  ·omega
  ·rw [h,zc1];omega
 have B':=ztN (s:=s) hXO (n:=(s.H.Objs.length:Int)) (by omega) (fun l hl v hv=>((G.E.H.objs l hl).2 v hv).2) hBI
 refine ⟨gh',⟨hE,?_,fun j y hy=> ?_,fun j y hy=> ?_,hB,t1,fun j y hy h6=> ?_,fun y hy=> ?_,t2,fun y hy=>show xt (zg s m x).1 y≠[] from FX.ne X0 Fx G.ne y hy⟩,hFM,x,rfl,N,C,hbag,hT⟩
 ·refine (X'.state hE.S rfl).perm ?_
  show List.Perm ((zg s m x).1.Ws.flatMap wu++(s.Ms.set (m-1).toNat (zg s m x).2).flatMap uu) _
  rw [es,eWs,←List.append_assoc]
  exact List.perm_append_comm.trans (List.Perm.append_right _ u6)
 ·have hy:(zg s m x).1.Ws[j]? =some y:=hy
  rw [eWs] at hy
  exact (hwrk j y hy).1.state rfl rfl
 ·have hy:(s.Ms.set (m-1).toNat (zg s m x).2)[j]? =some y:=hy
  by_cases hj:j=(m-1).toNat
  ·subst hj
   rw [List.getElem?_set_self hi] at hy
   injection hy with hy
   rw [←hy]
   exact M'.state rfl rfl
  ·rw [List.getElem?_set_ne (fun e=>hj e.symm)] at hy
   exact (hoth j y hj hy).1.state rfl rfl
 ·have hy:(zg s m x).1.Ws[j]? =some y:=hy
  rw [eWs] at hy
  have:=G.wob j y hy h6
  show y.G.Obj≤((zg s m x).1.H.Objs.length:Int)
  omega
 ·have up: ∀ {z:zc},zbg (s.H.Objs.length:Int) z→zbg ((zg s m x).1.H.Objs.length:Int) z:=fun ⟨a,b,c⟩=>⟨fun v hv=>by have:=a v hv;omega,by omega,fun e=>by have:=c e;omega⟩
  rcases List.mem_or_eq_of_mem_set (show y∈s.Ms.set (m-1).toNat (zg s m x).2 from hy) with h | rfl
  ·exact up (G.buf y h)
  ·exact up B'
theorem zBx {p:zb} (h:zA p):FG p (zX p+1) 0 (yz p) (gh0 p):=by
 have G:=zBJ h
 have hn:=h.n
 have hms: ∀x∈(yz p).Ms,∃r,x=xh r:=fun x hx=>by
  obtain ⟨r,_,e⟩:=List.mem_map.1 (show x∈p.Regs.map xh from hx)
  exact ⟨r,e.symm⟩
 have own:(yz p).Ms.flatMap uu=[]:=zaU (fun x hx=>by
  obtain ⟨r,rfl⟩:=hms x hx
  exact vQ ⟨by show (0:Int)≠3;decide,by show (0:Int)≠33;decide,by show (0:Int)≠34;decide,by show (0:Int)≠37;decide⟩)
 have hold:(yz p).Ms.flatMap (zZ (yz p))=[]:=zaU (fun x hx=>by
  obtain ⟨r,rfl⟩:=hms x hx
  unfold zZ
  rw [uE ⟨by show (0:Int)≠3;decide,by show (0:Int)≠33;decide,by show (0:Int)≠36;decide,by show (0:Int)≠37;decide,by show (0:Int)≠38;decide⟩];rfl)
 refine ⟨G.E,by rw [own,List.append_nil];exact G.X,G.W,fun i x hx=> ?_,?_,fun o ho=> ?_,fun i x hx h6=> ?_,fun x hx=> ?_,fun o h1 h2=> ?_,zBS h⟩
 ·obtain ⟨r,rfl⟩:=hms x (List.mem_of_getElem? hx)
  exact MX.plain ⟨by show (0:Int)≠3;decide,by show (0:Int)≠32;decide,by show (0:Int)≠34;decide,by show (0:Int)≠37;decide⟩ (fun _=>rfl) (fun v hv=>by cases hv)
   ⟨fun e=>absurd e (by show ¬(0:Int)=21;decide),fun e=>absurd e (by show ¬((0:Int)=22∨(((0:Int)=1∨(0:Int)=3)∧(0:Int)=22));decide)⟩
 ·have e:uB p (yz p) (gh0 p)=zno p (yz p) (gh0 p):=by unfold uB zno;rw [hold,List.append_nil]
  rw [e];exact G.B
 ·have ho:zL (uW p) o=true:=ho
  show o≤(p.H.Objs.length:Int)
  refine Int.not_lt.1 fun hlt=> ?_
  obtain ⟨a,b,_⟩:=(un _ _).1 ho
  have b2: ¬zL (Uf (p.H.Objs.length:Int)) o=true:=fun e=>by
   have:=(zxx (n:=p.H.Objs.length) (by omega) o).1 e
   omega
  have b3:=(zcv _ _ o).2 ⟨ho,(zAm _ (by omega)).2 b2⟩
  rw [zli h] at b3
  exact zaY o b3
 ·obtain ⟨j,_,e⟩:=List.mem_map.1 (show x∈(List.range p.Workers.toNat).map (vT p) from List.mem_of_getElem? hx)
  rw [←e] at h6
  exact absurd h6 (by show ¬(0:Int)=6;decide)
 ·obtain ⟨r,rfl⟩:=hms x hx
  exact ⟨fun v hv=>(by cases hv),(by show (0:Int)≤(p.H.Objs.length:Int);omega),fun e=>absurd e (by show ¬((0:Int)=3∨(0:Int)=37);decide)⟩
 ·have:o≤(p.H.Objs.length:Int):=h2
  omega
theorem FG.grey {p:zb} {nb k:Nat} {s:za} {gh:Gh} (G:FG p nb k s gh) {o:Int} (h:o∈uB p s gh):yE s.T o=1:=(G.B.gr o).1 h
theorem zlV {p:zb} {s:za} {gh:Gh} {i:Nat} {x:ze} (hx:s.Ws[i]? =some x) {o:Int} (h:o∈zP s x):o∈uB p s gh :=
 List.mem_append_right _ (List.mem_append_left _ (List.mem_flatMap.2 ⟨x,List.mem_of_getElem? hx,h⟩))
theorem zdk {p:zb} {s:za} {gh:Gh} {i:Nat} {x:zc} (hx:s.Ms[i]? =some x) {o:Int} (h:o∈zZ s x):o∈uB p s gh :=
 List.mem_append_right _ (List.mem_append_right _ (List.mem_flatMap.2 ⟨x,List.mem_of_getElem? hx,h⟩))
end
end Go.Pe.G
namespace Go.Pe.G
open Go.Pe
noncomputable section
inductive Reach (h:zy) (R:BitVec 64):Int→Prop
 | root (o:Int) (h1:zL R o=true) (h2:1≤o∧o≤(h.Objs.length:Int)):Reach h R o
 | step (o v:Int) (h1:Reach h R o) (h2:v∈zW h o) (h3:1≤v∧v≤(h.Objs.length:Int)):Reach h R v
theorem Reach.in {h:zy} {R:BitVec 64} {o:Int} (r:Reach h R o):1≤o∧o≤(h.Objs.length:Int):=by
 cases r with
 | root _ _ h2=>exact h2
 | step _ _ _ _ h3=>exact h3
def mt (met:List Int) (o:Int):Int:=met.getD (o-1).toNat 0
def zjZ (met:List Int):Nat:=met.countP (fun x=>decide (x=0))
theorem zBO {met:List Int} {o:Int} (h:1≤o∧o≤(met.length:Int)):met[(o-1).toNat]? =some (mt met o):=by
 have e:=List.getElem?_eq_getElem (show (o-1).toNat<met.length by omega)
 unfold mt
 rw [List.getD_eq_getElem?_getD,e];rfl
theorem znL {met:List Int} {o q x:Int} (h:1≤o∧o≤(met.length:Int)) (hq:1≤q):mt (met.set (o-1).toNat x) q=if q=o then x else mt met q:=by
 unfold mt
 rw [List.getD_eq_getElem?_getD,List.getD_eq_getElem?_getD,List.getElem?_set]
 by_cases e:q=o
 ·subst e;rw [if_pos rfl,if_pos rfl,if_pos (by omega)];rfl
 ·rw [if_neg (by omega),if_neg e]
theorem zy9 {met:List Int} {o x:Int} (h:1≤o∧o≤(met.length:Int)) (h0:mt met o=0) (hx:x≠0):zjZ (met.set (o-1).toNat x)+1=zjZ met:=by
 have hl:(o-1).toNat<met.length:=by omega
 have e:met[(o-1).toNat]'hl=0:=by
  have:=zBO h
  rw [h0,List.getElem?_eq_getElem hl] at this
  exact Option.some.inj this
 have hm:(0:Int)∈met:=by rw [←e];exact List.getElem_mem hl
 have hp:0<zjZ met:=List.countP_pos_iff.2 ⟨0,hm,by simp⟩
 unfold zjZ at hp ⊢
 rw [List.countP_set hl,e]
 simp [hx]
 omega
structure RI (h:zy) (R:BitVec 64) (met wait:List Int):Prop where
 len:met.length=64
 val: ∀o,1≤o→0≤mt met o∧mt met o≤100-(zjZ met:Int)
 rc: ∀o,1≤o→0<mt met o→Reach h R o
 rt: ∀o,zL R o=true→1≤o∧o≤(h.Objs.length:Int)→0<mt met o
 wt: ∀o∈wait,(1≤o∧o≤(h.Objs.length:Int))∧0<mt met o
 cl: ∀o,1≤o→0<mt met o→o∉wait→∀v∈zW h o,1≤v∧v≤(h.Objs.length:Int)→0<mt met v
 zl:zjZ met≤64
theorem RI.add {h:zy} {R:BitVec 64} {met wait:List Int} {o v:Int} (hn:h.Objs.length≤9) (I:RI h R met wait) (ho:o∈wait) (hv:v∈zW h o) (hr:1≤v∧v≤(h.Objs.length:Int)) (h0:mt met v=0) :
  RI h R (met.set (v-1).toNat (mt met o+1)) (wait++[v])∧zjZ (met.set (v-1).toNat (mt met o+1))+1=zjZ met:=by
 obtain ⟨ho1,ho2⟩:=I.wt o ho
 have hlen:=I.len
 have hvl:1≤v∧v≤(met.length:Int):=by omega
 have hz:=zy9 (x:=mt met o+1) hvl h0 (by omega)
 have hval:=I.val o ho1.1
 have hzl:=I.zl
 have key: ∀q,1≤q→0<mt met q→0<mt (met.set (v-1).toNat (mt met o+1)) q:=fun q hq hp=>by
  rw [znL hvl hq];split<;>omega
 refine ⟨⟨by rw [List.length_set];exact hlen,fun q hq=> ?_,fun q hq hp=> ?_,fun q a b=>key q b.1 (I.rt q a b),fun q hq=> ?_,fun q hq hp hw u hu hur=> ?_,by omega⟩,hz⟩
 ·have:=I.val q hq
  rw [znL hvl hq];split<;>omega
 ·rw [znL hvl hq] at hp
  split at hp
  ·rename_i e;subst e;exact .step o q (I.rc o ho1.1 ho2) hv hr
  ·exact I.rc q hq hp
 ·rcases List.mem_append.1 hq with hq | hq
  ·exact ⟨(I.wt q hq).1,key q (I.wt q hq).1.1 (I.wt q hq).2⟩
  ·simp at hq;subst hq
   refine ⟨hr,?_⟩
   rw [znL hvl hr.1,if_pos rfl];omega
 ·have hw1:q∉wait:=fun e=>hw (List.mem_append_left _ e)
  have hw2:q≠v:=fun e=>hw (by rw [e];simp)
  rw [znL hvl hq,if_neg hw2] at hp
  exact key u hur.1 (I.cl q hq hp hw1 u hu hur)
end
end Go.Pe.G
namespace Go.Pe.G
open Go.Pe
noncomputable section
end
end Go.Pe.G
namespace Go.Pe.G
open Go.Pe
noncomputable section
def ziZ (x:ze) (u j:Int):Prop:=(x.PC=5∨x.PC=6∨x.PC=8)→x.Obj=u→x.Slot≤j
def zqr (x:zc) (u j:Int):Prop:=(x.PC=36∨x.PC=37∨x.PC=38)→x.Obj=u→x.Slot≤j
def US (s:za) (u j:Int):Prop:=(∀(i:Nat) x,s.Ws[i]? =some x→ziZ x u j)∧(∀(i:Nat) x,s.Ms[i]? =some x→zqr x u j)
def zr6 (g:zC) (o:Int):Prop:=g.Out=0∧(g.PC=0∨g.PC=1)∧g.Obj=o
def zki (x:ze) (o:Int):Prop:=x.PC=6∧zr6 x.G o
def VL (x:zc) (o:Int):Prop:=o∈x.Buf∨((x.PC=22∨((x.PC=1∨x.PC=3)∧x.Ret=22))∧x.Old=o)∨((x.PC=3∨x.PC=37)∧zr6 x.G o)
def zmU (s:za) (o:Int):Prop:=(∃(i:Nat) (x:ze),s.Ws[i]? =some x∧zki x o)∨(∃(i:Nat) (x:zc),s.Ms[i]? =some x∧VL x o)
inductive zmx (s:za) (W:Int→Int→Prop):Int→Prop
 | pend (o:Int) (h:zmU s o):zmx s W o
 | white (u j o:Int) (hW: ¬W u j) (hj:yK s.H u j=true) (he:zN s.H u j=o) (hu: ¬zL s.T.Marks u=true) (hp:zmx s W u):zmx s W o
 | grey (u j o:Int) (hW: ¬W u j) (hj:yK s.H u j=true) (he:zN s.H u j=o) (hg:yE s.T u=1) (hs:US s u j):zmx s W o
structure zrn (s s':za) (W W':Int→Int→Prop):Prop where
 mono: ∀o,zL s.T.Marks o=true→zL s'.T.Marks o=true
 hp: ∀o,zmU s o→zL s'.T.Marks o=true∨zmU s' o
 he: ∀u j,¬W u j→yK s.H u j=true→(¬W' u j∧yK s'.H u j=true∧zN s'.H u j=zN s.H u j)∨(zN s.H u j=0∨zL s'.T.Marks (zN s.H u j)=true∨zmU s' (zN s.H u j))
 hg: ∀u j,¬W u j→yK s.H u j=true→yE s.T u=1→US s u j→(yE s'.T u=1∧US s' u j)∨(zN s.H u j=0∨zL s'.T.Marks (zN s.H u j)=true∨zmU s' (zN s.H u j))
 hn: ∀u j,¬W u j→yK s.H u j=true→¬zL s.T.Marks u=true→zL s'.T.Marks u=true→yE s'.T u=1∧US s' u j
theorem YX {h:zy} {u j:Int} (e:yK h u j=true):(1≤u∧u≤(h.Objs.length:Int))∧0≤j∧j<((zW h u).length:Int):=by
 unfold yK at e
 simp only [Bool.and_eq_true,decide_eq_true_eq] at e
 exact ⟨⟨e.1.1.1,e.1.1.2⟩,e.1.2,e.2⟩
theorem zrn.prot {s s':za} {W W':Int→Int→Prop} (P:zrn s s' W W') {o:Int} (h:zmx s W o):o≠0→zL s'.T.Marks o=true∨zmx s' W' o:=by
 have cov: ∀v:Int,v≠0→(v=0∨zL s'.T.Marks v=true∨zmU s' v)→zL s'.T.Marks v=true∨zmx s' W' v:=by
  rintro v h0 (e | e | e)
  ·exact absurd e h0
  ·exact .inl e
  ·exact .inr (.pend v e)
 induction h with
 | pend o h=>exact fun _=>(P.hp o h).imp id (fun h=> .pend o h)
 | white u j o hW hj he hu hp ih =>
  intro h0
  subst he
  have hu0:u≠0:=by have:=YX hj;omega
  rcases P.he u j hW hj with ⟨a,b,c⟩ | c
  ·by_cases hm:zL s'.T.Marks u=true
   ·obtain ⟨d,e⟩:=P.hn u j hW hj hu hm
    exact .inr (.grey u j _ a b c d e)
   ·rcases ih hu0 with h | h
    ·exact absurd h hm
    ·exact .inr (.white u j _ a b c hm h)
  ·exact cov _ h0 c
 | grey u j o hW hj he hg hs =>
  intro h0
  subst he
  rcases P.he u j hW hj with ⟨a,b,c⟩ | c
  ·rcases P.hg u j hW hj hg hs with ⟨d,e⟩ | c2
   ·exact .inr (.grey u j _ a b c d e)
   ·exact cov _ h0 c2
  ·exact cov _ h0 c
def zmP (n:Int) (x:ze):Prop:=(x.PC=5→0≤x.Slot∧x.Slot<n)∧(x.PC=6→1≤x.Slot∧x.Slot≤n)∧(x.PC=8→x.Slot=n)
def zqZ (n:Int) (x:zc):Prop:=(x.PC=36→0≤x.Slot∧x.Slot<n)∧(x.PC=37→1≤x.Slot∧x.Slot≤n)∧(x.PC=38→x.Slot=n)
def zod (p:zb) (s:za) (W:Int→Int→Prop) (m:Int) (x:zc):Prop :=
 ¬W (vq x (opM p m x).A) (opM p m x).S→((x.PC=21∨x.PC=22∨((x.PC=1∨x.PC=3)∧x.Ret=22))→x.Old=zN s.H (vq x (opM p m x).A) (opM p m x).S) ∧
  (x.PC=23→zN s.H (vq x (opM p m x).A) (opM p m x).S=0∨zL s.T.Marks (zN s.H (vq x (opM p m x).A) (opM p m x).S)=true∨zN s.H (vq x (opM p m x).A) (opM p m x).S∈x.Buf)
structure PI (p:zb) (s:za) (W:Int→Int→Prop):Prop where
 lv: ∀o,Reach p.H (uW p) o→zL s.T.Marks o=true∨zmx s W o
 sw: ∀(i:Nat) x,s.Ws[i]? =some x→zmP p.H.Slots x
 sx: ∀(i:Nat) x,s.Ms[i]? =some x→zqZ p.H.Slots x
 cv: ∀(i:Nat) x,s.Ms[i]? =some x→zod p s W ((i:Int)+1) x
theorem zpR {s:za} {g:zC} {o:Int} (hmd:1≤g.Mode∧g.Mode≤3) (ho:1≤o∧o≤64) (hb:zL s.T.Black o=true→zL s.T.Marks o=true) (a:zr6 g o) :
  zr6 (zm s g).2 o∨zL (zm s g).1.T.Marks o=true:=by
 obtain ⟨h1,h2,h3⟩:=a
 unfold zm
 rw [if_neg (by omega),if_neg (by omega),if_neg (by omega),if_neg (by omega),if_neg (by omega),if_neg (by omega),if_neg (by omega)]
 split
 ·right
  show zL (vj s.T g.Obj).1.Marks o=true
  rw [h3]
  unfold vj
  split
  ·rename_i e
   exact Decidable.byContradiction fun hc=>((za7 ho).2 hc) e
  split
  ·exact (wE _ ho o).2 (.inr rfl)
  ·rename_i e
   exact hb (by unfold zL;simpa using e)
 ·left
  exact ⟨h1,.inr rfl,h3⟩
end
end Go.Pe.G
namespace Go.Pe.G
open Go.Pe
noncomputable section
theorem zAS {h:zy} {a i v u j:Int} (hne: ¬(u=a∧j=i)) (hi:yK h a i=true→0≤i):yK (uH h a i v) u j=yK h u j∧zN (uH h a i v) u j=zN h u j:=by
 have hl:=zad h a i v
 by_cases hc:yK h a i=true∧0≤v∧v≤(h.Objs.length:Int)
 ·have hs:=YX hc.1
  have e0:uH h a i v={h with Objs:=h.Objs.set (a-1).toNat ((zW h a).set i.toNat v)}:=by unfold uH;rw [if_pos hc]
  have es:1≤u→zW (uH h a i v) u=if u=a then (zW h a).set i.toNat v else zW h u:=fun hu=>by
   rw [e0]
   unfold zW
   rw [ziq (by omega)]
   by_cases e:u=a
   ·rw [if_pos (by omega),if_pos e]
   ·rw [if_neg (by omega),if_neg e]
  have eh:yK (uH h a i v) u j=yK h u j:=by
   unfold yK
   rw [hl]
   by_cases hu:1≤u
   ·rw [es hu]
    by_cases e:u=a
    ·rw [if_pos e,List.length_set,e]
    ·rw [if_neg e]
   ·simp [hu]
  refine ⟨eh,?_⟩
  unfold zN
  rw [eh]
  split
  ·rename_i hj
   have hp:=YX hj
   rw [es hp.1.1]
   by_cases e:u=a
   ·rw [if_pos e,ziq (by omega),if_neg (by
     intro e2
     exact hne ⟨e,by omega⟩),e]
   ·rw [if_neg e]
  ·rfl
 ·have e0:uH h a i v=h:=by unfold uH;rw [if_neg hc]
  rw [e0];exact ⟨rfl,rfl⟩
theorem zy5 (h:zy) (u j:Int):(yK h u j=true→yK (xV h) u j=true)∧zN (xV h) u j=zN h u j:=by
 have hl:=zc1 h
 have e1:1≤u→u≤(h.Objs.length:Int)→zW (xV h) u=zW h u:=fun h1 h2=>by
  unfold zW xV
  rw [List.getD_eq_getElem?_getD,List.getD_eq_getElem?_getD,List.getElem?_append_left (by omega)]
 have e2:u=(h.Objs.length:Int)+1→zW (xV h) u=List.replicate h.Slots.toNat 0:=fun h1=>by
  unfold zW xV
  rw [List.getD_eq_getElem?_getD,List.getElem?_append_right (by omega),show (u-1).toNat-h.Objs.length=0 by omega]
  rfl
 have e3:yK h u j=true→yK (xV h) u j=true:=fun e=>by
  have hs:=YX e
  unfold yK
  rw [e1 hs.1.1 hs.1.2,hl]
  simp;omega
 refine ⟨e3,?_⟩
 by_cases c:yK h u j=true
 ·have hs:=YX c
  unfold zN
  rw [if_pos c,if_pos (e3 c),e1 hs.1.1 hs.1.2]
 ·unfold zN
  rw [if_neg c]
  split
  ·rename_i d
   have hs:=YX d
   by_cases hu:u≤(h.Objs.length:Int)
   ·refine absurd ?_ c
    rw [e1 hs.1.1 hu] at hs
    unfold yK;simp;omega
   ·rw [e2 (by omega),List.getD_eq_getElem?_getD]
    cases hx:(List.replicate h.Slots.toNat (0:Int))[j.toNat]? with
    | none=>rfl
    | some v=>exact List.eq_of_mem_replicate (List.mem_of_getElem? hx)
  ·rfl
theorem zy8 (s:za) (m:Int) (x:zc):((zg s m x).1.H=s.H∧x.PC≠23)∨(x.PC=23∧(zg s m x).1.H=uH s.H (vq x (opM s.P m x).A) (opM s.P m x).S (vq x (opM s.P m x).R)∧(zg s m x).2.Buf=x.Buf)∨(x.PC=30∧(zg s m x).1.H=xV s.H):=by
 by_cases c:x.PC=23
 ·have e:zg s m x=zaR s m x:=by
   unfold zg
   rw [if_neg (by omega),if_neg (by omega),if_neg (by omega),if_neg (by omega),if_neg (by omega),if_neg (by omega),if_neg (by omega),if_neg (by omega),if_pos c]
  rw [e];exact .inr (.inl ⟨c,rfl,rfl⟩)
 by_cases d:x.PC=30
 ·have e:zg s m x=Z4 s m x:=by
   unfold zg
   rw [if_neg (by omega),if_neg (by omega),if_neg (by omega),if_neg (by omega),if_neg (by omega),if_neg (by omega),if_neg (by omega),if_neg (by omega),if_neg (by omega),if_pos d]
  rw [e]
  unfold Z4
  split
  ·split
   ·exact .inr (.inr ⟨d,rfl⟩)
   ·exact .inl ⟨rfl,c⟩
  ·exact .inl ⟨rfl,c⟩
 ·rcases zpF s m x with h | h | h
  ·exact .inl ⟨h,c⟩
  ·exact absurd h c
  ·exact absurd h d
theorem zvx {p:zb} {nb:Nat} {s:za} {gh:Gh} {m:Int} {x:zc} (K:MX p s gh x) (O:XOk p nb m x) (hb: ∀o,zL s.T.Black o=true→zL s.T.Marks o=true) {o:Int} (h:VL x o):VL (zg s m x).2 o∨zL (zg s m x).1.T.Marks o=true:=by
 have hrt:=O.ret
 have hpc:=O.pc
 refine yw (motive:=fun r=>VL r.2 o∨zL r.1.T.Marks o=true) s m x ?_ ?_ ?_ ?_ ?_ ?_ ?_ ?_ ?_ ?_ ?_ ?_ ?_ ?_ ?_ ?_ ?_ ?_ ?_ ?_
 all_goals try (intro c)
 ·-- 0
  rcases h with h | ⟨h,_⟩ | ⟨h,_⟩
  ·left;left;unfold mu0 uY;repeat' split
   all_goals exact h
  ·omega
  ·omega
 ·-- 1
  unfold mu1;dsimp only
  split
  ·rename_i hl
   rcases h with h | ⟨h,e⟩ | ⟨h,_⟩
   ·have:x.Buf=[]:=List.length_eq_zero_iff.1 hl
    rw [this] at h;cases h
   ·left;right;left;exact ⟨.inl (by show x.Ret=22;omega),e⟩
   ·omega
  ·rename_i hl
   rcases h with h | ⟨h,e⟩ | ⟨h,_⟩
   ·obtain ⟨i,hi⟩:=List.mem_iff_getElem?.1 h
    have hil:=(List.getElem?_eq_some_iff.1 hi).1
    by_cases hlast:i=x.Buf.length-1
    ·left;right;right
     refine ⟨.inl rfl,rfl,.inl rfl,?_⟩
     show x.Buf.getD (x.Buf.length-1) 0=o
     rw [List.getD_eq_getElem?_getD,←hlast,hi];rfl
    ·left;left
     show o∈x.Buf.take (x.Buf.length-1)
     exact List.mem_of_getElem? (i:=i) (by rw [List.getElem?_take_of_lt (by omega)];exact hi)
   ·left;right;left;exact ⟨.inr ⟨.inr rfl,by show x.Ret=22;omega⟩,e⟩
   ·omega
 ·rcases h with h | ⟨h,_⟩ | ⟨h,_⟩
  ·left;left;exact h
  ·omega
  ·omega
 ·-- 3
  obtain ⟨G,gm,g0⟩:=K.p3 c
  unfold mu3;dsimp only
  rcases h with h | ⟨h,e⟩ | ⟨_,h⟩
  ·left;left;split<;>exact h
  ·left;right;left
   split
   ·exact ⟨.inr ⟨.inl rfl,by show x.Ret=22;omega⟩,e⟩
   ·exact ⟨.inr ⟨.inr c,by show x.Ret=22;omega⟩,e⟩
  ·rcases zpR G.md (h.2.2▸G.ob) (hb o) h with h' | h'
   ·left;right;right
    rw [if_neg (by have:=h'.1;omega)]
    exact ⟨.inl c,h'⟩
   ·exact .inr h'
 ·rcases h with h | ⟨h,_⟩ | ⟨h,_⟩
  ·left;left;exact h
  ·omega
  ·omega
 ·rcases h with h | ⟨h,_⟩ | ⟨h,_⟩
  ·left;left;unfold XK;dsimp only;split<;>exact h
  ·omega
  ·omega
 ·rcases h with h | ⟨h,_⟩ | ⟨h,_⟩
  ·left;left;unfold Xw;dsimp only;split<;>exact h
  ·omega
  ·omega
 ·-- 22
  unfold Vi;dsimp only
  rcases h with h | ⟨h,e⟩ | ⟨h,_⟩
  ·left;left;split
   ·exact h
   ·exact List.mem_append_left _ h
  ·left
   split
   ·right;left;exact ⟨.inr ⟨.inl rfl,rfl⟩,e⟩
   ·left;exact List.mem_append_right _ (by rw [e];simp)
  ·omega
 ·rcases h with h | ⟨h,_⟩ | ⟨h,_⟩
  ·left;left;exact h
  ·omega
  ·omega
 ·rcases h with h | ⟨h,_⟩ | ⟨h,_⟩
  ·left;left;unfold Z4;repeat' split
   all_goals exact h
  ·omega
  ·omega
 ·rcases h with h | ⟨h,_⟩ | ⟨h,_⟩
  ·left;left;unfold WR;dsimp only;split<;>exact h
  ·omega
  ·omega
 ·rcases h with h | ⟨h,_⟩ | ⟨h,_⟩
  ·left;left;unfold WD;dsimp only;repeat' split
   all_goals exact h
  ·omega
  ·omega
 ·rcases h with h | ⟨h,_⟩ | ⟨h,_⟩
  ·left;left;exact h
  ·omega
  ·omega
 ·rcases h with h | ⟨h,_⟩ | ⟨h,_⟩
  ·left;left;unfold WN;dsimp only;split<;>exact h
  ·omega
  ·omega
 ·rcases h with h | ⟨h,_⟩ | ⟨h,_⟩
  ·left;left;unfold WK;dsimp only;split<;>exact h
  ·omega
  ·omega
 ·rcases h with h | ⟨h,_⟩ | ⟨h,_⟩
  ·left;left;unfold Ud;dsimp only;split<;>exact h
  ·omega
  ·omega
 ·-- 37
  obtain ⟨G,gm,g0⟩:=K.p37 c
  unfold Y5;dsimp only
  rcases h with h | ⟨h,e⟩ | ⟨_,h⟩
  ·left;left;split<;>exact h
  ·omega
  ·rcases zpR G.md (h.2.2▸G.ob) (hb o) h with h' | h'
   ·left;right;right
    rw [if_neg (by have:=h'.1;omega)]
    exact ⟨.inr c,h'⟩
   ·exact .inr h'
 ·rcases h with h | ⟨h,_⟩ | ⟨h,_⟩
  ·left;left;exact h
  ·omega
  ·omega
 ·rcases h with h | ⟨h,_⟩ | ⟨h,_⟩
  ·left;left;exact h
  ·omega
  ·omega
 ·exact .inl h
theorem zyc {p:zb} {nb:Nat} {s:za} {gh:Gh} (hsl:s.H.Slots=p.H.Slots) (h1:1≤p.H.Slots∧p.H.Slots≤2) {m:Int} {x:zc} (O:XOk p nb m x) (S:zqZ p.H.Slots x) :
  zqZ p.H.Slots (zg s m x).2∧∀u j,0≤j→zqr x u j→zqr (zg s m x).2 u j∨zN s.H u j=0∨VL (zg s m x).2 (zN s.H u j):=by
 have no: ∀ {y:zc},y.PC≠36→y.PC≠37→y.PC≠38→zqZ p.H.Slots y∧∀u j,0≤j→zqr x u j→zqr y u j∨zN s.H u j=0∨VL y (zN s.H u j) :=
  fun a b c=>⟨⟨fun e=>absurd e a,fun e=>absurd e b,fun e=>absurd e c⟩,fun u j _ _=> .inl (fun e=>by omega)⟩
 have on: ∀k:Int,(onM s k=36∧k≠p.H.Slots)∨(onM s k=38∧k=p.H.Slots):=fun k=>by
  unfold onM
  rw [hsl]
  split
  ·rename_i e;exact .inr ⟨rfl,e⟩
  ·rename_i e;exact .inl ⟨rfl,e⟩
 refine yw (motive:=fun r=>zqZ p.H.Slots r.2∧∀u j,0≤j→zqr x u j→zqr r.2 u j∨zN s.H u j=0∨VL r.2 (zN s.H u j)) s m x ?_ ?_ ?_ ?_ ?_ ?_ ?_ ?_ ?_ ?_ ?_ ?_ ?_ ?_ ?_ ?_ ?_ ?_ ?_ ?_
 all_goals try (intro c)
 ·unfold mu0 uY;repeat' split
  all_goals exact no (by (try dsimp only [setM]);omega) (by (try dsimp only [setM]);omega) (by (try dsimp only [setM]);omega)
 ·have:=O.ret (.inl c)
  unfold mu1;dsimp only;split
  ·exact no (by dsimp only;omega) (by dsimp only;omega) (by dsimp only;omega)
  ·exact no (by dsimp only;omega) (by dsimp only;omega) (by dsimp only;omega)
 ·unfold mu2;exact no (by dsimp only;omega) (by dsimp only;omega) (by dsimp only;omega)
 ·unfold mu3;dsimp only;split
  ·exact no (by dsimp only;omega) (by dsimp only;omega) (by dsimp only;omega)
  ·exact no (by dsimp only;omega) (by dsimp only;omega) (by dsimp only;omega)
 ·unfold zbH;exact no (by dsimp only [setM];omega) (by dsimp only [setM];omega) (by dsimp only [setM];omega)
 ·unfold XK;dsimp only;split
  ·exact no (by dsimp only [yP];omega) (by dsimp only [yP];omega) (by dsimp only [yP];omega)
  ·exact no (by dsimp only;omega) (by dsimp only;omega) (by dsimp only;omega)
 ·unfold Xw;dsimp only;split
  ·exact no (by dsimp only;omega) (by dsimp only;omega) (by dsimp only;omega)
  ·exact no (by dsimp only;omega) (by dsimp only;omega) (by dsimp only;omega)
 ·unfold Vi;dsimp only;split
  ·exact no (by dsimp only;omega) (by dsimp only;omega) (by dsimp only;omega)
  ·exact no (by dsimp only;omega) (by dsimp only;omega) (by dsimp only;omega)
 ·unfold zaR;exact no (by dsimp only [yP];omega) (by dsimp only [yP];omega) (by dsimp only [yP];omega)
 ·unfold Z4;split
  ·split
   ·exact no (by dsimp only [setM];omega) (by dsimp only [setM];omega) (by dsimp only [setM];omega)
   ·exact no (by dsimp only [yP];omega) (by dsimp only [yP];omega) (by dsimp only [yP];omega)
  ·exact no (by dsimp only;omega) (by dsimp only;omega) (by dsimp only;omega)
 ·unfold WR;dsimp only;split
  ·exact no (by dsimp only;omega) (by dsimp only;omega) (by dsimp only;omega)
  ·exact no (by dsimp only;omega) (by dsimp only;omega) (by dsimp only;omega)
 ·unfold WD;dsimp only;repeat' split
  all_goals exact no (by dsimp only;omega) (by dsimp only;omega) (by dsimp only;omega)
 ·unfold zbO;exact no (by dsimp only;omega) (by dsimp only;omega) (by dsimp only;omega)
 ·unfold WN;dsimp only;split
  ·exact no (by dsimp only;omega) (by dsimp only;omega) (by dsimp only;omega)
  ·exact no (by dsimp only;omega) (by dsimp only;omega) (by dsimp only;omega)
 ·unfold WK;dsimp only;split
  ·exact no (by dsimp only;omega) (by dsimp only;omega) (by dsimp only;omega)
  ·exact ⟨⟨fun _=>⟨Int.le_refl _,by show (0:Int)<_;omega⟩,fun e=>absurd e (by show ¬(36:Int)=37;decide),fun e=>absurd e (by show ¬(36:Int)=38;decide)⟩,fun u j h0 _=> .inl (fun _ _=>h0)⟩
 ·-- 36
  have hs:=S.1 c
  have w:wc (x.Slot+1)=x.Slot+1:=xf (by omega) (by omega)
  unfold Ud;dsimp only
  rw [w]
  split
  ·rename_i hv
   refine ⟨⟨fun e=> ?_,fun e=> ?_,fun e=> ?_⟩,fun u j h0 h=> ?_⟩
   ·dsimp only at e ⊢;have:=on (x.Slot+1);omega
   ·dsimp only at e ⊢;have:=on (x.Slot+1);omega
   ·dsimp only at e ⊢;have:=on (x.Slot+1);omega
   ·by_cases hu:x.Obj=u
    ·have hle:=h (.inl c) hu
     by_cases hj:j=x.Slot
     ·right;left;rw [←hu,hj];exact hv
     ·left;intro _ _;show x.Slot+1≤j;omega
    ·left;intro _ e;exact absurd e hu
  ·rename_i hv
   refine ⟨⟨fun e=>absurd e (by show ¬(37:Int)=36;decide),fun _=>⟨by show 1≤x.Slot+1;omega,by show x.Slot+1≤_;omega⟩,fun e=>absurd e (by show ¬(37:Int)=38;decide)⟩,fun u j h0 h=> ?_⟩
   by_cases hu:x.Obj=u
   ·have hle:=h (.inl c) hu
    by_cases hj:j=x.Slot
    ·right;right;right;right
     exact ⟨.inr rfl,rfl,.inl rfl,by rw [←hu,hj];rfl⟩
    ·left;intro _ _;show x.Slot+1≤j;omega
   ·left;intro _ e;exact absurd e hu
 ·-- 37
  have hs:=S.2.1 c
  unfold Y5;dsimp only
  split
  ·refine ⟨⟨fun e=> ?_,fun e=> ?_,fun e=> ?_⟩,fun u j h0 h=> .inl (fun _ e=>h (.inr (.inl c)) e)⟩
   ·dsimp only at e ⊢;have:=on x.Slot;omega
   ·dsimp only at e ⊢;have:=on x.Slot;omega
   ·dsimp only at e ⊢;have:=on x.Slot;omega
  ·exact ⟨⟨fun e=>absurd e (by show ¬x.PC=36;omega),fun _=>hs,fun e=>absurd e (by show ¬x.PC=38;omega)⟩,fun u j h0 h=> .inl (fun _ e=>h (.inr (.inl c)) e)⟩
 ·unfold zcF;exact no (by dsimp only;omega) (by dsimp only;omega) (by dsimp only;omega)
 ·unfold zd9;exact no (by dsimp only;omega) (by dsimp only;omega) (by dsimp only;omega)
 ·exact ⟨S,fun u j _ h=> .inl h⟩
theorem UI.mono {s s':za} (F:UI s s') {o:Int} (h:zL s.T.Marks o=true):zL s'.T.Marks o=true:=by
 rcases F with ⟨e,_⟩ | ⟨q,_,_,e,_⟩ | ⟨q,_,e,_⟩ | ⟨_,_,e⟩
 ·rw [e];exact h
 ·rw [e];exact (ul _ _ _).2 (.inl h)
 ·rw [e];exact h
 ·rw [e];exact (ul _ _ _).2 (.inl h)
theorem zys {p:zb} {s:za} (hP:s.P=p) {W:Int→Int→Prop} {m:Int} {x:zc} (K:zod p s W m x) (mono: ∀o,zL s.T.Marks o=true→zL (zg s m x).1.T.Marks o=true) (hr:x.PC=1∨x.PC=3→x.Ret=2∨x.Ret=22) :
  ∀l:List zc,zod p {(zg s m x).1 with Ms:=l} (fun u j=>W u j∨(x.PC=23∧u=vq x (opM p m x).A∧j=(opM p m x).S)) m (zg s m x).2:=by
 intro l
 have no: ∀ {t:za} {y:zc},¬(y.PC=21∨y.PC=22∨((y.PC=1∨y.PC=3)∧y.Ret=22))→y.PC≠23→zod p t (fun u j=>W u j∨(x.PC=23∧u=vq x (opM p m x).A∧j=(opM p m x).S)) m y :=
  fun a b _=>⟨fun e=>absurd e a,fun e=>absurd e b⟩
 have keep: ∀ {t:za} {y:zc},y.IP=x.IP→y.Regs=x.Regs→vq y (opM p m y).A=vq x (opM p m x).A∧(opM p m y).S=(opM p m x).S:=fun e1 e2=>by
  unfold opM vq;rw [e1,e2];exact ⟨rfl,rfl⟩
 revert mono
 refine yw (motive:=fun r=>(∀o,zL s.T.Marks o=true→zL r.1.T.Marks o=true)→zod p {r.1 with Ms:=l} (fun u j=>W u j∨(x.PC=23∧u=vq x (opM p m x).A∧j=(opM p m x).S)) m r.2) s m x ?_ ?_ ?_ ?_ ?_ ?_ ?_ ?_ ?_ ?_ ?_ ?_ ?_ ?_ ?_ ?_ ?_ ?_ ?_ ?_
 ·intro c _;unfold mu0 uY;repeat' split
  all_goals exact no (by (try dsimp only [setM]);omega) (by (try dsimp only [setM]);omega)
 ·intro c _
  have hr:=hr (.inl c)
  unfold mu1;dsimp only
  intro hW
  split
  ·refine ⟨fun e=> ?_,fun e=>by dsimp only at e;omega⟩
   have e:x.Ret=21∨x.Ret=22∨((x.Ret=1∨x.Ret=3)∧x.Ret=22):=e
   exact (K (fun h=>hW (by split<;>exact .inl h))).1 (.inr (.inr ⟨.inl c,by omega⟩))
  ·refine ⟨fun e=> ?_,fun e=>by dsimp only at e;omega⟩
   have e:(3:Int)=21∨(3:Int)=22∨(((3:Int)=1∨(3:Int)=3)∧x.Ret=22):=e
   exact (K (fun h=>hW (by split<;>exact .inl h))).1 (.inr (.inr ⟨.inl c,by omega⟩))
 ·intro c _;unfold mu2;exact no (by (try dsimp only);omega) (by (try dsimp only);omega)
 ·intro c _
  unfold mu3;dsimp only
  intro hW
  have eH:(zm s x.G).1.H=s.H:=by rw [XB]
  split
  ·refine ⟨fun e=> ?_,fun e=>by dsimp only at e;omega⟩
   have e:(1:Int)=21∨(1:Int)=22∨(((1:Int)=1∨(1:Int)=3)∧x.Ret=22):=e
   show x.Old=zN (zm s x.G).1.H _ _
   rw [eH]
   exact (K (fun h=>hW (by split<;>exact .inl h))).1 (.inr (.inr ⟨.inr c,by omega⟩))
  ·refine ⟨fun e=> ?_,fun e=>by dsimp only at e;omega⟩
   have e:x.PC=21∨x.PC=22∨((x.PC=1∨x.PC=3)∧x.Ret=22):=e
   show x.Old=zN (zm s x.G).1.H _ _
   rw [eH]
   exact (K (fun h=>hW (by split<;>exact .inl h))).1 (.inr (.inr ⟨.inr c,by omega⟩))
 ·intro c _;unfold zbH;exact no (by (try dsimp only [setM]);omega) (by (try dsimp only [setM]);omega)
 ·intro c _;unfold XK;dsimp only;split
  ·exact no (by (try dsimp only [yP]);omega) (by (try dsimp only [yP]);omega)
  ·intro hW
   refine ⟨fun _=> ?_,fun e=>by dsimp only at e;omega⟩
   show zoG s m x=_
   unfold zoG
   rw [hP];rfl
 ·intro c mono;unfold Xw;dsimp only;split
  ·rename_i h
   intro hW
   have k:=(K (fun h=>hW (.inl h))).1 (.inl c)
   refine ⟨fun e=>by dsimp only at e;omega,fun _=> ?_⟩
   show zN s.H (vq x (opM p m x).A) (opM p m x).S=0∨zL s.T.Marks (zN s.H (vq x (opM p m x).A) (opM p m x).S)=true∨_
   rw [←k]
   rcases h with h | h
   ·exact .inl h
   ·right;left
    unfold yE at h
    split at h
    ·rename_i h2;exact ((zcv _ _ _).1 h2).1
    ·split at h
     ·assumption
     ·exact absurd rfl h
  ·intro hW
   exact ⟨fun _=>(K (fun h=>hW (.inl h))).1 (.inl c),fun e=>by dsimp only at e;omega⟩
 ·intro c mono;unfold Vi;dsimp only;split
  ·intro hW
   exact ⟨fun _=>(K (fun h=>hW (.inl h))).1 (.inr (.inl c)),fun e=>by dsimp only at e;omega⟩
  ·intro hW
   have k:=(K (fun h=>hW (.inl h))).1 (.inr (.inl c))
   refine ⟨fun e=>by dsimp only at e;omega,fun _=> .inr (.inr ?_)⟩
   show zN s.H (vq x (opM p m x).A) (opM p m x).S∈x.Buf++[x.Old]
   rw [←k];simp
 ·intro c _;unfold zaR;exact no (by (try dsimp only [yP]);omega) (by (try dsimp only [yP]);omega)
 ·intro c _;unfold Z4;split
  ·split
   ·exact no (by (try dsimp only [setM]);omega) (by (try dsimp only [setM]);omega)
   ·exact no (by (try dsimp only [yP]);omega) (by (try dsimp only [yP]);omega)
  ·exact no (by (try dsimp only);omega) (by (try dsimp only);omega)
 ·intro c _;unfold WR;dsimp only;split
  ·exact no (by (try dsimp only);omega) (by (try dsimp only);omega)
  ·exact no (by (try dsimp only);omega) (by (try dsimp only);omega)
 ·intro c _;unfold WD;dsimp only;repeat' split
  all_goals exact no (by (try dsimp only);omega) (by (try dsimp only);omega)
 ·intro c _;unfold zbO;exact no (by (try dsimp only);omega) (by (try dsimp only);omega)
 ·intro c _;unfold WN;dsimp only;split
  ·exact no (by (try dsimp only);omega) (by (try dsimp only);omega)
  ·exact no (by (try dsimp only);omega) (by (try dsimp only);omega)
 ·intro c _;unfold WK;dsimp only;split
  ·exact no (by (try dsimp only);omega) (by (try dsimp only);omega)
  ·exact no (by (try dsimp only);omega) (by (try dsimp only);omega)
 ·intro c _;unfold Ud;dsimp only
  have:=Zr s (wc (x.Slot+1))
  split
  ·exact no (by (try dsimp only);omega) (by (try dsimp only);omega)
  ·exact no (by (try dsimp only);omega) (by (try dsimp only);omega)
 ·intro c _;unfold Y5;dsimp only
  have:=Zr s x.Slot
  split
  ·exact no (by (try dsimp only);omega) (by (try dsimp only);omega)
  ·exact no (by (try dsimp only);omega) (by (try dsimp only);omega)
 ·intro c _;unfold zcF;exact no (by (try dsimp only);omega) (by (try dsimp only);omega)
 ·intro c _;unfold zd9;exact no (by (try dsimp only);omega) (by (try dsimp only);omega)
 ·intro _ hW
  exact K (fun h=>hW (.inl h))
end
end Go.Pe.G
namespace Go.Pe.G
open Go.Pe
noncomputable section
theorem zqP {p:zb} {nb k:Nat} {s s':za} {gh:Gh} (G:FG p nb k s gh) (F:UI s s') {u:Int} (hu:u≤(s.H.Objs.length:Int)) (h:yE s.T u=1):yE s'.T u=1∨(yE s.T u=1∧s'.T={s.T with Black:=s.T.Black|||bit u}):=by
 have ht:=(u7 _ _).1 h
 rcases F with ⟨e,_⟩ | ⟨q,_,_,e,_⟩ | ⟨q,hq,e,_⟩ | ⟨_,_,e⟩
 ·left;rw [e];exact h
 ·left;rw [e,u7];exact ⟨(ul _ _ _).2 (.inl ht.1),ht.2⟩
 ·by_cases hqu:u=q
  ·right;subst hqu;exact ⟨h,e⟩
  ·left;rw [e,u7];exact ⟨ht.1,fun hb=>(YV hb).elim ht.2 (fun e=>hqu e)⟩
 ·left;rw [e,u7]
  exact ⟨(ul _ _ _).2 (.inl ht.1),fun hb=>(YV hb).elim ht.2 (fun e=>by omega)⟩
theorem zpk {p:zb} {nb k:Nat} {s s':za} {gh:Gh} (G:FG p nb k s gh) (F:UI s s') {u:Int} (hu:u≤(s.H.Objs.length:Int)) (h: ¬zL s.T.Marks u=true) (h':zL s'.T.Marks u=true):yE s'.T u=1:=by
 have nb: ¬zL s.T.Black u=true:=fun e=>h (G.B.blk u e)
 rcases F with ⟨e,_⟩ | ⟨q,_,_,e,_⟩ | ⟨q,hq,e,_⟩ | ⟨_,_,e⟩
 ·rw [e] at h';exact absurd h' h
 ·rw [u7];refine ⟨h',?_⟩;rw [e];exact nb
 ·rw [e] at h';exact absurd h' h
 ·rw [e] at h'
  rcases YV h' with h2 | h2
  ·exact absurd h2 h
  ·omega
theorem zwQ {p:zb} {nb:Nat} {s:za} (E:EOk p nb s) {u j:Int} (h:yK s.H u j=true):0≤j∧j<p.H.Slots:=by
 have hs:=YX h
 have hm:zW s.H u∈s.H.Objs:=by
  unfold zW
  rw [List.getD_eq_getElem?_getD,List.getElem?_eq_getElem (show (u-1).toNat<s.H.Objs.length by omega)]
  exact List.getElem_mem _
 have h1:=(E.H.objs _ hm).1
 have h2:=E.H.slots
 omega
theorem zA9 {s:za} {m:Int} {x:zc} (c:x.PC=3):(zg s m x).2.PC=1∨(zg s m x).2.PC=3:=by
 unfold zg
 rw [if_neg (by omega),if_neg (by omega),if_neg (by omega),if_pos c]
 unfold mu3;dsimp only
 split
 ·exact .inl rfl
 ·exact .inr c
theorem zzv {s:za} {m:Int} {x:zc} (c:x.PC=37):(zg s m x).2.Obj=x.Obj:=by
 have e37:zg s m x=Y5 s m x:=by
  unfold zg
  rw [if_neg (by omega),if_neg (by omega),if_neg (by omega),if_neg (by omega),if_neg (by omega),if_neg (by omega),if_neg (by omega),if_neg (by omega),if_neg (by omega),if_neg (by omega),if_neg (by omega),if_neg (by omega),if_neg (by omega),if_neg (by omega),if_neg (by omega),if_neg (by omega),if_pos c]
 rw [e37]
 unfold Y5;dsimp only
 split<;>rfl
def zxQ (s:za) (m:Int) (x:zc) (N C:List Int):Prop :=
 (N=[]∧C=[]∧(zg s m x).1.T=s.T)∨(N=[x.G.Obj]∧C=[]∧(x.PC=3∨x.PC=37)∧¬(s.T.Marks|||bit x.G.Obj=s.T.Marks)∧(zg s m x).1.T={s.T with Marks:=s.T.Marks|||bit x.G.Obj})∨(N=[]∧C=[x.Obj]∧x.PC=38∧(zg s m x).1.T=wx s.T x.Obj) ∨
   (N=[]∧C=[]∧x.PC=30∧YP s.H s.P.Most=true∧(zg s m x).1.H=xV s.H∧(zg s m x).1.T=YE s.T (wc (s.H.Objs.length+1)))
theorem FG.fresh {p:zb} (hp:zA p) {nb k:Nat} {s:za} {gh:Gh} (G:FG p nb k s gh):YE s.T (wc (s.H.Objs.length+1))=⟨s.T.Marks|||bit ((s.H.Objs.length:Int)+1),s.T.Black|||bit ((s.H.Objs.length:Int)+1)⟩∧¬zL s.T.Marks ((s.H.Objs.length:Int)+1)=true∧(s.H.Objs.length:Int)≤9:=by
 have hN0:=G.E.H.n
 have hM0:=hp.most
 have hn6:=hp.n
 have nm: ¬zL s.T.Marks ((s.H.Objs.length:Int)+1)=true:=fun e=>by have:=G.mrk _ e;omega
 have hw:wc ((s.H.Objs.length:Int)+1)=(s.H.Objs.length:Int)+1:=xf (by omega) (by omega)
 rw [hw,zqq (by omega) nm (fun e=>nm (G.B.blk _ e))]
 exact ⟨rfl,nm,by omega⟩
theorem zx9 {p:zb} (hp:zA p) {nb k:Nat} {s:za} {gh:Gh} (G:FG p nb k s gh) {m:Int} {i:Nat} {x:zc} (hx:s.Ms[i]? =some x) {N C:List Int} (hT:zxQ s m x N C) {u:Int} (hg:yE s.T u=1)
  (h:(zg s m x).1.T={s.T with Black:=s.T.Black|||bit u}):x.PC=38∧x.Obj=u:=by
 have hb:=((u7 _ _).1 hg).2
 have hu:=(wE s.T.Black (zhC hg) u).2 (.inr rfl)
 rcases hT with ⟨_,_,e⟩ | ⟨_,_,_,_,e⟩ | ⟨_,_,c,e⟩ | ⟨_,_,_,_,e1,e⟩
 ·rw [e] at h
  have:=congrArg zt.Black h
  exact absurd (by rw [this];exact hu) hb
 ·rw [e] at h
  have:=congrArg zt.Black h
  exact absurd (by rw [this];exact hu) hb
 ·have hob:yE s.T x.Obj=1:=G.grey (zdk hx (by unfold zZ;rw [XX (.inr c)];simp))
  rw [e] at h
  unfold wx at h
  rw [if_pos hob] at h
  have hbb:s.T.Black|||bit x.Obj=s.T.Black|||bit u:=congrArg zt.Black h
  refine ⟨c,?_⟩
  rw [←hbb] at hu
  rcases YV hu with h2 | h2
  ·exact absurd h2 hb
  ·exact h2.symm
 ·obtain ⟨f1,f2,f3⟩:=G.fresh hp
  rw [e,f1] at h
  have:s.T.Marks|||bit ((s.H.Objs.length:Int)+1)=s.T.Marks:=congrArg zt.Marks h
  exact absurd (by rw [←this];exact (wE _ (by omega) _).2 (.inr rfl)) f2
theorem zyZ {p:zb} (hp:zA p) {nb k:Nat} {s:za} {gh:Gh} (G:FG p nb k s gh) {m:Int} {x:zc} {N C:List Int} (hT:zxQ s m x N C) {u:Int} (hu:u≤(s.H.Objs.length:Int)) (h0: ¬zL s.T.Marks u=true) (h1:zL (zg s m x).1.T.Marks u=true):x.PC=3∨x.PC=37:=by
 rcases hT with ⟨_,_,e⟩ | ⟨_,_,c,_,e⟩ | ⟨_,_,c,e⟩ | ⟨_,_,c,_,_,e⟩
 ·rw [e] at h1;exact absurd h1 h0
 ·exact c
 ·rw [e,(zeZ _ _).1] at h1;exact absurd h1 h0
 ·obtain ⟨f1,f2,f3⟩:=G.fresh hp
  rw [e,f1] at h1
  rcases YV h1 with h | h
  ·exact absurd h h0
  ·omega
theorem zsK {p:zb} {nb k:Nat} {s:za} {gh:Gh} (G:FG p nb k s gh) {i:Nat} {y:ze} (hy:s.Ws[i]? =some y) (hpc:y.PC=5∨y.PC=6∨y.PC=8):zL s.T.Marks y.Obj=true:=by
 have hg:yE s.T y.Obj=1:=G.grey (zlV hy (by
  unfold zP
  rcases hpc with e | e | e
  ·rw [YA (.inl e)];simp
  ·rw [znr e];simp
  ·rw [YA (.inr e)];simp))
 exact ((u7 _ _).1 hg).1
theorem zsA {p:zb} {nb k:Nat} {s:za} {gh:Gh} (G:FG p nb k s gh) {i:Nat} {y:zc} (hy:s.Ms[i]? =some y) (hpc:y.PC=36∨y.PC=37∨y.PC=38):zL s.T.Marks y.Obj=true:=by
 have hg:yE s.T y.Obj=1:=G.grey (zdk hy (by
  unfold zZ
  rcases hpc with e | e | e
  ·rw [XX (.inl e)];simp
  ·rw [zlJ e];simp
  ·rw [XX (.inr e)];simp))
 exact ((u7 _ _).1 hg).1
theorem PI.mutator {p:zb} (hp:zA p) {nb k:Nat} {s:za} {gh:Gh} (hk:k<4294960000) (G:FG p nb k s gh) {W:Int→Int→Prop} (I:PI p s W) {m:Int} (hm:1≤m∧m≤p.Mutators) (hd:s.Done=false): ∃W',PI p (zp s m) W':=by
 obtain ⟨gh',G',F,x,hx,N,C,hbag,hT⟩:=G.mutator hp hk hm hd
 have hT:zxQ s m x N C:=hT
 have hml:=G.E.ml
 have hsl:=hp.slots
 have hi:(m-1).toNat<s.Ms.length:=(List.getElem?_eq_some_iff.1 hx).1
 have ei:(((m-1).toNat:Nat):Int)+1=m:=by omega
 have eS:zp s m={(zg s m x).1 with Ms:=s.Ms.set (m-1).toNat (zg s m x).2}:=by
  unfold zp
  rw [if_neg (by rw [hd];rintro (e | e | e)<;>first | cases e | omega),hx]
 have hMX:=G.M _ x hx
 have hXO:=G.E.X _ x hx
 have hcv:=I.cv _ x hx
 rw [ei] at hXO hcv
 have hP:=G.E.S.P
 have eH:(zp s m).H=(zg s m x).1.H:=by rw [eS]
 have eT:(zp s m).T=(zg s m x).1.T:=by rw [eS]
 have eW:(zp s m).Ws=s.Ws:=by rw [eS];show (zg s m x).1.Ws=_;rw [zc8]
 have eX:(zp s m).Ms=s.Ms.set (m-1).toNat (zg s m x).2:=by rw [eS]
 have mono: ∀o,zL s.T.Marks o=true→zL (zp s m).T.Marks o=true:=fun o h=>F.mono h
 obtain ⟨sl1,sl2⟩:=zyc (s:=s) (m:=m) (gh:=gh) G.E.H.slots hsl hXO (I.sx _ x hx)
 have here:(zp s m).Ms[(m-1).toNat]? =some (zg s m x).2:=by rw [eX];exact List.getElem?_set_self hi
 have there: ∀(i:Nat) y,i≠(m-1).toNat→s.Ms[i]? =some y→(zp s m).Ms[i]? =some y:=fun i y hne h=>by rw [eX,List.getElem?_set_ne (fun e=>hne e.symm)];exact h
 have back: ∀(i:Nat) y,(zp s m).Ms[i]? =some y→(i=(m-1).toNat∧y=(zg s m x).2)∨(i≠(m-1).toNat∧s.Ms[i]? =some y):=fun i y h=>by
  rw [eX] at h
  by_cases hne:i=(m-1).toNat
  ·subst hne
   rw [List.getElem?_set_self hi] at h
   injection h with h
   exact .inl ⟨rfl,h.symm⟩
  ·rw [List.getElem?_set_ne (fun e=>hne e.symm)] at h
   exact .inr ⟨hne,h⟩
 have heapS: ∀u j,¬(x.PC=23∧u=vq x (opM p m x).A∧j=(opM p m x).S)→(yK s.H u j=true→yK (zp s m).H u j=true)∧zN (zp s m).H u j=zN s.H u j:=fun u j hne=>by
  rw [eH]
  rcases zy8 s m x with ⟨e,_⟩ | ⟨c,e,_⟩ | ⟨_,e⟩
  ·rw [e];exact ⟨id,rfl⟩
  ·rw [e,hP]
   obtain ⟨a,b⟩:=zAS (h:=s.H) (a:=vq x (opM p m x).A) (i:=(opM p m x).S) (v:=vq x (opM p m x).R) (u:=u) (j:=j) (fun e=>hne ⟨c,e⟩) (fun e=>(YX e).2.1)
   exact ⟨fun h=>a.trans h,b⟩
  ·rw [e];exact zy5 _ _ _
 have P:zrn s (zp s m) W (fun u j=>W u j∨(x.PC=23∧u=vq x (opM p m x).A∧j=(opM p m x).S)):=by
  refine ⟨mono,fun o h=> ?_,fun u j hW hj=> ?_,fun u j hW hj hg hu=> ?_,fun u j hW hj hm0 hm1=> ?_⟩
  ·rcases h with ⟨i,y,hy,h⟩ | ⟨i,y,hy,h⟩
   ·right;left;exact ⟨i,y,by rw [eW];exact hy,h⟩
   ·by_cases hne:i=(m-1).toNat
    ·subst hne
     rw [hx] at hy;injection hy with hy;subst hy
     rcases zvx (m:=m) hMX hXO G.B.blk h with h | h
     ·right;right;exact ⟨_,_,here,h⟩
     ·left;rw [eT];exact h
    ·right;right;exact ⟨i,y,there i y hne hy,h⟩
  ·by_cases hc:x.PC=23∧u=vq x (opM p m x).A∧j=(opM p m x).S
   ·obtain ⟨c,rfl,rfl⟩:=hc
    right
    rcases (hcv hW).2 c with h | h | h
    ·exact .inl h
    ·exact .inr (.inl (mono _ h))
    ·right;right;right
     refine ⟨_,_,here,.inl ?_⟩
     rcases zy8 s m x with ⟨_,e⟩ | ⟨_,_,e⟩ | ⟨e,_⟩
     ·exact absurd c e
     ·rw [e];exact h
     ·omega
   ·left
    obtain ⟨a,b⟩:=heapS u j hc
    exact ⟨fun h=>h.elim hW hc,a hj,b⟩
  ·have hpos:=YX hj
   have hrow:=zwQ G.E hj
   have htint:yE (zp s m).T u=1:=by
    rcases zqP G F hpos.1.2 hg with h | ⟨_,h⟩
    ·exact h
    ·exfalso
     obtain ⟨c,ho⟩:=zx9 hp G hx hT hg (by rw [←eT];exact h)
     have hle:=hu.2 _ x hx (.inr (.inr c)) ho
     have:=(I.sx _ x hx).2.2 c
     omega
   rcases sl2 u j hpos.2.1 (hu.2 _ x hx) with h | h | h
   ·left
    refine ⟨htint,fun i y hy=>hu.1 i y (by rw [←eW];exact hy),fun i y hy=> ?_⟩
    rcases back i y hy with ⟨_,rfl⟩ | ⟨_,hy⟩
    ·exact h
    ·exact hu.2 i y hy
   ·exact .inr (.inl h)
   ·exact .inr (.inr (.inr (.inr ⟨_,_,here,h⟩)))
  ·have hpos:=YX hj
   refine ⟨zpk G F hpos.1.2 hm0 hm1,fun i y hy hpc ho=> ?_,fun i y hy hpc ho=> ?_⟩
   ·rw [eW] at hy
    exact absurd (ho▸zsK G hy hpc) hm0
   ·rcases back i y hy with ⟨_,rfl⟩ | ⟨_,hy⟩
    ·exfalso
     rcases zyZ hp G hT hpos.1.2 hm0 (by rw [←eT];exact hm1) with c | c
     ·have:=zA9 (s:=s) (m:=m) c
      omega
     ·have h3:=zzv (s:=s) (m:=m) c
      exact hm0 (by rw [←ho,h3];exact zsA G hx (.inr (.inl c)))
    ·exact absurd (ho▸zsA G hy hpc) hm0
 refine ⟨fun u j=>W u j∨(x.PC=23∧u=vq x (opM p m x).A∧j=(opM p m x).S),fun o ho=> ?_,fun i y hy=>I.sw i y (by rw [←eW];exact hy),fun i y hy=> ?_,fun i y hy=> ?_⟩
 ·have h0:o≠0:=by have:=ho.in;omega
  rcases I.lv o ho with h | h
  ·exact .inl (mono o h)
  ·exact P.prot h h0
 ·rcases back i y hy with ⟨_,rfl⟩ | ⟨_,hy⟩
  ·exact sl1
  ·exact I.sx i y hy
 ·rcases back i y hy with ⟨rfl,rfl⟩ | ⟨_,hy⟩
  ·rw [ei,eS]
   exact zys hP hcv (fun o h=>by rw [←eT];exact mono o h) hXO.ret _
  ·intro hW
   have hW1: ¬W (vq y (opM p ((i:Int)+1) y).A) (opM p ((i:Int)+1) y).S:=fun h=>hW (.inl h)
   obtain ⟨a,b⟩:=I.cv i y hy hW1
   have hh:=(heapS (vq y (opM p ((i:Int)+1) y).A) (opM p ((i:Int)+1) y).S (fun h=>hW (.inr h))).2
   rw [hh]
   exact ⟨a,fun e=>(b e).imp id (fun h=>h.imp (mono _) id)⟩
end
end Go.Pe.G
namespace Go.Pe.G
open Go.Pe
noncomputable section
theorem zq8 {s:za} {w:Int} {x:ze} (c:x.PC=6):zj s w x=((zm s x.G).1,if (zm s x.G).2.Out=1 then {x with G:=(zm s x.G).2,PC:=onW s x.Slot} else {x with G:=(zm s x.G).2}):=by
 unfold zj
 rw [if_neg (by omega),if_neg (by omega),if_neg (by omega),if_neg (by omega),if_neg (by omega),if_pos c]
theorem zzt {p:zb} {s:za} {gh:Gh} {w:Int} {x:ze} (K:WX p s gh w x) (hb: ∀o,zL s.T.Black o=true→zL s.T.Marks o=true) {o:Int} (h:zki x o):zki (zj s w x).2 o∨zL (zj s w x).1.T.Marks o=true:=by
 obtain ⟨c,h⟩:=h
 obtain ⟨G,gm,gw,g0⟩:=K.p6 c
 rw [zq8 c]
 dsimp only
 rcases zpR G.md (h.2.2▸G.ob) (hb o) h with h' | h'
 ·left
  rw [if_neg (by have:=h'.1;omega)]
  exact ⟨c,h'⟩
 ·exact .inr h'
theorem zxM {p:zb} {nb:Nat} {s:za} (hsl:s.H.Slots=p.H.Slots) (h1:1≤p.H.Slots∧p.H.Slots≤2) {w:Int} {x:ze} (O:WOk p nb w x) (S:zmP p.H.Slots x) :
  zmP p.H.Slots (zj s w x).2∧∀u j,0≤j→ziZ x u j→ziZ (zj s w x).2 u j∨zN s.H u j=0∨zki (zj s w x).2 (zN s.H u j):=by
 have hpc:=O.pc
 have no: ∀ {y:ze},y.PC≠5→y.PC≠6→y.PC≠8→zmP p.H.Slots y∧∀u j,0≤j→ziZ x u j→ziZ y u j∨zN s.H u j=0∨zki y (zN s.H u j) :=
  fun a b c=>⟨⟨fun e=>absurd e a,fun e=>absurd e b,fun e=>absurd e c⟩,fun u j _ _=> .inl (fun e=>by omega)⟩
 have zero: ∀ {y:ze},y.PC=5→y.Slot=0→zmP p.H.Slots y∧∀u j,0≤j→ziZ x u j→ziZ y u j∨zN s.H u j=0∨zki y (zN s.H u j) :=
  fun a b=>⟨⟨fun _=>by omega,fun e=>by omega,fun e=>by omega⟩,fun u j h0 _=> .inl (fun _ _=>by omega)⟩
 have on: ∀k:Int,(onW s k=5∧k≠p.H.Slots)∨(onW s k=8∧k=p.H.Slots):=fun k=>by
  unfold onW
  rw [hsl]
  split
  ·rename_i e;exact .inr ⟨rfl,e⟩
  ·rename_i e;exact .inl ⟨rfl,e⟩
 have lk: ∀y:ze,(ui s.P w y).PC=1∨(ui s.P w y).PC=2:=fun y=>by unfold ui;split<;>simp
 by_cases c6:x.PC=6
 ·have hs:=S.2.1 c6
  rw [zq8 c6]
  dsimp only
  split
  ·refine ⟨⟨fun e=> ?_,fun e=> ?_,fun e=> ?_⟩,fun u j h0 h=> .inl (fun _ e=>h (.inr (.inl c6)) e)⟩
   ·dsimp only at e ⊢;have:=on x.Slot;omega
   ·dsimp only at e ⊢;have:=on x.Slot;omega
   ·dsimp only at e ⊢;have:=on x.Slot;omega
  ·exact ⟨⟨fun e=>absurd e (by show ¬x.PC=5;omega),fun _=>hs,fun e=>absurd e (by show ¬x.PC=8;omega)⟩,fun u j h0 h=> .inl (fun _ e=>h (.inr (.inl c6)) e)⟩
 have key: ∀r:za×ze,zj s w x=r→(zmP p.H.Slots r.2∧∀u j,0≤j→ziZ x u j→ziZ r.2 u j∨zN s.H u j=0∨zki r.2 (zN s.H u j))→zmP p.H.Slots (zj s w x).2∧∀u j,0≤j→ziZ x u j→ziZ (zj s w x).2 u j∨zN s.H u j=0∨zki (zj s w x).2 (zN s.H u j):=fun r e h=>by rw [e];exact h
 by_cases c01:x.PC=0∨x.PC=1
 ·refine key _ (by unfold zj;rw [if_pos c01]) ?_
  dsimp only
  split
  ·exact zero rfl rfl
  split
  ·have:=lk {x with D:=(zU s.M x.D).2}
   exact no (by omega) (by omega) (by omega)
  ·exact no (by dsimp only;omega) (by dsimp only;omega) (by dsimp only;omega)
 by_cases c2:x.PC=2
 ·refine key _ (by unfold zj;rw [if_neg c01,if_pos c2]) ?_
  dsimp only
  split
  ·exact no (by dsimp only;omega) (by dsimp only;omega) (by dsimp only;omega)
  split
  ·exact no (by show (0:Int)≠5;decide) (by show (0:Int)≠6;decide) (by show (0:Int)≠8;decide)
  ·exact no (by dsimp only;omega) (by dsimp only;omega) (by dsimp only;omega)
 by_cases c3:x.PC=3
 ·refine key _ (by unfold zj;rw [if_neg c01,if_neg c2,if_pos c3]) ?_
  exact no (by dsimp only;omega) (by dsimp only;omega) (by dsimp only;omega)
 by_cases c4:x.PC=4
 ·refine key _ (by unfold zj;rw [if_neg c01,if_neg c2,if_neg c3,if_pos c4]) ?_
  dsimp only
  split
  ·exact no (by dsimp only;omega) (by dsimp only;omega) (by dsimp only;omega)
  ·exact no (by dsimp only;omega) (by dsimp only;omega) (by dsimp only;omega)
 by_cases c:x.PC=5
 ·have hs:=S.1 c
  have ww:wc (x.Slot+1)=x.Slot+1:=xf (by omega) (by omega)
  refine key _ (by unfold zj;rw [if_neg c01,if_neg c2,if_neg c3,if_neg c4,if_pos c]) ?_
  dsimp only
  rw [ww]
  split
  ·rename_i hv
   refine ⟨⟨fun e=> ?_,fun e=> ?_,fun e=> ?_⟩,fun u j h0 h=> ?_⟩
   ·dsimp only at e ⊢;have:=on (x.Slot+1);omega
   ·dsimp only at e ⊢;have:=on (x.Slot+1);omega
   ·dsimp only at e ⊢;have:=on (x.Slot+1);omega
   ·by_cases hu:x.Obj=u
    ·have hle:=h (.inl c) hu
     by_cases hj:j=x.Slot
     ·right;left;rw [←hu,hj];exact hv
     ·left;intro _ _;show x.Slot+1≤j;omega
    ·left;intro _ e;exact absurd e hu
  ·rename_i hv
   refine ⟨⟨fun e=>absurd e (by show ¬(6:Int)=5;decide),fun _=>⟨by show 1≤x.Slot+1;omega,by show x.Slot+1≤_;omega⟩,fun e=>absurd e (by show ¬(6:Int)=8;decide)⟩,fun u j h0 h=> ?_⟩
   by_cases hu:x.Obj=u
   ·have hle:=h (.inl c) hu
    by_cases hj:j=x.Slot
    ·right;right
     exact ⟨rfl,rfl,.inl rfl,by rw [←hu,hj];rfl⟩
    ·left;intro _ _;show x.Slot+1≤j;omega
   ·left;intro _ e;exact absurd e hu
 by_cases c7:x.PC=7
 ·refine key _ (by unfold zj;rw [if_neg c01,if_neg c2,if_neg c3,if_neg c4,if_neg c,if_neg c6,if_pos c7]) ?_
  dsimp only
  split
  ·exact no (by show (0:Int)≠5;decide) (by show (0:Int)≠6;decide) (by show (0:Int)≠8;decide)
  ·exact zero rfl rfl
 by_cases c8:x.PC=8
 ·refine key _ (by unfold zj;rw [if_neg c01,if_neg c2,if_neg c3,if_neg c4,if_neg c,if_neg c6,if_neg c7,if_pos c8]) ?_
  exact no (by dsimp only;omega) (by dsimp only;omega) (by dsimp only;omega)
 have c9:x.PC=9:=by omega
 refine key _ (by unfold zj;rw [if_neg c01,if_neg c2,if_neg c3,if_neg c4,if_neg c,if_neg c6,if_neg c7,if_neg c8,if_pos c9]) ?_
 exact no (by dsimp only;omega) (by dsimp only;omega) (by dsimp only;omega)
theorem PI.worker {p:zb} (hp:zA p) {nb k:Nat} {s:za} {gh:Gh} (hk:k<4294960000) (G:FG p nb k s gh) {W:Int→Int→Prop} (I:PI p s W) {w:Int} (hw:1≤w∧w≤p.Workers) (hd:s.Done=false):PI p (zE s w) W:=by
 obtain ⟨gh',G',F,x,hx,N,C,hbag,hT⟩:=G.worker hp hk hw hd
 have hwl:=G.E.wl
 have hsl:=hp.slots
 have hi:(w-1).toNat<s.Ws.length:=(List.getElem?_eq_some_iff.1 hx).1
 have ei:(((w-1).toNat:Nat):Int)+1=w:=by omega
 have eS:zE s w={(zj s w x).1 with Ws:=s.Ws.set (w-1).toNat (zj s w x).2}:=by
  unfold zE
  rw [if_neg (by rw [hd];rintro (e | e | e)<;>first | cases e | omega),hx]
 have hWX:=G.W _ x hx
 have hWO:=G.E.W _ x hx
 rw [ei] at hWX hWO
 have hfr:=zdQ (s:=s) hWO
 have eH:(zE s w).H=s.H:=by rw [eS];show (zj s w x).1.H=_;rw [hfr]
 have eT:(zE s w).T=(zj s w x).1.T:=by rw [eS]
 have eX:(zE s w).Ms=s.Ms:=by rw [eS];show (zj s w x).1.Ms=_;rw [hfr]
 have eW:(zE s w).Ws=s.Ws.set (w-1).toNat (zj s w x).2:=by rw [eS]
 have mono: ∀o,zL s.T.Marks o=true→zL (zE s w).T.Marks o=true:=fun o h=>F.mono h
 obtain ⟨sl1,sl2⟩:=zxM (s:=s) (w:=w) G.E.H.slots hsl hWO (I.sw _ x hx)
 have here:(zE s w).Ws[(w-1).toNat]? =some (zj s w x).2:=by rw [eW];exact List.getElem?_set_self hi
 have there: ∀(i:Nat) y,i≠(w-1).toNat→s.Ws[i]? =some y→(zE s w).Ws[i]? =some y:=fun i y hne h=>by rw [eW,List.getElem?_set_ne (fun e=>hne e.symm)];exact h
 have back: ∀(i:Nat) y,(zE s w).Ws[i]? =some y→(i=(w-1).toNat∧y=(zj s w x).2)∨(i≠(w-1).toNat∧s.Ws[i]? =some y):=fun i y h=>by
  rw [eW] at h
  by_cases hne:i=(w-1).toNat
  ·subst hne
   rw [List.getElem?_set_self hi] at h
   injection h with h
   exact .inl ⟨rfl,h.symm⟩
  ·rw [List.getElem?_set_ne (fun e=>hne e.symm)] at h
   exact .inr ⟨hne,h⟩
 have P:zrn s (zE s w) W W:=by
  refine ⟨mono,fun o h=> ?_,fun u j hW hj=> .inl ⟨hW,by rw [eH];exact hj,by rw [eH]⟩,fun u j hW hj hg hu=> ?_,fun u j hW hj hm0 hm1=> ?_⟩
  ·rcases h with ⟨i,y,hy,h⟩ | ⟨i,y,hy,h⟩
   ·by_cases hne:i=(w-1).toNat
    ·subst hne
     rw [hx] at hy;injection hy with hy;subst hy
     rcases zzt hWX G.B.blk h with h | h
     ·right;left;exact ⟨_,_,here,h⟩
     ·left;rw [eT];exact h
    ·right;left;exact ⟨i,y,there i y hne hy,h⟩
   ·right;right;exact ⟨i,y,by rw [eX];exact hy,h⟩
  ·have hpos:=YX hj
   have hrow:=zwQ G.E hj
   have htint:yE (zE s w).T u=1:=by
    rcases zqP G F hpos.1.2 hg with h | ⟨_,h⟩
    ·exact h
    ·exfalso
     have hb:=((u7 _ _).1 hg).2
     have huu:=(wE s.T.Black (zhC hg) u).2 (.inr rfl)
     rcases hT with ⟨_,_,e⟩ | ⟨_,_,_,_,e⟩ | ⟨_,_,c,e⟩
     ·rw [eT,e] at h
      have:=congrArg zt.Black h
      exact absurd (by rw [this];exact huu) hb
     ·rw [eT,e] at h
      have:=congrArg zt.Black h
      exact absurd (by rw [this];exact huu) hb
     ·have hob:yE s.T x.Obj=1:=G.grey (zlV hx (by unfold zP;rw [YA (.inr c)];simp))
      rw [eT,e] at h
      unfold wx at h
      rw [if_pos hob] at h
      have hbb:s.T.Black|||bit x.Obj=s.T.Black|||bit u:=congrArg zt.Black h
      rw [←hbb] at huu
      rcases YV huu with h2 | h2
      ·exact hb h2
      ·have hle:=hu.1 _ x hx (.inr (.inr c)) h2.symm
       have:=(I.sw _ x hx).2.2 c
       omega
   rcases sl2 u j hpos.2.1 (hu.1 _ x hx) with h | h | h
   ·left
    refine ⟨htint,fun i y hy=> ?_,fun i y hy=>hu.2 i y (by rw [←eX];exact hy)⟩
    rcases back i y hy with ⟨_,rfl⟩ | ⟨_,hy⟩
    ·exact h
    ·exact hu.1 i y hy
   ·exact .inr (.inl h)
   ·exact .inr (.inr (.inr (.inl ⟨_,_,here,h⟩)))
  ·have hpos:=YX hj
   refine ⟨zpk G F hpos.1.2 hm0 hm1,fun i y hy hpc ho=> ?_,fun i y hy hpc ho=> ?_⟩
   ·rcases back i y hy with ⟨_,rfl⟩ | ⟨_,hy⟩
    ·exfalso
     rcases hT with ⟨_,_,e⟩ | ⟨_,_,c,_,e⟩ | ⟨_,_,c,e⟩
     ·rw [eT,e] at hm1;exact hm0 hm1
     ·have h3:(zj s w x).2.Obj=x.Obj:=by rw [zq8 c];dsimp only;split<;>rfl
      exact hm0 (by rw [←ho,h3];exact zsK G hx (.inr (.inl c)))
     ·rw [eT,e,(zeZ _ _).1] at hm1;exact hm0 hm1
    ·exact absurd (ho▸zsK G hy hpc) hm0
   ·rw [eX] at hy
    exact absurd (ho▸zsA G hy hpc) hm0
 refine ⟨fun o ho=> ?_,fun i y hy=> ?_,fun i y hy=>I.sx i y (by rw [←eX];exact hy),fun i y hy hW=> ?_⟩
 ·have h0:o≠0:=by have:=ho.in;omega
  rcases I.lv o ho with h | h
  ·exact .inl (mono o h)
  ·exact P.prot h h0
 ·rcases back i y hy with ⟨_,rfl⟩ | ⟨_,hy⟩
  ·exact sl1
  ·exact I.sw i y hy
 ·rw [eX] at hy
  obtain ⟨a,b⟩:=I.cv i y hy hW
  rw [eH]
  exact ⟨a,fun e=>(b e).imp id (fun h=>h.imp (mono _) id)⟩
end
end Go.Pe.G
namespace Go.Pe.G
open Go.Pe
noncomputable section
def owG (g:zC):Int:=if g.Out=0∧(g.PC=1∨g.PC=2) then 1 else 0
def owW (x:ze):Int:=if x.PC=9 then 1 else if x.PC=6 then owG x.G else 0
def owX (x:zc):Int:=if x.PC=39 then 1 else if x.PC=3∨x.PC=37 then owG x.G else 0
theorem zyh (g:zC):0≤owG g∧owG g≤1:=by unfold owG;split<;>decide
theorem zn9 (x:ze):0≤owW x∧owW x≤1:=by
 unfold owW
 split
 ·decide
 split
 ·exact zyh _
 ·decide
theorem znP (x:zc):0≤owX x∧owX x≤1:=by
 unfold owX
 split
 ·decide
 split
 ·exact zyh _
 ·decide
theorem Z9 {g:zC} (h:g.Out≠0∨(g.PC≠1∧g.PC≠2)):owG g=0:=by unfold owG;rw [if_neg (by omega)]
theorem zrq {g:zC} (h:g.Out=0) (h2:g.PC=1∨g.PC=2):owG g=1:=by unfold owG;rw [if_pos ⟨h,h2⟩]
theorem zts (t:zt) (o:Int):((vj t o).2=false∧(vj t o).1=t)∨((vj t o).2=true∧¬(t.Marks|||bit o=t.Marks)∧(vj t o).1={t with Marks:=t.Marks|||bit o}):=by
 unfold vj
 split
 ·exact .inl ⟨rfl,rfl⟩
 split
 ·rename_i h _;exact .inr ⟨rfl,h,rfl⟩
 ·exact .inl ⟨rfl,rfl⟩
theorem zty {p:zb} {s:za} {gh:Gh} {g:zC} (G:GX p s gh g) (g0:g.Out=0) (hw:0≤s.Work∧s.Work≤4294970000) :
  ((zm s g).1.T=s.T∧(zm s g).1.Work=s.Work+owG (zm s g).2-owG g) ∨
  (¬(s.T.Marks|||bit g.Obj=s.T.Marks)∧(zm s g).1.T={s.T with Marks:=s.T.Marks|||bit g.Obj}∧(zm s g).1.Work=s.Work+owG (zm s g).2-owG g+1):=by
 have hpc:=G.pc
 have hmd:=G.md
 unfold zm
 rw [if_neg (by omega)]
 by_cases c7:g.PC=7
 ·rw [if_pos c7]
  unfold Vz;dsimp only
  left;refine ⟨rfl,?_⟩
  rw [Z9 (g:=g) (by omega),Z9 (by split<;>(dsimp only;omega))];omega
 rw [if_neg c7]
 by_cases c6:g.PC=6
 ·rw [if_pos c6]
  left;refine ⟨rfl,?_⟩
  rw [Z9 (g:=g) (by omega),Z9 (by show _∨((7:Int)≠1∧(7:Int)≠2);omega)]
  show s.Work=_;omega
 rw [if_neg c6]
 by_cases c5:g.PC=5
 ·rw [if_pos c5]
  unfold zdO Uh;dsimp only
  left;refine ⟨rfl,?_⟩
  rw [Z9 (g:=g) (by omega),Z9 (by (repeat' split)<;>(dsimp only;omega))];omega
 rw [if_neg c5]
 by_cases c4:g.PC=4
 ·rw [if_pos c4]
  left;refine ⟨rfl,?_⟩
  rw [Z9 (g:=g) (by omega),Z9 (by show _∨((5:Int)≠1∧(5:Int)≠2);omega)]
  show s.Work=_;omega
 rw [if_neg c4]
 by_cases c3:g.PC=3
 ·rw [if_pos c3]
  unfold zdW Uh;dsimp only
  left;refine ⟨rfl,?_⟩
  rw [Z9 (g:=g) (by omega),Z9 (by (repeat' split)<;>(dsimp only;omega))];omega
 rw [if_neg c3]
 by_cases c2:g.PC=2
 ·rw [if_pos c2]
  left;refine ⟨rfl,?_⟩
  rw [zrq g0 (.inr c2),Z9 (by show (1:Int)≠0∨_;omega)]
  show wc (s.Work-1)=_
  rw [xf (by omega) (by omega)];omega
 rw [if_neg c2]
 by_cases c1:g.PC=1
 ·rw [if_pos c1]
  unfold zdt;dsimp only
  rw [zrq g0 (.inl c1)]
  rcases zts s.T g.Obj with ⟨a,b⟩ | ⟨a,b,c⟩
  ·left
   refine ⟨b,?_⟩
   rw [if_pos a,zrq (by dsimp only;exact g0) (.inr rfl)];omega
  ·right
   refine ⟨b,c,?_⟩
   rw [if_neg (by rw [a];decide)]
   unfold Uh
   rw [Z9 (by (repeat' split)<;>(dsimp only;omega))];omega
 rw [if_neg c1]
 left;refine ⟨rfl,?_⟩
 rw [Z9 (g:=g) (by omega),zrq (by dsimp only;exact g0) (.inl rfl)]
 show wc (s.Work+1)=_
 rw [xf (by omega) (by omega)];omega
theorem zmJ {t:zt} {o:Int} (h:yE t o=1):wx t o≠t:=by
 have hb:=(u7 t o).1 h
 have hr:=zhC h
 unfold wx
 rw [if_pos h]
 intro e
 have e:=congrArg zt.Black e
 exact hb.2 (by rw [←e];exact (wE _ hr o).2 (.inr rfl))
theorem zbm {t:zt} {o:Int} (h: ¬(t.Marks|||bit o=t.Marks)):({t with Marks:=t.Marks|||bit o}:zt)≠t:=fun e=>h (congrArg zt.Marks e)
theorem zya {p:zb} {nb:Nat} {s:za} {gh:Gh} {w:Int} {x:ze} (W:WX p s gh w x) (O:WOk p nb w x) (hw:0≤s.Work∧s.Work≤4294970000) (h8:x.PC=8→yE s.T x.Obj=1) {N C:List Int}
  (hT:(N=[]∧C=[]∧(zj s w x).1.T=s.T)∨(N=[x.G.Obj]∧C=[]∧x.PC=6∧¬(s.T.Marks|||bit x.G.Obj=s.T.Marks)∧(zj s w x).1.T={s.T with Marks:=s.T.Marks|||bit x.G.Obj})∨(N=[]∧C=[x.Obj]∧x.PC=8∧(zj s w x).1.T=wx s.T x.Obj)) :
  (zj s w x).1.Work=s.Work+owW (zj s w x).2-owW x+(N.length:Int)-(C.length:Int):=by
 have hpc:=O.pc
 revert hT
 have ob: ∀y:ze,owW (V8 s.P w y)=0:=fun y=>rfl
 have ol: ∀y:ze,owW (ui s.P w y)=0:=fun y=>by unfold ui;split<;>rfl
 have quiet: ∀ {t:za} {y:ze},(N=[]∧C=[]∧t.T=s.T)∨(N=[x.G.Obj]∧C=[]∧x.PC=6∧¬(s.T.Marks|||bit x.G.Obj=s.T.Marks)∧t.T={s.T with Marks:=s.T.Marks|||bit x.G.Obj})∨(N=[]∧C=[x.Obj]∧x.PC=8∧t.T=wx s.T x.Obj) →
   x.PC≠6→x.PC≠8→t.Work=s.Work+owW y-owW x→t.Work=s.Work+owW y-owW x+(N.length:Int)-(C.length:Int):=by
  rintro t y (⟨e1,e2,_⟩ | ⟨_,_,e,_⟩ | ⟨_,_,e,_⟩) h1 h2 h
  ·rw [e1,e2];simp only [List.length_nil];omega
  ·omega
  ·omega
 have o0:x.PC≠9→x.PC≠6→owW x=0:=fun h1 h2=>by unfold owW;rw [if_neg h1,if_neg h2]
 unfold zj
 split
 ·rename_i c
  intro hT
  refine quiet hT (by omega) (by omega) ?_
  rw [o0 (by omega) (by omega)]
  show s.Work=_
  dsimp only
  split
  ·show s.Work=s.Work+0-0;omega
  split
  ·rw [ol];omega
  ·rw [show owW {x with D:=(zU s.M x.D).2}=owW x from rfl,o0 (by omega) (by omega)];omega
 split
 ·intro hT
  refine quiet hT (by omega) (by omega) ?_
  rw [o0 (by omega) (by omega)]
  show s.Work=_
  dsimp only
  split
  ·rw [show ∀b c,owW {x with C:=c,Bin:=b,PC:=3}=0 from fun _ _=>rfl];omega
  split
  ·rw [ob];omega
  ·rw [show owW {x with C:=(zn s.M x.C).2}=owW x from rfl,o0 (by omega) (by omega)];omega
 split
 ·intro hT
  refine quiet hT (by omega) (by omega) ?_
  rw [o0 (by omega) (by omega)]
  show s.Work=s.Work+0-0;omega
 split
 ·intro hT
  refine quiet hT (by omega) (by omega) ?_
  rw [o0 (by omega) (by omega)]
  show s.Work=_
  dsimp only
  split
  ·rw [show ∀c,owW {x with PC:=7,C:=c,Bin:=0}=0 from fun _=>rfl];omega
  ·rw [show owW {x with C:=(zn s.M x.C).2}=owW x from rfl,o0 (by omega) (by omega)];omega
 split
 ·intro hT
  refine quiet hT (by omega) (by omega) ?_
  rw [o0 (by omega) (by omega)]
  dsimp only
  split
  ·have: ∀y,owW {x with Slot:=y,PC:=onW s y}=0:=fun y=>by
    unfold owW
    rcases ziw s y with e | e<;>rw [if_neg (by dsimp only;omega),if_neg (by dsimp only;omega)]
   rw [this];omega
  ·rw [show ∀y v,owW {x with Slot:=y,PC:=6,G:=uZ 1 v w}=0 from fun _ _=>rfl];omega
 split
 ·rename_i c
  intro hT
  obtain ⟨G,gm,gw,g0⟩:=W.p6 c
  have e1:owW x=owG x.G:=by unfold owW;rw [if_neg (by omega),if_pos c]
  have e2:owW (if (zm s x.G).2.Out=1 then {x with G:=(zm s x.G).2,PC:=onW s x.Slot} else {x with G:=(zm s x.G).2})=owG (zm s x.G).2:=by
   split
   ·rename_i o
    rw [Z9 (.inl (by omega))]
    unfold owW
    rcases ziw s x.Slot with e | e<;>rw [if_neg (by dsimp only;omega),if_neg (by dsimp only;omega)]
   ·unfold owW;rw [if_neg (by dsimp only;omega),if_pos c]
  dsimp only at hT ⊢
  rw [e1,e2]
  rcases zty G g0 hw with ⟨a,b⟩ | ⟨a,b,d⟩
  ·rcases hT with ⟨n1,n2,_⟩ | ⟨_,_,_,n3,n4⟩ | ⟨_,_,e,_⟩
   ·rw [n1,n2,b];simp only [List.length_nil];omega
   ·exact absurd (n4.symm.trans a) (zbm n3)
   ·omega
  ·rcases hT with ⟨n1,n2,n3⟩ | ⟨n1,n2,_,n3,n4⟩ | ⟨_,_,e,_⟩
   ·exact absurd (b.symm.trans n3) (zbm a)
   ·rw [n1,n2,d];simp only [List.length_nil,List.length_cons];omega
   ·omega
 split
 ·intro hT
  refine quiet hT (by omega) (by omega) ?_
  rw [o0 (by omega) (by omega)]
  dsimp only
  split
  ·rw [ob];omega
  ·rw [show ∀o l,owW {x with PC:=5,Obj:=o,Slot:=0,Batch:=l}=0 from fun _ _=>rfl];omega
 split
 ·rename_i c
  intro hT
  have e0:owW x=0:=o0 (by omega) (by omega)
  rw [e0]
  rcases hT with ⟨_,_,e⟩ | ⟨_,_,e,_⟩ | ⟨n1,n2,_,_⟩
  ·exact absurd e (zmJ (h8 c))
  ·omega
  ·rw [n1,n2]
   show s.Work=s.Work+1-0+0-1
   omega
 split
 ·rename_i c
  intro hT
  refine quiet hT (by omega) (by omega) ?_
  have e1:owW x=1:=by unfold owW;rw [if_pos c]
  rw [e1]
  show wc (s.Work-1)=s.Work+0-1
  rw [xf (by omega) (by omega)];omega
 ·intro hT;omega
theorem zAk {p:zb} {nb:Nat} {s:za} {gh:Gh} {m:Int} {x:zc} (W:MX p s gh x) (O:XOk p nb m x) (hw:0≤s.Work∧s.Work≤4294970000) (h8:x.PC=38→yE s.T x.Obj=1) {N C:List Int}
  (hT:(N=[]∧C=[]∧(zg s m x).1.T=s.T)∨(N=[x.G.Obj]∧C=[]∧(x.PC=3∨x.PC=37)∧¬(s.T.Marks|||bit x.G.Obj=s.T.Marks)∧(zg s m x).1.T={s.T with Marks:=s.T.Marks|||bit x.G.Obj})∨(N=[]∧C=[x.Obj]∧x.PC=38∧(zg s m x).1.T=wx s.T x.Obj) ∨
   (N=[]∧C=[]∧x.PC=30∧YP s.H s.P.Most=true∧(zg s m x).1.H=xV s.H∧(zg s m x).1.T=YE s.T (wc (s.H.Objs.length+1)))) :
  (zg s m x).1.Work=s.Work+owX (zg s m x).2-owX x+(N.length:Int)-(C.length:Int):=by
 have hpc:=O.pc
 have hrt:=O.ret
 have calm: ∀ {r:za×zc},(N=[]∧C=[]∧r.1.T=s.T)∨(N=[x.G.Obj]∧C=[]∧(x.PC=3∨x.PC=37)∧¬(s.T.Marks|||bit x.G.Obj=s.T.Marks)∧r.1.T={s.T with Marks:=s.T.Marks|||bit x.G.Obj})∨(N=[]∧C=[x.Obj]∧x.PC=38∧r.1.T=wx s.T x.Obj) ∨
   (N=[]∧C=[]∧x.PC=30∧YP s.H s.P.Most=true∧r.1.H=xV s.H∧r.1.T=YE s.T (wc (s.H.Objs.length+1))) →
   x.PC≠3→x.PC≠37→x.PC≠38→r.1.Work=s.Work+owX r.2-owX x→r.1.Work=s.Work+owX r.2-owX x+(N.length:Int)-(C.length:Int):=by
  rintro r (⟨e1,e2,_⟩ | ⟨_,_,e,_⟩ | ⟨_,_,e,_⟩ | ⟨e1,e2,_⟩) h1 h2 h3 h
  ·rw [e1,e2];simp only [List.length_nil];omega
  ·omega
  ·omega
  ·rw [e1,e2];simp only [List.length_nil];omega
 have o0: ∀ {y:zc},y.PC≠39→y.PC≠3→y.PC≠37→owX y=0:=fun h1 h2 h3=>by unfold owX;rw [if_neg h1,if_neg (by omega)]
 have og: ∀(y:zc) (k a b:Int),owX {y with PC:=3,G:=uZ k a b}=0:=fun y k a b=>by unfold owX;rw [if_neg (by dsimp only;omega),if_pos (.inl rfl)];exact Z9 (.inr ⟨by show (0:Int)≠1;decide,by show (0:Int)≠2;decide⟩)
 have gq: ∀(N C:List Int) (G:GX p s gh x.G) (g0:x.G.Out=0) (hT:(N=[]∧C=[]∧(zm s x.G).1.T=s.T)∨(N=[x.G.Obj]∧C=[]∧(x.PC=3∨x.PC=37)∧¬(s.T.Marks|||bit x.G.Obj=s.T.Marks)∧(zm s x.G).1.T={s.T with Marks:=s.T.Marks|||bit x.G.Obj})),
   (zm s x.G).1.Work=s.Work+owG (zm s x.G).2-owG x.G+(N.length:Int)-(C.length:Int):=by
  intro N C G g0 hT
  rcases zty G g0 hw with ⟨a,b⟩ | ⟨a,b,d⟩
  ·rcases hT with ⟨n1,n2,_⟩ | ⟨_,_,_,n3,n4⟩
   ·rw [n1,n2,b];simp only [List.length_nil];omega
   ·exact absurd (n4.symm.trans a) (zbm n3)
  ·rcases hT with ⟨n1,n2,n3⟩ | ⟨n1,n2,_,n3,n4⟩
   ·exact absurd (b.symm.trans n3) (zbm a)
   ·rw [n1,n2,d];simp only [List.length_nil,List.length_cons];omega
 revert hT
 refine yw (motive:=fun r=>((N=[]∧C=[]∧r.1.T=s.T)∨(N=[x.G.Obj]∧C=[]∧(x.PC=3∨x.PC=37)∧¬(s.T.Marks|||bit x.G.Obj=s.T.Marks)∧r.1.T={s.T with Marks:=s.T.Marks|||bit x.G.Obj})∨(N=[]∧C=[x.Obj]∧x.PC=38∧r.1.T=wx s.T x.Obj) ∨
   (N=[]∧C=[]∧x.PC=30∧YP s.H s.P.Most=true∧r.1.H=xV s.H∧r.1.T=YE s.T (wc (s.H.Objs.length+1)))) →
   r.1.Work=s.Work+owX r.2-owX x+(N.length:Int)-(C.length:Int)) s m x ?_ ?_ ?_ ?_ ?_ ?_ ?_ ?_ ?_ ?_ ?_ ?_ ?_ ?_ ?_ ?_ ?_ ?_ ?_ ?_
 ·intro c hT
  refine calm hT (by omega) (by omega) (by omega) ?_
  rw [o0 (y:=x) (by omega) (by omega) (by omega)]
  unfold mu0 uY
  repeat' split
  all_goals (rw [o0 (by (try dsimp only [setM]);omega) (by (try dsimp only [setM]);omega) (by (try dsimp only [setM]);omega)];dsimp only;omega)
 ·intro c hT
  refine calm hT (by omega) (by omega) (by omega) ?_
  rw [o0 (y:=x) (by omega) (by omega) (by omega)]
  unfold mu1;dsimp only
  split
  ·have:=hrt (.inl c)
   rw [o0 (by dsimp only;omega) (by dsimp only;omega) (by dsimp only;omega)];omega
  ·have e: ∀l,owX {x with PC:=3,Buf:=l,G:=uZ 2 (x.Buf.getD (x.Buf.length-1) 0) m}=0:=fun l=>og {x with Buf:=l} 2 _ m
   rw [e];omega
 ·intro c hT
  refine calm hT (by omega) (by omega) (by omega) ?_
  rw [o0 (y:=x) (by omega) (by omega) (by omega)]
  show s.Work=s.Work+0-0;omega
 ·intro c hT
  obtain ⟨G,gm,g0⟩:=W.p3 c
  have e1:owX x=owG x.G:=by unfold owX;rw [if_neg (by omega),if_pos (.inl c)]
  unfold mu3 at hT ⊢
  dsimp only at hT ⊢
  have e2:owX (if (zm s x.G).2.Out=1 then {x with PC:=1,G:=(zm s x.G).2} else {x with G:=(zm s x.G).2})=owG (zm s x.G).2:=by
   split
   ·rename_i o
    rw [Z9 (.inl (by omega)),o0 (by dsimp only;omega) (by dsimp only;omega) (by dsimp only;omega)]
   ·unfold owX;rw [if_neg (by dsimp only;omega),if_pos (.inl c)]
  rw [e1,e2]
  refine gq N C G g0 ?_
  rcases hT with h | h | ⟨_,_,e,_⟩ | ⟨_,_,e,_⟩
  ·exact .inl h
  ·exact .inr h
  ·omega
  ·omega
 ·intro c hT
  refine calm hT (by omega) (by omega) (by omega) ?_
  rw [o0 (y:=x) (by omega) (by omega) (by omega)]
  show s.Work=s.Work+0-0;omega
 ·intro c hT
  refine calm hT (by omega) (by omega) (by omega) ?_
  rw [o0 (y:=x) (by omega) (by omega) (by omega)]
  unfold XK;dsimp only
  split<;>(rw [o0 (by dsimp only [yP];omega) (by dsimp only [yP];omega) (by dsimp only [yP];omega)];omega)
 ·intro c hT
  refine calm hT (by omega) (by omega) (by omega) ?_
  rw [o0 (y:=x) (by omega) (by omega) (by omega)]
  unfold Xw;dsimp only
  split<;>(rw [o0 (by dsimp only;omega) (by dsimp only;omega) (by dsimp only;omega)];omega)
 ·intro c hT
  refine calm hT (by omega) (by omega) (by omega) ?_
  rw [o0 (y:=x) (by omega) (by omega) (by omega)]
  unfold Vi;dsimp only
  split<;>(rw [o0 (by dsimp only;omega) (by dsimp only;omega) (by dsimp only;omega)];omega)
 ·intro c hT
  refine calm hT (by omega) (by omega) (by omega) ?_
  rw [o0 (y:=x) (by omega) (by omega) (by omega)]
  show s.Work=s.Work+0-0;omega
 ·intro c hT
  refine calm hT (by omega) (by omega) (by omega) ?_
  rw [o0 (y:=x) (by omega) (by omega) (by omega)]
  unfold Z4
  split
  ·split
   ·show s.Work=s.Work+0-0;omega
   ·show s.Work=s.Work+0-0;omega
  ·show s.Work=s.Work+0-0;omega
 ·intro c hT
  refine calm hT (by omega) (by omega) (by omega) ?_
  rw [o0 (y:=x) (by omega) (by omega) (by omega)]
  unfold WR;dsimp only
  split<;>(rw [o0 (by dsimp only;omega) (by dsimp only;omega) (by dsimp only;omega)];omega)
 ·intro c hT
  refine calm hT (by omega) (by omega) (by omega) ?_
  rw [o0 (y:=x) (by omega) (by omega) (by omega)]
  unfold WD;dsimp only
  split
  ·rw [o0 (by dsimp only;omega) (by dsimp only;omega) (by dsimp only;omega)];omega
  split<;>(rw [o0 (by dsimp only;omega) (by dsimp only;omega) (by dsimp only;omega)];omega)
 ·intro c hT
  refine calm hT (by omega) (by omega) (by omega) ?_
  rw [o0 (y:=x) (by omega) (by omega) (by omega)]
  show s.Work=s.Work+0-0;omega
 ·intro c hT
  refine calm hT (by omega) (by omega) (by omega) ?_
  rw [o0 (y:=x) (by omega) (by omega) (by omega)]
  unfold WN;dsimp only
  split<;>(rw [o0 (by dsimp only;omega) (by dsimp only;omega) (by dsimp only;omega)];omega)
 ·intro c hT
  refine calm hT (by omega) (by omega) (by omega) ?_
  rw [o0 (y:=x) (by omega) (by omega) (by omega)]
  unfold WK;dsimp only
  split<;>(rw [o0 (by dsimp only;omega) (by dsimp only;omega) (by dsimp only;omega)];omega)
 ·intro c hT
  refine calm hT (by omega) (by omega) (by omega) ?_
  rw [o0 (y:=x) (by omega) (by omega) (by omega)]
  unfold Ud;dsimp only
  split
  ·have:=Zr s (wc (x.Slot+1))
   rw [o0 (by dsimp only;omega) (by dsimp only;omega) (by dsimp only;omega)];omega
  ·have e: ∀y v,owX {x with Slot:=y,PC:=37,G:=uZ 3 v m}=0:=fun y v=>by unfold owX;rw [if_neg (by dsimp only;omega),if_pos (.inr rfl)];exact Z9 (.inr ⟨by show (0:Int)≠1;decide,by show (0:Int)≠2;decide⟩)
   rw [e];omega
 ·intro c hT
  obtain ⟨G,gm,g0⟩:=W.p37 c
  have e1:owX x=owG x.G:=by unfold owX;rw [if_neg (by omega),if_pos (.inr c)]
  unfold Y5 at hT ⊢
  dsimp only at hT ⊢
  have e2:owX (if (zm s x.G).2.Out=1 then {x with G:=(zm s x.G).2,PC:=onM s x.Slot} else {x with G:=(zm s x.G).2})=owG (zm s x.G).2:=by
   split
   ·rename_i o
    have:=Zr s x.Slot
    rw [Z9 (.inl (by omega)),o0 (by dsimp only;omega) (by dsimp only;omega) (by dsimp only;omega)]
   ·unfold owX;rw [if_neg (by dsimp only;omega),if_pos (.inr c)]
  rw [e1,e2]
  refine gq N C G g0 ?_
  rcases hT with h | h | ⟨_,_,e,_⟩ | ⟨_,_,e,_⟩
  ·exact .inl h
  ·exact .inr h
  ·omega
  ·omega
 ·intro c hT
  rw [o0 (y:=x) (by omega) (by omega) (by omega)]
  rcases hT with ⟨_,_,e⟩ | ⟨_,_,e,_⟩ | ⟨n1,n2,_,_⟩ | ⟨_,_,e,_⟩
  ·exact absurd e (zmJ (h8 c))
  ·omega
  ·rw [n1,n2]
   show s.Work=s.Work+1-0+0-1
   omega
  ·omega
 ·intro c hT
  refine calm hT (by omega) (by omega) (by omega) ?_
  have e1:owX x=1:=by unfold owX;rw [if_pos c]
  rw [e1]
  show wc (s.Work-1)=s.Work+0-1
  rw [xf (by omega) (by omega)];omega
 ·intro hT
  rcases hT with ⟨n1,n2,_⟩ | ⟨_,_,_,n3,n4⟩ | ⟨n1,n2,c,e⟩ | ⟨n1,n2,_⟩
  ·rw [n1,n2];simp only [List.length_nil];omega
  ·exact absurd n4.symm (zbm n3)
  ·exact absurd e.symm (zmJ (h8 c))
  ·rw [n1,n2];simp only [List.length_nil];omega
end
end Go.Pe.G
namespace Go.Pe.G
open Go.Pe
noncomputable section
def zah (s:za):Int:=(s.Ws.map owW).sum+(s.Ms.map owX).sum
theorem zlG: ∀ {l:List Int},(∀v∈l,0≤v)→0≤l.sum
 | [],_=>by simp
 | a::l,h=>by
  have:=zlG (l:=l) (fun v hv=>h v (List.mem_cons_of_mem _ hv))
  have:=h a (List.mem_cons_self ..)
  rw [List.sum_cons];omega
theorem zyK (s:za):0≤zah s:=by
 have h1:0≤(s.Ws.map owW).sum:=zlG (fun v hv=>by obtain ⟨x,_,rfl⟩:=List.mem_map.1 hv;exact (zn9 x).1)
 have h2:0≤(s.Ms.map owX).sum:=zlG (fun v hv=>by obtain ⟨x,_,rfl⟩:=List.mem_map.1 hv;exact (znP x).1)
 unfold zah;omega
theorem zvv {α:Type} {f:α→Int} {l:List α} {i:Nat} {x:α} (h:l[i]? =some x) (y:α):((l.set i y).map f).sum=(l.map f).sum-f x+f y:=by
 have hi:=(List.getElem?_eq_some_iff.1 h).1
 rw [List.map_set,zoO _ _ _ (by simpa using hi)]
 rw [List.getD_eq_getElem?_getD,List.getElem?_map,h]
 rfl
structure EG (p:zb) (nb k:Nat) (s:za) (gh:Gh):Prop where
 G:FG p nb k s gh
 wk:s.Work=((uB p s gh).length:Int)+zah s
 le:s.Work≤2*(k:Int)+100
theorem EG.work_nn {p:zb} {nb k:Nat} {s:za} {gh:Gh} (I:EG p nb k s gh):0≤s.Work:=by
 have:=I.wk;have:=zyK s;omega
theorem zc2 (s:za):({zD s with Epoch:=s.Epoch,Flag:=s.Flag,Done:=s.Done,Restarts:=s.Restarts,D:=s.D}:za)=s:=by
 unfold zD
 repeat' split
 all_goals rfl
theorem FG.more {p:zb} {nb k:Nat} {s:za} {gh:Gh} (G:FG p nb k s gh):FG p nb (k+1) s gh:=⟨G.E,G.X.quiet G.E.S rfl,G.W,G.M,G.B,G.mrk,G.wob,G.buf,G.bk,G.ne⟩
theorem EG.more {p:zb} {nb k:Nat} {s:za} {gh:Gh} (I:EG p nb k s gh):EG p nb (k+1) s gh:=⟨I.G.more,I.wk,by have:=I.le;omega⟩
theorem EG.det {p:zb} (hp:zA p) {nb k:Nat} {s:za} {gh:Gh} (I:EG p nb k s gh):EG p nb (k+1) (zD s) gh∧UI s (zD s):=by
 have hd:=zc2 s
 have eM:(zD s).M=s.M:=by conv=>rhs;rw [←hd]
 have eB:(zD s).Bins=s.Bins:=by conv=>rhs;rw [←hd]
 have eT:(zD s).T=s.T:=by conv=>rhs;rw [←hd]
 have eH:(zD s).H=s.H:=by conv=>rhs;rw [←hd]
 have eW:(zD s).Ws=s.Ws:=by conv=>rhs;rw [←hd]
 have eX:(zD s).Ms=s.Ms:=by conv=>rhs;rw [←hd]
 have eK:(zD s).Work=s.Work:=by conv=>rhs;rw [←hd]
 have e:uB p (zD s) gh=uB p s gh:=by
  unfold uB
  rw [eW,eX,uR eB,xP (fun x _=>zca (x:=x) eM eB),xP (fun x _=>zfy (x:=x) eB)]
 have e2:zah (zD s)=zah s:=by unfold zah;rw [eW,eX]
 exact ⟨⟨I.G.det hp hd,by rw [e,e2,eK];exact I.wk,by rw [eK];have:=I.le;omega⟩,.inl ⟨eT,by rw [eH]⟩⟩
theorem EG.worker {p:zb} (hp:zA p) {nb k:Nat} {s:za} {gh:Gh} (hk:k<2147480000) (I:EG p nb k s gh) {w:Int} (hw:1≤w∧w≤p.Workers) (hd:s.Done=false): ∃gh',EG p nb (k+1) (zE s w) gh'∧UI s (zE s w):=by
 obtain ⟨gh',G',F,x,hx,N,C,hbag,hT⟩:=I.G.worker hp (by omega) hw hd
 have hwl:=I.G.E.wl
 have ei:(((w-1).toNat:Nat):Int)+1=w:=by omega
 have hWX:=I.G.W _ x hx
 have hWO:=I.G.E.W _ x hx
 rw [ei] at hWX hWO
 have h8:x.PC=8→yE s.T x.Obj=1:=fun e=>I.G.grey (zlV hx (by unfold zP;rw [YA (.inr e)];simp))
 have hnn:=I.work_nn
 have hle:=I.le
 have hW:=zya hWX hWO (by omega) h8 hT
 have hlen:=hbag.length_eq
 rw [List.length_append,List.length_append] at hlen
 have eS:zE s w={(zj s w x).1 with Ws:=s.Ws.set (w-1).toNat (zj s w x).2}:=by
  unfold zE
  rw [if_neg (by rw [hd];rintro (e | e | e)<;>first | cases e | omega),hx]
 have eK:(zE s w).Work=(zj s w x).1.Work:=by rw [eS]
 have eX:(zE s w).Ms=s.Ms:=by rw [eS];show (zj s w x).1.Ms=_;rw [zdQ hWO]
 have eW:(zE s w).Ws=s.Ws.set (w-1).toNat (zj s w x).2:=by rw [eS]
 have ho:zah (zE s w)=zah s-owW x+owW (zj s w x).2:=by
  unfold zah
  rw [eX,eW,zvv hx];omega
 have hwk:=I.wk
 have hN:N.length≤1:=by rcases hT with ⟨e,_⟩ | ⟨e,_⟩ | ⟨e,_⟩<;>rw [e]<;>simp
 have o1:=zn9 x
 have o2:=zn9 (zj s w x).2
 refine ⟨gh',⟨G',by rw [eK,hW,ho];omega,?_⟩,F⟩
 rw [eK,hW]
 omega
theorem EG.mutator {p:zb} (hp:zA p) {nb k:Nat} {s:za} {gh:Gh} (hk:k<2147480000) (I:EG p nb k s gh) {m:Int} (hm:1≤m∧m≤p.Mutators) (hd:s.Done=false): ∃gh',EG p nb (k+1) (zp s m) gh'∧UI s (zp s m):=by
 obtain ⟨gh',G',F,x,hx,N,C,hbag,hT⟩:=I.G.mutator hp (by omega) hm hd
 have hml:=I.G.E.ml
 have ei:(((m-1).toNat:Nat):Int)+1=m:=by omega
 have hMX:=I.G.M _ x hx
 have hXO:=I.G.E.X _ x hx
 rw [ei] at hXO
 have h8:x.PC=38→yE s.T x.Obj=1:=fun e=>I.G.grey (zdk hx (by unfold zZ;rw [XX (.inr e)];simp))
 have hnn:=I.work_nn
 have hle:=I.le
 have hW:=zAk (m:=m) hMX hXO (by omega) h8 hT
 have hlen:=hbag.length_eq
 rw [List.length_append,List.length_append] at hlen
 have eS:zp s m={(zg s m x).1 with Ms:=s.Ms.set (m-1).toNat (zg s m x).2}:=by
  unfold zp
  rw [if_neg (by rw [hd];rintro (e | e | e)<;>first | cases e | omega),hx]
 have eK:(zp s m).Work=(zg s m x).1.Work:=by rw [eS]
 have eW:(zp s m).Ws=s.Ws:=by rw [eS];show (zg s m x).1.Ws=_;rw [zc8]
 have eX:(zp s m).Ms=s.Ms.set (m-1).toNat (zg s m x).2:=by rw [eS]
 have ho:zah (zp s m)=zah s-owX x+owX (zg s m x).2:=by
  unfold zah
  rw [eX,eW,zvv hx];omega
 have hwk:=I.wk
 have hN:N.length≤1:=by rcases hT with ⟨e,_⟩ | ⟨e,_⟩ | ⟨e,_⟩ | ⟨e,_⟩<;>rw [e]<;>simp
 have o1:=znP x
 have o2:=znP (zg s m x).2
 refine ⟨gh',⟨G',by rw [eK,hW,ho];omega,?_⟩,F⟩
 rw [eK,hW]
 omega
theorem zkt {s:za} (hd:s.Done=true) (j:Int):uh s j=s:=by
 unfold uh
 split
 ·unfold zD;rw [if_pos hd]
 split
 ·unfold zE;rw [if_pos (.inl hd)]
 ·unfold zp;rw [if_pos (.inl hd)]
theorem EG.next {p:zb} (hp:zA p) {nb k:Nat} {s:za} {gh:Gh} (hk:k<2147480000) (I:EG p nb k s gh) (j:Int): ∃gh',EG p nb (k+1) (uh s j) gh'∧UI s (uh s j):=by
 cases hd:s.Done with
 | true=>rw [zkt hd];exact ⟨gh,I.more,.inl ⟨rfl,rfl⟩⟩
 | false =>
  have hwl:=I.G.E.wl
  have hml:=I.G.E.ml
  unfold uh
  split
  ·exact ⟨gh,I.det hp⟩
  split
  ·by_cases h1:1≤j
   ·exact I.worker hp hk (by omega) hd
   ·have:zE s j=s:=by unfold zE;rw [if_pos (.inr (.inl (by omega)))]
    rw [this];exact ⟨gh,I.more,.inl ⟨rfl,rfl⟩⟩
  ·by_cases h1:1≤j-(s.Ws.length:Int)∧j-(s.Ws.length:Int)≤(s.Ms.length:Int)
   ·exact I.mutator hp hk (by omega) hd
   ·have:zp s (j-(s.Ws.length:Int))=s:=by unfold zp;rw [if_pos (by omega)]
    rw [this];exact ⟨gh,I.more,.inl ⟨rfl,rfl⟩⟩
end
end Go.Pe.G
namespace Go.Pe.G
open Go.Pe
noncomputable section
theorem PI.same {p:zb} {s s':za} {W:Int→Int→Prop} (I:PI p s W) (eH:s'.H=s.H) (eT:s'.T=s.T) (eW:s'.Ws=s.Ws) (eX:s'.Ms=s.Ms):PI p s' W:=by
 have us: ∀u j,US s u j→US s' u j:=fun u j h=>⟨fun i x hx=>h.1 i x (by rw [←eW];exact hx),fun i x hx=>h.2 i x (by rw [←eX];exact hx)⟩
 have pd: ∀o,zmU s o→zmU s' o:=fun o h=>by
  rcases h with ⟨i,x,hx,h⟩ | ⟨i,x,hx,h⟩
  ·exact .inl ⟨i,x,by rw [eW];exact hx,h⟩
  ·exact .inr ⟨i,x,by rw [eX];exact hx,h⟩
 have P:zrn s s' W W:=⟨fun o h=>by rw [eT];exact h,fun o h=> .inr (pd o h),fun u j hW hj=> .inl ⟨hW,by rw [eH];exact hj,by rw [eH]⟩,fun u j _ _ hg hu=> .inl ⟨by rw [eT];exact hg,us u j hu⟩,fun u j _ _ h1 h2=>by rw [eT] at h2;exact absurd h2 h1⟩
 refine ⟨fun o ho=> ?_,fun i x hx=>I.sw i x (by rw [←eW];exact hx),fun i x hx=>I.sx i x (by rw [←eX];exact hx),fun i x hx hW=> ?_⟩
 ·have h0:o≠0:=by have:=ho.in;omega
  rcases I.lv o ho with h | h
  ·exact .inl (by rw [eT];exact h)
  ·exact P.prot h h0
 ·obtain ⟨a,b⟩:=I.cv i x (by rw [←eX];exact hx) hW
  rw [eH,eT]
  exact ⟨a,b⟩
theorem PI.det {p:zb} {s:za} {W:Int→Int→Prop} (I:PI p s W):PI p (zD s) W:=by
 have hd:=zc2 s
 exact I.same (by conv=>rhs;rw [←hd]) (by conv=>rhs;rw [←hd]) (by conv=>rhs;rw [←hd]) (by conv=>rhs;rw [←hd])
theorem zz0 {p:zb} (hp:zA p) {nb k:Nat} {s:za} {gh:Gh} {W:Int→Int→Prop} (hk:k<2147480000) (I:EG p nb k s gh) (J:PI p s W) (j:Int): ∃gh' W',EG p nb (k+1) (uh s j) gh'∧PI p (uh s j) W'∧UI s (uh s j):=by
 obtain ⟨gh',I',F⟩:=I.next hp hk j
 have fin:(∃W',PI p (uh s j) W')→∃gh' W',EG p nb (k+1) (uh s j) gh'∧PI p (uh s j) W'∧UI s (uh s j):=fun ⟨W',h⟩=>⟨gh',W',I',h,F⟩
 refine fin ?_
 cases hd:s.Done with
 | true=>rw [zkt hd];exact ⟨W,J⟩
 | false =>
  have hwl:=I.G.E.wl
  have hml:=I.G.E.ml
  unfold uh
  split
  ·exact ⟨W,J.det⟩
  split
  ·by_cases h1:1≤j
   ·exact ⟨W,PI.worker hp (by omega) I.G J (by omega) hd⟩
   ·have:zE s j=s:=by unfold zE;rw [if_pos (.inr (.inl (by omega)))]
    rw [this];exact ⟨W,J⟩
  ·by_cases h1:1≤j-(s.Ws.length:Int)∧j-(s.Ws.length:Int)≤(s.Ms.length:Int)
   ·exact PI.mutator hp (by omega) I.G J (by omega) hd
   ·have:zp s (j-(s.Ws.length:Int))=s:=by unfold zp;rw [if_pos (by omega)]
    rw [this];exact ⟨W,J⟩
theorem PI.quiet {p:zb} {s:za} {W:Int→Int→Prop} (J:PI p s W) (hg: ∀o,yE s.T o≠1) (hpd: ∀o,zmU s o→zL s.T.Marks o=true) {o:Int} (ho:Reach p.H (uW p) o):zL s.T.Marks o=true:=by
 have key: ∀q,zmx s W q→zL s.T.Marks q=true:=fun q h=>by
  induction h with
  | pend o h=>exact hpd o h
  | white u j o _ _ _ hu _ ih=>exact absurd ih hu
  | grey u j o _ _ _ h _=>exact absurd h (hg u)
 rcases J.lv o ho with h | h
 ·exact h
 ·exact key o h
end
end Go.Pe.G
namespace Go.Pe.G
open Go.Pe
noncomputable section
theorem zzP: ∀t:Fin 64,cnt (BitVec.ofNat 64 t.1)=((Wr (BitVec.ofNat 64 t.1)).length:Int):=by decide +kernel
theorem zzc {s:BitVec 64} (h:s&&& ~~~63#64=0#64):cnt s=((Wr s).length:Int):=by
 have hs:s.toNat<64:=by
  have e:s=s&&&63#64:=by
   have:s=(s&&&63#64)|||(s&&& ~~~63#64):=by
    apply BitVec.eq_of_getLsbD_eq
    intro i hi
    simp only [BitVec.getLsbD_or,BitVec.getLsbD_and,BitVec.getLsbD_not]
    cases s.getLsbD i<;>cases (63#64:BitVec 64).getLsbD i<;>simp [hi]
   rw [h,BitVec.or_zero] at this
   exact this
  rw [e,BitVec.toNat_and]
  have:s.toNat&&&(63#64:BitVec 64).toNat≤(63#64:BitVec 64).toNat:=Nat.and_le_right
  have e63:(63#64:BitVec 64).toNat=63:=by decide
  omega
 have:=zzP ⟨s.toNat,hs⟩
 have e:BitVec.ofNat 64 s.toNat=s:=by simp
 rw [e] at this
 exact this
theorem zBX {p:zb} (h:zA p):EG p (zX p+1) 0 (yz p) (gh0 p):=by
 have hms: ∀x∈(yz p).Ms,x.PC=0:=fun x hx=>by
  obtain ⟨r,_,e⟩:=List.mem_map.1 (show x∈p.Regs.map xh from hx)
  rw [←e];rfl
 have hws: ∀x∈(yz p).Ws,∃i:Nat,x=vT p i:=fun x hx=>by
  obtain ⟨j,_,e⟩:=List.mem_map.1 (show x∈(List.range p.Workers.toNat).map (vT p) from hx)
  exact ⟨j,e.symm⟩
 have z: ∀ {l:List Int},(∀v∈l,v=0)→l.sum=0:=fun {l} h=>by
  induction l with
  | nil=>rfl
  | cons a l ih=>rw [List.sum_cons,h a (List.mem_cons_self ..),ih (fun v hv=>h v (List.mem_cons_of_mem _ hv))];rfl
 have ho:zah (yz p)=0:=by
  unfold zah
  rw [z (fun v hv=>by
   obtain ⟨x,hx,rfl⟩:=List.mem_map.1 hv
   obtain ⟨i,rfl⟩:=hws x hx
   rfl),z (fun v hv=>by
   obtain ⟨x,hx,rfl⟩:=List.mem_map.1 hv
   have:=hms x hx
   unfold owX;rw [if_neg (by omega),if_neg (by omega)])]
  rfl
 have hold1:(yz p).Ms.flatMap (zZ (yz p))=[]:=zaU (fun x hx=>by
  obtain ⟨r,_,e⟩:=List.mem_map.1 (show x∈p.Regs.map xh from hx)
  rw [←e]
  unfold zZ
  rw [uE ⟨by show (0:Int)≠3;decide,by show (0:Int)≠33;decide,by show (0:Int)≠36;decide,by show (0:Int)≠37;decide,by show (0:Int)≠38;decide⟩];rfl)
 have hold2:(yz p).Ws.flatMap (zP (yz p))=[]:=zaU (fun x hx=>by
  obtain ⟨i,rfl⟩:=hws x hx
  have hb:vT p i=V8 p ((i:Int)+1) (vT p i):=rfl
  unfold zP
  rw [hb,zhJ];rfl)
 have hb:uB p (yz p) (gh0 p)=Wr (uW p):=by
  unfold uB
  rw [hold1,hold2,List.append_nil,List.append_nil,zw4 h]
 have hc:=zzc (zfM h)
 have hw:(yz p).Work=cnt (uW p):=rfl
 have hl:=zkf h
 have hn:=h.n
 exact ⟨zBx h,by rw [hb,ho,hw,hc];omega,by rw [hw,hc];omega⟩
end
end Go.Pe.G
namespace Go.Pe.G
open Go.Pe
noncomputable section
theorem zA4 {l:List Int} {v:Int} (hv:1≤v∧v≤64): ∀(a:BitVec 64),zL a v=true∨v∈l→zL (l.foldl (fun s o=>s|||bit o) a) v=true:=by
 induction l with
 | nil=>rintro a (h | h);exact h;cases h
 | cons x l ih =>
  rintro a h
  refine ih _ ?_
  rw [ul]
  rcases h with h | h
  ·exact .inl (.inl h)
  ·rcases List.mem_cons.1 h with rfl | h
   ·exact .inl (.inr ((wE 0#64 hv v).2 (.inr rfl) |> fun h=>by simpa using h))
   ·exact .inr h
theorem zti {v:Int} (hv:1≤v∧v≤64): ∀(L:List (List Int)) (a:BitVec 64),(zL a v=true∨∃r∈L,v∈r)→zL (L.foldl (fun s l=>s|||zoP l) a) v=true
 | [],a,h=>by
  rcases h with h | ⟨r,h,_⟩
  ·exact h
  ·cases h
 | r::L,a,h=>by
  refine zti hv L _ ?_
  rw [ul]
  rcases h with h | ⟨q,h,hq⟩
  ·exact .inl (.inl h)
  ·rcases List.mem_cons.1 h with rfl | h
   ·exact .inl (.inr (zA4 hv _ (.inr hq)))
   ·exact .inr ⟨q,h,hq⟩
def LvH (p:zb) (h:zy) (o:Int):Prop:=Reach p.H (uW p) o∨((p.H.Objs.length:Int)<o∧o≤(h.Objs.length:Int))
def V9 (p:zb) (h:zy):Prop:=∀o v,LvH p h o→v∈zW h o→v=0∨LvH p h v
def Wk (p:zb) (h:zy) (r:List Int):Prop:=∀v∈r,v=0∨LvH p h v
theorem LvH.mono {p:zb} {h h':zy} (hl:h.Objs.length≤h'.Objs.length) {o:Int} (L:LvH p h o):LvH p h' o:=by
 rcases L with L | L
 ·exact .inl L
 ·exact .inr (by omega)
theorem LvH.in {p:zb} (hp:zA p) {h:zy} (hn:(p.H.Objs.length:Int)≤(h.Objs.length:Int)) {o:Int} (L:LvH p h o):1≤o∧o≤(h.Objs.length:Int):=by
 rcases L with L | L
 ·have:=L.in
  omega
 ·omega
theorem Wk.mono {p:zb} {h h':zy} (hl:h.Objs.length≤h'.Objs.length) {r:List Int} (R:Wk p h r):Wk p h' r:=fun v hv=>(R v hv).imp id (fun L=>L.mono hl)
theorem Wk.set {p:zb} {h:zy} {r:List Int} (R:Wk p h r) {v:Int} (hv:v=0∨LvH p h v) (i:Nat):Wk p h (r.set i v):=fun u hu=>by
 rcases List.mem_or_eq_of_mem_set hu with h | rfl
 ·exact R u h
 ·exact hv
theorem Wk.reg {p:zb} {h:zy} {x:zc} (R:Wk p h x.Regs) (r:Int):vq x r=0∨LvH p h (vq x r):=by
 unfold vq
 rw [List.getD_eq_getElem?_getD]
 cases hx:x.Regs[r.toNat]? with
 | none=>exact .inl rfl
 | some v=>exact R v (List.mem_of_getElem? hx)
theorem zqM {p:zb} {h:zy} (C:V9 p h) {a:Int} (ha:a=0∨LvH p h a) (i:Int):zN h a i=0∨LvH p h (zN h a i):=by
 unfold zN
 split
 ·rename_i hs
  simp only [yK,Bool.and_eq_true,decide_eq_true_eq] at hs
  have L:LvH p h a:=ha.resolve_left (by omega)
  rw [List.getD_eq_getElem?_getD]
  cases hx:(zW h a)[i.toNat]? with
  | none=>exact .inl rfl
  | some v=>exact C a v L (List.mem_of_getElem? hx)
 ·exact .inl rfl
theorem zw9 {p:zb} {h:zy} (C:V9 p h) {a i v:Int} (hv:v=0∨LvH p h v):V9 p (uH h a i v):=by
 intro o w L hw
 have hl:=zad h a i v
 have L':LvH p h o:=L.mono (by omega)
 have up: ∀ {u:Int},(u=0∨LvH p h u)→(u=0∨LvH p (uH h a i v) u):=fun hu=>hu.imp id (fun L=>L.mono (by omega))
 unfold uH at hw
 split at hw
 ·rename_i hs
  obtain ⟨hs,_⟩:=hs
  simp only [yK,Bool.and_eq_true,decide_eq_true_eq] at hs
  have hw:w∈(h.Objs.set (a-1).toNat ((zW h a).set i.toNat v)).getD (o-1).toNat []:=hw
  rw [ziq (by omega)] at hw
  split at hw
  ·rename_i e
   have es:zW h a=zW h o:=by unfold zW;rw [e]
   rcases List.mem_or_eq_of_mem_set hw with h1 | rfl
   ·exact up (C o w L' (es▸h1))
   ·exact up hv
  ·exact up (C o w L' hw)
 ·exact up (C o w L' hw)
theorem zvY {p:zb} (hp:zA p) {h:zy} (hn:(p.H.Objs.length:Int)≤(h.Objs.length:Int)) (C:V9 p h):V9 p (xV h):=by
 intro o w L hw
 have hl:=zc1 h
 have hin:=L.in hp (by omega)
 by_cases ho:o≤(h.Objs.length:Int)
 ·have L':LvH p h o:=by
   rcases L with L | L
   ·exact .inl L
   ·exact .inr (by omega)
  have e:zW (xV h) o=zW h o:=by
   unfold zW xV
   rw [List.getD_eq_getElem?_getD,List.getD_eq_getElem?_getD,List.getElem?_append_left (by omega)]
  rw [e] at hw
  exact (C o w L' hw).imp id (fun L=>L.mono (by omega))
 ·have e:zW (xV h) o=List.replicate h.Slots.toNat 0:=by
   unfold zW xV
   rw [List.getD_eq_getElem?_getD,List.getElem?_append_right (by omega),show (o-1).toNat-h.Objs.length=0 by omega]
   rfl
  rw [e] at hw
  exact .inl (List.eq_of_mem_replicate hw)
structure RgI (p:zb) (s:za):Prop where
 hp:V9 p s.H
 rg: ∀x∈s.Ms,Wk p s.H x.Regs
theorem zyn {p:zb} (hp:zA p) {s:za} {m:Int} {x:zc} (hn:HOk p s.H) (C:V9 p s.H) (R:Wk p s.H x.Regs) :
  V9 p (zg s m x).1.H∧Wk p (zg s m x).1.H (zg s m x).2.Regs∧s.H.Objs.length≤(zg s m x).1.H.Objs.length:=by
 have hN:=hn.n
 have hM:=hp.most
 have hn6:=hp.n
 have same: ∀ {t:za} {y:zc},t.H=s.H→y.Regs=x.Regs→V9 p t.H∧Wk p t.H y.Regs∧s.H.Objs.length≤t.H.Objs.length:=fun e1 e2=>by rw [e1,e2];exact ⟨C,R,Nat.le_refl _⟩
 refine yw (motive:=fun r=>V9 p r.1.H∧Wk p r.1.H r.2.Regs∧s.H.Objs.length≤r.1.H.Objs.length) s m x ?_ ?_ ?_ ?_ ?_ ?_ ?_ ?_ ?_ ?_ ?_ ?_ ?_ ?_ ?_ ?_ ?_ ?_ ?_ ?_
 ·intro c;unfold mu0 uY
  split
  ·exact same rfl rfl
  split
  ·exact same rfl rfl
  split
  ·exact same rfl rfl
  split
  ·exact same rfl rfl
  split
  ·exact same rfl rfl
  split
  ·exact ⟨C,R.set (R.reg _) _,Nat.le_refl _⟩
  ·exact ⟨C,R.set (.inl rfl) _,Nat.le_refl _⟩
 ·intro c;unfold mu1;split<;>exact same rfl rfl
 ·intro c;unfold mu2;exact same rfl rfl
 ·intro c;unfold mu3;refine same (by rw [XB]) ?_;dsimp only;split<;>rfl
 ·intro c;unfold zbH;exact ⟨C,R.set (zqM C (R.reg _) _) _,Nat.le_refl _⟩
 ·intro c;unfold XK;refine same rfl ?_;dsimp only;split<;>rfl
 ·intro c;unfold Xw;refine same rfl ?_;dsimp only;split<;>rfl
 ·intro c;unfold Vi;refine same rfl ?_;dsimp only;split<;>rfl
 ·intro c;unfold zaR
  have hl:=zad s.H (vq x (opM s.P m x).A) (opM s.P m x).S (vq x (opM s.P m x).R)
  exact ⟨zw9 C (R.reg _),R.mono (by dsimp only;omega),by dsimp only;omega⟩
 ·intro c;unfold Z4
  split
  ·split
   ·have hl:=zc1 s.H
    have w:wc ((s.H.Objs.length:Int)+1)=(s.H.Objs.length:Int)+1:=xf (by omega) (by omega)
    refine ⟨zvY hp hN.1 C,?_,by dsimp only;omega⟩
    refine Wk.set (R.mono (by dsimp only;omega)) (.inr (.inr ?_)) _
    rw [w]
    exact ⟨by omega,by dsimp only;omega⟩
   ·exact same rfl rfl
  ·exact same rfl rfl
 ·intro c;unfold WR;refine same rfl ?_;dsimp only;split<;>rfl
 ·intro c;unfold WD;refine same rfl ?_;dsimp only;repeat' split
  all_goals rfl
 ·intro c;unfold zbO;exact same rfl rfl
 ·intro c;unfold WN;refine same rfl ?_;dsimp only;split<;>rfl
 ·intro c;unfold WK;refine same rfl ?_;dsimp only;split<;>rfl
 ·intro c;unfold Ud;refine same rfl ?_;dsimp only;split<;>rfl
 ·intro c;unfold Y5;refine same (by rw [XB]) ?_;dsimp only;split<;>rfl
 ·intro c;unfold zcF;exact same rfl rfl
 ·intro c;unfold zd9;exact same rfl rfl
 ·exact same rfl rfl
theorem RgI.step {p:zb} {nb:Nat} (hp:zA p) {s:za} (E:EOk p nb s) (I:RgI p s) (m:Int):RgI p (zp s m):=by
 unfold zp
 split
 ·exact I
 cases hx:s.Ms[(m-1).toNat]? with
 | none=>exact I
 | some x =>
  obtain ⟨h1,h2,h3⟩:=zyn (m:=m) hp E.H I.hp (I.rg x (List.mem_of_getElem? hx))
  refine ⟨h1,fun y hy=> ?_⟩
  rcases List.mem_or_eq_of_mem_set hy with hy | rfl
  ·exact (I.rg y hy).mono h3
  ·exact h2
theorem zBH {p:zb} (hp:zA p):RgI p (yz p):=by
 have hn:=hp.n
 refine ⟨fun o v L hv=> ?_,fun x hx v hv=> ?_⟩
 ·by_cases h0:v=0
  ·exact .inl h0
  refine .inr (.inl ?_)
  rcases L with L | L
  ·have r:=L
   have ho:=r.in
   have hm:zW p.H o∈p.H.Objs:=by
    unfold zW
    rw [List.getD_eq_getElem?_getD,List.getElem?_eq_getElem (show (o-1).toNat<p.H.Objs.length by omega)]
    exact List.getElem_mem _
   have:=(hp.objs _ hm).2 v hv
   exact .step o v r hv (by omega)
  ·have:o≤(p.H.Objs.length:Int):=L.2
   omega
 ·have hx:x∈p.Regs.map xh:=hx
  obtain ⟨r,hr,rfl⟩:=List.mem_map.1 hx
  have hv:v∈r:=hv
  have:=(hp.reg r hr).2 v hv
  by_cases h0:v=0
  ·exact .inl h0
  exact .inr (.inl (.root v (zti (by omega) _ _ (.inr ⟨r,hr,hv⟩)) (by omega)))
end
end Go.Pe.G
namespace Go.Pe.G
open Go.Pe
noncomputable section
def zn2 (x:zc):Prop:=x.Obj=0∨(36≤x.PC∧x.PC≤39)
theorem zAs {s:za} {m:Int} {x:zc} (h:zn2 x):zn2 (zg s m x).2:=by
 have out: ∀ {y:zc},y.Obj=x.Obj→¬(36≤x.PC∧x.PC≤39)→zn2 y:=fun e hn=> .inl (e.trans (h.resolve_right hn))
 refine yw (motive:=fun r=>zn2 r.2) s m x ?_ ?_ ?_ ?_ ?_ ?_ ?_ ?_ ?_ ?_ ?_ ?_ ?_ ?_ ?_ ?_ ?_ ?_ ?_ ?_
 all_goals try (intro c)
 ·unfold mu0 uY;repeat' split
  all_goals exact out rfl (by omega)
 ·unfold mu1;dsimp only;split<;>exact out rfl (by omega)
 ·exact out rfl (by omega)
 ·unfold mu3;dsimp only;split<;>exact out rfl (by omega)
 ·exact out rfl (by omega)
 ·unfold XK;dsimp only;split<;>exact out rfl (by omega)
 ·unfold Xw;dsimp only;split<;>exact out rfl (by omega)
 ·unfold Vi;dsimp only;split<;>exact out rfl (by omega)
 ·exact out rfl (by omega)
 ·unfold Z4;repeat' split
  all_goals exact out rfl (by omega)
 ·unfold WR;dsimp only;split<;>exact out rfl (by omega)
 ·unfold WD;dsimp only;repeat' split
  all_goals exact out rfl (by omega)
 ·exact out rfl (by omega)
 ·unfold WN;dsimp only;split<;>exact out rfl (by omega)
 ·unfold WK;dsimp only;split
  ·exact out rfl (by omega)
  ·exact .inr ⟨by show (36:Int)≤36;decide,by show (36:Int)≤39;decide⟩
 ·unfold Ud;dsimp only
  have:=Zr s (wc (x.Slot+1))
  split
  ·exact .inr ⟨by dsimp only;omega,by dsimp only;omega⟩
  ·exact .inr ⟨by show (36:Int)≤37;decide,by show (37:Int)≤39;decide⟩
 ·unfold Y5;dsimp only
  have:=Zr s x.Slot
  split
  ·exact .inr ⟨by dsimp only;omega,by dsimp only;omega⟩
  ·exact .inr ⟨by dsimp only;omega,by dsimp only;omega⟩
 ·exact .inr ⟨by show (36:Int)≤39;decide,by show (39:Int)≤39;decide⟩
 ·exact .inl rfl
 ·exact h
structure uF (p:zb) (s:za) (gh:Gh):Prop where
 bag:uB p s gh=[]
 w9: ∀(i:Nat) x,s.Ws[i]? =some x→x.PC≠9
 m39: ∀(i:Nat) x,s.Ms[i]? =some x→x.PC≠39
theorem uF.of {p:zb} {nb k:Nat} {s:za} {gh:Gh} (I:EG p nb k s gh) (h:s.Work=0):uF p s gh∧zah s=0:=by
 have hw:=I.wk
 have ho:=zyK s
 have hb:(uB p s gh).length=0:=by omega
 have h1:0≤(s.Ws.map owW).sum:=zlG (fun v hv=>by obtain ⟨x,_,rfl⟩:=List.mem_map.1 hv;exact (zn9 x).1)
 have h2:0≤(s.Ms.map owX).sum:=zlG (fun v hv=>by obtain ⟨x,_,rfl⟩:=List.mem_map.1 hv;exact (znP x).1)
 have h3:(s.Ws.map owW).sum+(s.Ms.map owX).sum=0:=by show zah s=0;omega
 have one: ∀(l:List Int),(∀v∈l,0≤v)→l.sum=0→∀v∈l,v=0:=fun l=>by
  induction l with
  | nil=>intro _ _ v hv;cases hv
  | cons a l ih =>
   intro hn hs v hv
   have ha:=hn a (List.mem_cons_self ..)
   have hl:=zlG (l:=l) (fun v hv=>hn v (List.mem_cons_of_mem _ hv))
   rw [List.sum_cons] at hs
   rcases List.mem_cons.1 hv with rfl | hv
   ·omega
   ·exact ih (fun v hv=>hn v (List.mem_cons_of_mem _ hv)) (by omega) v hv
 refine ⟨⟨List.length_eq_zero_iff.1 hb,fun i x hx e=> ?_,fun i x hx e=> ?_⟩,by omega⟩
 ·have:=one _ (fun v hv=>by obtain ⟨x,_,rfl⟩:=List.mem_map.1 hv;exact (zn9 x).1) (show (s.Ws.map owW).sum=0 by omega) (owW x) (List.mem_map.2 ⟨x,List.mem_of_getElem? hx,rfl⟩)
  unfold owW at this
  rw [if_pos e] at this;omega
 ·have:=one _ (fun v hv=>by obtain ⟨x,_,rfl⟩:=List.mem_map.1 hv;exact (znP x).1) (show (s.Ms.map owX).sum=0 by omega) (owX x) (List.mem_map.2 ⟨x,List.mem_of_getElem? hx,rfl⟩)
  unfold owX at this
  rw [if_pos e] at this;omega
theorem uF.noW {p:zb} {s:za} {gh:Gh} (C:uF p s gh) {i:Nat} {x:ze} (hx:s.Ws[i]? =some x):x.PC≠5∧x.PC≠6∧x.PC≠8:=by
 have no: ∀o,o∉uB p s gh:=fun o=>by rw [C.bag];simp
 refine ⟨fun e=>no x.Obj (zlV hx ?_),fun e=>no x.Obj (zlV hx ?_),fun e=>no x.Obj (zlV hx ?_)⟩
 ·unfold zP;rw [YA (.inl e)];simp
 ·unfold zP;rw [znr e];simp
 ·unfold zP;rw [YA (.inr e)];simp
theorem uF.noX {p:zb} {s:za} {gh:Gh} (C:uF p s gh) {i:Nat} {x:zc} (hx:s.Ms[i]? =some x):x.PC≠36∧x.PC≠37∧x.PC≠38∧x.Batch=[]:=by
 have no: ∀o,o∉uB p s gh:=fun o=>by rw [C.bag];simp
 refine ⟨fun e=>no x.Obj (zdk hx ?_),fun e=>no x.Obj (zdk hx ?_),fun e=>no x.Obj (zdk hx ?_),List.eq_nil_iff_forall_not_mem.2 fun o ho=>no o (zdk hx (List.mem_append_left _ ho))⟩
 ·unfold zZ;rw [XX (.inl e)];simp
 ·unfold zZ;rw [zlJ e];simp
 ·unfold zZ;rw [XX (.inr e)];simp
theorem uF.worker {p:zb} (hp:zA p) {nb k:Nat} {s:za} {gh:Gh} (hk:k<4294960000) (G:FG p nb k s gh) (C:uF p s gh) {w:Int} (hw:1≤w∧w≤p.Workers) (hd:s.Done=false): ∃gh',FG p nb (k+1) (zE s w) gh'∧uF p (zE s w) gh'∧(zE s w).T=s.T:=by
 obtain ⟨gh',G',F,x,hx,N,D,hbag,hT⟩:=G.worker hp hk hw hd
 have hwl:=G.E.wl
 have hn:=C.noW hx
 have h9:=C.w9 _ x hx
 have hpc:=(G.E.W _ x hx).pc
 have eS:zE s w={(zj s w x).1 with Ws:=s.Ws.set (w-1).toNat (zj s w x).2}:=by
  unfold zE
  rw [if_neg (by rw [hd];rintro (e | e | e)<;>first | cases e | omega),hx]
 have ei:(((w-1).toNat:Nat):Int)+1=w:=by omega
 have hWO:=G.E.W _ x hx
 rw [ei] at hWO
 have eX:(zE s w).Ms=s.Ms:=by rw [eS];show (zj s w x).1.Ms=_;rw [zdQ hWO]
 have eW:(zE s w).Ws=s.Ws.set (w-1).toNat (zj s w x).2:=by rw [eS]
 have n9:(zj s w x).2.PC≠9:=by
  have lk: ∀y:ze,(ui s.P w y).PC≠9:=fun y=>by unfold ui;split<;>simp
  unfold zj
  by_cases c01:x.PC=0∨x.PC=1
  ·rw [if_pos c01];dsimp only
   split
   ·show (5:Int)≠9;decide
   split
   ·exact lk _
   ·exact h9
  rw [if_neg c01]
  by_cases c2:x.PC=2
  ·rw [if_pos c2];dsimp only
   split
   ·show (3:Int)≠9;decide
   split
   ·show (0:Int)≠9;decide
   ·exact h9
  rw [if_neg c2]
  by_cases c3:x.PC=3
  ·rw [if_pos c3];show (4:Int)≠9;decide
  rw [if_neg c3]
  by_cases c4:x.PC=4
  ·rw [if_pos c4];dsimp only
   split
   ·show (7:Int)≠9;decide
   ·exact h9
  rw [if_neg c4,if_neg hn.1,if_neg hn.2.1,if_pos (by omega)]
  dsimp only
  split
  ·show (0:Int)≠9;decide
  ·show (5:Int)≠9;decide
 rcases hT with ⟨e1,e2,t⟩ | ⟨_,_,c,_⟩ | ⟨_,_,c,_⟩
 ·rw [e1,e2,C.bag,List.append_nil,List.append_nil] at hbag
  refine ⟨gh',G',⟨List.perm_nil.1 hbag,fun i y hy=> ?_,fun i y hy=>C.m39 i y (by rw [←eX];exact hy)⟩,by rw [eS];exact t⟩
  rw [eW] at hy
  by_cases hne:i=(w-1).toNat
  ·subst hne
   rw [List.getElem?_set_self (by omega)] at hy
   injection hy with hy
   rw [←hy];exact n9
  ·rw [List.getElem?_set_ne (fun e=>hne e.symm)] at hy
   exact C.w9 i y hy
 ·exact absurd c hn.2.1
 ·exact absurd c hn.2.2
theorem zAl {s:za} {g:zC} (g0:g.Out=0) (gm:g.Mode=2) (hpc:0≤g.PC∧g.PC≤7) (hn: ¬(s.T.Marks|||bit g.Obj=s.T.Marks)) (h:(zm s g).1.T={s.T with Marks:=s.T.Marks|||bit g.Obj}):(zm s g).2.PC=4∧(zm s g).2.Out=0∧(zm s g).2.Mode=2:=by
 have ne:=zbm hn
 revert h
 unfold zm
 rw [if_neg (by omega)]
 by_cases c7:g.PC=7
 ·rw [if_pos c7];intro h;exact absurd h.symm ne
 rw [if_neg c7]
 by_cases c6:g.PC=6
 ·rw [if_pos c6];intro h;exact absurd h.symm ne
 rw [if_neg c6]
 by_cases c5:g.PC=5
 ·rw [if_pos c5];intro h;exact absurd h.symm ne
 rw [if_neg c5]
 by_cases c4:g.PC=4
 ·rw [if_pos c4];intro h;exact absurd h.symm ne
 rw [if_neg c4]
 by_cases c3:g.PC=3
 ·rw [if_pos c3];intro h;exact absurd h.symm ne
 rw [if_neg c3]
 by_cases c2:g.PC=2
 ·rw [if_pos c2];intro h;exact absurd h.symm ne
 rw [if_neg c2]
 by_cases c1:g.PC=1
 ·rw [if_pos c1]
  intro h
  unfold zdt at h ⊢
  dsimp only at h ⊢
  rcases zts s.T g.Obj with ⟨a,b⟩ | ⟨a,b,c⟩
  ·rw [b] at h;exact absurd h.symm ne
  ·rw [if_neg (by rw [a];decide),if_neg (by omega),if_pos gm]
   exact ⟨rfl,g0,gm⟩
 rw [if_neg c1]
 intro h;exact absurd h.symm ne
def vm (s:za):Prop:=s.Flag=true∨∃(i:Nat) (x:zc),s.Ms[i]? =some x∧x.PC=3∧x.G.PC=4∧x.G.Out=0
theorem uF.mutator {p:zb} (hp:zA p) {nb k:Nat} {s:za} {gh:Gh} (hk:k<4294960000) (G:FG p nb k s gh) (C:uF p s gh) {m:Int} (hm:1≤m∧m≤p.Mutators) (hd:s.Done=false) :
  ∃gh',FG p nb (k+1) (zp s m) gh'∧((uF p (zp s m) gh'∧∀u,u≤(s.H.Objs.length:Int)→(zL (zp s m).T.Marks u=true↔zL s.T.Marks u=true))∨(vm (zp s m)∧∃x,s.Ms[(m-1).toNat]? =some x∧x.PC=3)):=by
 obtain ⟨gh',G',F,x,hx,N,D,hbag,hT⟩:=G.mutator hp hk hm hd
 have hml:=G.E.ml
 have hn:=C.noX hx
 have h39:=C.m39 _ x hx
 have eS:zp s m={(zg s m x).1 with Ms:=s.Ms.set (m-1).toNat (zg s m x).2}:=by
  unfold zp
  rw [if_neg (by rw [hd];rintro (e | e | e)<;>first | cases e | omega),hx]
 have eW:(zp s m).Ws=s.Ws:=by rw [eS];show (zg s m x).1.Ws=_;rw [zc8]
 have eX:(zp s m).Ms=s.Ms.set (m-1).toNat (zg s m x).2:=by rw [eS]
 have eT:(zp s m).T=(zg s m x).1.T:=by rw [eS]
 have hi:(m-1).toNat<s.Ms.length:=by omega
 have ei:(((m-1).toNat:Nat):Int)+1=m:=by omega
 have hXO:=G.E.X _ x hx
 have n39:(zg s m x).2.PC≠39:=by
  have hon: ∀i,onM s i≠39:=fun i e=>by rcases Zr s i with h | h<;>omega
  have hr:=hXO.ret
  refine yw (motive:=fun r=>r.2.PC≠39) s m x ?_ ?_ ?_ ?_ ?_ ?_ ?_ ?_ ?_ ?_ ?_ ?_ ?_ ?_ ?_ ?_ ?_ ?_ ?_ ?_
  all_goals try (intro c)
  ·unfold mu0 uY;repeat' split
   all_goals ((try dsimp only [setM]);omega)
  ·have:=hr (.inl c);unfold mu1;dsimp only;split<;>(dsimp only;omega)
  ·unfold mu2;dsimp only;omega
  ·unfold mu3;dsimp only;split<;>(dsimp only;omega)
  ·unfold zbH;dsimp only [setM];omega
  ·unfold XK;dsimp only;split<;>(dsimp only [yP];omega)
  ·unfold Xw;dsimp only;split<;>(dsimp only;omega)
  ·unfold Vi;dsimp only;split<;>(dsimp only;omega)
  ·unfold zaR;dsimp only [yP];omega
  ·unfold Z4;repeat' split
   all_goals ((try dsimp only [setM,yP]);omega)
  ·unfold WR;dsimp only;split<;>(dsimp only;omega)
  ·unfold WD;dsimp only;repeat' split
   all_goals ((try dsimp only);omega)
  ·unfold zbO;dsimp only;omega
  ·unfold WN;dsimp only;split<;>(dsimp only;omega)
  ·unfold WK;dsimp only;split<;>(dsimp only;omega)
  ·exact absurd c hn.1
  ·exact absurd c hn.2.1
  ·exact absurd c hn.2.2.1
  ·exact absurd c h39
  ·exact h39 c
 have fin: ∀(e:List.Perm (uB p (zp s m) gh') []),uF p (zp s m) gh':=fun e=>by
  refine ⟨List.perm_nil.1 e,fun i y hy=>C.w9 i y (by rw [←eW];exact hy),fun i y hy=> ?_⟩
  rw [eX] at hy
  by_cases hne:i=(m-1).toNat
  ·subst hne
   rw [List.getElem?_set_self hi] at hy
   injection hy with hy
   rw [←hy];exact n39
  ·rw [List.getElem?_set_ne (fun e=>hne e.symm)] at hy
   exact C.m39 i y hy
 refine ⟨gh',G',?_⟩
 rcases hT with ⟨e1,e2,t⟩ | ⟨_,_,c,t1,t2⟩ | ⟨_,_,c,_⟩ | ⟨e1,e2,c,_,_,t⟩
 ·rw [e1,e2,C.bag,List.append_nil,List.append_nil] at hbag
  exact .inl ⟨fin hbag,fun u _=>by rw [eT,t]⟩
 ·rcases c with c | c
  ·refine .inr ⟨.inr ?_,x,hx,c⟩
   obtain ⟨Gx,gm,g0⟩:=(G.M _ x hx).p3 c
   have e3:zg s m x=mu3 s m x:=by unfold zg;rw [if_neg (by omega),if_neg (by omega),if_neg (by omega),if_pos c]
   have hg:(zm s x.G).1.T={s.T with Marks:=s.T.Marks|||bit x.G.Obj}:=by rw [←t2,e3];rfl
   obtain ⟨a,b,_⟩:=zAl g0 gm Gx.pc t1 hg
   refine ⟨_,_,by rw [eX];exact List.getElem?_set_self hi,?_⟩
   rw [e3]
   unfold mu3;dsimp only
   rw [if_neg (by omega)]
   exact ⟨c,a,b⟩
  ·exact absurd c hn.2.1
 ·exact absurd c hn.2.2.1
 ·rw [e1,e2,C.bag,List.append_nil,List.append_nil] at hbag
  refine .inl ⟨fin hbag,fun u hu=> ?_⟩
  obtain ⟨f1,f2,f3⟩:=G.fresh hp
  rw [eT,t,f1]
  exact ⟨fun h=>(YV h).elim id (fun h=>by omega),fun h=>(ul _ _ _).2 (.inl h)⟩
theorem vm.flag {p:zb} {nb k:Nat} {s:za} {gh:Gh} (I:EG p nb k s gh) (h:s.Work=0) (D:vm s):s.Flag=true:=by
 rcases D with D | ⟨i,x,hx,c,g4,g0⟩
 ·exact D
 ·obtain ⟨C,_⟩:=uF.of I h
  have hm:x.G.Obj∈uB p s gh:=zdk hx (by
   unfold zZ
   rw [zi5 c,wY g0 (by omega) (by omega)];simp)
  rw [C.bag] at hm;cases hm
theorem zkb (s:za) (g:zC):((zm s g).1.Flag=s.Flag∨(zm s g).1.Flag=true)∧(g.Out=0→1≤g.Mode∧g.Mode≤3→g.PC=4→(zm s g).1.Flag=true):=by
 unfold zm
 split
 ·exact ⟨.inl rfl,fun _ _ _=>by omega⟩
 split
 ·exact ⟨.inl rfl,fun _ _ _=>by omega⟩
 split
 ·exact ⟨.inl rfl,fun _ _ _=>by omega⟩
 split
 ·exact ⟨.inl rfl,fun _ _ _=>by omega⟩
 split
 ·exact ⟨.inr rfl,fun _ _ _=>rfl⟩
 split
 ·exact ⟨.inl rfl,fun _ _ _=>by omega⟩
 split
 ·exact ⟨.inl rfl,fun _ _ _=>by omega⟩
 split
 ·exact ⟨.inl rfl,fun _ _ _=>by omega⟩
 ·exact ⟨.inl rfl,fun _ _ _=>by omega⟩
theorem zvJ (s:za) (m:Int) (x:zc):(zg s m x).1.Flag=s.Flag∨(zg s m x).1.Flag=true:=by
 refine yw (motive:=fun r=>r.1.Flag=s.Flag∨r.1.Flag=true) s m x ?_ ?_ ?_ ?_ ?_ ?_ ?_ ?_ ?_ ?_ ?_ ?_ ?_ ?_ ?_ ?_ ?_ ?_ ?_ ?_
 all_goals try (intro c)
 all_goals first
  | exact .inl rfl
  | (unfold mu3;exact (zkb s x.G).1)
  | (unfold Y5;exact (zkb s x.G).1)
  | (unfold Z4;(repeat' split)<;>exact .inl rfl)
theorem vm.mutator {p:zb} {nb k:Nat} {s:za} {gh:Gh} (G:FG p nb k s gh) (D:vm s) {m:Int} (hm:1≤m∧m≤(s.Ms.length:Int)) (hd:s.Done=false):vm (zp s m):=by
 have hi:(m-1).toNat<s.Ms.length:=by omega
 have hx:=List.getElem?_eq_getElem hi
 generalize s.Ms[(m-1).toNat]=x at hx
 have eS:zp s m={(zg s m x).1 with Ms:=s.Ms.set (m-1).toNat (zg s m x).2}:=by
  unfold zp
  rw [if_neg (by rw [hd];rintro (e | e | e)<;>first | cases e | omega),hx]
 rcases D with D | ⟨i,y,hy,c,g4,g0⟩
 ·left
  rw [eS]
  show (zg s m x).1.Flag=true
  rcases zvJ s m x with h | h
  ·rw [h];exact D
  ·exact h
 ·by_cases hne:i=(m-1).toNat
  ·subst hne
   rw [hx] at hy;injection hy with hy;subst hy
   left
   rw [eS]
   have e3:zg s m x=mu3 s m x:=by unfold zg;rw [if_neg (by omega),if_neg (by omega),if_neg (by omega),if_pos c]
   show (zg s m x).1.Flag=true
   rw [e3]
   exact (zkb s x.G).2 g0 ((G.M _ x hx).p3 c).1.md g4
  ·right
   refine ⟨i,y,?_,c,g4,g0⟩
   rw [eS]
   show (s.Ms.set (m-1).toNat (zg s m x).2)[i]? =some y
   rw [List.getElem?_set_ne (fun e=>hne e.symm)];exact hy
theorem zy1 (s:za) (w:Int) (x:ze):(zj s w x).1.Flag=s.Flag∨(zj s w x).1.Flag=true:=by
 by_cases c6:x.PC=6
 ·rw [zq8 c6];exact (zkb s x.G).1
 ·unfold zj
  split
  ·exact .inl rfl
  split
  ·exact .inl rfl
  split
  ·exact .inl rfl
  split
  ·exact .inl rfl
  split
  ·exact .inl rfl
  split
  ·exact .inl rfl
  split
  ·exact .inl rfl
  split
  ·exact .inl rfl
  ·exact .inl rfl
theorem vm.worker {p:zb} {nb:Nat} {s:za} (E:EOk p nb s) (D:vm s) (w:Int):vm (zE s w):=by
 have hf:=Wc E w
 have eX:(zE s w).Ms=s.Ms:=by rw [hf]
 rcases D with D | ⟨i,y,hy,c⟩
 ·left
  unfold zE
  split
  ·exact D
  split
  ·rename_i x hx
   show (zj s w x).1.Flag=true
   rcases zy1 s w x with h | h
   ·rw [h];exact D
   ·exact h
  ·exact D
 ·exact .inr ⟨i,y,by rw [eX];exact hy,c⟩
theorem vm.det {s:za} (D:vm s) (h:s.D.PC≠0):vm (zD s):=by
 have hd:=zc2 s
 have eX:(zD s).Ms=s.Ms:=by conv=>rhs;rw [←hd]
 rcases D with D | ⟨i,y,hy,c⟩
 ·left
  unfold zD
  rw [if_neg h]
  repeat' split
  all_goals exact D
 ·exact .inr ⟨i,y,by rw [eX];exact hy,c⟩
theorem zuf {p:zb} {nb:Nat} {s:za} {m:Int} {x:zc} (O:XOk p nb m x) {o:Int} (h:VL (zg s m x).2 o):VL x o∨(x.PC=21∧x.Old=o∧o≠0∧yE s.T o=0)∨x.PC=36:=by
 have hr:=O.ret
 have calm: ∀ {y:zc},y.Buf=x.Buf→y.PC≠1→y.PC≠3→y.PC≠22→y.PC≠37→VL y o→VL x o∨(x.PC=21∧x.Old=o∧o≠0∧yE s.T o=0)∨x.PC=36:=fun e h1 h2 h3 h4 h=>by
  rcases h with h | ⟨h,_⟩ | ⟨h,_⟩
  ·exact .inl (.inl (by rw [←e];exact h))
  ·omega
  ·omega
 have ask: ∀ {g:zC},zr6 (zm s g).2 o→zr6 g o:=fun {g} h=>by
  obtain ⟨h1,h2,h3⟩:=h
  rw [(Vb s g).1] at h3
  revert h1 h2
  unfold zm
  split
  ·exact fun h1 h2=>⟨h1,h2,h3⟩
  rename_i hb
  split
  ·intro h1 h2;unfold Vz at h2;dsimp only at h2;split at h2<;>(dsimp only at h2;omega)
  split
  ·intro h1 h2;have h2:(7:Int)=0∨(7:Int)=1:=h2;omega
  split
  ·intro h1 h2;unfold zdO Uh at h2;dsimp only at h2
   split at h2
   ·dsimp only at h2;omega
   split at h2<;>(dsimp only at h2;omega)
  split
  ·intro h1 h2;have h2:(5:Int)=0∨(5:Int)=1:=h2;omega
  split
  ·intro h1 h2;unfold zdW Uh at h2;dsimp only at h2
   split at h2
   ·dsimp only at h2;omega
   split at h2<;>(dsimp only at h2;omega)
  split
  ·intro h1 h2;have h1:(1:Int)=0:=h1;omega
  split
  ·rename_i c1
   intro h1 h2;exact ⟨by omega,.inr c1,h3⟩
  ·intro h1 h2;exact ⟨by omega,.inl (by omega),h3⟩
 revert h
 refine yw (motive:=fun r=>VL r.2 o→VL x o∨(x.PC=21∧x.Old=o∧o≠0∧yE s.T o=0)∨x.PC=36) s m x ?_ ?_ ?_ ?_ ?_ ?_ ?_ ?_ ?_ ?_ ?_ ?_ ?_ ?_ ?_ ?_ ?_ ?_ ?_ ?_
 ·intro c;unfold mu0 uY
  split
  ·intro h
   rcases h with h | ⟨h,_⟩ | ⟨h,_⟩
   ·exact .inl (.inl h)
   ·have h:(1:Int)=22∨(((1:Int)=1∨(1:Int)=3)∧(2:Int)=22):=h;omega
   ·have h:(1:Int)=3∨(1:Int)=37:=h;omega
  repeat' split
  all_goals exact calm rfl (by (try dsimp only [setM]);omega) (by (try dsimp only [setM]);omega) (by (try dsimp only [setM]);omega) (by (try dsimp only [setM]);omega)
 ·intro c;unfold mu1;dsimp only
  split
  ·intro h
   rcases h with h | ⟨h,e⟩ | ⟨h,_⟩
   ·exact .inl (.inl h)
   ·have h:x.Ret=22∨((x.Ret=1∨x.Ret=3)∧x.Ret=22):=h
    exact .inl (.inr (.inl ⟨.inr ⟨.inl c,by omega⟩,e⟩))
   ·have h:x.Ret=3∨x.Ret=37:=h
    have:=hr (.inl c);omega
  ·rename_i hl
   intro h
   rcases h with h | ⟨h,e⟩ | ⟨_,_,_,e⟩
   ·exact .inl (.inl (List.mem_of_mem_take h))
   ·have h:(3:Int)=22∨(((3:Int)=1∨(3:Int)=3)∧x.Ret=22):=h
    exact .inl (.inr (.inl ⟨.inr ⟨.inl c,by omega⟩,e⟩))
   ·have e:x.Buf.getD (x.Buf.length-1) 0=o:=e
    rw [List.getD_eq_getElem?_getD,List.getElem?_eq_getElem (show x.Buf.length-1<x.Buf.length by omega)] at e
    exact .inl (.inl (by rw [←e];exact List.getElem_mem _))
 ·intro c;unfold mu2;exact calm rfl (by dsimp only;omega) (by dsimp only;omega) (by dsimp only;omega) (by dsimp only;omega)
 ·intro c;unfold mu3;dsimp only
  split
  ·intro h
   rcases h with h | ⟨h,e⟩ | ⟨h,_⟩
   ·exact .inl (.inl h)
   ·have h:(1:Int)=22∨(((1:Int)=1∨(1:Int)=3)∧x.Ret=22):=h
    exact .inl (.inr (.inl ⟨.inr ⟨.inr c,by omega⟩,e⟩))
   ·have h:(1:Int)=3∨(1:Int)=37:=h;omega
  ·intro h
   rcases h with h | ⟨h,e⟩ | ⟨_,h⟩
   ·exact .inl (.inl h)
   ·exact .inl (.inr (.inl ⟨h,e⟩))
   ·exact .inl (.inr (.inr ⟨.inl c,ask h⟩))
 ·intro c;unfold zbH;exact calm rfl (by dsimp only [setM];omega) (by dsimp only [setM];omega) (by dsimp only [setM];omega) (by dsimp only [setM];omega)
 ·intro c;unfold XK;dsimp only;split
  ·exact calm rfl (by dsimp only [yP];omega) (by dsimp only [yP];omega) (by dsimp only [yP];omega) (by dsimp only [yP];omega)
  ·exact calm rfl (by dsimp only;omega) (by dsimp only;omega) (by dsimp only;omega) (by dsimp only;omega)
 ·intro c;unfold Xw;dsimp only;split
  ·exact calm rfl (by dsimp only;omega) (by dsimp only;omega) (by dsimp only;omega) (by dsimp only;omega)
  ·rename_i hn
   intro h
   rcases h with h | ⟨_,e⟩ | ⟨h,_⟩
   ·exact .inl (.inl h)
   ·have e:x.Old=o:=e
    refine .inr (.inl ⟨c,e,fun e0=>hn (.inl (by rw [e];exact e0)),?_⟩)
    exact Decidable.byContradiction fun ht=>hn (.inr (by rw [e];exact ht))
   ·have h:(22:Int)=3∨(22:Int)=37:=h;omega
 ·intro c;unfold Vi;dsimp only;split
  ·intro h
   rcases h with h | ⟨_,e⟩ | ⟨h,_⟩
   ·exact .inl (.inl h)
   ·exact .inl (.inr (.inl ⟨.inl c,e⟩))
   ·have h:(1:Int)=3∨(1:Int)=37:=h;omega
  ·intro h
   rcases h with h | ⟨h,_⟩ | ⟨h,_⟩
   ·rcases List.mem_append.1 h with h | h
    ·exact .inl (.inl h)
    ·exact .inl (.inr (.inl ⟨.inl c,(List.mem_singleton.1 h).symm⟩))
   ·have h:(23:Int)=22∨(((23:Int)=1∨(23:Int)=3)∧x.Ret=22):=h;omega
   ·have h:(23:Int)=3∨(23:Int)=37:=h;omega
 ·intro c;unfold zaR;exact calm rfl (by dsimp only [yP];omega) (by dsimp only [yP];omega) (by dsimp only [yP];omega) (by dsimp only [yP];omega)
 ·intro c;unfold Z4;repeat' split
  all_goals exact calm rfl (by (try dsimp only [setM,yP]);omega) (by (try dsimp only [setM,yP]);omega) (by (try dsimp only [setM,yP]);omega) (by (try dsimp only [setM,yP]);omega)
 ·intro c;unfold WR;dsimp only;split<;>exact calm rfl (by dsimp only;omega) (by dsimp only;omega) (by dsimp only;omega) (by dsimp only;omega)
 ·intro c;unfold WD;dsimp only;repeat' split
  all_goals exact calm rfl (by dsimp only;omega) (by dsimp only;omega) (by dsimp only;omega) (by dsimp only;omega)
 ·intro c;unfold zbO;exact calm rfl (by dsimp only;omega) (by dsimp only;omega) (by dsimp only;omega) (by dsimp only;omega)
 ·intro c;unfold WN;dsimp only;split<;>exact calm rfl (by dsimp only;omega) (by dsimp only;omega) (by dsimp only;omega) (by dsimp only;omega)
 ·intro c;unfold WK;dsimp only;split<;>exact calm rfl (by dsimp only;omega) (by dsimp only;omega) (by dsimp only;omega) (by dsimp only;omega)
 ·intro c _;exact .inr (.inr c)
 ·intro c;unfold Y5;dsimp only
  have hm:=Zr s x.Slot
  split
  ·exact calm rfl (by dsimp only;omega) (by dsimp only;omega) (by dsimp only;omega) (by dsimp only;omega)
  ·intro h
   rcases h with h | ⟨h,e⟩ | ⟨_,h⟩
   ·exact .inl (.inl h)
   ·have h:x.PC=22∨((x.PC=1∨x.PC=3)∧x.Ret=22):=h;omega
   ·exact .inl (.inr (.inr ⟨.inr c,ask h⟩))
 ·intro c;unfold zcF;exact calm rfl (by dsimp only;omega) (by dsimp only;omega) (by dsimp only;omega) (by dsimp only;omega)
 ·intro c;unfold zd9;exact calm rfl (by dsimp only;omega) (by dsimp only;omega) (by dsimp only;omega) (by dsimp only;omega)
 ·exact fun h=> .inl h
def zsC (p:zb) (s:za) (x:zc):Prop:=x.PC=21→x.Old=0∨LvH p s.H x.Old
theorem zzD {p:zb} {s:za} (hP:s.P=p) {m:Int} {x:zc} (C:V9 p s.H) (R:Wk p s.H x.Regs) (hr:x.PC=1→x.Ret=2∨x.Ret=22):(zg s m x).2.PC=21→x.PC≠21→(zg s m x).2.Old=0∨LvH p s.H (zg s m x).2.Old:=by
 by_cases c:x.PC=20
 ·have e:zg s m x=XK s m x:=by
   unfold zg
   rw [if_neg (by omega),if_neg (by omega),if_neg (by omega),if_neg (by omega),if_neg (by omega),if_pos c]
  rw [e]
  unfold XK;dsimp only
  split
  ·intro h;have h:(0:Int)=21:=h;omega
  ·intro _ _;exact zqM C (R.reg _) _
 ·intro h hn
  exfalso
  revert h
  have no: ∀ {y:zc},y.PC≠21→y.PC=21→False:=fun a b=>a b
  have hm:=Zr s (wc (x.Slot+1))
  have hm2:=Zr s x.Slot
  refine yw (motive:=fun r=>(x.PC=1→x.Ret=2∨x.Ret=22)→r.2.PC=21→False) s m x ?_ ?_ ?_ ?_ ?_ ?_ ?_ ?_ ?_ ?_ ?_ ?_ ?_ ?_ ?_ ?_ ?_ ?_ ?_ ?_ hr
  all_goals try (intro c)
  all_goals intro hr
  ·unfold mu0 uY;repeat' split
   all_goals exact no (by (try dsimp only [setM]);omega)
  ·have:=hr c;unfold mu1;dsimp only;split<;>exact no (by dsimp only;omega)
  ·exact no (by show (0:Int)≠21;decide)
  ·unfold mu3;dsimp only;split<;>exact no (by dsimp only;omega)
  ·exact no (by show (0:Int)≠21;decide)
  ·exact absurd c (by omega)
  ·unfold Xw;dsimp only;split<;>exact no (by dsimp only;omega)
  ·unfold Vi;dsimp only;split<;>exact no (by dsimp only;omega)
  ·exact no (by show (0:Int)≠21;decide)
  ·unfold Z4;repeat' split
   all_goals exact no (by (try dsimp only [setM,yP]);omega)
  ·unfold WR;dsimp only;split<;>exact no (by dsimp only;omega)
  ·unfold WD;dsimp only;repeat' split
   all_goals exact no (by dsimp only;omega)
  ·exact no (by show (34:Int)≠21;decide)
  ·unfold WN;dsimp only;split<;>exact no (by dsimp only;omega)
  ·unfold WK;dsimp only;split<;>exact no (by dsimp only;omega)
  ·unfold Ud;dsimp only;split<;>exact no (by dsimp only;omega)
  ·unfold Y5;dsimp only;split<;>exact no (by dsimp only;omega)
  ·exact no (by show (39:Int)≠21;decide)
  ·exact no (by show (35:Int)≠21;decide)
  ·exact hn hr
end
end Go.Pe.G
namespace Go.Pe.G
open Go.Pe
noncomputable section
theorem zCu (t:zt) (o:Int):yE t o=0↔¬zL t.Marks o=true:=by
 unfold yE
 by_cases h1:zL (t.Marks&&&t.Black) o=true
 ·rw [if_pos h1]
  rw [zcv] at h1
  exact ⟨fun e=>(by cases e),fun e=>absurd h1.1 e⟩
 ·rw [if_neg h1]
  by_cases h2:zL t.Marks o=true
  ·rw [if_pos h2];exact ⟨fun e=>(by cases e),fun e=>absurd h2 e⟩
  ·rw [if_neg h2];exact ⟨fun _=>h2,fun _=>rfl⟩
theorem zqn: ∀ {l:List Int},(∀v∈l,v=0)→l.sum=0
 | [],_=>rfl
 | a::l,h=>by
  rw [List.sum_cons,h a (List.mem_cons_self ..),zqn (fun v hv=>h v (List.mem_cons_of_mem _ hv))];rfl
theorem uF.to {p:zb} {nb k k':Nat} {s:za} {gh gh':Gh} (G:FG p nb k s gh) (G':FG p nb k' s gh') (C:uF p s gh):uF p s gh':=by
 refine ⟨List.eq_nil_iff_forall_not_mem.2 fun o ho=> ?_,C.w9,C.m39⟩
 have:=(G.B.gr o).2 ((G'.B.gr o).1 ho)
 rw [C.bag] at this;cases this
theorem zp2 {p:zb} {nb k:Nat} {s:za} {gh:Gh} (G:FG p nb k s gh) {i:Nat} {x:zc} (hx:s.Ms[i]? =some x) {o:Int} (h:VL x o):1≤o∧o≤(s.H.Objs.length:Int):=by
 have K:=G.M i x hx
 obtain ⟨b1,b2,b3⟩:=G.buf x (List.mem_of_getElem? hx)
 rcases h with h | ⟨h,e⟩ | ⟨h,_,_,e⟩
 ·exact ⟨(K.bf o h).1,b1 o h⟩
 ·have:=K.ol.2 h;omega
 ·have h3:=b3 h
  rcases h with h | h
  ·have:=(K.p3 h).1.ob;omega
  ·have:=(K.p37 h).1.ob;omega
def K1 (s:za):Prop:=∃(i:Nat) (x:zc) (o:Int),s.Ms[i]? =some x∧(s.D.PC=2∨s.Acks.getD i 0<s.Epoch)∧VL x o∧¬zL s.T.Marks o=true
def zlW (x:zc):Prop:=x.Buf=[]∧x.PC≠1∧x.PC≠3∧x.PC≠22
def K2 (s:za):Prop:=(∀(i:Nat) (x:zc),s.Ms[i]? =some x→∀o,VL x o→zL s.T.Marks o=true)∧(s.D.PC≠2→∀(i:Nat) (x:zc),s.Ms[i]? =some x→s.Acks.getD i 0=s.Epoch→zlW x)
theorem K1.same {s s':za} (K:K1 s) (eX:s'.Ms=s.Ms) (eT:s'.T=s.T) (h: ∀i:Nat,i<s.Ms.length→s.D.PC=2∨s.Acks.getD i 0<s.Epoch→s'.D.PC=2∨s'.Acks.getD i 0<s'.Epoch):K1 s':=by
 obtain ⟨i,x,o,hx,ha,hp,hm⟩:=K
 exact ⟨i,x,o,by rw [eX];exact hx,h i (List.getElem?_eq_some_iff.1 hx).1 ha,hp,by rw [eT];exact hm⟩
theorem K2.same {s s':za} (K:K2 s) (eX:s'.Ms=s.Ms) (eT:s'.T=s.T) (h: ∀i:Nat,i<s.Ms.length→s'.D.PC≠2→s'.Acks.getD i 0=s'.Epoch→s.D.PC≠2∧s.Acks.getD i 0=s.Epoch):K2 s':=by
 refine ⟨fun i x hx o ho=> ?_,fun hd i x hx ha=> ?_⟩
 ·rw [eX] at hx;rw [eT];exact K.1 i x hx o ho
 ·rw [eX] at hx
  obtain ⟨a,b⟩:=h i (List.getElem?_eq_some_iff.1 hx).1 hd ha
  exact K.2 a i x hx b
theorem K2.live {p:zb} (hp:zA p) {nb k:Nat} {s:za} {gh:Gh} {W:Int→Int→Prop} (G:FG p nb k s gh) (J:PI p s W) (C:uF p s gh) (K:K2 s) {o:Int} (L:LvH p s.H o):zL s.T.Marks o=true:=by
 rcases L with L | L
 ·refine J.quiet (fun q hq=> ?_) (fun q hq=> ?_) L
  ·have:=(G.B.gr q).2 hq
   rw [C.bag] at this;cases this
  ·rcases hq with ⟨i,x,hx,h,_⟩ | ⟨i,x,hx,h⟩
   ·exact absurd h (C.noW hx).2.1
   ·exact K.1 i x hx q h
 ·exact G.B.blk o (G.bk o L.1 L.2)
theorem zyW {s:za} {m:Int} {x:zc} (h:zlW x) (h0:x.PC=0→¬s.Acks.getD (m-1).toNat 0<s.Epoch) (h21:x.PC=21→x.Old=0∨yE s.T x.Old≠0):zlW (zg s m x).2:=by
 obtain ⟨hb,n1,n3,n22⟩:=h
 have fin: ∀ {y:zc},y.Buf=x.Buf→(y.PC≠1∧y.PC≠3∧y.PC≠22)→zlW y:=fun e hn=>⟨e.trans hb,hn⟩
 have hon: ∀i,onM s i=36∨onM s i=38:=Zr s
 refine yw (motive:=fun r=>zlW r.2) s m x ?_ ?_ ?_ ?_ ?_ ?_ ?_ ?_ ?_ ?_ ?_ ?_ ?_ ?_ ?_ ?_ ?_ ?_ ?_ ?_
 all_goals try (intro c)
 ·unfold mu0 uY
  rw [if_neg (h0 c)]
  repeat' split
  all_goals exact fin rfl (by (try dsimp only [setM]);omega)
 ·exact absurd c n1
 ·exact fin rfl (by unfold mu2;dsimp only;omega)
 ·exact absurd c n3
 ·exact fin rfl (by unfold zbH;dsimp only [setM];omega)
 ·unfold XK;dsimp only;split<;>exact fin rfl (by dsimp only [yP];omega)
 ·unfold Xw;dsimp only;rw [if_pos (h21 c)];exact fin rfl (by dsimp only;omega)
 ·exact absurd c n22
 ·exact fin rfl (by unfold zaR;dsimp only [yP];omega)
 ·unfold Z4;repeat' split
  all_goals exact fin rfl (by (try dsimp only [setM,yP]);omega)
 ·unfold WR;dsimp only;split<;>exact fin rfl (by dsimp only;omega)
 ·unfold WD;dsimp only;repeat' split
  all_goals exact fin rfl (by (try dsimp only);omega)
 ·exact fin rfl (by unfold zbO;dsimp only;omega)
 ·unfold WN;dsimp only;split<;>exact fin rfl (by (try dsimp only);omega)
 ·unfold WK;dsimp only;split<;>exact fin rfl (by (try dsimp only);omega)
 ·unfold Ud;dsimp only
  have:=hon (wc (x.Slot+1))
  split<;>exact fin rfl (by dsimp only;omega)
 ·unfold Y5;dsimp only
  have:=hon x.Slot
  split<;>exact fin rfl (by dsimp only;omega)
 ·exact fin rfl (by unfold zcF;dsimp only;omega)
 ·exact fin rfl (by unfold zd9;dsimp only;omega)
 ·exact ⟨hb,n1,n3,n22⟩
structure PH (p:zb) (s:za) (gh:Gh):Prop where
 a3:s.D.PC=3→∀j:Nat,(j:Int)<s.D.I→s.Acks.getD j 0=s.Epoch
 a4:4≤s.D.PC→∀j:Nat,j<s.Ms.length→s.Acks.getD j 0=s.Epoch
 ph:2≤s.D.PC∧s.D.PC≤4→vm s∨(uF p s gh∧(K1 s∨K2 s))
 p5:s.D.PC=5→s.Flag=true∨(uF p s gh∧K2 s)
 p6:s.D.PC=6→uF p s gh∧K2 s
 dn:s.Done=true→s.D.PC=6
structure DI (p:zb) (nb k:Nat) (s:za) (gh:Gh) (W:Int→Int→Prop):Prop where
 I:EG p nb k s gh
 J:PI p s W
 R:RgI p s
 O: ∀(i:Nat) x,s.Ms[i]? =some x→zsC p s x
 B: ∀(i:Nat) x,s.Ms[i]? =some x→zn2 x
 A:AI (k:Int) s
 P:PH p s gh
theorem K1.no {s:za} (h:s.D.PC≠2) (ha: ∀j:Nat,j<s.Ms.length→s.Acks.getD j 0=s.Epoch): ¬K1 s:=by
 rintro ⟨i,x,o,hx,hk,_⟩
 have:=ha i (List.getElem?_eq_some_iff.1 hx).1
 omega
theorem PH.det {p:zb} (hp:zA p) {nb k:Nat} {s:za} {gh gh':Gh} (hk:k<1000000) (I:EG p nb k s gh) (A:AI (k:Int) s) (P:PH p s gh) (hd:s.Done=false) (I':EG p nb (k+1) (zD s) gh'):PH p (zD s) gh':=by
 have hf:=zc2 s
 have eX:(zD s).Ms=s.Ms:=by conv=>rhs;rw [←hf]
 have eT:(zD s).T=s.T:=by conv=>rhs;rw [←hf]
 have eW:(zD s).Ws=s.Ws:=by conv=>rhs;rw [←hf]
 have eB:(zD s).Bins=s.Bins:=by conv=>rhs;rw [←hf]
 have hDP:=I.G.E.D
 have he:=A.ep
 have cl:uF p s gh→uF p (zD s) gh':=fun C=>by
  refine ⟨List.eq_nil_iff_forall_not_mem.2 fun o ho=> ?_,by rw [eW];exact C.w9,by rw [eX];exact C.m39⟩
  have:=(I'.G.B.gr o).1 ho
  rw [eT] at this
  have:=(I.G.B.gr o).2 this
  rw [C.bag] at this;cases this
 have di:s.D.PC≠0→vm s→vm (zD s):=fun h D=>D.det h
 have hD: ∀ {t:za},zD s=t→t.Done=false∧t.D.PC≤1→PH p (zD s) gh':=fun {t} e h=>by
  rw [e]
  exact ⟨fun c=>by omega,fun c=>by omega,fun c=>by omega,fun c=>by omega,fun c=>by omega,fun c=>by rw [h.1] at c;cases c⟩
 by_cases c0:s.D.PC=0
 ·exact hD (t:={s with Flag:=false,D:={s.D with PC:=1}}) (by unfold zD;rw [if_neg (by rw [hd];decide),if_pos c0]) ⟨hd,by show (1:Int)≤1;decide⟩
 by_cases c1:s.D.PC=1
 ·by_cases hw:s.Work=0
  ·have e:zD s={s with D:={s.D with PC:=2}}:=by unfold zD;rw [if_neg (by rw [hd];decide),if_neg c0,if_pos c1,if_pos hw]
   have C:=cl (uF.of I hw).1
   have eP:(zD s).D.PC=2:=by rw [e]
   refine ⟨fun c=>by omega,fun c=>by omega,fun _=> .inr ⟨C,?_⟩,fun c=>by omega,fun c=>by omega,fun c=>by rw [e] at c;rw [show s.Done=true from c] at hd;cases hd⟩
   by_cases hK:K1 (zD s)
   ·exact .inl hK
   ·refine .inr ⟨fun i x hx o ho=>Decidable.byContradiction fun hm=>hK ⟨i,x,o,hx,.inl eP,ho,hm⟩,fun c=>absurd eP c⟩
  ·exact hD (t:=s) (by unfold zD;rw [if_neg (by rw [hd];decide),if_neg c0,if_pos c1,if_neg hw]) ⟨hd,by omega⟩
 by_cases c2:s.D.PC=2
 ·have e:zD s={s with Epoch:=wc (s.Epoch+1),D:=⟨if s.Ms.length=0 then 4 else 3,0⟩}:=by unfold zD;rw [if_neg (by rw [hd];decide),if_neg c0,if_neg c1,if_pos c2]
  have eE:(zD s).Epoch=s.Epoch+1:=by rw [e];exact xf (by omega) (by omega)
  have eA:(zD s).Acks=s.Acks:=by rw [e]
  have eP:(zD s).D.PC=if s.Ms.length=0 then 4 else 3:=by rw [e]
  have eI:(zD s).D.I=0:=by rw [e]
  have eN:(zD s).Done=false:=by rw [e];exact hd
  have hP:((zD s).D.PC=4∧s.Ms.length=0)∨(zD s).D.PC=3:=by
   rw [eP];split
   ·exact .inl ⟨rfl,by assumption⟩
   ·exact .inr rfl
  refine ⟨fun _ j hj=>by omega,fun c j hj=>by rw [eX] at hj;omega,fun _=> ?_,fun c=>by omega,fun c=>by omega,fun c=>by rw [eN] at c;cases c⟩
  rcases P.ph ⟨by omega,by omega⟩ with D | ⟨C,K⟩
  ·exact .inl (di c0 D)
  ·have hac: ∀i:Nat,i<s.Ms.length→s.Acks.getD i 0≤s.Epoch:=fun i hi=>(A.m i _ (List.getElem?_eq_getElem hi)).1
   refine .inr ⟨cl C,K.imp (fun K=>K.same eX eT fun i hi _=> .inr ?_) (fun K=>K.same eX eT fun i hi _ ha=> ?_)⟩
   ·rw [eA,eE];have:=hac i hi;omega
   ·rw [eA,eE] at ha;have:=hac i hi;omega
 have n2:s.D.PC≠2:=c2
 have keep: ∀ {t:za},zD s=t→t.Acks=s.Acks→t.Epoch=s.Epoch→(t.D.PC≠2∧t.Done=false)→(K1 s→K1 t)∧(K2 s→K2 t):=fun {t} e ea ee hn=>by
  have ex:t.Ms=s.Ms:=by rw [←e];exact eX
  have et:t.T=s.T:=by rw [←e];exact eT
  refine ⟨fun K=>K.same ex et fun i hi h=> .inr ?_,fun K=>K.same ex et fun i hi _ h=>⟨n2,?_⟩⟩
  ·rw [ea,ee];omega
  ·rw [ea,ee] at h;exact h
 by_cases c3:s.D.PC=3
 ·have hI:=hDP.2 c3
  by_cases hw:s.Acks.getD s.D.I.toNat 0<s.Epoch
  ·have e:zD s=s:=by unfold zD;rw [if_neg (by rw [hd];decide),if_neg c0,if_neg c1,if_neg c2,if_pos c3,if_pos hw]
   rw [e] at cl di ⊢
   exact ⟨P.a3,P.a4,fun c=>(P.ph c).imp id (fun K=>⟨cl K.1,K.2⟩),fun c=>by omega,fun c=>by omega,P.dn⟩
  ·have e:zD s={s with D:=⟨if wc (s.D.I+1)=(s.Ms.length:Int) then 4 else 3,wc (s.D.I+1)⟩}:=by unfold zD;rw [if_neg (by rw [hd];decide),if_neg c0,if_neg c1,if_neg c2,if_pos c3,if_neg hw]
   have hsm:=I.G.E.small.ms
   have wI:wc (s.D.I+1)=s.D.I+1:=xf (by omega) (by omega)
   have eN:(zD s).Done=false:=by rw [e];exact hd
   have eE:(zD s).Epoch=s.Epoch:=by rw [e]
   have eA:(zD s).Acks=s.Acks:=by rw [e]
   have eI:(zD s).D.I=s.D.I+1:=by rw [e];exact wI
   have hP:((zD s).D.PC=4∧s.D.I+1=(s.Ms.length:Int))∨(zD s).D.PC=3:=by
    have:(zD s).D.PC=if wc (s.D.I+1)=(s.Ms.length:Int) then 4 else 3:=by rw [e]
    rw [this,wI];split
    ·exact .inl ⟨rfl,by assumption⟩
    ·exact .inr rfl
   have all: ∀j:Nat,(j:Int)<s.D.I+1→s.Acks.getD j 0=s.Epoch:=fun j hj=>by
    by_cases h:(j:Int)<s.D.I
    ·exact P.a3 c3 j h
    ·have ej:s.D.I.toNat=j:=by omega
     rw [ej] at hw
     have:=(A.m j _ (List.getElem?_eq_getElem (show j<s.Ms.length by omega))).1
     omega
   refine ⟨fun _ j hj=> ?_,fun c j hj=> ?_,fun _=> ?_,fun c=>by omega,fun c=>by omega,fun c=>by rw [eN] at c;cases c⟩
   ·rw [eA,eE];exact all j (by omega)
   ·rw [eX] at hj
    rw [eA,eE];exact all j (by omega)
   ·rcases P.ph ⟨by omega,by omega⟩ with D | ⟨C,K⟩
    ·exact .inl (di c0 D)
    ·have kp:=keep rfl eA eE ⟨by omega,eN⟩
     exact .inr ⟨cl C,K.imp kp.1 kp.2⟩
 by_cases c4:s.D.PC=4
 ·by_cases hw:s.Work=0
  ·have e:zD s={s with D:={s.D with PC:=5}}:=by unfold zD;rw [if_neg (by rw [hd];decide),if_neg c0,if_neg c1,if_neg c2,if_neg c3,if_pos c4,if_pos hw]
   have eP:(zD s).D.PC=5:=by rw [e]
   have eN:(zD s).Done=false:=by rw [e];exact hd
   have eE:(zD s).Epoch=s.Epoch:=by rw [e]
   have eA:(zD s).Acks=s.Acks:=by rw [e]
   have eF:(zD s).Flag=s.Flag:=by rw [e]
   refine ⟨fun c=>by omega,fun c j hj=>by rw [eX] at hj;rw [eA,eE];exact P.a4 (by omega) j hj,fun c=>by omega,fun _=> ?_,fun c=>by omega,fun c=>by rw [eN] at c;cases c⟩
   rcases P.ph ⟨by omega,by omega⟩ with D | ⟨C,K⟩
   ·exact .inl (by rw [eF];exact D.flag I hw)
   ·have kp:=keep rfl eA eE ⟨by omega,eN⟩
    exact .inr ⟨cl C,kp.2 (K.resolve_left (K1.no n2 (P.a4 (by omega))))⟩
  ·exact hD (t:={s with Restarts:=wc (s.Restarts+1),D:={s.D with PC:=0}}) (by unfold zD;rw [if_neg (by rw [hd];decide),if_neg c0,if_neg c1,if_neg c2,if_neg c3,if_pos c4,if_neg hw]) ⟨hd,by show (0:Int)≤1;decide⟩
 by_cases c5:s.D.PC=5
 ·by_cases hw:s.Flag=true
  ·exact hD (t:={s with Restarts:=wc (s.Restarts+1),D:={s.D with PC:=0}}) (by unfold zD;rw [if_neg (by rw [hd];decide),if_neg c0,if_neg c1,if_neg c2,if_neg c3,if_neg c4,if_pos c5,if_pos hw]) ⟨hd,by show (0:Int)≤1;decide⟩
  ·have e:zD s={s with D:={s.D with PC:=6}}:=by unfold zD;rw [if_neg (by rw [hd];decide),if_neg c0,if_neg c1,if_neg c2,if_neg c3,if_neg c4,if_pos c5,if_neg hw]
   have eP:(zD s).D.PC=6:=by rw [e]
   have eN:(zD s).Done=false:=by rw [e];exact hd
   have eE:(zD s).Epoch=s.Epoch:=by rw [e]
   have eA:(zD s).Acks=s.Acks:=by rw [e]
   refine ⟨fun c=>by omega,fun c j hj=>by rw [eX] at hj;rw [eA,eE];exact P.a4 (by omega) j hj,fun c=>by omega,fun c=>by omega,fun _=> ?_,fun c=>by rw [eN] at c;cases c⟩
   obtain ⟨C,K⟩:=(P.p5 c5).resolve_left hw
   exact ⟨cl C,(keep rfl eA eE ⟨by omega,eN⟩).2 K⟩
 ·have c6:s.D.PC=6:=by omega
  have e:zD s={s with Done:=true}:=by unfold zD;rw [if_neg (by rw [hd];decide),if_neg c0,if_neg c1,if_neg c2,if_neg c3,if_neg c4,if_neg c5,if_pos c6]
  have eP:(zD s).D.PC=6:=by rw [e];exact c6
  have eE:(zD s).Epoch=s.Epoch:=by rw [e]
  have eA:(zD s).Acks=s.Acks:=by rw [e]
  refine ⟨fun c=>by omega,fun c j hj=>by rw [eX] at hj;rw [eA,eE];exact P.a4 (by omega) j hj,fun c=>by omega,fun c=>by omega,fun _=> ?_,fun _=>eP⟩
  obtain ⟨C,K⟩:=P.p6 c6
  refine ⟨cl C,K.same eX eT fun i hi _ h=>⟨n2,?_⟩⟩
  rw [eA,eE] at h;exact h
theorem PH.worker {p:zb} (hp:zA p) {nb k:Nat} {s:za} {gh gh':Gh} (hk:k<1000000) (I:EG p nb k s gh) (P:PH p s gh) (hd:s.Done=false) {w:Int} (hw:1≤w∧w≤p.Workers) (I':EG p nb (k+1) (zE s w) gh'):PH p (zE s w) gh':=by
 have hf:=Wc I.G.E w
 have eX:(zE s w).Ms=s.Ms:=by rw [hf]
 have eD:(zE s w).D=s.D:=by rw [hf]
 have eN:(zE s w).Done=s.Done:=by rw [hf]
 have eE:(zE s w).Epoch=s.Epoch:=by rw [hf]
 have eA:(zE s w).Acks=s.Acks:=by rw [hf]
 have cl:uF p s gh→uF p (zE s w) gh'∧(zE s w).T=s.T:=fun C=>by
  obtain ⟨g2,G2,C2,t⟩:=uF.worker hp (by omega) I.G C hw hd
  exact ⟨C2.to G2 I'.G,t⟩
 have k2:uF p s gh→K2 s→K2 (zE s w):=fun C K=>K.same eX (cl C).2 fun i hi h ha=>by rw [eD] at h;rw [eA,eE] at ha;exact ⟨h,ha⟩
 refine ⟨by rw [eD,eA,eE];exact P.a3,by rw [eD,eA,eE,eX];exact P.a4,fun c=> ?_,fun c=> ?_,fun c=> ?_,fun c=>by rw [eN,hd] at c;cases c⟩
 ·rw [eD] at c
  rcases P.ph c with D | ⟨C,K⟩
  ·exact .inl (D.worker I.G.E w)
  ·exact .inr ⟨(cl C).1,K.imp (fun K=>K.same eX (cl C).2 fun i hi h=>by rw [eD,eA,eE];exact h) (k2 C)⟩
 ·rw [eD] at c
  have eF:(zE s w).Flag=s.Flag:=by rw [hf]
  rcases P.p5 c with F | ⟨C,K⟩
  ·exact .inl (by rw [eF];exact F)
  ·exact .inr ⟨(cl C).1,k2 C K⟩
 ·rw [eD] at c
  obtain ⟨C,K⟩:=P.p6 c
  exact ⟨(cl C).1,k2 C K⟩
theorem PH.mutator {p:zb} (hp:zA p) {nb k:Nat} {s:za} {gh gh':Gh} {W:Int→Int→Prop} (hk:k<1000000) (Q:DI p nb k s gh W) (hd:s.Done=false) {m:Int} (hm:1≤m∧m≤p.Mutators) (I':EG p nb (k+1) (zp s m) gh'):PH p (zp s m) gh':=by
 obtain ⟨I,J,R,O,B,A,P⟩:=Q
 have E:=I.G.E
 have hml:=E.ml
 have hi:(m-1).toNat<s.Ms.length:=by omega
 have ei:(((m-1).toNat:Nat):Int)+1=m:=by omega
 have hx:=List.getElem?_eq_getElem hi
 generalize s.Ms[(m-1).toNat]=x at hx
 have eS:zp s m={(zg s m x).1 with Ms:=s.Ms.set (m-1).toNat (zg s m x).2}:=by
  unfold zp
  rw [if_neg (by rw [hd];rintro (e | e | e)<;>first | cases e | omega),hx]
 have hf:=zha s m
 have eD:(zp s m).D=s.D:=by rw [hf]
 have eN:(zp s m).Done=s.Done:=by rw [hf]
 have eE:(zp s m).Epoch=s.Epoch:=by rw [hf]
 have eA:(zp s m).Acks=(zg s m x).1.Acks:=by rw [eS]
 have eX:(zp s m).Ms=s.Ms.set (m-1).toNat (zg s m x).2:=by rw [eS]
 have eT:(zp s m).T=(zg s m x).1.T:=by rw [eS]
 obtain ⟨⟨b1,b2,b3⟩,b4,b5,b6⟩:=zzs hp E A (m:=m) (by omega) hx
 have hA:=A.m _ x hx
 have hXO:=E.X _ x hx
 rw [ei] at hXO
 have stay: ∀j:Nat,s.Acks.getD j 0=s.Epoch→(zg s m x).1.Acks.getD j 0=s.Epoch:=fun j hj=>by
  by_cases e:j=(m-1).toNat
  ·subst e;omega
  ·rw [b4 j e];exact hj
 have cl:uF p s gh→(uF p (zp s m) gh'∧∀u,u≤(s.H.Objs.length:Int)→(zL (zp s m).T.Marks u=true↔zL s.T.Marks u=true))∨(vm (zp s m)∧x.PC=3):=fun C=>by
  obtain ⟨g2,G2,h⟩:=uF.mutator hp (by omega) I.G C hm hd
  rcases h with ⟨C2,h⟩ | ⟨D,y,hy,c⟩
  ·exact .inl ⟨C2.to G2 I'.G,h⟩
  ·rw [hx] at hy;injection hy with hy;subst hy
   exact .inr ⟨D,c⟩
 have k1:K1 s→(∀u,u≤(s.H.Objs.length:Int)→(zL (zp s m).T.Marks u=true↔zL s.T.Marks u=true))→K1 (zp s m):=by
  rintro ⟨i,y,o,hy,ha,hpd,hn⟩ hM
  have ho:=zp2 I.G hy hpd
  have hn': ¬zL (zp s m).T.Marks o=true:=fun e=>hn ((hM o ho.2).1 e)
  by_cases e:i=(m-1).toNat
  ·subst e
   rw [hx] at hy;injection hy with hy;subst hy
   have n2:x.PC≠2:=fun c=>by
    rcases hpd with h | ⟨h,_⟩ | ⟨h,_⟩
    ·rw [hA.2.2 c] at h;cases h
    ·omega
    ·omega
   refine ⟨_,_,o,by rw [eX];exact List.getElem?_set_self hi,by rw [eD,eA,eE,zu5 s m n2];exact ha,?_,hn'⟩
   rcases zvx (I.G.M _ x hx) hXO I.G.B.blk hpd with h | h
   ·exact h
   ·exact absurd (by rw [eT];exact h) hn'
  ·exact ⟨i,y,o,by rw [eX,List.getElem?_set_ne (fun h=>e h.symm)];exact hy,by rw [eD,eA,eE,b4 i e];exact ha,hpd,hn'⟩
 have k2:uF p s gh→K2 s→(∀u,u≤(s.H.Objs.length:Int)→(zL (zp s m).T.Marks u=true↔zL s.T.Marks u=true))→K2 (zp s m):=fun C K hM=>by
  have old:x.PC=21→x.Old=0∨yE s.T x.Old≠0:=fun c=>by
   rcases O _ x hx c with h | h
   ·exact .inl h
   ·right
    intro h0
    have hl:=K.live hp I.G J C h
    exact (zCu s.T x.Old).1 h0 hl
  refine ⟨fun i y hy o ho=> ?_,fun h2 i y hy ha=> ?_⟩
  ·rw [eX] at hy
   by_cases e:i=(m-1).toNat
   ·subst e
    rw [List.getElem?_set_self hi] at hy
    injection hy with hy;subst hy
    rcases zuf hXO ho with h | ⟨c,h1,h2,h3⟩ | c
    ·exact (hM o (zp2 I.G hx h).2).2 (K.1 _ x hx o h)
    ·rcases old c with h | h
     ·exact absurd (h1▸h) h2
     ·rw [h1] at h;exact absurd h3 h
    ·exact absurd c (C.noX hx).1
   ·rw [List.getElem?_set_ne (fun h=>e h.symm)] at hy
    exact (hM o (zp2 I.G hy ho).2).2 (K.1 i y hy o ho)
  ·rw [eD] at h2
   rw [eA,eE] at ha
   rw [eX] at hy
   by_cases e:i=(m-1).toNat
   ·subst e
    rw [List.getElem?_set_self hi] at hy
    injection hy with hy;subst hy
    by_cases c:x.PC=2
    ·have e2:zg s m x=mu2 s m x:=by unfold zg;rw [if_neg (by omega),if_neg (by omega),if_pos c]
     rw [e2]
     exact ⟨hA.2.2 c,by show (0:Int)≠1;decide,by show (0:Int)≠3;decide,by show (0:Int)≠22;decide⟩
    ·rw [zu5 s m c] at ha
     exact zyW (K.2 h2 _ x hx ha) (fun _=>by omega) old
   ·rw [List.getElem?_set_ne (fun h=>e h.symm)] at hy
    rw [b4 i e] at ha
    exact K.2 h2 i y hy ha
 have no3:4≤s.D.PC→K2 s→x.PC≠3:=fun h K=>(K.2 (by omega) _ x hx (P.a4 h _ hi)).2.2.1
 refine ⟨by rw [eD,eA,eE];exact fun c j hj=>stay j (P.a3 c j hj),by rw [eD,eA,eE,eX,List.length_set];exact fun c j hj=>stay j (P.a4 c j hj),fun c=> ?_,fun c=> ?_,fun c=> ?_,fun c=>by rw [eN,hd] at c;cases c⟩
 ·rw [eD] at c
  rcases P.ph c with D | ⟨C,K⟩
  ·exact .inl (vm.mutator I.G D (by omega) hd)
  ·rcases cl C with ⟨C',hM⟩ | ⟨D,_⟩
   ·exact .inr ⟨C',K.imp (fun K=>k1 K hM) (fun K=>k2 C K hM)⟩
   ·exact .inl D
 ·rw [eD] at c
  rcases P.p5 c with F | ⟨C,K⟩
  ·left
   rw [eS]
   show (zg s m x).1.Flag=true
   rcases zvJ s m x with h | h
   ·rw [h];exact F
   ·exact h
  ·rcases cl C with ⟨C',hM⟩ | ⟨_,c3⟩
   ·exact .inr ⟨C',k2 C K hM⟩
   ·exact absurd c3 (no3 (by omega) K)
 ·rw [eD] at c
  obtain ⟨C,K⟩:=P.p6 c
  rcases cl C with ⟨C',hM⟩ | ⟨_,c3⟩
  ·exact ⟨C',k2 C K hM⟩
  ·exact absurd c3 (no3 (by omega) K)
theorem PH.to {p:zb} {nb k k':Nat} {s:za} {gh gh':Gh} (P:PH p s gh) (I:EG p nb k s gh) (I':EG p nb k' s gh'):PH p s gh' :=
 ⟨P.a3,P.a4,fun c=>(P.ph c).imp id (fun h=>⟨h.1.to I.G I'.G,h.2⟩),fun c=>(P.p5 c).imp id (fun h=>⟨h.1.to I.G I'.G,h.2⟩),fun c=>⟨(P.p6 c).1.to I.G I'.G,(P.p6 c).2⟩,P.dn⟩
theorem DI.next {p:zb} (hp:zA p) {nb k:Nat} {s:za} {gh:Gh} {W:Int→Int→Prop} (hk:k<1000000) (Q:DI p nb k s gh W) (j:Int): ∃gh' W',DI p nb (k+1) (uh s j) gh' W':=by
 obtain ⟨gh',W',I',J',_⟩:=zz0 hp (by omega) Q.I Q.J j
 have A':=(zAY hp Q.I.G.E (by omega) Q.A j).1
 refine ⟨gh',W',?_⟩
 suffices h:RgI p (uh s j)∧(∀(i:Nat) x,(uh s j).Ms[i]? =some x→zsC p (uh s j) x)∧(∀(i:Nat) x,(uh s j).Ms[i]? =some x→zn2 x)∧PH p (uh s j) gh' from ⟨I',J',h.1,h.2.1,h.2.2.1,by have:=A';rw [show ((k:Int)+1)=((k+1:Nat):Int) by omega] at this;exact this,h.2.2.2⟩
 have keep: ∀ {t:za},t.H=s.H→t.Ms=s.Ms→RgI p t∧(∀(i:Nat) x,t.Ms[i]? =some x→zsC p t x)∧(∀(i:Nat) x,t.Ms[i]? =some x→zn2 x):=fun eH eX =>
  ⟨⟨by rw [eH];exact Q.R.hp,by rw [eH,eX];exact Q.R.rg⟩,fun i x hx=>by rw [eX] at hx;unfold zsC;rw [eH];exact Q.O i x hx,fun i x hx=>by rw [eX] at hx;exact Q.B i x hx⟩
 have fin: ∀ {t:za},t.H=s.H→t.Ms=s.Ms→PH p t gh'→RgI p t∧(∀(i:Nat) x,t.Ms[i]? =some x→zsC p t x)∧(∀(i:Nat) x,t.Ms[i]? =some x→zn2 x)∧PH p t gh':=fun eH eX P=>⟨(keep eH eX).1,(keep eH eX).2.1,(keep eH eX).2.2,P⟩
 cases hd:s.Done with
 | true =>
  rw [zkt hd] at I' ⊢
  exact fin rfl rfl (Q.P.to Q.I I')
 | false =>
  have hwl:=Q.I.G.E.wl
  have hml:=Q.I.G.E.ml
  revert I'
  unfold uh
  split
  ·intro I'
   have hf:=zc2 s
   exact fin (by conv=>rhs;rw [←hf]) (by conv=>rhs;rw [←hf]) (PH.det hp hk Q.I Q.A Q.P hd I')
  split
  ·intro I'
   by_cases h1:1≤j
   ·have hf:=Wc Q.I.G.E j
    exact fin (by rw [hf]) (by rw [hf]) (PH.worker hp hk Q.I Q.P hd (by omega) I')
   ·have:zE s j=s:=by unfold zE;rw [if_pos (.inr (.inl (by omega)))]
    rw [this] at I' ⊢
    exact fin rfl rfl (Q.P.to Q.I I')
  ·intro I'
   by_cases h1:1≤j-(s.Ws.length:Int)∧j-(s.Ws.length:Int)≤(s.Ms.length:Int)
   ·generalize j-(s.Ws.length:Int)=m at h1 I' ⊢
    refine ⟨Q.R.step hp Q.I.G.E m,?_⟩
    have hPH:=PH.mutator hp hk Q hd (m:=m) (by omega) I'
    refine ⟨fun i y hy=> ?_,fun i y hy=> ?_,hPH⟩
    all_goals
     have hi:(m-1).toNat<s.Ms.length:=by omega
     have ei:(((m-1).toNat:Nat):Int)+1=m:=by omega
     have hx:=List.getElem?_eq_getElem hi
     generalize s.Ms[(m-1).toNat]=x at hx
     have eS:zp s m={(zg s m x).1 with Ms:=s.Ms.set (m-1).toNat (zg s m x).2}:=by
      unfold zp
      rw [if_neg (by rw [hd];rintro (e | e | e)<;>first | cases e | omega),hx]
     rw [eS] at hy
     have hy:(s.Ms.set (m-1).toNat (zg s m x).2)[i]? =some y:=hy
    ·have hrg:=zyn (m:=m) hp Q.I.G.E.H Q.R.hp (Q.R.rg x (List.mem_of_getElem? hx))
     rw [eS]
     have up: ∀ {v:Int},v=0∨LvH p s.H v→v=0∨LvH p (zg s m x).1.H v:=fun h=>h.imp id (fun L=>L.mono hrg.2.2)
     show zsC p (zg s m x).1 y
     have hXO:=Q.I.G.E.X _ x hx
     by_cases e:i=(m-1).toNat
     ·subst e
      rw [List.getElem?_set_self hi] at hy
      injection hy with hy;subst hy
      intro c
      by_cases cx:x.PC=21
      ·exfalso
       revert c
       have e21:zg s m x=Xw s m x:=by
        unfold zg
        rw [if_neg (by omega),if_neg (by omega),if_neg (by omega),if_neg (by omega),if_neg (by omega),if_neg (by omega),if_pos cx]
       rw [e21];unfold Xw;dsimp only
       split<;>(dsimp only;omega)
      ·exact up (zzD Q.I.G.E.S.P Q.R.hp (Q.R.rg x (List.mem_of_getElem? hx)) (fun h=>hXO.ret (.inl h)) c cx)
     ·rw [List.getElem?_set_ne (fun h=>e h.symm)] at hy
      exact fun c=>up (Q.O i y hy c)
    ·by_cases e:i=(m-1).toNat
     ·subst e
      rw [List.getElem?_set_self hi] at hy
      injection hy with hy;subst hy
      exact zAs (Q.B _ x hx)
     ·rw [List.getElem?_set_ne (fun h=>e h.symm)] at hy
      exact Q.B i y hy
   ·have:zp s (j-(s.Ws.length:Int))=s:=by unfold zp;rw [if_pos (by omega)]
    rw [this] at I' ⊢
    exact fin rfl rfl (Q.P.to Q.I I')
theorem zte {p:zb} {nb k:Nat} {s:za} {gh:Gh} (I:EG p nb k s gh) (C:uF p s gh) (K:K2 s) (h2:s.D.PC≠2) (ha: ∀j:Nat,j<s.Ms.length→s.Acks.getD j 0=s.Epoch):s.Work=0:=by
 have hw:=I.wk
 rw [C.bag] at hw
 have z:zah s=0:=by
  unfold zah
  have z1:(s.Ws.map owW).sum=0:=zqn (fun v hv=>by
   obtain ⟨x,hx,rfl⟩:=List.mem_map.1 hv
   obtain ⟨i,hi⟩:=List.mem_iff_getElem?.1 hx
   unfold owW
   rw [if_neg (C.w9 i x hi),if_neg (C.noW hi).2.1])
  have z2:(s.Ms.map owX).sum=0:=zqn (fun v hv=>by
   obtain ⟨x,hx,rfl⟩:=List.mem_map.1 hv
   obtain ⟨i,hi⟩:=List.mem_iff_getElem?.1 hx
   have:=(K.2 h2 i x hi (ha i (List.getElem?_eq_some_iff.1 hi).1)).2.2.1
   have:=(C.noX hi).2.1
   unfold owX
   rw [if_neg (C.m39 i x hi),if_neg (by omega)])
  omega
 rw [hw,z];rfl
theorem DI.done {p:zb} (hp:zA p) {nb k:Nat} {s:za} {gh:Gh} {W:Int→Int→Prop} (Q:DI p nb k s gh W) (hd:s.Done=true) :
  s.Work=0∧(∀o,yE s.T o≠1)∧(∀(i:Nat) x,s.Ms[i]? =some x→x.Buf=[]∧x.Batch=[]∧x.Obj=0)∧(∀o,LvH p s.H o→zL s.T.Marks o=true):=by
 have c6:=Q.P.dn hd
 obtain ⟨C,K⟩:=Q.P.p6 c6
 have G:=Q.I.G
 have qx: ∀(i:Nat) x,s.Ms[i]? =some x→zlW x:=fun i x hx=>K.2 (by omega) i x hx (Q.P.a4 (by omega) i (List.getElem?_eq_some_iff.1 hx).1)
 refine ⟨?_,fun o ho=> ?_,fun i x hx=> ?_,fun o L=>K.live hp G Q.J C L⟩
 ·exact zte Q.I C K (by omega) (Q.P.a4 (by omega))
 ·have:=(G.B.gr o).2 ho
  rw [C.bag] at this;cases this
 ·have hn:=C.noX hx
  have h39:=C.m39 i x hx
  refine ⟨(qx i x hx).1,hn.2.2.2,(Q.B i x hx).resolve_right (by omega)⟩
theorem zB6 {p:zb} (h:zA p):PI p (yz p) (fun _ _=>False):=by
 have hms: ∀(i:Nat) x,(yz p).Ms[i]? =some x→x.PC=0:=fun i x hx=>by
  obtain ⟨r,_,e⟩:=List.mem_map.1 (show x∈p.Regs.map xh from List.mem_of_getElem? hx)
  rw [←e];rfl
 have hws: ∀(i:Nat) x,(yz p).Ws[i]? =some x→x.PC=0:=fun i x hx=>by
  obtain ⟨j,_,e⟩:=List.mem_map.1 (show x∈(List.range p.Workers.toNat).map (vT p) from List.mem_of_getElem? hx)
  rw [←e];rfl
 have us: ∀u j,US (yz p) u j:=fun u j=>⟨fun i x hx e=>by have:=hws i x hx;omega,fun i x hx e=>by have:=hms i x hx;omega⟩
 refine ⟨fun o ho=> ?_,fun i x hx=> ?_,fun i x hx=> ?_,fun i x hx _=> ?_⟩
 ·induction ho with
  | root o h1 h2=>exact .inl h1
  | step o v h1 h2 h3 ih =>
   right
   have ho:=h1.in
   obtain ⟨j,hj⟩:=List.mem_iff_getElem?.1 h2
   have hjl:=(List.getElem?_eq_some_iff.1 hj).1
   have hs:yK (yz p).H o (j:Int)=true:=by
    show yK p.H o (j:Int)=true
    unfold yK;simp;omega
   have hg:zN (yz p).H o (j:Int)=v:=by
    show zN p.H o (j:Int)=v
    unfold zN
    rw [if_pos (show yK p.H o (j:Int)=true from hs),List.getD_eq_getElem?_getD,Int.toNat_natCast,hj];rfl
   rcases ih with ih | ih
   ·exact .grey o j v (fun e=>e) hs hg ((u7 _ _).2 ⟨ih,zaY o⟩) (us _ _)
   ·by_cases hm:zL (yz p).T.Marks o=true
    ·exact .grey o j v (fun e=>e) hs hg ((u7 _ _).2 ⟨hm,zaY o⟩) (us _ _)
    ·exact .white o j v (fun e=>e) hs hg hm ih
 ·have:=hws i x hx;exact ⟨fun e=>by omega,fun e=>by omega,fun e=>by omega⟩
 ·have:=hms i x hx;exact ⟨fun e=>by omega,fun e=>by omega,fun e=>by omega⟩
 ·have:=hms i x hx
  exact ⟨fun e=>by omega,fun e=>by omega⟩
theorem zBu {p:zb} (h:zA p):DI p (zX p+1) 0 (yz p) (gh0 p) (fun _ _=>False):=by
 have hms: ∀(i:Nat) x,(yz p).Ms[i]? =some x→x.PC=0∧x.Obj=0:=fun i x hx=>by
  obtain ⟨r,_,e⟩:=List.mem_map.1 (show x∈p.Regs.map xh from List.mem_of_getElem? hx)
  rw [←e];exact ⟨rfl,rfl⟩
 have e0:(yz p).D.PC=0:=rfl
 exact ⟨zBX h,zB6 h,zBH h,fun i x hx c=>by have:=(hms i x hx).1;omega,fun i x hx=> .inl (hms i x hx).2,zBL p,⟨fun c=>by omega,fun c=>by omega,fun c=>by omega,fun c=>by omega,fun c=>by omega,fun c=>by cases c⟩⟩
end
end Go.Pe.G
