/- Own work of this seat: PWstep, PMstep, PBits, PWAll, PLists, PWNew, PHp, PFirst, PNewI, PCnt, PFull, PRem, PRuns, PLaw16. -/
import Derived.Test.YtcjjhmfdiiookaaGreatDoorMUPa
set_option linter.unusedVariables false
set_option linter.unusedSimpArgs false
set_option linter.unnecessarySimpa false
set_option linter.unusedSectionVars false
set_option linter.deprecated false
set_option maxRecDepth 20000
namespace Go.Pe.G
open Go.Pe
noncomputable section
def xL (x:zg):List Int:=if x.PC=3∨x.PC=4 then [x.Bin] else if x.PC=6 then xI x.G else []
def V6 (s:za) (x:zg):List Int:=if x.PC=0 then Y0 s.M x.D else if x.PC=3 then xm s x.Bin else if x.PC=5∨x.PC=8 then [x.Obj] else if x.PC=6 then x.Obj::yI x.G else []
def zL (s:za) (x:zg):List Int:=x.Batch++V6 s x
structure WX (p:zb) (s:za) (gh:Gh) (w:Int) (x:zg):Prop where
 c0:x.PC≠0→gh.c w=0
 bt:x.PC≤3→x.Batch=[]
 p0:x.PC=0→PK p s.M w (gh.t w) (gh.D w) (gh.c w) x.D
 p1:x.PC=1→TK p s.M x.Victim (gh.t x.Victim) (gh.D x.Victim) x.D
 p2:x.PC=2→x.C.Out=0∧(0≤x.C.PC∧x.C.PC≤2)∧CK p s.M x.C
 p4:x.PC=4→x.C.Out=0∧(0≤x.C.PC∧x.C.PC≤2)∧x.C.X=x.Bin∧CK p s.M x.C
 p6:x.PC=6→GX p s gh x.G∧x.G.Mode=1∧x.G.Who=w∧x.G.Out=0
theorem WX.plain {p:zb} {s:za} {gh:Gh} {w:Int} {x:zg} (h:x.PC=5∨x.PC=7∨x.PC=8∨x.PC=9) (c:gh.c w=0):WX p s gh w x :=
 ⟨fun _=>c,fun e=>by omega,fun e=>by omega,fun e=>by omega,fun e=>by omega,fun e=>by omega,fun e=>by omega⟩
theorem CK.start {p:zb} {m:List (BitVec 64)} {k h x:Int}:CK p m ⟨k,0,h,zD p,0#64,x,0,0⟩ :=
 ⟨fun e=>absurd e (by show ¬(1:Int)≤0;decide),fun e=>absurd e (by show ¬(0:Int)=2;decide),fun e=>absurd e (by show ¬(0:Int)=2;decide)⟩
theorem WX.begin {p:zb} {s:za} {gh:Gh} {w:Int} {x:zg} (c:gh.c w=0) (hb:x.Batch=[]):WX p s gh w (zaJ p w x):=by
 refine ⟨fun e=>absurd rfl e,fun _=>hb,fun _=>⟨rfl,rfl,rfl,rfl,⟨by show (0:Int)≤0;decide,by show (0:Int)≤6;decide⟩,fun _=>c,?_,?_,?_,?_,?_,?_,?_,?_⟩,fun e=>(by cases e),fun e=>(by cases e),fun e=>(by cases e),fun e=>(by cases e)⟩
 all_goals (intro e;first | (exact absurd e (by show ¬((0:Int)=2∨(4:Int)≤0);decide)) | (exact absurd e (by show ¬(0:Int)=3;decide)) | (exact absurd e (by show ¬(0:Int)=4;decide)) | (exact absurd e (by show ¬((0:Int)=3∨(0:Int)=4);decide)) | (exact absurd e (by show ¬(5:Int)≤0;decide)) | skip)
 rcases e with e | e | e | e
 ·exact absurd e (by show ¬(0:Int)=1;decide)
 ·exact absurd e (by show ¬(0:Int)=2;decide)
 ·exact absurd e (by show ¬(4:Int)≤0;decide)
 ·exact absurd e.1 (by show ¬(0:Int)=3;decide)
theorem zkf {p:zb} {s:za} {w:Int} {x:zg}:V6 s (zaJ p w x)=[]:=by
 unfold V6
 rw [if_pos (show (zaJ p w x).PC=0 from rfl)]
 exact vm (.inl (by show (0:Int)≠3;decide)) (by show (0:Int)≠6;decide)
theorem WX.look {p:zb} {s:za} {gh:Gh} {w:Int} {x:zg} (c:gh.c w=0) (hb:x.Batch=[]):WX p s gh w (XW p w x)∧V6 s (XW p w x)=[]∧xL (XW p w x)=[]:=by
 unfold XW
 split
 ·refine ⟨⟨fun _=>c,fun _=>hb,fun e=>(by cases e),fun e=>(by cases e),fun _=>⟨rfl,⟨by show (0:Int)≤0;decide,by show (0:Int)≤2;decide⟩,CK.start⟩,fun e=>(by cases e),fun e=>(by cases e)⟩,?_,?_⟩
  ·unfold V6;rw [if_neg (by show ¬(2:Int)=0;decide),if_neg (by show ¬(2:Int)=3;decide),if_neg (by show ¬((2:Int)=5∨(2:Int)=8);decide),if_neg (by show ¬(2:Int)=6;decide)]
  ·unfold xL;rw [if_neg (by show ¬((2:Int)=3∨(2:Int)=4);decide),if_neg (by show ¬(2:Int)=6;decide)]
 ·refine ⟨⟨fun _=>c,fun _=>hb,fun e=>(by cases e),fun _=>⟨rfl,rfl,rfl,rfl,⟨by show (0:Int)≤0;decide,by show (0:Int)≤3;decide⟩,fun e=>absurd e (by show ¬(1:Int)≤0;decide),fun e=>absurd e (by show ¬(2:Int)≤0;decide),fun e=>absurd e (by show ¬(0:Int)=3;decide)⟩,fun e=>(by cases e),fun e=>(by cases e),fun e=>(by cases e)⟩,?_,?_⟩
  ·unfold V6;rw [if_neg (by show ¬(1:Int)=0;decide),if_neg (by show ¬(1:Int)=3;decide),if_neg (by show ¬((1:Int)=5∨(1:Int)=8);decide),if_neg (by show ¬(1:Int)=6;decide)]
  ·unfold xL;rw [if_neg (by show ¬((1:Int)=3∨(1:Int)=4);decide),if_neg (by show ¬(1:Int)=6;decide)]
theorem WX.other {p:zb} (hp:zE p) {nb k:Nat} {s s':za} {gh gh':Gh} {X R:List Int} {O:Int→Prop} {w:Int} {x:zg} (hw:1≤w∧w≤p.Workers) (Y:SX p nb s gh (X++R) k) (Fx:FX p nb X O s s' gh gh') (K:WX p s gh w x) (W:WOk p nb w x)
  (hR: ∀b∈xL x,b∈R) (apart: ¬O w):WX p s' gh' w x∧zL s' x=zL s x:=by
 have hsub: ∀b∈X,b∈X++R:=fun b hb=>List.mem_append_left _ hb
 have hnd:=(List.nodup_append.1 Y.L.nodup).2.1
 have hnot: ∀b,b∈xL x→b∉X:=fun b hb hg=>(List.nodup_append.1 hnd).2.2 b hg b (hR b hb) rfl
 have hc:gh'.c w=gh.c w:=by
  rcases Fx.dq w hw.1 hw.2 with h | h
  ·cases h with
   | same e1 e2 e3 e4=>exact e3
   | stolen y e1 e2 e3 e4=>exact e3
  ·exact absurd h.1 apart
 have hcell: ∀a,zN p w<a→a<zN p w+p.Cap+2→ld s'.M a=ld s.M a:=by
  rcases Fx.dq w hw.1 hw.2 with h | h
  ·cases h with
   | same e1 e2 e3 e4=>exact fun a h1 h2=>e4 a (by omega) h2
   | stolen y e1 e2 e3 e4=>exact e4
  ·exact absurd h.1 apart
 refine ⟨⟨fun e=>hc.trans (K.c0 e),K.bt,fun e=>Fx.pk hp hw.1 hw.2 apart (K.p0 e),fun e=>Fx.tk W.vic.1 W.vic.2 (K.p1 e),fun e=> ?_,fun e=> ?_,fun e=> ?_⟩,?_⟩
 ·obtain ⟨a,b,c⟩:=K.p2 e
  have C:=W.c2 e
  exact ⟨a,b,c.mv Y.L Fx.mv hsub (.inl C.h) (fun h _=>C.v h) (fun e2=>by have:=C.k;omega)⟩
 ·obtain ⟨a,b,c,d⟩:=K.p4 e
  have C:=W.c4 e
  have hno:=hnot x.Bin (by unfold xL;rw [if_pos (.inr e)];simp)
  exact ⟨a,b,c,d.mv Y.L Fx.mv hsub (.inr C.h) (fun _ e2=>by have:=C.k;omega) (fun _=>⟨C.x.1,C.x.2,by rw [c];exact hno⟩)⟩
 ·obtain ⟨a,b,c,d⟩:=K.p6 e
  have M:=(W.g6 e).1
  refine ⟨a.other hp Y Fx M (fun y hy=>hR y ?_) (fun _=>by rw [c];exact apart),b,c,d⟩
  unfold xL;rw [if_neg (by omega),if_pos e];exact hy
 ·unfold zL V6
  congr 1
  by_cases e0:x.PC=0
  ·rw [if_pos e0,if_pos e0]
   have P:=K.p0 e0
   unfold Y0
   have hpl:=(znK hp hw.1 hw.2 P.base P.size (x.D.B-1#64)).2
   rw [hcell _ (by rw [P.base] at hpl;omega) (by rw [P.base] at hpl;omega)]
  ·rw [if_neg e0,if_neg e0]
   by_cases e3:x.PC=3
   ·rw [if_pos e3,if_pos e3]
    have hb:=W.b3 e3
    have hno:=hnot x.Bin (by unfold xL;rw [if_pos (.inl e3)];simp)
    unfold xm
    rw [Fx.bn x.Bin hb.1 hno]
   ·rw [if_neg e3,if_neg e3]
theorem zsU (s:za) (b:Int):WD s b=xm s b:=by unfold WD xm;rw [List.getD_eq_getElem?_getD]
theorem FX.mono {p:zb} {nb:Nat} {X:List Int} {O O':Int→Prop} {s s':za} {g g':Gh} (h:FX p nb X O s s' g g') (i: ∀v,O v→O' v):FX p nb X O' s s' g g' :=
 ⟨h.mv,h.bn,fun v a b=>(h.dq v a b).imp id (fun e=>⟨i v e.1,e.2⟩),h.fb⟩
theorem vC {x:zg} (h3:x.PC≠3) (h4:x.PC≠4) (h6:x.PC≠6):xL x=[]:=by unfold xL;rw [if_neg (by omega),if_neg h6]
theorem zg7 {x:zg} (h:x.PC=3∨x.PC=4):xL x=[x.Bin]:=by unfold xL;rw [if_pos h]
theorem zsG {x:zg} (h:x.PC=6):xL x=xI x.G:=by unfold xL;rw [if_neg (by omega),if_pos h]
theorem zvU {s:za} {x:zg} (h:x.PC=0):V6 s x=Y0 s.M x.D:=by unfold V6;rw [if_pos h]
theorem zwC {s:za} {x:zg} (h:x.PC=3):V6 s x=xm s x.Bin:=by unfold V6;rw [if_neg (by omega),if_pos h]
theorem UK {s:za} {x:zg} (h:x.PC=5∨x.PC=8):V6 s x=[x.Obj]:=by unfold V6;rw [if_neg (by omega),if_neg (by omega),if_pos h]
theorem zs2 {s:za} {x:zg} (h:x.PC=6):V6 s x=x.Obj::yI x.G:=by unfold V6;rw [if_neg (by omega),if_neg (by omega),if_neg (by omega),if_pos h]
theorem ZK {s:za} {x:zg} (h:x.PC=1∨x.PC=2∨x.PC=4∨x.PC=7∨x.PC=9):V6 s x=[]:=by unfold V6;rw [if_neg (by omega),if_neg (by omega),if_neg (by omega),if_neg (by omega)]
def zg5 (p:zb) (nb k:Nat) (R:List Int) (gh:Gh) (s:za) (w:Int) (x:zg) (s':za) (x':zg):Prop :=
 ∃gh',SX p nb s' gh' (xL x'++R) (k+1)∧WX p s' gh' w x'∧FX p nb (xL x) (fun v=>v=w) s s' gh gh' ∧
  ∃N B,List.Perm (yr p s' gh'++zL s' x'++B) (N++(yr p s gh++zL s x)) ∧
   ((N=[]∧B=[]∧s'.T=s.T)∨(N=[x.G.Obj]∧B=[]∧x.PC=6∧¬(s.T.Marks|||bit x.G.Obj=s.T.Marks)∧s'.T={s.T with Marks:=s.T.Marks|||bit x.G.Obj})∨(N=[]∧B=[x.Obj]∧x.PC=8∧s'.T=ue s.T x.Obj))
theorem zg5.quiet {p:zb} {nb k:Nat} {R:List Int} {gh:Gh} {s s':za} {w:Int} {x x':zg} (X:SX p nb s gh (xL x++R) k) (S':SOk p nb s') (hm:s'.M=s.M) (hb:s'.Bins=s.Bins) (hT:s'.T=s.T)
  (ho:xL x'=xL x) (hh:List.Perm (zL s' x') (zL s x)) (W':WX p s' gh w x'):zg5 p nb k R gh s w x s' x' :=
 ⟨gh,by rw [ho];exact X.quiet S' hm,W',FX.quiet hm (fun _ _ _=>by rw [hb]),[],[],by rw [Zt hb,List.append_nil];exact List.Perm.append_left _ hh,.inl ⟨rfl,rfl,hT⟩⟩
theorem zxT {p:zb} (hp:zE p) {nb k:Nat} {R:List Int} {gh:Gh} {s:za} {w:Int} {x:zg} (hk:k<4294960000) (hw:1≤w∧w≤p.Workers) (X:SX p nb s gh (xL x++R) k) (W:WOk p nb w x) (K:WX p s gh w x)
  (hH: ∀o i,0≤xU s.H o i∧xU s.H o i≤64):zg5 p nb k R gh s w x (zo s w x).1 (zo s w x).2:=by
 have S':=(zui hp hw X.S W).1
 have hP:=X.S.P
 have eL: ∀y,XW s.P w y=XW p w y:=fun y=>by rw [hP]
 have eB: ∀y,zaJ s.P w y=zaJ p w y:=fun y=>by rw [hP]
 have eC:U5 s.P (zD s.P) x.Bin=U5 p (zD p) x.Bin:=by rw [hP]
 have hpc:=W.pc
 have hlen:=X.L.len
 have hE:=wn hp
 revert S'
 unfold zo
 by_cases p01:x.PC=0∨x.PC=1
 ·rw [if_pos p01]
  intro S'
  have S':SOk p nb {s with M:=(zX s.M x.D).1}:=S'
  have hl:=(zi7 s.M x.D).1
  have eo:xL x=[]:=vC (by omega) (by omega) (by omega)
  have hbt:=K.bt (by omega)
  rw [eo] at X
  dsimp only
  by_cases p0:x.PC=0
  ·have K0:=K.p0 p0
   have D0:=X.D w hw.1 hw.2
   have hdk:=X.dk w hw.1 hw.2
   obtain ⟨t',l',c',D',hm,V,hle,r⟩:=zr9 hp hw (by omega) D0 K0
   have hc:=hp.cap
   have hm': ∀a,(a<zN p w∨zN p w+p.Cap+2≤a)→ld (zX s.M x.D).1 a=ld s.M a:=fun a ha=>hm a (by omega) (by omega)
   have X':=X.dq hp S' hl hw hm' D' (by omega)
   have Fx:FX p nb (xL x) (fun v=>v=w) s {s with M:=(zX s.M x.D).1} gh (XH gh w t' l' c'):=FX.own (O:=fun v=>v=w) (s:=s) (s':={s with M:=(zX s.M x.D).1}) (g:=gh) hp hw hm' rfl rfl V
   obtain ⟨u,v,f1,f2⟩:=zlD (p:=p) (s:=s) (s':={s with M:=(zX s.M x.D).1}) (g:=gh) rfl hw (t:=t') (c:=c') (l:=l')
   have fin: ∀x':zg,xL x'=[]→WX p {s with M:=(zX s.M x.D).1} (XH gh w t' l' c') w x'→List.Perm (l'++zL {s with M:=(zX s.M x.D).1} x') (gh.D w++zL s x)→zg5 p nb k R gh s w x {s with M:=(zX s.M x.D).1} x':=by
    intro x' a b c
    refine ⟨_,by rw [a];exact X',b,Fx,[],[],?_,.inl ⟨rfl,rfl,rfl⟩⟩
    rw [f1,f2,List.append_nil,List.nil_append]
    simp only [List.append_assoc]
    refine List.Perm.append_left _ ?_
    refine (List.perm_append_comm_assoc l' v _).trans (List.Perm.trans ?_ (List.perm_append_comm_assoc v (gh.D w) _))
    exact List.Perm.append_left _ c
   have hh:zL s x=Y0 s.M x.D:=by unfold zL;rw [hbt,zvU p0,List.nil_append]
   rw [hh] at fin
   rcases r with ⟨r1,r2,r3⟩ | ⟨r1,r2,r3⟩ | ⟨r1,r2,r3,r4,r5⟩
   ·rw [r1,if_neg (by decide),if_neg (by decide)]
    refine fin _ (vC (by show x.PC≠3;omega) (by show x.PC≠4;omega) (by show x.PC≠6;omega)) ⟨fun e=>absurd p0 e,fun _=>hbt,fun _=> ?_,fun e=>by have e:x.PC=1:=e;omega,fun e=>by have e:x.PC=2:=e;omega,fun e=>by have e:x.PC=4:=e;omega,fun e=>by have e:x.PC=6:=e;omega⟩ ?_
    ·rw [ww.1,ww.2.1,ww.2.2];exact r2
    ·unfold zL
     rw [zvU (x:={x with D:=(zX s.M x.D).2}) p0]
     show List.Perm (l'++(x.Batch++Y0 (zX s.M x.D).1 (zX s.M x.D).2)) _
     rw [hbt,List.nil_append];exact r3
   ·rw [r1,if_pos rfl]
    refine fin _ (vC (by show (5:Int)≠3;decide) (by show (5:Int)≠4;decide) (by show (5:Int)≠6;decide)) (WX.plain (.inl rfl) (by rw [ww.2.2];exact r2)) ?_
    unfold zL
    rw [UK (.inl rfl)]
    show List.Perm (l'++(x.Batch++[(zX s.M x.D).2.X])) _
    rw [hbt,List.nil_append];exact r3
   ·rw [r1,if_neg (by decide),if_pos (.inl rfl),eL]
    obtain ⟨a,b,c⟩:=WX.look (p:=p) (s:={s with M:=(zX s.M x.D).1}) (gh:=XH gh w t' l' c') (w:=w) (x:={x with D:=(zX s.M x.D).2}) (by rw [ww.2.2];exact r2) hbt
    refine fin _ c a ?_
    unfold zL
    rw [b,r3,r4,r5,show (XW p w {x with D:=(zX s.M x.D).2}).Batch=x.Batch by unfold XW;split<;>rfl,hbt]
    exact List.Perm.refl _
  ·have p1:x.PC=1:=by omega
   have K1:=K.p1 p1
   have hv:=W.vic
   have hc0:=K.c0 p0
   have D0:=X.D x.Victim hv.1 hv.2
   have hdk:=X.dk x.Victim hv.1 hv.2
   have hh:zL s x=[]:=by unfold zL;rw [hbt,ZK (.inl p1)];rfl
   rcases zvk hp hv (by omega) D0 K1 with ⟨hm,r⟩ | ⟨y,l',e1,e2,e3,e4,e5⟩
   ·have S2:=S'
    have q: ∀x':zg,xL x'=[]→zL {s with M:=(zX s.M x.D).1} x'=[]→WX p {s with M:=(zX s.M x.D).1} gh w x'→zg5 p nb k R gh s w x {s with M:=(zX s.M x.D).1} x' :=
     fun x' a b c=> .quiet (by rw [eo];exact X) S' hm rfl rfl (by rw [a,eo]) (by rw [b,hh]) c
    rcases r with ⟨r1,r2⟩ | r
    ·rw [r1,if_neg (by decide),if_neg (by decide)]
     refine q _ (vC (by show x.PC≠3;omega) (by show x.PC≠4;omega) (by show x.PC≠6;omega)) ?_ ⟨fun _=>hc0,fun _=>hbt,fun e=>absurd e p0,fun _=> ?_,fun e=>by have e:x.PC=2:=e;omega,fun e=>by have e:x.PC=4:=e;omega,fun e=>by have e:x.PC=6:=e;omega⟩
     ·unfold zL
      rw [ZK (x:={x with D:=(zX s.M x.D).2}) (.inl p1)]
      show x.Batch++[]=[]
      rw [hbt];rfl
     ·show TK p (zX s.M x.D).1 _ _ _ _
      rw [hm];exact r2
    ·rw [if_neg (by omega),if_pos r,eL]
     obtain ⟨a,b,c⟩:=WX.look (p:=p) (s:={s with M:=(zX s.M x.D).1}) (gh:=gh) (w:=w) (x:={x with D:=(zX s.M x.D).2}) hc0 hbt
     refine q _ c ?_ a
     unfold zL
     rw [b,show (XW p w {x with D:=(zX s.M x.D).2}).Batch=x.Batch by unfold XW;split<;>rfl,hbt];rfl
   ·have hc:=hp.cap
    have hm': ∀a,(a<zN p x.Victim∨zN p x.Victim+p.Cap+2≤a)→ld (zX s.M x.D).1 a=ld s.M a:=fun a ha=>e5 a (by omega)
    have X':=X.dq hp S' hl hv hm' e4 (by rw [e1] at hdk;simp at hdk;omega)
    obtain ⟨h1,h2⟩:=zpP hp hv hm'
    obtain ⟨u,v,f1,f2⟩:=zlD (p:=p) (s:=s) (s':={s with M:=(zX s.M x.D).1}) (g:=gh) rfl hv (t:=gh.t x.Victim+1) (c:=gh.c x.Victim) (l:=l')
    rw [e2,if_pos rfl]
    refine ⟨XH gh x.Victim (gh.t x.Victim+1) l' (gh.c x.Victim),by rw [vC (by show (5:Int)≠3;decide) (by show (5:Int)≠4;decide) (by show (5:Int)≠6;decide)];exact X',WX.plain (.inl rfl) ?_,⟨Mv.low hp h1,fun _ _ _=>rfl,fun v' a b=> .inl ?_,fun _ h=> .inl h⟩,[],[],?_,.inl ⟨rfl,rfl,rfl⟩⟩
    ·by_cases e:w=x.Victim
     ·rw [e,ww.2.2,←e];exact hc0
     ·rw [(Z1 e).2.2];exact hc0
    ·by_cases e:v'=x.Victim
     ·subst e
      exact .stolen y ww.2.1 (by rw [ww.1];exact e1) ww.2.2 (fun a h1 _=>e5 a (by omega))
     ·exact .same (Z1 e).2.1 (Z1 e).1 (Z1 e).2.2 (h2 v' a b e)
    ·rw [f1,f2,hh,List.append_nil,List.append_nil,List.nil_append,e1]
     unfold zL
     rw [UK (.inl rfl)]
     show List.Perm (u++l'++v++(x.Batch++[(zX s.M x.D).2.X])) _
     rw [hbt,List.nil_append,e3]
     simp only [List.append_assoc]
     refine List.Perm.append_left _ ?_
     show List.Perm (l'++(v++[y])) (y::(l'++v))
     rw [←List.append_assoc]
     exact List.perm_append_comm
 rw [if_neg p01]
 have hc0:=K.c0 (by omega)
 by_cases p2:x.PC=2
 ·rw [if_pos p2]
  intro S'
  have S':SOk p nb {s with M:=(zk s.M x.C).1}:=S'
  have C:=W.c2 p2
  obtain ⟨c1,c2,c3⟩:=K.p2 p2
  have hbt:=K.bt (by omega)
  have eo:xL x=[]:=vC (by omega) (by omega) (by omega)
  have hh:zL s x=[]:=by unfold zL;rw [hbt,ZK (.inr (.inl p2))];rfl
  dsimp only
  rcases SX.popF hp X hk C.k C.h C.n c1 c2 c3 C.v S' with ⟨a,b,c,d⟩ | ⟨y,l,a,b,c,d,e⟩
  ·rw [if_neg b]
   have hout:=XR s.M c1 c2 (.inr C.k)
   by_cases o2:(zk s.M x.C).2.Out=2
   ·rw [if_pos o2,eB]
    refine .quiet X S' a rfl rfl ?_ ?_ (WX.begin hc0 hbt)
    ·rw [eo];exact vC (by show (0:Int)≠3;decide) (by show (0:Int)≠4;decide) (by show (0:Int)≠6;decide)
    ·unfold zL
     rw [zkf,show (zaJ p w {x with C:=(zk s.M x.C).2}).Batch=x.Batch from rfl]
     rw [hbt,ZK (.inr (.inl p2))]
   ·rw [if_neg o2]
    have hpc':(zk s.M x.C).2.Out=0∧0≤(zk s.M x.C).2.PC∧(zk s.M x.C).2.PC≤2:=by omega
    refine .quiet X S' a rfl rfl ?_ ?_ ⟨fun _=>hc0,fun _=>hbt,fun e=>by have e:x.PC=0:=e;omega,fun e=>by have e:x.PC=1:=e;omega,fun _=>⟨hpc'.1,hpc'.2,?_⟩,fun e=>by have e:x.PC=4:=e;omega,fun e=>by have e:x.PC=6:=e;omega⟩
    ·rw [eo];exact vC (by show x.PC≠3;omega) (by show x.PC≠4;omega) (by show x.PC≠6;omega)
    ·unfold zL
     rw [ZK (x:={x with C:=(zk s.M x.C).2}) (.inr (.inl p2)),ZK (.inr (.inl p2))]
    ·rw [show ({s with M:=(zk s.M x.C).1}:za).M=s.M from a];exact c
  ·rw [if_pos b]
   have e1:xL {x with C:=(zk s.M x.C).2,Bin:=(zk s.M x.C).2.X,PC:=3}=[y]:=by rw [←c];exact zg7 (x:={x with C:=(zk s.M x.C).2,Bin:=(zk s.M x.C).2.X,PC:=3}) (.inl rfl)
   refine ⟨{gh with F:=l},by rw [e1];rw [eo] at d;exact d,⟨fun _=>hc0,fun _=>hbt,fun e=>(by cases e),fun e=>(by cases e),fun e=>(by cases e),fun e=>(by cases e),fun e=>(by cases e)⟩,e _ _,[],[],?_,.inl ⟨rfl,rfl,rfl⟩⟩
   rw [hh,List.append_nil,List.append_nil,List.nil_append]
   unfold zL
   rw [zwC (x:={x with C:=(zk s.M x.C).2,Bin:=(zk s.M x.C).2.X,PC:=3}) rfl]
   show List.Perm (yr p s {gh with F:=l}++(x.Batch++xm s (zk s.M x.C).2.X)) _
   rw [hbt,List.nil_append,c]
   have:yr p s gh=xm s y++yr p s {gh with F:=l}:=by unfold yr;rw [a];simp [List.append_assoc]
   rw [this]
   exact List.perm_append_comm
 rw [if_neg p2]
 by_cases p3:x.PC=3
 ·rw [if_pos p3]
  intro S'
  have hb:=W.b3 p3
  have hbt:=K.bt (by omega)
  have eo:xL x=[x.Bin]:=zg7 (.inl p3)
  rw [eC]
  have e1:xL {x with Batch:=WD s x.Bin,PC:=4,C:=U5 p (zD p) x.Bin}=[x.Bin]:=zg7 (x:={x with Batch:=WD s x.Bin,PC:=4,C:=U5 p (zD p) x.Bin}) (.inr rfl)
  have hget: ∀b,1≤b→b∉xL x→(s.Bins.set x.Bin.toNat [])[b.toNat]? =s.Bins[b.toNat]? :=fun b b1 b2=>by
   rw [List.getElem?_set_ne]
   intro e
   rw [eo] at b2
   exact b2 (by rw [show b=x.Bin by omega];simp)
  refine ⟨gh,by rw [e1,←eo];exact X.quiet S' rfl,⟨fun _=>hc0,fun e=>absurd e (by show ¬(4:Int)≤3;decide),fun e=>(by cases e),fun e=>(by cases e),fun e=>(by cases e),fun _=>⟨rfl,⟨by show (0:Int)≤0;decide,by show (0:Int)≤2;decide⟩,rfl,CK.start⟩,fun e=>(by cases e)⟩,FX.quiet rfl hget,[],[],?_,.inl ⟨rfl,rfl,rfl⟩⟩
  have hbag:yr p {s with Bins:=s.Bins.set x.Bin.toNat []} gh=yr p s gh:=by
   unfold yr
   congr 1
   refine wZ (fun b hb=> ?_)
   have hm:=X.L.cF.mem b hb
   have hno:=(X.L.notF (x:=x.Bin) (by rw [eo];simp)).1
   unfold xm
   rw [show ({s with Bins:=s.Bins.set x.Bin.toNat []}:za).Bins=s.Bins.set x.Bin.toNat [] from rfl,hget b hm.1 (by rw [eo];intro e;rw [List.mem_singleton.1 e] at hb;exact hno hb)]
  rw [hbag,List.append_nil,List.nil_append]
  unfold zL
  rw [zwC p3,ZK (x:={x with Batch:=WD s x.Bin,PC:=4,C:=U5 p (zD p) x.Bin}) (.inr (.inr (.inl rfl)))]
  show List.Perm (yr p s gh++(WD s x.Bin++[])) _
  rw [hbt,List.append_nil,List.nil_append,zsU]
 rw [if_neg p3]
 by_cases p4:x.PC=4
 ·rw [if_pos p4]
  intro S'
  have S':SOk p nb {s with M:=(zk s.M x.C).1}:=S'
  have C:=W.c4 p4
  obtain ⟨c1,c2,c3,c4⟩:=K.p4 p4
  have eo:xL x=[x.Bin]:=zg7 (.inr p4)
  have hh:zL s x=x.Batch:=by unfold zL;rw [ZK (.inr (.inr (.inl p4))),List.append_nil]
  rw [eo] at X
  dsimp only
  rcases SX.pushE hp (o1:=[]) (o2:=R) (b:=x.Bin) X hk C.k C.h C.n c3 c1 c2 c4 C.v S' with ⟨a,b,c,d⟩ | ⟨a,b,d⟩
  ·rw [a,if_neg (by decide)]
   have hout:=XR s.M c1 c2 (.inl C.k)
   have hsame:=ziz s.M x.C
   have hpc':0≤(zk s.M x.C).2.PC∧(zk s.M x.C).2.PC≤2:=by omega
   have e1:xL {x with C:=(zk s.M x.C).2}=[x.Bin]:=zg7 (x:={x with C:=(zk s.M x.C).2}) (.inr p4)
   refine ⟨gh,by rw [e1];exact b,⟨fun _=>hc0,fun e=>by have e:x.PC≤3:=e;omega,fun e=>by have e:x.PC=0:=e;omega,fun e=>by have e:x.PC=1:=e;omega,fun e=>by have e:x.PC=2:=e;omega,fun _=>⟨a,hpc',(hsame.2.2.2 C.k).trans c3,c⟩,fun e=>by have e:x.PC=6:=e;omega⟩,by rw [eo];exact d _ _ (by simp),[],[],?_,.inl ⟨rfl,rfl,rfl⟩⟩
   rw [Zt rfl,hh,List.append_nil]
   unfold zL
   rw [ZK (x:={x with C:=(zk s.M x.C).2}) (.inr (.inr (.inl p4))),List.append_nil]
   exact List.Perm.refl _
  ·rw [a,if_pos rfl]
   refine ⟨{gh with E:=x.Bin::gh.E},by rw [vC (by show (7:Int)≠3;decide) (by show (7:Int)≠4;decide) (by show (7:Int)≠6;decide)];exact b,WX.plain (.inr (.inl rfl)) hc0,by rw [eo];exact d _ _,[],[],?_,.inl ⟨rfl,rfl,rfl⟩⟩
   rw [hh,List.append_nil]
   unfold zL
   rw [ZK (.inr (.inr (.inr (.inl rfl)))),List.append_nil]
   exact List.Perm.refl _
 rw [if_neg p4]
 by_cases p5:x.PC=5
 ·rw [if_pos p5]
  intro S'
  have eo:xL x=[]:=vC (by omega) (by omega) (by omega)
  have hv:=hH x.Obj x.Slot
  dsimp only
  split
  ·rcases zlK s (wc (x.Slot+1)) with e | e<;>rw [e]
   ·refine .quiet X S' rfl rfl rfl (by rw [eo];exact vC (by show (5:Int)≠3;decide) (by show (5:Int)≠4;decide) (by show (5:Int)≠6;decide)) ?_ (WX.plain (.inl rfl) hc0)
    unfold zL
    rw [UK (.inl p5),UK (.inl rfl)]
   ·refine .quiet X S' rfl rfl rfl (by rw [eo];exact vC (by show (8:Int)≠3;decide) (by show (8:Int)≠4;decide) (by show (8:Int)≠6;decide)) ?_ (WX.plain (.inr (.inr (.inl rfl))) hc0)
    unfold zL
    rw [UK (.inl p5),UK (.inr rfl)]
  ·rename_i hne
   have e0:(Ym 1 (xU s.H x.Obj x.Slot) w).PC=0:=rfl
   refine .quiet X S' rfl rfl rfl ?_ ?_ ⟨fun _=>hc0,fun e=>absurd e (by show ¬(6:Int)≤3;decide),fun e=>(by cases e),fun e=>(by cases e),fun e=>(by cases e),fun e=>(by cases e),fun _=>⟨GX.plain (.inl rfl) ⟨by show (0:Int)≤0;decide,by show (0:Int)≤7;decide⟩ ⟨by show (1:Int)≤1;decide,by show (1:Int)≤3;decide⟩ ⟨by show 1≤xU s.H x.Obj x.Slot;omega,hv.2⟩ (fun _ _=>hc0) (.inr ⟨by show (0:Int)≠3;decide,by show (0:Int)≠5;decide,by show (0:Int)≠7;decide⟩),rfl,rfl,rfl⟩⟩
   ·rw [eo,zsG (x:={x with Slot:=wc (x.Slot+1),PC:=6,G:=Ym 1 (xU s.H x.Obj x.Slot) w}) rfl]
    exact wU (.inr ⟨by show (0:Int)≠6;decide,by show (0:Int)≠7;decide⟩)
   ·unfold zL
    rw [UK (.inl p5),zs2 (x:={x with Slot:=wc (x.Slot+1),PC:=6,G:=Ym 1 (xU s.H x.Obj x.Slot) w}) rfl]
    rw [uO (g:=Ym 1 (xU s.H x.Obj x.Slot) w) (.inr (.inl (by show (0:Int)<3;decide)))]
 rw [if_neg p5]
 by_cases p6:x.PC=6
 ·rw [if_pos p6]
  intro S'
  obtain ⟨G,gm,gw,g0⟩:=K.p6 p6
  obtain ⟨M,h5o,_,hn4⟩:=W.g6 p6
  have eo:xL x=xI x.G:=zsG p6
  have hh:zL s x=x.Batch++x.Obj::yI x.G:=by unfold zL;rw [zs2 p6]
  rw [eo] at X
  obtain ⟨gh',X',G',Fx,hc',hFb,N,hN,hT⟩:=zu0 hp hk X M h5o G
  have so:=Vy s x.G
  have Fx':FX p nb (xL x) (fun v=>v=w) s (zu s x.G).1 gh gh':=by
   rw [eo]
   exact Fx.mono (fun v e=>e.2.trans gw)
  have hcw:gh'.c w=0:=by have:=hc' gm g0;rwa [gw] at this
  dsimp only
  have hT':(N=[]∧([]:List Int)=[]∧(zu s x.G).1.T=s.T)∨(N=[x.G.Obj]∧([]:List Int)=[]∧x.PC=6∧¬(s.T.Marks|||bit x.G.Obj=s.T.Marks)∧(zu s x.G).1.T={s.T with Marks:=s.T.Marks|||bit x.G.Obj})∨(N=[]∧([]:List Int)=[x.Obj]∧x.PC=8∧(zu s x.G).1.T=ue s.T x.Obj):=by
   rcases hT with ⟨a,b⟩ | ⟨a,b,c⟩
   ·exact .inl ⟨a,rfl,b⟩
   ·exact .inr (.inl ⟨a,rfl,p6,b,c⟩)
  have perm: ∀H':List Int,H'=x.Batch++x.Obj::yI (zu s x.G).2→List.Perm (yr p (zu s x.G).1 gh'++H'++[]) (N++(yr p s gh++zL s x)):=by
   intro H' e
   rw [e,hh,List.append_nil]
   have a1:List.Perm (yr p (zu s x.G).1 gh'++(x.Batch++x.Obj::yI (zu s x.G).2)) ((x.Batch++[x.Obj])++(yr p (zu s x.G).1 gh'++yI (zu s x.G).2)):=by
    rw [show x.Batch++x.Obj::yI (zu s x.G).2=(x.Batch++[x.Obj])++yI (zu s x.G).2 by simp]
    exact List.perm_append_comm_assoc _ _ _
   have a2:List.Perm (N++(yr p s gh++(x.Batch++x.Obj::yI x.G))) ((x.Batch++[x.Obj])++(N++(yr p s gh++yI x.G))):=by
    rw [show x.Batch++x.Obj::yI x.G=(x.Batch++[x.Obj])++yI x.G by simp]
    exact (List.Perm.append_left N (List.perm_append_comm_assoc _ _ _)).trans (List.perm_append_comm_assoc _ _ _)
   exact a1.trans ((List.Perm.append_left _ hN).trans a2.symm)
  split
  ·rename_i o1
   have n1:xI (zu s x.G).2=[]:=wU (.inl (by omega))
   have n2:yI (zu s x.G).2=[]:=uO (.inl (by omega))
   rw [n1] at X'
   rcases zlK s x.Slot with e | e<;>rw [e]
   ·refine ⟨gh',by rw [vC (by show (5:Int)≠3;decide) (by show (5:Int)≠4;decide) (by show (5:Int)≠6;decide)];exact X',WX.plain (.inl rfl) hcw,Fx',N,[],perm _ ?_,hT'⟩
    unfold zL;rw [UK (.inl rfl),n2]
   ·refine ⟨gh',by rw [vC (by show (8:Int)≠3;decide) (by show (8:Int)≠4;decide) (by show (8:Int)≠6;decide)];exact X',WX.plain (.inr (.inr (.inl rfl))) hcw,Fx',N,[],perm _ ?_,hT'⟩
    unfold zL;rw [UK (.inr rfl),n2]
  ·rename_i o1
   have o0:(zu s x.G).2.Out=0:=by have:=G'.o;omega
   refine ⟨gh',by rw [zsG (x:={x with G:=(zu s x.G).2}) p6];exact X',⟨fun _=>hcw,fun e=>by have e:x.PC≤3:=e;omega,fun e=>by have e:x.PC=0:=e;omega,fun e=>by have e:x.PC=1:=e;omega,fun e=>by have e:x.PC=2:=e;omega,fun e=>by have e:x.PC=4:=e;omega,fun _=>⟨G',so.2.2.trans gm,so.2.1.trans gw,o0⟩⟩,Fx',N,[],perm _ ?_,hT'⟩
   unfold zL;rw [zs2 (x:={x with G:=(zu s x.G).2}) p6]
 rw [if_neg p6]
 have eo:xL x=[]:=vC (by omega) (by omega) (by omega)
 by_cases p7:x.PC=7
 ·rw [if_pos p7]
  intro S'
  dsimp only
  split
  ·rename_i hb
   rw [eB]
   refine .quiet X S' rfl rfl rfl (by rw [eo];exact vC (by show (0:Int)≠3;decide) (by show (0:Int)≠4;decide) (by show (0:Int)≠6;decide)) ?_ (WX.begin hc0 hb)
   unfold zL
   rw [zkf,ZK (.inr (.inr (.inr (.inl p7))))]
   exact List.Perm.refl _
  ·rename_i o l hb
   refine .quiet X S' rfl rfl rfl (by rw [eo];exact vC (by show (5:Int)≠3;decide) (by show (5:Int)≠4;decide) (by show (5:Int)≠6;decide)) ?_ (WX.plain (.inl rfl) hc0)
   unfold zL
   rw [UK (.inl rfl),ZK (.inr (.inr (.inr (.inl p7)))),hb,List.append_nil]
   exact List.perm_append_comm
 rw [if_neg p7]
 by_cases p8:x.PC=8
 ·rw [if_pos p8]
  intro S'
  refine ⟨gh,by rw [vC (by show (9:Int)≠3;decide) (by show (9:Int)≠4;decide) (by show (9:Int)≠6;decide)];rw [eo] at X;exact X.quiet S' rfl,WX.plain (.inr (.inr (.inr rfl))) hc0,FX.quiet rfl (fun _ _ _=>rfl),[],[x.Obj],?_,.inr (.inr ⟨rfl,rfl,p8,rfl⟩)⟩
  rw [Zt rfl,List.nil_append]
  unfold zL
  rw [UK (.inr p8),ZK (.inr (.inr (.inr (.inr rfl)))),List.append_nil,List.append_assoc]
  exact List.Perm.refl _
 rw [if_neg p8]
 have p9:x.PC=9:=by omega
 rw [if_pos p9]
 intro S'
 refine .quiet X S' rfl rfl rfl (by rw [eo];exact vC (by show (7:Int)≠3;decide) (by show (7:Int)≠4;decide) (by show (7:Int)≠6;decide)) ?_ (WX.plain (.inr (.inl rfl)) hc0)
 unfold zL
 rw [ZK (.inr (.inr (.inr (.inr p9)))),ZK (.inr (.inr (.inr (.inl rfl))))]
theorem zxP (s:za) (w:Int) (x:zg) (h:(zo s w x).2.PC=6):(x.PC=6∧(zo s w x).2.G.Obj=x.G.Obj)∨(x.PC=5∧(zo s w x).2.G.Obj=xU s.H x.Obj x.Slot):=by
 revert h
 have hon: ∀i,onW s i≠6:=fun i e=>by rcases zlK s i with h | h<;>omega
 have hlk: ∀y:zg,(XW s.P w y).PC≠6:=fun y e=>by unfold XW at e;split at e<;>cases e
 unfold zo
 split
 ·rename_i h0
  dsimp only
  split
  ·exact fun e=>by cases e
  split
  ·exact fun e=>absurd e (hlk _)
  ·exact fun e=>by have e:x.PC=6:=e;omega
 split
 ·dsimp only
  split
  ·exact fun e=>by cases e
  split
  ·exact fun e=>by cases e
  ·exact fun e=>by have e:x.PC=6:=e;omega
 split
 ·exact fun e=>by cases e
 split
 ·dsimp only
  split
  ·exact fun e=>by cases e
  ·exact fun e=>by have e:x.PC=6:=e;omega
 split
 ·rename_i h5
  dsimp only
  split
  ·exact fun e=>absurd e (hon _)
  ·exact fun _=> .inr ⟨h5,rfl⟩
 split
 ·rename_i h6
  dsimp only
  split
  ·exact fun e=>absurd e (hon _)
  ·exact fun _=> .inl ⟨h6,(Vy s x.G).1⟩
 split
 ·dsimp only
  split
  ·exact fun e=>by cases e
  ·exact fun e=>by cases e
 split
 ·exact fun e=>by cases e
 split
 ·exact fun e=>by cases e
 ·exact fun e=> .inl ⟨e,rfl⟩
end
end Go.Pe.G
namespace Go.Pe.G
open Go.Pe
noncomputable section
def ve (x:zc):List Int:=if x.PC=33∨x.PC=34 then [x.Bin] else if x.PC=3∨x.PC=37 then xI x.G else []
def za7 (s:za) (x:zc):List Int:=if x.PC=33 then xm s x.Bin else if x.PC=36∨x.PC=38 then [x.Obj] else if x.PC=37 then x.Obj::yI x.G else if x.PC=3 then yI x.G else []
def yf (s:za) (x:zc):List Int:=x.Batch++za7 s x
structure MX (p:zb) (s:za) (gh:Gh) (x:zc):Prop where
 bt:x.PC≤33→x.Batch=[]
 bf: ∀v∈x.Buf,1≤v∧v≤64
 ol:(x.PC=21→0≤x.Old∧x.Old≤64)∧(x.PC=22∨((x.PC=1∨x.PC=3)∧x.Ret=22)→1≤x.Old∧x.Old≤64)
 p3:x.PC=3→GX p s gh x.G∧x.G.Mode=2∧x.G.Out=0
 p32:x.PC=32→x.C.Out=0∧(0≤x.C.PC∧x.C.PC≤2)∧CK p s.M x.C
 p34:x.PC=34→x.C.Out=0∧(0≤x.C.PC∧x.C.PC≤2)∧x.C.X=x.Bin∧CK p s.M x.C
 p37:x.PC=37→GX p s gh x.G∧x.G.Mode=3∧x.G.Out=0
theorem MX.plain {p:zb} {s:za} {gh:Gh} {x:zc} (h:x.PC≠3∧x.PC≠32∧x.PC≠34∧x.PC≠37) (bt:x.PC≤33→x.Batch=[]) (bf: ∀v∈x.Buf,1≤v∧v≤64)
  (ol:(x.PC=21→0≤x.Old∧x.Old≤64)∧(x.PC=22∨((x.PC=1∨x.PC=3)∧x.Ret=22)→1≤x.Old∧x.Old≤64)):MX p s gh x :=
 ⟨bt,bf,ol,fun e=>by omega,fun e=>by omega,fun e=>by omega,fun e=>by omega⟩
theorem vi {x:zc} (h:x.PC≠3∧x.PC≠33∧x.PC≠34∧x.PC≠37):ve x=[]:=by unfold ve;rw [if_neg (by omega),if_neg (by omega)]
theorem za2 {x:zc} (h:x.PC=33∨x.PC=34):ve x=[x.Bin]:=by unfold ve;rw [if_pos h]
theorem zcE {x:zc} (h:x.PC=3∨x.PC=37):ve x=xI x.G:=by unfold ve;rw [if_neg (by omega),if_pos h]
theorem um {s:za} {x:zc} (h:x.PC≠3∧x.PC≠33∧x.PC≠36∧x.PC≠37∧x.PC≠38):za7 s x=[]:=by unfold za7;rw [if_neg (by omega),if_neg (by omega),if_neg (by omega),if_neg (by omega)]
theorem zmy {s:za} {x:zc} (h:x.PC=33):za7 s x=xm s x.Bin:=by unfold za7;rw [if_pos h]
theorem zbW {s:za} {x:zc} (h:x.PC=36∨x.PC=38):za7 s x=[x.Obj]:=by unfold za7;rw [if_neg (by omega),if_pos h]
theorem zpB {s:za} {x:zc} (h:x.PC=37):za7 s x=x.Obj::yI x.G:=by unfold za7;rw [if_neg (by omega),if_neg (by omega),if_pos h]
theorem zlS {s:za} {x:zc} (h:x.PC=3):za7 s x=yI x.G:=by unfold za7;rw [if_neg (by omega),if_neg (by omega),if_neg (by omega),if_pos h]
theorem MX.other {p:zb} (hp:zE p) {nb k:Nat} {s s':za} {gh gh':Gh} {X R:List Int} {O:Int→Prop} {m:Int} {x:zc} (Y:SX p nb s gh (X++R) k) (Fx:FX p nb X O s s' gh gh') (K:MX p s gh x) (W:XOk p nb m x)
  (hR: ∀b∈ve x,b∈R):MX p s' gh' x∧yf s' x=yf s x:=by
 have hsub: ∀b∈X,b∈X++R:=fun b hb=>List.mem_append_left _ hb
 have hnd:=(List.nodup_append.1 Y.L.nodup).2.1
 have hnot: ∀b,b∈ve x→b∉X:=fun b hb hg=>(List.nodup_append.1 hnd).2.2 b hg b (hR b hb) rfl
 refine ⟨⟨K.bt,K.bf,K.ol,fun e=> ?_,fun e=> ?_,fun e=> ?_,fun e=> ?_⟩,?_⟩
 ·obtain ⟨a,b,c⟩:=K.p3 e
  obtain ⟨M,_,_⟩:=W.g (.inl e)
  exact ⟨a.other hp Y Fx M (fun y hy=>hR y (by rw [zcE (.inl e)];exact hy)) (fun e2=>by omega),b,c⟩
 ·obtain ⟨a,b,c⟩:=K.p32 e
  have C:=W.c32 e
  exact ⟨a,b,c.mv Y.L Fx.mv hsub (.inl C.h) (fun h _=>C.v h) (fun e2=>by have:=C.k;omega)⟩
 ·obtain ⟨a,b,c,d⟩:=K.p34 e
  have C:=W.c34 e
  have hno:=hnot x.Bin (by rw [za2 (.inr e)];simp)
  exact ⟨a,b,c,d.mv Y.L Fx.mv hsub (.inr C.h) (fun _ e2=>by have:=C.k;omega) (fun _=>⟨C.x.1,C.x.2,by rw [c];exact hno⟩)⟩
 ·obtain ⟨a,b,c⟩:=K.p37 e
  obtain ⟨M,_,_⟩:=W.g (.inr e)
  exact ⟨a.other hp Y Fx M (fun y hy=>hR y (by rw [zcE (.inr e)];exact hy)) (fun e2=>by omega),b,c⟩
 ·unfold yf
  congr 1
  by_cases e3:x.PC=33
  ·rw [zmy e3,zmy e3]
   have hb:=W.b33 e3
   have hno:=hnot x.Bin (by rw [za2 (.inl e3)];simp)
   unfold xm
   rw [Fx.bn x.Bin hb.1 hno]
  ·unfold za7
   rw [if_neg e3,if_neg e3]
def zdA (p:zb) (nb k:Nat) (R:List Int) (gh:Gh) (s:za) (x:zc) (s':za) (x':zc):Prop :=
 ∃gh',SX p nb s' gh' (ve x'++R) (k+1)∧MX p s' gh' x'∧FX p nb (ve x) (fun _=>False) s s' gh gh' ∧
  ∃N B,List.Perm (yr p s' gh'++yf s' x'++B) (N++(yr p s gh++yf s x)) ∧
   ((N=[]∧B=[]∧s'.T=s.T)∨(N=[x.G.Obj]∧B=[]∧(x.PC=3∨x.PC=37)∧¬(s.T.Marks|||bit x.G.Obj=s.T.Marks)∧s'.T={s.T with Marks:=s.T.Marks|||bit x.G.Obj})∨(N=[]∧B=[x.Obj]∧x.PC=38∧s'.T=ue s.T x.Obj) ∨
    (N=[]∧B=[]∧x.PC=30∧X6 s.H s.P.Most=true∧s'.H=ZZ s.H∧s'.T=VY s.T (wc (s.H.Objs.length+1))))
theorem zdA.quiet {p:zb} {nb k:Nat} {R:List Int} {gh:Gh} {s s':za} {x x':zc} (X:SX p nb s gh (ve x++R) k) (S':SOk p nb s') (hm:s'.M=s.M) (hb:s'.Bins=s.Bins) (hT:s'.T=s.T)
  (ho:ve x'=ve x) (hh:List.Perm (yf s' x') (yf s x)) (W':MX p s' gh x'):zdA p nb k R gh s x s' x' :=
 ⟨gh,by rw [ho];exact X.quiet S' hm,W',FX.quiet hm (fun _ _ _=>by rw [hb]),[],[],by rw [Zt hb,List.append_nil];exact List.Perm.append_left _ hh,.inl ⟨rfl,rfl,hT⟩⟩
theorem zdA.calm {p:zb} {nb k:Nat} {R:List Int} {gh:Gh} {s s':za} {x x':zc} (X:SX p nb s gh (ve x++R) k) (S':SOk p nb s') (hm:s'.M=s.M) (hb:s'.Bins=s.Bins) (hT:s'.T=s.T)
  (h:x.PC≠3∧x.PC≠33∧x.PC≠34∧x.PC≠36∧x.PC≠37∧x.PC≠38) (h':x'.PC≠3∧x'.PC≠32∧x'.PC≠33∧x'.PC≠34∧x'.PC≠36∧x'.PC≠37∧x'.PC≠38) (eb:x'.Batch=x.Batch)
  (bt:x'.PC≤33→x'.Batch=[]) (bf: ∀v∈x'.Buf,1≤v∧v≤64) (ol:(x'.PC=21→0≤x'.Old∧x'.Old≤64)∧(x'.PC=22∨((x'.PC=1∨x'.PC=3)∧x'.Ret=22)→1≤x'.Old∧x'.Old≤64)):zdA p nb k R gh s x s' x':=by
 refine .quiet X S' hm hb hT ?_ ?_ (MX.plain (by omega) bt bf ol)
 ·rw [vi (by omega),vi (by omega)]
 ·unfold yf
  rw [um (by omega),um (by omega),eb]
theorem zop {p:zb} {s:za} {gh:Gh} {md o w:Int} (hmd:md=2∨md=3) (ho:1≤o∧o≤64):GX p s gh (Ym md o w)∧(Ym md o w).Mode=md∧(Ym md o w).Out=0∧xI (Ym md o w)=[]∧yI (Ym md o w)=[]:=by
 refine ⟨GX.plain (.inl rfl) ⟨by show (0:Int)≤0;decide,by show (0:Int)≤7;decide⟩ ⟨by show 1≤md;omega,by show md≤3;omega⟩ ho (fun e=>by have e:md=1:=e;omega) (.inr ⟨by show (0:Int)≠3;decide,by show (0:Int)≠5;decide,by show (0:Int)≠7;decide⟩),rfl,rfl,
  wU (.inr ⟨by show (0:Int)≠6;decide,by show (0:Int)≠7;decide⟩),uO (.inr (.inl (by show (0:Int)<3;decide)))⟩
theorem zzz {p:zb} (hp:zE p) {nb k:Nat} {R:List Int} {gh:Gh} {s:za} {m:Int} {x:zc} (hk:k<4294960000) (X:SX p nb s gh (ve x++R) k) (W:XOk p nb m x) (K:MX p s gh x) (hpl:((yz p m).length:Int)≤64)
  (hH: ∀o i,0≤xU s.H o i∧xU s.H o i≤64):zdA p nb k R gh s x (zm s m x).1 (zm s m x).2:=by
 have S':=(zvP hp hpl X.S W).1
 have hP:=X.S.P
 have eC:U5 s.P (zD s.P) x.Bin=U5 p (zD p) x.Bin:=by rw [hP]
 have hbf:=K.bf
 have hol:=K.ol
 revert S'
 refine uw (motive:=fun r=>SOk p nb r.1→zdA p nb k R gh s x r.1 r.2) s m x ?_ ?_ ?_ ?_ ?_ ?_ ?_ ?_ ?_ ?_ ?_ ?_ ?_ ?_ ?_ ?_ ?_ ?_ ?_ ?_
 ·intro c;unfold mu0 zaA;dsimp only
  have hbt:=K.bt (by omega)
  repeat' split
  all_goals (intro S')
  all_goals (refine .calm X S' rfl rfl rfl (by omega) (by (try dsimp only [setM]);omega) rfl (fun _=>hbt) hbf ⟨fun e=> ?_,fun e=> ?_⟩<;>((try dsimp only [setM] at e);omega))
 ·intro c;unfold mu1;dsimp only
  have hbt:=K.bt (by omega)
  have hrt:=W.ret (.inl c)
  split
  ·intro S'
   exact .calm X S' rfl rfl rfl (by omega) (by dsimp only;omega) rfl (fun _=>hbt) hbf ⟨fun e=>by dsimp only at e;omega,fun e=>by dsimp only at e ⊢;exact hol.2 (by omega)⟩
  ·rename_i hl
   intro S'
   have hv:1≤x.Buf.getD (x.Buf.length-1) 0∧x.Buf.getD (x.Buf.length-1) 0≤64:=by
    rw [List.getD_eq_getElem?_getD,List.getElem?_eq_getElem (show x.Buf.length-1<x.Buf.length by omega)]
    exact hbf _ (List.getElem_mem _)
   obtain ⟨g1,g2,g3,g4,g5⟩:=zop (p:=p) (s:=s) (gh:=gh) (w:=m) (.inl rfl) hv
   refine .quiet X S' rfl rfl rfl ?_ ?_ ⟨fun _=>hbt,fun v hv=>hbf v (List.mem_of_mem_take hv),⟨fun e=>(by cases e),fun e=> ?_⟩,fun _=>⟨g1,g2,g3⟩,fun e=>(by cases e),fun e=>(by cases e),fun e=>(by cases e)⟩
   ·rw [vi (x:=x) (by omega),zcE (.inl rfl)];exact g4
   ·unfold yf
    rw [um (x:=x) (by omega),zlS rfl]
    show List.Perm (x.Batch++yI (Ym 2 (x.Buf.getD (x.Buf.length-1) 0) m)) _
    rw [g5]
   ·rcases e with e | e
    ·cases e
    ·exact hol.2 (.inr ⟨.inl c,e.2⟩)
 ·intro c S';unfold mu2 at S' ⊢
  exact .calm X S' rfl rfl rfl (by omega) (by dsimp only;omega) rfl (fun _=>K.bt (by omega)) hbf ⟨fun e=>by dsimp only at e;omega,fun e=>by dsimp only at e;omega⟩
 ·intro c;unfold mu3;dsimp only
  have hbt:=K.bt (by omega)
  obtain ⟨G,gm,g0⟩:=K.p3 c
  obtain ⟨M,h5o,hn1⟩:=W.g (.inl c)
  have eo:ve x=xI x.G:=zcE (.inl c)
  have hh:yf s x=yI x.G:=by unfold yf;rw [zlS c,hbt,List.nil_append]
  rw [eo] at X
  obtain ⟨gh',X',G',Fx,hc',hFb,N,hN,hT⟩:=zu0 hp hk X M h5o G
  have so:=Vy s x.G
  have Fx':FX p nb (ve x) (fun _=>False) s (zu s x.G).1 gh gh':=by rw [eo];exact Fx.mono (fun v e=>by have:=e.1;omega)
  have hT':(N=[]∧([]:List Int)=[]∧(zu s x.G).1.T=s.T)∨(N=[x.G.Obj]∧([]:List Int)=[]∧(x.PC=3∨x.PC=37)∧¬(s.T.Marks|||bit x.G.Obj=s.T.Marks)∧(zu s x.G).1.T={s.T with Marks:=s.T.Marks|||bit x.G.Obj}):=by
   rcases hT with ⟨a,b⟩ | ⟨a,b,c'⟩
   ·exact .inl ⟨a,rfl,b⟩
   ·exact .inr ⟨a,rfl,.inl c,b,c'⟩
  split
  ·rename_i o1
   intro S'
   have n1:xI (zu s x.G).2=[]:=wU (.inl (by omega))
   have n2:yI (zu s x.G).2=[]:=uO (.inl (by omega))
   rw [n1] at X'
   refine ⟨gh',by rw [vi (by dsimp only;omega)];exact X',MX.plain (by dsimp only;omega) (fun _=>hbt) hbf ⟨fun e=>(by cases e),fun e=> ?_⟩,Fx',N,[],?_,hT'.elim .inl (fun h=> .inr (.inl h))⟩
   ·rcases e with e | e
    ·cases e
    ·exact hol.2 (.inr ⟨.inr c,e.2⟩)
   ·unfold yf
    rw [um (by dsimp only;omega),List.append_nil,List.append_nil]
    rw [n2,List.append_nil] at hN
    show List.Perm (yr p (zu s x.G).1 gh'++x.Batch) (N++(yr p s gh++(x.Batch++za7 s x)))
    rw [hbt,zlS c,List.append_nil,List.nil_append]
    exact hN
  ·rename_i o1
   intro S'
   have o0:(zu s x.G).2.Out=0:=by have:=G'.o;omega
   refine ⟨gh',by rw [zcE (x:={x with G:=(zu s x.G).2}) (.inl c)];exact X',⟨fun _=>hbt,hbf,hol,fun _=>⟨G',so.2.2.trans gm,o0⟩,fun e=>by have e:x.PC=32:=e;omega,fun e=>by have e:x.PC=34:=e;omega,fun e=>by have e:x.PC=37:=e;omega⟩,Fx',N,[],?_,hT'.elim .inl (fun h=> .inr (.inl h))⟩
   unfold yf
   rw [zlS (x:={x with G:=(zu s x.G).2}) c,List.append_nil]
   show List.Perm (yr p (zu s x.G).1 gh'++(x.Batch++yI (zu s x.G).2)) (N++(yr p s gh++(x.Batch++za7 s x)))
   rw [hbt,zlS c,List.nil_append,List.nil_append]
   exact hN
 ·intro c S';unfold zeN at S' ⊢
  exact .calm X S' rfl rfl rfl (by omega) (by dsimp only [setM];omega) rfl (fun _=>K.bt (by omega)) hbf ⟨fun e=>by dsimp only [setM] at e;omega,fun e=>by dsimp only [setM] at e;omega⟩
 ·intro c;unfold zfb;dsimp only
  have hbt:=K.bt (by omega)
  split
  ·intro S'
   exact .calm X S' rfl rfl rfl (by omega) (by dsimp only [Vt];omega) rfl (fun _=>hbt) hbf ⟨fun e=>by dsimp only [Vt] at e;omega,fun e=>by dsimp only [Vt] at e;omega⟩
  ·intro S'
   exact .calm X S' rfl rfl rfl (by omega) (by dsimp only;omega) rfl (fun _=>hbt) hbf ⟨fun _=>hH _ _,fun e=>by dsimp only at e;omega⟩
 ·intro c;unfold zeQ;dsimp only
  have hbt:=K.bt (by omega)
  have h21:=hol.1 c
  split
  ·intro S'
   exact .calm X S' rfl rfl rfl (by omega) (by dsimp only;omega) rfl (fun _=>hbt) hbf ⟨fun e=>by dsimp only at e;omega,fun e=>by dsimp only at e;omega⟩
  ·rename_i hn
   intro S'
   have: ¬x.Old=0:=fun e=>hn (.inl e)
   exact .calm X S' rfl rfl rfl (by omega) (by dsimp only;omega) rfl (fun _=>hbt) hbf ⟨fun e=>by dsimp only at e;omega,fun e=>by dsimp only;omega⟩
 ·intro c;unfold ze2;dsimp only
  have hbt:=K.bt (by omega)
  have h22:=hol.2 (.inl c)
  split
  ·intro S'
   exact .calm X S' rfl rfl rfl (by omega) (by dsimp only;omega) rfl (fun _=>hbt) hbf ⟨fun e=>by dsimp only at e;omega,fun e=>h22⟩
  ·intro S'
   refine .calm X S' rfl rfl rfl (by omega) (by dsimp only;omega) rfl (fun _=>hbt) (fun v hv=> ?_) ⟨fun e=>by dsimp only at e;omega,fun e=>by dsimp only at e;omega⟩
   rcases List.mem_append.1 hv with h | h
   ·exact hbf v h
   ·rw [List.mem_singleton.1 h];exact h22
 ·intro c S';unfold zeV at S' ⊢
  exact .calm X S' rfl rfl rfl (by omega) (by dsimp only [Vt];omega) rfl (fun _=>K.bt (by omega)) hbf ⟨fun e=>by dsimp only [Vt] at e;omega,fun e=>by dsimp only [Vt] at e;omega⟩
 ·intro c;unfold zbN
  have hbt:=K.bt (by omega)
  split
  ·split
   ·rename_i h1 h2
    intro S'
    refine ⟨gh,by rw [vi (by dsimp only [setM];omega)];rw [vi (x:=x) (by omega)] at X;exact X.quiet S' rfl,MX.plain (by dsimp only [setM];omega) (fun _=>hbt) hbf ⟨fun e=>by dsimp only [setM] at e;omega,fun e=>by dsimp only [setM] at e;omega⟩,FX.quiet rfl (fun _ _ _=>rfl),[],[],?_,.inr (.inr (.inr ⟨rfl,rfl,c,h2,rfl,rfl⟩))⟩
    rw [Zt rfl,List.append_nil,List.nil_append]
    unfold yf
    rw [um (by dsimp only [setM];omega),um (x:=x) (by omega)]
    exact List.Perm.refl _
   ·intro S'
    exact .calm X S' rfl rfl rfl (by omega) (by dsimp only [Vt];omega) rfl (fun _=>hbt) hbf ⟨fun e=>by dsimp only [Vt] at e;omega,fun e=>by dsimp only [Vt] at e;omega⟩
  ·intro S'
   exact .calm X S' rfl rfl rfl (by omega) (by dsimp only;omega) rfl (fun _=>hbt) hbf ⟨fun e=>by dsimp only at e;omega,fun e=>by dsimp only at e;omega⟩
 ·intro c;unfold zj8;dsimp only
  have hbt:=K.bt (by omega)
  split
  ·intro S'
   refine .quiet X S' rfl rfl rfl (by rw [vi (by dsimp only;omega),vi (x:=x) (by omega)]) ?_ ⟨fun _=>hbt,hbf,⟨fun e=>by dsimp only at e;omega,fun e=>by dsimp only at e;omega⟩,fun e=>by dsimp only at e;omega,fun _=>⟨rfl,⟨by show (0:Int)≤0;decide,by show (0:Int)≤2;decide⟩,by show CK p s.M (zvp s.P (z7 s.P) x.Bin);rw [hP];exact CK.start⟩,fun e=>by dsimp only at e;omega,fun e=>by dsimp only at e;omega⟩
   unfold yf
   rw [um (by dsimp only;omega),um (x:=x) (by omega)]
  ·intro S'
   exact .calm X S' rfl rfl rfl (by omega) (by dsimp only;omega) rfl (fun _=>hbt) hbf ⟨fun e=>by dsimp only at e;omega,fun e=>by dsimp only at e;omega⟩
 ·intro c;unfold zky;dsimp only
  have C:=W.c32 c
  obtain ⟨c1,c2,c3⟩:=K.p32 c
  have hbt:=K.bt (by omega)
  have eo:ve x=[]:=vi (by omega)
  have hh:yf s x=[]:=by unfold yf;rw [hbt,um (by omega)];rfl
  have nn: ∀e:x.PC=21,False:=fun e=>by omega
  intro S'
  have S':SOk p nb {s with M:=(zk s.M x.C).1}:=S'
  rcases SX.popF hp X hk C.k C.h C.n c1 c2 c3 C.v S' with ⟨a,b,cc,d⟩ | ⟨y,l,a,b,cc,d,e⟩
  ·rw [if_neg b]
   have hout:=XR s.M c1 c2 (.inr C.k)
   by_cases o2:(zk s.M x.C).2.Out=2
   ·rw [if_pos o2]
    exact .calm X S' a rfl rfl (by omega) (by dsimp only;omega) rfl (fun _=>hbt) hbf ⟨fun e=>by dsimp only at e;omega,fun e=>by dsimp only at e;omega⟩
   ·rw [if_neg o2]
    have hpc':(zk s.M x.C).2.Out=0∧0≤(zk s.M x.C).2.PC∧(zk s.M x.C).2.PC≤2:=by omega
    refine .quiet X S' a rfl rfl ?_ ?_ ⟨fun _=>hbt,hbf,hol,fun e=>by have e:x.PC=3:=e;omega,fun _=>⟨hpc'.1,hpc'.2,?_⟩,fun e=>by have e:x.PC=34:=e;omega,fun e=>by have e:x.PC=37:=e;omega⟩
    ·rw [eo];exact vi (by dsimp only;omega)
    ·unfold yf
     rw [um (by dsimp only;omega),um (x:=x) (by omega)]
    ·rw [show ({s with M:=(zk s.M x.C).1}:za).M=s.M from a];exact cc
  ·rw [if_pos b]
   have e1:ve {x with PC:=33,Bin:=(zk s.M x.C).2.X,C:=(zk s.M x.C).2}=[y]:=by rw [←cc];exact za2 (x:={x with PC:=33,Bin:=(zk s.M x.C).2.X,C:=(zk s.M x.C).2}) (.inl rfl)
   refine ⟨{gh with F:=l},by rw [e1];rw [eo] at d;exact d,MX.plain (by dsimp only;omega) (fun _=>hbt) hbf ⟨fun e=>by dsimp only at e;omega,fun e=>by dsimp only at e;omega⟩,e _ _,[],[],?_,.inl ⟨rfl,rfl,rfl⟩⟩
   rw [hh,List.append_nil,List.append_nil,List.nil_append]
   unfold yf
   rw [zmy (x:={x with PC:=33,Bin:=(zk s.M x.C).2.X,C:=(zk s.M x.C).2}) rfl]
   show List.Perm (yr p s {gh with F:=l}++(x.Batch++xm s (zk s.M x.C).2.X)) _
   rw [hbt,List.nil_append,cc]
   have:yr p s gh=xm s y++yr p s {gh with F:=l}:=by unfold yr;rw [a];simp [List.append_assoc]
   rw [this]
   exact List.perm_append_comm
 ·intro c;unfold zj2;dsimp only
  intro S'
  have hb:=W.b33 c
  have hbt:=K.bt (by omega)
  have eo:ve x=[x.Bin]:=za2 (.inl c)
  rw [eC] at *
  have e1:ve {x with Batch:=WD s x.Bin,PC:=34,C:=U5 p (zD p) x.Bin}=[x.Bin]:=za2 (x:={x with Batch:=WD s x.Bin,PC:=34,C:=U5 p (zD p) x.Bin}) (.inr rfl)
  have hget: ∀b,1≤b→b∉ve x→(s.Bins.set x.Bin.toNat [])[b.toNat]? =s.Bins[b.toNat]? :=fun b b1 b2=>by
   rw [List.getElem?_set_ne]
   intro e
   rw [eo] at b2
   exact b2 (by rw [show b=x.Bin by omega];simp)
  refine ⟨gh,by rw [e1,←eo];exact X.quiet S' rfl,⟨fun e=>absurd e (by show ¬(34:Int)≤33;decide),hbf,⟨fun e=>by dsimp only at e;omega,fun e=>by dsimp only at e;omega⟩,fun e=>by dsimp only at e;omega,fun e=>by dsimp only at e;omega,fun _=>⟨rfl,⟨by show (0:Int)≤0;decide,by show (0:Int)≤2;decide⟩,rfl,CK.start⟩,fun e=>by dsimp only at e;omega⟩,FX.quiet rfl hget,[],[],?_,.inl ⟨rfl,rfl,rfl⟩⟩
  have hbag:yr p {s with Bins:=s.Bins.set x.Bin.toNat []} gh=yr p s gh:=by
   unfold yr
   congr 1
   refine wZ (fun b hb=> ?_)
   have hm:=X.L.cF.mem b hb
   have hno:=(X.L.notF (x:=x.Bin) (by rw [eo];simp)).1
   unfold xm
   rw [show ({s with Bins:=s.Bins.set x.Bin.toNat []}:za).Bins=s.Bins.set x.Bin.toNat [] from rfl,hget b hm.1 (by rw [eo];intro e;rw [List.mem_singleton.1 e] at hb;exact hno hb)]
  rw [hbag,List.append_nil,List.nil_append]
  unfold yf
  rw [zmy c,um (x:={x with Batch:=WD s x.Bin,PC:=34,C:=U5 p (zD p) x.Bin}) (by dsimp only;omega)]
  show List.Perm (yr p s gh++(WD s x.Bin++[])) _
  rw [hbt,List.append_nil,List.nil_append,zsU]
 ·intro c;unfold zj7;dsimp only
  intro S'
  have S':SOk p nb {s with M:=(zk s.M x.C).1}:=S'
  have C:=W.c34 c
  obtain ⟨c1,c2,c3,c4⟩:=K.p34 c
  have eo:ve x=[x.Bin]:=za2 (.inr c)
  have hh:yf s x=x.Batch:=by unfold yf;rw [um (by omega),List.append_nil]
  rw [eo] at X
  rcases SX.pushE hp (o1:=[]) (o2:=R) (b:=x.Bin) X hk C.k C.h C.n c3 c1 c2 c4 C.v S' with ⟨a,b,cc,d⟩ | ⟨a,b,d⟩
  ·rw [a,if_neg (by decide)]
   have hout:=XR s.M c1 c2 (.inl C.k)
   have hsame:=ziz s.M x.C
   have hpc':0≤(zk s.M x.C).2.PC∧(zk s.M x.C).2.PC≤2:=by omega
   have e1:ve {x with C:=(zk s.M x.C).2}=[x.Bin]:=za2 (x:={x with C:=(zk s.M x.C).2}) (.inr c)
   refine ⟨gh,by rw [e1];exact b,⟨fun e=>by have e:x.PC≤33:=e;omega,hbf,hol,fun e=>by have e:x.PC=3:=e;omega,fun e=>by have e:x.PC=32:=e;omega,fun _=>⟨a,hpc',(hsame.2.2.2 C.k).trans c3,cc⟩,fun e=>by have e:x.PC=37:=e;omega⟩,by rw [eo];exact d _ _ (by simp),[],[],?_,.inl ⟨rfl,rfl,rfl⟩⟩
   rw [Zt rfl,hh,List.append_nil]
   unfold yf
   rw [um (x:={x with C:=(zk s.M x.C).2}) (by dsimp only;omega),List.append_nil]
   exact List.Perm.refl _
  ·rw [a,if_pos rfl]
   refine ⟨{gh with E:=x.Bin::gh.E},by rw [vi (by dsimp only;omega)];exact b,MX.plain (by dsimp only;omega) (fun e=>absurd e (by show ¬(35:Int)≤33;decide)) hbf ⟨fun e=>by dsimp only at e;omega,fun e=>by dsimp only at e;omega⟩,by rw [eo];exact d _ _,[],[],?_,.inl ⟨rfl,rfl,rfl⟩⟩
   rw [hh,List.append_nil]
   unfold yf
   rw [um (by dsimp only;omega),List.append_nil]
   exact List.Perm.refl _
 ·intro c;unfold zkz;dsimp only
  split
  ·rename_i hb
   intro S'
   exact .calm X S' rfl rfl rfl (by omega) (by dsimp only;omega) rfl (fun _=>hb) hbf ⟨fun e=>by dsimp only at e;omega,fun e=>by dsimp only at e;omega⟩
  ·rename_i o l hb
   intro S'
   refine .quiet X S' rfl rfl rfl (by rw [vi (by dsimp only;omega),vi (x:=x) (by omega)]) ?_ (MX.plain (by dsimp only;omega) (fun e=>absurd e (by show ¬(36:Int)≤33;decide)) hbf ⟨fun e=>by dsimp only at e;omega,fun e=>by dsimp only at e;omega⟩)
   unfold yf
   rw [zbW (.inl rfl),um (x:=x) (by omega),hb,List.append_nil]
   exact List.perm_append_comm
 ·intro c;unfold zkC;dsimp only
  have hv:=hH x.Obj x.Slot
  have eo:ve x=[]:=vi (by omega)
  split
  ·rcases zjh s (wc (x.Slot+1)) with e | e<;>rw [e]<;>intro S'
   ·refine .quiet X S' rfl rfl rfl (by rw [eo,vi (by dsimp only;omega)]) ?_ (MX.plain (by dsimp only;omega) (fun e=>absurd e (by show ¬(36:Int)≤33;decide)) hbf ⟨fun e=>by dsimp only at e;omega,fun e=>by dsimp only at e;omega⟩)
    unfold yf
    rw [zbW (.inl c),zbW (.inl rfl)]
   ·refine .quiet X S' rfl rfl rfl (by rw [eo,vi (by dsimp only;omega)]) ?_ (MX.plain (by dsimp only;omega) (fun e=>absurd e (by show ¬(38:Int)≤33;decide)) hbf ⟨fun e=>by dsimp only at e;omega,fun e=>by dsimp only at e;omega⟩)
    unfold yf
    rw [zbW (.inl c),zbW (.inr rfl)]
  ·rename_i hne
   intro S'
   obtain ⟨g1,g2,g3,g4,g5⟩:=zop (p:=p) (s:=s) (gh:=gh) (w:=m) (.inr rfl) (show 1≤xU s.H x.Obj x.Slot∧xU s.H x.Obj x.Slot≤64 by omega)
   refine .quiet X S' rfl rfl rfl ?_ ?_ ⟨fun e=>absurd e (by show ¬(37:Int)≤33;decide),hbf,⟨fun e=>by dsimp only at e;omega,fun e=>by dsimp only at e;omega⟩,fun e=>by dsimp only at e;omega,fun e=>by dsimp only at e;omega,fun e=>by dsimp only at e;omega,fun _=>⟨g1,g2,g3⟩⟩
   ·rw [eo,zcE (.inr rfl)];exact g4
   ·unfold yf
    rw [zbW (.inl c),zpB rfl]
    show List.Perm (x.Batch++x.Obj::yI (Ym 3 (xU s.H x.Obj x.Slot) m)) _
    rw [g5]
 ·intro c;unfold zin;dsimp only
  obtain ⟨G,gm,g0⟩:=K.p37 c
  obtain ⟨M,h5o,hn1⟩:=W.g (.inr c)
  have eo:ve x=xI x.G:=zcE (.inr c)
  have hh:yf s x=x.Batch++x.Obj::yI x.G:=by unfold yf;rw [zpB c]
  rw [eo] at X
  obtain ⟨gh',X',G',Fx,hc',hFb,N,hN,hT⟩:=zu0 hp hk X M h5o G
  have so:=Vy s x.G
  have Fx':FX p nb (ve x) (fun _=>False) s (zu s x.G).1 gh gh':=by rw [eo];exact Fx.mono (fun v e=>by have:=e.1;omega)
  have hT':(N=[]∧([]:List Int)=[]∧(zu s x.G).1.T=s.T)∨(N=[x.G.Obj]∧([]:List Int)=[]∧(x.PC=3∨x.PC=37)∧¬(s.T.Marks|||bit x.G.Obj=s.T.Marks)∧(zu s x.G).1.T={s.T with Marks:=s.T.Marks|||bit x.G.Obj}):=by
   rcases hT with ⟨a,b⟩ | ⟨a,b,c'⟩
   ·exact .inl ⟨a,rfl,b⟩
   ·exact .inr ⟨a,rfl,.inr c,b,c'⟩
  have perm: ∀H':List Int,H'=x.Batch++x.Obj::yI (zu s x.G).2→List.Perm (yr p (zu s x.G).1 gh'++H'++[]) (N++(yr p s gh++yf s x)):=by
   intro H' e
   rw [e,hh,List.append_nil]
   have a1:List.Perm (yr p (zu s x.G).1 gh'++(x.Batch++x.Obj::yI (zu s x.G).2)) ((x.Batch++[x.Obj])++(yr p (zu s x.G).1 gh'++yI (zu s x.G).2)):=by
    rw [show x.Batch++x.Obj::yI (zu s x.G).2=(x.Batch++[x.Obj])++yI (zu s x.G).2 by simp]
    exact List.perm_append_comm_assoc _ _ _
   have a2:List.Perm (N++(yr p s gh++(x.Batch++x.Obj::yI x.G))) ((x.Batch++[x.Obj])++(N++(yr p s gh++yI x.G))):=by
    rw [show x.Batch++x.Obj::yI x.G=(x.Batch++[x.Obj])++yI x.G by simp]
    exact (List.Perm.append_left N (List.perm_append_comm_assoc _ _ _)).trans (List.perm_append_comm_assoc _ _ _)
   exact a1.trans ((List.Perm.append_left _ hN).trans a2.symm)
  split
  ·rename_i o1
   intro S'
   have n1:xI (zu s x.G).2=[]:=wU (.inl (by omega))
   have n2:yI (zu s x.G).2=[]:=uO (.inl (by omega))
   rw [n1] at X'
   rcases zjh s x.Slot with e | e<;>rw [e]
   ·refine ⟨gh',by rw [vi (by dsimp only;omega)];exact X',MX.plain (by dsimp only;omega) (fun e=>absurd e (by show ¬(36:Int)≤33;decide)) hbf ⟨fun e=>by dsimp only at e;omega,fun e=>by dsimp only at e;omega⟩,Fx',N,[],perm _ ?_,hT'.elim .inl (fun h=> .inr (.inl h))⟩
    unfold yf;rw [zbW (.inl rfl),n2]
   ·refine ⟨gh',by rw [vi (by dsimp only;omega)];exact X',MX.plain (by dsimp only;omega) (fun e=>absurd e (by show ¬(38:Int)≤33;decide)) hbf ⟨fun e=>by dsimp only at e;omega,fun e=>by dsimp only at e;omega⟩,Fx',N,[],perm _ ?_,hT'.elim .inl (fun h=> .inr (.inl h))⟩
    unfold yf;rw [zbW (.inr rfl),n2]
  ·rename_i o1
   intro S'
   have o0:(zu s x.G).2.Out=0:=by have:=G'.o;omega
   refine ⟨gh',by rw [zcE (x:={x with G:=(zu s x.G).2}) (.inr c)];exact X',⟨fun e=>by have e:x.PC≤33:=e;omega,hbf,hol,fun e=>by have e:x.PC=3:=e;omega,fun e=>by have e:x.PC=32:=e;omega,fun e=>by have e:x.PC=34:=e;omega,fun _=>⟨G',so.2.2.trans gm,o0⟩⟩,Fx',N,[],perm _ ?_,hT'.elim .inl (fun h=> .inr (.inl h))⟩
   unfold yf;rw [zpB (x:={x with G:=(zu s x.G).2}) c]
 ·intro c S';unfold zkD at S' ⊢
  have eo:ve x=[]:=vi (by omega)
  refine ⟨gh,by rw [vi (by dsimp only;omega)];rw [eo] at X;exact X.quiet S' rfl,MX.plain (by dsimp only;omega) (fun e=>absurd e (by show ¬(39:Int)≤33;decide)) hbf ⟨fun e=>by dsimp only at e;omega,fun e=>by dsimp only at e;omega⟩,FX.quiet rfl (fun _ _ _=>rfl),[],[x.Obj],?_,.inr (.inr (.inl ⟨rfl,rfl,c,rfl⟩))⟩
  rw [Zt rfl,List.nil_append]
  unfold yf
  rw [zbW (.inr c),um (by dsimp only;omega),List.append_nil,List.append_assoc]
  exact List.Perm.refl _
 ·intro c S';unfold zme at S' ⊢
  exact .calm X S' rfl rfl rfl (by omega) (by dsimp only;omega) rfl (fun e=>absurd e (by show ¬(35:Int)≤33;decide)) hbf ⟨fun e=>by dsimp only at e;omega,fun e=>by dsimp only at e;omega⟩
 ·intro S'
  exact ⟨gh,X.quiet S' rfl,K,FX.quiet rfl (fun _ _ _=>rfl),[],[],by rw [List.append_nil];exact List.Perm.refl _,.inl ⟨rfl,rfl,rfl⟩⟩
end
end Go.Pe.G
namespace Go.Pe.G
open Go.Pe
noncomputable section
theorem zqr {o:Int} (h:1≤o∧o≤64) (j:Nat):(bit o).getLsbD j=decide ((o-1).toNat=j):=by
 unfold bit
 rw [if_pos h,←BitVec.twoPow_eq,BitVec.getLsbD_twoPow,decide_eq_true (by omega:(o-1).toNat<64),Bool.true_and]
theorem vT (s:BitVec 64) (o:Int):yN s o=true↔1≤o∧o≤64∧s.getLsbD (o-1).toNat=true:=by
 unfold yN
 rw [Bool.not_eq_true',decide_eq_false_iff_not]
 by_cases h:1≤o∧o≤64
 ·constructor
  ·intro h1
   refine ⟨h.1,h.2,Classical.byContradiction (fun h2=>h1 ?_)⟩
   apply BitVec.eq_of_getLsbD_eq
   intro j hj
   rw [BitVec.getLsbD_and,zqr h,BitVec.getLsbD_zero]
   by_cases e:(o-1).toNat=j
   ·rw [←e];simp only [Bool.not_eq_true] at h2;rw [h2];rfl
   ·rw [decide_eq_false e,Bool.and_false]
  ·rintro ⟨_,_,h1⟩ h2
   have:=congrArg (fun v=>BitVec.getLsbD v (o-1).toNat) h2
   simp only [BitVec.getLsbD_and,zqr h,h1,BitVec.getLsbD_zero] at this
   simp at this
 ·constructor
  ·intro h1
   exact absurd (by unfold bit;rw [if_neg h,BitVec.and_zero]) h1
  ·rintro ⟨a,b,_⟩;exact absurd ⟨a,b⟩ h
theorem v8 (s:BitVec 64) {o:Int} (h:1≤o∧o≤64) (q:Int):yN (s|||bit o) q=true↔yN s q=true∨q=o:=by
 rw [vT,vT,BitVec.getLsbD_or,zqr h]
 simp only [Bool.or_eq_true,decide_eq_true_eq]
 constructor
 ·rintro ⟨a,b,c | c⟩
  ·exact .inl ⟨a,b,c⟩
  ·exact .inr (by omega)
 ·rintro (⟨a,b,c⟩ | rfl)
  ·exact ⟨a,b,.inl c⟩
  ·exact ⟨h.1,h.2,.inr rfl⟩
theorem zgF (s t:BitVec 64) (q:Int):yN (s&&&t) q=true↔yN s q=true∧yN t q=true:=by
 rw [vT,vT,vT,BitVec.getLsbD_and]
 simp only [Bool.and_eq_true]
 constructor
 ·rintro ⟨a,b,c,d⟩;exact ⟨⟨a,b,c⟩,a,b,d⟩
 ·rintro ⟨⟨a,b,c⟩,_,_,d⟩;exact ⟨a,b,c,d⟩
theorem zex (q:Int): ¬yN 0#64 q=true:=by
 rw [vT,BitVec.getLsbD_zero];exact fun h=>by cases h.2.2
theorem zyn {s t:BitVec 64} (h: ∀o,yN s o=true↔yN t o=true):s=t:=by
 apply BitVec.eq_of_getLsbD_eq
 intro j hj
 have:=h ((j:Int)+1)
 rw [vT,vT,show ((j:Int)+1-1).toNat=j by omega] at this
 rw [Bool.eq_iff_iff]
 exact ⟨fun e=>(this.1 ⟨by omega,by omega,e⟩).2.2,fun e=>(this.2 ⟨by omega,by omega,e⟩).2.2⟩
theorem zcv {m:BitVec 64} {o:Int} (h:1≤o∧o≤64): ¬(m|||bit o=m)↔¬yN m o=true:=by
 constructor
 ·intro h1 h2
  refine h1 (zyn (fun q=> ?_))
  rw [v8 _ h]
  exact ⟨fun e=>e.elim id (fun e=>by rw [e];exact h2),.inl⟩
 ·intro h1 h2
  refine h1 ?_
  rw [←h2,v8 _ h];exact .inr rfl
theorem Uu (t:zr) (o:Int):uu t o=1↔yN t.Marks o=true∧¬yN t.Black o=true:=by
 unfold uu
 by_cases h1:yN (t.Marks&&&t.Black) o=true
 ·rw [if_pos h1]
  rw [zgF] at h1
  exact ⟨fun e=>(by cases e),fun e=>absurd h1.2 e.2⟩
 ·rw [if_neg h1]
  rw [zgF] at h1
  by_cases h2:yN t.Marks o=true
  ·rw [if_pos h2];exact ⟨fun _=>⟨h2,fun e=>h1 ⟨h2,e⟩⟩,fun _=>rfl⟩
  ·rw [if_neg h2];exact ⟨fun e=>(by cases e),fun e=>absurd e.1 h2⟩
end
end Go.Pe.G
namespace Go.Pe.G
open Go.Pe
noncomputable section
theorem znk {α:Type} {l:List α} {i:Nat} {x:α} (h:l[i]? =some x): ∃a b,l=a++x::b∧(∀y,l.set i y=a++y::b)∧(∀z∈a++b,∃j,j≠i∧l[j]? =some z) ∧
  (∀j z,j≠i→l[j]? =some z→z∈a++b):=by
 obtain ⟨hi,e⟩:=List.getElem?_eq_some_iff.1 h
 have hl:(l.take i).length=i:=by rw [List.length_take];omega
 have el:l=l.take i++x::l.drop (i+1):=by
  conv=>lhs;rw [←List.take_append_drop i l,List.drop_eq_getElem_cons hi,e]
 refine ⟨l.take i,l.drop (i+1),el,fun y=> ?_,fun z hz=> ?_,fun j z hj hz=> ?_⟩
 ·rw [List.set_eq_take_append_cons_drop,if_pos hi]
 ·rcases List.mem_append.1 hz with hz | hz
  ·obtain ⟨j,hj⟩:=List.mem_iff_getElem?.1 hz
   obtain ⟨hj1,hj2⟩:=List.getElem?_eq_some_iff.1 hj
   have hj3:j<i:=by omega
   exact ⟨j,by omega,by rw [List.getElem?_take_of_lt hj3] at hj;exact hj⟩
  ·obtain ⟨j,hj⟩:=List.mem_iff_getElem?.1 hz
   exact ⟨i+1+j,by omega,by rw [List.getElem?_drop] at hj;exact hj⟩
 ·rw [el] at hz
  rcases Nat.lt_or_ge j i with h1 | h1
  ·rw [List.getElem?_append_left (by omega)] at hz
   exact List.mem_append_left _ (List.mem_of_getElem? hz)
  ·rw [List.getElem?_append_right (by omega),hl] at hz
   rw [show j-i=(j-i-1)+1 by omega,List.getElem?_cons_succ] at hz
   exact List.mem_append_right _ (List.mem_of_getElem? hz)
theorem uz {α β:Type} {f:α→List β} {a b:List α} {x:α}:List.Perm ((a++x::b).flatMap f) (f x++(a++b).flatMap f):=by
 rw [List.flatMap_append,List.flatMap_cons,List.flatMap_append]
 exact List.perm_append_comm_assoc _ _ _
theorem SX.perm {p:zb} {nb k:Nat} {s:za} {g:Gh} {o o':List Int} (X:SX p nb s g o k) (h:List.Perm o' o):SX p nb s g o' k :=
 ⟨X.S,⟨X.L.hs,X.L.cF,X.L.cE,(List.Perm.append_left _ h).trans X.L.all,X.L.len⟩,X.D,X.v,X.dk⟩
theorem SX.state {p:zb} {nb k:Nat} {s s':za} {g:Gh} {o:List Int} (X:SX p nb s g o k) (S':SOk p nb s') (hm:s'.M=s.M):SX p nb s' g o k :=
 ⟨S',by rw [hm];exact X.L,by rw [hm];exact X.D,by rw [hm];exact X.v,X.dk⟩
theorem GX.state {p:zb} {s s':za} {gh:Gh} {g:zC} (G:GX p s gh g) (hm:s'.M=s.M) (hb:s'.Bins=s.Bins):GX p s' gh g :=
 ⟨G.o,G.pc,G.md,G.ob,G.c0,by rw [hm];exact G.c5,by rw [hm,hb];exact G.c7,by rw [hm];exact G.d3⟩
theorem WX.state {p:zb} {s s':za} {gh:Gh} {w:Int} {x:zg} (W:WX p s gh w x) (hm:s'.M=s.M) (hb:s'.Bins=s.Bins):WX p s' gh w x :=
 ⟨W.c0,W.bt,by rw [hm];exact W.p0,by rw [hm];exact W.p1,by rw [hm];exact W.p2,by rw [hm];exact W.p4,fun e=>⟨(W.p6 e).1.state hm hb,(W.p6 e).2⟩⟩
theorem ziq {s s':za} {x:zg} (hm:s'.M=s.M) (hb:s'.Bins=s.Bins):zL s' x=zL s x:=by
 unfold zL V6 xm;rw [hm,hb]
def zlJ (p:zb) (s:za) (g:Gh):List Int:=yr p s g++s.Ws.flatMap (zL s)
structure Uw (B:List Int) (t:zr):Prop where
 blk: ∀o,yN t.Black o=true→yN t.Marks o=true
 nd:B.Nodup
 gr: ∀o,o∈B↔uu t o=1
theorem zpg {t:zr} {o:Int} (h:uu t o=1):1≤o∧o≤64:=by
 have:=(vT _ _).1 ((Uu t o).1 h).1
 exact ⟨this.1,this.2.1⟩
theorem Uw.more {B B':List Int} {t:zr} {o:Int} (K:Uw B t) (ho:1≤o∧o≤64) (hn: ¬(t.Marks|||bit o=t.Marks)) (h:List.Perm B' (o::B)):Uw B' {t with Marks:=t.Marks|||bit o}:=by
 have hn:=(zcv ho).1 hn
 have hnb: ¬yN t.Black o=true:=fun e=>hn (K.blk o e)
 have hno:o∉B:=fun e=>hn ((Uu t o).1 ((K.gr o).1 e)).1
 refine ⟨fun q hq=>(v8 _ ho q).2 (.inl (K.blk q hq)),h.nodup_iff.2 (List.nodup_cons.2 ⟨hno,K.nd⟩),fun q=> ?_⟩
 rw [h.mem_iff,List.mem_cons,K.gr,Uu,Uu]
 show q=o∨_↔yN (t.Marks|||bit o) q=true∧¬yN t.Black q=true
 rw [v8 _ ho]
 constructor
 ·rintro (rfl | ⟨a,b⟩)
  ·exact ⟨.inr rfl,hnb⟩
  ·exact ⟨.inl a,b⟩
 ·rintro ⟨a | a,b⟩
  ·exact .inr ⟨a,b⟩
  ·exact .inl a
theorem Uw.less {B B':List Int} {t:zr} {o:Int} (K:Uw B t) (h:List.Perm (B'++[o]) B):Uw B' (ue t o)∧(ue t o).Marks=t.Marks∧uu t o=1∧∀q,yN (ue t o).Black q=true↔yN t.Black q=true∨q=o:=by
 have ho:uu t o=1:=(K.gr o).1 (h.mem_iff.1 (by simp))
 have hr:=zpg ho
 have hm:=((Uu t o).1 ho)
 have hnd:=h.nodup_iff.2 K.nd
 have hnd:=List.nodup_append.1 hnd
 unfold ue
 rw [if_pos ho]
 refine ⟨⟨fun q hq=> ?_,hnd.1,fun q=> ?_⟩,rfl,ho,fun q=>v8 _ hr q⟩
 ·rcases (v8 _ hr q).1 hq with e | e
  ·exact K.blk q e
  ·rw [e];exact hm.1
 ·have e1:q∈B↔q∈B'∨q=o:=by rw [←h.mem_iff,List.mem_append,List.mem_singleton]
  rw [K.gr,Uu] at e1
  rw [Uu]
  show _↔yN t.Marks q=true∧¬yN (t.Black|||bit o) q=true
  rw [v8 _ hr]
  constructor
  ·intro hq
   have:=e1.2 (.inl hq)
   exact ⟨this.1,fun e=>e.elim this.2 (fun e=>hnd.2.2 q hq o (by simp) e)⟩
  ·rintro ⟨a,b⟩
   rcases e1.1 ⟨a,fun e=>b (.inl e)⟩ with e | e
   ·exact e
   ·exact absurd (.inr e) b
theorem HOk.get {p:zb} (hp:zE p) {h:zt} (H:HOk p h) (o i:Int):0≤xU h o i∧xU h o i≤64:=by
 have h1:=H.n
 have h2:p.Most≤64:=by have:=hp.most;have:=hp.n;omega
 unfold xU
 split
 ·unfold xk
  rw [List.getD_eq_getElem?_getD,List.getD_eq_getElem?_getD]
  cases hx:h.Objs[(o-1).toNat]? with
  | none=>show 0≤(([]:List Int)[i.toNat]?).getD 0∧_;simp
  | some l =>
   show 0≤(l[i.toNat]?).getD 0∧(l[i.toNat]?).getD 0≤64
   cases hv:l[i.toNat]? with
   | none=>show (0:Int)≤0∧(0:Int)≤64;decide
   | some v =>
    have:=(H.objs l (List.mem_of_getElem? hx)).2 v (List.mem_of_getElem? hv)
    show 0≤v∧v≤64;omega
 ·exact ⟨by decide,by decide⟩
structure WG (p:zb) (nb k:Nat) (s:za) (gh:Gh):Prop where
 E:EOk p nb s
 X:SX p nb s gh (s.Ws.flatMap xL) k
 W: ∀(i:Nat) x,s.Ws[i]? =some x→WX p s gh ((i:Int)+1) x
 B:Uw (zlJ p s gh) s.T
def zzp (s s':za) (w:Int):Prop :=
 s'.T=s.T∨(∃x o,s.Ws[(w-1).toNat]? =some x∧x.PC=6∧o=x.G.Obj∧(1≤o∧o≤64)∧¬yN s.T.Marks o=true∧s'.T={s.T with Marks:=s.T.Marks|||bit o}) ∨
  (∃x,s.Ws[(w-1).toNat]? =some x∧x.PC=8∧uu s.T x.Obj=1∧s'.T={s.T with Black:=s.T.Black|||bit x.Obj})
theorem WG.step {p:zb} (hp:zE p) {nb k:Nat} {s:za} {gh:Gh} (hk:k<4294960000) (G:WG p nb k s gh) {w:Int} (hw:1≤w∧w≤p.Workers) (hd:s.Done=false): ∃gh',WG p nb (k+1) (YA s w) gh'∧zzp s (YA s w) w:=by
 have hE:=zsH hp G.E w
 have hwl:=G.E.wl
 have e0: ¬(s.Done=true∨w<1∨(s.Ws.length:Int)<w):=by rw [hd];rintro (e | e | e)<;>first | cases e | omega
 revert hE
 unfold YA
 rw [if_neg e0]
 have hi:(w-1).toNat<s.Ws.length:=by omega
 have hx:=List.getElem?_eq_getElem hi
 generalize s.Ws[(w-1).toNat]=x at hx
 rw [hx]
 dsimp only
 intro hE
 obtain ⟨a,b,el,es,hab,hba⟩:=znk hx
 have ei:(((w-1).toNat:Nat):Int)+1=w:=by omega
 have hWX:=G.W _ x hx
 have hWO:=G.E.W _ x hx
 rw [ei] at hWX hWO
 have X0:SX p nb s gh (xL x++(a++b).flatMap xL) k:=G.X.perm (by rw [el];exact uz.symm)
 obtain ⟨gh',X',W',Fx,N,C,hN,hT⟩:=zxT hp hk hw X0 hWO hWX (fun o i=>G.E.H.get hp o i)
 have hoth: ∀(j:Nat) y,j≠(w-1).toNat→s.Ws[j]? =some y→WX p (zo s w x).1 gh' ((j:Int)+1) y∧zL (zo s w x).1 y=zL s y:=by
  intro j y hj hy
  have hjl:=(List.getElem?_eq_some_iff.1 hy).1
  exact WX.other hp (w:=(j:Int)+1) (by omega) X0 Fx (G.W j y hy) (G.E.W j y hy) (fun z hz=>List.mem_flatMap.2 ⟨y,hba j y hj hy,hz⟩) (fun e=>hj (by omega))
 have hbag:List.Perm (zlJ p {(zo s w x).1 with Ws:=s.Ws.set (w-1).toNat (zo s w x).2} gh'++C) (N++zlJ p s gh):=by
  unfold zlJ
  have q1:yr p {(zo s w x).1 with Ws:=s.Ws.set (w-1).toNat (zo s w x).2} gh'=yr p (zo s w x).1 gh':=rfl
  have q2:(s.Ws.set (w-1).toNat (zo s w x).2).flatMap (zL {(zo s w x).1 with Ws:=s.Ws.set (w-1).toNat (zo s w x).2})=(a++(zo s w x).2::b).flatMap (zL (zo s w x).1):=by
   rw [es];exact wZ (fun y _=>ziq rfl rfl)
  have q3:(a++b).flatMap (zL (zo s w x).1)=(a++b).flatMap (zL s):=wZ (fun y hy=>by
   obtain ⟨j,hj,hjy⟩:=hab y hy
   exact (hoth j y hj hjy).2)
  rw [q1]
  show List.Perm (yr p (zo s w x).1 gh'++(s.Ws.set (w-1).toNat (zo s w x).2).flatMap (zL {(zo s w x).1 with Ws:=s.Ws.set (w-1).toNat (zo s w x).2})++C) _
  rw [q2]
  have r1:List.Perm (yr p (zo s w x).1 gh'++(a++(zo s w x).2::b).flatMap (zL (zo s w x).1)++C) ((a++b).flatMap (zL s)++(yr p (zo s w x).1 gh'++zL (zo s w x).1 (zo s w x).2++C)):=by
   refine ((List.Perm.append_left _ uz).append_right C).trans ?_
   rw [q3,List.append_assoc,List.append_assoc,List.append_assoc]
   refine (List.perm_append_comm_assoc _ _ _).trans ?_
   refine (List.Perm.append_left _ (List.perm_append_comm_assoc _ _ _)).trans ?_
   refine (List.perm_append_comm_assoc _ _ _).trans (List.Perm.append_left _ ?_)
   exact List.perm_append_comm_assoc _ _ _
  have r2:List.Perm (N++(yr p s gh++s.Ws.flatMap (zL s))) ((a++b).flatMap (zL s)++(N++(yr p s gh++zL s x))):=by
   conv=>lhs;rw [el]
   refine (List.Perm.append_left _ (List.Perm.append_left _ uz)).trans ?_
   refine (List.Perm.append_left _ ?_).trans (List.perm_append_comm_assoc _ _ _)
   rw [←List.append_assoc]
   exact List.perm_append_comm
  exact r1.trans ((List.Perm.append_left _ hN).trans r2.symm)
 have fin:Uw (zlJ p {(zo s w x).1 with Ws:=s.Ws.set (w-1).toNat (zo s w x).2} gh') (zo s w x).1.T→WG p nb (k+1) {(zo s w x).1 with Ws:=s.Ws.set (w-1).toNat (zo s w x).2} gh':=by
  intro hB
  refine ⟨hE,?_,fun j y hy=> ?_,hB⟩
  ·refine (X'.state hE.S rfl).perm ?_
   show List.Perm ((s.Ws.set (w-1).toNat (zo s w x).2).flatMap xL) _
   rw [es];exact uz
  ·have hy:(s.Ws.set (w-1).toNat (zo s w x).2)[j]? =some y:=hy
   by_cases hj:j=(w-1).toNat
   ·subst hj
    rw [List.getElem?_set_self hi] at hy
    injection hy with hy
    rw [←hy,ei]
    exact W'.state rfl rfl
   ·rw [List.getElem?_set_ne (fun e=>hj e.symm)] at hy
    exact (hoth j y hj hy).1.state rfl rfl
 refine ⟨gh',?_⟩
 rcases hT with ⟨rfl,rfl,t1⟩ | ⟨rfl,rfl,t1,t2,t3⟩ | ⟨rfl,rfl,t1,t2⟩
 ·rw [List.append_nil,List.nil_append] at hbag
  refine ⟨fin ⟨?_,hbag.nodup_iff.2 G.B.nd,fun o=> ?_⟩,.inl t1⟩
  ·rw [t1];exact G.B.blk
  ·rw [t1,hbag.mem_iff];exact G.B.gr o
 ·have ho:=((hWX.p6 t1).1).ob
  rw [List.append_nil] at hbag
  refine ⟨fin ?_,.inr (.inl ⟨x,x.G.Obj,hx,t1,rfl,ho,(zcv ho).1 t2,t3⟩)⟩
  rw [t3]
  exact G.B.more ho t2 hbag
 ·rw [List.nil_append] at hbag
  obtain ⟨b1,b2,b3,b4⟩:=G.B.less hbag
  refine ⟨fin ?_,.inr (.inr ⟨x,hx,t1,b3,?_⟩)⟩
  ·rw [t2];exact b1
  ·show (zo s w x).1.T=_
   rw [t2];unfold ue;rw [if_pos b3]
end
end Go.Pe.G
namespace Go.Pe.G
open Go.Pe
noncomputable section
theorem zks {N:Int} {nb:Nat} (hN:0≤N∧N<1000) (hnb:nb<1000): ∀(l:List Int) (m:List (BitVec 64)) (a:Int),(∀x∈l,1≤x∧x<nb)→(∀x∈l,a≠N+x)→ld (links m N l) a=ld m a
 | [],m,a,_,_=>rfl
 | [x],m,a,h,h2=>by
  have:=h x (by simp)
  have:=h2 x (by simp)
  rw [links,xq (by omega) (by omega)]
  exact yo (by omega)
 | x::y::l,m,a,h,h2=>by
  have:=h x (by simp)
  have:=h2 x (by simp)
  rw [links,zks hN hnb (y::l) _ a (fun z hz=>h z (List.mem_cons_of_mem _ hz)) (fun z hz=>h2 z (List.mem_cons_of_mem _ hz)),xq (by omega) (by omega)]
  exact yo (by omega)
theorem zlI {N:Int} {nb:Nat} (hN:0≤N∧N<1000) (hnb:nb<1000): ∀(l:List Int) (m:List (BitVec 64)),(∀x∈l,1≤x∧x<nb)→l.Nodup→N+nb≤m.length→Chn (links m N l) N nb (l.headD 0) l
 | [],m,_,_,_=>rfl
 | [x],m,h,_,hl=>by
  have:=h x (by simp)
  refine ⟨rfl,this.1,this.2,?_⟩
  rw [links,xq (by omega) (by omega),Xp,if_pos ⟨rfl,by omega,by omega⟩]
  rfl
 | x::y::l,m,h,hd,hl=>by
  have hx:=h x (by simp)
  have hy:=h y (by simp)
  have hd:=List.nodup_cons.1 hd
  refine ⟨rfl,hx.1,hx.2,?_⟩
  have ih:=zlI hN hnb (y::l) (st m (wc (N+x)) (BitVec.ofInt 64 y)) (fun z hz=>h z (List.mem_cons_of_mem _ hz)) hd.2 (by rw [Zl];exact hl)
  rw [links,zks hN hnb (y::l) _ (N+x) (fun z hz=>h z (List.mem_cons_of_mem _ hz)) (fun z hz e=>hd.1 (by rw [zjE e] at hz;exact hz)),xq (by omega) (by omega),Xp,if_pos ⟨rfl,by omega,by omega⟩,toInt_ofInt (by omega) (by omega)]
  rw [xq (by omega) (by omega)] at ih
  exact ih
theorem Chn.links {N:Int} {nb:Nat} (hN:0≤N∧N<1000) (hnb:nb<1000) {l r:List Int} {h:Int} {m:List (BitVec 64)} (hr: ∀x∈r,1≤x∧x<nb) (hd: ∀x∈l,x∉r) (c:Chn m N nb h l):Chn (Go.Pe.G.links m N r) N nb h l:=by
 induction l generalizing h with
 | nil=>exact c
 | cons y l ih =>
  refine ⟨c.1,c.2.1,c.2.2.1,?_⟩
  rw [zks hN hnb r m (N+y) hr (fun z hz e=>hd y (by simp) (by rw [zjE e] at hz;exact hz))]
  exact ih (fun x hx=>hd x (List.mem_cons_of_mem _ hx)) c.2.2.2
theorem zts {l:List Int} {nb:Nat} (h: ∀x∈l,1≤x∧x<nb) (hnb:nb<1000):0≤l.headD 0∧l.headD 0<4294967296:=by
 cases l with
 | nil=>exact ⟨by decide,by decide⟩
 | cons a r=>have:=h a (by simp);show 0≤a∧a<4294967296;omega
theorem zvY {p:zb} (h:zE p):LI p (zO p+1) (yW p).M (z7 p) (zD p) ((xi (zO p)).take (yV p).length) ((xi (zO p)).drop (yV p).length) []∧yZ (ld (yW p).M (z7 p))=0∧yZ (ld (yW p).M (zD p))=0:=by
 have hb:=zbf h
 have hF:=Zo h
 have hE:=wn h
 have hcl:=VJ p p.Workers.toNat
 have hw:=h.wk
 have hc:=h.cap
 have hfe:z7 p=((p.Workers.toNat*(p.Cap.toNat+2):Nat):Int):=by
  rw [hF.1]
  have e1:p.Workers=((p.Workers.toNat:Nat):Int):=by omega
  have e2:p.Cap+2=((p.Cap.toNat+2:Nat):Int):=by omega
  rw [e2,Int.natCast_mul]
  rw [←e1]
 have hN:0≤zD p∧zD p<1000:=by omega
 have hnb:zO p+1<1000:=by omega
 generalize hk:(yV p).length=k
 have t1: ∀x∈(xi (zO p)).take k,1≤x∧x<((zO p+1:Nat):Int):=fun x hx=>by have:=zc9 (List.mem_of_mem_take hx);omega
 have t2: ∀x∈(xi (zO p)).drop k,1≤x∧x<((zO p+1:Nat):Int):=fun x hx=>by have:=zc9 (List.mem_of_mem_drop hx);omega
 have nd:((xi (zO p)).take k++(xi (zO p)).drop k).Nodup:=by rw [List.take_append_drop];exact zm4 (zO p+1)
 have nd3:=List.nodup_append.1 nd
 have eM:(yW p).M=za1 (za1 (ZU p p.Workers.toNat++List.replicate (2+zO p) 0#64) (z7 p) (zD p) ((xi (zO p)).take k)) (zD p) (zD p) ((xi (zO p)).drop k):=by rw [←hk];rfl
 rw [eM]
 generalize hm0:ZU p p.Workers.toNat++List.replicate (2+zO p) 0#64=m0
 have l0:zD p+((zO p+1:Nat):Int)≤m0.length:=by
  rw [←hm0,List.length_append,hcl,List.length_replicate];omega
 have p1:=zts t1 hnb
 have p2:=zts t2 hnb
 have v0: ∀n:Int,0≤n→n<4294967296→yZ (yU 0#64 n)=0:=fun n h1 h2=>by
  unfold yZ;rw [zol _ h1 h2];show (0*4294967296+n.toNat)/4294967296=0;omega
 have c1:=zlI hN hnb _ m0 t1 nd3.1 l0
 generalize hm1:links m0 (zD p) ((xi (zO p)).take k)=m1 at c1
 have l1:m1.length=m0.length:=by rw [←hm1,zbp]
 have c1':=(c1.st_head h (a:=z7 p) (v:=yU 0#64 (((xi (zO p)).take k).headD 0)) (.inl rfl)).links hN hnb t2 (fun x hx hx2=>nd3.2.2 x hx x hx2 rfl)
 have c2:=zlI hN hnb _ (st m1 (z7 p) (yU 0#64 (((xi (zO p)).take k).headD 0))) t2 nd3.2.1 (by rw [Zl,l1];exact l0)
 have hd1:ld (links (st m1 (z7 p) (yU 0#64 (((xi (zO p)).take k).headD 0))) (zD p) ((xi (zO p)).drop k)) (z7 p)=yU 0#64 (((xi (zO p)).take k).headD 0):=by
  rw [zks hN hnb _ _ _ t2 (fun x hx=>by have:=t2 x hx;omega),Xp,if_pos ⟨rfl,by omega,by omega⟩]
 unfold za1
 rw [hm1]
 generalize hm2:links (st m1 (z7 p) (yU 0#64 (((xi (zO p)).take k).headD 0))) (zD p) ((xi (zO p)).drop k)=m2 at c1' c2 hd1
 have l2:m2.length=m0.length:=by rw [←hm2,zbp,Zl,l1]
 have g1:ld (st m2 (zD p) (yU 0#64 (((xi (zO p)).drop k).headD 0))) (z7 p)=yU 0#64 (((xi (zO p)).take k).headD 0):=by rw [yo (by omega),hd1]
 have g2:ld (st m2 (zD p) (yU 0#64 (((xi (zO p)).drop k).headD 0))) (zD p)=yU 0#64 (((xi (zO p)).drop k).headD 0):=by rw [Xp,if_pos ⟨rfl,by omega,by omega⟩]
 refine ⟨⟨.inl ⟨rfl,rfl⟩,?_,?_,?_,by rw [Zl,l2];exact l0⟩,?_,?_⟩
 ·rw [g1,zbx _ p1.1 p1.2]
  exact c1'.st_head h (.inr rfl)
 ·rw [g2,zbx _ p2.1 p2.2]
  exact c2.st_head h (.inr rfl)
 ·rw [List.append_nil,List.take_append_drop]
  exact List.Perm.refl _
 ·rw [g1];exact v0 _ p1.1 p1.2
 ·rw [g2];exact v0 _ p2.1 p2.2
end
end Go.Pe.G
namespace Go.Pe.G
open Go.Pe
noncomputable section
theorem zlo {N:Int} (hN:0≤N∧N<1000): ∀(l:List Int) (m:List (BitVec 64)) (a:Int),(∀x∈l,1≤x∧x<1000)→a≤N→ld (links m N l) a=ld m a
 | [],m,a,_,_=>rfl
 | [x],m,a,h,h2=>by
  have:=h x (by simp)
  rw [links,xq (by omega) (by omega)]
  exact yo (by omega)
 | x::y::l,m,a,h,h2=>by
  have:=h x (by simp)
  rw [links,zlo hN (y::l) _ a (fun z hz=>h z (List.mem_cons_of_mem _ hz)) h2,xq (by omega) (by omega)]
  exact yo (by omega)
theorem zx1 {p:zb} (h:zE p) {a:Int} (ha:a<z7 p):ld (yW p).M a=ld (ZU p p.Workers.toNat++List.replicate (2+zO p) 0#64) a:=by
 have hb:=zbf h
 have hF:=Zo h
 have hE:=wn h
 have t1: ∀x∈(xi (zO p)).take (yV p).length,1≤x∧x<1000:=fun x hx=>by have:=zc9 (List.mem_of_mem_take hx);omega
 have t2: ∀x∈(xi (zO p)).drop (yV p).length,1≤x∧x<1000:=fun x hx=>by have:=zc9 (List.mem_of_mem_drop hx);omega
 show ld (za1 (za1 _ (z7 p) (zD p) _) (zD p) (zD p) _) a=_
 unfold za1
 rw [yo (by omega),zlo (by omega) _ _ _ t2 (by omega),yo (by omega),zlo (by omega) _ _ _ t1 (by omega)]
theorem zqH (p:zb): ∀(k i j:Nat),i<k→j<p.Cap.toNat+2→(ZU p k)[i*(p.Cap.toNat+2)+j]? =(zei p.Cap)[j]?
 | 0,i,j,h,_=>by omega
 | k+1,i,j,h,hj=>by
  rw [zio]
  have hl:=VJ p k
  rcases Nat.lt_or_ge i k with h1 | h1
  ·have h2:=Nat.mul_le_mul_right (p.Cap.toNat+2) (show i+1≤k from h1)
   rw [Nat.succ_mul] at h2
   rw [List.getElem?_append_left (by omega)]
   exact zqH p k i j h1 hj
  ·have:i=k:=by omega
   subst this
   rw [List.getElem?_append_right (by omega),hl,show i*(p.Cap.toNat+2)+j-i*(p.Cap.toNat+2)=j by omega]
theorem zr8 {p:zb} (h:zE p) {w:Int} (hw:1≤w∧w≤p.Workers) {j:Nat} (hj:j<2):ld (yW p).M (zN p w+j)=1#64:=by
 have hd:=Yh h hw.1 hw.2
 have hc:=h.cap
 have hl:=VJ p p.Workers.toNat
 have hlt:(w-1).toNat<p.Workers.toNat:=by omega
 have e1:(zN p w+j).toNat=(w-1).toNat*(p.Cap.toNat+2)+j:=by
  obtain ⟨n,hn⟩: ∃n:Nat,w-1=(n:Int):=⟨(w-1).toNat,by omega⟩
  have e2:p.Cap+2=((p.Cap.toNat+2:Nat):Int):=by omega
  rw [hd.1,hn,e2,←Int.natCast_mul,Int.toNat_natCast]
  omega
 have h2:=Nat.mul_le_mul_right (p.Cap.toNat+2) (show (w-1).toNat+1≤p.Workers.toNat from hlt)
 rw [Nat.succ_mul] at h2
 rw [zx1 h (by omega)]
 unfold ld
 rw [if_pos (by omega),e1,List.getD_eq_getElem?_getD,List.getElem?_append_left (by omega),zqH p _ _ _ hlt (by omega)]
 unfold zei
 match j,hj with
 | 0,_=>rfl
 | 1,_=>rfl
theorem zm0 (n:Nat) (hn:1≤n): ∀(f:Nat) (l:List Int),l.length≤f→(vd n f l).flatten=l
 | 0,l,h=>by
  have:l=[]:=List.length_eq_zero_iff.1 (by omega)
  subst this;simp [vd]
 | f+1,[],_=>by simp [vd]
 | f+1,x::l,h=>by
  have:=zm0 n hn f ((x::l).drop n) (by rw [List.length_drop];simp at h ⊢;omega)
  simp only [vd,List.flatten_cons] at this ⊢
  rw [this,List.take_append_drop]
theorem zv5 {α:Type} (l:List (List α)):(List.range l.length).flatMap (fun i:Nat=>(l[i]?).getD [])=l.flatten:=by
 rw [List.flatMap_def]
 congr 1
 apply List.ext_getElem
 ·simp
 ·intro i h1 h2
  simp [List.getElem?_eq_getElem h2]
def gh0 (p:zb):Gh:=⟨(xi (zO p)).take (yV p).length,(xi (zO p)).drop (yV p).length,fun _=>[],fun _=>1,fun _=>0⟩
theorem zdg {α β:Type} {f:α→List β}: ∀ {l:List α},(∀x∈l,f x=[])→l.flatMap f=[]
 | [],_=>rfl
 | a::l,h=>by rw [List.flatMap_cons,h a (by simp),zdg (fun x hx=>h x (List.mem_cons_of_mem _ hx))];rfl
theorem zyt {p:zb} (h:zE p):yr p (yW p) (gh0 p)=Vs (YP p):=by
 have hb:=h.bin
 have hfl:=zka h
 have hbs:=zbf h
 have hmost:=h.most
 have hw:=h.wk
 have hm:=h.mt
 have e1:yr p (yW p) (gh0 p)=((xi (zO p)).take (yV p).length).flatMap (xm (yW p)):=by
  show ((xi (zO p)).take (yV p).length).flatMap (xm (yW p))++(List.range p.Workers.toNat).flatMap (fun _=>([]:List Int))=_
  rw [zdg (f:=fun _=>([]:List Int)) (fun _ _=>rfl),List.append_nil]
 have e2:(xi (zO p)).take (yV p).length=(List.range (yV p).length).map (fun i:Nat=>(i:Int)+1):=by
  unfold xi
  rw [←List.map_take,List.take_range,Nat.min_eq_left (by omega)]
 rw [e1,e2,List.flatMap_map]
 have e3:(List.range (yV p).length).flatMap (fun i:Nat=>xm (yW p) ((i:Int)+1))=(List.range (yV p).length).flatMap (fun i:Nat=>((yV p)[i]?).getD []):=by
  refine wZ (fun i hi=> ?_)
  have hi:=List.mem_range.1 hi
  unfold xm
  show (([[]]++yV p++List.replicate (zO p-(yV p).length) [])[((i:Int)+1).toNat]?).getD []=_
  rw [show ((i:Int)+1).toNat=i+1 by omega,List.append_assoc]
  show ((yV p++List.replicate (zO p-(yV p).length) [])[i]?).getD []=_
  rw [List.getElem?_append_left hi]
 rw [e3,zv5]
 exact zm0 _ (by omega) _ _ (Nat.le_refl _)
theorem ztV (s:BitVec 64):(Vs s).Nodup:=by
 unfold Vs
 rw [List.Nodup,List.pairwise_map]
 exact (List.nodup_range.filter _).imp (fun h e=>h (by omega))
theorem zuR {s:BitVec 64} (h:s&&& ~~~63#64=0#64) {j:Nat} (hs:s.getLsbD j=true):j<6:=by
 have hj:j<64:=BitVec.lt_of_getLsbD hs
 have:=congrArg (fun x=>x.getLsbD j) h
 simp only [BitVec.getLsbD_and,BitVec.getLsbD_not,hs,hj,decide_true,Bool.true_and,BitVec.getLsbD_zero] at this
 have h63:(63#64).getLsbD j=decide (j<6):=by
  have: ∀j:Fin 64,(63#64).getLsbD j.1=decide (j.1<6):=by decide
  exact this ⟨j,hj⟩
 rw [h63] at this
 by_cases e:j<6
 ·exact e
 ·rw [decide_eq_false e] at this;cases this
theorem zvX {s:BitVec 64} (h:s&&& ~~~63#64=0#64) (o:Int):o∈Vs s↔yN s o=true:=by
 unfold Vs
 rw [vT,List.mem_map]
 constructor
 ·rintro ⟨i,hi,rfl⟩
  obtain ⟨h1,h2⟩:=List.mem_filter.1 hi
  have:=List.mem_range.1 h1
  exact ⟨by omega,by omega,by rw [show ((i:Int)+1-1).toNat=i by omega];exact h2⟩
 ·rintro ⟨h1,h2,h3⟩
  exact ⟨(o-1).toNat,List.mem_filter.2 ⟨List.mem_range.2 (zuR h h3),h3⟩,by omega⟩
theorem zzf {p:zb} (h:zE p):WG p (zO p+1) 0 (yW p) (gh0 p):=by
 have hE:=zsa h
 obtain ⟨L,v1,v2⟩:=zvY h
 have hc:=h.cap
 have hws: ∀x∈(yW p).Ws,∃i:Nat,x=ZH p i:=fun x hx=>by
  obtain ⟨i,_,rfl⟩:=List.mem_map.1 (show x∈(List.range p.Workers.toNat).map (ZH p) from hx)
  exact ⟨i,rfl⟩
 have hb: ∀i:Nat,ZH p i=zaJ p ((i:Int)+1) (ZH p i):=fun i=>rfl
 have own:(yW p).Ws.flatMap xL=[]:=zdg (fun x hx=>by
  obtain ⟨i,rfl⟩:=hws x hx
  exact vC (by show (0:Int)≠3;decide) (by show (0:Int)≠4;decide) (by show (0:Int)≠6;decide))
 have hold:(yW p).Ws.flatMap (zL (yW p))=[]:=zdg (fun x hx=>by
  obtain ⟨i,rfl⟩:=hws x hx
  unfold zL
  rw [hb i,zkf];rfl)
 refine ⟨hE,⟨hE.S,by rw [own];exact L,fun w h1 h2=> ?_,?_,fun w _ _=>by show 1+0≤0+1000;decide⟩,fun i x hx=> ?_,?_⟩
 ·have c0:=zr8 h ⟨h1,h2⟩ (j:=0) (by decide)
  have c1:=zr8 h ⟨h1,h2⟩ (j:=1) (by decide)
  rw [show zN p w+((0:Nat):Int)=zN p w by omega] at c0
  exact ⟨c0,c1,by show (0:Nat)≤1;decide,by show (1:Nat)≤1;decide,Nat.zero_le _,by show 1+0<4294967296;decide,fun i hi=>absurd hi (Nat.not_lt_zero _)⟩
 ·rw [v1,v2];exact ⟨Nat.le_refl _,Nat.le_refl _⟩
 ·have hx:((List.range p.Workers.toNat).map (ZH p))[i]? =some x:=hx
  rw [List.getElem?_map] at hx
  cases hr:(List.range p.Workers.toNat)[i]? with
  | none=>rw [hr] at hx;cases hx
  | some j =>
   rw [hr] at hx
   injection hx with hx
   obtain ⟨h1,h2⟩:=List.getElem?_eq_some_iff.1 hr
   rw [List.getElem_range] at h2
   subst h2
   rw [←hx,hb i]
   exact WX.begin rfl rfl
 ·have hs:=zix h
  unfold zlJ
  rw [hold,List.append_nil,zyt h]
  refine ⟨fun o ho=>absurd ho (zex o),ztV _,fun o=> ?_⟩
  rw [zvX hs,Uu]
  exact ⟨fun e=>⟨e,zex o⟩,fun e=>e.1⟩
theorem zq5 (n:Nat) (hn:1≤n): ∀(f:Nat) (l c:List Int),c∈vd n f l→c≠[]
 | 0,l,c,h=>by simp [vd] at h
 | f+1,[],c,h=>by simp [vd] at h
 | f+1,x::l,c,h=>by
  simp only [vd,List.mem_cons] at h
  rcases h with h | h
  ·rw [h]
   match n,hn with
   | m+1,_=>exact List.cons_ne_nil _ _
  ·exact zq5 n hn f _ c h
theorem zzg {p:zb} (h:zE p): ∀y∈(gh0 p).F,xm (yW p) y≠[]:=by
 intro y hy
 have hb:=h.bin
 have hfl:=zka h
 have hbs:=zbf h
 have hmost:=h.most
 have hw:=h.wk
 have hm:=h.mt
 have hy:y∈(xi (zO p)).take (yV p).length:=hy
 have e2:(xi (zO p)).take (yV p).length=(List.range (yV p).length).map (fun i:Nat=>(i:Int)+1):=by
  unfold xi
  rw [←List.map_take,List.take_range,Nat.min_eq_left (by omega)]
 rw [e2] at hy
 obtain ⟨i,hi,rfl⟩:=List.mem_map.1 hy
 have hi:=List.mem_range.1 hi
 unfold xm
 show (([[]]++yV p++List.replicate (zO p-(yV p).length) [])[((i:Int)+1).toNat]?).getD []≠[]
 rw [show ((i:Int)+1).toNat=i+1 by omega,List.append_assoc]
 show ((yV p++List.replicate (zO p-(yV p).length) [])[i]?).getD []≠[]
 rw [List.getElem?_append_left hi,List.getElem?_eq_getElem hi]
 exact zq5 _ (by omega) _ _ _ (List.getElem_mem hi)
end
end Go.Pe.G
namespace Go.Pe.G
open Go.Pe
noncomputable section
theorem Wl (a b:BitVec 64) (q:Int):yN (a|||b) q=true↔yN a q=true∨yN b q=true:=by
 rw [vT,vT,vT,BitVec.getLsbD_or,Bool.or_eq_true]
 constructor
 ·rintro ⟨h1,h2,h | h⟩
  ·exact .inl ⟨h1,h2,h⟩
  ·exact .inr ⟨h1,h2,h⟩
 ·rintro (⟨h1,h2,h⟩ | ⟨h1,h2,h⟩)
  ·exact ⟨h1,h2,.inl h⟩
  ·exact ⟨h1,h2,.inr h⟩
theorem zds (h:zt) (a i v:Int):(Vj h a i v).Objs.length=h.Objs.length:=by
 unfold Vj;split<;>simp
theorem zle (h:zt):(ZZ h).Objs.length=h.Objs.length+1:=by unfold ZZ;simp
end
end Go.Pe.G
namespace Go.Pe.G
open Go.Pe
noncomputable section
theorem zoq: ∀(n:Fin 10) (j:Fin 64),(WN (n.1:Int)).getLsbD j.1=decide (j.1<n.1):=by decide +kernel
theorem zuX {n:Nat} (hn:n≤9) (o:Int):yN (WN (n:Int)) o=true↔1≤o∧o≤(n:Int):=by
 rw [vT]
 constructor
 ·rintro ⟨a,b,c⟩
  have:=zoq ⟨n,by omega⟩ ⟨(o-1).toNat,by omega⟩
  rw [this] at c
  have:(o-1).toNat<n:=by simpa using c
  omega
 ·rintro ⟨a,b⟩
  have:=zoq ⟨n,by omega⟩ ⟨(o-1).toNat,by omega⟩
  refine ⟨a,by omega,?_⟩
  rw [this]
  exact decide_eq_true (by show (o-1).toNat<n;omega)
end
end Go.Pe.G
namespace Go.Pe.G
open Go.Pe
noncomputable section
theorem zq0 {t:zr} {o:Int} (ho:1≤o∧o≤64) (hm: ¬yN t.Marks o=true) (hb: ¬yN t.Black o=true):uA t o=({t with Marks:=t.Marks|||bit o},true):=by
 unfold uA
 rw [if_neg ((zcv ho).2 hm),if_pos]
 unfold yN at hb
 simpa using hb
theorem zxz {o q:Int} (h:yN (bit o) q=true):q=o:=by
 by_cases ho:1≤o∧o≤64
 ·have:=(v8 0#64 ho q).1 (by simpa using h)
  exact this.resolve_left (zex q)
 ·unfold bit at h;rw [if_neg ho] at h;exact absurd h (zex q)
theorem zhf {m:BitVec 64} {o q:Int} (h:yN (m|||bit o) q=true):yN m q=true∨q=o:=((Wl _ _ _).1 h).imp id zxz
theorem zrL (t:zr) (o:Int):uu t o=2↔yN t.Marks o=true∧yN t.Black o=true:=by
 unfold uu
 cases h:yN (t.Marks&&&t.Black) o with
 | true=>simp only [if_true,true_iff];exact (zgF _ _ o).1 h
 | false =>
  have hn: ¬(yN t.Marks o=true∧yN t.Black o=true):=fun e=>by rw [(zgF _ _ o).2 e] at h;cases h
  simp only [Bool.false_eq_true,if_false]
  constructor
  ·intro e;split at e<;>omega
  ·intro e;exact absurd e hn
theorem zeu (t:zr) (o:Int):(uA t o).1.Black=t.Black∧((uA t o).1.Marks=t.Marks∨(uA t o).1.Marks=t.Marks|||bit o):=by
 unfold uA
 split
 ·exact ⟨rfl,.inl rfl⟩
 split
 ·exact ⟨rfl,.inr rfl⟩
 ·exact ⟨rfl,.inl rfl⟩
theorem zjw (t:zr) (o:Int):(ue t o).Marks=t.Marks∧((ue t o).Black=t.Black∨((ue t o).Black=t.Black|||bit o∧yN t.Marks o=true)):=by
 unfold ue
 split
 ·rename_i h;exact ⟨rfl,.inr ⟨rfl,((Uu t o).1 h).1⟩⟩
 ·exact ⟨rfl,.inl rfl⟩
theorem zwp (s:za) (g:zC):(zu s g).1.T=s.T∨(zu s g).1.T=(uA s.T g.Obj).1:=by
 unfold zu
 split
 ·exact .inl rfl
 split
 ·exact .inl rfl
 split
 ·exact .inl rfl
 split
 ·exact .inl rfl
 split
 ·exact .inl rfl
 split
 ·exact .inl rfl
 split
 ·exact .inl rfl
 split
 ·exact .inr rfl
 ·exact .inl rfl
theorem znd (s:za) (m:Int) (x:zc) :
  ((zm s m x).1.H.Objs.length=s.H.Objs.length∧((zm s m x).1.T=s.T∨((zm s m x).1.T=(uA s.T x.G.Obj).1∧(x.PC=3∨x.PC=37))∨(zm s m x).1.T=ue s.T x.Obj) ∧
   ((zm s m x).1.L=s.L∨(∃w,(zm s m x).1.L=(zaT s.L m w).1)∨(zm s m x).1.L=zaU s.L m)) ∨
  ((zm s m x).1.H=ZZ s.H∧(zm s m x).1.T=VY s.T (wc (s.H.Objs.length+1))∧(zm s m x).1.L=Yl s.L m s.P.Price∧zbi s.L m s.P.Price s.P.Limit=true∧X6 s.H s.P.Most=true):=by
 refine uw (motive:=fun r=>(r.1.H.Objs.length=s.H.Objs.length∧(r.1.T=s.T∨(r.1.T=(uA s.T x.G.Obj).1∧(x.PC=3∨x.PC=37))∨r.1.T=ue s.T x.Obj)∧(r.1.L=s.L∨(∃w,r.1.L=(zaT s.L m w).1)∨r.1.L=zaU s.L m)) ∨
  (r.1.H=ZZ s.H∧r.1.T=VY s.T (wc (s.H.Objs.length+1))∧r.1.L=Yl s.L m s.P.Price∧zbi s.L m s.P.Price s.P.Limit=true∧X6 s.H s.P.Most=true)) s m x ?_ ?_ ?_ ?_ ?_ ?_ ?_ ?_ ?_ ?_ ?_ ?_ ?_ ?_ ?_ ?_ ?_ ?_ ?_ ?_
 ·intro c;exact .inl ⟨rfl,.inl rfl,.inl rfl⟩
 ·intro c;exact .inl ⟨rfl,.inl rfl,.inl rfl⟩
 ·intro c;exact .inl ⟨rfl,.inl rfl,.inl rfl⟩
 ·intro c;unfold mu3
  refine .inl ⟨by rw [VD],(zwp s x.G).imp id (fun h=> .inl ⟨h,.inl c⟩),.inl (by rw [VD])⟩
 ·intro c;exact .inl ⟨rfl,.inl rfl,.inl rfl⟩
 ·intro c;exact .inl ⟨rfl,.inl rfl,.inl rfl⟩
 ·intro c;exact .inl ⟨rfl,.inl rfl,.inl rfl⟩
 ·intro c;exact .inl ⟨rfl,.inl rfl,.inl rfl⟩
 ·intro c;exact .inl ⟨zds _ _ _ _,.inl rfl,.inl rfl⟩
 ·intro c;unfold zbN
  split
  ·split
   ·rename_i h1 h2;exact .inr ⟨rfl,rfl,rfl,h1,h2⟩
   ·exact .inl ⟨rfl,.inl rfl,.inl rfl⟩
  ·exact .inl ⟨rfl,.inl rfl,.inl rfl⟩
 ·intro c;exact .inl ⟨rfl,.inl rfl,.inr (.inl ⟨_,rfl⟩)⟩
 ·intro c;exact .inl ⟨rfl,.inl rfl,.inl rfl⟩
 ·intro c;exact .inl ⟨rfl,.inl rfl,.inl rfl⟩
 ·intro c;exact .inl ⟨rfl,.inl rfl,.inl rfl⟩
 ·intro c;exact .inl ⟨rfl,.inl rfl,.inl rfl⟩
 ·intro c;exact .inl ⟨rfl,.inl rfl,.inl rfl⟩
 ·intro c;unfold zin
  refine .inl ⟨by rw [VD],(zwp s x.G).imp id (fun h=> .inl ⟨h,.inr c⟩),.inl (by rw [VD])⟩
 ·intro c;exact .inl ⟨rfl,.inr (.inr rfl),.inr (.inr rfl)⟩
 ·intro c;exact .inl ⟨rfl,.inl rfl,.inl rfl⟩
 ·exact .inl ⟨rfl,.inl rfl,.inl rfl⟩
def U1 (n:Int) (x:zc):Prop:=(∀v∈x.Buf,v≤n)∧x.Old≤n∧(x.PC=3∨x.PC=37→x.G.Obj≤n)
theorem ztn {h:zt} {n:Int} (h0:0≤n) (hv: ∀l∈h.Objs,∀v∈l,v≤n) (o i:Int):xU h o i≤n:=by
 unfold xU
 split
 ·rw [List.getD_eq_getElem?_getD]
  cases hx:(xk h o)[i.toNat]? with
  | none=>exact h0
  | some v =>
   have hm:=List.mem_of_getElem? hx
   unfold xk at hm
   rw [List.getD_eq_getElem?_getD] at hm
   cases hy:h.Objs[(o-1).toNat]? with
   | none=>rw [hy] at hm;cases hm
   | some l=>rw [hy] at hm;exact hv l (List.mem_of_getElem? hy) v hm
 ·exact h0
theorem zqG {p:zb} {nb:Nat} {s:za} {m:Int} {x:zc} (X:XOk p nb m x) {n:Int} (h0:0≤n) (hv: ∀l∈s.H.Objs,∀v∈l,v≤n) (B:U1 n x):U1 n (zm s m x).2:=by
 obtain ⟨b1,b2,b3⟩:=B
 have no: ∀ {y:zc},(∀v∈y.Buf,v≤n)→y.Old≤n→¬(y.PC=3∨y.PC=37)→U1 n y:=fun h1 h2 h3=>⟨h1,h2,fun e=>absurd e h3⟩
 refine uw (motive:=fun r=>U1 n r.2) s m x ?_ ?_ ?_ ?_ ?_ ?_ ?_ ?_ ?_ ?_ ?_ ?_ ?_ ?_ ?_ ?_ ?_ ?_ ?_ ?_
 ·intro c;unfold mu0 zaA
  repeat' split
  all_goals exact no b1 b2 (by dsimp only [setM];omega)
 ·intro c;unfold mu1;dsimp only
  split
  ·exact no b1 b2 (by have:=X.ret (.inl c);show ¬(x.Ret=3∨x.Ret=37);omega)
  ·rename_i hl
   refine ⟨fun v hv=>b1 v (List.mem_of_mem_take hv),b2,fun _=> ?_⟩
   show x.Buf.getD (x.Buf.length-1) 0≤n
   rw [List.getD_eq_getElem?_getD,List.getElem?_eq_getElem (show x.Buf.length-1<x.Buf.length by omega)]
   exact b1 _ (List.getElem_mem _)
 ·intro c;unfold mu2;exact no b1 b2 (by show ¬((0:Int)=3∨(0:Int)=37);decide)
 ·intro c;unfold mu3;dsimp only
  split
  ·exact no b1 b2 (by show ¬((1:Int)=3∨(1:Int)=37);decide)
  ·exact ⟨b1,b2,fun _=>by show (zu s x.G).2.Obj≤n;rw [(Vy s x.G).1];exact b3 (.inl c)⟩
 ·intro c;unfold zeN;exact no b1 b2 (by show ¬((0:Int)=3∨(0:Int)=37);decide)
 ·intro c;unfold zfb;dsimp only
  split
  ·exact no b1 b2 (by show ¬((0:Int)=3∨(0:Int)=37);decide)
  ·exact no b1 (ztn h0 hv _ _) (by show ¬((21:Int)=3∨(21:Int)=37);decide)
 ·intro c;unfold zeQ;dsimp only
  split
  ·exact no b1 h0 (by show ¬((23:Int)=3∨(23:Int)=37);decide)
  ·exact no b1 b2 (by show ¬((22:Int)=3∨(22:Int)=37);decide)
 ·intro c;unfold ze2;dsimp only
  split
  ·exact no b1 b2 (by show ¬((1:Int)=3∨(1:Int)=37);decide)
  ·refine no (fun v hv=> ?_) h0 (by show ¬((23:Int)=3∨(23:Int)=37);decide)
   rcases List.mem_append.1 hv with h | h
   ·exact b1 v h
   ·rw [List.mem_singleton.1 h];exact b2
 ·intro c;unfold zeV;exact no b1 b2 (by show ¬((0:Int)=3∨(0:Int)=37);decide)
 ·intro c;unfold zbN
  split
  ·split
   ·exact no b1 b2 (by show ¬((0:Int)=3∨(0:Int)=37);decide)
   ·exact no b1 b2 (by show ¬((0:Int)=3∨(0:Int)=37);decide)
  ·exact no b1 b2 (by show ¬((31:Int)=3∨(31:Int)=37);decide)
 ·intro c;unfold zj8;dsimp only
  split
  ·exact no b1 b2 (by show ¬((32:Int)=3∨(32:Int)=37);decide)
  ·exact no b1 b2 (by show ¬((0:Int)=3∨(0:Int)=37);decide)
 ·intro c;unfold zky;dsimp only
  split
  ·exact no b1 b2 (by show ¬((33:Int)=3∨(33:Int)=37);decide)
  split
  ·exact no b1 b2 (by show ¬((0:Int)=3∨(0:Int)=37);decide)
  ·exact no b1 b2 (by show ¬(x.PC=3∨x.PC=37);omega)
 ·intro c;unfold zj2;exact no b1 b2 (by show ¬((34:Int)=3∨(34:Int)=37);decide)
 ·intro c;unfold zj7;dsimp only
  split
  ·exact no b1 b2 (by show ¬((35:Int)=3∨(35:Int)=37);decide)
  ·exact no b1 b2 (by show ¬(x.PC=3∨x.PC=37);omega)
 ·intro c;unfold zkz;dsimp only
  split
  ·exact no b1 b2 (by show ¬((0:Int)=3∨(0:Int)=37);decide)
  ·exact no b1 b2 (by show ¬((36:Int)=3∨(36:Int)=37);decide)
 ·intro c;unfold zkC;dsimp only
  split
  ·exact no b1 b2 (by have:=zjh s (wc (x.Slot+1));show ¬(onM s (wc (x.Slot+1))=3∨onM s (wc (x.Slot+1))=37);omega)
  ·exact ⟨b1,b2,fun _=>ztn h0 hv _ _⟩
 ·intro c;unfold zin;dsimp only
  split
  ·exact no b1 b2 (by have:=zjh s x.Slot;show ¬(onM s x.Slot=3∨onM s x.Slot=37);omega)
  ·exact ⟨b1,b2,fun _=>by show (zu s x.G).2.Obj≤n;rw [(Vy s x.G).1];exact b3 (.inr c)⟩
 ·intro c;unfold zkD;exact no b1 b2 (by show ¬((39:Int)=3∨(39:Int)=37);decide)
 ·intro c;unfold zme;exact no b1 b2 (by show ¬((35:Int)=3∨(35:Int)=37);decide)
 ·exact ⟨b1,b2,b3⟩
theorem zqw: ∀(l:List Int) (i:Nat) (v:Int),i<l.length→(l.set i v).sum=l.sum-l.getD i 0+v
 | [],i,v,h=>by simp at h
 | a::l,0,v,h=>by simp only [List.set_cons_zero,List.sum_cons,List.getD_cons_zero];omega
 | a::l,i+1,v,h=>by
  simp only [List.set_cons_succ,List.sum_cons,List.getD_cons_succ,zqw l i v (by simpa using h)];omega
structure LdI (p:zb) (k d:Int) (l:zj):Prop where
 pool:l.Pool=0
 sc:0≤l.Scanned∧l.Scanned≤k
 sp:l.Spent=p.Price*d
 bal: ∀b∈l.Bal,-p.Limit≤b∧b≤k
 sum:l.Bal.sum=l.Scanned-l.Spent
theorem LdI.more {p:zb} {k d:Int} {l:zj} (I:LdI p k d l):LdI p (k+1) d l :=
 ⟨I.pool,by have:=I.sc;omega,I.sp,fun b hb=>by have:=I.bal b hb;omega,I.sum⟩
theorem zvM {l:List Int} {i:Nat} (h:i<l.length):l.getD i 0∈l:=by
 rw [List.getD_eq_getElem?_getD,List.getElem?_eq_getElem h];exact List.getElem_mem h
theorem LdI.take {p:zb} {k d:Int} {l:zj} (I:LdI p k d l) (m w:Int):(zaT l m w).1=l:=by
 unfold zaT zi2
 rw [if_neg]
 rintro ⟨_,h⟩
 rw [I.pool] at h
 split at h<;>omega
theorem LdI.earn {p:zb} (hp:zE p) {k d:Int} (hk:0≤k∧k≤1000) {l:zj} (I:LdI p k d l) {m:Int} (hm:1≤m∧m≤(l.Bal.length:Int)):LdI p (k+1) d (zaU l m):=by
 have hsc:=I.sc
 have hl:=hp.limit
 have hb:=I.bal _ (zvM (l:=l.Bal) (i:=(m-1).toNat) (by omega))
 unfold zaU
 rw [if_pos hm]
 have w1:wc (l.Scanned+1)=l.Scanned+1:=xq (by omega) (by omega)
 have w2:wc (l.Bal.getD (m-1).toNat 0+1)=l.Bal.getD (m-1).toNat 0+1:=xq (by omega) (by omega)
 rw [w1,w2]
 refine ⟨I.pool,by dsimp only;omega,I.sp,fun b hb'=> ?_,?_⟩
 ·rcases List.mem_or_eq_of_mem_set hb' with h | rfl
  ·have:=I.bal b h;omega
  ·omega
 ·dsimp only
  rw [zqw _ _ _ (by omega),I.sum];omega
theorem zwi {a d:Int} (h:0≤a∧a≤3):a*(d+1)=a*d+a:=by rw [Int.mul_add,Int.mul_one]
theorem zxO {a d:Int} (h:0≤a∧a≤3) (hd:0≤d∧d≤10):0≤a*d∧a*d≤30:=by
 refine ⟨Int.mul_nonneg h.1 hd.1,?_⟩
 have:=Int.mul_le_mul h.2 hd.2 hd.1 (by decide:(0:Int)≤3)
 omega
theorem LdI.spend {p:zb} (hp:zE p) {k d:Int} (hk:0≤k∧k≤1000) (hd:0≤d∧d≤9) {l:zj} (I:LdI p k d l) {m:Int} (h:zbi l m p.Price p.Limit=true):LdI p (k+1) (d+1) (Yl l m p.Price):=by
 have hsc:=I.sc
 have hl:=hp.limit
 have hpr:=hp.price
 have hsp:=zxO hpr (d:=d) (by omega)
 have e1:=I.sp
 unfold zbi Vb XY at h
 simp only [Bool.and_eq_true,decide_eq_true_eq] at h
 obtain ⟨⟨⟨⟨⟨⟨m1,m2⟩,_⟩,_⟩,_⟩,_⟩,h⟩:=h
 have hb:=I.bal _ (zvM (l:=l.Bal) (i:=(m-1).toNat) (by omega))
 unfold VL at h
 rw [xq (by omega) (by omega),xq (by omega) (by omega)] at h
 unfold Yl VL
 rw [xq (by omega) (by omega),xq (by omega) (by omega)]
 refine ⟨I.pool,by dsimp only;omega,?_,fun b hb'=> ?_,?_⟩
 ·dsimp only;rw [zwi hpr];omega
 ·rcases List.mem_or_eq_of_mem_set hb' with h2 | rfl
  ·have:=I.bal b h2;omega
  ·omega
 ·dsimp only
  rw [zqw _ _ _ (by omega),I.sum];omega
structure NwI (p:zb) (k:Int) (s:za):Prop where
 mrk: ∀o,yN s.T.Marks o=true→o≤(s.H.Objs.length:Int)
 bm: ∀o,yN s.T.Black o=true→yN s.T.Marks o=true
 bk: ∀o,(p.H.Objs.length:Int)<o→o≤(s.H.Objs.length:Int)→uu s.T o=2
 buf: ∀x∈s.Ms,U1 (s.H.Objs.length:Int) x
 bl:s.L.Bal.length=s.Ms.length
 L:LdI p k ((s.H.Objs.length:Int)-(p.H.Objs.length:Int)) s.L
theorem zxp (l:zj) (m:Int):(zaU l m).Bal.length=l.Bal.length:=by unfold zaU;split<;>simp
theorem NwI.step {p:zb} {nb:Nat} (hp:zE p) {k:Int} (hk:0≤k∧k≤1000) {s:za} (E:EOk p nb s) (I:NwI p k s) (m:Int):NwI p (k+1) (yc s m):=by
 have hN:=E.H.n
 have hM:=hp.most
 have hn6:=hp.n
 unfold yc
 split
 ·exact ⟨I.mrk,I.bm,I.bk,I.buf,I.bl,I.L.more⟩
 rename_i hne
 cases hx:s.Ms[(m-1).toNat]? with
 | none=>exact ⟨I.mrk,I.bm,I.bk,I.buf,I.bl,I.L.more⟩
 | some x =>
  have hm:1≤m∧m≤(s.Ms.length:Int):=by omega
  have X:=E.X _ x hx
  have B:=I.buf x (List.mem_of_getElem? hx)
  have em:(((m-1).toNat:Nat):Int)+1=m:=by omega
  rw [em] at X
  have B':=zqG (s:=s) X (n:=(s.H.Objs.length:Int)) (by omega) (fun l hl v hv=>((E.H.objs l hl).2 v hv).2) B
  have bufs: ∀N':Int,(s.H.Objs.length:Int)≤N'→∀y∈s.Ms.set (m-1).toNat (zm s m x).2,U1 N' y:=fun N' hN' y hy=>by
   have up: ∀ {z:zc},U1 (s.H.Objs.length:Int) z→U1 N' z:=fun ⟨a,b,c⟩=>⟨fun v hv=>by have:=a v hv;omega,by omega,fun e=>by have:=c e;omega⟩
   rcases List.mem_or_eq_of_mem_set hy with h | rfl
   ·exact up (I.buf y h)
   ·exact up B'
  have hL:=I.L
  rcases znd s m x with ⟨k1,k2,k3⟩ | ⟨k1,k2,k3,k4,k5⟩
  ·refine ⟨fun o ho=> ?_,fun o ho=> ?_,fun o h1 h2=> ?_,?_,?_,?_⟩
   ·dsimp only at ho ⊢
    rw [k1]
    rcases k2 with e | ⟨e,hpc⟩ | e
    ·rw [e] at ho;exact I.mrk o ho
    ·rw [e] at ho
     rcases (zeu s.T x.G.Obj).2 with e2 | e2
     ·rw [e2] at ho;exact I.mrk o ho
     ·rw [e2] at ho
      rcases zhf ho with h | rfl
      ·exact I.mrk o h
      ·exact B.2.2 hpc
    ·rw [e,(zjw s.T x.Obj).1] at ho;exact I.mrk o ho
   ·dsimp only at ho ⊢
    rcases k2 with e | ⟨e,hpc⟩ | e
    ·rw [e] at ho ⊢;exact I.bm o ho
    ·rw [e] at ho ⊢
     rw [(zeu s.T x.G.Obj).1] at ho
     have:=I.bm o ho
     rcases (zeu s.T x.G.Obj).2 with e2 | e2
     ·rw [e2];exact this
     ·rw [e2];exact (Wl _ _ _).2 (.inl this)
    ·rw [e] at ho ⊢
     rw [(zjw s.T x.Obj).1]
     rcases (zjw s.T x.Obj).2 with e2 | ⟨e2,h3⟩
     ·rw [e2] at ho;exact I.bm o ho
     ·rw [e2] at ho
      rcases zhf ho with h | rfl
      ·exact I.bm o h
      ·exact h3
   ·dsimp only at h2 ⊢
    rw [k1] at h2
    have h:=(zrL _ _).1 (I.bk o h1 h2)
    rw [zrL]
    rcases k2 with e | ⟨e,hpc⟩ | e
    ·rw [e];exact h
    ·rw [e,(zeu s.T x.G.Obj).1]
     refine ⟨?_,h.2⟩
     rcases (zeu s.T x.G.Obj).2 with e2 | e2
     ·rw [e2];exact h.1
     ·rw [e2];exact (Wl _ _ _).2 (.inl h.1)
    ·rw [e,(zjw s.T x.Obj).1]
     refine ⟨h.1,?_⟩
     rcases (zjw s.T x.Obj).2 with e2 | ⟨e2,_⟩
     ·rw [e2];exact h.2
     ·rw [e2];exact (Wl _ _ _).2 (.inl h.2)
   ·dsimp only;rw [k1];exact bufs _ (Int.le_refl _)
   ·dsimp only
    rw [List.length_set]
    rcases k3 with e | ⟨w,e⟩ | e
    ·rw [e];exact I.bl
    ·rw [e,hL.take];exact I.bl
    ·rw [e,zxp];exact I.bl
   ·dsimp only
    rw [k1]
    rcases k3 with e | ⟨w,e⟩ | e
    ·rw [e];exact hL.more
    ·rw [e,hL.take];exact hL.more
    ·rw [e];exact hL.earn hp hk (by have:=I.bl;omega)
  ·have w:wc ((s.H.Objs.length:Int)+1)=(s.H.Objs.length:Int)+1:=xq (by omega) (by omega)
   have hal:=zle s.H
   have hP:=E.S.P
   have hr:(s.H.Objs.length:Int)<s.P.Most:=by
    unfold X6 at k5
    simp only [Bool.and_eq_true,decide_eq_true_eq] at k5
    exact k5.1
   rw [hP] at hr k3 k4
   rw [w] at k2
   have nm: ¬yN s.T.Marks ((s.H.Objs.length:Int)+1)=true:=fun e=>by have:=I.mrk _ e;omega
   have nb': ¬yN s.T.Black ((s.H.Objs.length:Int)+1)=true:=fun e=>nm (I.bm _ e)
   have hsh:=zq0 (t:=s.T) (o:=(s.H.Objs.length:Int)+1) (by omega) nm nb'
   have ht1:uu {s.T with Marks:=s.T.Marks|||bit ((s.H.Objs.length:Int)+1)} ((s.H.Objs.length:Int)+1)=1 :=
    (Uu _ _).2 ⟨(v8 _ (by omega) _).2 (.inr rfl),nb'⟩
   have hT:(zm s m x).1.T=⟨s.T.Marks|||bit ((s.H.Objs.length:Int)+1),s.T.Black|||bit ((s.H.Objs.length:Int)+1)⟩:=by
    rw [k2]
    unfold VY
    rw [hsh]
    dsimp only
    rw [if_pos rfl]
    unfold ue
    rw [if_pos ht1]
   refine ⟨fun o ho=> ?_,fun o ho=> ?_,fun o h1 h2=> ?_,?_,?_,?_⟩
   ·dsimp only at ho ⊢
    rw [k1,hal]
    rw [hT] at ho
    rcases zhf ho with h | rfl
    ·have:=I.mrk o h;omega
    ·omega
   ·dsimp only at ho ⊢
    rw [hT] at ho ⊢
    dsimp only at ho ⊢
    rw [Wl]
    rcases (Wl _ _ _).1 ho with h | h
    ·exact .inl (I.bm o h)
    ·exact .inr h
   ·dsimp only at h2 ⊢
    rw [k1,hal] at h2
    rw [zrL,hT]
    dsimp only
    by_cases ho:o≤(s.H.Objs.length:Int)
    ·have h:=(zrL _ _).1 (I.bk o h1 ho)
     exact ⟨(Wl _ _ _).2 (.inl h.1),(Wl _ _ _).2 (.inl h.2)⟩
    ·have:o=(s.H.Objs.length:Int)+1:=by omega
     subst this
     exact ⟨(v8 _ (by omega) _).2 (.inr rfl),(v8 _ (by omega) _).2 (.inr rfl)⟩
   ·dsimp only;rw [k1,hal];exact bufs _ (by omega)
   ·dsimp only
    rw [List.length_set,k3]
    unfold Yl
    rw [List.length_set]
    exact I.bl
   ·dsimp only
    rw [k3,k1,hal]
    have:=hL.spend hp hk (by omega) k4
    have e:((s.H.Objs.length+1:Nat):Int)-(p.H.Objs.length:Int)=(s.H.Objs.length:Int)-(p.H.Objs.length:Int)+1:=by omega
    rw [e]
    exact this
end
end Go.Pe.G
namespace Go.Pe.G
open Go.Pe
noncomputable section
theorem zwO (s:BitVec 64) {q:Int} (h:1≤q∧q≤64):yN (~~~s) q=true↔¬yN s q=true:=by
 rw [vT,vT,BitVec.getLsbD_not]
 simp only [show (q-1).toNat<64 by omega,decide_true,Bool.true_and,Bool.not_eq_true']
 constructor
 ·rintro ⟨_,_,e⟩ ⟨_,_,e2⟩;rw [e] at e2;cases e2
 ·intro e
  refine ⟨h.1,h.2,?_⟩
  cases hs:s.getLsbD (q-1).toNat with
  | false=>rfl
  | true=>exact absurd ⟨h.1,h.2,hs⟩ e
end
end Go.Pe.G
namespace Go.Pe.G
open Go.Pe
noncomputable section
def UE (p:zb) (s:za) (g:Gh):List Int:=yr p s g++(s.Ws.flatMap (zL s)++s.Ms.flatMap (yf s))
structure FG (p:zb) (nb k:Nat) (s:za) (gh:Gh):Prop where
 E:EOk p nb s
 X:SX p nb s gh (s.Ws.flatMap xL++s.Ms.flatMap ve) k
 W: ∀(i:Nat) x,s.Ws[i]? =some x→WX p s gh ((i:Int)+1) x
 M: ∀(i:Nat) x,s.Ms[i]? =some x→MX p s gh x
 B:Uw (UE p s gh) s.T
 mrk: ∀o,yN s.T.Marks o=true→o≤(s.H.Objs.length:Int)
 wob: ∀(i:Nat) x,s.Ws[i]? =some x→x.PC=6→x.G.Obj≤(s.H.Objs.length:Int)
 buf: ∀x∈s.Ms,U1 (s.H.Objs.length:Int) x
 bk: ∀o,(p.H.Objs.length:Int)<o→o≤(s.H.Objs.length:Int)→yN s.T.Black o=true
 ne: ∀y∈gh.F,xm s y≠[]
theorem FX.ne {p:zb} {nb k:Nat} {s s':za} {gh gh':Gh} {Y R:List Int} {O:Int→Prop} (X:SX p nb s gh (Y++R) k) (Fx:FX p nb Y O s s' gh gh') (h: ∀y∈gh.F,xm s y≠[]): ∀y∈gh'.F,xm s' y≠[]:=fun y hy =>
 (Fx.fb y hy).elim (fun hy=>by
  have h1:=zrb.1 (X.L.all.subset (List.mem_append_left _ (List.mem_append_left _ hy)))
  have h2:y∉Y:=fun e=>(X.L.notF (List.mem_append_left _ e)).1 hy
  have:=Fx.bn y h1.1 h2
  unfold xm
  rw [this];exact h y hy) id
theorem MX.state {p:zb} {s s':za} {gh:Gh} {x:zc} (W:MX p s gh x) (hm:s'.M=s.M) (hb:s'.Bins=s.Bins):MX p s' gh x :=
 ⟨W.bt,W.bf,W.ol,fun e=>⟨(W.p3 e).1.state hm hb,(W.p3 e).2⟩,by rw [hm];exact W.p32,by rw [hm];exact W.p34,fun e=>⟨(W.p37 e).1.state hm hb,(W.p37 e).2⟩⟩
theorem znc {s s':za} {x:zc} (hb:s'.Bins=s.Bins):yf s' x=yf s x:=by
 unfold yf za7 xm;rw [hb]
def zov (s s':za):Prop :=
 (s'.T=s.T∧s'.H.Objs.length=s.H.Objs.length) ∨
 (∃o,(1≤o∧o≤(s.H.Objs.length:Int))∧¬yN s.T.Marks o=true∧s'.T={s.T with Marks:=s.T.Marks|||bit o}∧s'.H=s.H) ∨
 (∃o,uu s.T o=1∧s'.T={s.T with Black:=s.T.Black|||bit o}∧s'.H=s.H) ∨
 (s'.H=ZZ s.H∧(s.H.Objs.length:Int)<9∧s'.T=⟨s.T.Marks|||bit ((s.H.Objs.length:Int)+1),s.T.Black|||bit ((s.H.Objs.length:Int)+1)⟩)
theorem FG.tints {p:zb} {nb k:Nat} {s:za} {gh:Gh} (G:FG p nb k s gh) {s':za} (F:zov s s') :
  (∀o,yN s'.T.Marks o=true→o≤(s'.H.Objs.length:Int))∧(∀o,(p.H.Objs.length:Int)<o→o≤(s'.H.Objs.length:Int)→yN s'.T.Black o=true):=by
 rcases F with ⟨e,h⟩ | ⟨o,ho,hn,e,h⟩ | ⟨o,ho,e,h⟩ | ⟨h,hl,e⟩
 ·rw [e,h];exact ⟨G.mrk,G.bk⟩
 ·rw [e,h]
  refine ⟨fun q hq=> ?_,G.bk⟩
  rcases zhf hq with hq | rfl
  ·exact G.mrk q hq
  ·exact ho.2
 ·rw [e,h]
  exact ⟨G.mrk,fun q h1 h2=>(Wl _ _ _).2 (.inl (G.bk q h1 h2))⟩
 ·rw [e,h]
  have hal:=zle s.H
  refine ⟨fun q hq=> ?_,fun q h1 h2=> ?_⟩
  ·rcases zhf hq with hq | rfl
   ·have:=G.mrk q hq;omega
   ·omega
  ·dsimp only
   by_cases hq:q≤(s.H.Objs.length:Int)
   ·exact (Wl _ _ _).2 (.inl (G.bk q h1 hq))
   ·have:q=(s.H.Objs.length:Int)+1:=by omega
    subst this
    exact (v8 _ (by omega) _).2 (.inr rfl)
theorem FG.worker {p:zb} (hp:zE p) {nb k:Nat} {s:za} {gh:Gh} (hk:k<4294960000) (G:FG p nb k s gh) {w:Int} (hw:1≤w∧w≤p.Workers) (hd:s.Done=false): ∃gh',FG p nb (k+1) (YA s w) gh'∧zov s (YA s w) ∧
  ∃x,s.Ws[(w-1).toNat]? =some x∧∃N C,List.Perm (UE p (YA s w) gh'++C) (N++UE p s gh)∧((N=[]∧C=[]∧(zo s w x).1.T=s.T)∨(N=[x.G.Obj]∧C=[]∧x.PC=6∧¬(s.T.Marks|||bit x.G.Obj=s.T.Marks)∧(zo s w x).1.T={s.T with Marks:=s.T.Marks|||bit x.G.Obj})∨(N=[]∧C=[x.Obj]∧x.PC=8∧(zo s w x).1.T=ue s.T x.Obj)):=by
 have hE:=zsH hp G.E w
 have hwl:=G.E.wl
 have e0: ¬(s.Done=true∨w<1∨(s.Ws.length:Int)<w):=by rw [hd];rintro (e | e | e)<;>first | cases e | omega
 revert hE
 unfold YA
 rw [if_neg e0]
 have hi:(w-1).toNat<s.Ws.length:=by omega
 have hx:=List.getElem?_eq_getElem hi
 generalize s.Ws[(w-1).toNat]=x at hx
 rw [hx]
 dsimp only
 intro hE
 obtain ⟨a,b,el,es,hab,hba⟩:=znk hx
 have ei:(((w-1).toNat:Nat):Int)+1=w:=by omega
 have hWX:=G.W _ x hx
 have hWO:=G.E.W _ x hx
 rw [ei] at hWX hWO
 have hfr:=zuO (s:=s) hWO
 have eH:(zo s w x).1.H=s.H:=by rw [hfr]
 have eMs:(zo s w x).1.Ms=s.Ms:=by rw [hfr]
 have X0:SX p nb s gh (xL x++((a++b).flatMap xL++s.Ms.flatMap ve)) k:=by
  refine G.X.perm ?_
  rw [←List.append_assoc]
  refine List.Perm.append_right _ ?_
  conv=>rhs;rw [el]
  exact uz.symm
 obtain ⟨gh',X',W',Fx,N,C,hN,hT⟩:=zxT hp hk hw X0 hWO hWX (fun o i=>G.E.H.get hp o i)
 have hoth: ∀(j:Nat) y,j≠(w-1).toNat→s.Ws[j]? =some y→WX p (zo s w x).1 gh' ((j:Int)+1) y∧zL (zo s w x).1 y=zL s y:=by
  intro j y hj hy
  have hjl:=(List.getElem?_eq_some_iff.1 hy).1
  exact WX.other hp (w:=(j:Int)+1) (by omega) X0 Fx (G.W j y hy) (G.E.W j y hy) (fun z hz=>List.mem_append_left _ (List.mem_flatMap.2 ⟨y,hba j y hj hy,hz⟩)) (fun e=>hj (by omega))
 have hmut: ∀(j:Nat) y,s.Ms[j]? =some y→MX p (zo s w x).1 gh' y∧yf (zo s w x).1 y=yf s y:=by
  intro j y hy
  exact MX.other hp X0 Fx (G.M j y hy) (G.E.X j y hy) (fun z hz=>List.mem_append_right _ (List.mem_flatMap.2 ⟨y,List.mem_of_getElem? hy,hz⟩))
 have hbag:List.Perm (UE p {(zo s w x).1 with Ws:=s.Ws.set (w-1).toNat (zo s w x).2} gh'++C) (N++UE p s gh):=by
  unfold UE
  have q2:(s.Ws.set (w-1).toNat (zo s w x).2).flatMap (zL {(zo s w x).1 with Ws:=s.Ws.set (w-1).toNat (zo s w x).2})=(a++(zo s w x).2::b).flatMap (zL (zo s w x).1):=by
   rw [es];exact wZ (fun y _=>ziq rfl rfl)
  have q3:(a++b).flatMap (zL (zo s w x).1)=(a++b).flatMap (zL s):=wZ (fun y hy=>by
   obtain ⟨j,hj,hjy⟩:=hab y hy
   exact (hoth j y hj hjy).2)
  have q4:(zo s w x).1.Ms.flatMap (yf {(zo s w x).1 with Ws:=s.Ws.set (w-1).toNat (zo s w x).2})=s.Ms.flatMap (yf s):=by
   rw [eMs]
   refine wZ (fun y hy=> ?_)
   obtain ⟨j,hj⟩:=List.mem_iff_getElem?.1 hy
   exact (znc (s:=(zo s w x).1) rfl).trans (hmut j y hj).2
  show List.Perm (yr p (zo s w x).1 gh'++((s.Ws.set (w-1).toNat (zo s w x).2).flatMap (zL {(zo s w x).1 with Ws:=s.Ws.set (w-1).toNat (zo s w x).2})++(zo s w x).1.Ms.flatMap (yf {(zo s w x).1 with Ws:=s.Ws.set (w-1).toNat (zo s w x).2}))++C) _
  rw [q2,q4]
  have r1:List.Perm (yr p (zo s w x).1 gh'++((a++(zo s w x).2::b).flatMap (zL (zo s w x).1)++s.Ms.flatMap (yf s))++C) (((a++b).flatMap (zL s)++s.Ms.flatMap (yf s))++(yr p (zo s w x).1 gh'++zL (zo s w x).1 (zo s w x).2++C)):=by
   refine ((List.Perm.append_left _ (List.Perm.append_right _ uz)).append_right C).trans ?_
   rw [q3]
   generalize (a++b).flatMap (zL s)=u
   generalize s.Ms.flatMap (yf s)=v
   generalize yr p (zo s w x).1 gh'=y
   generalize zL (zo s w x).1 (zo s w x).2=z
   have:List.Perm (y++(z++(u++v))++C) ((u++v)++(y++z++C)):=by
    generalize u++v=q
    rw [List.append_assoc,List.append_assoc,List.append_assoc]
    refine (List.Perm.append_left _ (List.perm_append_comm_assoc _ _ _)).trans ?_
    exact (List.perm_append_comm_assoc _ _ _)
   rw [List.append_assoc z u v]
   exact this
  have r2:List.Perm (N++(yr p s gh++(s.Ws.flatMap (zL s)++s.Ms.flatMap (yf s)))) (((a++b).flatMap (zL s)++s.Ms.flatMap (yf s))++(N++(yr p s gh++zL s x))):=by
   conv=>lhs;rw [el]
   refine (List.Perm.append_left _ (List.Perm.append_left _ (List.Perm.append_right _ uz))).trans ?_
   generalize (a++b).flatMap (zL s)=u
   generalize s.Ms.flatMap (yf s)=v
   generalize yr p s gh=y
   generalize zL s x=z
   rw [List.append_assoc z u v]
   generalize u++v=q
   refine (List.Perm.append_left _ ?_).trans (List.perm_append_comm_assoc _ _ _)
   rw [←List.append_assoc]
   exact List.perm_append_comm
  exact r1.trans ((List.Perm.append_left _ hN).trans r2.symm)
 have hFM:zov s {(zo s w x).1 with Ws:=s.Ws.set (w-1).toNat (zo s w x).2}∧Uw (UE p {(zo s w x).1 with Ws:=s.Ws.set (w-1).toNat (zo s w x).2} gh') (zo s w x).1.T:=by
  rcases hT with ⟨e1,e2,t1⟩ | ⟨e1,e2,t1,t2,t3⟩ | ⟨e1,e2,t1,t2⟩
  ·rw [e1,e2,List.append_nil,List.nil_append] at hbag
   refine ⟨.inl ⟨t1,congrArg (fun h:zt=>h.Objs.length) eH⟩,⟨?_,hbag.nodup_iff.2 G.B.nd,fun o=> ?_⟩⟩
   ·rw [t1];exact G.B.blk
   ·rw [t1,hbag.mem_iff];exact G.B.gr o
  ·have ho:=((hWX.p6 t1).1).ob
   rw [e1,e2,List.append_nil] at hbag
   refine ⟨.inr (.inl ⟨x.G.Obj,⟨ho.1,G.wob _ x hx t1⟩,(zcv ho).1 t2,t3,eH⟩),?_⟩
   rw [t3]
   exact G.B.more ho t2 hbag
  ·rw [e1,e2,List.nil_append] at hbag
   obtain ⟨b1,b2,b3,b4⟩:=G.B.less hbag
   refine ⟨.inr (.inr (.inl ⟨x.Obj,b3,?_,eH⟩)),by rw [t2];exact b1⟩
   show (zo s w x).1.T=_
   rw [t2];unfold ue;rw [if_pos b3]
 obtain ⟨hFM,hB⟩:=hFM
 obtain ⟨t1,t2⟩:=G.tints hFM
 refine ⟨gh',⟨hE,?_,fun j y hy=> ?_,fun j y hy=> ?_,hB,t1,fun j y hy h6=> ?_,fun y hy=> ?_,t2,fun y hy=>show xm (zo s w x).1 y≠[] from FX.ne X0 Fx G.ne y hy⟩,hFM,x,rfl,N,C,hbag,hT⟩
 ·refine (X'.state hE.S rfl).perm ?_
  show List.Perm ((s.Ws.set (w-1).toNat (zo s w x).2).flatMap xL++(zo s w x).1.Ms.flatMap ve) _
  rw [es,eMs,←List.append_assoc]
  exact List.Perm.append_right _ uz
 ·have hy:(s.Ws.set (w-1).toNat (zo s w x).2)[j]? =some y:=hy
  by_cases hj:j=(w-1).toNat
  ·subst hj
   rw [List.getElem?_set_self hi] at hy
   injection hy with hy
   rw [←hy,ei]
   exact W'.state rfl rfl
  ·rw [List.getElem?_set_ne (fun e=>hj e.symm)] at hy
   exact (hoth j y hj hy).1.state rfl rfl
 ·have hy:(zo s w x).1.Ms[j]? =some y:=hy
  rw [eMs] at hy
  exact (hmut j y hy).1.state rfl rfl
 ·have hy:(s.Ws.set (w-1).toNat (zo s w x).2)[j]? =some y:=hy
  show y.G.Obj≤((zo s w x).1.H.Objs.length:Int)
  rw [eH]
  by_cases hj:j=(w-1).toNat
  ·subst hj
   rw [List.getElem?_set_self hi] at hy
   injection hy with hy
   rw [←hy] at h6 ⊢
   rcases zxP s w x h6 with ⟨h,e⟩ | ⟨h,e⟩
   ·rw [e];exact G.wob _ x hx h
   ·rw [e];exact ztn (by omega) (fun l hl v hv=>((G.E.H.objs l hl).2 v hv).2) _ _
  ·rw [List.getElem?_set_ne (fun e=>hj e.symm)] at hy
   exact G.wob j y hy h6
 ·have hy:y∈(zo s w x).1.Ms:=hy
  show U1 ((zo s w x).1.H.Objs.length:Int) y
  rw [eMs] at hy
  rw [eH]
  exact G.buf y hy
theorem zsx (s:za) (m:Int) (x:zc):(zm s m x).1.H=s.H∨x.PC=23∨x.PC=30:=by
 refine uw (motive:=fun r=>r.1.H=s.H∨x.PC=23∨x.PC=30) s m x ?_ ?_ ?_ ?_ ?_ ?_ ?_ ?_ ?_ ?_ ?_ ?_ ?_ ?_ ?_ ?_ ?_ ?_ ?_ ?_
 all_goals first
  | exact fun _=> .inl rfl
  | exact fun c=> .inr (.inl c)
  | exact fun c=> .inr (.inr c)
  | (intro c;unfold mu3;exact .inl (by dsimp only;rw [VD]))
  | (intro c;unfold zin;exact .inl (by dsimp only;rw [VD]))
  | exact .inl rfl
theorem zrZ {t:zr} {n:Int} (hn:1≤n∧n≤64) (nm: ¬yN t.Marks n=true) (nb': ¬yN t.Black n=true):VY t n=⟨t.Marks|||bit n,t.Black|||bit n⟩:=by
 have ht1:uu {t with Marks:=t.Marks|||bit n} n=1:=(Uu _ _).2 ⟨(v8 _ hn _).2 (.inr rfl),nb'⟩
 unfold VY
 rw [zq0 hn nm nb']
 dsimp only
 rw [if_pos rfl]
 unfold ue
 rw [if_pos ht1]
theorem Uw.fresh {B B':List Int} {t:zr} {n:Int} (hn:1≤n∧n≤64) (nm: ¬yN t.Marks n=true) (K:Uw B t) (h:List.Perm B' B):Uw B' ⟨t.Marks|||bit n,t.Black|||bit n⟩:=by
 refine ⟨fun o ho=> ?_,h.nodup_iff.2 K.nd,fun o=> ?_⟩
 ·rcases (v8 _ hn o).1 ho with h | h
  ·exact (v8 _ hn o).2 (.inl (K.blk o h))
  ·exact (v8 _ hn o).2 (.inr h)
 ·rw [h.mem_iff,K.gr,Uu,Uu]
  dsimp only
  rw [v8 _ hn,v8 _ hn]
  constructor
  ·rintro ⟨a1,a2⟩
   refine ⟨.inl a1,fun e=>e.elim a2 (fun e=> ?_)⟩
   rw [e] at a1;exact nm a1
  ·rintro ⟨a1,a2⟩
   exact ⟨a1.resolve_right (fun e=>a2 (.inr e)),fun e=>a2 (.inl e)⟩
theorem FG.mut_tint {p:zb} (hp:zE p) {nb k:Nat} {s:za} {gh:Gh} (G:FG p nb k s gh) {m:Int} {x:zc} (hMX:MX p s gh x) (hBI:U1 (s.H.Objs.length:Int) x) {l:List zc} {N C B':List Int}
  (hbag:List.Perm (B'++C) (N++UE p s gh))
  (hT:(N=[]∧C=[]∧(zm s m x).1.T=s.T)∨(N=[x.G.Obj]∧C=[]∧(x.PC=3∨x.PC=37)∧¬(s.T.Marks|||bit x.G.Obj=s.T.Marks)∧(zm s m x).1.T={s.T with Marks:=s.T.Marks|||bit x.G.Obj})∨(N=[]∧C=[x.Obj]∧x.PC=38∧(zm s m x).1.T=ue s.T x.Obj) ∨
   (N=[]∧C=[]∧x.PC=30∧X6 s.H s.P.Most=true∧(zm s m x).1.H=ZZ s.H∧(zm s m x).1.T=VY s.T (wc (s.H.Objs.length+1)))) :
  zov s {(zm s m x).1 with Ms:=l}∧Uw B' (zm s m x).1.T:=by
 have hN0:=G.E.H.n
 have hM0:=hp.most
 have hn6:=hp.n
 have nm: ¬yN s.T.Marks ((s.H.Objs.length:Int)+1)=true:=fun e=>by have:=G.mrk _ e;omega
 have nb': ¬yN s.T.Black ((s.H.Objs.length:Int)+1)=true:=fun e=>nm (G.B.blk _ e)
 have hw:wc ((s.H.Objs.length:Int)+1)=(s.H.Objs.length:Int)+1:=xq (by omega) (by omega)
 rcases hT with ⟨e1,e2,t1⟩ | ⟨e1,e2,t1,t2,t3⟩ | ⟨e1,e2,t1,t2⟩ | ⟨e1,e2,t1,t2,t3,t4⟩
 ·rw [e1,e2,List.append_nil,List.nil_append] at hbag
  refine ⟨.inl ⟨t1,?_⟩,⟨?_,hbag.nodup_iff.2 G.B.nd,fun o=> ?_⟩⟩
  ·show (zm s m x).1.H.Objs.length=_
   rcases znd s m x with h | ⟨h1,h2,_,_,h5⟩
   ·exact h.1
   ·exfalso
    rw [t1,hw,zrZ (by omega) nm nb'] at h2
    have h3:=congrArg zr.Marks h2
    exact nm (by rw [h3];exact (v8 _ (by omega) _).2 (.inr rfl))
  ·rw [t1];exact G.B.blk
  ·rw [t1,hbag.mem_iff];exact G.B.gr o
 ·have ho:1≤x.G.Obj∧x.G.Obj≤64:=by
   rcases t1 with h | h
   ·exact (hMX.p3 h).1.ob
   ·exact (hMX.p37 h).1.ob
  rw [e1,e2,List.append_nil] at hbag
  have eH:(zm s m x).1.H=s.H:=by
   rcases zsx s m x with h | h | h
   ·exact h
   ·omega
   ·omega
  refine ⟨.inr (.inl ⟨x.G.Obj,⟨ho.1,hBI.2.2 t1⟩,(zcv ho).1 t2,t3,eH⟩),?_⟩
  rw [t3]
  exact G.B.more ho t2 hbag
 ·rw [e1,e2,List.nil_append] at hbag
  obtain ⟨b1,b2,b3,b4⟩:=G.B.less hbag
  have eH:(zm s m x).1.H=s.H:=by
   rcases zsx s m x with h | h | h
   ·exact h
   ·omega
   ·omega
  refine ⟨.inr (.inr (.inl ⟨x.Obj,b3,?_,eH⟩)),by rw [t2];exact b1⟩
  show (zm s m x).1.T=_
  rw [t2];unfold ue;rw [if_pos b3]
 ·rw [e1,e2,List.append_nil,List.nil_append] at hbag
  have hr:(s.H.Objs.length:Int)<s.P.Most:=by
   unfold X6 at t2
   simp only [Bool.and_eq_true,decide_eq_true_eq] at t2
   exact t2.1
  rw [G.E.S.P] at hr
  have hTT:(zm s m x).1.T=⟨s.T.Marks|||bit ((s.H.Objs.length:Int)+1),s.T.Black|||bit ((s.H.Objs.length:Int)+1)⟩:=by
   rw [t4,hw,zrZ (by omega) nm nb']
  refine ⟨.inr (.inr (.inr ⟨t3,by omega,hTT⟩)),?_⟩
  rw [hTT]
  exact G.B.fresh (by omega) nm hbag
theorem FG.mutator {p:zb} (hp:zE p) {nb k:Nat} {s:za} {gh:Gh} (hk:k<4294960000) (G:FG p nb k s gh) {m:Int} (hm:1≤m∧m≤p.Mutators) (hd:s.Done=false): ∃gh',FG p nb (k+1) (yc s m) gh'∧zov s (yc s m) ∧
  ∃x,s.Ms[(m-1).toNat]? =some x∧∃N C,List.Perm (UE p (yc s m) gh'++C) (N++UE p s gh)∧((N=[]∧C=[]∧(zm s m x).1.T=s.T)∨(N=[x.G.Obj]∧C=[]∧(x.PC=3∨x.PC=37)∧¬(s.T.Marks|||bit x.G.Obj=s.T.Marks)∧(zm s m x).1.T={s.T with Marks:=s.T.Marks|||bit x.G.Obj})∨(N=[]∧C=[x.Obj]∧x.PC=38∧(zm s m x).1.T=ue s.T x.Obj) ∨
   (N=[]∧C=[]∧x.PC=30∧X6 s.H s.P.Most=true∧(zm s m x).1.H=ZZ s.H∧(zm s m x).1.T=VY s.T (wc (s.H.Objs.length+1)))):=by
 have hE:=zl8 hp G.E m
 have hml:=G.E.ml
 have hwl:=G.E.wl
 have hN0:=G.E.H.n
 have hM0:=hp.most
 have hn6:=hp.n
 have e0: ¬(s.Done=true∨m<1∨(s.Ms.length:Int)<m):=by rw [hd];rintro (e | e | e)<;>first | cases e | omega
 revert hE
 unfold yc
 rw [if_neg e0]
 have hi:(m-1).toNat<s.Ms.length:=by omega
 have hx:=List.getElem?_eq_getElem hi
 generalize s.Ms[(m-1).toNat]=x at hx
 rw [hx]
 dsimp only
 intro hE
 obtain ⟨a,b,el,es,hab,hba⟩:=znk hx
 have ei:(((m-1).toNat:Nat):Int)+1=m:=by omega
 have hMX:=G.M _ x hx
 have hXO:=G.E.X _ x hx
 rw [ei] at hXO
 have hBI:=G.buf x (List.mem_of_getElem? hx)
 have hfr:=zrd s m x
 have eWs:(zm s m x).1.Ws=s.Ws:=by rw [hfr]
 have X0:SX p nb s gh (ve x++((a++b).flatMap ve++s.Ws.flatMap xL)) k:=by
  refine G.X.perm ?_
  rw [←List.append_assoc]
  refine List.Perm.trans (List.Perm.append_right _ ?_) List.perm_append_comm
  conv=>rhs;rw [el]
  exact uz.symm
 obtain ⟨gh',X',M',Fx,N,C,hN,hT⟩:=zzz hp hk X0 hXO hMX (zkJ hp m) (fun o i=>G.E.H.get hp o i)
 have hoth: ∀(j:Nat) y,j≠(m-1).toNat→s.Ms[j]? =some y→MX p (zm s m x).1 gh' y∧yf (zm s m x).1 y=yf s y:=by
  intro j y hj hy
  exact MX.other hp X0 Fx (G.M j y hy) (G.E.X j y hy) (fun z hz=>List.mem_append_left _ (List.mem_flatMap.2 ⟨y,hba j y hj hy,hz⟩))
 have hwrk: ∀(j:Nat) y,s.Ws[j]? =some y→WX p (zm s m x).1 gh' ((j:Int)+1) y∧zL (zm s m x).1 y=zL s y:=by
  intro j y hy
  have hjl:=(List.getElem?_eq_some_iff.1 hy).1
  exact WX.other hp (w:=(j:Int)+1) (by omega) X0 Fx (G.W j y hy) (G.E.W j y hy) (fun z hz=>List.mem_append_right _ (List.mem_flatMap.2 ⟨y,List.mem_of_getElem? hy,hz⟩)) (fun e=>e)
 have hbag:List.Perm (UE p {(zm s m x).1 with Ms:=s.Ms.set (m-1).toNat (zm s m x).2} gh'++C) (N++UE p s gh):=by
  unfold UE
  have q2:(s.Ms.set (m-1).toNat (zm s m x).2).flatMap (yf {(zm s m x).1 with Ms:=s.Ms.set (m-1).toNat (zm s m x).2})=(a++(zm s m x).2::b).flatMap (yf (zm s m x).1):=by
   rw [es];exact wZ (fun y _=>znc rfl)
  have q3:(a++b).flatMap (yf (zm s m x).1)=(a++b).flatMap (yf s):=wZ (fun y hy=>by
   obtain ⟨j,hj,hjy⟩:=hab y hy
   exact (hoth j y hj hjy).2)
  have q4:(zm s m x).1.Ws.flatMap (zL {(zm s m x).1 with Ms:=s.Ms.set (m-1).toNat (zm s m x).2})=s.Ws.flatMap (zL s):=by
   rw [eWs]
   refine wZ (fun y hy=> ?_)
   obtain ⟨j,hj⟩:=List.mem_iff_getElem?.1 hy
   exact (ziq (s:=(zm s m x).1) rfl rfl).trans (hwrk j y hj).2
  show List.Perm (yr p (zm s m x).1 gh'++((zm s m x).1.Ws.flatMap (zL {(zm s m x).1 with Ms:=s.Ms.set (m-1).toNat (zm s m x).2})++(s.Ms.set (m-1).toNat (zm s m x).2).flatMap (yf {(zm s m x).1 with Ms:=s.Ms.set (m-1).toNat (zm s m x).2}))++C) _
  rw [q2,q4]
  have r1:List.Perm (yr p (zm s m x).1 gh'++(s.Ws.flatMap (zL s)++(a++(zm s m x).2::b).flatMap (yf (zm s m x).1))++C) ((s.Ws.flatMap (zL s)++(a++b).flatMap (yf s))++(yr p (zm s m x).1 gh'++yf (zm s m x).1 (zm s m x).2++C)):=by
   refine ((List.Perm.append_left _ (List.Perm.append_left _ uz)).append_right C).trans ?_
   rw [q3]
   generalize (a++b).flatMap (yf s)=u
   generalize s.Ws.flatMap (zL s)=v
   generalize yr p (zm s m x).1 gh'=y
   generalize yf (zm s m x).1 (zm s m x).2=z
   refine ((List.Perm.append_left y (List.perm_append_comm_assoc v z u)).append_right C).trans ?_
   generalize v++u=q
   rw [List.append_assoc,List.append_assoc,List.append_assoc]
   refine (List.Perm.append_left _ (List.perm_append_comm_assoc _ _ _)).trans ?_
   exact (List.perm_append_comm_assoc _ _ _)
  have r2:List.Perm (N++(yr p s gh++(s.Ws.flatMap (zL s)++s.Ms.flatMap (yf s)))) ((s.Ws.flatMap (zL s)++(a++b).flatMap (yf s))++(N++(yr p s gh++yf s x))):=by
   conv=>lhs;rw [el]
   refine (List.Perm.append_left _ (List.Perm.append_left _ (List.Perm.append_left _ uz))).trans ?_
   generalize (a++b).flatMap (yf s)=u
   generalize s.Ws.flatMap (zL s)=v
   generalize yr p s gh=y
   generalize yf s x=z
   refine (List.Perm.append_left N (List.Perm.append_left y (List.perm_append_comm_assoc v z u))).trans ?_
   generalize v++u=q
   refine (List.Perm.append_left _ ?_).trans (List.perm_append_comm_assoc _ _ _)
   rw [←List.append_assoc]
   exact List.perm_append_comm
  exact r1.trans ((List.Perm.append_left _ hN).trans r2.symm)
 have hlen:(zm s m x).1.H.Objs.length=s.H.Objs.length∨(zm s m x).1.H=ZZ s.H:=by
  rcases znd s m x with h | h
  ·exact .inl h.1
  ·exact .inr h.1
 have hFM:=G.mut_tint hp (m:=m) (l:=s.Ms.set (m-1).toNat (zm s m x).2) hMX hBI hbag hT
 obtain ⟨hFM,hB⟩:=hFM
 obtain ⟨t1,t2⟩:=G.tints hFM
 have hN1:(s.H.Objs.length:Int)≤((zm s m x).1.H.Objs.length:Int):=by
  rcases hlen with h | h
  ·omega
  ·rw [h,zle];omega
 have B':=zqG (s:=s) hXO (n:=(s.H.Objs.length:Int)) (by omega) (fun l hl v hv=>((G.E.H.objs l hl).2 v hv).2) hBI
 refine ⟨gh',⟨hE,?_,fun j y hy=> ?_,fun j y hy=> ?_,hB,t1,fun j y hy h6=> ?_,fun y hy=> ?_,t2,fun y hy=>show xm (zm s m x).1 y≠[] from FX.ne X0 Fx G.ne y hy⟩,hFM,x,rfl,N,C,hbag,hT⟩
 ·refine (X'.state hE.S rfl).perm ?_
  show List.Perm ((zm s m x).1.Ws.flatMap xL++(s.Ms.set (m-1).toNat (zm s m x).2).flatMap ve) _
  rw [es,eWs,←List.append_assoc]
  exact List.perm_append_comm.trans (List.Perm.append_right _ uz)
 ·have hy:(zm s m x).1.Ws[j]? =some y:=hy
  rw [eWs] at hy
  exact (hwrk j y hy).1.state rfl rfl
 ·have hy:(s.Ms.set (m-1).toNat (zm s m x).2)[j]? =some y:=hy
  by_cases hj:j=(m-1).toNat
  ·subst hj
   rw [List.getElem?_set_self hi] at hy
   injection hy with hy
   rw [←hy]
   exact M'.state rfl rfl
  ·rw [List.getElem?_set_ne (fun e=>hj e.symm)] at hy
   exact (hoth j y hj hy).1.state rfl rfl
 ·have hy:(zm s m x).1.Ws[j]? =some y:=hy
  rw [eWs] at hy
  have:=G.wob j y hy h6
  show y.G.Obj≤((zm s m x).1.H.Objs.length:Int)
  omega
 ·have up: ∀ {z:zc},U1 (s.H.Objs.length:Int) z→U1 ((zm s m x).1.H.Objs.length:Int) z:=fun ⟨a,b,c⟩=>⟨fun v hv=>by have:=a v hv;omega,by omega,fun e=>by have:=c e;omega⟩
  rcases List.mem_or_eq_of_mem_set (show y∈s.Ms.set (m-1).toNat (zm s m x).2 from hy) with h | rfl
  ·exact up (G.buf y h)
  ·exact up B'
theorem zyY {p:zb} (h:zE p):FG p (zO p+1) 0 (yW p) (gh0 p):=by
 have G:=zzf h
 have hn:=h.n
 have hms: ∀x∈(yW p).Ms,∃r,x=wQ r:=fun x hx=>by
  obtain ⟨r,_,e⟩:=List.mem_map.1 (show x∈p.Regs.map wQ from hx)
  exact ⟨r,e.symm⟩
 have own:(yW p).Ms.flatMap ve=[]:=zdg (fun x hx=>by
  obtain ⟨r,rfl⟩:=hms x hx
  exact vi ⟨by show (0:Int)≠3;decide,by show (0:Int)≠33;decide,by show (0:Int)≠34;decide,by show (0:Int)≠37;decide⟩)
 have hold:(yW p).Ms.flatMap (yf (yW p))=[]:=zdg (fun x hx=>by
  obtain ⟨r,rfl⟩:=hms x hx
  unfold yf
  rw [um ⟨by show (0:Int)≠3;decide,by show (0:Int)≠33;decide,by show (0:Int)≠36;decide,by show (0:Int)≠37;decide,by show (0:Int)≠38;decide⟩];rfl)
 refine ⟨G.E,by rw [own,List.append_nil];exact G.X,G.W,fun i x hx=> ?_,?_,fun o ho=> ?_,fun i x hx h6=> ?_,fun x hx=> ?_,fun o h1 h2=> ?_,zzg h⟩
 ·obtain ⟨r,rfl⟩:=hms x (List.mem_of_getElem? hx)
  exact MX.plain ⟨by show (0:Int)≠3;decide,by show (0:Int)≠32;decide,by show (0:Int)≠34;decide,by show (0:Int)≠37;decide⟩ (fun _=>rfl) (fun v hv=>by cases hv)
   ⟨fun e=>absurd e (by show ¬(0:Int)=21;decide),fun e=>absurd e (by show ¬((0:Int)=22∨(((0:Int)=1∨(0:Int)=3)∧(0:Int)=22));decide)⟩
 ·have e:UE p (yW p) (gh0 p)=zlJ p (yW p) (gh0 p):=by unfold UE zlJ;rw [hold,List.append_nil]
  rw [e];exact G.B
 ·have ho:yN (YP p) o=true:=ho
  show o≤(p.H.Objs.length:Int)
  refine Int.not_lt.1 fun hlt=> ?_
  obtain ⟨a,b,_⟩:=(vT _ _).1 ho
  have b2: ¬yN (WN (p.H.Objs.length:Int)) o=true:=fun e=>by
   have:=(zuX (n:=p.H.Objs.length) (by omega) o).1 e
   omega
  have b3:=(zgF _ _ o).2 ⟨ho,(zwO _ (by omega)).2 b2⟩
  rw [ziK h] at b3
  exact zex o b3
 ·obtain ⟨j,_,e⟩:=List.mem_map.1 (show x∈(List.range p.Workers.toNat).map (ZH p) from List.mem_of_getElem? hx)
  rw [←e] at h6
  exact absurd h6 (by show ¬(0:Int)=6;decide)
 ·obtain ⟨r,rfl⟩:=hms x hx
  exact ⟨fun v hv=>(by cases hv),(by show (0:Int)≤(p.H.Objs.length:Int);omega),fun e=>absurd e (by show ¬((0:Int)=3∨(0:Int)=37);decide)⟩
 ·have:o≤(p.H.Objs.length:Int):=h2
  omega
theorem FG.grey {p:zb} {nb k:Nat} {s:za} {gh:Gh} (G:FG p nb k s gh) {o:Int} (h:o∈UE p s gh):uu s.T o=1:=(G.B.gr o).1 h
end
end Go.Pe.G
namespace Go.Pe.G
open Go.Pe
noncomputable section
theorem zsd: ∀(n:Nat) (l:List Int),l.Nodup→(∀o∈l,1≤o∧o≤(n:Int))→l.length≤n
 | 0,[],_,_=>Nat.le_refl _
 | 0,a::l,_,h=>by have:=h a (by simp);omega
 | n+1,l,hd,h=>by
  have ih:=zsd n (l.erase ((n+1:Nat):Int)) (hd.erase _) (fun o ho=>by
   have:=(hd.mem_erase_iff).1 ho
   have h2:=h o this.2
   have h3:=this.1
   omega)
  rw [List.length_erase] at ih
  split at ih<;>omega
theorem zuB {α β:Type} {f:α→List β}: ∀(l:List α),(∀x∈l,f x≠[])→l.length≤(l.flatMap f).length
 | [],_=>Nat.zero_le _
 | a::l,h=>by
  rw [List.flatMap_cons,List.length_append,List.length_cons]
  have h1:=List.length_pos_iff.2 (h a (by simp))
  have h2:=zuB l (fun x hx=>h x (List.mem_cons_of_mem _ hx))
  omega
def zfd (m:List (BitVec 64)) (c:zB):Nat:=if c.PC=0 then 3 else if ld m c.Head=c.H then (3-c.PC).toNat else (6-c.PC).toNat
theorem zw8 {m:List (BitVec 64)} {c:zB} (h:0≤c.PC∧c.PC≤2):1≤zfd m c:=by
 unfold zfd
 split
 ·omega
 split<;>omega
theorem zoP {m:List (BitVec 64)} {c:zB} (ho:c.Out=0) (hpc:0≤c.PC∧c.PC≤2) (hk:c.Kind=1∨c.Kind=2) (hh:0≤c.Head∧c.Head<m.length) (hn:c.Kind=1→wc (c.Next+c.X)≠c.Head) :
  (zk m c).2.Out≠0∨zfd (zk m c).1 (zk m c).2<zfd m c:=by
 unfold zk
 rw [if_neg (by omega)]
 by_cases c0:c.PC=0
 ·rw [if_pos c0]
  split
  ·exact .inl (by show (2:Int)≠0;decide)
  ·right
   unfold zfd
   dsimp only
   rw [if_neg (by decide),if_pos rfl,if_pos c0]
   decide
 rw [if_neg c0]
 by_cases c1:c.PC=1
 ·rw [if_pos c1]
  right
  split
  ·unfold zfd
   dsimp only
   rw [if_neg (by decide),if_neg c0,c1]
   split<;>decide
  ·rename_i h2
   unfold zfd
   dsimp only
   rw [if_neg (by decide),if_neg c0,c1,yo (hn (by omega))]
   split<;>decide
 rw [if_neg c1]
 have c2:c.PC=2:=by omega
 dsimp only
 by_cases e:ld m c.Head=c.H
 ·have hsw:(sw m c.Head c.H (yU ((c.H >>> 32)+1#64) (if c.Kind=2 then c.Y else c.X))).2=true:=by unfold sw;rw [if_pos ⟨hh.1,hh.2,e⟩]
  rw [hsw,if_pos rfl]
  left
  split<;>(show (1:Int)≠0;decide)
 ·have hsw:sw m c.Head c.H (yU ((c.H >>> 32)+1#64) (if c.Kind=2 then c.Y else c.X))=(m,false):=by unfold sw;rw [if_neg (fun x=>e x.2.2)]
  rw [hsw]
  right
  rw [if_neg (show ¬((m,false):List (BitVec 64)×Bool).2=true from Bool.false_ne_true)]
  unfold zfd
  dsimp only
  rw [if_pos rfl,if_neg c0,if_neg e,c2]
  decide
def Xx (m:List (BitVec 64)) (g:zC):Nat :=
 if g.PC=7 then zfd m g.C else if g.PC=6 then 4 else if g.PC=5 then 4+zfd m g.C else if g.PC=4 then 8 else if g.PC=3 then 7+(4-g.D.PC).toNat else if g.PC=2 then 1 else if g.PC=1 then 12 else 13
theorem znI (p:zb) (m:List (BitVec 64)) (g:zC):Xx m (zgW p g)=7:=by
 unfold Xx zgW zfd
 dsimp only
 simp
theorem zuL {m:List (BitVec 64)} {d:zh} (ho:d.Out=0) (hpc:0≤d.PC∧d.PC≤3):(yP m d).2.PC=d.PC+1:=by
 unfold yP
 rw [if_neg (by omega)]
 split
 ·show (1:Int)=_;omega
 split
 ·split<;>(show (2:Int)=_;omega)
 split
 ·show (3:Int)=_;omega
 ·show (4:Int)=_;omega
theorem zwz {p:zb} (hp:zE p) {nb k:Nat} {s:za} {g:zC} {gh:Gh} {own:List Int} (X:SX p nb s gh own k) (G:GX p s gh g) (M:MOk p nb g) (h0:g.Out=0) (hE:g.PC=5→(zk s.M g.C).2.Out≠2) :
  (zu s g).2.Out≠0∨Xx (zu s g).1.M (zu s g).2<Xx s.M g:=by
 have hF:=Zo hp
 have hEm:=wn hp
 have hlen:=X.L.len
 have hpc:=G.pc
 have hmd:=G.md
 have hnb:=X.S.nbk
 unfold zu
 rw [if_neg (by omega)]
 by_cases p7:g.PC=7
 ·rw [if_pos p7]
  obtain ⟨c1,c2,c3,c4,c5⟩:=G.c7 p7 h0
  obtain ⟨m1,m2,m3,m4,m5⟩:=M.c7 p7
  have r:=zoP (m:=s.M) c1 c2 (.inl m1) (by omega) (fun _=>by rw [m3,xq (by omega) (by omega)];omega)
  unfold za6
  dsimp only
  split
  ·exact .inl (by show (1:Int)≠0;decide)
  ·rename_i e
   have hout:=XR s.M c1 c2 (.inl m1)
   right
   unfold Xx
   dsimp only
   rw [if_pos p7,if_pos p7]
   rcases r with r | r
   ·omega
   ·exact r
 rw [if_neg p7]
 by_cases p6:g.PC=6
 ·rw [if_pos p6]
  right
  unfold zoT Xx zfd
  dsimp only
  rw [if_pos rfl,if_pos rfl,if_neg p7,if_pos p6]
  decide
 rw [if_neg p6]
 by_cases p5:g.PC=5
 ·rw [if_pos p5]
  obtain ⟨c1,c2,c3⟩:=G.c5 p5 h0
  obtain ⟨m1,m2,m3,m4,m5⟩:=M.c5 p5
  have r:=zoP (m:=s.M) c1 c2 (.inr m1) (by omega) (fun e=>by omega)
  have hpos:=zw8 (m:=s.M) c2
  have hout:=XR s.M c1 c2 (.inr m1)
  have he:=hE p5
  unfold zhV
  dsimp only
  right
  by_cases e1:(zk s.M g.C).2.Out=1
  ·rw [if_pos e1]
   unfold Xx
   dsimp only
   rw [if_neg (by decide),if_pos rfl,if_neg p7,if_neg p6,if_pos p5]
   omega
  ·rw [if_neg e1,if_neg he]
   unfold Xx
   dsimp only
   rw [if_neg p7,if_neg p6,if_pos p5,if_neg p7,if_neg p6,if_pos p5]
   rcases r with r | r
   ·omega
   ·omega
 rw [if_neg p5]
 by_cases p4:g.PC=4
 ·rw [if_pos p4]
  right
  dsimp only
  rw [znI]
  unfold Xx
  rw [if_neg p7,if_neg p6,if_neg p5,if_pos p4]
  decide
 rw [if_neg p4]
 by_cases p3:g.PC=3
 ·rw [if_pos p3]
  obtain ⟨c1,c2,c3⟩:=G.d3 p3 h0
  have hd:=c3.pc
  have hr:=zuL (m:=s.M) c3.out hd
  have e0:Xx s.M g=7+(4-g.D.PC).toNat:=by unfold Xx;rw [if_neg p7,if_neg p6,if_neg p5,if_neg p4,if_pos p3]
  rw [e0]
  unfold zij
  dsimp only
  split
  ·exact .inl (by show (1:Int)≠0;decide)
  right
  split
  ·rw [znI];omega
  ·unfold Xx
   dsimp only
   rw [if_neg p7,if_neg p6,if_neg p5,if_neg p4,if_pos p3,hr]
   omega
 rw [if_neg p3]
 by_cases p2:g.PC=2
 ·rw [if_pos p2]
  exact .inl (by show (1:Int)≠0;decide)
 rw [if_neg p2]
 right
 by_cases p1:g.PC=1
 ·rw [if_pos p1]
  have e0:Xx s.M g=12:=by unfold Xx;rw [if_neg p7,if_neg p6,if_neg p5,if_neg p4,if_neg p3,if_neg p2,if_pos p1]
  rw [e0]
  unfold zh1
  dsimp only
  split
  ·show Xx s.M {g with PC:=2}<12
   unfold Xx
   dsimp only
   simp
  split
  ·show 7+(4-(0:Int)).toNat<12
   decide
  split
  ·show 8<12
   decide
  ·rw [znI];decide
 ·rw [if_neg p1]
  have e0:Xx s.M g=13:=by unfold Xx;rw [if_neg p7,if_neg p6,if_neg p5,if_neg p4,if_neg p3,if_neg p2,if_neg p1]
  rw [e0]
  show 12<13
  decide
end
end Go.Pe.G
namespace Go.Pe.G
open Go.Pe
noncomputable section
theorem zjQ {α β:Type} {f:α→List β}: ∀(l:List α),(∀x∈l,(f x).length≤1)→(l.flatMap f).length≤l.length
 | [],_=>Nat.le_refl _
 | a::l,h=>by
  rw [List.flatMap_cons,List.length_append,List.length_cons]
  have h1:=h a (List.mem_cons_self ..)
  have h2:=zjQ l (fun x hx=>h x (List.mem_cons_of_mem _ hx))
  omega
theorem znN {α β:Type} {f:α→List β} {y:α} (hy0:f y=[]): ∀(l:List α),y∈l→(∀x∈l,(f x).length≤1)→(l.flatMap f).length+1≤l.length
 | [],hy,_=>by cases hy
 | a::l,hy,h=>by
  rw [List.flatMap_cons,List.length_append,List.length_cons]
  have h1:=h a (List.mem_cons_self ..)
  have hl:=fun x hx=>h x (List.mem_cons_of_mem a hx)
  rcases List.mem_cons.1 hy with rfl | hy
  ·have h2:=zjQ l hl
   rw [hy0];show 0+_+1≤_;omega
  ·have h2:=znN hy0 l hy hl
   omega
theorem zut (g:zC):(xI g).length≤1:=by unfold xI;split<;>simp
theorem ztb (x:zc):(ve x).length≤1:=by
 unfold ve
 split
 ·simp
 split
 ·exact zut _
 ·simp
theorem ztt (x:zg):(xL x).length≤1:=by
 unfold xL
 split
 ·simp
 split
 ·exact zut _
 ·simp
theorem FG.empty {p:zb} (hp:zE p) {k:Nat} {s:za} {gh:Gh} (G:FG p (zO p+1) k s gh) (h:(∃x∈s.Ws,xL x=[])∨(∃x∈s.Ms,ve x=[])):gh.E≠[]:=by
 have hb:=zbf hp
 have hN:=G.E.H.n
 have hwl:=G.E.wl
 have hml:=G.E.ml
 have hall:=G.X.L.all.length_eq
 have hn:(zkK (zO p+1)).length=zO p:=by unfold zkK;simp
 rw [hn] at hall
 simp only [List.length_append] at hall
 have hF:=zuB gh.F G.ne
 have hbag:=zsd s.H.Objs.length _ G.B.nd (fun o ho=>⟨(zpg ((G.B.gr o).1 ho)).1,G.mrk o ((Uu _ _).1 ((G.B.gr o).1 ho)).1⟩)
 unfold UE yr at hbag
 simp only [List.length_append] at hbag
 have w1:=zjQ s.Ws (fun x _=>ztt x)
 have m1:=zjQ s.Ms (fun x _=>ztb x)
 intro e
 rw [e] at hall
 simp only [List.length_nil] at hall
 rcases h with ⟨x,hx,e⟩ | ⟨x,hx,e⟩
 ·have:=znN e s.Ws hx (fun x _=>ztt x)
  omega
 ·have:=znN e s.Ms hx (fun x _=>ztb x)
  omega
def Z2 (most:Int) (h:zt) (r:List Int) (o:zi):zt×List Int :=
 if o.Kind=1 then (h,r.set o.R.toNat (xU h (r.getD o.A.toNat 0) o.S))
 else if o.Kind=2 then (Vj h (r.getD o.A.toNat 0) o.S (r.getD o.R.toNat 0),r)
 else if o.Kind=3 then (if X6 h most=true then (ZZ h,r.set o.R.toNat ((h.Objs.length:Int)+1)) else (h,r))
 else if o.Kind=4 then (h,r.set o.R.toNat (r.getD o.A.toNat 0))
 else (h,r.set o.R.toNat 0)
def YY (p:zb) (M:List (BitVec 64)) (x:zc):Nat :=
 if x.PC=0 then 45*((yz p 1).length-x.IP.toNat)
 else 45*((yz p 1).length-x.IP.toNat-1) +
  (if x.PC=20 then 44 else if x.PC=21 then 43 else if x.PC=22 then 3+18*x.Buf.length else if x.PC=1 then 4+16*x.Buf.length else if x.PC=3 then 5+16*x.Buf.length+Xx M x.G else 1)
structure MA (p:zb) (x:zc):Prop where
 pc:x.PC=0∨x.PC=10∨(20≤x.PC∧x.PC≤23)∨((x.PC=1∨x.PC=3)∧x.Ret=22)∨x.PC=30
 k1:x.PC=10→(opM p 1 x).Kind=1
 k2:(20≤x.PC∧x.PC≤23)∨x.PC=1∨x.PC=3→(opM p 1 x).Kind=2
 k3:x.PC=30→(opM p 1 x).Kind=3
theorem zxN {h:zt} {i v:Int}:Vj h 0 i v=h:=by
 unfold Vj
 rw [if_neg]
 rintro ⟨e,_⟩
 unfold Vl at e
 simp at e
theorem zyG {s:za} {m:Int} {x:zc} (c:x.PC=0):zm s m x=mu0 s m x:=by
 unfold zm
 rw [if_pos c]
theorem zzd {s:za} {m:Int} {x:zc} (c:x.PC=1):zm s m x=mu1 s m x:=by
 unfold zm
 rw [if_neg (by omega),if_pos c]
theorem zyQ {s:za} {m:Int} {x:zc} (c:x.PC=3):zm s m x=mu3 s m x:=by
 unfold zm
 rw [if_neg (by omega),if_neg (by omega),if_neg (by omega),if_pos c]
theorem zyq {s:za} {m:Int} {x:zc} (c:x.PC=10):zm s m x=zeN s m x:=by
 unfold zm
 rw [if_neg (by omega),if_neg (by omega),if_neg (by omega),if_neg (by omega),if_pos c]
theorem zyd {s:za} {m:Int} {x:zc} (c:x.PC=20):zm s m x=zfb s m x:=by
 unfold zm
 rw [if_neg (by omega),if_neg (by omega),if_neg (by omega),if_neg (by omega),if_neg (by omega),if_pos c]
theorem zx9 {s:za} {m:Int} {x:zc} (c:x.PC=21):zm s m x=zeQ s m x:=by
 unfold zm
 rw [if_neg (by omega),if_neg (by omega),if_neg (by omega),if_neg (by omega),if_neg (by omega),if_neg (by omega),if_pos c]
theorem zx2 {s:za} {m:Int} {x:zc} (c:x.PC=22):zm s m x=ze2 s m x:=by
 unfold zm
 rw [if_neg (by omega),if_neg (by omega),if_neg (by omega),if_neg (by omega),if_neg (by omega),if_neg (by omega),if_neg (by omega),if_pos c]
theorem zyj {s:za} {m:Int} {x:zc} (c:x.PC=23):zm s m x=zeV s m x:=by
 unfold zm
 rw [if_neg (by omega),if_neg (by omega),if_neg (by omega),if_neg (by omega),if_neg (by omega),if_neg (by omega),if_neg (by omega),if_neg (by omega),if_pos c]
theorem zyk {s:za} {m:Int} {x:zc} (c:x.PC=30):zm s m x=zbN s m x:=by
 unfold zm
 rw [if_neg (by omega),if_neg (by omega),if_neg (by omega),if_neg (by omega),if_neg (by omega),if_neg (by omega),if_neg (by omega),if_neg (by omega),if_neg (by omega),if_pos c]
theorem zvj {motive:za×zc→Prop} (s:za) (m:Int) (x:zc) (hpc:x.PC=0∨x.PC=10∨(20≤x.PC∧x.PC≤23)∨((x.PC=1∨x.PC=3)∧x.Ret=22)∨x.PC=30)
  (h0:x.PC=0→motive (mu0 s m x))
  (h1:x.PC=1→motive (mu1 s m x))
  (h3:x.PC=3→motive (mu3 s m x))
  (h10:x.PC=10→motive (zeN s m x))
  (h20:x.PC=20→motive (zfb s m x))
  (h21:x.PC=21→motive (zeQ s m x))
  (h22:x.PC=22→motive (ze2 s m x))
  (h23:x.PC=23→motive (zeV s m x))
  (h30:x.PC=30→motive (zbN s m x)):motive (zm s m x):=by
 have h:x.PC=0∨x.PC=1∨x.PC=3∨x.PC=10∨x.PC=20∨x.PC=21∨x.PC=22∨x.PC=23∨x.PC=30:=by omega
 rcases h with c | c | c | c | c | c | c | c | c
 ·rw [zyG c];exact h0 c
 ·rw [zzd c];exact h1 c
 ·rw [zyQ c];exact h3 c
 ·rw [zyq c];exact h10 c
 ·rw [zyd c];exact h20 c
 ·rw [zx9 c];exact h21 c
 ·rw [zx2 c];exact h22 c
 ·rw [zyj c];exact h23 c
 ·rw [zyk c];exact h30 c
theorem zx0 {p:zb} (hp:zE p) {nb k:Nat} {s:za} {gh:Gh} {own:List Int} {x:zc} (hP:s.P=p) (X:SX p nb s gh own k) (hk:k<4294960000) (O:XOk p nb 1 x) (K:MX p s gh x) (hE:x.PC=3→x.G.PC=5→x.G.Out=0→gh.E≠[]) (A:MA p x) (hH:HOk p s.H)
  (ha: ¬s.Acks.getD 0 0<s.Epoch) (hb:XY s.L 1=true∧VL s.L 1=0) (h0:p.Price=0) (hn:x.PC=0→x.IP<((yz p 1).length:Int)) (hO:(zm s 1 x).2.PC=3→(zm s 1 x).2.G.Out=0) :
  MA p (zm s 1 x).2∧YY p (zm s 1 x).1.M (zm s 1 x).2<YY p s.M x∧(zm s 1 x).1.Acks=s.Acks∧((zm s 1 x).1.L=s.L∨(zm s 1 x).1.L=Yl s.L 1 0) ∧
  (((zm s 1 x).2.IP=x.IP∧(zm s 1 x).1.H=s.H∧(zm s 1 x).2.Regs=x.Regs)∨((zm s 1 x).2.IP=x.IP+1∧((zm s 1 x).1.H,(zm s 1 x).2.Regs)=Z2 p.Most s.H x.Regs (opM p 1 x))):=by
 have hpl:=zkJ hp 1
 have hip:=O.ip
 have hop:=O.op
 have hbuf:=O.buf
 have hBuf:=hp.buf
 have wi:wc (x.IP+1)=x.IP+1:=xq (by omega) (by omega)
 have ti:(x.IP+1).toNat=x.IP.toNat+1:=by omega
 have opi: ∀ {y:zc},y.IP=x.IP→opM p 1 y=opM p 1 x:=fun e=>by unfold opM;rw [e]
 have hlt:x.IP<((yz p 1).length:Int):=by
  have:=A.pc
  by_cases c:x.PC=0
  ·exact hn c
  ·exact hop (by omega)
 have mz: ∀ {M:List (BitVec 64)} {y:zc},y.PC=0→y.IP=x.IP+1→YY p M y=45*((yz p 1).length-x.IP.toNat-1):=fun e1 e2=>by
  unfold YY;rw [if_pos e1,e2,ti];omega
 have m0: ∀ {M:List (BitVec 64)},x.PC=0→YY p M x=45*((yz p 1).length-x.IP.toNat-1)+45:=fun c=>by
  unfold YY;rw [if_pos c];omega
 have mi: ∀ {M:List (BitVec 64)} {y:zc},y.PC≠0→y.IP=x.IP→YY p M y=45*((yz p 1).length-x.IP.toNat-1)+(if y.PC=20 then 44 else if y.PC=21 then 43 else if y.PC=22 then 3+18*y.Buf.length else if y.PC=1 then 4+16*y.Buf.length else if y.PC=3 then 5+16*y.Buf.length+Xx M y.G else 1):=fun e1 e2=>by
  unfold YY;rw [if_neg e1,e2]
 have lt: ∀ {M:List (BitVec 64)} {y:zc},y.IP=x.IP→y.PC≠0→45*((yz p 1).length-x.IP.toNat-1)+(if y.PC=20 then 44 else if y.PC=21 then 43 else if y.PC=22 then 3+18*y.Buf.length else if y.PC=1 then 4+16*y.Buf.length else if y.PC=3 then 5+16*y.Buf.length+Xx M y.G else 1)<YY p s.M x→YY p M y<YY p s.M x:=fun e1 e2 h=>by
  rw [mi e2 e1];exact h
 have done: ∀ {t:za} {y:zc},y.PC=0→y.IP=wc (x.IP+1)→YY p s.M x>45*((yz p 1).length-x.IP.toNat-1)→t.Acks=s.Acks→(t.L=s.L∨t.L=Yl s.L 1 0)→(t.H,y.Regs)=Z2 p.Most s.H x.Regs (opM p 1 x) →
   MA p y∧YY p t.M y<YY p s.M x∧t.Acks=s.Acks∧(t.L=s.L∨t.L=Yl s.L 1 0)∧((y.IP=x.IP∧t.H=s.H∧y.Regs=x.Regs)∨(y.IP=x.IP+1∧(t.H,y.Regs)=Z2 p.Most s.H x.Regs (opM p 1 x))):=fun e1 e2 hm h3 h4 h5 =>
  ⟨⟨.inl e1,fun e=>by omega,fun e=>by omega,fun e=>by omega⟩,by rw [mz e1 (by rw [e2,wi])];exact hm,h3,h4,.inr ⟨by rw [e2,wi],h5⟩⟩
 have go: ∀ {t:za} {y:zc},t.Acks=s.Acks→t.L=s.L→t.H=s.H→y.IP=x.IP→y.Regs=x.Regs→MA p y→YY p t.M y<YY p s.M x →
   MA p y∧YY p t.M y<YY p s.M x∧t.Acks=s.Acks∧(t.L=s.L∨t.L=Yl s.L 1 0)∧((y.IP=x.IP∧t.H=s.H∧y.Regs=x.Regs)∨(y.IP=x.IP+1∧(t.H,y.Regs)=Z2 p.Most s.H x.Regs (opM p 1 x))):=fun h1 h2 h3 h4 h5 h6 h7 =>
  ⟨h6,h7,h1,.inl h2,.inl ⟨h4,h3,h5⟩⟩
 have hpc:=A.pc
 have no: ∀ {q:Prop},x.PC=2∨31≤x.PC→q:=fun h=>by omega
 revert hO
 refine zvj (motive:=fun r=>(r.2.PC=3→r.2.G.Out=0)→MA p r.2∧YY p r.1.M r.2<YY p s.M x∧r.1.Acks=s.Acks∧(r.1.L=s.L∨r.1.L=Yl s.L 1 0) ∧
  ((r.2.IP=x.IP∧r.1.H=s.H∧r.2.Regs=x.Regs)∨(r.2.IP=x.IP+1∧(r.1.H,r.2.Regs)=Z2 p.Most s.H x.Regs (opM p 1 x)))) s 1 x A.pc ?_ ?_ ?_ ?_ ?_ ?_ ?_ ?_ ?_
 ·intro c _
  have hm:=m0 (M:=s.M) c
  unfold mu0 zaA
  rw [hP,if_neg (show ¬s.Acks.getD ((1:Int)-1).toNat 0<s.Epoch from ha),if_neg (by omega)]
  split
  ·rename_i hk
   refine go rfl rfl rfl rfl rfl ⟨.inr (.inl rfl),fun _=>hk,fun e=>by dsimp only at e;omega,fun e=>(by cases e)⟩ ?_
   refine lt ?_ ?_ ?_
   ·rfl
   ·show (10:Int)≠0;decide
   rw [hm];dsimp only;simp
  split
  ·rename_i hk
   refine go rfl rfl rfl rfl rfl ⟨.inr (.inr (.inl ⟨by show (20:Int)≤20;decide,by show (20:Int)≤23;decide⟩)),fun e=>(by cases e),fun _=>hk,fun e=>(by cases e)⟩ ?_
   refine lt ?_ ?_ ?_
   ·rfl
   ·show (20:Int)≠0;decide
   rw [hm];dsimp only;simp
  split
  ·rename_i hk
   refine go rfl rfl rfl rfl rfl ⟨.inr (.inr (.inr (.inr rfl))),fun e=>(by cases e),fun e=>by dsimp only at e;omega,fun _=>hk⟩ ?_
   refine lt ?_ ?_ ?_
   ·rfl
   ·show (30:Int)≠0;decide
   rw [hm];dsimp only;simp
  split
  ·rename_i n1 n2 n3 hk
   refine done rfl rfl (by omega) rfl (.inl rfl) ?_
   unfold Z2
   rw [if_neg n1,if_neg n2,if_neg n3,if_pos hk];rfl
  ·rename_i n1 n2 n3 n4
   refine done rfl rfl (by omega) rfl (.inl rfl) ?_
   unfold Z2
   rw [if_neg n1,if_neg n2,if_neg n3,if_neg n4];rfl
 ·intro c _
  have hm:=mi (M:=s.M) (y:=x) (by omega) rfl
  rw [if_neg (by omega),if_neg (by omega),if_neg (by omega),if_pos c] at hm
  have hret:x.Ret=22:=by omega
  have kk:=A.k2 (.inr (.inl c))
  unfold mu1;dsimp only
  split
  ·rename_i hb
   refine go rfl rfl rfl rfl rfl ⟨.inr (.inr (.inl ⟨by show (20:Int)≤x.Ret;omega,by show x.Ret≤(23:Int);omega⟩)),fun e=>by have e:x.Ret=10:=e;omega,fun _=>kk,fun e=>by have e:x.Ret=30:=e;omega⟩ ?_
   refine lt ?_ ?_ ?_
   ·rfl
   ·show x.Ret≠0;omega
   rw [hm];dsimp only
   rw [if_neg (by omega),if_neg (by omega),if_pos hret];omega
  ·rename_i hb
   refine go rfl rfl rfl rfl rfl ⟨.inr (.inr (.inr (.inl ⟨.inr rfl,hret⟩))),fun e=>(by cases e),fun _=>kk,fun e=>(by cases e)⟩ ?_
   refine lt ?_ ?_ ?_
   ·rfl
   ·show (3:Int)≠0;decide
   rw [hm]
   have r0:Xx s.M (Ym 2 (x.Buf.getD (x.Buf.length-1) 0) 1)=13:=rfl
   dsimp only
   rw [if_neg (by omega),if_neg (by omega),if_neg (by omega),if_neg (by omega),if_pos rfl,r0,List.length_take];omega
 ·intro c hO
  have hm:=mi (M:=s.M) (y:=x) (by omega) rfl
  rw [if_neg (by omega),if_neg (by omega),if_neg (by omega),if_neg (by omega),if_pos c] at hm
  have hret:x.Ret=22:=by omega
  have kk:=A.k2 (.inr (.inr c))
  obtain ⟨GK,gm,g0⟩:=K.p3 c
  have MO:=(O.g (.inl c))
  have hrem:=zwz hp X GK MO.1 g0 (fun h5 e2=>by
   obtain ⟨c1,c2,c3⟩:=GK.c5 h5 g0
   obtain ⟨m1,m2,m3,m4,m5⟩:=MO.1.c5 h5
   have S':SOk p nb {s with M:=(zk s.M x.G.C).1}:=(zoe hp X.S (.inr rfl) m1 m2 m3 m4 m5 (MO.2.1 h5)).1
   rcases SX.popE hp X hk m1 m2 m3 c1 c2 c3 m4 S' with ⟨x1,x2,x3,x4⟩ | ⟨x,l,x1,x2,x3⟩
   ·exact hE c h5 g0 (x4 e2)
   ·omega)
  have fr:=VD s x.G
  have eA:(zu s x.G).1.Acks=s.Acks:=by rw [fr]
  have eL:(zu s x.G).1.L=s.L:=by rw [fr]
  have eH:(zu s x.G).1.H=s.H:=by rw [fr]
  revert hO
  unfold mu3;dsimp only
  split
  ·intro _
   refine go eA eL eH rfl rfl ⟨.inr (.inr (.inr (.inl ⟨.inl rfl,hret⟩))),fun e=>(by cases e),fun _=>kk,fun e=>(by cases e)⟩ ?_
   refine lt ?_ ?_ ?_
   ·rfl
   ·show (1:Int)≠0;decide
   rw [hm];dsimp only
   rw [if_neg (by omega),if_neg (by omega),if_neg (by omega),if_pos rfl];omega
  ·intro hO
   have hO:=hO c
   have hr:=hrem.resolve_left (fun h=>h hO)
   refine go eA eL eH rfl rfl ⟨.inr (.inr (.inr (.inl ⟨.inr c,hret⟩))),fun e=>by have e:x.PC=10:=e;omega,fun _=>kk,fun e=>by have e:x.PC=30:=e;omega⟩ ?_
   refine lt ?_ ?_ ?_
   ·rfl
   ·show x.PC≠0;omega
   rw [hm];dsimp only
   rw [if_neg (by omega),if_neg (by omega),if_neg (by omega),if_neg (by omega),if_pos c];omega
 ·intro c _
  have hm:=mi (M:=s.M) (y:=x) (by omega) rfl
  rw [if_neg (by omega),if_neg (by omega),if_neg (by omega),if_neg (by omega),if_neg (by omega)] at hm
  unfold zeN
  refine done rfl rfl (by omega) rfl (.inl rfl) ?_
  unfold Z2
  rw [if_pos (A.k1 c)]
  show (s.H,(setM x (opM s.P 1 x).R (zmo s 1 x)).Regs)=_
  unfold setM zmo zbP
  rw [hP]
 ·intro c _
  have hm:=mi (M:=s.M) (y:=x) (by omega) rfl
  rw [if_pos c] at hm
  have kk:=A.k2 (.inl ⟨by omega,by omega⟩)
  unfold zfb;dsimp only
  split
  ·rename_i hz
   refine done rfl rfl (by omega) rfl (.inl rfl) ?_
   unfold Z2
   rw [if_neg (by omega),if_pos kk]
   have hz:x.Regs.getD (opM p 1 x).A.toNat 0=0:=by rw [←hP];exact hz
   rw [hz,zxN];rfl
  ·refine go rfl rfl rfl rfl rfl ⟨.inr (.inr (.inl ⟨by show (20:Int)≤21;decide,by show (21:Int)≤23;decide⟩)),fun e=>(by cases e),fun _=>kk,fun e=>(by cases e)⟩ ?_
   refine lt ?_ ?_ ?_
   ·rfl
   ·show (21:Int)≠0;decide
   rw [hm];dsimp only;simp
 ·intro c _
  have hm:=mi (M:=s.M) (y:=x) (by omega) rfl
  rw [if_neg (by omega),if_pos c] at hm
  have kk:=A.k2 (.inl ⟨by omega,by omega⟩)
  unfold zeQ;dsimp only
  split
  ·refine go rfl rfl rfl rfl rfl ⟨.inr (.inr (.inl ⟨by show (20:Int)≤23;decide,by show (23:Int)≤23;decide⟩)),fun e=>(by cases e),fun _=>kk,fun e=>(by cases e)⟩ ?_
   refine lt ?_ ?_ ?_
   ·rfl
   ·show (23:Int)≠0;decide
   rw [hm];dsimp only;simp
  ·refine go rfl rfl rfl rfl rfl ⟨.inr (.inr (.inl ⟨by show (20:Int)≤22;decide,by show (22:Int)≤23;decide⟩)),fun e=>(by cases e),fun _=>kk,fun e=>(by cases e)⟩ ?_
   refine lt ?_ ?_ ?_
   ·rfl
   ·show (22:Int)≠0;decide
   rw [hm];dsimp only
   rw [if_neg (by omega),if_neg (by omega),if_pos rfl];omega
 ·intro c _
  have hm:=mi (M:=s.M) (y:=x) (by omega) rfl
  rw [if_neg (by omega),if_neg (by omega),if_pos c] at hm
  have kk:=A.k2 (.inl ⟨by omega,by omega⟩)
  unfold ze2;dsimp only
  split
  ·rename_i hf
   rw [hP] at hf
   refine go rfl rfl rfl rfl rfl ⟨.inr (.inr (.inr (.inl ⟨.inl rfl,rfl⟩))),fun e=>(by cases e),fun _=>kk,fun e=>(by cases e)⟩ ?_
   refine lt ?_ ?_ ?_
   ·rfl
   ·show (1:Int)≠0;decide
   rw [hm];dsimp only
   rw [if_neg (by omega),if_neg (by omega),if_neg (by omega),if_pos rfl];omega
  ·refine go rfl rfl rfl rfl rfl ⟨.inr (.inr (.inl ⟨by show (20:Int)≤23;decide,by show (23:Int)≤23;decide⟩)),fun e=>(by cases e),fun _=>kk,fun e=>(by cases e)⟩ ?_
   refine lt ?_ ?_ ?_
   ·rfl
   ·show (23:Int)≠0;decide
   rw [hm];dsimp only;simp;omega
 ·intro c _
  have hm:=mi (M:=s.M) (y:=x) (by omega) rfl
  rw [if_neg (by omega),if_neg (by omega),if_neg (by omega),if_neg (by omega),if_neg (by omega)] at hm
  have kk:=A.k2 (.inl ⟨by omega,by omega⟩)
  unfold zeV
  refine done rfl rfl (by omega) rfl (.inl rfl) ?_
  unfold Z2
  rw [if_neg (by omega),if_pos kk]
  show (Vj s.H (zbP x (opM s.P 1 x).A) (opM s.P 1 x).S (zbP x (opM s.P 1 x).R),(Vt x).Regs)=_
  unfold Vt zbP
  rw [hP]
 ·intro c _
  have hm:=mi (M:=s.M) (y:=x) (by omega) rfl
  rw [if_neg (by omega),if_neg (by omega),if_neg (by omega),if_neg (by omega),if_neg (by omega)] at hm
  have kk:=A.k3 c
  have hN:=hH.n
  have hmo:=hp.most
  have hn6:=hp.n
  have hl:=hp.limit
  have w:wc ((s.H.Objs.length:Int)+1)=(s.H.Objs.length:Int)+1:=xq (by omega) (by omega)
  have may:zbi s.L 1 p.Price p.Limit=true:=by
   unfold zbi Vb
   rw [hb.1,hb.2,h0,xq (a:= -p.Limit) (by omega) (by omega),xq (a:=(0:Int)-0) (by omega) (by omega)]
   simp;omega
  unfold zbN
  rw [hP,if_pos may]
  split
  ·rename_i hr
   refine done rfl rfl (by omega) rfl (.inr (by rw [←h0])) ?_
   unfold Z2
   rw [if_neg (by omega),if_neg (by omega),if_pos kk,if_pos hr]
   show (ZZ s.H,(setM x (opM p 1 x).R (wc ((s.H.Objs.length:Int)+1))).Regs)=_
   rw [w];rfl
  ·rename_i hr
   refine done rfl rfl (by omega) rfl (.inl rfl) ?_
   unfold Z2
   rw [if_neg (by omega),if_neg (by omega),if_pos kk,if_neg hr];rfl
end
end Go.Pe.G
namespace Go.Pe.G
open Go.Pe
noncomputable section
namespace B16
def UC (n:Nat) (s:za):za:=goF (fun _ s=>yc s 1) 0 n s
theorem za9 {p:zb} {nb:Nat} (h:zE p) {s:za} (E:EOk p nb s) {n:Nat} (hn:n<1000000):yv s 1 (n:Int)=some (UC n s,()):=by
 have e:=zpX (f:=uF) (fun i s=>(1,(n:Int),i,s,0,0,0,0,0,0,0,0,0,0#64,0,zr.mk 0#64 0#64,0,0,false,false,0,0,0,0,zy.mk 0 0,([]:List (List Int)),([]:List (List Int)),([]:List (List zi)),([]:List zl),([]:List (List Int)),([]:List (BitVec 64)),([]:List (List Int)),([]:List Int),([]:List Int),([]:List zg),([]:List zc),())) (fun s=>(s,0,0,0,0,0,0,0,0,0,0#64,0,zr.mk 0#64 0#64,0,0,false,false,0,0,0,0,zy.mk 0 0,([]:List (List Int)),([]:List (List Int)),([]:List (List zi)),([]:List zl),([]:List (List Int)),([]:List (BitVec 64)),([]:List (List Int)),([]:List Int),([]:List Int),([]:List zg),([]:List zc),())) n hn (fun _ s=>yc s 1) (EOk p nb) (fun _ s E=>zl8 h E 1)
  (fun i s hi E=>by
   show uF (1,(n:Int),(i:Int),s,0,0,0,0,0,0,0,0,0,0#64,0,zr.mk 0#64 0#64,0,0,false,false,0,0,0,0,zy.mk 0 0,([]:List (List Int)),([]:List (List Int)),([]:List (List zi)),([]:List zl),([]:List (List Int)),([]:List (BitVec 64)),([]:List (List Int)),([]:List Int),([]:List Int),([]:List zg),([]:List zc),())=_
   rw [UL,zq,if_pos (by omega),zgP h E,Option.bind_some,xl (by omega)])
  (fun s E=>by
   show uF (1,(n:Int),(n:Int),s,0,0,0,0,0,0,0,0,0,0#64,0,zr.mk 0#64 0#64,0,0,false,false,0,0,0,0,zy.mk 0 0,([]:List (List Int)),([]:List (List Int)),([]:List (List zi)),([]:List zl),([]:List (List Int)),([]:List (BitVec 64)),([]:List (List Int)),([]:List Int),([]:List Int),([]:List zg),([]:List zc),())=_
   rw [UL,zq,if_neg (by omega)]) E
 rw [zjm]
 exact congrArg (fun o=>Option.bind o _) e
theorem zyO {p:zb} {nb:Nat} (h:zE p) {s:za} (E:EOk p nb s) (n:Nat):EOk p nb (UC n s):=zq3 (Inv:=EOk p nb) (g:=fun _ s=>yc s 1) (fun _ s E=>zl8 h E 1) n 0 s E
def zjX (l:List zi):zb:=⟨1,1,2,1,1,4,2,2,⟨1,[[2],[0],[0]]⟩,1#64,[[1,0]],[l],[]⟩
theorem zs9 (l:List zi):XS [l]=some (zjX l,()):=by
 rw [zju,ztj (by rw [UQ,zq,if_pos (by simp),wD (by simp),Option.bind_some,ut (by decide)];simp only [Int.toNat_zero,List.getElem?_cons_zero,Option.bind_some];rw [wD (by simp),Option.bind_some,yH (by decide) (by decide)]) (by rw [UQ,zq,if_neg (by simp)])];rfl
theorem zqS {l:List zi} (hl:(l.length:Int)≤7) (ho: ∀o∈l,zcD o 2 1):zE (zjX l):=by
 constructor
 case objs=>intro o ho;simp [zjX] at ho ⊢;rcases ho with rfl | rfl | rfl<;>simp
 case roots=>exact ⟨1,by decide,by simp [zjX],by show (1#64:BitVec 64)=bit 1;decide⟩
 case reg=>intro r hr;simp [zjX] at hr ⊢;subst hr;simp
 case prog =>
  intro k r ops hr hp
  cases k with
  | zero=>injection hr with hr;injection hp with hp;subst hr;subst hp;exact ⟨hl,ho⟩
  | succ k=>cases hp
 all_goals first | rfl | (simp [zjX];done) | (simp [zjX];omega)
abbrev pA:zb:=zjX [⟨1,1,0,0⟩,⟨5,1,0,0⟩,⟨2,1,0,0⟩]
abbrev pB:zb:=zjX [⟨3,1,0,0⟩,⟨3,1,0,0⟩]
theorem zbv:zE pA:=zqS (by decide) (fun o ho=>by simp at ho;rcases ho with rfl | rfl | rfl<;>(unfold zcD;decide))
theorem zjG:zE pB:=zqS (by decide) (fun o ho=>by simp at ho;subst ho;unfold zcD;decide)
theorem zvT {s:za} (x:zc) (hx:s.Ms=[x]) (hp:x.PC=0) (ha: ¬s.Acks.getD 0 0<s.Epoch) (hi:((yz s.P 1).length:Int)≤x.IP):yc s 1=s:=by
 unfold yc
 rw [hx]
 split
 ·rfl
 show {(zm s 1 x).1 with Ms:=[(zm s 1 x).2]}=s
 have e:zm s 1 x=(s,x):=by
  unfold zm
  rw [if_pos hp]
  unfold mu0 zaA
  rw [if_neg (show ¬s.Acks.getD (1-1:Int).toNat 0<s.Epoch from ha),if_pos hi]
 rw [e,←hx]
theorem zyR {l:List zc} (h:l.length=1): ∃x,l=[x]:=List.length_eq_one_iff.1 h
theorem zrz:WT=some (true,()):=by
 have E0:=zsa zbv
 have E1:=zsa zjG
 have a2:yv (yW pA) 1 2=some (UC 2 (yW pA),()):=za9 zbv E0 (n:=2) (by decide)
 have a7:yv (yW pA) 1 7=some (UC 7 (yW pA),()):=za9 zbv E0 (n:=7) (by decide)
 have a8:yv (yW pA) 1 8=some (UC 8 (yW pA),()):=za9 zbv E0 (n:=8) (by decide)
 have a99:yv (yW pA) 1 99=some (UC 99 (yW pA),()):=za9 zbv E0 (n:=99) (by decide)
 have b2:yv (yW pB) 1 2=some (UC 2 (yW pB),()):=za9 zjG E1 (n:=2) (by decide)
 have b5:yv (yW pB) 1 5=some (UC 5 (yW pB),()):=za9 zjG E1 (n:=5) (by decide)
 have b60:yv (yW pB) 1 60=some (UC 60 (yW pB),()):=za9 zjG E1 (n:=60) (by decide)
 have h99:yc (UC 99 (yW pA)) 1=UC 99 (yW pA):=by
  obtain ⟨x,hx⟩:=zyR (l:=(UC 99 (yW pA)).Ms) (by decide +kernel)
  have g:(UC 99 (yW pA)).Ms.all (fun x=>decide (x.PC=0)&&decide (((yz (UC 99 (yW pA)).P 1).length:Int)≤x.IP))=true:=by decide +kernel
  rw [hx] at g
  simp only [List.all_cons,List.all_nil,Bool.and_true,Bool.and_eq_true,decide_eq_true_eq] at g
  exact zvT x hx g.1 (by decide +kernel) g.2
 have E99:=zyO zbv E0 99
 have s99:=zgP zbv E99 1
 have t7:=zlV (h:=(UC 7 (yW pA)).H) (by decide +kernel)
 have t8:=zlV (h:=(UC 8 (yW pA)).H) (by decide +kernel)
 have u2:=zlV (h:=(UC 2 (yW pB)).H) (by decide +kernel)
 rw [zf8,zs9]
 simp only [Option.bind_some,zs9,zlx zbv,zlx zjG,a2,a7,a8,a99,b2,b5,b60,t7,t8,u2,s99,h99,zvA E99.small,zcR,wM]
 decide +kernel
def zaf (p:zb) (r0:List Int) (ops:List zi) (n:Nat):zt×List Int:=(ops.take n).foldl (fun S o=>Z2 p.Most S.1 S.2 o) (p.H,r0)
theorem zvQ {p:zb} {r0:List Int} {ops:List zi} {n:Nat} (h:n<ops.length):zaf p r0 ops (n+1)=Z2 p.Most (zaf p r0 ops n).1 (zaf p r0 ops n).2 ops[n]:=by
 unfold zaf
 rw [List.take_add_one,List.getElem?_eq_getElem h,List.foldl_append];rfl
theorem zw0 {p:zb} (hp:zE p) {h:zt} {r:List Int} (H:HOk p h) (o:zi):HOk p (Z2 p.Most h r o).1∧(Z2 p.Most h r o).2.length=r.length:=by
 unfold Z2
 split
 ·exact ⟨H,List.length_set⟩
 split
 ·exact ⟨H.put _ _ _,rfl⟩
 split
 ·split
  ·rename_i hr;exact ⟨H.alloc hp hr,List.length_set⟩
  ·exact ⟨H,rfl⟩
 split
 ·exact ⟨H,List.length_set⟩
 ·exact ⟨H,List.length_set⟩
theorem zr0 (f:zt×List Int→zi→zt×List Int) (l:List zi): ∀(n i:Nat) (S:zt×List Int),i+n=l.length→goF (fun j S=>match l[j]? with | some o=>f S o | none=>S) i n S=(l.drop i).foldl f S
 | 0,i,S,h=>by rw [List.drop_of_length_le (by omega)];rfl
 | n+1,i,S,h=>by
  have hx:=List.getElem?_eq_getElem (show i<l.length by omega)
  rw [List.drop_eq_getElem_cons (show i<l.length by omega)]
  show goF _ (i+1) n (match l[i]? with | some o=>f S o | none=>S)=_
  rw [zr0 f l n (i+1) _ (by omega),hx];rfl
theorem zpA {α:Type} {l:List α} {i:Int} (h:0≤i∧i<(l.length:Int)):xg l i=some i.toNat:=by
 unfold xg
 rw [decide_eq_true h.1,decide_eq_true h.2];rfl
theorem zvV {p:zb} (hp:zE p) {r0:List Int} {ops:List zi} (hr:r0.length<1000000) (hl:ops.length<1000000) (ho: ∀o∈ops,(0≤o.R∧o.R<(r0.length:Int))∧(0≤o.A∧o.A<(r0.length:Int))) (b:Bool) (s:za) :
  yA xW (b,ops,(ops.length:Int),0,p,s,p.H,r0,())=some (.brk (b,s,(zaf p r0 ops ops.length).1,(zaf p r0 ops ops.length).2,())):=by
 have hn:=hp.n
 have hmo:=hp.most
 have hsl:=hp.slots
 have:=zpX (f:=xW) (fun (j:Int) (S:zt×List Int)=>(b,ops,(ops.length:Int),j,p,s,S.1,S.2,())) (fun S=>(b,s,S.1,S.2,())) ops.length hl (fun j S=>match ops[j]? with | some o=>Z2 p.Most S.1 S.2 o | none=>S) (fun S=>HOk p S.1∧S.2.length=r0.length)
  (fun j S hS=>by
   split
   ·have:=zw0 (r:=S.2) hp hS.1 (by assumption)
    exact ⟨this.1,this.2.trans hS.2⟩
   ·exact hS)
  (fun j S hj hS=>by
   have x1:=List.getElem?_eq_getElem hj
   obtain ⟨hR,hA⟩:=ho _ (List.getElem_mem hj)
   obtain ⟨HH,hrl⟩:=hS
   have hN:=HH.n
   have hne:S.1.Objs≠[]:=fun e=>by
    have:(S.1.Objs.length:Int)=0:=by rw [e];rfl
    omega
   generalize ops[j]=o at x1 hR hA
   show xW (b,ops,(ops.length:Int),(j:Int),p,s,S.1,S.2,())=_
   have xa:S.2[o.A.toNat]? =some (S.2.getD o.A.toNat 0):=by rw [List.getD_eq_getElem?_getD,List.getElem?_eq_getElem (show o.A.toNat<S.2.length by omega)];rfl
   have xr:S.2[o.R.toNat]? =some (S.2.getD o.R.toNat 0):=by rw [List.getD_eq_getElem?_getD,List.getElem?_eq_getElem (show o.R.toNat<S.2.length by omega)];rfl
   have ia:xg S.2 o.A=some o.A.toNat:=zpA (by omega)
   have ir:xg S.2 o.R=some o.R.toNat:=zpA (by omega)
   obtain ⟨bp,ep⟩:=zqV (h:=S.1) (by omega) (fun l hl=>by have:=(HH.objs l hl).1;have:=HH.slots;omega) (S.2.getD o.A.toNat 0) o.S (S.2.getD o.R.toNat 0)
   have ea:=zot (h:=S.1) (by have:=HH.slots;omega) (by omega) HH.objs hne p.Most
   rw [Xt,zq,if_pos (by omega),wv x1,Option.bind_some,ia,Option.bind_some,xa,Option.bind_some,x1]
   simp only [zq,znL (show S.1.Objs.length<1000000 by omega),ir,xr,ep,ea,Option.bind_some]
   rw [xl (by omega)]
   unfold Z2
   split
   ·rfl
   split
   ·rfl
   split
   ·split<;>rfl
   split<;>rfl)
  (fun S _=>by
   show xW (b,ops,(ops.length:Int),((ops.length:Nat):Int),p,s,S.1,S.2,())=_
   rw [Xt,zq,if_neg (by omega)]) (s:=(p.H,r0)) ⟨⟨rfl,⟨Int.le_refl _,hmo.1⟩,hp.objs⟩,rfl⟩
 refine this.trans ?_
 rw [zr0 (fun S o=>Z2 p.Most S.1 S.2 o) ops _ 0 _ (by omega),List.drop_zero]
 unfold zaf
 rw [List.take_length]
structure RI (p:zb) (r0:List Int) (k:Nat) (s:za) (gh:Gh) (x:zc):Prop where
 G:FG p (zO p+1) k s gh
 ms:s.Ms=[x]
 A:MA p x
 d:s.Done=false
 ac:s.Acks.getD 0 0=0∧s.Epoch=0
 bl:1≤s.L.Bal.length∧s.L.Bal.getD 0 0=0
 rem:YY p s.M x+k≤315
 at_:(s.H,x.Regs)=zaf p r0 (yz p 1) x.IP.toNat
theorem RI.step {p:zb} (hp:zE p) (h0:p.Price=0) (h1:p.Mutators=1) {r0:List Int} {k:Nat} {s:za} {gh:Gh} {x:zc} (R:RI p r0 k s gh x) (hn:x.PC=0→x.IP<((yz p 1).length:Int)): ∃gh' x',RI p r0 (k+1) (yc s 1) gh' x':=by
 have G:=R.G
 have hrem:=R.rem
 have hx:s.Ms[0]? =some x:=by rw [R.ms];rfl
 obtain ⟨gh',G',_⟩:=G.mutator hp (by omega) (m:=1) (by omega) R.d
 have eS:yc s 1={(zm s 1 x).1 with Ms:=s.Ms.set 0 (zm s 1 x).2}:=by
  unfold yc
  rw [if_neg (by rw [R.d,R.ms];rintro (e | e | e)<;>first | cases e | (simp at e))]
  show (match s.Ms[0]? with | some x=>_ | none=>_)=_
  rw [hx];rfl
 have eX:(yc s 1).Ms=[(zm s 1 x).2]:=by rw [eS,R.ms];rfl
 have hXO:XOk p (zO p+1) 1 x:=G.E.X 0 x hx
 have hMX:=G.M 0 x hx
 have hst:=zx0 hp G.E.S.P G.X (by omega) hXO hMX (fun c h5 g0=>G.empty hp (.inr ⟨x,by rw [R.ms];simp,by rw [zcE (.inl c)];exact wU (.inr (by omega))⟩)) R.A G.E.H (by rw [R.ac.1,R.ac.2];decide)
  ⟨by unfold XY;have:=R.bl.1;simp;omega,R.bl.2⟩ h0 hn (fun c=>((G'.M 0 _ (by rw [eX];rfl)).p3 c).2.2)
 obtain ⟨a1,a2,a3,a4,a5⟩:=hst
 have hf:=zmA s 1
 refine ⟨gh',(zm s 1 x).2,G',eX,a1,by rw [hf];exact R.d,⟨?_,by rw [hf];exact R.ac.2⟩,?_,?_,?_⟩
 ·rw [eS];show (zm s 1 x).1.Acks.getD 0 0=0;rw [a3];exact R.ac.1
 ·rw [eS]
  show 1≤(zm s 1 x).1.L.Bal.length∧(zm s 1 x).1.L.Bal.getD 0 0=0
  rcases a4 with e | e
  ·rw [e];exact R.bl
  ·rw [e]
   unfold Yl
   dsimp only
   have hb:=R.bl
   have b0:VL s.L 1=0:=hb.2
   rw [List.length_set]
   refine ⟨hb.1,?_⟩
   rw [show ((1:Int)-1).toNat=0 from rfl,zxI (by omega),if_pos rfl,b0];decide
 ·rw [eS];show YY p (zm s 1 x).1.M (zm s 1 x).2+(k+1)≤315;omega
 ·rw [eS]
  show ((zm s 1 x).1.H,(zm s 1 x).2.Regs)=_
  have hip:=hXO.ip
  rcases a5 with ⟨e1,e2,e3⟩ | ⟨e1,e2⟩
  ·rw [e1,e2,e3];exact R.at_
  ·have hlt:x.IP.toNat<(yz p 1).length:=by
    have:=hXO.op
    have:=R.A.pc
    by_cases c:x.PC=0
    ·have:=hn c;omega
    ·have:=hXO.op (by omega);omega
   rw [e2,e1,show (x.IP+1).toNat=x.IP.toNat+1 by omega,zvQ hlt,←R.at_]
   have eo:opM p 1 x=(yz p 1)[x.IP.toNat]:=by unfold opM;rw [List.getD_eq_getElem?_getD,List.getElem?_eq_getElem hlt];rfl
   rw [eo]
theorem zqX {p:zb} (hp:zE p) (h1:p.Mutators=1) {r0:List Int} {k:Nat} {s:za} {gh:Gh} {x:zc} (R:RI p r0 k s gh x):uD s 1=some (decide (x.PC=0∧((yz p 1).length:Int)≤x.IP),()):=by
 have w0:w64 (1-1)=0:=yH (by decide) (by decide)
 have hx:idx s.Ms (w64 (1-1))=some x:=by rw [R.ms,w0];rfl
 have hg:=zkI hp (m:=1) (by omega)
 have hp':idx s.P.Progs (w64 (1-1))=some (yz p 1):=by rw [R.G.E.S.P,w0];exact wv (i:=0) hg
 rw [zcR,decide_eq_true (show (1:Int)≤1 by decide),cond_true,zq,if_pos (by rw [R.ms];show (1:Int)≤1;decide),hx,Option.bind_some,Option.bind_some,hp',Option.bind_some,zq]
 by_cases c:x.PC=0
 ·rw [if_pos c];simp [c]
 ·rw [if_neg c];simp [c]
theorem zwH {s:za} {x:zc} (hx:s.Ms=[x]) (hl:x.Regs.length<1000000) (b:Bool):yA xV (b,0,s,x.Regs,())=some (.brk (b,())):=by
 have:=zpX (f:=xV) (fun (j:Int) (_:Unit)=>(b,j,s,x.Regs,())) (fun _=>(b,())) x.Regs.length hl (fun _ _=>()) (fun _=>True) (fun _ _ _=>trivial)
  (fun j _ hj _=>by
   have x1:=List.getElem?_eq_getElem hj
   have x0:idx s.Ms 0=some x:=by rw [hx];rfl
   show xV (b,(j:Int),s,x.Regs,())=_
   rw [Xs,zq,if_pos (by omega),x0,Option.bind_some,wv x1,Option.bind_some,zpA (by omega),Option.bind_some,Int.toNat_natCast,x1,Option.bind_some,decide_eq_true rfl,xl (by omega)];rfl)
  (fun _ _=>by
   show xV (b,((x.Regs.length:Nat):Int),s,x.Regs,())=_
   rw [Xs,zq,if_neg (by omega)]) (s:=()) trivial
 exact this
theorem mutatorRuns_plain (l:List (BitVec 8)):vV l=some (true,()):=by
 obtain ⟨p,ep,h⟩:=zx6 l
 rw [zek,zrz]
 simp only [Option.bind_some,Bool.not_true,cond_false,ep]
 rw [zq]
 by_cases c0:p.Mutators=0
 ·rw [if_pos c0]
 rw [if_neg c0]
 have hmt:=h.mt
 have hr:=h.regs
 have hg:=h.progs
 have hn:=h.n
 have hmo:=h.most
 obtain ⟨r0,er⟩: ∃r0,p.Regs[0]? =some r0:=⟨_,List.getElem?_eq_getElem (show 0<p.Regs.length by omega)⟩
 obtain ⟨ops,eo⟩: ∃ops,p.Progs[0]? =some ops:=⟨_,List.getElem?_eq_getElem (show 0<p.Progs.length by omega)⟩
 have tr:p.Regs.take 1=[r0]:=by
  match hL:p.Regs,er with
  | a::t,er=>injection er with er;rw [er];rfl
 have to:p.Progs.take 1=[ops]:=by
  match hL:p.Progs,eo with
  | a::t,eo=>injection eo with eo;rw [eo];rfl
 have k1:cut p.Regs 0 1=some [r0]:=by
  unfold cut
  rw [decide_eq_true (show (0:Int)≤0 by decide),decide_eq_true (show (0:Int)≤1 by decide),decide_eq_true (show (1:Int)≤(p.Regs.length:Int) by omega)]
  show some ((p.Regs.take 1).drop 0)=_
  rw [tr];rfl
 have k2:cut p.Progs 0 1=some [ops]:=by
  unfold cut
  rw [decide_eq_true (show (0:Int)≤0 by decide),decide_eq_true (show (0:Int)≤1 by decide),decide_eq_true (show (1:Int)≤(p.Progs.length:Int) by omega)]
  show some ((p.Progs.take 1).drop 0)=_
  rw [to];rfl
 have hp0:=h.prog 0 r0 ops er eo
 have hr0:=h.reg r0 (List.mem_of_getElem? er)
 have h':zE {p with Mutators:=1,Price:=0,Regs:=[r0],Progs:=[ops]} :=
  ⟨h.wk,⟨by show (0:Int)≤1;decide,by show (1:Int)≤2;decide⟩,h.cap,h.buf,h.bin,⟨by show (0:Int)≤0;decide,by show (0:Int)≤3;decide⟩,h.limit,h.slots,h.n,h.objs,h.most,h.roots,rfl,rfl,
   fun r hr=>by rw [List.mem_singleton.1 hr];exact hr0,fun k r o e1 e2=>match k,e1,e2 with
    | 0,e1,e2=>by injection e1 with e1;injection e2 with e2;rw [←e1,←e2];exact hp0
    | k+1,e1,_=>(nomatch e1),h.picks⟩
 rw [k1,Option.bind_some,k2,Option.bind_some,zlx h',Option.bind_some]
 have eP:yz {p with Mutators:=1,Price:=0,Regs:=[r0],Progs:=[ops]} 1=ops:=rfl
 have hrm:zcb {p with Mutators:=1,Price:=0,Regs:=[r0],Progs:=[ops]} 1=r0.length:=rfl
 have hops: ∀o∈ops,(0≤o.R∧o.R<(r0.length:Int))∧(0≤o.A∧o.A<(r0.length:Int)):=fun o ho=>zgN h' (m:=1) ⟨by decide,by show (1:Int)≤1;decide⟩ ho
 have hm1:({p with Mutators:=1,Price:=0,Regs:=[r0],Progs:=[ops]}:zb).Mutators=1:=rfl
 have hz:({p with Mutators:=1,Price:=0,Regs:=[r0],Progs:=[ops]}:zb).Price=0:=rfl
 have hH:({p with Mutators:=1,Price:=0,Regs:=[r0],Progs:=[ops]}:zb).H=p.H:=rfl
 have hRg:({p with Mutators:=1,Price:=0,Regs:=[r0],Progs:=[ops]}:zb).Regs=[r0]:=rfl
 have hlo:ops.length≤7:=by omega
 rw [←hH]
 generalize ({p with Mutators:=1,Price:=0,Regs:=[r0],Progs:=[ops]}:zb)=p' at h' eP hrm hm1 hz hRg
 have hms:(yW p').Ms=[wQ r0]:=by show p'.Regs.map wQ=_;rw [hRg];rfl
 have hr4:r0.length<4294967296:=by omega
 have rm:=wD hr4
 rw [show decide (((yW p').Ms.length:Int)=1)=true by rw [hms];rfl,Bool.not_true,cond_false,show idx [r0] 0=some r0 from rfl,Option.bind_some,rm,Option.bind_some,show idx [ops] 0=some ops from rfl,Option.bind_some]
 refine (congrArg (fun o=>Option.bind o _) (zvV h' (by omega) (by omega) hops true (yW p'))).trans ?_
 rw [Option.bind_some]
 dsimp only
 have hhb:=h'.mt
 obtain ⟨o,e,n,s,gh,x,rfl,R,e0,e1⟩:=Zk (f:=ZM) (fun a=>∃(i:Nat) (s:za) (gh:Gh) (x:zc),a=(true,(i:Int),s,(zaf p' r0 ops ops.length).1,(zaf p' r0 ops ops.length).2,())∧RI p' r0 i s gh x) (fun a=>400-a.2.1.toNat)
  (fun o=>∃(n:Nat) (s:za) (gh:Gh) (x:zc),o= .brk (true,s,(zaf p' r0 ops ops.length).1,(zaf p' r0 ops ops.length).2,())∧RI p' r0 n s gh x∧x.PC=0∧((yz p' 1).length:Int)≤x.IP) (by
  rintro _ ⟨i,s,gh,x,rfl,R⟩
  have hrem:=R.rem
  have hG:=R.G.E
  have hx:s.Ms[0]? =some x:=by rw [R.ms];rfl
  rw [zbG,zq,if_pos (by omega),zqX h' hm1 R,Option.bind_some]
  dsimp only
  by_cases c:x.PC=0∧((yz p' 1).length:Int)≤x.IP
  ·rw [decide_eq_true c,Bool.not_true,cond_false]
   exact ⟨_,rfl,i,s,gh,x,rfl,R,c.1,c.2⟩
  ·rw [decide_eq_false c,Bool.not_false,cond_true,zgP h' hG,Option.bind_some,xl (by omega)]
   obtain ⟨gh',x',R'⟩:=R.step h' hz hm1 (fun c0=>by
    refine Int.not_le.1 fun h=>c ⟨c0,h⟩)
   refine ⟨_,rfl,⟨i+1,_,gh',x',rfl,R'⟩,?_⟩
   show 400-((i+1:Nat):Int).toNat<400-(i:Int).toNat
   omega) (true,0,yW p',(zaf p' r0 ops ops.length).1,(zaf p' r0 ops ops.length).2,()) ⟨0,yW p',gh0 p',wQ r0,rfl,⟨zyY h',hms,⟨.inl rfl,fun e=>(by cases e),fun e=>absurd e (by show ¬(((20:Int)≤0∧(0:Int)≤23)∨(0:Int)=1∨(0:Int)=3);decide),fun e=>(by cases e)⟩,rfl,⟨by
    show (List.replicate p'.Mutators.toNat (0:Int)).getD 0 0=0
    rw [hm1];rfl,rfl⟩,⟨by
    show 1≤(List.replicate p'.Mutators.toNat (0:Int)).length
    rw [hm1];decide,by
    show (List.replicate p'.Mutators.toNat (0:Int)).getD 0 0=0
    rw [hm1];rfl⟩,by
    unfold YY
    rw [if_pos (show (wQ r0).PC=0 from rfl),eP]
    show 45*(ops.length-0)+0≤315
    omega,rfl⟩⟩ (by show 400-0<18446744073709551616;decide)
 refine (congrArg (fun o=>Option.bind o _) e).trans ?_
 rw [Option.bind_some]
 dsimp only
 have hip:=(R.G.E.X 0 x (by rw [R.ms];rfl)).ip
 have hfin:=R.at_
 rw [eP] at e1
 rw [eP,show x.IP.toNat=ops.length by rw [show ((0:Nat):Int)+1=1 from rfl,eP] at hip;omega] at hfin
 have f1:s.H=(zaf p' r0 ops ops.length).1:=congrArg Prod.fst hfin
 have f2:x.Regs=(zaf p' r0 ops ops.length).2:=congrArg Prod.snd hfin
 have hsm:=R.G.E.small
 have hrl:=(hsm.mu x (by rw [R.ms];simp)).1
 rw [zqX h' hm1 R,Option.bind_some,decide_eq_true (⟨e0,by rw [eP];exact e1⟩:x.PC=0∧((yz p' 1).length:Int)≤x.IP),Bool.not_true,cond_false,←f1,←f2,zk7 hsm.objs hsm.obj,Option.bind_some,Bool.not_true,cond_false,show idx s.Ms 0=some x by rw [R.ms];rfl,Option.bind_some,decide_eq_true rfl,Bool.not_true,cond_false,zwH R.ms hrl]
 rfl
end B16
end
end Go.Pe.G
