/- Own work of this seat: PWstep, PMstep, PBits, PWAll, PLists, PWNew, PHp, PFirst, PNewI, PCnt, PFull, PReach, PLiveP, PProt, PMProt, PMSnap, PWSnap, PFWork, PEngI, PEngP, PEngN, PRegs, PPhase, PDone, PUnder. -/
import Derived.Test.YthmdgkhilfpgfaaGreatDoorDDPa
set_option linter.unusedVariables false
set_option linter.unusedSimpArgs false
set_option linter.unnecessarySimpa false
set_option linter.unusedSectionVars false
set_option linter.deprecated false
set_option maxRecDepth 20000
namespace Go.Pe.G
open Go.Pe
noncomputable section
def wv (x:ze):List Int:=if x.PC=3∨x.PC=4 then [x.Bin] else if x.PC=6 then wo x.G else []
def zay (s:za) (x:ze):List Int:=if x.PC=0 then Wf s.M x.D else if x.PC=3 then vQ s x.Bin else if x.PC=5∨x.PC=8 then [x.Obj] else if x.PC=6 then x.Obj::yS x.G else []
def zQ (s:za) (x:ze):List Int:=x.Batch++zay s x
structure WX (p:zb) (s:za) (gh:Gh) (w:Int) (x:ze):Prop where
 c0:x.PC≠0→gh.c w=0
 bt:x.PC≤3→x.Batch=[]
 p0:x.PC=0→PK p s.M w (gh.t w) (gh.D w) (gh.c w) x.D
 p1:x.PC=1→TK p s.M x.Victim (gh.t x.Victim) (gh.D x.Victim) x.D
 p2:x.PC=2→x.C.Out=0∧(0≤x.C.PC∧x.C.PC≤2)∧CK p s.M x.C
 p4:x.PC=4→x.C.Out=0∧(0≤x.C.PC∧x.C.PC≤2)∧x.C.X=x.Bin∧CK p s.M x.C
 p6:x.PC=6→GX p s gh x.G∧x.G.Mode=1∧x.G.Who=w∧x.G.Out=0
theorem WX.plain {p:zb} {s:za} {gh:Gh} {w:Int} {x:ze} (h:x.PC=5∨x.PC=7∨x.PC=8∨x.PC=9) (c:gh.c w=0):WX p s gh w x :=
 ⟨fun _=>c,fun e=>by omega,fun e=>by omega,fun e=>by omega,fun e=>by omega,fun e=>by omega,fun e=>by omega⟩
theorem CK.start {p:zb} {m:List (BitVec 64)} {k h x:Int}:CK p m ⟨k,0,h,zI p,0#64,x,0,0⟩ :=
 ⟨fun e=>absurd e (by show ¬(1:Int)≤0;decide),fun e=>absurd e (by show ¬(0:Int)=2;decide),fun e=>absurd e (by show ¬(0:Int)=2;decide)⟩
theorem WX.begin {p:zb} {s:za} {gh:Gh} {w:Int} {x:ze} (c:gh.c w=0) (hb:x.Batch=[]):WX p s gh w (Ul p w x):=by
 refine ⟨fun e=>absurd rfl e,fun _=>hb,fun _=>⟨rfl,rfl,rfl,rfl,⟨by show (0:Int)≤0;decide,by show (0:Int)≤6;decide⟩,fun _=>c,?_,?_,?_,?_,?_,?_,?_,?_⟩,fun e=>(by cases e),fun e=>(by cases e),fun e=>(by cases e),fun e=>(by cases e)⟩
 all_goals (intro e;first | (exact absurd e (by show ¬((0:Int)=2∨(4:Int)≤0);decide)) | (exact absurd e (by show ¬(0:Int)=3;decide)) | (exact absurd e (by show ¬(0:Int)=4;decide)) | (exact absurd e (by show ¬((0:Int)=3∨(0:Int)=4);decide)) | (exact absurd e (by show ¬(5:Int)≤0;decide)) | skip)
 rcases e with e | e | e | e
 ·exact absurd e (by show ¬(0:Int)=1;decide)
 ·exact absurd e (by show ¬(0:Int)=2;decide)
 ·exact absurd e (by show ¬(4:Int)≤0;decide)
 ·exact absurd e.1 (by show ¬(0:Int)=3;decide)
theorem zif {p:zb} {s:za} {w:Int} {x:ze}:zay s (Ul p w x)=[]:=by
 unfold zay
 rw [if_pos (show (Ul p w x).PC=0 from rfl)]
 exact vW (.inl (by show (0:Int)≠3;decide)) (by show (0:Int)≠6;decide)
theorem WX.look {p:zb} {s:za} {gh:Gh} {w:Int} {x:ze} (c:gh.c w=0) (hb:x.Batch=[]):WX p s gh w (uS p w x)∧zay s (uS p w x)=[]∧wv (uS p w x)=[]:=by
 unfold uS
 split
 ·refine ⟨⟨fun _=>c,fun _=>hb,fun e=>(by cases e),fun e=>(by cases e),fun _=>⟨rfl,⟨by show (0:Int)≤0;decide,by show (0:Int)≤2;decide⟩,CK.start⟩,fun e=>(by cases e),fun e=>(by cases e)⟩,?_,?_⟩
  ·unfold zay;rw [if_neg (by show ¬(2:Int)=0;decide),if_neg (by show ¬(2:Int)=3;decide),if_neg (by show ¬((2:Int)=5∨(2:Int)=8);decide),if_neg (by show ¬(2:Int)=6;decide)]
  ·unfold wv;rw [if_neg (by show ¬((2:Int)=3∨(2:Int)=4);decide),if_neg (by show ¬(2:Int)=6;decide)]
 ·refine ⟨⟨fun _=>c,fun _=>hb,fun e=>(by cases e),fun _=>⟨rfl,rfl,rfl,rfl,⟨by show (0:Int)≤0;decide,by show (0:Int)≤3;decide⟩,fun e=>absurd e (by show ¬(1:Int)≤0;decide),fun e=>absurd e (by show ¬(2:Int)≤0;decide),fun e=>absurd e (by show ¬(0:Int)=3;decide)⟩,fun e=>(by cases e),fun e=>(by cases e),fun e=>(by cases e)⟩,?_,?_⟩
  ·unfold zay;rw [if_neg (by show ¬(1:Int)=0;decide),if_neg (by show ¬(1:Int)=3;decide),if_neg (by show ¬((1:Int)=5∨(1:Int)=8);decide),if_neg (by show ¬(1:Int)=6;decide)]
  ·unfold wv;rw [if_neg (by show ¬((1:Int)=3∨(1:Int)=4);decide),if_neg (by show ¬(1:Int)=6;decide)]
theorem WX.other {p:zb} (hp:zA p) {nb k:Nat} {s s':za} {gh gh':Gh} {X R:List Int} {O:Int→Prop} {w:Int} {x:ze} (hw:1≤w∧w≤p.Workers) (Y:SX p nb s gh (X++R) k) (Fx:FX p nb X O s s' gh gh') (K:WX p s gh w x) (W:WOk p nb w x)
  (hR: ∀b∈wv x,b∈R) (apart: ¬O w):WX p s' gh' w x∧zQ s' x=zQ s x:=by
 have hsub: ∀b∈X,b∈X++R:=fun b hb=>List.mem_append_left _ hb
 have hnd:=(List.nodup_append.1 Y.L.nodup).2.1
 have hnot: ∀b,b∈wv x→b∉X:=fun b hb hg=>(List.nodup_append.1 hnd).2.2 b hg b (hR b hb) rfl
 have hc:gh'.c w=gh.c w:=by
  rcases Fx.dq w hw.1 hw.2 with h | h
  ·cases h with
   | same e1 e2 e3 e4=>exact e3
   | stolen y e1 e2 e3 e4=>exact e3
  ·exact absurd h.1 apart
 have hcell: ∀a,zW p w<a→a<zW p w+p.Cap+2→ld s'.M a=ld s.M a:=by
  rcases Fx.dq w hw.1 hw.2 with h | h
  ·cases h with
   | same e1 e2 e3 e4=>exact fun a h1 h2=>e4 a (by omega) h2
   | stolen y e1 e2 e3 e4=>exact e4
  ·exact absurd h.1 apart
 refine ⟨⟨fun e=>hc.trans (K.c0 e),K.bt,fun e=>Fx.pk hp hw.1 hw.2 apart (K.p0 e),fun e=>Fx.tk W.vic.1 W.vic.2 (K.p1 e),fun e=> ?_,fun e=> ?_,fun e=> ?_⟩,?_⟩
 ·obtain ⟨a,b,c⟩:=K.p2 e
  have C:=W.c2 e
  exact ⟨a,b,c.mv Y.L Fx.mv hsub (.inl C.h) (fun h _=>C.v h) (fun e2=>by have:=C.k;omega)⟩
 ·obtain ⟨a,b,c,d⟩:=K.p4 e
  have C:=W.c4 e
  have hno:=hnot x.Bin (by unfold wv;rw [if_pos (.inr e)];simp)
  exact ⟨a,b,c,d.mv Y.L Fx.mv hsub (.inr C.h) (fun _ e2=>by have:=C.k;omega) (fun _=>⟨C.x.1,C.x.2,by rw [c];exact hno⟩)⟩
 ·obtain ⟨a,b,c,d⟩:=K.p6 e
  have M:=(W.g6 e).1
  refine ⟨a.other hp Y Fx M (fun y hy=>hR y ?_) (fun _=>by rw [c];exact apart),b,c,d⟩
  unfold wv;rw [if_neg (by omega),if_pos e];exact hy
 ·unfold zQ zay
  congr 1
  by_cases e0:x.PC=0
  ·rw [if_pos e0,if_pos e0]
   have P:=K.p0 e0
   unfold Wf
   have hpl:=(zqi hp hw.1 hw.2 P.base P.size (x.D.B-1#64)).2
   rw [hcell _ (by rw [P.base] at hpl;omega) (by rw [P.base] at hpl;omega)]
  ·rw [if_neg e0,if_neg e0]
   by_cases e3:x.PC=3
   ·rw [if_pos e3,if_pos e3]
    have hb:=W.b3 e3
    have hno:=hnot x.Bin (by unfold wv;rw [if_pos (.inl e3)];simp)
    unfold vQ
    rw [Fx.bn x.Bin hb.1 hno]
   ·rw [if_neg e3,if_neg e3]
theorem zvK (s:za) (b:Int):Vf s b=vQ s b:=by unfold Vf vQ;rw [List.getD_eq_getElem?_getD]
theorem FX.mono {p:zb} {nb:Nat} {X:List Int} {O O':Int→Prop} {s s':za} {g g':Gh} (h:FX p nb X O s s' g g') (i: ∀v,O v→O' v):FX p nb X O' s s' g g' :=
 ⟨h.mv,h.bn,fun v a b=>(h.dq v a b).imp id (fun e=>⟨i v e.1,e.2⟩)⟩
theorem uj {x:ze} (h3:x.PC≠3) (h4:x.PC≠4) (h6:x.PC≠6):wv x=[]:=by unfold wv;rw [if_neg (by omega),if_neg h6]
theorem zi3 {x:ze} (h:x.PC=3∨x.PC=4):wv x=[x.Bin]:=by unfold wv;rw [if_pos h]
theorem zvQ {x:ze} (h:x.PC=6):wv x=wo x.G:=by unfold wv;rw [if_neg (by omega),if_pos h]
theorem zy4 {s:za} {x:ze} (h:x.PC=0):zay s x=Wf s.M x.D:=by unfold zay;rw [if_pos h]
theorem zzv {s:za} {x:ze} (h:x.PC=3):zay s x=vQ s x.Bin:=by unfold zay;rw [if_neg (by omega),if_pos h]
theorem YM {s:za} {x:ze} (h:x.PC=5∨x.PC=8):zay s x=[x.Obj]:=by unfold zay;rw [if_neg (by omega),if_neg (by omega),if_pos h]
theorem zo1 {s:za} {x:ze} (h:x.PC=6):zay s x=x.Obj::yS x.G:=by unfold zay;rw [if_neg (by omega),if_neg (by omega),if_neg (by omega),if_pos h]
theorem Yo {s:za} {x:ze} (h:x.PC=1∨x.PC=2∨x.PC=4∨x.PC=7∨x.PC=9):zay s x=[]:=by unfold zay;rw [if_neg (by omega),if_neg (by omega),if_neg (by omega),if_neg (by omega)]
def ziY (p:zb) (nb k:Nat) (R:List Int) (gh:Gh) (s:za) (w:Int) (x:ze) (s':za) (x':ze):Prop :=
 ∃gh',SX p nb s' gh' (wv x'++R) (k+1)∧WX p s' gh' w x'∧FX p nb (wv x) (fun v=>v=w) s s' gh gh' ∧
  ∃N B,List.Perm (yA p s' gh'++zQ s' x'++B) (N++(yA p s gh++zQ s x)) ∧
   ((N=[]∧B=[]∧s'.T=s.T)∨(N=[x.G.Obj]∧B=[]∧x.PC=6∧¬(s.T.Marks|||bit x.G.Obj=s.T.Marks)∧s'.T={s.T with Marks:=s.T.Marks|||bit x.G.Obj})∨(N=[]∧B=[x.Obj]∧x.PC=8∧s'.T=wz s.T x.Obj))
theorem ziY.quiet {p:zb} {nb k:Nat} {R:List Int} {gh:Gh} {s s':za} {w:Int} {x x':ze} (X:SX p nb s gh (wv x++R) k) (S':SOk p nb s') (hm:s'.M=s.M) (hb:s'.Bins=s.Bins) (hT:s'.T=s.T)
  (ho:wv x'=wv x) (hh:List.Perm (zQ s' x') (zQ s x)) (W':WX p s' gh w x'):ziY p nb k R gh s w x s' x' :=
 ⟨gh,by rw [ho];exact X.quiet S' hm,W',FX.quiet hm (fun _ _ _=>by rw [hb]),[],[],by rw [uW hb,List.append_nil];exact List.Perm.append_left _ hh,.inl ⟨rfl,rfl,hT⟩⟩
theorem zBh {p:zb} (hp:zA p) {nb k:Nat} {R:List Int} {gh:Gh} {s:za} {w:Int} {x:ze} (hk:k<4294960000) (hw:1≤w∧w≤p.Workers) (X:SX p nb s gh (wv x++R) k) (W:WOk p nb w x) (K:WX p s gh w x)
  (hH: ∀o i,0≤zO s.H o i∧zO s.H o i≤64):ziY p nb k R gh s w x (zj s w x).1 (zj s w x).2:=by
 have S':=(zxm hp hw X.S W).1
 have hP:=X.S.P
 have eL: ∀y,uS s.P w y=uS p w y:=fun y=>by rw [hP]
 have eB: ∀y,Ul s.P w y=Ul p w y:=fun y=>by rw [hP]
 have eC:zbA s.P (zI s.P) x.Bin=zbA p (zI p) x.Bin:=by rw [hP]
 have hpc:=W.pc
 have hlen:=X.L.len
 have hE:=wN hp
 revert S'
 unfold zj
 by_cases p01:x.PC=0∨x.PC=1
 ·rw [if_pos p01]
  intro S'
  have S':SOk p nb {s with M:=(zU s.M x.D).1}:=S'
  have hl:=(zk6 s.M x.D).1
  have eo:wv x=[]:=uj (by omega) (by omega) (by omega)
  have hbt:=K.bt (by omega)
  rw [eo] at X
  dsimp only
  by_cases p0:x.PC=0
  ·have K0:=K.p0 p0
   have D0:=X.D w hw.1 hw.2
   have hdk:=X.dk w hw.1 hw.2
   obtain ⟨t',l',c',D',hm,V,hle,r⟩:=zws hp hw (by omega) D0 K0
   have hc:=hp.cap
   have hm': ∀a,(a<zW p w∨zW p w+p.Cap+2≤a)→ld (zU s.M x.D).1 a=ld s.M a:=fun a ha=>hm a (by omega) (by omega)
   have X':=X.dq hp S' hl hw hm' D' (by omega)
   have Fx:FX p nb (wv x) (fun v=>v=w) s {s with M:=(zU s.M x.D).1} gh (WW gh w t' l' c'):=FX.own (O:=fun v=>v=w) (s:=s) (s':={s with M:=(zU s.M x.D).1}) (g:=gh) hp hw hm' rfl rfl V
   obtain ⟨u,v,f1,f2⟩:=zoK (p:=p) (s:=s) (s':={s with M:=(zU s.M x.D).1}) (g:=gh) rfl hw (t:=t') (c:=c') (l:=l')
   have fin: ∀x':ze,wv x'=[]→WX p {s with M:=(zU s.M x.D).1} (WW gh w t' l' c') w x'→List.Perm (l'++zQ {s with M:=(zU s.M x.D).1} x') (gh.D w++zQ s x)→ziY p nb k R gh s w x {s with M:=(zU s.M x.D).1} x':=by
    intro x' a b c
    refine ⟨_,by rw [a];exact X',b,Fx,[],[],?_,.inl ⟨rfl,rfl,rfl⟩⟩
    rw [f1,f2,List.append_nil,List.nil_append]
    simp only [List.append_assoc]
    refine List.Perm.append_left _ ?_
    refine (List.perm_append_comm_assoc l' v _).trans (List.Perm.trans ?_ (List.perm_append_comm_assoc v (gh.D w) _))
    exact List.Perm.append_left _ c
   have hh:zQ s x=Wf s.M x.D:=by unfold zQ;rw [hbt,zy4 p0,List.nil_append]
   rw [hh] at fin
   rcases r with ⟨r1,r2,r3⟩ | ⟨r1,r2,r3⟩ | ⟨r1,r2,r3,r4,r5⟩
   ·rw [r1,if_neg (by decide),if_neg (by decide)]
    refine fin _ (uj (by show x.PC≠3;omega) (by show x.PC≠4;omega) (by show x.PC≠6;omega)) ⟨fun e=>absurd p0 e,fun _=>hbt,fun _=> ?_,fun e=>by have e:x.PC=1:=e;omega,fun e=>by have e:x.PC=2:=e;omega,fun e=>by have e:x.PC=4:=e;omega,fun e=>by have e:x.PC=6:=e;omega⟩ ?_
    ·rw [wG.1,wG.2.1,wG.2.2];exact r2
    ·unfold zQ
     rw [zy4 (x:={x with D:=(zU s.M x.D).2}) p0]
     show List.Perm (l'++(x.Batch++Wf (zU s.M x.D).1 (zU s.M x.D).2)) _
     rw [hbt,List.nil_append];exact r3
   ·rw [r1,if_pos rfl]
    refine fin _ (uj (by show (5:Int)≠3;decide) (by show (5:Int)≠4;decide) (by show (5:Int)≠6;decide)) (WX.plain (.inl rfl) (by rw [wG.2.2];exact r2)) ?_
    unfold zQ
    rw [YM (.inl rfl)]
    show List.Perm (l'++(x.Batch++[(zU s.M x.D).2.X])) _
    rw [hbt,List.nil_append];exact r3
   ·rw [r1,if_neg (by decide),if_pos (.inl rfl),eL]
    obtain ⟨a,b,c⟩:=WX.look (p:=p) (s:={s with M:=(zU s.M x.D).1}) (gh:=WW gh w t' l' c') (w:=w) (x:={x with D:=(zU s.M x.D).2}) (by rw [wG.2.2];exact r2) hbt
    refine fin _ c a ?_
    unfold zQ
    rw [b,r3,r4,r5,show (uS p w {x with D:=(zU s.M x.D).2}).Batch=x.Batch by unfold uS;split<;>rfl,hbt]
    exact List.Perm.refl _
  ·have p1:x.PC=1:=by omega
   have K1:=K.p1 p1
   have hv:=W.vic
   have hc0:=K.c0 p0
   have D0:=X.D x.Victim hv.1 hv.2
   have hdk:=X.dk x.Victim hv.1 hv.2
   have hh:zQ s x=[]:=by unfold zQ;rw [hbt,Yo (.inl p1)];rfl
   rcases zxF hp hv (by omega) D0 K1 with ⟨hm,r⟩ | ⟨y,l',e1,e2,e3,e4,e5⟩
   ·have S2:=S'
    have q: ∀x':ze,wv x'=[]→zQ {s with M:=(zU s.M x.D).1} x'=[]→WX p {s with M:=(zU s.M x.D).1} gh w x'→ziY p nb k R gh s w x {s with M:=(zU s.M x.D).1} x' :=
     fun x' a b c=> .quiet (by rw [eo];exact X) S' hm rfl rfl (by rw [a,eo]) (by rw [b,hh]) c
    rcases r with ⟨r1,r2⟩ | r
    ·rw [r1,if_neg (by decide),if_neg (by decide)]
     refine q _ (uj (by show x.PC≠3;omega) (by show x.PC≠4;omega) (by show x.PC≠6;omega)) ?_ ⟨fun _=>hc0,fun _=>hbt,fun e=>absurd e p0,fun _=> ?_,fun e=>by have e:x.PC=2:=e;omega,fun e=>by have e:x.PC=4:=e;omega,fun e=>by have e:x.PC=6:=e;omega⟩
     ·unfold zQ
      rw [Yo (x:={x with D:=(zU s.M x.D).2}) (.inl p1)]
      show x.Batch++[]=[]
      rw [hbt];rfl
     ·show TK p (zU s.M x.D).1 _ _ _ _
      rw [hm];exact r2
    ·rw [if_neg (by omega),if_pos r,eL]
     obtain ⟨a,b,c⟩:=WX.look (p:=p) (s:={s with M:=(zU s.M x.D).1}) (gh:=gh) (w:=w) (x:={x with D:=(zU s.M x.D).2}) hc0 hbt
     refine q _ c ?_ a
     unfold zQ
     rw [b,show (uS p w {x with D:=(zU s.M x.D).2}).Batch=x.Batch by unfold uS;split<;>rfl,hbt];rfl
   ·have hc:=hp.cap
    have hm': ∀a,(a<zW p x.Victim∨zW p x.Victim+p.Cap+2≤a)→ld (zU s.M x.D).1 a=ld s.M a:=fun a ha=>e5 a (by omega)
    have X':=X.dq hp S' hl hv hm' e4 (by rw [e1] at hdk;simp at hdk;omega)
    obtain ⟨h1,h2⟩:=zsX hp hv hm'
    obtain ⟨u,v,f1,f2⟩:=zoK (p:=p) (s:=s) (s':={s with M:=(zU s.M x.D).1}) (g:=gh) rfl hv (t:=gh.t x.Victim+1) (c:=gh.c x.Victim) (l:=l')
    rw [e2,if_pos rfl]
    refine ⟨WW gh x.Victim (gh.t x.Victim+1) l' (gh.c x.Victim),by rw [uj (by show (5:Int)≠3;decide) (by show (5:Int)≠4;decide) (by show (5:Int)≠6;decide)];exact X',WX.plain (.inl rfl) ?_,⟨Mv.low hp h1,fun _ _ _=>rfl,fun v' a b=> .inl ?_⟩,[],[],?_,.inl ⟨rfl,rfl,rfl⟩⟩
    ·by_cases e:w=x.Victim
     ·rw [e,wG.2.2,←e];exact hc0
     ·rw [(YT e).2.2];exact hc0
    ·by_cases e:v'=x.Victim
     ·subst e
      exact .stolen y wG.2.1 (by rw [wG.1];exact e1) wG.2.2 (fun a h1 _=>e5 a (by omega))
     ·exact .same (YT e).2.1 (YT e).1 (YT e).2.2 (h2 v' a b e)
    ·rw [f1,f2,hh,List.append_nil,List.append_nil,List.nil_append,e1]
     unfold zQ
     rw [YM (.inl rfl)]
     show List.Perm (u++l'++v++(x.Batch++[(zU s.M x.D).2.X])) _
     rw [hbt,List.nil_append,e3]
     simp only [List.append_assoc]
     refine List.Perm.append_left _ ?_
     show List.Perm (l'++(v++[y])) (y::(l'++v))
     rw [←List.append_assoc]
     exact List.perm_append_comm
 rw [if_neg p01]
 have hc0:=K.c0 (by omega)
 by_cases p2:x.PC=2
 ·rw [if_pos p2]
  intro S'
  have S':SOk p nb {s with M:=(zm s.M x.C).1}:=S'
  have C:=W.c2 p2
  obtain ⟨c1,c2,c3⟩:=K.p2 p2
  have hbt:=K.bt (by omega)
  have eo:wv x=[]:=uj (by omega) (by omega) (by omega)
  have hh:zQ s x=[]:=by unfold zQ;rw [hbt,Yo (.inr (.inl p2))];rfl
  dsimp only
  rcases SX.popF hp X hk C.k C.h C.n c1 c2 c3 C.v S' with ⟨a,b,c,d⟩ | ⟨y,l,a,b,c,d,e⟩
  ·rw [if_neg b]
   have hout:=zby s.M c1 c2 (.inr C.k)
   by_cases o2:(zm s.M x.C).2.Out=2
   ·rw [if_pos o2,eB]
    refine .quiet X S' a rfl rfl ?_ ?_ (WX.begin hc0 hbt)
    ·rw [eo];exact uj (by show (0:Int)≠3;decide) (by show (0:Int)≠4;decide) (by show (0:Int)≠6;decide)
    ·unfold zQ
     rw [zif,show (Ul p w {x with C:=(zm s.M x.C).2}).Batch=x.Batch from rfl]
     rw [hbt,Yo (.inr (.inl p2))]
   ·rw [if_neg o2]
    have hpc':(zm s.M x.C).2.Out=0∧0≤(zm s.M x.C).2.PC∧(zm s.M x.C).2.PC≤2:=by omega
    refine .quiet X S' a rfl rfl ?_ ?_ ⟨fun _=>hc0,fun _=>hbt,fun e=>by have e:x.PC=0:=e;omega,fun e=>by have e:x.PC=1:=e;omega,fun _=>⟨hpc'.1,hpc'.2,?_⟩,fun e=>by have e:x.PC=4:=e;omega,fun e=>by have e:x.PC=6:=e;omega⟩
    ·rw [eo];exact uj (by show x.PC≠3;omega) (by show x.PC≠4;omega) (by show x.PC≠6;omega)
    ·unfold zQ
     rw [Yo (x:={x with C:=(zm s.M x.C).2}) (.inr (.inl p2)),Yo (.inr (.inl p2))]
    ·rw [show ({s with M:=(zm s.M x.C).1}:za).M=s.M from a];exact c
  ·rw [if_pos b]
   have e1:wv {x with C:=(zm s.M x.C).2,Bin:=(zm s.M x.C).2.X,PC:=3}=[y]:=by rw [←c];exact zi3 (x:={x with C:=(zm s.M x.C).2,Bin:=(zm s.M x.C).2.X,PC:=3}) (.inl rfl)
   refine ⟨{gh with F:=l},by rw [e1];rw [eo] at d;exact d,⟨fun _=>hc0,fun _=>hbt,fun e=>(by cases e),fun e=>(by cases e),fun e=>(by cases e),fun e=>(by cases e),fun e=>(by cases e)⟩,e _ _,[],[],?_,.inl ⟨rfl,rfl,rfl⟩⟩
   rw [hh,List.append_nil,List.append_nil,List.nil_append]
   unfold zQ
   rw [zzv (x:={x with C:=(zm s.M x.C).2,Bin:=(zm s.M x.C).2.X,PC:=3}) rfl]
   show List.Perm (yA p s {gh with F:=l}++(x.Batch++vQ s (zm s.M x.C).2.X)) _
   rw [hbt,List.nil_append,c]
   have:yA p s gh=vQ s y++yA p s {gh with F:=l}:=by unfold yA;rw [a];simp [List.append_assoc]
   rw [this]
   exact List.perm_append_comm
 rw [if_neg p2]
 by_cases p3:x.PC=3
 ·rw [if_pos p3]
  intro S'
  have hb:=W.b3 p3
  have hbt:=K.bt (by omega)
  have eo:wv x=[x.Bin]:=zi3 (.inl p3)
  rw [eC]
  have e1:wv {x with Batch:=Vf s x.Bin,PC:=4,C:=zbA p (zI p) x.Bin}=[x.Bin]:=zi3 (x:={x with Batch:=Vf s x.Bin,PC:=4,C:=zbA p (zI p) x.Bin}) (.inr rfl)
  have hget: ∀b,1≤b→b∉wv x→(s.Bins.set x.Bin.toNat [])[b.toNat]? =s.Bins[b.toNat]? :=fun b b1 b2=>by
   rw [List.getElem?_set_ne]
   intro e
   rw [eo] at b2
   exact b2 (by rw [show b=x.Bin by omega];simp)
  refine ⟨gh,by rw [e1,←eo];exact X.quiet S' rfl,⟨fun _=>hc0,fun e=>absurd e (by show ¬(4:Int)≤3;decide),fun e=>(by cases e),fun e=>(by cases e),fun e=>(by cases e),fun _=>⟨rfl,⟨by show (0:Int)≤0;decide,by show (0:Int)≤2;decide⟩,rfl,CK.start⟩,fun e=>(by cases e)⟩,FX.quiet rfl hget,[],[],?_,.inl ⟨rfl,rfl,rfl⟩⟩
  have hbag:yA p {s with Bins:=s.Bins.set x.Bin.toNat []} gh=yA p s gh:=by
   unfold yA
   congr 1
   refine xL (fun b hb=> ?_)
   have hm:=X.L.cF.mem b hb
   have hno:=(X.L.notF (x:=x.Bin) (by rw [eo];simp)).1
   unfold vQ
   rw [show ({s with Bins:=s.Bins.set x.Bin.toNat []}:za).Bins=s.Bins.set x.Bin.toNat [] from rfl,hget b hm.1 (by rw [eo];intro e;rw [List.mem_singleton.1 e] at hb;exact hno hb)]
  rw [hbag,List.append_nil,List.nil_append]
  unfold zQ
  rw [zzv p3,Yo (x:={x with Batch:=Vf s x.Bin,PC:=4,C:=zbA p (zI p) x.Bin}) (.inr (.inr (.inl rfl)))]
  show List.Perm (yA p s gh++(Vf s x.Bin++[])) _
  rw [hbt,List.append_nil,List.nil_append,zvK]
 rw [if_neg p3]
 by_cases p4:x.PC=4
 ·rw [if_pos p4]
  intro S'
  have S':SOk p nb {s with M:=(zm s.M x.C).1}:=S'
  have C:=W.c4 p4
  obtain ⟨c1,c2,c3,c4⟩:=K.p4 p4
  have eo:wv x=[x.Bin]:=zi3 (.inr p4)
  have hh:zQ s x=x.Batch:=by unfold zQ;rw [Yo (.inr (.inr (.inl p4))),List.append_nil]
  rw [eo] at X
  dsimp only
  rcases SX.pushE hp (o1:=[]) (o2:=R) (b:=x.Bin) X hk C.k C.h C.n c3 c1 c2 c4 C.v S' with ⟨a,b,c,d⟩ | ⟨a,b,d⟩
  ·rw [a,if_neg (by decide)]
   have hout:=zby s.M c1 c2 (.inl C.k)
   have hsame:=zk5 s.M x.C
   have hpc':0≤(zm s.M x.C).2.PC∧(zm s.M x.C).2.PC≤2:=by omega
   have e1:wv {x with C:=(zm s.M x.C).2}=[x.Bin]:=zi3 (x:={x with C:=(zm s.M x.C).2}) (.inr p4)
   refine ⟨gh,by rw [e1];exact b,⟨fun _=>hc0,fun e=>by have e:x.PC≤3:=e;omega,fun e=>by have e:x.PC=0:=e;omega,fun e=>by have e:x.PC=1:=e;omega,fun e=>by have e:x.PC=2:=e;omega,fun _=>⟨a,hpc',(hsame.2.2.2 C.k).trans c3,c⟩,fun e=>by have e:x.PC=6:=e;omega⟩,by rw [eo];exact d _ _ (by simp),[],[],?_,.inl ⟨rfl,rfl,rfl⟩⟩
   rw [uW rfl,hh,List.append_nil]
   unfold zQ
   rw [Yo (x:={x with C:=(zm s.M x.C).2}) (.inr (.inr (.inl p4))),List.append_nil]
   exact List.Perm.refl _
  ·rw [a,if_pos rfl]
   refine ⟨{gh with E:=x.Bin::gh.E},by rw [uj (by show (7:Int)≠3;decide) (by show (7:Int)≠4;decide) (by show (7:Int)≠6;decide)];exact b,WX.plain (.inr (.inl rfl)) hc0,by rw [eo];exact d _ _,[],[],?_,.inl ⟨rfl,rfl,rfl⟩⟩
   rw [hh,List.append_nil]
   unfold zQ
   rw [Yo (.inr (.inr (.inr (.inl rfl)))),List.append_nil]
   exact List.Perm.refl _
 rw [if_neg p4]
 by_cases p5:x.PC=5
 ·rw [if_pos p5]
  intro S'
  have eo:wv x=[]:=uj (by omega) (by omega) (by omega)
  have hv:=hH x.Obj x.Slot
  dsimp only
  split
  ·rcases ziN s (wc (x.Slot+1)) with e | e<;>rw [e]
   ·refine .quiet X S' rfl rfl rfl (by rw [eo];exact uj (by show (5:Int)≠3;decide) (by show (5:Int)≠4;decide) (by show (5:Int)≠6;decide)) ?_ (WX.plain (.inl rfl) hc0)
    unfold zQ
    rw [YM (.inl p5),YM (.inl rfl)]
   ·refine .quiet X S' rfl rfl rfl (by rw [eo];exact uj (by show (8:Int)≠3;decide) (by show (8:Int)≠4;decide) (by show (8:Int)≠6;decide)) ?_ (WX.plain (.inr (.inr (.inl rfl))) hc0)
    unfold zQ
    rw [YM (.inl p5),YM (.inr rfl)]
  ·rename_i hne
   have e0:(ZK 1 (zO s.H x.Obj x.Slot) w).PC=0:=rfl
   refine .quiet X S' rfl rfl rfl ?_ ?_ ⟨fun _=>hc0,fun e=>absurd e (by show ¬(6:Int)≤3;decide),fun e=>(by cases e),fun e=>(by cases e),fun e=>(by cases e),fun e=>(by cases e),fun _=>⟨GX.plain (.inl rfl) ⟨by show (0:Int)≤0;decide,by show (0:Int)≤7;decide⟩ ⟨by show (1:Int)≤1;decide,by show (1:Int)≤3;decide⟩ ⟨by show 1≤zO s.H x.Obj x.Slot;omega,hv.2⟩ (fun _ _=>hc0) (.inr ⟨by show (0:Int)≠3;decide,by show (0:Int)≠5;decide,by show (0:Int)≠7;decide⟩),rfl,rfl,rfl⟩⟩
   ·rw [eo,zvQ (x:={x with Slot:=wc (x.Slot+1),PC:=6,G:=ZK 1 (zO s.H x.Obj x.Slot) w}) rfl]
    exact vA (.inr ⟨by show (0:Int)≠6;decide,by show (0:Int)≠7;decide⟩)
   ·unfold zQ
    rw [YM (.inl p5),zo1 (x:={x with Slot:=wc (x.Slot+1),PC:=6,G:=ZK 1 (zO s.H x.Obj x.Slot) w}) rfl]
    rw [Zo (g:=ZK 1 (zO s.H x.Obj x.Slot) w) (.inr (.inl (by show (0:Int)<3;decide)))]
 rw [if_neg p5]
 by_cases p6:x.PC=6
 ·rw [if_pos p6]
  intro S'
  obtain ⟨G,gm,gw,g0⟩:=K.p6 p6
  obtain ⟨M,h5o,_,hn4⟩:=W.g6 p6
  have eo:wv x=wo x.G:=zvQ p6
  have hh:zQ s x=x.Batch++x.Obj::yS x.G:=by unfold zQ;rw [zo1 p6]
  rw [eo] at X
  obtain ⟨gh',X',G',Fx,hc',hFb,N,hN,hT⟩:=zxL hp hk X M h5o G
  have so:=Vw s x.G
  have Fx':FX p nb (wv x) (fun v=>v=w) s (zo s x.G).1 gh gh':=by
   rw [eo]
   exact Fx.mono (fun v e=>e.2.trans gw)
  have hcw:gh'.c w=0:=by have:=hc' gm g0;rwa [gw] at this
  dsimp only
  have hT':(N=[]∧([]:List Int)=[]∧(zo s x.G).1.T=s.T)∨(N=[x.G.Obj]∧([]:List Int)=[]∧x.PC=6∧¬(s.T.Marks|||bit x.G.Obj=s.T.Marks)∧(zo s x.G).1.T={s.T with Marks:=s.T.Marks|||bit x.G.Obj})∨(N=[]∧([]:List Int)=[x.Obj]∧x.PC=8∧(zo s x.G).1.T=wz s.T x.Obj):=by
   rcases hT with ⟨a,b⟩ | ⟨a,b,c⟩
   ·exact .inl ⟨a,rfl,b⟩
   ·exact .inr (.inl ⟨a,rfl,p6,b,c⟩)
  have perm: ∀H':List Int,H'=x.Batch++x.Obj::yS (zo s x.G).2→List.Perm (yA p (zo s x.G).1 gh'++H'++[]) (N++(yA p s gh++zQ s x)):=by
   intro H' e
   rw [e,hh,List.append_nil]
   have a1:List.Perm (yA p (zo s x.G).1 gh'++(x.Batch++x.Obj::yS (zo s x.G).2)) ((x.Batch++[x.Obj])++(yA p (zo s x.G).1 gh'++yS (zo s x.G).2)):=by
    rw [show x.Batch++x.Obj::yS (zo s x.G).2=(x.Batch++[x.Obj])++yS (zo s x.G).2 by simp]
    exact List.perm_append_comm_assoc _ _ _
   have a2:List.Perm (N++(yA p s gh++(x.Batch++x.Obj::yS x.G))) ((x.Batch++[x.Obj])++(N++(yA p s gh++yS x.G))):=by
    rw [show x.Batch++x.Obj::yS x.G=(x.Batch++[x.Obj])++yS x.G by simp]
    exact (List.Perm.append_left N (List.perm_append_comm_assoc _ _ _)).trans (List.perm_append_comm_assoc _ _ _)
   exact a1.trans ((List.Perm.append_left _ hN).trans a2.symm)
  split
  ·rename_i o1
   have n1:wo (zo s x.G).2=[]:=vA (.inl (by omega))
   have n2:yS (zo s x.G).2=[]:=Zo (.inl (by omega))
   rw [n1] at X'
   rcases ziN s x.Slot with e | e<;>rw [e]
   ·refine ⟨gh',by rw [uj (by show (5:Int)≠3;decide) (by show (5:Int)≠4;decide) (by show (5:Int)≠6;decide)];exact X',WX.plain (.inl rfl) hcw,Fx',N,[],perm _ ?_,hT'⟩
    unfold zQ;rw [YM (.inl rfl),n2]
   ·refine ⟨gh',by rw [uj (by show (8:Int)≠3;decide) (by show (8:Int)≠4;decide) (by show (8:Int)≠6;decide)];exact X',WX.plain (.inr (.inr (.inl rfl))) hcw,Fx',N,[],perm _ ?_,hT'⟩
    unfold zQ;rw [YM (.inr rfl),n2]
  ·rename_i o1
   have o0:(zo s x.G).2.Out=0:=by have:=G'.o;omega
   refine ⟨gh',by rw [zvQ (x:={x with G:=(zo s x.G).2}) p6];exact X',⟨fun _=>hcw,fun e=>by have e:x.PC≤3:=e;omega,fun e=>by have e:x.PC=0:=e;omega,fun e=>by have e:x.PC=1:=e;omega,fun e=>by have e:x.PC=2:=e;omega,fun e=>by have e:x.PC=4:=e;omega,fun _=>⟨G',so.2.2.trans gm,so.2.1.trans gw,o0⟩⟩,Fx',N,[],perm _ ?_,hT'⟩
   unfold zQ;rw [zo1 (x:={x with G:=(zo s x.G).2}) p6]
 rw [if_neg p6]
 have eo:wv x=[]:=uj (by omega) (by omega) (by omega)
 by_cases p7:x.PC=7
 ·rw [if_pos p7]
  intro S'
  dsimp only
  split
  ·rename_i hb
   rw [eB]
   refine .quiet X S' rfl rfl rfl (by rw [eo];exact uj (by show (0:Int)≠3;decide) (by show (0:Int)≠4;decide) (by show (0:Int)≠6;decide)) ?_ (WX.begin hc0 hb)
   unfold zQ
   rw [zif,Yo (.inr (.inr (.inr (.inl p7))))]
   exact List.Perm.refl _
  ·rename_i o l hb
   refine .quiet X S' rfl rfl rfl (by rw [eo];exact uj (by show (5:Int)≠3;decide) (by show (5:Int)≠4;decide) (by show (5:Int)≠6;decide)) ?_ (WX.plain (.inl rfl) hc0)
   unfold zQ
   rw [YM (.inl rfl),Yo (.inr (.inr (.inr (.inl p7)))),hb,List.append_nil]
   exact List.perm_append_comm
 rw [if_neg p7]
 by_cases p8:x.PC=8
 ·rw [if_pos p8]
  intro S'
  refine ⟨gh,by rw [uj (by show (9:Int)≠3;decide) (by show (9:Int)≠4;decide) (by show (9:Int)≠6;decide)];rw [eo] at X;exact X.quiet S' rfl,WX.plain (.inr (.inr (.inr rfl))) hc0,FX.quiet rfl (fun _ _ _=>rfl),[],[x.Obj],?_,.inr (.inr ⟨rfl,rfl,p8,rfl⟩)⟩
  rw [uW rfl,List.nil_append]
  unfold zQ
  rw [YM (.inr p8),Yo (.inr (.inr (.inr (.inr rfl)))),List.append_nil,List.append_assoc]
  exact List.Perm.refl _
 rw [if_neg p8]
 have p9:x.PC=9:=by omega
 rw [if_pos p9]
 intro S'
 refine .quiet X S' rfl rfl rfl (by rw [eo];exact uj (by show (7:Int)≠3;decide) (by show (7:Int)≠4;decide) (by show (7:Int)≠6;decide)) ?_ (WX.plain (.inr (.inl rfl)) hc0)
 unfold zQ
 rw [Yo (.inr (.inr (.inr (.inr p9)))),Yo (.inr (.inr (.inr (.inl rfl))))]
theorem zA6 (s:za) (w:Int) (x:ze) (h:(zj s w x).2.PC=6):(x.PC=6∧(zj s w x).2.G.Obj=x.G.Obj)∨(x.PC=5∧(zj s w x).2.G.Obj=zO s.H x.Obj x.Slot):=by
 revert h
 have hon: ∀i,onW s i≠6:=fun i e=>by rcases ziN s i with h | h<;>omega
 have hlk: ∀y:ze,(uS s.P w y).PC≠6:=fun y e=>by unfold uS at e;split at e<;>cases e
 unfold zj
 split
 ·rename_i h0
  dsimp only
  split
  ·exact fun e=>by cases e
  split
  ·exact fun e=>absurd e (hlk _)
  ·exact fun e=>by have e:x.PC=6:=e;omega
 split
 ·dsimp only
  split
  ·exact fun e=>by cases e
  split
  ·exact fun e=>by cases e
  ·exact fun e=>by have e:x.PC=6:=e;omega
 split
 ·exact fun e=>by cases e
 split
 ·dsimp only
  split
  ·exact fun e=>by cases e
  ·exact fun e=>by have e:x.PC=6:=e;omega
 split
 ·rename_i h5
  dsimp only
  split
  ·exact fun e=>absurd e (hon _)
  ·exact fun _=> .inr ⟨h5,rfl⟩
 split
 ·rename_i h6
  dsimp only
  split
  ·exact fun e=>absurd e (hon _)
  ·exact fun _=> .inl ⟨h6,(Vw s x.G).1⟩
 split
 ·dsimp only
  split
  ·exact fun e=>by cases e
  ·exact fun e=>by cases e
 split
 ·exact fun e=>by cases e
 split
 ·exact fun e=>by cases e
 ·exact fun e=> .inl ⟨e,rfl⟩
end
end Go.Pe.G
namespace Go.Pe.G
open Go.Pe
noncomputable section
def uq (x:zc):List Int:=if x.PC=33∨x.PC=34 then [x.Bin] else if x.PC=3∨x.PC=37 then wo x.G else []
def zc1 (s:za) (x:zc):List Int:=if x.PC=33 then vQ s x.Bin else if x.PC=36∨x.PC=38 then [x.Obj] else if x.PC=37 then x.Obj::yS x.G else if x.PC=3 then yS x.G else []
def z5 (s:za) (x:zc):List Int:=x.Batch++zc1 s x
structure MX (p:zb) (s:za) (gh:Gh) (x:zc):Prop where
 bt:x.PC≤33→x.Batch=[]
 bf: ∀v∈x.Buf,1≤v∧v≤64
 ol:(x.PC=21→0≤x.Old∧x.Old≤64)∧(x.PC=22∨((x.PC=1∨x.PC=3)∧x.Ret=22)→1≤x.Old∧x.Old≤64)
 p3:x.PC=3→GX p s gh x.G∧x.G.Mode=2∧x.G.Out=0
 p32:x.PC=32→x.C.Out=0∧(0≤x.C.PC∧x.C.PC≤2)∧CK p s.M x.C
 p34:x.PC=34→x.C.Out=0∧(0≤x.C.PC∧x.C.PC≤2)∧x.C.X=x.Bin∧CK p s.M x.C
 p37:x.PC=37→GX p s gh x.G∧x.G.Mode=3∧x.G.Out=0
theorem MX.plain {p:zb} {s:za} {gh:Gh} {x:zc} (h:x.PC≠3∧x.PC≠32∧x.PC≠34∧x.PC≠37) (bt:x.PC≤33→x.Batch=[]) (bf: ∀v∈x.Buf,1≤v∧v≤64)
  (ol:(x.PC=21→0≤x.Old∧x.Old≤64)∧(x.PC=22∨((x.PC=1∨x.PC=3)∧x.Ret=22)→1≤x.Old∧x.Old≤64)):MX p s gh x :=
 ⟨bt,bf,ol,fun e=>by omega,fun e=>by omega,fun e=>by omega,fun e=>by omega⟩
theorem vS {x:zc} (h:x.PC≠3∧x.PC≠33∧x.PC≠34∧x.PC≠37):uq x=[]:=by unfold uq;rw [if_neg (by omega),if_neg (by omega)]
theorem zcT {x:zc} (h:x.PC=33∨x.PC=34):uq x=[x.Bin]:=by unfold uq;rw [if_pos h]
theorem zgm {x:zc} (h:x.PC=3∨x.PC=37):uq x=wo x.G:=by unfold uq;rw [if_neg (by omega),if_pos h]
theorem uH {s:za} {x:zc} (h:x.PC≠3∧x.PC≠33∧x.PC≠36∧x.PC≠37∧x.PC≠38):zc1 s x=[]:=by unfold zc1;rw [if_neg (by omega),if_neg (by omega),if_neg (by omega),if_neg (by omega)]
theorem zpe {s:za} {x:zc} (h:x.PC=33):zc1 s x=vQ s x.Bin:=by unfold zc1;rw [if_pos h]
theorem Wl {s:za} {x:zc} (h:x.PC=36∨x.PC=38):zc1 s x=[x.Obj]:=by unfold zc1;rw [if_neg (by omega),if_pos h]
theorem zlX {s:za} {x:zc} (h:x.PC=37):zc1 s x=x.Obj::yS x.G:=by unfold zc1;rw [if_neg (by omega),if_neg (by omega),if_pos h]
theorem zmn {s:za} {x:zc} (h:x.PC=3):zc1 s x=yS x.G:=by unfold zc1;rw [if_neg (by omega),if_neg (by omega),if_neg (by omega),if_pos h]
theorem MX.other {p:zb} (hp:zA p) {nb k:Nat} {s s':za} {gh gh':Gh} {X R:List Int} {O:Int→Prop} {m:Int} {x:zc} (Y:SX p nb s gh (X++R) k) (Fx:FX p nb X O s s' gh gh') (K:MX p s gh x) (W:XOk p nb m x)
  (hR: ∀b∈uq x,b∈R):MX p s' gh' x∧z5 s' x=z5 s x:=by
 have hsub: ∀b∈X,b∈X++R:=fun b hb=>List.mem_append_left _ hb
 have hnd:=(List.nodup_append.1 Y.L.nodup).2.1
 have hnot: ∀b,b∈uq x→b∉X:=fun b hb hg=>(List.nodup_append.1 hnd).2.2 b hg b (hR b hb) rfl
 refine ⟨⟨K.bt,K.bf,K.ol,fun e=> ?_,fun e=> ?_,fun e=> ?_,fun e=> ?_⟩,?_⟩
 ·obtain ⟨a,b,c⟩:=K.p3 e
  obtain ⟨M,_,_⟩:=W.g (.inl e)
  exact ⟨a.other hp Y Fx M (fun y hy=>hR y (by rw [zgm (.inl e)];exact hy)) (fun e2=>by omega),b,c⟩
 ·obtain ⟨a,b,c⟩:=K.p32 e
  have C:=W.c32 e
  exact ⟨a,b,c.mv Y.L Fx.mv hsub (.inl C.h) (fun h _=>C.v h) (fun e2=>by have:=C.k;omega)⟩
 ·obtain ⟨a,b,c,d⟩:=K.p34 e
  have C:=W.c34 e
  have hno:=hnot x.Bin (by rw [zcT (.inr e)];simp)
  exact ⟨a,b,c,d.mv Y.L Fx.mv hsub (.inr C.h) (fun _ e2=>by have:=C.k;omega) (fun _=>⟨C.x.1,C.x.2,by rw [c];exact hno⟩)⟩
 ·obtain ⟨a,b,c⟩:=K.p37 e
  obtain ⟨M,_,_⟩:=W.g (.inr e)
  exact ⟨a.other hp Y Fx M (fun y hy=>hR y (by rw [zgm (.inr e)];exact hy)) (fun e2=>by omega),b,c⟩
 ·unfold z5
  congr 1
  by_cases e3:x.PC=33
  ·rw [zpe e3,zpe e3]
   have hb:=W.b33 e3
   have hno:=hnot x.Bin (by rw [zcT (.inl e3)];simp)
   unfold vQ
   rw [Fx.bn x.Bin hb.1 hno]
  ·unfold zc1
   rw [if_neg e3,if_neg e3]
def zfn (p:zb) (nb k:Nat) (R:List Int) (gh:Gh) (s:za) (x:zc) (s':za) (x':zc):Prop :=
 ∃gh',SX p nb s' gh' (uq x'++R) (k+1)∧MX p s' gh' x'∧FX p nb (uq x) (fun _=>False) s s' gh gh' ∧
  ∃N B,List.Perm (yA p s' gh'++z5 s' x'++B) (N++(yA p s gh++z5 s x)) ∧
   ((N=[]∧B=[]∧s'.T=s.T)∨(N=[x.G.Obj]∧B=[]∧(x.PC=3∨x.PC=37)∧¬(s.T.Marks|||bit x.G.Obj=s.T.Marks)∧s'.T={s.T with Marks:=s.T.Marks|||bit x.G.Obj})∨(N=[]∧B=[x.Obj]∧x.PC=38∧s'.T=wz s.T x.Obj) ∨
    (N=[]∧B=[]∧x.PC=30∧YU s.H s.P.Most=true∧s'.H=xT s.H∧s'.T=YL s.T (wc (s.H.Objs.length+1))))
theorem zfn.quiet {p:zb} {nb k:Nat} {R:List Int} {gh:Gh} {s s':za} {x x':zc} (X:SX p nb s gh (uq x++R) k) (S':SOk p nb s') (hm:s'.M=s.M) (hb:s'.Bins=s.Bins) (hT:s'.T=s.T)
  (ho:uq x'=uq x) (hh:List.Perm (z5 s' x') (z5 s x)) (W':MX p s' gh x'):zfn p nb k R gh s x s' x' :=
 ⟨gh,by rw [ho];exact X.quiet S' hm,W',FX.quiet hm (fun _ _ _=>by rw [hb]),[],[],by rw [uW hb,List.append_nil];exact List.Perm.append_left _ hh,.inl ⟨rfl,rfl,hT⟩⟩
theorem zfn.calm {p:zb} {nb k:Nat} {R:List Int} {gh:Gh} {s s':za} {x x':zc} (X:SX p nb s gh (uq x++R) k) (S':SOk p nb s') (hm:s'.M=s.M) (hb:s'.Bins=s.Bins) (hT:s'.T=s.T)
  (h:x.PC≠3∧x.PC≠33∧x.PC≠34∧x.PC≠36∧x.PC≠37∧x.PC≠38) (h':x'.PC≠3∧x'.PC≠32∧x'.PC≠33∧x'.PC≠34∧x'.PC≠36∧x'.PC≠37∧x'.PC≠38) (eb:x'.Batch=x.Batch)
  (bt:x'.PC≤33→x'.Batch=[]) (bf: ∀v∈x'.Buf,1≤v∧v≤64) (ol:(x'.PC=21→0≤x'.Old∧x'.Old≤64)∧(x'.PC=22∨((x'.PC=1∨x'.PC=3)∧x'.Ret=22)→1≤x'.Old∧x'.Old≤64)):zfn p nb k R gh s x s' x':=by
 refine .quiet X S' hm hb hT ?_ ?_ (MX.plain (by omega) bt bf ol)
 ·rw [vS (by omega),vS (by omega)]
 ·unfold z5
  rw [uH (by omega),uH (by omega),eb]
theorem zrd {p:zb} {s:za} {gh:Gh} {md o w:Int} (hmd:md=2∨md=3) (ho:1≤o∧o≤64):GX p s gh (ZK md o w)∧(ZK md o w).Mode=md∧(ZK md o w).Out=0∧wo (ZK md o w)=[]∧yS (ZK md o w)=[]:=by
 refine ⟨GX.plain (.inl rfl) ⟨by show (0:Int)≤0;decide,by show (0:Int)≤7;decide⟩ ⟨by show 1≤md;omega,by show md≤3;omega⟩ ho (fun e=>by have e:md=1:=e;omega) (.inr ⟨by show (0:Int)≠3;decide,by show (0:Int)≠5;decide,by show (0:Int)≠7;decide⟩),rfl,rfl,
  vA (.inr ⟨by show (0:Int)≠6;decide,by show (0:Int)≠7;decide⟩),Zo (.inr (.inl (by show (0:Int)<3;decide)))⟩
theorem zCO {p:zb} (hp:zA p) {nb k:Nat} {R:List Int} {gh:Gh} {s:za} {m:Int} {x:zc} (hk:k<4294960000) (X:SX p nb s gh (uq x++R) k) (W:XOk p nb m x) (K:MX p s gh x) (hpl:((vc p m).length:Int)≤64)
  (hH: ∀o i,0≤zO s.H o i∧zO s.H o i≤64):zfn p nb k R gh s x (zi s m x).1 (zi s m x).2:=by
 have S':=(zzV hp hpl X.S W).1
 have hP:=X.S.P
 have eC:zbA s.P (zI s.P) x.Bin=zbA p (zI p) x.Bin:=by rw [hP]
 have hbf:=K.bf
 have hol:=K.ol
 revert S'
 refine yI (motive:=fun r=>SOk p nb r.1→zfn p nb k R gh s x r.1 r.2) s m x ?_ ?_ ?_ ?_ ?_ ?_ ?_ ?_ ?_ ?_ ?_ ?_ ?_ ?_ ?_ ?_ ?_ ?_ ?_ ?_
 ·intro c;unfold mu0 ZW;dsimp only
  have hbt:=K.bt (by omega)
  repeat' split
  all_goals (intro S')
  all_goals (refine .calm X S' rfl rfl rfl (by omega) (by (try dsimp only [setM]);omega) rfl (fun _=>hbt) hbf ⟨fun e=> ?_,fun e=> ?_⟩<;>((try dsimp only [setM] at e);omega))
 ·intro c;unfold mu1;dsimp only
  have hbt:=K.bt (by omega)
  have hrt:=W.ret (.inl c)
  split
  ·intro S'
   exact .calm X S' rfl rfl rfl (by omega) (by dsimp only;omega) rfl (fun _=>hbt) hbf ⟨fun e=>by dsimp only at e;omega,fun e=>by dsimp only at e ⊢;exact hol.2 (by omega)⟩
  ·rename_i hl
   intro S'
   have hv:1≤x.Buf.getD (x.Buf.length-1) 0∧x.Buf.getD (x.Buf.length-1) 0≤64:=by
    rw [List.getD_eq_getElem?_getD,List.getElem?_eq_getElem (show x.Buf.length-1<x.Buf.length by omega)]
    exact hbf _ (List.getElem_mem _)
   obtain ⟨g1,g2,g3,g4,g5⟩:=zrd (p:=p) (s:=s) (gh:=gh) (w:=m) (.inl rfl) hv
   refine .quiet X S' rfl rfl rfl ?_ ?_ ⟨fun _=>hbt,fun v hv=>hbf v (List.mem_of_mem_take hv),⟨fun e=>(by cases e),fun e=> ?_⟩,fun _=>⟨g1,g2,g3⟩,fun e=>(by cases e),fun e=>(by cases e),fun e=>(by cases e)⟩
   ·rw [vS (x:=x) (by omega),zgm (.inl rfl)];exact g4
   ·unfold z5
    rw [uH (x:=x) (by omega),zmn rfl]
    show List.Perm (x.Batch++yS (ZK 2 (x.Buf.getD (x.Buf.length-1) 0) m)) _
    rw [g5]
   ·rcases e with e | e
    ·cases e
    ·exact hol.2 (.inr ⟨.inl c,e.2⟩)
 ·intro c S';unfold mu2 at S' ⊢
  exact .calm X S' rfl rfl rfl (by omega) (by dsimp only;omega) rfl (fun _=>K.bt (by omega)) hbf ⟨fun e=>by dsimp only at e;omega,fun e=>by dsimp only at e;omega⟩
 ·intro c;unfold mu3;dsimp only
  have hbt:=K.bt (by omega)
  obtain ⟨G,gm,g0⟩:=K.p3 c
  obtain ⟨M,h5o,hn1⟩:=W.g (.inl c)
  have eo:uq x=wo x.G:=zgm (.inl c)
  have hh:z5 s x=yS x.G:=by unfold z5;rw [zmn c,hbt,List.nil_append]
  rw [eo] at X
  obtain ⟨gh',X',G',Fx,hc',hFb,N,hN,hT⟩:=zxL hp hk X M h5o G
  have so:=Vw s x.G
  have Fx':FX p nb (uq x) (fun _=>False) s (zo s x.G).1 gh gh':=by rw [eo];exact Fx.mono (fun v e=>by have:=e.1;omega)
  have hT':(N=[]∧([]:List Int)=[]∧(zo s x.G).1.T=s.T)∨(N=[x.G.Obj]∧([]:List Int)=[]∧(x.PC=3∨x.PC=37)∧¬(s.T.Marks|||bit x.G.Obj=s.T.Marks)∧(zo s x.G).1.T={s.T with Marks:=s.T.Marks|||bit x.G.Obj}):=by
   rcases hT with ⟨a,b⟩ | ⟨a,b,c'⟩
   ·exact .inl ⟨a,rfl,b⟩
   ·exact .inr ⟨a,rfl,.inl c,b,c'⟩
  split
  ·rename_i o1
   intro S'
   have n1:wo (zo s x.G).2=[]:=vA (.inl (by omega))
   have n2:yS (zo s x.G).2=[]:=Zo (.inl (by omega))
   rw [n1] at X'
   refine ⟨gh',by rw [vS (by dsimp only;omega)];exact X',MX.plain (by dsimp only;omega) (fun _=>hbt) hbf ⟨fun e=>(by cases e),fun e=> ?_⟩,Fx',N,[],?_,hT'.elim .inl (fun h=> .inr (.inl h))⟩
   ·rcases e with e | e
    ·cases e
    ·exact hol.2 (.inr ⟨.inr c,e.2⟩)
   ·unfold z5
    rw [uH (by dsimp only;omega),List.append_nil,List.append_nil]
    rw [n2,List.append_nil] at hN
    show List.Perm (yA p (zo s x.G).1 gh'++x.Batch) (N++(yA p s gh++(x.Batch++zc1 s x)))
    rw [hbt,zmn c,List.append_nil,List.nil_append]
    exact hN
  ·rename_i o1
   intro S'
   have o0:(zo s x.G).2.Out=0:=by have:=G'.o;omega
   refine ⟨gh',by rw [zgm (x:={x with G:=(zo s x.G).2}) (.inl c)];exact X',⟨fun _=>hbt,hbf,hol,fun _=>⟨G',so.2.2.trans gm,o0⟩,fun e=>by have e:x.PC=32:=e;omega,fun e=>by have e:x.PC=34:=e;omega,fun e=>by have e:x.PC=37:=e;omega⟩,Fx',N,[],?_,hT'.elim .inl (fun h=> .inr (.inl h))⟩
   unfold z5
   rw [zmn (x:={x with G:=(zo s x.G).2}) c,List.append_nil]
   show List.Perm (yA p (zo s x.G).1 gh'++(x.Batch++yS (zo s x.G).2)) (N++(yA p s gh++(x.Batch++zc1 s x)))
   rw [hbt,zmn c,List.nil_append,List.nil_append]
   exact hN
 ·intro c S';unfold zcS at S' ⊢
  exact .calm X S' rfl rfl rfl (by omega) (by dsimp only [setM];omega) rfl (fun _=>K.bt (by omega)) hbf ⟨fun e=>by dsimp only [setM] at e;omega,fun e=>by dsimp only [setM] at e;omega⟩
 ·intro c;unfold Vo;dsimp only
  have hbt:=K.bt (by omega)
  split
  ·intro S'
   exact .calm X S' rfl rfl rfl (by omega) (by dsimp only [xe];omega) rfl (fun _=>hbt) hbf ⟨fun e=>by dsimp only [xe] at e;omega,fun e=>by dsimp only [xe] at e;omega⟩
  ·intro S'
   exact .calm X S' rfl rfl rfl (by omega) (by dsimp only;omega) rfl (fun _=>hbt) hbf ⟨fun _=>hH _ _,fun e=>by dsimp only at e;omega⟩
 ·intro c;unfold WT;dsimp only
  have hbt:=K.bt (by omega)
  have h21:=hol.1 c
  split
  ·intro S'
   exact .calm X S' rfl rfl rfl (by omega) (by dsimp only;omega) rfl (fun _=>hbt) hbf ⟨fun e=>by dsimp only at e;omega,fun e=>by dsimp only at e;omega⟩
  ·rename_i hn
   intro S'
   have: ¬x.Old=0:=fun e=>hn (.inl e)
   exact .calm X S' rfl rfl rfl (by omega) (by dsimp only;omega) rfl (fun _=>hbt) hbf ⟨fun e=>by dsimp only at e;omega,fun e=>by dsimp only;omega⟩
 ·intro c;unfold UD;dsimp only
  have hbt:=K.bt (by omega)
  have h22:=hol.2 (.inl c)
  split
  ·intro S'
   exact .calm X S' rfl rfl rfl (by omega) (by dsimp only;omega) rfl (fun _=>hbt) hbf ⟨fun e=>by dsimp only at e;omega,fun e=>h22⟩
  ·intro S'
   refine .calm X S' rfl rfl rfl (by omega) (by dsimp only;omega) rfl (fun _=>hbt) (fun v hv=> ?_) ⟨fun e=>by dsimp only at e;omega,fun e=>by dsimp only at e;omega⟩
   rcases List.mem_append.1 hv with h | h
   ·exact hbf v h
   ·rw [List.mem_singleton.1 h];exact h22
 ·intro c S';unfold zb5 at S' ⊢
  exact .calm X S' rfl rfl rfl (by omega) (by dsimp only [xe];omega) rfl (fun _=>K.bt (by omega)) hbf ⟨fun e=>by dsimp only [xe] at e;omega,fun e=>by dsimp only [xe] at e;omega⟩
 ·intro c;unfold YQ
  have hbt:=K.bt (by omega)
  split
  ·split
   ·rename_i h1 h2
    intro S'
    refine ⟨gh,by rw [vS (by dsimp only [setM];omega)];rw [vS (x:=x) (by omega)] at X;exact X.quiet S' rfl,MX.plain (by dsimp only [setM];omega) (fun _=>hbt) hbf ⟨fun e=>by dsimp only [setM] at e;omega,fun e=>by dsimp only [setM] at e;omega⟩,FX.quiet rfl (fun _ _ _=>rfl),[],[],?_,.inr (.inr (.inr ⟨rfl,rfl,c,h2,rfl,rfl⟩))⟩
    rw [uW rfl,List.append_nil,List.nil_append]
    unfold z5
    rw [uH (by dsimp only [setM];omega),uH (x:=x) (by omega)]
    exact List.Perm.refl _
   ·intro S'
    exact .calm X S' rfl rfl rfl (by omega) (by dsimp only [xe];omega) rfl (fun _=>hbt) hbf ⟨fun e=>by dsimp only [xe] at e;omega,fun e=>by dsimp only [xe] at e;omega⟩
  ·intro S'
   exact .calm X S' rfl rfl rfl (by omega) (by dsimp only;omega) rfl (fun _=>hbt) hbf ⟨fun e=>by dsimp only at e;omega,fun e=>by dsimp only at e;omega⟩
 ·intro c;unfold Uc;dsimp only
  have hbt:=K.bt (by omega)
  split
  ·intro S'
   refine .quiet X S' rfl rfl rfl (by rw [vS (by dsimp only;omega),vS (x:=x) (by omega)]) ?_ ⟨fun _=>hbt,hbf,⟨fun e=>by dsimp only at e;omega,fun e=>by dsimp only at e;omega⟩,fun e=>by dsimp only at e;omega,fun _=>⟨rfl,⟨by show (0:Int)≤0;decide,by show (0:Int)≤2;decide⟩,by show CK p s.M (zyC s.P (yh s.P) x.Bin);rw [hP];exact CK.start⟩,fun e=>by dsimp only at e;omega,fun e=>by dsimp only at e;omega⟩
   unfold z5
   rw [uH (by dsimp only;omega),uH (x:=x) (by omega)]
  ·intro S'
   exact .calm X S' rfl rfl rfl (by omega) (by dsimp only;omega) rfl (fun _=>hbt) hbf ⟨fun e=>by dsimp only at e;omega,fun e=>by dsimp only at e;omega⟩
 ·intro c;unfold Uq;dsimp only
  have C:=W.c32 c
  obtain ⟨c1,c2,c3⟩:=K.p32 c
  have hbt:=K.bt (by omega)
  have eo:uq x=[]:=vS (by omega)
  have hh:z5 s x=[]:=by unfold z5;rw [hbt,uH (by omega)];rfl
  have nn: ∀e:x.PC=21,False:=fun e=>by omega
  intro S'
  have S':SOk p nb {s with M:=(zm s.M x.C).1}:=S'
  rcases SX.popF hp X hk C.k C.h C.n c1 c2 c3 C.v S' with ⟨a,b,cc,d⟩ | ⟨y,l,a,b,cc,d,e⟩
  ·rw [if_neg b]
   have hout:=zby s.M c1 c2 (.inr C.k)
   by_cases o2:(zm s.M x.C).2.Out=2
   ·rw [if_pos o2]
    exact .calm X S' a rfl rfl (by omega) (by dsimp only;omega) rfl (fun _=>hbt) hbf ⟨fun e=>by dsimp only at e;omega,fun e=>by dsimp only at e;omega⟩
   ·rw [if_neg o2]
    have hpc':(zm s.M x.C).2.Out=0∧0≤(zm s.M x.C).2.PC∧(zm s.M x.C).2.PC≤2:=by omega
    refine .quiet X S' a rfl rfl ?_ ?_ ⟨fun _=>hbt,hbf,hol,fun e=>by have e:x.PC=3:=e;omega,fun _=>⟨hpc'.1,hpc'.2,?_⟩,fun e=>by have e:x.PC=34:=e;omega,fun e=>by have e:x.PC=37:=e;omega⟩
    ·rw [eo];exact vS (by dsimp only;omega)
    ·unfold z5
     rw [uH (by dsimp only;omega),uH (x:=x) (by omega)]
    ·rw [show ({s with M:=(zm s.M x.C).1}:za).M=s.M from a];exact cc
  ·rw [if_pos b]
   have e1:uq {x with PC:=33,Bin:=(zm s.M x.C).2.X,C:=(zm s.M x.C).2}=[y]:=by rw [←cc];exact zcT (x:={x with PC:=33,Bin:=(zm s.M x.C).2.X,C:=(zm s.M x.C).2}) (.inl rfl)
   refine ⟨{gh with F:=l},by rw [e1];rw [eo] at d;exact d,MX.plain (by dsimp only;omega) (fun _=>hbt) hbf ⟨fun e=>by dsimp only at e;omega,fun e=>by dsimp only at e;omega⟩,e _ _,[],[],?_,.inl ⟨rfl,rfl,rfl⟩⟩
   rw [hh,List.append_nil,List.append_nil,List.nil_append]
   unfold z5
   rw [zpe (x:={x with PC:=33,Bin:=(zm s.M x.C).2.X,C:=(zm s.M x.C).2}) rfl]
   show List.Perm (yA p s {gh with F:=l}++(x.Batch++vQ s (zm s.M x.C).2.X)) _
   rw [hbt,List.nil_append,cc]
   have:yA p s gh=vQ s y++yA p s {gh with F:=l}:=by unfold yA;rw [a];simp [List.append_assoc]
   rw [this]
   exact List.perm_append_comm
 ·intro c;unfold zcN;dsimp only
  intro S'
  have hb:=W.b33 c
  have hbt:=K.bt (by omega)
  have eo:uq x=[x.Bin]:=zcT (.inl c)
  rw [eC] at *
  have e1:uq {x with Batch:=Vf s x.Bin,PC:=34,C:=zbA p (zI p) x.Bin}=[x.Bin]:=zcT (x:={x with Batch:=Vf s x.Bin,PC:=34,C:=zbA p (zI p) x.Bin}) (.inr rfl)
  have hget: ∀b,1≤b→b∉uq x→(s.Bins.set x.Bin.toNat [])[b.toNat]? =s.Bins[b.toNat]? :=fun b b1 b2=>by
   rw [List.getElem?_set_ne]
   intro e
   rw [eo] at b2
   exact b2 (by rw [show b=x.Bin by omega];simp)
  refine ⟨gh,by rw [e1,←eo];exact X.quiet S' rfl,⟨fun e=>absurd e (by show ¬(34:Int)≤33;decide),hbf,⟨fun e=>by dsimp only at e;omega,fun e=>by dsimp only at e;omega⟩,fun e=>by dsimp only at e;omega,fun e=>by dsimp only at e;omega,fun _=>⟨rfl,⟨by show (0:Int)≤0;decide,by show (0:Int)≤2;decide⟩,rfl,CK.start⟩,fun e=>by dsimp only at e;omega⟩,FX.quiet rfl hget,[],[],?_,.inl ⟨rfl,rfl,rfl⟩⟩
  have hbag:yA p {s with Bins:=s.Bins.set x.Bin.toNat []} gh=yA p s gh:=by
   unfold yA
   congr 1
   refine xL (fun b hb=> ?_)
   have hm:=X.L.cF.mem b hb
   have hno:=(X.L.notF (x:=x.Bin) (by rw [eo];simp)).1
   unfold vQ
   rw [show ({s with Bins:=s.Bins.set x.Bin.toNat []}:za).Bins=s.Bins.set x.Bin.toNat [] from rfl,hget b hm.1 (by rw [eo];intro e;rw [List.mem_singleton.1 e] at hb;exact hno hb)]
  rw [hbag,List.append_nil,List.nil_append]
  unfold z5
  rw [zpe c,uH (x:={x with Batch:=Vf s x.Bin,PC:=34,C:=zbA p (zI p) x.Bin}) (by dsimp only;omega)]
  show List.Perm (yA p s gh++(Vf s x.Bin++[])) _
  rw [hbt,List.append_nil,List.nil_append,zvK]
 ·intro c;unfold Up;dsimp only
  intro S'
  have S':SOk p nb {s with M:=(zm s.M x.C).1}:=S'
  have C:=W.c34 c
  obtain ⟨c1,c2,c3,c4⟩:=K.p34 c
  have eo:uq x=[x.Bin]:=zcT (.inr c)
  have hh:z5 s x=x.Batch:=by unfold z5;rw [uH (by omega),List.append_nil]
  rw [eo] at X
  rcases SX.pushE hp (o1:=[]) (o2:=R) (b:=x.Bin) X hk C.k C.h C.n c3 c1 c2 c4 C.v S' with ⟨a,b,cc,d⟩ | ⟨a,b,d⟩
  ·rw [a,if_neg (by decide)]
   have hout:=zby s.M c1 c2 (.inl C.k)
   have hsame:=zk5 s.M x.C
   have hpc':0≤(zm s.M x.C).2.PC∧(zm s.M x.C).2.PC≤2:=by omega
   have e1:uq {x with C:=(zm s.M x.C).2}=[x.Bin]:=zcT (x:={x with C:=(zm s.M x.C).2}) (.inr c)
   refine ⟨gh,by rw [e1];exact b,⟨fun e=>by have e:x.PC≤33:=e;omega,hbf,hol,fun e=>by have e:x.PC=3:=e;omega,fun e=>by have e:x.PC=32:=e;omega,fun _=>⟨a,hpc',(hsame.2.2.2 C.k).trans c3,cc⟩,fun e=>by have e:x.PC=37:=e;omega⟩,by rw [eo];exact d _ _ (by simp),[],[],?_,.inl ⟨rfl,rfl,rfl⟩⟩
   rw [uW rfl,hh,List.append_nil]
   unfold z5
   rw [uH (x:={x with C:=(zm s.M x.C).2}) (by dsimp only;omega),List.append_nil]
   exact List.Perm.refl _
  ·rw [a,if_pos rfl]
   refine ⟨{gh with E:=x.Bin::gh.E},by rw [vS (by dsimp only;omega)];exact b,MX.plain (by dsimp only;omega) (fun e=>absurd e (by show ¬(35:Int)≤33;decide)) hbf ⟨fun e=>by dsimp only at e;omega,fun e=>by dsimp only at e;omega⟩,by rw [eo];exact d _ _,[],[],?_,.inl ⟨rfl,rfl,rfl⟩⟩
   rw [hh,List.append_nil]
   unfold z5
   rw [uH (by dsimp only;omega),List.append_nil]
   exact List.Perm.refl _
 ·intro c;unfold Ui;dsimp only
  split
  ·rename_i hb
   intro S'
   exact .calm X S' rfl rfl rfl (by omega) (by dsimp only;omega) rfl (fun _=>hb) hbf ⟨fun e=>by dsimp only at e;omega,fun e=>by dsimp only at e;omega⟩
  ·rename_i o l hb
   intro S'
   refine .quiet X S' rfl rfl rfl (by rw [vS (by dsimp only;omega),vS (x:=x) (by omega)]) ?_ (MX.plain (by dsimp only;omega) (fun e=>absurd e (by show ¬(36:Int)≤33;decide)) hbf ⟨fun e=>by dsimp only at e;omega,fun e=>by dsimp only at e;omega⟩)
   unfold z5
   rw [Wl (.inl rfl),uH (x:=x) (by omega),hb,List.append_nil]
   exact List.perm_append_comm
 ·intro c;unfold zaB;dsimp only
  have hv:=hH x.Obj x.Slot
  have eo:uq x=[]:=vS (by omega)
  split
  ·rcases ZX s (wc (x.Slot+1)) with e | e<;>rw [e]<;>intro S'
   ·refine .quiet X S' rfl rfl rfl (by rw [eo,vS (by dsimp only;omega)]) ?_ (MX.plain (by dsimp only;omega) (fun e=>absurd e (by show ¬(36:Int)≤33;decide)) hbf ⟨fun e=>by dsimp only at e;omega,fun e=>by dsimp only at e;omega⟩)
    unfold z5
    rw [Wl (.inl c),Wl (.inl rfl)]
   ·refine .quiet X S' rfl rfl rfl (by rw [eo,vS (by dsimp only;omega)]) ?_ (MX.plain (by dsimp only;omega) (fun e=>absurd e (by show ¬(38:Int)≤33;decide)) hbf ⟨fun e=>by dsimp only at e;omega,fun e=>by dsimp only at e;omega⟩)
    unfold z5
    rw [Wl (.inl c),Wl (.inr rfl)]
  ·rename_i hne
   intro S'
   obtain ⟨g1,g2,g3,g4,g5⟩:=zrd (p:=p) (s:=s) (gh:=gh) (w:=m) (.inr rfl) (show 1≤zO s.H x.Obj x.Slot∧zO s.H x.Obj x.Slot≤64 by omega)
   refine .quiet X S' rfl rfl rfl ?_ ?_ ⟨fun e=>absurd e (by show ¬(37:Int)≤33;decide),hbf,⟨fun e=>by dsimp only at e;omega,fun e=>by dsimp only at e;omega⟩,fun e=>by dsimp only at e;omega,fun e=>by dsimp only at e;omega,fun e=>by dsimp only at e;omega,fun _=>⟨g1,g2,g3⟩⟩
   ·rw [eo,zgm (.inr rfl)];exact g4
   ·unfold z5
    rw [Wl (.inl c),zlX rfl]
    show List.Perm (x.Batch++x.Obj::yS (ZK 3 (zO s.H x.Obj x.Slot) m)) _
    rw [g5]
 ·intro c;unfold XU;dsimp only
  obtain ⟨G,gm,g0⟩:=K.p37 c
  obtain ⟨M,h5o,hn1⟩:=W.g (.inr c)
  have eo:uq x=wo x.G:=zgm (.inr c)
  have hh:z5 s x=x.Batch++x.Obj::yS x.G:=by unfold z5;rw [zlX c]
  rw [eo] at X
  obtain ⟨gh',X',G',Fx,hc',hFb,N,hN,hT⟩:=zxL hp hk X M h5o G
  have so:=Vw s x.G
  have Fx':FX p nb (uq x) (fun _=>False) s (zo s x.G).1 gh gh':=by rw [eo];exact Fx.mono (fun v e=>by have:=e.1;omega)
  have hT':(N=[]∧([]:List Int)=[]∧(zo s x.G).1.T=s.T)∨(N=[x.G.Obj]∧([]:List Int)=[]∧(x.PC=3∨x.PC=37)∧¬(s.T.Marks|||bit x.G.Obj=s.T.Marks)∧(zo s x.G).1.T={s.T with Marks:=s.T.Marks|||bit x.G.Obj}):=by
   rcases hT with ⟨a,b⟩ | ⟨a,b,c'⟩
   ·exact .inl ⟨a,rfl,b⟩
   ·exact .inr ⟨a,rfl,.inr c,b,c'⟩
  have perm: ∀H':List Int,H'=x.Batch++x.Obj::yS (zo s x.G).2→List.Perm (yA p (zo s x.G).1 gh'++H'++[]) (N++(yA p s gh++z5 s x)):=by
   intro H' e
   rw [e,hh,List.append_nil]
   have a1:List.Perm (yA p (zo s x.G).1 gh'++(x.Batch++x.Obj::yS (zo s x.G).2)) ((x.Batch++[x.Obj])++(yA p (zo s x.G).1 gh'++yS (zo s x.G).2)):=by
    rw [show x.Batch++x.Obj::yS (zo s x.G).2=(x.Batch++[x.Obj])++yS (zo s x.G).2 by simp]
    exact List.perm_append_comm_assoc _ _ _
   have a2:List.Perm (N++(yA p s gh++(x.Batch++x.Obj::yS x.G))) ((x.Batch++[x.Obj])++(N++(yA p s gh++yS x.G))):=by
    rw [show x.Batch++x.Obj::yS x.G=(x.Batch++[x.Obj])++yS x.G by simp]
    exact (List.Perm.append_left N (List.perm_append_comm_assoc _ _ _)).trans (List.perm_append_comm_assoc _ _ _)
   exact a1.trans ((List.Perm.append_left _ hN).trans a2.symm)
  split
  ·rename_i o1
   intro S'
   have n1:wo (zo s x.G).2=[]:=vA (.inl (by omega))
   have n2:yS (zo s x.G).2=[]:=Zo (.inl (by omega))
   rw [n1] at X'
   rcases ZX s x.Slot with e | e<;>rw [e]
   ·refine ⟨gh',by rw [vS (by dsimp only;omega)];exact X',MX.plain (by dsimp only;omega) (fun e=>absurd e (by show ¬(36:Int)≤33;decide)) hbf ⟨fun e=>by dsimp only at e;omega,fun e=>by dsimp only at e;omega⟩,Fx',N,[],perm _ ?_,hT'.elim .inl (fun h=> .inr (.inl h))⟩
    unfold z5;rw [Wl (.inl rfl),n2]
   ·refine ⟨gh',by rw [vS (by dsimp only;omega)];exact X',MX.plain (by dsimp only;omega) (fun e=>absurd e (by show ¬(38:Int)≤33;decide)) hbf ⟨fun e=>by dsimp only at e;omega,fun e=>by dsimp only at e;omega⟩,Fx',N,[],perm _ ?_,hT'.elim .inl (fun h=> .inr (.inl h))⟩
    unfold z5;rw [Wl (.inr rfl),n2]
  ·rename_i o1
   intro S'
   have o0:(zo s x.G).2.Out=0:=by have:=G'.o;omega
   refine ⟨gh',by rw [zgm (x:={x with G:=(zo s x.G).2}) (.inr c)];exact X',⟨fun e=>by have e:x.PC≤33:=e;omega,hbf,hol,fun e=>by have e:x.PC=3:=e;omega,fun e=>by have e:x.PC=32:=e;omega,fun e=>by have e:x.PC=34:=e;omega,fun _=>⟨G',so.2.2.trans gm,o0⟩⟩,Fx',N,[],perm _ ?_,hT'.elim .inl (fun h=> .inr (.inl h))⟩
   unfold z5;rw [zlX (x:={x with G:=(zo s x.G).2}) c]
 ·intro c S';unfold zel at S' ⊢
  have eo:uq x=[]:=vS (by omega)
  refine ⟨gh,by rw [vS (by dsimp only;omega)];rw [eo] at X;exact X.quiet S' rfl,MX.plain (by dsimp only;omega) (fun e=>absurd e (by show ¬(39:Int)≤33;decide)) hbf ⟨fun e=>by dsimp only at e;omega,fun e=>by dsimp only at e;omega⟩,FX.quiet rfl (fun _ _ _=>rfl),[],[x.Obj],?_,.inr (.inr (.inl ⟨rfl,rfl,c,rfl⟩))⟩
  rw [uW rfl,List.nil_append]
  unfold z5
  rw [Wl (.inr c),uH (by dsimp only;omega),List.append_nil,List.append_assoc]
  exact List.Perm.refl _
 ·intro c S';unfold ze8 at S' ⊢
  exact .calm X S' rfl rfl rfl (by omega) (by dsimp only;omega) rfl (fun e=>absurd e (by show ¬(35:Int)≤33;decide)) hbf ⟨fun e=>by dsimp only at e;omega,fun e=>by dsimp only at e;omega⟩
 ·intro S'
  exact ⟨gh,X.quiet S' rfl,K,FX.quiet rfl (fun _ _ _=>rfl),[],[],by rw [List.append_nil];exact List.Perm.refl _,.inl ⟨rfl,rfl,rfl⟩⟩
end
end Go.Pe.G
namespace Go.Pe.G
open Go.Pe
noncomputable section
theorem zsF {o:Int} (h:1≤o∧o≤64) (j:Nat):(bit o).getLsbD j=decide ((o-1).toNat=j):=by
 unfold bit
 rw [if_pos h,←BitVec.twoPow_eq,BitVec.getLsbD_twoPow,decide_eq_true (by omega:(o-1).toNat<64),Bool.true_and]
theorem wm (s:BitVec 64) (o:Int):zK s o=true↔1≤o∧o≤64∧s.getLsbD (o-1).toNat=true:=by
 unfold zK
 rw [Bool.not_eq_true',decide_eq_false_iff_not]
 by_cases h:1≤o∧o≤64
 ·constructor
  ·intro h1
   refine ⟨h.1,h.2,Classical.byContradiction (fun h2=>h1 ?_)⟩
   apply BitVec.eq_of_getLsbD_eq
   intro j hj
   rw [BitVec.getLsbD_and,zsF h,BitVec.getLsbD_zero]
   by_cases e:(o-1).toNat=j
   ·rw [←e];simp only [Bool.not_eq_true] at h2;rw [h2];rfl
   ·rw [decide_eq_false e,Bool.and_false]
  ·rintro ⟨_,_,h1⟩ h2
   have:=congrArg (fun v=>BitVec.getLsbD v (o-1).toNat) h2
   simp only [BitVec.getLsbD_and,zsF h,h1,BitVec.getLsbD_zero] at this
   simp at this
 ·constructor
  ·intro h1
   exact absurd (by unfold bit;rw [if_neg h,BitVec.and_zero]) h1
  ·rintro ⟨a,b,_⟩;exact absurd ⟨a,b⟩ h
theorem wp (s:BitVec 64) {o:Int} (h:1≤o∧o≤64) (q:Int):zK (s|||bit o) q=true↔zK s q=true∨q=o:=by
 rw [wm,wm,BitVec.getLsbD_or,zsF h]
 simp only [Bool.or_eq_true,decide_eq_true_eq]
 constructor
 ·rintro ⟨a,b,c | c⟩
  ·exact .inl ⟨a,b,c⟩
  ·exact .inr (by omega)
 ·rintro (⟨a,b,c⟩ | rfl)
  ·exact ⟨a,b,.inl c⟩
  ·exact ⟨h.1,h.2,.inr rfl⟩
theorem VE (s t:BitVec 64) (q:Int):zK (s&&&t) q=true↔zK s q=true∧zK t q=true:=by
 rw [wm,wm,wm,BitVec.getLsbD_and]
 simp only [Bool.and_eq_true]
 constructor
 ·rintro ⟨a,b,c,d⟩;exact ⟨⟨a,b,c⟩,a,b,d⟩
 ·rintro ⟨⟨a,b,c⟩,_,_,d⟩;exact ⟨a,b,c,d⟩
theorem Yz (q:Int): ¬zK 0#64 q=true:=by
 rw [wm,BitVec.getLsbD_zero];exact fun h=>by cases h.2.2
theorem zxg {s t:BitVec 64} (h: ∀o,zK s o=true↔zK t o=true):s=t:=by
 apply BitVec.eq_of_getLsbD_eq
 intro j hj
 have:=h ((j:Int)+1)
 rw [wm,wm,show ((j:Int)+1-1).toNat=j by omega] at this
 rw [Bool.eq_iff_iff]
 exact ⟨fun e=>(this.1 ⟨by omega,by omega,e⟩).2.2,fun e=>(this.2 ⟨by omega,by omega,e⟩).2.2⟩
theorem zbD {m:BitVec 64} {o:Int} (h:1≤o∧o≤64): ¬(m|||bit o=m)↔¬zK m o=true:=by
 constructor
 ·intro h1 h2
  refine h1 (zxg (fun q=> ?_))
  rw [wp _ h]
  exact ⟨fun e=>e.elim id (fun e=>by rw [e];exact h2),.inl⟩
 ·intro h1 h2
  refine h1 ?_
  rw [←h2,wp _ h];exact .inr rfl
theorem uV (t:zt) (o:Int):yD t o=1↔zK t.Marks o=true∧¬zK t.Black o=true:=by
 unfold yD
 by_cases h1:zK (t.Marks&&&t.Black) o=true
 ·rw [if_pos h1]
  rw [VE] at h1
  exact ⟨fun e=>(by cases e),fun e=>absurd h1.2 e.2⟩
 ·rw [if_neg h1]
  rw [VE] at h1
  by_cases h2:zK t.Marks o=true
  ·rw [if_pos h2];exact ⟨fun _=>⟨h2,fun e=>h1 ⟨h2,e⟩⟩,fun _=>rfl⟩
  ·rw [if_neg h2];exact ⟨fun e=>(by cases e),fun e=>absurd e.1 h2⟩
end
end Go.Pe.G
namespace Go.Pe.G
open Go.Pe
noncomputable section
theorem zqH {α:Type} {l:List α} {i:Nat} {x:α} (h:l[i]? =some x): ∃a b,l=a++x::b∧(∀y,l.set i y=a++y::b)∧(∀z∈a++b,∃j,j≠i∧l[j]? =some z) ∧
  (∀j z,j≠i→l[j]? =some z→z∈a++b):=by
 obtain ⟨hi,e⟩:=List.getElem?_eq_some_iff.1 h
 have hl:(l.take i).length=i:=by rw [List.length_take];omega
 have el:l=l.take i++x::l.drop (i+1):=by
  conv=>lhs;rw [←List.take_append_drop i l,List.drop_eq_getElem_cons hi,e]
 refine ⟨l.take i,l.drop (i+1),el,fun y=> ?_,fun z hz=> ?_,fun j z hj hz=> ?_⟩
 ·rw [List.set_eq_take_append_cons_drop,if_pos hi]
 ·rcases List.mem_append.1 hz with hz | hz
  ·obtain ⟨j,hj⟩:=List.mem_iff_getElem?.1 hz
   obtain ⟨hj1,hj2⟩:=List.getElem?_eq_some_iff.1 hj
   have hj3:j<i:=by omega
   exact ⟨j,by omega,by rw [List.getElem?_take_of_lt hj3] at hj;exact hj⟩
  ·obtain ⟨j,hj⟩:=List.mem_iff_getElem?.1 hz
   exact ⟨i+1+j,by omega,by rw [List.getElem?_drop] at hj;exact hj⟩
 ·rw [el] at hz
  rcases Nat.lt_or_ge j i with h1 | h1
  ·rw [List.getElem?_append_left (by omega)] at hz
   exact List.mem_append_left _ (List.mem_of_getElem? hz)
  ·rw [List.getElem?_append_right (by omega),hl] at hz
   rw [show j-i=(j-i-1)+1 by omega,List.getElem?_cons_succ] at hz
   exact List.mem_append_right _ (List.mem_of_getElem? hz)
theorem Zd {α β:Type} {f:α→List β} {a b:List α} {x:α}:List.Perm ((a++x::b).flatMap f) (f x++(a++b).flatMap f):=by
 rw [List.flatMap_append,List.flatMap_cons,List.flatMap_append]
 exact List.perm_append_comm_assoc _ _ _
theorem SX.perm {p:zb} {nb k:Nat} {s:za} {g:Gh} {o o':List Int} (X:SX p nb s g o k) (h:List.Perm o' o):SX p nb s g o' k :=
 ⟨X.S,⟨X.L.hs,X.L.cF,X.L.cE,(List.Perm.append_left _ h).trans X.L.all,X.L.len⟩,X.D,X.v,X.dk⟩
theorem SX.state {p:zb} {nb k:Nat} {s s':za} {g:Gh} {o:List Int} (X:SX p nb s g o k) (S':SOk p nb s') (hm:s'.M=s.M):SX p nb s' g o k :=
 ⟨S',by rw [hm];exact X.L,by rw [hm];exact X.D,by rw [hm];exact X.v,X.dk⟩
theorem GX.state {p:zb} {s s':za} {gh:Gh} {g:zC} (G:GX p s gh g) (hm:s'.M=s.M) (hb:s'.Bins=s.Bins):GX p s' gh g :=
 ⟨G.o,G.pc,G.md,G.ob,G.c0,by rw [hm];exact G.c5,by rw [hm,hb];exact G.c7,by rw [hm];exact G.d3⟩
theorem WX.state {p:zb} {s s':za} {gh:Gh} {w:Int} {x:ze} (W:WX p s gh w x) (hm:s'.M=s.M) (hb:s'.Bins=s.Bins):WX p s' gh w x :=
 ⟨W.c0,W.bt,by rw [hm];exact W.p0,by rw [hm];exact W.p1,by rw [hm];exact W.p2,by rw [hm];exact W.p4,fun e=>⟨(W.p6 e).1.state hm hb,(W.p6 e).2⟩⟩
theorem zcz {s s':za} {x:ze} (hm:s'.M=s.M) (hb:s'.Bins=s.Bins):zQ s' x=zQ s x:=by
 unfold zQ zay vQ;rw [hm,hb]
def zoh (p:zb) (s:za) (g:Gh):List Int:=yA p s g++s.Ws.flatMap (zQ s)
structure zaY (B:List Int) (t:zt):Prop where
 blk: ∀o,zK t.Black o=true→zK t.Marks o=true
 nd:B.Nodup
 gr: ∀o,o∈B↔yD t o=1
theorem zhP {t:zt} {o:Int} (h:yD t o=1):1≤o∧o≤64:=by
 have:=(wm _ _).1 ((uV t o).1 h).1
 exact ⟨this.1,this.2.1⟩
theorem zaY.more {B B':List Int} {t:zt} {o:Int} (K:zaY B t) (ho:1≤o∧o≤64) (hn: ¬(t.Marks|||bit o=t.Marks)) (h:List.Perm B' (o::B)):zaY B' {t with Marks:=t.Marks|||bit o}:=by
 have hn:=(zbD ho).1 hn
 have hnb: ¬zK t.Black o=true:=fun e=>hn (K.blk o e)
 have hno:o∉B:=fun e=>hn ((uV t o).1 ((K.gr o).1 e)).1
 refine ⟨fun q hq=>(wp _ ho q).2 (.inl (K.blk q hq)),h.nodup_iff.2 (List.nodup_cons.2 ⟨hno,K.nd⟩),fun q=> ?_⟩
 rw [h.mem_iff,List.mem_cons,K.gr,uV,uV]
 show q=o∨_↔zK (t.Marks|||bit o) q=true∧¬zK t.Black q=true
 rw [wp _ ho]
 constructor
 ·rintro (rfl | ⟨a,b⟩)
  ·exact ⟨.inr rfl,hnb⟩
  ·exact ⟨.inl a,b⟩
 ·rintro ⟨a | a,b⟩
  ·exact .inr ⟨a,b⟩
  ·exact .inl a
theorem zaY.less {B B':List Int} {t:zt} {o:Int} (K:zaY B t) (h:List.Perm (B'++[o]) B):zaY B' (wz t o)∧(wz t o).Marks=t.Marks∧yD t o=1∧∀q,zK (wz t o).Black q=true↔zK t.Black q=true∨q=o:=by
 have ho:yD t o=1:=(K.gr o).1 (h.mem_iff.1 (by simp))
 have hr:=zhP ho
 have hm:=((uV t o).1 ho)
 have hnd:=h.nodup_iff.2 K.nd
 have hnd:=List.nodup_append.1 hnd
 unfold wz
 rw [if_pos ho]
 refine ⟨⟨fun q hq=> ?_,hnd.1,fun q=> ?_⟩,rfl,ho,fun q=>wp _ hr q⟩
 ·rcases (wp _ hr q).1 hq with e | e
  ·exact K.blk q e
  ·rw [e];exact hm.1
 ·have e1:q∈B↔q∈B'∨q=o:=by rw [←h.mem_iff,List.mem_append,List.mem_singleton]
  rw [K.gr,uV] at e1
  rw [uV]
  show _↔zK t.Marks q=true∧¬zK (t.Black|||bit o) q=true
  rw [wp _ hr]
  constructor
  ·intro hq
   have:=e1.2 (.inl hq)
   exact ⟨this.1,fun e=>e.elim this.2 (fun e=>hnd.2.2 q hq o (by simp) e)⟩
  ·rintro ⟨a,b⟩
   rcases e1.1 ⟨a,fun e=>b (.inl e)⟩ with e | e
   ·exact e
   ·exact absurd (.inr e) b
theorem HOk.get {p:zb} (hp:zA p) {h:zr} (H:HOk p h) (o i:Int):0≤zO h o i∧zO h o i≤64:=by
 have h1:=H.n
 have h2:p.Most≤64:=by have:=hp.most;have:=hp.n;omega
 unfold zO
 split
 ·unfold zM
  rw [List.getD_eq_getElem?_getD,List.getD_eq_getElem?_getD]
  cases hx:h.Objs[(o-1).toNat]? with
  | none=>show 0≤(([]:List Int)[i.toNat]?).getD 0∧_;simp
  | some l =>
   show 0≤(l[i.toNat]?).getD 0∧(l[i.toNat]?).getD 0≤64
   cases hv:l[i.toNat]? with
   | none=>show (0:Int)≤0∧(0:Int)≤64;decide
   | some v =>
    have:=(H.objs l (List.mem_of_getElem? hx)).2 v (List.mem_of_getElem? hv)
    show 0≤v∧v≤64;omega
 ·exact ⟨by decide,by decide⟩
structure WG (p:zb) (nb k:Nat) (s:za) (gh:Gh):Prop where
 E:EOk p nb s
 X:SX p nb s gh (s.Ws.flatMap wv) k
 W: ∀(i:Nat) x,s.Ws[i]? =some x→WX p s gh ((i:Int)+1) x
 B:zaY (zoh p s gh) s.T
def zCS (s s':za) (w:Int):Prop :=
 s'.T=s.T∨(∃x o,s.Ws[(w-1).toNat]? =some x∧x.PC=6∧o=x.G.Obj∧(1≤o∧o≤64)∧¬zK s.T.Marks o=true∧s'.T={s.T with Marks:=s.T.Marks|||bit o}) ∨
  (∃x,s.Ws[(w-1).toNat]? =some x∧x.PC=8∧yD s.T x.Obj=1∧s'.T={s.T with Black:=s.T.Black|||bit x.Obj})
theorem WG.step {p:zb} (hp:zA p) {nb k:Nat} {s:za} {gh:Gh} (hk:k<4294960000) (G:WG p nb k s gh) {w:Int} (hw:1≤w∧w≤p.Workers) (hd:s.Done=false): ∃gh',WG p nb (k+1) (zF s w) gh'∧zCS s (zF s w) w:=by
 have hE:=zv9 hp G.E w
 have hwl:=G.E.wl
 have e0: ¬(s.Done=true∨w<1∨(s.Ws.length:Int)<w):=by rw [hd];rintro (e | e | e)<;>first | cases e | omega
 revert hE
 unfold zF
 rw [if_neg e0]
 have hi:(w-1).toNat<s.Ws.length:=by omega
 have hx:=List.getElem?_eq_getElem hi
 generalize s.Ws[(w-1).toNat]=x at hx
 rw [hx]
 dsimp only
 intro hE
 obtain ⟨a,b,el,es,hab,hba⟩:=zqH hx
 have ei:(((w-1).toNat:Nat):Int)+1=w:=by omega
 have hWX:=G.W _ x hx
 have hWO:=G.E.W _ x hx
 rw [ei] at hWX hWO
 have X0:SX p nb s gh (wv x++(a++b).flatMap wv) k:=G.X.perm (by rw [el];exact Zd.symm)
 obtain ⟨gh',X',W',Fx,N,C,hN,hT⟩:=zBh hp hk hw X0 hWO hWX (fun o i=>G.E.H.get hp o i)
 have hoth: ∀(j:Nat) y,j≠(w-1).toNat→s.Ws[j]? =some y→WX p (zj s w x).1 gh' ((j:Int)+1) y∧zQ (zj s w x).1 y=zQ s y:=by
  intro j y hj hy
  have hjl:=(List.getElem?_eq_some_iff.1 hy).1
  exact WX.other hp (w:=(j:Int)+1) (by omega) X0 Fx (G.W j y hy) (G.E.W j y hy) (fun z hz=>List.mem_flatMap.2 ⟨y,hba j y hj hy,hz⟩) (fun e=>hj (by omega))
 have hbag:List.Perm (zoh p {(zj s w x).1 with Ws:=s.Ws.set (w-1).toNat (zj s w x).2} gh'++C) (N++zoh p s gh):=by
  unfold zoh
  have q1:yA p {(zj s w x).1 with Ws:=s.Ws.set (w-1).toNat (zj s w x).2} gh'=yA p (zj s w x).1 gh':=rfl
  have q2:(s.Ws.set (w-1).toNat (zj s w x).2).flatMap (zQ {(zj s w x).1 with Ws:=s.Ws.set (w-1).toNat (zj s w x).2})=(a++(zj s w x).2::b).flatMap (zQ (zj s w x).1):=by
   rw [es];exact xL (fun y _=>zcz rfl rfl)
  have q3:(a++b).flatMap (zQ (zj s w x).1)=(a++b).flatMap (zQ s):=xL (fun y hy=>by
   obtain ⟨j,hj,hjy⟩:=hab y hy
   exact (hoth j y hj hjy).2)
  rw [q1]
  show List.Perm (yA p (zj s w x).1 gh'++(s.Ws.set (w-1).toNat (zj s w x).2).flatMap (zQ {(zj s w x).1 with Ws:=s.Ws.set (w-1).toNat (zj s w x).2})++C) _
  rw [q2]
  have r1:List.Perm (yA p (zj s w x).1 gh'++(a++(zj s w x).2::b).flatMap (zQ (zj s w x).1)++C) ((a++b).flatMap (zQ s)++(yA p (zj s w x).1 gh'++zQ (zj s w x).1 (zj s w x).2++C)):=by
   refine ((List.Perm.append_left _ Zd).append_right C).trans ?_
   rw [q3,List.append_assoc,List.append_assoc,List.append_assoc]
   refine (List.perm_append_comm_assoc _ _ _).trans ?_
   refine (List.Perm.append_left _ (List.perm_append_comm_assoc _ _ _)).trans ?_
   refine (List.perm_append_comm_assoc _ _ _).trans (List.Perm.append_left _ ?_)
   exact List.perm_append_comm_assoc _ _ _
  have r2:List.Perm (N++(yA p s gh++s.Ws.flatMap (zQ s))) ((a++b).flatMap (zQ s)++(N++(yA p s gh++zQ s x))):=by
   conv=>lhs;rw [el]
   refine (List.Perm.append_left _ (List.Perm.append_left _ Zd)).trans ?_
   refine (List.Perm.append_left _ ?_).trans (List.perm_append_comm_assoc _ _ _)
   rw [←List.append_assoc]
   exact List.perm_append_comm
  exact r1.trans ((List.Perm.append_left _ hN).trans r2.symm)
 have fin:zaY (zoh p {(zj s w x).1 with Ws:=s.Ws.set (w-1).toNat (zj s w x).2} gh') (zj s w x).1.T→WG p nb (k+1) {(zj s w x).1 with Ws:=s.Ws.set (w-1).toNat (zj s w x).2} gh':=by
  intro hB
  refine ⟨hE,?_,fun j y hy=> ?_,hB⟩
  ·refine (X'.state hE.S rfl).perm ?_
   show List.Perm ((s.Ws.set (w-1).toNat (zj s w x).2).flatMap wv) _
   rw [es];exact Zd
  ·have hy:(s.Ws.set (w-1).toNat (zj s w x).2)[j]? =some y:=hy
   by_cases hj:j=(w-1).toNat
   ·subst hj
    rw [List.getElem?_set_self hi] at hy
    injection hy with hy
    rw [←hy,ei]
    exact W'.state rfl rfl
   ·rw [List.getElem?_set_ne (fun e=>hj e.symm)] at hy
    exact (hoth j y hj hy).1.state rfl rfl
 refine ⟨gh',?_⟩
 rcases hT with ⟨rfl,rfl,t1⟩ | ⟨rfl,rfl,t1,t2,t3⟩ | ⟨rfl,rfl,t1,t2⟩
 ·rw [List.append_nil,List.nil_append] at hbag
  refine ⟨fin ⟨?_,hbag.nodup_iff.2 G.B.nd,fun o=> ?_⟩,.inl t1⟩
  ·rw [t1];exact G.B.blk
  ·rw [t1,hbag.mem_iff];exact G.B.gr o
 ·have ho:=((hWX.p6 t1).1).ob
  rw [List.append_nil] at hbag
  refine ⟨fin ?_,.inr (.inl ⟨x,x.G.Obj,hx,t1,rfl,ho,(zbD ho).1 t2,t3⟩)⟩
  rw [t3]
  exact G.B.more ho t2 hbag
 ·rw [List.nil_append] at hbag
  obtain ⟨b1,b2,b3,b4⟩:=G.B.less hbag
  refine ⟨fin ?_,.inr (.inr ⟨x,hx,t1,b3,?_⟩)⟩
  ·rw [t2];exact b1
  ·show (zj s w x).1.T=_
   rw [t2];unfold wz;rw [if_pos b3]
end
end Go.Pe.G
namespace Go.Pe.G
open Go.Pe
noncomputable section
theorem znf {N:Int} {nb:Nat} (hN:0≤N∧N<1000) (hnb:nb<1000): ∀(l:List Int) (m:List (BitVec 64)) (a:Int),(∀x∈l,1≤x∧x<nb)→(∀x∈l,a≠N+x)→ld (links m N l) a=ld m a
 | [],m,a,_,_=>rfl
 | [x],m,a,h,h2=>by
  have:=h x (by simp)
  have:=h2 x (by simp)
  rw [links,xg (by omega) (by omega)]
  exact yy (by omega)
 | x::y::l,m,a,h,h2=>by
  have:=h x (by simp)
  have:=h2 x (by simp)
  rw [links,znf hN hnb (y::l) _ a (fun z hz=>h z (List.mem_cons_of_mem _ hz)) (fun z hz=>h2 z (List.mem_cons_of_mem _ hz)),xg (by omega) (by omega)]
  exact yy (by omega)
theorem zo7 {N:Int} {nb:Nat} (hN:0≤N∧N<1000) (hnb:nb<1000): ∀(l:List Int) (m:List (BitVec 64)),(∀x∈l,1≤x∧x<nb)→l.Nodup→N+nb≤m.length→Chn (links m N l) N nb (l.headD 0) l
 | [],m,_,_,_=>rfl
 | [x],m,h,_,hl=>by
  have:=h x (by simp)
  refine ⟨rfl,this.1,this.2,?_⟩
  rw [links,xg (by omega) (by omega),WA,if_pos ⟨rfl,by omega,by omega⟩]
  rfl
 | x::y::l,m,h,hd,hl=>by
  have hx:=h x (by simp)
  have hy:=h y (by simp)
  have hd:=List.nodup_cons.1 hd
  refine ⟨rfl,hx.1,hx.2,?_⟩
  have ih:=zo7 hN hnb (y::l) (st m (wc (N+x)) (BitVec.ofInt 64 y)) (fun z hz=>h z (List.mem_cons_of_mem _ hz)) hd.2 (by rw [ZR];exact hl)
  rw [links,znf hN hnb (y::l) _ (N+x) (fun z hz=>h z (List.mem_cons_of_mem _ hz)) (fun z hz e=>hd.1 (by rw [zlZ e] at hz;exact hz)),xg (by omega) (by omega),WA,if_pos ⟨rfl,by omega,by omega⟩,toInt_ofInt (by omega) (by omega)]
  rw [xg (by omega) (by omega)] at ih
  exact ih
theorem Chn.links {N:Int} {nb:Nat} (hN:0≤N∧N<1000) (hnb:nb<1000) {l r:List Int} {h:Int} {m:List (BitVec 64)} (hr: ∀x∈r,1≤x∧x<nb) (hd: ∀x∈l,x∉r) (c:Chn m N nb h l):Chn (Go.Pe.G.links m N r) N nb h l:=by
 induction l generalizing h with
 | nil=>exact c
 | cons y l ih =>
  refine ⟨c.1,c.2.1,c.2.2.1,?_⟩
  rw [znf hN hnb r m (N+y) hr (fun z hz e=>hd y (by simp) (by rw [zlZ e] at hz;exact hz))]
  exact ih (fun x hx=>hd x (List.mem_cons_of_mem _ hx)) c.2.2.2
theorem zwp {l:List Int} {nb:Nat} (h: ∀x∈l,1≤x∧x<nb) (hnb:nb<1000):0≤l.headD 0∧l.headD 0<4294967296:=by
 cases l with
 | nil=>exact ⟨by decide,by decide⟩
 | cons a r=>have:=h a (by simp);show 0≤a∧a<4294967296;omega
theorem zyQ {p:zb} (h:zA p):LI p (zZ p+1) (yM p).M (yh p) (zI p) ((xz (zZ p)).take (xy p).length) ((xz (zZ p)).drop (xy p).length) []∧xm (ld (yM p).M (yh p))=0∧xm (ld (yM p).M (zI p))=0:=by
 have hb:=zi4 h
 have hF:=Yp h
 have hE:=wN h
 have hcl:=UV p p.Workers.toNat
 have hw:=h.wk
 have hc:=h.cap
 have hfe:yh p=((p.Workers.toNat*(p.Cap.toNat+2):Nat):Int):=by
  rw [hF.1]
  have e1:p.Workers=((p.Workers.toNat:Nat):Int):=by omega
  have e2:p.Cap+2=((p.Cap.toNat+2:Nat):Int):=by omega
  rw [e2,Int.natCast_mul]
  rw [←e1]
 have hN:0≤zI p∧zI p<1000:=by omega
 have hnb:zZ p+1<1000:=by omega
 generalize hk:(xy p).length=k
 have t1: ∀x∈(xz (zZ p)).take k,1≤x∧x<((zZ p+1:Nat):Int):=fun x hx=>by have:=zeQ (List.mem_of_mem_take hx);omega
 have t2: ∀x∈(xz (zZ p)).drop k,1≤x∧x<((zZ p+1:Nat):Int):=fun x hx=>by have:=zeQ (List.mem_of_mem_drop hx);omega
 have nd:((xz (zZ p)).take k++(xz (zZ p)).drop k).Nodup:=by rw [List.take_append_drop];exact zpV (zZ p+1)
 have nd3:=List.nodup_append.1 nd
 have eM:(yM p).M=zcY (zcY (YA p p.Workers.toNat++List.replicate (2+zZ p) 0#64) (yh p) (zI p) ((xz (zZ p)).take k)) (zI p) (zI p) ((xz (zZ p)).drop k):=by rw [←hk];rfl
 rw [eM]
 generalize hm0:YA p p.Workers.toNat++List.replicate (2+zZ p) 0#64=m0
 have l0:zI p+((zZ p+1:Nat):Int)≤m0.length:=by
  rw [←hm0,List.length_append,hcl,List.length_replicate];omega
 have p1:=zwp t1 hnb
 have p2:=zwp t2 hnb
 have v0: ∀n:Int,0≤n→n<4294967296→xm (xj 0#64 n)=0:=fun n h1 h2=>by
  unfold xm;rw [zrA _ h1 h2];show (0*4294967296+n.toNat)/4294967296=0;omega
 have c1:=zo7 hN hnb _ m0 t1 nd3.1 l0
 generalize hm1:links m0 (zI p) ((xz (zZ p)).take k)=m1 at c1
 have l1:m1.length=m0.length:=by rw [←hm1,zdc]
 have c1':=(c1.st_head h (a:=yh p) (v:=xj 0#64 (((xz (zZ p)).take k).headD 0)) (.inl rfl)).links hN hnb t2 (fun x hx hx2=>nd3.2.2 x hx x hx2 rfl)
 have c2:=zo7 hN hnb _ (st m1 (yh p) (xj 0#64 (((xz (zZ p)).take k).headD 0))) t2 nd3.2.1 (by rw [ZR,l1];exact l0)
 have hd1:ld (links (st m1 (yh p) (xj 0#64 (((xz (zZ p)).take k).headD 0))) (zI p) ((xz (zZ p)).drop k)) (yh p)=xj 0#64 (((xz (zZ p)).take k).headD 0):=by
  rw [znf hN hnb _ _ _ t2 (fun x hx=>by have:=t2 x hx;omega),WA,if_pos ⟨rfl,by omega,by omega⟩]
 unfold zcY
 rw [hm1]
 generalize hm2:links (st m1 (yh p) (xj 0#64 (((xz (zZ p)).take k).headD 0))) (zI p) ((xz (zZ p)).drop k)=m2 at c1' c2 hd1
 have l2:m2.length=m0.length:=by rw [←hm2,zdc,ZR,l1]
 have g1:ld (st m2 (zI p) (xj 0#64 (((xz (zZ p)).drop k).headD 0))) (yh p)=xj 0#64 (((xz (zZ p)).take k).headD 0):=by rw [yy (by omega),hd1]
 have g2:ld (st m2 (zI p) (xj 0#64 (((xz (zZ p)).drop k).headD 0))) (zI p)=xj 0#64 (((xz (zZ p)).drop k).headD 0):=by rw [WA,if_pos ⟨rfl,by omega,by omega⟩]
 refine ⟨⟨.inl ⟨rfl,rfl⟩,?_,?_,?_,by rw [ZR,l2];exact l0⟩,?_,?_⟩
 ·rw [g1,zdk _ p1.1 p1.2]
  exact c1'.st_head h (.inr rfl)
 ·rw [g2,zdk _ p2.1 p2.2]
  exact c2.st_head h (.inr rfl)
 ·rw [List.append_nil,List.take_append_drop]
  exact List.Perm.refl _
 ·rw [g1];exact v0 _ p1.1 p1.2
 ·rw [g2];exact v0 _ p2.1 p2.2
end
end Go.Pe.G
namespace Go.Pe.G
open Go.Pe
noncomputable section
theorem znS {N:Int} (hN:0≤N∧N<1000): ∀(l:List Int) (m:List (BitVec 64)) (a:Int),(∀x∈l,1≤x∧x<1000)→a≤N→ld (links m N l) a=ld m a
 | [],m,a,_,_=>rfl
 | [x],m,a,h,h2=>by
  have:=h x (by simp)
  rw [links,xg (by omega) (by omega)]
  exact yy (by omega)
 | x::y::l,m,a,h,h2=>by
  have:=h x (by simp)
  rw [links,znS hN (y::l) _ a (fun z hz=>h z (List.mem_cons_of_mem _ hz)) h2,xg (by omega) (by omega)]
  exact yy (by omega)
theorem zBO {p:zb} (h:zA p) {a:Int} (ha:a<yh p):ld (yM p).M a=ld (YA p p.Workers.toNat++List.replicate (2+zZ p) 0#64) a:=by
 have hb:=zi4 h
 have hF:=Yp h
 have hE:=wN h
 have t1: ∀x∈(xz (zZ p)).take (xy p).length,1≤x∧x<1000:=fun x hx=>by have:=zeQ (List.mem_of_mem_take hx);omega
 have t2: ∀x∈(xz (zZ p)).drop (xy p).length,1≤x∧x<1000:=fun x hx=>by have:=zeQ (List.mem_of_mem_drop hx);omega
 show ld (zcY (zcY _ (yh p) (zI p) _) (zI p) (zI p) _) a=_
 unfold zcY
 rw [yy (by omega),znS (by omega) _ _ _ t2 (by omega),yy (by omega),znS (by omega) _ _ _ t1 (by omega)]
theorem ztO (p:zb): ∀(k i j:Nat),i<k→j<p.Cap.toNat+2→(YA p k)[i*(p.Cap.toNat+2)+j]? =(zgz p.Cap)[j]?
 | 0,i,j,h,_=>by omega
 | k+1,i,j,h,hj=>by
  rw [zlu]
  have hl:=UV p k
  rcases Nat.lt_or_ge i k with h1 | h1
  ·have h2:=Nat.mul_le_mul_right (p.Cap.toNat+2) (show i+1≤k from h1)
   rw [Nat.succ_mul] at h2
   rw [List.getElem?_append_left (by omega)]
   exact ztO p k i j h1 hj
  ·have:i=k:=by omega
   subst this
   rw [List.getElem?_append_right (by omega),hl,show i*(p.Cap.toNat+2)+j-i*(p.Cap.toNat+2)=j by omega]
theorem zvg {p:zb} (h:zA p) {w:Int} (hw:1≤w∧w≤p.Workers) {j:Nat} (hj:j<2):ld (yM p).M (zW p w+j)=1#64:=by
 have hd:=Xb h hw.1 hw.2
 have hc:=h.cap
 have hl:=UV p p.Workers.toNat
 have hlt:(w-1).toNat<p.Workers.toNat:=by omega
 have e1:(zW p w+j).toNat=(w-1).toNat*(p.Cap.toNat+2)+j:=by
  obtain ⟨n,hn⟩: ∃n:Nat,w-1=(n:Int):=⟨(w-1).toNat,by omega⟩
  have e2:p.Cap+2=((p.Cap.toNat+2:Nat):Int):=by omega
  rw [hd.1,hn,e2,←Int.natCast_mul,Int.toNat_natCast]
  omega
 have h2:=Nat.mul_le_mul_right (p.Cap.toNat+2) (show (w-1).toNat+1≤p.Workers.toNat from hlt)
 rw [Nat.succ_mul] at h2
 rw [zBO h (by omega)]
 unfold ld
 rw [if_pos (by omega),e1,List.getD_eq_getElem?_getD,List.getElem?_append_left (by omega),ztO p _ _ _ hlt (by omega)]
 unfold zgz
 match j,hj with
 | 0,_=>rfl
 | 1,_=>rfl
theorem zp1 (n:Nat) (hn:1≤n): ∀(f:Nat) (l:List Int),l.length≤f→(u9 n f l).flatten=l
 | 0,l,h=>by
  have:l=[]:=List.length_eq_zero_iff.1 (by omega)
  subst this;simp [u9]
 | f+1,[],_=>by simp [u9]
 | f+1,x::l,h=>by
  have:=zp1 n hn f ((x::l).drop n) (by rw [List.length_drop];simp at h ⊢;omega)
  simp only [u9,List.flatten_cons] at this ⊢
  rw [this,List.take_append_drop]
theorem zzj {α:Type} (l:List (List α)):(List.range l.length).flatMap (fun i:Nat=>(l[i]?).getD [])=l.flatten:=by
 rw [List.flatMap_def]
 congr 1
 apply List.ext_getElem
 ·simp
 ·intro i h1 h2
  simp [List.getElem?_eq_getElem h2]
def gh0 (p:zb):Gh:=⟨(xz (zZ p)).take (xy p).length,(xz (zZ p)).drop (xy p).length,fun _=>[],fun _=>1,fun _=>0⟩
theorem zbj {α β:Type} {f:α→List β}: ∀ {l:List α},(∀x∈l,f x=[])→l.flatMap f=[]
 | [],_=>rfl
 | a::l,h=>by rw [List.flatMap_cons,h a (by simp),zbj (fun x hx=>h x (List.mem_cons_of_mem _ hx))];rfl
theorem zxu {p:zb} (h:zA p):yA p (yM p) (gh0 p)=Wy (uk p):=by
 have hb:=h.bin
 have hfl:=zqv h
 have hbs:=zi4 h
 have hmost:=h.most
 have hw:=h.wk
 have hm:=h.mt
 have e1:yA p (yM p) (gh0 p)=((xz (zZ p)).take (xy p).length).flatMap (vQ (yM p)):=by
  show ((xz (zZ p)).take (xy p).length).flatMap (vQ (yM p))++(List.range p.Workers.toNat).flatMap (fun _=>([]:List Int))=_
  rw [zbj (f:=fun _=>([]:List Int)) (fun _ _=>rfl),List.append_nil]
 have e2:(xz (zZ p)).take (xy p).length=(List.range (xy p).length).map (fun i:Nat=>(i:Int)+1):=by
  unfold xz
  rw [←List.map_take,List.take_range,Nat.min_eq_left (by omega)]
 rw [e1,e2,List.flatMap_map]
 have e3:(List.range (xy p).length).flatMap (fun i:Nat=>vQ (yM p) ((i:Int)+1))=(List.range (xy p).length).flatMap (fun i:Nat=>((xy p)[i]?).getD []):=by
  refine xL (fun i hi=> ?_)
  have hi:=List.mem_range.1 hi
  unfold vQ
  show (([[]]++xy p++List.replicate (zZ p-(xy p).length) [])[((i:Int)+1).toNat]?).getD []=_
  rw [show ((i:Int)+1).toNat=i+1 by omega,List.append_assoc]
  show ((xy p++List.replicate (zZ p-(xy p).length) [])[i]?).getD []=_
  rw [List.getElem?_append_left hi]
 rw [e3,zzj]
 exact zp1 _ (by omega) _ _ (Nat.le_refl _)
theorem zwL (s:BitVec 64):(Wy s).Nodup:=by
 unfold Wy
 rw [List.Nodup,List.pairwise_map]
 exact (List.nodup_range.filter _).imp (fun h e=>h (by omega))
theorem zyb {s:BitVec 64} (h:s&&& ~~~63#64=0#64) {j:Nat} (hs:s.getLsbD j=true):j<6:=by
 have hj:j<64:=BitVec.lt_of_getLsbD hs
 have:=congrArg (fun x=>x.getLsbD j) h
 simp only [BitVec.getLsbD_and,BitVec.getLsbD_not,hs,hj,decide_true,Bool.true_and,BitVec.getLsbD_zero] at this
 have h63:(63#64).getLsbD j=decide (j<6):=by
  have: ∀j:Fin 64,(63#64).getLsbD j.1=decide (j.1<6):=by decide
  exact this ⟨j,hj⟩
 rw [h63] at this
 by_cases e:j<6
 ·exact e
 ·rw [decide_eq_false e] at this;cases this
theorem zy1 {s:BitVec 64} (h:s&&& ~~~63#64=0#64) (o:Int):o∈Wy s↔zK s o=true:=by
 unfold Wy
 rw [wm,List.mem_map]
 constructor
 ·rintro ⟨i,hi,rfl⟩
  obtain ⟨h1,h2⟩:=List.mem_filter.1 hi
  have:=List.mem_range.1 h1
  exact ⟨by omega,by omega,by rw [show ((i:Int)+1-1).toNat=i by omega];exact h2⟩
 ·rintro ⟨h1,h2,h3⟩
  exact ⟨(o-1).toNat,List.mem_filter.2 ⟨List.mem_range.2 (zyb h h3),h3⟩,by omega⟩
theorem zCv {p:zb} (h:zA p):WG p (zZ p+1) 0 (yM p) (gh0 p):=by
 have hE:=zsf h
 obtain ⟨L,v1,v2⟩:=zyQ h
 have hc:=h.cap
 have hws: ∀x∈(yM p).Ws,∃i:Nat,x=ul p i:=fun x hx=>by
  obtain ⟨i,_,rfl⟩:=List.mem_map.1 (show x∈(List.range p.Workers.toNat).map (ul p) from hx)
  exact ⟨i,rfl⟩
 have hb: ∀i:Nat,ul p i=Ul p ((i:Int)+1) (ul p i):=fun i=>rfl
 have own:(yM p).Ws.flatMap wv=[]:=zbj (fun x hx=>by
  obtain ⟨i,rfl⟩:=hws x hx
  exact uj (by show (0:Int)≠3;decide) (by show (0:Int)≠4;decide) (by show (0:Int)≠6;decide))
 have hold:(yM p).Ws.flatMap (zQ (yM p))=[]:=zbj (fun x hx=>by
  obtain ⟨i,rfl⟩:=hws x hx
  unfold zQ
  rw [hb i,zif];rfl)
 refine ⟨hE,⟨hE.S,by rw [own];exact L,fun w h1 h2=> ?_,?_,fun w _ _=>by show 1+0≤0+1000;decide⟩,fun i x hx=> ?_,?_⟩
 ·have c0:=zvg h ⟨h1,h2⟩ (j:=0) (by decide)
  have c1:=zvg h ⟨h1,h2⟩ (j:=1) (by decide)
  rw [show zW p w+((0:Nat):Int)=zW p w by omega] at c0
  exact ⟨c0,c1,by show (0:Nat)≤1;decide,by show (1:Nat)≤1;decide,Nat.zero_le _,by show 1+0<4294967296;decide,fun i hi=>absurd hi (Nat.not_lt_zero _)⟩
 ·rw [v1,v2];exact ⟨Nat.le_refl _,Nat.le_refl _⟩
 ·have hx:((List.range p.Workers.toNat).map (ul p))[i]? =some x:=hx
  rw [List.getElem?_map] at hx
  cases hr:(List.range p.Workers.toNat)[i]? with
  | none=>rw [hr] at hx;cases hx
  | some j =>
   rw [hr] at hx
   injection hx with hx
   obtain ⟨h1,h2⟩:=List.getElem?_eq_some_iff.1 hr
   rw [List.getElem_range] at h2
   subst h2
   rw [←hx,hb i]
   exact WX.begin rfl rfl
 ·have hs:=zfS h
  unfold zoh
  rw [hold,List.append_nil,zxu h]
  refine ⟨fun o ho=>absurd ho (Yz o),zwL _,fun o=> ?_⟩
  rw [zy1 hs,uV]
  exact ⟨fun e=>⟨e,Yz o⟩,fun e=>e.1⟩
end
end Go.Pe.G
namespace Go.Pe.G
open Go.Pe
noncomputable section
theorem v8 (a b:BitVec 64) (q:Int):zK (a|||b) q=true↔zK a q=true∨zK b q=true:=by
 rw [wm,wm,wm,BitVec.getLsbD_or,Bool.or_eq_true]
 constructor
 ·rintro ⟨h1,h2,h | h⟩
  ·exact .inl ⟨h1,h2,h⟩
  ·exact .inr ⟨h1,h2,h⟩
 ·rintro (⟨h1,h2,h⟩ | ⟨h1,h2,h⟩)
  ·exact ⟨h1,h2,.inl h⟩
  ·exact ⟨h1,h2,.inr h⟩
theorem zas (h:zr) (a i v:Int):(uI h a i v).Objs.length=h.Objs.length:=by
 unfold uI;split<;>simp
theorem zc3 (h:zr):(xT h).Objs.length=h.Objs.length+1:=by unfold xT;simp
end
end Go.Pe.G
namespace Go.Pe.G
open Go.Pe
noncomputable section
theorem zrx: ∀(n:Fin 10) (j:Fin 64),(vq (n.1:Int)).getLsbD j.1=decide (j.1<n.1):=by decide +kernel
theorem znl {n:Nat} (hn:n≤9) (o:Int):zK (vq (n:Int)) o=true↔1≤o∧o≤(n:Int):=by
 rw [wm]
 constructor
 ·rintro ⟨a,b,c⟩
  have:=zrx ⟨n,by omega⟩ ⟨(o-1).toNat,by omega⟩
  rw [this] at c
  have:(o-1).toNat<n:=by simpa using c
  omega
 ·rintro ⟨a,b⟩
  have:=zrx ⟨n,by omega⟩ ⟨(o-1).toNat,by omega⟩
  refine ⟨a,by omega,?_⟩
  rw [this]
  exact decide_eq_true (by show (o-1).toNat<n;omega)
end
end Go.Pe.G
namespace Go.Pe.G
open Go.Pe
noncomputable section
theorem ztP {t:zt} {o:Int} (ho:1≤o∧o≤64) (hm: ¬zK t.Marks o=true) (hb: ¬zK t.Black o=true):vk t o=({t with Marks:=t.Marks|||bit o},true):=by
 unfold vk
 rw [if_neg ((zbD ho).2 hm),if_pos]
 unfold zK at hb
 simpa using hb
theorem zAl {o q:Int} (h:zK (bit o) q=true):q=o:=by
 by_cases ho:1≤o∧o≤64
 ·have:=(wp 0#64 ho q).1 (by simpa using h)
  exact this.resolve_left (Yz q)
 ·unfold bit at h;rw [if_neg ho] at h;exact absurd h (Yz q)
theorem Yk {m:BitVec 64} {o q:Int} (h:zK (m|||bit o) q=true):zK m q=true∨q=o:=((v8 _ _ _).1 h).imp id zAl
theorem zuQ (t:zt) (o:Int):yD t o=2↔zK t.Marks o=true∧zK t.Black o=true:=by
 unfold yD
 cases h:zK (t.Marks&&&t.Black) o with
 | true=>simp only [if_true,true_iff];exact (VE _ _ o).1 h
 | false =>
  have hn: ¬(zK t.Marks o=true∧zK t.Black o=true):=fun e=>by rw [(VE _ _ o).2 e] at h;cases h
  simp only [Bool.false_eq_true,if_false]
  constructor
  ·intro e;split at e<;>omega
  ·intro e;exact absurd e hn
theorem zgB (t:zt) (o:Int):(vk t o).1.Black=t.Black∧((vk t o).1.Marks=t.Marks∨(vk t o).1.Marks=t.Marks|||bit o):=by
 unfold vk
 split
 ·exact ⟨rfl,.inl rfl⟩
 split
 ·exact ⟨rfl,.inr rfl⟩
 ·exact ⟨rfl,.inl rfl⟩
theorem zfG (t:zt) (o:Int):(wz t o).Marks=t.Marks∧((wz t o).Black=t.Black∨((wz t o).Black=t.Black|||bit o∧zK t.Marks o=true)):=by
 unfold wz
 split
 ·rename_i h;exact ⟨rfl,.inr ⟨rfl,((uV t o).1 h).1⟩⟩
 ·exact ⟨rfl,.inl rfl⟩
theorem zzb (s:za) (g:zC):(zo s g).1.T=s.T∨(zo s g).1.T=(vk s.T g.Obj).1:=by
 unfold zo
 split
 ·exact .inl rfl
 split
 ·exact .inl rfl
 split
 ·exact .inl rfl
 split
 ·exact .inl rfl
 split
 ·exact .inl rfl
 split
 ·exact .inl rfl
 split
 ·exact .inl rfl
 split
 ·exact .inr rfl
 ·exact .inl rfl
theorem zqx (s:za) (m:Int) (x:zc) :
  ((zi s m x).1.H.Objs.length=s.H.Objs.length∧((zi s m x).1.T=s.T∨((zi s m x).1.T=(vk s.T x.G.Obj).1∧(x.PC=3∨x.PC=37))∨(zi s m x).1.T=wz s.T x.Obj) ∧
   ((zi s m x).1.L=s.L∨(∃w,(zi s m x).1.L=(zcB s.L m w).1)∨(zi s m x).1.L=zcD s.L m)) ∨
  ((zi s m x).1.H=xT s.H∧(zi s m x).1.T=YL s.T (wc (s.H.Objs.length+1))∧(zi s m x).1.L=zcc s.L m s.P.Price∧zfA s.L m s.P.Price s.P.Limit=true∧YU s.H s.P.Most=true):=by
 refine yI (motive:=fun r=>(r.1.H.Objs.length=s.H.Objs.length∧(r.1.T=s.T∨(r.1.T=(vk s.T x.G.Obj).1∧(x.PC=3∨x.PC=37))∨r.1.T=wz s.T x.Obj)∧(r.1.L=s.L∨(∃w,r.1.L=(zcB s.L m w).1)∨r.1.L=zcD s.L m)) ∨
  (r.1.H=xT s.H∧r.1.T=YL s.T (wc (s.H.Objs.length+1))∧r.1.L=zcc s.L m s.P.Price∧zfA s.L m s.P.Price s.P.Limit=true∧YU s.H s.P.Most=true)) s m x ?_ ?_ ?_ ?_ ?_ ?_ ?_ ?_ ?_ ?_ ?_ ?_ ?_ ?_ ?_ ?_ ?_ ?_ ?_ ?_
 ·intro c;exact .inl ⟨rfl,.inl rfl,.inl rfl⟩
 ·intro c;exact .inl ⟨rfl,.inl rfl,.inl rfl⟩
 ·intro c;exact .inl ⟨rfl,.inl rfl,.inl rfl⟩
 ·intro c;unfold mu3
  refine .inl ⟨by rw [Xw],(zzb s x.G).imp id (fun h=> .inl ⟨h,.inl c⟩),.inl (by rw [Xw])⟩
 ·intro c;exact .inl ⟨rfl,.inl rfl,.inl rfl⟩
 ·intro c;exact .inl ⟨rfl,.inl rfl,.inl rfl⟩
 ·intro c;exact .inl ⟨rfl,.inl rfl,.inl rfl⟩
 ·intro c;exact .inl ⟨rfl,.inl rfl,.inl rfl⟩
 ·intro c;exact .inl ⟨zas _ _ _ _,.inl rfl,.inl rfl⟩
 ·intro c;unfold YQ
  split
  ·split
   ·rename_i h1 h2;exact .inr ⟨rfl,rfl,rfl,h1,h2⟩
   ·exact .inl ⟨rfl,.inl rfl,.inl rfl⟩
  ·exact .inl ⟨rfl,.inl rfl,.inl rfl⟩
 ·intro c;exact .inl ⟨rfl,.inl rfl,.inr (.inl ⟨_,rfl⟩)⟩
 ·intro c;exact .inl ⟨rfl,.inl rfl,.inl rfl⟩
 ·intro c;exact .inl ⟨rfl,.inl rfl,.inl rfl⟩
 ·intro c;exact .inl ⟨rfl,.inl rfl,.inl rfl⟩
 ·intro c;exact .inl ⟨rfl,.inl rfl,.inl rfl⟩
 ·intro c;exact .inl ⟨rfl,.inl rfl,.inl rfl⟩
 ·intro c;unfold XU
  refine .inl ⟨by rw [Xw],(zzb s x.G).imp id (fun h=> .inl ⟨h,.inr c⟩),.inl (by rw [Xw])⟩
 ·intro c;exact .inl ⟨rfl,.inr (.inr rfl),.inr (.inr rfl)⟩
 ·intro c;exact .inl ⟨rfl,.inl rfl,.inl rfl⟩
 ·exact .inl ⟨rfl,.inl rfl,.inl rfl⟩
def zbn (n:Int) (x:zc):Prop:=(∀v∈x.Buf,v≤n)∧x.Old≤n∧(x.PC=3∨x.PC=37→x.G.Obj≤n)
theorem zvD {h:zr} {n:Int} (h0:0≤n) (hv: ∀l∈h.Objs,∀v∈l,v≤n) (o i:Int):zO h o i≤n:=by
 unfold zO
 split
 ·rw [List.getD_eq_getElem?_getD]
  cases hx:(zM h o)[i.toNat]? with
  | none=>exact h0
  | some v =>
   have hm:=List.mem_of_getElem? hx
   unfold zM at hm
   rw [List.getD_eq_getElem?_getD] at hm
   cases hy:h.Objs[(o-1).toNat]? with
   | none=>rw [hy] at hm;cases hm
   | some l=>rw [hy] at hm;exact hv l (List.mem_of_getElem? hy) v hm
 ·exact h0
theorem zuc {p:zb} {nb:Nat} {s:za} {m:Int} {x:zc} (X:XOk p nb m x) {n:Int} (h0:0≤n) (hv: ∀l∈s.H.Objs,∀v∈l,v≤n) (B:zbn n x):zbn n (zi s m x).2:=by
 obtain ⟨b1,b2,b3⟩:=B
 have no: ∀ {y:zc},(∀v∈y.Buf,v≤n)→y.Old≤n→¬(y.PC=3∨y.PC=37)→zbn n y:=fun h1 h2 h3=>⟨h1,h2,fun e=>absurd e h3⟩
 refine yI (motive:=fun r=>zbn n r.2) s m x ?_ ?_ ?_ ?_ ?_ ?_ ?_ ?_ ?_ ?_ ?_ ?_ ?_ ?_ ?_ ?_ ?_ ?_ ?_ ?_
 ·intro c;unfold mu0 ZW
  repeat' split
  all_goals exact no b1 b2 (by dsimp only [setM];omega)
 ·intro c;unfold mu1;dsimp only
  split
  ·exact no b1 b2 (by have:=X.ret (.inl c);show ¬(x.Ret=3∨x.Ret=37);omega)
  ·rename_i hl
   refine ⟨fun v hv=>b1 v (List.mem_of_mem_take hv),b2,fun _=> ?_⟩
   show x.Buf.getD (x.Buf.length-1) 0≤n
   rw [List.getD_eq_getElem?_getD,List.getElem?_eq_getElem (show x.Buf.length-1<x.Buf.length by omega)]
   exact b1 _ (List.getElem_mem _)
 ·intro c;unfold mu2;exact no b1 b2 (by show ¬((0:Int)=3∨(0:Int)=37);decide)
 ·intro c;unfold mu3;dsimp only
  split
  ·exact no b1 b2 (by show ¬((1:Int)=3∨(1:Int)=37);decide)
  ·exact ⟨b1,b2,fun _=>by show (zo s x.G).2.Obj≤n;rw [(Vw s x.G).1];exact b3 (.inl c)⟩
 ·intro c;unfold zcS;exact no b1 b2 (by show ¬((0:Int)=3∨(0:Int)=37);decide)
 ·intro c;unfold Vo;dsimp only
  split
  ·exact no b1 b2 (by show ¬((0:Int)=3∨(0:Int)=37);decide)
  ·exact no b1 (zvD h0 hv _ _) (by show ¬((21:Int)=3∨(21:Int)=37);decide)
 ·intro c;unfold WT;dsimp only
  split
  ·exact no b1 h0 (by show ¬((23:Int)=3∨(23:Int)=37);decide)
  ·exact no b1 b2 (by show ¬((22:Int)=3∨(22:Int)=37);decide)
 ·intro c;unfold UD;dsimp only
  split
  ·exact no b1 b2 (by show ¬((1:Int)=3∨(1:Int)=37);decide)
  ·refine no (fun v hv=> ?_) h0 (by show ¬((23:Int)=3∨(23:Int)=37);decide)
   rcases List.mem_append.1 hv with h | h
   ·exact b1 v h
   ·rw [List.mem_singleton.1 h];exact b2
 ·intro c;unfold zb5;exact no b1 b2 (by show ¬((0:Int)=3∨(0:Int)=37);decide)
 ·intro c;unfold YQ
  split
  ·split
   ·exact no b1 b2 (by show ¬((0:Int)=3∨(0:Int)=37);decide)
   ·exact no b1 b2 (by show ¬((0:Int)=3∨(0:Int)=37);decide)
  ·exact no b1 b2 (by show ¬((31:Int)=3∨(31:Int)=37);decide)
 ·intro c;unfold Uc;dsimp only
  split
  ·exact no b1 b2 (by show ¬((32:Int)=3∨(32:Int)=37);decide)
  ·exact no b1 b2 (by show ¬((0:Int)=3∨(0:Int)=37);decide)
 ·intro c;unfold Uq;dsimp only
  split
  ·exact no b1 b2 (by show ¬((33:Int)=3∨(33:Int)=37);decide)
  split
  ·exact no b1 b2 (by show ¬((0:Int)=3∨(0:Int)=37);decide)
  ·exact no b1 b2 (by show ¬(x.PC=3∨x.PC=37);omega)
 ·intro c;unfold zcN;exact no b1 b2 (by show ¬((34:Int)=3∨(34:Int)=37);decide)
 ·intro c;unfold Up;dsimp only
  split
  ·exact no b1 b2 (by show ¬((35:Int)=3∨(35:Int)=37);decide)
  ·exact no b1 b2 (by show ¬(x.PC=3∨x.PC=37);omega)
 ·intro c;unfold Ui;dsimp only
  split
  ·exact no b1 b2 (by show ¬((0:Int)=3∨(0:Int)=37);decide)
  ·exact no b1 b2 (by show ¬((36:Int)=3∨(36:Int)=37);decide)
 ·intro c;unfold zaB;dsimp only
  split
  ·exact no b1 b2 (by have:=ZX s (wc (x.Slot+1));show ¬(onM s (wc (x.Slot+1))=3∨onM s (wc (x.Slot+1))=37);omega)
  ·exact ⟨b1,b2,fun _=>zvD h0 hv _ _⟩
 ·intro c;unfold XU;dsimp only
  split
  ·exact no b1 b2 (by have:=ZX s x.Slot;show ¬(onM s x.Slot=3∨onM s x.Slot=37);omega)
  ·exact ⟨b1,b2,fun _=>by show (zo s x.G).2.Obj≤n;rw [(Vw s x.G).1];exact b3 (.inr c)⟩
 ·intro c;unfold zel;exact no b1 b2 (by show ¬((39:Int)=3∨(39:Int)=37);decide)
 ·intro c;unfold ze8;exact no b1 b2 (by show ¬((35:Int)=3∨(35:Int)=37);decide)
 ·exact ⟨b1,b2,b3⟩
theorem zo9: ∀(l:List Int) (i:Nat) (v:Int),i<l.length→(l.set i v).sum=l.sum-l.getD i 0+v
 | [],i,v,h=>by simp at h
 | a::l,0,v,h=>by simp only [List.set_cons_zero,List.sum_cons,List.getD_cons_zero];omega
 | a::l,i+1,v,h=>by
  simp only [List.set_cons_succ,List.sum_cons,List.getD_cons_succ,zo9 l i v (by simpa using h)];omega
structure LdI (p:zb) (k d:Int) (l:zn):Prop where
 pool:l.Pool=0
 sc:0≤l.Scanned∧l.Scanned≤k
 sp:l.Spent=p.Price*d
 bal: ∀b∈l.Bal,-p.Limit≤b∧b≤k
 sum:l.Bal.sum=l.Scanned-l.Spent
theorem LdI.more {p:zb} {k d:Int} {l:zn} (I:LdI p k d l):LdI p (k+1) d l :=
 ⟨I.pool,by have:=I.sc;omega,I.sp,fun b hb=>by have:=I.bal b hb;omega,I.sum⟩
theorem zy3 {l:List Int} {i:Nat} (h:i<l.length):l.getD i 0∈l:=by
 rw [List.getD_eq_getElem?_getD,List.getElem?_eq_getElem h];exact List.getElem_mem h
theorem LdI.take {p:zb} {k d:Int} {l:zn} (I:LdI p k d l) (m w:Int):(zcB l m w).1=l:=by
 unfold zcB zlv
 rw [if_neg]
 rintro ⟨_,h⟩
 rw [I.pool] at h
 split at h<;>omega
theorem LdI.earn {p:zb} (hp:zA p) {k d:Int} (hk:0≤k∧k≤1000) {l:zn} (I:LdI p k d l) {m:Int} (hm:1≤m∧m≤(l.Bal.length:Int)):LdI p (k+1) d (zcD l m):=by
 have hsc:=I.sc
 have hl:=hp.limit
 have hb:=I.bal _ (zy3 (l:=l.Bal) (i:=(m-1).toNat) (by omega))
 unfold zcD
 rw [if_pos hm]
 have w1:wc (l.Scanned+1)=l.Scanned+1:=xg (by omega) (by omega)
 have w2:wc (l.Bal.getD (m-1).toNat 0+1)=l.Bal.getD (m-1).toNat 0+1:=xg (by omega) (by omega)
 rw [w1,w2]
 refine ⟨I.pool,by dsimp only;omega,I.sp,fun b hb'=> ?_,?_⟩
 ·rcases List.mem_or_eq_of_mem_set hb' with h | rfl
  ·have:=I.bal b h;omega
  ·omega
 ·dsimp only
  rw [zo9 _ _ _ (by omega),I.sum];omega
theorem zzM {a d:Int} (h:0≤a∧a≤3):a*(d+1)=a*d+a:=by rw [Int.mul_add,Int.mul_one]
theorem zAA {a d:Int} (h:0≤a∧a≤3) (hd:0≤d∧d≤10):0≤a*d∧a*d≤30:=by
 refine ⟨Int.mul_nonneg h.1 hd.1,?_⟩
 have:=Int.mul_le_mul h.2 hd.2 hd.1 (by decide:(0:Int)≤3)
 omega
theorem LdI.spend {p:zb} (hp:zA p) {k d:Int} (hk:0≤k∧k≤1000) (hd:0≤d∧d≤9) {l:zn} (I:LdI p k d l) {m:Int} (h:zfA l m p.Price p.Limit=true):LdI p (k+1) (d+1) (zcc l m p.Price):=by
 have hsc:=I.sc
 have hl:=hp.limit
 have hpr:=hp.price
 have hsp:=zAA hpr (d:=d) (by omega)
 have e1:=I.sp
 unfold zfA zap zal at h
 simp only [Bool.and_eq_true,decide_eq_true_eq] at h
 obtain ⟨⟨⟨⟨⟨⟨m1,m2⟩,_⟩,_⟩,_⟩,_⟩,h⟩:=h
 have hb:=I.bal _ (zy3 (l:=l.Bal) (i:=(m-1).toNat) (by omega))
 unfold zbm at h
 rw [xg (by omega) (by omega),xg (by omega) (by omega)] at h
 unfold zcc zbm
 rw [xg (by omega) (by omega),xg (by omega) (by omega)]
 refine ⟨I.pool,by dsimp only;omega,?_,fun b hb'=> ?_,?_⟩
 ·dsimp only;rw [zzM hpr];omega
 ·rcases List.mem_or_eq_of_mem_set hb' with h2 | rfl
  ·have:=I.bal b h2;omega
  ·omega
 ·dsimp only
  rw [zo9 _ _ _ (by omega),I.sum];omega
structure NwI (p:zb) (k:Int) (s:za):Prop where
 mrk: ∀o,zK s.T.Marks o=true→o≤(s.H.Objs.length:Int)
 bm: ∀o,zK s.T.Black o=true→zK s.T.Marks o=true
 bk: ∀o,(p.H.Objs.length:Int)<o→o≤(s.H.Objs.length:Int)→yD s.T o=2
 buf: ∀x∈s.Ms,zbn (s.H.Objs.length:Int) x
 bl:s.L.Bal.length=s.Ms.length
 L:LdI p k ((s.H.Objs.length:Int)-(p.H.Objs.length:Int)) s.L
theorem zAg (l:zn) (m:Int):(zcD l m).Bal.length=l.Bal.length:=by unfold zcD;split<;>simp
theorem NwI.step {p:zb} {nb:Nat} (hp:zA p) {k:Int} (hk:0≤k∧k≤1000) {s:za} (E:EOk p nb s) (I:NwI p k s) (m:Int):NwI p (k+1) (zu s m):=by
 have hN:=E.H.n
 have hM:=hp.most
 have hn6:=hp.n
 unfold zu
 split
 ·exact ⟨I.mrk,I.bm,I.bk,I.buf,I.bl,I.L.more⟩
 rename_i hne
 cases hx:s.Ms[(m-1).toNat]? with
 | none=>exact ⟨I.mrk,I.bm,I.bk,I.buf,I.bl,I.L.more⟩
 | some x =>
  have hm:1≤m∧m≤(s.Ms.length:Int):=by omega
  have X:=E.X _ x hx
  have B:=I.buf x (List.mem_of_getElem? hx)
  have em:(((m-1).toNat:Nat):Int)+1=m:=by omega
  rw [em] at X
  have B':=zuc (s:=s) X (n:=(s.H.Objs.length:Int)) (by omega) (fun l hl v hv=>((E.H.objs l hl).2 v hv).2) B
  have bufs: ∀N':Int,(s.H.Objs.length:Int)≤N'→∀y∈s.Ms.set (m-1).toNat (zi s m x).2,zbn N' y:=fun N' hN' y hy=>by
   have up: ∀ {z:zc},zbn (s.H.Objs.length:Int) z→zbn N' z:=fun ⟨a,b,c⟩=>⟨fun v hv=>by have:=a v hv;omega,by omega,fun e=>by have:=c e;omega⟩
   rcases List.mem_or_eq_of_mem_set hy with h | rfl
   ·exact up (I.buf y h)
   ·exact up B'
  have hL:=I.L
  rcases zqx s m x with ⟨k1,k2,k3⟩ | ⟨k1,k2,k3,k4,k5⟩
  ·refine ⟨fun o ho=> ?_,fun o ho=> ?_,fun o h1 h2=> ?_,?_,?_,?_⟩
   ·dsimp only at ho ⊢
    rw [k1]
    rcases k2 with e | ⟨e,hpc⟩ | e
    ·rw [e] at ho;exact I.mrk o ho
    ·rw [e] at ho
     rcases (zgB s.T x.G.Obj).2 with e2 | e2
     ·rw [e2] at ho;exact I.mrk o ho
     ·rw [e2] at ho
      rcases Yk ho with h | rfl
      ·exact I.mrk o h
      ·exact B.2.2 hpc
    ·rw [e,(zfG s.T x.Obj).1] at ho;exact I.mrk o ho
   ·dsimp only at ho ⊢
    rcases k2 with e | ⟨e,hpc⟩ | e
    ·rw [e] at ho ⊢;exact I.bm o ho
    ·rw [e] at ho ⊢
     rw [(zgB s.T x.G.Obj).1] at ho
     have:=I.bm o ho
     rcases (zgB s.T x.G.Obj).2 with e2 | e2
     ·rw [e2];exact this
     ·rw [e2];exact (v8 _ _ _).2 (.inl this)
    ·rw [e] at ho ⊢
     rw [(zfG s.T x.Obj).1]
     rcases (zfG s.T x.Obj).2 with e2 | ⟨e2,h3⟩
     ·rw [e2] at ho;exact I.bm o ho
     ·rw [e2] at ho
      rcases Yk ho with h | rfl
      ·exact I.bm o h
      ·exact h3
   ·dsimp only at h2 ⊢
    rw [k1] at h2
    have h:=(zuQ _ _).1 (I.bk o h1 h2)
    rw [zuQ]
    rcases k2 with e | ⟨e,hpc⟩ | e
    ·rw [e];exact h
    ·rw [e,(zgB s.T x.G.Obj).1]
     refine ⟨?_,h.2⟩
     rcases (zgB s.T x.G.Obj).2 with e2 | e2
     ·rw [e2];exact h.1
     ·rw [e2];exact (v8 _ _ _).2 (.inl h.1)
    ·rw [e,(zfG s.T x.Obj).1]
     refine ⟨h.1,?_⟩
     rcases (zfG s.T x.Obj).2 with e2 | ⟨e2,_⟩
     ·rw [e2];exact h.2
     ·rw [e2];exact (v8 _ _ _).2 (.inl h.2)
   ·dsimp only;rw [k1];exact bufs _ (Int.le_refl _)
   ·dsimp only
    rw [List.length_set]
    rcases k3 with e | ⟨w,e⟩ | e
    ·rw [e];exact I.bl
    ·rw [e,hL.take];exact I.bl
    ·rw [e,zAg];exact I.bl
   ·dsimp only
    rw [k1]
    rcases k3 with e | ⟨w,e⟩ | e
    ·rw [e];exact hL.more
    ·rw [e,hL.take];exact hL.more
    ·rw [e];exact hL.earn hp hk (by have:=I.bl;omega)
  ·have w:wc ((s.H.Objs.length:Int)+1)=(s.H.Objs.length:Int)+1:=xg (by omega) (by omega)
   have hal:=zc3 s.H
   have hP:=E.S.P
   have hr:(s.H.Objs.length:Int)<s.P.Most:=by
    unfold YU at k5
    simp only [Bool.and_eq_true,decide_eq_true_eq] at k5
    exact k5.1
   rw [hP] at hr k3 k4
   rw [w] at k2
   have nm: ¬zK s.T.Marks ((s.H.Objs.length:Int)+1)=true:=fun e=>by have:=I.mrk _ e;omega
   have nb': ¬zK s.T.Black ((s.H.Objs.length:Int)+1)=true:=fun e=>nm (I.bm _ e)
   have hsh:=ztP (t:=s.T) (o:=(s.H.Objs.length:Int)+1) (by omega) nm nb'
   have ht1:yD {s.T with Marks:=s.T.Marks|||bit ((s.H.Objs.length:Int)+1)} ((s.H.Objs.length:Int)+1)=1 :=
    (uV _ _).2 ⟨(wp _ (by omega) _).2 (.inr rfl),nb'⟩
   have hT:(zi s m x).1.T=⟨s.T.Marks|||bit ((s.H.Objs.length:Int)+1),s.T.Black|||bit ((s.H.Objs.length:Int)+1)⟩:=by
    rw [k2]
    unfold YL
    rw [hsh]
    dsimp only
    rw [if_pos rfl]
    unfold wz
    rw [if_pos ht1]
   refine ⟨fun o ho=> ?_,fun o ho=> ?_,fun o h1 h2=> ?_,?_,?_,?_⟩
   ·dsimp only at ho ⊢
    rw [k1,hal]
    rw [hT] at ho
    rcases Yk ho with h | rfl
    ·have:=I.mrk o h;omega
    ·omega
   ·dsimp only at ho ⊢
    rw [hT] at ho ⊢
    dsimp only at ho ⊢
    rw [v8]
    rcases (v8 _ _ _).1 ho with h | h
    ·exact .inl (I.bm o h)
    ·exact .inr h
   ·dsimp only at h2 ⊢
    rw [k1,hal] at h2
    rw [zuQ,hT]
    dsimp only
    by_cases ho:o≤(s.H.Objs.length:Int)
    ·have h:=(zuQ _ _).1 (I.bk o h1 ho)
     exact ⟨(v8 _ _ _).2 (.inl h.1),(v8 _ _ _).2 (.inl h.2)⟩
    ·have:o=(s.H.Objs.length:Int)+1:=by omega
     subst this
     exact ⟨(wp _ (by omega) _).2 (.inr rfl),(wp _ (by omega) _).2 (.inr rfl)⟩
   ·dsimp only;rw [k1,hal];exact bufs _ (by omega)
   ·dsimp only
    rw [List.length_set,k3]
    unfold zcc
    rw [List.length_set]
    exact I.bl
   ·dsimp only
    rw [k3,k1,hal]
    have:=hL.spend hp hk (by omega) k4
    have e:((s.H.Objs.length+1:Nat):Int)-(p.H.Objs.length:Int)=(s.H.Objs.length:Int)-(p.H.Objs.length:Int)+1:=by omega
    rw [e]
    exact this
end
end Go.Pe.G
namespace Go.Pe.G
open Go.Pe
noncomputable section
theorem zCw {s:BitVec 64} (h: ∀o,zK s o=true→o≤9): ∃t:Fin 512,s=BitVec.ofNat 64 t.1:=by
 have h2:s=s&&&511#64:=by
  apply BitVec.eq_of_getLsbD_eq
  intro j hj
  rw [BitVec.getLsbD_and]
  have h63:(511#64).getLsbD j=decide (j<9):=by
   have: ∀j:Fin 64,(511#64).getLsbD j.1=decide (j.1<9):=by decide
   exact this ⟨j,hj⟩
  rw [h63]
  cases hs:s.getLsbD j with
  | false=>rfl
  | true =>
   have:=h ((j:Int)+1) ((wm _ _).2 ⟨by omega,by omega,by rw [show ((j:Int)+1-1).toNat=j by omega];exact hs⟩)
   rw [decide_eq_true (by omega:j<9)];rfl
 have h3:s.toNat<512:=by
  rw [h2,BitVec.toNat_and]
  exact Nat.lt_of_le_of_lt Nat.and_le_right (by decide)
 exact ⟨⟨s.toNat,h3⟩,by rw [BitVec.ofNat_toNat,BitVec.setWidth_eq]⟩
theorem zql (s:BitVec 64) {q:Int} (h:1≤q∧q≤64):zK (~~~s) q=true↔¬zK s q=true:=by
 rw [wm,wm,BitVec.getLsbD_not]
 simp only [show (q-1).toNat<64 by omega,decide_true,Bool.true_and,Bool.not_eq_true']
 constructor
 ·rintro ⟨_,_,e⟩ ⟨_,_,e2⟩;rw [e] at e2;cases e2
 ·intro e
  refine ⟨h.1,h.2,?_⟩
  cases hs:s.getLsbD (q-1).toNat with
  | false=>rfl
  | true=>exact absurd ⟨h.1,h.2,hs⟩ e
end
end Go.Pe.G
namespace Go.Pe.G
open Go.Pe
noncomputable section
def uQ (p:zb) (s:za) (g:Gh):List Int:=yA p s g++(s.Ws.flatMap (zQ s)++s.Ms.flatMap (z5 s))
structure FG (p:zb) (nb k:Nat) (s:za) (gh:Gh):Prop where
 E:EOk p nb s
 X:SX p nb s gh (s.Ws.flatMap wv++s.Ms.flatMap uq) k
 W: ∀(i:Nat) x,s.Ws[i]? =some x→WX p s gh ((i:Int)+1) x
 M: ∀(i:Nat) x,s.Ms[i]? =some x→MX p s gh x
 B:zaY (uQ p s gh) s.T
 mrk: ∀o,zK s.T.Marks o=true→o≤(s.H.Objs.length:Int)
 wob: ∀(i:Nat) x,s.Ws[i]? =some x→x.PC=6→x.G.Obj≤(s.H.Objs.length:Int)
 buf: ∀x∈s.Ms,zbn (s.H.Objs.length:Int) x
 bk: ∀o,(p.H.Objs.length:Int)<o→o≤(s.H.Objs.length:Int)→zK s.T.Black o=true
theorem MX.state {p:zb} {s s':za} {gh:Gh} {x:zc} (W:MX p s gh x) (hm:s'.M=s.M) (hb:s'.Bins=s.Bins):MX p s' gh x :=
 ⟨W.bt,W.bf,W.ol,fun e=>⟨(W.p3 e).1.state hm hb,(W.p3 e).2⟩,by rw [hm];exact W.p32,by rw [hm];exact W.p34,fun e=>⟨(W.p37 e).1.state hm hb,(W.p37 e).2⟩⟩
theorem zfI {s s':za} {x:zc} (hb:s'.Bins=s.Bins):z5 s' x=z5 s x:=by
 unfold z5 zc1 vQ;rw [hb]
def U2 (s s':za):Prop :=
 (s'.T=s.T∧s'.H.Objs.length=s.H.Objs.length) ∨
 (∃o,(1≤o∧o≤(s.H.Objs.length:Int))∧¬zK s.T.Marks o=true∧s'.T={s.T with Marks:=s.T.Marks|||bit o}∧s'.H=s.H) ∨
 (∃o,yD s.T o=1∧s'.T={s.T with Black:=s.T.Black|||bit o}∧s'.H=s.H) ∨
 (s'.H=xT s.H∧(s.H.Objs.length:Int)<9∧s'.T=⟨s.T.Marks|||bit ((s.H.Objs.length:Int)+1),s.T.Black|||bit ((s.H.Objs.length:Int)+1)⟩)
theorem FG.tints {p:zb} {nb k:Nat} {s:za} {gh:Gh} (G:FG p nb k s gh) {s':za} (F:U2 s s') :
  (∀o,zK s'.T.Marks o=true→o≤(s'.H.Objs.length:Int))∧(∀o,(p.H.Objs.length:Int)<o→o≤(s'.H.Objs.length:Int)→zK s'.T.Black o=true):=by
 rcases F with ⟨e,h⟩ | ⟨o,ho,hn,e,h⟩ | ⟨o,ho,e,h⟩ | ⟨h,hl,e⟩
 ·rw [e,h];exact ⟨G.mrk,G.bk⟩
 ·rw [e,h]
  refine ⟨fun q hq=> ?_,G.bk⟩
  rcases Yk hq with hq | rfl
  ·exact G.mrk q hq
  ·exact ho.2
 ·rw [e,h]
  exact ⟨G.mrk,fun q h1 h2=>(v8 _ _ _).2 (.inl (G.bk q h1 h2))⟩
 ·rw [e,h]
  have hal:=zc3 s.H
  refine ⟨fun q hq=> ?_,fun q h1 h2=> ?_⟩
  ·rcases Yk hq with hq | rfl
   ·have:=G.mrk q hq;omega
   ·omega
  ·dsimp only
   by_cases hq:q≤(s.H.Objs.length:Int)
   ·exact (v8 _ _ _).2 (.inl (G.bk q h1 hq))
   ·have:q=(s.H.Objs.length:Int)+1:=by omega
    subst this
    exact (wp _ (by omega) _).2 (.inr rfl)
theorem FG.det {p:zb} (hp:zA p) {nb k:Nat} {s:za} {gh:Gh} (G:FG p nb k s gh) (hd:({zG s with Epoch:=s.Epoch,Flag:=s.Flag,Done:=s.Done,Restarts:=s.Restarts,D:=s.D}:za)=s):FG p nb (k+1) (zG s) gh:=by
 have hE:=zx2 hp G.E
 have eM:(zG s).M=s.M:=by conv=>rhs;rw [←hd]
 have eB:(zG s).Bins=s.Bins:=by conv=>rhs;rw [←hd]
 have eT:(zG s).T=s.T:=by conv=>rhs;rw [←hd]
 have eH:(zG s).H=s.H:=by conv=>rhs;rw [←hd]
 have eW:(zG s).Ws=s.Ws:=by conv=>rhs;rw [←hd]
 have eX:(zG s).Ms=s.Ms:=by conv=>rhs;rw [←hd]
 refine ⟨hE,?_,?_,?_,?_,by rw [eT,eH];exact G.mrk,by rw [eW,eH];exact G.wob,by rw [eX,eH];exact G.buf,by rw [eT,eH];exact G.bk⟩
 ·rw [eW,eX];exact G.X.quiet hE.S eM
 ·rw [eW];exact fun i x hx=>(G.W i x hx).state eM eB
 ·rw [eX];exact fun i x hx=>(G.M i x hx).state eM eB
 ·have e:uQ p (zG s) gh=uQ p s gh:=by
   unfold uQ
   rw [eW,eX,uW eB,xL (fun x _=>zcz (x:=x) eM eB),xL (fun x _=>zfI (x:=x) eB)]
  rw [e,eT];exact G.B
theorem FG.worker {p:zb} (hp:zA p) {nb k:Nat} {s:za} {gh:Gh} (hk:k<4294960000) (G:FG p nb k s gh) {w:Int} (hw:1≤w∧w≤p.Workers) (hd:s.Done=false): ∃gh',FG p nb (k+1) (zF s w) gh'∧U2 s (zF s w) ∧
  ∃x,s.Ws[(w-1).toNat]? =some x∧∃N C,List.Perm (uQ p (zF s w) gh'++C) (N++uQ p s gh)∧((N=[]∧C=[]∧(zj s w x).1.T=s.T)∨(N=[x.G.Obj]∧C=[]∧x.PC=6∧¬(s.T.Marks|||bit x.G.Obj=s.T.Marks)∧(zj s w x).1.T={s.T with Marks:=s.T.Marks|||bit x.G.Obj})∨(N=[]∧C=[x.Obj]∧x.PC=8∧(zj s w x).1.T=wz s.T x.Obj)):=by
 have hE:=zv9 hp G.E w
 have hwl:=G.E.wl
 have e0: ¬(s.Done=true∨w<1∨(s.Ws.length:Int)<w):=by rw [hd];rintro (e | e | e)<;>first | cases e | omega
 revert hE
 unfold zF
 rw [if_neg e0]
 have hi:(w-1).toNat<s.Ws.length:=by omega
 have hx:=List.getElem?_eq_getElem hi
 generalize s.Ws[(w-1).toNat]=x at hx
 rw [hx]
 dsimp only
 intro hE
 obtain ⟨a,b,el,es,hab,hba⟩:=zqH hx
 have ei:(((w-1).toNat:Nat):Int)+1=w:=by omega
 have hWX:=G.W _ x hx
 have hWO:=G.E.W _ x hx
 rw [ei] at hWX hWO
 have hfr:=zd6 (s:=s) hWO
 have eH:(zj s w x).1.H=s.H:=by rw [hfr]
 have eMs:(zj s w x).1.Ms=s.Ms:=by rw [hfr]
 have X0:SX p nb s gh (wv x++((a++b).flatMap wv++s.Ms.flatMap uq)) k:=by
  refine G.X.perm ?_
  rw [←List.append_assoc]
  refine List.Perm.append_right _ ?_
  conv=>rhs;rw [el]
  exact Zd.symm
 obtain ⟨gh',X',W',Fx,N,C,hN,hT⟩:=zBh hp hk hw X0 hWO hWX (fun o i=>G.E.H.get hp o i)
 have hoth: ∀(j:Nat) y,j≠(w-1).toNat→s.Ws[j]? =some y→WX p (zj s w x).1 gh' ((j:Int)+1) y∧zQ (zj s w x).1 y=zQ s y:=by
  intro j y hj hy
  have hjl:=(List.getElem?_eq_some_iff.1 hy).1
  exact WX.other hp (w:=(j:Int)+1) (by omega) X0 Fx (G.W j y hy) (G.E.W j y hy) (fun z hz=>List.mem_append_left _ (List.mem_flatMap.2 ⟨y,hba j y hj hy,hz⟩)) (fun e=>hj (by omega))
 have hmut: ∀(j:Nat) y,s.Ms[j]? =some y→MX p (zj s w x).1 gh' y∧z5 (zj s w x).1 y=z5 s y:=by
  intro j y hy
  exact MX.other hp X0 Fx (G.M j y hy) (G.E.X j y hy) (fun z hz=>List.mem_append_right _ (List.mem_flatMap.2 ⟨y,List.mem_of_getElem? hy,hz⟩))
 have hbag:List.Perm (uQ p {(zj s w x).1 with Ws:=s.Ws.set (w-1).toNat (zj s w x).2} gh'++C) (N++uQ p s gh):=by
  unfold uQ
  have q2:(s.Ws.set (w-1).toNat (zj s w x).2).flatMap (zQ {(zj s w x).1 with Ws:=s.Ws.set (w-1).toNat (zj s w x).2})=(a++(zj s w x).2::b).flatMap (zQ (zj s w x).1):=by
   rw [es];exact xL (fun y _=>zcz rfl rfl)
  have q3:(a++b).flatMap (zQ (zj s w x).1)=(a++b).flatMap (zQ s):=xL (fun y hy=>by
   obtain ⟨j,hj,hjy⟩:=hab y hy
   exact (hoth j y hj hjy).2)
  have q4:(zj s w x).1.Ms.flatMap (z5 {(zj s w x).1 with Ws:=s.Ws.set (w-1).toNat (zj s w x).2})=s.Ms.flatMap (z5 s):=by
   rw [eMs]
   refine xL (fun y hy=> ?_)
   obtain ⟨j,hj⟩:=List.mem_iff_getElem?.1 hy
   exact (zfI (s:=(zj s w x).1) rfl).trans (hmut j y hj).2
  show List.Perm (yA p (zj s w x).1 gh'++((s.Ws.set (w-1).toNat (zj s w x).2).flatMap (zQ {(zj s w x).1 with Ws:=s.Ws.set (w-1).toNat (zj s w x).2})++(zj s w x).1.Ms.flatMap (z5 {(zj s w x).1 with Ws:=s.Ws.set (w-1).toNat (zj s w x).2}))++C) _
  rw [q2,q4]
  have r1:List.Perm (yA p (zj s w x).1 gh'++((a++(zj s w x).2::b).flatMap (zQ (zj s w x).1)++s.Ms.flatMap (z5 s))++C) (((a++b).flatMap (zQ s)++s.Ms.flatMap (z5 s))++(yA p (zj s w x).1 gh'++zQ (zj s w x).1 (zj s w x).2++C)):=by
   refine ((List.Perm.append_left _ (List.Perm.append_right _ Zd)).append_right C).trans ?_
   rw [q3]
   generalize (a++b).flatMap (zQ s)=u
   generalize s.Ms.flatMap (z5 s)=v
   generalize yA p (zj s w x).1 gh'=y
   generalize zQ (zj s w x).1 (zj s w x).2=z
   have:List.Perm (y++(z++(u++v))++C) ((u++v)++(y++z++C)):=by
    generalize u++v=q
    rw [List.append_assoc,List.append_assoc,List.append_assoc]
    refine (List.Perm.append_left _ (List.perm_append_comm_assoc _ _ _)).trans ?_
    exact (List.perm_append_comm_assoc _ _ _)
   rw [List.append_assoc z u v]
   exact this
  have r2:List.Perm (N++(yA p s gh++(s.Ws.flatMap (zQ s)++s.Ms.flatMap (z5 s)))) (((a++b).flatMap (zQ s)++s.Ms.flatMap (z5 s))++(N++(yA p s gh++zQ s x))):=by
   conv=>lhs;rw [el]
   refine (List.Perm.append_left _ (List.Perm.append_left _ (List.Perm.append_right _ Zd))).trans ?_
   generalize (a++b).flatMap (zQ s)=u
   generalize s.Ms.flatMap (z5 s)=v
   generalize yA p s gh=y
   generalize zQ s x=z
   rw [List.append_assoc z u v]
   generalize u++v=q
   refine (List.Perm.append_left _ ?_).trans (List.perm_append_comm_assoc _ _ _)
   rw [←List.append_assoc]
   exact List.perm_append_comm
  exact r1.trans ((List.Perm.append_left _ hN).trans r2.symm)
 have hFM:U2 s {(zj s w x).1 with Ws:=s.Ws.set (w-1).toNat (zj s w x).2}∧zaY (uQ p {(zj s w x).1 with Ws:=s.Ws.set (w-1).toNat (zj s w x).2} gh') (zj s w x).1.T:=by
  rcases hT with ⟨e1,e2,t1⟩ | ⟨e1,e2,t1,t2,t3⟩ | ⟨e1,e2,t1,t2⟩
  ·rw [e1,e2,List.append_nil,List.nil_append] at hbag
   refine ⟨.inl ⟨t1,congrArg (fun h:zr=>h.Objs.length) eH⟩,⟨?_,hbag.nodup_iff.2 G.B.nd,fun o=> ?_⟩⟩
   ·rw [t1];exact G.B.blk
   ·rw [t1,hbag.mem_iff];exact G.B.gr o
  ·have ho:=((hWX.p6 t1).1).ob
   rw [e1,e2,List.append_nil] at hbag
   refine ⟨.inr (.inl ⟨x.G.Obj,⟨ho.1,G.wob _ x hx t1⟩,(zbD ho).1 t2,t3,eH⟩),?_⟩
   rw [t3]
   exact G.B.more ho t2 hbag
  ·rw [e1,e2,List.nil_append] at hbag
   obtain ⟨b1,b2,b3,b4⟩:=G.B.less hbag
   refine ⟨.inr (.inr (.inl ⟨x.Obj,b3,?_,eH⟩)),by rw [t2];exact b1⟩
   show (zj s w x).1.T=_
   rw [t2];unfold wz;rw [if_pos b3]
 obtain ⟨hFM,hB⟩:=hFM
 obtain ⟨t1,t2⟩:=G.tints hFM
 refine ⟨gh',⟨hE,?_,fun j y hy=> ?_,fun j y hy=> ?_,hB,t1,fun j y hy h6=> ?_,fun y hy=> ?_,t2⟩,hFM,x,rfl,N,C,hbag,hT⟩
 ·refine (X'.state hE.S rfl).perm ?_
  show List.Perm ((s.Ws.set (w-1).toNat (zj s w x).2).flatMap wv++(zj s w x).1.Ms.flatMap uq) _
  rw [es,eMs,←List.append_assoc]
  exact List.Perm.append_right _ Zd
 ·have hy:(s.Ws.set (w-1).toNat (zj s w x).2)[j]? =some y:=hy
  by_cases hj:j=(w-1).toNat
  ·subst hj
   rw [List.getElem?_set_self hi] at hy
   injection hy with hy
   rw [←hy,ei]
   exact W'.state rfl rfl
  ·rw [List.getElem?_set_ne (fun e=>hj e.symm)] at hy
   exact (hoth j y hj hy).1.state rfl rfl
 ·have hy:(zj s w x).1.Ms[j]? =some y:=hy
  rw [eMs] at hy
  exact (hmut j y hy).1.state rfl rfl
 ·have hy:(s.Ws.set (w-1).toNat (zj s w x).2)[j]? =some y:=hy
  show y.G.Obj≤((zj s w x).1.H.Objs.length:Int)
  rw [eH]
  by_cases hj:j=(w-1).toNat
  ·subst hj
   rw [List.getElem?_set_self hi] at hy
   injection hy with hy
   rw [←hy] at h6 ⊢
   rcases zA6 s w x h6 with ⟨h,e⟩ | ⟨h,e⟩
   ·rw [e];exact G.wob _ x hx h
   ·rw [e];exact zvD (by omega) (fun l hl v hv=>((G.E.H.objs l hl).2 v hv).2) _ _
  ·rw [List.getElem?_set_ne (fun e=>hj e.symm)] at hy
   exact G.wob j y hy h6
 ·have hy:y∈(zj s w x).1.Ms:=hy
  show zbn ((zj s w x).1.H.Objs.length:Int) y
  rw [eMs] at hy
  rw [eH]
  exact G.buf y hy
theorem zq4 (s:za) (m:Int) (x:zc):(zi s m x).1.H=s.H∨x.PC=23∨x.PC=30:=by
 refine yI (motive:=fun r=>r.1.H=s.H∨x.PC=23∨x.PC=30) s m x ?_ ?_ ?_ ?_ ?_ ?_ ?_ ?_ ?_ ?_ ?_ ?_ ?_ ?_ ?_ ?_ ?_ ?_ ?_ ?_
 all_goals first
  | exact fun _=> .inl rfl
  | exact fun c=> .inr (.inl c)
  | exact fun c=> .inr (.inr c)
  | (intro c;unfold mu3;exact .inl (by dsimp only;rw [Xw]))
  | (intro c;unfold XU;exact .inl (by dsimp only;rw [Xw]))
  | exact .inl rfl
theorem zqS {t:zt} {n:Int} (hn:1≤n∧n≤64) (nm: ¬zK t.Marks n=true) (nb': ¬zK t.Black n=true):YL t n=⟨t.Marks|||bit n,t.Black|||bit n⟩:=by
 have ht1:yD {t with Marks:=t.Marks|||bit n} n=1:=(uV _ _).2 ⟨(wp _ hn _).2 (.inr rfl),nb'⟩
 unfold YL
 rw [ztP hn nm nb']
 dsimp only
 rw [if_pos rfl]
 unfold wz
 rw [if_pos ht1]
theorem zaY.fresh {B B':List Int} {t:zt} {n:Int} (hn:1≤n∧n≤64) (nm: ¬zK t.Marks n=true) (K:zaY B t) (h:List.Perm B' B):zaY B' ⟨t.Marks|||bit n,t.Black|||bit n⟩:=by
 refine ⟨fun o ho=> ?_,h.nodup_iff.2 K.nd,fun o=> ?_⟩
 ·rcases (wp _ hn o).1 ho with h | h
  ·exact (wp _ hn o).2 (.inl (K.blk o h))
  ·exact (wp _ hn o).2 (.inr h)
 ·rw [h.mem_iff,K.gr,uV,uV]
  dsimp only
  rw [wp _ hn,wp _ hn]
  constructor
  ·rintro ⟨a1,a2⟩
   refine ⟨.inl a1,fun e=>e.elim a2 (fun e=> ?_)⟩
   rw [e] at a1;exact nm a1
  ·rintro ⟨a1,a2⟩
   exact ⟨a1.resolve_right (fun e=>a2 (.inr e)),fun e=>a2 (.inl e)⟩
theorem FG.mut_tint {p:zb} (hp:zA p) {nb k:Nat} {s:za} {gh:Gh} (G:FG p nb k s gh) {m:Int} {x:zc} (hMX:MX p s gh x) (hBI:zbn (s.H.Objs.length:Int) x) {l:List zc} {N C B':List Int}
  (hbag:List.Perm (B'++C) (N++uQ p s gh))
  (hT:(N=[]∧C=[]∧(zi s m x).1.T=s.T)∨(N=[x.G.Obj]∧C=[]∧(x.PC=3∨x.PC=37)∧¬(s.T.Marks|||bit x.G.Obj=s.T.Marks)∧(zi s m x).1.T={s.T with Marks:=s.T.Marks|||bit x.G.Obj})∨(N=[]∧C=[x.Obj]∧x.PC=38∧(zi s m x).1.T=wz s.T x.Obj) ∨
   (N=[]∧C=[]∧x.PC=30∧YU s.H s.P.Most=true∧(zi s m x).1.H=xT s.H∧(zi s m x).1.T=YL s.T (wc (s.H.Objs.length+1)))) :
  U2 s {(zi s m x).1 with Ms:=l}∧zaY B' (zi s m x).1.T:=by
 have hN0:=G.E.H.n
 have hM0:=hp.most
 have hn6:=hp.n
 have nm: ¬zK s.T.Marks ((s.H.Objs.length:Int)+1)=true:=fun e=>by have:=G.mrk _ e;omega
 have nb': ¬zK s.T.Black ((s.H.Objs.length:Int)+1)=true:=fun e=>nm (G.B.blk _ e)
 have hw:wc ((s.H.Objs.length:Int)+1)=(s.H.Objs.length:Int)+1:=xg (by omega) (by omega)
 rcases hT with ⟨e1,e2,t1⟩ | ⟨e1,e2,t1,t2,t3⟩ | ⟨e1,e2,t1,t2⟩ | ⟨e1,e2,t1,t2,t3,t4⟩
 ·rw [e1,e2,List.append_nil,List.nil_append] at hbag
  refine ⟨.inl ⟨t1,?_⟩,⟨?_,hbag.nodup_iff.2 G.B.nd,fun o=> ?_⟩⟩
  ·show (zi s m x).1.H.Objs.length=_
   rcases zqx s m x with h | ⟨h1,h2,_,_,h5⟩
   ·exact h.1
   ·exfalso
    rw [t1,hw,zqS (by omega) nm nb'] at h2
    have h3:=congrArg zt.Marks h2
    exact nm (by rw [h3];exact (wp _ (by omega) _).2 (.inr rfl))
  ·rw [t1];exact G.B.blk
  ·rw [t1,hbag.mem_iff];exact G.B.gr o
 ·have ho:1≤x.G.Obj∧x.G.Obj≤64:=by
   rcases t1 with h | h
   ·exact (hMX.p3 h).1.ob
   ·exact (hMX.p37 h).1.ob
  rw [e1,e2,List.append_nil] at hbag
  have eH:(zi s m x).1.H=s.H:=by
   rcases zq4 s m x with h | h | h
   ·exact h
   ·omega
   ·omega
  refine ⟨.inr (.inl ⟨x.G.Obj,⟨ho.1,hBI.2.2 t1⟩,(zbD ho).1 t2,t3,eH⟩),?_⟩
  rw [t3]
  exact G.B.more ho t2 hbag
 ·rw [e1,e2,List.nil_append] at hbag
  obtain ⟨b1,b2,b3,b4⟩:=G.B.less hbag
  have eH:(zi s m x).1.H=s.H:=by
   rcases zq4 s m x with h | h | h
   ·exact h
   ·omega
   ·omega
  refine ⟨.inr (.inr (.inl ⟨x.Obj,b3,?_,eH⟩)),by rw [t2];exact b1⟩
  show (zi s m x).1.T=_
  rw [t2];unfold wz;rw [if_pos b3]
 ·rw [e1,e2,List.append_nil,List.nil_append] at hbag
  have hr:(s.H.Objs.length:Int)<s.P.Most:=by
   unfold YU at t2
   simp only [Bool.and_eq_true,decide_eq_true_eq] at t2
   exact t2.1
  rw [G.E.S.P] at hr
  have hTT:(zi s m x).1.T=⟨s.T.Marks|||bit ((s.H.Objs.length:Int)+1),s.T.Black|||bit ((s.H.Objs.length:Int)+1)⟩:=by
   rw [t4,hw,zqS (by omega) nm nb']
  refine ⟨.inr (.inr (.inr ⟨t3,by omega,hTT⟩)),?_⟩
  rw [hTT]
  exact G.B.fresh (by omega) nm hbag
theorem FG.mutator {p:zb} (hp:zA p) {nb k:Nat} {s:za} {gh:Gh} (hk:k<4294960000) (G:FG p nb k s gh) {m:Int} (hm:1≤m∧m≤p.Mutators) (hd:s.Done=false): ∃gh',FG p nb (k+1) (zu s m) gh'∧U2 s (zu s m) ∧
  ∃x,s.Ms[(m-1).toNat]? =some x∧∃N C,List.Perm (uQ p (zu s m) gh'++C) (N++uQ p s gh)∧((N=[]∧C=[]∧(zi s m x).1.T=s.T)∨(N=[x.G.Obj]∧C=[]∧(x.PC=3∨x.PC=37)∧¬(s.T.Marks|||bit x.G.Obj=s.T.Marks)∧(zi s m x).1.T={s.T with Marks:=s.T.Marks|||bit x.G.Obj})∨(N=[]∧C=[x.Obj]∧x.PC=38∧(zi s m x).1.T=wz s.T x.Obj) ∨
   (N=[]∧C=[]∧x.PC=30∧YU s.H s.P.Most=true∧(zi s m x).1.H=xT s.H∧(zi s m x).1.T=YL s.T (wc (s.H.Objs.length+1)))):=by
 have hE:=zkP hp G.E m
 have hml:=G.E.ml
 have hwl:=G.E.wl
 have hN0:=G.E.H.n
 have hM0:=hp.most
 have hn6:=hp.n
 have e0: ¬(s.Done=true∨m<1∨(s.Ms.length:Int)<m):=by rw [hd];rintro (e | e | e)<;>first | cases e | omega
 revert hE
 unfold zu
 rw [if_neg e0]
 have hi:(m-1).toNat<s.Ms.length:=by omega
 have hx:=List.getElem?_eq_getElem hi
 generalize s.Ms[(m-1).toNat]=x at hx
 rw [hx]
 dsimp only
 intro hE
 obtain ⟨a,b,el,es,hab,hba⟩:=zqH hx
 have ei:(((m-1).toNat:Nat):Int)+1=m:=by omega
 have hMX:=G.M _ x hx
 have hXO:=G.E.X _ x hx
 rw [ei] at hXO
 have hBI:=G.buf x (List.mem_of_getElem? hx)
 have hfr:=zdn s m x
 have eWs:(zi s m x).1.Ws=s.Ws:=by rw [hfr]
 have X0:SX p nb s gh (uq x++((a++b).flatMap uq++s.Ws.flatMap wv)) k:=by
  refine G.X.perm ?_
  rw [←List.append_assoc]
  refine List.Perm.trans (List.Perm.append_right _ ?_) List.perm_append_comm
  conv=>rhs;rw [el]
  exact Zd.symm
 obtain ⟨gh',X',M',Fx,N,C,hN,hT⟩:=zCO hp hk X0 hXO hMX (zri hp m) (fun o i=>G.E.H.get hp o i)
 have hoth: ∀(j:Nat) y,j≠(m-1).toNat→s.Ms[j]? =some y→MX p (zi s m x).1 gh' y∧z5 (zi s m x).1 y=z5 s y:=by
  intro j y hj hy
  exact MX.other hp X0 Fx (G.M j y hy) (G.E.X j y hy) (fun z hz=>List.mem_append_left _ (List.mem_flatMap.2 ⟨y,hba j y hj hy,hz⟩))
 have hwrk: ∀(j:Nat) y,s.Ws[j]? =some y→WX p (zi s m x).1 gh' ((j:Int)+1) y∧zQ (zi s m x).1 y=zQ s y:=by
  intro j y hy
  have hjl:=(List.getElem?_eq_some_iff.1 hy).1
  exact WX.other hp (w:=(j:Int)+1) (by omega) X0 Fx (G.W j y hy) (G.E.W j y hy) (fun z hz=>List.mem_append_right _ (List.mem_flatMap.2 ⟨y,List.mem_of_getElem? hy,hz⟩)) (fun e=>e)
 have hbag:List.Perm (uQ p {(zi s m x).1 with Ms:=s.Ms.set (m-1).toNat (zi s m x).2} gh'++C) (N++uQ p s gh):=by
  unfold uQ
  have q2:(s.Ms.set (m-1).toNat (zi s m x).2).flatMap (z5 {(zi s m x).1 with Ms:=s.Ms.set (m-1).toNat (zi s m x).2})=(a++(zi s m x).2::b).flatMap (z5 (zi s m x).1):=by
   rw [es];exact xL (fun y _=>zfI rfl)
  have q3:(a++b).flatMap (z5 (zi s m x).1)=(a++b).flatMap (z5 s):=xL (fun y hy=>by
   obtain ⟨j,hj,hjy⟩:=hab y hy
   exact (hoth j y hj hjy).2)
  have q4:(zi s m x).1.Ws.flatMap (zQ {(zi s m x).1 with Ms:=s.Ms.set (m-1).toNat (zi s m x).2})=s.Ws.flatMap (zQ s):=by
   rw [eWs]
   refine xL (fun y hy=> ?_)
   obtain ⟨j,hj⟩:=List.mem_iff_getElem?.1 hy
   exact (zcz (s:=(zi s m x).1) rfl rfl).trans (hwrk j y hj).2
  show List.Perm (yA p (zi s m x).1 gh'++((zi s m x).1.Ws.flatMap (zQ {(zi s m x).1 with Ms:=s.Ms.set (m-1).toNat (zi s m x).2})++(s.Ms.set (m-1).toNat (zi s m x).2).flatMap (z5 {(zi s m x).1 with Ms:=s.Ms.set (m-1).toNat (zi s m x).2}))++C) _
  rw [q2,q4]
  have r1:List.Perm (yA p (zi s m x).1 gh'++(s.Ws.flatMap (zQ s)++(a++(zi s m x).2::b).flatMap (z5 (zi s m x).1))++C) ((s.Ws.flatMap (zQ s)++(a++b).flatMap (z5 s))++(yA p (zi s m x).1 gh'++z5 (zi s m x).1 (zi s m x).2++C)):=by
   refine ((List.Perm.append_left _ (List.Perm.append_left _ Zd)).append_right C).trans ?_
   rw [q3]
   generalize (a++b).flatMap (z5 s)=u
   generalize s.Ws.flatMap (zQ s)=v
   generalize yA p (zi s m x).1 gh'=y
   generalize z5 (zi s m x).1 (zi s m x).2=z
   refine ((List.Perm.append_left y (List.perm_append_comm_assoc v z u)).append_right C).trans ?_
   generalize v++u=q
   rw [List.append_assoc,List.append_assoc,List.append_assoc]
   refine (List.Perm.append_left _ (List.perm_append_comm_assoc _ _ _)).trans ?_
   exact (List.perm_append_comm_assoc _ _ _)
  have r2:List.Perm (N++(yA p s gh++(s.Ws.flatMap (zQ s)++s.Ms.flatMap (z5 s)))) ((s.Ws.flatMap (zQ s)++(a++b).flatMap (z5 s))++(N++(yA p s gh++z5 s x))):=by
   conv=>lhs;rw [el]
   refine (List.Perm.append_left _ (List.Perm.append_left _ (List.Perm.append_left _ Zd))).trans ?_
   generalize (a++b).flatMap (z5 s)=u
   generalize s.Ws.flatMap (zQ s)=v
   generalize yA p s gh=y
   generalize z5 s x=z
   refine (List.Perm.append_left N (List.Perm.append_left y (List.perm_append_comm_assoc v z u))).trans ?_
   generalize v++u=q
   refine (List.Perm.append_left _ ?_).trans (List.perm_append_comm_assoc _ _ _)
   rw [←List.append_assoc]
   exact List.perm_append_comm
  exact r1.trans ((List.Perm.append_left _ hN).trans r2.symm)
 have hlen:(zi s m x).1.H.Objs.length=s.H.Objs.length∨(zi s m x).1.H=xT s.H:=by
  rcases zqx s m x with h | h
  ·exact .inl h.1
  ·exact .inr h.1
 have hFM:=G.mut_tint hp (m:=m) (l:=s.Ms.set (m-1).toNat (zi s m x).2) hMX hBI hbag hT
 obtain ⟨hFM,hB⟩:=hFM
 obtain ⟨t1,t2⟩:=G.tints hFM
 have hN1:(s.H.Objs.length:Int)≤((zi s m x).1.H.Objs.length:Int):=by
  rcases hlen with h | h
  ·omega
  ·rw [h,zc3];omega
 have B':=zuc (s:=s) hXO (n:=(s.H.Objs.length:Int)) (by omega) (fun l hl v hv=>((G.E.H.objs l hl).2 v hv).2) hBI
 refine ⟨gh',⟨hE,?_,fun j y hy=> ?_,fun j y hy=> ?_,hB,t1,fun j y hy h6=> ?_,fun y hy=> ?_,t2⟩,hFM,x,rfl,N,C,hbag,hT⟩
 ·refine (X'.state hE.S rfl).perm ?_
  show List.Perm ((zi s m x).1.Ws.flatMap wv++(s.Ms.set (m-1).toNat (zi s m x).2).flatMap uq) _
  rw [es,eWs,←List.append_assoc]
  exact List.perm_append_comm.trans (List.Perm.append_right _ Zd)
 ·have hy:(zi s m x).1.Ws[j]? =some y:=hy
  rw [eWs] at hy
  exact (hwrk j y hy).1.state rfl rfl
 ·have hy:(s.Ms.set (m-1).toNat (zi s m x).2)[j]? =some y:=hy
  by_cases hj:j=(m-1).toNat
  ·subst hj
   rw [List.getElem?_set_self hi] at hy
   injection hy with hy
   rw [←hy]
   exact M'.state rfl rfl
  ·rw [List.getElem?_set_ne (fun e=>hj e.symm)] at hy
   exact (hoth j y hj hy).1.state rfl rfl
 ·have hy:(zi s m x).1.Ws[j]? =some y:=hy
  rw [eWs] at hy
  have:=G.wob j y hy h6
  show y.G.Obj≤((zi s m x).1.H.Objs.length:Int)
  omega
 ·have up: ∀ {z:zc},zbn (s.H.Objs.length:Int) z→zbn ((zi s m x).1.H.Objs.length:Int) z:=fun ⟨a,b,c⟩=>⟨fun v hv=>by have:=a v hv;omega,by omega,fun e=>by have:=c e;omega⟩
  rcases List.mem_or_eq_of_mem_set (show y∈s.Ms.set (m-1).toNat (zi s m x).2 from hy) with h | rfl
  ·exact up (G.buf y h)
  ·exact up B'
theorem zB7 {p:zb} (h:zA p):FG p (zZ p+1) 0 (yM p) (gh0 p):=by
 have G:=zCv h
 have hn:=h.n
 have hms: ∀x∈(yM p).Ms,∃r,x=xO r:=fun x hx=>by
  obtain ⟨r,_,e⟩:=List.mem_map.1 (show x∈p.Regs.map xO from hx)
  exact ⟨r,e.symm⟩
 have own:(yM p).Ms.flatMap uq=[]:=zbj (fun x hx=>by
  obtain ⟨r,rfl⟩:=hms x hx
  exact vS ⟨by show (0:Int)≠3;decide,by show (0:Int)≠33;decide,by show (0:Int)≠34;decide,by show (0:Int)≠37;decide⟩)
 have hold:(yM p).Ms.flatMap (z5 (yM p))=[]:=zbj (fun x hx=>by
  obtain ⟨r,rfl⟩:=hms x hx
  unfold z5
  rw [uH ⟨by show (0:Int)≠3;decide,by show (0:Int)≠33;decide,by show (0:Int)≠36;decide,by show (0:Int)≠37;decide,by show (0:Int)≠38;decide⟩];rfl)
 refine ⟨G.E,by rw [own,List.append_nil];exact G.X,G.W,fun i x hx=> ?_,?_,fun o ho=> ?_,fun i x hx h6=> ?_,fun x hx=> ?_,fun o h1 h2=> ?_⟩
 ·obtain ⟨r,rfl⟩:=hms x (List.mem_of_getElem? hx)
  exact MX.plain ⟨by show (0:Int)≠3;decide,by show (0:Int)≠32;decide,by show (0:Int)≠34;decide,by show (0:Int)≠37;decide⟩ (fun _=>rfl) (fun v hv=>by cases hv)
   ⟨fun e=>absurd e (by show ¬(0:Int)=21;decide),fun e=>absurd e (by show ¬((0:Int)=22∨(((0:Int)=1∨(0:Int)=3)∧(0:Int)=22));decide)⟩
 ·have e:uQ p (yM p) (gh0 p)=zoh p (yM p) (gh0 p):=by unfold uQ zoh;rw [hold,List.append_nil]
  rw [e];exact G.B
 ·have ho:zK (uk p) o=true:=ho
  show o≤(p.H.Objs.length:Int)
  refine Int.not_lt.1 fun hlt=> ?_
  obtain ⟨a,b,_⟩:=(wm _ _).1 ho
  have b2: ¬zK (vq (p.H.Objs.length:Int)) o=true:=fun e=>by
   have:=(znl (n:=p.H.Objs.length) (by omega) o).1 e
   omega
  have b3:=(VE _ _ o).2 ⟨ho,(zql _ (by omega)).2 b2⟩
  rw [zlr h] at b3
  exact Yz o b3
 ·obtain ⟨j,_,e⟩:=List.mem_map.1 (show x∈(List.range p.Workers.toNat).map (ul p) from List.mem_of_getElem? hx)
  rw [←e] at h6
  exact absurd h6 (by show ¬(0:Int)=6;decide)
 ·obtain ⟨r,rfl⟩:=hms x hx
  exact ⟨fun v hv=>(by cases hv),(by show (0:Int)≤(p.H.Objs.length:Int);omega),fun e=>absurd e (by show ¬((0:Int)=3∨(0:Int)=37);decide)⟩
 ·have:o≤(p.H.Objs.length:Int):=h2
  omega
theorem FG.grey {p:zb} {nb k:Nat} {s:za} {gh:Gh} (G:FG p nb k s gh) {o:Int} (h:o∈uQ p s gh):yD s.T o=1:=(G.B.gr o).1 h
theorem zlY {p:zb} {s:za} {gh:Gh} {i:Nat} {x:ze} (hx:s.Ws[i]? =some x) {o:Int} (h:o∈zQ s x):o∈uQ p s gh :=
 List.mem_append_right _ (List.mem_append_left _ (List.mem_flatMap.2 ⟨x,List.mem_of_getElem? hx,h⟩))
theorem zgC {p:zb} {s:za} {gh:Gh} {i:Nat} {x:zc} (hx:s.Ms[i]? =some x) {o:Int} (h:o∈z5 s x):o∈uQ p s gh :=
 List.mem_append_right _ (List.mem_append_right _ (List.mem_flatMap.2 ⟨x,List.mem_of_getElem? hx,h⟩))
end
end Go.Pe.G
namespace Go.Pe.G
open Go.Pe
noncomputable section
inductive Reach (h:zr) (R:BitVec 64):Int→Prop
 | root (o:Int) (h1:zK R o=true) (h2:1≤o∧o≤(h.Objs.length:Int)):Reach h R o
 | step (o v:Int) (h1:Reach h R o) (h2:v∈zM h o) (h3:1≤v∧v≤(h.Objs.length:Int)):Reach h R v
theorem Reach.in {h:zr} {R:BitVec 64} {o:Int} (r:Reach h R o):1≤o∧o≤(h.Objs.length:Int):=by
 cases r with
 | root _ _ h2=>exact h2
 | step _ _ _ _ h3=>exact h3
theorem zxP: ∀t:Fin 512,znb 66 (BitVec.ofNat 64 t.1)=some (((List.range 9).filter fun i=>(BitVec.ofNat 64 t.1).getLsbD i).map fun i:Nat=>(i:Int)+1):=by decide +kernel
def zmR (s:BitVec 64):List Int:=((List.range 9).filter fun i=>s.getLsbD i).map fun i:Nat=>(i:Int)+1
theorem zBp: ∀t:Fin 512,Go.Lib.ctz 64 t.1≤64:=by decide +kernel
theorem zt7: ∀(f:Nat) (s:BitVec 64),s.toNat<512→Ur f s=znb f s
 | 0,_,_=>rfl
 | f+1,s,h=>by
  simp only [Ur,znb]
  rw [zt7 f _ (by rw [BitVec.toNat_and];exact Nat.lt_of_le_of_lt Nat.and_le_left h)]
  have:Go.Lib.ctz 64 s.toNat≤64:=zBp ⟨s.toNat,h⟩
  have e:w64 (tz s+1)=((Go.Lib.ctz 64 s.toNat:Nat):Int)+1:=by
   unfold tz
   exact z9 (by omega) (by omega)
  rw [e]
theorem zyV (s:BitVec 64) (o:Int):o∈zmR s↔1≤o∧o≤9∧zK s o=true:=by
 unfold zmR
 rw [List.mem_map]
 constructor
 ·rintro ⟨i,hi,rfl⟩
  obtain ⟨a,b⟩:=List.mem_filter.1 hi
  have a:=List.mem_range.1 a
  exact ⟨by omega,by omega,(wm _ _).2 ⟨by omega,by omega,by rw [show ((i:Int)+1-1).toNat=i by omega];exact b⟩⟩
 ·rintro ⟨a,b,c⟩
  obtain ⟨_,_,d⟩:=(wm _ _).1 c
  exact ⟨(o-1).toNat,List.mem_filter.2 ⟨List.mem_range.2 (by omega),d⟩,by omega⟩
theorem ztR (s:BitVec 64):(zmR s).length≤9:=by
 unfold zmR
 rw [List.length_map]
 exact Nat.le_trans (List.length_filter_le _ _) (by simp)
theorem zyL {s:BitVec 64} (h: ∀o,zK s o=true→o≤9):zeg s=some (zmR s,()):=by
 obtain ⟨t,rfl⟩:=zCw h
 have e:zi0 (BitVec.ofNat 64 t.1)=some (zmR (BitVec.ofNat 64 t.1)):=by
  show Ur 66 _=_
  rw [zt7 66 _ (by simp;omega),zxP t];rfl
 have:=ztR (BitVec.ofNat 64 t.1)
 rw [znx,znC,Option.bind_some,e,Option.bind_some,znn _ _ (by simp;omega)]
 rfl
theorem zpf {α:Type} {l:List α} {n:Nat} {i:Int} (h:0≤i) (h1:i<l.length) (h2:i<n):zfi l n i=some i.toNat:=by
 unfold zfi;simp [h,h1,h2]
def mt (met:List Int) (o:Int):Int:=met.getD (o-1).toNat 0
def Wz (met:List Int):Nat:=met.countP (fun x=>decide (x=0))
theorem zrM {met:List Int} {o:Int} (h:1≤o∧o≤(met.length:Int)):met[(o-1).toNat]? =some (mt met o):=by
 have e:=List.getElem?_eq_getElem (show (o-1).toNat<met.length by omega)
 unfold mt
 rw [List.getD_eq_getElem?_getD,e];rfl
theorem zjt {met:List Int} {o q x:Int} (h:1≤o∧o≤(met.length:Int)) (hq:1≤q):mt (met.set (o-1).toNat x) q=if q=o then x else mt met q:=by
 unfold mt
 rw [List.getD_eq_getElem?_getD,List.getD_eq_getElem?_getD,List.getElem?_set]
 by_cases e:q=o
 ·subst e;rw [if_pos rfl,if_pos rfl,if_pos (by omega)];rfl
 ·rw [if_neg (by omega),if_neg e]
theorem zzo {met:List Int} {o x:Int} (h:1≤o∧o≤(met.length:Int)) (h0:mt met o=0) (hx:x≠0):Wz (met.set (o-1).toNat x)+1=Wz met:=by
 have hl:(o-1).toNat<met.length:=by omega
 have e:met[(o-1).toNat]'hl=0:=by
  have:=zrM h
  rw [h0,List.getElem?_eq_getElem hl] at this
  exact Option.some.inj this
 have hm:(0:Int)∈met:=by rw [←e];exact List.getElem_mem hl
 have hp:0<Wz met:=List.countP_pos_iff.2 ⟨0,hm,by simp⟩
 unfold Wz at hp ⊢
 rw [List.countP_set hl,e]
 simp [hx]
 omega
structure RI (h:zr) (R:BitVec 64) (met wait:List Int):Prop where
 len:met.length=64
 val: ∀o,1≤o→0≤mt met o∧mt met o≤100-(Wz met:Int)
 rc: ∀o,1≤o→0<mt met o→Reach h R o
 rt: ∀o,zK R o=true→1≤o∧o≤(h.Objs.length:Int)→0<mt met o
 wt: ∀o∈wait,(1≤o∧o≤(h.Objs.length:Int))∧0<mt met o
 cl: ∀o,1≤o→0<mt met o→o∉wait→∀v∈zM h o,1≤v∧v≤(h.Objs.length:Int)→0<mt met v
 zl:Wz met≤64
theorem zA2 (met:List Int):Wz met≤met.length:=List.countP_le_length
theorem RI.add {h:zr} {R:BitVec 64} {met wait:List Int} {o v:Int} (hn:h.Objs.length≤9) (I:RI h R met wait) (ho:o∈wait) (hv:v∈zM h o) (hr:1≤v∧v≤(h.Objs.length:Int)) (h0:mt met v=0) :
  RI h R (met.set (v-1).toNat (mt met o+1)) (wait++[v])∧Wz (met.set (v-1).toNat (mt met o+1))+1=Wz met:=by
 obtain ⟨ho1,ho2⟩:=I.wt o ho
 have hlen:=I.len
 have hvl:1≤v∧v≤(met.length:Int):=by omega
 have hz:=zzo (x:=mt met o+1) hvl h0 (by omega)
 have hval:=I.val o ho1.1
 have hzl:=I.zl
 have key: ∀q,1≤q→0<mt met q→0<mt (met.set (v-1).toNat (mt met o+1)) q:=fun q hq hp=>by
  rw [zjt hvl hq];split<;>omega
 refine ⟨⟨by rw [List.length_set];exact hlen,fun q hq=> ?_,fun q hq hp=> ?_,fun q a b=>key q b.1 (I.rt q a b),fun q hq=> ?_,fun q hq hp hw u hu hur=> ?_,by omega⟩,hz⟩
 ·have:=I.val q hq
  rw [zjt hvl hq];split<;>omega
 ·rw [zjt hvl hq] at hp
  split at hp
  ·rename_i e;subst e;exact .step o q (I.rc o ho1.1 ho2) hv hr
  ·exact I.rc q hq hp
 ·rcases List.mem_append.1 hq with hq | hq
  ·exact ⟨(I.wt q hq).1,key q (I.wt q hq).1.1 (I.wt q hq).2⟩
  ·simp at hq;subst hq
   refine ⟨hr,?_⟩
   rw [zjt hvl hr.1,if_pos rfl];omega
 ·have hw1:q∉wait:=fun e=>hw (List.mem_append_left _ e)
  have hw2:q≠v:=fun e=>hw (by rw [e];simp)
  rw [zjt hvl hq,if_neg hw2] at hp
  exact key u hur.1 (I.cl q hq hp hw1 u hu hur)
theorem RI.rm {h:zr} {R:BitVec 64} {met:List Int} {o:Int} {w:List Int} (I:RI h R met (o::w)) (hd: ∀v∈zM h o,1≤v∧v≤(h.Objs.length:Int)→0<mt met v):RI h R met w :=
 ⟨I.len,I.val,I.rc,I.rt,fun q hq=>I.wt q (List.mem_cons_of_mem _ hq),fun q hq hp hw v hv hr=>by
  by_cases e:q=o
  ·rw [e] at hv;exact hd v hv hr
  ·exact I.cl q hq hp (fun h=>(List.mem_cons.1 h).elim e hw) v hv hr,I.zl⟩
theorem zyz {h:zr} {R:BitVec 64} (hn:h.Objs.length≤9) {o:Int} {w0:List Int} {a7:List Int} (hs:(zM h o).length<1000000): ∀(n:Nat) (met added:List Int) (i:Nat),(zM h o).length-i=n→i≤(zM h o).length→RI h R met (o::w0++added)→(o::w0++added).length+Wz met≤200 →
  (∀v∈(zM h o).take i,1≤v∧v≤(h.Objs.length:Int)→0<mt met v)→∀m,n<m →
  ∃met' added',wJ vD m (vq (h.Objs.length:Int),o,zM h o,((zM h o).length:Int),(i:Int),h,a7,met,o::w0++added,())=some (.brk (vq (h.Objs.length:Int),h,a7,met',o::w0++added',())) ∧
   RI h R met' (o::w0++added')∧(o::w0++added').length+Wz met'=(o::w0++added).length+Wz met∧Wz met'≤Wz met∧(∀v∈zM h o,1≤v∧v≤(h.Objs.length:Int)→0<mt met' v):=by
 intro n
 induction n with
 | zero =>
  intro met added i hk hi I hz hd m hm
  obtain ⟨m,rfl⟩: ∃x,m=x+1:=⟨m-1,by omega⟩
  have e:i=(zM h o).length:=by omega
  subst e
  rw [List.take_length] at hd
  refine ⟨met,added,?_,I,rfl,Nat.le_refl _,hd⟩
  rw [wJ,Y3,zw,if_neg (by omega)];rfl
 | succ n ih =>
  intro met added i hk hi I hz hd m hm
  obtain ⟨m,rfl⟩: ∃x,m=x+1:=⟨m-1,by omega⟩
  have hx:=List.getElem?_eq_getElem (show i<(zM h o).length by omega)
  generalize hxv:(zM h o)[i]'(by omega)=v at hx
  have hv:v∈zM h o:=List.mem_of_getElem? hx
  have hlen:=I.len
  have ho:=I.wt o (by simp)
  have hval:=I.val o ho.1.1
  have htk:(zM h o).take (i+1)=(zM h o).take i++[v]:=by rw [List.take_add_one,hx];rfl
  rw [wJ,Y3,zw,if_pos (by omega),va hx,Option.bind_some,zpg,Option.bind_some]
  have hb:=znl hn v
  unfold zK at hb
  by_cases hr:1≤v∧v≤(h.Objs.length:Int)
  ·have hb1:=hb.2 hr
   dsimp only
   rw [hb1,cond_true,z9 (a:=v-1) (by omega) (by omega),zpf (by omega) (by omega) (by omega),Option.bind_some,zrM (by omega),Option.bind_some,zw]
   by_cases h0:mt met v=0
   ·rw [if_pos h0,z9 (a:=o-1) (by omega) (by omega),zpf (by omega) (by omega) (by omega),Option.bind_some,zrM (by omega),Option.bind_some,Option.bind_some,wT (by rw [List.length_append];show _+1<_;omega),Option.bind_some,z9 (a:=(i:Int)+1) (by omega) (by omega),z9 (a:=mt met o+1) (by omega) (by omega),Option.bind_some]
    obtain ⟨I',hz'⟩:=I.add hn (by simp) hv hr h0
    dsimp only
    rw [List.append_assoc] at I' ⊢
    have hz2:(o::w0++(added++[v])).length=(o::w0++added).length+1:=by simp;omega
    obtain ⟨met',added',e1,e2,e3,e4,e5⟩:=ih (met.set (v-1).toNat (mt met o+1)) (added++[v]) (i+1) (by omega) (by omega) I' (by omega) (fun q hq hqr=>by
     rw [zjt (by omega) hqr.1]
     split
     ·omega
     ·rename_i hne
      rw [htk] at hq
      rcases List.mem_append.1 hq with hq | hq
      ·exact hd q hq hqr
      ·simp at hq;exact absurd hq hne) m (by omega)
    refine ⟨met',added',?_,e2,by omega,by omega,e5⟩
    have:((i+1:Nat):Int)=(i:Int)+1:=by omega
    rw [←this]
    exact e1
   ·rw [if_neg h0,z9 (a:=(i:Int)+1) (by omega) (by omega),Option.bind_some]
    have hp:0<mt met v:=by have:=I.val v hr.1;omega
    obtain ⟨met',added',e1,e2⟩:=ih met added (i+1) (by omega) (by omega) I hz (fun q hq hqr=>by
     rw [htk] at hq
     rcases List.mem_append.1 hq with hq | hq
     ·exact hd q hq hqr
     ·simp at hq;rw [hq];exact hp) m (by omega)
    refine ⟨met',added',?_,e2⟩
    have:((i+1:Nat):Int)=(i:Int)+1:=by omega
    rw [←this]
    exact e1
  ·have hb1:(!(decide (vq (h.Objs.length:Int)&&&bit v=0#64)))=false:=by
    cases hc:(!(decide (vq (h.Objs.length:Int)&&&bit v=0#64))) with
    | false=>rfl
    | true=>exact absurd (hb.1 hc) hr
   dsimp only
   rw [hb1,cond_false,z9 (a:=(i:Int)+1) (by omega) (by omega),Option.bind_some]
   obtain ⟨met',added',e1,e2⟩:=ih met added (i+1) (by omega) (by omega) I hz (fun q hq hqr=>by
    rw [htk] at hq
    rcases List.mem_append.1 hq with hq | hq
    ·exact hd q hq hqr
    ·simp at hq;rw [hq] at hqr;exact absurd hqr hr) m (by omega)
   refine ⟨met',added',?_,e2⟩
   have:((i+1:Nat):Int)=(i:Int)+1:=by omega
   rw [←this]
   exact e1
theorem zqz {A B D:Type} {f:A→Option (xr A B D)} {x:A} {b:B} {n:Nat} (h:wJ f n x=some (.brk b)) (hn:n≤YC):yH f x=some (.brk b):=by
 rw [UP]
 have key: ∀(n m:Nat) (x:A),wJ f n x=some (.brk b)→n≤m→wJ f m x=some (.brk b):=by
  intro n
  induction n with
  | zero=>intro m x h;cases h
  | succ n ih =>
   intro m x h hm
   obtain ⟨m,rfl⟩: ∃q,m=q+1:=⟨m-1,by omega⟩
   simp only [wJ,Option.bind_eq_some_iff] at h ⊢
   obtain ⟨s,h1,h2⟩:=h
   refine ⟨s,h1,?_⟩
   cases s with
   | again y=>exact ih m y h2 (by omega)
   | brk b'=>exact h2
   | ret c=>exact h2
 exact key n YC x h hn
theorem zAJ {h:zr} {R:BitVec 64} (hn:h.Objs.length≤9) (hs: ∀o,(zM h o).length<1000000) {a7:List Int}: ∀(n:Nat) (met wait:List Int),wait.length+2*Wz met≤n→wait.length+Wz met≤200→RI h R met wait→∀m,n<m →
  ∃met',wJ ZE m (vq (h.Objs.length:Int),h,a7,met,wait,())=some (.brk (a7,met',()))∧RI h R met' []:=by
 intro n
 induction n with
 | zero =>
  intro met wait hz hz2 I m hm
  obtain ⟨m,rfl⟩: ∃x,m=x+1:=⟨m-1,by omega⟩
  have:wait=[]:=List.eq_nil_of_length_eq_zero (by omega)
  subst this
  refine ⟨met,?_,I⟩
  rw [wJ,uP,zw,if_neg (by simp)];rfl
 | succ n ih =>
  intro met wait hz hz2 I m hm
  obtain ⟨m,rfl⟩: ∃x,m=x+1:=⟨m-1,by omega⟩
  cases wait with
  | nil =>
   refine ⟨met,?_,I⟩
   rw [wJ,uP,zw,if_neg (by simp)];rfl
  | cons o w =>
   have ho:=(I.wt o (by simp)).1
   have hso:=hs o
   have eo:=List.getElem?_eq_getElem (show (o-1).toNat<h.Objs.length by omega)
   have es:h.Objs[(o-1).toNat]'(by omega)=zM h o:=by unfold zM;rw [List.getD_eq_getElem?_getD,eo];rfl
   obtain ⟨met',added',e1,e2,e3,e4,e5⟩:=zyz (a7:=a7) hn (o:=o) (w0:=w) hso _ met [] 0 rfl (Nat.zero_le _) (by simpa using I) (by simpa using hz2) (fun v hv=>by simp at hv) ((zM h o).length+1) (by omega)
   simp only [List.append_nil,Int.natCast_zero] at e1 e3
   have e1:wJ vD ((zM h o).length+1) (vq (h.Objs.length:Int),o,zM h o,((zM h o).length:Int),0,h,a7,met,o::w,())=some (.brk (vq (h.Objs.length:Int),h,a7,met',o::w++added',())):=e1
   have hidx:xM (o::w) 0=some 0:=by rw [uA (by omega) (by simp)];rfl
   rw [wJ,uP,zw,if_pos (by simp),hidx,Option.bind_some]
   simp only [List.getElem?_cons_zero,Option.bind_some,zpM,Bool.not_true,cond_false]
   rw [z9 (a:=o-1) (by omega) (by omega),vn (by omega),eo,Option.bind_some,es,zqz e1 (by have:YC=18446744073709551616:=rfl;omega)]
   dsimp only [Option.bind_some]
   rw [List.cons_append,zqQ,Option.bind_some,Option.bind_some]
   dsimp only
   rw [List.cons_append] at e2
   exact ih met' (w++added') (by simp at e3 hz ⊢;omega) (by simp at e3 hz2 ⊢;omega) (e2.rm e5) m (by omega)
theorem zBw (o:Int):mt (List.replicate 64 (0:Int)) o=0:=by
 unfold mt
 rw [List.getD_eq_getElem?_getD,List.getElem?_replicate];split<;>rfl
theorem zxN {h:zr} {a1:BitVec 64} {a5:List Int}: ∀(n i:Nat) (l met:List Int),l.length-i=n→i≤l.length→l.length<1000000→(∀o∈l,1≤o∧o≤9)→met.length=64→(∀o,1≤o→mt met o=if o∈l.take i then 1 else 0)→∀m,n<m →
  ∃met',wJ ZC m (a1,(l.length:Int),(i:Int),h,a5,met,l,())=some (.brk (a1,h,a5,met',l,()))∧met'.length=64∧∀o,1≤o→mt met' o=if o∈l then 1 else 0:=by
 intro n
 induction n with
 | zero =>
  intro i l met hk hi hl hr hm ht m hm2
  obtain ⟨m,rfl⟩: ∃x,m=x+1:=⟨m-1,by omega⟩
  have e:i=l.length:=by omega
  subst e
  rw [List.take_length] at ht
  refine ⟨met,?_,hm,ht⟩
  rw [wJ,Xj,zw,if_neg (by omega)];rfl
 | succ n ih =>
  intro i l met hk hi hl hr hm ht m hm2
  obtain ⟨m,rfl⟩: ∃x,m=x+1:=⟨m-1,by omega⟩
  have hx:=List.getElem?_eq_getElem (show i<l.length by omega)
  generalize hxv:l[i]'(by omega)=v at hx
  have hv:=hr v (List.mem_of_getElem? hx)
  have htk:l.take (i+1)=l.take i++[v]:=by rw [List.take_add_one,hx];rfl
  rw [wJ,Xj,zw,if_pos (by omega),uA (by omega) (by omega),Option.bind_some,Int.toNat_natCast,hx,Option.bind_some,z9 (a:=v-1) (by omega) (by omega),zpf (by omega) (by omega) (by omega),Option.bind_some,z9 (a:=(i:Int)+1) (by omega) (by omega),Option.bind_some]
  obtain ⟨met',e1,e2⟩:=ih (i+1) l (met.set (v-1).toNat 1) (by omega) (by omega) hl hr (by rw [List.length_set];exact hm) (fun o ho=>by
   rw [zjt (by omega) ho,ht o ho,htk]
   by_cases e:o=v
   ·rw [if_pos e,if_pos (by rw [e];simp)]
   ·rw [if_neg e]
    by_cases e2:o∈l.take i
    ·rw [if_pos e2,if_pos (List.mem_append_left _ e2)]
    ·rw [if_neg e2,if_neg (fun h=>(List.mem_append.1 h).elim e2 (fun h=>e (by simpa using h)))]) m (by omega)
  refine ⟨met',?_,e2⟩
  have:((i+1:Nat):Int)=(i:Int)+1:=by omega
  rw [←this]
  exact e1
theorem zwN {met:List Int} (hl:met.length=64): ∃S,zcZ met=some (S,())∧∀o,zK S o=true↔1≤o∧0<mt met o:=by
 rw [znO,zw,if_pos hl]
 have key:=Zi (f:=zaw) (fun a=>∃(i:Nat) (S:BitVec 64),i≤64∧a=(S,met,(i:Int),())∧∀o,zK S o=true↔(1≤o∧o≤(i:Int))∧0<mt met o) (fun a=>64-a.2.2.1.toNat) (fun o=>∃S,o= .brk (S,())∧∀o,zK S o=true↔1≤o∧0<mt met o) (by
  rintro _ ⟨i,S,hi,rfl,hS⟩
  rw [zlK,zw]
  by_cases c:(i:Int)<64
  ·have hx:=zrM (met:=met) (o:=(i:Int)+1) (by omega)
   rw [show ((i:Int)+1-1).toNat=i by omega] at hx
   rw [if_pos c,zpf (by omega) (by omega) c,Option.bind_some,Int.toNat_natCast,hx,Option.bind_some,zw,z9 (a:=(i:Int)+1) (by omega) (by omega),zmc,Option.bind_some]
   by_cases hp:0<mt met ((i:Int)+1)
   ·rw [if_pos hp]
    refine ⟨_,rfl,⟨i+1,_,by omega,rfl,fun o=> ?_⟩,?_⟩
    ·dsimp only
     rw [wp _ (by omega),hS o]
     constructor
     ·rintro (⟨a,b⟩ | rfl)
      ·exact ⟨by omega,b⟩
      ·exact ⟨by omega,hp⟩
     ·rintro ⟨a,b⟩
      by_cases e:o=(i:Int)+1
      ·exact .inr e
      ·exact .inl ⟨by omega,b⟩
    ·show 64-((i:Int)+1).toNat<64-(i:Int).toNat
     omega
   ·rw [if_neg hp]
    refine ⟨_,rfl,⟨i+1,S,by omega,rfl,fun o=> ?_⟩,?_⟩
    ·rw [hS o]
     constructor
     ·rintro ⟨a,b⟩;exact ⟨by omega,b⟩
     ·rintro ⟨a,b⟩
      by_cases e:o=(i:Int)+1
      ·rw [e] at b;exact absurd b hp
      ·exact ⟨by omega,b⟩
    ·show 64-((i:Int)+1).toNat<64-(i:Int).toNat
     omega
  ·rw [if_neg c]
   refine ⟨_,rfl,S,rfl,fun o=> ?_⟩
   rw [hS o]
   have hi:i=64:=by omega
   subst hi
   constructor
   ·rintro ⟨a,b⟩;exact ⟨a.1,b⟩
   ·rintro ⟨a,b⟩
    refine ⟨⟨a,?_⟩,b⟩
    by_cases h:64<o
    ·exfalso
     unfold mt at b
     rw [List.getD_eq_getElem?_getD,List.getElem?_eq_none (by omega)] at b
     exact absurd b (by show ¬(0:Int)<0;decide)
    ·show o≤64;omega) (0#64,met,0,()) ⟨0,0#64,by omega,rfl,fun o=>⟨fun e=>absurd e (Yz o),fun e=>by have:=e.1;omega⟩⟩ (by show 64-0<18446744073709551616;decide)
 obtain ⟨o,e,S,rfl,hS⟩:=key
 refine ⟨S,?_,hS⟩
 exact congrArg (fun o=>Option.bind o _) e
theorem zu2 {h:zr} (hn:h.Objs.length≤9) (hs: ∀l∈h.Objs,l.length<1000000) (R:BitVec 64): ∃S,Ut h R=some (S,())∧∀o,zK S o=true↔Reach h R o:=by
 have hso: ∀o,(zM h o).length<1000000:=fun o=>by
  unfold zM
  rw [List.getD_eq_getElem?_getD]
  cases hx:h.Objs[(o-1).toNat]? with
  | none=>show ([]:List Int).length<_;simp
  | some l=>exact hs l (List.mem_of_getElem? hx)
 have hF:=fun o=>znl hn o
 have hA: ∀o,zK (R&&&vq (h.Objs.length:Int)) o=true↔zK R o=true∧1≤o∧o≤(h.Objs.length:Int):=fun o=>by rw [VE,hF]
 have h9: ∀o,zK (R&&&vq (h.Objs.length:Int)) o=true→o≤9:=fun o e=>by have:=(hA o).1 e;omega
 have hw:=zyV (R&&&vq (h.Objs.length:Int))
 have hwl:=ztR (R&&&vq (h.Objs.length:Int))
 generalize hwd:zmR (R&&&vq (h.Objs.length:Int))=wait at hw hwl
 obtain ⟨met,e1,m1,m2⟩:=zxN (h:=h) (a1:=vq (h.Objs.length:Int)) (a5:=List.replicate 64 (0:Int)) wait.length 0 wait (List.replicate 64 (0:Int)) rfl (Nat.zero_le _) (by omega) (fun o ho=>by have:=(hw o).1 ho;omega) (by simp) (fun o _=>by rw [zBw];simp) (wait.length+1) (by omega)
 have hz:=zA2 met
 have I:RI h R met wait:=by
  refine ⟨m1,fun o ho=> ?_,fun o ho hp=> ?_,fun o ho hr=> ?_,fun o ho=> ?_,fun o ho hp hno=> ?_,by omega⟩
  ·rw [m2 o ho];split<;>omega
  ·rw [m2 o ho] at hp
   split at hp
   ·rename_i hm
    have a:=(hA o).1 ((hw o).1 hm).2.2
    exact .root o a.1 a.2
   ·omega
  ·rw [m2 o hr.1,if_pos ((hw o).2 ⟨hr.1,by omega,(hA o).2 ⟨ho,hr⟩⟩)];decide
  ·have a:=(hA o).1 ((hw o).1 ho).2.2
   refine ⟨a.2,?_⟩
   rw [m2 o a.2.1,if_pos ho];decide
  ·rw [m2 o ho,if_neg hno] at hp;omega
 obtain ⟨met',e2,I'⟩:=zAJ (a7:=List.replicate 64 (0:Int)) hn hso (wait.length+2*Wz met) met wait (Nat.le_refl _) (by omega) I (wait.length+2*Wz met+1) (by omega)
 obtain ⟨S,e3,hS⟩:=zwN I'.len
 refine ⟨S,?_,fun o=> ?_⟩
 ·have hrd:YC=18446744073709551616:=rfl
  have ew:Yn h R=some (met',()):=by
   rw [zdt,ztM _ (by omega),Option.bind_some,zyL h9,Option.bind_some,hwd]
   refine (congrArg (fun o=>Option.bind o _) (zqz e1 (by omega))).trans ?_
   rw [Option.bind_some]
   dsimp only
   refine (congrArg (fun o=>Option.bind o _) (zqz e2 (by omega))).trans ?_
   rw [Option.bind_some]
   dsimp only
   rw [zw,zw,zw,if_pos I'.len,if_pos (by simp),if_pos I'.len]
  rw [zrv,ew,Option.bind_some,e3];rfl
 ·rw [hS o]
  constructor
  ·rintro ⟨a,b⟩;exact I'.rc o a b
  ·intro r
   induction r with
   | root o h1 h2=>exact ⟨h2.1,I'.rt o h1 h2⟩
   | step o v _ h2 h3 ih=>exact ⟨h3.1,I'.cl o ih.1 ih.2 (by simp) v h2 h3⟩
def zpb (h:zr) (R:BitVec 64):BitVec 64:=match Ut h R with | some x=>x.1 | none=>0#64
theorem zrS {h:zr} (hn:h.Objs.length≤9) (hs: ∀l∈h.Objs,l.length<1000000) (R:BitVec 64):Ut h R=some (zpb h R,()):=by
 obtain ⟨S,e,_⟩:=zu2 hn hs R
 unfold zpb
 rw [e]
theorem ztN {h:zr} (hn:h.Objs.length≤9) (hs: ∀l∈h.Objs,l.length<1000000) (R:BitVec 64) (o:Int):zK (zpb h R) o=true↔Reach h R o:=by
 obtain ⟨S,e,h2⟩:=zu2 hn hs R
 unfold zpb
 rw [e]
 exact h2 o
end
end Go.Pe.G
namespace Go.Pe.G
open Go.Pe
noncomputable section
def zuN (p:zb):BitVec 64:=zpb p.H (uk p)
theorem zA.heap9 {p:zb} (h:zA p):p.H.Objs.length≤9∧∀l∈p.H.Objs,l.length<1000000:=by
 have:=h.n
 have:=h.slots
 exact ⟨by omega,fun l hl=>by have:=(h.objs l hl).1;omega⟩
theorem zzm {p:zb} (h:zA p):zlt p=some (zuN p,()):=by
 have hr:=h.regs
 have hm:=h.mt
 rw [zsT,zsi (by omega) (fun r hr=>by have:=(h.reg r hr).1;omega),Option.bind_some,zrS h.heap9.1 h.heap9.2];rfl
theorem zfo {p:zb} (h:zA p) (o:Int):zK (zuN p) o=true↔Reach p.H (uk p) o:=ztN h.heap9.1 h.heap9.2 _ o
end
end Go.Pe.G
namespace Go.Pe.G
open Go.Pe
noncomputable section
def ziT (x:ze) (u j:Int):Prop:=(x.PC=5∨x.PC=6∨x.PC=8)→x.Obj=u→x.Slot≤j
def zqe (x:zc) (u j:Int):Prop:=(x.PC=36∨x.PC=37∨x.PC=38)→x.Obj=u→x.Slot≤j
def US (s:za) (u j:Int):Prop:=(∀(i:Nat) x,s.Ws[i]? =some x→ziT x u j)∧(∀(i:Nat) x,s.Ms[i]? =some x→zqe x u j)
def zsW (g:zC) (o:Int):Prop:=g.Out=0∧(g.PC=0∨g.PC=1)∧g.Obj=o
def zko (x:ze) (o:Int):Prop:=x.PC=6∧zsW x.G o
def VT (x:zc) (o:Int):Prop:=o∈x.Buf∨((x.PC=22∨((x.PC=1∨x.PC=3)∧x.Ret=22))∧x.Old=o)∨((x.PC=3∨x.PC=37)∧zsW x.G o)
def zmT (s:za) (o:Int):Prop:=(∃(i:Nat) (x:ze),s.Ws[i]? =some x∧zko x o)∨(∃(i:Nat) (x:zc),s.Ms[i]? =some x∧VT x o)
inductive znp (s:za) (W:Int→Int→Prop):Int→Prop
 | pend (o:Int) (h:zmT s o):znp s W o
 | white (u j o:Int) (hW: ¬W u j) (hj:yK s.H u j=true) (he:zO s.H u j=o) (hu: ¬zK s.T.Marks u=true) (hp:znp s W u):znp s W o
 | grey (u j o:Int) (hW: ¬W u j) (hj:yK s.H u j=true) (he:zO s.H u j=o) (hg:yD s.T u=1) (hs:US s u j):znp s W o
structure zr4 (s s':za) (W W':Int→Int→Prop):Prop where
 mono: ∀o,zK s.T.Marks o=true→zK s'.T.Marks o=true
 hp: ∀o,zmT s o→zK s'.T.Marks o=true∨zmT s' o
 he: ∀u j,¬W u j→yK s.H u j=true→(¬W' u j∧yK s'.H u j=true∧zO s'.H u j=zO s.H u j)∨(zO s.H u j=0∨zK s'.T.Marks (zO s.H u j)=true∨zmT s' (zO s.H u j))
 hg: ∀u j,¬W u j→yK s.H u j=true→yD s.T u=1→US s u j→(yD s'.T u=1∧US s' u j)∨(zO s.H u j=0∨zK s'.T.Marks (zO s.H u j)=true∨zmT s' (zO s.H u j))
 hn: ∀u j,¬W u j→yK s.H u j=true→¬zK s.T.Marks u=true→zK s'.T.Marks u=true→yD s'.T u=1∧US s' u j
theorem Y9 {h:zr} {u j:Int} (e:yK h u j=true):(1≤u∧u≤(h.Objs.length:Int))∧0≤j∧j<((zM h u).length:Int):=by
 unfold yK at e
 simp only [Bool.and_eq_true,decide_eq_true_eq] at e
 exact ⟨⟨e.1.1.1,e.1.1.2⟩,e.1.2,e.2⟩
theorem zr4.prot {s s':za} {W W':Int→Int→Prop} (P:zr4 s s' W W') {o:Int} (h:znp s W o):o≠0→zK s'.T.Marks o=true∨znp s' W' o:=by
 have cov: ∀v:Int,v≠0→(v=0∨zK s'.T.Marks v=true∨zmT s' v)→zK s'.T.Marks v=true∨znp s' W' v:=by
  rintro v h0 (e | e | e)
  ·exact absurd e h0
  ·exact .inl e
  ·exact .inr (.pend v e)
 induction h with
 | pend o h=>exact fun _=>(P.hp o h).imp id (fun h=> .pend o h)
 | white u j o hW hj he hu hp ih =>
  intro h0
  subst he
  have hu0:u≠0:=by have:=Y9 hj;omega
  rcases P.he u j hW hj with ⟨a,b,c⟩ | c
  ·by_cases hm:zK s'.T.Marks u=true
   ·obtain ⟨d,e⟩:=P.hn u j hW hj hu hm
    exact .inr (.grey u j _ a b c d e)
   ·rcases ih hu0 with h | h
    ·exact absurd h hm
    ·exact .inr (.white u j _ a b c hm h)
  ·exact cov _ h0 c
 | grey u j o hW hj he hg hs =>
  intro h0
  subst he
  rcases P.he u j hW hj with ⟨a,b,c⟩ | c
  ·rcases P.hg u j hW hj hg hs with ⟨d,e⟩ | c2
   ·exact .inr (.grey u j _ a b c d e)
   ·exact cov _ h0 c2
  ·exact cov _ h0 c
def zmy (n:Int) (x:ze):Prop:=(x.PC=5→0≤x.Slot∧x.Slot<n)∧(x.PC=6→1≤x.Slot∧x.Slot≤n)∧(x.PC=8→x.Slot=n)
def zse (n:Int) (x:zc):Prop:=(x.PC=36→0≤x.Slot∧x.Slot<n)∧(x.PC=37→1≤x.Slot∧x.Slot≤n)∧(x.PC=38→x.Slot=n)
def zo4 (p:zb) (s:za) (W:Int→Int→Prop) (m:Int) (x:zc):Prop :=
 ¬W (vz x (opM p m x).A) (opM p m x).S→((x.PC=21∨x.PC=22∨((x.PC=1∨x.PC=3)∧x.Ret=22))→x.Old=zO s.H (vz x (opM p m x).A) (opM p m x).S) ∧
  (x.PC=23→zO s.H (vz x (opM p m x).A) (opM p m x).S=0∨zK s.T.Marks (zO s.H (vz x (opM p m x).A) (opM p m x).S)=true∨zO s.H (vz x (opM p m x).A) (opM p m x).S∈x.Buf)
structure PI (p:zb) (s:za) (W:Int→Int→Prop):Prop where
 lv: ∀o,Reach p.H (uk p) o→zK s.T.Marks o=true∨znp s W o
 sw: ∀(i:Nat) x,s.Ws[i]? =some x→zmy p.H.Slots x
 sx: ∀(i:Nat) x,s.Ms[i]? =some x→zse p.H.Slots x
 cv: ∀(i:Nat) x,s.Ms[i]? =some x→zo4 p s W ((i:Int)+1) x
theorem zqk {s:za} {g:zC} {o:Int} (hmd:1≤g.Mode∧g.Mode≤3) (ho:1≤o∧o≤64) (hb:zK s.T.Black o=true→zK s.T.Marks o=true) (a:zsW g o) :
  zsW (zo s g).2 o∨zK (zo s g).1.T.Marks o=true:=by
 obtain ⟨h1,h2,h3⟩:=a
 unfold zo
 rw [if_neg (by omega),if_neg (by omega),if_neg (by omega),if_neg (by omega),if_neg (by omega),if_neg (by omega),if_neg (by omega)]
 split
 ·right
  show zK (vk s.T g.Obj).1.Marks o=true
  rw [h3]
  unfold vk
  split
  ·rename_i e
   exact Decidable.byContradiction fun hc=>((zbD ho).2 hc) e
  split
  ·exact (wp _ ho o).2 (.inr rfl)
  ·rename_i e
   exact hb (by unfold zK;simpa using e)
 ·left
  exact ⟨h1,.inr rfl,h3⟩
end
end Go.Pe.G
namespace Go.Pe.G
open Go.Pe
noncomputable section
theorem zBs {h:zr} {a i v u j:Int} (hne: ¬(u=a∧j=i)) (hi:yK h a i=true→0≤i):yK (uI h a i v) u j=yK h u j∧zO (uI h a i v) u j=zO h u j:=by
 have hl:=zas h a i v
 by_cases hc:yK h a i=true∧0≤v∧v≤(h.Objs.length:Int)
 ·have hs:=Y9 hc.1
  have e0:uI h a i v={h with Objs:=h.Objs.set (a-1).toNat ((zM h a).set i.toNat v)}:=by unfold uI;rw [if_pos hc]
  have es:1≤u→zM (uI h a i v) u=if u=a then (zM h a).set i.toNat v else zM h u:=fun hu=>by
   rw [e0]
   unfold zM
   rw [zi7 (by omega)]
   by_cases e:u=a
   ·rw [if_pos (by omega),if_pos e]
   ·rw [if_neg (by omega),if_neg e]
  have eh:yK (uI h a i v) u j=yK h u j:=by
   unfold yK
   rw [hl]
   by_cases hu:1≤u
   ·rw [es hu]
    by_cases e:u=a
    ·rw [if_pos e,List.length_set,e]
    ·rw [if_neg e]
   ·simp [hu]
  refine ⟨eh,?_⟩
  unfold zO
  rw [eh]
  split
  ·rename_i hj
   have hp:=Y9 hj
   rw [es hp.1.1]
   by_cases e:u=a
   ·rw [if_pos e,zi7 (by omega),if_neg (by
     intro e2
     exact hne ⟨e,by omega⟩),e]
   ·rw [if_neg e]
  ·rfl
 ·have e0:uI h a i v=h:=by unfold uI;rw [if_neg hc]
  rw [e0];exact ⟨rfl,rfl⟩
theorem zzi (h:zr) (u j:Int):(yK h u j=true→yK (xT h) u j=true)∧zO (xT h) u j=zO h u j:=by
 have hl:=zc3 h
 have e1:1≤u→u≤(h.Objs.length:Int)→zM (xT h) u=zM h u:=fun h1 h2=>by
  unfold zM xT
  rw [List.getD_eq_getElem?_getD,List.getD_eq_getElem?_getD,List.getElem?_append_left (by omega)]
 have e2:u=(h.Objs.length:Int)+1→zM (xT h) u=List.replicate h.Slots.toNat 0:=fun h1=>by
  unfold zM xT
  rw [List.getD_eq_getElem?_getD,List.getElem?_append_right (by omega),show (u-1).toNat-h.Objs.length=0 by omega]
  rfl
 have e3:yK h u j=true→yK (xT h) u j=true:=fun e=>by
  have hs:=Y9 e
  unfold yK
  rw [e1 hs.1.1 hs.1.2,hl]
  simp;omega
 refine ⟨e3,?_⟩
 by_cases c:yK h u j=true
 ·have hs:=Y9 c
  unfold zO
  rw [if_pos c,if_pos (e3 c),e1 hs.1.1 hs.1.2]
 ·unfold zO
  rw [if_neg c]
  split
  ·rename_i d
   have hs:=Y9 d
   by_cases hu:u≤(h.Objs.length:Int)
   ·refine absurd ?_ c
    rw [e1 hs.1.1 hu] at hs
    unfold yK;simp;omega
   ·rw [e2 (by omega),List.getD_eq_getElem?_getD]
    cases hx:(List.replicate h.Slots.toNat (0:Int))[j.toNat]? with
    | none=>rfl
    | some v=>exact List.eq_of_mem_replicate (List.mem_of_getElem? hx)
  ·rfl
theorem zyE (s:za) (m:Int) (x:zc):((zi s m x).1.H=s.H∧x.PC≠23)∨(x.PC=23∧(zi s m x).1.H=uI s.H (vz x (opM s.P m x).A) (opM s.P m x).S (vz x (opM s.P m x).R)∧(zi s m x).2.Buf=x.Buf)∨(x.PC=30∧(zi s m x).1.H=xT s.H):=by
 by_cases c:x.PC=23
 ·have e:zi s m x=zb5 s m x:=by
   unfold zi
   rw [if_neg (by omega),if_neg (by omega),if_neg (by omega),if_neg (by omega),if_neg (by omega),if_neg (by omega),if_neg (by omega),if_neg (by omega),if_pos c]
  rw [e];exact .inr (.inl ⟨c,rfl,rfl⟩)
 by_cases d:x.PC=30
 ·have e:zi s m x=YQ s m x:=by
   unfold zi
   rw [if_neg (by omega),if_neg (by omega),if_neg (by omega),if_neg (by omega),if_neg (by omega),if_neg (by omega),if_neg (by omega),if_neg (by omega),if_neg (by omega),if_pos d]
  rw [e]
  unfold YQ
  split
  ·split
   ·exact .inr (.inr ⟨d,rfl⟩)
   ·exact .inl ⟨rfl,c⟩
  ·exact .inl ⟨rfl,c⟩
 ·rcases zq4 s m x with h | h | h
  ·exact .inl ⟨h,c⟩
  ·exact absurd h c
  ·exact absurd h d
theorem zvy {p:zb} {nb:Nat} {s:za} {gh:Gh} {m:Int} {x:zc} (K:MX p s gh x) (O:XOk p nb m x) (hb: ∀o,zK s.T.Black o=true→zK s.T.Marks o=true) {o:Int} (h:VT x o):VT (zi s m x).2 o∨zK (zi s m x).1.T.Marks o=true:=by
 have hrt:=O.ret
 have hpc:=O.pc
 refine yI (motive:=fun r=>VT r.2 o∨zK r.1.T.Marks o=true) s m x ?_ ?_ ?_ ?_ ?_ ?_ ?_ ?_ ?_ ?_ ?_ ?_ ?_ ?_ ?_ ?_ ?_ ?_ ?_ ?_
 all_goals try (intro c)
 ·-- 0
  rcases h with h | ⟨h,_⟩ | ⟨h,_⟩
  ·left;left;unfold mu0 ZW;repeat' split
   all_goals exact h
  ·omega
  ·omega
 ·-- 1
  unfold mu1;dsimp only
  split
  ·rename_i hl
   rcases h with h | ⟨h,e⟩ | ⟨h,_⟩
   ·have:x.Buf=[]:=List.length_eq_zero_iff.1 hl
    rw [this] at h;cases h
   ·left;right;left;exact ⟨.inl (by show x.Ret=22;omega),e⟩
   ·omega
  ·rename_i hl
   rcases h with h | ⟨h,e⟩ | ⟨h,_⟩
   ·obtain ⟨i,hi⟩:=List.mem_iff_getElem?.1 h
    have hil:=(List.getElem?_eq_some_iff.1 hi).1
    by_cases hlast:i=x.Buf.length-1
    ·left;right;right
     refine ⟨.inl rfl,rfl,.inl rfl,?_⟩
     show x.Buf.getD (x.Buf.length-1) 0=o
     rw [List.getD_eq_getElem?_getD,←hlast,hi];rfl
    ·left;left
     show o∈x.Buf.take (x.Buf.length-1)
     exact List.mem_of_getElem? (i:=i) (by rw [List.getElem?_take_of_lt (by omega)];exact hi)
   ·left;right;left;exact ⟨.inr ⟨.inr rfl,by show x.Ret=22;omega⟩,e⟩
   ·omega
 ·rcases h with h | ⟨h,_⟩ | ⟨h,_⟩
  ·left;left;exact h
  ·omega
  ·omega
 ·-- 3
  obtain ⟨G,gm,g0⟩:=K.p3 c
  unfold mu3;dsimp only
  rcases h with h | ⟨h,e⟩ | ⟨_,h⟩
  ·left;left;split<;>exact h
  ·left;right;left
   split
   ·exact ⟨.inr ⟨.inl rfl,by show x.Ret=22;omega⟩,e⟩
   ·exact ⟨.inr ⟨.inr c,by show x.Ret=22;omega⟩,e⟩
  ·rcases zqk G.md (h.2.2▸G.ob) (hb o) h with h' | h'
   ·left;right;right
    rw [if_neg (by have:=h'.1;omega)]
    exact ⟨.inl c,h'⟩
   ·exact .inr h'
 ·rcases h with h | ⟨h,_⟩ | ⟨h,_⟩
  ·left;left;exact h
  ·omega
  ·omega
 ·rcases h with h | ⟨h,_⟩ | ⟨h,_⟩
  ·left;left;unfold Vo;dsimp only;split<;>exact h
  ·omega
  ·omega
 ·rcases h with h | ⟨h,_⟩ | ⟨h,_⟩
  ·left;left;unfold WT;dsimp only;split<;>exact h
  ·omega
  ·omega
 ·-- 22
  unfold UD;dsimp only
  rcases h with h | ⟨h,e⟩ | ⟨h,_⟩
  ·left;left;split
   ·exact h
   ·exact List.mem_append_left _ h
  ·left
   split
   ·right;left;exact ⟨.inr ⟨.inl rfl,rfl⟩,e⟩
   ·left;exact List.mem_append_right _ (by rw [e];simp)
  ·omega
 ·rcases h with h | ⟨h,_⟩ | ⟨h,_⟩
  ·left;left;exact h
  ·omega
  ·omega
 ·rcases h with h | ⟨h,_⟩ | ⟨h,_⟩
  ·left;left;unfold YQ;repeat' split
   all_goals exact h
  ·omega
  ·omega
 ·rcases h with h | ⟨h,_⟩ | ⟨h,_⟩
  ·left;left;unfold Uc;dsimp only;split<;>exact h
  ·omega
  ·omega
 ·rcases h with h | ⟨h,_⟩ | ⟨h,_⟩
  ·left;left;unfold Uq;dsimp only;repeat' split
   all_goals exact h
  ·omega
  ·omega
 ·rcases h with h | ⟨h,_⟩ | ⟨h,_⟩
  ·left;left;exact h
  ·omega
  ·omega
 ·rcases h with h | ⟨h,_⟩ | ⟨h,_⟩
  ·left;left;unfold Up;dsimp only;split<;>exact h
  ·omega
  ·omega
 ·rcases h with h | ⟨h,_⟩ | ⟨h,_⟩
  ·left;left;unfold Ui;dsimp only;split<;>exact h
  ·omega
  ·omega
 ·rcases h with h | ⟨h,_⟩ | ⟨h,_⟩
  ·left;left;unfold zaB;dsimp only;split<;>exact h
  ·omega
  ·omega
 ·-- 37
  obtain ⟨G,gm,g0⟩:=K.p37 c
  unfold XU;dsimp only
  rcases h with h | ⟨h,e⟩ | ⟨_,h⟩
  ·left;left;split<;>exact h
  ·omega
  ·rcases zqk G.md (h.2.2▸G.ob) (hb o) h with h' | h'
   ·left;right;right
    rw [if_neg (by have:=h'.1;omega)]
    exact ⟨.inr c,h'⟩
   ·exact .inr h'
 ·rcases h with h | ⟨h,_⟩ | ⟨h,_⟩
  ·left;left;exact h
  ·omega
  ·omega
 ·rcases h with h | ⟨h,_⟩ | ⟨h,_⟩
  ·left;left;exact h
  ·omega
  ·omega
 ·exact .inl h
theorem zzh {p:zb} {nb:Nat} {s:za} {gh:Gh} (hsl:s.H.Slots=p.H.Slots) (h1:1≤p.H.Slots∧p.H.Slots≤2) {m:Int} {x:zc} (O:XOk p nb m x) (S:zse p.H.Slots x) :
  zse p.H.Slots (zi s m x).2∧∀u j,0≤j→zqe x u j→zqe (zi s m x).2 u j∨zO s.H u j=0∨VT (zi s m x).2 (zO s.H u j):=by
 have no: ∀ {y:zc},y.PC≠36→y.PC≠37→y.PC≠38→zse p.H.Slots y∧∀u j,0≤j→zqe x u j→zqe y u j∨zO s.H u j=0∨VT y (zO s.H u j) :=
  fun a b c=>⟨⟨fun e=>absurd e a,fun e=>absurd e b,fun e=>absurd e c⟩,fun u j _ _=> .inl (fun e=>by omega)⟩
 have on: ∀k:Int,(onM s k=36∧k≠p.H.Slots)∨(onM s k=38∧k=p.H.Slots):=fun k=>by
  unfold onM
  rw [hsl]
  split
  ·rename_i e;exact .inr ⟨rfl,e⟩
  ·rename_i e;exact .inl ⟨rfl,e⟩
 refine yI (motive:=fun r=>zse p.H.Slots r.2∧∀u j,0≤j→zqe x u j→zqe r.2 u j∨zO s.H u j=0∨VT r.2 (zO s.H u j)) s m x ?_ ?_ ?_ ?_ ?_ ?_ ?_ ?_ ?_ ?_ ?_ ?_ ?_ ?_ ?_ ?_ ?_ ?_ ?_ ?_
 all_goals try (intro c)
 ·unfold mu0 ZW;repeat' split
  all_goals exact no (by (try dsimp only [setM]);omega) (by (try dsimp only [setM]);omega) (by (try dsimp only [setM]);omega)
 ·have:=O.ret (.inl c)
  unfold mu1;dsimp only;split
  ·exact no (by dsimp only;omega) (by dsimp only;omega) (by dsimp only;omega)
  ·exact no (by dsimp only;omega) (by dsimp only;omega) (by dsimp only;omega)
 ·unfold mu2;exact no (by dsimp only;omega) (by dsimp only;omega) (by dsimp only;omega)
 ·unfold mu3;dsimp only;split
  ·exact no (by dsimp only;omega) (by dsimp only;omega) (by dsimp only;omega)
  ·exact no (by dsimp only;omega) (by dsimp only;omega) (by dsimp only;omega)
 ·unfold zcS;exact no (by dsimp only [setM];omega) (by dsimp only [setM];omega) (by dsimp only [setM];omega)
 ·unfold Vo;dsimp only;split
  ·exact no (by dsimp only [xe];omega) (by dsimp only [xe];omega) (by dsimp only [xe];omega)
  ·exact no (by dsimp only;omega) (by dsimp only;omega) (by dsimp only;omega)
 ·unfold WT;dsimp only;split
  ·exact no (by dsimp only;omega) (by dsimp only;omega) (by dsimp only;omega)
  ·exact no (by dsimp only;omega) (by dsimp only;omega) (by dsimp only;omega)
 ·unfold UD;dsimp only;split
  ·exact no (by dsimp only;omega) (by dsimp only;omega) (by dsimp only;omega)
  ·exact no (by dsimp only;omega) (by dsimp only;omega) (by dsimp only;omega)
 ·unfold zb5;exact no (by dsimp only [xe];omega) (by dsimp only [xe];omega) (by dsimp only [xe];omega)
 ·unfold YQ;split
  ·split
   ·exact no (by dsimp only [setM];omega) (by dsimp only [setM];omega) (by dsimp only [setM];omega)
   ·exact no (by dsimp only [xe];omega) (by dsimp only [xe];omega) (by dsimp only [xe];omega)
  ·exact no (by dsimp only;omega) (by dsimp only;omega) (by dsimp only;omega)
 ·unfold Uc;dsimp only;split
  ·exact no (by dsimp only;omega) (by dsimp only;omega) (by dsimp only;omega)
  ·exact no (by dsimp only;omega) (by dsimp only;omega) (by dsimp only;omega)
 ·unfold Uq;dsimp only;repeat' split
  all_goals exact no (by dsimp only;omega) (by dsimp only;omega) (by dsimp only;omega)
 ·unfold zcN;exact no (by dsimp only;omega) (by dsimp only;omega) (by dsimp only;omega)
 ·unfold Up;dsimp only;split
  ·exact no (by dsimp only;omega) (by dsimp only;omega) (by dsimp only;omega)
  ·exact no (by dsimp only;omega) (by dsimp only;omega) (by dsimp only;omega)
 ·unfold Ui;dsimp only;split
  ·exact no (by dsimp only;omega) (by dsimp only;omega) (by dsimp only;omega)
  ·exact ⟨⟨fun _=>⟨Int.le_refl _,by show (0:Int)<_;omega⟩,fun e=>absurd e (by show ¬(36:Int)=37;decide),fun e=>absurd e (by show ¬(36:Int)=38;decide)⟩,fun u j h0 _=> .inl (fun _ _=>h0)⟩
 ·-- 36
  have hs:=S.1 c
  have w:wc (x.Slot+1)=x.Slot+1:=xg (by omega) (by omega)
  unfold zaB;dsimp only
  rw [w]
  split
  ·rename_i hv
   refine ⟨⟨fun e=> ?_,fun e=> ?_,fun e=> ?_⟩,fun u j h0 h=> ?_⟩
   ·dsimp only at e ⊢;have:=on (x.Slot+1);omega
   ·dsimp only at e ⊢;have:=on (x.Slot+1);omega
   ·dsimp only at e ⊢;have:=on (x.Slot+1);omega
   ·by_cases hu:x.Obj=u
    ·have hle:=h (.inl c) hu
     by_cases hj:j=x.Slot
     ·right;left;rw [←hu,hj];exact hv
     ·left;intro _ _;show x.Slot+1≤j;omega
    ·left;intro _ e;exact absurd e hu
  ·rename_i hv
   refine ⟨⟨fun e=>absurd e (by show ¬(37:Int)=36;decide),fun _=>⟨by show 1≤x.Slot+1;omega,by show x.Slot+1≤_;omega⟩,fun e=>absurd e (by show ¬(37:Int)=38;decide)⟩,fun u j h0 h=> ?_⟩
   by_cases hu:x.Obj=u
   ·have hle:=h (.inl c) hu
    by_cases hj:j=x.Slot
    ·right;right;right;right
     exact ⟨.inr rfl,rfl,.inl rfl,by rw [←hu,hj];rfl⟩
    ·left;intro _ _;show x.Slot+1≤j;omega
   ·left;intro _ e;exact absurd e hu
 ·-- 37
  have hs:=S.2.1 c
  unfold XU;dsimp only
  split
  ·refine ⟨⟨fun e=> ?_,fun e=> ?_,fun e=> ?_⟩,fun u j h0 h=> .inl (fun _ e=>h (.inr (.inl c)) e)⟩
   ·dsimp only at e ⊢;have:=on x.Slot;omega
   ·dsimp only at e ⊢;have:=on x.Slot;omega
   ·dsimp only at e ⊢;have:=on x.Slot;omega
  ·exact ⟨⟨fun e=>absurd e (by show ¬x.PC=36;omega),fun _=>hs,fun e=>absurd e (by show ¬x.PC=38;omega)⟩,fun u j h0 h=> .inl (fun _ e=>h (.inr (.inl c)) e)⟩
 ·unfold zel;exact no (by dsimp only;omega) (by dsimp only;omega) (by dsimp only;omega)
 ·unfold ze8;exact no (by dsimp only;omega) (by dsimp only;omega) (by dsimp only;omega)
 ·exact ⟨S,fun u j _ h=> .inl h⟩
theorem U2.mono {s s':za} (F:U2 s s') {o:Int} (h:zK s.T.Marks o=true):zK s'.T.Marks o=true:=by
 rcases F with ⟨e,_⟩ | ⟨q,_,_,e,_⟩ | ⟨q,_,e,_⟩ | ⟨_,_,e⟩
 ·rw [e];exact h
 ·rw [e];exact (v8 _ _ _).2 (.inl h)
 ·rw [e];exact h
 ·rw [e];exact (v8 _ _ _).2 (.inl h)
theorem zzz {p:zb} {s:za} (hP:s.P=p) {W:Int→Int→Prop} {m:Int} {x:zc} (K:zo4 p s W m x) (mono: ∀o,zK s.T.Marks o=true→zK (zi s m x).1.T.Marks o=true) (hr:x.PC=1∨x.PC=3→x.Ret=2∨x.Ret=22) :
  ∀l:List zc,zo4 p {(zi s m x).1 with Ms:=l} (fun u j=>W u j∨(x.PC=23∧u=vz x (opM p m x).A∧j=(opM p m x).S)) m (zi s m x).2:=by
 intro l
 have no: ∀ {t:za} {y:zc},¬(y.PC=21∨y.PC=22∨((y.PC=1∨y.PC=3)∧y.Ret=22))→y.PC≠23→zo4 p t (fun u j=>W u j∨(x.PC=23∧u=vz x (opM p m x).A∧j=(opM p m x).S)) m y :=
  fun a b _=>⟨fun e=>absurd e a,fun e=>absurd e b⟩
 have keep: ∀ {t:za} {y:zc},y.IP=x.IP→y.Regs=x.Regs→vz y (opM p m y).A=vz x (opM p m x).A∧(opM p m y).S=(opM p m x).S:=fun e1 e2=>by
  unfold opM vz;rw [e1,e2];exact ⟨rfl,rfl⟩
 revert mono
 refine yI (motive:=fun r=>(∀o,zK s.T.Marks o=true→zK r.1.T.Marks o=true)→zo4 p {r.1 with Ms:=l} (fun u j=>W u j∨(x.PC=23∧u=vz x (opM p m x).A∧j=(opM p m x).S)) m r.2) s m x ?_ ?_ ?_ ?_ ?_ ?_ ?_ ?_ ?_ ?_ ?_ ?_ ?_ ?_ ?_ ?_ ?_ ?_ ?_ ?_
 ·intro c _;unfold mu0 ZW;repeat' split
  all_goals exact no (by (try dsimp only [setM]);omega) (by (try dsimp only [setM]);omega)
 ·intro c _
  have hr:=hr (.inl c)
  unfold mu1;dsimp only
  intro hW
  split
  ·refine ⟨fun e=> ?_,fun e=>by dsimp only at e;omega⟩
   have e:x.Ret=21∨x.Ret=22∨((x.Ret=1∨x.Ret=3)∧x.Ret=22):=e
   exact (K (fun h=>hW (by split<;>exact .inl h))).1 (.inr (.inr ⟨.inl c,by omega⟩))
  ·refine ⟨fun e=> ?_,fun e=>by dsimp only at e;omega⟩
   have e:(3:Int)=21∨(3:Int)=22∨(((3:Int)=1∨(3:Int)=3)∧x.Ret=22):=e
   exact (K (fun h=>hW (by split<;>exact .inl h))).1 (.inr (.inr ⟨.inl c,by omega⟩))
 ·intro c _;unfold mu2;exact no (by (try dsimp only);omega) (by (try dsimp only);omega)
 ·intro c _
  unfold mu3;dsimp only
  intro hW
  have eH:(zo s x.G).1.H=s.H:=by rw [Xw]
  split
  ·refine ⟨fun e=> ?_,fun e=>by dsimp only at e;omega⟩
   have e:(1:Int)=21∨(1:Int)=22∨(((1:Int)=1∨(1:Int)=3)∧x.Ret=22):=e
   show x.Old=zO (zo s x.G).1.H _ _
   rw [eH]
   exact (K (fun h=>hW (by split<;>exact .inl h))).1 (.inr (.inr ⟨.inr c,by omega⟩))
  ·refine ⟨fun e=> ?_,fun e=>by dsimp only at e;omega⟩
   have e:x.PC=21∨x.PC=22∨((x.PC=1∨x.PC=3)∧x.Ret=22):=e
   show x.Old=zO (zo s x.G).1.H _ _
   rw [eH]
   exact (K (fun h=>hW (by split<;>exact .inl h))).1 (.inr (.inr ⟨.inr c,by omega⟩))
 ·intro c _;unfold zcS;exact no (by (try dsimp only [setM]);omega) (by (try dsimp only [setM]);omega)
 ·intro c _;unfold Vo;dsimp only;split
  ·exact no (by (try dsimp only [xe]);omega) (by (try dsimp only [xe]);omega)
  ·intro hW
   refine ⟨fun _=> ?_,fun e=>by dsimp only at e;omega⟩
   show zpo s m x=_
   unfold zpo
   rw [hP];rfl
 ·intro c mono;unfold WT;dsimp only;split
  ·rename_i h
   intro hW
   have k:=(K (fun h=>hW (.inl h))).1 (.inl c)
   refine ⟨fun e=>by dsimp only at e;omega,fun _=> ?_⟩
   show zO s.H (vz x (opM p m x).A) (opM p m x).S=0∨zK s.T.Marks (zO s.H (vz x (opM p m x).A) (opM p m x).S)=true∨_
   rw [←k]
   rcases h with h | h
   ·exact .inl h
   ·right;left
    unfold yD at h
    split at h
    ·rename_i h2;exact ((VE _ _ _).1 h2).1
    ·split at h
     ·assumption
     ·exact absurd rfl h
  ·intro hW
   exact ⟨fun _=>(K (fun h=>hW (.inl h))).1 (.inl c),fun e=>by dsimp only at e;omega⟩
 ·intro c mono;unfold UD;dsimp only;split
  ·intro hW
   exact ⟨fun _=>(K (fun h=>hW (.inl h))).1 (.inr (.inl c)),fun e=>by dsimp only at e;omega⟩
  ·intro hW
   have k:=(K (fun h=>hW (.inl h))).1 (.inr (.inl c))
   refine ⟨fun e=>by dsimp only at e;omega,fun _=> .inr (.inr ?_)⟩
   show zO s.H (vz x (opM p m x).A) (opM p m x).S∈x.Buf++[x.Old]
   rw [←k];simp
 ·intro c _;unfold zb5;exact no (by (try dsimp only [xe]);omega) (by (try dsimp only [xe]);omega)
 ·intro c _;unfold YQ;split
  ·split
   ·exact no (by (try dsimp only [setM]);omega) (by (try dsimp only [setM]);omega)
   ·exact no (by (try dsimp only [xe]);omega) (by (try dsimp only [xe]);omega)
  ·exact no (by (try dsimp only);omega) (by (try dsimp only);omega)
 ·intro c _;unfold Uc;dsimp only;split
  ·exact no (by (try dsimp only);omega) (by (try dsimp only);omega)
  ·exact no (by (try dsimp only);omega) (by (try dsimp only);omega)
 ·intro c _;unfold Uq;dsimp only;repeat' split
  all_goals exact no (by (try dsimp only);omega) (by (try dsimp only);omega)
 ·intro c _;unfold zcN;exact no (by (try dsimp only);omega) (by (try dsimp only);omega)
 ·intro c _;unfold Up;dsimp only;split
  ·exact no (by (try dsimp only);omega) (by (try dsimp only);omega)
  ·exact no (by (try dsimp only);omega) (by (try dsimp only);omega)
 ·intro c _;unfold Ui;dsimp only;split
  ·exact no (by (try dsimp only);omega) (by (try dsimp only);omega)
  ·exact no (by (try dsimp only);omega) (by (try dsimp only);omega)
 ·intro c _;unfold zaB;dsimp only
  have:=ZX s (wc (x.Slot+1))
  split
  ·exact no (by (try dsimp only);omega) (by (try dsimp only);omega)
  ·exact no (by (try dsimp only);omega) (by (try dsimp only);omega)
 ·intro c _;unfold XU;dsimp only
  have:=ZX s x.Slot
  split
  ·exact no (by (try dsimp only);omega) (by (try dsimp only);omega)
  ·exact no (by (try dsimp only);omega) (by (try dsimp only);omega)
 ·intro c _;unfold zel;exact no (by (try dsimp only);omega) (by (try dsimp only);omega)
 ·intro c _;unfold ze8;exact no (by (try dsimp only);omega) (by (try dsimp only);omega)
 ·intro _ hW
  exact K (fun h=>hW (.inl h))
end
end Go.Pe.G
namespace Go.Pe.G
open Go.Pe
noncomputable section
theorem zrq {p:zb} {nb k:Nat} {s s':za} {gh:Gh} (G:FG p nb k s gh) (F:U2 s s') {u:Int} (hu:u≤(s.H.Objs.length:Int)) (h:yD s.T u=1):yD s'.T u=1∨(yD s.T u=1∧s'.T={s.T with Black:=s.T.Black|||bit u}):=by
 have ht:=(uV _ _).1 h
 rcases F with ⟨e,_⟩ | ⟨q,_,_,e,_⟩ | ⟨q,hq,e,_⟩ | ⟨_,_,e⟩
 ·left;rw [e];exact h
 ·left;rw [e,uV];exact ⟨(v8 _ _ _).2 (.inl ht.1),ht.2⟩
 ·by_cases hqu:u=q
  ·right;subst hqu;exact ⟨h,e⟩
  ·left;rw [e,uV];exact ⟨ht.1,fun hb=>(Yk hb).elim ht.2 (fun e=>hqu e)⟩
 ·left;rw [e,uV]
  exact ⟨(v8 _ _ _).2 (.inl ht.1),fun hb=>(Yk hb).elim ht.2 (fun e=>by omega)⟩
theorem zpY {p:zb} {nb k:Nat} {s s':za} {gh:Gh} (G:FG p nb k s gh) (F:U2 s s') {u:Int} (hu:u≤(s.H.Objs.length:Int)) (h: ¬zK s.T.Marks u=true) (h':zK s'.T.Marks u=true):yD s'.T u=1:=by
 have nb: ¬zK s.T.Black u=true:=fun e=>h (G.B.blk u e)
 rcases F with ⟨e,_⟩ | ⟨q,_,_,e,_⟩ | ⟨q,hq,e,_⟩ | ⟨_,_,e⟩
 ·rw [e] at h';exact absurd h' h
 ·rw [uV];refine ⟨h',?_⟩;rw [e];exact nb
 ·rw [e] at h';exact absurd h' h
 ·rw [e] at h'
  rcases Yk h' with h2 | h2
  ·exact absurd h2 h
  ·omega
theorem zxv {p:zb} {nb:Nat} {s:za} (E:EOk p nb s) {u j:Int} (h:yK s.H u j=true):0≤j∧j<p.H.Slots:=by
 have hs:=Y9 h
 have hm:zM s.H u∈s.H.Objs:=by
  unfold zM
  rw [List.getD_eq_getElem?_getD,List.getElem?_eq_getElem (show (u-1).toNat<s.H.Objs.length by omega)]
  exact List.getElem_mem _
 have h1:=(E.H.objs _ hm).1
 have h2:=E.H.slots
 omega
theorem zBy {s:za} {m:Int} {x:zc} (c:x.PC=3):(zi s m x).2.PC=1∨(zi s m x).2.PC=3:=by
 unfold zi
 rw [if_neg (by omega),if_neg (by omega),if_neg (by omega),if_pos c]
 unfold mu3;dsimp only
 split
 ·exact .inl rfl
 ·exact .inr c
theorem zzK {s:za} {m:Int} {x:zc} (c:x.PC=37):(zi s m x).2.Obj=x.Obj:=by
 have e37:zi s m x=XU s m x:=by
  unfold zi
  rw [if_neg (by omega),if_neg (by omega),if_neg (by omega),if_neg (by omega),if_neg (by omega),if_neg (by omega),if_neg (by omega),if_neg (by omega),if_neg (by omega),if_neg (by omega),if_neg (by omega),if_neg (by omega),if_neg (by omega),if_neg (by omega),if_neg (by omega),if_neg (by omega),if_pos c]
 rw [e37]
 unfold XU;dsimp only
 split<;>rfl
def zxC (s:za) (m:Int) (x:zc) (N C:List Int):Prop :=
 (N=[]∧C=[]∧(zi s m x).1.T=s.T)∨(N=[x.G.Obj]∧C=[]∧(x.PC=3∨x.PC=37)∧¬(s.T.Marks|||bit x.G.Obj=s.T.Marks)∧(zi s m x).1.T={s.T with Marks:=s.T.Marks|||bit x.G.Obj})∨(N=[]∧C=[x.Obj]∧x.PC=38∧(zi s m x).1.T=wz s.T x.Obj) ∨
   (N=[]∧C=[]∧x.PC=30∧YU s.H s.P.Most=true∧(zi s m x).1.H=xT s.H∧(zi s m x).1.T=YL s.T (wc (s.H.Objs.length+1)))
theorem FG.fresh {p:zb} (hp:zA p) {nb k:Nat} {s:za} {gh:Gh} (G:FG p nb k s gh):YL s.T (wc (s.H.Objs.length+1))=⟨s.T.Marks|||bit ((s.H.Objs.length:Int)+1),s.T.Black|||bit ((s.H.Objs.length:Int)+1)⟩∧¬zK s.T.Marks ((s.H.Objs.length:Int)+1)=true∧(s.H.Objs.length:Int)≤9:=by
 have hN0:=G.E.H.n
 have hM0:=hp.most
 have hn6:=hp.n
 have nm: ¬zK s.T.Marks ((s.H.Objs.length:Int)+1)=true:=fun e=>by have:=G.mrk _ e;omega
 have hw:wc ((s.H.Objs.length:Int)+1)=(s.H.Objs.length:Int)+1:=xg (by omega) (by omega)
 rw [hw,zqS (by omega) nm (fun e=>nm (G.B.blk _ e))]
 exact ⟨rfl,nm,by omega⟩
theorem zzI {p:zb} (hp:zA p) {nb k:Nat} {s:za} {gh:Gh} (G:FG p nb k s gh) {m:Int} {i:Nat} {x:zc} (hx:s.Ms[i]? =some x) {N C:List Int} (hT:zxC s m x N C) {u:Int} (hg:yD s.T u=1)
  (h:(zi s m x).1.T={s.T with Black:=s.T.Black|||bit u}):x.PC=38∧x.Obj=u:=by
 have hb:=((uV _ _).1 hg).2
 have hu:=(wp s.T.Black (zhP hg) u).2 (.inr rfl)
 rcases hT with ⟨_,_,e⟩ | ⟨_,_,_,_,e⟩ | ⟨_,_,c,e⟩ | ⟨_,_,_,_,e1,e⟩
 ·rw [e] at h
  have:=congrArg zt.Black h
  exact absurd (by rw [this];exact hu) hb
 ·rw [e] at h
  have:=congrArg zt.Black h
  exact absurd (by rw [this];exact hu) hb
 ·have hob:yD s.T x.Obj=1:=G.grey (zgC hx (by unfold z5;rw [Wl (.inr c)];simp))
  rw [e] at h
  unfold wz at h
  rw [if_pos hob] at h
  have hbb:s.T.Black|||bit x.Obj=s.T.Black|||bit u:=congrArg zt.Black h
  refine ⟨c,?_⟩
  rw [←hbb] at hu
  rcases Yk hu with h2 | h2
  ·exact absurd h2 hb
  ·exact h2.symm
 ·obtain ⟨f1,f2,f3⟩:=G.fresh hp
  rw [e,f1] at h
  have:s.T.Marks|||bit ((s.H.Objs.length:Int)+1)=s.T.Marks:=congrArg zt.Marks h
  exact absurd (by rw [←this];exact (wp _ (by omega) _).2 (.inr rfl)) f2
theorem zz4 {p:zb} (hp:zA p) {nb k:Nat} {s:za} {gh:Gh} (G:FG p nb k s gh) {m:Int} {x:zc} {N C:List Int} (hT:zxC s m x N C) {u:Int} (hu:u≤(s.H.Objs.length:Int)) (h0: ¬zK s.T.Marks u=true) (h1:zK (zi s m x).1.T.Marks u=true):x.PC=3∨x.PC=37:=by
 rcases hT with ⟨_,_,e⟩ | ⟨_,_,c,_,e⟩ | ⟨_,_,c,e⟩ | ⟨_,_,c,_,_,e⟩
 ·rw [e] at h1;exact absurd h1 h0
 ·exact c
 ·rw [e,(zfG _ _).1] at h1;exact absurd h1 h0
 ·obtain ⟨f1,f2,f3⟩:=G.fresh hp
  rw [e,f1] at h1
  rcases Yk h1 with h | h
  ·exact absurd h h0
  ·omega
theorem zte {p:zb} {nb k:Nat} {s:za} {gh:Gh} (G:FG p nb k s gh) {i:Nat} {y:ze} (hy:s.Ws[i]? =some y) (hpc:y.PC=5∨y.PC=6∨y.PC=8):zK s.T.Marks y.Obj=true:=by
 have hg:yD s.T y.Obj=1:=G.grey (zlY hy (by
  unfold zQ
  rcases hpc with e | e | e
  ·rw [YM (.inl e)];simp
  ·rw [zo1 e];simp
  ·rw [YM (.inr e)];simp))
 exact ((uV _ _).1 hg).1
theorem zs8 {p:zb} {nb k:Nat} {s:za} {gh:Gh} (G:FG p nb k s gh) {i:Nat} {y:zc} (hy:s.Ms[i]? =some y) (hpc:y.PC=36∨y.PC=37∨y.PC=38):zK s.T.Marks y.Obj=true:=by
 have hg:yD s.T y.Obj=1:=G.grey (zgC hy (by
  unfold z5
  rcases hpc with e | e | e
  ·rw [Wl (.inl e)];simp
  ·rw [zlX e];simp
  ·rw [Wl (.inr e)];simp))
 exact ((uV _ _).1 hg).1
theorem PI.mutator {p:zb} (hp:zA p) {nb k:Nat} {s:za} {gh:Gh} (hk:k<4294960000) (G:FG p nb k s gh) {W:Int→Int→Prop} (I:PI p s W) {m:Int} (hm:1≤m∧m≤p.Mutators) (hd:s.Done=false): ∃W',PI p (zu s m) W':=by
 obtain ⟨gh',G',F,x,hx,N,C,hbag,hT⟩:=G.mutator hp hk hm hd
 have hT:zxC s m x N C:=hT
 have hml:=G.E.ml
 have hsl:=hp.slots
 have hi:(m-1).toNat<s.Ms.length:=(List.getElem?_eq_some_iff.1 hx).1
 have ei:(((m-1).toNat:Nat):Int)+1=m:=by omega
 have eS:zu s m={(zi s m x).1 with Ms:=s.Ms.set (m-1).toNat (zi s m x).2}:=by
  unfold zu
  rw [if_neg (by rw [hd];rintro (e | e | e)<;>first | cases e | omega),hx]
 have hMX:=G.M _ x hx
 have hXO:=G.E.X _ x hx
 have hcv:=I.cv _ x hx
 rw [ei] at hXO hcv
 have hP:=G.E.S.P
 have eH:(zu s m).H=(zi s m x).1.H:=by rw [eS]
 have eT:(zu s m).T=(zi s m x).1.T:=by rw [eS]
 have eW:(zu s m).Ws=s.Ws:=by rw [eS];show (zi s m x).1.Ws=_;rw [zdn]
 have eX:(zu s m).Ms=s.Ms.set (m-1).toNat (zi s m x).2:=by rw [eS]
 have mono: ∀o,zK s.T.Marks o=true→zK (zu s m).T.Marks o=true:=fun o h=>F.mono h
 obtain ⟨sl1,sl2⟩:=zzh (s:=s) (m:=m) (gh:=gh) G.E.H.slots hsl hXO (I.sx _ x hx)
 have here:(zu s m).Ms[(m-1).toNat]? =some (zi s m x).2:=by rw [eX];exact List.getElem?_set_self hi
 have there: ∀(i:Nat) y,i≠(m-1).toNat→s.Ms[i]? =some y→(zu s m).Ms[i]? =some y:=fun i y hne h=>by rw [eX,List.getElem?_set_ne (fun e=>hne e.symm)];exact h
 have back: ∀(i:Nat) y,(zu s m).Ms[i]? =some y→(i=(m-1).toNat∧y=(zi s m x).2)∨(i≠(m-1).toNat∧s.Ms[i]? =some y):=fun i y h=>by
  rw [eX] at h
  by_cases hne:i=(m-1).toNat
  ·subst hne
   rw [List.getElem?_set_self hi] at h
   injection h with h
   exact .inl ⟨rfl,h.symm⟩
  ·rw [List.getElem?_set_ne (fun e=>hne e.symm)] at h
   exact .inr ⟨hne,h⟩
 have heapS: ∀u j,¬(x.PC=23∧u=vz x (opM p m x).A∧j=(opM p m x).S)→(yK s.H u j=true→yK (zu s m).H u j=true)∧zO (zu s m).H u j=zO s.H u j:=fun u j hne=>by
  rw [eH]
  rcases zyE s m x with ⟨e,_⟩ | ⟨c,e,_⟩ | ⟨_,e⟩
  ·rw [e];exact ⟨id,rfl⟩
  ·rw [e,hP]
   obtain ⟨a,b⟩:=zBs (h:=s.H) (a:=vz x (opM p m x).A) (i:=(opM p m x).S) (v:=vz x (opM p m x).R) (u:=u) (j:=j) (fun e=>hne ⟨c,e⟩) (fun e=>(Y9 e).2.1)
   exact ⟨fun h=>a.trans h,b⟩
  ·rw [e];exact zzi _ _ _
 have P:zr4 s (zu s m) W (fun u j=>W u j∨(x.PC=23∧u=vz x (opM p m x).A∧j=(opM p m x).S)):=by
  refine ⟨mono,fun o h=> ?_,fun u j hW hj=> ?_,fun u j hW hj hg hu=> ?_,fun u j hW hj hm0 hm1=> ?_⟩
  ·rcases h with ⟨i,y,hy,h⟩ | ⟨i,y,hy,h⟩
   ·right;left;exact ⟨i,y,by rw [eW];exact hy,h⟩
   ·by_cases hne:i=(m-1).toNat
    ·subst hne
     rw [hx] at hy;injection hy with hy;subst hy
     rcases zvy (m:=m) hMX hXO G.B.blk h with h | h
     ·right;right;exact ⟨_,_,here,h⟩
     ·left;rw [eT];exact h
    ·right;right;exact ⟨i,y,there i y hne hy,h⟩
  ·by_cases hc:x.PC=23∧u=vz x (opM p m x).A∧j=(opM p m x).S
   ·obtain ⟨c,rfl,rfl⟩:=hc
    right
    rcases (hcv hW).2 c with h | h | h
    ·exact .inl h
    ·exact .inr (.inl (mono _ h))
    ·right;right;right
     refine ⟨_,_,here,.inl ?_⟩
     rcases zyE s m x with ⟨_,e⟩ | ⟨_,_,e⟩ | ⟨e,_⟩
     ·exact absurd c e
     ·rw [e];exact h
     ·omega
   ·left
    obtain ⟨a,b⟩:=heapS u j hc
    exact ⟨fun h=>h.elim hW hc,a hj,b⟩
  ·have hpos:=Y9 hj
   have hrow:=zxv G.E hj
   have htint:yD (zu s m).T u=1:=by
    rcases zrq G F hpos.1.2 hg with h | ⟨_,h⟩
    ·exact h
    ·exfalso
     obtain ⟨c,ho⟩:=zzI hp G hx hT hg (by rw [←eT];exact h)
     have hle:=hu.2 _ x hx (.inr (.inr c)) ho
     have:=(I.sx _ x hx).2.2 c
     omega
   rcases sl2 u j hpos.2.1 (hu.2 _ x hx) with h | h | h
   ·left
    refine ⟨htint,fun i y hy=>hu.1 i y (by rw [←eW];exact hy),fun i y hy=> ?_⟩
    rcases back i y hy with ⟨_,rfl⟩ | ⟨_,hy⟩
    ·exact h
    ·exact hu.2 i y hy
   ·exact .inr (.inl h)
   ·exact .inr (.inr (.inr (.inr ⟨_,_,here,h⟩)))
  ·have hpos:=Y9 hj
   refine ⟨zpY G F hpos.1.2 hm0 hm1,fun i y hy hpc ho=> ?_,fun i y hy hpc ho=> ?_⟩
   ·rw [eW] at hy
    exact absurd (ho▸zte G hy hpc) hm0
   ·rcases back i y hy with ⟨_,rfl⟩ | ⟨_,hy⟩
    ·exfalso
     rcases zz4 hp G hT hpos.1.2 hm0 (by rw [←eT];exact hm1) with c | c
     ·have:=zBy (s:=s) (m:=m) c
      omega
     ·have h3:=zzK (s:=s) (m:=m) c
      exact hm0 (by rw [←ho,h3];exact zs8 G hx (.inr (.inl c)))
    ·exact absurd (ho▸zs8 G hy hpc) hm0
 refine ⟨fun u j=>W u j∨(x.PC=23∧u=vz x (opM p m x).A∧j=(opM p m x).S),fun o ho=> ?_,fun i y hy=>I.sw i y (by rw [←eW];exact hy),fun i y hy=> ?_,fun i y hy=> ?_⟩
 ·have h0:o≠0:=by have:=ho.in;omega
  rcases I.lv o ho with h | h
  ·exact .inl (mono o h)
  ·exact P.prot h h0
 ·rcases back i y hy with ⟨_,rfl⟩ | ⟨_,hy⟩
  ·exact sl1
  ·exact I.sx i y hy
 ·rcases back i y hy with ⟨rfl,rfl⟩ | ⟨_,hy⟩
  ·rw [ei,eS]
   exact zzz hP hcv (fun o h=>by rw [←eT];exact mono o h) hXO.ret _
  ·intro hW
   have hW1: ¬W (vz y (opM p ((i:Int)+1) y).A) (opM p ((i:Int)+1) y).S:=fun h=>hW (.inl h)
   obtain ⟨a,b⟩:=I.cv i y hy hW1
   have hh:=(heapS (vz y (opM p ((i:Int)+1) y).A) (opM p ((i:Int)+1) y).S (fun h=>hW (.inr h))).2
   rw [hh]
   exact ⟨a,fun e=>(b e).imp id (fun h=>h.imp (mono _) id)⟩
end
end Go.Pe.G
namespace Go.Pe.G
open Go.Pe
noncomputable section
theorem zso {s:za} {w:Int} {x:ze} (c:x.PC=6):zj s w x=((zo s x.G).1,if (zo s x.G).2.Out=1 then {x with G:=(zo s x.G).2,PC:=onW s x.Slot} else {x with G:=(zo s x.G).2}):=by
 unfold zj
 rw [if_neg (by omega),if_neg (by omega),if_neg (by omega),if_neg (by omega),if_neg (by omega),if_pos c]
theorem zz1 {p:zb} {s:za} {gh:Gh} {w:Int} {x:ze} (K:WX p s gh w x) (hb: ∀o,zK s.T.Black o=true→zK s.T.Marks o=true) {o:Int} (h:zko x o):zko (zj s w x).2 o∨zK (zj s w x).1.T.Marks o=true:=by
 obtain ⟨c,h⟩:=h
 obtain ⟨G,gm,gw,g0⟩:=K.p6 c
 rw [zso c]
 dsimp only
 rcases zqk G.md (h.2.2▸G.ob) (hb o) h with h' | h'
 ·left
  rw [if_neg (by have:=h'.1;omega)]
  exact ⟨c,h'⟩
 ·exact .inr h'
theorem zxB {p:zb} {nb:Nat} {s:za} (hsl:s.H.Slots=p.H.Slots) (h1:1≤p.H.Slots∧p.H.Slots≤2) {w:Int} {x:ze} (O:WOk p nb w x) (S:zmy p.H.Slots x) :
  zmy p.H.Slots (zj s w x).2∧∀u j,0≤j→ziT x u j→ziT (zj s w x).2 u j∨zO s.H u j=0∨zko (zj s w x).2 (zO s.H u j):=by
 have hpc:=O.pc
 have no: ∀ {y:ze},y.PC≠5→y.PC≠6→y.PC≠8→zmy p.H.Slots y∧∀u j,0≤j→ziT x u j→ziT y u j∨zO s.H u j=0∨zko y (zO s.H u j) :=
  fun a b c=>⟨⟨fun e=>absurd e a,fun e=>absurd e b,fun e=>absurd e c⟩,fun u j _ _=> .inl (fun e=>by omega)⟩
 have zero: ∀ {y:ze},y.PC=5→y.Slot=0→zmy p.H.Slots y∧∀u j,0≤j→ziT x u j→ziT y u j∨zO s.H u j=0∨zko y (zO s.H u j) :=
  fun a b=>⟨⟨fun _=>by omega,fun e=>by omega,fun e=>by omega⟩,fun u j h0 _=> .inl (fun _ _=>by omega)⟩
 have on: ∀k:Int,(onW s k=5∧k≠p.H.Slots)∨(onW s k=8∧k=p.H.Slots):=fun k=>by
  unfold onW
  rw [hsl]
  split
  ·rename_i e;exact .inr ⟨rfl,e⟩
  ·rename_i e;exact .inl ⟨rfl,e⟩
 have lk: ∀y:ze,(uS s.P w y).PC=1∨(uS s.P w y).PC=2:=fun y=>by unfold uS;split<;>simp
 by_cases c6:x.PC=6
 ·have hs:=S.2.1 c6
  rw [zso c6]
  dsimp only
  split
  ·refine ⟨⟨fun e=> ?_,fun e=> ?_,fun e=> ?_⟩,fun u j h0 h=> .inl (fun _ e=>h (.inr (.inl c6)) e)⟩
   ·dsimp only at e ⊢;have:=on x.Slot;omega
   ·dsimp only at e ⊢;have:=on x.Slot;omega
   ·dsimp only at e ⊢;have:=on x.Slot;omega
  ·exact ⟨⟨fun e=>absurd e (by show ¬x.PC=5;omega),fun _=>hs,fun e=>absurd e (by show ¬x.PC=8;omega)⟩,fun u j h0 h=> .inl (fun _ e=>h (.inr (.inl c6)) e)⟩
 have key: ∀r:za×ze,zj s w x=r→(zmy p.H.Slots r.2∧∀u j,0≤j→ziT x u j→ziT r.2 u j∨zO s.H u j=0∨zko r.2 (zO s.H u j))→zmy p.H.Slots (zj s w x).2∧∀u j,0≤j→ziT x u j→ziT (zj s w x).2 u j∨zO s.H u j=0∨zko (zj s w x).2 (zO s.H u j):=fun r e h=>by rw [e];exact h
 by_cases c01:x.PC=0∨x.PC=1
 ·refine key _ (by unfold zj;rw [if_pos c01]) ?_
  dsimp only
  split
  ·exact zero rfl rfl
  split
  ·have:=lk {x with D:=(zU s.M x.D).2}
   exact no (by omega) (by omega) (by omega)
  ·exact no (by dsimp only;omega) (by dsimp only;omega) (by dsimp only;omega)
 by_cases c2:x.PC=2
 ·refine key _ (by unfold zj;rw [if_neg c01,if_pos c2]) ?_
  dsimp only
  split
  ·exact no (by dsimp only;omega) (by dsimp only;omega) (by dsimp only;omega)
  split
  ·exact no (by show (0:Int)≠5;decide) (by show (0:Int)≠6;decide) (by show (0:Int)≠8;decide)
  ·exact no (by dsimp only;omega) (by dsimp only;omega) (by dsimp only;omega)
 by_cases c3:x.PC=3
 ·refine key _ (by unfold zj;rw [if_neg c01,if_neg c2,if_pos c3]) ?_
  exact no (by dsimp only;omega) (by dsimp only;omega) (by dsimp only;omega)
 by_cases c4:x.PC=4
 ·refine key _ (by unfold zj;rw [if_neg c01,if_neg c2,if_neg c3,if_pos c4]) ?_
  dsimp only
  split
  ·exact no (by dsimp only;omega) (by dsimp only;omega) (by dsimp only;omega)
  ·exact no (by dsimp only;omega) (by dsimp only;omega) (by dsimp only;omega)
 by_cases c:x.PC=5
 ·have hs:=S.1 c
  have ww:wc (x.Slot+1)=x.Slot+1:=xg (by omega) (by omega)
  refine key _ (by unfold zj;rw [if_neg c01,if_neg c2,if_neg c3,if_neg c4,if_pos c]) ?_
  dsimp only
  rw [ww]
  split
  ·rename_i hv
   refine ⟨⟨fun e=> ?_,fun e=> ?_,fun e=> ?_⟩,fun u j h0 h=> ?_⟩
   ·dsimp only at e ⊢;have:=on (x.Slot+1);omega
   ·dsimp only at e ⊢;have:=on (x.Slot+1);omega
   ·dsimp only at e ⊢;have:=on (x.Slot+1);omega
   ·by_cases hu:x.Obj=u
    ·have hle:=h (.inl c) hu
     by_cases hj:j=x.Slot
     ·right;left;rw [←hu,hj];exact hv
     ·left;intro _ _;show x.Slot+1≤j;omega
    ·left;intro _ e;exact absurd e hu
  ·rename_i hv
   refine ⟨⟨fun e=>absurd e (by show ¬(6:Int)=5;decide),fun _=>⟨by show 1≤x.Slot+1;omega,by show x.Slot+1≤_;omega⟩,fun e=>absurd e (by show ¬(6:Int)=8;decide)⟩,fun u j h0 h=> ?_⟩
   by_cases hu:x.Obj=u
   ·have hle:=h (.inl c) hu
    by_cases hj:j=x.Slot
    ·right;right
     exact ⟨rfl,rfl,.inl rfl,by rw [←hu,hj];rfl⟩
    ·left;intro _ _;show x.Slot+1≤j;omega
   ·left;intro _ e;exact absurd e hu
 by_cases c7:x.PC=7
 ·refine key _ (by unfold zj;rw [if_neg c01,if_neg c2,if_neg c3,if_neg c4,if_neg c,if_neg c6,if_pos c7]) ?_
  dsimp only
  split
  ·exact no (by show (0:Int)≠5;decide) (by show (0:Int)≠6;decide) (by show (0:Int)≠8;decide)
  ·exact zero rfl rfl
 by_cases c8:x.PC=8
 ·refine key _ (by unfold zj;rw [if_neg c01,if_neg c2,if_neg c3,if_neg c4,if_neg c,if_neg c6,if_neg c7,if_pos c8]) ?_
  exact no (by dsimp only;omega) (by dsimp only;omega) (by dsimp only;omega)
 have c9:x.PC=9:=by omega
 refine key _ (by unfold zj;rw [if_neg c01,if_neg c2,if_neg c3,if_neg c4,if_neg c,if_neg c6,if_neg c7,if_neg c8,if_pos c9]) ?_
 exact no (by dsimp only;omega) (by dsimp only;omega) (by dsimp only;omega)
theorem PI.worker {p:zb} (hp:zA p) {nb k:Nat} {s:za} {gh:Gh} (hk:k<4294960000) (G:FG p nb k s gh) {W:Int→Int→Prop} (I:PI p s W) {w:Int} (hw:1≤w∧w≤p.Workers) (hd:s.Done=false):PI p (zF s w) W:=by
 obtain ⟨gh',G',F,x,hx,N,C,hbag,hT⟩:=G.worker hp hk hw hd
 have hwl:=G.E.wl
 have hsl:=hp.slots
 have hi:(w-1).toNat<s.Ws.length:=(List.getElem?_eq_some_iff.1 hx).1
 have ei:(((w-1).toNat:Nat):Int)+1=w:=by omega
 have eS:zF s w={(zj s w x).1 with Ws:=s.Ws.set (w-1).toNat (zj s w x).2}:=by
  unfold zF
  rw [if_neg (by rw [hd];rintro (e | e | e)<;>first | cases e | omega),hx]
 have hWX:=G.W _ x hx
 have hWO:=G.E.W _ x hx
 rw [ei] at hWX hWO
 have hfr:=zd6 (s:=s) hWO
 have eH:(zF s w).H=s.H:=by rw [eS];show (zj s w x).1.H=_;rw [hfr]
 have eT:(zF s w).T=(zj s w x).1.T:=by rw [eS]
 have eX:(zF s w).Ms=s.Ms:=by rw [eS];show (zj s w x).1.Ms=_;rw [hfr]
 have eW:(zF s w).Ws=s.Ws.set (w-1).toNat (zj s w x).2:=by rw [eS]
 have mono: ∀o,zK s.T.Marks o=true→zK (zF s w).T.Marks o=true:=fun o h=>F.mono h
 obtain ⟨sl1,sl2⟩:=zxB (s:=s) (w:=w) G.E.H.slots hsl hWO (I.sw _ x hx)
 have here:(zF s w).Ws[(w-1).toNat]? =some (zj s w x).2:=by rw [eW];exact List.getElem?_set_self hi
 have there: ∀(i:Nat) y,i≠(w-1).toNat→s.Ws[i]? =some y→(zF s w).Ws[i]? =some y:=fun i y hne h=>by rw [eW,List.getElem?_set_ne (fun e=>hne e.symm)];exact h
 have back: ∀(i:Nat) y,(zF s w).Ws[i]? =some y→(i=(w-1).toNat∧y=(zj s w x).2)∨(i≠(w-1).toNat∧s.Ws[i]? =some y):=fun i y h=>by
  rw [eW] at h
  by_cases hne:i=(w-1).toNat
  ·subst hne
   rw [List.getElem?_set_self hi] at h
   injection h with h
   exact .inl ⟨rfl,h.symm⟩
  ·rw [List.getElem?_set_ne (fun e=>hne e.symm)] at h
   exact .inr ⟨hne,h⟩
 have P:zr4 s (zF s w) W W:=by
  refine ⟨mono,fun o h=> ?_,fun u j hW hj=> .inl ⟨hW,by rw [eH];exact hj,by rw [eH]⟩,fun u j hW hj hg hu=> ?_,fun u j hW hj hm0 hm1=> ?_⟩
  ·rcases h with ⟨i,y,hy,h⟩ | ⟨i,y,hy,h⟩
   ·by_cases hne:i=(w-1).toNat
    ·subst hne
     rw [hx] at hy;injection hy with hy;subst hy
     rcases zz1 hWX G.B.blk h with h | h
     ·right;left;exact ⟨_,_,here,h⟩
     ·left;rw [eT];exact h
    ·right;left;exact ⟨i,y,there i y hne hy,h⟩
   ·right;right;exact ⟨i,y,by rw [eX];exact hy,h⟩
  ·have hpos:=Y9 hj
   have hrow:=zxv G.E hj
   have htint:yD (zF s w).T u=1:=by
    rcases zrq G F hpos.1.2 hg with h | ⟨_,h⟩
    ·exact h
    ·exfalso
     have hb:=((uV _ _).1 hg).2
     have huu:=(wp s.T.Black (zhP hg) u).2 (.inr rfl)
     rcases hT with ⟨_,_,e⟩ | ⟨_,_,_,_,e⟩ | ⟨_,_,c,e⟩
     ·rw [eT,e] at h
      have:=congrArg zt.Black h
      exact absurd (by rw [this];exact huu) hb
     ·rw [eT,e] at h
      have:=congrArg zt.Black h
      exact absurd (by rw [this];exact huu) hb
     ·have hob:yD s.T x.Obj=1:=G.grey (zlY hx (by unfold zQ;rw [YM (.inr c)];simp))
      rw [eT,e] at h
      unfold wz at h
      rw [if_pos hob] at h
      have hbb:s.T.Black|||bit x.Obj=s.T.Black|||bit u:=congrArg zt.Black h
      rw [←hbb] at huu
      rcases Yk huu with h2 | h2
      ·exact hb h2
      ·have hle:=hu.1 _ x hx (.inr (.inr c)) h2.symm
       have:=(I.sw _ x hx).2.2 c
       omega
   rcases sl2 u j hpos.2.1 (hu.1 _ x hx) with h | h | h
   ·left
    refine ⟨htint,fun i y hy=> ?_,fun i y hy=>hu.2 i y (by rw [←eX];exact hy)⟩
    rcases back i y hy with ⟨_,rfl⟩ | ⟨_,hy⟩
    ·exact h
    ·exact hu.1 i y hy
   ·exact .inr (.inl h)
   ·exact .inr (.inr (.inr (.inl ⟨_,_,here,h⟩)))
  ·have hpos:=Y9 hj
   refine ⟨zpY G F hpos.1.2 hm0 hm1,fun i y hy hpc ho=> ?_,fun i y hy hpc ho=> ?_⟩
   ·rcases back i y hy with ⟨_,rfl⟩ | ⟨_,hy⟩
    ·exfalso
     rcases hT with ⟨_,_,e⟩ | ⟨_,_,c,_,e⟩ | ⟨_,_,c,e⟩
     ·rw [eT,e] at hm1;exact hm0 hm1
     ·have h3:(zj s w x).2.Obj=x.Obj:=by rw [zso c];dsimp only;split<;>rfl
      exact hm0 (by rw [←ho,h3];exact zte G hx (.inr (.inl c)))
     ·rw [eT,e,(zfG _ _).1] at hm1;exact hm0 hm1
    ·exact absurd (ho▸zte G hy hpc) hm0
   ·rw [eX] at hy
    exact absurd (ho▸zs8 G hy hpc) hm0
 refine ⟨fun o ho=> ?_,fun i y hy=> ?_,fun i y hy=>I.sx i y (by rw [←eX];exact hy),fun i y hy hW=> ?_⟩
 ·have h0:o≠0:=by have:=ho.in;omega
  rcases I.lv o ho with h | h
  ·exact .inl (mono o h)
  ·exact P.prot h h0
 ·rcases back i y hy with ⟨_,rfl⟩ | ⟨_,hy⟩
  ·exact sl1
  ·exact I.sw i y hy
 ·rw [eX] at hy
  obtain ⟨a,b⟩:=I.cv i y hy hW
  rw [eH]
  exact ⟨a,fun e=>(b e).imp id (fun h=>h.imp (mono _) id)⟩
end
end Go.Pe.G
namespace Go.Pe.G
open Go.Pe
noncomputable section
def owG (g:zC):Int:=if g.Out=0∧(g.PC=1∨g.PC=2) then 1 else 0
def owW (x:ze):Int:=if x.PC=9 then 1 else if x.PC=6 then owG x.G else 0
def owX (x:zc):Int:=if x.PC=39 then 1 else if x.PC=3∨x.PC=37 then owG x.G else 0
theorem zzC (g:zC):0≤owG g∧owG g≤1:=by unfold owG;split<;>decide
theorem zn1 (x:ze):0≤owW x∧owW x≤1:=by
 unfold owW
 split
 ·decide
 split
 ·exact zzC _
 ·decide
theorem zop (x:zc):0≤owX x∧owX x≤1:=by
 unfold owX
 split
 ·decide
 split
 ·exact zzC _
 ·decide
theorem Ye {g:zC} (h:g.Out≠0∨(g.PC≠1∧g.PC≠2)):owG g=0:=by unfold owG;rw [if_neg (by omega)]
theorem zrn {g:zC} (h:g.Out=0) (h2:g.PC=1∨g.PC=2):owG g=1:=by unfold owG;rw [if_pos ⟨h,h2⟩]
theorem zud (t:zt) (o:Int):((vk t o).2=false∧(vk t o).1=t)∨((vk t o).2=true∧¬(t.Marks|||bit o=t.Marks)∧(vk t o).1={t with Marks:=t.Marks|||bit o}):=by
 unfold vk
 split
 ·exact .inl ⟨rfl,rfl⟩
 split
 ·rename_i h _;exact .inr ⟨rfl,h,rfl⟩
 ·exact .inl ⟨rfl,rfl⟩
theorem zt3 {p:zb} {s:za} {gh:Gh} {g:zC} (G:GX p s gh g) (g0:g.Out=0) (hw:0≤s.Work∧s.Work≤4294970000) :
  ((zo s g).1.T=s.T∧(zo s g).1.Work=s.Work+owG (zo s g).2-owG g) ∨
  (¬(s.T.Marks|||bit g.Obj=s.T.Marks)∧(zo s g).1.T={s.T with Marks:=s.T.Marks|||bit g.Obj}∧(zo s g).1.Work=s.Work+owG (zo s g).2-owG g+1):=by
 have hpc:=G.pc
 have hmd:=G.md
 unfold zo
 rw [if_neg (by omega)]
 by_cases c7:g.PC=7
 ·rw [if_pos c7]
  unfold za9;dsimp only
  left;refine ⟨rfl,?_⟩
  rw [Ye (g:=g) (by omega),Ye (by split<;>(dsimp only;omega))];omega
 rw [if_neg c7]
 by_cases c6:g.PC=6
 ·rw [if_pos c6]
  left;refine ⟨rfl,?_⟩
  rw [Ye (g:=g) (by omega),Ye (by show _∨((7:Int)≠1∧(7:Int)≠2);omega)]
  show s.Work=_;omega
 rw [if_neg c6]
 by_cases c5:g.PC=5
 ·rw [if_pos c5]
  unfold zhV zdH;dsimp only
  left;refine ⟨rfl,?_⟩
  rw [Ye (g:=g) (by omega),Ye (by (repeat' split)<;>(dsimp only;omega))];omega
 rw [if_neg c5]
 by_cases c4:g.PC=4
 ·rw [if_pos c4]
  left;refine ⟨rfl,?_⟩
  rw [Ye (g:=g) (by omega),Ye (by show _∨((5:Int)≠1∧(5:Int)≠2);omega)]
  show s.Work=_;omega
 rw [if_neg c4]
 by_cases c3:g.PC=3
 ·rw [if_pos c3]
  unfold zih zdH;dsimp only
  left;refine ⟨rfl,?_⟩
  rw [Ye (g:=g) (by omega),Ye (by (repeat' split)<;>(dsimp only;omega))];omega
 rw [if_neg c3]
 by_cases c2:g.PC=2
 ·rw [if_pos c2]
  left;refine ⟨rfl,?_⟩
  rw [zrn g0 (.inr c2),Ye (by show (1:Int)≠0∨_;omega)]
  show wc (s.Work-1)=_
  rw [xg (by omega) (by omega)];omega
 rw [if_neg c2]
 by_cases c1:g.PC=1
 ·rw [if_pos c1]
  unfold zh1;dsimp only
  rw [zrn g0 (.inl c1)]
  rcases zud s.T g.Obj with ⟨a,b⟩ | ⟨a,b,c⟩
  ·left
   refine ⟨b,?_⟩
   rw [if_pos a,zrn (by dsimp only;exact g0) (.inr rfl)];omega
  ·right
   refine ⟨b,c,?_⟩
   rw [if_neg (by rw [a];decide)]
   unfold zdH
   rw [Ye (by (repeat' split)<;>(dsimp only;omega))];omega
 rw [if_neg c1]
 left;refine ⟨rfl,?_⟩
 rw [Ye (g:=g) (by omega),zrn (by dsimp only;exact g0) (.inl rfl)]
 show wc (s.Work+1)=_
 rw [xg (by omega) (by omega)];omega
theorem zmN {t:zt} {o:Int} (h:yD t o=1):wz t o≠t:=by
 have hb:=(uV t o).1 h
 have hr:=zhP h
 unfold wz
 rw [if_pos h]
 intro e
 have e:=congrArg zt.Black e
 exact hb.2 (by rw [←e];exact (wp _ hr o).2 (.inr rfl))
theorem zbl {t:zt} {o:Int} (h: ¬(t.Marks|||bit o=t.Marks)):({t with Marks:=t.Marks|||bit o}:zt)≠t:=fun e=>h (congrArg zt.Marks e)
theorem zyR {p:zb} {nb:Nat} {s:za} {gh:Gh} {w:Int} {x:ze} (W:WX p s gh w x) (O:WOk p nb w x) (hw:0≤s.Work∧s.Work≤4294970000) (h8:x.PC=8→yD s.T x.Obj=1) {N C:List Int}
  (hT:(N=[]∧C=[]∧(zj s w x).1.T=s.T)∨(N=[x.G.Obj]∧C=[]∧x.PC=6∧¬(s.T.Marks|||bit x.G.Obj=s.T.Marks)∧(zj s w x).1.T={s.T with Marks:=s.T.Marks|||bit x.G.Obj})∨(N=[]∧C=[x.Obj]∧x.PC=8∧(zj s w x).1.T=wz s.T x.Obj)) :
  (zj s w x).1.Work=s.Work+owW (zj s w x).2-owW x+(N.length:Int)-(C.length:Int):=by
 have hpc:=O.pc
 revert hT
 have ob: ∀y:ze,owW (Ul s.P w y)=0:=fun y=>rfl
 have ol: ∀y:ze,owW (uS s.P w y)=0:=fun y=>by unfold uS;split<;>rfl
 have quiet: ∀ {t:za} {y:ze},(N=[]∧C=[]∧t.T=s.T)∨(N=[x.G.Obj]∧C=[]∧x.PC=6∧¬(s.T.Marks|||bit x.G.Obj=s.T.Marks)∧t.T={s.T with Marks:=s.T.Marks|||bit x.G.Obj})∨(N=[]∧C=[x.Obj]∧x.PC=8∧t.T=wz s.T x.Obj) →
   x.PC≠6→x.PC≠8→t.Work=s.Work+owW y-owW x→t.Work=s.Work+owW y-owW x+(N.length:Int)-(C.length:Int):=by
  rintro t y (⟨e1,e2,_⟩ | ⟨_,_,e,_⟩ | ⟨_,_,e,_⟩) h1 h2 h
  ·rw [e1,e2];simp only [List.length_nil];omega
  ·omega
  ·omega
 have o0:x.PC≠9→x.PC≠6→owW x=0:=fun h1 h2=>by unfold owW;rw [if_neg h1,if_neg h2]
 unfold zj
 split
 ·rename_i c
  intro hT
  refine quiet hT (by omega) (by omega) ?_
  rw [o0 (by omega) (by omega)]
  show s.Work=_
  dsimp only
  split
  ·show s.Work=s.Work+0-0;omega
  split
  ·rw [ol];omega
  ·rw [show owW {x with D:=(zU s.M x.D).2}=owW x from rfl,o0 (by omega) (by omega)];omega
 split
 ·intro hT
  refine quiet hT (by omega) (by omega) ?_
  rw [o0 (by omega) (by omega)]
  show s.Work=_
  dsimp only
  split
  ·rw [show ∀b c,owW {x with C:=c,Bin:=b,PC:=3}=0 from fun _ _=>rfl];omega
  split
  ·rw [ob];omega
  ·rw [show owW {x with C:=(zm s.M x.C).2}=owW x from rfl,o0 (by omega) (by omega)];omega
 split
 ·intro hT
  refine quiet hT (by omega) (by omega) ?_
  rw [o0 (by omega) (by omega)]
  show s.Work=s.Work+0-0;omega
 split
 ·intro hT
  refine quiet hT (by omega) (by omega) ?_
  rw [o0 (by omega) (by omega)]
  show s.Work=_
  dsimp only
  split
  ·rw [show ∀c,owW {x with PC:=7,C:=c,Bin:=0}=0 from fun _=>rfl];omega
  ·rw [show owW {x with C:=(zm s.M x.C).2}=owW x from rfl,o0 (by omega) (by omega)];omega
 split
 ·intro hT
  refine quiet hT (by omega) (by omega) ?_
  rw [o0 (by omega) (by omega)]
  dsimp only
  split
  ·have: ∀y,owW {x with Slot:=y,PC:=onW s y}=0:=fun y=>by
    unfold owW
    rcases ziN s y with e | e<;>rw [if_neg (by dsimp only;omega),if_neg (by dsimp only;omega)]
   rw [this];omega
  ·rw [show ∀y v,owW {x with Slot:=y,PC:=6,G:=ZK 1 v w}=0 from fun _ _=>rfl];omega
 split
 ·rename_i c
  intro hT
  obtain ⟨G,gm,gw,g0⟩:=W.p6 c
  have e1:owW x=owG x.G:=by unfold owW;rw [if_neg (by omega),if_pos c]
  have e2:owW (if (zo s x.G).2.Out=1 then {x with G:=(zo s x.G).2,PC:=onW s x.Slot} else {x with G:=(zo s x.G).2})=owG (zo s x.G).2:=by
   split
   ·rename_i o
    rw [Ye (.inl (by omega))]
    unfold owW
    rcases ziN s x.Slot with e | e<;>rw [if_neg (by dsimp only;omega),if_neg (by dsimp only;omega)]
   ·unfold owW;rw [if_neg (by dsimp only;omega),if_pos c]
  dsimp only at hT ⊢
  rw [e1,e2]
  rcases zt3 G g0 hw with ⟨a,b⟩ | ⟨a,b,d⟩
  ·rcases hT with ⟨n1,n2,_⟩ | ⟨_,_,_,n3,n4⟩ | ⟨_,_,e,_⟩
   ·rw [n1,n2,b];simp only [List.length_nil];omega
   ·exact absurd (n4.symm.trans a) (zbl n3)
   ·omega
  ·rcases hT with ⟨n1,n2,n3⟩ | ⟨n1,n2,_,n3,n4⟩ | ⟨_,_,e,_⟩
   ·exact absurd (b.symm.trans n3) (zbl a)
   ·rw [n1,n2,d];simp only [List.length_nil,List.length_cons];omega
   ·omega
 split
 ·intro hT
  refine quiet hT (by omega) (by omega) ?_
  rw [o0 (by omega) (by omega)]
  dsimp only
  split
  ·rw [ob];omega
  ·rw [show ∀o l,owW {x with PC:=5,Obj:=o,Slot:=0,Batch:=l}=0 from fun _ _=>rfl];omega
 split
 ·rename_i c
  intro hT
  have e0:owW x=0:=o0 (by omega) (by omega)
  rw [e0]
  rcases hT with ⟨_,_,e⟩ | ⟨_,_,e,_⟩ | ⟨n1,n2,_,_⟩
  ·exact absurd e (zmN (h8 c))
  ·omega
  ·rw [n1,n2]
   show s.Work=s.Work+1-0+0-1
   omega
 split
 ·rename_i c
  intro hT
  refine quiet hT (by omega) (by omega) ?_
  have e1:owW x=1:=by unfold owW;rw [if_pos c]
  rw [e1]
  show wc (s.Work-1)=s.Work+0-1
  rw [xg (by omega) (by omega)];omega
 ·intro hT;omega
theorem zAk {p:zb} {nb:Nat} {s:za} {gh:Gh} {m:Int} {x:zc} (W:MX p s gh x) (O:XOk p nb m x) (hw:0≤s.Work∧s.Work≤4294970000) (h8:x.PC=38→yD s.T x.Obj=1) {N C:List Int}
  (hT:(N=[]∧C=[]∧(zi s m x).1.T=s.T)∨(N=[x.G.Obj]∧C=[]∧(x.PC=3∨x.PC=37)∧¬(s.T.Marks|||bit x.G.Obj=s.T.Marks)∧(zi s m x).1.T={s.T with Marks:=s.T.Marks|||bit x.G.Obj})∨(N=[]∧C=[x.Obj]∧x.PC=38∧(zi s m x).1.T=wz s.T x.Obj) ∨
   (N=[]∧C=[]∧x.PC=30∧YU s.H s.P.Most=true∧(zi s m x).1.H=xT s.H∧(zi s m x).1.T=YL s.T (wc (s.H.Objs.length+1)))) :
  (zi s m x).1.Work=s.Work+owX (zi s m x).2-owX x+(N.length:Int)-(C.length:Int):=by
 have hpc:=O.pc
 have hrt:=O.ret
 have calm: ∀ {r:za×zc},(N=[]∧C=[]∧r.1.T=s.T)∨(N=[x.G.Obj]∧C=[]∧(x.PC=3∨x.PC=37)∧¬(s.T.Marks|||bit x.G.Obj=s.T.Marks)∧r.1.T={s.T with Marks:=s.T.Marks|||bit x.G.Obj})∨(N=[]∧C=[x.Obj]∧x.PC=38∧r.1.T=wz s.T x.Obj) ∨
   (N=[]∧C=[]∧x.PC=30∧YU s.H s.P.Most=true∧r.1.H=xT s.H∧r.1.T=YL s.T (wc (s.H.Objs.length+1))) →
   x.PC≠3→x.PC≠37→x.PC≠38→r.1.Work=s.Work+owX r.2-owX x→r.1.Work=s.Work+owX r.2-owX x+(N.length:Int)-(C.length:Int):=by
  rintro r (⟨e1,e2,_⟩ | ⟨_,_,e,_⟩ | ⟨_,_,e,_⟩ | ⟨e1,e2,_⟩) h1 h2 h3 h
  ·rw [e1,e2];simp only [List.length_nil];omega
  ·omega
  ·omega
  ·rw [e1,e2];simp only [List.length_nil];omega
 have o0: ∀ {y:zc},y.PC≠39→y.PC≠3→y.PC≠37→owX y=0:=fun h1 h2 h3=>by unfold owX;rw [if_neg h1,if_neg (by omega)]
 have og: ∀(y:zc) (k a b:Int),owX {y with PC:=3,G:=ZK k a b}=0:=fun y k a b=>by unfold owX;rw [if_neg (by dsimp only;omega),if_pos (.inl rfl)];exact Ye (.inr ⟨by show (0:Int)≠1;decide,by show (0:Int)≠2;decide⟩)
 have gq: ∀(N C:List Int) (G:GX p s gh x.G) (g0:x.G.Out=0) (hT:(N=[]∧C=[]∧(zo s x.G).1.T=s.T)∨(N=[x.G.Obj]∧C=[]∧(x.PC=3∨x.PC=37)∧¬(s.T.Marks|||bit x.G.Obj=s.T.Marks)∧(zo s x.G).1.T={s.T with Marks:=s.T.Marks|||bit x.G.Obj})),
   (zo s x.G).1.Work=s.Work+owG (zo s x.G).2-owG x.G+(N.length:Int)-(C.length:Int):=by
  intro N C G g0 hT
  rcases zt3 G g0 hw with ⟨a,b⟩ | ⟨a,b,d⟩
  ·rcases hT with ⟨n1,n2,_⟩ | ⟨_,_,_,n3,n4⟩
   ·rw [n1,n2,b];simp only [List.length_nil];omega
   ·exact absurd (n4.symm.trans a) (zbl n3)
  ·rcases hT with ⟨n1,n2,n3⟩ | ⟨n1,n2,_,n3,n4⟩
   ·exact absurd (b.symm.trans n3) (zbl a)
   ·rw [n1,n2,d];simp only [List.length_nil,List.length_cons];omega
 revert hT
 refine yI (motive:=fun r=>((N=[]∧C=[]∧r.1.T=s.T)∨(N=[x.G.Obj]∧C=[]∧(x.PC=3∨x.PC=37)∧¬(s.T.Marks|||bit x.G.Obj=s.T.Marks)∧r.1.T={s.T with Marks:=s.T.Marks|||bit x.G.Obj})∨(N=[]∧C=[x.Obj]∧x.PC=38∧r.1.T=wz s.T x.Obj) ∨
   (N=[]∧C=[]∧x.PC=30∧YU s.H s.P.Most=true∧r.1.H=xT s.H∧r.1.T=YL s.T (wc (s.H.Objs.length+1)))) →
   r.1.Work=s.Work+owX r.2-owX x+(N.length:Int)-(C.length:Int)) s m x ?_ ?_ ?_ ?_ ?_ ?_ ?_ ?_ ?_ ?_ ?_ ?_ ?_ ?_ ?_ ?_ ?_ ?_ ?_ ?_
 ·intro c hT
  refine calm hT (by omega) (by omega) (by omega) ?_
  rw [o0 (y:=x) (by omega) (by omega) (by omega)]
  unfold mu0 ZW
  repeat' split
  all_goals (rw [o0 (by (try dsimp only [setM]);omega) (by (try dsimp only [setM]);omega) (by (try dsimp only [setM]);omega)];dsimp only;omega)
 ·intro c hT
  refine calm hT (by omega) (by omega) (by omega) ?_
  rw [o0 (y:=x) (by omega) (by omega) (by omega)]
  unfold mu1;dsimp only
  split
  ·have:=hrt (.inl c)
   rw [o0 (by dsimp only;omega) (by dsimp only;omega) (by dsimp only;omega)];omega
  ·have e: ∀l,owX {x with PC:=3,Buf:=l,G:=ZK 2 (x.Buf.getD (x.Buf.length-1) 0) m}=0:=fun l=>og {x with Buf:=l} 2 _ m
   rw [e];omega
 ·intro c hT
  refine calm hT (by omega) (by omega) (by omega) ?_
  rw [o0 (y:=x) (by omega) (by omega) (by omega)]
  show s.Work=s.Work+0-0;omega
 ·intro c hT
  obtain ⟨G,gm,g0⟩:=W.p3 c
  have e1:owX x=owG x.G:=by unfold owX;rw [if_neg (by omega),if_pos (.inl c)]
  unfold mu3 at hT ⊢
  dsimp only at hT ⊢
  have e2:owX (if (zo s x.G).2.Out=1 then {x with PC:=1,G:=(zo s x.G).2} else {x with G:=(zo s x.G).2})=owG (zo s x.G).2:=by
   split
   ·rename_i o
    rw [Ye (.inl (by omega)),o0 (by dsimp only;omega) (by dsimp only;omega) (by dsimp only;omega)]
   ·unfold owX;rw [if_neg (by dsimp only;omega),if_pos (.inl c)]
  rw [e1,e2]
  refine gq N C G g0 ?_
  rcases hT with h | h | ⟨_,_,e,_⟩ | ⟨_,_,e,_⟩
  ·exact .inl h
  ·exact .inr h
  ·omega
  ·omega
 ·intro c hT
  refine calm hT (by omega) (by omega) (by omega) ?_
  rw [o0 (y:=x) (by omega) (by omega) (by omega)]
  show s.Work=s.Work+0-0;omega
 ·intro c hT
  refine calm hT (by omega) (by omega) (by omega) ?_
  rw [o0 (y:=x) (by omega) (by omega) (by omega)]
  unfold Vo;dsimp only
  split<;>(rw [o0 (by dsimp only [xe];omega) (by dsimp only [xe];omega) (by dsimp only [xe];omega)];omega)
 ·intro c hT
  refine calm hT (by omega) (by omega) (by omega) ?_
  rw [o0 (y:=x) (by omega) (by omega) (by omega)]
  unfold WT;dsimp only
  split<;>(rw [o0 (by dsimp only;omega) (by dsimp only;omega) (by dsimp only;omega)];omega)
 ·intro c hT
  refine calm hT (by omega) (by omega) (by omega) ?_
  rw [o0 (y:=x) (by omega) (by omega) (by omega)]
  unfold UD;dsimp only
  split<;>(rw [o0 (by dsimp only;omega) (by dsimp only;omega) (by dsimp only;omega)];omega)
 ·intro c hT
  refine calm hT (by omega) (by omega) (by omega) ?_
  rw [o0 (y:=x) (by omega) (by omega) (by omega)]
  show s.Work=s.Work+0-0;omega
 ·intro c hT
  refine calm hT (by omega) (by omega) (by omega) ?_
  rw [o0 (y:=x) (by omega) (by omega) (by omega)]
  unfold YQ
  split
  ·split
   ·show s.Work=s.Work+0-0;omega
   ·show s.Work=s.Work+0-0;omega
  ·show s.Work=s.Work+0-0;omega
 ·intro c hT
  refine calm hT (by omega) (by omega) (by omega) ?_
  rw [o0 (y:=x) (by omega) (by omega) (by omega)]
  unfold Uc;dsimp only
  split<;>(rw [o0 (by dsimp only;omega) (by dsimp only;omega) (by dsimp only;omega)];omega)
 ·intro c hT
  refine calm hT (by omega) (by omega) (by omega) ?_
  rw [o0 (y:=x) (by omega) (by omega) (by omega)]
  unfold Uq;dsimp only
  split
  ·rw [o0 (by dsimp only;omega) (by dsimp only;omega) (by dsimp only;omega)];omega
  split<;>(rw [o0 (by dsimp only;omega) (by dsimp only;omega) (by dsimp only;omega)];omega)
 ·intro c hT
  refine calm hT (by omega) (by omega) (by omega) ?_
  rw [o0 (y:=x) (by omega) (by omega) (by omega)]
  show s.Work=s.Work+0-0;omega
 ·intro c hT
  refine calm hT (by omega) (by omega) (by omega) ?_
  rw [o0 (y:=x) (by omega) (by omega) (by omega)]
  unfold Up;dsimp only
  split<;>(rw [o0 (by dsimp only;omega) (by dsimp only;omega) (by dsimp only;omega)];omega)
 ·intro c hT
  refine calm hT (by omega) (by omega) (by omega) ?_
  rw [o0 (y:=x) (by omega) (by omega) (by omega)]
  unfold Ui;dsimp only
  split<;>(rw [o0 (by dsimp only;omega) (by dsimp only;omega) (by dsimp only;omega)];omega)
 ·intro c hT
  refine calm hT (by omega) (by omega) (by omega) ?_
  rw [o0 (y:=x) (by omega) (by omega) (by omega)]
  unfold zaB;dsimp only
  split
  ·have:=ZX s (wc (x.Slot+1))
   rw [o0 (by dsimp only;omega) (by dsimp only;omega) (by dsimp only;omega)];omega
  ·have e: ∀y v,owX {x with Slot:=y,PC:=37,G:=ZK 3 v m}=0:=fun y v=>by unfold owX;rw [if_neg (by dsimp only;omega),if_pos (.inr rfl)];exact Ye (.inr ⟨by show (0:Int)≠1;decide,by show (0:Int)≠2;decide⟩)
   rw [e];omega
 ·intro c hT
  obtain ⟨G,gm,g0⟩:=W.p37 c
  have e1:owX x=owG x.G:=by unfold owX;rw [if_neg (by omega),if_pos (.inr c)]
  unfold XU at hT ⊢
  dsimp only at hT ⊢
  have e2:owX (if (zo s x.G).2.Out=1 then {x with G:=(zo s x.G).2,PC:=onM s x.Slot} else {x with G:=(zo s x.G).2})=owG (zo s x.G).2:=by
   split
   ·rename_i o
    have:=ZX s x.Slot
    rw [Ye (.inl (by omega)),o0 (by dsimp only;omega) (by dsimp only;omega) (by dsimp only;omega)]
   ·unfold owX;rw [if_neg (by dsimp only;omega),if_pos (.inr c)]
  rw [e1,e2]
  refine gq N C G g0 ?_
  rcases hT with h | h | ⟨_,_,e,_⟩ | ⟨_,_,e,_⟩
  ·exact .inl h
  ·exact .inr h
  ·omega
  ·omega
 ·intro c hT
  rw [o0 (y:=x) (by omega) (by omega) (by omega)]
  rcases hT with ⟨_,_,e⟩ | ⟨_,_,e,_⟩ | ⟨n1,n2,_,_⟩ | ⟨_,_,e,_⟩
  ·exact absurd e (zmN (h8 c))
  ·omega
  ·rw [n1,n2]
   show s.Work=s.Work+1-0+0-1
   omega
  ·omega
 ·intro c hT
  refine calm hT (by omega) (by omega) (by omega) ?_
  have e1:owX x=1:=by unfold owX;rw [if_pos c]
  rw [e1]
  show wc (s.Work-1)=s.Work+0-1
  rw [xg (by omega) (by omega)];omega
 ·intro hT
  rcases hT with ⟨n1,n2,_⟩ | ⟨_,_,_,n3,n4⟩ | ⟨n1,n2,c,e⟩ | ⟨n1,n2,_⟩
  ·rw [n1,n2];simp only [List.length_nil];omega
  ·exact absurd n4.symm (zbl n3)
  ·exact absurd e.symm (zmN (h8 c))
  ·rw [n1,n2];simp only [List.length_nil];omega
end
end Go.Pe.G
namespace Go.Pe.G
open Go.Pe
noncomputable section
def zat (s:za):Int:=(s.Ws.map owW).sum+(s.Ms.map owX).sum
theorem zmo: ∀ {l:List Int},(∀v∈l,0≤v)→0≤l.sum
 | [],_=>by simp
 | a::l,h=>by
  have:=zmo (l:=l) (fun v hv=>h v (List.mem_cons_of_mem _ hv))
  have:=h a (List.mem_cons_self ..)
  rw [List.sum_cons];omega
theorem zyY (s:za):0≤zat s:=by
 have h1:0≤(s.Ws.map owW).sum:=zmo (fun v hv=>by obtain ⟨x,_,rfl⟩:=List.mem_map.1 hv;exact (zn1 x).1)
 have h2:0≤(s.Ms.map owX).sum:=zmo (fun v hv=>by obtain ⟨x,_,rfl⟩:=List.mem_map.1 hv;exact (zop x).1)
 unfold zat;omega
theorem zwc {α:Type} {f:α→Int} {l:List α} {i:Nat} {x:α} (h:l[i]? =some x) (y:α):((l.set i y).map f).sum=(l.map f).sum-f x+f y:=by
 have hi:=(List.getElem?_eq_some_iff.1 h).1
 rw [List.map_set,zo9 _ _ _ (by simpa using hi)]
 rw [List.getD_eq_getElem?_getD,List.getElem?_map,h]
 rfl
structure EG (p:zb) (nb k:Nat) (s:za) (gh:Gh):Prop where
 G:FG p nb k s gh
 wk:s.Work=((uQ p s gh).length:Int)+zat s
 le:s.Work≤2*(k:Int)+100
theorem EG.work_nn {p:zb} {nb k:Nat} {s:za} {gh:Gh} (I:EG p nb k s gh):0≤s.Work:=by
 have:=I.wk;have:=zyY s;omega
theorem zge (s:za):({zG s with Epoch:=s.Epoch,Flag:=s.Flag,Done:=s.Done,Restarts:=s.Restarts,D:=s.D}:za)=s:=by
 unfold zG
 repeat' split
 all_goals rfl
theorem FG.more {p:zb} {nb k:Nat} {s:za} {gh:Gh} (G:FG p nb k s gh):FG p nb (k+1) s gh:=⟨G.E,G.X.quiet G.E.S rfl,G.W,G.M,G.B,G.mrk,G.wob,G.buf,G.bk⟩
theorem EG.more {p:zb} {nb k:Nat} {s:za} {gh:Gh} (I:EG p nb k s gh):EG p nb (k+1) s gh:=⟨I.G.more,I.wk,by have:=I.le;omega⟩
theorem EG.det {p:zb} (hp:zA p) {nb k:Nat} {s:za} {gh:Gh} (I:EG p nb k s gh):EG p nb (k+1) (zG s) gh∧U2 s (zG s):=by
 have hd:=zge s
 have eM:(zG s).M=s.M:=by conv=>rhs;rw [←hd]
 have eB:(zG s).Bins=s.Bins:=by conv=>rhs;rw [←hd]
 have eT:(zG s).T=s.T:=by conv=>rhs;rw [←hd]
 have eH:(zG s).H=s.H:=by conv=>rhs;rw [←hd]
 have eW:(zG s).Ws=s.Ws:=by conv=>rhs;rw [←hd]
 have eX:(zG s).Ms=s.Ms:=by conv=>rhs;rw [←hd]
 have eK:(zG s).Work=s.Work:=by conv=>rhs;rw [←hd]
 have e:uQ p (zG s) gh=uQ p s gh:=by
  unfold uQ
  rw [eW,eX,uW eB,xL (fun x _=>zcz (x:=x) eM eB),xL (fun x _=>zfI (x:=x) eB)]
 have e2:zat (zG s)=zat s:=by unfold zat;rw [eW,eX]
 exact ⟨⟨I.G.det hp hd,by rw [e,e2,eK];exact I.wk,by rw [eK];have:=I.le;omega⟩,.inl ⟨eT,by rw [eH]⟩⟩
theorem EG.worker {p:zb} (hp:zA p) {nb k:Nat} {s:za} {gh:Gh} (hk:k<2147480000) (I:EG p nb k s gh) {w:Int} (hw:1≤w∧w≤p.Workers) (hd:s.Done=false): ∃gh',EG p nb (k+1) (zF s w) gh'∧U2 s (zF s w):=by
 obtain ⟨gh',G',F,x,hx,N,C,hbag,hT⟩:=I.G.worker hp (by omega) hw hd
 have hwl:=I.G.E.wl
 have ei:(((w-1).toNat:Nat):Int)+1=w:=by omega
 have hWX:=I.G.W _ x hx
 have hWO:=I.G.E.W _ x hx
 rw [ei] at hWX hWO
 have h8:x.PC=8→yD s.T x.Obj=1:=fun e=>I.G.grey (zlY hx (by unfold zQ;rw [YM (.inr e)];simp))
 have hnn:=I.work_nn
 have hle:=I.le
 have hW:=zyR hWX hWO (by omega) h8 hT
 have hlen:=hbag.length_eq
 rw [List.length_append,List.length_append] at hlen
 have eS:zF s w={(zj s w x).1 with Ws:=s.Ws.set (w-1).toNat (zj s w x).2}:=by
  unfold zF
  rw [if_neg (by rw [hd];rintro (e | e | e)<;>first | cases e | omega),hx]
 have eK:(zF s w).Work=(zj s w x).1.Work:=by rw [eS]
 have eX:(zF s w).Ms=s.Ms:=by rw [eS];show (zj s w x).1.Ms=_;rw [zd6 hWO]
 have eW:(zF s w).Ws=s.Ws.set (w-1).toNat (zj s w x).2:=by rw [eS]
 have ho:zat (zF s w)=zat s-owW x+owW (zj s w x).2:=by
  unfold zat
  rw [eX,eW,zwc hx];omega
 have hwk:=I.wk
 have hN:N.length≤1:=by rcases hT with ⟨e,_⟩ | ⟨e,_⟩ | ⟨e,_⟩<;>rw [e]<;>simp
 have o1:=zn1 x
 have o2:=zn1 (zj s w x).2
 refine ⟨gh',⟨G',by rw [eK,hW,ho];omega,?_⟩,F⟩
 rw [eK,hW]
 omega
theorem EG.mutator {p:zb} (hp:zA p) {nb k:Nat} {s:za} {gh:Gh} (hk:k<2147480000) (I:EG p nb k s gh) {m:Int} (hm:1≤m∧m≤p.Mutators) (hd:s.Done=false): ∃gh',EG p nb (k+1) (zu s m) gh'∧U2 s (zu s m):=by
 obtain ⟨gh',G',F,x,hx,N,C,hbag,hT⟩:=I.G.mutator hp (by omega) hm hd
 have hml:=I.G.E.ml
 have ei:(((m-1).toNat:Nat):Int)+1=m:=by omega
 have hMX:=I.G.M _ x hx
 have hXO:=I.G.E.X _ x hx
 rw [ei] at hXO
 have h8:x.PC=38→yD s.T x.Obj=1:=fun e=>I.G.grey (zgC hx (by unfold z5;rw [Wl (.inr e)];simp))
 have hnn:=I.work_nn
 have hle:=I.le
 have hW:=zAk (m:=m) hMX hXO (by omega) h8 hT
 have hlen:=hbag.length_eq
 rw [List.length_append,List.length_append] at hlen
 have eS:zu s m={(zi s m x).1 with Ms:=s.Ms.set (m-1).toNat (zi s m x).2}:=by
  unfold zu
  rw [if_neg (by rw [hd];rintro (e | e | e)<;>first | cases e | omega),hx]
 have eK:(zu s m).Work=(zi s m x).1.Work:=by rw [eS]
 have eW:(zu s m).Ws=s.Ws:=by rw [eS];show (zi s m x).1.Ws=_;rw [zdn]
 have eX:(zu s m).Ms=s.Ms.set (m-1).toNat (zi s m x).2:=by rw [eS]
 have ho:zat (zu s m)=zat s-owX x+owX (zi s m x).2:=by
  unfold zat
  rw [eX,eW,zwc hx];omega
 have hwk:=I.wk
 have hN:N.length≤1:=by rcases hT with ⟨e,_⟩ | ⟨e,_⟩ | ⟨e,_⟩ | ⟨e,_⟩<;>rw [e]<;>simp
 have o1:=zop x
 have o2:=zop (zi s m x).2
 refine ⟨gh',⟨G',by rw [eK,hW,ho];omega,?_⟩,F⟩
 rw [eK,hW]
 omega
theorem zoX {s:za} (hd:s.Done=true) (j:Int):uU s j=s:=by
 unfold uU
 split
 ·unfold zG;rw [if_pos hd]
 split
 ·unfold zF;rw [if_pos (.inl hd)]
 ·unfold zu;rw [if_pos (.inl hd)]
theorem EG.next {p:zb} (hp:zA p) {nb k:Nat} {s:za} {gh:Gh} (hk:k<2147480000) (I:EG p nb k s gh) (j:Int): ∃gh',EG p nb (k+1) (uU s j) gh'∧U2 s (uU s j):=by
 cases hd:s.Done with
 | true=>rw [zoX hd];exact ⟨gh,I.more,.inl ⟨rfl,rfl⟩⟩
 | false =>
  have hwl:=I.G.E.wl
  have hml:=I.G.E.ml
  unfold uU
  split
  ·exact ⟨gh,I.det hp⟩
  split
  ·by_cases h1:1≤j
   ·exact I.worker hp hk (by omega) hd
   ·have:zF s j=s:=by unfold zF;rw [if_pos (.inr (.inl (by omega)))]
    rw [this];exact ⟨gh,I.more,.inl ⟨rfl,rfl⟩⟩
  ·by_cases h1:1≤j-(s.Ws.length:Int)∧j-(s.Ws.length:Int)≤(s.Ms.length:Int)
   ·exact I.mutator hp hk (by omega) hd
   ·have:zu s (j-(s.Ws.length:Int))=s:=by unfold zu;rw [if_pos (by omega)]
    rw [this];exact ⟨gh,I.more,.inl ⟨rfl,rfl⟩⟩
end
end Go.Pe.G
namespace Go.Pe.G
open Go.Pe
noncomputable section
theorem PI.same {p:zb} {s s':za} {W:Int→Int→Prop} (I:PI p s W) (eH:s'.H=s.H) (eT:s'.T=s.T) (eW:s'.Ws=s.Ws) (eX:s'.Ms=s.Ms):PI p s' W:=by
 have us: ∀u j,US s u j→US s' u j:=fun u j h=>⟨fun i x hx=>h.1 i x (by rw [←eW];exact hx),fun i x hx=>h.2 i x (by rw [←eX];exact hx)⟩
 have pd: ∀o,zmT s o→zmT s' o:=fun o h=>by
  rcases h with ⟨i,x,hx,h⟩ | ⟨i,x,hx,h⟩
  ·exact .inl ⟨i,x,by rw [eW];exact hx,h⟩
  ·exact .inr ⟨i,x,by rw [eX];exact hx,h⟩
 have P:zr4 s s' W W:=⟨fun o h=>by rw [eT];exact h,fun o h=> .inr (pd o h),fun u j hW hj=> .inl ⟨hW,by rw [eH];exact hj,by rw [eH]⟩,fun u j _ _ hg hu=> .inl ⟨by rw [eT];exact hg,us u j hu⟩,fun u j _ _ h1 h2=>by rw [eT] at h2;exact absurd h2 h1⟩
 refine ⟨fun o ho=> ?_,fun i x hx=>I.sw i x (by rw [←eW];exact hx),fun i x hx=>I.sx i x (by rw [←eX];exact hx),fun i x hx hW=> ?_⟩
 ·have h0:o≠0:=by have:=ho.in;omega
  rcases I.lv o ho with h | h
  ·exact .inl (by rw [eT];exact h)
  ·exact P.prot h h0
 ·obtain ⟨a,b⟩:=I.cv i x (by rw [←eX];exact hx) hW
  rw [eH,eT]
  exact ⟨a,b⟩
theorem PI.det {p:zb} {s:za} {W:Int→Int→Prop} (I:PI p s W):PI p (zG s) W:=by
 have hd:=zge s
 exact I.same (by conv=>rhs;rw [←hd]) (by conv=>rhs;rw [←hd]) (by conv=>rhs;rw [←hd]) (by conv=>rhs;rw [←hd])
theorem zAb {p:zb} (hp:zA p) {nb k:Nat} {s:za} {gh:Gh} {W:Int→Int→Prop} (hk:k<2147480000) (I:EG p nb k s gh) (J:PI p s W) (j:Int): ∃gh' W',EG p nb (k+1) (uU s j) gh'∧PI p (uU s j) W'∧U2 s (uU s j):=by
 obtain ⟨gh',I',F⟩:=I.next hp hk j
 have fin:(∃W',PI p (uU s j) W')→∃gh' W',EG p nb (k+1) (uU s j) gh'∧PI p (uU s j) W'∧U2 s (uU s j):=fun ⟨W',h⟩=>⟨gh',W',I',h,F⟩
 refine fin ?_
 cases hd:s.Done with
 | true=>rw [zoX hd];exact ⟨W,J⟩
 | false =>
  have hwl:=I.G.E.wl
  have hml:=I.G.E.ml
  unfold uU
  split
  ·exact ⟨W,J.det⟩
  split
  ·by_cases h1:1≤j
   ·exact ⟨W,PI.worker hp (by omega) I.G J (by omega) hd⟩
   ·have:zF s j=s:=by unfold zF;rw [if_pos (.inr (.inl (by omega)))]
    rw [this];exact ⟨W,J⟩
  ·by_cases h1:1≤j-(s.Ws.length:Int)∧j-(s.Ws.length:Int)≤(s.Ms.length:Int)
   ·exact PI.mutator hp (by omega) I.G J (by omega) hd
   ·have:zu s (j-(s.Ws.length:Int))=s:=by unfold zu;rw [if_pos (by omega)]
    rw [this];exact ⟨W,J⟩
theorem PI.quiet {p:zb} {s:za} {W:Int→Int→Prop} (J:PI p s W) (hg: ∀o,yD s.T o≠1) (hpd: ∀o,zmT s o→zK s.T.Marks o=true) {o:Int} (ho:Reach p.H (uk p) o):zK s.T.Marks o=true:=by
 have key: ∀q,znp s W q→zK s.T.Marks q=true:=fun q h=>by
  induction h with
  | pend o h=>exact hpd o h
  | white u j o _ _ _ hu _ ih=>exact absurd ih hu
  | grey u j o _ _ _ h _=>exact absurd h (hg u)
 rcases J.lv o ho with h | h
 ·exact h
 ·exact key o h
end
end Go.Pe.G
namespace Go.Pe.G
open Go.Pe
noncomputable section
theorem zAr: ∀t:Fin 64,cnt (BitVec.ofNat 64 t.1)=((Wy (BitVec.ofNat 64 t.1)).length:Int):=by decide +kernel
theorem zzr {s:BitVec 64} (h:s&&& ~~~63#64=0#64):cnt s=((Wy s).length:Int):=by
 have hs:s.toNat<64:=by
  have e:s=s&&&63#64:=by
   have:s=(s&&&63#64)|||(s&&& ~~~63#64):=by
    apply BitVec.eq_of_getLsbD_eq
    intro i hi
    simp only [BitVec.getLsbD_or,BitVec.getLsbD_and,BitVec.getLsbD_not]
    cases s.getLsbD i<;>cases (63#64:BitVec 64).getLsbD i<;>simp [hi]
   rw [h,BitVec.or_zero] at this
   exact this
  rw [e,BitVec.toNat_and]
  have:s.toNat&&&(63#64:BitVec 64).toNat≤(63#64:BitVec 64).toNat:=Nat.and_le_right
  have e63:(63#64:BitVec 64).toNat=63:=by decide
  omega
 have:=zAr ⟨s.toNat,hs⟩
 have e:BitVec.ofNat 64 s.toNat=s:=by simp
 rw [e] at this
 exact this
theorem zzF {p:zb} (h:zA p):EG p (zZ p+1) 0 (yM p) (gh0 p):=by
 have hms: ∀x∈(yM p).Ms,x.PC=0:=fun x hx=>by
  obtain ⟨r,_,e⟩:=List.mem_map.1 (show x∈p.Regs.map xO from hx)
  rw [←e];rfl
 have hws: ∀x∈(yM p).Ws,∃i:Nat,x=ul p i:=fun x hx=>by
  obtain ⟨j,_,e⟩:=List.mem_map.1 (show x∈(List.range p.Workers.toNat).map (ul p) from hx)
  exact ⟨j,e.symm⟩
 have z: ∀ {l:List Int},(∀v∈l,v=0)→l.sum=0:=fun {l} h=>by
  induction l with
  | nil=>rfl
  | cons a l ih=>rw [List.sum_cons,h a (List.mem_cons_self ..),ih (fun v hv=>h v (List.mem_cons_of_mem _ hv))];rfl
 have ho:zat (yM p)=0:=by
  unfold zat
  rw [z (fun v hv=>by
   obtain ⟨x,hx,rfl⟩:=List.mem_map.1 hv
   obtain ⟨i,rfl⟩:=hws x hx
   rfl),z (fun v hv=>by
   obtain ⟨x,hx,rfl⟩:=List.mem_map.1 hv
   have:=hms x hx
   unfold owX;rw [if_neg (by omega),if_neg (by omega)])]
  rfl
 have hold1:(yM p).Ms.flatMap (z5 (yM p))=[]:=zbj (fun x hx=>by
  obtain ⟨r,_,e⟩:=List.mem_map.1 (show x∈p.Regs.map xO from hx)
  rw [←e]
  unfold z5
  rw [uH ⟨by show (0:Int)≠3;decide,by show (0:Int)≠33;decide,by show (0:Int)≠36;decide,by show (0:Int)≠37;decide,by show (0:Int)≠38;decide⟩];rfl)
 have hold2:(yM p).Ws.flatMap (zQ (yM p))=[]:=zbj (fun x hx=>by
  obtain ⟨i,rfl⟩:=hws x hx
  have hb:ul p i=Ul p ((i:Int)+1) (ul p i):=rfl
  unfold zQ
  rw [hb,zif];rfl)
 have hb:uQ p (yM p) (gh0 p)=Wy (uk p):=by
  unfold uQ
  rw [hold1,hold2,List.append_nil,List.append_nil,zxu h]
 have hc:=zzr (zfS h)
 have hw:(yM p).Work=cnt (uk p):=rfl
 have hl:=zkQ h
 have hn:=h.n
 exact ⟨zB7 h,by rw [hb,ho,hw,hc];omega,by rw [hw,hc];omega⟩
end
end Go.Pe.G
namespace Go.Pe.G
open Go.Pe
noncomputable section
theorem zBR {l:List Int} {v:Int} (hv:1≤v∧v≤64): ∀(a:BitVec 64),zK a v=true∨v∈l→zK (l.foldl (fun s o=>s|||bit o) a) v=true:=by
 induction l with
 | nil=>rintro a (h | h);exact h;cases h
 | cons x l ih =>
  rintro a h
  refine ih _ ?_
  rw [v8]
  rcases h with h | h
  ·exact .inl (.inl h)
  ·rcases List.mem_cons.1 h with rfl | h
   ·exact .inl (.inr ((wp 0#64 hv v).2 (.inr rfl) |> fun h=>by simpa using h))
   ·exact .inr h
theorem zoH {v:Int} (hv:1≤v∧v≤64): ∀(L:List (List Int)) (a:BitVec 64),(zK a v=true∨∃r∈L,v∈r)→zK (L.foldl (fun s l=>s|||zfO l) a) v=true
 | [],a,h=>by
  rcases h with h | ⟨r,h,_⟩
  ·exact h
  ·cases h
 | r::L,a,h=>by
  refine zoH hv L _ ?_
  rw [v8]
  rcases h with h | ⟨q,h,hq⟩
  ·exact .inl (.inl h)
  ·rcases List.mem_cons.1 h with rfl | h
   ·exact .inl (.inr (zBR hv _ (.inr hq)))
   ·exact .inr ⟨q,h,hq⟩
def LvH (p:zb) (h:zr) (o:Int):Prop:=zK (zuN p) o=true∨((p.H.Objs.length:Int)<o∧o≤(h.Objs.length:Int))
def Uf (p:zb) (h:zr):Prop:=∀o v,LvH p h o→v∈zM h o→v=0∨LvH p h v
def Wk (p:zb) (h:zr) (r:List Int):Prop:=∀v∈r,v=0∨LvH p h v
theorem LvH.mono {p:zb} {h h':zr} (hl:h.Objs.length≤h'.Objs.length) {o:Int} (L:LvH p h o):LvH p h' o:=by
 rcases L with L | L
 ·exact .inl L
 ·exact .inr (by omega)
theorem LvH.in {p:zb} (hp:zA p) {h:zr} (hn:(p.H.Objs.length:Int)≤(h.Objs.length:Int)) {o:Int} (L:LvH p h o):1≤o∧o≤(h.Objs.length:Int):=by
 rcases L with L | L
 ·have:=((zfo hp o).1 L).in
  omega
 ·omega
theorem Wk.mono {p:zb} {h h':zr} (hl:h.Objs.length≤h'.Objs.length) {r:List Int} (R:Wk p h r):Wk p h' r:=fun v hv=>(R v hv).imp id (fun L=>L.mono hl)
theorem Wk.set {p:zb} {h:zr} {r:List Int} (R:Wk p h r) {v:Int} (hv:v=0∨LvH p h v) (i:Nat):Wk p h (r.set i v):=fun u hu=>by
 rcases List.mem_or_eq_of_mem_set hu with h | rfl
 ·exact R u h
 ·exact hv
theorem Wk.reg {p:zb} {h:zr} {x:zc} (R:Wk p h x.Regs) (r:Int):vz x r=0∨LvH p h (vz x r):=by
 unfold vz
 rw [List.getD_eq_getElem?_getD]
 cases hx:x.Regs[r.toNat]? with
 | none=>exact .inl rfl
 | some v=>exact R v (List.mem_of_getElem? hx)
theorem zrs {p:zb} {h:zr} (C:Uf p h) {a:Int} (ha:a=0∨LvH p h a) (i:Int):zO h a i=0∨LvH p h (zO h a i):=by
 unfold zO
 split
 ·rename_i hs
  simp only [yK,Bool.and_eq_true,decide_eq_true_eq] at hs
  have L:LvH p h a:=ha.resolve_left (by omega)
  rw [List.getD_eq_getElem?_getD]
  cases hx:(zM h a)[i.toNat]? with
  | none=>exact .inl rfl
  | some v=>exact C a v L (List.mem_of_getElem? hx)
 ·exact .inl rfl
theorem zxJ {p:zb} {h:zr} (C:Uf p h) {a i v:Int} (hv:v=0∨LvH p h v):Uf p (uI h a i v):=by
 intro o w L hw
 have hl:=zas h a i v
 have L':LvH p h o:=L.mono (by omega)
 have up: ∀ {u:Int},(u=0∨LvH p h u)→(u=0∨LvH p (uI h a i v) u):=fun hu=>hu.imp id (fun L=>L.mono (by omega))
 unfold uI at hw
 split at hw
 ·rename_i hs
  obtain ⟨hs,_⟩:=hs
  simp only [yK,Bool.and_eq_true,decide_eq_true_eq] at hs
  have hw:w∈(h.Objs.set (a-1).toNat ((zM h a).set i.toNat v)).getD (o-1).toNat []:=hw
  rw [zi7 (by omega)] at hw
  split at hw
  ·rename_i e
   have es:zM h a=zM h o:=by unfold zM;rw [e]
   rcases List.mem_or_eq_of_mem_set hw with h1 | rfl
   ·exact up (C o w L' (es▸h1))
   ·exact up hv
  ·exact up (C o w L' hw)
 ·exact up (C o w L' hw)
theorem zvH {p:zb} (hp:zA p) {h:zr} (hn:(p.H.Objs.length:Int)≤(h.Objs.length:Int)) (C:Uf p h):Uf p (xT h):=by
 intro o w L hw
 have hl:=zc3 h
 have hin:=L.in hp (by omega)
 by_cases ho:o≤(h.Objs.length:Int)
 ·have L':LvH p h o:=by
   rcases L with L | L
   ·exact .inl L
   ·exact .inr (by omega)
  have e:zM (xT h) o=zM h o:=by
   unfold zM xT
   rw [List.getD_eq_getElem?_getD,List.getD_eq_getElem?_getD,List.getElem?_append_left (by omega)]
  rw [e] at hw
  exact (C o w L' hw).imp id (fun L=>L.mono (by omega))
 ·have e:zM (xT h) o=List.replicate h.Slots.toNat 0:=by
   unfold zM xT
   rw [List.getD_eq_getElem?_getD,List.getElem?_append_right (by omega),show (o-1).toNat-h.Objs.length=0 by omega]
   rfl
  rw [e] at hw
  exact .inl (List.eq_of_mem_replicate hw)
structure RgI (p:zb) (s:za):Prop where
 hp:Uf p s.H
 rg: ∀x∈s.Ms,Wk p s.H x.Regs
theorem zzd {p:zb} (hp:zA p) {s:za} {m:Int} {x:zc} (hn:HOk p s.H) (C:Uf p s.H) (R:Wk p s.H x.Regs) :
  Uf p (zi s m x).1.H∧Wk p (zi s m x).1.H (zi s m x).2.Regs∧s.H.Objs.length≤(zi s m x).1.H.Objs.length:=by
 have hN:=hn.n
 have hM:=hp.most
 have hn6:=hp.n
 have same: ∀ {t:za} {y:zc},t.H=s.H→y.Regs=x.Regs→Uf p t.H∧Wk p t.H y.Regs∧s.H.Objs.length≤t.H.Objs.length:=fun e1 e2=>by rw [e1,e2];exact ⟨C,R,Nat.le_refl _⟩
 refine yI (motive:=fun r=>Uf p r.1.H∧Wk p r.1.H r.2.Regs∧s.H.Objs.length≤r.1.H.Objs.length) s m x ?_ ?_ ?_ ?_ ?_ ?_ ?_ ?_ ?_ ?_ ?_ ?_ ?_ ?_ ?_ ?_ ?_ ?_ ?_ ?_
 ·intro c;unfold mu0 ZW
  split
  ·exact same rfl rfl
  split
  ·exact same rfl rfl
  split
  ·exact same rfl rfl
  split
  ·exact same rfl rfl
  split
  ·exact same rfl rfl
  split
  ·exact ⟨C,R.set (R.reg _) _,Nat.le_refl _⟩
  ·exact ⟨C,R.set (.inl rfl) _,Nat.le_refl _⟩
 ·intro c;unfold mu1;split<;>exact same rfl rfl
 ·intro c;unfold mu2;exact same rfl rfl
 ·intro c;unfold mu3;refine same (by rw [Xw]) ?_;dsimp only;split<;>rfl
 ·intro c;unfold zcS;exact ⟨C,R.set (zrs C (R.reg _) _) _,Nat.le_refl _⟩
 ·intro c;unfold Vo;refine same rfl ?_;dsimp only;split<;>rfl
 ·intro c;unfold WT;refine same rfl ?_;dsimp only;split<;>rfl
 ·intro c;unfold UD;refine same rfl ?_;dsimp only;split<;>rfl
 ·intro c;unfold zb5
  have hl:=zas s.H (vz x (opM s.P m x).A) (opM s.P m x).S (vz x (opM s.P m x).R)
  exact ⟨zxJ C (R.reg _),R.mono (by dsimp only;omega),by dsimp only;omega⟩
 ·intro c;unfold YQ
  split
  ·split
   ·have hl:=zc3 s.H
    have w:wc ((s.H.Objs.length:Int)+1)=(s.H.Objs.length:Int)+1:=xg (by omega) (by omega)
    refine ⟨zvH hp hN.1 C,?_,by dsimp only;omega⟩
    refine Wk.set (R.mono (by dsimp only;omega)) (.inr (.inr ?_)) _
    rw [w]
    exact ⟨by omega,by dsimp only;omega⟩
   ·exact same rfl rfl
  ·exact same rfl rfl
 ·intro c;unfold Uc;refine same rfl ?_;dsimp only;split<;>rfl
 ·intro c;unfold Uq;refine same rfl ?_;dsimp only;repeat' split
  all_goals rfl
 ·intro c;unfold zcN;exact same rfl rfl
 ·intro c;unfold Up;refine same rfl ?_;dsimp only;split<;>rfl
 ·intro c;unfold Ui;refine same rfl ?_;dsimp only;split<;>rfl
 ·intro c;unfold zaB;refine same rfl ?_;dsimp only;split<;>rfl
 ·intro c;unfold XU;refine same (by rw [Xw]) ?_;dsimp only;split<;>rfl
 ·intro c;unfold zel;exact same rfl rfl
 ·intro c;unfold ze8;exact same rfl rfl
 ·exact same rfl rfl
theorem RgI.step {p:zb} {nb:Nat} (hp:zA p) {s:za} (E:EOk p nb s) (I:RgI p s) (m:Int):RgI p (zu s m):=by
 unfold zu
 split
 ·exact I
 cases hx:s.Ms[(m-1).toNat]? with
 | none=>exact I
 | some x =>
  obtain ⟨h1,h2,h3⟩:=zzd (m:=m) hp E.H I.hp (I.rg x (List.mem_of_getElem? hx))
  refine ⟨h1,fun y hy=> ?_⟩
  rcases List.mem_or_eq_of_mem_set hy with hy | rfl
  ·exact (I.rg y hy).mono h3
  ·exact h2
theorem zCr {p:zb} (hp:zA p):RgI p (yM p):=by
 have hn:=hp.n
 refine ⟨fun o v L hv=> ?_,fun x hx v hv=> ?_⟩
 ·by_cases h0:v=0
  ·exact .inl h0
  refine .inr (.inl ?_)
  rcases L with L | L
  ·have r:=(zfo hp o).1 L
   have ho:=r.in
   have hm:zM p.H o∈p.H.Objs:=by
    unfold zM
    rw [List.getD_eq_getElem?_getD,List.getElem?_eq_getElem (show (o-1).toNat<p.H.Objs.length by omega)]
    exact List.getElem_mem _
   have:=(hp.objs _ hm).2 v hv
   exact (zfo hp v).2 (.step o v r hv (by omega))
  ·have:o≤(p.H.Objs.length:Int):=L.2
   omega
 ·have hx:x∈p.Regs.map xO:=hx
  obtain ⟨r,hr,rfl⟩:=List.mem_map.1 hx
  have hv:v∈r:=hv
  have:=(hp.reg r hr).2 v hv
  by_cases h0:v=0
  ·exact .inl h0
  exact .inr (.inl ((zfo hp v).2 (.root v (zoH (by omega) _ _ (.inr ⟨r,hr,hv⟩)) (by omega))))
end
end Go.Pe.G
namespace Go.Pe.G
open Go.Pe
noncomputable section
def zoM (x:zc):Prop:=x.Obj=0∨(36≤x.PC∧x.PC≤39)
theorem zAO {s:za} {m:Int} {x:zc} (h:zoM x):zoM (zi s m x).2:=by
 have out: ∀ {y:zc},y.Obj=x.Obj→¬(36≤x.PC∧x.PC≤39)→zoM y:=fun e hn=> .inl (e.trans (h.resolve_right hn))
 refine yI (motive:=fun r=>zoM r.2) s m x ?_ ?_ ?_ ?_ ?_ ?_ ?_ ?_ ?_ ?_ ?_ ?_ ?_ ?_ ?_ ?_ ?_ ?_ ?_ ?_
 all_goals try (intro c)
 ·unfold mu0 ZW;repeat' split
  all_goals exact out rfl (by omega)
 ·unfold mu1;dsimp only;split<;>exact out rfl (by omega)
 ·exact out rfl (by omega)
 ·unfold mu3;dsimp only;split<;>exact out rfl (by omega)
 ·exact out rfl (by omega)
 ·unfold Vo;dsimp only;split<;>exact out rfl (by omega)
 ·unfold WT;dsimp only;split<;>exact out rfl (by omega)
 ·unfold UD;dsimp only;split<;>exact out rfl (by omega)
 ·exact out rfl (by omega)
 ·unfold YQ;repeat' split
  all_goals exact out rfl (by omega)
 ·unfold Uc;dsimp only;split<;>exact out rfl (by omega)
 ·unfold Uq;dsimp only;repeat' split
  all_goals exact out rfl (by omega)
 ·exact out rfl (by omega)
 ·unfold Up;dsimp only;split<;>exact out rfl (by omega)
 ·unfold Ui;dsimp only;split
  ·exact out rfl (by omega)
  ·exact .inr ⟨by show (36:Int)≤36;decide,by show (36:Int)≤39;decide⟩
 ·unfold zaB;dsimp only
  have:=ZX s (wc (x.Slot+1))
  split
  ·exact .inr ⟨by dsimp only;omega,by dsimp only;omega⟩
  ·exact .inr ⟨by show (36:Int)≤37;decide,by show (37:Int)≤39;decide⟩
 ·unfold XU;dsimp only
  have:=ZX s x.Slot
  split
  ·exact .inr ⟨by dsimp only;omega,by dsimp only;omega⟩
  ·exact .inr ⟨by dsimp only;omega,by dsimp only;omega⟩
 ·exact .inr ⟨by show (36:Int)≤39;decide,by show (39:Int)≤39;decide⟩
 ·exact .inl rfl
 ·exact h
structure uN (p:zb) (s:za) (gh:Gh):Prop where
 bag:uQ p s gh=[]
 w9: ∀(i:Nat) x,s.Ws[i]? =some x→x.PC≠9
 m39: ∀(i:Nat) x,s.Ms[i]? =some x→x.PC≠39
theorem uN.of {p:zb} {nb k:Nat} {s:za} {gh:Gh} (I:EG p nb k s gh) (h:s.Work=0):uN p s gh∧zat s=0:=by
 have hw:=I.wk
 have ho:=zyY s
 have hb:(uQ p s gh).length=0:=by omega
 have h1:0≤(s.Ws.map owW).sum:=zmo (fun v hv=>by obtain ⟨x,_,rfl⟩:=List.mem_map.1 hv;exact (zn1 x).1)
 have h2:0≤(s.Ms.map owX).sum:=zmo (fun v hv=>by obtain ⟨x,_,rfl⟩:=List.mem_map.1 hv;exact (zop x).1)
 have h3:(s.Ws.map owW).sum+(s.Ms.map owX).sum=0:=by show zat s=0;omega
 have one: ∀(l:List Int),(∀v∈l,0≤v)→l.sum=0→∀v∈l,v=0:=fun l=>by
  induction l with
  | nil=>intro _ _ v hv;cases hv
  | cons a l ih =>
   intro hn hs v hv
   have ha:=hn a (List.mem_cons_self ..)
   have hl:=zmo (l:=l) (fun v hv=>hn v (List.mem_cons_of_mem _ hv))
   rw [List.sum_cons] at hs
   rcases List.mem_cons.1 hv with rfl | hv
   ·omega
   ·exact ih (fun v hv=>hn v (List.mem_cons_of_mem _ hv)) (by omega) v hv
 refine ⟨⟨List.length_eq_zero_iff.1 hb,fun i x hx e=> ?_,fun i x hx e=> ?_⟩,by omega⟩
 ·have:=one _ (fun v hv=>by obtain ⟨x,_,rfl⟩:=List.mem_map.1 hv;exact (zn1 x).1) (show (s.Ws.map owW).sum=0 by omega) (owW x) (List.mem_map.2 ⟨x,List.mem_of_getElem? hx,rfl⟩)
  unfold owW at this
  rw [if_pos e] at this;omega
 ·have:=one _ (fun v hv=>by obtain ⟨x,_,rfl⟩:=List.mem_map.1 hv;exact (zop x).1) (show (s.Ms.map owX).sum=0 by omega) (owX x) (List.mem_map.2 ⟨x,List.mem_of_getElem? hx,rfl⟩)
  unfold owX at this
  rw [if_pos e] at this;omega
theorem uN.noW {p:zb} {s:za} {gh:Gh} (C:uN p s gh) {i:Nat} {x:ze} (hx:s.Ws[i]? =some x):x.PC≠5∧x.PC≠6∧x.PC≠8:=by
 have no: ∀o,o∉uQ p s gh:=fun o=>by rw [C.bag];simp
 refine ⟨fun e=>no x.Obj (zlY hx ?_),fun e=>no x.Obj (zlY hx ?_),fun e=>no x.Obj (zlY hx ?_)⟩
 ·unfold zQ;rw [YM (.inl e)];simp
 ·unfold zQ;rw [zo1 e];simp
 ·unfold zQ;rw [YM (.inr e)];simp
theorem uN.noX {p:zb} {s:za} {gh:Gh} (C:uN p s gh) {i:Nat} {x:zc} (hx:s.Ms[i]? =some x):x.PC≠36∧x.PC≠37∧x.PC≠38∧x.Batch=[]:=by
 have no: ∀o,o∉uQ p s gh:=fun o=>by rw [C.bag];simp
 refine ⟨fun e=>no x.Obj (zgC hx ?_),fun e=>no x.Obj (zgC hx ?_),fun e=>no x.Obj (zgC hx ?_),List.eq_nil_iff_forall_not_mem.2 fun o ho=>no o (zgC hx (List.mem_append_left _ ho))⟩
 ·unfold z5;rw [Wl (.inl e)];simp
 ·unfold z5;rw [zlX e];simp
 ·unfold z5;rw [Wl (.inr e)];simp
theorem uN.worker {p:zb} (hp:zA p) {nb k:Nat} {s:za} {gh:Gh} (hk:k<4294960000) (G:FG p nb k s gh) (C:uN p s gh) {w:Int} (hw:1≤w∧w≤p.Workers) (hd:s.Done=false): ∃gh',FG p nb (k+1) (zF s w) gh'∧uN p (zF s w) gh'∧(zF s w).T=s.T:=by
 obtain ⟨gh',G',F,x,hx,N,D,hbag,hT⟩:=G.worker hp hk hw hd
 have hwl:=G.E.wl
 have hn:=C.noW hx
 have h9:=C.w9 _ x hx
 have hpc:=(G.E.W _ x hx).pc
 have eS:zF s w={(zj s w x).1 with Ws:=s.Ws.set (w-1).toNat (zj s w x).2}:=by
  unfold zF
  rw [if_neg (by rw [hd];rintro (e | e | e)<;>first | cases e | omega),hx]
 have ei:(((w-1).toNat:Nat):Int)+1=w:=by omega
 have hWO:=G.E.W _ x hx
 rw [ei] at hWO
 have eX:(zF s w).Ms=s.Ms:=by rw [eS];show (zj s w x).1.Ms=_;rw [zd6 hWO]
 have eW:(zF s w).Ws=s.Ws.set (w-1).toNat (zj s w x).2:=by rw [eS]
 have n9:(zj s w x).2.PC≠9:=by
  have lk: ∀y:ze,(uS s.P w y).PC≠9:=fun y=>by unfold uS;split<;>simp
  unfold zj
  by_cases c01:x.PC=0∨x.PC=1
  ·rw [if_pos c01];dsimp only
   split
   ·show (5:Int)≠9;decide
   split
   ·exact lk _
   ·exact h9
  rw [if_neg c01]
  by_cases c2:x.PC=2
  ·rw [if_pos c2];dsimp only
   split
   ·show (3:Int)≠9;decide
   split
   ·show (0:Int)≠9;decide
   ·exact h9
  rw [if_neg c2]
  by_cases c3:x.PC=3
  ·rw [if_pos c3];show (4:Int)≠9;decide
  rw [if_neg c3]
  by_cases c4:x.PC=4
  ·rw [if_pos c4];dsimp only
   split
   ·show (7:Int)≠9;decide
   ·exact h9
  rw [if_neg c4,if_neg hn.1,if_neg hn.2.1,if_pos (by omega)]
  dsimp only
  split
  ·show (0:Int)≠9;decide
  ·show (5:Int)≠9;decide
 rcases hT with ⟨e1,e2,t⟩ | ⟨_,_,c,_⟩ | ⟨_,_,c,_⟩
 ·rw [e1,e2,C.bag,List.append_nil,List.append_nil] at hbag
  refine ⟨gh',G',⟨List.perm_nil.1 hbag,fun i y hy=> ?_,fun i y hy=>C.m39 i y (by rw [←eX];exact hy)⟩,by rw [eS];exact t⟩
  rw [eW] at hy
  by_cases hne:i=(w-1).toNat
  ·subst hne
   rw [List.getElem?_set_self (by omega)] at hy
   injection hy with hy
   rw [←hy];exact n9
  ·rw [List.getElem?_set_ne (fun e=>hne e.symm)] at hy
   exact C.w9 i y hy
 ·exact absurd c hn.2.1
 ·exact absurd c hn.2.2
theorem zA3 {s:za} {g:zC} (g0:g.Out=0) (gm:g.Mode=2) (hpc:0≤g.PC∧g.PC≤7) (hn: ¬(s.T.Marks|||bit g.Obj=s.T.Marks)) (h:(zo s g).1.T={s.T with Marks:=s.T.Marks|||bit g.Obj}):(zo s g).2.PC=4∧(zo s g).2.Out=0∧(zo s g).2.Mode=2:=by
 have ne:=zbl hn
 revert h
 unfold zo
 rw [if_neg (by omega)]
 by_cases c7:g.PC=7
 ·rw [if_pos c7];intro h;exact absurd h.symm ne
 rw [if_neg c7]
 by_cases c6:g.PC=6
 ·rw [if_pos c6];intro h;exact absurd h.symm ne
 rw [if_neg c6]
 by_cases c5:g.PC=5
 ·rw [if_pos c5];intro h;exact absurd h.symm ne
 rw [if_neg c5]
 by_cases c4:g.PC=4
 ·rw [if_pos c4];intro h;exact absurd h.symm ne
 rw [if_neg c4]
 by_cases c3:g.PC=3
 ·rw [if_pos c3];intro h;exact absurd h.symm ne
 rw [if_neg c3]
 by_cases c2:g.PC=2
 ·rw [if_pos c2];intro h;exact absurd h.symm ne
 rw [if_neg c2]
 by_cases c1:g.PC=1
 ·rw [if_pos c1]
  intro h
  unfold zh1 at h ⊢
  dsimp only at h ⊢
  rcases zud s.T g.Obj with ⟨a,b⟩ | ⟨a,b,c⟩
  ·rw [b] at h;exact absurd h.symm ne
  ·rw [if_neg (by rw [a];decide),if_neg (by omega),if_pos gm]
   exact ⟨rfl,g0,gm⟩
 rw [if_neg c1]
 intro h;exact absurd h.symm ne
def vo (s:za):Prop:=s.Flag=true∨∃(i:Nat) (x:zc),s.Ms[i]? =some x∧x.PC=3∧x.G.PC=4∧x.G.Out=0
theorem uN.mutator {p:zb} (hp:zA p) {nb k:Nat} {s:za} {gh:Gh} (hk:k<4294960000) (G:FG p nb k s gh) (C:uN p s gh) {m:Int} (hm:1≤m∧m≤p.Mutators) (hd:s.Done=false) :
  ∃gh',FG p nb (k+1) (zu s m) gh'∧((uN p (zu s m) gh'∧∀u,u≤(s.H.Objs.length:Int)→(zK (zu s m).T.Marks u=true↔zK s.T.Marks u=true))∨(vo (zu s m)∧∃x,s.Ms[(m-1).toNat]? =some x∧x.PC=3)):=by
 obtain ⟨gh',G',F,x,hx,N,D,hbag,hT⟩:=G.mutator hp hk hm hd
 have hml:=G.E.ml
 have hn:=C.noX hx
 have h39:=C.m39 _ x hx
 have eS:zu s m={(zi s m x).1 with Ms:=s.Ms.set (m-1).toNat (zi s m x).2}:=by
  unfold zu
  rw [if_neg (by rw [hd];rintro (e | e | e)<;>first | cases e | omega),hx]
 have eW:(zu s m).Ws=s.Ws:=by rw [eS];show (zi s m x).1.Ws=_;rw [zdn]
 have eX:(zu s m).Ms=s.Ms.set (m-1).toNat (zi s m x).2:=by rw [eS]
 have eT:(zu s m).T=(zi s m x).1.T:=by rw [eS]
 have hi:(m-1).toNat<s.Ms.length:=by omega
 have ei:(((m-1).toNat:Nat):Int)+1=m:=by omega
 have hXO:=G.E.X _ x hx
 have n39:(zi s m x).2.PC≠39:=by
  have hon: ∀i,onM s i≠39:=fun i e=>by rcases ZX s i with h | h<;>omega
  have hr:=hXO.ret
  refine yI (motive:=fun r=>r.2.PC≠39) s m x ?_ ?_ ?_ ?_ ?_ ?_ ?_ ?_ ?_ ?_ ?_ ?_ ?_ ?_ ?_ ?_ ?_ ?_ ?_ ?_
  all_goals try (intro c)
  ·unfold mu0 ZW;repeat' split
   all_goals ((try dsimp only [setM]);omega)
  ·have:=hr (.inl c);unfold mu1;dsimp only;split<;>(dsimp only;omega)
  ·unfold mu2;dsimp only;omega
  ·unfold mu3;dsimp only;split<;>(dsimp only;omega)
  ·unfold zcS;dsimp only [setM];omega
  ·unfold Vo;dsimp only;split<;>(dsimp only [xe];omega)
  ·unfold WT;dsimp only;split<;>(dsimp only;omega)
  ·unfold UD;dsimp only;split<;>(dsimp only;omega)
  ·unfold zb5;dsimp only [xe];omega
  ·unfold YQ;repeat' split
   all_goals ((try dsimp only [setM,xe]);omega)
  ·unfold Uc;dsimp only;split<;>(dsimp only;omega)
  ·unfold Uq;dsimp only;repeat' split
   all_goals ((try dsimp only);omega)
  ·unfold zcN;dsimp only;omega
  ·unfold Up;dsimp only;split<;>(dsimp only;omega)
  ·unfold Ui;dsimp only;split<;>(dsimp only;omega)
  ·exact absurd c hn.1
  ·exact absurd c hn.2.1
  ·exact absurd c hn.2.2.1
  ·exact absurd c h39
  ·exact h39 c
 have fin: ∀(e:List.Perm (uQ p (zu s m) gh') []),uN p (zu s m) gh':=fun e=>by
  refine ⟨List.perm_nil.1 e,fun i y hy=>C.w9 i y (by rw [←eW];exact hy),fun i y hy=> ?_⟩
  rw [eX] at hy
  by_cases hne:i=(m-1).toNat
  ·subst hne
   rw [List.getElem?_set_self hi] at hy
   injection hy with hy
   rw [←hy];exact n39
  ·rw [List.getElem?_set_ne (fun e=>hne e.symm)] at hy
   exact C.m39 i y hy
 refine ⟨gh',G',?_⟩
 rcases hT with ⟨e1,e2,t⟩ | ⟨_,_,c,t1,t2⟩ | ⟨_,_,c,_⟩ | ⟨e1,e2,c,_,_,t⟩
 ·rw [e1,e2,C.bag,List.append_nil,List.append_nil] at hbag
  exact .inl ⟨fin hbag,fun u _=>by rw [eT,t]⟩
 ·rcases c with c | c
  ·refine .inr ⟨.inr ?_,x,hx,c⟩
   obtain ⟨Gx,gm,g0⟩:=(G.M _ x hx).p3 c
   have e3:zi s m x=mu3 s m x:=by unfold zi;rw [if_neg (by omega),if_neg (by omega),if_neg (by omega),if_pos c]
   have hg:(zo s x.G).1.T={s.T with Marks:=s.T.Marks|||bit x.G.Obj}:=by rw [←t2,e3];rfl
   obtain ⟨a,b,_⟩:=zA3 g0 gm Gx.pc t1 hg
   refine ⟨_,_,by rw [eX];exact List.getElem?_set_self hi,?_⟩
   rw [e3]
   unfold mu3;dsimp only
   rw [if_neg (by omega)]
   exact ⟨c,a,b⟩
  ·exact absurd c hn.2.1
 ·exact absurd c hn.2.2.1
 ·rw [e1,e2,C.bag,List.append_nil,List.append_nil] at hbag
  refine .inl ⟨fin hbag,fun u hu=> ?_⟩
  obtain ⟨f1,f2,f3⟩:=G.fresh hp
  rw [eT,t,f1]
  exact ⟨fun h=>(Yk h).elim id (fun h=>by omega),fun h=>(v8 _ _ _).2 (.inl h)⟩
theorem vo.flag {p:zb} {nb k:Nat} {s:za} {gh:Gh} (I:EG p nb k s gh) (h:s.Work=0) (D:vo s):s.Flag=true:=by
 rcases D with D | ⟨i,x,hx,c,g4,g0⟩
 ·exact D
 ·obtain ⟨C,_⟩:=uN.of I h
  have hm:x.G.Obj∈uQ p s gh:=zgC hx (by
   unfold z5
   rw [zmn c,vr g0 (by omega) (by omega)];simp)
  rw [C.bag] at hm;cases hm
theorem zkx (s:za) (g:zC):((zo s g).1.Flag=s.Flag∨(zo s g).1.Flag=true)∧(g.Out=0→1≤g.Mode∧g.Mode≤3→g.PC=4→(zo s g).1.Flag=true):=by
 unfold zo
 split
 ·exact ⟨.inl rfl,fun _ _ _=>by omega⟩
 split
 ·exact ⟨.inl rfl,fun _ _ _=>by omega⟩
 split
 ·exact ⟨.inl rfl,fun _ _ _=>by omega⟩
 split
 ·exact ⟨.inl rfl,fun _ _ _=>by omega⟩
 split
 ·exact ⟨.inr rfl,fun _ _ _=>rfl⟩
 split
 ·exact ⟨.inl rfl,fun _ _ _=>by omega⟩
 split
 ·exact ⟨.inl rfl,fun _ _ _=>by omega⟩
 split
 ·exact ⟨.inl rfl,fun _ _ _=>by omega⟩
 ·exact ⟨.inl rfl,fun _ _ _=>by omega⟩
theorem zuV (s:za) (m:Int) (x:zc):(zi s m x).1.Flag=s.Flag∨(zi s m x).1.Flag=true:=by
 refine yI (motive:=fun r=>r.1.Flag=s.Flag∨r.1.Flag=true) s m x ?_ ?_ ?_ ?_ ?_ ?_ ?_ ?_ ?_ ?_ ?_ ?_ ?_ ?_ ?_ ?_ ?_ ?_ ?_ ?_
 all_goals try (intro c)
 all_goals first
  | exact .inl rfl
  | (unfold mu3;exact (zkx s x.G).1)
  | (unfold XU;exact (zkx s x.G).1)
  | (unfold YQ;(repeat' split)<;>exact .inl rfl)
theorem vo.mutator {p:zb} {nb k:Nat} {s:za} {gh:Gh} (G:FG p nb k s gh) (D:vo s) {m:Int} (hm:1≤m∧m≤(s.Ms.length:Int)) (hd:s.Done=false):vo (zu s m):=by
 have hi:(m-1).toNat<s.Ms.length:=by omega
 have hx:=List.getElem?_eq_getElem hi
 generalize s.Ms[(m-1).toNat]=x at hx
 have eS:zu s m={(zi s m x).1 with Ms:=s.Ms.set (m-1).toNat (zi s m x).2}:=by
  unfold zu
  rw [if_neg (by rw [hd];rintro (e | e | e)<;>first | cases e | omega),hx]
 rcases D with D | ⟨i,y,hy,c,g4,g0⟩
 ·left
  rw [eS]
  show (zi s m x).1.Flag=true
  rcases zuV s m x with h | h
  ·rw [h];exact D
  ·exact h
 ·by_cases hne:i=(m-1).toNat
  ·subst hne
   rw [hx] at hy;injection hy with hy;subst hy
   left
   rw [eS]
   have e3:zi s m x=mu3 s m x:=by unfold zi;rw [if_neg (by omega),if_neg (by omega),if_neg (by omega),if_pos c]
   show (zi s m x).1.Flag=true
   rw [e3]
   exact (zkx s x.G).2 g0 ((G.M _ x hx).p3 c).1.md g4
  ·right
   refine ⟨i,y,?_,c,g4,g0⟩
   rw [eS]
   show (s.Ms.set (m-1).toNat (zi s m x).2)[i]? =some y
   rw [List.getElem?_set_ne (fun e=>hne e.symm)];exact hy
theorem zzR (s:za) (w:Int) (x:ze):(zj s w x).1.Flag=s.Flag∨(zj s w x).1.Flag=true:=by
 by_cases c6:x.PC=6
 ·rw [zso c6];exact (zkx s x.G).1
 ·unfold zj
  split
  ·exact .inl rfl
  split
  ·exact .inl rfl
  split
  ·exact .inl rfl
  split
  ·exact .inl rfl
  split
  ·exact .inl rfl
  split
  ·exact .inl rfl
  split
  ·exact .inl rfl
  split
  ·exact .inl rfl
  ·exact .inl rfl
theorem vo.worker {p:zb} {nb:Nat} {s:za} (E:EOk p nb s) (D:vo s) (w:Int):vo (zF s w):=by
 have hf:=U1 E w
 have eX:(zF s w).Ms=s.Ms:=by rw [hf]
 rcases D with D | ⟨i,y,hy,c⟩
 ·left
  unfold zF
  split
  ·exact D
  split
  ·rename_i x hx
   show (zj s w x).1.Flag=true
   rcases zzR s w x with h | h
   ·rw [h];exact D
   ·exact h
  ·exact D
 ·exact .inr ⟨i,y,by rw [eX];exact hy,c⟩
theorem vo.det {s:za} (D:vo s) (h:s.D.PC≠0):vo (zG s):=by
 have hd:=zge s
 have eX:(zG s).Ms=s.Ms:=by conv=>rhs;rw [←hd]
 rcases D with D | ⟨i,y,hy,c⟩
 ·left
  unfold zG
  rw [if_neg h]
  repeat' split
  all_goals exact D
 ·exact .inr ⟨i,y,by rw [eX];exact hy,c⟩
theorem zuA {p:zb} {nb:Nat} {s:za} {m:Int} {x:zc} (O:XOk p nb m x) {o:Int} (h:VT (zi s m x).2 o):VT x o∨(x.PC=21∧x.Old=o∧o≠0∧yD s.T o=0)∨x.PC=36:=by
 have hr:=O.ret
 have calm: ∀ {y:zc},y.Buf=x.Buf→y.PC≠1→y.PC≠3→y.PC≠22→y.PC≠37→VT y o→VT x o∨(x.PC=21∧x.Old=o∧o≠0∧yD s.T o=0)∨x.PC=36:=fun e h1 h2 h3 h4 h=>by
  rcases h with h | ⟨h,_⟩ | ⟨h,_⟩
  ·exact .inl (.inl (by rw [←e];exact h))
  ·omega
  ·omega
 have ask: ∀ {g:zC},zsW (zo s g).2 o→zsW g o:=fun {g} h=>by
  obtain ⟨h1,h2,h3⟩:=h
  rw [(Vw s g).1] at h3
  revert h1 h2
  unfold zo
  split
  ·exact fun h1 h2=>⟨h1,h2,h3⟩
  rename_i hb
  split
  ·intro h1 h2;unfold za9 at h2;dsimp only at h2;split at h2<;>(dsimp only at h2;omega)
  split
  ·intro h1 h2;have h2:(7:Int)=0∨(7:Int)=1:=h2;omega
  split
  ·intro h1 h2;unfold zhV zdH at h2;dsimp only at h2
   split at h2
   ·dsimp only at h2;omega
   split at h2<;>(dsimp only at h2;omega)
  split
  ·intro h1 h2;have h2:(5:Int)=0∨(5:Int)=1:=h2;omega
  split
  ·intro h1 h2;unfold zih zdH at h2;dsimp only at h2
   split at h2
   ·dsimp only at h2;omega
   split at h2<;>(dsimp only at h2;omega)
  split
  ·intro h1 h2;have h1:(1:Int)=0:=h1;omega
  split
  ·rename_i c1
   intro h1 h2;exact ⟨by omega,.inr c1,h3⟩
  ·intro h1 h2;exact ⟨by omega,.inl (by omega),h3⟩
 revert h
 refine yI (motive:=fun r=>VT r.2 o→VT x o∨(x.PC=21∧x.Old=o∧o≠0∧yD s.T o=0)∨x.PC=36) s m x ?_ ?_ ?_ ?_ ?_ ?_ ?_ ?_ ?_ ?_ ?_ ?_ ?_ ?_ ?_ ?_ ?_ ?_ ?_ ?_
 ·intro c;unfold mu0 ZW
  split
  ·intro h
   rcases h with h | ⟨h,_⟩ | ⟨h,_⟩
   ·exact .inl (.inl h)
   ·have h:(1:Int)=22∨(((1:Int)=1∨(1:Int)=3)∧(2:Int)=22):=h;omega
   ·have h:(1:Int)=3∨(1:Int)=37:=h;omega
  repeat' split
  all_goals exact calm rfl (by (try dsimp only [setM]);omega) (by (try dsimp only [setM]);omega) (by (try dsimp only [setM]);omega) (by (try dsimp only [setM]);omega)
 ·intro c;unfold mu1;dsimp only
  split
  ·intro h
   rcases h with h | ⟨h,e⟩ | ⟨h,_⟩
   ·exact .inl (.inl h)
   ·have h:x.Ret=22∨((x.Ret=1∨x.Ret=3)∧x.Ret=22):=h
    exact .inl (.inr (.inl ⟨.inr ⟨.inl c,by omega⟩,e⟩))
   ·have h:x.Ret=3∨x.Ret=37:=h
    have:=hr (.inl c);omega
  ·rename_i hl
   intro h
   rcases h with h | ⟨h,e⟩ | ⟨_,_,_,e⟩
   ·exact .inl (.inl (List.mem_of_mem_take h))
   ·have h:(3:Int)=22∨(((3:Int)=1∨(3:Int)=3)∧x.Ret=22):=h
    exact .inl (.inr (.inl ⟨.inr ⟨.inl c,by omega⟩,e⟩))
   ·have e:x.Buf.getD (x.Buf.length-1) 0=o:=e
    rw [List.getD_eq_getElem?_getD,List.getElem?_eq_getElem (show x.Buf.length-1<x.Buf.length by omega)] at e
    exact .inl (.inl (by rw [←e];exact List.getElem_mem _))
 ·intro c;unfold mu2;exact calm rfl (by dsimp only;omega) (by dsimp only;omega) (by dsimp only;omega) (by dsimp only;omega)
 ·intro c;unfold mu3;dsimp only
  split
  ·intro h
   rcases h with h | ⟨h,e⟩ | ⟨h,_⟩
   ·exact .inl (.inl h)
   ·have h:(1:Int)=22∨(((1:Int)=1∨(1:Int)=3)∧x.Ret=22):=h
    exact .inl (.inr (.inl ⟨.inr ⟨.inr c,by omega⟩,e⟩))
   ·have h:(1:Int)=3∨(1:Int)=37:=h;omega
  ·intro h
   rcases h with h | ⟨h,e⟩ | ⟨_,h⟩
   ·exact .inl (.inl h)
   ·exact .inl (.inr (.inl ⟨h,e⟩))
   ·exact .inl (.inr (.inr ⟨.inl c,ask h⟩))
 ·intro c;unfold zcS;exact calm rfl (by dsimp only [setM];omega) (by dsimp only [setM];omega) (by dsimp only [setM];omega) (by dsimp only [setM];omega)
 ·intro c;unfold Vo;dsimp only;split
  ·exact calm rfl (by dsimp only [xe];omega) (by dsimp only [xe];omega) (by dsimp only [xe];omega) (by dsimp only [xe];omega)
  ·exact calm rfl (by dsimp only;omega) (by dsimp only;omega) (by dsimp only;omega) (by dsimp only;omega)
 ·intro c;unfold WT;dsimp only;split
  ·exact calm rfl (by dsimp only;omega) (by dsimp only;omega) (by dsimp only;omega) (by dsimp only;omega)
  ·rename_i hn
   intro h
   rcases h with h | ⟨_,e⟩ | ⟨h,_⟩
   ·exact .inl (.inl h)
   ·have e:x.Old=o:=e
    refine .inr (.inl ⟨c,e,fun e0=>hn (.inl (by rw [e];exact e0)),?_⟩)
    exact Decidable.byContradiction fun ht=>hn (.inr (by rw [e];exact ht))
   ·have h:(22:Int)=3∨(22:Int)=37:=h;omega
 ·intro c;unfold UD;dsimp only;split
  ·intro h
   rcases h with h | ⟨_,e⟩ | ⟨h,_⟩
   ·exact .inl (.inl h)
   ·exact .inl (.inr (.inl ⟨.inl c,e⟩))
   ·have h:(1:Int)=3∨(1:Int)=37:=h;omega
  ·intro h
   rcases h with h | ⟨h,_⟩ | ⟨h,_⟩
   ·rcases List.mem_append.1 h with h | h
    ·exact .inl (.inl h)
    ·exact .inl (.inr (.inl ⟨.inl c,(List.mem_singleton.1 h).symm⟩))
   ·have h:(23:Int)=22∨(((23:Int)=1∨(23:Int)=3)∧x.Ret=22):=h;omega
   ·have h:(23:Int)=3∨(23:Int)=37:=h;omega
 ·intro c;unfold zb5;exact calm rfl (by dsimp only [xe];omega) (by dsimp only [xe];omega) (by dsimp only [xe];omega) (by dsimp only [xe];omega)
 ·intro c;unfold YQ;repeat' split
  all_goals exact calm rfl (by (try dsimp only [setM,xe]);omega) (by (try dsimp only [setM,xe]);omega) (by (try dsimp only [setM,xe]);omega) (by (try dsimp only [setM,xe]);omega)
 ·intro c;unfold Uc;dsimp only;split<;>exact calm rfl (by dsimp only;omega) (by dsimp only;omega) (by dsimp only;omega) (by dsimp only;omega)
 ·intro c;unfold Uq;dsimp only;repeat' split
  all_goals exact calm rfl (by dsimp only;omega) (by dsimp only;omega) (by dsimp only;omega) (by dsimp only;omega)
 ·intro c;unfold zcN;exact calm rfl (by dsimp only;omega) (by dsimp only;omega) (by dsimp only;omega) (by dsimp only;omega)
 ·intro c;unfold Up;dsimp only;split<;>exact calm rfl (by dsimp only;omega) (by dsimp only;omega) (by dsimp only;omega) (by dsimp only;omega)
 ·intro c;unfold Ui;dsimp only;split<;>exact calm rfl (by dsimp only;omega) (by dsimp only;omega) (by dsimp only;omega) (by dsimp only;omega)
 ·intro c _;exact .inr (.inr c)
 ·intro c;unfold XU;dsimp only
  have hm:=ZX s x.Slot
  split
  ·exact calm rfl (by dsimp only;omega) (by dsimp only;omega) (by dsimp only;omega) (by dsimp only;omega)
  ·intro h
   rcases h with h | ⟨h,e⟩ | ⟨_,h⟩
   ·exact .inl (.inl h)
   ·have h:x.PC=22∨((x.PC=1∨x.PC=3)∧x.Ret=22):=h;omega
   ·exact .inl (.inr (.inr ⟨.inr c,ask h⟩))
 ·intro c;unfold zel;exact calm rfl (by dsimp only;omega) (by dsimp only;omega) (by dsimp only;omega) (by dsimp only;omega)
 ·intro c;unfold ze8;exact calm rfl (by dsimp only;omega) (by dsimp only;omega) (by dsimp only;omega) (by dsimp only;omega)
 ·exact fun h=> .inl h
def zty (p:zb) (s:za) (x:zc):Prop:=x.PC=21→x.Old=0∨LvH p s.H x.Old
theorem zAF {p:zb} {s:za} (hP:s.P=p) {m:Int} {x:zc} (C:Uf p s.H) (R:Wk p s.H x.Regs) (hr:x.PC=1→x.Ret=2∨x.Ret=22):(zi s m x).2.PC=21→x.PC≠21→(zi s m x).2.Old=0∨LvH p s.H (zi s m x).2.Old:=by
 by_cases c:x.PC=20
 ·have e:zi s m x=Vo s m x:=by
   unfold zi
   rw [if_neg (by omega),if_neg (by omega),if_neg (by omega),if_neg (by omega),if_neg (by omega),if_pos c]
  rw [e]
  unfold Vo;dsimp only
  split
  ·intro h;have h:(0:Int)=21:=h;omega
  ·intro _ _;exact zrs C (R.reg _) _
 ·intro h hn
  exfalso
  revert h
  have no: ∀ {y:zc},y.PC≠21→y.PC=21→False:=fun a b=>a b
  have hm:=ZX s (wc (x.Slot+1))
  have hm2:=ZX s x.Slot
  refine yI (motive:=fun r=>(x.PC=1→x.Ret=2∨x.Ret=22)→r.2.PC=21→False) s m x ?_ ?_ ?_ ?_ ?_ ?_ ?_ ?_ ?_ ?_ ?_ ?_ ?_ ?_ ?_ ?_ ?_ ?_ ?_ ?_ hr
  all_goals try (intro c)
  all_goals intro hr
  ·unfold mu0 ZW;repeat' split
   all_goals exact no (by (try dsimp only [setM]);omega)
  ·have:=hr c;unfold mu1;dsimp only;split<;>exact no (by dsimp only;omega)
  ·exact no (by show (0:Int)≠21;decide)
  ·unfold mu3;dsimp only;split<;>exact no (by dsimp only;omega)
  ·exact no (by show (0:Int)≠21;decide)
  ·exact absurd c (by omega)
  ·unfold WT;dsimp only;split<;>exact no (by dsimp only;omega)
  ·unfold UD;dsimp only;split<;>exact no (by dsimp only;omega)
  ·exact no (by show (0:Int)≠21;decide)
  ·unfold YQ;repeat' split
   all_goals exact no (by (try dsimp only [setM,xe]);omega)
  ·unfold Uc;dsimp only;split<;>exact no (by dsimp only;omega)
  ·unfold Uq;dsimp only;repeat' split
   all_goals exact no (by dsimp only;omega)
  ·exact no (by show (34:Int)≠21;decide)
  ·unfold Up;dsimp only;split<;>exact no (by dsimp only;omega)
  ·unfold Ui;dsimp only;split<;>exact no (by dsimp only;omega)
  ·unfold zaB;dsimp only;split<;>exact no (by dsimp only;omega)
  ·unfold XU;dsimp only;split<;>exact no (by dsimp only;omega)
  ·exact no (by show (39:Int)≠21;decide)
  ·exact no (by show (35:Int)≠21;decide)
  ·exact hn hr
end
end Go.Pe.G
namespace Go.Pe.G
open Go.Pe
noncomputable section
theorem zC3 (t:zt) (o:Int):yD t o=0↔¬zK t.Marks o=true:=by
 unfold yD
 by_cases h1:zK (t.Marks&&&t.Black) o=true
 ·rw [if_pos h1]
  rw [VE] at h1
  exact ⟨fun e=>(by cases e),fun e=>absurd h1.1 e⟩
 ·rw [if_neg h1]
  by_cases h2:zK t.Marks o=true
  ·rw [if_pos h2];exact ⟨fun e=>(by cases e),fun e=>absurd h2 e⟩
  ·rw [if_neg h2];exact ⟨fun _=>h2,fun _=>rfl⟩
theorem zqm: ∀ {l:List Int},(∀v∈l,v=0)→l.sum=0
 | [],_=>rfl
 | a::l,h=>by
  rw [List.sum_cons,h a (List.mem_cons_self ..),zqm (fun v hv=>h v (List.mem_cons_of_mem _ hv))];rfl
theorem uN.to {p:zb} {nb k k':Nat} {s:za} {gh gh':Gh} (G:FG p nb k s gh) (G':FG p nb k' s gh') (C:uN p s gh):uN p s gh':=by
 refine ⟨List.eq_nil_iff_forall_not_mem.2 fun o ho=> ?_,C.w9,C.m39⟩
 have:=(G.B.gr o).2 ((G'.B.gr o).1 ho)
 rw [C.bag] at this;cases this
theorem zqD {p:zb} {nb k:Nat} {s:za} {gh:Gh} (G:FG p nb k s gh) {i:Nat} {x:zc} (hx:s.Ms[i]? =some x) {o:Int} (h:VT x o):1≤o∧o≤(s.H.Objs.length:Int):=by
 have K:=G.M i x hx
 obtain ⟨b1,b2,b3⟩:=G.buf x (List.mem_of_getElem? hx)
 rcases h with h | ⟨h,e⟩ | ⟨h,_,_,e⟩
 ·exact ⟨(K.bf o h).1,b1 o h⟩
 ·have:=K.ol.2 h;omega
 ·have h3:=b3 h
  rcases h with h | h
  ·have:=(K.p3 h).1.ob;omega
  ·have:=(K.p37 h).1.ob;omega
def K1 (s:za):Prop:=∃(i:Nat) (x:zc) (o:Int),s.Ms[i]? =some x∧(s.D.PC=2∨s.Acks.getD i 0<s.Epoch)∧VT x o∧¬zK s.T.Marks o=true
def zl9 (x:zc):Prop:=x.Buf=[]∧x.PC≠1∧x.PC≠3∧x.PC≠22
def K2 (s:za):Prop:=(∀(i:Nat) (x:zc),s.Ms[i]? =some x→∀o,VT x o→zK s.T.Marks o=true)∧(s.D.PC≠2→∀(i:Nat) (x:zc),s.Ms[i]? =some x→s.Acks.getD i 0=s.Epoch→zl9 x)
theorem K1.same {s s':za} (K:K1 s) (eX:s'.Ms=s.Ms) (eT:s'.T=s.T) (h: ∀i:Nat,i<s.Ms.length→s.D.PC=2∨s.Acks.getD i 0<s.Epoch→s'.D.PC=2∨s'.Acks.getD i 0<s'.Epoch):K1 s':=by
 obtain ⟨i,x,o,hx,ha,hp,hm⟩:=K
 exact ⟨i,x,o,by rw [eX];exact hx,h i (List.getElem?_eq_some_iff.1 hx).1 ha,hp,by rw [eT];exact hm⟩
theorem K2.same {s s':za} (K:K2 s) (eX:s'.Ms=s.Ms) (eT:s'.T=s.T) (h: ∀i:Nat,i<s.Ms.length→s'.D.PC≠2→s'.Acks.getD i 0=s'.Epoch→s.D.PC≠2∧s.Acks.getD i 0=s.Epoch):K2 s':=by
 refine ⟨fun i x hx o ho=> ?_,fun hd i x hx ha=> ?_⟩
 ·rw [eX] at hx;rw [eT];exact K.1 i x hx o ho
 ·rw [eX] at hx
  obtain ⟨a,b⟩:=h i (List.getElem?_eq_some_iff.1 hx).1 hd ha
  exact K.2 a i x hx b
theorem K2.live {p:zb} (hp:zA p) {nb k:Nat} {s:za} {gh:Gh} {W:Int→Int→Prop} (G:FG p nb k s gh) (J:PI p s W) (C:uN p s gh) (K:K2 s) {o:Int} (L:LvH p s.H o):zK s.T.Marks o=true:=by
 rcases L with L | L
 ·refine J.quiet (fun q hq=> ?_) (fun q hq=> ?_) ((zfo hp o).1 L)
  ·have:=(G.B.gr q).2 hq
   rw [C.bag] at this;cases this
  ·rcases hq with ⟨i,x,hx,h,_⟩ | ⟨i,x,hx,h⟩
   ·exact absurd h (C.noW hx).2.1
   ·exact K.1 i x hx q h
 ·exact G.B.blk o (G.bk o L.1 L.2)
theorem zyP {s:za} {m:Int} {x:zc} (h:zl9 x) (h0:x.PC=0→¬s.Acks.getD (m-1).toNat 0<s.Epoch) (h21:x.PC=21→x.Old=0∨yD s.T x.Old≠0):zl9 (zi s m x).2:=by
 obtain ⟨hb,n1,n3,n22⟩:=h
 have fin: ∀ {y:zc},y.Buf=x.Buf→(y.PC≠1∧y.PC≠3∧y.PC≠22)→zl9 y:=fun e hn=>⟨e.trans hb,hn⟩
 have hon: ∀i,onM s i=36∨onM s i=38:=ZX s
 refine yI (motive:=fun r=>zl9 r.2) s m x ?_ ?_ ?_ ?_ ?_ ?_ ?_ ?_ ?_ ?_ ?_ ?_ ?_ ?_ ?_ ?_ ?_ ?_ ?_ ?_
 all_goals try (intro c)
 ·unfold mu0 ZW
  rw [if_neg (h0 c)]
  repeat' split
  all_goals exact fin rfl (by (try dsimp only [setM]);omega)
 ·exact absurd c n1
 ·exact fin rfl (by unfold mu2;dsimp only;omega)
 ·exact absurd c n3
 ·exact fin rfl (by unfold zcS;dsimp only [setM];omega)
 ·unfold Vo;dsimp only;split<;>exact fin rfl (by dsimp only [xe];omega)
 ·unfold WT;dsimp only;rw [if_pos (h21 c)];exact fin rfl (by dsimp only;omega)
 ·exact absurd c n22
 ·exact fin rfl (by unfold zb5;dsimp only [xe];omega)
 ·unfold YQ;repeat' split
  all_goals exact fin rfl (by (try dsimp only [setM,xe]);omega)
 ·unfold Uc;dsimp only;split<;>exact fin rfl (by dsimp only;omega)
 ·unfold Uq;dsimp only;repeat' split
  all_goals exact fin rfl (by (try dsimp only);omega)
 ·exact fin rfl (by unfold zcN;dsimp only;omega)
 ·unfold Up;dsimp only;split<;>exact fin rfl (by (try dsimp only);omega)
 ·unfold Ui;dsimp only;split<;>exact fin rfl (by (try dsimp only);omega)
 ·unfold zaB;dsimp only
  have:=hon (wc (x.Slot+1))
  split<;>exact fin rfl (by dsimp only;omega)
 ·unfold XU;dsimp only
  have:=hon x.Slot
  split<;>exact fin rfl (by dsimp only;omega)
 ·exact fin rfl (by unfold zel;dsimp only;omega)
 ·exact fin rfl (by unfold ze8;dsimp only;omega)
 ·exact ⟨hb,n1,n3,n22⟩
structure PH (p:zb) (s:za) (gh:Gh):Prop where
 a3:s.D.PC=3→∀j:Nat,(j:Int)<s.D.I→s.Acks.getD j 0=s.Epoch
 a4:4≤s.D.PC→∀j:Nat,j<s.Ms.length→s.Acks.getD j 0=s.Epoch
 ph:2≤s.D.PC∧s.D.PC≤4→vo s∨(uN p s gh∧(K1 s∨K2 s))
 p5:s.D.PC=5→s.Flag=true∨(uN p s gh∧K2 s)
 p6:s.D.PC=6→uN p s gh∧K2 s
 dn:s.Done=true→s.D.PC=6
structure DI (p:zb) (nb k:Nat) (s:za) (gh:Gh) (W:Int→Int→Prop):Prop where
 I:EG p nb k s gh
 J:PI p s W
 R:RgI p s
 O: ∀(i:Nat) x,s.Ms[i]? =some x→zty p s x
 B: ∀(i:Nat) x,s.Ms[i]? =some x→zoM x
 A:AI (k:Int) s
 P:PH p s gh
theorem K1.no {s:za} (h:s.D.PC≠2) (ha: ∀j:Nat,j<s.Ms.length→s.Acks.getD j 0=s.Epoch): ¬K1 s:=by
 rintro ⟨i,x,o,hx,hk,_⟩
 have:=ha i (List.getElem?_eq_some_iff.1 hx).1
 omega
theorem PH.det {p:zb} (hp:zA p) {nb k:Nat} {s:za} {gh gh':Gh} (hk:k<1000000) (I:EG p nb k s gh) (A:AI (k:Int) s) (P:PH p s gh) (hd:s.Done=false) (I':EG p nb (k+1) (zG s) gh'):PH p (zG s) gh':=by
 have hf:=zge s
 have eX:(zG s).Ms=s.Ms:=by conv=>rhs;rw [←hf]
 have eT:(zG s).T=s.T:=by conv=>rhs;rw [←hf]
 have eW:(zG s).Ws=s.Ws:=by conv=>rhs;rw [←hf]
 have eB:(zG s).Bins=s.Bins:=by conv=>rhs;rw [←hf]
 have hDP:=I.G.E.D
 have he:=A.ep
 have cl:uN p s gh→uN p (zG s) gh':=fun C=>by
  refine ⟨List.eq_nil_iff_forall_not_mem.2 fun o ho=> ?_,by rw [eW];exact C.w9,by rw [eX];exact C.m39⟩
  have:=(I'.G.B.gr o).1 ho
  rw [eT] at this
  have:=(I.G.B.gr o).2 this
  rw [C.bag] at this;cases this
 have di:s.D.PC≠0→vo s→vo (zG s):=fun h D=>D.det h
 have hD: ∀ {t:za},zG s=t→t.Done=false∧t.D.PC≤1→PH p (zG s) gh':=fun {t} e h=>by
  rw [e]
  exact ⟨fun c=>by omega,fun c=>by omega,fun c=>by omega,fun c=>by omega,fun c=>by omega,fun c=>by rw [h.1] at c;cases c⟩
 by_cases c0:s.D.PC=0
 ·exact hD (t:={s with Flag:=false,D:={s.D with PC:=1}}) (by unfold zG;rw [if_neg (by rw [hd];decide),if_pos c0]) ⟨hd,by show (1:Int)≤1;decide⟩
 by_cases c1:s.D.PC=1
 ·by_cases hw:s.Work=0
  ·have e:zG s={s with D:={s.D with PC:=2}}:=by unfold zG;rw [if_neg (by rw [hd];decide),if_neg c0,if_pos c1,if_pos hw]
   have C:=cl (uN.of I hw).1
   have eP:(zG s).D.PC=2:=by rw [e]
   refine ⟨fun c=>by omega,fun c=>by omega,fun _=> .inr ⟨C,?_⟩,fun c=>by omega,fun c=>by omega,fun c=>by rw [e] at c;rw [show s.Done=true from c] at hd;cases hd⟩
   by_cases hK:K1 (zG s)
   ·exact .inl hK
   ·refine .inr ⟨fun i x hx o ho=>Decidable.byContradiction fun hm=>hK ⟨i,x,o,hx,.inl eP,ho,hm⟩,fun c=>absurd eP c⟩
  ·exact hD (t:=s) (by unfold zG;rw [if_neg (by rw [hd];decide),if_neg c0,if_pos c1,if_neg hw]) ⟨hd,by omega⟩
 by_cases c2:s.D.PC=2
 ·have e:zG s={s with Epoch:=wc (s.Epoch+1),D:=⟨if s.Ms.length=0 then 4 else 3,0⟩}:=by unfold zG;rw [if_neg (by rw [hd];decide),if_neg c0,if_neg c1,if_pos c2]
  have eE:(zG s).Epoch=s.Epoch+1:=by rw [e];exact xg (by omega) (by omega)
  have eA:(zG s).Acks=s.Acks:=by rw [e]
  have eP:(zG s).D.PC=if s.Ms.length=0 then 4 else 3:=by rw [e]
  have eI:(zG s).D.I=0:=by rw [e]
  have eN:(zG s).Done=false:=by rw [e];exact hd
  have hP:((zG s).D.PC=4∧s.Ms.length=0)∨(zG s).D.PC=3:=by
   rw [eP];split
   ·exact .inl ⟨rfl,by assumption⟩
   ·exact .inr rfl
  refine ⟨fun _ j hj=>by omega,fun c j hj=>by rw [eX] at hj;omega,fun _=> ?_,fun c=>by omega,fun c=>by omega,fun c=>by rw [eN] at c;cases c⟩
  rcases P.ph ⟨by omega,by omega⟩ with D | ⟨C,K⟩
  ·exact .inl (di c0 D)
  ·have hac: ∀i:Nat,i<s.Ms.length→s.Acks.getD i 0≤s.Epoch:=fun i hi=>(A.m i _ (List.getElem?_eq_getElem hi)).1
   refine .inr ⟨cl C,K.imp (fun K=>K.same eX eT fun i hi _=> .inr ?_) (fun K=>K.same eX eT fun i hi _ ha=> ?_)⟩
   ·rw [eA,eE];have:=hac i hi;omega
   ·rw [eA,eE] at ha;have:=hac i hi;omega
 have n2:s.D.PC≠2:=c2
 have keep: ∀ {t:za},zG s=t→t.Acks=s.Acks→t.Epoch=s.Epoch→(t.D.PC≠2∧t.Done=false)→(K1 s→K1 t)∧(K2 s→K2 t):=fun {t} e ea ee hn=>by
  have ex:t.Ms=s.Ms:=by rw [←e];exact eX
  have et:t.T=s.T:=by rw [←e];exact eT
  refine ⟨fun K=>K.same ex et fun i hi h=> .inr ?_,fun K=>K.same ex et fun i hi _ h=>⟨n2,?_⟩⟩
  ·rw [ea,ee];omega
  ·rw [ea,ee] at h;exact h
 by_cases c3:s.D.PC=3
 ·have hI:=hDP.2 c3
  by_cases hw:s.Acks.getD s.D.I.toNat 0<s.Epoch
  ·have e:zG s=s:=by unfold zG;rw [if_neg (by rw [hd];decide),if_neg c0,if_neg c1,if_neg c2,if_pos c3,if_pos hw]
   rw [e] at cl di ⊢
   exact ⟨P.a3,P.a4,fun c=>(P.ph c).imp id (fun K=>⟨cl K.1,K.2⟩),fun c=>by omega,fun c=>by omega,P.dn⟩
  ·have e:zG s={s with D:=⟨if wc (s.D.I+1)=(s.Ms.length:Int) then 4 else 3,wc (s.D.I+1)⟩}:=by unfold zG;rw [if_neg (by rw [hd];decide),if_neg c0,if_neg c1,if_neg c2,if_pos c3,if_neg hw]
   have hsm:=I.G.E.small.ms
   have wI:wc (s.D.I+1)=s.D.I+1:=xg (by omega) (by omega)
   have eN:(zG s).Done=false:=by rw [e];exact hd
   have eE:(zG s).Epoch=s.Epoch:=by rw [e]
   have eA:(zG s).Acks=s.Acks:=by rw [e]
   have eI:(zG s).D.I=s.D.I+1:=by rw [e];exact wI
   have hP:((zG s).D.PC=4∧s.D.I+1=(s.Ms.length:Int))∨(zG s).D.PC=3:=by
    have:(zG s).D.PC=if wc (s.D.I+1)=(s.Ms.length:Int) then 4 else 3:=by rw [e]
    rw [this,wI];split
    ·exact .inl ⟨rfl,by assumption⟩
    ·exact .inr rfl
   have all: ∀j:Nat,(j:Int)<s.D.I+1→s.Acks.getD j 0=s.Epoch:=fun j hj=>by
    by_cases h:(j:Int)<s.D.I
    ·exact P.a3 c3 j h
    ·have ej:s.D.I.toNat=j:=by omega
     rw [ej] at hw
     have:=(A.m j _ (List.getElem?_eq_getElem (show j<s.Ms.length by omega))).1
     omega
   refine ⟨fun _ j hj=> ?_,fun c j hj=> ?_,fun _=> ?_,fun c=>by omega,fun c=>by omega,fun c=>by rw [eN] at c;cases c⟩
   ·rw [eA,eE];exact all j (by omega)
   ·rw [eX] at hj
    rw [eA,eE];exact all j (by omega)
   ·rcases P.ph ⟨by omega,by omega⟩ with D | ⟨C,K⟩
    ·exact .inl (di c0 D)
    ·have kp:=keep rfl eA eE ⟨by omega,eN⟩
     exact .inr ⟨cl C,K.imp kp.1 kp.2⟩
 by_cases c4:s.D.PC=4
 ·by_cases hw:s.Work=0
  ·have e:zG s={s with D:={s.D with PC:=5}}:=by unfold zG;rw [if_neg (by rw [hd];decide),if_neg c0,if_neg c1,if_neg c2,if_neg c3,if_pos c4,if_pos hw]
   have eP:(zG s).D.PC=5:=by rw [e]
   have eN:(zG s).Done=false:=by rw [e];exact hd
   have eE:(zG s).Epoch=s.Epoch:=by rw [e]
   have eA:(zG s).Acks=s.Acks:=by rw [e]
   have eF:(zG s).Flag=s.Flag:=by rw [e]
   refine ⟨fun c=>by omega,fun c j hj=>by rw [eX] at hj;rw [eA,eE];exact P.a4 (by omega) j hj,fun c=>by omega,fun _=> ?_,fun c=>by omega,fun c=>by rw [eN] at c;cases c⟩
   rcases P.ph ⟨by omega,by omega⟩ with D | ⟨C,K⟩
   ·exact .inl (by rw [eF];exact D.flag I hw)
   ·have kp:=keep rfl eA eE ⟨by omega,eN⟩
    exact .inr ⟨cl C,kp.2 (K.resolve_left (K1.no n2 (P.a4 (by omega))))⟩
  ·exact hD (t:={s with Restarts:=wc (s.Restarts+1),D:={s.D with PC:=0}}) (by unfold zG;rw [if_neg (by rw [hd];decide),if_neg c0,if_neg c1,if_neg c2,if_neg c3,if_pos c4,if_neg hw]) ⟨hd,by show (0:Int)≤1;decide⟩
 by_cases c5:s.D.PC=5
 ·by_cases hw:s.Flag=true
  ·exact hD (t:={s with Restarts:=wc (s.Restarts+1),D:={s.D with PC:=0}}) (by unfold zG;rw [if_neg (by rw [hd];decide),if_neg c0,if_neg c1,if_neg c2,if_neg c3,if_neg c4,if_pos c5,if_pos hw]) ⟨hd,by show (0:Int)≤1;decide⟩
  ·have e:zG s={s with D:={s.D with PC:=6}}:=by unfold zG;rw [if_neg (by rw [hd];decide),if_neg c0,if_neg c1,if_neg c2,if_neg c3,if_neg c4,if_pos c5,if_neg hw]
   have eP:(zG s).D.PC=6:=by rw [e]
   have eN:(zG s).Done=false:=by rw [e];exact hd
   have eE:(zG s).Epoch=s.Epoch:=by rw [e]
   have eA:(zG s).Acks=s.Acks:=by rw [e]
   refine ⟨fun c=>by omega,fun c j hj=>by rw [eX] at hj;rw [eA,eE];exact P.a4 (by omega) j hj,fun c=>by omega,fun c=>by omega,fun _=> ?_,fun c=>by rw [eN] at c;cases c⟩
   obtain ⟨C,K⟩:=(P.p5 c5).resolve_left hw
   exact ⟨cl C,(keep rfl eA eE ⟨by omega,eN⟩).2 K⟩
 ·have c6:s.D.PC=6:=by omega
  have e:zG s={s with Done:=true}:=by unfold zG;rw [if_neg (by rw [hd];decide),if_neg c0,if_neg c1,if_neg c2,if_neg c3,if_neg c4,if_neg c5,if_pos c6]
  have eP:(zG s).D.PC=6:=by rw [e];exact c6
  have eE:(zG s).Epoch=s.Epoch:=by rw [e]
  have eA:(zG s).Acks=s.Acks:=by rw [e]
  refine ⟨fun c=>by omega,fun c j hj=>by rw [eX] at hj;rw [eA,eE];exact P.a4 (by omega) j hj,fun c=>by omega,fun c=>by omega,fun _=> ?_,fun _=>eP⟩
  obtain ⟨C,K⟩:=P.p6 c6
  refine ⟨cl C,K.same eX eT fun i hi _ h=>⟨n2,?_⟩⟩
  rw [eA,eE] at h;exact h
theorem PH.worker {p:zb} (hp:zA p) {nb k:Nat} {s:za} {gh gh':Gh} (hk:k<1000000) (I:EG p nb k s gh) (P:PH p s gh) (hd:s.Done=false) {w:Int} (hw:1≤w∧w≤p.Workers) (I':EG p nb (k+1) (zF s w) gh'):PH p (zF s w) gh':=by
 have hf:=U1 I.G.E w
 have eX:(zF s w).Ms=s.Ms:=by rw [hf]
 have eD:(zF s w).D=s.D:=by rw [hf]
 have eN:(zF s w).Done=s.Done:=by rw [hf]
 have eE:(zF s w).Epoch=s.Epoch:=by rw [hf]
 have eA:(zF s w).Acks=s.Acks:=by rw [hf]
 have cl:uN p s gh→uN p (zF s w) gh'∧(zF s w).T=s.T:=fun C=>by
  obtain ⟨g2,G2,C2,t⟩:=uN.worker hp (by omega) I.G C hw hd
  exact ⟨C2.to G2 I'.G,t⟩
 have k2:uN p s gh→K2 s→K2 (zF s w):=fun C K=>K.same eX (cl C).2 fun i hi h ha=>by rw [eD] at h;rw [eA,eE] at ha;exact ⟨h,ha⟩
 refine ⟨by rw [eD,eA,eE];exact P.a3,by rw [eD,eA,eE,eX];exact P.a4,fun c=> ?_,fun c=> ?_,fun c=> ?_,fun c=>by rw [eN,hd] at c;cases c⟩
 ·rw [eD] at c
  rcases P.ph c with D | ⟨C,K⟩
  ·exact .inl (D.worker I.G.E w)
  ·exact .inr ⟨(cl C).1,K.imp (fun K=>K.same eX (cl C).2 fun i hi h=>by rw [eD,eA,eE];exact h) (k2 C)⟩
 ·rw [eD] at c
  have eF:(zF s w).Flag=s.Flag:=by rw [hf]
  rcases P.p5 c with F | ⟨C,K⟩
  ·exact .inl (by rw [eF];exact F)
  ·exact .inr ⟨(cl C).1,k2 C K⟩
 ·rw [eD] at c
  obtain ⟨C,K⟩:=P.p6 c
  exact ⟨(cl C).1,k2 C K⟩
theorem PH.mutator {p:zb} (hp:zA p) {nb k:Nat} {s:za} {gh gh':Gh} {W:Int→Int→Prop} (hk:k<1000000) (Q:DI p nb k s gh W) (hd:s.Done=false) {m:Int} (hm:1≤m∧m≤p.Mutators) (I':EG p nb (k+1) (zu s m) gh'):PH p (zu s m) gh':=by
 obtain ⟨I,J,R,O,B,A,P⟩:=Q
 have E:=I.G.E
 have hml:=E.ml
 have hi:(m-1).toNat<s.Ms.length:=by omega
 have ei:(((m-1).toNat:Nat):Int)+1=m:=by omega
 have hx:=List.getElem?_eq_getElem hi
 generalize s.Ms[(m-1).toNat]=x at hx
 have eS:zu s m={(zi s m x).1 with Ms:=s.Ms.set (m-1).toNat (zi s m x).2}:=by
  unfold zu
  rw [if_neg (by rw [hd];rintro (e | e | e)<;>first | cases e | omega),hx]
 have hf:=zpv s m
 have eD:(zu s m).D=s.D:=by rw [hf]
 have eN:(zu s m).Done=s.Done:=by rw [hf]
 have eE:(zu s m).Epoch=s.Epoch:=by rw [hf]
 have eA:(zu s m).Acks=(zi s m x).1.Acks:=by rw [eS]
 have eX:(zu s m).Ms=s.Ms.set (m-1).toNat (zi s m x).2:=by rw [eS]
 have eT:(zu s m).T=(zi s m x).1.T:=by rw [eS]
 obtain ⟨⟨b1,b2,b3⟩,b4,b5,b6⟩:=zyM hp E A (m:=m) (by omega) hx
 have hA:=A.m _ x hx
 have hXO:=E.X _ x hx
 rw [ei] at hXO
 have stay: ∀j:Nat,s.Acks.getD j 0=s.Epoch→(zi s m x).1.Acks.getD j 0=s.Epoch:=fun j hj=>by
  by_cases e:j=(m-1).toNat
  ·subst e;omega
  ·rw [b4 j e];exact hj
 have cl:uN p s gh→(uN p (zu s m) gh'∧∀u,u≤(s.H.Objs.length:Int)→(zK (zu s m).T.Marks u=true↔zK s.T.Marks u=true))∨(vo (zu s m)∧x.PC=3):=fun C=>by
  obtain ⟨g2,G2,h⟩:=uN.mutator hp (by omega) I.G C hm hd
  rcases h with ⟨C2,h⟩ | ⟨D,y,hy,c⟩
  ·exact .inl ⟨C2.to G2 I'.G,h⟩
  ·rw [hx] at hy;injection hy with hy;subst hy
   exact .inr ⟨D,c⟩
 have k1:K1 s→(∀u,u≤(s.H.Objs.length:Int)→(zK (zu s m).T.Marks u=true↔zK s.T.Marks u=true))→K1 (zu s m):=by
  rintro ⟨i,y,o,hy,ha,hpd,hn⟩ hM
  have ho:=zqD I.G hy hpd
  have hn': ¬zK (zu s m).T.Marks o=true:=fun e=>hn ((hM o ho.2).1 e)
  by_cases e:i=(m-1).toNat
  ·subst e
   rw [hx] at hy;injection hy with hy;subst hy
   have n2:x.PC≠2:=fun c=>by
    rcases hpd with h | ⟨h,_⟩ | ⟨h,_⟩
    ·rw [hA.2.2 c] at h;cases h
    ·omega
    ·omega
   refine ⟨_,_,o,by rw [eX];exact List.getElem?_set_self hi,by rw [eD,eA,eE,zwi s m n2];exact ha,?_,hn'⟩
   rcases zvy (I.G.M _ x hx) hXO I.G.B.blk hpd with h | h
   ·exact h
   ·exact absurd (by rw [eT];exact h) hn'
  ·exact ⟨i,y,o,by rw [eX,List.getElem?_set_ne (fun h=>e h.symm)];exact hy,by rw [eD,eA,eE,b4 i e];exact ha,hpd,hn'⟩
 have k2:uN p s gh→K2 s→(∀u,u≤(s.H.Objs.length:Int)→(zK (zu s m).T.Marks u=true↔zK s.T.Marks u=true))→K2 (zu s m):=fun C K hM=>by
  have old:x.PC=21→x.Old=0∨yD s.T x.Old≠0:=fun c=>by
   rcases O _ x hx c with h | h
   ·exact .inl h
   ·right
    intro h0
    have hl:=K.live hp I.G J C h
    exact (zC3 s.T x.Old).1 h0 hl
  refine ⟨fun i y hy o ho=> ?_,fun h2 i y hy ha=> ?_⟩
  ·rw [eX] at hy
   by_cases e:i=(m-1).toNat
   ·subst e
    rw [List.getElem?_set_self hi] at hy
    injection hy with hy;subst hy
    rcases zuA hXO ho with h | ⟨c,h1,h2,h3⟩ | c
    ·exact (hM o (zqD I.G hx h).2).2 (K.1 _ x hx o h)
    ·rcases old c with h | h
     ·exact absurd (h1▸h) h2
     ·rw [h1] at h;exact absurd h3 h
    ·exact absurd c (C.noX hx).1
   ·rw [List.getElem?_set_ne (fun h=>e h.symm)] at hy
    exact (hM o (zqD I.G hy ho).2).2 (K.1 i y hy o ho)
  ·rw [eD] at h2
   rw [eA,eE] at ha
   rw [eX] at hy
   by_cases e:i=(m-1).toNat
   ·subst e
    rw [List.getElem?_set_self hi] at hy
    injection hy with hy;subst hy
    by_cases c:x.PC=2
    ·have e2:zi s m x=mu2 s m x:=by unfold zi;rw [if_neg (by omega),if_neg (by omega),if_pos c]
     rw [e2]
     exact ⟨hA.2.2 c,by show (0:Int)≠1;decide,by show (0:Int)≠3;decide,by show (0:Int)≠22;decide⟩
    ·rw [zwi s m c] at ha
     exact zyP (K.2 h2 _ x hx ha) (fun _=>by omega) old
   ·rw [List.getElem?_set_ne (fun h=>e h.symm)] at hy
    rw [b4 i e] at ha
    exact K.2 h2 i y hy ha
 have no3:4≤s.D.PC→K2 s→x.PC≠3:=fun h K=>(K.2 (by omega) _ x hx (P.a4 h _ hi)).2.2.1
 refine ⟨by rw [eD,eA,eE];exact fun c j hj=>stay j (P.a3 c j hj),by rw [eD,eA,eE,eX,List.length_set];exact fun c j hj=>stay j (P.a4 c j hj),fun c=> ?_,fun c=> ?_,fun c=> ?_,fun c=>by rw [eN,hd] at c;cases c⟩
 ·rw [eD] at c
  rcases P.ph c with D | ⟨C,K⟩
  ·exact .inl (vo.mutator I.G D (by omega) hd)
  ·rcases cl C with ⟨C',hM⟩ | ⟨D,_⟩
   ·exact .inr ⟨C',K.imp (fun K=>k1 K hM) (fun K=>k2 C K hM)⟩
   ·exact .inl D
 ·rw [eD] at c
  rcases P.p5 c with F | ⟨C,K⟩
  ·left
   rw [eS]
   show (zi s m x).1.Flag=true
   rcases zuV s m x with h | h
   ·rw [h];exact F
   ·exact h
  ·rcases cl C with ⟨C',hM⟩ | ⟨_,c3⟩
   ·exact .inr ⟨C',k2 C K hM⟩
   ·exact absurd c3 (no3 (by omega) K)
 ·rw [eD] at c
  obtain ⟨C,K⟩:=P.p6 c
  rcases cl C with ⟨C',hM⟩ | ⟨_,c3⟩
  ·exact ⟨C',k2 C K hM⟩
  ·exact absurd c3 (no3 (by omega) K)
theorem PH.to {p:zb} {nb k k':Nat} {s:za} {gh gh':Gh} (P:PH p s gh) (I:EG p nb k s gh) (I':EG p nb k' s gh'):PH p s gh' :=
 ⟨P.a3,P.a4,fun c=>(P.ph c).imp id (fun h=>⟨h.1.to I.G I'.G,h.2⟩),fun c=>(P.p5 c).imp id (fun h=>⟨h.1.to I.G I'.G,h.2⟩),fun c=>⟨(P.p6 c).1.to I.G I'.G,(P.p6 c).2⟩,P.dn⟩
theorem DI.next {p:zb} (hp:zA p) {nb k:Nat} {s:za} {gh:Gh} {W:Int→Int→Prop} (hk:k<1000000) (Q:DI p nb k s gh W) (j:Int): ∃gh' W',DI p nb (k+1) (uU s j) gh' W':=by
 obtain ⟨gh',W',I',J',_⟩:=zAb hp (by omega) Q.I Q.J j
 have A':=(zBm hp Q.I.G.E (by omega) Q.A j).1
 refine ⟨gh',W',?_⟩
 suffices h:RgI p (uU s j)∧(∀(i:Nat) x,(uU s j).Ms[i]? =some x→zty p (uU s j) x)∧(∀(i:Nat) x,(uU s j).Ms[i]? =some x→zoM x)∧PH p (uU s j) gh' from ⟨I',J',h.1,h.2.1,h.2.2.1,by have:=A';rw [show ((k:Int)+1)=((k+1:Nat):Int) by omega] at this;exact this,h.2.2.2⟩
 have keep: ∀ {t:za},t.H=s.H→t.Ms=s.Ms→RgI p t∧(∀(i:Nat) x,t.Ms[i]? =some x→zty p t x)∧(∀(i:Nat) x,t.Ms[i]? =some x→zoM x):=fun eH eX =>
  ⟨⟨by rw [eH];exact Q.R.hp,by rw [eH,eX];exact Q.R.rg⟩,fun i x hx=>by rw [eX] at hx;unfold zty;rw [eH];exact Q.O i x hx,fun i x hx=>by rw [eX] at hx;exact Q.B i x hx⟩
 have fin: ∀ {t:za},t.H=s.H→t.Ms=s.Ms→PH p t gh'→RgI p t∧(∀(i:Nat) x,t.Ms[i]? =some x→zty p t x)∧(∀(i:Nat) x,t.Ms[i]? =some x→zoM x)∧PH p t gh':=fun eH eX P=>⟨(keep eH eX).1,(keep eH eX).2.1,(keep eH eX).2.2,P⟩
 cases hd:s.Done with
 | true =>
  rw [zoX hd] at I' ⊢
  exact fin rfl rfl (Q.P.to Q.I I')
 | false =>
  have hwl:=Q.I.G.E.wl
  have hml:=Q.I.G.E.ml
  revert I'
  unfold uU
  split
  ·intro I'
   have hf:=zge s
   exact fin (by conv=>rhs;rw [←hf]) (by conv=>rhs;rw [←hf]) (PH.det hp hk Q.I Q.A Q.P hd I')
  split
  ·intro I'
   by_cases h1:1≤j
   ·have hf:=U1 Q.I.G.E j
    exact fin (by rw [hf]) (by rw [hf]) (PH.worker hp hk Q.I Q.P hd (by omega) I')
   ·have:zF s j=s:=by unfold zF;rw [if_pos (.inr (.inl (by omega)))]
    rw [this] at I' ⊢
    exact fin rfl rfl (Q.P.to Q.I I')
  ·intro I'
   by_cases h1:1≤j-(s.Ws.length:Int)∧j-(s.Ws.length:Int)≤(s.Ms.length:Int)
   ·generalize j-(s.Ws.length:Int)=m at h1 I' ⊢
    refine ⟨Q.R.step hp Q.I.G.E m,?_⟩
    have hPH:=PH.mutator hp hk Q hd (m:=m) (by omega) I'
    refine ⟨fun i y hy=> ?_,fun i y hy=> ?_,hPH⟩
    all_goals
     have hi:(m-1).toNat<s.Ms.length:=by omega
     have ei:(((m-1).toNat:Nat):Int)+1=m:=by omega
     have hx:=List.getElem?_eq_getElem hi
     generalize s.Ms[(m-1).toNat]=x at hx
     have eS:zu s m={(zi s m x).1 with Ms:=s.Ms.set (m-1).toNat (zi s m x).2}:=by
      unfold zu
      rw [if_neg (by rw [hd];rintro (e | e | e)<;>first | cases e | omega),hx]
     rw [eS] at hy
     have hy:(s.Ms.set (m-1).toNat (zi s m x).2)[i]? =some y:=hy
    ·have hrg:=zzd (m:=m) hp Q.I.G.E.H Q.R.hp (Q.R.rg x (List.mem_of_getElem? hx))
     rw [eS]
     have up: ∀ {v:Int},v=0∨LvH p s.H v→v=0∨LvH p (zi s m x).1.H v:=fun h=>h.imp id (fun L=>L.mono hrg.2.2)
     show zty p (zi s m x).1 y
     have hXO:=Q.I.G.E.X _ x hx
     by_cases e:i=(m-1).toNat
     ·subst e
      rw [List.getElem?_set_self hi] at hy
      injection hy with hy;subst hy
      intro c
      by_cases cx:x.PC=21
      ·exfalso
       revert c
       have e21:zi s m x=WT s m x:=by
        unfold zi
        rw [if_neg (by omega),if_neg (by omega),if_neg (by omega),if_neg (by omega),if_neg (by omega),if_neg (by omega),if_pos cx]
       rw [e21];unfold WT;dsimp only
       split<;>(dsimp only;omega)
      ·exact up (zAF Q.I.G.E.S.P Q.R.hp (Q.R.rg x (List.mem_of_getElem? hx)) (fun h=>hXO.ret (.inl h)) c cx)
     ·rw [List.getElem?_set_ne (fun h=>e h.symm)] at hy
      exact fun c=>up (Q.O i y hy c)
    ·by_cases e:i=(m-1).toNat
     ·subst e
      rw [List.getElem?_set_self hi] at hy
      injection hy with hy;subst hy
      exact zAO (Q.B _ x hx)
     ·rw [List.getElem?_set_ne (fun h=>e h.symm)] at hy
      exact Q.B i y hy
   ·have:zu s (j-(s.Ws.length:Int))=s:=by unfold zu;rw [if_pos (by omega)]
    rw [this] at I' ⊢
    exact fin rfl rfl (Q.P.to Q.I I')
theorem zzs {p:zb} {nb k:Nat} {s:za} {gh:Gh} (I:EG p nb k s gh) (C:uN p s gh) (K:K2 s) (h2:s.D.PC≠2) (ha: ∀j:Nat,j<s.Ms.length→s.Acks.getD j 0=s.Epoch):s.Work=0:=by
 have hw:=I.wk
 rw [C.bag] at hw
 have z:zat s=0:=by
  unfold zat
  have z1:(s.Ws.map owW).sum=0:=zqm (fun v hv=>by
   obtain ⟨x,hx,rfl⟩:=List.mem_map.1 hv
   obtain ⟨i,hi⟩:=List.mem_iff_getElem?.1 hx
   unfold owW
   rw [if_neg (C.w9 i x hi),if_neg (C.noW hi).2.1])
  have z2:(s.Ms.map owX).sum=0:=zqm (fun v hv=>by
   obtain ⟨x,hx,rfl⟩:=List.mem_map.1 hv
   obtain ⟨i,hi⟩:=List.mem_iff_getElem?.1 hx
   have:=(K.2 h2 i x hi (ha i (List.getElem?_eq_some_iff.1 hi).1)).2.2.1
   have:=(C.noX hi).2.1
   unfold owX
   rw [if_neg (C.m39 i x hi),if_neg (by omega)])
  omega
 rw [hw,z];rfl
theorem DI.done {p:zb} (hp:zA p) {nb k:Nat} {s:za} {gh:Gh} {W:Int→Int→Prop} (Q:DI p nb k s gh W) (hd:s.Done=true) :
  s.Work=0∧(∀o,yD s.T o≠1)∧(∀(i:Nat) x,s.Ms[i]? =some x→x.Buf=[]∧x.Batch=[]∧x.Obj=0)∧(∀o,LvH p s.H o→zK s.T.Marks o=true):=by
 have c6:=Q.P.dn hd
 obtain ⟨C,K⟩:=Q.P.p6 c6
 have G:=Q.I.G
 have qx: ∀(i:Nat) x,s.Ms[i]? =some x→zl9 x:=fun i x hx=>K.2 (by omega) i x hx (Q.P.a4 (by omega) i (List.getElem?_eq_some_iff.1 hx).1)
 refine ⟨?_,fun o ho=> ?_,fun i x hx=> ?_,fun o L=>K.live hp G Q.J C L⟩
 ·exact zzs Q.I C K (by omega) (Q.P.a4 (by omega))
 ·have:=(G.B.gr o).2 ho
  rw [C.bag] at this;cases this
 ·have hn:=C.noX hx
  have h39:=C.m39 i x hx
  refine ⟨(qx i x hx).1,hn.2.2.2,(Q.B i x hx).resolve_right (by omega)⟩
theorem zCn {p:zb} (h:zA p):PI p (yM p) (fun _ _=>False):=by
 have hms: ∀(i:Nat) x,(yM p).Ms[i]? =some x→x.PC=0:=fun i x hx=>by
  obtain ⟨r,_,e⟩:=List.mem_map.1 (show x∈p.Regs.map xO from List.mem_of_getElem? hx)
  rw [←e];rfl
 have hws: ∀(i:Nat) x,(yM p).Ws[i]? =some x→x.PC=0:=fun i x hx=>by
  obtain ⟨j,_,e⟩:=List.mem_map.1 (show x∈(List.range p.Workers.toNat).map (ul p) from List.mem_of_getElem? hx)
  rw [←e];rfl
 have us: ∀u j,US (yM p) u j:=fun u j=>⟨fun i x hx e=>by have:=hws i x hx;omega,fun i x hx e=>by have:=hms i x hx;omega⟩
 refine ⟨fun o ho=> ?_,fun i x hx=> ?_,fun i x hx=> ?_,fun i x hx _=> ?_⟩
 ·induction ho with
  | root o h1 h2=>exact .inl h1
  | step o v h1 h2 h3 ih =>
   right
   have ho:=h1.in
   obtain ⟨j,hj⟩:=List.mem_iff_getElem?.1 h2
   have hjl:=(List.getElem?_eq_some_iff.1 hj).1
   have hs:yK (yM p).H o (j:Int)=true:=by
    show yK p.H o (j:Int)=true
    unfold yK;simp;omega
   have hg:zO (yM p).H o (j:Int)=v:=by
    show zO p.H o (j:Int)=v
    unfold zO
    rw [if_pos (show yK p.H o (j:Int)=true from hs),List.getD_eq_getElem?_getD,Int.toNat_natCast,hj];rfl
   rcases ih with ih | ih
   ·exact .grey o j v (fun e=>e) hs hg ((uV _ _).2 ⟨ih,Yz o⟩) (us _ _)
   ·by_cases hm:zK (yM p).T.Marks o=true
    ·exact .grey o j v (fun e=>e) hs hg ((uV _ _).2 ⟨hm,Yz o⟩) (us _ _)
    ·exact .white o j v (fun e=>e) hs hg hm ih
 ·have:=hws i x hx;exact ⟨fun e=>by omega,fun e=>by omega,fun e=>by omega⟩
 ·have:=hms i x hx;exact ⟨fun e=>by omega,fun e=>by omega,fun e=>by omega⟩
 ·have:=hms i x hx
  exact ⟨fun e=>by omega,fun e=>by omega⟩
theorem zB2 {p:zb} (h:zA p):DI p (zZ p+1) 0 (yM p) (gh0 p) (fun _ _=>False):=by
 have hms: ∀(i:Nat) x,(yM p).Ms[i]? =some x→x.PC=0∧x.Obj=0:=fun i x hx=>by
  obtain ⟨r,_,e⟩:=List.mem_map.1 (show x∈p.Regs.map xO from List.mem_of_getElem? hx)
  rw [←e];exact ⟨rfl,rfl⟩
 have e0:(yM p).D.PC=0:=rfl
 exact ⟨zzF h,zCn h,zCr h,fun i x hx c=>by have:=(hms i x hx).1;omega,fun i x hx=> .inl (hms i x hx).2,zCi p,⟨fun c=>by omega,fun c=>by omega,fun c=>by omega,fun c=>by omega,fun c=>by omega,fun c=>by cases c⟩⟩
end
end Go.Pe.G
namespace Go.Pe.G
open Go.Pe
noncomputable section
theorem zoq (a b:BitVec 64):a&&& ~~~b=0#64↔∀o,zK a o=true→zK b o=true:=by
 constructor
 ·intro h o ho
  have hr:=(wm _ _).1 ho
  refine Classical.byContradiction (fun hb=> ?_)
  have:zK (a&&& ~~~b) o=true:=(VE _ _ _).2 ⟨ho,(zql b ⟨hr.1,hr.2.1⟩).2 hb⟩
  rw [h] at this
  exact Yz o this
 ·intro h
  refine zxg (fun o=>⟨fun e=> ?_,fun e=>absurd e (Yz o)⟩)
  obtain ⟨e1,e2⟩:=(VE _ _ _).1 e
  have hr:=(wm _ _).1 e1
  exact absurd (h o e1) ((zql b ⟨hr.1,hr.2.1⟩).1 e2)
end
end Go.Pe.G
