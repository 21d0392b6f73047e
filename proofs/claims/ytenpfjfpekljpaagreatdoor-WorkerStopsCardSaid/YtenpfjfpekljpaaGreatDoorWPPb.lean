/- Own work of this seat: PMstep, PBits, PWAll, PLists, PWNew, PFrame, PHp, PFirst, PNewI, PCnt, PFull, PRem, PRuns, PReach, PLiveP, PProt, PMProt, PMSnap, PWSnap, PStops, PLaw15. -/
import Derived.Test.YtenpfjfpekljpaaGreatDoorWPPa
set_option linter.unusedVariables false
set_option linter.unusedSimpArgs false
set_option linter.unnecessarySimpa false
set_option linter.unusedSectionVars false
set_option linter.deprecated false
set_option maxRecDepth 20000
namespace Go.Pe.G
open Go.Pe
noncomputable section
def va (x:zc):List Int:=if x.PC=33∨x.PC=34 then [x.Bin] else if x.PC=3∨x.PC=37 then xB x.G else []
def zaw (s:za) (x:zc):List Int:=if x.PC=33 then xj s x.Bin else if x.PC=36∨x.PC=38 then [x.Obj] else if x.PC=37 then x.Obj::yH x.G else if x.PC=3 then yH x.G else []
def yb (s:za) (x:zc):List Int:=x.Batch++zaw s x
structure MX (p:zb) (s:za) (gh:Gh) (x:zc):Prop where
 bt:x.PC≤33→x.Batch=[]
 bf: ∀v∈x.Buf,1≤v∧v≤64
 ol:(x.PC=21→0≤x.Old∧x.Old≤64)∧(x.PC=22∨((x.PC=1∨x.PC=3)∧x.Ret=22)→1≤x.Old∧x.Old≤64)
 p3:x.PC=3→GX p s gh x.G∧x.G.Mode=2∧x.G.Out=0
 p32:x.PC=32→x.C.Out=0∧(0≤x.C.PC∧x.C.PC≤2)∧CK p s.M x.C
 p34:x.PC=34→x.C.Out=0∧(0≤x.C.PC∧x.C.PC≤2)∧x.C.X=x.Bin∧CK p s.M x.C
 p37:x.PC=37→GX p s gh x.G∧x.G.Mode=3∧x.G.Out=0
theorem MX.plain {p:zb} {s:za} {gh:Gh} {x:zc} (h:x.PC≠3∧x.PC≠32∧x.PC≠34∧x.PC≠37) (bt:x.PC≤33→x.Batch=[]) (bf: ∀v∈x.Buf,1≤v∧v≤64)
  (ol:(x.PC=21→0≤x.Old∧x.Old≤64)∧(x.PC=22∨((x.PC=1∨x.PC=3)∧x.Ret=22)→1≤x.Old∧x.Old≤64)):MX p s gh x :=
 ⟨bt,bf,ol,fun e=>by omega,fun e=>by omega,fun e=>by omega,fun e=>by omega⟩
theorem vf {x:zc} (h:x.PC≠3∧x.PC≠33∧x.PC≠34∧x.PC≠37):va x=[]:=by unfold va;rw [if_neg (by omega),if_neg (by omega)]
theorem zaj {x:zc} (h:x.PC=33∨x.PC=34):va x=[x.Bin]:=by unfold va;rw [if_pos h]
theorem zdg {x:zc} (h:x.PC=3∨x.PC=37):va x=xB x.G:=by unfold va;rw [if_neg (by omega),if_pos h]
theorem uk {s:za} {x:zc} (h:x.PC≠3∧x.PC≠33∧x.PC≠36∧x.PC≠37∧x.PC≠38):zaw s x=[]:=by unfold zaw;rw [if_neg (by omega),if_neg (by omega),if_neg (by omega),if_neg (by omega)]
theorem zkm {s:za} {x:zc} (h:x.PC=33):zaw s x=xj s x.Bin:=by unfold zaw;rw [if_pos h]
theorem Vk {s:za} {x:zc} (h:x.PC=36∨x.PC=38):zaw s x=[x.Obj]:=by unfold zaw;rw [if_neg (by omega),if_pos h]
theorem zkh {s:za} {x:zc} (h:x.PC=37):zaw s x=x.Obj::yH x.G:=by unfold zaw;rw [if_neg (by omega),if_neg (by omega),if_pos h]
theorem zjB {s:za} {x:zc} (h:x.PC=3):zaw s x=yH x.G:=by unfold zaw;rw [if_neg (by omega),if_neg (by omega),if_neg (by omega),if_pos h]
theorem MX.other {p:zb} (hp:zE p) {nb k:Nat} {s s':za} {gh gh':Gh} {X R:List Int} {O:Int→Prop} {m:Int} {x:zc} (Y:SX p nb s gh (X++R) k) (Fx:FX p nb X O s s' gh gh') (K:MX p s gh x) (W:XOk p nb m x)
  (hR: ∀b∈va x,b∈R):MX p s' gh' x∧yb s' x=yb s x:=by
 have hsub: ∀b∈X,b∈X++R:=fun b hb=>List.mem_append_left _ hb
 have hnd:=(List.nodup_append.1 Y.L.nodup).2.1
 have hnot: ∀b,b∈va x→b∉X:=fun b hb hg=>(List.nodup_append.1 hnd).2.2 b hg b (hR b hb) rfl
 refine ⟨⟨K.bt,K.bf,K.ol,fun e=> ?_,fun e=> ?_,fun e=> ?_,fun e=> ?_⟩,?_⟩
 ·obtain ⟨a,b,c⟩:=K.p3 e
  obtain ⟨M,_,_⟩:=W.g (.inl e)
  exact ⟨a.other hp Y Fx M (fun y hy=>hR y (by rw [zdg (.inl e)];exact hy)) (fun e2=>by omega),b,c⟩
 ·obtain ⟨a,b,c⟩:=K.p32 e
  have C:=W.c32 e
  exact ⟨a,b,c.mv Y.L Fx.mv hsub (.inl C.h) (fun h _=>C.v h) (fun e2=>by have:=C.k;omega)⟩
 ·obtain ⟨a,b,c,d⟩:=K.p34 e
  have C:=W.c34 e
  have hno:=hnot x.Bin (by rw [zaj (.inr e)];simp)
  exact ⟨a,b,c,d.mv Y.L Fx.mv hsub (.inr C.h) (fun _ e2=>by have:=C.k;omega) (fun _=>⟨C.x.1,C.x.2,by rw [c];exact hno⟩)⟩
 ·obtain ⟨a,b,c⟩:=K.p37 e
  obtain ⟨M,_,_⟩:=W.g (.inr e)
  exact ⟨a.other hp Y Fx M (fun y hy=>hR y (by rw [zdg (.inr e)];exact hy)) (fun e2=>by omega),b,c⟩
 ·unfold yb
  congr 1
  by_cases e3:x.PC=33
  ·rw [zkm e3,zkm e3]
   have hb:=W.b33 e3
   have hno:=hnot x.Bin (by rw [zaj (.inl e3)];simp)
   unfold xj
   rw [Fx.bn x.Bin hb.1 hno]
  ·unfold zaw
   rw [if_neg e3,if_neg e3]
def zbT (p:zb) (nb k:Nat) (R:List Int) (gh:Gh) (s:za) (x:zc) (s':za) (x':zc):Prop :=
 ∃gh',SX p nb s' gh' (va x'++R) (k+1)∧MX p s' gh' x'∧FX p nb (va x) (fun _=>False) s s' gh gh' ∧
  ∃N B,List.Perm (yt p s' gh'++yb s' x'++B) (N++(yt p s gh++yb s x)) ∧
   ((N=[]∧B=[]∧s'.T=s.T)∨(N=[x.G.Obj]∧B=[]∧(x.PC=3∨x.PC=37)∧¬(s.T.Marks|||bit x.G.Obj=s.T.Marks)∧s'.T={s.T with Marks:=s.T.Marks|||bit x.G.Obj})∨(N=[]∧B=[x.Obj]∧x.PC=38∧s'.T=vq s.T x.Obj) ∨
    (N=[]∧B=[]∧x.PC=30∧zaX s.H s.P.Most=true∧s'.H=uo s.H∧s'.T=V4 s.T (wc (s.H.Objs.length+1))))
theorem zbT.quiet {p:zb} {nb k:Nat} {R:List Int} {gh:Gh} {s s':za} {x x':zc} (X:SX p nb s gh (va x++R) k) (S':SOk p nb s') (hm:s'.M=s.M) (hb:s'.Bins=s.Bins) (hT:s'.T=s.T)
  (ho:va x'=va x) (hh:List.Perm (yb s' x') (yb s x)) (W':MX p s' gh x'):zbT p nb k R gh s x s' x' :=
 ⟨gh,by rw [ho];exact X.quiet S' hm,W',FX.quiet hm (fun _ _ _=>by rw [hb]),[],[],by rw [Zm hb,List.append_nil];exact List.Perm.append_left _ hh,.inl ⟨rfl,rfl,hT⟩⟩
theorem zbT.calm {p:zb} {nb k:Nat} {R:List Int} {gh:Gh} {s s':za} {x x':zc} (X:SX p nb s gh (va x++R) k) (S':SOk p nb s') (hm:s'.M=s.M) (hb:s'.Bins=s.Bins) (hT:s'.T=s.T)
  (h:x.PC≠3∧x.PC≠33∧x.PC≠34∧x.PC≠36∧x.PC≠37∧x.PC≠38) (h':x'.PC≠3∧x'.PC≠32∧x'.PC≠33∧x'.PC≠34∧x'.PC≠36∧x'.PC≠37∧x'.PC≠38) (eb:x'.Batch=x.Batch)
  (bt:x'.PC≤33→x'.Batch=[]) (bf: ∀v∈x'.Buf,1≤v∧v≤64) (ol:(x'.PC=21→0≤x'.Old∧x'.Old≤64)∧(x'.PC=22∨((x'.PC=1∨x'.PC=3)∧x'.Ret=22)→1≤x'.Old∧x'.Old≤64)):zbT p nb k R gh s x s' x':=by
 refine .quiet X S' hm hb hT ?_ ?_ (MX.plain (by omega) bt bf ol)
 ·rw [vf (by omega),vf (by omega)]
 ·unfold yb
  rw [uk (by omega),uk (by omega),eb]
theorem zm8 {p:zb} {s:za} {gh:Gh} {md o w:Int} (hmd:md=2∨md=3) (ho:1≤o∧o≤64):GX p s gh (Yk md o w)∧(Yk md o w).Mode=md∧(Yk md o w).Out=0∧xB (Yk md o w)=[]∧yH (Yk md o w)=[]:=by
 refine ⟨GX.plain (.inl rfl) ⟨by show (0:Int)≤0;decide,by show (0:Int)≤7;decide⟩ ⟨by show 1≤md;omega,by show md≤3;omega⟩ ho (fun e=>by have e:md=1:=e;omega) (.inr ⟨by show (0:Int)≠3;decide,by show (0:Int)≠5;decide,by show (0:Int)≠7;decide⟩),rfl,rfl,
  wG (.inr ⟨by show (0:Int)≠6;decide,by show (0:Int)≠7;decide⟩),uD (.inr (.inl (by show (0:Int)<3;decide)))⟩
theorem zw7 {p:zb} (hp:zE p) {nb k:Nat} {R:List Int} {gh:Gh} {s:za} {m:Int} {x:zc} (hk:k<4294960000) (X:SX p nb s gh (va x++R) k) (W:XOk p nb m x) (K:MX p s gh x) (hpl:((Y8 p m).length:Int)≤64)
  (hH: ∀o i,0≤zJ s.H o i∧zJ s.H o i≤64):zbT p nb k R gh s x (zn s m x).1 (zn s m x).2:=by
 have S':=(zta hp hpl X.S W).1
 have hP:=X.S.P
 have eC:W5 s.P (zD s.P) x.Bin=W5 p (zD p) x.Bin:=by rw [hP]
 have hbf:=K.bf
 have hol:=K.ol
 revert S'
 refine wD (motive:=fun r=>SOk p nb r.1→zbT p nb k R gh s x r.1 r.2) s m x ?_ ?_ ?_ ?_ ?_ ?_ ?_ ?_ ?_ ?_ ?_ ?_ ?_ ?_ ?_ ?_ ?_ ?_ ?_ ?_
 ·intro c;unfold mu0 zba;dsimp only
  have hbt:=K.bt (by omega)
  repeat' split
  all_goals (intro S')
  all_goals (refine .calm X S' rfl rfl rfl (by omega) (by (try dsimp only [setM]);omega) rfl (fun _=>hbt) hbf ⟨fun e=> ?_,fun e=> ?_⟩<;>((try dsimp only [setM] at e);omega))
 ·intro c;unfold mu1;dsimp only
  have hbt:=K.bt (by omega)
  have hrt:=W.ret (.inl c)
  split
  ·intro S'
   exact .calm X S' rfl rfl rfl (by omega) (by dsimp only;omega) rfl (fun _=>hbt) hbf ⟨fun e=>by dsimp only at e;omega,fun e=>by dsimp only at e ⊢;exact hol.2 (by omega)⟩
  ·rename_i hl
   intro S'
   have hv:1≤x.Buf.getD (x.Buf.length-1) 0∧x.Buf.getD (x.Buf.length-1) 0≤64:=by
    rw [List.getD_eq_getElem?_getD,List.getElem?_eq_getElem (show x.Buf.length-1<x.Buf.length by omega)]
    exact hbf _ (List.getElem_mem _)
   obtain ⟨g1,g2,g3,g4,g5⟩:=zm8 (p:=p) (s:=s) (gh:=gh) (w:=m) (.inl rfl) hv
   refine .quiet X S' rfl rfl rfl ?_ ?_ ⟨fun _=>hbt,fun v hv=>hbf v (List.mem_of_mem_take hv),⟨fun e=>(by cases e),fun e=> ?_⟩,fun _=>⟨g1,g2,g3⟩,fun e=>(by cases e),fun e=>(by cases e),fun e=>(by cases e)⟩
   ·rw [vf (x:=x) (by omega),zdg (.inl rfl)];exact g4
   ·unfold yb
    rw [uk (x:=x) (by omega),zjB rfl]
    show List.Perm (x.Batch++yH (Yk 2 (x.Buf.getD (x.Buf.length-1) 0) m)) _
    rw [g5]
   ·rcases e with e | e
    ·cases e
    ·exact hol.2 (.inr ⟨.inl c,e.2⟩)
 ·intro c S';unfold mu2 at S' ⊢
  exact .calm X S' rfl rfl rfl (by omega) (by dsimp only;omega) rfl (fun _=>K.bt (by omega)) hbf ⟨fun e=>by dsimp only at e;omega,fun e=>by dsimp only at e;omega⟩
 ·intro c;unfold mu3;dsimp only
  have hbt:=K.bt (by omega)
  obtain ⟨G,gm,g0⟩:=K.p3 c
  obtain ⟨M,h5o,hn1⟩:=W.g (.inl c)
  have eo:va x=xB x.G:=zdg (.inl c)
  have hh:yb s x=yH x.G:=by unfold yb;rw [zjB c,hbt,List.nil_append]
  rw [eo] at X
  obtain ⟨gh',X',G',Fx,hc',hFb,N,hN,hT⟩:=zr9 hp hk X M h5o G
  have so:=WV s x.G
  have Fx':FX p nb (va x) (fun _=>False) s (zp s x.G).1 gh gh':=by rw [eo];exact Fx.mono (fun v e=>by have:=e.1;omega)
  have hT':(N=[]∧([]:List Int)=[]∧(zp s x.G).1.T=s.T)∨(N=[x.G.Obj]∧([]:List Int)=[]∧(x.PC=3∨x.PC=37)∧¬(s.T.Marks|||bit x.G.Obj=s.T.Marks)∧(zp s x.G).1.T={s.T with Marks:=s.T.Marks|||bit x.G.Obj}):=by
   rcases hT with ⟨a,b⟩ | ⟨a,b,c'⟩
   ·exact .inl ⟨a,rfl,b⟩
   ·exact .inr ⟨a,rfl,.inl c,b,c'⟩
  split
  ·rename_i o1
   intro S'
   have n1:xB (zp s x.G).2=[]:=wG (.inl (by omega))
   have n2:yH (zp s x.G).2=[]:=uD (.inl (by omega))
   rw [n1] at X'
   refine ⟨gh',by rw [vf (by dsimp only;omega)];exact X',MX.plain (by dsimp only;omega) (fun _=>hbt) hbf ⟨fun e=>(by cases e),fun e=> ?_⟩,Fx',N,[],?_,hT'.elim .inl (fun h=> .inr (.inl h))⟩
   ·rcases e with e | e
    ·cases e
    ·exact hol.2 (.inr ⟨.inr c,e.2⟩)
   ·unfold yb
    rw [uk (by dsimp only;omega),List.append_nil,List.append_nil]
    rw [n2,List.append_nil] at hN
    show List.Perm (yt p (zp s x.G).1 gh'++x.Batch) (N++(yt p s gh++(x.Batch++zaw s x)))
    rw [hbt,zjB c,List.append_nil,List.nil_append]
    exact hN
  ·rename_i o1
   intro S'
   have o0:(zp s x.G).2.Out=0:=by have:=G'.o;omega
   refine ⟨gh',by rw [zdg (x:={x with G:=(zp s x.G).2}) (.inl c)];exact X',⟨fun _=>hbt,hbf,hol,fun _=>⟨G',so.2.2.trans gm,o0⟩,fun e=>by have e:x.PC=32:=e;omega,fun e=>by have e:x.PC=34:=e;omega,fun e=>by have e:x.PC=37:=e;omega⟩,Fx',N,[],?_,hT'.elim .inl (fun h=> .inr (.inl h))⟩
   unfold yb
   rw [zjB (x:={x with G:=(zp s x.G).2}) c,List.append_nil]
   show List.Perm (yt p (zp s x.G).1 gh'++(x.Batch++yH (zp s x.G).2)) (N++(yt p s gh++(x.Batch++zaw s x)))
   rw [hbt,zjB c,List.nil_append,List.nil_append]
   exact hN
 ·intro c S';unfold zhg at S' ⊢
  exact .calm X S' rfl rfl rfl (by omega) (by dsimp only [setM];omega) rfl (fun _=>K.bt (by omega)) hbf ⟨fun e=>by dsimp only [setM] at e;omega,fun e=>by dsimp only [setM] at e;omega⟩
 ·intro c;unfold zeC;dsimp only
  have hbt:=K.bt (by omega)
  split
  ·intro S'
   exact .calm X S' rfl rfl rfl (by omega) (by dsimp only [vD];omega) rfl (fun _=>hbt) hbf ⟨fun e=>by dsimp only [vD] at e;omega,fun e=>by dsimp only [vD] at e;omega⟩
  ·intro S'
   exact .calm X S' rfl rfl rfl (by omega) (by dsimp only;omega) rfl (fun _=>hbt) hbf ⟨fun _=>hH _ _,fun e=>by dsimp only at e;omega⟩
 ·intro c;unfold zfk;dsimp only
  have hbt:=K.bt (by omega)
  have h21:=hol.1 c
  split
  ·intro S'
   exact .calm X S' rfl rfl rfl (by omega) (by dsimp only;omega) rfl (fun _=>hbt) hbf ⟨fun e=>by dsimp only at e;omega,fun e=>by dsimp only at e;omega⟩
  ·rename_i hn
   intro S'
   have: ¬x.Old=0:=fun e=>hn (.inl e)
   exact .calm X S' rfl rfl rfl (by omega) (by dsimp only;omega) rfl (fun _=>hbt) hbf ⟨fun e=>by dsimp only at e;omega,fun e=>by dsimp only;omega⟩
 ·intro c;unfold zeN;dsimp only
  have hbt:=K.bt (by omega)
  have h22:=hol.2 (.inl c)
  split
  ·intro S'
   exact .calm X S' rfl rfl rfl (by omega) (by dsimp only;omega) rfl (fun _=>hbt) hbf ⟨fun e=>by dsimp only at e;omega,fun e=>h22⟩
  ·intro S'
   refine .calm X S' rfl rfl rfl (by omega) (by dsimp only;omega) rfl (fun _=>hbt) (fun v hv=> ?_) ⟨fun e=>by dsimp only at e;omega,fun e=>by dsimp only at e;omega⟩
   rcases List.mem_append.1 hv with h | h
   ·exact hbf v h
   ·rw [List.mem_singleton.1 h];exact h22
 ·intro c S';unfold zfv at S' ⊢
  exact .calm X S' rfl rfl rfl (by omega) (by dsimp only [vD];omega) rfl (fun _=>K.bt (by omega)) hbf ⟨fun e=>by dsimp only [vD] at e;omega,fun e=>by dsimp only [vD] at e;omega⟩
 ·intro c;unfold zao
  have hbt:=K.bt (by omega)
  split
  ·split
   ·rename_i h1 h2
    intro S'
    refine ⟨gh,by rw [vf (by dsimp only [setM];omega)];rw [vf (x:=x) (by omega)] at X;exact X.quiet S' rfl,MX.plain (by dsimp only [setM];omega) (fun _=>hbt) hbf ⟨fun e=>by dsimp only [setM] at e;omega,fun e=>by dsimp only [setM] at e;omega⟩,FX.quiet rfl (fun _ _ _=>rfl),[],[],?_,.inr (.inr (.inr ⟨rfl,rfl,c,h2,rfl,rfl⟩))⟩
    rw [Zm rfl,List.append_nil,List.nil_append]
    unfold yb
    rw [uk (by dsimp only [setM];omega),uk (x:=x) (by omega)]
    exact List.Perm.refl _
   ·intro S'
    exact .calm X S' rfl rfl rfl (by omega) (by dsimp only [vD];omega) rfl (fun _=>hbt) hbf ⟨fun e=>by dsimp only [vD] at e;omega,fun e=>by dsimp only [vD] at e;omega⟩
  ·intro S'
   exact .calm X S' rfl rfl rfl (by omega) (by dsimp only;omega) rfl (fun _=>hbt) hbf ⟨fun e=>by dsimp only at e;omega,fun e=>by dsimp only at e;omega⟩
 ·intro c;unfold zeB;dsimp only
  have hbt:=K.bt (by omega)
  split
  ·intro S'
   refine .quiet X S' rfl rfl rfl (by rw [vf (by dsimp only;omega),vf (x:=x) (by omega)]) ?_ ⟨fun _=>hbt,hbf,⟨fun e=>by dsimp only at e;omega,fun e=>by dsimp only at e;omega⟩,fun e=>by dsimp only at e;omega,fun _=>⟨rfl,⟨by show (0:Int)≤0;decide,by show (0:Int)≤2;decide⟩,by show CK p s.M (znA s.P (zZ s.P) x.Bin);rw [hP];exact CK.start⟩,fun e=>by dsimp only at e;omega,fun e=>by dsimp only at e;omega⟩
   unfold yb
   rw [uk (by dsimp only;omega),uk (x:=x) (by omega)]
  ·intro S'
   exact .calm X S' rfl rfl rfl (by omega) (by dsimp only;omega) rfl (fun _=>hbt) hbf ⟨fun e=>by dsimp only at e;omega,fun e=>by dsimp only at e;omega⟩
 ·intro c;unfold zfd;dsimp only
  have C:=W.c32 c
  obtain ⟨c1,c2,c3⟩:=K.p32 c
  have hbt:=K.bt (by omega)
  have eo:va x=[]:=vf (by omega)
  have hh:yb s x=[]:=by unfold yb;rw [hbt,uk (by omega)];rfl
  have nn: ∀e:x.PC=21,False:=fun e=>by omega
  intro S'
  have S':SOk p nb {s with M:=(zk s.M x.C).1}:=S'
  rcases SX.popF hp X hk C.k C.h C.n c1 c2 c3 C.v S' with ⟨a,b,cc,d⟩ | ⟨y,l,a,b,cc,d,e⟩
  ·rw [if_neg b]
   have hout:=XE s.M c1 c2 (.inr C.k)
   by_cases o2:(zk s.M x.C).2.Out=2
   ·rw [if_pos o2]
    exact .calm X S' a rfl rfl (by omega) (by dsimp only;omega) rfl (fun _=>hbt) hbf ⟨fun e=>by dsimp only at e;omega,fun e=>by dsimp only at e;omega⟩
   ·rw [if_neg o2]
    have hpc':(zk s.M x.C).2.Out=0∧0≤(zk s.M x.C).2.PC∧(zk s.M x.C).2.PC≤2:=by omega
    refine .quiet X S' a rfl rfl ?_ ?_ ⟨fun _=>hbt,hbf,hol,fun e=>by have e:x.PC=3:=e;omega,fun _=>⟨hpc'.1,hpc'.2,?_⟩,fun e=>by have e:x.PC=34:=e;omega,fun e=>by have e:x.PC=37:=e;omega⟩
    ·rw [eo];exact vf (by dsimp only;omega)
    ·unfold yb
     rw [uk (by dsimp only;omega),uk (x:=x) (by omega)]
    ·rw [show ({s with M:=(zk s.M x.C).1}:za).M=s.M from a];exact cc
  ·rw [if_pos b]
   have e1:va {x with PC:=33,Bin:=(zk s.M x.C).2.X,C:=(zk s.M x.C).2}=[y]:=by rw [←cc];exact zaj (x:={x with PC:=33,Bin:=(zk s.M x.C).2.X,C:=(zk s.M x.C).2}) (.inl rfl)
   refine ⟨{gh with F:=l},by rw [e1];rw [eo] at d;exact d,MX.plain (by dsimp only;omega) (fun _=>hbt) hbf ⟨fun e=>by dsimp only at e;omega,fun e=>by dsimp only at e;omega⟩,e _ _,[],[],?_,.inl ⟨rfl,rfl,rfl⟩⟩
   rw [hh,List.append_nil,List.append_nil,List.nil_append]
   unfold yb
   rw [zkm (x:={x with PC:=33,Bin:=(zk s.M x.C).2.X,C:=(zk s.M x.C).2}) rfl]
   show List.Perm (yt p s {gh with F:=l}++(x.Batch++xj s (zk s.M x.C).2.X)) _
   rw [hbt,List.nil_append,cc]
   have:yt p s gh=xj s y++yt p s {gh with F:=l}:=by unfold yt;rw [a];simp [List.append_assoc]
   rw [this]
   exact List.perm_append_comm
 ·intro c;unfold zgV;dsimp only
  intro S'
  have hb:=W.b33 c
  have hbt:=K.bt (by omega)
  have eo:va x=[x.Bin]:=zaj (.inl c)
  rw [eC] at *
  have e1:va {x with Batch:=XB s x.Bin,PC:=34,C:=W5 p (zD p) x.Bin}=[x.Bin]:=zaj (x:={x with Batch:=XB s x.Bin,PC:=34,C:=W5 p (zD p) x.Bin}) (.inr rfl)
  have hget: ∀b,1≤b→b∉va x→(s.Bins.set x.Bin.toNat [])[b.toNat]? =s.Bins[b.toNat]? :=fun b b1 b2=>by
   rw [List.getElem?_set_ne]
   intro e
   rw [eo] at b2
   exact b2 (by rw [show b=x.Bin by omega];simp)
  refine ⟨gh,by rw [e1,←eo];exact X.quiet S' rfl,⟨fun e=>absurd e (by show ¬(34:Int)≤33;decide),hbf,⟨fun e=>by dsimp only at e;omega,fun e=>by dsimp only at e;omega⟩,fun e=>by dsimp only at e;omega,fun e=>by dsimp only at e;omega,fun _=>⟨rfl,⟨by show (0:Int)≤0;decide,by show (0:Int)≤2;decide⟩,rfl,CK.start⟩,fun e=>by dsimp only at e;omega⟩,FX.quiet rfl hget,[],[],?_,.inl ⟨rfl,rfl,rfl⟩⟩
  have hbag:yt p {s with Bins:=s.Bins.set x.Bin.toNat []} gh=yt p s gh:=by
   unfold yt
   congr 1
   refine wW (fun b hb=> ?_)
   have hm:=X.L.cF.mem b hb
   have hno:=(X.L.notF (x:=x.Bin) (by rw [eo];simp)).1
   unfold xj
   rw [show ({s with Bins:=s.Bins.set x.Bin.toNat []}:za).Bins=s.Bins.set x.Bin.toNat [] from rfl,hget b hm.1 (by rw [eo];intro e;rw [List.mem_singleton.1 e] at hb;exact hno hb)]
  rw [hbag,List.append_nil,List.nil_append]
  unfold yb
  rw [zkm c,uk (x:={x with Batch:=XB s x.Bin,PC:=34,C:=W5 p (zD p) x.Bin}) (by dsimp only;omega)]
  show List.Perm (yt p s gh++(XB s x.Bin++[])) _
  rw [hbt,List.append_nil,List.nil_append,zlG]
 ·intro c;unfold zfi;dsimp only
  intro S'
  have S':SOk p nb {s with M:=(zk s.M x.C).1}:=S'
  have C:=W.c34 c
  obtain ⟨c1,c2,c3,c4⟩:=K.p34 c
  have eo:va x=[x.Bin]:=zaj (.inr c)
  have hh:yb s x=x.Batch:=by unfold yb;rw [uk (by omega),List.append_nil]
  rw [eo] at X
  rcases SX.pushE hp (o1:=[]) (o2:=R) (b:=x.Bin) X hk C.k C.h C.n c3 c1 c2 c4 C.v S' with ⟨a,b,cc,d⟩ | ⟨a,b,d⟩
  ·rw [a,if_neg (by decide)]
   have hout:=XE s.M c1 c2 (.inl C.k)
   have hsame:=zgy s.M x.C
   have hpc':0≤(zk s.M x.C).2.PC∧(zk s.M x.C).2.PC≤2:=by omega
   have e1:va {x with C:=(zk s.M x.C).2}=[x.Bin]:=zaj (x:={x with C:=(zk s.M x.C).2}) (.inr c)
   refine ⟨gh,by rw [e1];exact b,⟨fun e=>by have e:x.PC≤33:=e;omega,hbf,hol,fun e=>by have e:x.PC=3:=e;omega,fun e=>by have e:x.PC=32:=e;omega,fun _=>⟨a,hpc',(hsame.2.2.2 C.k).trans c3,cc⟩,fun e=>by have e:x.PC=37:=e;omega⟩,by rw [eo];exact d _ _ (by simp),[],[],?_,.inl ⟨rfl,rfl,rfl⟩⟩
   rw [Zm rfl,hh,List.append_nil]
   unfold yb
   rw [uk (x:={x with C:=(zk s.M x.C).2}) (by dsimp only;omega),List.append_nil]
   exact List.Perm.refl _
  ·rw [a,if_pos rfl]
   refine ⟨{gh with E:=x.Bin::gh.E},by rw [vf (by dsimp only;omega)];exact b,MX.plain (by dsimp only;omega) (fun e=>absurd e (by show ¬(35:Int)≤33;decide)) hbf ⟨fun e=>by dsimp only at e;omega,fun e=>by dsimp only at e;omega⟩,by rw [eo];exact d _ _,[],[],?_,.inl ⟨rfl,rfl,rfl⟩⟩
   rw [hh,List.append_nil]
   unfold yb
   rw [uk (by dsimp only;omega),List.append_nil]
   exact List.Perm.refl _
 ·intro c;unfold ze5;dsimp only
  split
  ·rename_i hb
   intro S'
   exact .calm X S' rfl rfl rfl (by omega) (by dsimp only;omega) rfl (fun _=>hb) hbf ⟨fun e=>by dsimp only at e;omega,fun e=>by dsimp only at e;omega⟩
  ·rename_i o l hb
   intro S'
   refine .quiet X S' rfl rfl rfl (by rw [vf (by dsimp only;omega),vf (x:=x) (by omega)]) ?_ (MX.plain (by dsimp only;omega) (fun e=>absurd e (by show ¬(36:Int)≤33;decide)) hbf ⟨fun e=>by dsimp only at e;omega,fun e=>by dsimp only at e;omega⟩)
   unfold yb
   rw [Vk (.inl rfl),uk (x:=x) (by omega),hb,List.append_nil]
   exact List.perm_append_comm
 ·intro c;unfold zfh;dsimp only
  have hv:=hH x.Obj x.Slot
  have eo:va x=[]:=vf (by omega)
  split
  ·rcases zcP s (wc (x.Slot+1)) with e | e<;>rw [e]<;>intro S'
   ·refine .quiet X S' rfl rfl rfl (by rw [eo,vf (by dsimp only;omega)]) ?_ (MX.plain (by dsimp only;omega) (fun e=>absurd e (by show ¬(36:Int)≤33;decide)) hbf ⟨fun e=>by dsimp only at e;omega,fun e=>by dsimp only at e;omega⟩)
    unfold yb
    rw [Vk (.inl c),Vk (.inl rfl)]
   ·refine .quiet X S' rfl rfl rfl (by rw [eo,vf (by dsimp only;omega)]) ?_ (MX.plain (by dsimp only;omega) (fun e=>absurd e (by show ¬(38:Int)≤33;decide)) hbf ⟨fun e=>by dsimp only at e;omega,fun e=>by dsimp only at e;omega⟩)
    unfold yb
    rw [Vk (.inl c),Vk (.inr rfl)]
  ·rename_i hne
   intro S'
   obtain ⟨g1,g2,g3,g4,g5⟩:=zm8 (p:=p) (s:=s) (gh:=gh) (w:=m) (.inr rfl) (show 1≤zJ s.H x.Obj x.Slot∧zJ s.H x.Obj x.Slot≤64 by omega)
   refine .quiet X S' rfl rfl rfl ?_ ?_ ⟨fun e=>absurd e (by show ¬(37:Int)≤33;decide),hbf,⟨fun e=>by dsimp only at e;omega,fun e=>by dsimp only at e;omega⟩,fun e=>by dsimp only at e;omega,fun e=>by dsimp only at e;omega,fun e=>by dsimp only at e;omega,fun _=>⟨g1,g2,g3⟩⟩
   ·rw [eo,zdg (.inr rfl)];exact g4
   ·unfold yb
    rw [Vk (.inl c),zkh rfl]
    show List.Perm (x.Batch++x.Obj::yH (Yk 3 (zJ s.H x.Obj x.Slot) m)) _
    rw [g5]
 ·intro c;unfold zap;dsimp only
  obtain ⟨G,gm,g0⟩:=K.p37 c
  obtain ⟨M,h5o,hn1⟩:=W.g (.inr c)
  have eo:va x=xB x.G:=zdg (.inr c)
  have hh:yb s x=x.Batch++x.Obj::yH x.G:=by unfold yb;rw [zkh c]
  rw [eo] at X
  obtain ⟨gh',X',G',Fx,hc',hFb,N,hN,hT⟩:=zr9 hp hk X M h5o G
  have so:=WV s x.G
  have Fx':FX p nb (va x) (fun _=>False) s (zp s x.G).1 gh gh':=by rw [eo];exact Fx.mono (fun v e=>by have:=e.1;omega)
  have hT':(N=[]∧([]:List Int)=[]∧(zp s x.G).1.T=s.T)∨(N=[x.G.Obj]∧([]:List Int)=[]∧(x.PC=3∨x.PC=37)∧¬(s.T.Marks|||bit x.G.Obj=s.T.Marks)∧(zp s x.G).1.T={s.T with Marks:=s.T.Marks|||bit x.G.Obj}):=by
   rcases hT with ⟨a,b⟩ | ⟨a,b,c'⟩
   ·exact .inl ⟨a,rfl,b⟩
   ·exact .inr ⟨a,rfl,.inr c,b,c'⟩
  have perm: ∀H':List Int,H'=x.Batch++x.Obj::yH (zp s x.G).2→List.Perm (yt p (zp s x.G).1 gh'++H'++[]) (N++(yt p s gh++yb s x)):=by
   intro H' e
   rw [e,hh,List.append_nil]
   have a1:List.Perm (yt p (zp s x.G).1 gh'++(x.Batch++x.Obj::yH (zp s x.G).2)) ((x.Batch++[x.Obj])++(yt p (zp s x.G).1 gh'++yH (zp s x.G).2)):=by
    rw [show x.Batch++x.Obj::yH (zp s x.G).2=(x.Batch++[x.Obj])++yH (zp s x.G).2 by simp]
    exact List.perm_append_comm_assoc _ _ _
   have a2:List.Perm (N++(yt p s gh++(x.Batch++x.Obj::yH x.G))) ((x.Batch++[x.Obj])++(N++(yt p s gh++yH x.G))):=by
    rw [show x.Batch++x.Obj::yH x.G=(x.Batch++[x.Obj])++yH x.G by simp]
    exact (List.Perm.append_left N (List.perm_append_comm_assoc _ _ _)).trans (List.perm_append_comm_assoc _ _ _)
   exact a1.trans ((List.Perm.append_left _ hN).trans a2.symm)
  split
  ·rename_i o1
   intro S'
   have n1:xB (zp s x.G).2=[]:=wG (.inl (by omega))
   have n2:yH (zp s x.G).2=[]:=uD (.inl (by omega))
   rw [n1] at X'
   rcases zcP s x.Slot with e | e<;>rw [e]
   ·refine ⟨gh',by rw [vf (by dsimp only;omega)];exact X',MX.plain (by dsimp only;omega) (fun e=>absurd e (by show ¬(36:Int)≤33;decide)) hbf ⟨fun e=>by dsimp only at e;omega,fun e=>by dsimp only at e;omega⟩,Fx',N,[],perm _ ?_,hT'.elim .inl (fun h=> .inr (.inl h))⟩
    unfold yb;rw [Vk (.inl rfl),n2]
   ·refine ⟨gh',by rw [vf (by dsimp only;omega)];exact X',MX.plain (by dsimp only;omega) (fun e=>absurd e (by show ¬(38:Int)≤33;decide)) hbf ⟨fun e=>by dsimp only at e;omega,fun e=>by dsimp only at e;omega⟩,Fx',N,[],perm _ ?_,hT'.elim .inl (fun h=> .inr (.inl h))⟩
    unfold yb;rw [Vk (.inr rfl),n2]
  ·rename_i o1
   intro S'
   have o0:(zp s x.G).2.Out=0:=by have:=G'.o;omega
   refine ⟨gh',by rw [zdg (x:={x with G:=(zp s x.G).2}) (.inr c)];exact X',⟨fun e=>by have e:x.PC≤33:=e;omega,hbf,hol,fun e=>by have e:x.PC=3:=e;omega,fun e=>by have e:x.PC=32:=e;omega,fun e=>by have e:x.PC=34:=e;omega,fun _=>⟨G',so.2.2.trans gm,o0⟩⟩,Fx',N,[],perm _ ?_,hT'.elim .inl (fun h=> .inr (.inl h))⟩
   unfold yb;rw [zkh (x:={x with G:=(zp s x.G).2}) c]
 ·intro c S';unfold zgI at S' ⊢
  have eo:va x=[]:=vf (by omega)
  refine ⟨gh,by rw [vf (by dsimp only;omega)];rw [eo] at X;exact X.quiet S' rfl,MX.plain (by dsimp only;omega) (fun e=>absurd e (by show ¬(39:Int)≤33;decide)) hbf ⟨fun e=>by dsimp only at e;omega,fun e=>by dsimp only at e;omega⟩,FX.quiet rfl (fun _ _ _=>rfl),[],[x.Obj],?_,.inr (.inr (.inl ⟨rfl,rfl,c,rfl⟩))⟩
  rw [Zm rfl,List.nil_append]
  unfold yb
  rw [Vk (.inr c),uk (by dsimp only;omega),List.append_nil,List.append_assoc]
  exact List.Perm.refl _
 ·intro c S';unfold zgC at S' ⊢
  exact .calm X S' rfl rfl rfl (by omega) (by dsimp only;omega) rfl (fun e=>absurd e (by show ¬(35:Int)≤33;decide)) hbf ⟨fun e=>by dsimp only at e;omega,fun e=>by dsimp only at e;omega⟩
 ·intro S'
  exact ⟨gh,X.quiet S' rfl,K,FX.quiet rfl (fun _ _ _=>rfl),[],[],by rw [List.append_nil];exact List.Perm.refl _,.inl ⟨rfl,rfl,rfl⟩⟩
end
end Go.Pe.G
namespace Go.Pe.G
open Go.Pe
noncomputable section
theorem zob {o:Int} (h:1≤o∧o≤64) (j:Nat):(bit o).getLsbD j=decide ((o-1).toNat=j):=by
 unfold bit
 rw [if_pos h,←BitVec.twoPow_eq,BitVec.getLsbD_twoPow,decide_eq_true (by omega:(o-1).toNat<64),Bool.true_and]
theorem vF (s:BitVec 64) (o:Int):zO s o=true↔1≤o∧o≤64∧s.getLsbD (o-1).toNat=true:=by
 unfold zO
 rw [Bool.not_eq_true',decide_eq_false_iff_not]
 by_cases h:1≤o∧o≤64
 ·constructor
  ·intro h1
   refine ⟨h.1,h.2,Classical.byContradiction (fun h2=>h1 ?_)⟩
   apply BitVec.eq_of_getLsbD_eq
   intro j hj
   rw [BitVec.getLsbD_and,zob h,BitVec.getLsbD_zero]
   by_cases e:(o-1).toNat=j
   ·rw [←e];simp only [Bool.not_eq_true] at h2;rw [h2];rfl
   ·rw [decide_eq_false e,Bool.and_false]
  ·rintro ⟨_,_,h1⟩ h2
   have:=congrArg (fun v=>BitVec.getLsbD v (o-1).toNat) h2
   simp only [BitVec.getLsbD_and,zob h,h1,BitVec.getLsbD_zero] at this
   simp at this
 ·constructor
  ·intro h1
   exact absurd (by unfold bit;rw [if_neg h,BitVec.and_zero]) h1
  ·rintro ⟨a,b,_⟩;exact absurd ⟨a,b⟩ h
theorem wF (s:BitVec 64) {o:Int} (h:1≤o∧o≤64) (q:Int):zO (s|||bit o) q=true↔zO s q=true∨q=o:=by
 rw [vF,vF,BitVec.getLsbD_or,zob h]
 simp only [Bool.or_eq_true,decide_eq_true_eq]
 constructor
 ·rintro ⟨a,b,c | c⟩
  ·exact .inl ⟨a,b,c⟩
  ·exact .inr (by omega)
 ·rintro (⟨a,b,c⟩ | rfl)
  ·exact ⟨a,b,.inl c⟩
  ·exact ⟨h.1,h.2,.inr rfl⟩
theorem zcj (s t:BitVec 64) (q:Int):zO (s&&&t) q=true↔zO s q=true∧zO t q=true:=by
 rw [vF,vF,vF,BitVec.getLsbD_and]
 simp only [Bool.and_eq_true]
 constructor
 ·rintro ⟨a,b,c,d⟩;exact ⟨⟨a,b,c⟩,a,b,d⟩
 ·rintro ⟨⟨a,b,c⟩,_,_,d⟩;exact ⟨a,b,c,d⟩
theorem zc1 (q:Int): ¬zO 0#64 q=true:=by
 rw [vF,BitVec.getLsbD_zero];exact fun h=>by cases h.2.2
theorem zvI {s t:BitVec 64} (h: ∀o,zO s o=true↔zO t o=true):s=t:=by
 apply BitVec.eq_of_getLsbD_eq
 intro j hj
 have:=h ((j:Int)+1)
 rw [vF,vF,show ((j:Int)+1-1).toNat=j by omega] at this
 rw [Bool.eq_iff_iff]
 exact ⟨fun e=>(this.1 ⟨by omega,by omega,e⟩).2.2,fun e=>(this.2 ⟨by omega,by omega,e⟩).2.2⟩
theorem Ut {m:BitVec 64} {o:Int} (h:1≤o∧o≤64): ¬(m|||bit o=m)↔¬zO m o=true:=by
 constructor
 ·intro h1 h2
  refine h1 (zvI (fun q=> ?_))
  rw [wF _ h]
  exact ⟨fun e=>e.elim id (fun e=>by rw [e];exact h2),.inl⟩
 ·intro h1 h2
  refine h1 ?_
  rw [←h2,wF _ h];exact .inr rfl
theorem uQ (t:zo) (o:Int):xg t o=1↔zO t.Marks o=true∧¬zO t.Black o=true:=by
 unfold xg
 by_cases h1:zO (t.Marks&&&t.Black) o=true
 ·rw [if_pos h1]
  rw [zcj] at h1
  exact ⟨fun e=>(by cases e),fun e=>absurd h1.2 e.2⟩
 ·rw [if_neg h1]
  rw [zcj] at h1
  by_cases h2:zO t.Marks o=true
  ·rw [if_pos h2];exact ⟨fun _=>⟨h2,fun e=>h1 ⟨h2,e⟩⟩,fun _=>rfl⟩
  ·rw [if_neg h2];exact ⟨fun e=>(by cases e),fun e=>absurd e.1 h2⟩
end
end Go.Pe.G
namespace Go.Pe.G
open Go.Pe
noncomputable section
theorem zlo {α:Type} {l:List α} {i:Nat} {x:α} (h:l[i]? =some x): ∃a b,l=a++x::b∧(∀y,l.set i y=a++y::b)∧(∀z∈a++b,∃j,j≠i∧l[j]? =some z) ∧
  (∀j z,j≠i→l[j]? =some z→z∈a++b):=by
 obtain ⟨hi,e⟩:=List.getElem?_eq_some_iff.1 h
 have hl:(l.take i).length=i:=by rw [List.length_take];omega
 have el:l=l.take i++x::l.drop (i+1):=by
  conv=>lhs;rw [←List.take_append_drop i l,List.drop_eq_getElem_cons hi,e]
 refine ⟨l.take i,l.drop (i+1),el,fun y=> ?_,fun z hz=> ?_,fun j z hj hz=> ?_⟩
 ·rw [List.set_eq_take_append_cons_drop,if_pos hi]
 ·rcases List.mem_append.1 hz with hz | hz
  ·obtain ⟨j,hj⟩:=List.mem_iff_getElem?.1 hz
   obtain ⟨hj1,hj2⟩:=List.getElem?_eq_some_iff.1 hj
   have hj3:j<i:=by omega
   exact ⟨j,by omega,by rw [List.getElem?_take_of_lt hj3] at hj;exact hj⟩
  ·obtain ⟨j,hj⟩:=List.mem_iff_getElem?.1 hz
   exact ⟨i+1+j,by omega,by rw [List.getElem?_drop] at hj;exact hj⟩
 ·rw [el] at hz
  rcases Nat.lt_or_ge j i with h1 | h1
  ·rw [List.getElem?_append_left (by omega)] at hz
   exact List.mem_append_left _ (List.mem_of_getElem? hz)
  ·rw [List.getElem?_append_right (by omega),hl] at hz
   rw [show j-i=(j-i-1)+1 by omega,List.getElem?_cons_succ] at hz
   exact List.mem_append_right _ (List.mem_of_getElem? hz)
theorem uu {α β:Type} {f:α→List β} {a b:List α} {x:α}:List.Perm ((a++x::b).flatMap f) (f x++(a++b).flatMap f):=by
 rw [List.flatMap_append,List.flatMap_cons,List.flatMap_append]
 exact List.perm_append_comm_assoc _ _ _
theorem SX.perm {p:zb} {nb k:Nat} {s:za} {g:Gh} {o o':List Int} (X:SX p nb s g o k) (h:List.Perm o' o):SX p nb s g o' k :=
 ⟨X.S,⟨X.L.hs,X.L.cF,X.L.cE,(List.Perm.append_left _ h).trans X.L.all,X.L.len⟩,X.D,X.v,X.dk⟩
theorem SX.state {p:zb} {nb k:Nat} {s s':za} {g:Gh} {o:List Int} (X:SX p nb s g o k) (S':SOk p nb s') (hm:s'.M=s.M):SX p nb s' g o k :=
 ⟨S',by rw [hm];exact X.L,by rw [hm];exact X.D,by rw [hm];exact X.v,X.dk⟩
theorem GX.state {p:zb} {s s':za} {gh:Gh} {g:zy} (G:GX p s gh g) (hm:s'.M=s.M) (hb:s'.Bins=s.Bins):GX p s' gh g :=
 ⟨G.o,G.pc,G.md,G.ob,G.c0,by rw [hm];exact G.c5,by rw [hm,hb];exact G.c7,by rw [hm];exact G.d3⟩
theorem WX.state {p:zb} {s s':za} {gh:Gh} {w:Int} {x:ze} (W:WX p s gh w x) (hm:s'.M=s.M) (hb:s'.Bins=s.Bins):WX p s' gh w x :=
 ⟨W.c0,W.bt,by rw [hm];exact W.p0,by rw [hm];exact W.p1,by rw [hm];exact W.p2,by rw [hm];exact W.p4,fun e=>⟨(W.p6 e).1.state hm hb,(W.p6 e).2⟩⟩
theorem zgZ {s s':za} {x:ze} (hm:s'.M=s.M) (hb:s'.Bins=s.Bins):zL s' x=zL s x:=by
 unfold zL Vy xj;rw [hm,hb]
def zjR (p:zb) (s:za) (g:Gh):List Int:=yt p s g++s.Ws.flatMap (zL s)
structure VT (B:List Int) (t:zo):Prop where
 blk: ∀o,zO t.Black o=true→zO t.Marks o=true
 nd:B.Nodup
 gr: ∀o,o∈B↔xg t o=1
theorem zbf {t:zo} {o:Int} (h:xg t o=1):1≤o∧o≤64:=by
 have:=(vF _ _).1 ((uQ t o).1 h).1
 exact ⟨this.1,this.2.1⟩
theorem VT.more {B B':List Int} {t:zo} {o:Int} (K:VT B t) (ho:1≤o∧o≤64) (hn: ¬(t.Marks|||bit o=t.Marks)) (h:List.Perm B' (o::B)):VT B' {t with Marks:=t.Marks|||bit o}:=by
 have hn:=(Ut ho).1 hn
 have hnb: ¬zO t.Black o=true:=fun e=>hn (K.blk o e)
 have hno:o∉B:=fun e=>hn ((uQ t o).1 ((K.gr o).1 e)).1
 refine ⟨fun q hq=>(wF _ ho q).2 (.inl (K.blk q hq)),h.nodup_iff.2 (List.nodup_cons.2 ⟨hno,K.nd⟩),fun q=> ?_⟩
 rw [h.mem_iff,List.mem_cons,K.gr,uQ,uQ]
 show q=o∨_↔zO (t.Marks|||bit o) q=true∧¬zO t.Black q=true
 rw [wF _ ho]
 constructor
 ·rintro (rfl | ⟨a,b⟩)
  ·exact ⟨.inr rfl,hnb⟩
  ·exact ⟨.inl a,b⟩
 ·rintro ⟨a | a,b⟩
  ·exact .inr ⟨a,b⟩
  ·exact .inl a
theorem VT.less {B B':List Int} {t:zo} {o:Int} (K:VT B t) (h:List.Perm (B'++[o]) B):VT B' (vq t o)∧(vq t o).Marks=t.Marks∧xg t o=1∧∀q,zO (vq t o).Black q=true↔zO t.Black q=true∨q=o:=by
 have ho:xg t o=1:=(K.gr o).1 (h.mem_iff.1 (by simp))
 have hr:=zbf ho
 have hm:=((uQ t o).1 ho)
 have hnd:=h.nodup_iff.2 K.nd
 have hnd:=List.nodup_append.1 hnd
 unfold vq
 rw [if_pos ho]
 refine ⟨⟨fun q hq=> ?_,hnd.1,fun q=> ?_⟩,rfl,ho,fun q=>wF _ hr q⟩
 ·rcases (wF _ hr q).1 hq with e | e
  ·exact K.blk q e
  ·rw [e];exact hm.1
 ·have e1:q∈B↔q∈B'∨q=o:=by rw [←h.mem_iff,List.mem_append,List.mem_singleton]
  rw [K.gr,uQ] at e1
  rw [uQ]
  show _↔zO t.Marks q=true∧¬zO (t.Black|||bit o) q=true
  rw [wF _ hr]
  constructor
  ·intro hq
   have:=e1.2 (.inl hq)
   exact ⟨this.1,fun e=>e.elim this.2 (fun e=>hnd.2.2 q hq o (by simp) e)⟩
  ·rintro ⟨a,b⟩
   rcases e1.1 ⟨a,fun e=>b (.inl e)⟩ with e | e
   ·exact e
   ·exact absurd (.inr e) b
theorem HOk.get {p:zb} (hp:zE p) {h:zC} (H:HOk p h) (o i:Int):0≤zJ h o i∧zJ h o i≤64:=by
 have h1:=H.n
 have h2:p.Most≤64:=by have:=hp.most;have:=hp.n;omega
 unfold zJ
 split
 ·unfold yv
  rw [List.getD_eq_getElem?_getD,List.getD_eq_getElem?_getD]
  cases hx:h.Objs[(o-1).toNat]? with
  | none=>show 0≤(([]:List Int)[i.toNat]?).getD 0∧_;simp
  | some l =>
   show 0≤(l[i.toNat]?).getD 0∧(l[i.toNat]?).getD 0≤64
   cases hv:l[i.toNat]? with
   | none=>show (0:Int)≤0∧(0:Int)≤64;decide
   | some v =>
    have:=(H.objs l (List.mem_of_getElem? hx)).2 v (List.mem_of_getElem? hv)
    show 0≤v∧v≤64;omega
 ·exact ⟨by decide,by decide⟩
structure WG (p:zb) (nb k:Nat) (s:za) (gh:Gh):Prop where
 E:EOk p nb s
 X:SX p nb s gh (s.Ws.flatMap xA) k
 W: ∀(i:Nat) x,s.Ws[i]? =some x→WX p s gh ((i:Int)+1) x
 B:VT (zjR p s gh) s.T
def zxi (s s':za) (w:Int):Prop :=
 s'.T=s.T∨(∃x o,s.Ws[(w-1).toNat]? =some x∧x.PC=6∧o=x.G.Obj∧(1≤o∧o≤64)∧¬zO s.T.Marks o=true∧s'.T={s.T with Marks:=s.T.Marks|||bit o}) ∨
  (∃x,s.Ws[(w-1).toNat]? =some x∧x.PC=8∧xg s.T x.Obj=1∧s'.T={s.T with Black:=s.T.Black|||bit x.Obj})
theorem WG.step {p:zb} (hp:zE p) {nb k:Nat} {s:za} {gh:Gh} (hk:k<4294960000) (G:WG p nb k s gh) {w:Int} (hw:1≤w∧w≤p.Workers) (hd:s.Done=false): ∃gh',WG p nb (k+1) (zN s w) gh'∧zxi s (zN s w) w:=by
 have hE:=ziH hp G.E w
 have hwl:=G.E.wl
 have e0: ¬(s.Done=true∨w<1∨(s.Ws.length:Int)<w):=by rw [hd];rintro (e | e | e)<;>first | cases e | omega
 revert hE
 unfold zN
 rw [if_neg e0]
 have hi:(w-1).toNat<s.Ws.length:=by omega
 have hx:=List.getElem?_eq_getElem hi
 generalize s.Ws[(w-1).toNat]=x at hx
 rw [hx]
 dsimp only
 intro hE
 obtain ⟨a,b,el,es,hab,hba⟩:=zlo hx
 have ei:(((w-1).toNat:Nat):Int)+1=w:=by omega
 have hWX:=G.W _ x hx
 have hWO:=G.E.W _ x hx
 rw [ei] at hWX hWO
 have X0:SX p nb s gh (xA x++(a++b).flatMap xA) k:=G.X.perm (by rw [el];exact uu.symm)
 obtain ⟨gh',X',W',Fx,N,C,hN,hT⟩:=zvv hp hk hw X0 hWO hWX (fun o i=>G.E.H.get hp o i)
 have hoth: ∀(j:Nat) y,j≠(w-1).toNat→s.Ws[j]? =some y→WX p (zi s w x).1 gh' ((j:Int)+1) y∧zL (zi s w x).1 y=zL s y:=by
  intro j y hj hy
  have hjl:=(List.getElem?_eq_some_iff.1 hy).1
  exact WX.other hp (w:=(j:Int)+1) (by omega) X0 Fx (G.W j y hy) (G.E.W j y hy) (fun z hz=>List.mem_flatMap.2 ⟨y,hba j y hj hy,hz⟩) (fun e=>hj (by omega))
 have hbag:List.Perm (zjR p {(zi s w x).1 with Ws:=s.Ws.set (w-1).toNat (zi s w x).2} gh'++C) (N++zjR p s gh):=by
  unfold zjR
  have q1:yt p {(zi s w x).1 with Ws:=s.Ws.set (w-1).toNat (zi s w x).2} gh'=yt p (zi s w x).1 gh':=rfl
  have q2:(s.Ws.set (w-1).toNat (zi s w x).2).flatMap (zL {(zi s w x).1 with Ws:=s.Ws.set (w-1).toNat (zi s w x).2})=(a++(zi s w x).2::b).flatMap (zL (zi s w x).1):=by
   rw [es];exact wW (fun y _=>zgZ rfl rfl)
  have q3:(a++b).flatMap (zL (zi s w x).1)=(a++b).flatMap (zL s):=wW (fun y hy=>by
   obtain ⟨j,hj,hjy⟩:=hab y hy
   exact (hoth j y hj hjy).2)
  rw [q1]
  show List.Perm (yt p (zi s w x).1 gh'++(s.Ws.set (w-1).toNat (zi s w x).2).flatMap (zL {(zi s w x).1 with Ws:=s.Ws.set (w-1).toNat (zi s w x).2})++C) _
  rw [q2]
  have r1:List.Perm (yt p (zi s w x).1 gh'++(a++(zi s w x).2::b).flatMap (zL (zi s w x).1)++C) ((a++b).flatMap (zL s)++(yt p (zi s w x).1 gh'++zL (zi s w x).1 (zi s w x).2++C)):=by
   refine ((List.Perm.append_left _ uu).append_right C).trans ?_
   rw [q3,List.append_assoc,List.append_assoc,List.append_assoc]
   refine (List.perm_append_comm_assoc _ _ _).trans ?_
   refine (List.Perm.append_left _ (List.perm_append_comm_assoc _ _ _)).trans ?_
   refine (List.perm_append_comm_assoc _ _ _).trans (List.Perm.append_left _ ?_)
   exact List.perm_append_comm_assoc _ _ _
  have r2:List.Perm (N++(yt p s gh++s.Ws.flatMap (zL s))) ((a++b).flatMap (zL s)++(N++(yt p s gh++zL s x))):=by
   conv=>lhs;rw [el]
   refine (List.Perm.append_left _ (List.Perm.append_left _ uu)).trans ?_
   refine (List.Perm.append_left _ ?_).trans (List.perm_append_comm_assoc _ _ _)
   rw [←List.append_assoc]
   exact List.perm_append_comm
  exact r1.trans ((List.Perm.append_left _ hN).trans r2.symm)
 have fin:VT (zjR p {(zi s w x).1 with Ws:=s.Ws.set (w-1).toNat (zi s w x).2} gh') (zi s w x).1.T→WG p nb (k+1) {(zi s w x).1 with Ws:=s.Ws.set (w-1).toNat (zi s w x).2} gh':=by
  intro hB
  refine ⟨hE,?_,fun j y hy=> ?_,hB⟩
  ·refine (X'.state hE.S rfl).perm ?_
   show List.Perm ((s.Ws.set (w-1).toNat (zi s w x).2).flatMap xA) _
   rw [es];exact uu
  ·have hy:(s.Ws.set (w-1).toNat (zi s w x).2)[j]? =some y:=hy
   by_cases hj:j=(w-1).toNat
   ·subst hj
    rw [List.getElem?_set_self hi] at hy
    injection hy with hy
    rw [←hy,ei]
    exact W'.state rfl rfl
   ·rw [List.getElem?_set_ne (fun e=>hj e.symm)] at hy
    exact (hoth j y hj hy).1.state rfl rfl
 refine ⟨gh',?_⟩
 rcases hT with ⟨rfl,rfl,t1⟩ | ⟨rfl,rfl,t1,t2,t3⟩ | ⟨rfl,rfl,t1,t2⟩
 ·rw [List.append_nil,List.nil_append] at hbag
  refine ⟨fin ⟨?_,hbag.nodup_iff.2 G.B.nd,fun o=> ?_⟩,.inl t1⟩
  ·rw [t1];exact G.B.blk
  ·rw [t1,hbag.mem_iff];exact G.B.gr o
 ·have ho:=((hWX.p6 t1).1).ob
  rw [List.append_nil] at hbag
  refine ⟨fin ?_,.inr (.inl ⟨x,x.G.Obj,hx,t1,rfl,ho,(Ut ho).1 t2,t3⟩)⟩
  rw [t3]
  exact G.B.more ho t2 hbag
 ·rw [List.nil_append] at hbag
  obtain ⟨b1,b2,b3,b4⟩:=G.B.less hbag
  refine ⟨fin ?_,.inr (.inr ⟨x,hx,t1,b3,?_⟩)⟩
  ·rw [t2];exact b1
  ·show (zi s w x).1.T=_
   rw [t2];unfold vq;rw [if_pos b3]
end
end Go.Pe.G
namespace Go.Pe.G
open Go.Pe
noncomputable section
theorem zid {N:Int} {nb:Nat} (hN:0≤N∧N<1000) (hnb:nb<1000): ∀(l:List Int) (m:List (BitVec 64)) (a:Int),(∀x∈l,1≤x∧x<nb)→(∀x∈l,a≠N+x)→ld (links m N l) a=ld m a
 | [],m,a,_,_=>rfl
 | [x],m,a,h,h2=>by
  have:=h x (by simp)
  have:=h2 x (by simp)
  rw [links,xm (by omega) (by omega)]
  exact yq (by omega)
 | x::y::l,m,a,h,h2=>by
  have:=h x (by simp)
  have:=h2 x (by simp)
  rw [links,zid hN hnb (y::l) _ a (fun z hz=>h z (List.mem_cons_of_mem _ hz)) (fun z hz=>h2 z (List.mem_cons_of_mem _ hz)),xm (by omega) (by omega)]
  exact yq (by omega)
theorem zjw {N:Int} {nb:Nat} (hN:0≤N∧N<1000) (hnb:nb<1000): ∀(l:List Int) (m:List (BitVec 64)),(∀x∈l,1≤x∧x<nb)→l.Nodup→N+nb≤m.length→Chn (links m N l) N nb (l.headD 0) l
 | [],m,_,_,_=>rfl
 | [x],m,h,_,hl=>by
  have:=h x (by simp)
  refine ⟨rfl,this.1,this.2,?_⟩
  rw [links,xm (by omega) (by omega),Xd,if_pos ⟨rfl,by omega,by omega⟩]
  rfl
 | x::y::l,m,h,hd,hl=>by
  have hx:=h x (by simp)
  have hy:=h y (by simp)
  have hd:=List.nodup_cons.1 hd
  refine ⟨rfl,hx.1,hx.2,?_⟩
  have ih:=zjw hN hnb (y::l) (st m (wc (N+x)) (BitVec.ofInt 64 y)) (fun z hz=>h z (List.mem_cons_of_mem _ hz)) hd.2 (by rw [u6];exact hl)
  rw [links,zid hN hnb (y::l) _ (N+x) (fun z hz=>h z (List.mem_cons_of_mem _ hz)) (fun z hz e=>hd.1 (by rw [zhN e] at hz;exact hz)),xm (by omega) (by omega),Xd,if_pos ⟨rfl,by omega,by omega⟩,toInt_ofInt (by omega) (by omega)]
  rw [xm (by omega) (by omega)] at ih
  exact ih
theorem Chn.links {N:Int} {nb:Nat} (hN:0≤N∧N<1000) (hnb:nb<1000) {l r:List Int} {h:Int} {m:List (BitVec 64)} (hr: ∀x∈r,1≤x∧x<nb) (hd: ∀x∈l,x∉r) (c:Chn m N nb h l):Chn (Go.Pe.G.links m N r) N nb h l:=by
 induction l generalizing h with
 | nil=>exact c
 | cons y l ih =>
  refine ⟨c.1,c.2.1,c.2.2.1,?_⟩
  rw [zid hN hnb r m (N+y) hr (fun z hz e=>hd y (by simp) (by rw [zhN e] at hz;exact hz))]
  exact ih (fun x hx=>hd x (List.mem_cons_of_mem _ hx)) c.2.2.2
theorem zpM {l:List Int} {nb:Nat} (h: ∀x∈l,1≤x∧x<nb) (hnb:nb<1000):0≤l.headD 0∧l.headD 0<4294967296:=by
 cases l with
 | nil=>exact ⟨by decide,by decide⟩
 | cons a r=>have:=h a (by simp);show 0≤a∧a<4294967296;omega
theorem ztw {p:zb} (h:zE p):LI p (zT p+1) (wg p).M (zZ p) (zD p) ((xh (zT p)).take (yW p).length) ((xh (zT p)).drop (yW p).length) []∧xd (ld (wg p).M (zZ p))=0∧xd (ld (wg p).M (zD p))=0:=by
 have hb:=zav h
 have hF:=uI h
 have hE:=xW h
 have hcl:=WR p p.Workers.toNat
 have hw:=h.wk
 have hc:=h.cap
 have hfe:zZ p=((p.Workers.toNat*(p.Cap.toNat+2):Nat):Int):=by
  rw [hF.1]
  have e1:p.Workers=((p.Workers.toNat:Nat):Int):=by omega
  have e2:p.Cap+2=((p.Cap.toNat+2:Nat):Int):=by omega
  rw [e2,Int.natCast_mul]
  rw [←e1]
 have hN:0≤zD p∧zD p<1000:=by omega
 have hnb:zT p+1<1000:=by omega
 generalize hk:(yW p).length=k
 have t1: ∀x∈(xh (zT p)).take k,1≤x∧x<((zT p+1:Nat):Int):=fun x hx=>by have:=zcn (List.mem_of_mem_take hx);omega
 have t2: ∀x∈(xh (zT p)).drop k,1≤x∧x<((zT p+1:Nat):Int):=fun x hx=>by have:=zcn (List.mem_of_mem_drop hx);omega
 have nd:((xh (zT p)).take k++(xh (zT p)).drop k).Nodup:=by rw [List.take_append_drop];exact zkU (zT p+1)
 have nd3:=List.nodup_append.1 nd
 have eM:(wg p).M=zai (zai (ZG p p.Workers.toNat++List.replicate (2+zT p) 0#64) (zZ p) (zD p) ((xh (zT p)).take k)) (zD p) (zD p) ((xh (zT p)).drop k):=by rw [←hk];rfl
 rw [eM]
 generalize hm0:ZG p p.Workers.toNat++List.replicate (2+zT p) 0#64=m0
 have l0:zD p+((zT p+1:Nat):Int)≤m0.length:=by
  rw [←hm0,List.length_append,hcl,List.length_replicate];omega
 have p1:=zpM t1 hnb
 have p2:=zpM t2 hnb
 have v0: ∀n:Int,0≤n→n<4294967296→xd (yV 0#64 n)=0:=fun n h1 h2=>by
  unfold xd;rw [zm2 _ h1 h2];show (0*4294967296+n.toNat)/4294967296=0;omega
 have c1:=zjw hN hnb _ m0 t1 nd3.1 l0
 generalize hm1:links m0 (zD p) ((xh (zT p)).take k)=m1 at c1
 have l1:m1.length=m0.length:=by rw [←hm1,zaz]
 have c1':=(c1.st_head h (a:=zZ p) (v:=yV 0#64 (((xh (zT p)).take k).headD 0)) (.inl rfl)).links hN hnb t2 (fun x hx hx2=>nd3.2.2 x hx x hx2 rfl)
 have c2:=zjw hN hnb _ (st m1 (zZ p) (yV 0#64 (((xh (zT p)).take k).headD 0))) t2 nd3.2.1 (by rw [u6,l1];exact l0)
 have hd1:ld (links (st m1 (zZ p) (yV 0#64 (((xh (zT p)).take k).headD 0))) (zD p) ((xh (zT p)).drop k)) (zZ p)=yV 0#64 (((xh (zT p)).take k).headD 0):=by
  rw [zid hN hnb _ _ _ t2 (fun x hx=>by have:=t2 x hx;omega),Xd,if_pos ⟨rfl,by omega,by omega⟩]
 unfold zai
 rw [hm1]
 generalize hm2:links (st m1 (zZ p) (yV 0#64 (((xh (zT p)).take k).headD 0))) (zD p) ((xh (zT p)).drop k)=m2 at c1' c2 hd1
 have l2:m2.length=m0.length:=by rw [←hm2,zaz,u6,l1]
 have g1:ld (st m2 (zD p) (yV 0#64 (((xh (zT p)).drop k).headD 0))) (zZ p)=yV 0#64 (((xh (zT p)).take k).headD 0):=by rw [yq (by omega),hd1]
 have g2:ld (st m2 (zD p) (yV 0#64 (((xh (zT p)).drop k).headD 0))) (zD p)=yV 0#64 (((xh (zT p)).drop k).headD 0):=by rw [Xd,if_pos ⟨rfl,by omega,by omega⟩]
 refine ⟨⟨.inl ⟨rfl,rfl⟩,?_,?_,?_,by rw [u6,l2];exact l0⟩,?_,?_⟩
 ·rw [g1,zaI _ p1.1 p1.2]
  exact c1'.st_head h (.inr rfl)
 ·rw [g2,zaI _ p2.1 p2.2]
  exact c2.st_head h (.inr rfl)
 ·rw [List.append_nil,List.take_append_drop]
  exact List.Perm.refl _
 ·rw [g1];exact v0 _ p1.1 p1.2
 ·rw [g2];exact v0 _ p2.1 p2.2
end
end Go.Pe.G
namespace Go.Pe.G
open Go.Pe
noncomputable section
theorem zjG {N:Int} (hN:0≤N∧N<1000): ∀(l:List Int) (m:List (BitVec 64)) (a:Int),(∀x∈l,1≤x∧x<1000)→a≤N→ld (links m N l) a=ld m a
 | [],m,a,_,_=>rfl
 | [x],m,a,h,h2=>by
  have:=h x (by simp)
  rw [links,xm (by omega) (by omega)]
  exact yq (by omega)
 | x::y::l,m,a,h,h2=>by
  have:=h x (by simp)
  rw [links,zjG hN (y::l) _ a (fun z hz=>h z (List.mem_cons_of_mem _ hz)) h2,xm (by omega) (by omega)]
  exact yq (by omega)
theorem zvQ {p:zb} (h:zE p) {a:Int} (ha:a<zZ p):ld (wg p).M a=ld (ZG p p.Workers.toNat++List.replicate (2+zT p) 0#64) a:=by
 have hb:=zav h
 have hF:=uI h
 have hE:=xW h
 have t1: ∀x∈(xh (zT p)).take (yW p).length,1≤x∧x<1000:=fun x hx=>by have:=zcn (List.mem_of_mem_take hx);omega
 have t2: ∀x∈(xh (zT p)).drop (yW p).length,1≤x∧x<1000:=fun x hx=>by have:=zcn (List.mem_of_mem_drop hx);omega
 show ld (zai (zai _ (zZ p) (zD p) _) (zD p) (zD p) _) a=_
 unfold zai
 rw [yq (by omega),zjG (by omega) _ _ _ t2 (by omega),yq (by omega),zjG (by omega) _ _ _ t1 (by omega)]
theorem zoQ (p:zb): ∀(k i j:Nat),i<k→j<p.Cap.toNat+2→(ZG p k)[i*(p.Cap.toNat+2)+j]? =(zde p.Cap)[j]?
 | 0,i,j,h,_=>by omega
 | k+1,i,j,h,hj=>by
  rw [zgN]
  have hl:=WR p k
  rcases Nat.lt_or_ge i k with h1 | h1
  ·have h2:=Nat.mul_le_mul_right (p.Cap.toNat+2) (show i+1≤k from h1)
   rw [Nat.succ_mul] at h2
   rw [List.getElem?_append_left (by omega)]
   exact zoQ p k i j h1 hj
  ·have:i=k:=by omega
   subst this
   rw [List.getElem?_append_right (by omega),hl,show i*(p.Cap.toNat+2)+j-i*(p.Cap.toNat+2)=j by omega]
theorem zqD {p:zb} (h:zE p) {w:Int} (hw:1≤w∧w≤p.Workers) {j:Nat} (hj:j<2):ld (wg p).M (zS p w+j)=1#64:=by
 have hd:=Z1 h hw.1 hw.2
 have hc:=h.cap
 have hl:=WR p p.Workers.toNat
 have hlt:(w-1).toNat<p.Workers.toNat:=by omega
 have e1:(zS p w+j).toNat=(w-1).toNat*(p.Cap.toNat+2)+j:=by
  obtain ⟨n,hn⟩: ∃n:Nat,w-1=(n:Int):=⟨(w-1).toNat,by omega⟩
  have e2:p.Cap+2=((p.Cap.toNat+2:Nat):Int):=by omega
  rw [hd.1,hn,e2,←Int.natCast_mul,Int.toNat_natCast]
  omega
 have h2:=Nat.mul_le_mul_right (p.Cap.toNat+2) (show (w-1).toNat+1≤p.Workers.toNat from hlt)
 rw [Nat.succ_mul] at h2
 rw [zvQ h (by omega)]
 unfold ld
 rw [if_pos (by omega),e1,List.getD_eq_getElem?_getD,List.getElem?_append_left (by omega),zoQ p _ _ _ hlt (by omega)]
 unfold zde
 match j,hj with
 | 0,_=>rfl
 | 1,_=>rfl
theorem zkP (n:Nat) (hn:1≤n): ∀(f:Nat) (l:List Int),l.length≤f→(vb n f l).flatten=l
 | 0,l,h=>by
  have:l=[]:=List.length_eq_zero_iff.1 (by omega)
  subst this;simp [vb]
 | f+1,[],_=>by simp [vb]
 | f+1,x::l,h=>by
  have:=zkP n hn f ((x::l).drop n) (by rw [List.length_drop];simp at h ⊢;omega)
  simp only [vb,List.flatten_cons] at this ⊢
  rw [this,List.take_append_drop]
theorem ztd {α:Type} (l:List (List α)):(List.range l.length).flatMap (fun i:Nat=>(l[i]?).getD [])=l.flatten:=by
 rw [List.flatMap_def]
 congr 1
 apply List.ext_getElem
 ·simp
 ·intro i h1 h2
  simp [List.getElem?_eq_getElem h2]
def gh0 (p:zb):Gh:=⟨(xh (zT p)).take (yW p).length,(xh (zT p)).drop (yW p).length,fun _=>[],fun _=>1,fun _=>0⟩
theorem zce {α β:Type} {f:α→List β}: ∀ {l:List α},(∀x∈l,f x=[])→l.flatMap f=[]
 | [],_=>rfl
 | a::l,h=>by rw [List.flatMap_cons,h a (by simp),zce (fun x hx=>h x (List.mem_cons_of_mem _ hx))];rfl
theorem zvF {p:zb} (h:zE p):yt p (wg p) (gh0 p)=W6 (ZT p):=by
 have hb:=h.bin
 have hfl:=zie h
 have hbs:=zav h
 have hmost:=h.most
 have hw:=h.wk
 have hm:=h.mt
 have e1:yt p (wg p) (gh0 p)=((xh (zT p)).take (yW p).length).flatMap (xj (wg p)):=by
  show ((xh (zT p)).take (yW p).length).flatMap (xj (wg p))++(List.range p.Workers.toNat).flatMap (fun _=>([]:List Int))=_
  rw [zce (f:=fun _=>([]:List Int)) (fun _ _=>rfl),List.append_nil]
 have e2:(xh (zT p)).take (yW p).length=(List.range (yW p).length).map (fun i:Nat=>(i:Int)+1):=by
  unfold xh
  rw [←List.map_take,List.take_range,Nat.min_eq_left (by omega)]
 rw [e1,e2,List.flatMap_map]
 have e3:(List.range (yW p).length).flatMap (fun i:Nat=>xj (wg p) ((i:Int)+1))=(List.range (yW p).length).flatMap (fun i:Nat=>((yW p)[i]?).getD []):=by
  refine wW (fun i hi=> ?_)
  have hi:=List.mem_range.1 hi
  unfold xj
  show (([[]]++yW p++List.replicate (zT p-(yW p).length) [])[((i:Int)+1).toNat]?).getD []=_
  rw [show ((i:Int)+1).toNat=i+1 by omega,List.append_assoc]
  show ((yW p++List.replicate (zT p-(yW p).length) [])[i]?).getD []=_
  rw [List.getElem?_append_left hi]
 rw [e3,ztd]
 exact zkP _ (by omega) _ _ (Nat.le_refl _)
theorem zrl (s:BitVec 64):(W6 s).Nodup:=by
 unfold W6
 rw [List.Nodup,List.pairwise_map]
 exact (List.nodup_range.filter _).imp (fun h e=>h (by omega))
theorem zsS {s:BitVec 64} (h:s&&& ~~~63#64=0#64) {j:Nat} (hs:s.getLsbD j=true):j<6:=by
 have hj:j<64:=BitVec.lt_of_getLsbD hs
 have:=congrArg (fun x=>x.getLsbD j) h
 simp only [BitVec.getLsbD_and,BitVec.getLsbD_not,hs,hj,decide_true,Bool.true_and,BitVec.getLsbD_zero] at this
 have h63:(63#64).getLsbD j=decide (j<6):=by
  have: ∀j:Fin 64,(63#64).getLsbD j.1=decide (j.1<6):=by decide
  exact this ⟨j,hj⟩
 rw [h63] at this
 by_cases e:j<6
 ·exact e
 ·rw [decide_eq_false e] at this;cases this
theorem ztJ {s:BitVec 64} (h:s&&& ~~~63#64=0#64) (o:Int):o∈W6 s↔zO s o=true:=by
 unfold W6
 rw [vF,List.mem_map]
 constructor
 ·rintro ⟨i,hi,rfl⟩
  obtain ⟨h1,h2⟩:=List.mem_filter.1 hi
  have:=List.mem_range.1 h1
  exact ⟨by omega,by omega,by rw [show ((i:Int)+1-1).toNat=i by omega];exact h2⟩
 ·rintro ⟨h1,h2,h3⟩
  exact ⟨(o-1).toNat,List.mem_filter.2 ⟨List.mem_range.2 (zsS h h3),h3⟩,by omega⟩
theorem zwQ {p:zb} (h:zE p):WG p (zT p+1) 0 (wg p) (gh0 p):=by
 have hE:=zqv h
 obtain ⟨L,v1,v2⟩:=ztw h
 have hc:=h.cap
 have hws: ∀x∈(wg p).Ws,∃i:Nat,x=uJ p i:=fun x hx=>by
  obtain ⟨i,_,rfl⟩:=List.mem_map.1 (show x∈(List.range p.Workers.toNat).map (uJ p) from hx)
  exact ⟨i,rfl⟩
 have hb: ∀i:Nat,uJ p i=V6 p ((i:Int)+1) (uJ p i):=fun i=>rfl
 have own:(wg p).Ws.flatMap xA=[]:=zce (fun x hx=>by
  obtain ⟨i,rfl⟩:=hws x hx
  exact vz (by show (0:Int)≠3;decide) (by show (0:Int)≠4;decide) (by show (0:Int)≠6;decide))
 have hold:(wg p).Ws.flatMap (zL (wg p))=[]:=zce (fun x hx=>by
  obtain ⟨i,rfl⟩:=hws x hx
  unfold zL
  rw [hb i,ziJ];rfl)
 refine ⟨hE,⟨hE.S,by rw [own];exact L,fun w h1 h2=> ?_,?_,fun w _ _=>by show 1+0≤0+1000;decide⟩,fun i x hx=> ?_,?_⟩
 ·have c0:=zqD h ⟨h1,h2⟩ (j:=0) (by decide)
  have c1:=zqD h ⟨h1,h2⟩ (j:=1) (by decide)
  rw [show zS p w+((0:Nat):Int)=zS p w by omega] at c0
  exact ⟨c0,c1,by show (0:Nat)≤1;decide,by show (1:Nat)≤1;decide,Nat.zero_le _,by show 1+0<4294967296;decide,fun i hi=>absurd hi (Nat.not_lt_zero _)⟩
 ·rw [v1,v2];exact ⟨Nat.le_refl _,Nat.le_refl _⟩
 ·have hx:((List.range p.Workers.toNat).map (uJ p))[i]? =some x:=hx
  rw [List.getElem?_map] at hx
  cases hr:(List.range p.Workers.toNat)[i]? with
  | none=>rw [hr] at hx;cases hx
  | some j =>
   rw [hr] at hx
   injection hx with hx
   obtain ⟨h1,h2⟩:=List.getElem?_eq_some_iff.1 hr
   rw [List.getElem_range] at h2
   subst h2
   rw [←hx,hb i]
   exact WX.begin rfl rfl
 ·have hs:=zg7 h
  unfold zjR
  rw [hold,List.append_nil,zvF h]
  refine ⟨fun o ho=>absurd ho (zc1 o),zrl _,fun o=> ?_⟩
  rw [ztJ hs,uQ]
  exact ⟨fun e=>⟨e,zc1 o⟩,fun e=>e.1⟩
theorem zov (n:Nat) (hn:1≤n): ∀(f:Nat) (l c:List Int),c∈vb n f l→c≠[]
 | 0,l,c,h=>by simp [vb] at h
 | f+1,[],c,h=>by simp [vb] at h
 | f+1,x::l,c,h=>by
  simp only [vb,List.mem_cons] at h
  rcases h with h | h
  ·rw [h]
   match n,hn with
   | m+1,_=>exact List.cons_ne_nil _ _
  ·exact zov n hn f _ c h
theorem zwL {p:zb} (h:zE p): ∀y∈(gh0 p).F,xj (wg p) y≠[]:=by
 intro y hy
 have hb:=h.bin
 have hfl:=zie h
 have hbs:=zav h
 have hmost:=h.most
 have hw:=h.wk
 have hm:=h.mt
 have hy:y∈(xh (zT p)).take (yW p).length:=hy
 have e2:(xh (zT p)).take (yW p).length=(List.range (yW p).length).map (fun i:Nat=>(i:Int)+1):=by
  unfold xh
  rw [←List.map_take,List.take_range,Nat.min_eq_left (by omega)]
 rw [e2] at hy
 obtain ⟨i,hi,rfl⟩:=List.mem_map.1 hy
 have hi:=List.mem_range.1 hi
 unfold xj
 show (([[]]++yW p++List.replicate (zT p-(yW p).length) [])[((i:Int)+1).toNat]?).getD []≠[]
 rw [show ((i:Int)+1).toNat=i+1 by omega,List.append_assoc]
 show ((yW p++List.replicate (zT p-(yW p).length) [])[i]?).getD []≠[]
 rw [List.getElem?_append_left hi,List.getElem?_eq_getElem hi]
 exact zov _ (by omega) _ _ _ (List.getElem_mem hi)
end
end Go.Pe.G
namespace Go.Pe.G
open Go.Pe
noncomputable section
theorem W8 (s:za) (g:zy):(zp s g).1={s with M:=(zp s g).1.M,Bins:=(zp s g).1.Bins,T:=(zp s g).1.T,Work:=(zp s g).1.Work,Flag:=(zp s g).1.Flag}:=by
 obtain ⟨m,b,t,wk,f,e,_⟩:=zef s g
 rw [e]
theorem ziK {p:zb} {nb:Nat} {s:za} {w:Int} {x:ze} (W:WOk p nb w x):(zi s w x).1={s with M:=(zi s w x).1.M,Bins:=(zi s w x).1.Bins,T:=(zi s w x).1.T,Work:=(zi s w x).1.Work,L:=(zi s w x).1.L}:=by
 unfold zi
 split
 ·rfl
 split
 ·rfl
 split
 ·rfl
 split
 ·rfl
 split
 ·rfl
 split
 ·rename_i h6
  obtain ⟨g1,g2,g3,g4⟩:=W.g6 h6
  have hf:=(zrI s g3 g4).2
  obtain ⟨m,b,t,wk,f,e,_⟩:=zef s x.G
  dsimp only
  rw [e] at hf ⊢
  have hf:f=s.Flag:=hf
  rw [hf]
 split
 ·rfl
 split
 ·rfl
 split<;>rfl
theorem zoq (s:za) (m:Int) (x:zc):(zn s m x).1={s with H:=(zn s m x).1.H,M:=(zn s m x).1.M,Bins:=(zn s m x).1.Bins,T:=(zn s m x).1.T,Work:=(zn s m x).1.Work,Flag:=(zn s m x).1.Flag,Acks:=(zn s m x).1.Acks,L:=(zn s m x).1.L}:=by
 have g: ∀g:zy,(zp s g).1={s with H:=(zp s g).1.H,M:=(zp s g).1.M,Bins:=(zp s g).1.Bins,T:=(zp s g).1.T,Work:=(zp s g).1.Work,Flag:=(zp s g).1.Flag,Acks:=(zp s g).1.Acks,L:=(zp s g).1.L}:=fun g=>by
  obtain ⟨m,b,t,wk,f,e,_⟩:=zef s g
  rw [e]
 refine wD (motive:=fun r=>r.1={s with H:=r.1.H,M:=r.1.M,Bins:=r.1.Bins,T:=r.1.T,Work:=r.1.Work,Flag:=r.1.Flag,Acks:=r.1.Acks,L:=r.1.L}) s m x ?_ ?_ ?_ ?_ ?_ ?_ ?_ ?_ ?_ ?_ ?_ ?_ ?_ ?_ ?_ ?_ ?_ ?_ ?_ ?_
 ·exact fun _=>rfl
 ·exact fun _=>rfl
 ·exact fun _=>rfl
 ·exact fun _=>g x.G
 ·exact fun _=>rfl
 ·exact fun _=>rfl
 ·exact fun _=>rfl
 ·exact fun _=>rfl
 ·exact fun _=>rfl
 ·intro _
  unfold zao
  split
  ·split<;>rfl
  ·rfl
 ·exact fun _=>rfl
 ·exact fun _=>rfl
 ·exact fun _=>rfl
 ·exact fun _=>rfl
 ·exact fun _=>rfl
 ·exact fun _=>rfl
 ·exact fun _=>g x.G
 ·exact fun _=>rfl
 ·exact fun _=>rfl
 ·rfl
theorem zk8 {p:zb} {nb:Nat} {s:za} (E:EOk p nb s) (w:Int):zN s w={s with M:=(zN s w).M,Bins:=(zN s w).Bins,T:=(zN s w).T,Work:=(zN s w).Work,L:=(zN s w).L,Ws:=(zN s w).Ws}:=by
 unfold zN
 split
 ·rfl
 rename_i hc
 cases hx:s.Ws[(w-1).toNat]? with
 | none=>rfl
 | some x =>
  have hW:=E.W _ _ hx
  rw [show (((w-1).toNat:Nat):Int)+1=w by omega] at hW
  dsimp only
  rw [ziK hW]
structure AI (k:Int) (s:za):Prop where
 ep:0≤s.Epoch∧s.Epoch≤k
 m: ∀(i:Nat) x,s.Ms[i]? =some x→s.Acks.getD i 0≤s.Epoch∧(x.PC=2∨((x.PC=1∨x.PC=3)∧x.Ret=2)→s.Acks.getD i 0≤x.Want∧x.Want≤s.Epoch)∧(x.PC=2→x.Buf=[])
def zwY (s s':za):Prop:=∀(i:Nat) x',s'.Ms[i]? =some x'→s.Acks.getD i 0≤s'.Acks.getD i 0∧s'.Acks.getD i 0≤s'.Epoch∧(s.Acks.getD i 0<s'.Acks.getD i 0→x'.Buf=[])
theorem AI.same {k:Int} {s s':za} (A:AI k s) (e1:s'.Epoch=s.Epoch) (e2:s'.Ms=s.Ms) (e3:s'.Acks=s.Acks):AI (k+1) s'∧zwY s s':=by
 refine ⟨⟨by rw [e1];have:=A.ep;omega,by rw [e1,e2,e3];exact A.m⟩,fun i x hx=> ?_⟩
 rw [e2] at hx
 rw [e3,e1]
 exact ⟨Int.le_refl _,(A.m i x hx).1,fun e=>by omega⟩
theorem zqP {α:Type} {l:List α} {i j:Nat} {v d:α} (h:i<l.length):(l.set i v).getD j d=if i=j then v else l.getD j d:=by
 rw [List.getD_eq_getElem?_getD,List.getD_eq_getElem?_getD,List.getElem?_set]
 by_cases e:i=j
 ·rw [if_pos e,if_pos e,if_pos h];rfl
 ·rw [if_neg e,if_neg e]
end
end Go.Pe.G
namespace Go.Pe.G
open Go.Pe
noncomputable section
theorem Zd (a b:BitVec 64) (q:Int):zO (a|||b) q=true↔zO a q=true∨zO b q=true:=by
 rw [vF,vF,vF,BitVec.getLsbD_or,Bool.or_eq_true]
 constructor
 ·rintro ⟨h1,h2,h | h⟩
  ·exact .inl ⟨h1,h2,h⟩
  ·exact .inr ⟨h1,h2,h⟩
 ·rintro (⟨h1,h2,h⟩ | ⟨h1,h2,h⟩)
  ·exact ⟨h1,h2,.inl h⟩
  ·exact ⟨h1,h2,.inr h⟩
theorem zay (h:zC) (a i v:Int):(ZW h a i v).Objs.length=h.Objs.length:=by
 unfold ZW;split<;>simp
theorem zgq (h:zC):(uo h).Objs.length=h.Objs.length+1:=by unfold uo;simp
end
end Go.Pe.G
namespace Go.Pe.G
open Go.Pe
noncomputable section
theorem zmV: ∀(n:Fin 10) (j:Fin 64),(Wr (n.1:Int)).getLsbD j.1=decide (j.1<n.1):=by decide +kernel
theorem zsv {n:Nat} (hn:n≤9) (o:Int):zO (Wr (n:Int)) o=true↔1≤o∧o≤(n:Int):=by
 rw [vF]
 constructor
 ·rintro ⟨a,b,c⟩
  have:=zmV ⟨n,by omega⟩ ⟨(o-1).toNat,by omega⟩
  rw [this] at c
  have:(o-1).toNat<n:=by simpa using c
  omega
 ·rintro ⟨a,b⟩
  have:=zmV ⟨n,by omega⟩ ⟨(o-1).toNat,by omega⟩
  refine ⟨a,by omega,?_⟩
  rw [this]
  exact decide_eq_true (by show (o-1).toNat<n;omega)
end
end Go.Pe.G
namespace Go.Pe.G
open Go.Pe
noncomputable section
theorem zoR {t:zo} {o:Int} (ho:1≤o∧o≤64) (hm: ¬zO t.Marks o=true) (hb: ¬zO t.Black o=true):ui t o=({t with Marks:=t.Marks|||bit o},true):=by
 unfold ui
 rw [if_neg ((Ut ho).2 hm),if_pos]
 unfold zO at hb
 simpa using hb
theorem zuV {o q:Int} (h:zO (bit o) q=true):q=o:=by
 by_cases ho:1≤o∧o≤64
 ·have:=(wF 0#64 ho q).1 (by simpa using h)
  exact this.resolve_left (zc1 q)
 ·unfold bit at h;rw [if_neg ho] at h;exact absurd h (zc1 q)
theorem Y2 {m:BitVec 64} {o q:Int} (h:zO (m|||bit o) q=true):zO m q=true∨q=o:=((Zd _ _ _).1 h).imp id zuV
theorem zpn (t:zo) (o:Int):xg t o=2↔zO t.Marks o=true∧zO t.Black o=true:=by
 unfold xg
 cases h:zO (t.Marks&&&t.Black) o with
 | true=>simp only [if_true,true_iff];exact (zcj _ _ o).1 h
 | false =>
  have hn: ¬(zO t.Marks o=true∧zO t.Black o=true):=fun e=>by rw [(zcj _ _ o).2 e] at h;cases h
  simp only [Bool.false_eq_true,if_false]
  constructor
  ·intro e;split at e<;>omega
  ·intro e;exact absurd e hn
theorem zcZ (t:zo) (o:Int):(ui t o).1.Black=t.Black∧((ui t o).1.Marks=t.Marks∨(ui t o).1.Marks=t.Marks|||bit o):=by
 unfold ui
 split
 ·exact ⟨rfl,.inl rfl⟩
 split
 ·exact ⟨rfl,.inr rfl⟩
 ·exact ⟨rfl,.inl rfl⟩
theorem zb3 (t:zo) (o:Int):(vq t o).Marks=t.Marks∧((vq t o).Black=t.Black∨((vq t o).Black=t.Black|||bit o∧zO t.Marks o=true)):=by
 unfold vq
 split
 ·rename_i h;exact ⟨rfl,.inr ⟨rfl,((uQ t o).1 h).1⟩⟩
 ·exact ⟨rfl,.inl rfl⟩
theorem zt1 (s:za) (g:zy):(zp s g).1.T=s.T∨(zp s g).1.T=(ui s.T g.Obj).1:=by
 unfold zp
 split
 ·exact .inl rfl
 split
 ·exact .inl rfl
 split
 ·exact .inl rfl
 split
 ·exact .inl rfl
 split
 ·exact .inl rfl
 split
 ·exact .inl rfl
 split
 ·exact .inl rfl
 split
 ·exact .inr rfl
 ·exact .inl rfl
theorem zlN (s:za) (m:Int) (x:zc) :
  ((zn s m x).1.H.Objs.length=s.H.Objs.length∧((zn s m x).1.T=s.T∨((zn s m x).1.T=(ui s.T x.G.Obj).1∧(x.PC=3∨x.PC=37))∨(zn s m x).1.T=vq s.T x.Obj) ∧
   ((zn s m x).1.L=s.L∨(∃w,(zn s m x).1.L=(zgp s.L m w).1)∨(zn s m x).1.L=U9 s.L m)) ∨
  ((zn s m x).1.H=uo s.H∧(zn s m x).1.T=V4 s.T (wc (s.H.Objs.length+1))∧(zn s m x).1.L=zcX s.L m s.P.Price∧znm s.L m s.P.Price s.P.Limit=true∧zaX s.H s.P.Most=true):=by
 refine wD (motive:=fun r=>(r.1.H.Objs.length=s.H.Objs.length∧(r.1.T=s.T∨(r.1.T=(ui s.T x.G.Obj).1∧(x.PC=3∨x.PC=37))∨r.1.T=vq s.T x.Obj)∧(r.1.L=s.L∨(∃w,r.1.L=(zgp s.L m w).1)∨r.1.L=U9 s.L m)) ∨
  (r.1.H=uo s.H∧r.1.T=V4 s.T (wc (s.H.Objs.length+1))∧r.1.L=zcX s.L m s.P.Price∧znm s.L m s.P.Price s.P.Limit=true∧zaX s.H s.P.Most=true)) s m x ?_ ?_ ?_ ?_ ?_ ?_ ?_ ?_ ?_ ?_ ?_ ?_ ?_ ?_ ?_ ?_ ?_ ?_ ?_ ?_
 ·intro c;exact .inl ⟨rfl,.inl rfl,.inl rfl⟩
 ·intro c;exact .inl ⟨rfl,.inl rfl,.inl rfl⟩
 ·intro c;exact .inl ⟨rfl,.inl rfl,.inl rfl⟩
 ·intro c;unfold mu3
  refine .inl ⟨by rw [W8],(zt1 s x.G).imp id (fun h=> .inl ⟨h,.inl c⟩),.inl (by rw [W8])⟩
 ·intro c;exact .inl ⟨rfl,.inl rfl,.inl rfl⟩
 ·intro c;exact .inl ⟨rfl,.inl rfl,.inl rfl⟩
 ·intro c;exact .inl ⟨rfl,.inl rfl,.inl rfl⟩
 ·intro c;exact .inl ⟨rfl,.inl rfl,.inl rfl⟩
 ·intro c;exact .inl ⟨zay _ _ _ _,.inl rfl,.inl rfl⟩
 ·intro c;unfold zao
  split
  ·split
   ·rename_i h1 h2;exact .inr ⟨rfl,rfl,rfl,h1,h2⟩
   ·exact .inl ⟨rfl,.inl rfl,.inl rfl⟩
  ·exact .inl ⟨rfl,.inl rfl,.inl rfl⟩
 ·intro c;exact .inl ⟨rfl,.inl rfl,.inr (.inl ⟨_,rfl⟩)⟩
 ·intro c;exact .inl ⟨rfl,.inl rfl,.inl rfl⟩
 ·intro c;exact .inl ⟨rfl,.inl rfl,.inl rfl⟩
 ·intro c;exact .inl ⟨rfl,.inl rfl,.inl rfl⟩
 ·intro c;exact .inl ⟨rfl,.inl rfl,.inl rfl⟩
 ·intro c;exact .inl ⟨rfl,.inl rfl,.inl rfl⟩
 ·intro c;unfold zap
  refine .inl ⟨by rw [W8],(zt1 s x.G).imp id (fun h=> .inl ⟨h,.inr c⟩),.inl (by rw [W8])⟩
 ·intro c;exact .inl ⟨rfl,.inr (.inr rfl),.inr (.inr rfl)⟩
 ·intro c;exact .inl ⟨rfl,.inl rfl,.inl rfl⟩
 ·exact .inl ⟨rfl,.inl rfl,.inl rfl⟩
def Uw (n:Int) (x:zc):Prop:=(∀v∈x.Buf,v≤n)∧x.Old≤n∧(x.PC=3∨x.PC=37→x.G.Obj≤n)
theorem zpP {h:zC} {n:Int} (h0:0≤n) (hv: ∀l∈h.Objs,∀v∈l,v≤n) (o i:Int):zJ h o i≤n:=by
 unfold zJ
 split
 ·rw [List.getD_eq_getElem?_getD]
  cases hx:(yv h o)[i.toNat]? with
  | none=>exact h0
  | some v =>
   have hm:=List.mem_of_getElem? hx
   unfold yv at hm
   rw [List.getD_eq_getElem?_getD] at hm
   cases hy:h.Objs[(o-1).toNat]? with
   | none=>rw [hy] at hm;cases hm
   | some l=>rw [hy] at hm;exact hv l (List.mem_of_getElem? hy) v hm
 ·exact h0
theorem zoK {p:zb} {nb:Nat} {s:za} {m:Int} {x:zc} (X:XOk p nb m x) {n:Int} (h0:0≤n) (hv: ∀l∈s.H.Objs,∀v∈l,v≤n) (B:Uw n x):Uw n (zn s m x).2:=by
 obtain ⟨b1,b2,b3⟩:=B
 have no: ∀ {y:zc},(∀v∈y.Buf,v≤n)→y.Old≤n→¬(y.PC=3∨y.PC=37)→Uw n y:=fun h1 h2 h3=>⟨h1,h2,fun e=>absurd e h3⟩
 refine wD (motive:=fun r=>Uw n r.2) s m x ?_ ?_ ?_ ?_ ?_ ?_ ?_ ?_ ?_ ?_ ?_ ?_ ?_ ?_ ?_ ?_ ?_ ?_ ?_ ?_
 ·intro c;unfold mu0 zba
  repeat' split
  all_goals exact no b1 b2 (by dsimp only [setM];omega)
 ·intro c;unfold mu1;dsimp only
  split
  ·exact no b1 b2 (by have:=X.ret (.inl c);show ¬(x.Ret=3∨x.Ret=37);omega)
  ·rename_i hl
   refine ⟨fun v hv=>b1 v (List.mem_of_mem_take hv),b2,fun _=> ?_⟩
   show x.Buf.getD (x.Buf.length-1) 0≤n
   rw [List.getD_eq_getElem?_getD,List.getElem?_eq_getElem (show x.Buf.length-1<x.Buf.length by omega)]
   exact b1 _ (List.getElem_mem _)
 ·intro c;unfold mu2;exact no b1 b2 (by show ¬((0:Int)=3∨(0:Int)=37);decide)
 ·intro c;unfold mu3;dsimp only
  split
  ·exact no b1 b2 (by show ¬((1:Int)=3∨(1:Int)=37);decide)
  ·exact ⟨b1,b2,fun _=>by show (zp s x.G).2.Obj≤n;rw [(WV s x.G).1];exact b3 (.inl c)⟩
 ·intro c;unfold zhg;exact no b1 b2 (by show ¬((0:Int)=3∨(0:Int)=37);decide)
 ·intro c;unfold zeC;dsimp only
  split
  ·exact no b1 b2 (by show ¬((0:Int)=3∨(0:Int)=37);decide)
  ·exact no b1 (zpP h0 hv _ _) (by show ¬((21:Int)=3∨(21:Int)=37);decide)
 ·intro c;unfold zfk;dsimp only
  split
  ·exact no b1 h0 (by show ¬((23:Int)=3∨(23:Int)=37);decide)
  ·exact no b1 b2 (by show ¬((22:Int)=3∨(22:Int)=37);decide)
 ·intro c;unfold zeN;dsimp only
  split
  ·exact no b1 b2 (by show ¬((1:Int)=3∨(1:Int)=37);decide)
  ·refine no (fun v hv=> ?_) h0 (by show ¬((23:Int)=3∨(23:Int)=37);decide)
   rcases List.mem_append.1 hv with h | h
   ·exact b1 v h
   ·rw [List.mem_singleton.1 h];exact b2
 ·intro c;unfold zfv;exact no b1 b2 (by show ¬((0:Int)=3∨(0:Int)=37);decide)
 ·intro c;unfold zao
  split
  ·split
   ·exact no b1 b2 (by show ¬((0:Int)=3∨(0:Int)=37);decide)
   ·exact no b1 b2 (by show ¬((0:Int)=3∨(0:Int)=37);decide)
  ·exact no b1 b2 (by show ¬((31:Int)=3∨(31:Int)=37);decide)
 ·intro c;unfold zeB;dsimp only
  split
  ·exact no b1 b2 (by show ¬((32:Int)=3∨(32:Int)=37);decide)
  ·exact no b1 b2 (by show ¬((0:Int)=3∨(0:Int)=37);decide)
 ·intro c;unfold zfd;dsimp only
  split
  ·exact no b1 b2 (by show ¬((33:Int)=3∨(33:Int)=37);decide)
  split
  ·exact no b1 b2 (by show ¬((0:Int)=3∨(0:Int)=37);decide)
  ·exact no b1 b2 (by show ¬(x.PC=3∨x.PC=37);omega)
 ·intro c;unfold zgV;exact no b1 b2 (by show ¬((34:Int)=3∨(34:Int)=37);decide)
 ·intro c;unfold zfi;dsimp only
  split
  ·exact no b1 b2 (by show ¬((35:Int)=3∨(35:Int)=37);decide)
  ·exact no b1 b2 (by show ¬(x.PC=3∨x.PC=37);omega)
 ·intro c;unfold ze5;dsimp only
  split
  ·exact no b1 b2 (by show ¬((0:Int)=3∨(0:Int)=37);decide)
  ·exact no b1 b2 (by show ¬((36:Int)=3∨(36:Int)=37);decide)
 ·intro c;unfold zfh;dsimp only
  split
  ·exact no b1 b2 (by have:=zcP s (wc (x.Slot+1));show ¬(onM s (wc (x.Slot+1))=3∨onM s (wc (x.Slot+1))=37);omega)
  ·exact ⟨b1,b2,fun _=>zpP h0 hv _ _⟩
 ·intro c;unfold zap;dsimp only
  split
  ·exact no b1 b2 (by have:=zcP s x.Slot;show ¬(onM s x.Slot=3∨onM s x.Slot=37);omega)
  ·exact ⟨b1,b2,fun _=>by show (zp s x.G).2.Obj≤n;rw [(WV s x.G).1];exact b3 (.inr c)⟩
 ·intro c;unfold zgI;exact no b1 b2 (by show ¬((39:Int)=3∨(39:Int)=37);decide)
 ·intro c;unfold zgC;exact no b1 b2 (by show ¬((35:Int)=3∨(35:Int)=37);decide)
 ·exact ⟨b1,b2,b3⟩
theorem znS: ∀(l:List Int) (i:Nat) (v:Int),i<l.length→(l.set i v).sum=l.sum-l.getD i 0+v
 | [],i,v,h=>by simp at h
 | a::l,0,v,h=>by simp only [List.set_cons_zero,List.sum_cons,List.getD_cons_zero];omega
 | a::l,i+1,v,h=>by
  simp only [List.set_cons_succ,List.sum_cons,List.getD_cons_succ,znS l i v (by simpa using h)];omega
structure LdI (p:zb) (k d:Int) (l:zq):Prop where
 pool:l.Pool=0
 sc:0≤l.Scanned∧l.Scanned≤k
 sp:l.Spent=p.Price*d
 bal: ∀b∈l.Bal,-p.Limit≤b∧b≤k
 sum:l.Bal.sum=l.Scanned-l.Spent
theorem LdI.more {p:zb} {k d:Int} {l:zq} (I:LdI p k d l):LdI p (k+1) d l :=
 ⟨I.pool,by have:=I.sc;omega,I.sp,fun b hb=>by have:=I.bal b hb;omega,I.sum⟩
theorem zs9 {l:List Int} {i:Nat} (h:i<l.length):l.getD i 0∈l:=by
 rw [List.getD_eq_getElem?_getD,List.getElem?_eq_getElem h];exact List.getElem_mem h
theorem LdI.take {p:zb} {k d:Int} {l:zq} (I:LdI p k d l) (m w:Int):(zgp l m w).1=l:=by
 unfold zgp zpT
 rw [if_neg]
 rintro ⟨_,h⟩
 rw [I.pool] at h
 split at h<;>omega
theorem LdI.earn {p:zb} (hp:zE p) {k d:Int} (hk:0≤k∧k≤1000) {l:zq} (I:LdI p k d l) {m:Int} (hm:1≤m∧m≤(l.Bal.length:Int)):LdI p (k+1) d (U9 l m):=by
 have hsc:=I.sc
 have hl:=hp.limit
 have hb:=I.bal _ (zs9 (l:=l.Bal) (i:=(m-1).toNat) (by omega))
 unfold U9
 rw [if_pos hm]
 have w1:wc (l.Scanned+1)=l.Scanned+1:=xm (by omega) (by omega)
 have w2:wc (l.Bal.getD (m-1).toNat 0+1)=l.Bal.getD (m-1).toNat 0+1:=xm (by omega) (by omega)
 rw [w1,w2]
 refine ⟨I.pool,by dsimp only;omega,I.sp,fun b hb'=> ?_,?_⟩
 ·rcases List.mem_or_eq_of_mem_set hb' with h | rfl
  ·have:=I.bal b h;omega
  ·omega
 ·dsimp only
  rw [znS _ _ _ (by omega),I.sum];omega
theorem zuc {a d:Int} (h:0≤a∧a≤3):a*(d+1)=a*d+a:=by rw [Int.mul_add,Int.mul_one]
theorem zuQ {a d:Int} (h:0≤a∧a≤3) (hd:0≤d∧d≤10):0≤a*d∧a*d≤30:=by
 refine ⟨Int.mul_nonneg h.1 hd.1,?_⟩
 have:=Int.mul_le_mul h.2 hd.2 hd.1 (by decide:(0:Int)≤3)
 omega
theorem LdI.spend {p:zb} (hp:zE p) {k d:Int} (hk:0≤k∧k≤1000) (hd:0≤d∧d≤9) {l:zq} (I:LdI p k d l) {m:Int} (h:znm l m p.Price p.Limit=true):LdI p (k+1) (d+1) (zcX l m p.Price):=by
 have hsc:=I.sc
 have hl:=hp.limit
 have hpr:=hp.price
 have hsp:=zuQ hpr (d:=d) (by omega)
 have e1:=I.sp
 unfold znm zom zp1 at h
 simp only [Bool.and_eq_true,decide_eq_true_eq] at h
 obtain ⟨⟨⟨⟨⟨⟨m1,m2⟩,_⟩,_⟩,_⟩,_⟩,h⟩:=h
 have hb:=I.bal _ (zs9 (l:=l.Bal) (i:=(m-1).toNat) (by omega))
 unfold zj7 at h
 rw [xm (by omega) (by omega),xm (by omega) (by omega)] at h
 unfold zcX zj7
 rw [xm (by omega) (by omega),xm (by omega) (by omega)]
 refine ⟨I.pool,by dsimp only;omega,?_,fun b hb'=> ?_,?_⟩
 ·dsimp only;rw [zuc hpr];omega
 ·rcases List.mem_or_eq_of_mem_set hb' with h2 | rfl
  ·have:=I.bal b h2;omega
  ·omega
 ·dsimp only
  rw [znS _ _ _ (by omega),I.sum];omega
structure NwI (p:zb) (k:Int) (s:za):Prop where
 mrk: ∀o,zO s.T.Marks o=true→o≤(s.H.Objs.length:Int)
 bm: ∀o,zO s.T.Black o=true→zO s.T.Marks o=true
 bk: ∀o,(p.H.Objs.length:Int)<o→o≤(s.H.Objs.length:Int)→xg s.T o=2
 buf: ∀x∈s.Ms,Uw (s.H.Objs.length:Int) x
 bl:s.L.Bal.length=s.Ms.length
 L:LdI p k ((s.H.Objs.length:Int)-(p.H.Objs.length:Int)) s.L
theorem zuy (l:zq) (m:Int):(U9 l m).Bal.length=l.Bal.length:=by unfold U9;split<;>simp
theorem NwI.step {p:zb} {nb:Nat} (hp:zE p) {k:Int} (hk:0≤k∧k≤1000) {s:za} (E:EOk p nb s) (I:NwI p k s) (m:Int):NwI p (k+1) (yR s m):=by
 have hN:=E.H.n
 have hM:=hp.most
 have hn6:=hp.n
 unfold yR
 split
 ·exact ⟨I.mrk,I.bm,I.bk,I.buf,I.bl,I.L.more⟩
 rename_i hne
 cases hx:s.Ms[(m-1).toNat]? with
 | none=>exact ⟨I.mrk,I.bm,I.bk,I.buf,I.bl,I.L.more⟩
 | some x =>
  have hm:1≤m∧m≤(s.Ms.length:Int):=by omega
  have X:=E.X _ x hx
  have B:=I.buf x (List.mem_of_getElem? hx)
  have em:(((m-1).toNat:Nat):Int)+1=m:=by omega
  rw [em] at X
  have B':=zoK (s:=s) X (n:=(s.H.Objs.length:Int)) (by omega) (fun l hl v hv=>((E.H.objs l hl).2 v hv).2) B
  have bufs: ∀N':Int,(s.H.Objs.length:Int)≤N'→∀y∈s.Ms.set (m-1).toNat (zn s m x).2,Uw N' y:=fun N' hN' y hy=>by
   have up: ∀ {z:zc},Uw (s.H.Objs.length:Int) z→Uw N' z:=fun ⟨a,b,c⟩=>⟨fun v hv=>by have:=a v hv;omega,by omega,fun e=>by have:=c e;omega⟩
   rcases List.mem_or_eq_of_mem_set hy with h | rfl
   ·exact up (I.buf y h)
   ·exact up B'
  have hL:=I.L
  rcases zlN s m x with ⟨k1,k2,k3⟩ | ⟨k1,k2,k3,k4,k5⟩
  ·refine ⟨fun o ho=> ?_,fun o ho=> ?_,fun o h1 h2=> ?_,?_,?_,?_⟩
   ·dsimp only at ho ⊢
    rw [k1]
    rcases k2 with e | ⟨e,hpc⟩ | e
    ·rw [e] at ho;exact I.mrk o ho
    ·rw [e] at ho
     rcases (zcZ s.T x.G.Obj).2 with e2 | e2
     ·rw [e2] at ho;exact I.mrk o ho
     ·rw [e2] at ho
      rcases Y2 ho with h | rfl
      ·exact I.mrk o h
      ·exact B.2.2 hpc
    ·rw [e,(zb3 s.T x.Obj).1] at ho;exact I.mrk o ho
   ·dsimp only at ho ⊢
    rcases k2 with e | ⟨e,hpc⟩ | e
    ·rw [e] at ho ⊢;exact I.bm o ho
    ·rw [e] at ho ⊢
     rw [(zcZ s.T x.G.Obj).1] at ho
     have:=I.bm o ho
     rcases (zcZ s.T x.G.Obj).2 with e2 | e2
     ·rw [e2];exact this
     ·rw [e2];exact (Zd _ _ _).2 (.inl this)
    ·rw [e] at ho ⊢
     rw [(zb3 s.T x.Obj).1]
     rcases (zb3 s.T x.Obj).2 with e2 | ⟨e2,h3⟩
     ·rw [e2] at ho;exact I.bm o ho
     ·rw [e2] at ho
      rcases Y2 ho with h | rfl
      ·exact I.bm o h
      ·exact h3
   ·dsimp only at h2 ⊢
    rw [k1] at h2
    have h:=(zpn _ _).1 (I.bk o h1 h2)
    rw [zpn]
    rcases k2 with e | ⟨e,hpc⟩ | e
    ·rw [e];exact h
    ·rw [e,(zcZ s.T x.G.Obj).1]
     refine ⟨?_,h.2⟩
     rcases (zcZ s.T x.G.Obj).2 with e2 | e2
     ·rw [e2];exact h.1
     ·rw [e2];exact (Zd _ _ _).2 (.inl h.1)
    ·rw [e,(zb3 s.T x.Obj).1]
     refine ⟨h.1,?_⟩
     rcases (zb3 s.T x.Obj).2 with e2 | ⟨e2,_⟩
     ·rw [e2];exact h.2
     ·rw [e2];exact (Zd _ _ _).2 (.inl h.2)
   ·dsimp only;rw [k1];exact bufs _ (Int.le_refl _)
   ·dsimp only
    rw [List.length_set]
    rcases k3 with e | ⟨w,e⟩ | e
    ·rw [e];exact I.bl
    ·rw [e,hL.take];exact I.bl
    ·rw [e,zuy];exact I.bl
   ·dsimp only
    rw [k1]
    rcases k3 with e | ⟨w,e⟩ | e
    ·rw [e];exact hL.more
    ·rw [e,hL.take];exact hL.more
    ·rw [e];exact hL.earn hp hk (by have:=I.bl;omega)
  ·have w:wc ((s.H.Objs.length:Int)+1)=(s.H.Objs.length:Int)+1:=xm (by omega) (by omega)
   have hal:=zgq s.H
   have hP:=E.S.P
   have hr:(s.H.Objs.length:Int)<s.P.Most:=by
    unfold zaX at k5
    simp only [Bool.and_eq_true,decide_eq_true_eq] at k5
    exact k5.1
   rw [hP] at hr k3 k4
   rw [w] at k2
   have nm: ¬zO s.T.Marks ((s.H.Objs.length:Int)+1)=true:=fun e=>by have:=I.mrk _ e;omega
   have nb': ¬zO s.T.Black ((s.H.Objs.length:Int)+1)=true:=fun e=>nm (I.bm _ e)
   have hsh:=zoR (t:=s.T) (o:=(s.H.Objs.length:Int)+1) (by omega) nm nb'
   have ht1:xg {s.T with Marks:=s.T.Marks|||bit ((s.H.Objs.length:Int)+1)} ((s.H.Objs.length:Int)+1)=1 :=
    (uQ _ _).2 ⟨(wF _ (by omega) _).2 (.inr rfl),nb'⟩
   have hT:(zn s m x).1.T=⟨s.T.Marks|||bit ((s.H.Objs.length:Int)+1),s.T.Black|||bit ((s.H.Objs.length:Int)+1)⟩:=by
    rw [k2]
    unfold V4
    rw [hsh]
    dsimp only
    rw [if_pos rfl]
    unfold vq
    rw [if_pos ht1]
   refine ⟨fun o ho=> ?_,fun o ho=> ?_,fun o h1 h2=> ?_,?_,?_,?_⟩
   ·dsimp only at ho ⊢
    rw [k1,hal]
    rw [hT] at ho
    rcases Y2 ho with h | rfl
    ·have:=I.mrk o h;omega
    ·omega
   ·dsimp only at ho ⊢
    rw [hT] at ho ⊢
    dsimp only at ho ⊢
    rw [Zd]
    rcases (Zd _ _ _).1 ho with h | h
    ·exact .inl (I.bm o h)
    ·exact .inr h
   ·dsimp only at h2 ⊢
    rw [k1,hal] at h2
    rw [zpn,hT]
    dsimp only
    by_cases ho:o≤(s.H.Objs.length:Int)
    ·have h:=(zpn _ _).1 (I.bk o h1 ho)
     exact ⟨(Zd _ _ _).2 (.inl h.1),(Zd _ _ _).2 (.inl h.2)⟩
    ·have:o=(s.H.Objs.length:Int)+1:=by omega
     subst this
     exact ⟨(wF _ (by omega) _).2 (.inr rfl),(wF _ (by omega) _).2 (.inr rfl)⟩
   ·dsimp only;rw [k1,hal];exact bufs _ (by omega)
   ·dsimp only
    rw [List.length_set,k3]
    unfold zcX
    rw [List.length_set]
    exact I.bl
   ·dsimp only
    rw [k3,k1,hal]
    have:=hL.spend hp hk (by omega) k4
    have e:((s.H.Objs.length+1:Nat):Int)-(p.H.Objs.length:Int)=(s.H.Objs.length:Int)-(p.H.Objs.length:Int)+1:=by omega
    rw [e]
    exact this
end
end Go.Pe.G
namespace Go.Pe.G
open Go.Pe
noncomputable section
theorem zu6 (s:BitVec 64) {q:Int} (h:1≤q∧q≤64):zO (~~~s) q=true↔¬zO s q=true:=by
 rw [vF,vF,BitVec.getLsbD_not]
 simp only [show (q-1).toNat<64 by omega,decide_true,Bool.true_and,Bool.not_eq_true']
 constructor
 ·rintro ⟨_,_,e⟩ ⟨_,_,e2⟩;rw [e] at e2;cases e2
 ·intro e
  refine ⟨h.1,h.2,?_⟩
  cases hs:s.getLsbD (q-1).toNat with
  | false=>rfl
  | true=>exact absurd ⟨h.1,h.2,hs⟩ e
end
end Go.Pe.G
namespace Go.Pe.G
open Go.Pe
noncomputable section
def Wl (p:zb) (s:za) (g:Gh):List Int:=yt p s g++(s.Ws.flatMap (zL s)++s.Ms.flatMap (yb s))
structure FG (p:zb) (nb k:Nat) (s:za) (gh:Gh):Prop where
 E:EOk p nb s
 X:SX p nb s gh (s.Ws.flatMap xA++s.Ms.flatMap va) k
 W: ∀(i:Nat) x,s.Ws[i]? =some x→WX p s gh ((i:Int)+1) x
 M: ∀(i:Nat) x,s.Ms[i]? =some x→MX p s gh x
 B:VT (Wl p s gh) s.T
 mrk: ∀o,zO s.T.Marks o=true→o≤(s.H.Objs.length:Int)
 wob: ∀(i:Nat) x,s.Ws[i]? =some x→x.PC=6→x.G.Obj≤(s.H.Objs.length:Int)
 buf: ∀x∈s.Ms,Uw (s.H.Objs.length:Int) x
 bk: ∀o,(p.H.Objs.length:Int)<o→o≤(s.H.Objs.length:Int)→zO s.T.Black o=true
 ne: ∀y∈gh.F,xj s y≠[]
theorem FX.ne {p:zb} {nb k:Nat} {s s':za} {gh gh':Gh} {Y R:List Int} {O:Int→Prop} (X:SX p nb s gh (Y++R) k) (Fx:FX p nb Y O s s' gh gh') (h: ∀y∈gh.F,xj s y≠[]): ∀y∈gh'.F,xj s' y≠[]:=fun y hy =>
 (Fx.fb y hy).elim (fun hy=>by
  have h1:=zos.1 (X.L.all.subset (List.mem_append_left _ (List.mem_append_left _ hy)))
  have h2:y∉Y:=fun e=>(X.L.notF (List.mem_append_left _ e)).1 hy
  have:=Fx.bn y h1.1 h2
  unfold xj
  rw [this];exact h y hy) id
theorem MX.state {p:zb} {s s':za} {gh:Gh} {x:zc} (W:MX p s gh x) (hm:s'.M=s.M) (hb:s'.Bins=s.Bins):MX p s' gh x :=
 ⟨W.bt,W.bf,W.ol,fun e=>⟨(W.p3 e).1.state hm hb,(W.p3 e).2⟩,by rw [hm];exact W.p32,by rw [hm];exact W.p34,fun e=>⟨(W.p37 e).1.state hm hb,(W.p37 e).2⟩⟩
theorem zkS {s s':za} {x:zc} (hb:s'.Bins=s.Bins):yb s' x=yb s x:=by
 unfold yb zaw xj;rw [hb]
def zeo (s s':za):Prop :=
 (s'.T=s.T∧s'.H.Objs.length=s.H.Objs.length) ∨
 (∃o,(1≤o∧o≤(s.H.Objs.length:Int))∧¬zO s.T.Marks o=true∧s'.T={s.T with Marks:=s.T.Marks|||bit o}∧s'.H=s.H) ∨
 (∃o,xg s.T o=1∧s'.T={s.T with Black:=s.T.Black|||bit o}∧s'.H=s.H) ∨
 (s'.H=uo s.H∧(s.H.Objs.length:Int)<9∧s'.T=⟨s.T.Marks|||bit ((s.H.Objs.length:Int)+1),s.T.Black|||bit ((s.H.Objs.length:Int)+1)⟩)
theorem FG.tints {p:zb} {nb k:Nat} {s:za} {gh:Gh} (G:FG p nb k s gh) {s':za} (F:zeo s s') :
  (∀o,zO s'.T.Marks o=true→o≤(s'.H.Objs.length:Int))∧(∀o,(p.H.Objs.length:Int)<o→o≤(s'.H.Objs.length:Int)→zO s'.T.Black o=true):=by
 rcases F with ⟨e,h⟩ | ⟨o,ho,hn,e,h⟩ | ⟨o,ho,e,h⟩ | ⟨h,hl,e⟩
 ·rw [e,h];exact ⟨G.mrk,G.bk⟩
 ·rw [e,h]
  refine ⟨fun q hq=> ?_,G.bk⟩
  rcases Y2 hq with hq | rfl
  ·exact G.mrk q hq
  ·exact ho.2
 ·rw [e,h]
  exact ⟨G.mrk,fun q h1 h2=>(Zd _ _ _).2 (.inl (G.bk q h1 h2))⟩
 ·rw [e,h]
  have hal:=zgq s.H
  refine ⟨fun q hq=> ?_,fun q h1 h2=> ?_⟩
  ·rcases Y2 hq with hq | rfl
   ·have:=G.mrk q hq;omega
   ·omega
  ·dsimp only
   by_cases hq:q≤(s.H.Objs.length:Int)
   ·exact (Zd _ _ _).2 (.inl (G.bk q h1 hq))
   ·have:q=(s.H.Objs.length:Int)+1:=by omega
    subst this
    exact (wF _ (by omega) _).2 (.inr rfl)
theorem FG.worker {p:zb} (hp:zE p) {nb k:Nat} {s:za} {gh:Gh} (hk:k<4294960000) (G:FG p nb k s gh) {w:Int} (hw:1≤w∧w≤p.Workers) (hd:s.Done=false): ∃gh',FG p nb (k+1) (zN s w) gh'∧zeo s (zN s w) ∧
  ∃x,s.Ws[(w-1).toNat]? =some x∧∃N C,List.Perm (Wl p (zN s w) gh'++C) (N++Wl p s gh)∧((N=[]∧C=[]∧(zi s w x).1.T=s.T)∨(N=[x.G.Obj]∧C=[]∧x.PC=6∧¬(s.T.Marks|||bit x.G.Obj=s.T.Marks)∧(zi s w x).1.T={s.T with Marks:=s.T.Marks|||bit x.G.Obj})∨(N=[]∧C=[x.Obj]∧x.PC=8∧(zi s w x).1.T=vq s.T x.Obj)):=by
 have hE:=ziH hp G.E w
 have hwl:=G.E.wl
 have e0: ¬(s.Done=true∨w<1∨(s.Ws.length:Int)<w):=by rw [hd];rintro (e | e | e)<;>first | cases e | omega
 revert hE
 unfold zN
 rw [if_neg e0]
 have hi:(w-1).toNat<s.Ws.length:=by omega
 have hx:=List.getElem?_eq_getElem hi
 generalize s.Ws[(w-1).toNat]=x at hx
 rw [hx]
 dsimp only
 intro hE
 obtain ⟨a,b,el,es,hab,hba⟩:=zlo hx
 have ei:(((w-1).toNat:Nat):Int)+1=w:=by omega
 have hWX:=G.W _ x hx
 have hWO:=G.E.W _ x hx
 rw [ei] at hWX hWO
 have hfr:=ziK (s:=s) hWO
 have eH:(zi s w x).1.H=s.H:=by rw [hfr]
 have eMs:(zi s w x).1.Ms=s.Ms:=by rw [hfr]
 have X0:SX p nb s gh (xA x++((a++b).flatMap xA++s.Ms.flatMap va)) k:=by
  refine G.X.perm ?_
  rw [←List.append_assoc]
  refine List.Perm.append_right _ ?_
  conv=>rhs;rw [el]
  exact uu.symm
 obtain ⟨gh',X',W',Fx,N,C,hN,hT⟩:=zvv hp hk hw X0 hWO hWX (fun o i=>G.E.H.get hp o i)
 have hoth: ∀(j:Nat) y,j≠(w-1).toNat→s.Ws[j]? =some y→WX p (zi s w x).1 gh' ((j:Int)+1) y∧zL (zi s w x).1 y=zL s y:=by
  intro j y hj hy
  have hjl:=(List.getElem?_eq_some_iff.1 hy).1
  exact WX.other hp (w:=(j:Int)+1) (by omega) X0 Fx (G.W j y hy) (G.E.W j y hy) (fun z hz=>List.mem_append_left _ (List.mem_flatMap.2 ⟨y,hba j y hj hy,hz⟩)) (fun e=>hj (by omega))
 have hmut: ∀(j:Nat) y,s.Ms[j]? =some y→MX p (zi s w x).1 gh' y∧yb (zi s w x).1 y=yb s y:=by
  intro j y hy
  exact MX.other hp X0 Fx (G.M j y hy) (G.E.X j y hy) (fun z hz=>List.mem_append_right _ (List.mem_flatMap.2 ⟨y,List.mem_of_getElem? hy,hz⟩))
 have hbag:List.Perm (Wl p {(zi s w x).1 with Ws:=s.Ws.set (w-1).toNat (zi s w x).2} gh'++C) (N++Wl p s gh):=by
  unfold Wl
  have q2:(s.Ws.set (w-1).toNat (zi s w x).2).flatMap (zL {(zi s w x).1 with Ws:=s.Ws.set (w-1).toNat (zi s w x).2})=(a++(zi s w x).2::b).flatMap (zL (zi s w x).1):=by
   rw [es];exact wW (fun y _=>zgZ rfl rfl)
  have q3:(a++b).flatMap (zL (zi s w x).1)=(a++b).flatMap (zL s):=wW (fun y hy=>by
   obtain ⟨j,hj,hjy⟩:=hab y hy
   exact (hoth j y hj hjy).2)
  have q4:(zi s w x).1.Ms.flatMap (yb {(zi s w x).1 with Ws:=s.Ws.set (w-1).toNat (zi s w x).2})=s.Ms.flatMap (yb s):=by
   rw [eMs]
   refine wW (fun y hy=> ?_)
   obtain ⟨j,hj⟩:=List.mem_iff_getElem?.1 hy
   exact (zkS (s:=(zi s w x).1) rfl).trans (hmut j y hj).2
  show List.Perm (yt p (zi s w x).1 gh'++((s.Ws.set (w-1).toNat (zi s w x).2).flatMap (zL {(zi s w x).1 with Ws:=s.Ws.set (w-1).toNat (zi s w x).2})++(zi s w x).1.Ms.flatMap (yb {(zi s w x).1 with Ws:=s.Ws.set (w-1).toNat (zi s w x).2}))++C) _
  rw [q2,q4]
  have r1:List.Perm (yt p (zi s w x).1 gh'++((a++(zi s w x).2::b).flatMap (zL (zi s w x).1)++s.Ms.flatMap (yb s))++C) (((a++b).flatMap (zL s)++s.Ms.flatMap (yb s))++(yt p (zi s w x).1 gh'++zL (zi s w x).1 (zi s w x).2++C)):=by
   refine ((List.Perm.append_left _ (List.Perm.append_right _ uu)).append_right C).trans ?_
   rw [q3]
   generalize (a++b).flatMap (zL s)=u
   generalize s.Ms.flatMap (yb s)=v
   generalize yt p (zi s w x).1 gh'=y
   generalize zL (zi s w x).1 (zi s w x).2=z
   have:List.Perm (y++(z++(u++v))++C) ((u++v)++(y++z++C)):=by
    generalize u++v=q
    rw [List.append_assoc,List.append_assoc,List.append_assoc]
    refine (List.Perm.append_left _ (List.perm_append_comm_assoc _ _ _)).trans ?_
    exact (List.perm_append_comm_assoc _ _ _)
   rw [List.append_assoc z u v]
   exact this
  have r2:List.Perm (N++(yt p s gh++(s.Ws.flatMap (zL s)++s.Ms.flatMap (yb s)))) (((a++b).flatMap (zL s)++s.Ms.flatMap (yb s))++(N++(yt p s gh++zL s x))):=by
   conv=>lhs;rw [el]
   refine (List.Perm.append_left _ (List.Perm.append_left _ (List.Perm.append_right _ uu))).trans ?_
   generalize (a++b).flatMap (zL s)=u
   generalize s.Ms.flatMap (yb s)=v
   generalize yt p s gh=y
   generalize zL s x=z
   rw [List.append_assoc z u v]
   generalize u++v=q
   refine (List.Perm.append_left _ ?_).trans (List.perm_append_comm_assoc _ _ _)
   rw [←List.append_assoc]
   exact List.perm_append_comm
  exact r1.trans ((List.Perm.append_left _ hN).trans r2.symm)
 have hFM:zeo s {(zi s w x).1 with Ws:=s.Ws.set (w-1).toNat (zi s w x).2}∧VT (Wl p {(zi s w x).1 with Ws:=s.Ws.set (w-1).toNat (zi s w x).2} gh') (zi s w x).1.T:=by
  rcases hT with ⟨e1,e2,t1⟩ | ⟨e1,e2,t1,t2,t3⟩ | ⟨e1,e2,t1,t2⟩
  ·rw [e1,e2,List.append_nil,List.nil_append] at hbag
   refine ⟨.inl ⟨t1,congrArg (fun h:zC=>h.Objs.length) eH⟩,⟨?_,hbag.nodup_iff.2 G.B.nd,fun o=> ?_⟩⟩
   ·rw [t1];exact G.B.blk
   ·rw [t1,hbag.mem_iff];exact G.B.gr o
  ·have ho:=((hWX.p6 t1).1).ob
   rw [e1,e2,List.append_nil] at hbag
   refine ⟨.inr (.inl ⟨x.G.Obj,⟨ho.1,G.wob _ x hx t1⟩,(Ut ho).1 t2,t3,eH⟩),?_⟩
   rw [t3]
   exact G.B.more ho t2 hbag
  ·rw [e1,e2,List.nil_append] at hbag
   obtain ⟨b1,b2,b3,b4⟩:=G.B.less hbag
   refine ⟨.inr (.inr (.inl ⟨x.Obj,b3,?_,eH⟩)),by rw [t2];exact b1⟩
   show (zi s w x).1.T=_
   rw [t2];unfold vq;rw [if_pos b3]
 obtain ⟨hFM,hB⟩:=hFM
 obtain ⟨t1,t2⟩:=G.tints hFM
 refine ⟨gh',⟨hE,?_,fun j y hy=> ?_,fun j y hy=> ?_,hB,t1,fun j y hy h6=> ?_,fun y hy=> ?_,t2,fun y hy=>show xj (zi s w x).1 y≠[] from FX.ne X0 Fx G.ne y hy⟩,hFM,x,rfl,N,C,hbag,hT⟩
 ·refine (X'.state hE.S rfl).perm ?_
  show List.Perm ((s.Ws.set (w-1).toNat (zi s w x).2).flatMap xA++(zi s w x).1.Ms.flatMap va) _
  rw [es,eMs,←List.append_assoc]
  exact List.Perm.append_right _ uu
 ·have hy:(s.Ws.set (w-1).toNat (zi s w x).2)[j]? =some y:=hy
  by_cases hj:j=(w-1).toNat
  ·subst hj
   rw [List.getElem?_set_self hi] at hy
   injection hy with hy
   rw [←hy,ei]
   exact W'.state rfl rfl
  ·rw [List.getElem?_set_ne (fun e=>hj e.symm)] at hy
   exact (hoth j y hj hy).1.state rfl rfl
 ·have hy:(zi s w x).1.Ms[j]? =some y:=hy
  rw [eMs] at hy
  exact (hmut j y hy).1.state rfl rfl
 ·have hy:(s.Ws.set (w-1).toNat (zi s w x).2)[j]? =some y:=hy
  show y.G.Obj≤((zi s w x).1.H.Objs.length:Int)
  rw [eH]
  by_cases hj:j=(w-1).toNat
  ·subst hj
   rw [List.getElem?_set_self hi] at hy
   injection hy with hy
   rw [←hy] at h6 ⊢
   rcases zvh s w x h6 with ⟨h,e⟩ | ⟨h,e⟩
   ·rw [e];exact G.wob _ x hx h
   ·rw [e];exact zpP (by omega) (fun l hl v hv=>((G.E.H.objs l hl).2 v hv).2) _ _
  ·rw [List.getElem?_set_ne (fun e=>hj e.symm)] at hy
   exact G.wob j y hy h6
 ·have hy:y∈(zi s w x).1.Ms:=hy
  show Uw ((zi s w x).1.H.Objs.length:Int) y
  rw [eMs] at hy
  rw [eH]
  exact G.buf y hy
theorem zlf (s:za) (m:Int) (x:zc):(zn s m x).1.H=s.H∨x.PC=23∨x.PC=30:=by
 refine wD (motive:=fun r=>r.1.H=s.H∨x.PC=23∨x.PC=30) s m x ?_ ?_ ?_ ?_ ?_ ?_ ?_ ?_ ?_ ?_ ?_ ?_ ?_ ?_ ?_ ?_ ?_ ?_ ?_ ?_
 all_goals first
  | exact fun _=> .inl rfl
  | exact fun c=> .inr (.inl c)
  | exact fun c=> .inr (.inr c)
  | (intro c;unfold mu3;exact .inl (by dsimp only;rw [W8]))
  | (intro c;unfold zap;exact .inl (by dsimp only;rw [W8]))
  | exact .inl rfl
theorem zlp {t:zo} {n:Int} (hn:1≤n∧n≤64) (nm: ¬zO t.Marks n=true) (nb': ¬zO t.Black n=true):V4 t n=⟨t.Marks|||bit n,t.Black|||bit n⟩:=by
 have ht1:xg {t with Marks:=t.Marks|||bit n} n=1:=(uQ _ _).2 ⟨(wF _ hn _).2 (.inr rfl),nb'⟩
 unfold V4
 rw [zoR hn nm nb']
 dsimp only
 rw [if_pos rfl]
 unfold vq
 rw [if_pos ht1]
theorem VT.fresh {B B':List Int} {t:zo} {n:Int} (hn:1≤n∧n≤64) (nm: ¬zO t.Marks n=true) (K:VT B t) (h:List.Perm B' B):VT B' ⟨t.Marks|||bit n,t.Black|||bit n⟩:=by
 refine ⟨fun o ho=> ?_,h.nodup_iff.2 K.nd,fun o=> ?_⟩
 ·rcases (wF _ hn o).1 ho with h | h
  ·exact (wF _ hn o).2 (.inl (K.blk o h))
  ·exact (wF _ hn o).2 (.inr h)
 ·rw [h.mem_iff,K.gr,uQ,uQ]
  dsimp only
  rw [wF _ hn,wF _ hn]
  constructor
  ·rintro ⟨a1,a2⟩
   refine ⟨.inl a1,fun e=>e.elim a2 (fun e=> ?_)⟩
   rw [e] at a1;exact nm a1
  ·rintro ⟨a1,a2⟩
   exact ⟨a1.resolve_right (fun e=>a2 (.inr e)),fun e=>a2 (.inl e)⟩
theorem FG.mut_tint {p:zb} (hp:zE p) {nb k:Nat} {s:za} {gh:Gh} (G:FG p nb k s gh) {m:Int} {x:zc} (hMX:MX p s gh x) (hBI:Uw (s.H.Objs.length:Int) x) {l:List zc} {N C B':List Int}
  (hbag:List.Perm (B'++C) (N++Wl p s gh))
  (hT:(N=[]∧C=[]∧(zn s m x).1.T=s.T)∨(N=[x.G.Obj]∧C=[]∧(x.PC=3∨x.PC=37)∧¬(s.T.Marks|||bit x.G.Obj=s.T.Marks)∧(zn s m x).1.T={s.T with Marks:=s.T.Marks|||bit x.G.Obj})∨(N=[]∧C=[x.Obj]∧x.PC=38∧(zn s m x).1.T=vq s.T x.Obj) ∨
   (N=[]∧C=[]∧x.PC=30∧zaX s.H s.P.Most=true∧(zn s m x).1.H=uo s.H∧(zn s m x).1.T=V4 s.T (wc (s.H.Objs.length+1)))) :
  zeo s {(zn s m x).1 with Ms:=l}∧VT B' (zn s m x).1.T:=by
 have hN0:=G.E.H.n
 have hM0:=hp.most
 have hn6:=hp.n
 have nm: ¬zO s.T.Marks ((s.H.Objs.length:Int)+1)=true:=fun e=>by have:=G.mrk _ e;omega
 have nb': ¬zO s.T.Black ((s.H.Objs.length:Int)+1)=true:=fun e=>nm (G.B.blk _ e)
 have hw:wc ((s.H.Objs.length:Int)+1)=(s.H.Objs.length:Int)+1:=xm (by omega) (by omega)
 rcases hT with ⟨e1,e2,t1⟩ | ⟨e1,e2,t1,t2,t3⟩ | ⟨e1,e2,t1,t2⟩ | ⟨e1,e2,t1,t2,t3,t4⟩
 ·rw [e1,e2,List.append_nil,List.nil_append] at hbag
  refine ⟨.inl ⟨t1,?_⟩,⟨?_,hbag.nodup_iff.2 G.B.nd,fun o=> ?_⟩⟩
  ·show (zn s m x).1.H.Objs.length=_
   rcases zlN s m x with h | ⟨h1,h2,_,_,h5⟩
   ·exact h.1
   ·exfalso
    rw [t1,hw,zlp (by omega) nm nb'] at h2
    have h3:=congrArg zo.Marks h2
    exact nm (by rw [h3];exact (wF _ (by omega) _).2 (.inr rfl))
  ·rw [t1];exact G.B.blk
  ·rw [t1,hbag.mem_iff];exact G.B.gr o
 ·have ho:1≤x.G.Obj∧x.G.Obj≤64:=by
   rcases t1 with h | h
   ·exact (hMX.p3 h).1.ob
   ·exact (hMX.p37 h).1.ob
  rw [e1,e2,List.append_nil] at hbag
  have eH:(zn s m x).1.H=s.H:=by
   rcases zlf s m x with h | h | h
   ·exact h
   ·omega
   ·omega
  refine ⟨.inr (.inl ⟨x.G.Obj,⟨ho.1,hBI.2.2 t1⟩,(Ut ho).1 t2,t3,eH⟩),?_⟩
  rw [t3]
  exact G.B.more ho t2 hbag
 ·rw [e1,e2,List.nil_append] at hbag
  obtain ⟨b1,b2,b3,b4⟩:=G.B.less hbag
  have eH:(zn s m x).1.H=s.H:=by
   rcases zlf s m x with h | h | h
   ·exact h
   ·omega
   ·omega
  refine ⟨.inr (.inr (.inl ⟨x.Obj,b3,?_,eH⟩)),by rw [t2];exact b1⟩
  show (zn s m x).1.T=_
  rw [t2];unfold vq;rw [if_pos b3]
 ·rw [e1,e2,List.append_nil,List.nil_append] at hbag
  have hr:(s.H.Objs.length:Int)<s.P.Most:=by
   unfold zaX at t2
   simp only [Bool.and_eq_true,decide_eq_true_eq] at t2
   exact t2.1
  rw [G.E.S.P] at hr
  have hTT:(zn s m x).1.T=⟨s.T.Marks|||bit ((s.H.Objs.length:Int)+1),s.T.Black|||bit ((s.H.Objs.length:Int)+1)⟩:=by
   rw [t4,hw,zlp (by omega) nm nb']
  refine ⟨.inr (.inr (.inr ⟨t3,by omega,hTT⟩)),?_⟩
  rw [hTT]
  exact G.B.fresh (by omega) nm hbag
theorem FG.mutator {p:zb} (hp:zE p) {nb k:Nat} {s:za} {gh:Gh} (hk:k<4294960000) (G:FG p nb k s gh) {m:Int} (hm:1≤m∧m≤p.Mutators) (hd:s.Done=false): ∃gh',FG p nb (k+1) (yR s m) gh'∧zeo s (yR s m) ∧
  ∃x,s.Ms[(m-1).toNat]? =some x∧∃N C,List.Perm (Wl p (yR s m) gh'++C) (N++Wl p s gh)∧((N=[]∧C=[]∧(zn s m x).1.T=s.T)∨(N=[x.G.Obj]∧C=[]∧(x.PC=3∨x.PC=37)∧¬(s.T.Marks|||bit x.G.Obj=s.T.Marks)∧(zn s m x).1.T={s.T with Marks:=s.T.Marks|||bit x.G.Obj})∨(N=[]∧C=[x.Obj]∧x.PC=38∧(zn s m x).1.T=vq s.T x.Obj) ∨
   (N=[]∧C=[]∧x.PC=30∧zaX s.H s.P.Most=true∧(zn s m x).1.H=uo s.H∧(zn s m x).1.T=V4 s.T (wc (s.H.Objs.length+1)))):=by
 have hE:=zts hp G.E m
 have hml:=G.E.ml
 have hwl:=G.E.wl
 have hN0:=G.E.H.n
 have hM0:=hp.most
 have hn6:=hp.n
 have e0: ¬(s.Done=true∨m<1∨(s.Ms.length:Int)<m):=by rw [hd];rintro (e | e | e)<;>first | cases e | omega
 revert hE
 unfold yR
 rw [if_neg e0]
 have hi:(m-1).toNat<s.Ms.length:=by omega
 have hx:=List.getElem?_eq_getElem hi
 generalize s.Ms[(m-1).toNat]=x at hx
 rw [hx]
 dsimp only
 intro hE
 obtain ⟨a,b,el,es,hab,hba⟩:=zlo hx
 have ei:(((m-1).toNat:Nat):Int)+1=m:=by omega
 have hMX:=G.M _ x hx
 have hXO:=G.E.X _ x hx
 rw [ei] at hXO
 have hBI:=G.buf x (List.mem_of_getElem? hx)
 have hfr:=zoq s m x
 have eWs:(zn s m x).1.Ws=s.Ws:=by rw [hfr]
 have X0:SX p nb s gh (va x++((a++b).flatMap va++s.Ws.flatMap xA)) k:=by
  refine G.X.perm ?_
  rw [←List.append_assoc]
  refine List.Perm.trans (List.Perm.append_right _ ?_) List.perm_append_comm
  conv=>rhs;rw [el]
  exact uu.symm
 obtain ⟨gh',X',M',Fx,N,C,hN,hT⟩:=zw7 hp hk X0 hXO hMX (zmU hp m) (fun o i=>G.E.H.get hp o i)
 have hoth: ∀(j:Nat) y,j≠(m-1).toNat→s.Ms[j]? =some y→MX p (zn s m x).1 gh' y∧yb (zn s m x).1 y=yb s y:=by
  intro j y hj hy
  exact MX.other hp X0 Fx (G.M j y hy) (G.E.X j y hy) (fun z hz=>List.mem_append_left _ (List.mem_flatMap.2 ⟨y,hba j y hj hy,hz⟩))
 have hwrk: ∀(j:Nat) y,s.Ws[j]? =some y→WX p (zn s m x).1 gh' ((j:Int)+1) y∧zL (zn s m x).1 y=zL s y:=by
  intro j y hy
  have hjl:=(List.getElem?_eq_some_iff.1 hy).1
  exact WX.other hp (w:=(j:Int)+1) (by omega) X0 Fx (G.W j y hy) (G.E.W j y hy) (fun z hz=>List.mem_append_right _ (List.mem_flatMap.2 ⟨y,List.mem_of_getElem? hy,hz⟩)) (fun e=>e)
 have hbag:List.Perm (Wl p {(zn s m x).1 with Ms:=s.Ms.set (m-1).toNat (zn s m x).2} gh'++C) (N++Wl p s gh):=by
  unfold Wl
  have q2:(s.Ms.set (m-1).toNat (zn s m x).2).flatMap (yb {(zn s m x).1 with Ms:=s.Ms.set (m-1).toNat (zn s m x).2})=(a++(zn s m x).2::b).flatMap (yb (zn s m x).1):=by
   rw [es];exact wW (fun y _=>zkS rfl)
  have q3:(a++b).flatMap (yb (zn s m x).1)=(a++b).flatMap (yb s):=wW (fun y hy=>by
   obtain ⟨j,hj,hjy⟩:=hab y hy
   exact (hoth j y hj hjy).2)
  have q4:(zn s m x).1.Ws.flatMap (zL {(zn s m x).1 with Ms:=s.Ms.set (m-1).toNat (zn s m x).2})=s.Ws.flatMap (zL s):=by
   rw [eWs]
   refine wW (fun y hy=> ?_)
   obtain ⟨j,hj⟩:=List.mem_iff_getElem?.1 hy
   exact (zgZ (s:=(zn s m x).1) rfl rfl).trans (hwrk j y hj).2
  show List.Perm (yt p (zn s m x).1 gh'++((zn s m x).1.Ws.flatMap (zL {(zn s m x).1 with Ms:=s.Ms.set (m-1).toNat (zn s m x).2})++(s.Ms.set (m-1).toNat (zn s m x).2).flatMap (yb {(zn s m x).1 with Ms:=s.Ms.set (m-1).toNat (zn s m x).2}))++C) _
  rw [q2,q4]
  have r1:List.Perm (yt p (zn s m x).1 gh'++(s.Ws.flatMap (zL s)++(a++(zn s m x).2::b).flatMap (yb (zn s m x).1))++C) ((s.Ws.flatMap (zL s)++(a++b).flatMap (yb s))++(yt p (zn s m x).1 gh'++yb (zn s m x).1 (zn s m x).2++C)):=by
   refine ((List.Perm.append_left _ (List.Perm.append_left _ uu)).append_right C).trans ?_
   rw [q3]
   generalize (a++b).flatMap (yb s)=u
   generalize s.Ws.flatMap (zL s)=v
   generalize yt p (zn s m x).1 gh'=y
   generalize yb (zn s m x).1 (zn s m x).2=z
   refine ((List.Perm.append_left y (List.perm_append_comm_assoc v z u)).append_right C).trans ?_
   generalize v++u=q
   rw [List.append_assoc,List.append_assoc,List.append_assoc]
   refine (List.Perm.append_left _ (List.perm_append_comm_assoc _ _ _)).trans ?_
   exact (List.perm_append_comm_assoc _ _ _)
  have r2:List.Perm (N++(yt p s gh++(s.Ws.flatMap (zL s)++s.Ms.flatMap (yb s)))) ((s.Ws.flatMap (zL s)++(a++b).flatMap (yb s))++(N++(yt p s gh++yb s x))):=by
   conv=>lhs;rw [el]
   refine (List.Perm.append_left _ (List.Perm.append_left _ (List.Perm.append_left _ uu))).trans ?_
   generalize (a++b).flatMap (yb s)=u
   generalize s.Ws.flatMap (zL s)=v
   generalize yt p s gh=y
   generalize yb s x=z
   refine (List.Perm.append_left N (List.Perm.append_left y (List.perm_append_comm_assoc v z u))).trans ?_
   generalize v++u=q
   refine (List.Perm.append_left _ ?_).trans (List.perm_append_comm_assoc _ _ _)
   rw [←List.append_assoc]
   exact List.perm_append_comm
  exact r1.trans ((List.Perm.append_left _ hN).trans r2.symm)
 have hlen:(zn s m x).1.H.Objs.length=s.H.Objs.length∨(zn s m x).1.H=uo s.H:=by
  rcases zlN s m x with h | h
  ·exact .inl h.1
  ·exact .inr h.1
 have hFM:=G.mut_tint hp (m:=m) (l:=s.Ms.set (m-1).toNat (zn s m x).2) hMX hBI hbag hT
 obtain ⟨hFM,hB⟩:=hFM
 obtain ⟨t1,t2⟩:=G.tints hFM
 have hN1:(s.H.Objs.length:Int)≤((zn s m x).1.H.Objs.length:Int):=by
  rcases hlen with h | h
  ·omega
  ·rw [h,zgq];omega
 have B':=zoK (s:=s) hXO (n:=(s.H.Objs.length:Int)) (by omega) (fun l hl v hv=>((G.E.H.objs l hl).2 v hv).2) hBI
 refine ⟨gh',⟨hE,?_,fun j y hy=> ?_,fun j y hy=> ?_,hB,t1,fun j y hy h6=> ?_,fun y hy=> ?_,t2,fun y hy=>show xj (zn s m x).1 y≠[] from FX.ne X0 Fx G.ne y hy⟩,hFM,x,rfl,N,C,hbag,hT⟩
 ·refine (X'.state hE.S rfl).perm ?_
  show List.Perm ((zn s m x).1.Ws.flatMap xA++(s.Ms.set (m-1).toNat (zn s m x).2).flatMap va) _
  rw [es,eWs,←List.append_assoc]
  exact List.perm_append_comm.trans (List.Perm.append_right _ uu)
 ·have hy:(zn s m x).1.Ws[j]? =some y:=hy
  rw [eWs] at hy
  exact (hwrk j y hy).1.state rfl rfl
 ·have hy:(s.Ms.set (m-1).toNat (zn s m x).2)[j]? =some y:=hy
  by_cases hj:j=(m-1).toNat
  ·subst hj
   rw [List.getElem?_set_self hi] at hy
   injection hy with hy
   rw [←hy]
   exact M'.state rfl rfl
  ·rw [List.getElem?_set_ne (fun e=>hj e.symm)] at hy
   exact (hoth j y hj hy).1.state rfl rfl
 ·have hy:(zn s m x).1.Ws[j]? =some y:=hy
  rw [eWs] at hy
  have:=G.wob j y hy h6
  show y.G.Obj≤((zn s m x).1.H.Objs.length:Int)
  omega
 ·have up: ∀ {z:zc},Uw (s.H.Objs.length:Int) z→Uw ((zn s m x).1.H.Objs.length:Int) z:=fun ⟨a,b,c⟩=>⟨fun v hv=>by have:=a v hv;omega,by omega,fun e=>by have:=c e;omega⟩
  rcases List.mem_or_eq_of_mem_set (show y∈s.Ms.set (m-1).toNat (zn s m x).2 from hy) with h | rfl
  ·exact up (G.buf y h)
  ·exact up B'
theorem zwP {p:zb} (h:zE p):FG p (zT p+1) 0 (wg p) (gh0 p):=by
 have G:=zwQ h
 have hn:=h.n
 have hms: ∀x∈(wg p).Ms,∃r,x=v9 r:=fun x hx=>by
  obtain ⟨r,_,e⟩:=List.mem_map.1 (show x∈p.Regs.map v9 from hx)
  exact ⟨r,e.symm⟩
 have own:(wg p).Ms.flatMap va=[]:=zce (fun x hx=>by
  obtain ⟨r,rfl⟩:=hms x hx
  exact vf ⟨by show (0:Int)≠3;decide,by show (0:Int)≠33;decide,by show (0:Int)≠34;decide,by show (0:Int)≠37;decide⟩)
 have hold:(wg p).Ms.flatMap (yb (wg p))=[]:=zce (fun x hx=>by
  obtain ⟨r,rfl⟩:=hms x hx
  unfold yb
  rw [uk ⟨by show (0:Int)≠3;decide,by show (0:Int)≠33;decide,by show (0:Int)≠36;decide,by show (0:Int)≠37;decide,by show (0:Int)≠38;decide⟩];rfl)
 refine ⟨G.E,by rw [own,List.append_nil];exact G.X,G.W,fun i x hx=> ?_,?_,fun o ho=> ?_,fun i x hx h6=> ?_,fun x hx=> ?_,fun o h1 h2=> ?_,zwL h⟩
 ·obtain ⟨r,rfl⟩:=hms x (List.mem_of_getElem? hx)
  exact MX.plain ⟨by show (0:Int)≠3;decide,by show (0:Int)≠32;decide,by show (0:Int)≠34;decide,by show (0:Int)≠37;decide⟩ (fun _=>rfl) (fun v hv=>by cases hv)
   ⟨fun e=>absurd e (by show ¬(0:Int)=21;decide),fun e=>absurd e (by show ¬((0:Int)=22∨(((0:Int)=1∨(0:Int)=3)∧(0:Int)=22));decide)⟩
 ·have e:Wl p (wg p) (gh0 p)=zjR p (wg p) (gh0 p):=by unfold Wl zjR;rw [hold,List.append_nil]
  rw [e];exact G.B
 ·have ho:zO (ZT p) o=true:=ho
  show o≤(p.H.Objs.length:Int)
  refine Int.not_lt.1 fun hlt=> ?_
  obtain ⟨a,b,_⟩:=(vF _ _).1 ho
  have b2: ¬zO (Wr (p.H.Objs.length:Int)) o=true:=fun e=>by
   have:=(zsv (n:=p.H.Objs.length) (by omega) o).1 e
   omega
  have b3:=(zcj _ _ o).2 ⟨ho,(zu6 _ (by omega)).2 b2⟩
  rw [zg1 h] at b3
  exact zc1 o b3
 ·obtain ⟨j,_,e⟩:=List.mem_map.1 (show x∈(List.range p.Workers.toNat).map (uJ p) from List.mem_of_getElem? hx)
  rw [←e] at h6
  exact absurd h6 (by show ¬(0:Int)=6;decide)
 ·obtain ⟨r,rfl⟩:=hms x hx
  exact ⟨fun v hv=>(by cases hv),(by show (0:Int)≤(p.H.Objs.length:Int);omega),fun e=>absurd e (by show ¬((0:Int)=3∨(0:Int)=37);decide)⟩
 ·have:o≤(p.H.Objs.length:Int):=h2
  omega
theorem FG.grey {p:zb} {nb k:Nat} {s:za} {gh:Gh} (G:FG p nb k s gh) {o:Int} (h:o∈Wl p s gh):xg s.T o=1:=(G.B.gr o).1 h
theorem ztx {p:zb} {s:za} {gh:Gh} {i:Nat} {x:ze} (hx:s.Ws[i]? =some x) {o:Int} (h:o∈zL s x):o∈Wl p s gh :=
 List.mem_append_right _ (List.mem_append_left _ (List.mem_flatMap.2 ⟨x,List.mem_of_getElem? hx,h⟩))
theorem ztW {p:zb} {s:za} {gh:Gh} {i:Nat} {x:zc} (hx:s.Ms[i]? =some x) {o:Int} (h:o∈yb s x):o∈Wl p s gh :=
 List.mem_append_right _ (List.mem_append_right _ (List.mem_flatMap.2 ⟨x,List.mem_of_getElem? hx,h⟩))
end
end Go.Pe.G
namespace Go.Pe.G
open Go.Pe
noncomputable section
theorem zlC: ∀(n:Nat) (l:List Int),l.Nodup→(∀o∈l,1≤o∧o≤(n:Int))→l.length≤n
 | 0,[],_,_=>Nat.le_refl _
 | 0,a::l,_,h=>by have:=h a (by simp);omega
 | n+1,l,hd,h=>by
  have ih:=zlC n (l.erase ((n+1:Nat):Int)) (hd.erase _) (fun o ho=>by
   have:=(hd.mem_erase_iff).1 ho
   have h2:=h o this.2
   have h3:=this.1
   omega)
  rw [List.length_erase] at ih
  split at ih<;>omega
theorem zrS {α β:Type} {f:α→List β}: ∀(l:List α),(∀x∈l,f x≠[])→l.length≤(l.flatMap f).length
 | [],_=>Nat.zero_le _
 | a::l,h=>by
  rw [List.flatMap_cons,List.length_append,List.length_cons]
  have h1:=List.length_pos_iff.2 (h a (by simp))
  have h2:=zrS l (fun x hx=>h x (List.mem_cons_of_mem _ hx))
  omega
def Yp (m:List (BitVec 64)) (c:zw):Nat:=if c.PC=0 then 3 else if ld m c.Head=c.H then (3-c.PC).toNat else (6-c.PC).toNat
theorem zvu {m:List (BitVec 64)} {c:zw} (h:0≤c.PC∧c.PC≤2):1≤Yp m c:=by
 unfold Yp
 split
 ·omega
 split<;>omega
theorem zdO {m:List (BitVec 64)} {c:zw} (ho:c.Out=0) (hpc:0≤c.PC∧c.PC≤2) (hk:c.Kind=1∨c.Kind=2) (hh:0≤c.Head∧c.Head<m.length) (hn:c.Kind=1→wc (c.Next+c.X)≠c.Head) :
  (zk m c).2.Out≠0∨Yp (zk m c).1 (zk m c).2<Yp m c:=by
 unfold zk
 rw [if_neg (by omega)]
 by_cases c0:c.PC=0
 ·rw [if_pos c0]
  split
  ·exact .inl (by show (2:Int)≠0;decide)
  ·right
   unfold Yp
   dsimp only
   rw [if_neg (by decide),if_pos rfl,if_pos c0]
   decide
 rw [if_neg c0]
 by_cases c1:c.PC=1
 ·rw [if_pos c1]
  right
  split
  ·unfold Yp
   dsimp only
   rw [if_neg (by decide),if_neg c0,c1]
   split<;>decide
  ·rename_i h2
   unfold Yp
   dsimp only
   rw [if_neg (by decide),if_neg c0,c1,yq (hn (by omega))]
   split<;>decide
 rw [if_neg c1]
 have c2:c.PC=2:=by omega
 dsimp only
 by_cases e:ld m c.Head=c.H
 ·have hsw:(sw m c.Head c.H (yV ((c.H >>> 32)+1#64) (if c.Kind=2 then c.Y else c.X))).2=true:=by unfold sw;rw [if_pos ⟨hh.1,hh.2,e⟩]
  rw [hsw,if_pos rfl]
  left
  split<;>(show (1:Int)≠0;decide)
 ·have hsw:sw m c.Head c.H (yV ((c.H >>> 32)+1#64) (if c.Kind=2 then c.Y else c.X))=(m,false):=by unfold sw;rw [if_neg (fun x=>e x.2.2)]
  rw [hsw]
  right
  rw [if_neg (show ¬((m,false):List (BitVec 64)×Bool).2=true from Bool.false_ne_true)]
  unfold Yp
  dsimp only
  rw [if_pos rfl,if_neg c0,if_neg e,c2]
  decide
def YX (m:List (BitVec 64)) (g:zy):Nat :=
 if g.PC=7 then Yp m g.C else if g.PC=6 then 4 else if g.PC=5 then 4+Yp m g.C else if g.PC=4 then 8 else if g.PC=3 then 7+(4-g.D.PC).toNat else if g.PC=2 then 1 else if g.PC=1 then 12 else 13
theorem zkn (m:List (BitVec 64)) {c:zw} (h:0≤c.PC):Yp m c≤5:=by
 unfold Yp
 split
 ·omega
 split<;>omega
theorem zlr (p:zb) (m:List (BitVec 64)) (g:zy):YX m (zeD p g)=7:=by
 unfold YX zeD Yp
 dsimp only
 simp
theorem zsy {m:List (BitVec 64)} {d:zg} (ho:d.Out=0) (hpc:0≤d.PC∧d.PC≤3):(yG m d).2.PC=d.PC+1:=by
 unfold yG
 rw [if_neg (by omega)]
 split
 ·show (1:Int)=_;omega
 split
 ·split<;>(show (2:Int)=_;omega)
 split
 ·show (3:Int)=_;omega
 ·show (4:Int)=_;omega
theorem zui {p:zb} (hp:zE p) {nb k:Nat} {s:za} {g:zy} {gh:Gh} {own:List Int} (X:SX p nb s gh own k) (G:GX p s gh g) (M:MOk p nb g) (h0:g.Out=0) (hE:g.PC=5→(zk s.M g.C).2.Out≠2) :
  (zp s g).2.Out≠0∨YX (zp s g).1.M (zp s g).2<YX s.M g:=by
 have hF:=uI hp
 have hEm:=xW hp
 have hlen:=X.L.len
 have hpc:=G.pc
 have hmd:=G.md
 have hnb:=X.S.nbk
 unfold zp
 rw [if_neg (by omega)]
 by_cases p7:g.PC=7
 ·rw [if_pos p7]
  obtain ⟨c1,c2,c3,c4,c5⟩:=G.c7 p7 h0
  obtain ⟨m1,m2,m3,m4,m5⟩:=M.c7 p7
  have r:=zdO (m:=s.M) c1 c2 (.inl m1) (by omega) (fun _=>by rw [m3,xm (by omega) (by omega)];omega)
  unfold zak
  dsimp only
  split
  ·exact .inl (by show (1:Int)≠0;decide)
  ·rename_i e
   have hout:=XE s.M c1 c2 (.inl m1)
   right
   unfold YX
   dsimp only
   rw [if_pos p7,if_pos p7]
   rcases r with r | r
   ·omega
   ·exact r
 rw [if_neg p7]
 by_cases p6:g.PC=6
 ·rw [if_pos p6]
  right
  unfold zmx YX Yp
  dsimp only
  rw [if_pos rfl,if_pos rfl,if_neg p7,if_pos p6]
  decide
 rw [if_neg p6]
 by_cases p5:g.PC=5
 ·rw [if_pos p5]
  obtain ⟨c1,c2,c3⟩:=G.c5 p5 h0
  obtain ⟨m1,m2,m3,m4,m5⟩:=M.c5 p5
  have r:=zdO (m:=s.M) c1 c2 (.inr m1) (by omega) (fun e=>by omega)
  have hpos:=zvu (m:=s.M) c2
  have hout:=XE s.M c1 c2 (.inr m1)
  have he:=hE p5
  unfold zgb
  dsimp only
  right
  by_cases e1:(zk s.M g.C).2.Out=1
  ·rw [if_pos e1]
   unfold YX
   dsimp only
   rw [if_neg (by decide),if_pos rfl,if_neg p7,if_neg p6,if_pos p5]
   omega
  ·rw [if_neg e1,if_neg he]
   unfold YX
   dsimp only
   rw [if_neg p7,if_neg p6,if_pos p5,if_neg p7,if_neg p6,if_pos p5]
   rcases r with r | r
   ·omega
   ·omega
 rw [if_neg p5]
 by_cases p4:g.PC=4
 ·rw [if_pos p4]
  right
  dsimp only
  rw [zlr]
  unfold YX
  rw [if_neg p7,if_neg p6,if_neg p5,if_pos p4]
  decide
 rw [if_neg p4]
 by_cases p3:g.PC=3
 ·rw [if_pos p3]
  obtain ⟨c1,c2,c3⟩:=G.d3 p3 h0
  have hd:=c3.pc
  have hr:=zsy (m:=s.M) c3.out hd
  have e0:YX s.M g=7+(4-g.D.PC).toNat:=by unfold YX;rw [if_neg p7,if_neg p6,if_neg p5,if_neg p4,if_pos p3]
  rw [e0]
  unfold zf4
  dsimp only
  split
  ·exact .inl (by show (1:Int)≠0;decide)
  right
  split
  ·rw [zlr];omega
  ·unfold YX
   dsimp only
   rw [if_neg p7,if_neg p6,if_neg p5,if_neg p4,if_pos p3,hr]
   omega
 rw [if_neg p3]
 by_cases p2:g.PC=2
 ·rw [if_pos p2]
  exact .inl (by show (1:Int)≠0;decide)
 rw [if_neg p2]
 right
 by_cases p1:g.PC=1
 ·rw [if_pos p1]
  have e0:YX s.M g=12:=by unfold YX;rw [if_neg p7,if_neg p6,if_neg p5,if_neg p4,if_neg p3,if_neg p2,if_pos p1]
  rw [e0]
  unfold zf0
  dsimp only
  split
  ·show YX s.M {g with PC:=2}<12
   unfold YX
   dsimp only
   simp
  split
  ·show 7+(4-(0:Int)).toNat<12
   decide
  split
  ·show 8<12
   decide
  ·rw [zlr];decide
 ·rw [if_neg p1]
  have e0:YX s.M g=13:=by unfold YX;rw [if_neg p7,if_neg p6,if_neg p5,if_neg p4,if_neg p3,if_neg p2,if_neg p1]
  rw [e0]
  show 12<13
  decide
end
end Go.Pe.G
namespace Go.Pe.G
open Go.Pe
noncomputable section
theorem zii {α β:Type} {f:α→List β}: ∀(l:List α),(∀x∈l,(f x).length≤1)→(l.flatMap f).length≤l.length
 | [],_=>Nat.le_refl _
 | a::l,h=>by
  rw [List.flatMap_cons,List.length_append,List.length_cons]
  have h1:=h a (List.mem_cons_self ..)
  have h2:=zii l (fun x hx=>h x (List.mem_cons_of_mem _ hx))
  omega
theorem zln {α β:Type} {f:α→List β} {y:α} (hy0:f y=[]): ∀(l:List α),y∈l→(∀x∈l,(f x).length≤1)→(l.flatMap f).length+1≤l.length
 | [],hy,_=>by cases hy
 | a::l,hy,h=>by
  rw [List.flatMap_cons,List.length_append,List.length_cons]
  have h1:=h a (List.mem_cons_self ..)
  have hl:=fun x hx=>h x (List.mem_cons_of_mem a hx)
  rcases List.mem_cons.1 hy with rfl | hy
  ·have h2:=zii l hl
   rw [hy0];show 0+_+1≤_;omega
  ·have h2:=zln hy0 l hy hl
   omega
theorem zrO (g:zy):(xB g).length≤1:=by unfold xB;split<;>simp
theorem zq0 (x:zc):(va x).length≤1:=by
 unfold va
 split
 ·simp
 split
 ·exact zrO _
 ·simp
theorem zpI (x:ze):(xA x).length≤1:=by
 unfold xA
 split
 ·simp
 split
 ·exact zrO _
 ·simp
theorem FG.empty {p:zb} (hp:zE p) {k:Nat} {s:za} {gh:Gh} (G:FG p (zT p+1) k s gh) (h:(∃x∈s.Ws,xA x=[])∨(∃x∈s.Ms,va x=[])):gh.E≠[]:=by
 have hb:=zav hp
 have hN:=G.E.H.n
 have hwl:=G.E.wl
 have hml:=G.E.ml
 have hall:=G.X.L.all.length_eq
 have hn:(ziB (zT p+1)).length=zT p:=by unfold ziB;simp
 rw [hn] at hall
 simp only [List.length_append] at hall
 have hF:=zrS gh.F G.ne
 have hbag:=zlC s.H.Objs.length _ G.B.nd (fun o ho=>⟨(zbf ((G.B.gr o).1 ho)).1,G.mrk o ((uQ _ _).1 ((G.B.gr o).1 ho)).1⟩)
 unfold Wl yt at hbag
 simp only [List.length_append] at hbag
 have w1:=zii s.Ws (fun x _=>zpI x)
 have m1:=zii s.Ms (fun x _=>zq0 x)
 intro e
 rw [e] at hall
 simp only [List.length_nil] at hall
 rcases h with ⟨x,hx,e⟩ | ⟨x,hx,e⟩
 ·have:=zln e s.Ws hx (fun x _=>zpI x)
  omega
 ·have:=zln e s.Ms hx (fun x _=>zq0 x)
  omega
end
end Go.Pe.G
namespace Go.Pe.G
open Go.Pe
noncomputable section
inductive Reach (h:zC) (R:BitVec 64):Int→Prop
 | root (o:Int) (h1:zO R o=true) (h2:1≤o∧o≤(h.Objs.length:Int)):Reach h R o
 | step (o v:Int) (h1:Reach h R o) (h2:v∈yv h o) (h3:1≤v∧v≤(h.Objs.length:Int)):Reach h R v
theorem Reach.in {h:zC} {R:BitVec 64} {o:Int} (r:Reach h R o):1≤o∧o≤(h.Objs.length:Int):=by
 cases r with
 | root _ _ h2=>exact h2
 | step _ _ _ _ h3=>exact h3
def mt (met:List Int) (o:Int):Int:=met.getD (o-1).toNat 0
def zf7 (met:List Int):Nat:=met.countP (fun x=>decide (x=0))
theorem zwN {met:List Int} {o:Int} (h:1≤o∧o≤(met.length:Int)):met[(o-1).toNat]? =some (mt met o):=by
 have e:=List.getElem?_eq_getElem (show (o-1).toNat<met.length by omega)
 unfold mt
 rw [List.getD_eq_getElem?_getD,e];rfl
theorem zj4 {met:List Int} {o q x:Int} (h:1≤o∧o≤(met.length:Int)) (hq:1≤q):mt (met.set (o-1).toNat x) q=if q=o then x else mt met q:=by
 unfold mt
 rw [List.getD_eq_getElem?_getD,List.getD_eq_getElem?_getD,List.getElem?_set]
 by_cases e:q=o
 ·subst e;rw [if_pos rfl,if_pos rfl,if_pos (by omega)];rfl
 ·rw [if_neg (by omega),if_neg e]
theorem zt5 {met:List Int} {o x:Int} (h:1≤o∧o≤(met.length:Int)) (h0:mt met o=0) (hx:x≠0):zf7 (met.set (o-1).toNat x)+1=zf7 met:=by
 have hl:(o-1).toNat<met.length:=by omega
 have e:met[(o-1).toNat]'hl=0:=by
  have:=zwN h
  rw [h0,List.getElem?_eq_getElem hl] at this
  exact Option.some.inj this
 have hm:(0:Int)∈met:=by rw [←e];exact List.getElem_mem hl
 have hp:0<zf7 met:=List.countP_pos_iff.2 ⟨0,hm,by simp⟩
 unfold zf7 at hp ⊢
 rw [List.countP_set hl,e]
 simp [hx]
 omega
structure RI (h:zC) (R:BitVec 64) (met wait:List Int):Prop where
 len:met.length=64
 val: ∀o,1≤o→0≤mt met o∧mt met o≤100-(zf7 met:Int)
 rc: ∀o,1≤o→0<mt met o→Reach h R o
 rt: ∀o,zO R o=true→1≤o∧o≤(h.Objs.length:Int)→0<mt met o
 wt: ∀o∈wait,(1≤o∧o≤(h.Objs.length:Int))∧0<mt met o
 cl: ∀o,1≤o→0<mt met o→o∉wait→∀v∈yv h o,1≤v∧v≤(h.Objs.length:Int)→0<mt met v
 zl:zf7 met≤64
theorem RI.add {h:zC} {R:BitVec 64} {met wait:List Int} {o v:Int} (hn:h.Objs.length≤9) (I:RI h R met wait) (ho:o∈wait) (hv:v∈yv h o) (hr:1≤v∧v≤(h.Objs.length:Int)) (h0:mt met v=0) :
  RI h R (met.set (v-1).toNat (mt met o+1)) (wait++[v])∧zf7 (met.set (v-1).toNat (mt met o+1))+1=zf7 met:=by
 obtain ⟨ho1,ho2⟩:=I.wt o ho
 have hlen:=I.len
 have hvl:1≤v∧v≤(met.length:Int):=by omega
 have hz:=zt5 (x:=mt met o+1) hvl h0 (by omega)
 have hval:=I.val o ho1.1
 have hzl:=I.zl
 have key: ∀q,1≤q→0<mt met q→0<mt (met.set (v-1).toNat (mt met o+1)) q:=fun q hq hp=>by
  rw [zj4 hvl hq];split<;>omega
 refine ⟨⟨by rw [List.length_set];exact hlen,fun q hq=> ?_,fun q hq hp=> ?_,fun q a b=>key q b.1 (I.rt q a b),fun q hq=> ?_,fun q hq hp hw u hu hur=> ?_,by omega⟩,hz⟩
 ·have:=I.val q hq
  rw [zj4 hvl hq];split<;>omega
 ·rw [zj4 hvl hq] at hp
  split at hp
  ·rename_i e;subst e;exact .step o q (I.rc o ho1.1 ho2) hv hr
  ·exact I.rc q hq hp
 ·rcases List.mem_append.1 hq with hq | hq
  ·exact ⟨(I.wt q hq).1,key q (I.wt q hq).1.1 (I.wt q hq).2⟩
  ·simp at hq;subst hq
   refine ⟨hr,?_⟩
   rw [zj4 hvl hr.1,if_pos rfl];omega
 ·have hw1:q∉wait:=fun e=>hw (List.mem_append_left _ e)
  have hw2:q≠v:=fun e=>hw (by rw [e];simp)
  rw [zj4 hvl hq,if_neg hw2] at hp
  exact key u hur.1 (I.cl q hq hp hw1 u hu hur)
end
end Go.Pe.G
namespace Go.Pe.G
open Go.Pe
noncomputable section
end
end Go.Pe.G
namespace Go.Pe.G
open Go.Pe
noncomputable section
def zeX (x:ze) (u j:Int):Prop:=(x.PC=5∨x.PC=6∨x.PC=8)→x.Obj=u→x.Slot≤j
def zlA (x:zc) (u j:Int):Prop:=(x.PC=36∨x.PC=37∨x.PC=38)→x.Obj=u→x.Slot≤j
def US (s:za) (u j:Int):Prop:=(∀(i:Nat) x,s.Ws[i]? =some x→zeX x u j)∧(∀(i:Nat) x,s.Ms[i]? =some x→zlA x u j)
def zsK (g:zy) (o:Int):Prop:=g.Out=0∧(g.PC=0∨g.PC=1)∧g.Obj=o
def zf6 (x:ze) (o:Int):Prop:=x.PC=6∧zsK x.G o
def ziE (x:zc) (o:Int):Prop:=o∈x.Buf∨((x.PC=22∨((x.PC=1∨x.PC=3)∧x.Ret=22))∧x.Old=o)∨((x.PC=3∨x.PC=37)∧zsK x.G o)
def zn9 (s:za) (o:Int):Prop:=(∃(i:Nat) (x:ze),s.Ws[i]? =some x∧zf6 x o)∨(∃(i:Nat) (x:zc),s.Ms[i]? =some x∧ziE x o)
inductive zjA (s:za) (W:Int→Int→Prop):Int→Prop
 | pend (o:Int) (h:zn9 s o):zjA s W o
 | white (u j o:Int) (hW: ¬W u j) (hj:yX s.H u j=true) (he:zJ s.H u j=o) (hu: ¬zO s.T.Marks u=true) (hp:zjA s W u):zjA s W o
 | grey (u j o:Int) (hW: ¬W u j) (hj:yX s.H u j=true) (he:zJ s.H u j=o) (hg:xg s.T u=1) (hs:US s u j):zjA s W o
structure zpo (s s':za) (W W':Int→Int→Prop):Prop where
 mono: ∀o,zO s.T.Marks o=true→zO s'.T.Marks o=true
 hp: ∀o,zn9 s o→zO s'.T.Marks o=true∨zn9 s' o
 he: ∀u j,¬W u j→yX s.H u j=true→(¬W' u j∧yX s'.H u j=true∧zJ s'.H u j=zJ s.H u j)∨(zJ s.H u j=0∨zO s'.T.Marks (zJ s.H u j)=true∨zn9 s' (zJ s.H u j))
 hg: ∀u j,¬W u j→yX s.H u j=true→xg s.T u=1→US s u j→(xg s'.T u=1∧US s' u j)∨(zJ s.H u j=0∨zO s'.T.Marks (zJ s.H u j)=true∨zn9 s' (zJ s.H u j))
 hn: ∀u j,¬W u j→yX s.H u j=true→¬zO s.T.Marks u=true→zO s'.T.Marks u=true→xg s'.T u=1∧US s' u j
theorem Ya {h:zC} {u j:Int} (e:yX h u j=true):(1≤u∧u≤(h.Objs.length:Int))∧0≤j∧j<((yv h u).length:Int):=by
 unfold yX at e
 simp only [Bool.and_eq_true,decide_eq_true_eq] at e
 exact ⟨⟨e.1.1.1,e.1.1.2⟩,e.1.2,e.2⟩
theorem zpo.prot {s s':za} {W W':Int→Int→Prop} (P:zpo s s' W W') {o:Int} (h:zjA s W o):o≠0→zO s'.T.Marks o=true∨zjA s' W' o:=by
 have cov: ∀v:Int,v≠0→(v=0∨zO s'.T.Marks v=true∨zn9 s' v)→zO s'.T.Marks v=true∨zjA s' W' v:=by
  rintro v h0 (e | e | e)
  ·exact absurd e h0
  ·exact .inl e
  ·exact .inr (.pend v e)
 induction h with
 | pend o h=>exact fun _=>(P.hp o h).imp id (fun h=> .pend o h)
 | white u j o hW hj he hu hp ih =>
  intro h0
  subst he
  have hu0:u≠0:=by have:=Ya hj;omega
  rcases P.he u j hW hj with ⟨a,b,c⟩ | c
  ·by_cases hm:zO s'.T.Marks u=true
   ·obtain ⟨d,e⟩:=P.hn u j hW hj hu hm
    exact .inr (.grey u j _ a b c d e)
   ·rcases ih hu0 with h | h
    ·exact absurd h hm
    ·exact .inr (.white u j _ a b c hm h)
  ·exact cov _ h0 c
 | grey u j o hW hj he hg hs =>
  intro h0
  subst he
  rcases P.he u j hW hj with ⟨a,b,c⟩ | c
  ·rcases P.hg u j hW hj hg hs with ⟨d,e⟩ | c2
   ·exact .inr (.grey u j _ a b c d e)
   ·exact cov _ h0 c2
  ·exact cov _ h0 c
def zd4 (n:Int) (x:ze):Prop:=(x.PC=5→0≤x.Slot∧x.Slot<n)∧(x.PC=6→1≤x.Slot∧x.Slot≤n)∧(x.PC=8→x.Slot=n)
def zmR (n:Int) (x:zc):Prop:=(x.PC=36→0≤x.Slot∧x.Slot<n)∧(x.PC=37→1≤x.Slot∧x.Slot≤n)∧(x.PC=38→x.Slot=n)
def zjx (p:zb) (s:za) (W:Int→Int→Prop) (m:Int) (x:zc):Prop :=
 ¬W (Za x (opM p m x).A) (opM p m x).S→((x.PC=21∨x.PC=22∨((x.PC=1∨x.PC=3)∧x.Ret=22))→x.Old=zJ s.H (Za x (opM p m x).A) (opM p m x).S) ∧
  (x.PC=23→zJ s.H (Za x (opM p m x).A) (opM p m x).S=0∨zO s.T.Marks (zJ s.H (Za x (opM p m x).A) (opM p m x).S)=true∨zJ s.H (Za x (opM p m x).A) (opM p m x).S∈x.Buf)
structure PI (p:zb) (s:za) (W:Int→Int→Prop):Prop where
 lv: ∀o,Reach p.H (ZT p) o→zO s.T.Marks o=true∨zjA s W o
 sw: ∀(i:Nat) x,s.Ws[i]? =some x→zd4 p.H.Slots x
 sx: ∀(i:Nat) x,s.Ms[i]? =some x→zmR p.H.Slots x
 cv: ∀(i:Nat) x,s.Ms[i]? =some x→zjx p s W ((i:Int)+1) x
theorem zlM {s:za} {g:zy} {o:Int} (hmd:1≤g.Mode∧g.Mode≤3) (ho:1≤o∧o≤64) (hb:zO s.T.Black o=true→zO s.T.Marks o=true) (a:zsK g o) :
  zsK (zp s g).2 o∨zO (zp s g).1.T.Marks o=true:=by
 obtain ⟨h1,h2,h3⟩:=a
 unfold zp
 rw [if_neg (by omega),if_neg (by omega),if_neg (by omega),if_neg (by omega),if_neg (by omega),if_neg (by omega),if_neg (by omega)]
 split
 ·right
  show zO (ui s.T g.Obj).1.Marks o=true
  rw [h3]
  unfold ui
  split
  ·rename_i e
   exact Decidable.byContradiction fun hc=>((Ut ho).2 hc) e
  split
  ·exact (wF _ ho o).2 (.inr rfl)
  ·rename_i e
   exact hb (by unfold zO;simpa using e)
 ·left
  exact ⟨h1,.inr rfl,h3⟩
end
end Go.Pe.G
namespace Go.Pe.G
open Go.Pe
noncomputable section
theorem zv8 {h:zC} {a i v u j:Int} (hne: ¬(u=a∧j=i)) (hi:yX h a i=true→0≤i):yX (ZW h a i v) u j=yX h u j∧zJ (ZW h a i v) u j=zJ h u j:=by
 have hl:=zay h a i v
 by_cases hc:yX h a i=true∧0≤v∧v≤(h.Objs.length:Int)
 ·have hs:=Ya hc.1
  have e0:ZW h a i v={h with Objs:=h.Objs.set (a-1).toNat ((yv h a).set i.toNat v)}:=by unfold ZW;rw [if_pos hc]
  have es:1≤u→yv (ZW h a i v) u=if u=a then (yv h a).set i.toNat v else yv h u:=fun hu=>by
   rw [e0]
   unfold yv
   rw [zqP (by omega)]
   by_cases e:u=a
   ·rw [if_pos (by omega),if_pos e]
   ·rw [if_neg (by omega),if_neg e]
  have eh:yX (ZW h a i v) u j=yX h u j:=by
   unfold yX
   rw [hl]
   by_cases hu:1≤u
   ·rw [es hu]
    by_cases e:u=a
    ·rw [if_pos e,List.length_set,e]
    ·rw [if_neg e]
   ·simp [hu]
  refine ⟨eh,?_⟩
  unfold zJ
  rw [eh]
  split
  ·rename_i hj
   have hp:=Ya hj
   rw [es hp.1.1]
   by_cases e:u=a
   ·rw [if_pos e,zqP (by omega),if_neg (by
     intro e2
     exact hne ⟨e,by omega⟩),e]
   ·rw [if_neg e]
  ·rfl
 ·have e0:ZW h a i v=h:=by unfold ZW;rw [if_neg hc]
  rw [e0];exact ⟨rfl,rfl⟩
theorem zte (h:zC) (u j:Int):(yX h u j=true→yX (uo h) u j=true)∧zJ (uo h) u j=zJ h u j:=by
 have hl:=zgq h
 have e1:1≤u→u≤(h.Objs.length:Int)→yv (uo h) u=yv h u:=fun h1 h2=>by
  unfold yv uo
  rw [List.getD_eq_getElem?_getD,List.getD_eq_getElem?_getD,List.getElem?_append_left (by omega)]
 have e2:u=(h.Objs.length:Int)+1→yv (uo h) u=List.replicate h.Slots.toNat 0:=fun h1=>by
  unfold yv uo
  rw [List.getD_eq_getElem?_getD,List.getElem?_append_right (by omega),show (u-1).toNat-h.Objs.length=0 by omega]
  rfl
 have e3:yX h u j=true→yX (uo h) u j=true:=fun e=>by
  have hs:=Ya e
  unfold yX
  rw [e1 hs.1.1 hs.1.2,hl]
  simp;omega
 refine ⟨e3,?_⟩
 by_cases c:yX h u j=true
 ·have hs:=Ya c
  unfold zJ
  rw [if_pos c,if_pos (e3 c),e1 hs.1.1 hs.1.2]
 ·unfold zJ
  rw [if_neg c]
  split
  ·rename_i d
   have hs:=Ya d
   by_cases hu:u≤(h.Objs.length:Int)
   ·refine absurd ?_ c
    rw [e1 hs.1.1 hu] at hs
    unfold yX;simp;omega
   ·rw [e2 (by omega),List.getD_eq_getElem?_getD]
    cases hx:(List.replicate h.Slots.toNat (0:Int))[j.toNat]? with
    | none=>rfl
    | some v=>exact List.eq_of_mem_replicate (List.mem_of_getElem? hx)
  ·rfl
theorem ztH (s:za) (m:Int) (x:zc):((zn s m x).1.H=s.H∧x.PC≠23)∨(x.PC=23∧(zn s m x).1.H=ZW s.H (Za x (opM s.P m x).A) (opM s.P m x).S (Za x (opM s.P m x).R)∧(zn s m x).2.Buf=x.Buf)∨(x.PC=30∧(zn s m x).1.H=uo s.H):=by
 by_cases c:x.PC=23
 ·have e:zn s m x=zfv s m x:=by
   unfold zn
   rw [if_neg (by omega),if_neg (by omega),if_neg (by omega),if_neg (by omega),if_neg (by omega),if_neg (by omega),if_neg (by omega),if_neg (by omega),if_pos c]
  rw [e];exact .inr (.inl ⟨c,rfl,rfl⟩)
 by_cases d:x.PC=30
 ·have e:zn s m x=zao s m x:=by
   unfold zn
   rw [if_neg (by omega),if_neg (by omega),if_neg (by omega),if_neg (by omega),if_neg (by omega),if_neg (by omega),if_neg (by omega),if_neg (by omega),if_neg (by omega),if_pos d]
  rw [e]
  unfold zao
  split
  ·split
   ·exact .inr (.inr ⟨d,rfl⟩)
   ·exact .inl ⟨rfl,c⟩
  ·exact .inl ⟨rfl,c⟩
 ·rcases zlf s m x with h | h | h
  ·exact .inl ⟨h,c⟩
  ·exact absurd h c
  ·exact absurd h d
theorem zup {p:zb} {nb:Nat} {s:za} {gh:Gh} {m:Int} {x:zc} (K:MX p s gh x) (O:XOk p nb m x) (hb: ∀o,zO s.T.Black o=true→zO s.T.Marks o=true) {o:Int} (h:ziE x o):ziE (zn s m x).2 o∨zO (zn s m x).1.T.Marks o=true:=by
 have hrt:=O.ret
 have hpc:=O.pc
 refine wD (motive:=fun r=>ziE r.2 o∨zO r.1.T.Marks o=true) s m x ?_ ?_ ?_ ?_ ?_ ?_ ?_ ?_ ?_ ?_ ?_ ?_ ?_ ?_ ?_ ?_ ?_ ?_ ?_ ?_
 all_goals try (intro c)
 ·-- 0
  rcases h with h | ⟨h,_⟩ | ⟨h,_⟩
  ·left;left;unfold mu0 zba;repeat' split
   all_goals exact h
  ·omega
  ·omega
 ·-- 1
  unfold mu1;dsimp only
  split
  ·rename_i hl
   rcases h with h | ⟨h,e⟩ | ⟨h,_⟩
   ·have:x.Buf=[]:=List.length_eq_zero_iff.1 hl
    rw [this] at h;cases h
   ·left;right;left;exact ⟨.inl (by show x.Ret=22;omega),e⟩
   ·omega
  ·rename_i hl
   rcases h with h | ⟨h,e⟩ | ⟨h,_⟩
   ·obtain ⟨i,hi⟩:=List.mem_iff_getElem?.1 h
    have hil:=(List.getElem?_eq_some_iff.1 hi).1
    by_cases hlast:i=x.Buf.length-1
    ·left;right;right
     refine ⟨.inl rfl,rfl,.inl rfl,?_⟩
     show x.Buf.getD (x.Buf.length-1) 0=o
     rw [List.getD_eq_getElem?_getD,←hlast,hi];rfl
    ·left;left
     show o∈x.Buf.take (x.Buf.length-1)
     exact List.mem_of_getElem? (i:=i) (by rw [List.getElem?_take_of_lt (by omega)];exact hi)
   ·left;right;left;exact ⟨.inr ⟨.inr rfl,by show x.Ret=22;omega⟩,e⟩
   ·omega
 ·rcases h with h | ⟨h,_⟩ | ⟨h,_⟩
  ·left;left;exact h
  ·omega
  ·omega
 ·-- 3
  obtain ⟨G,gm,g0⟩:=K.p3 c
  unfold mu3;dsimp only
  rcases h with h | ⟨h,e⟩ | ⟨_,h⟩
  ·left;left;split<;>exact h
  ·left;right;left
   split
   ·exact ⟨.inr ⟨.inl rfl,by show x.Ret=22;omega⟩,e⟩
   ·exact ⟨.inr ⟨.inr c,by show x.Ret=22;omega⟩,e⟩
  ·rcases zlM G.md (h.2.2▸G.ob) (hb o) h with h' | h'
   ·left;right;right
    rw [if_neg (by have:=h'.1;omega)]
    exact ⟨.inl c,h'⟩
   ·exact .inr h'
 ·rcases h with h | ⟨h,_⟩ | ⟨h,_⟩
  ·left;left;exact h
  ·omega
  ·omega
 ·rcases h with h | ⟨h,_⟩ | ⟨h,_⟩
  ·left;left;unfold zeC;dsimp only;split<;>exact h
  ·omega
  ·omega
 ·rcases h with h | ⟨h,_⟩ | ⟨h,_⟩
  ·left;left;unfold zfk;dsimp only;split<;>exact h
  ·omega
  ·omega
 ·-- 22
  unfold zeN;dsimp only
  rcases h with h | ⟨h,e⟩ | ⟨h,_⟩
  ·left;left;split
   ·exact h
   ·exact List.mem_append_left _ h
  ·left
   split
   ·right;left;exact ⟨.inr ⟨.inl rfl,rfl⟩,e⟩
   ·left;exact List.mem_append_right _ (by rw [e];simp)
  ·omega
 ·rcases h with h | ⟨h,_⟩ | ⟨h,_⟩
  ·left;left;exact h
  ·omega
  ·omega
 ·rcases h with h | ⟨h,_⟩ | ⟨h,_⟩
  ·left;left;unfold zao;repeat' split
   all_goals exact h
  ·omega
  ·omega
 ·rcases h with h | ⟨h,_⟩ | ⟨h,_⟩
  ·left;left;unfold zeB;dsimp only;split<;>exact h
  ·omega
  ·omega
 ·rcases h with h | ⟨h,_⟩ | ⟨h,_⟩
  ·left;left;unfold zfd;dsimp only;repeat' split
   all_goals exact h
  ·omega
  ·omega
 ·rcases h with h | ⟨h,_⟩ | ⟨h,_⟩
  ·left;left;exact h
  ·omega
  ·omega
 ·rcases h with h | ⟨h,_⟩ | ⟨h,_⟩
  ·left;left;unfold zfi;dsimp only;split<;>exact h
  ·omega
  ·omega
 ·rcases h with h | ⟨h,_⟩ | ⟨h,_⟩
  ·left;left;unfold ze5;dsimp only;split<;>exact h
  ·omega
  ·omega
 ·rcases h with h | ⟨h,_⟩ | ⟨h,_⟩
  ·left;left;unfold zfh;dsimp only;split<;>exact h
  ·omega
  ·omega
 ·-- 37
  obtain ⟨G,gm,g0⟩:=K.p37 c
  unfold zap;dsimp only
  rcases h with h | ⟨h,e⟩ | ⟨_,h⟩
  ·left;left;split<;>exact h
  ·omega
  ·rcases zlM G.md (h.2.2▸G.ob) (hb o) h with h' | h'
   ·left;right;right
    rw [if_neg (by have:=h'.1;omega)]
    exact ⟨.inr c,h'⟩
   ·exact .inr h'
 ·rcases h with h | ⟨h,_⟩ | ⟨h,_⟩
  ·left;left;exact h
  ·omega
  ·omega
 ·rcases h with h | ⟨h,_⟩ | ⟨h,_⟩
  ·left;left;exact h
  ·omega
  ·omega
 ·exact .inl h
theorem zs8 {p:zb} {nb:Nat} {s:za} {gh:Gh} (hsl:s.H.Slots=p.H.Slots) (h1:1≤p.H.Slots∧p.H.Slots≤2) {m:Int} {x:zc} (O:XOk p nb m x) (S:zmR p.H.Slots x) :
  zmR p.H.Slots (zn s m x).2∧∀u j,0≤j→zlA x u j→zlA (zn s m x).2 u j∨zJ s.H u j=0∨ziE (zn s m x).2 (zJ s.H u j):=by
 have no: ∀ {y:zc},y.PC≠36→y.PC≠37→y.PC≠38→zmR p.H.Slots y∧∀u j,0≤j→zlA x u j→zlA y u j∨zJ s.H u j=0∨ziE y (zJ s.H u j) :=
  fun a b c=>⟨⟨fun e=>absurd e a,fun e=>absurd e b,fun e=>absurd e c⟩,fun u j _ _=> .inl (fun e=>by omega)⟩
 have on: ∀k:Int,(onM s k=36∧k≠p.H.Slots)∨(onM s k=38∧k=p.H.Slots):=fun k=>by
  unfold onM
  rw [hsl]
  split
  ·rename_i e;exact .inr ⟨rfl,e⟩
  ·rename_i e;exact .inl ⟨rfl,e⟩
 refine wD (motive:=fun r=>zmR p.H.Slots r.2∧∀u j,0≤j→zlA x u j→zlA r.2 u j∨zJ s.H u j=0∨ziE r.2 (zJ s.H u j)) s m x ?_ ?_ ?_ ?_ ?_ ?_ ?_ ?_ ?_ ?_ ?_ ?_ ?_ ?_ ?_ ?_ ?_ ?_ ?_ ?_
 all_goals try (intro c)
 ·unfold mu0 zba;repeat' split
  all_goals exact no (by (try dsimp only [setM]);omega) (by (try dsimp only [setM]);omega) (by (try dsimp only [setM]);omega)
 ·have:=O.ret (.inl c)
  unfold mu1;dsimp only;split
  ·exact no (by dsimp only;omega) (by dsimp only;omega) (by dsimp only;omega)
  ·exact no (by dsimp only;omega) (by dsimp only;omega) (by dsimp only;omega)
 ·unfold mu2;exact no (by dsimp only;omega) (by dsimp only;omega) (by dsimp only;omega)
 ·unfold mu3;dsimp only;split
  ·exact no (by dsimp only;omega) (by dsimp only;omega) (by dsimp only;omega)
  ·exact no (by dsimp only;omega) (by dsimp only;omega) (by dsimp only;omega)
 ·unfold zhg;exact no (by dsimp only [setM];omega) (by dsimp only [setM];omega) (by dsimp only [setM];omega)
 ·unfold zeC;dsimp only;split
  ·exact no (by dsimp only [vD];omega) (by dsimp only [vD];omega) (by dsimp only [vD];omega)
  ·exact no (by dsimp only;omega) (by dsimp only;omega) (by dsimp only;omega)
 ·unfold zfk;dsimp only;split
  ·exact no (by dsimp only;omega) (by dsimp only;omega) (by dsimp only;omega)
  ·exact no (by dsimp only;omega) (by dsimp only;omega) (by dsimp only;omega)
 ·unfold zeN;dsimp only;split
  ·exact no (by dsimp only;omega) (by dsimp only;omega) (by dsimp only;omega)
  ·exact no (by dsimp only;omega) (by dsimp only;omega) (by dsimp only;omega)
 ·unfold zfv;exact no (by dsimp only [vD];omega) (by dsimp only [vD];omega) (by dsimp only [vD];omega)
 ·unfold zao;split
  ·split
   ·exact no (by dsimp only [setM];omega) (by dsimp only [setM];omega) (by dsimp only [setM];omega)
   ·exact no (by dsimp only [vD];omega) (by dsimp only [vD];omega) (by dsimp only [vD];omega)
  ·exact no (by dsimp only;omega) (by dsimp only;omega) (by dsimp only;omega)
 ·unfold zeB;dsimp only;split
  ·exact no (by dsimp only;omega) (by dsimp only;omega) (by dsimp only;omega)
  ·exact no (by dsimp only;omega) (by dsimp only;omega) (by dsimp only;omega)
 ·unfold zfd;dsimp only;repeat' split
  all_goals exact no (by dsimp only;omega) (by dsimp only;omega) (by dsimp only;omega)
 ·unfold zgV;exact no (by dsimp only;omega) (by dsimp only;omega) (by dsimp only;omega)
 ·unfold zfi;dsimp only;split
  ·exact no (by dsimp only;omega) (by dsimp only;omega) (by dsimp only;omega)
  ·exact no (by dsimp only;omega) (by dsimp only;omega) (by dsimp only;omega)
 ·unfold ze5;dsimp only;split
  ·exact no (by dsimp only;omega) (by dsimp only;omega) (by dsimp only;omega)
  ·exact ⟨⟨fun _=>⟨Int.le_refl _,by show (0:Int)<_;omega⟩,fun e=>absurd e (by show ¬(36:Int)=37;decide),fun e=>absurd e (by show ¬(36:Int)=38;decide)⟩,fun u j h0 _=> .inl (fun _ _=>h0)⟩
 ·-- 36
  have hs:=S.1 c
  have w:wc (x.Slot+1)=x.Slot+1:=xm (by omega) (by omega)
  unfold zfh;dsimp only
  rw [w]
  split
  ·rename_i hv
   refine ⟨⟨fun e=> ?_,fun e=> ?_,fun e=> ?_⟩,fun u j h0 h=> ?_⟩
   ·dsimp only at e ⊢;have:=on (x.Slot+1);omega
   ·dsimp only at e ⊢;have:=on (x.Slot+1);omega
   ·dsimp only at e ⊢;have:=on (x.Slot+1);omega
   ·by_cases hu:x.Obj=u
    ·have hle:=h (.inl c) hu
     by_cases hj:j=x.Slot
     ·right;left;rw [←hu,hj];exact hv
     ·left;intro _ _;show x.Slot+1≤j;omega
    ·left;intro _ e;exact absurd e hu
  ·rename_i hv
   refine ⟨⟨fun e=>absurd e (by show ¬(37:Int)=36;decide),fun _=>⟨by show 1≤x.Slot+1;omega,by show x.Slot+1≤_;omega⟩,fun e=>absurd e (by show ¬(37:Int)=38;decide)⟩,fun u j h0 h=> ?_⟩
   by_cases hu:x.Obj=u
   ·have hle:=h (.inl c) hu
    by_cases hj:j=x.Slot
    ·right;right;right;right
     exact ⟨.inr rfl,rfl,.inl rfl,by rw [←hu,hj];rfl⟩
    ·left;intro _ _;show x.Slot+1≤j;omega
   ·left;intro _ e;exact absurd e hu
 ·-- 37
  have hs:=S.2.1 c
  unfold zap;dsimp only
  split
  ·refine ⟨⟨fun e=> ?_,fun e=> ?_,fun e=> ?_⟩,fun u j h0 h=> .inl (fun _ e=>h (.inr (.inl c)) e)⟩
   ·dsimp only at e ⊢;have:=on x.Slot;omega
   ·dsimp only at e ⊢;have:=on x.Slot;omega
   ·dsimp only at e ⊢;have:=on x.Slot;omega
  ·exact ⟨⟨fun e=>absurd e (by show ¬x.PC=36;omega),fun _=>hs,fun e=>absurd e (by show ¬x.PC=38;omega)⟩,fun u j h0 h=> .inl (fun _ e=>h (.inr (.inl c)) e)⟩
 ·unfold zgI;exact no (by dsimp only;omega) (by dsimp only;omega) (by dsimp only;omega)
 ·unfold zgC;exact no (by dsimp only;omega) (by dsimp only;omega) (by dsimp only;omega)
 ·exact ⟨S,fun u j _ h=> .inl h⟩
theorem zeo.mono {s s':za} (F:zeo s s') {o:Int} (h:zO s.T.Marks o=true):zO s'.T.Marks o=true:=by
 rcases F with ⟨e,_⟩ | ⟨q,_,_,e,_⟩ | ⟨q,_,e,_⟩ | ⟨_,_,e⟩
 ·rw [e];exact h
 ·rw [e];exact (Zd _ _ _).2 (.inl h)
 ·rw [e];exact h
 ·rw [e];exact (Zd _ _ _).2 (.inl h)
theorem ztY {p:zb} {s:za} (hP:s.P=p) {W:Int→Int→Prop} {m:Int} {x:zc} (K:zjx p s W m x) (mono: ∀o,zO s.T.Marks o=true→zO (zn s m x).1.T.Marks o=true) (hr:x.PC=1∨x.PC=3→x.Ret=2∨x.Ret=22) :
  ∀l:List zc,zjx p {(zn s m x).1 with Ms:=l} (fun u j=>W u j∨(x.PC=23∧u=Za x (opM p m x).A∧j=(opM p m x).S)) m (zn s m x).2:=by
 intro l
 have no: ∀ {t:za} {y:zc},¬(y.PC=21∨y.PC=22∨((y.PC=1∨y.PC=3)∧y.Ret=22))→y.PC≠23→zjx p t (fun u j=>W u j∨(x.PC=23∧u=Za x (opM p m x).A∧j=(opM p m x).S)) m y :=
  fun a b _=>⟨fun e=>absurd e a,fun e=>absurd e b⟩
 have keep: ∀ {t:za} {y:zc},y.IP=x.IP→y.Regs=x.Regs→Za y (opM p m y).A=Za x (opM p m x).A∧(opM p m y).S=(opM p m x).S:=fun e1 e2=>by
  unfold opM Za;rw [e1,e2];exact ⟨rfl,rfl⟩
 revert mono
 refine wD (motive:=fun r=>(∀o,zO s.T.Marks o=true→zO r.1.T.Marks o=true)→zjx p {r.1 with Ms:=l} (fun u j=>W u j∨(x.PC=23∧u=Za x (opM p m x).A∧j=(opM p m x).S)) m r.2) s m x ?_ ?_ ?_ ?_ ?_ ?_ ?_ ?_ ?_ ?_ ?_ ?_ ?_ ?_ ?_ ?_ ?_ ?_ ?_ ?_
 ·intro c _;unfold mu0 zba;repeat' split
  all_goals exact no (by (try dsimp only [setM]);omega) (by (try dsimp only [setM]);omega)
 ·intro c _
  have hr:=hr (.inl c)
  unfold mu1;dsimp only
  intro hW
  split
  ·refine ⟨fun e=> ?_,fun e=>by dsimp only at e;omega⟩
   have e:x.Ret=21∨x.Ret=22∨((x.Ret=1∨x.Ret=3)∧x.Ret=22):=e
   exact (K (fun h=>hW (by split<;>exact .inl h))).1 (.inr (.inr ⟨.inl c,by omega⟩))
  ·refine ⟨fun e=> ?_,fun e=>by dsimp only at e;omega⟩
   have e:(3:Int)=21∨(3:Int)=22∨(((3:Int)=1∨(3:Int)=3)∧x.Ret=22):=e
   exact (K (fun h=>hW (by split<;>exact .inl h))).1 (.inr (.inr ⟨.inl c,by omega⟩))
 ·intro c _;unfold mu2;exact no (by (try dsimp only);omega) (by (try dsimp only);omega)
 ·intro c _
  unfold mu3;dsimp only
  intro hW
  have eH:(zp s x.G).1.H=s.H:=by rw [W8]
  split
  ·refine ⟨fun e=> ?_,fun e=>by dsimp only at e;omega⟩
   have e:(1:Int)=21∨(1:Int)=22∨(((1:Int)=1∨(1:Int)=3)∧x.Ret=22):=e
   show x.Old=zJ (zp s x.G).1.H _ _
   rw [eH]
   exact (K (fun h=>hW (by split<;>exact .inl h))).1 (.inr (.inr ⟨.inr c,by omega⟩))
  ·refine ⟨fun e=> ?_,fun e=>by dsimp only at e;omega⟩
   have e:x.PC=21∨x.PC=22∨((x.PC=1∨x.PC=3)∧x.Ret=22):=e
   show x.Old=zJ (zp s x.G).1.H _ _
   rw [eH]
   exact (K (fun h=>hW (by split<;>exact .inl h))).1 (.inr (.inr ⟨.inr c,by omega⟩))
 ·intro c _;unfold zhg;exact no (by (try dsimp only [setM]);omega) (by (try dsimp only [setM]);omega)
 ·intro c _;unfold zeC;dsimp only;split
  ·exact no (by (try dsimp only [vD]);omega) (by (try dsimp only [vD]);omega)
  ·intro hW
   refine ⟨fun _=> ?_,fun e=>by dsimp only at e;omega⟩
   show zpp s m x=_
   unfold zpp
   rw [hP];rfl
 ·intro c mono;unfold zfk;dsimp only;split
  ·rename_i h
   intro hW
   have k:=(K (fun h=>hW (.inl h))).1 (.inl c)
   refine ⟨fun e=>by dsimp only at e;omega,fun _=> ?_⟩
   show zJ s.H (Za x (opM p m x).A) (opM p m x).S=0∨zO s.T.Marks (zJ s.H (Za x (opM p m x).A) (opM p m x).S)=true∨_
   rw [←k]
   rcases h with h | h
   ·exact .inl h
   ·right;left
    unfold xg at h
    split at h
    ·rename_i h2;exact ((zcj _ _ _).1 h2).1
    ·split at h
     ·assumption
     ·exact absurd rfl h
  ·intro hW
   exact ⟨fun _=>(K (fun h=>hW (.inl h))).1 (.inl c),fun e=>by dsimp only at e;omega⟩
 ·intro c mono;unfold zeN;dsimp only;split
  ·intro hW
   exact ⟨fun _=>(K (fun h=>hW (.inl h))).1 (.inr (.inl c)),fun e=>by dsimp only at e;omega⟩
  ·intro hW
   have k:=(K (fun h=>hW (.inl h))).1 (.inr (.inl c))
   refine ⟨fun e=>by dsimp only at e;omega,fun _=> .inr (.inr ?_)⟩
   show zJ s.H (Za x (opM p m x).A) (opM p m x).S∈x.Buf++[x.Old]
   rw [←k];simp
 ·intro c _;unfold zfv;exact no (by (try dsimp only [vD]);omega) (by (try dsimp only [vD]);omega)
 ·intro c _;unfold zao;split
  ·split
   ·exact no (by (try dsimp only [setM]);omega) (by (try dsimp only [setM]);omega)
   ·exact no (by (try dsimp only [vD]);omega) (by (try dsimp only [vD]);omega)
  ·exact no (by (try dsimp only);omega) (by (try dsimp only);omega)
 ·intro c _;unfold zeB;dsimp only;split
  ·exact no (by (try dsimp only);omega) (by (try dsimp only);omega)
  ·exact no (by (try dsimp only);omega) (by (try dsimp only);omega)
 ·intro c _;unfold zfd;dsimp only;repeat' split
  all_goals exact no (by (try dsimp only);omega) (by (try dsimp only);omega)
 ·intro c _;unfold zgV;exact no (by (try dsimp only);omega) (by (try dsimp only);omega)
 ·intro c _;unfold zfi;dsimp only;split
  ·exact no (by (try dsimp only);omega) (by (try dsimp only);omega)
  ·exact no (by (try dsimp only);omega) (by (try dsimp only);omega)
 ·intro c _;unfold ze5;dsimp only;split
  ·exact no (by (try dsimp only);omega) (by (try dsimp only);omega)
  ·exact no (by (try dsimp only);omega) (by (try dsimp only);omega)
 ·intro c _;unfold zfh;dsimp only
  have:=zcP s (wc (x.Slot+1))
  split
  ·exact no (by (try dsimp only);omega) (by (try dsimp only);omega)
  ·exact no (by (try dsimp only);omega) (by (try dsimp only);omega)
 ·intro c _;unfold zap;dsimp only
  have:=zcP s x.Slot
  split
  ·exact no (by (try dsimp only);omega) (by (try dsimp only);omega)
  ·exact no (by (try dsimp only);omega) (by (try dsimp only);omega)
 ·intro c _;unfold zgI;exact no (by (try dsimp only);omega) (by (try dsimp only);omega)
 ·intro c _;unfold zgC;exact no (by (try dsimp only);omega) (by (try dsimp only);omega)
 ·intro _ hW
  exact K (fun h=>hW (.inl h))
end
end Go.Pe.G
namespace Go.Pe.G
open Go.Pe
noncomputable section
theorem zmL {p:zb} {nb k:Nat} {s s':za} {gh:Gh} (G:FG p nb k s gh) (F:zeo s s') {u:Int} (hu:u≤(s.H.Objs.length:Int)) (h:xg s.T u=1):xg s'.T u=1∨(xg s.T u=1∧s'.T={s.T with Black:=s.T.Black|||bit u}):=by
 have ht:=(uQ _ _).1 h
 rcases F with ⟨e,_⟩ | ⟨q,_,_,e,_⟩ | ⟨q,hq,e,_⟩ | ⟨_,_,e⟩
 ·left;rw [e];exact h
 ·left;rw [e,uQ];exact ⟨(Zd _ _ _).2 (.inl ht.1),ht.2⟩
 ·by_cases hqu:u=q
  ·right;subst hqu;exact ⟨h,e⟩
  ·left;rw [e,uQ];exact ⟨ht.1,fun hb=>(Y2 hb).elim ht.2 (fun e=>hqu e)⟩
 ·left;rw [e,uQ]
  exact ⟨(Zd _ _ _).2 (.inl ht.1),fun hb=>(Y2 hb).elim ht.2 (fun e=>by omega)⟩
theorem zkQ {p:zb} {nb k:Nat} {s s':za} {gh:Gh} (G:FG p nb k s gh) (F:zeo s s') {u:Int} (hu:u≤(s.H.Objs.length:Int)) (h: ¬zO s.T.Marks u=true) (h':zO s'.T.Marks u=true):xg s'.T u=1:=by
 have nb: ¬zO s.T.Black u=true:=fun e=>h (G.B.blk u e)
 rcases F with ⟨e,_⟩ | ⟨q,_,_,e,_⟩ | ⟨q,hq,e,_⟩ | ⟨_,_,e⟩
 ·rw [e] at h';exact absurd h' h
 ·rw [uQ];refine ⟨h',?_⟩;rw [e];exact nb
 ·rw [e] at h';exact absurd h' h
 ·rw [e] at h'
  rcases Y2 h' with h2 | h2
  ·exact absurd h2 h
  ·omega
theorem zr1 {p:zb} {nb:Nat} {s:za} (E:EOk p nb s) {u j:Int} (h:yX s.H u j=true):0≤j∧j<p.H.Slots:=by
 have hs:=Ya h
 have hm:yv s.H u∈s.H.Objs:=by
  unfold yv
  rw [List.getD_eq_getElem?_getD,List.getElem?_eq_getElem (show (u-1).toNat<s.H.Objs.length by omega)]
  exact List.getElem_mem _
 have h1:=(E.H.objs _ hm).1
 have h2:=E.H.slots
 omega
theorem zwc {s:za} {m:Int} {x:zc} (c:x.PC=3):(zn s m x).2.PC=1∨(zn s m x).2.PC=3:=by
 unfold zn
 rw [if_neg (by omega),if_neg (by omega),if_neg (by omega),if_pos c]
 unfold mu3;dsimp only
 split
 ·exact .inl rfl
 ·exact .inr c
theorem zt4 {s:za} {m:Int} {x:zc} (c:x.PC=37):(zn s m x).2.Obj=x.Obj:=by
 have e37:zn s m x=zap s m x:=by
  unfold zn
  rw [if_neg (by omega),if_neg (by omega),if_neg (by omega),if_neg (by omega),if_neg (by omega),if_neg (by omega),if_neg (by omega),if_neg (by omega),if_neg (by omega),if_neg (by omega),if_neg (by omega),if_neg (by omega),if_neg (by omega),if_neg (by omega),if_neg (by omega),if_neg (by omega),if_pos c]
 rw [e37]
 unfold zap;dsimp only
 split<;>rfl
def zsa (s:za) (m:Int) (x:zc) (N C:List Int):Prop :=
 (N=[]∧C=[]∧(zn s m x).1.T=s.T)∨(N=[x.G.Obj]∧C=[]∧(x.PC=3∨x.PC=37)∧¬(s.T.Marks|||bit x.G.Obj=s.T.Marks)∧(zn s m x).1.T={s.T with Marks:=s.T.Marks|||bit x.G.Obj})∨(N=[]∧C=[x.Obj]∧x.PC=38∧(zn s m x).1.T=vq s.T x.Obj) ∨
   (N=[]∧C=[]∧x.PC=30∧zaX s.H s.P.Most=true∧(zn s m x).1.H=uo s.H∧(zn s m x).1.T=V4 s.T (wc (s.H.Objs.length+1)))
theorem FG.fresh {p:zb} (hp:zE p) {nb k:Nat} {s:za} {gh:Gh} (G:FG p nb k s gh):V4 s.T (wc (s.H.Objs.length+1))=⟨s.T.Marks|||bit ((s.H.Objs.length:Int)+1),s.T.Black|||bit ((s.H.Objs.length:Int)+1)⟩∧¬zO s.T.Marks ((s.H.Objs.length:Int)+1)=true∧(s.H.Objs.length:Int)≤9:=by
 have hN0:=G.E.H.n
 have hM0:=hp.most
 have hn6:=hp.n
 have nm: ¬zO s.T.Marks ((s.H.Objs.length:Int)+1)=true:=fun e=>by have:=G.mrk _ e;omega
 have hw:wc ((s.H.Objs.length:Int)+1)=(s.H.Objs.length:Int)+1:=xm (by omega) (by omega)
 rw [hw,zlp (by omega) nm (fun e=>nm (G.B.blk _ e))]
 exact ⟨rfl,nm,by omega⟩
theorem ztO {p:zb} (hp:zE p) {nb k:Nat} {s:za} {gh:Gh} (G:FG p nb k s gh) {m:Int} {i:Nat} {x:zc} (hx:s.Ms[i]? =some x) {N C:List Int} (hT:zsa s m x N C) {u:Int} (hg:xg s.T u=1)
  (h:(zn s m x).1.T={s.T with Black:=s.T.Black|||bit u}):x.PC=38∧x.Obj=u:=by
 have hb:=((uQ _ _).1 hg).2
 have hu:=(wF s.T.Black (zbf hg) u).2 (.inr rfl)
 rcases hT with ⟨_,_,e⟩ | ⟨_,_,_,_,e⟩ | ⟨_,_,c,e⟩ | ⟨_,_,_,_,e1,e⟩
 ·rw [e] at h
  have:=congrArg zo.Black h
  exact absurd (by rw [this];exact hu) hb
 ·rw [e] at h
  have:=congrArg zo.Black h
  exact absurd (by rw [this];exact hu) hb
 ·have hob:xg s.T x.Obj=1:=G.grey (ztW hx (by unfold yb;rw [Vk (.inr c)];simp))
  rw [e] at h
  unfold vq at h
  rw [if_pos hob] at h
  have hbb:s.T.Black|||bit x.Obj=s.T.Black|||bit u:=congrArg zo.Black h
  refine ⟨c,?_⟩
  rw [←hbb] at hu
  rcases Y2 hu with h2 | h2
  ·exact absurd h2 hb
  ·exact h2.symm
 ·obtain ⟨f1,f2,f3⟩:=G.fresh hp
  rw [e,f1] at h
  have:s.T.Marks|||bit ((s.H.Objs.length:Int)+1)=s.T.Marks:=congrArg zo.Marks h
  exact absurd (by rw [←this];exact (wF _ (by omega) _).2 (.inr rfl)) f2
theorem zt0 {p:zb} (hp:zE p) {nb k:Nat} {s:za} {gh:Gh} (G:FG p nb k s gh) {m:Int} {x:zc} {N C:List Int} (hT:zsa s m x N C) {u:Int} (hu:u≤(s.H.Objs.length:Int)) (h0: ¬zO s.T.Marks u=true) (h1:zO (zn s m x).1.T.Marks u=true):x.PC=3∨x.PC=37:=by
 rcases hT with ⟨_,_,e⟩ | ⟨_,_,c,_,e⟩ | ⟨_,_,c,e⟩ | ⟨_,_,c,_,_,e⟩
 ·rw [e] at h1;exact absurd h1 h0
 ·exact c
 ·rw [e,(zb3 _ _).1] at h1;exact absurd h1 h0
 ·obtain ⟨f1,f2,f3⟩:=G.fresh hp
  rw [e,f1] at h1
  rcases Y2 h1 with h | h
  ·exact absurd h h0
  ·omega
theorem znW {p:zb} {nb k:Nat} {s:za} {gh:Gh} (G:FG p nb k s gh) {i:Nat} {y:ze} (hy:s.Ws[i]? =some y) (hpc:y.PC=5∨y.PC=6∨y.PC=8):zO s.T.Marks y.Obj=true:=by
 have hg:xg s.T y.Obj=1:=G.grey (ztx hy (by
  unfold zL
  rcases hpc with e | e | e
  ·rw [XP (.inl e)];simp
  ·rw [znb e];simp
  ·rw [XP (.inr e)];simp))
 exact ((uQ _ _).1 hg).1
theorem znD {p:zb} {nb k:Nat} {s:za} {gh:Gh} (G:FG p nb k s gh) {i:Nat} {y:zc} (hy:s.Ms[i]? =some y) (hpc:y.PC=36∨y.PC=37∨y.PC=38):zO s.T.Marks y.Obj=true:=by
 have hg:xg s.T y.Obj=1:=G.grey (ztW hy (by
  unfold yb
  rcases hpc with e | e | e
  ·rw [Vk (.inl e)];simp
  ·rw [zkh e];simp
  ·rw [Vk (.inr e)];simp))
 exact ((uQ _ _).1 hg).1
theorem PI.mutator {p:zb} (hp:zE p) {nb k:Nat} {s:za} {gh:Gh} (hk:k<4294960000) (G:FG p nb k s gh) {W:Int→Int→Prop} (I:PI p s W) {m:Int} (hm:1≤m∧m≤p.Mutators) (hd:s.Done=false): ∃W',PI p (yR s m) W':=by
 obtain ⟨gh',G',F,x,hx,N,C,hbag,hT⟩:=G.mutator hp hk hm hd
 have hT:zsa s m x N C:=hT
 have hml:=G.E.ml
 have hsl:=hp.slots
 have hi:(m-1).toNat<s.Ms.length:=(List.getElem?_eq_some_iff.1 hx).1
 have ei:(((m-1).toNat:Nat):Int)+1=m:=by omega
 have eS:yR s m={(zn s m x).1 with Ms:=s.Ms.set (m-1).toNat (zn s m x).2}:=by
  unfold yR
  rw [if_neg (by rw [hd];rintro (e | e | e)<;>first | cases e | omega),hx]
 have hMX:=G.M _ x hx
 have hXO:=G.E.X _ x hx
 have hcv:=I.cv _ x hx
 rw [ei] at hXO hcv
 have hP:=G.E.S.P
 have eH:(yR s m).H=(zn s m x).1.H:=by rw [eS]
 have eT:(yR s m).T=(zn s m x).1.T:=by rw [eS]
 have eW:(yR s m).Ws=s.Ws:=by rw [eS];show (zn s m x).1.Ws=_;rw [zoq]
 have eX:(yR s m).Ms=s.Ms.set (m-1).toNat (zn s m x).2:=by rw [eS]
 have mono: ∀o,zO s.T.Marks o=true→zO (yR s m).T.Marks o=true:=fun o h=>F.mono h
 obtain ⟨sl1,sl2⟩:=zs8 (s:=s) (m:=m) (gh:=gh) G.E.H.slots hsl hXO (I.sx _ x hx)
 have here:(yR s m).Ms[(m-1).toNat]? =some (zn s m x).2:=by rw [eX];exact List.getElem?_set_self hi
 have there: ∀(i:Nat) y,i≠(m-1).toNat→s.Ms[i]? =some y→(yR s m).Ms[i]? =some y:=fun i y hne h=>by rw [eX,List.getElem?_set_ne (fun e=>hne e.symm)];exact h
 have back: ∀(i:Nat) y,(yR s m).Ms[i]? =some y→(i=(m-1).toNat∧y=(zn s m x).2)∨(i≠(m-1).toNat∧s.Ms[i]? =some y):=fun i y h=>by
  rw [eX] at h
  by_cases hne:i=(m-1).toNat
  ·subst hne
   rw [List.getElem?_set_self hi] at h
   injection h with h
   exact .inl ⟨rfl,h.symm⟩
  ·rw [List.getElem?_set_ne (fun e=>hne e.symm)] at h
   exact .inr ⟨hne,h⟩
 have heapS: ∀u j,¬(x.PC=23∧u=Za x (opM p m x).A∧j=(opM p m x).S)→(yX s.H u j=true→yX (yR s m).H u j=true)∧zJ (yR s m).H u j=zJ s.H u j:=fun u j hne=>by
  rw [eH]
  rcases ztH s m x with ⟨e,_⟩ | ⟨c,e,_⟩ | ⟨_,e⟩
  ·rw [e];exact ⟨id,rfl⟩
  ·rw [e,hP]
   obtain ⟨a,b⟩:=zv8 (h:=s.H) (a:=Za x (opM p m x).A) (i:=(opM p m x).S) (v:=Za x (opM p m x).R) (u:=u) (j:=j) (fun e=>hne ⟨c,e⟩) (fun e=>(Ya e).2.1)
   exact ⟨fun h=>a.trans h,b⟩
  ·rw [e];exact zte _ _ _
 have P:zpo s (yR s m) W (fun u j=>W u j∨(x.PC=23∧u=Za x (opM p m x).A∧j=(opM p m x).S)):=by
  refine ⟨mono,fun o h=> ?_,fun u j hW hj=> ?_,fun u j hW hj hg hu=> ?_,fun u j hW hj hm0 hm1=> ?_⟩
  ·rcases h with ⟨i,y,hy,h⟩ | ⟨i,y,hy,h⟩
   ·right;left;exact ⟨i,y,by rw [eW];exact hy,h⟩
   ·by_cases hne:i=(m-1).toNat
    ·subst hne
     rw [hx] at hy;injection hy with hy;subst hy
     rcases zup (m:=m) hMX hXO G.B.blk h with h | h
     ·right;right;exact ⟨_,_,here,h⟩
     ·left;rw [eT];exact h
    ·right;right;exact ⟨i,y,there i y hne hy,h⟩
  ·by_cases hc:x.PC=23∧u=Za x (opM p m x).A∧j=(opM p m x).S
   ·obtain ⟨c,rfl,rfl⟩:=hc
    right
    rcases (hcv hW).2 c with h | h | h
    ·exact .inl h
    ·exact .inr (.inl (mono _ h))
    ·right;right;right
     refine ⟨_,_,here,.inl ?_⟩
     rcases ztH s m x with ⟨_,e⟩ | ⟨_,_,e⟩ | ⟨e,_⟩
     ·exact absurd c e
     ·rw [e];exact h
     ·omega
   ·left
    obtain ⟨a,b⟩:=heapS u j hc
    exact ⟨fun h=>h.elim hW hc,a hj,b⟩
  ·have hpos:=Ya hj
   have hrow:=zr1 G.E hj
   have htint:xg (yR s m).T u=1:=by
    rcases zmL G F hpos.1.2 hg with h | ⟨_,h⟩
    ·exact h
    ·exfalso
     obtain ⟨c,ho⟩:=ztO hp G hx hT hg (by rw [←eT];exact h)
     have hle:=hu.2 _ x hx (.inr (.inr c)) ho
     have:=(I.sx _ x hx).2.2 c
     omega
   rcases sl2 u j hpos.2.1 (hu.2 _ x hx) with h | h | h
   ·left
    refine ⟨htint,fun i y hy=>hu.1 i y (by rw [←eW];exact hy),fun i y hy=> ?_⟩
    rcases back i y hy with ⟨_,rfl⟩ | ⟨_,hy⟩
    ·exact h
    ·exact hu.2 i y hy
   ·exact .inr (.inl h)
   ·exact .inr (.inr (.inr (.inr ⟨_,_,here,h⟩)))
  ·have hpos:=Ya hj
   refine ⟨zkQ G F hpos.1.2 hm0 hm1,fun i y hy hpc ho=> ?_,fun i y hy hpc ho=> ?_⟩
   ·rw [eW] at hy
    exact absurd (ho▸znW G hy hpc) hm0
   ·rcases back i y hy with ⟨_,rfl⟩ | ⟨_,hy⟩
    ·exfalso
     rcases zt0 hp G hT hpos.1.2 hm0 (by rw [←eT];exact hm1) with c | c
     ·have:=zwc (s:=s) (m:=m) c
      omega
     ·have h3:=zt4 (s:=s) (m:=m) c
      exact hm0 (by rw [←ho,h3];exact znD G hx (.inr (.inl c)))
    ·exact absurd (ho▸znD G hy hpc) hm0
 refine ⟨fun u j=>W u j∨(x.PC=23∧u=Za x (opM p m x).A∧j=(opM p m x).S),fun o ho=> ?_,fun i y hy=>I.sw i y (by rw [←eW];exact hy),fun i y hy=> ?_,fun i y hy=> ?_⟩
 ·have h0:o≠0:=by have:=ho.in;omega
  rcases I.lv o ho with h | h
  ·exact .inl (mono o h)
  ·exact P.prot h h0
 ·rcases back i y hy with ⟨_,rfl⟩ | ⟨_,hy⟩
  ·exact sl1
  ·exact I.sx i y hy
 ·rcases back i y hy with ⟨rfl,rfl⟩ | ⟨_,hy⟩
  ·rw [ei,eS]
   exact ztY hP hcv (fun o h=>by rw [←eT];exact mono o h) hXO.ret _
  ·intro hW
   have hW1: ¬W (Za y (opM p ((i:Int)+1) y).A) (opM p ((i:Int)+1) y).S:=fun h=>hW (.inl h)
   obtain ⟨a,b⟩:=I.cv i y hy hW1
   have hh:=(heapS (Za y (opM p ((i:Int)+1) y).A) (opM p ((i:Int)+1) y).S (fun h=>hW (.inr h))).2
   rw [hh]
   exact ⟨a,fun e=>(b e).imp id (fun h=>h.imp (mono _) id)⟩
end
end Go.Pe.G
namespace Go.Pe.G
open Go.Pe
noncomputable section
theorem zpW {s:za} {w:Int} {x:ze} (c:x.PC=6):zi s w x=((zp s x.G).1,if (zp s x.G).2.Out=1 then {x with G:=(zp s x.G).2,PC:=onW s x.Slot} else {x with G:=(zp s x.G).2}):=by
 unfold zi
 rw [if_neg (by omega),if_neg (by omega),if_neg (by omega),if_neg (by omega),if_neg (by omega),if_pos c]
theorem zs7 {p:zb} {s:za} {gh:Gh} {w:Int} {x:ze} (K:WX p s gh w x) (hb: ∀o,zO s.T.Black o=true→zO s.T.Marks o=true) {o:Int} (h:zf6 x o):zf6 (zi s w x).2 o∨zO (zi s w x).1.T.Marks o=true:=by
 obtain ⟨c,h⟩:=h
 obtain ⟨G,gm,gw,g0⟩:=K.p6 c
 rw [zpW c]
 dsimp only
 rcases zlM G.md (h.2.2▸G.ob) (hb o) h with h' | h'
 ·left
  rw [if_neg (by have:=h'.1;omega)]
  exact ⟨c,h'⟩
 ·exact .inr h'
theorem zl7 {p:zb} {nb:Nat} {s:za} (hsl:s.H.Slots=p.H.Slots) (h1:1≤p.H.Slots∧p.H.Slots≤2) {w:Int} {x:ze} (O:WOk p nb w x) (S:zd4 p.H.Slots x) :
  zd4 p.H.Slots (zi s w x).2∧∀u j,0≤j→zeX x u j→zeX (zi s w x).2 u j∨zJ s.H u j=0∨zf6 (zi s w x).2 (zJ s.H u j):=by
 have hpc:=O.pc
 have no: ∀ {y:ze},y.PC≠5→y.PC≠6→y.PC≠8→zd4 p.H.Slots y∧∀u j,0≤j→zeX x u j→zeX y u j∨zJ s.H u j=0∨zf6 y (zJ s.H u j) :=
  fun a b c=>⟨⟨fun e=>absurd e a,fun e=>absurd e b,fun e=>absurd e c⟩,fun u j _ _=> .inl (fun e=>by omega)⟩
 have zero: ∀ {y:ze},y.PC=5→y.Slot=0→zd4 p.H.Slots y∧∀u j,0≤j→zeX x u j→zeX y u j∨zJ s.H u j=0∨zf6 y (zJ s.H u j) :=
  fun a b=>⟨⟨fun _=>by omega,fun e=>by omega,fun e=>by omega⟩,fun u j h0 _=> .inl (fun _ _=>by omega)⟩
 have on: ∀k:Int,(onW s k=5∧k≠p.H.Slots)∨(onW s k=8∧k=p.H.Slots):=fun k=>by
  unfold onW
  rw [hsl]
  split
  ·rename_i e;exact .inr ⟨rfl,e⟩
  ·rename_i e;exact .inl ⟨rfl,e⟩
 have lk: ∀y:ze,(Ze s.P w y).PC=1∨(Ze s.P w y).PC=2:=fun y=>by unfold Ze;split<;>simp
 by_cases c6:x.PC=6
 ·have hs:=S.2.1 c6
  rw [zpW c6]
  dsimp only
  split
  ·refine ⟨⟨fun e=> ?_,fun e=> ?_,fun e=> ?_⟩,fun u j h0 h=> .inl (fun _ e=>h (.inr (.inl c6)) e)⟩
   ·dsimp only at e ⊢;have:=on x.Slot;omega
   ·dsimp only at e ⊢;have:=on x.Slot;omega
   ·dsimp only at e ⊢;have:=on x.Slot;omega
  ·exact ⟨⟨fun e=>absurd e (by show ¬x.PC=5;omega),fun _=>hs,fun e=>absurd e (by show ¬x.PC=8;omega)⟩,fun u j h0 h=> .inl (fun _ e=>h (.inr (.inl c6)) e)⟩
 have key: ∀r:za×ze,zi s w x=r→(zd4 p.H.Slots r.2∧∀u j,0≤j→zeX x u j→zeX r.2 u j∨zJ s.H u j=0∨zf6 r.2 (zJ s.H u j))→zd4 p.H.Slots (zi s w x).2∧∀u j,0≤j→zeX x u j→zeX (zi s w x).2 u j∨zJ s.H u j=0∨zf6 (zi s w x).2 (zJ s.H u j):=fun r e h=>by rw [e];exact h
 by_cases c01:x.PC=0∨x.PC=1
 ·refine key _ (by unfold zi;rw [if_pos c01]) ?_
  dsimp only
  split
  ·exact zero rfl rfl
  split
  ·have:=lk {x with D:=(zM s.M x.D).2}
   exact no (by omega) (by omega) (by omega)
  ·exact no (by dsimp only;omega) (by dsimp only;omega) (by dsimp only;omega)
 by_cases c2:x.PC=2
 ·refine key _ (by unfold zi;rw [if_neg c01,if_pos c2]) ?_
  dsimp only
  split
  ·exact no (by dsimp only;omega) (by dsimp only;omega) (by dsimp only;omega)
  split
  ·exact no (by show (0:Int)≠5;decide) (by show (0:Int)≠6;decide) (by show (0:Int)≠8;decide)
  ·exact no (by dsimp only;omega) (by dsimp only;omega) (by dsimp only;omega)
 by_cases c3:x.PC=3
 ·refine key _ (by unfold zi;rw [if_neg c01,if_neg c2,if_pos c3]) ?_
  exact no (by dsimp only;omega) (by dsimp only;omega) (by dsimp only;omega)
 by_cases c4:x.PC=4
 ·refine key _ (by unfold zi;rw [if_neg c01,if_neg c2,if_neg c3,if_pos c4]) ?_
  dsimp only
  split
  ·exact no (by dsimp only;omega) (by dsimp only;omega) (by dsimp only;omega)
  ·exact no (by dsimp only;omega) (by dsimp only;omega) (by dsimp only;omega)
 by_cases c:x.PC=5
 ·have hs:=S.1 c
  have ww:wc (x.Slot+1)=x.Slot+1:=xm (by omega) (by omega)
  refine key _ (by unfold zi;rw [if_neg c01,if_neg c2,if_neg c3,if_neg c4,if_pos c]) ?_
  dsimp only
  rw [ww]
  split
  ·rename_i hv
   refine ⟨⟨fun e=> ?_,fun e=> ?_,fun e=> ?_⟩,fun u j h0 h=> ?_⟩
   ·dsimp only at e ⊢;have:=on (x.Slot+1);omega
   ·dsimp only at e ⊢;have:=on (x.Slot+1);omega
   ·dsimp only at e ⊢;have:=on (x.Slot+1);omega
   ·by_cases hu:x.Obj=u
    ·have hle:=h (.inl c) hu
     by_cases hj:j=x.Slot
     ·right;left;rw [←hu,hj];exact hv
     ·left;intro _ _;show x.Slot+1≤j;omega
    ·left;intro _ e;exact absurd e hu
  ·rename_i hv
   refine ⟨⟨fun e=>absurd e (by show ¬(6:Int)=5;decide),fun _=>⟨by show 1≤x.Slot+1;omega,by show x.Slot+1≤_;omega⟩,fun e=>absurd e (by show ¬(6:Int)=8;decide)⟩,fun u j h0 h=> ?_⟩
   by_cases hu:x.Obj=u
   ·have hle:=h (.inl c) hu
    by_cases hj:j=x.Slot
    ·right;right
     exact ⟨rfl,rfl,.inl rfl,by rw [←hu,hj];rfl⟩
    ·left;intro _ _;show x.Slot+1≤j;omega
   ·left;intro _ e;exact absurd e hu
 by_cases c7:x.PC=7
 ·refine key _ (by unfold zi;rw [if_neg c01,if_neg c2,if_neg c3,if_neg c4,if_neg c,if_neg c6,if_pos c7]) ?_
  dsimp only
  split
  ·exact no (by show (0:Int)≠5;decide) (by show (0:Int)≠6;decide) (by show (0:Int)≠8;decide)
  ·exact zero rfl rfl
 by_cases c8:x.PC=8
 ·refine key _ (by unfold zi;rw [if_neg c01,if_neg c2,if_neg c3,if_neg c4,if_neg c,if_neg c6,if_neg c7,if_pos c8]) ?_
  exact no (by dsimp only;omega) (by dsimp only;omega) (by dsimp only;omega)
 have c9:x.PC=9:=by omega
 refine key _ (by unfold zi;rw [if_neg c01,if_neg c2,if_neg c3,if_neg c4,if_neg c,if_neg c6,if_neg c7,if_neg c8,if_pos c9]) ?_
 exact no (by dsimp only;omega) (by dsimp only;omega) (by dsimp only;omega)
theorem PI.worker {p:zb} (hp:zE p) {nb k:Nat} {s:za} {gh:Gh} (hk:k<4294960000) (G:FG p nb k s gh) {W:Int→Int→Prop} (I:PI p s W) {w:Int} (hw:1≤w∧w≤p.Workers) (hd:s.Done=false):PI p (zN s w) W:=by
 obtain ⟨gh',G',F,x,hx,N,C,hbag,hT⟩:=G.worker hp hk hw hd
 have hwl:=G.E.wl
 have hsl:=hp.slots
 have hi:(w-1).toNat<s.Ws.length:=(List.getElem?_eq_some_iff.1 hx).1
 have ei:(((w-1).toNat:Nat):Int)+1=w:=by omega
 have eS:zN s w={(zi s w x).1 with Ws:=s.Ws.set (w-1).toNat (zi s w x).2}:=by
  unfold zN
  rw [if_neg (by rw [hd];rintro (e | e | e)<;>first | cases e | omega),hx]
 have hWX:=G.W _ x hx
 have hWO:=G.E.W _ x hx
 rw [ei] at hWX hWO
 have hfr:=ziK (s:=s) hWO
 have eH:(zN s w).H=s.H:=by rw [eS];show (zi s w x).1.H=_;rw [hfr]
 have eT:(zN s w).T=(zi s w x).1.T:=by rw [eS]
 have eX:(zN s w).Ms=s.Ms:=by rw [eS];show (zi s w x).1.Ms=_;rw [hfr]
 have eW:(zN s w).Ws=s.Ws.set (w-1).toNat (zi s w x).2:=by rw [eS]
 have mono: ∀o,zO s.T.Marks o=true→zO (zN s w).T.Marks o=true:=fun o h=>F.mono h
 obtain ⟨sl1,sl2⟩:=zl7 (s:=s) (w:=w) G.E.H.slots hsl hWO (I.sw _ x hx)
 have here:(zN s w).Ws[(w-1).toNat]? =some (zi s w x).2:=by rw [eW];exact List.getElem?_set_self hi
 have there: ∀(i:Nat) y,i≠(w-1).toNat→s.Ws[i]? =some y→(zN s w).Ws[i]? =some y:=fun i y hne h=>by rw [eW,List.getElem?_set_ne (fun e=>hne e.symm)];exact h
 have back: ∀(i:Nat) y,(zN s w).Ws[i]? =some y→(i=(w-1).toNat∧y=(zi s w x).2)∨(i≠(w-1).toNat∧s.Ws[i]? =some y):=fun i y h=>by
  rw [eW] at h
  by_cases hne:i=(w-1).toNat
  ·subst hne
   rw [List.getElem?_set_self hi] at h
   injection h with h
   exact .inl ⟨rfl,h.symm⟩
  ·rw [List.getElem?_set_ne (fun e=>hne e.symm)] at h
   exact .inr ⟨hne,h⟩
 have P:zpo s (zN s w) W W:=by
  refine ⟨mono,fun o h=> ?_,fun u j hW hj=> .inl ⟨hW,by rw [eH];exact hj,by rw [eH]⟩,fun u j hW hj hg hu=> ?_,fun u j hW hj hm0 hm1=> ?_⟩
  ·rcases h with ⟨i,y,hy,h⟩ | ⟨i,y,hy,h⟩
   ·by_cases hne:i=(w-1).toNat
    ·subst hne
     rw [hx] at hy;injection hy with hy;subst hy
     rcases zs7 hWX G.B.blk h with h | h
     ·right;left;exact ⟨_,_,here,h⟩
     ·left;rw [eT];exact h
    ·right;left;exact ⟨i,y,there i y hne hy,h⟩
   ·right;right;exact ⟨i,y,by rw [eX];exact hy,h⟩
  ·have hpos:=Ya hj
   have hrow:=zr1 G.E hj
   have htint:xg (zN s w).T u=1:=by
    rcases zmL G F hpos.1.2 hg with h | ⟨_,h⟩
    ·exact h
    ·exfalso
     have hb:=((uQ _ _).1 hg).2
     have huu:=(wF s.T.Black (zbf hg) u).2 (.inr rfl)
     rcases hT with ⟨_,_,e⟩ | ⟨_,_,_,_,e⟩ | ⟨_,_,c,e⟩
     ·rw [eT,e] at h
      have:=congrArg zo.Black h
      exact absurd (by rw [this];exact huu) hb
     ·rw [eT,e] at h
      have:=congrArg zo.Black h
      exact absurd (by rw [this];exact huu) hb
     ·have hob:xg s.T x.Obj=1:=G.grey (ztx hx (by unfold zL;rw [XP (.inr c)];simp))
      rw [eT,e] at h
      unfold vq at h
      rw [if_pos hob] at h
      have hbb:s.T.Black|||bit x.Obj=s.T.Black|||bit u:=congrArg zo.Black h
      rw [←hbb] at huu
      rcases Y2 huu with h2 | h2
      ·exact hb h2
      ·have hle:=hu.1 _ x hx (.inr (.inr c)) h2.symm
       have:=(I.sw _ x hx).2.2 c
       omega
   rcases sl2 u j hpos.2.1 (hu.1 _ x hx) with h | h | h
   ·left
    refine ⟨htint,fun i y hy=> ?_,fun i y hy=>hu.2 i y (by rw [←eX];exact hy)⟩
    rcases back i y hy with ⟨_,rfl⟩ | ⟨_,hy⟩
    ·exact h
    ·exact hu.1 i y hy
   ·exact .inr (.inl h)
   ·exact .inr (.inr (.inr (.inl ⟨_,_,here,h⟩)))
  ·have hpos:=Ya hj
   refine ⟨zkQ G F hpos.1.2 hm0 hm1,fun i y hy hpc ho=> ?_,fun i y hy hpc ho=> ?_⟩
   ·rcases back i y hy with ⟨_,rfl⟩ | ⟨_,hy⟩
    ·exfalso
     rcases hT with ⟨_,_,e⟩ | ⟨_,_,c,_,e⟩ | ⟨_,_,c,e⟩
     ·rw [eT,e] at hm1;exact hm0 hm1
     ·have h3:(zi s w x).2.Obj=x.Obj:=by rw [zpW c];dsimp only;split<;>rfl
      exact hm0 (by rw [←ho,h3];exact znW G hx (.inr (.inl c)))
     ·rw [eT,e,(zb3 _ _).1] at hm1;exact hm0 hm1
    ·exact absurd (ho▸znW G hy hpc) hm0
   ·rw [eX] at hy
    exact absurd (ho▸znD G hy hpc) hm0
 refine ⟨fun o ho=> ?_,fun i y hy=> ?_,fun i y hy=>I.sx i y (by rw [←eX];exact hy),fun i y hy hW=> ?_⟩
 ·have h0:o≠0:=by have:=ho.in;omega
  rcases I.lv o ho with h | h
  ·exact .inl (mono o h)
  ·exact P.prot h h0
 ·rcases back i y hy with ⟨_,rfl⟩ | ⟨_,hy⟩
  ·exact sl1
  ·exact I.sw i y hy
 ·rw [eX] at hy
  obtain ⟨a,b⟩:=I.cv i y hy hW
  rw [eH]
  exact ⟨a,fun e=>(b e).imp id (fun h=>h.imp (mono _) id)⟩
end
end Go.Pe.G
namespace Go.Pe.G
open Go.Pe
noncomputable section
theorem zvl {m:List (BitVec 64)} {d:zg} (h:0≤d.PC∧d.PC≤6):d.PC<(U8 m d).2.PC∧(U8 m d).2.PC≤7:=by
 unfold U8
 rw [if_neg (by omega)]
 split
 ·dsimp only;omega
 split
 ·dsimp only;omega
 split
 ·dsimp only;split<;>omega
 split
 ·dsimp only;omega
 split
 ·dsimp only;split<;>omega
 split
 ·dsimp only;omega
 ·dsimp only;omega
theorem zsX {m:List (BitVec 64)} {d:zg} (h:0≤d.PC∧d.PC≤3):d.PC<(Xz m d).2.PC∧(Xz m d).2.PC≤7:=by
 unfold Xz
 rw [if_neg (by omega)]
 split
 ·dsimp only;omega
 split
 ·dsimp only;omega
 split
 ·dsimp only;omega
 ·split<;>(dsimp only;omega)
theorem zw8 {m:List (BitVec 64)} {d:zg} (h0:d.Out=0) (h:(d.Kind=2∧0≤d.PC∧d.PC≤6)∨(d.Kind=3∧0≤d.PC∧d.PC≤3)):d.PC<(zM m d).2.PC∧(zM m d).2.PC≤7:=by
 unfold zM
 rw [if_neg (by omega)]
 rcases h with ⟨k,h⟩ | ⟨k,h⟩
 ·rw [if_neg (by omega),if_pos k];exact zvl h
 ·rw [if_neg (by omega),if_neg (by omega),if_pos k];exact zsX h
def zhd (n w v:Int):Nat:=(if v<w then w-v else n+w-v).toNat
theorem zrQ {n w v:Int} (hw:1≤w∧w≤n) (hv:1≤v∧v≤n):1≤zhd n w v∧zhd n w v≤n.toNat:=by
 unfold zhd
 split<;>omega
theorem ztb {n w v:Int} (hw:1≤w∧w≤n) (hv:1≤v∧v≤n) (h:Ur n v≠w):zhd n w (Ur n v)+1≤zhd n w v:=by
 unfold Ur at h ⊢
 unfold zhd
 by_cases c:v<n
 ·rw [if_pos c] at h ⊢
  by_cases c2:v<w
  ·rw [if_pos c2];split<;>omega
  ·rw [if_neg c2];split<;>omega
 ·rw [if_neg c] at h ⊢
  by_cases c2:v<w
  ·omega
  ·rw [if_neg c2];split<;>omega
def X1 (p:zb) (M:List (BitVec 64)) (w:Int) (x:ze):Nat :=
 if x.PC=0∨x.PC=1 then 380+10*zhd p.Workers w x.Victim+(8-x.D.PC).toNat
 else if x.PC=2 then 371+Yp M x.C
 else if x.PC=3 then 370
 else 2+40*x.Batch.length+(if x.PC=4 then 1+Yp M x.C else if x.PC=5 then 2+16*(p.H.Slots-x.Slot).toNat else if x.PC=6 then 3+16*(p.H.Slots-x.Slot).toNat+YX M x.G else if x.PC=8 then 2 else if x.PC=9 then 1 else 0)
theorem zwb {p:zb} {s:za} {gh:Gh} {g:zy} (G:GX p s gh g) (h0:g.Out=0):YX s.M g≤13:=by
 have hpc:=G.pc
 unfold YX
 split
 ·have:=zkn s.M (c:=g.C) (by have:=(G.c7 (by assumption) h0).2.1;omega);omega
 split
 ·omega
 split
 ·have:=zkn s.M (c:=g.C) (by have:=(G.c5 (by assumption) h0).2.1;omega);omega
 split
 ·omega
 split
 ·have:=(G.d3 (by assumption) h0).2.2.pc;omega
 split
 ·omega
 split<;>omega
theorem zvO {p:zb} (hp:zE p) {k:Nat} {s:za} {gh:Gh} {w:Int} {x:ze} (hk:k<4294960000) (G:FG p (zT p+1) k s gh) (hw:1≤w∧w≤p.Workers) (hx:s.Ws[(w-1).toNat]? =some x) (O:WOk p (zT p+1) w x) (K:WX p s gh w x) (S:zd4 p.H.Slots x) (hb:x.Batch.length≤9) (h3:x.PC=3→(XB s x.Bin).length≤9) (hO:(zi s w x).2.PC=6→(zi s w x).2.G.Out=0) (hO0:(zi s w x).2.PC≤1→(zi s w x).2.D.Out=0) (hO2:(zi s w x).2.PC=2∨(zi s w x).2.PC=4→(zi s w x).2.C.Out=0) :
  X1 p (zi s w x).1.M w (zi s w x).2<X1 p s.M w x∨((zi s w x).2.PC=0∧(zi s w x).2.D.PC=0∧(zi s w x).2.Victim=w):=by
 have hP:=G.E.S.P
 have hpc:=O.pc
 have hvic:=O.vic
 have hsl:=hp.slots
 have hsH:s.H.Slots=p.H.Slots:=G.E.H.slots
 have hlen:=G.X.L.len
 have hF:=uI hp
 have hEm:=xW hp
 have hnb:=G.X.S.nbk
 have on: ∀i:Int,(onW s i=5∧i≠p.H.Slots)∨(onW s i=8∧i=p.H.Slots):=fun i=>by
  unfold onW
  rw [hsH]
  split
  ·exact .inr ⟨rfl,by assumption⟩
  ·exact .inl ⟨rfl,by assumption⟩
 have far: ∀ {M:List (BitVec 64)} {y:ze},4≤y.PC→X1 p M w y=2+40*y.Batch.length+(if y.PC=4 then 1+Yp M y.C else if y.PC=5 then 2+16*(p.H.Slots-y.Slot).toNat else if y.PC=6 then 3+16*(p.H.Slots-y.Slot).toNat+YX M y.G else if y.PC=8 then 2 else if y.PC=9 then 1 else 0):=fun h=>by
  unfold X1;rw [if_neg (by omega),if_neg (by omega),if_neg (by omega)]
 have onv: ∀ {M:List (BitVec 64)} {y:ze},y.Batch=x.Batch→y.PC=onW s y.Slot→X1 p M w y≤2+40*x.Batch.length+2+16*(p.H.Slots-y.Slot).toNat:=fun {M y} h1 h2=>by
  rcases on y.Slot with ⟨a,b⟩ | ⟨a,b⟩
  ·rw [far (by omega),h1,if_neg (by omega),if_pos (by omega)];omega
  ·rw [far (by omega),h1,if_neg (by omega),if_neg (by omega),if_neg (by omega),if_pos (by omega)];omega
 revert hO hO0 hO2
 unfold zi
 by_cases c01:x.PC=0∨x.PC=1
 ·rw [if_pos c01]
  dsimp only
  have hbt:=K.bt (by omega)
  have hd:(x.D.Out=0∧((x.D.Kind=2∧0≤x.D.PC∧x.D.PC≤6)∨(x.D.Kind=3∧0≤x.D.PC∧x.D.PC≤3))):=by
   rcases c01 with c | c
   ·have:=K.p0 c;exact ⟨this.out,.inl ⟨this.kind,this.pc⟩⟩
   ·have:=K.p1 c;exact ⟨this.out,.inr ⟨this.kind,this.pc⟩⟩
  have hq:=zw8 (m:=s.M) hd.1 hd.2
  have hv:=zrQ hw hvic
  have e0:X1 p s.M w x=380+10*zhd p.Workers w x.Victim+(8-x.D.PC).toNat:=by unfold X1;rw [if_pos c01]
  split
  ·intro _ _ _
   left
   rw [e0,far (by show (4:Int)≤5;decide),if_neg (by show ¬(5:Int)=4;decide),if_pos rfl]
   dsimp only
   rw [hbt];show 2+40*0+(2+16*(p.H.Slots-0).toNat)<_;omega
  split
  ·intro _ _ _
   left
   rw [hP]
   unfold Ze
   split
   ·rw [e0]
    unfold X1
    rw [if_neg (by show ¬((2:Int)=0∨(2:Int)=1);decide),if_pos rfl]
    have:Yp (zM s.M x.D).1 (znA p (zZ p) 0)=3:=rfl
    show 371+Yp (zM s.M x.D).1 (znA p (zZ p) 0)<_
    rw [this];omega
   ·rename_i hne
    have:=ztb hw hvic hne
    rw [e0]
    unfold X1
    rw [if_pos (.inr rfl)]
    show 380+10*zhd p.Workers w (Ur p.Workers x.Victim)+(8-0:Int).toNat<_
    omega
  ·intro _ _ _
   left
   rw [e0]
   unfold X1
   rw [if_pos c01]
   show 380+10*zhd p.Workers w x.Victim+(8-(zM s.M x.D).2.PC).toNat<_
   omega
 rw [if_neg c01]
 by_cases c2:x.PC=2
 ·rw [if_pos c2]
  dsimp only
  obtain ⟨q1,q2,q3⟩:=K.p2 c2
  have PO:=O.c2 c2
  have e0:X1 p s.M w x=371+Yp s.M x.C:=by unfold X1;rw [if_neg c01,if_pos c2]
  have hr:=zdO (m:=s.M) q1 q2 (.inr PO.k) (by have:=PO.h;omega) (fun e=>by have:=PO.k;omega)
  split
  ·intro _ _ _
   left
   rw [e0]
   unfold X1
   rw [if_neg (by show ¬((3:Int)=0∨(3:Int)=1);decide),if_neg (by show ¬(3:Int)=2;decide),if_pos rfl];omega
  split
  ·intro _ _ _
   right
   rw [hP];exact ⟨rfl,rfl,rfl⟩
  ·intro _ _ hO2
   left
   have ho:=hO2 (.inl c2)
   have:=hr.resolve_left (fun h=>h ho)
   rw [e0]
   unfold X1
   rw [if_neg c01,if_pos c2]
   show 371+Yp (zk s.M x.C).1 (zk s.M x.C).2<_
   omega
 rw [if_neg c2]
 by_cases c3:x.PC=3
 ·rw [if_pos c3]
  intro _ _ _
  left
  have e0:X1 p s.M w x=370:=by unfold X1;rw [if_neg c01,if_neg c2,if_pos c3]
  have:=h3 c3
  rw [e0,far (by show (4:Int)≤4;decide),if_pos rfl]
  have:Yp s.M (W5 s.P (zD s.P) x.Bin)=3:=rfl
  show 2+40*(XB s x.Bin).length+(1+Yp s.M (W5 s.P (zD s.P) x.Bin))<370
  omega
 rw [if_neg c3]
 have e0:=far (M:=s.M) (y:=x) (by omega)
 by_cases c4:x.PC=4
 ·rw [if_pos c4]
  dsimp only
  obtain ⟨q1,q2,q3,q4⟩:=K.p4 c4
  have PO:=O.c4 c4
  rw [if_pos c4] at e0
  have hr:=zdO (m:=s.M) q1 q2 (.inl PO.k) (by have:=PO.h;omega) (fun _=>by have:=PO.h;have:=PO.n;have:=PO.x;rw [PO.n,xm (by omega) (by omega)];omega)
  split
  ·intro _ _ _
   left
   rw [e0,far (by show (4:Int)≤7;decide),if_neg (by show ¬(7:Int)=4;decide),if_neg (by show ¬(7:Int)=5;decide),if_neg (by show ¬(7:Int)=6;decide),if_neg (by show ¬(7:Int)=8;decide),if_neg (by show ¬(7:Int)=9;decide)]
   dsimp only;omega
  ·intro _ _ hO2
   left
   have:=hr.resolve_left (fun h=>h (hO2 (.inr c4)))
   rw [e0,far (by show 4≤x.PC;omega),if_pos (show x.PC=4 from c4)]
   show 2+40*x.Batch.length+(1+Yp (zk s.M x.C).1 (zk s.M x.C).2)<_
   omega
 rw [if_neg c4]
 rw [if_neg c4] at e0
 by_cases c5:x.PC=5
 ·rw [if_pos c5]
  intro _ _ _
  left
  have hs:=S.1 c5
  have ws:wc (x.Slot+1)=x.Slot+1:=xm (by omega) (by omega)
  rw [if_pos c5] at e0
  split
  ·have:=onv (M:=s.M) (y:={x with Slot:=wc (x.Slot+1),PC:=onW s (wc (x.Slot+1))}) rfl rfl
   dsimp only at this ⊢
   rw [ws] at this ⊢
   omega
  ·rw [e0,far (by show (4:Int)≤6;decide),if_neg (by show ¬(6:Int)=4;decide),if_neg (by show ¬(6:Int)=5;decide),if_pos rfl]
   have:YX s.M (Yk 1 (zJ s.H x.Obj x.Slot) w)=13:=rfl
   dsimp only
   rw [this,ws];omega
 rw [if_neg c5]
 rw [if_neg c5] at e0
 by_cases c6:x.PC=6
 ·rw [if_pos c6]
  rw [if_pos c6] at e0
  dsimp only
  obtain ⟨GK,gm,gw,g0⟩:=K.p6 c6
  have MO:=O.g6 c6
  have hrem:=zui hp G.X GK MO.1 g0 (fun h5 e2=>by
   obtain ⟨q1,q2,q3⟩:=GK.c5 h5 g0
   obtain ⟨m1,m2,m3,m4,m5⟩:=MO.1.c5 h5
   have S':SOk p (zT p+1) {s with M:=(zk s.M x.G.C).1}:=(zmZ hp G.X.S (.inr rfl) m1 m2 m3 m4 m5 (MO.2.1 h5)).1
   rcases SX.popE hp G.X hk m1 m2 m3 q1 q2 q3 m4 S' with ⟨x1,x2,x3,x4⟩ | ⟨y,l,x1,x2,x3⟩
   ·exact G.empty hp (.inl ⟨x,List.mem_of_getElem? hx,by rw [zmy c6];exact wG (.inr (by omega))⟩) (x4 e2)
   ·omega)
  split
  ·intro _ _ _
   left
   have:=onv (M:=(zp s x.G).1.M) (y:={x with G:=(zp s x.G).2,PC:=onW s x.Slot}) rfl rfl
   dsimp only at this ⊢
   rw [e0];omega
  ·intro hO _ _
   left
   have:=hrem.resolve_left (fun h=>h (hO c6))
   rw [e0,far (by show 4≤x.PC;omega),if_neg (by show ¬x.PC=4;omega),if_neg (by show ¬x.PC=5;omega),if_pos (show x.PC=6 from c6)]
   dsimp only;omega
 rw [if_neg c6]
 rw [if_neg c6] at e0
 by_cases c7:x.PC=7
 ·rw [if_pos c7]
  rw [if_neg (by omega),if_neg (by omega)] at e0
  intro _ _ _
  dsimp only
  split
  ·right;rw [hP];exact ⟨rfl,rfl,rfl⟩
  ·rename_i o l e
   left
   rw [e] at e0
   rw [e0,far (by show (4:Int)≤5;decide),if_neg (by show ¬(5:Int)=4;decide),if_pos rfl]
   show 2+40*l.length+(2+16*(p.H.Slots-0).toNat)<2+40*(o::l).length+0
   rw [List.length_cons];omega
 rw [if_neg c7]
 by_cases c8:x.PC=8
 ·rw [if_pos c8]
  rw [if_pos c8] at e0
  intro _ _ _
  left
  rw [e0,far (by show (4:Int)≤9;decide),if_neg (by show ¬(9:Int)=4;decide),if_neg (by show ¬(9:Int)=5;decide),if_neg (by show ¬(9:Int)=6;decide),if_neg (by show ¬(9:Int)=8;decide),if_pos rfl]
  dsimp only;omega
 rw [if_neg c8]
 rw [if_neg c8] at e0
 have c9:x.PC=9:=by omega
 rw [if_pos c9] at e0
 rw [if_pos c9]
 intro _ _ _
 left
 rw [e0,far (by show (4:Int)≤7;decide),if_neg (by show ¬(7:Int)=4;decide),if_neg (by show ¬(7:Int)=5;decide),if_neg (by show ¬(7:Int)=6;decide),if_neg (by show ¬(7:Int)=8;decide),if_neg (by show ¬(7:Int)=9;decide)]
 dsimp only;omega
theorem zqM {α β:Type} {f:α→List β} {x:α}: ∀ {l:List α},x∈l→(f x).Sublist (l.flatMap f)
 | [],h=>by cases h
 | a::l,h=>by
  rw [List.flatMap_cons]
  rcases List.mem_cons.1 h with rfl | h
  ·exact List.sublist_append_left _ _
  ·exact (zqM h).trans (List.sublist_append_right _ _)
theorem FG.hold9 {p:zb} (hp:zE p) {nb k:Nat} {s:za} {gh:Gh} (G:FG p nb k s gh) {x:ze} (hx:x∈s.Ws):(zL s x).length≤9:=by
 have hN:=G.E.H.n
 have hn:=hp.n
 have hmo:=hp.most
 have hs:(zL s x).Sublist (Wl p s gh):=(zqM hx).trans ((List.sublist_append_left _ _).trans (List.sublist_append_right _ _))
 have:=zlC s.H.Objs.length _ (G.B.nd.sublist hs) (fun o ho=>by
  have ho:=hs.subset ho
  exact ⟨(zbf ((G.B.gr o).1 ho)).1,G.mrk o ((uQ _ _).1 ((G.B.gr o).1 ho)).1⟩)
 omega
structure SI (p:zb) (k:Nat) (s:za) (gh:Gh):Prop where
 G:FG p (zT p+1) k s gh
 d:s.Done=false
 sl: ∀(i:Nat) x,s.Ws[i]? =some x→zd4 p.H.Slots x
theorem SI.step {p:zb} (hp:zE p) {k:Nat} {s:za} {gh:Gh} (hk:k<4294960000) (I:SI p k s gh) {w:Int} (hw:1≤w∧w≤p.Workers) {x:ze} (hx:s.Ws[(w-1).toNat]? =some x) :
  ∃gh' x',SI p (k+1) (zN s w) gh'∧(zN s w).Ws[(w-1).toNat]? =some x'∧(X1 p (zN s w).M w x'<X1 p s.M w x∨(x'.PC=0∧x'.D.PC=0∧x'.Victim=w)):=by
 have G:=I.G
 have hwl:=G.E.wl
 have hi:(w-1).toNat<s.Ws.length:=by omega
 have ei:(((w-1).toNat:Nat):Int)+1=w:=by omega
 obtain ⟨gh',G',_⟩:=G.worker hp hk hw I.d
 have eS:zN s w={(zi s w x).1 with Ws:=s.Ws.set (w-1).toNat (zi s w x).2}:=by
  unfold zN
  rw [if_neg (by rw [I.d];rintro (e | e | e)<;>first | cases e | omega),hx]
 have eM:(zN s w).M=(zi s w x).1.M:=by rw [eS]
 have eX:(zN s w).Ws[(w-1).toNat]? =some (zi s w x).2:=by rw [eS];exact List.getElem?_set_self hi
 have O:=G.E.W _ x hx
 have K:=G.W _ x hx
 rw [ei] at O K
 have K':=G'.W _ _ eX
 have h9:=G.hold9 hp (List.mem_of_getElem? hx)
 unfold zL at h9
 rw [List.length_append] at h9
 have hst:=zvO hp hk G hw hx O K (I.sl _ x hx) (by omega) (fun c=>by rw [zlG,←zqO c];omega) (fun c=>(K'.p6 c).2.2.2) (fun c=>by
  have hpc:=(G'.E.W _ _ eX).pc
  by_cases c0:(zi s w x).2.PC=0
  ·exact (K'.p0 c0).out
  ·exact (K'.p1 (by omega)).out) (fun c=>c.elim (fun c=>(K'.p2 c).1) (fun c=>(K'.p4 c).1))
 refine ⟨gh',_,⟨G',?_,fun i y hy=> ?_⟩,eX,by rw [eM];exact hst⟩
 ·have hf:=zk8 G.E w
  rw [hf];exact I.d
 ·rw [eS] at hy
  have hy:(s.Ws.set (w-1).toNat (zi s w x).2)[i]? =some y:=hy
  by_cases e:i=(w-1).toNat
  ·subst e
   rw [List.getElem?_set_self hi] at hy
   injection hy with hy;subst hy
   exact (zl7 G.E.H.slots hp.slots O (I.sl _ x hx)).1
  ·rw [List.getElem?_set_ne (fun h=>e h.symm)] at hy
   exact I.sl i y hy
theorem SI.le {p:zb} (hp:zE p) {k:Nat} {s:za} {gh:Gh} (I:SI p k s gh) {w:Int} (hw:1≤w∧w≤p.Workers) {x:ze} (hx:s.Ws[(w-1).toNat]? =some x):X1 p s.M w x≤418:=by
 have G:=I.G
 have hwk:=hp.wk
 have hsl:=hp.slots
 have ei:(((w-1).toNat:Nat):Int)+1=w:=by omega
 have O:=G.E.W _ x hx
 have K:=G.W _ x hx
 have S:=I.sl _ x hx
 rw [ei] at O K
 have h9:=G.hold9 hp (List.mem_of_getElem? hx)
 unfold zL at h9
 rw [List.length_append] at h9
 have hv:=zrQ hw O.vic
 have hpc:=O.pc
 unfold X1
 split
 ·rename_i c
  have:0≤x.D.PC:=by
   rcases c with c | c
   ·have:=(K.p0 c).pc;omega
   ·have:=(K.p1 c).pc;omega
  omega
 split
 ·have:=zkn s.M (c:=x.C) (by have:=(K.p2 (by assumption)).2.1;omega)
  omega
 split
 ·omega
 split
 ·have:=zkn s.M (c:=x.C) (by have:=(K.p4 (by assumption)).2.1;omega)
  omega
 split
 ·have:=S.1 (by assumption);omega
 split
 ·rename_i c
  have:=S.2.1 c
  have:=zwb (K.p6 c).1 (K.p6 c).2.2.2
  omega
 split
 ·omega
 split<;>omega
theorem zwG {p:zb} (hp:zE p):SI p 0 (wg p) (gh0 p):=by
 refine ⟨zwP hp,rfl,fun i x hx=> ?_⟩
 obtain ⟨j,_,e⟩:=List.mem_map.1 (show x∈(List.range p.Workers.toNat).map (uJ p) from List.mem_of_getElem? hx)
 have:x.PC=0:=by rw [←e];rfl
 exact ⟨fun e=>by omega,fun e=>by omega,fun e=>by omega⟩
end
end Go.Pe.G
namespace Go.Pe.G
open Go.Pe
noncomputable section
namespace B15
def zl2 (w:Int) (n:Nat) (s:za):za:=goF (fun _ s=>zN s w) 0 n s
theorem zu3 {p:zb} {nb:Nat} (h:zE p) {s:za} (E:EOk p nb s) (w:Int) {n:Nat} (hn:n<1000000):wR s w (n:Int)=some (zl2 w n s,()):=by
 have e:=zrZ (f:=uz) (fun i s=>(w,(n:Int),i,s,0,0,0,0,0,0,0,0,0,0#64,0,zo.mk 0#64 0#64,0,0,false,false,0,0,0,0,zr.mk 0 0,([]:List (List Int)),([]:List (List Int)),([]:List (List zj)),([]:List zm),([]:List (List Int)),([]:List (BitVec 64)),([]:List (List Int)),([]:List Int),([]:List Int),([]:List ze),([]:List zc),())) (fun s=>(s,0,0,0,0,0,0,0,0,0,0#64,0,zo.mk 0#64 0#64,0,0,false,false,0,0,0,0,zr.mk 0 0,([]:List (List Int)),([]:List (List Int)),([]:List (List zj)),([]:List zm),([]:List (List Int)),([]:List (BitVec 64)),([]:List (List Int)),([]:List Int),([]:List Int),([]:List ze),([]:List zc),())) n hn (fun _ s=>zN s w) (EOk p nb) (fun _ s E=>ziH h E w)
  (fun i s hi E=>by
   show uz (w,(n:Int),(i:Int),s,0,0,0,0,0,0,0,0,0,0#64,0,zo.mk 0#64 0#64,0,0,false,false,0,0,0,0,zr.mk 0 0,([]:List (List Int)),([]:List (List Int)),([]:List (List zj)),([]:List zm),([]:List (List Int)),([]:List (BitVec 64)),([]:List (List Int)),([]:List Int),([]:List Int),([]:List ze),([]:List zc),())=_
   rw [Uf,zA,if_pos (by omega),zcz h E,Option.bind_some,xn (by omega)])
  (fun s E=>by
   show uz (w,(n:Int),(n:Int),s,0,0,0,0,0,0,0,0,0,0#64,0,zo.mk 0#64 0#64,0,0,false,false,0,0,0,0,zr.mk 0 0,([]:List (List Int)),([]:List (List Int)),([]:List (List zj)),([]:List zm),([]:List (List Int)),([]:List (BitVec 64)),([]:List (List Int)),([]:List Int),([]:List Int),([]:List ze),([]:List zc),())=_
   rw [Uf,zA,if_neg (by omega)]) E
 rw [zhC]
 exact congrArg (fun o=>Option.bind o _) e
def zir (ord:List (BitVec 8)) (i:Nat) (s:za):Int:=1+((ord.getD i 0#8).toNat:Int).tmod (s.Ws.length:Int)
def zmf (ord:List (BitVec 8)) (n:Nat) (s:za):za:=goF (fun i s=>zN s (zir ord i s)) 0 n s
theorem zpV {p:zb} {nb:Nat} (h:zE p) {s:za} (E:EOk p nb s) (b:BitVec 8):w64 (1+(b.toNat:Int).tmod (s.Ws.length:Int))=1+(b.toNat:Int).tmod (s.Ws.length:Int)∧1≤1+(b.toNat:Int).tmod (s.Ws.length:Int)∧1+(b.toNat:Int).tmod (s.Ws.length:Int)≤(s.Ws.length:Int):=by
 have hw:=h.wk
 have hl:=E.wl
 have:=vg (show (0:Int)≤(b.toNat:Int) by omega) (show (0:Int)<(s.Ws.length:Int) by omega)
 exact ⟨yU (by omega) (by omega),by omega,by omega⟩
theorem zuO {p:zb} {nb:Nat} (h:zE p) {s:za} (E:EOk p nb s) (ord:List (BitVec 8)) {most:Nat} (hm:most<1000000):XC s ord (most:Int)=some (zmf ord (min ord.length most) s,()):=by
 have hw:=h.wk
 have e:=zrZ (f:=uH) (fun i s=>(ord,(most:Int),i,s,0,0,0,0,0,0,0,0,0,0#64,0,zo.mk 0#64 0#64,0,0,false,false,0,0,0,0,zr.mk 0 0,([]:List (List Int)),([]:List (List Int)),([]:List (List zj)),([]:List zm),([]:List (List Int)),([]:List (BitVec 64)),([]:List (List Int)),([]:List Int),([]:List Int),([]:List ze),([]:List zc),())) (fun s=>(s,0,0,0,0,0,0,0,0,0,0#64,0,zo.mk 0#64 0#64,0,0,false,false,0,0,0,0,zr.mk 0 0,([]:List (List Int)),([]:List (List Int)),([]:List (List zj)),([]:List zm),([]:List (List Int)),([]:List (BitVec 64)),([]:List (List Int)),([]:List Int),([]:List Int),([]:List ze),([]:List zc),())) (min ord.length most) (by omega) (fun i s=>zN s (zir ord i s)) (EOk p nb) (fun _ s E=>ziH h E _)
  (fun i s hi E=>by
   have hx:=List.getElem?_eq_getElem (show i<ord.length by omega)
   have hl:=E.wl
   show uH (ord,(most:Int),(i:Int),s,0,0,0,0,0,0,0,0,0,0#64,0,zo.mk 0#64 0#64,0,0,false,false,0,0,0,0,zr.mk 0 0,([]:List (List Int)),([]:List (List Int)),([]:List (List zj)),([]:List zm),([]:List (List Int)),([]:List (BitVec 64)),([]:List (List Int)),([]:List Int),([]:List Int),([]:List ze),([]:List zc),())=_
   have ew:zir ord i s=1+((ord[i]'(by omega)).toNat:Int).tmod (s.Ws.length:Int):=by unfold zir;rw [List.getD_eq_getElem?_getD,hx];rfl
   rw [V0,zA,if_pos (by omega),zA,if_pos (by omega),wI hx,Option.bind_some,zA,if_neg (by omega),(zpV h E _).1,zcz h E,Option.bind_some,xn (by omega),ew])
  (fun s E=>by
   show uH (ord,(most:Int),((min ord.length most:Nat):Int),s,0,0,0,0,0,0,0,0,0,0#64,0,zo.mk 0#64 0#64,0,0,false,false,0,0,0,0,zr.mk 0 0,([]:List (List Int)),([]:List (List Int)),([]:List (List zj)),([]:List zm),([]:List (List Int)),([]:List (BitVec 64)),([]:List (List Int)),([]:List Int),([]:List Int),([]:List ze),([]:List zc),())=_
   rw [V0,zA]
   by_cases c:((min ord.length most:Nat):Int)<(ord.length:Int)
   ·rw [if_pos c,zA,if_neg (by omega)]
   ·rw [if_neg c]) E
 rw [zhv]
 exact congrArg (fun o=>Option.bind o _) e
theorem zuz {A B D:Type} {f:A→Option (xM A B D)} {x:A} {b:B} (h:f x=some (.brk b)):yP f x=some (.brk b):=by
 rw [zaq]
 show ZM f (18446744073709551615+1) x=_
 rw [ZM,h];rfl
def Vn:zb:=⟨1,0,2,1,1,4,2,2,⟨1,[[2],[0],[0]]⟩,1#64,[],[],[]⟩
theorem zu5:Ub []=some (Vn,()):=by
 rw [zhu,zuz (by rw [zez];rfl)];rfl
theorem za5:zE Vn:=by
 constructor
 case objs=>intro o ho;simp [Vn] at ho ⊢;rcases ho with rfl | rfl | rfl<;>simp
 case roots=>exact ⟨1,by decide,by decide,by decide⟩
 case reg=>intro r hr;cases hr
 case prog=>intro k r ops hr;cases hr
 all_goals first | decide | rfl
theorem zpg:WD=some (true,()):=by
 have E:=zqv za5
 have r:=fun n hn=>zu3 za5 E 1 (n:=n) hn
 have e4:wR (wg Vn) 1 4=some (zl2 1 4 (wg Vn),()):=r 4 (by decide)
 have e11:wR (wg Vn) 1 11=some (zl2 1 11 (wg Vn),()):=r 11 (by decide)
 have e100:wR (wg Vn) 1 100=some (zl2 1 100 (wg Vn),()):=r 100 (by decide)
 have out: ∀w:Int,w<1∨1<w→zN (wg Vn) w=wg Vn:=fun w hw=>by
  unfold zN
  rw [if_pos (.inr (hw.imp id (fun e=>by show (((List.range 1).map (uJ Vn)).length:Int)<w;rw [List.length_map,List.length_range];omega)))]
 rw [ze4,zu5]
 simp only [Option.bind_some,zou za5,e4,e11,e100,zcz za5 E,out 2 (.inr (by decide)),out 0 (.inl (by decide)),zsY (zow za5)]
 decide +kernel
theorem zqh {p:zb} (hp:zE p) (ord:List (BitVec 8)): ∀(n i k:Nat) (s:za) (gh:Gh),k+n<1000000→SI p k s gh→∃gh',SI p (k+n) (goF (fun i s=>zN s (zir ord i s)) i n s) gh'
 | 0,i,k,s,gh,_,I=>⟨gh,I⟩
 | n+1,i,k,s,gh,hk,I=>by
  have E:=I.G.E
  have hw:=(zpV hp E (ord.getD i 0#8)).2
  have hwl:=E.wl
  have hx:=List.getElem?_eq_getElem (show (zir ord i s-1).toNat<s.Ws.length by unfold zir;omega)
  obtain ⟨gh',x',I',_⟩:=I.step hp (by omega) (w:=zir ord i s) (by unfold zir;omega) hx
  have:=zqh hp ord n (i+1) (k+1) _ gh' (by omega) I'
  rw [show k+(n+1)=k+1+n by omega]
  exact this
theorem workerStops_plain (l ord:List (BitVec 8)) (b:BitVec 8):vJ l ord b=some (true,()):=by
 obtain ⟨p,ep,h⟩:=zvH l
 have E0:=zqv h
 have hwk:=h.wk
 have et:XC (wg p) ord 200=some (zmf ord (min ord.length 200) (wg p),()):=zuO h E0 ord (most:=200) (by decide)
 rw [zc5,zpg]
 simp only [Option.bind_some,Bool.not_true,cond_false,ep,zou h,et]
 obtain ⟨gh,I⟩:=zqh h ord (min ord.length 200) 0 0 (wg p) (gh0 p) (by omega) (zwG h)
 have I:SI p (0+min ord.length 200) (zmf ord (min ord.length 200) (wg p)) gh:=I
 have hk0:0+min ord.length 200≤200:=by omega
 generalize 0+min ord.length 200=k0 at I hk0
 generalize zmf ord (min ord.length 200) (wg p)=s0 at I
 have hwl:=I.G.E.wl
 have hwi:=zpV h I.G.E b
 rw [zA,if_neg (by omega),hwi.1]
 generalize 1+(b.toNat:Int).tmod (s0.Ws.length:Int)=w at hwi
 have hw:1≤w∧w≤p.Workers:=by omega
 have ww:w64 (w-1)=w-1:=yU (by omega) (by omega)
 have hx0:=List.getElem?_eq_getElem (show (w-1).toNat<s0.Ws.length by omega)
 obtain ⟨o,e,L,rfl,hL⟩:=Zf (f:=ZK) (fun a=>∃(i L:Nat) (s:za) (gh:Gh) (x:ze),i≤2000∧L≤i∧a=(true,w,(L:Int),(i:Int),s,())∧SI p (k0+i) s gh∧s.Ws[(w-1).toNat]? =some x∧i+X1 p s.M w x≤419*(L+1)) (fun a=>2000-a.2.2.2.1.toNat)
  (fun o=>∃L:Nat,o= .brk (true,(L:Int),())∧3≤L) (by
  rintro _ ⟨i,L,s,gh,x,hi,hLi,rfl,I,hx,hr⟩
  rw [za7,zA]
  by_cases c:(i:Int)<2000
  ·have E:=I.G.E
   obtain ⟨gh',x',I',hx',hst⟩:=I.step h (by omega) hw hx
   have hle:=I'.le h hw hx'
   have ix:idx (zN s w).Ws (w-1)=some x':=by
    have hl:=(List.getElem?_eq_some_iff.1 hx').1
    rw [show w-1=(((w-1).toNat:Nat):Int) by omega]
    exact wI hx'
   rw [if_pos c,zcz h E,Option.bind_some]
   dsimp only
   rw [ww,ix,Option.bind_some,Option.bind_some,zA,zA,xn (i:=i) (by omega),xn (i:=L) (by omega)]
   by_cases cb:x'.PC=0∧x'.D.PC=0
   ·rw [if_pos cb.1,if_pos cb.2]
    refine ⟨_,rfl,⟨i+1,L+1,_,gh',x',by omega,by omega,rfl,I',hx',by omega⟩,?_⟩
    show 2000-((i+1:Nat):Int).toNat<2000-(i:Int).toNat
    omega
   ·have hlt:=hst.resolve_right (fun h=>cb ⟨h.1,h.2.1⟩)
    by_cases c0:x'.PC=0
    ·rw [if_pos c0,if_neg (fun h=>cb ⟨c0,h⟩)]
     refine ⟨_,rfl,⟨i+1,L,_,gh',x',by omega,by omega,rfl,I',hx',by omega⟩,?_⟩
     show 2000-((i+1:Nat):Int).toNat<2000-(i:Int).toNat
     omega
    ·rw [if_neg c0]
     refine ⟨_,rfl,⟨i+1,L,_,gh',x',by omega,by omega,rfl,I',hx',by omega⟩,?_⟩
     show 2000-((i+1:Nat):Int).toNat<2000-(i:Int).toNat
     omega
  ·rw [if_neg c]
   exact ⟨_,rfl,L,rfl,by omega⟩) (true,w,0,0,s0,()) ⟨0,0,s0,gh,_,by omega,by omega,rfl,I,hx0,by have:=I.le h hw hx0;omega⟩ (by show 2000-0<18446744073709551616;decide)
 refine (congrArg (fun o=>Option.bind o _) e).trans ?_
 rw [Option.bind_some]
 dsimp only
 rw [cond_true,decide_eq_true (by omega)]
end B15
end
end Go.Pe.G
