/- Own work of this seat: PMstep, PBits, PWAll, PLists, PWNew, PFrame, PHp, PFirst, PNewI, PCnt, PFull, PRem, PRuns, PReach, PLiveP, PProt, PMProt, PMSnap, PWSnap, PStops, PSteals, PSteals2, PHeld, PWOnce, PItems, PLaw15. -/
import Derived.Test.YtenpfjfpekljpaaGreatDoorWSPa
set_option linter.unusedVariables false
set_option linter.unusedSimpArgs false
set_option linter.unnecessarySimpa false
set_option linter.unusedSectionVars false
set_option linter.deprecated false
set_option maxRecDepth 20000
namespace Go.Pe.G
open Go.Pe
noncomputable section
def vi (x:zc):List Int:=if x.PC=33∨x.PC=34 then [x.Bin] else if x.PC=3∨x.PC=37 then xK x.G else []
def zaP (s:za) (x:zc):List Int:=if x.PC=33 then xe s x.Bin else if x.PC=36∨x.PC=38 then [x.Obj] else if x.PC=37 then x.Obj::yM x.G else if x.PC=3 then yM x.G else []
def yc (s:za) (x:zc):List Int:=x.Batch++zaP s x
structure MX (p:zb) (s:za) (gh:Gh) (x:zc):Prop where
 bt:x.PC≤33→x.Batch=[]
 bf: ∀v∈x.Buf,1≤v∧v≤64
 ol:(x.PC=21→0≤x.Old∧x.Old≤64)∧(x.PC=22∨((x.PC=1∨x.PC=3)∧x.Ret=22)→1≤x.Old∧x.Old≤64)
 p3:x.PC=3→GX p s gh x.G∧x.G.Mode=2∧x.G.Out=0
 p32:x.PC=32→x.C.Out=0∧(0≤x.C.PC∧x.C.PC≤2)∧CK p s.M x.C
 p34:x.PC=34→x.C.Out=0∧(0≤x.C.PC∧x.C.PC≤2)∧x.C.X=x.Bin∧CK p s.M x.C
 p37:x.PC=37→GX p s gh x.G∧x.G.Mode=3∧x.G.Out=0
theorem MX.plain {p:zb} {s:za} {gh:Gh} {x:zc} (h:x.PC≠3∧x.PC≠32∧x.PC≠34∧x.PC≠37) (bt:x.PC≤33→x.Batch=[]) (bf: ∀v∈x.Buf,1≤v∧v≤64)
  (ol:(x.PC=21→0≤x.Old∧x.Old≤64)∧(x.PC=22∨((x.PC=1∨x.PC=3)∧x.Ret=22)→1≤x.Old∧x.Old≤64)):MX p s gh x :=
 ⟨bt,bf,ol,fun e=>by omega,fun e=>by omega,fun e=>by omega,fun e=>by omega⟩
theorem vq {x:zc} (h:x.PC≠3∧x.PC≠33∧x.PC≠34∧x.PC≠37):vi x=[]:=by unfold vi;rw [if_neg (by omega),if_neg (by omega)]
theorem zaF {x:zc} (h:x.PC=33∨x.PC=34):vi x=[x.Bin]:=by unfold vi;rw [if_pos h]
theorem zdy {x:zc} (h:x.PC=3∨x.PC=37):vi x=xK x.G:=by unfold vi;rw [if_neg (by omega),if_pos h]
theorem uD {s:za} {x:zc} (h:x.PC≠3∧x.PC≠33∧x.PC≠36∧x.PC≠37∧x.PC≠38):zaP s x=[]:=by unfold zaP;rw [if_neg (by omega),if_neg (by omega),if_neg (by omega),if_neg (by omega)]
theorem zkO {s:za} {x:zc} (h:x.PC=33):zaP s x=xe s x.Bin:=by unfold zaP;rw [if_pos h]
theorem Vu {s:za} {x:zc} (h:x.PC=36∨x.PC=38):zaP s x=[x.Obj]:=by unfold zaP;rw [if_neg (by omega),if_pos h]
theorem zkD {s:za} {x:zc} (h:x.PC=37):zaP s x=x.Obj::yM x.G:=by unfold zaP;rw [if_neg (by omega),if_neg (by omega),if_pos h]
theorem zjB {s:za} {x:zc} (h:x.PC=3):zaP s x=yM x.G:=by unfold zaP;rw [if_neg (by omega),if_neg (by omega),if_neg (by omega),if_pos h]
theorem MX.other {p:zb} (hp:zC p) {nb k:Nat} {s s':za} {gh gh':Gh} {X R:List Int} {O:Int→Prop} {m:Int} {x:zc} (Y:SX p nb s gh (X++R) k) (Fx:FX p nb X O s s' gh gh') (K:MX p s gh x) (W:XOk p nb m x)
  (hR: ∀b∈vi x,b∈R):MX p s' gh' x∧yc s' x=yc s x:=by
 have hsub: ∀b∈X,b∈X++R:=fun b hb=>List.mem_append_left _ hb
 have hnd:=(List.nodup_append.1 Y.L.nodup).2.1
 have hnot: ∀b,b∈vi x→b∉X:=fun b hb hg=>(List.nodup_append.1 hnd).2.2 b hg b (hR b hb) rfl
 refine ⟨⟨K.bt,K.bf,K.ol,fun e=> ?_,fun e=> ?_,fun e=> ?_,fun e=> ?_⟩,?_⟩
 ·obtain ⟨a,b,c⟩:=K.p3 e
  obtain ⟨M,_,_⟩:=W.g (.inl e)
  exact ⟨a.other hp Y Fx M (fun y hy=>hR y (by rw [zdy (.inl e)];exact hy)) (fun e2=>by omega),b,c⟩
 ·obtain ⟨a,b,c⟩:=K.p32 e
  have C:=W.c32 e
  exact ⟨a,b,c.mv Y.L Fx.mv hsub (.inl C.h) (fun h _=>C.v h) (fun e2=>by have:=C.k;omega)⟩
 ·obtain ⟨a,b,c,d⟩:=K.p34 e
  have C:=W.c34 e
  have hno:=hnot x.Bin (by rw [zaF (.inr e)];simp)
  exact ⟨a,b,c,d.mv Y.L Fx.mv hsub (.inr C.h) (fun _ e2=>by have:=C.k;omega) (fun _=>⟨C.x.1,C.x.2,by rw [c];exact hno⟩)⟩
 ·obtain ⟨a,b,c⟩:=K.p37 e
  obtain ⟨M,_,_⟩:=W.g (.inr e)
  exact ⟨a.other hp Y Fx M (fun y hy=>hR y (by rw [zdy (.inr e)];exact hy)) (fun e2=>by omega),b,c⟩
 ·unfold yc
  congr 1
  by_cases e3:x.PC=33
  ·rw [zkO e3,zkO e3]
   have hb:=W.b33 e3
   have hno:=hnot x.Bin (by rw [zaF (.inl e3)];simp)
   unfold xe
   rw [Fx.bn x.Bin hb.1 hno]
  ·unfold zaP
   rw [if_neg e3,if_neg e3]
def zcH (p:zb) (nb k:Nat) (R:List Int) (gh:Gh) (s:za) (x:zc) (s':za) (x':zc):Prop :=
 ∃gh',SX p nb s' gh' (vi x'++R) (k+1)∧MX p s' gh' x'∧FX p nb (vi x) (fun _=>False) s s' gh gh' ∧
  ∃N B,List.Perm (yy p s' gh'++yc s' x'++B) (N++(yy p s gh++yc s x)) ∧
   ((N=[]∧B=[]∧s'.T=s.T)∨(N=[x.G.Obj]∧B=[]∧(x.PC=3∨x.PC=37)∧¬(s.T.Marks|||bit x.G.Obj=s.T.Marks)∧s'.T={s.T with Marks:=s.T.Marks|||bit x.G.Obj})∨(N=[]∧B=[x.Obj]∧x.PC=38∧s'.T=wR s.T x.Obj) ∨
    (N=[]∧B=[]∧x.PC=30∧zbT s.H s.P.Most=true∧s'.H=uK s.H∧s'.T=Uu s.T (wc (s.H.Objs.length+1))))
theorem zcH.quiet {p:zb} {nb k:Nat} {R:List Int} {gh:Gh} {s s':za} {x x':zc} (X:SX p nb s gh (vi x++R) k) (S':SOk p nb s') (hm:s'.M=s.M) (hb:s'.Bins=s.Bins) (hT:s'.T=s.T)
  (ho:vi x'=vi x) (hh:List.Perm (yc s' x') (yc s x)) (W':MX p s' gh x'):zcH p nb k R gh s x s' x' :=
 ⟨gh,by rw [ho];exact X.quiet S' hm,W',FX.quiet hm (fun _ _ _=>by rw [hb]),[],[],by rw [ZB hb,List.append_nil];exact List.Perm.append_left _ hh,.inl ⟨rfl,rfl,hT⟩⟩
theorem zcH.calm {p:zb} {nb k:Nat} {R:List Int} {gh:Gh} {s s':za} {x x':zc} (X:SX p nb s gh (vi x++R) k) (S':SOk p nb s') (hm:s'.M=s.M) (hb:s'.Bins=s.Bins) (hT:s'.T=s.T)
  (h:x.PC≠3∧x.PC≠33∧x.PC≠34∧x.PC≠36∧x.PC≠37∧x.PC≠38) (h':x'.PC≠3∧x'.PC≠32∧x'.PC≠33∧x'.PC≠34∧x'.PC≠36∧x'.PC≠37∧x'.PC≠38) (eb:x'.Batch=x.Batch)
  (bt:x'.PC≤33→x'.Batch=[]) (bf: ∀v∈x'.Buf,1≤v∧v≤64) (ol:(x'.PC=21→0≤x'.Old∧x'.Old≤64)∧(x'.PC=22∨((x'.PC=1∨x'.PC=3)∧x'.Ret=22)→1≤x'.Old∧x'.Old≤64)):zcH p nb k R gh s x s' x':=by
 refine .quiet X S' hm hb hT ?_ ?_ (MX.plain (by omega) bt bf ol)
 ·rw [vq (by omega),vq (by omega)]
 ·unfold yc
  rw [uD (by omega),uD (by omega),eb]
theorem znC {p:zb} {s:za} {gh:Gh} {md o w:Int} (hmd:md=2∨md=3) (ho:1≤o∧o≤64):GX p s gh (Yw md o w)∧(Yw md o w).Mode=md∧(Yw md o w).Out=0∧xK (Yw md o w)=[]∧yM (Yw md o w)=[]:=by
 refine ⟨GX.plain (.inl rfl) ⟨by show (0:Int)≤0;decide,by show (0:Int)≤7;decide⟩ ⟨by show 1≤md;omega,by show md≤3;omega⟩ ho (fun e=>by have e:md=1:=e;omega) (.inr ⟨by show (0:Int)≠3;decide,by show (0:Int)≠5;decide,by show (0:Int)≠7;decide⟩),rfl,rfl,
  wN (.inr ⟨by show (0:Int)≠6;decide,by show (0:Int)≠7;decide⟩),u5 (.inr (.inl (by show (0:Int)<3;decide)))⟩
theorem zx5 {p:zb} (hp:zC p) {nb k:Nat} {R:List Int} {gh:Gh} {s:za} {m:Int} {x:zc} (hk:k<4294960000) (X:SX p nb s gh (vi x++R) k) (W:XOk p nb m x) (K:MX p s gh x) (hpl:((Xg p m).length:Int)≤64)
  (hH: ∀o i,0≤zM s.H o i∧zM s.H o i≤64):zcH p nb k R gh s x (zo s m x).1 (zo s m x).2:=by
 have S':=(zu6 hp hpl X.S W).1
 have hP:=X.S.P
 have eC:XD s.P (zD s.P) x.Bin=XD p (zD p) x.Bin:=by rw [hP]
 have hbf:=K.bf
 have hol:=K.ol
 revert S'
 refine wH (motive:=fun r=>SOk p nb r.1→zcH p nb k R gh s x r.1 r.2) s m x ?_ ?_ ?_ ?_ ?_ ?_ ?_ ?_ ?_ ?_ ?_ ?_ ?_ ?_ ?_ ?_ ?_ ?_ ?_ ?_
 ·intro c;unfold mu0 zbG;dsimp only
  have hbt:=K.bt (by omega)
  repeat' split
  all_goals (intro S')
  all_goals (refine .calm X S' rfl rfl rfl (by omega) (by (try dsimp only [setM]);omega) rfl (fun _=>hbt) hbf ⟨fun e=> ?_,fun e=> ?_⟩<;>((try dsimp only [setM] at e);omega))
 ·intro c;unfold mu1;dsimp only
  have hbt:=K.bt (by omega)
  have hrt:=W.ret (.inl c)
  split
  ·intro S'
   exact .calm X S' rfl rfl rfl (by omega) (by dsimp only;omega) rfl (fun _=>hbt) hbf ⟨fun e=>by dsimp only at e;omega,fun e=>by dsimp only at e ⊢;exact hol.2 (by omega)⟩
  ·rename_i hl
   intro S'
   have hv:1≤x.Buf.getD (x.Buf.length-1) 0∧x.Buf.getD (x.Buf.length-1) 0≤64:=by
    rw [List.getD_eq_getElem?_getD,List.getElem?_eq_getElem (show x.Buf.length-1<x.Buf.length by omega)]
    exact hbf _ (List.getElem_mem _)
   obtain ⟨g1,g2,g3,g4,g5⟩:=znC (p:=p) (s:=s) (gh:=gh) (w:=m) (.inl rfl) hv
   refine .quiet X S' rfl rfl rfl ?_ ?_ ⟨fun _=>hbt,fun v hv=>hbf v (List.mem_of_mem_take hv),⟨fun e=>(by cases e),fun e=> ?_⟩,fun _=>⟨g1,g2,g3⟩,fun e=>(by cases e),fun e=>(by cases e),fun e=>(by cases e)⟩
   ·rw [vq (x:=x) (by omega),zdy (.inl rfl)];exact g4
   ·unfold yc
    rw [uD (x:=x) (by omega),zjB rfl]
    show List.Perm (x.Batch++yM (Yw 2 (x.Buf.getD (x.Buf.length-1) 0) m)) _
    rw [g5]
   ·rcases e with e | e
    ·cases e
    ·exact hol.2 (.inr ⟨.inl c,e.2⟩)
 ·intro c S';unfold mu2 at S' ⊢
  exact .calm X S' rfl rfl rfl (by omega) (by dsimp only;omega) rfl (fun _=>K.bt (by omega)) hbf ⟨fun e=>by dsimp only at e;omega,fun e=>by dsimp only at e;omega⟩
 ·intro c;unfold mu3;dsimp only
  have hbt:=K.bt (by omega)
  obtain ⟨G,gm,g0⟩:=K.p3 c
  obtain ⟨M,h5o,hn1⟩:=W.g (.inl c)
  have eo:vi x=xK x.G:=zdy (.inl c)
  have hh:yc s x=yM x.G:=by unfold yc;rw [zjB c,hbt,List.nil_append]
  rw [eo] at X
  obtain ⟨gh',X',G',Fx,hc',hFb,N,hN,hT⟩:=zsZ hp hk X M h5o G
  have so:=Vf s x.G
  have Fx':FX p nb (vi x) (fun _=>False) s (zp s x.G).1 gh gh':=by rw [eo];exact Fx.mono (fun v e=>by have:=e.1;omega)
  have hT':(N=[]∧([]:List Int)=[]∧(zp s x.G).1.T=s.T)∨(N=[x.G.Obj]∧([]:List Int)=[]∧(x.PC=3∨x.PC=37)∧¬(s.T.Marks|||bit x.G.Obj=s.T.Marks)∧(zp s x.G).1.T={s.T with Marks:=s.T.Marks|||bit x.G.Obj}):=by
   rcases hT with ⟨a,b⟩ | ⟨a,b,c'⟩
   ·exact .inl ⟨a,rfl,b⟩
   ·exact .inr ⟨a,rfl,.inl c,b,c'⟩
  split
  ·rename_i o1
   intro S'
   have n1:xK (zp s x.G).2=[]:=wN (.inl (by omega))
   have n2:yM (zp s x.G).2=[]:=u5 (.inl (by omega))
   rw [n1] at X'
   refine ⟨gh',by rw [vq (by dsimp only;omega)];exact X',MX.plain (by dsimp only;omega) (fun _=>hbt) hbf ⟨fun e=>(by cases e),fun e=> ?_⟩,Fx',N,[],?_,hT'.elim .inl (fun h=> .inr (.inl h))⟩
   ·rcases e with e | e
    ·cases e
    ·exact hol.2 (.inr ⟨.inr c,e.2⟩)
   ·unfold yc
    rw [uD (by dsimp only;omega),List.append_nil,List.append_nil]
    rw [n2,List.append_nil] at hN
    show List.Perm (yy p (zp s x.G).1 gh'++x.Batch) (N++(yy p s gh++(x.Batch++zaP s x)))
    rw [hbt,zjB c,List.append_nil,List.nil_append]
    exact hN
  ·rename_i o1
   intro S'
   have o0:(zp s x.G).2.Out=0:=by have:=G'.o;omega
   refine ⟨gh',by rw [zdy (x:={x with G:=(zp s x.G).2}) (.inl c)];exact X',⟨fun _=>hbt,hbf,hol,fun _=>⟨G',so.2.2.trans gm,o0⟩,fun e=>by have e:x.PC=32:=e;omega,fun e=>by have e:x.PC=34:=e;omega,fun e=>by have e:x.PC=37:=e;omega⟩,Fx',N,[],?_,hT'.elim .inl (fun h=> .inr (.inl h))⟩
   unfold yc
   rw [zjB (x:={x with G:=(zp s x.G).2}) c,List.append_nil]
   show List.Perm (yy p (zp s x.G).1 gh'++(x.Batch++yM (zp s x.G).2)) (N++(yy p s gh++(x.Batch++zaP s x)))
   rw [hbt,zjB c,List.nil_append,List.nil_append]
   exact hN
 ·intro c S';unfold zht at S' ⊢
  exact .calm X S' rfl rfl rfl (by omega) (by dsimp only [setM];omega) rfl (fun _=>K.bt (by omega)) hbf ⟨fun e=>by dsimp only [setM] at e;omega,fun e=>by dsimp only [setM] at e;omega⟩
 ·intro c;unfold zfr;dsimp only
  have hbt:=K.bt (by omega)
  split
  ·intro S'
   exact .calm X S' rfl rfl rfl (by omega) (by dsimp only [vX];omega) rfl (fun _=>hbt) hbf ⟨fun e=>by dsimp only [vX] at e;omega,fun e=>by dsimp only [vX] at e;omega⟩
  ·intro S'
   exact .calm X S' rfl rfl rfl (by omega) (by dsimp only;omega) rfl (fun _=>hbt) hbf ⟨fun _=>hH _ _,fun e=>by dsimp only at e;omega⟩
 ·intro c;unfold zfO;dsimp only
  have hbt:=K.bt (by omega)
  have h21:=hol.1 c
  split
  ·intro S'
   exact .calm X S' rfl rfl rfl (by omega) (by dsimp only;omega) rfl (fun _=>hbt) hbf ⟨fun e=>by dsimp only at e;omega,fun e=>by dsimp only at e;omega⟩
  ·rename_i hn
   intro S'
   have: ¬x.Old=0:=fun e=>hn (.inl e)
   exact .calm X S' rfl rfl rfl (by omega) (by dsimp only;omega) rfl (fun _=>hbt) hbf ⟨fun e=>by dsimp only at e;omega,fun e=>by dsimp only;omega⟩
 ·intro c;unfold zfS;dsimp only
  have hbt:=K.bt (by omega)
  have h22:=hol.2 (.inl c)
  split
  ·intro S'
   exact .calm X S' rfl rfl rfl (by omega) (by dsimp only;omega) rfl (fun _=>hbt) hbf ⟨fun e=>by dsimp only at e;omega,fun e=>h22⟩
  ·intro S'
   refine .calm X S' rfl rfl rfl (by omega) (by dsimp only;omega) rfl (fun _=>hbt) (fun v hv=> ?_) ⟨fun e=>by dsimp only at e;omega,fun e=>by dsimp only at e;omega⟩
   rcases List.mem_append.1 hv with h | h
   ·exact hbf v h
   ·rw [List.mem_singleton.1 h];exact h22
 ·intro c S';unfold zfW at S' ⊢
  exact .calm X S' rfl rfl rfl (by omega) (by dsimp only [vX];omega) rfl (fun _=>K.bt (by omega)) hbf ⟨fun e=>by dsimp only [vX] at e;omega,fun e=>by dsimp only [vX] at e;omega⟩
 ·intro c;unfold zaN
  have hbt:=K.bt (by omega)
  split
  ·split
   ·rename_i h1 h2
    intro S'
    refine ⟨gh,by rw [vq (by dsimp only [setM];omega)];rw [vq (x:=x) (by omega)] at X;exact X.quiet S' rfl,MX.plain (by dsimp only [setM];omega) (fun _=>hbt) hbf ⟨fun e=>by dsimp only [setM] at e;omega,fun e=>by dsimp only [setM] at e;omega⟩,FX.quiet rfl (fun _ _ _=>rfl),[],[],?_,.inr (.inr (.inr ⟨rfl,rfl,c,h2,rfl,rfl⟩))⟩
    rw [ZB rfl,List.append_nil,List.nil_append]
    unfold yc
    rw [uD (by dsimp only [setM];omega),uD (x:=x) (by omega)]
    exact List.Perm.refl _
   ·intro S'
    exact .calm X S' rfl rfl rfl (by omega) (by dsimp only [vX];omega) rfl (fun _=>hbt) hbf ⟨fun e=>by dsimp only [vX] at e;omega,fun e=>by dsimp only [vX] at e;omega⟩
  ·intro S'
   exact .calm X S' rfl rfl rfl (by omega) (by dsimp only;omega) rfl (fun _=>hbt) hbf ⟨fun e=>by dsimp only at e;omega,fun e=>by dsimp only at e;omega⟩
 ·intro c;unfold zfy;dsimp only
  have hbt:=K.bt (by omega)
  split
  ·intro S'
   refine .quiet X S' rfl rfl rfl (by rw [vq (by dsimp only;omega),vq (x:=x) (by omega)]) ?_ ⟨fun _=>hbt,hbf,⟨fun e=>by dsimp only at e;omega,fun e=>by dsimp only at e;omega⟩,fun e=>by dsimp only at e;omega,fun _=>⟨rfl,⟨by show (0:Int)≤0;decide,by show (0:Int)≤2;decide⟩,by show CK p s.M (zn7 s.P (zU s.P) x.Bin);rw [hP];exact CK.start⟩,fun e=>by dsimp only at e;omega,fun e=>by dsimp only at e;omega⟩
   unfold yc
   rw [uD (by dsimp only;omega),uD (x:=x) (by omega)]
  ·intro S'
   exact .calm X S' rfl rfl rfl (by omega) (by dsimp only;omega) rfl (fun _=>hbt) hbf ⟨fun e=>by dsimp only at e;omega,fun e=>by dsimp only at e;omega⟩
 ·intro c;unfold zfT;dsimp only
  have C:=W.c32 c
  obtain ⟨c1,c2,c3⟩:=K.p32 c
  have hbt:=K.bt (by omega)
  have eo:vi x=[]:=vq (by omega)
  have hh:yc s x=[]:=by unfold yc;rw [hbt,uD (by omega)];rfl
  have nn: ∀e:x.PC=21,False:=fun e=>by omega
  intro S'
  have S':SOk p nb {s with M:=(zj s.M x.C).1}:=S'
  rcases SX.popF hp X hk C.k C.h C.n c1 c2 c3 C.v S' with ⟨a,b,cc,d⟩ | ⟨y,l,a,b,cc,d,e⟩
  ·rw [if_neg b]
   have hout:=Wa s.M c1 c2 (.inr C.k)
   by_cases o2:(zj s.M x.C).2.Out=2
   ·rw [if_pos o2]
    exact .calm X S' a rfl rfl (by omega) (by dsimp only;omega) rfl (fun _=>hbt) hbf ⟨fun e=>by dsimp only at e;omega,fun e=>by dsimp only at e;omega⟩
   ·rw [if_neg o2]
    have hpc':(zj s.M x.C).2.Out=0∧0≤(zj s.M x.C).2.PC∧(zj s.M x.C).2.PC≤2:=by omega
    refine .quiet X S' a rfl rfl ?_ ?_ ⟨fun _=>hbt,hbf,hol,fun e=>by have e:x.PC=3:=e;omega,fun _=>⟨hpc'.1,hpc'.2,?_⟩,fun e=>by have e:x.PC=34:=e;omega,fun e=>by have e:x.PC=37:=e;omega⟩
    ·rw [eo];exact vq (by dsimp only;omega)
    ·unfold yc
     rw [uD (by dsimp only;omega),uD (x:=x) (by omega)]
    ·rw [show ({s with M:=(zj s.M x.C).1}:za).M=s.M from a];exact cc
  ·rw [if_pos b]
   have e1:vi {x with PC:=33,Bin:=(zj s.M x.C).2.X,C:=(zj s.M x.C).2}=[y]:=by rw [←cc];exact zaF (x:={x with PC:=33,Bin:=(zj s.M x.C).2.X,C:=(zj s.M x.C).2}) (.inl rfl)
   refine ⟨{gh with F:=l},by rw [e1];rw [eo] at d;exact d,MX.plain (by dsimp only;omega) (fun _=>hbt) hbf ⟨fun e=>by dsimp only at e;omega,fun e=>by dsimp only at e;omega⟩,e _ _,[],[],?_,.inl ⟨rfl,rfl,rfl⟩⟩
   rw [hh,List.append_nil,List.append_nil,List.nil_append]
   unfold yc
   rw [zkO (x:={x with PC:=33,Bin:=(zj s.M x.C).2.X,C:=(zj s.M x.C).2}) rfl]
   show List.Perm (yy p s {gh with F:=l}++(x.Batch++xe s (zj s.M x.C).2.X)) _
   rw [hbt,List.nil_append,cc]
   have:yy p s gh=xe s y++yy p s {gh with F:=l}:=by unfold yy;rw [a];simp [List.append_assoc]
   rw [this]
   exact List.perm_append_comm
 ·intro c;unfold zhA;dsimp only
  intro S'
  have hb:=W.b33 c
  have hbt:=K.bt (by omega)
  have eo:vi x=[x.Bin]:=zaF (.inl c)
  rw [eC] at *
  have e1:vi {x with Batch:=ZS s x.Bin,PC:=34,C:=XD p (zD p) x.Bin}=[x.Bin]:=zaF (x:={x with Batch:=ZS s x.Bin,PC:=34,C:=XD p (zD p) x.Bin}) (.inr rfl)
  have hget: ∀b,1≤b→b∉vi x→(s.Bins.set x.Bin.toNat [])[b.toNat]? =s.Bins[b.toNat]? :=fun b b1 b2=>by
   rw [List.getElem?_set_ne]
   intro e
   rw [eo] at b2
   exact b2 (by rw [show b=x.Bin by omega];simp)
  refine ⟨gh,by rw [e1,←eo];exact X.quiet S' rfl,⟨fun e=>absurd e (by show ¬(34:Int)≤33;decide),hbf,⟨fun e=>by dsimp only at e;omega,fun e=>by dsimp only at e;omega⟩,fun e=>by dsimp only at e;omega,fun e=>by dsimp only at e;omega,fun _=>⟨rfl,⟨by show (0:Int)≤0;decide,by show (0:Int)≤2;decide⟩,rfl,CK.start⟩,fun e=>by dsimp only at e;omega⟩,FX.quiet rfl hget,[],[],?_,.inl ⟨rfl,rfl,rfl⟩⟩
  have hbag:yy p {s with Bins:=s.Bins.set x.Bin.toNat []} gh=yy p s gh:=by
   unfold yy
   congr 1
   refine vb (fun b hb=> ?_)
   have hm:=X.L.cF.mem b hb
   have hno:=(X.L.notF (x:=x.Bin) (by rw [eo];simp)).1
   unfold xe
   rw [show ({s with Bins:=s.Bins.set x.Bin.toNat []}:za).Bins=s.Bins.set x.Bin.toNat [] from rfl,hget b hm.1 (by rw [eo];intro e;rw [List.mem_singleton.1 e] at hb;exact hno hb)]
  rw [hbag,List.append_nil,List.nil_append]
  unfold yc
  rw [zkO c,uD (x:={x with Batch:=ZS s x.Bin,PC:=34,C:=XD p (zD p) x.Bin}) (by dsimp only;omega)]
  show List.Perm (yy p s gh++(ZS s x.Bin++[])) _
  rw [hbt,List.append_nil,List.nil_append,ziW]
 ·intro c;unfold zeV;dsimp only
  intro S'
  have S':SOk p nb {s with M:=(zj s.M x.C).1}:=S'
  have C:=W.c34 c
  obtain ⟨c1,c2,c3,c4⟩:=K.p34 c
  have eo:vi x=[x.Bin]:=zaF (.inr c)
  have hh:yc s x=x.Batch:=by unfold yc;rw [uD (by omega),List.append_nil]
  rw [eo] at X
  rcases SX.pushE hp (o1:=[]) (o2:=R) (b:=x.Bin) X hk C.k C.h C.n c3 c1 c2 c4 C.v S' with ⟨a,b,cc,d⟩ | ⟨a,b,d⟩
  ·rw [a,if_neg (by decide)]
   have hout:=Wa s.M c1 c2 (.inl C.k)
   have hsame:=zhD s.M x.C
   have hpc':0≤(zj s.M x.C).2.PC∧(zj s.M x.C).2.PC≤2:=by omega
   have e1:vi {x with C:=(zj s.M x.C).2}=[x.Bin]:=zaF (x:={x with C:=(zj s.M x.C).2}) (.inr c)
   refine ⟨gh,by rw [e1];exact b,⟨fun e=>by have e:x.PC≤33:=e;omega,hbf,hol,fun e=>by have e:x.PC=3:=e;omega,fun e=>by have e:x.PC=32:=e;omega,fun _=>⟨a,hpc',(hsame.2.2.2 C.k).trans c3,cc⟩,fun e=>by have e:x.PC=37:=e;omega⟩,by rw [eo];exact d _ _ (by simp),[],[],?_,.inl ⟨rfl,rfl,rfl⟩⟩
   rw [ZB rfl,hh,List.append_nil]
   unfold yc
   rw [uD (x:={x with C:=(zj s.M x.C).2}) (by dsimp only;omega),List.append_nil]
   exact List.Perm.refl _
  ·rw [a,if_pos rfl]
   refine ⟨{gh with E:=x.Bin::gh.E},by rw [vq (by dsimp only;omega)];exact b,MX.plain (by dsimp only;omega) (fun e=>absurd e (by show ¬(35:Int)≤33;decide)) hbf ⟨fun e=>by dsimp only at e;omega,fun e=>by dsimp only at e;omega⟩,by rw [eo];exact d _ _,[],[],?_,.inl ⟨rfl,rfl,rfl⟩⟩
   rw [hh,List.append_nil]
   unfold yc
   rw [uD (by dsimp only;omega),List.append_nil]
   exact List.Perm.refl _
 ·intro c;unfold zfF;dsimp only
  split
  ·rename_i hb
   intro S'
   exact .calm X S' rfl rfl rfl (by omega) (by dsimp only;omega) rfl (fun _=>hb) hbf ⟨fun e=>by dsimp only at e;omega,fun e=>by dsimp only at e;omega⟩
  ·rename_i o l hb
   intro S'
   refine .quiet X S' rfl rfl rfl (by rw [vq (by dsimp only;omega),vq (x:=x) (by omega)]) ?_ (MX.plain (by dsimp only;omega) (fun e=>absurd e (by show ¬(36:Int)≤33;decide)) hbf ⟨fun e=>by dsimp only at e;omega,fun e=>by dsimp only at e;omega⟩)
   unfold yc
   rw [Vu (.inl rfl),uD (x:=x) (by omega),hb,List.append_nil]
   exact List.perm_append_comm
 ·intro c;unfold zfn;dsimp only
  have hv:=hH x.Obj x.Slot
  have eo:vi x=[]:=vq (by omega)
  split
  ·rcases zdj s (wc (x.Slot+1)) with e | e<;>rw [e]<;>intro S'
   ·refine .quiet X S' rfl rfl rfl (by rw [eo,vq (by dsimp only;omega)]) ?_ (MX.plain (by dsimp only;omega) (fun e=>absurd e (by show ¬(36:Int)≤33;decide)) hbf ⟨fun e=>by dsimp only at e;omega,fun e=>by dsimp only at e;omega⟩)
    unfold yc
    rw [Vu (.inl c),Vu (.inl rfl)]
   ·refine .quiet X S' rfl rfl rfl (by rw [eo,vq (by dsimp only;omega)]) ?_ (MX.plain (by dsimp only;omega) (fun e=>absurd e (by show ¬(38:Int)≤33;decide)) hbf ⟨fun e=>by dsimp only at e;omega,fun e=>by dsimp only at e;omega⟩)
    unfold yc
    rw [Vu (.inl c),Vu (.inr rfl)]
  ·rename_i hne
   intro S'
   obtain ⟨g1,g2,g3,g4,g5⟩:=znC (p:=p) (s:=s) (gh:=gh) (w:=m) (.inr rfl) (show 1≤zM s.H x.Obj x.Slot∧zM s.H x.Obj x.Slot≤64 by omega)
   refine .quiet X S' rfl rfl rfl ?_ ?_ ⟨fun e=>absurd e (by show ¬(37:Int)≤33;decide),hbf,⟨fun e=>by dsimp only at e;omega,fun e=>by dsimp only at e;omega⟩,fun e=>by dsimp only at e;omega,fun e=>by dsimp only at e;omega,fun e=>by dsimp only at e;omega,fun _=>⟨g1,g2,g3⟩⟩
   ·rw [eo,zdy (.inr rfl)];exact g4
   ·unfold yc
    rw [Vu (.inl c),zkD rfl]
    show List.Perm (x.Batch++x.Obj::yM (Yw 3 (zM s.H x.Obj x.Slot) m)) _
    rw [g5]
 ·intro c;unfold zaE;dsimp only
  obtain ⟨G,gm,g0⟩:=K.p37 c
  obtain ⟨M,h5o,hn1⟩:=W.g (.inr c)
  have eo:vi x=xK x.G:=zdy (.inr c)
  have hh:yc s x=x.Batch++x.Obj::yM x.G:=by unfold yc;rw [zkD c]
  rw [eo] at X
  obtain ⟨gh',X',G',Fx,hc',hFb,N,hN,hT⟩:=zsZ hp hk X M h5o G
  have so:=Vf s x.G
  have Fx':FX p nb (vi x) (fun _=>False) s (zp s x.G).1 gh gh':=by rw [eo];exact Fx.mono (fun v e=>by have:=e.1;omega)
  have hT':(N=[]∧([]:List Int)=[]∧(zp s x.G).1.T=s.T)∨(N=[x.G.Obj]∧([]:List Int)=[]∧(x.PC=3∨x.PC=37)∧¬(s.T.Marks|||bit x.G.Obj=s.T.Marks)∧(zp s x.G).1.T={s.T with Marks:=s.T.Marks|||bit x.G.Obj}):=by
   rcases hT with ⟨a,b⟩ | ⟨a,b,c'⟩
   ·exact .inl ⟨a,rfl,b⟩
   ·exact .inr ⟨a,rfl,.inr c,b,c'⟩
  have perm: ∀H':List Int,H'=x.Batch++x.Obj::yM (zp s x.G).2→List.Perm (yy p (zp s x.G).1 gh'++H'++[]) (N++(yy p s gh++yc s x)):=by
   intro H' e
   rw [e,hh,List.append_nil]
   have a1:List.Perm (yy p (zp s x.G).1 gh'++(x.Batch++x.Obj::yM (zp s x.G).2)) ((x.Batch++[x.Obj])++(yy p (zp s x.G).1 gh'++yM (zp s x.G).2)):=by
    rw [show x.Batch++x.Obj::yM (zp s x.G).2=(x.Batch++[x.Obj])++yM (zp s x.G).2 by simp]
    exact List.perm_append_comm_assoc _ _ _
   have a2:List.Perm (N++(yy p s gh++(x.Batch++x.Obj::yM x.G))) ((x.Batch++[x.Obj])++(N++(yy p s gh++yM x.G))):=by
    rw [show x.Batch++x.Obj::yM x.G=(x.Batch++[x.Obj])++yM x.G by simp]
    exact (List.Perm.append_left N (List.perm_append_comm_assoc _ _ _)).trans (List.perm_append_comm_assoc _ _ _)
   exact a1.trans ((List.Perm.append_left _ hN).trans a2.symm)
  split
  ·rename_i o1
   intro S'
   have n1:xK (zp s x.G).2=[]:=wN (.inl (by omega))
   have n2:yM (zp s x.G).2=[]:=u5 (.inl (by omega))
   rw [n1] at X'
   rcases zdj s x.Slot with e | e<;>rw [e]
   ·refine ⟨gh',by rw [vq (by dsimp only;omega)];exact X',MX.plain (by dsimp only;omega) (fun e=>absurd e (by show ¬(36:Int)≤33;decide)) hbf ⟨fun e=>by dsimp only at e;omega,fun e=>by dsimp only at e;omega⟩,Fx',N,[],perm _ ?_,hT'.elim .inl (fun h=> .inr (.inl h))⟩
    unfold yc;rw [Vu (.inl rfl),n2]
   ·refine ⟨gh',by rw [vq (by dsimp only;omega)];exact X',MX.plain (by dsimp only;omega) (fun e=>absurd e (by show ¬(38:Int)≤33;decide)) hbf ⟨fun e=>by dsimp only at e;omega,fun e=>by dsimp only at e;omega⟩,Fx',N,[],perm _ ?_,hT'.elim .inl (fun h=> .inr (.inl h))⟩
    unfold yc;rw [Vu (.inr rfl),n2]
  ·rename_i o1
   intro S'
   have o0:(zp s x.G).2.Out=0:=by have:=G'.o;omega
   refine ⟨gh',by rw [zdy (x:={x with G:=(zp s x.G).2}) (.inr c)];exact X',⟨fun e=>by have e:x.PC≤33:=e;omega,hbf,hol,fun e=>by have e:x.PC=3:=e;omega,fun e=>by have e:x.PC=32:=e;omega,fun e=>by have e:x.PC=34:=e;omega,fun _=>⟨G',so.2.2.trans gm,o0⟩⟩,Fx',N,[],perm _ ?_,hT'.elim .inl (fun h=> .inr (.inl h))⟩
   unfold yc;rw [zkD (x:={x with G:=(zp s x.G).2}) c]
 ·intro c S';unfold zhF at S' ⊢
  have eo:vi x=[]:=vq (by omega)
  refine ⟨gh,by rw [vq (by dsimp only;omega)];rw [eo] at X;exact X.quiet S' rfl,MX.plain (by dsimp only;omega) (fun e=>absurd e (by show ¬(39:Int)≤33;decide)) hbf ⟨fun e=>by dsimp only at e;omega,fun e=>by dsimp only at e;omega⟩,FX.quiet rfl (fun _ _ _=>rfl),[],[x.Obj],?_,.inr (.inr (.inl ⟨rfl,rfl,c,rfl⟩))⟩
  rw [ZB rfl,List.nil_append]
  unfold yc
  rw [Vu (.inr c),uD (by dsimp only;omega),List.append_nil,List.append_assoc]
  exact List.Perm.refl _
 ·intro c S';unfold zhd at S' ⊢
  exact .calm X S' rfl rfl rfl (by omega) (by dsimp only;omega) rfl (fun e=>absurd e (by show ¬(35:Int)≤33;decide)) hbf ⟨fun e=>by dsimp only at e;omega,fun e=>by dsimp only at e;omega⟩
 ·intro S'
  exact ⟨gh,X.quiet S' rfl,K,FX.quiet rfl (fun _ _ _=>rfl),[],[],by rw [List.append_nil];exact List.Perm.refl _,.inl ⟨rfl,rfl,rfl⟩⟩
end
end Go.Pe.G
namespace Go.Pe.G
open Go.Pe
noncomputable section
theorem zoA {o:Int} (h:1≤o∧o≤64) (j:Nat):(bit o).getLsbD j=decide ((o-1).toNat=j):=by
 unfold bit
 rw [if_pos h,←BitVec.twoPow_eq,BitVec.getLsbD_twoPow,decide_eq_true (by omega:(o-1).toNat<64),Bool.true_and]
theorem v8 (s:BitVec 64) (o:Int):zP s o=true↔1≤o∧o≤64∧s.getLsbD (o-1).toNat=true:=by
 unfold zP
 rw [Bool.not_eq_true',decide_eq_false_iff_not]
 by_cases h:1≤o∧o≤64
 ·constructor
  ·intro h1
   refine ⟨h.1,h.2,Classical.byContradiction (fun h2=>h1 ?_)⟩
   apply BitVec.eq_of_getLsbD_eq
   intro j hj
   rw [BitVec.getLsbD_and,zoA h,BitVec.getLsbD_zero]
   by_cases e:(o-1).toNat=j
   ·rw [←e];simp only [Bool.not_eq_true] at h2;rw [h2];rfl
   ·rw [decide_eq_false e,Bool.and_false]
  ·rintro ⟨_,_,h1⟩ h2
   have:=congrArg (fun v=>BitVec.getLsbD v (o-1).toNat) h2
   simp only [BitVec.getLsbD_and,zoA h,h1,BitVec.getLsbD_zero] at this
   simp at this
 ·constructor
  ·intro h1
   exact absurd (by unfold bit;rw [if_neg h,BitVec.and_zero]) h1
  ·rintro ⟨a,b,_⟩;exact absurd ⟨a,b⟩ h
theorem wu (s:BitVec 64) {o:Int} (h:1≤o∧o≤64) (q:Int):zP (s|||bit o) q=true↔zP s q=true∨q=o:=by
 rw [v8,v8,BitVec.getLsbD_or,zoA h]
 simp only [Bool.or_eq_true,decide_eq_true_eq]
 constructor
 ·rintro ⟨a,b,c | c⟩
  ·exact .inl ⟨a,b,c⟩
  ·exact .inr (by omega)
 ·rintro (⟨a,b,c⟩ | rfl)
  ·exact ⟨a,b,.inl c⟩
  ·exact ⟨h.1,h.2,.inr rfl⟩
theorem zcD (s t:BitVec 64) (q:Int):zP (s&&&t) q=true↔zP s q=true∧zP t q=true:=by
 rw [v8,v8,v8,BitVec.getLsbD_and]
 simp only [Bool.and_eq_true]
 constructor
 ·rintro ⟨a,b,c,d⟩;exact ⟨⟨a,b,c⟩,a,b,d⟩
 ·rintro ⟨⟨a,b,c⟩,_,_,d⟩;exact ⟨a,b,c,d⟩
theorem zdn (q:Int): ¬zP 0#64 q=true:=by
 rw [v8,BitVec.getLsbD_zero];exact fun h=>by cases h.2.2
theorem zw7 {s t:BitVec 64} (h: ∀o,zP s o=true↔zP t o=true):s=t:=by
 apply BitVec.eq_of_getLsbD_eq
 intro j hj
 have:=h ((j:Int)+1)
 rw [v8,v8,show ((j:Int)+1-1).toNat=j by omega] at this
 rw [Bool.eq_iff_iff]
 exact ⟨fun e=>(this.1 ⟨by omega,by omega,e⟩).2.2,fun e=>(this.2 ⟨by omega,by omega,e⟩).2.2⟩
theorem UF {m:BitVec 64} {o:Int} (h:1≤o∧o≤64): ¬(m|||bit o=m)↔¬zP m o=true:=by
 constructor
 ·intro h1 h2
  refine h1 (zw7 (fun q=> ?_))
  rw [wu _ h]
  exact ⟨fun e=>e.elim id (fun e=>by rw [e];exact h2),.inl⟩
 ·intro h1 h2
  refine h1 ?_
  rw [←h2,wu _ h];exact .inr rfl
theorem uP (t:zn) (o:Int):xk t o=1↔zP t.Marks o=true∧¬zP t.Black o=true:=by
 unfold xk
 by_cases h1:zP (t.Marks&&&t.Black) o=true
 ·rw [if_pos h1]
  rw [zcD] at h1
  exact ⟨fun e=>(by cases e),fun e=>absurd h1.2 e.2⟩
 ·rw [if_neg h1]
  rw [zcD] at h1
  by_cases h2:zP t.Marks o=true
  ·rw [if_pos h2];exact ⟨fun _=>⟨h2,fun e=>h1 ⟨h2,e⟩⟩,fun _=>rfl⟩
  ·rw [if_neg h2];exact ⟨fun e=>(by cases e),fun e=>absurd e.1 h2⟩
end
end Go.Pe.G
namespace Go.Pe.G
open Go.Pe
noncomputable section
theorem zl7 {α:Type} {l:List α} {i:Nat} {x:α} (h:l[i]? =some x): ∃a b,l=a++x::b∧(∀y,l.set i y=a++y::b)∧(∀z∈a++b,∃j,j≠i∧l[j]? =some z) ∧
  (∀j z,j≠i→l[j]? =some z→z∈a++b):=by
 obtain ⟨hi,e⟩:=List.getElem?_eq_some_iff.1 h
 have hl:(l.take i).length=i:=by rw [List.length_take];omega
 have el:l=l.take i++x::l.drop (i+1):=by
  conv=>lhs;rw [←List.take_append_drop i l,List.drop_eq_getElem_cons hi,e]
 refine ⟨l.take i,l.drop (i+1),el,fun y=> ?_,fun z hz=> ?_,fun j z hj hz=> ?_⟩
 ·rw [List.set_eq_take_append_cons_drop,if_pos hi]
 ·rcases List.mem_append.1 hz with hz | hz
  ·obtain ⟨j,hj⟩:=List.mem_iff_getElem?.1 hz
   obtain ⟨hj1,hj2⟩:=List.getElem?_eq_some_iff.1 hj
   have hj3:j<i:=by omega
   exact ⟨j,by omega,by rw [List.getElem?_take_of_lt hj3] at hj;exact hj⟩
  ·obtain ⟨j,hj⟩:=List.mem_iff_getElem?.1 hz
   exact ⟨i+1+j,by omega,by rw [List.getElem?_drop] at hj;exact hj⟩
 ·rw [el] at hz
  rcases Nat.lt_or_ge j i with h1 | h1
  ·rw [List.getElem?_append_left (by omega)] at hz
   exact List.mem_append_left _ (List.mem_of_getElem? hz)
  ·rw [List.getElem?_append_right (by omega),hl] at hz
   rw [show j-i=(j-i-1)+1 by omega,List.getElem?_cons_succ] at hz
   exact List.mem_append_right _ (List.mem_of_getElem? hz)
theorem uL {α β:Type} {f:α→List β} {a b:List α} {x:α}:List.Perm ((a++x::b).flatMap f) (f x++(a++b).flatMap f):=by
 rw [List.flatMap_append,List.flatMap_cons,List.flatMap_append]
 exact List.perm_append_comm_assoc _ _ _
theorem SX.perm {p:zb} {nb k:Nat} {s:za} {g:Gh} {o o':List Int} (X:SX p nb s g o k) (h:List.Perm o' o):SX p nb s g o' k :=
 ⟨X.S,⟨X.L.hs,X.L.cF,X.L.cE,(List.Perm.append_left _ h).trans X.L.all,X.L.len⟩,X.D,X.v,X.dk⟩
theorem SX.state {p:zb} {nb k:Nat} {s s':za} {g:Gh} {o:List Int} (X:SX p nb s g o k) (S':SOk p nb s') (hm:s'.M=s.M):SX p nb s' g o k :=
 ⟨S',by rw [hm];exact X.L,by rw [hm];exact X.D,by rw [hm];exact X.v,X.dk⟩
theorem GX.state {p:zb} {s s':za} {gh:Gh} {g:zA} (G:GX p s gh g) (hm:s'.M=s.M) (hb:s'.Bins=s.Bins):GX p s' gh g :=
 ⟨G.o,G.pc,G.md,G.ob,G.c0,by rw [hm];exact G.c5,by rw [hm,hb];exact G.c7,by rw [hm];exact G.d3⟩
theorem WX.state {p:zb} {s s':za} {gh:Gh} {w:Int} {x:ze} (W:WX p s gh w x) (hm:s'.M=s.M) (hb:s'.Bins=s.Bins):WX p s' gh w x :=
 ⟨W.c0,W.bt,by rw [hm];exact W.p0,by rw [hm];exact W.p1,by rw [hm];exact W.p2,by rw [hm];exact W.p4,fun e=>⟨(W.p6 e).1.state hm hb,(W.p6 e).2⟩⟩
theorem zhE {s s':za} {x:ze} (hm:s'.M=s.M) (hb:s'.Bins=s.Bins):zN s' x=zN s x:=by
 unfold zN VU xe;rw [hm,hb]
def zjY (p:zb) (s:za) (g:Gh):List Int:=yy p s g++s.Ws.flatMap (zN s)
structure Ud (B:List Int) (t:zn):Prop where
 blk: ∀o,zP t.Black o=true→zP t.Marks o=true
 nd:B.Nodup
 gr: ∀o,o∈B↔xk t o=1
theorem UA {t:zn} {o:Int} (h:xk t o=1):1≤o∧o≤64:=by
 have:=(v8 _ _).1 ((uP t o).1 h).1
 exact ⟨this.1,this.2.1⟩
theorem Ud.more {B B':List Int} {t:zn} {o:Int} (K:Ud B t) (ho:1≤o∧o≤64) (hn: ¬(t.Marks|||bit o=t.Marks)) (h:List.Perm B' (o::B)):Ud B' {t with Marks:=t.Marks|||bit o}:=by
 have hn:=(UF ho).1 hn
 have hnb: ¬zP t.Black o=true:=fun e=>hn (K.blk o e)
 have hno:o∉B:=fun e=>hn ((uP t o).1 ((K.gr o).1 e)).1
 refine ⟨fun q hq=>(wu _ ho q).2 (.inl (K.blk q hq)),h.nodup_iff.2 (List.nodup_cons.2 ⟨hno,K.nd⟩),fun q=> ?_⟩
 rw [h.mem_iff,List.mem_cons,K.gr,uP,uP]
 show q=o∨_↔zP (t.Marks|||bit o) q=true∧¬zP t.Black q=true
 rw [wu _ ho]
 constructor
 ·rintro (rfl | ⟨a,b⟩)
  ·exact ⟨.inr rfl,hnb⟩
  ·exact ⟨.inl a,b⟩
 ·rintro ⟨a | a,b⟩
  ·exact .inr ⟨a,b⟩
  ·exact .inl a
theorem Ud.less {B B':List Int} {t:zn} {o:Int} (K:Ud B t) (h:List.Perm (B'++[o]) B):Ud B' (wR t o)∧(wR t o).Marks=t.Marks∧xk t o=1∧∀q,zP (wR t o).Black q=true↔zP t.Black q=true∨q=o:=by
 have ho:xk t o=1:=(K.gr o).1 (h.mem_iff.1 (by simp))
 have hr:=UA ho
 have hm:=((uP t o).1 ho)
 have hnd:=h.nodup_iff.2 K.nd
 have hnd:=List.nodup_append.1 hnd
 unfold wR
 rw [if_pos ho]
 refine ⟨⟨fun q hq=> ?_,hnd.1,fun q=> ?_⟩,rfl,ho,fun q=>wu _ hr q⟩
 ·rcases (wu _ hr q).1 hq with e | e
  ·exact K.blk q e
  ·rw [e];exact hm.1
 ·have e1:q∈B↔q∈B'∨q=o:=by rw [←h.mem_iff,List.mem_append,List.mem_singleton]
  rw [K.gr,uP] at e1
  rw [uP]
  show _↔zP t.Marks q=true∧¬zP (t.Black|||bit o) q=true
  rw [wu _ hr]
  constructor
  ·intro hq
   have:=e1.2 (.inl hq)
   exact ⟨this.1,fun e=>e.elim this.2 (fun e=>hnd.2.2 q hq o (by simp) e)⟩
  ·rintro ⟨a,b⟩
   rcases e1.1 ⟨a,fun e=>b (.inl e)⟩ with e | e
   ·exact e
   ·exact absurd (.inr e) b
theorem HOk.get {p:zb} (hp:zC p) {h:zG} (H:HOk p h) (o i:Int):0≤zM h o i∧zM h o i≤64:=by
 have h1:=H.n
 have h2:p.Most≤64:=by have:=hp.most;have:=hp.n;omega
 unfold zM
 split
 ·unfold yw
  rw [List.getD_eq_getElem?_getD,List.getD_eq_getElem?_getD]
  cases hx:h.Objs[(o-1).toNat]? with
  | none=>show 0≤(([]:List Int)[i.toNat]?).getD 0∧_;simp
  | some l =>
   show 0≤(l[i.toNat]?).getD 0∧(l[i.toNat]?).getD 0≤64
   cases hv:l[i.toNat]? with
   | none=>show (0:Int)≤0∧(0:Int)≤64;decide
   | some v =>
    have:=(H.objs l (List.mem_of_getElem? hx)).2 v (List.mem_of_getElem? hv)
    show 0≤v∧v≤64;omega
 ·exact ⟨by decide,by decide⟩
structure WG (p:zb) (nb k:Nat) (s:za) (gh:Gh):Prop where
 E:EOk p nb s
 X:SX p nb s gh (s.Ws.flatMap xJ) k
 W: ∀(i:Nat) x,s.Ws[i]? =some x→WX p s gh ((i:Int)+1) x
 B:Ud (zjY p s gh) s.T
def zwu (s s':za) (w:Int):Prop :=
 s'.T=s.T∨(∃x o,s.Ws[(w-1).toNat]? =some x∧x.PC=6∧o=x.G.Obj∧(1≤o∧o≤64)∧¬zP s.T.Marks o=true∧s'.T={s.T with Marks:=s.T.Marks|||bit o}) ∨
  (∃x,s.Ws[(w-1).toNat]? =some x∧x.PC=8∧xk s.T x.Obj=1∧s'.T={s.T with Black:=s.T.Black|||bit x.Obj})
theorem WG.step {p:zb} (hp:zC p) {nb k:Nat} {s:za} {gh:Gh} (hk:k<4294960000) (G:WG p nb k s gh) {w:Int} (hw:1≤w∧w≤p.Workers) (hd:s.Done=false): ∃gh',WG p nb (k+1) (zE s w) gh'∧zwu s (zE s w) w:=by
 have hE:=zi2 hp G.E w
 have hwl:=G.E.wl
 have e0: ¬(s.Done=true∨w<1∨(s.Ws.length:Int)<w):=by rw [hd];rintro (e | e | e)<;>first | cases e | omega
 revert hE
 unfold zE
 rw [if_neg e0]
 have hi:(w-1).toNat<s.Ws.length:=by omega
 have hx:=List.getElem?_eq_getElem hi
 generalize s.Ws[(w-1).toNat]=x at hx
 rw [hx]
 dsimp only
 intro hE
 obtain ⟨a,b,el,es,hab,hba⟩:=zl7 hx
 have ei:(((w-1).toNat:Nat):Int)+1=w:=by omega
 have hWX:=G.W _ x hx
 have hWO:=G.E.W _ x hx
 rw [ei] at hWX hWO
 have X0:SX p nb s gh (xJ x++(a++b).flatMap xJ) k:=G.X.perm (by rw [el];exact uL.symm)
 obtain ⟨gh',X',W',Fx,N,C,hN,hT⟩:=zwq hp hk hw X0 hWO hWX (fun o i=>G.E.H.get hp o i)
 have hoth: ∀(j:Nat) y,j≠(w-1).toNat→s.Ws[j]? =some y→WX p (zh s w x).1 gh' ((j:Int)+1) y∧zN (zh s w x).1 y=zN s y:=by
  intro j y hj hy
  have hjl:=(List.getElem?_eq_some_iff.1 hy).1
  exact WX.other hp (w:=(j:Int)+1) (by omega) X0 Fx (G.W j y hy) (G.E.W j y hy) (fun z hz=>List.mem_flatMap.2 ⟨y,hba j y hj hy,hz⟩) (fun e=>hj (by omega))
 have hbag:List.Perm (zjY p {(zh s w x).1 with Ws:=s.Ws.set (w-1).toNat (zh s w x).2} gh'++C) (N++zjY p s gh):=by
  unfold zjY
  have q1:yy p {(zh s w x).1 with Ws:=s.Ws.set (w-1).toNat (zh s w x).2} gh'=yy p (zh s w x).1 gh':=rfl
  have q2:(s.Ws.set (w-1).toNat (zh s w x).2).flatMap (zN {(zh s w x).1 with Ws:=s.Ws.set (w-1).toNat (zh s w x).2})=(a++(zh s w x).2::b).flatMap (zN (zh s w x).1):=by
   rw [es];exact vb (fun y _=>zhE rfl rfl)
  have q3:(a++b).flatMap (zN (zh s w x).1)=(a++b).flatMap (zN s):=vb (fun y hy=>by
   obtain ⟨j,hj,hjy⟩:=hab y hy
   exact (hoth j y hj hjy).2)
  rw [q1]
  show List.Perm (yy p (zh s w x).1 gh'++(s.Ws.set (w-1).toNat (zh s w x).2).flatMap (zN {(zh s w x).1 with Ws:=s.Ws.set (w-1).toNat (zh s w x).2})++C) _
  rw [q2]
  have r1:List.Perm (yy p (zh s w x).1 gh'++(a++(zh s w x).2::b).flatMap (zN (zh s w x).1)++C) ((a++b).flatMap (zN s)++(yy p (zh s w x).1 gh'++zN (zh s w x).1 (zh s w x).2++C)):=by
   refine ((List.Perm.append_left _ uL).append_right C).trans ?_
   rw [q3,List.append_assoc,List.append_assoc,List.append_assoc]
   refine (List.perm_append_comm_assoc _ _ _).trans ?_
   refine (List.Perm.append_left _ (List.perm_append_comm_assoc _ _ _)).trans ?_
   refine (List.perm_append_comm_assoc _ _ _).trans (List.Perm.append_left _ ?_)
   exact List.perm_append_comm_assoc _ _ _
  have r2:List.Perm (N++(yy p s gh++s.Ws.flatMap (zN s))) ((a++b).flatMap (zN s)++(N++(yy p s gh++zN s x))):=by
   conv=>lhs;rw [el]
   refine (List.Perm.append_left _ (List.Perm.append_left _ uL)).trans ?_
   refine (List.Perm.append_left _ ?_).trans (List.perm_append_comm_assoc _ _ _)
   rw [←List.append_assoc]
   exact List.perm_append_comm
  exact r1.trans ((List.Perm.append_left _ hN).trans r2.symm)
 have fin:Ud (zjY p {(zh s w x).1 with Ws:=s.Ws.set (w-1).toNat (zh s w x).2} gh') (zh s w x).1.T→WG p nb (k+1) {(zh s w x).1 with Ws:=s.Ws.set (w-1).toNat (zh s w x).2} gh':=by
  intro hB
  refine ⟨hE,?_,fun j y hy=> ?_,hB⟩
  ·refine (X'.state hE.S rfl).perm ?_
   show List.Perm ((s.Ws.set (w-1).toNat (zh s w x).2).flatMap xJ) _
   rw [es];exact uL
  ·have hy:(s.Ws.set (w-1).toNat (zh s w x).2)[j]? =some y:=hy
   by_cases hj:j=(w-1).toNat
   ·subst hj
    rw [List.getElem?_set_self hi] at hy
    injection hy with hy
    rw [←hy,ei]
    exact W'.state rfl rfl
   ·rw [List.getElem?_set_ne (fun e=>hj e.symm)] at hy
    exact (hoth j y hj hy).1.state rfl rfl
 refine ⟨gh',?_⟩
 rcases hT with ⟨rfl,rfl,t1⟩ | ⟨rfl,rfl,t1,t2,t3⟩ | ⟨rfl,rfl,t1,t2⟩
 ·rw [List.append_nil,List.nil_append] at hbag
  refine ⟨fin ⟨?_,hbag.nodup_iff.2 G.B.nd,fun o=> ?_⟩,.inl t1⟩
  ·rw [t1];exact G.B.blk
  ·rw [t1,hbag.mem_iff];exact G.B.gr o
 ·have ho:=((hWX.p6 t1).1).ob
  rw [List.append_nil] at hbag
  refine ⟨fin ?_,.inr (.inl ⟨x,x.G.Obj,hx,t1,rfl,ho,(UF ho).1 t2,t3⟩)⟩
  rw [t3]
  exact G.B.more ho t2 hbag
 ·rw [List.nil_append] at hbag
  obtain ⟨b1,b2,b3,b4⟩:=G.B.less hbag
  refine ⟨fin ?_,.inr (.inr ⟨x,hx,t1,b3,?_⟩)⟩
  ·rw [t2];exact b1
  ·show (zh s w x).1.T=_
   rw [t2];unfold wR;rw [if_pos b3]
end
end Go.Pe.G
namespace Go.Pe.G
open Go.Pe
noncomputable section
theorem ziX {N:Int} {nb:Nat} (hN:0≤N∧N<1000) (hnb:nb<1000): ∀(l:List Int) (m:List (BitVec 64)) (a:Int),(∀x∈l,1≤x∧x<nb)→(∀x∈l,a≠N+x)→ld (links m N l) a=ld m a
 | [],m,a,_,_=>rfl
 | [x],m,a,h,h2=>by
  have:=h x (by simp)
  have:=h2 x (by simp)
  rw [links,xm (by omega) (by omega)]
  exact yg (by omega)
 | x::y::l,m,a,h,h2=>by
  have:=h x (by simp)
  have:=h2 x (by simp)
  rw [links,ziX hN hnb (y::l) _ a (fun z hz=>h z (List.mem_cons_of_mem _ hz)) (fun z hz=>h2 z (List.mem_cons_of_mem _ hz)),xm (by omega) (by omega)]
  exact yg (by omega)
theorem zj3 {N:Int} {nb:Nat} (hN:0≤N∧N<1000) (hnb:nb<1000): ∀(l:List Int) (m:List (BitVec 64)),(∀x∈l,1≤x∧x<nb)→l.Nodup→N+nb≤m.length→Chn (links m N l) N nb (l.headD 0) l
 | [],m,_,_,_=>rfl
 | [x],m,h,_,hl=>by
  have:=h x (by simp)
  refine ⟨rfl,this.1,this.2,?_⟩
  rw [links,xm (by omega) (by omega),YI,if_pos ⟨rfl,by omega,by omega⟩]
  rfl
 | x::y::l,m,h,hd,hl=>by
  have hx:=h x (by simp)
  have hy:=h y (by simp)
  have hd:=List.nodup_cons.1 hd
  refine ⟨rfl,hx.1,hx.2,?_⟩
  have ih:=zj3 hN hnb (y::l) (st m (wc (N+x)) (BitVec.ofInt 64 y)) (fun z hz=>h z (List.mem_cons_of_mem _ hz)) hd.2 (by rw [Zu];exact hl)
  rw [links,ziX hN hnb (y::l) _ (N+x) (fun z hz=>h z (List.mem_cons_of_mem _ hz)) (fun z hz e=>hd.1 (by rw [zhU e] at hz;exact hz)),xm (by omega) (by omega),YI,if_pos ⟨rfl,by omega,by omega⟩,toInt_ofInt (by omega) (by omega)]
  rw [xm (by omega) (by omega)] at ih
  exact ih
theorem Chn.links {N:Int} {nb:Nat} (hN:0≤N∧N<1000) (hnb:nb<1000) {l r:List Int} {h:Int} {m:List (BitVec 64)} (hr: ∀x∈r,1≤x∧x<nb) (hd: ∀x∈l,x∉r) (c:Chn m N nb h l):Chn (Go.Pe.G.links m N r) N nb h l:=by
 induction l generalizing h with
 | nil=>exact c
 | cons y l ih =>
  refine ⟨c.1,c.2.1,c.2.2.1,?_⟩
  rw [ziX hN hnb r m (N+y) hr (fun z hz e=>hd y (by simp) (by rw [zhU e] at hz;exact hz))]
  exact ih (fun x hx=>hd x (List.mem_cons_of_mem _ hx)) c.2.2.2
theorem zrC {l:List Int} {nb:Nat} (h: ∀x∈l,1≤x∧x<nb) (hnb:nb<1000):0≤l.headD 0∧l.headD 0<4294967296:=by
 cases l with
 | nil=>exact ⟨by decide,by decide⟩
 | cons a r=>have:=h a (by simp);show 0≤a∧a<4294967296;omega
theorem zt9 {p:zb} (h:zC p):LI p (zQ p+1) (wi p).M (zU p) (zD p) ((xq (zQ p)).take (yY p).length) ((xq (zQ p)).drop (yY p).length) []∧xh (ld (wi p).M (zU p))=0∧xh (ld (wi p).M (zD p))=0:=by
 have hb:=Ul h
 have hF:=vT h
 have hE:=xx h
 have hcl:=Vm p p.Workers.toNat
 have hw:=h.wk
 have hc:=h.cap
 have hfe:zU p=((p.Workers.toNat*(p.Cap.toNat+2):Nat):Int):=by
  rw [hF.1]
  have e1:p.Workers=((p.Workers.toNat:Nat):Int):=by omega
  have e2:p.Cap+2=((p.Cap.toNat+2:Nat):Int):=by omega
  rw [e2,Int.natCast_mul]
  rw [←e1]
 have hN:0≤zD p∧zD p<1000:=by omega
 have hnb:zQ p+1<1000:=by omega
 generalize hk:(yY p).length=k
 have t1: ∀x∈(xq (zQ p)).take k,1≤x∧x<((zQ p+1:Nat):Int):=fun x hx=>by have:=zcz (List.mem_of_mem_take hx);omega
 have t2: ∀x∈(xq (zQ p)).drop k,1≤x∧x<((zQ p+1:Nat):Int):=fun x hx=>by have:=zcz (List.mem_of_mem_drop hx);omega
 have nd:((xq (zQ p)).take k++(xq (zQ p)).drop k).Nodup:=by rw [List.take_append_drop];exact zlt (zQ p+1)
 have nd3:=List.nodup_append.1 nd
 have eM:(wi p).M=zaC (zaC (Z2 p p.Workers.toNat++List.replicate (2+zQ p) 0#64) (zU p) (zD p) ((xq (zQ p)).take k)) (zD p) (zD p) ((xq (zQ p)).drop k):=by rw [←hk];rfl
 rw [eM]
 generalize hm0:Z2 p p.Workers.toNat++List.replicate (2+zQ p) 0#64=m0
 have l0:zD p+((zQ p+1:Nat):Int)≤m0.length:=by
  rw [←hm0,List.length_append,hcl,List.length_replicate];omega
 have p1:=zrC t1 hnb
 have p2:=zrC t2 hnb
 have v0: ∀n:Int,0≤n→n<4294967296→xh (yX 0#64 n)=0:=fun n h1 h2=>by
  unfold xh;rw [zmG _ h1 h2];show (0*4294967296+n.toNat)/4294967296=0;omega
 have c1:=zj3 hN hnb _ m0 t1 nd3.1 l0
 generalize hm1:links m0 (zD p) ((xq (zQ p)).take k)=m1 at c1
 have l1:m1.length=m0.length:=by rw [←hm1,zaY]
 have c1':=(c1.st_head h (a:=zU p) (v:=yX 0#64 (((xq (zQ p)).take k).headD 0)) (.inl rfl)).links hN hnb t2 (fun x hx hx2=>nd3.2.2 x hx x hx2 rfl)
 have c2:=zj3 hN hnb _ (st m1 (zU p) (yX 0#64 (((xq (zQ p)).take k).headD 0))) t2 nd3.2.1 (by rw [Zu,l1];exact l0)
 have hd1:ld (links (st m1 (zU p) (yX 0#64 (((xq (zQ p)).take k).headD 0))) (zD p) ((xq (zQ p)).drop k)) (zU p)=yX 0#64 (((xq (zQ p)).take k).headD 0):=by
  rw [ziX hN hnb _ _ _ t2 (fun x hx=>by have:=t2 x hx;omega),YI,if_pos ⟨rfl,by omega,by omega⟩]
 unfold zaC
 rw [hm1]
 generalize hm2:links (st m1 (zU p) (yX 0#64 (((xq (zQ p)).take k).headD 0))) (zD p) ((xq (zQ p)).drop k)=m2 at c1' c2 hd1
 have l2:m2.length=m0.length:=by rw [←hm2,zaY,Zu,l1]
 have g1:ld (st m2 (zD p) (yX 0#64 (((xq (zQ p)).drop k).headD 0))) (zU p)=yX 0#64 (((xq (zQ p)).take k).headD 0):=by rw [yg (by omega),hd1]
 have g2:ld (st m2 (zD p) (yX 0#64 (((xq (zQ p)).drop k).headD 0))) (zD p)=yX 0#64 (((xq (zQ p)).drop k).headD 0):=by rw [YI,if_pos ⟨rfl,by omega,by omega⟩]
 refine ⟨⟨.inl ⟨rfl,rfl⟩,?_,?_,?_,by rw [Zu,l2];exact l0⟩,?_,?_⟩
 ·rw [g1,za8 _ p1.1 p1.2]
  exact c1'.st_head h (.inr rfl)
 ·rw [g2,za8 _ p2.1 p2.2]
  exact c2.st_head h (.inr rfl)
 ·rw [List.append_nil,List.take_append_drop]
  exact List.Perm.refl _
 ·rw [g1];exact v0 _ p1.1 p1.2
 ·rw [g2];exact v0 _ p2.1 p2.2
end
end Go.Pe.G
namespace Go.Pe.G
open Go.Pe
noncomputable section
theorem zke {N:Int} (hN:0≤N∧N<1000): ∀(l:List Int) (m:List (BitVec 64)) (a:Int),(∀x∈l,1≤x∧x<1000)→a≤N→ld (links m N l) a=ld m a
 | [],m,a,_,_=>rfl
 | [x],m,a,h,h2=>by
  have:=h x (by simp)
  rw [links,xm (by omega) (by omega)]
  exact yg (by omega)
 | x::y::l,m,a,h,h2=>by
  have:=h x (by simp)
  rw [links,zke hN (y::l) _ a (fun z hz=>h z (List.mem_cons_of_mem _ hz)) h2,xm (by omega) (by omega)]
  exact yg (by omega)
theorem zwx {p:zb} (h:zC p) {a:Int} (ha:a<zU p):ld (wi p).M a=ld (Z2 p p.Workers.toNat++List.replicate (2+zQ p) 0#64) a:=by
 have hb:=Ul h
 have hF:=vT h
 have hE:=xx h
 have t1: ∀x∈(xq (zQ p)).take (yY p).length,1≤x∧x<1000:=fun x hx=>by have:=zcz (List.mem_of_mem_take hx);omega
 have t2: ∀x∈(xq (zQ p)).drop (yY p).length,1≤x∧x<1000:=fun x hx=>by have:=zcz (List.mem_of_mem_drop hx);omega
 show ld (zaC (zaC _ (zU p) (zD p) _) (zD p) (zD p) _) a=_
 unfold zaC
 rw [yg (by omega),zke (by omega) _ _ _ t2 (by omega),yg (by omega),zke (by omega) _ _ _ t1 (by omega)]
theorem zpk (p:zb): ∀(k i j:Nat),i<k→j<p.Cap.toNat+2→(Z2 p k)[i*(p.Cap.toNat+2)+j]? =(zda p.Cap)[j]?
 | 0,i,j,h,_=>by omega
 | k+1,i,j,h,hj=>by
  rw [zgV]
  have hl:=Vm p k
  rcases Nat.lt_or_ge i k with h1 | h1
  ·have h2:=Nat.mul_le_mul_right (p.Cap.toNat+2) (show i+1≤k from h1)
   rw [Nat.succ_mul] at h2
   rw [List.getElem?_append_left (by omega)]
   exact zpk p k i j h1 hj
  ·have:i=k:=by omega
   subst this
   rw [List.getElem?_append_right (by omega),hl,show i*(p.Cap.toNat+2)+j-i*(p.Cap.toNat+2)=j by omega]
theorem zrB {p:zb} (h:zC p) {w:Int} (hw:1≤w∧w≤p.Workers) {j:Nat} (hj:j<2):ld (wi p).M (zF p w+j)=1#64:=by
 have hd:=uV h hw.1 hw.2
 have hc:=h.cap
 have hl:=Vm p p.Workers.toNat
 have hlt:(w-1).toNat<p.Workers.toNat:=by omega
 have e1:(zF p w+j).toNat=(w-1).toNat*(p.Cap.toNat+2)+j:=by
  obtain ⟨n,hn⟩: ∃n:Nat,w-1=(n:Int):=⟨(w-1).toNat,by omega⟩
  have e2:p.Cap+2=((p.Cap.toNat+2:Nat):Int):=by omega
  rw [hd.1,hn,e2,←Int.natCast_mul,Int.toNat_natCast]
  omega
 have h2:=Nat.mul_le_mul_right (p.Cap.toNat+2) (show (w-1).toNat+1≤p.Workers.toNat from hlt)
 rw [Nat.succ_mul] at h2
 rw [zwx h (by omega)]
 unfold ld
 rw [if_pos (by omega),e1,List.getD_eq_getElem?_getD,List.getElem?_append_left (by omega),zpk p _ _ _ hlt (by omega)]
 unfold zda
 match j,hj with
 | 0,_=>rfl
 | 1,_=>rfl
theorem zlm (n:Nat) (hn:1≤n): ∀(f:Nat) (l:List Int),l.length≤f→(vj n f l).flatten=l
 | 0,l,h=>by
  have:l=[]:=List.length_eq_zero_iff.1 (by omega)
  subst this;simp [vj]
 | f+1,[],_=>by simp [vj]
 | f+1,x::l,h=>by
  have:=zlm n hn f ((x::l).drop n) (by rw [List.length_drop];simp at h ⊢;omega)
  simp only [vj,List.flatten_cons] at this ⊢
  rw [this,List.take_append_drop]
theorem zul {α:Type} (l:List (List α)):(List.range l.length).flatMap (fun i:Nat=>(l[i]?).getD [])=l.flatten:=by
 rw [List.flatMap_def]
 congr 1
 apply List.ext_getElem
 ·simp
 ·intro i h1 h2
  simp [List.getElem?_eq_getElem h2]
def gh0 (p:zb):Gh:=⟨(xq (zQ p)).take (yY p).length,(xq (zQ p)).drop (yY p).length,fun _=>[],fun _=>1,fun _=>0⟩
theorem zct {α β:Type} {f:α→List β}: ∀ {l:List α},(∀x∈l,f x=[])→l.flatMap f=[]
 | [],_=>rfl
 | a::l,h=>by rw [List.flatMap_cons,h a (by simp),zct (fun x hx=>h x (List.mem_cons_of_mem _ hx))];rfl
theorem zw2 {p:zb} (h:zC p):yy p (wi p) (gh0 p)=W7 (Yh p):=by
 have hb:=h.bin
 have hfl:=ziY h
 have hbs:=Ul h
 have hmost:=h.most
 have hw:=h.wk
 have hm:=h.mt
 have e1:yy p (wi p) (gh0 p)=((xq (zQ p)).take (yY p).length).flatMap (xe (wi p)):=by
  show ((xq (zQ p)).take (yY p).length).flatMap (xe (wi p))++(List.range p.Workers.toNat).flatMap (fun _=>([]:List Int))=_
  rw [zct (f:=fun _=>([]:List Int)) (fun _ _=>rfl),List.append_nil]
 have e2:(xq (zQ p)).take (yY p).length=(List.range (yY p).length).map (fun i:Nat=>(i:Int)+1):=by
  unfold xq
  rw [←List.map_take,List.take_range,Nat.min_eq_left (by omega)]
 rw [e1,e2,List.flatMap_map]
 have e3:(List.range (yY p).length).flatMap (fun i:Nat=>xe (wi p) ((i:Int)+1))=(List.range (yY p).length).flatMap (fun i:Nat=>((yY p)[i]?).getD []):=by
  refine vb (fun i hi=> ?_)
  have hi:=List.mem_range.1 hi
  unfold xe
  show (([[]]++yY p++List.replicate (zQ p-(yY p).length) [])[((i:Int)+1).toNat]?).getD []=_
  rw [show ((i:Int)+1).toNat=i+1 by omega,List.append_assoc]
  show ((yY p++List.replicate (zQ p-(yY p).length) [])[i]?).getD []=_
  rw [List.getElem?_append_left hi]
 rw [e3,zul]
 exact zlm _ (by omega) _ _ (Nat.le_refl _)
theorem zrL (s:BitVec 64):(W7 s).Nodup:=by
 unfold W7
 rw [List.Nodup,List.pairwise_map]
 exact (List.nodup_range.filter _).imp (fun h e=>h (by omega))
theorem ztR {s:BitVec 64} (h:s&&& ~~~63#64=0#64) {j:Nat} (hs:s.getLsbD j=true):j<6:=by
 have hj:j<64:=BitVec.lt_of_getLsbD hs
 have:=congrArg (fun x=>x.getLsbD j) h
 simp only [BitVec.getLsbD_and,BitVec.getLsbD_not,hs,hj,decide_true,Bool.true_and,BitVec.getLsbD_zero] at this
 have h63:(63#64).getLsbD j=decide (j<6):=by
  have: ∀j:Fin 64,(63#64).getLsbD j.1=decide (j.1<6):=by decide
  exact this ⟨j,hj⟩
 rw [h63] at this
 by_cases e:j<6
 ·exact e
 ·rw [decide_eq_false e] at this;cases this
theorem zuX {s:BitVec 64} (h:s&&& ~~~63#64=0#64) (o:Int):o∈W7 s↔zP s o=true:=by
 unfold W7
 rw [v8,List.mem_map]
 constructor
 ·rintro ⟨i,hi,rfl⟩
  obtain ⟨h1,h2⟩:=List.mem_filter.1 hi
  have:=List.mem_range.1 h1
  exact ⟨by omega,by omega,by rw [show ((i:Int)+1-1).toNat=i by omega];exact h2⟩
 ·rintro ⟨h1,h2,h3⟩
  exact ⟨(o-1).toNat,List.mem_filter.2 ⟨List.mem_range.2 (ztR h h3),h3⟩,by omega⟩
theorem zxE {p:zb} (h:zC p):WG p (zQ p+1) 0 (wi p) (gh0 p):=by
 have hE:=zqp h
 obtain ⟨L,v1,v2⟩:=zt9 h
 have hc:=h.cap
 have hws: ∀x∈(wi p).Ws,∃i:Nat,x=uW p i:=fun x hx=>by
  obtain ⟨i,_,rfl⟩:=List.mem_map.1 (show x∈(List.range p.Workers.toNat).map (uW p) from hx)
  exact ⟨i,rfl⟩
 have hb: ∀i:Nat,uW p i=X3 p ((i:Int)+1) (uW p i):=fun i=>rfl
 have own:(wi p).Ws.flatMap xJ=[]:=zct (fun x hx=>by
  obtain ⟨i,rfl⟩:=hws x hx
  exact vP (by show (0:Int)≠3;decide) (by show (0:Int)≠4;decide) (by show (0:Int)≠6;decide))
 have hold:(wi p).Ws.flatMap (zN (wi p))=[]:=zct (fun x hx=>by
  obtain ⟨i,rfl⟩:=hws x hx
  unfold zN
  rw [hb i,ziN];rfl)
 refine ⟨hE,⟨hE.S,by rw [own];exact L,fun w h1 h2=> ?_,?_,fun w _ _=>by show 1+0≤0+1000;decide⟩,fun i x hx=> ?_,?_⟩
 ·have c0:=zrB h ⟨h1,h2⟩ (j:=0) (by decide)
  have c1:=zrB h ⟨h1,h2⟩ (j:=1) (by decide)
  rw [show zF p w+((0:Nat):Int)=zF p w by omega] at c0
  exact ⟨c0,c1,by show (0:Nat)≤1;decide,by show (1:Nat)≤1;decide,Nat.zero_le _,by show 1+0<4294967296;decide,fun i hi=>absurd hi (Nat.not_lt_zero _)⟩
 ·rw [v1,v2];exact ⟨Nat.le_refl _,Nat.le_refl _⟩
 ·have hx:((List.range p.Workers.toNat).map (uW p))[i]? =some x:=hx
  rw [List.getElem?_map] at hx
  cases hr:(List.range p.Workers.toNat)[i]? with
  | none=>rw [hr] at hx;cases hx
  | some j =>
   rw [hr] at hx
   injection hx with hx
   obtain ⟨h1,h2⟩:=List.getElem?_eq_some_iff.1 hr
   rw [List.getElem_range] at h2
   subst h2
   rw [←hx,hb i]
   exact WX.begin rfl rfl
 ·have hs:=zhm h
  unfold zjY
  rw [hold,List.append_nil,zw2 h]
  refine ⟨fun o ho=>absurd ho (zdn o),zrL _,fun o=> ?_⟩
  rw [zuX hs,uP]
  exact ⟨fun e=>⟨e,zdn o⟩,fun e=>e.1⟩
theorem zpi (n:Nat) (hn:1≤n): ∀(f:Nat) (l c:List Int),c∈vj n f l→c≠[]
 | 0,l,c,h=>by simp [vj] at h
 | f+1,[],c,h=>by simp [vj] at h
 | f+1,x::l,c,h=>by
  simp only [vj,List.mem_cons] at h
  rcases h with h | h
  ·rw [h]
   match n,hn with
   | m+1,_=>exact List.cons_ne_nil _ _
  ·exact zpi n hn f _ c h
theorem zxm {p:zb} (h:zC p): ∀y∈(gh0 p).F,xe (wi p) y≠[]:=by
 intro y hy
 have hb:=h.bin
 have hfl:=ziY h
 have hbs:=Ul h
 have hmost:=h.most
 have hw:=h.wk
 have hm:=h.mt
 have hy:y∈(xq (zQ p)).take (yY p).length:=hy
 have e2:(xq (zQ p)).take (yY p).length=(List.range (yY p).length).map (fun i:Nat=>(i:Int)+1):=by
  unfold xq
  rw [←List.map_take,List.take_range,Nat.min_eq_left (by omega)]
 rw [e2] at hy
 obtain ⟨i,hi,rfl⟩:=List.mem_map.1 hy
 have hi:=List.mem_range.1 hi
 unfold xe
 show (([[]]++yY p++List.replicate (zQ p-(yY p).length) [])[((i:Int)+1).toNat]?).getD []≠[]
 rw [show ((i:Int)+1).toNat=i+1 by omega,List.append_assoc]
 show ((yY p++List.replicate (zQ p-(yY p).length) [])[i]?).getD []≠[]
 rw [List.getElem?_append_left hi,List.getElem?_eq_getElem hi]
 exact zpi _ (by omega) _ _ _ (List.getElem_mem hi)
end
end Go.Pe.G
namespace Go.Pe.G
open Go.Pe
noncomputable section
theorem Vl (s:za) (g:zA):(zp s g).1={s with M:=(zp s g).1.M,Bins:=(zp s g).1.Bins,T:=(zp s g).1.T,Work:=(zp s g).1.Work,Flag:=(zp s g).1.Flag}:=by
 obtain ⟨m,b,t,wk,f,e,_⟩:=zej s g
 rw [e]
theorem ziC {p:zb} {nb:Nat} {s:za} {w:Int} {x:ze} (W:WOk p nb w x):(zh s w x).1={s with M:=(zh s w x).1.M,Bins:=(zh s w x).1.Bins,T:=(zh s w x).1.T,Work:=(zh s w x).1.Work,L:=(zh s w x).1.L}:=by
 unfold zh
 split
 ·rfl
 split
 ·rfl
 split
 ·rfl
 split
 ·rfl
 split
 ·rfl
 split
 ·rename_i h6
  obtain ⟨g1,g2,g3,g4⟩:=W.g6 h6
  have hf:=(zsz s g3 g4).2
  obtain ⟨m,b,t,wk,f,e,_⟩:=zej s x.G
  dsimp only
  rw [e] at hf ⊢
  have hf:f=s.Flag:=hf
  rw [hf]
 split
 ·rfl
 split
 ·rfl
 split<;>rfl
theorem zps (s:za) (m:Int) (x:zc):(zo s m x).1={s with H:=(zo s m x).1.H,M:=(zo s m x).1.M,Bins:=(zo s m x).1.Bins,T:=(zo s m x).1.T,Work:=(zo s m x).1.Work,Flag:=(zo s m x).1.Flag,Acks:=(zo s m x).1.Acks,L:=(zo s m x).1.L}:=by
 have g: ∀g:zA,(zp s g).1={s with H:=(zp s g).1.H,M:=(zp s g).1.M,Bins:=(zp s g).1.Bins,T:=(zp s g).1.T,Work:=(zp s g).1.Work,Flag:=(zp s g).1.Flag,Acks:=(zp s g).1.Acks,L:=(zp s g).1.L}:=fun g=>by
  obtain ⟨m,b,t,wk,f,e,_⟩:=zej s g
  rw [e]
 refine wH (motive:=fun r=>r.1={s with H:=r.1.H,M:=r.1.M,Bins:=r.1.Bins,T:=r.1.T,Work:=r.1.Work,Flag:=r.1.Flag,Acks:=r.1.Acks,L:=r.1.L}) s m x ?_ ?_ ?_ ?_ ?_ ?_ ?_ ?_ ?_ ?_ ?_ ?_ ?_ ?_ ?_ ?_ ?_ ?_ ?_ ?_
 ·exact fun _=>rfl
 ·exact fun _=>rfl
 ·exact fun _=>rfl
 ·exact fun _=>g x.G
 ·exact fun _=>rfl
 ·exact fun _=>rfl
 ·exact fun _=>rfl
 ·exact fun _=>rfl
 ·exact fun _=>rfl
 ·intro _
  unfold zaN
  split
  ·split<;>rfl
  ·rfl
 ·exact fun _=>rfl
 ·exact fun _=>rfl
 ·exact fun _=>rfl
 ·exact fun _=>rfl
 ·exact fun _=>rfl
 ·exact fun _=>rfl
 ·exact fun _=>g x.G
 ·exact fun _=>rfl
 ·exact fun _=>rfl
 ·rfl
theorem zlI {p:zb} {nb:Nat} {s:za} (E:EOk p nb s) (w:Int):zE s w={s with M:=(zE s w).M,Bins:=(zE s w).Bins,T:=(zE s w).T,Work:=(zE s w).Work,L:=(zE s w).L,Ws:=(zE s w).Ws}:=by
 unfold zE
 split
 ·rfl
 rename_i hc
 cases hx:s.Ws[(w-1).toNat]? with
 | none=>rfl
 | some x =>
  have hW:=E.W _ _ hx
  rw [show (((w-1).toNat:Nat):Int)+1=w by omega] at hW
  dsimp only
  rw [ziC hW]
structure AI (k:Int) (s:za):Prop where
 ep:0≤s.Epoch∧s.Epoch≤k
 m: ∀(i:Nat) x,s.Ms[i]? =some x→s.Acks.getD i 0≤s.Epoch∧(x.PC=2∨((x.PC=1∨x.PC=3)∧x.Ret=2)→s.Acks.getD i 0≤x.Want∧x.Want≤s.Epoch)∧(x.PC=2→x.Buf=[])
def zyd (s s':za):Prop:=∀(i:Nat) x',s'.Ms[i]? =some x'→s.Acks.getD i 0≤s'.Acks.getD i 0∧s'.Acks.getD i 0≤s'.Epoch∧(s.Acks.getD i 0<s'.Acks.getD i 0→x'.Buf=[])
theorem AI.same {k:Int} {s s':za} (A:AI k s) (e1:s'.Epoch=s.Epoch) (e2:s'.Ms=s.Ms) (e3:s'.Acks=s.Acks):AI (k+1) s'∧zyd s s':=by
 refine ⟨⟨by rw [e1];have:=A.ep;omega,by rw [e1,e2,e3];exact A.m⟩,fun i x hx=> ?_⟩
 rw [e2] at hx
 rw [e3,e1]
 exact ⟨Int.le_refl _,(A.m i x hx).1,fun e=>by omega⟩
theorem zqn {α:Type} {l:List α} {i j:Nat} {v d:α} (h:i<l.length):(l.set i v).getD j d=if i=j then v else l.getD j d:=by
 rw [List.getD_eq_getElem?_getD,List.getD_eq_getElem?_getD,List.getElem?_set]
 by_cases e:i=j
 ·rw [if_pos e,if_pos e,if_pos h];rfl
 ·rw [if_neg e,if_neg e]
end
end Go.Pe.G
namespace Go.Pe.G
open Go.Pe
noncomputable section
theorem uc (a b:BitVec 64) (q:Int):zP (a|||b) q=true↔zP a q=true∨zP b q=true:=by
 rw [v8,v8,v8,BitVec.getLsbD_or,Bool.or_eq_true]
 constructor
 ·rintro ⟨h1,h2,h | h⟩
  ·exact .inl ⟨h1,h2,h⟩
  ·exact .inr ⟨h1,h2,h⟩
 ·rintro (⟨h1,h2,h⟩ | ⟨h1,h2,h⟩)
  ·exact ⟨h1,h2,.inl h⟩
  ·exact ⟨h1,h2,.inr h⟩
theorem zaW (h:zG) (a i v:Int):(Ye h a i v).Objs.length=h.Objs.length:=by
 unfold Ye;split<;>simp
theorem zgP (h:zG):(uK h).Objs.length=h.Objs.length+1:=by unfold uK;simp
end
end Go.Pe.G
namespace Go.Pe.G
open Go.Pe
noncomputable section
theorem znn: ∀(n:Fin 10) (j:Fin 64),(WO (n.1:Int)).getLsbD j.1=decide (j.1<n.1):=by decide +kernel
theorem zsO {n:Nat} (hn:n≤9) (o:Int):zP (WO (n:Int)) o=true↔1≤o∧o≤(n:Int):=by
 rw [v8]
 constructor
 ·rintro ⟨a,b,c⟩
  have:=znn ⟨n,by omega⟩ ⟨(o-1).toNat,by omega⟩
  rw [this] at c
  have:(o-1).toNat<n:=by simpa using c
  omega
 ·rintro ⟨a,b⟩
  have:=znn ⟨n,by omega⟩ ⟨(o-1).toNat,by omega⟩
  refine ⟨a,by omega,?_⟩
  rw [this]
  exact decide_eq_true (by show (o-1).toNat<n;omega)
end
end Go.Pe.G
namespace Go.Pe.G
open Go.Pe
noncomputable section
theorem zpr {t:zn} {o:Int} (ho:1≤o∧o≤64) (hm: ¬zP t.Marks o=true) (hb: ¬zP t.Black o=true):uw t o=({t with Marks:=t.Marks|||bit o},true):=by
 unfold uw
 rw [if_neg ((UF ho).2 hm),if_pos]
 unfold zP at hb
 simpa using hb
theorem zv0 {o q:Int} (h:zP (bit o) q=true):q=o:=by
 by_cases ho:1≤o∧o≤64
 ·have:=(wu 0#64 ho q).1 (by simpa using h)
  exact this.resolve_left (zdn q)
 ·unfold bit at h;rw [if_neg ho] at h;exact absurd h (zdn q)
theorem Xs {m:BitVec 64} {o q:Int} (h:zP (m|||bit o) q=true):zP m q=true∨q=o:=((uc _ _ _).1 h).imp id zv0
theorem zp5 (t:zn) (o:Int):xk t o=2↔zP t.Marks o=true∧zP t.Black o=true:=by
 unfold xk
 cases h:zP (t.Marks&&&t.Black) o with
 | true=>simp only [if_true,true_iff];exact (zcD _ _ o).1 h
 | false =>
  have hn: ¬(zP t.Marks o=true∧zP t.Black o=true):=fun e=>by rw [(zcD _ _ o).2 e] at h;cases h
  simp only [Bool.false_eq_true,if_false]
  constructor
  ·intro e;split at e<;>omega
  ·intro e;exact absurd e hn
theorem zdr (t:zn) (o:Int):(uw t o).1.Black=t.Black∧((uw t o).1.Marks=t.Marks∨(uw t o).1.Marks=t.Marks|||bit o):=by
 unfold uw
 split
 ·exact ⟨rfl,.inl rfl⟩
 split
 ·exact ⟨rfl,.inr rfl⟩
 ·exact ⟨rfl,.inl rfl⟩
theorem zcu (t:zn) (o:Int):(wR t o).Marks=t.Marks∧((wR t o).Black=t.Black∨((wR t o).Black=t.Black|||bit o∧zP t.Marks o=true)):=by
 unfold wR
 split
 ·rename_i h;exact ⟨rfl,.inr ⟨rfl,((uP t o).1 h).1⟩⟩
 ·exact ⟨rfl,.inl rfl⟩
theorem zt4 (s:za) (g:zA):(zp s g).1.T=s.T∨(zp s g).1.T=(uw s.T g.Obj).1:=by
 unfold zp
 split
 ·exact .inl rfl
 split
 ·exact .inl rfl
 split
 ·exact .inl rfl
 split
 ·exact .inl rfl
 split
 ·exact .inl rfl
 split
 ·exact .inl rfl
 split
 ·exact .inl rfl
 split
 ·exact .inr rfl
 ·exact .inl rfl
theorem zlT (s:za) (m:Int) (x:zc) :
  ((zo s m x).1.H.Objs.length=s.H.Objs.length∧((zo s m x).1.T=s.T∨((zo s m x).1.T=(uw s.T x.G.Obj).1∧(x.PC=3∨x.PC=37))∨(zo s m x).1.T=wR s.T x.Obj) ∧
   ((zo s m x).1.L=s.L∨(∃w,(zo s m x).1.L=(zgQ s.L m w).1)∨(zo s m x).1.L=UP s.L m)) ∨
  ((zo s m x).1.H=uK s.H∧(zo s m x).1.T=Uu s.T (wc (s.H.Objs.length+1))∧(zo s m x).1.L=zdu s.L m s.P.Price∧zoh s.L m s.P.Price s.P.Limit=true∧zbT s.H s.P.Most=true):=by
 refine wH (motive:=fun r=>(r.1.H.Objs.length=s.H.Objs.length∧(r.1.T=s.T∨(r.1.T=(uw s.T x.G.Obj).1∧(x.PC=3∨x.PC=37))∨r.1.T=wR s.T x.Obj)∧(r.1.L=s.L∨(∃w,r.1.L=(zgQ s.L m w).1)∨r.1.L=UP s.L m)) ∨
  (r.1.H=uK s.H∧r.1.T=Uu s.T (wc (s.H.Objs.length+1))∧r.1.L=zdu s.L m s.P.Price∧zoh s.L m s.P.Price s.P.Limit=true∧zbT s.H s.P.Most=true)) s m x ?_ ?_ ?_ ?_ ?_ ?_ ?_ ?_ ?_ ?_ ?_ ?_ ?_ ?_ ?_ ?_ ?_ ?_ ?_ ?_
 ·intro c;exact .inl ⟨rfl,.inl rfl,.inl rfl⟩
 ·intro c;exact .inl ⟨rfl,.inl rfl,.inl rfl⟩
 ·intro c;exact .inl ⟨rfl,.inl rfl,.inl rfl⟩
 ·intro c;unfold mu3
  refine .inl ⟨by rw [Vl],(zt4 s x.G).imp id (fun h=> .inl ⟨h,.inl c⟩),.inl (by rw [Vl])⟩
 ·intro c;exact .inl ⟨rfl,.inl rfl,.inl rfl⟩
 ·intro c;exact .inl ⟨rfl,.inl rfl,.inl rfl⟩
 ·intro c;exact .inl ⟨rfl,.inl rfl,.inl rfl⟩
 ·intro c;exact .inl ⟨rfl,.inl rfl,.inl rfl⟩
 ·intro c;exact .inl ⟨zaW _ _ _ _,.inl rfl,.inl rfl⟩
 ·intro c;unfold zaN
  split
  ·split
   ·rename_i h1 h2;exact .inr ⟨rfl,rfl,rfl,h1,h2⟩
   ·exact .inl ⟨rfl,.inl rfl,.inl rfl⟩
  ·exact .inl ⟨rfl,.inl rfl,.inl rfl⟩
 ·intro c;exact .inl ⟨rfl,.inl rfl,.inr (.inl ⟨_,rfl⟩)⟩
 ·intro c;exact .inl ⟨rfl,.inl rfl,.inl rfl⟩
 ·intro c;exact .inl ⟨rfl,.inl rfl,.inl rfl⟩
 ·intro c;exact .inl ⟨rfl,.inl rfl,.inl rfl⟩
 ·intro c;exact .inl ⟨rfl,.inl rfl,.inl rfl⟩
 ·intro c;exact .inl ⟨rfl,.inl rfl,.inl rfl⟩
 ·intro c;unfold zaE
  refine .inl ⟨by rw [Vl],(zt4 s x.G).imp id (fun h=> .inl ⟨h,.inr c⟩),.inl (by rw [Vl])⟩
 ·intro c;exact .inl ⟨rfl,.inr (.inr rfl),.inr (.inr rfl)⟩
 ·intro c;exact .inl ⟨rfl,.inl rfl,.inl rfl⟩
 ·exact .inl ⟨rfl,.inl rfl,.inl rfl⟩
def UL (n:Int) (x:zc):Prop:=(∀v∈x.Buf,v≤n)∧x.Old≤n∧(x.PC=3∨x.PC=37→x.G.Obj≤n)
theorem zrA {h:zG} {n:Int} (h0:0≤n) (hv: ∀l∈h.Objs,∀v∈l,v≤n) (o i:Int):zM h o i≤n:=by
 unfold zM
 split
 ·rw [List.getD_eq_getElem?_getD]
  cases hx:(yw h o)[i.toNat]? with
  | none=>exact h0
  | some v =>
   have hm:=List.mem_of_getElem? hx
   unfold yw at hm
   rw [List.getD_eq_getElem?_getD] at hm
   cases hy:h.Objs[(o-1).toNat]? with
   | none=>rw [hy] at hm;cases hm
   | some l=>rw [hy] at hm;exact hv l (List.mem_of_getElem? hy) v hm
 ·exact h0
theorem zpe {p:zb} {nb:Nat} {s:za} {m:Int} {x:zc} (X:XOk p nb m x) {n:Int} (h0:0≤n) (hv: ∀l∈s.H.Objs,∀v∈l,v≤n) (B:UL n x):UL n (zo s m x).2:=by
 obtain ⟨b1,b2,b3⟩:=B
 have no: ∀ {y:zc},(∀v∈y.Buf,v≤n)→y.Old≤n→¬(y.PC=3∨y.PC=37)→UL n y:=fun h1 h2 h3=>⟨h1,h2,fun e=>absurd e h3⟩
 refine wH (motive:=fun r=>UL n r.2) s m x ?_ ?_ ?_ ?_ ?_ ?_ ?_ ?_ ?_ ?_ ?_ ?_ ?_ ?_ ?_ ?_ ?_ ?_ ?_ ?_
 ·intro c;unfold mu0 zbG
  repeat' split
  all_goals exact no b1 b2 (by dsimp only [setM];omega)
 ·intro c;unfold mu1;dsimp only
  split
  ·exact no b1 b2 (by have:=X.ret (.inl c);show ¬(x.Ret=3∨x.Ret=37);omega)
  ·rename_i hl
   refine ⟨fun v hv=>b1 v (List.mem_of_mem_take hv),b2,fun _=> ?_⟩
   show x.Buf.getD (x.Buf.length-1) 0≤n
   rw [List.getD_eq_getElem?_getD,List.getElem?_eq_getElem (show x.Buf.length-1<x.Buf.length by omega)]
   exact b1 _ (List.getElem_mem _)
 ·intro c;unfold mu2;exact no b1 b2 (by show ¬((0:Int)=3∨(0:Int)=37);decide)
 ·intro c;unfold mu3;dsimp only
  split
  ·exact no b1 b2 (by show ¬((1:Int)=3∨(1:Int)=37);decide)
  ·exact ⟨b1,b2,fun _=>by show (zp s x.G).2.Obj≤n;rw [(Vf s x.G).1];exact b3 (.inl c)⟩
 ·intro c;unfold zht;exact no b1 b2 (by show ¬((0:Int)=3∨(0:Int)=37);decide)
 ·intro c;unfold zfr;dsimp only
  split
  ·exact no b1 b2 (by show ¬((0:Int)=3∨(0:Int)=37);decide)
  ·exact no b1 (zrA h0 hv _ _) (by show ¬((21:Int)=3∨(21:Int)=37);decide)
 ·intro c;unfold zfO;dsimp only
  split
  ·exact no b1 h0 (by show ¬((23:Int)=3∨(23:Int)=37);decide)
  ·exact no b1 b2 (by show ¬((22:Int)=3∨(22:Int)=37);decide)
 ·intro c;unfold zfS;dsimp only
  split
  ·exact no b1 b2 (by show ¬((1:Int)=3∨(1:Int)=37);decide)
  ·refine no (fun v hv=> ?_) h0 (by show ¬((23:Int)=3∨(23:Int)=37);decide)
   rcases List.mem_append.1 hv with h | h
   ·exact b1 v h
   ·rw [List.mem_singleton.1 h];exact b2
 ·intro c;unfold zfW;exact no b1 b2 (by show ¬((0:Int)=3∨(0:Int)=37);decide)
 ·intro c;unfold zaN
  split
  ·split
   ·exact no b1 b2 (by show ¬((0:Int)=3∨(0:Int)=37);decide)
   ·exact no b1 b2 (by show ¬((0:Int)=3∨(0:Int)=37);decide)
  ·exact no b1 b2 (by show ¬((31:Int)=3∨(31:Int)=37);decide)
 ·intro c;unfold zfy;dsimp only
  split
  ·exact no b1 b2 (by show ¬((32:Int)=3∨(32:Int)=37);decide)
  ·exact no b1 b2 (by show ¬((0:Int)=3∨(0:Int)=37);decide)
 ·intro c;unfold zfT;dsimp only
  split
  ·exact no b1 b2 (by show ¬((33:Int)=3∨(33:Int)=37);decide)
  split
  ·exact no b1 b2 (by show ¬((0:Int)=3∨(0:Int)=37);decide)
  ·exact no b1 b2 (by show ¬(x.PC=3∨x.PC=37);omega)
 ·intro c;unfold zhA;exact no b1 b2 (by show ¬((34:Int)=3∨(34:Int)=37);decide)
 ·intro c;unfold zeV;dsimp only
  split
  ·exact no b1 b2 (by show ¬((35:Int)=3∨(35:Int)=37);decide)
  ·exact no b1 b2 (by show ¬(x.PC=3∨x.PC=37);omega)
 ·intro c;unfold zfF;dsimp only
  split
  ·exact no b1 b2 (by show ¬((0:Int)=3∨(0:Int)=37);decide)
  ·exact no b1 b2 (by show ¬((36:Int)=3∨(36:Int)=37);decide)
 ·intro c;unfold zfn;dsimp only
  split
  ·exact no b1 b2 (by have:=zdj s (wc (x.Slot+1));show ¬(onM s (wc (x.Slot+1))=3∨onM s (wc (x.Slot+1))=37);omega)
  ·exact ⟨b1,b2,fun _=>zrA h0 hv _ _⟩
 ·intro c;unfold zaE;dsimp only
  split
  ·exact no b1 b2 (by have:=zdj s x.Slot;show ¬(onM s x.Slot=3∨onM s x.Slot=37);omega)
  ·exact ⟨b1,b2,fun _=>by show (zp s x.G).2.Obj≤n;rw [(Vf s x.G).1];exact b3 (.inr c)⟩
 ·intro c;unfold zhF;exact no b1 b2 (by show ¬((39:Int)=3∨(39:Int)=37);decide)
 ·intro c;unfold zhd;exact no b1 b2 (by show ¬((35:Int)=3∨(35:Int)=37);decide)
 ·exact ⟨b1,b2,b3⟩
theorem znZ: ∀(l:List Int) (i:Nat) (v:Int),i<l.length→(l.set i v).sum=l.sum-l.getD i 0+v
 | [],i,v,h=>by simp at h
 | a::l,0,v,h=>by simp only [List.set_cons_zero,List.sum_cons,List.getD_cons_zero];omega
 | a::l,i+1,v,h=>by
  simp only [List.set_cons_succ,List.sum_cons,List.getD_cons_succ,znZ l i v (by simpa using h)];omega
structure LdI (p:zb) (k d:Int) (l:zq):Prop where
 pool:l.Pool=0
 sc:0≤l.Scanned∧l.Scanned≤k
 sp:l.Spent=p.Price*d
 bal: ∀b∈l.Bal,-p.Limit≤b∧b≤k
 sum:l.Bal.sum=l.Scanned-l.Spent
theorem LdI.more {p:zb} {k d:Int} {l:zq} (I:LdI p k d l):LdI p (k+1) d l :=
 ⟨I.pool,by have:=I.sc;omega,I.sp,fun b hb=>by have:=I.bal b hb;omega,I.sum⟩
theorem zuc {l:List Int} {i:Nat} (h:i<l.length):l.getD i 0∈l:=by
 rw [List.getD_eq_getElem?_getD,List.getElem?_eq_getElem h];exact List.getElem_mem h
theorem LdI.take {p:zb} {k d:Int} {l:zq} (I:LdI p k d l) (m w:Int):(zgQ l m w).1=l:=by
 unfold zgQ zq9
 rw [if_neg]
 rintro ⟨_,h⟩
 rw [I.pool] at h
 split at h<;>omega
theorem LdI.earn {p:zb} (hp:zC p) {k d:Int} (hk:0≤k∧k≤1000) {l:zq} (I:LdI p k d l) {m:Int} (hm:1≤m∧m≤(l.Bal.length:Int)):LdI p (k+1) d (UP l m):=by
 have hsc:=I.sc
 have hl:=hp.limit
 have hb:=I.bal _ (zuc (l:=l.Bal) (i:=(m-1).toNat) (by omega))
 unfold UP
 rw [if_pos hm]
 have w1:wc (l.Scanned+1)=l.Scanned+1:=xm (by omega) (by omega)
 have w2:wc (l.Bal.getD (m-1).toNat 0+1)=l.Bal.getD (m-1).toNat 0+1:=xm (by omega) (by omega)
 rw [w1,w2]
 refine ⟨I.pool,by dsimp only;omega,I.sp,fun b hb'=> ?_,?_⟩
 ·rcases List.mem_or_eq_of_mem_set hb' with h | rfl
  ·have:=I.bal b h;omega
  ·omega
 ·dsimp only
  rw [znZ _ _ _ (by omega),I.sum];omega
theorem zuO {a d:Int} (h:0≤a∧a≤3):a*(d+1)=a*d+a:=by rw [Int.mul_add,Int.mul_one]
theorem zvz {a d:Int} (h:0≤a∧a≤3) (hd:0≤d∧d≤10):0≤a*d∧a*d≤30:=by
 refine ⟨Int.mul_nonneg h.1 hd.1,?_⟩
 have:=Int.mul_le_mul h.2 hd.2 hd.1 (by decide:(0:Int)≤3)
 omega
theorem LdI.spend {p:zb} (hp:zC p) {k d:Int} (hk:0≤k∧k≤1000) (hd:0≤d∧d≤9) {l:zq} (I:LdI p k d l) {m:Int} (h:zoh l m p.Price p.Limit=true):LdI p (k+1) (d+1) (zdu l m p.Price):=by
 have hsc:=I.sc
 have hl:=hp.limit
 have hpr:=hp.price
 have hsp:=zvz hpr (d:=d) (by omega)
 have e1:=I.sp
 unfold zoh zoO zqJ at h
 simp only [Bool.and_eq_true,decide_eq_true_eq] at h
 obtain ⟨⟨⟨⟨⟨⟨m1,m2⟩,_⟩,_⟩,_⟩,_⟩,h⟩:=h
 have hb:=I.bal _ (zuc (l:=l.Bal) (i:=(m-1).toNat) (by omega))
 unfold zkJ at h
 rw [xm (by omega) (by omega),xm (by omega) (by omega)] at h
 unfold zdu zkJ
 rw [xm (by omega) (by omega),xm (by omega) (by omega)]
 refine ⟨I.pool,by dsimp only;omega,?_,fun b hb'=> ?_,?_⟩
 ·dsimp only;rw [zuO hpr];omega
 ·rcases List.mem_or_eq_of_mem_set hb' with h2 | rfl
  ·have:=I.bal b h2;omega
  ·omega
 ·dsimp only
  rw [znZ _ _ _ (by omega),I.sum];omega
structure NwI (p:zb) (k:Int) (s:za):Prop where
 mrk: ∀o,zP s.T.Marks o=true→o≤(s.H.Objs.length:Int)
 bm: ∀o,zP s.T.Black o=true→zP s.T.Marks o=true
 bk: ∀o,(p.H.Objs.length:Int)<o→o≤(s.H.Objs.length:Int)→xk s.T o=2
 buf: ∀x∈s.Ms,UL (s.H.Objs.length:Int) x
 bl:s.L.Bal.length=s.Ms.length
 L:LdI p k ((s.H.Objs.length:Int)-(p.H.Objs.length:Int)) s.L
theorem zv2 (l:zq) (m:Int):(UP l m).Bal.length=l.Bal.length:=by unfold UP;split<;>simp
theorem NwI.step {p:zb} {nb:Nat} (hp:zC p) {k:Int} (hk:0≤k∧k≤1000) {s:za} (E:EOk p nb s) (I:NwI p k s) (m:Int):NwI p (k+1) (yU s m):=by
 have hN:=E.H.n
 have hM:=hp.most
 have hn6:=hp.n
 unfold yU
 split
 ·exact ⟨I.mrk,I.bm,I.bk,I.buf,I.bl,I.L.more⟩
 rename_i hne
 cases hx:s.Ms[(m-1).toNat]? with
 | none=>exact ⟨I.mrk,I.bm,I.bk,I.buf,I.bl,I.L.more⟩
 | some x =>
  have hm:1≤m∧m≤(s.Ms.length:Int):=by omega
  have X:=E.X _ x hx
  have B:=I.buf x (List.mem_of_getElem? hx)
  have em:(((m-1).toNat:Nat):Int)+1=m:=by omega
  rw [em] at X
  have B':=zpe (s:=s) X (n:=(s.H.Objs.length:Int)) (by omega) (fun l hl v hv=>((E.H.objs l hl).2 v hv).2) B
  have bufs: ∀N':Int,(s.H.Objs.length:Int)≤N'→∀y∈s.Ms.set (m-1).toNat (zo s m x).2,UL N' y:=fun N' hN' y hy=>by
   have up: ∀ {z:zc},UL (s.H.Objs.length:Int) z→UL N' z:=fun ⟨a,b,c⟩=>⟨fun v hv=>by have:=a v hv;omega,by omega,fun e=>by have:=c e;omega⟩
   rcases List.mem_or_eq_of_mem_set hy with h | rfl
   ·exact up (I.buf y h)
   ·exact up B'
  have hL:=I.L
  rcases zlT s m x with ⟨k1,k2,k3⟩ | ⟨k1,k2,k3,k4,k5⟩
  ·refine ⟨fun o ho=> ?_,fun o ho=> ?_,fun o h1 h2=> ?_,?_,?_,?_⟩
   ·dsimp only at ho ⊢
    rw [k1]
    rcases k2 with e | ⟨e,hpc⟩ | e
    ·rw [e] at ho;exact I.mrk o ho
    ·rw [e] at ho
     rcases (zdr s.T x.G.Obj).2 with e2 | e2
     ·rw [e2] at ho;exact I.mrk o ho
     ·rw [e2] at ho
      rcases Xs ho with h | rfl
      ·exact I.mrk o h
      ·exact B.2.2 hpc
    ·rw [e,(zcu s.T x.Obj).1] at ho;exact I.mrk o ho
   ·dsimp only at ho ⊢
    rcases k2 with e | ⟨e,hpc⟩ | e
    ·rw [e] at ho ⊢;exact I.bm o ho
    ·rw [e] at ho ⊢
     rw [(zdr s.T x.G.Obj).1] at ho
     have:=I.bm o ho
     rcases (zdr s.T x.G.Obj).2 with e2 | e2
     ·rw [e2];exact this
     ·rw [e2];exact (uc _ _ _).2 (.inl this)
    ·rw [e] at ho ⊢
     rw [(zcu s.T x.Obj).1]
     rcases (zcu s.T x.Obj).2 with e2 | ⟨e2,h3⟩
     ·rw [e2] at ho;exact I.bm o ho
     ·rw [e2] at ho
      rcases Xs ho with h | rfl
      ·exact I.bm o h
      ·exact h3
   ·dsimp only at h2 ⊢
    rw [k1] at h2
    have h:=(zp5 _ _).1 (I.bk o h1 h2)
    rw [zp5]
    rcases k2 with e | ⟨e,hpc⟩ | e
    ·rw [e];exact h
    ·rw [e,(zdr s.T x.G.Obj).1]
     refine ⟨?_,h.2⟩
     rcases (zdr s.T x.G.Obj).2 with e2 | e2
     ·rw [e2];exact h.1
     ·rw [e2];exact (uc _ _ _).2 (.inl h.1)
    ·rw [e,(zcu s.T x.Obj).1]
     refine ⟨h.1,?_⟩
     rcases (zcu s.T x.Obj).2 with e2 | ⟨e2,_⟩
     ·rw [e2];exact h.2
     ·rw [e2];exact (uc _ _ _).2 (.inl h.2)
   ·dsimp only;rw [k1];exact bufs _ (Int.le_refl _)
   ·dsimp only
    rw [List.length_set]
    rcases k3 with e | ⟨w,e⟩ | e
    ·rw [e];exact I.bl
    ·rw [e,hL.take];exact I.bl
    ·rw [e,zv2];exact I.bl
   ·dsimp only
    rw [k1]
    rcases k3 with e | ⟨w,e⟩ | e
    ·rw [e];exact hL.more
    ·rw [e,hL.take];exact hL.more
    ·rw [e];exact hL.earn hp hk (by have:=I.bl;omega)
  ·have w:wc ((s.H.Objs.length:Int)+1)=(s.H.Objs.length:Int)+1:=xm (by omega) (by omega)
   have hal:=zgP s.H
   have hP:=E.S.P
   have hr:(s.H.Objs.length:Int)<s.P.Most:=by
    unfold zbT at k5
    simp only [Bool.and_eq_true,decide_eq_true_eq] at k5
    exact k5.1
   rw [hP] at hr k3 k4
   rw [w] at k2
   have nm: ¬zP s.T.Marks ((s.H.Objs.length:Int)+1)=true:=fun e=>by have:=I.mrk _ e;omega
   have nb': ¬zP s.T.Black ((s.H.Objs.length:Int)+1)=true:=fun e=>nm (I.bm _ e)
   have hsh:=zpr (t:=s.T) (o:=(s.H.Objs.length:Int)+1) (by omega) nm nb'
   have ht1:xk {s.T with Marks:=s.T.Marks|||bit ((s.H.Objs.length:Int)+1)} ((s.H.Objs.length:Int)+1)=1 :=
    (uP _ _).2 ⟨(wu _ (by omega) _).2 (.inr rfl),nb'⟩
   have hT:(zo s m x).1.T=⟨s.T.Marks|||bit ((s.H.Objs.length:Int)+1),s.T.Black|||bit ((s.H.Objs.length:Int)+1)⟩:=by
    rw [k2]
    unfold Uu
    rw [hsh]
    dsimp only
    rw [if_pos rfl]
    unfold wR
    rw [if_pos ht1]
   refine ⟨fun o ho=> ?_,fun o ho=> ?_,fun o h1 h2=> ?_,?_,?_,?_⟩
   ·dsimp only at ho ⊢
    rw [k1,hal]
    rw [hT] at ho
    rcases Xs ho with h | rfl
    ·have:=I.mrk o h;omega
    ·omega
   ·dsimp only at ho ⊢
    rw [hT] at ho ⊢
    dsimp only at ho ⊢
    rw [uc]
    rcases (uc _ _ _).1 ho with h | h
    ·exact .inl (I.bm o h)
    ·exact .inr h
   ·dsimp only at h2 ⊢
    rw [k1,hal] at h2
    rw [zp5,hT]
    dsimp only
    by_cases ho:o≤(s.H.Objs.length:Int)
    ·have h:=(zp5 _ _).1 (I.bk o h1 ho)
     exact ⟨(uc _ _ _).2 (.inl h.1),(uc _ _ _).2 (.inl h.2)⟩
    ·have:o=(s.H.Objs.length:Int)+1:=by omega
     subst this
     exact ⟨(wu _ (by omega) _).2 (.inr rfl),(wu _ (by omega) _).2 (.inr rfl)⟩
   ·dsimp only;rw [k1,hal];exact bufs _ (by omega)
   ·dsimp only
    rw [List.length_set,k3]
    unfold zdu
    rw [List.length_set]
    exact I.bl
   ·dsimp only
    rw [k3,k1,hal]
    have:=hL.spend hp hk (by omega) k4
    have e:((s.H.Objs.length+1:Nat):Int)-(p.H.Objs.length:Int)=(s.H.Objs.length:Int)-(p.H.Objs.length:Int)+1:=by omega
    rw [e]
    exact this
end
end Go.Pe.G
namespace Go.Pe.G
open Go.Pe
noncomputable section
theorem zvH (s:BitVec 64) {q:Int} (h:1≤q∧q≤64):zP (~~~s) q=true↔¬zP s q=true:=by
 rw [v8,v8,BitVec.getLsbD_not]
 simp only [show (q-1).toNat<64 by omega,decide_true,Bool.true_and,Bool.not_eq_true']
 constructor
 ·rintro ⟨_,_,e⟩ ⟨_,_,e2⟩;rw [e] at e2;cases e2
 ·intro e
  refine ⟨h.1,h.2,?_⟩
  cases hs:s.getLsbD (q-1).toNat with
  | false=>rfl
  | true=>exact absurd ⟨h.1,h.2,hs⟩ e
end
end Go.Pe.G
namespace Go.Pe.G
open Go.Pe
noncomputable section
def WP (p:zb) (s:za) (g:Gh):List Int:=yy p s g++(s.Ws.flatMap (zN s)++s.Ms.flatMap (yc s))
structure FG (p:zb) (nb k:Nat) (s:za) (gh:Gh):Prop where
 E:EOk p nb s
 X:SX p nb s gh (s.Ws.flatMap xJ++s.Ms.flatMap vi) k
 W: ∀(i:Nat) x,s.Ws[i]? =some x→WX p s gh ((i:Int)+1) x
 M: ∀(i:Nat) x,s.Ms[i]? =some x→MX p s gh x
 B:Ud (WP p s gh) s.T
 mrk: ∀o,zP s.T.Marks o=true→o≤(s.H.Objs.length:Int)
 wob: ∀(i:Nat) x,s.Ws[i]? =some x→x.PC=6→x.G.Obj≤(s.H.Objs.length:Int)
 buf: ∀x∈s.Ms,UL (s.H.Objs.length:Int) x
 bk: ∀o,(p.H.Objs.length:Int)<o→o≤(s.H.Objs.length:Int)→zP s.T.Black o=true
 ne: ∀y∈gh.F,xe s y≠[]
theorem FX.ne {p:zb} {nb k:Nat} {s s':za} {gh gh':Gh} {Y R:List Int} {O:Int→Prop} (X:SX p nb s gh (Y++R) k) (Fx:FX p nb Y O s s' gh gh') (h: ∀y∈gh.F,xe s y≠[]): ∀y∈gh'.F,xe s' y≠[]:=fun y hy =>
 (Fx.fb y hy).elim (fun hy=>by
  have h1:=zpd.1 (X.L.all.subset (List.mem_append_left _ (List.mem_append_left _ hy)))
  have h2:y∉Y:=fun e=>(X.L.notF (List.mem_append_left _ e)).1 hy
  have:=Fx.bn y h1.1 h2
  unfold xe
  rw [this];exact h y hy) id
theorem MX.state {p:zb} {s s':za} {gh:Gh} {x:zc} (W:MX p s gh x) (hm:s'.M=s.M) (hb:s'.Bins=s.Bins):MX p s' gh x :=
 ⟨W.bt,W.bf,W.ol,fun e=>⟨(W.p3 e).1.state hm hb,(W.p3 e).2⟩,by rw [hm];exact W.p32,by rw [hm];exact W.p34,fun e=>⟨(W.p37 e).1.state hm hb,(W.p37 e).2⟩⟩
theorem zlo {s s':za} {x:zc} (hb:s'.Bins=s.Bins):yc s' x=yc s x:=by
 unfold yc zaP xe;rw [hb]
def zau (s s':za):Prop :=
 (s'.T=s.T∧s'.H.Objs.length=s.H.Objs.length) ∨
 (∃o,(1≤o∧o≤(s.H.Objs.length:Int))∧¬zP s.T.Marks o=true∧s'.T={s.T with Marks:=s.T.Marks|||bit o}∧s'.H=s.H) ∨
 (∃o,xk s.T o=1∧s'.T={s.T with Black:=s.T.Black|||bit o}∧s'.H=s.H) ∨
 (s'.H=uK s.H∧(s.H.Objs.length:Int)<9∧s'.T=⟨s.T.Marks|||bit ((s.H.Objs.length:Int)+1),s.T.Black|||bit ((s.H.Objs.length:Int)+1)⟩)
theorem FG.tints {p:zb} {nb k:Nat} {s:za} {gh:Gh} (G:FG p nb k s gh) {s':za} (F:zau s s') :
  (∀o,zP s'.T.Marks o=true→o≤(s'.H.Objs.length:Int))∧(∀o,(p.H.Objs.length:Int)<o→o≤(s'.H.Objs.length:Int)→zP s'.T.Black o=true):=by
 rcases F with ⟨e,h⟩ | ⟨o,ho,hn,e,h⟩ | ⟨o,ho,e,h⟩ | ⟨h,hl,e⟩
 ·rw [e,h];exact ⟨G.mrk,G.bk⟩
 ·rw [e,h]
  refine ⟨fun q hq=> ?_,G.bk⟩
  rcases Xs hq with hq | rfl
  ·exact G.mrk q hq
  ·exact ho.2
 ·rw [e,h]
  exact ⟨G.mrk,fun q h1 h2=>(uc _ _ _).2 (.inl (G.bk q h1 h2))⟩
 ·rw [e,h]
  have hal:=zgP s.H
  refine ⟨fun q hq=> ?_,fun q h1 h2=> ?_⟩
  ·rcases Xs hq with hq | rfl
   ·have:=G.mrk q hq;omega
   ·omega
  ·dsimp only
   by_cases hq:q≤(s.H.Objs.length:Int)
   ·exact (uc _ _ _).2 (.inl (G.bk q h1 hq))
   ·have:q=(s.H.Objs.length:Int)+1:=by omega
    subst this
    exact (wu _ (by omega) _).2 (.inr rfl)
theorem FG.worker {p:zb} (hp:zC p) {nb k:Nat} {s:za} {gh:Gh} (hk:k<4294960000) (G:FG p nb k s gh) {w:Int} (hw:1≤w∧w≤p.Workers) (hd:s.Done=false): ∃gh',FG p nb (k+1) (zE s w) gh'∧zau s (zE s w) ∧
  ∃x,s.Ws[(w-1).toNat]? =some x∧∃N C,List.Perm (WP p (zE s w) gh'++C) (N++WP p s gh)∧((N=[]∧C=[]∧(zh s w x).1.T=s.T)∨(N=[x.G.Obj]∧C=[]∧x.PC=6∧¬(s.T.Marks|||bit x.G.Obj=s.T.Marks)∧(zh s w x).1.T={s.T with Marks:=s.T.Marks|||bit x.G.Obj})∨(N=[]∧C=[x.Obj]∧x.PC=8∧(zh s w x).1.T=wR s.T x.Obj)):=by
 have hE:=zi2 hp G.E w
 have hwl:=G.E.wl
 have e0: ¬(s.Done=true∨w<1∨(s.Ws.length:Int)<w):=by rw [hd];rintro (e | e | e)<;>first | cases e | omega
 revert hE
 unfold zE
 rw [if_neg e0]
 have hi:(w-1).toNat<s.Ws.length:=by omega
 have hx:=List.getElem?_eq_getElem hi
 generalize s.Ws[(w-1).toNat]=x at hx
 rw [hx]
 dsimp only
 intro hE
 obtain ⟨a,b,el,es,hab,hba⟩:=zl7 hx
 have ei:(((w-1).toNat:Nat):Int)+1=w:=by omega
 have hWX:=G.W _ x hx
 have hWO:=G.E.W _ x hx
 rw [ei] at hWX hWO
 have hfr:=ziC (s:=s) hWO
 have eH:(zh s w x).1.H=s.H:=by rw [hfr]
 have eMs:(zh s w x).1.Ms=s.Ms:=by rw [hfr]
 have X0:SX p nb s gh (xJ x++((a++b).flatMap xJ++s.Ms.flatMap vi)) k:=by
  refine G.X.perm ?_
  rw [←List.append_assoc]
  refine List.Perm.append_right _ ?_
  conv=>rhs;rw [el]
  exact uL.symm
 obtain ⟨gh',X',W',Fx,N,C,hN,hT⟩:=zwq hp hk hw X0 hWO hWX (fun o i=>G.E.H.get hp o i)
 have hoth: ∀(j:Nat) y,j≠(w-1).toNat→s.Ws[j]? =some y→WX p (zh s w x).1 gh' ((j:Int)+1) y∧zN (zh s w x).1 y=zN s y:=by
  intro j y hj hy
  have hjl:=(List.getElem?_eq_some_iff.1 hy).1
  exact WX.other hp (w:=(j:Int)+1) (by omega) X0 Fx (G.W j y hy) (G.E.W j y hy) (fun z hz=>List.mem_append_left _ (List.mem_flatMap.2 ⟨y,hba j y hj hy,hz⟩)) (fun e=>hj (by omega))
 have hmut: ∀(j:Nat) y,s.Ms[j]? =some y→MX p (zh s w x).1 gh' y∧yc (zh s w x).1 y=yc s y:=by
  intro j y hy
  exact MX.other hp X0 Fx (G.M j y hy) (G.E.X j y hy) (fun z hz=>List.mem_append_right _ (List.mem_flatMap.2 ⟨y,List.mem_of_getElem? hy,hz⟩))
 have hbag:List.Perm (WP p {(zh s w x).1 with Ws:=s.Ws.set (w-1).toNat (zh s w x).2} gh'++C) (N++WP p s gh):=by
  unfold WP
  have q2:(s.Ws.set (w-1).toNat (zh s w x).2).flatMap (zN {(zh s w x).1 with Ws:=s.Ws.set (w-1).toNat (zh s w x).2})=(a++(zh s w x).2::b).flatMap (zN (zh s w x).1):=by
   rw [es];exact vb (fun y _=>zhE rfl rfl)
  have q3:(a++b).flatMap (zN (zh s w x).1)=(a++b).flatMap (zN s):=vb (fun y hy=>by
   obtain ⟨j,hj,hjy⟩:=hab y hy
   exact (hoth j y hj hjy).2)
  have q4:(zh s w x).1.Ms.flatMap (yc {(zh s w x).1 with Ws:=s.Ws.set (w-1).toNat (zh s w x).2})=s.Ms.flatMap (yc s):=by
   rw [eMs]
   refine vb (fun y hy=> ?_)
   obtain ⟨j,hj⟩:=List.mem_iff_getElem?.1 hy
   exact (zlo (s:=(zh s w x).1) rfl).trans (hmut j y hj).2
  show List.Perm (yy p (zh s w x).1 gh'++((s.Ws.set (w-1).toNat (zh s w x).2).flatMap (zN {(zh s w x).1 with Ws:=s.Ws.set (w-1).toNat (zh s w x).2})++(zh s w x).1.Ms.flatMap (yc {(zh s w x).1 with Ws:=s.Ws.set (w-1).toNat (zh s w x).2}))++C) _
  rw [q2,q4]
  have r1:List.Perm (yy p (zh s w x).1 gh'++((a++(zh s w x).2::b).flatMap (zN (zh s w x).1)++s.Ms.flatMap (yc s))++C) (((a++b).flatMap (zN s)++s.Ms.flatMap (yc s))++(yy p (zh s w x).1 gh'++zN (zh s w x).1 (zh s w x).2++C)):=by
   refine ((List.Perm.append_left _ (List.Perm.append_right _ uL)).append_right C).trans ?_
   rw [q3]
   generalize (a++b).flatMap (zN s)=u
   generalize s.Ms.flatMap (yc s)=v
   generalize yy p (zh s w x).1 gh'=y
   generalize zN (zh s w x).1 (zh s w x).2=z
   have:List.Perm (y++(z++(u++v))++C) ((u++v)++(y++z++C)):=by
    generalize u++v=q
    rw [List.append_assoc,List.append_assoc,List.append_assoc]
    refine (List.Perm.append_left _ (List.perm_append_comm_assoc _ _ _)).trans ?_
    exact (List.perm_append_comm_assoc _ _ _)
   rw [List.append_assoc z u v]
   exact this
  have r2:List.Perm (N++(yy p s gh++(s.Ws.flatMap (zN s)++s.Ms.flatMap (yc s)))) (((a++b).flatMap (zN s)++s.Ms.flatMap (yc s))++(N++(yy p s gh++zN s x))):=by
   conv=>lhs;rw [el]
   refine (List.Perm.append_left _ (List.Perm.append_left _ (List.Perm.append_right _ uL))).trans ?_
   generalize (a++b).flatMap (zN s)=u
   generalize s.Ms.flatMap (yc s)=v
   generalize yy p s gh=y
   generalize zN s x=z
   rw [List.append_assoc z u v]
   generalize u++v=q
   refine (List.Perm.append_left _ ?_).trans (List.perm_append_comm_assoc _ _ _)
   rw [←List.append_assoc]
   exact List.perm_append_comm
  exact r1.trans ((List.Perm.append_left _ hN).trans r2.symm)
 have hFM:zau s {(zh s w x).1 with Ws:=s.Ws.set (w-1).toNat (zh s w x).2}∧Ud (WP p {(zh s w x).1 with Ws:=s.Ws.set (w-1).toNat (zh s w x).2} gh') (zh s w x).1.T:=by
  rcases hT with ⟨e1,e2,t1⟩ | ⟨e1,e2,t1,t2,t3⟩ | ⟨e1,e2,t1,t2⟩
  ·rw [e1,e2,List.append_nil,List.nil_append] at hbag
   refine ⟨.inl ⟨t1,congrArg (fun h:zG=>h.Objs.length) eH⟩,⟨?_,hbag.nodup_iff.2 G.B.nd,fun o=> ?_⟩⟩
   ·rw [t1];exact G.B.blk
   ·rw [t1,hbag.mem_iff];exact G.B.gr o
  ·have ho:=((hWX.p6 t1).1).ob
   rw [e1,e2,List.append_nil] at hbag
   refine ⟨.inr (.inl ⟨x.G.Obj,⟨ho.1,G.wob _ x hx t1⟩,(UF ho).1 t2,t3,eH⟩),?_⟩
   rw [t3]
   exact G.B.more ho t2 hbag
  ·rw [e1,e2,List.nil_append] at hbag
   obtain ⟨b1,b2,b3,b4⟩:=G.B.less hbag
   refine ⟨.inr (.inr (.inl ⟨x.Obj,b3,?_,eH⟩)),by rw [t2];exact b1⟩
   show (zh s w x).1.T=_
   rw [t2];unfold wR;rw [if_pos b3]
 obtain ⟨hFM,hB⟩:=hFM
 obtain ⟨t1,t2⟩:=G.tints hFM
 refine ⟨gh',⟨hE,?_,fun j y hy=> ?_,fun j y hy=> ?_,hB,t1,fun j y hy h6=> ?_,fun y hy=> ?_,t2,fun y hy=>show xe (zh s w x).1 y≠[] from FX.ne X0 Fx G.ne y hy⟩,hFM,x,rfl,N,C,hbag,hT⟩
 ·refine (X'.state hE.S rfl).perm ?_
  show List.Perm ((s.Ws.set (w-1).toNat (zh s w x).2).flatMap xJ++(zh s w x).1.Ms.flatMap vi) _
  rw [es,eMs,←List.append_assoc]
  exact List.Perm.append_right _ uL
 ·have hy:(s.Ws.set (w-1).toNat (zh s w x).2)[j]? =some y:=hy
  by_cases hj:j=(w-1).toNat
  ·subst hj
   rw [List.getElem?_set_self hi] at hy
   injection hy with hy
   rw [←hy,ei]
   exact W'.state rfl rfl
  ·rw [List.getElem?_set_ne (fun e=>hj e.symm)] at hy
   exact (hoth j y hj hy).1.state rfl rfl
 ·have hy:(zh s w x).1.Ms[j]? =some y:=hy
  rw [eMs] at hy
  exact (hmut j y hy).1.state rfl rfl
 ·have hy:(s.Ws.set (w-1).toNat (zh s w x).2)[j]? =some y:=hy
  show y.G.Obj≤((zh s w x).1.H.Objs.length:Int)
  rw [eH]
  by_cases hj:j=(w-1).toNat
  ·subst hj
   rw [List.getElem?_set_self hi] at hy
   injection hy with hy
   rw [←hy] at h6 ⊢
   rcases zrt s w x h6 with ⟨h,e⟩ | ⟨h,e⟩
   ·rw [e];exact G.wob _ x hx h
   ·rw [e];exact zrA (by omega) (fun l hl v hv=>((G.E.H.objs l hl).2 v hv).2) _ _
  ·rw [List.getElem?_set_ne (fun e=>hj e.symm)] at hy
   exact G.wob j y hy h6
 ·have hy:y∈(zh s w x).1.Ms:=hy
  show UL ((zh s w x).1.H.Objs.length:Int) y
  rw [eMs] at hy
  rw [eH]
  exact G.buf y hy
theorem zlV (s:za) (m:Int) (x:zc):(zo s m x).1.H=s.H∨x.PC=23∨x.PC=30:=by
 refine wH (motive:=fun r=>r.1.H=s.H∨x.PC=23∨x.PC=30) s m x ?_ ?_ ?_ ?_ ?_ ?_ ?_ ?_ ?_ ?_ ?_ ?_ ?_ ?_ ?_ ?_ ?_ ?_ ?_ ?_
 all_goals first
  | exact fun _=> .inl rfl
  | exact fun c=> .inr (.inl c)
  | exact fun c=> .inr (.inr c)
  | (intro c;unfold mu3;exact .inl (by dsimp only;rw [Vl]))
  | (intro c;unfold zaE;exact .inl (by dsimp only;rw [Vl]))
  | exact .inl rfl
theorem zmh {t:zn} {n:Int} (hn:1≤n∧n≤64) (nm: ¬zP t.Marks n=true) (nb': ¬zP t.Black n=true):Uu t n=⟨t.Marks|||bit n,t.Black|||bit n⟩:=by
 have ht1:xk {t with Marks:=t.Marks|||bit n} n=1:=(uP _ _).2 ⟨(wu _ hn _).2 (.inr rfl),nb'⟩
 unfold Uu
 rw [zpr hn nm nb']
 dsimp only
 rw [if_pos rfl]
 unfold wR
 rw [if_pos ht1]
theorem Ud.fresh {B B':List Int} {t:zn} {n:Int} (hn:1≤n∧n≤64) (nm: ¬zP t.Marks n=true) (K:Ud B t) (h:List.Perm B' B):Ud B' ⟨t.Marks|||bit n,t.Black|||bit n⟩:=by
 refine ⟨fun o ho=> ?_,h.nodup_iff.2 K.nd,fun o=> ?_⟩
 ·rcases (wu _ hn o).1 ho with h | h
  ·exact (wu _ hn o).2 (.inl (K.blk o h))
  ·exact (wu _ hn o).2 (.inr h)
 ·rw [h.mem_iff,K.gr,uP,uP]
  dsimp only
  rw [wu _ hn,wu _ hn]
  constructor
  ·rintro ⟨a1,a2⟩
   refine ⟨.inl a1,fun e=>e.elim a2 (fun e=> ?_)⟩
   rw [e] at a1;exact nm a1
  ·rintro ⟨a1,a2⟩
   exact ⟨a1.resolve_right (fun e=>a2 (.inr e)),fun e=>a2 (.inl e)⟩
theorem FG.mut_tint {p:zb} (hp:zC p) {nb k:Nat} {s:za} {gh:Gh} (G:FG p nb k s gh) {m:Int} {x:zc} (hMX:MX p s gh x) (hBI:UL (s.H.Objs.length:Int) x) {l:List zc} {N C B':List Int}
  (hbag:List.Perm (B'++C) (N++WP p s gh))
  (hT:(N=[]∧C=[]∧(zo s m x).1.T=s.T)∨(N=[x.G.Obj]∧C=[]∧(x.PC=3∨x.PC=37)∧¬(s.T.Marks|||bit x.G.Obj=s.T.Marks)∧(zo s m x).1.T={s.T with Marks:=s.T.Marks|||bit x.G.Obj})∨(N=[]∧C=[x.Obj]∧x.PC=38∧(zo s m x).1.T=wR s.T x.Obj) ∨
   (N=[]∧C=[]∧x.PC=30∧zbT s.H s.P.Most=true∧(zo s m x).1.H=uK s.H∧(zo s m x).1.T=Uu s.T (wc (s.H.Objs.length+1)))) :
  zau s {(zo s m x).1 with Ms:=l}∧Ud B' (zo s m x).1.T:=by
 have hN0:=G.E.H.n
 have hM0:=hp.most
 have hn6:=hp.n
 have nm: ¬zP s.T.Marks ((s.H.Objs.length:Int)+1)=true:=fun e=>by have:=G.mrk _ e;omega
 have nb': ¬zP s.T.Black ((s.H.Objs.length:Int)+1)=true:=fun e=>nm (G.B.blk _ e)
 have hw:wc ((s.H.Objs.length:Int)+1)=(s.H.Objs.length:Int)+1:=xm (by omega) (by omega)
 rcases hT with ⟨e1,e2,t1⟩ | ⟨e1,e2,t1,t2,t3⟩ | ⟨e1,e2,t1,t2⟩ | ⟨e1,e2,t1,t2,t3,t4⟩
 ·rw [e1,e2,List.append_nil,List.nil_append] at hbag
  refine ⟨.inl ⟨t1,?_⟩,⟨?_,hbag.nodup_iff.2 G.B.nd,fun o=> ?_⟩⟩
  ·show (zo s m x).1.H.Objs.length=_
   rcases zlT s m x with h | ⟨h1,h2,_,_,h5⟩
   ·exact h.1
   ·exfalso
    rw [t1,hw,zmh (by omega) nm nb'] at h2
    have h3:=congrArg zn.Marks h2
    exact nm (by rw [h3];exact (wu _ (by omega) _).2 (.inr rfl))
  ·rw [t1];exact G.B.blk
  ·rw [t1,hbag.mem_iff];exact G.B.gr o
 ·have ho:1≤x.G.Obj∧x.G.Obj≤64:=by
   rcases t1 with h | h
   ·exact (hMX.p3 h).1.ob
   ·exact (hMX.p37 h).1.ob
  rw [e1,e2,List.append_nil] at hbag
  have eH:(zo s m x).1.H=s.H:=by
   rcases zlV s m x with h | h | h
   ·exact h
   ·omega
   ·omega
  refine ⟨.inr (.inl ⟨x.G.Obj,⟨ho.1,hBI.2.2 t1⟩,(UF ho).1 t2,t3,eH⟩),?_⟩
  rw [t3]
  exact G.B.more ho t2 hbag
 ·rw [e1,e2,List.nil_append] at hbag
  obtain ⟨b1,b2,b3,b4⟩:=G.B.less hbag
  have eH:(zo s m x).1.H=s.H:=by
   rcases zlV s m x with h | h | h
   ·exact h
   ·omega
   ·omega
  refine ⟨.inr (.inr (.inl ⟨x.Obj,b3,?_,eH⟩)),by rw [t2];exact b1⟩
  show (zo s m x).1.T=_
  rw [t2];unfold wR;rw [if_pos b3]
 ·rw [e1,e2,List.append_nil,List.nil_append] at hbag
  have hr:(s.H.Objs.length:Int)<s.P.Most:=by
   unfold zbT at t2
   simp only [Bool.and_eq_true,decide_eq_true_eq] at t2
   exact t2.1
  rw [G.E.S.P] at hr
  have hTT:(zo s m x).1.T=⟨s.T.Marks|||bit ((s.H.Objs.length:Int)+1),s.T.Black|||bit ((s.H.Objs.length:Int)+1)⟩:=by
   rw [t4,hw,zmh (by omega) nm nb']
  refine ⟨.inr (.inr (.inr ⟨t3,by omega,hTT⟩)),?_⟩
  rw [hTT]
  exact G.B.fresh (by omega) nm hbag
theorem FG.mutator {p:zb} (hp:zC p) {nb k:Nat} {s:za} {gh:Gh} (hk:k<4294960000) (G:FG p nb k s gh) {m:Int} (hm:1≤m∧m≤p.Mutators) (hd:s.Done=false): ∃gh',FG p nb (k+1) (yU s m) gh'∧zau s (yU s m) ∧
  ∃x,s.Ms[(m-1).toNat]? =some x∧∃N C,List.Perm (WP p (yU s m) gh'++C) (N++WP p s gh)∧((N=[]∧C=[]∧(zo s m x).1.T=s.T)∨(N=[x.G.Obj]∧C=[]∧(x.PC=3∨x.PC=37)∧¬(s.T.Marks|||bit x.G.Obj=s.T.Marks)∧(zo s m x).1.T={s.T with Marks:=s.T.Marks|||bit x.G.Obj})∨(N=[]∧C=[x.Obj]∧x.PC=38∧(zo s m x).1.T=wR s.T x.Obj) ∨
   (N=[]∧C=[]∧x.PC=30∧zbT s.H s.P.Most=true∧(zo s m x).1.H=uK s.H∧(zo s m x).1.T=Uu s.T (wc (s.H.Objs.length+1)))):=by
 have hE:=zuv hp G.E m
 have hml:=G.E.ml
 have hwl:=G.E.wl
 have hN0:=G.E.H.n
 have hM0:=hp.most
 have hn6:=hp.n
 have e0: ¬(s.Done=true∨m<1∨(s.Ms.length:Int)<m):=by rw [hd];rintro (e | e | e)<;>first | cases e | omega
 revert hE
 unfold yU
 rw [if_neg e0]
 have hi:(m-1).toNat<s.Ms.length:=by omega
 have hx:=List.getElem?_eq_getElem hi
 generalize s.Ms[(m-1).toNat]=x at hx
 rw [hx]
 dsimp only
 intro hE
 obtain ⟨a,b,el,es,hab,hba⟩:=zl7 hx
 have ei:(((m-1).toNat:Nat):Int)+1=m:=by omega
 have hMX:=G.M _ x hx
 have hXO:=G.E.X _ x hx
 rw [ei] at hXO
 have hBI:=G.buf x (List.mem_of_getElem? hx)
 have hfr:=zps s m x
 have eWs:(zo s m x).1.Ws=s.Ws:=by rw [hfr]
 have X0:SX p nb s gh (vi x++((a++b).flatMap vi++s.Ws.flatMap xJ)) k:=by
  refine G.X.perm ?_
  rw [←List.append_assoc]
  refine List.Perm.trans (List.Perm.append_right _ ?_) List.perm_append_comm
  conv=>rhs;rw [el]
  exact uL.symm
 obtain ⟨gh',X',M',Fx,N,C,hN,hT⟩:=zx5 hp hk X0 hXO hMX (zmy hp m) (fun o i=>G.E.H.get hp o i)
 have hoth: ∀(j:Nat) y,j≠(m-1).toNat→s.Ms[j]? =some y→MX p (zo s m x).1 gh' y∧yc (zo s m x).1 y=yc s y:=by
  intro j y hj hy
  exact MX.other hp X0 Fx (G.M j y hy) (G.E.X j y hy) (fun z hz=>List.mem_append_left _ (List.mem_flatMap.2 ⟨y,hba j y hj hy,hz⟩))
 have hwrk: ∀(j:Nat) y,s.Ws[j]? =some y→WX p (zo s m x).1 gh' ((j:Int)+1) y∧zN (zo s m x).1 y=zN s y:=by
  intro j y hy
  have hjl:=(List.getElem?_eq_some_iff.1 hy).1
  exact WX.other hp (w:=(j:Int)+1) (by omega) X0 Fx (G.W j y hy) (G.E.W j y hy) (fun z hz=>List.mem_append_right _ (List.mem_flatMap.2 ⟨y,List.mem_of_getElem? hy,hz⟩)) (fun e=>e)
 have hbag:List.Perm (WP p {(zo s m x).1 with Ms:=s.Ms.set (m-1).toNat (zo s m x).2} gh'++C) (N++WP p s gh):=by
  unfold WP
  have q2:(s.Ms.set (m-1).toNat (zo s m x).2).flatMap (yc {(zo s m x).1 with Ms:=s.Ms.set (m-1).toNat (zo s m x).2})=(a++(zo s m x).2::b).flatMap (yc (zo s m x).1):=by
   rw [es];exact vb (fun y _=>zlo rfl)
  have q3:(a++b).flatMap (yc (zo s m x).1)=(a++b).flatMap (yc s):=vb (fun y hy=>by
   obtain ⟨j,hj,hjy⟩:=hab y hy
   exact (hoth j y hj hjy).2)
  have q4:(zo s m x).1.Ws.flatMap (zN {(zo s m x).1 with Ms:=s.Ms.set (m-1).toNat (zo s m x).2})=s.Ws.flatMap (zN s):=by
   rw [eWs]
   refine vb (fun y hy=> ?_)
   obtain ⟨j,hj⟩:=List.mem_iff_getElem?.1 hy
   exact (zhE (s:=(zo s m x).1) rfl rfl).trans (hwrk j y hj).2
  show List.Perm (yy p (zo s m x).1 gh'++((zo s m x).1.Ws.flatMap (zN {(zo s m x).1 with Ms:=s.Ms.set (m-1).toNat (zo s m x).2})++(s.Ms.set (m-1).toNat (zo s m x).2).flatMap (yc {(zo s m x).1 with Ms:=s.Ms.set (m-1).toNat (zo s m x).2}))++C) _
  rw [q2,q4]
  have r1:List.Perm (yy p (zo s m x).1 gh'++(s.Ws.flatMap (zN s)++(a++(zo s m x).2::b).flatMap (yc (zo s m x).1))++C) ((s.Ws.flatMap (zN s)++(a++b).flatMap (yc s))++(yy p (zo s m x).1 gh'++yc (zo s m x).1 (zo s m x).2++C)):=by
   refine ((List.Perm.append_left _ (List.Perm.append_left _ uL)).append_right C).trans ?_
   rw [q3]
   generalize (a++b).flatMap (yc s)=u
   generalize s.Ws.flatMap (zN s)=v
   generalize yy p (zo s m x).1 gh'=y
   generalize yc (zo s m x).1 (zo s m x).2=z
   refine ((List.Perm.append_left y (List.perm_append_comm_assoc v z u)).append_right C).trans ?_
   generalize v++u=q
   rw [List.append_assoc,List.append_assoc,List.append_assoc]
   refine (List.Perm.append_left _ (List.perm_append_comm_assoc _ _ _)).trans ?_
   exact (List.perm_append_comm_assoc _ _ _)
  have r2:List.Perm (N++(yy p s gh++(s.Ws.flatMap (zN s)++s.Ms.flatMap (yc s)))) ((s.Ws.flatMap (zN s)++(a++b).flatMap (yc s))++(N++(yy p s gh++yc s x))):=by
   conv=>lhs;rw [el]
   refine (List.Perm.append_left _ (List.Perm.append_left _ (List.Perm.append_left _ uL))).trans ?_
   generalize (a++b).flatMap (yc s)=u
   generalize s.Ws.flatMap (zN s)=v
   generalize yy p s gh=y
   generalize yc s x=z
   refine (List.Perm.append_left N (List.Perm.append_left y (List.perm_append_comm_assoc v z u))).trans ?_
   generalize v++u=q
   refine (List.Perm.append_left _ ?_).trans (List.perm_append_comm_assoc _ _ _)
   rw [←List.append_assoc]
   exact List.perm_append_comm
  exact r1.trans ((List.Perm.append_left _ hN).trans r2.symm)
 have hlen:(zo s m x).1.H.Objs.length=s.H.Objs.length∨(zo s m x).1.H=uK s.H:=by
  rcases zlT s m x with h | h
  ·exact .inl h.1
  ·exact .inr h.1
 have hFM:=G.mut_tint hp (m:=m) (l:=s.Ms.set (m-1).toNat (zo s m x).2) hMX hBI hbag hT
 obtain ⟨hFM,hB⟩:=hFM
 obtain ⟨t1,t2⟩:=G.tints hFM
 have hN1:(s.H.Objs.length:Int)≤((zo s m x).1.H.Objs.length:Int):=by
  rcases hlen with h | h
  ·omega
  ·rw [h,zgP];omega
 have B':=zpe (s:=s) hXO (n:=(s.H.Objs.length:Int)) (by omega) (fun l hl v hv=>((G.E.H.objs l hl).2 v hv).2) hBI
 refine ⟨gh',⟨hE,?_,fun j y hy=> ?_,fun j y hy=> ?_,hB,t1,fun j y hy h6=> ?_,fun y hy=> ?_,t2,fun y hy=>show xe (zo s m x).1 y≠[] from FX.ne X0 Fx G.ne y hy⟩,hFM,x,rfl,N,C,hbag,hT⟩
 ·refine (X'.state hE.S rfl).perm ?_
  show List.Perm ((zo s m x).1.Ws.flatMap xJ++(s.Ms.set (m-1).toNat (zo s m x).2).flatMap vi) _
  rw [es,eWs,←List.append_assoc]
  exact List.perm_append_comm.trans (List.Perm.append_right _ uL)
 ·have hy:(zo s m x).1.Ws[j]? =some y:=hy
  rw [eWs] at hy
  exact (hwrk j y hy).1.state rfl rfl
 ·have hy:(s.Ms.set (m-1).toNat (zo s m x).2)[j]? =some y:=hy
  by_cases hj:j=(m-1).toNat
  ·subst hj
   rw [List.getElem?_set_self hi] at hy
   injection hy with hy
   rw [←hy]
   exact M'.state rfl rfl
  ·rw [List.getElem?_set_ne (fun e=>hj e.symm)] at hy
   exact (hoth j y hj hy).1.state rfl rfl
 ·have hy:(zo s m x).1.Ws[j]? =some y:=hy
  rw [eWs] at hy
  have:=G.wob j y hy h6
  show y.G.Obj≤((zo s m x).1.H.Objs.length:Int)
  omega
 ·have up: ∀ {z:zc},UL (s.H.Objs.length:Int) z→UL ((zo s m x).1.H.Objs.length:Int) z:=fun ⟨a,b,c⟩=>⟨fun v hv=>by have:=a v hv;omega,by omega,fun e=>by have:=c e;omega⟩
  rcases List.mem_or_eq_of_mem_set (show y∈s.Ms.set (m-1).toNat (zo s m x).2 from hy) with h | rfl
  ·exact up (G.buf y h)
  ·exact up B'
theorem zxB {p:zb} (h:zC p):FG p (zQ p+1) 0 (wi p) (gh0 p):=by
 have G:=zxE h
 have hn:=h.n
 have hms: ∀x∈(wi p).Ms,∃r,x=ut r:=fun x hx=>by
  obtain ⟨r,_,e⟩:=List.mem_map.1 (show x∈p.Regs.map ut from hx)
  exact ⟨r,e.symm⟩
 have own:(wi p).Ms.flatMap vi=[]:=zct (fun x hx=>by
  obtain ⟨r,rfl⟩:=hms x hx
  exact vq ⟨by show (0:Int)≠3;decide,by show (0:Int)≠33;decide,by show (0:Int)≠34;decide,by show (0:Int)≠37;decide⟩)
 have hold:(wi p).Ms.flatMap (yc (wi p))=[]:=zct (fun x hx=>by
  obtain ⟨r,rfl⟩:=hms x hx
  unfold yc
  rw [uD ⟨by show (0:Int)≠3;decide,by show (0:Int)≠33;decide,by show (0:Int)≠36;decide,by show (0:Int)≠37;decide,by show (0:Int)≠38;decide⟩];rfl)
 refine ⟨G.E,by rw [own,List.append_nil];exact G.X,G.W,fun i x hx=> ?_,?_,fun o ho=> ?_,fun i x hx h6=> ?_,fun x hx=> ?_,fun o h1 h2=> ?_,zxm h⟩
 ·obtain ⟨r,rfl⟩:=hms x (List.mem_of_getElem? hx)
  exact MX.plain ⟨by show (0:Int)≠3;decide,by show (0:Int)≠32;decide,by show (0:Int)≠34;decide,by show (0:Int)≠37;decide⟩ (fun _=>rfl) (fun v hv=>by cases hv)
   ⟨fun e=>absurd e (by show ¬(0:Int)=21;decide),fun e=>absurd e (by show ¬((0:Int)=22∨(((0:Int)=1∨(0:Int)=3)∧(0:Int)=22));decide)⟩
 ·have e:WP p (wi p) (gh0 p)=zjY p (wi p) (gh0 p):=by unfold WP zjY;rw [hold,List.append_nil]
  rw [e];exact G.B
 ·have ho:zP (Yh p) o=true:=ho
  show o≤(p.H.Objs.length:Int)
  refine Int.not_lt.1 fun hlt=> ?_
  obtain ⟨a,b,_⟩:=(v8 _ _).1 ho
  have b2: ¬zP (WO (p.H.Objs.length:Int)) o=true:=fun e=>by
   have:=(zsO (n:=p.H.Objs.length) (by omega) o).1 e
   omega
  have b3:=(zcD _ _ o).2 ⟨ho,(zvH _ (by omega)).2 b2⟩
  rw [zhp h] at b3
  exact zdn o b3
 ·obtain ⟨j,_,e⟩:=List.mem_map.1 (show x∈(List.range p.Workers.toNat).map (uW p) from List.mem_of_getElem? hx)
  rw [←e] at h6
  exact absurd h6 (by show ¬(0:Int)=6;decide)
 ·obtain ⟨r,rfl⟩:=hms x hx
  exact ⟨fun v hv=>(by cases hv),(by show (0:Int)≤(p.H.Objs.length:Int);omega),fun e=>absurd e (by show ¬((0:Int)=3∨(0:Int)=37);decide)⟩
 ·have:o≤(p.H.Objs.length:Int):=h2
  omega
theorem FG.grey {p:zb} {nb k:Nat} {s:za} {gh:Gh} (G:FG p nb k s gh) {o:Int} (h:o∈WP p s gh):xk s.T o=1:=(G.B.gr o).1 h
theorem zp7 {p:zb} {s:za} {gh:Gh} {i:Nat} {x:ze} (hx:s.Ws[i]? =some x) {o:Int} (h:o∈zN s x):o∈WP p s gh :=
 List.mem_append_right _ (List.mem_append_left _ (List.mem_flatMap.2 ⟨x,List.mem_of_getElem? hx,h⟩))
theorem zuH {p:zb} {s:za} {gh:Gh} {i:Nat} {x:zc} (hx:s.Ms[i]? =some x) {o:Int} (h:o∈yc s x):o∈WP p s gh :=
 List.mem_append_right _ (List.mem_append_right _ (List.mem_flatMap.2 ⟨x,List.mem_of_getElem? hx,h⟩))
end
end Go.Pe.G
namespace Go.Pe.G
open Go.Pe
noncomputable section
theorem zlS: ∀(n:Nat) (l:List Int),l.Nodup→(∀o∈l,1≤o∧o≤(n:Int))→l.length≤n
 | 0,[],_,_=>Nat.le_refl _
 | 0,a::l,_,h=>by have:=h a (by simp);omega
 | n+1,l,hd,h=>by
  have ih:=zlS n (l.erase ((n+1:Nat):Int)) (hd.erase _) (fun o ho=>by
   have:=(hd.mem_erase_iff).1 ho
   have h2:=h o this.2
   have h3:=this.1
   omega)
  rw [List.length_erase] at ih
  split at ih<;>omega
theorem zsv {α β:Type} {f:α→List β}: ∀(l:List α),(∀x∈l,f x≠[])→l.length≤(l.flatMap f).length
 | [],_=>Nat.zero_le _
 | a::l,h=>by
  rw [List.flatMap_cons,List.length_append,List.length_cons]
  have h1:=List.length_pos_iff.2 (h a (by simp))
  have h2:=zsv l (fun x hx=>h x (List.mem_cons_of_mem _ hx))
  omega
def Zg (m:List (BitVec 64)) (c:zx):Nat:=if c.PC=0 then 3 else if ld m c.Head=c.H then (3-c.PC).toNat else (6-c.PC).toNat
theorem zvI {m:List (BitVec 64)} {c:zx} (h:0≤c.PC∧c.PC≤2):1≤Zg m c:=by
 unfold Zg
 split
 ·omega
 split<;>omega
theorem zeC {m:List (BitVec 64)} {c:zx} (ho:c.Out=0) (hpc:0≤c.PC∧c.PC≤2) (hk:c.Kind=1∨c.Kind=2) (hh:0≤c.Head∧c.Head<m.length) (hn:c.Kind=1→wc (c.Next+c.X)≠c.Head) :
  (zj m c).2.Out≠0∨Zg (zj m c).1 (zj m c).2<Zg m c:=by
 unfold zj
 rw [if_neg (by omega)]
 by_cases c0:c.PC=0
 ·rw [if_pos c0]
  split
  ·exact .inl (by show (2:Int)≠0;decide)
  ·right
   unfold Zg
   dsimp only
   rw [if_neg (by decide),if_pos rfl,if_pos c0]
   decide
 rw [if_neg c0]
 by_cases c1:c.PC=1
 ·rw [if_pos c1]
  right
  split
  ·unfold Zg
   dsimp only
   rw [if_neg (by decide),if_neg c0,c1]
   split<;>decide
  ·rename_i h2
   unfold Zg
   dsimp only
   rw [if_neg (by decide),if_neg c0,c1,yg (hn (by omega))]
   split<;>decide
 rw [if_neg c1]
 have c2:c.PC=2:=by omega
 dsimp only
 by_cases e:ld m c.Head=c.H
 ·have hsw:(sw m c.Head c.H (yX ((c.H >>> 32)+1#64) (if c.Kind=2 then c.Y else c.X))).2=true:=by unfold sw;rw [if_pos ⟨hh.1,hh.2,e⟩]
  rw [hsw,if_pos rfl]
  left
  split<;>(show (1:Int)≠0;decide)
 ·have hsw:sw m c.Head c.H (yX ((c.H >>> 32)+1#64) (if c.Kind=2 then c.Y else c.X))=(m,false):=by unfold sw;rw [if_neg (fun x=>e x.2.2)]
  rw [hsw]
  right
  rw [if_neg (show ¬((m,false):List (BitVec 64)×Bool).2=true from Bool.false_ne_true)]
  unfold Zg
  dsimp only
  rw [if_pos rfl,if_neg c0,if_neg e,c2]
  decide
def YX (m:List (BitVec 64)) (g:zA):Nat :=
 if g.PC=7 then Zg m g.C else if g.PC=6 then 4 else if g.PC=5 then 4+Zg m g.C else if g.PC=4 then 8 else if g.PC=3 then 7+(4-g.D.PC).toNat else if g.PC=2 then 1 else if g.PC=1 then 12 else 13
theorem zhT (m:List (BitVec 64)) {c:zx} (h:0≤c.PC):Zg m c≤5:=by
 unfold Zg
 split
 ·omega
 split<;>omega
theorem zlZ (p:zb) (m:List (BitVec 64)) (g:zA):YX m (zfB p g)=7:=by
 unfold YX zfB Zg
 dsimp only
 simp
theorem zs8 {m:List (BitVec 64)} {d:zg} (ho:d.Out=0) (hpc:0≤d.PC∧d.PC≤3):(yL m d).2.PC=d.PC+1:=by
 unfold yL
 rw [if_neg (by omega)]
 split
 ·show (1:Int)=_;omega
 split
 ·split<;>(show (2:Int)=_;omega)
 split
 ·show (3:Int)=_;omega
 ·show (4:Int)=_;omega
theorem zux {p:zb} (hp:zC p) {nb k:Nat} {s:za} {g:zA} {gh:Gh} {own:List Int} (X:SX p nb s gh own k) (G:GX p s gh g) (M:MOk p nb g) (h0:g.Out=0) (hE:g.PC=5→(zj s.M g.C).2.Out≠2) :
  (zp s g).2.Out≠0∨YX (zp s g).1.M (zp s g).2<YX s.M g:=by
 have hF:=vT hp
 have hEm:=xx hp
 have hlen:=X.L.len
 have hpc:=G.pc
 have hmd:=G.md
 have hnb:=X.S.nbk
 unfold zp
 rw [if_neg (by omega)]
 by_cases p7:g.PC=7
 ·rw [if_pos p7]
  obtain ⟨c1,c2,c3,c4,c5⟩:=G.c7 p7 h0
  obtain ⟨m1,m2,m3,m4,m5⟩:=M.c7 p7
  have r:=zeC (m:=s.M) c1 c2 (.inl m1) (by omega) (fun _=>by rw [m3,xm (by omega) (by omega)];omega)
  unfold zaG
  dsimp only
  split
  ·exact .inl (by show (1:Int)≠0;decide)
  ·rename_i e
   have hout:=Wa s.M c1 c2 (.inl m1)
   right
   unfold YX
   dsimp only
   rw [if_pos p7,if_pos p7]
   rcases r with r | r
   ·omega
   ·exact r
 rw [if_neg p7]
 by_cases p6:g.PC=6
 ·rw [if_pos p6]
  right
  unfold znK YX Zg
  dsimp only
  rw [if_pos rfl,if_pos rfl,if_neg p7,if_pos p6]
  decide
 rw [if_neg p6]
 by_cases p5:g.PC=5
 ·rw [if_pos p5]
  obtain ⟨c1,c2,c3⟩:=G.c5 p5 h0
  obtain ⟨m1,m2,m3,m4,m5⟩:=M.c5 p5
  have r:=zeC (m:=s.M) c1 c2 (.inr m1) (by omega) (fun e=>by omega)
  have hpos:=zvI (m:=s.M) c2
  have hout:=Wa s.M c1 c2 (.inr m1)
  have he:=hE p5
  unfold zgl
  dsimp only
  right
  by_cases e1:(zj s.M g.C).2.Out=1
  ·rw [if_pos e1]
   unfold YX
   dsimp only
   rw [if_neg (by decide),if_pos rfl,if_neg p7,if_neg p6,if_pos p5]
   omega
  ·rw [if_neg e1,if_neg he]
   unfold YX
   dsimp only
   rw [if_neg p7,if_neg p6,if_pos p5,if_neg p7,if_neg p6,if_pos p5]
   rcases r with r | r
   ·omega
   ·omega
 rw [if_neg p5]
 by_cases p4:g.PC=4
 ·rw [if_pos p4]
  right
  dsimp only
  rw [zlZ]
  unfold YX
  rw [if_neg p7,if_neg p6,if_neg p5,if_pos p4]
  decide
 rw [if_neg p4]
 by_cases p3:g.PC=3
 ·rw [if_pos p3]
  obtain ⟨c1,c2,c3⟩:=G.d3 p3 h0
  have hd:=c3.pc
  have hr:=zs8 (m:=s.M) c3.out hd
  have e0:YX s.M g=7+(4-g.D.PC).toNat:=by unfold YX;rw [if_neg p7,if_neg p6,if_neg p5,if_neg p4,if_pos p3]
  rw [e0]
  unfold zgj
  dsimp only
  split
  ·exact .inl (by show (1:Int)≠0;decide)
  right
  split
  ·rw [zlZ];omega
  ·unfold YX
   dsimp only
   rw [if_neg p7,if_neg p6,if_neg p5,if_neg p4,if_pos p3,hr]
   omega
 rw [if_neg p3]
 by_cases p2:g.PC=2
 ·rw [if_pos p2]
  exact .inl (by show (1:Int)≠0;decide)
 rw [if_neg p2]
 right
 by_cases p1:g.PC=1
 ·rw [if_pos p1]
  have e0:YX s.M g=12:=by unfold YX;rw [if_neg p7,if_neg p6,if_neg p5,if_neg p4,if_neg p3,if_neg p2,if_pos p1]
  rw [e0]
  unfold zgv
  dsimp only
  split
  ·show YX s.M {g with PC:=2}<12
   unfold YX
   dsimp only
   simp
  split
  ·show 7+(4-(0:Int)).toNat<12
   decide
  split
  ·show 8<12
   decide
  ·rw [zlZ];decide
 ·rw [if_neg p1]
  have e0:YX s.M g=13:=by unfold YX;rw [if_neg p7,if_neg p6,if_neg p5,if_neg p4,if_neg p3,if_neg p2,if_neg p1]
  rw [e0]
  show 12<13
  decide
end
end Go.Pe.G
namespace Go.Pe.G
open Go.Pe
noncomputable section
theorem zii {α β:Type} {f:α→List β}: ∀(l:List α),(∀x∈l,(f x).length≤1)→(l.flatMap f).length≤l.length
 | [],_=>Nat.le_refl _
 | a::l,h=>by
  rw [List.flatMap_cons,List.length_append,List.length_cons]
  have h1:=h a (List.mem_cons_self ..)
  have h2:=zii l (fun x hx=>h x (List.mem_cons_of_mem _ hx))
  omega
theorem zlw {α β:Type} {f:α→List β} {y:α} (hy0:f y=[]): ∀(l:List α),y∈l→(∀x∈l,(f x).length≤1)→(l.flatMap f).length+1≤l.length
 | [],hy,_=>by cases hy
 | a::l,hy,h=>by
  rw [List.flatMap_cons,List.length_append,List.length_cons]
  have h1:=h a (List.mem_cons_self ..)
  have hl:=fun x hx=>h x (List.mem_cons_of_mem a hx)
  rcases List.mem_cons.1 hy with rfl | hy
  ·have h2:=zii l hl
   rw [hy0];show 0+_+1≤_;omega
  ·have h2:=zlw hy0 l hy hl
   omega
theorem zsk (g:zA):(xK g).length≤1:=by unfold xK;split<;>simp
theorem zp9 (x:zc):(vi x).length≤1:=by
 unfold vi
 split
 ·simp
 split
 ·exact zsk _
 ·simp
theorem zre (x:ze):(xJ x).length≤1:=by
 unfold xJ
 split
 ·simp
 split
 ·exact zsk _
 ·simp
theorem FG.empty {p:zb} (hp:zC p) {k:Nat} {s:za} {gh:Gh} (G:FG p (zQ p+1) k s gh) (h:(∃x∈s.Ws,xJ x=[])∨(∃x∈s.Ms,vi x=[])):gh.E≠[]:=by
 have hb:=Ul hp
 have hN:=G.E.H.n
 have hwl:=G.E.wl
 have hml:=G.E.ml
 have hall:=G.X.L.all.length_eq
 have hn:(zgO (zQ p+1)).length=zQ p:=by unfold zgO;simp
 rw [hn] at hall
 simp only [List.length_append] at hall
 have hF:=zsv gh.F G.ne
 have hbag:=zlS s.H.Objs.length _ G.B.nd (fun o ho=>⟨(UA ((G.B.gr o).1 ho)).1,G.mrk o ((uP _ _).1 ((G.B.gr o).1 ho)).1⟩)
 unfold WP yy at hbag
 simp only [List.length_append] at hbag
 have w1:=zii s.Ws (fun x _=>zre x)
 have m1:=zii s.Ms (fun x _=>zp9 x)
 intro e
 rw [e] at hall
 simp only [List.length_nil] at hall
 rcases h with ⟨x,hx,e⟩ | ⟨x,hx,e⟩
 ·have:=zlw e s.Ws hx (fun x _=>zre x)
  omega
 ·have:=zlw e s.Ms hx (fun x _=>zp9 x)
  omega
end
end Go.Pe.G
namespace Go.Pe.G
open Go.Pe
noncomputable section
inductive Reach (h:zG) (R:BitVec 64):Int→Prop
 | root (o:Int) (h1:zP R o=true) (h2:1≤o∧o≤(h.Objs.length:Int)):Reach h R o
 | step (o v:Int) (h1:Reach h R o) (h2:v∈yw h o) (h3:1≤v∧v≤(h.Objs.length:Int)):Reach h R v
theorem Reach.in {h:zG} {R:BitVec 64} {o:Int} (r:Reach h R o):1≤o∧o≤(h.Objs.length:Int):=by
 cases r with
 | root _ _ h2=>exact h2
 | step _ _ _ _ h3=>exact h3
def mt (met:List Int) (o:Int):Int:=met.getD (o-1).toNat 0
def zgD (met:List Int):Nat:=met.countP (fun x=>decide (x=0))
theorem zxh {met:List Int} {o:Int} (h:1≤o∧o≤(met.length:Int)):met[(o-1).toNat]? =some (mt met o):=by
 have e:=List.getElem?_eq_getElem (show (o-1).toNat<met.length by omega)
 unfold mt
 rw [List.getD_eq_getElem?_getD,e];rfl
theorem zjD {met:List Int} {o q x:Int} (h:1≤o∧o≤(met.length:Int)) (hq:1≤q):mt (met.set (o-1).toNat x) q=if q=o then x else mt met q:=by
 unfold mt
 rw [List.getD_eq_getElem?_getD,List.getD_eq_getElem?_getD,List.getElem?_set]
 by_cases e:q=o
 ·subst e;rw [if_pos rfl,if_pos rfl,if_pos (by omega)];rfl
 ·rw [if_neg (by omega),if_neg e]
theorem zvc {met:List Int} {o x:Int} (h:1≤o∧o≤(met.length:Int)) (h0:mt met o=0) (hx:x≠0):zgD (met.set (o-1).toNat x)+1=zgD met:=by
 have hl:(o-1).toNat<met.length:=by omega
 have e:met[(o-1).toNat]'hl=0:=by
  have:=zxh h
  rw [h0,List.getElem?_eq_getElem hl] at this
  exact Option.some.inj this
 have hm:(0:Int)∈met:=by rw [←e];exact List.getElem_mem hl
 have hp:0<zgD met:=List.countP_pos_iff.2 ⟨0,hm,by simp⟩
 unfold zgD at hp ⊢
 rw [List.countP_set hl,e]
 simp [hx]
 omega
structure RI (h:zG) (R:BitVec 64) (met wait:List Int):Prop where
 len:met.length=64
 val: ∀o,1≤o→0≤mt met o∧mt met o≤100-(zgD met:Int)
 rc: ∀o,1≤o→0<mt met o→Reach h R o
 rt: ∀o,zP R o=true→1≤o∧o≤(h.Objs.length:Int)→0<mt met o
 wt: ∀o∈wait,(1≤o∧o≤(h.Objs.length:Int))∧0<mt met o
 cl: ∀o,1≤o→0<mt met o→o∉wait→∀v∈yw h o,1≤v∧v≤(h.Objs.length:Int)→0<mt met v
 zl:zgD met≤64
theorem RI.add {h:zG} {R:BitVec 64} {met wait:List Int} {o v:Int} (hn:h.Objs.length≤9) (I:RI h R met wait) (ho:o∈wait) (hv:v∈yw h o) (hr:1≤v∧v≤(h.Objs.length:Int)) (h0:mt met v=0) :
  RI h R (met.set (v-1).toNat (mt met o+1)) (wait++[v])∧zgD (met.set (v-1).toNat (mt met o+1))+1=zgD met:=by
 obtain ⟨ho1,ho2⟩:=I.wt o ho
 have hlen:=I.len
 have hvl:1≤v∧v≤(met.length:Int):=by omega
 have hz:=zvc (x:=mt met o+1) hvl h0 (by omega)
 have hval:=I.val o ho1.1
 have hzl:=I.zl
 have key: ∀q,1≤q→0<mt met q→0<mt (met.set (v-1).toNat (mt met o+1)) q:=fun q hq hp=>by
  rw [zjD hvl hq];split<;>omega
 refine ⟨⟨by rw [List.length_set];exact hlen,fun q hq=> ?_,fun q hq hp=> ?_,fun q a b=>key q b.1 (I.rt q a b),fun q hq=> ?_,fun q hq hp hw u hu hur=> ?_,by omega⟩,hz⟩
 ·have:=I.val q hq
  rw [zjD hvl hq];split<;>omega
 ·rw [zjD hvl hq] at hp
  split at hp
  ·rename_i e;subst e;exact .step o q (I.rc o ho1.1 ho2) hv hr
  ·exact I.rc q hq hp
 ·rcases List.mem_append.1 hq with hq | hq
  ·exact ⟨(I.wt q hq).1,key q (I.wt q hq).1.1 (I.wt q hq).2⟩
  ·simp at hq;subst hq
   refine ⟨hr,?_⟩
   rw [zjD hvl hr.1,if_pos rfl];omega
 ·have hw1:q∉wait:=fun e=>hw (List.mem_append_left _ e)
  have hw2:q≠v:=fun e=>hw (by rw [e];simp)
  rw [zjD hvl hq,if_neg hw2] at hp
  exact key u hur.1 (I.cl q hq hp hw1 u hu hur)
end
end Go.Pe.G
namespace Go.Pe.G
open Go.Pe
noncomputable section
end
end Go.Pe.G
namespace Go.Pe.G
open Go.Pe
noncomputable section
def zfk (x:ze) (u j:Int):Prop:=(x.PC=5∨x.PC=6∨x.PC=8)→x.Obj=u→x.Slot≤j
def zl3 (x:zc) (u j:Int):Prop:=(x.PC=36∨x.PC=37∨x.PC=38)→x.Obj=u→x.Slot≤j
def US (s:za) (u j:Int):Prop:=(∀(i:Nat) x,s.Ws[i]? =some x→zfk x u j)∧(∀(i:Nat) x,s.Ms[i]? =some x→zl3 x u j)
def ztF (g:zA) (o:Int):Prop:=g.Out=0∧(g.PC=0∨g.PC=1)∧g.Obj=o
def zgo (x:ze) (o:Int):Prop:=x.PC=6∧ztF x.G o
def ziU (x:zc) (o:Int):Prop:=o∈x.Buf∨((x.PC=22∨((x.PC=1∨x.PC=3)∧x.Ret=22))∧x.Old=o)∨((x.PC=3∨x.PC=37)∧ztF x.G o)
def zoD (s:za) (o:Int):Prop:=(∃(i:Nat) (x:ze),s.Ws[i]? =some x∧zgo x o)∨(∃(i:Nat) (x:zc),s.Ms[i]? =some x∧ziU x o)
inductive zj0 (s:za) (W:Int→Int→Prop):Int→Prop
 | pend (o:Int) (h:zoD s o):zj0 s W o
 | white (u j o:Int) (hW: ¬W u j) (hj:yZ s.H u j=true) (he:zM s.H u j=o) (hu: ¬zP s.T.Marks u=true) (hp:zj0 s W u):zj0 s W o
 | grey (u j o:Int) (hW: ¬W u j) (hj:yZ s.H u j=true) (he:zM s.H u j=o) (hg:xk s.T u=1) (hs:US s u j):zj0 s W o
structure zpY (s s':za) (W W':Int→Int→Prop):Prop where
 mono: ∀o,zP s.T.Marks o=true→zP s'.T.Marks o=true
 hp: ∀o,zoD s o→zP s'.T.Marks o=true∨zoD s' o
 he: ∀u j,¬W u j→yZ s.H u j=true→(¬W' u j∧yZ s'.H u j=true∧zM s'.H u j=zM s.H u j)∨(zM s.H u j=0∨zP s'.T.Marks (zM s.H u j)=true∨zoD s' (zM s.H u j))
 hg: ∀u j,¬W u j→yZ s.H u j=true→xk s.T u=1→US s u j→(xk s'.T u=1∧US s' u j)∨(zM s.H u j=0∨zP s'.T.Marks (zM s.H u j)=true∨zoD s' (zM s.H u j))
 hn: ∀u j,¬W u j→yZ s.H u j=true→¬zP s.T.Marks u=true→zP s'.T.Marks u=true→xk s'.T u=1∧US s' u j
theorem Yt {h:zG} {u j:Int} (e:yZ h u j=true):(1≤u∧u≤(h.Objs.length:Int))∧0≤j∧j<((yw h u).length:Int):=by
 unfold yZ at e
 simp only [Bool.and_eq_true,decide_eq_true_eq] at e
 exact ⟨⟨e.1.1.1,e.1.1.2⟩,e.1.2,e.2⟩
theorem zpY.prot {s s':za} {W W':Int→Int→Prop} (P:zpY s s' W W') {o:Int} (h:zj0 s W o):o≠0→zP s'.T.Marks o=true∨zj0 s' W' o:=by
 have cov: ∀v:Int,v≠0→(v=0∨zP s'.T.Marks v=true∨zoD s' v)→zP s'.T.Marks v=true∨zj0 s' W' v:=by
  rintro v h0 (e | e | e)
  ·exact absurd e h0
  ·exact .inl e
  ·exact .inr (.pend v e)
 induction h with
 | pend o h=>exact fun _=>(P.hp o h).imp id (fun h=> .pend o h)
 | white u j o hW hj he hu hp ih =>
  intro h0
  subst he
  have hu0:u≠0:=by have:=Yt hj;omega
  rcases P.he u j hW hj with ⟨a,b,c⟩ | c
  ·by_cases hm:zP s'.T.Marks u=true
   ·obtain ⟨d,e⟩:=P.hn u j hW hj hu hm
    exact .inr (.grey u j _ a b c d e)
   ·rcases ih hu0 with h | h
    ·exact absurd h hm
    ·exact .inr (.white u j _ a b c hm h)
  ·exact cov _ h0 c
 | grey u j o hW hj he hg hs =>
  intro h0
  subst he
  rcases P.he u j hW hj with ⟨a,b,c⟩ | c
  ·rcases P.hg u j hW hj hg hs with ⟨d,e⟩ | c2
   ·exact .inr (.grey u j _ a b c d e)
   ·exact cov _ h0 c2
  ·exact cov _ h0 c
def zep (n:Int) (x:ze):Prop:=(x.PC=5→0≤x.Slot∧x.Slot<n)∧(x.PC=6→1≤x.Slot∧x.Slot≤n)∧(x.PC=8→x.Slot=n)
def zno (n:Int) (x:zc):Prop:=(x.PC=36→0≤x.Slot∧x.Slot<n)∧(x.PC=37→1≤x.Slot∧x.Slot≤n)∧(x.PC=38→x.Slot=n)
def zki (p:zb) (s:za) (W:Int→Int→Prop) (m:Int) (x:zc):Prop :=
 ¬W (Zo x (opM p m x).A) (opM p m x).S→((x.PC=21∨x.PC=22∨((x.PC=1∨x.PC=3)∧x.Ret=22))→x.Old=zM s.H (Zo x (opM p m x).A) (opM p m x).S) ∧
  (x.PC=23→zM s.H (Zo x (opM p m x).A) (opM p m x).S=0∨zP s.T.Marks (zM s.H (Zo x (opM p m x).A) (opM p m x).S)=true∨zM s.H (Zo x (opM p m x).A) (opM p m x).S∈x.Buf)
structure PI (p:zb) (s:za) (W:Int→Int→Prop):Prop where
 lv: ∀o,Reach p.H (Yh p) o→zP s.T.Marks o=true∨zj0 s W o
 sw: ∀(i:Nat) x,s.Ws[i]? =some x→zep p.H.Slots x
 sx: ∀(i:Nat) x,s.Ms[i]? =some x→zno p.H.Slots x
 cv: ∀(i:Nat) x,s.Ms[i]? =some x→zki p s W ((i:Int)+1) x
theorem zlv {s:za} {g:zA} {o:Int} (hmd:1≤g.Mode∧g.Mode≤3) (ho:1≤o∧o≤64) (hb:zP s.T.Black o=true→zP s.T.Marks o=true) (a:ztF g o) :
  ztF (zp s g).2 o∨zP (zp s g).1.T.Marks o=true:=by
 obtain ⟨h1,h2,h3⟩:=a
 unfold zp
 rw [if_neg (by omega),if_neg (by omega),if_neg (by omega),if_neg (by omega),if_neg (by omega),if_neg (by omega),if_neg (by omega)]
 split
 ·right
  show zP (uw s.T g.Obj).1.Marks o=true
  rw [h3]
  unfold uw
  split
  ·rename_i e
   exact Decidable.byContradiction fun hc=>((UF ho).2 hc) e
  split
  ·exact (wu _ ho o).2 (.inr rfl)
  ·rename_i e
   exact hb (by unfold zP;simpa using e)
 ·left
  exact ⟨h1,.inr rfl,h3⟩
end
end Go.Pe.G
namespace Go.Pe.G
open Go.Pe
noncomputable section
theorem zwy {h:zG} {a i v u j:Int} (hne: ¬(u=a∧j=i)) (hi:yZ h a i=true→0≤i):yZ (Ye h a i v) u j=yZ h u j∧zM (Ye h a i v) u j=zM h u j:=by
 have hl:=zaW h a i v
 by_cases hc:yZ h a i=true∧0≤v∧v≤(h.Objs.length:Int)
 ·have hs:=Yt hc.1
  have e0:Ye h a i v={h with Objs:=h.Objs.set (a-1).toNat ((yw h a).set i.toNat v)}:=by unfold Ye;rw [if_pos hc]
  have es:1≤u→yw (Ye h a i v) u=if u=a then (yw h a).set i.toNat v else yw h u:=fun hu=>by
   rw [e0]
   unfold yw
   rw [zqn (by omega)]
   by_cases e:u=a
   ·rw [if_pos (by omega),if_pos e]
   ·rw [if_neg (by omega),if_neg e]
  have eh:yZ (Ye h a i v) u j=yZ h u j:=by
   unfold yZ
   rw [hl]
   by_cases hu:1≤u
   ·rw [es hu]
    by_cases e:u=a
    ·rw [if_pos e,List.length_set,e]
    ·rw [if_neg e]
   ·simp [hu]
  refine ⟨eh,?_⟩
  unfold zM
  rw [eh]
  split
  ·rename_i hj
   have hp:=Yt hj
   rw [es hp.1.1]
   by_cases e:u=a
   ·rw [if_pos e,zqn (by omega),if_neg (by
     intro e2
     exact hne ⟨e,by omega⟩),e]
   ·rw [if_neg e]
  ·rfl
 ·have e0:Ye h a i v=h:=by unfold Ye;rw [if_neg hc]
  rw [e0];exact ⟨rfl,rfl⟩
theorem ztT (h:zG) (u j:Int):(yZ h u j=true→yZ (uK h) u j=true)∧zM (uK h) u j=zM h u j:=by
 have hl:=zgP h
 have e1:1≤u→u≤(h.Objs.length:Int)→yw (uK h) u=yw h u:=fun h1 h2=>by
  unfold yw uK
  rw [List.getD_eq_getElem?_getD,List.getD_eq_getElem?_getD,List.getElem?_append_left (by omega)]
 have e2:u=(h.Objs.length:Int)+1→yw (uK h) u=List.replicate h.Slots.toNat 0:=fun h1=>by
  unfold yw uK
  rw [List.getD_eq_getElem?_getD,List.getElem?_append_right (by omega),show (u-1).toNat-h.Objs.length=0 by omega]
  rfl
 have e3:yZ h u j=true→yZ (uK h) u j=true:=fun e=>by
  have hs:=Yt e
  unfold yZ
  rw [e1 hs.1.1 hs.1.2,hl]
  simp;omega
 refine ⟨e3,?_⟩
 by_cases c:yZ h u j=true
 ·have hs:=Yt c
  unfold zM
  rw [if_pos c,if_pos (e3 c),e1 hs.1.1 hs.1.2]
 ·unfold zM
  rw [if_neg c]
  split
  ·rename_i d
   have hs:=Yt d
   by_cases hu:u≤(h.Objs.length:Int)
   ·refine absurd ?_ c
    rw [e1 hs.1.1 hu] at hs
    unfold yZ;simp;omega
   ·rw [e2 (by omega),List.getD_eq_getElem?_getD]
    cases hx:(List.replicate h.Slots.toNat (0:Int))[j.toNat]? with
    | none=>rfl
    | some v=>exact List.eq_of_mem_replicate (List.mem_of_getElem? hx)
  ·rfl
theorem zup (s:za) (m:Int) (x:zc):((zo s m x).1.H=s.H∧x.PC≠23)∨(x.PC=23∧(zo s m x).1.H=Ye s.H (Zo x (opM s.P m x).A) (opM s.P m x).S (Zo x (opM s.P m x).R)∧(zo s m x).2.Buf=x.Buf)∨(x.PC=30∧(zo s m x).1.H=uK s.H):=by
 by_cases c:x.PC=23
 ·have e:zo s m x=zfW s m x:=by
   unfold zo
   rw [if_neg (by omega),if_neg (by omega),if_neg (by omega),if_neg (by omega),if_neg (by omega),if_neg (by omega),if_neg (by omega),if_neg (by omega),if_pos c]
  rw [e];exact .inr (.inl ⟨c,rfl,rfl⟩)
 by_cases d:x.PC=30
 ·have e:zo s m x=zaN s m x:=by
   unfold zo
   rw [if_neg (by omega),if_neg (by omega),if_neg (by omega),if_neg (by omega),if_neg (by omega),if_neg (by omega),if_neg (by omega),if_neg (by omega),if_neg (by omega),if_pos d]
  rw [e]
  unfold zaN
  split
  ·split
   ·exact .inr (.inr ⟨d,rfl⟩)
   ·exact .inl ⟨rfl,c⟩
  ·exact .inl ⟨rfl,c⟩
 ·rcases zlV s m x with h | h | h
  ·exact .inl ⟨h,c⟩
  ·exact absurd h c
  ·exact absurd h d
theorem zwb {p:zb} {nb:Nat} {s:za} {gh:Gh} {m:Int} {x:zc} (K:MX p s gh x) (O:XOk p nb m x) (hb: ∀o,zP s.T.Black o=true→zP s.T.Marks o=true) {o:Int} (h:ziU x o):ziU (zo s m x).2 o∨zP (zo s m x).1.T.Marks o=true:=by
 have hrt:=O.ret
 have hpc:=O.pc
 refine wH (motive:=fun r=>ziU r.2 o∨zP r.1.T.Marks o=true) s m x ?_ ?_ ?_ ?_ ?_ ?_ ?_ ?_ ?_ ?_ ?_ ?_ ?_ ?_ ?_ ?_ ?_ ?_ ?_ ?_
 all_goals try (intro c)
 ·-- 0
  rcases h with h | ⟨h,_⟩ | ⟨h,_⟩
  ·left;left;unfold mu0 zbG;repeat' split
   all_goals exact h
  ·omega
  ·omega
 ·-- 1
  unfold mu1;dsimp only
  split
  ·rename_i hl
   rcases h with h | ⟨h,e⟩ | ⟨h,_⟩
   ·have:x.Buf=[]:=List.length_eq_zero_iff.1 hl
    rw [this] at h;cases h
   ·left;right;left;exact ⟨.inl (by show x.Ret=22;omega),e⟩
   ·omega
  ·rename_i hl
   rcases h with h | ⟨h,e⟩ | ⟨h,_⟩
   ·obtain ⟨i,hi⟩:=List.mem_iff_getElem?.1 h
    have hil:=(List.getElem?_eq_some_iff.1 hi).1
    by_cases hlast:i=x.Buf.length-1
    ·left;right;right
     refine ⟨.inl rfl,rfl,.inl rfl,?_⟩
     show x.Buf.getD (x.Buf.length-1) 0=o
     rw [List.getD_eq_getElem?_getD,←hlast,hi];rfl
    ·left;left
     show o∈x.Buf.take (x.Buf.length-1)
     exact List.mem_of_getElem? (i:=i) (by rw [List.getElem?_take_of_lt (by omega)];exact hi)
   ·left;right;left;exact ⟨.inr ⟨.inr rfl,by show x.Ret=22;omega⟩,e⟩
   ·omega
 ·rcases h with h | ⟨h,_⟩ | ⟨h,_⟩
  ·left;left;exact h
  ·omega
  ·omega
 ·-- 3
  obtain ⟨G,gm,g0⟩:=K.p3 c
  unfold mu3;dsimp only
  rcases h with h | ⟨h,e⟩ | ⟨_,h⟩
  ·left;left;split<;>exact h
  ·left;right;left
   split
   ·exact ⟨.inr ⟨.inl rfl,by show x.Ret=22;omega⟩,e⟩
   ·exact ⟨.inr ⟨.inr c,by show x.Ret=22;omega⟩,e⟩
  ·rcases zlv G.md (h.2.2▸G.ob) (hb o) h with h' | h'
   ·left;right;right
    rw [if_neg (by have:=h'.1;omega)]
    exact ⟨.inl c,h'⟩
   ·exact .inr h'
 ·rcases h with h | ⟨h,_⟩ | ⟨h,_⟩
  ·left;left;exact h
  ·omega
  ·omega
 ·rcases h with h | ⟨h,_⟩ | ⟨h,_⟩
  ·left;left;unfold zfr;dsimp only;split<;>exact h
  ·omega
  ·omega
 ·rcases h with h | ⟨h,_⟩ | ⟨h,_⟩
  ·left;left;unfold zfO;dsimp only;split<;>exact h
  ·omega
  ·omega
 ·-- 22
  unfold zfS;dsimp only
  rcases h with h | ⟨h,e⟩ | ⟨h,_⟩
  ·left;left;split
   ·exact h
   ·exact List.mem_append_left _ h
  ·left
   split
   ·right;left;exact ⟨.inr ⟨.inl rfl,rfl⟩,e⟩
   ·left;exact List.mem_append_right _ (by rw [e];simp)
  ·omega
 ·rcases h with h | ⟨h,_⟩ | ⟨h,_⟩
  ·left;left;exact h
  ·omega
  ·omega
 ·rcases h with h | ⟨h,_⟩ | ⟨h,_⟩
  ·left;left;unfold zaN;repeat' split
   all_goals exact h
  ·omega
  ·omega
 ·rcases h with h | ⟨h,_⟩ | ⟨h,_⟩
  ·left;left;unfold zfy;dsimp only;split<;>exact h
  ·omega
  ·omega
 ·rcases h with h | ⟨h,_⟩ | ⟨h,_⟩
  ·left;left;unfold zfT;dsimp only;repeat' split
   all_goals exact h
  ·omega
  ·omega
 ·rcases h with h | ⟨h,_⟩ | ⟨h,_⟩
  ·left;left;exact h
  ·omega
  ·omega
 ·rcases h with h | ⟨h,_⟩ | ⟨h,_⟩
  ·left;left;unfold zeV;dsimp only;split<;>exact h
  ·omega
  ·omega
 ·rcases h with h | ⟨h,_⟩ | ⟨h,_⟩
  ·left;left;unfold zfF;dsimp only;split<;>exact h
  ·omega
  ·omega
 ·rcases h with h | ⟨h,_⟩ | ⟨h,_⟩
  ·left;left;unfold zfn;dsimp only;split<;>exact h
  ·omega
  ·omega
 ·-- 37
  obtain ⟨G,gm,g0⟩:=K.p37 c
  unfold zaE;dsimp only
  rcases h with h | ⟨h,e⟩ | ⟨_,h⟩
  ·left;left;split<;>exact h
  ·omega
  ·rcases zlv G.md (h.2.2▸G.ob) (hb o) h with h' | h'
   ·left;right;right
    rw [if_neg (by have:=h'.1;omega)]
    exact ⟨.inr c,h'⟩
   ·exact .inr h'
 ·rcases h with h | ⟨h,_⟩ | ⟨h,_⟩
  ·left;left;exact h
  ·omega
  ·omega
 ·rcases h with h | ⟨h,_⟩ | ⟨h,_⟩
  ·left;left;exact h
  ·omega
  ·omega
 ·exact .inl h
theorem zuQ {p:zb} {nb:Nat} {s:za} {gh:Gh} (hsl:s.H.Slots=p.H.Slots) (h1:1≤p.H.Slots∧p.H.Slots≤2) {m:Int} {x:zc} (O:XOk p nb m x) (S:zno p.H.Slots x) :
  zno p.H.Slots (zo s m x).2∧∀u j,0≤j→zl3 x u j→zl3 (zo s m x).2 u j∨zM s.H u j=0∨ziU (zo s m x).2 (zM s.H u j):=by
 have no: ∀ {y:zc},y.PC≠36→y.PC≠37→y.PC≠38→zno p.H.Slots y∧∀u j,0≤j→zl3 x u j→zl3 y u j∨zM s.H u j=0∨ziU y (zM s.H u j) :=
  fun a b c=>⟨⟨fun e=>absurd e a,fun e=>absurd e b,fun e=>absurd e c⟩,fun u j _ _=> .inl (fun e=>by omega)⟩
 have on: ∀k:Int,(onM s k=36∧k≠p.H.Slots)∨(onM s k=38∧k=p.H.Slots):=fun k=>by
  unfold onM
  rw [hsl]
  split
  ·rename_i e;exact .inr ⟨rfl,e⟩
  ·rename_i e;exact .inl ⟨rfl,e⟩
 refine wH (motive:=fun r=>zno p.H.Slots r.2∧∀u j,0≤j→zl3 x u j→zl3 r.2 u j∨zM s.H u j=0∨ziU r.2 (zM s.H u j)) s m x ?_ ?_ ?_ ?_ ?_ ?_ ?_ ?_ ?_ ?_ ?_ ?_ ?_ ?_ ?_ ?_ ?_ ?_ ?_ ?_
 all_goals try (intro c)
 ·unfold mu0 zbG;repeat' split
  all_goals exact no (by (try dsimp only [setM]);omega) (by (try dsimp only [setM]);omega) (by (try dsimp only [setM]);omega)
 ·have:=O.ret (.inl c)
  unfold mu1;dsimp only;split
  ·exact no (by dsimp only;omega) (by dsimp only;omega) (by dsimp only;omega)
  ·exact no (by dsimp only;omega) (by dsimp only;omega) (by dsimp only;omega)
 ·unfold mu2;exact no (by dsimp only;omega) (by dsimp only;omega) (by dsimp only;omega)
 ·unfold mu3;dsimp only;split
  ·exact no (by dsimp only;omega) (by dsimp only;omega) (by dsimp only;omega)
  ·exact no (by dsimp only;omega) (by dsimp only;omega) (by dsimp only;omega)
 ·unfold zht;exact no (by dsimp only [setM];omega) (by dsimp only [setM];omega) (by dsimp only [setM];omega)
 ·unfold zfr;dsimp only;split
  ·exact no (by dsimp only [vX];omega) (by dsimp only [vX];omega) (by dsimp only [vX];omega)
  ·exact no (by dsimp only;omega) (by dsimp only;omega) (by dsimp only;omega)
 ·unfold zfO;dsimp only;split
  ·exact no (by dsimp only;omega) (by dsimp only;omega) (by dsimp only;omega)
  ·exact no (by dsimp only;omega) (by dsimp only;omega) (by dsimp only;omega)
 ·unfold zfS;dsimp only;split
  ·exact no (by dsimp only;omega) (by dsimp only;omega) (by dsimp only;omega)
  ·exact no (by dsimp only;omega) (by dsimp only;omega) (by dsimp only;omega)
 ·unfold zfW;exact no (by dsimp only [vX];omega) (by dsimp only [vX];omega) (by dsimp only [vX];omega)
 ·unfold zaN;split
  ·split
   ·exact no (by dsimp only [setM];omega) (by dsimp only [setM];omega) (by dsimp only [setM];omega)
   ·exact no (by dsimp only [vX];omega) (by dsimp only [vX];omega) (by dsimp only [vX];omega)
  ·exact no (by dsimp only;omega) (by dsimp only;omega) (by dsimp only;omega)
 ·unfold zfy;dsimp only;split
  ·exact no (by dsimp only;omega) (by dsimp only;omega) (by dsimp only;omega)
  ·exact no (by dsimp only;omega) (by dsimp only;omega) (by dsimp only;omega)
 ·unfold zfT;dsimp only;repeat' split
  all_goals exact no (by dsimp only;omega) (by dsimp only;omega) (by dsimp only;omega)
 ·unfold zhA;exact no (by dsimp only;omega) (by dsimp only;omega) (by dsimp only;omega)
 ·unfold zeV;dsimp only;split
  ·exact no (by dsimp only;omega) (by dsimp only;omega) (by dsimp only;omega)
  ·exact no (by dsimp only;omega) (by dsimp only;omega) (by dsimp only;omega)
 ·unfold zfF;dsimp only;split
  ·exact no (by dsimp only;omega) (by dsimp only;omega) (by dsimp only;omega)
  ·exact ⟨⟨fun _=>⟨Int.le_refl _,by show (0:Int)<_;omega⟩,fun e=>absurd e (by show ¬(36:Int)=37;decide),fun e=>absurd e (by show ¬(36:Int)=38;decide)⟩,fun u j h0 _=> .inl (fun _ _=>h0)⟩
 ·-- 36
  have hs:=S.1 c
  have w:wc (x.Slot+1)=x.Slot+1:=xm (by omega) (by omega)
  unfold zfn;dsimp only
  rw [w]
  split
  ·rename_i hv
   refine ⟨⟨fun e=> ?_,fun e=> ?_,fun e=> ?_⟩,fun u j h0 h=> ?_⟩
   ·dsimp only at e ⊢;have:=on (x.Slot+1);omega
   ·dsimp only at e ⊢;have:=on (x.Slot+1);omega
   ·dsimp only at e ⊢;have:=on (x.Slot+1);omega
   ·by_cases hu:x.Obj=u
    ·have hle:=h (.inl c) hu
     by_cases hj:j=x.Slot
     ·right;left;rw [←hu,hj];exact hv
     ·left;intro _ _;show x.Slot+1≤j;omega
    ·left;intro _ e;exact absurd e hu
  ·rename_i hv
   refine ⟨⟨fun e=>absurd e (by show ¬(37:Int)=36;decide),fun _=>⟨by show 1≤x.Slot+1;omega,by show x.Slot+1≤_;omega⟩,fun e=>absurd e (by show ¬(37:Int)=38;decide)⟩,fun u j h0 h=> ?_⟩
   by_cases hu:x.Obj=u
   ·have hle:=h (.inl c) hu
    by_cases hj:j=x.Slot
    ·right;right;right;right
     exact ⟨.inr rfl,rfl,.inl rfl,by rw [←hu,hj];rfl⟩
    ·left;intro _ _;show x.Slot+1≤j;omega
   ·left;intro _ e;exact absurd e hu
 ·-- 37
  have hs:=S.2.1 c
  unfold zaE;dsimp only
  split
  ·refine ⟨⟨fun e=> ?_,fun e=> ?_,fun e=> ?_⟩,fun u j h0 h=> .inl (fun _ e=>h (.inr (.inl c)) e)⟩
   ·dsimp only at e ⊢;have:=on x.Slot;omega
   ·dsimp only at e ⊢;have:=on x.Slot;omega
   ·dsimp only at e ⊢;have:=on x.Slot;omega
  ·exact ⟨⟨fun e=>absurd e (by show ¬x.PC=36;omega),fun _=>hs,fun e=>absurd e (by show ¬x.PC=38;omega)⟩,fun u j h0 h=> .inl (fun _ e=>h (.inr (.inl c)) e)⟩
 ·unfold zhF;exact no (by dsimp only;omega) (by dsimp only;omega) (by dsimp only;omega)
 ·unfold zhd;exact no (by dsimp only;omega) (by dsimp only;omega) (by dsimp only;omega)
 ·exact ⟨S,fun u j _ h=> .inl h⟩
theorem zau.mono {s s':za} (F:zau s s') {o:Int} (h:zP s.T.Marks o=true):zP s'.T.Marks o=true:=by
 rcases F with ⟨e,_⟩ | ⟨q,_,_,e,_⟩ | ⟨q,_,e,_⟩ | ⟨_,_,e⟩
 ·rw [e];exact h
 ·rw [e];exact (uc _ _ _).2 (.inl h)
 ·rw [e];exact h
 ·rw [e];exact (uc _ _ _).2 (.inl h)
theorem zt5 {p:zb} {s:za} (hP:s.P=p) {W:Int→Int→Prop} {m:Int} {x:zc} (K:zki p s W m x) (mono: ∀o,zP s.T.Marks o=true→zP (zo s m x).1.T.Marks o=true) (hr:x.PC=1∨x.PC=3→x.Ret=2∨x.Ret=22) :
  ∀l:List zc,zki p {(zo s m x).1 with Ms:=l} (fun u j=>W u j∨(x.PC=23∧u=Zo x (opM p m x).A∧j=(opM p m x).S)) m (zo s m x).2:=by
 intro l
 have no: ∀ {t:za} {y:zc},¬(y.PC=21∨y.PC=22∨((y.PC=1∨y.PC=3)∧y.Ret=22))→y.PC≠23→zki p t (fun u j=>W u j∨(x.PC=23∧u=Zo x (opM p m x).A∧j=(opM p m x).S)) m y :=
  fun a b _=>⟨fun e=>absurd e a,fun e=>absurd e b⟩
 have keep: ∀ {t:za} {y:zc},y.IP=x.IP→y.Regs=x.Regs→Zo y (opM p m y).A=Zo x (opM p m x).A∧(opM p m y).S=(opM p m x).S:=fun e1 e2=>by
  unfold opM Zo;rw [e1,e2];exact ⟨rfl,rfl⟩
 revert mono
 refine wH (motive:=fun r=>(∀o,zP s.T.Marks o=true→zP r.1.T.Marks o=true)→zki p {r.1 with Ms:=l} (fun u j=>W u j∨(x.PC=23∧u=Zo x (opM p m x).A∧j=(opM p m x).S)) m r.2) s m x ?_ ?_ ?_ ?_ ?_ ?_ ?_ ?_ ?_ ?_ ?_ ?_ ?_ ?_ ?_ ?_ ?_ ?_ ?_ ?_
 ·intro c _;unfold mu0 zbG;repeat' split
  all_goals exact no (by (try dsimp only [setM]);omega) (by (try dsimp only [setM]);omega)
 ·intro c _
  have hr:=hr (.inl c)
  unfold mu1;dsimp only
  intro hW
  split
  ·refine ⟨fun e=> ?_,fun e=>by dsimp only at e;omega⟩
   have e:x.Ret=21∨x.Ret=22∨((x.Ret=1∨x.Ret=3)∧x.Ret=22):=e
   exact (K (fun h=>hW (by split<;>exact .inl h))).1 (.inr (.inr ⟨.inl c,by omega⟩))
  ·refine ⟨fun e=> ?_,fun e=>by dsimp only at e;omega⟩
   have e:(3:Int)=21∨(3:Int)=22∨(((3:Int)=1∨(3:Int)=3)∧x.Ret=22):=e
   exact (K (fun h=>hW (by split<;>exact .inl h))).1 (.inr (.inr ⟨.inl c,by omega⟩))
 ·intro c _;unfold mu2;exact no (by (try dsimp only);omega) (by (try dsimp only);omega)
 ·intro c _
  unfold mu3;dsimp only
  intro hW
  have eH:(zp s x.G).1.H=s.H:=by rw [Vl]
  split
  ·refine ⟨fun e=> ?_,fun e=>by dsimp only at e;omega⟩
   have e:(1:Int)=21∨(1:Int)=22∨(((1:Int)=1∨(1:Int)=3)∧x.Ret=22):=e
   show x.Old=zM (zp s x.G).1.H _ _
   rw [eH]
   exact (K (fun h=>hW (by split<;>exact .inl h))).1 (.inr (.inr ⟨.inr c,by omega⟩))
  ·refine ⟨fun e=> ?_,fun e=>by dsimp only at e;omega⟩
   have e:x.PC=21∨x.PC=22∨((x.PC=1∨x.PC=3)∧x.Ret=22):=e
   show x.Old=zM (zp s x.G).1.H _ _
   rw [eH]
   exact (K (fun h=>hW (by split<;>exact .inl h))).1 (.inr (.inr ⟨.inr c,by omega⟩))
 ·intro c _;unfold zht;exact no (by (try dsimp only [setM]);omega) (by (try dsimp only [setM]);omega)
 ·intro c _;unfold zfr;dsimp only;split
  ·exact no (by (try dsimp only [vX]);omega) (by (try dsimp only [vX]);omega)
  ·intro hW
   refine ⟨fun _=> ?_,fun e=>by dsimp only at e;omega⟩
   show zpX s m x=_
   unfold zpX
   rw [hP];rfl
 ·intro c mono;unfold zfO;dsimp only;split
  ·rename_i h
   intro hW
   have k:=(K (fun h=>hW (.inl h))).1 (.inl c)
   refine ⟨fun e=>by dsimp only at e;omega,fun _=> ?_⟩
   show zM s.H (Zo x (opM p m x).A) (opM p m x).S=0∨zP s.T.Marks (zM s.H (Zo x (opM p m x).A) (opM p m x).S)=true∨_
   rw [←k]
   rcases h with h | h
   ·exact .inl h
   ·right;left
    unfold xk at h
    split at h
    ·rename_i h2;exact ((zcD _ _ _).1 h2).1
    ·split at h
     ·assumption
     ·exact absurd rfl h
  ·intro hW
   exact ⟨fun _=>(K (fun h=>hW (.inl h))).1 (.inl c),fun e=>by dsimp only at e;omega⟩
 ·intro c mono;unfold zfS;dsimp only;split
  ·intro hW
   exact ⟨fun _=>(K (fun h=>hW (.inl h))).1 (.inr (.inl c)),fun e=>by dsimp only at e;omega⟩
  ·intro hW
   have k:=(K (fun h=>hW (.inl h))).1 (.inr (.inl c))
   refine ⟨fun e=>by dsimp only at e;omega,fun _=> .inr (.inr ?_)⟩
   show zM s.H (Zo x (opM p m x).A) (opM p m x).S∈x.Buf++[x.Old]
   rw [←k];simp
 ·intro c _;unfold zfW;exact no (by (try dsimp only [vX]);omega) (by (try dsimp only [vX]);omega)
 ·intro c _;unfold zaN;split
  ·split
   ·exact no (by (try dsimp only [setM]);omega) (by (try dsimp only [setM]);omega)
   ·exact no (by (try dsimp only [vX]);omega) (by (try dsimp only [vX]);omega)
  ·exact no (by (try dsimp only);omega) (by (try dsimp only);omega)
 ·intro c _;unfold zfy;dsimp only;split
  ·exact no (by (try dsimp only);omega) (by (try dsimp only);omega)
  ·exact no (by (try dsimp only);omega) (by (try dsimp only);omega)
 ·intro c _;unfold zfT;dsimp only;repeat' split
  all_goals exact no (by (try dsimp only);omega) (by (try dsimp only);omega)
 ·intro c _;unfold zhA;exact no (by (try dsimp only);omega) (by (try dsimp only);omega)
 ·intro c _;unfold zeV;dsimp only;split
  ·exact no (by (try dsimp only);omega) (by (try dsimp only);omega)
  ·exact no (by (try dsimp only);omega) (by (try dsimp only);omega)
 ·intro c _;unfold zfF;dsimp only;split
  ·exact no (by (try dsimp only);omega) (by (try dsimp only);omega)
  ·exact no (by (try dsimp only);omega) (by (try dsimp only);omega)
 ·intro c _;unfold zfn;dsimp only
  have:=zdj s (wc (x.Slot+1))
  split
  ·exact no (by (try dsimp only);omega) (by (try dsimp only);omega)
  ·exact no (by (try dsimp only);omega) (by (try dsimp only);omega)
 ·intro c _;unfold zaE;dsimp only
  have:=zdj s x.Slot
  split
  ·exact no (by (try dsimp only);omega) (by (try dsimp only);omega)
  ·exact no (by (try dsimp only);omega) (by (try dsimp only);omega)
 ·intro c _;unfold zhF;exact no (by (try dsimp only);omega) (by (try dsimp only);omega)
 ·intro c _;unfold zhd;exact no (by (try dsimp only);omega) (by (try dsimp only);omega)
 ·intro _ hW
  exact K (fun h=>hW (.inl h))
end
end Go.Pe.G
namespace Go.Pe.G
open Go.Pe
noncomputable section
theorem zng {p:zb} {nb k:Nat} {s s':za} {gh:Gh} (G:FG p nb k s gh) (F:zau s s') {u:Int} (hu:u≤(s.H.Objs.length:Int)) (h:xk s.T u=1):xk s'.T u=1∨(xk s.T u=1∧s'.T={s.T with Black:=s.T.Black|||bit u}):=by
 have ht:=(uP _ _).1 h
 rcases F with ⟨e,_⟩ | ⟨q,_,_,e,_⟩ | ⟨q,hq,e,_⟩ | ⟨_,_,e⟩
 ·left;rw [e];exact h
 ·left;rw [e,uP];exact ⟨(uc _ _ _).2 (.inl ht.1),ht.2⟩
 ·by_cases hqu:u=q
  ·right;subst hqu;exact ⟨h,e⟩
  ·left;rw [e,uP];exact ⟨ht.1,fun hb=>(Xs hb).elim ht.2 (fun e=>hqu e)⟩
 ·left;rw [e,uP]
  exact ⟨(uc _ _ _).2 (.inl ht.1),fun hb=>(Xs hb).elim ht.2 (fun e=>by omega)⟩
theorem zlu {p:zb} {nb k:Nat} {s s':za} {gh:Gh} (G:FG p nb k s gh) (F:zau s s') {u:Int} (hu:u≤(s.H.Objs.length:Int)) (h: ¬zP s.T.Marks u=true) (h':zP s'.T.Marks u=true):xk s'.T u=1:=by
 have nb: ¬zP s.T.Black u=true:=fun e=>h (G.B.blk u e)
 rcases F with ⟨e,_⟩ | ⟨q,_,_,e,_⟩ | ⟨q,hq,e,_⟩ | ⟨_,_,e⟩
 ·rw [e] at h';exact absurd h' h
 ·rw [uP];refine ⟨h',?_⟩;rw [e];exact nb
 ·rw [e] at h';exact absurd h' h
 ·rw [e] at h'
  rcases Xs h' with h2 | h2
  ·exact absurd h2 h
  ·omega
theorem zsE {p:zb} {nb:Nat} {s:za} (E:EOk p nb s) {u j:Int} (h:yZ s.H u j=true):0≤j∧j<p.H.Slots:=by
 have hs:=Yt h
 have hm:yw s.H u∈s.H.Objs:=by
  unfold yw
  rw [List.getD_eq_getElem?_getD,List.getElem?_eq_getElem (show (u-1).toNat<s.H.Objs.length by omega)]
  exact List.getElem_mem _
 have h1:=(E.H.objs _ hm).1
 have h2:=E.H.slots
 omega
theorem zwC {s:za} {m:Int} {x:zc} (c:x.PC=3):(zo s m x).2.PC=1∨(zo s m x).2.PC=3:=by
 unfold zo
 rw [if_neg (by omega),if_neg (by omega),if_neg (by omega),if_pos c]
 unfold mu3;dsimp only
 split
 ·exact .inl rfl
 ·exact .inr c
theorem zuT {s:za} {m:Int} {x:zc} (c:x.PC=37):(zo s m x).2.Obj=x.Obj:=by
 have e37:zo s m x=zaE s m x:=by
  unfold zo
  rw [if_neg (by omega),if_neg (by omega),if_neg (by omega),if_neg (by omega),if_neg (by omega),if_neg (by omega),if_neg (by omega),if_neg (by omega),if_neg (by omega),if_neg (by omega),if_neg (by omega),if_neg (by omega),if_neg (by omega),if_neg (by omega),if_neg (by omega),if_neg (by omega),if_pos c]
 rw [e37]
 unfold zaE;dsimp only
 split<;>rfl
def zs4 (s:za) (m:Int) (x:zc) (N C:List Int):Prop :=
 (N=[]∧C=[]∧(zo s m x).1.T=s.T)∨(N=[x.G.Obj]∧C=[]∧(x.PC=3∨x.PC=37)∧¬(s.T.Marks|||bit x.G.Obj=s.T.Marks)∧(zo s m x).1.T={s.T with Marks:=s.T.Marks|||bit x.G.Obj})∨(N=[]∧C=[x.Obj]∧x.PC=38∧(zo s m x).1.T=wR s.T x.Obj) ∨
   (N=[]∧C=[]∧x.PC=30∧zbT s.H s.P.Most=true∧(zo s m x).1.H=uK s.H∧(zo s m x).1.T=Uu s.T (wc (s.H.Objs.length+1)))
theorem FG.fresh {p:zb} (hp:zC p) {nb k:Nat} {s:za} {gh:Gh} (G:FG p nb k s gh):Uu s.T (wc (s.H.Objs.length+1))=⟨s.T.Marks|||bit ((s.H.Objs.length:Int)+1),s.T.Black|||bit ((s.H.Objs.length:Int)+1)⟩∧¬zP s.T.Marks ((s.H.Objs.length:Int)+1)=true∧(s.H.Objs.length:Int)≤9:=by
 have hN0:=G.E.H.n
 have hM0:=hp.most
 have hn6:=hp.n
 have nm: ¬zP s.T.Marks ((s.H.Objs.length:Int)+1)=true:=fun e=>by have:=G.mrk _ e;omega
 have hw:wc ((s.H.Objs.length:Int)+1)=(s.H.Objs.length:Int)+1:=xm (by omega) (by omega)
 rw [hw,zmh (by omega) nm (fun e=>nm (G.B.blk _ e))]
 exact ⟨rfl,nm,by omega⟩
theorem zuZ {p:zb} (hp:zC p) {nb k:Nat} {s:za} {gh:Gh} (G:FG p nb k s gh) {m:Int} {i:Nat} {x:zc} (hx:s.Ms[i]? =some x) {N C:List Int} (hT:zs4 s m x N C) {u:Int} (hg:xk s.T u=1)
  (h:(zo s m x).1.T={s.T with Black:=s.T.Black|||bit u}):x.PC=38∧x.Obj=u:=by
 have hb:=((uP _ _).1 hg).2
 have hu:=(wu s.T.Black (UA hg) u).2 (.inr rfl)
 rcases hT with ⟨_,_,e⟩ | ⟨_,_,_,_,e⟩ | ⟨_,_,c,e⟩ | ⟨_,_,_,_,e1,e⟩
 ·rw [e] at h
  have:=congrArg zn.Black h
  exact absurd (by rw [this];exact hu) hb
 ·rw [e] at h
  have:=congrArg zn.Black h
  exact absurd (by rw [this];exact hu) hb
 ·have hob:xk s.T x.Obj=1:=G.grey (zuH hx (by unfold yc;rw [Vu (.inr c)];simp))
  rw [e] at h
  unfold wR at h
  rw [if_pos hob] at h
  have hbb:s.T.Black|||bit x.Obj=s.T.Black|||bit u:=congrArg zn.Black h
  refine ⟨c,?_⟩
  rw [←hbb] at hu
  rcases Xs hu with h2 | h2
  ·exact absurd h2 hb
  ·exact h2.symm
 ·obtain ⟨f1,f2,f3⟩:=G.fresh hp
  rw [e,f1] at h
  have:s.T.Marks|||bit ((s.H.Objs.length:Int)+1)=s.T.Marks:=congrArg zn.Marks h
  exact absurd (by rw [←this];exact (wu _ (by omega) _).2 (.inr rfl)) f2
theorem zt2 {p:zb} (hp:zC p) {nb k:Nat} {s:za} {gh:Gh} (G:FG p nb k s gh) {m:Int} {x:zc} {N C:List Int} (hT:zs4 s m x N C) {u:Int} (hu:u≤(s.H.Objs.length:Int)) (h0: ¬zP s.T.Marks u=true) (h1:zP (zo s m x).1.T.Marks u=true):x.PC=3∨x.PC=37:=by
 rcases hT with ⟨_,_,e⟩ | ⟨_,_,c,_,e⟩ | ⟨_,_,c,e⟩ | ⟨_,_,c,_,_,e⟩
 ·rw [e] at h1;exact absurd h1 h0
 ·exact c
 ·rw [e,(zcu _ _).1] at h1;exact absurd h1 h0
 ·obtain ⟨f1,f2,f3⟩:=G.fresh hp
  rw [e,f1] at h1
  rcases Xs h1 with h | h
  ·exact absurd h h0
  ·omega
theorem zov {p:zb} {nb k:Nat} {s:za} {gh:Gh} (G:FG p nb k s gh) {i:Nat} {y:ze} (hy:s.Ws[i]? =some y) (hpc:y.PC=5∨y.PC=6∨y.PC=8):zP s.T.Marks y.Obj=true:=by
 have hg:xk s.T y.Obj=1:=G.grey (zp7 hy (by
  unfold zN
  rcases hpc with e | e | e
  ·rw [Xt (.inl e)];simp
  ·rw [znq e];simp
  ·rw [Xt (.inr e)];simp))
 exact ((uP _ _).1 hg).1
theorem zoL {p:zb} {nb k:Nat} {s:za} {gh:Gh} (G:FG p nb k s gh) {i:Nat} {y:zc} (hy:s.Ms[i]? =some y) (hpc:y.PC=36∨y.PC=37∨y.PC=38):zP s.T.Marks y.Obj=true:=by
 have hg:xk s.T y.Obj=1:=G.grey (zuH hy (by
  unfold yc
  rcases hpc with e | e | e
  ·rw [Vu (.inl e)];simp
  ·rw [zkD e];simp
  ·rw [Vu (.inr e)];simp))
 exact ((uP _ _).1 hg).1
theorem PI.mutator {p:zb} (hp:zC p) {nb k:Nat} {s:za} {gh:Gh} (hk:k<4294960000) (G:FG p nb k s gh) {W:Int→Int→Prop} (I:PI p s W) {m:Int} (hm:1≤m∧m≤p.Mutators) (hd:s.Done=false): ∃W',PI p (yU s m) W':=by
 obtain ⟨gh',G',F,x,hx,N,C,hbag,hT⟩:=G.mutator hp hk hm hd
 have hT:zs4 s m x N C:=hT
 have hml:=G.E.ml
 have hsl:=hp.slots
 have hi:(m-1).toNat<s.Ms.length:=(List.getElem?_eq_some_iff.1 hx).1
 have ei:(((m-1).toNat:Nat):Int)+1=m:=by omega
 have eS:yU s m={(zo s m x).1 with Ms:=s.Ms.set (m-1).toNat (zo s m x).2}:=by
  unfold yU
  rw [if_neg (by rw [hd];rintro (e | e | e)<;>first | cases e | omega),hx]
 have hMX:=G.M _ x hx
 have hXO:=G.E.X _ x hx
 have hcv:=I.cv _ x hx
 rw [ei] at hXO hcv
 have hP:=G.E.S.P
 have eH:(yU s m).H=(zo s m x).1.H:=by rw [eS]
 have eT:(yU s m).T=(zo s m x).1.T:=by rw [eS]
 have eW:(yU s m).Ws=s.Ws:=by rw [eS];show (zo s m x).1.Ws=_;rw [zps]
 have eX:(yU s m).Ms=s.Ms.set (m-1).toNat (zo s m x).2:=by rw [eS]
 have mono: ∀o,zP s.T.Marks o=true→zP (yU s m).T.Marks o=true:=fun o h=>F.mono h
 obtain ⟨sl1,sl2⟩:=zuQ (s:=s) (m:=m) (gh:=gh) G.E.H.slots hsl hXO (I.sx _ x hx)
 have here:(yU s m).Ms[(m-1).toNat]? =some (zo s m x).2:=by rw [eX];exact List.getElem?_set_self hi
 have there: ∀(i:Nat) y,i≠(m-1).toNat→s.Ms[i]? =some y→(yU s m).Ms[i]? =some y:=fun i y hne h=>by rw [eX,List.getElem?_set_ne (fun e=>hne e.symm)];exact h
 have back: ∀(i:Nat) y,(yU s m).Ms[i]? =some y→(i=(m-1).toNat∧y=(zo s m x).2)∨(i≠(m-1).toNat∧s.Ms[i]? =some y):=fun i y h=>by
  rw [eX] at h
  by_cases hne:i=(m-1).toNat
  ·subst hne
   rw [List.getElem?_set_self hi] at h
   injection h with h
   exact .inl ⟨rfl,h.symm⟩
  ·rw [List.getElem?_set_ne (fun e=>hne e.symm)] at h
   exact .inr ⟨hne,h⟩
 have heapS: ∀u j,¬(x.PC=23∧u=Zo x (opM p m x).A∧j=(opM p m x).S)→(yZ s.H u j=true→yZ (yU s m).H u j=true)∧zM (yU s m).H u j=zM s.H u j:=fun u j hne=>by
  rw [eH]
  rcases zup s m x with ⟨e,_⟩ | ⟨c,e,_⟩ | ⟨_,e⟩
  ·rw [e];exact ⟨id,rfl⟩
  ·rw [e,hP]
   obtain ⟨a,b⟩:=zwy (h:=s.H) (a:=Zo x (opM p m x).A) (i:=(opM p m x).S) (v:=Zo x (opM p m x).R) (u:=u) (j:=j) (fun e=>hne ⟨c,e⟩) (fun e=>(Yt e).2.1)
   exact ⟨fun h=>a.trans h,b⟩
  ·rw [e];exact ztT _ _ _
 have P:zpY s (yU s m) W (fun u j=>W u j∨(x.PC=23∧u=Zo x (opM p m x).A∧j=(opM p m x).S)):=by
  refine ⟨mono,fun o h=> ?_,fun u j hW hj=> ?_,fun u j hW hj hg hu=> ?_,fun u j hW hj hm0 hm1=> ?_⟩
  ·rcases h with ⟨i,y,hy,h⟩ | ⟨i,y,hy,h⟩
   ·right;left;exact ⟨i,y,by rw [eW];exact hy,h⟩
   ·by_cases hne:i=(m-1).toNat
    ·subst hne
     rw [hx] at hy;injection hy with hy;subst hy
     rcases zwb (m:=m) hMX hXO G.B.blk h with h | h
     ·right;right;exact ⟨_,_,here,h⟩
     ·left;rw [eT];exact h
    ·right;right;exact ⟨i,y,there i y hne hy,h⟩
  ·by_cases hc:x.PC=23∧u=Zo x (opM p m x).A∧j=(opM p m x).S
   ·obtain ⟨c,rfl,rfl⟩:=hc
    right
    rcases (hcv hW).2 c with h | h | h
    ·exact .inl h
    ·exact .inr (.inl (mono _ h))
    ·right;right;right
     refine ⟨_,_,here,.inl ?_⟩
     rcases zup s m x with ⟨_,e⟩ | ⟨_,_,e⟩ | ⟨e,_⟩
     ·exact absurd c e
     ·rw [e];exact h
     ·omega
   ·left
    obtain ⟨a,b⟩:=heapS u j hc
    exact ⟨fun h=>h.elim hW hc,a hj,b⟩
  ·have hpos:=Yt hj
   have hrow:=zsE G.E hj
   have htint:xk (yU s m).T u=1:=by
    rcases zng G F hpos.1.2 hg with h | ⟨_,h⟩
    ·exact h
    ·exfalso
     obtain ⟨c,ho⟩:=zuZ hp G hx hT hg (by rw [←eT];exact h)
     have hle:=hu.2 _ x hx (.inr (.inr c)) ho
     have:=(I.sx _ x hx).2.2 c
     omega
   rcases sl2 u j hpos.2.1 (hu.2 _ x hx) with h | h | h
   ·left
    refine ⟨htint,fun i y hy=>hu.1 i y (by rw [←eW];exact hy),fun i y hy=> ?_⟩
    rcases back i y hy with ⟨_,rfl⟩ | ⟨_,hy⟩
    ·exact h
    ·exact hu.2 i y hy
   ·exact .inr (.inl h)
   ·exact .inr (.inr (.inr (.inr ⟨_,_,here,h⟩)))
  ·have hpos:=Yt hj
   refine ⟨zlu G F hpos.1.2 hm0 hm1,fun i y hy hpc ho=> ?_,fun i y hy hpc ho=> ?_⟩
   ·rw [eW] at hy
    exact absurd (ho▸zov G hy hpc) hm0
   ·rcases back i y hy with ⟨_,rfl⟩ | ⟨_,hy⟩
    ·exfalso
     rcases zt2 hp G hT hpos.1.2 hm0 (by rw [←eT];exact hm1) with c | c
     ·have:=zwC (s:=s) (m:=m) c
      omega
     ·have h3:=zuT (s:=s) (m:=m) c
      exact hm0 (by rw [←ho,h3];exact zoL G hx (.inr (.inl c)))
    ·exact absurd (ho▸zoL G hy hpc) hm0
 refine ⟨fun u j=>W u j∨(x.PC=23∧u=Zo x (opM p m x).A∧j=(opM p m x).S),fun o ho=> ?_,fun i y hy=>I.sw i y (by rw [←eW];exact hy),fun i y hy=> ?_,fun i y hy=> ?_⟩
 ·have h0:o≠0:=by have:=ho.in;omega
  rcases I.lv o ho with h | h
  ·exact .inl (mono o h)
  ·exact P.prot h h0
 ·rcases back i y hy with ⟨_,rfl⟩ | ⟨_,hy⟩
  ·exact sl1
  ·exact I.sx i y hy
 ·rcases back i y hy with ⟨rfl,rfl⟩ | ⟨_,hy⟩
  ·rw [ei,eS]
   exact zt5 hP hcv (fun o h=>by rw [←eT];exact mono o h) hXO.ret _
  ·intro hW
   have hW1: ¬W (Zo y (opM p ((i:Int)+1) y).A) (opM p ((i:Int)+1) y).S:=fun h=>hW (.inl h)
   obtain ⟨a,b⟩:=I.cv i y hy hW1
   have hh:=(heapS (Zo y (opM p ((i:Int)+1) y).A) (opM p ((i:Int)+1) y).S (fun h=>hW (.inr h))).2
   rw [hh]
   exact ⟨a,fun e=>(b e).imp id (fun h=>h.imp (mono _) id)⟩
end
end Go.Pe.G
namespace Go.Pe.G
open Go.Pe
noncomputable section
theorem zqP {s:za} {w:Int} {x:ze} (c:x.PC=6):zh s w x=((zp s x.G).1,if (zp s x.G).2.Out=1 then {x with G:=(zp s x.G).2,PC:=onW s x.Slot} else {x with G:=(zp s x.G).2}):=by
 unfold zh
 rw [if_neg (by omega),if_neg (by omega),if_neg (by omega),if_neg (by omega),if_neg (by omega),if_pos c]
theorem zur {p:zb} {s:za} {gh:Gh} {w:Int} {x:ze} (K:WX p s gh w x) (hb: ∀o,zP s.T.Black o=true→zP s.T.Marks o=true) {o:Int} (h:zgo x o):zgo (zh s w x).2 o∨zP (zh s w x).1.T.Marks o=true:=by
 obtain ⟨c,h⟩:=h
 obtain ⟨G,gm,gw,g0⟩:=K.p6 c
 rw [zqP c]
 dsimp only
 rcases zlv G.md (h.2.2▸G.ob) (hb o) h with h' | h'
 ·left
  rw [if_neg (by have:=h'.1;omega)]
  exact ⟨c,h'⟩
 ·exact .inr h'
theorem zm0 {p:zb} {nb:Nat} {s:za} (hsl:s.H.Slots=p.H.Slots) (h1:1≤p.H.Slots∧p.H.Slots≤2) {w:Int} {x:ze} (O:WOk p nb w x) (S:zep p.H.Slots x) :
  zep p.H.Slots (zh s w x).2∧∀u j,0≤j→zfk x u j→zfk (zh s w x).2 u j∨zM s.H u j=0∨zgo (zh s w x).2 (zM s.H u j):=by
 have hpc:=O.pc
 have no: ∀ {y:ze},y.PC≠5→y.PC≠6→y.PC≠8→zep p.H.Slots y∧∀u j,0≤j→zfk x u j→zfk y u j∨zM s.H u j=0∨zgo y (zM s.H u j) :=
  fun a b c=>⟨⟨fun e=>absurd e a,fun e=>absurd e b,fun e=>absurd e c⟩,fun u j _ _=> .inl (fun e=>by omega)⟩
 have zero: ∀ {y:ze},y.PC=5→y.Slot=0→zep p.H.Slots y∧∀u j,0≤j→zfk x u j→zfk y u j∨zM s.H u j=0∨zgo y (zM s.H u j) :=
  fun a b=>⟨⟨fun _=>by omega,fun e=>by omega,fun e=>by omega⟩,fun u j h0 _=> .inl (fun _ _=>by omega)⟩
 have on: ∀k:Int,(onW s k=5∧k≠p.H.Slots)∨(onW s k=8∧k=p.H.Slots):=fun k=>by
  unfold onW
  rw [hsl]
  split
  ·rename_i e;exact .inr ⟨rfl,e⟩
  ·rename_i e;exact .inl ⟨rfl,e⟩
 have lk: ∀y:ze,(vn s.P w y).PC=1∨(vn s.P w y).PC=2:=fun y=>by unfold vn;split<;>simp
 by_cases c6:x.PC=6
 ·have hs:=S.2.1 c6
  rw [zqP c6]
  dsimp only
  split
  ·refine ⟨⟨fun e=> ?_,fun e=> ?_,fun e=> ?_⟩,fun u j h0 h=> .inl (fun _ e=>h (.inr (.inl c6)) e)⟩
   ·dsimp only at e ⊢;have:=on x.Slot;omega
   ·dsimp only at e ⊢;have:=on x.Slot;omega
   ·dsimp only at e ⊢;have:=on x.Slot;omega
  ·exact ⟨⟨fun e=>absurd e (by show ¬x.PC=5;omega),fun _=>hs,fun e=>absurd e (by show ¬x.PC=8;omega)⟩,fun u j h0 h=> .inl (fun _ e=>h (.inr (.inl c6)) e)⟩
 have key: ∀r:za×ze,zh s w x=r→(zep p.H.Slots r.2∧∀u j,0≤j→zfk x u j→zfk r.2 u j∨zM s.H u j=0∨zgo r.2 (zM s.H u j))→zep p.H.Slots (zh s w x).2∧∀u j,0≤j→zfk x u j→zfk (zh s w x).2 u j∨zM s.H u j=0∨zgo (zh s w x).2 (zM s.H u j):=fun r e h=>by rw [e];exact h
 by_cases c01:x.PC=0∨x.PC=1
 ·refine key _ (by unfold zh;rw [if_pos c01]) ?_
  dsimp only
  split
  ·exact zero rfl rfl
  split
  ·have:=lk {x with D:=(zL s.M x.D).2}
   exact no (by omega) (by omega) (by omega)
  ·exact no (by dsimp only;omega) (by dsimp only;omega) (by dsimp only;omega)
 by_cases c2:x.PC=2
 ·refine key _ (by unfold zh;rw [if_neg c01,if_pos c2]) ?_
  dsimp only
  split
  ·exact no (by dsimp only;omega) (by dsimp only;omega) (by dsimp only;omega)
  split
  ·exact no (by show (0:Int)≠5;decide) (by show (0:Int)≠6;decide) (by show (0:Int)≠8;decide)
  ·exact no (by dsimp only;omega) (by dsimp only;omega) (by dsimp only;omega)
 by_cases c3:x.PC=3
 ·refine key _ (by unfold zh;rw [if_neg c01,if_neg c2,if_pos c3]) ?_
  exact no (by dsimp only;omega) (by dsimp only;omega) (by dsimp only;omega)
 by_cases c4:x.PC=4
 ·refine key _ (by unfold zh;rw [if_neg c01,if_neg c2,if_neg c3,if_pos c4]) ?_
  dsimp only
  split
  ·exact no (by dsimp only;omega) (by dsimp only;omega) (by dsimp only;omega)
  ·exact no (by dsimp only;omega) (by dsimp only;omega) (by dsimp only;omega)
 by_cases c:x.PC=5
 ·have hs:=S.1 c
  have ww:wc (x.Slot+1)=x.Slot+1:=xm (by omega) (by omega)
  refine key _ (by unfold zh;rw [if_neg c01,if_neg c2,if_neg c3,if_neg c4,if_pos c]) ?_
  dsimp only
  rw [ww]
  split
  ·rename_i hv
   refine ⟨⟨fun e=> ?_,fun e=> ?_,fun e=> ?_⟩,fun u j h0 h=> ?_⟩
   ·dsimp only at e ⊢;have:=on (x.Slot+1);omega
   ·dsimp only at e ⊢;have:=on (x.Slot+1);omega
   ·dsimp only at e ⊢;have:=on (x.Slot+1);omega
   ·by_cases hu:x.Obj=u
    ·have hle:=h (.inl c) hu
     by_cases hj:j=x.Slot
     ·right;left;rw [←hu,hj];exact hv
     ·left;intro _ _;show x.Slot+1≤j;omega
    ·left;intro _ e;exact absurd e hu
  ·rename_i hv
   refine ⟨⟨fun e=>absurd e (by show ¬(6:Int)=5;decide),fun _=>⟨by show 1≤x.Slot+1;omega,by show x.Slot+1≤_;omega⟩,fun e=>absurd e (by show ¬(6:Int)=8;decide)⟩,fun u j h0 h=> ?_⟩
   by_cases hu:x.Obj=u
   ·have hle:=h (.inl c) hu
    by_cases hj:j=x.Slot
    ·right;right
     exact ⟨rfl,rfl,.inl rfl,by rw [←hu,hj];rfl⟩
    ·left;intro _ _;show x.Slot+1≤j;omega
   ·left;intro _ e;exact absurd e hu
 by_cases c7:x.PC=7
 ·refine key _ (by unfold zh;rw [if_neg c01,if_neg c2,if_neg c3,if_neg c4,if_neg c,if_neg c6,if_pos c7]) ?_
  dsimp only
  split
  ·exact no (by show (0:Int)≠5;decide) (by show (0:Int)≠6;decide) (by show (0:Int)≠8;decide)
  ·exact zero rfl rfl
 by_cases c8:x.PC=8
 ·refine key _ (by unfold zh;rw [if_neg c01,if_neg c2,if_neg c3,if_neg c4,if_neg c,if_neg c6,if_neg c7,if_pos c8]) ?_
  exact no (by dsimp only;omega) (by dsimp only;omega) (by dsimp only;omega)
 have c9:x.PC=9:=by omega
 refine key _ (by unfold zh;rw [if_neg c01,if_neg c2,if_neg c3,if_neg c4,if_neg c,if_neg c6,if_neg c7,if_neg c8,if_pos c9]) ?_
 exact no (by dsimp only;omega) (by dsimp only;omega) (by dsimp only;omega)
theorem PI.worker {p:zb} (hp:zC p) {nb k:Nat} {s:za} {gh:Gh} (hk:k<4294960000) (G:FG p nb k s gh) {W:Int→Int→Prop} (I:PI p s W) {w:Int} (hw:1≤w∧w≤p.Workers) (hd:s.Done=false):PI p (zE s w) W:=by
 obtain ⟨gh',G',F,x,hx,N,C,hbag,hT⟩:=G.worker hp hk hw hd
 have hwl:=G.E.wl
 have hsl:=hp.slots
 have hi:(w-1).toNat<s.Ws.length:=(List.getElem?_eq_some_iff.1 hx).1
 have ei:(((w-1).toNat:Nat):Int)+1=w:=by omega
 have eS:zE s w={(zh s w x).1 with Ws:=s.Ws.set (w-1).toNat (zh s w x).2}:=by
  unfold zE
  rw [if_neg (by rw [hd];rintro (e | e | e)<;>first | cases e | omega),hx]
 have hWX:=G.W _ x hx
 have hWO:=G.E.W _ x hx
 rw [ei] at hWX hWO
 have hfr:=ziC (s:=s) hWO
 have eH:(zE s w).H=s.H:=by rw [eS];show (zh s w x).1.H=_;rw [hfr]
 have eT:(zE s w).T=(zh s w x).1.T:=by rw [eS]
 have eX:(zE s w).Ms=s.Ms:=by rw [eS];show (zh s w x).1.Ms=_;rw [hfr]
 have eW:(zE s w).Ws=s.Ws.set (w-1).toNat (zh s w x).2:=by rw [eS]
 have mono: ∀o,zP s.T.Marks o=true→zP (zE s w).T.Marks o=true:=fun o h=>F.mono h
 obtain ⟨sl1,sl2⟩:=zm0 (s:=s) (w:=w) G.E.H.slots hsl hWO (I.sw _ x hx)
 have here:(zE s w).Ws[(w-1).toNat]? =some (zh s w x).2:=by rw [eW];exact List.getElem?_set_self hi
 have there: ∀(i:Nat) y,i≠(w-1).toNat→s.Ws[i]? =some y→(zE s w).Ws[i]? =some y:=fun i y hne h=>by rw [eW,List.getElem?_set_ne (fun e=>hne e.symm)];exact h
 have back: ∀(i:Nat) y,(zE s w).Ws[i]? =some y→(i=(w-1).toNat∧y=(zh s w x).2)∨(i≠(w-1).toNat∧s.Ws[i]? =some y):=fun i y h=>by
  rw [eW] at h
  by_cases hne:i=(w-1).toNat
  ·subst hne
   rw [List.getElem?_set_self hi] at h
   injection h with h
   exact .inl ⟨rfl,h.symm⟩
  ·rw [List.getElem?_set_ne (fun e=>hne e.symm)] at h
   exact .inr ⟨hne,h⟩
 have P:zpY s (zE s w) W W:=by
  refine ⟨mono,fun o h=> ?_,fun u j hW hj=> .inl ⟨hW,by rw [eH];exact hj,by rw [eH]⟩,fun u j hW hj hg hu=> ?_,fun u j hW hj hm0 hm1=> ?_⟩
  ·rcases h with ⟨i,y,hy,h⟩ | ⟨i,y,hy,h⟩
   ·by_cases hne:i=(w-1).toNat
    ·subst hne
     rw [hx] at hy;injection hy with hy;subst hy
     rcases zur hWX G.B.blk h with h | h
     ·right;left;exact ⟨_,_,here,h⟩
     ·left;rw [eT];exact h
    ·right;left;exact ⟨i,y,there i y hne hy,h⟩
   ·right;right;exact ⟨i,y,by rw [eX];exact hy,h⟩
  ·have hpos:=Yt hj
   have hrow:=zsE G.E hj
   have htint:xk (zE s w).T u=1:=by
    rcases zng G F hpos.1.2 hg with h | ⟨_,h⟩
    ·exact h
    ·exfalso
     have hb:=((uP _ _).1 hg).2
     have huu:=(wu s.T.Black (UA hg) u).2 (.inr rfl)
     rcases hT with ⟨_,_,e⟩ | ⟨_,_,_,_,e⟩ | ⟨_,_,c,e⟩
     ·rw [eT,e] at h
      have:=congrArg zn.Black h
      exact absurd (by rw [this];exact huu) hb
     ·rw [eT,e] at h
      have:=congrArg zn.Black h
      exact absurd (by rw [this];exact huu) hb
     ·have hob:xk s.T x.Obj=1:=G.grey (zp7 hx (by unfold zN;rw [Xt (.inr c)];simp))
      rw [eT,e] at h
      unfold wR at h
      rw [if_pos hob] at h
      have hbb:s.T.Black|||bit x.Obj=s.T.Black|||bit u:=congrArg zn.Black h
      rw [←hbb] at huu
      rcases Xs huu with h2 | h2
      ·exact hb h2
      ·have hle:=hu.1 _ x hx (.inr (.inr c)) h2.symm
       have:=(I.sw _ x hx).2.2 c
       omega
   rcases sl2 u j hpos.2.1 (hu.1 _ x hx) with h | h | h
   ·left
    refine ⟨htint,fun i y hy=> ?_,fun i y hy=>hu.2 i y (by rw [←eX];exact hy)⟩
    rcases back i y hy with ⟨_,rfl⟩ | ⟨_,hy⟩
    ·exact h
    ·exact hu.1 i y hy
   ·exact .inr (.inl h)
   ·exact .inr (.inr (.inr (.inl ⟨_,_,here,h⟩)))
  ·have hpos:=Yt hj
   refine ⟨zlu G F hpos.1.2 hm0 hm1,fun i y hy hpc ho=> ?_,fun i y hy hpc ho=> ?_⟩
   ·rcases back i y hy with ⟨_,rfl⟩ | ⟨_,hy⟩
    ·exfalso
     rcases hT with ⟨_,_,e⟩ | ⟨_,_,c,_,e⟩ | ⟨_,_,c,e⟩
     ·rw [eT,e] at hm1;exact hm0 hm1
     ·have h3:(zh s w x).2.Obj=x.Obj:=by rw [zqP c];dsimp only;split<;>rfl
      exact hm0 (by rw [←ho,h3];exact zov G hx (.inr (.inl c)))
     ·rw [eT,e,(zcu _ _).1] at hm1;exact hm0 hm1
    ·exact absurd (ho▸zov G hy hpc) hm0
   ·rw [eX] at hy
    exact absurd (ho▸zoL G hy hpc) hm0
 refine ⟨fun o ho=> ?_,fun i y hy=> ?_,fun i y hy=>I.sx i y (by rw [←eX];exact hy),fun i y hy hW=> ?_⟩
 ·have h0:o≠0:=by have:=ho.in;omega
  rcases I.lv o ho with h | h
  ·exact .inl (mono o h)
  ·exact P.prot h h0
 ·rcases back i y hy with ⟨_,rfl⟩ | ⟨_,hy⟩
  ·exact sl1
  ·exact I.sw i y hy
 ·rw [eX] at hy
  obtain ⟨a,b⟩:=I.cv i y hy hW
  rw [eH]
  exact ⟨a,fun e=>(b e).imp id (fun h=>h.imp (mono _) id)⟩
end
end Go.Pe.G
namespace Go.Pe.G
open Go.Pe
noncomputable section
theorem zwl {m:List (BitVec 64)} {d:zg} (h:0≤d.PC∧d.PC≤6):d.PC<(Ua m d).2.PC∧(Ua m d).2.PC≤7:=by
 unfold Ua
 rw [if_neg (by omega)]
 split
 ·dsimp only;omega
 split
 ·dsimp only;omega
 split
 ·dsimp only;split<;>omega
 split
 ·dsimp only;omega
 split
 ·dsimp only;split<;>omega
 split
 ·dsimp only;omega
 ·dsimp only;omega
theorem ztQ {m:List (BitVec 64)} {d:zg} (h:0≤d.PC∧d.PC≤3):d.PC<(Yc m d).2.PC∧(Yc m d).2.PC≤7:=by
 unfold Yc
 rw [if_neg (by omega)]
 split
 ·dsimp only;omega
 split
 ·dsimp only;omega
 split
 ·dsimp only;omega
 ·split<;>(dsimp only;omega)
theorem zwo {m:List (BitVec 64)} {d:zg} (h0:d.Out=0) (h:(d.Kind=2∧0≤d.PC∧d.PC≤6)∨(d.Kind=3∧0≤d.PC∧d.PC≤3)):d.PC<(zL m d).2.PC∧(zL m d).2.PC≤7:=by
 unfold zL
 rw [if_neg (by omega)]
 rcases h with ⟨k,h⟩ | ⟨k,h⟩
 ·rw [if_neg (by omega),if_pos k];exact zwl h
 ·rw [if_neg (by omega),if_neg (by omega),if_pos k];exact ztQ h
def uS (n w v:Int):Nat:=(if v<w then w-v else n+w-v).toNat
theorem zh6 {n w v:Int} (hw:1≤w∧w≤n) (hv:1≤v∧v≤n):1≤uS n w v∧uS n w v≤n.toNat:=by
 unfold uS
 split<;>omega
theorem ztU {n w v:Int} (hw:1≤w∧w≤n) (hv:1≤v∧v≤n) (h:Xx n v≠w):uS n w (Xx n v)+1≤uS n w v:=by
 unfold Xx at h ⊢
 unfold uS
 by_cases c:v<n
 ·rw [if_pos c] at h ⊢
  by_cases c2:v<w
  ·rw [if_pos c2];split<;>omega
  ·rw [if_neg c2];split<;>omega
 ·rw [if_neg c] at h ⊢
  by_cases c2:v<w
  ·omega
  ·rw [if_neg c2];split<;>omega
def uI (p:zb) (M:List (BitVec 64)) (w:Int) (x:ze):Nat :=
 if x.PC=0∨x.PC=1 then 380+10*uS p.Workers w x.Victim+(8-x.D.PC).toNat
 else if x.PC=2 then 371+Zg M x.C
 else if x.PC=3 then 370
 else 2+40*x.Batch.length+(if x.PC=4 then 1+Zg M x.C else if x.PC=5 then 2+16*(p.H.Slots-x.Slot).toNat else if x.PC=6 then 3+16*(p.H.Slots-x.Slot).toNat+YX M x.G else if x.PC=8 then 2 else if x.PC=9 then 1 else 0)
theorem zwA {p:zb} {s:za} {gh:Gh} {g:zA} (G:GX p s gh g) (h0:g.Out=0):YX s.M g≤13:=by
 have hpc:=G.pc
 unfold YX
 split
 ·have:=zhT s.M (c:=g.C) (by have:=(G.c7 (by assumption) h0).2.1;omega);omega
 split
 ·omega
 split
 ·have:=zhT s.M (c:=g.C) (by have:=(G.c5 (by assumption) h0).2.1;omega);omega
 split
 ·omega
 split
 ·have:=(G.d3 (by assumption) h0).2.2.pc;omega
 split
 ·omega
 split<;>omega
theorem zwM {p:zb} (hp:zC p) {k:Nat} {s:za} {gh:Gh} {w:Int} {x:ze} (hk:k<4294960000) (G:FG p (zQ p+1) k s gh) (hw:1≤w∧w≤p.Workers) (hx:s.Ws[(w-1).toNat]? =some x) (O:WOk p (zQ p+1) w x) (K:WX p s gh w x) (S:zep p.H.Slots x) (hb:x.Batch.length≤9) (h3:x.PC=3→(ZS s x.Bin).length≤9) (hO:(zh s w x).2.PC=6→(zh s w x).2.G.Out=0) (hO0:(zh s w x).2.PC≤1→(zh s w x).2.D.Out=0) (hO2:(zh s w x).2.PC=2∨(zh s w x).2.PC=4→(zh s w x).2.C.Out=0) :
  uI p (zh s w x).1.M w (zh s w x).2<uI p s.M w x∨((zh s w x).2.PC=0∧(zh s w x).2.D.PC=0∧(zh s w x).2.Victim=w):=by
 have hP:=G.E.S.P
 have hpc:=O.pc
 have hvic:=O.vic
 have hsl:=hp.slots
 have hsH:s.H.Slots=p.H.Slots:=G.E.H.slots
 have hlen:=G.X.L.len
 have hF:=vT hp
 have hEm:=xx hp
 have hnb:=G.X.S.nbk
 have on: ∀i:Int,(onW s i=5∧i≠p.H.Slots)∨(onW s i=8∧i=p.H.Slots):=fun i=>by
  unfold onW
  rw [hsH]
  split
  ·exact .inr ⟨rfl,by assumption⟩
  ·exact .inl ⟨rfl,by assumption⟩
 have far: ∀ {M:List (BitVec 64)} {y:ze},4≤y.PC→uI p M w y=2+40*y.Batch.length+(if y.PC=4 then 1+Zg M y.C else if y.PC=5 then 2+16*(p.H.Slots-y.Slot).toNat else if y.PC=6 then 3+16*(p.H.Slots-y.Slot).toNat+YX M y.G else if y.PC=8 then 2 else if y.PC=9 then 1 else 0):=fun h=>by
  unfold uI;rw [if_neg (by omega),if_neg (by omega),if_neg (by omega)]
 have onv: ∀ {M:List (BitVec 64)} {y:ze},y.Batch=x.Batch→y.PC=onW s y.Slot→uI p M w y≤2+40*x.Batch.length+2+16*(p.H.Slots-y.Slot).toNat:=fun {M y} h1 h2=>by
  rcases on y.Slot with ⟨a,b⟩ | ⟨a,b⟩
  ·rw [far (by omega),h1,if_neg (by omega),if_pos (by omega)];omega
  ·rw [far (by omega),h1,if_neg (by omega),if_neg (by omega),if_neg (by omega),if_pos (by omega)];omega
 revert hO hO0 hO2
 unfold zh
 by_cases c01:x.PC=0∨x.PC=1
 ·rw [if_pos c01]
  dsimp only
  have hbt:=K.bt (by omega)
  have hd:(x.D.Out=0∧((x.D.Kind=2∧0≤x.D.PC∧x.D.PC≤6)∨(x.D.Kind=3∧0≤x.D.PC∧x.D.PC≤3))):=by
   rcases c01 with c | c
   ·have:=K.p0 c;exact ⟨this.out,.inl ⟨this.kind,this.pc⟩⟩
   ·have:=K.p1 c;exact ⟨this.out,.inr ⟨this.kind,this.pc⟩⟩
  have hq:=zwo (m:=s.M) hd.1 hd.2
  have hv:=zh6 hw hvic
  have e0:uI p s.M w x=380+10*uS p.Workers w x.Victim+(8-x.D.PC).toNat:=by unfold uI;rw [if_pos c01]
  split
  ·intro _ _ _
   left
   rw [e0,far (by show (4:Int)≤5;decide),if_neg (by show ¬(5:Int)=4;decide),if_pos rfl]
   dsimp only
   rw [hbt];show 2+40*0+(2+16*(p.H.Slots-0).toNat)<_;omega
  split
  ·intro _ _ _
   left
   rw [hP]
   unfold vn
   split
   ·rw [e0]
    unfold uI
    rw [if_neg (by show ¬((2:Int)=0∨(2:Int)=1);decide),if_pos rfl]
    have:Zg (zL s.M x.D).1 (zn7 p (zU p) 0)=3:=rfl
    show 371+Zg (zL s.M x.D).1 (zn7 p (zU p) 0)<_
    rw [this];omega
   ·rename_i hne
    have:=ztU hw hvic hne
    rw [e0]
    unfold uI
    rw [if_pos (.inr rfl)]
    show 380+10*uS p.Workers w (Xx p.Workers x.Victim)+(8-0:Int).toNat<_
    omega
  ·intro _ _ _
   left
   rw [e0]
   unfold uI
   rw [if_pos c01]
   show 380+10*uS p.Workers w x.Victim+(8-(zL s.M x.D).2.PC).toNat<_
   omega
 rw [if_neg c01]
 by_cases c2:x.PC=2
 ·rw [if_pos c2]
  dsimp only
  obtain ⟨q1,q2,q3⟩:=K.p2 c2
  have PO:=O.c2 c2
  have e0:uI p s.M w x=371+Zg s.M x.C:=by unfold uI;rw [if_neg c01,if_pos c2]
  have hr:=zeC (m:=s.M) q1 q2 (.inr PO.k) (by have:=PO.h;omega) (fun e=>by have:=PO.k;omega)
  split
  ·intro _ _ _
   left
   rw [e0]
   unfold uI
   rw [if_neg (by show ¬((3:Int)=0∨(3:Int)=1);decide),if_neg (by show ¬(3:Int)=2;decide),if_pos rfl];omega
  split
  ·intro _ _ _
   right
   rw [hP];exact ⟨rfl,rfl,rfl⟩
  ·intro _ _ hO2
   left
   have ho:=hO2 (.inl c2)
   have:=hr.resolve_left (fun h=>h ho)
   rw [e0]
   unfold uI
   rw [if_neg c01,if_pos c2]
   show 371+Zg (zj s.M x.C).1 (zj s.M x.C).2<_
   omega
 rw [if_neg c2]
 by_cases c3:x.PC=3
 ·rw [if_pos c3]
  intro _ _ _
  left
  have e0:uI p s.M w x=370:=by unfold uI;rw [if_neg c01,if_neg c2,if_pos c3]
  have:=h3 c3
  rw [e0,far (by show (4:Int)≤4;decide),if_pos rfl]
  have:Zg s.M (XD s.P (zD s.P) x.Bin)=3:=rfl
  show 2+40*(ZS s x.Bin).length+(1+Zg s.M (XD s.P (zD s.P) x.Bin))<370
  omega
 rw [if_neg c3]
 have e0:=far (M:=s.M) (y:=x) (by omega)
 by_cases c4:x.PC=4
 ·rw [if_pos c4]
  dsimp only
  obtain ⟨q1,q2,q3,q4⟩:=K.p4 c4
  have PO:=O.c4 c4
  rw [if_pos c4] at e0
  have hr:=zeC (m:=s.M) q1 q2 (.inl PO.k) (by have:=PO.h;omega) (fun _=>by have:=PO.h;have:=PO.n;have:=PO.x;rw [PO.n,xm (by omega) (by omega)];omega)
  split
  ·intro _ _ _
   left
   rw [e0,far (by show (4:Int)≤7;decide),if_neg (by show ¬(7:Int)=4;decide),if_neg (by show ¬(7:Int)=5;decide),if_neg (by show ¬(7:Int)=6;decide),if_neg (by show ¬(7:Int)=8;decide),if_neg (by show ¬(7:Int)=9;decide)]
   dsimp only;omega
  ·intro _ _ hO2
   left
   have:=hr.resolve_left (fun h=>h (hO2 (.inr c4)))
   rw [e0,far (by show 4≤x.PC;omega),if_pos (show x.PC=4 from c4)]
   show 2+40*x.Batch.length+(1+Zg (zj s.M x.C).1 (zj s.M x.C).2)<_
   omega
 rw [if_neg c4]
 rw [if_neg c4] at e0
 by_cases c5:x.PC=5
 ·rw [if_pos c5]
  intro _ _ _
  left
  have hs:=S.1 c5
  have ws:wc (x.Slot+1)=x.Slot+1:=xm (by omega) (by omega)
  rw [if_pos c5] at e0
  split
  ·have:=onv (M:=s.M) (y:={x with Slot:=wc (x.Slot+1),PC:=onW s (wc (x.Slot+1))}) rfl rfl
   dsimp only at this ⊢
   rw [ws] at this ⊢
   omega
  ·rw [e0,far (by show (4:Int)≤6;decide),if_neg (by show ¬(6:Int)=4;decide),if_neg (by show ¬(6:Int)=5;decide),if_pos rfl]
   have:YX s.M (Yw 1 (zM s.H x.Obj x.Slot) w)=13:=rfl
   dsimp only
   rw [this,ws];omega
 rw [if_neg c5]
 rw [if_neg c5] at e0
 by_cases c6:x.PC=6
 ·rw [if_pos c6]
  rw [if_pos c6] at e0
  dsimp only
  obtain ⟨GK,gm,gw,g0⟩:=K.p6 c6
  have MO:=O.g6 c6
  have hrem:=zux hp G.X GK MO.1 g0 (fun h5 e2=>by
   obtain ⟨q1,q2,q3⟩:=GK.c5 h5 g0
   obtain ⟨m1,m2,m3,m4,m5⟩:=MO.1.c5 h5
   have S':SOk p (zQ p+1) {s with M:=(zj s.M x.G.C).1}:=(zjs hp G.X.S (.inr rfl) m1 m2 m3 m4 m5 (MO.2.1 h5)).1
   rcases SX.popE hp G.X hk m1 m2 m3 q1 q2 q3 m4 S' with ⟨x1,x2,x3,x4⟩ | ⟨y,l,x1,x2,x3⟩
   ·exact G.empty hp (.inl ⟨x,List.mem_of_getElem? hx,by rw [znL c6];exact wN (.inr (by omega))⟩) (x4 e2)
   ·omega)
  split
  ·intro _ _ _
   left
   have:=onv (M:=(zp s x.G).1.M) (y:={x with G:=(zp s x.G).2,PC:=onW s x.Slot}) rfl rfl
   dsimp only at this ⊢
   rw [e0];omega
  ·intro hO _ _
   left
   have:=hrem.resolve_left (fun h=>h (hO c6))
   rw [e0,far (by show 4≤x.PC;omega),if_neg (by show ¬x.PC=4;omega),if_neg (by show ¬x.PC=5;omega),if_pos (show x.PC=6 from c6)]
   dsimp only;omega
 rw [if_neg c6]
 rw [if_neg c6] at e0
 by_cases c7:x.PC=7
 ·rw [if_pos c7]
  rw [if_neg (by omega),if_neg (by omega)] at e0
  intro _ _ _
  dsimp only
  split
  ·right;rw [hP];exact ⟨rfl,rfl,rfl⟩
  ·rename_i o l e
   left
   rw [e] at e0
   rw [e0,far (by show (4:Int)≤5;decide),if_neg (by show ¬(5:Int)=4;decide),if_pos rfl]
   show 2+40*l.length+(2+16*(p.H.Slots-0).toNat)<2+40*(o::l).length+0
   rw [List.length_cons];omega
 rw [if_neg c7]
 by_cases c8:x.PC=8
 ·rw [if_pos c8]
  rw [if_pos c8] at e0
  intro _ _ _
  left
  rw [e0,far (by show (4:Int)≤9;decide),if_neg (by show ¬(9:Int)=4;decide),if_neg (by show ¬(9:Int)=5;decide),if_neg (by show ¬(9:Int)=6;decide),if_neg (by show ¬(9:Int)=8;decide),if_pos rfl]
  dsimp only;omega
 rw [if_neg c8]
 rw [if_neg c8] at e0
 have c9:x.PC=9:=by omega
 rw [if_pos c9] at e0
 rw [if_pos c9]
 intro _ _ _
 left
 rw [e0,far (by show (4:Int)≤7;decide),if_neg (by show ¬(7:Int)=4;decide),if_neg (by show ¬(7:Int)=5;decide),if_neg (by show ¬(7:Int)=6;decide),if_neg (by show ¬(7:Int)=8;decide),if_neg (by show ¬(7:Int)=9;decide)]
 dsimp only;omega
theorem zrG {α β:Type} {f:α→List β} {x:α}: ∀ {l:List α},x∈l→(f x).Sublist (l.flatMap f)
 | [],h=>by cases h
 | a::l,h=>by
  rw [List.flatMap_cons]
  rcases List.mem_cons.1 h with rfl | h
  ·exact List.sublist_append_left _ _
  ·exact (zrG h).trans (List.sublist_append_right _ _)
theorem FG.hold9 {p:zb} (hp:zC p) {nb k:Nat} {s:za} {gh:Gh} (G:FG p nb k s gh) {x:ze} (hx:x∈s.Ws):(zN s x).length≤9:=by
 have hN:=G.E.H.n
 have hn:=hp.n
 have hmo:=hp.most
 have hs:(zN s x).Sublist (WP p s gh):=(zrG hx).trans ((List.sublist_append_left _ _).trans (List.sublist_append_right _ _))
 have:=zlS s.H.Objs.length _ (G.B.nd.sublist hs) (fun o ho=>by
  have ho:=hs.subset ho
  exact ⟨(UA ((G.B.gr o).1 ho)).1,G.mrk o ((uP _ _).1 ((G.B.gr o).1 ho)).1⟩)
 omega
structure SI (p:zb) (k:Nat) (s:za) (gh:Gh):Prop where
 G:FG p (zQ p+1) k s gh
 d:s.Done=false
 sl: ∀(i:Nat) x,s.Ws[i]? =some x→zep p.H.Slots x
theorem SI.step2 {p:zb} (hp:zC p) {k:Nat} {s:za} {gh:Gh} (hk:k<4294960000) (I:SI p k s gh) {w:Int} (hw:1≤w∧w≤p.Workers) {x:ze} (hx:s.Ws[(w-1).toNat]? =some x) :
  ∃gh',SI p (k+1) (zE s w) gh'∧(zE s w).Ws[(w-1).toNat]? =some (zh s w x).2∧(uI p (zh s w x).1.M w (zh s w x).2<uI p s.M w x∨((zh s w x).2.PC=0∧(zh s w x).2.D.PC=0∧(zh s w x).2.Victim=w)) ∧
   (zE s w).M=(zh s w x).1.M∧(zE s w).T=(zh s w x).1.T∧(zE s w).Bins=(zh s w x).1.Bins∧zau s (zE s w):=by
 have G:=I.G
 have hwl:=G.E.wl
 have hi:(w-1).toNat<s.Ws.length:=by omega
 have ei:(((w-1).toNat:Nat):Int)+1=w:=by omega
 obtain ⟨gh',G',hFM,_⟩:=G.worker hp hk hw I.d
 have eS:zE s w={(zh s w x).1 with Ws:=s.Ws.set (w-1).toNat (zh s w x).2}:=by
  unfold zE
  rw [if_neg (by rw [I.d];rintro (e | e | e)<;>first | cases e | omega),hx]
 have eM:(zE s w).M=(zh s w x).1.M:=by rw [eS]
 have eX:(zE s w).Ws[(w-1).toNat]? =some (zh s w x).2:=by rw [eS];exact List.getElem?_set_self hi
 have O:=G.E.W _ x hx
 have K:=G.W _ x hx
 rw [ei] at O K
 have K':=G'.W _ _ eX
 have h9:=G.hold9 hp (List.mem_of_getElem? hx)
 unfold zN at h9
 rw [List.length_append] at h9
 have hst:=zwM hp hk G hw hx O K (I.sl _ x hx) (by omega) (fun c=>by rw [ziW,←zqk c];omega) (fun c=>(K'.p6 c).2.2.2) (fun c=>by
  have hpc:=(G'.E.W _ _ eX).pc
  by_cases c0:(zh s w x).2.PC=0
  ·exact (K'.p0 c0).out
  ·exact (K'.p1 (by omega)).out) (fun c=>c.elim (fun c=>(K'.p2 c).1) (fun c=>(K'.p4 c).1))
 refine ⟨gh',⟨G',?_,fun i y hy=> ?_⟩,eX,hst,eM,by rw [eS],by rw [eS],hFM⟩
 ·have hf:=zlI G.E w
  rw [hf];exact I.d
 ·rw [eS] at hy
  have hy:(s.Ws.set (w-1).toNat (zh s w x).2)[i]? =some y:=hy
  by_cases e:i=(w-1).toNat
  ·subst e
   rw [List.getElem?_set_self hi] at hy
   injection hy with hy;subst hy
   exact (zm0 G.E.H.slots hp.slots O (I.sl _ x hx)).1
  ·rw [List.getElem?_set_ne (fun h=>e h.symm)] at hy
   exact I.sl i y hy
theorem SI.step {p:zb} (hp:zC p) {k:Nat} {s:za} {gh:Gh} (hk:k<4294960000) (I:SI p k s gh) {w:Int} (hw:1≤w∧w≤p.Workers) {x:ze} (hx:s.Ws[(w-1).toNat]? =some x) :
  ∃gh' x',SI p (k+1) (zE s w) gh'∧(zE s w).Ws[(w-1).toNat]? =some x'∧(uI p (zE s w).M w x'<uI p s.M w x∨(x'.PC=0∧x'.D.PC=0∧x'.Victim=w)):=by
 obtain ⟨gh',I',hX,h,eM,_⟩:=I.step2 hp hk hw hx
 exact ⟨gh',_,I',hX,by rw [eM];exact h⟩
theorem SI.le {p:zb} (hp:zC p) {k:Nat} {s:za} {gh:Gh} (I:SI p k s gh) {w:Int} (hw:1≤w∧w≤p.Workers) {x:ze} (hx:s.Ws[(w-1).toNat]? =some x):uI p s.M w x≤418:=by
 have G:=I.G
 have hwk:=hp.wk
 have hsl:=hp.slots
 have ei:(((w-1).toNat:Nat):Int)+1=w:=by omega
 have O:=G.E.W _ x hx
 have K:=G.W _ x hx
 have S:=I.sl _ x hx
 rw [ei] at O K
 have h9:=G.hold9 hp (List.mem_of_getElem? hx)
 unfold zN at h9
 rw [List.length_append] at h9
 have hv:=zh6 hw O.vic
 have hpc:=O.pc
 unfold uI
 split
 ·rename_i c
  have:0≤x.D.PC:=by
   rcases c with c | c
   ·have:=(K.p0 c).pc;omega
   ·have:=(K.p1 c).pc;omega
  omega
 split
 ·have:=zhT s.M (c:=x.C) (by have:=(K.p2 (by assumption)).2.1;omega)
  omega
 split
 ·omega
 split
 ·have:=zhT s.M (c:=x.C) (by have:=(K.p4 (by assumption)).2.1;omega)
  omega
 split
 ·have:=S.1 (by assumption);omega
 split
 ·rename_i c
  have:=S.2.1 c
  have:=zwA (K.p6 c).1 (K.p6 c).2.2.2
  omega
 split
 ·omega
 split<;>omega
theorem zxx {p:zb} (hp:zC p):SI p 0 (wi p) (gh0 p):=by
 refine ⟨zxB hp,rfl,fun i x hx=> ?_⟩
 obtain ⟨j,_,e⟩:=List.mem_map.1 (show x∈(List.range p.Workers.toNat).map (uW p) from List.mem_of_getElem? hx)
 have:x.PC=0:=by rw [←e];rfl
 exact ⟨fun e=>by omega,fun e=>by omega,fun e=>by omega⟩
end
end Go.Pe.G
namespace Go.Pe.G
open Go.Pe
noncomputable section
theorem zjK {x y:BitVec 64} (hx:x.toNat<8589934592) (hy:y.toNat<8589934592):0<(x-y).toInt↔y.toNat<x.toNat:=by
 rw [BitVec.toInt_eq_toNat_cond,BitVec.toNat_sub]
 split<;>omega
theorem zsy {x:BitVec 64} (h:1≤x.toNat):(x-1#64).toNat=x.toNat-1:=by
 have:=x.isLt
 rw [BitVec.toNat_sub]
 show (18446744073709551616-1+x.toNat)%18446744073709551616=_
 omega
theorem DQ.nat {p:zb} {m:List (BitVec 64)} {w:Int} {t c:Nat} {l:List Int} (D:DQ p m w t l c):(ld m (zF p w)).toNat=t∧(ld m (zF p w+1)).toNat=t+l.length-c∧t+l.length<4294967296∧1≤t∧c≤1:=by
 have h1:=D.small
 have h2:=D.t1
 refine ⟨?_,?_,h1,h2,D.c1⟩
 ·rw [D.top,BitVec.toNat_ofNat];omega
 ·rw [D.bot,BitVec.toNat_ofNat];omega
def VE (p:zb) (M:List (BitVec 64)) (v:Int):Prop:=(ld M (zF p v+1)).toNat≤(ld M (zF p v)).toNat
def FE (p:zb) (M:List (BitVec 64)):Prop:=yo (ld M (zU p))=0
structure zxN (all:Bool) (M:List (BitVec 64)) (b:Int) (d:zg):Prop where
 p1:d.PC=1→d.B=ld M (b+1)
 p2:d.PC=2→ld M (b+1)=d.B-1#64∧1≤d.B.toNat∧d.B.toNat<8589934592∧(all=true→d.B.toNat≤(ld M b).toNat)
 p3:d.PC=3∨d.PC=4→all=false∧d.T=ld M b
 p5:d.PC=5→d.B.toNat≤(ld M b).toNat
 p6:d.PC=6→all=false
structure zt6 (all:Bool) (M:List (BitVec 64)) (b:Int) (d:zg):Prop where
 s1:d.PC=1→d.T=ld M b
 s2:d.PC=2∨d.PC=3→all=false∧d.T=ld M b
structure Swp (p:zb) (all:Bool) (M:List (BitVec 64)) (w:Int) (x:ze):Prop where
 pc:x.PC=0∨x.PC=1∨x.PC=2
 kn: ∀u,1≤u→u≤p.Workers→(all=true∨x.PC=2∨(x.PC=1∧(u=w∨uS p.Workers w x.Victim<uS p.Workers w u)))→VE p M u
 fe:all=true→FE p M
 v0:x.PC=0→x.Victim=w
 i0:x.PC=0→zxN all M (zF p w) x.D
 i1:x.PC=1→zt6 all M (zF p x.Victim) x.D
 i2:x.PC=2→1≤x.C.PC→all=false∧x.C.H=ld M (zU p)
theorem zti {n w v:Int} (hw:1≤w∧w≤n) (hv:1≤v∧v≤n) (h:Xx n v≠w):uS n w v=uS n w (Xx n v)+1:=by
 unfold Xx at h ⊢
 unfold uS
 by_cases c:v<n
 ·rw [if_pos c] at h ⊢
  by_cases c2:v<w
  ·rw [if_pos c2,if_pos (by omega)];omega
  ·rw [if_neg c2,if_neg (by omega)];omega
 ·rw [if_neg c] at h ⊢
  by_cases c2:v<w
  ·omega
  ·rw [if_neg c2,if_pos (by omega)];omega
theorem zu2 {n w v:Int} (hw:1≤w∧w≤n) (hv:1≤v∧v≤n) (h:Xx n v=w):uS n w v=1:=by
 unfold Xx at h
 unfold uS
 by_cases c:v<n
 ·rw [if_pos c] at h
  rw [if_pos (by omega)];omega
 ·rw [if_neg c] at h
  rw [if_neg (by omega)];omega
theorem zpm {n w:Int} (hw:1≤w∧w≤n):uS n w w=n.toNat:=by
 unfold uS
 rw [if_neg (by omega)];omega
theorem zrq {n w u v:Int} (hw:1≤w∧w≤n) (hu:1≤u∧u≤n) (hv:1≤v∧v≤n) (h:uS n w u=uS n w v):u=v:=by
 unfold uS at h
 split at h<;>split at h<;>omega
theorem zrk {p:zb} {all:Bool} {M:List (BitVec 64)} {w:Int} {x:ze} (hw:1≤w∧w≤p.Workers) (hv:1≤x.Victim∧x.Victim≤p.Workers)
  (kn: ∀u,1≤u→u≤p.Workers→(all=true∨u=w∨uS p.Workers w x.Victim≤uS p.Workers w u)→VE p M u) (fe:all=true→FE p M):Swp p all M w (vn p w x):=by
 unfold vn
 split
 ·rename_i h
  have h1:=zu2 hw hv h
  exact ⟨.inr (.inr rfl),fun u a b _=>kn u a b (.inr (.inr (by have:=(zh6 hw ⟨a,b⟩).1;omega))),fe,fun e=>(by cases e),fun e=>(by cases e),fun e=>(by cases e),fun _ e=>absurd e (by show ¬(1:Int)≤0;decide)⟩
 ·rename_i h
  have h1:=zti hw hv h
  refine ⟨.inr (.inl rfl),fun u a b hk=>kn u a b ?_,fe,fun e=>(by cases e),fun e=>(by cases e),fun _=>⟨fun e=>(by cases e),fun e=>(by rcases e with e | e<;>cases e)⟩,fun e=>(by cases e)⟩
  rcases hk with e | e | ⟨_,e | e⟩
  ·exact .inl e
  ·cases e
  ·exact .inr (.inl e)
  ·exact .inr (.inr (by dsimp only at e;omega))
theorem zsC (p:zb) (w:Int) (x:ze):(vn p w x).PC≠0:=by
 unfold vn
 split
 ·show (2:Int)≠0;decide
 ·show (1:Int)≠0;decide
theorem zu3 {p:zb} {all:Bool} {M:List (BitVec 64)} {w:Int} {x:ze} (kn:all=true→∀u,1≤u→u≤p.Workers→VE p M u) (fe:all=true→FE p M):Swp p all M w (X3 p w x):=by
 refine ⟨.inl rfl,fun u a b hk=> ?_,fe,fun _=>rfl,fun _=>⟨fun e=>(by cases e),fun e=>(by cases e),fun e=>(by rcases e with e | e<;>cases e),fun e=>(by cases e),fun e=>(by cases e)⟩,fun e=>(by cases e),fun e=>(by cases e)⟩
 rcases hk with e | e | ⟨e,_⟩
 ·exact kn e u a b
 ·cases e
 ·cases e
theorem VE.keep {p:zb} {M M':List (BitVec 64)} {v:Int} (h:VE p M v) (e0:ld M' (zF p v)=ld M (zF p v)) (e1:ld M' (zF p v+1)=ld M (zF p v+1)):VE p M' v:=by
 unfold VE
 rw [e0,e1];exact h
theorem zvZ {p:zb} (hp:zC p) {k:Nat} {s:za} {gh:Gh} {all:Bool} {w:Int} {x:ze} (G:FG p (zQ p+1) k s gh) (hw:1≤w∧w≤p.Workers) (O:WOk p (zQ p+1) w x) (K:WX p s gh w x) (Sw:Swp p all s.M w x) :
  (Swp p all (zh s w x).1.M w (zh s w x).2∧((zh s w x).2.PC=0→x.PC=0))∨(all=false∧((zh s w x).2.PC=5∨(zh s w x).2.PC=3))∨(Swp p true (zh s w x).1.M w (zh s w x).2∧(zh s w x).2.PC=0∧(zh s w x).2.D.PC=0):=by
 have hP:=G.E.S.P
 have hvic:=O.vic
 have hF:=vT hp
 have hEm:=xx hp
 have hlen:=G.X.L.len
 have hcap:=hp.cap
 have hself:=zpm hw
 have hb:0≤zF p w∧zF p w+p.Cap+2≤zU p:=(uV hp hw.1 hw.2).2
 have hbv:0≤zF p x.Victim∧zF p x.Victim+p.Cap+2≤zU p:=(uV hp hvic.1 hvic.2).2
 have w1:wc (zF p w+1)=zF p w+1:=xm (by omega) (by omega)
 have w1v:wc (zF p x.Victim+1)=zF p x.Victim+1:=xm (by omega) (by omega)
 have N:=fun u (a:1≤u) (b:u≤p.Workers)=>(G.X.D u a b).nat
 rcases Sw.pc with c | c | c
 ·-- it pops
  obtain ⟨i1,i2,i3,i5,i6⟩:=Sw.i0 c
  have PKw:=K.p0 c
  obtain ⟨n1,n2,n3,n4,n5⟩:=N w hw.1 hw.2
  have hkind:=PKw.kind
  have hbase:=PKw.base
  have hout:=PKw.out
  have hpc:=PKw.pc
  have hv0:=Sw.v0 c
  have knA: ∀u,1≤u→u≤p.Workers→all=true→VE p s.M u:=fun u a b e=>Sw.kn u a b (.inl e)
  have turn: ∀(v:BitVec 64) (u:Int),1≤u→u≤p.Workers→u≠w→VE p s.M u→VE p (st s.M (zF p w+1) v) u:=fun v u a b ne h=>by
   have:=zlj hp ⟨a,b⟩ hw ne
   exact h.keep (yg (by omega)) (yg (by omega))
  have own0: ∀v:BitVec 64,ld (st s.M (zF p w+1) v) (zF p w)=ld s.M (zF p w):=fun v=>yg (by omega)
  have own1: ∀v:BitVec 64,ld (st s.M (zF p w+1) v) (zF p w+1)=v:=fun v=>by rw [YI,if_pos ⟨rfl,by omega,by omega⟩]
  have fe': ∀v:BitVec 64,all=true→FE p (st s.M (zF p w+1) v):=fun v e=>by
   unfold FE
   rw [yg (by omega)];exact Sw.fe e
  have eq:zL s.M x.D=Ua s.M x.D:=by
   unfold zL
   rw [if_neg (by omega),if_neg (by omega),if_pos hkind]
  have same: ∀ {M:List (BitVec 64)} {y:ze},y.PC=0→y.Victim=w→(all=true→∀u,1≤u→u≤p.Workers→VE p M u)→(all=true→FE p M)→zxN all M (zF p w) y.D→Swp p all M w y:=fun a b e f i =>
   ⟨.inl a,fun u h1 h2 hk=>by
    rcases hk with h | h | ⟨h,_⟩
    ·exact e h u h1 h2
    ·omega
    ·omega,f,fun _=>b,fun _=>i,fun h=>by omega,fun h=>by omega⟩
  unfold zh
  rw [if_pos (.inl c),eq]
  dsimp only
  unfold Ua
  rw [if_neg (by omega),hbase,w1]
  by_cases d0:x.D.PC=0
  ·rw [if_pos d0];dsimp only
   rw [if_neg (by omega),if_neg (by omega)]
   exact .inl ⟨same c hv0 (fun e u a b=>knA u a b e) Sw.fe ⟨fun _=>rfl,fun e=>(by cases e),fun e=>(by rcases e with e | e<;>cases e),fun e=>(by cases e),fun e=>(by cases e)⟩,fun _=>c⟩
  rw [if_neg d0]
  by_cases d1:x.D.PC=1
  ·rw [if_pos d1];dsimp only
   rw [if_neg (by omega),if_neg (by omega)]
   have hB:=i1 d1
   have hc0:gh.c w=0:=PKw.c0 (by omega)
   have hBn:x.D.B.toNat=gh.t w+(gh.D w).length:=by rw [hB,n2];omega
   have hB1:=zsy (x:=x.D.B) (by omega)
   have hall:all=true→x.D.B.toNat≤(ld s.M (zF p w)).toNat:=fun e=>by
    have:=knA w hw.1 hw.2 e
    unfold VE at this
    rw [←hB] at this;exact this
   refine .inl ⟨same c hv0 (fun e u a b=> ?_) (fe' _) ⟨fun e=>(by cases e),fun _=>⟨own1 _,by dsimp only;omega,by dsimp only;omega,fun e=>by dsimp only;rw [own0];exact hall e⟩,fun e=>(by rcases e with e | e<;>cases e),fun e=>(by cases e),fun e=>(by cases e)⟩,fun _=>c⟩
   by_cases ne:u=w
   ·subst ne
    unfold VE
    rw [own0,own1,hB1]
    have:=hall e
    omega
   ·exact turn _ u a b ne (knA u a b e)
  rw [if_neg d1]
  by_cases d2:x.D.PC=2
  ·rw [if_pos d2];dsimp only
   rw [if_neg (by omega),if_neg (by omega)]
   obtain ⟨q1,q2,q3,q4⟩:=i2 d2
   have hB1:=zsy q2
   have hab:=zjK (x:=ld s.M (zF p w)) (y:=x.D.B-1#64) (by omega) (by omega)
   refine .inl ⟨same c hv0 (fun e u a b=>knA u a b e) Sw.fe ?_,fun _=>c⟩
   by_cases ht:0<(ld s.M (zF p w)-(x.D.B-1#64)).toInt
   ·have:=hab.1 ht
    refine ⟨fun e=> ?_,fun e=> ?_,fun e=> ?_,fun _=>by dsimp only;omega,fun e=> ?_⟩
    all_goals (dsimp only at e;rw [if_pos ht] at e;omega)
   ·have hn:all=false:=by
     cases ha:all with
     | false=>rfl
     | true=>exact absurd (hab.2 (by have:=q4 ha;omega)) ht
    refine ⟨fun e=> ?_,fun e=> ?_,fun _=>⟨hn,rfl⟩,fun e=> ?_,fun _=>hn⟩
    all_goals (dsimp only at e;rw [if_neg ht] at e;omega)
  rw [if_neg d2]
  by_cases d3:x.D.PC=3
  ·rw [if_pos d3];dsimp only
   obtain ⟨q1,q2⟩:=i3 (.inl d3)
   by_cases ht:x.D.T=x.D.B-1#64
   ·rw [if_pos ht]
    rw [if_neg (by omega),if_neg (by omega)]
    exact .inl ⟨same c hv0 (fun e u a b=>knA u a b e) Sw.fe ⟨fun e=>(by cases e),fun e=>(by cases e),fun _=>⟨q1,q2⟩,fun e=>(by cases e),fun e=>(by cases e)⟩,fun _=>c⟩
   ·rw [if_neg ht,if_pos rfl]
    exact .inr (.inl ⟨q1,.inl rfl⟩)
  rw [if_neg d3]
  by_cases d4:x.D.PC=4
  ·rw [if_pos d4];dsimp only
   obtain ⟨q1,q2⟩:=i3 (.inr d4)
   rw [if_neg (by omega),if_neg (by omega)]
   have e2:(sw s.M (zF p w) x.D.T (x.D.T+1#64)).2=true:=by
    unfold sw
    rw [if_pos ⟨by omega,by omega,q2.symm⟩]
   have no: ∀ {q:Prop},all=true→q:=fun e=>by rw [q1] at e;cases e
   refine .inl ⟨same c hv0 (fun e=>no e) (fun e=>no e) ?_,fun _=>c⟩
   rw [e2]
   exact ⟨fun e=>(by cases e),fun e=>(by cases e),fun e=>(by rcases e with e | e<;>cases e),fun e=>(by cases e),fun _=>q1⟩
  rw [if_neg d4]
  by_cases d5:x.D.PC=5
  ·rw [if_pos d5];dsimp only
   rw [if_neg (by decide),if_pos (.inl rfl),hP]
   have hT:=i5 d5
   refine .inl ⟨zrk hw hvic (fun u a b hk=> ?_) (fe' _),fun e=>absurd e (zsC _ _ _)⟩
   by_cases ne:u=w
   ·subst ne
    unfold VE
    rw [own0,own1];exact hT
   ·refine turn _ u a b ne ?_
    rcases hk with e | e | e
    ·exact knA u a b e
    ·exact absurd e ne
    ·exfalso
     have h1:uS p.Workers w x.Victim≤uS p.Workers w u:=e
     rw [hv0,hself] at h1
     have h2:=(zh6 hw ⟨a,b⟩).2
     exact ne (zrq hw ⟨a,b⟩ hw (by rw [hself];omega))
  ·rw [if_neg d5];dsimp only
   rw [if_pos rfl]
   exact .inr (.inl ⟨i6 (by omega),.inl rfl⟩)
 ·-- it steals
  obtain ⟨i1,i2⟩:=Sw.i1 c
  have TKv:=K.p1 c
  have hkind:=TKv.kind
  have hbase:=TKv.base
  have hout:=TKv.out
  have hpc:=TKv.pc
  obtain ⟨n1,n2,n3,n4,n5⟩:=N x.Victim hvic.1 hvic.2
  have eq:zL s.M x.D=Yc s.M x.D:=by
   unfold zL
   rw [if_neg (by omega),if_neg (by omega),if_neg (by omega),if_pos hkind]
  have same: ∀ {y:ze},y.PC=1→y.Victim=x.Victim→zt6 all s.M (zF p x.Victim) y.D→Swp p all s.M w y:=fun {y} a b i =>
   ⟨.inr (.inl a),fun u h1 h2 hk=>Sw.kn u h1 h2 (by
    rcases hk with h | h | ⟨h,h'⟩
    ·exact .inl h
    ·omega
    ·exact .inr (.inr ⟨c,by rw [←b];exact h'⟩)),Sw.fe,fun h=>by omega,fun h=>by omega,fun _=>by rw [b];exact i,fun h=>by omega⟩
  unfold zh
  rw [if_pos (.inr c),eq]
  dsimp only
  unfold Yc
  rw [if_neg (by omega),hbase,w1v]
  by_cases d0:x.D.PC=0
  ·rw [if_pos d0];dsimp only
   rw [if_neg (by omega),if_neg (by omega)]
   exact .inl ⟨same c rfl ⟨fun _=>rfl,fun e=>(by rcases e with e | e<;>cases e)⟩,fun e=>absurd (show x.PC=0 from e) (by omega)⟩
  rw [if_neg d0]
  by_cases d1:x.D.PC=1
  ·rw [if_pos d1];dsimp only
   have hT:=i1 d1
   have hab:=zjK (x:=ld s.M (zF p x.Victim+1)) (y:=x.D.T) (by omega) (by rw [hT];omega)
   by_cases ht:0<(ld s.M (zF p x.Victim+1)-x.D.T).toInt
   ·rw [if_pos ht,if_neg (by omega),if_neg (by omega)]
    have hlt:=hab.1 ht
    have hn:all=false:=by
     cases ha:all with
     | false=>rfl
     | true =>
      have:=Sw.kn x.Victim hvic.1 hvic.2 (.inl ha)
      unfold VE at this
      rw [hT] at hlt;omega
    exact .inl ⟨same c rfl ⟨fun e=>(by cases e),fun _=>⟨hn,hT⟩⟩,fun e=>absurd (show x.PC=0 from e) (by omega)⟩
   ·rw [if_neg ht,if_neg (by decide),if_pos (.inl rfl),hP]
    have hve:VE p s.M x.Victim:=by
     unfold VE
     rw [←hT]
     exact Nat.le_of_not_lt (fun e=>ht (hab.2 e))
    refine .inl ⟨zrk hw ?_ (fun u a b hk=> ?_) Sw.fe,fun e=>absurd e (zsC _ _ _)⟩
    ·exact hvic
    rcases hk with e | e | e
    ·exact Sw.kn u a b (.inl e)
    ·exact Sw.kn u a b (.inr (.inr ⟨c,.inl e⟩))
    ·have e:uS p.Workers w x.Victim≤uS p.Workers w u:=e
     by_cases e2:uS p.Workers w x.Victim=uS p.Workers w u
     ·rw [←zrq hw hvic ⟨a,b⟩ e2];exact hve
     ·exact Sw.kn u a b (.inr (.inr ⟨c,.inr (by omega)⟩))
  rw [if_neg d1]
  by_cases d2:x.D.PC=2
  ·rw [if_pos d2];dsimp only
   rw [if_neg (by omega),if_neg (by omega)]
   exact .inl ⟨same c rfl ⟨fun e=>(by cases e),fun _=>i2 (.inl d2)⟩,fun e=>absurd (show x.PC=0 from e) (by omega)⟩
  ·rw [if_neg d2];dsimp only
   obtain ⟨q1,q2⟩:=i2 (.inr (by omega))
   have e2:(sw s.M (zF p x.Victim) x.D.T (x.D.T+1#64)).2=true:=by
    unfold sw
    rw [if_pos ⟨by omega,by omega,q2.symm⟩]
   rw [e2,if_pos rfl,if_pos rfl]
   exact .inr (.inl ⟨q1,.inl rfl⟩)
 ·-- it asks for a full bin
  have i2:=Sw.i2 c
  obtain ⟨q1,q2,q3⟩:=K.p2 c
  have PO:=O.c2 c
  have hk:=PO.k
  have hh:=PO.h
  unfold zh
  rw [if_neg (by omega),if_pos c]
  dsimp only
  unfold zj
  rw [if_neg (by omega)]
  have same: ∀ {y:ze},y.PC=2→(1≤y.C.PC→all=false∧y.C.H=ld s.M (zU p))→Swp p all s.M w y:=fun {y} a i =>
   ⟨.inr (.inr a),fun u h1 h2 _=>Sw.kn u h1 h2 (.inr (.inl c)),Sw.fe,fun h=>by omega,fun h=>by omega,fun h=>by omega,fun _=>i⟩
  by_cases d0:x.C.PC=0
  ·rw [if_pos d0];dsimp only
   by_cases hn:yo (ld s.M x.C.Head)=0
   ·rw [if_pos (show x.C.Kind=2∧yo (ld s.M x.C.Head)=0 from ⟨hk,hn⟩),if_neg (show ¬(2:Int)=1 by decide),if_pos rfl,hP]
    right;right
    refine ⟨zu3 (fun _ u a b=>Sw.kn u a b (.inr (.inl c))) (fun _=> ?_),rfl,rfl⟩
    unfold FE
    rw [←hh];exact hn
   ·rw [if_neg (show ¬(x.C.Kind=2∧yo (ld s.M x.C.Head)=0) from fun h=>hn h.2),if_neg (show ¬x.C.Out=1 by omega),if_neg (show ¬x.C.Out=2 by omega)]
    refine .inl ⟨same c (fun _=>⟨?_,by dsimp only;rw [hh]⟩),fun e=>absurd (show x.PC=0 from e) (by omega)⟩
    cases ha:all with
    | false=>rfl
    | true =>
     have:=Sw.fe ha
     unfold FE at this
     rw [hh] at hn;exact absurd this hn
  rw [if_neg d0]
  obtain ⟨hn,hH⟩:=i2 (by omega)
  by_cases d1:x.C.PC=1
  ·rw [if_pos d1,if_pos hk];dsimp only
   rw [if_neg (by omega),if_neg (by omega)]
   exact .inl ⟨same c (fun _=>⟨hn,hH⟩),fun e=>absurd (show x.PC=0 from e) (by omega)⟩
  ·rw [if_neg d1];dsimp only
   have e2: ∀v,(sw s.M x.C.Head x.C.H v).2=true:=fun v=>by
    unfold sw
    rw [if_pos ⟨by omega,by omega,by rw [hh,hH]⟩]
   simp only [e2,hk,if_true,reduceIte]
   exact .inr (.inl ⟨hn,.inr trivial⟩)
end
end Go.Pe.G
namespace Go.Pe.G
open Go.Pe
noncomputable section
theorem zoE {α:Type} {p q:α→Bool} (h: ∀x,q x=true→p x=true): ∀l:List α,(l.filter q).length≤(l.filter p).length
 | []=>Nat.le_refl _
 | a::l=>by
  have ih:=zoE h l
  rw [List.filter_cons,List.filter_cons]
  by_cases c:q a=true
  ·rw [if_pos c,if_pos (h a c)];simp only [List.length_cons];omega
  ·rw [if_neg c]
   split
   ·simp only [List.length_cons];omega
   ·exact ih
theorem zsH {α:Type} {p q:α→Bool} (h: ∀x,q x=true→p x=true) {y:α} (hp:p y=true) (hq: ¬q y=true): ∀l:List α,y∈l→(l.filter q).length+1≤(l.filter p).length
 | [],hy=>by cases hy
 | a::l,hy=>by
  rw [List.filter_cons,List.filter_cons]
  by_cases e:a=y
  ·subst e
   have:=zoE h l
   rw [if_neg hq,if_pos hp];simp only [List.length_cons];omega
  ·have ih:=zsH h hp hq l ((List.mem_cons.1 hy).resolve_left (fun h=>e h.symm))
   by_cases c:q a=true
   ·rw [if_pos c,if_pos (h a c)];simp only [List.length_cons];omega
   ·rw [if_neg c]
    split
    ·simp only [List.length_cons];omega
    ·exact ih
def nbk (t:zn):Nat:=((List.range 9).filter (fun i:Nat=> !zP t.Black ((i:Int)+1))).length
theorem zwG (t:zn):nbk t≤9:=by
 unfold nbk
 have:=List.length_filter_le (fun i:Nat=> !zP t.Black ((i:Int)+1)) (List.range 9)
 rw [List.length_range] at this
 exact this
theorem zvM {t t':zn} (h: ∀o,zP t.Black o=true→zP t'.Black o=true):nbk t'≤nbk t:=by
 refine zoE (fun i hi=> ?_) _
 simp only [Bool.not_eq_true',Bool.eq_false_iff] at hi ⊢
 exact fun e=>hi (h _ e)
theorem zv7 {t t':zn} {o:Int} (ho:1≤o∧o≤9) (hn: ¬zP t.Black o=true) (e:t'.Black=t.Black|||bit o):nbk t'+1≤nbk t:=by
 refine zsH (y:=(o-1).toNat) (fun i hi=> ?_) ?_ ?_ _ (List.mem_range.2 (by omega))
 ·simp only [Bool.not_eq_true',Bool.eq_false_iff] at hi ⊢
  exact fun h=>hi (by rw [e];exact (uc _ _ _).2 (.inl h))
 ·rw [show (((o-1).toNat:Nat):Int)+1=o by omega]
  simp only [Bool.not_eq_true',Bool.eq_false_iff];exact hn
 ·rw [show (((o-1).toNat:Nat):Int)+1=o by omega]
  simp only [Bool.not_eq_true',Bool.eq_false_iff]
  exact fun h=>h (by rw [e];exact (wu _ (by omega) _).2 (.inr rfl))
theorem zau.black {s s':za} (F:zau s s') (o:Int) (h:zP s.T.Black o=true):zP s'.T.Black o=true:=by
 rcases F with ⟨e,_⟩ | ⟨q,_,_,e,_⟩ | ⟨q,_,e,_⟩ | ⟨_,_,e⟩
 ·rw [e];exact h
 ·rw [e];exact h
 ·rw [e];exact (uc _ _ _).2 (.inl h)
 ·rw [e];exact (uc _ _ _).2 (.inl h)
def wL (p:zb) (M:List (BitVec 64)) (w:Int) (g:Nat) (x:ze):Nat :=
 if x.PC=0∨x.PC=1 then 60+10*uS p.Workers w x.Victim+(8-x.D.PC).toNat
 else if x.PC=2 then 51+Zg M x.C
 else if x.PC=3 then 50
 else if x.PC=4 then 42+Zg M x.C
 else if x.PC=5 then 4+16*(p.H.Slots-x.Slot).toNat
 else if x.PC=6 then 5+16*(p.H.Slots-x.Slot).toNat+YX M x.G
 else if x.PC=7 then (if g=0 then 41 else 2)
 else if x.PC=8 then 4 else 3
theorem zro {p:zb} {M:List (BitVec 64)} {w:Int} {g:Nat} {x:ze} (h:0≤x.PC∧x.PC≤3):uI p M w x=wL p M w g x+320:=by
 unfold uI wL
 by_cases c0:x.PC=0∨x.PC=1
 ·rw [if_pos c0,if_pos c0];omega
 rw [if_neg c0,if_neg c0]
 by_cases c2:x.PC=2
 ·rw [if_pos c2,if_pos c2];omega
 rw [if_neg c2,if_neg c2,if_pos (by omega),if_pos (by omega)]
theorem znQ {p:zb} {M:List (BitVec 64)} {w:Int} {g:Nat} {x:ze} (h:x.PC=5∨x.PC=6∨x.PC=8∨x.PC=9):uI p M w x=wL p M w g x+40*x.Batch.length:=by
 unfold uI wL
 rcases h with c | c | c | c
 all_goals
  simp only [c]
  simp
  try omega
def Wk (p:zb) (s:za) (w:Int) (x:ze):Prop :=
 Swp p false s.M w x∨(x.PC=3∧xe s x.Bin≠[])∨(x.PC=4∧x.Batch≠[])∨x.PC=5∨x.PC=6∨(x.PC=7∧x.Batch≠[])∨x.PC=8
theorem zvb {p:zb} {M:List (BitVec 64)} {w:Int} {x:ze} (h0:x.PC=0) (h1:x.D.PC=0) (h2:x.Victim=w):Swp p false M w x :=
 ⟨.inl h0,fun u a b hk=>by rcases hk with h | h | ⟨h,_⟩<;>first | cases h | omega,fun e=>(by cases e),fun _=>h2,fun _=>⟨fun e=>by omega,fun e=>by omega,fun e=>by omega,fun e=>by omega,fun e=>by omega⟩,fun e=>by omega,fun e=>by omega⟩
theorem zuK {p:zb} (hp:zC p) {k:Nat} {s:za} {gh:Gh} {w:Int} {x:ze} (hk:k<4294960000) (G:FG p (zQ p+1) k s gh) (hw:1≤w∧w≤p.Workers) (O:WOk p (zQ p+1) w x) (K:WX p s gh w x) (h:x.PC≤2) :
  ((zh s w x).2.PC=5→(zh s w x).2.Slot=0)∧((zh s w x).2.PC=3→xe (zh s w x).1 (zh s w x).2.Bin≠[])∧(0≤(zh s w x).2.PC∧((zh s w x).2.PC≤3∨(zh s w x).2.PC=5))∧(x.PC≤1→(zh s w x).2.PC=0→(zh s w x).2.D.PC≠0):=by
 have hpc:=O.pc
 have lk: ∀y,(vn s.P w y).PC=1∨(vn s.P w y).PC=2:=fun y=>by
  unfold vn
  split
  ·exact .inr rfl
  ·exact .inl rfl
 unfold zh
 by_cases c01:x.PC=0∨x.PC=1
 ·rw [if_pos c01]
  dsimp only
  have hd:(x.D.Out=0∧((x.D.Kind=2∧0≤x.D.PC∧x.D.PC≤6)∨(x.D.Kind=3∧0≤x.D.PC∧x.D.PC≤3))):=by
   rcases c01 with c | c
   ·have:=K.p0 c;exact ⟨this.out,.inl ⟨this.kind,this.pc⟩⟩
   ·have:=K.p1 c;exact ⟨this.out,.inr ⟨this.kind,this.pc⟩⟩
  have hq:=zwo (m:=s.M) hd.1 hd.2
  split
  ·exact ⟨fun _=>rfl,fun e=>(by cases e),⟨by show (0:Int)≤5;decide,.inr rfl⟩,fun _ e=>(by cases e)⟩
  split
  ·have:=lk {x with D:=(zL s.M x.D).2}
   exact ⟨fun e=>by omega,fun e=>by omega,by omega,fun _ e=>by omega⟩
  ·refine ⟨fun e=> ?_,fun e=> ?_,?_,fun _ _=> ?_⟩
   ·have e:x.PC=5:=e;omega
   ·have e:x.PC=3:=e;omega
   ·show 0≤x.PC∧(x.PC≤3∨x.PC=5);omega
   ·show (zL s.M x.D).2.PC≠0;omega
 rw [if_neg c01]
 have c2:x.PC=2:=by omega
 rw [if_pos c2]
 dsimp only
 obtain ⟨q1,q2,q3⟩:=K.p2 c2
 have PO:=O.c2 c2
 split
 ·rename_i ho
  refine ⟨fun e=>(by cases e),fun _=> ?_,⟨by show (0:Int)≤3;decide,.inl (by show (3:Int)≤3;decide)⟩,fun e=>by omega⟩
  have S':SOk p (zQ p+1) {s with M:=(zj s.M x.C).1}:=(zjs hp G.X.S (.inl rfl) PO.k PO.h PO.n PO.v PO.y PO.o).1
  rcases SX.popF hp G.X hk PO.k PO.h PO.n q1 q2 q3 PO.v S' with ⟨_,x2,_⟩ | ⟨y,l,a,b,e,_⟩
  ·exact absurd ho x2
  ·show xe s (zj s.M x.C).2.X≠[]
   rw [e]
   exact G.ne y (by rw [a];exact List.mem_cons_self ..)
 split
 ·exact ⟨fun e=>(by cases e),fun e=>(by cases e),⟨by show (0:Int)≤0;decide,.inl (by show (0:Int)≤3;decide)⟩,fun e=>by omega⟩
 ·refine ⟨fun e=> ?_,fun e=> ?_,?_,fun e=>by omega⟩
  ·have e:x.PC=5:=e;omega
  ·have e:x.PC=3:=e;omega
  ·show 0≤x.PC∧(x.PC≤3∨x.PC=5);omega
theorem ztu {s:za} {w:Int} {x:ze} (h:x.PC=5∨x.PC=6):((zh s w x).2.PC=5∨(zh s w x).2.PC=6∨(zh s w x).2.PC=8)∧(zh s w x).2.Batch=x.Batch:=by
 have on: ∀i,onW s i=5∨onW s i=8:=fun i=>by
  unfold onW
  split
  ·exact .inr rfl
  ·exact .inl rfl
 unfold zh
 rw [if_neg (by omega),if_neg (by omega),if_neg (by omega),if_neg (by omega)]
 by_cases c5:x.PC=5
 ·rw [if_pos c5];dsimp only
  split
  ·exact ⟨(on _).elim .inl (fun h=> .inr (.inr h)),rfl⟩
  ·exact ⟨.inr (.inl rfl),rfl⟩
 ·rw [if_neg c5,if_pos (by omega)];dsimp only
  split
  ·exact ⟨(on _).elim .inl (fun h=> .inr (.inr h)),rfl⟩
  ·exact ⟨.inr (.inl (by show x.PC=6;omega)),rfl⟩
theorem ztD {p:zb} (hp:zC p) {k:Nat} {s:za} {gh:Gh} (hk:k<4294960000) (I:SI p k s gh) {w:Int} (hw:1≤w∧w≤p.Workers) {x:ze} (hx:s.Ws[(w-1).toNat]? =some x)
  (Ph:Swp p true s.M w x∨∃g:Nat,g≤1∧(g=0→Wk p s w x)) :
  ∃gh' x',SI p (k+1) (zE s w) gh'∧(zE s w).Ws[(w-1).toNat]? =some x'∧(Swp p true (zE s w).M w x' ∨
   (¬Swp p true s.M w x∧∀g:Nat,g≤1→(g=0→Wk p s w x)→∃g':Nat,g'≤1∧(g'=0→Wk p (zE s w) w x')∧100*(nbk (zE s w).T+g')+wL p (zE s w).M w g' x'<100*(nbk s.T+g)+wL p s.M w g x)):=by
 obtain ⟨gh',I',hX,hst,eM,eT,eB,hFM⟩:=I.step2 hp hk hw hx
 have G:=I.G
 have ei:(((w-1).toNat:Nat):Int)+1=w:=by omega
 have O:=G.E.W _ x hx
 have K:=G.W _ x hx
 have S:=I.sl _ x hx
 rw [ei] at O K
 have hpc:=O.pc
 have hvic:=O.vic
 have hsl:=hp.slots
 have hwk:=hp.wk
 have hv:=zh6 hw hvic
 have hmono:=zvM hFM.black
 refine ⟨gh',_,I',hX,?_⟩
 rw [eM]
 have swept: ∀all,Swp p all s.M w x→_:=fun all Sw=>zvZ hp G hw O K Sw
 by_cases hall:Swp p true s.M w x
 ·left
  rcases swept true hall with ⟨h,_⟩ | ⟨h,_⟩ | ⟨h,_⟩
  ·exact h
  ·cases h
  ·exact h
 by_cases hdone:Swp p true (zh s w x).1.M w (zh s w x).2
 ·exact .inl hdone
 refine .inr ⟨hall,fun g hg hW=> ?_⟩
 have low:x.PC≤3→0≤(zh s w x).2.PC∧(zh s w x).2.PC≤3→uI p (zh s w x).1.M w (zh s w x).2<uI p s.M w x→∀g',g'≤g→100*(nbk (zE s w).T+g')+wL p (zh s w x).1.M w g' (zh s w x).2<100*(nbk s.T+g)+wL p s.M w g x:=fun h1 h2 h3 g' h4=>by
  rw [zro (g:=g') h2,zro (g:=g) ⟨hpc.1,h1⟩] at h3
  omega
 have base:x.PC≤2→51≤wL p s.M w g x:=fun h=>by
  unfold wL
  split
  ·omega
  ·rw [if_pos (by omega)];omega
 have five:(zh s w x).2.PC=5→(zh s w x).2.Slot=0→wL p (zh s w x).1.M w 0 (zh s w x).2≤36:=fun h1 h2=>by
  unfold wL
  rw [if_neg (by omega),if_neg (by omega),if_neg (by omega),if_neg (by omega),if_pos h1,h2];omega
 have five': ∀g',wL p (zh s w x).1.M w g' (zh s w x).2=wL p (zh s w x).1.M w 0 (zh s w x).2∨(zh s w x).2.PC=7:=fun g'=>by
  by_cases c:(zh s w x).2.PC=7
  ·exact .inr c
  ·left
   unfold wL
   by_cases c0:(zh s w x).2.PC=0∨(zh s w x).2.PC=1
   ·rw [if_pos c0,if_pos c0]
   ·rw [if_neg c0,if_neg c0,if_neg c,if_neg c]
 have begins:(zh s w x).2.PC=0∧(zh s w x).2.D.PC=0∧(zh s w x).2.Victim=w→Wk p (zE s w) w (zh s w x).2∧wL p (zh s w x).1.M w 0 (zh s w x).2≤98:=fun ⟨h1,h2,h3⟩=>by
  refine ⟨.inl (zvb h1 h2 h3),?_⟩
  unfold wL
  rw [if_pos (.inl h1),h2,h3,zpm hw];omega
 by_cases c2:x.PC≤2
 ·-- a sweep
  have hb:=base c2
  obtain ⟨f5,f3,fpc,fb⟩:=zuK hp hk G hw O K (by omega)
  by_cases c5:(zh s w x).2.PC=5
  ·refine ⟨g,hg,fun _=> .inr (.inr (.inr (.inl c5))),?_⟩
   have h1:=five c5 (f5 c5)
   have h2:=(five' g).resolve_right (by omega)
   rw [h2];omega
  by_cases c3:(zh s w x).2.PC=3
  ·have hl:=hst.resolve_right (fun h=>by omega)
   refine ⟨g,hg,fun _=> .inr (.inl ⟨c3,?_⟩),low (by omega) (by omega) hl g (Nat.le_refl _)⟩
   have:=f3 c3
   unfold xe at this ⊢
   rw [eB];exact this
  have hlow:0≤(zh s w x).2.PC∧(zh s w x).2.PC≤3:=by omega
  by_cases g0:g=0
  ·have Sw:Swp p false s.M w x:=by
    rcases hW g0 with h | h | h | h | h | h | h
    ·exact h
    all_goals (exfalso;omega)
   rcases swept false Sw with ⟨h,hb0⟩ | ⟨_,h⟩ | ⟨h,_⟩
   ·have hl:=hst.resolve_right (fun e=>fb (by have:=hb0 e.1;omega) e.1 e.2.1)
    exact ⟨g,hg,fun _=> .inl (by rw [eM];exact h),low (by omega) hlow hl g (Nat.le_refl _)⟩
   ·exact absurd h (by omega)
   ·exact absurd h hdone
  ·rcases hst with hl | hbg
   ·exact ⟨g,hg,fun e=>absurd e g0,low (by omega) hlow hl g (Nat.le_refl _)⟩
   ·obtain ⟨b1,b2⟩:=begins hbg
    refine ⟨0,by omega,fun _=>b1,?_⟩
    omega
 ·-- it has something
  have nob: ∀ {q:Prop},(zh s w x).2.PC=0→(zh s w x).2.PC≠0→q:=fun a b=>absurd a b
  by_cases c3:x.PC=3
  ·have e:zh s w x=({s with Bins:=s.Bins.set x.Bin.toNat []},{x with Batch:=ZS s x.Bin,PC:=4,C:=XD s.P (zD s.P) x.Bin}):=by
    unfold zh
    rw [if_neg (by omega),if_neg (by omega),if_pos c3]
   rw [e] at hX eM eT ⊢
   refine ⟨g,hg,fun g0=> .inr (.inr (.inl ⟨rfl,?_⟩)),?_⟩
   ·show ZS s x.Bin≠[]
    rw [ziW]
    rcases hW g0 with h | ⟨_,h⟩ | h | h | h | h | h
    ·exact absurd h.pc (by omega)
    ·exact h
    all_goals (exfalso;omega)
   ·have w1:wL p s.M w g x=50:=by unfold wL;rw [if_neg (by omega),if_neg (by omega),if_pos c3]
    have w2:wL p s.M w g {x with Batch:=ZS s x.Bin,PC:=4,C:=XD s.P (zD s.P) x.Bin}=45:=by
     unfold wL
     rw [if_neg (by show ¬((4:Int)=0∨(4:Int)=1);decide),if_neg (by show ¬(4:Int)=2;decide),if_neg (by show ¬(4:Int)=3;decide),if_pos rfl];rfl
    show 100*(nbk (zE s w).T+g)+wL p s.M w g {x with Batch:=ZS s x.Bin,PC:=4,C:=XD s.P (zD s.P) x.Bin}<_
    rw [w1,w2];omega
  by_cases c4:x.PC=4
  ·have e:zh s w x=({s with M:=(zj s.M x.C).1},if (zj s.M x.C).2.Out=1 then {x with C:=(zj s.M x.C).2,Bin:=0,PC:=7} else {x with C:=(zj s.M x.C).2}):=by
    unfold zh
    rw [if_neg (by omega),if_neg (by omega),if_neg (by omega),if_pos c4]
   have bne:g=0→x.Batch≠[]:=fun g0=>by
    rcases hW g0 with h | h | ⟨_,h⟩ | h | h | h | h
    ·exact absurd h.pc (by omega)
    ·omega
    ·exact h
    all_goals (exfalso;omega)
   have w1:wL p s.M w g x=42+Zg s.M x.C:=by unfold wL;rw [if_neg (by omega),if_neg (by omega),if_neg (by omega),if_pos c4]
   have r1:uI p s.M w x=2+40*x.Batch.length+(1+Zg s.M x.C):=by unfold uI;rw [if_neg (by omega),if_neg (by omega),if_neg (by omega),if_pos c4]
   rw [e] at hst ⊢
   clear hX eM eT eB begins five five' low hdone
   dsimp only at hst ⊢
   by_cases ho:(zj s.M x.C).2.Out=1
   ·rw [if_pos ho]
    refine ⟨g,hg,fun g0=> .inr (.inr (.inr (.inr (.inr (.inl ⟨rfl,bne g0⟩))))),?_⟩
    have w2:wL p (zj s.M x.C).1 w g {x with C:=(zj s.M x.C).2,Bin:=0,PC:=7}≤41:=by
     unfold wL
     rw [if_neg (by show ¬((7:Int)=0∨(7:Int)=1);decide),if_neg (by show ¬(7:Int)=2;decide),if_neg (by show ¬(7:Int)=3;decide),if_neg (by show ¬(7:Int)=4;decide),if_neg (by show ¬(7:Int)=5;decide),if_neg (by show ¬(7:Int)=6;decide),if_pos rfl]
     split<;>omega
    omega
   ·rw [if_neg ho] at hst ⊢
    have hl:=hst.resolve_right (fun h=>by have h:x.PC=0:=h.1;omega)
    refine ⟨g,hg,fun g0=> .inr (.inr (.inl ⟨c4,bne g0⟩)),?_⟩
    have w2:wL p (zj s.M x.C).1 w g {x with C:=(zj s.M x.C).2}=42+Zg (zj s.M x.C).1 (zj s.M x.C).2:=by
     unfold wL;rw [if_neg (by show ¬(x.PC=0∨x.PC=1);omega),if_neg (by show ¬x.PC=2;omega),if_neg (by show ¬x.PC=3;omega),if_pos (show x.PC=4 from c4)]
    have r2:uI p (zj s.M x.C).1 w {x with C:=(zj s.M x.C).2}=2+40*x.Batch.length+(1+Zg (zj s.M x.C).1 (zj s.M x.C).2):=by
     unfold uI;rw [if_neg (by show ¬(x.PC=0∨x.PC=1);omega),if_neg (by show ¬x.PC=2;omega),if_neg (by show ¬x.PC=3;omega),if_pos (show x.PC=4 from c4)]
    rw [r1,r2] at hl
    rw [w1,w2];omega
  by_cases c56:x.PC=5∨x.PC=6
  ·obtain ⟨h1,h2⟩:=ztu (s:=s) (w:=w) c56
   have hl:=hst.resolve_right (fun h=>by omega)
   rw [znQ (g:=g) (by omega),znQ (x:=x) (g:=g) (by omega),h2] at hl
   refine ⟨g,hg,fun _=> ?_,by omega⟩
   rcases h1 with h | h | h
   ·exact .inr (.inr (.inr (.inl h)))
   ·exact .inr (.inr (.inr (.inr (.inl h))))
   ·exact .inr (.inr (.inr (.inr (.inr (.inr h)))))
  by_cases c7:x.PC=7
  ·have e:zh s w x=(s,match x.Batch with | []=>X3 s.P w x | o::l=>{x with Batch:=l,PC:=5,Obj:=o,Slot:=0}):=by
    unfold zh
    rw [if_neg (by omega),if_neg (by omega),if_neg (by omega),if_neg (by omega),if_neg (by omega),if_neg (by omega),if_pos c7];rfl
   cases hbt:x.Batch with
   | nil =>
    have e2:(zh s w x).2=X3 s.P w x:=by rw [e,hbt]
    have g1:g=1:=by
     by_cases g0:g=0
     ·rcases hW g0 with h | h | h | h | h | ⟨_,h⟩ | h
      ·exact absurd h.pc (by omega)
      ·omega
      ·omega
      ·omega
      ·omega
      ·exact absurd hbt h
      ·omega
     ·omega
    obtain ⟨b1,b2⟩:=begins (by rw [e2];exact ⟨rfl,rfl,rfl⟩)
    refine ⟨0,by omega,fun _=>b1,?_⟩
    omega
   | cons o l =>
    have e2:(zh s w x).2={x with Batch:=l,PC:=5,Obj:=o,Slot:=0}:=by rw [e,hbt]
    have h5:=five (by rw [e2]) (by rw [e2])
    have w1:wL p s.M w g x=if g=0 then 41 else 2:=by
     unfold wL
     rw [if_neg (by omega),if_neg (by omega),if_neg (by omega),if_neg (by omega),if_neg (by omega),if_neg (by omega),if_pos c7]
    refine ⟨0,by omega,fun _=> .inr (.inr (.inr (.inl (by rw [e2])))),?_⟩
    rw [w1]
    split<;>omega
  by_cases c8:x.PC=8
  ·have e:zh s w x=({s with T:=wR s.T x.Obj,L:=UP s.L 0},{x with PC:=9}):=by
    unfold zh
    rw [if_neg (by omega),if_neg (by omega),if_neg (by omega),if_neg (by omega),if_neg (by omega),if_neg (by omega),if_neg (by omega),if_pos c8]
   have hgr:xk s.T x.Obj=1:=G.grey (zp7 hx (by unfold zN;rw [Xt (.inr c8)];simp))
   have hN:=G.E.H.n
   have hn:=hp.n
   have hmo:=hp.most
   have htn:=(uP _ _).1 hgr
   have hlt:nbk (zE s w).T+1≤nbk s.T:=by
    rw [eT,e]
    refine zv7 (o:=x.Obj) ⟨(UA hgr).1,?_⟩ htn.2 ?_
    ·have:=G.mrk x.Obj htn.1;omega
    ·show (wR s.T x.Obj).Black=_
     unfold wR
     rw [if_pos hgr]
   have w1:wL p s.M w g x=4:=by
    unfold wL
    rw [if_neg (by omega),if_neg (by omega),if_neg (by omega),if_neg (by omega),if_neg (by omega),if_neg (by omega),if_neg (by omega),if_pos c8]
   have w2:wL p (zh s w x).1.M w 1 (zh s w x).2=3:=by
    rw [e]
    unfold wL
    rw [if_neg (by show ¬((9:Int)=0∨(9:Int)=1);decide),if_neg (by show ¬(9:Int)=2;decide),if_neg (by show ¬(9:Int)=3;decide),if_neg (by show ¬(9:Int)=4;decide),if_neg (by show ¬(9:Int)=5;decide),if_neg (by show ¬(9:Int)=6;decide),if_neg (by show ¬(9:Int)=7;decide),if_neg (by show ¬(9:Int)=8;decide)]
   refine ⟨1,Nat.le_refl _,fun e=>by omega,?_⟩
   rw [w1,w2];omega
  ·have c9:x.PC=9:=by omega
   have e:zh s w x=({s with Work:=wc (s.Work-1)},{x with Obj:=0,PC:=7}):=by
    unfold zh
    rw [if_neg (by omega),if_neg (by omega),if_neg (by omega),if_neg (by omega),if_neg (by omega),if_neg (by omega),if_neg (by omega),if_neg (by omega),if_pos c9]
   have g1:g=1:=by
    by_cases g0:g=0
    ·rcases hW g0 with h | h | h | h | h | h | h
     ·exact absurd h.pc (by omega)
     all_goals (exfalso;omega)
    ·omega
   have w1:wL p s.M w g x=3:=by
    unfold wL
    rw [if_neg (by omega),if_neg (by omega),if_neg (by omega),if_neg (by omega),if_neg (by omega),if_neg (by omega),if_neg (by omega),if_neg (by omega)]
   have w2:wL p (zh s w x).1.M w 1 (zh s w x).2=2:=by
    rw [e]
    unfold wL
    rw [if_neg (by show ¬((7:Int)=0∨(7:Int)=1);decide),if_neg (by show ¬(7:Int)=2;decide),if_neg (by show ¬(7:Int)=3;decide),if_neg (by show ¬(7:Int)=4;decide),if_neg (by show ¬(7:Int)=5;decide),if_neg (by show ¬(7:Int)=6;decide),if_pos rfl,if_neg (by decide)]
   refine ⟨1,Nat.le_refl _,fun e=>by omega,?_⟩
   rw [w1,w2];omega
end
end Go.Pe.G
namespace Go.Pe.G
open Go.Pe
noncomputable section
def noD (base cap:Int):zg:=⟨0,0,base,cap,0#64,0#64,0,0⟩
def zh9 (o:zg):Prop:=o.Kind=2∧o.Out=0∧(o.PC=2∨o.PC=4∨o.PC=5∨(o.PC=3∧o.T=o.B-1#64))
instance (o:zg):Decidable (zh9 o):=by unfold zh9;infer_instance
def zi0 (m:List (BitVec 64)) (base:Int) (o:zg):BitVec 64:=if zh9 o then ld m (wc (base+1))+1#64 else ld m (wc (base+1))
def Xi (m:List (BitVec 64)) (base cap:Int) (top:BitVec 64) (n:Nat):List Int:=(List.range n).map (fun j:Nat=>(ld m (Xd (noD base cap) (top+BitVec.ofNat 64 j))).toInt)
def zqX (m:List (BitVec 64)) (base cap:Int) (o:zg):List Int :=
 if ¬0<(zi0 m base o-ld m base).toInt∨(min (uN (noD base cap)).toNat 64)<(zi0 m base o-ld m base).toNat then []
 else Xi m base cap (ld m base) (zi0 m base o-ld m base).toNat
end
end Go.Pe.G
namespace Go.Pe.G
open Go.Pe
noncomputable section
structure zvu (s:za):Prop where
 mks: ∀o,zP s.T.Marks o=true→o≤9
 ob: ∀(i:Nat) x,s.Ws[i]? =some x→x.PC=6→x.G.Obj≤9
theorem HOk.get9 {p:zb} (hp:zC p) {h:zG} (H:HOk p h) (o i:Int):zM h o i≤9:=by
 have h1:=H.n
 have h2:p.Most≤9:=by have:=hp.most;have:=hp.n;omega
 unfold zM
 split
 ·unfold yw
  rw [List.getD_eq_getElem?_getD,List.getD_eq_getElem?_getD]
  cases hx:h.Objs[(o-1).toNat]? with
  | none=>show (([]:List Int)[i.toNat]?).getD 0≤9;simp
  | some l =>
   show (l[i.toNat]?).getD 0≤9
   cases hv:l[i.toNat]? with
   | none=>show (0:Int)≤9;decide
   | some v =>
    have:=(H.objs l (List.mem_of_getElem? hx)).2 v (List.mem_of_getElem? hv)
    show v≤9;omega
 ·decide
theorem zvu.step {p:zb} (hp:zC p) {nb k:Nat} {s:za} {gh:Gh} (L:zvu s) (G:WG p nb k s gh) {w:Int} (hw:1≤w∧w≤p.Workers) (hd:s.Done=false) (T:zwu s (zE s w) w):zvu (zE s w):=by
 have hwl:=G.E.wl
 refine ⟨fun o ho=> ?_,fun i y hy h6=> ?_⟩
 ·rcases T with e | ⟨x,q,hx,h6,rfl,hr,hn,e⟩ | ⟨x,hx,h8,h1,e⟩
  ·rw [e] at ho;exact L.mks o ho
  ·rw [e] at ho
   rcases (wu _ hr o).1 ho with e | e
   ·exact L.mks o e
   ·rw [e];exact L.ob _ x hx h6
  ·rw [e] at ho;exact L.mks o ho
 ·have e0: ¬(s.Done=true∨w<1∨(s.Ws.length:Int)<w):=by rw [hd];rintro (e | e | e)<;>first | cases e | omega
  have hi:(w-1).toNat<s.Ws.length:=by omega
  have hx:=List.getElem?_eq_getElem hi
  generalize s.Ws[(w-1).toNat]=x at hx
  unfold zE at hy
  rw [if_neg e0,hx] at hy
  have hy:(s.Ws.set (w-1).toNat (zh s w x).2)[i]? =some y:=hy
  by_cases hj:i=(w-1).toNat
  ·subst hj
   rw [List.getElem?_set_self hi] at hy
   injection hy with hy
   subst hy
   rcases zrt s w x h6 with ⟨a,b⟩ | ⟨a,b⟩
   ·rw [b];exact L.ob _ x hx a
   ·rw [b];exact G.E.H.get9 hp _ _
  ·rw [List.getElem?_set_ne (fun e=>hj e.symm)] at hy
   exact L.ob i y hy h6
end
end Go.Pe.G
namespace Go.Pe.G
open Go.Pe
noncomputable section
theorem zta {p:zb} (h:zC p) {nb k:Nat} {s:za} {gh:Gh} {own:List Int} (X:SX p nb s gh own k) (hnb:nb≤50):zfR s.M (zU p) (zD p) 99=some (gh.F,()):=by
 have hF:=vT h
 have hE:=xx h
 have hl:gh.F.length≤50:=by
  have:=X.L.all.length_eq
  simp [zgO] at this
  omega
 rw [zmT,zez,Option.bind_some,zbk,Option.bind_some]
 obtain ⟨o,e,ho⟩:=uq (f:=zbq) (fun a=>∃x pre rest,gh.F=pre++rest∧a=(s.M,zD p,99,x,pre,())∧Chn s.M (zD p) nb x rest) (fun a=>gh.F.length-a.2.2.2.2.1.length) (fun o=>o= .brk (gh.F,())) (by
  rintro _ ⟨x,pre,rest,e,rfl,c⟩
  rw [zko,yD]
  cases rest with
  | nil =>
   have hx:x=0:=c
   rw [if_pos hx]
   exact ⟨_,rfl,by rw [e,List.append_nil]⟩
  | cons y l =>
   obtain ⟨c1,c2,c3,c4⟩:=c
   have hlen:gh.F.length=pre.length+(l.length+1):=by rw [e,List.length_append,List.length_cons]
   rw [if_neg (by omega),zw,if_pos (show (pre.length:Int)<(bif decide ((1000:Int)<99) then 1000 else 99) by rw [zw,if_neg (by decide)];omega),vN (by simp;omega),Option.bind_some,yW (by omega) (by omega),zez,Option.bind_some]
   refine ⟨_,rfl,⟨_,pre++[x],l,by rw [e,c1];simp,rfl,?_⟩,?_⟩
   ·rw [c1];exact c4
   ·show gh.F.length-(pre++[x]).length<gh.F.length-pre.length
    rw [List.length_append,List.length_singleton];omega) (s.M,zD p,99,yo (ld s.M (zU p)),([]:List Int),()) ⟨_,[],gh.F,rfl,rfl,X.L.cF⟩ (by show gh.F.length-0<18446744073709551616;omega)
 subst ho
 exact congrArg (fun o=>Option.bind o _) e
theorem ztJ {m:List (BitVec 64)} {base cap:Int} {top:BitVec 64} (hc:cap<1000) (e:BitVec 64) (h:(e-top).toNat≤64) :
  yh yi (m,e,top,zg.mk 0 0 base cap 0#64 0#64 0 0,([]:List Int),())=some (.brk (Xi m base cap top (e-top).toNat,())):=by
 have he:e=top+BitVec.ofNat 64 (e-top).toNat:=by
  rw [BitVec.ofNat_toNat,BitVec.setWidth_eq,BitVec.add_comm,BitVec.sub_add_cancel]
 generalize (e-top).toNat=n at he h
 subst he
 have:=zot (f:=yi) (fun (i:Int) (_:Unit)=>(m,top+BitVec.ofNat 64 n,top+BitVec.ofNat 64 i.toNat,zg.mk 0 0 base cap 0#64 0#64 0 0,Xi m base cap top i.toNat,())) (fun _=>(Xi m base cap top n,())) n (by omega) (fun _ _=>()) (fun _=>True) (fun _ _ _=>trivial)
  (fun i _ hi _=>by
   have hne: ¬(top+BitVec.ofNat 64 i=top+BitVec.ofNat 64 n):=fun e=>by
    have e:=congrArg (fun x=>x-top) e
    rw [BitVec.add_comm top,BitVec.add_comm top,BitVec.add_sub_cancel,BitVec.add_sub_cancel] at e
    have:=zpj (by omega) (by omega) e
    omega
   have e2:top+BitVec.ofNat 64 i+1#64=top+BitVec.ofNat 64 (i+1):=by
    rw [BitVec.add_assoc,show (1#64:BitVec 64)=BitVec.ofNat 64 1 from rfl,zgp (by omega)]
   have e3:Xi m base cap top (i+1)=Xi m base cap top i++[(ld m (Xd (zg.mk 0 0 base cap 0#64 0#64 0 0) (top+BitVec.ofNat 64 i))).toInt]:=by
    unfold Xi noD
    rw [List.range_succ,List.map_append];rfl
   have el:(Xi m base cap top i).length=i:=by unfold Xi;simp
   show yi (m,top+BitVec.ofNat 64 n,top+BitVec.ofNat 64 i,zg.mk 0 0 base cap 0#64 0#64 0 0,Xi m base cap top i,())=some (.again (m,top+BitVec.ofNat 64 n,top+BitVec.ofNat 64 (i+1),zg.mk 0 0 base cap 0#64 0#64 0 0,Xi m base cap top (i+1),()))
   rw [zbt,yD,if_neg hne,zc0 (show (zg.mk 0 0 base cap 0#64 0#64 0 0).Cap<1000 from hc),Option.bind_some,ZU,Option.bind_some,vN (by rw [List.length_append,el];simp;omega),Option.bind_some,e2,e3])
  (fun _ _=>by
   show yi (m,top+BitVec.ofNat 64 n,top+BitVec.ofNat 64 n,zg.mk 0 0 base cap 0#64 0#64 0 0,Xi m base cap top n,())=_
   rw [zbt,yD,if_pos rfl]) (s:=()) trivial
 have e0:top+BitVec.ofNat 64 (0:Int).toNat=top:=by show top+0#64=top;rw [BitVec.add_zero]
 simp only [e0] at this
 exact this
theorem zw4 (S d:BitVec 64):((bif decide (64#64<S) then 64#64 else S)<d)↔min S.toNat 64<d.toNat:=by
 rw [zw]
 by_cases h:64#64<S
 ·rw [if_pos h]
  have h':64<S.toNat:=h
  show 64<d.toNat↔_
  rw [Nat.min_eq_right (by omega)]
 ·rw [if_neg h]
  have h': ¬64<S.toNat:=h
  show S.toNat<d.toNat↔_
  rw [Nat.min_eq_left (by omega)]
theorem zr5 {m:List (BitVec 64)} {base cap:Int} (hc:cap<1000) (o:zg):zaw m base cap o=some (zqX m base cap o,()):=by
 have hl:=fun e h=>ztJ (m:=m) (base:=base) (cap:=cap) (top:=ld m base) hc e h
 have hlim:=fun d=>zw4 (uN (noD base cap)) d
 unfold noD at hlim
 have done: ∀e:BitVec 64,∀ {b:Option (List Int×Unit)},(¬0<(e-ld m base).toInt→b=some ([],()))→(0<(e-ld m base).toInt→(min (uN (noD base cap)).toNat 64<(e-ld m base).toNat)→b=some ([],()))→(0<(e-ld m base).toInt→¬(min (uN (noD base cap)).toNat 64<(e-ld m base).toNat)→b=some (Xi m base cap (ld m base) (e-ld m base).toNat,())) →
   b=some (if ¬0<(e-ld m base).toInt∨(min (uN (noD base cap)).toNat 64)<(e-ld m base).toNat then [] else Xi m base cap (ld m base) (e-ld m base).toNat,()):=by
  intro e b h1 h2 h3
  by_cases a:0<(e-ld m base).toInt
  ·by_cases c:min (uN (noD base cap)).toNat 64<(e-ld m base).toNat
   ·rw [if_pos (.inr c)];exact h2 a c
   ·rw [if_neg (by rintro (x | x);exact x a;exact c x)];exact h3 a c
  ·rw [if_pos (.inl a)];exact h1 a
 rw [zlD]
 simp only [uG,xl,un,Option.bind_some,ZU,zaD,zi7]
 unfold zqX
 by_cases h:zh9 o
 ·have he:zi0 m base o=ld m (wc (base+1))+1#64:=by unfold zi0;rw [if_pos h]
  rw [he]
  obtain ⟨k,u,pc⟩:=h
  rcases pc with p | p | p | ⟨p,t⟩
  all_goals
   first | simp only [k,u,p,t,Int.reduceEq,decide_true,decide_false,cond_true,cond_false] | simp only [k,u,p,Int.reduceEq,decide_true,decide_false,cond_true,cond_false]
   generalize ld m (wc (base+1))+1#64=e
   refine done e (fun a=> ?_) (fun a c=> ?_) (fun a c=> ?_)
   ·simp only [decide_eq_false a,Bool.not_false,cond_true]
   ·simp only [decide_eq_true a,Bool.not_true,cond_false]
    rw [zw,if_pos ((hlim (e-ld m base)).2 c)]
   ·simp only [decide_eq_true a,Bool.not_true,cond_false]
    rw [zw,if_neg (fun x=>c ((hlim (e-ld m base)).1 x)),hl e (by omega)]
    rfl
 ·have he:zi0 m base o=ld m (wc (base+1)):=by unfold zi0;rw [if_neg h]
  rw [he]
  have fin: ∀b:Option (List Int×Unit),(b=(bif !decide (0<(ld m (wc (base+1))-ld m base).toInt) then some ([],()) else bif decide ((bif decide (64#64<uN (noD base cap)) then 64#64 else uN (noD base cap))<(ld m (wc (base+1))-ld m base)) then some ([],()) else (yh yi (m,ld m (wc (base+1)),ld m base,zg.mk 0 0 base cap 0#64 0#64 0 0,([]:List Int),())).bind (fun st=>match st with | .again _=>none | .brk y=>some (y.1,()) | .ret y=>none)))→b=some (if ¬0<(ld m (wc (base+1))-ld m base).toInt∨(min (uN (noD base cap)).toNat 64)<(ld m (wc (base+1))-ld m base).toNat then [] else Xi m base cap (ld m base) (ld m (wc (base+1))-ld m base).toNat,()):=by
   intro b hb
   rw [hb]
   generalize ld m (wc (base+1))=e
   refine done e (fun a=> ?_) (fun a c=> ?_) (fun a c=> ?_)
   ·simp only [decide_eq_false a,Bool.not_false,cond_true]
   ·simp only [decide_eq_true a,Bool.not_true,cond_false]
    rw [zw]
    exact if_pos ((hlim (e-ld m base)).2 c)
   ·simp only [decide_eq_true a,Bool.not_true,cond_false]
    rw [zw]
    refine (if_neg (fun x=>c ((hlim (e-ld m base)).1 x))).trans ?_
    rw [hl e (by omega)]
    rfl
  refine fin _ ?_
  by_cases k:o.Kind=2
  ·by_cases u:o.Out=0
   ·have pc: ¬(o.PC=2∨o.PC=4∨o.PC=5∨(o.PC=3∧o.T=o.B-1#64)):=fun e=>h ⟨k,u,e⟩
    have p2: ¬o.PC=2:=fun e=>pc (.inl e)
    have p4: ¬o.PC=4:=fun e=>pc (.inr (.inl e))
    have p5: ¬o.PC=5:=fun e=>pc (.inr (.inr (.inl e)))
    by_cases p3:o.PC=3
    ·have t: ¬o.T=o.B-1#64:=fun e=>pc (.inr (.inr (.inr ⟨p3,e⟩)))
     simp only [decide_eq_true k,decide_eq_true u,decide_eq_false p2,decide_eq_false p4,decide_eq_false p5,decide_eq_true p3,decide_eq_false t,cond_true,cond_false]
     rfl
    ·simp only [decide_eq_true k,decide_eq_true u,decide_eq_false p2,decide_eq_false p4,decide_eq_false p5,decide_eq_false p3,cond_true,cond_false]
     rfl
   ·simp only [decide_eq_true k,decide_eq_false u,cond_true,cond_false]
    rfl
  ·simp only [decide_eq_false k,cond_true,cond_false]
   rfl
end
end Go.Pe.G
namespace Go.Pe.G
open Go.Pe
noncomputable section
namespace B15
def zmt (w:Int) (n:Nat) (s:za):za:=goF (fun _ s=>zE s w) 0 n s
theorem zvL {p:zb} {nb:Nat} (h:zC p) {s:za} (E:EOk p nb s) (w:Int) {n:Nat} (hn:n<1000000):wW s w (n:Int)=some (zmt w n s,()):=by
 have e:=zot (f:=u7) (fun i s=>(w,(n:Int),i,s,0,0,0,0,0,0,0,0,0,0#64,0,zn.mk 0#64 0#64,0,0,false,false,0,0,0,0,zr.mk 0 0,([]:List (List Int)),([]:List (List Int)),([]:List (List zk)),([]:List zm),([]:List (List Int)),([]:List (BitVec 64)),([]:List (List Int)),([]:List Int),([]:List Int),([]:List ze),([]:List zc),())) (fun s=>(s,0,0,0,0,0,0,0,0,0,0#64,0,zn.mk 0#64 0#64,0,0,false,false,0,0,0,0,zr.mk 0 0,([]:List (List Int)),([]:List (List Int)),([]:List (List zk)),([]:List zm),([]:List (List Int)),([]:List (BitVec 64)),([]:List (List Int)),([]:List Int),([]:List Int),([]:List ze),([]:List zc),())) n hn (fun _ s=>zE s w) (EOk p nb) (fun _ s E=>zi2 h E w)
  (fun i s hi E=>by
   show u7 (w,(n:Int),(i:Int),s,0,0,0,0,0,0,0,0,0,0#64,0,zn.mk 0#64 0#64,0,0,false,false,0,0,0,0,zr.mk 0 0,([]:List (List Int)),([]:List (List Int)),([]:List (List zk)),([]:List zm),([]:List (List Int)),([]:List (BitVec 64)),([]:List (List Int)),([]:List Int),([]:List Int),([]:List ze),([]:List zc),())=_
   rw [Uh,zw,if_pos (by omega),zcN h E,Option.bind_some,xy (by omega)])
  (fun s E=>by
   show u7 (w,(n:Int),(n:Int),s,0,0,0,0,0,0,0,0,0,0#64,0,zn.mk 0#64 0#64,0,0,false,false,0,0,0,0,zr.mk 0 0,([]:List (List Int)),([]:List (List Int)),([]:List (List zk)),([]:List zm),([]:List (List Int)),([]:List (BitVec 64)),([]:List (List Int)),([]:List Int),([]:List Int),([]:List ze),([]:List zc),())=_
   rw [Uh,zw,if_neg (by omega)]) E
 rw [zhG]
 exact congrArg (fun o=>Option.bind o _) e
def ziz (ord:List (BitVec 8)) (i:Nat) (s:za):Int:=1+((ord.getD i 0#8).toNat:Int).tmod (s.Ws.length:Int)
def znd (ord:List (BitVec 8)) (n:Nat) (s:za):za:=goF (fun i s=>zE s (ziz ord i s)) 0 n s
theorem zp6 {p:zb} {nb:Nat} (h:zC p) {s:za} (E:EOk p nb s) (b:BitVec 8):w64 (1+(b.toNat:Int).tmod (s.Ws.length:Int))=1+(b.toNat:Int).tmod (s.Ws.length:Int)∧1≤1+(b.toNat:Int).tmod (s.Ws.length:Int)∧1+(b.toNat:Int).tmod (s.Ws.length:Int)≤(s.Ws.length:Int):=by
 have hw:=h.wk
 have hl:=E.wl
 have:=vu (show (0:Int)≤(b.toNat:Int) by omega) (show (0:Int)<(s.Ws.length:Int) by omega)
 exact ⟨yW (by omega) (by omega),by omega,by omega⟩
theorem zv3 {p:zb} {nb:Nat} (h:zC p) {s:za} (E:EOk p nb s) (ord:List (BitVec 8)) {most:Nat} (hm:most<1000000):X9 s ord (most:Int)=some (znd ord (min ord.length most) s,()):=by
 have hw:=h.wk
 have e:=zot (f:=u6) (fun i s=>(ord,(most:Int),i,s,0,0,0,0,0,0,0,0,0,0#64,0,zn.mk 0#64 0#64,0,0,false,false,0,0,0,0,zr.mk 0 0,([]:List (List Int)),([]:List (List Int)),([]:List (List zk)),([]:List zm),([]:List (List Int)),([]:List (BitVec 64)),([]:List (List Int)),([]:List Int),([]:List Int),([]:List ze),([]:List zc),())) (fun s=>(s,0,0,0,0,0,0,0,0,0,0#64,0,zn.mk 0#64 0#64,0,0,false,false,0,0,0,0,zr.mk 0 0,([]:List (List Int)),([]:List (List Int)),([]:List (List zk)),([]:List zm),([]:List (List Int)),([]:List (BitVec 64)),([]:List (List Int)),([]:List Int),([]:List Int),([]:List ze),([]:List zc),())) (min ord.length most) (by omega) (fun i s=>zE s (ziz ord i s)) (EOk p nb) (fun _ s E=>zi2 h E _)
  (fun i s hi E=>by
   have hx:=List.getElem?_eq_getElem (show i<ord.length by omega)
   have hl:=E.wl
   show u6 (ord,(most:Int),(i:Int),s,0,0,0,0,0,0,0,0,0,0#64,0,zn.mk 0#64 0#64,0,0,false,false,0,0,0,0,zr.mk 0 0,([]:List (List Int)),([]:List (List Int)),([]:List (List zk)),([]:List zm),([]:List (List Int)),([]:List (BitVec 64)),([]:List (List Int)),([]:List Int),([]:List Int),([]:List ze),([]:List zc),())=_
   have ew:ziz ord i s=1+((ord[i]'(by omega)).toNat:Int).tmod (s.Ws.length:Int):=by unfold ziz;rw [List.getD_eq_getElem?_getD,hx];rfl
   rw [Up,zw,if_pos (by omega),zw,if_pos (by omega),w9 hx,Option.bind_some,zw,if_neg (by omega),(zp6 h E _).1,zcN h E,Option.bind_some,xy (by omega),ew])
  (fun s E=>by
   show u6 (ord,(most:Int),((min ord.length most:Nat):Int),s,0,0,0,0,0,0,0,0,0,0#64,0,zn.mk 0#64 0#64,0,0,false,false,0,0,0,0,zr.mk 0 0,([]:List (List Int)),([]:List (List Int)),([]:List (List zk)),([]:List zm),([]:List (List Int)),([]:List (BitVec 64)),([]:List (List Int)),([]:List Int),([]:List Int),([]:List ze),([]:List zc),())=_
   rw [Up,zw]
   by_cases c:((min ord.length most:Nat):Int)<(ord.length:Int)
   ·rw [if_pos c,zw,if_neg (by omega)]
   ·rw [if_neg c]) E
 rw [zid]
 exact congrArg (fun o=>Option.bind o _) e
theorem zvD {A B D:Type} {f:A→Option (xz A B D)} {x:A} {b:B} (h:f x=some (.brk b)):yh f x=some (.brk b):=by
 rw [zaA]
 show Z3 f (18446744073709551615+1) x=_
 rw [Z3,h];rfl
def Vp:zb:=⟨1,0,2,1,1,4,2,2,⟨1,[[2],[0],[0]]⟩,1#64,[],[],[]⟩
theorem zvp:Ux []=some (Vp,()):=by
 rw [zh1,zvD (by rw [zeQ];rfl)];rfl
theorem zby:zC Vp:=by
 constructor
 case objs=>intro o ho;simp [Vp] at ho ⊢;rcases ho with rfl | rfl | rfl<;>simp
 case roots=>exact ⟨1,by decide,by decide,by decide⟩
 case reg=>intro r hr;cases hr
 case prog=>intro k r ops hr;cases hr
 all_goals first | decide | rfl
theorem zpy:WE=some (true,()):=by
 have E:=zqp zby
 have r:=fun n hn=>zvL zby E 1 (n:=n) hn
 have e4:wW (wi Vp) 1 4=some (zmt 1 4 (wi Vp),()):=r 4 (by decide)
 have e11:wW (wi Vp) 1 11=some (zmt 1 11 (wi Vp),()):=r 11 (by decide)
 have e100:wW (wi Vp) 1 100=some (zmt 1 100 (wi Vp),()):=r 100 (by decide)
 have out: ∀w:Int,w<1∨1<w→zE (wi Vp) w=wi Vp:=fun w hw=>by
  unfold zE
  rw [if_pos (.inr (hw.imp id (fun e=>by show (((List.range 1).map (uW Vp)).length:Int)<w;rw [List.length_map,List.length_range];omega)))]
 rw [zfN,zvp]
 simp only [Option.bind_some,zpn zby,e4,e11,e100,zcN zby E,out 2 (.inr (by decide)),out 0 (.inl (by decide)),ztO (zpl zby)]
 decide +kernel
theorem zqR {p:zb} (hp:zC p) (ord:List (BitVec 8)): ∀(n i k:Nat) (s:za) (gh:Gh),k+n<1000000→SI p k s gh→∃gh',SI p (k+n) (goF (fun i s=>zE s (ziz ord i s)) i n s) gh'
 | 0,i,k,s,gh,_,I=>⟨gh,I⟩
 | n+1,i,k,s,gh,hk,I=>by
  have E:=I.G.E
  have hw:=(zp6 hp E (ord.getD i 0#8)).2
  have hwl:=E.wl
  have hx:=List.getElem?_eq_getElem (show (ziz ord i s-1).toNat<s.Ws.length by unfold ziz;omega)
  obtain ⟨gh',x',I',_⟩:=I.step hp (by omega) (w:=ziz ord i s) (by unfold ziz;omega) hx
  have:=zqR hp ord n (i+1) (k+1) _ gh' (by omega) I'
  rw [show k+(n+1)=k+1+n by omega]
  exact this
def znt (p:zb) (w:Int) (i:Nat) (s:za) (x:ze):Prop :=
 Swp p true s.M w x∨(¬Swp p true s.M w x∧∃g:Nat,g≤1∧(g=0→Wk p s w x)∧i+(100*(nbk s.T+g)+wL p s.M w g x)≤2000)
theorem ztv {p:zb} (hp:zC p) {k i:Nat} {s:za} {gh:Gh} (hk:k<4294960000) (I:SI p k s gh) {w:Int} (hw:1≤w∧w≤p.Workers) {x:ze} (hx:s.Ws[(w-1).toNat]? =some x) (J:znt p w i s x) :
  ∃gh' x',SI p (k+1) (zE s w) gh'∧(zE s w).Ws[(w-1).toNat]? =some x'∧znt p w (i+1) (zE s w) x':=by
 obtain ⟨gh',x',I',hX,h⟩:=ztD hp hk I hw hx (J.imp id (fun h=>by obtain ⟨_,g,h1,h2,_⟩:=h;exact ⟨g,h1,h2⟩))
 refine ⟨gh',x',I',hX,?_⟩
 rcases h with h | ⟨hn,h⟩
 ·exact .inl h
 ·by_cases hc:Swp p true (zE s w).M w x'
  ·exact .inl hc
  ·obtain ⟨_,g,h1,h2,h3⟩:=J.resolve_left hn
   obtain ⟨g',a1,a2,a3⟩:=h g h1 h2
   exact .inr ⟨hc,g',a1,a2,by omega⟩
theorem zsW {p:zb} {k:Nat} {s:za} {gh:Gh} (hp:zC p) (G:FG p (zQ p+1) k s gh) {u:Int} (h1:1≤u) (h2:u≤p.Workers) (h:VE p s.M u):zaw s.M (zF p u) p.Cap ⟨0,0,0,0,0#64,0#64,0,0⟩=some ([],()):=by
 have hc:=hp.cap
 have hd:=uV hp h1 h2
 have hF:=vT hp
 obtain ⟨n1,n2,n3,n4,n5⟩:=(G.X.D u h1 h2).nat
 have w1:wc (zF p u+1)=zF p u+1:=xm (by omega) (by omega)
 have hab:=zjK (x:=ld s.M (zF p u+1)) (y:=ld s.M (zF p u)) (by omega) (by omega)
 rw [zr5 (by omega)]
 have e:zi0 s.M (zF p u) ⟨0,0,0,0,0#64,0#64,0,0⟩=ld s.M (zF p u+1):=by
  unfold zi0
  rw [if_neg (show ¬zh9 ⟨0,0,0,0,0#64,0#64,0,0⟩ from fun h=>by have h:(0:Int)=2:=h.1;omega),w1]
 unfold zqX
 rw [e,if_pos (.inl (fun h'=>by have:=hab.1 h';unfold VE at h;omega))]
theorem zx4 {p:zb} (hp:zC p) {k:Nat} {s:za} {gh:Gh} (I:SI p k s gh) {w:Int} (hw:1≤w∧w≤p.Workers) {x:ze} (hx:s.Ws[(w-1).toNat]? =some x) (g:Nat):wL p s.M w g x≤418:=by
 have h:=I.le hp hw hx
 have ei:(((w-1).toNat:Nat):Int)+1=w:=by omega
 have O:=I.G.E.W _ x hx
 have K:=I.G.W _ x hx
 rw [ei] at O K
 have hpc:=O.pc
 by_cases c:x.PC≤3
 ·rw [zro (g:=g) ⟨hpc.1,c⟩] at h;omega
 by_cases c4:x.PC=4
 ·have:=zhT s.M (c:=x.C) (by have:=(K.p4 c4).2.1;omega)
  unfold wL
  rw [if_neg (by omega),if_neg (by omega),if_neg (by omega),if_pos c4];omega
 by_cases c7:x.PC=7
 ·unfold wL
  rw [if_neg (by omega),if_neg (by omega),if_neg (by omega),if_neg (by omega),if_neg (by omega),if_neg (by omega),if_pos c7]
  split<;>omega
 ·rw [znQ (g:=g) (by omega)] at h;omega
theorem zuG {p:zb} {k:Nat} {s:za} {gh:Gh} (hp:zC p) (G:FG p (zQ p+1) k s gh) (h: ∀u,1≤u→u≤p.Workers→VE p s.M u) (b:Bool):yh vY (b,1,s,())=some (.brk (b,s,())):=by
 have hwl:=G.E.wl
 have hwk:=hp.wk
 have hP:=G.E.S.P
 obtain ⟨o,e,rfl⟩:=uq (f:=vY) (fun a=>∃j:Nat,1≤j∧(j:Int)≤p.Workers+1∧a=(b,(j:Int),s,())) (fun a=>10-a.2.1.toNat) (fun o=>o= .brk (b,s,())) (by
  rintro _ ⟨j,h1,h2,rfl⟩
  rw [zaB,zw]
  by_cases c:(j:Int)≤(s.Ws.length:Int)
  ·rw [if_pos c,hP,zal,Option.bind_some]
   dsimp only
   rw [zsW hp G (by omega) (by omega) (h _ (by omega) (by omega)),Option.bind_some]
   dsimp only
   rw [show decide ((([]:List Int).length:Int)=0)=true from rfl,Bool.not_true,cond_false,xy (by omega)]
   refine ⟨_,rfl,⟨j+1,by omega,by omega,rfl⟩,?_⟩
   show 10-((j+1:Nat):Int).toNat<10-(j:Int).toNat
   omega
  ·rw [if_neg c];exact ⟨_,rfl,rfl⟩) (b,1,s,()) ⟨1,by omega,by omega,rfl⟩ (by show 10-1<18446744073709551616;decide)
 exact e
theorem workerSteals_plain (l ord:List (BitVec 8)) (b:BitVec 8):vA l ord b=some (true,()):=by
 obtain ⟨p,ep,h⟩:=zwF l
 have E0:=zqp h
 have hwk:=h.wk
 have et:X9 (wi p) ord 200=some (znd ord (min ord.length 200) (wi p),()):=zv3 h E0 ord (most:=200) (by decide)
 rw [zcn,zpy]
 simp only [Option.bind_some,Bool.not_true,cond_false,ep,zpn h,et]
 obtain ⟨gh,I⟩:=zqR h ord (min ord.length 200) 0 0 (wi p) (gh0 p) (by omega) (zxx h)
 have I:SI p (0+min ord.length 200) (znd ord (min ord.length 200) (wi p)) gh:=I
 have hk0:0+min ord.length 200≤200:=by omega
 generalize 0+min ord.length 200=k0 at I hk0
 generalize znd ord (min ord.length 200) (wi p)=s0 at I
 have hwl:=I.G.E.wl
 have hwi:=zp6 h I.G.E b
 rw [zw,if_neg (by omega),hwi.1]
 generalize 1+(b.toNat:Int).tmod (s0.Ws.length:Int)=w at hwi
 have hw:1≤w∧w≤p.Workers:=by omega
 have hx0:=List.getElem?_eq_getElem (show (w-1).toNat<s0.Ws.length by omega)
 generalize s0.Ws[(w-1).toNat]=x0 at hx0
 have J0:znt p w 0 s0 x0:=by
  by_cases c:Swp p true s0.M w x0
  ·exact .inl c
  ·have:=zx4 h I hw hx0 1
   have:=zwG s0.T
   exact .inr ⟨c,1,Nat.le_refl _,fun e=>by omega,by omega⟩
 obtain ⟨o,e,s,gh',x,rfl,I',hx,Sw⟩:=uq (f:=ZL) (fun a=>∃(i:Nat) (s:za) (gh:Gh) (x:ze),i≤2500∧a=(true,w,(i:Int),s,())∧SI p (k0+i) s gh∧s.Ws[(w-1).toNat]? =some x∧znt p w i s x) (fun a=>2500-a.2.2.1.toNat)
  (fun o=>∃(s:za) (gh:Gh) (x:ze),o= .brk (true,s,())∧SI p (k0+2500) s gh∧s.Ws[(w-1).toNat]? =some x∧Swp p true s.M w x) (by
  rintro _ ⟨i,s,gh,x,hi,rfl,I,hx,J⟩
  rw [zbc,zw]
  by_cases c:(i:Int)<2500
  ·obtain ⟨gh',x',I',hx',J'⟩:=ztv h (by omega) I hw hx J
   rw [if_pos c,zcN h I.G.E,Option.bind_some,xy (by omega)]
   refine ⟨_,rfl,⟨i+1,_,gh',x',by omega,rfl,I',hx',J'⟩,?_⟩
   show 2500-((i+1:Nat):Int).toNat<2500-(i:Int).toNat
   omega
  ·rw [if_neg c]
   have hi2:i=2500:=by omega
   subst hi2
   refine ⟨_,rfl,s,gh,x,rfl,I,hx,?_⟩
   rcases J with J | ⟨_,g,_,_,h3⟩
   ·exact J
   ·omega) (true,w,0,s0,()) ⟨0,s0,gh,x0,by omega,rfl,I,hx0,J0⟩ (by show 2500-0<18446744073709551616;decide)
 refine (congrArg (fun o=>Option.bind o _) e).trans ?_
 rw [Option.bind_some]
 dsimp only
 have hve: ∀u,1≤u→u≤p.Workers→VE p s.M u:=fun u a b=>Sw.kn u a b (.inl rfl)
 have hF:gh'.F=[]:=by
  have hc:=I'.G.X.L.cF
  have hfe:=Sw.fe rfl
  unfold FE at hfe
  rw [hfe] at hc
  exact hc.empty
 have hP:=I'.G.E.S.P
 have hb:=Ul h
 rw [zuG h I'.G hve true,Option.bind_some]
 dsimp only
 rw [cond_true,hP,zbR,Option.bind_some,UO,Option.bind_some,zta h I'.G.X (by omega),Option.bind_some]
 dsimp only
 rw [hF];rfl
end B15
end
end Go.Pe.G
