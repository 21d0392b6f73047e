/- Own work of this seat: PLaw20. -/
import Derived.Test.YtohmajcohogajaaGreatDoorTFPa
import Derived.Test.YtohmajcohogajaaGreatDoorTFPb
set_option linter.unusedVariables false
set_option linter.unusedSimpArgs false
set_option linter.unnecessarySimpa false
set_option linter.unusedSectionVars false
set_option linter.deprecated false
set_option maxRecDepth 20000
open Bool renaming not_true → zJQ
open Int renaming toNat_natCast → zKi
open List renaming mem_of_getElem? → zJG, mem_cons_of_mem → zJI, length_cons → zJS, mem_cons_self → zJW, length_replicate → zKf, getElem?_cons_zero → zKE, eq_of_mem_replicate → zLp
open Nat renaming le_refl → zJF
open Option renaming bind_some → zJA
namespace Go.Pe.G
open Go.Pe
noncomputable section
namespace B20
def TI (p:zd) (k:Nat) (s:za):Prop:=∃k' gh W,k'<=k/\EG p (z5 p+1) k' s gh/\PI p s W/\BN p s/\PD p s
theorem zA6 {p:zd}(h:zD p):TI p 0 (xl p):=⟨0,gh0 p,_,by omega,zIL h,zIx h,zIr h,zID h⟩
theorem TI.next {p:zd}(hp:zD p) {k:Nat}{s:za}(hk:k<1000000) (I:TI p k s) {x:zj}(hx:zah p x):TI p (k+1) (Ze s x):=by
 obtain ⟨k',gh,W,h1,I,J,B,D⟩:=I;obtain ⟨gh',W',I',J',_⟩:=zGA hp (by omega) I J (zhr p x);rw [zx0 hp I.G.E hx];exact ⟨k'+1,gh',W',by omega,I',J',B.next hp (by omega) I.G (zhr p x),D.next hp (by omega) I.G (zhr p x)⟩
theorem TI.run {p:zd}(hp:zD p):∀(l:List zj) {k:Nat}{s:za},(∀x∈l,zah p x)->k+l.length<1000000->TI p k s->TI p (k+l.length) (zbh s l).1
 | [],k,s,_,_,I=>I
 | x::l,k,s,hx,hk,I=>by
  rw [zJS] at hk ⊢;rw [zr0];split
  .obtain ⟨k',gh,W,h1,r⟩:=I;exact ⟨k',gh,W,by omega,r⟩
  .have:=TI.run hp l (fun y hy=>hx y (zJI _ hy)) (by omega) (I.next hp (by omega) (hx x (zJW ..)));rwa [show k+1+l.length=k+(l.length+1) by omega] at this
theorem TI.right {p:zd}(hp:zD p) {k:Nat}{s:za}(I:TI p k s):zbc s=some (true,())/\VB s=some (true,())/\zbe s=some (true,())/\Vz s=some (true,())/\zcL s=some (true,())/\(za6 s=some (true,())->zdq s=some (true,())):=by
 obtain ⟨k',gh,W,h1,I,J,B,D⟩:=I;have a1:=zFv hp I.G;have a2:=zCz hp I;have a3:=zFB hp I.G J;have a4:=zBQ hp I.G B;have a5:=zF2 hp I.G D;exact ⟨a1,a2,a3,a4,a5,fun a6=>zAQ a1 a2 a3 a4 a5 a6 (zIe hp I.G.E.H)⟩
theorem zyM {s:za}(h:s.Done=false):za6 s=some (true,()):=by rw [zwR,h];rfl
def zrh (a b:za):Bool :=
 if b.L.Scanned<a.L.Scanned then false else if b.Epoch<a.Epoch then false else if (YC a b).1=1 then zI (zv0 a) (YC a b).2 else if (YC a b).1=2 then zI (zbD a) (YC a b).2 else !(decide ((YC a b).1= -1))
theorem zr2 {p:zd}(hp:zD p) {a b:za}(ha:EOk p (z5 p+1) a) (hb:HOk p b.H):zdz a b=some (zrh a b,()):=by
 have hw:=hp.wk;have hm:=hp.mt;have wl:=ha.wl;have ml:=ha.ml;unfold zrh;rw [zwT,zkZ hp ha.H hb,zJA];dsimp only;rw [zo,zo,zo,zo];split
 .rfl
 split
 .rfl
 split
 .rw [zq9 ha.small (by omega) (by omega),zJA,zle,zkN];rfl
 split
 .rw [zfM,zJA,zle,zkN];rfl
 .rfl
theorem zFV {A B D:Type}{f:A->Option (yD A B D)}{x y:A}{b:B}(h1:f x=some (.again y)) (h:f y=some (.brk b)):zX f x=some (.brk b):=by
 rw [YI];show yK f (18446744073709551614+1+1) x=_;rw [yK,h1,zJA];dsimp only;rw [yK,h];rfl
def zzB:List zw:=[⟨5,1,0,0⟩,⟨2,1,0,0⟩,⟨3,1,0,0⟩]
def pEx:zd:=⟨1,1,2,1,1,4,2,2,⟨1,[[2],[0],[0]]⟩,1#64,[[1,0]],[zzB],[]⟩
theorem zGn:zcg [zzB]=some (pEx,()):=by
 rw [zo3,zFV (by rw [zca,zo,zb (by decide),yC (by decide),zJA,vu (by decide)];simp only [Int.toNat_zero,zKE,zJA];rw [yC (by decide),zJA,zU (by decide) (by decide)]) (by rw [zca,zo,zc (by decide)])];rfl
theorem zoq:zD pEx:=by
 constructor
 case objs=>intro o ho;simp [pEx] at ho ⊢;rcases ho with rfl | rfl | rfl<;>simp
 case roots=>exact ⟨1,by decide,by decide,by decide⟩
 case reg=>intro r hr;simp [pEx] at hr ⊢;subst hr;simp
 case prog =>
  intro k r ops hr ho;cases k with
  | succ k=>cases ho
  | zero =>
   injection hr with hr;injection ho with ho;subst hr;subst ho;refine ⟨by decide,fun o h=>?_⟩;simp [zzB] at h;rcases h with rfl | rfl | rfl
   .exact ⟨by decide,.inr (.inr ⟨.inr rfl,rfl,rfl⟩)⟩
   .exact ⟨by decide,.inl ⟨.inr rfl,by decide,by decide⟩⟩
   .exact ⟨by decide,.inr (.inr ⟨.inl rfl,rfl,rfl⟩)⟩
 all_goals first | decide | rfl
def mEx (n:Nat):List zj:=List.replicate n ⟨2,1⟩
def rEx (n:Nat):za:=(zbh (xl pEx) (mEx n)).1
theorem zHi {n:Nat}(h:n<=8):TI pEx 8 (rEx n):=by
 have:=TI.run zoq (mEx n) (fun x hx=>by rw [zLp hx];exact .inr (.inr ⟨rfl,by decide,by decide⟩)) (by rw [mEx,zKf];omega) (zA6 zoq);rw [mEx,zKf] at this;obtain ⟨k,gh,W,h1,r⟩:=this;exact ⟨k,gh,W,by omega,r⟩
theorem zgn {n:Nat}(h:n<=8):EOk pEx (z5 pEx+1) (rEx n):=by
 obtain ⟨k,gh,W,h1,I,_⟩:=zHi h;exact I.G.E
theorem zvH {n:Nat}(h:n<=8):WJ (xl pEx) (mEx n)=some (rEx n,(zbh (xl pEx) (mEx n)).2,()):=zEh zoq (zAV zoq) (by rw [mEx,zKf];omega)
theorem zzt:U5=some (true,()):=by
 have h:=zoq;have E0:=zAV h;have c5:cut (mEx 8) 0 5=some (mEx 5):=by kernel_rfl
 have c6:cut (mEx 8) 0 6=some (mEx 6):=by kernel_rfl
 have c7:cut (mEx 8) 0 7=some (mEx 7):=by kernel_rfl
 have c8:cut (mEx 8) 0 8=some (mEx 8):=by kernel_rfl
 have m1:YC (rEx 5) (rEx 6)=(4,1):=by decide +kernel
 have m2:YC (rEx 7) (rEx 8)=(3,4):=by decide +kernel
 have m3:(YC (rEx 8) (rEx 7)).1= -1:=by decide +kernel
 have m4:(YC (xl pEx) (xl pEx)).1=0:=by decide +kernel
 have f8:zb7 pEx (rEx 8)=8#64:=by decide +kernel
 have f0:zb7 pEx (xl pEx)=0#64:=by decide +kernel
 have l1:zrh (rEx 5) (rEx 6)=true:=by decide +kernel
 have l2:zrh (rEx 7) (rEx 8)=true:=by decide +kernel
 have l3:zrh (rEx 8) (rEx 7)=false:=by decide +kernel
 have d0:=zyM (s:=xl pEx) rfl;have d8:=zyM (s:=rEx 8) (by decide +kernel);obtain ⟨t1,t2,t3,t4,_,t6⟩:=(zA6 h).right h;obtain ⟨_,_,_,_,u5,u6⟩:=(zHi (n:=8) (by decide)).right h;rw [zmf,show ([([zw.mk 5 1 0 0,zw.mk 2 1 0 0,zw.mk 3 1 0 0]:List zw)]:List (List zw))=[zzB] from rfl,zGn,zJA,zyt h,zJA];dsimp only;rw [show ([zj.mk 2 1,zj.mk 2 1,zj.mk 2 1,zj.mk 2 1,zj.mk 2 1,zj.mk 2 1,zj.mk 2 1,zj.mk 2 1]:List zj)=mEx 8 from rfl,c5,zJA,zvH (n:=5) (by decide),zJA,c6,zJA,zvH (n:=6) (by decide),zJA,c7,zJA,zvH (n:=7) (by decide),zJA,c8,zJA,zvH (n:=8) (by decide),zJA];dsimp only;rw [zkZ h (zgn (n:=5) (by decide)).H (zgn (n:=6) (by decide)).H,zJA,zkZ h (zgn (n:=7) (by decide)).H (zgn (n:=8) (by decide)).H,zJA,zkZ h (zgn (n:=8) (by decide)).H (zgn (n:=7) (by decide)).H,zJA,zkZ h E0.H E0.H,zJA,t6 d0,zJA];dsimp only;rw [cond_true,u6 d8,zJA];dsimp only;rw [cond_true,m1,m2,m3,m4];dsimp only;rw [decide_eq_true rfl,cond_true,decide_eq_true rfl,cond_true,decide_eq_true rfl,cond_true,cond_true,decide_eq_true rfl,cond_true,decide_eq_true rfl,cond_true,zes (p:=pEx) (zgn (n:=8) (by decide)).S.P,zJA,f8];dsimp only;rw [decide_eq_true rfl,cond_true,zes (p:=pEx) E0.S.P,zJA,f0];dsimp only;rw [decide_eq_true rfl,cond_true,zr2 h (zgn (n:=5) (by decide)) (zgn (n:=6) (by decide)).H,zJA,l1];dsimp only;rw [cond_true,zr2 h (zgn (n:=7) (by decide)) (zgn (n:=8) (by decide)).H,zJA,l2];dsimp only;rw [cond_true,zr2 h (zgn (n:=8) (by decide)) (zgn (n:=7) (by decide)).H,zJA,l3];dsimp only;rw [Bool.not_false,cond_true,t1,zJA];dsimp only;rw [cond_true,t2,zJA];dsimp only;rw [cond_true,t3,zJA];dsimp only;rw [cond_true,t4,zJA];dsimp only;rw [cond_true,u5,zJA];dsimp only;rw [cond_true,d0];rfl
theorem triFresh_plain (l m:List (BitVec 8)):ZK l m=some (true,()):=by
 obtain ⟨p,ep,h⟩:=zIa l;obtain ⟨ps,epk,hl,hok⟩:=zGV h m 300 (by decide);have hn:=h.n;have hmo:=h.most;have epk:VG p m 300=some (ps,()):=epk;rw [zk3,zzt];simp only [zJA,zJQ,cond_false,ep,zyt h,epk];obtain ⟨e,_⟩:=ZO (f:=uJ) (fun j s=>(true,(ps.length:Int),j,p,s,ps,())) (fun _=>(true,())) ps (by omega) Ze (fun i s=>TI p i s) (s:=xl p) (zA6 h)
  (fun i s x hx hi I=>by
   have hxo:=hok x (zJG hx);have I':=I.next h (by omega) hxo;refine ⟨I',?_⟩;obtain ⟨k,gh,W,h1,I,J,B,D⟩:=I;obtain ⟨k',gh',W',h1',I',J',B',D'⟩:=I';have E:=I.G.E;have E':=I'.G.E;have hN:=E.H.n;have hN':=E'.H.n;have hg:s.H.Objs.length<=(Ze s x).H.Objs.length:=by
    rw [zx0 h E hxo];rcases zHO h I.G (zDi h (by omega) I.G (zhr p x)) with ⟨_,_,e⟩ | ⟨_,_,_,_,_,e,_⟩ | ⟨_,_,_,_,_,e⟩ | ⟨_,e,_⟩ | ⟨_,_,_,_,e,_⟩
    .rw [e];exact zJF _
    .rw [e];exact zJF _
    .rw [e];exact zJF _
    .rw [e,ZT];exact Nat.le_succ _
    .rw [e];exact zJF _
   have u1:zb7 p s&&& ~~~zb7 p (Ze s x)=0#64:=(zel _ _).2 (fun o ho=>by
    have:=(zj3 h E.H o).1 ho;exact (zj3 h E'.H o).2 (by omega))
   have hc:=zyz h E'.H;show uJ (true,(ps.length:Int),(i:Int),p,s,ps,())=_;rw [zal,zo,zY,ve,zJA,zKi,hx,zJA,zts h E,zJA];dsimp only;rw [zes E'.S.P,zJA,zes E.S.P,zJA,ZP,zJA];dsimp only;rw [u1,decide_eq_true rfl,zJQ,cond_false,ziM,zJA,hc,zU];dsimp only;rw [decide_eq_true rfl,zJQ,cond_false,ZP,zJA];dsimp only;rw [zx5 h I'.G,decide_eq_true rfl,zJQ,cond_false,zJA,zU];dsimp only;rw [decide_eq_false (by omega),cond_false,yH])
  (fun s _=>by
   show uJ (true,(ps.length:Int),(ps.length:Int),p,s,ps,())=_;rw [zal,zo,zi])
 rw [e];rfl
end B20
end
end Go.Pe.G
