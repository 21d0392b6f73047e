/- Own work of this seat: PA, PB, PMk, PMade20, PRight, PNew, PInv, PNewOk, PDq, PWork, PMut, PSmall, PEng, PLowEq, PMutEq, PDetEq, PWorkEq, PFrame, PGo, PEngEq, PPicks20, PFold, PSort, PDq2, PChain, PStrong, PGstep, PWstep, PBits. -/
import Derived.Test.YtbjeofbgalopeaaGreatDoorTMGa
import Derived.Test.YtbjeofbgalopeaaGreatDoorTMGb
set_option linter.unusedVariables false
set_option linter.unusedSimpArgs false
set_option linter.unnecessarySimpa false
set_option linter.unusedSectionVars false
set_option linter.deprecated false
set_option maxRecDepth 20000
open BitVec renaming toNat_ofInt → zLu, toNat_and → zLG, getLsbD_and → zLP, eq_of_toNat_eq → zLT, eq_of_getLsbD_eq → zL5, getLsbD_zero → zL6, toInt_eq_toNat_cond → zMc, getLsbD_not → zMi
open Bool renaming and_eq_true → zKB, not_eq_true' → zKT, not_true → zKU, true_and → zLw, or_eq_true → zLK
open Int renaming toNat_natCast → zLi, le_refl → zLl
open List renaming getElem?_eq_getElem → zKC, getD_eq_getElem?_getD → zKD, append_nil → zKE, mem_of_getElem? → zKG, append_assoc → zKI, mem_cons_of_mem → zKJ, getElem?_eq_some_iff → zKK, nil_append → zKL, length_append → zKO, mem_map → zKP, length_cons → zKR, mem_cons → zKS, mem_append_left → zKV, getElem_mem → zKX, mem_cons_self → zKY, length_set → zKZ, mem_append → zK0, mem_range → zK2, perm_append_comm_assoc → zK4, getElem?_append_left → zK6, mem_append_right → zK8, getElem?_map → zK9, getElem?_set_ne → zLa, getElem?_append_right → zLb, length_replicate → zLg, drop_eq_getElem_cons → zLh, mem_or_eq_of_mem_set → zLj, mem_singleton → zLn, perm_append_comm → zLo, getElem?_set → zLp, eq_nil_of_length_eq_zero → zLq, foldl_cons → zLr, flatMap_cons → zLs, length_map → zLx, getElem?_cons_zero → zLF, getElem?_set_self → zLH, getElem?_eq_none → zLJ, length_take → zLM, length_filter_le → zLO, nodup_append → zLQ, length_drop → zLS, pairwise_cons → zLU, take_add_one → zLV, range_succ → zLY, flatMap_append → zLZ, getElem?_replicate → zL4, mem_of_mem_take → zL9, drop_eq_nil_of_le → zMb, take_length → zMg, length_singleton → zMs, getElem_append_left → zMt
open List.Perm renaming append_left → zKN, refl → zK3
open Nat renaming le_refl → zKF, lt_or_ge → zLc, add_zero → zLk, mul_one → zLv, le_trans → zLI, add_assoc → zLR, mul_le_mul → zL0, lt_of_le_of_lt → zMj, and_two_pow_sub_one_eq_mod → zMv
open Option renaming bind_some → zKA
namespace Go.Pe.G
open Go.Pe
noncomputable section
theorem vq {A B D:Type}{f:A->Option (yN A B D)}(Inv:A->Prop) (ms:A->Nat) (Q:yN Unit B D->Prop)
  (h:∀a,Inv a->∃o,f a=some o/\match o with
   | .again a'=>Inv a'/\ms a'<ms a
   | .brk b=>Q (.brk b)
   | .ret c=>Q (.ret c)):∀a,Inv a->ms a<vV->∃o,yc f a=some o/\Q o:=by
 have key:∀(n:Nat) a,Inv a->ms a<n->∃o,yY f n a=some o/\Q o:=by
  intro n
  induction n with
  | zero=>intro a _ h;omega
  | succ n ih =>
   intro a ha hm;obtain ⟨o,ho,hq⟩:=h a ha;simp only [yY,ho,zKA];cases o with
   | again a'=>exact ih a' hq.1 (by have:=hq.2;omega)
   | brk b=>exact ⟨_,rfl,hq⟩
   | ret c=>exact ⟨_,rfl,hq⟩
 intro a ha hm;rw [Y3];exact key vV a ha hm
theorem v9 {n:Nat}(h:n<18446744073709551616):n<vV:=h
theorem ya {a:Int}(h: -9223372036854775808<=a:=by omega) (h2:a<9223372036854775808:=by omega):w64 a=a:=by
 rw [zte];omega
def wc (n:Int):Int:=(n+9223372036854775808)%18446744073709551616-9223372036854775808
theorem xU:w64=wc:=funext zte
theorem yR {a:Int}(h: -9223372036854775808<=a:=by omega) (h2:a<9223372036854775808:=by omega):wc a=a:=by unfold wc;omega
theorem zr {α:Type}(p:Prop) [Decidable p] (a b:α):(bif decide p then a else b)=if p then a else b:=by
 by_cases h:p<;>simp [h]
theorem yq {α:Type}(p:Prop) [Decidable p] (a b:α):(bif !(decide p) then a else b)=if p then b else a:=by
 by_cases h:p<;>simp [h]
theorem yP {α:Type}{l:List α}(h:l.length<4294967296:=by omega):yD l=some l:=by
 rw [zuI];simp [h]
theorem vX {α:Type}{l:List α}{i:Int}(h:0<=i:=by omega):idx l i=l[i.toNat]? :=by
 unfold idx;simp [h]
theorem vN {α:Type}{l:List α}{i:Int}(h:0<=i:=by omega) (h2:i<l.length:=by omega):wg l i=some i.toNat:=by
 unfold wg;simp [h,h2]
def bit (o:Int):BitVec 64:=if 1<=o/\o<=64 then 1#64 <<< (o-1).toNat else 0#64
theorem zDh (a:Int):znL a=some (bit a,()):=by
 rw [zBJ];simp only [zr];unfold bit;by_cases h1:a<1
 .rw [zb h1,zi]
 .rw [zc h1];by_cases h2:64<a
  .rw [zb h2,zi]
  .rw [zc h2,ya (a:=a-1) (by omega) (by omega),zc (show ¬a-1<0 by omega),zb (show 1<=a/\a<=64 by omega),Nat.min_eq_left (by omega)]
theorem zlp (s:BitVec 64) (o:Int):zb9 s o=some (!(decide (s&&&bit o=0#64)),()):=by
 rw [zBu,zDh];rfl
theorem zg7 (s:BitVec 64) (o:Int):YO s o=some (s|||bit o,()):=by
 rw [zA6,zDh];rfl
def shade (t:zo) (o:Int):zo×Bool :=
 if t.Marks|||bit o=t.Marks then (t,false) else if t.Black&&&bit o=0#64 then ({t with Marks:=t.Marks|||bit o},true) else (t,false)
theorem zlh (t:zo) (o:Int):zb6 t o=some ((shade t o).1,(shade t o).2,()):=by
 rw [zw8,zg7,zKA,zr];unfold shade;by_cases h1:t.Marks|||bit o=t.Marks
 .rw [zb h1,zb h1]
 .rw [zc h1,zc h1,zlp,zKA,yq];by_cases h2:t.Black&&&bit o=0#64
  .rw [zb h2,zb h2]
  .rw [zc h2,zc h2]
theorem zzk {m:List (BitVec 64)}(h:m.length<4294967296):wv m=some (m,()):=by
 rw [zee,zKL,yP h,zKA];cases m with
 | nil=>simp [zeJ]
 | cons a l=>simp
theorem zkO {m:List (List Int)}(h:m.length<4294967296):vu m=some (m,()):=by
 rw [zhv,zKL,yP h,zKA];cases m with
 | nil=>simp [zeJ]
 | cons a l=>simp
def ld (m:List (BitVec 64)) (a:Int):BitVec 64:=if 0<=a then m.getD a.toNat 0#64 else 0#64
def st (m:List (BitVec 64)) (a:Int) (v:BitVec 64):List (BitVec 64):=if 0<=a then m.set a.toNat v else m
def sw (m:List (BitVec 64)) (at_:Int) (a b:BitVec 64):List (BitVec 64)×Bool :=
 if 0<=at_/\at_<m.length/\ld m at_=a then (st m at_ b,true) else (m,false)
theorem zBp {m:List (BitVec 64)}{a:Int}(h:0<=a) (h2:a<m.length):m[a.toNat]? =some (ld m a):=by
 unfold ld;rw [zb h,zKD,zKC (by omega)];rfl
theorem zDr {m:List (BitVec 64)}{a:Int}:st m a (ld m a)=m:=by
 unfold st ld;by_cases h:0<=a
 .rw [zb h,zb h];by_cases h2:a.toNat<m.length
  .rw [zKD,zKC h2];simp
  .rw [List.set_eq_of_length_le (by omega)]
 .rw [zc h]
theorem zGv {m:List (BitVec 64)}{a:Int}(h:a<0\/m.length<=a):ld m a=0#64:=by
 unfold ld;rcases h with h | h
 .rw [zi]
 .split
  .rw [zKD,zLJ (by omega)];rfl
  .rfl
theorem zGf {m:List (BitVec 64)}{a:Int}{v:BitVec 64}(h:a<0\/m.length<=a):st m a v=m:=by
 unfold st;rcases h with h | h
 .rw [zi]
 .split
  .rw [List.set_eq_of_length_le (by omega)]
  .rfl
theorem zxP (m:List (BitVec 64)) (a:Int) (x y:BitVec 64):∃b,XX m ⟨1,a,x,y⟩=some (m,ld m a,b,()):=by
 rw [zn9];simp only [zr,if_true];by_cases h1:a<0
 .rw [zb h1,zGv (.inl h1)];exact ⟨_,rfl⟩
 .rw [zc h1];by_cases h2:(m.length:Int)<=a
  .rw [zb h2,zGv (.inr h2)];exact ⟨_,rfl⟩
  .rw [zc h2,vX,zBp (by omega) (by omega),zKA,zzz,zKA];simp
theorem zB2 {m:List (BitVec 64)}(hm:m.length<4294967296) (a:Int) (x y:BitVec 64):∃v b,XX m ⟨2,a,x,y⟩=some (st m a x,v,b,()):=by
 rw [zn9];simp only [zr,if_true,zc (show ¬(2:Int)=1 by omega)];by_cases h1:a<0
 .rw [zb h1,zGf (.inl h1)];exact ⟨_,_,rfl⟩
 .rw [zc h1];by_cases h2:(m.length:Int)<=a
  .rw [zb h2,zGf (.inr h2)];exact ⟨_,_,rfl⟩
  .rw [zc h2,vX,zBp (by omega) (by omega),zKA,zzV,zKA,zt,yq];by_cases h3:ld m a=x
   .rw [zb h3];subst h3;rw [zDr];exact ⟨_,_,rfl⟩
   .rw [zc h3,zzk hm,zKA,vN (l:=m) (by omega) (by omega),zKA];unfold st;rw [yf];exact ⟨_,_,rfl⟩
theorem zxj {m:List (BitVec 64)}(hm:m.length<4294967296) (a:Int) (x y:BitVec 64):∃v,XX m ⟨3,a,x,y⟩=some ((sw m a x y).1,v,(sw m a x y).2,()):=by
 rw [zn9];simp only [zr,if_true,zc (show ¬(3:Int)=1 by omega),zc (show ¬(3:Int)=2 by omega)];by_cases h1:a<0
 .rw [zb h1];have:sw m a x y=(m,false):=by unfold sw;rw [zi]
  rw [this];exact ⟨_,rfl⟩
 .rw [zc h1];by_cases h2:(m.length:Int)<=a
  .rw [zb h2];have:sw m a x y=(m,false):=by unfold sw;rw [zi]
   rw [this];exact ⟨_,rfl⟩
  .rw [zc h2,vX,zBp (by omega) (by omega),zKA,zzU,zKA];simp only [zr];by_cases h3:ld m a=x
   .have:sw m a x y=(st m a y,true):=by unfold sw;rw [zb ⟨by omega,by omega,h3⟩]
    rw [zb h3,this,yq];by_cases h4:ld m a=y
    .rw [zb h4];have:st m a y=m:=by rw [<-h4,zDr]
     rw [this];simp [h3]
    .rw [zc h4,zzk hm,zKA,vN (l:=m) (by omega) (by omega),zKA];unfold st;rw [yf];simp [h3]
   .have:sw m a x y=(m,false):=by unfold sw;rw [zc (by rintro ⟨_,_,h⟩;exact h3 h)]
    rw [zc h3,this];simp [h3]
theorem zkA (m:List (BitVec 64)) (a:Int):zaB m a=some (ld m a,()):=by
 obtain ⟨b,h⟩:=zxP m a 0#64 0#64;rw [zvu,h];rfl
theorem zdX {m:List (BitVec 64)}(hm:m.length<4294967296) (a:Int) (x:BitVec 64):XR m a x=some (st m a x,()):=by
 obtain ⟨v,b,h⟩:=zB2 hm a x 0#64;rw [zuW,h];rfl
theorem Xe (m:List (BitVec 64)) (a:Int):uk m a=some (ld m a,()):=by
 obtain ⟨b,h⟩:=zxP m a 0#64 0#64;rw [zv8,h];rfl
theorem zdW {m:List (BitVec 64)}(hm:m.length<4294967296) (a:Int) (x:BitVec 64):XZ m a x=some (st m a x,()):=by
 obtain ⟨v,b,h⟩:=zB2 hm a x 0#64;rw [zuk,h];rfl
def yI (h:BitVec 64):Int:=(h&&&4294967295#64).toInt
def xN (v:BitVec 64) (n:Int):BitVec 64:=(v <<< 32)|||(BitVec.ofInt 64 n&&&4294967295#64)
theorem zfh (h:BitVec 64):Xy h=some (yI h,()):=zwX h
theorem zkD (v:BitVec 64) (n:Int):zaw v n=some (xN v n,()):=zwB v n
def zD (m:List (BitVec 64)) (c:zV):List (BitVec 64)×zV :=
 if c.Out≠0\/(c.Kind≠1/\c.Kind≠2)\/c.PC<0\/3<=c.PC then (m,c)
 else if c.PC=0 then
  (m,if c.Kind=2/\yI (ld m c.Head)=0 then {c with H:=ld m c.Head,Out:=2,PC:=1} else {c with H:=ld m c.Head,PC:=1})
 else if c.PC=1 then
  if c.Kind=2 then (m,{c with Y:=(ld m (wc (c.Next+yI c.H))).toInt,PC:=2})
  else (st m (wc (c.Next+c.X)) (BitVec.ofInt 64 (yI c.H)),{c with PC:=2})
 else
  let r:=sw m c.Head c.H (xN ((c.H >>> 32)+1#64) (if c.Kind=2 then c.Y else c.X))
  (r.1,if r.2 then (if c.Kind=2 then {c with X:=yI c.H,Out:=1,PC:=3} else {c with Out:=1,PC:=3}) else {c with PC:=0})
theorem ze9 {m:List (BitVec 64)}(hm:m.length<4294967296) (c:zV):W1 m c=some ((zD m c).1,(zD m c).2,()):=by
 have hsee:uw m c=some (m,(if c.Kind=2/\yI (ld m c.Head)=0 then {c with H:=ld m c.Head,Out:=2} else {c with H:=ld m c.Head}),()):=by
  rw [zk4,zkA,zKA,zfh,zKA,zr,zr];by_cases h1:c.Kind=2
  .by_cases h2:yI (ld m c.Head)=0
   .rw [zb h1,zb h2,zb ⟨h1,h2⟩]
   .rw [zb h1,zc h2,zc (fun h=>h2 h.2)]
  .rw [zc h1,zc (fun h=>h1 h.1)]
 have hlink:Wp m c=some (st m (wc (c.Next+c.X)) (BitVec.ofInt 64 (yI c.H)),()):=by
  rw [zm0,xU,zfh,zKA,zdX hm];rfl
 have hbeh:Ym m c=some (m,{c with Y:=(ld m (wc (c.Next+yI c.H))).toInt},()):=by
  rw [zho,xU,zfh,zKA,zkA];rfl
 have hswap:vY m c=some ((sw m c.Head c.H (xN ((c.H >>> 32)+1#64) (if c.Kind=2 then c.Y else c.X))).1,
   (if (sw m c.Head c.H (xN ((c.H >>> 32)+1#64) (if c.Kind=2 then c.Y else c.X))).2 then (if c.Kind=2 then {c with X:=yI c.H,Out:=1} else {c with Out:=1}) else {c with PC:= -1}),()):=by
  rw [zjs,zr];by_cases h1:c.Kind=2
  .rw [zb h1,zkD,zKA];obtain ⟨v,hv⟩:=zxj hm c.Head c.H (xN ((c.H >>> 32)+1#64) c.Y);simp only [zb h1];rw [hv,zKA];cases hs:(sw m c.Head c.H (xN ((c.H >>> 32)+1#64) c.Y)).2 with
   | true=>simp [hs,h1,zfh]
   | false=>simp [hs]
  .rw [zc h1,zkD,zKA];obtain ⟨v,hv⟩:=zxj hm c.Head c.H (xN ((c.H >>> 32)+1#64) c.X);simp only [zc h1];rw [hv,zKA];cases hs:(sw m c.Head c.H (xN ((c.H >>> 32)+1#64) c.X)).2 with
   | true=>simp [hs,h1]
   | false=>simp [hs]
 rw [zwt,hsee,hlink,hbeh,hswap];simp only [zr,yq,zKA];unfold zD;by_cases h0:c.Out=0
 .by_cases hp0:c.PC<0
  .have:(c.Out≠0\/(c.Kind≠1/\c.Kind≠2)\/c.PC<0\/3<=c.PC):= .inr (.inr (.inl hp0));rw [zb this];simp [h0,hp0]
  .by_cases hp3:3<=c.PC
   .have:(c.Out≠0\/(c.Kind≠1/\c.Kind≠2)\/c.PC<0\/3<=c.PC):= .inr (.inr (.inr hp3));rw [zb this];simp [h0,hp3]
   .by_cases hk:c.Kind=1\/c.Kind=2
    .have: ¬(c.Out≠0\/(c.Kind≠1/\c.Kind≠2)\/c.PC<0\/3<=c.PC):=by
      rintro (h | h | h | h)
      .exact h h0
      .omega
      .exact hp0 h
      .exact hp3 h
     rw [zc this];have hpc:c.PC=0\/c.PC=1\/c.PC=2:=by omega
     have w1:w64 1=1:=ya;have w2:w64 2=2:=ya;have w3:w64 3=3:=ya;have w4:w64 0=0:=ya;rcases hk with hk | hk<;>rcases hpc with hpc | hpc | hpc<;>simp [h0,hk,hpc,w1,w2,w3,w4]<;>(try split)<;>simp [hpc,w1,w3,w4]
    .have:(c.Out≠0\/(c.Kind≠1/\c.Kind≠2)\/c.PC<0\/3<=c.PC):= .inr (.inl (by omega));rw [zb this];have k1: ¬c.Kind=1:=by omega
     have k2: ¬c.Kind=2:=by omega
     simp [h0,k1,k2]
 .have:(c.Out≠0\/(c.Kind≠1/\c.Kind≠2)\/c.PC<0\/3<=c.PC):= .inl h0;rw [zb this];simp [h0]
def uW (d:zg):BitVec 64:=BitVec.ofInt 64 (if d.Cap<1 then 1 else d.Cap)
def XB (d:zg) (i:BitVec 64):Int:=wc (wc (d.Base+2)+(i%uW d).toInt)
def xk (m:List (BitVec 64)) (d:zg):List (BitVec 64)×zg :=
 if d.Out≠0\/d.PC<0\/4<=d.PC then (m,d)
 else if d.PC=0 then (m,{d with B:=ld m (wc (d.Base+1)),PC:=1})
 else if d.PC=1 then (m,if uW d<=d.B-ld m d.Base then {d with T:=ld m d.Base,Out:=3,PC:=2} else {d with T:=ld m d.Base,PC:=2})
 else if d.PC=2 then (st m (XB d d.B) (BitVec.ofInt 64 d.X),{d with PC:=3})
 else (st m (wc (d.Base+1)) (d.B+1#64),{d with Out:=1,PC:=4})
theorem zBQ:w64 0=0/\w64 1=1/\w64 2=2/\w64 3=3/\w64 4=4:=by
 refine ⟨?_,?_,?_,?_,?_⟩<;>exact ya
theorem zGl {d:zg}(h:d.Cap<1000):uW d≠0#64:=by
 unfold uW;intro e;have:=congrArg BitVec.toNat e;rw [zLu] at this;split at this<;>simp at this<;>omega
theorem zqp (d:zg):yr d=some (uW d,()):=by
 rw [zmR];unfold uW;rw [zr]
theorem zie {d:zg}(h:d.Cap<1000) (i:BitVec 64):uU i d=some (XB d i,()):=by
 rw [zlF,xU,zqp,zKA,zr,zc (zGl h)];rfl
theorem zn1 {m:List (BitVec 64)}(hm:m.length<4294967296) {d:zg}(hk:d.Kind=1) (hc:d.Cap<1000):zcn m d=some ((xk m d).1,(xk m d).2,()):=by
 obtain ⟨w0,w1,w2,w3,w4⟩:=zBQ;have h0:vK m d=some (m,{d with B:=ld m (wc (d.Base+1))},()):=by
  rw [Vw,xW,xU,zKA,Xe];rfl
 have h1:VB m d=some (m,(if uW d<=d.B-ld m d.Base then {d with T:=ld m d.Base,Out:=3} else {d with T:=ld m d.Base}),()):=by
  rw [zjJ,ZO,zKA,Xe,zKA,zqp,zKA,zr];have e:uW {d with T:=ld m d.Base}=uW d:=rfl;simp only [e];by_cases h:uW d<=d.B-ld m d.Base
  .rw [zb h,zb h,vr];simp [hk]
  .rw [zc h,zc h]
 have h2:zbC m d=some (st m (XB d d.B) (BitVec.ofInt 64 d.X),()):=by
  rw [zon,zie hc,zKA,zdW hm];rfl
 have h3:XW m d=some (st m (wc (d.Base+1)) (d.B+1#64),{d with Out:=1},()):=by
  rw [zgz,vr];simp only [decide_true,zKU,zM,zKA,xW,xU];rw [zdW hm];rfl
 rw [znp,h0,h1,h2,h3,zkk];simp only [hk,decide_true,zt,zKA,yq,zr];have key:∀(x:Option (List (BitVec 64)×zg×Unit)) (v:List (BitVec 64)×zg×Unit) (y:Option (List (BitVec 64)×zg×Unit)),x=some v->Option.or x y=some v:=by
  rintro _ v y rfl;rfl
 apply key;unfold xk;by_cases g0:d.Out=0
 .by_cases g1:d.PC<0
  .simp [g0,g1]
  .by_cases g2:4<=d.PC
   .simp [g0,g2]
   .have hpc:d.PC=0\/d.PC=1\/d.PC=2\/d.PC=3:=by omega
    rcases hpc with h | h | h | h<;>simp [g0,h,hk,w1,w2,w3,w4]<;>(try split)<;>simp [h,hk,w2]
 .simp [g0]
def yu (p:zd):Int:=wc (p.Workers*wc (p.Cap+2))
def zU (p:zd):Int:=wc (yu p+1)
def z6 (p:zd) (w:Int):Int:=wc (wc (w-1)*wc (p.Cap+2))
theorem zcG (p:zd):Xq p=some (yu p,()):=by rw [zwN,xU];rfl
theorem zdE (p:zd):X2 p=some (zU p,()):=by rw [zu8,xU,zcG];rfl
theorem zaT (p:zd):Yy p=some (zU p,()):=by rw [zwL,zdE];rfl
theorem zbw (p:zd) (w:Int):xG p w=some (z6 p w,()):=by rw [zuw,xU];rfl
def zjT (p:zd) (g:zK):zK:={g with PC:=5,C:=⟨2,0,zU p,zU p,0#64,0,0,0⟩}
theorem zp3 (a:zX):uN a=some (⟨zjT a.s.P a.Grey,a.s⟩,()):=by
 rw [zlO,zdE,zKA,zaT,zKA,W7];rfl
def znJ (s:za) (g:zK):za×zK :=
 let t:=shade s.T g.Obj
 ({s with T:=t.1},
  if t.2=false then {g with PC:=2}
  else if g.Mode=1 then {g with PC:=3,D:=⟨1,0,z6 s.P g.Who,s.P.Cap,0#64,0#64,g.Obj,0⟩}
  else if g.Mode=2 then {g with PC:=4}
  else zjT s.P g)
def znn (s:za) (g:zK):za×zK :=
 let r:=xk s.M g.D
 ({s with M:=r.1},if r.2.Out=1 then {g with D:=r.2,Out:=1} else if r.2.Out=3 then zjT s.P {g with D:=r.2} else {g with D:=r.2})
def znW (s:za) (g:zK):za×zK :=
 let r:=zD s.M g.C
 ({s with M:=r.1},if r.2.Out=1 then {g with PC:=6,C:=r.2,Bin:=r.2.X} else if r.2.Out=2 then zjT s.P {g with C:=r.2} else {g with C:=r.2})
def zAg (s:za) (g:zK):za×zK :=
 ({s with Bins:=s.Bins.set g.Bin.toNat [g.Obj]},{g with PC:=7,C:=⟨1,0,yu s.P,zU s.P,0#64,g.Bin,0,0⟩})
def zey (s:za) (g:zK):za×zK :=
 let r:=zD s.M g.C
 ({s with M:=r.1},if r.2.Out=1 then {g with C:=r.2,Out:=1} else {g with C:=r.2})
def zH (s:za) (g:zK):za×zK :=
 if g.Out≠0\/g.Mode<1\/3<g.Mode\/g.PC<0\/8<=g.PC then (s,g)
 else if g.PC=7 then zey s g
 else if g.PC=6 then zAg s g
 else if g.PC=5 then znW s g
 else if g.PC=4 then ({s with Flag:=true},zjT s.P g)
 else if g.PC=3 then znn s g
 else if g.PC=2 then ({s with Work:=wc (s.Work-1)},{g with Out:=1})
 else if g.PC=1 then znJ s g
 else ({s with Work:=wc (s.Work+1)},{g with PC:=1})
structure GOk (s:za) (g:zK):Prop where
 mem:s.M.length<4294967296
 bins:s.Bins.length<4294967296
 bin:g.PC=6->0<=g.Bin/\g.Bin<s.Bins.length
 deq:g.PC=3->g.D.Kind=1/\g.D.Cap<1000
theorem zy5 {s:za}{g:zK}(ok:GOk s g):zdZ s g=some ((zH s g).1,(zH s g).2,()):=by
 rw [zxS];simp only [zr,yq];unfold zH;by_cases h0:g.Out=0;rotate_left
 .rw [zc h0,zb (.inl h0)]
 rw [zb h0];by_cases h1:g.Mode<1
 .rw [zb h1,zb (.inr (.inl h1))]
 rw [zc h1];by_cases h2:3<g.Mode
 .rw [zb h2,zb (.inr (.inr (.inl h2)))]
 rw [zc h2];by_cases h3:g.PC<0
 .rw [zb h3,zb (.inr (.inr (.inr (.inl h3))))]
 rw [zc h3];by_cases h4:8<=g.PC
 .rw [zb h4,zb (.inr (.inr (.inr (.inr h4))))]
 rw [zc h4,zc (show ¬(g.Out≠0\/g.Mode<1\/3<g.Mode\/g.PC<0\/8<=g.PC) by omega)];by_cases p7:g.PC=7
 .rw [zb p7,zb p7,zhV];simp only [ze9 ok.mem,zKA,zr];by_cases e:(zD s.M g.C).2.Out=1<;>simp [zey,e]
 rw [zc p7,zc p7];by_cases p6:g.PC=6
 .rw [zb p6,zb p6,zk2];obtain ⟨b1,b2⟩:=ok.bin p6;simp only [zkO ok.bins,zKA,vN (l:=s.Bins) b1 b2,zcG,zaT,W7];rfl
 rw [zc p6,zc p6];by_cases p5:g.PC=5
 .rw [zb p5,zb p5,zk5];simp only [ze9 ok.mem,zKA,zr,zp3];by_cases e:(zD s.M g.C).2.Out=1
  .simp [znW,e]
  .by_cases e2:(zD s.M g.C).2.Out=2<;>simp [znW,e,e2]
 rw [zc p5,zc p5];by_cases p4:g.PC=4
 .rw [zb p4,zb p4,zkF,zp3];rfl
 rw [zc p4,zc p4];by_cases p3:g.PC=3
 .rw [zb p3,zb p3,zle];obtain ⟨b1,b2⟩:=ok.deq p3;simp only [zn1 ok.mem b1 b2,zKA,zr,zp3];by_cases e:(xk s.M g.D).2.Out=1
  .simp [znn,e]
  .by_cases e2:(xk s.M g.D).2.Out=3<;>simp [znn,e,e2]
 rw [zc p3,zc p3];by_cases p2:g.PC=2
 .rw [zb p2,zb p2,zkG,xU];rfl
 rw [zc p2,zc p2];by_cases p1:g.PC=1
 .rw [zb p1,zb p1,zkS];simp only [zlh,zKA,zr,zp3,zbw,zaY];unfold znJ;cases hs:(shade s.T g.Obj).2 with
  | false=>simp [hs]
  | true =>
   by_cases m1:g.Mode=1
   .simp [hs,m1]
   .by_cases m2:g.Mode=2<;>simp [hs,m1,m2]
 rw [zc p1,zc p1,zb (show g.PC=0 by omega),zg3,xU];rfl
theorem uP {b k:Int}(h:0<=b) (hk:0<k):0<=b.tmod k/\b.tmod k<k:=by
 rw [Int.tmod_eq_emod_of_nonneg h];exact ⟨Int.emod_nonneg _ (by omega),Int.emod_lt_of_pos _ hk⟩
def zl1 (o:zE) (regs slots:Int):Prop:=(0<=o.R/\o.R<regs) /\
 ((o.Kind=1\/o.Kind=2)/\(0<=o.A/\o.A<regs)/\(0<=o.S/\o.S<slots)\/o.Kind=4/\(0<=o.A/\o.A<regs)/\o.S=0\/(o.Kind=3\/o.Kind=5)/\o.A=0/\o.S=0)
structure zJ (p:zd):Prop where
 wk:1<=p.Workers/\p.Workers<=3
 mt:0<=p.Mutators/\p.Mutators<=2
 cap:1<=p.Cap/\p.Cap<=3
 buf:1<=p.Buf/\p.Buf<=2
 bin:1<=p.Bin/\p.Bin<=3
 price:0<=p.Price/\p.Price<=3
 limit:0<=p.Limit/\p.Limit<=3
 slots:1<=p.H.Slots/\p.H.Slots<=2
 n:1<=(p.H.Objs.length:Int)/\(p.H.Objs.length:Int)<=6
 objs:∀o∈p.H.Objs,(o.length:Int)=p.H.Slots/\∀v∈o,0<=v/\v<=(p.H.Objs.length:Int)
 most:(p.H.Objs.length:Int)<=p.Most/\p.Most<=(p.H.Objs.length:Int)+3
 roots:∃r,0<=r/\r<=(p.H.Objs.length:Int)/\p.Roots=bit r
 regs:(p.Regs.length:Int)=p.Mutators
 progs:(p.Progs.length:Int)=p.Mutators
 reg:∀r∈p.Regs,(1<=(r.length:Int)/\(r.length:Int)<=3)/\∀v∈r,0<=v/\v<=(p.H.Objs.length:Int)
 prog:∀(k:Nat) r ops,p.Regs[k]? =some r->p.Progs[k]? =some ops->(ops.length:Int)<=7/\∀o∈ops,zl1 o (r.length:Int) p.H.Slots
 picks:p.Picks=[]
namespace B20
def VO (m:zY):Prop:=0<=m.At/\m.At<=m.L.length/\m.L.length<=90
theorem Zk {m:zY}(h:VO m):∃b m',zT m=some (b,m',())/\(0<=b/\b<256)/\VO m':=by
 obtain ⟨h1,h2,h3⟩:=h;rw [zgA,zr];by_cases h:(m.L.length:Int)<=m.At
 .rw [zb h];exact ⟨_,_,rfl,by omega,h1,h2,h3⟩
 .rw [zc h,ya (a:=m.At+1) (by omega) (by omega),ya,vX,zKC (by omega),zKA];exact ⟨_,_,rfl,by have:=(m.L[(m.At+1-1).toNat]'(by omega)).isLt;omega,show 0<=m.At+1 by omega,show m.At+1<=m.L.length by omega,h3⟩
theorem zJX {m:zY}(h:VO m) {regs slots:Int}(hr:1<=regs) (hs:1<=slots):∃o m',Vf regs slots m=some (o,m',())/\zl1 o regs slots/\VO m':=by
 obtain ⟨b1,m1,e1,r1,k1⟩:=Zk h;obtain ⟨b2,m2,e2,r2,k2⟩:=Zk k1;obtain ⟨b3,m3,e3,r3,k3⟩:=Zk k2;obtain ⟨b4,m4,e4,r4,k4⟩:=Zk k3;have t1:=uP r1.1 (show (0:Int)<8 by omega);have t2:=uP r2.1 (show (0:Int)<regs by omega);have t3:=uP r3.1 (show (0:Int)<regs by omega);have t4:=uP r4.1 (show (0:Int)<slots by omega);have t5:=uP r3.1 (show (0:Int)<slots by omega);have hn: ¬regs=0:=by omega
 have hn2: ¬slots=0:=by omega
 rw [zja,e1,zKA,vN t1.1 (by simpa using t1.2),zKA];have hx:b1.tmod 8=0\/b1.tmod 8=1\/b1.tmod 8=2\/b1.tmod 8=3\/b1.tmod 8=4\/b1.tmod 8=5\/b1.tmod 8=6\/b1.tmod 8=7:=by omega
 rcases hx with hx | hx | hx | hx | hx | hx | hx | hx<;>simp [hx,e2,e3,e4,hn,hn2]<;>refine ⟨_,_,⟨rfl,rfl⟩,?_,by assumption⟩<;>(unfold zl1;dsimp only;omega)
theorem zHO {s1:Int}{s2:Int}{s4:Int}{s5:Int}{s6:Int}{s7:Int}{s8:Int}{s9:Int}{s10:Int}{s11:Int}{s12:Int}{s13:BitVec 64}{s15:Int}{s16:Int}{s17:Int}{s18:Int}{s19:Int}{s20:Int}{s21:Int}{s22:Int}{s23:Int}{s24:BitVec 64}{s26:List (List Int)}{s27:List (List Int)}{s28:List (List zE)}{s29:List zk}{s30:List (List Int)}{s31:List (List Int)}{s32:List (List zE)}{s33:List zk}(hn:1<=s1/\s1<=6) (hs:1<=s23/\s23<=2) {mk:zY}(hm:VO mk) :
  ∃mk' l,yc XG (s1,s2,0,s4,s5,s6,s7,s8,s9,s10,s11,s12,s13,mk,s15,s16,s17,s18,s19,s20,s21,s22,s23,s24,[],s26,s27,s28,s29,s30,s31,s32,s33,())=some (.brk (s1,s2,s4,s5,s6,s7,s8,s9,s10,s11,s12,s13,mk',s15,s16,s17,s18,s19,s20,s21,s22,s23,s24,l,s26,s27,s28,s29,s30,s31,s32,s33,()))/\VO mk'/\(l.length:Int)=s23/\∀v∈l,0<=v/\v<=s1:=by
 refine (vq (f:=XG)
  (fun a=>∃i mk l,a=(s1,s2,i,s4,s5,s6,s7,s8,s9,s10,s11,s12,s13,mk,s15,s16,s17,s18,s19,s20,s21,s22,s23,s24,l,s26,s27,s28,s29,s30,s31,s32,s33,())/\VO mk/\(0<=i/\i<=s23/\(l.length:Int)=i)/\∀v∈l,0<=v/\v<=s1)
  (fun a=>(s23-a.2.2.1).toNat)
  (fun o=>match o with | .brk b=>∃mk l,b=(s1,s2,s4,s5,s6,s7,s8,s9,s10,s11,s12,s13,mk,s15,s16,s17,s18,s19,s20,s21,s22,s23,s24,l,s26,s27,s28,s29,s30,s31,s32,s33,())/\VO mk/\(l.length:Int)=s23/\∀v∈l,0<=v/\v<=s1 | _=>False) ?_
  (s1,s2,0,s4,s5,s6,s7,s8,s9,s10,s11,s12,s13,mk,s15,s16,s17,s18,s19,s20,s21,s22,s23,s24,[],s26,s27,s28,s29,s30,s31,s32,s33,()) ⟨0,mk,[],rfl,hm,by simp;omega,by simp⟩ (v9 (by simp;omega))).elim fun o h=>?_
 rotate_left
 .obtain ⟨ho,hq⟩:=h;cases o with
  | again a=>exact hq.elim
  | ret a=>exact hq.elim
  | brk b =>
   obtain ⟨mk',l,rfl,h1,h2,h3⟩:=hq;exact ⟨mk',l,ho,h1,h2,h3⟩
 .rintro _ ⟨i,mk,l,rfl,h1,h2,h3⟩;rw [zmC,zr];by_cases hi:i<s23
  .rw [zb hi];obtain ⟨b,mk',e,r,k⟩:=Zk h1;have w1:w64 (s1+1)=s1+1:=ya;have t:=uP r.1 (show 0<s1+1 by omega);rw [e,zKA,w1,zr,zi,yP (by simp;omega),zKA,ya (a:=i+1) (by omega) (by omega)];refine ⟨_,rfl,⟨i+1,mk',l++[b.tmod (s1+1)],rfl,k,by simp;omega,fun v hv=>?_⟩,?_⟩
   .rcases zK0.1 hv with hv | hv
    .exact h3 v hv
    .simp at hv;omega
   .show (s23-(i+1)).toNat<(s23-i).toNat;omega
  .rw [zc hi];exact ⟨_,rfl,mk,l,rfl,h1,by omega,h3⟩
theorem zIK {s1:Int}{s3:Int}{s4:Int}{s5:Int}{s6:Int}{s7:Int}{s8:Int}{s9:Int}{s10:Int}{s11:Int}{s12:BitVec 64}{s14:Int}{s15:Int}{s16:Int}{s17:Int}{s18:Int}{s19:Int}{s20:Int}{s21:Int}{s22:Int}{s23:BitVec 64}{s24:List (List Int)}{s25:List (List Int)}{s26:List (List zE)}{s27:List zk}{s29:List (List Int)}{s30:List (List zE)}{s31:List zk}(hn:1<=s1/\s1<=6) (hs:1<=s22/\s22<=2) {mk:zY}(hm:VO mk) :
  ∃mk' l,yc Wu (s1,0,s3,s4,s5,s6,s7,s8,s9,s10,s11,s12,mk,s14,s15,s16,s17,s18,s19,s20,s21,s22,s23,s24,s25,s26,s27,[],s29,s30,s31,())=some (.brk (s1,s3,s4,s5,s6,s7,s8,s9,s10,s11,s12,mk',s14,s15,s16,s17,s18,s19,s20,s21,s22,s23,s24,s25,s26,s27,l,s29,s30,s31,()))/\VO mk'/\(l.length:Int)=s1/\∀o∈l,(o.length:Int)=s22/\∀v∈o,0<=v/\v<=s1:=by
 refine (vq (f:=Wu)
  (fun a=>∃i mk l,a=(s1,i,s3,s4,s5,s6,s7,s8,s9,s10,s11,s12,mk,s14,s15,s16,s17,s18,s19,s20,s21,s22,s23,s24,s25,s26,s27,l,s29,s30,s31,())/\VO mk/\(0<=i/\i<=s1/\(l.length:Int)=i)/\∀o∈l,(o.length:Int)=s22/\∀v∈o,0<=v/\v<=s1)
  (fun a=>(s1-a.2.1).toNat)
  (fun o=>match o with | .brk b=>∃mk l,b=(s1,s3,s4,s5,s6,s7,s8,s9,s10,s11,s12,mk,s14,s15,s16,s17,s18,s19,s20,s21,s22,s23,s24,s25,s26,s27,l,s29,s30,s31,())/\VO mk/\(l.length:Int)=s1/\∀o∈l,(o.length:Int)=s22/\∀v∈o,0<=v/\v<=s1 | _=>False) ?_
  (s1,0,s3,s4,s5,s6,s7,s8,s9,s10,s11,s12,mk,s14,s15,s16,s17,s18,s19,s20,s21,s22,s23,s24,s25,s26,s27,[],s29,s30,s31,()) ⟨0,mk,[],rfl,hm,by simp;omega,by simp⟩ (v9 (by simp;omega))).elim fun o h=>?_
 rotate_left
 .obtain ⟨ho,hq⟩:=h;cases o with
  | again a=>exact hq.elim
  | ret a=>exact hq.elim
  | brk b =>
   obtain ⟨mk',l,rfl,h1,h2,h3⟩:=hq;exact ⟨mk',l,ho,h1,h2,h3⟩
 .rintro _ ⟨i,mk,l,rfl,h1,h2,h3⟩;rw [zm7,zr];by_cases hi:i<s1
  .rw [zb hi];obtain ⟨mk',o,e,g1,g2,g3⟩:=zHO hn hs h1;rw [e];simp only [zKA];rw [yP (by simp;omega),zKA,ya (a:=i+1) (by omega) (by omega)];refine ⟨_,rfl,⟨i+1,mk',l++[o],rfl,g1,by simp;omega,fun v hv=>?_⟩,?_⟩
   .rcases zK0.1 hv with hv | hv
    .exact h3 v hv
    .simp at hv;subst hv;exact ⟨g2,g3⟩
   .show (s1-(i+1)).toNat<(s1-i).toNat;omega
  .rw [zc hi];exact ⟨_,rfl,mk,l,rfl,h1,by omega,h3⟩
theorem zG4 {s1:Int}{s2:Int}{s4:Int}{s5:Int}{s6:Int}{s7:Int}{s8:Int}{s9:Int}{s10:Int}{s11:Int}{s12:Int}{s13:BitVec 64}{s15:Int}{s16:Int}{s17:Int}{s18:Int}{s19:Int}{s20:Int}{s21:Int}{s22:Int}{s23:Int}{s24:BitVec 64}{s26:List (List Int)}{s27:List (List Int)}{s28:List (List zE)}{s29:List zk}{s30:List (List Int)}{s31:List (List Int)}{s32:List (List zE)}{s33:List zk}(hn:1<=s1/\s1<=6) {mk:zY}(hm:VO mk) :
  ∃mk' l,yc XL (s1,s2,0,s4,s5,s6,s7,s8,s9,s10,s11,s12,s13,mk,s15,s16,s17,s18,s19,s20,s21,s22,s23,s24,[],s26,s27,s28,s29,s30,s31,s32,s33,())=some (.brk (s1,s2,s4,s5,s6,s7,s8,s9,s10,s11,s12,s13,mk',s15,s16,s17,s18,s19,s20,s21,s22,s23,s24,l,s26,s27,s28,s29,s30,s31,s32,s33,()))/\VO mk'/\(1<=(l.length:Int)/\(l.length:Int)<=3)/\∀v∈l,0<=v/\v<=s1:=by
 refine (vq (f:=XL)
  (fun a=>∃i mk l,a=(s1,s2,i,s4,s5,s6,s7,s8,s9,s10,s11,s12,s13,mk,s15,s16,s17,s18,s19,s20,s21,s22,s23,s24,l,s26,s27,s28,s29,s30,s31,s32,s33,())/\VO mk/\(0<=i/\i<=3/\(l.length:Int)=i)/\∀v∈l,0<=v/\v<=s1)
  (fun a=>(3-a.2.2.1).toNat)
  (fun o=>match o with | .brk b=>∃mk l,b=(s1,s2,s4,s5,s6,s7,s8,s9,s10,s11,s12,s13,mk,s15,s16,s17,s18,s19,s20,s21,s22,s23,s24,l,s26,s27,s28,s29,s30,s31,s32,s33,())/\VO mk/\(1<=(l.length:Int)/\(l.length:Int)<=3)/\∀v∈l,0<=v/\v<=s1 | _=>False) ?_
  (s1,s2,0,s4,s5,s6,s7,s8,s9,s10,s11,s12,s13,mk,s15,s16,s17,s18,s19,s20,s21,s22,s23,s24,[],s26,s27,s28,s29,s30,s31,s32,s33,()) ⟨0,mk,[],rfl,hm,by simp,by simp⟩ (v9 (by simp))).elim fun o h=>?_
 rotate_left
 .obtain ⟨ho,hq⟩:=h;cases o with
  | again a=>exact hq.elim
  | ret a=>exact hq.elim
  | brk b =>
   obtain ⟨mk',l,rfl,h1,h2,h3⟩:=hq;exact ⟨mk',l,ho,h1,h2,h3⟩
 .rintro _ ⟨i,mk,l,rfl,h1,h2,h3⟩;obtain ⟨b0,mk0,e0,r0,k0⟩:=Zk h1;have t0:=uP r0.1 (show (0:Int)<3 by omega);rw [zmg,e0,zKA,zr,ya (a:=1+b0.tmod 3) (by omega) (by omega)];by_cases hi:i<1+b0.tmod 3
  .rw [zb hi];obtain ⟨b,mk',e,r,k⟩:=Zk k0;have w1:w64 (s1+1)=s1+1:=ya;have t:=uP r.1 (show 0<s1+1 by omega);rw [e,zKA,w1,zr,zi,yP (by simp;omega),zKA,ya (a:=i+1) (by omega) (by omega)];refine ⟨_,rfl,⟨i+1,mk',l++[b.tmod (s1+1)],rfl,k,by simp;omega,fun v hv=>?_⟩,?_⟩
   .rcases zK0.1 hv with hv | hv
    .exact h3 v hv
    .simp at hv;omega
   .show (3-(i+1)).toNat<(3-i).toNat;omega
  .rw [zc hi];exact ⟨_,rfl,mk0,l,rfl,k0,by omega,h3⟩
theorem zGN {s1:Int}{s2:Int}{s4:Int}{s5:Int}{s6:Int}{s7:Int}{s8:Int}{s9:Int}{s10:Int}{s11:Int}{s12:Int}{s13:BitVec 64}{s15:Int}{s16:Int}{s17:Int}{s18:Int}{s19:Int}{s20:Int}{s21:Int}{s22:Int}{s23:Int}{s24:BitVec 64}{s25:List Int}{s27:List (List Int)}{s28:List (List Int)}{s29:List (List zE)}{s30:List zk}{s31:List (List Int)}{s32:List (List Int)}{s33:List (List zE)}{s34:List zk}(hr:1<=(s25.length:Int)) (hs:1<=s23/\s23<=2) {k0:Int}(hk:0<=k0/\k0<8) {mk:zY}(hm:VO mk) :
  ∃mk' l,yc Z8 (s1,s2,k0,s4,s5,s6,s7,s8,s9,s10,s11,s12,s13,mk,s15,s16,s17,s18,s19,s20,s21,s22,s23,s24,s25,[],s27,s28,s29,s30,s31,s32,s33,s34,())=some (.brk (s1,s2,s4,s5,s6,s7,s8,s9,s10,s11,s12,s13,mk',s15,s16,s17,s18,s19,s20,s21,s22,s23,s24,s25,l,s27,s28,s29,s30,s31,s32,s33,s34,()))/\VO mk'/\(l.length:Int)<=7/\∀o∈l,zl1 o (s25.length:Int) s23:=by
 refine (vq (f:=Z8)
  (fun a=>∃i mk l,a=(s1,s2,i,s4,s5,s6,s7,s8,s9,s10,s11,s12,s13,mk,s15,s16,s17,s18,s19,s20,s21,s22,s23,s24,s25,l,s27,s28,s29,s30,s31,s32,s33,s34,())/\VO mk/\(0<=i/\(l.length:Int)+i<=7)/\∀o∈l,zl1 o (s25.length:Int) s23)
  (fun a=>(a.2.2.1).toNat)
  (fun o=>match o with | .brk b=>∃mk l,b=(s1,s2,s4,s5,s6,s7,s8,s9,s10,s11,s12,s13,mk,s15,s16,s17,s18,s19,s20,s21,s22,s23,s24,s25,l,s27,s28,s29,s30,s31,s32,s33,s34,())/\VO mk/\(l.length:Int)<=7/\∀o∈l,zl1 o (s25.length:Int) s23 | _=>False) ?_
  (s1,s2,k0,s4,s5,s6,s7,s8,s9,s10,s11,s12,s13,mk,s15,s16,s17,s18,s19,s20,s21,s22,s23,s24,s25,[],s27,s28,s29,s30,s31,s32,s33,s34,()) ⟨k0,mk,[],rfl,hm,by simp;omega,by simp⟩ (v9 (by simp;omega))).elim fun o h=>?_
 rotate_left
 .obtain ⟨ho,hq⟩:=h;cases o with
  | again a=>exact hq.elim
  | ret a=>exact hq.elim
  | brk b =>
   obtain ⟨mk',l,rfl,h1,h2,h3⟩:=hq;exact ⟨mk',l,ho,h1,h2,h3⟩
 .rintro _ ⟨i,mk,l,rfl,h1,h2,h3⟩;rw [zlG,zr];by_cases hi:0<i
  .rw [zb hi];obtain ⟨o,mk',e,r,k⟩:=zJX h1 hr hs.1;rw [e,zKA,yP (by simp;omega),zKA,ya (a:=i-1) (by omega) (by omega)];refine ⟨_,rfl,⟨i-1,mk',l++[o],rfl,k,by simp;omega,fun v hv=>?_⟩,?_⟩
   .rcases zK0.1 hv with hv | hv
    .exact h3 v hv
    .simp at hv;subst hv;exact r
   .show (i-1).toNat<i.toNat;omega
  .rw [zc hi];exact ⟨_,rfl,mk,l,rfl,h1,by omega,h3⟩
theorem zHW {s1:Int}{s3:Int}{s4:Int}{s5:Int}{s6:Int}{s7:Int}{s8:Int}{s9:Int}{s10:Int}{s11:Int}{s12:BitVec 64}{s14:Int}{s15:Int}{s16:Int}{s17:Int}{s18:Int}{s19:Int}{s20:Int}{s21:Int}{s22:Int}{s23:BitVec 64}{s24:List (List Int)}{s25:List (List Int)}{s26:List (List zE)}{s27:List zk}{s28:List (List Int)}{s31:List zk}(hn:1<=s1/\s1<=6) (hm0:0<=s15/\s15<=2) (hs:1<=s22/\s22<=2) {mk:zY}(hm:VO mk) :
  ∃regs progs,yc XH (s1,0,s3,s4,s5,s6,s7,s8,s9,s10,s11,s12,mk,s14,s15,s16,s17,s18,s19,s20,s21,s22,s23,s24,s25,s26,s27,s28,[],[],s31,())=some (.brk (s3,s4,s5,s6,s7,s8,s9,s10,s11,s12,s14,s15,s16,s17,s18,s19,s20,s21,s22,s23,s24,s25,s26,s27,s28,regs,progs,s31,()))/\(regs.length:Int)=s15/\(regs.length=progs.length)/\(∀r∈regs,(1<=(r.length:Int)/\(r.length:Int)<=3)/\∀v∈r,0<=v/\v<=s1)/\∀(k:Nat) r ops,regs[k]? =some r->progs[k]? =some ops->(ops.length:Int)<=7/\∀o∈ops,zl1 o (r.length:Int) s22:=by
 refine (vq (f:=XH)
  (fun a=>∃i mk regs progs,a=(s1,i,s3,s4,s5,s6,s7,s8,s9,s10,s11,s12,mk,s14,s15,s16,s17,s18,s19,s20,s21,s22,s23,s24,s25,s26,s27,s28,regs,progs,s31,())/\VO mk/\(0<=i/\i<=s15/\(regs.length:Int)=i)/\(regs.length=progs.length)/\(∀r∈regs,(1<=(r.length:Int)/\(r.length:Int)<=3)/\∀v∈r,0<=v/\v<=s1)/\∀(k:Nat) r ops,regs[k]? =some r->progs[k]? =some ops->(ops.length:Int)<=7/\∀o∈ops,zl1 o (r.length:Int) s22)
  (fun a=>(s15-a.2.1).toNat)
  (fun o=>match o with | .brk b=>∃regs progs,b=(s3,s4,s5,s6,s7,s8,s9,s10,s11,s12,s14,s15,s16,s17,s18,s19,s20,s21,s22,s23,s24,s25,s26,s27,s28,regs,progs,s31,())/\(regs.length:Int)=s15/\(regs.length=progs.length)/\(∀r∈regs,(1<=(r.length:Int)/\(r.length:Int)<=3)/\∀v∈r,0<=v/\v<=s1)/\∀(k:Nat) r ops,regs[k]? =some r->progs[k]? =some ops->(ops.length:Int)<=7/\∀o∈ops,zl1 o (r.length:Int) s22 | _=>False) ?_
  (s1,0,s3,s4,s5,s6,s7,s8,s9,s10,s11,s12,mk,s14,s15,s16,s17,s18,s19,s20,s21,s22,s23,s24,s25,s26,s27,s28,[],[],s31,()) ⟨0,mk,[],[],rfl,hm,by simp;omega,rfl,by simp,by simp⟩ (v9 (by simp;omega))).elim fun o h=>?_
 rotate_left
 .obtain ⟨ho,hq⟩:=h;cases o with
  | again a=>exact hq.elim
  | ret a=>exact hq.elim
  | brk b =>
   obtain ⟨regs,progs,rfl,h⟩:=hq;exact ⟨regs,progs,ho,h⟩
 .rintro _ ⟨i,mk,regs,progs,rfl,h1,h2,h3,h4,h5⟩;rw [zmN,zr];by_cases hi:i<s15
  .rw [zb hi];obtain ⟨mk1,r,e,g1,g2,g3⟩:=zG4 hn h1;rw [e];simp only [zKA];rw [zr,zi];obtain ⟨b,mk2,e2,r2,k2⟩:=Zk g1;rw [e2,zKA];obtain ⟨mk3,ops,e3,f1,f2,f3⟩:=zGN (s25:=r) g2.1 hs (uP r2.1 (show (0:Int)<8 by omega)) k2;rw [e3];simp only [zKA];rw [yP (by simp;omega),zKA,yP (by simp;omega),zKA,ya (a:=i+1) (by omega) (by omega)];refine ⟨_,rfl,⟨i+1,mk3,regs++[r],progs++[ops],rfl,f1,by simp;omega,by simp [h3],fun v hv=>?_,fun k r' ops' hk1 hk2=>?_⟩,?_⟩
   .rcases zK0.1 hv with hv | hv
    .exact h4 v hv
    .simp at hv;subst hv;exact ⟨g2,g3⟩
   .rcases zLc k regs.length with hlt | hge
    .rw [zK6 hlt] at hk1;rw [zK6 (by omega)] at hk2;exact h5 k r' ops' hk1 hk2
    .rw [zLb hge] at hk1;rw [zLb (by omega),<-h3] at hk2;have hk0:k-regs.length=0:=by
      have:=(zKK.1 hk1).1;simpa using this
     rw [hk0] at hk1 hk2;simp at hk1 hk2;subst hk1;subst hk2;exact ⟨f2,f3⟩
   .show (s15-(i+1)).toNat<(s15-i).toNat;omega
  .rw [zc hi];exact ⟨_,rfl,regs,progs,rfl,by omega,h3,h4,h5⟩
theorem zIA (l:List (BitVec 8)):∃p,zdo l=some (p,())/\zJ p:=by
 rw [zp8,zr];obtain ⟨m,em,hl⟩:∃m,cut l 0 (if 90<(l.length:Int) then 90 else (l.length:Int))=some m/\m.length<=90:=by
  unfold cut;by_cases h:90<(l.length:Int)
  .have h2:(90:Int)<=l.length:=by omega
   rw [zb h];exact ⟨l.take 90,by simp [h2],List.length_take_le _ _⟩
  .rw [zc h];exact ⟨l,by simp,by omega⟩
 rw [em,zKA];obtain ⟨b1,m1,e1,r1,k1⟩:=Zk (m:=⟨m,0⟩) ⟨by simp,by simp,hl⟩;obtain ⟨b2,m2,e2,r2,k2⟩:=Zk k1;obtain ⟨b3,m3,e3,r3,k3⟩:=Zk k2;obtain ⟨b4,m4,e4,r4,k4⟩:=Zk k3;obtain ⟨b5,m5,e5,r5,k5⟩:=Zk k4;obtain ⟨b6,m6,e6,r6,k6⟩:=Zk k5;obtain ⟨b7,m7,e7,r7,k7⟩:=Zk k6;obtain ⟨b8,m8,e8,r8,k8⟩:=Zk k7;obtain ⟨b9,m9,e9,r9,k9⟩:=Zk k8;obtain ⟨b10,m10,e10,r10,k10⟩:=Zk k9;simp only [e1,e2,e3,e4,e5,e6,e7,e8,e9,e10,zKA];have t1:=uP r1.1 (show (0:Int)<3 by omega);have t2:=uP r2.1 (show (0:Int)<3 by omega);have t3:=uP r3.1 (show (0:Int)<3 by omega);have t4:=uP r4.1 (show (0:Int)<2 by omega);have t5:=uP r5.1 (show (0:Int)<3 by omega);have t6:=uP r6.1 (show (0:Int)<4 by omega);have t7:=uP r7.1 (show (0:Int)<4 by omega);have t8:=uP r8.1 (show (0:Int)<2 by omega);have t9:=uP r9.1 (show (0:Int)<6 by omega);have t10:=uP r10.1 (show (0:Int)<4 by omega);rw [ya (a:=1+b9.tmod 6) (by omega) (by omega),ya (a:=1+b1.tmod 3) (by omega) (by omega),ya (a:=1+b3.tmod 3) (by omega) (by omega),ya (a:=1+b4.tmod 2) (by omega) (by omega),ya (a:=1+b5.tmod 3) (by omega) (by omega),
  ya (a:=1+b9.tmod 6+b10.tmod 4) (by omega) (by omega),ya (a:=1+b8.tmod 2) (by omega) (by omega)]
 obtain ⟨m11,objs,e11,g1,g2,g3⟩:=zIK (s1:=1+b9.tmod 6) (s22:=1+b8.tmod 2) (by omega) (by omega) k10;rw [e11];simp only [zKA];obtain ⟨b12,m12,e12,r12,k12⟩:=Zk g1;rw [e12,zKA,ya (a:=1+b9.tmod 6+1) (by omega) (by omega),zr,zi];have t12:=uP r12.1 (show (0:Int)<1+b9.tmod 6+1 by omega);rw [zg7,zKA];obtain ⟨regs,progs,e13,f1,f2,f3,f4⟩:=zHW (s1:=1+b9.tmod 6) (s15:=b2.tmod 3) (s22:=1+b8.tmod 2) (by omega) (by omega) (by omega) k12;rw [e13];simp only [zKA];refine ⟨_,rfl,?_⟩;constructor<;>dsimp only
 case objs=>intro o ho;rw [g2];exact g3 o ho
 case roots=>exact ⟨b12.tmod (1+b9.tmod 6+1),by omega,by omega,by simp⟩
 case reg=>rw [g2];exact f3
 case prog=>exact f4
 all_goals first | omega | rfl
end B20
theorem zcO {α β B C:Type}{f:List α×Int×Int×β->Option (yN (List α×Int×Int×β) B C)}{l:List α}{e:β}{b:B}(hl:l.length<1000000)
  (h1:∀(i:Nat) (x:α),l[i]? =some x->f (l,(l.length:Int),(i:Int),e)=some (.again (l,(l.length:Int),((i+1:Nat):Int),e)))
  (h2:f (l,(l.length:Int),(l.length:Int),e)=some (.brk b)):yc f (l,(l.length:Int),0,e)=some (.brk b):=by
 refine (vq (f:=f) (fun a=>∃i:Nat,a=(l,(l.length:Int),(i:Int),e)/\i<=l.length) (fun a=>l.length-a.2.2.1.toNat) (fun o=>o= .brk b) ?_ (l,(l.length:Int),0,e) ⟨0,rfl,by omega⟩ (v9 (by simp;omega))).elim fun o h=>?_;rotate_left
 .rw [h.1,h.2]
 .rintro _ ⟨i,rfl,hi⟩;rcases zLc i l.length with hlt | hge
  .refine ⟨_,h1 i _ (zKC hlt),⟨i+1,rfl,hlt⟩,?_⟩;show l.length-((i+1:Nat):Int).toNat<l.length-(i:Int).toNat;omega
  .have:i=l.length:=by omega
   subst this;exact ⟨_,h2,rfl⟩
theorem xz {α:Type}{l:List α}{i:Nat}{x:α}(h:l[i]? =some x):idx l (i:Int)=some x:=by
 rw [vX];simpa using h
theorem zi2 {α:Type}{l:List α}{i:Nat}{x:α}(h:l[i]? =some x):(i:Int)<(l.length:Int):=by
 have:=(zKK.1 h).1;omega
theorem yS {i:Nat}(h:i<1000000:=by omega):w64 ((i:Int)+1)=((i+1:Nat):Int):=by
 rw [ya];omega
theorem zia (a b c:Int):Zh a b c=some (decide (b<=a/\a<=c),()):=by
 rw [zuL,zr];by_cases h:b<=a
 .rw [zb h];simp [h]
 .rw [zc h];simp [h]
theorem zEn {l:List Int}{h:zw}(hl:l.length<1000000) (hv:∀v∈l,0<=v/\v<=(h.Objs.length:Int)):wK l h=some (false,()):=by
 rw [X8,Va,zcO (b:=()) hl (fun i x hx=>?_) (by rw [uB];simp)]
 .rfl
 .have hm:=hv x (zKG hx);have hlt:=zi2 hx;rw [uB,zr,zb hlt,xz hx,zKA,zrh,zr,zc (show ¬x<0 by omega),zKA,yS];simp [show ¬(h.Objs.length:Int)<x by omega]
theorem zF2 {l:List Int}{n:Int}(hl:l.length<1000000) (hv:∀v∈l,0<=v/\v<=n):va l n=some (false,()):=by
 rw [WM,VG,zcO (b:=()) hl (fun i x hx=>?_) (by rw [uT];simp)]
 .rfl
 .have hm:=hv x (zKG hx);have hlt:=zi2 hx;rw [uT,xz hx,zKA,ztk,zia,zKA,zKA,yS,zr,zb hlt];simp [hm]
theorem zzc {l:List (List Int)}{h:zw}(hl:l.length<1000000) (hs:h.Slots<1000000) (hv:∀o∈l,(o.length:Int)=h.Slots/\∀v∈o,0<=v/\v<=(h.Objs.length:Int)):wS l h=some (false,()):=by
 rw [Wb,WP,zcO (b:=()) hl (fun i x hx=>?_) (by rw [uE];simp)]
 .rfl
 .have hm:=hv x (zKG hx);have hlt:=zi2 hx;rw [uE,xz hx,zKA,ztO,yq,zb hm.1,zEn (by omega) hm.2,zKA,zKA,yS,zr,zb hlt];rfl
theorem zxa {r n:Int}(h:0<=r/\r<n) (h2:n<=4):yv r n=some (true,()):=by
 rw [ztC,zr,zb h.1,zr];rw [zi];simp [h.2]
theorem zGU {o:zE}{regs slots:Int}(h:zl1 o regs slots) (h2:regs<=4) (h3:slots<=4):zlE o regs slots=some (true,()):=by
 obtain ⟨hr,h⟩:=h;have e1:=zxa hr h2;have h4: ¬4<slots:=by omega
 rw [zwZ];rcases h with ⟨hk | hk,ha,hs⟩ | ⟨hk,ha,hs⟩ | ⟨hk | hk,ha,hs⟩
 .have e2:=zxa ha h2;simp [hk,e1,e2,hs.1,hs.2,h4]
 .have e2:=zxa ha h2;simp [hk,e1,e2,hs.1,hs.2,h4]
 .have e2:=zxa ha h2;simp [hk,e1,e2,hs]
 .simp [hk,e1,ha,hs]
 .simp [hk,e1,ha,hs]
theorem zIt {l:List zE}{regs slots:Int}(hl:(l.length:Int)<=64) (h:∀o∈l,zl1 o regs slots) (h2:regs<=4) (h3:slots<=4):zoi l regs slots=some (true,()):=by
 rw [zxu,zr,zb hl,Y5,XE,zcO (b:=()) (by omega) (fun i x hx=>?_) (by rw [vG];simp)]
 .rfl
 .have hlt:=zi2 hx;rw [vG,xz hx,zKA,zuu,zGU (h x (zKG hx)) h2 h3,zKA,zKA,yS,zr,zb hlt];rfl
theorem zE7 (a b:Int):zmB [] a b=some (true,()):=by
 rw [zwb,Yr,YR,zcO (b:=()) (by simp) (fun i x hx=>by simp at hx) (by rw [Yp];simp)];rfl
def xR (n:Int):BitVec 64:=if n<1 then 0#64 else 18446744073709551615#64 >>> (64-min n 64).toNat
theorem zeG (n:Int) (h:0<=n):Uy n=some (xR n,()):=by
 rw [zx3,zr];unfold xR;by_cases h1:n<1
 .rw [zb h1,zb h1]
 .rw [zc h1,zc h1];simp only [zr];have e:(if 64<n then (64:Int) else n)=min n 64:=by
   by_cases h2:64<n
   .rw [zb h2];omega
   .rw [zc h2];omega
  rw [e,ya,zi,Nat.min_eq_left (by omega)]
theorem zzn:∀(r n:Fin 7),r.1<=n.1->bit (r.1:Int)&&& ~~~xR (n.1:Int)=0#64:=by decide
theorem zt3 {p:zd}(h:zJ p):p.Roots&&& ~~~xR (p.H.Objs.length:Int)=0#64:=by
 obtain ⟨r,h1,h2,h3⟩:=h.roots;have hn:=h.n;have:=zzn ⟨r.toNat,by omega⟩ ⟨p.H.Objs.length,by omega⟩ (by show r.toNat<=p.H.Objs.length;omega);rw [h3];simpa [Int.toNat_of_nonneg h1] using this
theorem zER {p:zd}(h:zJ p):zdl p=some (true,()):=by
 obtain ⟨h1,h2,h3,h4,h5,h6,h7,_⟩:=h;rw [zqf];simp only [zia,zKA,zr];rw [yf,yf,yf,yf,yf,zb (by split<;>omega)];have:(if p.Price<p.Limit then p.Limit else p.Price)<=1000000:=by split<;>omega
 simp [this]
theorem zEA {p:zd}(h:zJ p):Xm p.H=some (true,()):=by
 have:=h.slots;have:=h.n;rw [zno,zr,yf,zr,yf,zr,yf,zzc (by omega) (by omega) h.objs];rfl
theorem zEq {p:zd}(h:zJ p):zmH p=some (true,()):=by
 have hn:=h.n;have hm:=h.most;have hsl:=h.slots;have hmt:=h.mt;have hrl:=h.regs;have hpl:=h.progs;rw [zwA,zER h];simp only [zKA,zKU,zM,zEA h,zia];rw [show decide ((p.H.Objs.length:Int)<=p.Most/\p.Most<=64)=true by simp;omega];simp only [zKU,zM,zeG _ (show (0:Int)<=(p.H.Objs.length:Int) by omega),zKA,WL,zt3 h,decide_true,yq,zb h.regs,zb h.progs];rw [zcO (b:=(p,())) (by omega) (fun i x hx=>?_) (by rw [ziR];simp)]
 .simp [h.picks,zE7]
 .have hlt:=zi2 hx;have hr:=h.reg x (zKG hx);obtain ⟨ops,hops⟩:∃ops,p.Progs[i]? =some ops:=⟨_,zKC (by omega)⟩
  obtain ⟨o1,o2⟩:=h.prog i x ops hx hops;rw [ziR,zr,zb hlt,xz hx];simp only [zKA,zia];rw [show decide (1<=(x.length:Int)/\(x.length:Int)<=4)=true by simp;omega];simp only [zKU,zM,zF2 (show x.length<1000000 by omega) hr.2,zKA,xz hops,zIt (show (ops.length:Int)<=64 by omega) o2 (show (x.length:Int)<=4 by omega) (show p.H.Slots<=4 by omega),yS (show i<1000000 by omega)]
theorem zms {n:Int}(h:0<=n) (h2:n<4294967296):Vo n=some n.toNat:=by rw [znY];simp [h,h2]
theorem zyB {n:Int}(h:0<n) (h2:n<4294967296):zi7 n=some n.toNat:=by rw [zxc];simp [h,h2]
def U0 (l:List Int):BitVec 64:=l.foldl (fun s o=>s|||bit o) 0#64
def uV (p:zd):BitVec 64:=p.Regs.foldl (fun s l=>s|||U0 l) p.Roots
def zHZ (a1:BitVec 64):BitVec 64 :=
 let a:=((a1 >>> 1)&&&6148914691236517205#64)+(a1&&&6148914691236517205#64);let b:=((a >>> 2)&&&3689348814741910323#64)+(a&&&3689348814741910323#64);let c:=((b >>> 4)+b)&&&1085102592571150095#64;let d:=c+(c >>> 8);let e:=d+(d >>> 16)
 e+(e >>> 32)
def cnt (s:BitVec 64):Int:=(BitVec.ofInt 64 (zHZ s).toInt&&&BitVec.ofInt 64 127).toInt
theorem zn5 (s:BitVec 64):zbq s=some (cnt s,()):=by
 rw [zx6,zo7,zA0];rfl
theorem WD {m:List Int}(h:m.length<4294967296):yZ m=some (m,()):=by
 rw [zj0,zKL,yP h,zKA];cases m with
 | nil=>simp [zeJ]
 | cons a l=>simp
theorem zBZ {l:List Int}(hl:l.length<1000000):zhX l=some (U0 l,()):=by
 rw [zCw];refine (vq (f:=zoX) (fun a=>∃i:Nat,a=((l.take i).foldl (fun s o=>s|||bit o) 0#64,l,(l.length:Int),(i:Int),())/\i<=l.length) (fun a=>l.length-a.2.2.2.1.toNat) (fun o=>o= .brk (U0 l,())) ?_ (0#64,l,(l.length:Int),0,()) ⟨0,rfl,by omega⟩ (v9 (by simp;omega))).elim fun o h=>?_;rotate_left
 .rw [h.1,h.2];rfl
 .rintro _ ⟨i,rfl,hi⟩;rw [zxm,zr];rcases zLc i l.length with hlt | hge
  .have hx:=zKC hlt;rw [yf,xz hx,zKA,zg7,zKA,yS];refine ⟨_,rfl,⟨i+1,?_,hlt⟩,?_⟩
   .rw [zLV,hx];simp only [Option.toList_some,List.foldl_append,zLr,List.foldl_nil]
   .show l.length-((i+1:Nat):Int).toNat<l.length-(i:Int).toNat;omega
  .rw [zi];have:i=l.length:=by omega
   subst this;exact ⟨_,rfl,by rw [zMg];rfl⟩
theorem zvU {p:zd}(hl:p.Regs.length<1000000) (hr:∀r∈p.Regs,r.length<1000000):zgi p=some (uV p,()):=by
 rw [zwr];refine (vq (f:=zfS) (fun a=>∃i:Nat,a=((p.Regs.take i).foldl (fun s l=>s|||U0 l) p.Roots,p.Regs,(p.Regs.length:Int),(i:Int),())/\i<=p.Regs.length) (fun a=>p.Regs.length-a.2.2.2.1.toNat) (fun o=>o= .brk (uV p,())) ?_ (p.Roots,p.Regs,(p.Regs.length:Int),0,()) ⟨0,rfl,by omega⟩ (v9 (by simp;omega))).elim fun o h=>?_;rotate_left
 .rw [h.1,h.2];rfl
 .rintro _ ⟨i,rfl,hi⟩;rw [zrT,zr];rcases zLc i p.Regs.length with hlt | hge
  .have hx:=zKC hlt;rw [yf,xz hx,zKA,zBZ (hr _ (zKX hlt)),zKA,yS];refine ⟨_,rfl,⟨i+1,?_,hlt⟩,?_⟩
   .rw [zLV,hx];simp only [Option.toList_some,List.foldl_append,zLr,List.foldl_nil]
   .show p.Regs.length-((i+1:Nat):Int).toNat<p.Regs.length-(i:Int).toNat;omega
  .rw [zi];have:i=p.Regs.length:=by omega
   subst this;exact ⟨_,rfl,by rw [zMg];rfl⟩
theorem zFc {l:List (List Int)}(hl:l.length<1000000) (h:∀r∈l,r.length<1000000):vO l=some (l,()):=by
 have key:∀n:Int,n=(l.length:Int)->yc xn (n,0,l,())=some (.brk (l,())):=by
  rintro _ rfl;refine (vq (f:=xn) (fun a=>∃i:Nat,a=((l.length:Int),(i:Int),l,())/\i<=l.length) (fun a=>l.length-a.2.1.toNat) (fun o=>o= .brk (l,())) ?_ ((l.length:Int),0,l,()) ⟨0,rfl,by omega⟩ (v9 (by simp;omega))).elim fun o h=>?_;rotate_left
  .rw [h.1,h.2]
  .rintro _ ⟨i,rfl,hi⟩;rw [Vb,zr];rcases zLc i l.length with hlt | hge
   .have hx:=zKC hlt;have hr:=h _ (zKX hlt);have e:wg l (i:Int)=some i:=by rw [vN];simp
    rw [yf,e];simp only [zKA];rw [hx,zKA,WD (by omega),zKA,yS];refine ⟨_,rfl,⟨i+1,by simp,hlt⟩,?_⟩;show l.length-((i+1:Nat):Int).toNat<l.length-(i:Int).toNat;omega
   .rw [zi];have:i=l.length:=by omega
    subst this;exact ⟨_,rfl,rfl⟩
 have hc:Vo (l.length:Int)=some l.length:=by rw [zms (by omega) (by omega)];simp
 rw [V8];simp only [decide_true,zt,hc,zKA,zLg];cases l with
 | nil=>simp;rw [key 0 rfl];rfl
 | cons a r=>simp only [List.isEmpty_cons,zM];rw [key _ rfl];rfl
def ziG (cap:Int):List (BitVec 64):=[1#64,1#64]++List.replicate cap.toNat 0#64
theorem zC0 {c:Int}(h:1<=c) (h2:c<=64):zjK c=some (ziG c,()):=by
 have e:(if 64<(if c<1 then (1:Int) else c) then (64:Int) else (if c<1 then (1:Int) else c))=c:=by
  rw [zc (show ¬c<1 by omega),zi]
 have w:w64 (2+c)=2+c:=ya;have hc:Vo (2+c)=some (2+c.toNat):=by rw [zms (by omega) (by omega)];congr 1;omega
 rw [zva];simp only [zr,e,w,if_true,hc,zKA];rw [vN (by omega) (by simp;omega),zKA,vN (by omega) (by simp;omega),zKA];have e2:List.replicate (2+c.toNat) 0#64=0#64::0#64::List.replicate c.toNat 0#64:=by rw [Nat.add_comm 2];rfl
 rw [e2];rfl
theorem zEO {m:Int}(h:0<=m) (h2:m<=16):zlv m=some (⟨0,0,0,List.replicate m.toNat 0⟩,()):=by
 have e:(if (if 16<m then (16:Int) else m)<0 then (0:Int) else (if 16<m then (16:Int) else m))=m:=by
  rw [zc (show ¬16<m by omega),zi]
 have hc:Vo m=some m.toNat:=zms (by omega) (by omega);rw [zvK];simp only [zr,e,if_true,hc,zKA]
def links (m:List (BitVec 64)) (next:Int):List Int->List (BitVec 64)
 | []=>m
 | [a]=>st m (wc (next+a)) 0#64
 | a::b::l=>links (st m (wc (next+a)) (BitVec.ofInt 64 b)) next (b::l)
def zes (m:List (BitVec 64)) (head next:Int) (l:List Int):List (BitVec 64):=st (links m next l) head (xN 0#64 (l.headD 0))
theorem Yv (m:List (BitVec 64)) (a:Int) (v:BitVec 64):(st m a v).length=m.length:=by unfold st;split<;>simp
theorem zeO:∀(l:List Int) (m:List (BitVec 64)) (n:Int),(links m n l).length=m.length
 | [],_,_=>rfl
 | [a],m,n=>Yv _ _ _
 | a::b::l,m,n=>by simp only [links];rw [zeO (b::l),Yv]
theorem zuD (m:List (BitVec 64)) (h n:Int) (l:List Int):(zes m h n l).length=m.length:=by unfold zes;rw [Yv,zeO]
theorem zul {head next:Int}{l:List Int}(hl:l.length<1000000):∀(k:Nat) (m:List (BitVec 64)) (i:Nat),l.length-i=k->i<=l.length->m.length<4294967296 ->
  ∀n,k<n->yY zg8 n (m,head,next,l,(l.length:Int),(i:Int),())=some (.brk (links m next (l.drop i),head,l,()))
 | 0,m,i,hk,hi,hm,n+1,hn=>by
  have:i=l.length:=by omega
  subst this;simp only [yY];rw [zkp,zr,zi,zKA,List.drop_length];rfl
 | k+1,m,i,hk,hi,hm,n+1,hn=>by
  have hlt:i<l.length:=by omega
  have hx:=zKC hlt;simp only [yY];rw [zkp,zr,yf,yS,zr,xU];by_cases h2:i+1<l.length
  .have hy:=zKC h2;have ed:l.drop i=l[i]::l[i+1]::l.drop (i+2):=by
    rw [zLh hlt,zLh h2]
   rw [yf,xz hy,zKA,xz hx,zKA,zdX hm,zKA,zKA];dsimp only;rw [zul hl k _ (i+1) (by omega) (by omega) (by rw [Yv];exact hm) n (by omega),ed];rw [zLh h2];rfl
  .have ed:l.drop i=[l[i]]:=by
    rw [zLh hlt,zMb (by omega)]
   rw [zi,xz hx,zKA,zdX hm,zKA,zKA];dsimp only;rw [zul hl k _ (i+1) (by omega) (by omega) (by rw [Yv];exact hm) n (by omega),ed,zMb (by omega)];rfl
theorem zyE {m:List (BitVec 64)}(hm:m.length<4294967296) {head next:Int}{l:List Int}(hl:l.length<1000000):zib m head next l=some (zes m head next l,()):=by
 have e:=zul (head:=head) (next:=next) hl l.length m 0 (by omega) (by omega) hm vV (v9 (by omega));rw [show ((0:Nat):Int)=0 from rfl] at e;rw [zxF,Y3,e];simp only [zKA,List.drop_zero,zr];unfold zes;cases l with
 | nil =>
  rw [zc (by simp),zkD,zKA,zdX (by rw [zeO];exact hm)];rfl
 | cons a r =>
  have:idx (a::r) 0=some a:=by rw [vX];rfl
  rw [zb (by simp),this,zKA,zkD,zKA,zdX (by rw [zeO];exact hm)];rfl
def zqA:Nat->BitVec 64->Option (List Int)
 | 0,_=>none
 | f+1,s=>bif decide (s=0#64) then some [] else (zqA f (s&&&(s-1#64))).map fun l=>(((Go.Lib.ctz 64 s.toNat:Nat):Int)+1)::l
theorem zCB:∀t:Fin 64,zqA 66 (BitVec.ofNat 64 t.1)=some (((List.range 6).filter fun i=>(BitVec.ofNat 64 t.1).getLsbD i).map fun i:Nat=>(i:Int)+1):=by decide +kernel
def Vq (s:BitVec 64):List Int:=((List.range 6).filter fun i=>s.getLsbD i).map fun i:Nat=>(i:Int)+1
theorem zCj {s:BitVec 64}(h:s&&& ~~~63#64=0#64):∃t:Fin 64,s=BitVec.ofNat 64 t.1:=by
 have h2:s=s&&&63#64:=by
  apply zL5;intro i hi;have:=congrArg (fun x=>x.getLsbD i) h;simp only [zLP,zMi,hi,decide_true,zLw,zL6] at this ⊢;cases h1:s.getLsbD i<;>cases h3:(63#64:BitVec 64).getLsbD i<;>simp_all
 have h3:s.toNat<64:=by
  rw [h2,zLG];exact zMj Nat.and_le_right (by decide)
 exact ⟨⟨s.toNat,h3⟩,by simp⟩
theorem zJY:∀t:Fin 64,Go.Lib.ctz 64 t.1<=64:=by decide +kernel
theorem zzs:∀(f:Nat) (s:BitVec 64),s.toNat<64->zat f s=zqA f s
 | 0,_,_=>rfl
 | f+1,s,h=>by
  simp only [zat,zqA];rw [zzs f _ (by rw [zLG];exact zMj Nat.and_le_left h)];have:Go.Lib.ctz 64 s.toNat<=64:=zJY ⟨s.toNat,h⟩;have e:w64 (tz s+1)=((Go.Lib.ctz 64 s.toNat:Nat):Int)+1:=by
   unfold tz;exact ya
  rw [e]
theorem zqF:∀(l acc:List Int),(acc.length+l.length)<4294967296->ZT zjC l (acc,())=some (acc++l,())
 | [],acc,_=>by simp [ZT]
 | a::l,acc,h=>by
  simp only [zKR] at h;rw [ZT,zvj,yP (by simp;omega),zKA,zKA,zqF l _ (by simp;omega)];simp
theorem zE0 (s:BitVec 64):(Vq s).length<=6:=by
 unfold Vq;rw [zLx];exact zLI (zLO _ _) (by simp)
theorem zHp {s:BitVec 64}(h:s&&& ~~~63#64=0#64):zfm s=some (Vq s,()):=by
 obtain ⟨t,rfl⟩:=zCj h;have e:zlX (BitVec.ofNat 64 t.1)=some (Vq (BitVec.ofNat 64 t.1)):=by
  show zat 66 _=_;rw [zzs 66 _ (by simp;omega),zCB t];rfl
 have:=zE0 (BitVec.ofNat 64 t.1);rw [zq2,zq5,zKA,e,zKA,zqF _ _ (by simp;omega)];rfl
theorem zwC (n:Nat) (hn:1<=n):∀(f:Nat) (l:List Int),(ul n f l).length<=l.length
 | 0,l=>by simp [ul]
 | f+1,[]=>by simp [ul]
 | f+1,x::l=>by
  have:=zwC n hn f ((x::l).drop n);simp only [ul,zKR,zLS] at this ⊢;omega
theorem zoG (n:Nat):∀(f:Nat) (l c:List Int),c∈ul n f l->c.length<=l.length
 | 0,l,c,h=>by simp [ul] at h
 | f+1,[],c,h=>by simp [ul] at h
 | f+1,x::l,c,h=>by
  simp only [ul,zKS] at h;rcases h with rfl | h
  .rw [zLM];exact Nat.min_le_right _ _
  .have:=zoG n f _ c h;simp only [zLS] at this;omega
def ux (p:zd) (w:Nat):zj:=⟨0,0,0,(w:Int)+1,0,[],⟨2,0,z6 p ((w:Int)+1),p.Cap,0#64,0#64,0,0⟩,⟨0,0,0,0,0#64,0,0,0⟩,⟨0,0,0,0,⟨0,0,0,0,0#64,0#64,0,0⟩,⟨0,0,0,0,0#64,0,0,0⟩,0,0⟩⟩
def XA (p:zd) (k:Nat):List (BitVec 64):=(List.range k).flatMap fun _=>ziG p.Cap
theorem zvM (c:Int):(ziG c).length=c.toNat+2:=by unfold ziG;rw [zKO,zLg];exact Nat.add_comm _ _
theorem zoF (p:zd) (k:Nat):XA p (k+1)=XA p k++ziG p.Cap:=by unfold XA;rw [zLY,zLZ];simp
theorem zaW (p:zd):∀k,(XA p k).length=k*(p.Cap.toNat+2)
 | 0=>by simp [XA]
 | k+1=>by rw [zoF,zKO,zaW p k,zvM,Nat.succ_mul]
theorem zJz {p:zd}{s1:BitVec 64}{s5:Int}{s6:Int}{s7:Int}{s8:Int}{s9:Int}{s10:Int}{s11:Int}{s12:Int}{s13:Int}{s14:BitVec 64}{s15:Int}{s16:zo}{s17:Int}{s18:Int}{s19:Bool}{s20:Bool}{s21:Int}{s22:Int}{s23:Int}{s24:Int}{s25:zN}{s26:zd}{s27:Int}{s28:zo}{s29:Int}{s30:Int}{s31:Bool}{s32:Bool}{s33:Int}{s34:zy}{s35:zN}{s36:List (List Int)}{s37:List (List Int)}{s38:List (List zE)}{s39:List zk}{s40:List (List Int)}{s41:List (BitVec 64)}{s42:List (List Int)}{s43:List Int}{s44:List Int}{s45:List zj}{s46:List ze}{s47:List (List Int)}{s49:List (List Int)}{s50:List Int}{s52:List ze}(hp:zJ p) :
  yc zcN (s1,p.Workers,0,p,s5,s6,s7,s8,s9,s10,s11,s12,s13,s14,s15,s16,s17,s18,s19,s20,s21,s22,s23,s24,s25,s26,s27,s28,s29,s30,s31,s32,s33,s34,s35,s36,s37,s38,s39,s40,s41,s42,s43,s44,s45,s46,s47,[],s49,s50,[],s52,())=some (.brk (s1,p,s5,s6,s7,s8,s9,s10,s11,s12,s13,s14,s15,s16,s17,s18,s19,s20,s21,s22,s23,s24,s25,s26,s27,s28,s29,s30,s31,s32,s33,s34,s35,s36,s37,s38,s39,s40,s41,s42,s43,s44,s45,s46,s47,(XA p p.Workers.toNat),s49,s50,((List.range p.Workers.toNat).map (ux p)),s52,())):=by
 have hw:=hp.wk;have hc:=hp.cap;refine (vq (f:=zcN) (fun a=>∃i:Nat,a=(s1,p.Workers,(i:Int),p,s5,s6,s7,s8,s9,s10,s11,s12,s13,s14,s15,s16,s17,s18,s19,s20,s21,s22,s23,s24,s25,s26,s27,s28,s29,s30,s31,s32,s33,s34,s35,s36,s37,s38,s39,s40,s41,s42,s43,s44,s45,s46,s47,(XA p i),s49,s50,((List.range i).map (ux p)),s52,())/\(i:Int)<=p.Workers) (fun a=>(p.Workers-a.2.2.1).toNat) (fun o=>o= .brk (s1,p,s5,s6,s7,s8,s9,s10,s11,s12,s13,s14,s15,s16,s17,s18,s19,s20,s21,s22,s23,s24,s25,s26,s27,s28,s29,s30,s31,s32,s33,s34,s35,s36,s37,s38,s39,s40,s41,s42,s43,s44,s45,s46,s47,(XA p p.Workers.toNat),s49,s50,((List.range p.Workers.toNat).map (ux p)),s52,())) ?_ (s1,p.Workers,0,p,s5,s6,s7,s8,s9,s10,s11,s12,s13,s14,s15,s16,s17,s18,s19,s20,s21,s22,s23,s24,s25,s26,s27,s28,s29,s30,s31,s32,s33,s34,s35,s36,s37,s38,s39,s40,s41,s42,s43,s44,s45,s46,s47,[],s49,s50,[],s52,()) ⟨0,rfl,by omega⟩ (v9 (by dsimp only;omega))).elim fun o h=>?_;rotate_left
 .rw [h.1,h.2]
 .rintro _ ⟨i,rfl,hi⟩;rw [ztL,zr];by_cases hlt:(i:Int)<p.Workers
  .have hl:=zaW p i;have hl2:=zvM p.Cap;have hb:i*(p.Cap.toNat+2)<=3*5:=zL0 (by omega) (by omega);rw [zb hlt,zC0 hc.1 (by omega),zKA,yP (l:=XA p i++ziG p.Cap) (by rw [zKO];omega),zKA,zbw,zKA,zaY,zKA,yP (by simp<;>omega),zKA,yS];refine ⟨_,rfl,⟨i+1,?_,by omega⟩,?_⟩
   .rw [zoF,zLY,List.map_append];rfl
   .show (p.Workers-((i+1:Nat):Int)).toNat<(p.Workers-(i:Int)).toNat;omega
  .rw [zc hlt];have:i=p.Workers.toNat:=by omega
   subst this;exact ⟨_,rfl,rfl⟩
def wa (k:Nat):List Int:=(List.range k).map fun i:Nat=>(i:Int)+1
theorem zAj (k:Nat):(wa k).length=k:=by simp [wa]
theorem zIq {b:Int}{s1:BitVec 64}{s4:zd}{s5:Int}{s6:Int}{s7:Int}{s8:Int}{s9:Int}{s10:Int}{s11:Int}{s12:Int}{s13:Int}{s14:BitVec 64}{s15:Int}{s16:zo}{s17:Int}{s18:Int}{s19:Bool}{s20:Bool}{s21:Int}{s22:Int}{s23:Int}{s24:Int}{s25:zN}{s26:zd}{s27:Int}{s28:zo}{s29:Int}{s30:Int}{s31:Bool}{s32:Bool}{s33:Int}{s34:zy}{s35:zN}{s37:List (List Int)}{s38:List (List Int)}{s39:List (List zE)}{s40:List zk}{s41:List (List Int)}{s42:List (BitVec 64)}{s43:List (List Int)}{s44:List Int}{s45:List Int}{s46:List zj}{s47:List ze}{s48:List (List Int)}{s49:List (BitVec 64)}{s50:List (List Int)}{s51:List Int}{s52:List zj}{s53:List ze}(hb:0<=b/\b<1000) :
  yc zbL (s1,b,0,s4,s5,s6,s7,s8,s9,s10,s11,s12,s13,s14,s15,s16,s17,s18,s19,s20,s21,s22,s23,s24,s25,s26,s27,s28,s29,s30,s31,s32,s33,s34,s35,[],s37,s38,s39,s40,s41,s42,s43,s44,s45,s46,s47,s48,s49,s50,s51,s52,s53,())=some (.brk (s1,s4,s5,s6,s7,s8,s9,s10,s11,s12,s13,s14,s15,s16,s17,s18,s19,s20,s21,s22,s23,s24,s25,s26,s27,s28,s29,s30,s31,s32,s33,s34,s35,(wa b.toNat),s37,s38,s39,s40,s41,s42,s43,s44,s45,s46,s47,s48,s49,s50,s51,s52,s53,())):=by
 refine (vq (f:=zbL) (fun a=>∃i:Nat,a=(s1,b,(i:Int),s4,s5,s6,s7,s8,s9,s10,s11,s12,s13,s14,s15,s16,s17,s18,s19,s20,s21,s22,s23,s24,s25,s26,s27,s28,s29,s30,s31,s32,s33,s34,s35,(wa i),s37,s38,s39,s40,s41,s42,s43,s44,s45,s46,s47,s48,s49,s50,s51,s52,s53,())/\(i:Int)<=b) (fun a=>(b-a.2.2.1).toNat) (fun o=>o= .brk (s1,s4,s5,s6,s7,s8,s9,s10,s11,s12,s13,s14,s15,s16,s17,s18,s19,s20,s21,s22,s23,s24,s25,s26,s27,s28,s29,s30,s31,s32,s33,s34,s35,(wa b.toNat),s37,s38,s39,s40,s41,s42,s43,s44,s45,s46,s47,s48,s49,s50,s51,s52,s53,())) ?_ (s1,b,0,s4,s5,s6,s7,s8,s9,s10,s11,s12,s13,s14,s15,s16,s17,s18,s19,s20,s21,s22,s23,s24,s25,s26,s27,s28,s29,s30,s31,s32,s33,s34,s35,[],s37,s38,s39,s40,s41,s42,s43,s44,s45,s46,s47,s48,s49,s50,s51,s52,s53,()) ⟨0,rfl,by omega⟩ (v9 (by dsimp only;omega))).elim fun o h=>?_;rotate_left
 .rw [h.1,h.2]
 .rintro _ ⟨i,rfl,hi⟩;rw [zrB,zr];by_cases hlt:(i:Int)<b
  .have:=zAj i;rw [zb hlt,yP (by rw [zKO];simp;omega),zKA,yS];refine ⟨_,rfl,⟨i+1,?_,by omega⟩,?_⟩
   .unfold wa;rw [zLY,List.map_append];rfl
   .show (b-((i+1:Nat):Int)).toNat<(b-(i:Int)).toNat;omega
  .rw [zc hlt];have:i=b.toNat:=by omega
   subst this;exact ⟨_,rfl,rfl⟩
theorem zDf {s1:zd}{s2:Int}{s3:Int}{s4:Int}{s5:Int}{s6:Int}{s7:Int}{s8:Int}{s9:Int}{s10:Int}{s11:BitVec 64}{s12:Int}{s13:zo}{s14:Int}{s15:Int}{s16:Bool}{s17:Bool}{s18:Int}{s19:Int}{s20:Int}{s21:Int}{s22:zN}{s23:zd}{s24:Int}{s25:zo}{s26:Int}{s27:Int}{s28:Bool}{s29:Bool}{s30:Int}{s31:zy}{s32:zN}{s33:List Int}{s34:List (List Int)}{s35:List (List Int)}{s36:List (List zE)}{s37:List zk}{s38:List (List Int)}{s39:List (BitVec 64)}{s40:List (List Int)}{s41:List Int}{s42:List Int}{s43:List zj}{s44:List ze}{s45:List (List Int)}{s46:List (BitVec 64)}{s48:List Int}{s49:List zj}{s50:List ze}:∀(ys acc:List (List Int)),acc.length+ys.length<1000000->(∀c∈ys,c.length<1000000)->ZT zgr ys (s1,s2,s3,s4,s5,s6,s7,s8,s9,s10,s11,s12,s13,s14,s15,s16,s17,s18,s19,s20,s21,s22,s23,s24,s25,s26,s27,s28,s29,s30,s31,s32,s33,s34,s35,s36,s37,s38,s39,s40,s41,s42,s43,s44,s45,s46,acc,s48,s49,s50,())=some (s1,s2,s3,s4,s5,s6,s7,s8,s9,s10,s11,s12,s13,s14,s15,s16,s17,s18,s19,s20,s21,s22,s23,s24,s25,s26,s27,s28,s29,s30,s31,s32,s33,s34,s35,s36,s37,s38,s39,s40,s41,s42,s43,s44,s45,s46,(acc++ys),s48,s49,s50,())
 | [],acc,_,_=>by simp [ZT]
 | y::ys,acc,h,hc=>by
  simp only [zKR] at h;have hy:=hc y (zKY ..);rw [ZT,zsf,WD (by omega),zKA,yP (by simp<;>omega),zKA,zKA,zDf ys _ (by simp<;>omega) (fun c h'=>hc c (zKJ _ h'))];simp
def vn (r:List Int):ze:=⟨0,0,0,0,0,0,0,0,r,[],[],⟨0,0,0,0,0#64,0,0,0⟩,⟨0,0,0,0,⟨0,0,0,0,0#64,0#64,0,0⟩,⟨0,0,0,0,0#64,0,0,0⟩,0,0⟩⟩
theorem zIG {p:zd}{s4:Int}{s5:Int}{s6:Int}{s7:Int}{s8:Int}{s9:Int}{s10:Int}{s11:Int}{s12:Int}{s13:BitVec 64}{s14:Int}{s15:zo}{s16:Int}{s17:Int}{s18:Bool}{s19:Bool}{s20:Int}{s21:Int}{s22:Int}{s23:Int}{s24:zN}{s25:zd}{s26:Int}{s27:List (BitVec 64)}{s28:zo}{s29:Int}{s30:Int}{s31:Bool}{s32:Bool}{s33:Int}{s34:zy}{s35:zN}{s36:List (List Int)}{s37:List (List Int)}{s38:List (List zE)}{s39:List zk}{s40:List (List Int)}{s41:List (BitVec 64)}{s42:List (List Int)}{s43:List Int}{s44:List Int}{s45:List zj}{s46:List ze}{s47:List (List Int)}{s48:List (List Int)}{s49:List Int}{s50:List zj}(hl:p.Regs.length<1000000) (hr:∀r∈p.Regs,r.length<1000000) :
  yc zbS (p.Regs,(p.Regs.length:Int),0,s4,s5,s6,s7,s8,s9,s10,s11,s12,s13,s14,s15,s16,s17,s18,s19,s20,s21,s22,s23,s24,s25,s26,s27,s28,s29,s30,s31,s32,s33,s34,s35,s36,s37,s38,s39,s40,s41,s42,s43,s44,s45,s46,s47,s48,s49,s50,[],())=some (.brk (s4,s5,s6,s7,s8,s9,s10,s11,s12,s13,s14,s15,s16,s17,s18,s19,s20,s21,s22,s23,s24,s25,s26,s27,s28,s29,s30,s31,s32,s33,s34,s35,s36,s37,s38,s39,s40,s41,s42,s43,s44,s45,s46,s47,s48,s49,s50,(p.Regs.map vn),())):=by
 refine (vq (f:=zbS) (fun a=>∃i:Nat,a=(p.Regs,(p.Regs.length:Int),(i:Int),s4,s5,s6,s7,s8,s9,s10,s11,s12,s13,s14,s15,s16,s17,s18,s19,s20,s21,s22,s23,s24,s25,s26,s27,s28,s29,s30,s31,s32,s33,s34,s35,s36,s37,s38,s39,s40,s41,s42,s43,s44,s45,s46,s47,s48,s49,s50,((p.Regs.take i).map vn),())/\i<=p.Regs.length) (fun a=>p.Regs.length-a.2.2.1.toNat) (fun o=>o= .brk (s4,s5,s6,s7,s8,s9,s10,s11,s12,s13,s14,s15,s16,s17,s18,s19,s20,s21,s22,s23,s24,s25,s26,s27,s28,s29,s30,s31,s32,s33,s34,s35,s36,s37,s38,s39,s40,s41,s42,s43,s44,s45,s46,s47,s48,s49,s50,(p.Regs.map vn),())) ?_ (p.Regs,(p.Regs.length:Int),0,s4,s5,s6,s7,s8,s9,s10,s11,s12,s13,s14,s15,s16,s17,s18,s19,s20,s21,s22,s23,s24,s25,s26,s27,s28,s29,s30,s31,s32,s33,s34,s35,s36,s37,s38,s39,s40,s41,s42,s43,s44,s45,s46,s47,s48,s49,s50,[],()) ⟨0,rfl,by omega⟩ (v9 (by dsimp only;omega))).elim fun o h=>?_;rotate_left
 .rw [h.1,h.2]
 .rintro _ ⟨i,rfl,hi⟩;rw [zrx,zr];rcases zLc i p.Regs.length with hlt | hge
  .have hx:=zKC hlt;have hh:=hr _ (zKX hlt);rw [yf,xz hx,zKA,WD (by omega),zKA,yP (by simp<;>omega),zKA,yS];refine ⟨_,rfl,⟨i+1,?_,hlt⟩,?_⟩
   .rw [zLV,hx,List.map_append];rfl
   .show p.Regs.length-((i+1:Nat):Int).toNat<p.Regs.length-(i:Int).toNat;omega
  .rw [zi];have:i=p.Regs.length:=by omega
   subst this;exact ⟨_,rfl,by rw [zMg]⟩
def yi (p:zd):Nat:=(p.Most+p.Workers+p.Mutators).toNat
def xH (p:zd):List (List Int):=ul p.Bin.toNat (Vq (uV p)).length (Vq (uV p))
def xD (p:zd):za :=
 {P:=p,H:=p.H,
  M:=zes (zes (XA p p.Workers.toNat++List.replicate (2+yi p) 0#64) (yu p) (zU p) ((wa (yi p)).take (xH p).length)) (zU p) (zU p) ((wa (yi p)).drop (xH p).length),
  Bins:=[[]]++xH p++List.replicate (yi p-(xH p).length) [],
  T:=⟨uV p,0#64⟩,Work:=cnt (uV p),Epoch:=0,Flag:=false,Done:=false,Restarts:=0,
  Acks:=List.replicate p.Mutators.toNat 0,L:=⟨0,0,0,List.replicate p.Mutators.toNat 0⟩,
  Ws:=(List.range p.Workers.toNat).map (ux p),Ms:=p.Regs.map vn,D:=⟨0,0⟩}
theorem zFP {r n:Int}(h:0<=r) (h2:r<=n) (h3:n<=6):bit r&&& ~~~xR n=0#64:=by
 have:=zzn ⟨r.toNat,by omega⟩ ⟨n.toNat,by omega⟩ (by show r.toNat<=n.toNat;omega);simpa [Int.toNat_of_nonneg h,Int.toNat_of_nonneg (show 0<=n by omega)] using this
theorem zA2 {a b c:BitVec 64}(ha:a&&& ~~~c=0#64) (hb:b&&& ~~~c=0#64):(a|||b)&&& ~~~c=0#64:=by
 apply zL5;intro i hi;have h1:=congrArg (fun x=>x.getLsbD i) ha;have h2:=congrArg (fun x=>x.getLsbD i) hb;simp only [zLP,BitVec.getLsbD_or,zMi,zL6,hi,decide_true,zLw] at h1 h2 ⊢;revert h1 h2;generalize a.getLsbD i=x;generalize b.getLsbD i=y;generalize c.getLsbD i=z;cases x<;>cases y<;>cases z<;>decide
theorem zDN {c:BitVec 64}{l:List Int}(h:∀o∈l,bit o&&& ~~~c=0#64):∀(z:BitVec 64),z&&& ~~~c=0#64->l.foldl (fun s o=>s|||bit o) z&&& ~~~c=0#64:=by
 induction l with
 | nil=>intro z hz;exact hz
 | cons a l ih=>intro z hz;exact ih (fun o ho=>h o (zKJ _ ho)) _ (zA2 hz (h a (zKY ..)))
theorem zoo {p:zd}(h:zJ p):uV p&&& ~~~xR (p.H.Objs.length:Int)=0#64:=by
 have hn:=h.n;have key:∀(L:List (List Int)) (z:BitVec 64),(∀r∈L,∀v∈r,0<=v/\v<=(p.H.Objs.length:Int))->z&&& ~~~xR (p.H.Objs.length:Int)=0#64->L.foldl (fun s l=>s|||U0 l) z&&& ~~~xR (p.H.Objs.length:Int)=0#64:=by
  intro L
  induction L with
  | nil=>intro z _ hz;exact hz
  | cons r L ih =>
   intro z hr hz;refine ih _ (fun r' h'=>hr r' (zKJ _ h')) (zA2 hz (zDN (fun o ho=>?_) _ (by simp)));have:=hr r (zKY ..) o ho;exact zFP this.1 this.2 hn.2
 exact key _ _ (fun r hr=>(h.reg r hr).2) (zt3 h)
theorem zCK {a b c:BitVec 64}(h:a&&& ~~~b=0#64) (h2:b&&& ~~~c=0#64):a&&& ~~~c=0#64:=by
 apply zL5;intro i hi;have h1:=congrArg (fun x=>x.getLsbD i) h;have h2:=congrArg (fun x=>x.getLsbD i) h2;simp only [zLP,zMi,zL6,hi,decide_true,zLw] at h1 h2 ⊢;revert h1 h2;generalize a.getLsbD i=x;generalize b.getLsbD i=y;generalize c.getLsbD i=z;cases x<;>cases y<;>cases z<;>decide
theorem zCP:∀n:Fin 7,xR (n.1:Int)&&& ~~~63#64=0#64:=by decide
theorem zil {p:zd}(h:zJ p):uV p&&& ~~~63#64=0#64:=by
 have hn:=h.n;refine zCK (zoo h) ?_;exact zCP ⟨p.H.Objs.length,by omega⟩
theorem zEs:∀(n:Fin 7) (t:Fin 64),BitVec.ofNat 64 t.1&&& ~~~xR (n.1:Int)=0#64->(Vq (BitVec.ofNat 64 t.1)).length<=n.1:=by decide +kernel
theorem znt {p:zd}(h:zJ p):(Vq (uV p)).length<=p.H.Objs.length:=by
 have hn:=h.n;obtain ⟨t,ht⟩:=zCj (zil h);have h2:=zoo h;rw [ht] at h2 ⊢;exact zEs ⟨p.H.Objs.length,by omega⟩ t h2
theorem zqv {p:zd}(h:zJ p):(xH p).length<=p.H.Objs.length:=by
 have hb:=h.bin;exact zLI (zwC _ (by omega) _ _) (znt h)
theorem zyF {p:zd}(h:zJ p):zh5 p=some (xD p,()):=by
 have hw:=h.wk;have hc:=h.cap;have hm:=h.mt;have hb:=h.bin;have hn:=h.n;have hmo:=h.most;have hrl:=h.regs;have hreg:∀r∈p.Regs,r.length<1000000:=fun r hr=>by have:=(h.reg r hr).1;omega
 have hobj:∀o∈p.H.Objs,o.length<1000000:=fun o ho=>by have:=(h.objs o ho).1;have:=h.slots;omega
 have hfl:=zqv h;have hgl:=znt h;have hcl:=zaW p p.Workers.toNat;have hcb:p.Workers.toNat*(p.Cap.toNat+2)<=3*5:=zL0 (by omega) (by omega);have hbn:(yi p:Int)=p.Most+p.Workers+p.Mutators:=by unfold yi;omega
 have eb:zik p=some ((yi p:Int),()):=by
  rw [zxt,ya (a:=p.Most+p.Workers) (by omega) (by omega),ya,hbn]
 have hul:=zAj (yi p);have ec:zbg (Vq (uV p)) p.Bin=some (xH p):=by
  show zl4 _ _=_;unfold zl4 xH;have c1:(decide (1<=p.Bin)&&decide (p.Bin<1000000)&&decide (((Vq (uV p)).length:Int)<1000000))=true:=by simp<;>omega
  rw [c1];rfl
 have cut1:cut (wa (yi p)) 0 ((xH p).length:Int)=some ((wa (yi p)).take (xH p).length):=by
  unfold cut;have:((xH p).length:Int)<=((wa (yi p)).length:Int):=by omega
  simp [this]
 have cut2:cut (wa (yi p)) ((xH p).length:Int) ((wa (yi p)).length:Int)=some ((wa (yi p)).drop (xH p).length):=by
  unfold cut;have:((xH p).length:Int)<=((wa (yi p)).length:Int):=by omega
  simp [this]
 rw [zyc,zEq h];simp only [zKA,zKU,zM];rw [zvU (by omega) hreg];simp only [zKA,zn5,zEO hm.1 (show p.Mutators<=16 by omega)];rw [zFc (by omega) hobj];simp only [zKA];rw [zJz h];simp only [zKA,eb];have e3:(2+(yi p:Int)).toNat=2+yi p:=by omega
 rw [ya (a:=2+(yi p:Int)) (by omega) (by omega),zyB (by omega) (by omega),e3,zKA,yP (l:=XA p p.Workers.toNat++List.replicate (2+yi p) 0#64) (by simp<;>omega),zKA,zIq (by omega)];dsimp only [zKA];rw [zLi,zHp (zil h),zKA,zjR,zr,zi,zKA,ec,zKA,zDf _ _ (by simp<;>omega) (fun c hc'=>by have:=zoG _ _ _ _ hc';omega)];dsimp only [zKA];have e1:w64 ((([[]]++xH p:List (List Int)).length:Int)-1)=((xH p).length:Int):=by
  rw [ya (by simp<;>omega) (by simp<;>omega)];simp
 have e2:w64 (((wa (yi p)).length:Int)-((xH p).length:Int))=((yi p-(xH p).length:Nat):Int):=by
  rw [ya];omega
 rw [e1,e2,zyB (by omega) (by omega),zLi,zKA,yP (by simp<;>omega),zKA,zcG,zKA,zaT,zKA,cut1,zKA,zyE (by simp<;>omega) (by simp<;>omega),zKA,zdE,zKA,zKA,cut2,zKA,zyE (by rw [zuD];simp<;>omega) (by simp<;>omega),zKA,decide_true,zt,zms hm.1 (show p.Mutators<4294967296 by omega),zKA,zIG (by omega) hreg];rfl
theorem znR (h:BitVec 64):yI h=((h.toNat%4294967296:Nat):Int):=by
 unfold yI;have e:(h&&&4294967295#64).toNat=h.toNat%4294967296:=by
  rw [zLG];exact zMv h.toNat 32
 rw [zMc,e];omega
theorem znT (h:BitVec 64):0<=yI h/\yI h<4294967296:=by rw [znR];omega
theorem zeC (v:BitVec 64) {n:Int}(h:0<=n) (h2:n<4294967296):yI (xN v n)=n:=by
 rw [znR];unfold xN;rw [BitVec.toNat_or,zLG,BitVec.toNat_shiftLeft];have e1:(v.toNat <<< 32%2 ^ 64|||(BitVec.ofInt 64 n).toNat&&&(4294967295#64).toNat)%2 ^ 32=(v.toNat <<< 32%2 ^ 64)%2 ^ 32|||((BitVec.ofInt 64 n).toNat&&&(4294967295#64).toNat)%2 ^ 32:=Nat.or_mod_two_pow;have e2:v.toNat <<< 32%2 ^ 64%2 ^ 32=0:=by rw [Nat.shiftLeft_eq];omega
 have e3:(BitVec.ofInt 64 n).toNat&&&(4294967295#64).toNat=n.toNat:=by
  have:(BitVec.ofInt 64 n).toNat=n.toNat:=by rw [zLu];omega
  rw [this];exact (zMv n.toNat 32).trans (Nat.mod_eq_of_lt (by omega))
 rw [show (4294967296:Nat)=2 ^ 32 from rfl,e1,e2,e3,Nat.zero_or,Nat.mod_eq_of_lt (by omega)];omega
theorem toInt_ofInt {n:Int}(h:0<=n) (h2:n<4294967296):(BitVec.ofInt 64 n).toInt=n:=by
 have e:(BitVec.ofInt 64 n).toNat=n.toNat:=by rw [zLu];omega
 rw [zMc,e];omega
theorem Vp {m:List (BitVec 64)}{a b:Int}{v:BitVec 64}:ld (st m a v) b=if a=b/\0<=a/\a<m.length then v else ld m b:=by
 unfold ld st;by_cases hb:0<=b
 .rw [zb hb,zb hb];by_cases ha:0<=a
  .rw [zb ha,zKD,zKD,zLp];by_cases hab:a.toNat=b.toNat
   .have e:a=b:=by omega
    subst e;by_cases hl:a.toNat<m.length
    .rw [zb rfl,zb hl,zb ⟨rfl,ha,by omega⟩];rfl
    .rw [zb rfl,zc hl,zi,zLJ (by omega)]
   .rw [zc hab,zi]
  .rw [zc ha,zi]
 .rw [zc hb,zc hb,zi]
theorem yK {m:List (BitVec 64)}{a b:Int}{v:BitVec 64}(h:a≠b):ld (st m a v) b=ld m b:=by
 rw [Vp,zc (fun h'=>h h'.1)]
theorem Ya {p:zd}(h:zJ p):yu p=p.Workers*(p.Cap+2)/\3<=yu p/\yu p<=15:=by
 have hw:=h.wk;have hc:=h.cap;unfold yu;rw [yR (a:=p.Cap+2) (by omega) (by omega)];have hx:p.Workers=1\/p.Workers=2\/p.Workers=3:=by omega
 rcases hx with hx | hx | hx<;>rw [hx,yR]<;>omega
theorem vd {p:zd}(h:zJ p):zU p=yu p+1:=by
 have:=Ya h;unfold zU;rw [yR]
theorem Xb {p:zd}(h:zJ p) {w:Int}(h1:1<=w) (h2:w<=p.Workers):z6 p w=(w-1)*(p.Cap+2)/\0<=z6 p w/\z6 p w+p.Cap+2<=yu p:=by
 have hw:=h.wk;have hc:=h.cap;have hf:=(Ya h).1;unfold z6;rw [yR (a:=p.Cap+2) (by omega) (by omega),yR (a:=w-1) (by omega) (by omega)];have hx:p.Workers=1\/p.Workers=2\/p.Workers=3:=by omega
 have hy:w=1\/w=2\/w=3:=by omega
 rw [hf];rcases hx with hx | hx | hx<;>rcases hy with hy | hy | hy<;>first | omega | (rw [hx,hy,yR]<;>omega)
theorem zuZ {p:zd}(h:zJ p) {d:zg}{w:Int}(h1:1<=w) (h2:w<=p.Workers) (hb:d.Base=z6 p w) (hc:d.Cap=p.Cap) (i:BitVec 64) :
  XB d i=d.Base+2+((i.toNat%p.Cap.toNat:Nat):Int)/\d.Base+2<=XB d i/\XB d i<d.Base+2+p.Cap:=by
 have hcp:=h.cap;have hd:=Xb h h1 h2;have hf:=Ya h;have hs:(uW d).toNat=p.Cap.toNat:=by
  unfold uW;rw [hc,zi,zLu];omega
 have hlt:i.toNat%p.Cap.toNat<p.Cap.toNat:=Nat.mod_lt _ (by omega);have hm:(i%uW d).toInt=((i.toNat%p.Cap.toNat:Nat):Int):=by
  rw [zMc,BitVec.toNat_umod,hs];omega
 unfold XB;rw [hm,yR (a:=d.Base+2) (by omega) (by omega),yR];omega
structure SOk (p:zd) (nb:Nat) (s:za):Prop where
 P:s.P=p
 bins:s.Bins.length=nb
 nbk:1<=nb/\nb<1000
 mem:s.M.length<100000
 cF:yI (ld s.M (yu p))<nb
 cE:yI (ld s.M (zU p))<nb
 cL:∀a,zU p<a->0<=(ld s.M a).toInt/\(ld s.M a).toInt<nb
structure MOk (p:zd) (nb:Nat) (g:zK):Prop where
 who:g.Mode=1->1<=g.Who/\g.Who<=p.Workers
 d3:g.PC=3->g.D.Kind=1/\g.D.Base=z6 p g.Who/\g.D.Cap=p.Cap/\g.Mode=1
 c5:g.PC=5->g.C.Kind=2/\g.C.Head=zU p/\g.C.Next=zU p/\(1<=g.C.PC->1<=yI g.C.H/\yI g.C.H<nb)/\(2<=g.C.PC->0<=g.C.Y/\g.C.Y<nb)
 b6:g.PC=6->1<=g.Bin/\g.Bin<nb
 c7:g.PC=7->g.C.Kind=1/\g.C.Head=yu p/\g.C.Next=zU p/\(1<=g.C.X/\g.C.X<nb)/\(1<=g.C.PC->yI g.C.H<nb)
theorem SOk.gok {p:zd}{nb:Nat}{s:za}{g:zK}(h:zJ p) (S:SOk p nb s) (M:MOk p nb g):GOk s g:=by
 have hc:=h.cap;refine ⟨by have:=S.mem;omega,by have:=S.bins;have:=S.nbk;omega,fun h6=>?_,fun h3=>?_⟩
 .have:=M.b6 h6;have:=S.bins;omega
 .obtain ⟨a,b,c,_⟩:=M.d3 h3;exact ⟨a,by omega⟩
theorem SOk.low {p:zd}{nb:Nat}{s:za}(h:zJ p) (S:SOk p nb s) {a:Int}(ha:a<yu p) (v:BitVec 64):SOk p nb {s with M:=st s.M a v}:=by
 have he:=vd h;exact ⟨S.P,S.bins,S.nbk,by simp only [Yv];exact S.mem,by simp only [yK (show a≠yu p by omega)];exact S.cF,by simp only [yK (show a≠zU p by omega)];exact S.cE,fun b hb=>by
  simp only [yK (show a≠b by omega)];exact S.cL b hb⟩
theorem SOk.link {p:zd}{nb:Nat}{s:za}(h:zJ p) (S:SOk p nb s) {a:Int}(ha:zU p<a) {v:BitVec 64}(hv:0<=v.toInt/\v.toInt<nb):SOk p nb {s with M:=st s.M a v}:=by
 have he:=vd h;exact ⟨S.P,S.bins,S.nbk,by simp only [Yv];exact S.mem,by simp only [yK (show a≠yu p by omega)];exact S.cF,by simp only [yK (show a≠zU p by omega)];exact S.cE,fun b hb=>by
  simp only [Vp];split
  .exact hv
  .exact S.cL b hb⟩
theorem SOk.head {p:zd}{nb:Nat}{s:za}(h:zJ p) (S:SOk p nb s) {a:Int}(ha:a=yu p\/a=zU p) {v:BitVec 64}(hv:yI v<nb):SOk p nb {s with M:=st s.M a v}:=by
 have he:=vd h;refine ⟨S.P,S.bins,S.nbk,by simp only [Yv];exact S.mem,?_,?_,fun b hb=>?_⟩
 .simp only [Vp];split
  .exact hv
  .exact S.cF
 .simp only [Vp];split
  .exact hv
  .exact S.cE
 .simp only [yK (show a≠b by omega)];exact S.cL b hb
theorem SOk.swap {p:zd}{nb:Nat}{s:za}(h:zJ p) (S:SOk p nb s) {a:Int}(ha:a=yu p\/a=zU p) (x:BitVec 64) {v:BitVec 64}(hv:yI v<nb):SOk p nb {s with M:=(sw s.M a x v).1}:=by
 unfold sw;split
 .exact S.head h ha hv
 .exact S
theorem zCo {p:zd}{nb:Nat}{s:za}(h:zJ p) (S:SOk p nb s) {c:zV}{hd:Int}(hdd:hd=yu p\/hd=zU p) (hk:c.Kind=2) (hh:c.Head=hd) (hn:c.Next=zU p)
  (h1:1<=c.PC->1<=yI c.H/\yI c.H<nb) (h2:2<=c.PC->0<=c.Y/\c.Y<nb) (ho:c.Out≠1) :
  SOk p nb {s with M:=(zD s.M c).1}/\(zD s.M c).2.Kind=2/\(zD s.M c).2.Head=hd/\(zD s.M c).2.Next=zU p /\
  ((zD s.M c).2.Out≠1->(zD s.M c).2.Out≠2->(1<=(zD s.M c).2.PC->1<=yI (zD s.M c).2.H/\yI (zD s.M c).2.H<nb)/\(2<=(zD s.M c).2.PC->0<=(zD s.M c).2.Y/\(zD s.M c).2.Y<nb)) /\
  ((zD s.M c).2.Out=1->1<=(zD s.M c).2.X/\(zD s.M c).2.X<nb):=by
 have hnb:=S.nbk;have hE:=vd h;have hF:=Ya h;unfold zD;split
 .exact ⟨S,hk,hh,hn,fun _ _=>⟨h1,h2⟩,fun e=>zm e ho⟩
 .split
  .rw [hh];have n1:=znT (ld s.M hd);have n2:yI (ld s.M hd)<nb:=by
    rcases hdd with e | e<;>rw [e]
    .exact S.cF
    .exact S.cE
   split
   .exact ⟨S,hk,rfl,hn,fun _ h=>zm rfl h,fun e=>by cases e⟩
   .rename_i hne;refine ⟨S,hk,rfl,hn,fun _ _=>⟨fun _=>⟨?_,n2⟩,fun e=>zm e (by dsimp only;omega)⟩,fun e=>zm e ho⟩;have:yI (ld s.M hd)≠0:=fun e=>hne ⟨hk,e⟩;dsimp only;omega
  .split
   .try rw [zb hk]
    have hpc:1<=c.PC:=by omega
    have n1:=h1 hpc;refine ⟨S,hk,hh,hn,fun _ _=>⟨fun _=>n1,fun _=>?_⟩,fun e=>zm e ho⟩;dsimp only;rw [hn,yR];exact S.cL _ (by omega)
   .rename_i g1 g2 g3;have hpc:c.PC=2:=by omega
    have n1:=h1 (by omega);have n2:=h2 (by omega);simp only [zb hk];refine ⟨S.swap h (by rw [hh];exact hdd) _ (by rw [zeC _ n2.1 (by omega)];exact n2.2),?_⟩;split
    .exact ⟨hk,hh,hn,fun e=>zm rfl e,fun _=>n1⟩
    .exact ⟨hk,hh,hn,fun _ _=>⟨fun e=>zm e (by dsimp only;omega),fun e=>zm e (by dsimp only;omega)⟩,fun e=>zm e ho⟩
theorem zyl {p:zd}{nb:Nat}{s:za}(h:zJ p) (S:SOk p nb s) {c:zV}{hd:Int}(hdd:hd=yu p\/hd=zU p) (hk:c.Kind=1) (hh:c.Head=hd) (hn:c.Next=zU p) (hx:1<=c.X/\c.X<nb)
  (h1:1<=c.PC->yI c.H<nb) :
  SOk p nb {s with M:=(zD s.M c).1}/\(zD s.M c).2.Kind=1/\(zD s.M c).2.Head=hd/\(zD s.M c).2.Next=zU p/\(1<=(zD s.M c).2.X/\(zD s.M c).2.X<nb) /\
  (1<=(zD s.M c).2.PC->yI (zD s.M c).2.H<nb):=by
 have hnb:=S.nbk;have hE:=vd h;have hF:=Ya h;have hk2: ¬c.Kind=2:=by omega
 unfold zD;split
 .exact ⟨S,hk,hh,hn,hx,h1⟩
 .split
  .rw [zc (fun e=>hk2 e.1),hh];exact ⟨S,hk,rfl,hn,hx,fun _=>hdd.elim (fun e=>by dsimp only;rw [e];exact S.cF) (fun e=>by dsimp only;rw [e];exact S.cE)⟩
  .split
   .try rw [zc hk2]
    have hpc:1<=c.PC:=by omega
    have n1:=h1 hpc;have n2:=znT c.H;refine ⟨?_,hk,hh,hn,hx,fun _=>n1⟩;dsimp only;rw [hn,yR];exact S.link h (by omega) (by rw [toInt_ofInt (by omega) (by omega)];omega)
   .have n1:=h1 (by omega);simp only [zc hk2];refine ⟨S.swap h (by rw [hh];exact hdd) _ (by rw [zeC _ (by omega) (by omega)];exact hx.2),?_⟩;split
    .exact ⟨hk,hh,hn,hx,fun _=>n1⟩
    .exact ⟨hk,hh,hn,hx,fun _=>n1⟩
theorem MOk.ask {p:zd}{nb:Nat}{g:zK}(hw:g.Mode=1->1<=g.Who/\g.Who<=p.Workers):MOk p nb (zjT p g) :=
 ⟨hw,fun e=>(by cases e),fun _=>⟨rfl,rfl,rfl,fun e=>zm e (show ¬(1:Int)<=0 by decide),fun e=>zm e (show ¬(2:Int)<=0 by decide)⟩,fun e=>(by cases e),fun e=>(by cases e)⟩
theorem ztc {p:zd}{nb:Nat}{s:za}{g:zK}(h:zJ p) (S:SOk p nb s) (M:MOk p nb g) (hout:g.PC=5->g.C.Out≠1):SOk p nb (zH s g).1/\MOk p nb (zH s g).2/\((zH s g).2.PC=5->(zH s g).2.C.Out≠1):=by
 have hP:=S.P;unfold zH;split
 .exact ⟨S,M,hout⟩
 split
 .rename_i h7;obtain ⟨a1,a2,a3,a4,a5⟩:=M.c7 h7;obtain ⟨b1,b2,b3,b4,b5,b6⟩:=zyl h S (.inl rfl) a1 a2 a3 a4 a5;unfold zey;refine ⟨b1,?_,?_⟩
  .dsimp only;split<;>exact ⟨M.who,fun e=>(by dsimp only at e;omega),fun e=>(by dsimp only at e;omega),fun e=>(by dsimp only at e;omega),fun _=>⟨b2,b3,b4,b5,b6⟩⟩
  .dsimp only;split<;>exact fun e=>by dsimp only at e;omega
 split
 .rename_i h6;obtain ⟨a1,a2⟩:=M.b6 h6;unfold zAg;refine ⟨⟨hP,by simp only [zKZ];exact S.bins,S.nbk,S.mem,S.cF,S.cE,S.cL⟩,⟨M.who,fun e=>(by cases e),fun e=>(by cases e),fun e=>(by cases e),fun _=>⟨rfl,by rw [hP],by rw [hP],⟨a1,a2⟩,fun e=>zm e (show ¬(1:Int)<=0 by decide)⟩⟩,fun e=>by cases e⟩
 split
 .rename_i h5;obtain ⟨a1,a2,a3,a4,a5⟩:=M.c5 h5;obtain ⟨b1,b2,b3,b4,b5,b6⟩:=zCo h S (.inr rfl) a1 a2 a3 a4 a5 (hout h5);unfold znW;refine ⟨b1,?_,?_⟩
  .dsimp only;split
   .rename_i e1;exact ⟨M.who,fun e=>(by cases e),fun e=>(by cases e),fun _=>b6 e1,fun e=>(by cases e)⟩
   .split
    .rw [hP];exact MOk.ask M.who
    .rename_i e1 e2;exact ⟨M.who,fun e=>(by dsimp only at e;omega),fun _=>⟨b2,b3,b4,b5 e1 e2⟩,fun e=>(by dsimp only at e;omega),fun e=>(by dsimp only at e;omega)⟩
  .dsimp only;split
   .exact fun e=>by cases e
   .split
    .exact fun _ e=>by cases e
    .rename_i e1 e2;exact fun _=>e1
 split
 .rw [hP];exact ⟨⟨rfl,S.bins,S.nbk,S.mem,S.cF,S.cE,S.cL⟩,MOk.ask M.who,fun _ e=>by cases e⟩
 split
 .rename_i h3;obtain ⟨a1,a2,a3,a4⟩:=M.d3 h3;have hw:=M.who a4;obtain ⟨d1,d2,d3⟩:=Xb h hw.1 hw.2;have hc:=h.cap;have hf:=Ya h;have hs:SOk p nb {s with M:=(xk s.M g.D).1}:=by
   unfold xk;split
   .exact S
   split
   .exact S
   split
   .exact S
   split
   .have:=zuZ h hw.1 hw.2 a2 a3 g.D.B;exact S.low h (by omega) _
   .dsimp only;rw [yR];exact S.low h (by omega) _
  have hd:(xk s.M g.D).2.Kind=1/\(xk s.M g.D).2.Base=z6 p g.Who/\(xk s.M g.D).2.Cap=p.Cap:=by
   unfold xk;split
   .exact ⟨a1,a2,a3⟩
   split
   .exact ⟨a1,a2,a3⟩
   split
   .dsimp only;split<;>exact ⟨a1,a2,a3⟩
   split<;>exact ⟨a1,a2,a3⟩
  unfold znn;refine ⟨hs,?_,?_⟩
  .dsimp only;split
   .exact ⟨M.who,fun _=>⟨hd.1,hd.2.1,hd.2.2,a4⟩,fun e=>(by dsimp only at e;omega),fun e=>(by dsimp only at e;omega),fun e=>(by dsimp only at e;omega)⟩
   .split
    .rw [hP];exact MOk.ask M.who
    .exact ⟨M.who,fun _=>⟨hd.1,hd.2.1,hd.2.2,a4⟩,fun e=>(by dsimp only at e;omega),fun e=>(by dsimp only at e;omega),fun e=>(by dsimp only at e;omega)⟩
  .dsimp only;split
   .exact fun e=>by dsimp only at e;omega
   .split
    .exact fun _ e=>by cases e
    .exact fun e=>by dsimp only at e;omega
 split
 .rename_i h2;exact ⟨⟨hP,S.bins,S.nbk,S.mem,S.cF,S.cE,S.cL⟩,⟨M.who,fun e=>(by dsimp only at e;omega),fun e=>(by dsimp only at e;omega),fun e=>(by dsimp only at e;omega),fun e=>(by dsimp only at e;omega)⟩,fun e=>by dsimp only at e;omega⟩
 split
 .unfold znJ;refine ⟨⟨hP,S.bins,S.nbk,S.mem,S.cF,S.cE,S.cL⟩,?_,?_⟩
  .dsimp only;split
   .exact ⟨M.who,fun e=>(by cases e),fun e=>(by cases e),fun e=>(by cases e),fun e=>(by cases e)⟩
   split
   .exact ⟨M.who,fun _=>⟨rfl,by rw [hP],by rw [hP],by assumption⟩,fun e=>(by cases e),fun e=>(by cases e),fun e=>(by cases e)⟩
   split
   .exact ⟨M.who,fun e=>(by cases e),fun e=>(by cases e),fun e=>(by cases e),fun e=>(by cases e)⟩
   .rw [hP];exact MOk.ask M.who
  .dsimp only;split
   .exact fun e=>by cases e
   split
   .exact fun e=>by cases e
   split
   .exact fun e=>by cases e
   .exact fun _ e=>by cases e
 .exact ⟨⟨hP,S.bins,S.nbk,S.mem,S.cF,S.cE,S.cL⟩,⟨M.who,fun e=>(by cases e),fun e=>(by cases e),fun e=>(by cases e),fun e=>(by cases e)⟩,fun e=>by cases e⟩
theorem zaP (s:za) (g:zK):(zH s g).2.Obj=g.Obj/\(zH s g).2.Who=g.Who/\(zH s g).2.Mode=g.Mode:=by
 unfold zH;split
 .exact ⟨rfl,rfl,rfl⟩
 split
 .unfold zey;dsimp only;split<;>exact ⟨rfl,rfl,rfl⟩
 split
 .exact ⟨rfl,rfl,rfl⟩
 split
 .unfold znW;dsimp only;split
  .exact ⟨rfl,rfl,rfl⟩
  .split<;>exact ⟨rfl,rfl,rfl⟩
 split
 .exact ⟨rfl,rfl,rfl⟩
 split
 .unfold znn;dsimp only;split
  .exact ⟨rfl,rfl,rfl⟩
  .split<;>exact ⟨rfl,rfl,rfl⟩
 split
 .exact ⟨rfl,rfl,rfl⟩
 split
 .unfold znJ;dsimp only;split
  .exact ⟨rfl,rfl,rfl⟩
  split
  .exact ⟨rfl,rfl,rfl⟩
  split<;>exact ⟨rfl,rfl,rfl⟩
 .exact ⟨rfl,rfl,rfl⟩
def OkV (nb:Nat) (v:BitVec 64):Prop:=yI v<nb/\0<=v.toInt/\v.toInt<nb
theorem zBO {nb:Nat}(h:1<=nb):OkV nb 0#64:=by
 refine ⟨by rw [znR];simp;omega,by simp,by simp;omega⟩
theorem zxx {nb:Nat}{b:Int}(h:0<=b) (h2:b<nb) (h3:nb<1000):OkV nb (BitVec.ofInt 64 b):=by
 have e:(BitVec.ofInt 64 b).toNat=b.toNat:=by rw [zLu];omega
 refine ⟨by rw [znR,e];omega,?_⟩;rw [toInt_ofInt h (by omega)];omega
theorem zy4 {b:Int}(h:0<=b) (h2:b<4294967296):xN 0#64 b=BitVec.ofInt 64 b:=by
 have e:(BitVec.ofInt 64 b).toNat=b.toNat:=by rw [zLu];omega
 apply zLT;unfold xN;rw [BitVec.toNat_or,zLG,e];have:b.toNat&&&(4294967295#64).toNat=b.toNat:=(zMv b.toNat 32).trans (Nat.mod_eq_of_lt (by omega));rw [this];simp
def WQ (F:Int) (nb:Nat) (m:List (BitVec 64)):Prop:=∀a,F<=a->OkV nb (ld m a)
theorem WQ.st {F:Int}{nb:Nat}{m:List (BitVec 64)}(h:WQ F nb m) (a:Int) {v:BitVec 64}(hv:OkV nb v):WQ F nb (st m a v):=fun b hb=>by
 rw [Vp];split
 .exact hv
 .exact h b hb
theorem WQ.links {F:Int}{nb:Nat}(h1:1<=nb) (h3:nb<1000):∀(l:List Int) (m:List (BitVec 64)) (n:Int),(∀b∈l,0<=b/\b<nb)->WQ F nb m->WQ F nb (links m n l)
 | [],m,n,_,h=>h
 | [a],m,n,_,h=>h.st _ (zBO h1)
 | a::b::l,m,n,hb,h=>WQ.links h1 h3 (b::l) _ n (fun x hx=>hb x (zKJ _ hx)) (h.st _ (zxx (hb b (by simp)).1 (hb b (by simp)).2 h3))
theorem WQ.lay {F:Int}{nb:Nat}(h1:1<=nb) (h3:nb<1000) {l:List Int}{m:List (BitVec 64)}{hd n:Int}(hb:∀b∈l,0<=b/\b<nb) (h:WQ F nb m):WQ F nb (zes m hd n l):=by
 unfold zes;refine (WQ.links h1 h3 l m n hb h).st _ ?_;cases l with
 | nil=>rw [List.headD_nil,zy4 (by omega) (by omega)];exact zxx (by omega) (by omega) h3
 | cons a r =>
  have:=hb a (by simp);rw [List.headD_cons,zy4 this.1 (by omega)];exact zxx this.1 this.2 h3
theorem zhW {k:Nat}{b:Int}(h:b∈wa k):1<=b/\b<=k:=by
 unfold wa at h;obtain ⟨i,hi,rfl⟩:=zKP.1 h;have:=zK2.1 hi;omega
theorem zek {p:zd}(h:zJ p):(yi p:Int)=p.Most+p.Workers+p.Mutators/\2<=yi p/\yi p<=14:=by
 have:=h.most;have:=h.n;have:=h.wk;have:=h.mt;unfold yi;omega
theorem zDq {p:zd}(h:zJ p):SOk p (yi p+1) (xD p):=by
 have hb:=zek h;have hf:=zqv h;have hn:=h.n;have hw:=h.wk;have hc:=h.cap;have hmo:=h.most;have hF:=Ya h;have hE:=vd h;have hcl:=zaW p p.Workers.toNat;have hfe:yu p=((p.Workers.toNat*(p.Cap.toNat+2):Nat):Int):=by
  rw [hF.1];have e1:p.Workers=((p.Workers.toNat:Nat):Int):=by omega
  have e2:p.Cap+2=((p.Cap.toNat+2:Nat):Int):=by omega
  rw [e2,Int.natCast_mul];rw [<-e1]
 have h0:WQ (yu p) (yi p+1) (XA p p.Workers.toNat++List.replicate (2+yi p) 0#64):=by
  intro a ha;have:ld (XA p p.Workers.toNat++List.replicate (2+yi p) 0#64) a=0#64:=by
   unfold ld;rw [yf,zKD,zLb (by omega),zL4];split<;>rfl
  rw [this];exact zBO (by omega)
 have h1:WQ (yu p) (yi p+1) (xD p).M:=by
  refine WQ.lay (by omega) (by omega) (fun b hb'=>?_) (WQ.lay (by omega) (by omega) (fun b hb'=>?_) h0)
  .have:=zhW (List.mem_of_mem_drop hb');omega
  .have:=zhW (zL9 hb');omega
 have hlen:(xD p).M.length=p.Workers.toNat*(p.Cap.toNat+2)+(2+yi p):=by
  show (zes _ _ _ _).length=_;rw [zuD,zuD,zKO,hcl,zLg]
 refine ⟨rfl,?_,by omega,by rw [hlen];omega,(h1 _ (by omega)).1,(h1 _ (by omega)).1,fun a ha=>(h1 a (by omega)).2⟩;have hd:(xD p).Bins.length=1+(xH p).length+(yi p-(xH p).length):=by
  show ([[]]++xH p++List.replicate (yi p-(xH p).length) ([]:List Int)).length=_;rw [zKO,zKO,zLg];rfl
 have h2:=hb.1;have hmt:=h.mt;rw [hd];omega
def YE (mode obj who:Int):zK:=⟨0,mode,obj,who,⟨0,0,0,0,0#64,0#64,0,0⟩,⟨0,0,0,0,0#64,0,0,0⟩,0,0⟩
theorem zqe (a b c:Int):zck a b c=some (YE a b c,()):=by rw [zvG];rfl
def zkB (m:List (BitVec 64)) (d:zg):List (BitVec 64)×zg :=
 if d.PC<0\/7<=d.PC then (m,d)
 else if d.PC=0 then (m,{d with B:=ld m (wc (d.Base+1)),PC:=1})
 else if d.PC=1 then (st m (wc (d.Base+1)) (d.B-1#64),{d with PC:=2})
 else if d.PC=2 then (m,{d with T:=ld m d.Base,PC:=if 0<(ld m d.Base-(d.B-1#64)).toInt then 5 else 3})
 else if d.PC=3 then (m,{d with X:=(ld m (XB d (d.B-1#64))).toInt,PC:=4,Out:=if d.T=d.B-1#64 then d.Out else 1})
 else if d.PC=4 then ((sw m d.Base d.T (d.T+1#64)).1,{d with PC:=if (sw m d.Base d.T (d.T+1#64)).2 then 6 else 5})
 else if d.PC=5 then (st m (wc (d.Base+1)) d.B,{d with X:=0,Out:=2,PC:=6})
 else (st m (wc (d.Base+1)) d.B,{d with Out:=1,PC:=7})
def zcV (m:List (BitVec 64)) (d:zg):List (BitVec 64)×zg :=
 if d.PC<0\/4<=d.PC then (m,d)
 else if d.PC=0 then (m,{d with T:=ld m d.Base,PC:=1})
 else if d.PC=1 then (m,{d with B:=ld m (wc (d.Base+1)),PC:=2,Out:=if 0<(ld m (wc (d.Base+1))-d.T).toInt then d.Out else 2})
 else if d.PC=2 then (m,{d with X:=(ld m (XB d d.T)).toInt,PC:=3})
 else ((sw m d.Base d.T (d.T+1#64)).1,if (sw m d.Base d.T (d.T+1#64)).2 then {d with Out:=1,PC:=4} else {d with X:=0,Out:=4,PC:=4})
def yj (m:List (BitVec 64)) (d:zg):List (BitVec 64)×zg :=
 if d.Out≠0 then (m,d) else if d.Kind=1 then xk m d else if d.Kind=2 then zkB m d else if d.Kind=3 then zcV m d else (m,d)
theorem zCJ {m:List (BitVec 64)}{d:zg}(h:d.Kind=1):yj m d=xk m d:=by
 unfold yj;by_cases h0:d.Out≠0
 .rw [zb h0];unfold xk;rw [zb (.inl h0)]
 .rw [zc h0,zb h]
theorem zDv {α:Type}{x y:Option α}{v:α}(h:x=some v):Option.or x y=some v:=by subst h;rfl
theorem zlq {α:Type}{x y z:Option α}(h:x=none) (h2:y=z):Option.or x y=z:=by subst h;exact h2
theorem zG0:wc 1=1/\wc 2=2/\wc 3=3/\wc 4=4/\wc 5=5/\wc 6=6/\wc 7=7:=by decide
theorem zFK:w64 5=5/\w64 6=6/\w64 7=7:=by
 refine ⟨?_,?_,?_⟩<;>exact ya
theorem zD8 {m:List (BitVec 64)}(hm:m.length<4294967296) {d:zg}(hc:d.Cap<1000):zcn m d=some ((yj m d).1,(yj m d).2,()):=by
 by_cases k1:d.Kind=1
 .rw [zCJ k1];exact zn1 hm k1 hc
 obtain ⟨w0,w1,w2,w3,w4⟩:=zBQ;obtain ⟨w5,w6,w7⟩:=zFK;obtain ⟨v1,v2,v3,v4,v5,v6,v7⟩:=zG0;have hsb:∀d:zg,vK m d=some (m,{d with B:=ld m (wc (d.Base+1))},()):=fun d=>by
  rw [Vw,xW,xU,zKA,Xe];rfl
 have htk:∀d:zg,Wo m d=some ((sw m d.Base d.T (d.T+1#64)).1,(sw m d.Base d.T (d.T+1#64)).2,()):=fun d=>by
  obtain ⟨v,hv⟩:=zxj hm d.Base d.T (d.T+1#64);rw [zmQ,ZO,zKA,hv];rfl
 rw [znp,zkk,zti,ztK,ztx];simp only [zr,yq,zc k1];unfold yj;by_cases k2:d.Kind=2
 .refine zlq (by simp [k2]) (zDv ?_);rw [zb k2,zKA];by_cases g0:d.Out=0;rotate_left
  .rw [zc g0,zb (show d.Out≠0 from g0)]
  rw [zb g0,zc (show ¬(d.Out≠0) from fun e=>e g0),zc k1,zb k2];unfold zkB;by_cases g1:d.PC<0
  .rw [zb g1,zb (.inl g1)]
  rw [zc g1];by_cases g2:7<=d.PC
  .rw [zb g2,zb (.inr g2)]
  rw [zc g2,zc (show ¬(d.PC<0\/7<=d.PC) by omega)];have hpc:d.PC=0\/d.PC=1\/d.PC=2\/d.PC=3\/d.PC=4\/d.PC=5\/d.PC=6:=by omega
  rcases hpc with h | h | h | h | h | h | h
  .simp [h,hsb,w1]
  .simp [h,zlK,xW,xU,zdW hm,v1,v2,v3,v4,v5,v6,v7]
  .rw [h,zc (by decide),zc (by decide),zc (by decide),zc (by decide),zb rfl,zc (by decide),zc (by decide),zb rfl];simp only [zhF,ZO,zKA,Xe,zem,zr];by_cases hs:0<(ld m d.Base-(d.B-1#64)).toInt
   .simp only [zb hs,zKA,Int.reduceAdd,w5]
   .simp only [zc hs,zKA,h,Int.reduceAdd,w3]
  .simp only [h,zk6,zie hc,zKA,Xe,yq,vr];by_cases hs:d.T=d.B-1#64
   .simp [hs,w4,h]
   .simp [hs,w4,h]
  .simp only [h,zjQ,htk,zKA];cases hs:(sw m d.Base d.T (d.T+1#64)).2 with
   | true=>simp [hs,w6,h]
   | false=>simp [hs,w5,h]
  .simp [h,zj9,vr,k1,xW,xU,zdW hm,v1,v2,v3,v4,v5,v6,v7]
  .simp [h,zlc,vr,xW,xU,zdW hm,v1,v2,v3,v4,v5,v6,v7]
 by_cases k3:d.Kind=3
 .refine zlq (by simp [k2,k3]) (zlq (by simp [k2,k3]) (zDv ?_));rw [zc k2,zb k3,zKA];by_cases g0:d.Out=0;rotate_left
  .rw [zc g0,zb (show d.Out≠0 from g0)]
  rw [zb g0,zc (show ¬(d.Out≠0) from fun e=>e g0),zc k1,zc k2,zb k3];unfold zcV;by_cases g1:d.PC<0
  .rw [zb g1,zb (.inl g1)]
  rw [zc g1];by_cases g2:4<=d.PC
  .rw [zb g2,zb (.inr g2)]
  rw [zc g2,zc (show ¬(d.PC<0\/4<=d.PC) by omega)];have hpc:d.PC=0\/d.PC=1\/d.PC=2\/d.PC=3:=by omega
  rcases hpc with h | h | h | h
  .simp [h,zlj,ZO,Xe,w1]
  .rw [h,zc (by decide),zc (by decide),zb rfl,zc (by decide),zb rfl];simp only [zk3,xW,zKA,Xe,zem,yq,xU];by_cases hs:0<(ld m (wc (d.Base+1))-d.T).toInt
   .simp only [zb hs,zKA,Int.reduceAdd,v2,h]
   .simp only [zc hs,zKA,Int.reduceAdd,v2,h]
  .simp [h,zjM,zie hc,Xe,w3]
  .simp only [h,zhw,htk,zKA,vr];cases hs:(sw m d.Base d.T (d.T+1#64)).2 with
   | true=>simp [hs,w4,h]
   | false=>simp [hs,w4,h,k1]
 .refine zlq (by simp [k2,k3]) (zlq (by simp [k2,k3]) (zlq (by simp [k2,k3]) ?_));rw [zc k2,zc k3,zKA];by_cases g0:d.Out=0
  .simp [g0,k1,k2,k3]
  .simp [g0]
theorem zEI (m:List (BitVec 64)) (d:zg):(zkB m d).1.length=m.length/\(zkB m d).2.Kind=d.Kind/\(zkB m d).2.Base=d.Base/\(zkB m d).2.Cap=d.Cap:=by
 unfold zkB sw st;split
 .exact ⟨rfl,rfl,rfl,rfl⟩
 split
 .exact ⟨rfl,rfl,rfl,rfl⟩
 split
 .refine ⟨?_,rfl,rfl,rfl⟩;dsimp only;split<;>simp
 split
 .exact ⟨rfl,rfl,rfl,rfl⟩
 split
 .exact ⟨rfl,rfl,rfl,rfl⟩
 split
 .refine ⟨?_,rfl,rfl,rfl⟩;dsimp only;split<;>(try split)<;>simp
 split<;>(refine ⟨?_,rfl,rfl,rfl⟩;dsimp only;split<;>simp)
theorem zBY (m:List (BitVec 64)) (d:zg):(zcV m d).1.length=m.length/\(zcV m d).2.Kind=d.Kind/\(zcV m d).2.Base=d.Base/\(zcV m d).2.Cap=d.Cap:=by
 unfold zcV sw st;split
 .exact ⟨rfl,rfl,rfl,rfl⟩
 split
 .exact ⟨rfl,rfl,rfl,rfl⟩
 split
 .exact ⟨rfl,rfl,rfl,rfl⟩
 split
 .exact ⟨rfl,rfl,rfl,rfl⟩
 .refine ⟨?_,?_,?_,?_⟩<;>dsimp only<;>split<;>(try split)<;>simp
def zR (h:zw) (o:Int):List Int:=h.Objs.getD (o-1).toNat []
def yy (h:zw) (o s:Int):Bool:=decide (1<=o)&&decide (o<=(h.Objs.length:Int))&&decide (0<=s)&&decide (s<((zR h o).length:Int))
def zW (h:zw) (o s:Int):Int:=if yy h o s then (zR h o).getD s.toNat 0 else 0
def zO (s:BitVec 64) (o:Int):Bool:= !(decide (s&&&bit o=0#64))
def yp (t:zo) (o:Int):Int:=if zO (t.Marks&&&t.Black) o then 2 else if zO t.Marks o then 1 else 0
def xm (t:zo) (o:Int):zo:=if yp t o=1 then {t with Black:=t.Black|||bit o} else t
def Ug (l:zy) (who:Int):zy :=
 if 1<=who/\who<=(l.Bal.length:Int) then {l with Scanned:=wc (l.Scanned+1),Bal:=l.Bal.set (who-1).toNat (wc (l.Bal.getD (who-1).toNat 0+1))}
 else {l with Scanned:=wc (l.Scanned+1),Pool:=wc (l.Pool+1)}
def VY (s:za) (b:Int):List Int:=s.Bins.getD b.toNat []
def zD6 (p:zd) (h x:Int):zV:=⟨2,0,h,zU p,0#64,x,0,0⟩
def zcS (p:zd) (h x:Int):zV:=⟨1,0,h,zU p,0#64,x,0,0⟩
def onW (s:za) (slot:Int):Int:=if slot=s.H.Slots then 8 else 5
def zah (p:zd) (w:Int) (x:zj):zj:={x with PC:=0,Victim:=w,D:=⟨2,0,z6 p w,p.Cap,0#64,0#64,0,0⟩}
def zld (n v:Int):Int:=if v<n then v+1 else 1
def Yi (p:zd) (w:Int) (x:zj):zj :=
 if zld p.Workers x.Victim=w then {x with PC:=2,Victim:=w,C:=zD6 p (yu p) 0}
 else {x with PC:=1,Victim:=zld p.Workers x.Victim,D:=⟨3,0,z6 p (zld p.Workers x.Victim),p.Cap,0#64,0#64,0,0⟩}
def zx (s:za) (w:Int) (x:zj):za×zj :=
 if x.PC=0\/x.PC=1 then
  ({s with M:=(yj s.M x.D).1},
   if (yj s.M x.D).2.Out=1 then {x with D:=(yj s.M x.D).2,Victim:=w,PC:=5,Obj:=(yj s.M x.D).2.X,Slot:=0}
   else if (yj s.M x.D).2.Out=2\/(yj s.M x.D).2.Out=4 then Yi s.P w {x with D:=(yj s.M x.D).2} else {x with D:=(yj s.M x.D).2})
 else if x.PC=2 then
  ({s with M:=(zD s.M x.C).1},
   if (zD s.M x.C).2.Out=1 then {x with C:=(zD s.M x.C).2,Bin:=(zD s.M x.C).2.X,PC:=3}
   else if (zD s.M x.C).2.Out=2 then zah s.P w {x with C:=(zD s.M x.C).2} else {x with C:=(zD s.M x.C).2})
 else if x.PC=3 then ({s with Bins:=s.Bins.set x.Bin.toNat []},{x with Batch:=VY s x.Bin,PC:=4,C:=zcS s.P (zU s.P) x.Bin})
 else if x.PC=4 then
  ({s with M:=(zD s.M x.C).1},if (zD s.M x.C).2.Out=1 then {x with C:=(zD s.M x.C).2,Bin:=0,PC:=7} else {x with C:=(zD s.M x.C).2})
 else if x.PC=5 then
  (s,if zW s.H x.Obj x.Slot=0 then {x with Slot:=wc (x.Slot+1),PC:=onW s (wc (x.Slot+1))} else {x with Slot:=wc (x.Slot+1),PC:=6,G:=YE 1 (zW s.H x.Obj x.Slot) w})
 else if x.PC=6 then ((zH s x.G).1,if (zH s x.G).2.Out=1 then {x with G:=(zH s x.G).2,PC:=onW s x.Slot} else {x with G:=(zH s x.G).2})
 else if x.PC=7 then (s,match x.Batch with | []=>zah s.P w x | o::l=>{x with Batch:=l,PC:=5,Obj:=o,Slot:=0})
 else if x.PC=8 then ({s with T:=xm s.T x.Obj,L:=Ug s.L 0},{x with PC:=9})
 else if x.PC=9 then ({s with Work:=wc (s.Work-1)},{x with Obj:=0,PC:=7})
 else (s,x)
def zS (s:za) (w:Int):za :=
 if s.Done=true\/w<1\/(s.Ws.length:Int)<w then s
 else match s.Ws[(w-1).toNat]? with
  | some x=>{(zx s w x).1 with Ws:=s.Ws.set (w-1).toNat (zx s w x).2}
  | none=>s
structure zEF (p:zd) (nb:Nat) (hd:Int) (c:zV):Prop where
 k:c.Kind=2
 h:c.Head=hd
 n:c.Next=zU p
 v:1<=c.PC->1<=yI c.H/\yI c.H<nb
 y:2<=c.PC->0<=c.Y/\c.Y<nb
 o:c.Out≠1
structure zB1 (p:zd) (nb:Nat) (hd:Int) (c:zV):Prop where
 k:c.Kind=1
 h:c.Head=hd
 n:c.Next=zU p
 x:1<=c.X/\c.X<nb
 v:1<=c.PC->yI c.H<nb
theorem zDz {p:zd}{nb:Nat}{hd x:Int}:zEF p nb hd (zD6 p hd x) :=
 ⟨rfl,rfl,rfl,fun e=>zm e (by show ¬(1:Int)<=0;decide),fun e=>zm e (by show ¬(2:Int)<=0;decide),by show (0:Int)≠1;decide⟩
theorem zAl {p:zd}{nb:Nat}{hd x:Int}(h:1<=x/\x<nb):zB1 p nb hd (zcS p hd x) :=
 ⟨rfl,rfl,rfl,h,fun e=>zm e (by show ¬(1:Int)<=0;decide)⟩
structure WOk (p:zd) (nb:Nat) (w:Int) (x:zj):Prop where
 pc:0<=x.PC/\x.PC<=9
 vic:1<=x.Victim/\x.Victim<=p.Workers
 d0:x.PC=0->x.D.Kind=2/\x.D.Base=z6 p w/\x.D.Cap=p.Cap
 d1:x.PC=1->x.D.Kind=3/\x.D.Base=z6 p x.Victim/\x.D.Cap=p.Cap
 c2:x.PC=2->zEF p nb (yu p) x.C
 b3:x.PC=3->1<=x.Bin/\x.Bin<nb
 c4:x.PC=4->zB1 p nb (zU p) x.C
 g6:x.PC=6->MOk p nb x.G/\(x.G.PC=5->x.G.C.Out≠1)/\x.G.Mode=1/\x.G.PC≠4
theorem WOk.plain {p:zd}{nb:Nat}{w:Int}{x:zj}(pc:x.PC=5\/x.PC=7\/x.PC=8\/x.PC=9) (vic:1<=x.Victim/\x.Victim<=p.Workers):WOk p nb w x :=
 ⟨by omega,vic,fun e=>by omega,fun e=>by omega,fun e=>by omega,fun e=>by omega,fun e=>by omega,fun e=>by omega⟩
theorem SOk.swLow {p:zd}{nb:Nat}{s:za}(h:zJ p) (S:SOk p nb s) {a:Int}(ha:a<yu p) (x v:BitVec 64):SOk p nb {s with M:=(sw s.M a x v).1}:=by
 unfold sw;split
 .exact S.low h ha v
 .exact S
theorem zJN {p:zd}{nb:Nat}{s:za}(h:zJ p) (S:SOk p nb s) {d:zg}{v:Int}(hv:1<=v/\v<=p.Workers) (hk:d.Kind=2\/d.Kind=3) (hb:d.Base=z6 p v):SOk p nb {s with M:=(yj s.M d).1}:=by
 have hd:=Xb h hv.1 hv.2;have hc:=h.cap;have hf:=Ya h;have e1:wc (d.Base+1)=d.Base+1:=yR;unfold yj;split
 .exact S
 split
 .omega
 split
 .unfold zkB;rw [e1];split
  .exact S
  split
  .exact S
  split
  .exact S.low h (by omega) _
  split
  .exact S
  split
  .exact S
  split
  .exact S.swLow h (by omega) _ _
  split<;>exact S.low h (by omega) _
 split
 .unfold zcV;split
  .exact S
  split
  .exact S
  split
  .exact S
  split
  .exact S
  .exact S.swLow h (by omega) _ _
 .exact S
theorem zoI (m:List (BitVec 64)) (d:zg):(yj m d).1.length=m.length/\(yj m d).2.Kind=d.Kind/\(yj m d).2.Base=d.Base/\(yj m d).2.Cap=d.Cap:=by
 unfold yj;split
 .exact ⟨rfl,rfl,rfl,rfl⟩
 split
 .unfold xk;split
  .exact ⟨rfl,rfl,rfl,rfl⟩
  split
  .exact ⟨rfl,rfl,rfl,rfl⟩
  split
  .refine ⟨rfl,?_,?_,?_⟩<;>dsimp only<;>split<;>rfl
  split<;>exact ⟨Yv _ _ _,rfl,rfl,rfl⟩
 split
 .exact zEI m d
 split
 .exact zBY m d
 .exact ⟨rfl,rfl,rfl,rfl⟩
theorem zGR {n v:Int}(h:1<=v/\v<=n):1<=zld n v/\zld n v<=n:=by unfold zld;split<;>omega
theorem WOk.look {p:zd}{nb:Nat}{w:Int}{x:zj}(hw:1<=w/\w<=p.Workers) (vic:1<=x.Victim/\x.Victim<=p.Workers):WOk p nb w (Yi p w x):=by
 have hn:=zGR vic;unfold Yi;split
 .exact ⟨⟨(by show (0:Int)<=2;decide),(by show (2:Int)<=9;decide)⟩,hw,fun e=>(by cases e),fun e=>(by cases e),fun _=>zDz,fun e=>(by cases e),fun e=>(by cases e),fun e=>(by cases e)⟩
 .exact ⟨⟨(by show (0:Int)<=1;decide),(by show (1:Int)<=9;decide)⟩,hn,fun e=>(by cases e),fun _=>⟨rfl,rfl,rfl⟩,fun e=>(by cases e),fun e=>(by cases e),fun e=>(by cases e),fun e=>(by cases e)⟩
theorem WOk.begin {p:zd}{nb:Nat}{w:Int}{x:zj}(hw:1<=w/\w<=p.Workers):WOk p nb w (zah p w x) :=
 ⟨⟨(by show (0:Int)<=0;decide),(by show (0:Int)<=9;decide)⟩,hw,fun _=>⟨rfl,rfl,rfl⟩,fun e=>(by cases e),fun e=>(by cases e),fun e=>(by cases e),fun e=>(by cases e),fun e=>(by cases e)⟩
theorem zDy (s:za) {g:zK}(h1:g.Mode=1) (h4:g.PC≠4):(zH s g).2.PC≠4/\(zH s g).1.Flag=s.Flag:=by
 have five:(5:Int)≠4:=by decide
 unfold zH;split
 .exact ⟨h4,rfl⟩
 split
 .refine ⟨?_,rfl⟩;unfold zey;dsimp only;split<;>exact h4
 split
 .exact ⟨(by show (7:Int)≠4;decide),rfl⟩
 split
 .refine ⟨?_,rfl⟩;unfold znW;dsimp only;split
  .show (6:Int)≠4;decide
  split
  .exact five
  .exact h4
 split
 .refine ⟨?_,rfl⟩;unfold znn;dsimp only;split
  .exact h4
  split
  .exact five
  .exact h4
 split
 .exact ⟨h4,rfl⟩
 split
 .refine ⟨?_,rfl⟩;unfold znJ;dsimp only;split
  .show (2:Int)≠4;decide
  .show (3:Int)≠4;decide
 .exact ⟨(by show (1:Int)≠4;decide),rfl⟩
theorem zlt (s:za) (i:Int):onW s i=5\/onW s i=8:=by unfold onW;split<;>simp
theorem SOk.keep {p:zd}{nb:Nat}{s s':za}(S:SOk p nb s) (hP:s'.P=s.P) (hM:s'.M=s.M) (hB:s'.Bins.length=s.Bins.length):SOk p nb s' :=
 ⟨hP.trans S.P,hB.trans S.bins,S.nbk,by rw [hM];exact S.mem,by rw [hM];exact S.cF,by rw [hM];exact S.cE,by rw [hM];exact S.cL⟩
theorem zDH {p:zd}{nb:Nat}{s:za}{w:Int}{x:zj}(h:zJ p) (hw:1<=w/\w<=p.Workers) (S:SOk p nb s) (W:WOk p nb w x):SOk p nb (zx s w x).1/\WOk p nb w (zx s w x).2:=by
 have hP:=S.P;unfold zx;split
 .rename_i h01;have hv:∃v,(1<=v/\v<=p.Workers)/\(x.D.Kind=2\/x.D.Kind=3)/\x.D.Base=z6 p v:=by
   rcases h01 with e | e
   .obtain ⟨a,b,c⟩:=W.d0 e;exact ⟨w,hw,.inl a,b⟩
   .obtain ⟨a,b,c⟩:=W.d1 e;exact ⟨x.Victim,W.vic,.inr a,b⟩
  obtain ⟨v,hv1,hv2,hv3⟩:=hv;refine ⟨zJN h S hv1 hv2 hv3,?_⟩;obtain ⟨l1,l2,l3,l4⟩:=zoI s.M x.D;dsimp only;split
  .exact WOk.plain (.inl rfl) hw
  split
  .rw [hP];exact WOk.look hw W.vic
  .refine ⟨W.pc,W.vic,fun e=>?_,fun e=>?_,fun e=>by dsimp only at e;omega,fun e=>by dsimp only at e;omega,fun e=>by dsimp only at e;omega,fun e=>by dsimp only at e;omega⟩
   .obtain ⟨a,b,c⟩:=W.d0 e;exact ⟨l2.trans a,l3.trans b,l4.trans c⟩
   .obtain ⟨a,b,c⟩:=W.d1 e;exact ⟨l2.trans a,l3.trans b,l4.trans c⟩
 split
 .rename_i h2;have C:=W.c2 h2;obtain ⟨b1,b2,b3,b4,b5,b6⟩:=zCo h S (.inl rfl) C.k C.h C.n C.v C.y C.o;refine ⟨b1,?_⟩;dsimp only;split
  .rename_i e1;exact ⟨⟨(by show (0:Int)<=3;decide),(by show (3:Int)<=9;decide)⟩,W.vic,fun e=>(by cases e),fun e=>(by cases e),fun e=>(by cases e),fun _=>b6 e1,fun e=>(by cases e),fun e=>(by cases e)⟩
  split
  .rw [hP];exact WOk.begin hw
  .rename_i e1 e2;exact ⟨W.pc,W.vic,fun e=>(by dsimp only at e;omega),fun e=>(by dsimp only at e;omega),fun _=>⟨b2,b3,b4,(b5 e1 e2).1,(b5 e1 e2).2,e1⟩,fun e=>(by dsimp only at e;omega),fun e=>(by dsimp only at e;omega),fun e=>(by dsimp only at e;omega)⟩
 split
 .rename_i h3;have B:=W.b3 h3;refine ⟨S.keep rfl rfl (by simp),?_⟩;rw [hP];exact ⟨⟨(by show (0:Int)<=4;decide),(by show (4:Int)<=9;decide)⟩,W.vic,fun e=>(by cases e),fun e=>(by cases e),fun e=>(by cases e),fun e=>(by cases e),fun _=>zAl B,fun e=>(by cases e)⟩
 split
 .rename_i h4;have C:=W.c4 h4;obtain ⟨b1,b2,b3,b4,b5,b6⟩:=zyl h S (.inr rfl) C.k C.h C.n C.x C.v;refine ⟨b1,?_⟩;dsimp only;split
  .exact WOk.plain (.inr (.inl rfl)) W.vic
  .exact ⟨W.pc,W.vic,fun e=>(by dsimp only at e;omega),fun e=>(by dsimp only at e;omega),fun e=>(by dsimp only at e;omega),fun e=>(by dsimp only at e;omega),fun _=>⟨b2,b3,b4,b5,b6⟩,fun e=>(by dsimp only at e;omega)⟩
 split
 .refine ⟨S,?_⟩;dsimp only;split
  .rcases zlt s (wc (x.Slot+1)) with e | e<;>rw [e]
   .exact WOk.plain (.inl rfl) W.vic
   .exact WOk.plain (.inr (.inr (.inl rfl))) W.vic
  .exact ⟨⟨(by show (0:Int)<=6;decide),(by show (6:Int)<=9;decide)⟩,W.vic,fun e=>(by cases e),fun e=>(by cases e),fun e=>(by cases e),fun e=>(by cases e),fun e=>(by cases e),fun _ =>
    ⟨⟨fun _=>hw,fun e=>(by cases e),fun e=>(by cases e),fun e=>(by cases e),fun e=>(by cases e)⟩,fun e=>(by cases e),rfl,by show (0:Int)≠4;decide⟩⟩
 split
 .rename_i h6;obtain ⟨g1,g2,g3,g4⟩:=W.g6 h6;obtain ⟨r1,r2,r3⟩:=ztc h S g1 g2;refine ⟨r1,?_⟩;dsimp only;split
  .rcases zlt s x.Slot with e | e<;>rw [e]
   .exact WOk.plain (.inl rfl) W.vic
   .exact WOk.plain (.inr (.inr (.inl rfl))) W.vic
  .exact ⟨W.pc,W.vic,fun e=>(by dsimp only at e;omega),fun e=>(by dsimp only at e;omega),fun e=>(by dsimp only at e;omega),fun e=>(by dsimp only at e;omega),fun e=>(by dsimp only at e;omega),fun _=>⟨r2,r3,(zaP s x.G).2.2.trans g3,(zDy s g3 g4).1⟩⟩
 split
 .refine ⟨S,?_⟩;dsimp only;split
  .rw [hP];exact WOk.begin hw
  .exact WOk.plain (.inl rfl) W.vic
 split
 .exact ⟨S.keep rfl rfl rfl,WOk.plain (.inr (.inr (.inr rfl))) W.vic⟩
 split
 .exact ⟨S.keep rfl rfl rfl,WOk.plain (.inr (.inl rfl)) W.vic⟩
 .have:=W.pc;omega
def xL (h:zw) (o s v:Int):zw :=
 if yy h o s=true/\0<=v/\v<=(h.Objs.length:Int) then {h with Objs:=h.Objs.set (o-1).toNat ((zR h o).set s.toNat v)} else h
def ZL (h:zw) (most:Int):Bool:=decide ((h.Objs.length:Int)<most)&&decide ((h.Objs.length:Int)<64)
def yO (h:zw):zw:={h with Objs:=h.Objs++[List.replicate h.Slots.toNat 0]}
def Y0 (t:zo) (o:Int):zo:=if (shade t o).2=true then xm (shade t o).1 o else t
def UV (l:zy) (who:Int):Int:=l.Bal.getD (who-1).toNat 0
def Ud (l:zy) (who:Int):Bool:=decide (1<=who)&&decide (who<=(l.Bal.length:Int))
def zac (l:zy) (who price limit:Int):Bool:=Ud l who&&decide (0<=price)&&decide (0<=limit)&&decide (price<=1000000)&&decide (limit<=1000000)
def zcs (l:zy) (who price limit:Int):Bool:=zac l who price limit&&decide (wc (-limit)<=wc (UV l who-price))
def VX (l:zy) (who price:Int):zy:={l with Spent:=wc (l.Spent+price),Bal:=l.Bal.set (who-1).toNat (wc (UV l who-price))}
def zrP (l:zy) (who price limit:Int):Int:=if zac l who price limit then (if zcs l who price limit then 0 else wc (wc (price-limit)-UV l who)) else -1
def zhJ (a b:Int):Int:=if b<a then b else a
def UR (l:zy) (who want:Int):zy×Int :=
 if Ud l who=true/\0<zhJ want l.Pool then ({l with Pool:=wc (l.Pool-zhJ want l.Pool),Bal:=l.Bal.set (who-1).toNat (wc (UV l who+zhJ want l.Pool))},zhJ want l.Pool) else (l,0)
def vJ (p:zd) (m:Int):List zE:=p.Progs.getD (m-1).toNat []
def opM (p:zd) (m:Int) (x:ze):zE:=(vJ p m).getD x.IP.toNat ⟨0,0,0,0⟩
def wV (x:ze) (r:Int):Int:=x.Regs.getD r.toNat 0
def vZ (x:ze):ze:={x with PC:=0,IP:=wc (x.IP+1)}
def setM (x:ze) (r v:Int):ze:={x with PC:=0,IP:=wc (x.IP+1),Regs:=x.Regs.set r.toNat v}
def onM (s:za) (slot:Int):Int:=if slot=s.H.Slots then 38 else 36
def zs9 (s:za) (m:Int) (x:ze):Int:=zW s.H (wV x (opM s.P m x).A) (opM s.P m x).S
def zai (s:za) (m:Int) (x:ze):ze :=
 if s.Acks.getD (m-1).toNat 0<s.Epoch then {x with PC:=1,Ret:=2,Want:=s.Epoch}
 else if ((vJ s.P m).length:Int)<=x.IP then x
 else if (opM s.P m x).Kind=1 then {x with PC:=10}
 else if (opM s.P m x).Kind=2 then {x with PC:=20}
 else if (opM s.P m x).Kind=3 then {x with PC:=30}
 else if (opM s.P m x).Kind=4 then setM x (opM s.P m x).R (wV x (opM s.P m x).A)
 else setM x (opM s.P m x).R 0
def mu0 (s:za) (m:Int) (x:ze):za×ze :=
 (s,zai s m x)
def mu1 (s:za) (m:Int) (x:ze):za×ze :=
 (s,if x.Buf.length=0 then {x with PC:=x.Ret} else {x with PC:=3,Buf:=x.Buf.take (x.Buf.length-1),G:=YE 2 (x.Buf.getD (x.Buf.length-1) 0) m})
def mu2 (s:za) (m:Int) (x:ze):za×ze :=
 ({s with Acks:=s.Acks.set (m-1).toNat x.Want},{x with PC:=0})
def mu3 (s:za) (m:Int) (x:ze):za×ze :=
 ((zH s x.G).1,if (zH s x.G).2.Out=1 then {x with PC:=1,G:=(zH s x.G).2} else {x with G:=(zH s x.G).2})
def zjU (s:za) (m:Int) (x:ze):za×ze :=
 (s,setM x (opM s.P m x).R (zs9 s m x))
def zfl (s:za) (m:Int) (x:ze):za×ze :=
 (s,if wV x (opM s.P m x).A=0 then vZ x else {x with PC:=21,Old:=zs9 s m x})
def zf2 (s:za) (m:Int) (x:ze):za×ze :=
 (s,if x.Old=0\/yp s.T x.Old≠0 then {x with PC:=23,Old:=0} else {x with PC:=22})
def zff (s:za) (m:Int) (x:ze):za×ze :=
 (s,if s.P.Buf<=(x.Buf.length:Int) then {x with PC:=1,Ret:=22} else {x with PC:=23,Old:=0,Buf:=x.Buf++[x.Old]})
def zhi (s:za) (m:Int) (x:ze):za×ze :=
 ({s with H:=xL s.H (wV x (opM s.P m x).A) (opM s.P m x).S (wV x (opM s.P m x).R)},vZ x)
def UL (s:za) (m:Int) (x:ze):za×ze :=
   if zcs s.L m s.P.Price s.P.Limit=true then
   if ZL s.H s.P.Most=true then ({s with L:=VX s.L m s.P.Price,H:=yO s.H,T:=Y0 s.T (wc (s.H.Objs.length+1))},setM x (opM s.P m x).R (wc (s.H.Objs.length+1)))
   else (s,vZ x)
  else (s,{x with PC:=31})
def zfG (s:za) (m:Int) (x:ze):za×ze :=
   ({s with L:=(UR s.L m (zrP s.L m s.P.Price s.P.Limit)).1},if (UR s.L m (zrP s.L m s.P.Price s.P.Limit)).2=0 then {x with PC:=32,C:=zD6 s.P (yu s.P) x.Bin} else {x with PC:=0})
def zfW (s:za) (m:Int) (x:ze):za×ze :=
   ({s with M:=(zD s.M x.C).1},if (zD s.M x.C).2.Out=1 then {x with PC:=33,Bin:=(zD s.M x.C).2.X,C:=(zD s.M x.C).2}
   else if (zD s.M x.C).2.Out=2 then {x with PC:=0,C:=(zD s.M x.C).2} else {x with C:=(zD s.M x.C).2})
def zjS (s:za) (m:Int) (x:ze):za×ze :=
 ({s with Bins:=s.Bins.set x.Bin.toNat []},{x with Batch:=VY s x.Bin,PC:=34,C:=zcS s.P (zU s.P) x.Bin})
def zfN (s:za) (m:Int) (x:ze):za×ze :=
   ({s with M:=(zD s.M x.C).1},if (zD s.M x.C).2.Out=1 then {x with C:=(zD s.M x.C).2,Bin:=0,PC:=35} else {x with C:=(zD s.M x.C).2})
def zfB (s:za) (m:Int) (x:ze):za×ze :=
 (s,match x.Batch with | []=>{x with PC:=0} | o::l=>{x with PC:=36,Obj:=o,Slot:=0,Batch:=l})
def zfE (s:za) (m:Int) (x:ze):za×ze :=
   (s,if zW s.H x.Obj x.Slot=0 then {x with Slot:=wc (x.Slot+1),PC:=onM s (wc (x.Slot+1))} else {x with Slot:=wc (x.Slot+1),PC:=37,G:=YE 3 (zW s.H x.Obj x.Slot) m})
def za9 (s:za) (m:Int) (x:ze):za×ze :=
 ((zH s x.G).1,if (zH s x.G).2.Out=1 then {x with G:=(zH s x.G).2,PC:=onM s x.Slot} else {x with G:=(zH s x.G).2})
def zhh (s:za) (m:Int) (x:ze):za×ze :=
 ({s with T:=xm s.T x.Obj,L:=Ug s.L m},{x with PC:=39})
def zlS (s:za) (m:Int) (x:ze):za×ze :=
 ({s with Work:=wc (s.Work-1)},{x with Obj:=0,PC:=35})
def zu (s:za) (m:Int) (x:ze):za×ze :=
 if x.PC=0 then mu0 s m x
 else if x.PC=1 then mu1 s m x
 else if x.PC=2 then mu2 s m x
 else if x.PC=3 then mu3 s m x
 else if x.PC=10 then zjU s m x
 else if x.PC=20 then zfl s m x
 else if x.PC=21 then zf2 s m x
 else if x.PC=22 then zff s m x
 else if x.PC=23 then zhi s m x
 else if x.PC=30 then UL s m x
 else if x.PC=31 then zfG s m x
 else if x.PC=32 then zfW s m x
 else if x.PC=33 then zjS s m x
 else if x.PC=34 then zfN s m x
 else if x.PC=35 then zfB s m x
 else if x.PC=36 then zfE s m x
 else if x.PC=37 then za9 s m x
 else if x.PC=38 then zhh s m x
 else if x.PC=39 then zlS s m x
 else (s,x)
def zQ (s:za) (m:Int):za :=
 if s.Done=true\/m<1\/(s.Ms.length:Int)<m then s
 else match s.Ms[(m-1).toNat]? with
  | some x=>{(zu s m x).1 with Ms:=s.Ms.set (m-1).toNat (zu s m x).2}
  | none=>s
def zh4 (p:zd) (m:Int):Nat:=(p.Regs.getD (m-1).toNat []).length
structure XOk (p:zd) (nb:Nat) (m:Int) (x:ze):Prop where
 pc:(0<=x.PC/\x.PC<=3)\/x.PC=10\/(20<=x.PC/\x.PC<=23)\/(30<=x.PC/\x.PC<=39)
 regs:x.Regs.length=zh4 p m
 ip:0<=x.IP/\x.IP<=((vJ p m).length:Int)
 op:(10<=x.PC/\x.PC<=30)\/((x.PC=1\/x.PC=3)/\x.Ret=22)->x.IP<((vJ p m).length:Int)
 ret:x.PC=1\/x.PC=3->x.Ret=2\/x.Ret=22
 c32:x.PC=32->zEF p nb (yu p) x.C
 b33:x.PC=33->1<=x.Bin/\x.Bin<nb
 c34:x.PC=34->zB1 p nb (zU p) x.C
 bin:x.PC≠33->x.PC≠34->x.Bin=0
 g:x.PC=3\/x.PC=37->MOk p nb x.G/\(x.G.PC=5->x.G.C.Out≠1)/\x.G.Mode≠1
 buf:(x.Buf.length:Int)<=p.Buf
theorem XOk.move {p:zd}{nb:Nat}{m:Int}{x y:ze}(X:XOk p nb m x) (h:x.PC≠33/\x.PC≠34) (pc:y.PC=0\/y.PC=2\/y.PC=10\/(20<=y.PC/\y.PC<=23)\/y.PC=30\/y.PC=31\/y.PC=35\/y.PC=36\/y.PC=38\/y.PC=39)
  (regs:y.Regs.length=x.Regs.length) (bin:y.Bin=x.Bin) (buf:(y.Buf.length:Int)<=p.Buf) (ip:0<=y.IP/\y.IP<=((vJ p m).length:Int)) (op:10<=y.PC/\y.PC<=30->y.IP<((vJ p m).length:Int)):XOk p nb m y :=
 ⟨by omega,regs.trans X.regs,ip,fun e=>op (by omega),fun e=>by omega,fun e=>by omega,fun e=>by omega,fun e=>by omega,fun _ _=>bin.trans (X.bin h.1 h.2),fun e=>by omega,buf⟩
theorem zdC (s:za) (i:Int):onM s i=36\/onM s i=38:=by unfold onM;split<;>simp
theorem XOk.next {p:zd}{nb:Nat}{m:Int}{x:ze}(hp:((vJ p m).length:Int)<=64) (X:XOk p nb m x) (h:x.PC≠33/\x.PC≠34) (hi:x.IP<((vJ p m).length:Int)):XOk p nb m (vZ x):=by
 have:=X.ip;have e:wc (x.IP+1)=x.IP+1:=yR;refine X.move h (.inl rfl) rfl rfl X.buf ?_ (fun h=>zm h (by show ¬((10:Int)<=0/\(0:Int)<=30);decide));show 0<=wc (x.IP+1)/\wc (x.IP+1)<=_;rw [e];omega
theorem XOk.set {p:zd}{nb:Nat}{m:Int}{x:ze}(hp:((vJ p m).length:Int)<=64) (X:XOk p nb m x) (h:x.PC≠33/\x.PC≠34) (hi:x.IP<((vJ p m).length:Int)) (r v:Int):XOk p nb m (setM x r v):=by
 have:=X.ip;have e:wc (x.IP+1)=x.IP+1:=yR;refine X.move h (.inl rfl) (by simp [setM]) rfl X.buf ?_ (fun h=>zm h (by show ¬((10:Int)<=0/\(0:Int)<=30);decide));show 0<=wc (x.IP+1)/\wc (x.IP+1)<=_;rw [e];omega
theorem xY {motive:za×ze->Prop}(s:za) (m:Int) (x:ze) (h0:x.PC=0->motive (mu0 s m x)) (h1:x.PC=1->motive (mu1 s m x)) (h2:x.PC=2->motive (mu2 s m x)) (h3:x.PC=3->motive (mu3 s m x)) (h10:x.PC=10->motive (zjU s m x)) (h20:x.PC=20->motive (zfl s m x)) (h21:x.PC=21->motive (zf2 s m x)) (h22:x.PC=22->motive (zff s m x)) (h23:x.PC=23->motive (zhi s m x)) (h30:x.PC=30->motive (UL s m x)) (h31:x.PC=31->motive (zfG s m x)) (h32:x.PC=32->motive (zfW s m x)) (h33:x.PC=33->motive (zjS s m x)) (h34:x.PC=34->motive (zfN s m x)) (h35:x.PC=35->motive (zfB s m x)) (h36:x.PC=36->motive (zfE s m x)) (h37:x.PC=37->motive (za9 s m x)) (h38:x.PC=38->motive (zhh s m x)) (h39:x.PC=39->motive (zlS s m x)) (hn:motive (s,x)):motive (zu s m x):=by
 unfold zu;by_cases c0:x.PC=0
 .rw [zb c0];exact h0 c0
 rw [zc c0];by_cases c1:x.PC=1
 .rw [zb c1];exact h1 c1
 rw [zc c1];by_cases c2:x.PC=2
 .rw [zb c2];exact h2 c2
 rw [zc c2];by_cases c3:x.PC=3
 .rw [zb c3];exact h3 c3
 rw [zc c3];by_cases c10:x.PC=10
 .rw [zb c10];exact h10 c10
 rw [zc c10];by_cases c20:x.PC=20
 .rw [zb c20];exact h20 c20
 rw [zc c20];by_cases c21:x.PC=21
 .rw [zb c21];exact h21 c21
 rw [zc c21];by_cases c22:x.PC=22
 .rw [zb c22];exact h22 c22
 rw [zc c22];by_cases c23:x.PC=23
 .rw [zb c23];exact h23 c23
 rw [zc c23];by_cases c30:x.PC=30
 .rw [zb c30];exact h30 c30
 rw [zc c30];by_cases c31:x.PC=31
 .rw [zb c31];exact h31 c31
 rw [zc c31];by_cases c32:x.PC=32
 .rw [zb c32];exact h32 c32
 rw [zc c32];by_cases c33:x.PC=33
 .rw [zb c33];exact h33 c33
 rw [zc c33];by_cases c34:x.PC=34
 .rw [zb c34];exact h34 c34
 rw [zc c34];by_cases c35:x.PC=35
 .rw [zb c35];exact h35 c35
 rw [zc c35];by_cases c36:x.PC=36
 .rw [zb c36];exact h36 c36
 rw [zc c36];by_cases c37:x.PC=37
 .rw [zb c37];exact h37 c37
 rw [zc c37];by_cases c38:x.PC=38
 .rw [zb c38];exact h38 c38
 rw [zc c38];by_cases c39:x.PC=39
 .rw [zb c39];exact h39 c39
 rw [zc c39];exact hn
theorem zFW {p:zd}{nb:Nat}{s:za}{m:Int}{x:ze}(h:zJ p) (hp:((vJ p m).length:Int)<=64) (S:SOk p nb s) (X:XOk p nb m x):SOk p nb (zu s m x).1/\XOk p nb m (zu s m x).2:=by
 have hP:=S.P;have hip:=X.ip;have hbuf:=X.buf;have hb:=h.buf;have nop:∀y:Int,31<=y->¬(10<=y/\y<=30):=fun y h e=>by omega
 refine xY (motive:=fun r=>SOk p nb r.1/\XOk p nb m r.2) s m x ?_ ?_ ?_ ?_ ?_ ?_ ?_ ?_ ?_ ?_ ?_ ?_ ?_ ?_ ?_ ?_ ?_ ?_ ?_ ?_
 .intro c;unfold mu0;refine ⟨S,?_⟩;unfold zai;rw [hP];split
  .exact ⟨.inl ⟨(by show (0:Int)<=1;decide),(by show (1:Int)<=3;decide)⟩,X.regs,X.ip,fun e=>by dsimp only at e;omega,fun _=>.inl rfl,fun e=>(by cases e),fun e=>(by cases e),fun e=>(by cases e),fun _ _=>X.bin (by omega) (by omega),fun e=>by dsimp only at e;omega,X.buf⟩
  split
  .exact X
  rename_i hlt;have hlt:x.IP<((vJ p m).length:Int):=by omega
  split
  .exact X.move (by omega) (.inr (.inr (.inl rfl))) rfl rfl X.buf X.ip (fun _=>hlt)
  split
  .exact X.move (by omega) (.inr (.inr (.inr (.inl ⟨by show (20:Int)<=20;decide,by show (20:Int)<=23;decide⟩)))) rfl rfl X.buf X.ip (fun _=>hlt)
  split
  .exact X.move (by omega) (.inr (.inr (.inr (.inr (.inl rfl))))) rfl rfl X.buf X.ip (fun _=>hlt)
  split
  .exact X.set hp (by omega) hlt _ _
  .exact X.set hp (by omega) hlt _ _
 .intro c;unfold mu1;refine ⟨S,?_⟩;split
  .rcases X.ret (.inl c) with e | e
   .exact X.move (by omega) (.inr (.inl e)) rfl rfl X.buf X.ip (fun e2=>by dsimp only at e2;omega)
   .exact X.move (by omega) (.inr (.inr (.inr (.inl (by dsimp only;omega))))) rfl rfl X.buf X.ip (fun e2=>X.op (.inr ⟨.inl c,e⟩))
  .exact ⟨.inl ⟨(by show (0:Int)<=3;decide),(by show (3:Int)<=3;decide)⟩,X.regs,X.ip,fun e=>X.op (.inr ⟨.inl c,by dsimp only at e;omega⟩),fun _=>X.ret (.inl c),fun e=>(by cases e),fun e=>(by cases e),fun e=>(by cases e),fun _ _=>X.bin (by omega) (by omega),
    fun _=>⟨⟨fun e=>zm e (by show ¬(2:Int)=1;decide),fun e=>(by cases e),fun e=>(by cases e),fun e=>(by cases e),fun e=>(by cases e)⟩,fun e=>(by cases e),by show (2:Int)≠1;decide⟩,by dsimp only;rw [zLM];omega⟩
 .intro c;unfold mu2;exact ⟨S.keep rfl rfl rfl,X.move (by omega) (.inl rfl) rfl rfl X.buf X.ip (fun e=>zm e (by show ¬((10:Int)<=0/\(0:Int)<=30);decide))⟩
 .intro c;unfold mu3;obtain ⟨g1,g2,g3⟩:=X.g (.inl c);obtain ⟨r1,r2,r3⟩:=ztc h S g1 g2;refine ⟨r1,?_⟩;dsimp only;split
  .exact ⟨.inl ⟨(by show (0:Int)<=1;decide),(by show (1:Int)<=3;decide)⟩,X.regs,X.ip,fun e=>X.op (.inr ⟨.inr c,by dsimp only at e;omega⟩),fun _=>X.ret (.inr c),fun e=>(by cases e),fun e=>(by cases e),fun e=>(by cases e),fun _ _=>X.bin (by omega) (by omega),fun e=>by dsimp only at e;omega,X.buf⟩
  .exact ⟨X.pc,X.regs,X.ip,X.op,X.ret,fun e=>by dsimp only at e;omega,fun e=>by dsimp only at e;omega,fun e=>by dsimp only at e;omega,X.bin,fun _=>⟨r2,r3,by rw [(zaP s x.G).2.2];exact g3⟩,X.buf⟩
 .intro c;unfold zjU;exact ⟨S,X.set hp (by omega) (X.op (.inl (by omega))) _ _⟩
 .intro c;unfold zfl;refine ⟨S,?_⟩;split
  .exact X.next hp (by omega) (X.op (.inl (by omega)))
  .exact X.move (by omega) (.inr (.inr (.inr (.inl ⟨by show (20:Int)<=21;decide,by show (21:Int)<=23;decide⟩)))) rfl rfl X.buf X.ip (fun _=>X.op (.inl (by omega)))
 .intro c;unfold zf2;refine ⟨S,?_⟩;split
  .exact X.move (by omega) (.inr (.inr (.inr (.inl ⟨by show (20:Int)<=23;decide,by show (23:Int)<=23;decide⟩)))) rfl rfl X.buf X.ip (fun _=>X.op (.inl (by omega)))
  .exact X.move (by omega) (.inr (.inr (.inr (.inl ⟨by show (20:Int)<=22;decide,by show (22:Int)<=23;decide⟩)))) rfl rfl X.buf X.ip (fun _=>X.op (.inl (by omega)))
 .intro c;unfold zff;have hi:=X.op (.inl (by omega));refine ⟨S,?_⟩;rw [hP];split
  .exact ⟨.inl ⟨(by show (0:Int)<=1;decide),(by show (1:Int)<=3;decide)⟩,X.regs,X.ip,fun e=>hi,fun _=>.inr rfl,fun e=>(by cases e),fun e=>(by cases e),fun e=>(by cases e),fun _ _=>X.bin (by omega) (by omega),fun e=>by dsimp only at e;omega,X.buf⟩
  .exact X.move (by omega) (.inr (.inr (.inr (.inl ⟨by show (20:Int)<=23;decide,by show (23:Int)<=23;decide⟩)))) rfl rfl (by simp;omega) X.ip (fun _=>hi)
 .intro c;unfold zhi;exact ⟨S.keep rfl rfl rfl,X.next hp (by omega) (X.op (.inl (by omega)))⟩
 .intro c;unfold UL;have hi:=X.op (.inl (by omega));split
  .split
   .exact ⟨S.keep rfl rfl rfl,X.set hp (by omega) hi _ _⟩
   .exact ⟨S,X.next hp (by omega) hi⟩
  .exact ⟨S,X.move (by omega) (.inr (.inr (.inr (.inr (.inr (.inl rfl)))))) rfl rfl X.buf X.ip (fun e=>zm e (by show ¬((10:Int)<=31/\(31:Int)<=30);decide))⟩
 .intro c;unfold zfG;refine ⟨S.keep rfl rfl rfl,?_⟩;rw [hP];split
  .exact ⟨.inr (.inr (.inr ⟨(by show (30:Int)<=32;decide),(by show (32:Int)<=39;decide)⟩)),X.regs,X.ip,fun e=>by dsimp only at e;omega,fun e=>by dsimp only at e;omega,fun _=>zDz,fun e=>(by cases e),fun e=>(by cases e),fun _ _=>X.bin (by omega) (by omega),fun e=>by dsimp only at e;omega,X.buf⟩
  .exact X.move (by omega) (.inl rfl) rfl rfl X.buf X.ip (fun e=>zm e (by show ¬((10:Int)<=0/\(0:Int)<=30);decide))
 .intro c;unfold zfW;have C:=X.c32 c;obtain ⟨b1,b2,b3,b4,b5,b6⟩:=zCo h S (.inl rfl) C.k C.h C.n C.v C.y C.o;refine ⟨b1,?_⟩;dsimp only;split
  .rename_i e1;exact ⟨.inr (.inr (.inr ⟨(by show (30:Int)<=33;decide),(by show (33:Int)<=39;decide)⟩)),X.regs,X.ip,fun e=>by dsimp only at e;omega,fun e=>by dsimp only at e;omega,fun e=>(by cases e),fun _=>b6 e1,fun e=>(by cases e),fun e=>zm rfl e,fun e=>by dsimp only at e;omega,X.buf⟩
  split
  .exact X.move (by omega) (.inl rfl) rfl rfl X.buf X.ip (fun e=>zm e (by show ¬((10:Int)<=0/\(0:Int)<=30);decide))
  .rename_i e1 e2;exact ⟨X.pc,X.regs,X.ip,X.op,X.ret,fun _=>⟨b2,b3,b4,(b5 e1 e2).1,(b5 e1 e2).2,e1⟩,fun e=>by dsimp only at e;omega,fun e=>by dsimp only at e;omega,X.bin,fun e=>by dsimp only at e;omega,X.buf⟩
 .intro c;unfold zjS;have B:=X.b33 c;refine ⟨S.keep rfl rfl (by simp),?_⟩;rw [hP];exact ⟨.inr (.inr (.inr ⟨(by show (30:Int)<=34;decide),(by show (34:Int)<=39;decide)⟩)),X.regs,X.ip,fun e=>by dsimp only at e;omega,fun e=>by dsimp only at e;omega,fun e=>(by cases e),fun e=>(by cases e),fun _=>zAl B,fun _ e=>zm rfl e,fun e=>by dsimp only at e;omega,X.buf⟩
 .intro c;unfold zfN;have C:=X.c34 c;obtain ⟨b1,b2,b3,b4,b5,b6⟩:=zyl h S (.inr rfl) C.k C.h C.n C.x C.v;refine ⟨b1,?_⟩;dsimp only;split
  .exact ⟨.inr (.inr (.inr ⟨(by show (30:Int)<=35;decide),(by show (35:Int)<=39;decide)⟩)),X.regs,X.ip,fun e=>by dsimp only at e;omega,fun e=>by dsimp only at e;omega,fun e=>(by cases e),fun e=>(by cases e),fun e=>(by cases e),fun _ _=>rfl,fun e=>by dsimp only at e;omega,X.buf⟩
  .exact ⟨X.pc,X.regs,X.ip,X.op,X.ret,fun e=>by dsimp only at e;omega,fun e=>by dsimp only at e;omega,fun _=>⟨b2,b3,b4,b5,b6⟩,X.bin,fun e=>by dsimp only at e;omega,X.buf⟩
 .intro c;unfold zfB;refine ⟨S,?_⟩;dsimp only;split
  .exact X.move (by omega) (.inl rfl) rfl rfl X.buf X.ip (fun e=>zm e (by show ¬((10:Int)<=0/\(0:Int)<=30);decide))
  .exact X.move (by omega) (by simp) rfl rfl X.buf X.ip (fun e=>zm e (nop 36 (by omega)))
 .intro c;unfold zfE;refine ⟨S,?_⟩;dsimp only;split
  .rcases zdC s (wc (x.Slot+1)) with e | e<;>rw [e]
   .exact X.move (by omega) (by simp) rfl rfl X.buf X.ip (fun e=>zm e (nop 36 (by omega)))
   .exact X.move (by omega) (by simp) rfl rfl X.buf X.ip (fun e=>zm e (nop 38 (by omega)))
  .exact ⟨.inr (.inr (.inr ⟨(by show (30:Int)<=37;decide),(by show (37:Int)<=39;decide)⟩)),X.regs,X.ip,fun e=>by dsimp only at e;omega,fun e=>by dsimp only at e;omega,fun e=>(by cases e),fun e=>(by cases e),fun e=>(by cases e),fun _ _=>X.bin (by omega) (by omega),
    fun _=>⟨⟨fun e=>zm e (by show ¬(3:Int)=1;decide),fun e=>(by cases e),fun e=>(by cases e),fun e=>(by cases e),fun e=>(by cases e)⟩,fun e=>(by cases e),by show (3:Int)≠1;decide⟩,X.buf⟩
 .intro c;unfold za9;obtain ⟨g1,g2,g3⟩:=X.g (.inr c);obtain ⟨r1,r2,r3⟩:=ztc h S g1 g2;refine ⟨r1,?_⟩;dsimp only;split
  .rcases zdC s x.Slot with e | e<;>rw [e]
   .exact X.move (by omega) (by simp) rfl rfl X.buf X.ip (fun e=>zm e (nop 36 (by omega)))
   .exact X.move (by omega) (by simp) rfl rfl X.buf X.ip (fun e=>zm e (nop 38 (by omega)))
  .exact ⟨X.pc,X.regs,X.ip,X.op,X.ret,fun e=>by dsimp only at e;omega,fun e=>by dsimp only at e;omega,fun e=>by dsimp only at e;omega,X.bin,fun _=>⟨r2,r3,by rw [(zaP s x.G).2.2];exact g3⟩,X.buf⟩
 .intro c;unfold zhh;exact ⟨S.keep rfl rfl rfl,X.move (by omega) (by simp) rfl rfl X.buf X.ip (fun e=>zm e (nop 39 (by omega)))⟩
 .intro c;unfold zlS;exact ⟨S.keep rfl rfl rfl,X.move (by omega) (by simp) rfl rfl X.buf X.ip (fun e=>zm e (nop 35 (by omega)))⟩
 .exact ⟨S,X⟩
structure Wy (s:za):Prop where
 m:s.M.length<1000000
 bins:s.Bins.length<1000000
 bin:∀x∈s.Bins,x.length<1000000
 acks:s.Acks.length<1000000
 bal:s.L.Bal.length<1000000
 ws:s.Ws.length<1000000
 w:∀x∈s.Ws,x.Batch.length<1000000
 ms:s.Ms.length<1000000
 mu:∀x∈s.Ms,x.Regs.length<1000000/\x.Buf.length<1000000/\x.Batch.length<1000000
 objs:s.H.Objs.length<1000000
 obj:∀x∈s.H.Objs,x.length<1000000
 pobjs:s.P.H.Objs.length<1000000
 pobj:∀x∈s.P.H.Objs,x.length<1000000
 regs:s.P.Regs.length<1000000
 reg:∀x∈s.P.Regs,x.length<1000000
 progs:s.P.Progs.length<1000000
 prog:∀x∈s.P.Progs,x.length<1000000
 picks:s.P.Picks.length<1000000
theorem zcJ (m:List (BitVec 64)) (c:zV):(zD m c).1.length=m.length:=by
 unfold zD sw;split
 .rfl
 split
 .rfl
 split
 .split<;>simp [Yv]
 .dsimp only;split<;>simp [Yv]
theorem zkw (m:List (BitVec 64)) (d:zg):(xk m d).1.length=m.length:=by
 unfold xk;split
 .rfl
 split
 .rfl
 split
 .rfl
 split<;>simp [Yv]
theorem zfH (s:za) (g:zK):∃m b t w f,(zH s g).1={s with M:=m,Bins:=b,T:=t,Work:=w,Flag:=f}/\m.length=s.M.length/\b.length=s.Bins.length /\
  (∀x∈b,x∈s.Bins\/x=[g.Obj])/\(t=s.T\/t=(shade s.T g.Obj).1)/\(w=s.Work\/w=wc (s.Work+1)\/w=wc (s.Work-1)):=by
 unfold zH;split
 .exact ⟨s.M,s.Bins,s.T,s.Work,s.Flag,rfl,rfl,rfl,fun x h=>.inl h,.inl rfl,.inl rfl⟩
 split
 .exact ⟨_,s.Bins,s.T,s.Work,s.Flag,rfl,zcJ _ _,rfl,fun x h=>.inl h,.inl rfl,.inl rfl⟩
 split
 .refine ⟨s.M,_,s.T,s.Work,s.Flag,rfl,rfl,by simp,fun x h=>?_,.inl rfl,.inl rfl⟩;rcases zLj h with h | h
  .exact .inl h
  .exact .inr h
 split
 .exact ⟨_,s.Bins,s.T,s.Work,s.Flag,rfl,zcJ _ _,rfl,fun x h=>.inl h,.inl rfl,.inl rfl⟩
 split
 .exact ⟨s.M,s.Bins,s.T,s.Work,true,rfl,rfl,rfl,fun x h=>.inl h,.inl rfl,.inl rfl⟩
 split
 .exact ⟨_,s.Bins,s.T,s.Work,s.Flag,rfl,zkw _ _,rfl,fun x h=>.inl h,.inl rfl,.inl rfl⟩
 split
 .exact ⟨s.M,s.Bins,s.T,_,s.Flag,rfl,rfl,rfl,fun x h=>.inl h,.inl rfl,.inr (.inr rfl)⟩
 split
 .exact ⟨s.M,s.Bins,_,s.Work,s.Flag,rfl,rfl,rfl,fun x h=>.inl h,.inr rfl,.inl rfl⟩
 .exact ⟨s.M,s.Bins,s.T,_,s.Flag,rfl,rfl,rfl,fun x h=>.inl h,.inl rfl,.inr (.inl rfl)⟩
theorem zFa {p:zd}(h:zJ p):Wy (xD p):=by
 have S:=zDq h;have hb:=zek h;have hg:=znt h;have hn:=h.n;have hm:=h.mt;have hw:=h.wk;have hs:=h.slots;have hrl:=h.regs;have hpl:=h.progs;have hobj:∀o∈p.H.Objs,o.length<1000000:=fun o ho=>by have:=(h.objs o ho).1;omega
 have hreg:∀r∈p.Regs,r.length<1000000:=fun r hr=>by have:=(h.reg r hr).1;omega
 refine ⟨by have:=S.mem;omega,by rw [S.bins];omega,fun x hx=>?_,?_,?_,?_,fun x hx=>?_,?_,fun x hx=>?_,by show p.H.Objs.length<_;omega,hobj,by show p.H.Objs.length<_;omega,hobj,by show p.Regs.length<_;omega,hreg,by show p.Progs.length<_;omega,fun x hx=>?_,?_⟩
 .have hx:x∈[[]]++xH p++List.replicate (yi p-(xH p).length) []:=hx;rcases zK0.1 hx with hx | hx
  .rcases zK0.1 hx with hx | hx
   .simp at hx;subst hx;simp
   .have:=zoG _ _ _ _ hx;omega
  .have:=(List.mem_replicate.1 hx).2;subst this;simp
 .show (List.replicate p.Mutators.toNat (0:Int)).length<_;simp;omega
 .show (List.replicate p.Mutators.toNat (0:Int)).length<_;simp;omega
 .show ((List.range p.Workers.toNat).map (ux p)).length<_;simp;omega
 .have hx:x∈(List.range p.Workers.toNat).map (ux p):=hx;obtain ⟨i,_,rfl⟩:=zKP.1 hx;simp [ux]
 .show (p.Regs.map vn).length<_;simp;omega
 .have hx:x∈p.Regs.map vn:=hx;obtain ⟨r,hr,rfl⟩:=zKP.1 hx;exact ⟨hreg r hr,by simp [vn],by simp [vn]⟩
 .obtain ⟨i,hi⟩:=List.getElem?_of_mem hx;have hlt:=(zKK.1 hi).1;have:=(h.prog i _ x (zKC (show i<p.Regs.length from (show p.Progs.length=p.Regs.length by omega)▸hlt)) hi).1;omega
 .show p.Picks.length<_;rw [h.picks];simp
def wb (s:za):za :=
 if s.Done=true then s
 else if s.D.PC=0 then {s with Flag:=false,D:={s.D with PC:=1}}
 else if s.D.PC=1 then (if s.Work=0 then {s with D:={s.D with PC:=2}} else s)
 else if s.D.PC=2 then {s with Epoch:=wc (s.Epoch+1),D:=⟨if s.Ms.length=0 then 4 else 3,0⟩}
 else if s.D.PC=3 then (if s.Acks.getD s.D.I.toNat 0<s.Epoch then s else {s with D:=⟨if wc (s.D.I+1)=(s.Ms.length:Int) then 4 else 3,wc (s.D.I+1)⟩})
 else if s.D.PC=4 then (if s.Work=0 then {s with D:={s.D with PC:=5}} else {s with Restarts:=wc (s.Restarts+1),D:={s.D with PC:=0}})
 else if s.D.PC=5 then (if s.Flag=true then {s with Restarts:=wc (s.Restarts+1),D:={s.D with PC:=0}} else {s with D:={s.D with PC:=6}})
 else if s.D.PC=6 then {s with Done:=true}
 else s
structure HOk (p:zd) (h:zw):Prop where
 slots:h.Slots=p.H.Slots
 n:(p.H.Objs.length:Int)<=(h.Objs.length:Int)/\(h.Objs.length:Int)<=p.Most
 objs:∀o∈h.Objs,(o.length:Int)=h.Slots/\∀v∈o,0<=v/\v<=(h.Objs.length:Int)
structure EOk (p:zd) (nb:Nat) (s:za):Prop where
 S:SOk p nb s
 wl:(s.Ws.length:Int)=p.Workers
 ml:(s.Ms.length:Int)=p.Mutators
 al:s.Acks.length=s.Ms.length
 W:∀(i:Nat) x,s.Ws[i]? =some x->WOk p nb ((i:Int)+1) x
 X:∀(i:Nat) x,s.Ms[i]? =some x->XOk p nb ((i:Int)+1) x
 H:HOk p s.H
 D:(0<=s.D.PC/\s.D.PC<=6)/\(s.D.PC=3->0<=s.D.I/\s.D.I<(s.Ms.length:Int))
 small:Wy s
theorem zwl {p:zd}(h:zJ p) (m:Int):((vJ p m).length:Int)<=64:=by
 unfold vJ;have hr:=h.regs;have hp:=h.progs;rw [zKD];rcases zLc (m-1).toNat p.Progs.length with hl | hl
 .rw [zKC hl];have hl2:(m-1).toNat<p.Regs.length:=by omega
  have:=(h.prog (m-1).toNat _ _ (zKC hl2) (zKC hl)).1;show ((p.Progs[(m-1).toNat]).length:Int)<=64;omega
 .rw [zLJ hl];show (([]:List zE).length:Int)<=64;simp
theorem zB3 {p:zd}(h:zJ p):EOk p (yi p+1) (xD p):=by
 have hw:=h.wk;have hm:=h.mt;have hr:=h.regs;have hn:=h.n;have hmo:=h.most;have hb:=h.buf;refine ⟨zDq h,?_,?_,?_,fun i x hx=>?_,fun i x hx=>?_,⟨rfl,⟨zLl _,hmo.1⟩,h.objs⟩,⟨⟨by show (0:Int)<=0;decide,by show (0:Int)<=6;decide⟩,fun e=>zm e (by show ¬(0:Int)=3;decide)⟩,zFa h⟩
 .show (((List.range p.Workers.toNat).map (ux p)).length:Int)=_;rw [zLx,List.length_range];omega
 .show ((p.Regs.map vn).length:Int)=_;rw [zLx];exact hr
 .show (List.replicate p.Mutators.toNat (0:Int)).length=(p.Regs.map vn).length;rw [zLg,zLx];omega
 .have hx:((List.range p.Workers.toNat).map (ux p))[i]? =some x:=hx;rw [zK9] at hx;rcases zLc i p.Workers.toNat with hl | hl
  .rw [List.getElem?_range hl] at hx;injection hx with hx;subst hx;exact ⟨⟨by show (0:Int)<=0;decide,by show (0:Int)<=9;decide⟩,by show 1<=(i:Int)+1/\(i:Int)+1<=p.Workers;omega,fun _=>⟨rfl,rfl,rfl⟩,fun e=>(by cases e),fun e=>(by cases e),fun e=>(by cases e),fun e=>(by cases e),fun e=>(by cases e)⟩
  .rw [zLJ (by rw [List.length_range];exact hl)] at hx;cases hx
 .have hx:(p.Regs.map vn)[i]? =some x:=hx;rw [zK9] at hx;cases hq:p.Regs[i]? with
  | none=>rw [hq] at hx;cases hx
  | some r =>
   rw [hq] at hx;injection hx with hx;subst hx;refine ⟨.inl ⟨by show (0:Int)<=0;decide,by show (0:Int)<=3;decide⟩,?_,⟨by show (0:Int)<=0;decide,by show (0:Int)<=_;omega⟩,fun e=>zm e ?_,fun e=>zm e ?_,fun e=>(by cases e),fun e=>(by cases e),fun e=>(by cases e),fun _ _=>rfl,fun e=>zm e ?_,by show (0:Int)<=p.Buf;omega⟩
   .show r.length=zh4 p ((i:Int)+1);unfold zh4;rw [show ((i:Int)+1-1).toNat=i by omega,zKD,hq];rfl
   .intro e;simp [vn] at e
   .intro e;simp [vn] at e
   .intro e;simp [vn] at e
theorem ztT {s:za}(h:Wy s) (b:Int):(VY s b).length<1000000:=by
 unfold VY;rw [zKD];cases hq:s.Bins[b.toNat]? with
 | none=>simp
 | some l=>exact h.bin l (zKG hq)
theorem zy6 (l:zy) (w:Int):(Ug l w).Bal.length=l.Bal.length:=by unfold Ug;split<;>simp
structure VC (s s':za):Prop where
 P:s'.P=s.P
 m:s'.M.length=s.M.length
 bl:s'.Bins.length=s.Bins.length
 b:∀l∈s'.Bins,l∈s.Bins\/l.length<=1
 bal:s'.L.Bal.length=s.L.Bal.length
 ac:s'.Acks.length=s.Acks.length
 ws:s'.Ws=s.Ws
 ms:s'.Ms=s.Ms
 done:s'.Done=s.Done
 d:s'.D=s.D
theorem VC.refl (s:za):VC s s:=⟨rfl,rfl,rfl,fun l h=>.inl h,rfl,rfl,rfl,rfl,rfl,rfl⟩
theorem zeP (s:za) (g:zK):VC s (zH s g).1/\(zH s g).1.H=s.H:=by
 obtain ⟨m,b,t,w,f,e,h1,h2,h3,_,_⟩:=zfH s g;rw [e];exact ⟨⟨rfl,h1,h2,fun l hl=>(h3 l hl).imp id (fun e=>by rw [e];simp),rfl,rfl,rfl,rfl,rfl,rfl⟩,rfl⟩
theorem zDj {s:za}(b:Nat):∀l∈s.Bins.set b [],l∈s.Bins\/l.length<=1:=fun l hl=>(zLj hl).imp id (fun e=>by rw [e];simp)
theorem zyI (s:za) (w:Int) (x:zj):VC s (zx s w x).1/\(zx s w x).1.H=s.H:=by
 unfold zx;split
 .exact ⟨⟨rfl,(zoI _ _).1,rfl,fun l h=>.inl h,rfl,rfl,rfl,rfl,rfl,rfl⟩,rfl⟩
 split
 .exact ⟨⟨rfl,zcJ _ _,rfl,fun l h=>.inl h,rfl,rfl,rfl,rfl,rfl,rfl⟩,rfl⟩
 split
 .exact ⟨⟨rfl,rfl,by simp,zDj _,rfl,rfl,rfl,rfl,rfl,rfl⟩,rfl⟩
 split
 .exact ⟨⟨rfl,zcJ _ _,rfl,fun l h=>.inl h,rfl,rfl,rfl,rfl,rfl,rfl⟩,rfl⟩
 split
 .exact ⟨VC.refl s,rfl⟩
 split
 .exact zeP s x.G
 split
 .exact ⟨VC.refl s,rfl⟩
 split
 .exact ⟨⟨rfl,rfl,rfl,fun l h=>.inl h,zy6 _ _,rfl,rfl,rfl,rfl,rfl⟩,rfl⟩
 split
 .exact ⟨⟨rfl,rfl,rfl,fun l h=>.inl h,rfl,rfl,rfl,rfl,rfl,rfl⟩,rfl⟩
 .exact ⟨VC.refl s,rfl⟩
theorem zCy (p:zd) (w:Int) (x:zj):(Yi p w x).Batch=x.Batch:=by unfold Yi;split<;>rfl
theorem zD1 {s:za}(h:Wy s) (w:Int) {x:zj}(hx:x.Batch.length<1000000):(zx s w x).2.Batch.length<1000000:=by
 unfold zx;split
 .dsimp only;split
  .exact hx
  split
  .rw [zCy];exact hx
  .exact hx
 split
 .dsimp only;split
  .exact hx
  split<;>exact hx
 split
 .exact ztT h _
 split
 .dsimp only;split<;>exact hx
 split
 .dsimp only;split<;>exact hx
 split
 .dsimp only;split<;>exact hx
 split
 .dsimp only;cases hb:x.Batch with
  | nil=>show x.Batch.length<_;exact hx
  | cons o l=>rw [hb] at hx;show l.length<_;simp at hx;omega
 split
 .exact hx
 split
 .exact hx
 .exact hx
theorem zDP (l:zy) (w p:Int):(VX l w p).Bal.length=l.Bal.length:=by unfold VX;simp
theorem zFE (l:zy) (w n:Int):(UR l w n).1.Bal.length=l.Bal.length:=by unfold UR;split<;>simp
theorem zBo (s:za) (m:Int) (x:ze):VC s (zu s m x).1:=by
 have q:∀s':za,s'.P=s.P->s'.M=s.M->s'.Bins=s.Bins->s'.L.Bal.length=s.L.Bal.length->s'.Acks.length=s.Acks.length->s'.Ws=s.Ws->s'.Ms=s.Ms->s'.Done=s.Done->s'.D=s.D->VC s s' :=
  fun s' a b c d e f g h i=>⟨a,by rw [b],by rw [c],fun l hl=>.inl (c▸hl),d,e,f,g,h,i⟩
 refine xY (motive:=fun r=>VC s r.1) s m x ?_ ?_ ?_ ?_ ?_ ?_ ?_ ?_ ?_ ?_ ?_ ?_ ?_ ?_ ?_ ?_ ?_ ?_ ?_ ?_
 .intro c;unfold mu0;exact VC.refl s
 .intro c;unfold mu1;exact VC.refl s
 .intro c;unfold mu2;exact q _ rfl rfl rfl rfl (by simp) rfl rfl rfl rfl
 .intro c;unfold mu3;exact (zeP s x.G).1
 .intro c;unfold zjU;exact VC.refl s
 .intro c;unfold zfl;exact VC.refl s
 .intro c;unfold zf2;exact VC.refl s
 .intro c;unfold zff;exact VC.refl s
 .intro c;unfold zhi;exact q _ rfl rfl rfl rfl rfl rfl rfl rfl rfl
 .intro c;unfold UL;split
  .split
   .exact q _ rfl rfl rfl (zDP _ _ _) rfl rfl rfl rfl rfl
   .exact VC.refl s
  .exact VC.refl s
 .intro c;unfold zfG;exact q _ rfl rfl rfl (zFE _ _ _) rfl rfl rfl rfl rfl
 .intro c;unfold zfW;exact ⟨rfl,zcJ _ _,rfl,fun l h=>.inl h,rfl,rfl,rfl,rfl,rfl,rfl⟩
 .intro c;unfold zjS;exact ⟨rfl,rfl,by simp,zDj _,rfl,rfl,rfl,rfl,rfl,rfl⟩
 .intro c;unfold zfN;exact ⟨rfl,zcJ _ _,rfl,fun l h=>.inl h,rfl,rfl,rfl,rfl,rfl,rfl⟩
 .intro c;unfold zfB;exact VC.refl s
 .intro c;unfold zfE;exact VC.refl s
 .intro c;unfold za9;exact (zeP s x.G).1
 .intro c;unfold zhh;exact q _ rfl rfl rfl (zy6 _ _) rfl rfl rfl rfl rfl
 .intro c;unfold zlS;exact q _ rfl rfl rfl rfl rfl rfl rfl rfl rfl
 .exact VC.refl s
theorem HOk.sm {p:zd}(hp:zJ p) {h:zw}(H:HOk p h):h.Objs.length<1000000/\∀x∈h.Objs,x.length<1000000:=by
 have h1:=H.n;have h2:=hp.most;have h3:=hp.n;have h4:=hp.slots;have h5:=H.slots;exact ⟨by omega,fun x hx=>by have:=(H.objs x hx).1;omega⟩
theorem Wy.turn {p:zd}(hp:zJ p) {s s':za}(h:Wy s) (T:VC s s') (H:HOk p s'.H):Wy s':=by
 have hh:=H.sm hp;refine ⟨by rw [T.m];exact h.m,by rw [T.bl];exact h.bins,fun x hx=>?_,by rw [T.ac];exact h.acks,by rw [T.bal];exact h.bal,by rw [T.ws];exact h.ws,by rw [T.ws];exact h.w,by rw [T.ms];exact h.ms,by rw [T.ms];exact h.mu,hh.1,hh.2,by rw [T.P];exact h.pobjs,by rw [T.P];exact h.pobj,by rw [T.P];exact h.regs,by rw [T.P];exact h.reg,by rw [T.P];exact h.progs,by rw [T.P];exact h.prog,by rw [T.P];exact h.picks⟩;rcases T.b x hx with h' | h'
 .exact h.bin x h'
 .omega
theorem Wy.setW {s:za}(h:Wy s) {i:Nat}{x:zj}(hx:x.Batch.length<1000000):Wy {s with Ws:=s.Ws.set i x} :=
 ⟨h.m,h.bins,h.bin,h.acks,h.bal,by simp only [zKZ];exact h.ws,fun y hy=>by
  rcases zLj hy with hy | rfl
  .exact h.w y hy
  .exact hx,h.ms,h.mu,h.objs,h.obj,h.pobjs,h.pobj,h.regs,h.reg,h.progs,h.prog,h.picks⟩
theorem Wy.setM {s:za}(h:Wy s) {i:Nat}{x:ze}(hx:x.Regs.length<1000000/\x.Buf.length<1000000/\x.Batch.length<1000000):Wy {s with Ms:=s.Ms.set i x} :=
 ⟨h.m,h.bins,h.bin,h.acks,h.bal,h.ws,h.w,by simp only [zKZ];exact h.ms,fun y hy=>by
  rcases zLj hy with hy | rfl
  .exact h.mu y hy
  .exact hx,h.objs,h.obj,h.pobjs,h.pobj,h.regs,h.reg,h.progs,h.prog,h.picks⟩
theorem zDi {α:Type}{l:List α}{i j:Nat}{x y:α}(h:(l.set i x)[j]? =some y):(j=i/\y=x)\/l[j]? =some y:=by
 rw [zLp] at h;split at h
 .rename_i e;split at h
  .injection h with h;exact .inl ⟨e.symm,h.symm⟩
  .cases h
 .exact .inr h
theorem zuv {p:zd}{nb:Nat}{s:za}(h:zJ p) (E:EOk p nb s) (w:Int):EOk p nb (zS s w):=by
 unfold zS;split
 .exact E
 rename_i hc;cases hx:s.Ws[(w-1).toNat]? with
 | none=>exact E
 | some x =>
  have hw1: ¬w<1:=fun e=>hc (.inr (.inl e));have hw2: ¬(s.Ws.length:Int)<w:=fun e=>hc (.inr (.inr e));have hwl:=E.wl;have ei:(((w-1).toNat:Nat):Int)+1=w:=by omega
  have hW:=E.W _ x hx;rw [ei] at hW;obtain ⟨r1,r2⟩:=zDH h (by omega) E.S hW;obtain ⟨T,TH⟩:=zyI s w x;have sm:Wy (zx s w x).1:=E.small.turn h T (by rw [TH];exact E.H);have hws:(zx s w x).1.Ws=s.Ws:=T.ws;refine ⟨r1.keep rfl rfl rfl,?_,?_,?_,fun i y hy=>?_,fun i y hy=>?_,?_,?_,?_⟩
  .show ((s.Ws.set _ _).length:Int)=_;rw [zKZ];exact hwl
  .show ((zx s w x).1.Ms.length:Int)=_;rw [T.ms];exact E.ml
  .show (zx s w x).1.Acks.length=(zx s w x).1.Ms.length;rw [T.ms,T.ac];exact E.al
  .rcases zDi hy with ⟨rfl,rfl⟩ | hy
   .rw [ei];exact r2
   .exact E.W i y hy
  .have hy:(zx s w x).1.Ms[i]? =some y:=hy;rw [T.ms] at hy;exact E.X i y hy
  .show HOk p (zx s w x).1.H;rw [TH];exact E.H
  .show (0<=(zx s w x).1.D.PC/\(zx s w x).1.D.PC<=6)/\((zx s w x).1.D.PC=3->0<=(zx s w x).1.D.I/\(zx s w x).1.D.I<((zx s w x).1.Ms.length:Int));rw [T.d,T.ms];exact E.D
  .have:=sm.setW (i:=(w-1).toNat) (zD1 E.small w (E.small.w x (zKG hx)));rw [hws] at this;exact this
theorem zH1 {p:zd}{nb:Nat}{s:za}(h:zJ p) (E:EOk p nb s):EOk p nb (wb s):=by
 have key:∀s':za,s'.P=s.P->s'.M=s.M->s'.Bins=s.Bins->s'.Ws=s.Ws->s'.Ms=s.Ms->s'.Acks=s.Acks->s'.H=s.H->s'.L=s.L->((0<=s'.D.PC/\s'.D.PC<=6)/\(s'.D.PC=3->0<=s'.D.I/\s'.D.I<(s'.Ms.length:Int)))->EOk p nb s':=by
  intro s' e1 e2 e3 e4 e5 e6 e7 e8 e9;have q:=E.small;refine ⟨E.S.keep e1 e2 (by rw [e3]),by rw [e4];exact E.wl,by rw [e5];exact E.ml,by rw [e5,e6];exact E.al,by rw [e4];exact E.W,by rw [e5];exact E.X,by rw [e7];exact E.H,e9,?_⟩;exact ⟨by rw [e2];exact q.m,by rw [e3];exact q.bins,by rw [e3];exact q.bin,by rw [e6];exact q.acks,by rw [e8];exact q.bal,by rw [e4];exact q.ws,by rw [e4];exact q.w,by rw [e5];exact q.ms,by rw [e5];exact q.mu,by rw [e7];exact q.objs,by rw [e7];exact q.obj,by rw [e1];exact q.pobjs,by rw [e1];exact q.pobj,by rw [e1];exact q.regs,by rw [e1];exact q.reg,by rw [e1];exact q.progs,by rw [e1];exact q.prog,by rw [e1];exact q.picks⟩
 have hm:∀n:Int,0<=n/\n<=6->n≠3->∀i,(0<=(⟨n,i⟩:zN).PC/\(⟨n,i⟩:zN).PC<=6)/\((⟨n,i⟩:zN).PC=3->0<=(⟨n,i⟩:zN).I/\(⟨n,i⟩:zN).I<(s.Ms.length:Int)):=fun n h1 h2 i=>⟨h1,fun e=>zm e h2⟩
 have hml:=E.ml;have hmt:=h.mt;unfold wb;split
 .exact E
 split
 .exact key _ rfl rfl rfl rfl rfl rfl rfl rfl (hm 1 (by decide) (by decide) _)
 split
 .split
  .exact key _ rfl rfl rfl rfl rfl rfl rfl rfl (hm 2 (by decide) (by decide) _)
  .exact E
 split
 .refine key _ rfl rfl rfl rfl rfl rfl rfl rfl ?_;dsimp only;split
  .exact hm 4 (by decide) (by decide) _
  .exact ⟨by decide,fun _=>by omega⟩
 split
 .rename_i c3;have hi:=E.D.2 c3;split
  .exact E
  .refine key _ rfl rfl rfl rfl rfl rfl rfl rfl ?_;dsimp only;have e:wc (s.D.I+1)=s.D.I+1:=yR;rw [e];split
   .exact hm 4 (by decide) (by decide) _
   .exact ⟨by decide,fun _=>by omega⟩
 split
 .split
  .exact key _ rfl rfl rfl rfl rfl rfl rfl rfl (hm 5 (by decide) (by decide) _)
  .exact key _ rfl rfl rfl rfl rfl rfl rfl rfl (hm 0 (by decide) (by decide) _)
 split
 .split
  .exact key _ rfl rfl rfl rfl rfl rfl rfl rfl (hm 0 (by decide) (by decide) _)
  .exact key _ rfl rfl rfl rfl rfl rfl rfl rfl (hm 6 (by decide) (by decide) _)
 split
 .exact key _ rfl rfl rfl rfl rfl rfl rfl rfl E.D
 .exact E
theorem HOk.put {p:zd}{h:zw}(H:HOk p h) (o s v:Int):HOk p (xL h o s v):=by
 unfold xL;split
 .rename_i c;obtain ⟨c1,c2,c3⟩:=c;unfold yy at c1;simp only [zKB,decide_eq_true_eq] at c1;refine ⟨H.slots,by simp only [zKZ];exact H.n,fun l hl=>?_⟩;simp only [zKZ];rcases zLj hl with hl | rfl
  .exact H.objs l hl
  .have hm:zR h o∈h.Objs:=by
    unfold zR;rw [zKD,zKC (show (o-1).toNat<h.Objs.length by omega)];exact zKX _
   obtain ⟨a,b⟩:=H.objs _ hm;refine ⟨by rw [zKZ];exact a,fun y hy=>?_⟩;rcases zLj hy with hy | rfl
   .exact b y hy
   .exact ⟨c2,c3⟩
 .exact H
theorem HOk.alloc {p:zd}(hp:zJ p) {h:zw}(H:HOk p h) (hr:ZL h p.Most=true):HOk p (yO h):=by
 unfold ZL at hr;simp only [zKB,decide_eq_true_eq] at hr;have hs:=hp.slots;have hsl:=H.slots;have hn:=H.n;unfold yO;refine ⟨H.slots,by simp only [zKO,zMs];omega,fun l hl=>?_⟩;simp only [zKO,zMs];rcases zK0.1 hl with hl | hl
 .obtain ⟨a,b⟩:=H.objs l hl;exact ⟨a,fun v hv=>by have:=b v hv;omega⟩
 .rw [zLn.1 hl];refine ⟨by rw [zLg];omega,fun v hv=>?_⟩;rw [(List.mem_replicate.1 hv).2];omega
theorem zJU {p:zd}(hp:zJ p) {s:za}(hP:s.P=p) (H:HOk p s.H) (m:Int) (x:ze):HOk p (zu s m x).1.H:=by
 refine xY (motive:=fun r=>HOk p r.1.H) s m x ?_ ?_ ?_ ?_ ?_ ?_ ?_ ?_ ?_ ?_ ?_ ?_ ?_ ?_ ?_ ?_ ?_ ?_ ?_ ?_
 .intro c;unfold mu0;exact H
 .intro c;unfold mu1;exact H
 .intro c;unfold mu2;exact H
 .intro c;unfold mu3;rw [(zeP s x.G).2];exact H
 .intro c;unfold zjU;exact H
 .intro c;unfold zfl;exact H
 .intro c;unfold zf2;exact H
 .intro c;unfold zff;exact H
 .intro c;unfold zhi;exact H.put _ _ _
 .intro c;unfold UL;split
  .split
   .rename_i hr;rw [hP] at hr;exact H.alloc hp hr
   .exact H
  .exact H
 .intro c;unfold zfG;exact H
 .intro c;unfold zfW;exact H
 .intro c;unfold zjS;exact H
 .intro c;unfold zfN;exact H
 .intro c;unfold zfB;exact H
 .intro c;unfold zfE;exact H
 .intro c;unfold za9;rw [(zeP s x.G).2];exact H
 .intro c;unfold zhh;exact H
 .intro c;unfold zlS;exact H
 .exact H
theorem zAR (s:za) (m:Int) (x:ze):(zai s m x).Batch=x.Batch:=by
 unfold zai
 repeat' split
 all_goals rfl
theorem zFA {s:za}(h:Wy s) (m:Int) {x:ze}(hx:x.Batch.length<1000000):(zu s m x).2.Batch.length<1000000:=by
 refine xY (motive:=fun r=>r.2.Batch.length<1000000) s m x ?_ ?_ ?_ ?_ ?_ ?_ ?_ ?_ ?_ ?_ ?_ ?_ ?_ ?_ ?_ ?_ ?_ ?_ ?_ ?_
 .intro c;unfold mu0;dsimp only;rw [zAR];exact hx
 .intro c;unfold mu1;dsimp only;split<;>exact hx
 .intro c;unfold mu2;exact hx
 .intro c;unfold mu3;dsimp only;split<;>exact hx
 .intro c;unfold zjU;exact hx
 .intro c;unfold zfl;dsimp only;split<;>exact hx
 .intro c;unfold zf2;dsimp only;split<;>exact hx
 .intro c;unfold zff;dsimp only;split<;>exact hx
 .intro c;unfold zhi;exact hx
 .intro c;unfold UL;split
  .split<;>exact hx
  .exact hx
 .intro c;unfold zfG;dsimp only;split<;>exact hx
 .intro c;unfold zfW;dsimp only;split
  .exact hx
  split<;>exact hx
 .intro c;unfold zjS;exact ztT h _
 .intro c;unfold zfN;dsimp only;split<;>exact hx
 .intro c;unfold zfB;dsimp only;cases hb:x.Batch with
  | nil=>show ([]:List Int).length<1000000;simp
  | cons o l=>rw [hb] at hx;show l.length<_;simp at hx;omega
 .intro c;unfold zfE;dsimp only;split<;>exact hx
 .intro c;unfold za9;dsimp only;split<;>exact hx
 .intro c;unfold zhh;exact hx
 .intro c;unfold zlS;exact hx
 .exact hx
theorem zoU {p:zd}(h:zJ p) (m:Int):zh4 p m<1000000:=by
 unfold zh4;rw [zKD];cases hq:p.Regs[(m-1).toNat]? with
 | none=>simp
 | some r=>have:=(h.reg r (zKG hq)).1;show r.length<_;omega
theorem zyQ {p:zd}{nb:Nat}{s:za}(h:zJ p) (E:EOk p nb s) (m:Int):EOk p nb (zQ s m):=by
 unfold zQ;split
 .exact E
 rename_i hc;cases hx:s.Ms[(m-1).toNat]? with
 | none=>exact E
 | some x =>
  have hw1: ¬m<1:=fun e=>hc (.inr (.inl e));have hw2: ¬(s.Ms.length:Int)<m:=fun e=>hc (.inr (.inr e));have ei:(((m-1).toNat:Nat):Int)+1=m:=by omega
  have hX:=E.X _ x hx;rw [ei] at hX;obtain ⟨r1,r2⟩:=zFW h (zwl h m) E.S hX;have T:=zBo s m x;have TH:=zJU h E.S.P E.H m x;have sm:Wy (zu s m x).1:=E.small.turn h T TH;have hms:(zu s m x).1.Ms=s.Ms:=T.ms;have hb:=h.buf;refine ⟨r1.keep rfl rfl rfl,?_,?_,?_,fun i y hy=>?_,fun i y hy=>?_,TH,?_,?_⟩
  .show ((zu s m x).1.Ws.length:Int)=_;rw [T.ws];exact E.wl
  .show ((s.Ms.set _ _).length:Int)=_;rw [zKZ];exact E.ml
  .show (zu s m x).1.Acks.length=(s.Ms.set _ _).length;rw [zKZ,T.ac];exact E.al
  .have hy:(zu s m x).1.Ws[i]? =some y:=hy;rw [T.ws] at hy;exact E.W i y hy
  .rcases zDi hy with ⟨rfl,rfl⟩ | hy
   .rw [ei];exact r2
   .exact E.X i y hy
  .show (0<=(zu s m x).1.D.PC/\(zu s m x).1.D.PC<=6)/\((zu s m x).1.D.PC=3->0<=(zu s m x).1.D.I/\(zu s m x).1.D.I<((s.Ms.set _ _).length:Int));rw [T.d,zKZ];exact E.D
  .have q:=E.small.mu x (zKG hx);have q1:=r2.regs;have q2:=r2.buf;have q3:=zoU h m;have:=sm.setM (i:=(m-1).toNat) (x:=(zu s m x).2) ⟨by omega,by omega,zFA E.small m q.2.2⟩;rw [hms] at this;exact this
theorem zg4 (t:zo) (o:Int):V1 t o=some (yp t o,()):=by
 rw [zCe,zlp,zKA];show (bif zO (t.Marks&&&t.Black) o then _ else _)=_;unfold yp;cases h:zO (t.Marks&&&t.Black) o with
 | true=>rfl
 | false =>
  rw [zM,zlp,zKA];show (bif zO t.Marks o then _ else _)=_;cases h2:zO t.Marks o<;>rfl
theorem zjg (t:zo) (o:Int):Uu t o=some (xm t o,decide (yp t o=1),()):=by
 rw [zxn,zg4,zKA,yq];unfold xm;by_cases h:yp t o=1
 .rw [zb h,zb h,zg7,zKA,zn h]
 .rw [zc h,zc h,zG h]
theorem zv2 {h:zw}(hl:h.Objs.length<1000000) (o s:Int):U3 h o s=some (yy h o s,()):=by
 rw [zpN];simp only [zr];unfold yy;by_cases h1:1<=o
 .rw [zb h1];by_cases h2:o<=(h.Objs.length:Int)
  .rw [zb h2];by_cases h3:0<=s
   .have e:=zKC (show (o-1).toNat<h.Objs.length by omega);rw [zb h3,ya (a:=o-1) (by omega) (by omega),vX,e,zKA,zn h1,zn h2,zn h3];unfold zR;rw [zKD,e];rfl
   .rw [zc h3,zG h3,Bool.and_false];rfl
  .rw [zc h2,zG h2,Bool.and_false];rfl
 .rw [zc h1,zG h1];rfl
theorem zve {h:zw}(hl:h.Objs.length<1000000) (o s:Int):zfU h o s=some (zW h o s,yy h o s,()):=by
 rw [zzC,zv2 hl,zKA];unfold zW;cases hs:yy h o s with
 | false=>rfl
 | true =>
  have hs':=hs;unfold yy at hs';simp only [zKB,decide_eq_true_eq] at hs';obtain ⟨⟨⟨h1,h2⟩,h3⟩,h4⟩:=hs';have e:=zKC (show (o-1).toNat<h.Objs.length by omega);have es:zR h o=h.Objs[(o-1).toNat]'(by omega):=by unfold zR;rw [zKD,e];rfl
  rw [es] at h4;have e2:=zKC (show s.toNat<(h.Objs[(o-1).toNat]'(by omega)).length by omega);simp only [zKU,zM,if_true];rw [ya (a:=o-1) (by omega) (by omega),vX,e,zKA,vX h3,e2,zKA,es,zKD,e2];rfl
theorem zly (l:zy) (who:Int):Z7 l who=some (decide (1<=who)&&decide (who<=(l.Bal.length:Int)),()):=by
 rw [zmL,zr];by_cases h1:1<=who
 .rw [zb h1,zn h1];rfl
 .rw [zc h1,zG h1];rfl
theorem zt0 {l:zy}(hl:l.Bal.length<1000000) (who:Int):zbm l who=some (Ug l who,()):=by
 rw [zuo,xU,zly,zKA];unfold Ug;by_cases h:1<=who/\who<=(l.Bal.length:Int)
 .rw [zb h,zn h.1,zn (show who<=((({l with Scanned:=wc (l.Scanned+1)}:zy).Bal.length:Nat):Int) from h.2)];have hn: ¬l.Bal.isEmpty=true:=by
   intro e;have:l.Bal=[]:=by simpa using e
   rw [this] at h;simp at h;omega
  have hn:l.Bal.isEmpty=false:=by simpa using hn
  have e:=zKC (show (who-1).toNat<l.Bal.length by omega);rw [zLw,zKU,zM,zab];simp only [decide_true,zt,zms (n:=(l.Bal.length:Int)) (by omega) (by omega),zKA,zLg,zLi,hn,zM,xU];rw [yR (a:=who-1) (by omega) (by omega),vN (l:=l.Bal) (by omega) (by omega),zKA,e,zKA,zrt,zKA,zKA,zKA,xU,zKD,e];rfl
 .rw [zc h];have e:(decide (1<=who)&&decide (who<=((({l with Scanned:=wc (l.Scanned+1)}:zy).Bal.length:Nat):Int)))=false:=by
   by_cases h1:1<=who
   .rw [zn h1,zG (fun e=>h ⟨h1,e⟩)];rfl
   .rw [zG h1];rfl
  rw [e];rfl
theorem zvd {α:Type}(o:α) (l:List α):cut (o::l) 1 (((o::l).length:Nat):Int)=some l:=by
 unfold cut;rw [zn (show (0:Int)<=1 by decide),zn (show (1:Int)<=(((o::l).length:Nat):Int) by simp;omega),zn (zLl _)];simp
theorem zuF {p:zd}(h:zJ p) {m:Int}(hm:1<=m/\m<=p.Mutators):p.Progs[(m-1).toNat]? =some (vJ p m):=by
 have:=h.progs;have e:=zKC (show (m-1).toNat<p.Progs.length by omega);unfold vJ;rw [zKD,e];rfl
theorem zpt {p:zd}(h:zJ p) {m:Int}(hm:1<=m/\m<=p.Mutators) {o:zE}(ho:o∈vJ p m):(0<=o.R/\o.R<(zh4 p m:Int))/\(0<=o.A/\o.A<(zh4 p m:Int)):=by
 have hr:=h.regs;have er:=zKC (show (m-1).toNat<p.Regs.length by omega);have e1:zh4 p m=(p.Regs[(m-1).toNat]'(by omega)).length:=by unfold zh4;rw [zKD,er];rfl
 have hl:=(h.reg _ (zKX (show (m-1).toNat<p.Regs.length by omega))).1;obtain ⟨a,b⟩:=(h.prog _ _ _ er (zuF h hm)).2 o ho;rw [e1];refine ⟨a,?_⟩;rcases b with ⟨_,b,_⟩ | ⟨_,b,_⟩ | ⟨_,b,_⟩
 .exact b
 .exact b
 .omega
theorem zk9 {p:zd}(h:zJ p) {s:za}(hP:s.P=p) {m:Int}(hm:1<=m/\m<=p.Mutators) {x:ze}(hi:0<=x.IP/\x.IP<((vJ p m).length:Int)) :
  uc ⟨x,s,m⟩=some (opM p m x,())/\opM p m x∈vJ p m:=by
 have hmt:=h.mt;have e:=zKC (show x.IP.toNat<(vJ p m).length by omega);have eo:opM p m x=(vJ p m)[x.IP.toNat]'(by omega):=by unfold opM;rw [zKD,e];rfl
 rw [zq9];dsimp only;rw [hP,ya (a:=m-1) (by omega) (by omega),vX,zuF h hm,zKA,vX hi.1,e,zKA,eo];exact ⟨rfl,zKX _⟩
theorem zpd {x:ze}{r:Int}(h:0<=r/\r<(x.Regs.length:Int)):idx x.Regs r=some (wV x r):=by
 have e:=zKC (show r.toNat<x.Regs.length by omega);rw [vX h.1,e];unfold wV;rw [zKD,e];rfl
theorem zic {s:za}{m:Int}{x:ze}{r:Int}(h:0<=r/\r<(x.Regs.length:Int)) (hl:x.Regs.length<1000000) (v:Int):Zm r v ⟨x,s,m⟩=some (⟨setM x r v,s,m⟩,()):=by
 rw [zna];simp only [WD (show x.Regs.length<4294967296 by omega),zKA,vN h.1 h.2,Yt,xU];rfl
theorem zsN {p:zd}(h:zJ p) {s:za}(hP:s.P=p) {m:Int}(hm:1<=m/\m<=p.Mutators) {x:ze}(hi:0<=x.IP/\x.IP<((vJ p m).length:Int)) (hr:x.Regs.length=zh4 p m) (ho:s.H.Objs.length<1000000) :
  V3 ⟨x,s,m⟩=some (zs9 s m x,()):=by
 obtain ⟨e1,e2⟩:=zk9 h hP hm hi;have o:=zpt h hm e2;rw [zpH];simp only [e1,zKA,zpd (x:=x) (r:=(opM p m x).A) (by omega),zve ho];unfold zs9;rw [hP]
theorem zpu {p:zd}{nb:Nat}(h:zJ p) {s:za}(S:SOk p nb s) {m:Int}{x:ze}(M:MOk p nb x.G) (to:Int) :
  YT to ⟨x,s,m⟩=some (⟨if (zH s x.G).2.Out=1 then {x with PC:=to,G:=(zH s x.G).2} else {x with G:=(zH s x.G).2},(zH s x.G).1,m⟩,()):=by
 rw [zkb];simp only [zy5 (S.gok h M),zKA,zr];split<;>rfl
theorem zvq (s:za) (x:ze) (m:Int):zbc ⟨x,s,m⟩=some (onM s x.Slot,()):=by
 rw [zrp,zr];unfold onM;split<;>rfl
theorem zr7 (k hd to:Int) (s:za) (x:ze) (m:Int):XI k hd to ⟨x,s,m⟩=some (⟨{x with PC:=to,C:=⟨k,0,hd,zU s.P,0#64,x.Bin,0,0⟩},s,m⟩,()):=by
 rw [zlQ];simp only [zaT,zKA,W7]
theorem zHB {m:List ze}(h:m.length<4294967296):vC m=some (m,()):=by
 rw [VM,zKL,yP h,zKA];cases m with
 | nil=>simp [zeJ]
 | cons a l=>simp
theorem zzG {p:zd}(h:zJ p) {nb:Nat}{s:za}(hP:s.P=p) {m:Int}(hm:1<=m/\m<=p.Mutators) (ha:(s.Acks.length:Int)=p.Mutators) {x:ze}(X:XOk p nb m x) :
  Uz ⟨x,s,m⟩=some (⟨zai s m x,s,m⟩,()):=by
 have hmt:=h.mt;have hip:=X.ip;have hrs:=zoU h m;have e:=zKC (show (m-1).toNat<s.Acks.length by omega);have ed:s.Acks.getD (m-1).toNat 0=s.Acks[(m-1).toNat]'(by omega):=by rw [zKD,e];rfl
 have pg:s.P.Progs[(m-1).toNat]? =some (vJ p m):=by rw [hP];exact zuF h hm
 rw [zli];simp only [zr];rw [ya (a:=m-1) (by omega) (by omega),vX,e,zKA];unfold zai;rw [ed,hP];by_cases c:(s.Acks[(m-1).toNat]'(by omega))<s.Epoch
 .rw [zb c,zb c]
 rw [zc c,zc c,<-hP,vX,pg,zKA,hP];by_cases c2:((vJ p m).length:Int)<=x.IP
 .rw [zb c2,zb c2]
 rw [zc c2,zc c2];obtain ⟨e1,e2⟩:=zk9 h hP hm (x:=x) (show 0<=x.IP/\x.IP<((vJ p m).length:Int) by omega);have o:=zpt h hm e2;have hreg:=X.regs;rw [e1,zKA];by_cases k1:(opM p m x).Kind=1
 .rw [zb k1,zb k1]
 rw [zc k1,zc k1];by_cases k2:(opM p m x).Kind=2
 .rw [zb k2,zb k2]
 rw [zc k2,zc k2];by_cases k3:(opM p m x).Kind=3
 .rw [zb k3,zb k3]
 rw [zc k3,zc k3];by_cases k4:(opM p m x).Kind=4
 .rw [zb k4,zb k4,zpd (x:=x) (r:=(opM p m x).A) (by omega),zKA,zic (x:=x) (r:=(opM p m x).R) (by omega) (by omega)];rfl
 .rw [zc k4,zc k4,zic (x:=x) (r:=(opM p m x).R) (by omega) (by omega)];rfl
theorem zFg {h:zw}(hl:h.Objs.length<1000000) (hs:∀l∈h.Objs,l.length<1000000) (o i v:Int):∃b,zqj h o i v=some (xL h o i v,b,()):=by
 rw [zzT,zv2 hl,zKA];unfold xL;cases ht:yy h o i with
 | false=>rw [zc (fun e=>by cases e.1)];exact ⟨_,rfl⟩
 | true =>
  rw [zKU,zM,zr];by_cases h1:v<0
  .rw [zb h1,zi];exact ⟨_,rfl⟩
  rw [zc h1,zr];by_cases h2:(h.Objs.length:Int)<v
  .rw [zb h2,zi];exact ⟨_,rfl⟩
  have hh:=ht;unfold yy at hh;simp only [zKB,decide_eq_true_eq] at hh;obtain ⟨⟨⟨g1,g2⟩,g3⟩,g4⟩:=hh;have e:=zKC (show (o-1).toNat<h.Objs.length by omega);have es:zR h o=h.Objs[(o-1).toNat]'(by omega):=by unfold zR;rw [zKD,e];rfl
  have hlen:=hs _ (zKG e);rw [zc h2,zb ⟨rfl,by omega,by omega⟩,zkO (by omega),zKA,ya (a:=o-1) (by omega) (by omega),vN (l:=h.Objs) (by omega) (by omega),zKA,e,zKA,WD (by omega),zKA,zKA,zKA];rw [zr,zb rfl,vN g3 (by rw [<-es];exact g4),zKA,es];exact ⟨_,rfl⟩
theorem zq8 {h:zw}(h1:1<=h.Slots/\h.Slots<=4) (h2:h.Objs.length<=64) (h3:∀o∈h.Objs,(o.length:Int)=h.Slots/\∀v∈o,0<=v/\v<=(h.Objs.length:Int)):Xm h=some (true,()):=by
 rw [zno,zr,zb h1.1,zr,zb h1.2,zr,yf,zzc (by omega) (by omega) h3];rfl
theorem zwk {h:zw}(h1:1<=h.Slots/\h.Slots<=4) (h2:h.Objs.length<=64) (h3:∀o∈h.Objs,(o.length:Int)=h.Slots/\∀v∈o,0<=v/\v<=(h.Objs.length:Int)) (hne:h.Objs≠[]) (most:Int) :
  zgl h most=some (if ZL h most=true then (yO h,(h.Objs.length:Int)+1,0,()) else (h,0,4,())):=by
 have hn:h.Objs.length≠0:=fun e=>hne (zLq e);rw [zwv,zq8 h1 h2 h3,zKA,zKU,zM];simp only [zr];have er:ZL h most=true↔(h.Objs.length:Int)<most/\(h.Objs.length:Int)<64:=by unfold ZL;simp
 have hx:(if 64<most then (64:Int) else most)<=(h.Objs.length:Int)↔¬(ZL h most=true):=by
  rw [er];split<;>omega
 by_cases hr:ZL h most=true
 .rw [zc (fun e=>hx.1 e hr),zb hr];have ec:WY h.Objs=some (h.Objs,()):=by
   rw [ziI];simp [hn]
  rw [ec,zKA,zb trivial,znY,zn (show 0<=h.Slots by omega),zn (show h.Slots<4294967296 by omega)];simp only [Bool.and_self,zt,zKA];rw [yP (by simp only [zKO,zMs];omega),zKA];unfold yO;simp
 .rw [zb (hx.2 hr),zc hr]
theorem zEf (t:zo) (o:Int):∃b,zct t o=some (Y0 t o,b,()):=by
 rw [znP,zlh,zKA];unfold Y0;dsimp only;cases hs:(shade t o).2 with
 | false=>rw [zc (by simp)];exact ⟨_,rfl⟩
 | true=>rw [zKU,zM,zjg,zb rfl];exact ⟨_,rfl⟩
theorem zq1 (l:zy) (who price limit:Int):Xd l who price limit=some (zac l who price limit,()):=by
 rw [zkL,zly,zKA];unfold zac Ud;simp only [zr];cases ht:(decide (1<=who)&&decide (who<=(l.Bal.length:Int))) with
 | false=>rw [zM];simp
 | true =>
  rw [zt];by_cases h1:0<=price<;>by_cases h2:0<=limit
  .rw [zb (by split<;>omega)];simp only [zLw,zn h1,zn h2,Option.some.injEq,Prod.mk.injEq,and_true];rw [Bool.eq_iff_iff];simp only [decide_eq_true_eq,zKB];split<;>omega
  .rw [zc (by split<;>omega)];simp [h2]
  .rw [zc (by split<;>omega)];simp [h1]
  .rw [zc (by split<;>omega)];simp [h1]
theorem zx5 {l:zy}{who:Int}(hl:l.Bal.length<1000000) (h:Ud l who=true):idx l.Bal (w64 (who-1))=some (UV l who)/\wg l.Bal (w64 (who-1))=some (who-1).toNat/\l.Bal[(who-1).toNat]? =some (UV l who):=by
 unfold Ud at h;simp only [zKB,decide_eq_true_eq] at h;have e:=zKC (show (who-1).toNat<l.Bal.length by omega);have eb:UV l who=l.Bal[(who-1).toNat]'(by omega):=by unfold UV;rw [zKD,e];rfl
 rw [ya (a:=who-1) (by omega) (by omega),vX,vN,e,eb];exact ⟨rfl,rfl,rfl⟩
theorem zvW {l:zy}(hl:l.Bal.length<1000000) (who price limit:Int):zgd l who price limit=some (zcs l who price limit,()):=by
 rw [zvw,zq1,zKA];unfold zcs;cases hp:zac l who price limit with
 | false=>rfl
 | true =>
  have ht:Ud l who=true:=by unfold zac at hp;simp only [zKB] at hp;exact hp.1.1.1.1
  dsimp only;rw [zt,(zx5 hl ht).1,zKA,xU,zLw,Int.zero_sub]
theorem zqY {l l':zy}(hl:l.Bal.length<1000000) {who:Int}(h:Ud l who=true) (hb:l'.Bal=l.Bal) {v:Int}{Q:Option (zy×Unit)}{f:Int->Option (Int×Unit)}(hf:f (UV l who)=some (v,()))
  (hQ:Q=bif decide (((l'.Bal.length:Int))=((l'.Bal.length:Int))) then (Vo ((l'.Bal.length:Int))).bind fun n1=>bif decide (l'.Bal.length=((List.replicate n1 ((0:Int))).length)) then
   bif l'.Bal.isEmpty then (wg (List.replicate n1 ((0:Int))) (w64 (who-1))).bind fun n2=>((List.replicate n1 ((0:Int)))[n2]?).bind fun x3=>(f x3).bind fun y4=>(wg (List.replicate n1 ((0:Int))) (w64 (who-1))).bind fun n5=>some ({l' with Bal:=(List.replicate n1 ((0:Int))).set n5 y4.1},())
   else (wg l'.Bal (w64 (who-1))).bind fun n6=>(l'.Bal[n6]?).bind fun x7=>(f x7).bind fun y8=>(wg l'.Bal (w64 (who-1))).bind fun n9=>some ({l' with Bal:=l'.Bal.set n9 y8.1},()) else none else none) :
  Q=some ({l' with Bal:=l.Bal.set (who-1).toNat v},()):=by
 obtain ⟨e1,e2,e3⟩:=zx5 hl h;have hne:l.Bal.isEmpty=false:=by
  cases hl2:l.Bal with
  | nil=>rw [hl2] at e3;simp at e3
  | cons a r=>rfl
 rw [hQ,hb,znY,zn (show (0:Int)<=(l.Bal.length:Int) by omega),zn (show (l.Bal.length:Int)<4294967296 by omega)];simp only [decide_true,zt,Bool.and_self,zKA,zLi,zLg,hne,zM,e2,e3,hf]
theorem zB5 {l:zy}(hl:l.Bal.length<1000000) (who price limit:Int):zgX l who price limit=some (if zcs l who price limit=true then (VX l who price,true,()) else (l,false,())):=by
 rw [ztp,zvW hl,zKA];cases hm:zcs l who price limit with
 | false=>rfl
 | true =>
  have ht:Ud l who=true:=by unfold zcs zac at hm;simp only [zKB] at hm;exact hm.1.1.1.1.1
  dsimp only;rw [zKU,zM,zqY (l':={l with Spent:=w64 (l.Spent+price)}) hl ht rfl (f:=fun b=>zaS b price) (v:=wc (UV l who-price)) (by rw [zrb,xU]) (UQ _ _ _),zKA,zb rfl,xU];rfl
theorem zC1 {l:zy}(hl:l.Bal.length<1000000) (who want:Int):zjN l who want=some ((UR l who want).1,(UR l who want).2,()):=by
 rw [zuG,zly,zKA];unfold UR;have em:(bif decide (l.Pool<want) then l.Pool else want)=zhJ want l.Pool:=by rw [zr];rfl
 simp only [em];have et:(decide (1<=who)&&decide (who<=(l.Bal.length:Int)))=Ud l who:=rfl;rw [et];cases ht:Ud l who with
 | false=>rw [zc (fun e=>by cases e.1)];rfl
 | true =>
  rw [zKU,zM,zr];by_cases hz:zhJ want l.Pool<=0
  .rw [zb hz,zi]
  .rw [zc hz,zb ⟨rfl,by omega⟩,zqY (l':={l with Pool:=w64 (l.Pool-zhJ want l.Pool)}) hl ht rfl (f:=fun b=>zbP b (zhJ want l.Pool)) (v:=wc (UV l who+zhJ want l.Pool)) (by rw [zrA,xU]) (U6 _ _ _),zKA,xU]
theorem zB9 {l:zy}(hl:l.Bal.length<1000000) (who price limit:Int):zhb l who price limit=some (zrP l who price limit,()):=by
 rw [ztm,zq1,zKA];unfold zrP;cases hp:zac l who price limit with
 | false=>rfl
 | true =>
  have ht:Ud l who=true:=by unfold zac at hp;simp only [zKB] at hp;exact hp.1.1.1.1
  dsimp only;rw [zKU,zM,zvW hl,zKA,zb rfl];cases hm:zcs l who price limit with
  | false=>rw [zM,(zx5 hl ht).1,zKA,xU];rfl
  | true=>rfl
theorem zCD {p:zd}{nb:Nat}(h:zJ p) {s:za}{x:ze}{m:Int}(S:SOk p nb s) (X:XOk p nb m x) (hm:1<=m/\m<=p.Mutators) (ha:(s.Acks.length:Int)=p.Mutators) (sm:Wy s) (H:HOk p s.H) (hb:x.Buf.length<1000000) (hbt:x.Batch.length<1000000):zay ⟨x,s,m⟩=some (⟨(zu s m x).2,(zu s m x).1,m⟩,()):=by
 have hmt:=h.mt;have hpc:=X.pc;rw [zmk];simp only [zr];unfold zu;by_cases c0:x.PC=0
 .rw [zb c0,zb c0,zzG h S.P hm ha X];rfl
 rw [zc c0,zc c0];by_cases c1:x.PC=1
 .rw [zb c1,zb c1,zkK];simp only [zr];unfold mu1;by_cases e:x.Buf.length=0
  .rw [zb e,zb (by rw [ya];omega)];rfl
  .have ei:=zKC (show x.Buf.length-1<x.Buf.length by omega);have en:((x.Buf.length:Int)-1).toNat=x.Buf.length-1:=by omega
   have ec:cut x.Buf 0 ((x.Buf.length:Int)-1)=some (x.Buf.take (x.Buf.length-1)):=by
    unfold cut;rw [zn (show (0:Int)<=0 by decide),zn (show (0:Int)<=(x.Buf.length:Int)-1 by omega),zn (show (x.Buf.length:Int)-1<=(x.Buf.length:Int) by omega),en];simp
   rw [zc e,ya (a:=(x.Buf.length:Int)-1) (by omega) (by omega),zi,vX,en,ei,zKA,zqe,zKA,ec,zKD,ei];rfl
 rw [zc c1,zc c1];by_cases c2:x.PC=2
 .rw [zb c2,zb c2,zmY];have hs:=sm.acks;simp only [WD (show s.Acks.length<4294967296 by omega),zKA];rw [ya (a:=m-1) (by omega) (by omega),vN (l:=s.Acks) (by omega) (by omega)];rfl
 rw [zc c2,zc c2];have hbl:=sm.bal;have hon:=sm.objs;have hregs:=X.regs;have hrs:=zoU h m;have hHs:=H.slots;have hHn:=H.n;have hpn:=h.n;have hpm:=h.most;have hps:=h.slots;have op:=fun (hi:x.IP<((vJ p m).length:Int))=>zk9 h S.P hm (x:=x) ⟨X.ip.1,hi⟩;by_cases c3:x.PC=3
 .rw [zb c3,zb c3,zkI,zpu h S (X.g (.inl c3)).1];rfl
 rw [zc c3,zc c3];by_cases c10:x.PC=10
 .have hi:=X.op (.inl (by omega));obtain ⟨e1,e2⟩:=op hi;have o:=zpt h hm e2;rw [zb c10,zb c10,zmE,e1,zKA,zsN h S.P hm ⟨X.ip.1,hi⟩ hregs hon,zKA,zic (x:=x) (r:=(opM p m x).R) (by omega) (by omega)];unfold zjU;rw [S.P];rfl
 rw [zc c10,zc c10];by_cases c20:x.PC=20
 .have hi:=X.op (.inl (by omega));obtain ⟨e1,e2⟩:=op hi;have o:=zpt h hm e2;rw [zb c20,zb c20,zm3,e1,zKA];unfold zfl;dsimp only;rw [zpd (x:=x) (r:=(opM p m x).A) (by omega),zKA,zr,S.P];by_cases e:wV x (opM p m x).A=0
  .rw [zb e,zb e,Yt,xU];rfl
  .rw [zc e,zc e,zsN h S.P hm ⟨X.ip.1,hi⟩ hregs hon];rfl
 rw [zc c20,zc c20];by_cases c21:x.PC=21
 .rw [zb c21,zb c21,zkC];unfold zf2;dsimp only;rw [zr];by_cases e:x.Old=0
  .rw [zb e,zb (.inl e)];rfl
  .rw [zc e,zg4,zKA,yq];by_cases e2:yp s.T x.Old=0
   .rw [zb e2,zc (fun h=>h.elim e (fun h=>h e2))];rfl
   .rw [zc e2,zb (.inr e2)];rfl
 rw [zc c21,zc c21];by_cases c22:x.PC=22
 .rw [zb c22,zb c22,zgV];unfold zff;dsimp only;rw [zr];by_cases e:s.P.Buf<=(x.Buf.length:Int)
  .rw [zb e,zb e];rfl
  .rw [zc e,zc e,WD (by omega),zKA,yP (by simp;omega)];rfl
 rw [zc c22,zc c22];by_cases c23:x.PC=23
 .have hi:=X.op (.inl (by omega));obtain ⟨e1,e2⟩:=op hi;have o:=zpt h hm e2;obtain ⟨b,ep⟩:=zFg hon sm.obj (wV x (opM p m x).A) (opM p m x).S (wV x (opM p m x).R);rw [zb c23,zb c23,zkH,e1,zKA];dsimp only;rw [zpd (x:=x) (r:=(opM p m x).A) (by omega),zKA,zpd (x:=x) (r:=(opM p m x).R) (by omega),zKA,ep,zKA,Yt,xU];unfold zhi;rw [S.P];rfl
 rw [zc c23,zc c23];by_cases c30:x.PC=30
 .have hi:=X.op (.inl (by omega));obtain ⟨e1,e2⟩:=op hi;have o:=zpt h hm e2;have hne:s.H.Objs≠[]:=fun e=>by
   have e2:s.H.Objs.length=0:=by rw [e];rfl
   omega
  rw [zb c30,zb c30,zk0];unfold UL;dsimp only;rw [zB5 hbl,zKA];cases hmay:zcs s.L m s.P.Price s.P.Limit with
  | false=>rfl
  | true =>
   rw [zb rfl,zb rfl];dsimp only;rw [zKU,zM,zwk (show 1<=s.H.Slots/\s.H.Slots<=4 by rw [hHs];omega) (show s.H.Objs.length<=64 by omega) H.objs hne,zKA];cases hr:ZL s.H s.P.Most with
   | false =>
    rw [zc (by simp),zc (by simp)];dsimp only;rw [yq,zc (by decide),Yt,xU];rfl
   | true =>
    rw [zb rfl,zb rfl];dsimp only;obtain ⟨b,ef⟩:=zEf s.T ((s.H.Objs.length:Int)+1);rw [yq,zb rfl,ef,zKA];have e3:=(zk9 h (s:={s with H:=yO s.H,T:=Y0 s.T ((s.H.Objs.length:Int)+1),L:=VX s.L m s.P.Price}) S.P hm (x:=x) ⟨X.ip.1,hi⟩).1;rw [e3,zKA,zic (x:=x) (r:=(opM p m x).R) (by omega) (by omega),yR];rw [S.P];rfl
 rw [zc c30,zc c30];by_cases c31:x.PC=31
 .rw [zb c31,zb c31,zl7];unfold zfG;dsimp only;rw [zB9 hbl,zKA,zC1 hbl,zKA,zr];by_cases e:(UR s.L m (zrP s.L m s.P.Price s.P.Limit)).2=0
  .rw [zb e,zb e,zcG,zKA,zr7];rfl
  .rw [zc e,zc e];rfl
 rw [zc c31,zc c31];by_cases c32:x.PC=32
 .rw [zb c32,zb c32,zmX];unfold zfW;dsimp only;rw [ze9 (by have:=S.mem;omega),zKA,zr,zr];by_cases e:(zD s.M x.C).2.Out=1
  .rw [zb e,zb e];rfl
  .rw [zc e,zc e];by_cases e2:(zD s.M x.C).2.Out=2
   .rw [zb e2,zb e2];rfl
   .rw [zc e2,zc e2];rfl
 rw [zc c32,zc c32];by_cases c33:x.PC=33
 .have B:=X.b33 c33;have hbn:=S.bins;have hnb:=S.nbk;have e:=zKC (show x.Bin.toNat<s.Bins.length by omega);rw [zb c33,zb c33,zkM];unfold zjS;dsimp only;rw [vX,e,zKA,zkO (by omega),zKA,vN (l:=s.Bins) (by omega) (by omega),zKA,zdE,zKA,zr7];have eb:VY s x.Bin=s.Bins[x.Bin.toNat]'(by omega):=by unfold VY;rw [zKD,e];rfl
  rw [eb];rfl
 rw [zc c33,zc c33];by_cases c34:x.PC=34
 .rw [zb c34,zb c34,zlI];unfold zfN;dsimp only;rw [ze9 (by have:=S.mem;omega),zKA,zr];by_cases e:(zD s.M x.C).2.Out=1
  .rw [zb e,zb e];rfl
  .rw [zc e,zc e];rfl
 rw [zc c34,zc c34];by_cases c35:x.PC=35
 .rw [zb c35,zb c35,zkz];unfold zfB;dsimp only;rw [zr];cases hbb:x.Batch with
  | nil=>rw [zc (by simp)];rfl
  | cons o l =>
   have:idx (o::l) 0=some o:=by rw [vX];rfl
   rw [zb (by simp),this,zKA,zvd];rfl
 rw [zc c35,zc c35];by_cases c36:x.PC=36
 .rw [zb c36,zb c36,zl9];unfold zfE;dsimp only;rw [zve hon,zKA,zvq,zKA,yq,xU];by_cases e:zW s.H x.Obj x.Slot=0
  .rw [zb e,zb e];rfl
  .rw [zc e,zc e,zqe];rfl
 rw [zc c36,zc c36];by_cases c37:x.PC=37
 .rw [zb c37,zb c37,zm6,zvq,zKA,zpu h S (X.g (.inr c37)).1];rfl
 rw [zc c37,zc c37];by_cases c38:x.PC=38
 .rw [zb c38,zb c38,ziV];unfold zhh;dsimp only;rw [zjg,zKA,zt0 hbl];rfl
 rw [zc c38,zc c38];have c39:x.PC=39:=by omega
 rw [zb c39,zb c39,zi6,xU];rfl
theorem zB8 {p:zd}{nb:Nat}{s:za}(h:zJ p) (E:EOk p nb s) (m:Int):zhg s m=some (zQ s m,()):=by
 rw [ztv];simp only [zr];unfold zQ;cases hd:s.Done with
 | true=>rw [zt,zb (.inl rfl)]
 | false =>
  rw [zM];by_cases h1:m<1
  .rw [zb h1,zb (.inr (.inl h1))]
  rw [zc h1];by_cases h2:(s.Ms.length:Int)<m
  .rw [zb h2,zb (.inr (.inr h2))]
  have hml:=E.ml;have hal:=E.al;have hmt:=h.mt;have e:=zKC (show (m-1).toNat<s.Ms.length by omega);have ei:(((m-1).toNat:Nat):Int)+1=m:=by omega
  have hX:=E.X _ _ e;rw [ei] at hX;have hb:=(E.small.mu _ (zKG e)).2;have T:=zBo s m (s.Ms[(m-1).toNat]'(by omega));rw [zc h2,zc (fun e=>e.elim (fun h=>by cases h) (fun e=>e.elim h1 h2)),ya (a:=m-1) (by omega) (by omega),vX,e,zKA,zCD h E.S hX (by omega) (by omega) E.small E.H hb.1 hb.2,zKA];simp only [T.ms,zHB (show s.Ms.length<4294967296 by omega),zKA,vN (l:=s.Ms) (show 0<=m-1 by omega) (show m-1<(s.Ms.length:Int) by omega)]
theorem zC7 {p:zd}{nb:Nat}{s:za}(h:zJ p) (E:EOk p nb s):zjB s=some (wb s,()):=by
 rw [zus,xU];simp only [zr,yq];have ag:∀s:za,UU s=some ({s with Restarts:=wc (s.Restarts+1),D:={s.D with PC:=0}},()):=fun s=>by rw [zp5,xU]
 unfold wb;by_cases hd:s.Done=true
 .rw [cond_eq_ite,zb hd,zb hd]
 .rw [cond_eq_ite,zc hd,zc hd];by_cases c0:s.D.PC=0
  .rw [zb c0,zb c0]
  rw [zc c0,zc c0];by_cases c1:s.D.PC=1
  .rw [zb c1,zb c1];by_cases w:s.Work=0
   .rw [zb w,zb w]
   .rw [zc w,zc w]
  rw [zc c1,zc c1];by_cases c2:s.D.PC=2
  .rw [zb c2,zb c2];by_cases w:s.Ms.length=0
   .rw [zb (show (s.Ms.length:Int)=0 by omega),zb w]
   .rw [zc (show ¬(s.Ms.length:Int)=0 by omega),zc w]
  rw [zc c2,zc c2];by_cases c3:s.D.PC=3
  .have hi:=E.D.2 c3;have ha:=E.al;have e:=zKC (show s.D.I.toNat<s.Acks.length by omega);have ed:s.Acks.getD s.D.I.toNat 0=s.Acks[s.D.I.toNat]'(by omega):=by rw [zKD,e];rfl
   rw [zb c3,zb c3,vX hi.1,e,zKA,ed];by_cases w:(s.Acks[s.D.I.toNat]'(by omega))<s.Epoch
   .rw [zb w,zb w]
   .rw [zc w,zc w];by_cases v:wc (s.D.I+1)=(s.Ms.length:Int)
    .rw [zb v,zb v]
    .rw [zc v,zc v,c3]
  rw [zc c3,zc c3];by_cases c4:s.D.PC=4
  .rw [zb c4,zb c4];by_cases w:s.Work=0
   .rw [zb w,zb w]
   .rw [zc w,zc w,ag];rfl
  rw [zc c4,zc c4];by_cases c5:s.D.PC=5
  .rw [zb c5,zb c5];by_cases hf:s.Flag=true
   .rw [cond_eq_ite,zb hf,zb hf,ag];rfl
   .rw [cond_eq_ite,zc hf,zc hf]
  rw [zc c5,zc c5];by_cases c6:s.D.PC=6
  .rw [zb c6,zb c6]
  .rw [zc c6,zc c6]
theorem zHt {m:List zj}(h:m.length<4294967296):vS m=some (m,()):=by
 rw [UF,zKL,yP h,zKA];cases m with
 | nil=>simp [zeJ]
 | cons a l=>simp
theorem zHd {n v:Int}(h:1<=v/\v<=n) (hn:n<1000000):w64 (v.tmod n+1)=zld n v:=by
 unfold zld;rw [Int.tmod_eq_emod_of_nonneg (by omega)];by_cases hv:v<n
 .rw [zb hv,Int.emod_eq_of_lt (by omega) hv,ya]
 .have:v=n:=by omega
  rw [zc hv,this,Int.emod_self,ya];rfl
theorem zCF {p:zd}(h:zJ p) {s:za}(hP:s.P=p) (hl:(s.Ws.length:Int)=p.Workers) {x:zj}(hv:1<=x.Victim/\x.Victim<=p.Workers) (w:Int) :
  WB ⟨x,s,w⟩=some (⟨Yi p w x,s,w⟩,()):=by
 have hw:=h.wk;rw [zni];simp only [zr,hl];rw [zc (show ¬p.Workers=0 by omega),zHd hv (by omega)];unfold Yi;by_cases e:zld p.Workers x.Victim=w
 .rw [zb e,zb e,zcG,zKA,zfT];simp only [zaT,zKA,W7,e,hP];rfl
 .rw [zc e,zc e,ziP];simp only [zbw,zKA,zaY,hP]
theorem zsu {p:zd}{s:za}(hP:s.P=p) (x:zj) (w:Int):uM ⟨x,s,w⟩=some (⟨zah p w x,s,w⟩,()):=by
 rw [zmj,ziP];simp only [zbw,zKA,zaY,hP];rfl
theorem zy7 (s:za) (x:zj) (w:Int):VW ⟨x,s,w⟩=some (onW s x.Slot,()):=by
 rw [zr9,zr];unfold onW;split<;>rfl
theorem zt6 {s:za}(hm:s.M.length<4294967296) (x:zj) (w:Int):Zo ⟨x,s,w⟩=some ((zD s.M x.C).2.Out,⟨{x with C:=(zD s.M x.C).2},{s with M:=(zD s.M x.C).1},w⟩,()):=by
 rw [zng];simp only [ze9 hm,zKA]
theorem zvC {p:zd}(h:zJ p) {s:za}(hP:s.P=p) (hm:s.M.length<4294967296) (hl:(s.Ws.length:Int)=p.Workers) {x:zj}(hv:1<=x.Victim/\x.Victim<=p.Workers) (hc:x.D.Cap<1000) {w:Int}(h01:x.PC=0\/x.PC=1) :
  Vr ⟨x,s,w⟩=some (⟨(zx s w x).2,(zx s w x).1,w⟩,()):=by
 unfold zx;rw [zb h01,zoy];simp only [zD8 hm hc,zKA,zr];by_cases o1:(yj s.M x.D).2.Out=1
 .rw [zb o1,zb o1,zda];rfl
 .rw [zc o1,zc o1];have hk:=fun (x':zj) (e:x'.Victim=x.Victim)=>zCF h (s:={s with M:=(yj s.M x.D).1}) hP hl (x:=x') (by rw [e];exact hv) w;by_cases o4:(yj s.M x.D).2.Out=4
  .rw [zb o4,zb (.inr o4),hk {x with D:=(yj s.M x.D).2} rfl,zKA,hP]
  .rw [zc o4];by_cases o2:(yj s.M x.D).2.Out=2
   .rw [zb o2,zb (.inl o2),hk {x with D:=(yj s.M x.D).2} rfl,zKA,hP]
   .rw [zc o2,zi]
theorem zEe {p:zd}{nb:Nat}(h:zJ p) {s:za}{x:zj}{w:Int}(S:SOk p nb s) (W:WOk p nb w x) (hl:(s.Ws.length:Int)=p.Workers) (sm:Wy s) :
  za3 ⟨x,s,w⟩=some (⟨(zx s w x).2,(zx s w x).1,w⟩,()):=by
 have hP:=S.P;have hm:s.M.length<4294967296:=by have:=S.mem;omega
 have hc:=h.cap;rw [zm9];simp only [zr];by_cases c0:x.PC=0
 .rw [zb c0,zb c0,zvC h hP hm hl W.vic (by have:=(W.d0 c0).2.2;omega) (.inl c0),zKA]
 rw [zc c0];by_cases c1:x.PC=1
 .rw [zb c1,zvC h hP hm hl W.vic (by have:=(W.d1 c1).2.2;omega) (.inr c1),zKA]
 rw [zc c1];unfold zx;rw [zc (show ¬(x.PC=0\/x.PC=1) by omega)];by_cases c2:x.PC=2
 .rw [zb c2,zb c2,zt6 hm,zKA];simp only [zsu (s:={s with M:=(zD s.M x.C).1}) hP];by_cases o1:(zD s.M x.C).2.Out=1
  .rw [zb o1,zb o1]
  .rw [zc o1,zc o1];by_cases o2:(zD s.M x.C).2.Out=2
   .rw [zb o2,zb o2,zKA,hP]
   .rw [zc o2,zc o2]
 rw [zc c2,zc c2];by_cases c3:x.PC=3
 .have B:=W.b3 c3;have hb:=S.bins;have hnb:=S.nbk;have e:=zKC (show x.Bin.toNat<s.Bins.length by omega);rw [zb c3,zb c3,znh];dsimp only;rw [vX,e,zKA,zkO (by omega),zKA,vN (l:=s.Bins) (by omega) (by omega),zKA,zdE,zKA,zfT];simp only [zaT,zKA,W7];unfold VY;rw [zKD,e];rfl
 rw [zc c3,zc c3];by_cases c4:x.PC=4
 .rw [zb c4,zb c4,zt6 hm,zKA];dsimp only;by_cases o1:(zD s.M x.C).2.Out=1
  .rw [zb o1,zb o1]
  .rw [zc o1,zc o1]
 rw [zc c4,zc c4];by_cases c5:x.PC=5
 .rw [zb c5,zb c5,zmS];simp only [zve sm.objs,zKA,zr,zy7,zqe,xU];by_cases v:zW s.H x.Obj x.Slot=0
  .rw [zb v,zb v];rfl
  .rw [zc v,zc v];rfl
 rw [zc c5,zc c5];by_cases c6:x.PC=6
 .obtain ⟨g1,g2,g3,g4⟩:=W.g6 c6;rw [zb c6,zb c6];simp only [zy5 (S.gok h g1),zKA,zy7];have eH:(zH s x.G).1.H=s.H:=(zeP s x.G).2;by_cases o1:(zH s x.G).2.Out=1
  .rw [zb o1,zb o1];unfold onW;rw [eH]
  .rw [zc o1,zc o1]
 rw [zc c6,zc c6];by_cases c7:x.PC=7
 .rw [zb c7,zb c7];cases hb:x.Batch with
  | nil=>rw [zb (by simp),zsu hP,zKA,hP]
  | cons o l =>
   rw [zc (by simp;omega),vX];simp only [Int.toNat_zero,zLF,zKA,zda,hb];rw [zvd];rfl
 rw [zc c7,zc c7];by_cases c8:x.PC=8
 .rw [zb c8,zb c8];simp only [zjg,zKA,zt0 sm.bal]
 rw [zc c8,zc c8];by_cases c9:x.PC=9
 .rw [zb c9,zb c9,xU]
 .rw [zc c9,zc c9]
theorem zCR {p:zd}{nb:Nat}{s:za}(h:zJ p) (E:EOk p nb s) (w:Int):zkc s w=some (zS s w,()):=by
 rw [zum];simp only [zr];unfold zS;cases hd:s.Done with
 | true=>rw [zt,zb (.inl rfl)]
 | false =>
  rw [zM];by_cases h1:w<1
  .rw [zb h1,zb (.inr (.inl h1))]
  rw [zc h1];by_cases h2:(s.Ws.length:Int)<w
  .rw [zb h2,zb (.inr (.inr h2))]
  have hwl:=E.wl;have hwk:=h.wk;have e:=zKC (show (w-1).toNat<s.Ws.length by omega);have ei:(((w-1).toNat:Nat):Int)+1=w:=by omega
  have hW:=E.W _ _ e;rw [ei] at hW;obtain ⟨T,TH⟩:=zyI s w (s.Ws[(w-1).toNat]'(by omega));rw [zc h2,zc (fun e=>e.elim (fun h=>by cases h) (fun e=>e.elim h1 h2)),ya (a:=w-1) (by omega) (by omega),vX,e,zKA,zEe h E.S hW hwl E.small,zKA];simp only [T.ws,zHt (show s.Ws.length<4294967296 by omega),zKA,vN (l:=s.Ws) (show 0<=w-1 by omega) (show w-1<(s.Ws.length:Int) by omega)]
theorem ub (s:za) (g:zK):(zH s g).1={s with M:=(zH s g).1.M,Bins:=(zH s g).1.Bins,T:=(zH s g).1.T,Work:=(zH s g).1.Work,Flag:=(zH s g).1.Flag}:=by
 obtain ⟨m,b,t,wk,f,e,_⟩:=zfH s g;rw [e]
theorem zky {p:zd}{nb:Nat}{s:za}{w:Int}{x:zj}(W:WOk p nb w x):(zx s w x).1={s with M:=(zx s w x).1.M,Bins:=(zx s w x).1.Bins,T:=(zx s w x).1.T,Work:=(zx s w x).1.Work,L:=(zx s w x).1.L}:=by
 unfold zx;split
 .rfl
 split
 .rfl
 split
 .rfl
 split
 .rfl
 split
 .rfl
 split
 .rename_i h6;obtain ⟨g1,g2,g3,g4⟩:=W.g6 h6;have hf:=(zDy s g3 g4).2;obtain ⟨m,b,t,wk,f,e,_⟩:=zfH s x.G;dsimp only;rw [e] at hf ⊢;have hf:f=s.Flag:=hf;rw [hf]
 split
 .rfl
 split
 .rfl
 split<;>rfl
theorem zn4 (s:za) (m:Int) (x:ze):(zu s m x).1={s with H:=(zu s m x).1.H,M:=(zu s m x).1.M,Bins:=(zu s m x).1.Bins,T:=(zu s m x).1.T,Work:=(zu s m x).1.Work,Flag:=(zu s m x).1.Flag,Acks:=(zu s m x).1.Acks,L:=(zu s m x).1.L}:=by
 have g:∀g:zK,(zH s g).1={s with H:=(zH s g).1.H,M:=(zH s g).1.M,Bins:=(zH s g).1.Bins,T:=(zH s g).1.T,Work:=(zH s g).1.Work,Flag:=(zH s g).1.Flag,Acks:=(zH s g).1.Acks,L:=(zH s g).1.L}:=fun g=>by
  obtain ⟨m,b,t,wk,f,e,_⟩:=zfH s g;rw [e]
 refine xY (motive:=fun r=>r.1={s with H:=r.1.H,M:=r.1.M,Bins:=r.1.Bins,T:=r.1.T,Work:=r.1.Work,Flag:=r.1.Flag,Acks:=r.1.Acks,L:=r.1.L}) s m x ?_ ?_ ?_ ?_ ?_ ?_ ?_ ?_ ?_ ?_ ?_ ?_ ?_ ?_ ?_ ?_ ?_ ?_ ?_ ?_
 .exact fun _=>rfl
 .exact fun _=>rfl
 .exact fun _=>rfl
 .exact fun _=>g x.G
 .exact fun _=>rfl
 .exact fun _=>rfl
 .exact fun _=>rfl
 .exact fun _=>rfl
 .exact fun _=>rfl
 .intro _;unfold UL;split
  .split<;>rfl
  .rfl
 .exact fun _=>rfl
 .exact fun _=>rfl
 .exact fun _=>rfl
 .exact fun _=>rfl
 .exact fun _=>rfl
 .exact fun _=>rfl
 .exact fun _=>g x.G
 .exact fun _=>rfl
 .exact fun _=>rfl
 .rfl
def YB (s:za) (k:Int):za:=if k=0 then wb s else if k<=(s.Ws.length:Int) then zS s k else zQ s (k-s.Ws.length)
theorem zep {p:zd}{nb:Nat}{s:za}(E:EOk p nb s) (w:Int):zS s w={s with M:=(zS s w).M,Bins:=(zS s w).Bins,T:=(zS s w).T,Work:=(zS s w).Work,L:=(zS s w).L,Ws:=(zS s w).Ws}:=by
 unfold zS;split
 .rfl
 rename_i hc;cases hx:s.Ws[(w-1).toNat]? with
 | none=>rfl
 | some x =>
  have hW:=E.W _ _ hx;rw [show (((w-1).toNat:Nat):Int)+1=w by omega] at hW;dsimp only;rw [zky hW]
structure AI (k:Int) (s:za):Prop where
 ep:0<=s.Epoch/\s.Epoch<=k
 m:∀(i:Nat) x,s.Ms[i]? =some x->s.Acks.getD i 0<=s.Epoch/\(x.PC=2\/((x.PC=1\/x.PC=3)/\x.Ret=2)->s.Acks.getD i 0<=x.Want/\x.Want<=s.Epoch)/\(x.PC=2->x.Buf=[])
def zJZ (s s':za):Prop:=∀(i:Nat) x',s'.Ms[i]? =some x'->s.Acks.getD i 0<=s'.Acks.getD i 0/\s'.Acks.getD i 0<=s'.Epoch/\(s.Acks.getD i 0<s'.Acks.getD i 0->x'.Buf=[])
theorem AI.same {k:Int}{s s':za}(A:AI k s) (e1:s'.Epoch=s.Epoch) (e2:s'.Ms=s.Ms) (e3:s'.Acks=s.Acks):AI (k+1) s'/\zJZ s s':=by
 refine ⟨⟨by rw [e1];have:=A.ep;omega,by rw [e1,e2,e3];exact A.m⟩,fun i x hx=>?_⟩;rw [e2] at hx;rw [e3,e1];exact ⟨zLl _,(A.m i x hx).1,fun e=>by omega⟩
theorem zvh {α:Type}{l:List α}{i j:Nat}{v d:α}(h:i<l.length):(l.set i v).getD j d=if i=j then v else l.getD j d:=by
 rw [zKD,zKD,zLp];by_cases e:i=j
 .rw [zb e,zb e,zb h];rfl
 .rw [zc e,zc e]
def goF {S:Type}(g:Nat->S->S):Nat->Nat->S->S
 | _,0,s=>s
 | i,k+1,s=>goF g (i+1) k (g i s)
theorem zIH {S σ B C:Type}{f:σ->Option (yN σ B C)}(A:Int->S->σ) (b:S->B) (n:Nat) (hn:n<1000000) (g:Nat->S->S) (Inv:S->Prop) (hg:∀i s,Inv s->Inv (g i s))
  (h1:∀(i:Nat) s,i<n->Inv s->f (A (i:Int) s)=some (.again (A ((i+1:Nat):Int) (g i s)))) (h2:∀s,Inv s->f (A (n:Int) s)=some (.brk (b s))) {s:S}(hs:Inv s) :
  yc f (A 0 s)=some (.brk (b (goF g 0 n s))):=by
 have key:∀(k i:Nat) (s:S),n-i=k->i<=n->Inv s->∀m,k<m->yY f m (A (i:Int) s)=some (.brk (b (goF g i k s))):=by
  intro k
  induction k with
  | zero =>
   intro i s hk hi hs m hm;have:i=n:=by omega
   subst this;obtain ⟨m,rfl⟩:∃x,m=x+1:=⟨m-1,by omega⟩
   simp only [yY];rw [h2 s hs];rfl
  | succ k ih =>
   intro i s hk hi hs m hm;obtain ⟨m,rfl⟩:∃x,m=x+1:=⟨m-1,by omega⟩
   simp only [yY];rw [h1 i s (by omega) hs,zKA];exact ih (i+1) _ (by omega) (by omega) (hg i s hs) m (by omega)
 have:=key n 0 s (by omega) (by omega) hs vV (v9 (by omega));rw [Y3];exact this
def Zq (s:za) (x:zk):za :=
 if x.Kind=0 then (if x.N=0 then wb s else s)
 else if x.Kind=1 then (if 1<=x.N/\x.N<=16 then zS s x.N else s)
 else if x.Kind=2 then (if 1<=x.N/\x.N<=16 then zQ s x.N else s)
 else s
theorem zI3 {p:zd}{nb:Nat}{s:za}(h:zJ p) (E:EOk p nb s) (x:zk):EOk p nb (Zq s x):=by
 unfold Zq;split
 .split
  .exact zH1 h E
  .exact E
 split
 .split
  .exact zuv h E _
  .exact E
 split
 .split
  .exact zyQ h E _
  .exact E
 .exact E
theorem zub {p:zd}{nb:Nat}{s:za}(h:zJ p) (E:EOk p nb s) (x:zk):zd7 s x=some (Zq s x,()):=by
 rw [zuE,zwe];unfold Zq;by_cases k0:x.Kind=0
 .rw [zn k0,zt,zt,zb k0,zKA];by_cases n0:x.N=0
  .rw [zn n0,zb n0,zKU,zM,zrE,zC7 h E];rfl
  .rw [zG n0,zc n0];rfl
 rw [zG k0,zM,zM,zc k0];have key:(bif decide (1<=x.N) then some (decide (x.N<=16),()) else some (false,()):Option (Bool×Unit))=some (decide (1<=x.N/\x.N<=16),()):=by
  by_cases a:1<=x.N
  .by_cases b:x.N<=16
   .rw [zn a,zn b,zn (show 1<=x.N/\x.N<=16 from ⟨a,b⟩)];rfl
   .rw [zn a,zG b,zG (show ¬(1<=x.N/\x.N<=16) from fun e=>b e.2)];rfl
  .rw [zG a,zG (show ¬(1<=x.N/\x.N<=16) from fun e=>a e.1)];rfl
 rw [key];by_cases k1:x.Kind=1
 .rw [zn k1,zt,zt,zb k1,zKA];by_cases n0:1<=x.N/\x.N<=16
  .rw [zn n0,zb n0,zKU,zM,zCR h E];rfl
  .rw [zG n0,zc n0];rfl
 rw [zG k1,zM,zM,zc k1];by_cases k2:x.Kind=2
 .rw [zn k2,zt,zt,zb k2,zKA];by_cases n0:1<=x.N/\x.N<=16
  .rw [zn n0,zb n0,zKU,zM,zB8 h E];rfl
  .rw [zG n0,zc n0];rfl
 .rw [zG k2,zM,zM,zc k2];rfl
def zaE (p:zd) (x:zk):Prop:=(x.Kind=0/\x.N=0)\/(x.Kind=1/\1<=x.N/\x.N<=p.Workers)\/(x.Kind=2/\1<=x.N/\x.N<=p.Mutators)
def zfP (p:zd) (x:zk):Int:=if x.Kind=0 then 0 else if x.Kind=1 then x.N else p.Workers+x.N
theorem zzf {p:zd}{nb:Nat}{s:za}(h:zJ p) (E:EOk p nb s) {x:zk}(hx:zaE p x):Zq s x=YB s (zfP p x):=by
 have hw:=h.wk;have hm:=h.mt;have hwl:=E.wl;rcases hx with ⟨a,b⟩ | ⟨a,b,c⟩ | ⟨a,b,c⟩
 .have ek:zfP p x=0:=zb a;rw [ek];unfold Zq YB;rw [zb a,zb b,zb rfl]
 .have ek:zfP p x=x.N:=by unfold zfP;rw [zc (by rw [a];decide),zb a]
  rw [ek];unfold Zq YB;rw [zc (by rw [a];decide),zb a,zb ⟨b,by omega⟩,zi,yf]
 .have ek:zfP p x=p.Workers+x.N:=by unfold zfP;rw [zc (by rw [a];decide),zc (by rw [a];decide)]
  rw [ek];unfold Zq YB;rw [zc (by rw [a];decide),zc (by rw [a];decide),zb a,zb ⟨b,by omega⟩,zi,zi];congr 1;omega
def zbE:za->List zk->za×Int
 | s,[]=>(s,0)
 | s,x::l=>if s.Done=true then (s,0) else ((zbE (Zq s x) l).1,(zbE (Zq s x) l).2+1)
theorem zsE (s:za) (x:zk) (l:List zk):zbE s (x::l)=if s.Done=true then (s,0) else ((zbE (Zq s x) l).1,(zbE (Zq s x) l).2+1):=rfl
theorem zEM {p:zd}{nb:Nat}{s:za}(h:zJ p) (E:EOk p nb s) {l:List zk}(hl:l.length<1000000):Vk s l=some ((zbE s l).1,(zbE s l).2,()):=by
 rw [zwV];obtain ⟨o,e,ho⟩:=vq (f:=zgc) (fun a=>∃(i:Nat) (t:za),i<=l.length/\EOk p nb t/\a=(l,l,(l.length:Int),(i:Int),t,0,0,0,0,0,0,0,0,0,0#64,0,zo.mk 0#64 0#64,0,0,false,false,0,0,0,0,zN.mk 0 0,([]:List (List Int)),([]:List (List Int)),([]:List (List zE)),([]:List zk),([]:List (List Int)),([]:List (BitVec 64)),([]:List (List Int)),([]:List Int),([]:List Int),([]:List zj),([]:List ze),())/\(zbE s l).1=(zbE t (l.drop i)).1/\(zbE s l).2=(i:Int)+(zbE t (l.drop i)).2) (fun a=>l.length-a.2.2.2.1.toNat)
  (fun o=>o= .brk (l,(zbE s l).1,0,0,0,0,0,0,0,0,0,0#64,0,zo.mk 0#64 0#64,0,0,false,false,0,0,0,0,zN.mk 0 0,([]:List (List Int)),([]:List (List Int)),([]:List (List zE)),([]:List zk),([]:List (List Int)),([]:List (BitVec 64)),([]:List (List Int)),([]:List Int),([]:List Int),([]:List zj),([]:List ze),())/\(zbE s l).2=(l.length:Int)\/o= .ret ((zbE s l).2,(zbE s l).1,())) (by
  rintro _ ⟨i,t,hi,F,rfl,r1,r2⟩;rw [zr4,zr];by_cases c1:(i:Int)<(l.length:Int)
  .have hx:=zKC (show i<l.length by omega);have hd:=zLh (show i<l.length by omega);generalize l[i]'(by omega)=x at hx hd;rw [zb c1,xz hx,zKA];rw [hd] at r1 r2;cases hD:t.Done with
   | true =>
    rw [zsE,zb hD] at r1 r2;refine ⟨_,rfl,.inr ?_⟩;rw [r1,r2];simp
   | false =>
    rw [zsE,zc (by rw [hD];decide)] at r1 r2;rw [zM,zub h F,zKA,yS];refine ⟨_,rfl,⟨i+1,Zq t x,by omega,zI3 h F x,rfl,r1,?_⟩,?_⟩
    .rw [r2];dsimp only;omega
    .show l.length-((i+1:Nat):Int).toNat<l.length-(i:Int).toNat;omega
  .rw [zc c1];have ei:i=l.length:=by omega
   subst ei;rw [List.drop_length] at r1 r2;refine ⟨_,rfl,.inl ⟨?_,?_⟩⟩
   .rw [r1];rfl
   .rw [r2];show (l.length:Int)+0=_;omega) (l,l,(l.length:Int),0,s,0,0,0,0,0,0,0,0,0,0#64,0,zo.mk 0#64 0#64,0,0,false,false,0,0,0,0,zN.mk 0 0,([]:List (List Int)),([]:List (List Int)),([]:List (List zE)),([]:List zk),([]:List (List Int)),([]:List (BitVec 64)),([]:List (List Int)),([]:List Int),([]:List Int),([]:List zj),([]:List ze),()) ⟨0,s,by omega,E,rfl,by rw [List.drop_zero],by rw [List.drop_zero];omega⟩ (by show l.length-0<18446744073709551616;omega)
 rw [e];rcases ho with ⟨rfl,hn⟩ | rfl
 .rw [hn];rfl
 .rfl
namespace B20
theorem zIf {a b:Int}(ha:0<=a) (hb:0<b):0<=a.tmod b/\a.tmod b<b:=by
 rw [Int.tmod_eq_emod_of_nonneg ha];exact ⟨Int.emod_nonneg _ (by omega),Int.emod_lt_of_pos _ hb⟩
theorem zur {p:zd}(ord:List (BitVec 8)) (n:Nat) (hn:n<1000000) (i:Nat) (hi:i<ord.length) (x:zk) (hx:zaE p x) (l:List zk) (hl:l.length<n) (hp:∀y∈l,zaE p y) :
  ∃o,yc uy (ord,(n:Int),(i:Int),0,p,l,x,())=some o/\∃l',o= .brk (ord,(n:Int),(i:Int),p,l',())/\(l.length<l'.length/\l'.length<=n)/\∀y∈l',zaE p y:=by
 have hb:=ord[i].isLt;have hdv:w64 (((ord[i]).toNat:Int).tdiv 64)=((ord[i].toNat/64:Nat):Int):=by rw [ya (by rw [Int.tdiv_eq_ediv_of_nonneg (by omega)];omega) (by rw [Int.tdiv_eq_ediv_of_nonneg (by omega)];omega),Int.tdiv_eq_ediv_of_nonneg (by omega)];omega
 refine vq (f:=uy) (fun a=>∃(k:Nat) (l':List zk),k<=5/\a=(ord,(n:Int),(i:Int),(k:Int),p,l',x,())/\(((k=0/\l'=l)\/l.length<l'.length)/\l'.length<=n)/\∀y∈l',zaE p y) (fun a=>10-a.2.2.2.1.toNat) (fun o=>∃l',o= .brk (ord,(n:Int),(i:Int),p,l',())/\(l.length<l'.length/\l'.length<=n)/\∀y∈l',zaE p y) ?_ _ ⟨0,l,by omega,rfl,⟨.inl ⟨rfl,rfl⟩,by omega⟩,hp⟩ (by show 10-0<18446744073709551616;decide);rintro _ ⟨k,l',hk,rfl,hl',hp'⟩;rw [zkV,xz (zKC hi),zKA,hdv,zr];by_cases c1:(k:Int)<=((ord[i].toNat/64:Nat):Int)
 .rw [zb c1,zr];by_cases c2:(l'.length:Int)<(n:Int)
  .rw [zb c2,yP (by simp;omega),zKA,yS];refine ⟨_,rfl,⟨k+1,l'++[x],by omega,rfl,⟨.inr ?_,by simp;omega⟩,fun y hy=>?_⟩,?_⟩
   .rcases hl'.1 with ⟨_,rfl⟩ | h
    .simp
    .simp;omega
   .rcases zK0.1 hy with hy | hy
    .exact hp' y hy
    .rw [zLn.1 hy];exact hx
   .show 10-((k+1:Nat):Int).toNat<10-(k:Int).toNat;omega
  .rw [zc c2];refine ⟨_,rfl,l',rfl,⟨?_,hl'.2⟩,hp'⟩;rcases hl'.1 with ⟨_,rfl⟩ | h
   .omega
   .exact h
 .rw [zc c1];refine ⟨_,rfl,l',rfl,⟨?_,hl'.2⟩,hp'⟩;rcases hl'.1 with ⟨rfl,rfl⟩ | h
  .exact zm (Int.natCast_nonneg _) c1
  .exact h
theorem zHs {p:zd}(h:zJ p) (ord:List (BitVec 8)) (n:Nat) (hn:n<1000000):∃l,V9 p ord (n:Int)=some (l,())/\l.length<=n/\∀x∈l,zaE p x:=by
 have hw:=h.wk;have hm:=h.mt;have e1:w64 (w64 (1+p.Workers)+p.Mutators)=1+p.Workers+p.Mutators:=by rw [ya (a:=1+p.Workers) (by omega) (by omega),ya]
 obtain ⟨o,e,l,rfl,h1,h2⟩:=vq (f:=zaA) (fun a=>∃(i:Nat) (l:List zk),i<=l.length/\a=(ord,(n:Int),(i:Int),p,l,())/\l.length<=n/\∀y∈l,zaE p y) (fun a=>n+1-a.2.2.1.toNat) (fun o=>∃l,o= .brk (l,())/\l.length<=n/\∀y∈l,zaE p y) (by
  rintro _ ⟨i,l,hi,rfl,hl,hp⟩;rw [zmA,zr];by_cases c1:(i:Int)<(ord.length:Int);rotate_left
  .rw [zc c1];exact ⟨_,rfl,l,rfl,hl,hp⟩
  rw [zb c1,zr];by_cases c2:(l.length:Int)<(n:Int);rotate_left
  .rw [zc c2];exact ⟨_,rfl,l,rfl,hl,hp⟩
  have hil:i<ord.length:=by omega
  have ht:=zIf (show (0:Int)<=(ord[i].toNat:Int) by omega) (show (0:Int)<1+p.Workers+p.Mutators by omega);have fin:∀ {l':List zk},(l.length<l'.length/\l'.length<=n)->(∀y∈l',zaE p y)->(∃(j:Nat) (q:List zk),j<=q.length/\(ord,(n:Int),((i+1:Nat):Int),p,l',())=(ord,(n:Int),(j:Int),p,q,())/\q.length<=n/\∀y∈q,zaE p y)/\n+1-((i+1:Nat):Int).toNat<n+1-(i:Int).toNat:=fun {l'} h1 h2=>⟨⟨i+1,l',by omega,rfl,h1.2,h2⟩,by omega⟩
  rw [zb c2,xz (zKC hil),zKA,e1,zr,zi,zr];generalize (ord[i].toNat:Int).tmod (1+p.Workers+p.Mutators)=t at ht;by_cases c3:p.Workers<t
  .rw [zb c3,ya];obtain ⟨o,e,l',rfl,h1,h2⟩:=zur ord n hn i hil ⟨2,t-p.Workers⟩ (.inr (.inr ⟨rfl,by show 1<=t-p.Workers;omega,by show t-p.Workers<=p.Mutators;omega⟩)) l (by omega) hp;rw [e,zKA];dsimp only;rw [yS];exact ⟨_,rfl,fin h1 h2⟩
  rw [zc c3,zr];by_cases c4:0<t
  .rw [zb c4];obtain ⟨o,e,l',rfl,h1,h2⟩:=zur ord n hn i hil ⟨1,t⟩ (.inr (.inl ⟨rfl,by show 1<=t;omega,by show t<=p.Workers;omega⟩)) l (by omega) hp;rw [e,zKA];dsimp only;rw [yS];exact ⟨_,rfl,fin h1 h2⟩
  .rw [zc c4];obtain ⟨o,e,l',rfl,h1,h2⟩:=zur ord n hn i hil ⟨0,0⟩ (.inl ⟨rfl,rfl⟩) l (by omega) hp;rw [e,zKA];dsimp only;rw [yS];exact ⟨_,rfl,fin h1 h2⟩) (ord,(n:Int),0,p,[],()) ⟨0,[],by simp,rfl,by simp,fun y hy=>by cases hy⟩ (by show n+1-0<18446744073709551616;omega)
 refine ⟨l,?_,h1,h2⟩;rw [zpq,e];rfl
end B20
theorem Z9 {α S σ B C:Type}{f:σ->Option (yN σ B C)}(A:Int->S->σ) (b:S->B) (l:List α) (hl:l.length<1000000) (g:S->α->S) (Inv:Nat->S->Prop) {s:S}(h0:Inv 0 s)
  (h1:∀(i:Nat) s x,l[i]? =some x->i<l.length->Inv i s->Inv (i+1) (g s x)/\f (A (i:Int) s)=some (.again (A ((i+1:Nat):Int) (g s x)))) (h2:∀s,Inv l.length s->f (A (l.length:Int) s)=some (.brk (b s))) :
  yc f (A 0 s)=some (.brk (b (l.foldl g s)))/\Inv l.length (l.foldl g s):=by
 have key:∀(k i:Nat) (s:S),l.length-i=k->i<=l.length->Inv i s->(∀m,k<m->yY f m (A (i:Int) s)=some (.brk (b ((l.drop i).foldl g s))))/\Inv l.length ((l.drop i).foldl g s):=by
  intro k
  induction k with
  | zero =>
   intro i s hk hi hs;have:i=l.length:=by omega
   subst this;rw [List.drop_length];refine ⟨fun m hm=>?_,hs⟩;obtain ⟨m,rfl⟩:∃x,m=x+1:=⟨m-1,by omega⟩
   simp only [yY];rw [h2 s hs];rfl
  | succ k ih =>
   intro i s hk hi hs;have hx:=zKC (show i<l.length by omega);have hd:=zLh (show i<l.length by omega);generalize l[i]'(by omega)=x at hx hd;obtain ⟨h3,h4⟩:=h1 i s x hx (by omega) hs;obtain ⟨h5,h6⟩:=ih (i+1) (g s x) (by omega) (by omega) h3;rw [hd];refine ⟨fun m hm=>?_,h6⟩;obtain ⟨m,rfl⟩:∃x,m=x+1:=⟨m-1,by omega⟩
   simp only [yY];rw [h4,zKA];exact h5 m (by omega)
 obtain ⟨k1,k2⟩:=key l.length 0 s (by omega) (by omega) h0;refine ⟨?_,k2⟩;rw [Y3];exact k1 vV (v9 (by omega))
def zyv (x:Int):List Int->List Int
 | []=>[x]
 | y::l=>if x<=y then x::y::l else y::zyv x l
def Z1:List Int->List Int
 | []=>[]
 | x::l=>zyv x (Z1 l)
theorem zsy (x:Int):∀l,List.Perm (zyv x l) (x::l)
 | []=>zK3 _
 | y::l=>by
  unfold zyv;split
  .exact zK3 _
  .exact ((zsy x l).cons y).trans (List.Perm.swap x y l)
theorem Ue:∀l,List.Perm (Z1 l) l
 | []=>zK3 _
 | x::l=>(zsy x (Z1 l)).trans ((Ue l).cons x)
theorem ztP (x:Int):∀l,List.Pairwise (fun a b:Int=>a<=b) l->List.Pairwise (fun a b:Int=>a<=b) (zyv x l)
 | [],_=>List.pairwise_singleton _ _
 | y::l,h=>by
  rw [zLU] at h;unfold zyv;split
  .rename_i hx;refine zLU.2 ⟨fun z hz=>?_,zLU.2 h⟩;rcases zKS.1 hz with rfl | hz
   .exact hx
   .have:=h.1 z hz;omega
  .rename_i hx;refine zLU.2 ⟨fun z hz=>?_,ztP x l h.2⟩;rcases zKS.1 ((zsy x l).mem_iff.1 hz) with rfl | hz
   .omega
   .exact h.1 z hz
theorem zds:∀l,List.Pairwise (fun a b:Int=>a<=b) (Z1 l)
 | []=>List.Pairwise.nil
 | x::l=>ztP x _ (zds l)
theorem zrU {l m:List Int}(hl:List.Pairwise (fun a b:Int=>a<=b) l) (hm:List.Pairwise (fun a b:Int=>a<=b) m) (h:List.Perm l m):l=m :=
 List.Perm.eq_of_pairwise (fun a b _ _ h1 h2=>Int.le_antisymm h1 h2) hl hm h
theorem zDR (l:List Int):wI l=Z1 l:=by
 refine zrU ?_ (zds l) ((List.mergeSort_perm l _).trans (Ue l).symm);have:=List.pairwise_mergeSort (le:=fun x y:Int=>decide (x<=y)) (fun a b c h1 h2=>by simp only [decide_eq_true_eq] at *;omega) (fun a b=>by simp only [zLK,decide_eq_true_eq];omega) l;exact this.imp (fun h=>by simpa using h)
theorem zDp {l m:List Int}(h:List.Perm l m):Z1 l=Z1 m:=zrU (zds l) (zds m) ((Ue l).trans (h.trans (Ue m).symm))
theorem zHD (l:List Int):(Z1 l).length=l.length:=(Ue l).length_eq
theorem zGV (a b:List Int):Z1 (Z1 a++b)=Z1 (a++b):=zDp ((Ue a).append_right b)
theorem zyJ {l:List Int}(h:l.length<4294967296):ztf l=some (Z1 l,()):=by
 rw [zEj];unfold zpI;rw [zn (by omega),zDR];rfl
def YI (p:zd) (w:Int) (i:Nat):Int:=z6 p w+2+((i%p.Cap.toNat:Nat):Int)
structure DQ (p:zd) (m:List (BitVec 64)) (w:Int) (t:Nat) (l:List Int) (c:Nat):Prop where
 top:ld m (z6 p w)=BitVec.ofNat 64 t
 bot:ld m (z6 p w+1)=BitVec.ofNat 64 (t+l.length-c)
 c1:c<=1
 t1:1<=t
 cap:l.length<=p.Cap.toNat
 small:t+l.length<4294967296
 cell:∀(i:Nat) (hi:i<l.length),(ld m (YI p w (t+i))).toInt=l[i]
theorem DQ.keep {p:zd}(h:zJ p) {m m':List (BitVec 64)}{w:Int}{t c:Nat}{l:List Int}(D:DQ p m w t l c) (hm:∀a,z6 p w<=a->a<z6 p w+p.Cap+2->ld m' a=ld m a):DQ p m' w t l c:=by
 have hc:=h.cap;refine ⟨by rw [hm _ (by omega) (by omega)];exact D.top,by rw [hm _ (by omega) (by omega)];exact D.bot,D.c1,D.t1,D.cap,D.small,fun i hi=>?_⟩;have:=Nat.mod_lt (t+i) (show 0<p.Cap.toNat by omega);rw [hm _ (by unfold YI;omega) (by unfold YI;omega)];exact D.cell i hi
theorem Yl {n:Nat}(h:n<18446744073709551616):(BitVec.ofNat 64 n).toNat=n:=by rw [BitVec.toNat_ofNat];omega
theorem ziY {a b:Nat}(h:b<=a) (h2:a<18446744073709551616):BitVec.ofNat 64 a-BitVec.ofNat 64 b=BitVec.ofNat 64 (a-b):=by
 apply zLT;rw [BitVec.toNat_sub,Yl h2,Yl (by omega),Yl (by omega)];omega
theorem zeR {a b:Nat}(h2:a+b<18446744073709551616):BitVec.ofNat 64 a+BitVec.ofNat 64 b=BitVec.ofNat 64 (a+b):=by
 apply zLT;rw [BitVec.toNat_add,Yl (by omega),Yl (by omega),Yl (by omega)];omega
theorem zzp {a b:Nat}(h:a<18446744073709551616) (h2:b<18446744073709551616) (e:BitVec.ofNat 64 a=BitVec.ofNat 64 b):a=b:=by
 have:=congrArg BitVec.toNat e;rwa [Yl h,Yl h2] at this
theorem ziM {a b:Nat}(h:a<4294967296) (h2:b<4294967296):0<(BitVec.ofNat 64 a-BitVec.ofNat 64 b).toInt↔b<a:=by
 rw [zMc,BitVec.toNat_sub,Yl (by omega),Yl (by omega)];omega
theorem zIw {t i n c:Nat}(hi:i<n) (hn:n<t+c) (ht:t<=i) (e:i%c=n%c):False:=by
 have h1:=Nat.div_add_mod i c;have h2:=Nat.div_add_mod n c;have hc:0<c:=by omega
 rw [e] at h1;have h3:c*(n/c)=c*(i/c)+(n-i):=by omega
 rcases zLc (i/c) (n/c) with h | h
 .have:c*(i/c)+c<=c*(n/c):=by
   have:=Nat.mul_le_mul_left c h;rw [Nat.succ_eq_add_one,Nat.mul_add,zLv] at this;exact this
  omega
 .have:=Nat.mul_le_mul_left c h;omega
theorem zi8 {p:zd}(h:zJ p) {d:zg}{w:Int}(hw:1<=w/\w<=p.Workers) (hb:d.Base=z6 p w) (hc:d.Cap=p.Cap) {i:Nat}(hi:i<4294967296):XB d (BitVec.ofNat 64 i)=YI p w i:=by
 rw [(zuZ h hw.1 hw.2 hb hc _).1,Yl (by omega),hb];rfl
structure DK (p:zd) (m:List (BitVec 64)) (w:Int) (t:Nat) (l:List Int) (c:Nat) (d:zg):Prop where
 kind:d.Kind=1
 base:d.Base=z6 p w
 size:d.Cap=p.Cap
 out:d.Out=0
 c0:c=0
 pc:0<=d.PC/\d.PC<=3
 b:1<=d.PC->d.B=BitVec.ofNat 64 (t+l.length)
 r:2<=d.PC->l.length<p.Cap.toNat
 x:3<=d.PC->(ld m (YI p w (t+l.length))).toInt=d.X
structure PK (p:zd) (m:List (BitVec 64)) (w:Int) (t:Nat) (l:List Int) (c:Nat) (d:zg):Prop where
 kind:d.Kind=2
 base:d.Base=z6 p w
 size:d.Cap=p.Cap
 out:d.Out=0
 pc:0<=d.PC/\d.PC<=6
 c0:d.PC<=1->c=0
 c1:d.PC=2\/4<=d.PC->c=1
 b:d.PC=1\/d.PC=2\/4<=d.PC\/(d.PC=3/\d.T=d.B-1#64)->d.B=BitVec.ofNat 64 (t+l.length)
 c3:d.PC=3->d.T=d.B-1#64->c=1
 n3:d.PC=3->d.T≠d.B-1#64->c=0/\d.B=BitVec.ofNat 64 (t+l.length+1)/\t+l.length+1<4294967296/\l.length+1<=p.Cap.toNat
 t3:d.PC=3\/d.PC=4->d.T.toNat<=t
 t4:d.PC=4->d.T=d.B-1#64
 x4:d.PC=4->d.T.toNat=t->l=[d.X]
 e5:5<=d.PC->l=[]
def Yz (m:List (BitVec 64)) (d:zg):List Int :=
 if d.PC=3/\d.T≠d.B-1#64 then [(ld m (XB d (d.B-1#64))).toInt] else if d.PC=6 then [d.X] else []
structure TK (p:zd) (m:List (BitVec 64)) (w:Int) (t:Nat) (l:List Int) (d:zg):Prop where
 kind:d.Kind=3
 base:d.Base=z6 p w
 size:d.Cap=p.Cap
 out:d.Out=0
 pc:0<=d.PC/\d.PC<=3
 le:1<=d.PC->d.T.toNat<=t
 ne:2<=d.PC->d.T.toNat=t->l≠[]
 hd:d.PC=3->d.T.toNat=t->l.head? =some d.X
structure Dv (t:Nat) (l:List Int) (t':Nat) (l':List Int):Prop where
 le:t<=t'
 hd:t'=t->l≠[]->l'≠[]/\l'.head? =l.head?
theorem Dv.refl (t:Nat) (l:List Int):Dv t l t l:=⟨zKF _,fun _ h=>⟨h,rfl⟩⟩
theorem TK.dv {p:zd}{m m':List (BitVec 64)}{w:Int}{t t':Nat}{l l':List Int}{d:zg}(K:TK p m w t l d) (V:Dv t l t' l'):TK p m' w t' l' d:=by
 have h1:=V.le;refine ⟨K.kind,K.base,K.size,K.out,K.pc,fun h=>zLI (K.le h) h1,fun h e=>?_,fun h e=>?_⟩
 .have:=K.le (by omega);have et:t'=t:=by omega
  exact (V.hd et (K.ne h (by omega))).1
 .have:=K.le (by omega);have et:t'=t:=by omega
  rw [(V.hd et (K.ne (by omega) (by omega))).2];exact K.hd h (by omega)
theorem zD0 {p:zd}(h:zJ p) {m:List (BitVec 64)}{w:Int}{t c:Nat}{l:List Int}{d:zg}(hw:1<=w/\w<=p.Workers) (hlen:yu p<=m.length) (D:DQ p m w t l c) (K:TK p m w t l d) :
  ((yj m d).1=m/\(((yj m d).2.Out=0/\TK p m w t l (yj m d).2)\/(yj m d).2.Out=2\/(yj m d).2.Out=4)) \/
  (∃x l',l=x::l'/\(yj m d).2.Out=1/\(yj m d).2.X=x/\DQ p (yj m d).1 w (t+1) l' c/\(∀a,a≠z6 p w->ld (yj m d).1 a=ld m a)):=by
 have hc:=h.cap;have hd:=Xb h hw.1 hw.2;have hf:=Ya h;have hpc:=K.pc;have hsm:=D.small;have ht1:=D.t1;have hc1:=D.c1;have eb:wc (d.Base+1)=z6 p w+1:=by rw [K.base,yR]
 have k:=K.kind;unfold yj;rw [zc (by have:=K.out;omega),zi,zi,zb k];unfold zcV;rw [zi,eb];by_cases c0:d.PC=0
 .rw [zb c0];exact .inl ⟨rfl,.inl ⟨K.out,⟨k,K.base,K.size,K.out,⟨by dsimp only;omega,by dsimp only;omega⟩,fun _=>by dsimp only;rw [K.base,D.top,Yl (by omega)];exact zKF _,fun e=>by dsimp only at e;omega,fun e=>by dsimp only at e;omega⟩⟩⟩
 rw [zc c0];have hT:=K.le (by omega);by_cases c1:d.PC=1
 .rw [zb c1];left;refine ⟨rfl,?_⟩;by_cases hs:0<(ld m (z6 p w+1)-d.T).toInt
  .left;dsimp only;rw [zb hs];refine ⟨K.out,⟨k,K.base,K.size,K.out,⟨by dsimp only;omega,by dsimp only;omega⟩,fun _=>hT,fun _ e=>?_,fun e=>by dsimp only at e;omega⟩⟩;have e:d.T.toNat=t:=e;have eT:d.T=BitVec.ofNat 64 t:=by apply zLT;rw [Yl (by omega)];exact e
   rw [D.bot,eT] at hs;have:=(ziM (by omega) (by omega)).1 hs;intro el;rw [el] at this;simp at this;omega
  .right;left;dsimp only;rw [zc hs]
 rw [zc c1];by_cases c2:d.PC=2
 .rw [zb c2];left;refine ⟨rfl,.inl ⟨K.out,⟨k,K.base,K.size,K.out,⟨by dsimp only;omega,by dsimp only;omega⟩,fun _=>hT,fun _ e=>K.ne (by omega) e,fun _ e=>?_⟩⟩⟩;have e:d.T.toNat=t:=e;have eT:d.T=BitVec.ofNat 64 t:=by apply zLT;rw [Yl (by omega)];exact e
  have hn:=K.ne (by omega) e;cases l with
  | nil=>exact zm rfl hn
  | cons x l =>
   have:=D.cell 0 (by simp);dsimp only;rw [eT,zi8 h hw K.base K.size (by omega)];rw [zLk] at this;rw [this];rfl
 rw [zc c2];have c3:d.PC=3:=by omega
 by_cases hs:ld m d.Base=d.T
 .right;have eT:d.T.toNat=t:=by rw [<-hs,K.base,D.top,Yl (by omega)]
  have eT':d.T=BitVec.ofNat 64 t:=by rw [<-hs,K.base,D.top]
  have hx:=K.hd c3 eT;have hn:=K.ne (by omega) eT;have hsw:sw m d.Base d.T (d.T+1#64)=(st m d.Base (d.T+1#64),true):=by unfold sw;rw [zb ⟨by rw [K.base];omega,by rw [K.base];omega,hs⟩]
  rw [hsw];cases l with
  | nil=>exact zm rfl hn
  | cons x l =>
   have hx:x=d.X:=by simpa using hx
   have hmod:∀i,z6 p w+2<=YI p w i:=fun i=>by unfold YI;omega
   have hlc:=D.cap;rw [zKR] at hlc hsm;refine ⟨x,l,rfl,rfl,hx.symm,⟨?_,?_,hc1,by omega,by omega,by omega,fun i hi=>?_⟩,fun a ha=>?_⟩
   .dsimp only;rw [K.base,Vp,zb ⟨rfl,by omega,by omega⟩,eT'];exact zeR (by omega)
   .dsimp only;rw [K.base,yK (by omega),D.bot,zKR];congr 1;omega
   .dsimp only;have:=hmod (t+1+i);rw [K.base,yK (by omega)];have:=D.cell (i+1) (by simp;omega);rw [show t+(i+1)=t+1+i by omega] at this;simpa using this
   .dsimp only;rw [K.base,yK (fun e=>ha e.symm)]
 .left;have hsw:sw m d.Base d.T (d.T+1#64)=(m,false):=by unfold sw;rw [zc (fun e=>hs e.2.2)]
  rw [hsw];exact ⟨rfl,.inr (.inr rfl)⟩
theorem uu {m:List (BitVec 64)}{d:zg}(h:d.PC≠3\/d.T=d.B-1#64) (h2:d.PC≠6):Yz m d=[]:=by
 unfold Yz;rw [zc (fun e=>h.elim (fun f=>f e.1) (fun f=>e.2 f)),zc h2]
theorem zCl {p:zd}(h:zJ p) {m:List (BitVec 64)}{w:Int}{t c:Nat}{l:List Int}{d:zg}(hw:1<=w/\w<=p.Workers) (hlen:yu p<=m.length) (D:DQ p m w t l c) (K:PK p m w t l c d) :
  ∃t' l' c',DQ p (yj m d).1 w t' l' c'/\(∀a,a≠z6 p w->a≠z6 p w+1->ld (yj m d).1 a=ld m a)/\Dv t l t' l'/\t'+l'.length<=t+l.length /\
   (((yj m d).2.Out=0/\PK p (yj m d).1 w t' l' c' (yj m d).2/\List.Perm (l'++Yz (yj m d).1 (yj m d).2) (l++Yz m d)) \/
    ((yj m d).2.Out=1/\c'=0/\List.Perm (l'++[(yj m d).2.X]) (l++Yz m d)) \/
    ((yj m d).2.Out=2/\c'=0/\l'=[]/\l=[]/\Yz m d=[])):=by
 have hc:=h.cap;have hd:=Xb h hw.1 hw.2;have hf:=Ya h;have hpc:=K.pc;have hsm:=D.small;have ht1:=D.t1;have hc1:=D.c1;have eb:wc (d.Base+1)=z6 p w+1:=by rw [K.base,yR]
 have k:=K.kind;have one:(1#64:BitVec 64)=BitVec.ofNat 64 1:=rfl;have hmod:∀i,z6 p w+2<=YI p w i/\YI p w i<z6 p w+p.Cap+2:=fun i=>by
  have:=Nat.mod_lt i (show 0<p.Cap.toNat by omega);unfold YI;omega
 have stb:∀(c':Nat) (v:BitVec 64),c'<=1->v=BitVec.ofNat 64 (t+l.length-c')->DQ p (st m (z6 p w+1) v) w t l c'/\(∀a,a≠z6 p w->a≠z6 p w+1->ld (st m (z6 p w+1) v) a=ld m a):=by
  intro c' v h1 h2;refine ⟨⟨by rw [yK (by omega)];exact D.top,by rw [Vp,zb ⟨rfl,by omega,by omega⟩];exact h2,h1,ht1,D.cap,hsm,fun i hi=>by rw [yK (by have:=hmod (t+i);omega)];exact D.cell i hi⟩,fun a _ h2=>yK (fun e=>h2 e.symm)⟩
 unfold yj;rw [zc (by have:=K.out;omega),zi,zb k];unfold zkB;rw [zi,eb];by_cases p0:d.PC=0
 .rw [zb p0];have hc0:=K.c0 (by omega);refine ⟨t,l,c,D,fun _ _ _=>rfl,Dv.refl _ _,zKF _,.inl ⟨K.out,⟨k,K.base,K.size,K.out,⟨by dsimp only;omega,by dsimp only;omega⟩,fun _=>hc0,fun e=>by dsimp only at e;omega,fun _=>?_,fun e=>by dsimp only at e;omega,fun e=>by dsimp only at e;omega,fun e=>by dsimp only at e;omega,fun e=>by dsimp only at e;omega,fun e=>by dsimp only at e;omega,fun e=>by dsimp only at e;omega⟩,?_⟩⟩
  .dsimp only;rw [D.bot,hc0];rfl
  .rw [uu (.inl (by dsimp only;omega)) (by dsimp only;omega),uu (.inl (by omega)) (by omega)]
 rw [zc p0];by_cases p1:d.PC=1
 .rw [zb p1];have hB:=K.b (.inl p1);have eB:d.B-1#64=BitVec.ofNat 64 (t+l.length-1):=by rw [hB,one,ziY (by omega) (by omega)]
  obtain ⟨D',hm⟩:=stb 1 (d.B-1#64) (by omega) eB;refine ⟨t,l,1,D',hm,Dv.refl _ _,zKF _,.inl ⟨K.out,⟨k,K.base,K.size,K.out,⟨by dsimp only;omega,by dsimp only;omega⟩,fun e=>by dsimp only at e;omega,fun _=>rfl,fun _=>hB,fun e=>by dsimp only at e;omega,fun e=>by dsimp only at e;omega,fun e=>by dsimp only at e;omega,fun e=>by dsimp only at e;omega,fun e=>by dsimp only at e;omega,fun e=>by dsimp only at e;omega⟩,?_⟩⟩;rw [uu (.inl (by dsimp only;omega)) (by dsimp only;omega),uu (.inl (by omega)) (by omega)]
 rw [zc p1];by_cases p2:d.PC=2
 .rw [zb p2];have hB:=K.b (.inr (.inl p2));have hc':=K.c1 (.inl p2);have eB:d.B-1#64=BitVec.ofNat 64 (t+l.length-1):=by rw [hB,one,ziY (by omega) (by omega)]
  have eT:ld m d.Base=BitVec.ofNat 64 t:=by rw [K.base];exact D.top
  rw [uu (d:=d) (.inl (by omega)) (by omega),zKE];by_cases hs:0<(ld m d.Base-(d.B-1#64)).toInt
  .have hs':=hs;rw [eT,eB] at hs';have:=(ziM (by omega) (by omega)).1 hs';have el:l=[]:=by cases l with | nil=>rfl | cons a l=>rw [zKR] at this;omega
   rw [zb hs];refine ⟨t,l,c,D,fun _ _ _=>rfl,Dv.refl _ _,zKF _,.inl ⟨K.out,⟨k,K.base,K.size,K.out,⟨by dsimp only;omega,by dsimp only;omega⟩,fun e=>by dsimp only at e;omega,fun _=>hc',fun _=>hB,fun e=>by dsimp only at e;omega,fun e=>by dsimp only at e;omega,fun e=>by dsimp only at e;omega,fun e=>by dsimp only at e;omega,fun e=>by dsimp only at e;omega,fun _=>el⟩,?_⟩⟩;rw [uu (.inl (by dsimp only;omega)) (by dsimp only;omega),zKE]
  .have hs':=hs;rw [eT,eB] at hs';have hle: ¬(t+l.length-1<t):=fun e=>hs' ((ziM (by omega) (by omega)).2 e);rw [zc hs];by_cases h1:l.length=1
   .have e3:ld m d.Base=d.B-1#64:=by rw [eT,eB];congr 1;omega
    refine ⟨t,l,c,D,fun _ _ _=>rfl,Dv.refl _ _,zKF _,.inl ⟨K.out,⟨k,K.base,K.size,K.out,⟨by dsimp only;omega,by dsimp only;omega⟩,fun e=>by dsimp only at e;omega,fun e=>by dsimp only at e;omega,fun _=>hB,fun _ _=>hc',fun _ e=>zm e3 e,fun _=>by dsimp only;rw [eT,Yl (by omega)];exact zKF _,fun e=>by dsimp only at e;omega,fun e=>by dsimp only at e;omega,fun e=>by dsimp only at e;omega⟩,?_⟩⟩;rw [uu (.inr e3) (by dsimp only;omega),zKE]
   .-- the last one is the owner's
    have h2:2<=l.length:=by omega
    have e3:ld m d.Base≠d.B-1#64:=by
     rw [eT,eB];intro e;have:=zzp (by omega) (by omega) e;omega
    have hne:l≠[]:=fun e=>by rw [e] at h2;simp at h2
    have hdl:l.dropLast.length=l.length-1:=List.length_dropLast;refine ⟨t,l.dropLast,0,⟨D.top,?_,by omega,ht1,by have:=D.cap;omega,by omega,fun i hi=>?_⟩,fun _ _ _=>rfl,⟨zKF _,fun _ _=>⟨fun e=>?_,?_⟩⟩,by omega,.inl ⟨K.out,⟨k,K.base,K.size,K.out,⟨by dsimp only;omega,by dsimp only;omega⟩,fun e=>by dsimp only at e;omega,fun e=>by dsimp only at e;omega,fun e=>?_,fun _ e=>zm e e3,fun _ _=>⟨rfl,?_,by omega,by have:=D.cap;omega⟩,fun _=>by dsimp only;rw [eT,Yl (by omega)];exact zKF _,fun e=>by dsimp only at e;omega,fun e=>by dsimp only at e;omega,fun e=>by dsimp only at e;omega⟩,?_⟩⟩
    .rw [D.bot,hc',hdl];congr 1;omega
    .rw [D.cell i (by omega)];exact (List.getElem_dropLast ..).symm
    .have:=congrArg List.length e;rw [hdl] at this;simp at this;omega
    .cases l with
     | nil=>exact zm rfl hne
     | cons a l=>cases l with
      | nil=>simp at h2
      | cons b l=>rfl
    .rcases e with e | e | e | ⟨_,e⟩
     .dsimp only at e;omega
     .dsimp only at e;omega
     .dsimp only at e;omega
     .exact zm e e3
    .dsimp only;rw [hB,hdl];congr 1;omega
    .unfold Yz;rw [zb ⟨rfl,e3⟩];dsimp only;have ep:XB {d with T:=ld m d.Base,PC:=3} (d.B-1#64)=YI p w (t+(l.length-1)):=by
      rw [eB];have:=zi8 h (d:={d with T:=ld m d.Base,PC:=3}) hw K.base K.size (i:=t+l.length-1) (by omega);rw [this];congr 1;omega
     rw [ep,D.cell (l.length-1) (by omega)];have:=List.dropLast_concat_getLast hne;rw [List.getLast_eq_getElem] at this;rw [this]
 rw [zc p2];by_cases p3:d.PC=3
 .rw [zb p3];by_cases e3:d.T=d.B-1#64
  .rw [zb e3];have hB:=K.b (.inr (.inr (.inr ⟨p3,e3⟩)));have hc':=K.c3 p3 e3;have eB:d.B-1#64=BitVec.ofNat 64 (t+l.length-1):=by rw [hB,one,ziY (by omega) (by omega)]
   refine ⟨t,l,c,D,fun _ _ _=>rfl,Dv.refl _ _,zKF _,.inl ⟨K.out,⟨k,K.base,K.size,K.out,⟨by dsimp only;omega,by dsimp only;omega⟩,fun e=>by dsimp only at e;omega,fun _=>hc',fun _=>hB,fun e=>by dsimp only at e;omega,fun e=>by dsimp only at e;omega,fun _=>K.t3 (.inl p3),fun _=>e3,fun _ e=>?_,fun e=>by dsimp only at e;omega⟩,?_⟩⟩
   .have e:d.T.toNat=t:=e;rw [e3,eB,Yl (by omega)] at e;have h1:l.length=1:=by omega
    have:=D.cell 0 (by omega);dsimp only;rw [eB,zi8 h hw K.base K.size (by omega),show t+l.length-1=t+0 by omega,this]
    match l,h1 with
    | [a],_=>rfl
   .rw [uu (.inl (by dsimp only;omega)) (by dsimp only;omega),uu (.inr e3) (by omega)]
  .rw [zc e3];obtain ⟨a1,a2,a3,a4⟩:=K.n3 p3 e3;refine ⟨t,l,c,D,fun _ _ _=>rfl,Dv.refl _ _,zKF _,.inr (.inl ⟨rfl,a1,?_⟩)⟩;unfold Yz;rw [zb ⟨p3,e3⟩]
 rw [zc p3];by_cases p4:d.PC=4
 .rw [zb p4];have hB:=K.b (.inr (.inr (.inl (by omega))));have hc':=K.c1 (.inr (by omega));have e3:=K.t4 p4;have ht:=K.t3 (.inr p4);have eB:d.B-1#64=BitVec.ofNat 64 (t+l.length-1):=by rw [hB,one,ziY (by omega) (by omega)]
  have eT:d.T.toNat=t+l.length-1:=by rw [e3,eB,Yl (by omega)]
  rw [uu (d:=d) (.inl (by omega)) (by omega),zKE];by_cases hs:ld m d.Base=d.T
  .have hsw:sw m d.Base d.T (d.T+1#64)=(st m d.Base (d.T+1#64),true):=by unfold sw;rw [zb ⟨by rw [K.base];omega,by rw [K.base];omega,hs⟩]
   have et:d.T.toNat=t:=by rw [<-hs,K.base,D.top,Yl (by omega)]
   have el:=K.x4 p4 et;rw [hsw];have eT':d.T=BitVec.ofNat 64 t:=by rw [<-hs,K.base,D.top]
   have hl1:l.length=1:=by rw [el];rfl
   refine ⟨t+1,[],1,⟨?_,?_,by omega,by omega,by simp,by simp;omega,fun i hi=>by simp at hi⟩,fun a h1 _=>?_,⟨by omega,fun e=>by omega⟩,by simp;omega,.inl ⟨K.out,⟨k,K.base,K.size,K.out,⟨by dsimp only;simp,by dsimp only;simp⟩,fun e=>by simp at e,fun _=>rfl,fun _=>?_,fun e=>by simp at e,fun e=>by simp at e,fun e=>by simp at e,fun e=>by simp at e,fun e=>by simp at e,fun _=>rfl⟩,?_⟩⟩
   .dsimp only;rw [K.base,Vp,zb ⟨rfl,by omega,by omega⟩,eT'];exact zeR (by omega)
   .dsimp only;rw [K.base,yK (by omega),D.bot,hc',hl1];rfl
   .dsimp only;rw [K.base,yK (fun e=>h1 e.symm)]
   .dsimp only;rw [hB,hl1];rfl
   .unfold Yz;rw [zc (fun e=>by simp at e),zb (by simp)];rw [el];exact zK3 _
  .have hsw:sw m d.Base d.T (d.T+1#64)=(m,false):=by unfold sw;rw [zc (fun e=>hs e.2.2)]
   rw [hsw];have hne:d.T.toNat≠t:=fun e=>hs (by rw [K.base,D.top];apply zLT;rw [Yl (by omega)];exact e.symm);have el:l=[]:=by cases l with | nil=>rfl | cons a l=>rw [zKR] at eT;omega
   refine ⟨t,l,c,D,fun _ _ _=>rfl,Dv.refl _ _,zKF _,.inl ⟨K.out,⟨k,K.base,K.size,K.out,⟨by dsimp only;simp,by dsimp only;simp⟩,fun e=>by simp at e,fun _=>hc',fun _=>hB,fun e=>by simp at e,fun e=>by simp at e,fun e=>by simp at e,fun e=>by simp at e,fun e=>by simp at e,fun _=>el⟩,?_⟩⟩;rw [uu (.inl (by simp)) (by simp),zKE]
 rw [zc p4];have hB:=K.b (.inr (.inr (.inl (by omega))));have el:=K.e5 (by omega);obtain ⟨D',hm⟩:=stb 0 d.B (by omega) (by rw [hB];rfl);by_cases p5:d.PC=5
 .rw [zb p5];exact ⟨t,l,0,D',hm,Dv.refl _ _,zKF _,.inr (.inr ⟨rfl,rfl,el,el,uu (.inl (by omega)) (by omega)⟩)⟩
 .rw [zc p5];refine ⟨t,l,0,D',hm,Dv.refl _ _,zKF _,.inr (.inl ⟨rfl,rfl,?_⟩)⟩;unfold Yz;rw [zc (fun e=>p3 e.1),zb (show d.PC=6 by omega)]
theorem PK.stolen {p:zd}{m m':List (BitVec 64)}(h:zJ p) {w:Int}(hw:1<=w/\w<=p.Workers) {t c:Nat}{x:Int}{l:List Int}{d:zg}(K:PK p m w t (x::l) c d):PK p m' w (t+1) l c d:=by
 have e:t+(x::l).length=t+1+l.length:=by rw [zKR];omega
 refine ⟨K.kind,K.base,K.size,K.out,K.pc,K.c0,K.c1,fun q=>by rw [<-e];exact K.b q,K.c3,fun a b=>?_,fun a=>Nat.le_succ_of_le (K.t3 a),K.t4,fun a b=>?_,fun a=>?_⟩
 .have:=K.n3 a b;rw [e] at this;rw [zKR] at this;exact ⟨this.1,this.2.1,this.2.2.1,by omega⟩
 .have:=K.t3 (.inr a);omega
 .have:=K.e5 a;cases this
theorem DK.stolen {p:zd}{m m':List (BitVec 64)}{w:Int}{t c:Nat}{x:Int}{l:List Int}{d:zg}(K:DK p m w t (x::l) c d) (hm:∀a,a≠z6 p w->ld m' a=ld m a) (h:zJ p):DK p m' w (t+1) l c d:=by
 have e:t+(x::l).length=t+1+l.length:=by rw [zKR];omega
 refine ⟨K.kind,K.base,K.size,K.out,K.c0,K.pc,fun q=>by rw [<-e];exact K.b q,fun q=>by have:=K.r q;rw [zKR] at this;omega,fun q=>?_⟩;rw [<-e,hm _ (by unfold YI;omega)];exact K.x q
theorem PK.keep {p:zd}{m m':List (BitVec 64)}{w:Int}{t c:Nat}{l:List Int}{d:zg}(K:PK p m w t l c d):PK p m' w t l c d :=
 ⟨K.kind,K.base,K.size,K.out,K.pc,K.c0,K.c1,K.b,K.c3,K.n3,K.t3,K.t4,K.x4,K.e5⟩
theorem DK.keep {p:zd}(h:zJ p) {m m':List (BitVec 64)}{w:Int}{t c:Nat}{l:List Int}{d:zg}(K:DK p m w t l c d) (hm:∀a,z6 p w+1<a->a<z6 p w+p.Cap+2->ld m' a=ld m a):DK p m' w t l c d:=by
 have hc:=h.cap;have:=Nat.mod_lt (t+l.length) (show 0<p.Cap.toNat by omega);exact ⟨K.kind,K.base,K.size,K.out,K.c0,K.pc,K.b,K.r,fun q=>by rw [hm _ (by unfold YI;omega) (by unfold YI;omega)];exact K.x q⟩
theorem zz4 {p:zd}(h:zJ p) {m:List (BitVec 64)}{w:Int}{t c:Nat}{l:List Int}{d:zg}(hw:1<=w/\w<=p.Workers) (hlen:yu p<=m.length) (D:DQ p m w t l c) (K:DK p m w t l c d) (hs:t+l.length+1<4294967296) (hX: -9223372036854775808<=d.X/\d.X<9223372036854775808) :
  (∀a,(a<z6 p w\/z6 p w+p.Cap+2<=a)->ld (xk m d).1 a=ld m a)/\(xk m d).2.X=d.X /\
  (((xk m d).2.Out=0/\DQ p (xk m d).1 w t l 0/\DK p (xk m d).1 w t l 0 (xk m d).2) \/
   ((xk m d).2.Out=3/\DQ p (xk m d).1 w t l 0) \/
   ((xk m d).2.Out=1/\DQ p (xk m d).1 w t (l++[d.X]) 0)):=by
 have hc:=h.cap;have hd:=Xb h hw.1 hw.2;have hf:=Ya h;have hmod:∀i,z6 p w+2<=YI p w i/\YI p w i<z6 p w+p.Cap+2:=fun i=>by
  have:=Nat.mod_lt i (show 0<p.Cap.toNat by omega);unfold YI;omega
 have hpc:=K.pc;have c00:=K.c0;subst c00;have ht1:=D.t1;have hsm:=D.small;have eb:wc (d.Base+1)=z6 p w+1:=by rw [K.base,yR]
 unfold xk;rw [zc (by have:=K.out;omega),eb];by_cases c0:d.PC=0
 .rw [zb c0];exact ⟨fun _ _=>rfl,rfl,.inl ⟨K.out,D,⟨K.kind,K.base,K.size,K.out,rfl,⟨by dsimp only;omega,by dsimp only;omega⟩,fun _=>D.bot,fun e=>by dsimp only at e;omega,fun e=>by dsimp only at e;omega⟩⟩⟩
 rw [zc c0];by_cases c1:d.PC=1
 .rw [zb c1];refine ⟨fun _ _=>rfl,by dsimp only;split<;>rfl,?_⟩;have hB:=K.b (by omega);have es:(uW d).toNat=p.Cap.toNat:=by
   unfold uW;rw [K.size,zi,zLu];omega
  have ed:(d.B-ld m d.Base).toNat=l.length:=by
   rw [hB,K.base,D.top,BitVec.toNat_sub,Yl (by omega),Yl (by omega)];omega
  split
  .right;left;exact ⟨rfl,D⟩
  .rename_i hlt;left;have hr:l.length<p.Cap.toNat:=by
    have: ¬(uW d).toNat<=(d.B-ld m d.Base).toNat:=fun e=>hlt (BitVec.le_def.2 e);omega
   exact ⟨K.out,D,⟨K.kind,K.base,K.size,K.out,rfl,⟨by dsimp only;omega,by dsimp only;omega⟩,fun _=>hB,fun _=>hr,fun e=>by dsimp only at e;omega⟩⟩
 rw [zc c1];have hB:=K.b (by omega);have hr:=K.r (by omega);by_cases c2:d.PC=2
 .rw [zb c2];have ep:XB d d.B=YI p w (t+l.length):=by rw [hB];exact zi8 h hw K.base K.size (by omega)
  rw [ep];have hm:=hmod (t+l.length);refine ⟨fun a ha=>yK (by omega),rfl,.inl ⟨K.out,⟨?_,?_,D.c1,ht1,D.cap,D.small,fun i hi=>?_⟩,⟨K.kind,K.base,K.size,K.out,rfl,⟨by dsimp only;omega,by dsimp only;omega⟩,fun _=>hB,fun _=>hr,fun _=>?_⟩⟩⟩
  .dsimp only;rw [yK (by omega)];exact D.top
  .dsimp only;rw [yK (by omega)];exact D.bot
  .dsimp only;rw [yK (fun e=>zIw (t:=t) (i:=t+i) (n:=t+l.length) (c:=p.Cap.toNat) (by omega) (by omega) (by omega) (by unfold YI at e;omega))];exact D.cell i hi
  .dsimp only;rw [Vp,zb ⟨rfl,by omega,by omega⟩,BitVec.toInt_ofInt,Int.bmod_def];omega
 .rw [zc c2];have hx:=K.x (by omega);refine ⟨fun a ha=>yK (by omega),rfl,.inr (.inr ⟨rfl,⟨?_,?_,by omega,ht1,?_,?_,fun i hi=>?_⟩⟩)⟩
  .dsimp only;rw [yK (by omega)];exact D.top
  .dsimp only;rw [Vp,zb ⟨rfl,by omega,by omega⟩,hB,zKO];exact zeR (by omega)
  .rw [zKO];show l.length+1<=_;omega
  .rw [zKO];show t+(l.length+1)<_;omega
  .dsimp only;have hi':i<l.length+1:=by rw [zKO] at hi;exact hi
   have hm:=hmod (t+i);rw [yK (by omega)];rcases zLc i l.length with g | g
   .rw [zMt g];exact D.cell i g
   .have:i=l.length:=by omega
    subst this;rw [List.getElem_append_right (by omega)];simp only [Nat.sub_self,List.getElem_cons_zero];exact hx
def xQ (h:BitVec 64):Nat:=h.toNat/4294967296
theorem zwf (v:BitVec 64) {n:Int}(h:0<=n) (h2:n<4294967296):(xN v n).toNat=(v.toNat%4294967296)*4294967296+n.toNat:=by
 unfold xN;have e3:(BitVec.ofInt 64 n).toNat&&&(4294967295#64).toNat=n.toNat:=by
  have:(BitVec.ofInt 64 n).toNat=n.toNat:=by rw [zLu];omega
  rw [this];exact (zMv n.toNat 32).trans (Nat.mod_eq_of_lt (by omega))
 rw [BitVec.toNat_or,zLG,e3,BitVec.toNat_shiftLeft];have h2':v.toNat <<< 32%2 ^ 64=(v.toNat%4294967296) <<< 32:=by rw [Nat.shiftLeft_eq,Nat.shiftLeft_eq];omega
 rw [h2',<-Nat.shiftLeft_add_eq_or_of_lt (show n.toNat<2 ^ 32 by omega),Nat.shiftLeft_eq]
theorem zBI (h:BitVec 64) {n:Int}(h1:0<=n) (h2:n<4294967296) (hv:xQ h+1<4294967296):xQ (xN ((h >>> 32)+1#64) n)=xQ h+1:=by
 have e:((h >>> 32)+1#64).toNat=xQ h+1:=by
  rw [BitVec.toNat_add,BitVec.toNat_ushiftRight,Nat.shiftRight_eq_div_pow];show (h.toNat/4294967296+1)%2 ^ 64=_;unfold xQ at hv ⊢;omega
 unfold xQ;rw [zwf _ h1 h2,e];unfold xQ at hv ⊢;omega
def Chn (m:List (BitVec 64)) (N:Int) (nb:Nat):Int->List Int->Prop
 | h,[]=>h=0
 | h,x::l=>h=x/\1<=x/\x<nb/\Chn m N nb (ld m (N+x)).toInt l
theorem Chn.mem {m:List (BitVec 64)}{N:Int}{nb:Nat}:∀ {l:List Int}{h:Int},Chn m N nb h l->∀x∈l,1<=x/\x<nb
 | y::l,h,c,x,hx=>by
  rcases zKS.1 hx with rfl | hx
  .exact ⟨c.2.1,c.2.2.1⟩
  .exact Chn.mem c.2.2.2 x hx
theorem Chn.st {m:List (BitVec 64)}{N:Int}{nb:Nat}{a:Int}{v:BitVec 64}:∀ {l:List Int}{h:Int},Chn m N nb h l->(∀x∈l,a≠N+x)->Chn (st m a v) N nb h l
 | [],h,c,_=>c
 | y::l,h,c,hn=>⟨c.1,c.2.1,c.2.2.1,by
  rw [yK (hn y (by simp))];exact Chn.st c.2.2.2 (fun x hx=>hn x (zKJ _ hx))⟩
theorem Chn.head {m:List (BitVec 64)}{N:Int}{nb:Nat}{l:List Int}{h:Int}(c:Chn m N nb h l) (hh:h≠0):∃t,l=h::t/\1<=h/\h<nb/\Chn m N nb (ld m (N+h)).toInt t:=by
 cases l with
 | nil=>exact zm c hh
 | cons x t =>
  obtain ⟨rfl,h1,h2,h3⟩:=c;exact ⟨t,rfl,h1,h2,h3⟩
theorem Chn.empty {m:List (BitVec 64)}{N:Int}{nb:Nat}{l:List Int}(c:Chn m N nb 0 l):l=[]:=by
 cases l with
 | nil=>rfl
 | cons x t=>have:=c.1;have:=c.2.1;omega
def zqu (nb:Nat):List Int:=(List.range (nb-1)).map (fun (i:Nat)=>(i:Int)+1)
theorem ztR (nb:Nat):(zqu nb).Nodup:=by
 unfold zqu;rw [List.Nodup,List.pairwise_map];exact List.nodup_range.imp (fun h e=>h (by omega))
theorem zrR {nb:Nat}{x:Int}:x∈zqu nb↔1<=x/\x<nb:=by
 unfold zqu;rw [zKP];constructor
 .rintro ⟨i,hi,rfl⟩;have:=zK2.1 hi;omega
 .rintro ⟨h1,h2⟩;exact ⟨(x-1).toNat,zK2.2 (by omega),by omega⟩
structure LI (p:zd) (nb:Nat) (m:List (BitVec 64)) (h1 h2:Int) (F E own:List Int):Prop where
 hs:(h1=yu p/\h2=zU p)\/(h1=zU p/\h2=yu p)
 cF:Chn m (zU p) nb (yI (ld m h1)) F
 cE:Chn m (zU p) nb (yI (ld m h2)) E
 all:List.Perm (F++E++own) (zqu nb)
 len:zU p+nb<=m.length
theorem LI.nodup {p:zd}{nb:Nat}{m:List (BitVec 64)}{h1 h2:Int}{F E own:List Int}(h:LI p nb m h1 h2 F E own):(F++E++own).Nodup:=h.all.nodup_iff.2 (ztR nb)
theorem LI.notF {p:zd}{nb:Nat}{m:List (BitVec 64)}{h1 h2:Int}{F E own:List Int}(h:LI p nb m h1 h2 F E own) {x:Int}(hx:x∈own):x∉F/\x∉E:=by
 have:=zLQ.1 h.nodup;exact ⟨fun e=>this.2.2 x (zKV _ e) x hx rfl,fun e=>this.2.2 x (zK8 _ e) x hx rfl⟩
theorem LI.own_in {p:zd}{nb:Nat}{m:List (BitVec 64)}{h1 h2:Int}{F E own:List Int}(h:LI p nb m h1 h2 F E own) {x:Int}(hx:x∈own):1<=x/\x<nb:=zrR.1 (h.all.subset (zK8 _ hx))
structure CK (p:zd) (m:List (BitVec 64)) (c:zV):Prop where
 v:1<=c.PC->xQ c.H<=xQ (ld m c.Head)
 y:c.PC=2->c.Kind=2->ld m c.Head=c.H->c.Y=(ld m (zU p+yI c.H)).toInt
 l:c.PC=2->c.Kind=1->ld m (zU p+c.X)=BitVec.ofInt 64 (yI c.H)
structure Mv (p:zd) (nb:Nat) (X:List Int) (m m':List (BitVec 64)):Prop where
 hd:∀h,h=yu p\/h=zU p->xQ (ld m h)<=xQ (ld m' h)/\(ld m' h=ld m h\/xQ (ld m h)<xQ (ld m' h))
 nx:∀x:Int,1<=x->x<nb->x∉X->ld m' (zU p+x)=ld m (zU p+x)
theorem Mv.refl (p:zd) (nb:Nat) (X:List Int) (m:List (BitVec 64)):Mv p nb X m m:=⟨fun h _=>⟨zKF _,.inl rfl⟩,fun _ _ _ _=>rfl⟩
theorem CK.mv {p:zd}{nb:Nat}{m m':List (BitVec 64)}{h1 h2:Int}{F E own X:List Int}{c:zV}(k:CK p m c) (L:LI p nb m h1 h2 F E own) (M:Mv p nb X m m') (hX:∀x∈X,x∈own)
  (hh:c.Head=h1\/c.Head=h2) (hn:1<=c.PC->c.Kind=2->1<=yI c.H/\yI c.H<nb) (hx:c.Kind=1->1<=c.X/\c.X<nb/\c.X∉X):CK p m' c:=by
 obtain ⟨m1,m2⟩:=M.hd c.Head (by rcases L.hs with g | g<;>rcases hh with hh | hh<;>rw [hh]<;>simp [g]);refine ⟨fun h=>zLI (k.v h) m1,fun h2 hk e=>?_,fun h2 hk=>?_⟩
 .have hv:=k.v (by omega);have e':ld m c.Head=c.H:=by
   rcases m2 with m2 | m2
   .rw [<-m2];exact e
   .rw [e] at m2;omega
  obtain ⟨n1,n2⟩:=hn (by omega) hk;rw [M.nx _ n1 n2 (fun hmem=>?_)]
  .exact k.y h2 hk e'
  .obtain ⟨f1,f2⟩:=L.notF (hX _ hmem);rcases hh with hh | hh
   .obtain ⟨t,ht,_⟩:=L.cF.head (by rw [<-hh,e'];omega);rw [<-hh,e'] at ht;exact f1 (by rw [ht];simp)
   .obtain ⟨t,ht,_⟩:=L.cE.head (by rw [<-hh,e'];omega);rw [<-hh,e'] at ht;exact f2 (by rw [ht];simp)
 .obtain ⟨x1,x2,x3⟩:=hx hk;rw [M.nx _ x1 x2 x3];exact k.l h2 hk
theorem LI.swap {p:zd}{nb:Nat}{m:List (BitVec 64)}{h1 h2:Int}{F E own:List Int}(h:LI p nb m h1 h2 F E own):LI p nb m h2 h1 E F own :=
 ⟨h.hs.elim (fun g=>.inr ⟨g.2,g.1⟩) (fun g=>.inl ⟨g.2,g.1⟩),h.cE,h.cF,(zLo.append_right own).trans h.all,h.len⟩
theorem zr5 {p:zd}(hp:zJ p) {m:List (BitVec 64)}{a x:Int}{v:BitVec 64}(ha:a=yu p\/a=zU p) (hx:1<=x):ld (st m a v) (zU p+x)=ld m (zU p+x):=by
 have:=vd hp;exact yK (by omega)
theorem Chn.st_head {p:zd}(hp:zJ p) {m:List (BitVec 64)}{nb:Nat}{a h:Int}{l:List Int}{v:BitVec 64}(ha:a=yu p\/a=zU p) (c:Chn m (zU p) nb h l):Chn (Go.Pe.G.st m a v) (zU p) nb h l:=by
 have:=vd hp;exact c.st (fun x hx=>by have:=(c.mem x hx).1;omega)
theorem Mv.head {p:zd}(hp:zJ p) {nb:Nat}{X:List Int}{m:List (BitVec 64)}{a:Int}{v:BitVec 64}(ha:a=yu p\/a=zU p) (hv:xQ (ld m a)<xQ v):Mv p nb X m (st m a v):=by
 refine ⟨fun h hh=>?_,fun x hx _ _=>zr5 hp ha hx⟩;by_cases e:a=h
 .subst e;rw [Vp];split
  .exact ⟨by omega,.inr hv⟩
  .exact ⟨zKF _,.inl rfl⟩
 .rw [yK e];exact ⟨zKF _,.inl rfl⟩
theorem zAr {p:zd}(hp:zJ p) {nb:Nat}(hnb:nb<1000) {m:List (BitVec 64)}{h1 h2:Int}{F E own:List Int}(L:LI p nb m h1 h2 F E own) {c:zV}
  (hk:c.Kind=2) (hh:c.Head=h1) (hN:c.Next=zU p) (ho:c.Out=0) (hpc:0<=c.PC/\c.PC<=2) (K:CK p m c) (hn:1<=c.PC->1<=yI c.H/\yI c.H<nb) (hv:xQ (ld m h1)+1<4294967296) :
  ((zD m c).1=m/\(zD m c).2.Out≠1/\((zD m c).2.Out=2->F=[])/\CK p m (zD m c).2) \/
  (∃x F',F=x::F'/\(zD m c).2.Out=1/\(zD m c).2.X=x/\LI p nb (zD m c).1 h1 h2 F' E (x::own)/\Mv p nb [] m (zD m c).1/\xQ (ld (zD m c).1 h1)=xQ (ld m h1)+1/\ld (zD m c).1 h2=ld m h2):=by
 have hE:=vd hp;have hF:=Ya hp;have hd:h1=yu p\/h1=zU p:=by rcases L.hs with g | g<;>simp [g]
 unfold zD;rw [zi];by_cases c0:c.PC=0
 .rw [zb c0];left;split
  .rename_i e;refine ⟨rfl,(by show (2:Int)≠1;decide),fun _=>?_,⟨fun _=>by rw [hh];exact zKF _,fun e2=>(by cases e2),fun e2=>(by cases e2)⟩⟩;have:=L.cF;rw [hh] at e;rw [e.2] at this;exact this.empty
  .refine ⟨rfl,by dsimp only;omega,fun e=>by dsimp only at e;omega,⟨fun _=>by rw [hh];exact zKF _,fun e2=>(by cases e2),fun e2=>(by cases e2)⟩⟩
 .rw [zc c0];by_cases c1:c.PC=1
  .rw [zb c1,zb hk];left;refine ⟨rfl,by dsimp only;omega,fun e=>by dsimp only at e;omega,⟨fun _=>K.v (by omega),fun _ _ _=>?_,fun _ e=>by dsimp only at e;omega⟩⟩;have:=hn (by omega);dsimp only;rw [hN,yR]
  .rw [zc c1];have c2:c.PC=2:=by omega
   simp only [zb hk];by_cases hs:0<=c.Head/\c.Head<m.length/\ld m c.Head=c.H
   .right;have n:=hn (by omega);have hsw:sw m c.Head c.H (xN (c.H >>> 32+1#64) c.Y)=(st m c.Head (xN (c.H >>> 32+1#64) c.Y),true):=by unfold sw;rw [zb hs]
    rw [hsw];have hc:=L.cF;rw [<-hh,hs.2.2] at hc;obtain ⟨t,ht,_,_,hct⟩:=hc.head (by omega);have hy:=K.y c2 hk hs.2.2;have hct':=hct;rw [<-hy] at hct';have y0:0<=c.Y/\c.Y<nb:=by
     cases t with
     | nil=>have e:c.Y=0:=hct';omega
     | cons z t=>have:=hct'.1;have:=hct'.2.1;have:=hct'.2.2.1;omega
    have vp:xQ (xN (c.H >>> 32+1#64) c.Y)=xQ c.H+1:=zBI c.H y0.1 (by omega) (by rw [<-hs.2.2,hh];exact hv);have hcH:xQ c.H=xQ (ld m h1):=by rw [<-hs.2.2,hh]
    have ld1:ld (st m h1 (xN (c.H >>> 32+1#64) c.Y)) h1=xN (c.H >>> 32+1#64) c.Y:=by rw [Vp,zb ⟨rfl,by rw [<-hh];exact hs.1,by rw [<-hh];exact hs.2.1⟩]
    have h12:h1≠h2:=by rcases L.hs with g | g<;>omega
    refine ⟨yI c.H,t,ht,rfl,rfl,?_,?_,?_,?_⟩
    .rw [hh];refine ⟨L.hs,?_,?_,?_,by rw [Yv];exact L.len⟩
     .rw [ld1,zeC _ y0.1 (by omega)];exact hct'.st_head hp hd
     .rw [yK h12];exact L.cE.st_head hp hd
     .refine List.Perm.trans ?_ L.all;rw [ht];show List.Perm (t++E++yI c.H::own) (yI c.H::(t++E++own));exact List.perm_middle
    .rw [hh];exact Mv.head hp hd (by rw [vp,hcH];omega)
    .rw [hh,ld1,vp,hcH]
    .rw [hh,yK h12]
   .left;have hsw:sw m c.Head c.H (xN (c.H >>> 32+1#64) c.Y)=(m,false):=by unfold sw;rw [zc hs]
    rw [hsw];refine ⟨rfl,by dsimp only;simp;omega,fun e=>by simp at e;omega,⟨fun e=>by simp at e,fun e=>by simp at e,fun e=>by simp at e⟩⟩
theorem zDe {n:Int}(h:0<=n) (h2:n<4294967296):(BitVec.ofInt 64 n).toInt=n:=toInt_ofInt h h2
theorem zo8 {N a b:Int}(h:N+a=N+b):b=a:=by omega
theorem zyU {p:zd}(hp:zJ p) {nb:Nat}(hnb:nb<1000) {m:List (BitVec 64)}{h1 h2 b:Int}{F E o1 o2:List Int}(L:LI p nb m h1 h2 F E (o1++b::o2)) {c:zV}
  (hk:c.Kind=1) (hh:c.Head=h1) (hN:c.Next=zU p) (hX:c.X=b) (ho:c.Out=0) (hpc:0<=c.PC/\c.PC<=2) (K:CK p m c) (hn:1<=c.PC->yI c.H<nb) (hv:xQ (ld m h1)+1<4294967296) :
  ((zD m c).2.Out=0/\LI p nb (zD m c).1 h1 h2 F E (o1++b::o2)/\Mv p nb [b] m (zD m c).1/\CK p (zD m c).1 (zD m c).2/\(∀a,a<=zU p->ld (zD m c).1 a=ld m a)) \/
  ((zD m c).2.Out=1/\LI p nb (zD m c).1 h1 h2 (b::F) E (o1++o2)/\Mv p nb [] m (zD m c).1/\xQ (ld (zD m c).1 h1)=xQ (ld m h1)+1/\(∀a,a<=zU p->a≠h1->ld (zD m c).1 a=ld m a)):=by
 have hE:=vd hp;have hF:=Ya hp;have hd:h1=yu p\/h1=zU p:=by rcases L.hs with g | g<;>simp [g]
 have hd2:h2=yu p\/h2=zU p:=by rcases L.hs with g | g<;>simp [g]
 have hb:1<=b/\b<nb:=L.own_in (zK8 _ (by simp));have hbn:=L.notF (x:=b) (zK8 _ (by simp));have hlen:=L.len;have hk2: ¬c.Kind=2:=by omega
 unfold zD;rw [zi];by_cases c0:c.PC=0
 .rw [zb c0,zc (fun e=>hk2 e.1)];left;exact ⟨ho,L,Mv.refl _ _ _ _,⟨fun _=>by rw [hh];exact zKF _,fun e2=>(by cases e2),fun e2=>(by cases e2)⟩,fun _ _=>rfl⟩
 .rw [zc c0];by_cases c1:c.PC=1
  .rw [zb c1,zc hk2];left;have nn:=znT c.H;have ea:wc (c.Next+c.X)=zU p+b:=by rw [hN,hX,yR]
   rw [ea];have hne:∀h,h=yu p\/h=zU p->ld (st m (zU p+b) (BitVec.ofInt 64 (yI c.H))) h=ld m h:=fun h hh=>yK (by omega);refine ⟨ho,⟨L.hs,?_,?_,L.all,by dsimp only;rw [Yv];exact hlen⟩,⟨fun h hh=>?_,fun x x1 x2 x3=>?_⟩,⟨fun _=>?_,fun _ e=>zm e hk2,fun _ _=>?_⟩,fun a ha=>?_⟩
   .dsimp only;rw [hne _ hd];exact L.cF.st (fun x hx e=>hbn.1 (zo8 e▸hx))
   .dsimp only;rw [hne _ hd2];exact L.cE.st (fun x hx e=>hbn.2 (zo8 e▸hx))
   .dsimp only;rw [hne _ hh];exact ⟨zKF _,.inl rfl⟩
   .dsimp only;exact yK (fun e=>x3 (zLn.2 (zo8 e)))
   .dsimp only;rw [hh,hne _ hd,<-hh];exact K.v (by omega)
   .dsimp only;rw [hX,Vp,zb ⟨rfl,by omega,by omega⟩]
   .dsimp only;exact yK (by omega)
  .rw [zc c1];have c2:c.PC=2:=by omega
   simp only [zc hk2];by_cases hs:0<=c.Head/\c.Head<m.length/\ld m c.Head=c.H
   .right;have n:=hn (by omega);have nn:=znT c.H;have hsw:sw m c.Head c.H (xN (c.H >>> 32+1#64) c.X)=(st m c.Head (xN (c.H >>> 32+1#64) c.X),true):=by unfold sw;rw [zb hs]
    rw [hsw];have hl:=K.l c2 hk;rw [hX] at hl;have vp:xQ (xN (c.H >>> 32+1#64) c.X)=xQ c.H+1:=zBI c.H (by omega) (by omega) (by rw [<-hs.2.2,hh];exact hv);have hcH:xQ c.H=xQ (ld m h1):=by rw [<-hs.2.2,hh]
    have ld1:ld (st m h1 (xN (c.H >>> 32+1#64) c.X)) h1=xN (c.H >>> 32+1#64) c.X:=by rw [Vp,zb ⟨rfl,by rw [<-hh];exact hs.1,by rw [<-hh];exact hs.2.1⟩]
    have h12:h1≠h2:=by rcases L.hs with g | g<;>omega
    refine ⟨rfl,?_,?_,?_,fun a ha hne=>?_⟩
    .rw [hh];refine ⟨L.hs,?_,?_,?_,by dsimp only;rw [Yv];exact hlen⟩
     .dsimp only;rw [ld1,zeC _ (by omega) (by omega),hX];refine ⟨rfl,hb.1,hb.2,?_⟩;rw [zr5 hp hd hb.1,hl,zDe nn.1 nn.2];have:=L.cF;rw [<-hh,hs.2.2] at this;rw [<-hX,<-hh] at *;exact this.st_head hp hd
     .dsimp only;rw [yK h12];exact L.cE.st_head hp hd
     .refine List.Perm.trans ?_ L.all;show List.Perm (b::(F++E++(o1++o2))) (F++E++(o1++b::o2));rw [<-zKI (F++E) o1 o2,<-zKI (F++E) o1 (b::o2)];exact List.perm_middle.symm
    .rw [hh];exact Mv.head hp hd (by rw [vp,hcH];omega)
    .rw [hh];dsimp only;rw [ld1,vp,hcH]
    .rw [hh];exact yK (fun e=>hne e.symm)
   .left;have hsw:sw m c.Head c.H (xN (c.H >>> 32+1#64) c.X)=(m,false):=by unfold sw;rw [zc hs]
    rw [hsw];exact ⟨ho,L,Mv.refl _ _ _ _,⟨fun e=>(by simp at e),fun e=>(by simp at e),fun e=>(by simp at e)⟩,fun _ _=>rfl⟩
structure Gh where
 F:List Int
 E:List Int
 D:Int->List Int
 t:Int->Nat
 c:Int->Nat
def yU (s:za) (b:Int):List Int:=(s.Bins[b.toNat]?).getD []
def yL (p:zd) (s:za) (g:Gh):List Int:=g.F.flatMap (yU s)++(List.range p.Workers.toNat).flatMap (fun i:Nat=>g.D ((i:Int)+1))
structure SX (p:zd) (nb:Nat) (s:za) (g:Gh) (own:List Int) (k:Nat):Prop where
 S:SOk p nb s
 L:LI p nb s.M (yu p) (zU p) g.F g.E own
 D:∀w,1<=w->w<=p.Workers->DQ p s.M w (g.t w) (g.D w) (g.c w)
 v:xQ (ld s.M (yu p))<=k/\xQ (ld s.M (zU p))<=k
 dk:∀w,1<=w->w<=p.Workers->g.t w+(g.D w).length<=k+1000
inductive DFr (p:zd) (m m':List (BitVec 64)) (g g':Gh) (w:Int):Prop
 | same (e1:g'.t w=g.t w) (e2:g'.D w=g.D w) (e3:g'.c w=g.c w) (e4:∀a,z6 p w<=a->a<z6 p w+p.Cap+2->ld m' a=ld m a):DFr p m m' g g' w
 | stolen (x:Int) (e1:g'.t w=g.t w+1) (e2:g.D w=x::g'.D w) (e3:g'.c w=g.c w) (e4:∀a,z6 p w<a->a<z6 p w+p.Cap+2->ld m' a=ld m a):DFr p m m' g g' w
structure FX (p:zd) (nb:Nat) (X:List Int) (O:Int->Prop) (s s':za) (g g':Gh):Prop where
 mv:Mv p nb X s.M s'.M
 bn:∀b,1<=b->b∉X->s'.Bins[b.toNat]? =s.Bins[b.toNat]?
 dq:∀w,1<=w->w<=p.Workers->DFr p s.M s'.M g g' w\/(O w/\Dv (g.t w) (g.D w) (g'.t w) (g'.D w))
 fb:∀y∈g'.F,y∈g.F\/yU s' y≠[]
theorem DFr.dv {p:zd}{m m':List (BitVec 64)}{g g':Gh}{w:Int}(h:DFr p m m' g g' w):Dv (g.t w) (g.D w) (g'.t w) (g'.D w):=by
 cases h with
 | same t l c m=>rw [t,l];exact Dv.refl _ _
 | stolen x t l c m=>exact ⟨by omega,fun e=>by omega⟩
theorem FX.dv {p:zd}{nb:Nat}{X:List Int}{O:Int->Prop}{s s':za}{g g':Gh}(h:FX p nb X O s s' g g') {w:Int}(h1:1<=w) (h2:w<=p.Workers):Dv (g.t w) (g.D w) (g'.t w) (g'.D w):=by
 rcases h.dq w h1 h2 with h | h
 .exact h.dv
 .exact h.2
theorem FX.tk {p:zd}{nb:Nat}{X:List Int}{O:Int->Prop}{s s':za}{g g':Gh}(h:FX p nb X O s s' g g') {w:Int}(h1:1<=w) (h2:w<=p.Workers) {d:zg}(K:TK p s.M w (g.t w) (g.D w) d):TK p s'.M w (g'.t w) (g'.D w) d:=K.dv (h.dv h1 h2)
theorem FX.pk {p:zd}(hp:zJ p) {nb:Nat}{X:List Int}{O:Int->Prop}{s s':za}{g g':Gh}(h:FX p nb X O s s' g g') {w:Int}(h1:1<=w) (h2:w<=p.Workers) (ho: ¬O w) {d:zg}(K:PK p s.M w (g.t w) (g.D w) (g.c w) d):PK p s'.M w (g'.t w) (g'.D w) (g'.c w) d:=by
 rcases h.dq w h1 h2 with h | h
 .cases h with
  | same t l c m=>rw [t,l,c];exact K.keep
  | stolen x t l c m=>rw [l] at K;rw [t,c];exact K.stolen hp ⟨h1,h2⟩
 .exact zm h.1 ho
theorem FX.dk {p:zd}(hp:zJ p) {nb:Nat}{X:List Int}{O:Int->Prop}{s s':za}{g g':Gh}(h:FX p nb X O s s' g g') {w:Int}(h1:1<=w) (h2:w<=p.Workers) (ho: ¬O w) {d:zg}(K:DK p s.M w (g.t w) (g.D w) (g.c w) d):DK p s'.M w (g'.t w) (g'.D w) (g'.c w) d:=by
 have hc:=hp.cap;rcases h.dq w h1 h2 with h | h
 .cases h with
  | same t l c m=>rw [t,l,c];exact K.keep hp (fun a h1 h2=>m a (by omega) h2)
  | stolen x t l c m =>
   rw [l] at K;have K':DK p s'.M w (g.t w) (x::g'.D w) (g.c w) d:=K.keep hp (fun a h1 h2=>m a (by omega) h2);rw [t,c];exact K'.stolen (m':=s'.M) (fun _ _=>rfl) hp
 .exact zm h.1 ho
def wT (g:zK):List Int:=if g.Out=0/\(g.PC=6\/g.PC=7) then [g.Bin] else []
def yG (g:zK):List Int:=if g.Out=0/\3<=g.PC/\g.PC<=7 then [g.Obj] else []
structure GX (p:zd) (s:za) (gh:Gh) (g:zK):Prop where
 o:g.Out=0\/g.Out=1
 pc:0<=g.PC/\g.PC<=7
 md:1<=g.Mode/\g.Mode<=3
 ob:1<=g.Obj/\g.Obj<=64
 c0:g.Mode=1->g.Out=0->gh.c g.Who=0
 c5:g.PC=5->g.Out=0->g.C.Out=0/\(0<=g.C.PC/\g.C.PC<=2)/\CK p s.M g.C
 c7:g.PC=7->g.Out=0->g.C.Out=0/\(0<=g.C.PC/\g.C.PC<=2)/\g.C.X=g.Bin/\CK p s.M g.C/\s.Bins[g.Bin.toNat]? =some [g.Obj]
 d3:g.PC=3->g.Out=0->g.Mode=1/\g.D.X=g.Obj/\DK p s.M g.Who (gh.t g.Who) (gh.D g.Who) (gh.c g.Who) g.D
theorem GX.other {p:zd}(hp:zJ p) {nb k:Nat}{s s':za}{gh gh':Gh}{X R:List Int}{O:Int->Prop}{o:zK}(Y:SX p nb s gh (X++R) k) (Fx:FX p nb X O s s' gh gh') (G:GX p s gh o) (M:MOk p nb o)
  (hR:∀x∈wT o,x∈R) (apart:o.Mode=1->¬O o.Who):GX p s' gh' o:=by
 have hsub:∀x∈X,x∈X++R:=fun x hx=>zKV _ hx;have hnd:=(zLQ.1 Y.L.nodup).2.1;have hnot:∀x,x∈wT o->x∉X:=fun x hx hg=>(zLQ.1 hnd).2.2 x hg x (hR x hx) rfl;refine ⟨G.o,G.pc,G.md,G.ob,fun h1 h0=>?_,fun h5 h0=>?_,fun h7 h0=>?_,fun h3 h0=>?_⟩
 .have hw:=M.who h1;rcases Fx.dq o.Who hw.1 hw.2 with h | h
  .cases h with
   | same t l c m=>rw [c];exact G.c0 h1 h0
   | stolen x t l c m=>rw [c];exact G.c0 h1 h0
  .exact zm h.1 (apart h1)
 .obtain ⟨a,b,c⟩:=G.c5 h5 h0;obtain ⟨m1,m2,m3,m4,m5⟩:=M.c5 h5;exact ⟨a,b,c.mv Y.L Fx.mv hsub (.inr m2) (fun h _=>m4 h) (fun e=>by omega)⟩
 .obtain ⟨a,b,c,d,e⟩:=G.c7 h7 h0;obtain ⟨m1,m2,m3,m4,m5⟩:=M.c7 h7;have hown:o.Bin∈wT o:=by unfold wT;rw [zb ⟨h0,.inr h7⟩];simp
  have hno:=hnot _ hown;exact ⟨a,b,c,d.mv Y.L Fx.mv hsub (.inl m2) (fun _ e=>by omega) (fun _=>⟨m4.1,m4.2,by rw [c];exact hno⟩),by rw [Fx.bn o.Bin (by rw [<-c];exact m4.1) hno];exact e⟩
 .obtain ⟨a,b,c⟩:=G.d3 h3 h0;have hw:=M.who a;exact ⟨a,b,Fx.dk hp hw.1 hw.2 (apart a) c⟩
theorem zcT (m:List (BitVec 64)) {c:zV}(h:c.Out=0) (hpc:0<=c.PC/\c.PC<=2) (hk:c.Kind=1\/c.Kind=2) :
  ((zD m c).2.Out=0/\0<=(zD m c).2.PC/\(zD m c).2.PC<=2)\/(zD m c).2.Out=1\/((zD m c).2.Out=2/\c.Kind=2):=by
 unfold zD;rw [zi];split
 .dsimp only;split
  .rename_i e;exact .inr (.inr ⟨rfl,e.1⟩)
  .exact .inl ⟨h,by show (0:Int)<=1;decide,by show (1:Int)<=2;decide⟩
 split
 .split<;>exact .inl ⟨h,by show (0:Int)<=2;decide,by show (2:Int)<=2;decide⟩
 .dsimp only;generalize sw m c.Head c.H _=r;split
  .split<;>exact .inr (.inl rfl)
  .exact .inl ⟨h,by show (0:Int)<=0;decide,by show (0:Int)<=2;decide⟩
theorem zoM (m:List (BitVec 64)) (c:zV):(zD m c).2.Kind=c.Kind/\(zD m c).2.Head=c.Head/\(zD m c).2.Next=c.Next/\(c.Kind=1->(zD m c).2.X=c.X):=by
 unfold zD;split
 .exact ⟨rfl,rfl,rfl,fun _=>rfl⟩
 split
 .dsimp only;split<;>exact ⟨rfl,rfl,rfl,fun _=>rfl⟩
 split
 .split<;>exact ⟨rfl,rfl,rfl,fun _=>rfl⟩
 .dsimp only;generalize sw m c.Head c.H _=r;split
  .split
   .rename_i e;exact ⟨rfl,rfl,rfl,fun e2=>by omega⟩
   .exact ⟨rfl,rfl,rfl,fun _=>rfl⟩
  .exact ⟨rfl,rfl,rfl,fun _=>rfl⟩
theorem SX.quiet {p:zd}{nb k:Nat}{s s':za}{g:Gh}{own:List Int}(X:SX p nb s g own k) (S':SOk p nb s') (hm:s'.M=s.M):SX p nb s' g own (k+1) :=
 ⟨S',by rw [hm];exact X.L,by rw [hm];exact X.D,by rw [hm];exact ⟨Nat.le_succ_of_le X.v.1,Nat.le_succ_of_le X.v.2⟩,fun w h1 h2=>by have:=X.dk w h1 h2;omega⟩
theorem FX.quiet {p:zd}{nb:Nat}{X:List Int}{O:Int->Prop}{s s':za}{g:Gh}(hm:s'.M=s.M) (hb:∀b,1<=b->b∉X->s'.Bins[b.toNat]? =s.Bins[b.toNat]?):FX p nb X O s s' g g :=
 ⟨by rw [hm];exact Mv.refl _ _ _ _,hb,fun _ _ _=>.inl (.same rfl rfl rfl (fun _ _ _=>by rw [hm])),fun _ h=>.inl h⟩
theorem ZD {p:zd}{s s':za}{g:Gh}(hb:s'.Bins=s.Bins):yL p s' g=yL p s g:=by
 unfold yL yU;rw [hb]
theorem uf {g:zK}(h:g.Out≠0\/(g.PC≠6/\g.PC≠7)):wT g=[]:=by unfold wT;rw [zi]
theorem zlz {g:zK}(h:g.Out=0) (h2:g.PC=6\/g.PC=7):wT g=[g.Bin]:=by unfold wT;rw [zb ⟨h,h2⟩]
theorem Z3 {g:zK}(h:g.Out≠0\/g.PC<3\/7<g.PC):yG g=[]:=by unfold yG;rw [zi]
theorem uC {g:zK}(h:g.Out=0) (h2:3<=g.PC) (h3:g.PC<=7):yG g=[g.Obj]:=by unfold yG;rw [zb ⟨h,h2,h3⟩]
theorem GX.ask {p:zd}{s:za}{gh:Gh}{g:zK}(o:g.Out=0) (md:1<=g.Mode/\g.Mode<=3) (ob:1<=g.Obj/\g.Obj<=64) (c0:g.Mode=1->gh.c g.Who=0) (q:zd):GX p s gh (zjT q g) :=
 ⟨.inl o,⟨by show (0:Int)<=5;decide,by show (5:Int)<=7;decide⟩,md,ob,fun h _=>c0 h,
  fun _ _=>⟨rfl,⟨by show (0:Int)<=0;decide,by show (0:Int)<=2;decide⟩,⟨fun e=>zm e (by show ¬(1:Int)<=0;decide),fun e=>zm e (by show ¬(0:Int)=2;decide),fun e=>zm e (by show ¬(0:Int)=2;decide)⟩⟩,
  fun e=>zm e (by show ¬(5:Int)=7;decide),fun e=>zm e (by show ¬(5:Int)=3;decide)⟩
theorem GX.plain {p:zd}{s:za}{gh:Gh}{g:zK}(o:g.Out=0\/g.Out=1) (pc:0<=g.PC/\g.PC<=7) (md:1<=g.Mode/\g.Mode<=3) (ob:1<=g.Obj/\g.Obj<=64) (c0:g.Mode=1->g.Out=0->gh.c g.Who=0) (h:g.Out≠0\/(g.PC≠3/\g.PC≠5/\g.PC≠7)):GX p s gh g :=
 ⟨o,pc,md,ob,c0,fun e e2=>by omega,fun e e2=>by omega,fun e e2=>by omega⟩
def zAd (g:zK) (w:Int):Prop:=g.Mode=1/\w=g.Who
def zs2 (p:zd) (nb k:Nat) (R:List Int) (gh:Gh) (s:za) (g:zK) (s':za) (g':zK):Prop :=
 ∃gh',SX p nb s' gh' (wT g'++R) (k+1)/\GX p s' gh' g'/\FX p nb (wT g) (zAd g) s s' gh gh'/\(g.Mode=1->g.Out=0->gh'.c g.Who=0)/\(∀b∈gh'.F,b∈gh.F\/yU s' b≠[]) /\
  ∃N,List.Perm (yL p s' gh'++yG g') (N++(yL p s gh++yG g)) /\
   ((N=[]/\s'.T=s.T)\/(N=[g.Obj]/\¬(s.T.Marks|||bit g.Obj=s.T.Marks)/\s'.T={s.T with Marks:=s.T.Marks|||bit g.Obj}))
theorem zs2.quiet {p:zd}{nb k:Nat}{R:List Int}{gh:Gh}{s s':za}{g g':zK}(X:SX p nb s gh (wT g++R) k) (S':SOk p nb s') (hm:s'.M=s.M) (hb:s'.Bins=s.Bins) (hT:s'.T=s.T)
  (ho:wT g'=wT g) (hh:yG g'=yG g) (c0:g.Mode=1->g.Out=0->gh.c g.Who=0) (G':GX p s' gh g'):zs2 p nb k R gh s g s' g' :=
 ⟨gh,by rw [ho];exact X.quiet S' hm,G',FX.quiet hm (fun _ _ _=>by rw [hb]),c0,fun _ h=>.inl h,[],by rw [ZD hb,hh];exact zK3 _,.inl ⟨rfl,hT⟩⟩
theorem zrQ (m:List (BitVec 64)) {c:zV}(hk:c.Kind=2) {a:Int}(ha:a≠c.Head):ld (zD m c).1 a=ld m a:=by
 unfold zD;split
 .rfl
 split
 .rfl
 split
 .rfl
 .dsimp only;unfold sw;split
  .exact yK (fun e=>ha e.symm)
  .rfl
theorem Chn.congr {m m':List (BitVec 64)}{N:Int}{nb:Nat}(hm:∀x:Int,1<=x->ld m' (N+x)=ld m (N+x)):∀ {l:List Int}{h:Int},Chn m N nb h l->Chn m' N nb h l
 | [],h,c=>c
 | y::l,h,c=>⟨c.1,c.2.1,c.2.2.1,by rw [hm y c.2.1];exact Chn.congr hm c.2.2.2⟩
theorem LI.low {p:zd}(hp:zJ p) {nb:Nat}{m m':List (BitVec 64)}{h1 h2:Int}{F E own:List Int}(L:LI p nb m h1 h2 F E own) (hl:m'.length=m.length) (hm:∀a,yu p<=a->ld m' a=ld m a):LI p nb m' h1 h2 F E own:=by
 have hE:=vd hp;have h:h1=yu p\/h1=zU p:=by rcases L.hs with g | g<;>simp [g]
 have h':h2=yu p\/h2=zU p:=by rcases L.hs with g | g<;>simp [g]
 exact ⟨L.hs,by rw [hm h1 (by omega)];exact L.cF.congr (fun x hx=>hm _ (by omega)),by rw [hm h2 (by omega)];exact L.cE.congr (fun x hx=>hm _ (by omega)),L.all,by rw [hl];exact L.len⟩
theorem Mv.low {p:zd}(hp:zJ p) {nb:Nat}{X:List Int}{m m':List (BitVec 64)}(hm:∀a,yu p<=a->ld m' a=ld m a):Mv p nb X m m':=by
 have hE:=vd hp;exact ⟨fun h hh=>by rw [hm h (by omega)];exact ⟨zKF _,.inl rfl⟩,fun x hx _ _=>hm _ (by omega)⟩
theorem zC9 {p:zd}(hp:zJ p) {v w:Int}(hv:1<=v/\v<=p.Workers) (hw:1<=w/\w<=p.Workers) (h:v≠w):z6 p v+p.Cap+2<=z6 p w\/z6 p w+p.Cap+2<=z6 p v:=by
 have hk:=hp.wk;have hc:=hp.cap;have h1:=(Xb hp hv.1 hv.2).1;have h2:=(Xb hp hw.1 hw.2).1;have hx:v=1\/v=2\/v=3:=by omega
 have hy:w=1\/w=2\/w=3:=by omega
 rw [h1,h2];rcases hx with rfl | rfl | rfl<;>rcases hy with rfl | rfl | rfl<;>omega
theorem zx4 {p:zd}(hp:zJ p) {w:Int}(hw:1<=w/\w<=p.Workers) {m m':List (BitVec 64)}(hm:∀a,(a<z6 p w\/z6 p w+p.Cap+2<=a)->ld m' a=ld m a):(∀a,yu p<=a->ld m' a=ld m a) /\
  ∀v,1<=v->v<=p.Workers->v≠w->∀a,z6 p v<=a->a<z6 p v+p.Cap+2->ld m' a=ld m a:=by
 have hd:=Xb hp hw.1 hw.2;refine ⟨fun a ha=>hm a (by omega),fun v h1 h2 hne a h3 h4=>hm a ?_⟩;have:=zC9 hp ⟨h1,h2⟩ hw hne;omega
def VL (g:Gh) (w:Int) (t:Nat) (l:List Int) (c:Nat):Gh:={g with D:=fun v=>if v=w then l else g.D v,t:=fun v=>if v=w then t else g.t v,c:=fun v=>if v=w then c else g.c v}
theorem XM {g:Gh}{w v:Int}{t c:Nat}{l:List Int}(h:v≠w):(VL g w t l c).D v=g.D v/\(VL g w t l c).t v=g.t v/\(VL g w t l c).c v=g.c v:=by
 unfold VL;dsimp only;rw [zc h,zc h,zc h];exact ⟨rfl,rfl,rfl⟩
theorem vf {g:Gh}{w:Int}{t c:Nat}{l:List Int}:(VL g w t l c).D w=l/\(VL g w t l c).t w=t/\(VL g w t l c).c w=c:=by
 unfold VL;dsimp only;rw [zb rfl,zb rfl,zb rfl];exact ⟨rfl,rfl,rfl⟩
theorem SX.dq {p:zd}(hp:zJ p) {nb k:Nat}{s s':za}{g:Gh}{own:List Int}(X:SX p nb s g own k) (S':SOk p nb s') (hl:s'.M.length=s.M.length) {w:Int}(hw:1<=w/\w<=p.Workers)
  (hm:∀a,(a<z6 p w\/z6 p w+p.Cap+2<=a)->ld s'.M a=ld s.M a) {t c:Nat}{l:List Int}(D:DQ p s'.M w t l c) (hk:t+l.length<=k+1+1000):SX p nb s' (VL g w t l c) own (k+1):=by
 obtain ⟨h1,h2⟩:=zx4 hp hw hm;have hE:=vd hp;refine ⟨S',X.L.low hp hl h1,fun v a b=>?_,?_,fun v a b=>?_⟩
 .by_cases e:v=w
  .subst e;rw [vf.1,vf.2.1,vf.2.2];exact D
  .rw [(XM e).1,(XM e).2.1,(XM e).2.2];exact (X.D v a b).keep hp (h2 v a b e)
 .rw [h1 _ (by omega),h1 _ (by omega)];exact ⟨Nat.le_succ_of_le X.v.1,Nat.le_succ_of_le X.v.2⟩
 .by_cases e:v=w
  .subst e;rw [vf.1,vf.2.1];exact hk
  .rw [(XM e).1,(XM e).2.1];have:=X.dk v a b;omega
theorem FX.own {p:zd}(hp:zJ p) {nb:Nat}{Y:List Int}{O:Int->Prop}{s s':za}{g:Gh}{w:Int}(hw:1<=w/\w<=p.Workers)
  (hm:∀a,(a<z6 p w\/z6 p w+p.Cap+2<=a)->ld s'.M a=ld s.M a) (hb:s'.Bins=s.Bins) {t c:Nat}{l:List Int}(hO:O w) (V:Dv (g.t w) (g.D w) t l):FX p nb Y O s s' g (VL g w t l c):=by
 obtain ⟨h1,h2⟩:=zx4 hp hw hm;refine ⟨Mv.low hp h1,fun b _ _=>by rw [hb],fun v a b=>?_,fun _ h=>.inl h⟩;by_cases e:v=w
 .subst e;right;rw [vf.1,vf.2.1];exact ⟨hO,V⟩
 .exact .inl (.same (XM e).2.1 (XM e).1 (XM e).2.2 (h2 v a b e))
theorem wi {α β:Type}{f g:α->List β}:∀ {l:List α},(∀x∈l,f x=g x)->l.flatMap f=l.flatMap g
 | [],_=>rfl
 | a::l,h=>by rw [zLs,zLs,h a (by simp),wi (fun x hx=>h x (zKJ _ hx))]
theorem zCV {n:Nat}{i:Nat}(h:i<n):∃a b,List.range n=a++i::b/\i∉a/\i∉b:=by
 refine ⟨List.range i,(List.range (n-i-1)).map (fun j=>i+1+j),?_,by simp,by simp;omega⟩;have:n=i+(1+(n-i-1)):=by omega
 rw [this,List.range_add,List.range_add];simp [zLY,zLR,Function.comp_def]
theorem zsm {p:zd}{s s':za}{g:Gh}(hb:s'.Bins=s.Bins) {w:Int}(hw:1<=w/\w<=p.Workers) {t c:Nat}{l:List Int}:∃a b,yL p s g=a++g.D w++b/\yL p s' (VL g w t l c)=a++l++b:=by
 obtain ⟨a,b,e,ha,hb'⟩:=zCV (n:=p.Workers.toNat) (i:=(w-1).toNat) (by omega);have ew:(((w-1).toNat:Nat):Int)+1=w:=by omega
 have ne:∀j:Nat,j≠(w-1).toNat->(j:Int)+1≠w:=fun j hj e=>hj (by omega);refine ⟨g.F.flatMap (yU s)++a.flatMap (fun i:Nat=>g.D ((i:Int)+1)),b.flatMap (fun i:Nat=>g.D ((i:Int)+1)),?_,?_⟩
 .unfold yL;rw [e,zLZ,zLs,ew];simp [zKI]
 .unfold yL yU;rw [hb,e,zLZ,zLs,ew,vf.1];have h1:a.flatMap (fun i:Nat=>(VL g w t l c).D ((i:Int)+1))=a.flatMap (fun i:Nat=>g.D ((i:Int)+1)):=by
   refine wi (fun j hj=>?_);exact (XM (ne j (fun e=>ha (e▸hj)))).1
  have h2:b.flatMap (fun i:Nat=>(VL g w t l c).D ((i:Int)+1))=b.flatMap (fun i:Nat=>g.D ((i:Int)+1)):=by
   refine wi (fun j hj=>?_);exact (XM (ne j (fun e=>hb' (e▸hj)))).1
  rw [h1,h2];have hF:(VL g w t l c).F=g.F:=rfl;rw [hF];simp [zKI]
theorem Mv.weak {p:zd}{nb:Nat}{m m':List (BitVec 64)}(M:Mv p nb [] m m') (Y:List Int):Mv p nb Y m m':=⟨M.hd,fun x a b _=>M.nx x a b (by simp)⟩
theorem Mv.grow {p:zd}{nb:Nat}{X Y:List Int}{m m':List (BitVec 64)}(M:Mv p nb X m m') (h:∀x∈X,x∈Y):Mv p nb Y m m':=⟨M.hd,fun x a b c=>M.nx x a b (fun e=>c (h x e))⟩
theorem SX.chain {p:zd}(hp:zJ p) {nb k:Nat}{s s':za}{g:Gh}{own own' F E:List Int}(X:SX p nb s g own k) (S':SOk p nb s') (hlow:∀a,a<yu p->ld s'.M a=ld s.M a) (L':LI p nb s'.M (yu p) (zU p) F E own')
  (hv:xQ (ld s'.M (yu p))<=k+1/\xQ (ld s'.M (zU p))<=k+1):SX p nb s' {g with F:=F,E:=E} own' (k+1) :=
 ⟨S',L',fun w h1 h2=>(X.D w h1 h2).keep hp (fun a h3 h4=>hlow a (by have:=Xb hp h1 h2;omega)),hv,fun w h1 h2=>by have:=X.dk w h1 h2;show g.t w+(g.D w).length<=_;omega⟩
theorem FX.chain {p:zd}(hp:zJ p) {nb:Nat}{Y:List Int}{O:Int->Prop}{s s':za}{g:Gh}{F E:List Int}(M:Mv p nb Y s.M s'.M) (hb:s'.Bins=s.Bins) (hlow:∀a,a<yu p->ld s'.M a=ld s.M a) (hF:∀y∈F,y∈g.F\/yU s' y≠[]):FX p nb Y O s s' g {g with F:=F,E:=E} :=
 ⟨M,fun _ _ _=>by rw [hb],fun w h1 h2=>.inl (.same rfl rfl rfl (fun a h3 h4=>hlow a (by have:=Xb hp h1 h2;omega))),hF⟩
theorem SX.popE {p:zd}(hp:zJ p) {nb k:Nat}{s:za}{g:Gh}{own:List Int}(X:SX p nb s g own k) (hk:k<4294960000) {c:zV}(kd:c.Kind=2) (hh:c.Head=zU p) (hN:c.Next=zU p) (ho:c.Out=0) (hpc:0<=c.PC/\c.PC<=2) (K:CK p s.M c)
  (hn:1<=c.PC->1<=yI c.H/\yI c.H<nb) (S':SOk p nb {s with M:=(zD s.M c).1}) :
  ((zD s.M c).1=s.M/\(zD s.M c).2.Out≠1/\CK p s.M (zD s.M c).2/\((zD s.M c).2.Out=2->g.E=[])) \/
  (∃x l,g.E=x::l/\(zD s.M c).2.Out=1/\(zD s.M c).2.X=x/\SX p nb {s with M:=(zD s.M c).1} {g with E:=l} (x::own) (k+1)/\∀Y O,FX p nb Y O s {s with M:=(zD s.M c).1} g {g with E:=l}):=by
 have hE:=vd hp;have hnb:=X.S.nbk;have hv:=X.v;have hcells:=fun a (ha:a≠c.Head)=>zrQ s.M kd ha;rcases zAr hp hnb.2 (L:=X.L.swap) kd hh hN ho hpc K hn (by omega) with ⟨a,b,e,d⟩ | ⟨x,l,a,b,e,d,f,v1,v2⟩
 .exact .inl ⟨a,b,d,e⟩
 .refine .inr ⟨x,l,a,b,e,X.chain hp S' (fun a ha=>hcells a (by omega)) d.swap ?_,fun Y O=>FX.chain hp (f.weak Y) rfl (fun a ha=>hcells a (by omega)) (fun _ h=>.inl h)⟩;rw [v2,v1];omega
theorem SX.popF {p:zd}(hp:zJ p) {nb k:Nat}{s:za}{g:Gh}{own:List Int}(X:SX p nb s g own k) (hk:k<4294960000) {c:zV}(kd:c.Kind=2) (hh:c.Head=yu p) (hN:c.Next=zU p) (ho:c.Out=0) (hpc:0<=c.PC/\c.PC<=2) (K:CK p s.M c)
  (hn:1<=c.PC->1<=yI c.H/\yI c.H<nb) (S':SOk p nb {s with M:=(zD s.M c).1}) :
  ((zD s.M c).1=s.M/\(zD s.M c).2.Out≠1/\CK p s.M (zD s.M c).2/\((zD s.M c).2.Out=2->g.F=[])) \/
  (∃x l,g.F=x::l/\(zD s.M c).2.Out=1/\(zD s.M c).2.X=x/\SX p nb {s with M:=(zD s.M c).1} {g with F:=l} (x::own) (k+1)/\∀Y O,FX p nb Y O s {s with M:=(zD s.M c).1} g {g with F:=l}):=by
 have hE:=vd hp;have hnb:=X.S.nbk;have hv:=X.v;have hcells:=fun a (ha:a≠c.Head)=>zrQ s.M kd ha;rcases zAr hp hnb.2 (L:=X.L) kd hh hN ho hpc K hn (by omega) with ⟨a,b,e,d⟩ | ⟨x,l,a,b,e,d,f,v1,v2⟩
 .exact .inl ⟨a,b,d,e⟩
 .refine .inr ⟨x,l,a,b,e,X.chain hp S' (fun a ha=>hcells a (by omega)) d ?_,fun Y O=>FX.chain hp (f.weak Y) rfl (fun a ha=>hcells a (by omega)) (fun y hy=>.inl (by rw [a];exact zKJ _ hy))⟩;rw [v2,v1];omega
theorem SX.pushF {p:zd}(hp:zJ p) {nb k:Nat}{s:za}{g:Gh}{o1 o2:List Int}{b:Int}(X:SX p nb s g (o1++b::o2) k) (hk:k<4294960000) {c:zV}(kd:c.Kind=1) (hh:c.Head=yu p) (hN:c.Next=zU p) (hX:c.X=b) (ho:c.Out=0) (hpc:0<=c.PC/\c.PC<=2) (K:CK p s.M c)
  (hn:1<=c.PC->yI c.H<nb) (S':SOk p nb {s with M:=(zD s.M c).1}) :
  ((zD s.M c).2.Out=0/\SX p nb {s with M:=(zD s.M c).1} g (o1++b::o2) (k+1)/\CK p (zD s.M c).1 (zD s.M c).2/\(∀Y O,b∈Y->FX p nb Y O s {s with M:=(zD s.M c).1} g g)) \/
  ((zD s.M c).2.Out=1/\SX p nb {s with M:=(zD s.M c).1} {g with F:=b::g.F} (o1++o2) (k+1)/\(∀Y O,yU s b≠[]->FX p nb Y O s {s with M:=(zD s.M c).1} g {g with F:=b::g.F})):=by
 have hE:=vd hp;have hnb:=X.S.nbk;have hv:=X.v;rcases zyU hp hnb.2 (L:=X.L) kd hh hN hX ho hpc K hn (by omega) with ⟨a,l,d,e,f⟩ | ⟨a,l,d,e,f⟩
 .refine .inl ⟨a,X.chain hp S' (fun a ha=>f a (by omega)) l ?_,e,fun Y O hb=>FX.chain hp (d.grow (fun x hx=>by rw [zLn.1 hx];exact hb)) rfl (fun a ha=>f a (by omega)) (fun _ h=>.inl h)⟩;show xQ (ld (zD s.M c).1 (yu p))<=_/\xQ (ld (zD s.M c).1 (zU p))<=_;rw [f _ (by omega),f _ (by omega)];omega
 .refine .inr ⟨a,X.chain hp S' (fun a ha=>f a (by omega) (by omega)) l ?_,fun Y O hb=>FX.chain hp (d.weak Y) rfl (fun a ha=>f a (by omega) (by omega)) (fun y hy=>(zKS.1 hy).elim (fun e=>.inr (by rw [e];exact hb)) .inl)⟩;show xQ (ld (zD s.M c).1 (yu p))<=_/\xQ (ld (zD s.M c).1 (zU p))<=_;have f':=f (zU p) (by omega) (by omega);rw [f'];omega
theorem SX.pushE {p:zd}(hp:zJ p) {nb k:Nat}{s:za}{g:Gh}{o1 o2:List Int}{b:Int}(X:SX p nb s g (o1++b::o2) k) (hk:k<4294960000) {c:zV}(kd:c.Kind=1) (hh:c.Head=zU p) (hN:c.Next=zU p) (hX:c.X=b) (ho:c.Out=0) (hpc:0<=c.PC/\c.PC<=2) (K:CK p s.M c)
  (hn:1<=c.PC->yI c.H<nb) (S':SOk p nb {s with M:=(zD s.M c).1}) :
  ((zD s.M c).2.Out=0/\SX p nb {s with M:=(zD s.M c).1} g (o1++b::o2) (k+1)/\CK p (zD s.M c).1 (zD s.M c).2/\(∀Y O,b∈Y->FX p nb Y O s {s with M:=(zD s.M c).1} g g)) \/
  ((zD s.M c).2.Out=1/\SX p nb {s with M:=(zD s.M c).1} {g with E:=b::g.E} (o1++o2) (k+1)/\(∀Y O,FX p nb Y O s {s with M:=(zD s.M c).1} g {g with E:=b::g.E})):=by
 have hE:=vd hp;have hnb:=X.S.nbk;have hv:=X.v;rcases zyU hp hnb.2 (L:=X.L.swap) kd hh hN hX ho hpc K hn (by omega) with ⟨a,l,d,e,f⟩ | ⟨a,l,d,e,f⟩
 .refine .inl ⟨a,X.chain hp S' (fun a ha=>f a (by omega)) l.swap ?_,e,fun Y O hb=>FX.chain hp (d.grow (fun x hx=>by rw [zLn.1 hx];exact hb)) rfl (fun a ha=>f a (by omega)) (fun _ h=>.inl h)⟩;show xQ (ld (zD s.M c).1 (yu p))<=_/\xQ (ld (zD s.M c).1 (zU p))<=_;rw [f _ (by omega),f _ (by omega)];omega
 .refine .inr ⟨a,X.chain hp S' (fun a ha=>f a (by omega) (by omega)) l.swap ?_,fun Y O=>FX.chain hp (d.weak Y) rfl (fun a ha=>f a (by omega) (by omega)) (fun _ h=>.inl h)⟩;show xQ (ld (zD s.M c).1 (yu p))<=_/\xQ (ld (zD s.M c).1 (zU p))<=_;have f':=f (yu p) (by omega) (by omega);rw [f'];omega
theorem zJ7 {p:zd}{s:za}{g:Gh}{b:Int}:yL p s {g with F:=b::g.F}=yU s b++yL p s g:=by
 unfold yL;simp [zKI]
theorem zJ3 {p:zd}{s:za}{g:Gh}{l:List Int}:yL p s {g with E:=l}=yL p s g:=rfl
theorem zGI {l:List Int}{t:Nat}{x:Int}:Dv t l t (l++[x]):=⟨zKF _,fun _ h=>⟨by simp,by cases l with | nil=>exact zm rfl h | cons a l=>rfl⟩⟩
theorem zEg {p:zd}(hp:zJ p) {nb k:Nat}{R:List Int}{gh:Gh}{s:za}{g:zK}(hk:k<4294960000) (X:SX p nb s gh (wT g++R) k) (M:MOk p nb g) (h5o:g.PC=5->g.C.Out≠1) (G:GX p s gh g) :
  zs2 p nb k R gh s g (zH s g).1 (zH s g).2:=by
 have S':=(ztc hp X.S M h5o).1;have hP:=X.S.P;have hpc:=G.pc;have hmd:=G.md;have hob:=G.ob;revert S';unfold zH;by_cases h0:g.Out=0;rotate_left
 .rw [zb (.inl h0)];intro S';exact .quiet X S' rfl rfl rfl rfl rfl G.c0 G
 rw [zi];have hc0:g.Mode=1->gh.c g.Who=0:=fun h=>G.c0 h h0;by_cases p7:g.PC=7
 .rw [zb p7];obtain ⟨c1,c2,c3,c4,c5⟩:=G.c7 p7 h0;obtain ⟨m1,m2,m3,m4,m5⟩:=M.c7 p7;have eo:wT g=[g.Bin]:=zlz h0 (.inr p7);have eh:yG g=[g.Obj]:=uC h0 (by omega) (by omega);rw [eo] at X;intro S';have S':SOk p nb {s with M:=(zD s.M g.C).1}:=S';unfold zey;dsimp only;rcases SX.pushF hp (o1:=[]) (o2:=R) (b:=g.Bin) X hk m1 m2 m3 c3 c1 c2 c4 m5 S' with ⟨a,b,c,d⟩ | ⟨a,b,d⟩
  .rw [a];rw [zc (by decide)];have hout:=zcT s.M c1 c2 (.inl m1);have hsame:=zoM s.M g.C;have hpc':0<=(zD s.M g.C).2.PC/\(zD s.M g.C).2.PC<=2:=by omega
   refine ⟨gh,by rw [show wT {g with C:=(zD s.M g.C).2}=[g.Bin] from zlz h0 (.inr p7)];exact b,?_,by rw [eo];exact d _ _ (by simp),fun h _=>hc0 h,fun _ h=>.inl h,[],?_,.inl ⟨rfl,rfl⟩⟩
   .exact ⟨.inl h0,hpc,hmd,hob,fun h _=>hc0 h,fun e=>by have e:g.PC=5:=e;omega,fun _ _=>⟨a,hpc',(hsame.2.2.2 m1).trans c3,c,c5⟩,fun e=>by have e:g.PC=3:=e;omega⟩
   .rw [ZD rfl,show yG {g with C:=(zD s.M g.C).2}=[g.Obj] from uC h0 (by show (3:Int)<=g.PC;omega) (by show g.PC<=7;omega),eh];exact zK3 _
  .rw [a,zb rfl];have e1:wT {g with C:=(zD s.M g.C).2,Out:=1}=[]:=uf (.inl (by show (1:Int)≠0;decide));have e2:yG {g with C:=(zD s.M g.C).2,Out:=1}=[]:=Z3 (.inl (by show (1:Int)≠0;decide));refine ⟨{gh with F:=g.Bin::gh.F},by rw [e1];exact b,?_,by rw [eo];exact d _ _ (by unfold yU;rw [c5];exact List.cons_ne_nil _ _),fun h _=>hc0 h,fun y hy=>(zKS.1 hy).elim (fun e=>.inr (by rw [e];unfold yU;rw [show ({s with M:=(zD s.M g.C).1}:za).Bins=s.Bins from rfl,c5];exact List.cons_ne_nil _ _)) .inl,[],?_,.inl ⟨rfl,rfl⟩⟩
   .exact GX.plain (.inr rfl) hpc hmd hob (fun _ e=>by cases e) (.inl (by show (1:Int)≠0;decide))
   .rw [e2,eh,zJ7,ZD rfl,zKE];have:yU {s with M:=(zD s.M g.C).1} g.Bin=[g.Obj]:=by unfold yU;rw [show ({s with M:=(zD s.M g.C).1}:za).Bins=s.Bins from rfl,c5];rfl
    rw [this];exact zLo
 rw [zc p7];by_cases p6:g.PC=6
 .rw [zb p6];have eo:wT g=[g.Bin]:=zlz h0 (.inl p6);have eh:yG g=[g.Obj]:=uC h0 (by omega) (by omega);have hb:=M.b6 p6;have hbl:=X.S.bins;intro S';unfold zAg;unfold zAg at S';have e1:wT {g with PC:=7,C:=⟨1,0,yu s.P,zU s.P,0#64,g.Bin,0,0⟩}=[g.Bin]:=zlz h0 (.inr rfl);have hget:∀b,1<=b->b∉wT g->(s.Bins.set g.Bin.toNat [g.Obj])[b.toNat]? =s.Bins[b.toNat]? :=fun b b1 b2=>by
   rw [zLa];intro e;rw [eo] at b2;exact b2 (by rw [show b=g.Bin by omega];simp)
  refine ⟨gh,by rw [e1,<-eo];exact X.quiet S' rfl,?_,FX.quiet rfl hget,fun h _=>hc0 h,fun _ h=>.inl h,[],?_,.inl ⟨rfl,rfl⟩⟩
  .refine ⟨.inl h0,⟨by show (0:Int)<=7;decide,by show (7:Int)<=7;decide⟩,hmd,hob,fun h _=>hc0 h,fun e=>zm e (by show ¬(7:Int)=5;decide),fun _ _=>⟨rfl,⟨by show (0:Int)<=0;decide,by show (0:Int)<=2;decide⟩,rfl,⟨fun e=>zm e (by show ¬(1:Int)<=0;decide),fun e=>zm e (by show ¬(0:Int)=2;decide),fun e=>zm e (by show ¬(0:Int)=2;decide)⟩,?_⟩,fun e=>zm e (by show ¬(7:Int)=3;decide)⟩;show (s.Bins.set g.Bin.toNat [g.Obj])[g.Bin.toNat]? =_;rw [zLH (by omega)]
  .rw [show yG {g with PC:=7,C:=⟨1,0,yu s.P,zU s.P,0#64,g.Bin,0,0⟩}=[g.Obj] from uC h0 (by show (3:Int)<=7;decide) (by show (7:Int)<=7;decide),eh];have:yL p {s with Bins:=s.Bins.set g.Bin.toNat [g.Obj]} gh=yL p s gh:=by
    unfold yL;congr 1;refine wi (fun b hb=>?_);have hm:=X.L.cF.mem b hb;have hno:=(X.L.notF (x:=g.Bin) (by rw [eo];simp)).1;unfold yU;rw [show ({s with Bins:=s.Bins.set g.Bin.toNat [g.Obj]}:za).Bins=s.Bins.set g.Bin.toNat [g.Obj] from rfl,hget b hm.1 (by rw [eo];intro e;rw [zLn.1 e] at hb;exact hno hb)]
   rw [this];exact zK3 _
 rw [zc p6];have eo:wT g=[]:=uf (.inr ⟨p6,p7⟩);by_cases p5:g.PC=5
 .rw [zb p5];obtain ⟨c1,c2,c3⟩:=G.c5 p5 h0;obtain ⟨m1,m2,m3,m4,m5⟩:=M.c5 p5;have eh:yG g=[g.Obj]:=uC h0 (by omega) (by omega);intro S';have S':SOk p nb {s with M:=(zD s.M g.C).1}:=S';unfold znW;dsimp only;rcases SX.popE hp X hk m1 m2 m3 c1 c2 c3 m4 S' with ⟨a,b,c,d⟩ | ⟨x,l,a,b,c,d,e⟩
  .rw [zc b];have hout:=zcT s.M c1 c2 (.inr m1);by_cases o2:(zD s.M g.C).2.Out=2
   .rw [zb o2];refine .quiet X S' a rfl rfl ?_ ?_ G.c0 (GX.ask h0 hmd hob hc0 _)
    .rw [eo];exact uf (.inr ⟨by show (5:Int)≠6;decide,by show (5:Int)≠7;decide⟩)
    .rw [eh];exact uC h0 (by show (3:Int)<=5;decide) (by show (5:Int)<=7;decide)
   .rw [zc o2];have hpc':(zD s.M g.C).2.Out=0/\0<=(zD s.M g.C).2.PC/\(zD s.M g.C).2.PC<=2:=by omega
    refine .quiet X S' a rfl rfl ?_ ?_ G.c0 ⟨.inl h0,hpc,hmd,hob,G.c0,fun _ _=>⟨hpc'.1,hpc'.2,by rw [show ({s with M:=(zD s.M g.C).1}:za).M=s.M from a];exact c⟩,fun e=>by have e:g.PC=7:=e;omega,fun e=>by have e:g.PC=3:=e;omega⟩
    .rw [eo];exact uf (.inr ⟨p6,p7⟩)
    .rw [eh];exact uC h0 (by show (3:Int)<=g.PC;omega) (by show g.PC<=7;omega)
  .rw [zb b];have e1:wT {g with PC:=6,C:=(zD s.M g.C).2,Bin:=(zD s.M g.C).2.X}=[x]:=by rw [<-c];exact zlz (g:={g with PC:=6,C:=(zD s.M g.C).2,Bin:=(zD s.M g.C).2.X}) h0 (.inl rfl)
   refine ⟨{gh with E:=l},by rw [e1];rw [eo] at d;exact d,?_,e _ _,fun h _=>hc0 h,fun _ h=>.inl h,[],?_,.inl ⟨rfl,rfl⟩⟩
   .exact GX.plain (.inl h0) ⟨by show (0:Int)<=6;decide,by show (6:Int)<=7;decide⟩ hmd hob (fun h _=>hc0 h) (.inr ⟨by show (6:Int)≠3;decide,by show (6:Int)≠5;decide,by show (6:Int)≠7;decide⟩)
   .rw [zJ3,ZD rfl,eh,show yG {g with PC:=6,C:=(zD s.M g.C).2,Bin:=(zD s.M g.C).2.X}=[g.Obj] from uC h0 (by show (3:Int)<=6;decide) (by show (6:Int)<=7;decide)];exact zK3 _
 rw [zc p5];by_cases p4:g.PC=4
 .rw [zb p4];intro S';refine .quiet X S' rfl rfl rfl ?_ ?_ G.c0 (GX.ask h0 hmd hob hc0 _)
  .rw [eo];exact uf (.inr ⟨by show (5:Int)≠6;decide,by show (5:Int)≠7;decide⟩)
  .rw [uC h0 (by omega) (by omega)];exact uC h0 (by show (3:Int)<=5;decide) (by show (5:Int)<=7;decide)
 rw [zc p4];by_cases p3:g.PC=3
 .rw [zb p3];obtain ⟨c1,c2,c3⟩:=G.d3 p3 h0;have hw:=M.who c1;have eh:yG g=[g.Obj]:=uC h0 (by omega) (by omega);have hdk:=X.dk g.Who hw.1 hw.2;have hlen:=X.L.len;have hE:=vd hp;have hc00:=c3.c0;have c3':=c3;rw [hc00] at c3';have D0:=X.D g.Who hw.1 hw.2;rw [hc00] at D0;obtain ⟨a,b,r⟩:=zz4 hp hw (by omega) D0 c3' (by omega) (by rw [c2];omega);intro S';have S':SOk p nb {s with M:=(xk s.M g.D).1}:=S';unfold znn;dsimp only;rcases r with ⟨r1,r2,r3⟩ | ⟨r1,r2⟩ | ⟨r1,r2⟩
  .rw [r1,zc (by decide),zc (by decide)];have e1:wT {g with D:=(xk s.M g.D).2}=[]:=uf (.inr ⟨p6,p7⟩);refine ⟨VL gh g.Who (gh.t g.Who) (gh.D g.Who) 0,?_,?_,FX.own (O:=zAd g) (s:=s) (s':={s with M:=(xk s.M g.D).1}) (g:=gh) hp hw a rfl ⟨c1,rfl⟩ (Dv.refl _ _),fun _ _=>vf.2.2,fun _ h=>.inl h,[],?_,.inl ⟨rfl,rfl⟩⟩
   .rw [e1];rw [eo] at X;exact X.dq hp S' (zkw _ _) hw a r2 (by omega)
   .refine ⟨.inl h0,hpc,hmd,hob,fun _ _=>vf.2.2,fun e=>by have e:g.PC=5:=e;omega,fun e=>by have e:g.PC=7:=e;omega,fun _ _=>⟨c1,b.trans c2,?_⟩⟩;show DK p (xk s.M g.D).1 g.Who ((VL gh g.Who (gh.t g.Who) (gh.D g.Who) 0).t g.Who) _ _ _;rw [vf.1,vf.2.1,vf.2.2];exact r3
   .obtain ⟨u,v,f1,f2⟩:=zsm (p:=p) (s:=s) (s':={s with M:=(xk s.M g.D).1}) (g:=gh) rfl hw (t:=gh.t g.Who) (c:=0) (l:=gh.D g.Who);rw [f1,f2,eh,show yG {g with D:=(xk s.M g.D).2}=[g.Obj] from uC h0 (by show (3:Int)<=g.PC;omega) (by show g.PC<=7;omega)];exact zK3 _
  .rw [r1,zc (by decide),zb rfl];have e1:wT (zjT s.P {g with D:=(xk s.M g.D).2})=[]:=uf (.inr ⟨by show (5:Int)≠6;decide,by show (5:Int)≠7;decide⟩);refine ⟨VL gh g.Who (gh.t g.Who) (gh.D g.Who) 0,?_,?_,FX.own (O:=zAd g) (s:=s) (s':={s with M:=(xk s.M g.D).1}) (g:=gh) hp hw a rfl ⟨c1,rfl⟩ (Dv.refl _ _),fun _ _=>vf.2.2,fun _ h=>.inl h,[],?_,.inl ⟨rfl,rfl⟩⟩
   .rw [e1];rw [eo] at X;exact X.dq hp S' (zkw _ _) hw a r2 (by omega)
   .exact GX.ask (g:={g with D:=(xk s.M g.D).2}) h0 hmd hob (fun _=>vf.2.2) _
   .obtain ⟨u,v,f1,f2⟩:=zsm (p:=p) (s:=s) (s':={s with M:=(xk s.M g.D).1}) (g:=gh) rfl hw (t:=gh.t g.Who) (c:=0) (l:=gh.D g.Who);rw [f1,f2,eh,show yG (zjT s.P {g with D:=(xk s.M g.D).2})=[g.Obj] from uC h0 (by show (3:Int)<=5;decide) (by show (5:Int)<=7;decide)];exact zK3 _
  .rw [r1,zb rfl];have e1:wT {g with D:=(xk s.M g.D).2,Out:=1}=[]:=uf (.inl (by show (1:Int)≠0;decide));refine ⟨VL gh g.Who (gh.t g.Who) (gh.D g.Who++[g.D.X]) 0,?_,?_,FX.own (O:=zAd g) (s:=s) (s':={s with M:=(xk s.M g.D).1}) (g:=gh) hp hw a rfl ⟨c1,rfl⟩ zGI,fun _ _=>vf.2.2,fun _ h=>.inl h,[],?_,.inl ⟨rfl,rfl⟩⟩
   .rw [e1];rw [eo] at X;exact X.dq hp S' (zkw _ _) hw a r2 (by rw [zKO,zMs];omega)
   .exact GX.plain (.inr rfl) hpc hmd hob (fun _ e=>by cases e) (.inl (by show (1:Int)≠0;decide))
   .obtain ⟨u,v,f1,f2⟩:=zsm (p:=p) (s:=s) (s':={s with M:=(xk s.M g.D).1}) (g:=gh) rfl hw (t:=gh.t g.Who) (c:=0) (l:=gh.D g.Who++[g.D.X]);rw [f1,f2,eh,show yG {g with D:=(xk s.M g.D).2,Out:=1}=[] from Z3 (.inl (by show (1:Int)≠0;decide)),c2,zKE,zKL];simp only [zKI];refine zKN _ (zKN _ ?_);exact zLo
 rw [zc p3];by_cases p2:g.PC=2
 .rw [zb p2];intro S';refine .quiet X S' rfl rfl rfl ?_ ?_ G.c0 (GX.plain (.inr rfl) hpc hmd hob (fun _ e=>by cases e) (.inl (by show (1:Int)≠0;decide)))
  .rw [eo];exact uf (.inl (by show (1:Int)≠0;decide))
  .rw [Z3 (g:=g) (.inr (.inl (by omega)))];exact Z3 (.inl (by show (1:Int)≠0;decide))
 rw [zc p2];by_cases p1:g.PC=1
 .rw [zb p1];have eh:yG g=[]:=Z3 (.inr (.inl (by omega)));intro S';unfold znJ;unfold znJ at S';dsimp only at S' ⊢;by_cases hs:(shade s.T g.Obj).2=false
  .have eT:(shade s.T g.Obj).1=s.T:=by
    unfold shade at hs ⊢;split at hs
    .rename_i h1;rw [zb h1]
    .rename_i h1;split at hs
     .cases hs
     .rename_i h2;rw [zc h1,zc h2]
   rw [zb hs];refine .quiet X S' rfl rfl eT ?_ ?_ G.c0 (GX.plain (.inl h0) ⟨by show (0:Int)<=2;decide,by show (2:Int)<=7;decide⟩ hmd hob G.c0 (.inr ⟨by show (2:Int)≠3;decide,by show (2:Int)≠5;decide,by show (2:Int)≠7;decide⟩))
   .rw [eo];exact uf (.inr ⟨by show (2:Int)≠6;decide,by show (2:Int)≠7;decide⟩)
   .rw [eh];exact Z3 (.inr (.inl (by show (2:Int)<3;decide)))
  .have eT: ¬(s.T.Marks|||bit g.Obj=s.T.Marks)/\(shade s.T g.Obj).1={s.T with Marks:=s.T.Marks|||bit g.Obj}:=by
    unfold shade at hs ⊢;split at hs
    .exact zm rfl hs
    .rename_i h1;split at hs
     .rename_i h2;exact ⟨h1,by rw [zc h1,zb h2]⟩
     .exact zm rfl hs
   rw [zc hs];have fin:∀g':zK,wT g'=[]->yG g'=[g.Obj]->GX p {s with T:=(shade s.T g.Obj).1} gh g'->zs2 p nb k R gh s g {s with T:=(shade s.T g.Obj).1} g':=fun g' a b c =>
    ⟨gh,by rw [a,<-eo];exact X.quiet S' rfl,c,FX.quiet rfl (fun _ _ _=>rfl),fun h _=>hc0 h,fun _ h=>.inl h,[g.Obj],by rw [ZD rfl,b,eh,zKE];exact zLo,.inr ⟨rfl,eT.1,eT.2⟩⟩
   by_cases q1:g.Mode=1
   .rw [zb q1];have hw:=M.who q1;refine fin _ (uf (.inr ⟨by show (3:Int)≠6;decide,by show (3:Int)≠7;decide⟩)) (uC h0 (by show (3:Int)<=3;decide) (by show (3:Int)<=7;decide))
     ⟨.inl h0,⟨by show (0:Int)<=3;decide,by show (3:Int)<=7;decide⟩,hmd,hob,G.c0,fun e=>zm e (by show ¬(3:Int)=5;decide),fun e=>zm e (by show ¬(3:Int)=7;decide),fun _ _=>⟨q1,rfl,⟨rfl,by rw [hP],by rw [hP],rfl,hc0 q1,⟨by show (0:Int)<=0;decide,by show (0:Int)<=3;decide⟩,fun e=>zm e (by show ¬(1:Int)<=0;decide),fun e=>zm e (by show ¬(2:Int)<=0;decide),fun e=>zm e (by show ¬(3:Int)<=0;decide)⟩⟩⟩
   rw [zc q1];by_cases q2:g.Mode=2
   .rw [zb q2];exact fin _ (uf (.inr ⟨by show (4:Int)≠6;decide,by show (4:Int)≠7;decide⟩)) (uC h0 (by show (3:Int)<=4;decide) (by show (4:Int)<=7;decide))
     (GX.plain (.inl h0) ⟨by show (0:Int)<=4;decide,by show (4:Int)<=7;decide⟩ hmd hob G.c0 (.inr ⟨by show (4:Int)≠3;decide,by show (4:Int)≠5;decide,by show (4:Int)≠7;decide⟩))
   .rw [zc q2];exact fin _ (uf (.inr ⟨by show (5:Int)≠6;decide,by show (5:Int)≠7;decide⟩)) (uC h0 (by show (3:Int)<=5;decide) (by show (5:Int)<=7;decide)) (GX.ask h0 hmd hob hc0 _)
 .rw [zc p1];intro S';refine .quiet X S' rfl rfl rfl ?_ ?_ G.c0 (GX.plain (.inl h0) ⟨by show (0:Int)<=1;decide,by show (1:Int)<=7;decide⟩ hmd hob G.c0 (.inr ⟨by show (1:Int)≠3;decide,by show (1:Int)≠5;decide,by show (1:Int)≠7;decide⟩))
  .rw [eo];exact uf (.inr ⟨by show (1:Int)≠6;decide,by show (1:Int)≠7;decide⟩)
  .rw [Z3 (g:=g) (.inr (.inl (by omega)))];exact Z3 (.inr (.inl (by show (1:Int)<3;decide)))
def wY (x:zj):List Int:=if x.PC=3\/x.PC=4 then [x.Bin] else if x.PC=6 then wT x.G else []
def UD (s:za) (x:zj):List Int:=if x.PC=0 then Yz s.M x.D else if x.PC=3 then yU s x.Bin else if x.PC=5\/x.PC=8 then [x.Obj] else if x.PC=6 then x.Obj::yG x.G else []
def z5 (s:za) (x:zj):List Int:=x.Batch++UD s x
structure WX (p:zd) (s:za) (gh:Gh) (w:Int) (x:zj):Prop where
 c0:x.PC≠0->gh.c w=0
 bt:x.PC<=3->x.Batch=[]
 p0:x.PC=0->PK p s.M w (gh.t w) (gh.D w) (gh.c w) x.D
 p1:x.PC=1->TK p s.M x.Victim (gh.t x.Victim) (gh.D x.Victim) x.D
 p2:x.PC=2->x.C.Out=0/\(0<=x.C.PC/\x.C.PC<=2)/\CK p s.M x.C
 p4:x.PC=4->x.C.Out=0/\(0<=x.C.PC/\x.C.PC<=2)/\x.C.X=x.Bin/\CK p s.M x.C
 p6:x.PC=6->GX p s gh x.G/\x.G.Mode=1/\x.G.Who=w/\x.G.Out=0
theorem WX.plain {p:zd}{s:za}{gh:Gh}{w:Int}{x:zj}(h:x.PC=5\/x.PC=7\/x.PC=8\/x.PC=9) (c:gh.c w=0):WX p s gh w x :=
 ⟨fun _=>c,fun e=>by omega,fun e=>by omega,fun e=>by omega,fun e=>by omega,fun e=>by omega,fun e=>by omega⟩
theorem CK.start {p:zd}{m:List (BitVec 64)}{k h x:Int}:CK p m ⟨k,0,h,zU p,0#64,x,0,0⟩ :=
 ⟨fun e=>zm e (by show ¬(1:Int)<=0;decide),fun e=>zm e (by show ¬(0:Int)=2;decide),fun e=>zm e (by show ¬(0:Int)=2;decide)⟩
theorem WX.begin {p:zd}{s:za}{gh:Gh}{w:Int}{x:zj}(c:gh.c w=0) (hb:x.Batch=[]):WX p s gh w (zah p w x):=by
 refine ⟨fun e=>zm rfl e,fun _=>hb,fun _=>⟨rfl,rfl,rfl,rfl,⟨by show (0:Int)<=0;decide,by show (0:Int)<=6;decide⟩,fun _=>c,?_,?_,?_,?_,?_,?_,?_,?_⟩,fun e=>(by cases e),fun e=>(by cases e),fun e=>(by cases e),fun e=>(by cases e)⟩
 all_goals (intro e;first | (exact zm e (by show ¬((0:Int)=2\/(4:Int)<=0);decide)) | (exact zm e (by show ¬(0:Int)=3;decide)) | (exact zm e (by show ¬(0:Int)=4;decide)) | (exact zm e (by show ¬((0:Int)=3\/(0:Int)=4);decide)) | (exact zm e (by show ¬(5:Int)<=0;decide)) | skip)
 rcases e with e | e | e | e
 .exact zm e (by show ¬(0:Int)=1;decide)
 .exact zm e (by show ¬(0:Int)=2;decide)
 .exact zm e (by show ¬(4:Int)<=0;decide)
 .exact zm e.1 (by show ¬(0:Int)=3;decide)
theorem zkZ {p:zd}{s:za}{w:Int}{x:zj}:UD s (zah p w x)=[]:=by
 unfold UD;rw [zb (show (zah p w x).PC=0 from rfl)];exact uu (.inl (by show (0:Int)≠3;decide)) (by show (0:Int)≠6;decide)
theorem WX.look {p:zd}{s:za}{gh:Gh}{w:Int}{x:zj}(c:gh.c w=0) (hb:x.Batch=[]):WX p s gh w (Yi p w x)/\UD s (Yi p w x)=[]/\wY (Yi p w x)=[]:=by
 unfold Yi;split
 .refine ⟨⟨fun _=>c,fun _=>hb,fun e=>(by cases e),fun e=>(by cases e),fun _=>⟨rfl,⟨by show (0:Int)<=0;decide,by show (0:Int)<=2;decide⟩,CK.start⟩,fun e=>(by cases e),fun e=>(by cases e)⟩,?_,?_⟩
  .unfold UD;rw [zc (by show ¬(2:Int)=0;decide),zc (by show ¬(2:Int)=3;decide),zc (by show ¬((2:Int)=5\/(2:Int)=8);decide),zc (by show ¬(2:Int)=6;decide)]
  .unfold wY;rw [zc (by show ¬((2:Int)=3\/(2:Int)=4);decide),zc (by show ¬(2:Int)=6;decide)]
 .refine ⟨⟨fun _=>c,fun _=>hb,fun e=>(by cases e),fun _=>⟨rfl,rfl,rfl,rfl,⟨by show (0:Int)<=0;decide,by show (0:Int)<=3;decide⟩,fun e=>zm e (by show ¬(1:Int)<=0;decide),fun e=>zm e (by show ¬(2:Int)<=0;decide),fun e=>zm e (by show ¬(0:Int)=3;decide)⟩,fun e=>(by cases e),fun e=>(by cases e),fun e=>(by cases e)⟩,?_,?_⟩
  .unfold UD;rw [zc (by show ¬(1:Int)=0;decide),zc (by show ¬(1:Int)=3;decide),zc (by show ¬((1:Int)=5\/(1:Int)=8);decide),zc (by show ¬(1:Int)=6;decide)]
  .unfold wY;rw [zc (by show ¬((1:Int)=3\/(1:Int)=4);decide),zc (by show ¬(1:Int)=6;decide)]
theorem WX.other {p:zd}(hp:zJ p) {nb k:Nat}{s s':za}{gh gh':Gh}{X R:List Int}{O:Int->Prop}{w:Int}{x:zj}(hw:1<=w/\w<=p.Workers) (Y:SX p nb s gh (X++R) k) (Fx:FX p nb X O s s' gh gh') (K:WX p s gh w x) (W:WOk p nb w x)
  (hR:∀b∈wY x,b∈R) (apart: ¬O w):WX p s' gh' w x/\z5 s' x=z5 s x:=by
 have hsub:∀b∈X,b∈X++R:=fun b hb=>zKV _ hb;have hnd:=(zLQ.1 Y.L.nodup).2.1;have hnot:∀b,b∈wY x->b∉X:=fun b hb hg=>(zLQ.1 hnd).2.2 b hg b (hR b hb) rfl;have hc:gh'.c w=gh.c w:=by
  rcases Fx.dq w hw.1 hw.2 with h | h
  .cases h with
   | same e1 e2 e3 e4=>exact e3
   | stolen y e1 e2 e3 e4=>exact e3
  .exact zm h.1 apart
 have hcell:∀a,z6 p w<a->a<z6 p w+p.Cap+2->ld s'.M a=ld s.M a:=by
  rcases Fx.dq w hw.1 hw.2 with h | h
  .cases h with
   | same e1 e2 e3 e4=>exact fun a h1 h2=>e4 a (by omega) h2
   | stolen y e1 e2 e3 e4=>exact e4
  .exact zm h.1 apart
 refine ⟨⟨fun e=>hc.trans (K.c0 e),K.bt,fun e=>Fx.pk hp hw.1 hw.2 apart (K.p0 e),fun e=>Fx.tk W.vic.1 W.vic.2 (K.p1 e),fun e=>?_,fun e=>?_,fun e=>?_⟩,?_⟩
 .obtain ⟨a,b,c⟩:=K.p2 e;have C:=W.c2 e;exact ⟨a,b,c.mv Y.L Fx.mv hsub (.inl C.h) (fun h _=>C.v h) (fun e2=>by have:=C.k;omega)⟩
 .obtain ⟨a,b,c,d⟩:=K.p4 e;have C:=W.c4 e;have hno:=hnot x.Bin (by unfold wY;rw [zb (.inr e)];simp);exact ⟨a,b,c,d.mv Y.L Fx.mv hsub (.inr C.h) (fun _ e2=>by have:=C.k;omega) (fun _=>⟨C.x.1,C.x.2,by rw [c];exact hno⟩)⟩
 .obtain ⟨a,b,c,d⟩:=K.p6 e;have M:=(W.g6 e).1;refine ⟨a.other hp Y Fx M (fun y hy=>hR y ?_) (fun _=>by rw [c];exact apart),b,c,d⟩;unfold wY;rw [zi,zb e];exact hy
 .unfold z5 UD;congr 1;by_cases e0:x.PC=0
  .rw [zb e0,zb e0];have P:=K.p0 e0;unfold Yz;have hpl:=(zuZ hp hw.1 hw.2 P.base P.size (x.D.B-1#64)).2;rw [hcell _ (by rw [P.base] at hpl;omega) (by rw [P.base] at hpl;omega)]
  .rw [zc e0,zc e0];by_cases e3:x.PC=3
   .rw [zb e3,zb e3];have hb:=W.b3 e3;have hno:=hnot x.Bin (by unfold wY;rw [zb (.inl e3)];simp);unfold yU;rw [Fx.bn x.Bin hb.1 hno]
   .rw [zc e3,zc e3]
theorem zAX (s:za) (b:Int):VY s b=yU s b:=by unfold VY yU;rw [zKD]
theorem FX.mono {p:zd}{nb:Nat}{X:List Int}{O O':Int->Prop}{s s':za}{g g':Gh}(h:FX p nb X O s s' g g') (i:∀v,O v->O' v):FX p nb X O' s s' g g' :=
 ⟨h.mv,h.bn,fun v a b=>(h.dq v a b).imp id (fun e=>⟨i v e.1,e.2⟩),h.fb⟩
theorem uS {x:zj}(h3:x.PC≠3) (h4:x.PC≠4) (h6:x.PC≠6):wY x=[]:=by unfold wY;rw [zi,zc h6]
theorem zmx {x:zj}(h:x.PC=3\/x.PC=4):wY x=[x.Bin]:=by unfold wY;rw [zb h]
theorem zAH {x:zj}(h:x.PC=6):wY x=wT x.G:=by unfold wY;rw [zi,zb h]
theorem zFl {s:za}{x:zj}(h:x.PC=0):UD s x=Yz s.M x.D:=by unfold UD;rw [zb h]
theorem zGg {s:za}{x:zj}(h:x.PC=3):UD s x=yU s x.Bin:=by unfold UD;rw [zi,zb h]
theorem W8 {s:za}{x:zj}(h:x.PC=5\/x.PC=8):UD s x=[x.Obj]:=by unfold UD;rw [zi,zi,zb h]
theorem zwp {s:za}{x:zj}(h:x.PC=6):UD s x=x.Obj::yG x.G:=by unfold UD;rw [zi,zi,zi,zb h]
theorem Xa {s:za}{x:zj}(h:x.PC=1\/x.PC=2\/x.PC=4\/x.PC=7\/x.PC=9):UD s x=[]:=by unfold UD;rw [zi,zi,zi,zi]
def zl8 (p:zd) (nb k:Nat) (R:List Int) (gh:Gh) (s:za) (w:Int) (x:zj) (s':za) (x':zj):Prop :=
 ∃gh',SX p nb s' gh' (wY x'++R) (k+1)/\WX p s' gh' w x'/\FX p nb (wY x) (fun v=>v=w) s s' gh gh' /\
  ∃N B,List.Perm (yL p s' gh'++z5 s' x'++B) (N++(yL p s gh++z5 s x)) /\
   ((N=[]/\B=[]/\s'.T=s.T)\/(N=[x.G.Obj]/\B=[]/\x.PC=6/\¬(s.T.Marks|||bit x.G.Obj=s.T.Marks)/\s'.T={s.T with Marks:=s.T.Marks|||bit x.G.Obj})\/(N=[]/\B=[x.Obj]/\x.PC=8/\s'.T=xm s.T x.Obj))
theorem zl8.quiet {p:zd}{nb k:Nat}{R:List Int}{gh:Gh}{s s':za}{w:Int}{x x':zj}(X:SX p nb s gh (wY x++R) k) (S':SOk p nb s') (hm:s'.M=s.M) (hb:s'.Bins=s.Bins) (hT:s'.T=s.T)
  (ho:wY x'=wY x) (hh:List.Perm (z5 s' x') (z5 s x)) (W':WX p s' gh w x'):zl8 p nb k R gh s w x s' x' :=
 ⟨gh,by rw [ho];exact X.quiet S' hm,W',FX.quiet hm (fun _ _ _=>by rw [hb]),[],[],by rw [ZD hb,zKE];exact zKN _ hh,.inl ⟨rfl,rfl,hT⟩⟩
theorem zH5 {p:zd}(hp:zJ p) {nb k:Nat}{R:List Int}{gh:Gh}{s:za}{w:Int}{x:zj}(hk:k<4294960000) (hw:1<=w/\w<=p.Workers) (X:SX p nb s gh (wY x++R) k) (W:WOk p nb w x) (K:WX p s gh w x)
  (hH:∀o i,0<=zW s.H o i/\zW s.H o i<=64):zl8 p nb k R gh s w x (zx s w x).1 (zx s w x).2:=by
 have S':=(zDH hp hw X.S W).1;have hP:=X.S.P;have eL:∀y,Yi s.P w y=Yi p w y:=fun y=>by rw [hP]
 have eB:∀y,zah s.P w y=zah p w y:=fun y=>by rw [hP]
 have eC:zcS s.P (zU s.P) x.Bin=zcS p (zU p) x.Bin:=by rw [hP]
 have hpc:=W.pc;have hlen:=X.L.len;have hE:=vd hp;revert S';unfold zx;by_cases p01:x.PC=0\/x.PC=1
 .rw [zb p01];intro S';have S':SOk p nb {s with M:=(yj s.M x.D).1}:=S';have hl:=(zoI s.M x.D).1;have eo:wY x=[]:=uS (by omega) (by omega) (by omega);have hbt:=K.bt (by omega);rw [eo] at X;dsimp only;by_cases p0:x.PC=0
  .have K0:=K.p0 p0;have D0:=X.D w hw.1 hw.2;have hdk:=X.dk w hw.1 hw.2;obtain ⟨t',l',c',D',hm,V,hle,r⟩:=zCl hp hw (by omega) D0 K0;have hc:=hp.cap;have hm':∀a,(a<z6 p w\/z6 p w+p.Cap+2<=a)->ld (yj s.M x.D).1 a=ld s.M a:=fun a ha=>hm a (by omega) (by omega);have X':=X.dq hp S' hl hw hm' D' (by omega);have Fx:FX p nb (wY x) (fun v=>v=w) s {s with M:=(yj s.M x.D).1} gh (VL gh w t' l' c'):=FX.own (O:=fun v=>v=w) (s:=s) (s':={s with M:=(yj s.M x.D).1}) (g:=gh) hp hw hm' rfl rfl V;obtain ⟨u,v,f1,f2⟩:=zsm (p:=p) (s:=s) (s':={s with M:=(yj s.M x.D).1}) (g:=gh) rfl hw (t:=t') (c:=c') (l:=l');have fin:∀x':zj,wY x'=[]->WX p {s with M:=(yj s.M x.D).1} (VL gh w t' l' c') w x'->List.Perm (l'++z5 {s with M:=(yj s.M x.D).1} x') (gh.D w++z5 s x)->zl8 p nb k R gh s w x {s with M:=(yj s.M x.D).1} x':=by
    intro x' a b c;refine ⟨_,by rw [a];exact X',b,Fx,[],[],?_,.inl ⟨rfl,rfl,rfl⟩⟩;rw [f1,f2,zKE,zKL];simp only [zKI];refine zKN _ ?_;refine (zK4 l' v _).trans (List.Perm.trans ?_ (zK4 v (gh.D w) _));exact zKN _ c
   have hh:z5 s x=Yz s.M x.D:=by unfold z5;rw [hbt,zFl p0,zKL]
   rw [hh] at fin;rcases r with ⟨r1,r2,r3⟩ | ⟨r1,r2,r3⟩ | ⟨r1,r2,r3,r4,r5⟩
   .rw [r1,zc (by decide),zc (by decide)];refine fin _ (uS (by show x.PC≠3;omega) (by show x.PC≠4;omega) (by show x.PC≠6;omega)) ⟨fun e=>zm p0 e,fun _=>hbt,fun _=>?_,fun e=>by have e:x.PC=1:=e;omega,fun e=>by have e:x.PC=2:=e;omega,fun e=>by have e:x.PC=4:=e;omega,fun e=>by have e:x.PC=6:=e;omega⟩ ?_
    .rw [vf.1,vf.2.1,vf.2.2];exact r2
    .unfold z5;rw [zFl (x:={x with D:=(yj s.M x.D).2}) p0];show List.Perm (l'++(x.Batch++Yz (yj s.M x.D).1 (yj s.M x.D).2)) _;rw [hbt,zKL];exact r3
   .rw [r1,zb rfl];refine fin _ (uS (by show (5:Int)≠3;decide) (by show (5:Int)≠4;decide) (by show (5:Int)≠6;decide)) (WX.plain (.inl rfl) (by rw [vf.2.2];exact r2)) ?_;unfold z5;rw [W8 (.inl rfl)];show List.Perm (l'++(x.Batch++[(yj s.M x.D).2.X])) _;rw [hbt,zKL];exact r3
   .rw [r1,zc (by decide),zb (.inl rfl),eL];obtain ⟨a,b,c⟩:=WX.look (p:=p) (s:={s with M:=(yj s.M x.D).1}) (gh:=VL gh w t' l' c') (w:=w) (x:={x with D:=(yj s.M x.D).2}) (by rw [vf.2.2];exact r2) hbt;refine fin _ c a ?_;unfold z5;rw [b,r3,r4,r5,show (Yi p w {x with D:=(yj s.M x.D).2}).Batch=x.Batch by unfold Yi;split<;>rfl,hbt];exact zK3 _
  .have p1:x.PC=1:=by omega
   have K1:=K.p1 p1;have hv:=W.vic;have hc0:=K.c0 p0;have D0:=X.D x.Victim hv.1 hv.2;have hdk:=X.dk x.Victim hv.1 hv.2;have hh:z5 s x=[]:=by unfold z5;rw [hbt,Xa (.inl p1)];rfl
   rcases zD0 hp hv (by omega) D0 K1 with ⟨hm,r⟩ | ⟨y,l',e1,e2,e3,e4,e5⟩
   .have S2:=S';have q:∀x':zj,wY x'=[]->z5 {s with M:=(yj s.M x.D).1} x'=[]->WX p {s with M:=(yj s.M x.D).1} gh w x'->zl8 p nb k R gh s w x {s with M:=(yj s.M x.D).1} x' :=
     fun x' a b c=>.quiet (by rw [eo];exact X) S' hm rfl rfl (by rw [a,eo]) (by rw [b,hh]) c
    rcases r with ⟨r1,r2⟩ | r
    .rw [r1,zc (by decide),zc (by decide)];refine q _ (uS (by show x.PC≠3;omega) (by show x.PC≠4;omega) (by show x.PC≠6;omega)) ?_ ⟨fun _=>hc0,fun _=>hbt,fun e=>zm e p0,fun _=>?_,fun e=>by have e:x.PC=2:=e;omega,fun e=>by have e:x.PC=4:=e;omega,fun e=>by have e:x.PC=6:=e;omega⟩
     .unfold z5;rw [Xa (x:={x with D:=(yj s.M x.D).2}) (.inl p1)];show x.Batch++[]=[]
      rw [hbt];rfl
     .show TK p (yj s.M x.D).1 _ _ _ _;rw [hm];exact r2
    .rw [zi,zb r,eL];obtain ⟨a,b,c⟩:=WX.look (p:=p) (s:={s with M:=(yj s.M x.D).1}) (gh:=gh) (w:=w) (x:={x with D:=(yj s.M x.D).2}) hc0 hbt;refine q _ c ?_ a;unfold z5;rw [b,show (Yi p w {x with D:=(yj s.M x.D).2}).Batch=x.Batch by unfold Yi;split<;>rfl,hbt];rfl
   .have hc:=hp.cap;have hm':∀a,(a<z6 p x.Victim\/z6 p x.Victim+p.Cap+2<=a)->ld (yj s.M x.D).1 a=ld s.M a:=fun a ha=>e5 a (by omega);have X':=X.dq hp S' hl hv hm' e4 (by rw [e1] at hdk;simp at hdk;omega);obtain ⟨h1,h2⟩:=zx4 hp hv hm';obtain ⟨u,v,f1,f2⟩:=zsm (p:=p) (s:=s) (s':={s with M:=(yj s.M x.D).1}) (g:=gh) rfl hv (t:=gh.t x.Victim+1) (c:=gh.c x.Victim) (l:=l');rw [e2,zb rfl];refine ⟨VL gh x.Victim (gh.t x.Victim+1) l' (gh.c x.Victim),by rw [uS (by show (5:Int)≠3;decide) (by show (5:Int)≠4;decide) (by show (5:Int)≠6;decide)];exact X',WX.plain (.inl rfl) ?_,⟨Mv.low hp h1,fun _ _ _=>rfl,fun v' a b=>.inl ?_,fun _ h=>.inl h⟩,[],[],?_,.inl ⟨rfl,rfl,rfl⟩⟩
    .by_cases e:w=x.Victim
     .rw [e,vf.2.2,<-e];exact hc0
     .rw [(XM e).2.2];exact hc0
    .by_cases e:v'=x.Victim
     .subst e;exact .stolen y vf.2.1 (by rw [vf.1];exact e1) vf.2.2 (fun a h1 _=>e5 a (by omega))
     .exact .same (XM e).2.1 (XM e).1 (XM e).2.2 (h2 v' a b e)
    .rw [f1,f2,hh,zKE,zKE,zKL,e1];unfold z5;rw [W8 (.inl rfl)];show List.Perm (u++l'++v++(x.Batch++[(yj s.M x.D).2.X])) _;rw [hbt,zKL,e3];simp only [zKI];refine zKN _ ?_;show List.Perm (l'++(v++[y])) (y::(l'++v));rw [<-zKI];exact zLo
 rw [zc p01];have hc0:=K.c0 (by omega);by_cases p2:x.PC=2
 .rw [zb p2];intro S';have S':SOk p nb {s with M:=(zD s.M x.C).1}:=S';have C:=W.c2 p2;obtain ⟨c1,c2,c3⟩:=K.p2 p2;have hbt:=K.bt (by omega);have eo:wY x=[]:=uS (by omega) (by omega) (by omega);have hh:z5 s x=[]:=by unfold z5;rw [hbt,Xa (.inr (.inl p2))];rfl
  dsimp only;rcases SX.popF hp X hk C.k C.h C.n c1 c2 c3 C.v S' with ⟨a,b,c,d⟩ | ⟨y,l,a,b,c,d,e⟩
  .rw [zc b];have hout:=zcT s.M c1 c2 (.inr C.k);by_cases o2:(zD s.M x.C).2.Out=2
   .rw [zb o2,eB];refine .quiet X S' a rfl rfl ?_ ?_ (WX.begin hc0 hbt)
    .rw [eo];exact uS (by show (0:Int)≠3;decide) (by show (0:Int)≠4;decide) (by show (0:Int)≠6;decide)
    .unfold z5;rw [zkZ,show (zah p w {x with C:=(zD s.M x.C).2}).Batch=x.Batch from rfl];rw [hbt,Xa (.inr (.inl p2))]
   .rw [zc o2];have hpc':(zD s.M x.C).2.Out=0/\0<=(zD s.M x.C).2.PC/\(zD s.M x.C).2.PC<=2:=by omega
    refine .quiet X S' a rfl rfl ?_ ?_ ⟨fun _=>hc0,fun _=>hbt,fun e=>by have e:x.PC=0:=e;omega,fun e=>by have e:x.PC=1:=e;omega,fun _=>⟨hpc'.1,hpc'.2,?_⟩,fun e=>by have e:x.PC=4:=e;omega,fun e=>by have e:x.PC=6:=e;omega⟩
    .rw [eo];exact uS (by show x.PC≠3;omega) (by show x.PC≠4;omega) (by show x.PC≠6;omega)
    .unfold z5;rw [Xa (x:={x with C:=(zD s.M x.C).2}) (.inr (.inl p2)),Xa (.inr (.inl p2))]
    .rw [show ({s with M:=(zD s.M x.C).1}:za).M=s.M from a];exact c
  .rw [zb b];have e1:wY {x with C:=(zD s.M x.C).2,Bin:=(zD s.M x.C).2.X,PC:=3}=[y]:=by rw [<-c];exact zmx (x:={x with C:=(zD s.M x.C).2,Bin:=(zD s.M x.C).2.X,PC:=3}) (.inl rfl)
   refine ⟨{gh with F:=l},by rw [e1];rw [eo] at d;exact d,⟨fun _=>hc0,fun _=>hbt,fun e=>(by cases e),fun e=>(by cases e),fun e=>(by cases e),fun e=>(by cases e),fun e=>(by cases e)⟩,e _ _,[],[],?_,.inl ⟨rfl,rfl,rfl⟩⟩;rw [hh,zKE,zKE,zKL];unfold z5;rw [zGg (x:={x with C:=(zD s.M x.C).2,Bin:=(zD s.M x.C).2.X,PC:=3}) rfl];show List.Perm (yL p s {gh with F:=l}++(x.Batch++yU s (zD s.M x.C).2.X)) _;rw [hbt,zKL,c];have:yL p s gh=yU s y++yL p s {gh with F:=l}:=by unfold yL;rw [a];simp [zKI]
   rw [this];exact zLo
 rw [zc p2];by_cases p3:x.PC=3
 .rw [zb p3];intro S';have hb:=W.b3 p3;have hbt:=K.bt (by omega);have eo:wY x=[x.Bin]:=zmx (.inl p3);rw [eC];have e1:wY {x with Batch:=VY s x.Bin,PC:=4,C:=zcS p (zU p) x.Bin}=[x.Bin]:=zmx (x:={x with Batch:=VY s x.Bin,PC:=4,C:=zcS p (zU p) x.Bin}) (.inr rfl);have hget:∀b,1<=b->b∉wY x->(s.Bins.set x.Bin.toNat [])[b.toNat]? =s.Bins[b.toNat]? :=fun b b1 b2=>by
   rw [zLa];intro e;rw [eo] at b2;exact b2 (by rw [show b=x.Bin by omega];simp)
  refine ⟨gh,by rw [e1,<-eo];exact X.quiet S' rfl,⟨fun _=>hc0,fun e=>zm e (by show ¬(4:Int)<=3;decide),fun e=>(by cases e),fun e=>(by cases e),fun e=>(by cases e),fun _=>⟨rfl,⟨by show (0:Int)<=0;decide,by show (0:Int)<=2;decide⟩,rfl,CK.start⟩,fun e=>(by cases e)⟩,FX.quiet rfl hget,[],[],?_,.inl ⟨rfl,rfl,rfl⟩⟩;have hbag:yL p {s with Bins:=s.Bins.set x.Bin.toNat []} gh=yL p s gh:=by
   unfold yL;congr 1;refine wi (fun b hb=>?_);have hm:=X.L.cF.mem b hb;have hno:=(X.L.notF (x:=x.Bin) (by rw [eo];simp)).1;unfold yU;rw [show ({s with Bins:=s.Bins.set x.Bin.toNat []}:za).Bins=s.Bins.set x.Bin.toNat [] from rfl,hget b hm.1 (by rw [eo];intro e;rw [zLn.1 e] at hb;exact hno hb)]
  rw [hbag,zKE,zKL];unfold z5;rw [zGg p3,Xa (x:={x with Batch:=VY s x.Bin,PC:=4,C:=zcS p (zU p) x.Bin}) (.inr (.inr (.inl rfl)))];show List.Perm (yL p s gh++(VY s x.Bin++[])) _;rw [hbt,zKE,zKL,zAX]
 rw [zc p3];by_cases p4:x.PC=4
 .rw [zb p4];intro S';have S':SOk p nb {s with M:=(zD s.M x.C).1}:=S';have C:=W.c4 p4;obtain ⟨c1,c2,c3,c4⟩:=K.p4 p4;have eo:wY x=[x.Bin]:=zmx (.inr p4);have hh:z5 s x=x.Batch:=by unfold z5;rw [Xa (.inr (.inr (.inl p4))),zKE]
  rw [eo] at X;dsimp only;rcases SX.pushE hp (o1:=[]) (o2:=R) (b:=x.Bin) X hk C.k C.h C.n c3 c1 c2 c4 C.v S' with ⟨a,b,c,d⟩ | ⟨a,b,d⟩
  .rw [a,zc (by decide)];have hout:=zcT s.M c1 c2 (.inl C.k);have hsame:=zoM s.M x.C;have hpc':0<=(zD s.M x.C).2.PC/\(zD s.M x.C).2.PC<=2:=by omega
   have e1:wY {x with C:=(zD s.M x.C).2}=[x.Bin]:=zmx (x:={x with C:=(zD s.M x.C).2}) (.inr p4);refine ⟨gh,by rw [e1];exact b,⟨fun _=>hc0,fun e=>by have e:x.PC<=3:=e;omega,fun e=>by have e:x.PC=0:=e;omega,fun e=>by have e:x.PC=1:=e;omega,fun e=>by have e:x.PC=2:=e;omega,fun _=>⟨a,hpc',(hsame.2.2.2 C.k).trans c3,c⟩,fun e=>by have e:x.PC=6:=e;omega⟩,by rw [eo];exact d _ _ (by simp),[],[],?_,.inl ⟨rfl,rfl,rfl⟩⟩;rw [ZD rfl,hh,zKE];unfold z5;rw [Xa (x:={x with C:=(zD s.M x.C).2}) (.inr (.inr (.inl p4))),zKE];exact zK3 _
  .rw [a,zb rfl];refine ⟨{gh with E:=x.Bin::gh.E},by rw [uS (by show (7:Int)≠3;decide) (by show (7:Int)≠4;decide) (by show (7:Int)≠6;decide)];exact b,WX.plain (.inr (.inl rfl)) hc0,by rw [eo];exact d _ _,[],[],?_,.inl ⟨rfl,rfl,rfl⟩⟩;rw [hh,zKE];unfold z5;rw [Xa (.inr (.inr (.inr (.inl rfl)))),zKE];exact zK3 _
 rw [zc p4];by_cases p5:x.PC=5
 .rw [zb p5];intro S';have eo:wY x=[]:=uS (by omega) (by omega) (by omega);have hv:=hH x.Obj x.Slot;dsimp only;split
  .rcases zlt s (wc (x.Slot+1)) with e | e<;>rw [e]
   .refine .quiet X S' rfl rfl rfl (by rw [eo];exact uS (by show (5:Int)≠3;decide) (by show (5:Int)≠4;decide) (by show (5:Int)≠6;decide)) ?_ (WX.plain (.inl rfl) hc0);unfold z5;rw [W8 (.inl p5),W8 (.inl rfl)]
   .refine .quiet X S' rfl rfl rfl (by rw [eo];exact uS (by show (8:Int)≠3;decide) (by show (8:Int)≠4;decide) (by show (8:Int)≠6;decide)) ?_ (WX.plain (.inr (.inr (.inl rfl))) hc0);unfold z5;rw [W8 (.inl p5),W8 (.inr rfl)]
  .rename_i hne;have e0:(YE 1 (zW s.H x.Obj x.Slot) w).PC=0:=rfl;refine .quiet X S' rfl rfl rfl ?_ ?_ ⟨fun _=>hc0,fun e=>zm e (by show ¬(6:Int)<=3;decide),fun e=>(by cases e),fun e=>(by cases e),fun e=>(by cases e),fun e=>(by cases e),fun _=>⟨GX.plain (.inl rfl) ⟨by show (0:Int)<=0;decide,by show (0:Int)<=7;decide⟩ ⟨by show (1:Int)<=1;decide,by show (1:Int)<=3;decide⟩ ⟨by show 1<=zW s.H x.Obj x.Slot;omega,hv.2⟩ (fun _ _=>hc0) (.inr ⟨by show (0:Int)≠3;decide,by show (0:Int)≠5;decide,by show (0:Int)≠7;decide⟩),rfl,rfl,rfl⟩⟩
   .rw [eo,zAH (x:={x with Slot:=wc (x.Slot+1),PC:=6,G:=YE 1 (zW s.H x.Obj x.Slot) w}) rfl];exact uf (.inr ⟨by show (0:Int)≠6;decide,by show (0:Int)≠7;decide⟩)
   .unfold z5;rw [W8 (.inl p5),zwp (x:={x with Slot:=wc (x.Slot+1),PC:=6,G:=YE 1 (zW s.H x.Obj x.Slot) w}) rfl];rw [Z3 (g:=YE 1 (zW s.H x.Obj x.Slot) w) (.inr (.inl (by show (0:Int)<3;decide)))]
 rw [zc p5];by_cases p6:x.PC=6
 .rw [zb p6];intro S';obtain ⟨G,gm,gw,g0⟩:=K.p6 p6;obtain ⟨M,h5o,_,hn4⟩:=W.g6 p6;have eo:wY x=wT x.G:=zAH p6;have hh:z5 s x=x.Batch++x.Obj::yG x.G:=by unfold z5;rw [zwp p6]
  rw [eo] at X;obtain ⟨gh',X',G',Fx,hc',hFb,N,hN,hT⟩:=zEg hp hk X M h5o G;have so:=zaP s x.G;have Fx':FX p nb (wY x) (fun v=>v=w) s (zH s x.G).1 gh gh':=by
   rw [eo];exact Fx.mono (fun v e=>e.2.trans gw)
  have hcw:gh'.c w=0:=by have:=hc' gm g0;rwa [gw] at this
  dsimp only;have hT':(N=[]/\([]:List Int)=[]/\(zH s x.G).1.T=s.T)\/(N=[x.G.Obj]/\([]:List Int)=[]/\x.PC=6/\¬(s.T.Marks|||bit x.G.Obj=s.T.Marks)/\(zH s x.G).1.T={s.T with Marks:=s.T.Marks|||bit x.G.Obj})\/(N=[]/\([]:List Int)=[x.Obj]/\x.PC=8/\(zH s x.G).1.T=xm s.T x.Obj):=by
   rcases hT with ⟨a,b⟩ | ⟨a,b,c⟩
   .exact .inl ⟨a,rfl,b⟩
   .exact .inr (.inl ⟨a,rfl,p6,b,c⟩)
  have perm:∀H':List Int,H'=x.Batch++x.Obj::yG (zH s x.G).2->List.Perm (yL p (zH s x.G).1 gh'++H'++[]) (N++(yL p s gh++z5 s x)):=by
   intro H' e;rw [e,hh,zKE];have a1:List.Perm (yL p (zH s x.G).1 gh'++(x.Batch++x.Obj::yG (zH s x.G).2)) ((x.Batch++[x.Obj])++(yL p (zH s x.G).1 gh'++yG (zH s x.G).2)):=by
    rw [show x.Batch++x.Obj::yG (zH s x.G).2=(x.Batch++[x.Obj])++yG (zH s x.G).2 by simp];exact zK4 _ _ _
   have a2:List.Perm (N++(yL p s gh++(x.Batch++x.Obj::yG x.G))) ((x.Batch++[x.Obj])++(N++(yL p s gh++yG x.G))):=by
    rw [show x.Batch++x.Obj::yG x.G=(x.Batch++[x.Obj])++yG x.G by simp];exact (zKN N (zK4 _ _ _)).trans (zK4 _ _ _)
   exact a1.trans ((zKN _ hN).trans a2.symm)
  split
  .rename_i o1;have n1:wT (zH s x.G).2=[]:=uf (.inl (by omega));have n2:yG (zH s x.G).2=[]:=Z3 (.inl (by omega));rw [n1] at X';rcases zlt s x.Slot with e | e<;>rw [e]
   .refine ⟨gh',by rw [uS (by show (5:Int)≠3;decide) (by show (5:Int)≠4;decide) (by show (5:Int)≠6;decide)];exact X',WX.plain (.inl rfl) hcw,Fx',N,[],perm _ ?_,hT'⟩;unfold z5;rw [W8 (.inl rfl),n2]
   .refine ⟨gh',by rw [uS (by show (8:Int)≠3;decide) (by show (8:Int)≠4;decide) (by show (8:Int)≠6;decide)];exact X',WX.plain (.inr (.inr (.inl rfl))) hcw,Fx',N,[],perm _ ?_,hT'⟩;unfold z5;rw [W8 (.inr rfl),n2]
  .rename_i o1;have o0:(zH s x.G).2.Out=0:=by have:=G'.o;omega
   refine ⟨gh',by rw [zAH (x:={x with G:=(zH s x.G).2}) p6];exact X',⟨fun _=>hcw,fun e=>by have e:x.PC<=3:=e;omega,fun e=>by have e:x.PC=0:=e;omega,fun e=>by have e:x.PC=1:=e;omega,fun e=>by have e:x.PC=2:=e;omega,fun e=>by have e:x.PC=4:=e;omega,fun _=>⟨G',so.2.2.trans gm,so.2.1.trans gw,o0⟩⟩,Fx',N,[],perm _ ?_,hT'⟩;unfold z5;rw [zwp (x:={x with G:=(zH s x.G).2}) p6]
 rw [zc p6];have eo:wY x=[]:=uS (by omega) (by omega) (by omega);by_cases p7:x.PC=7
 .rw [zb p7];intro S';dsimp only;split
  .rename_i hb;rw [eB];refine .quiet X S' rfl rfl rfl (by rw [eo];exact uS (by show (0:Int)≠3;decide) (by show (0:Int)≠4;decide) (by show (0:Int)≠6;decide)) ?_ (WX.begin hc0 hb);unfold z5;rw [zkZ,Xa (.inr (.inr (.inr (.inl p7))))];exact zK3 _
  .rename_i o l hb;refine .quiet X S' rfl rfl rfl (by rw [eo];exact uS (by show (5:Int)≠3;decide) (by show (5:Int)≠4;decide) (by show (5:Int)≠6;decide)) ?_ (WX.plain (.inl rfl) hc0);unfold z5;rw [W8 (.inl rfl),Xa (.inr (.inr (.inr (.inl p7)))),hb,zKE];exact zLo
 rw [zc p7];by_cases p8:x.PC=8
 .rw [zb p8];intro S';refine ⟨gh,by rw [uS (by show (9:Int)≠3;decide) (by show (9:Int)≠4;decide) (by show (9:Int)≠6;decide)];rw [eo] at X;exact X.quiet S' rfl,WX.plain (.inr (.inr (.inr rfl))) hc0,FX.quiet rfl (fun _ _ _=>rfl),[],[x.Obj],?_,.inr (.inr ⟨rfl,rfl,p8,rfl⟩)⟩;rw [ZD rfl,zKL];unfold z5;rw [W8 (.inr p8),Xa (.inr (.inr (.inr (.inr rfl)))),zKE,zKI];exact zK3 _
 rw [zc p8];have p9:x.PC=9:=by omega
 rw [zb p9];intro S';refine .quiet X S' rfl rfl rfl (by rw [eo];exact uS (by show (7:Int)≠3;decide) (by show (7:Int)≠4;decide) (by show (7:Int)≠6;decide)) ?_ (WX.plain (.inr (.inl rfl)) hc0);unfold z5;rw [Xa (.inr (.inr (.inr (.inr p9)))),Xa (.inr (.inr (.inr (.inl rfl))))]
theorem zue (s:za) (w:Int) (x:zj) (h:(zx s w x).2.PC=6):(x.PC=6/\(zx s w x).2.G.Obj=x.G.Obj)\/(x.PC=5/\(zx s w x).2.G.Obj=zW s.H x.Obj x.Slot):=by
 revert h;have hon:∀i,onW s i≠6:=fun i e=>by rcases zlt s i with h | h<;>omega
 have hlk:∀y:zj,(Yi s.P w y).PC≠6:=fun y e=>by unfold Yi at e;split at e<;>cases e
 unfold zx;split
 .rename_i h0;dsimp only;split
  .exact fun e=>by cases e
  split
  .exact fun e=>zm e (hlk _)
  .exact fun e=>by have e:x.PC=6:=e;omega
 split
 .dsimp only;split
  .exact fun e=>by cases e
  split
  .exact fun e=>by cases e
  .exact fun e=>by have e:x.PC=6:=e;omega
 split
 .exact fun e=>by cases e
 split
 .dsimp only;split
  .exact fun e=>by cases e
  .exact fun e=>by have e:x.PC=6:=e;omega
 split
 .rename_i h5;dsimp only;split
  .exact fun e=>zm e (hon _)
  .exact fun _=>.inr ⟨h5,rfl⟩
 split
 .rename_i h6;dsimp only;split
  .exact fun e=>zm e (hon _)
  .exact fun _=>.inl ⟨h6,(zaP s x.G).1⟩
 split
 .dsimp only;split
  .exact fun e=>by cases e
  .exact fun e=>by cases e
 split
 .exact fun e=>by cases e
 split
 .exact fun e=>by cases e
 .exact fun e=>.inl ⟨e,rfl⟩
theorem zxZ {o:Int}(h:1<=o/\o<=64) (j:Nat):(bit o).getLsbD j=decide ((o-1).toNat=j):=by
 unfold bit;rw [zb h,<-BitVec.twoPow_eq,BitVec.getLsbD_twoPow,zn (by omega:(o-1).toNat<64),zLw]
theorem xK (s:BitVec 64) (o:Int):zO s o=true↔1<=o/\o<=64/\s.getLsbD (o-1).toNat=true:=by
 unfold zO;rw [zKT,decide_eq_false_iff_not];by_cases h:1<=o/\o<=64
 .constructor
  .intro h1;refine ⟨h.1,h.2,Classical.byContradiction (fun h2=>h1 ?_)⟩;apply zL5;intro j hj;rw [zLP,zxZ h,zL6];by_cases e:(o-1).toNat=j
   .rw [<-e];simp only [Bool.not_eq_true] at h2;rw [h2];rfl
   .rw [zG e,Bool.and_false]
  .rintro ⟨_,_,h1⟩ h2;have:=congrArg (fun v=>BitVec.getLsbD v (o-1).toNat) h2;simp only [zLP,zxZ h,h1,zL6] at this;simp at this
 .constructor
  .intro h1;exact zm (by unfold bit;rw [zc h,BitVec.and_zero]) h1
  .rintro ⟨a,b,_⟩;exact zm ⟨a,b⟩ h
theorem yQ (s:BitVec 64) {o:Int}(h:1<=o/\o<=64) (q:Int):zO (s|||bit o) q=true↔zO s q=true\/q=o:=by
 rw [xK,xK,BitVec.getLsbD_or,zxZ h];simp only [zLK,decide_eq_true_eq];constructor
 .rintro ⟨a,b,c | c⟩
  .exact .inl ⟨a,b,c⟩
  .exact .inr (by omega)
 .rintro (⟨a,b,c⟩ | rfl)
  .exact ⟨a,b,.inl c⟩
  .exact ⟨h.1,h.2,.inr rfl⟩
theorem uF (s t:BitVec 64) (q:Int):zO (s&&&t) q=true↔zO s q=true/\zO t q=true:=by
 rw [xK,xK,xK,zLP];simp only [zKB];constructor
 .rintro ⟨a,b,c,d⟩;exact ⟨⟨a,b,c⟩,a,b,d⟩
 .rintro ⟨⟨a,b,c⟩,_,_,d⟩;exact ⟨a,b,c,d⟩
theorem Ye (q:Int): ¬zO 0#64 q=true:=by
 rw [xK,zL6];exact fun h=>by cases h.2.2
theorem zln {s t:BitVec 64}(h:∀o,zO s o=true↔zO t o=true):s=t:=by
 apply zL5;intro j hj;have:=h ((j:Int)+1);rw [xK,xK,show ((j:Int)+1-1).toNat=j by omega] at this;rw [Bool.eq_iff_iff];exact ⟨fun e=>(this.1 ⟨by omega,by omega,e⟩).2.2,fun e=>(this.2 ⟨by omega,by omega,e⟩).2.2⟩
theorem uK {m:BitVec 64}{o:Int}(h:1<=o/\o<=64): ¬(m|||bit o=m)↔¬zO m o=true:=by
 constructor
 .intro h1 h2;refine h1 (zln (fun q=>?_));rw [yQ _ h];exact ⟨fun e=>e.elim id (fun e=>by rw [e];exact h2),.inl⟩
 .intro h1 h2;refine h1 ?_;rw [<-h2,yQ _ h];exact .inr rfl
theorem vl (t:zo) (o:Int):yp t o=1↔zO t.Marks o=true/\¬zO t.Black o=true:=by
 unfold yp;by_cases h1:zO (t.Marks&&&t.Black) o=true
 .rw [zb h1];rw [uF] at h1;exact ⟨fun e=>(by cases e),fun e=>zm h1.2 e.2⟩
 .rw [zc h1];rw [uF] at h1;by_cases h2:zO t.Marks o=true
  .rw [zb h2];exact ⟨fun _=>⟨h2,fun e=>h1 ⟨h2,e⟩⟩,fun _=>rfl⟩
  .rw [zc h2];exact ⟨fun e=>(by cases e),fun e=>zm e.1 h2⟩
end
end Go.Pe.G
