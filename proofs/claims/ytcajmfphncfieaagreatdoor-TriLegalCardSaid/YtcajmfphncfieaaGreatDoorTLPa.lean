/- Own work of this seat: PA, PB, PMk, PMade20, PRight, PNew, PInv, PNewOk, PDq, PWork, PMut, PSmall, PEng, PLowEq, PMutEq, PDetEq, PWorkEq, PFrame, PGo, PEngEq, PPicks20, PFold, PSort, PDq2, PChain, PStrong, PGstep, PWstep, PBits. -/
import Derived.Test.YtcajmfphncfieaaGreatDoorTLGa
import Derived.Test.YtcajmfphncfieaaGreatDoorTLGb
set_option linter.unusedVariables false
set_option linter.unusedSimpArgs false
set_option linter.unnecessarySimpa false
set_option linter.unusedSectionVars false
set_option linter.deprecated false
set_option maxRecDepth 20000
open BitVec renaming toNat_ofInt → zLy, toNat_and → zLK, getLsbD_and → zLT, eq_of_toNat_eq → zLX, eq_of_getLsbD_eq → zL9, getLsbD_zero → zMa, toInt_eq_toNat_cond → zMg, getLsbD_not → zMm
open Bool renaming and_eq_true → zKF, not_eq_true' → zKX, not_true → zKY, true_and → zLD, or_eq_true → zLO
open Int renaming le_refl → zK6, toNat_natCast → zLn
open List renaming getElem?_eq_getElem → zKG, getD_eq_getElem?_getD → zKH, append_nil → zKI, mem_of_getElem? → zKK, append_assoc → zKM, mem_cons_of_mem → zKN, getElem?_eq_some_iff → zKO, nil_append → zKP, length_append → zKS, mem_map → zKT, length_cons → zKV, mem_cons → zKW, mem_append_left → zKZ, getElem_mem → zK1, mem_cons_self → zK2, length_set → zK3, mem_append → zK4, mem_range → zK7, perm_append_comm_assoc → zK9, getElem?_append_left → zLb, mem_append_right → zLd, getElem?_map → zLe, getElem?_set_ne → zLf, getElem?_append_right → zLg, length_replicate → zLl, drop_eq_getElem_cons → zLm, mem_or_eq_of_mem_set → zLo, mem_singleton → zLr, perm_append_comm → zLs, getElem?_set → zLt, eq_nil_of_length_eq_zero → zLu, foldl_cons → zLv, flatMap_cons → zLw, length_map → zLA, getElem?_cons_zero → zLJ, getElem?_set_self → zLL, getElem?_eq_none → zLN, length_take → zLQ, length_filter_le → zLS, nodup_append → zLU, length_drop → zLW, pairwise_cons → zLY, take_add_one → zLZ, range_succ → zL2, flatMap_append → zL3, getElem?_replicate → zL8, mem_of_mem_take → zMd, drop_eq_nil_of_le → zMf, take_length → zMk, length_singleton → zMw, getElem_append_left → zMx
open List.Perm renaming append_left → zKR, refl → zK8
open Nat renaming le_refl → zKJ, lt_or_ge → zLh, add_zero → zLp, mul_one → zLz, le_trans → zLM, add_assoc → zLV, mul_le_mul → zL4, lt_of_le_of_lt → zMn, and_two_pow_sub_one_eq_mod → zMz
open Option renaming bind_some → zKE
namespace Go.Pe.G
open Go.Pe
noncomputable section
theorem vm {A B D:Type}{f:A->Option (yM A B D)}(Inv:A->Prop) (ms:A->Nat) (Q:yM Unit B D->Prop)
  (h:∀a,Inv a->∃o,f a=some o/\match o with
   | .again a'=>Inv a'/\ms a'<ms a
   | .brk b=>Q (.brk b)
   | .ret c=>Q (.ret c)):∀a,Inv a->ms a<vW->∃o,yc f a=some o/\Q o:=by
 have key:∀(n:Nat) a,Inv a->ms a<n->∃o,yY f n a=some o/\Q o:=by
  intro n
  induction n with
  | zero=>intro a _ h;omega
  | succ n ih =>
   intro a ha hm;obtain ⟨o,ho,hq⟩:=h a ha;simp only [yY,ho,zKE];cases o with
   | again a'=>exact ih a' hq.1 (by have:=hq.2;omega)
   | brk b=>exact ⟨_,rfl,hq⟩
   | ret c=>exact ⟨_,rfl,hq⟩
 intro a ha hm;rw [Xe];exact key vW a ha hm
theorem ub {n:Nat}(h:n<18446744073709551616):n<vW:=h
theorem ya {a:Int}(h: -9223372036854775808<=a:=by omega) (h2:a<9223372036854775808:=by omega):w64 a=a:=by
 rw [zs9];omega
def wc (n:Int):Int:=(n+9223372036854775808)%18446744073709551616-9223372036854775808
theorem xT:w64=wc:=funext zs9
theorem yQ {a:Int}(h: -9223372036854775808<=a:=by omega) (h2:a<9223372036854775808:=by omega):wc a=a:=by unfold wc;omega
theorem zq {α:Type}(p:Prop) [Decidable p] (a b:α):(bif decide p then a else b)=if p then a else b:=by
 by_cases h:p<;>simp [h]
theorem yq {α:Type}(p:Prop) [Decidable p] (a b:α):(bif !(decide p) then a else b)=if p then b else a:=by
 by_cases h:p<;>simp [h]
theorem yR {α:Type}{l:List α}(h:l.length<4294967296:=by omega):yD l=some l:=by
 rw [zuw];simp [h]
theorem vX {α:Type}{l:List α}{i:Int}(h:0<=i:=by omega):idx l i=l[i.toNat]? :=by
 unfold idx;simp [h]
theorem vR {α:Type}{l:List α}{i:Int}(h:0<=i:=by omega) (h2:i<l.length:=by omega):wg l i=some i.toNat:=by
 unfold wg;simp [h,h2]
def bit (o:Int):BitVec 64:=if 1<=o/\o<=64 then 1#64 <<< (o-1).toNat else 0#64
theorem zDp (a:Int):zny a=some (bit a,()):=by
 rw [zB7];simp only [zq];unfold bit;by_cases h1:a<1
 .rw [zb h1,zi]
 .rw [zc h1];by_cases h2:64<a
  .rw [zb h2,zi]
  .rw [zc h2,ya (a:=a-1) (by omega) (by omega),zc (show ¬a-1<0 by omega),zb (show 1<=a/\a<=64 by omega),Nat.min_eq_left (by omega)]
theorem zln (s:BitVec 64) (o:Int):zcm s o=some (!(decide (s&&&bit o=0#64)),()):=by
 rw [zA5,zDp];rfl
theorem zhS (s:BitVec 64) (o:Int):YQ s o=some (s|||bit o,()):=by
 rw [zBn,zDp];rfl
def shade (t:zn) (o:Int):zn×Bool :=
 if t.Marks|||bit o=t.Marks then (t,false) else if t.Black&&&bit o=0#64 then ({t with Marks:=t.Marks|||bit o},true) else (t,false)
theorem zky (t:zn) (o:Int):zcq t o=some ((shade t o).1,(shade t o).2,()):=by
 rw [zwA,zhS,zKE,zq];unfold shade;by_cases h1:t.Marks|||bit o=t.Marks
 .rw [zb h1,zb h1]
 .rw [zc h1,zc h1,zln,zKE,yq];by_cases h2:t.Black&&&bit o=0#64
  .rw [zb h2,zb h2]
  .rw [zc h2,zc h2]
theorem zzc {m:List (BitVec 64)}(h:m.length<4294967296):wv m=some (m,()):=by
 rw [zey,zKP,yR h,zKE];cases m with
 | nil=>simp [zeG]
 | cons a l=>simp
theorem zkJ {m:List (List Int)}(h:m.length<4294967296):vv m=some (m,()):=by
 rw [zhF,zKP,yR h,zKE];cases m with
 | nil=>simp [zeG]
 | cons a l=>simp
def ld (m:List (BitVec 64)) (a:Int):BitVec 64:=if 0<=a then m.getD a.toNat 0#64 else 0#64
def st (m:List (BitVec 64)) (a:Int) (v:BitVec 64):List (BitVec 64):=if 0<=a then m.set a.toNat v else m
def sw (m:List (BitVec 64)) (at_:Int) (a b:BitVec 64):List (BitVec 64)×Bool :=
 if 0<=at_/\at_<m.length/\ld m at_=a then (st m at_ b,true) else (m,false)
theorem zAX {m:List (BitVec 64)}{a:Int}(h:0<=a) (h2:a<m.length):m[a.toNat]? =some (ld m a):=by
 unfold ld;rw [zb h,zKH,zKG (by omega)];rfl
theorem zDH {m:List (BitVec 64)}{a:Int}:st m a (ld m a)=m:=by
 unfold st ld;by_cases h:0<=a
 .rw [zb h,zb h];by_cases h2:a.toNat<m.length
  .rw [zKH,zKG h2];simp
  .rw [List.set_eq_of_length_le (by omega)]
 .rw [zc h]
theorem zFG {m:List (BitVec 64)}{a:Int}(h:a<0\/m.length<=a):ld m a=0#64:=by
 unfold ld;rcases h with h | h
 .rw [zi]
 .split
  .rw [zKH,zLN (by omega)];rfl
  .rfl
theorem zGn {m:List (BitVec 64)}{a:Int}{v:BitVec 64}(h:a<0\/m.length<=a):st m a v=m:=by
 unfold st;rcases h with h | h
 .rw [zi]
 .split
  .rw [List.set_eq_of_length_le (by omega)]
  .rfl
theorem zyk (m:List (BitVec 64)) (a:Int) (x y:BitVec 64):∃b,XW m ⟨1,a,x,y⟩=some (m,ld m a,b,()):=by
 rw [zoP];simp only [zq,if_true];by_cases h1:a<0
 .rw [zb h1,zFG (.inl h1)];exact ⟨_,rfl⟩
 .rw [zc h1];by_cases h2:(m.length:Int)<=a
  .rw [zb h2,zFG (.inr h2)];exact ⟨_,rfl⟩
  .rw [zc h2,vX,zAX (by omega) (by omega),zKE,zzM,zKE];simp
theorem zAm {m:List (BitVec 64)}(hm:m.length<4294967296) (a:Int) (x y:BitVec 64):∃v b,XW m ⟨2,a,x,y⟩=some (st m a x,v,b,()):=by
 rw [zoP];simp only [zq,if_true,zc (show ¬(2:Int)=1 by omega)];by_cases h1:a<0
 .rw [zb h1,zGn (.inl h1)];exact ⟨_,_,rfl⟩
 .rw [zc h1];by_cases h2:(m.length:Int)<=a
  .rw [zb h2,zGn (.inr h2)];exact ⟨_,_,rfl⟩
  .rw [zc h2,vX,zAX (by omega) (by omega),zKE,zzD,zKE,zA,yq];by_cases h3:ld m a=x
   .rw [zb h3];subst h3;rw [zDH];exact ⟨_,_,rfl⟩
   .rw [zc h3,zzc hm,zKE,vR (l:=m) (by omega) (by omega),zKE];unfold st;rw [yf];exact ⟨_,_,rfl⟩
theorem zyd {m:List (BitVec 64)}(hm:m.length<4294967296) (a:Int) (x y:BitVec 64):∃v,XW m ⟨3,a,x,y⟩=some ((sw m a x y).1,v,(sw m a x y).2,()):=by
 rw [zoP];simp only [zq,if_true,zc (show ¬(3:Int)=1 by omega),zc (show ¬(3:Int)=2 by omega)];by_cases h1:a<0
 .rw [zb h1];have:sw m a x y=(m,false):=by unfold sw;rw [zi]
  rw [this];exact ⟨_,rfl⟩
 .rw [zc h1];by_cases h2:(m.length:Int)<=a
  .rw [zb h2];have:sw m a x y=(m,false):=by unfold sw;rw [zi]
   rw [this];exact ⟨_,rfl⟩
  .rw [zc h2,vX,zAX (by omega) (by omega),zKE,zzH,zKE];simp only [zq];by_cases h3:ld m a=x
   .have:sw m a x y=(st m a y,true):=by unfold sw;rw [zb ⟨by omega,by omega,h3⟩]
    rw [zb h3,this,yq];by_cases h4:ld m a=y
    .rw [zb h4];have:st m a y=m:=by rw [<-h4,zDH]
     rw [this];simp [h3]
    .rw [zc h4,zzc hm,zKE,vR (l:=m) (by omega) (by omega),zKE];unfold st;rw [yf];simp [h3]
   .have:sw m a x y=(m,false):=by unfold sw;rw [zc (by rintro ⟨_,_,h⟩;exact h3 h)]
    rw [zc h3,this];simp [h3]
theorem zkO (m:List (BitVec 64)) (a:Int):zav m a=some (ld m a,()):=by
 obtain ⟨b,h⟩:=zyk m a 0#64 0#64;rw [zwe,h];rfl
theorem zdL {m:List (BitVec 64)}(hm:m.length<4294967296) (a:Int) (x:BitVec 64):XZ m a x=some (st m a x,()):=by
 obtain ⟨v,b,h⟩:=zAm hm a x 0#64;rw [zuF,h];rfl
theorem Xi (m:List (BitVec 64)) (a:Int):uk m a=some (ld m a,()):=by
 obtain ⟨b,h⟩:=zyk m a 0#64 0#64;rw [zvr,h];rfl
theorem zd1 {m:List (BitVec 64)}(hm:m.length<4294967296) (a:Int) (x:BitVec 64):XS m a x=some (st m a x,()):=by
 obtain ⟨v,b,h⟩:=zAm hm a x 0#64;rw [zuQ,h];rfl
def yG (h:BitVec 64):Int:=(h&&&4294967295#64).toInt
def xP (v:BitVec 64) (n:Int):BitVec 64:=(v <<< 32)|||(BitVec.ofInt 64 n&&&4294967295#64)
theorem zfS (h:BitVec 64):Xn h=some (yG h,()):=zv3 h
theorem zkE (v:BitVec 64) (n:Int):zaB v n=some (xP v n,()):=zwj v n
def zC (m:List (BitVec 64)) (c:zV):List (BitVec 64)×zV :=
 if c.Out≠0\/(c.Kind≠1/\c.Kind≠2)\/c.PC<0\/3<=c.PC then (m,c)
 else if c.PC=0 then
  (m,if c.Kind=2/\yG (ld m c.Head)=0 then {c with H:=ld m c.Head,Out:=2,PC:=1} else {c with H:=ld m c.Head,PC:=1})
 else if c.PC=1 then
  if c.Kind=2 then (m,{c with Y:=(ld m (wc (c.Next+yG c.H))).toInt,PC:=2})
  else (st m (wc (c.Next+c.X)) (BitVec.ofInt 64 (yG c.H)),{c with PC:=2})
 else
  let r:=sw m c.Head c.H (xP ((c.H >>> 32)+1#64) (if c.Kind=2 then c.Y else c.X))
  (r.1,if r.2 then (if c.Kind=2 then {c with X:=yG c.H,Out:=1,PC:=3} else {c with Out:=1,PC:=3}) else {c with PC:=0})
theorem zfi {m:List (BitVec 64)}(hm:m.length<4294967296) (c:zV):W7 m c=some ((zC m c).1,(zC m c).2,()):=by
 have hsee:uu m c=some (m,(if c.Kind=2/\yG (ld m c.Head)=0 then {c with H:=ld m c.Head,Out:=2} else {c with H:=ld m c.Head}),()):=by
  rw [zk3,zkO,zKE,zfS,zKE,zq,zq];by_cases h1:c.Kind=2
  .by_cases h2:yG (ld m c.Head)=0
   .rw [zb h1,zb h2,zb ⟨h1,h2⟩]
   .rw [zb h1,zc h2,zc (fun h=>h2 h.2)]
  .rw [zc h1,zc (fun h=>h1 h.1)]
 have hlink:WE m c=some (st m (wc (c.Next+c.X)) (BitVec.ofInt 64 (yG c.H)),()):=by
  rw [zng,xT,zfS,zKE,zdL hm];rfl
 have hbeh:Ym m c=some (m,{c with Y:=(ld m (wc (c.Next+yG c.H))).toInt},()):=by
  rw [zhH,xT,zfS,zKE,zkO];rfl
 have hswap:vZ m c=some ((sw m c.Head c.H (xP ((c.H >>> 32)+1#64) (if c.Kind=2 then c.Y else c.X))).1,
   (if (sw m c.Head c.H (xP ((c.H >>> 32)+1#64) (if c.Kind=2 then c.Y else c.X))).2 then (if c.Kind=2 then {c with X:=yG c.H,Out:=1} else {c with Out:=1}) else {c with PC:= -1}),()):=by
  rw [zjZ,zq];by_cases h1:c.Kind=2
  .rw [zb h1,zkE,zKE];obtain ⟨v,hv⟩:=zyd hm c.Head c.H (xP ((c.H >>> 32)+1#64) c.Y);simp only [zb h1];rw [hv,zKE];cases hs:(sw m c.Head c.H (xP ((c.H >>> 32)+1#64) c.Y)).2 with
   | true=>simp [hs,h1,zfS]
   | false=>simp [hs]
  .rw [zc h1,zkE,zKE];obtain ⟨v,hv⟩:=zyd hm c.Head c.H (xP ((c.H >>> 32)+1#64) c.X);simp only [zc h1];rw [hv,zKE];cases hs:(sw m c.Head c.H (xP ((c.H >>> 32)+1#64) c.X)).2 with
   | true=>simp [hs,h1]
   | false=>simp [hs]
 rw [zvW,hsee,hlink,hbeh,hswap];simp only [zq,yq,zKE];unfold zC;by_cases h0:c.Out=0
 .by_cases hp0:c.PC<0
  .have:(c.Out≠0\/(c.Kind≠1/\c.Kind≠2)\/c.PC<0\/3<=c.PC):= .inr (.inr (.inl hp0));rw [zb this];simp [h0,hp0]
  .by_cases hp3:3<=c.PC
   .have:(c.Out≠0\/(c.Kind≠1/\c.Kind≠2)\/c.PC<0\/3<=c.PC):= .inr (.inr (.inr hp3));rw [zb this];simp [h0,hp3]
   .by_cases hk:c.Kind=1\/c.Kind=2
    .have: ¬(c.Out≠0\/(c.Kind≠1/\c.Kind≠2)\/c.PC<0\/3<=c.PC):=by
      rintro (h | h | h | h)
      .exact h h0
      .omega
      .exact hp0 h
      .exact hp3 h
     rw [zc this];have hpc:c.PC=0\/c.PC=1\/c.PC=2:=by omega
     have w1:w64 1=1:=ya;have w2:w64 2=2:=ya;have w3:w64 3=3:=ya;have w4:w64 0=0:=ya;rcases hk with hk | hk<;>rcases hpc with hpc | hpc | hpc<;>simp [h0,hk,hpc,w1,w2,w3,w4]<;>(try split)<;>simp [hpc,w1,w3,w4]
    .have:(c.Out≠0\/(c.Kind≠1/\c.Kind≠2)\/c.PC<0\/3<=c.PC):= .inr (.inl (by omega));rw [zb this];have k1: ¬c.Kind=1:=by omega
     have k2: ¬c.Kind=2:=by omega
     simp [h0,k1,k2]
 .have:(c.Out≠0\/(c.Kind≠1/\c.Kind≠2)\/c.PC<0\/3<=c.PC):= .inl h0;rw [zb this];simp [h0]
def uZ (d:zg):BitVec 64:=BitVec.ofInt 64 (if d.Cap<1 then 1 else d.Cap)
def Xy (d:zg) (i:BitVec 64):Int:=wc (wc (d.Base+2)+(i%uZ d).toInt)
def xn (m:List (BitVec 64)) (d:zg):List (BitVec 64)×zg :=
 if d.Out≠0\/d.PC<0\/4<=d.PC then (m,d)
 else if d.PC=0 then (m,{d with B:=ld m (wc (d.Base+1)),PC:=1})
 else if d.PC=1 then (m,if uZ d<=d.B-ld m d.Base then {d with T:=ld m d.Base,Out:=3,PC:=2} else {d with T:=ld m d.Base,PC:=2})
 else if d.PC=2 then (st m (Xy d d.B) (BitVec.ofInt 64 d.X),{d with PC:=3})
 else (st m (wc (d.Base+1)) (d.B+1#64),{d with Out:=1,PC:=4})
theorem zCo:w64 0=0/\w64 1=1/\w64 2=2/\w64 3=3/\w64 4=4:=by
 refine ⟨?_,?_,?_,?_,?_⟩<;>exact ya
theorem zGp {d:zg}(h:d.Cap<1000):uZ d≠0#64:=by
 unfold uZ;intro e;have:=congrArg BitVec.toNat e;rw [zLy] at this;split at this<;>simp at this<;>omega
theorem zqp (d:zg):yu d=some (uZ d,()):=by
 rw [zmR];unfold uZ;rw [zq]
theorem zhY {d:zg}(h:d.Cap<1000) (i:BitVec 64):uT i d=some (Xy d i,()):=by
 rw [zmg,xT,zqp,zKE,zq,zc (zGp h)];rfl
theorem zn2 {m:List (BitVec 64)}(hm:m.length<4294967296) {d:zg}(hk:d.Kind=1) (hc:d.Cap<1000):zcF m d=some ((xn m d).1,(xn m d).2,()):=by
 obtain ⟨w0,w1,w2,w3,w4⟩:=zCo;have h0:vP m d=some (m,{d with B:=ld m (wc (d.Base+1))},()):=by
  rw [Vw,xV,xT,zKE,Xi];rfl
 have h1:VJ m d=some (m,(if uZ d<=d.B-ld m d.Base then {d with T:=ld m d.Base,Out:=3} else {d with T:=ld m d.Base}),()):=by
  rw [zjW,ZQ,zKE,Xi,zKE,zqp,zKE,zq];have e:uZ {d with T:=ld m d.Base}=uZ d:=rfl;simp only [e];by_cases h:uZ d<=d.B-ld m d.Base
  .rw [zb h,zb h,vw];simp [hk]
  .rw [zc h,zc h]
 have h2:zbH m d=some (st m (Xy d d.B) (BitVec.ofInt 64 d.X),()):=by
  rw [zoT,zhY hc,zKE,zd1 hm];rfl
 have h3:XR m d=some (st m (wc (d.Base+1)) (d.B+1#64),{d with Out:=1},()):=by
  rw [zgy,vw];simp only [decide_true,zKY,zM,zKE,xV,xT];rw [zd1 hm];rfl
 rw [znI,h0,h1,h2,h3,zkk];simp only [hk,decide_true,zA,zKE,yq,zq];have key:∀(x:Option (List (BitVec 64)×zg×Unit)) (v:List (BitVec 64)×zg×Unit) (y:Option (List (BitVec 64)×zg×Unit)),x=some v->Option.or x y=some v:=by
  rintro _ v y rfl;rfl
 apply key;unfold xn;by_cases g0:d.Out=0
 .by_cases g1:d.PC<0
  .simp [g0,g1]
  .by_cases g2:4<=d.PC
   .simp [g0,g2]
   .have hpc:d.PC=0\/d.PC=1\/d.PC=2\/d.PC=3:=by omega
    rcases hpc with h | h | h | h<;>simp [g0,h,hk,w1,w2,w3,w4]<;>(try split)<;>simp [h,hk,w2]
 .simp [g0]
def yr (p:zd):Int:=wc (p.Workers*wc (p.Cap+2))
def zU (p:zd):Int:=wc (yr p+1)
def z6 (p:zd) (w:Int):Int:=wc (wc (w-1)*wc (p.Cap+2))
theorem zc2 (p:zd):XA p=some (yr p,()):=by rw [zww,xT];rfl
theorem zdy (p:zd):XQ p=some (zU p,()):=by rw [zuV,xT,zc2];rfl
theorem zaX (p:zd):YM p=some (zU p,()):=by rw [zwQ,zdy];rfl
theorem zbt (p:zd) (w:Int):xG p w=some (z6 p w,()):=by rw [zu1,xT];rfl
def zjt (p:zd) (g:zJ):zJ:={g with PC:=5,C:=⟨2,0,zU p,zU p,0#64,0,0,0⟩}
theorem zqt (a:zX):uS a=some (⟨zjt a.s.P a.Grey,a.s⟩,()):=by
 rw [zmH,zdy,zKE,zaX,zKE,Vg];rfl
def zn6 (s:za) (g:zJ):za×zJ :=
 let t:=shade s.T g.Obj
 ({s with T:=t.1},
  if t.2=false then {g with PC:=2}
  else if g.Mode=1 then {g with PC:=3,D:=⟨1,0,z6 s.P g.Who,s.P.Cap,0#64,0#64,g.Obj,0⟩}
  else if g.Mode=2 then {g with PC:=4}
  else zjt s.P g)
def zn4 (s:za) (g:zJ):za×zJ :=
 let r:=xn s.M g.D
 ({s with M:=r.1},if r.2.Out=1 then {g with D:=r.2,Out:=1} else if r.2.Out=3 then zjt s.P {g with D:=r.2} else {g with D:=r.2})
def znV (s:za) (g:zJ):za×zJ :=
 let r:=zC s.M g.C
 ({s with M:=r.1},if r.2.Out=1 then {g with PC:=6,C:=r.2,Bin:=r.2.X} else if r.2.Out=2 then zjt s.P {g with C:=r.2} else {g with C:=r.2})
def zAe (s:za) (g:zJ):za×zJ :=
 ({s with Bins:=s.Bins.set g.Bin.toNat [g.Obj]},{g with PC:=7,C:=⟨1,0,yr s.P,zU s.P,0#64,g.Bin,0,0⟩})
def zes (s:za) (g:zJ):za×zJ :=
 let r:=zC s.M g.C
 ({s with M:=r.1},if r.2.Out=1 then {g with C:=r.2,Out:=1} else {g with C:=r.2})
def zG (s:za) (g:zJ):za×zJ :=
 if g.Out≠0\/g.Mode<1\/3<g.Mode\/g.PC<0\/8<=g.PC then (s,g)
 else if g.PC=7 then zes s g
 else if g.PC=6 then zAe s g
 else if g.PC=5 then znV s g
 else if g.PC=4 then ({s with Flag:=true},zjt s.P g)
 else if g.PC=3 then zn4 s g
 else if g.PC=2 then ({s with Work:=wc (s.Work-1)},{g with Out:=1})
 else if g.PC=1 then zn6 s g
 else ({s with Work:=wc (s.Work+1)},{g with PC:=1})
structure GOk (s:za) (g:zJ):Prop where
 mem:s.M.length<4294967296
 bins:s.Bins.length<4294967296
 bin:g.PC=6->0<=g.Bin/\g.Bin<s.Bins.length
 deq:g.PC=3->g.D.Kind=1/\g.D.Cap<1000
theorem zyG {s:za}{g:zJ}(ok:GOk s g):zdS s g=some ((zG s g).1,(zG s g).2,()):=by
 rw [zxP];simp only [zq,yq];unfold zG;by_cases h0:g.Out=0;rotate_left
 .rw [zc h0,zb (.inl h0)]
 rw [zb h0];by_cases h1:g.Mode<1
 .rw [zb h1,zb (.inr (.inl h1))]
 rw [zc h1];by_cases h2:3<g.Mode
 .rw [zb h2,zb (.inr (.inr (.inl h2)))]
 rw [zc h2];by_cases h3:g.PC<0
 .rw [zb h3,zb (.inr (.inr (.inr (.inl h3))))]
 rw [zc h3];by_cases h4:8<=g.PC
 .rw [zb h4,zb (.inr (.inr (.inr (.inr h4))))]
 rw [zc h4,zc (show ¬(g.Out≠0\/g.Mode<1\/3<g.Mode\/g.PC<0\/8<=g.PC) by omega)];by_cases p7:g.PC=7
 .rw [zb p7,zb p7,zhm];simp only [zfi ok.mem,zKE,zq];by_cases e:(zC s.M g.C).2.Out=1<;>simp [zes,e]
 rw [zc p7,zc p7];by_cases p6:g.PC=6
 .rw [zb p6,zb p6,zk8];obtain ⟨b1,b2⟩:=ok.bin p6;simp only [zkJ ok.bins,zKE,vR (l:=s.Bins) b1 b2,zc2,zaX,Vg];rfl
 rw [zc p6,zc p6];by_cases p5:g.PC=5
 .rw [zb p5,zb p5,zlg];simp only [zfi ok.mem,zKE,zq,zqt];by_cases e:(zC s.M g.C).2.Out=1
  .simp [znV,e]
  .by_cases e2:(zC s.M g.C).2.Out=2<;>simp [znV,e,e2]
 rw [zc p5,zc p5];by_cases p4:g.PC=4
 .rw [zb p4,zb p4,zkV,zqt];rfl
 rw [zc p4,zc p4];by_cases p3:g.PC=3
 .rw [zb p3,zb p3,zk1];obtain ⟨b1,b2⟩:=ok.deq p3;simp only [zn2 ok.mem b1 b2,zKE,zq,zqt];by_cases e:(xn s.M g.D).2.Out=1
  .simp [zn4,e]
  .by_cases e2:(xn s.M g.D).2.Out=3<;>simp [zn4,e,e2]
 rw [zc p3,zc p3];by_cases p2:g.PC=2
 .rw [zb p2,zb p2,zlc,xT];rfl
 rw [zc p2,zc p2];by_cases p1:g.PC=1
 .rw [zb p1,zb p1,zkR];simp only [zky,zKE,zq,zqt,zbt,zaN];unfold zn6;cases hs:(shade s.T g.Obj).2 with
  | false=>simp [hs]
  | true =>
   by_cases m1:g.Mode=1
   .simp [hs,m1]
   .by_cases m2:g.Mode=2<;>simp [hs,m1,m2]
 rw [zc p1,zc p1,zb (show g.PC=0 by omega),zhX,xT];rfl
theorem uP {b k:Int}(h:0<=b) (hk:0<k):0<=b.tmod k/\b.tmod k<k:=by
 rw [Int.tmod_eq_emod_of_nonneg h];exact ⟨Int.emod_nonneg _ (by omega),Int.emod_lt_of_pos _ hk⟩
def zlW (o:zE) (regs slots:Int):Prop:=(0<=o.R/\o.R<regs) /\
 ((o.Kind=1\/o.Kind=2)/\(0<=o.A/\o.A<regs)/\(0<=o.S/\o.S<slots)\/o.Kind=4/\(0<=o.A/\o.A<regs)/\o.S=0\/(o.Kind=3\/o.Kind=5)/\o.A=0/\o.S=0)
structure zI (p:zd):Prop where
 wk:1<=p.Workers/\p.Workers<=3
 mt:0<=p.Mutators/\p.Mutators<=2
 cap:1<=p.Cap/\p.Cap<=3
 buf:1<=p.Buf/\p.Buf<=2
 bin:1<=p.Bin/\p.Bin<=3
 price:0<=p.Price/\p.Price<=3
 limit:0<=p.Limit/\p.Limit<=3
 slots:1<=p.H.Slots/\p.H.Slots<=2
 n:1<=(p.H.Objs.length:Int)/\(p.H.Objs.length:Int)<=6
 objs:∀o∈p.H.Objs,(o.length:Int)=p.H.Slots/\∀v∈o,0<=v/\v<=(p.H.Objs.length:Int)
 most:(p.H.Objs.length:Int)<=p.Most/\p.Most<=(p.H.Objs.length:Int)+3
 roots:∃r,0<=r/\r<=(p.H.Objs.length:Int)/\p.Roots=bit r
 regs:(p.Regs.length:Int)=p.Mutators
 progs:(p.Progs.length:Int)=p.Mutators
 reg:∀r∈p.Regs,(1<=(r.length:Int)/\(r.length:Int)<=3)/\∀v∈r,0<=v/\v<=(p.H.Objs.length:Int)
 prog:∀(k:Nat) r ops,p.Regs[k]? =some r->p.Progs[k]? =some ops->(ops.length:Int)<=7/\∀o∈ops,zlW o (r.length:Int) p.H.Slots
 picks:p.Picks=[]
namespace B20
def VG (m:zY):Prop:=0<=m.At/\m.At<=m.L.length/\m.L.length<=90
theorem Zs {m:zY}(h:VG m):∃b m',zT m=some (b,m',())/\(0<=b/\b<256)/\VG m':=by
 obtain ⟨h1,h2,h3⟩:=h;rw [zgD,zq];by_cases h:(m.L.length:Int)<=m.At
 .rw [zb h];exact ⟨_,_,rfl,by omega,h1,h2,h3⟩
 .rw [zc h,ya (a:=m.At+1) (by omega) (by omega),ya,vX,zKG (by omega),zKE];exact ⟨_,_,rfl,by have:=(m.L[(m.At+1-1).toNat]'(by omega)).isLt;omega,show 0<=m.At+1 by omega,show m.At+1<=m.L.length by omega,h3⟩
theorem zJ3 {m:zY}(h:VG m) {regs slots:Int}(hr:1<=regs) (hs:1<=slots):∃o m',Vd regs slots m=some (o,m',())/\zlW o regs slots/\VG m':=by
 obtain ⟨b1,m1,e1,r1,k1⟩:=Zs h;obtain ⟨b2,m2,e2,r2,k2⟩:=Zs k1;obtain ⟨b3,m3,e3,r3,k3⟩:=Zs k2;obtain ⟨b4,m4,e4,r4,k4⟩:=Zs k3;have t1:=uP r1.1 (show (0:Int)<8 by omega);have t2:=uP r2.1 (show (0:Int)<regs by omega);have t3:=uP r3.1 (show (0:Int)<regs by omega);have t4:=uP r4.1 (show (0:Int)<slots by omega);have t5:=uP r3.1 (show (0:Int)<slots by omega);have hn: ¬regs=0:=by omega
 have hn2: ¬slots=0:=by omega
 rw [zix,e1,zKE,vR t1.1 (by simpa using t1.2),zKE];have hx:b1.tmod 8=0\/b1.tmod 8=1\/b1.tmod 8=2\/b1.tmod 8=3\/b1.tmod 8=4\/b1.tmod 8=5\/b1.tmod 8=6\/b1.tmod 8=7:=by omega
 rcases hx with hx | hx | hx | hx | hx | hx | hx | hx<;>simp [hx,e2,e3,e4,hn,hn2]<;>refine ⟨_,_,⟨rfl,rfl⟩,?_,by assumption⟩<;>(unfold zlW;dsimp only;omega)
theorem zHq {s1:Int}{s2:Int}{s4:Int}{s5:Int}{s6:Int}{s7:Int}{s8:Int}{s9:Int}{s10:Int}{s11:Int}{s12:Int}{s13:BitVec 64}{s15:Int}{s16:Int}{s17:Int}{s18:Int}{s19:Int}{s20:Int}{s21:Int}{s22:Int}{s23:Int}{s24:BitVec 64}{s26:List (List Int)}{s27:List (List Int)}{s28:List (List zE)}{s29:List zk}{s30:List (List Int)}{s31:List (List Int)}{s32:List (List zE)}{s33:List zk}(hn:1<=s1/\s1<=6) (hs:1<=s23/\s23<=2) {mk:zY}(hm:VG mk) :
  ∃mk' l,yc XK (s1,s2,0,s4,s5,s6,s7,s8,s9,s10,s11,s12,s13,mk,s15,s16,s17,s18,s19,s20,s21,s22,s23,s24,[],s26,s27,s28,s29,s30,s31,s32,s33,())=some (.brk (s1,s2,s4,s5,s6,s7,s8,s9,s10,s11,s12,s13,mk',s15,s16,s17,s18,s19,s20,s21,s22,s23,s24,l,s26,s27,s28,s29,s30,s31,s32,s33,()))/\VG mk'/\(l.length:Int)=s23/\∀v∈l,0<=v/\v<=s1:=by
 refine (vm (f:=XK)
  (fun a=>∃i mk l,a=(s1,s2,i,s4,s5,s6,s7,s8,s9,s10,s11,s12,s13,mk,s15,s16,s17,s18,s19,s20,s21,s22,s23,s24,l,s26,s27,s28,s29,s30,s31,s32,s33,())/\VG mk/\(0<=i/\i<=s23/\(l.length:Int)=i)/\∀v∈l,0<=v/\v<=s1)
  (fun a=>(s23-a.2.2.1).toNat)
  (fun o=>match o with | .brk b=>∃mk l,b=(s1,s2,s4,s5,s6,s7,s8,s9,s10,s11,s12,s13,mk,s15,s16,s17,s18,s19,s20,s21,s22,s23,s24,l,s26,s27,s28,s29,s30,s31,s32,s33,())/\VG mk/\(l.length:Int)=s23/\∀v∈l,0<=v/\v<=s1 | _=>False) ?_
  (s1,s2,0,s4,s5,s6,s7,s8,s9,s10,s11,s12,s13,mk,s15,s16,s17,s18,s19,s20,s21,s22,s23,s24,[],s26,s27,s28,s29,s30,s31,s32,s33,()) ⟨0,mk,[],rfl,hm,by simp;omega,by simp⟩ (ub (by simp;omega))).elim fun o h=>?_
 rotate_left
 .obtain ⟨ho,hq⟩:=h;cases o with
  | again a=>exact hq.elim
  | ret a=>exact hq.elim
  | brk b =>
   obtain ⟨mk',l,rfl,h1,h2,h3⟩:=hq;exact ⟨mk',l,ho,h1,h2,h3⟩
 .rintro _ ⟨i,mk,l,rfl,h1,h2,h3⟩;rw [zl2,zq];by_cases hi:i<s23
  .rw [zb hi];obtain ⟨b,mk',e,r,k⟩:=Zs h1;have w1:w64 (s1+1)=s1+1:=ya;have t:=uP r.1 (show 0<s1+1 by omega);rw [e,zKE,w1,zq,zi,yR (by simp;omega),zKE,ya (a:=i+1) (by omega) (by omega)];refine ⟨_,rfl,⟨i+1,mk',l++[b.tmod (s1+1)],rfl,k,by simp;omega,fun v hv=>?_⟩,?_⟩
   .rcases zK4.1 hv with hv | hv
    .exact h3 v hv
    .simp at hv;omega
   .show (s23-(i+1)).toNat<(s23-i).toNat;omega
  .rw [zc hi];exact ⟨_,rfl,mk,l,rfl,h1,by omega,h3⟩
theorem zIR {s1:Int}{s3:Int}{s4:Int}{s5:Int}{s6:Int}{s7:Int}{s8:Int}{s9:Int}{s10:Int}{s11:Int}{s12:BitVec 64}{s14:Int}{s15:Int}{s16:Int}{s17:Int}{s18:Int}{s19:Int}{s20:Int}{s21:Int}{s22:Int}{s23:BitVec 64}{s24:List (List Int)}{s25:List (List Int)}{s26:List (List zE)}{s27:List zk}{s29:List (List Int)}{s30:List (List zE)}{s31:List zk}(hn:1<=s1/\s1<=6) (hs:1<=s22/\s22<=2) {mk:zY}(hm:VG mk) :
  ∃mk' l,yc Wt (s1,0,s3,s4,s5,s6,s7,s8,s9,s10,s11,s12,mk,s14,s15,s16,s17,s18,s19,s20,s21,s22,s23,s24,s25,s26,s27,[],s29,s30,s31,())=some (.brk (s1,s3,s4,s5,s6,s7,s8,s9,s10,s11,s12,mk',s14,s15,s16,s17,s18,s19,s20,s21,s22,s23,s24,s25,s26,s27,l,s29,s30,s31,()))/\VG mk'/\(l.length:Int)=s1/\∀o∈l,(o.length:Int)=s22/\∀v∈o,0<=v/\v<=s1:=by
 refine (vm (f:=Wt)
  (fun a=>∃i mk l,a=(s1,i,s3,s4,s5,s6,s7,s8,s9,s10,s11,s12,mk,s14,s15,s16,s17,s18,s19,s20,s21,s22,s23,s24,s25,s26,s27,l,s29,s30,s31,())/\VG mk/\(0<=i/\i<=s1/\(l.length:Int)=i)/\∀o∈l,(o.length:Int)=s22/\∀v∈o,0<=v/\v<=s1)
  (fun a=>(s1-a.2.1).toNat)
  (fun o=>match o with | .brk b=>∃mk l,b=(s1,s3,s4,s5,s6,s7,s8,s9,s10,s11,s12,mk,s14,s15,s16,s17,s18,s19,s20,s21,s22,s23,s24,s25,s26,s27,l,s29,s30,s31,())/\VG mk/\(l.length:Int)=s1/\∀o∈l,(o.length:Int)=s22/\∀v∈o,0<=v/\v<=s1 | _=>False) ?_
  (s1,0,s3,s4,s5,s6,s7,s8,s9,s10,s11,s12,mk,s14,s15,s16,s17,s18,s19,s20,s21,s22,s23,s24,s25,s26,s27,[],s29,s30,s31,()) ⟨0,mk,[],rfl,hm,by simp;omega,by simp⟩ (ub (by simp;omega))).elim fun o h=>?_
 rotate_left
 .obtain ⟨ho,hq⟩:=h;cases o with
  | again a=>exact hq.elim
  | ret a=>exact hq.elim
  | brk b =>
   obtain ⟨mk',l,rfl,h1,h2,h3⟩:=hq;exact ⟨mk',l,ho,h1,h2,h3⟩
 .rintro _ ⟨i,mk,l,rfl,h1,h2,h3⟩;rw [zmW,zq];by_cases hi:i<s1
  .rw [zb hi];obtain ⟨mk',o,e,g1,g2,g3⟩:=zHq hn hs h1;rw [e];simp only [zKE];rw [yR (by simp;omega),zKE,ya (a:=i+1) (by omega) (by omega)];refine ⟨_,rfl,⟨i+1,mk',l++[o],rfl,g1,by simp;omega,fun v hv=>?_⟩,?_⟩
   .rcases zK4.1 hv with hv | hv
    .exact h3 v hv
    .simp at hv;subst hv;exact ⟨g2,g3⟩
   .show (s1-(i+1)).toNat<(s1-i).toNat;omega
  .rw [zc hi];exact ⟨_,rfl,mk,l,rfl,h1,by omega,h3⟩
theorem zGV {s1:Int}{s2:Int}{s4:Int}{s5:Int}{s6:Int}{s7:Int}{s8:Int}{s9:Int}{s10:Int}{s11:Int}{s12:Int}{s13:BitVec 64}{s15:Int}{s16:Int}{s17:Int}{s18:Int}{s19:Int}{s20:Int}{s21:Int}{s22:Int}{s23:Int}{s24:BitVec 64}{s26:List (List Int)}{s27:List (List Int)}{s28:List (List zE)}{s29:List zk}{s30:List (List Int)}{s31:List (List Int)}{s32:List (List zE)}{s33:List zk}(hn:1<=s1/\s1<=6) {mk:zY}(hm:VG mk) :
  ∃mk' l,yc XF (s1,s2,0,s4,s5,s6,s7,s8,s9,s10,s11,s12,s13,mk,s15,s16,s17,s18,s19,s20,s21,s22,s23,s24,[],s26,s27,s28,s29,s30,s31,s32,s33,())=some (.brk (s1,s2,s4,s5,s6,s7,s8,s9,s10,s11,s12,s13,mk',s15,s16,s17,s18,s19,s20,s21,s22,s23,s24,l,s26,s27,s28,s29,s30,s31,s32,s33,()))/\VG mk'/\(1<=(l.length:Int)/\(l.length:Int)<=3)/\∀v∈l,0<=v/\v<=s1:=by
 refine (vm (f:=XF)
  (fun a=>∃i mk l,a=(s1,s2,i,s4,s5,s6,s7,s8,s9,s10,s11,s12,s13,mk,s15,s16,s17,s18,s19,s20,s21,s22,s23,s24,l,s26,s27,s28,s29,s30,s31,s32,s33,())/\VG mk/\(0<=i/\i<=3/\(l.length:Int)=i)/\∀v∈l,0<=v/\v<=s1)
  (fun a=>(3-a.2.2.1).toNat)
  (fun o=>match o with | .brk b=>∃mk l,b=(s1,s2,s4,s5,s6,s7,s8,s9,s10,s11,s12,s13,mk,s15,s16,s17,s18,s19,s20,s21,s22,s23,s24,l,s26,s27,s28,s29,s30,s31,s32,s33,())/\VG mk/\(1<=(l.length:Int)/\(l.length:Int)<=3)/\∀v∈l,0<=v/\v<=s1 | _=>False) ?_
  (s1,s2,0,s4,s5,s6,s7,s8,s9,s10,s11,s12,s13,mk,s15,s16,s17,s18,s19,s20,s21,s22,s23,s24,[],s26,s27,s28,s29,s30,s31,s32,s33,()) ⟨0,mk,[],rfl,hm,by simp,by simp⟩ (ub (by simp))).elim fun o h=>?_
 rotate_left
 .obtain ⟨ho,hq⟩:=h;cases o with
  | again a=>exact hq.elim
  | ret a=>exact hq.elim
  | brk b =>
   obtain ⟨mk',l,rfl,h1,h2,h3⟩:=hq;exact ⟨mk',l,ho,h1,h2,h3⟩
 .rintro _ ⟨i,mk,l,rfl,h1,h2,h3⟩;obtain ⟨b0,mk0,e0,r0,k0⟩:=Zs h1;have t0:=uP r0.1 (show (0:Int)<3 by omega);rw [zmG,e0,zKE,zq,ya (a:=1+b0.tmod 3) (by omega) (by omega)];by_cases hi:i<1+b0.tmod 3
  .rw [zb hi];obtain ⟨b,mk',e,r,k⟩:=Zs k0;have w1:w64 (s1+1)=s1+1:=ya;have t:=uP r.1 (show 0<s1+1 by omega);rw [e,zKE,w1,zq,zi,yR (by simp;omega),zKE,ya (a:=i+1) (by omega) (by omega)];refine ⟨_,rfl,⟨i+1,mk',l++[b.tmod (s1+1)],rfl,k,by simp;omega,fun v hv=>?_⟩,?_⟩
   .rcases zK4.1 hv with hv | hv
    .exact h3 v hv
    .simp at hv;omega
   .show (3-(i+1)).toNat<(3-i).toNat;omega
  .rw [zc hi];exact ⟨_,rfl,mk0,l,rfl,k0,by omega,h3⟩
theorem zG8 {s1:Int}{s2:Int}{s4:Int}{s5:Int}{s6:Int}{s7:Int}{s8:Int}{s9:Int}{s10:Int}{s11:Int}{s12:Int}{s13:BitVec 64}{s15:Int}{s16:Int}{s17:Int}{s18:Int}{s19:Int}{s20:Int}{s21:Int}{s22:Int}{s23:Int}{s24:BitVec 64}{s25:List Int}{s27:List (List Int)}{s28:List (List Int)}{s29:List (List zE)}{s30:List zk}{s31:List (List Int)}{s32:List (List Int)}{s33:List (List zE)}{s34:List zk}(hr:1<=(s25.length:Int)) (hs:1<=s23/\s23<=2) {k0:Int}(hk:0<=k0/\k0<8) {mk:zY}(hm:VG mk) :
  ∃mk' l,yc Z5 (s1,s2,k0,s4,s5,s6,s7,s8,s9,s10,s11,s12,s13,mk,s15,s16,s17,s18,s19,s20,s21,s22,s23,s24,s25,[],s27,s28,s29,s30,s31,s32,s33,s34,())=some (.brk (s1,s2,s4,s5,s6,s7,s8,s9,s10,s11,s12,s13,mk',s15,s16,s17,s18,s19,s20,s21,s22,s23,s24,s25,l,s27,s28,s29,s30,s31,s32,s33,s34,()))/\VG mk'/\(l.length:Int)<=7/\∀o∈l,zlW o (s25.length:Int) s23:=by
 refine (vm (f:=Z5)
  (fun a=>∃i mk l,a=(s1,s2,i,s4,s5,s6,s7,s8,s9,s10,s11,s12,s13,mk,s15,s16,s17,s18,s19,s20,s21,s22,s23,s24,s25,l,s27,s28,s29,s30,s31,s32,s33,s34,())/\VG mk/\(0<=i/\(l.length:Int)+i<=7)/\∀o∈l,zlW o (s25.length:Int) s23)
  (fun a=>(a.2.2.1).toNat)
  (fun o=>match o with | .brk b=>∃mk l,b=(s1,s2,s4,s5,s6,s7,s8,s9,s10,s11,s12,s13,mk,s15,s16,s17,s18,s19,s20,s21,s22,s23,s24,s25,l,s27,s28,s29,s30,s31,s32,s33,s34,())/\VG mk/\(l.length:Int)<=7/\∀o∈l,zlW o (s25.length:Int) s23 | _=>False) ?_
  (s1,s2,k0,s4,s5,s6,s7,s8,s9,s10,s11,s12,s13,mk,s15,s16,s17,s18,s19,s20,s21,s22,s23,s24,s25,[],s27,s28,s29,s30,s31,s32,s33,s34,()) ⟨k0,mk,[],rfl,hm,by simp;omega,by simp⟩ (ub (by simp;omega))).elim fun o h=>?_
 rotate_left
 .obtain ⟨ho,hq⟩:=h;cases o with
  | again a=>exact hq.elim
  | ret a=>exact hq.elim
  | brk b =>
   obtain ⟨mk',l,rfl,h1,h2,h3⟩:=hq;exact ⟨mk',l,ho,h1,h2,h3⟩
 .rintro _ ⟨i,mk,l,rfl,h1,h2,h3⟩;rw [zmn,zq];by_cases hi:0<i
  .rw [zb hi];obtain ⟨o,mk',e,r,k⟩:=zJ3 h1 hr hs.1;rw [e,zKE,yR (by simp;omega),zKE,ya (a:=i-1) (by omega) (by omega)];refine ⟨_,rfl,⟨i-1,mk',l++[o],rfl,k,by simp;omega,fun v hv=>?_⟩,?_⟩
   .rcases zK4.1 hv with hv | hv
    .exact h3 v hv
    .simp at hv;subst hv;exact r
   .show (i-1).toNat<i.toNat;omega
  .rw [zc hi];exact ⟨_,rfl,mk,l,rfl,h1,by omega,h3⟩
theorem zG7 {s1:Int}{s3:Int}{s4:Int}{s5:Int}{s6:Int}{s7:Int}{s8:Int}{s9:Int}{s10:Int}{s11:Int}{s12:BitVec 64}{s14:Int}{s15:Int}{s16:Int}{s17:Int}{s18:Int}{s19:Int}{s20:Int}{s21:Int}{s22:Int}{s23:BitVec 64}{s24:List (List Int)}{s25:List (List Int)}{s26:List (List zE)}{s27:List zk}{s28:List (List Int)}{s31:List zk}(hn:1<=s1/\s1<=6) (hm0:0<=s15/\s15<=2) (hs:1<=s22/\s22<=2) {mk:zY}(hm:VG mk) :
  ∃regs progs,yc XL (s1,0,s3,s4,s5,s6,s7,s8,s9,s10,s11,s12,mk,s14,s15,s16,s17,s18,s19,s20,s21,s22,s23,s24,s25,s26,s27,s28,[],[],s31,())=some (.brk (s3,s4,s5,s6,s7,s8,s9,s10,s11,s12,s14,s15,s16,s17,s18,s19,s20,s21,s22,s23,s24,s25,s26,s27,s28,regs,progs,s31,()))/\(regs.length:Int)=s15/\(regs.length=progs.length)/\(∀r∈regs,(1<=(r.length:Int)/\(r.length:Int)<=3)/\∀v∈r,0<=v/\v<=s1)/\∀(k:Nat) r ops,regs[k]? =some r->progs[k]? =some ops->(ops.length:Int)<=7/\∀o∈ops,zlW o (r.length:Int) s22:=by
 refine (vm (f:=XL)
  (fun a=>∃i mk regs progs,a=(s1,i,s3,s4,s5,s6,s7,s8,s9,s10,s11,s12,mk,s14,s15,s16,s17,s18,s19,s20,s21,s22,s23,s24,s25,s26,s27,s28,regs,progs,s31,())/\VG mk/\(0<=i/\i<=s15/\(regs.length:Int)=i)/\(regs.length=progs.length)/\(∀r∈regs,(1<=(r.length:Int)/\(r.length:Int)<=3)/\∀v∈r,0<=v/\v<=s1)/\∀(k:Nat) r ops,regs[k]? =some r->progs[k]? =some ops->(ops.length:Int)<=7/\∀o∈ops,zlW o (r.length:Int) s22)
  (fun a=>(s15-a.2.1).toNat)
  (fun o=>match o with | .brk b=>∃regs progs,b=(s3,s4,s5,s6,s7,s8,s9,s10,s11,s12,s14,s15,s16,s17,s18,s19,s20,s21,s22,s23,s24,s25,s26,s27,s28,regs,progs,s31,())/\(regs.length:Int)=s15/\(regs.length=progs.length)/\(∀r∈regs,(1<=(r.length:Int)/\(r.length:Int)<=3)/\∀v∈r,0<=v/\v<=s1)/\∀(k:Nat) r ops,regs[k]? =some r->progs[k]? =some ops->(ops.length:Int)<=7/\∀o∈ops,zlW o (r.length:Int) s22 | _=>False) ?_
  (s1,0,s3,s4,s5,s6,s7,s8,s9,s10,s11,s12,mk,s14,s15,s16,s17,s18,s19,s20,s21,s22,s23,s24,s25,s26,s27,s28,[],[],s31,()) ⟨0,mk,[],[],rfl,hm,by simp;omega,rfl,by simp,by simp⟩ (ub (by simp;omega))).elim fun o h=>?_
 rotate_left
 .obtain ⟨ho,hq⟩:=h;cases o with
  | again a=>exact hq.elim
  | ret a=>exact hq.elim
  | brk b =>
   obtain ⟨regs,progs,rfl,h⟩:=hq;exact ⟨regs,progs,ho,h⟩
 .rintro _ ⟨i,mk,regs,progs,rfl,h1,h2,h3,h4,h5⟩;rw [zl6,zq];by_cases hi:i<s15
  .rw [zb hi];obtain ⟨mk1,r,e,g1,g2,g3⟩:=zGV hn h1;rw [e];simp only [zKE];rw [zq,zi];obtain ⟨b,mk2,e2,r2,k2⟩:=Zs g1;rw [e2,zKE];obtain ⟨mk3,ops,e3,f1,f2,f3⟩:=zG8 (s25:=r) g2.1 hs (uP r2.1 (show (0:Int)<8 by omega)) k2;rw [e3];simp only [zKE];rw [yR (by simp;omega),zKE,yR (by simp;omega),zKE,ya (a:=i+1) (by omega) (by omega)];refine ⟨_,rfl,⟨i+1,mk3,regs++[r],progs++[ops],rfl,f1,by simp;omega,by simp [h3],fun v hv=>?_,fun k r' ops' hk1 hk2=>?_⟩,?_⟩
   .rcases zK4.1 hv with hv | hv
    .exact h4 v hv
    .simp at hv;subst hv;exact ⟨g2,g3⟩
   .rcases zLh k regs.length with hlt | hge
    .rw [zLb hlt] at hk1;rw [zLb (by omega)] at hk2;exact h5 k r' ops' hk1 hk2
    .rw [zLg hge] at hk1;rw [zLg (by omega),<-h3] at hk2;have hk0:k-regs.length=0:=by
      have:=(zKO.1 hk1).1;simpa using this
     rw [hk0] at hk1 hk2;simp at hk1 hk2;subst hk1;subst hk2;exact ⟨f2,f3⟩
   .show (s15-(i+1)).toNat<(s15-i).toNat;omega
  .rw [zc hi];exact ⟨_,rfl,regs,progs,rfl,by omega,h3,h4,h5⟩
theorem zIW (l:List (BitVec 8)):∃p,zdg l=some (p,())/\zI p:=by
 rw [zpV,zq];obtain ⟨m,em,hl⟩:∃m,cut l 0 (if 90<(l.length:Int) then 90 else (l.length:Int))=some m/\m.length<=90:=by
  unfold cut;by_cases h:90<(l.length:Int)
  .have h2:(90:Int)<=l.length:=by omega
   rw [zb h];exact ⟨l.take 90,by simp [h2],List.length_take_le _ _⟩
  .rw [zc h];exact ⟨l,by simp,by omega⟩
 rw [em,zKE];obtain ⟨b1,m1,e1,r1,k1⟩:=Zs (m:=⟨m,0⟩) ⟨by simp,by simp,hl⟩;obtain ⟨b2,m2,e2,r2,k2⟩:=Zs k1;obtain ⟨b3,m3,e3,r3,k3⟩:=Zs k2;obtain ⟨b4,m4,e4,r4,k4⟩:=Zs k3;obtain ⟨b5,m5,e5,r5,k5⟩:=Zs k4;obtain ⟨b6,m6,e6,r6,k6⟩:=Zs k5;obtain ⟨b7,m7,e7,r7,k7⟩:=Zs k6;obtain ⟨b8,m8,e8,r8,k8⟩:=Zs k7;obtain ⟨b9,m9,e9,r9,k9⟩:=Zs k8;obtain ⟨b10,m10,e10,r10,k10⟩:=Zs k9;simp only [e1,e2,e3,e4,e5,e6,e7,e8,e9,e10,zKE];have t1:=uP r1.1 (show (0:Int)<3 by omega);have t2:=uP r2.1 (show (0:Int)<3 by omega);have t3:=uP r3.1 (show (0:Int)<3 by omega);have t4:=uP r4.1 (show (0:Int)<2 by omega);have t5:=uP r5.1 (show (0:Int)<3 by omega);have t6:=uP r6.1 (show (0:Int)<4 by omega);have t7:=uP r7.1 (show (0:Int)<4 by omega);have t8:=uP r8.1 (show (0:Int)<2 by omega);have t9:=uP r9.1 (show (0:Int)<6 by omega);have t10:=uP r10.1 (show (0:Int)<4 by omega);rw [ya (a:=1+b9.tmod 6) (by omega) (by omega),ya (a:=1+b1.tmod 3) (by omega) (by omega),ya (a:=1+b3.tmod 3) (by omega) (by omega),ya (a:=1+b4.tmod 2) (by omega) (by omega),ya (a:=1+b5.tmod 3) (by omega) (by omega),
  ya (a:=1+b9.tmod 6+b10.tmod 4) (by omega) (by omega),ya (a:=1+b8.tmod 2) (by omega) (by omega)]
 obtain ⟨m11,objs,e11,g1,g2,g3⟩:=zIR (s1:=1+b9.tmod 6) (s22:=1+b8.tmod 2) (by omega) (by omega) k10;rw [e11];simp only [zKE];obtain ⟨b12,m12,e12,r12,k12⟩:=Zs g1;rw [e12,zKE,ya (a:=1+b9.tmod 6+1) (by omega) (by omega),zq,zi];have t12:=uP r12.1 (show (0:Int)<1+b9.tmod 6+1 by omega);rw [zhS,zKE];obtain ⟨regs,progs,e13,f1,f2,f3,f4⟩:=zG7 (s1:=1+b9.tmod 6) (s15:=b2.tmod 3) (s22:=1+b8.tmod 2) (by omega) (by omega) (by omega) k12;rw [e13];simp only [zKE];refine ⟨_,rfl,?_⟩;constructor<;>dsimp only
 case objs=>intro o ho;rw [g2];exact g3 o ho
 case roots=>exact ⟨b12.tmod (1+b9.tmod 6+1),by omega,by omega,by simp⟩
 case reg=>rw [g2];exact f3
 case prog=>exact f4
 all_goals first | omega | rfl
end B20
theorem zcM {α β B C:Type}{f:List α×Int×Int×β->Option (yM (List α×Int×Int×β) B C)}{l:List α}{e:β}{b:B}(hl:l.length<1000000)
  (h1:∀(i:Nat) (x:α),l[i]? =some x->f (l,(l.length:Int),(i:Int),e)=some (.again (l,(l.length:Int),((i+1:Nat):Int),e)))
  (h2:f (l,(l.length:Int),(l.length:Int),e)=some (.brk b)):yc f (l,(l.length:Int),0,e)=some (.brk b):=by
 refine (vm (f:=f) (fun a=>∃i:Nat,a=(l,(l.length:Int),(i:Int),e)/\i<=l.length) (fun a=>l.length-a.2.2.1.toNat) (fun o=>o= .brk b) ?_ (l,(l.length:Int),0,e) ⟨0,rfl,by omega⟩ (ub (by simp;omega))).elim fun o h=>?_;rotate_left
 .rw [h.1,h.2]
 .rintro _ ⟨i,rfl,hi⟩;rcases zLh i l.length with hlt | hge
  .refine ⟨_,h1 i _ (zKG hlt),⟨i+1,rfl,hlt⟩,?_⟩;show l.length-((i+1:Nat):Int).toNat<l.length-(i:Int).toNat;omega
  .have:i=l.length:=by omega
   subst this;exact ⟨_,h2,rfl⟩
theorem xz {α:Type}{l:List α}{i:Nat}{x:α}(h:l[i]? =some x):idx l (i:Int)=some x:=by
 rw [vX];simpa using h
theorem ziJ {α:Type}{l:List α}{i:Nat}{x:α}(h:l[i]? =some x):(i:Int)<(l.length:Int):=by
 have:=(zKO.1 h).1;omega
theorem yV {i:Nat}(h:i<1000000:=by omega):w64 ((i:Int)+1)=((i+1:Nat):Int):=by
 rw [ya];omega
theorem zim (a b c:Int):Zh a b c=some (decide (b<=a/\a<=c),()):=by
 rw [zvh,zq];by_cases h:b<=a
 .rw [zb h];simp [h]
 .rw [zc h];simp [h]
theorem zEd {l:List Int}{h:zr}(hl:l.length<1000000) (hv:∀v∈l,0<=v/\v<=(h.Objs.length:Int)):wQ l h=some (false,()):=by
 rw [Wa,W4,zcM (b:=()) hl (fun i x hx=>?_) (by rw [uF];simp)]
 .rfl
 .have hm:=hv x (zKK hx);have hlt:=ziJ hx;rw [uF,zq,zb hlt,xz hx,zKE,zro,zq,zc (show ¬x<0 by omega),zKE,yV];simp [show ¬(h.Objs.length:Int)<x by omega]
theorem zGk {l:List Int}{n:Int}(hl:l.length<1000000) (hv:∀v∈l,0<=v/\v<=n):va l n=some (false,()):=by
 rw [WP,VB,zcM (b:=()) hl (fun i x hx=>?_) (by rw [uM];simp)]
 .rfl
 .have hm:=hv x (zKK hx);have hlt:=ziJ hx;rw [uM,xz hx,zKE,ztG,zim,zKE,zKE,yV,zq,zb hlt];simp [hm]
theorem zyN {l:List (List Int)}{h:zr}(hl:l.length<1000000) (hs:h.Slots<1000000) (hv:∀o∈l,(o.length:Int)=h.Slots/\∀v∈o,0<=v/\v<=(h.Objs.length:Int)):wK l h=some (false,()):=by
 rw [Wg,WS,zcM (b:=()) hl (fun i x hx=>?_) (by rw [uC];simp)]
 .rfl
 .have hm:=hv x (zKK hx);have hlt:=ziJ hx;rw [uC,xz hx,zKE,ztq,yq,zb hm.1,zEd (by omega) hm.2,zKE,zKE,yV,zq,zb hlt];rfl
theorem zvz {r n:Int}(h:0<=r/\r<n) (h2:n<=4):yv r n=some (true,()):=by
 rw [ztL,zq,zb h.1,zq];rw [zi];simp [h.2]
theorem zHp {o:zE}{regs slots:Int}(h:zlW o regs slots) (h2:regs<=4) (h3:slots<=4):zlw o regs slots=some (true,()):=by
 obtain ⟨hr,h⟩:=h;have e1:=zvz hr h2;have h4: ¬4<slots:=by omega
 rw [zwo];rcases h with ⟨hk | hk,ha,hs⟩ | ⟨hk,ha,hs⟩ | ⟨hk | hk,ha,hs⟩
 .have e2:=zvz ha h2;simp [hk,e1,e2,hs.1,hs.2,h4]
 .have e2:=zvz ha h2;simp [hk,e1,e2,hs.1,hs.2,h4]
 .have e2:=zvz ha h2;simp [hk,e1,e2,hs]
 .simp [hk,e1,ha,hs]
 .simp [hk,e1,ha,hs]
theorem zIc {l:List zE}{regs slots:Int}(hl:(l.length:Int)<=64) (h:∀o∈l,zlW o regs slots) (h2:regs<=4) (h3:slots<=4):zod l regs slots=some (true,()):=by
 rw [zxr,zq,zb hl,Y4,XE,zcM (b:=()) (by omega) (fun i x hx=>?_) (by rw [vH];simp)]
 .rfl
 .have hlt:=ziJ hx;rw [vH,xz hx,zKE,zuC,zHp (h x (zKK hx)) h2 h3,zKE,zKE,yV,zq,zb hlt];rfl
theorem zGq (a b:Int):zlx [] a b=some (true,()):=by
 rw [zwN,Yt,YU,zcM (b:=()) (by simp) (fun i x hx=>by simp at hx) (by rw [Yu];simp)];rfl
def xK (n:Int):BitVec 64:=if n<1 then 0#64 else 18446744073709551615#64 >>> (64-min n 64).toNat
theorem zeZ (n:Int) (h:0<=n):Ut n=some (xK n,()):=by
 rw [zxJ,zq];unfold xK;by_cases h1:n<1
 .rw [zb h1,zb h1]
 .rw [zc h1,zc h1];simp only [zq];have e:(if 64<n then (64:Int) else n)=min n 64:=by
   by_cases h2:64<n
   .rw [zb h2];omega
   .rw [zc h2];omega
  rw [e,ya,zi,Nat.min_eq_left (by omega)]
theorem zzd:∀(r n:Fin 7),r.1<=n.1->bit (r.1:Int)&&& ~~~xK (n.1:Int)=0#64:=by decide
theorem ztX {p:zd}(h:zI p):p.Roots&&& ~~~xK (p.H.Objs.length:Int)=0#64:=by
 obtain ⟨r,h1,h2,h3⟩:=h.roots;have hn:=h.n;have:=zzd ⟨r.toNat,by omega⟩ ⟨p.H.Objs.length,by omega⟩ (by show r.toNat<=p.H.Objs.length;omega);rw [h3];simpa [Int.toNat_of_nonneg h1] using this
theorem zD1 {p:zd}(h:zI p):zdj p=some (true,()):=by
 obtain ⟨h1,h2,h3,h4,h5,h6,h7,_⟩:=h;rw [zql];simp only [zim,zKE,zq];rw [yf,yf,yf,yf,yf,zb (by split<;>omega)];have:(if p.Price<p.Limit then p.Limit else p.Price)<=1000000:=by split<;>omega
 simp [this]
theorem zEk {p:zd}(h:zI p):Xq p.H=some (true,()):=by
 have:=h.slots;have:=h.n;rw [znU,zq,yf,zq,yf,zq,yf,zyN (by omega) (by omega) h.objs];rfl
theorem zD8 {p:zd}(h:zI p):zlD p=some (true,()):=by
 have hn:=h.n;have hm:=h.most;have hsl:=h.slots;have hmt:=h.mt;have hrl:=h.regs;have hpl:=h.progs;rw [zvx,zD1 h];simp only [zKE,zKY,zM,zEk h,zim];rw [show decide ((p.H.Objs.length:Int)<=p.Most/\p.Most<=64)=true by simp;omega];simp only [zKY,zM,zeZ _ (show (0:Int)<=(p.H.Objs.length:Int) by omega),zKE,WN,ztX h,decide_true,yq,zb h.regs,zb h.progs];rw [zcM (b:=(p,())) (by omega) (fun i x hx=>?_) (by rw [ziG];simp)]
 .simp [h.picks,zGq]
 .have hlt:=ziJ hx;have hr:=h.reg x (zKK hx);obtain ⟨ops,hops⟩:∃ops,p.Progs[i]? =some ops:=⟨_,zKG (by omega)⟩
  obtain ⟨o1,o2⟩:=h.prog i x ops hx hops;rw [ziG,zq,zb hlt,xz hx];simp only [zKE,zim];rw [show decide (1<=(x.length:Int)/\(x.length:Int)<=4)=true by simp;omega];simp only [zKY,zM,zGk (show x.length<1000000 by omega) hr.2,zKE,xz hops,zIc (show (ops.length:Int)<=64 by omega) o2 (show (x.length:Int)<=4 by omega) (show p.H.Slots<=4 by omega),yV (show i<1000000 by omega)]
theorem zlS {n:Int}(h:0<=n) (h2:n<4294967296):Vn n=some n.toNat:=by rw [znP];simp [h,h2]
theorem zy4 {n:Int}(h:0<n) (h2:n<4294967296):ziY n=some n.toNat:=by rw [zw2];simp [h,h2]
def UY (l:List Int):BitVec 64:=l.foldl (fun s o=>s|||bit o) 0#64
def uN (p:zd):BitVec 64:=p.Regs.foldl (fun s l=>s|||UY l) p.Roots
def zH6 (a1:BitVec 64):BitVec 64 :=
 let a:=((a1 >>> 1)&&&6148914691236517205#64)+(a1&&&6148914691236517205#64);let b:=((a >>> 2)&&&3689348814741910323#64)+(a&&&3689348814741910323#64);let c:=((b >>> 4)+b)&&&1085102592571150095#64;let d:=c+(c >>> 8);let e:=d+(d >>> 16)
 e+(e >>> 32)
def cnt (s:BitVec 64):Int:=(BitVec.ofInt 64 (zH6 s).toInt&&&BitVec.ofInt 64 127).toInt
theorem zns (s:BitVec 64):zbv s=some (cnt s,()):=by
 rw [zxp,zpi,zAY];rfl
theorem Wz {m:List Int}(h:m.length<4294967296):yZ m=some (m,()):=by
 rw [zjO,zKP,yR h,zKE];cases m with
 | nil=>simp [zeG]
 | cons a l=>simp
theorem zB8 {l:List Int}(hl:l.length<1000000):zhx l=some (UY l,()):=by
 rw [zCz];refine (vm (f:=zoh) (fun a=>∃i:Nat,a=((l.take i).foldl (fun s o=>s|||bit o) 0#64,l,(l.length:Int),(i:Int),())/\i<=l.length) (fun a=>l.length-a.2.2.2.1.toNat) (fun o=>o= .brk (UY l,())) ?_ (0#64,l,(l.length:Int),0,()) ⟨0,rfl,by omega⟩ (ub (by simp;omega))).elim fun o h=>?_;rotate_left
 .rw [h.1,h.2];rfl
 .rintro _ ⟨i,rfl,hi⟩;rw [zxm,zq];rcases zLh i l.length with hlt | hge
  .have hx:=zKG hlt;rw [yf,xz hx,zKE,zhS,zKE,yV];refine ⟨_,rfl,⟨i+1,?_,hlt⟩,?_⟩
   .rw [zLZ,hx];simp only [Option.toList_some,List.foldl_append,zLv,List.foldl_nil]
   .show l.length-((i+1:Nat):Int).toNat<l.length-(i:Int).toNat;omega
  .rw [zi];have:i=l.length:=by omega
   subst this;exact ⟨_,rfl,by rw [zMk];rfl⟩
theorem zwG {p:zd}(hl:p.Regs.length<1000000) (hr:∀r∈p.Regs,r.length<1000000):zfO p=some (uN p,()):=by
 rw [zwt];refine (vm (f:=zfx) (fun a=>∃i:Nat,a=((p.Regs.take i).foldl (fun s l=>s|||UY l) p.Roots,p.Regs,(p.Regs.length:Int),(i:Int),())/\i<=p.Regs.length) (fun a=>p.Regs.length-a.2.2.2.1.toNat) (fun o=>o= .brk (uN p,())) ?_ (p.Roots,p.Regs,(p.Regs.length:Int),0,()) ⟨0,rfl,by omega⟩ (ub (by simp;omega))).elim fun o h=>?_;rotate_left
 .rw [h.1,h.2];rfl
 .rintro _ ⟨i,rfl,hi⟩;rw [zsP,zq];rcases zLh i p.Regs.length with hlt | hge
  .have hx:=zKG hlt;rw [yf,xz hx,zKE,zB8 (hr _ (zK1 hlt)),zKE,yV];refine ⟨_,rfl,⟨i+1,?_,hlt⟩,?_⟩
   .rw [zLZ,hx];simp only [Option.toList_some,List.foldl_append,zLv,List.foldl_nil]
   .show p.Regs.length-((i+1:Nat):Int).toNat<p.Regs.length-(i:Int).toNat;omega
  .rw [zi];have:i=p.Regs.length:=by omega
   subst this;exact ⟨_,rfl,by rw [zMk];rfl⟩
theorem zGm {l:List (List Int)}(hl:l.length<1000000) (h:∀r∈l,r.length<1000000):vQ l=some (l,()):=by
 have key:∀n:Int,n=(l.length:Int)->yc xm (n,0,l,())=some (.brk (l,())):=by
  rintro _ rfl;refine (vm (f:=xm) (fun a=>∃i:Nat,a=((l.length:Int),(i:Int),l,())/\i<=l.length) (fun a=>l.length-a.2.1.toNat) (fun o=>o= .brk (l,())) ?_ ((l.length:Int),0,l,()) ⟨0,rfl,by omega⟩ (ub (by simp;omega))).elim fun o h=>?_;rotate_left
  .rw [h.1,h.2]
  .rintro _ ⟨i,rfl,hi⟩;rw [Vc,zq];rcases zLh i l.length with hlt | hge
   .have hx:=zKG hlt;have hr:=h _ (zK1 hlt);have e:wg l (i:Int)=some i:=by rw [vR];simp
    rw [yf,e];simp only [zKE];rw [hx,zKE,Wz (by omega),zKE,yV];refine ⟨_,rfl,⟨i+1,by simp,hlt⟩,?_⟩;show l.length-((i+1:Nat):Int).toNat<l.length-(i:Int).toNat;omega
   .rw [zi];have:i=l.length:=by omega
    subst this;exact ⟨_,rfl,rfl⟩
 have hc:Vn (l.length:Int)=some l.length:=by rw [zlS (by omega) (by omega)];simp
 rw [V6];simp only [decide_true,zA,hc,zKE,zLl];cases l with
 | nil=>simp;rw [key 0 rfl];rfl
 | cons a r=>simp only [List.isEmpty_cons,zM];rw [key _ rfl];rfl
def ziI (cap:Int):List (BitVec 64):=[1#64,1#64]++List.replicate cap.toNat 0#64
theorem zCE {c:Int}(h:1<=c) (h2:c<=64):zjq c=some (ziI c,()):=by
 have e:(if 64<(if c<1 then (1:Int) else c) then (64:Int) else (if c<1 then (1:Int) else c))=c:=by
  rw [zc (show ¬c<1 by omega),zi]
 have w:w64 (2+c)=2+c:=ya;have hc:Vn (2+c)=some (2+c.toNat):=by rw [zlS (by omega) (by omega)];congr 1;omega
 rw [zuD];simp only [zq,e,w,if_true,hc,zKE];rw [vR (by omega) (by simp;omega),zKE,vR (by omega) (by simp;omega),zKE];have e2:List.replicate (2+c.toNat) 0#64=0#64::0#64::List.replicate c.toNat 0#64:=by rw [Nat.add_comm 2];rfl
 rw [e2];rfl
theorem zEg {m:Int}(h:0<=m) (h2:m<=16):zlT m=some (⟨0,0,0,List.replicate m.toNat 0⟩,()):=by
 have e:(if (if 16<m then (16:Int) else m)<0 then (0:Int) else (if 16<m then (16:Int) else m))=m:=by
  rw [zc (show ¬16<m by omega),zi]
 have hc:Vn m=some m.toNat:=zlS (by omega) (by omega);rw [zwU];simp only [zq,e,if_true,hc,zKE]
def links (m:List (BitVec 64)) (next:Int):List Int->List (BitVec 64)
 | []=>m
 | [a]=>st m (wc (next+a)) 0#64
 | a::b::l=>links (st m (wc (next+a)) (BitVec.ofInt 64 b)) next (b::l)
def zeq (m:List (BitVec 64)) (head next:Int) (l:List Int):List (BitVec 64):=st (links m next l) head (xP 0#64 (l.headD 0))
theorem YH (m:List (BitVec 64)) (a:Int) (v:BitVec 64):(st m a v).length=m.length:=by unfold st;split<;>simp
theorem zeQ:∀(l:List Int) (m:List (BitVec 64)) (n:Int),(links m n l).length=m.length
 | [],_,_=>rfl
 | [a],m,n=>YH _ _ _
 | a::b::l,m,n=>by simp only [links];rw [zeQ (b::l),YH]
theorem zvj (m:List (BitVec 64)) (h n:Int) (l:List Int):(zeq m h n l).length=m.length:=by unfold zeq;rw [YH,zeQ]
theorem zuS {head next:Int}{l:List Int}(hl:l.length<1000000):∀(k:Nat) (m:List (BitVec 64)) (i:Nat),l.length-i=k->i<=l.length->m.length<4294967296 ->
  ∀n,k<n->yY zhc n (m,head,next,l,(l.length:Int),(i:Int),())=some (.brk (links m next (l.drop i),head,l,()))
 | 0,m,i,hk,hi,hm,n+1,hn=>by
  have:i=l.length:=by omega
  subst this;simp only [yY];rw [zkd,zq,zi,zKE,List.drop_length];rfl
 | k+1,m,i,hk,hi,hm,n+1,hn=>by
  have hlt:i<l.length:=by omega
  have hx:=zKG hlt;simp only [yY];rw [zkd,zq,yf,yV,zq,xT];by_cases h2:i+1<l.length
  .have hy:=zKG h2;have ed:l.drop i=l[i]::l[i+1]::l.drop (i+2):=by
    rw [zLm hlt,zLm h2]
   rw [yf,xz hy,zKE,xz hx,zKE,zdL hm,zKE,zKE];dsimp only;rw [zuS hl k _ (i+1) (by omega) (by omega) (by rw [YH];exact hm) n (by omega),ed];rw [zLm h2];rfl
  .have ed:l.drop i=[l[i]]:=by
    rw [zLm hlt,zMf (by omega)]
   rw [zi,xz hx,zKE,zdL hm,zKE,zKE];dsimp only;rw [zuS hl k _ (i+1) (by omega) (by omega) (by rw [YH];exact hm) n (by omega),ed,zMf (by omega)];rfl
theorem zy3 {m:List (BitVec 64)}(hm:m.length<4294967296) {head next:Int}{l:List Int}(hl:l.length<1000000):zie m head next l=some (zeq m head next l,()):=by
 have e:=zuS (head:=head) (next:=next) hl l.length m 0 (by omega) (by omega) hm vW (ub (by omega));rw [show ((0:Nat):Int)=0 from rfl] at e;rw [zyv,Xe,e];simp only [zKE,List.drop_zero,zq];unfold zeq;cases l with
 | nil =>
  rw [zc (by simp),zkE,zKE,zdL (by rw [zeQ];exact hm)];rfl
 | cons a r =>
  have:idx (a::r) 0=some a:=by rw [vX];rfl
  rw [zb (by simp),this,zKE,zkE,zKE,zdL (by rw [zeQ];exact hm)];rfl
def zqz:Nat->BitVec 64->Option (List Int)
 | 0,_=>none
 | f+1,s=>bif decide (s=0#64) then some [] else (zqz f (s&&&(s-1#64))).map fun l=>(((Go.Lib.ctz 64 s.toNat:Nat):Int)+1)::l
theorem zCC:∀t:Fin 64,zqz 66 (BitVec.ofNat 64 t.1)=some (((List.range 6).filter fun i=>(BitVec.ofNat 64 t.1).getLsbD i).map fun i:Nat=>(i:Int)+1):=by decide +kernel
def Vq (s:BitVec 64):List Int:=((List.range 6).filter fun i=>s.getLsbD i).map fun i:Nat=>(i:Int)+1
theorem zCb {s:BitVec 64}(h:s&&& ~~~63#64=0#64):∃t:Fin 64,s=BitVec.ofNat 64 t.1:=by
 have h2:s=s&&&63#64:=by
  apply zL9;intro i hi;have:=congrArg (fun x=>x.getLsbD i) h;simp only [zLT,zMm,hi,decide_true,zLD,zMa] at this ⊢;cases h1:s.getLsbD i<;>cases h3:(63#64:BitVec 64).getLsbD i<;>simp_all
 have h3:s.toNat<64:=by
  rw [h2,zLK];exact zMn Nat.and_le_right (by decide)
 exact ⟨⟨s.toNat,h3⟩,by simp⟩
theorem zKd:∀t:Fin 64,Go.Lib.ctz 64 t.1<=64:=by decide +kernel
theorem zy8:∀(f:Nat) (s:BitVec 64),s.toNat<64->zal f s=zqz f s
 | 0,_,_=>rfl
 | f+1,s,h=>by
  simp only [zal,zqz];rw [zy8 f _ (by rw [zLK];exact zMn Nat.and_le_left h)];have:Go.Lib.ctz 64 s.toNat<=64:=zKd ⟨s.toNat,h⟩;have e:w64 (tz s+1)=((Go.Lib.ctz 64 s.toNat:Nat):Int)+1:=by
   unfold tz;exact ya
  rw [e]
theorem zqq:∀(l acc:List Int),(acc.length+l.length)<4294967296->ZX zjB l (acc,())=some (acc++l,())
 | [],acc,_=>by simp [ZX]
 | a::l,acc,h=>by
  simp only [zKV] at h;rw [ZX,zuu,yR (by simp;omega),zKE,zKE,zqq l _ (by simp;omega)];simp
theorem zGu (s:BitVec 64):(Vq s).length<=6:=by
 unfold Vq;rw [zLA];exact zLM (zLS _ _) (by simp)
theorem zHv {s:BitVec 64}(h:s&&& ~~~63#64=0#64):zfE s=some (Vq s,()):=by
 obtain ⟨t,rfl⟩:=zCb h;have e:zmE (BitVec.ofNat 64 t.1)=some (Vq (BitVec.ofNat 64 t.1)):=by
  show zal 66 _=_;rw [zy8 66 _ (by simp;omega),zCC t];rfl
 have:=zGu (BitVec.ofNat 64 t.1);rw [zqZ,zra,zKE,e,zKE,zqq _ _ (by simp;omega)];rfl
theorem zvu (n:Nat) (hn:1<=n):∀(f:Nat) (l:List Int),(um n f l).length<=l.length
 | 0,l=>by simp [um]
 | f+1,[]=>by simp [um]
 | f+1,x::l=>by
  have:=zvu n hn f ((x::l).drop n);simp only [um,zKV,zLW] at this ⊢;omega
theorem zob (n:Nat):∀(f:Nat) (l c:List Int),c∈um n f l->c.length<=l.length
 | 0,l,c,h=>by simp [um] at h
 | f+1,[],c,h=>by simp [um] at h
 | f+1,x::l,c,h=>by
  simp only [um,zKW] at h;rcases h with rfl | h
  .rw [zLQ];exact Nat.min_le_right _ _
  .have:=zob n f _ c h;simp only [zLW] at this;omega
def uA (p:zd) (w:Nat):zj:=⟨0,0,0,(w:Int)+1,0,[],⟨2,0,z6 p ((w:Int)+1),p.Cap,0#64,0#64,0,0⟩,⟨0,0,0,0,0#64,0,0,0⟩,⟨0,0,0,0,⟨0,0,0,0,0#64,0#64,0,0⟩,⟨0,0,0,0,0#64,0,0,0⟩,0,0⟩⟩
def XB (p:zd) (k:Nat):List (BitVec 64):=(List.range k).flatMap fun _=>ziI p.Cap
theorem zwl (c:Int):(ziI c).length=c.toNat+2:=by unfold ziI;rw [zKS,zLl];exact Nat.add_comm _ _
theorem zon (p:zd) (k:Nat):XB p (k+1)=XB p k++ziI p.Cap:=by unfold XB;rw [zL2,zL3];simp
theorem zaS (p:zd):∀k,(XB p k).length=k*(p.Cap.toNat+2)
 | 0=>by simp [XB]
 | k+1=>by rw [zon,zKS,zaS p k,zwl,Nat.succ_mul]
theorem zJu {p:zd}{s1:BitVec 64}{s5:Int}{s6:Int}{s7:Int}{s8:Int}{s9:Int}{s10:Int}{s11:Int}{s12:Int}{s13:Int}{s14:BitVec 64}{s15:Int}{s16:zn}{s17:Int}{s18:Int}{s19:Bool}{s20:Bool}{s21:Int}{s22:Int}{s23:Int}{s24:Int}{s25:zN}{s26:zd}{s27:Int}{s28:zn}{s29:Int}{s30:Int}{s31:Bool}{s32:Bool}{s33:Int}{s34:zx}{s35:zN}{s36:List (List Int)}{s37:List (List Int)}{s38:List (List zE)}{s39:List zk}{s40:List (List Int)}{s41:List (BitVec 64)}{s42:List (List Int)}{s43:List Int}{s44:List Int}{s45:List zj}{s46:List ze}{s47:List (List Int)}{s49:List (List Int)}{s50:List Int}{s52:List ze}(hp:zI p) :
  yc zcO (s1,p.Workers,0,p,s5,s6,s7,s8,s9,s10,s11,s12,s13,s14,s15,s16,s17,s18,s19,s20,s21,s22,s23,s24,s25,s26,s27,s28,s29,s30,s31,s32,s33,s34,s35,s36,s37,s38,s39,s40,s41,s42,s43,s44,s45,s46,s47,[],s49,s50,[],s52,())=some (.brk (s1,p,s5,s6,s7,s8,s9,s10,s11,s12,s13,s14,s15,s16,s17,s18,s19,s20,s21,s22,s23,s24,s25,s26,s27,s28,s29,s30,s31,s32,s33,s34,s35,s36,s37,s38,s39,s40,s41,s42,s43,s44,s45,s46,s47,(XB p p.Workers.toNat),s49,s50,((List.range p.Workers.toNat).map (uA p)),s52,())):=by
 have hw:=hp.wk;have hc:=hp.cap;refine (vm (f:=zcO) (fun a=>∃i:Nat,a=(s1,p.Workers,(i:Int),p,s5,s6,s7,s8,s9,s10,s11,s12,s13,s14,s15,s16,s17,s18,s19,s20,s21,s22,s23,s24,s25,s26,s27,s28,s29,s30,s31,s32,s33,s34,s35,s36,s37,s38,s39,s40,s41,s42,s43,s44,s45,s46,s47,(XB p i),s49,s50,((List.range i).map (uA p)),s52,())/\(i:Int)<=p.Workers) (fun a=>(p.Workers-a.2.2.1).toNat) (fun o=>o= .brk (s1,p,s5,s6,s7,s8,s9,s10,s11,s12,s13,s14,s15,s16,s17,s18,s19,s20,s21,s22,s23,s24,s25,s26,s27,s28,s29,s30,s31,s32,s33,s34,s35,s36,s37,s38,s39,s40,s41,s42,s43,s44,s45,s46,s47,(XB p p.Workers.toNat),s49,s50,((List.range p.Workers.toNat).map (uA p)),s52,())) ?_ (s1,p.Workers,0,p,s5,s6,s7,s8,s9,s10,s11,s12,s13,s14,s15,s16,s17,s18,s19,s20,s21,s22,s23,s24,s25,s26,s27,s28,s29,s30,s31,s32,s33,s34,s35,s36,s37,s38,s39,s40,s41,s42,s43,s44,s45,s46,s47,[],s49,s50,[],s52,()) ⟨0,rfl,by omega⟩ (ub (by dsimp only;omega))).elim fun o h=>?_;rotate_left
 .rw [h.1,h.2]
 .rintro _ ⟨i,rfl,hi⟩;rw [ztC,zq];by_cases hlt:(i:Int)<p.Workers
  .have hl:=zaS p i;have hl2:=zwl p.Cap;have hb:i*(p.Cap.toNat+2)<=3*5:=zL4 (by omega) (by omega);rw [zb hlt,zCE hc.1 (by omega),zKE,yR (l:=XB p i++ziI p.Cap) (by rw [zKS];omega),zKE,zbt,zKE,zaN,zKE,yR (by simp<;>omega),zKE,yV];refine ⟨_,rfl,⟨i+1,?_,by omega⟩,?_⟩
   .rw [zon,zL2,List.map_append];rfl
   .show (p.Workers-((i+1:Nat):Int)).toNat<(p.Workers-(i:Int)).toNat;omega
  .rw [zc hlt];have:i=p.Workers.toNat:=by omega
   subst this;exact ⟨_,rfl,rfl⟩
def wa (k:Nat):List Int:=(List.range k).map fun i:Nat=>(i:Int)+1
theorem zBi (k:Nat):(wa k).length=k:=by simp [wa]
theorem zIG {b:Int}{s1:BitVec 64}{s4:zd}{s5:Int}{s6:Int}{s7:Int}{s8:Int}{s9:Int}{s10:Int}{s11:Int}{s12:Int}{s13:Int}{s14:BitVec 64}{s15:Int}{s16:zn}{s17:Int}{s18:Int}{s19:Bool}{s20:Bool}{s21:Int}{s22:Int}{s23:Int}{s24:Int}{s25:zN}{s26:zd}{s27:Int}{s28:zn}{s29:Int}{s30:Int}{s31:Bool}{s32:Bool}{s33:Int}{s34:zx}{s35:zN}{s37:List (List Int)}{s38:List (List Int)}{s39:List (List zE)}{s40:List zk}{s41:List (List Int)}{s42:List (BitVec 64)}{s43:List (List Int)}{s44:List Int}{s45:List Int}{s46:List zj}{s47:List ze}{s48:List (List Int)}{s49:List (BitVec 64)}{s50:List (List Int)}{s51:List Int}{s52:List zj}{s53:List ze}(hb:0<=b/\b<1000) :
  yc zbY (s1,b,0,s4,s5,s6,s7,s8,s9,s10,s11,s12,s13,s14,s15,s16,s17,s18,s19,s20,s21,s22,s23,s24,s25,s26,s27,s28,s29,s30,s31,s32,s33,s34,s35,[],s37,s38,s39,s40,s41,s42,s43,s44,s45,s46,s47,s48,s49,s50,s51,s52,s53,())=some (.brk (s1,s4,s5,s6,s7,s8,s9,s10,s11,s12,s13,s14,s15,s16,s17,s18,s19,s20,s21,s22,s23,s24,s25,s26,s27,s28,s29,s30,s31,s32,s33,s34,s35,(wa b.toNat),s37,s38,s39,s40,s41,s42,s43,s44,s45,s46,s47,s48,s49,s50,s51,s52,s53,())):=by
 refine (vm (f:=zbY) (fun a=>∃i:Nat,a=(s1,b,(i:Int),s4,s5,s6,s7,s8,s9,s10,s11,s12,s13,s14,s15,s16,s17,s18,s19,s20,s21,s22,s23,s24,s25,s26,s27,s28,s29,s30,s31,s32,s33,s34,s35,(wa i),s37,s38,s39,s40,s41,s42,s43,s44,s45,s46,s47,s48,s49,s50,s51,s52,s53,())/\(i:Int)<=b) (fun a=>(b-a.2.2.1).toNat) (fun o=>o= .brk (s1,s4,s5,s6,s7,s8,s9,s10,s11,s12,s13,s14,s15,s16,s17,s18,s19,s20,s21,s22,s23,s24,s25,s26,s27,s28,s29,s30,s31,s32,s33,s34,s35,(wa b.toNat),s37,s38,s39,s40,s41,s42,s43,s44,s45,s46,s47,s48,s49,s50,s51,s52,s53,())) ?_ (s1,b,0,s4,s5,s6,s7,s8,s9,s10,s11,s12,s13,s14,s15,s16,s17,s18,s19,s20,s21,s22,s23,s24,s25,s26,s27,s28,s29,s30,s31,s32,s33,s34,s35,[],s37,s38,s39,s40,s41,s42,s43,s44,s45,s46,s47,s48,s49,s50,s51,s52,s53,()) ⟨0,rfl,by omega⟩ (ub (by dsimp only;omega))).elim fun o h=>?_;rotate_left
 .rw [h.1,h.2]
 .rintro _ ⟨i,rfl,hi⟩;rw [zsb,zq];by_cases hlt:(i:Int)<b
  .have:=zBi i;rw [zb hlt,yR (by rw [zKS];simp;omega),zKE,yV];refine ⟨_,rfl,⟨i+1,?_,by omega⟩,?_⟩
   .unfold wa;rw [zL2,List.map_append];rfl
   .show (b-((i+1:Nat):Int)).toNat<(b-(i:Int)).toNat;omega
  .rw [zc hlt];have:i=b.toNat:=by omega
   subst this;exact ⟨_,rfl,rfl⟩
theorem zDG {s1:zd}{s2:Int}{s3:Int}{s4:Int}{s5:Int}{s6:Int}{s7:Int}{s8:Int}{s9:Int}{s10:Int}{s11:BitVec 64}{s12:Int}{s13:zn}{s14:Int}{s15:Int}{s16:Bool}{s17:Bool}{s18:Int}{s19:Int}{s20:Int}{s21:Int}{s22:zN}{s23:zd}{s24:Int}{s25:zn}{s26:Int}{s27:Int}{s28:Bool}{s29:Bool}{s30:Int}{s31:zx}{s32:zN}{s33:List Int}{s34:List (List Int)}{s35:List (List Int)}{s36:List (List zE)}{s37:List zk}{s38:List (List Int)}{s39:List (BitVec 64)}{s40:List (List Int)}{s41:List Int}{s42:List Int}{s43:List zj}{s44:List ze}{s45:List (List Int)}{s46:List (BitVec 64)}{s48:List Int}{s49:List zj}{s50:List ze}:∀(ys acc:List (List Int)),acc.length+ys.length<1000000->(∀c∈ys,c.length<1000000)->ZX zfL ys (s1,s2,s3,s4,s5,s6,s7,s8,s9,s10,s11,s12,s13,s14,s15,s16,s17,s18,s19,s20,s21,s22,s23,s24,s25,s26,s27,s28,s29,s30,s31,s32,s33,s34,s35,s36,s37,s38,s39,s40,s41,s42,s43,s44,s45,s46,acc,s48,s49,s50,())=some (s1,s2,s3,s4,s5,s6,s7,s8,s9,s10,s11,s12,s13,s14,s15,s16,s17,s18,s19,s20,s21,s22,s23,s24,s25,s26,s27,s28,s29,s30,s31,s32,s33,s34,s35,s36,s37,s38,s39,s40,s41,s42,s43,s44,s45,s46,(acc++ys),s48,s49,s50,())
 | [],acc,_,_=>by simp [ZX]
 | y::ys,acc,h,hc=>by
  simp only [zKV] at h;have hy:=hc y (zK2 ..);rw [ZX,zrW,Wz (by omega),zKE,yR (by simp<;>omega),zKE,zKE,zDG ys _ (by simp<;>omega) (fun c h'=>hc c (zKN _ h'))];simp
def vq (r:List Int):ze:=⟨0,0,0,0,0,0,0,0,r,[],[],⟨0,0,0,0,0#64,0,0,0⟩,⟨0,0,0,0,⟨0,0,0,0,0#64,0#64,0,0⟩,⟨0,0,0,0,0#64,0,0,0⟩,0,0⟩⟩
theorem zIp {p:zd}{s4:Int}{s5:Int}{s6:Int}{s7:Int}{s8:Int}{s9:Int}{s10:Int}{s11:Int}{s12:Int}{s13:BitVec 64}{s14:Int}{s15:zn}{s16:Int}{s17:Int}{s18:Bool}{s19:Bool}{s20:Int}{s21:Int}{s22:Int}{s23:Int}{s24:zN}{s25:zd}{s26:Int}{s27:List (BitVec 64)}{s28:zn}{s29:Int}{s30:Int}{s31:Bool}{s32:Bool}{s33:Int}{s34:zx}{s35:zN}{s36:List (List Int)}{s37:List (List Int)}{s38:List (List zE)}{s39:List zk}{s40:List (List Int)}{s41:List (BitVec 64)}{s42:List (List Int)}{s43:List Int}{s44:List Int}{s45:List zj}{s46:List ze}{s47:List (List Int)}{s48:List (List Int)}{s49:List Int}{s50:List zj}(hl:p.Regs.length<1000000) (hr:∀r∈p.Regs,r.length<1000000) :
  yc zb2 (p.Regs,(p.Regs.length:Int),0,s4,s5,s6,s7,s8,s9,s10,s11,s12,s13,s14,s15,s16,s17,s18,s19,s20,s21,s22,s23,s24,s25,s26,s27,s28,s29,s30,s31,s32,s33,s34,s35,s36,s37,s38,s39,s40,s41,s42,s43,s44,s45,s46,s47,s48,s49,s50,[],())=some (.brk (s4,s5,s6,s7,s8,s9,s10,s11,s12,s13,s14,s15,s16,s17,s18,s19,s20,s21,s22,s23,s24,s25,s26,s27,s28,s29,s30,s31,s32,s33,s34,s35,s36,s37,s38,s39,s40,s41,s42,s43,s44,s45,s46,s47,s48,s49,s50,(p.Regs.map vq),())):=by
 refine (vm (f:=zb2) (fun a=>∃i:Nat,a=(p.Regs,(p.Regs.length:Int),(i:Int),s4,s5,s6,s7,s8,s9,s10,s11,s12,s13,s14,s15,s16,s17,s18,s19,s20,s21,s22,s23,s24,s25,s26,s27,s28,s29,s30,s31,s32,s33,s34,s35,s36,s37,s38,s39,s40,s41,s42,s43,s44,s45,s46,s47,s48,s49,s50,((p.Regs.take i).map vq),())/\i<=p.Regs.length) (fun a=>p.Regs.length-a.2.2.1.toNat) (fun o=>o= .brk (s4,s5,s6,s7,s8,s9,s10,s11,s12,s13,s14,s15,s16,s17,s18,s19,s20,s21,s22,s23,s24,s25,s26,s27,s28,s29,s30,s31,s32,s33,s34,s35,s36,s37,s38,s39,s40,s41,s42,s43,s44,s45,s46,s47,s48,s49,s50,(p.Regs.map vq),())) ?_ (p.Regs,(p.Regs.length:Int),0,s4,s5,s6,s7,s8,s9,s10,s11,s12,s13,s14,s15,s16,s17,s18,s19,s20,s21,s22,s23,s24,s25,s26,s27,s28,s29,s30,s31,s32,s33,s34,s35,s36,s37,s38,s39,s40,s41,s42,s43,s44,s45,s46,s47,s48,s49,s50,[],()) ⟨0,rfl,by omega⟩ (ub (by dsimp only;omega))).elim fun o h=>?_;rotate_left
 .rw [h.1,h.2]
 .rintro _ ⟨i,rfl,hi⟩;rw [zsS,zq];rcases zLh i p.Regs.length with hlt | hge
  .have hx:=zKG hlt;have hh:=hr _ (zK1 hlt);rw [yf,xz hx,zKE,Wz (by omega),zKE,yR (by simp<;>omega),zKE,yV];refine ⟨_,rfl,⟨i+1,?_,hlt⟩,?_⟩
   .rw [zLZ,hx,List.map_append];rfl
   .show p.Regs.length-((i+1:Nat):Int).toNat<p.Regs.length-(i:Int).toNat;omega
  .rw [zi];have:i=p.Regs.length:=by omega
   subst this;exact ⟨_,rfl,by rw [zMk]⟩
def yg (p:zd):Nat:=(p.Most+p.Workers+p.Mutators).toNat
def xH (p:zd):List (List Int):=um p.Bin.toNat (Vq (uN p)).length (Vq (uN p))
def xF (p:zd):za :=
 {P:=p,H:=p.H,
  M:=zeq (zeq (XB p p.Workers.toNat++List.replicate (2+yg p) 0#64) (yr p) (zU p) ((wa (yg p)).take (xH p).length)) (zU p) (zU p) ((wa (yg p)).drop (xH p).length),
  Bins:=[[]]++xH p++List.replicate (yg p-(xH p).length) [],
  T:=⟨uN p,0#64⟩,Work:=cnt (uN p),Epoch:=0,Flag:=false,Done:=false,Restarts:=0,
  Acks:=List.replicate p.Mutators.toNat 0,L:=⟨0,0,0,List.replicate p.Mutators.toNat 0⟩,
  Ws:=(List.range p.Workers.toNat).map (uA p),Ms:=p.Regs.map vq,D:=⟨0,0⟩}
theorem zGB {r n:Int}(h:0<=r) (h2:r<=n) (h3:n<=6):bit r&&& ~~~xK n=0#64:=by
 have:=zzd ⟨r.toNat,by omega⟩ ⟨n.toNat,by omega⟩ (by show r.toNat<=n.toNat;omega);simpa [Int.toNat_of_nonneg h,Int.toNat_of_nonneg (show 0<=n by omega)] using this
theorem zAZ {a b c:BitVec 64}(ha:a&&& ~~~c=0#64) (hb:b&&& ~~~c=0#64):(a|||b)&&& ~~~c=0#64:=by
 apply zL9;intro i hi;have h1:=congrArg (fun x=>x.getLsbD i) ha;have h2:=congrArg (fun x=>x.getLsbD i) hb;simp only [zLT,BitVec.getLsbD_or,zMm,zMa,hi,decide_true,zLD] at h1 h2 ⊢;revert h1 h2;generalize a.getLsbD i=x;generalize b.getLsbD i=y;generalize c.getLsbD i=z;cases x<;>cases y<;>cases z<;>decide
theorem zEX {c:BitVec 64}{l:List Int}(h:∀o∈l,bit o&&& ~~~c=0#64):∀(z:BitVec 64),z&&& ~~~c=0#64->l.foldl (fun s o=>s|||bit o) z&&& ~~~c=0#64:=by
 induction l with
 | nil=>intro z hz;exact hz
 | cons a l ih=>intro z hz;exact ih (fun o ho=>h o (zKN _ ho)) _ (zAZ hz (h a (zK2 ..)))
theorem zoE {p:zd}(h:zI p):uN p&&& ~~~xK (p.H.Objs.length:Int)=0#64:=by
 have hn:=h.n;have key:∀(L:List (List Int)) (z:BitVec 64),(∀r∈L,∀v∈r,0<=v/\v<=(p.H.Objs.length:Int))->z&&& ~~~xK (p.H.Objs.length:Int)=0#64->L.foldl (fun s l=>s|||UY l) z&&& ~~~xK (p.H.Objs.length:Int)=0#64:=by
  intro L
  induction L with
  | nil=>intro z _ hz;exact hz
  | cons r L ih =>
   intro z hr hz;refine ih _ (fun r' h'=>hr r' (zKN _ h')) (zAZ hz (zEX (fun o ho=>?_) _ (by simp)));have:=hr r (zK2 ..) o ho;exact zGB this.1 this.2 hn.2
 exact key _ _ (fun r hr=>(h.reg r hr).2) (ztX h)
theorem zCL {a b c:BitVec 64}(h:a&&& ~~~b=0#64) (h2:b&&& ~~~c=0#64):a&&& ~~~c=0#64:=by
 apply zL9;intro i hi;have h1:=congrArg (fun x=>x.getLsbD i) h;have h2:=congrArg (fun x=>x.getLsbD i) h2;simp only [zLT,zMm,zMa,hi,decide_true,zLD] at h1 h2 ⊢;revert h1 h2;generalize a.getLsbD i=x;generalize b.getLsbD i=y;generalize c.getLsbD i=z;cases x<;>cases y<;>cases z<;>decide
theorem zCy:∀n:Fin 7,xK (n.1:Int)&&& ~~~63#64=0#64:=by decide
theorem zh5 {p:zd}(h:zI p):uN p&&& ~~~63#64=0#64:=by
 have hn:=h.n;refine zCL (zoE h) ?_;exact zCy ⟨p.H.Objs.length,by omega⟩
theorem zEI:∀(n:Fin 7) (t:Fin 64),BitVec.ofNat 64 t.1&&& ~~~xK (n.1:Int)=0#64->(Vq (BitVec.ofNat 64 t.1)).length<=n.1:=by decide +kernel
theorem znF {p:zd}(h:zI p):(Vq (uN p)).length<=p.H.Objs.length:=by
 have hn:=h.n;obtain ⟨t,ht⟩:=zCb (zh5 h);have h2:=zoE h;rw [ht] at h2 ⊢;exact zEI ⟨p.H.Objs.length,by omega⟩ t h2
theorem zp5 {p:zd}(h:zI p):(xH p).length<=p.H.Objs.length:=by
 have hb:=h.bin;exact zLM (zvu _ (by omega) _ _) (znF h)
theorem zzn {p:zd}(h:zI p):zii p=some (xF p,()):=by
 have hw:=h.wk;have hc:=h.cap;have hm:=h.mt;have hb:=h.bin;have hn:=h.n;have hmo:=h.most;have hrl:=h.regs;have hreg:∀r∈p.Regs,r.length<1000000:=fun r hr=>by have:=(h.reg r hr).1;omega
 have hobj:∀o∈p.H.Objs,o.length<1000000:=fun o ho=>by have:=(h.objs o ho).1;have:=h.slots;omega
 have hfl:=zp5 h;have hgl:=znF h;have hcl:=zaS p p.Workers.toNat;have hcb:p.Workers.toNat*(p.Cap.toNat+2)<=3*5:=zL4 (by omega) (by omega);have hbn:(yg p:Int)=p.Most+p.Workers+p.Mutators:=by unfold yg;omega
 have eb:zig p=some ((yg p:Int),()):=by
  rw [zxn,ya (a:=p.Most+p.Workers) (by omega) (by omega),ya,hbn]
 have hul:=zBi (yg p);have ec:zbi (Vq (uN p)) p.Bin=some (xH p):=by
  show zlu _ _=_;unfold zlu xH;have c1:(decide (1<=p.Bin)&&decide (p.Bin<1000000)&&decide (((Vq (uN p)).length:Int)<1000000))=true:=by simp<;>omega
  rw [c1];rfl
 have cut1:cut (wa (yg p)) 0 ((xH p).length:Int)=some ((wa (yg p)).take (xH p).length):=by
  unfold cut;have:((xH p).length:Int)<=((wa (yg p)).length:Int):=by omega
  simp [this]
 have cut2:cut (wa (yg p)) ((xH p).length:Int) ((wa (yg p)).length:Int)=some ((wa (yg p)).drop (xH p).length):=by
  unfold cut;have:((xH p).length:Int)<=((wa (yg p)).length:Int):=by omega
  simp [this]
 rw [zx5,zD8 h];simp only [zKE,zKY,zM];rw [zwG (by omega) hreg];simp only [zKE,zns,zEg hm.1 (show p.Mutators<=16 by omega)];rw [zGm (by omega) hobj];simp only [zKE];rw [zJu h];simp only [zKE,eb];have e3:(2+(yg p:Int)).toNat=2+yg p:=by omega
 rw [ya (a:=2+(yg p:Int)) (by omega) (by omega),zy4 (by omega) (by omega),e3,zKE,yR (l:=XB p p.Workers.toNat++List.replicate (2+yg p) 0#64) (by simp<;>omega),zKE,zIG (by omega)];dsimp only [zKE];rw [zLn,zHv (zh5 h),zKE,zj5,zq,zi,zKE,ec,zKE,zDG _ _ (by simp<;>omega) (fun c hc'=>by have:=zob _ _ _ _ hc';omega)];dsimp only [zKE];have e1:w64 ((([[]]++xH p:List (List Int)).length:Int)-1)=((xH p).length:Int):=by
  rw [ya (by simp<;>omega) (by simp<;>omega)];simp
 have e2:w64 (((wa (yg p)).length:Int)-((xH p).length:Int))=((yg p-(xH p).length:Nat):Int):=by
  rw [ya];omega
 rw [e1,e2,zy4 (by omega) (by omega),zLn,zKE,yR (by simp<;>omega),zKE,zc2,zKE,zaX,zKE,cut1,zKE,zy3 (by simp<;>omega) (by simp<;>omega),zKE,zdy,zKE,zKE,cut2,zKE,zy3 (by rw [zvj];simp<;>omega) (by simp<;>omega),zKE,decide_true,zA,zlS hm.1 (show p.Mutators<4294967296 by omega),zKE,zIp (by omega) hreg];rfl
theorem znJ (h:BitVec 64):yG h=((h.toNat%4294967296:Nat):Int):=by
 unfold yG;have e:(h&&&4294967295#64).toNat=h.toNat%4294967296:=by
  rw [zLK];exact zMz h.toNat 32
 rw [zMg,e];omega
theorem zn0 (h:BitVec 64):0<=yG h/\yG h<4294967296:=by rw [znJ];omega
theorem zeK (v:BitVec 64) {n:Int}(h:0<=n) (h2:n<4294967296):yG (xP v n)=n:=by
 rw [znJ];unfold xP;rw [BitVec.toNat_or,zLK,BitVec.toNat_shiftLeft];have e1:(v.toNat <<< 32%2 ^ 64|||(BitVec.ofInt 64 n).toNat&&&(4294967295#64).toNat)%2 ^ 32=(v.toNat <<< 32%2 ^ 64)%2 ^ 32|||((BitVec.ofInt 64 n).toNat&&&(4294967295#64).toNat)%2 ^ 32:=Nat.or_mod_two_pow;have e2:v.toNat <<< 32%2 ^ 64%2 ^ 32=0:=by rw [Nat.shiftLeft_eq];omega
 have e3:(BitVec.ofInt 64 n).toNat&&&(4294967295#64).toNat=n.toNat:=by
  have:(BitVec.ofInt 64 n).toNat=n.toNat:=by rw [zLy];omega
  rw [this];exact (zMz n.toNat 32).trans (Nat.mod_eq_of_lt (by omega))
 rw [show (4294967296:Nat)=2 ^ 32 from rfl,e1,e2,e3,Nat.zero_or,Nat.mod_eq_of_lt (by omega)];omega
theorem toInt_ofInt {n:Int}(h:0<=n) (h2:n<4294967296):(BitVec.ofInt 64 n).toInt=n:=by
 have e:(BitVec.ofInt 64 n).toNat=n.toNat:=by rw [zLy];omega
 rw [zMg,e];omega
theorem Vo {m:List (BitVec 64)}{a b:Int}{v:BitVec 64}:ld (st m a v) b=if a=b/\0<=a/\a<m.length then v else ld m b:=by
 unfold ld st;by_cases hb:0<=b
 .rw [zb hb,zb hb];by_cases ha:0<=a
  .rw [zb ha,zKH,zKH,zLt];by_cases hab:a.toNat=b.toNat
   .have e:a=b:=by omega
    subst e;by_cases hl:a.toNat<m.length
    .rw [zb rfl,zb hl,zb ⟨rfl,ha,by omega⟩];rfl
    .rw [zb rfl,zc hl,zi,zLN (by omega)]
   .rw [zc hab,zi]
  .rw [zc ha,zi]
 .rw [zc hb,zc hb,zi]
theorem yK {m:List (BitVec 64)}{a b:Int}{v:BitVec 64}(h:a≠b):ld (st m a v) b=ld m b:=by
 rw [Vo,zc (fun h'=>h h'.1)]
theorem Z8 {p:zd}(h:zI p):yr p=p.Workers*(p.Cap+2)/\3<=yr p/\yr p<=15:=by
 have hw:=h.wk;have hc:=h.cap;unfold yr;rw [yQ (a:=p.Cap+2) (by omega) (by omega)];have hx:p.Workers=1\/p.Workers=2\/p.Workers=3:=by omega
 rcases hx with hx | hx | hx<;>rw [hx,yQ]<;>omega
theorem vd {p:zd}(h:zI p):zU p=yr p+1:=by
 have:=Z8 h;unfold zU;rw [yQ]
theorem Xa {p:zd}(h:zI p) {w:Int}(h1:1<=w) (h2:w<=p.Workers):z6 p w=(w-1)*(p.Cap+2)/\0<=z6 p w/\z6 p w+p.Cap+2<=yr p:=by
 have hw:=h.wk;have hc:=h.cap;have hf:=(Z8 h).1;unfold z6;rw [yQ (a:=p.Cap+2) (by omega) (by omega),yQ (a:=w-1) (by omega) (by omega)];have hx:p.Workers=1\/p.Workers=2\/p.Workers=3:=by omega
 have hy:w=1\/w=2\/w=3:=by omega
 rw [hf];rcases hx with hx | hx | hx<;>rcases hy with hy | hy | hy<;>first | omega | (rw [hx,hy,yQ]<;>omega)
theorem zuf {p:zd}(h:zI p) {d:zg}{w:Int}(h1:1<=w) (h2:w<=p.Workers) (hb:d.Base=z6 p w) (hc:d.Cap=p.Cap) (i:BitVec 64) :
  Xy d i=d.Base+2+((i.toNat%p.Cap.toNat:Nat):Int)/\d.Base+2<=Xy d i/\Xy d i<d.Base+2+p.Cap:=by
 have hcp:=h.cap;have hd:=Xa h h1 h2;have hf:=Z8 h;have hs:(uZ d).toNat=p.Cap.toNat:=by
  unfold uZ;rw [hc,zi,zLy];omega
 have hlt:i.toNat%p.Cap.toNat<p.Cap.toNat:=Nat.mod_lt _ (by omega);have hm:(i%uZ d).toInt=((i.toNat%p.Cap.toNat:Nat):Int):=by
  rw [zMg,BitVec.toNat_umod,hs];omega
 unfold Xy;rw [hm,yQ (a:=d.Base+2) (by omega) (by omega),yQ];omega
structure SOk (p:zd) (nb:Nat) (s:za):Prop where
 P:s.P=p
 bins:s.Bins.length=nb
 nbk:1<=nb/\nb<1000
 mem:s.M.length<100000
 cF:yG (ld s.M (yr p))<nb
 cE:yG (ld s.M (zU p))<nb
 cL:∀a,zU p<a->0<=(ld s.M a).toInt/\(ld s.M a).toInt<nb
structure MOk (p:zd) (nb:Nat) (g:zJ):Prop where
 who:g.Mode=1->1<=g.Who/\g.Who<=p.Workers
 d3:g.PC=3->g.D.Kind=1/\g.D.Base=z6 p g.Who/\g.D.Cap=p.Cap/\g.Mode=1
 c5:g.PC=5->g.C.Kind=2/\g.C.Head=zU p/\g.C.Next=zU p/\(1<=g.C.PC->1<=yG g.C.H/\yG g.C.H<nb)/\(2<=g.C.PC->0<=g.C.Y/\g.C.Y<nb)
 b6:g.PC=6->1<=g.Bin/\g.Bin<nb
 c7:g.PC=7->g.C.Kind=1/\g.C.Head=yr p/\g.C.Next=zU p/\(1<=g.C.X/\g.C.X<nb)/\(1<=g.C.PC->yG g.C.H<nb)
theorem SOk.gok {p:zd}{nb:Nat}{s:za}{g:zJ}(h:zI p) (S:SOk p nb s) (M:MOk p nb g):GOk s g:=by
 have hc:=h.cap;refine ⟨by have:=S.mem;omega,by have:=S.bins;have:=S.nbk;omega,fun h6=>?_,fun h3=>?_⟩
 .have:=M.b6 h6;have:=S.bins;omega
 .obtain ⟨a,b,c,_⟩:=M.d3 h3;exact ⟨a,by omega⟩
theorem SOk.low {p:zd}{nb:Nat}{s:za}(h:zI p) (S:SOk p nb s) {a:Int}(ha:a<yr p) (v:BitVec 64):SOk p nb {s with M:=st s.M a v}:=by
 have he:=vd h;exact ⟨S.P,S.bins,S.nbk,by simp only [YH];exact S.mem,by simp only [yK (show a≠yr p by omega)];exact S.cF,by simp only [yK (show a≠zU p by omega)];exact S.cE,fun b hb=>by
  simp only [yK (show a≠b by omega)];exact S.cL b hb⟩
theorem SOk.link {p:zd}{nb:Nat}{s:za}(h:zI p) (S:SOk p nb s) {a:Int}(ha:zU p<a) {v:BitVec 64}(hv:0<=v.toInt/\v.toInt<nb):SOk p nb {s with M:=st s.M a v}:=by
 have he:=vd h;exact ⟨S.P,S.bins,S.nbk,by simp only [YH];exact S.mem,by simp only [yK (show a≠yr p by omega)];exact S.cF,by simp only [yK (show a≠zU p by omega)];exact S.cE,fun b hb=>by
  simp only [Vo];split
  .exact hv
  .exact S.cL b hb⟩
theorem SOk.head {p:zd}{nb:Nat}{s:za}(h:zI p) (S:SOk p nb s) {a:Int}(ha:a=yr p\/a=zU p) {v:BitVec 64}(hv:yG v<nb):SOk p nb {s with M:=st s.M a v}:=by
 have he:=vd h;refine ⟨S.P,S.bins,S.nbk,by simp only [YH];exact S.mem,?_,?_,fun b hb=>?_⟩
 .simp only [Vo];split
  .exact hv
  .exact S.cF
 .simp only [Vo];split
  .exact hv
  .exact S.cE
 .simp only [yK (show a≠b by omega)];exact S.cL b hb
theorem SOk.swap {p:zd}{nb:Nat}{s:za}(h:zI p) (S:SOk p nb s) {a:Int}(ha:a=yr p\/a=zU p) (x:BitVec 64) {v:BitVec 64}(hv:yG v<nb):SOk p nb {s with M:=(sw s.M a x v).1}:=by
 unfold sw;split
 .exact S.head h ha hv
 .exact S
theorem zCj {p:zd}{nb:Nat}{s:za}(h:zI p) (S:SOk p nb s) {c:zV}{hd:Int}(hdd:hd=yr p\/hd=zU p) (hk:c.Kind=2) (hh:c.Head=hd) (hn:c.Next=zU p)
  (h1:1<=c.PC->1<=yG c.H/\yG c.H<nb) (h2:2<=c.PC->0<=c.Y/\c.Y<nb) (ho:c.Out≠1) :
  SOk p nb {s with M:=(zC s.M c).1}/\(zC s.M c).2.Kind=2/\(zC s.M c).2.Head=hd/\(zC s.M c).2.Next=zU p /\
  ((zC s.M c).2.Out≠1->(zC s.M c).2.Out≠2->(1<=(zC s.M c).2.PC->1<=yG (zC s.M c).2.H/\yG (zC s.M c).2.H<nb)/\(2<=(zC s.M c).2.PC->0<=(zC s.M c).2.Y/\(zC s.M c).2.Y<nb)) /\
  ((zC s.M c).2.Out=1->1<=(zC s.M c).2.X/\(zC s.M c).2.X<nb):=by
 have hnb:=S.nbk;have hE:=vd h;have hF:=Z8 h;unfold zC;split
 .exact ⟨S,hk,hh,hn,fun _ _=>⟨h1,h2⟩,fun e=>zm e ho⟩
 .split
  .rw [hh];have n1:=zn0 (ld s.M hd);have n2:yG (ld s.M hd)<nb:=by
    rcases hdd with e | e<;>rw [e]
    .exact S.cF
    .exact S.cE
   split
   .exact ⟨S,hk,rfl,hn,fun _ h=>zm rfl h,fun e=>by cases e⟩
   .rename_i hne;refine ⟨S,hk,rfl,hn,fun _ _=>⟨fun _=>⟨?_,n2⟩,fun e=>zm e (by dsimp only;omega)⟩,fun e=>zm e ho⟩;have:yG (ld s.M hd)≠0:=fun e=>hne ⟨hk,e⟩;dsimp only;omega
  .split
   .try rw [zb hk]
    have hpc:1<=c.PC:=by omega
    have n1:=h1 hpc;refine ⟨S,hk,hh,hn,fun _ _=>⟨fun _=>n1,fun _=>?_⟩,fun e=>zm e ho⟩;dsimp only;rw [hn,yQ];exact S.cL _ (by omega)
   .rename_i g1 g2 g3;have hpc:c.PC=2:=by omega
    have n1:=h1 (by omega);have n2:=h2 (by omega);simp only [zb hk];refine ⟨S.swap h (by rw [hh];exact hdd) _ (by rw [zeK _ n2.1 (by omega)];exact n2.2),?_⟩;split
    .exact ⟨hk,hh,hn,fun e=>zm rfl e,fun _=>n1⟩
    .exact ⟨hk,hh,hn,fun _ _=>⟨fun e=>zm e (by dsimp only;omega),fun e=>zm e (by dsimp only;omega)⟩,fun e=>zm e ho⟩
theorem zyu {p:zd}{nb:Nat}{s:za}(h:zI p) (S:SOk p nb s) {c:zV}{hd:Int}(hdd:hd=yr p\/hd=zU p) (hk:c.Kind=1) (hh:c.Head=hd) (hn:c.Next=zU p) (hx:1<=c.X/\c.X<nb)
  (h1:1<=c.PC->yG c.H<nb) :
  SOk p nb {s with M:=(zC s.M c).1}/\(zC s.M c).2.Kind=1/\(zC s.M c).2.Head=hd/\(zC s.M c).2.Next=zU p/\(1<=(zC s.M c).2.X/\(zC s.M c).2.X<nb) /\
  (1<=(zC s.M c).2.PC->yG (zC s.M c).2.H<nb):=by
 have hnb:=S.nbk;have hE:=vd h;have hF:=Z8 h;have hk2: ¬c.Kind=2:=by omega
 unfold zC;split
 .exact ⟨S,hk,hh,hn,hx,h1⟩
 .split
  .rw [zc (fun e=>hk2 e.1),hh];exact ⟨S,hk,rfl,hn,hx,fun _=>hdd.elim (fun e=>by dsimp only;rw [e];exact S.cF) (fun e=>by dsimp only;rw [e];exact S.cE)⟩
  .split
   .try rw [zc hk2]
    have hpc:1<=c.PC:=by omega
    have n1:=h1 hpc;have n2:=zn0 c.H;refine ⟨?_,hk,hh,hn,hx,fun _=>n1⟩;dsimp only;rw [hn,yQ];exact S.link h (by omega) (by rw [toInt_ofInt (by omega) (by omega)];omega)
   .have n1:=h1 (by omega);simp only [zc hk2];refine ⟨S.swap h (by rw [hh];exact hdd) _ (by rw [zeK _ (by omega) (by omega)];exact hx.2),?_⟩;split
    .exact ⟨hk,hh,hn,hx,fun _=>n1⟩
    .exact ⟨hk,hh,hn,hx,fun _=>n1⟩
theorem MOk.ask {p:zd}{nb:Nat}{g:zJ}(hw:g.Mode=1->1<=g.Who/\g.Who<=p.Workers):MOk p nb (zjt p g) :=
 ⟨hw,fun e=>(by cases e),fun _=>⟨rfl,rfl,rfl,fun e=>zm e (show ¬(1:Int)<=0 by decide),fun e=>zm e (show ¬(2:Int)<=0 by decide)⟩,fun e=>(by cases e),fun e=>(by cases e)⟩
theorem zsW {p:zd}{nb:Nat}{s:za}{g:zJ}(h:zI p) (S:SOk p nb s) (M:MOk p nb g) (hout:g.PC=5->g.C.Out≠1):SOk p nb (zG s g).1/\MOk p nb (zG s g).2/\((zG s g).2.PC=5->(zG s g).2.C.Out≠1):=by
 have hP:=S.P;unfold zG;split
 .exact ⟨S,M,hout⟩
 split
 .rename_i h7;obtain ⟨a1,a2,a3,a4,a5⟩:=M.c7 h7;obtain ⟨b1,b2,b3,b4,b5,b6⟩:=zyu h S (.inl rfl) a1 a2 a3 a4 a5;unfold zes;refine ⟨b1,?_,?_⟩
  .dsimp only;split<;>exact ⟨M.who,fun e=>(by dsimp only at e;omega),fun e=>(by dsimp only at e;omega),fun e=>(by dsimp only at e;omega),fun _=>⟨b2,b3,b4,b5,b6⟩⟩
  .dsimp only;split<;>exact fun e=>by dsimp only at e;omega
 split
 .rename_i h6;obtain ⟨a1,a2⟩:=M.b6 h6;unfold zAe;refine ⟨⟨hP,by simp only [zK3];exact S.bins,S.nbk,S.mem,S.cF,S.cE,S.cL⟩,⟨M.who,fun e=>(by cases e),fun e=>(by cases e),fun e=>(by cases e),fun _=>⟨rfl,by rw [hP],by rw [hP],⟨a1,a2⟩,fun e=>zm e (show ¬(1:Int)<=0 by decide)⟩⟩,fun e=>by cases e⟩
 split
 .rename_i h5;obtain ⟨a1,a2,a3,a4,a5⟩:=M.c5 h5;obtain ⟨b1,b2,b3,b4,b5,b6⟩:=zCj h S (.inr rfl) a1 a2 a3 a4 a5 (hout h5);unfold znV;refine ⟨b1,?_,?_⟩
  .dsimp only;split
   .rename_i e1;exact ⟨M.who,fun e=>(by cases e),fun e=>(by cases e),fun _=>b6 e1,fun e=>(by cases e)⟩
   .split
    .rw [hP];exact MOk.ask M.who
    .rename_i e1 e2;exact ⟨M.who,fun e=>(by dsimp only at e;omega),fun _=>⟨b2,b3,b4,b5 e1 e2⟩,fun e=>(by dsimp only at e;omega),fun e=>(by dsimp only at e;omega)⟩
  .dsimp only;split
   .exact fun e=>by cases e
   .split
    .exact fun _ e=>by cases e
    .rename_i e1 e2;exact fun _=>e1
 split
 .rw [hP];exact ⟨⟨rfl,S.bins,S.nbk,S.mem,S.cF,S.cE,S.cL⟩,MOk.ask M.who,fun _ e=>by cases e⟩
 split
 .rename_i h3;obtain ⟨a1,a2,a3,a4⟩:=M.d3 h3;have hw:=M.who a4;obtain ⟨d1,d2,d3⟩:=Xa h hw.1 hw.2;have hc:=h.cap;have hf:=Z8 h;have hs:SOk p nb {s with M:=(xn s.M g.D).1}:=by
   unfold xn;split
   .exact S
   split
   .exact S
   split
   .exact S
   split
   .have:=zuf h hw.1 hw.2 a2 a3 g.D.B;exact S.low h (by omega) _
   .dsimp only;rw [yQ];exact S.low h (by omega) _
  have hd:(xn s.M g.D).2.Kind=1/\(xn s.M g.D).2.Base=z6 p g.Who/\(xn s.M g.D).2.Cap=p.Cap:=by
   unfold xn;split
   .exact ⟨a1,a2,a3⟩
   split
   .exact ⟨a1,a2,a3⟩
   split
   .dsimp only;split<;>exact ⟨a1,a2,a3⟩
   split<;>exact ⟨a1,a2,a3⟩
  unfold zn4;refine ⟨hs,?_,?_⟩
  .dsimp only;split
   .exact ⟨M.who,fun _=>⟨hd.1,hd.2.1,hd.2.2,a4⟩,fun e=>(by dsimp only at e;omega),fun e=>(by dsimp only at e;omega),fun e=>(by dsimp only at e;omega)⟩
   .split
    .rw [hP];exact MOk.ask M.who
    .exact ⟨M.who,fun _=>⟨hd.1,hd.2.1,hd.2.2,a4⟩,fun e=>(by dsimp only at e;omega),fun e=>(by dsimp only at e;omega),fun e=>(by dsimp only at e;omega)⟩
  .dsimp only;split
   .exact fun e=>by dsimp only at e;omega
   .split
    .exact fun _ e=>by cases e
    .exact fun e=>by dsimp only at e;omega
 split
 .rename_i h2;exact ⟨⟨hP,S.bins,S.nbk,S.mem,S.cF,S.cE,S.cL⟩,⟨M.who,fun e=>(by dsimp only at e;omega),fun e=>(by dsimp only at e;omega),fun e=>(by dsimp only at e;omega),fun e=>(by dsimp only at e;omega)⟩,fun e=>by dsimp only at e;omega⟩
 split
 .unfold zn6;refine ⟨⟨hP,S.bins,S.nbk,S.mem,S.cF,S.cE,S.cL⟩,?_,?_⟩
  .dsimp only;split
   .exact ⟨M.who,fun e=>(by cases e),fun e=>(by cases e),fun e=>(by cases e),fun e=>(by cases e)⟩
   split
   .exact ⟨M.who,fun _=>⟨rfl,by rw [hP],by rw [hP],by assumption⟩,fun e=>(by cases e),fun e=>(by cases e),fun e=>(by cases e)⟩
   split
   .exact ⟨M.who,fun e=>(by cases e),fun e=>(by cases e),fun e=>(by cases e),fun e=>(by cases e)⟩
   .rw [hP];exact MOk.ask M.who
  .dsimp only;split
   .exact fun e=>by cases e
   split
   .exact fun e=>by cases e
   split
   .exact fun e=>by cases e
   .exact fun _ e=>by cases e
 .exact ⟨⟨hP,S.bins,S.nbk,S.mem,S.cF,S.cE,S.cL⟩,⟨M.who,fun e=>(by cases e),fun e=>(by cases e),fun e=>(by cases e),fun e=>(by cases e)⟩,fun e=>by cases e⟩
theorem za8 (s:za) (g:zJ):(zG s g).2.Obj=g.Obj/\(zG s g).2.Who=g.Who/\(zG s g).2.Mode=g.Mode:=by
 unfold zG;split
 .exact ⟨rfl,rfl,rfl⟩
 split
 .unfold zes;dsimp only;split<;>exact ⟨rfl,rfl,rfl⟩
 split
 .exact ⟨rfl,rfl,rfl⟩
 split
 .unfold znV;dsimp only;split
  .exact ⟨rfl,rfl,rfl⟩
  .split<;>exact ⟨rfl,rfl,rfl⟩
 split
 .exact ⟨rfl,rfl,rfl⟩
 split
 .unfold zn4;dsimp only;split
  .exact ⟨rfl,rfl,rfl⟩
  .split<;>exact ⟨rfl,rfl,rfl⟩
 split
 .exact ⟨rfl,rfl,rfl⟩
 split
 .unfold zn6;dsimp only;split
  .exact ⟨rfl,rfl,rfl⟩
  split
  .exact ⟨rfl,rfl,rfl⟩
  split<;>exact ⟨rfl,rfl,rfl⟩
 .exact ⟨rfl,rfl,rfl⟩
def OkV (nb:Nat) (v:BitVec 64):Prop:=yG v<nb/\0<=v.toInt/\v.toInt<nb
theorem zCi {nb:Nat}(h:1<=nb):OkV nb 0#64:=by
 refine ⟨by rw [znJ];simp;omega,by simp,by simp;omega⟩
theorem zxO {nb:Nat}{b:Int}(h:0<=b) (h2:b<nb) (h3:nb<1000):OkV nb (BitVec.ofInt 64 b):=by
 have e:(BitVec.ofInt 64 b).toNat=b.toNat:=by rw [zLy];omega
 refine ⟨by rw [znJ,e];omega,?_⟩;rw [toInt_ofInt h (by omega)];omega
theorem zyE {b:Int}(h:0<=b) (h2:b<4294967296):xP 0#64 b=BitVec.ofInt 64 b:=by
 have e:(BitVec.ofInt 64 b).toNat=b.toNat:=by rw [zLy];omega
 apply zLX;unfold xP;rw [BitVec.toNat_or,zLK,e];have:b.toNat&&&(4294967295#64).toNat=b.toNat:=(zMz b.toNat 32).trans (Nat.mod_eq_of_lt (by omega));rw [this];simp
def Vf (F:Int) (nb:Nat) (m:List (BitVec 64)):Prop:=∀a,F<=a->OkV nb (ld m a)
theorem Vf.st {F:Int}{nb:Nat}{m:List (BitVec 64)}(h:Vf F nb m) (a:Int) {v:BitVec 64}(hv:OkV nb v):Vf F nb (st m a v):=fun b hb=>by
 rw [Vo];split
 .exact hv
 .exact h b hb
theorem Vf.links {F:Int}{nb:Nat}(h1:1<=nb) (h3:nb<1000):∀(l:List Int) (m:List (BitVec 64)) (n:Int),(∀b∈l,0<=b/\b<nb)->Vf F nb m->Vf F nb (links m n l)
 | [],m,n,_,h=>h
 | [a],m,n,_,h=>h.st _ (zCi h1)
 | a::b::l,m,n,hb,h=>Vf.links h1 h3 (b::l) _ n (fun x hx=>hb x (zKN _ hx)) (h.st _ (zxO (hb b (by simp)).1 (hb b (by simp)).2 h3))
theorem Vf.lay {F:Int}{nb:Nat}(h1:1<=nb) (h3:nb<1000) {l:List Int}{m:List (BitVec 64)}{hd n:Int}(hb:∀b∈l,0<=b/\b<nb) (h:Vf F nb m):Vf F nb (zeq m hd n l):=by
 unfold zeq;refine (Vf.links h1 h3 l m n hb h).st _ ?_;cases l with
 | nil=>rw [List.headD_nil,zyE (by omega) (by omega)];exact zxO (by omega) (by omega) h3
 | cons a r =>
  have:=hb a (by simp);rw [List.headD_cons,zyE this.1 (by omega)];exact zxO this.1 this.2 h3
theorem zhe {k:Nat}{b:Int}(h:b∈wa k):1<=b/\b<=k:=by
 unfold wa at h;obtain ⟨i,hi,rfl⟩:=zKT.1 h;have:=zK7.1 hi;omega
theorem zej {p:zd}(h:zI p):(yg p:Int)=p.Most+p.Workers+p.Mutators/\2<=yg p/\yg p<=14:=by
 have:=h.most;have:=h.n;have:=h.wk;have:=h.mt;unfold yg;omega
theorem zDy {p:zd}(h:zI p):SOk p (yg p+1) (xF p):=by
 have hb:=zej h;have hf:=zp5 h;have hn:=h.n;have hw:=h.wk;have hc:=h.cap;have hmo:=h.most;have hF:=Z8 h;have hE:=vd h;have hcl:=zaS p p.Workers.toNat;have hfe:yr p=((p.Workers.toNat*(p.Cap.toNat+2):Nat):Int):=by
  rw [hF.1];have e1:p.Workers=((p.Workers.toNat:Nat):Int):=by omega
  have e2:p.Cap+2=((p.Cap.toNat+2:Nat):Int):=by omega
  rw [e2,Int.natCast_mul];rw [<-e1]
 have h0:Vf (yr p) (yg p+1) (XB p p.Workers.toNat++List.replicate (2+yg p) 0#64):=by
  intro a ha;have:ld (XB p p.Workers.toNat++List.replicate (2+yg p) 0#64) a=0#64:=by
   unfold ld;rw [yf,zKH,zLg (by omega),zL8];split<;>rfl
  rw [this];exact zCi (by omega)
 have h1:Vf (yr p) (yg p+1) (xF p).M:=by
  refine Vf.lay (by omega) (by omega) (fun b hb'=>?_) (Vf.lay (by omega) (by omega) (fun b hb'=>?_) h0)
  .have:=zhe (List.mem_of_mem_drop hb');omega
  .have:=zhe (zMd hb');omega
 have hlen:(xF p).M.length=p.Workers.toNat*(p.Cap.toNat+2)+(2+yg p):=by
  show (zeq _ _ _ _).length=_;rw [zvj,zvj,zKS,hcl,zLl]
 refine ⟨rfl,?_,by omega,by rw [hlen];omega,(h1 _ (by omega)).1,(h1 _ (by omega)).1,fun a ha=>(h1 a (by omega)).2⟩;have hd:(xF p).Bins.length=1+(xH p).length+(yg p-(xH p).length):=by
  show ([[]]++xH p++List.replicate (yg p-(xH p).length) ([]:List Int)).length=_;rw [zKS,zKS,zLl];rfl
 have h2:=hb.1;have hmt:=h.mt;rw [hd];omega
def YG (mode obj who:Int):zJ:=⟨0,mode,obj,who,⟨0,0,0,0,0#64,0#64,0,0⟩,⟨0,0,0,0,0#64,0,0,0⟩,0,0⟩
theorem zqn (a b c:Int):zcw a b c=some (YG a b c,()):=by rw [zwu];rfl
def zla (m:List (BitVec 64)) (d:zg):List (BitVec 64)×zg :=
 if d.PC<0\/7<=d.PC then (m,d)
 else if d.PC=0 then (m,{d with B:=ld m (wc (d.Base+1)),PC:=1})
 else if d.PC=1 then (st m (wc (d.Base+1)) (d.B-1#64),{d with PC:=2})
 else if d.PC=2 then (m,{d with T:=ld m d.Base,PC:=if 0<(ld m d.Base-(d.B-1#64)).toInt then 5 else 3})
 else if d.PC=3 then (m,{d with X:=(ld m (Xy d (d.B-1#64))).toInt,PC:=4,Out:=if d.T=d.B-1#64 then d.Out else 1})
 else if d.PC=4 then ((sw m d.Base d.T (d.T+1#64)).1,{d with PC:=if (sw m d.Base d.T (d.T+1#64)).2 then 6 else 5})
 else if d.PC=5 then (st m (wc (d.Base+1)) d.B,{d with X:=0,Out:=2,PC:=6})
 else (st m (wc (d.Base+1)) d.B,{d with Out:=1,PC:=7})
def zcK (m:List (BitVec 64)) (d:zg):List (BitVec 64)×zg :=
 if d.PC<0\/4<=d.PC then (m,d)
 else if d.PC=0 then (m,{d with T:=ld m d.Base,PC:=1})
 else if d.PC=1 then (m,{d with B:=ld m (wc (d.Base+1)),PC:=2,Out:=if 0<(ld m (wc (d.Base+1))-d.T).toInt then d.Out else 2})
 else if d.PC=2 then (m,{d with X:=(ld m (Xy d d.T)).toInt,PC:=3})
 else ((sw m d.Base d.T (d.T+1#64)).1,if (sw m d.Base d.T (d.T+1#64)).2 then {d with Out:=1,PC:=4} else {d with X:=0,Out:=4,PC:=4})
def yj (m:List (BitVec 64)) (d:zg):List (BitVec 64)×zg :=
 if d.Out≠0 then (m,d) else if d.Kind=1 then xn m d else if d.Kind=2 then zla m d else if d.Kind=3 then zcK m d else (m,d)
theorem zC0 {m:List (BitVec 64)}{d:zg}(h:d.Kind=1):yj m d=xn m d:=by
 unfold yj;by_cases h0:d.Out≠0
 .rw [zb h0];unfold xn;rw [zb (.inl h0)]
 .rw [zc h0,zb h]
theorem zDv {α:Type}{x y:Option α}{v:α}(h:x=some v):Option.or x y=some v:=by subst h;rfl
theorem zlo {α:Type}{x y z:Option α}(h:x=none) (h2:y=z):Option.or x y=z:=by subst h;exact h2
theorem zHY:wc 1=1/\wc 2=2/\wc 3=3/\wc 4=4/\wc 5=5/\wc 6=6/\wc 7=7:=by decide
theorem zFc:w64 5=5/\w64 6=6/\w64 7=7:=by
 refine ⟨?_,?_,?_⟩<;>exact ya
theorem zEA {m:List (BitVec 64)}(hm:m.length<4294967296) {d:zg}(hc:d.Cap<1000):zcF m d=some ((yj m d).1,(yj m d).2,()):=by
 by_cases k1:d.Kind=1
 .rw [zC0 k1];exact zn2 hm k1 hc
 obtain ⟨w0,w1,w2,w3,w4⟩:=zCo;obtain ⟨w5,w6,w7⟩:=zFc;obtain ⟨v1,v2,v3,v4,v5,v6,v7⟩:=zHY;have hsb:∀d:zg,vP m d=some (m,{d with B:=ld m (wc (d.Base+1))},()):=fun d=>by
  rw [Vw,xV,xT,zKE,Xi];rfl
 have htk:∀d:zg,Wq m d=some ((sw m d.Base d.T (d.T+1#64)).1,(sw m d.Base d.T (d.T+1#64)).2,()):=fun d=>by
  obtain ⟨v,hv⟩:=zyd hm d.Base d.T (d.T+1#64);rw [zm7,ZQ,zKE,hv];rfl
 rw [znI,zkk,ztO,ztu,ztz];simp only [zq,yq,zc k1];unfold yj;by_cases k2:d.Kind=2
 .refine zlo (by simp [k2]) (zDv ?_);rw [zb k2,zKE];by_cases g0:d.Out=0;rotate_left
  .rw [zc g0,zb (show d.Out≠0 from g0)]
  rw [zb g0,zc (show ¬(d.Out≠0) from fun e=>e g0),zc k1,zb k2];unfold zla;by_cases g1:d.PC<0
  .rw [zb g1,zb (.inl g1)]
  rw [zc g1];by_cases g2:7<=d.PC
  .rw [zb g2,zb (.inr g2)]
  rw [zc g2,zc (show ¬(d.PC<0\/7<=d.PC) by omega)];have hpc:d.PC=0\/d.PC=1\/d.PC=2\/d.PC=3\/d.PC=4\/d.PC=5\/d.PC=6:=by omega
  rcases hpc with h | h | h | h | h | h | h
  .simp [h,hsb,w1]
  .simp [h,zl4,xV,xT,zd1 hm,v1,v2,v3,v4,v5,v6,v7]
  .rw [h,zc (by decide),zc (by decide),zc (by decide),zc (by decide),zb rfl,zc (by decide),zc (by decide),zb rfl];simp only [zgY,ZQ,zKE,Xi,zei,zq];by_cases hs:0<(ld m d.Base-(d.B-1#64)).toInt
   .simp only [zb hs,zKE,Int.reduceAdd,w5]
   .simp only [zc hs,zKE,h,Int.reduceAdd,w3]
  .simp only [h,zlh,zhY hc,zKE,Xi,yq,vw];by_cases hs:d.T=d.B-1#64
   .simp [hs,w4,h]
   .simp [hs,w4,h]
  .simp only [h,zjR,htk,zKE];cases hs:(sw m d.Base d.T (d.T+1#64)).2 with
   | true=>simp [hs,w6,h]
   | false=>simp [hs,w5,h]
  .simp [h,zj1,vw,k1,xV,xT,zd1 hm,v1,v2,v3,v4,v5,v6,v7]
  .simp [h,zk0,vw,xV,xT,zd1 hm,v1,v2,v3,v4,v5,v6,v7]
 by_cases k3:d.Kind=3
 .refine zlo (by simp [k2,k3]) (zlo (by simp [k2,k3]) (zDv ?_));rw [zc k2,zb k3,zKE];by_cases g0:d.Out=0;rotate_left
  .rw [zc g0,zb (show d.Out≠0 from g0)]
  rw [zb g0,zc (show ¬(d.Out≠0) from fun e=>e g0),zc k1,zc k2,zb k3];unfold zcK;by_cases g1:d.PC<0
  .rw [zb g1,zb (.inl g1)]
  rw [zc g1];by_cases g2:4<=d.PC
  .rw [zb g2,zb (.inr g2)]
  rw [zc g2,zc (show ¬(d.PC<0\/4<=d.PC) by omega)];have hpc:d.PC=0\/d.PC=1\/d.PC=2\/d.PC=3:=by omega
  rcases hpc with h | h | h | h
  .simp [h,zkQ,ZQ,Xi,w1]
  .rw [h,zc (by decide),zc (by decide),zb rfl,zc (by decide),zb rfl];simp only [zkB,xV,zKE,Xi,zei,yq,xT];by_cases hs:0<(ld m (wc (d.Base+1))-d.T).toInt
   .simp only [zb hs,zKE,Int.reduceAdd,v2,h]
   .simp only [zc hs,zKE,Int.reduceAdd,v2,h]
  .simp [h,zjz,zhY hc,Xi,w3]
  .simp only [h,zg0,htk,zKE,vw];cases hs:(sw m d.Base d.T (d.T+1#64)).2 with
   | true=>simp [hs,w4,h]
   | false=>simp [hs,w4,h,k1]
 .refine zlo (by simp [k2,k3]) (zlo (by simp [k2,k3]) (zlo (by simp [k2,k3]) ?_));rw [zc k2,zc k3,zKE];by_cases g0:d.Out=0
  .simp [g0,k1,k2,k3]
  .simp [g0]
theorem zD5 (m:List (BitVec 64)) (d:zg):(zla m d).1.length=m.length/\(zla m d).2.Kind=d.Kind/\(zla m d).2.Base=d.Base/\(zla m d).2.Cap=d.Cap:=by
 unfold zla sw st;split
 .exact ⟨rfl,rfl,rfl,rfl⟩
 split
 .exact ⟨rfl,rfl,rfl,rfl⟩
 split
 .refine ⟨?_,rfl,rfl,rfl⟩;dsimp only;split<;>simp
 split
 .exact ⟨rfl,rfl,rfl,rfl⟩
 split
 .exact ⟨rfl,rfl,rfl,rfl⟩
 split
 .refine ⟨?_,rfl,rfl,rfl⟩;dsimp only;split<;>(try split)<;>simp
 split<;>(refine ⟨?_,rfl,rfl,rfl⟩;dsimp only;split<;>simp)
theorem zAO (m:List (BitVec 64)) (d:zg):(zcK m d).1.length=m.length/\(zcK m d).2.Kind=d.Kind/\(zcK m d).2.Base=d.Base/\(zcK m d).2.Cap=d.Cap:=by
 unfold zcK sw st;split
 .exact ⟨rfl,rfl,rfl,rfl⟩
 split
 .exact ⟨rfl,rfl,rfl,rfl⟩
 split
 .exact ⟨rfl,rfl,rfl,rfl⟩
 split
 .exact ⟨rfl,rfl,rfl,rfl⟩
 .refine ⟨?_,?_,?_,?_⟩<;>dsimp only<;>split<;>(try split)<;>simp
def zR (h:zr) (o:Int):List Int:=h.Objs.getD (o-1).toNat []
def yz (h:zr) (o s:Int):Bool:=decide (1<=o)&&decide (o<=(h.Objs.length:Int))&&decide (0<=s)&&decide (s<((zR h o).length:Int))
def zW (h:zr) (o s:Int):Int:=if yz h o s then (zR h o).getD s.toNat 0 else 0
def zP (s:BitVec 64) (o:Int):Bool:= !(decide (s&&&bit o=0#64))
def yp (t:zn) (o:Int):Int:=if zP (t.Marks&&&t.Black) o then 2 else if zP t.Marks o then 1 else 0
def xj (t:zn) (o:Int):zn:=if yp t o=1 then {t with Black:=t.Black|||bit o} else t
def Ui (l:zx) (who:Int):zx :=
 if 1<=who/\who<=(l.Bal.length:Int) then {l with Scanned:=wc (l.Scanned+1),Bal:=l.Bal.set (who-1).toNat (wc (l.Bal.getD (who-1).toNat 0+1))}
 else {l with Scanned:=wc (l.Scanned+1),Pool:=wc (l.Pool+1)}
def Ud (s:za) (b:Int):List Int:=s.Bins.getD b.toNat []
def zDW (p:zd) (h x:Int):zV:=⟨2,0,h,zU p,0#64,x,0,0⟩
def zc4 (p:zd) (h x:Int):zV:=⟨1,0,h,zU p,0#64,x,0,0⟩
def onW (s:za) (slot:Int):Int:=if slot=s.H.Slots then 8 else 5
def zay (p:zd) (w:Int) (x:zj):zj:={x with PC:=0,Victim:=w,D:=⟨2,0,z6 p w,p.Cap,0#64,0#64,0,0⟩}
def zkH (n v:Int):Int:=if v<n then v+1 else 1
def Yn (p:zd) (w:Int) (x:zj):zj :=
 if zkH p.Workers x.Victim=w then {x with PC:=2,Victim:=w,C:=zDW p (yr p) 0}
 else {x with PC:=1,Victim:=zkH p.Workers x.Victim,D:=⟨3,0,z6 p (zkH p.Workers x.Victim),p.Cap,0#64,0#64,0,0⟩}
def zu (s:za) (w:Int) (x:zj):za×zj :=
 if x.PC=0\/x.PC=1 then
  ({s with M:=(yj s.M x.D).1},
   if (yj s.M x.D).2.Out=1 then {x with D:=(yj s.M x.D).2,Victim:=w,PC:=5,Obj:=(yj s.M x.D).2.X,Slot:=0}
   else if (yj s.M x.D).2.Out=2\/(yj s.M x.D).2.Out=4 then Yn s.P w {x with D:=(yj s.M x.D).2} else {x with D:=(yj s.M x.D).2})
 else if x.PC=2 then
  ({s with M:=(zC s.M x.C).1},
   if (zC s.M x.C).2.Out=1 then {x with C:=(zC s.M x.C).2,Bin:=(zC s.M x.C).2.X,PC:=3}
   else if (zC s.M x.C).2.Out=2 then zay s.P w {x with C:=(zC s.M x.C).2} else {x with C:=(zC s.M x.C).2})
 else if x.PC=3 then ({s with Bins:=s.Bins.set x.Bin.toNat []},{x with Batch:=Ud s x.Bin,PC:=4,C:=zc4 s.P (zU s.P) x.Bin})
 else if x.PC=4 then
  ({s with M:=(zC s.M x.C).1},if (zC s.M x.C).2.Out=1 then {x with C:=(zC s.M x.C).2,Bin:=0,PC:=7} else {x with C:=(zC s.M x.C).2})
 else if x.PC=5 then
  (s,if zW s.H x.Obj x.Slot=0 then {x with Slot:=wc (x.Slot+1),PC:=onW s (wc (x.Slot+1))} else {x with Slot:=wc (x.Slot+1),PC:=6,G:=YG 1 (zW s.H x.Obj x.Slot) w})
 else if x.PC=6 then ((zG s x.G).1,if (zG s x.G).2.Out=1 then {x with G:=(zG s x.G).2,PC:=onW s x.Slot} else {x with G:=(zG s x.G).2})
 else if x.PC=7 then (s,match x.Batch with | []=>zay s.P w x | o::l=>{x with Batch:=l,PC:=5,Obj:=o,Slot:=0})
 else if x.PC=8 then ({s with T:=xj s.T x.Obj,L:=Ui s.L 0},{x with PC:=9})
 else if x.PC=9 then ({s with Work:=wc (s.Work-1)},{x with Obj:=0,PC:=7})
 else (s,x)
def zS (s:za) (w:Int):za :=
 if s.Done=true\/w<1\/(s.Ws.length:Int)<w then s
 else match s.Ws[(w-1).toNat]? with
  | some x=>{(zu s w x).1 with Ws:=s.Ws.set (w-1).toNat (zu s w x).2}
  | none=>s
structure zEs (p:zd) (nb:Nat) (hd:Int) (c:zV):Prop where
 k:c.Kind=2
 h:c.Head=hd
 n:c.Next=zU p
 v:1<=c.PC->1<=yG c.H/\yG c.H<nb
 y:2<=c.PC->0<=c.Y/\c.Y<nb
 o:c.Out≠1
structure zAs (p:zd) (nb:Nat) (hd:Int) (c:zV):Prop where
 k:c.Kind=1
 h:c.Head=hd
 n:c.Next=zU p
 x:1<=c.X/\c.X<nb
 v:1<=c.PC->yG c.H<nb
theorem zDg {p:zd}{nb:Nat}{hd x:Int}:zEs p nb hd (zDW p hd x) :=
 ⟨rfl,rfl,rfl,fun e=>zm e (by show ¬(1:Int)<=0;decide),fun e=>zm e (by show ¬(2:Int)<=0;decide),by show (0:Int)≠1;decide⟩
theorem zBI {p:zd}{nb:Nat}{hd x:Int}(h:1<=x/\x<nb):zAs p nb hd (zc4 p hd x) :=
 ⟨rfl,rfl,rfl,h,fun e=>zm e (by show ¬(1:Int)<=0;decide)⟩
structure WOk (p:zd) (nb:Nat) (w:Int) (x:zj):Prop where
 pc:0<=x.PC/\x.PC<=9
 vic:1<=x.Victim/\x.Victim<=p.Workers
 d0:x.PC=0->x.D.Kind=2/\x.D.Base=z6 p w/\x.D.Cap=p.Cap
 d1:x.PC=1->x.D.Kind=3/\x.D.Base=z6 p x.Victim/\x.D.Cap=p.Cap
 c2:x.PC=2->zEs p nb (yr p) x.C
 b3:x.PC=3->1<=x.Bin/\x.Bin<nb
 c4:x.PC=4->zAs p nb (zU p) x.C
 g6:x.PC=6->MOk p nb x.G/\(x.G.PC=5->x.G.C.Out≠1)/\x.G.Mode=1/\x.G.PC≠4
theorem WOk.plain {p:zd}{nb:Nat}{w:Int}{x:zj}(pc:x.PC=5\/x.PC=7\/x.PC=8\/x.PC=9) (vic:1<=x.Victim/\x.Victim<=p.Workers):WOk p nb w x :=
 ⟨by omega,vic,fun e=>by omega,fun e=>by omega,fun e=>by omega,fun e=>by omega,fun e=>by omega,fun e=>by omega⟩
theorem SOk.swLow {p:zd}{nb:Nat}{s:za}(h:zI p) (S:SOk p nb s) {a:Int}(ha:a<yr p) (x v:BitVec 64):SOk p nb {s with M:=(sw s.M a x v).1}:=by
 unfold sw;split
 .exact S.low h ha v
 .exact S
theorem zJW {p:zd}{nb:Nat}{s:za}(h:zI p) (S:SOk p nb s) {d:zg}{v:Int}(hv:1<=v/\v<=p.Workers) (hk:d.Kind=2\/d.Kind=3) (hb:d.Base=z6 p v):SOk p nb {s with M:=(yj s.M d).1}:=by
 have hd:=Xa h hv.1 hv.2;have hc:=h.cap;have hf:=Z8 h;have e1:wc (d.Base+1)=d.Base+1:=yQ;unfold yj;split
 .exact S
 split
 .omega
 split
 .unfold zla;rw [e1];split
  .exact S
  split
  .exact S
  split
  .exact S.low h (by omega) _
  split
  .exact S
  split
  .exact S
  split
  .exact S.swLow h (by omega) _ _
  split<;>exact S.low h (by omega) _
 split
 .unfold zcK;split
  .exact S
  split
  .exact S
  split
  .exact S
  split
  .exact S
  .exact S.swLow h (by omega) _ _
 .exact S
theorem zoi (m:List (BitVec 64)) (d:zg):(yj m d).1.length=m.length/\(yj m d).2.Kind=d.Kind/\(yj m d).2.Base=d.Base/\(yj m d).2.Cap=d.Cap:=by
 unfold yj;split
 .exact ⟨rfl,rfl,rfl,rfl⟩
 split
 .unfold xn;split
  .exact ⟨rfl,rfl,rfl,rfl⟩
  split
  .exact ⟨rfl,rfl,rfl,rfl⟩
  split
  .refine ⟨rfl,?_,?_,?_⟩<;>dsimp only<;>split<;>rfl
  split<;>exact ⟨YH _ _ _,rfl,rfl,rfl⟩
 split
 .exact zD5 m d
 split
 .exact zAO m d
 .exact ⟨rfl,rfl,rfl,rfl⟩
theorem zHC {n v:Int}(h:1<=v/\v<=n):1<=zkH n v/\zkH n v<=n:=by unfold zkH;split<;>omega
theorem WOk.look {p:zd}{nb:Nat}{w:Int}{x:zj}(hw:1<=w/\w<=p.Workers) (vic:1<=x.Victim/\x.Victim<=p.Workers):WOk p nb w (Yn p w x):=by
 have hn:=zHC vic;unfold Yn;split
 .exact ⟨⟨(by show (0:Int)<=2;decide),(by show (2:Int)<=9;decide)⟩,hw,fun e=>(by cases e),fun e=>(by cases e),fun _=>zDg,fun e=>(by cases e),fun e=>(by cases e),fun e=>(by cases e)⟩
 .exact ⟨⟨(by show (0:Int)<=1;decide),(by show (1:Int)<=9;decide)⟩,hn,fun e=>(by cases e),fun _=>⟨rfl,rfl,rfl⟩,fun e=>(by cases e),fun e=>(by cases e),fun e=>(by cases e),fun e=>(by cases e)⟩
theorem WOk.begin {p:zd}{nb:Nat}{w:Int}{x:zj}(hw:1<=w/\w<=p.Workers):WOk p nb w (zay p w x) :=
 ⟨⟨(by show (0:Int)<=0;decide),(by show (0:Int)<=9;decide)⟩,hw,fun _=>⟨rfl,rfl,rfl⟩,fun e=>(by cases e),fun e=>(by cases e),fun e=>(by cases e),fun e=>(by cases e),fun e=>(by cases e)⟩
theorem zDo (s:za) {g:zJ}(h1:g.Mode=1) (h4:g.PC≠4):(zG s g).2.PC≠4/\(zG s g).1.Flag=s.Flag:=by
 have five:(5:Int)≠4:=by decide
 unfold zG;split
 .exact ⟨h4,rfl⟩
 split
 .refine ⟨?_,rfl⟩;unfold zes;dsimp only;split<;>exact h4
 split
 .exact ⟨(by show (7:Int)≠4;decide),rfl⟩
 split
 .refine ⟨?_,rfl⟩;unfold znV;dsimp only;split
  .show (6:Int)≠4;decide
  split
  .exact five
  .exact h4
 split
 .refine ⟨?_,rfl⟩;unfold zn4;dsimp only;split
  .exact h4
  split
  .exact five
  .exact h4
 split
 .exact ⟨h4,rfl⟩
 split
 .refine ⟨?_,rfl⟩;unfold zn6;dsimp only;split
  .show (2:Int)≠4;decide
  .show (3:Int)≠4;decide
 .exact ⟨(by show (1:Int)≠4;decide),rfl⟩
theorem zlN (s:za) (i:Int):onW s i=5\/onW s i=8:=by unfold onW;split<;>simp
theorem SOk.keep {p:zd}{nb:Nat}{s s':za}(S:SOk p nb s) (hP:s'.P=s.P) (hM:s'.M=s.M) (hB:s'.Bins.length=s.Bins.length):SOk p nb s' :=
 ⟨hP.trans S.P,hB.trans S.bins,S.nbk,by rw [hM];exact S.mem,by rw [hM];exact S.cF,by rw [hM];exact S.cE,by rw [hM];exact S.cL⟩
theorem zDM {p:zd}{nb:Nat}{s:za}{w:Int}{x:zj}(h:zI p) (hw:1<=w/\w<=p.Workers) (S:SOk p nb s) (W:WOk p nb w x):SOk p nb (zu s w x).1/\WOk p nb w (zu s w x).2:=by
 have hP:=S.P;unfold zu;split
 .rename_i h01;have hv:∃v,(1<=v/\v<=p.Workers)/\(x.D.Kind=2\/x.D.Kind=3)/\x.D.Base=z6 p v:=by
   rcases h01 with e | e
   .obtain ⟨a,b,c⟩:=W.d0 e;exact ⟨w,hw,.inl a,b⟩
   .obtain ⟨a,b,c⟩:=W.d1 e;exact ⟨x.Victim,W.vic,.inr a,b⟩
  obtain ⟨v,hv1,hv2,hv3⟩:=hv;refine ⟨zJW h S hv1 hv2 hv3,?_⟩;obtain ⟨l1,l2,l3,l4⟩:=zoi s.M x.D;dsimp only;split
  .exact WOk.plain (.inl rfl) hw
  split
  .rw [hP];exact WOk.look hw W.vic
  .refine ⟨W.pc,W.vic,fun e=>?_,fun e=>?_,fun e=>by dsimp only at e;omega,fun e=>by dsimp only at e;omega,fun e=>by dsimp only at e;omega,fun e=>by dsimp only at e;omega⟩
   .obtain ⟨a,b,c⟩:=W.d0 e;exact ⟨l2.trans a,l3.trans b,l4.trans c⟩
   .obtain ⟨a,b,c⟩:=W.d1 e;exact ⟨l2.trans a,l3.trans b,l4.trans c⟩
 split
 .rename_i h2;have C:=W.c2 h2;obtain ⟨b1,b2,b3,b4,b5,b6⟩:=zCj h S (.inl rfl) C.k C.h C.n C.v C.y C.o;refine ⟨b1,?_⟩;dsimp only;split
  .rename_i e1;exact ⟨⟨(by show (0:Int)<=3;decide),(by show (3:Int)<=9;decide)⟩,W.vic,fun e=>(by cases e),fun e=>(by cases e),fun e=>(by cases e),fun _=>b6 e1,fun e=>(by cases e),fun e=>(by cases e)⟩
  split
  .rw [hP];exact WOk.begin hw
  .rename_i e1 e2;exact ⟨W.pc,W.vic,fun e=>(by dsimp only at e;omega),fun e=>(by dsimp only at e;omega),fun _=>⟨b2,b3,b4,(b5 e1 e2).1,(b5 e1 e2).2,e1⟩,fun e=>(by dsimp only at e;omega),fun e=>(by dsimp only at e;omega),fun e=>(by dsimp only at e;omega)⟩
 split
 .rename_i h3;have B:=W.b3 h3;refine ⟨S.keep rfl rfl (by simp),?_⟩;rw [hP];exact ⟨⟨(by show (0:Int)<=4;decide),(by show (4:Int)<=9;decide)⟩,W.vic,fun e=>(by cases e),fun e=>(by cases e),fun e=>(by cases e),fun e=>(by cases e),fun _=>zBI B,fun e=>(by cases e)⟩
 split
 .rename_i h4;have C:=W.c4 h4;obtain ⟨b1,b2,b3,b4,b5,b6⟩:=zyu h S (.inr rfl) C.k C.h C.n C.x C.v;refine ⟨b1,?_⟩;dsimp only;split
  .exact WOk.plain (.inr (.inl rfl)) W.vic
  .exact ⟨W.pc,W.vic,fun e=>(by dsimp only at e;omega),fun e=>(by dsimp only at e;omega),fun e=>(by dsimp only at e;omega),fun e=>(by dsimp only at e;omega),fun _=>⟨b2,b3,b4,b5,b6⟩,fun e=>(by dsimp only at e;omega)⟩
 split
 .refine ⟨S,?_⟩;dsimp only;split
  .rcases zlN s (wc (x.Slot+1)) with e | e<;>rw [e]
   .exact WOk.plain (.inl rfl) W.vic
   .exact WOk.plain (.inr (.inr (.inl rfl))) W.vic
  .exact ⟨⟨(by show (0:Int)<=6;decide),(by show (6:Int)<=9;decide)⟩,W.vic,fun e=>(by cases e),fun e=>(by cases e),fun e=>(by cases e),fun e=>(by cases e),fun e=>(by cases e),fun _ =>
    ⟨⟨fun _=>hw,fun e=>(by cases e),fun e=>(by cases e),fun e=>(by cases e),fun e=>(by cases e)⟩,fun e=>(by cases e),rfl,by show (0:Int)≠4;decide⟩⟩
 split
 .rename_i h6;obtain ⟨g1,g2,g3,g4⟩:=W.g6 h6;obtain ⟨r1,r2,r3⟩:=zsW h S g1 g2;refine ⟨r1,?_⟩;dsimp only;split
  .rcases zlN s x.Slot with e | e<;>rw [e]
   .exact WOk.plain (.inl rfl) W.vic
   .exact WOk.plain (.inr (.inr (.inl rfl))) W.vic
  .exact ⟨W.pc,W.vic,fun e=>(by dsimp only at e;omega),fun e=>(by dsimp only at e;omega),fun e=>(by dsimp only at e;omega),fun e=>(by dsimp only at e;omega),fun e=>(by dsimp only at e;omega),fun _=>⟨r2,r3,(za8 s x.G).2.2.trans g3,(zDo s g3 g4).1⟩⟩
 split
 .refine ⟨S,?_⟩;dsimp only;split
  .rw [hP];exact WOk.begin hw
  .exact WOk.plain (.inl rfl) W.vic
 split
 .exact ⟨S.keep rfl rfl rfl,WOk.plain (.inr (.inr (.inr rfl))) W.vic⟩
 split
 .exact ⟨S.keep rfl rfl rfl,WOk.plain (.inr (.inl rfl)) W.vic⟩
 .have:=W.pc;omega
def xM (h:zr) (o s v:Int):zr :=
 if yz h o s=true/\0<=v/\v<=(h.Objs.length:Int) then {h with Objs:=h.Objs.set (o-1).toNat ((zR h o).set s.toNat v)} else h
def ZB (h:zr) (most:Int):Bool:=decide ((h.Objs.length:Int)<most)&&decide ((h.Objs.length:Int)<64)
def yP (h:zr):zr:={h with Objs:=h.Objs++[List.replicate h.Slots.toNat 0]}
def Y0 (t:zn) (o:Int):zn:=if (shade t o).2=true then xj (shade t o).1 o else t
def UT (l:zx) (who:Int):Int:=l.Bal.getD (who-1).toNat 0
def V7 (l:zx) (who:Int):Bool:=decide (1<=who)&&decide (who<=(l.Bal.length:Int))
def zar (l:zx) (who price limit:Int):Bool:=V7 l who&&decide (0<=price)&&decide (0<=limit)&&decide (price<=1000000)&&decide (limit<=1000000)
def zcC (l:zx) (who price limit:Int):Bool:=zar l who price limit&&decide (wc (-limit)<=wc (UT l who-price))
def V1 (l:zx) (who price:Int):zx:={l with Spent:=wc (l.Spent+price),Bal:=l.Bal.set (who-1).toNat (wc (UT l who-price))}
def zsh (l:zx) (who price limit:Int):Int:=if zar l who price limit then (if zcC l who price limit then 0 else wc (wc (price-limit)-UT l who)) else -1
def zgM (a b:Int):Int:=if b<a then b else a
def U3 (l:zx) (who want:Int):zx×Int :=
 if V7 l who=true/\0<zgM want l.Pool then ({l with Pool:=wc (l.Pool-zgM want l.Pool),Bal:=l.Bal.set (who-1).toNat (wc (UT l who+zgM want l.Pool))},zgM want l.Pool) else (l,0)
def vO (p:zd) (m:Int):List zE:=p.Progs.getD (m-1).toNat []
def opM (p:zd) (m:Int) (x:ze):zE:=(vO p m).getD x.IP.toNat ⟨0,0,0,0⟩
def wX (x:ze) (r:Int):Int:=x.Regs.getD r.toNat 0
def v8 (x:ze):ze:={x with PC:=0,IP:=wc (x.IP+1)}
def setM (x:ze) (r v:Int):ze:={x with PC:=0,IP:=wc (x.IP+1),Regs:=x.Regs.set r.toNat v}
def onM (s:za) (slot:Int):Int:=if slot=s.H.Slots then 38 else 36
def zs7 (s:za) (m:Int) (x:ze):Int:=zW s.H (wX x (opM s.P m x).A) (opM s.P m x).S
def zac (s:za) (m:Int) (x:ze):ze :=
 if s.Acks.getD (m-1).toNat 0<s.Epoch then {x with PC:=1,Ret:=2,Want:=s.Epoch}
 else if ((vO s.P m).length:Int)<=x.IP then x
 else if (opM s.P m x).Kind=1 then {x with PC:=10}
 else if (opM s.P m x).Kind=2 then {x with PC:=20}
 else if (opM s.P m x).Kind=3 then {x with PC:=30}
 else if (opM s.P m x).Kind=4 then setM x (opM s.P m x).R (wX x (opM s.P m x).A)
 else setM x (opM s.P m x).R 0
def mu0 (s:za) (m:Int) (x:ze):za×ze :=
 (s,zac s m x)
def mu1 (s:za) (m:Int) (x:ze):za×ze :=
 (s,if x.Buf.length=0 then {x with PC:=x.Ret} else {x with PC:=3,Buf:=x.Buf.take (x.Buf.length-1),G:=YG 2 (x.Buf.getD (x.Buf.length-1) 0) m})
def mu2 (s:za) (m:Int) (x:ze):za×ze :=
 ({s with Acks:=s.Acks.set (m-1).toNat x.Want},{x with PC:=0})
def mu3 (s:za) (m:Int) (x:ze):za×ze :=
 ((zG s x.G).1,if (zG s x.G).2.Out=1 then {x with PC:=1,G:=(zG s x.G).2} else {x with G:=(zG s x.G).2})
def zkb (s:za) (m:Int) (x:ze):za×ze :=
 (s,setM x (opM s.P m x).R (zs7 s m x))
def zfC (s:za) (m:Int) (x:ze):za×ze :=
 (s,if wX x (opM s.P m x).A=0 then v8 x else {x with PC:=21,Old:=zs7 s m x})
def zgk (s:za) (m:Int) (x:ze):za×ze :=
 (s,if x.Old=0\/yp s.T x.Old≠0 then {x with PC:=23,Old:=0} else {x with PC:=22})
def zfR (s:za) (m:Int) (x:ze):za×ze :=
 (s,if s.P.Buf<=(x.Buf.length:Int) then {x with PC:=1,Ret:=22} else {x with PC:=23,Old:=0,Buf:=x.Buf++[x.Old]})
def zhd (s:za) (m:Int) (x:ze):za×ze :=
 ({s with H:=xM s.H (wX x (opM s.P m x).A) (opM s.P m x).S (wX x (opM s.P m x).R)},v8 x)
def UN (s:za) (m:Int) (x:ze):za×ze :=
   if zcC s.L m s.P.Price s.P.Limit=true then
   if ZB s.H s.P.Most=true then ({s with L:=V1 s.L m s.P.Price,H:=yP s.H,T:=Y0 s.T (wc (s.H.Objs.length+1))},setM x (opM s.P m x).R (wc (s.H.Objs.length+1)))
   else (s,v8 x)
  else (s,{x with PC:=31})
def zfT (s:za) (m:Int) (x:ze):za×ze :=
   ({s with L:=(U3 s.L m (zsh s.L m s.P.Price s.P.Limit)).1},if (U3 s.L m (zsh s.L m s.P.Price s.P.Limit)).2=0 then {x with PC:=32,C:=zDW s.P (yr s.P) x.Bin} else {x with PC:=0})
def zfa (s:za) (m:Int) (x:ze):za×ze :=
   ({s with M:=(zC s.M x.C).1},if (zC s.M x.C).2.Out=1 then {x with PC:=33,Bin:=(zC s.M x.C).2.X,C:=(zC s.M x.C).2}
   else if (zC s.M x.C).2.Out=2 then {x with PC:=0,C:=(zC s.M x.C).2} else {x with C:=(zC s.M x.C).2})
def zjX (s:za) (m:Int) (x:ze):za×ze :=
 ({s with Bins:=s.Bins.set x.Bin.toNat []},{x with Batch:=Ud s x.Bin,PC:=34,C:=zc4 s.P (zU s.P) x.Bin})
def zgh (s:za) (m:Int) (x:ze):za×ze :=
   ({s with M:=(zC s.M x.C).1},if (zC s.M x.C).2.Out=1 then {x with C:=(zC s.M x.C).2,Bin:=0,PC:=35} else {x with C:=(zC s.M x.C).2})
def zgj (s:za) (m:Int) (x:ze):za×ze :=
 (s,match x.Batch with | []=>{x with PC:=0} | o::l=>{x with PC:=36,Obj:=o,Slot:=0,Batch:=l})
def zfM (s:za) (m:Int) (x:ze):za×ze :=
   (s,if zW s.H x.Obj x.Slot=0 then {x with Slot:=wc (x.Slot+1),PC:=onM s (wc (x.Slot+1))} else {x with Slot:=wc (x.Slot+1),PC:=37,G:=YG 3 (zW s.H x.Obj x.Slot) m})
def za5 (s:za) (m:Int) (x:ze):za×ze :=
 ((zG s x.G).1,if (zG s x.G).2.Out=1 then {x with G:=(zG s x.G).2,PC:=onM s x.Slot} else {x with G:=(zG s x.G).2})
def zg4 (s:za) (m:Int) (x:ze):za×ze :=
 ({s with T:=xj s.T x.Obj,L:=Ui s.L m},{x with PC:=39})
def zme (s:za) (m:Int) (x:ze):za×ze :=
 ({s with Work:=wc (s.Work-1)},{x with Obj:=0,PC:=35})
def zt (s:za) (m:Int) (x:ze):za×ze :=
 if x.PC=0 then mu0 s m x
 else if x.PC=1 then mu1 s m x
 else if x.PC=2 then mu2 s m x
 else if x.PC=3 then mu3 s m x
 else if x.PC=10 then zkb s m x
 else if x.PC=20 then zfC s m x
 else if x.PC=21 then zgk s m x
 else if x.PC=22 then zfR s m x
 else if x.PC=23 then zhd s m x
 else if x.PC=30 then UN s m x
 else if x.PC=31 then zfT s m x
 else if x.PC=32 then zfa s m x
 else if x.PC=33 then zjX s m x
 else if x.PC=34 then zgh s m x
 else if x.PC=35 then zgj s m x
 else if x.PC=36 then zfM s m x
 else if x.PC=37 then za5 s m x
 else if x.PC=38 then zg4 s m x
 else if x.PC=39 then zme s m x
 else (s,x)
def zO (s:za) (m:Int):za :=
 if s.Done=true\/m<1\/(s.Ms.length:Int)<m then s
 else match s.Ms[(m-1).toNat]? with
  | some x=>{(zt s m x).1 with Ms:=s.Ms.set (m-1).toNat (zt s m x).2}
  | none=>s
def zin (p:zd) (m:Int):Nat:=(p.Regs.getD (m-1).toNat []).length
structure XOk (p:zd) (nb:Nat) (m:Int) (x:ze):Prop where
 pc:(0<=x.PC/\x.PC<=3)\/x.PC=10\/(20<=x.PC/\x.PC<=23)\/(30<=x.PC/\x.PC<=39)
 regs:x.Regs.length=zin p m
 ip:0<=x.IP/\x.IP<=((vO p m).length:Int)
 op:(10<=x.PC/\x.PC<=30)\/((x.PC=1\/x.PC=3)/\x.Ret=22)->x.IP<((vO p m).length:Int)
 ret:x.PC=1\/x.PC=3->x.Ret=2\/x.Ret=22
 c32:x.PC=32->zEs p nb (yr p) x.C
 b33:x.PC=33->1<=x.Bin/\x.Bin<nb
 c34:x.PC=34->zAs p nb (zU p) x.C
 bin:x.PC≠33->x.PC≠34->x.Bin=0
 g:x.PC=3\/x.PC=37->MOk p nb x.G/\(x.G.PC=5->x.G.C.Out≠1)/\x.G.Mode≠1
 buf:(x.Buf.length:Int)<=p.Buf
theorem XOk.move {p:zd}{nb:Nat}{m:Int}{x y:ze}(X:XOk p nb m x) (h:x.PC≠33/\x.PC≠34) (pc:y.PC=0\/y.PC=2\/y.PC=10\/(20<=y.PC/\y.PC<=23)\/y.PC=30\/y.PC=31\/y.PC=35\/y.PC=36\/y.PC=38\/y.PC=39)
  (regs:y.Regs.length=x.Regs.length) (bin:y.Bin=x.Bin) (buf:(y.Buf.length:Int)<=p.Buf) (ip:0<=y.IP/\y.IP<=((vO p m).length:Int)) (op:10<=y.PC/\y.PC<=30->y.IP<((vO p m).length:Int)):XOk p nb m y :=
 ⟨by omega,regs.trans X.regs,ip,fun e=>op (by omega),fun e=>by omega,fun e=>by omega,fun e=>by omega,fun e=>by omega,fun _ _=>bin.trans (X.bin h.1 h.2),fun e=>by omega,buf⟩
theorem zdI (s:za) (i:Int):onM s i=36\/onM s i=38:=by unfold onM;split<;>simp
theorem XOk.next {p:zd}{nb:Nat}{m:Int}{x:ze}(hp:((vO p m).length:Int)<=64) (X:XOk p nb m x) (h:x.PC≠33/\x.PC≠34) (hi:x.IP<((vO p m).length:Int)):XOk p nb m (v8 x):=by
 have:=X.ip;have e:wc (x.IP+1)=x.IP+1:=yQ;refine X.move h (.inl rfl) rfl rfl X.buf ?_ (fun h=>zm h (by show ¬((10:Int)<=0/\(0:Int)<=30);decide));show 0<=wc (x.IP+1)/\wc (x.IP+1)<=_;rw [e];omega
theorem XOk.set {p:zd}{nb:Nat}{m:Int}{x:ze}(hp:((vO p m).length:Int)<=64) (X:XOk p nb m x) (h:x.PC≠33/\x.PC≠34) (hi:x.IP<((vO p m).length:Int)) (r v:Int):XOk p nb m (setM x r v):=by
 have:=X.ip;have e:wc (x.IP+1)=x.IP+1:=yQ;refine X.move h (.inl rfl) (by simp [setM]) rfl X.buf ?_ (fun h=>zm h (by show ¬((10:Int)<=0/\(0:Int)<=30);decide));show 0<=wc (x.IP+1)/\wc (x.IP+1)<=_;rw [e];omega
theorem xZ {motive:za×ze->Prop}(s:za) (m:Int) (x:ze) (h0:x.PC=0->motive (mu0 s m x)) (h1:x.PC=1->motive (mu1 s m x)) (h2:x.PC=2->motive (mu2 s m x)) (h3:x.PC=3->motive (mu3 s m x)) (h10:x.PC=10->motive (zkb s m x)) (h20:x.PC=20->motive (zfC s m x)) (h21:x.PC=21->motive (zgk s m x)) (h22:x.PC=22->motive (zfR s m x)) (h23:x.PC=23->motive (zhd s m x)) (h30:x.PC=30->motive (UN s m x)) (h31:x.PC=31->motive (zfT s m x)) (h32:x.PC=32->motive (zfa s m x)) (h33:x.PC=33->motive (zjX s m x)) (h34:x.PC=34->motive (zgh s m x)) (h35:x.PC=35->motive (zgj s m x)) (h36:x.PC=36->motive (zfM s m x)) (h37:x.PC=37->motive (za5 s m x)) (h38:x.PC=38->motive (zg4 s m x)) (h39:x.PC=39->motive (zme s m x)) (hn:motive (s,x)):motive (zt s m x):=by
 unfold zt;by_cases c0:x.PC=0
 .rw [zb c0];exact h0 c0
 rw [zc c0];by_cases c1:x.PC=1
 .rw [zb c1];exact h1 c1
 rw [zc c1];by_cases c2:x.PC=2
 .rw [zb c2];exact h2 c2
 rw [zc c2];by_cases c3:x.PC=3
 .rw [zb c3];exact h3 c3
 rw [zc c3];by_cases c10:x.PC=10
 .rw [zb c10];exact h10 c10
 rw [zc c10];by_cases c20:x.PC=20
 .rw [zb c20];exact h20 c20
 rw [zc c20];by_cases c21:x.PC=21
 .rw [zb c21];exact h21 c21
 rw [zc c21];by_cases c22:x.PC=22
 .rw [zb c22];exact h22 c22
 rw [zc c22];by_cases c23:x.PC=23
 .rw [zb c23];exact h23 c23
 rw [zc c23];by_cases c30:x.PC=30
 .rw [zb c30];exact h30 c30
 rw [zc c30];by_cases c31:x.PC=31
 .rw [zb c31];exact h31 c31
 rw [zc c31];by_cases c32:x.PC=32
 .rw [zb c32];exact h32 c32
 rw [zc c32];by_cases c33:x.PC=33
 .rw [zb c33];exact h33 c33
 rw [zc c33];by_cases c34:x.PC=34
 .rw [zb c34];exact h34 c34
 rw [zc c34];by_cases c35:x.PC=35
 .rw [zb c35];exact h35 c35
 rw [zc c35];by_cases c36:x.PC=36
 .rw [zb c36];exact h36 c36
 rw [zc c36];by_cases c37:x.PC=37
 .rw [zb c37];exact h37 c37
 rw [zc c37];by_cases c38:x.PC=38
 .rw [zb c38];exact h38 c38
 rw [zc c38];by_cases c39:x.PC=39
 .rw [zb c39];exact h39 c39
 rw [zc c39];exact hn
theorem zGj {p:zd}{nb:Nat}{s:za}{m:Int}{x:ze}(h:zI p) (hp:((vO p m).length:Int)<=64) (S:SOk p nb s) (X:XOk p nb m x):SOk p nb (zt s m x).1/\XOk p nb m (zt s m x).2:=by
 have hP:=S.P;have hip:=X.ip;have hbuf:=X.buf;have hb:=h.buf;have nop:∀y:Int,31<=y->¬(10<=y/\y<=30):=fun y h e=>by omega
 refine xZ (motive:=fun r=>SOk p nb r.1/\XOk p nb m r.2) s m x ?_ ?_ ?_ ?_ ?_ ?_ ?_ ?_ ?_ ?_ ?_ ?_ ?_ ?_ ?_ ?_ ?_ ?_ ?_ ?_
 .intro c;unfold mu0;refine ⟨S,?_⟩;unfold zac;rw [hP];split
  .exact ⟨.inl ⟨(by show (0:Int)<=1;decide),(by show (1:Int)<=3;decide)⟩,X.regs,X.ip,fun e=>by dsimp only at e;omega,fun _=>.inl rfl,fun e=>(by cases e),fun e=>(by cases e),fun e=>(by cases e),fun _ _=>X.bin (by omega) (by omega),fun e=>by dsimp only at e;omega,X.buf⟩
  split
  .exact X
  rename_i hlt;have hlt:x.IP<((vO p m).length:Int):=by omega
  split
  .exact X.move (by omega) (.inr (.inr (.inl rfl))) rfl rfl X.buf X.ip (fun _=>hlt)
  split
  .exact X.move (by omega) (.inr (.inr (.inr (.inl ⟨by show (20:Int)<=20;decide,by show (20:Int)<=23;decide⟩)))) rfl rfl X.buf X.ip (fun _=>hlt)
  split
  .exact X.move (by omega) (.inr (.inr (.inr (.inr (.inl rfl))))) rfl rfl X.buf X.ip (fun _=>hlt)
  split
  .exact X.set hp (by omega) hlt _ _
  .exact X.set hp (by omega) hlt _ _
 .intro c;unfold mu1;refine ⟨S,?_⟩;split
  .rcases X.ret (.inl c) with e | e
   .exact X.move (by omega) (.inr (.inl e)) rfl rfl X.buf X.ip (fun e2=>by dsimp only at e2;omega)
   .exact X.move (by omega) (.inr (.inr (.inr (.inl (by dsimp only;omega))))) rfl rfl X.buf X.ip (fun e2=>X.op (.inr ⟨.inl c,e⟩))
  .exact ⟨.inl ⟨(by show (0:Int)<=3;decide),(by show (3:Int)<=3;decide)⟩,X.regs,X.ip,fun e=>X.op (.inr ⟨.inl c,by dsimp only at e;omega⟩),fun _=>X.ret (.inl c),fun e=>(by cases e),fun e=>(by cases e),fun e=>(by cases e),fun _ _=>X.bin (by omega) (by omega),
    fun _=>⟨⟨fun e=>zm e (by show ¬(2:Int)=1;decide),fun e=>(by cases e),fun e=>(by cases e),fun e=>(by cases e),fun e=>(by cases e)⟩,fun e=>(by cases e),by show (2:Int)≠1;decide⟩,by dsimp only;rw [zLQ];omega⟩
 .intro c;unfold mu2;exact ⟨S.keep rfl rfl rfl,X.move (by omega) (.inl rfl) rfl rfl X.buf X.ip (fun e=>zm e (by show ¬((10:Int)<=0/\(0:Int)<=30);decide))⟩
 .intro c;unfold mu3;obtain ⟨g1,g2,g3⟩:=X.g (.inl c);obtain ⟨r1,r2,r3⟩:=zsW h S g1 g2;refine ⟨r1,?_⟩;dsimp only;split
  .exact ⟨.inl ⟨(by show (0:Int)<=1;decide),(by show (1:Int)<=3;decide)⟩,X.regs,X.ip,fun e=>X.op (.inr ⟨.inr c,by dsimp only at e;omega⟩),fun _=>X.ret (.inr c),fun e=>(by cases e),fun e=>(by cases e),fun e=>(by cases e),fun _ _=>X.bin (by omega) (by omega),fun e=>by dsimp only at e;omega,X.buf⟩
  .exact ⟨X.pc,X.regs,X.ip,X.op,X.ret,fun e=>by dsimp only at e;omega,fun e=>by dsimp only at e;omega,fun e=>by dsimp only at e;omega,X.bin,fun _=>⟨r2,r3,by rw [(za8 s x.G).2.2];exact g3⟩,X.buf⟩
 .intro c;unfold zkb;exact ⟨S,X.set hp (by omega) (X.op (.inl (by omega))) _ _⟩
 .intro c;unfold zfC;refine ⟨S,?_⟩;split
  .exact X.next hp (by omega) (X.op (.inl (by omega)))
  .exact X.move (by omega) (.inr (.inr (.inr (.inl ⟨by show (20:Int)<=21;decide,by show (21:Int)<=23;decide⟩)))) rfl rfl X.buf X.ip (fun _=>X.op (.inl (by omega)))
 .intro c;unfold zgk;refine ⟨S,?_⟩;split
  .exact X.move (by omega) (.inr (.inr (.inr (.inl ⟨by show (20:Int)<=23;decide,by show (23:Int)<=23;decide⟩)))) rfl rfl X.buf X.ip (fun _=>X.op (.inl (by omega)))
  .exact X.move (by omega) (.inr (.inr (.inr (.inl ⟨by show (20:Int)<=22;decide,by show (22:Int)<=23;decide⟩)))) rfl rfl X.buf X.ip (fun _=>X.op (.inl (by omega)))
 .intro c;unfold zfR;have hi:=X.op (.inl (by omega));refine ⟨S,?_⟩;rw [hP];split
  .exact ⟨.inl ⟨(by show (0:Int)<=1;decide),(by show (1:Int)<=3;decide)⟩,X.regs,X.ip,fun e=>hi,fun _=>.inr rfl,fun e=>(by cases e),fun e=>(by cases e),fun e=>(by cases e),fun _ _=>X.bin (by omega) (by omega),fun e=>by dsimp only at e;omega,X.buf⟩
  .exact X.move (by omega) (.inr (.inr (.inr (.inl ⟨by show (20:Int)<=23;decide,by show (23:Int)<=23;decide⟩)))) rfl rfl (by simp;omega) X.ip (fun _=>hi)
 .intro c;unfold zhd;exact ⟨S.keep rfl rfl rfl,X.next hp (by omega) (X.op (.inl (by omega)))⟩
 .intro c;unfold UN;have hi:=X.op (.inl (by omega));split
  .split
   .exact ⟨S.keep rfl rfl rfl,X.set hp (by omega) hi _ _⟩
   .exact ⟨S,X.next hp (by omega) hi⟩
  .exact ⟨S,X.move (by omega) (.inr (.inr (.inr (.inr (.inr (.inl rfl)))))) rfl rfl X.buf X.ip (fun e=>zm e (by show ¬((10:Int)<=31/\(31:Int)<=30);decide))⟩
 .intro c;unfold zfT;refine ⟨S.keep rfl rfl rfl,?_⟩;rw [hP];split
  .exact ⟨.inr (.inr (.inr ⟨(by show (30:Int)<=32;decide),(by show (32:Int)<=39;decide)⟩)),X.regs,X.ip,fun e=>by dsimp only at e;omega,fun e=>by dsimp only at e;omega,fun _=>zDg,fun e=>(by cases e),fun e=>(by cases e),fun _ _=>X.bin (by omega) (by omega),fun e=>by dsimp only at e;omega,X.buf⟩
  .exact X.move (by omega) (.inl rfl) rfl rfl X.buf X.ip (fun e=>zm e (by show ¬((10:Int)<=0/\(0:Int)<=30);decide))
 .intro c;unfold zfa;have C:=X.c32 c;obtain ⟨b1,b2,b3,b4,b5,b6⟩:=zCj h S (.inl rfl) C.k C.h C.n C.v C.y C.o;refine ⟨b1,?_⟩;dsimp only;split
  .rename_i e1;exact ⟨.inr (.inr (.inr ⟨(by show (30:Int)<=33;decide),(by show (33:Int)<=39;decide)⟩)),X.regs,X.ip,fun e=>by dsimp only at e;omega,fun e=>by dsimp only at e;omega,fun e=>(by cases e),fun _=>b6 e1,fun e=>(by cases e),fun e=>zm rfl e,fun e=>by dsimp only at e;omega,X.buf⟩
  split
  .exact X.move (by omega) (.inl rfl) rfl rfl X.buf X.ip (fun e=>zm e (by show ¬((10:Int)<=0/\(0:Int)<=30);decide))
  .rename_i e1 e2;exact ⟨X.pc,X.regs,X.ip,X.op,X.ret,fun _=>⟨b2,b3,b4,(b5 e1 e2).1,(b5 e1 e2).2,e1⟩,fun e=>by dsimp only at e;omega,fun e=>by dsimp only at e;omega,X.bin,fun e=>by dsimp only at e;omega,X.buf⟩
 .intro c;unfold zjX;have B:=X.b33 c;refine ⟨S.keep rfl rfl (by simp),?_⟩;rw [hP];exact ⟨.inr (.inr (.inr ⟨(by show (30:Int)<=34;decide),(by show (34:Int)<=39;decide)⟩)),X.regs,X.ip,fun e=>by dsimp only at e;omega,fun e=>by dsimp only at e;omega,fun e=>(by cases e),fun e=>(by cases e),fun _=>zBI B,fun _ e=>zm rfl e,fun e=>by dsimp only at e;omega,X.buf⟩
 .intro c;unfold zgh;have C:=X.c34 c;obtain ⟨b1,b2,b3,b4,b5,b6⟩:=zyu h S (.inr rfl) C.k C.h C.n C.x C.v;refine ⟨b1,?_⟩;dsimp only;split
  .exact ⟨.inr (.inr (.inr ⟨(by show (30:Int)<=35;decide),(by show (35:Int)<=39;decide)⟩)),X.regs,X.ip,fun e=>by dsimp only at e;omega,fun e=>by dsimp only at e;omega,fun e=>(by cases e),fun e=>(by cases e),fun e=>(by cases e),fun _ _=>rfl,fun e=>by dsimp only at e;omega,X.buf⟩
  .exact ⟨X.pc,X.regs,X.ip,X.op,X.ret,fun e=>by dsimp only at e;omega,fun e=>by dsimp only at e;omega,fun _=>⟨b2,b3,b4,b5,b6⟩,X.bin,fun e=>by dsimp only at e;omega,X.buf⟩
 .intro c;unfold zgj;refine ⟨S,?_⟩;dsimp only;split
  .exact X.move (by omega) (.inl rfl) rfl rfl X.buf X.ip (fun e=>zm e (by show ¬((10:Int)<=0/\(0:Int)<=30);decide))
  .exact X.move (by omega) (by simp) rfl rfl X.buf X.ip (fun e=>zm e (nop 36 (by omega)))
 .intro c;unfold zfM;refine ⟨S,?_⟩;dsimp only;split
  .rcases zdI s (wc (x.Slot+1)) with e | e<;>rw [e]
   .exact X.move (by omega) (by simp) rfl rfl X.buf X.ip (fun e=>zm e (nop 36 (by omega)))
   .exact X.move (by omega) (by simp) rfl rfl X.buf X.ip (fun e=>zm e (nop 38 (by omega)))
  .exact ⟨.inr (.inr (.inr ⟨(by show (30:Int)<=37;decide),(by show (37:Int)<=39;decide)⟩)),X.regs,X.ip,fun e=>by dsimp only at e;omega,fun e=>by dsimp only at e;omega,fun e=>(by cases e),fun e=>(by cases e),fun e=>(by cases e),fun _ _=>X.bin (by omega) (by omega),
    fun _=>⟨⟨fun e=>zm e (by show ¬(3:Int)=1;decide),fun e=>(by cases e),fun e=>(by cases e),fun e=>(by cases e),fun e=>(by cases e)⟩,fun e=>(by cases e),by show (3:Int)≠1;decide⟩,X.buf⟩
 .intro c;unfold za5;obtain ⟨g1,g2,g3⟩:=X.g (.inr c);obtain ⟨r1,r2,r3⟩:=zsW h S g1 g2;refine ⟨r1,?_⟩;dsimp only;split
  .rcases zdI s x.Slot with e | e<;>rw [e]
   .exact X.move (by omega) (by simp) rfl rfl X.buf X.ip (fun e=>zm e (nop 36 (by omega)))
   .exact X.move (by omega) (by simp) rfl rfl X.buf X.ip (fun e=>zm e (nop 38 (by omega)))
  .exact ⟨X.pc,X.regs,X.ip,X.op,X.ret,fun e=>by dsimp only at e;omega,fun e=>by dsimp only at e;omega,fun e=>by dsimp only at e;omega,X.bin,fun _=>⟨r2,r3,by rw [(za8 s x.G).2.2];exact g3⟩,X.buf⟩
 .intro c;unfold zg4;exact ⟨S.keep rfl rfl rfl,X.move (by omega) (by simp) rfl rfl X.buf X.ip (fun e=>zm e (nop 39 (by omega)))⟩
 .intro c;unfold zme;exact ⟨S.keep rfl rfl rfl,X.move (by omega) (by simp) rfl rfl X.buf X.ip (fun e=>zm e (nop 35 (by omega)))⟩
 .exact ⟨S,X⟩
structure WI (s:za):Prop where
 m:s.M.length<1000000
 bins:s.Bins.length<1000000
 bin:∀x∈s.Bins,x.length<1000000
 acks:s.Acks.length<1000000
 bal:s.L.Bal.length<1000000
 ws:s.Ws.length<1000000
 w:∀x∈s.Ws,x.Batch.length<1000000
 ms:s.Ms.length<1000000
 mu:∀x∈s.Ms,x.Regs.length<1000000/\x.Buf.length<1000000/\x.Batch.length<1000000
 objs:s.H.Objs.length<1000000
 obj:∀x∈s.H.Objs,x.length<1000000
 pobjs:s.P.H.Objs.length<1000000
 pobj:∀x∈s.P.H.Objs,x.length<1000000
 regs:s.P.Regs.length<1000000
 reg:∀x∈s.P.Regs,x.length<1000000
 progs:s.P.Progs.length<1000000
 prog:∀x∈s.P.Progs,x.length<1000000
 picks:s.P.Picks.length<1000000
theorem zcR (m:List (BitVec 64)) (c:zV):(zC m c).1.length=m.length:=by
 unfold zC sw;split
 .rfl
 split
 .rfl
 split
 .split<;>simp [YH]
 .dsimp only;split<;>simp [YH]
theorem zkW (m:List (BitVec 64)) (d:zg):(xn m d).1.length=m.length:=by
 unfold xn;split
 .rfl
 split
 .rfl
 split
 .rfl
 split<;>simp [YH]
theorem zfc (s:za) (g:zJ):∃m b t w f,(zG s g).1={s with M:=m,Bins:=b,T:=t,Work:=w,Flag:=f}/\m.length=s.M.length/\b.length=s.Bins.length /\
  (∀x∈b,x∈s.Bins\/x=[g.Obj])/\(t=s.T\/t=(shade s.T g.Obj).1)/\(w=s.Work\/w=wc (s.Work+1)\/w=wc (s.Work-1)):=by
 unfold zG;split
 .exact ⟨s.M,s.Bins,s.T,s.Work,s.Flag,rfl,rfl,rfl,fun x h=>.inl h,.inl rfl,.inl rfl⟩
 split
 .exact ⟨_,s.Bins,s.T,s.Work,s.Flag,rfl,zcR _ _,rfl,fun x h=>.inl h,.inl rfl,.inl rfl⟩
 split
 .refine ⟨s.M,_,s.T,s.Work,s.Flag,rfl,rfl,by simp,fun x h=>?_,.inl rfl,.inl rfl⟩;rcases zLo h with h | h
  .exact .inl h
  .exact .inr h
 split
 .exact ⟨_,s.Bins,s.T,s.Work,s.Flag,rfl,zcR _ _,rfl,fun x h=>.inl h,.inl rfl,.inl rfl⟩
 split
 .exact ⟨s.M,s.Bins,s.T,s.Work,true,rfl,rfl,rfl,fun x h=>.inl h,.inl rfl,.inl rfl⟩
 split
 .exact ⟨_,s.Bins,s.T,s.Work,s.Flag,rfl,zkW _ _,rfl,fun x h=>.inl h,.inl rfl,.inl rfl⟩
 split
 .exact ⟨s.M,s.Bins,s.T,_,s.Flag,rfl,rfl,rfl,fun x h=>.inl h,.inl rfl,.inr (.inr rfl)⟩
 split
 .exact ⟨s.M,s.Bins,_,s.Work,s.Flag,rfl,rfl,rfl,fun x h=>.inl h,.inr rfl,.inl rfl⟩
 .exact ⟨s.M,s.Bins,s.T,_,s.Flag,rfl,rfl,rfl,fun x h=>.inl h,.inl rfl,.inr (.inl rfl)⟩
theorem zF8 {p:zd}(h:zI p):WI (xF p):=by
 have S:=zDy h;have hb:=zej h;have hg:=znF h;have hn:=h.n;have hm:=h.mt;have hw:=h.wk;have hs:=h.slots;have hrl:=h.regs;have hpl:=h.progs;have hobj:∀o∈p.H.Objs,o.length<1000000:=fun o ho=>by have:=(h.objs o ho).1;omega
 have hreg:∀r∈p.Regs,r.length<1000000:=fun r hr=>by have:=(h.reg r hr).1;omega
 refine ⟨by have:=S.mem;omega,by rw [S.bins];omega,fun x hx=>?_,?_,?_,?_,fun x hx=>?_,?_,fun x hx=>?_,by show p.H.Objs.length<_;omega,hobj,by show p.H.Objs.length<_;omega,hobj,by show p.Regs.length<_;omega,hreg,by show p.Progs.length<_;omega,fun x hx=>?_,?_⟩
 .have hx:x∈[[]]++xH p++List.replicate (yg p-(xH p).length) []:=hx;rcases zK4.1 hx with hx | hx
  .rcases zK4.1 hx with hx | hx
   .simp at hx;subst hx;simp
   .have:=zob _ _ _ _ hx;omega
  .have:=(List.mem_replicate.1 hx).2;subst this;simp
 .show (List.replicate p.Mutators.toNat (0:Int)).length<_;simp;omega
 .show (List.replicate p.Mutators.toNat (0:Int)).length<_;simp;omega
 .show ((List.range p.Workers.toNat).map (uA p)).length<_;simp;omega
 .have hx:x∈(List.range p.Workers.toNat).map (uA p):=hx;obtain ⟨i,_,rfl⟩:=zKT.1 hx;simp [uA]
 .show (p.Regs.map vq).length<_;simp;omega
 .have hx:x∈p.Regs.map vq:=hx;obtain ⟨r,hr,rfl⟩:=zKT.1 hx;exact ⟨hreg r hr,by simp [vq],by simp [vq]⟩
 .obtain ⟨i,hi⟩:=List.getElem?_of_mem hx;have hlt:=(zKO.1 hi).1;have:=(h.prog i _ x (zKG (show i<p.Regs.length from (show p.Progs.length=p.Regs.length by omega)▸hlt)) hi).1;omega
 .show p.Picks.length<_;rw [h.picks];simp
def xY (s:za):za :=
 if s.Done=true then s
 else if s.D.PC=0 then {s with Flag:=false,D:={s.D with PC:=1}}
 else if s.D.PC=1 then (if s.Work=0 then {s with D:={s.D with PC:=2}} else s)
 else if s.D.PC=2 then {s with Epoch:=wc (s.Epoch+1),D:=⟨if s.Ms.length=0 then 4 else 3,0⟩}
 else if s.D.PC=3 then (if s.Acks.getD s.D.I.toNat 0<s.Epoch then s else {s with D:=⟨if wc (s.D.I+1)=(s.Ms.length:Int) then 4 else 3,wc (s.D.I+1)⟩})
 else if s.D.PC=4 then (if s.Work=0 then {s with D:={s.D with PC:=5}} else {s with Restarts:=wc (s.Restarts+1),D:={s.D with PC:=0}})
 else if s.D.PC=5 then (if s.Flag=true then {s with Restarts:=wc (s.Restarts+1),D:={s.D with PC:=0}} else {s with D:={s.D with PC:=6}})
 else if s.D.PC=6 then {s with Done:=true}
 else s
structure HOk (p:zd) (h:zr):Prop where
 slots:h.Slots=p.H.Slots
 n:(p.H.Objs.length:Int)<=(h.Objs.length:Int)/\(h.Objs.length:Int)<=p.Most
 objs:∀o∈h.Objs,(o.length:Int)=h.Slots/\∀v∈o,0<=v/\v<=(h.Objs.length:Int)
structure EOk (p:zd) (nb:Nat) (s:za):Prop where
 S:SOk p nb s
 wl:(s.Ws.length:Int)=p.Workers
 ml:(s.Ms.length:Int)=p.Mutators
 al:s.Acks.length=s.Ms.length
 W:∀(i:Nat) x,s.Ws[i]? =some x->WOk p nb ((i:Int)+1) x
 X:∀(i:Nat) x,s.Ms[i]? =some x->XOk p nb ((i:Int)+1) x
 H:HOk p s.H
 D:(0<=s.D.PC/\s.D.PC<=6)/\(s.D.PC=3->0<=s.D.I/\s.D.I<(s.Ms.length:Int))
 small:WI s
theorem zwR {p:zd}(h:zI p) (m:Int):((vO p m).length:Int)<=64:=by
 unfold vO;have hr:=h.regs;have hp:=h.progs;rw [zKH];rcases zLh (m-1).toNat p.Progs.length with hl | hl
 .rw [zKG hl];have hl2:(m-1).toNat<p.Regs.length:=by omega
  have:=(h.prog (m-1).toNat _ _ (zKG hl2) (zKG hl)).1;show ((p.Progs[(m-1).toNat]).length:Int)<=64;omega
 .rw [zLN hl];show (([]:List zE).length:Int)<=64;simp
theorem zAC {p:zd}(h:zI p):EOk p (yg p+1) (xF p):=by
 have hw:=h.wk;have hm:=h.mt;have hr:=h.regs;have hn:=h.n;have hmo:=h.most;have hb:=h.buf;refine ⟨zDy h,?_,?_,?_,fun i x hx=>?_,fun i x hx=>?_,⟨rfl,⟨zK6 _,hmo.1⟩,h.objs⟩,⟨⟨by show (0:Int)<=0;decide,by show (0:Int)<=6;decide⟩,fun e=>zm e (by show ¬(0:Int)=3;decide)⟩,zF8 h⟩
 .show (((List.range p.Workers.toNat).map (uA p)).length:Int)=_;rw [zLA,List.length_range];omega
 .show ((p.Regs.map vq).length:Int)=_;rw [zLA];exact hr
 .show (List.replicate p.Mutators.toNat (0:Int)).length=(p.Regs.map vq).length;rw [zLl,zLA];omega
 .have hx:((List.range p.Workers.toNat).map (uA p))[i]? =some x:=hx;rw [zLe] at hx;rcases zLh i p.Workers.toNat with hl | hl
  .rw [List.getElem?_range hl] at hx;injection hx with hx;subst hx;exact ⟨⟨by show (0:Int)<=0;decide,by show (0:Int)<=9;decide⟩,by show 1<=(i:Int)+1/\(i:Int)+1<=p.Workers;omega,fun _=>⟨rfl,rfl,rfl⟩,fun e=>(by cases e),fun e=>(by cases e),fun e=>(by cases e),fun e=>(by cases e),fun e=>(by cases e)⟩
  .rw [zLN (by rw [List.length_range];exact hl)] at hx;cases hx
 .have hx:(p.Regs.map vq)[i]? =some x:=hx;rw [zLe] at hx;cases hq:p.Regs[i]? with
  | none=>rw [hq] at hx;cases hx
  | some r =>
   rw [hq] at hx;injection hx with hx;subst hx;refine ⟨.inl ⟨by show (0:Int)<=0;decide,by show (0:Int)<=3;decide⟩,?_,⟨by show (0:Int)<=0;decide,by show (0:Int)<=_;omega⟩,fun e=>zm e ?_,fun e=>zm e ?_,fun e=>(by cases e),fun e=>(by cases e),fun e=>(by cases e),fun _ _=>rfl,fun e=>zm e ?_,by show (0:Int)<=p.Buf;omega⟩
   .show r.length=zin p ((i:Int)+1);unfold zin;rw [show ((i:Int)+1-1).toNat=i by omega,zKH,hq];rfl
   .intro e;simp [vq] at e
   .intro e;simp [vq] at e
   .intro e;simp [vq] at e
theorem zt6 {s:za}(h:WI s) (b:Int):(Ud s b).length<1000000:=by
 unfold Ud;rw [zKH];cases hq:s.Bins[b.toNat]? with
 | none=>simp
 | some l=>exact h.bin l (zKK hq)
theorem zzm (l:zx) (w:Int):(Ui l w).Bal.length=l.Bal.length:=by unfold Ui;split<;>simp
structure VE (s s':za):Prop where
 P:s'.P=s.P
 m:s'.M.length=s.M.length
 bl:s'.Bins.length=s.Bins.length
 b:∀l∈s'.Bins,l∈s.Bins\/l.length<=1
 bal:s'.L.Bal.length=s.L.Bal.length
 ac:s'.Acks.length=s.Acks.length
 ws:s'.Ws=s.Ws
 ms:s'.Ms=s.Ms
 done:s'.Done=s.Done
 d:s'.D=s.D
theorem VE.refl (s:za):VE s s:=⟨rfl,rfl,rfl,fun l h=>.inl h,rfl,rfl,rfl,rfl,rfl,rfl⟩
theorem zeB (s:za) (g:zJ):VE s (zG s g).1/\(zG s g).1.H=s.H:=by
 obtain ⟨m,b,t,w,f,e,h1,h2,h3,_,_⟩:=zfc s g;rw [e];exact ⟨⟨rfl,h1,h2,fun l hl=>(h3 l hl).imp id (fun e=>by rw [e];simp),rfl,rfl,rfl,rfl,rfl,rfl⟩,rfl⟩
theorem zDz {s:za}(b:Nat):∀l∈s.Bins.set b [],l∈s.Bins\/l.length<=1:=fun l hl=>(zLo hl).imp id (fun e=>by rw [e];simp)
theorem zy2 (s:za) (w:Int) (x:zj):VE s (zu s w x).1/\(zu s w x).1.H=s.H:=by
 unfold zu;split
 .exact ⟨⟨rfl,(zoi _ _).1,rfl,fun l h=>.inl h,rfl,rfl,rfl,rfl,rfl,rfl⟩,rfl⟩
 split
 .exact ⟨⟨rfl,zcR _ _,rfl,fun l h=>.inl h,rfl,rfl,rfl,rfl,rfl,rfl⟩,rfl⟩
 split
 .exact ⟨⟨rfl,rfl,by simp,zDz _,rfl,rfl,rfl,rfl,rfl,rfl⟩,rfl⟩
 split
 .exact ⟨⟨rfl,zcR _ _,rfl,fun l h=>.inl h,rfl,rfl,rfl,rfl,rfl,rfl⟩,rfl⟩
 split
 .exact ⟨VE.refl s,rfl⟩
 split
 .exact zeB s x.G
 split
 .exact ⟨VE.refl s,rfl⟩
 split
 .exact ⟨⟨rfl,rfl,rfl,fun l h=>.inl h,zzm _ _,rfl,rfl,rfl,rfl,rfl⟩,rfl⟩
 split
 .exact ⟨⟨rfl,rfl,rfl,fun l h=>.inl h,rfl,rfl,rfl,rfl,rfl,rfl⟩,rfl⟩
 .exact ⟨VE.refl s,rfl⟩
theorem zC8 (p:zd) (w:Int) (x:zj):(Yn p w x).Batch=x.Batch:=by unfold Yn;split<;>rfl
theorem zEn {s:za}(h:WI s) (w:Int) {x:zj}(hx:x.Batch.length<1000000):(zu s w x).2.Batch.length<1000000:=by
 unfold zu;split
 .dsimp only;split
  .exact hx
  split
  .rw [zC8];exact hx
  .exact hx
 split
 .dsimp only;split
  .exact hx
  split<;>exact hx
 split
 .exact zt6 h _
 split
 .dsimp only;split<;>exact hx
 split
 .dsimp only;split<;>exact hx
 split
 .dsimp only;split<;>exact hx
 split
 .dsimp only;cases hb:x.Batch with
  | nil=>show x.Batch.length<_;exact hx
  | cons o l=>rw [hb] at hx;show l.length<_;simp at hx;omega
 split
 .exact hx
 split
 .exact hx
 .exact hx
theorem zEJ (l:zx) (w p:Int):(V1 l w p).Bal.length=l.Bal.length:=by unfold V1;simp
theorem zGt (l:zx) (w n:Int):(U3 l w n).1.Bal.length=l.Bal.length:=by unfold U3;split<;>simp
theorem zA3 (s:za) (m:Int) (x:ze):VE s (zt s m x).1:=by
 have q:∀s':za,s'.P=s.P->s'.M=s.M->s'.Bins=s.Bins->s'.L.Bal.length=s.L.Bal.length->s'.Acks.length=s.Acks.length->s'.Ws=s.Ws->s'.Ms=s.Ms->s'.Done=s.Done->s'.D=s.D->VE s s' :=
  fun s' a b c d e f g h i=>⟨a,by rw [b],by rw [c],fun l hl=>.inl (c▸hl),d,e,f,g,h,i⟩
 refine xZ (motive:=fun r=>VE s r.1) s m x ?_ ?_ ?_ ?_ ?_ ?_ ?_ ?_ ?_ ?_ ?_ ?_ ?_ ?_ ?_ ?_ ?_ ?_ ?_ ?_
 .intro c;unfold mu0;exact VE.refl s
 .intro c;unfold mu1;exact VE.refl s
 .intro c;unfold mu2;exact q _ rfl rfl rfl rfl (by simp) rfl rfl rfl rfl
 .intro c;unfold mu3;exact (zeB s x.G).1
 .intro c;unfold zkb;exact VE.refl s
 .intro c;unfold zfC;exact VE.refl s
 .intro c;unfold zgk;exact VE.refl s
 .intro c;unfold zfR;exact VE.refl s
 .intro c;unfold zhd;exact q _ rfl rfl rfl rfl rfl rfl rfl rfl rfl
 .intro c;unfold UN;split
  .split
   .exact q _ rfl rfl rfl (zEJ _ _ _) rfl rfl rfl rfl rfl
   .exact VE.refl s
  .exact VE.refl s
 .intro c;unfold zfT;exact q _ rfl rfl rfl (zGt _ _ _) rfl rfl rfl rfl rfl
 .intro c;unfold zfa;exact ⟨rfl,zcR _ _,rfl,fun l h=>.inl h,rfl,rfl,rfl,rfl,rfl,rfl⟩
 .intro c;unfold zjX;exact ⟨rfl,rfl,by simp,zDz _,rfl,rfl,rfl,rfl,rfl,rfl⟩
 .intro c;unfold zgh;exact ⟨rfl,zcR _ _,rfl,fun l h=>.inl h,rfl,rfl,rfl,rfl,rfl,rfl⟩
 .intro c;unfold zgj;exact VE.refl s
 .intro c;unfold zfM;exact VE.refl s
 .intro c;unfold za5;exact (zeB s x.G).1
 .intro c;unfold zg4;exact q _ rfl rfl rfl (zzm _ _) rfl rfl rfl rfl rfl
 .intro c;unfold zme;exact q _ rfl rfl rfl rfl rfl rfl rfl rfl rfl
 .exact VE.refl s
theorem HOk.sm {p:zd}(hp:zI p) {h:zr}(H:HOk p h):h.Objs.length<1000000/\∀x∈h.Objs,x.length<1000000:=by
 have h1:=H.n;have h2:=hp.most;have h3:=hp.n;have h4:=hp.slots;have h5:=H.slots;exact ⟨by omega,fun x hx=>by have:=(H.objs x hx).1;omega⟩
theorem WI.turn {p:zd}(hp:zI p) {s s':za}(h:WI s) (T:VE s s') (H:HOk p s'.H):WI s':=by
 have hh:=H.sm hp;refine ⟨by rw [T.m];exact h.m,by rw [T.bl];exact h.bins,fun x hx=>?_,by rw [T.ac];exact h.acks,by rw [T.bal];exact h.bal,by rw [T.ws];exact h.ws,by rw [T.ws];exact h.w,by rw [T.ms];exact h.ms,by rw [T.ms];exact h.mu,hh.1,hh.2,by rw [T.P];exact h.pobjs,by rw [T.P];exact h.pobj,by rw [T.P];exact h.regs,by rw [T.P];exact h.reg,by rw [T.P];exact h.progs,by rw [T.P];exact h.prog,by rw [T.P];exact h.picks⟩;rcases T.b x hx with h' | h'
 .exact h.bin x h'
 .omega
theorem WI.setW {s:za}(h:WI s) {i:Nat}{x:zj}(hx:x.Batch.length<1000000):WI {s with Ws:=s.Ws.set i x} :=
 ⟨h.m,h.bins,h.bin,h.acks,h.bal,by simp only [zK3];exact h.ws,fun y hy=>by
  rcases zLo hy with hy | rfl
  .exact h.w y hy
  .exact hx,h.ms,h.mu,h.objs,h.obj,h.pobjs,h.pobj,h.regs,h.reg,h.progs,h.prog,h.picks⟩
theorem WI.setM {s:za}(h:WI s) {i:Nat}{x:ze}(hx:x.Regs.length<1000000/\x.Buf.length<1000000/\x.Batch.length<1000000):WI {s with Ms:=s.Ms.set i x} :=
 ⟨h.m,h.bins,h.bin,h.acks,h.bal,h.ws,h.w,by simp only [zK3];exact h.ms,fun y hy=>by
  rcases zLo hy with hy | rfl
  .exact h.mu y hy
  .exact hx,h.objs,h.obj,h.pobjs,h.pobj,h.regs,h.reg,h.progs,h.prog,h.picks⟩
theorem zDs {α:Type}{l:List α}{i j:Nat}{x y:α}(h:(l.set i x)[j]? =some y):(j=i/\y=x)\/l[j]? =some y:=by
 rw [zLt] at h;split at h
 .rename_i e;split at h
  .injection h with h;exact .inl ⟨e.symm,h.symm⟩
  .cases h
 .exact .inr h
theorem zuT {p:zd}{nb:Nat}{s:za}(h:zI p) (E:EOk p nb s) (w:Int):EOk p nb (zS s w):=by
 unfold zS;split
 .exact E
 rename_i hc;cases hx:s.Ws[(w-1).toNat]? with
 | none=>exact E
 | some x =>
  have hw1: ¬w<1:=fun e=>hc (.inr (.inl e));have hw2: ¬(s.Ws.length:Int)<w:=fun e=>hc (.inr (.inr e));have hwl:=E.wl;have ei:(((w-1).toNat:Nat):Int)+1=w:=by omega
  have hW:=E.W _ x hx;rw [ei] at hW;obtain ⟨r1,r2⟩:=zDM h (by omega) E.S hW;obtain ⟨T,TH⟩:=zy2 s w x;have sm:WI (zu s w x).1:=E.small.turn h T (by rw [TH];exact E.H);have hws:(zu s w x).1.Ws=s.Ws:=T.ws;refine ⟨r1.keep rfl rfl rfl,?_,?_,?_,fun i y hy=>?_,fun i y hy=>?_,?_,?_,?_⟩
  .show ((s.Ws.set _ _).length:Int)=_;rw [zK3];exact hwl
  .show ((zu s w x).1.Ms.length:Int)=_;rw [T.ms];exact E.ml
  .show (zu s w x).1.Acks.length=(zu s w x).1.Ms.length;rw [T.ms,T.ac];exact E.al
  .rcases zDs hy with ⟨rfl,rfl⟩ | hy
   .rw [ei];exact r2
   .exact E.W i y hy
  .have hy:(zu s w x).1.Ms[i]? =some y:=hy;rw [T.ms] at hy;exact E.X i y hy
  .show HOk p (zu s w x).1.H;rw [TH];exact E.H
  .show (0<=(zu s w x).1.D.PC/\(zu s w x).1.D.PC<=6)/\((zu s w x).1.D.PC=3->0<=(zu s w x).1.D.I/\(zu s w x).1.D.I<((zu s w x).1.Ms.length:Int));rw [T.d,T.ms];exact E.D
  .have:=sm.setW (i:=(w-1).toNat) (zEn E.small w (E.small.w x (zKK hx)));rw [hws] at this;exact this
theorem zH5 {p:zd}{nb:Nat}{s:za}(h:zI p) (E:EOk p nb s):EOk p nb (xY s):=by
 have key:∀s':za,s'.P=s.P->s'.M=s.M->s'.Bins=s.Bins->s'.Ws=s.Ws->s'.Ms=s.Ms->s'.Acks=s.Acks->s'.H=s.H->s'.L=s.L->((0<=s'.D.PC/\s'.D.PC<=6)/\(s'.D.PC=3->0<=s'.D.I/\s'.D.I<(s'.Ms.length:Int)))->EOk p nb s':=by
  intro s' e1 e2 e3 e4 e5 e6 e7 e8 e9;have q:=E.small;refine ⟨E.S.keep e1 e2 (by rw [e3]),by rw [e4];exact E.wl,by rw [e5];exact E.ml,by rw [e5,e6];exact E.al,by rw [e4];exact E.W,by rw [e5];exact E.X,by rw [e7];exact E.H,e9,?_⟩;exact ⟨by rw [e2];exact q.m,by rw [e3];exact q.bins,by rw [e3];exact q.bin,by rw [e6];exact q.acks,by rw [e8];exact q.bal,by rw [e4];exact q.ws,by rw [e4];exact q.w,by rw [e5];exact q.ms,by rw [e5];exact q.mu,by rw [e7];exact q.objs,by rw [e7];exact q.obj,by rw [e1];exact q.pobjs,by rw [e1];exact q.pobj,by rw [e1];exact q.regs,by rw [e1];exact q.reg,by rw [e1];exact q.progs,by rw [e1];exact q.prog,by rw [e1];exact q.picks⟩
 have hm:∀n:Int,0<=n/\n<=6->n≠3->∀i,(0<=(⟨n,i⟩:zN).PC/\(⟨n,i⟩:zN).PC<=6)/\((⟨n,i⟩:zN).PC=3->0<=(⟨n,i⟩:zN).I/\(⟨n,i⟩:zN).I<(s.Ms.length:Int)):=fun n h1 h2 i=>⟨h1,fun e=>zm e h2⟩
 have hml:=E.ml;have hmt:=h.mt;unfold xY;split
 .exact E
 split
 .exact key _ rfl rfl rfl rfl rfl rfl rfl rfl (hm 1 (by decide) (by decide) _)
 split
 .split
  .exact key _ rfl rfl rfl rfl rfl rfl rfl rfl (hm 2 (by decide) (by decide) _)
  .exact E
 split
 .refine key _ rfl rfl rfl rfl rfl rfl rfl rfl ?_;dsimp only;split
  .exact hm 4 (by decide) (by decide) _
  .exact ⟨by decide,fun _=>by omega⟩
 split
 .rename_i c3;have hi:=E.D.2 c3;split
  .exact E
  .refine key _ rfl rfl rfl rfl rfl rfl rfl rfl ?_;dsimp only;have e:wc (s.D.I+1)=s.D.I+1:=yQ;rw [e];split
   .exact hm 4 (by decide) (by decide) _
   .exact ⟨by decide,fun _=>by omega⟩
 split
 .split
  .exact key _ rfl rfl rfl rfl rfl rfl rfl rfl (hm 5 (by decide) (by decide) _)
  .exact key _ rfl rfl rfl rfl rfl rfl rfl rfl (hm 0 (by decide) (by decide) _)
 split
 .split
  .exact key _ rfl rfl rfl rfl rfl rfl rfl rfl (hm 0 (by decide) (by decide) _)
  .exact key _ rfl rfl rfl rfl rfl rfl rfl rfl (hm 6 (by decide) (by decide) _)
 split
 .exact key _ rfl rfl rfl rfl rfl rfl rfl rfl E.D
 .exact E
theorem HOk.put {p:zd}{h:zr}(H:HOk p h) (o s v:Int):HOk p (xM h o s v):=by
 unfold xM;split
 .rename_i c;obtain ⟨c1,c2,c3⟩:=c;unfold yz at c1;simp only [zKF,decide_eq_true_eq] at c1;refine ⟨H.slots,by simp only [zK3];exact H.n,fun l hl=>?_⟩;simp only [zK3];rcases zLo hl with hl | rfl
  .exact H.objs l hl
  .have hm:zR h o∈h.Objs:=by
    unfold zR;rw [zKH,zKG (show (o-1).toNat<h.Objs.length by omega)];exact zK1 _
   obtain ⟨a,b⟩:=H.objs _ hm;refine ⟨by rw [zK3];exact a,fun y hy=>?_⟩;rcases zLo hy with hy | rfl
   .exact b y hy
   .exact ⟨c2,c3⟩
 .exact H
theorem HOk.alloc {p:zd}(hp:zI p) {h:zr}(H:HOk p h) (hr:ZB h p.Most=true):HOk p (yP h):=by
 unfold ZB at hr;simp only [zKF,decide_eq_true_eq] at hr;have hs:=hp.slots;have hsl:=H.slots;have hn:=H.n;unfold yP;refine ⟨H.slots,by simp only [zKS,zMw];omega,fun l hl=>?_⟩;simp only [zKS,zMw];rcases zK4.1 hl with hl | hl
 .obtain ⟨a,b⟩:=H.objs l hl;exact ⟨a,fun v hv=>by have:=b v hv;omega⟩
 .rw [zLr.1 hl];refine ⟨by rw [zLl];omega,fun v hv=>?_⟩;rw [(List.mem_replicate.1 hv).2];omega
theorem zJQ {p:zd}(hp:zI p) {s:za}(hP:s.P=p) (H:HOk p s.H) (m:Int) (x:ze):HOk p (zt s m x).1.H:=by
 refine xZ (motive:=fun r=>HOk p r.1.H) s m x ?_ ?_ ?_ ?_ ?_ ?_ ?_ ?_ ?_ ?_ ?_ ?_ ?_ ?_ ?_ ?_ ?_ ?_ ?_ ?_
 .intro c;unfold mu0;exact H
 .intro c;unfold mu1;exact H
 .intro c;unfold mu2;exact H
 .intro c;unfold mu3;rw [(zeB s x.G).2];exact H
 .intro c;unfold zkb;exact H
 .intro c;unfold zfC;exact H
 .intro c;unfold zgk;exact H
 .intro c;unfold zfR;exact H
 .intro c;unfold zhd;exact H.put _ _ _
 .intro c;unfold UN;split
  .split
   .rename_i hr;rw [hP] at hr;exact H.alloc hp hr
   .exact H
  .exact H
 .intro c;unfold zfT;exact H
 .intro c;unfold zfa;exact H
 .intro c;unfold zjX;exact H
 .intro c;unfold zgh;exact H
 .intro c;unfold zgj;exact H
 .intro c;unfold zfM;exact H
 .intro c;unfold za5;rw [(zeB s x.G).2];exact H
 .intro c;unfold zg4;exact H
 .intro c;unfold zme;exact H
 .exact H
theorem zCa (s:za) (m:Int) (x:ze):(zac s m x).Batch=x.Batch:=by
 unfold zac
 repeat' split
 all_goals rfl
theorem zFk {s:za}(h:WI s) (m:Int) {x:ze}(hx:x.Batch.length<1000000):(zt s m x).2.Batch.length<1000000:=by
 refine xZ (motive:=fun r=>r.2.Batch.length<1000000) s m x ?_ ?_ ?_ ?_ ?_ ?_ ?_ ?_ ?_ ?_ ?_ ?_ ?_ ?_ ?_ ?_ ?_ ?_ ?_ ?_
 .intro c;unfold mu0;dsimp only;rw [zCa];exact hx
 .intro c;unfold mu1;dsimp only;split<;>exact hx
 .intro c;unfold mu2;exact hx
 .intro c;unfold mu3;dsimp only;split<;>exact hx
 .intro c;unfold zkb;exact hx
 .intro c;unfold zfC;dsimp only;split<;>exact hx
 .intro c;unfold zgk;dsimp only;split<;>exact hx
 .intro c;unfold zfR;dsimp only;split<;>exact hx
 .intro c;unfold zhd;exact hx
 .intro c;unfold UN;split
  .split<;>exact hx
  .exact hx
 .intro c;unfold zfT;dsimp only;split<;>exact hx
 .intro c;unfold zfa;dsimp only;split
  .exact hx
  split<;>exact hx
 .intro c;unfold zjX;exact zt6 h _
 .intro c;unfold zgh;dsimp only;split<;>exact hx
 .intro c;unfold zgj;dsimp only;cases hb:x.Batch with
  | nil=>show ([]:List Int).length<1000000;simp
  | cons o l=>rw [hb] at hx;show l.length<_;simp at hx;omega
 .intro c;unfold zfM;dsimp only;split<;>exact hx
 .intro c;unfold za5;dsimp only;split<;>exact hx
 .intro c;unfold zg4;exact hx
 .intro c;unfold zme;exact hx
 .exact hx
theorem zo0 {p:zd}(h:zI p) (m:Int):zin p m<1000000:=by
 unfold zin;rw [zKH];cases hq:p.Regs[(m-1).toNat]? with
 | none=>simp
 | some r=>have:=(h.reg r (zKK hq)).1;show r.length<_;omega
theorem zy0 {p:zd}{nb:Nat}{s:za}(h:zI p) (E:EOk p nb s) (m:Int):EOk p nb (zO s m):=by
 unfold zO;split
 .exact E
 rename_i hc;cases hx:s.Ms[(m-1).toNat]? with
 | none=>exact E
 | some x =>
  have hw1: ¬m<1:=fun e=>hc (.inr (.inl e));have hw2: ¬(s.Ms.length:Int)<m:=fun e=>hc (.inr (.inr e));have ei:(((m-1).toNat:Nat):Int)+1=m:=by omega
  have hX:=E.X _ x hx;rw [ei] at hX;obtain ⟨r1,r2⟩:=zGj h (zwR h m) E.S hX;have T:=zA3 s m x;have TH:=zJQ h E.S.P E.H m x;have sm:WI (zt s m x).1:=E.small.turn h T TH;have hms:(zt s m x).1.Ms=s.Ms:=T.ms;have hb:=h.buf;refine ⟨r1.keep rfl rfl rfl,?_,?_,?_,fun i y hy=>?_,fun i y hy=>?_,TH,?_,?_⟩
  .show ((zt s m x).1.Ws.length:Int)=_;rw [T.ws];exact E.wl
  .show ((s.Ms.set _ _).length:Int)=_;rw [zK3];exact E.ml
  .show (zt s m x).1.Acks.length=(s.Ms.set _ _).length;rw [zK3,T.ac];exact E.al
  .have hy:(zt s m x).1.Ws[i]? =some y:=hy;rw [T.ws] at hy;exact E.W i y hy
  .rcases zDs hy with ⟨rfl,rfl⟩ | hy
   .rw [ei];exact r2
   .exact E.X i y hy
  .show (0<=(zt s m x).1.D.PC/\(zt s m x).1.D.PC<=6)/\((zt s m x).1.D.PC=3->0<=(zt s m x).1.D.I/\(zt s m x).1.D.I<((s.Ms.set _ _).length:Int));rw [T.d,zK3];exact E.D
  .have q:=E.small.mu x (zKK hx);have q1:=r2.regs;have q2:=r2.buf;have q3:=zo0 h m;have:=sm.setM (i:=(m-1).toNat) (x:=(zt s m x).2) ⟨by omega,by omega,zFk E.small m q.2.2⟩;rw [hms] at this;exact this
theorem zDm (t:zn) (o:Int):znr t o=some (yp t o,()):=by
 rw [zBx,zln,zKE];show (bif zP (t.Marks&&&t.Black) o then _ else _)=_;unfold yp;cases h:zP (t.Marks&&&t.Black) o with
 | true=>rfl
 | false =>
  rw [zM,zln,zKE];show (bif zP t.Marks o then _ else _)=_;cases h2:zP t.Marks o<;>rfl
theorem zjn (t:zn) (o:Int):Uo t o=some (xj t o,decide (yp t o=1),()):=by
 rw [zyw,zDm,zKE,yq];unfold xj;by_cases h:yp t o=1
 .rw [zb h,zb h,zhS,zKE,zw h]
 .rw [zc h,zc h,zL h]
theorem zxe {h:zr}(hl:h.Objs.length<1000000) (o s:Int):UX h o s=some (yz h o s,()):=by
 rw [zqK];simp only [zq];unfold yz;by_cases h1:1<=o
 .rw [zb h1];by_cases h2:o<=(h.Objs.length:Int)
  .rw [zb h2];by_cases h3:0<=s
   .have e:=zKG (show (o-1).toNat<h.Objs.length by omega);rw [zb h3,ya (a:=o-1) (by omega) (by omega),vX,e,zKE,zw h1,zw h2,zw h3];unfold zR;rw [zKH,e];rfl
   .rw [zc h3,zL h3,Bool.and_false];rfl
  .rw [zc h2,zL h2,Bool.and_false];rfl
 .rw [zc h1,zL h1];rfl
theorem zvg {h:zr}(hl:h.Objs.length<1000000) (o s:Int):zf0 h o s=some (zW h o s,yz h o s,()):=by
 rw [zz4,zxe hl,zKE];unfold zW;cases hs:yz h o s with
 | false=>rfl
 | true =>
  have hs':=hs;unfold yz at hs';simp only [zKF,decide_eq_true_eq] at hs';obtain ⟨⟨⟨h1,h2⟩,h3⟩,h4⟩:=hs';have e:=zKG (show (o-1).toNat<h.Objs.length by omega);have es:zR h o=h.Objs[(o-1).toNat]'(by omega):=by unfold zR;rw [zKH,e];rfl
  rw [es] at h4;have e2:=zKG (show s.toNat<(h.Objs[(o-1).toNat]'(by omega)).length by omega);simp only [zKY,zM,if_true];rw [ya (a:=o-1) (by omega) (by omega),vX,e,zKE,vX h3,e2,zKE,es,zKH,e2];rfl
theorem zmv (l:zx) (who:Int):Yb l who=some (decide (1<=who)&&decide (who<=(l.Bal.length:Int)),()):=by
 rw [zlX,zq];by_cases h1:1<=who
 .rw [zb h1,zw h1];rfl
 .rw [zc h1,zL h1];rfl
theorem ztZ {l:zx}(hl:l.Bal.length<1000000) (who:Int):zbm l who=some (Ui l who,()):=by
 rw [zun,xT,zmv,zKE];unfold Ui;by_cases h:1<=who/\who<=(l.Bal.length:Int)
 .rw [zb h,zw h.1,zw (show who<=((({l with Scanned:=wc (l.Scanned+1)}:zx).Bal.length:Nat):Int) from h.2)];have hn: ¬l.Bal.isEmpty=true:=by
   intro e;have:l.Bal=[]:=by simpa using e
   rw [this] at h;simp at h;omega
  have hn:l.Bal.isEmpty=false:=by simpa using hn
  have e:=zKG (show (who-1).toNat<l.Bal.length by omega);rw [zLD,zKY,zM,zaa];simp only [decide_true,zA,zlS (n:=(l.Bal.length:Int)) (by omega) (by omega),zKE,zLl,zLn,hn,zM,xT];rw [yQ (a:=who-1) (by omega) (by omega),vR (l:=l.Bal) (by omega) (by omega),zKE,e,zKE,zrN,zKE,zKE,zKE,xT,zKH,e];rfl
 .rw [zc h];have e:(decide (1<=who)&&decide (who<=((({l with Scanned:=wc (l.Scanned+1)}:zx).Bal.length:Nat):Int)))=false:=by
   by_cases h1:1<=who
   .rw [zw h1,zL (fun e=>h ⟨h1,e⟩)];rfl
   .rw [zL h1];rfl
  rw [e];rfl
theorem zvi {α:Type}(o:α) (l:List α):cut (o::l) 1 (((o::l).length:Nat):Int)=some l:=by
 unfold cut;rw [zw (show (0:Int)<=1 by decide),zw (show (1:Int)<=(((o::l).length:Nat):Int) by simp;omega),zw (zK6 _)];simp
theorem zu2 {p:zd}(h:zI p) {m:Int}(hm:1<=m/\m<=p.Mutators):p.Progs[(m-1).toNat]? =some (vO p m):=by
 have:=h.progs;have e:=zKG (show (m-1).toNat<p.Progs.length by omega);unfold vO;rw [zKH,e];rfl
theorem zpk {p:zd}(h:zI p) {m:Int}(hm:1<=m/\m<=p.Mutators) {o:zE}(ho:o∈vO p m):(0<=o.R/\o.R<(zin p m:Int))/\(0<=o.A/\o.A<(zin p m:Int)):=by
 have hr:=h.regs;have er:=zKG (show (m-1).toNat<p.Regs.length by omega);have e1:zin p m=(p.Regs[(m-1).toNat]'(by omega)).length:=by unfold zin;rw [zKH,er];rfl
 have hl:=(h.reg _ (zK1 (show (m-1).toNat<p.Regs.length by omega))).1;obtain ⟨a,b⟩:=(h.prog _ _ _ er (zu2 h hm)).2 o ho;rw [e1];refine ⟨a,?_⟩;rcases b with ⟨_,b,_⟩ | ⟨_,b,_⟩ | ⟨_,b,_⟩
 .exact b
 .exact b
 .omega
theorem zkL {p:zd}(h:zI p) {s:za}(hP:s.P=p) {m:Int}(hm:1<=m/\m<=p.Mutators) {x:ze}(hi:0<=x.IP/\x.IP<((vO p m).length:Int)) :
  ua ⟨x,s,m⟩=some (opM p m x,())/\opM p m x∈vO p m:=by
 have hmt:=h.mt;have e:=zKG (show x.IP.toNat<(vO p m).length by omega);have eo:opM p m x=(vO p m)[x.IP.toNat]'(by omega):=by unfold opM;rw [zKH,e];rfl
 rw [zrb];dsimp only;rw [hP,ya (a:=m-1) (by omega) (by omega),vX,zu2 h hm,zKE,vX hi.1,e,zKE,eo];exact ⟨rfl,zK1 _⟩
theorem zpw {x:ze}{r:Int}(h:0<=r/\r<(x.Regs.length:Int)):idx x.Regs r=some (wX x r):=by
 have e:=zKG (show r.toNat<x.Regs.length by omega);rw [vX h.1,e];unfold wX;rw [zKH,e];rfl
theorem zik {s:za}{m:Int}{x:ze}{r:Int}(h:0<=r/\r<(x.Regs.length:Int)) (hl:x.Regs.length<1000000) (v:Int):Zl r v ⟨x,s,m⟩=some (⟨setM x r v,s,m⟩,()):=by
 rw [zmY];simp only [Wz (show x.Regs.length<4294967296 by omega),zKE,vR h.1 h.2,YI,xT];rfl
theorem zrO {p:zd}(h:zI p) {s:za}(hP:s.P=p) {m:Int}(hm:1<=m/\m<=p.Mutators) {x:ze}(hi:0<=x.IP/\x.IP<((vO p m).length:Int)) (hr:x.Regs.length=zin p m) (ho:s.H.Objs.length<1000000) :
  V2 ⟨x,s,m⟩=some (zs7 s m x,()):=by
 obtain ⟨e1,e2⟩:=zkL h hP hm hi;have o:=zpk h hm e2;rw [zpM];simp only [e1,zKE,zpw (x:=x) (r:=(opM p m x).A) (by omega),zvg ho];unfold zs7;rw [hP]
theorem zpx {p:zd}{nb:Nat}(h:zI p) {s:za}(S:SOk p nb s) {m:Int}{x:ze}(M:MOk p nb x.G) (to:Int) :
  YX to ⟨x,s,m⟩=some (⟨if (zG s x.G).2.Out=1 then {x with PC:=to,G:=(zG s x.G).2} else {x with G:=(zG s x.G).2},(zG s x.G).1,m⟩,()):=by
 rw [zjp];simp only [zyG (S.gok h M),zKE,zq];split<;>rfl
theorem zv8 (s:za) (x:ze) (m:Int):za0 ⟨x,s,m⟩=some (onM s x.Slot,()):=by
 rw [zrt,zq];unfold onM;split<;>rfl
theorem zsv (k hd to:Int) (s:za) (x:ze) (m:Int):XN k hd to ⟨x,s,m⟩=some (⟨{x with PC:=to,C:=⟨k,0,hd,zU s.P,0#64,x.Bin,0,0⟩},s,m⟩,()):=by
 rw [zlB];simp only [zaX,zKE,Vg]
theorem zGU {m:List ze}(h:m.length<4294967296):vF m=some (m,()):=by
 rw [VP,zKP,yR h,zKE];cases m with
 | nil=>simp [zeG]
 | cons a l=>simp
theorem zz2 {p:zd}(h:zI p) {nb:Nat}{s:za}(hP:s.P=p) {m:Int}(hm:1<=m/\m<=p.Mutators) (ha:(s.Acks.length:Int)=p.Mutators) {x:ze}(X:XOk p nb m x) :
  UE ⟨x,s,m⟩=some (⟨zac s m x,s,m⟩,()):=by
 have hmt:=h.mt;have hip:=X.ip;have hrs:=zo0 h m;have e:=zKG (show (m-1).toNat<s.Acks.length by omega);have ed:s.Acks.getD (m-1).toNat 0=s.Acks[(m-1).toNat]'(by omega):=by rw [zKH,e];rfl
 have pg:s.P.Progs[(m-1).toNat]? =some (vO p m):=by rw [hP];exact zu2 h hm
 rw [zkS];simp only [zq];rw [ya (a:=m-1) (by omega) (by omega),vX,e,zKE];unfold zac;rw [ed,hP];by_cases c:(s.Acks[(m-1).toNat]'(by omega))<s.Epoch
 .rw [zb c,zb c]
 rw [zc c,zc c,<-hP,vX,pg,zKE,hP];by_cases c2:((vO p m).length:Int)<=x.IP
 .rw [zb c2,zb c2]
 rw [zc c2,zc c2];obtain ⟨e1,e2⟩:=zkL h hP hm (x:=x) (show 0<=x.IP/\x.IP<((vO p m).length:Int) by omega);have o:=zpk h hm e2;have hreg:=X.regs;rw [e1,zKE];by_cases k1:(opM p m x).Kind=1
 .rw [zb k1,zb k1]
 rw [zc k1,zc k1];by_cases k2:(opM p m x).Kind=2
 .rw [zb k2,zb k2]
 rw [zc k2,zc k2];by_cases k3:(opM p m x).Kind=3
 .rw [zb k3,zb k3]
 rw [zc k3,zc k3];by_cases k4:(opM p m x).Kind=4
 .rw [zb k4,zb k4,zpw (x:=x) (r:=(opM p m x).A) (by omega),zKE,zik (x:=x) (r:=(opM p m x).R) (by omega) (by omega)];rfl
 .rw [zc k4,zc k4,zik (x:=x) (r:=(opM p m x).R) (by omega) (by omega)];rfl
theorem zF5 {h:zr}(hl:h.Objs.length<1000000) (hs:∀l∈h.Objs,l.length<1000000) (o i v:Int):∃b,zqk h o i v=some (xM h o i v,b,()):=by
 rw [zzX,zxe hl,zKE];unfold xM;cases ht:yz h o i with
 | false=>rw [zc (fun e=>by cases e.1)];exact ⟨_,rfl⟩
 | true =>
  rw [zKY,zM,zq];by_cases h1:v<0
  .rw [zb h1,zi];exact ⟨_,rfl⟩
  rw [zc h1,zq];by_cases h2:(h.Objs.length:Int)<v
  .rw [zb h2,zi];exact ⟨_,rfl⟩
  have hh:=ht;unfold yz at hh;simp only [zKF,decide_eq_true_eq] at hh;obtain ⟨⟨⟨g1,g2⟩,g3⟩,g4⟩:=hh;have e:=zKG (show (o-1).toNat<h.Objs.length by omega);have es:zR h o=h.Objs[(o-1).toNat]'(by omega):=by unfold zR;rw [zKH,e];rfl
  have hlen:=hs _ (zKK e);rw [zc h2,zb ⟨rfl,by omega,by omega⟩,zkJ (by omega),zKE,ya (a:=o-1) (by omega) (by omega),vR (l:=h.Objs) (by omega) (by omega),zKE,e,zKE,Wz (by omega),zKE,zKE,zKE];rw [zq,zb rfl,vR g3 (by rw [<-es];exact g4),zKE,es];exact ⟨_,rfl⟩
theorem zqX {h:zr}(h1:1<=h.Slots/\h.Slots<=4) (h2:h.Objs.length<=64) (h3:∀o∈h.Objs,(o.length:Int)=h.Slots/\∀v∈o,0<=v/\v<=(h.Objs.length:Int)):Xq h=some (true,()):=by
 rw [znU,zq,zb h1.1,zq,zb h1.2,zq,yf,zyN (by omega) (by omega) h3];rfl
theorem zvs {h:zr}(h1:1<=h.Slots/\h.Slots<=4) (h2:h.Objs.length<=64) (h3:∀o∈h.Objs,(o.length:Int)=h.Slots/\∀v∈o,0<=v/\v<=(h.Objs.length:Int)) (hne:h.Objs≠[]) (most:Int) :
  zfs h most=some (if ZB h most=true then (yP h,(h.Objs.length:Int)+1,0,()) else (h,0,4,())):=by
 have hn:h.Objs.length≠0:=fun e=>hne (zLu e);rw [zwP,zqX h1 h2 h3,zKE,zKY,zM];simp only [zq];have er:ZB h most=true↔(h.Objs.length:Int)<most/\(h.Objs.length:Int)<64:=by unfold ZB;simp
 have hx:(if 64<most then (64:Int) else most)<=(h.Objs.length:Int)↔¬(ZB h most=true):=by
  rw [er];split<;>omega
 by_cases hr:ZB h most=true
 .rw [zc (fun e=>hx.1 e hr),zb hr];have ec:Vm h.Objs=some (h.Objs,()):=by
   rw [zi8];simp [hn]
  rw [ec,zKE,zb trivial,znP,zw (show 0<=h.Slots by omega),zw (show h.Slots<4294967296 by omega)];simp only [Bool.and_self,zA,zKE];rw [yR (by simp only [zKS,zMw];omega),zKE];unfold yP;simp
 .rw [zb (hx.2 hr),zc hr]
theorem zEt (t:zn) (o:Int):∃b,zcg t o=some (Y0 t o,b,()):=by
 rw [zn9,zky,zKE];unfold Y0;dsimp only;cases hs:(shade t o).2 with
 | false=>rw [zc (by simp)];exact ⟨_,rfl⟩
 | true=>rw [zKY,zM,zjn,zb rfl];exact ⟨_,rfl⟩
theorem zq2 (l:zx) (who price limit:Int):Xg l who price limit=some (zar l who price limit,()):=by
 rw [zlb,zmv,zKE];unfold zar V7;simp only [zq];cases ht:(decide (1<=who)&&decide (who<=(l.Bal.length:Int))) with
 | false=>rw [zM];simp
 | true =>
  rw [zA];by_cases h1:0<=price<;>by_cases h2:0<=limit
  .rw [zb (by split<;>omega)];simp only [zLD,zw h1,zw h2,Option.some.injEq,Prod.mk.injEq,and_true];rw [Bool.eq_iff_iff];simp only [decide_eq_true_eq,zKF];split<;>omega
  .rw [zc (by split<;>omega)];simp [h2]
  .rw [zc (by split<;>omega)];simp [h1]
  .rw [zc (by split<;>omega)];simp [h1]
theorem zxM {l:zx}{who:Int}(hl:l.Bal.length<1000000) (h:V7 l who=true):idx l.Bal (w64 (who-1))=some (UT l who)/\wg l.Bal (w64 (who-1))=some (who-1).toNat/\l.Bal[(who-1).toNat]? =some (UT l who):=by
 unfold V7 at h;simp only [zKF,decide_eq_true_eq] at h;have e:=zKG (show (who-1).toNat<l.Bal.length by omega);have eb:UT l who=l.Bal[(who-1).toNat]'(by omega):=by unfold UT;rw [zKH,e];rfl
 rw [ya (a:=who-1) (by omega) (by omega),vX,vR,e,eb];exact ⟨rfl,rfl,rfl⟩
theorem zxf {l:zx}(hl:l.Bal.length<1000000) (who price limit:Int):zfU l who price limit=some (zcC l who price limit,()):=by
 rw [zxb,zq2,zKE];unfold zcC;cases hp:zar l who price limit with
 | false=>rfl
 | true =>
  have ht:V7 l who=true:=by unfold zar at hp;simp only [zKF] at hp;exact hp.1.1.1.1
  dsimp only;rw [zA,(zxM hl ht).1,zKE,xT,zLD,Int.zero_sub]
theorem zq3 {l l':zx}(hl:l.Bal.length<1000000) {who:Int}(h:V7 l who=true) (hb:l'.Bal=l.Bal) {v:Int}{Q:Option (zx×Unit)}{f:Int->Option (Int×Unit)}(hf:f (UT l who)=some (v,()))
  (hQ:Q=bif decide (((l'.Bal.length:Int))=((l'.Bal.length:Int))) then (Vn ((l'.Bal.length:Int))).bind fun n1=>bif decide (l'.Bal.length=((List.replicate n1 ((0:Int))).length)) then
   bif l'.Bal.isEmpty then (wg (List.replicate n1 ((0:Int))) (w64 (who-1))).bind fun n2=>((List.replicate n1 ((0:Int)))[n2]?).bind fun x3=>(f x3).bind fun y4=>(wg (List.replicate n1 ((0:Int))) (w64 (who-1))).bind fun n5=>some ({l' with Bal:=(List.replicate n1 ((0:Int))).set n5 y4.1},())
   else (wg l'.Bal (w64 (who-1))).bind fun n6=>(l'.Bal[n6]?).bind fun x7=>(f x7).bind fun y8=>(wg l'.Bal (w64 (who-1))).bind fun n9=>some ({l' with Bal:=l'.Bal.set n9 y8.1},()) else none else none) :
  Q=some ({l' with Bal:=l.Bal.set (who-1).toNat v},()):=by
 obtain ⟨e1,e2,e3⟩:=zxM hl h;have hne:l.Bal.isEmpty=false:=by
  cases hl2:l.Bal with
  | nil=>rw [hl2] at e3;simp at e3
  | cons a r=>rfl
 rw [hQ,hb,znP,zw (show (0:Int)<=(l.Bal.length:Int) by omega),zw (show (l.Bal.length:Int)<4294967296 by omega)];simp only [decide_true,zA,Bool.and_self,zKE,zLn,zLl,hne,zM,e2,e3,hf]
theorem zBT {l:zx}(hl:l.Bal.length<1000000) (who price limit:Int):zhi l who price limit=some (if zcC l who price limit=true then (V1 l who price,true,()) else (l,false,())):=by
 rw [zth,zxf hl,zKE];cases hm:zcC l who price limit with
 | false=>rfl
 | true =>
  have ht:V7 l who=true:=by unfold zcC zar at hm;simp only [zKF] at hm;exact hm.1.1.1.1.1
  dsimp only;rw [zKY,zM,zq3 (l':={l with Spent:=w64 (l.Spent+price)}) hl ht rfl (f:=fun b=>zbb b price) (v:=wc (UT l who-price)) (by rw [zrq,xT]) (UR _ _ _),zKE,zb rfl,xT];rfl
theorem zCO {l:zx}(hl:l.Bal.length<1000000) (who want:Int):zj8 l who want=some ((U3 l who want).1,(U3 l who want).2,()):=by
 rw [zuy,zmv,zKE];unfold U3;have em:(bif decide (l.Pool<want) then l.Pool else want)=zgM want l.Pool:=by rw [zq];rfl
 simp only [em];have et:(decide (1<=who)&&decide (who<=(l.Bal.length:Int)))=V7 l who:=rfl;rw [et];cases ht:V7 l who with
 | false=>rw [zc (fun e=>by cases e.1)];rfl
 | true =>
  rw [zKY,zM,zq];by_cases hz:zgM want l.Pool<=0
  .rw [zb hz,zi]
  .rw [zc hz,zb ⟨rfl,by omega⟩,zq3 (l':={l with Pool:=w64 (l.Pool-zgM want l.Pool)}) hl ht rfl (f:=fun b=>zbQ b (zgM want l.Pool)) (v:=wc (UT l who+zgM want l.Pool)) (by rw [zsa,xT]) (U9 _ _ _),zKE,xT]
theorem zBB {l:zx}(hl:l.Bal.length<1000000) (who price limit:Int):zht l who price limit=some (zsh l who price limit,()):=by
 rw [ztE,zq2,zKE];unfold zsh;cases hp:zar l who price limit with
 | false=>rfl
 | true =>
  have ht:V7 l who=true:=by unfold zar at hp;simp only [zKF] at hp;exact hp.1.1.1.1
  dsimp only;rw [zKY,zM,zxf hl,zKE,zb rfl];cases hm:zcC l who price limit with
  | false=>rw [zM,(zxM hl ht).1,zKE,xT];rfl
  | true=>rfl
theorem zCK {p:zd}{nb:Nat}(h:zI p) {s:za}{x:ze}{m:Int}(S:SOk p nb s) (X:XOk p nb m x) (hm:1<=m/\m<=p.Mutators) (ha:(s.Acks.length:Int)=p.Mutators) (sm:WI s) (H:HOk p s.H) (hb:x.Buf.length<1000000) (hbt:x.Batch.length<1000000):zaq ⟨x,s,m⟩=some (⟨(zt s m x).2,(zt s m x).1,m⟩,()):=by
 have hmt:=h.mt;have hpc:=X.pc;rw [zlP];simp only [zq];unfold zt;by_cases c0:x.PC=0
 .rw [zb c0,zb c0,zz2 h S.P hm ha X];rfl
 rw [zc c0,zc c0];by_cases c1:x.PC=1
 .rw [zb c1,zb c1,zk4];simp only [zq];unfold mu1;by_cases e:x.Buf.length=0
  .rw [zb e,zb (by rw [ya];omega)];rfl
  .have ei:=zKG (show x.Buf.length-1<x.Buf.length by omega);have en:((x.Buf.length:Int)-1).toNat=x.Buf.length-1:=by omega
   have ec:cut x.Buf 0 ((x.Buf.length:Int)-1)=some (x.Buf.take (x.Buf.length-1)):=by
    unfold cut;rw [zw (show (0:Int)<=0 by decide),zw (show (0:Int)<=(x.Buf.length:Int)-1 by omega),zw (show (x.Buf.length:Int)-1<=(x.Buf.length:Int) by omega),en];simp
   rw [zc e,ya (a:=(x.Buf.length:Int)-1) (by omega) (by omega),zi,vX,en,ei,zKE,zqn,zKE,ec,zKH,ei];rfl
 rw [zc c1,zc c1];by_cases c2:x.PC=2
 .rw [zb c2,zb c2,zna];have hs:=sm.acks;simp only [Wz (show s.Acks.length<4294967296 by omega),zKE];rw [ya (a:=m-1) (by omega) (by omega),vR (l:=s.Acks) (by omega) (by omega)];rfl
 rw [zc c2,zc c2];have hbl:=sm.bal;have hon:=sm.objs;have hregs:=X.regs;have hrs:=zo0 h m;have hHs:=H.slots;have hHn:=H.n;have hpn:=h.n;have hpm:=h.most;have hps:=h.slots;have op:=fun (hi:x.IP<((vO p m).length:Int))=>zkL h S.P hm (x:=x) ⟨X.ip.1,hi⟩;by_cases c3:x.PC=3
 .rw [zb c3,zb c3,zkz,zpx h S (X.g (.inl c3)).1];rfl
 rw [zc c3,zc c3];by_cases c10:x.PC=10
 .have hi:=X.op (.inl (by omega));obtain ⟨e1,e2⟩:=op hi;have o:=zpk h hm e2;rw [zb c10,zb c10,zlO,e1,zKE,zrO h S.P hm ⟨X.ip.1,hi⟩ hregs hon,zKE,zik (x:=x) (r:=(opM p m x).R) (by omega) (by omega)];unfold zkb;rw [S.P];rfl
 rw [zc c10,zc c10];by_cases c20:x.PC=20
 .have hi:=X.op (.inl (by omega));obtain ⟨e1,e2⟩:=op hi;have o:=zpk h hm e2;rw [zb c20,zb c20,zmO,e1,zKE];unfold zfC;dsimp only;rw [zpw (x:=x) (r:=(opM p m x).A) (by omega),zKE,zq,S.P];by_cases e:wX x (opM p m x).A=0
  .rw [zb e,zb e,YI,xT];rfl
  .rw [zc e,zc e,zrO h S.P hm ⟨X.ip.1,hi⟩ hregs hon];rfl
 rw [zc c20,zc c20];by_cases c21:x.PC=21
 .rw [zb c21,zb c21,zlf];unfold zgk;dsimp only;rw [zq];by_cases e:x.Old=0
  .rw [zb e,zb (.inl e)];rfl
  .rw [zc e,zDm,zKE,yq];by_cases e2:yp s.T x.Old=0
   .rw [zb e2,zc (fun h=>h.elim e (fun h=>h e2))];rfl
   .rw [zc e2,zb (.inr e2)];rfl
 rw [zc c21,zc c21];by_cases c22:x.PC=22
 .rw [zb c22,zb c22,zhl];unfold zfR;dsimp only;rw [zq];by_cases e:s.P.Buf<=(x.Buf.length:Int)
  .rw [zb e,zb e];rfl
  .rw [zc e,zc e,Wz (by omega),zKE,yR (by simp;omega)];rfl
 rw [zc c22,zc c22];by_cases c23:x.PC=23
 .have hi:=X.op (.inl (by omega));obtain ⟨e1,e2⟩:=op hi;have o:=zpk h hm e2;obtain ⟨b,ep⟩:=zF5 hon sm.obj (wX x (opM p m x).A) (opM p m x).S (wX x (opM p m x).R);rw [zb c23,zb c23,zkX,e1,zKE];dsimp only;rw [zpw (x:=x) (r:=(opM p m x).A) (by omega),zKE,zpw (x:=x) (r:=(opM p m x).R) (by omega),zKE,ep,zKE,YI,xT];unfold zhd;rw [S.P];rfl
 rw [zc c23,zc c23];by_cases c30:x.PC=30
 .have hi:=X.op (.inl (by omega));obtain ⟨e1,e2⟩:=op hi;have o:=zpk h hm e2;have hne:s.H.Objs≠[]:=fun e=>by
   have e2:s.H.Objs.length=0:=by rw [e];rfl
   omega
  rw [zb c30,zb c30,zkF];unfold UN;dsimp only;rw [zBT hbl,zKE];cases hmay:zcC s.L m s.P.Price s.P.Limit with
  | false=>rfl
  | true =>
   rw [zb rfl,zb rfl];dsimp only;rw [zKY,zM,zvs (show 1<=s.H.Slots/\s.H.Slots<=4 by rw [hHs];omega) (show s.H.Objs.length<=64 by omega) H.objs hne,zKE];cases hr:ZB s.H s.P.Most with
   | false =>
    rw [zc (by simp),zc (by simp)];dsimp only;rw [yq,zc (by decide),YI,xT];rfl
   | true =>
    rw [zb rfl,zb rfl];dsimp only;obtain ⟨b,ef⟩:=zEt s.T ((s.H.Objs.length:Int)+1);rw [yq,zb rfl,ef,zKE];have e3:=(zkL h (s:={s with H:=yP s.H,T:=Y0 s.T ((s.H.Objs.length:Int)+1),L:=V1 s.L m s.P.Price}) S.P hm (x:=x) ⟨X.ip.1,hi⟩).1;rw [e3,zKE,zik (x:=x) (r:=(opM p m x).R) (by omega) (by omega),yQ];rw [S.P];rfl
 rw [zc c30,zc c30];by_cases c31:x.PC=31
 .rw [zb c31,zb c31,zma];unfold zfT;dsimp only;rw [zBB hbl,zKE,zCO hbl,zKE,zq];by_cases e:(U3 s.L m (zsh s.L m s.P.Price s.P.Limit)).2=0
  .rw [zb e,zb e,zc2,zKE,zsv];rfl
  .rw [zc e,zc e];rfl
 rw [zc c31,zc c31];by_cases c32:x.PC=32
 .rw [zb c32,zb c32,zm6];unfold zfa;dsimp only;rw [zfi (by have:=S.mem;omega),zKE,zq,zq];by_cases e:(zC s.M x.C).2.Out=1
  .rw [zb e,zb e];rfl
  .rw [zc e,zc e];by_cases e2:(zC s.M x.C).2.Out=2
   .rw [zb e2,zb e2];rfl
   .rw [zc e2,zc e2];rfl
 rw [zc c32,zc c32];by_cases c33:x.PC=33
 .have B:=X.b33 c33;have hbn:=S.bins;have hnb:=S.nbk;have e:=zKG (show x.Bin.toNat<s.Bins.length by omega);rw [zb c33,zb c33,zkw];unfold zjX;dsimp only;rw [vX,e,zKE,zkJ (by omega),zKE,vR (l:=s.Bins) (by omega) (by omega),zKE,zdy,zKE,zsv];have eb:Ud s x.Bin=s.Bins[x.Bin.toNat]'(by omega):=by unfold Ud;rw [zKH,e];rfl
  rw [eb];rfl
 rw [zc c33,zc c33];by_cases c34:x.PC=34
 .rw [zb c34,zb c34,zlU];unfold zgh;dsimp only;rw [zfi (by have:=S.mem;omega),zKE,zq];by_cases e:(zC s.M x.C).2.Out=1
  .rw [zb e,zb e];rfl
  .rw [zc e,zc e];rfl
 rw [zc c34,zc c34];by_cases c35:x.PC=35
 .rw [zb c35,zb c35,zk2];unfold zgj;dsimp only;rw [zq];cases hbb:x.Batch with
  | nil=>rw [zc (by simp)];rfl
  | cons o l =>
   have:idx (o::l) 0=some o:=by rw [vX];rfl
   rw [zb (by simp),this,zKE,zvi];rfl
 rw [zc c35,zc c35];by_cases c36:x.PC=36
 .rw [zb c36,zb c36,zmp];unfold zfM;dsimp only;rw [zvg hon,zKE,zv8,zKE,yq,xT];by_cases e:zW s.H x.Obj x.Slot=0
  .rw [zb e,zb e];rfl
  .rw [zc e,zc e,zqn];rfl
 rw [zc c36,zc c36];by_cases c37:x.PC=37
 .rw [zb c37,zb c37,zm8,zv8,zKE,zpx h S (X.g (.inr c37)).1];rfl
 rw [zc c37,zc c37];by_cases c38:x.PC=38
 .rw [zb c38,zb c38,zi1];unfold zg4;dsimp only;rw [zjn,zKE,ztZ hbl];rfl
 rw [zc c38,zc c38];have c39:x.PC=39:=by omega
 rw [zb c39,zb c39,ziy,xT];rfl
theorem zAM {p:zd}{nb:Nat}{s:za}(h:zI p) (E:EOk p nb s) (m:Int):zhR s m=some (zO s m,()):=by
 rw [ztw];simp only [zq];unfold zO;cases hd:s.Done with
 | true=>rw [zA,zb (.inl rfl)]
 | false =>
  rw [zM];by_cases h1:m<1
  .rw [zb h1,zb (.inr (.inl h1))]
  rw [zc h1];by_cases h2:(s.Ms.length:Int)<m
  .rw [zb h2,zb (.inr (.inr h2))]
  have hml:=E.ml;have hal:=E.al;have hmt:=h.mt;have e:=zKG (show (m-1).toNat<s.Ms.length by omega);have ei:(((m-1).toNat:Nat):Int)+1=m:=by omega
  have hX:=E.X _ _ e;rw [ei] at hX;have hb:=(E.small.mu _ (zKK e)).2;have T:=zA3 s m (s.Ms[(m-1).toNat]'(by omega));rw [zc h2,zc (fun e=>e.elim (fun h=>by cases h) (fun e=>e.elim h1 h2)),ya (a:=m-1) (by omega) (by omega),vX,e,zKE,zCK h E.S hX (by omega) (by omega) E.small E.H hb.1 hb.2,zKE];simp only [T.ms,zGU (show s.Ms.length<4294967296 by omega),zKE,vR (l:=s.Ms) (show 0<=m-1 by omega) (show m-1<(s.Ms.length:Int) by omega)]
theorem zCw {p:zd}{nb:Nat}{s:za}(h:zI p) (E:EOk p nb s):zj3 s=some (xY s,()):=by
 rw [zuU,xT];simp only [zq,yq];have ag:∀s:za,U4 s=some ({s with Restarts:=wc (s.Restarts+1),D:={s.D with PC:=0}},()):=fun s=>by rw [zqH,xT]
 unfold xY;by_cases hd:s.Done=true
 .rw [cond_eq_ite,zb hd,zb hd]
 .rw [cond_eq_ite,zc hd,zc hd];by_cases c0:s.D.PC=0
  .rw [zb c0,zb c0]
  rw [zc c0,zc c0];by_cases c1:s.D.PC=1
  .rw [zb c1,zb c1];by_cases w:s.Work=0
   .rw [zb w,zb w]
   .rw [zc w,zc w]
  rw [zc c1,zc c1];by_cases c2:s.D.PC=2
  .rw [zb c2,zb c2];by_cases w:s.Ms.length=0
   .rw [zb (show (s.Ms.length:Int)=0 by omega),zb w]
   .rw [zc (show ¬(s.Ms.length:Int)=0 by omega),zc w]
  rw [zc c2,zc c2];by_cases c3:s.D.PC=3
  .have hi:=E.D.2 c3;have ha:=E.al;have e:=zKG (show s.D.I.toNat<s.Acks.length by omega);have ed:s.Acks.getD s.D.I.toNat 0=s.Acks[s.D.I.toNat]'(by omega):=by rw [zKH,e];rfl
   rw [zb c3,zb c3,vX hi.1,e,zKE,ed];by_cases w:(s.Acks[s.D.I.toNat]'(by omega))<s.Epoch
   .rw [zb w,zb w]
   .rw [zc w,zc w];by_cases v:wc (s.D.I+1)=(s.Ms.length:Int)
    .rw [zb v,zb v]
    .rw [zc v,zc v,c3]
  rw [zc c3,zc c3];by_cases c4:s.D.PC=4
  .rw [zb c4,zb c4];by_cases w:s.Work=0
   .rw [zb w,zb w]
   .rw [zc w,zc w,ag];rfl
  rw [zc c4,zc c4];by_cases c5:s.D.PC=5
  .rw [zb c5,zb c5];by_cases hf:s.Flag=true
   .rw [cond_eq_ite,zb hf,zb hf,ag];rfl
   .rw [cond_eq_ite,zc hf,zc hf]
  rw [zc c5,zc c5];by_cases c6:s.D.PC=6
  .rw [zb c6,zb c6]
  .rw [zc c6,zc c6]
theorem zGP {m:List zj}(h:m.length<4294967296):vV m=some (m,()):=by
 rw [Ux,zKP,yR h,zKE];cases m with
 | nil=>simp [zeG]
 | cons a l=>simp
theorem zHe {n v:Int}(h:1<=v/\v<=n) (hn:n<1000000):w64 (v.tmod n+1)=zkH n v:=by
 unfold zkH;rw [Int.tmod_eq_emod_of_nonneg (by omega)];by_cases hv:v<n
 .rw [zb hv,Int.emod_eq_of_lt (by omega) hv,ya]
 .have:v=n:=by omega
  rw [zc hv,this,Int.emod_self,ya];rfl
theorem zC9 {p:zd}(h:zI p) {s:za}(hP:s.P=p) (hl:(s.Ws.length:Int)=p.Workers) {x:zj}(hv:1<=x.Victim/\x.Victim<=p.Workers) (w:Int) :
  Wp ⟨x,s,w⟩=some (⟨Yn p w x,s,w⟩,()):=by
 have hw:=h.wk;rw [zmV];simp only [zq,hl];rw [zc (show ¬p.Workers=0 by omega),zHe hv (by omega)];unfold Yn;by_cases e:zkH p.Workers x.Victim=w
 .rw [zb e,zb e,zc2,zKE,zfj];simp only [zaX,zKE,Vg,e,hP];rfl
 .rw [zc e,zc e,zji];simp only [zbt,zKE,zaN,hP]
theorem zrX {p:zd}{s:za}(hP:s.P=p) (x:zj) (w:Int):uV ⟨x,s,w⟩=some (⟨zay p w x,s,w⟩,()):=by
 rw [zlq,zji];simp only [zbt,zKE,zaN,hP];rfl
theorem zzq (s:za) (x:zj) (w:Int):Uj ⟨x,s,w⟩=some (onW s x.Slot,()):=by
 rw [zrC,zq];unfold onW;split<;>rfl
theorem ztW {s:za}(hm:s.M.length<4294967296) (x:zj) (w:Int):Zq ⟨x,s,w⟩=some ((zC s.M x.C).2.Out,⟨{x with C:=(zC s.M x.C).2},{s with M:=(zC s.M x.C).1},w⟩,()):=by
 rw [znb];simp only [zfi hm,zKE]
theorem zxd {p:zd}(h:zI p) {s:za}(hP:s.P=p) (hm:s.M.length<4294967296) (hl:(s.Ws.length:Int)=p.Workers) {x:zj}(hv:1<=x.Victim/\x.Victim<=p.Workers) (hc:x.D.Cap<1000) {w:Int}(h01:x.PC=0\/x.PC=1) :
  Vt ⟨x,s,w⟩=some (⟨(zu s w x).2,(zu s w x).1,w⟩,()):=by
 unfold zu;rw [zb h01,zof];simp only [zEA hm hc,zKE,zq];by_cases o1:(yj s.M x.D).2.Out=1
 .rw [zb o1,zb o1,zdc];rfl
 .rw [zc o1,zc o1];have hk:=fun (x':zj) (e:x'.Victim=x.Victim)=>zC9 h (s:={s with M:=(yj s.M x.D).1}) hP hl (x:=x') (by rw [e];exact hv) w;by_cases o4:(yj s.M x.D).2.Out=4
  .rw [zb o4,zb (.inr o4),hk {x with D:=(yj s.M x.D).2} rfl,zKE,hP]
  .rw [zc o4];by_cases o2:(yj s.M x.D).2.Out=2
   .rw [zb o2,zb (.inl o2),hk {x with D:=(yj s.M x.D).2} rfl,zKE,hP]
   .rw [zc o2,zi]
theorem zEG {p:zd}{nb:Nat}(h:zI p) {s:za}{x:zj}{w:Int}(S:SOk p nb s) (W:WOk p nb w x) (hl:(s.Ws.length:Int)=p.Workers) (sm:WI s) :
  za4 ⟨x,s,w⟩=some (⟨(zu s w x).2,(zu s w x).1,w⟩,()):=by
 have hP:=S.P;have hm:s.M.length<4294967296:=by have:=S.mem;omega
 have hc:=h.cap;rw [zm0];simp only [zq];by_cases c0:x.PC=0
 .rw [zb c0,zb c0,zxd h hP hm hl W.vic (by have:=(W.d0 c0).2.2;omega) (.inl c0),zKE]
 rw [zc c0];by_cases c1:x.PC=1
 .rw [zb c1,zxd h hP hm hl W.vic (by have:=(W.d1 c1).2.2;omega) (.inr c1),zKE]
 rw [zc c1];unfold zu;rw [zc (show ¬(x.PC=0\/x.PC=1) by omega)];by_cases c2:x.PC=2
 .rw [zb c2,zb c2,ztW hm,zKE];simp only [zrX (s:={s with M:=(zC s.M x.C).1}) hP];by_cases o1:(zC s.M x.C).2.Out=1
  .rw [zb o1,zb o1]
  .rw [zc o1,zc o1];by_cases o2:(zC s.M x.C).2.Out=2
   .rw [zb o2,zb o2,zKE,hP]
   .rw [zc o2,zc o2]
 rw [zc c2,zc c2];by_cases c3:x.PC=3
 .have B:=W.b3 c3;have hb:=S.bins;have hnb:=S.nbk;have e:=zKG (show x.Bin.toNat<s.Bins.length by omega);rw [zb c3,zb c3,zmS];dsimp only;rw [vX,e,zKE,zkJ (by omega),zKE,vR (l:=s.Bins) (by omega) (by omega),zKE,zdy,zKE,zfj];simp only [zaX,zKE,Vg];unfold Ud;rw [zKH,e];rfl
 rw [zc c3,zc c3];by_cases c4:x.PC=4
 .rw [zb c4,zb c4,ztW hm,zKE];dsimp only;by_cases o1:(zC s.M x.C).2.Out=1
  .rw [zb o1,zb o1]
  .rw [zc o1,zc o1]
 rw [zc c4,zc c4];by_cases c5:x.PC=5
 .rw [zb c5,zb c5,zmZ];simp only [zvg sm.objs,zKE,zq,zzq,zqn,xT];by_cases v:zW s.H x.Obj x.Slot=0
  .rw [zb v,zb v];rfl
  .rw [zc v,zc v];rfl
 rw [zc c5,zc c5];by_cases c6:x.PC=6
 .obtain ⟨g1,g2,g3,g4⟩:=W.g6 c6;rw [zb c6,zb c6];simp only [zyG (S.gok h g1),zKE,zzq];have eH:(zG s x.G).1.H=s.H:=(zeB s x.G).2;by_cases o1:(zG s x.G).2.Out=1
  .rw [zb o1,zb o1];unfold onW;rw [eH]
  .rw [zc o1,zc o1]
 rw [zc c6,zc c6];by_cases c7:x.PC=7
 .rw [zb c7,zb c7];cases hb:x.Batch with
  | nil=>rw [zb (by simp),zrX hP,zKE,hP]
  | cons o l =>
   rw [zc (by simp;omega),vX];simp only [Int.toNat_zero,zLJ,zKE,zdc,hb];rw [zvi];rfl
 rw [zc c7,zc c7];by_cases c8:x.PC=8
 .rw [zb c8,zb c8];simp only [zjn,zKE,ztZ sm.bal]
 rw [zc c8,zc c8];by_cases c9:x.PC=9
 .rw [zb c9,zb c9,xT]
 .rw [zc c9,zc c9]
theorem zDe {p:zd}{nb:Nat}{s:za}(h:zI p) (E:EOk p nb s) (w:Int):zjJ s w=some (zS s w,()):=by
 rw [zuz];simp only [zq];unfold zS;cases hd:s.Done with
 | true=>rw [zA,zb (.inl rfl)]
 | false =>
  rw [zM];by_cases h1:w<1
  .rw [zb h1,zb (.inr (.inl h1))]
  rw [zc h1];by_cases h2:(s.Ws.length:Int)<w
  .rw [zb h2,zb (.inr (.inr h2))]
  have hwl:=E.wl;have hwk:=h.wk;have e:=zKG (show (w-1).toNat<s.Ws.length by omega);have ei:(((w-1).toNat:Nat):Int)+1=w:=by omega
  have hW:=E.W _ _ e;rw [ei] at hW;obtain ⟨T,TH⟩:=zy2 s w (s.Ws[(w-1).toNat]'(by omega));rw [zc h2,zc (fun e=>e.elim (fun h=>by cases h) (fun e=>e.elim h1 h2)),ya (a:=w-1) (by omega) (by omega),vX,e,zKE,zEG h E.S hW hwl E.small,zKE];simp only [T.ws,zGP (show s.Ws.length<4294967296 by omega),zKE,vR (l:=s.Ws) (show 0<=w-1 by omega) (show w-1<(s.Ws.length:Int) by omega)]
theorem uf (s:za) (g:zJ):(zG s g).1={s with M:=(zG s g).1.M,Bins:=(zG s g).1.Bins,T:=(zG s g).1.T,Work:=(zG s g).1.Work,Flag:=(zG s g).1.Flag}:=by
 obtain ⟨m,b,t,wk,f,e,_⟩:=zfc s g;rw [e]
theorem zkv {p:zd}{nb:Nat}{s:za}{w:Int}{x:zj}(W:WOk p nb w x):(zu s w x).1={s with M:=(zu s w x).1.M,Bins:=(zu s w x).1.Bins,T:=(zu s w x).1.T,Work:=(zu s w x).1.Work,L:=(zu s w x).1.L}:=by
 unfold zu;split
 .rfl
 split
 .rfl
 split
 .rfl
 split
 .rfl
 split
 .rfl
 split
 .rename_i h6;obtain ⟨g1,g2,g3,g4⟩:=W.g6 h6;have hf:=(zDo s g3 g4).2;obtain ⟨m,b,t,wk,f,e,_⟩:=zfc s x.G;dsimp only;rw [e] at hf ⊢;have hf:f=s.Flag:=hf;rw [hf]
 split
 .rfl
 split
 .rfl
 split<;>rfl
theorem ziP (s:za) (m:Int) (x:ze):(zt s m x).1={s with H:=(zt s m x).1.H,M:=(zt s m x).1.M,Bins:=(zt s m x).1.Bins,T:=(zt s m x).1.T,Work:=(zt s m x).1.Work,Flag:=(zt s m x).1.Flag,Acks:=(zt s m x).1.Acks,L:=(zt s m x).1.L}:=by
 have g:∀g:zJ,(zG s g).1={s with H:=(zG s g).1.H,M:=(zG s g).1.M,Bins:=(zG s g).1.Bins,T:=(zG s g).1.T,Work:=(zG s g).1.Work,Flag:=(zG s g).1.Flag,Acks:=(zG s g).1.Acks,L:=(zG s g).1.L}:=fun g=>by
  obtain ⟨m,b,t,wk,f,e,_⟩:=zfc s g;rw [e]
 refine xZ (motive:=fun r=>r.1={s with H:=r.1.H,M:=r.1.M,Bins:=r.1.Bins,T:=r.1.T,Work:=r.1.Work,Flag:=r.1.Flag,Acks:=r.1.Acks,L:=r.1.L}) s m x ?_ ?_ ?_ ?_ ?_ ?_ ?_ ?_ ?_ ?_ ?_ ?_ ?_ ?_ ?_ ?_ ?_ ?_ ?_ ?_
 .exact fun _=>rfl
 .exact fun _=>rfl
 .exact fun _=>rfl
 .exact fun _=>g x.G
 .exact fun _=>rfl
 .exact fun _=>rfl
 .exact fun _=>rfl
 .exact fun _=>rfl
 .exact fun _=>rfl
 .intro _;unfold UN;split
  .split<;>rfl
  .rfl
 .exact fun _=>rfl
 .exact fun _=>rfl
 .exact fun _=>rfl
 .exact fun _=>rfl
 .exact fun _=>rfl
 .exact fun _=>rfl
 .exact fun _=>g x.G
 .exact fun _=>rfl
 .exact fun _=>rfl
 .rfl
def uW (s:za) (k:Int):za:=if k=0 then xY s else if k<=(s.Ws.length:Int) then zS s k else zO s (k-s.Ws.length)
theorem W3 {p:zd}{nb:Nat}{s:za}(E:EOk p nb s) (w:Int):zS s w={s with M:=(zS s w).M,Bins:=(zS s w).Bins,T:=(zS s w).T,Work:=(zS s w).Work,L:=(zS s w).L,Ws:=(zS s w).Ws}:=by
 unfold zS;split
 .rfl
 rename_i hc;cases hx:s.Ws[(w-1).toNat]? with
 | none=>rfl
 | some x =>
  have hW:=E.W _ _ hx;rw [show (((w-1).toNat:Nat):Int)+1=w by omega] at hW;dsimp only;rw [zkv hW]
theorem ztJ (s:za) (m:Int):zO s m={s with H:=(zO s m).H,M:=(zO s m).M,Bins:=(zO s m).Bins,T:=(zO s m).T,Work:=(zO s m).Work,Flag:=(zO s m).Flag,Acks:=(zO s m).Acks,L:=(zO s m).L,Ms:=(zO s m).Ms}:=by
 unfold zO;split
 .rfl
 cases hx:s.Ms[(m-1).toNat]? with
 | none=>rfl
 | some x =>
  dsimp only;rw [ziP]
structure AI (k:Int) (s:za):Prop where
 ep:0<=s.Epoch/\s.Epoch<=k
 m:∀(i:Nat) x,s.Ms[i]? =some x->s.Acks.getD i 0<=s.Epoch/\(x.PC=2\/((x.PC=1\/x.PC=3)/\x.Ret=2)->s.Acks.getD i 0<=x.Want/\x.Want<=s.Epoch)/\(x.PC=2->x.Buf=[])
def zJR (s s':za):Prop:=∀(i:Nat) x',s'.Ms[i]? =some x'->s.Acks.getD i 0<=s'.Acks.getD i 0/\s'.Acks.getD i 0<=s'.Epoch/\(s.Acks.getD i 0<s'.Acks.getD i 0->x'.Buf=[])
theorem AI.same {k:Int}{s s':za}(A:AI k s) (e1:s'.Epoch=s.Epoch) (e2:s'.Ms=s.Ms) (e3:s'.Acks=s.Acks):AI (k+1) s'/\zJR s s':=by
 refine ⟨⟨by rw [e1];have:=A.ep;omega,by rw [e1,e2,e3];exact A.m⟩,fun i x hx=>?_⟩;rw [e2] at hx;rw [e3,e1];exact ⟨zK6 _,(A.m i x hx).1,fun e=>by omega⟩
theorem zu6 {α:Type}{l:List α}{i j:Nat}{v d:α}(h:i<l.length):(l.set i v).getD j d=if i=j then v else l.getD j d:=by
 rw [zKH,zKH,zLt];by_cases e:i=j
 .rw [zb e,zb e,zb h];rfl
 .rw [zc e,zc e]
def goF {S:Type}(g:Nat->S->S):Nat->Nat->S->S
 | _,0,s=>s
 | i,k+1,s=>goF g (i+1) k (g i s)
theorem zIs {S σ B C:Type}{f:σ->Option (yM σ B C)}(A:Int->S->σ) (b:S->B) (n:Nat) (hn:n<1000000) (g:Nat->S->S) (Inv:S->Prop) (hg:∀i s,Inv s->Inv (g i s))
  (h1:∀(i:Nat) s,i<n->Inv s->f (A (i:Int) s)=some (.again (A ((i+1:Nat):Int) (g i s)))) (h2:∀s,Inv s->f (A (n:Int) s)=some (.brk (b s))) {s:S}(hs:Inv s) :
  yc f (A 0 s)=some (.brk (b (goF g 0 n s))):=by
 have key:∀(k i:Nat) (s:S),n-i=k->i<=n->Inv s->∀m,k<m->yY f m (A (i:Int) s)=some (.brk (b (goF g i k s))):=by
  intro k
  induction k with
  | zero =>
   intro i s hk hi hs m hm;have:i=n:=by omega
   subst this;obtain ⟨m,rfl⟩:∃x,m=x+1:=⟨m-1,by omega⟩
   simp only [yY];rw [h2 s hs];rfl
  | succ k ih =>
   intro i s hk hi hs m hm;obtain ⟨m,rfl⟩:∃x,m=x+1:=⟨m-1,by omega⟩
   simp only [yY];rw [h1 i s (by omega) hs,zKE];exact ih (i+1) _ (by omega) (by omega) (hg i s hs) m (by omega)
 have:=key n 0 s (by omega) (by omega) hs vW (ub (by omega));rw [Xe];exact this
def uY (s:za) (x:zk):za :=
 if x.Kind=0 then (if x.N=0 then xY s else s)
 else if x.Kind=1 then (if 1<=x.N/\x.N<=16 then zS s x.N else s)
 else if x.Kind=2 then (if 1<=x.N/\x.N<=16 then zO s x.N else s)
 else s
theorem zIf {p:zd}{nb:Nat}{s:za}(h:zI p) (E:EOk p nb s) (x:zk):EOk p nb (uY s x):=by
 unfold uY;split
 .split
  .exact zH5 h E
  .exact E
 split
 .split
  .exact zuT h E _
  .exact E
 split
 .split
  .exact zy0 h E _
  .exact E
 .exact E
theorem zt3 {p:zd}{nb:Nat}{s:za}(h:zI p) (E:EOk p nb s) (x:zk):zd4 s x=some (uY s x,()):=by
 rw [zuE,zw5];unfold uY;by_cases k0:x.Kind=0
 .rw [zw k0,zA,zA,zb k0,zKE];by_cases n0:x.N=0
  .rw [zw n0,zb n0,zKY,zM,zso,zCw h E];rfl
  .rw [zL n0,zc n0];rfl
 rw [zL k0,zM,zM,zc k0];have key:(bif decide (1<=x.N) then some (decide (x.N<=16),()) else some (false,()):Option (Bool×Unit))=some (decide (1<=x.N/\x.N<=16),()):=by
  by_cases a:1<=x.N
  .by_cases b:x.N<=16
   .rw [zw a,zw b,zw (show 1<=x.N/\x.N<=16 from ⟨a,b⟩)];rfl
   .rw [zw a,zL b,zL (show ¬(1<=x.N/\x.N<=16) from fun e=>b e.2)];rfl
  .rw [zL a,zL (show ¬(1<=x.N/\x.N<=16) from fun e=>a e.1)];rfl
 rw [key];by_cases k1:x.Kind=1
 .rw [zw k1,zA,zA,zb k1,zKE];by_cases n0:1<=x.N/\x.N<=16
  .rw [zw n0,zb n0,zKY,zM,zDe h E];rfl
  .rw [zL n0,zc n0];rfl
 rw [zL k1,zM,zM,zc k1];by_cases k2:x.Kind=2
 .rw [zw k2,zA,zA,zb k2,zKE];by_cases n0:1<=x.N/\x.N<=16
  .rw [zw n0,zb n0,zKY,zM,zAM h E];rfl
  .rw [zL n0,zc n0];rfl
 .rw [zL k2,zM,zM,zc k2];rfl
def V3 (p:zd) (x:zk):Prop:=(x.Kind=0/\x.N=0)\/(x.Kind=1/\1<=x.N/\x.N<=p.Workers)\/(x.Kind=2/\1<=x.N/\x.N<=p.Mutators)
def zbc (p:zd) (x:zk):Int:=if x.Kind=0 then 0 else if x.Kind=1 then x.N else p.Workers+x.N
theorem znl {p:zd}{nb:Nat}{s:za}(h:zI p) (E:EOk p nb s) {x:zk}(hx:V3 p x):uY s x=uW s (zbc p x):=by
 have hw:=h.wk;have hm:=h.mt;have hwl:=E.wl;rcases hx with ⟨a,b⟩ | ⟨a,b,c⟩ | ⟨a,b,c⟩
 .have ek:zbc p x=0:=zb a;rw [ek];unfold uY uW;rw [zb a,zb b,zb rfl]
 .have ek:zbc p x=x.N:=by unfold zbc;rw [zc (by rw [a];decide),zb a]
  rw [ek];unfold uY uW;rw [zc (by rw [a];decide),zb a,zb ⟨b,by omega⟩,zi,yf]
 .have ek:zbc p x=p.Workers+x.N:=by unfold zbc;rw [zc (by rw [a];decide),zc (by rw [a];decide)]
  rw [ek];unfold uY uW;rw [zc (by rw [a];decide),zc (by rw [a];decide),zb a,zb ⟨b,by omega⟩,zi,zi];congr 1;omega
def zbM:za->List zk->za×Int
 | s,[]=>(s,0)
 | s,x::l=>if s.Done=true then (s,0) else ((zbM (uY s x) l).1,(zbM (uY s x) l).2+1)
theorem zsT (s:za) (x:zk) (l:List zk):zbM s (x::l)=if s.Done=true then (s,0) else ((zbM (uY s x) l).1,(zbM (uY s x) l).2+1):=rfl
theorem zED {p:zd}{nb:Nat}{s:za}(h:zI p) (E:EOk p nb s) {l:List zk}(hl:l.length<1000000):WY s l=some ((zbM s l).1,(zbM s l).2,()):=by
 rw [zvT];obtain ⟨o,e,ho⟩:=vm (f:=zfh) (fun a=>∃(i:Nat) (t:za),i<=l.length/\EOk p nb t/\a=(l,l,(l.length:Int),(i:Int),t,0,0,0,0,0,0,0,0,0,0#64,0,zn.mk 0#64 0#64,0,0,false,false,0,0,0,0,zN.mk 0 0,([]:List (List Int)),([]:List (List Int)),([]:List (List zE)),([]:List zk),([]:List (List Int)),([]:List (BitVec 64)),([]:List (List Int)),([]:List Int),([]:List Int),([]:List zj),([]:List ze),())/\(zbM s l).1=(zbM t (l.drop i)).1/\(zbM s l).2=(i:Int)+(zbM t (l.drop i)).2) (fun a=>l.length-a.2.2.2.1.toNat)
  (fun o=>o= .brk (l,(zbM s l).1,0,0,0,0,0,0,0,0,0,0#64,0,zn.mk 0#64 0#64,0,0,false,false,0,0,0,0,zN.mk 0 0,([]:List (List Int)),([]:List (List Int)),([]:List (List zE)),([]:List zk),([]:List (List Int)),([]:List (BitVec 64)),([]:List (List Int)),([]:List Int),([]:List Int),([]:List zj),([]:List ze),())/\(zbM s l).2=(l.length:Int)\/o= .ret ((zbM s l).2,(zbM s l).1,())) (by
  rintro _ ⟨i,t,hi,F,rfl,r1,r2⟩;rw [zsx,zq];by_cases c1:(i:Int)<(l.length:Int)
  .have hx:=zKG (show i<l.length by omega);have hd:=zLm (show i<l.length by omega);generalize l[i]'(by omega)=x at hx hd;rw [zb c1,xz hx,zKE];rw [hd] at r1 r2;cases hD:t.Done with
   | true =>
    rw [zsT,zb hD] at r1 r2;refine ⟨_,rfl,.inr ?_⟩;rw [r1,r2];simp
   | false =>
    rw [zsT,zc (by rw [hD];decide)] at r1 r2;rw [zM,zt3 h F,zKE,yV];refine ⟨_,rfl,⟨i+1,uY t x,by omega,zIf h F x,rfl,r1,?_⟩,?_⟩
    .rw [r2];dsimp only;omega
    .show l.length-((i+1:Nat):Int).toNat<l.length-(i:Int).toNat;omega
  .rw [zc c1];have ei:i=l.length:=by omega
   subst ei;rw [List.drop_length] at r1 r2;refine ⟨_,rfl,.inl ⟨?_,?_⟩⟩
   .rw [r1];rfl
   .rw [r2];show (l.length:Int)+0=_;omega) (l,l,(l.length:Int),0,s,0,0,0,0,0,0,0,0,0,0#64,0,zn.mk 0#64 0#64,0,0,false,false,0,0,0,0,zN.mk 0 0,([]:List (List Int)),([]:List (List Int)),([]:List (List zE)),([]:List zk),([]:List (List Int)),([]:List (BitVec 64)),([]:List (List Int)),([]:List Int),([]:List Int),([]:List zj),([]:List ze),()) ⟨0,s,by omega,E,rfl,by rw [List.drop_zero],by rw [List.drop_zero];omega⟩ (by show l.length-0<18446744073709551616;omega)
 rw [e];rcases ho with ⟨rfl,hn⟩ | rfl
 .rw [hn];rfl
 .rfl
namespace B20
theorem zIi {a b:Int}(ha:0<=a) (hb:0<b):0<=a.tmod b/\a.tmod b<b:=by
 rw [Int.tmod_eq_emod_of_nonneg ha];exact ⟨Int.emod_nonneg _ (by omega),Int.emod_lt_of_pos _ hb⟩
theorem zve {p:zd}(ord:List (BitVec 8)) (n:Nat) (hn:n<1000000) (i:Nat) (hi:i<ord.length) (x:zk) (hx:V3 p x) (l:List zk) (hl:l.length<n) (hp:∀y∈l,V3 p y) :
  ∃o,yc uy (ord,(n:Int),(i:Int),0,p,l,x,())=some o/\∃l',o= .brk (ord,(n:Int),(i:Int),p,l',())/\(l.length<l'.length/\l'.length<=n)/\∀y∈l',V3 p y:=by
 have hb:=ord[i].isLt;have hdv:w64 (((ord[i]).toNat:Int).tdiv 64)=((ord[i].toNat/64:Nat):Int):=by rw [ya (by rw [Int.tdiv_eq_ediv_of_nonneg (by omega)];omega) (by rw [Int.tdiv_eq_ediv_of_nonneg (by omega)];omega),Int.tdiv_eq_ediv_of_nonneg (by omega)];omega
 refine vm (f:=uy) (fun a=>∃(k:Nat) (l':List zk),k<=5/\a=(ord,(n:Int),(i:Int),(k:Int),p,l',x,())/\(((k=0/\l'=l)\/l.length<l'.length)/\l'.length<=n)/\∀y∈l',V3 p y) (fun a=>10-a.2.2.2.1.toNat) (fun o=>∃l',o= .brk (ord,(n:Int),(i:Int),p,l',())/\(l.length<l'.length/\l'.length<=n)/\∀y∈l',V3 p y) ?_ _ ⟨0,l,by omega,rfl,⟨.inl ⟨rfl,rfl⟩,by omega⟩,hp⟩ (by show 10-0<18446744073709551616;decide);rintro _ ⟨k,l',hk,rfl,hl',hp'⟩;rw [zkU,xz (zKG hi),zKE,hdv,zq];by_cases c1:(k:Int)<=((ord[i].toNat/64:Nat):Int)
 .rw [zb c1,zq];by_cases c2:(l'.length:Int)<(n:Int)
  .rw [zb c2,yR (by simp;omega),zKE,yV];refine ⟨_,rfl,⟨k+1,l'++[x],by omega,rfl,⟨.inr ?_,by simp;omega⟩,fun y hy=>?_⟩,?_⟩
   .rcases hl'.1 with ⟨_,rfl⟩ | h
    .simp
    .simp;omega
   .rcases zK4.1 hy with hy | hy
    .exact hp' y hy
    .rw [zLr.1 hy];exact hx
   .show 10-((k+1:Nat):Int).toNat<10-(k:Int).toNat;omega
  .rw [zc c2];refine ⟨_,rfl,l',rfl,⟨?_,hl'.2⟩,hp'⟩;rcases hl'.1 with ⟨_,rfl⟩ | h
   .omega
   .exact h
 .rw [zc c1];refine ⟨_,rfl,l',rfl,⟨?_,hl'.2⟩,hp'⟩;rcases hl'.1 with ⟨rfl,rfl⟩ | h
  .exact zm (Int.natCast_nonneg _) c1
  .exact h
theorem zHN {p:zd}(h:zI p) (ord:List (BitVec 8)) (n:Nat) (hn:n<1000000):∃l,V0 p ord (n:Int)=some (l,())/\l.length<=n/\∀x∈l,V3 p x:=by
 have hw:=h.wk;have hm:=h.mt;have e1:w64 (w64 (1+p.Workers)+p.Mutators)=1+p.Workers+p.Mutators:=by rw [ya (a:=1+p.Workers) (by omega) (by omega),ya]
 obtain ⟨o,e,l,rfl,h1,h2⟩:=vm (f:=zax) (fun a=>∃(i:Nat) (l:List zk),i<=l.length/\a=(ord,(n:Int),(i:Int),p,l,())/\l.length<=n/\∀y∈l,V3 p y) (fun a=>n+1-a.2.2.1.toNat) (fun o=>∃l,o= .brk (l,())/\l.length<=n/\∀y∈l,V3 p y) (by
  rintro _ ⟨i,l,hi,rfl,hl,hp⟩;rw [zlI,zq];by_cases c1:(i:Int)<(ord.length:Int);rotate_left
  .rw [zc c1];exact ⟨_,rfl,l,rfl,hl,hp⟩
  rw [zb c1,zq];by_cases c2:(l.length:Int)<(n:Int);rotate_left
  .rw [zc c2];exact ⟨_,rfl,l,rfl,hl,hp⟩
  have hil:i<ord.length:=by omega
  have ht:=zIi (show (0:Int)<=(ord[i].toNat:Int) by omega) (show (0:Int)<1+p.Workers+p.Mutators by omega);have fin:∀ {l':List zk},(l.length<l'.length/\l'.length<=n)->(∀y∈l',V3 p y)->(∃(j:Nat) (q:List zk),j<=q.length/\(ord,(n:Int),((i+1:Nat):Int),p,l',())=(ord,(n:Int),(j:Int),p,q,())/\q.length<=n/\∀y∈q,V3 p y)/\n+1-((i+1:Nat):Int).toNat<n+1-(i:Int).toNat:=fun {l'} h1 h2=>⟨⟨i+1,l',by omega,rfl,h1.2,h2⟩,by omega⟩
  rw [zb c2,xz (zKG hil),zKE,e1,zq,zi,zq];generalize (ord[i].toNat:Int).tmod (1+p.Workers+p.Mutators)=t at ht;by_cases c3:p.Workers<t
  .rw [zb c3,ya];obtain ⟨o,e,l',rfl,h1,h2⟩:=zve ord n hn i hil ⟨2,t-p.Workers⟩ (.inr (.inr ⟨rfl,by show 1<=t-p.Workers;omega,by show t-p.Workers<=p.Mutators;omega⟩)) l (by omega) hp;rw [e,zKE];dsimp only;rw [yV];exact ⟨_,rfl,fin h1 h2⟩
  rw [zc c3,zq];by_cases c4:0<t
  .rw [zb c4];obtain ⟨o,e,l',rfl,h1,h2⟩:=zve ord n hn i hil ⟨1,t⟩ (.inr (.inl ⟨rfl,by show 1<=t;omega,by show t<=p.Workers;omega⟩)) l (by omega) hp;rw [e,zKE];dsimp only;rw [yV];exact ⟨_,rfl,fin h1 h2⟩
  .rw [zc c4];obtain ⟨o,e,l',rfl,h1,h2⟩:=zve ord n hn i hil ⟨0,0⟩ (.inl ⟨rfl,rfl⟩) l (by omega) hp;rw [e,zKE];dsimp only;rw [yV];exact ⟨_,rfl,fin h1 h2⟩) (ord,(n:Int),0,p,[],()) ⟨0,[],by simp,rfl,by simp,fun y hy=>by cases hy⟩ (by show n+1-0<18446744073709551616;omega)
 refine ⟨l,?_,h1,h2⟩;rw [zpn,e];rfl
end B20
theorem Yg {α S σ B C:Type}{f:σ->Option (yM σ B C)}(A:Int->S->σ) (b:S->B) (l:List α) (hl:l.length<1000000) (g:S->α->S) (Inv:Nat->S->Prop) {s:S}(h0:Inv 0 s)
  (h1:∀(i:Nat) s x,l[i]? =some x->i<l.length->Inv i s->Inv (i+1) (g s x)/\f (A (i:Int) s)=some (.again (A ((i+1:Nat):Int) (g s x)))) (h2:∀s,Inv l.length s->f (A (l.length:Int) s)=some (.brk (b s))) :
  yc f (A 0 s)=some (.brk (b (l.foldl g s)))/\Inv l.length (l.foldl g s):=by
 have key:∀(k i:Nat) (s:S),l.length-i=k->i<=l.length->Inv i s->(∀m,k<m->yY f m (A (i:Int) s)=some (.brk (b ((l.drop i).foldl g s))))/\Inv l.length ((l.drop i).foldl g s):=by
  intro k
  induction k with
  | zero =>
   intro i s hk hi hs;have:i=l.length:=by omega
   subst this;rw [List.drop_length];refine ⟨fun m hm=>?_,hs⟩;obtain ⟨m,rfl⟩:∃x,m=x+1:=⟨m-1,by omega⟩
   simp only [yY];rw [h2 s hs];rfl
  | succ k ih =>
   intro i s hk hi hs;have hx:=zKG (show i<l.length by omega);have hd:=zLm (show i<l.length by omega);generalize l[i]'(by omega)=x at hx hd;obtain ⟨h3,h4⟩:=h1 i s x hx (by omega) hs;obtain ⟨h5,h6⟩:=ih (i+1) (g s x) (by omega) (by omega) h3;rw [hd];refine ⟨fun m hm=>?_,h6⟩;obtain ⟨m,rfl⟩:∃x,m=x+1:=⟨m-1,by omega⟩
   simp only [yY];rw [h4,zKE];exact h5 m (by omega)
 obtain ⟨k1,k2⟩:=key l.length 0 s (by omega) (by omega) h0;refine ⟨?_,k2⟩;rw [Xe];exact k1 vW (ub (by omega))
def zxs (x:Int):List Int->List Int
 | []=>[x]
 | y::l=>if x<=y then x::y::l else y::zxs x l
def Z3:List Int->List Int
 | []=>[]
 | x::l=>zxs x (Z3 l)
theorem zrP (x:Int):∀l,List.Perm (zxs x l) (x::l)
 | []=>zK8 _
 | y::l=>by
  unfold zxs;split
  .exact zK8 _
  .exact ((zrP x l).cons y).trans (List.Perm.swap x y l)
theorem Uf:∀l,List.Perm (Z3 l) l
 | []=>zK8 _
 | x::l=>(zrP x (Z3 l)).trans ((Uf l).cons x)
theorem ztR (x:Int):∀l,List.Pairwise (fun a b:Int=>a<=b) l->List.Pairwise (fun a b:Int=>a<=b) (zxs x l)
 | [],_=>List.pairwise_singleton _ _
 | y::l,h=>by
  rw [zLY] at h;unfold zxs;split
  .rename_i hx;refine zLY.2 ⟨fun z hz=>?_,zLY.2 h⟩;rcases zKW.1 hz with rfl | hz
   .exact hx
   .have:=h.1 z hz;omega
  .rename_i hx;refine zLY.2 ⟨fun z hz=>?_,ztR x l h.2⟩;rcases zKW.1 ((zrP x l).mem_iff.1 hz) with rfl | hz
   .omega
   .exact h.1 z hz
theorem zdV:∀l,List.Pairwise (fun a b:Int=>a<=b) (Z3 l)
 | []=>List.Pairwise.nil
 | x::l=>ztR x _ (zdV l)
theorem zsM {l m:List Int}(hl:List.Pairwise (fun a b:Int=>a<=b) l) (hm:List.Pairwise (fun a b:Int=>a<=b) m) (h:List.Perm l m):l=m :=
 List.Perm.eq_of_pairwise (fun a b _ _ h1 h2=>Int.le_antisymm h1 h2) hl hm h
theorem zEF (l:List Int):wJ l=Z3 l:=by
 refine zsM ?_ (zdV l) ((List.mergeSort_perm l _).trans (Uf l).symm);have:=List.pairwise_mergeSort (le:=fun x y:Int=>decide (x<=y)) (fun a b c h1 h2=>by simp only [decide_eq_true_eq] at *;omega) (fun a b=>by simp only [zLO,decide_eq_true_eq];omega) l;exact this.imp (fun h=>by simpa using h)
theorem zDt {l m:List Int}(h:List.Perm l m):Z3 l=Z3 m:=zsM (zdV l) (zdV m) ((Uf l).trans (h.trans (Uf m).symm))
theorem zGX (l:List Int):(Z3 l).length=l.length:=(Uf l).length_eq
theorem zHi (a b:List Int):Z3 (Z3 a++b)=Z3 (a++b):=zDt ((Uf a).append_right b)
theorem zy6 {l:List Int}(h:l.length<4294967296):zs6 l=some (Z3 l,()):=by
 rw [zEE];unfold zo1;rw [zw (by omega),zEF];rfl
def YA (p:zd) (w:Int) (i:Nat):Int:=z6 p w+2+((i%p.Cap.toNat:Nat):Int)
structure DQ (p:zd) (m:List (BitVec 64)) (w:Int) (t:Nat) (l:List Int) (c:Nat):Prop where
 top:ld m (z6 p w)=BitVec.ofNat 64 t
 bot:ld m (z6 p w+1)=BitVec.ofNat 64 (t+l.length-c)
 c1:c<=1
 t1:1<=t
 cap:l.length<=p.Cap.toNat
 small:t+l.length<4294967296
 cell:∀(i:Nat) (hi:i<l.length),(ld m (YA p w (t+i))).toInt=l[i]
theorem DQ.keep {p:zd}(h:zI p) {m m':List (BitVec 64)}{w:Int}{t c:Nat}{l:List Int}(D:DQ p m w t l c) (hm:∀a,z6 p w<=a->a<z6 p w+p.Cap+2->ld m' a=ld m a):DQ p m' w t l c:=by
 have hc:=h.cap;refine ⟨by rw [hm _ (by omega) (by omega)];exact D.top,by rw [hm _ (by omega) (by omega)];exact D.bot,D.c1,D.t1,D.cap,D.small,fun i hi=>?_⟩;have:=Nat.mod_lt (t+i) (show 0<p.Cap.toNat by omega);rw [hm _ (by unfold YA;omega) (by unfold YA;omega)];exact D.cell i hi
theorem Yo {n:Nat}(h:n<18446744073709551616):(BitVec.ofNat 64 n).toNat=n:=by rw [BitVec.toNat_ofNat];omega
theorem zjk {a b:Nat}(h:b<=a) (h2:a<18446744073709551616):BitVec.ofNat 64 a-BitVec.ofNat 64 b=BitVec.ofNat 64 (a-b):=by
 apply zLX;rw [BitVec.toNat_sub,Yo h2,Yo (by omega),Yo (by omega)];omega
theorem zeC {a b:Nat}(h2:a+b<18446744073709551616):BitVec.ofNat 64 a+BitVec.ofNat 64 b=BitVec.ofNat 64 (a+b):=by
 apply zLX;rw [BitVec.toNat_add,Yo (by omega),Yo (by omega),Yo (by omega)];omega
theorem zyJ {a b:Nat}(h:a<18446744073709551616) (h2:b<18446744073709551616) (e:BitVec.ofNat 64 a=BitVec.ofNat 64 b):a=b:=by
 have:=congrArg BitVec.toNat e;rwa [Yo h,Yo h2] at this
theorem zi2 {a b:Nat}(h:a<4294967296) (h2:b<4294967296):0<(BitVec.ofNat 64 a-BitVec.ofNat 64 b).toInt↔b<a:=by
 rw [zMg,BitVec.toNat_sub,Yo (by omega),Yo (by omega)];omega
theorem zIS {t i n c:Nat}(hi:i<n) (hn:n<t+c) (ht:t<=i) (e:i%c=n%c):False:=by
 have h1:=Nat.div_add_mod i c;have h2:=Nat.div_add_mod n c;have hc:0<c:=by omega
 rw [e] at h1;have h3:c*(n/c)=c*(i/c)+(n-i):=by omega
 rcases zLh (i/c) (n/c) with h | h
 .have:c*(i/c)+c<=c*(n/c):=by
   have:=Nat.mul_le_mul_left c h;rw [Nat.succ_eq_add_one,Nat.mul_add,zLz] at this;exact this
  omega
 .have:=Nat.mul_le_mul_left c h;omega
theorem zi4 {p:zd}(h:zI p) {d:zg}{w:Int}(hw:1<=w/\w<=p.Workers) (hb:d.Base=z6 p w) (hc:d.Cap=p.Cap) {i:Nat}(hi:i<4294967296):Xy d (BitVec.ofNat 64 i)=YA p w i:=by
 rw [(zuf h hw.1 hw.2 hb hc _).1,Yo (by omega),hb];rfl
structure DK (p:zd) (m:List (BitVec 64)) (w:Int) (t:Nat) (l:List Int) (c:Nat) (d:zg):Prop where
 kind:d.Kind=1
 base:d.Base=z6 p w
 size:d.Cap=p.Cap
 out:d.Out=0
 c0:c=0
 pc:0<=d.PC/\d.PC<=3
 b:1<=d.PC->d.B=BitVec.ofNat 64 (t+l.length)
 r:2<=d.PC->l.length<p.Cap.toNat
 x:3<=d.PC->(ld m (YA p w (t+l.length))).toInt=d.X
structure PK (p:zd) (m:List (BitVec 64)) (w:Int) (t:Nat) (l:List Int) (c:Nat) (d:zg):Prop where
 kind:d.Kind=2
 base:d.Base=z6 p w
 size:d.Cap=p.Cap
 out:d.Out=0
 pc:0<=d.PC/\d.PC<=6
 c0:d.PC<=1->c=0
 c1:d.PC=2\/4<=d.PC->c=1
 b:d.PC=1\/d.PC=2\/4<=d.PC\/(d.PC=3/\d.T=d.B-1#64)->d.B=BitVec.ofNat 64 (t+l.length)
 c3:d.PC=3->d.T=d.B-1#64->c=1
 n3:d.PC=3->d.T≠d.B-1#64->c=0/\d.B=BitVec.ofNat 64 (t+l.length+1)/\t+l.length+1<4294967296/\l.length+1<=p.Cap.toNat
 t3:d.PC=3\/d.PC=4->d.T.toNat<=t
 t4:d.PC=4->d.T=d.B-1#64
 x4:d.PC=4->d.T.toNat=t->l=[d.X]
 e5:5<=d.PC->l=[]
def Yy (m:List (BitVec 64)) (d:zg):List Int :=
 if d.PC=3/\d.T≠d.B-1#64 then [(ld m (Xy d (d.B-1#64))).toInt] else if d.PC=6 then [d.X] else []
structure TK (p:zd) (m:List (BitVec 64)) (w:Int) (t:Nat) (l:List Int) (d:zg):Prop where
 kind:d.Kind=3
 base:d.Base=z6 p w
 size:d.Cap=p.Cap
 out:d.Out=0
 pc:0<=d.PC/\d.PC<=3
 le:1<=d.PC->d.T.toNat<=t
 ne:2<=d.PC->d.T.toNat=t->l≠[]
 hd:d.PC=3->d.T.toNat=t->l.head? =some d.X
structure Dv (t:Nat) (l:List Int) (t':Nat) (l':List Int):Prop where
 le:t<=t'
 hd:t'=t->l≠[]->l'≠[]/\l'.head? =l.head?
theorem Dv.refl (t:Nat) (l:List Int):Dv t l t l:=⟨zKJ _,fun _ h=>⟨h,rfl⟩⟩
theorem TK.dv {p:zd}{m m':List (BitVec 64)}{w:Int}{t t':Nat}{l l':List Int}{d:zg}(K:TK p m w t l d) (V:Dv t l t' l'):TK p m' w t' l' d:=by
 have h1:=V.le;refine ⟨K.kind,K.base,K.size,K.out,K.pc,fun h=>zLM (K.le h) h1,fun h e=>?_,fun h e=>?_⟩
 .have:=K.le (by omega);have et:t'=t:=by omega
  exact (V.hd et (K.ne h (by omega))).1
 .have:=K.le (by omega);have et:t'=t:=by omega
  rw [(V.hd et (K.ne (by omega) (by omega))).2];exact K.hd h (by omega)
theorem zE3 {p:zd}(h:zI p) {m:List (BitVec 64)}{w:Int}{t c:Nat}{l:List Int}{d:zg}(hw:1<=w/\w<=p.Workers) (hlen:yr p<=m.length) (D:DQ p m w t l c) (K:TK p m w t l d) :
  ((yj m d).1=m/\(((yj m d).2.Out=0/\TK p m w t l (yj m d).2)\/(yj m d).2.Out=2\/(yj m d).2.Out=4)) \/
  (∃x l',l=x::l'/\(yj m d).2.Out=1/\(yj m d).2.X=x/\DQ p (yj m d).1 w (t+1) l' c/\(∀a,a≠z6 p w->ld (yj m d).1 a=ld m a)):=by
 have hc:=h.cap;have hd:=Xa h hw.1 hw.2;have hf:=Z8 h;have hpc:=K.pc;have hsm:=D.small;have ht1:=D.t1;have hc1:=D.c1;have eb:wc (d.Base+1)=z6 p w+1:=by rw [K.base,yQ]
 have k:=K.kind;unfold yj;rw [zc (by have:=K.out;omega),zi,zi,zb k];unfold zcK;rw [zi,eb];by_cases c0:d.PC=0
 .rw [zb c0];exact .inl ⟨rfl,.inl ⟨K.out,⟨k,K.base,K.size,K.out,⟨by dsimp only;omega,by dsimp only;omega⟩,fun _=>by dsimp only;rw [K.base,D.top,Yo (by omega)];exact zKJ _,fun e=>by dsimp only at e;omega,fun e=>by dsimp only at e;omega⟩⟩⟩
 rw [zc c0];have hT:=K.le (by omega);by_cases c1:d.PC=1
 .rw [zb c1];left;refine ⟨rfl,?_⟩;by_cases hs:0<(ld m (z6 p w+1)-d.T).toInt
  .left;dsimp only;rw [zb hs];refine ⟨K.out,⟨k,K.base,K.size,K.out,⟨by dsimp only;omega,by dsimp only;omega⟩,fun _=>hT,fun _ e=>?_,fun e=>by dsimp only at e;omega⟩⟩;have e:d.T.toNat=t:=e;have eT:d.T=BitVec.ofNat 64 t:=by apply zLX;rw [Yo (by omega)];exact e
   rw [D.bot,eT] at hs;have:=(zi2 (by omega) (by omega)).1 hs;intro el;rw [el] at this;simp at this;omega
  .right;left;dsimp only;rw [zc hs]
 rw [zc c1];by_cases c2:d.PC=2
 .rw [zb c2];left;refine ⟨rfl,.inl ⟨K.out,⟨k,K.base,K.size,K.out,⟨by dsimp only;omega,by dsimp only;omega⟩,fun _=>hT,fun _ e=>K.ne (by omega) e,fun _ e=>?_⟩⟩⟩;have e:d.T.toNat=t:=e;have eT:d.T=BitVec.ofNat 64 t:=by apply zLX;rw [Yo (by omega)];exact e
  have hn:=K.ne (by omega) e;cases l with
  | nil=>exact zm rfl hn
  | cons x l =>
   have:=D.cell 0 (by simp);dsimp only;rw [eT,zi4 h hw K.base K.size (by omega)];rw [zLp] at this;rw [this];rfl
 rw [zc c2];have c3:d.PC=3:=by omega
 by_cases hs:ld m d.Base=d.T
 .right;have eT:d.T.toNat=t:=by rw [<-hs,K.base,D.top,Yo (by omega)]
  have eT':d.T=BitVec.ofNat 64 t:=by rw [<-hs,K.base,D.top]
  have hx:=K.hd c3 eT;have hn:=K.ne (by omega) eT;have hsw:sw m d.Base d.T (d.T+1#64)=(st m d.Base (d.T+1#64),true):=by unfold sw;rw [zb ⟨by rw [K.base];omega,by rw [K.base];omega,hs⟩]
  rw [hsw];cases l with
  | nil=>exact zm rfl hn
  | cons x l =>
   have hx:x=d.X:=by simpa using hx
   have hmod:∀i,z6 p w+2<=YA p w i:=fun i=>by unfold YA;omega
   have hlc:=D.cap;rw [zKV] at hlc hsm;refine ⟨x,l,rfl,rfl,hx.symm,⟨?_,?_,hc1,by omega,by omega,by omega,fun i hi=>?_⟩,fun a ha=>?_⟩
   .dsimp only;rw [K.base,Vo,zb ⟨rfl,by omega,by omega⟩,eT'];exact zeC (by omega)
   .dsimp only;rw [K.base,yK (by omega),D.bot,zKV];congr 1;omega
   .dsimp only;have:=hmod (t+1+i);rw [K.base,yK (by omega)];have:=D.cell (i+1) (by simp;omega);rw [show t+(i+1)=t+1+i by omega] at this;simpa using this
   .dsimp only;rw [K.base,yK (fun e=>ha e.symm)]
 .left;have hsw:sw m d.Base d.T (d.T+1#64)=(m,false):=by unfold sw;rw [zc (fun e=>hs e.2.2)]
  rw [hsw];exact ⟨rfl,.inr (.inr rfl)⟩
theorem uw {m:List (BitVec 64)}{d:zg}(h:d.PC≠3\/d.T=d.B-1#64) (h2:d.PC≠6):Yy m d=[]:=by
 unfold Yy;rw [zc (fun e=>h.elim (fun f=>f e.1) (fun f=>e.2 f)),zc h2]
theorem zA8 {p:zd}(h:zI p) {m:List (BitVec 64)}{w:Int}{t c:Nat}{l:List Int}{d:zg}(hw:1<=w/\w<=p.Workers) (hlen:yr p<=m.length) (D:DQ p m w t l c) (K:PK p m w t l c d) :
  ∃t' l' c',DQ p (yj m d).1 w t' l' c'/\(∀a,a≠z6 p w->a≠z6 p w+1->ld (yj m d).1 a=ld m a)/\Dv t l t' l'/\t'+l'.length<=t+l.length /\
   (((yj m d).2.Out=0/\PK p (yj m d).1 w t' l' c' (yj m d).2/\List.Perm (l'++Yy (yj m d).1 (yj m d).2) (l++Yy m d)) \/
    ((yj m d).2.Out=1/\c'=0/\List.Perm (l'++[(yj m d).2.X]) (l++Yy m d)) \/
    ((yj m d).2.Out=2/\c'=0/\l'=[]/\l=[]/\Yy m d=[])):=by
 have hc:=h.cap;have hd:=Xa h hw.1 hw.2;have hf:=Z8 h;have hpc:=K.pc;have hsm:=D.small;have ht1:=D.t1;have hc1:=D.c1;have eb:wc (d.Base+1)=z6 p w+1:=by rw [K.base,yQ]
 have k:=K.kind;have one:(1#64:BitVec 64)=BitVec.ofNat 64 1:=rfl;have hmod:∀i,z6 p w+2<=YA p w i/\YA p w i<z6 p w+p.Cap+2:=fun i=>by
  have:=Nat.mod_lt i (show 0<p.Cap.toNat by omega);unfold YA;omega
 have stb:∀(c':Nat) (v:BitVec 64),c'<=1->v=BitVec.ofNat 64 (t+l.length-c')->DQ p (st m (z6 p w+1) v) w t l c'/\(∀a,a≠z6 p w->a≠z6 p w+1->ld (st m (z6 p w+1) v) a=ld m a):=by
  intro c' v h1 h2;refine ⟨⟨by rw [yK (by omega)];exact D.top,by rw [Vo,zb ⟨rfl,by omega,by omega⟩];exact h2,h1,ht1,D.cap,hsm,fun i hi=>by rw [yK (by have:=hmod (t+i);omega)];exact D.cell i hi⟩,fun a _ h2=>yK (fun e=>h2 e.symm)⟩
 unfold yj;rw [zc (by have:=K.out;omega),zi,zb k];unfold zla;rw [zi,eb];by_cases p0:d.PC=0
 .rw [zb p0];have hc0:=K.c0 (by omega);refine ⟨t,l,c,D,fun _ _ _=>rfl,Dv.refl _ _,zKJ _,.inl ⟨K.out,⟨k,K.base,K.size,K.out,⟨by dsimp only;omega,by dsimp only;omega⟩,fun _=>hc0,fun e=>by dsimp only at e;omega,fun _=>?_,fun e=>by dsimp only at e;omega,fun e=>by dsimp only at e;omega,fun e=>by dsimp only at e;omega,fun e=>by dsimp only at e;omega,fun e=>by dsimp only at e;omega,fun e=>by dsimp only at e;omega⟩,?_⟩⟩
  .dsimp only;rw [D.bot,hc0];rfl
  .rw [uw (.inl (by dsimp only;omega)) (by dsimp only;omega),uw (.inl (by omega)) (by omega)]
 rw [zc p0];by_cases p1:d.PC=1
 .rw [zb p1];have hB:=K.b (.inl p1);have eB:d.B-1#64=BitVec.ofNat 64 (t+l.length-1):=by rw [hB,one,zjk (by omega) (by omega)]
  obtain ⟨D',hm⟩:=stb 1 (d.B-1#64) (by omega) eB;refine ⟨t,l,1,D',hm,Dv.refl _ _,zKJ _,.inl ⟨K.out,⟨k,K.base,K.size,K.out,⟨by dsimp only;omega,by dsimp only;omega⟩,fun e=>by dsimp only at e;omega,fun _=>rfl,fun _=>hB,fun e=>by dsimp only at e;omega,fun e=>by dsimp only at e;omega,fun e=>by dsimp only at e;omega,fun e=>by dsimp only at e;omega,fun e=>by dsimp only at e;omega,fun e=>by dsimp only at e;omega⟩,?_⟩⟩;rw [uw (.inl (by dsimp only;omega)) (by dsimp only;omega),uw (.inl (by omega)) (by omega)]
 rw [zc p1];by_cases p2:d.PC=2
 .rw [zb p2];have hB:=K.b (.inr (.inl p2));have hc':=K.c1 (.inl p2);have eB:d.B-1#64=BitVec.ofNat 64 (t+l.length-1):=by rw [hB,one,zjk (by omega) (by omega)]
  have eT:ld m d.Base=BitVec.ofNat 64 t:=by rw [K.base];exact D.top
  rw [uw (d:=d) (.inl (by omega)) (by omega),zKI];by_cases hs:0<(ld m d.Base-(d.B-1#64)).toInt
  .have hs':=hs;rw [eT,eB] at hs';have:=(zi2 (by omega) (by omega)).1 hs';have el:l=[]:=by cases l with | nil=>rfl | cons a l=>rw [zKV] at this;omega
   rw [zb hs];refine ⟨t,l,c,D,fun _ _ _=>rfl,Dv.refl _ _,zKJ _,.inl ⟨K.out,⟨k,K.base,K.size,K.out,⟨by dsimp only;omega,by dsimp only;omega⟩,fun e=>by dsimp only at e;omega,fun _=>hc',fun _=>hB,fun e=>by dsimp only at e;omega,fun e=>by dsimp only at e;omega,fun e=>by dsimp only at e;omega,fun e=>by dsimp only at e;omega,fun e=>by dsimp only at e;omega,fun _=>el⟩,?_⟩⟩;rw [uw (.inl (by dsimp only;omega)) (by dsimp only;omega),zKI]
  .have hs':=hs;rw [eT,eB] at hs';have hle: ¬(t+l.length-1<t):=fun e=>hs' ((zi2 (by omega) (by omega)).2 e);rw [zc hs];by_cases h1:l.length=1
   .have e3:ld m d.Base=d.B-1#64:=by rw [eT,eB];congr 1;omega
    refine ⟨t,l,c,D,fun _ _ _=>rfl,Dv.refl _ _,zKJ _,.inl ⟨K.out,⟨k,K.base,K.size,K.out,⟨by dsimp only;omega,by dsimp only;omega⟩,fun e=>by dsimp only at e;omega,fun e=>by dsimp only at e;omega,fun _=>hB,fun _ _=>hc',fun _ e=>zm e3 e,fun _=>by dsimp only;rw [eT,Yo (by omega)];exact zKJ _,fun e=>by dsimp only at e;omega,fun e=>by dsimp only at e;omega,fun e=>by dsimp only at e;omega⟩,?_⟩⟩;rw [uw (.inr e3) (by dsimp only;omega),zKI]
   .-- the last one is the owner's
    have h2:2<=l.length:=by omega
    have e3:ld m d.Base≠d.B-1#64:=by
     rw [eT,eB];intro e;have:=zyJ (by omega) (by omega) e;omega
    have hne:l≠[]:=fun e=>by rw [e] at h2;simp at h2
    have hdl:l.dropLast.length=l.length-1:=List.length_dropLast;refine ⟨t,l.dropLast,0,⟨D.top,?_,by omega,ht1,by have:=D.cap;omega,by omega,fun i hi=>?_⟩,fun _ _ _=>rfl,⟨zKJ _,fun _ _=>⟨fun e=>?_,?_⟩⟩,by omega,.inl ⟨K.out,⟨k,K.base,K.size,K.out,⟨by dsimp only;omega,by dsimp only;omega⟩,fun e=>by dsimp only at e;omega,fun e=>by dsimp only at e;omega,fun e=>?_,fun _ e=>zm e e3,fun _ _=>⟨rfl,?_,by omega,by have:=D.cap;omega⟩,fun _=>by dsimp only;rw [eT,Yo (by omega)];exact zKJ _,fun e=>by dsimp only at e;omega,fun e=>by dsimp only at e;omega,fun e=>by dsimp only at e;omega⟩,?_⟩⟩
    .rw [D.bot,hc',hdl];congr 1;omega
    .rw [D.cell i (by omega)];exact (List.getElem_dropLast ..).symm
    .have:=congrArg List.length e;rw [hdl] at this;simp at this;omega
    .cases l with
     | nil=>exact zm rfl hne
     | cons a l=>cases l with
      | nil=>simp at h2
      | cons b l=>rfl
    .rcases e with e | e | e | ⟨_,e⟩
     .dsimp only at e;omega
     .dsimp only at e;omega
     .dsimp only at e;omega
     .exact zm e e3
    .dsimp only;rw [hB,hdl];congr 1;omega
    .unfold Yy;rw [zb ⟨rfl,e3⟩];dsimp only;have ep:Xy {d with T:=ld m d.Base,PC:=3} (d.B-1#64)=YA p w (t+(l.length-1)):=by
      rw [eB];have:=zi4 h (d:={d with T:=ld m d.Base,PC:=3}) hw K.base K.size (i:=t+l.length-1) (by omega);rw [this];congr 1;omega
     rw [ep,D.cell (l.length-1) (by omega)];have:=List.dropLast_concat_getLast hne;rw [List.getLast_eq_getElem] at this;rw [this]
 rw [zc p2];by_cases p3:d.PC=3
 .rw [zb p3];by_cases e3:d.T=d.B-1#64
  .rw [zb e3];have hB:=K.b (.inr (.inr (.inr ⟨p3,e3⟩)));have hc':=K.c3 p3 e3;have eB:d.B-1#64=BitVec.ofNat 64 (t+l.length-1):=by rw [hB,one,zjk (by omega) (by omega)]
   refine ⟨t,l,c,D,fun _ _ _=>rfl,Dv.refl _ _,zKJ _,.inl ⟨K.out,⟨k,K.base,K.size,K.out,⟨by dsimp only;omega,by dsimp only;omega⟩,fun e=>by dsimp only at e;omega,fun _=>hc',fun _=>hB,fun e=>by dsimp only at e;omega,fun e=>by dsimp only at e;omega,fun _=>K.t3 (.inl p3),fun _=>e3,fun _ e=>?_,fun e=>by dsimp only at e;omega⟩,?_⟩⟩
   .have e:d.T.toNat=t:=e;rw [e3,eB,Yo (by omega)] at e;have h1:l.length=1:=by omega
    have:=D.cell 0 (by omega);dsimp only;rw [eB,zi4 h hw K.base K.size (by omega),show t+l.length-1=t+0 by omega,this]
    match l,h1 with
    | [a],_=>rfl
   .rw [uw (.inl (by dsimp only;omega)) (by dsimp only;omega),uw (.inr e3) (by omega)]
  .rw [zc e3];obtain ⟨a1,a2,a3,a4⟩:=K.n3 p3 e3;refine ⟨t,l,c,D,fun _ _ _=>rfl,Dv.refl _ _,zKJ _,.inr (.inl ⟨rfl,a1,?_⟩)⟩;unfold Yy;rw [zb ⟨p3,e3⟩]
 rw [zc p3];by_cases p4:d.PC=4
 .rw [zb p4];have hB:=K.b (.inr (.inr (.inl (by omega))));have hc':=K.c1 (.inr (by omega));have e3:=K.t4 p4;have ht:=K.t3 (.inr p4);have eB:d.B-1#64=BitVec.ofNat 64 (t+l.length-1):=by rw [hB,one,zjk (by omega) (by omega)]
  have eT:d.T.toNat=t+l.length-1:=by rw [e3,eB,Yo (by omega)]
  rw [uw (d:=d) (.inl (by omega)) (by omega),zKI];by_cases hs:ld m d.Base=d.T
  .have hsw:sw m d.Base d.T (d.T+1#64)=(st m d.Base (d.T+1#64),true):=by unfold sw;rw [zb ⟨by rw [K.base];omega,by rw [K.base];omega,hs⟩]
   have et:d.T.toNat=t:=by rw [<-hs,K.base,D.top,Yo (by omega)]
   have el:=K.x4 p4 et;rw [hsw];have eT':d.T=BitVec.ofNat 64 t:=by rw [<-hs,K.base,D.top]
   have hl1:l.length=1:=by rw [el];rfl
   refine ⟨t+1,[],1,⟨?_,?_,by omega,by omega,by simp,by simp;omega,fun i hi=>by simp at hi⟩,fun a h1 _=>?_,⟨by omega,fun e=>by omega⟩,by simp;omega,.inl ⟨K.out,⟨k,K.base,K.size,K.out,⟨by dsimp only;simp,by dsimp only;simp⟩,fun e=>by simp at e,fun _=>rfl,fun _=>?_,fun e=>by simp at e,fun e=>by simp at e,fun e=>by simp at e,fun e=>by simp at e,fun e=>by simp at e,fun _=>rfl⟩,?_⟩⟩
   .dsimp only;rw [K.base,Vo,zb ⟨rfl,by omega,by omega⟩,eT'];exact zeC (by omega)
   .dsimp only;rw [K.base,yK (by omega),D.bot,hc',hl1];rfl
   .dsimp only;rw [K.base,yK (fun e=>h1 e.symm)]
   .dsimp only;rw [hB,hl1];rfl
   .unfold Yy;rw [zc (fun e=>by simp at e),zb (by simp)];rw [el];exact zK8 _
  .have hsw:sw m d.Base d.T (d.T+1#64)=(m,false):=by unfold sw;rw [zc (fun e=>hs e.2.2)]
   rw [hsw];have hne:d.T.toNat≠t:=fun e=>hs (by rw [K.base,D.top];apply zLX;rw [Yo (by omega)];exact e.symm);have el:l=[]:=by cases l with | nil=>rfl | cons a l=>rw [zKV] at eT;omega
   refine ⟨t,l,c,D,fun _ _ _=>rfl,Dv.refl _ _,zKJ _,.inl ⟨K.out,⟨k,K.base,K.size,K.out,⟨by dsimp only;simp,by dsimp only;simp⟩,fun e=>by simp at e,fun _=>hc',fun _=>hB,fun e=>by simp at e,fun e=>by simp at e,fun e=>by simp at e,fun e=>by simp at e,fun e=>by simp at e,fun _=>el⟩,?_⟩⟩;rw [uw (.inl (by simp)) (by simp),zKI]
 rw [zc p4];have hB:=K.b (.inr (.inr (.inl (by omega))));have el:=K.e5 (by omega);obtain ⟨D',hm⟩:=stb 0 d.B (by omega) (by rw [hB];rfl);by_cases p5:d.PC=5
 .rw [zb p5];exact ⟨t,l,0,D',hm,Dv.refl _ _,zKJ _,.inr (.inr ⟨rfl,rfl,el,el,uw (.inl (by omega)) (by omega)⟩)⟩
 .rw [zc p5];refine ⟨t,l,0,D',hm,Dv.refl _ _,zKJ _,.inr (.inl ⟨rfl,rfl,?_⟩)⟩;unfold Yy;rw [zc (fun e=>p3 e.1),zb (show d.PC=6 by omega)]
theorem PK.stolen {p:zd}{m m':List (BitVec 64)}(h:zI p) {w:Int}(hw:1<=w/\w<=p.Workers) {t c:Nat}{x:Int}{l:List Int}{d:zg}(K:PK p m w t (x::l) c d):PK p m' w (t+1) l c d:=by
 have e:t+(x::l).length=t+1+l.length:=by rw [zKV];omega
 refine ⟨K.kind,K.base,K.size,K.out,K.pc,K.c0,K.c1,fun q=>by rw [<-e];exact K.b q,K.c3,fun a b=>?_,fun a=>Nat.le_succ_of_le (K.t3 a),K.t4,fun a b=>?_,fun a=>?_⟩
 .have:=K.n3 a b;rw [e] at this;rw [zKV] at this;exact ⟨this.1,this.2.1,this.2.2.1,by omega⟩
 .have:=K.t3 (.inr a);omega
 .have:=K.e5 a;cases this
theorem DK.stolen {p:zd}{m m':List (BitVec 64)}{w:Int}{t c:Nat}{x:Int}{l:List Int}{d:zg}(K:DK p m w t (x::l) c d) (hm:∀a,a≠z6 p w->ld m' a=ld m a) (h:zI p):DK p m' w (t+1) l c d:=by
 have e:t+(x::l).length=t+1+l.length:=by rw [zKV];omega
 refine ⟨K.kind,K.base,K.size,K.out,K.c0,K.pc,fun q=>by rw [<-e];exact K.b q,fun q=>by have:=K.r q;rw [zKV] at this;omega,fun q=>?_⟩;rw [<-e,hm _ (by unfold YA;omega)];exact K.x q
theorem PK.keep {p:zd}{m m':List (BitVec 64)}{w:Int}{t c:Nat}{l:List Int}{d:zg}(K:PK p m w t l c d):PK p m' w t l c d :=
 ⟨K.kind,K.base,K.size,K.out,K.pc,K.c0,K.c1,K.b,K.c3,K.n3,K.t3,K.t4,K.x4,K.e5⟩
theorem DK.keep {p:zd}(h:zI p) {m m':List (BitVec 64)}{w:Int}{t c:Nat}{l:List Int}{d:zg}(K:DK p m w t l c d) (hm:∀a,z6 p w+1<a->a<z6 p w+p.Cap+2->ld m' a=ld m a):DK p m' w t l c d:=by
 have hc:=h.cap;have:=Nat.mod_lt (t+l.length) (show 0<p.Cap.toNat by omega);exact ⟨K.kind,K.base,K.size,K.out,K.c0,K.pc,K.b,K.r,fun q=>by rw [hm _ (by unfold YA;omega) (by unfold YA;omega)];exact K.x q⟩
theorem zzB {p:zd}(h:zI p) {m:List (BitVec 64)}{w:Int}{t c:Nat}{l:List Int}{d:zg}(hw:1<=w/\w<=p.Workers) (hlen:yr p<=m.length) (D:DQ p m w t l c) (K:DK p m w t l c d) (hs:t+l.length+1<4294967296) (hX: -9223372036854775808<=d.X/\d.X<9223372036854775808) :
  (∀a,(a<z6 p w\/z6 p w+p.Cap+2<=a)->ld (xn m d).1 a=ld m a)/\(xn m d).2.X=d.X /\
  (((xn m d).2.Out=0/\DQ p (xn m d).1 w t l 0/\DK p (xn m d).1 w t l 0 (xn m d).2) \/
   ((xn m d).2.Out=3/\DQ p (xn m d).1 w t l 0) \/
   ((xn m d).2.Out=1/\DQ p (xn m d).1 w t (l++[d.X]) 0)):=by
 have hc:=h.cap;have hd:=Xa h hw.1 hw.2;have hf:=Z8 h;have hmod:∀i,z6 p w+2<=YA p w i/\YA p w i<z6 p w+p.Cap+2:=fun i=>by
  have:=Nat.mod_lt i (show 0<p.Cap.toNat by omega);unfold YA;omega
 have hpc:=K.pc;have c00:=K.c0;subst c00;have ht1:=D.t1;have hsm:=D.small;have eb:wc (d.Base+1)=z6 p w+1:=by rw [K.base,yQ]
 unfold xn;rw [zc (by have:=K.out;omega),eb];by_cases c0:d.PC=0
 .rw [zb c0];exact ⟨fun _ _=>rfl,rfl,.inl ⟨K.out,D,⟨K.kind,K.base,K.size,K.out,rfl,⟨by dsimp only;omega,by dsimp only;omega⟩,fun _=>D.bot,fun e=>by dsimp only at e;omega,fun e=>by dsimp only at e;omega⟩⟩⟩
 rw [zc c0];by_cases c1:d.PC=1
 .rw [zb c1];refine ⟨fun _ _=>rfl,by dsimp only;split<;>rfl,?_⟩;have hB:=K.b (by omega);have es:(uZ d).toNat=p.Cap.toNat:=by
   unfold uZ;rw [K.size,zi,zLy];omega
  have ed:(d.B-ld m d.Base).toNat=l.length:=by
   rw [hB,K.base,D.top,BitVec.toNat_sub,Yo (by omega),Yo (by omega)];omega
  split
  .right;left;exact ⟨rfl,D⟩
  .rename_i hlt;left;have hr:l.length<p.Cap.toNat:=by
    have: ¬(uZ d).toNat<=(d.B-ld m d.Base).toNat:=fun e=>hlt (BitVec.le_def.2 e);omega
   exact ⟨K.out,D,⟨K.kind,K.base,K.size,K.out,rfl,⟨by dsimp only;omega,by dsimp only;omega⟩,fun _=>hB,fun _=>hr,fun e=>by dsimp only at e;omega⟩⟩
 rw [zc c1];have hB:=K.b (by omega);have hr:=K.r (by omega);by_cases c2:d.PC=2
 .rw [zb c2];have ep:Xy d d.B=YA p w (t+l.length):=by rw [hB];exact zi4 h hw K.base K.size (by omega)
  rw [ep];have hm:=hmod (t+l.length);refine ⟨fun a ha=>yK (by omega),rfl,.inl ⟨K.out,⟨?_,?_,D.c1,ht1,D.cap,D.small,fun i hi=>?_⟩,⟨K.kind,K.base,K.size,K.out,rfl,⟨by dsimp only;omega,by dsimp only;omega⟩,fun _=>hB,fun _=>hr,fun _=>?_⟩⟩⟩
  .dsimp only;rw [yK (by omega)];exact D.top
  .dsimp only;rw [yK (by omega)];exact D.bot
  .dsimp only;rw [yK (fun e=>zIS (t:=t) (i:=t+i) (n:=t+l.length) (c:=p.Cap.toNat) (by omega) (by omega) (by omega) (by unfold YA at e;omega))];exact D.cell i hi
  .dsimp only;rw [Vo,zb ⟨rfl,by omega,by omega⟩,BitVec.toInt_ofInt,Int.bmod_def];omega
 .rw [zc c2];have hx:=K.x (by omega);refine ⟨fun a ha=>yK (by omega),rfl,.inr (.inr ⟨rfl,⟨?_,?_,by omega,ht1,?_,?_,fun i hi=>?_⟩⟩)⟩
  .dsimp only;rw [yK (by omega)];exact D.top
  .dsimp only;rw [Vo,zb ⟨rfl,by omega,by omega⟩,hB,zKS];exact zeC (by omega)
  .rw [zKS];show l.length+1<=_;omega
  .rw [zKS];show t+(l.length+1)<_;omega
  .dsimp only;have hi':i<l.length+1:=by rw [zKS] at hi;exact hi
   have hm:=hmod (t+i);rw [yK (by omega)];rcases zLh i l.length with g | g
   .rw [zMx g];exact D.cell i g
   .have:i=l.length:=by omega
    subst this;rw [List.getElem_append_right (by omega)];simp only [Nat.sub_self,List.getElem_cons_zero];exact hx
def xR (h:BitVec 64):Nat:=h.toNat/4294967296
theorem zwV (v:BitVec 64) {n:Int}(h:0<=n) (h2:n<4294967296):(xP v n).toNat=(v.toNat%4294967296)*4294967296+n.toNat:=by
 unfold xP;have e3:(BitVec.ofInt 64 n).toNat&&&(4294967295#64).toNat=n.toNat:=by
  have:(BitVec.ofInt 64 n).toNat=n.toNat:=by rw [zLy];omega
  rw [this];exact (zMz n.toNat 32).trans (Nat.mod_eq_of_lt (by omega))
 rw [BitVec.toNat_or,zLK,e3,BitVec.toNat_shiftLeft];have h2':v.toNat <<< 32%2 ^ 64=(v.toNat%4294967296) <<< 32:=by rw [Nat.shiftLeft_eq,Nat.shiftLeft_eq];omega
 rw [h2',<-Nat.shiftLeft_add_eq_or_of_lt (show n.toNat<2 ^ 32 by omega),Nat.shiftLeft_eq]
theorem zBa (h:BitVec 64) {n:Int}(h1:0<=n) (h2:n<4294967296) (hv:xR h+1<4294967296):xR (xP ((h >>> 32)+1#64) n)=xR h+1:=by
 have e:((h >>> 32)+1#64).toNat=xR h+1:=by
  rw [BitVec.toNat_add,BitVec.toNat_ushiftRight,Nat.shiftRight_eq_div_pow];show (h.toNat/4294967296+1)%2 ^ 64=_;unfold xR at hv ⊢;omega
 unfold xR;rw [zwV _ h1 h2,e];unfold xR at hv ⊢;omega
def Chn (m:List (BitVec 64)) (N:Int) (nb:Nat):Int->List Int->Prop
 | h,[]=>h=0
 | h,x::l=>h=x/\1<=x/\x<nb/\Chn m N nb (ld m (N+x)).toInt l
theorem Chn.mem {m:List (BitVec 64)}{N:Int}{nb:Nat}:∀ {l:List Int}{h:Int},Chn m N nb h l->∀x∈l,1<=x/\x<nb
 | y::l,h,c,x,hx=>by
  rcases zKW.1 hx with rfl | hx
  .exact ⟨c.2.1,c.2.2.1⟩
  .exact Chn.mem c.2.2.2 x hx
theorem Chn.st {m:List (BitVec 64)}{N:Int}{nb:Nat}{a:Int}{v:BitVec 64}:∀ {l:List Int}{h:Int},Chn m N nb h l->(∀x∈l,a≠N+x)->Chn (st m a v) N nb h l
 | [],h,c,_=>c
 | y::l,h,c,hn=>⟨c.1,c.2.1,c.2.2.1,by
  rw [yK (hn y (by simp))];exact Chn.st c.2.2.2 (fun x hx=>hn x (zKN _ hx))⟩
theorem Chn.head {m:List (BitVec 64)}{N:Int}{nb:Nat}{l:List Int}{h:Int}(c:Chn m N nb h l) (hh:h≠0):∃t,l=h::t/\1<=h/\h<nb/\Chn m N nb (ld m (N+h)).toInt t:=by
 cases l with
 | nil=>exact zm c hh
 | cons x t =>
  obtain ⟨rfl,h1,h2,h3⟩:=c;exact ⟨t,rfl,h1,h2,h3⟩
theorem Chn.empty {m:List (BitVec 64)}{N:Int}{nb:Nat}{l:List Int}(c:Chn m N nb 0 l):l=[]:=by
 cases l with
 | nil=>rfl
 | cons x t=>have:=c.1;have:=c.2.1;omega
def zp4 (nb:Nat):List Int:=(List.range (nb-1)).map (fun (i:Nat)=>(i:Int)+1)
theorem zt4 (nb:Nat):(zp4 nb).Nodup:=by
 unfold zp4;rw [List.Nodup,List.pairwise_map];exact List.nodup_range.imp (fun h e=>h (by omega))
theorem zrI {nb:Nat}{x:Int}:x∈zp4 nb↔1<=x/\x<nb:=by
 unfold zp4;rw [zKT];constructor
 .rintro ⟨i,hi,rfl⟩;have:=zK7.1 hi;omega
 .rintro ⟨h1,h2⟩;exact ⟨(x-1).toNat,zK7.2 (by omega),by omega⟩
structure LI (p:zd) (nb:Nat) (m:List (BitVec 64)) (h1 h2:Int) (F E own:List Int):Prop where
 hs:(h1=yr p/\h2=zU p)\/(h1=zU p/\h2=yr p)
 cF:Chn m (zU p) nb (yG (ld m h1)) F
 cE:Chn m (zU p) nb (yG (ld m h2)) E
 all:List.Perm (F++E++own) (zp4 nb)
 len:zU p+nb<=m.length
theorem LI.nodup {p:zd}{nb:Nat}{m:List (BitVec 64)}{h1 h2:Int}{F E own:List Int}(h:LI p nb m h1 h2 F E own):(F++E++own).Nodup:=h.all.nodup_iff.2 (zt4 nb)
theorem LI.notF {p:zd}{nb:Nat}{m:List (BitVec 64)}{h1 h2:Int}{F E own:List Int}(h:LI p nb m h1 h2 F E own) {x:Int}(hx:x∈own):x∉F/\x∉E:=by
 have:=zLU.1 h.nodup;exact ⟨fun e=>this.2.2 x (zKZ _ e) x hx rfl,fun e=>this.2.2 x (zLd _ e) x hx rfl⟩
theorem LI.own_in {p:zd}{nb:Nat}{m:List (BitVec 64)}{h1 h2:Int}{F E own:List Int}(h:LI p nb m h1 h2 F E own) {x:Int}(hx:x∈own):1<=x/\x<nb:=zrI.1 (h.all.subset (zLd _ hx))
structure CK (p:zd) (m:List (BitVec 64)) (c:zV):Prop where
 v:1<=c.PC->xR c.H<=xR (ld m c.Head)
 y:c.PC=2->c.Kind=2->ld m c.Head=c.H->c.Y=(ld m (zU p+yG c.H)).toInt
 l:c.PC=2->c.Kind=1->ld m (zU p+c.X)=BitVec.ofInt 64 (yG c.H)
structure Mv (p:zd) (nb:Nat) (X:List Int) (m m':List (BitVec 64)):Prop where
 hd:∀h,h=yr p\/h=zU p->xR (ld m h)<=xR (ld m' h)/\(ld m' h=ld m h\/xR (ld m h)<xR (ld m' h))
 nx:∀x:Int,1<=x->x<nb->x∉X->ld m' (zU p+x)=ld m (zU p+x)
theorem Mv.refl (p:zd) (nb:Nat) (X:List Int) (m:List (BitVec 64)):Mv p nb X m m:=⟨fun h _=>⟨zKJ _,.inl rfl⟩,fun _ _ _ _=>rfl⟩
theorem CK.mv {p:zd}{nb:Nat}{m m':List (BitVec 64)}{h1 h2:Int}{F E own X:List Int}{c:zV}(k:CK p m c) (L:LI p nb m h1 h2 F E own) (M:Mv p nb X m m') (hX:∀x∈X,x∈own)
  (hh:c.Head=h1\/c.Head=h2) (hn:1<=c.PC->c.Kind=2->1<=yG c.H/\yG c.H<nb) (hx:c.Kind=1->1<=c.X/\c.X<nb/\c.X∉X):CK p m' c:=by
 obtain ⟨m1,m2⟩:=M.hd c.Head (by rcases L.hs with g | g<;>rcases hh with hh | hh<;>rw [hh]<;>simp [g]);refine ⟨fun h=>zLM (k.v h) m1,fun h2 hk e=>?_,fun h2 hk=>?_⟩
 .have hv:=k.v (by omega);have e':ld m c.Head=c.H:=by
   rcases m2 with m2 | m2
   .rw [<-m2];exact e
   .rw [e] at m2;omega
  obtain ⟨n1,n2⟩:=hn (by omega) hk;rw [M.nx _ n1 n2 (fun hmem=>?_)]
  .exact k.y h2 hk e'
  .obtain ⟨f1,f2⟩:=L.notF (hX _ hmem);rcases hh with hh | hh
   .obtain ⟨t,ht,_⟩:=L.cF.head (by rw [<-hh,e'];omega);rw [<-hh,e'] at ht;exact f1 (by rw [ht];simp)
   .obtain ⟨t,ht,_⟩:=L.cE.head (by rw [<-hh,e'];omega);rw [<-hh,e'] at ht;exact f2 (by rw [ht];simp)
 .obtain ⟨x1,x2,x3⟩:=hx hk;rw [M.nx _ x1 x2 x3];exact k.l h2 hk
theorem LI.swap {p:zd}{nb:Nat}{m:List (BitVec 64)}{h1 h2:Int}{F E own:List Int}(h:LI p nb m h1 h2 F E own):LI p nb m h2 h1 E F own :=
 ⟨h.hs.elim (fun g=>.inr ⟨g.2,g.1⟩) (fun g=>.inl ⟨g.2,g.1⟩),h.cE,h.cF,(zLs.append_right own).trans h.all,h.len⟩
theorem zrY {p:zd}(hp:zI p) {m:List (BitVec 64)}{a x:Int}{v:BitVec 64}(ha:a=yr p\/a=zU p) (hx:1<=x):ld (st m a v) (zU p+x)=ld m (zU p+x):=by
 have:=vd hp;exact yK (by omega)
theorem Chn.st_head {p:zd}(hp:zI p) {m:List (BitVec 64)}{nb:Nat}{a h:Int}{l:List Int}{v:BitVec 64}(ha:a=yr p\/a=zU p) (c:Chn m (zU p) nb h l):Chn (Go.Pe.G.st m a v) (zU p) nb h l:=by
 have:=vd hp;exact c.st (fun x hx=>by have:=(c.mem x hx).1;omega)
theorem Mv.head {p:zd}(hp:zI p) {nb:Nat}{X:List Int}{m:List (BitVec 64)}{a:Int}{v:BitVec 64}(ha:a=yr p\/a=zU p) (hv:xR (ld m a)<xR v):Mv p nb X m (st m a v):=by
 refine ⟨fun h hh=>?_,fun x hx _ _=>zrY hp ha hx⟩;by_cases e:a=h
 .subst e;rw [Vo];split
  .exact ⟨by omega,.inr hv⟩
  .exact ⟨zKJ _,.inl rfl⟩
 .rw [yK e];exact ⟨zKJ _,.inl rfl⟩
theorem zAA {p:zd}(hp:zI p) {nb:Nat}(hnb:nb<1000) {m:List (BitVec 64)}{h1 h2:Int}{F E own:List Int}(L:LI p nb m h1 h2 F E own) {c:zV}
  (hk:c.Kind=2) (hh:c.Head=h1) (hN:c.Next=zU p) (ho:c.Out=0) (hpc:0<=c.PC/\c.PC<=2) (K:CK p m c) (hn:1<=c.PC->1<=yG c.H/\yG c.H<nb) (hv:xR (ld m h1)+1<4294967296) :
  ((zC m c).1=m/\(zC m c).2.Out≠1/\((zC m c).2.Out=2->F=[])/\CK p m (zC m c).2) \/
  (∃x F',F=x::F'/\(zC m c).2.Out=1/\(zC m c).2.X=x/\LI p nb (zC m c).1 h1 h2 F' E (x::own)/\Mv p nb [] m (zC m c).1/\xR (ld (zC m c).1 h1)=xR (ld m h1)+1/\ld (zC m c).1 h2=ld m h2):=by
 have hE:=vd hp;have hF:=Z8 hp;have hd:h1=yr p\/h1=zU p:=by rcases L.hs with g | g<;>simp [g]
 unfold zC;rw [zi];by_cases c0:c.PC=0
 .rw [zb c0];left;split
  .rename_i e;refine ⟨rfl,(by show (2:Int)≠1;decide),fun _=>?_,⟨fun _=>by rw [hh];exact zKJ _,fun e2=>(by cases e2),fun e2=>(by cases e2)⟩⟩;have:=L.cF;rw [hh] at e;rw [e.2] at this;exact this.empty
  .refine ⟨rfl,by dsimp only;omega,fun e=>by dsimp only at e;omega,⟨fun _=>by rw [hh];exact zKJ _,fun e2=>(by cases e2),fun e2=>(by cases e2)⟩⟩
 .rw [zc c0];by_cases c1:c.PC=1
  .rw [zb c1,zb hk];left;refine ⟨rfl,by dsimp only;omega,fun e=>by dsimp only at e;omega,⟨fun _=>K.v (by omega),fun _ _ _=>?_,fun _ e=>by dsimp only at e;omega⟩⟩;have:=hn (by omega);dsimp only;rw [hN,yQ]
  .rw [zc c1];have c2:c.PC=2:=by omega
   simp only [zb hk];by_cases hs:0<=c.Head/\c.Head<m.length/\ld m c.Head=c.H
   .right;have n:=hn (by omega);have hsw:sw m c.Head c.H (xP (c.H >>> 32+1#64) c.Y)=(st m c.Head (xP (c.H >>> 32+1#64) c.Y),true):=by unfold sw;rw [zb hs]
    rw [hsw];have hc:=L.cF;rw [<-hh,hs.2.2] at hc;obtain ⟨t,ht,_,_,hct⟩:=hc.head (by omega);have hy:=K.y c2 hk hs.2.2;have hct':=hct;rw [<-hy] at hct';have y0:0<=c.Y/\c.Y<nb:=by
     cases t with
     | nil=>have e:c.Y=0:=hct';omega
     | cons z t=>have:=hct'.1;have:=hct'.2.1;have:=hct'.2.2.1;omega
    have vp:xR (xP (c.H >>> 32+1#64) c.Y)=xR c.H+1:=zBa c.H y0.1 (by omega) (by rw [<-hs.2.2,hh];exact hv);have hcH:xR c.H=xR (ld m h1):=by rw [<-hs.2.2,hh]
    have ld1:ld (st m h1 (xP (c.H >>> 32+1#64) c.Y)) h1=xP (c.H >>> 32+1#64) c.Y:=by rw [Vo,zb ⟨rfl,by rw [<-hh];exact hs.1,by rw [<-hh];exact hs.2.1⟩]
    have h12:h1≠h2:=by rcases L.hs with g | g<;>omega
    refine ⟨yG c.H,t,ht,rfl,rfl,?_,?_,?_,?_⟩
    .rw [hh];refine ⟨L.hs,?_,?_,?_,by rw [YH];exact L.len⟩
     .rw [ld1,zeK _ y0.1 (by omega)];exact hct'.st_head hp hd
     .rw [yK h12];exact L.cE.st_head hp hd
     .refine List.Perm.trans ?_ L.all;rw [ht];show List.Perm (t++E++yG c.H::own) (yG c.H::(t++E++own));exact List.perm_middle
    .rw [hh];exact Mv.head hp hd (by rw [vp,hcH];omega)
    .rw [hh,ld1,vp,hcH]
    .rw [hh,yK h12]
   .left;have hsw:sw m c.Head c.H (xP (c.H >>> 32+1#64) c.Y)=(m,false):=by unfold sw;rw [zc hs]
    rw [hsw];refine ⟨rfl,by dsimp only;simp;omega,fun e=>by simp at e;omega,⟨fun e=>by simp at e,fun e=>by simp at e,fun e=>by simp at e⟩⟩
theorem zCJ {n:Int}(h:0<=n) (h2:n<4294967296):(BitVec.ofInt 64 n).toInt=n:=toInt_ofInt h h2
theorem zpv {N a b:Int}(h:N+a=N+b):b=a:=by omega
theorem zzr {p:zd}(hp:zI p) {nb:Nat}(hnb:nb<1000) {m:List (BitVec 64)}{h1 h2 b:Int}{F E o1 o2:List Int}(L:LI p nb m h1 h2 F E (o1++b::o2)) {c:zV}
  (hk:c.Kind=1) (hh:c.Head=h1) (hN:c.Next=zU p) (hX:c.X=b) (ho:c.Out=0) (hpc:0<=c.PC/\c.PC<=2) (K:CK p m c) (hn:1<=c.PC->yG c.H<nb) (hv:xR (ld m h1)+1<4294967296) :
  ((zC m c).2.Out=0/\LI p nb (zC m c).1 h1 h2 F E (o1++b::o2)/\Mv p nb [b] m (zC m c).1/\CK p (zC m c).1 (zC m c).2/\(∀a,a<=zU p->ld (zC m c).1 a=ld m a)) \/
  ((zC m c).2.Out=1/\LI p nb (zC m c).1 h1 h2 (b::F) E (o1++o2)/\Mv p nb [] m (zC m c).1/\xR (ld (zC m c).1 h1)=xR (ld m h1)+1/\(∀a,a<=zU p->a≠h1->ld (zC m c).1 a=ld m a)):=by
 have hE:=vd hp;have hF:=Z8 hp;have hd:h1=yr p\/h1=zU p:=by rcases L.hs with g | g<;>simp [g]
 have hd2:h2=yr p\/h2=zU p:=by rcases L.hs with g | g<;>simp [g]
 have hb:1<=b/\b<nb:=L.own_in (zLd _ (by simp));have hbn:=L.notF (x:=b) (zLd _ (by simp));have hlen:=L.len;have hk2: ¬c.Kind=2:=by omega
 unfold zC;rw [zi];by_cases c0:c.PC=0
 .rw [zb c0,zc (fun e=>hk2 e.1)];left;exact ⟨ho,L,Mv.refl _ _ _ _,⟨fun _=>by rw [hh];exact zKJ _,fun e2=>(by cases e2),fun e2=>(by cases e2)⟩,fun _ _=>rfl⟩
 .rw [zc c0];by_cases c1:c.PC=1
  .rw [zb c1,zc hk2];left;have nn:=zn0 c.H;have ea:wc (c.Next+c.X)=zU p+b:=by rw [hN,hX,yQ]
   rw [ea];have hne:∀h,h=yr p\/h=zU p->ld (st m (zU p+b) (BitVec.ofInt 64 (yG c.H))) h=ld m h:=fun h hh=>yK (by omega);refine ⟨ho,⟨L.hs,?_,?_,L.all,by dsimp only;rw [YH];exact hlen⟩,⟨fun h hh=>?_,fun x x1 x2 x3=>?_⟩,⟨fun _=>?_,fun _ e=>zm e hk2,fun _ _=>?_⟩,fun a ha=>?_⟩
   .dsimp only;rw [hne _ hd];exact L.cF.st (fun x hx e=>hbn.1 (zpv e▸hx))
   .dsimp only;rw [hne _ hd2];exact L.cE.st (fun x hx e=>hbn.2 (zpv e▸hx))
   .dsimp only;rw [hne _ hh];exact ⟨zKJ _,.inl rfl⟩
   .dsimp only;exact yK (fun e=>x3 (zLr.2 (zpv e)))
   .dsimp only;rw [hh,hne _ hd,<-hh];exact K.v (by omega)
   .dsimp only;rw [hX,Vo,zb ⟨rfl,by omega,by omega⟩]
   .dsimp only;exact yK (by omega)
  .rw [zc c1];have c2:c.PC=2:=by omega
   simp only [zc hk2];by_cases hs:0<=c.Head/\c.Head<m.length/\ld m c.Head=c.H
   .right;have n:=hn (by omega);have nn:=zn0 c.H;have hsw:sw m c.Head c.H (xP (c.H >>> 32+1#64) c.X)=(st m c.Head (xP (c.H >>> 32+1#64) c.X),true):=by unfold sw;rw [zb hs]
    rw [hsw];have hl:=K.l c2 hk;rw [hX] at hl;have vp:xR (xP (c.H >>> 32+1#64) c.X)=xR c.H+1:=zBa c.H (by omega) (by omega) (by rw [<-hs.2.2,hh];exact hv);have hcH:xR c.H=xR (ld m h1):=by rw [<-hs.2.2,hh]
    have ld1:ld (st m h1 (xP (c.H >>> 32+1#64) c.X)) h1=xP (c.H >>> 32+1#64) c.X:=by rw [Vo,zb ⟨rfl,by rw [<-hh];exact hs.1,by rw [<-hh];exact hs.2.1⟩]
    have h12:h1≠h2:=by rcases L.hs with g | g<;>omega
    refine ⟨rfl,?_,?_,?_,fun a ha hne=>?_⟩
    .rw [hh];refine ⟨L.hs,?_,?_,?_,by dsimp only;rw [YH];exact hlen⟩
     .dsimp only;rw [ld1,zeK _ (by omega) (by omega),hX];refine ⟨rfl,hb.1,hb.2,?_⟩;rw [zrY hp hd hb.1,hl,zCJ nn.1 nn.2];have:=L.cF;rw [<-hh,hs.2.2] at this;rw [<-hX,<-hh] at *;exact this.st_head hp hd
     .dsimp only;rw [yK h12];exact L.cE.st_head hp hd
     .refine List.Perm.trans ?_ L.all;show List.Perm (b::(F++E++(o1++o2))) (F++E++(o1++b::o2));rw [<-zKM (F++E) o1 o2,<-zKM (F++E) o1 (b::o2)];exact List.perm_middle.symm
    .rw [hh];exact Mv.head hp hd (by rw [vp,hcH];omega)
    .rw [hh];dsimp only;rw [ld1,vp,hcH]
    .rw [hh];exact yK (fun e=>hne e.symm)
   .left;have hsw:sw m c.Head c.H (xP (c.H >>> 32+1#64) c.X)=(m,false):=by unfold sw;rw [zc hs]
    rw [hsw];exact ⟨ho,L,Mv.refl _ _ _ _,⟨fun e=>(by simp at e),fun e=>(by simp at e),fun e=>(by simp at e)⟩,fun _ _=>rfl⟩
structure Gh where
 F:List Int
 E:List Int
 D:Int->List Int
 t:Int->Nat
 c:Int->Nat
def yT (s:za) (b:Int):List Int:=(s.Bins[b.toNat]?).getD []
def yL (p:zd) (s:za) (g:Gh):List Int:=g.F.flatMap (yT s)++(List.range p.Workers.toNat).flatMap (fun i:Nat=>g.D ((i:Int)+1))
structure SX (p:zd) (nb:Nat) (s:za) (g:Gh) (own:List Int) (k:Nat):Prop where
 S:SOk p nb s
 L:LI p nb s.M (yr p) (zU p) g.F g.E own
 D:∀w,1<=w->w<=p.Workers->DQ p s.M w (g.t w) (g.D w) (g.c w)
 v:xR (ld s.M (yr p))<=k/\xR (ld s.M (zU p))<=k
 dk:∀w,1<=w->w<=p.Workers->g.t w+(g.D w).length<=k+1000
inductive DFr (p:zd) (m m':List (BitVec 64)) (g g':Gh) (w:Int):Prop
 | same (e1:g'.t w=g.t w) (e2:g'.D w=g.D w) (e3:g'.c w=g.c w) (e4:∀a,z6 p w<=a->a<z6 p w+p.Cap+2->ld m' a=ld m a):DFr p m m' g g' w
 | stolen (x:Int) (e1:g'.t w=g.t w+1) (e2:g.D w=x::g'.D w) (e3:g'.c w=g.c w) (e4:∀a,z6 p w<a->a<z6 p w+p.Cap+2->ld m' a=ld m a):DFr p m m' g g' w
structure FX (p:zd) (nb:Nat) (X:List Int) (O:Int->Prop) (s s':za) (g g':Gh):Prop where
 mv:Mv p nb X s.M s'.M
 bn:∀b,1<=b->b∉X->s'.Bins[b.toNat]? =s.Bins[b.toNat]?
 dq:∀w,1<=w->w<=p.Workers->DFr p s.M s'.M g g' w\/(O w/\Dv (g.t w) (g.D w) (g'.t w) (g'.D w))
 fb:∀y∈g'.F,y∈g.F\/yT s' y≠[]
theorem DFr.dv {p:zd}{m m':List (BitVec 64)}{g g':Gh}{w:Int}(h:DFr p m m' g g' w):Dv (g.t w) (g.D w) (g'.t w) (g'.D w):=by
 cases h with
 | same t l c m=>rw [t,l];exact Dv.refl _ _
 | stolen x t l c m=>exact ⟨by omega,fun e=>by omega⟩
theorem FX.dv {p:zd}{nb:Nat}{X:List Int}{O:Int->Prop}{s s':za}{g g':Gh}(h:FX p nb X O s s' g g') {w:Int}(h1:1<=w) (h2:w<=p.Workers):Dv (g.t w) (g.D w) (g'.t w) (g'.D w):=by
 rcases h.dq w h1 h2 with h | h
 .exact h.dv
 .exact h.2
theorem FX.tk {p:zd}{nb:Nat}{X:List Int}{O:Int->Prop}{s s':za}{g g':Gh}(h:FX p nb X O s s' g g') {w:Int}(h1:1<=w) (h2:w<=p.Workers) {d:zg}(K:TK p s.M w (g.t w) (g.D w) d):TK p s'.M w (g'.t w) (g'.D w) d:=K.dv (h.dv h1 h2)
theorem FX.pk {p:zd}(hp:zI p) {nb:Nat}{X:List Int}{O:Int->Prop}{s s':za}{g g':Gh}(h:FX p nb X O s s' g g') {w:Int}(h1:1<=w) (h2:w<=p.Workers) (ho: ¬O w) {d:zg}(K:PK p s.M w (g.t w) (g.D w) (g.c w) d):PK p s'.M w (g'.t w) (g'.D w) (g'.c w) d:=by
 rcases h.dq w h1 h2 with h | h
 .cases h with
  | same t l c m=>rw [t,l,c];exact K.keep
  | stolen x t l c m=>rw [l] at K;rw [t,c];exact K.stolen hp ⟨h1,h2⟩
 .exact zm h.1 ho
theorem FX.dk {p:zd}(hp:zI p) {nb:Nat}{X:List Int}{O:Int->Prop}{s s':za}{g g':Gh}(h:FX p nb X O s s' g g') {w:Int}(h1:1<=w) (h2:w<=p.Workers) (ho: ¬O w) {d:zg}(K:DK p s.M w (g.t w) (g.D w) (g.c w) d):DK p s'.M w (g'.t w) (g'.D w) (g'.c w) d:=by
 have hc:=hp.cap;rcases h.dq w h1 h2 with h | h
 .cases h with
  | same t l c m=>rw [t,l,c];exact K.keep hp (fun a h1 h2=>m a (by omega) h2)
  | stolen x t l c m =>
   rw [l] at K;have K':DK p s'.M w (g.t w) (x::g'.D w) (g.c w) d:=K.keep hp (fun a h1 h2=>m a (by omega) h2);rw [t,c];exact K'.stolen (m':=s'.M) (fun _ _=>rfl) hp
 .exact zm h.1 ho
def wT (g:zJ):List Int:=if g.Out=0/\(g.PC=6\/g.PC=7) then [g.Bin] else []
def yE (g:zJ):List Int:=if g.Out=0/\3<=g.PC/\g.PC<=7 then [g.Obj] else []
structure GX (p:zd) (s:za) (gh:Gh) (g:zJ):Prop where
 o:g.Out=0\/g.Out=1
 pc:0<=g.PC/\g.PC<=7
 md:1<=g.Mode/\g.Mode<=3
 ob:1<=g.Obj/\g.Obj<=64
 c0:g.Mode=1->g.Out=0->gh.c g.Who=0
 c5:g.PC=5->g.Out=0->g.C.Out=0/\(0<=g.C.PC/\g.C.PC<=2)/\CK p s.M g.C
 c7:g.PC=7->g.Out=0->g.C.Out=0/\(0<=g.C.PC/\g.C.PC<=2)/\g.C.X=g.Bin/\CK p s.M g.C/\s.Bins[g.Bin.toNat]? =some [g.Obj]
 d3:g.PC=3->g.Out=0->g.Mode=1/\g.D.X=g.Obj/\DK p s.M g.Who (gh.t g.Who) (gh.D g.Who) (gh.c g.Who) g.D
theorem GX.other {p:zd}(hp:zI p) {nb k:Nat}{s s':za}{gh gh':Gh}{X R:List Int}{O:Int->Prop}{o:zJ}(Y:SX p nb s gh (X++R) k) (Fx:FX p nb X O s s' gh gh') (G:GX p s gh o) (M:MOk p nb o)
  (hR:∀x∈wT o,x∈R) (apart:o.Mode=1->¬O o.Who):GX p s' gh' o:=by
 have hsub:∀x∈X,x∈X++R:=fun x hx=>zKZ _ hx;have hnd:=(zLU.1 Y.L.nodup).2.1;have hnot:∀x,x∈wT o->x∉X:=fun x hx hg=>(zLU.1 hnd).2.2 x hg x (hR x hx) rfl;refine ⟨G.o,G.pc,G.md,G.ob,fun h1 h0=>?_,fun h5 h0=>?_,fun h7 h0=>?_,fun h3 h0=>?_⟩
 .have hw:=M.who h1;rcases Fx.dq o.Who hw.1 hw.2 with h | h
  .cases h with
   | same t l c m=>rw [c];exact G.c0 h1 h0
   | stolen x t l c m=>rw [c];exact G.c0 h1 h0
  .exact zm h.1 (apart h1)
 .obtain ⟨a,b,c⟩:=G.c5 h5 h0;obtain ⟨m1,m2,m3,m4,m5⟩:=M.c5 h5;exact ⟨a,b,c.mv Y.L Fx.mv hsub (.inr m2) (fun h _=>m4 h) (fun e=>by omega)⟩
 .obtain ⟨a,b,c,d,e⟩:=G.c7 h7 h0;obtain ⟨m1,m2,m3,m4,m5⟩:=M.c7 h7;have hown:o.Bin∈wT o:=by unfold wT;rw [zb ⟨h0,.inr h7⟩];simp
  have hno:=hnot _ hown;exact ⟨a,b,c,d.mv Y.L Fx.mv hsub (.inl m2) (fun _ e=>by omega) (fun _=>⟨m4.1,m4.2,by rw [c];exact hno⟩),by rw [Fx.bn o.Bin (by rw [<-c];exact m4.1) hno];exact e⟩
 .obtain ⟨a,b,c⟩:=G.d3 h3 h0;have hw:=M.who a;exact ⟨a,b,Fx.dk hp hw.1 hw.2 (apart a) c⟩
theorem zcW (m:List (BitVec 64)) {c:zV}(h:c.Out=0) (hpc:0<=c.PC/\c.PC<=2) (hk:c.Kind=1\/c.Kind=2) :
  ((zC m c).2.Out=0/\0<=(zC m c).2.PC/\(zC m c).2.PC<=2)\/(zC m c).2.Out=1\/((zC m c).2.Out=2/\c.Kind=2):=by
 unfold zC;rw [zi];split
 .dsimp only;split
  .rename_i e;exact .inr (.inr ⟨rfl,e.1⟩)
  .exact .inl ⟨h,by show (0:Int)<=1;decide,by show (1:Int)<=2;decide⟩
 split
 .split<;>exact .inl ⟨h,by show (0:Int)<=2;decide,by show (2:Int)<=2;decide⟩
 .dsimp only;generalize sw m c.Head c.H _=r;split
  .split<;>exact .inr (.inl rfl)
  .exact .inl ⟨h,by show (0:Int)<=0;decide,by show (0:Int)<=2;decide⟩
theorem zog (m:List (BitVec 64)) (c:zV):(zC m c).2.Kind=c.Kind/\(zC m c).2.Head=c.Head/\(zC m c).2.Next=c.Next/\(c.Kind=1->(zC m c).2.X=c.X):=by
 unfold zC;split
 .exact ⟨rfl,rfl,rfl,fun _=>rfl⟩
 split
 .dsimp only;split<;>exact ⟨rfl,rfl,rfl,fun _=>rfl⟩
 split
 .split<;>exact ⟨rfl,rfl,rfl,fun _=>rfl⟩
 .dsimp only;generalize sw m c.Head c.H _=r;split
  .split
   .rename_i e;exact ⟨rfl,rfl,rfl,fun e2=>by omega⟩
   .exact ⟨rfl,rfl,rfl,fun _=>rfl⟩
  .exact ⟨rfl,rfl,rfl,fun _=>rfl⟩
theorem SX.quiet {p:zd}{nb k:Nat}{s s':za}{g:Gh}{own:List Int}(X:SX p nb s g own k) (S':SOk p nb s') (hm:s'.M=s.M):SX p nb s' g own (k+1) :=
 ⟨S',by rw [hm];exact X.L,by rw [hm];exact X.D,by rw [hm];exact ⟨Nat.le_succ_of_le X.v.1,Nat.le_succ_of_le X.v.2⟩,fun w h1 h2=>by have:=X.dk w h1 h2;omega⟩
theorem FX.quiet {p:zd}{nb:Nat}{X:List Int}{O:Int->Prop}{s s':za}{g:Gh}(hm:s'.M=s.M) (hb:∀b,1<=b->b∉X->s'.Bins[b.toNat]? =s.Bins[b.toNat]?):FX p nb X O s s' g g :=
 ⟨by rw [hm];exact Mv.refl _ _ _ _,hb,fun _ _ _=>.inl (.same rfl rfl rfl (fun _ _ _=>by rw [hm])),fun _ h=>.inl h⟩
theorem ZK {p:zd}{s s':za}{g:Gh}(hb:s'.Bins=s.Bins):yL p s' g=yL p s g:=by
 unfold yL yT;rw [hb]
theorem v9 {g:zJ}(h:g.Out≠0\/(g.PC≠6/\g.PC≠7)):wT g=[]:=by unfold wT;rw [zi]
theorem zl3 {g:zJ}(h:g.Out=0) (h2:g.PC=6\/g.PC=7):wT g=[g.Bin]:=by unfold wT;rw [zb ⟨h,h2⟩]
theorem Ya {g:zJ}(h:g.Out≠0\/g.PC<3\/7<g.PC):yE g=[]:=by unfold yE;rw [zi]
theorem uE {g:zJ}(h:g.Out=0) (h2:3<=g.PC) (h3:g.PC<=7):yE g=[g.Obj]:=by unfold yE;rw [zb ⟨h,h2,h3⟩]
theorem GX.ask {p:zd}{s:za}{gh:Gh}{g:zJ}(o:g.Out=0) (md:1<=g.Mode/\g.Mode<=3) (ob:1<=g.Obj/\g.Obj<=64) (c0:g.Mode=1->gh.c g.Who=0) (q:zd):GX p s gh (zjt q g) :=
 ⟨.inl o,⟨by show (0:Int)<=5;decide,by show (5:Int)<=7;decide⟩,md,ob,fun h _=>c0 h,
  fun _ _=>⟨rfl,⟨by show (0:Int)<=0;decide,by show (0:Int)<=2;decide⟩,⟨fun e=>zm e (by show ¬(1:Int)<=0;decide),fun e=>zm e (by show ¬(0:Int)=2;decide),fun e=>zm e (by show ¬(0:Int)=2;decide)⟩⟩,
  fun e=>zm e (by show ¬(5:Int)=7;decide),fun e=>zm e (by show ¬(5:Int)=3;decide)⟩
theorem GX.plain {p:zd}{s:za}{gh:Gh}{g:zJ}(o:g.Out=0\/g.Out=1) (pc:0<=g.PC/\g.PC<=7) (md:1<=g.Mode/\g.Mode<=3) (ob:1<=g.Obj/\g.Obj<=64) (c0:g.Mode=1->g.Out=0->gh.c g.Who=0) (h:g.Out≠0\/(g.PC≠3/\g.PC≠5/\g.PC≠7)):GX p s gh g :=
 ⟨o,pc,md,ob,c0,fun e e2=>by omega,fun e e2=>by omega,fun e e2=>by omega⟩
def zAh (g:zJ) (w:Int):Prop:=g.Mode=1/\w=g.Who
def ztb (p:zd) (nb k:Nat) (R:List Int) (gh:Gh) (s:za) (g:zJ) (s':za) (g':zJ):Prop :=
 ∃gh',SX p nb s' gh' (wT g'++R) (k+1)/\GX p s' gh' g'/\FX p nb (wT g) (zAh g) s s' gh gh'/\(g.Mode=1->g.Out=0->gh'.c g.Who=0)/\(∀b∈gh'.F,b∈gh.F\/yT s' b≠[]) /\
  ∃N,List.Perm (yL p s' gh'++yE g') (N++(yL p s gh++yE g)) /\
   ((N=[]/\s'.T=s.T)\/(N=[g.Obj]/\¬(s.T.Marks|||bit g.Obj=s.T.Marks)/\s'.T={s.T with Marks:=s.T.Marks|||bit g.Obj}))
theorem ztb.quiet {p:zd}{nb k:Nat}{R:List Int}{gh:Gh}{s s':za}{g g':zJ}(X:SX p nb s gh (wT g++R) k) (S':SOk p nb s') (hm:s'.M=s.M) (hb:s'.Bins=s.Bins) (hT:s'.T=s.T)
  (ho:wT g'=wT g) (hh:yE g'=yE g) (c0:g.Mode=1->g.Out=0->gh.c g.Who=0) (G':GX p s' gh g'):ztb p nb k R gh s g s' g' :=
 ⟨gh,by rw [ho];exact X.quiet S' hm,G',FX.quiet hm (fun _ _ _=>by rw [hb]),c0,fun _ h=>.inl h,[],by rw [ZK hb,hh];exact zK8 _,.inl ⟨rfl,hT⟩⟩
theorem zrD (m:List (BitVec 64)) {c:zV}(hk:c.Kind=2) {a:Int}(ha:a≠c.Head):ld (zC m c).1 a=ld m a:=by
 unfold zC;split
 .rfl
 split
 .rfl
 split
 .rfl
 .dsimp only;unfold sw;split
  .exact yK (fun e=>ha e.symm)
  .rfl
theorem Chn.congr {m m':List (BitVec 64)}{N:Int}{nb:Nat}(hm:∀x:Int,1<=x->ld m' (N+x)=ld m (N+x)):∀ {l:List Int}{h:Int},Chn m N nb h l->Chn m' N nb h l
 | [],h,c=>c
 | y::l,h,c=>⟨c.1,c.2.1,c.2.2.1,by rw [hm y c.2.1];exact Chn.congr hm c.2.2.2⟩
theorem LI.low {p:zd}(hp:zI p) {nb:Nat}{m m':List (BitVec 64)}{h1 h2:Int}{F E own:List Int}(L:LI p nb m h1 h2 F E own) (hl:m'.length=m.length) (hm:∀a,yr p<=a->ld m' a=ld m a):LI p nb m' h1 h2 F E own:=by
 have hE:=vd hp;have h:h1=yr p\/h1=zU p:=by rcases L.hs with g | g<;>simp [g]
 have h':h2=yr p\/h2=zU p:=by rcases L.hs with g | g<;>simp [g]
 exact ⟨L.hs,by rw [hm h1 (by omega)];exact L.cF.congr (fun x hx=>hm _ (by omega)),by rw [hm h2 (by omega)];exact L.cE.congr (fun x hx=>hm _ (by omega)),L.all,by rw [hl];exact L.len⟩
theorem Mv.low {p:zd}(hp:zI p) {nb:Nat}{X:List Int}{m m':List (BitVec 64)}(hm:∀a,yr p<=a->ld m' a=ld m a):Mv p nb X m m':=by
 have hE:=vd hp;exact ⟨fun h hh=>by rw [hm h (by omega)];exact ⟨zKJ _,.inl rfl⟩,fun x hx _ _=>hm _ (by omega)⟩
theorem zDb {p:zd}(hp:zI p) {v w:Int}(hv:1<=v/\v<=p.Workers) (hw:1<=w/\w<=p.Workers) (h:v≠w):z6 p v+p.Cap+2<=z6 p w\/z6 p w+p.Cap+2<=z6 p v:=by
 have hk:=hp.wk;have hc:=hp.cap;have h1:=(Xa hp hv.1 hv.2).1;have h2:=(Xa hp hw.1 hw.2).1;have hx:v=1\/v=2\/v=3:=by omega
 have hy:w=1\/w=2\/w=3:=by omega
 rw [h1,h2];rcases hx with rfl | rfl | rfl<;>rcases hy with rfl | rfl | rfl<;>omega
theorem zxX {p:zd}(hp:zI p) {w:Int}(hw:1<=w/\w<=p.Workers) {m m':List (BitVec 64)}(hm:∀a,(a<z6 p w\/z6 p w+p.Cap+2<=a)->ld m' a=ld m a):(∀a,yr p<=a->ld m' a=ld m a) /\
  ∀v,1<=v->v<=p.Workers->v≠w->∀a,z6 p v<=a->a<z6 p v+p.Cap+2->ld m' a=ld m a:=by
 have hd:=Xa hp hw.1 hw.2;refine ⟨fun a ha=>hm a (by omega),fun v h1 h2 hne a h3 h4=>hm a ?_⟩;have:=zDb hp ⟨h1,h2⟩ hw hne;omega
def VI (g:Gh) (w:Int) (t:Nat) (l:List Int) (c:Nat):Gh:={g with D:=fun v=>if v=w then l else g.D v,t:=fun v=>if v=w then t else g.t v,c:=fun v=>if v=w then c else g.c v}
theorem XJ {g:Gh}{w v:Int}{t c:Nat}{l:List Int}(h:v≠w):(VI g w t l c).D v=g.D v/\(VI g w t l c).t v=g.t v/\(VI g w t l c).c v=g.c v:=by
 unfold VI;dsimp only;rw [zc h,zc h,zc h];exact ⟨rfl,rfl,rfl⟩
theorem vg {g:Gh}{w:Int}{t c:Nat}{l:List Int}:(VI g w t l c).D w=l/\(VI g w t l c).t w=t/\(VI g w t l c).c w=c:=by
 unfold VI;dsimp only;rw [zb rfl,zb rfl,zb rfl];exact ⟨rfl,rfl,rfl⟩
theorem SX.dq {p:zd}(hp:zI p) {nb k:Nat}{s s':za}{g:Gh}{own:List Int}(X:SX p nb s g own k) (S':SOk p nb s') (hl:s'.M.length=s.M.length) {w:Int}(hw:1<=w/\w<=p.Workers)
  (hm:∀a,(a<z6 p w\/z6 p w+p.Cap+2<=a)->ld s'.M a=ld s.M a) {t c:Nat}{l:List Int}(D:DQ p s'.M w t l c) (hk:t+l.length<=k+1+1000):SX p nb s' (VI g w t l c) own (k+1):=by
 obtain ⟨h1,h2⟩:=zxX hp hw hm;have hE:=vd hp;refine ⟨S',X.L.low hp hl h1,fun v a b=>?_,?_,fun v a b=>?_⟩
 .by_cases e:v=w
  .subst e;rw [vg.1,vg.2.1,vg.2.2];exact D
  .rw [(XJ e).1,(XJ e).2.1,(XJ e).2.2];exact (X.D v a b).keep hp (h2 v a b e)
 .rw [h1 _ (by omega),h1 _ (by omega)];exact ⟨Nat.le_succ_of_le X.v.1,Nat.le_succ_of_le X.v.2⟩
 .by_cases e:v=w
  .subst e;rw [vg.1,vg.2.1];exact hk
  .rw [(XJ e).1,(XJ e).2.1];have:=X.dk v a b;omega
theorem FX.own {p:zd}(hp:zI p) {nb:Nat}{Y:List Int}{O:Int->Prop}{s s':za}{g:Gh}{w:Int}(hw:1<=w/\w<=p.Workers)
  (hm:∀a,(a<z6 p w\/z6 p w+p.Cap+2<=a)->ld s'.M a=ld s.M a) (hb:s'.Bins=s.Bins) {t c:Nat}{l:List Int}(hO:O w) (V:Dv (g.t w) (g.D w) t l):FX p nb Y O s s' g (VI g w t l c):=by
 obtain ⟨h1,h2⟩:=zxX hp hw hm;refine ⟨Mv.low hp h1,fun b _ _=>by rw [hb],fun v a b=>?_,fun _ h=>.inl h⟩;by_cases e:v=w
 .subst e;right;rw [vg.1,vg.2.1];exact ⟨hO,V⟩
 .exact .inl (.same (XJ e).2.1 (XJ e).1 (XJ e).2.2 (h2 v a b e))
theorem wi {α β:Type}{f g:α->List β}:∀ {l:List α},(∀x∈l,f x=g x)->l.flatMap f=l.flatMap g
 | [],_=>rfl
 | a::l,h=>by rw [zLw,zLw,h a (by simp),wi (fun x hx=>h x (zKN _ hx))]
theorem zC1 {n:Nat}{i:Nat}(h:i<n):∃a b,List.range n=a++i::b/\i∉a/\i∉b:=by
 refine ⟨List.range i,(List.range (n-i-1)).map (fun j=>i+1+j),?_,by simp,by simp;omega⟩;have:n=i+(1+(n-i-1)):=by omega
 rw [this,List.range_add,List.range_add];simp [zL2,zLV,Function.comp_def]
theorem zrE {p:zd}{s s':za}{g:Gh}(hb:s'.Bins=s.Bins) {w:Int}(hw:1<=w/\w<=p.Workers) {t c:Nat}{l:List Int}:∃a b,yL p s g=a++g.D w++b/\yL p s' (VI g w t l c)=a++l++b:=by
 obtain ⟨a,b,e,ha,hb'⟩:=zC1 (n:=p.Workers.toNat) (i:=(w-1).toNat) (by omega);have ew:(((w-1).toNat:Nat):Int)+1=w:=by omega
 have ne:∀j:Nat,j≠(w-1).toNat->(j:Int)+1≠w:=fun j hj e=>hj (by omega);refine ⟨g.F.flatMap (yT s)++a.flatMap (fun i:Nat=>g.D ((i:Int)+1)),b.flatMap (fun i:Nat=>g.D ((i:Int)+1)),?_,?_⟩
 .unfold yL;rw [e,zL3,zLw,ew];simp [zKM]
 .unfold yL yT;rw [hb,e,zL3,zLw,ew,vg.1];have h1:a.flatMap (fun i:Nat=>(VI g w t l c).D ((i:Int)+1))=a.flatMap (fun i:Nat=>g.D ((i:Int)+1)):=by
   refine wi (fun j hj=>?_);exact (XJ (ne j (fun e=>ha (e▸hj)))).1
  have h2:b.flatMap (fun i:Nat=>(VI g w t l c).D ((i:Int)+1))=b.flatMap (fun i:Nat=>g.D ((i:Int)+1)):=by
   refine wi (fun j hj=>?_);exact (XJ (ne j (fun e=>hb' (e▸hj)))).1
  rw [h1,h2];have hF:(VI g w t l c).F=g.F:=rfl;rw [hF];simp [zKM]
theorem Mv.weak {p:zd}{nb:Nat}{m m':List (BitVec 64)}(M:Mv p nb [] m m') (Y:List Int):Mv p nb Y m m':=⟨M.hd,fun x a b _=>M.nx x a b (by simp)⟩
theorem Mv.grow {p:zd}{nb:Nat}{X Y:List Int}{m m':List (BitVec 64)}(M:Mv p nb X m m') (h:∀x∈X,x∈Y):Mv p nb Y m m':=⟨M.hd,fun x a b c=>M.nx x a b (fun e=>c (h x e))⟩
theorem SX.chain {p:zd}(hp:zI p) {nb k:Nat}{s s':za}{g:Gh}{own own' F E:List Int}(X:SX p nb s g own k) (S':SOk p nb s') (hlow:∀a,a<yr p->ld s'.M a=ld s.M a) (L':LI p nb s'.M (yr p) (zU p) F E own')
  (hv:xR (ld s'.M (yr p))<=k+1/\xR (ld s'.M (zU p))<=k+1):SX p nb s' {g with F:=F,E:=E} own' (k+1) :=
 ⟨S',L',fun w h1 h2=>(X.D w h1 h2).keep hp (fun a h3 h4=>hlow a (by have:=Xa hp h1 h2;omega)),hv,fun w h1 h2=>by have:=X.dk w h1 h2;show g.t w+(g.D w).length<=_;omega⟩
theorem FX.chain {p:zd}(hp:zI p) {nb:Nat}{Y:List Int}{O:Int->Prop}{s s':za}{g:Gh}{F E:List Int}(M:Mv p nb Y s.M s'.M) (hb:s'.Bins=s.Bins) (hlow:∀a,a<yr p->ld s'.M a=ld s.M a) (hF:∀y∈F,y∈g.F\/yT s' y≠[]):FX p nb Y O s s' g {g with F:=F,E:=E} :=
 ⟨M,fun _ _ _=>by rw [hb],fun w h1 h2=>.inl (.same rfl rfl rfl (fun a h3 h4=>hlow a (by have:=Xa hp h1 h2;omega))),hF⟩
theorem SX.popE {p:zd}(hp:zI p) {nb k:Nat}{s:za}{g:Gh}{own:List Int}(X:SX p nb s g own k) (hk:k<4294960000) {c:zV}(kd:c.Kind=2) (hh:c.Head=zU p) (hN:c.Next=zU p) (ho:c.Out=0) (hpc:0<=c.PC/\c.PC<=2) (K:CK p s.M c)
  (hn:1<=c.PC->1<=yG c.H/\yG c.H<nb) (S':SOk p nb {s with M:=(zC s.M c).1}) :
  ((zC s.M c).1=s.M/\(zC s.M c).2.Out≠1/\CK p s.M (zC s.M c).2/\((zC s.M c).2.Out=2->g.E=[])) \/
  (∃x l,g.E=x::l/\(zC s.M c).2.Out=1/\(zC s.M c).2.X=x/\SX p nb {s with M:=(zC s.M c).1} {g with E:=l} (x::own) (k+1)/\∀Y O,FX p nb Y O s {s with M:=(zC s.M c).1} g {g with E:=l}):=by
 have hE:=vd hp;have hnb:=X.S.nbk;have hv:=X.v;have hcells:=fun a (ha:a≠c.Head)=>zrD s.M kd ha;rcases zAA hp hnb.2 (L:=X.L.swap) kd hh hN ho hpc K hn (by omega) with ⟨a,b,e,d⟩ | ⟨x,l,a,b,e,d,f,v1,v2⟩
 .exact .inl ⟨a,b,d,e⟩
 .refine .inr ⟨x,l,a,b,e,X.chain hp S' (fun a ha=>hcells a (by omega)) d.swap ?_,fun Y O=>FX.chain hp (f.weak Y) rfl (fun a ha=>hcells a (by omega)) (fun _ h=>.inl h)⟩;rw [v2,v1];omega
theorem SX.popF {p:zd}(hp:zI p) {nb k:Nat}{s:za}{g:Gh}{own:List Int}(X:SX p nb s g own k) (hk:k<4294960000) {c:zV}(kd:c.Kind=2) (hh:c.Head=yr p) (hN:c.Next=zU p) (ho:c.Out=0) (hpc:0<=c.PC/\c.PC<=2) (K:CK p s.M c)
  (hn:1<=c.PC->1<=yG c.H/\yG c.H<nb) (S':SOk p nb {s with M:=(zC s.M c).1}) :
  ((zC s.M c).1=s.M/\(zC s.M c).2.Out≠1/\CK p s.M (zC s.M c).2/\((zC s.M c).2.Out=2->g.F=[])) \/
  (∃x l,g.F=x::l/\(zC s.M c).2.Out=1/\(zC s.M c).2.X=x/\SX p nb {s with M:=(zC s.M c).1} {g with F:=l} (x::own) (k+1)/\∀Y O,FX p nb Y O s {s with M:=(zC s.M c).1} g {g with F:=l}):=by
 have hE:=vd hp;have hnb:=X.S.nbk;have hv:=X.v;have hcells:=fun a (ha:a≠c.Head)=>zrD s.M kd ha;rcases zAA hp hnb.2 (L:=X.L) kd hh hN ho hpc K hn (by omega) with ⟨a,b,e,d⟩ | ⟨x,l,a,b,e,d,f,v1,v2⟩
 .exact .inl ⟨a,b,d,e⟩
 .refine .inr ⟨x,l,a,b,e,X.chain hp S' (fun a ha=>hcells a (by omega)) d ?_,fun Y O=>FX.chain hp (f.weak Y) rfl (fun a ha=>hcells a (by omega)) (fun y hy=>.inl (by rw [a];exact zKN _ hy))⟩;rw [v2,v1];omega
theorem SX.pushF {p:zd}(hp:zI p) {nb k:Nat}{s:za}{g:Gh}{o1 o2:List Int}{b:Int}(X:SX p nb s g (o1++b::o2) k) (hk:k<4294960000) {c:zV}(kd:c.Kind=1) (hh:c.Head=yr p) (hN:c.Next=zU p) (hX:c.X=b) (ho:c.Out=0) (hpc:0<=c.PC/\c.PC<=2) (K:CK p s.M c)
  (hn:1<=c.PC->yG c.H<nb) (S':SOk p nb {s with M:=(zC s.M c).1}) :
  ((zC s.M c).2.Out=0/\SX p nb {s with M:=(zC s.M c).1} g (o1++b::o2) (k+1)/\CK p (zC s.M c).1 (zC s.M c).2/\(∀Y O,b∈Y->FX p nb Y O s {s with M:=(zC s.M c).1} g g)) \/
  ((zC s.M c).2.Out=1/\SX p nb {s with M:=(zC s.M c).1} {g with F:=b::g.F} (o1++o2) (k+1)/\(∀Y O,yT s b≠[]->FX p nb Y O s {s with M:=(zC s.M c).1} g {g with F:=b::g.F})):=by
 have hE:=vd hp;have hnb:=X.S.nbk;have hv:=X.v;rcases zzr hp hnb.2 (L:=X.L) kd hh hN hX ho hpc K hn (by omega) with ⟨a,l,d,e,f⟩ | ⟨a,l,d,e,f⟩
 .refine .inl ⟨a,X.chain hp S' (fun a ha=>f a (by omega)) l ?_,e,fun Y O hb=>FX.chain hp (d.grow (fun x hx=>by rw [zLr.1 hx];exact hb)) rfl (fun a ha=>f a (by omega)) (fun _ h=>.inl h)⟩;show xR (ld (zC s.M c).1 (yr p))<=_/\xR (ld (zC s.M c).1 (zU p))<=_;rw [f _ (by omega),f _ (by omega)];omega
 .refine .inr ⟨a,X.chain hp S' (fun a ha=>f a (by omega) (by omega)) l ?_,fun Y O hb=>FX.chain hp (d.weak Y) rfl (fun a ha=>f a (by omega) (by omega)) (fun y hy=>(zKW.1 hy).elim (fun e=>.inr (by rw [e];exact hb)) .inl)⟩;show xR (ld (zC s.M c).1 (yr p))<=_/\xR (ld (zC s.M c).1 (zU p))<=_;have f':=f (zU p) (by omega) (by omega);rw [f'];omega
theorem SX.pushE {p:zd}(hp:zI p) {nb k:Nat}{s:za}{g:Gh}{o1 o2:List Int}{b:Int}(X:SX p nb s g (o1++b::o2) k) (hk:k<4294960000) {c:zV}(kd:c.Kind=1) (hh:c.Head=zU p) (hN:c.Next=zU p) (hX:c.X=b) (ho:c.Out=0) (hpc:0<=c.PC/\c.PC<=2) (K:CK p s.M c)
  (hn:1<=c.PC->yG c.H<nb) (S':SOk p nb {s with M:=(zC s.M c).1}) :
  ((zC s.M c).2.Out=0/\SX p nb {s with M:=(zC s.M c).1} g (o1++b::o2) (k+1)/\CK p (zC s.M c).1 (zC s.M c).2/\(∀Y O,b∈Y->FX p nb Y O s {s with M:=(zC s.M c).1} g g)) \/
  ((zC s.M c).2.Out=1/\SX p nb {s with M:=(zC s.M c).1} {g with E:=b::g.E} (o1++o2) (k+1)/\(∀Y O,FX p nb Y O s {s with M:=(zC s.M c).1} g {g with E:=b::g.E})):=by
 have hE:=vd hp;have hnb:=X.S.nbk;have hv:=X.v;rcases zzr hp hnb.2 (L:=X.L.swap) kd hh hN hX ho hpc K hn (by omega) with ⟨a,l,d,e,f⟩ | ⟨a,l,d,e,f⟩
 .refine .inl ⟨a,X.chain hp S' (fun a ha=>f a (by omega)) l.swap ?_,e,fun Y O hb=>FX.chain hp (d.grow (fun x hx=>by rw [zLr.1 hx];exact hb)) rfl (fun a ha=>f a (by omega)) (fun _ h=>.inl h)⟩;show xR (ld (zC s.M c).1 (yr p))<=_/\xR (ld (zC s.M c).1 (zU p))<=_;rw [f _ (by omega),f _ (by omega)];omega
 .refine .inr ⟨a,X.chain hp S' (fun a ha=>f a (by omega) (by omega)) l.swap ?_,fun Y O=>FX.chain hp (d.weak Y) rfl (fun a ha=>f a (by omega) (by omega)) (fun _ h=>.inl h)⟩;show xR (ld (zC s.M c).1 (yr p))<=_/\xR (ld (zC s.M c).1 (zU p))<=_;have f':=f (yr p) (by omega) (by omega);rw [f'];omega
theorem zJP {p:zd}{s:za}{g:Gh}{b:Int}:yL p s {g with F:=b::g.F}=yT s b++yL p s g:=by
 unfold yL;simp [zKM]
theorem zJ6 {p:zd}{s:za}{g:Gh}{l:List Int}:yL p s {g with E:=l}=yL p s g:=rfl
theorem zHV {l:List Int}{t:Nat}{x:Int}:Dv t l t (l++[x]):=⟨zKJ _,fun _ h=>⟨by simp,by cases l with | nil=>exact zm rfl h | cons a l=>rfl⟩⟩
theorem zEa {p:zd}(hp:zI p) {nb k:Nat}{R:List Int}{gh:Gh}{s:za}{g:zJ}(hk:k<4294960000) (X:SX p nb s gh (wT g++R) k) (M:MOk p nb g) (h5o:g.PC=5->g.C.Out≠1) (G:GX p s gh g) :
  ztb p nb k R gh s g (zG s g).1 (zG s g).2:=by
 have S':=(zsW hp X.S M h5o).1;have hP:=X.S.P;have hpc:=G.pc;have hmd:=G.md;have hob:=G.ob;revert S';unfold zG;by_cases h0:g.Out=0;rotate_left
 .rw [zb (.inl h0)];intro S';exact .quiet X S' rfl rfl rfl rfl rfl G.c0 G
 rw [zi];have hc0:g.Mode=1->gh.c g.Who=0:=fun h=>G.c0 h h0;by_cases p7:g.PC=7
 .rw [zb p7];obtain ⟨c1,c2,c3,c4,c5⟩:=G.c7 p7 h0;obtain ⟨m1,m2,m3,m4,m5⟩:=M.c7 p7;have eo:wT g=[g.Bin]:=zl3 h0 (.inr p7);have eh:yE g=[g.Obj]:=uE h0 (by omega) (by omega);rw [eo] at X;intro S';have S':SOk p nb {s with M:=(zC s.M g.C).1}:=S';unfold zes;dsimp only;rcases SX.pushF hp (o1:=[]) (o2:=R) (b:=g.Bin) X hk m1 m2 m3 c3 c1 c2 c4 m5 S' with ⟨a,b,c,d⟩ | ⟨a,b,d⟩
  .rw [a];rw [zc (by decide)];have hout:=zcW s.M c1 c2 (.inl m1);have hsame:=zog s.M g.C;have hpc':0<=(zC s.M g.C).2.PC/\(zC s.M g.C).2.PC<=2:=by omega
   refine ⟨gh,by rw [show wT {g with C:=(zC s.M g.C).2}=[g.Bin] from zl3 h0 (.inr p7)];exact b,?_,by rw [eo];exact d _ _ (by simp),fun h _=>hc0 h,fun _ h=>.inl h,[],?_,.inl ⟨rfl,rfl⟩⟩
   .exact ⟨.inl h0,hpc,hmd,hob,fun h _=>hc0 h,fun e=>by have e:g.PC=5:=e;omega,fun _ _=>⟨a,hpc',(hsame.2.2.2 m1).trans c3,c,c5⟩,fun e=>by have e:g.PC=3:=e;omega⟩
   .rw [ZK rfl,show yE {g with C:=(zC s.M g.C).2}=[g.Obj] from uE h0 (by show (3:Int)<=g.PC;omega) (by show g.PC<=7;omega),eh];exact zK8 _
  .rw [a,zb rfl];have e1:wT {g with C:=(zC s.M g.C).2,Out:=1}=[]:=v9 (.inl (by show (1:Int)≠0;decide));have e2:yE {g with C:=(zC s.M g.C).2,Out:=1}=[]:=Ya (.inl (by show (1:Int)≠0;decide));refine ⟨{gh with F:=g.Bin::gh.F},by rw [e1];exact b,?_,by rw [eo];exact d _ _ (by unfold yT;rw [c5];exact List.cons_ne_nil _ _),fun h _=>hc0 h,fun y hy=>(zKW.1 hy).elim (fun e=>.inr (by rw [e];unfold yT;rw [show ({s with M:=(zC s.M g.C).1}:za).Bins=s.Bins from rfl,c5];exact List.cons_ne_nil _ _)) .inl,[],?_,.inl ⟨rfl,rfl⟩⟩
   .exact GX.plain (.inr rfl) hpc hmd hob (fun _ e=>by cases e) (.inl (by show (1:Int)≠0;decide))
   .rw [e2,eh,zJP,ZK rfl,zKI];have:yT {s with M:=(zC s.M g.C).1} g.Bin=[g.Obj]:=by unfold yT;rw [show ({s with M:=(zC s.M g.C).1}:za).Bins=s.Bins from rfl,c5];rfl
    rw [this];exact zLs
 rw [zc p7];by_cases p6:g.PC=6
 .rw [zb p6];have eo:wT g=[g.Bin]:=zl3 h0 (.inl p6);have eh:yE g=[g.Obj]:=uE h0 (by omega) (by omega);have hb:=M.b6 p6;have hbl:=X.S.bins;intro S';unfold zAe;unfold zAe at S';have e1:wT {g with PC:=7,C:=⟨1,0,yr s.P,zU s.P,0#64,g.Bin,0,0⟩}=[g.Bin]:=zl3 h0 (.inr rfl);have hget:∀b,1<=b->b∉wT g->(s.Bins.set g.Bin.toNat [g.Obj])[b.toNat]? =s.Bins[b.toNat]? :=fun b b1 b2=>by
   rw [zLf];intro e;rw [eo] at b2;exact b2 (by rw [show b=g.Bin by omega];simp)
  refine ⟨gh,by rw [e1,<-eo];exact X.quiet S' rfl,?_,FX.quiet rfl hget,fun h _=>hc0 h,fun _ h=>.inl h,[],?_,.inl ⟨rfl,rfl⟩⟩
  .refine ⟨.inl h0,⟨by show (0:Int)<=7;decide,by show (7:Int)<=7;decide⟩,hmd,hob,fun h _=>hc0 h,fun e=>zm e (by show ¬(7:Int)=5;decide),fun _ _=>⟨rfl,⟨by show (0:Int)<=0;decide,by show (0:Int)<=2;decide⟩,rfl,⟨fun e=>zm e (by show ¬(1:Int)<=0;decide),fun e=>zm e (by show ¬(0:Int)=2;decide),fun e=>zm e (by show ¬(0:Int)=2;decide)⟩,?_⟩,fun e=>zm e (by show ¬(7:Int)=3;decide)⟩;show (s.Bins.set g.Bin.toNat [g.Obj])[g.Bin.toNat]? =_;rw [zLL (by omega)]
  .rw [show yE {g with PC:=7,C:=⟨1,0,yr s.P,zU s.P,0#64,g.Bin,0,0⟩}=[g.Obj] from uE h0 (by show (3:Int)<=7;decide) (by show (7:Int)<=7;decide),eh];have:yL p {s with Bins:=s.Bins.set g.Bin.toNat [g.Obj]} gh=yL p s gh:=by
    unfold yL;congr 1;refine wi (fun b hb=>?_);have hm:=X.L.cF.mem b hb;have hno:=(X.L.notF (x:=g.Bin) (by rw [eo];simp)).1;unfold yT;rw [show ({s with Bins:=s.Bins.set g.Bin.toNat [g.Obj]}:za).Bins=s.Bins.set g.Bin.toNat [g.Obj] from rfl,hget b hm.1 (by rw [eo];intro e;rw [zLr.1 e] at hb;exact hno hb)]
   rw [this];exact zK8 _
 rw [zc p6];have eo:wT g=[]:=v9 (.inr ⟨p6,p7⟩);by_cases p5:g.PC=5
 .rw [zb p5];obtain ⟨c1,c2,c3⟩:=G.c5 p5 h0;obtain ⟨m1,m2,m3,m4,m5⟩:=M.c5 p5;have eh:yE g=[g.Obj]:=uE h0 (by omega) (by omega);intro S';have S':SOk p nb {s with M:=(zC s.M g.C).1}:=S';unfold znV;dsimp only;rcases SX.popE hp X hk m1 m2 m3 c1 c2 c3 m4 S' with ⟨a,b,c,d⟩ | ⟨x,l,a,b,c,d,e⟩
  .rw [zc b];have hout:=zcW s.M c1 c2 (.inr m1);by_cases o2:(zC s.M g.C).2.Out=2
   .rw [zb o2];refine .quiet X S' a rfl rfl ?_ ?_ G.c0 (GX.ask h0 hmd hob hc0 _)
    .rw [eo];exact v9 (.inr ⟨by show (5:Int)≠6;decide,by show (5:Int)≠7;decide⟩)
    .rw [eh];exact uE h0 (by show (3:Int)<=5;decide) (by show (5:Int)<=7;decide)
   .rw [zc o2];have hpc':(zC s.M g.C).2.Out=0/\0<=(zC s.M g.C).2.PC/\(zC s.M g.C).2.PC<=2:=by omega
    refine .quiet X S' a rfl rfl ?_ ?_ G.c0 ⟨.inl h0,hpc,hmd,hob,G.c0,fun _ _=>⟨hpc'.1,hpc'.2,by rw [show ({s with M:=(zC s.M g.C).1}:za).M=s.M from a];exact c⟩,fun e=>by have e:g.PC=7:=e;omega,fun e=>by have e:g.PC=3:=e;omega⟩
    .rw [eo];exact v9 (.inr ⟨p6,p7⟩)
    .rw [eh];exact uE h0 (by show (3:Int)<=g.PC;omega) (by show g.PC<=7;omega)
  .rw [zb b];have e1:wT {g with PC:=6,C:=(zC s.M g.C).2,Bin:=(zC s.M g.C).2.X}=[x]:=by rw [<-c];exact zl3 (g:={g with PC:=6,C:=(zC s.M g.C).2,Bin:=(zC s.M g.C).2.X}) h0 (.inl rfl)
   refine ⟨{gh with E:=l},by rw [e1];rw [eo] at d;exact d,?_,e _ _,fun h _=>hc0 h,fun _ h=>.inl h,[],?_,.inl ⟨rfl,rfl⟩⟩
   .exact GX.plain (.inl h0) ⟨by show (0:Int)<=6;decide,by show (6:Int)<=7;decide⟩ hmd hob (fun h _=>hc0 h) (.inr ⟨by show (6:Int)≠3;decide,by show (6:Int)≠5;decide,by show (6:Int)≠7;decide⟩)
   .rw [zJ6,ZK rfl,eh,show yE {g with PC:=6,C:=(zC s.M g.C).2,Bin:=(zC s.M g.C).2.X}=[g.Obj] from uE h0 (by show (3:Int)<=6;decide) (by show (6:Int)<=7;decide)];exact zK8 _
 rw [zc p5];by_cases p4:g.PC=4
 .rw [zb p4];intro S';refine .quiet X S' rfl rfl rfl ?_ ?_ G.c0 (GX.ask h0 hmd hob hc0 _)
  .rw [eo];exact v9 (.inr ⟨by show (5:Int)≠6;decide,by show (5:Int)≠7;decide⟩)
  .rw [uE h0 (by omega) (by omega)];exact uE h0 (by show (3:Int)<=5;decide) (by show (5:Int)<=7;decide)
 rw [zc p4];by_cases p3:g.PC=3
 .rw [zb p3];obtain ⟨c1,c2,c3⟩:=G.d3 p3 h0;have hw:=M.who c1;have eh:yE g=[g.Obj]:=uE h0 (by omega) (by omega);have hdk:=X.dk g.Who hw.1 hw.2;have hlen:=X.L.len;have hE:=vd hp;have hc00:=c3.c0;have c3':=c3;rw [hc00] at c3';have D0:=X.D g.Who hw.1 hw.2;rw [hc00] at D0;obtain ⟨a,b,r⟩:=zzB hp hw (by omega) D0 c3' (by omega) (by rw [c2];omega);intro S';have S':SOk p nb {s with M:=(xn s.M g.D).1}:=S';unfold zn4;dsimp only;rcases r with ⟨r1,r2,r3⟩ | ⟨r1,r2⟩ | ⟨r1,r2⟩
  .rw [r1,zc (by decide),zc (by decide)];have e1:wT {g with D:=(xn s.M g.D).2}=[]:=v9 (.inr ⟨p6,p7⟩);refine ⟨VI gh g.Who (gh.t g.Who) (gh.D g.Who) 0,?_,?_,FX.own (O:=zAh g) (s:=s) (s':={s with M:=(xn s.M g.D).1}) (g:=gh) hp hw a rfl ⟨c1,rfl⟩ (Dv.refl _ _),fun _ _=>vg.2.2,fun _ h=>.inl h,[],?_,.inl ⟨rfl,rfl⟩⟩
   .rw [e1];rw [eo] at X;exact X.dq hp S' (zkW _ _) hw a r2 (by omega)
   .refine ⟨.inl h0,hpc,hmd,hob,fun _ _=>vg.2.2,fun e=>by have e:g.PC=5:=e;omega,fun e=>by have e:g.PC=7:=e;omega,fun _ _=>⟨c1,b.trans c2,?_⟩⟩;show DK p (xn s.M g.D).1 g.Who ((VI gh g.Who (gh.t g.Who) (gh.D g.Who) 0).t g.Who) _ _ _;rw [vg.1,vg.2.1,vg.2.2];exact r3
   .obtain ⟨u,v,f1,f2⟩:=zrE (p:=p) (s:=s) (s':={s with M:=(xn s.M g.D).1}) (g:=gh) rfl hw (t:=gh.t g.Who) (c:=0) (l:=gh.D g.Who);rw [f1,f2,eh,show yE {g with D:=(xn s.M g.D).2}=[g.Obj] from uE h0 (by show (3:Int)<=g.PC;omega) (by show g.PC<=7;omega)];exact zK8 _
  .rw [r1,zc (by decide),zb rfl];have e1:wT (zjt s.P {g with D:=(xn s.M g.D).2})=[]:=v9 (.inr ⟨by show (5:Int)≠6;decide,by show (5:Int)≠7;decide⟩);refine ⟨VI gh g.Who (gh.t g.Who) (gh.D g.Who) 0,?_,?_,FX.own (O:=zAh g) (s:=s) (s':={s with M:=(xn s.M g.D).1}) (g:=gh) hp hw a rfl ⟨c1,rfl⟩ (Dv.refl _ _),fun _ _=>vg.2.2,fun _ h=>.inl h,[],?_,.inl ⟨rfl,rfl⟩⟩
   .rw [e1];rw [eo] at X;exact X.dq hp S' (zkW _ _) hw a r2 (by omega)
   .exact GX.ask (g:={g with D:=(xn s.M g.D).2}) h0 hmd hob (fun _=>vg.2.2) _
   .obtain ⟨u,v,f1,f2⟩:=zrE (p:=p) (s:=s) (s':={s with M:=(xn s.M g.D).1}) (g:=gh) rfl hw (t:=gh.t g.Who) (c:=0) (l:=gh.D g.Who);rw [f1,f2,eh,show yE (zjt s.P {g with D:=(xn s.M g.D).2})=[g.Obj] from uE h0 (by show (3:Int)<=5;decide) (by show (5:Int)<=7;decide)];exact zK8 _
  .rw [r1,zb rfl];have e1:wT {g with D:=(xn s.M g.D).2,Out:=1}=[]:=v9 (.inl (by show (1:Int)≠0;decide));refine ⟨VI gh g.Who (gh.t g.Who) (gh.D g.Who++[g.D.X]) 0,?_,?_,FX.own (O:=zAh g) (s:=s) (s':={s with M:=(xn s.M g.D).1}) (g:=gh) hp hw a rfl ⟨c1,rfl⟩ zHV,fun _ _=>vg.2.2,fun _ h=>.inl h,[],?_,.inl ⟨rfl,rfl⟩⟩
   .rw [e1];rw [eo] at X;exact X.dq hp S' (zkW _ _) hw a r2 (by rw [zKS,zMw];omega)
   .exact GX.plain (.inr rfl) hpc hmd hob (fun _ e=>by cases e) (.inl (by show (1:Int)≠0;decide))
   .obtain ⟨u,v,f1,f2⟩:=zrE (p:=p) (s:=s) (s':={s with M:=(xn s.M g.D).1}) (g:=gh) rfl hw (t:=gh.t g.Who) (c:=0) (l:=gh.D g.Who++[g.D.X]);rw [f1,f2,eh,show yE {g with D:=(xn s.M g.D).2,Out:=1}=[] from Ya (.inl (by show (1:Int)≠0;decide)),c2,zKI,zKP];simp only [zKM];refine zKR _ (zKR _ ?_);exact zLs
 rw [zc p3];by_cases p2:g.PC=2
 .rw [zb p2];intro S';refine .quiet X S' rfl rfl rfl ?_ ?_ G.c0 (GX.plain (.inr rfl) hpc hmd hob (fun _ e=>by cases e) (.inl (by show (1:Int)≠0;decide)))
  .rw [eo];exact v9 (.inl (by show (1:Int)≠0;decide))
  .rw [Ya (g:=g) (.inr (.inl (by omega)))];exact Ya (.inl (by show (1:Int)≠0;decide))
 rw [zc p2];by_cases p1:g.PC=1
 .rw [zb p1];have eh:yE g=[]:=Ya (.inr (.inl (by omega)));intro S';unfold zn6;unfold zn6 at S';dsimp only at S' ⊢;by_cases hs:(shade s.T g.Obj).2=false
  .have eT:(shade s.T g.Obj).1=s.T:=by
    unfold shade at hs ⊢;split at hs
    .rename_i h1;rw [zb h1]
    .rename_i h1;split at hs
     .cases hs
     .rename_i h2;rw [zc h1,zc h2]
   rw [zb hs];refine .quiet X S' rfl rfl eT ?_ ?_ G.c0 (GX.plain (.inl h0) ⟨by show (0:Int)<=2;decide,by show (2:Int)<=7;decide⟩ hmd hob G.c0 (.inr ⟨by show (2:Int)≠3;decide,by show (2:Int)≠5;decide,by show (2:Int)≠7;decide⟩))
   .rw [eo];exact v9 (.inr ⟨by show (2:Int)≠6;decide,by show (2:Int)≠7;decide⟩)
   .rw [eh];exact Ya (.inr (.inl (by show (2:Int)<3;decide)))
  .have eT: ¬(s.T.Marks|||bit g.Obj=s.T.Marks)/\(shade s.T g.Obj).1={s.T with Marks:=s.T.Marks|||bit g.Obj}:=by
    unfold shade at hs ⊢;split at hs
    .exact zm rfl hs
    .rename_i h1;split at hs
     .rename_i h2;exact ⟨h1,by rw [zc h1,zb h2]⟩
     .exact zm rfl hs
   rw [zc hs];have fin:∀g':zJ,wT g'=[]->yE g'=[g.Obj]->GX p {s with T:=(shade s.T g.Obj).1} gh g'->ztb p nb k R gh s g {s with T:=(shade s.T g.Obj).1} g':=fun g' a b c =>
    ⟨gh,by rw [a,<-eo];exact X.quiet S' rfl,c,FX.quiet rfl (fun _ _ _=>rfl),fun h _=>hc0 h,fun _ h=>.inl h,[g.Obj],by rw [ZK rfl,b,eh,zKI];exact zLs,.inr ⟨rfl,eT.1,eT.2⟩⟩
   by_cases q1:g.Mode=1
   .rw [zb q1];have hw:=M.who q1;refine fin _ (v9 (.inr ⟨by show (3:Int)≠6;decide,by show (3:Int)≠7;decide⟩)) (uE h0 (by show (3:Int)<=3;decide) (by show (3:Int)<=7;decide))
     ⟨.inl h0,⟨by show (0:Int)<=3;decide,by show (3:Int)<=7;decide⟩,hmd,hob,G.c0,fun e=>zm e (by show ¬(3:Int)=5;decide),fun e=>zm e (by show ¬(3:Int)=7;decide),fun _ _=>⟨q1,rfl,⟨rfl,by rw [hP],by rw [hP],rfl,hc0 q1,⟨by show (0:Int)<=0;decide,by show (0:Int)<=3;decide⟩,fun e=>zm e (by show ¬(1:Int)<=0;decide),fun e=>zm e (by show ¬(2:Int)<=0;decide),fun e=>zm e (by show ¬(3:Int)<=0;decide)⟩⟩⟩
   rw [zc q1];by_cases q2:g.Mode=2
   .rw [zb q2];exact fin _ (v9 (.inr ⟨by show (4:Int)≠6;decide,by show (4:Int)≠7;decide⟩)) (uE h0 (by show (3:Int)<=4;decide) (by show (4:Int)<=7;decide))
     (GX.plain (.inl h0) ⟨by show (0:Int)<=4;decide,by show (4:Int)<=7;decide⟩ hmd hob G.c0 (.inr ⟨by show (4:Int)≠3;decide,by show (4:Int)≠5;decide,by show (4:Int)≠7;decide⟩))
   .rw [zc q2];exact fin _ (v9 (.inr ⟨by show (5:Int)≠6;decide,by show (5:Int)≠7;decide⟩)) (uE h0 (by show (3:Int)<=5;decide) (by show (5:Int)<=7;decide)) (GX.ask h0 hmd hob hc0 _)
 .rw [zc p1];intro S';refine .quiet X S' rfl rfl rfl ?_ ?_ G.c0 (GX.plain (.inl h0) ⟨by show (0:Int)<=1;decide,by show (1:Int)<=7;decide⟩ hmd hob G.c0 (.inr ⟨by show (1:Int)≠3;decide,by show (1:Int)≠5;decide,by show (1:Int)≠7;decide⟩))
  .rw [eo];exact v9 (.inr ⟨by show (1:Int)≠6;decide,by show (1:Int)≠7;decide⟩)
  .rw [Ya (g:=g) (.inr (.inl (by omega)))];exact Ya (.inr (.inl (by show (1:Int)<3;decide)))
def wW (x:zj):List Int:=if x.PC=3\/x.PC=4 then [x.Bin] else if x.PC=6 then wT x.G else []
def UH (s:za) (x:zj):List Int:=if x.PC=0 then Yy s.M x.D else if x.PC=3 then yT s x.Bin else if x.PC=5\/x.PC=8 then [x.Obj] else if x.PC=6 then x.Obj::yE x.G else []
def z5 (s:za) (x:zj):List Int:=x.Batch++UH s x
structure WX (p:zd) (s:za) (gh:Gh) (w:Int) (x:zj):Prop where
 c0:x.PC≠0->gh.c w=0
 bt:x.PC<=3->x.Batch=[]
 p0:x.PC=0->PK p s.M w (gh.t w) (gh.D w) (gh.c w) x.D
 p1:x.PC=1->TK p s.M x.Victim (gh.t x.Victim) (gh.D x.Victim) x.D
 p2:x.PC=2->x.C.Out=0/\(0<=x.C.PC/\x.C.PC<=2)/\CK p s.M x.C
 p4:x.PC=4->x.C.Out=0/\(0<=x.C.PC/\x.C.PC<=2)/\x.C.X=x.Bin/\CK p s.M x.C
 p6:x.PC=6->GX p s gh x.G/\x.G.Mode=1/\x.G.Who=w/\x.G.Out=0
theorem WX.plain {p:zd}{s:za}{gh:Gh}{w:Int}{x:zj}(h:x.PC=5\/x.PC=7\/x.PC=8\/x.PC=9) (c:gh.c w=0):WX p s gh w x :=
 ⟨fun _=>c,fun e=>by omega,fun e=>by omega,fun e=>by omega,fun e=>by omega,fun e=>by omega,fun e=>by omega⟩
theorem CK.start {p:zd}{m:List (BitVec 64)}{k h x:Int}:CK p m ⟨k,0,h,zU p,0#64,x,0,0⟩ :=
 ⟨fun e=>zm e (by show ¬(1:Int)<=0;decide),fun e=>zm e (by show ¬(0:Int)=2;decide),fun e=>zm e (by show ¬(0:Int)=2;decide)⟩
theorem WX.begin {p:zd}{s:za}{gh:Gh}{w:Int}{x:zj}(c:gh.c w=0) (hb:x.Batch=[]):WX p s gh w (zay p w x):=by
 refine ⟨fun e=>zm rfl e,fun _=>hb,fun _=>⟨rfl,rfl,rfl,rfl,⟨by show (0:Int)<=0;decide,by show (0:Int)<=6;decide⟩,fun _=>c,?_,?_,?_,?_,?_,?_,?_,?_⟩,fun e=>(by cases e),fun e=>(by cases e),fun e=>(by cases e),fun e=>(by cases e)⟩
 all_goals (intro e;first | (exact zm e (by show ¬((0:Int)=2\/(4:Int)<=0);decide)) | (exact zm e (by show ¬(0:Int)=3;decide)) | (exact zm e (by show ¬(0:Int)=4;decide)) | (exact zm e (by show ¬((0:Int)=3\/(0:Int)=4);decide)) | (exact zm e (by show ¬(5:Int)<=0;decide)) | skip)
 rcases e with e | e | e | e
 .exact zm e (by show ¬(0:Int)=1;decide)
 .exact zm e (by show ¬(0:Int)=2;decide)
 .exact zm e (by show ¬(4:Int)<=0;decide)
 .exact zm e.1 (by show ¬(0:Int)=3;decide)
theorem zkA {p:zd}{s:za}{w:Int}{x:zj}:UH s (zay p w x)=[]:=by
 unfold UH;rw [zb (show (zay p w x).PC=0 from rfl)];exact uw (.inl (by show (0:Int)≠3;decide)) (by show (0:Int)≠6;decide)
theorem WX.look {p:zd}{s:za}{gh:Gh}{w:Int}{x:zj}(c:gh.c w=0) (hb:x.Batch=[]):WX p s gh w (Yn p w x)/\UH s (Yn p w x)=[]/\wW (Yn p w x)=[]:=by
 unfold Yn;split
 .refine ⟨⟨fun _=>c,fun _=>hb,fun e=>(by cases e),fun e=>(by cases e),fun _=>⟨rfl,⟨by show (0:Int)<=0;decide,by show (0:Int)<=2;decide⟩,CK.start⟩,fun e=>(by cases e),fun e=>(by cases e)⟩,?_,?_⟩
  .unfold UH;rw [zc (by show ¬(2:Int)=0;decide),zc (by show ¬(2:Int)=3;decide),zc (by show ¬((2:Int)=5\/(2:Int)=8);decide),zc (by show ¬(2:Int)=6;decide)]
  .unfold wW;rw [zc (by show ¬((2:Int)=3\/(2:Int)=4);decide),zc (by show ¬(2:Int)=6;decide)]
 .refine ⟨⟨fun _=>c,fun _=>hb,fun e=>(by cases e),fun _=>⟨rfl,rfl,rfl,rfl,⟨by show (0:Int)<=0;decide,by show (0:Int)<=3;decide⟩,fun e=>zm e (by show ¬(1:Int)<=0;decide),fun e=>zm e (by show ¬(2:Int)<=0;decide),fun e=>zm e (by show ¬(0:Int)=3;decide)⟩,fun e=>(by cases e),fun e=>(by cases e),fun e=>(by cases e)⟩,?_,?_⟩
  .unfold UH;rw [zc (by show ¬(1:Int)=0;decide),zc (by show ¬(1:Int)=3;decide),zc (by show ¬((1:Int)=5\/(1:Int)=8);decide),zc (by show ¬(1:Int)=6;decide)]
  .unfold wW;rw [zc (by show ¬((1:Int)=3\/(1:Int)=4);decide),zc (by show ¬(1:Int)=6;decide)]
theorem WX.other {p:zd}(hp:zI p) {nb k:Nat}{s s':za}{gh gh':Gh}{X R:List Int}{O:Int->Prop}{w:Int}{x:zj}(hw:1<=w/\w<=p.Workers) (Y:SX p nb s gh (X++R) k) (Fx:FX p nb X O s s' gh gh') (K:WX p s gh w x) (W:WOk p nb w x)
  (hR:∀b∈wW x,b∈R) (apart: ¬O w):WX p s' gh' w x/\z5 s' x=z5 s x:=by
 have hsub:∀b∈X,b∈X++R:=fun b hb=>zKZ _ hb;have hnd:=(zLU.1 Y.L.nodup).2.1;have hnot:∀b,b∈wW x->b∉X:=fun b hb hg=>(zLU.1 hnd).2.2 b hg b (hR b hb) rfl;have hc:gh'.c w=gh.c w:=by
  rcases Fx.dq w hw.1 hw.2 with h | h
  .cases h with
   | same e1 e2 e3 e4=>exact e3
   | stolen y e1 e2 e3 e4=>exact e3
  .exact zm h.1 apart
 have hcell:∀a,z6 p w<a->a<z6 p w+p.Cap+2->ld s'.M a=ld s.M a:=by
  rcases Fx.dq w hw.1 hw.2 with h | h
  .cases h with
   | same e1 e2 e3 e4=>exact fun a h1 h2=>e4 a (by omega) h2
   | stolen y e1 e2 e3 e4=>exact e4
  .exact zm h.1 apart
 refine ⟨⟨fun e=>hc.trans (K.c0 e),K.bt,fun e=>Fx.pk hp hw.1 hw.2 apart (K.p0 e),fun e=>Fx.tk W.vic.1 W.vic.2 (K.p1 e),fun e=>?_,fun e=>?_,fun e=>?_⟩,?_⟩
 .obtain ⟨a,b,c⟩:=K.p2 e;have C:=W.c2 e;exact ⟨a,b,c.mv Y.L Fx.mv hsub (.inl C.h) (fun h _=>C.v h) (fun e2=>by have:=C.k;omega)⟩
 .obtain ⟨a,b,c,d⟩:=K.p4 e;have C:=W.c4 e;have hno:=hnot x.Bin (by unfold wW;rw [zb (.inr e)];simp);exact ⟨a,b,c,d.mv Y.L Fx.mv hsub (.inr C.h) (fun _ e2=>by have:=C.k;omega) (fun _=>⟨C.x.1,C.x.2,by rw [c];exact hno⟩)⟩
 .obtain ⟨a,b,c,d⟩:=K.p6 e;have M:=(W.g6 e).1;refine ⟨a.other hp Y Fx M (fun y hy=>hR y ?_) (fun _=>by rw [c];exact apart),b,c,d⟩;unfold wW;rw [zi,zb e];exact hy
 .unfold z5 UH;congr 1;by_cases e0:x.PC=0
  .rw [zb e0,zb e0];have P:=K.p0 e0;unfold Yy;have hpl:=(zuf hp hw.1 hw.2 P.base P.size (x.D.B-1#64)).2;rw [hcell _ (by rw [P.base] at hpl;omega) (by rw [P.base] at hpl;omega)]
  .rw [zc e0,zc e0];by_cases e3:x.PC=3
   .rw [zb e3,zb e3];have hb:=W.b3 e3;have hno:=hnot x.Bin (by unfold wW;rw [zb (.inl e3)];simp);unfold yT;rw [Fx.bn x.Bin hb.1 hno]
   .rw [zc e3,zc e3]
theorem zBl (s:za) (b:Int):Ud s b=yT s b:=by unfold Ud yT;rw [zKH]
theorem FX.mono {p:zd}{nb:Nat}{X:List Int}{O O':Int->Prop}{s s':za}{g g':Gh}(h:FX p nb X O s s' g g') (i:∀v,O v->O' v):FX p nb X O' s s' g g' :=
 ⟨h.mv,h.bn,fun v a b=>(h.dq v a b).imp id (fun e=>⟨i v e.1,e.2⟩),h.fb⟩
theorem uO {x:zj}(h3:x.PC≠3) (h4:x.PC≠4) (h6:x.PC≠6):wW x=[]:=by unfold wW;rw [zi,zc h6]
theorem zlA {x:zj}(h:x.PC=3\/x.PC=4):wW x=[x.Bin]:=by unfold wW;rw [zb h]
theorem zBo {x:zj}(h:x.PC=6):wW x=wT x.G:=by unfold wW;rw [zi,zb h]
theorem zF0 {s:za}{x:zj}(h:x.PC=0):UH s x=Yy s.M x.D:=by unfold UH;rw [zb h]
theorem zGr {s:za}{x:zj}(h:x.PC=3):UH s x=yT s x.Bin:=by unfold UH;rw [zi,zb h]
theorem Ve {s:za}{x:zj}(h:x.PC=5\/x.PC=8):UH s x=[x.Obj]:=by unfold UH;rw [zi,zi,zb h]
theorem zw9 {s:za}{x:zj}(h:x.PC=6):UH s x=x.Obj::yE x.G:=by unfold UH;rw [zi,zi,zi,zb h]
theorem Xc {s:za}{x:zj}(h:x.PC=1\/x.PC=2\/x.PC=4\/x.PC=7\/x.PC=9):UH s x=[]:=by unfold UH;rw [zi,zi,zi,zi]
def zl8 (p:zd) (nb k:Nat) (R:List Int) (gh:Gh) (s:za) (w:Int) (x:zj) (s':za) (x':zj):Prop :=
 ∃gh',SX p nb s' gh' (wW x'++R) (k+1)/\WX p s' gh' w x'/\FX p nb (wW x) (fun v=>v=w) s s' gh gh' /\
  ∃N B,List.Perm (yL p s' gh'++z5 s' x'++B) (N++(yL p s gh++z5 s x)) /\
   ((N=[]/\B=[]/\s'.T=s.T)\/(N=[x.G.Obj]/\B=[]/\x.PC=6/\¬(s.T.Marks|||bit x.G.Obj=s.T.Marks)/\s'.T={s.T with Marks:=s.T.Marks|||bit x.G.Obj})\/(N=[]/\B=[x.Obj]/\x.PC=8/\s'.T=xj s.T x.Obj))
theorem zl8.quiet {p:zd}{nb k:Nat}{R:List Int}{gh:Gh}{s s':za}{w:Int}{x x':zj}(X:SX p nb s gh (wW x++R) k) (S':SOk p nb s') (hm:s'.M=s.M) (hb:s'.Bins=s.Bins) (hT:s'.T=s.T)
  (ho:wW x'=wW x) (hh:List.Perm (z5 s' x') (z5 s x)) (W':WX p s' gh w x'):zl8 p nb k R gh s w x s' x' :=
 ⟨gh,by rw [ho];exact X.quiet S' hm,W',FX.quiet hm (fun _ _ _=>by rw [hb]),[],[],by rw [ZK hb,zKI];exact zKR _ hh,.inl ⟨rfl,rfl,hT⟩⟩
theorem zIa {p:zd}(hp:zI p) {nb k:Nat}{R:List Int}{gh:Gh}{s:za}{w:Int}{x:zj}(hk:k<4294960000) (hw:1<=w/\w<=p.Workers) (X:SX p nb s gh (wW x++R) k) (W:WOk p nb w x) (K:WX p s gh w x)
  (hH:∀o i,0<=zW s.H o i/\zW s.H o i<=64):zl8 p nb k R gh s w x (zu s w x).1 (zu s w x).2:=by
 have S':=(zDM hp hw X.S W).1;have hP:=X.S.P;have eL:∀y,Yn s.P w y=Yn p w y:=fun y=>by rw [hP]
 have eB:∀y,zay s.P w y=zay p w y:=fun y=>by rw [hP]
 have eC:zc4 s.P (zU s.P) x.Bin=zc4 p (zU p) x.Bin:=by rw [hP]
 have hpc:=W.pc;have hlen:=X.L.len;have hE:=vd hp;revert S';unfold zu;by_cases p01:x.PC=0\/x.PC=1
 .rw [zb p01];intro S';have S':SOk p nb {s with M:=(yj s.M x.D).1}:=S';have hl:=(zoi s.M x.D).1;have eo:wW x=[]:=uO (by omega) (by omega) (by omega);have hbt:=K.bt (by omega);rw [eo] at X;dsimp only;by_cases p0:x.PC=0
  .have K0:=K.p0 p0;have D0:=X.D w hw.1 hw.2;have hdk:=X.dk w hw.1 hw.2;obtain ⟨t',l',c',D',hm,V,hle,r⟩:=zA8 hp hw (by omega) D0 K0;have hc:=hp.cap;have hm':∀a,(a<z6 p w\/z6 p w+p.Cap+2<=a)->ld (yj s.M x.D).1 a=ld s.M a:=fun a ha=>hm a (by omega) (by omega);have X':=X.dq hp S' hl hw hm' D' (by omega);have Fx:FX p nb (wW x) (fun v=>v=w) s {s with M:=(yj s.M x.D).1} gh (VI gh w t' l' c'):=FX.own (O:=fun v=>v=w) (s:=s) (s':={s with M:=(yj s.M x.D).1}) (g:=gh) hp hw hm' rfl rfl V;obtain ⟨u,v,f1,f2⟩:=zrE (p:=p) (s:=s) (s':={s with M:=(yj s.M x.D).1}) (g:=gh) rfl hw (t:=t') (c:=c') (l:=l');have fin:∀x':zj,wW x'=[]->WX p {s with M:=(yj s.M x.D).1} (VI gh w t' l' c') w x'->List.Perm (l'++z5 {s with M:=(yj s.M x.D).1} x') (gh.D w++z5 s x)->zl8 p nb k R gh s w x {s with M:=(yj s.M x.D).1} x':=by
    intro x' a b c;refine ⟨_,by rw [a];exact X',b,Fx,[],[],?_,.inl ⟨rfl,rfl,rfl⟩⟩;rw [f1,f2,zKI,zKP];simp only [zKM];refine zKR _ ?_;refine (zK9 l' v _).trans (List.Perm.trans ?_ (zK9 v (gh.D w) _));exact zKR _ c
   have hh:z5 s x=Yy s.M x.D:=by unfold z5;rw [hbt,zF0 p0,zKP]
   rw [hh] at fin;rcases r with ⟨r1,r2,r3⟩ | ⟨r1,r2,r3⟩ | ⟨r1,r2,r3,r4,r5⟩
   .rw [r1,zc (by decide),zc (by decide)];refine fin _ (uO (by show x.PC≠3;omega) (by show x.PC≠4;omega) (by show x.PC≠6;omega)) ⟨fun e=>zm p0 e,fun _=>hbt,fun _=>?_,fun e=>by have e:x.PC=1:=e;omega,fun e=>by have e:x.PC=2:=e;omega,fun e=>by have e:x.PC=4:=e;omega,fun e=>by have e:x.PC=6:=e;omega⟩ ?_
    .rw [vg.1,vg.2.1,vg.2.2];exact r2
    .unfold z5;rw [zF0 (x:={x with D:=(yj s.M x.D).2}) p0];show List.Perm (l'++(x.Batch++Yy (yj s.M x.D).1 (yj s.M x.D).2)) _;rw [hbt,zKP];exact r3
   .rw [r1,zb rfl];refine fin _ (uO (by show (5:Int)≠3;decide) (by show (5:Int)≠4;decide) (by show (5:Int)≠6;decide)) (WX.plain (.inl rfl) (by rw [vg.2.2];exact r2)) ?_;unfold z5;rw [Ve (.inl rfl)];show List.Perm (l'++(x.Batch++[(yj s.M x.D).2.X])) _;rw [hbt,zKP];exact r3
   .rw [r1,zc (by decide),zb (.inl rfl),eL];obtain ⟨a,b,c⟩:=WX.look (p:=p) (s:={s with M:=(yj s.M x.D).1}) (gh:=VI gh w t' l' c') (w:=w) (x:={x with D:=(yj s.M x.D).2}) (by rw [vg.2.2];exact r2) hbt;refine fin _ c a ?_;unfold z5;rw [b,r3,r4,r5,show (Yn p w {x with D:=(yj s.M x.D).2}).Batch=x.Batch by unfold Yn;split<;>rfl,hbt];exact zK8 _
  .have p1:x.PC=1:=by omega
   have K1:=K.p1 p1;have hv:=W.vic;have hc0:=K.c0 p0;have D0:=X.D x.Victim hv.1 hv.2;have hdk:=X.dk x.Victim hv.1 hv.2;have hh:z5 s x=[]:=by unfold z5;rw [hbt,Xc (.inl p1)];rfl
   rcases zE3 hp hv (by omega) D0 K1 with ⟨hm,r⟩ | ⟨y,l',e1,e2,e3,e4,e5⟩
   .have S2:=S';have q:∀x':zj,wW x'=[]->z5 {s with M:=(yj s.M x.D).1} x'=[]->WX p {s with M:=(yj s.M x.D).1} gh w x'->zl8 p nb k R gh s w x {s with M:=(yj s.M x.D).1} x' :=
     fun x' a b c=>.quiet (by rw [eo];exact X) S' hm rfl rfl (by rw [a,eo]) (by rw [b,hh]) c
    rcases r with ⟨r1,r2⟩ | r
    .rw [r1,zc (by decide),zc (by decide)];refine q _ (uO (by show x.PC≠3;omega) (by show x.PC≠4;omega) (by show x.PC≠6;omega)) ?_ ⟨fun _=>hc0,fun _=>hbt,fun e=>zm e p0,fun _=>?_,fun e=>by have e:x.PC=2:=e;omega,fun e=>by have e:x.PC=4:=e;omega,fun e=>by have e:x.PC=6:=e;omega⟩
     .unfold z5;rw [Xc (x:={x with D:=(yj s.M x.D).2}) (.inl p1)];show x.Batch++[]=[]
      rw [hbt];rfl
     .show TK p (yj s.M x.D).1 _ _ _ _;rw [hm];exact r2
    .rw [zi,zb r,eL];obtain ⟨a,b,c⟩:=WX.look (p:=p) (s:={s with M:=(yj s.M x.D).1}) (gh:=gh) (w:=w) (x:={x with D:=(yj s.M x.D).2}) hc0 hbt;refine q _ c ?_ a;unfold z5;rw [b,show (Yn p w {x with D:=(yj s.M x.D).2}).Batch=x.Batch by unfold Yn;split<;>rfl,hbt];rfl
   .have hc:=hp.cap;have hm':∀a,(a<z6 p x.Victim\/z6 p x.Victim+p.Cap+2<=a)->ld (yj s.M x.D).1 a=ld s.M a:=fun a ha=>e5 a (by omega);have X':=X.dq hp S' hl hv hm' e4 (by rw [e1] at hdk;simp at hdk;omega);obtain ⟨h1,h2⟩:=zxX hp hv hm';obtain ⟨u,v,f1,f2⟩:=zrE (p:=p) (s:=s) (s':={s with M:=(yj s.M x.D).1}) (g:=gh) rfl hv (t:=gh.t x.Victim+1) (c:=gh.c x.Victim) (l:=l');rw [e2,zb rfl];refine ⟨VI gh x.Victim (gh.t x.Victim+1) l' (gh.c x.Victim),by rw [uO (by show (5:Int)≠3;decide) (by show (5:Int)≠4;decide) (by show (5:Int)≠6;decide)];exact X',WX.plain (.inl rfl) ?_,⟨Mv.low hp h1,fun _ _ _=>rfl,fun v' a b=>.inl ?_,fun _ h=>.inl h⟩,[],[],?_,.inl ⟨rfl,rfl,rfl⟩⟩
    .by_cases e:w=x.Victim
     .rw [e,vg.2.2,<-e];exact hc0
     .rw [(XJ e).2.2];exact hc0
    .by_cases e:v'=x.Victim
     .subst e;exact .stolen y vg.2.1 (by rw [vg.1];exact e1) vg.2.2 (fun a h1 _=>e5 a (by omega))
     .exact .same (XJ e).2.1 (XJ e).1 (XJ e).2.2 (h2 v' a b e)
    .rw [f1,f2,hh,zKI,zKI,zKP,e1];unfold z5;rw [Ve (.inl rfl)];show List.Perm (u++l'++v++(x.Batch++[(yj s.M x.D).2.X])) _;rw [hbt,zKP,e3];simp only [zKM];refine zKR _ ?_;show List.Perm (l'++(v++[y])) (y::(l'++v));rw [<-zKM];exact zLs
 rw [zc p01];have hc0:=K.c0 (by omega);by_cases p2:x.PC=2
 .rw [zb p2];intro S';have S':SOk p nb {s with M:=(zC s.M x.C).1}:=S';have C:=W.c2 p2;obtain ⟨c1,c2,c3⟩:=K.p2 p2;have hbt:=K.bt (by omega);have eo:wW x=[]:=uO (by omega) (by omega) (by omega);have hh:z5 s x=[]:=by unfold z5;rw [hbt,Xc (.inr (.inl p2))];rfl
  dsimp only;rcases SX.popF hp X hk C.k C.h C.n c1 c2 c3 C.v S' with ⟨a,b,c,d⟩ | ⟨y,l,a,b,c,d,e⟩
  .rw [zc b];have hout:=zcW s.M c1 c2 (.inr C.k);by_cases o2:(zC s.M x.C).2.Out=2
   .rw [zb o2,eB];refine .quiet X S' a rfl rfl ?_ ?_ (WX.begin hc0 hbt)
    .rw [eo];exact uO (by show (0:Int)≠3;decide) (by show (0:Int)≠4;decide) (by show (0:Int)≠6;decide)
    .unfold z5;rw [zkA,show (zay p w {x with C:=(zC s.M x.C).2}).Batch=x.Batch from rfl];rw [hbt,Xc (.inr (.inl p2))]
   .rw [zc o2];have hpc':(zC s.M x.C).2.Out=0/\0<=(zC s.M x.C).2.PC/\(zC s.M x.C).2.PC<=2:=by omega
    refine .quiet X S' a rfl rfl ?_ ?_ ⟨fun _=>hc0,fun _=>hbt,fun e=>by have e:x.PC=0:=e;omega,fun e=>by have e:x.PC=1:=e;omega,fun _=>⟨hpc'.1,hpc'.2,?_⟩,fun e=>by have e:x.PC=4:=e;omega,fun e=>by have e:x.PC=6:=e;omega⟩
    .rw [eo];exact uO (by show x.PC≠3;omega) (by show x.PC≠4;omega) (by show x.PC≠6;omega)
    .unfold z5;rw [Xc (x:={x with C:=(zC s.M x.C).2}) (.inr (.inl p2)),Xc (.inr (.inl p2))]
    .rw [show ({s with M:=(zC s.M x.C).1}:za).M=s.M from a];exact c
  .rw [zb b];have e1:wW {x with C:=(zC s.M x.C).2,Bin:=(zC s.M x.C).2.X,PC:=3}=[y]:=by rw [<-c];exact zlA (x:={x with C:=(zC s.M x.C).2,Bin:=(zC s.M x.C).2.X,PC:=3}) (.inl rfl)
   refine ⟨{gh with F:=l},by rw [e1];rw [eo] at d;exact d,⟨fun _=>hc0,fun _=>hbt,fun e=>(by cases e),fun e=>(by cases e),fun e=>(by cases e),fun e=>(by cases e),fun e=>(by cases e)⟩,e _ _,[],[],?_,.inl ⟨rfl,rfl,rfl⟩⟩;rw [hh,zKI,zKI,zKP];unfold z5;rw [zGr (x:={x with C:=(zC s.M x.C).2,Bin:=(zC s.M x.C).2.X,PC:=3}) rfl];show List.Perm (yL p s {gh with F:=l}++(x.Batch++yT s (zC s.M x.C).2.X)) _;rw [hbt,zKP,c];have:yL p s gh=yT s y++yL p s {gh with F:=l}:=by unfold yL;rw [a];simp [zKM]
   rw [this];exact zLs
 rw [zc p2];by_cases p3:x.PC=3
 .rw [zb p3];intro S';have hb:=W.b3 p3;have hbt:=K.bt (by omega);have eo:wW x=[x.Bin]:=zlA (.inl p3);rw [eC];have e1:wW {x with Batch:=Ud s x.Bin,PC:=4,C:=zc4 p (zU p) x.Bin}=[x.Bin]:=zlA (x:={x with Batch:=Ud s x.Bin,PC:=4,C:=zc4 p (zU p) x.Bin}) (.inr rfl);have hget:∀b,1<=b->b∉wW x->(s.Bins.set x.Bin.toNat [])[b.toNat]? =s.Bins[b.toNat]? :=fun b b1 b2=>by
   rw [zLf];intro e;rw [eo] at b2;exact b2 (by rw [show b=x.Bin by omega];simp)
  refine ⟨gh,by rw [e1,<-eo];exact X.quiet S' rfl,⟨fun _=>hc0,fun e=>zm e (by show ¬(4:Int)<=3;decide),fun e=>(by cases e),fun e=>(by cases e),fun e=>(by cases e),fun _=>⟨rfl,⟨by show (0:Int)<=0;decide,by show (0:Int)<=2;decide⟩,rfl,CK.start⟩,fun e=>(by cases e)⟩,FX.quiet rfl hget,[],[],?_,.inl ⟨rfl,rfl,rfl⟩⟩;have hbag:yL p {s with Bins:=s.Bins.set x.Bin.toNat []} gh=yL p s gh:=by
   unfold yL;congr 1;refine wi (fun b hb=>?_);have hm:=X.L.cF.mem b hb;have hno:=(X.L.notF (x:=x.Bin) (by rw [eo];simp)).1;unfold yT;rw [show ({s with Bins:=s.Bins.set x.Bin.toNat []}:za).Bins=s.Bins.set x.Bin.toNat [] from rfl,hget b hm.1 (by rw [eo];intro e;rw [zLr.1 e] at hb;exact hno hb)]
  rw [hbag,zKI,zKP];unfold z5;rw [zGr p3,Xc (x:={x with Batch:=Ud s x.Bin,PC:=4,C:=zc4 p (zU p) x.Bin}) (.inr (.inr (.inl rfl)))];show List.Perm (yL p s gh++(Ud s x.Bin++[])) _;rw [hbt,zKI,zKP,zBl]
 rw [zc p3];by_cases p4:x.PC=4
 .rw [zb p4];intro S';have S':SOk p nb {s with M:=(zC s.M x.C).1}:=S';have C:=W.c4 p4;obtain ⟨c1,c2,c3,c4⟩:=K.p4 p4;have eo:wW x=[x.Bin]:=zlA (.inr p4);have hh:z5 s x=x.Batch:=by unfold z5;rw [Xc (.inr (.inr (.inl p4))),zKI]
  rw [eo] at X;dsimp only;rcases SX.pushE hp (o1:=[]) (o2:=R) (b:=x.Bin) X hk C.k C.h C.n c3 c1 c2 c4 C.v S' with ⟨a,b,c,d⟩ | ⟨a,b,d⟩
  .rw [a,zc (by decide)];have hout:=zcW s.M c1 c2 (.inl C.k);have hsame:=zog s.M x.C;have hpc':0<=(zC s.M x.C).2.PC/\(zC s.M x.C).2.PC<=2:=by omega
   have e1:wW {x with C:=(zC s.M x.C).2}=[x.Bin]:=zlA (x:={x with C:=(zC s.M x.C).2}) (.inr p4);refine ⟨gh,by rw [e1];exact b,⟨fun _=>hc0,fun e=>by have e:x.PC<=3:=e;omega,fun e=>by have e:x.PC=0:=e;omega,fun e=>by have e:x.PC=1:=e;omega,fun e=>by have e:x.PC=2:=e;omega,fun _=>⟨a,hpc',(hsame.2.2.2 C.k).trans c3,c⟩,fun e=>by have e:x.PC=6:=e;omega⟩,by rw [eo];exact d _ _ (by simp),[],[],?_,.inl ⟨rfl,rfl,rfl⟩⟩;rw [ZK rfl,hh,zKI];unfold z5;rw [Xc (x:={x with C:=(zC s.M x.C).2}) (.inr (.inr (.inl p4))),zKI];exact zK8 _
  .rw [a,zb rfl];refine ⟨{gh with E:=x.Bin::gh.E},by rw [uO (by show (7:Int)≠3;decide) (by show (7:Int)≠4;decide) (by show (7:Int)≠6;decide)];exact b,WX.plain (.inr (.inl rfl)) hc0,by rw [eo];exact d _ _,[],[],?_,.inl ⟨rfl,rfl,rfl⟩⟩;rw [hh,zKI];unfold z5;rw [Xc (.inr (.inr (.inr (.inl rfl)))),zKI];exact zK8 _
 rw [zc p4];by_cases p5:x.PC=5
 .rw [zb p5];intro S';have eo:wW x=[]:=uO (by omega) (by omega) (by omega);have hv:=hH x.Obj x.Slot;dsimp only;split
  .rcases zlN s (wc (x.Slot+1)) with e | e<;>rw [e]
   .refine .quiet X S' rfl rfl rfl (by rw [eo];exact uO (by show (5:Int)≠3;decide) (by show (5:Int)≠4;decide) (by show (5:Int)≠6;decide)) ?_ (WX.plain (.inl rfl) hc0);unfold z5;rw [Ve (.inl p5),Ve (.inl rfl)]
   .refine .quiet X S' rfl rfl rfl (by rw [eo];exact uO (by show (8:Int)≠3;decide) (by show (8:Int)≠4;decide) (by show (8:Int)≠6;decide)) ?_ (WX.plain (.inr (.inr (.inl rfl))) hc0);unfold z5;rw [Ve (.inl p5),Ve (.inr rfl)]
  .rename_i hne;have e0:(YG 1 (zW s.H x.Obj x.Slot) w).PC=0:=rfl;refine .quiet X S' rfl rfl rfl ?_ ?_ ⟨fun _=>hc0,fun e=>zm e (by show ¬(6:Int)<=3;decide),fun e=>(by cases e),fun e=>(by cases e),fun e=>(by cases e),fun e=>(by cases e),fun _=>⟨GX.plain (.inl rfl) ⟨by show (0:Int)<=0;decide,by show (0:Int)<=7;decide⟩ ⟨by show (1:Int)<=1;decide,by show (1:Int)<=3;decide⟩ ⟨by show 1<=zW s.H x.Obj x.Slot;omega,hv.2⟩ (fun _ _=>hc0) (.inr ⟨by show (0:Int)≠3;decide,by show (0:Int)≠5;decide,by show (0:Int)≠7;decide⟩),rfl,rfl,rfl⟩⟩
   .rw [eo,zBo (x:={x with Slot:=wc (x.Slot+1),PC:=6,G:=YG 1 (zW s.H x.Obj x.Slot) w}) rfl];exact v9 (.inr ⟨by show (0:Int)≠6;decide,by show (0:Int)≠7;decide⟩)
   .unfold z5;rw [Ve (.inl p5),zw9 (x:={x with Slot:=wc (x.Slot+1),PC:=6,G:=YG 1 (zW s.H x.Obj x.Slot) w}) rfl];rw [Ya (g:=YG 1 (zW s.H x.Obj x.Slot) w) (.inr (.inl (by show (0:Int)<3;decide)))]
 rw [zc p5];by_cases p6:x.PC=6
 .rw [zb p6];intro S';obtain ⟨G,gm,gw,g0⟩:=K.p6 p6;obtain ⟨M,h5o,_,hn4⟩:=W.g6 p6;have eo:wW x=wT x.G:=zBo p6;have hh:z5 s x=x.Batch++x.Obj::yE x.G:=by unfold z5;rw [zw9 p6]
  rw [eo] at X;obtain ⟨gh',X',G',Fx,hc',hFb,N,hN,hT⟩:=zEa hp hk X M h5o G;have so:=za8 s x.G;have Fx':FX p nb (wW x) (fun v=>v=w) s (zG s x.G).1 gh gh':=by
   rw [eo];exact Fx.mono (fun v e=>e.2.trans gw)
  have hcw:gh'.c w=0:=by have:=hc' gm g0;rwa [gw] at this
  dsimp only;have hT':(N=[]/\([]:List Int)=[]/\(zG s x.G).1.T=s.T)\/(N=[x.G.Obj]/\([]:List Int)=[]/\x.PC=6/\¬(s.T.Marks|||bit x.G.Obj=s.T.Marks)/\(zG s x.G).1.T={s.T with Marks:=s.T.Marks|||bit x.G.Obj})\/(N=[]/\([]:List Int)=[x.Obj]/\x.PC=8/\(zG s x.G).1.T=xj s.T x.Obj):=by
   rcases hT with ⟨a,b⟩ | ⟨a,b,c⟩
   .exact .inl ⟨a,rfl,b⟩
   .exact .inr (.inl ⟨a,rfl,p6,b,c⟩)
  have perm:∀H':List Int,H'=x.Batch++x.Obj::yE (zG s x.G).2->List.Perm (yL p (zG s x.G).1 gh'++H'++[]) (N++(yL p s gh++z5 s x)):=by
   intro H' e;rw [e,hh,zKI];have a1:List.Perm (yL p (zG s x.G).1 gh'++(x.Batch++x.Obj::yE (zG s x.G).2)) ((x.Batch++[x.Obj])++(yL p (zG s x.G).1 gh'++yE (zG s x.G).2)):=by
    rw [show x.Batch++x.Obj::yE (zG s x.G).2=(x.Batch++[x.Obj])++yE (zG s x.G).2 by simp];exact zK9 _ _ _
   have a2:List.Perm (N++(yL p s gh++(x.Batch++x.Obj::yE x.G))) ((x.Batch++[x.Obj])++(N++(yL p s gh++yE x.G))):=by
    rw [show x.Batch++x.Obj::yE x.G=(x.Batch++[x.Obj])++yE x.G by simp];exact (zKR N (zK9 _ _ _)).trans (zK9 _ _ _)
   exact a1.trans ((zKR _ hN).trans a2.symm)
  split
  .rename_i o1;have n1:wT (zG s x.G).2=[]:=v9 (.inl (by omega));have n2:yE (zG s x.G).2=[]:=Ya (.inl (by omega));rw [n1] at X';rcases zlN s x.Slot with e | e<;>rw [e]
   .refine ⟨gh',by rw [uO (by show (5:Int)≠3;decide) (by show (5:Int)≠4;decide) (by show (5:Int)≠6;decide)];exact X',WX.plain (.inl rfl) hcw,Fx',N,[],perm _ ?_,hT'⟩;unfold z5;rw [Ve (.inl rfl),n2]
   .refine ⟨gh',by rw [uO (by show (8:Int)≠3;decide) (by show (8:Int)≠4;decide) (by show (8:Int)≠6;decide)];exact X',WX.plain (.inr (.inr (.inl rfl))) hcw,Fx',N,[],perm _ ?_,hT'⟩;unfold z5;rw [Ve (.inr rfl),n2]
  .rename_i o1;have o0:(zG s x.G).2.Out=0:=by have:=G'.o;omega
   refine ⟨gh',by rw [zBo (x:={x with G:=(zG s x.G).2}) p6];exact X',⟨fun _=>hcw,fun e=>by have e:x.PC<=3:=e;omega,fun e=>by have e:x.PC=0:=e;omega,fun e=>by have e:x.PC=1:=e;omega,fun e=>by have e:x.PC=2:=e;omega,fun e=>by have e:x.PC=4:=e;omega,fun _=>⟨G',so.2.2.trans gm,so.2.1.trans gw,o0⟩⟩,Fx',N,[],perm _ ?_,hT'⟩;unfold z5;rw [zw9 (x:={x with G:=(zG s x.G).2}) p6]
 rw [zc p6];have eo:wW x=[]:=uO (by omega) (by omega) (by omega);by_cases p7:x.PC=7
 .rw [zb p7];intro S';dsimp only;split
  .rename_i hb;rw [eB];refine .quiet X S' rfl rfl rfl (by rw [eo];exact uO (by show (0:Int)≠3;decide) (by show (0:Int)≠4;decide) (by show (0:Int)≠6;decide)) ?_ (WX.begin hc0 hb);unfold z5;rw [zkA,Xc (.inr (.inr (.inr (.inl p7))))];exact zK8 _
  .rename_i o l hb;refine .quiet X S' rfl rfl rfl (by rw [eo];exact uO (by show (5:Int)≠3;decide) (by show (5:Int)≠4;decide) (by show (5:Int)≠6;decide)) ?_ (WX.plain (.inl rfl) hc0);unfold z5;rw [Ve (.inl rfl),Xc (.inr (.inr (.inr (.inl p7)))),hb,zKI];exact zLs
 rw [zc p7];by_cases p8:x.PC=8
 .rw [zb p8];intro S';refine ⟨gh,by rw [uO (by show (9:Int)≠3;decide) (by show (9:Int)≠4;decide) (by show (9:Int)≠6;decide)];rw [eo] at X;exact X.quiet S' rfl,WX.plain (.inr (.inr (.inr rfl))) hc0,FX.quiet rfl (fun _ _ _=>rfl),[],[x.Obj],?_,.inr (.inr ⟨rfl,rfl,p8,rfl⟩)⟩;rw [ZK rfl,zKP];unfold z5;rw [Ve (.inr p8),Xc (.inr (.inr (.inr (.inr rfl)))),zKI,zKM];exact zK8 _
 rw [zc p8];have p9:x.PC=9:=by omega
 rw [zb p9];intro S';refine .quiet X S' rfl rfl rfl (by rw [eo];exact uO (by show (7:Int)≠3;decide) (by show (7:Int)≠4;decide) (by show (7:Int)≠6;decide)) ?_ (WX.plain (.inr (.inl rfl)) hc0);unfold z5;rw [Xc (.inr (.inr (.inr (.inr p9)))),Xc (.inr (.inr (.inr (.inl rfl))))]
theorem zvl (s:za) (w:Int) (x:zj) (h:(zu s w x).2.PC=6):(x.PC=6/\(zu s w x).2.G.Obj=x.G.Obj)\/(x.PC=5/\(zu s w x).2.G.Obj=zW s.H x.Obj x.Slot):=by
 revert h;have hon:∀i,onW s i≠6:=fun i e=>by rcases zlN s i with h | h<;>omega
 have hlk:∀y:zj,(Yn s.P w y).PC≠6:=fun y e=>by unfold Yn at e;split at e<;>cases e
 unfold zu;split
 .rename_i h0;dsimp only;split
  .exact fun e=>by cases e
  split
  .exact fun e=>zm e (hlk _)
  .exact fun e=>by have e:x.PC=6:=e;omega
 split
 .dsimp only;split
  .exact fun e=>by cases e
  split
  .exact fun e=>by cases e
  .exact fun e=>by have e:x.PC=6:=e;omega
 split
 .exact fun e=>by cases e
 split
 .dsimp only;split
  .exact fun e=>by cases e
  .exact fun e=>by have e:x.PC=6:=e;omega
 split
 .rename_i h5;dsimp only;split
  .exact fun e=>zm e (hon _)
  .exact fun _=>.inr ⟨h5,rfl⟩
 split
 .rename_i h6;dsimp only;split
  .exact fun e=>zm e (hon _)
  .exact fun _=>.inl ⟨h6,(za8 s x.G).1⟩
 split
 .dsimp only;split
  .exact fun e=>by cases e
  .exact fun e=>by cases e
 split
 .exact fun e=>by cases e
 split
 .exact fun e=>by cases e
 .exact fun e=>.inl ⟨e,rfl⟩
theorem zxI {o:Int}(h:1<=o/\o<=64) (j:Nat):(bit o).getLsbD j=decide ((o-1).toNat=j):=by
 unfold bit;rw [zb h,<-BitVec.twoPow_eq,BitVec.getLsbD_twoPow,zw (by omega:(o-1).toNat<64),zLD]
theorem xL (s:BitVec 64) (o:Int):zP s o=true↔1<=o/\o<=64/\s.getLsbD (o-1).toNat=true:=by
 unfold zP;rw [zKX,decide_eq_false_iff_not];by_cases h:1<=o/\o<=64
 .constructor
  .intro h1;refine ⟨h.1,h.2,Classical.byContradiction (fun h2=>h1 ?_)⟩;apply zL9;intro j hj;rw [zLT,zxI h,zMa];by_cases e:(o-1).toNat=j
   .rw [<-e];simp only [Bool.not_eq_true] at h2;rw [h2];rfl
   .rw [zL e,Bool.and_false]
  .rintro ⟨_,_,h1⟩ h2;have:=congrArg (fun v=>BitVec.getLsbD v (o-1).toNat) h2;simp only [zLT,zxI h,h1,zMa] at this;simp at this
 .constructor
  .intro h1;exact zm (by unfold bit;rw [zc h,BitVec.and_zero]) h1
  .rintro ⟨a,b,_⟩;exact zm ⟨a,b⟩ h
theorem yO (s:BitVec 64) {o:Int}(h:1<=o/\o<=64) (q:Int):zP (s|||bit o) q=true↔zP s q=true\/q=o:=by
 rw [xL,xL,BitVec.getLsbD_or,zxI h];simp only [zLO,decide_eq_true_eq];constructor
 .rintro ⟨a,b,c | c⟩
  .exact .inl ⟨a,b,c⟩
  .exact .inr (by omega)
 .rintro (⟨a,b,c⟩ | rfl)
  .exact ⟨a,b,.inl c⟩
  .exact ⟨h.1,h.2,.inr rfl⟩
theorem vr (s t:BitVec 64) (q:Int):zP (s&&&t) q=true↔zP s q=true/\zP t q=true:=by
 rw [xL,xL,xL,zLT];simp only [zKF];constructor
 .rintro ⟨a,b,c,d⟩;exact ⟨⟨a,b,c⟩,a,b,d⟩
 .rintro ⟨⟨a,b,c⟩,_,_,d⟩;exact ⟨a,b,c,d⟩
theorem Yj (q:Int): ¬zP 0#64 q=true:=by
 rw [xL,zMa];exact fun h=>by cases h.2.2
theorem zhQ {s t:BitVec 64}(h:∀o,zP s o=true↔zP t o=true):s=t:=by
 apply zL9;intro j hj;have:=h ((j:Int)+1);rw [xL,xL,show ((j:Int)+1-1).toNat=j by omega] at this;rw [Bool.eq_iff_iff];exact ⟨fun e=>(this.1 ⟨by omega,by omega,e⟩).2.2,fun e=>(this.2 ⟨by omega,by omega,e⟩).2.2⟩
theorem uJ {m:BitVec 64}{o:Int}(h:1<=o/\o<=64): ¬(m|||bit o=m)↔¬zP m o=true:=by
 constructor
 .intro h1 h2;refine h1 (zhQ (fun q=>?_));rw [yO _ h];exact ⟨fun e=>e.elim id (fun e=>by rw [e];exact h2),.inl⟩
 .intro h1 h2;refine h1 ?_;rw [<-h2,yO _ h];exact .inr rfl
theorem w8 (t:zn) (o:Int):yp t o=1↔zP t.Marks o=true/\¬zP t.Black o=true:=by
 unfold yp;by_cases h1:zP (t.Marks&&&t.Black) o=true
 .rw [zb h1];rw [vr] at h1;exact ⟨fun e=>(by cases e),fun e=>zm h1.2 e.2⟩
 .rw [zc h1];rw [vr] at h1;by_cases h2:zP t.Marks o=true
  .rw [zb h2];exact ⟨fun _=>⟨h2,fun e=>h1 ⟨h2,e⟩⟩,fun _=>rfl⟩
  .rw [zc h2];exact ⟨fun e=>(by cases e),fun e=>zm e.1 h2⟩
end
end Go.Pe.G
