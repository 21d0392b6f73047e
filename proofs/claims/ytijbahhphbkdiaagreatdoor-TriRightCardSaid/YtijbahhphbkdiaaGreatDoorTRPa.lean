/- Own work of this seat: PA, PB, PMk, PMade20, PRight, PNew, PInv, PNewOk, PDq, PWork, PMut, PSmall, PEng, PLowEq, PMutEq, PDetEq, PWorkEq, PFrame, PGo, PEngEq, PPicks20, PFold, PSort, PDq2, PChain, PStrong, PGstep. -/
import Derived.Test.YtijbahhphbkdiaaGreatDoorTRGa
import Derived.Test.YtijbahhphbkdiaaGreatDoorTRGb
set_option linter.unusedVariables false
set_option linter.unusedSimpArgs false
set_option linter.unnecessarySimpa false
set_option linter.unusedSectionVars false
set_option linter.deprecated false
set_option maxRecDepth 20000
open BitVec renaming toNat_ofInt → zLo, toNat_and → zLz, getLsbD_and → zLJ, eq_of_toNat_eq → zLN, eq_of_getLsbD_eq → zL0, getLsbD_zero → zL1, toInt_eq_toNat_cond → zL5, getLsbD_not → zMb, ofNat → zMq, ofInt → zMs
open Bool renaming and_eq_true → zKu, not_true → zKI, true_and → zLu, or_eq_true → zLD
open Int renaming le_refl → zKW, toNat_natCast → zLd
open List renaming getElem?_eq_getElem → zKv, getD_eq_getElem?_getD → zKw, append_nil → zKx, mem_of_getElem? → zKy, mem_cons_of_mem → zKA, getElem?_eq_some_iff → zKC, append_assoc → zKD, mem_map → zKE, nil_append → zKG, length_append → zKH, mem_cons_self → zKJ, length_cons → zKM, mem_cons → zKN, mem_append_left → zKO, getElem?_set_ne → zKP, getElem_mem → zKR, mem_append → zKS, length_set → zKV, getElem?_append_left → zKZ, getElem?_map → zK1, mem_append_right → zK2, getElem?_append_right → zK3, drop_eq_getElem_cons → zK4, mem_range → zK6, length_replicate → zLa, getElem?_set_self → zLb, mem_singleton → zLf, getElem?_set → zLg, eq_nil_of_length_eq_zero → zLi, mem_or_eq_of_mem_set → zLj, foldl_cons → zLk, flatMap_cons → zLl, perm_append_comm → zLm, length_map → zLq, getElem?_cons_zero → zLy, getElem?_eq_none → zLC, length_take → zLF, length_filter_le → zLI, nodup_append → zLK, length_drop → zLM, pairwise_cons → zLO, getElem?_replicate → zLP, take_add_one → zLQ, mem_of_mem_take → zLT, range_succ → zLU, flatMap_append → zLV, drop_eq_nil_of_le → zL4, take_length → zMa, length_singleton → zMl, getElem_append_left → zMm, replicate → zMr, range → zMt, Perm → zMu
open List.Perm renaming append_left → zKK, refl → zKX
open Nat renaming le_refl → zKz, lt_or_ge → zK5, add_zero → zLe, mul_one → zLs, le_trans → zLB, add_assoc → zLL, mul_le_mul → zLW, lt_of_le_of_lt → zMc, and_two_pow_sub_one_eq_mod → zMo
open Option renaming bind_some → zKt
namespace Go.Pe.G
open Go.Pe
noncomputable section
theorem wN {A B D:Type}{f:A->Option (yL A B D)}(Inv:A->Prop) (ms:A->Nat) (Q:yL Unit B D->Prop)
  (h:∀a,Inv a->∃o,f a=some o/\match o with
   | .again a'=>Inv a'/\ms a'<ms a
   | .brk b=>Q (.brk b)
   | .ret c=>Q (.ret c)):∀a,Inv a->ms a<vZ->∃o,yf f a=some o/\Q o:=by
 have key:∀(n:Nat) a,Inv a->ms a<n->∃o,yZ f n a=some o/\Q o:=by
  intro n
  induction n with
  | zero=>intro a _ h;omega
  | succ n ih =>
   intro a ha hm;obtain ⟨o,ho,hq⟩:=h a ha;simp only [yZ,ho,zKt];cases o with
   | again a'=>exact ih a' hq.1 (by have:=hq.2;omega)
   | brk b=>exact ⟨_,rfl,hq⟩
   | ret c=>exact ⟨_,rfl,hq⟩
 intro a ha hm;rw [Xh];exact key vZ a ha hm
theorem ui {n:Nat}(h:n<18446744073709551616):n<vZ:=h
theorem yb {a:Int}(h: -9223372036854775808<=a:=by omega) (h2:a<9223372036854775808:=by omega):w64 a=a:=by
 rw [zs7];omega
def wc (n:Int):Int:=(n+9223372036854775808)%18446744073709551616-9223372036854775808
theorem xV:w64=wc:=funext zs7
theorem xq {a:Int}(h: -9223372036854775808<=a:=by omega) (h2:a<9223372036854775808:=by omega):wc a=a:=by unfold wc;omega
theorem zp {α:Type}(p:Prop) [Decidable p] (a b:α):(bif decide p then a else b)=if p then a else b:=by
 by_cases h:p<;>simp [h]
theorem yq {α:Type}(p:Prop) [Decidable p] (a b:α):(bif !(decide p) then a else b)=if p then b else a:=by
 by_cases h:p<;>simp [h]
theorem yQ {α:Type}{l:List α}(h:l.length<4294967296:=by omega):yD l=some l:=by
 rw [zus];simp [h]
theorem v8 {α:Type}{l:List α}{i:Int}(h:0<=i:=by omega):idx l i=l[i.toNat]? :=by
 unfold idx;simp [h]
theorem vS {α:Type}{l:List α}{i:Int}(h:0<=i:=by omega) (h2:i<l.length:=by omega):wj l i=some i.toNat:=by
 unfold wj;simp [h,h2]
def bit (o:Int):BitVec 64:=if 1<=o/\o<=64 then 1#64 <<< (o-1).toNat else 0#64
theorem zDq (a:Int):zn6 a=some (bit a,()):=by
 rw [zBh];simp only [zp];unfold bit;by_cases h1:a<1
 .rw [zb h1,zk]
 .rw [zc h1];by_cases h2:64<a
  .rw [zb h2,zk]
  .rw [zc h2,yb (a:=a-1) (by omega) (by omega),zc (show ¬a-1<0 by omega),zb (show 1<=a/\a<=64 by omega),Nat.min_eq_left (by omega)]
theorem zlw (s:BitVec 64) (o:Int):zcw s o=some (!(decide (s&&&bit o=0#64)),()):=by
 rw [zCu,zDq];rfl
theorem zhY (s:BitVec 64) (o:Int):YS s o=some (s|||bit o,()):=by
 rw [zA8,zDq];rfl
def wv (t:zx) (o:Int):zx×Bool :=
 if t.Marks|||bit o=t.Marks then (t,false) else if t.Black&&&bit o=0#64 then ({t with Marks:=t.Marks|||bit o},true) else (t,false)
theorem zkT (t:zx) (o:Int):zcJ t o=some ((wv t o).1,(wv t o).2,()):=by
 rw [zvM,zhY,zKt,zp];unfold wv;by_cases h1:t.Marks|||bit o=t.Marks
 .rw [zb h1,zb h1]
 .rw [zc h1,zc h1,zlw,zKt,yq];by_cases h2:t.Black&&&bit o=0#64
  .rw [zb h2,zb h2]
  .rw [zc h2,zc h2]
theorem zzh {m:List (BitVec 64)}(h:m.length<4294967296):wA m=some (m,()):=by
 rw [zeP,zKG,yQ h,zKt];cases m with
 | nil=>simp [zfm]
 | cons a l=>simp
theorem zlk {m:List (List Int)}(h:m.length<4294967296):vv m=some (m,()):=by
 rw [zhz,zKG,yQ h,zKt];cases m with
 | nil=>simp [zfm]
 | cons a l=>simp
def ld (m:List (BitVec 64)) (a:Int):BitVec 64:=if 0<=a then m.getD a.toNat 0#64 else 0#64
def st (m:List (BitVec 64)) (a:Int) (v:BitVec 64):List (BitVec 64):=if 0<=a then m.set a.toNat v else m
def sw (m:List (BitVec 64)) (at_:Int) (a b:BitVec 64):List (BitVec 64)×Bool :=
 if 0<=at_/\at_<m.length/\ld m at_=a then (st m at_ b,true) else (m,false)
theorem zAA {m:List (BitVec 64)}{a:Int}(h:0<=a) (h2:a<m.length):m[a.toNat]? =some (ld m a):=by
 unfold ld;rw [zb h,zKw,zKv (by omega)];rfl
theorem zDP {m:List (BitVec 64)}{a:Int}:st m a (ld m a)=m:=by
 unfold st ld;by_cases h:0<=a
 .rw [zb h,zb h];by_cases h2:a.toNat<m.length
  .rw [zKw,zKv h2];simp
  .rw [List.set_eq_of_length_le (by omega)]
 .rw [zc h]
theorem zFH {m:List (BitVec 64)}{a:Int}(h:a<0\/m.length<=a):ld m a=0#64:=by
 unfold ld;rcases h with h | h
 .rw [zk]
 .split
  .rw [zKw,zLC (by omega)];rfl
  .rfl
theorem zGC {m:List (BitVec 64)}{a:Int}{v:BitVec 64}(h:a<0\/m.length<=a):st m a v=m:=by
 unfold st;rcases h with h | h
 .rw [zk]
 .split
  .rw [List.set_eq_of_length_le (by omega)]
  .rfl
theorem zyA (m:List (BitVec 64)) (a:Int) (x y:BitVec 64):∃b,Wg m ⟨1,a,x,y⟩=some (m,ld m a,b,()):=by
 rw [zoY];simp only [zp,if_true];by_cases h1:a<0
 .rw [zb h1,zFH (.inl h1)];exact ⟨_,rfl⟩
 .rw [zc h1];by_cases h2:(m.length:Int)<=a
  .rw [zb h2,zFH (.inr h2)];exact ⟨_,rfl⟩
  .rw [zc h2,v8,zAA (by omega) (by omega),zKt,zzP,zKt];simp
theorem zA7 {m:List (BitVec 64)}(hm:m.length<4294967296) (a:Int) (x y:BitVec 64):∃v b,Wg m ⟨2,a,x,y⟩=some (st m a x,v,b,()):=by
 rw [zoY];simp only [zp,if_true,zc (show ¬(2:Int)=1 by omega)];by_cases h1:a<0
 .rw [zb h1,zGC (.inl h1)];exact ⟨_,_,rfl⟩
 .rw [zc h1];by_cases h2:(m.length:Int)<=a
  .rw [zb h2,zGC (.inr h2)];exact ⟨_,_,rfl⟩
  .rw [zc h2,v8,zAA (by omega) (by omega),zKt,zAc,zKt,zu,yq];by_cases h3:ld m a=x
   .rw [zb h3];subst h3;rw [zDP];exact ⟨_,_,rfl⟩
   .rw [zc h3,zzh hm,zKt,vS (l:=m) (by omega) (by omega),zKt];unfold st;rw [yg];exact ⟨_,_,rfl⟩
theorem zxr {m:List (BitVec 64)}(hm:m.length<4294967296) (a:Int) (x y:BitVec 64):∃v,Wg m ⟨3,a,x,y⟩=some ((sw m a x y).1,v,(sw m a x y).2,()):=by
 rw [zoY];simp only [zp,if_true,zc (show ¬(3:Int)=1 by omega),zc (show ¬(3:Int)=2 by omega)];by_cases h1:a<0
 .rw [zb h1];have:sw m a x y=(m,false):=by unfold sw;rw [zk]
  rw [this];exact ⟨_,rfl⟩
 .rw [zc h1];by_cases h2:(m.length:Int)<=a
  .rw [zb h2];have:sw m a x y=(m,false):=by unfold sw;rw [zk]
   rw [this];exact ⟨_,rfl⟩
  .rw [zc h2,v8,zAA (by omega) (by omega),zKt,zzS,zKt];simp only [zp];by_cases h3:ld m a=x
   .have:sw m a x y=(st m a y,true):=by unfold sw;rw [zb ⟨by omega,by omega,h3⟩]
    rw [zb h3,this,yq];by_cases h4:ld m a=y
    .rw [zb h4];have:st m a y=m:=by rw [<-h4,zDP]
     rw [this];simp [h3]
    .rw [zc h4,zzh hm,zKt,vS (l:=m) (by omega) (by omega),zKt];unfold st;rw [yg];simp [h3]
   .have:sw m a x y=(m,false):=by unfold sw;rw [zc (by rintro ⟨_,_,h⟩;exact h3 h)]
    rw [zc h3,this];simp [h3]
theorem zlp (m:List (BitVec 64)) (a:Int):zaM m a=some (ld m a,()):=by
 obtain ⟨b,h⟩:=zyA m a 0#64 0#64;rw [zw1,h];rfl
theorem zd4 {m:List (BitVec 64)}(hm:m.length<4294967296) (a:Int) (x:BitVec 64):X7 m a x=some (st m a x,()):=by
 obtain ⟨v,b,h⟩:=zA7 hm a x 0#64;rw [zuu,h];rfl
theorem Xo (m:List (BitVec 64)) (a:Int):um m a=some (ld m a,()):=by
 obtain ⟨b,h⟩:=zyA m a 0#64 0#64;rw [zwE,h];rfl
theorem zeb {m:List (BitVec 64)}(hm:m.length<4294967296) (a:Int) (x:BitVec 64):We m a x=some (st m a x,()):=by
 obtain ⟨v,b,h⟩:=zA7 hm a x 0#64;rw [zu1,h];rfl
def yE (h:BitVec 64):Int:=(h&&&4294967295#64).toInt
def xR (v:BitVec 64) (n:Int):BitVec 64:=(v <<< 32)|||(zMs 64 n&&&4294967295#64)
theorem zgL (h:BitVec 64):Xq h=some (yE h,()):=zvX h
theorem zk1 (v:BitVec 64) (n:Int):zaQ v n=some (xR v n,()):=zvP v n
def zC (m:List (BitVec 64)) (c:zU):List (BitVec 64)×zU :=
 if c.Out≠0\/(c.Kind≠1/\c.Kind≠2)\/c.PC<0\/3<=c.PC then (m,c)
 else if c.PC=0 then
  (m,if c.Kind=2/\yE (ld m c.Head)=0 then {c with H:=ld m c.Head,Out:=2,PC:=1} else {c with H:=ld m c.Head,PC:=1})
 else if c.PC=1 then
  if c.Kind=2 then (m,{c with Y:=(ld m (wc (c.Next+yE c.H))).toInt,PC:=2})
  else (st m (wc (c.Next+c.X)) (zMs 64 (yE c.H)),{c with PC:=2})
 else
  let r:=sw m c.Head c.H (xR ((c.H >>> 32)+1#64) (if c.Kind=2 then c.Y else c.X))
  (r.1,if r.2 then (if c.Kind=2 then {c with X:=yE c.H,Out:=1,PC:=3} else {c with Out:=1,PC:=3}) else {c with PC:=0})
theorem zgK {m:List (BitVec 64)}(hm:m.length<4294967296) (c:zU):Va m c=some ((zC m c).1,(zC m c).2,()):=by
 have hsee:uy m c=some (m,(if c.Kind=2/\yE (ld m c.Head)=0 then {c with H:=ld m c.Head,Out:=2} else {c with H:=ld m c.Head}),()):=by
  rw [zk0,zlp,zKt,zgL,zKt,zp,zp];by_cases h1:c.Kind=2
  .by_cases h2:yE (ld m c.Head)=0
   .rw [zb h1,zb h2,zb ⟨h1,h2⟩]
   .rw [zb h1,zc h2,zc (fun h=>h2 h.2)]
  .rw [zc h1,zc (fun h=>h1 h.1)]
 have hlink:WO m c=some (st m (wc (c.Next+c.X)) (zMs 64 (yE c.H)),()):=by
  rw [zni,xV,zgL,zKt,zd4 hm];rfl
 have hbeh:Yt m c=some (m,{c with Y:=(ld m (wc (c.Next+yE c.H))).toInt},()):=by
  rw [zhP,xV,zgL,zKt,zlp];rfl
 have hswap:uc m c=some ((sw m c.Head c.H (xR ((c.H >>> 32)+1#64) (if c.Kind=2 then c.Y else c.X))).1,
   (if (sw m c.Head c.H (xR ((c.H >>> 32)+1#64) (if c.Kind=2 then c.Y else c.X))).2 then (if c.Kind=2 then {c with X:=yE c.H,Out:=1} else {c with Out:=1}) else {c with PC:= -1}),()):=by
  rw [zjR,zp];by_cases h1:c.Kind=2
  .rw [zb h1,zk1,zKt];obtain ⟨v,hv⟩:=zxr hm c.Head c.H (xR ((c.H >>> 32)+1#64) c.Y);simp only [zb h1];rw [hv,zKt];cases hs:(sw m c.Head c.H (xR ((c.H >>> 32)+1#64) c.Y)).2 with
   | true=>simp [hs,h1,zgL]
   | false=>simp [hs]
  .rw [zc h1,zk1,zKt];obtain ⟨v,hv⟩:=zxr hm c.Head c.H (xR ((c.H >>> 32)+1#64) c.X);simp only [zc h1];rw [hv,zKt];cases hs:(sw m c.Head c.H (xR ((c.H >>> 32)+1#64) c.X)).2 with
   | true=>simp [hs,h1]
   | false=>simp [hs]
 rw [zwO,hsee,hlink,hbeh,hswap];simp only [zp,yq,zKt];unfold zC;by_cases h0:c.Out=0
 .by_cases hp0:c.PC<0
  .have:(c.Out≠0\/(c.Kind≠1/\c.Kind≠2)\/c.PC<0\/3<=c.PC):= .inr (.inr (.inl hp0));rw [zb this];simp [h0,hp0]
  .by_cases hp3:3<=c.PC
   .have:(c.Out≠0\/(c.Kind≠1/\c.Kind≠2)\/c.PC<0\/3<=c.PC):= .inr (.inr (.inr hp3));rw [zb this];simp [h0,hp3]
   .by_cases hk:c.Kind=1\/c.Kind=2
    .have: ¬(c.Out≠0\/(c.Kind≠1/\c.Kind≠2)\/c.PC<0\/3<=c.PC):=by
      rintro (h | h | h | h)
      .exact h h0
      .omega
      .exact hp0 h
      .exact hp3 h
     rw [zc this];have hpc:c.PC=0\/c.PC=1\/c.PC=2:=by omega
     have w1:w64 1=1:=yb;have w2:w64 2=2:=yb;have w3:w64 3=3:=yb;have w4:w64 0=0:=yb;rcases hk with hk | hk<;>rcases hpc with hpc | hpc | hpc<;>simp [h0,hk,hpc,w1,w2,w3,w4]<;>(try split)<;>simp [hpc,w1,w3,w4]
    .have:(c.Out≠0\/(c.Kind≠1/\c.Kind≠2)\/c.PC<0\/3<=c.PC):= .inr (.inl (by omega));rw [zb this];have k1: ¬c.Kind=1:=by omega
     have k2: ¬c.Kind=2:=by omega
     simp [h0,k1,k2]
 .have:(c.Out≠0\/(c.Kind≠1/\c.Kind≠2)\/c.PC<0\/3<=c.PC):= .inl h0;rw [zb this];simp [h0]
def uX (d:zg):BitVec 64:=zMs 64 (if d.Cap<1 then 1 else d.Cap)
def XE (d:zg) (i:BitVec 64):Int:=wc (wc (d.Base+2)+(i%uX d).toInt)
def xp (m:List (BitVec 64)) (d:zg):List (BitVec 64)×zg :=
 if d.Out≠0\/d.PC<0\/4<=d.PC then (m,d)
 else if d.PC=0 then (m,{d with B:=ld m (wc (d.Base+1)),PC:=1})
 else if d.PC=1 then (m,if uX d<=d.B-ld m d.Base then {d with T:=ld m d.Base,Out:=3,PC:=2} else {d with T:=ld m d.Base,PC:=2})
 else if d.PC=2 then (st m (XE d d.B) (zMs 64 d.X),{d with PC:=3})
 else (st m (wc (d.Base+1)) (d.B+1#64),{d with Out:=1,PC:=4})
theorem zAO:w64 0=0/\w64 1=1/\w64 2=2/\w64 3=3/\w64 4=4:=by
 refine ⟨?_,?_,?_,?_,?_⟩<;>exact yb
theorem zF8 {d:zg}(h:d.Cap<1000):uX d≠0#64:=by
 unfold uX;intro e;have:=congrArg BitVec.toNat e;rw [zLo] at this;split at this<;>simp at this<;>omega
theorem zp2 (d:zg):yr d=some (uX d,()):=by
 rw [znd];unfold uX;rw [zp]
theorem zir {d:zg}(h:d.Cap<1000) (i:BitVec 64):uR i d=some (XE d i,()):=by
 rw [zmB,xV,zp2,zKt,zp,zc (zF8 h)];rfl
theorem znN {m:List (BitVec 64)}(hm:m.length<4294967296) {d:zg}(hk:d.Kind=1) (hc:d.Cap<1000):zc1 m d=some ((xp m d).1,(xp m d).2,()):=by
 obtain ⟨w0,w1,w2,w3,w4⟩:=zAO;have h0:vQ m d=some (m,{d with B:=ld m (wc (d.Base+1))},()):=by
  rw [VN,x8,xV,zKt,Xo];rfl
 have h1:VV m d=some (m,(if uX d<=d.B-ld m d.Base then {d with T:=ld m d.Base,Out:=3} else {d with T:=ld m d.Base}),()):=by
  rw [zjN,ZX,zKt,Xo,zKt,zp2,zKt,zp];have e:uX {d with T:=ld m d.Base}=uX d:=rfl;simp only [e];by_cases h:uX d<=d.B-ld m d.Base
  .rw [zb h,zb h,vw];simp [hk]
  .rw [zc h,zc h]
 have h2:zb1 m d=some (st m (XE d d.B) (zMs 64 d.X),()):=by
  rw [zoP,zir hc,zKt,zeb hm];rfl
 have h3:Wa m d=some (st m (wc (d.Base+1)) (d.B+1#64),{d with Out:=1},()):=by
  rw [zgO,vw];simp only [decide_true,zKI,zM,zKt,x8,xV];rw [zeb hm];rfl
 rw [znU,h0,h1,h2,h3,zkx];simp only [hk,decide_true,zu,zKt,yq,zp];have key:∀(x:Option (List (BitVec 64)×zg×Unit)) (v:List (BitVec 64)×zg×Unit) (y:Option (List (BitVec 64)×zg×Unit)),x=some v->Option.or x y=some v:=by
  rintro _ v y rfl;rfl
 apply key;unfold xp;by_cases g0:d.Out=0
 .by_cases g1:d.PC<0
  .simp [g0,g1]
  .by_cases g2:4<=d.PC
   .simp [g0,g2]
   .have hpc:d.PC=0\/d.PC=1\/d.PC=2\/d.PC=3:=by omega
    rcases hpc with h | h | h | h<;>simp [g0,h,hk,w1,w2,w3,w4]<;>(try split)<;>simp [h,hk,w2]
 .simp [g0]
def yt (p:zd):Int:=wc (p.Workers*wc (p.Cap+2))
def zT (p:zd):Int:=wc (yt p+1)
def z6 (p:zd) (w:Int):Int:=wc (wc (w-1)*wc (p.Cap+2))
theorem zdq (p:zd):Xw p=some (yt p,()):=by rw [zxd,xV];rfl
theorem zer (p:zd):Wf p=some (zT p,()):=by rw [zuS,xV,zdq];rfl
theorem zbb (p:zd):YG p=some (zT p,()):=by rw [zw5,zer];rfl
theorem zbU (p:zd) (w:Int):xL p w=some (z6 p w,()):=by rw [zvs,xV];rfl
def zga (p:zd) (g:zI):zI:={g with PC:=5,C:=⟨2,0,zT p,zT p,0#64,0,0,0⟩}
theorem zqA (a:zW):uU a=some (⟨zga a.s.P a.Grey,a.s⟩,()):=by
 rw [zl6,zer,zKt,zbb,zKt,Vm];rfl
def zli (s:za) (g:zI):za×zI :=
 let t:=wv s.T g.Obj
 ({s with T:=t.1},
  if t.2=false then {g with PC:=2}
  else if g.Mode=1 then {g with PC:=3,D:=⟨1,0,z6 s.P g.Who,s.P.Cap,0#64,0#64,g.Obj,0⟩}
  else if g.Mode=2 then {g with PC:=4}
  else zga s.P g)
def zlf (s:za) (g:zI):za×zI :=
 let r:=xp s.M g.D
 ({s with M:=r.1},if r.2.Out=1 then {g with D:=r.2,Out:=1} else if r.2.Out=3 then zga s.P {g with D:=r.2} else {g with D:=r.2})
def zkZ (s:za) (g:zI):za×zI :=
 let r:=zC s.M g.C
 ({s with M:=r.1},if r.2.Out=1 then {g with PC:=6,C:=r.2,Bin:=r.2.X} else if r.2.Out=2 then zga s.P {g with C:=r.2} else {g with C:=r.2})
def zAm (s:za) (g:zI):za×zI :=
 ({s with Bins:=s.Bins.set g.Bin.toNat [g.Obj]},{g with PC:=7,C:=⟨1,0,yt s.P,zT s.P,0#64,g.Bin,0,0⟩})
def zcY (s:za) (g:zI):za×zI :=
 let r:=zC s.M g.C
 ({s with M:=r.1},if r.2.Out=1 then {g with C:=r.2,Out:=1} else {g with C:=r.2})
def zF (s:za) (g:zI):za×zI :=
 if g.Out≠0\/g.Mode<1\/3<g.Mode\/g.PC<0\/8<=g.PC then (s,g)
 else if g.PC=7 then zcY s g
 else if g.PC=6 then zAm s g
 else if g.PC=5 then zkZ s g
 else if g.PC=4 then ({s with Flag:=true},zga s.P g)
 else if g.PC=3 then zlf s g
 else if g.PC=2 then ({s with Work:=wc (s.Work-1)},{g with Out:=1})
 else if g.PC=1 then zli s g
 else ({s with Work:=wc (s.Work+1)},{g with PC:=1})
structure GOk (s:za) (g:zI):Prop where
 mem:s.M.length<4294967296
 bins:s.Bins.length<4294967296
 bin:g.PC=6->0<=g.Bin/\g.Bin<s.Bins.length
 deq:g.PC=3->g.D.Kind=1/\g.D.Cap<1000
theorem zyU {s:za}{g:zI}(ok:GOk s g):zen s g=some ((zF s g).1,(zF s g).2,()):=by
 rw [zx9];simp only [zp,yq];unfold zF;by_cases h0:g.Out=0;rotate_left
 .rw [zc h0,zb (.inl h0)]
 rw [zb h0];by_cases h1:g.Mode<1
 .rw [zb h1,zb (.inr (.inl h1))]
 rw [zc h1];by_cases h2:3<g.Mode
 .rw [zb h2,zb (.inr (.inr (.inl h2)))]
 rw [zc h2];by_cases h3:g.PC<0
 .rw [zb h3,zb (.inr (.inr (.inr (.inl h3))))]
 rw [zc h3];by_cases h4:8<=g.PC
 .rw [zb h4,zb (.inr (.inr (.inr (.inr h4))))]
 rw [zc h4,zc (show ¬(g.Out≠0\/g.Mode<1\/3<g.Mode\/g.PC<0\/8<=g.PC) by omega)];by_cases p7:g.PC=7
 .rw [zb p7,zb p7,zhN];simp only [zgK ok.mem,zKt,zp];by_cases e:(zC s.M g.C).2.Out=1<;>simp [zcY,e]
 rw [zc p7,zc p7];by_cases p6:g.PC=6
 .rw [zb p6,zb p6,zlo];obtain ⟨b1,b2⟩:=ok.bin p6;simp only [zlk ok.bins,zKt,vS (l:=s.Bins) b1 b2,zdq,zbb,Vm];rfl
 rw [zc p6,zc p6];by_cases p5:g.PC=5
 .rw [zb p5,zb p5,zkF];simp only [zgK ok.mem,zKt,zp,zqA];by_cases e:(zC s.M g.C).2.Out=1
  .simp [zkZ,e]
  .by_cases e2:(zC s.M g.C).2.Out=2<;>simp [zkZ,e,e2]
 rw [zc p5,zc p5];by_cases p4:g.PC=4
 .rw [zb p4,zb p4,zk5,zqA];rfl
 rw [zc p4,zc p4];by_cases p3:g.PC=3
 .rw [zb p3,zb p3,zkU];obtain ⟨b1,b2⟩:=ok.deq p3;simp only [znN ok.mem b1 b2,zKt,zp,zqA];by_cases e:(xp s.M g.D).2.Out=1
  .simp [zlf,e]
  .by_cases e2:(xp s.M g.D).2.Out=3<;>simp [zlf,e,e2]
 rw [zc p3,zc p3];by_cases p2:g.PC=2
 .rw [zb p2,zb p2,zkX,xV];rfl
 rw [zc p2,zc p2];by_cases p1:g.PC=1
 .rw [zb p1,zb p1,zk7];simp only [zkT,zKt,zp,zqA,zbU,zbf];unfold zli;cases hs:(wv s.T g.Obj).2 with
  | false=>simp [hs]
  | true =>
   by_cases m1:g.Mode=1
   .simp [hs,m1]
   .by_cases m2:g.Mode=2<;>simp [hs,m1,m2]
 rw [zc p1,zc p1,zb (show g.PC=0 by omega),zhv,xV];rfl
theorem uQ {b k:Int}(h:0<=b) (hk:0<k):0<=b.tmod k/\b.tmod k<k:=by
 rw [Int.tmod_eq_emod_of_nonneg h];exact ⟨Int.emod_nonneg _ (by omega),Int.emod_lt_of_pos _ hk⟩
def zma (o:zE) (regs slots:Int):Prop:=(0<=o.R/\o.R<regs) /\
 ((o.Kind=1\/o.Kind=2)/\(0<=o.A/\o.A<regs)/\(0<=o.S/\o.S<slots)\/o.Kind=4/\(0<=o.A/\o.A<regs)/\o.S=0\/(o.Kind=3\/o.Kind=5)/\o.A=0/\o.S=0)
structure zJ (p:zd):Prop where
 wk:1<=p.Workers/\p.Workers<=3
 mt:0<=p.Mutators/\p.Mutators<=2
 cap:1<=p.Cap/\p.Cap<=3
 buf:1<=p.Buf/\p.Buf<=2
 bin:1<=p.Bin/\p.Bin<=3
 price:0<=p.Price/\p.Price<=3
 limit:0<=p.Limit/\p.Limit<=3
 slots:1<=p.H.Slots/\p.H.Slots<=2
 n:1<=(p.H.Objs.length:Int)/\(p.H.Objs.length:Int)<=6
 objs:∀o∈p.H.Objs,(o.length:Int)=p.H.Slots/\∀v∈o,0<=v/\v<=(p.H.Objs.length:Int)
 most:(p.H.Objs.length:Int)<=p.Most/\p.Most<=(p.H.Objs.length:Int)+3
 roots:∃r,0<=r/\r<=(p.H.Objs.length:Int)/\p.Roots=bit r
 regs:(p.Regs.length:Int)=p.Mutators
 progs:(p.Progs.length:Int)=p.Mutators
 reg:∀r∈p.Regs,(1<=(r.length:Int)/\(r.length:Int)<=3)/\∀v∈r,0<=v/\v<=(p.H.Objs.length:Int)
 prog:∀(k:Nat) r ops,p.Regs[k]? =some r->p.Progs[k]? =some ops->(ops.length:Int)<=7/\∀o∈ops,zma o (r.length:Int) p.H.Slots
 picks:p.Picks=[]
namespace B20
def VY (m:zY):Prop:=0<=m.At/\m.At<=m.L.length/\m.L.length<=90
theorem Zn {m:zY}(h:VY m):∃b m',zS m=some (b,m',())/\(0<=b/\b<256)/\VY m':=by
 obtain ⟨h1,h2,h3⟩:=h;rw [zgP,zp];by_cases h:(m.L.length:Int)<=m.At
 .rw [zb h];exact ⟨_,_,rfl,by omega,h1,h2,h3⟩
 .rw [zc h,yb (a:=m.At+1) (by omega) (by omega),yb,v8,zKv (by omega),zKt];exact ⟨_,_,rfl,by have:=(m.L[(m.At+1-1).toNat]'(by omega)).isLt;omega,show 0<=m.At+1 by omega,show m.At+1<=m.L.length by omega,h3⟩
theorem zKf {m:zY}(h:VY m) {regs slots:Int}(hr:1<=regs) (hs:1<=slots):∃o m',W9 regs slots m=some (o,m',())/\zma o regs slots/\VY m':=by
 obtain ⟨b1,m1,e1,r1,k1⟩:=Zn h;obtain ⟨b2,m2,e2,r2,k2⟩:=Zn k1;obtain ⟨b3,m3,e3,r3,k3⟩:=Zn k2;obtain ⟨b4,m4,e4,r4,k4⟩:=Zn k3;have t1:=uQ r1.1 (show (0:Int)<8 by omega);have t2:=uQ r2.1 (show (0:Int)<regs by omega);have t3:=uQ r3.1 (show (0:Int)<regs by omega);have t4:=uQ r4.1 (show (0:Int)<slots by omega);have t5:=uQ r3.1 (show (0:Int)<slots by omega);have hn: ¬regs=0:=by omega
 have hn2: ¬slots=0:=by omega
 rw [zi7,e1,zKt,vS t1.1 (by simpa using t1.2),zKt];have hx:b1.tmod 8=0\/b1.tmod 8=1\/b1.tmod 8=2\/b1.tmod 8=3\/b1.tmod 8=4\/b1.tmod 8=5\/b1.tmod 8=6\/b1.tmod 8=7:=by omega
 rcases hx with hx | hx | hx | hx | hx | hx | hx | hx<;>simp [hx,e2,e3,e4,hn,hn2]<;>refine ⟨_,_,⟨rfl,rfl⟩,?_,by assumption⟩<;>(unfold zma;dsimp only;omega)
theorem zHu {s1:Int}{s2:Int}{s4:Int}{s5:Int}{s6:Int}{s7:Int}{s8:Int}{s9:Int}{s10:Int}{s11:Int}{s12:Int}{s13:BitVec 64}{s15:Int}{s16:Int}{s17:Int}{s18:Int}{s19:Int}{s20:Int}{s21:Int}{s22:Int}{s23:Int}{s24:BitVec 64}{s26:List (List Int)}{s27:List (List Int)}{s28:List (List zE)}{s29:List zm}{s30:List (List Int)}{s31:List (List Int)}{s32:List (List zE)}{s33:List zm}(hn:1<=s1/\s1<=6) (hs:1<=s23/\s23<=2) {mk:zY}(hm:VY mk) :
  ∃mk' l,yf XQ (s1,s2,0,s4,s5,s6,s7,s8,s9,s10,s11,s12,s13,mk,s15,s16,s17,s18,s19,s20,s21,s22,s23,s24,[],s26,s27,s28,s29,s30,s31,s32,s33,())=some (.brk (s1,s2,s4,s5,s6,s7,s8,s9,s10,s11,s12,s13,mk',s15,s16,s17,s18,s19,s20,s21,s22,s23,s24,l,s26,s27,s28,s29,s30,s31,s32,s33,()))/\VY mk'/\(l.length:Int)=s23/\∀v∈l,0<=v/\v<=s1:=by
 refine (wN (f:=XQ)
  (fun a=>∃i mk l,a=(s1,s2,i,s4,s5,s6,s7,s8,s9,s10,s11,s12,s13,mk,s15,s16,s17,s18,s19,s20,s21,s22,s23,s24,l,s26,s27,s28,s29,s30,s31,s32,s33,())/\VY mk/\(0<=i/\i<=s23/\(l.length:Int)=i)/\∀v∈l,0<=v/\v<=s1)
  (fun a=>(s23-a.2.2.1).toNat)
  (fun o=>match o with | .brk b=>∃mk l,b=(s1,s2,s4,s5,s6,s7,s8,s9,s10,s11,s12,s13,mk,s15,s16,s17,s18,s19,s20,s21,s22,s23,s24,l,s26,s27,s28,s29,s30,s31,s32,s33,())/\VY mk/\(l.length:Int)=s23/\∀v∈l,0<=v/\v<=s1 | _=>False) ?_
  (s1,s2,0,s4,s5,s6,s7,s8,s9,s10,s11,s12,s13,mk,s15,s16,s17,s18,s19,s20,s21,s22,s23,s24,[],s26,s27,s28,s29,s30,s31,s32,s33,()) ⟨0,mk,[],rfl,hm,by simp;omega,by simp⟩ (ui (by simp;omega))).elim fun o h=>?_
 rotate_left
 .obtain ⟨ho,hq⟩:=h;cases o with
  | again a=>exact hq.elim
  | ret a=>exact hq.elim
  | brk b =>
   obtain ⟨mk',l,rfl,h1,h2,h3⟩:=hq;exact ⟨mk',l,ho,h1,h2,h3⟩
 .rintro _ ⟨i,mk,l,rfl,h1,h2,h3⟩;rw [zlS,zp];by_cases hi:i<s23
  .rw [zb hi];obtain ⟨b,mk',e,r,k⟩:=Zn h1;have w1:w64 (s1+1)=s1+1:=yb;have t:=uQ r.1 (show 0<s1+1 by omega);rw [e,zKt,w1,zp,zk,yQ (by simp;omega),zKt,yb (a:=i+1) (by omega) (by omega)];refine ⟨_,rfl,⟨i+1,mk',l++[b.tmod (s1+1)],rfl,k,by simp;omega,fun v hv=>?_⟩,?_⟩
   .rcases zKS.1 hv with hv | hv
    .exact h3 v hv
    .simp at hv;omega
   .show (s23-(i+1)).toNat<(s23-i).toNat;omega
  .rw [zc hi];exact ⟨_,rfl,mk,l,rfl,h1,by omega,h3⟩
theorem zIO {s1:Int}{s3:Int}{s4:Int}{s5:Int}{s6:Int}{s7:Int}{s8:Int}{s9:Int}{s10:Int}{s11:Int}{s12:BitVec 64}{s14:Int}{s15:Int}{s16:Int}{s17:Int}{s18:Int}{s19:Int}{s20:Int}{s21:Int}{s22:Int}{s23:BitVec 64}{s24:List (List Int)}{s25:List (List Int)}{s26:List (List zE)}{s27:List zm}{s29:List (List Int)}{s30:List (List zE)}{s31:List zm}(hn:1<=s1/\s1<=6) (hs:1<=s22/\s22<=2) {mk:zY}(hm:VY mk) :
  ∃mk' l,yf WD (s1,0,s3,s4,s5,s6,s7,s8,s9,s10,s11,s12,mk,s14,s15,s16,s17,s18,s19,s20,s21,s22,s23,s24,s25,s26,s27,[],s29,s30,s31,())=some (.brk (s1,s3,s4,s5,s6,s7,s8,s9,s10,s11,s12,mk',s14,s15,s16,s17,s18,s19,s20,s21,s22,s23,s24,s25,s26,s27,l,s29,s30,s31,()))/\VY mk'/\(l.length:Int)=s1/\∀o∈l,(o.length:Int)=s22/\∀v∈o,0<=v/\v<=s1:=by
 refine (wN (f:=WD)
  (fun a=>∃i mk l,a=(s1,i,s3,s4,s5,s6,s7,s8,s9,s10,s11,s12,mk,s14,s15,s16,s17,s18,s19,s20,s21,s22,s23,s24,s25,s26,s27,l,s29,s30,s31,())/\VY mk/\(0<=i/\i<=s1/\(l.length:Int)=i)/\∀o∈l,(o.length:Int)=s22/\∀v∈o,0<=v/\v<=s1)
  (fun a=>(s1-a.2.1).toNat)
  (fun o=>match o with | .brk b=>∃mk l,b=(s1,s3,s4,s5,s6,s7,s8,s9,s10,s11,s12,mk,s14,s15,s16,s17,s18,s19,s20,s21,s22,s23,s24,s25,s26,s27,l,s29,s30,s31,())/\VY mk/\(l.length:Int)=s1/\∀o∈l,(o.length:Int)=s22/\∀v∈o,0<=v/\v<=s1 | _=>False) ?_
  (s1,0,s3,s4,s5,s6,s7,s8,s9,s10,s11,s12,mk,s14,s15,s16,s17,s18,s19,s20,s21,s22,s23,s24,s25,s26,s27,[],s29,s30,s31,()) ⟨0,mk,[],rfl,hm,by simp;omega,by simp⟩ (ui (by simp;omega))).elim fun o h=>?_
 rotate_left
 .obtain ⟨ho,hq⟩:=h;cases o with
  | again a=>exact hq.elim
  | ret a=>exact hq.elim
  | brk b =>
   obtain ⟨mk',l,rfl,h1,h2,h3⟩:=hq;exact ⟨mk',l,ho,h1,h2,h3⟩
 .rintro _ ⟨i,mk,l,rfl,h1,h2,h3⟩;rw [zm0,zp];by_cases hi:i<s1
  .rw [zb hi];obtain ⟨mk',o,e,g1,g2,g3⟩:=zHu hn hs h1;rw [e];simp only [zKt];rw [yQ (by simp;omega),zKt,yb (a:=i+1) (by omega) (by omega)];refine ⟨_,rfl,⟨i+1,mk',l++[o],rfl,g1,by simp;omega,fun v hv=>?_⟩,?_⟩
   .rcases zKS.1 hv with hv | hv
    .exact h3 v hv
    .simp at hv;subst hv;exact ⟨g2,g3⟩
   .show (s1-(i+1)).toNat<(s1-i).toNat;omega
  .rw [zc hi];exact ⟨_,rfl,mk,l,rfl,h1,by omega,h3⟩
theorem zHr {s1:Int}{s2:Int}{s4:Int}{s5:Int}{s6:Int}{s7:Int}{s8:Int}{s9:Int}{s10:Int}{s11:Int}{s12:Int}{s13:BitVec 64}{s15:Int}{s16:Int}{s17:Int}{s18:Int}{s19:Int}{s20:Int}{s21:Int}{s22:Int}{s23:Int}{s24:BitVec 64}{s26:List (List Int)}{s27:List (List Int)}{s28:List (List zE)}{s29:List zm}{s30:List (List Int)}{s31:List (List Int)}{s32:List (List zE)}{s33:List zm}(hn:1<=s1/\s1<=6) {mk:zY}(hm:VY mk) :
  ∃mk' l,yf XS (s1,s2,0,s4,s5,s6,s7,s8,s9,s10,s11,s12,s13,mk,s15,s16,s17,s18,s19,s20,s21,s22,s23,s24,[],s26,s27,s28,s29,s30,s31,s32,s33,())=some (.brk (s1,s2,s4,s5,s6,s7,s8,s9,s10,s11,s12,s13,mk',s15,s16,s17,s18,s19,s20,s21,s22,s23,s24,l,s26,s27,s28,s29,s30,s31,s32,s33,()))/\VY mk'/\(1<=(l.length:Int)/\(l.length:Int)<=3)/\∀v∈l,0<=v/\v<=s1:=by
 refine (wN (f:=XS)
  (fun a=>∃i mk l,a=(s1,s2,i,s4,s5,s6,s7,s8,s9,s10,s11,s12,s13,mk,s15,s16,s17,s18,s19,s20,s21,s22,s23,s24,l,s26,s27,s28,s29,s30,s31,s32,s33,())/\VY mk/\(0<=i/\i<=3/\(l.length:Int)=i)/\∀v∈l,0<=v/\v<=s1)
  (fun a=>(3-a.2.2.1).toNat)
  (fun o=>match o with | .brk b=>∃mk l,b=(s1,s2,s4,s5,s6,s7,s8,s9,s10,s11,s12,s13,mk,s15,s16,s17,s18,s19,s20,s21,s22,s23,s24,l,s26,s27,s28,s29,s30,s31,s32,s33,())/\VY mk/\(1<=(l.length:Int)/\(l.length:Int)<=3)/\∀v∈l,0<=v/\v<=s1 | _=>False) ?_
  (s1,s2,0,s4,s5,s6,s7,s8,s9,s10,s11,s12,s13,mk,s15,s16,s17,s18,s19,s20,s21,s22,s23,s24,[],s26,s27,s28,s29,s30,s31,s32,s33,()) ⟨0,mk,[],rfl,hm,by simp,by simp⟩ (ui (by simp))).elim fun o h=>?_
 rotate_left
 .obtain ⟨ho,hq⟩:=h;cases o with
  | again a=>exact hq.elim
  | ret a=>exact hq.elim
  | brk b =>
   obtain ⟨mk',l,rfl,h1,h2,h3⟩:=hq;exact ⟨mk',l,ho,h1,h2,h3⟩
 .rintro _ ⟨i,mk,l,rfl,h1,h2,h3⟩;obtain ⟨b0,mk0,e0,r0,k0⟩:=Zn h1;have t0:=uQ r0.1 (show (0:Int)<3 by omega);rw [zl4,e0,zKt,zp,yb (a:=1+b0.tmod 3) (by omega) (by omega)];by_cases hi:i<1+b0.tmod 3
  .rw [zb hi];obtain ⟨b,mk',e,r,k⟩:=Zn k0;have w1:w64 (s1+1)=s1+1:=yb;have t:=uQ r.1 (show 0<s1+1 by omega);rw [e,zKt,w1,zp,zk,yQ (by simp;omega),zKt,yb (a:=i+1) (by omega) (by omega)];refine ⟨_,rfl,⟨i+1,mk',l++[b.tmod (s1+1)],rfl,k,by simp;omega,fun v hv=>?_⟩,?_⟩
   .rcases zKS.1 hv with hv | hv
    .exact h3 v hv
    .simp at hv;omega
   .show (3-(i+1)).toNat<(3-i).toNat;omega
  .rw [zc hi];exact ⟨_,rfl,mk0,l,rfl,k0,by omega,h3⟩
theorem zGX {s1:Int}{s2:Int}{s4:Int}{s5:Int}{s6:Int}{s7:Int}{s8:Int}{s9:Int}{s10:Int}{s11:Int}{s12:Int}{s13:BitVec 64}{s15:Int}{s16:Int}{s17:Int}{s18:Int}{s19:Int}{s20:Int}{s21:Int}{s22:Int}{s23:Int}{s24:BitVec 64}{s25:List Int}{s27:List (List Int)}{s28:List (List Int)}{s29:List (List zE)}{s30:List zm}{s31:List (List Int)}{s32:List (List Int)}{s33:List (List zE)}{s34:List zm}(hr:1<=(s25.length:Int)) (hs:1<=s23/\s23<=2) {k0:Int}(hk:0<=k0/\k0<8) {mk:zY}(hm:VY mk) :
  ∃mk' l,yf Yh (s1,s2,k0,s4,s5,s6,s7,s8,s9,s10,s11,s12,s13,mk,s15,s16,s17,s18,s19,s20,s21,s22,s23,s24,s25,[],s27,s28,s29,s30,s31,s32,s33,s34,())=some (.brk (s1,s2,s4,s5,s6,s7,s8,s9,s10,s11,s12,s13,mk',s15,s16,s17,s18,s19,s20,s21,s22,s23,s24,s25,l,s27,s28,s29,s30,s31,s32,s33,s34,()))/\VY mk'/\(l.length:Int)<=7/\∀o∈l,zma o (s25.length:Int) s23:=by
 refine (wN (f:=Yh)
  (fun a=>∃i mk l,a=(s1,s2,i,s4,s5,s6,s7,s8,s9,s10,s11,s12,s13,mk,s15,s16,s17,s18,s19,s20,s21,s22,s23,s24,s25,l,s27,s28,s29,s30,s31,s32,s33,s34,())/\VY mk/\(0<=i/\(l.length:Int)+i<=7)/\∀o∈l,zma o (s25.length:Int) s23)
  (fun a=>(a.2.2.1).toNat)
  (fun o=>match o with | .brk b=>∃mk l,b=(s1,s2,s4,s5,s6,s7,s8,s9,s10,s11,s12,s13,mk,s15,s16,s17,s18,s19,s20,s21,s22,s23,s24,s25,l,s27,s28,s29,s30,s31,s32,s33,s34,())/\VY mk/\(l.length:Int)<=7/\∀o∈l,zma o (s25.length:Int) s23 | _=>False) ?_
  (s1,s2,k0,s4,s5,s6,s7,s8,s9,s10,s11,s12,s13,mk,s15,s16,s17,s18,s19,s20,s21,s22,s23,s24,s25,[],s27,s28,s29,s30,s31,s32,s33,s34,()) ⟨k0,mk,[],rfl,hm,by simp;omega,by simp⟩ (ui (by simp;omega))).elim fun o h=>?_
 rotate_left
 .obtain ⟨ho,hq⟩:=h;cases o with
  | again a=>exact hq.elim
  | ret a=>exact hq.elim
  | brk b =>
   obtain ⟨mk',l,rfl,h1,h2,h3⟩:=hq;exact ⟨mk',l,ho,h1,h2,h3⟩
 .rintro _ ⟨i,mk,l,rfl,h1,h2,h3⟩;rw [zmG,zp];by_cases hi:0<i
  .rw [zb hi];obtain ⟨o,mk',e,r,k⟩:=zKf h1 hr hs.1;rw [e,zKt,yQ (by simp;omega),zKt,yb (a:=i-1) (by omega) (by omega)];refine ⟨_,rfl,⟨i-1,mk',l++[o],rfl,k,by simp;omega,fun v hv=>?_⟩,?_⟩
   .rcases zKS.1 hv with hv | hv
    .exact h3 v hv
    .simp at hv;subst hv;exact r
   .show (i-1).toNat<i.toNat;omega
  .rw [zc hi];exact ⟨_,rfl,mk,l,rfl,h1,by omega,h3⟩
theorem zG4 {s1:Int}{s3:Int}{s4:Int}{s5:Int}{s6:Int}{s7:Int}{s8:Int}{s9:Int}{s10:Int}{s11:Int}{s12:BitVec 64}{s14:Int}{s15:Int}{s16:Int}{s17:Int}{s18:Int}{s19:Int}{s20:Int}{s21:Int}{s22:Int}{s23:BitVec 64}{s24:List (List Int)}{s25:List (List Int)}{s26:List (List zE)}{s27:List zm}{s28:List (List Int)}{s31:List zm}(hn:1<=s1/\s1<=6) (hm0:0<=s15/\s15<=2) (hs:1<=s22/\s22<=2) {mk:zY}(hm:VY mk) :
  ∃regs progs,yf XX (s1,0,s3,s4,s5,s6,s7,s8,s9,s10,s11,s12,mk,s14,s15,s16,s17,s18,s19,s20,s21,s22,s23,s24,s25,s26,s27,s28,[],[],s31,())=some (.brk (s3,s4,s5,s6,s7,s8,s9,s10,s11,s12,s14,s15,s16,s17,s18,s19,s20,s21,s22,s23,s24,s25,s26,s27,s28,regs,progs,s31,()))/\(regs.length:Int)=s15/\(regs.length=progs.length)/\(∀r∈regs,(1<=(r.length:Int)/\(r.length:Int)<=3)/\∀v∈r,0<=v/\v<=s1)/\∀(k:Nat) r ops,regs[k]? =some r->progs[k]? =some ops->(ops.length:Int)<=7/\∀o∈ops,zma o (r.length:Int) s22:=by
 refine (wN (f:=XX)
  (fun a=>∃i mk regs progs,a=(s1,i,s3,s4,s5,s6,s7,s8,s9,s10,s11,s12,mk,s14,s15,s16,s17,s18,s19,s20,s21,s22,s23,s24,s25,s26,s27,s28,regs,progs,s31,())/\VY mk/\(0<=i/\i<=s15/\(regs.length:Int)=i)/\(regs.length=progs.length)/\(∀r∈regs,(1<=(r.length:Int)/\(r.length:Int)<=3)/\∀v∈r,0<=v/\v<=s1)/\∀(k:Nat) r ops,regs[k]? =some r->progs[k]? =some ops->(ops.length:Int)<=7/\∀o∈ops,zma o (r.length:Int) s22)
  (fun a=>(s15-a.2.1).toNat)
  (fun o=>match o with | .brk b=>∃regs progs,b=(s3,s4,s5,s6,s7,s8,s9,s10,s11,s12,s14,s15,s16,s17,s18,s19,s20,s21,s22,s23,s24,s25,s26,s27,s28,regs,progs,s31,())/\(regs.length:Int)=s15/\(regs.length=progs.length)/\(∀r∈regs,(1<=(r.length:Int)/\(r.length:Int)<=3)/\∀v∈r,0<=v/\v<=s1)/\∀(k:Nat) r ops,regs[k]? =some r->progs[k]? =some ops->(ops.length:Int)<=7/\∀o∈ops,zma o (r.length:Int) s22 | _=>False) ?_
  (s1,0,s3,s4,s5,s6,s7,s8,s9,s10,s11,s12,mk,s14,s15,s16,s17,s18,s19,s20,s21,s22,s23,s24,s25,s26,s27,s28,[],[],s31,()) ⟨0,mk,[],[],rfl,hm,by simp;omega,rfl,by simp,by simp⟩ (ui (by simp;omega))).elim fun o h=>?_
 rotate_left
 .obtain ⟨ho,hq⟩:=h;cases o with
  | again a=>exact hq.elim
  | ret a=>exact hq.elim
  | brk b =>
   obtain ⟨regs,progs,rfl,h⟩:=hq;exact ⟨regs,progs,ho,h⟩
 .rintro _ ⟨i,mk,regs,progs,rfl,h1,h2,h3,h4,h5⟩;rw [zlU,zp];by_cases hi:i<s15
  .rw [zb hi];obtain ⟨mk1,r,e,g1,g2,g3⟩:=zHr hn h1;rw [e];simp only [zKt];rw [zp,zk];obtain ⟨b,mk2,e2,r2,k2⟩:=Zn g1;rw [e2,zKt];obtain ⟨mk3,ops,e3,f1,f2,f3⟩:=zGX (s25:=r) g2.1 hs (uQ r2.1 (show (0:Int)<8 by omega)) k2;rw [e3];simp only [zKt];rw [yQ (by simp;omega),zKt,yQ (by simp;omega),zKt,yb (a:=i+1) (by omega) (by omega)];refine ⟨_,rfl,⟨i+1,mk3,regs++[r],progs++[ops],rfl,f1,by simp;omega,by simp [h3],fun v hv=>?_,fun k r' ops' hk1 hk2=>?_⟩,?_⟩
   .rcases zKS.1 hv with hv | hv
    .exact h4 v hv
    .simp at hv;subst hv;exact ⟨g2,g3⟩
   .rcases zK5 k regs.length with hlt | hge
    .rw [zKZ hlt] at hk1;rw [zKZ (by omega)] at hk2;exact h5 k r' ops' hk1 hk2
    .rw [zK3 hge] at hk1;rw [zK3 (by omega),<-h3] at hk2;have hk0:k-regs.length=0:=by
      have:=(zKC.1 hk1).1;simpa using this
     rw [hk0] at hk1 hk2;simp at hk1 hk2;subst hk1;subst hk2;exact ⟨f2,f3⟩
   .show (s15-(i+1)).toNat<(s15-i).toNat;omega
  .rw [zc hi];exact ⟨_,rfl,regs,progs,rfl,by omega,h3,h4,h5⟩
theorem zIp (l:List (BitVec 8)):∃p,zdI l=some (p,())/\zJ p:=by
 rw [zqx,zp];obtain ⟨m,em,hl⟩:∃m,cut l 0 (if 90<(l.length:Int) then 90 else (l.length:Int))=some m/\m.length<=90:=by
  unfold cut;by_cases h:90<(l.length:Int)
  .have h2:(90:Int)<=l.length:=by omega
   rw [zb h];exact ⟨l.take 90,by simp [h2],List.length_take_le _ _⟩
  .rw [zc h];exact ⟨l,by simp,by omega⟩
 rw [em,zKt];obtain ⟨b1,m1,e1,r1,k1⟩:=Zn (m:=⟨m,0⟩) ⟨by simp,by simp,hl⟩;obtain ⟨b2,m2,e2,r2,k2⟩:=Zn k1;obtain ⟨b3,m3,e3,r3,k3⟩:=Zn k2;obtain ⟨b4,m4,e4,r4,k4⟩:=Zn k3;obtain ⟨b5,m5,e5,r5,k5⟩:=Zn k4;obtain ⟨b6,m6,e6,r6,k6⟩:=Zn k5;obtain ⟨b7,m7,e7,r7,k7⟩:=Zn k6;obtain ⟨b8,m8,e8,r8,k8⟩:=Zn k7;obtain ⟨b9,m9,e9,r9,k9⟩:=Zn k8;obtain ⟨b10,m10,e10,r10,k10⟩:=Zn k9;simp only [e1,e2,e3,e4,e5,e6,e7,e8,e9,e10,zKt];have t1:=uQ r1.1 (show (0:Int)<3 by omega);have t2:=uQ r2.1 (show (0:Int)<3 by omega);have t3:=uQ r3.1 (show (0:Int)<3 by omega);have t4:=uQ r4.1 (show (0:Int)<2 by omega);have t5:=uQ r5.1 (show (0:Int)<3 by omega);have t6:=uQ r6.1 (show (0:Int)<4 by omega);have t7:=uQ r7.1 (show (0:Int)<4 by omega);have t8:=uQ r8.1 (show (0:Int)<2 by omega);have t9:=uQ r9.1 (show (0:Int)<6 by omega);have t10:=uQ r10.1 (show (0:Int)<4 by omega);rw [yb (a:=1+b9.tmod 6) (by omega) (by omega),yb (a:=1+b1.tmod 3) (by omega) (by omega),yb (a:=1+b3.tmod 3) (by omega) (by omega),yb (a:=1+b4.tmod 2) (by omega) (by omega),yb (a:=1+b5.tmod 3) (by omega) (by omega),
  yb (a:=1+b9.tmod 6+b10.tmod 4) (by omega) (by omega),yb (a:=1+b8.tmod 2) (by omega) (by omega)]
 obtain ⟨m11,objs,e11,g1,g2,g3⟩:=zIO (s1:=1+b9.tmod 6) (s22:=1+b8.tmod 2) (by omega) (by omega) k10;rw [e11];simp only [zKt];obtain ⟨b12,m12,e12,r12,k12⟩:=Zn g1;rw [e12,zKt,yb (a:=1+b9.tmod 6+1) (by omega) (by omega),zp,zk];have t12:=uQ r12.1 (show (0:Int)<1+b9.tmod 6+1 by omega);rw [zhY,zKt];obtain ⟨regs,progs,e13,f1,f2,f3,f4⟩:=zG4 (s1:=1+b9.tmod 6) (s15:=b2.tmod 3) (s22:=1+b8.tmod 2) (by omega) (by omega) (by omega) k12;rw [e13];simp only [zKt];refine ⟨_,rfl,?_⟩;constructor<;>dsimp only
 case objs=>intro o ho;rw [g2];exact g3 o ho
 case roots=>exact ⟨b12.tmod (1+b9.tmod 6+1),by omega,by omega,by simp⟩
 case reg=>rw [g2];exact f3
 case prog=>exact f4
 all_goals first | omega | rfl
end B20
theorem zdl {α β B C:Type}{f:List α×Int×Int×β->Option (yL (List α×Int×Int×β) B C)}{l:List α}{e:β}{b:B}(hl:l.length<1000000)
  (h1:∀(i:Nat) (x:α),l[i]? =some x->f (l,(l.length:Int),(i:Int),e)=some (.again (l,(l.length:Int),((i+1:Nat):Int),e)))
  (h2:f (l,(l.length:Int),(l.length:Int),e)=some (.brk b)):yf f (l,(l.length:Int),0,e)=some (.brk b):=by
 refine (wN (f:=f) (fun a=>∃i:Nat,a=(l,(l.length:Int),(i:Int),e)/\i<=l.length) (fun a=>l.length-a.2.2.1.toNat) (fun o=>o= .brk b) ?_ (l,(l.length:Int),0,e) ⟨0,rfl,by omega⟩ (ui (by simp;omega))).elim fun o h=>?_;rotate_left
 .rw [h.1,h.2]
 .rintro _ ⟨i,rfl,hi⟩;rcases zK5 i l.length with hlt | hge
  .refine ⟨_,h1 i _ (zKv hlt),⟨i+1,rfl,hlt⟩,?_⟩;show l.length-((i+1:Nat):Int).toNat<l.length-(i:Int).toNat;omega
  .have:i=l.length:=by omega
   subst this;exact ⟨_,h2,rfl⟩
theorem yY {α:Type}{l:List α}{i:Nat}{x:α}(h:l[i]? =some x):idx l (i:Int)=some x:=by
 rw [v8];simpa using h
theorem zi8 {α:Type}{l:List α}{i:Nat}{x:α}(h:l[i]? =some x):(i:Int)<(l.length:Int):=by
 have:=(zKC.1 h).1;omega
theorem yM {i:Nat}(h:i<1000000:=by omega):w64 ((i:Int)+1)=((i+1:Nat):Int):=by
 rw [yb];omega
theorem zix (a b c:Int):Zh a b c=some (decide (b<=a/\a<=c),()):=by
 rw [zu3,zp];by_cases h:b<=a
 .rw [zb h];simp [h]
 .rw [zc h];simp [h]
theorem zD5 {l:List Int}{h:zt}(hl:l.length<1000000) (hv:∀v∈l,0<=v/\v<=(h.Objs.length:Int)):wO l h=some (false,()):=by
 rw [Wn,Vj,zdl (b:=()) hl (fun i x hx=>?_) (by rw [uH];simp)]
 .rfl
 .have hm:=hv x (zKy hx);have hlt:=zi8 hx;rw [uH,zp,zb hlt,yY hx,zKt,zrm,zp,zc (show ¬x<0 by omega),zKt,yM];simp [show ¬(h.Objs.length:Int)<x by omega]
theorem zF2 {l:List Int}{n:Int}(hl:l.length<1000000) (hv:∀v∈l,0<=v/\v<=n):vg l n=some (false,()):=by
 rw [W4,V7,zdl (b:=()) hl (fun i x hx=>?_) (by rw [uT];simp)]
 .rfl
 .have hm:=hv x (zKy hx);have hlt:=zi8 hx;rw [uT,yY hx,zKt,ztx,zix,zKt,zKt,yM,zp,zb hlt];simp [hm]
theorem zzq {l:List (List Int)}{h:zt}(hl:l.length<1000000) (hs:h.Slots<1000000) (hv:∀o∈l,(o.length:Int)=h.Slots/\∀v∈o,0<=v/\v<=(h.Objs.length:Int)):wP l h=some (false,()):=by
 rw [Wm,Vu,zdl (b:=()) hl (fun i x hx=>?_) (by rw [uG];simp)]
 .rfl
 .have hm:=hv x (zKy hx);have hlt:=zi8 hx;rw [uG,yY hx,zKt,ztM,yq,zb hm.1,zD5 (by omega) hm.2,zKt,zKt,yM,zp,zb hlt];rfl
theorem zxn {r n:Int}(h:0<=r/\r<n) (h2:n<=4):yu r n=some (true,()):=by
 rw [zts,zp,zb h.1,zp];rw [zk];simp [h.2]
theorem zG6 {o:zE}{regs slots:Int}(h:zma o regs slots) (h2:regs<=4) (h3:slots<=4):zmq o regs slots=some (true,()):=by
 obtain ⟨hr,h⟩:=h;have e1:=zxn hr h2;have h4: ¬4<slots:=by omega
 rw [zwv];rcases h with ⟨hk | hk,ha,hs⟩ | ⟨hk,ha,hs⟩ | ⟨hk | hk,ha,hs⟩
 .have e2:=zxn ha h2;simp [hk,e1,e2,hs.1,hs.2,h4]
 .have e2:=zxn ha h2;simp [hk,e1,e2,hs.1,hs.2,h4]
 .have e2:=zxn ha h2;simp [hk,e1,e2,hs]
 .simp [hk,e1,ha,hs]
 .simp [hk,e1,ha,hs]
theorem zIB {l:List zE}{regs slots:Int}(hl:(l.length:Int)<=64) (h:∀o∈l,zma o regs slots) (h2:regs<=4) (h3:slots<=4):zoX l regs slots=some (true,()):=by
 rw [zxM,zp,zb hl,Y9,XO,zdl (b:=()) (by omega) (fun i x hx=>?_) (by rw [vK];simp)]
 .rfl
 .have hlt:=zi8 hx;rw [vK,yY hx,zKt,zul,zG6 (h x (zKy hx)) h2 h3,zKt,zKt,yM,zp,zb hlt];rfl
theorem zFl (a b:Int):zmc [] a b=some (true,()):=by
 rw [zxb,Yx,YW,zdl (b:=()) (by simp) (fun i x hx=>by simp at hx) (by rw [Yy];simp)];rfl
def xW (n:Int):BitVec 64:=if n<1 then 0#64 else 18446744073709551615#64 >>> (64-min n 64).toNat
theorem zfd (n:Int) (h:0<=n):UE n=some (xW n,()):=by
 rw [zxX,zp];unfold xW;by_cases h1:n<1
 .rw [zb h1,zb h1]
 .rw [zc h1,zc h1];simp only [zp];have e:(if 64<n then (64:Int) else n)=min n 64:=by
   by_cases h2:64<n
   .rw [zb h2];omega
   .rw [zc h2];omega
  rw [e,yb,zk,Nat.min_eq_left (by omega)]
theorem zzz:∀(r n:Fin 7),r.1<=n.1->bit (r.1:Int)&&& ~~~xW (n.1:Int)=0#64:=by decide
theorem zt1 {p:zd}(h:zJ p):p.Roots&&& ~~~xW (p.H.Objs.length:Int)=0#64:=by
 obtain ⟨r,h1,h2,h3⟩:=h.roots;have hn:=h.n;have:=zzz ⟨r.toNat,by omega⟩ ⟨p.H.Objs.length,by omega⟩ (by show r.toNat<=p.H.Objs.length;omega);rw [h3];simpa [Int.toNat_of_nonneg h1] using this
theorem zEb {p:zd}(h:zJ p):zdR p=some (true,()):=by
 obtain ⟨h1,h2,h3,h4,h5,h6,h7,_⟩:=h;rw [zqY];simp only [zix,zKt,zp];rw [yg,yg,yg,yg,yg,zb (by split<;>omega)];have:(if p.Price<p.Limit then p.Limit else p.Price)<=1000000:=by split<;>omega
 simp [this]
theorem zEg {p:zd}(h:zJ p):XK p.H=some (true,()):=by
 have:=h.slots;have:=h.n;rw [znY,zp,yg,zp,yg,zp,yg,zzq (by omega) (by omega) h.objs];rfl
theorem zDZ {p:zd}(h:zJ p):zlP p=some (true,()):=by
 have hn:=h.n;have hm:=h.most;have hsl:=h.slots;have hmt:=h.mt;have hrl:=h.regs;have hpl:=h.progs;rw [zvJ,zEb h];simp only [zKt,zKI,zM,zEg h,zix];rw [show decide ((p.H.Objs.length:Int)<=p.Most/\p.Most<=64)=true by simp;omega];simp only [zKI,zM,zfd _ (show (0:Int)<=(p.H.Objs.length:Int) by omega),zKt,Y7,zt1 h,decide_true,yq,zb h.regs,zb h.progs];rw [zdl (b:=(p,())) (by omega) (fun i x hx=>?_) (by rw [ziK];simp)]
 .simp [h.picks,zFl]
 .have hlt:=zi8 hx;have hr:=h.reg x (zKy hx);obtain ⟨ops,hops⟩:∃ops,p.Progs[i]? =some ops:=⟨_,zKv (by omega)⟩
  obtain ⟨o1,o2⟩:=h.prog i x ops hx hops;rw [ziK,zp,zb hlt,yY hx];simp only [zKt,zix];rw [show decide (1<=(x.length:Int)/\(x.length:Int)<=4)=true by simp;omega];simp only [zKI,zM,zF2 (show x.length<1000000 by omega) hr.2,zKt,yY hops,zIB (show (ops.length:Int)<=64 by omega) o2 (show (x.length:Int)<=4 by omega) (show p.H.Slots<=4 by omega),yM (show i<1000000 by omega)]
theorem zmf {n:Int}(h:0<=n) (h2:n<4294967296):VE n=some n.toNat:=by rw [znw];simp [h,h2]
theorem zzu {n:Int}(h:0<n) (h2:n<4294967296):zjp n=some n.toNat:=by rw [zvE];simp [h,h2]
def WV (l:List Int):BitVec 64:=l.foldl (fun s o=>s|||bit o) 0#64
def uB (p:zd):BitVec 64:=p.Regs.foldl (fun s l=>s|||WV l) p.Roots
def zId (a1:BitVec 64):BitVec 64 :=
 let a:=((a1 >>> 1)&&&6148914691236517205#64)+(a1&&&6148914691236517205#64);let b:=((a >>> 2)&&&3689348814741910323#64)+(a&&&3689348814741910323#64);let c:=((b >>> 4)+b)&&&1085102592571150095#64;let d:=c+(c >>> 8);let e:=d+(d >>> 16)
 e+(e >>> 32)
def cnt (s:BitVec 64):Int:=(zMs 64 (zId s).toInt&&&zMs 64 127).toInt
theorem znW (s:BitVec 64):zbR s=some (cnt s,()):=by
 rw [zya,zpg,zB8];rfl
theorem WH {m:List Int}(h:m.length<4294967296):xj m=some (m,()):=by
 rw [zjE,zKG,yQ h,zKt];cases m with
 | nil=>simp [zfm]
 | cons a l=>simp
theorem zvH {l:List Int}(hl:l.length<1000000):zhF l=some (WV l,()):=by
 rw [zCN];refine (wN (f:=zoh) (fun a=>∃i:Nat,a=((l.take i).foldl (fun s o=>s|||bit o) 0#64,l,(l.length:Int),(i:Int),())/\i<=l.length) (fun a=>l.length-a.2.2.2.1.toNat) (fun o=>o= .brk (WV l,())) ?_ (0#64,l,(l.length:Int),0,()) ⟨0,rfl,by omega⟩ (ui (by simp;omega))).elim fun o h=>?_;rotate_left
 .rw [h.1,h.2];rfl
 .rintro _ ⟨i,rfl,hi⟩;rw [zyC,zp];rcases zK5 i l.length with hlt | hge
  .have hx:=zKv hlt;rw [yg,yY hx,zKt,zhY,zKt,yM];refine ⟨_,rfl,⟨i+1,?_,hlt⟩,?_⟩
   .rw [zLQ,hx];simp only [Option.toList_some,List.foldl_append,zLk,List.foldl_nil]
   .show l.length-((i+1:Nat):Int).toNat<l.length-(i:Int).toNat;omega
  .rw [zk];have:i=l.length:=by omega
   subst this;exact ⟨_,rfl,by rw [zMa];rfl⟩
theorem zwm {p:zd}(hl:p.Regs.length<1000000) (hr:∀r∈p.Regs,r.length<1000000):zf2 p=some (uB p,()):=by
 rw [zwY];refine (wN (f:=zgl) (fun a=>∃i:Nat,a=((p.Regs.take i).foldl (fun s l=>s|||WV l) p.Roots,p.Regs,(p.Regs.length:Int),(i:Int),())/\i<=p.Regs.length) (fun a=>p.Regs.length-a.2.2.2.1.toNat) (fun o=>o= .brk (uB p,())) ?_ (p.Roots,p.Regs,(p.Regs.length:Int),0,()) ⟨0,rfl,by omega⟩ (ui (by simp;omega))).elim fun o h=>?_;rotate_left
 .rw [h.1,h.2];rfl
 .rintro _ ⟨i,rfl,hi⟩;rw [zr7,zp];rcases zK5 i p.Regs.length with hlt | hge
  .have hx:=zKv hlt;rw [yg,yY hx,zKt,zvH (hr _ (zKR hlt)),zKt,yM];refine ⟨_,rfl,⟨i+1,?_,hlt⟩,?_⟩
   .rw [zLQ,hx];simp only [Option.toList_some,List.foldl_append,zLk,List.foldl_nil]
   .show p.Regs.length-((i+1:Nat):Int).toNat<p.Regs.length-(i:Int).toNat;omega
  .rw [zk];have:i=p.Regs.length:=by omega
   subst this;exact ⟨_,rfl,by rw [zMa];rfl⟩
theorem zFE {l:List (List Int)}(hl:l.length<1000000) (h:∀r∈l,r.length<1000000):vP l=some (l,()):=by
 have key:∀n:Int,n=(l.length:Int)->yf xn (n,0,l,())=some (.brk (l,())):=by
  rintro _ rfl;refine (wN (f:=xn) (fun a=>∃i:Nat,a=((l.length:Int),(i:Int),l,())/\i<=l.length) (fun a=>l.length-a.2.1.toNat) (fun o=>o= .brk (l,())) ?_ ((l.length:Int),0,l,()) ⟨0,rfl,by omega⟩ (ui (by simp;omega))).elim fun o h=>?_;rotate_left
  .rw [h.1,h.2]
  .rintro _ ⟨i,rfl,hi⟩;rw [Vq,zp];rcases zK5 i l.length with hlt | hge
   .have hx:=zKv hlt;have hr:=h _ (zKR hlt);have e:wj l (i:Int)=some i:=by rw [vS];simp
    rw [yg,e];simp only [zKt];rw [hx,zKt,WH (by omega),zKt,yM];refine ⟨_,rfl,⟨i+1,by simp,hlt⟩,?_⟩;show l.length-((i+1:Nat):Int).toNat<l.length-(i:Int).toNat;omega
   .rw [zk];have:i=l.length:=by omega
    subst this;exact ⟨_,rfl,rfl⟩
 have hc:VE (l.length:Int)=some l.length:=by rw [zmf (by omega) (by omega)];simp
 rw [Ur];simp only [decide_true,zu,hc,zKt,zLa];cases l with
 | nil=>simp;rw [key 0 rfl];rfl
 | cons a r=>simp only [List.isEmpty_cons,zM];rw [key _ rfl];rfl
def zi9 (cap:Int):List (BitVec 64):=[1#64,1#64]++zMr cap.toNat 0#64
theorem zDj {c:Int}(h:1<=c) (h2:c<=64):zj1 c=some (zi9 c,()):=by
 have e:(if 64<(if c<1 then (1:Int) else c) then (64:Int) else (if c<1 then (1:Int) else c))=c:=by
  rw [zc (show ¬c<1 by omega),zk]
 have w:w64 (2+c)=2+c:=yb;have hc:VE (2+c)=some (2+c.toNat):=by rw [zmf (by omega) (by omega)];congr 1;omega
 rw [zuQ];simp only [zp,e,w,if_true,hc,zKt];rw [vS (by omega) (by simp;omega),zKt,vS (by omega) (by simp;omega),zKt];have e2:zMr (2+c.toNat) 0#64=0#64::0#64::zMr c.toNat 0#64:=by rw [Nat.add_comm 2];rfl
 rw [e2];rfl
theorem zEx {m:Int}(h:0<=m) (h2:m<=16):zmV m=some (⟨0,0,0,zMr m.toNat 0⟩,()):=by
 have e:(if (if 16<m then (16:Int) else m)<0 then (0:Int) else (if 16<m then (16:Int) else m))=m:=by
  rw [zc (show ¬16<m by omega),zk]
 have hc:VE m=some m.toNat:=zmf (by omega) (by omega);rw [zwo];simp only [zp,e,if_true,hc,zKt]
def links (m:List (BitVec 64)) (next:Int):List Int->List (BitVec 64)
 | []=>m
 | [a]=>st m (wc (next+a)) 0#64
 | a::b::l=>links (st m (wc (next+a)) (zMs 64 b)) next (b::l)
def zeT (m:List (BitVec 64)) (head next:Int) (l:List Int):List (BitVec 64):=st (links m next l) head (xR 0#64 (l.headD 0))
theorem YD (m:List (BitVec 64)) (a:Int) (v:BitVec 64):(st m a v).length=m.length:=by unfold st;split<;>simp
theorem zfa:∀(l:List Int) (m:List (BitVec 64)) (n:Int),(links m n l).length=m.length
 | [],_,_=>rfl
 | [a],m,n=>YD _ _ _
 | a::b::l,m,n=>by simp only [links];rw [zfa (b::l),YD]
theorem zu4 (m:List (BitVec 64)) (h n:Int) (l:List Int):(zeT m h n l).length=m.length:=by unfold zeT;rw [YD,zfa]
theorem zvp {head next:Int}{l:List Int}(hl:l.length<1000000):∀(k:Nat) (m:List (BitVec 64)) (i:Nat),l.length-i=k->i<=l.length->m.length<4294967296 ->
  ∀n,k<n->yZ zhr n (m,head,next,l,(l.length:Int),(i:Int),())=some (.brk (links m next (l.drop i),head,l,()))
 | 0,m,i,hk,hi,hm,n+1,hn=>by
  have:i=l.length:=by omega
  subst this;simp only [yZ];rw [zkr,zp,zk,zKt,List.drop_length];rfl
 | k+1,m,i,hk,hi,hm,n+1,hn=>by
  have hlt:i<l.length:=by omega
  have hx:=zKv hlt;simp only [yZ];rw [zkr,zp,yg,yM,zp,xV];by_cases h2:i+1<l.length
  .have hy:=zKv h2;have ed:l.drop i=l[i]::l[i+1]::l.drop (i+2):=by
    rw [zK4 hlt,zK4 h2]
   rw [yg,yY hy,zKt,yY hx,zKt,zd4 hm,zKt,zKt];dsimp only;rw [zvp hl k _ (i+1) (by omega) (by omega) (by rw [YD];exact hm) n (by omega),ed];rw [zK4 h2];rfl
  .have ed:l.drop i=[l[i]]:=by
    rw [zK4 hlt,zL4 (by omega)]
   rw [zk,yY hx,zKt,zd4 hm,zKt,zKt];dsimp only;rw [zvp hl k _ (i+1) (by omega) (by omega) (by rw [YD];exact hm) n (by omega),ed,zL4 (by omega)];rfl
theorem zzi {m:List (BitVec 64)}(hm:m.length<4294967296) {head next:Int}{l:List Int}(hl:l.length<1000000):zif m head next l=some (zeT m head next l,()):=by
 have e:=zvp (head:=head) (next:=next) hl l.length m 0 (by omega) (by omega) hm vZ (ui (by omega));rw [show ((0:Nat):Int)=0 from rfl] at e;rw [zxV,Xh,e];simp only [zKt,List.drop_zero,zp];unfold zeT;cases l with
 | nil =>
  rw [zc (by simp),zk1,zKt,zd4 (by rw [zfa];exact hm)];rfl
 | cons a r =>
  have:idx (a::r) 0=some a:=by rw [v8];rfl
  rw [zb (by simp),this,zKt,zk1,zKt,zd4 (by rw [zfa];exact hm)];rfl
def zpW:Nat->BitVec 64->Option (List Int)
 | 0,_=>none
 | f+1,s=>bif decide (s=0#64) then some [] else (zpW f (s&&&(s-1#64))).map fun l=>(((Go.Lib.ctz 64 s.toNat:Nat):Int)+1)::l
theorem zCX:∀t:Fin 64,zpW 66 (zMq 64 t.1)=some (((zMt 6).filter fun i=>(zMq 64 t.1).getLsbD i).map fun i:Nat=>(i:Int)+1):=by decide +kernel
def VB (s:BitVec 64):List Int:=((zMt 6).filter fun i=>s.getLsbD i).map fun i:Nat=>(i:Int)+1
theorem zCw {s:BitVec 64}(h:s&&& ~~~63#64=0#64):∃t:Fin 64,s=zMq 64 t.1:=by
 have h2:s=s&&&63#64:=by
  apply zL0;intro i hi;have:=congrArg (fun x=>x.getLsbD i) h;simp only [zLJ,zMb,hi,decide_true,zLu,zL1] at this ⊢;cases h1:s.getLsbD i<;>cases h3:(63#64:BitVec 64).getLsbD i<;>simp_all
 have h3:s.toNat<64:=by
  rw [h2,zLz];exact zMc Nat.and_le_right (by decide)
 exact ⟨⟨s.toNat,h3⟩,by simp⟩
theorem zKb:∀t:Fin 64,Go.Lib.ctz 64 t.1<=64:=by decide +kernel
theorem zze:∀(f:Nat) (s:BitVec 64),s.toNat<64->zan f s=zpW f s
 | 0,_,_=>rfl
 | f+1,s,h=>by
  simp only [zan,zpW];rw [zze f _ (by rw [zLz];exact zMc Nat.and_le_left h)];have:Go.Lib.ctz 64 s.toNat<=64:=zKb ⟨s.toNat,h⟩;have e:w64 (tz s+1)=((Go.Lib.ctz 64 s.toNat:Nat):Int)+1:=by
   unfold tz;exact yb
  rw [e]
theorem zqK:∀(l acc:List Int),(acc.length+l.length)<4294967296->Z3 zjL l (acc,())=some (acc++l,())
 | [],acc,_=>by simp [Z3]
 | a::l,acc,h=>by
  simp only [zKM] at h;rw [Z3,zuA,yQ (by simp;omega),zKt,zKt,zqK l _ (by simp;omega)];simp
theorem zGE (s:BitVec 64):(VB s).length<=6:=by
 unfold VB;rw [zLq];exact zLB (zLI _ _) (by simp)
theorem zH4 {s:BitVec 64}(h:s&&& ~~~63#64=0#64):zf7 s=some (VB s,()):=by
 obtain ⟨t,rfl⟩:=zCw h;have e:zlA (zMq 64 t.1)=some (VB (zMq 64 t.1)):=by
  show zan 66 _=_;rw [zze 66 _ (by simp;omega),zCX t];rfl
 have:=zGE (zMq 64 t.1);rw [zri,zrh,zKt,e,zKt,zqK _ _ (by simp;omega)];rfl
theorem zvN (n:Nat) (hn:1<=n):∀(f:Nat) (l:List Int),(un n f l).length<=l.length
 | 0,l=>by simp [un]
 | f+1,[]=>by simp [un]
 | f+1,x::l=>by
  have:=zvN n hn f ((x::l).drop n);simp only [un,zKM,zLM] at this ⊢;omega
theorem zoB (n:Nat):∀(f:Nat) (l c:List Int),c∈un n f l->c.length<=l.length
 | 0,l,c,h=>by simp [un] at h
 | f+1,[],c,h=>by simp [un] at h
 | f+1,x::l,c,h=>by
  simp only [un,zKN] at h;rcases h with rfl | h
  .rw [zLF];exact Nat.min_le_right _ _
  .have:=zoB n f _ c h;simp only [zLM] at this;omega
def ub (p:zd) (w:Nat):zi:=⟨0,0,0,(w:Int)+1,0,[],⟨2,0,z6 p ((w:Int)+1),p.Cap,0#64,0#64,0,0⟩,⟨0,0,0,0,0#64,0,0,0⟩,⟨0,0,0,0,⟨0,0,0,0,0#64,0#64,0,0⟩,⟨0,0,0,0,0#64,0,0,0⟩,0,0⟩⟩
def Xy (p:zd) (k:Nat):List (BitVec 64):=(zMt k).flatMap fun _=>zi9 p.Cap
theorem zvC (c:Int):(zi9 c).length=c.toNat+2:=by unfold zi9;rw [zKH,zLa];exact Nat.add_comm _ _
theorem zok (p:zd) (k:Nat):Xy p (k+1)=Xy p k++zi9 p.Cap:=by unfold Xy;rw [zLU,zLV];simp
theorem zbi (p:zd):∀k,(Xy p k).length=k*(p.Cap.toNat+2)
 | 0=>by simp [Xy]
 | k+1=>by rw [zok,zKH,zbi p k,zvC,Nat.succ_mul]
theorem zJw {p:zd}{s1:BitVec 64}{s5:Int}{s6:Int}{s7:Int}{s8:Int}{s9:Int}{s10:Int}{s11:Int}{s12:Int}{s13:Int}{s14:BitVec 64}{s15:Int}{s16:zx}{s17:Int}{s18:Int}{s19:Bool}{s20:Bool}{s21:Int}{s22:Int}{s23:Int}{s24:Int}{s25:zO}{s26:zd}{s27:Int}{s28:zx}{s29:Int}{s30:Int}{s31:Bool}{s32:Bool}{s33:Int}{s34:zy}{s35:zO}{s36:List (List Int)}{s37:List (List Int)}{s38:List (List zE)}{s39:List zm}{s40:List (List Int)}{s41:List (BitVec 64)}{s42:List (List Int)}{s43:List Int}{s44:List Int}{s45:List zi}{s46:List ze}{s47:List (List Int)}{s49:List (List Int)}{s50:List Int}{s52:List ze}(hp:zJ p) :
  yf zdo (s1,p.Workers,0,p,s5,s6,s7,s8,s9,s10,s11,s12,s13,s14,s15,s16,s17,s18,s19,s20,s21,s22,s23,s24,s25,s26,s27,s28,s29,s30,s31,s32,s33,s34,s35,s36,s37,s38,s39,s40,s41,s42,s43,s44,s45,s46,s47,[],s49,s50,[],s52,())=some (.brk (s1,p,s5,s6,s7,s8,s9,s10,s11,s12,s13,s14,s15,s16,s17,s18,s19,s20,s21,s22,s23,s24,s25,s26,s27,s28,s29,s30,s31,s32,s33,s34,s35,s36,s37,s38,s39,s40,s41,s42,s43,s44,s45,s46,s47,(Xy p p.Workers.toNat),s49,s50,((zMt p.Workers.toNat).map (ub p)),s52,())):=by
 have hw:=hp.wk;have hc:=hp.cap;refine (wN (f:=zdo) (fun a=>∃i:Nat,a=(s1,p.Workers,(i:Int),p,s5,s6,s7,s8,s9,s10,s11,s12,s13,s14,s15,s16,s17,s18,s19,s20,s21,s22,s23,s24,s25,s26,s27,s28,s29,s30,s31,s32,s33,s34,s35,s36,s37,s38,s39,s40,s41,s42,s43,s44,s45,s46,s47,(Xy p i),s49,s50,((zMt i).map (ub p)),s52,())/\(i:Int)<=p.Workers) (fun a=>(p.Workers-a.2.2.1).toNat) (fun o=>o= .brk (s1,p,s5,s6,s7,s8,s9,s10,s11,s12,s13,s14,s15,s16,s17,s18,s19,s20,s21,s22,s23,s24,s25,s26,s27,s28,s29,s30,s31,s32,s33,s34,s35,s36,s37,s38,s39,s40,s41,s42,s43,s44,s45,s46,s47,(Xy p p.Workers.toNat),s49,s50,((zMt p.Workers.toNat).map (ub p)),s52,())) ?_ (s1,p.Workers,0,p,s5,s6,s7,s8,s9,s10,s11,s12,s13,s14,s15,s16,s17,s18,s19,s20,s21,s22,s23,s24,s25,s26,s27,s28,s29,s30,s31,s32,s33,s34,s35,s36,s37,s38,s39,s40,s41,s42,s43,s44,s45,s46,s47,[],s49,s50,[],s52,()) ⟨0,rfl,by omega⟩ (ui (by dsimp only;omega))).elim fun o h=>?_;rotate_left
 .rw [h.1,h.2]
 .rintro _ ⟨i,rfl,hi⟩;rw [ztD,zp];by_cases hlt:(i:Int)<p.Workers
  .have hl:=zbi p i;have hl2:=zvC p.Cap;have hb:i*(p.Cap.toNat+2)<=3*5:=zLW (by omega) (by omega);rw [zb hlt,zDj hc.1 (by omega),zKt,yQ (l:=Xy p i++zi9 p.Cap) (by rw [zKH];omega),zKt,zbU,zKt,zbf,zKt,yQ (by simp<;>omega),zKt,yM];refine ⟨_,rfl,⟨i+1,?_,by omega⟩,?_⟩
   .rw [zok,zLU,List.map_append];rfl
   .show (p.Workers-((i+1:Nat):Int)).toNat<(p.Workers-(i:Int)).toNat;omega
  .rw [zc hlt];have:i=p.Workers.toNat:=by omega
   subst this;exact ⟨_,rfl,rfl⟩
def we (k:Nat):List Int:=(zMt k).map fun i:Nat=>(i:Int)+1
theorem zCa (k:Nat):(we k).length=k:=by simp [we]
theorem zIl {b:Int}{s1:BitVec 64}{s4:zd}{s5:Int}{s6:Int}{s7:Int}{s8:Int}{s9:Int}{s10:Int}{s11:Int}{s12:Int}{s13:Int}{s14:BitVec 64}{s15:Int}{s16:zx}{s17:Int}{s18:Int}{s19:Bool}{s20:Bool}{s21:Int}{s22:Int}{s23:Int}{s24:Int}{s25:zO}{s26:zd}{s27:Int}{s28:zx}{s29:Int}{s30:Int}{s31:Bool}{s32:Bool}{s33:Int}{s34:zy}{s35:zO}{s37:List (List Int)}{s38:List (List Int)}{s39:List (List zE)}{s40:List zm}{s41:List (List Int)}{s42:List (BitVec 64)}{s43:List (List Int)}{s44:List Int}{s45:List Int}{s46:List zi}{s47:List ze}{s48:List (List Int)}{s49:List (BitVec 64)}{s50:List (List Int)}{s51:List Int}{s52:List zi}{s53:List ze}(hb:0<=b/\b<1000) :
  yf zcn (s1,b,0,s4,s5,s6,s7,s8,s9,s10,s11,s12,s13,s14,s15,s16,s17,s18,s19,s20,s21,s22,s23,s24,s25,s26,s27,s28,s29,s30,s31,s32,s33,s34,s35,[],s37,s38,s39,s40,s41,s42,s43,s44,s45,s46,s47,s48,s49,s50,s51,s52,s53,())=some (.brk (s1,s4,s5,s6,s7,s8,s9,s10,s11,s12,s13,s14,s15,s16,s17,s18,s19,s20,s21,s22,s23,s24,s25,s26,s27,s28,s29,s30,s31,s32,s33,s34,s35,(we b.toNat),s37,s38,s39,s40,s41,s42,s43,s44,s45,s46,s47,s48,s49,s50,s51,s52,s53,())):=by
 refine (wN (f:=zcn) (fun a=>∃i:Nat,a=(s1,b,(i:Int),s4,s5,s6,s7,s8,s9,s10,s11,s12,s13,s14,s15,s16,s17,s18,s19,s20,s21,s22,s23,s24,s25,s26,s27,s28,s29,s30,s31,s32,s33,s34,s35,(we i),s37,s38,s39,s40,s41,s42,s43,s44,s45,s46,s47,s48,s49,s50,s51,s52,s53,())/\(i:Int)<=b) (fun a=>(b-a.2.2.1).toNat) (fun o=>o= .brk (s1,s4,s5,s6,s7,s8,s9,s10,s11,s12,s13,s14,s15,s16,s17,s18,s19,s20,s21,s22,s23,s24,s25,s26,s27,s28,s29,s30,s31,s32,s33,s34,s35,(we b.toNat),s37,s38,s39,s40,s41,s42,s43,s44,s45,s46,s47,s48,s49,s50,s51,s52,s53,())) ?_ (s1,b,0,s4,s5,s6,s7,s8,s9,s10,s11,s12,s13,s14,s15,s16,s17,s18,s19,s20,s21,s22,s23,s24,s25,s26,s27,s28,s29,s30,s31,s32,s33,s34,s35,[],s37,s38,s39,s40,s41,s42,s43,s44,s45,s46,s47,s48,s49,s50,s51,s52,s53,()) ⟨0,rfl,by omega⟩ (ui (by dsimp only;omega))).elim fun o h=>?_;rotate_left
 .rw [h.1,h.2]
 .rintro _ ⟨i,rfl,hi⟩;rw [zso,zp];by_cases hlt:(i:Int)<b
  .have:=zCa i;rw [zb hlt,yQ (by rw [zKH];simp;omega),zKt,yM];refine ⟨_,rfl,⟨i+1,?_,by omega⟩,?_⟩
   .unfold we;rw [zLU,List.map_append];rfl
   .show (b-((i+1:Nat):Int)).toNat<(b-(i:Int)).toNat;omega
  .rw [zc hlt];have:i=b.toNat:=by omega
   subst this;exact ⟨_,rfl,rfl⟩
theorem zDD {s1:zd}{s2:Int}{s3:Int}{s4:Int}{s5:Int}{s6:Int}{s7:Int}{s8:Int}{s9:Int}{s10:Int}{s11:BitVec 64}{s12:Int}{s13:zx}{s14:Int}{s15:Int}{s16:Bool}{s17:Bool}{s18:Int}{s19:Int}{s20:Int}{s21:Int}{s22:zO}{s23:zd}{s24:Int}{s25:zx}{s26:Int}{s27:Int}{s28:Bool}{s29:Bool}{s30:Int}{s31:zy}{s32:zO}{s33:List Int}{s34:List (List Int)}{s35:List (List Int)}{s36:List (List zE)}{s37:List zm}{s38:List (List Int)}{s39:List (BitVec 64)}{s40:List (List Int)}{s41:List Int}{s42:List Int}{s43:List zi}{s44:List ze}{s45:List (List Int)}{s46:List (BitVec 64)}{s48:List Int}{s49:List zi}{s50:List ze}:∀(ys acc:List (List Int)),acc.length+ys.length<1000000->(∀c∈ys,c.length<1000000)->Z3 zfD ys (s1,s2,s3,s4,s5,s6,s7,s8,s9,s10,s11,s12,s13,s14,s15,s16,s17,s18,s19,s20,s21,s22,s23,s24,s25,s26,s27,s28,s29,s30,s31,s32,s33,s34,s35,s36,s37,s38,s39,s40,s41,s42,s43,s44,s45,s46,acc,s48,s49,s50,())=some (s1,s2,s3,s4,s5,s6,s7,s8,s9,s10,s11,s12,s13,s14,s15,s16,s17,s18,s19,s20,s21,s22,s23,s24,s25,s26,s27,s28,s29,s30,s31,s32,s33,s34,s35,s36,s37,s38,s39,s40,s41,s42,s43,s44,s45,s46,(acc++ys),s48,s49,s50,())
 | [],acc,_,_=>by simp [Z3]
 | y::ys,acc,h,hc=>by
  simp only [zKM] at h;have hy:=hc y (zKJ ..);rw [Z3,zr0,WH (by omega),zKt,yQ (by simp<;>omega),zKt,zKt,zDD ys _ (by simp<;>omega) (fun c h'=>hc c (zKA _ h'))];simp
def wp (r:List Int):ze:=⟨0,0,0,0,0,0,0,0,r,[],[],⟨0,0,0,0,0#64,0,0,0⟩,⟨0,0,0,0,⟨0,0,0,0,0#64,0#64,0,0⟩,⟨0,0,0,0,0#64,0,0,0⟩,0,0⟩⟩
theorem zIU {p:zd}{s4:Int}{s5:Int}{s6:Int}{s7:Int}{s8:Int}{s9:Int}{s10:Int}{s11:Int}{s12:Int}{s13:BitVec 64}{s14:Int}{s15:zx}{s16:Int}{s17:Int}{s18:Bool}{s19:Bool}{s20:Int}{s21:Int}{s22:Int}{s23:Int}{s24:zO}{s25:zd}{s26:Int}{s27:List (BitVec 64)}{s28:zx}{s29:Int}{s30:Int}{s31:Bool}{s32:Bool}{s33:Int}{s34:zy}{s35:zO}{s36:List (List Int)}{s37:List (List Int)}{s38:List (List zE)}{s39:List zm}{s40:List (List Int)}{s41:List (BitVec 64)}{s42:List (List Int)}{s43:List Int}{s44:List Int}{s45:List zi}{s46:List ze}{s47:List (List Int)}{s48:List (List Int)}{s49:List Int}{s50:List zi}(hl:p.Regs.length<1000000) (hr:∀r∈p.Regs,r.length<1000000) :
  yf zcr (p.Regs,(p.Regs.length:Int),0,s4,s5,s6,s7,s8,s9,s10,s11,s12,s13,s14,s15,s16,s17,s18,s19,s20,s21,s22,s23,s24,s25,s26,s27,s28,s29,s30,s31,s32,s33,s34,s35,s36,s37,s38,s39,s40,s41,s42,s43,s44,s45,s46,s47,s48,s49,s50,[],())=some (.brk (s4,s5,s6,s7,s8,s9,s10,s11,s12,s13,s14,s15,s16,s17,s18,s19,s20,s21,s22,s23,s24,s25,s26,s27,s28,s29,s30,s31,s32,s33,s34,s35,s36,s37,s38,s39,s40,s41,s42,s43,s44,s45,s46,s47,s48,s49,s50,(p.Regs.map wp),())):=by
 refine (wN (f:=zcr) (fun a=>∃i:Nat,a=(p.Regs,(p.Regs.length:Int),(i:Int),s4,s5,s6,s7,s8,s9,s10,s11,s12,s13,s14,s15,s16,s17,s18,s19,s20,s21,s22,s23,s24,s25,s26,s27,s28,s29,s30,s31,s32,s33,s34,s35,s36,s37,s38,s39,s40,s41,s42,s43,s44,s45,s46,s47,s48,s49,s50,((p.Regs.take i).map wp),())/\i<=p.Regs.length) (fun a=>p.Regs.length-a.2.2.1.toNat) (fun o=>o= .brk (s4,s5,s6,s7,s8,s9,s10,s11,s12,s13,s14,s15,s16,s17,s18,s19,s20,s21,s22,s23,s24,s25,s26,s27,s28,s29,s30,s31,s32,s33,s34,s35,s36,s37,s38,s39,s40,s41,s42,s43,s44,s45,s46,s47,s48,s49,s50,(p.Regs.map wp),())) ?_ (p.Regs,(p.Regs.length:Int),0,s4,s5,s6,s7,s8,s9,s10,s11,s12,s13,s14,s15,s16,s17,s18,s19,s20,s21,s22,s23,s24,s25,s26,s27,s28,s29,s30,s31,s32,s33,s34,s35,s36,s37,s38,s39,s40,s41,s42,s43,s44,s45,s46,s47,s48,s49,s50,[],()) ⟨0,rfl,by omega⟩ (ui (by dsimp only;omega))).elim fun o h=>?_;rotate_left
 .rw [h.1,h.2]
 .rintro _ ⟨i,rfl,hi⟩;rw [zsL,zp];rcases zK5 i p.Regs.length with hlt | hge
  .have hx:=zKv hlt;have hh:=hr _ (zKR hlt);rw [yg,yY hx,zKt,WH (by omega),zKt,yQ (by simp<;>omega),zKt,yM];refine ⟨_,rfl,⟨i+1,?_,hlt⟩,?_⟩
   .rw [zLQ,hx,List.map_append];rfl
   .show p.Regs.length-((i+1:Nat):Int).toNat<p.Regs.length-(i:Int).toNat;omega
  .rw [zk];have:i=p.Regs.length:=by omega
   subst this;exact ⟨_,rfl,by rw [zMa]⟩
def yh (p:zd):Nat:=(p.Most+p.Workers+p.Mutators).toNat
def xM (p:zd):List (List Int):=un p.Bin.toNat (VB (uB p)).length (VB (uB p))
def xk (p:zd):za :=
 {P:=p,H:=p.H,
  M:=zeT (zeT (Xy p p.Workers.toNat++zMr (2+yh p) 0#64) (yt p) (zT p) ((we (yh p)).take (xM p).length)) (zT p) (zT p) ((we (yh p)).drop (xM p).length),
  Bins:=[[]]++xM p++zMr (yh p-(xM p).length) [],
  T:=⟨uB p,0#64⟩,Work:=cnt (uB p),Epoch:=0,Flag:=false,Done:=false,Restarts:=0,
  Acks:=zMr p.Mutators.toNat 0,L:=⟨0,0,0,zMr p.Mutators.toNat 0⟩,
  Ws:=(zMt p.Workers.toNat).map (ub p),Ms:=p.Regs.map wp,D:=⟨0,0⟩}
theorem zFY {r n:Int}(h:0<=r) (h2:r<=n) (h3:n<=6):bit r&&& ~~~xW n=0#64:=by
 have:=zzz ⟨r.toNat,by omega⟩ ⟨n.toNat,by omega⟩ (by show r.toNat<=n.toNat;omega);simpa [Int.toNat_of_nonneg h,Int.toNat_of_nonneg (show 0<=n by omega)] using this
theorem zBY {a b c:BitVec 64}(ha:a&&& ~~~c=0#64) (hb:b&&& ~~~c=0#64):(a|||b)&&& ~~~c=0#64:=by
 apply zL0;intro i hi;have h1:=congrArg (fun x=>x.getLsbD i) ha;have h2:=congrArg (fun x=>x.getLsbD i) hb;simp only [zLJ,BitVec.getLsbD_or,zMb,zL1,hi,decide_true,zLu] at h1 h2 ⊢;revert h1 h2;generalize a.getLsbD i=x;generalize b.getLsbD i=y;generalize c.getLsbD i=z;cases x<;>cases y<;>cases z<;>decide
theorem zEr {c:BitVec 64}{l:List Int}(h:∀o∈l,bit o&&& ~~~c=0#64):∀(z:BitVec 64),z&&& ~~~c=0#64->l.foldl (fun s o=>s|||bit o) z&&& ~~~c=0#64:=by
 induction l with
 | nil=>intro z hz;exact hz
 | cons a l ih=>intro z hz;exact ih (fun o ho=>h o (zKA _ ho)) _ (zBY hz (h a (zKJ ..)))
theorem zo4 {p:zd}(h:zJ p):uB p&&& ~~~xW (p.H.Objs.length:Int)=0#64:=by
 have hn:=h.n;have key:∀(L:List (List Int)) (z:BitVec 64),(∀r∈L,∀v∈r,0<=v/\v<=(p.H.Objs.length:Int))->z&&& ~~~xW (p.H.Objs.length:Int)=0#64->L.foldl (fun s l=>s|||WV l) z&&& ~~~xW (p.H.Objs.length:Int)=0#64:=by
  intro L
  induction L with
  | nil=>intro z _ hz;exact hz
  | cons r L ih =>
   intro z hr hz;refine ih _ (fun r' h'=>hr r' (zKA _ h')) (zBY hz (zEr (fun o ho=>?_) _ (by simp)));have:=hr r (zKJ ..) o ho;exact zFY this.1 this.2 hn.2
 exact key _ _ (fun r hr=>(h.reg r hr).2) (zt1 h)
theorem zDd {a b c:BitVec 64}(h:a&&& ~~~b=0#64) (h2:b&&& ~~~c=0#64):a&&& ~~~c=0#64:=by
 apply zL0;intro i hi;have h1:=congrArg (fun x=>x.getLsbD i) h;have h2:=congrArg (fun x=>x.getLsbD i) h2;simp only [zLJ,zMb,zL1,hi,decide_true,zLu] at h1 h2 ⊢;revert h1 h2;generalize a.getLsbD i=x;generalize b.getLsbD i=y;generalize c.getLsbD i=z;cases x<;>cases y<;>cases z<;>decide
theorem zCM:∀n:Fin 7,xW (n.1:Int)&&& ~~~63#64=0#64:=by decide
theorem zid {p:zd}(h:zJ p):uB p&&& ~~~63#64=0#64:=by
 have hn:=h.n;refine zDd (zo4 h) ?_;exact zCM ⟨p.H.Objs.length,by omega⟩
theorem zDV:∀(n:Fin 7) (t:Fin 64),zMq 64 t.1&&& ~~~xW (n.1:Int)=0#64->(VB (zMq 64 t.1)).length<=n.1:=by decide +kernel
theorem znK {p:zd}(h:zJ p):(VB (uB p)).length<=p.H.Objs.length:=by
 have hn:=h.n;obtain ⟨t,ht⟩:=zCw (zid h);have h2:=zo4 h;rw [ht] at h2 ⊢;exact zDV ⟨p.H.Objs.length,by omega⟩ t h2
theorem zqw {p:zd}(h:zJ p):(xM p).length<=p.H.Objs.length:=by
 have hb:=h.bin;exact zLB (zvN _ (by omega) _ _) (znK h)
theorem zzm {p:zd}(h:zJ p):ziy p=some (xk p,()):=by
 have hw:=h.wk;have hc:=h.cap;have hm:=h.mt;have hb:=h.bin;have hn:=h.n;have hmo:=h.most;have hrl:=h.regs;have hreg:∀r∈p.Regs,r.length<1000000:=fun r hr=>by have:=(h.reg r hr).1;omega
 have hobj:∀o∈p.H.Objs,o.length<1000000:=fun o ho=>by have:=(h.objs o ho).1;have:=h.slots;omega
 have hfl:=zqw h;have hgl:=znK h;have hcl:=zbi p p.Workers.toNat;have hcb:p.Workers.toNat*(p.Cap.toNat+2)<=3*5:=zLW (by omega) (by omega);have hbn:(yh p:Int)=p.Most+p.Workers+p.Mutators:=by unfold yh;omega
 have eb:zit p=some ((yh p:Int),()):=by
  rw [zyx,yb (a:=p.Most+p.Workers) (by omega) (by omega),yb,hbn]
 have hul:=zCa (yh p);have ec:zbC (VB (uB p)) p.Bin=some (xM p):=by
  show zmo _ _=_;unfold zmo xM;have c1:(decide (1<=p.Bin)&&decide (p.Bin<1000000)&&decide (((VB (uB p)).length:Int)<1000000))=true:=by simp<;>omega
  rw [c1];rfl
 have cut1:cut (we (yh p)) 0 ((xM p).length:Int)=some ((we (yh p)).take (xM p).length):=by
  unfold cut;have:((xM p).length:Int)<=((we (yh p)).length:Int):=by omega
  simp [this]
 have cut2:cut (we (yh p)) ((xM p).length:Int) ((we (yh p)).length:Int)=some ((we (yh p)).drop (xM p).length):=by
  unfold cut;have:((xM p).length:Int)<=((we (yh p)).length:Int):=by omega
  simp [this]
 rw [zx7,zDZ h];simp only [zKt,zKI,zM];rw [zwm (by omega) hreg];simp only [zKt,znW,zEx hm.1 (show p.Mutators<=16 by omega)];rw [zFE (by omega) hobj];simp only [zKt];rw [zJw h];simp only [zKt,eb];have e3:(2+(yh p:Int)).toNat=2+yh p:=by omega
 rw [yb (a:=2+(yh p:Int)) (by omega) (by omega),zzu (by omega) (by omega),e3,zKt,yQ (l:=Xy p p.Workers.toNat++zMr (2+yh p) 0#64) (by simp<;>omega),zKt,zIl (by omega)];dsimp only [zKt];rw [zLd,zH4 (zid h),zKt,zjC,zp,zk,zKt,ec,zKt,zDD _ _ (by simp<;>omega) (fun c hc'=>by have:=zoB _ _ _ _ hc';omega)];dsimp only [zKt];have e1:w64 ((([[]]++xM p:List (List Int)).length:Int)-1)=((xM p).length:Int):=by
  rw [yb (by simp<;>omega) (by simp<;>omega)];simp
 have e2:w64 (((we (yh p)).length:Int)-((xM p).length:Int))=((yh p-(xM p).length:Nat):Int):=by
  rw [yb];omega
 rw [e1,e2,zzu (by omega) (by omega),zLd,zKt,yQ (by simp<;>omega),zKt,zdq,zKt,zbb,zKt,cut1,zKt,zzi (by simp<;>omega) (by simp<;>omega),zKt,zer,zKt,zKt,cut2,zKt,zzi (by rw [zu4];simp<;>omega) (by simp<;>omega),zKt,decide_true,zu,zmf hm.1 (show p.Mutators<4294967296 by omega),zKt,zIU (by omega) hreg];rfl
theorem zn3 (h:BitVec 64):yE h=((h.toNat%4294967296:Nat):Int):=by
 unfold yE;have e:(h&&&4294967295#64).toNat=h.toNat%4294967296:=by
  rw [zLz];exact zMo h.toNat 32
 rw [zL5,e];omega
theorem zn8 (h:BitVec 64):0<=yE h/\yE h<4294967296:=by rw [zn3];omega
theorem zfh (v:BitVec 64) {n:Int}(h:0<=n) (h2:n<4294967296):yE (xR v n)=n:=by
 rw [zn3];unfold xR;rw [BitVec.toNat_or,zLz,BitVec.toNat_shiftLeft];have e1:(v.toNat <<< 32%2 ^ 64|||(zMs 64 n).toNat&&&(4294967295#64).toNat)%2 ^ 32=(v.toNat <<< 32%2 ^ 64)%2 ^ 32|||((zMs 64 n).toNat&&&(4294967295#64).toNat)%2 ^ 32:=Nat.or_mod_two_pow;have e2:v.toNat <<< 32%2 ^ 64%2 ^ 32=0:=by rw [Nat.shiftLeft_eq];omega
 have e3:(zMs 64 n).toNat&&&(4294967295#64).toNat=n.toNat:=by
  have:(zMs 64 n).toNat=n.toNat:=by rw [zLo];omega
  rw [this];exact (zMo n.toNat 32).trans (Nat.mod_eq_of_lt (by omega))
 rw [show (4294967296:Nat)=2 ^ 32 from rfl,e1,e2,e3,Nat.zero_or,Nat.mod_eq_of_lt (by omega)];omega
theorem toInt_ofInt {n:Int}(h:0<=n) (h2:n<4294967296):(zMs 64 n).toInt=n:=by
 have e:(zMs 64 n).toNat=n.toNat:=by rw [zLo];omega
 rw [zL5,e];omega
theorem VD {m:List (BitVec 64)}{a b:Int}{v:BitVec 64}:ld (st m a v) b=if a=b/\0<=a/\a<m.length then v else ld m b:=by
 unfold ld st;by_cases hb:0<=b
 .rw [zb hb,zb hb];by_cases ha:0<=a
  .rw [zb ha,zKw,zKw,zLg];by_cases hab:a.toNat=b.toNat
   .have e:a=b:=by omega
    subst e;by_cases hl:a.toNat<m.length
    .rw [zb rfl,zb hl,zb ⟨rfl,ha,by omega⟩];rfl
    .rw [zb rfl,zc hl,zk,zLC (by omega)]
   .rw [zc hab,zk]
  .rw [zc ha,zk]
 .rw [zc hb,zc hb,zk]
theorem yK {m:List (BitVec 64)}{a b:Int}{v:BitVec 64}(h:a≠b):ld (st m a v) b=ld m b:=by
 rw [VD,zc (fun h'=>h h'.1)]
theorem Yg {p:zd}(h:zJ p):yt p=p.Workers*(p.Cap+2)/\3<=yt p/\yt p<=15:=by
 have hw:=h.wk;have hc:=h.cap;unfold yt;rw [xq (a:=p.Cap+2) (by omega) (by omega)];have hx:p.Workers=1\/p.Workers=2\/p.Workers=3:=by omega
 rcases hx with hx | hx | hx<;>rw [hx,xq]<;>omega
theorem ve {p:zd}(h:zJ p):zT p=yt p+1:=by
 have:=Yg h;unfold zT;rw [xq]
theorem Xe {p:zd}(h:zJ p) {w:Int}(h1:1<=w) (h2:w<=p.Workers):z6 p w=(w-1)*(p.Cap+2)/\0<=z6 p w/\z6 p w+p.Cap+2<=yt p:=by
 have hw:=h.wk;have hc:=h.cap;have hf:=(Yg h).1;unfold z6;rw [xq (a:=p.Cap+2) (by omega) (by omega),xq (a:=w-1) (by omega) (by omega)];have hx:p.Workers=1\/p.Workers=2\/p.Workers=3:=by omega
 have hy:w=1\/w=2\/w=3:=by omega
 rw [hf];rcases hx with hx | hx | hx<;>rcases hy with hy | hy | hy<;>first | omega | (rw [hx,hy,xq]<;>omega)
theorem zuo {p:zd}(h:zJ p) {d:zg}{w:Int}(h1:1<=w) (h2:w<=p.Workers) (hb:d.Base=z6 p w) (hc:d.Cap=p.Cap) (i:BitVec 64) :
  XE d i=d.Base+2+((i.toNat%p.Cap.toNat:Nat):Int)/\d.Base+2<=XE d i/\XE d i<d.Base+2+p.Cap:=by
 have hcp:=h.cap;have hd:=Xe h h1 h2;have hf:=Yg h;have hs:(uX d).toNat=p.Cap.toNat:=by
  unfold uX;rw [hc,zk,zLo];omega
 have hlt:i.toNat%p.Cap.toNat<p.Cap.toNat:=Nat.mod_lt _ (by omega);have hm:(i%uX d).toInt=((i.toNat%p.Cap.toNat:Nat):Int):=by
  rw [zL5,BitVec.toNat_umod,hs];omega
 unfold XE;rw [hm,xq (a:=d.Base+2) (by omega) (by omega),xq];omega
structure SOk (p:zd) (nb:Nat) (s:za):Prop where
 P:s.P=p
 bins:s.Bins.length=nb
 nbk:1<=nb/\nb<1000
 mem:s.M.length<100000
 cF:yE (ld s.M (yt p))<nb
 cE:yE (ld s.M (zT p))<nb
 cL:∀a,zT p<a->0<=(ld s.M a).toInt/\(ld s.M a).toInt<nb
structure MOk (p:zd) (nb:Nat) (g:zI):Prop where
 who:g.Mode=1->1<=g.Who/\g.Who<=p.Workers
 d3:g.PC=3->g.D.Kind=1/\g.D.Base=z6 p g.Who/\g.D.Cap=p.Cap/\g.Mode=1
 c5:g.PC=5->g.C.Kind=2/\g.C.Head=zT p/\g.C.Next=zT p/\(1<=g.C.PC->1<=yE g.C.H/\yE g.C.H<nb)/\(2<=g.C.PC->0<=g.C.Y/\g.C.Y<nb)
 b6:g.PC=6->1<=g.Bin/\g.Bin<nb
 c7:g.PC=7->g.C.Kind=1/\g.C.Head=yt p/\g.C.Next=zT p/\(1<=g.C.X/\g.C.X<nb)/\(1<=g.C.PC->yE g.C.H<nb)
theorem SOk.gok {p:zd}{nb:Nat}{s:za}{g:zI}(h:zJ p) (S:SOk p nb s) (M:MOk p nb g):GOk s g:=by
 have hc:=h.cap;refine ⟨by have:=S.mem;omega,by have:=S.bins;have:=S.nbk;omega,fun h6=>?_,fun h3=>?_⟩
 .have:=M.b6 h6;have:=S.bins;omega
 .obtain ⟨a,b,c,_⟩:=M.d3 h3;exact ⟨a,by omega⟩
theorem SOk.low {p:zd}{nb:Nat}{s:za}(h:zJ p) (S:SOk p nb s) {a:Int}(ha:a<yt p) (v:BitVec 64):SOk p nb {s with M:=st s.M a v}:=by
 have he:=ve h;exact ⟨S.P,S.bins,S.nbk,by simp only [YD];exact S.mem,by simp only [yK (show a≠yt p by omega)];exact S.cF,by simp only [yK (show a≠zT p by omega)];exact S.cE,fun b hb=>by
  simp only [yK (show a≠b by omega)];exact S.cL b hb⟩
theorem SOk.link {p:zd}{nb:Nat}{s:za}(h:zJ p) (S:SOk p nb s) {a:Int}(ha:zT p<a) {v:BitVec 64}(hv:0<=v.toInt/\v.toInt<nb):SOk p nb {s with M:=st s.M a v}:=by
 have he:=ve h;exact ⟨S.P,S.bins,S.nbk,by simp only [YD];exact S.mem,by simp only [yK (show a≠yt p by omega)];exact S.cF,by simp only [yK (show a≠zT p by omega)];exact S.cE,fun b hb=>by
  simp only [VD];split
  .exact hv
  .exact S.cL b hb⟩
theorem SOk.head {p:zd}{nb:Nat}{s:za}(h:zJ p) (S:SOk p nb s) {a:Int}(ha:a=yt p\/a=zT p) {v:BitVec 64}(hv:yE v<nb):SOk p nb {s with M:=st s.M a v}:=by
 have he:=ve h;refine ⟨S.P,S.bins,S.nbk,by simp only [YD];exact S.mem,?_,?_,fun b hb=>?_⟩
 .simp only [VD];split
  .exact hv
  .exact S.cF
 .simp only [VD];split
  .exact hv
  .exact S.cE
 .simp only [yK (show a≠b by omega)];exact S.cL b hb
theorem SOk.swap {p:zd}{nb:Nat}{s:za}(h:zJ p) (S:SOk p nb s) {a:Int}(ha:a=yt p\/a=zT p) (x:BitVec 64) {v:BitVec 64}(hv:yE v<nb):SOk p nb {s with M:=(sw s.M a x v).1}:=by
 unfold sw;split
 .exact S.head h ha hv
 .exact S
theorem zBM {p:zd}{nb:Nat}{s:za}(h:zJ p) (S:SOk p nb s) {c:zU}{hd:Int}(hdd:hd=yt p\/hd=zT p) (hk:c.Kind=2) (hh:c.Head=hd) (hn:c.Next=zT p)
  (h1:1<=c.PC->1<=yE c.H/\yE c.H<nb) (h2:2<=c.PC->0<=c.Y/\c.Y<nb) (ho:c.Out≠1) :
  SOk p nb {s with M:=(zC s.M c).1}/\(zC s.M c).2.Kind=2/\(zC s.M c).2.Head=hd/\(zC s.M c).2.Next=zT p /\
  ((zC s.M c).2.Out≠1->(zC s.M c).2.Out≠2->(1<=(zC s.M c).2.PC->1<=yE (zC s.M c).2.H/\yE (zC s.M c).2.H<nb)/\(2<=(zC s.M c).2.PC->0<=(zC s.M c).2.Y/\(zC s.M c).2.Y<nb)) /\
  ((zC s.M c).2.Out=1->1<=(zC s.M c).2.X/\(zC s.M c).2.X<nb):=by
 have hnb:=S.nbk;have hE:=ve h;have hF:=Yg h;unfold zC;split
 .exact ⟨S,hk,hh,hn,fun _ _=>⟨h1,h2⟩,fun e=>zj e ho⟩
 .split
  .rw [hh];have n1:=zn8 (ld s.M hd);have n2:yE (ld s.M hd)<nb:=by
    rcases hdd with e | e<;>rw [e]
    .exact S.cF
    .exact S.cE
   split
   .exact ⟨S,hk,rfl,hn,fun _ h=>zj rfl h,fun e=>by cases e⟩
   .rename_i hne;refine ⟨S,hk,rfl,hn,fun _ _=>⟨fun _=>⟨?_,n2⟩,fun e=>zj e (by dsimp only;omega)⟩,fun e=>zj e ho⟩;have:yE (ld s.M hd)≠0:=fun e=>hne ⟨hk,e⟩;dsimp only;omega
  .split
   .try rw [zb hk]
    have hpc:1<=c.PC:=by omega
    have n1:=h1 hpc;refine ⟨S,hk,hh,hn,fun _ _=>⟨fun _=>n1,fun _=>?_⟩,fun e=>zj e ho⟩;dsimp only;rw [hn,xq];exact S.cL _ (by omega)
   .rename_i g1 g2 g3;have hpc:c.PC=2:=by omega
    have n1:=h1 (by omega);have n2:=h2 (by omega);simp only [zb hk];refine ⟨S.swap h (by rw [hh];exact hdd) _ (by rw [zfh _ n2.1 (by omega)];exact n2.2),?_⟩;split
    .exact ⟨hk,hh,hn,fun e=>zj rfl e,fun _=>n1⟩
    .exact ⟨hk,hh,hn,fun _ _=>⟨fun e=>zj e (by dsimp only;omega),fun e=>zj e (by dsimp only;omega)⟩,fun e=>zj e ho⟩
theorem zxC {p:zd}{nb:Nat}{s:za}(h:zJ p) (S:SOk p nb s) {c:zU}{hd:Int}(hdd:hd=yt p\/hd=zT p) (hk:c.Kind=1) (hh:c.Head=hd) (hn:c.Next=zT p) (hx:1<=c.X/\c.X<nb)
  (h1:1<=c.PC->yE c.H<nb) :
  SOk p nb {s with M:=(zC s.M c).1}/\(zC s.M c).2.Kind=1/\(zC s.M c).2.Head=hd/\(zC s.M c).2.Next=zT p/\(1<=(zC s.M c).2.X/\(zC s.M c).2.X<nb) /\
  (1<=(zC s.M c).2.PC->yE (zC s.M c).2.H<nb):=by
 have hnb:=S.nbk;have hE:=ve h;have hF:=Yg h;have hk2: ¬c.Kind=2:=by omega
 unfold zC;split
 .exact ⟨S,hk,hh,hn,hx,h1⟩
 .split
  .rw [zc (fun e=>hk2 e.1),hh];exact ⟨S,hk,rfl,hn,hx,fun _=>hdd.elim (fun e=>by dsimp only;rw [e];exact S.cF) (fun e=>by dsimp only;rw [e];exact S.cE)⟩
  .split
   .try rw [zc hk2]
    have hpc:1<=c.PC:=by omega
    have n1:=h1 hpc;have n2:=zn8 c.H;refine ⟨?_,hk,hh,hn,hx,fun _=>n1⟩;dsimp only;rw [hn,xq];exact S.link h (by omega) (by rw [toInt_ofInt (by omega) (by omega)];omega)
   .have n1:=h1 (by omega);simp only [zc hk2];refine ⟨S.swap h (by rw [hh];exact hdd) _ (by rw [zfh _ (by omega) (by omega)];exact hx.2),?_⟩;split
    .exact ⟨hk,hh,hn,hx,fun _=>n1⟩
    .exact ⟨hk,hh,hn,hx,fun _=>n1⟩
theorem MOk.ask {p:zd}{nb:Nat}{g:zI}(hw:g.Mode=1->1<=g.Who/\g.Who<=p.Workers):MOk p nb (zga p g) :=
 ⟨hw,fun e=>(by cases e),fun _=>⟨rfl,rfl,rfl,fun e=>zj e (show ¬(1:Int)<=0 by decide),fun e=>zj e (show ¬(2:Int)<=0 by decide)⟩,fun e=>(by cases e),fun e=>(by cases e)⟩
theorem zs8 {p:zd}{nb:Nat}{s:za}{g:zI}(h:zJ p) (S:SOk p nb s) (M:MOk p nb g) (hout:g.PC=5->g.C.Out≠1):SOk p nb (zF s g).1/\MOk p nb (zF s g).2/\((zF s g).2.PC=5->(zF s g).2.C.Out≠1):=by
 have hP:=S.P;unfold zF;split
 .exact ⟨S,M,hout⟩
 split
 .rename_i h7;obtain ⟨a1,a2,a3,a4,a5⟩:=M.c7 h7;obtain ⟨b1,b2,b3,b4,b5,b6⟩:=zxC h S (.inl rfl) a1 a2 a3 a4 a5;unfold zcY;refine ⟨b1,?_,?_⟩
  .dsimp only;split<;>exact ⟨M.who,fun e=>(by dsimp only at e;omega),fun e=>(by dsimp only at e;omega),fun e=>(by dsimp only at e;omega),fun _=>⟨b2,b3,b4,b5,b6⟩⟩
  .dsimp only;split<;>exact fun e=>by dsimp only at e;omega
 split
 .rename_i h6;obtain ⟨a1,a2⟩:=M.b6 h6;unfold zAm;refine ⟨⟨hP,by simp only [zKV];exact S.bins,S.nbk,S.mem,S.cF,S.cE,S.cL⟩,⟨M.who,fun e=>(by cases e),fun e=>(by cases e),fun e=>(by cases e),fun _=>⟨rfl,by rw [hP],by rw [hP],⟨a1,a2⟩,fun e=>zj e (show ¬(1:Int)<=0 by decide)⟩⟩,fun e=>by cases e⟩
 split
 .rename_i h5;obtain ⟨a1,a2,a3,a4,a5⟩:=M.c5 h5;obtain ⟨b1,b2,b3,b4,b5,b6⟩:=zBM h S (.inr rfl) a1 a2 a3 a4 a5 (hout h5);unfold zkZ;refine ⟨b1,?_,?_⟩
  .dsimp only;split
   .rename_i e1;exact ⟨M.who,fun e=>(by cases e),fun e=>(by cases e),fun _=>b6 e1,fun e=>(by cases e)⟩
   .split
    .rw [hP];exact MOk.ask M.who
    .rename_i e1 e2;exact ⟨M.who,fun e=>(by dsimp only at e;omega),fun _=>⟨b2,b3,b4,b5 e1 e2⟩,fun e=>(by dsimp only at e;omega),fun e=>(by dsimp only at e;omega)⟩
  .dsimp only;split
   .exact fun e=>by cases e
   .split
    .exact fun _ e=>by cases e
    .rename_i e1 e2;exact fun _=>e1
 split
 .rw [hP];exact ⟨⟨rfl,S.bins,S.nbk,S.mem,S.cF,S.cE,S.cL⟩,MOk.ask M.who,fun _ e=>by cases e⟩
 split
 .rename_i h3;obtain ⟨a1,a2,a3,a4⟩:=M.d3 h3;have hw:=M.who a4;obtain ⟨d1,d2,d3⟩:=Xe h hw.1 hw.2;have hc:=h.cap;have hf:=Yg h;have hs:SOk p nb {s with M:=(xp s.M g.D).1}:=by
   unfold xp;split
   .exact S
   split
   .exact S
   split
   .exact S
   split
   .have:=zuo h hw.1 hw.2 a2 a3 g.D.B;exact S.low h (by omega) _
   .dsimp only;rw [xq];exact S.low h (by omega) _
  have hd:(xp s.M g.D).2.Kind=1/\(xp s.M g.D).2.Base=z6 p g.Who/\(xp s.M g.D).2.Cap=p.Cap:=by
   unfold xp;split
   .exact ⟨a1,a2,a3⟩
   split
   .exact ⟨a1,a2,a3⟩
   split
   .dsimp only;split<;>exact ⟨a1,a2,a3⟩
   split<;>exact ⟨a1,a2,a3⟩
  unfold zlf;refine ⟨hs,?_,?_⟩
  .dsimp only;split
   .exact ⟨M.who,fun _=>⟨hd.1,hd.2.1,hd.2.2,a4⟩,fun e=>(by dsimp only at e;omega),fun e=>(by dsimp only at e;omega),fun e=>(by dsimp only at e;omega)⟩
   .split
    .rw [hP];exact MOk.ask M.who
    .exact ⟨M.who,fun _=>⟨hd.1,hd.2.1,hd.2.2,a4⟩,fun e=>(by dsimp only at e;omega),fun e=>(by dsimp only at e;omega),fun e=>(by dsimp only at e;omega)⟩
  .dsimp only;split
   .exact fun e=>by dsimp only at e;omega
   .split
    .exact fun _ e=>by cases e
    .exact fun e=>by dsimp only at e;omega
 split
 .rename_i h2;exact ⟨⟨hP,S.bins,S.nbk,S.mem,S.cF,S.cE,S.cL⟩,⟨M.who,fun e=>(by dsimp only at e;omega),fun e=>(by dsimp only at e;omega),fun e=>(by dsimp only at e;omega),fun e=>(by dsimp only at e;omega)⟩,fun e=>by dsimp only at e;omega⟩
 split
 .unfold zli;refine ⟨⟨hP,S.bins,S.nbk,S.mem,S.cF,S.cE,S.cL⟩,?_,?_⟩
  .dsimp only;split
   .exact ⟨M.who,fun e=>(by cases e),fun e=>(by cases e),fun e=>(by cases e),fun e=>(by cases e)⟩
   split
   .exact ⟨M.who,fun _=>⟨rfl,by rw [hP],by rw [hP],by assumption⟩,fun e=>(by cases e),fun e=>(by cases e),fun e=>(by cases e)⟩
   split
   .exact ⟨M.who,fun e=>(by cases e),fun e=>(by cases e),fun e=>(by cases e),fun e=>(by cases e)⟩
   .rw [hP];exact MOk.ask M.who
  .dsimp only;split
   .exact fun e=>by cases e
   split
   .exact fun e=>by cases e
   split
   .exact fun e=>by cases e
   .exact fun _ e=>by cases e
 .exact ⟨⟨hP,S.bins,S.nbk,S.mem,S.cF,S.cE,S.cL⟩,⟨M.who,fun e=>(by cases e),fun e=>(by cases e),fun e=>(by cases e),fun e=>(by cases e)⟩,fun e=>by cases e⟩
theorem Uv (s:za) (g:zI):(zF s g).2.Obj=g.Obj/\(zF s g).2.Who=g.Who/\(zF s g).2.Mode=g.Mode:=by
 unfold zF;split
 .exact ⟨rfl,rfl,rfl⟩
 split
 .unfold zcY;dsimp only;split<;>exact ⟨rfl,rfl,rfl⟩
 split
 .exact ⟨rfl,rfl,rfl⟩
 split
 .unfold zkZ;dsimp only;split
  .exact ⟨rfl,rfl,rfl⟩
  .split<;>exact ⟨rfl,rfl,rfl⟩
 split
 .exact ⟨rfl,rfl,rfl⟩
 split
 .unfold zlf;dsimp only;split
  .exact ⟨rfl,rfl,rfl⟩
  .split<;>exact ⟨rfl,rfl,rfl⟩
 split
 .exact ⟨rfl,rfl,rfl⟩
 split
 .unfold zli;dsimp only;split
  .exact ⟨rfl,rfl,rfl⟩
  split
  .exact ⟨rfl,rfl,rfl⟩
  split<;>exact ⟨rfl,rfl,rfl⟩
 .exact ⟨rfl,rfl,rfl⟩
def OkV (nb:Nat) (v:BitVec 64):Prop:=yE v<nb/\0<=v.toInt/\v.toInt<nb
theorem zBb {nb:Nat}(h:1<=nb):OkV nb 0#64:=by
 refine ⟨by rw [zn3];simp;omega,by simp,by simp;omega⟩
theorem zyK {nb:Nat}{b:Int}(h:0<=b) (h2:b<nb) (h3:nb<1000):OkV nb (zMs 64 b):=by
 have e:(zMs 64 b).toNat=b.toNat:=by rw [zLo];omega
 refine ⟨by rw [zn3,e];omega,?_⟩;rw [toInt_ofInt h (by omega)];omega
theorem zy2 {b:Int}(h:0<=b) (h2:b<4294967296):xR 0#64 b=zMs 64 b:=by
 have e:(zMs 64 b).toNat=b.toNat:=by rw [zLo];omega
 apply zLN;unfold xR;rw [BitVec.toNat_or,zLz,e];have:b.toNat&&&(4294967295#64).toNat=b.toNat:=(zMo b.toNat 32).trans (Nat.mod_eq_of_lt (by omega));rw [this];simp
def Vv (F:Int) (nb:Nat) (m:List (BitVec 64)):Prop:=∀a,F<=a->OkV nb (ld m a)
theorem Vv.st {F:Int}{nb:Nat}{m:List (BitVec 64)}(h:Vv F nb m) (a:Int) {v:BitVec 64}(hv:OkV nb v):Vv F nb (st m a v):=fun b hb=>by
 rw [VD];split
 .exact hv
 .exact h b hb
theorem Vv.links {F:Int}{nb:Nat}(h1:1<=nb) (h3:nb<1000):∀(l:List Int) (m:List (BitVec 64)) (n:Int),(∀b∈l,0<=b/\b<nb)->Vv F nb m->Vv F nb (links m n l)
 | [],m,n,_,h=>h
 | [a],m,n,_,h=>h.st _ (zBb h1)
 | a::b::l,m,n,hb,h=>Vv.links h1 h3 (b::l) _ n (fun x hx=>hb x (zKA _ hx)) (h.st _ (zyK (hb b (by simp)).1 (hb b (by simp)).2 h3))
theorem Vv.lay {F:Int}{nb:Nat}(h1:1<=nb) (h3:nb<1000) {l:List Int}{m:List (BitVec 64)}{hd n:Int}(hb:∀b∈l,0<=b/\b<nb) (h:Vv F nb m):Vv F nb (zeT m hd n l):=by
 unfold zeT;refine (Vv.links h1 h3 l m n hb h).st _ ?_;cases l with
 | nil=>rw [List.headD_nil,zy2 (by omega) (by omega)];exact zyK (by omega) (by omega) h3
 | cons a r =>
  have:=hb a (by simp);rw [List.headD_cons,zy2 this.1 (by omega)];exact zyK this.1 this.2 h3
theorem zh8 {k:Nat}{b:Int}(h:b∈we k):1<=b/\b<=k:=by
 unfold we at h;obtain ⟨i,hi,rfl⟩:=zKE.1 h;have:=zK6.1 hi;omega
theorem zeM {p:zd}(h:zJ p):(yh p:Int)=p.Most+p.Workers+p.Mutators/\2<=yh p/\yh p<=14:=by
 have:=h.most;have:=h.n;have:=h.wk;have:=h.mt;unfold yh;omega
theorem zDO {p:zd}(h:zJ p):SOk p (yh p+1) (xk p):=by
 have hb:=zeM h;have hf:=zqw h;have hn:=h.n;have hw:=h.wk;have hc:=h.cap;have hmo:=h.most;have hF:=Yg h;have hE:=ve h;have hcl:=zbi p p.Workers.toNat;have hfe:yt p=((p.Workers.toNat*(p.Cap.toNat+2):Nat):Int):=by
  rw [hF.1];have e1:p.Workers=((p.Workers.toNat:Nat):Int):=by omega
  have e2:p.Cap+2=((p.Cap.toNat+2:Nat):Int):=by omega
  rw [e2,Int.natCast_mul];rw [<-e1]
 have h0:Vv (yt p) (yh p+1) (Xy p p.Workers.toNat++zMr (2+yh p) 0#64):=by
  intro a ha;have:ld (Xy p p.Workers.toNat++zMr (2+yh p) 0#64) a=0#64:=by
   unfold ld;rw [yg,zKw,zK3 (by omega),zLP];split<;>rfl
  rw [this];exact zBb (by omega)
 have h1:Vv (yt p) (yh p+1) (xk p).M:=by
  refine Vv.lay (by omega) (by omega) (fun b hb'=>?_) (Vv.lay (by omega) (by omega) (fun b hb'=>?_) h0)
  .have:=zh8 (List.mem_of_mem_drop hb');omega
  .have:=zh8 (zLT hb');omega
 have hlen:(xk p).M.length=p.Workers.toNat*(p.Cap.toNat+2)+(2+yh p):=by
  show (zeT _ _ _ _).length=_;rw [zu4,zu4,zKH,hcl,zLa]
 refine ⟨rfl,?_,by omega,by rw [hlen];omega,(h1 _ (by omega)).1,(h1 _ (by omega)).1,fun a ha=>(h1 a (by omega)).2⟩;have hd:(xk p).Bins.length=1+(xM p).length+(yh p-(xM p).length):=by
  show ([[]]++xM p++zMr (yh p-(xM p).length) ([]:List Int)).length=_;rw [zKH,zKH,zLa];rfl
 have h2:=hb.1;have hmt:=h.mt;rw [hd];omega
def YB (mode obj who:Int):zI:=⟨0,mode,obj,who,⟨0,0,0,0,0#64,0#64,0,0⟩,⟨0,0,0,0,0#64,0,0,0⟩,0,0⟩
theorem zqq (a b c:Int):zcu a b c=some (YB a b c,()):=by rw [zxq];rfl
def zlj (m:List (BitVec 64)) (d:zg):List (BitVec 64)×zg :=
 if d.PC<0\/7<=d.PC then (m,d)
 else if d.PC=0 then (m,{d with B:=ld m (wc (d.Base+1)),PC:=1})
 else if d.PC=1 then (st m (wc (d.Base+1)) (d.B-1#64),{d with PC:=2})
 else if d.PC=2 then (m,{d with T:=ld m d.Base,PC:=if 0<(ld m d.Base-(d.B-1#64)).toInt then 5 else 3})
 else if d.PC=3 then (m,{d with X:=(ld m (XE d (d.B-1#64))).toInt,PC:=4,Out:=if d.T=d.B-1#64 then d.Out else 1})
 else if d.PC=4 then ((sw m d.Base d.T (d.T+1#64)).1,{d with PC:=if (sw m d.Base d.T (d.T+1#64)).2 then 6 else 5})
 else if d.PC=5 then (st m (wc (d.Base+1)) d.B,{d with X:=0,Out:=2,PC:=6})
 else (st m (wc (d.Base+1)) d.B,{d with Out:=1,PC:=7})
def zc5 (m:List (BitVec 64)) (d:zg):List (BitVec 64)×zg :=
 if d.PC<0\/4<=d.PC then (m,d)
 else if d.PC=0 then (m,{d with T:=ld m d.Base,PC:=1})
 else if d.PC=1 then (m,{d with B:=ld m (wc (d.Base+1)),PC:=2,Out:=if 0<(ld m (wc (d.Base+1))-d.T).toInt then d.Out else 2})
 else if d.PC=2 then (m,{d with X:=(ld m (XE d d.T)).toInt,PC:=3})
 else ((sw m d.Base d.T (d.T+1#64)).1,if (sw m d.Base d.T (d.T+1#64)).2 then {d with Out:=1,PC:=4} else {d with X:=0,Out:=4,PC:=4})
def yj (m:List (BitVec 64)) (d:zg):List (BitVec 64)×zg :=
 if d.Out≠0 then (m,d) else if d.Kind=1 then xp m d else if d.Kind=2 then zlj m d else if d.Kind=3 then zc5 m d else (m,d)
theorem zCJ {m:List (BitVec 64)}{d:zg}(h:d.Kind=1):yj m d=xp m d:=by
 unfold yj;by_cases h0:d.Out≠0
 .rw [zb h0];unfold xp;rw [zb (.inl h0)]
 .rw [zc h0,zb h]
theorem zDF {α:Type}{x y:Option α}{v:α}(h:x=some v):Option.or x y=some v:=by subst h;rfl
theorem zlu {α:Type}{x y z:Option α}(h:x=none) (h2:y=z):Option.or x y=z:=by subst h;exact h2
theorem zHs:wc 1=1/\wc 2=2/\wc 3=3/\wc 4=4/\wc 5=5/\wc 6=6/\wc 7=7:=by decide
theorem zGS:w64 5=5/\w64 6=6/\w64 7=7:=by
 refine ⟨?_,?_,?_⟩<;>exact yb
theorem zEB {m:List (BitVec 64)}(hm:m.length<4294967296) {d:zg}(hc:d.Cap<1000):zc1 m d=some ((yj m d).1,(yj m d).2,()):=by
 by_cases k1:d.Kind=1
 .rw [zCJ k1];exact znN hm k1 hc
 obtain ⟨w0,w1,w2,w3,w4⟩:=zAO;obtain ⟨w5,w6,w7⟩:=zGS;obtain ⟨v1,v2,v3,v4,v5,v6,v7⟩:=zHs;have hsb:∀d:zg,vQ m d=some (m,{d with B:=ld m (wc (d.Base+1))},()):=fun d=>by
  rw [VN,x8,xV,zKt,Xo];rfl
 have htk:∀d:zg,WS m d=some ((sw m d.Base d.T (d.T+1#64)).1,(sw m d.Base d.T (d.T+1#64)).2,()):=fun d=>by
  obtain ⟨v,hv⟩:=zxr hm d.Base d.T (d.T+1#64);rw [zng,ZX,zKt,hv];rfl
 rw [znU,zkx,ztI,ztV,ztH];simp only [zp,yq,zc k1];unfold yj;by_cases k2:d.Kind=2
 .refine zlu (by simp [k2]) (zDF ?_);rw [zb k2,zKt];by_cases g0:d.Out=0;rotate_left
  .rw [zc g0,zb (show d.Out≠0 from g0)]
  rw [zb g0,zc (show ¬(d.Out≠0) from fun e=>e g0),zc k1,zb k2];unfold zlj;by_cases g1:d.PC<0
  .rw [zb g1,zb (.inl g1)]
  rw [zc g1];by_cases g2:7<=d.PC
  .rw [zb g2,zb (.inr g2)]
  rw [zc g2,zc (show ¬(d.PC<0\/7<=d.PC) by omega)];have hpc:d.PC=0\/d.PC=1\/d.PC=2\/d.PC=3\/d.PC=4\/d.PC=5\/d.PC=6:=by omega
  rcases hpc with h | h | h | h | h | h | h
  .simp [h,hsb,w1]
  .simp [h,zmx,x8,xV,zeb hm,v1,v2,v3,v4,v5,v6,v7]
  .rw [h,zc (by decide),zc (by decide),zc (by decide),zc (by decide),zb rfl,zc (by decide),zc (by decide),zb rfl];simp only [zhT,ZX,zKt,Xo,zeE,zp];by_cases hs:0<(ld m d.Base-(d.B-1#64)).toInt
   .simp only [zb hs,zKt,Int.reduceAdd,w5]
   .simp only [zc hs,zKt,h,Int.reduceAdd,w3]
  .simp only [h,zk2,zir hc,zKt,Xo,yq,vw];by_cases hs:d.T=d.B-1#64
   .simp [hs,w4,h]
   .simp [hs,w4,h]
  .simp only [h,zjW,htk,zKt];cases hs:(sw m d.Base d.T (d.T+1#64)).2 with
   | true=>simp [hs,w6,h]
   | false=>simp [hs,w5,h]
  .simp [h,zjM,vw,k1,x8,xV,zeb hm,v1,v2,v3,v4,v5,v6,v7]
  .simp [h,zlg,vw,x8,xV,zeb hm,v1,v2,v3,v4,v5,v6,v7]
 by_cases k3:d.Kind=3
 .refine zlu (by simp [k2,k3]) (zlu (by simp [k2,k3]) (zDF ?_));rw [zc k2,zb k3,zKt];by_cases g0:d.Out=0;rotate_left
  .rw [zc g0,zb (show d.Out≠0 from g0)]
  rw [zb g0,zc (show ¬(d.Out≠0) from fun e=>e g0),zc k1,zc k2,zb k3];unfold zc5;by_cases g1:d.PC<0
  .rw [zb g1,zb (.inl g1)]
  rw [zc g1];by_cases g2:4<=d.PC
  .rw [zb g2,zb (.inr g2)]
  rw [zc g2,zc (show ¬(d.PC<0\/4<=d.PC) by omega)];have hpc:d.PC=0\/d.PC=1\/d.PC=2\/d.PC=3:=by omega
  rcases hpc with h | h | h | h
  .simp [h,zkP,ZX,Xo,w1]
  .rw [h,zc (by decide),zc (by decide),zb rfl,zc (by decide),zb rfl];simp only [zln,x8,zKt,Xo,zeE,yq,xV];by_cases hs:0<(ld m (wc (d.Base+1))-d.T).toInt
   .simp only [zb hs,zKt,Int.reduceAdd,v2,h]
   .simp only [zc hs,zKt,Int.reduceAdd,v2,h]
  .simp [h,zjS,zir hc,Xo,w3]
  .simp only [h,zhZ,htk,zKt,vw];cases hs:(sw m d.Base d.T (d.T+1#64)).2 with
   | true=>simp [hs,w4,h]
   | false=>simp [hs,w4,h,k1]
 .refine zlu (by simp [k2,k3]) (zlu (by simp [k2,k3]) (zlu (by simp [k2,k3]) ?_));rw [zc k2,zc k3,zKt];by_cases g0:d.Out=0
  .simp [g0,k1,k2,k3]
  .simp [g0]
theorem zEa (m:List (BitVec 64)) (d:zg):(zlj m d).1.length=m.length/\(zlj m d).2.Kind=d.Kind/\(zlj m d).2.Base=d.Base/\(zlj m d).2.Cap=d.Cap:=by
 unfold zlj sw st;split
 .exact ⟨rfl,rfl,rfl,rfl⟩
 split
 .exact ⟨rfl,rfl,rfl,rfl⟩
 split
 .refine ⟨?_,rfl,rfl,rfl⟩;dsimp only;split<;>simp
 split
 .exact ⟨rfl,rfl,rfl,rfl⟩
 split
 .exact ⟨rfl,rfl,rfl,rfl⟩
 split
 .refine ⟨?_,rfl,rfl,rfl⟩;dsimp only;split<;>(try split)<;>simp
 split<;>(refine ⟨?_,rfl,rfl,rfl⟩;dsimp only;split<;>simp)
theorem zBK (m:List (BitVec 64)) (d:zg):(zc5 m d).1.length=m.length/\(zc5 m d).2.Kind=d.Kind/\(zc5 m d).2.Base=d.Base/\(zc5 m d).2.Cap=d.Cap:=by
 unfold zc5 sw st;split
 .exact ⟨rfl,rfl,rfl,rfl⟩
 split
 .exact ⟨rfl,rfl,rfl,rfl⟩
 split
 .exact ⟨rfl,rfl,rfl,rfl⟩
 split
 .exact ⟨rfl,rfl,rfl,rfl⟩
 .refine ⟨?_,?_,?_,?_⟩<;>dsimp only<;>split<;>(try split)<;>simp
def zX (h:zt) (o:Int):List Int:=h.Objs.getD (o-1).toNat []
def yP (h:zt) (o s:Int):Bool:=decide (1<=o)&&decide (o<=(h.Objs.length:Int))&&decide (0<=s)&&decide (s<((zX h o).length:Int))
def zZ (h:zt) (o s:Int):Int:=if yP h o s then (zX h o).getD s.toNat 0 else 0
def zR (s:BitVec 64) (o:Int):Bool:= !(decide (s&&&bit o=0#64))
def yB (t:zx) (o:Int):Int:=if zR (t.Marks&&&t.Black) o then 2 else if zR t.Marks o then 1 else 0
def wh (t:zx) (o:Int):zx:=if yB t o=1 then {t with Black:=t.Black|||bit o} else t
def zda (l:zy) (who:Int):zy :=
 if 1<=who/\who<=(l.Bal.length:Int) then {l with Scanned:=wc (l.Scanned+1),Bal:=l.Bal.set (who-1).toNat (wc (l.Bal.getD (who-1).toNat 0+1))}
 else {l with Scanned:=wc (l.Scanned+1),Pool:=wc (l.Pool+1)}
def Uo (s:za) (b:Int):List Int:=s.Bins.getD b.toNat []
def zE6 (p:zd) (h x:Int):zU:=⟨2,0,h,zT p,0#64,x,0,0⟩
def zdc (p:zd) (h x:Int):zU:=⟨1,0,h,zT p,0#64,x,0,0⟩
def onW (s:za) (slot:Int):Int:=if slot=s.H.Slots then 8 else 5
def zaq (p:zd) (w:Int) (x:zi):zi:={x with PC:=0,Victim:=w,D:=⟨2,0,z6 p w,p.Cap,0#64,0#64,0,0⟩}
def zkI (n v:Int):Int:=if v<n then v+1 else 1
def Zk (p:zd) (w:Int) (x:zi):zi :=
 if zkI p.Workers x.Victim=w then {x with PC:=2,Victim:=w,C:=zE6 p (yt p) 0}
 else {x with PC:=1,Victim:=zkI p.Workers x.Victim,D:=⟨3,0,z6 p (zkI p.Workers x.Victim),p.Cap,0#64,0#64,0,0⟩}
def zB (s:za) (w:Int) (x:zi):za×zi :=
 if x.PC=0\/x.PC=1 then
  ({s with M:=(yj s.M x.D).1},
   if (yj s.M x.D).2.Out=1 then {x with D:=(yj s.M x.D).2,Victim:=w,PC:=5,Obj:=(yj s.M x.D).2.X,Slot:=0}
   else if (yj s.M x.D).2.Out=2\/(yj s.M x.D).2.Out=4 then Zk s.P w {x with D:=(yj s.M x.D).2} else {x with D:=(yj s.M x.D).2})
 else if x.PC=2 then
  ({s with M:=(zC s.M x.C).1},
   if (zC s.M x.C).2.Out=1 then {x with C:=(zC s.M x.C).2,Bin:=(zC s.M x.C).2.X,PC:=3}
   else if (zC s.M x.C).2.Out=2 then zaq s.P w {x with C:=(zC s.M x.C).2} else {x with C:=(zC s.M x.C).2})
 else if x.PC=3 then ({s with Bins:=s.Bins.set x.Bin.toNat []},{x with Batch:=Uo s x.Bin,PC:=4,C:=zdc s.P (zT s.P) x.Bin})
 else if x.PC=4 then
  ({s with M:=(zC s.M x.C).1},if (zC s.M x.C).2.Out=1 then {x with C:=(zC s.M x.C).2,Bin:=0,PC:=7} else {x with C:=(zC s.M x.C).2})
 else if x.PC=5 then
  (s,if zZ s.H x.Obj x.Slot=0 then {x with Slot:=wc (x.Slot+1),PC:=onW s (wc (x.Slot+1))} else {x with Slot:=wc (x.Slot+1),PC:=6,G:=YB 1 (zZ s.H x.Obj x.Slot) w})
 else if x.PC=6 then ((zF s x.G).1,if (zF s x.G).2.Out=1 then {x with G:=(zF s x.G).2,PC:=onW s x.Slot} else {x with G:=(zF s x.G).2})
 else if x.PC=7 then (s,match x.Batch with | []=>zaq s.P w x | o::l=>{x with Batch:=l,PC:=5,Obj:=o,Slot:=0})
 else if x.PC=8 then ({s with T:=wh s.T x.Obj,L:=zda s.L 0},{x with PC:=9})
 else if x.PC=9 then ({s with Work:=wc (s.Work-1)},{x with Obj:=0,PC:=7})
 else (s,x)
def zP (s:za) (w:Int):za :=
 if s.Done=true\/w<1\/(s.Ws.length:Int)<w then s
 else match s.Ws[(w-1).toNat]? with
  | some x=>{(zB s w x).1 with Ws:=s.Ws.set (w-1).toNat (zB s w x).2}
  | none=>s
structure zET (p:zd) (nb:Nat) (hd:Int) (c:zU):Prop where
 k:c.Kind=2
 h:c.Head=hd
 n:c.Next=zT p
 v:1<=c.PC->1<=yE c.H/\yE c.H<nb
 y:2<=c.PC->0<=c.Y/\c.Y<nb
 o:c.Out≠1
structure zA9 (p:zd) (nb:Nat) (hd:Int) (c:zU):Prop where
 k:c.Kind=1
 h:c.Head=hd
 n:c.Next=zT p
 x:1<=c.X/\c.X<nb
 v:1<=c.PC->yE c.H<nb
theorem zDB {p:zd}{nb:Nat}{hd x:Int}:zET p nb hd (zE6 p hd x) :=
 ⟨rfl,rfl,rfl,fun e=>zj e (by show ¬(1:Int)<=0;decide),fun e=>zj e (by show ¬(2:Int)<=0;decide),by show (0:Int)≠1;decide⟩
theorem zBI {p:zd}{nb:Nat}{hd x:Int}(h:1<=x/\x<nb):zA9 p nb hd (zdc p hd x) :=
 ⟨rfl,rfl,rfl,h,fun e=>zj e (by show ¬(1:Int)<=0;decide)⟩
structure WOk (p:zd) (nb:Nat) (w:Int) (x:zi):Prop where
 pc:0<=x.PC/\x.PC<=9
 vic:1<=x.Victim/\x.Victim<=p.Workers
 d0:x.PC=0->x.D.Kind=2/\x.D.Base=z6 p w/\x.D.Cap=p.Cap
 d1:x.PC=1->x.D.Kind=3/\x.D.Base=z6 p x.Victim/\x.D.Cap=p.Cap
 c2:x.PC=2->zET p nb (yt p) x.C
 b3:x.PC=3->1<=x.Bin/\x.Bin<nb
 c4:x.PC=4->zA9 p nb (zT p) x.C
 g6:x.PC=6->MOk p nb x.G/\(x.G.PC=5->x.G.C.Out≠1)/\x.G.Mode=1/\x.G.PC≠4
theorem WOk.plain {p:zd}{nb:Nat}{w:Int}{x:zi}(pc:x.PC=5\/x.PC=7\/x.PC=8\/x.PC=9) (vic:1<=x.Victim/\x.Victim<=p.Workers):WOk p nb w x :=
 ⟨by omega,vic,fun e=>by omega,fun e=>by omega,fun e=>by omega,fun e=>by omega,fun e=>by omega,fun e=>by omega⟩
theorem SOk.swLow {p:zd}{nb:Nat}{s:za}(h:zJ p) (S:SOk p nb s) {a:Int}(ha:a<yt p) (x v:BitVec 64):SOk p nb {s with M:=(sw s.M a x v).1}:=by
 unfold sw;split
 .exact S.low h ha v
 .exact S
theorem zKd {p:zd}{nb:Nat}{s:za}(h:zJ p) (S:SOk p nb s) {d:zg}{v:Int}(hv:1<=v/\v<=p.Workers) (hk:d.Kind=2\/d.Kind=3) (hb:d.Base=z6 p v):SOk p nb {s with M:=(yj s.M d).1}:=by
 have hd:=Xe h hv.1 hv.2;have hc:=h.cap;have hf:=Yg h;have e1:wc (d.Base+1)=d.Base+1:=xq;unfold yj;split
 .exact S
 split
 .omega
 split
 .unfold zlj;rw [e1];split
  .exact S
  split
  .exact S
  split
  .exact S.low h (by omega) _
  split
  .exact S
  split
  .exact S
  split
  .exact S.swLow h (by omega) _ _
  split<;>exact S.low h (by omega) _
 split
 .unfold zc5;split
  .exact S
  split
  .exact S
  split
  .exact S
  split
  .exact S
  .exact S.swLow h (by omega) _ _
 .exact S
theorem zox (m:List (BitVec 64)) (d:zg):(yj m d).1.length=m.length/\(yj m d).2.Kind=d.Kind/\(yj m d).2.Base=d.Base/\(yj m d).2.Cap=d.Cap:=by
 unfold yj;split
 .exact ⟨rfl,rfl,rfl,rfl⟩
 split
 .unfold xp;split
  .exact ⟨rfl,rfl,rfl,rfl⟩
  split
  .exact ⟨rfl,rfl,rfl,rfl⟩
  split
  .refine ⟨rfl,?_,?_,?_⟩<;>dsimp only<;>split<;>rfl
  split<;>exact ⟨YD _ _ _,rfl,rfl,rfl⟩
 split
 .exact zEa m d
 split
 .exact zBK m d
 .exact ⟨rfl,rfl,rfl,rfl⟩
theorem zHW {n v:Int}(h:1<=v/\v<=n):1<=zkI n v/\zkI n v<=n:=by unfold zkI;split<;>omega
theorem WOk.look {p:zd}{nb:Nat}{w:Int}{x:zi}(hw:1<=w/\w<=p.Workers) (vic:1<=x.Victim/\x.Victim<=p.Workers):WOk p nb w (Zk p w x):=by
 have hn:=zHW vic;unfold Zk;split
 .exact ⟨⟨(by show (0:Int)<=2;decide),(by show (2:Int)<=9;decide)⟩,hw,fun e=>(by cases e),fun e=>(by cases e),fun _=>zDB,fun e=>(by cases e),fun e=>(by cases e),fun e=>(by cases e)⟩
 .exact ⟨⟨(by show (0:Int)<=1;decide),(by show (1:Int)<=9;decide)⟩,hn,fun e=>(by cases e),fun _=>⟨rfl,rfl,rfl⟩,fun e=>(by cases e),fun e=>(by cases e),fun e=>(by cases e),fun e=>(by cases e)⟩
theorem WOk.begin {p:zd}{nb:Nat}{w:Int}{x:zi}(hw:1<=w/\w<=p.Workers):WOk p nb w (zaq p w x) :=
 ⟨⟨(by show (0:Int)<=0;decide),(by show (0:Int)<=9;decide)⟩,hw,fun _=>⟨rfl,rfl,rfl⟩,fun e=>(by cases e),fun e=>(by cases e),fun e=>(by cases e),fun e=>(by cases e),fun e=>(by cases e)⟩
theorem zDx (s:za) {g:zI}(h1:g.Mode=1) (h4:g.PC≠4):(zF s g).2.PC≠4/\(zF s g).1.Flag=s.Flag:=by
 have five:(5:Int)≠4:=by decide
 unfold zF;split
 .exact ⟨h4,rfl⟩
 split
 .refine ⟨?_,rfl⟩;unfold zcY;dsimp only;split<;>exact h4
 split
 .exact ⟨(by show (7:Int)≠4;decide),rfl⟩
 split
 .refine ⟨?_,rfl⟩;unfold zkZ;dsimp only;split
  .show (6:Int)≠4;decide
  split
  .exact five
  .exact h4
 split
 .refine ⟨?_,rfl⟩;unfold zlf;dsimp only;split
  .exact h4
  split
  .exact five
  .exact h4
 split
 .exact ⟨h4,rfl⟩
 split
 .refine ⟨?_,rfl⟩;unfold zli;dsimp only;split
  .show (2:Int)≠4;decide
  .show (3:Int)≠4;decide
 .exact ⟨(by show (1:Int)≠4;decide),rfl⟩
theorem zd9 (s:za) (i:Int):onW s i=5\/onW s i=8:=by unfold onW;split<;>simp
theorem SOk.keep {p:zd}{nb:Nat}{s s':za}(S:SOk p nb s) (hP:s'.P=s.P) (hM:s'.M=s.M) (hB:s'.Bins.length=s.Bins.length):SOk p nb s' :=
 ⟨hP.trans S.P,hB.trans S.bins,S.nbk,by rw [hM];exact S.mem,by rw [hM];exact S.cF,by rw [hM];exact S.cE,by rw [hM];exact S.cL⟩
theorem zDC {p:zd}{nb:Nat}{s:za}{w:Int}{x:zi}(h:zJ p) (hw:1<=w/\w<=p.Workers) (S:SOk p nb s) (W:WOk p nb w x):SOk p nb (zB s w x).1/\WOk p nb w (zB s w x).2:=by
 have hP:=S.P;unfold zB;split
 .rename_i h01;have hv:∃v,(1<=v/\v<=p.Workers)/\(x.D.Kind=2\/x.D.Kind=3)/\x.D.Base=z6 p v:=by
   rcases h01 with e | e
   .obtain ⟨a,b,c⟩:=W.d0 e;exact ⟨w,hw,.inl a,b⟩
   .obtain ⟨a,b,c⟩:=W.d1 e;exact ⟨x.Victim,W.vic,.inr a,b⟩
  obtain ⟨v,hv1,hv2,hv3⟩:=hv;refine ⟨zKd h S hv1 hv2 hv3,?_⟩;obtain ⟨l1,l2,l3,l4⟩:=zox s.M x.D;dsimp only;split
  .exact WOk.plain (.inl rfl) hw
  split
  .rw [hP];exact WOk.look hw W.vic
  .refine ⟨W.pc,W.vic,fun e=>?_,fun e=>?_,fun e=>by dsimp only at e;omega,fun e=>by dsimp only at e;omega,fun e=>by dsimp only at e;omega,fun e=>by dsimp only at e;omega⟩
   .obtain ⟨a,b,c⟩:=W.d0 e;exact ⟨l2.trans a,l3.trans b,l4.trans c⟩
   .obtain ⟨a,b,c⟩:=W.d1 e;exact ⟨l2.trans a,l3.trans b,l4.trans c⟩
 split
 .rename_i h2;have C:=W.c2 h2;obtain ⟨b1,b2,b3,b4,b5,b6⟩:=zBM h S (.inl rfl) C.k C.h C.n C.v C.y C.o;refine ⟨b1,?_⟩;dsimp only;split
  .rename_i e1;exact ⟨⟨(by show (0:Int)<=3;decide),(by show (3:Int)<=9;decide)⟩,W.vic,fun e=>(by cases e),fun e=>(by cases e),fun e=>(by cases e),fun _=>b6 e1,fun e=>(by cases e),fun e=>(by cases e)⟩
  split
  .rw [hP];exact WOk.begin hw
  .rename_i e1 e2;exact ⟨W.pc,W.vic,fun e=>(by dsimp only at e;omega),fun e=>(by dsimp only at e;omega),fun _=>⟨b2,b3,b4,(b5 e1 e2).1,(b5 e1 e2).2,e1⟩,fun e=>(by dsimp only at e;omega),fun e=>(by dsimp only at e;omega),fun e=>(by dsimp only at e;omega)⟩
 split
 .rename_i h3;have B:=W.b3 h3;refine ⟨S.keep rfl rfl (by simp),?_⟩;rw [hP];exact ⟨⟨(by show (0:Int)<=4;decide),(by show (4:Int)<=9;decide)⟩,W.vic,fun e=>(by cases e),fun e=>(by cases e),fun e=>(by cases e),fun e=>(by cases e),fun _=>zBI B,fun e=>(by cases e)⟩
 split
 .rename_i h4;have C:=W.c4 h4;obtain ⟨b1,b2,b3,b4,b5,b6⟩:=zxC h S (.inr rfl) C.k C.h C.n C.x C.v;refine ⟨b1,?_⟩;dsimp only;split
  .exact WOk.plain (.inr (.inl rfl)) W.vic
  .exact ⟨W.pc,W.vic,fun e=>(by dsimp only at e;omega),fun e=>(by dsimp only at e;omega),fun e=>(by dsimp only at e;omega),fun e=>(by dsimp only at e;omega),fun _=>⟨b2,b3,b4,b5,b6⟩,fun e=>(by dsimp only at e;omega)⟩
 split
 .refine ⟨S,?_⟩;dsimp only;split
  .rcases zd9 s (wc (x.Slot+1)) with e | e<;>rw [e]
   .exact WOk.plain (.inl rfl) W.vic
   .exact WOk.plain (.inr (.inr (.inl rfl))) W.vic
  .exact ⟨⟨(by show (0:Int)<=6;decide),(by show (6:Int)<=9;decide)⟩,W.vic,fun e=>(by cases e),fun e=>(by cases e),fun e=>(by cases e),fun e=>(by cases e),fun e=>(by cases e),fun _ =>
    ⟨⟨fun _=>hw,fun e=>(by cases e),fun e=>(by cases e),fun e=>(by cases e),fun e=>(by cases e)⟩,fun e=>(by cases e),rfl,by show (0:Int)≠4;decide⟩⟩
 split
 .rename_i h6;obtain ⟨g1,g2,g3,g4⟩:=W.g6 h6;obtain ⟨r1,r2,r3⟩:=zs8 h S g1 g2;refine ⟨r1,?_⟩;dsimp only;split
  .rcases zd9 s x.Slot with e | e<;>rw [e]
   .exact WOk.plain (.inl rfl) W.vic
   .exact WOk.plain (.inr (.inr (.inl rfl))) W.vic
  .exact ⟨W.pc,W.vic,fun e=>(by dsimp only at e;omega),fun e=>(by dsimp only at e;omega),fun e=>(by dsimp only at e;omega),fun e=>(by dsimp only at e;omega),fun e=>(by dsimp only at e;omega),fun _=>⟨r2,r3,(Uv s x.G).2.2.trans g3,(zDx s g3 g4).1⟩⟩
 split
 .refine ⟨S,?_⟩;dsimp only;split
  .rw [hP];exact WOk.begin hw
  .exact WOk.plain (.inl rfl) W.vic
 split
 .exact ⟨S.keep rfl rfl rfl,WOk.plain (.inr (.inr (.inr rfl))) W.vic⟩
 split
 .exact ⟨S.keep rfl rfl rfl,WOk.plain (.inr (.inl rfl)) W.vic⟩
 .have:=W.pc;omega
def Zo (h:zt) (o s v:Int):zt :=
 if yP h o s=true/\0<=v/\v<=(h.Objs.length:Int) then {h with Objs:=h.Objs.set (o-1).toNat ((zX h o).set s.toNat v)} else h
def Yp (h:zt) (most:Int):Bool:=decide ((h.Objs.length:Int)<most)&&decide ((h.Objs.length:Int)<64)
def yU (h:zt):zt:={h with Objs:=h.Objs++[zMr h.Slots.toNat 0]}
def XF (t:zx) (o:Int):zx:=if (wv t o).2=true then wh (wv t o).1 o else t
def zcp (l:zy) (who:Int):Int:=l.Bal.getD (who-1).toNat 0
def zar (l:zy) (who:Int):Bool:=decide (1<=who)&&decide (who<=(l.Bal.length:Int))
def zbM (l:zy) (who price limit:Int):Bool:=zar l who&&decide (0<=price)&&decide (0<=limit)&&decide (price<=1000000)&&decide (limit<=1000000)
def zeN (l:zy) (who price limit:Int):Bool:=zbM l who price limit&&decide (wc (-limit)<=wc (zcp l who-price))
def zcv (l:zy) (who price:Int):zy:={l with Spent:=wc (l.Spent+price),Bal:=l.Bal.set (who-1).toNat (wc (zcp l who-price))}
def zsG (l:zy) (who price limit:Int):Int:=if zbM l who price limit then (if zeN l who price limit then 0 else wc (wc (price-limit)-zcp l who)) else -1
def zki (a b:Int):Int:=if b<a then b else a
def zce (l:zy) (who want:Int):zy×Int :=
 if zar l who=true/\0<zki want l.Pool then ({l with Pool:=wc (l.Pool-zki want l.Pool),Bal:=l.Bal.set (who-1).toNat (wc (zcp l who+zki want l.Pool))},zki want l.Pool) else (l,0)
def vJ (p:zd) (m:Int):List zE:=p.Progs.getD (m-1).toNat []
def opM (p:zd) (m:Int) (x:ze):zE:=(vJ p m).getD x.IP.toNat ⟨0,0,0,0⟩
def vX (x:ze) (r:Int):Int:=x.Regs.getD r.toNat 0
def xG (x:ze):ze:={x with PC:=0,IP:=wc (x.IP+1)}
def setM (x:ze) (r v:Int):ze:={x with PC:=0,IP:=wc (x.IP+1),Regs:=x.Regs.set r.toNat v}
def onM (s:za) (slot:Int):Int:=if slot=s.H.Slots then 38 else 36
def ztk (s:za) (m:Int) (x:ze):Int:=zZ s.H (vX x (opM s.P m x).A) (opM s.P m x).S
def YH (s:za) (m:Int) (x:ze):ze :=
 if s.Acks.getD (m-1).toNat 0<s.Epoch then {x with PC:=1,Ret:=2,Want:=s.Epoch}
 else if ((vJ s.P m).length:Int)<=x.IP then x
 else if (opM s.P m x).Kind=1 then {x with PC:=10}
 else if (opM s.P m x).Kind=2 then {x with PC:=20}
 else if (opM s.P m x).Kind=3 then {x with PC:=30}
 else if (opM s.P m x).Kind=4 then setM x (opM s.P m x).R (vX x (opM s.P m x).A)
 else setM x (opM s.P m x).R 0
def mu0 (s:za) (m:Int) (x:ze):za×ze :=
 (s,YH s m x)
def mu1 (s:za) (m:Int) (x:ze):za×ze :=
 (s,if x.Buf.length=0 then {x with PC:=x.Ret} else {x with PC:=3,Buf:=x.Buf.take (x.Buf.length-1),G:=YB 2 (x.Buf.getD (x.Buf.length-1) 0) m})
def mu2 (s:za) (m:Int) (x:ze):za×ze :=
 ({s with Acks:=s.Acks.set (m-1).toNat x.Want},{x with PC:=0})
def mu3 (s:za) (m:Int) (x:ze):za×ze :=
 ((zF s x.G).1,if (zF s x.G).2.Out=1 then {x with PC:=1,G:=(zF s x.G).2} else {x with G:=(zF s x.G).2})
def zeU (s:za) (m:Int) (x:ze):za×ze :=
 (s,setM x (opM s.P m x).R (ztk s m x))
def UP (s:za) (m:Int) (x:ze):za×ze :=
 (s,if vX x (opM s.P m x).A=0 then xG x else {x with PC:=21,Old:=ztk s m x})
def VR (s:za) (m:Int) (x:ze):za×ze :=
 (s,if x.Old=0\/yB s.T x.Old≠0 then {x with PC:=23,Old:=0} else {x with PC:=22})
def zbx (s:za) (m:Int) (x:ze):za×ze :=
 (s,if s.P.Buf<=(x.Buf.length:Int) then {x with PC:=1,Ret:=22} else {x with PC:=23,Old:=0,Buf:=x.Buf++[x.Old]})
def zdN (s:za) (m:Int) (x:ze):za×ze :=
 ({s with H:=Zo s.H (vX x (opM s.P m x).A) (opM s.P m x).S (vX x (opM s.P m x).R)},xG x)
def Y6 (s:za) (m:Int) (x:ze):za×ze :=
   if zeN s.L m s.P.Price s.P.Limit=true then
   if Yp s.H s.P.Most=true then ({s with L:=zcv s.L m s.P.Price,H:=yU s.H,T:=XF s.T (wc (s.H.Objs.length+1))},setM x (opM s.P m x).R (wc (s.H.Objs.length+1)))
   else (s,xG x)
  else (s,{x with PC:=31})
def zaK (s:za) (m:Int) (x:ze):za×ze :=
   ({s with L:=(zce s.L m (zsG s.L m s.P.Price s.P.Limit)).1},if (zce s.L m (zsG s.L m s.P.Price s.P.Limit)).2=0 then {x with PC:=32,C:=zE6 s.P (yt s.P) x.Bin} else {x with PC:=0})
def zaE (s:za) (m:Int) (x:ze):za×ze :=
   ({s with M:=(zC s.M x.C).1},if (zC s.M x.C).2.Out=1 then {x with PC:=33,Bin:=(zC s.M x.C).2.X,C:=(zC s.M x.C).2}
   else if (zC s.M x.C).2.Out=2 then {x with PC:=0,C:=(zC s.M x.C).2} else {x with C:=(zC s.M x.C).2})
def zeW (s:za) (m:Int) (x:ze):za×ze :=
 ({s with Bins:=s.Bins.set x.Bin.toNat []},{x with Batch:=Uo s x.Bin,PC:=34,C:=zdc s.P (zT s.P) x.Bin})
def zaj (s:za) (m:Int) (x:ze):za×ze :=
   ({s with M:=(zC s.M x.C).1},if (zC s.M x.C).2.Out=1 then {x with C:=(zC s.M x.C).2,Bin:=0,PC:=35} else {x with C:=(zC s.M x.C).2})
def zaG (s:za) (m:Int) (x:ze):za×ze :=
 (s,match x.Batch with | []=>{x with PC:=0} | o::l=>{x with PC:=36,Obj:=o,Slot:=0,Batch:=l})
def zbZ (s:za) (m:Int) (x:ze):za×ze :=
   (s,if zZ s.H x.Obj x.Slot=0 then {x with Slot:=wc (x.Slot+1),PC:=onM s (wc (x.Slot+1))} else {x with Slot:=wc (x.Slot+1),PC:=37,G:=YB 3 (zZ s.H x.Obj x.Slot) m})
def WP (s:za) (m:Int) (x:ze):za×ze :=
 ((zF s x.G).1,if (zF s x.G).2.Out=1 then {x with G:=(zF s x.G).2,PC:=onM s x.Slot} else {x with G:=(zF s x.G).2})
def zeR (s:za) (m:Int) (x:ze):za×ze :=
 ({s with T:=wh s.T x.Obj,L:=zda s.L m},{x with PC:=39})
def zh9 (s:za) (m:Int) (x:ze):za×ze :=
 ({s with Work:=wc (s.Work-1)},{x with Obj:=0,PC:=35})
def zn (s:za) (m:Int) (x:ze):za×ze :=
 if x.PC=0 then mu0 s m x
 else if x.PC=1 then mu1 s m x
 else if x.PC=2 then mu2 s m x
 else if x.PC=3 then mu3 s m x
 else if x.PC=10 then zeU s m x
 else if x.PC=20 then UP s m x
 else if x.PC=21 then VR s m x
 else if x.PC=22 then zbx s m x
 else if x.PC=23 then zdN s m x
 else if x.PC=30 then Y6 s m x
 else if x.PC=31 then zaK s m x
 else if x.PC=32 then zaE s m x
 else if x.PC=33 then zeW s m x
 else if x.PC=34 then zaj s m x
 else if x.PC=35 then zaG s m x
 else if x.PC=36 then zbZ s m x
 else if x.PC=37 then WP s m x
 else if x.PC=38 then zeR s m x
 else if x.PC=39 then zh9 s m x
 else (s,x)
def zG (s:za) (m:Int):za :=
 if s.Done=true\/m<1\/(s.Ms.length:Int)<m then s
 else match s.Ms[(m-1).toNat]? with
  | some x=>{(zn s m x).1 with Ms:=s.Ms.set (m-1).toNat (zn s m x).2}
  | none=>s
def zik (p:zd) (m:Int):Nat:=(p.Regs.getD (m-1).toNat []).length
structure XOk (p:zd) (nb:Nat) (m:Int) (x:ze):Prop where
 pc:(0<=x.PC/\x.PC<=3)\/x.PC=10\/(20<=x.PC/\x.PC<=23)\/(30<=x.PC/\x.PC<=39)
 regs:x.Regs.length=zik p m
 ip:0<=x.IP/\x.IP<=((vJ p m).length:Int)
 op:(10<=x.PC/\x.PC<=30)\/((x.PC=1\/x.PC=3)/\x.Ret=22)->x.IP<((vJ p m).length:Int)
 ret:x.PC=1\/x.PC=3->x.Ret=2\/x.Ret=22
 c32:x.PC=32->zET p nb (yt p) x.C
 b33:x.PC=33->1<=x.Bin/\x.Bin<nb
 c34:x.PC=34->zA9 p nb (zT p) x.C
 bin:x.PC≠33->x.PC≠34->x.Bin=0
 g:x.PC=3\/x.PC=37->MOk p nb x.G/\(x.G.PC=5->x.G.C.Out≠1)/\x.G.Mode≠1
 buf:(x.Buf.length:Int)<=p.Buf
theorem XOk.move {p:zd}{nb:Nat}{m:Int}{x y:ze}(X:XOk p nb m x) (h:x.PC≠33/\x.PC≠34) (pc:y.PC=0\/y.PC=2\/y.PC=10\/(20<=y.PC/\y.PC<=23)\/y.PC=30\/y.PC=31\/y.PC=35\/y.PC=36\/y.PC=38\/y.PC=39)
  (regs:y.Regs.length=x.Regs.length) (bin:y.Bin=x.Bin) (buf:(y.Buf.length:Int)<=p.Buf) (ip:0<=y.IP/\y.IP<=((vJ p m).length:Int)) (op:10<=y.PC/\y.PC<=30->y.IP<((vJ p m).length:Int)):XOk p nb m y :=
 ⟨by omega,regs.trans X.regs,ip,fun e=>op (by omega),fun e=>by omega,fun e=>by omega,fun e=>by omega,fun e=>by omega,fun _ _=>bin.trans (X.bin h.1 h.2),fun e=>by omega,buf⟩
theorem YA (s:za) (i:Int):onM s i=36\/onM s i=38:=by unfold onM;split<;>simp
theorem XOk.next {p:zd}{nb:Nat}{m:Int}{x:ze}(hp:((vJ p m).length:Int)<=64) (X:XOk p nb m x) (h:x.PC≠33/\x.PC≠34) (hi:x.IP<((vJ p m).length:Int)):XOk p nb m (xG x):=by
 have:=X.ip;have e:wc (x.IP+1)=x.IP+1:=xq;refine X.move h (.inl rfl) rfl rfl X.buf ?_ (fun h=>zj h (by show ¬((10:Int)<=0/\(0:Int)<=30);decide));show 0<=wc (x.IP+1)/\wc (x.IP+1)<=_;rw [e];omega
theorem XOk.set {p:zd}{nb:Nat}{m:Int}{x:ze}(hp:((vJ p m).length:Int)<=64) (X:XOk p nb m x) (h:x.PC≠33/\x.PC≠34) (hi:x.IP<((vJ p m).length:Int)) (r v:Int):XOk p nb m (setM x r v):=by
 have:=X.ip;have e:wc (x.IP+1)=x.IP+1:=xq;refine X.move h (.inl rfl) (by simp [setM]) rfl X.buf ?_ (fun h=>zj h (by show ¬((10:Int)<=0/\(0:Int)<=30);decide));show 0<=wc (x.IP+1)/\wc (x.IP+1)<=_;rw [e];omega
theorem yN {motive:za×ze->Prop}(s:za) (m:Int) (x:ze) (h0:x.PC=0->motive (mu0 s m x)) (h1:x.PC=1->motive (mu1 s m x)) (h2:x.PC=2->motive (mu2 s m x)) (h3:x.PC=3->motive (mu3 s m x)) (h10:x.PC=10->motive (zeU s m x)) (h20:x.PC=20->motive (UP s m x)) (h21:x.PC=21->motive (VR s m x)) (h22:x.PC=22->motive (zbx s m x)) (h23:x.PC=23->motive (zdN s m x)) (h30:x.PC=30->motive (Y6 s m x)) (h31:x.PC=31->motive (zaK s m x)) (h32:x.PC=32->motive (zaE s m x)) (h33:x.PC=33->motive (zeW s m x)) (h34:x.PC=34->motive (zaj s m x)) (h35:x.PC=35->motive (zaG s m x)) (h36:x.PC=36->motive (zbZ s m x)) (h37:x.PC=37->motive (WP s m x)) (h38:x.PC=38->motive (zeR s m x)) (h39:x.PC=39->motive (zh9 s m x)) (hn:motive (s,x)):motive (zn s m x):=by
 unfold zn;by_cases c0:x.PC=0
 .rw [zb c0];exact h0 c0
 rw [zc c0];by_cases c1:x.PC=1
 .rw [zb c1];exact h1 c1
 rw [zc c1];by_cases c2:x.PC=2
 .rw [zb c2];exact h2 c2
 rw [zc c2];by_cases c3:x.PC=3
 .rw [zb c3];exact h3 c3
 rw [zc c3];by_cases c10:x.PC=10
 .rw [zb c10];exact h10 c10
 rw [zc c10];by_cases c20:x.PC=20
 .rw [zb c20];exact h20 c20
 rw [zc c20];by_cases c21:x.PC=21
 .rw [zb c21];exact h21 c21
 rw [zc c21];by_cases c22:x.PC=22
 .rw [zb c22];exact h22 c22
 rw [zc c22];by_cases c23:x.PC=23
 .rw [zb c23];exact h23 c23
 rw [zc c23];by_cases c30:x.PC=30
 .rw [zb c30];exact h30 c30
 rw [zc c30];by_cases c31:x.PC=31
 .rw [zb c31];exact h31 c31
 rw [zc c31];by_cases c32:x.PC=32
 .rw [zb c32];exact h32 c32
 rw [zc c32];by_cases c33:x.PC=33
 .rw [zb c33];exact h33 c33
 rw [zc c33];by_cases c34:x.PC=34
 .rw [zb c34];exact h34 c34
 rw [zc c34];by_cases c35:x.PC=35
 .rw [zb c35];exact h35 c35
 rw [zc c35];by_cases c36:x.PC=36
 .rw [zb c36];exact h36 c36
 rw [zc c36];by_cases c37:x.PC=37
 .rw [zb c37];exact h37 c37
 rw [zc c37];by_cases c38:x.PC=38
 .rw [zb c38];exact h38 c38
 rw [zc c38];by_cases c39:x.PC=39
 .rw [zb c39];exact h39 c39
 rw [zc c39];exact hn
theorem zFu {p:zd}{nb:Nat}{s:za}{m:Int}{x:ze}(h:zJ p) (hp:((vJ p m).length:Int)<=64) (S:SOk p nb s) (X:XOk p nb m x):SOk p nb (zn s m x).1/\XOk p nb m (zn s m x).2:=by
 have hP:=S.P;have hip:=X.ip;have hbuf:=X.buf;have hb:=h.buf;have nop:∀y:Int,31<=y->¬(10<=y/\y<=30):=fun y h e=>by omega
 refine yN (motive:=fun r=>SOk p nb r.1/\XOk p nb m r.2) s m x ?_ ?_ ?_ ?_ ?_ ?_ ?_ ?_ ?_ ?_ ?_ ?_ ?_ ?_ ?_ ?_ ?_ ?_ ?_ ?_
 .intro c;unfold mu0;refine ⟨S,?_⟩;unfold YH;rw [hP];split
  .exact ⟨.inl ⟨(by show (0:Int)<=1;decide),(by show (1:Int)<=3;decide)⟩,X.regs,X.ip,fun e=>by dsimp only at e;omega,fun _=>.inl rfl,fun e=>(by cases e),fun e=>(by cases e),fun e=>(by cases e),fun _ _=>X.bin (by omega) (by omega),fun e=>by dsimp only at e;omega,X.buf⟩
  split
  .exact X
  rename_i hlt;have hlt:x.IP<((vJ p m).length:Int):=by omega
  split
  .exact X.move (by omega) (.inr (.inr (.inl rfl))) rfl rfl X.buf X.ip (fun _=>hlt)
  split
  .exact X.move (by omega) (.inr (.inr (.inr (.inl ⟨by show (20:Int)<=20;decide,by show (20:Int)<=23;decide⟩)))) rfl rfl X.buf X.ip (fun _=>hlt)
  split
  .exact X.move (by omega) (.inr (.inr (.inr (.inr (.inl rfl))))) rfl rfl X.buf X.ip (fun _=>hlt)
  split
  .exact X.set hp (by omega) hlt _ _
  .exact X.set hp (by omega) hlt _ _
 .intro c;unfold mu1;refine ⟨S,?_⟩;split
  .rcases X.ret (.inl c) with e | e
   .exact X.move (by omega) (.inr (.inl e)) rfl rfl X.buf X.ip (fun e2=>by dsimp only at e2;omega)
   .exact X.move (by omega) (.inr (.inr (.inr (.inl (by dsimp only;omega))))) rfl rfl X.buf X.ip (fun e2=>X.op (.inr ⟨.inl c,e⟩))
  .exact ⟨.inl ⟨(by show (0:Int)<=3;decide),(by show (3:Int)<=3;decide)⟩,X.regs,X.ip,fun e=>X.op (.inr ⟨.inl c,by dsimp only at e;omega⟩),fun _=>X.ret (.inl c),fun e=>(by cases e),fun e=>(by cases e),fun e=>(by cases e),fun _ _=>X.bin (by omega) (by omega),
    fun _=>⟨⟨fun e=>zj e (by show ¬(2:Int)=1;decide),fun e=>(by cases e),fun e=>(by cases e),fun e=>(by cases e),fun e=>(by cases e)⟩,fun e=>(by cases e),by show (2:Int)≠1;decide⟩,by dsimp only;rw [zLF];omega⟩
 .intro c;unfold mu2;exact ⟨S.keep rfl rfl rfl,X.move (by omega) (.inl rfl) rfl rfl X.buf X.ip (fun e=>zj e (by show ¬((10:Int)<=0/\(0:Int)<=30);decide))⟩
 .intro c;unfold mu3;obtain ⟨g1,g2,g3⟩:=X.g (.inl c);obtain ⟨r1,r2,r3⟩:=zs8 h S g1 g2;refine ⟨r1,?_⟩;dsimp only;split
  .exact ⟨.inl ⟨(by show (0:Int)<=1;decide),(by show (1:Int)<=3;decide)⟩,X.regs,X.ip,fun e=>X.op (.inr ⟨.inr c,by dsimp only at e;omega⟩),fun _=>X.ret (.inr c),fun e=>(by cases e),fun e=>(by cases e),fun e=>(by cases e),fun _ _=>X.bin (by omega) (by omega),fun e=>by dsimp only at e;omega,X.buf⟩
  .exact ⟨X.pc,X.regs,X.ip,X.op,X.ret,fun e=>by dsimp only at e;omega,fun e=>by dsimp only at e;omega,fun e=>by dsimp only at e;omega,X.bin,fun _=>⟨r2,r3,by rw [(Uv s x.G).2.2];exact g3⟩,X.buf⟩
 .intro c;unfold zeU;exact ⟨S,X.set hp (by omega) (X.op (.inl (by omega))) _ _⟩
 .intro c;unfold UP;refine ⟨S,?_⟩;split
  .exact X.next hp (by omega) (X.op (.inl (by omega)))
  .exact X.move (by omega) (.inr (.inr (.inr (.inl ⟨by show (20:Int)<=21;decide,by show (21:Int)<=23;decide⟩)))) rfl rfl X.buf X.ip (fun _=>X.op (.inl (by omega)))
 .intro c;unfold VR;refine ⟨S,?_⟩;split
  .exact X.move (by omega) (.inr (.inr (.inr (.inl ⟨by show (20:Int)<=23;decide,by show (23:Int)<=23;decide⟩)))) rfl rfl X.buf X.ip (fun _=>X.op (.inl (by omega)))
  .exact X.move (by omega) (.inr (.inr (.inr (.inl ⟨by show (20:Int)<=22;decide,by show (22:Int)<=23;decide⟩)))) rfl rfl X.buf X.ip (fun _=>X.op (.inl (by omega)))
 .intro c;unfold zbx;have hi:=X.op (.inl (by omega));refine ⟨S,?_⟩;rw [hP];split
  .exact ⟨.inl ⟨(by show (0:Int)<=1;decide),(by show (1:Int)<=3;decide)⟩,X.regs,X.ip,fun e=>hi,fun _=>.inr rfl,fun e=>(by cases e),fun e=>(by cases e),fun e=>(by cases e),fun _ _=>X.bin (by omega) (by omega),fun e=>by dsimp only at e;omega,X.buf⟩
  .exact X.move (by omega) (.inr (.inr (.inr (.inl ⟨by show (20:Int)<=23;decide,by show (23:Int)<=23;decide⟩)))) rfl rfl (by simp;omega) X.ip (fun _=>hi)
 .intro c;unfold zdN;exact ⟨S.keep rfl rfl rfl,X.next hp (by omega) (X.op (.inl (by omega)))⟩
 .intro c;unfold Y6;have hi:=X.op (.inl (by omega));split
  .split
   .exact ⟨S.keep rfl rfl rfl,X.set hp (by omega) hi _ _⟩
   .exact ⟨S,X.next hp (by omega) hi⟩
  .exact ⟨S,X.move (by omega) (.inr (.inr (.inr (.inr (.inr (.inl rfl)))))) rfl rfl X.buf X.ip (fun e=>zj e (by show ¬((10:Int)<=31/\(31:Int)<=30);decide))⟩
 .intro c;unfold zaK;refine ⟨S.keep rfl rfl rfl,?_⟩;rw [hP];split
  .exact ⟨.inr (.inr (.inr ⟨(by show (30:Int)<=32;decide),(by show (32:Int)<=39;decide)⟩)),X.regs,X.ip,fun e=>by dsimp only at e;omega,fun e=>by dsimp only at e;omega,fun _=>zDB,fun e=>(by cases e),fun e=>(by cases e),fun _ _=>X.bin (by omega) (by omega),fun e=>by dsimp only at e;omega,X.buf⟩
  .exact X.move (by omega) (.inl rfl) rfl rfl X.buf X.ip (fun e=>zj e (by show ¬((10:Int)<=0/\(0:Int)<=30);decide))
 .intro c;unfold zaE;have C:=X.c32 c;obtain ⟨b1,b2,b3,b4,b5,b6⟩:=zBM h S (.inl rfl) C.k C.h C.n C.v C.y C.o;refine ⟨b1,?_⟩;dsimp only;split
  .rename_i e1;exact ⟨.inr (.inr (.inr ⟨(by show (30:Int)<=33;decide),(by show (33:Int)<=39;decide)⟩)),X.regs,X.ip,fun e=>by dsimp only at e;omega,fun e=>by dsimp only at e;omega,fun e=>(by cases e),fun _=>b6 e1,fun e=>(by cases e),fun e=>zj rfl e,fun e=>by dsimp only at e;omega,X.buf⟩
  split
  .exact X.move (by omega) (.inl rfl) rfl rfl X.buf X.ip (fun e=>zj e (by show ¬((10:Int)<=0/\(0:Int)<=30);decide))
  .rename_i e1 e2;exact ⟨X.pc,X.regs,X.ip,X.op,X.ret,fun _=>⟨b2,b3,b4,(b5 e1 e2).1,(b5 e1 e2).2,e1⟩,fun e=>by dsimp only at e;omega,fun e=>by dsimp only at e;omega,X.bin,fun e=>by dsimp only at e;omega,X.buf⟩
 .intro c;unfold zeW;have B:=X.b33 c;refine ⟨S.keep rfl rfl (by simp),?_⟩;rw [hP];exact ⟨.inr (.inr (.inr ⟨(by show (30:Int)<=34;decide),(by show (34:Int)<=39;decide)⟩)),X.regs,X.ip,fun e=>by dsimp only at e;omega,fun e=>by dsimp only at e;omega,fun e=>(by cases e),fun e=>(by cases e),fun _=>zBI B,fun _ e=>zj rfl e,fun e=>by dsimp only at e;omega,X.buf⟩
 .intro c;unfold zaj;have C:=X.c34 c;obtain ⟨b1,b2,b3,b4,b5,b6⟩:=zxC h S (.inr rfl) C.k C.h C.n C.x C.v;refine ⟨b1,?_⟩;dsimp only;split
  .exact ⟨.inr (.inr (.inr ⟨(by show (30:Int)<=35;decide),(by show (35:Int)<=39;decide)⟩)),X.regs,X.ip,fun e=>by dsimp only at e;omega,fun e=>by dsimp only at e;omega,fun e=>(by cases e),fun e=>(by cases e),fun e=>(by cases e),fun _ _=>rfl,fun e=>by dsimp only at e;omega,X.buf⟩
  .exact ⟨X.pc,X.regs,X.ip,X.op,X.ret,fun e=>by dsimp only at e;omega,fun e=>by dsimp only at e;omega,fun _=>⟨b2,b3,b4,b5,b6⟩,X.bin,fun e=>by dsimp only at e;omega,X.buf⟩
 .intro c;unfold zaG;refine ⟨S,?_⟩;dsimp only;split
  .exact X.move (by omega) (.inl rfl) rfl rfl X.buf X.ip (fun e=>zj e (by show ¬((10:Int)<=0/\(0:Int)<=30);decide))
  .exact X.move (by omega) (by simp) rfl rfl X.buf X.ip (fun e=>zj e (nop 36 (by omega)))
 .intro c;unfold zbZ;refine ⟨S,?_⟩;dsimp only;split
  .rcases YA s (wc (x.Slot+1)) with e | e<;>rw [e]
   .exact X.move (by omega) (by simp) rfl rfl X.buf X.ip (fun e=>zj e (nop 36 (by omega)))
   .exact X.move (by omega) (by simp) rfl rfl X.buf X.ip (fun e=>zj e (nop 38 (by omega)))
  .exact ⟨.inr (.inr (.inr ⟨(by show (30:Int)<=37;decide),(by show (37:Int)<=39;decide)⟩)),X.regs,X.ip,fun e=>by dsimp only at e;omega,fun e=>by dsimp only at e;omega,fun e=>(by cases e),fun e=>(by cases e),fun e=>(by cases e),fun _ _=>X.bin (by omega) (by omega),
    fun _=>⟨⟨fun e=>zj e (by show ¬(3:Int)=1;decide),fun e=>(by cases e),fun e=>(by cases e),fun e=>(by cases e),fun e=>(by cases e)⟩,fun e=>(by cases e),by show (3:Int)≠1;decide⟩,X.buf⟩
 .intro c;unfold WP;obtain ⟨g1,g2,g3⟩:=X.g (.inr c);obtain ⟨r1,r2,r3⟩:=zs8 h S g1 g2;refine ⟨r1,?_⟩;dsimp only;split
  .rcases YA s x.Slot with e | e<;>rw [e]
   .exact X.move (by omega) (by simp) rfl rfl X.buf X.ip (fun e=>zj e (nop 36 (by omega)))
   .exact X.move (by omega) (by simp) rfl rfl X.buf X.ip (fun e=>zj e (nop 38 (by omega)))
  .exact ⟨X.pc,X.regs,X.ip,X.op,X.ret,fun e=>by dsimp only at e;omega,fun e=>by dsimp only at e;omega,fun e=>by dsimp only at e;omega,X.bin,fun _=>⟨r2,r3,by rw [(Uv s x.G).2.2];exact g3⟩,X.buf⟩
 .intro c;unfold zeR;exact ⟨S.keep rfl rfl rfl,X.move (by omega) (by simp) rfl rfl X.buf X.ip (fun e=>zj e (nop 39 (by omega)))⟩
 .intro c;unfold zh9;exact ⟨S.keep rfl rfl rfl,X.move (by omega) (by simp) rfl rfl X.buf X.ip (fun e=>zj e (nop 35 (by omega)))⟩
 .exact ⟨S,X⟩
structure Xm (s:za):Prop where
 m:s.M.length<1000000
 bins:s.Bins.length<1000000
 bin:∀x∈s.Bins,x.length<1000000
 acks:s.Acks.length<1000000
 bal:s.L.Bal.length<1000000
 ws:s.Ws.length<1000000
 w:∀x∈s.Ws,x.Batch.length<1000000
 ms:s.Ms.length<1000000
 mu:∀x∈s.Ms,x.Regs.length<1000000/\x.Buf.length<1000000/\x.Batch.length<1000000
 objs:s.H.Objs.length<1000000
 obj:∀x∈s.H.Objs,x.length<1000000
 pobjs:s.P.H.Objs.length<1000000
 pobj:∀x∈s.P.H.Objs,x.length<1000000
 regs:s.P.Regs.length<1000000
 reg:∀x∈s.P.Regs,x.length<1000000
 progs:s.P.Progs.length<1000000
 prog:∀x∈s.P.Progs,x.length<1000000
 picks:s.P.Picks.length<1000000
theorem zdu (m:List (BitVec 64)) (c:zU):(zC m c).1.length=m.length:=by
 unfold zC sw;split
 .rfl
 split
 .rfl
 split
 .split<;>simp [YD]
 .dsimp only;split<;>simp [YD]
theorem zkR (m:List (BitVec 64)) (d:zg):(xp m d).1.length=m.length:=by
 unfold xp;split
 .rfl
 split
 .rfl
 split
 .rfl
 split<;>simp [YD]
theorem za7 (s:za) (g:zI):∃m b t w f,(zF s g).1={s with M:=m,Bins:=b,T:=t,Work:=w,Flag:=f}/\m.length=s.M.length/\b.length=s.Bins.length /\
  (∀x∈b,x∈s.Bins\/x=[g.Obj])/\(t=s.T\/t=(wv s.T g.Obj).1)/\(w=s.Work\/w=wc (s.Work+1)\/w=wc (s.Work-1)):=by
 unfold zF;split
 .exact ⟨s.M,s.Bins,s.T,s.Work,s.Flag,rfl,rfl,rfl,fun x h=>.inl h,.inl rfl,.inl rfl⟩
 split
 .exact ⟨_,s.Bins,s.T,s.Work,s.Flag,rfl,zdu _ _,rfl,fun x h=>.inl h,.inl rfl,.inl rfl⟩
 split
 .refine ⟨s.M,_,s.T,s.Work,s.Flag,rfl,rfl,by simp,fun x h=>?_,.inl rfl,.inl rfl⟩;rcases zLj h with h | h
  .exact .inl h
  .exact .inr h
 split
 .exact ⟨_,s.Bins,s.T,s.Work,s.Flag,rfl,zdu _ _,rfl,fun x h=>.inl h,.inl rfl,.inl rfl⟩
 split
 .exact ⟨s.M,s.Bins,s.T,s.Work,true,rfl,rfl,rfl,fun x h=>.inl h,.inl rfl,.inl rfl⟩
 split
 .exact ⟨_,s.Bins,s.T,s.Work,s.Flag,rfl,zkR _ _,rfl,fun x h=>.inl h,.inl rfl,.inl rfl⟩
 split
 .exact ⟨s.M,s.Bins,s.T,_,s.Flag,rfl,rfl,rfl,fun x h=>.inl h,.inl rfl,.inr (.inr rfl)⟩
 split
 .exact ⟨s.M,s.Bins,_,s.Work,s.Flag,rfl,rfl,rfl,fun x h=>.inl h,.inr rfl,.inl rfl⟩
 .exact ⟨s.M,s.Bins,s.T,_,s.Flag,rfl,rfl,rfl,fun x h=>.inl h,.inl rfl,.inr (.inl rfl)⟩
theorem zFK {p:zd}(h:zJ p):Xm (xk p):=by
 have S:=zDO h;have hb:=zeM h;have hg:=znK h;have hn:=h.n;have hm:=h.mt;have hw:=h.wk;have hs:=h.slots;have hrl:=h.regs;have hpl:=h.progs;have hobj:∀o∈p.H.Objs,o.length<1000000:=fun o ho=>by have:=(h.objs o ho).1;omega
 have hreg:∀r∈p.Regs,r.length<1000000:=fun r hr=>by have:=(h.reg r hr).1;omega
 refine ⟨by have:=S.mem;omega,by rw [S.bins];omega,fun x hx=>?_,?_,?_,?_,fun x hx=>?_,?_,fun x hx=>?_,by show p.H.Objs.length<_;omega,hobj,by show p.H.Objs.length<_;omega,hobj,by show p.Regs.length<_;omega,hreg,by show p.Progs.length<_;omega,fun x hx=>?_,?_⟩
 .have hx:x∈[[]]++xM p++zMr (yh p-(xM p).length) []:=hx;rcases zKS.1 hx with hx | hx
  .rcases zKS.1 hx with hx | hx
   .simp at hx;subst hx;simp
   .have:=zoB _ _ _ _ hx;omega
  .have:=(List.mem_replicate.1 hx).2;subst this;simp
 .show (zMr p.Mutators.toNat (0:Int)).length<_;simp;omega
 .show (zMr p.Mutators.toNat (0:Int)).length<_;simp;omega
 .show ((zMt p.Workers.toNat).map (ub p)).length<_;simp;omega
 .have hx:x∈(zMt p.Workers.toNat).map (ub p):=hx;obtain ⟨i,_,rfl⟩:=zKE.1 hx;simp [ub]
 .show (p.Regs.map wp).length<_;simp;omega
 .have hx:x∈p.Regs.map wp:=hx;obtain ⟨r,hr,rfl⟩:=zKE.1 hx;exact ⟨hreg r hr,by simp [wp],by simp [wp]⟩
 .obtain ⟨i,hi⟩:=List.getElem?_of_mem hx;have hlt:=(zKC.1 hi).1;have:=(h.prog i _ x (zKv (show i<p.Regs.length from (show p.Progs.length=p.Regs.length by omega)▸hlt)) hi).1;omega
 .show p.Picks.length<_;rw [h.picks];simp
def zV (s:za):za :=
 if s.Done=true then s
 else if s.D.PC=0 then {s with Flag:=false,D:={s.D with PC:=1}}
 else if s.D.PC=1 then (if s.Work=0 then {s with D:={s.D with PC:=2}} else s)
 else if s.D.PC=2 then {s with Epoch:=wc (s.Epoch+1),D:=⟨if s.Ms.length=0 then 4 else 3,0⟩}
 else if s.D.PC=3 then (if s.Acks.getD s.D.I.toNat 0<s.Epoch then s else {s with D:=⟨if wc (s.D.I+1)=(s.Ms.length:Int) then 4 else 3,wc (s.D.I+1)⟩})
 else if s.D.PC=4 then (if s.Work=0 then {s with D:={s.D with PC:=5}} else {s with Restarts:=wc (s.Restarts+1),D:={s.D with PC:=0}})
 else if s.D.PC=5 then (if s.Flag=true then {s with Restarts:=wc (s.Restarts+1),D:={s.D with PC:=0}} else {s with D:={s.D with PC:=6}})
 else if s.D.PC=6 then {s with Done:=true}
 else s
structure HOk (p:zd) (h:zt):Prop where
 slots:h.Slots=p.H.Slots
 n:(p.H.Objs.length:Int)<=(h.Objs.length:Int)/\(h.Objs.length:Int)<=p.Most
 objs:∀o∈h.Objs,(o.length:Int)=h.Slots/\∀v∈o,0<=v/\v<=(h.Objs.length:Int)
structure EOk (p:zd) (nb:Nat) (s:za):Prop where
 S:SOk p nb s
 wl:(s.Ws.length:Int)=p.Workers
 ml:(s.Ms.length:Int)=p.Mutators
 al:s.Acks.length=s.Ms.length
 W:∀(i:Nat) x,s.Ws[i]? =some x->WOk p nb ((i:Int)+1) x
 X:∀(i:Nat) x,s.Ms[i]? =some x->XOk p nb ((i:Int)+1) x
 H:HOk p s.H
 D:(0<=s.D.PC/\s.D.PC<=6)/\(s.D.PC=3->0<=s.D.I/\s.D.I<(s.Ms.length:Int))
 small:Xm s
theorem zw4 {p:zd}(h:zJ p) (m:Int):((vJ p m).length:Int)<=64:=by
 unfold vJ;have hr:=h.regs;have hp:=h.progs;rw [zKw];rcases zK5 (m-1).toNat p.Progs.length with hl | hl
 .rw [zKv hl];have hl2:(m-1).toNat<p.Regs.length:=by omega
  have:=(h.prog (m-1).toNat _ _ (zKv hl2) (zKv hl)).1;show ((p.Progs[(m-1).toNat]).length:Int)<=64;omega
 .rw [zLC hl];show (([]:List zE).length:Int)<=64;simp
theorem zAM {p:zd}(h:zJ p):EOk p (yh p+1) (xk p):=by
 have hw:=h.wk;have hm:=h.mt;have hr:=h.regs;have hn:=h.n;have hmo:=h.most;have hb:=h.buf;refine ⟨zDO h,?_,?_,?_,fun i x hx=>?_,fun i x hx=>?_,⟨rfl,⟨zKW _,hmo.1⟩,h.objs⟩,⟨⟨by show (0:Int)<=0;decide,by show (0:Int)<=6;decide⟩,fun e=>zj e (by show ¬(0:Int)=3;decide)⟩,zFK h⟩
 .show (((zMt p.Workers.toNat).map (ub p)).length:Int)=_;rw [zLq,List.length_range];omega
 .show ((p.Regs.map wp).length:Int)=_;rw [zLq];exact hr
 .show (zMr p.Mutators.toNat (0:Int)).length=(p.Regs.map wp).length;rw [zLa,zLq];omega
 .have hx:((zMt p.Workers.toNat).map (ub p))[i]? =some x:=hx;rw [zK1] at hx;rcases zK5 i p.Workers.toNat with hl | hl
  .rw [List.getElem?_range hl] at hx;injection hx with hx;subst hx;exact ⟨⟨by show (0:Int)<=0;decide,by show (0:Int)<=9;decide⟩,by show 1<=(i:Int)+1/\(i:Int)+1<=p.Workers;omega,fun _=>⟨rfl,rfl,rfl⟩,fun e=>(by cases e),fun e=>(by cases e),fun e=>(by cases e),fun e=>(by cases e),fun e=>(by cases e)⟩
  .rw [zLC (by rw [List.length_range];exact hl)] at hx;cases hx
 .have hx:(p.Regs.map wp)[i]? =some x:=hx;rw [zK1] at hx;cases hq:p.Regs[i]? with
  | none=>rw [hq] at hx;cases hx
  | some r =>
   rw [hq] at hx;injection hx with hx;subst hx;refine ⟨.inl ⟨by show (0:Int)<=0;decide,by show (0:Int)<=3;decide⟩,?_,⟨by show (0:Int)<=0;decide,by show (0:Int)<=_;omega⟩,fun e=>zj e ?_,fun e=>zj e ?_,fun e=>(by cases e),fun e=>(by cases e),fun e=>(by cases e),fun _ _=>rfl,fun e=>zj e ?_,by show (0:Int)<=p.Buf;omega⟩
   .show r.length=zik p ((i:Int)+1);unfold zik;rw [show ((i:Int)+1-1).toNat=i by omega,zKw,hq];rfl
   .intro e;simp [wp] at e
   .intro e;simp [wp] at e
   .intro e;simp [wp] at e
theorem zuj {s:za}(h:Xm s) (b:Int):(Uo s b).length<1000000:=by
 unfold Uo;rw [zKw];cases hq:s.Bins[b.toNat]? with
 | none=>simp
 | some l=>exact h.bin l (zKy hq)
theorem zyP (l:zy) (w:Int):(zda l w).Bal.length=l.Bal.length:=by unfold zda;split<;>simp
structure V3 (s s':za):Prop where
 P:s'.P=s.P
 m:s'.M.length=s.M.length
 bl:s'.Bins.length=s.Bins.length
 b:∀l∈s'.Bins,l∈s.Bins\/l.length<=1
 bal:s'.L.Bal.length=s.L.Bal.length
 ac:s'.Acks.length=s.Acks.length
 ws:s'.Ws=s.Ws
 ms:s'.Ms=s.Ms
 done:s'.Done=s.Done
 d:s'.D=s.D
theorem V3.refl (s:za):V3 s s:=⟨rfl,rfl,rfl,fun l h=>.inl h,rfl,rfl,rfl,rfl,rfl,rfl⟩
theorem zfg (s:za) (g:zI):V3 s (zF s g).1/\(zF s g).1.H=s.H:=by
 obtain ⟨m,b,t,w,f,e,h1,h2,h3,_,_⟩:=za7 s g;rw [e];exact ⟨⟨rfl,h1,h2,fun l hl=>(h3 l hl).imp id (fun e=>by rw [e];simp),rfl,rfl,rfl,rfl,rfl,rfl⟩,rfl⟩
theorem zDH {s:za}(b:Nat):∀l∈s.Bins.set b [],l∈s.Bins\/l.length<=1:=fun l hl=>(zLj hl).imp id (fun e=>by rw [e];simp)
theorem zzv (s:za) (w:Int) (x:zi):V3 s (zB s w x).1/\(zB s w x).1.H=s.H:=by
 unfold zB;split
 .exact ⟨⟨rfl,(zox _ _).1,rfl,fun l h=>.inl h,rfl,rfl,rfl,rfl,rfl,rfl⟩,rfl⟩
 split
 .exact ⟨⟨rfl,zdu _ _,rfl,fun l h=>.inl h,rfl,rfl,rfl,rfl,rfl,rfl⟩,rfl⟩
 split
 .exact ⟨⟨rfl,rfl,by simp,zDH _,rfl,rfl,rfl,rfl,rfl,rfl⟩,rfl⟩
 split
 .exact ⟨⟨rfl,zdu _ _,rfl,fun l h=>.inl h,rfl,rfl,rfl,rfl,rfl,rfl⟩,rfl⟩
 split
 .exact ⟨V3.refl s,rfl⟩
 split
 .exact zfg s x.G
 split
 .exact ⟨V3.refl s,rfl⟩
 split
 .exact ⟨⟨rfl,rfl,rfl,fun l h=>.inl h,zyP _ _,rfl,rfl,rfl,rfl,rfl⟩,rfl⟩
 split
 .exact ⟨⟨rfl,rfl,rfl,fun l h=>.inl h,rfl,rfl,rfl,rfl,rfl,rfl⟩,rfl⟩
 .exact ⟨V3.refl s,rfl⟩
theorem zCx (p:zd) (w:Int) (x:zi):(Zk p w x).Batch=x.Batch:=by unfold Zk;split<;>rfl
theorem zD1 {s:za}(h:Xm s) (w:Int) {x:zi}(hx:x.Batch.length<1000000):(zB s w x).2.Batch.length<1000000:=by
 unfold zB;split
 .dsimp only;split
  .exact hx
  split
  .rw [zCx];exact hx
  .exact hx
 split
 .dsimp only;split
  .exact hx
  split<;>exact hx
 split
 .exact zuj h _
 split
 .dsimp only;split<;>exact hx
 split
 .dsimp only;split<;>exact hx
 split
 .dsimp only;split<;>exact hx
 split
 .dsimp only;cases hb:x.Batch with
  | nil=>show x.Batch.length<_;exact hx
  | cons o l=>rw [hb] at hx;show l.length<_;simp at hx;omega
 split
 .exact hx
 split
 .exact hx
 .exact hx
theorem zEN (l:zy) (w p:Int):(zcv l w p).Bal.length=l.Bal.length:=by unfold zcv;simp
theorem zFe (l:zy) (w n:Int):(zce l w n).1.Bal.length=l.Bal.length:=by unfold zce;split<;>simp
theorem zB5 (s:za) (m:Int) (x:ze):V3 s (zn s m x).1:=by
 have q:∀s':za,s'.P=s.P->s'.M=s.M->s'.Bins=s.Bins->s'.L.Bal.length=s.L.Bal.length->s'.Acks.length=s.Acks.length->s'.Ws=s.Ws->s'.Ms=s.Ms->s'.Done=s.Done->s'.D=s.D->V3 s s' :=
  fun s' a b c d e f g h i=>⟨a,by rw [b],by rw [c],fun l hl=>.inl (c▸hl),d,e,f,g,h,i⟩
 refine yN (motive:=fun r=>V3 s r.1) s m x ?_ ?_ ?_ ?_ ?_ ?_ ?_ ?_ ?_ ?_ ?_ ?_ ?_ ?_ ?_ ?_ ?_ ?_ ?_ ?_
 .intro c;unfold mu0;exact V3.refl s
 .intro c;unfold mu1;exact V3.refl s
 .intro c;unfold mu2;exact q _ rfl rfl rfl rfl (by simp) rfl rfl rfl rfl
 .intro c;unfold mu3;exact (zfg s x.G).1
 .intro c;unfold zeU;exact V3.refl s
 .intro c;unfold UP;exact V3.refl s
 .intro c;unfold VR;exact V3.refl s
 .intro c;unfold zbx;exact V3.refl s
 .intro c;unfold zdN;exact q _ rfl rfl rfl rfl rfl rfl rfl rfl rfl
 .intro c;unfold Y6;split
  .split
   .exact q _ rfl rfl rfl (zEN _ _ _) rfl rfl rfl rfl rfl
   .exact V3.refl s
  .exact V3.refl s
 .intro c;unfold zaK;exact q _ rfl rfl rfl (zFe _ _ _) rfl rfl rfl rfl rfl
 .intro c;unfold zaE;exact ⟨rfl,zdu _ _,rfl,fun l h=>.inl h,rfl,rfl,rfl,rfl,rfl,rfl⟩
 .intro c;unfold zeW;exact ⟨rfl,rfl,by simp,zDH _,rfl,rfl,rfl,rfl,rfl,rfl⟩
 .intro c;unfold zaj;exact ⟨rfl,zdu _ _,rfl,fun l h=>.inl h,rfl,rfl,rfl,rfl,rfl,rfl⟩
 .intro c;unfold zaG;exact V3.refl s
 .intro c;unfold zbZ;exact V3.refl s
 .intro c;unfold WP;exact (zfg s x.G).1
 .intro c;unfold zeR;exact q _ rfl rfl rfl (zyP _ _) rfl rfl rfl rfl rfl
 .intro c;unfold zh9;exact q _ rfl rfl rfl rfl rfl rfl rfl rfl rfl
 .exact V3.refl s
theorem HOk.sm {p:zd}(hp:zJ p) {h:zt}(H:HOk p h):h.Objs.length<1000000/\∀x∈h.Objs,x.length<1000000:=by
 have h1:=H.n;have h2:=hp.most;have h3:=hp.n;have h4:=hp.slots;have h5:=H.slots;exact ⟨by omega,fun x hx=>by have:=(H.objs x hx).1;omega⟩
theorem Xm.turn {p:zd}(hp:zJ p) {s s':za}(h:Xm s) (T:V3 s s') (H:HOk p s'.H):Xm s':=by
 have hh:=H.sm hp;refine ⟨by rw [T.m];exact h.m,by rw [T.bl];exact h.bins,fun x hx=>?_,by rw [T.ac];exact h.acks,by rw [T.bal];exact h.bal,by rw [T.ws];exact h.ws,by rw [T.ws];exact h.w,by rw [T.ms];exact h.ms,by rw [T.ms];exact h.mu,hh.1,hh.2,by rw [T.P];exact h.pobjs,by rw [T.P];exact h.pobj,by rw [T.P];exact h.regs,by rw [T.P];exact h.reg,by rw [T.P];exact h.progs,by rw [T.P];exact h.prog,by rw [T.P];exact h.picks⟩;rcases T.b x hx with h' | h'
 .exact h.bin x h'
 .omega
theorem Xm.setW {s:za}(h:Xm s) {i:Nat}{x:zi}(hx:x.Batch.length<1000000):Xm {s with Ws:=s.Ws.set i x} :=
 ⟨h.m,h.bins,h.bin,h.acks,h.bal,by simp only [zKV];exact h.ws,fun y hy=>by
  rcases zLj hy with hy | rfl
  .exact h.w y hy
  .exact hx,h.ms,h.mu,h.objs,h.obj,h.pobjs,h.pobj,h.regs,h.reg,h.progs,h.prog,h.picks⟩
theorem Xm.setM {s:za}(h:Xm s) {i:Nat}{x:ze}(hx:x.Regs.length<1000000/\x.Buf.length<1000000/\x.Batch.length<1000000):Xm {s with Ms:=s.Ms.set i x} :=
 ⟨h.m,h.bins,h.bin,h.acks,h.bal,h.ws,h.w,by simp only [zKV];exact h.ms,fun y hy=>by
  rcases zLj hy with hy | rfl
  .exact h.mu y hy
  .exact hx,h.objs,h.obj,h.pobjs,h.pobj,h.regs,h.reg,h.progs,h.prog,h.picks⟩
theorem zDL {α:Type}{l:List α}{i j:Nat}{x y:α}(h:(l.set i x)[j]? =some y):(j=i/\y=x)\/l[j]? =some y:=by
 rw [zLg] at h;split at h
 .rename_i e;split at h
  .injection h with h;exact .inl ⟨e.symm,h.symm⟩
  .cases h
 .exact .inr h
theorem zBU {p:zd}{nb:Nat}{s:za}(h:zJ p) (E:EOk p nb s) (w:Int):EOk p nb (zP s w):=by
 unfold zP;split
 .exact E
 rename_i hc;cases hx:s.Ws[(w-1).toNat]? with
 | none=>exact E
 | some x =>
  have hw1: ¬w<1:=fun e=>hc (.inr (.inl e));have hw2: ¬(s.Ws.length:Int)<w:=fun e=>hc (.inr (.inr e));have hwl:=E.wl;have ei:(((w-1).toNat:Nat):Int)+1=w:=by omega
  have hW:=E.W _ x hx;rw [ei] at hW;obtain ⟨r1,r2⟩:=zDC h (by omega) E.S hW;obtain ⟨T,TH⟩:=zzv s w x;have sm:Xm (zB s w x).1:=E.small.turn h T (by rw [TH];exact E.H);have hws:(zB s w x).1.Ws=s.Ws:=T.ws;refine ⟨r1.keep rfl rfl rfl,?_,?_,?_,fun i y hy=>?_,fun i y hy=>?_,?_,?_,?_⟩
  .show ((s.Ws.set _ _).length:Int)=_;rw [zKV];exact hwl
  .show ((zB s w x).1.Ms.length:Int)=_;rw [T.ms];exact E.ml
  .show (zB s w x).1.Acks.length=(zB s w x).1.Ms.length;rw [T.ms,T.ac];exact E.al
  .rcases zDL hy with ⟨rfl,rfl⟩ | hy
   .rw [ei];exact r2
   .exact E.W i y hy
  .have hy:(zB s w x).1.Ms[i]? =some y:=hy;rw [T.ms] at hy;exact E.X i y hy
  .show HOk p (zB s w x).1.H;rw [TH];exact E.H
  .show (0<=(zB s w x).1.D.PC/\(zB s w x).1.D.PC<=6)/\((zB s w x).1.D.PC=3->0<=(zB s w x).1.D.I/\(zB s w x).1.D.I<((zB s w x).1.Ms.length:Int));rw [T.d,T.ms];exact E.D
  .have:=sm.setW (i:=(w-1).toNat) (zD1 E.small w (E.small.w x (zKy hx)));rw [hws] at this;exact this
theorem zIa {p:zd}{nb:Nat}{s:za}(h:zJ p) (E:EOk p nb s):EOk p nb (zV s):=by
 have key:∀s':za,s'.P=s.P->s'.M=s.M->s'.Bins=s.Bins->s'.Ws=s.Ws->s'.Ms=s.Ms->s'.Acks=s.Acks->s'.H=s.H->s'.L=s.L->((0<=s'.D.PC/\s'.D.PC<=6)/\(s'.D.PC=3->0<=s'.D.I/\s'.D.I<(s'.Ms.length:Int)))->EOk p nb s':=by
  intro s' e1 e2 e3 e4 e5 e6 e7 e8 e9;have q:=E.small;refine ⟨E.S.keep e1 e2 (by rw [e3]),by rw [e4];exact E.wl,by rw [e5];exact E.ml,by rw [e5,e6];exact E.al,by rw [e4];exact E.W,by rw [e5];exact E.X,by rw [e7];exact E.H,e9,?_⟩;exact ⟨by rw [e2];exact q.m,by rw [e3];exact q.bins,by rw [e3];exact q.bin,by rw [e6];exact q.acks,by rw [e8];exact q.bal,by rw [e4];exact q.ws,by rw [e4];exact q.w,by rw [e5];exact q.ms,by rw [e5];exact q.mu,by rw [e7];exact q.objs,by rw [e7];exact q.obj,by rw [e1];exact q.pobjs,by rw [e1];exact q.pobj,by rw [e1];exact q.regs,by rw [e1];exact q.reg,by rw [e1];exact q.progs,by rw [e1];exact q.prog,by rw [e1];exact q.picks⟩
 have hm:∀n:Int,0<=n/\n<=6->n≠3->∀i,(0<=(⟨n,i⟩:zO).PC/\(⟨n,i⟩:zO).PC<=6)/\((⟨n,i⟩:zO).PC=3->0<=(⟨n,i⟩:zO).I/\(⟨n,i⟩:zO).I<(s.Ms.length:Int)):=fun n h1 h2 i=>⟨h1,fun e=>zj e h2⟩
 have hml:=E.ml;have hmt:=h.mt;unfold zV;split
 .exact E
 split
 .exact key _ rfl rfl rfl rfl rfl rfl rfl rfl (hm 1 (by decide) (by decide) _)
 split
 .split
  .exact key _ rfl rfl rfl rfl rfl rfl rfl rfl (hm 2 (by decide) (by decide) _)
  .exact E
 split
 .refine key _ rfl rfl rfl rfl rfl rfl rfl rfl ?_;dsimp only;split
  .exact hm 4 (by decide) (by decide) _
  .exact ⟨by decide,fun _=>by omega⟩
 split
 .rename_i c3;have hi:=E.D.2 c3;split
  .exact E
  .refine key _ rfl rfl rfl rfl rfl rfl rfl rfl ?_;dsimp only;have e:wc (s.D.I+1)=s.D.I+1:=xq;rw [e];split
   .exact hm 4 (by decide) (by decide) _
   .exact ⟨by decide,fun _=>by omega⟩
 split
 .split
  .exact key _ rfl rfl rfl rfl rfl rfl rfl rfl (hm 5 (by decide) (by decide) _)
  .exact key _ rfl rfl rfl rfl rfl rfl rfl rfl (hm 0 (by decide) (by decide) _)
 split
 .split
  .exact key _ rfl rfl rfl rfl rfl rfl rfl rfl (hm 0 (by decide) (by decide) _)
  .exact key _ rfl rfl rfl rfl rfl rfl rfl rfl (hm 6 (by decide) (by decide) _)
 split
 .exact key _ rfl rfl rfl rfl rfl rfl rfl rfl E.D
 .exact E
theorem HOk.put {p:zd}{h:zt}(H:HOk p h) (o s v:Int):HOk p (Zo h o s v):=by
 unfold Zo;split
 .rename_i c;obtain ⟨c1,c2,c3⟩:=c;unfold yP at c1;simp only [zKu,decide_eq_true_eq] at c1;refine ⟨H.slots,by simp only [zKV];exact H.n,fun l hl=>?_⟩;simp only [zKV];rcases zLj hl with hl | rfl
  .exact H.objs l hl
  .have hm:zX h o∈h.Objs:=by
    unfold zX;rw [zKw,zKv (show (o-1).toNat<h.Objs.length by omega)];exact zKR _
   obtain ⟨a,b⟩:=H.objs _ hm;refine ⟨by rw [zKV];exact a,fun y hy=>?_⟩;rcases zLj hy with hy | rfl
   .exact b y hy
   .exact ⟨c2,c3⟩
 .exact H
theorem HOk.alloc {p:zd}(hp:zJ p) {h:zt}(H:HOk p h) (hr:Yp h p.Most=true):HOk p (yU h):=by
 unfold Yp at hr;simp only [zKu,decide_eq_true_eq] at hr;have hs:=hp.slots;have hsl:=H.slots;have hn:=H.n;unfold yU;refine ⟨H.slots,by simp only [zKH,zMl];omega,fun l hl=>?_⟩;simp only [zKH,zMl];rcases zKS.1 hl with hl | hl
 .obtain ⟨a,b⟩:=H.objs l hl;exact ⟨a,fun v hv=>by have:=b v hv;omega⟩
 .rw [zLf.1 hl];refine ⟨by rw [zLa];omega,fun v hv=>?_⟩;rw [(List.mem_replicate.1 hv).2];omega
theorem zJ8 {p:zd}(hp:zJ p) {s:za}(hP:s.P=p) (H:HOk p s.H) (m:Int) (x:ze):HOk p (zn s m x).1.H:=by
 refine yN (motive:=fun r=>HOk p r.1.H) s m x ?_ ?_ ?_ ?_ ?_ ?_ ?_ ?_ ?_ ?_ ?_ ?_ ?_ ?_ ?_ ?_ ?_ ?_ ?_ ?_
 .intro c;unfold mu0;exact H
 .intro c;unfold mu1;exact H
 .intro c;unfold mu2;exact H
 .intro c;unfold mu3;rw [(zfg s x.G).2];exact H
 .intro c;unfold zeU;exact H
 .intro c;unfold UP;exact H
 .intro c;unfold VR;exact H
 .intro c;unfold zbx;exact H
 .intro c;unfold zdN;exact H.put _ _ _
 .intro c;unfold Y6;split
  .split
   .rename_i hr;rw [hP] at hr;exact H.alloc hp hr
   .exact H
  .exact H
 .intro c;unfold zaK;exact H
 .intro c;unfold zaE;exact H
 .intro c;unfold zeW;exact H
 .intro c;unfold zaj;exact H
 .intro c;unfold zaG;exact H
 .intro c;unfold zbZ;exact H
 .intro c;unfold WP;rw [(zfg s x.G).2];exact H
 .intro c;unfold zeR;exact H
 .intro c;unfold zh9;exact H
 .exact H
theorem zAC (s:za) (m:Int) (x:ze):(YH s m x).Batch=x.Batch:=by
 unfold YH
 repeat' split
 all_goals rfl
theorem zFd {s:za}(h:Xm s) (m:Int) {x:ze}(hx:x.Batch.length<1000000):(zn s m x).2.Batch.length<1000000:=by
 refine yN (motive:=fun r=>r.2.Batch.length<1000000) s m x ?_ ?_ ?_ ?_ ?_ ?_ ?_ ?_ ?_ ?_ ?_ ?_ ?_ ?_ ?_ ?_ ?_ ?_ ?_ ?_
 .intro c;unfold mu0;dsimp only;rw [zAC];exact hx
 .intro c;unfold mu1;dsimp only;split<;>exact hx
 .intro c;unfold mu2;exact hx
 .intro c;unfold mu3;dsimp only;split<;>exact hx
 .intro c;unfold zeU;exact hx
 .intro c;unfold UP;dsimp only;split<;>exact hx
 .intro c;unfold VR;dsimp only;split<;>exact hx
 .intro c;unfold zbx;dsimp only;split<;>exact hx
 .intro c;unfold zdN;exact hx
 .intro c;unfold Y6;split
  .split<;>exact hx
  .exact hx
 .intro c;unfold zaK;dsimp only;split<;>exact hx
 .intro c;unfold zaE;dsimp only;split
  .exact hx
  split<;>exact hx
 .intro c;unfold zeW;exact zuj h _
 .intro c;unfold zaj;dsimp only;split<;>exact hx
 .intro c;unfold zaG;dsimp only;cases hb:x.Batch with
  | nil=>show ([]:List Int).length<1000000;simp
  | cons o l=>rw [hb] at hx;show l.length<_;simp at hx;omega
 .intro c;unfold zbZ;dsimp only;split<;>exact hx
 .intro c;unfold WP;dsimp only;split<;>exact hx
 .intro c;unfold zeR;exact hx
 .intro c;unfold zh9;exact hx
 .exact hx
theorem zo5 {p:zd}(h:zJ p) (m:Int):zik p m<1000000:=by
 unfold zik;rw [zKw];cases hq:p.Regs[(m-1).toNat]? with
 | none=>simp
 | some r=>have:=(h.reg r (zKy hq)).1;show r.length<_;omega
theorem zy1 {p:zd}{nb:Nat}{s:za}(h:zJ p) (E:EOk p nb s) (m:Int):EOk p nb (zG s m):=by
 unfold zG;split
 .exact E
 rename_i hc;cases hx:s.Ms[(m-1).toNat]? with
 | none=>exact E
 | some x =>
  have hw1: ¬m<1:=fun e=>hc (.inr (.inl e));have hw2: ¬(s.Ms.length:Int)<m:=fun e=>hc (.inr (.inr e));have ei:(((m-1).toNat:Nat):Int)+1=m:=by omega
  have hX:=E.X _ x hx;rw [ei] at hX;obtain ⟨r1,r2⟩:=zFu h (zw4 h m) E.S hX;have T:=zB5 s m x;have TH:=zJ8 h E.S.P E.H m x;have sm:Xm (zn s m x).1:=E.small.turn h T TH;have hms:(zn s m x).1.Ms=s.Ms:=T.ms;have hb:=h.buf;refine ⟨r1.keep rfl rfl rfl,?_,?_,?_,fun i y hy=>?_,fun i y hy=>?_,TH,?_,?_⟩
  .show ((zn s m x).1.Ws.length:Int)=_;rw [T.ws];exact E.wl
  .show ((s.Ms.set _ _).length:Int)=_;rw [zKV];exact E.ml
  .show (zn s m x).1.Acks.length=(s.Ms.set _ _).length;rw [zKV,T.ac];exact E.al
  .have hy:(zn s m x).1.Ws[i]? =some y:=hy;rw [T.ws] at hy;exact E.W i y hy
  .rcases zDL hy with ⟨rfl,rfl⟩ | hy
   .rw [ei];exact r2
   .exact E.X i y hy
  .show (0<=(zn s m x).1.D.PC/\(zn s m x).1.D.PC<=6)/\((zn s m x).1.D.PC=3->0<=(zn s m x).1.D.I/\(zn s m x).1.D.I<((s.Ms.set _ _).length:Int));rw [T.d,zKV];exact E.D
  .have q:=E.small.mu x (zKy hx);have q1:=r2.regs;have q2:=r2.buf;have q3:=zo5 h m;have:=sm.setM (i:=(m-1).toNat) (x:=(zn s m x).2) ⟨by omega,by omega,zFd E.small m q.2.2⟩;rw [hms] at this;exact this
theorem zDN (t:zx) (o:Int):zn0 t o=some (yB t o,()):=by
 rw [zAy,zlw,zKt];show (bif zR (t.Marks&&&t.Black) o then _ else _)=_;unfold yB;cases h:zR (t.Marks&&&t.Black) o with
 | true=>rfl
 | false =>
  rw [zM,zlw,zKt];show (bif zR t.Marks o then _ else _)=_;cases h2:zR t.Marks o<;>rfl
theorem zjd (t:zx) (o:Int):Uy t o=some (wh t o,decide (yB t o=1),()):=by
 rw [zyD,zDN,zKt,yq];unfold wh;by_cases h:yB t o=1
 .rw [zb h,zb h,zhY,zKt,zr h]
 .rw [zc h,zc h,zN h]
theorem zwN {h:zt}(hl:h.Objs.length<1000000) (o s:Int):U9 h o s=some (yP h o s,()):=by
 rw [zqI];simp only [zp];unfold yP;by_cases h1:1<=o
 .rw [zb h1];by_cases h2:o<=(h.Objs.length:Int)
  .rw [zb h2];by_cases h3:0<=s
   .have e:=zKv (show (o-1).toNat<h.Objs.length by omega);rw [zb h3,yb (a:=o-1) (by omega) (by omega),v8,e,zKt,zr h1,zr h2,zr h3];unfold zX;rw [zKw,e];rfl
   .rw [zc h3,zN h3,Bool.and_false];rfl
  .rw [zc h2,zN h2,Bool.and_false];rfl
 .rw [zc h1,zN h1];rfl
theorem zvc {h:zt}(hl:h.Objs.length<1000000) (o s:Int):zf8 h o s=some (zZ h o s,yP h o s,()):=by
 rw [zzY,zwN hl,zKt];unfold zZ;cases hs:yP h o s with
 | false=>rfl
 | true =>
  have hs':=hs;unfold yP at hs';simp only [zKu,decide_eq_true_eq] at hs';obtain ⟨⟨⟨h1,h2⟩,h3⟩,h4⟩:=hs';have e:=zKv (show (o-1).toNat<h.Objs.length by omega);have es:zX h o=h.Objs[(o-1).toNat]'(by omega):=by unfold zX;rw [zKw,e];rfl
  rw [es] at h4;have e2:=zKv (show s.toNat<(h.Objs[(o-1).toNat]'(by omega)).length by omega);simp only [zKI,zM,if_true];rw [yb (a:=o-1) (by omega) (by omega),v8,e,zKt,v8 h3,e2,zKt,es,zKw,e2];rfl
theorem zlM (l:zy) (who:Int):Yk l who=some (decide (1<=who)&&decide (who<=(l.Bal.length:Int)),()):=by
 rw [zmh,zp];by_cases h1:1<=who
 .rw [zb h1,zr h1];rfl
 .rw [zc h1,zN h1];rfl
theorem zub {l:zy}(hl:l.Bal.length<1000000) (who:Int):zbE l who=some (zda l who,()):=by
 rw [zuM,xV,zlM,zKt];unfold zda;by_cases h:1<=who/\who<=(l.Bal.length:Int)
 .rw [zb h,zr h.1,zr (show who<=((({l with Scanned:=wc (l.Scanned+1)}:zy).Bal.length:Nat):Int) from h.2)];have hn: ¬l.Bal.isEmpty=true:=by
   intro e;have:l.Bal=[]:=by simpa using e
   rw [this] at h;simp at h;omega
  have hn:l.Bal.isEmpty=false:=by simpa using hn
  have e:=zKv (show (who-1).toNat<l.Bal.length by omega);rw [zLu,zKI,zM,zay];simp only [decide_true,zu,zmf (n:=(l.Bal.length:Int)) (by omega) (by omega),zKt,zLa,zLd,hn,zM,xV];rw [xq (a:=who-1) (by omega) (by omega),vS (l:=l.Bal) (by omega) (by omega),zKt,e,zKt,zsI,zKt,zKt,zKt,xV,zKw,e];rfl
 .rw [zc h];have e:(decide (1<=who)&&decide (who<=((({l with Scanned:=wc (l.Scanned+1)}:zy).Bal.length:Nat):Int)))=false:=by
   by_cases h1:1<=who
   .rw [zr h1,zN (fun e=>h ⟨h1,e⟩)];rfl
   .rw [zN h1];rfl
  rw [e];rfl
theorem zuH {α:Type}(o:α) (l:List α):cut (o::l) 1 (((o::l).length:Nat):Int)=some l:=by
 unfold cut;rw [zr (show (0:Int)<=1 by decide),zr (show (1:Int)<=(((o::l).length:Nat):Int) by simp;omega),zr (zKW _)];simp
theorem zva {p:zd}(h:zJ p) {m:Int}(hm:1<=m/\m<=p.Mutators):p.Progs[(m-1).toNat]? =some (vJ p m):=by
 have:=h.progs;have e:=zKv (show (m-1).toNat<p.Progs.length by omega);unfold vJ;rw [zKw,e];rfl
theorem zps {p:zd}(h:zJ p) {m:Int}(hm:1<=m/\m<=p.Mutators) {o:zE}(ho:o∈vJ p m):(0<=o.R/\o.R<(zik p m:Int))/\(0<=o.A/\o.A<(zik p m:Int)):=by
 have hr:=h.regs;have er:=zKv (show (m-1).toNat<p.Regs.length by omega);have e1:zik p m=(p.Regs[(m-1).toNat]'(by omega)).length:=by unfold zik;rw [zKw,er];rfl
 have hl:=(h.reg _ (zKR (show (m-1).toNat<p.Regs.length by omega))).1;obtain ⟨a,b⟩:=(h.prog _ _ _ er (zva h hm)).2 o ho;rw [e1];refine ⟨a,?_⟩;rcases b with ⟨_,b,_⟩ | ⟨_,b,_⟩ | ⟨_,b,_⟩
 .exact b
 .exact b
 .omega
theorem zkJ {p:zd}(h:zJ p) {s:za}(hP:s.P=p) {m:Int}(hm:1<=m/\m<=p.Mutators) {x:ze}(hi:0<=x.IP/\x.IP<((vJ p m).length:Int)) :
  ug ⟨x,s,m⟩=some (opM p m x,())/\opM p m x∈vJ p m:=by
 have hmt:=h.mt;have e:=zKv (show x.IP.toNat<(vJ p m).length by omega);have eo:opM p m x=(vJ p m)[x.IP.toNat]'(by omega):=by unfold opM;rw [zKw,e];rfl
 rw [zro];dsimp only;rw [hP,yb (a:=m-1) (by omega) (by omega),v8,zva h hm,zKt,v8 hi.1,e,zKt,eo];exact ⟨rfl,zKR _⟩
theorem zpL {x:ze}{r:Int}(h:0<=r/\r<(x.Regs.length:Int)):idx x.Regs r=some (vX x r):=by
 have e:=zKv (show r.toNat<x.Regs.length by omega);rw [v8 h.1,e];unfold vX;rw [zKw,e];rfl
theorem ziu {s:za}{m:Int}{x:ze}{r:Int}(h:0<=r/\r<(x.Regs.length:Int)) (hl:x.Regs.length<1000000) (v:Int):Zl r v ⟨x,s,m⟩=some (⟨setM x r v,s,m⟩,()):=by
 rw [zm6];simp only [WH (show x.Regs.length<4294967296 by omega),zKt,vS h.1 h.2,YC,xV];rfl
theorem zr3 {p:zd}(h:zJ p) {s:za}(hP:s.P=p) {m:Int}(hm:1<=m/\m<=p.Mutators) {x:ze}(hi:0<=x.IP/\x.IP<((vJ p m).length:Int)) (hr:x.Regs.length=zik p m) (ho:s.H.Objs.length<1000000) :
  Ug ⟨x,s,m⟩=some (ztk s m x,()):=by
 obtain ⟨e1,e2⟩:=zkJ h hP hm hi;have o:=zps h hm e2;rw [zpf];simp only [e1,zKt,zpL (x:=x) (r:=(opM p m x).A) (by omega),zvc ho];unfold ztk;rw [hP]
theorem zpy {p:zd}{nb:Nat}(h:zJ p) {s:za}(S:SOk p nb s) {m:Int}{x:ze}(M:MOk p nb x.G) (to:Int) :
  YX to ⟨x,s,m⟩=some (⟨if (zF s x.G).2.Out=1 then {x with PC:=to,G:=(zF s x.G).2} else {x with G:=(zF s x.G).2},(zF s x.G).1,m⟩,()):=by
 rw [zjZ];simp only [zyU (S.gok h M),zKt,zp];split<;>rfl
theorem zxg (s:za) (x:ze) (m:Int):zbs ⟨x,s,m⟩=some (onM s x.Slot,()):=by
 rw [zrr,zp];unfold onM;split<;>rfl
theorem zrT (k hd to:Int) (s:za) (x:ze) (m:Int):XP k hd to ⟨x,s,m⟩=some (⟨{x with PC:=to,C:=⟨k,0,hd,zT s.P,0#64,x.Bin,0,0⟩},s,m⟩,()):=by
 rw [zmN];simp only [zbb,zKt,Vm]
theorem zH8 {m:List ze}(h:m.length<4294967296):vF m=some (m,()):=by
 rw [VP,zKG,yQ h,zKt];cases m with
 | nil=>simp [zfm]
 | cons a l=>simp
theorem zz3 {p:zd}(h:zJ p) {nb:Nat}{s:za}(hP:s.P=p) {m:Int}(hm:1<=m/\m<=p.Mutators) (ha:(s.Acks.length:Int)=p.Mutators) {x:ze}(X:XOk p nb m x) :
  UN ⟨x,s,m⟩=some (⟨YH s m x,s,m⟩,()):=by
 have hmt:=h.mt;have hip:=X.ip;have hrs:=zo5 h m;have e:=zKv (show (m-1).toNat<s.Acks.length by omega);have ed:s.Acks.getD (m-1).toNat 0=s.Acks[(m-1).toNat]'(by omega):=by rw [zKw,e];rfl
 have pg:s.P.Progs[(m-1).toNat]? =some (vJ p m):=by rw [hP];exact zva h hm
 rw [zlc];simp only [zp];rw [yb (a:=m-1) (by omega) (by omega),v8,e,zKt];unfold YH;rw [ed,hP];by_cases c:(s.Acks[(m-1).toNat]'(by omega))<s.Epoch
 .rw [zb c,zb c]
 rw [zc c,zc c,<-hP,v8,pg,zKt,hP];by_cases c2:((vJ p m).length:Int)<=x.IP
 .rw [zb c2,zb c2]
 rw [zc c2,zc c2];obtain ⟨e1,e2⟩:=zkJ h hP hm (x:=x) (show 0<=x.IP/\x.IP<((vJ p m).length:Int) by omega);have o:=zps h hm e2;have hreg:=X.regs;rw [e1,zKt];by_cases k1:(opM p m x).Kind=1
 .rw [zb k1,zb k1]
 rw [zc k1,zc k1];by_cases k2:(opM p m x).Kind=2
 .rw [zb k2,zb k2]
 rw [zc k2,zc k2];by_cases k3:(opM p m x).Kind=3
 .rw [zb k3,zb k3]
 rw [zc k3,zc k3];by_cases k4:(opM p m x).Kind=4
 .rw [zb k4,zb k4,zpL (x:=x) (r:=(opM p m x).A) (by omega),zKt,ziu (x:=x) (r:=(opM p m x).R) (by omega) (by omega)];rfl
 .rw [zc k4,zc k4,ziu (x:=x) (r:=(opM p m x).R) (by omega) (by omega)];rfl
theorem zGn {h:zt}(hl:h.Objs.length<1000000) (hs:∀l∈h.Objs,l.length<1000000) (o i v:Int):∃b,zp3 h o i v=some (Zo h o i v,b,()):=by
 rw [zAd,zwN hl,zKt];unfold Zo;cases ht:yP h o i with
 | false=>rw [zc (fun e=>by cases e.1)];exact ⟨_,rfl⟩
 | true =>
  rw [zKI,zM,zp];by_cases h1:v<0
  .rw [zb h1,zk];exact ⟨_,rfl⟩
  rw [zc h1,zp];by_cases h2:(h.Objs.length:Int)<v
  .rw [zb h2,zk];exact ⟨_,rfl⟩
  have hh:=ht;unfold yP at hh;simp only [zKu,decide_eq_true_eq] at hh;obtain ⟨⟨⟨g1,g2⟩,g3⟩,g4⟩:=hh;have e:=zKv (show (o-1).toNat<h.Objs.length by omega);have es:zX h o=h.Objs[(o-1).toNat]'(by omega):=by unfold zX;rw [zKw,e];rfl
  have hlen:=hs _ (zKy e);rw [zc h2,zb ⟨rfl,by omega,by omega⟩,zlk (by omega),zKt,yb (a:=o-1) (by omega) (by omega),vS (l:=h.Objs) (by omega) (by omega),zKt,e,zKt,WH (by omega),zKt,zKt,zKt];rw [zp,zb rfl,vS g3 (by rw [<-es];exact g4),zKt,es];exact ⟨_,rfl⟩
theorem zrd {h:zt}(h1:1<=h.Slots/\h.Slots<=4) (h2:h.Objs.length<=64) (h3:∀o∈h.Objs,(o.length:Int)=h.Slots/\∀v∈o,0<=v/\v<=(h.Objs.length:Int)):XK h=some (true,()):=by
 rw [znY,zp,zb h1.1,zp,zb h1.2,zp,yg,zzq (by omega) (by omega) h3];rfl
theorem zwZ {h:zt}(h1:1<=h.Slots/\h.Slots<=4) (h2:h.Objs.length<=64) (h3:∀o∈h.Objs,(o.length:Int)=h.Slots/\∀v∈o,0<=v/\v<=(h.Objs.length:Int)) (hne:h.Objs≠[]) (most:Int) :
  zgi h most=some (if Yp h most=true then (yU h,(h.Objs.length:Int)+1,0,()) else (h,0,4,())):=by
 have hn:h.Objs.length≠0:=fun e=>hne (zLi e);rw [zwx,zrd h1 h2 h3,zKt,zKI,zM];simp only [zp];have er:Yp h most=true↔(h.Objs.length:Int)<most/\(h.Objs.length:Int)<64:=by unfold Yp;simp
 have hx:(if 64<most then (64:Int) else most)<=(h.Objs.length:Int)↔¬(Yp h most=true):=by
  rw [er];split<;>omega
 by_cases hr:Yp h most=true
 .rw [zc (fun e=>hx.1 e hr),zb hr];have ec:W7 h.Objs=some (h.Objs,()):=by
   rw [zjk];simp [hn]
  rw [ec,zKt,zb trivial,znw,zr (show 0<=h.Slots by omega),zr (show h.Slots<4294967296 by omega)];simp only [Bool.and_self,zu,zKt];rw [yQ (by simp only [zKH,zMl];omega),zKt];unfold yU;simp
 .rw [zb (hx.2 hr),zc hr]
theorem zEY (t:zx) (o:Int):∃b,zcR t o=some (XF t o,b,()):=by
 rw [znH,zkT,zKt];unfold XF;dsimp only;cases hs:(wv t o).2 with
 | false=>rw [zc (by simp)];exact ⟨_,rfl⟩
 | true=>rw [zKI,zM,zjd,zb rfl];exact ⟨_,rfl⟩
theorem zrb (l:zy) (who price limit:Int):Xl l who price limit=some (zbM l who price limit,()):=by
 rw [zld,zlM,zKt];unfold zbM zar;simp only [zp];cases ht:(decide (1<=who)&&decide (who<=(l.Bal.length:Int))) with
 | false=>rw [zM];simp
 | true =>
  rw [zu];by_cases h1:0<=price<;>by_cases h2:0<=limit
  .rw [zb (by split<;>omega)];simp only [zLu,zr h1,zr h2,Option.some.injEq,Prod.mk.injEq,and_true];rw [Bool.eq_iff_iff];simp only [decide_eq_true_eq,zKu];split<;>omega
  .rw [zc (by split<;>omega)];simp [h2]
  .rw [zc (by split<;>omega)];simp [h1]
  .rw [zc (by split<;>omega)];simp [h1]
theorem zym {l:zy}{who:Int}(hl:l.Bal.length<1000000) (h:zar l who=true):idx l.Bal (w64 (who-1))=some (zcp l who)/\wj l.Bal (w64 (who-1))=some (who-1).toNat/\l.Bal[(who-1).toNat]? =some (zcp l who):=by
 unfold zar at h;simp only [zKu,decide_eq_true_eq] at h;have e:=zKv (show (who-1).toNat<l.Bal.length by omega);have eb:zcp l who=l.Bal[(who-1).toNat]'(by omega):=by unfold zcp;rw [zKw,e];rfl
 rw [yb (a:=who-1) (by omega) (by omega),v8,vS,e,eb];exact ⟨rfl,rfl,rfl⟩
theorem zwg {l:zy}(hl:l.Bal.length<1000000) (who price limit:Int):zfK l who price limit=some (zeN l who price limit,()):=by
 rw [zw3,zrb,zKt];unfold zeN;cases hp:zbM l who price limit with
 | false=>rfl
 | true =>
  have ht:zar l who=true:=by unfold zbM at hp;simp only [zKu] at hp;exact hp.1.1.1.1
  dsimp only;rw [zu,(zym hl ht).1,zKt,xV,zLu,Int.zero_sub]
theorem zq6 {l l':zy}(hl:l.Bal.length<1000000) {who:Int}(h:zar l who=true) (hb:l'.Bal=l.Bal) {v:Int}{Q:Option (zy×Unit)}{f:Int->Option (Int×Unit)}(hf:f (zcp l who)=some (v,()))
  (hQ:Q=bif decide (((l'.Bal.length:Int))=((l'.Bal.length:Int))) then (VE ((l'.Bal.length:Int))).bind fun n1=>bif decide (l'.Bal.length=((zMr n1 ((0:Int))).length)) then
   bif l'.Bal.isEmpty then (wj (zMr n1 ((0:Int))) (w64 (who-1))).bind fun n2=>((zMr n1 ((0:Int)))[n2]?).bind fun x3=>(f x3).bind fun y4=>(wj (zMr n1 ((0:Int))) (w64 (who-1))).bind fun n5=>some ({l' with Bal:=(zMr n1 ((0:Int))).set n5 y4.1},())
   else (wj l'.Bal (w64 (who-1))).bind fun n6=>(l'.Bal[n6]?).bind fun x7=>(f x7).bind fun y8=>(wj l'.Bal (w64 (who-1))).bind fun n9=>some ({l' with Bal:=l'.Bal.set n9 y8.1},()) else none else none) :
  Q=some ({l' with Bal:=l.Bal.set (who-1).toNat v},()):=by
 obtain ⟨e1,e2,e3⟩:=zym hl h;have hne:l.Bal.isEmpty=false:=by
  cases hl2:l.Bal with
  | nil=>rw [hl2] at e3;simp at e3
  | cons a r=>rfl
 rw [hQ,hb,znw,zr (show (0:Int)<=(l.Bal.length:Int) by omega),zr (show (l.Bal.length:Int)<4294967296 by omega)];simp only [decide_true,zu,Bool.and_self,zKt,zLd,zLa,hne,zM,e2,e3,hf]
theorem zBF {l:zy}(hl:l.Bal.length<1000000) (who price limit:Int):zhm l who price limit=some (if zeN l who price limit=true then (zcv l who price,true,()) else (l,false,())):=by
 rw [ztu,zwg hl,zKt];cases hm:zeN l who price limit with
 | false=>rfl
 | true =>
  have ht:zar l who=true:=by unfold zeN zbM at hm;simp only [zKu] at hm;exact hm.1.1.1.1.1
  dsimp only;rw [zKI,zM,zq6 (l':={l with Spent:=w64 (l.Spent+price)}) hl ht rfl (f:=fun b=>za8 b price) (v:=wc (zcp l who-price)) (by rw [zrq,xV]) (U5 _ _ _),zKt,zb rfl,xV];rfl
theorem zCR {l:zy}(hl:l.Bal.length<1000000) (who want:Int):zkg l who want=some ((zce l who want).1,(zce l who want).2,()):=by
 rw [zvh,zlM,zKt];unfold zce;have em:(bif decide (l.Pool<want) then l.Pool else want)=zki want l.Pool:=by rw [zp];rfl
 simp only [em];have et:(decide (1<=who)&&decide (who<=(l.Bal.length:Int)))=zar l who:=rfl;rw [et];cases ht:zar l who with
 | false=>rw [zc (fun e=>by cases e.1)];rfl
 | true =>
  rw [zKI,zM,zp];by_cases hz:zki want l.Pool<=0
  .rw [zb hz,zk]
  .rw [zc hz,zb ⟨rfl,by omega⟩,zq6 (l':={l with Pool:=w64 (l.Pool-zki want l.Pool)}) hl ht rfl (f:=fun b=>zcd b (zki want l.Pool)) (v:=wc (zcp l who+zki want l.Pool)) (by rw [zsT,xV]) (zaL _ _ _),zKt,xV]
theorem zCf {l:zy}(hl:l.Bal.length<1000000) (who price limit:Int):zg5 l who price limit=some (zsG l who price limit,()):=by
 rw [ztJ,zrb,zKt];unfold zsG;cases hp:zbM l who price limit with
 | false=>rfl
 | true =>
  have ht:zar l who=true:=by unfold zbM at hp;simp only [zKu] at hp;exact hp.1.1.1.1
  dsimp only;rw [zKI,zM,zwg hl,zKt,zb rfl];cases hm:zeN l who price limit with
  | false=>rw [zM,(zym hl ht).1,zKt,xV];rfl
  | true=>rfl
theorem zCK {p:zd}{nb:Nat}(h:zJ p) {s:za}{x:ze}{m:Int}(S:SOk p nb s) (X:XOk p nb m x) (hm:1<=m/\m<=p.Mutators) (ha:(s.Acks.length:Int)=p.Mutators) (sm:Xm s) (H:HOk p s.H) (hb:x.Buf.length<1000000) (hbt:x.Batch.length<1000000):zax ⟨x,s,m⟩=some (⟨(zn s m x).2,(zn s m x).1,m⟩,()):=by
 have hmt:=h.mt;have hpc:=X.pc;rw [zmX];simp only [zp];unfold zn;by_cases c0:x.PC=0
 .rw [zb c0,zb c0,zz3 h S.P hm ha X];rfl
 rw [zc c0,zc c0];by_cases c1:x.PC=1
 .rw [zb c1,zb c1,zk8];simp only [zp];unfold mu1;by_cases e:x.Buf.length=0
  .rw [zb e,zb (by rw [yb];omega)];rfl
  .have ei:=zKv (show x.Buf.length-1<x.Buf.length by omega);have en:((x.Buf.length:Int)-1).toNat=x.Buf.length-1:=by omega
   have ec:cut x.Buf 0 ((x.Buf.length:Int)-1)=some (x.Buf.take (x.Buf.length-1)):=by
    unfold cut;rw [zr (show (0:Int)<=0 by decide),zr (show (0:Int)<=(x.Buf.length:Int)-1 by omega),zr (show (x.Buf.length:Int)-1<=(x.Buf.length:Int) by omega),en];simp
   rw [zc e,yb (a:=(x.Buf.length:Int)-1) (by omega) (by omega),zk,v8,en,ei,zKt,zqq,zKt,ec,zKw,ei];rfl
 rw [zc c1,zc c1];by_cases c2:x.PC=2
 .rw [zb c2,zb c2,znr];have hs:=sm.acks;simp only [WH (show s.Acks.length<4294967296 by omega),zKt];rw [yb (a:=m-1) (by omega) (by omega),vS (l:=s.Acks) (by omega) (by omega)];rfl
 rw [zc c2,zc c2];have hbl:=sm.bal;have hon:=sm.objs;have hregs:=X.regs;have hrs:=zo5 h m;have hHs:=H.slots;have hHn:=H.n;have hpn:=h.n;have hpm:=h.most;have hps:=h.slots;have op:=fun (hi:x.IP<((vJ p m).length:Int))=>zkJ h S.P hm (x:=x) ⟨X.ip.1,hi⟩;by_cases c3:x.PC=3
 .rw [zb c3,zb c3,zkM,zpy h S (X.g (.inl c3)).1];rfl
 rw [zc c3,zc c3];by_cases c10:x.PC=10
 .have hi:=X.op (.inl (by omega));obtain ⟨e1,e2⟩:=op hi;have o:=zps h hm e2;rw [zb c10,zb c10,zlY,e1,zKt,zr3 h S.P hm ⟨X.ip.1,hi⟩ hregs hon,zKt,ziu (x:=x) (r:=(opM p m x).R) (by omega) (by omega)];unfold zeU;rw [S.P];rfl
 rw [zc c10,zc c10];by_cases c20:x.PC=20
 .have hi:=X.op (.inl (by omega));obtain ⟨e1,e2⟩:=op hi;have o:=zps h hm e2;rw [zb c20,zb c20,zm5,e1,zKt];unfold UP;dsimp only;rw [zpL (x:=x) (r:=(opM p m x).A) (by omega),zKt,zp,S.P];by_cases e:vX x (opM p m x).A=0
  .rw [zb e,zb e,YC,xV];rfl
  .rw [zc e,zc e,zr3 h S.P hm ⟨X.ip.1,hi⟩ hregs hon];rfl
 rw [zc c20,zc c20];by_cases c21:x.PC=21
 .rw [zb c21,zb c21,zle];unfold VR;dsimp only;rw [zp];by_cases e:x.Old=0
  .rw [zb e,zb (.inl e)];rfl
  .rw [zc e,zDN,zKt,yq];by_cases e2:yB s.T x.Old=0
   .rw [zb e2,zc (fun h=>h.elim e (fun h=>h e2))];rfl
   .rw [zc e2,zb (.inr e2)];rfl
 rw [zc c21,zc c21];by_cases c22:x.PC=22
 .rw [zb c22,zb c22,zg7];unfold zbx;dsimp only;rw [zp];by_cases e:s.P.Buf<=(x.Buf.length:Int)
  .rw [zb e,zb e];rfl
  .rw [zc e,zc e,WH (by omega),zKt,yQ (by simp;omega)];rfl
 rw [zc c22,zc c22];by_cases c23:x.PC=23
 .have hi:=X.op (.inl (by omega));obtain ⟨e1,e2⟩:=op hi;have o:=zps h hm e2;obtain ⟨b,ep⟩:=zGn hon sm.obj (vX x (opM p m x).A) (opM p m x).S (vX x (opM p m x).R);rw [zb c23,zb c23,zkK,e1,zKt];dsimp only;rw [zpL (x:=x) (r:=(opM p m x).A) (by omega),zKt,zpL (x:=x) (r:=(opM p m x).R) (by omega),zKt,ep,zKt,YC,xV];unfold zdN;rw [S.P];rfl
 rw [zc c23,zc c23];by_cases c30:x.PC=30
 .have hi:=X.op (.inl (by omega));obtain ⟨e1,e2⟩:=op hi;have o:=zps h hm e2;have hne:s.H.Objs≠[]:=fun e=>by
   have e2:s.H.Objs.length=0:=by rw [e];rfl
   omega
  rw [zb c30,zb c30,zkS];unfold Y6;dsimp only;rw [zBF hbl,zKt];cases hmay:zeN s.L m s.P.Price s.P.Limit with
  | false=>rfl
  | true =>
   rw [zb rfl,zb rfl];dsimp only;rw [zKI,zM,zwZ (show 1<=s.H.Slots/\s.H.Slots<=4 by rw [hHs];omega) (show s.H.Objs.length<=64 by omega) H.objs hne,zKt];cases hr:Yp s.H s.P.Most with
   | false =>
    rw [zc (by simp),zc (by simp)];dsimp only;rw [yq,zc (by decide),YC,xV];rfl
   | true =>
    rw [zb rfl,zb rfl];dsimp only;obtain ⟨b,ef⟩:=zEY s.T ((s.H.Objs.length:Int)+1);rw [yq,zb rfl,ef,zKt];have e3:=(zkJ h (s:={s with H:=yU s.H,T:=XF s.T ((s.H.Objs.length:Int)+1),L:=zcv s.L m s.P.Price}) S.P hm (x:=x) ⟨X.ip.1,hi⟩).1;rw [e3,zKt,ziu (x:=x) (r:=(opM p m x).R) (by omega) (by omega),xq];rw [S.P];rfl
 rw [zc c30,zc c30];by_cases c31:x.PC=31
 .rw [zb c31,zb c31,zlx];unfold zaK;dsimp only;rw [zCf hbl,zKt,zCR hbl,zKt,zp];by_cases e:(zce s.L m (zsG s.L m s.P.Price s.P.Limit)).2=0
  .rw [zb e,zb e,zdq,zKt,zrT];rfl
  .rw [zc e,zc e];rfl
 rw [zc c31,zc c31];by_cases c32:x.PC=32
 .rw [zb c32,zb c32,zm1];unfold zaE;dsimp only;rw [zgK (by have:=S.mem;omega),zKt,zp,zp];by_cases e:(zC s.M x.C).2.Out=1
  .rw [zb e,zb e];rfl
  .rw [zc e,zc e];by_cases e2:(zC s.M x.C).2.Out=2
   .rw [zb e2,zb e2];rfl
   .rw [zc e2,zc e2];rfl
 rw [zc c32,zc c32];by_cases c33:x.PC=33
 .have B:=X.b33 c33;have hbn:=S.bins;have hnb:=S.nbk;have e:=zKv (show x.Bin.toNat<s.Bins.length by omega);rw [zb c33,zb c33,zll];unfold zeW;dsimp only;rw [v8,e,zKt,zlk (by omega),zKt,vS (l:=s.Bins) (by omega) (by omega),zKt,zer,zKt,zrT];have eb:Uo s x.Bin=s.Bins[x.Bin.toNat]'(by omega):=by unfold Uo;rw [zKw,e];rfl
  rw [eb];rfl
 rw [zc c33,zc c33];by_cases c34:x.PC=34
 .rw [zb c34,zb c34,zlL];unfold zaj;dsimp only;rw [zgK (by have:=S.mem;omega),zKt,zp];by_cases e:(zC s.M x.C).2.Out=1
  .rw [zb e,zb e];rfl
  .rw [zc e,zc e];rfl
 rw [zc c34,zc c34];by_cases c35:x.PC=35
 .rw [zb c35,zb c35,zlm];unfold zaG;dsimp only;rw [zp];cases hbb:x.Batch with
  | nil=>rw [zc (by simp)];rfl
  | cons o l =>
   have:idx (o::l) 0=some o:=by rw [v8];rfl
   rw [zb (by simp),this,zKt,zuH];rfl
 rw [zc c35,zc c35];by_cases c36:x.PC=36
 .rw [zb c36,zb c36,zlI];unfold zbZ;dsimp only;rw [zvc hon,zKt,zxg,zKt,yq,xV];by_cases e:zZ s.H x.Obj x.Slot=0
  .rw [zb e,zb e];rfl
  .rw [zc e,zc e,zqq];rfl
 rw [zc c36,zc c36];by_cases c37:x.PC=37
 .rw [zb c37,zb c37,znj,zxg,zKt,zpy h S (X.g (.inr c37)).1];rfl
 rw [zc c37,zc c37];by_cases c38:x.PC=38
 .rw [zb c38,zb c38,zjb];unfold zeR;dsimp only;rw [zjd,zKt,zub hbl];rfl
 rw [zc c38,zc c38];have c39:x.PC=39:=by omega
 rw [zb c39,zb c39,zi3,xV];rfl
theorem zB0 {p:zd}{nb:Nat}{s:za}(h:zJ p) (E:EOk p nb s) (m:Int):zhw s m=some (zG s m,()):=by
 rw [ztG];simp only [zp];unfold zG;cases hd:s.Done with
 | true=>rw [zu,zb (.inl rfl)]
 | false =>
  rw [zM];by_cases h1:m<1
  .rw [zb h1,zb (.inr (.inl h1))]
  rw [zc h1];by_cases h2:(s.Ms.length:Int)<m
  .rw [zb h2,zb (.inr (.inr h2))]
  have hml:=E.ml;have hal:=E.al;have hmt:=h.mt;have e:=zKv (show (m-1).toNat<s.Ms.length by omega);have ei:(((m-1).toNat:Nat):Int)+1=m:=by omega
  have hX:=E.X _ _ e;rw [ei] at hX;have hb:=(E.small.mu _ (zKy e)).2;have T:=zB5 s m (s.Ms[(m-1).toNat]'(by omega));rw [zc h2,zc (fun e=>e.elim (fun h=>by cases h) (fun e=>e.elim h1 h2)),yb (a:=m-1) (by omega) (by omega),v8,e,zKt,zCK h E.S hX (by omega) (by omega) E.small E.H hb.1 hb.2,zKt];simp only [T.ms,zH8 (show s.Ms.length<4294967296 by omega),zKt,vS (l:=s.Ms) (show 0<=m-1 by omega) (show m-1<(s.Ms.length:Int) by omega)]
theorem zCW {p:zd}{nb:Nat}{s:za}(h:zJ p) (E:EOk p nb s):zjB s=some (zV s,()):=by
 rw [zuy,xV];simp only [zp,yq];have ag:∀s:za,U8 s=some ({s with Restarts:=wc (s.Restarts+1),D:={s.D with PC:=0}},()):=fun s=>by rw [zqc,xV]
 unfold zV;by_cases hd:s.Done=true
 .rw [cond_eq_ite,zb hd,zb hd]
 .rw [cond_eq_ite,zc hd,zc hd];by_cases c0:s.D.PC=0
  .rw [zb c0,zb c0]
  rw [zc c0,zc c0];by_cases c1:s.D.PC=1
  .rw [zb c1,zb c1];by_cases w:s.Work=0
   .rw [zb w,zb w]
   .rw [zc w,zc w]
  rw [zc c1,zc c1];by_cases c2:s.D.PC=2
  .rw [zb c2,zb c2];by_cases w:s.Ms.length=0
   .rw [zb (show (s.Ms.length:Int)=0 by omega),zb w]
   .rw [zc (show ¬(s.Ms.length:Int)=0 by omega),zc w]
  rw [zc c2,zc c2];by_cases c3:s.D.PC=3
  .have hi:=E.D.2 c3;have ha:=E.al;have e:=zKv (show s.D.I.toNat<s.Acks.length by omega);have ed:s.Acks.getD s.D.I.toNat 0=s.Acks[s.D.I.toNat]'(by omega):=by rw [zKw,e];rfl
   rw [zb c3,zb c3,v8 hi.1,e,zKt,ed];by_cases w:(s.Acks[s.D.I.toNat]'(by omega))<s.Epoch
   .rw [zb w,zb w]
   .rw [zc w,zc w];by_cases v:wc (s.D.I+1)=(s.Ms.length:Int)
    .rw [zb v,zb v]
    .rw [zc v,zc v,c3]
  rw [zc c3,zc c3];by_cases c4:s.D.PC=4
  .rw [zb c4,zb c4];by_cases w:s.Work=0
   .rw [zb w,zb w]
   .rw [zc w,zc w,ag];rfl
  rw [zc c4,zc c4];by_cases c5:s.D.PC=5
  .rw [zb c5,zb c5];by_cases hf:s.Flag=true
   .rw [cond_eq_ite,zb hf,zb hf,ag];rfl
   .rw [cond_eq_ite,zc hf,zc hf]
  rw [zc c5,zc c5];by_cases c6:s.D.PC=6
  .rw [zb c6,zb c6]
  .rw [zc c6,zc c6]
theorem zHc {m:List zi}(h:m.length<4294967296):vW m=some (m,()):=by
 rw [UR,zKG,yQ h,zKt];cases m with
 | nil=>simp [zfm]
 | cons a l=>simp
theorem zGZ {n v:Int}(h:1<=v/\v<=n) (hn:n<1000000):w64 (v.tmod n+1)=zkI n v:=by
 unfold zkI;rw [Int.tmod_eq_emod_of_nonneg (by omega)];by_cases hv:v<n
 .rw [zb hv,Int.emod_eq_of_lt (by omega) hv,yb]
 .have:v=n:=by omega
  rw [zc hv,this,Int.emod_self,yb];rfl
theorem zCz {p:zd}(h:zJ p) {s:za}(hP:s.P=p) (hl:(s.Ws.length:Int)=p.Workers) {x:zi}(hv:1<=x.Victim/\x.Victim<=p.Workers) (w:Int) :
  WN ⟨x,s,w⟩=some (⟨Zk p w x,s,w⟩,()):=by
 have hw:=h.wk;rw [zns];simp only [zp,hl];rw [zc (show ¬p.Workers=0 by omega),zGZ hv (by omega)];unfold Zk;by_cases e:zkI p.Workers x.Victim=w
 .rw [zb e,zb e,zdq,zKt,zfT];simp only [zbb,zKt,Vm,e,hP];rfl
 .rw [zc e,zc e,ziM];simp only [zbU,zKt,zbf,hP]
theorem zsA {p:zd}{s:za}(hP:s.P=p) (x:zi) (w:Int):uS ⟨x,s,w⟩=some (⟨zaq p w x,s,w⟩,()):=by
 rw [zmJ,ziM];simp only [zbU,zKt,zbf,hP];rfl
theorem zzs (s:za) (x:zi) (w:Int):Ub ⟨x,s,w⟩=some (onW s x.Slot,()):=by
 rw [zsk,zp];unfold onW;split<;>rfl
theorem zuf {s:za}(hm:s.M.length<4294967296) (x:zi) (w:Int):Zp ⟨x,s,w⟩=some ((zC s.M x.C).2.Out,⟨{x with C:=(zC s.M x.C).2},{s with M:=(zC s.M x.C).1},w⟩,()):=by
 rw [znb];simp only [zgK hm,zKt]
theorem zvZ {p:zd}(h:zJ p) {s:za}(hP:s.P=p) (hm:s.M.length<4294967296) (hl:(s.Ws.length:Int)=p.Workers) {x:zi}(hv:1<=x.Victim/\x.Victim<=p.Workers) (hc:x.D.Cap<1000) {w:Int}(h01:x.PC=0\/x.PC=1) :
  VF ⟨x,s,w⟩=some (⟨(zB s w x).2,(zB s w x).1,w⟩,()):=by
 unfold zB;rw [zb h01,zo1];simp only [zEB hm hc,zKt,zp];by_cases o1:(yj s.M x.D).2.Out=1
 .rw [zb o1,zb o1,zdv];rfl
 .rw [zc o1,zc o1];have hk:=fun (x':zi) (e:x'.Victim=x.Victim)=>zCz h (s:={s with M:=(yj s.M x.D).1}) hP hl (x:=x') (by rw [e];exact hv) w;by_cases o4:(yj s.M x.D).2.Out=4
  .rw [zb o4,zb (.inr o4),hk {x with D:=(yj s.M x.D).2} rfl,zKt,hP]
  .rw [zc o4];by_cases o2:(yj s.M x.D).2.Out=2
   .rw [zb o2,zb (.inl o2),hk {x with D:=(yj s.M x.D).2} rfl,zKt,hP]
   .rw [zc o2,zk]
theorem zEI {p:zd}{nb:Nat}(h:zJ p) {s:za}{x:zi}{w:Int}(S:SOk p nb s) (W:WOk p nb w x) (hl:(s.Ws.length:Int)=p.Workers) (sm:Xm s) :
  zbr ⟨x,s,w⟩=some (⟨(zB s w x).2,(zB s w x).1,w⟩,()):=by
 have hP:=S.P;have hm:s.M.length<4294967296:=by have:=S.mem;omega
 have hc:=h.cap;rw [znm];simp only [zp];by_cases c0:x.PC=0
 .rw [zb c0,zb c0,zvZ h hP hm hl W.vic (by have:=(W.d0 c0).2.2;omega) (.inl c0),zKt]
 rw [zc c0];by_cases c1:x.PC=1
 .rw [zb c1,zvZ h hP hm hl W.vic (by have:=(W.d1 c1).2.2;omega) (.inr c1),zKt]
 rw [zc c1];unfold zB;rw [zc (show ¬(x.PC=0\/x.PC=1) by omega)];by_cases c2:x.PC=2
 .rw [zb c2,zb c2,zuf hm,zKt];simp only [zsA (s:={s with M:=(zC s.M x.C).1}) hP];by_cases o1:(zC s.M x.C).2.Out=1
  .rw [zb o1,zb o1]
  .rw [zc o1,zc o1];by_cases o2:(zC s.M x.C).2.Out=2
   .rw [zb o2,zb o2,zKt,hP]
   .rw [zc o2,zc o2]
 rw [zc c2,zc c2];by_cases c3:x.PC=3
 .have B:=W.b3 c3;have hb:=S.bins;have hnb:=S.nbk;have e:=zKv (show x.Bin.toNat<s.Bins.length by omega);rw [zb c3,zb c3,znh];dsimp only;rw [v8,e,zKt,zlk (by omega),zKt,vS (l:=s.Bins) (by omega) (by omega),zKt,zer,zKt,zfT];simp only [zbb,zKt,Vm];unfold Uo;rw [zKw,e];rfl
 rw [zc c3,zc c3];by_cases c4:x.PC=4
 .rw [zb c4,zb c4,zuf hm,zKt];dsimp only;by_cases o1:(zC s.M x.C).2.Out=1
  .rw [zb o1,zb o1]
  .rw [zc o1,zc o1]
 rw [zc c4,zc c4];by_cases c5:x.PC=5
 .rw [zb c5,zb c5,znn];simp only [zvc sm.objs,zKt,zp,zzs,zqq,xV];by_cases v:zZ s.H x.Obj x.Slot=0
  .rw [zb v,zb v];rfl
  .rw [zc v,zc v];rfl
 rw [zc c5,zc c5];by_cases c6:x.PC=6
 .obtain ⟨g1,g2,g3,g4⟩:=W.g6 c6;rw [zb c6,zb c6];simp only [zyU (S.gok h g1),zKt,zzs];have eH:(zF s x.G).1.H=s.H:=(zfg s x.G).2;by_cases o1:(zF s x.G).2.Out=1
  .rw [zb o1,zb o1];unfold onW;rw [eH]
  .rw [zc o1,zc o1]
 rw [zc c6,zc c6];by_cases c7:x.PC=7
 .rw [zb c7,zb c7];cases hb:x.Batch with
  | nil=>rw [zb (by simp),zsA hP,zKt,hP]
  | cons o l =>
   rw [zc (by simp;omega),v8];simp only [Int.toNat_zero,zLy,zKt,zdv,hb];rw [zuH];rfl
 rw [zc c7,zc c7];by_cases c8:x.PC=8
 .rw [zb c8,zb c8];simp only [zjd,zKt,zub sm.bal]
 rw [zc c8,zc c8];by_cases c9:x.PC=9
 .rw [zb c9,zb c9,xV]
 .rw [zc c9,zc c9]
theorem zCQ {p:zd}{nb:Nat}{s:za}(h:zJ p) (E:EOk p nb s) (w:Int):zjK s w=some (zP s w,()):=by
 rw [zun];simp only [zp];unfold zP;cases hd:s.Done with
 | true=>rw [zu,zb (.inl rfl)]
 | false =>
  rw [zM];by_cases h1:w<1
  .rw [zb h1,zb (.inr (.inl h1))]
  rw [zc h1];by_cases h2:(s.Ws.length:Int)<w
  .rw [zb h2,zb (.inr (.inr h2))]
  have hwl:=E.wl;have hwk:=h.wk;have e:=zKv (show (w-1).toNat<s.Ws.length by omega);have ei:(((w-1).toNat:Nat):Int)+1=w:=by omega
  have hW:=E.W _ _ e;rw [ei] at hW;obtain ⟨T,TH⟩:=zzv s w (s.Ws[(w-1).toNat]'(by omega));rw [zc h2,zc (fun e=>e.elim (fun h=>by cases h) (fun e=>e.elim h1 h2)),yb (a:=w-1) (by omega) (by omega),v8,e,zKt,zEI h E.S hW hwl E.small,zKt];simp only [T.ws,zHc (show s.Ws.length<4294967296 by omega),zKt,vS (l:=s.Ws) (show 0<=w-1 by omega) (show w-1<(s.Ws.length:Int) by omega)]
theorem Zq (s:za) (g:zI):(zF s g).1={s with M:=(zF s g).1.M,Bins:=(zF s g).1.Bins,T:=(zF s g).1.T,Work:=(zF s g).1.Work,Flag:=(zF s g).1.Flag}:=by
 obtain ⟨m,b,t,wk,f,e,_⟩:=za7 s g;rw [e]
theorem zfI {p:zd}{nb:Nat}{s:za}{w:Int}{x:zi}(W:WOk p nb w x):(zB s w x).1={s with M:=(zB s w x).1.M,Bins:=(zB s w x).1.Bins,T:=(zB s w x).1.T,Work:=(zB s w x).1.Work,L:=(zB s w x).1.L}:=by
 unfold zB;split
 .rfl
 split
 .rfl
 split
 .rfl
 split
 .rfl
 split
 .rfl
 split
 .rename_i h6;obtain ⟨g1,g2,g3,g4⟩:=W.g6 h6;have hf:=(zDx s g3 g4).2;obtain ⟨m,b,t,wk,f,e,_⟩:=za7 s x.G;dsimp only;rw [e] at hf ⊢;have hf:f=s.Flag:=hf;rw [hf]
 split
 .rfl
 split
 .rfl
 split<;>rfl
theorem zcC (s:za) (m:Int) (x:ze):(zn s m x).1={s with H:=(zn s m x).1.H,M:=(zn s m x).1.M,Bins:=(zn s m x).1.Bins,T:=(zn s m x).1.T,Work:=(zn s m x).1.Work,Flag:=(zn s m x).1.Flag,Acks:=(zn s m x).1.Acks,L:=(zn s m x).1.L}:=by
 have g:∀g:zI,(zF s g).1={s with H:=(zF s g).1.H,M:=(zF s g).1.M,Bins:=(zF s g).1.Bins,T:=(zF s g).1.T,Work:=(zF s g).1.Work,Flag:=(zF s g).1.Flag,Acks:=(zF s g).1.Acks,L:=(zF s g).1.L}:=fun g=>by
  obtain ⟨m,b,t,wk,f,e,_⟩:=za7 s g;rw [e]
 refine yN (motive:=fun r=>r.1={s with H:=r.1.H,M:=r.1.M,Bins:=r.1.Bins,T:=r.1.T,Work:=r.1.Work,Flag:=r.1.Flag,Acks:=r.1.Acks,L:=r.1.L}) s m x ?_ ?_ ?_ ?_ ?_ ?_ ?_ ?_ ?_ ?_ ?_ ?_ ?_ ?_ ?_ ?_ ?_ ?_ ?_ ?_
 .exact fun _=>rfl
 .exact fun _=>rfl
 .exact fun _=>rfl
 .exact fun _=>g x.G
 .exact fun _=>rfl
 .exact fun _=>rfl
 .exact fun _=>rfl
 .exact fun _=>rfl
 .exact fun _=>rfl
 .intro _;unfold Y6;split
  .split<;>rfl
  .rfl
 .exact fun _=>rfl
 .exact fun _=>rfl
 .exact fun _=>rfl
 .exact fun _=>rfl
 .exact fun _=>rfl
 .exact fun _=>rfl
 .exact fun _=>g x.G
 .exact fun _=>rfl
 .exact fun _=>rfl
 .rfl
theorem zCk (s:za) (m:Int) {x:ze}(h:x.PC≠2):(zn s m x).1.Acks=s.Acks:=by
 have g:∀g:zI,(zF s g).1.Acks=s.Acks:=fun g=>by
  obtain ⟨m,b,t,wk,f,e,_⟩:=za7 s g;rw [e]
 refine yN (motive:=fun r=>r.1.Acks=s.Acks) s m x ?_ ?_ ?_ ?_ ?_ ?_ ?_ ?_ ?_ ?_ ?_ ?_ ?_ ?_ ?_ ?_ ?_ ?_ ?_ ?_
 .exact fun _=>rfl
 .exact fun _=>rfl
 .exact fun c=>zj c h
 .exact fun _=>g x.G
 .exact fun _=>rfl
 .exact fun _=>rfl
 .exact fun _=>rfl
 .exact fun _=>rfl
 .exact fun _=>rfl
 .intro _;unfold Y6;split
  .split<;>rfl
  .rfl
 .exact fun _=>rfl
 .exact fun _=>rfl
 .exact fun _=>rfl
 .exact fun _=>rfl
 .exact fun _=>rfl
 .exact fun _=>rfl
 .exact fun _=>g x.G
 .exact fun _=>rfl
 .exact fun _=>rfl
 .rfl
def vG (s:za) (k:Int):za:=if k=0 then zV s else if k<=(s.Ws.length:Int) then zP s k else zG s (k-s.Ws.length)
theorem Xa {p:zd}{nb:Nat}{s:za}(E:EOk p nb s) (w:Int):zP s w={s with M:=(zP s w).M,Bins:=(zP s w).Bins,T:=(zP s w).T,Work:=(zP s w).Work,L:=(zP s w).L,Ws:=(zP s w).Ws}:=by
 unfold zP;split
 .rfl
 rename_i hc;cases hx:s.Ws[(w-1).toNat]? with
 | none=>rfl
 | some x =>
  have hW:=E.W _ _ hx;rw [show (((w-1).toNat:Nat):Int)+1=w by omega] at hW;dsimp only;rw [zfI hW]
theorem zkp (s:za) (m:Int):zG s m={s with H:=(zG s m).H,M:=(zG s m).M,Bins:=(zG s m).Bins,T:=(zG s m).T,Work:=(zG s m).Work,Flag:=(zG s m).Flag,Acks:=(zG s m).Acks,L:=(zG s m).L,Ms:=(zG s m).Ms}:=by
 unfold zG;split
 .rfl
 cases hx:s.Ms[(m-1).toNat]? with
 | none=>rfl
 | some x =>
  dsimp only;rw [zcC]
structure AI (k:Int) (s:za):Prop where
 ep:0<=s.Epoch/\s.Epoch<=k
 m:∀(i:Nat) x,s.Ms[i]? =some x->s.Acks.getD i 0<=s.Epoch/\(x.PC=2\/((x.PC=1\/x.PC=3)/\x.Ret=2)->s.Acks.getD i 0<=x.Want/\x.Want<=s.Epoch)/\(x.PC=2->x.Buf=[])
def zEW (s s':za):Prop:=∀(i:Nat) x',s'.Ms[i]? =some x'->s.Acks.getD i 0<=s'.Acks.getD i 0/\s'.Acks.getD i 0<=s'.Epoch/\(s.Acks.getD i 0<s'.Acks.getD i 0->x'.Buf=[])
theorem AI.same {k:Int}{s s':za}(A:AI k s) (e1:s'.Epoch=s.Epoch) (e2:s'.Ms=s.Ms) (e3:s'.Acks=s.Acks):AI (k+1) s'/\zEW s s':=by
 refine ⟨⟨by rw [e1];have:=A.ep;omega,by rw [e1,e2,e3];exact A.m⟩,fun i x hx=>?_⟩;rw [e2] at hx;rw [e3,e1];exact ⟨zKW _,(A.m i x hx).1,fun e=>by omega⟩
theorem zmy {α:Type}{l:List α}{i j:Nat}{v d:α}(h:i<l.length):(l.set i v).getD j d=if i=j then v else l.getD j d:=by
 rw [zKw,zKw,zLg];by_cases e:i=j
 .rw [zb e,zb e,zb h];rfl
 .rw [zc e,zc e]
theorem zFA {p:zd}{nb:Nat}{k:Int}{s:za}(hp:zJ p) (E:EOk p nb s) (A:AI k s) {m:Int}(hm:1<=m/\m<=(s.Ms.length:Int)) {x:ze}(hx:s.Ms[(m-1).toNat]? =some x) :
  let y:=(zn s m x).2;let s':=(zn s m x).1
  (s.Acks.getD (m-1).toNat 0<=s'.Acks.getD (m-1).toNat 0/\s'.Acks.getD (m-1).toNat 0<=s.Epoch/\(s.Acks.getD (m-1).toNat 0<s'.Acks.getD (m-1).toNat 0->y.Buf=[]))/\(∀j,j≠(m-1).toNat->s'.Acks.getD j 0=s.Acks.getD j 0) /\
   (y.PC=2\/((y.PC=1\/y.PC=3)/\y.Ret=2)->s'.Acks.getD (m-1).toNat 0<=y.Want/\y.Want<=s.Epoch)/\(y.PC=2->y.Buf=[]):=by
 obtain ⟨a1,a2,a3⟩:=A.m _ _ hx;have X:=E.X _ _ hx;rw [show (((m-1).toNat:Nat):Int)+1=m by omega] at X;have hal:=E.al;have same:∀ {s':za}{y:ze},s'.Acks=s.Acks->(y.PC=2\/((y.PC=1\/y.PC=3)/\y.Ret=2)->s.Acks.getD (m-1).toNat 0<=y.Want/\y.Want<=s.Epoch)->(y.PC=2->y.Buf=[]) ->
   (s.Acks.getD (m-1).toNat 0<=s'.Acks.getD (m-1).toNat 0/\s'.Acks.getD (m-1).toNat 0<=s.Epoch/\(s.Acks.getD (m-1).toNat 0<s'.Acks.getD (m-1).toNat 0->y.Buf=[]))/\(∀j,j≠(m-1).toNat->s'.Acks.getD j 0=s.Acks.getD j 0) /\
   (y.PC=2\/((y.PC=1\/y.PC=3)/\y.Ret=2)->s'.Acks.getD (m-1).toNat 0<=y.Want/\y.Want<=s.Epoch)/\(y.PC=2->y.Buf=[]):=fun e h1 h2=>by
  rw [e];exact ⟨⟨zKW _,a1,fun e=>by omega⟩,fun _ _=>rfl,h1,h2⟩
 have far:∀ {s':za}{y:ze},s'.Acks=s.Acks->(y.PC=0\/10<=y.PC)->_:=fun {s' y} e h=>same (s':=s') (y:=y) e (fun e=>by omega) (fun e=>by omega);have gacks:∀g:zI,(zF s g).1.Acks=s.Acks:=fun g=>by
  obtain ⟨m,b,t,wk,f,e,_⟩:=za7 s g;rw [e]
 refine yN (motive:=fun r=>(s.Acks.getD (m-1).toNat 0<=r.1.Acks.getD (m-1).toNat 0/\r.1.Acks.getD (m-1).toNat 0<=s.Epoch/\(s.Acks.getD (m-1).toNat 0<r.1.Acks.getD (m-1).toNat 0->r.2.Buf=[]))/\(∀j,j≠(m-1).toNat->r.1.Acks.getD j 0=s.Acks.getD j 0) /\
   (r.2.PC=2\/((r.2.PC=1\/r.2.PC=3)/\r.2.Ret=2)->r.1.Acks.getD (m-1).toNat 0<=r.2.Want/\r.2.Want<=s.Epoch)/\(r.2.PC=2->r.2.Buf=[])) s m x ?_ ?_ ?_ ?_ ?_ ?_ ?_ ?_ ?_ ?_ ?_ ?_ ?_ ?_ ?_ ?_ ?_ ?_ ?_ ?_
 .intro c;unfold mu0 YH;split
  .rename_i hlt;exact same rfl (fun _=>⟨Int.le_of_lt hlt,zKW _⟩) (fun e=>by cases e)
  split
  .exact far rfl (.inl c)
  split
  .exact far rfl (.inr (by show (10:Int)<=10;decide))
  split
  .exact far rfl (.inr (by show (10:Int)<=20;decide))
  split
  .exact far rfl (.inr (by show (10:Int)<=30;decide))
  split<;>exact far rfl (.inl rfl)
 .intro c;unfold mu1;split
  .rename_i hb;have hb:x.Buf=[]:=zLi hb;refine same rfl (fun e=>?_) (fun _=>hb);have e:x.Ret=2\/((x.Ret=1\/x.Ret=3)/\x.Ret=2):=e;exact a2 (.inr ⟨.inl c,by omega⟩)
  .refine same rfl (fun e=>a2 (.inr ⟨.inl c,?_⟩)) (fun e=>by cases e);rcases e with e | e
   .cases e
   .exact e.2
 .intro c;have hlt:(m-1).toNat<s.Acks.length:=by omega
  obtain ⟨b1,b2⟩:=a2 (.inl c);unfold mu2;have e0:(s.Acks.set (m-1).toNat x.Want).getD (m-1).toNat 0=x.Want:=by rw [zmy hlt,zb rfl]
  refine ⟨⟨by dsimp only;rw [e0];exact b1,by dsimp only;rw [e0];exact b2,fun _=>a3 c⟩,fun j hj=>?_,fun (e:(0:Int)=2\/(((0:Int)=1\/(0:Int)=3)/\x.Ret=2))=>by omega,fun (e:(0:Int)=2)=>by omega⟩;dsimp only;rw [zmy hlt,zc (fun e=>hj e.symm)]
 .intro c;unfold mu3;dsimp only;split
  .refine same (gacks _) (fun e=>a2 (.inr ⟨.inr c,?_⟩)) (fun e=>by cases e);rcases e with e | e
   .cases e
   .exact e.2
  .refine same (gacks _) (fun e=>a2 ?_) (fun e=>by have e:x.PC=2:=e;omega);rcases e with e | e
   .exact .inl e
   .exact .inr e
 .exact fun c=>far rfl (.inl rfl)
 .intro c;unfold UP;split
  .exact far rfl (.inl rfl)
  .exact far rfl (.inr (by show (10:Int)<=21;decide))
 .intro c;unfold VR;split
  .exact far rfl (.inr (by show (10:Int)<=23;decide))
  .exact far rfl (.inr (by show (10:Int)<=22;decide))
 .intro c;unfold zbx;split
  .refine same rfl (fun e=>?_) (fun e=>by cases e);rcases e with e | ⟨_,e⟩<;>cases e
  .exact far rfl (.inr (by show (10:Int)<=23;decide))
 .exact fun c=>far rfl (.inl rfl)
 .intro c;unfold Y6;split
  .split
   .exact far rfl (.inl rfl)
   .exact far rfl (.inl rfl)
  .exact far rfl (.inr (by show (10:Int)<=31;decide))
 .intro c;unfold zaK;dsimp only;split
  .exact far rfl (.inr (by show (10:Int)<=32;decide))
  .exact far rfl (.inl rfl)
 .intro c;unfold zaE;dsimp only;split
  .exact far rfl (.inr (by show (10:Int)<=33;decide))
  split
  .exact far rfl (.inl rfl)
  .exact far rfl (.inr (by show 10<=x.PC;omega))
 .exact fun c=>far rfl (.inr (by show (10:Int)<=34;decide))
 .intro c;unfold zaj;dsimp only;split
  .exact far rfl (.inr (by show (10:Int)<=35;decide))
  .exact far rfl (.inr (by show 10<=x.PC;omega))
 .intro c;unfold zaG;dsimp only;split
  .exact far rfl (.inl rfl)
  .exact far rfl (.inr (by show (10:Int)<=36;decide))
 .intro c;unfold zbZ;dsimp only;split
  .exact far rfl (.inr (by show 10<=onM s (wc (x.Slot+1));rcases YA s (wc (x.Slot+1)) with e | e<;>rw [e]<;>decide))
  .exact far rfl (.inr (by show (10:Int)<=37;decide))
 .intro c;unfold WP;dsimp only;split
  .exact far (gacks _) (.inr (by show 10<=onM s x.Slot;rcases YA s x.Slot with e | e<;>rw [e]<;>decide))
  .exact far (gacks _) (.inr (by show 10<=x.PC;omega))
 .exact fun c=>far rfl (.inr (by show (10:Int)<=39;decide))
 .exact fun c=>far rfl (.inr (by show (10:Int)<=35;decide))
 .exact same rfl a2 a3
theorem zI1 {p:zd}{nb:Nat}{k:Int}{s:za}(hp:zJ p) (E:EOk p nb s) (hk:k<1000000) (A:AI k s) (j:Int):AI (k+1) (vG s j)/\zEW s (vG s j):=by
 unfold vG;split
 .-- the detector
  have up:∀s':za,s'.Epoch=s.Epoch+1->s'.Ms=s.Ms->s'.Acks=s.Acks->AI (k+1) s'/\zEW s s':=fun s' e1 e2 e3=>by
   have:=A.ep;refine ⟨⟨by omega,fun i x hx=>?_⟩,fun i x hx=>?_⟩
   .rw [e2] at hx;obtain ⟨b1,b2,b3⟩:=A.m i x hx;rw [e3,e1];exact ⟨by omega,fun e=>by have:=b2 e;omega,b3⟩
   .rw [e2] at hx;have:=(A.m i x hx).1;rw [e3,e1];exact ⟨zKW _,by omega,fun e=>by omega⟩
  have he:=A.ep;unfold zV;split
  .exact A.same rfl rfl rfl
  split
  .exact A.same rfl rfl rfl
  split
  .split<;>exact A.same rfl rfl rfl
  split
  .exact up _ (xq) rfl rfl
  split
  .split<;>exact A.same rfl rfl rfl
  split
  .split<;>exact A.same rfl rfl rfl
  split
  .split<;>exact A.same rfl rfl rfl
  split<;>exact A.same rfl rfl rfl
 split
 .rw [Xa E];exact A.same rfl rfl rfl
 .generalize j-(s.Ws.length:Int)=m;unfold zG;split
  .exact A.same rfl rfl rfl
  rename_i hc;cases hx:s.Ms[(m-1).toNat]? with
  | none=>exact A.same rfl rfl rfl
  | some x =>
   have hm:1<=m/\m<=(s.Ms.length:Int):=by
    constructor
    .exact Int.not_lt.1 (fun e=>hc (.inr (.inl e)))
    .exact Int.not_lt.1 (fun e=>hc (.inr (.inr e)))
   obtain ⟨b1,b2,b3,b4⟩:=zFA hp E A hm hx;have hE:(zn s m x).1.Epoch=s.Epoch:=by rw [zcC]
   have he:=A.ep;have hl:=(zKC.1 hx).1;refine ⟨⟨by show 0<=(zn s m x).1.Epoch/\_;rw [hE];omega,fun i y hy=>?_⟩,fun i y hy=>?_⟩
   .show (zn s m x).1.Acks.getD i 0<=(zn s m x).1.Epoch/\(_->(zn s m x).1.Acks.getD i 0<=y.Want/\y.Want<=(zn s m x).1.Epoch)/\_;rw [hE];have hy:(s.Ms.set (m-1).toNat (zn s m x).2)[i]? =some y:=hy;by_cases hi:i=(m-1).toNat
    .subst hi;rw [zLb hl] at hy;injection hy with hy;subst hy;exact ⟨b1.2.1,b3,b4⟩
    .rw [zKP (fun e=>hi e.symm)] at hy;rw [b2 i hi];exact A.m i y hy
   .show s.Acks.getD i 0<=(zn s m x).1.Acks.getD i 0/\(zn s m x).1.Acks.getD i 0<=(zn s m x).1.Epoch/\_;rw [hE];have hy:(s.Ms.set (m-1).toNat (zn s m x).2)[i]? =some y:=hy;by_cases hi:i=(m-1).toNat
    .subst hi;rw [zLb hl] at hy;injection hy with hy;subst hy;exact b1
    .rw [zKP (fun e=>hi e.symm)] at hy;show _/\_/\(s.Acks.getD i 0<(zn s m x).1.Acks.getD i 0->_);rw [b2 i hi];exact ⟨zKW _,(A.m i y hy).1,fun e=>by omega⟩
theorem zJj (p:zd):AI 0 (xk p):=by
 refine ⟨⟨zKW _,zKW _⟩,fun i x hx=>?_⟩;have e:(xk p).Acks.getD i 0=0:=by
  show (zMr p.Mutators.toNat (0:Int)).getD i 0=0;rw [zKw,zLP];split<;>rfl
 have hx:(p.Regs.map wp)[i]? =some x:=hx;rw [zK1] at hx;cases hr:p.Regs[i]? with
 | none=>rw [hr] at hx;cases hx
 | some r =>
  rw [hr] at hx;injection hx with hx;subst hx;rw [e];refine ⟨zKW _,fun e=>?_,fun e=>?_⟩
  .simp [wp] at e
  .simp [wp] at e
def goF {S:Type}(g:Nat->S->S):Nat->Nat->S->S
 | _,0,s=>s
 | i,k+1,s=>goF g (i+1) k (g i s)
theorem zJd {S σ B C:Type}{f:σ->Option (yL σ B C)}(A:Int->S->σ) (b:S->B) (n:Nat) (hn:n<1000000) (g:Nat->S->S) (Inv:S->Prop) (hg:∀i s,Inv s->Inv (g i s))
  (h1:∀(i:Nat) s,i<n->Inv s->f (A (i:Int) s)=some (.again (A ((i+1:Nat):Int) (g i s)))) (h2:∀s,Inv s->f (A (n:Int) s)=some (.brk (b s))) {s:S}(hs:Inv s) :
  yf f (A 0 s)=some (.brk (b (goF g 0 n s))):=by
 have key:∀(k i:Nat) (s:S),n-i=k->i<=n->Inv s->∀m,k<m->yZ f m (A (i:Int) s)=some (.brk (b (goF g i k s))):=by
  intro k
  induction k with
  | zero =>
   intro i s hk hi hs m hm;have:i=n:=by omega
   subst this;obtain ⟨m,rfl⟩:∃x,m=x+1:=⟨m-1,by omega⟩
   simp only [yZ];rw [h2 s hs];rfl
  | succ k ih =>
   intro i s hk hi hs m hm;obtain ⟨m,rfl⟩:∃x,m=x+1:=⟨m-1,by omega⟩
   simp only [yZ];rw [h1 i s (by omega) hs,zKt];exact ih (i+1) _ (by omega) (by omega) (hg i s hs) m (by omega)
 have:=key n 0 s (by omega) (by omega) hs vZ (ui (by omega));rw [Xh];exact this
def Yr (s:za) (x:zm):za :=
 if x.Kind=0 then (if x.N=0 then zV s else s)
 else if x.Kind=1 then (if 1<=x.N/\x.N<=16 then zP s x.N else s)
 else if x.Kind=2 then (if 1<=x.N/\x.N<=16 then zG s x.N else s)
 else s
theorem zIh {p:zd}{nb:Nat}{s:za}(h:zJ p) (E:EOk p nb s) (x:zm):EOk p nb (Yr s x):=by
 unfold Yr;split
 .split
  .exact zIa h E
  .exact E
 split
 .split
  .exact zBU h E _
  .exact E
 split
 .split
  .exact zy1 h E _
  .exact E
 .exact E
theorem zt3 {p:zd}{nb:Nat}{s:za}(h:zJ p) (E:EOk p nb s) (x:zm):zev s x=some (Yr s x,()):=by
 rw [zvg,zwB];unfold Yr;by_cases k0:x.Kind=0
 .rw [zr k0,zu,zu,zb k0,zKt];by_cases n0:x.N=0
  .rw [zr n0,zb n0,zKI,zM,zrO,zCW h E];rfl
  .rw [zN n0,zc n0];rfl
 rw [zN k0,zM,zM,zc k0];have key:(bif decide (1<=x.N) then some (decide (x.N<=16),()) else some (false,()):Option (Bool×Unit))=some (decide (1<=x.N/\x.N<=16),()):=by
  by_cases a:1<=x.N
  .by_cases b:x.N<=16
   .rw [zr a,zr b,zr (show 1<=x.N/\x.N<=16 from ⟨a,b⟩)];rfl
   .rw [zr a,zN b,zN (show ¬(1<=x.N/\x.N<=16) from fun e=>b e.2)];rfl
  .rw [zN a,zN (show ¬(1<=x.N/\x.N<=16) from fun e=>a e.1)];rfl
 rw [key];by_cases k1:x.Kind=1
 .rw [zr k1,zu,zu,zb k1,zKt];by_cases n0:1<=x.N/\x.N<=16
  .rw [zr n0,zb n0,zKI,zM,zCQ h E];rfl
  .rw [zN n0,zc n0];rfl
 rw [zN k1,zM,zM,zc k1];by_cases k2:x.Kind=2
 .rw [zr k2,zu,zu,zb k2,zKt];by_cases n0:1<=x.N/\x.N<=16
  .rw [zr n0,zb n0,zKI,zM,zB0 h E];rfl
  .rw [zN n0,zc n0];rfl
 .rw [zN k2,zM,zM,zc k2];rfl
def zaH (p:zd) (x:zm):Prop:=(x.Kind=0/\x.N=0)\/(x.Kind=1/\1<=x.N/\x.N<=p.Workers)\/(x.Kind=2/\1<=x.N/\x.N<=p.Mutators)
def zdj (p:zd) (x:zm):Int:=if x.Kind=0 then 0 else if x.Kind=1 then x.N else p.Workers+x.N
theorem zzg {p:zd}{nb:Nat}{s:za}(h:zJ p) (E:EOk p nb s) {x:zm}(hx:zaH p x):Yr s x=vG s (zdj p x):=by
 have hw:=h.wk;have hm:=h.mt;have hwl:=E.wl;rcases hx with ⟨a,b⟩ | ⟨a,b,c⟩ | ⟨a,b,c⟩
 .have ek:zdj p x=0:=zb a;rw [ek];unfold Yr vG;rw [zb a,zb b,zb rfl]
 .have ek:zdj p x=x.N:=by unfold zdj;rw [zc (by rw [a];decide),zb a]
  rw [ek];unfold Yr vG;rw [zc (by rw [a];decide),zb a,zb ⟨b,by omega⟩,zk,yg]
 .have ek:zdj p x=p.Workers+x.N:=by unfold zdj;rw [zc (by rw [a];decide),zc (by rw [a];decide)]
  rw [ek];unfold Yr vG;rw [zc (by rw [a];decide),zc (by rw [a];decide),zb a,zb ⟨b,by omega⟩,zk,zk];congr 1;omega
def zbX:za->List zm->za×Int
 | s,[]=>(s,0)
 | s,x::l=>if s.Done=true then (s,0) else ((zbX (Yr s x) l).1,(zbX (Yr s x) l).2+1)
theorem zsr (s:za) (x:zm) (l:List zm):zbX s (x::l)=if s.Done=true then (s,0) else ((zbX (Yr s x) l).1,(zbX (Yr s x) l).2+1):=rfl
theorem zEM {p:zd}{nb:Nat}{s:za}(h:zJ p) (E:EOk p nb s) {l:List zm}(hl:l.length<1000000):Vd s l=some ((zbX s l).1,(zbX s l).2,()):=by
 rw [zw9];obtain ⟨o,e,ho⟩:=wN (f:=zf9) (fun a=>∃(i:Nat) (t:za),i<=l.length/\EOk p nb t/\a=(l,l,(l.length:Int),(i:Int),t,0,0,0,0,0,0,0,0,0,0#64,0,zx.mk 0#64 0#64,0,0,false,false,0,0,0,0,zO.mk 0 0,([]:List (List Int)),([]:List (List Int)),([]:List (List zE)),([]:List zm),([]:List (List Int)),([]:List (BitVec 64)),([]:List (List Int)),([]:List Int),([]:List Int),([]:List zi),([]:List ze),())/\(zbX s l).1=(zbX t (l.drop i)).1/\(zbX s l).2=(i:Int)+(zbX t (l.drop i)).2) (fun a=>l.length-a.2.2.2.1.toNat)
  (fun o=>o= .brk (l,(zbX s l).1,0,0,0,0,0,0,0,0,0,0#64,0,zx.mk 0#64 0#64,0,0,false,false,0,0,0,0,zO.mk 0 0,([]:List (List Int)),([]:List (List Int)),([]:List (List zE)),([]:List zm),([]:List (List Int)),([]:List (BitVec 64)),([]:List (List Int)),([]:List Int),([]:List Int),([]:List zi),([]:List ze),())/\(zbX s l).2=(l.length:Int)\/o= .ret ((zbX s l).2,(zbX s l).1,())) (by
  rintro _ ⟨i,t,hi,F,rfl,r1,r2⟩;rw [zsc,zp];by_cases c1:(i:Int)<(l.length:Int)
  .have hx:=zKv (show i<l.length by omega);have hd:=zK4 (show i<l.length by omega);generalize l[i]'(by omega)=x at hx hd;rw [zb c1,yY hx,zKt];rw [hd] at r1 r2;cases hD:t.Done with
   | true =>
    rw [zsr,zb hD] at r1 r2;refine ⟨_,rfl,.inr ?_⟩;rw [r1,r2];simp
   | false =>
    rw [zsr,zc (by rw [hD];decide)] at r1 r2;rw [zM,zt3 h F,zKt,yM];refine ⟨_,rfl,⟨i+1,Yr t x,by omega,zIh h F x,rfl,r1,?_⟩,?_⟩
    .rw [r2];dsimp only;omega
    .show l.length-((i+1:Nat):Int).toNat<l.length-(i:Int).toNat;omega
  .rw [zc c1];have ei:i=l.length:=by omega
   subst ei;rw [List.drop_length] at r1 r2;refine ⟨_,rfl,.inl ⟨?_,?_⟩⟩
   .rw [r1];rfl
   .rw [r2];show (l.length:Int)+0=_;omega) (l,l,(l.length:Int),0,s,0,0,0,0,0,0,0,0,0,0#64,0,zx.mk 0#64 0#64,0,0,false,false,0,0,0,0,zO.mk 0 0,([]:List (List Int)),([]:List (List Int)),([]:List (List zE)),([]:List zm),([]:List (List Int)),([]:List (BitVec 64)),([]:List (List Int)),([]:List Int),([]:List Int),([]:List zi),([]:List ze),()) ⟨0,s,by omega,E,rfl,by rw [List.drop_zero],by rw [List.drop_zero];omega⟩ (by show l.length-0<18446744073709551616;omega)
 rw [e];rcases ho with ⟨rfl,hn⟩ | rfl
 .rw [hn];rfl
 .rfl
namespace B20
theorem zJe {a b:Int}(ha:0<=a) (hb:0<b):0<=a.tmod b/\a.tmod b<b:=by
 rw [Int.tmod_eq_emod_of_nonneg ha];exact ⟨Int.emod_nonneg _ (by omega),Int.emod_lt_of_pos _ hb⟩
theorem zux {p:zd}(ord:List (BitVec 8)) (n:Nat) (hn:n<1000000) (i:Nat) (hi:i<ord.length) (x:zm) (hx:zaH p x) (l:List zm) (hl:l.length<n) (hp:∀y∈l,zaH p y) :
  ∃o,yf uC (ord,(n:Int),(i:Int),0,p,l,x,())=some o/\∃l',o= .brk (ord,(n:Int),(i:Int),p,l',())/\(l.length<l'.length/\l'.length<=n)/\∀y∈l',zaH p y:=by
 have hb:=ord[i].isLt;have hdv:w64 (((ord[i]).toNat:Int).tdiv 64)=((ord[i].toNat/64:Nat):Int):=by rw [yb (by rw [Int.tdiv_eq_ediv_of_nonneg (by omega)];omega) (by rw [Int.tdiv_eq_ediv_of_nonneg (by omega)];omega),Int.tdiv_eq_ediv_of_nonneg (by omega)];omega
 refine wN (f:=uC) (fun a=>∃(k:Nat) (l':List zm),k<=5/\a=(ord,(n:Int),(i:Int),(k:Int),p,l',x,())/\(((k=0/\l'=l)\/l.length<l'.length)/\l'.length<=n)/\∀y∈l',zaH p y) (fun a=>10-a.2.2.2.1.toNat) (fun o=>∃l',o= .brk (ord,(n:Int),(i:Int),p,l',())/\(l.length<l'.length/\l'.length<=n)/\∀y∈l',zaH p y) ?_ _ ⟨0,l,by omega,rfl,⟨.inl ⟨rfl,rfl⟩,by omega⟩,hp⟩ (by show 10-0<18446744073709551616;decide);rintro _ ⟨k,l',hk,rfl,hl',hp'⟩;rw [zk3,yY (zKv hi),zKt,hdv,zp];by_cases c1:(k:Int)<=((ord[i].toNat/64:Nat):Int)
 .rw [zb c1,zp];by_cases c2:(l'.length:Int)<(n:Int)
  .rw [zb c2,yQ (by simp;omega),zKt,yM];refine ⟨_,rfl,⟨k+1,l'++[x],by omega,rfl,⟨.inr ?_,by simp;omega⟩,fun y hy=>?_⟩,?_⟩
   .rcases hl'.1 with ⟨_,rfl⟩ | h
    .simp
    .simp;omega
   .rcases zKS.1 hy with hy | hy
    .exact hp' y hy
    .rw [zLf.1 hy];exact hx
   .show 10-((k+1:Nat):Int).toNat<10-(k:Int).toNat;omega
  .rw [zc c2];refine ⟨_,rfl,l',rfl,⟨?_,hl'.2⟩,hp'⟩;rcases hl'.1 with ⟨_,rfl⟩ | h
   .omega
   .exact h
 .rw [zc c1];refine ⟨_,rfl,l',rfl,⟨?_,hl'.2⟩,hp'⟩;rcases hl'.1 with ⟨rfl,rfl⟩ | h
  .exact zj (Int.natCast_nonneg _) c1
  .exact h
theorem zG2 {p:zd}(h:zJ p) (ord:List (BitVec 8)) (n:Nat) (hn:n<1000000):∃l,Ue p ord (n:Int)=some (l,())/\l.length<=n/\∀x∈l,zaH p x:=by
 have hw:=h.wk;have hm:=h.mt;have e1:w64 (w64 (1+p.Workers)+p.Mutators)=1+p.Workers+p.Mutators:=by rw [yb (a:=1+p.Workers) (by omega) (by omega),yb]
 obtain ⟨o,e,l,rfl,h1,h2⟩:=wN (f:=zap) (fun a=>∃(i:Nat) (l:List zm),i<=l.length/\a=(ord,(n:Int),(i:Int),p,l,())/\l.length<=n/\∀y∈l,zaH p y) (fun a=>n+1-a.2.2.1.toNat) (fun o=>∃l,o= .brk (l,())/\l.length<=n/\∀y∈l,zaH p y) (by
  rintro _ ⟨i,l,hi,rfl,hl,hp⟩;rw [zmY,zp];by_cases c1:(i:Int)<(ord.length:Int);rotate_left
  .rw [zc c1];exact ⟨_,rfl,l,rfl,hl,hp⟩
  rw [zb c1,zp];by_cases c2:(l.length:Int)<(n:Int);rotate_left
  .rw [zc c2];exact ⟨_,rfl,l,rfl,hl,hp⟩
  have hil:i<ord.length:=by omega
  have ht:=zJe (show (0:Int)<=(ord[i].toNat:Int) by omega) (show (0:Int)<1+p.Workers+p.Mutators by omega);have fin:∀ {l':List zm},(l.length<l'.length/\l'.length<=n)->(∀y∈l',zaH p y)->(∃(j:Nat) (q:List zm),j<=q.length/\(ord,(n:Int),((i+1:Nat):Int),p,l',())=(ord,(n:Int),(j:Int),p,q,())/\q.length<=n/\∀y∈q,zaH p y)/\n+1-((i+1:Nat):Int).toNat<n+1-(i:Int).toNat:=fun {l'} h1 h2=>⟨⟨i+1,l',by omega,rfl,h1.2,h2⟩,by omega⟩
  rw [zb c2,yY (zKv hil),zKt,e1,zp,zk,zp];generalize (ord[i].toNat:Int).tmod (1+p.Workers+p.Mutators)=t at ht;by_cases c3:p.Workers<t
  .rw [zb c3,yb];obtain ⟨o,e,l',rfl,h1,h2⟩:=zux ord n hn i hil ⟨2,t-p.Workers⟩ (.inr (.inr ⟨rfl,by show 1<=t-p.Workers;omega,by show t-p.Workers<=p.Mutators;omega⟩)) l (by omega) hp;rw [e,zKt];dsimp only;rw [yM];exact ⟨_,rfl,fin h1 h2⟩
  rw [zc c3,zp];by_cases c4:0<t
  .rw [zb c4];obtain ⟨o,e,l',rfl,h1,h2⟩:=zux ord n hn i hil ⟨1,t⟩ (.inr (.inl ⟨rfl,by show 1<=t;omega,by show t<=p.Workers;omega⟩)) l (by omega) hp;rw [e,zKt];dsimp only;rw [yM];exact ⟨_,rfl,fin h1 h2⟩
  .rw [zc c4];obtain ⟨o,e,l',rfl,h1,h2⟩:=zux ord n hn i hil ⟨0,0⟩ (.inl ⟨rfl,rfl⟩) l (by omega) hp;rw [e,zKt];dsimp only;rw [yM];exact ⟨_,rfl,fin h1 h2⟩) (ord,(n:Int),0,p,[],()) ⟨0,[],by simp,rfl,by simp,fun y hy=>by cases hy⟩ (by show n+1-0<18446744073709551616;omega)
 refine ⟨l,?_,h1,h2⟩;rw [zo8,e];rfl
end B20
theorem ZM {α S σ B C:Type}{f:σ->Option (yL σ B C)}(A:Int->S->σ) (b:S->B) (l:List α) (hl:l.length<1000000) (g:S->α->S) (Inv:Nat->S->Prop) {s:S}(h0:Inv 0 s)
  (h1:∀(i:Nat) s x,l[i]? =some x->i<l.length->Inv i s->Inv (i+1) (g s x)/\f (A (i:Int) s)=some (.again (A ((i+1:Nat):Int) (g s x)))) (h2:∀s,Inv l.length s->f (A (l.length:Int) s)=some (.brk (b s))) :
  yf f (A 0 s)=some (.brk (b (l.foldl g s)))/\Inv l.length (l.foldl g s):=by
 have key:∀(k i:Nat) (s:S),l.length-i=k->i<=l.length->Inv i s->(∀m,k<m->yZ f m (A (i:Int) s)=some (.brk (b ((l.drop i).foldl g s))))/\Inv l.length ((l.drop i).foldl g s):=by
  intro k
  induction k with
  | zero =>
   intro i s hk hi hs;have:i=l.length:=by omega
   subst this;rw [List.drop_length];refine ⟨fun m hm=>?_,hs⟩;obtain ⟨m,rfl⟩:∃x,m=x+1:=⟨m-1,by omega⟩
   simp only [yZ];rw [h2 s hs];rfl
  | succ k ih =>
   intro i s hk hi hs;have hx:=zKv (show i<l.length by omega);have hd:=zK4 (show i<l.length by omega);generalize l[i]'(by omega)=x at hx hd;obtain ⟨h3,h4⟩:=h1 i s x hx (by omega) hs;obtain ⟨h5,h6⟩:=ih (i+1) (g s x) (by omega) (by omega) h3;rw [hd];refine ⟨fun m hm=>?_,h6⟩;obtain ⟨m,rfl⟩:∃x,m=x+1:=⟨m-1,by omega⟩
   simp only [yZ];rw [h4,zKt];exact h5 m (by omega)
 obtain ⟨k1,k2⟩:=key l.length 0 s (by omega) (by omega) h0;refine ⟨?_,k2⟩;rw [Xh];exact k1 vZ (ui (by omega))
def zx3 (x:Int):List Int->List Int
 | []=>[x]
 | y::l=>if x<=y then x::y::l else y::zx3 x l
def Z9:List Int->List Int
 | []=>[]
 | x::l=>zx3 x (Z9 l)
theorem zst (x:Int):∀l,zMu (zx3 x l) (x::l)
 | []=>zKX _
 | y::l=>by
  unfold zx3;split
  .exact zKX _
  .exact ((zst x l).cons y).trans (List.Perm.swap x y l)
theorem Uj:∀l,zMu (Z9 l) l
 | []=>zKX _
 | x::l=>(zst x (Z9 l)).trans ((Uj l).cons x)
theorem zt2 (x:Int):∀l,List.Pairwise (fun a b:Int=>a<=b) l->List.Pairwise (fun a b:Int=>a<=b) (zx3 x l)
 | [],_=>List.pairwise_singleton _ _
 | y::l,h=>by
  rw [zLO] at h;unfold zx3;split
  .rename_i hx;refine zLO.2 ⟨fun z hz=>?_,zLO.2 h⟩;rcases zKN.1 hz with rfl | hz
   .exact hx
   .have:=h.1 z hz;omega
  .rename_i hx;refine zLO.2 ⟨fun z hz=>?_,zt2 x l h.2⟩;rcases zKN.1 ((zst x l).mem_iff.1 hz) with rfl | hz
   .omega
   .exact h.1 z hz
theorem zed:∀l,List.Pairwise (fun a b:Int=>a<=b) (Z9 l)
 | []=>List.Pairwise.nil
 | x::l=>zt2 x _ (zed l)
theorem zrH {l m:List Int}(hl:List.Pairwise (fun a b:Int=>a<=b) l) (hm:List.Pairwise (fun a b:Int=>a<=b) m) (h:zMu l m):l=m :=
 List.Perm.eq_of_pairwise (fun a b _ _ h1 h2=>Int.le_antisymm h1 h2) hl hm h
theorem zE5 (l:List Int):vr l=Z9 l:=by
 refine zrH ?_ (zed l) ((List.mergeSort_perm l _).trans (Uj l).symm);have:=List.pairwise_mergeSort (le:=fun x y:Int=>decide (x<=y)) (fun a b c h1 h2=>by simp only [decide_eq_true_eq] at *;omega) (fun a b=>by simp only [zLD,decide_eq_true_eq];omega) l;exact this.imp (fun h=>by simpa using h)
theorem zDr {l m:List Int}(h:zMu l m):Z9 l=Z9 m:=zrH (zed l) (zed m) ((Uj l).trans (h.trans (Uj m).symm))
theorem zHj (l:List Int):(Z9 l).length=l.length:=(Uj l).length_eq
theorem zHi (a b:List Int):Z9 (Z9 a++b)=Z9 (a++b):=zDr ((Uj a).append_right b)
theorem zy0 {l:List Int}(h:l.length<4294967296):ztm l=some (Z9 l,()):=by
 rw [zEw];unfold zpG;rw [zr (by omega),zE5];rfl
def YL (p:zd) (w:Int) (i:Nat):Int:=z6 p w+2+((i%p.Cap.toNat:Nat):Int)
structure DQ (p:zd) (m:List (BitVec 64)) (w:Int) (t:Nat) (l:List Int) (c:Nat):Prop where
 top:ld m (z6 p w)=zMq 64 t
 bot:ld m (z6 p w+1)=zMq 64 (t+l.length-c)
 c1:c<=1
 t1:1<=t
 cap:l.length<=p.Cap.toNat
 small:t+l.length<4294967296
 cell:∀(i:Nat) (hi:i<l.length),(ld m (YL p w (t+i))).toInt=l[i]
theorem DQ.keep {p:zd}(h:zJ p) {m m':List (BitVec 64)}{w:Int}{t c:Nat}{l:List Int}(D:DQ p m w t l c) (hm:∀a,z6 p w<=a->a<z6 p w+p.Cap+2->ld m' a=ld m a):DQ p m' w t l c:=by
 have hc:=h.cap;refine ⟨by rw [hm _ (by omega) (by omega)];exact D.top,by rw [hm _ (by omega) (by omega)];exact D.bot,D.c1,D.t1,D.cap,D.small,fun i hi=>?_⟩;have:=Nat.mod_lt (t+i) (show 0<p.Cap.toNat by omega);rw [hm _ (by unfold YL;omega) (by unfold YL;omega)];exact D.cell i hi
theorem Yn {n:Nat}(h:n<18446744073709551616):(zMq 64 n).toNat=n:=by rw [BitVec.toNat_ofNat];omega
theorem ziO {a b:Nat}(h:b<=a) (h2:a<18446744073709551616):zMq 64 a-zMq 64 b=zMq 64 (a-b):=by
 apply zLN;rw [BitVec.toNat_sub,Yn h2,Yn (by omega),Yn (by omega)];omega
theorem zff {a b:Nat}(h2:a+b<18446744073709551616):zMq 64 a+zMq 64 b=zMq 64 (a+b):=by
 apply zLN;rw [BitVec.toNat_add,Yn (by omega),Yn (by omega),Yn (by omega)];omega
theorem zzD {a b:Nat}(h:a<18446744073709551616) (h2:b<18446744073709551616) (e:zMq 64 a=zMq 64 b):a=b:=by
 have:=congrArg BitVec.toNat e;rwa [Yn h,Yn h2] at this
theorem zi6 {a b:Nat}(h:a<4294967296) (h2:b<4294967296):0<(zMq 64 a-zMq 64 b).toInt↔b<a:=by
 rw [zL5,BitVec.toNat_sub,Yn (by omega),Yn (by omega)];omega
theorem zIu {t i n c:Nat}(hi:i<n) (hn:n<t+c) (ht:t<=i) (e:i%c=n%c):False:=by
 have h1:=Nat.div_add_mod i c;have h2:=Nat.div_add_mod n c;have hc:0<c:=by omega
 rw [e] at h1;have h3:c*(n/c)=c*(i/c)+(n-i):=by omega
 rcases zK5 (i/c) (n/c) with h | h
 .have:c*(i/c)+c<=c*(n/c):=by
   have:=Nat.mul_le_mul_left c h;rw [Nat.succ_eq_add_one,Nat.mul_add,zLs] at this;exact this
  omega
 .have:=Nat.mul_le_mul_left c h;omega
theorem ziI {p:zd}(h:zJ p) {d:zg}{w:Int}(hw:1<=w/\w<=p.Workers) (hb:d.Base=z6 p w) (hc:d.Cap=p.Cap) {i:Nat}(hi:i<4294967296):XE d (zMq 64 i)=YL p w i:=by
 rw [(zuo h hw.1 hw.2 hb hc _).1,Yn (by omega),hb];rfl
structure DK (p:zd) (m:List (BitVec 64)) (w:Int) (t:Nat) (l:List Int) (c:Nat) (d:zg):Prop where
 kind:d.Kind=1
 base:d.Base=z6 p w
 size:d.Cap=p.Cap
 out:d.Out=0
 c0:c=0
 pc:0<=d.PC/\d.PC<=3
 b:1<=d.PC->d.B=zMq 64 (t+l.length)
 r:2<=d.PC->l.length<p.Cap.toNat
 x:3<=d.PC->(ld m (YL p w (t+l.length))).toInt=d.X
structure PK (p:zd) (m:List (BitVec 64)) (w:Int) (t:Nat) (l:List Int) (c:Nat) (d:zg):Prop where
 kind:d.Kind=2
 base:d.Base=z6 p w
 size:d.Cap=p.Cap
 out:d.Out=0
 pc:0<=d.PC/\d.PC<=6
 c0:d.PC<=1->c=0
 c1:d.PC=2\/4<=d.PC->c=1
 b:d.PC=1\/d.PC=2\/4<=d.PC\/(d.PC=3/\d.T=d.B-1#64)->d.B=zMq 64 (t+l.length)
 c3:d.PC=3->d.T=d.B-1#64->c=1
 n3:d.PC=3->d.T≠d.B-1#64->c=0/\d.B=zMq 64 (t+l.length+1)/\t+l.length+1<4294967296/\l.length+1<=p.Cap.toNat
 t3:d.PC=3\/d.PC=4->d.T.toNat<=t
 t4:d.PC=4->d.T=d.B-1#64
 x4:d.PC=4->d.T.toNat=t->l=[d.X]
 e5:5<=d.PC->l=[]
def YM (m:List (BitVec 64)) (d:zg):List Int :=
 if d.PC=3/\d.T≠d.B-1#64 then [(ld m (XE d (d.B-1#64))).toInt] else if d.PC=6 then [d.X] else []
structure TK (p:zd) (m:List (BitVec 64)) (w:Int) (t:Nat) (l:List Int) (d:zg):Prop where
 kind:d.Kind=3
 base:d.Base=z6 p w
 size:d.Cap=p.Cap
 out:d.Out=0
 pc:0<=d.PC/\d.PC<=3
 le:1<=d.PC->d.T.toNat<=t
 ne:2<=d.PC->d.T.toNat=t->l≠[]
 hd:d.PC=3->d.T.toNat=t->l.head? =some d.X
structure Dv (t:Nat) (l:List Int) (t':Nat) (l':List Int):Prop where
 le:t<=t'
 hd:t'=t->l≠[]->l'≠[]/\l'.head? =l.head?
theorem Dv.refl (t:Nat) (l:List Int):Dv t l t l:=⟨zKz _,fun _ h=>⟨h,rfl⟩⟩
theorem TK.dv {p:zd}{m m':List (BitVec 64)}{w:Int}{t t':Nat}{l l':List Int}{d:zg}(K:TK p m w t l d) (V:Dv t l t' l'):TK p m' w t' l' d:=by
 have h1:=V.le;refine ⟨K.kind,K.base,K.size,K.out,K.pc,fun h=>zLB (K.le h) h1,fun h e=>?_,fun h e=>?_⟩
 .have:=K.le (by omega);have et:t'=t:=by omega
  exact (V.hd et (K.ne h (by omega))).1
 .have:=K.le (by omega);have et:t'=t:=by omega
  rw [(V.hd et (K.ne (by omega) (by omega))).2];exact K.hd h (by omega)
theorem zEm {p:zd}(h:zJ p) {m:List (BitVec 64)}{w:Int}{t c:Nat}{l:List Int}{d:zg}(hw:1<=w/\w<=p.Workers) (hlen:yt p<=m.length) (D:DQ p m w t l c) (K:TK p m w t l d) :
  ((yj m d).1=m/\(((yj m d).2.Out=0/\TK p m w t l (yj m d).2)\/(yj m d).2.Out=2\/(yj m d).2.Out=4)) \/
  (∃x l',l=x::l'/\(yj m d).2.Out=1/\(yj m d).2.X=x/\DQ p (yj m d).1 w (t+1) l' c/\(∀a,a≠z6 p w->ld (yj m d).1 a=ld m a)):=by
 have hc:=h.cap;have hd:=Xe h hw.1 hw.2;have hf:=Yg h;have hpc:=K.pc;have hsm:=D.small;have ht1:=D.t1;have hc1:=D.c1;have eb:wc (d.Base+1)=z6 p w+1:=by rw [K.base,xq]
 have k:=K.kind;unfold yj;rw [zc (by have:=K.out;omega),zk,zk,zb k];unfold zc5;rw [zk,eb];by_cases c0:d.PC=0
 .rw [zb c0];exact .inl ⟨rfl,.inl ⟨K.out,⟨k,K.base,K.size,K.out,⟨by dsimp only;omega,by dsimp only;omega⟩,fun _=>by dsimp only;rw [K.base,D.top,Yn (by omega)];exact zKz _,fun e=>by dsimp only at e;omega,fun e=>by dsimp only at e;omega⟩⟩⟩
 rw [zc c0];have hT:=K.le (by omega);by_cases c1:d.PC=1
 .rw [zb c1];left;refine ⟨rfl,?_⟩;by_cases hs:0<(ld m (z6 p w+1)-d.T).toInt
  .left;dsimp only;rw [zb hs];refine ⟨K.out,⟨k,K.base,K.size,K.out,⟨by dsimp only;omega,by dsimp only;omega⟩,fun _=>hT,fun _ e=>?_,fun e=>by dsimp only at e;omega⟩⟩;have e:d.T.toNat=t:=e;have eT:d.T=zMq 64 t:=by apply zLN;rw [Yn (by omega)];exact e
   rw [D.bot,eT] at hs;have:=(zi6 (by omega) (by omega)).1 hs;intro el;rw [el] at this;simp at this;omega
  .right;left;dsimp only;rw [zc hs]
 rw [zc c1];by_cases c2:d.PC=2
 .rw [zb c2];left;refine ⟨rfl,.inl ⟨K.out,⟨k,K.base,K.size,K.out,⟨by dsimp only;omega,by dsimp only;omega⟩,fun _=>hT,fun _ e=>K.ne (by omega) e,fun _ e=>?_⟩⟩⟩;have e:d.T.toNat=t:=e;have eT:d.T=zMq 64 t:=by apply zLN;rw [Yn (by omega)];exact e
  have hn:=K.ne (by omega) e;cases l with
  | nil=>exact zj rfl hn
  | cons x l =>
   have:=D.cell 0 (by simp);dsimp only;rw [eT,ziI h hw K.base K.size (by omega)];rw [zLe] at this;rw [this];rfl
 rw [zc c2];have c3:d.PC=3:=by omega
 by_cases hs:ld m d.Base=d.T
 .right;have eT:d.T.toNat=t:=by rw [<-hs,K.base,D.top,Yn (by omega)]
  have eT':d.T=zMq 64 t:=by rw [<-hs,K.base,D.top]
  have hx:=K.hd c3 eT;have hn:=K.ne (by omega) eT;have hsw:sw m d.Base d.T (d.T+1#64)=(st m d.Base (d.T+1#64),true):=by unfold sw;rw [zb ⟨by rw [K.base];omega,by rw [K.base];omega,hs⟩]
  rw [hsw];cases l with
  | nil=>exact zj rfl hn
  | cons x l =>
   have hx:x=d.X:=by simpa using hx
   have hmod:∀i,z6 p w+2<=YL p w i:=fun i=>by unfold YL;omega
   have hlc:=D.cap;rw [zKM] at hlc hsm;refine ⟨x,l,rfl,rfl,hx.symm,⟨?_,?_,hc1,by omega,by omega,by omega,fun i hi=>?_⟩,fun a ha=>?_⟩
   .dsimp only;rw [K.base,VD,zb ⟨rfl,by omega,by omega⟩,eT'];exact zff (by omega)
   .dsimp only;rw [K.base,yK (by omega),D.bot,zKM];congr 1;omega
   .dsimp only;have:=hmod (t+1+i);rw [K.base,yK (by omega)];have:=D.cell (i+1) (by simp;omega);rw [show t+(i+1)=t+1+i by omega] at this;simpa using this
   .dsimp only;rw [K.base,yK (fun e=>ha e.symm)]
 .left;have hsw:sw m d.Base d.T (d.T+1#64)=(m,false):=by unfold sw;rw [zc (fun e=>hs e.2.2)]
  rw [hsw];exact ⟨rfl,.inr (.inr rfl)⟩
theorem uA {m:List (BitVec 64)}{d:zg}(h:d.PC≠3\/d.T=d.B-1#64) (h2:d.PC≠6):YM m d=[]:=by
 unfold YM;rw [zc (fun e=>h.elim (fun f=>f e.1) (fun f=>e.2 f)),zc h2]
theorem zBc {p:zd}(h:zJ p) {m:List (BitVec 64)}{w:Int}{t c:Nat}{l:List Int}{d:zg}(hw:1<=w/\w<=p.Workers) (hlen:yt p<=m.length) (D:DQ p m w t l c) (K:PK p m w t l c d) :
  ∃t' l' c',DQ p (yj m d).1 w t' l' c'/\(∀a,a≠z6 p w->a≠z6 p w+1->ld (yj m d).1 a=ld m a)/\Dv t l t' l'/\t'+l'.length<=t+l.length /\
   (((yj m d).2.Out=0/\PK p (yj m d).1 w t' l' c' (yj m d).2/\zMu (l'++YM (yj m d).1 (yj m d).2) (l++YM m d)) \/
    ((yj m d).2.Out=1/\c'=0/\zMu (l'++[(yj m d).2.X]) (l++YM m d)) \/
    ((yj m d).2.Out=2/\c'=0/\l'=[]/\l=[]/\YM m d=[])):=by
 have hc:=h.cap;have hd:=Xe h hw.1 hw.2;have hf:=Yg h;have hpc:=K.pc;have hsm:=D.small;have ht1:=D.t1;have hc1:=D.c1;have eb:wc (d.Base+1)=z6 p w+1:=by rw [K.base,xq]
 have k:=K.kind;have one:(1#64:BitVec 64)=zMq 64 1:=rfl;have hmod:∀i,z6 p w+2<=YL p w i/\YL p w i<z6 p w+p.Cap+2:=fun i=>by
  have:=Nat.mod_lt i (show 0<p.Cap.toNat by omega);unfold YL;omega
 have stb:∀(c':Nat) (v:BitVec 64),c'<=1->v=zMq 64 (t+l.length-c')->DQ p (st m (z6 p w+1) v) w t l c'/\(∀a,a≠z6 p w->a≠z6 p w+1->ld (st m (z6 p w+1) v) a=ld m a):=by
  intro c' v h1 h2;refine ⟨⟨by rw [yK (by omega)];exact D.top,by rw [VD,zb ⟨rfl,by omega,by omega⟩];exact h2,h1,ht1,D.cap,hsm,fun i hi=>by rw [yK (by have:=hmod (t+i);omega)];exact D.cell i hi⟩,fun a _ h2=>yK (fun e=>h2 e.symm)⟩
 unfold yj;rw [zc (by have:=K.out;omega),zk,zb k];unfold zlj;rw [zk,eb];by_cases p0:d.PC=0
 .rw [zb p0];have hc0:=K.c0 (by omega);refine ⟨t,l,c,D,fun _ _ _=>rfl,Dv.refl _ _,zKz _,.inl ⟨K.out,⟨k,K.base,K.size,K.out,⟨by dsimp only;omega,by dsimp only;omega⟩,fun _=>hc0,fun e=>by dsimp only at e;omega,fun _=>?_,fun e=>by dsimp only at e;omega,fun e=>by dsimp only at e;omega,fun e=>by dsimp only at e;omega,fun e=>by dsimp only at e;omega,fun e=>by dsimp only at e;omega,fun e=>by dsimp only at e;omega⟩,?_⟩⟩
  .dsimp only;rw [D.bot,hc0];rfl
  .rw [uA (.inl (by dsimp only;omega)) (by dsimp only;omega),uA (.inl (by omega)) (by omega)]
 rw [zc p0];by_cases p1:d.PC=1
 .rw [zb p1];have hB:=K.b (.inl p1);have eB:d.B-1#64=zMq 64 (t+l.length-1):=by rw [hB,one,ziO (by omega) (by omega)]
  obtain ⟨D',hm⟩:=stb 1 (d.B-1#64) (by omega) eB;refine ⟨t,l,1,D',hm,Dv.refl _ _,zKz _,.inl ⟨K.out,⟨k,K.base,K.size,K.out,⟨by dsimp only;omega,by dsimp only;omega⟩,fun e=>by dsimp only at e;omega,fun _=>rfl,fun _=>hB,fun e=>by dsimp only at e;omega,fun e=>by dsimp only at e;omega,fun e=>by dsimp only at e;omega,fun e=>by dsimp only at e;omega,fun e=>by dsimp only at e;omega,fun e=>by dsimp only at e;omega⟩,?_⟩⟩;rw [uA (.inl (by dsimp only;omega)) (by dsimp only;omega),uA (.inl (by omega)) (by omega)]
 rw [zc p1];by_cases p2:d.PC=2
 .rw [zb p2];have hB:=K.b (.inr (.inl p2));have hc':=K.c1 (.inl p2);have eB:d.B-1#64=zMq 64 (t+l.length-1):=by rw [hB,one,ziO (by omega) (by omega)]
  have eT:ld m d.Base=zMq 64 t:=by rw [K.base];exact D.top
  rw [uA (d:=d) (.inl (by omega)) (by omega),zKx];by_cases hs:0<(ld m d.Base-(d.B-1#64)).toInt
  .have hs':=hs;rw [eT,eB] at hs';have:=(zi6 (by omega) (by omega)).1 hs';have el:l=[]:=by cases l with | nil=>rfl | cons a l=>rw [zKM] at this;omega
   rw [zb hs];refine ⟨t,l,c,D,fun _ _ _=>rfl,Dv.refl _ _,zKz _,.inl ⟨K.out,⟨k,K.base,K.size,K.out,⟨by dsimp only;omega,by dsimp only;omega⟩,fun e=>by dsimp only at e;omega,fun _=>hc',fun _=>hB,fun e=>by dsimp only at e;omega,fun e=>by dsimp only at e;omega,fun e=>by dsimp only at e;omega,fun e=>by dsimp only at e;omega,fun e=>by dsimp only at e;omega,fun _=>el⟩,?_⟩⟩;rw [uA (.inl (by dsimp only;omega)) (by dsimp only;omega),zKx]
  .have hs':=hs;rw [eT,eB] at hs';have hle: ¬(t+l.length-1<t):=fun e=>hs' ((zi6 (by omega) (by omega)).2 e);rw [zc hs];by_cases h1:l.length=1
   .have e3:ld m d.Base=d.B-1#64:=by rw [eT,eB];congr 1;omega
    refine ⟨t,l,c,D,fun _ _ _=>rfl,Dv.refl _ _,zKz _,.inl ⟨K.out,⟨k,K.base,K.size,K.out,⟨by dsimp only;omega,by dsimp only;omega⟩,fun e=>by dsimp only at e;omega,fun e=>by dsimp only at e;omega,fun _=>hB,fun _ _=>hc',fun _ e=>zj e3 e,fun _=>by dsimp only;rw [eT,Yn (by omega)];exact zKz _,fun e=>by dsimp only at e;omega,fun e=>by dsimp only at e;omega,fun e=>by dsimp only at e;omega⟩,?_⟩⟩;rw [uA (.inr e3) (by dsimp only;omega),zKx]
   .-- the last one is the owner's
    have h2:2<=l.length:=by omega
    have e3:ld m d.Base≠d.B-1#64:=by
     rw [eT,eB];intro e;have:=zzD (by omega) (by omega) e;omega
    have hne:l≠[]:=fun e=>by rw [e] at h2;simp at h2
    have hdl:l.dropLast.length=l.length-1:=List.length_dropLast;refine ⟨t,l.dropLast,0,⟨D.top,?_,by omega,ht1,by have:=D.cap;omega,by omega,fun i hi=>?_⟩,fun _ _ _=>rfl,⟨zKz _,fun _ _=>⟨fun e=>?_,?_⟩⟩,by omega,.inl ⟨K.out,⟨k,K.base,K.size,K.out,⟨by dsimp only;omega,by dsimp only;omega⟩,fun e=>by dsimp only at e;omega,fun e=>by dsimp only at e;omega,fun e=>?_,fun _ e=>zj e e3,fun _ _=>⟨rfl,?_,by omega,by have:=D.cap;omega⟩,fun _=>by dsimp only;rw [eT,Yn (by omega)];exact zKz _,fun e=>by dsimp only at e;omega,fun e=>by dsimp only at e;omega,fun e=>by dsimp only at e;omega⟩,?_⟩⟩
    .rw [D.bot,hc',hdl];congr 1;omega
    .rw [D.cell i (by omega)];exact (List.getElem_dropLast ..).symm
    .have:=congrArg List.length e;rw [hdl] at this;simp at this;omega
    .cases l with
     | nil=>exact zj rfl hne
     | cons a l=>cases l with
      | nil=>simp at h2
      | cons b l=>rfl
    .rcases e with e | e | e | ⟨_,e⟩
     .dsimp only at e;omega
     .dsimp only at e;omega
     .dsimp only at e;omega
     .exact zj e e3
    .dsimp only;rw [hB,hdl];congr 1;omega
    .unfold YM;rw [zb ⟨rfl,e3⟩];dsimp only;have ep:XE {d with T:=ld m d.Base,PC:=3} (d.B-1#64)=YL p w (t+(l.length-1)):=by
      rw [eB];have:=ziI h (d:={d with T:=ld m d.Base,PC:=3}) hw K.base K.size (i:=t+l.length-1) (by omega);rw [this];congr 1;omega
     rw [ep,D.cell (l.length-1) (by omega)];have:=List.dropLast_concat_getLast hne;rw [List.getLast_eq_getElem] at this;rw [this]
 rw [zc p2];by_cases p3:d.PC=3
 .rw [zb p3];by_cases e3:d.T=d.B-1#64
  .rw [zb e3];have hB:=K.b (.inr (.inr (.inr ⟨p3,e3⟩)));have hc':=K.c3 p3 e3;have eB:d.B-1#64=zMq 64 (t+l.length-1):=by rw [hB,one,ziO (by omega) (by omega)]
   refine ⟨t,l,c,D,fun _ _ _=>rfl,Dv.refl _ _,zKz _,.inl ⟨K.out,⟨k,K.base,K.size,K.out,⟨by dsimp only;omega,by dsimp only;omega⟩,fun e=>by dsimp only at e;omega,fun _=>hc',fun _=>hB,fun e=>by dsimp only at e;omega,fun e=>by dsimp only at e;omega,fun _=>K.t3 (.inl p3),fun _=>e3,fun _ e=>?_,fun e=>by dsimp only at e;omega⟩,?_⟩⟩
   .have e:d.T.toNat=t:=e;rw [e3,eB,Yn (by omega)] at e;have h1:l.length=1:=by omega
    have:=D.cell 0 (by omega);dsimp only;rw [eB,ziI h hw K.base K.size (by omega),show t+l.length-1=t+0 by omega,this]
    match l,h1 with
    | [a],_=>rfl
   .rw [uA (.inl (by dsimp only;omega)) (by dsimp only;omega),uA (.inr e3) (by omega)]
  .rw [zc e3];obtain ⟨a1,a2,a3,a4⟩:=K.n3 p3 e3;refine ⟨t,l,c,D,fun _ _ _=>rfl,Dv.refl _ _,zKz _,.inr (.inl ⟨rfl,a1,?_⟩)⟩;unfold YM;rw [zb ⟨p3,e3⟩]
 rw [zc p3];by_cases p4:d.PC=4
 .rw [zb p4];have hB:=K.b (.inr (.inr (.inl (by omega))));have hc':=K.c1 (.inr (by omega));have e3:=K.t4 p4;have ht:=K.t3 (.inr p4);have eB:d.B-1#64=zMq 64 (t+l.length-1):=by rw [hB,one,ziO (by omega) (by omega)]
  have eT:d.T.toNat=t+l.length-1:=by rw [e3,eB,Yn (by omega)]
  rw [uA (d:=d) (.inl (by omega)) (by omega),zKx];by_cases hs:ld m d.Base=d.T
  .have hsw:sw m d.Base d.T (d.T+1#64)=(st m d.Base (d.T+1#64),true):=by unfold sw;rw [zb ⟨by rw [K.base];omega,by rw [K.base];omega,hs⟩]
   have et:d.T.toNat=t:=by rw [<-hs,K.base,D.top,Yn (by omega)]
   have el:=K.x4 p4 et;rw [hsw];have eT':d.T=zMq 64 t:=by rw [<-hs,K.base,D.top]
   have hl1:l.length=1:=by rw [el];rfl
   refine ⟨t+1,[],1,⟨?_,?_,by omega,by omega,by simp,by simp;omega,fun i hi=>by simp at hi⟩,fun a h1 _=>?_,⟨by omega,fun e=>by omega⟩,by simp;omega,.inl ⟨K.out,⟨k,K.base,K.size,K.out,⟨by dsimp only;simp,by dsimp only;simp⟩,fun e=>by simp at e,fun _=>rfl,fun _=>?_,fun e=>by simp at e,fun e=>by simp at e,fun e=>by simp at e,fun e=>by simp at e,fun e=>by simp at e,fun _=>rfl⟩,?_⟩⟩
   .dsimp only;rw [K.base,VD,zb ⟨rfl,by omega,by omega⟩,eT'];exact zff (by omega)
   .dsimp only;rw [K.base,yK (by omega),D.bot,hc',hl1];rfl
   .dsimp only;rw [K.base,yK (fun e=>h1 e.symm)]
   .dsimp only;rw [hB,hl1];rfl
   .unfold YM;rw [zc (fun e=>by simp at e),zb (by simp)];rw [el];exact zKX _
  .have hsw:sw m d.Base d.T (d.T+1#64)=(m,false):=by unfold sw;rw [zc (fun e=>hs e.2.2)]
   rw [hsw];have hne:d.T.toNat≠t:=fun e=>hs (by rw [K.base,D.top];apply zLN;rw [Yn (by omega)];exact e.symm);have el:l=[]:=by cases l with | nil=>rfl | cons a l=>rw [zKM] at eT;omega
   refine ⟨t,l,c,D,fun _ _ _=>rfl,Dv.refl _ _,zKz _,.inl ⟨K.out,⟨k,K.base,K.size,K.out,⟨by dsimp only;simp,by dsimp only;simp⟩,fun e=>by simp at e,fun _=>hc',fun _=>hB,fun e=>by simp at e,fun e=>by simp at e,fun e=>by simp at e,fun e=>by simp at e,fun e=>by simp at e,fun _=>el⟩,?_⟩⟩;rw [uA (.inl (by simp)) (by simp),zKx]
 rw [zc p4];have hB:=K.b (.inr (.inr (.inl (by omega))));have el:=K.e5 (by omega);obtain ⟨D',hm⟩:=stb 0 d.B (by omega) (by rw [hB];rfl);by_cases p5:d.PC=5
 .rw [zb p5];exact ⟨t,l,0,D',hm,Dv.refl _ _,zKz _,.inr (.inr ⟨rfl,rfl,el,el,uA (.inl (by omega)) (by omega)⟩)⟩
 .rw [zc p5];refine ⟨t,l,0,D',hm,Dv.refl _ _,zKz _,.inr (.inl ⟨rfl,rfl,?_⟩)⟩;unfold YM;rw [zc (fun e=>p3 e.1),zb (show d.PC=6 by omega)]
theorem PK.stolen {p:zd}{m m':List (BitVec 64)}(h:zJ p) {w:Int}(hw:1<=w/\w<=p.Workers) {t c:Nat}{x:Int}{l:List Int}{d:zg}(K:PK p m w t (x::l) c d):PK p m' w (t+1) l c d:=by
 have e:t+(x::l).length=t+1+l.length:=by rw [zKM];omega
 refine ⟨K.kind,K.base,K.size,K.out,K.pc,K.c0,K.c1,fun q=>by rw [<-e];exact K.b q,K.c3,fun a b=>?_,fun a=>Nat.le_succ_of_le (K.t3 a),K.t4,fun a b=>?_,fun a=>?_⟩
 .have:=K.n3 a b;rw [e] at this;rw [zKM] at this;exact ⟨this.1,this.2.1,this.2.2.1,by omega⟩
 .have:=K.t3 (.inr a);omega
 .have:=K.e5 a;cases this
theorem DK.stolen {p:zd}{m m':List (BitVec 64)}{w:Int}{t c:Nat}{x:Int}{l:List Int}{d:zg}(K:DK p m w t (x::l) c d) (hm:∀a,a≠z6 p w->ld m' a=ld m a) (h:zJ p):DK p m' w (t+1) l c d:=by
 have e:t+(x::l).length=t+1+l.length:=by rw [zKM];omega
 refine ⟨K.kind,K.base,K.size,K.out,K.c0,K.pc,fun q=>by rw [<-e];exact K.b q,fun q=>by have:=K.r q;rw [zKM] at this;omega,fun q=>?_⟩;rw [<-e,hm _ (by unfold YL;omega)];exact K.x q
theorem PK.keep {p:zd}{m m':List (BitVec 64)}{w:Int}{t c:Nat}{l:List Int}{d:zg}(K:PK p m w t l c d):PK p m' w t l c d :=
 ⟨K.kind,K.base,K.size,K.out,K.pc,K.c0,K.c1,K.b,K.c3,K.n3,K.t3,K.t4,K.x4,K.e5⟩
theorem DK.keep {p:zd}(h:zJ p) {m m':List (BitVec 64)}{w:Int}{t c:Nat}{l:List Int}{d:zg}(K:DK p m w t l c d) (hm:∀a,z6 p w+1<a->a<z6 p w+p.Cap+2->ld m' a=ld m a):DK p m' w t l c d:=by
 have hc:=h.cap;have:=Nat.mod_lt (t+l.length) (show 0<p.Cap.toNat by omega);exact ⟨K.kind,K.base,K.size,K.out,K.c0,K.pc,K.b,K.r,fun q=>by rw [hm _ (by unfold YL;omega) (by unfold YL;omega)];exact K.x q⟩
theorem zzG {p:zd}(h:zJ p) {m:List (BitVec 64)}{w:Int}{t c:Nat}{l:List Int}{d:zg}(hw:1<=w/\w<=p.Workers) (hlen:yt p<=m.length) (D:DQ p m w t l c) (K:DK p m w t l c d) (hs:t+l.length+1<4294967296) (hX: -9223372036854775808<=d.X/\d.X<9223372036854775808) :
  (∀a,(a<z6 p w\/z6 p w+p.Cap+2<=a)->ld (xp m d).1 a=ld m a)/\(xp m d).2.X=d.X /\
  (((xp m d).2.Out=0/\DQ p (xp m d).1 w t l 0/\DK p (xp m d).1 w t l 0 (xp m d).2) \/
   ((xp m d).2.Out=3/\DQ p (xp m d).1 w t l 0) \/
   ((xp m d).2.Out=1/\DQ p (xp m d).1 w t (l++[d.X]) 0)):=by
 have hc:=h.cap;have hd:=Xe h hw.1 hw.2;have hf:=Yg h;have hmod:∀i,z6 p w+2<=YL p w i/\YL p w i<z6 p w+p.Cap+2:=fun i=>by
  have:=Nat.mod_lt i (show 0<p.Cap.toNat by omega);unfold YL;omega
 have hpc:=K.pc;have c00:=K.c0;subst c00;have ht1:=D.t1;have hsm:=D.small;have eb:wc (d.Base+1)=z6 p w+1:=by rw [K.base,xq]
 unfold xp;rw [zc (by have:=K.out;omega),eb];by_cases c0:d.PC=0
 .rw [zb c0];exact ⟨fun _ _=>rfl,rfl,.inl ⟨K.out,D,⟨K.kind,K.base,K.size,K.out,rfl,⟨by dsimp only;omega,by dsimp only;omega⟩,fun _=>D.bot,fun e=>by dsimp only at e;omega,fun e=>by dsimp only at e;omega⟩⟩⟩
 rw [zc c0];by_cases c1:d.PC=1
 .rw [zb c1];refine ⟨fun _ _=>rfl,by dsimp only;split<;>rfl,?_⟩;have hB:=K.b (by omega);have es:(uX d).toNat=p.Cap.toNat:=by
   unfold uX;rw [K.size,zk,zLo];omega
  have ed:(d.B-ld m d.Base).toNat=l.length:=by
   rw [hB,K.base,D.top,BitVec.toNat_sub,Yn (by omega),Yn (by omega)];omega
  split
  .right;left;exact ⟨rfl,D⟩
  .rename_i hlt;left;have hr:l.length<p.Cap.toNat:=by
    have: ¬(uX d).toNat<=(d.B-ld m d.Base).toNat:=fun e=>hlt (BitVec.le_def.2 e);omega
   exact ⟨K.out,D,⟨K.kind,K.base,K.size,K.out,rfl,⟨by dsimp only;omega,by dsimp only;omega⟩,fun _=>hB,fun _=>hr,fun e=>by dsimp only at e;omega⟩⟩
 rw [zc c1];have hB:=K.b (by omega);have hr:=K.r (by omega);by_cases c2:d.PC=2
 .rw [zb c2];have ep:XE d d.B=YL p w (t+l.length):=by rw [hB];exact ziI h hw K.base K.size (by omega)
  rw [ep];have hm:=hmod (t+l.length);refine ⟨fun a ha=>yK (by omega),rfl,.inl ⟨K.out,⟨?_,?_,D.c1,ht1,D.cap,D.small,fun i hi=>?_⟩,⟨K.kind,K.base,K.size,K.out,rfl,⟨by dsimp only;omega,by dsimp only;omega⟩,fun _=>hB,fun _=>hr,fun _=>?_⟩⟩⟩
  .dsimp only;rw [yK (by omega)];exact D.top
  .dsimp only;rw [yK (by omega)];exact D.bot
  .dsimp only;rw [yK (fun e=>zIu (t:=t) (i:=t+i) (n:=t+l.length) (c:=p.Cap.toNat) (by omega) (by omega) (by omega) (by unfold YL at e;omega))];exact D.cell i hi
  .dsimp only;rw [VD,zb ⟨rfl,by omega,by omega⟩,BitVec.toInt_ofInt,Int.bmod_def];omega
 .rw [zc c2];have hx:=K.x (by omega);refine ⟨fun a ha=>yK (by omega),rfl,.inr (.inr ⟨rfl,⟨?_,?_,by omega,ht1,?_,?_,fun i hi=>?_⟩⟩)⟩
  .dsimp only;rw [yK (by omega)];exact D.top
  .dsimp only;rw [VD,zb ⟨rfl,by omega,by omega⟩,hB,zKH];exact zff (by omega)
  .rw [zKH];show l.length+1<=_;omega
  .rw [zKH];show t+(l.length+1)<_;omega
  .dsimp only;have hi':i<l.length+1:=by rw [zKH] at hi;exact hi
   have hm:=hmod (t+i);rw [yK (by omega)];rcases zK5 i l.length with g | g
   .rw [zMm g];exact D.cell i g
   .have:i=l.length:=by omega
    subst this;rw [List.getElem_append_right (by omega)];simp only [Nat.sub_self,List.getElem_cons_zero];exact hx
def xU (h:BitVec 64):Nat:=h.toNat/4294967296
theorem zxp (v:BitVec 64) {n:Int}(h:0<=n) (h2:n<4294967296):(xR v n).toNat=(v.toNat%4294967296)*4294967296+n.toNat:=by
 unfold xR;have e3:(zMs 64 n).toNat&&&(4294967295#64).toNat=n.toNat:=by
  have:(zMs 64 n).toNat=n.toNat:=by rw [zLo];omega
  rw [this];exact (zMo n.toNat 32).trans (Nat.mod_eq_of_lt (by omega))
 rw [BitVec.toNat_or,zLz,e3,BitVec.toNat_shiftLeft];have h2':v.toNat <<< 32%2 ^ 64=(v.toNat%4294967296) <<< 32:=by rw [Nat.shiftLeft_eq,Nat.shiftLeft_eq];omega
 rw [h2',<-Nat.shiftLeft_add_eq_or_of_lt (show n.toNat<2 ^ 32 by omega),Nat.shiftLeft_eq]
theorem zAW (h:BitVec 64) {n:Int}(h1:0<=n) (h2:n<4294967296) (hv:xU h+1<4294967296):xU (xR ((h >>> 32)+1#64) n)=xU h+1:=by
 have e:((h >>> 32)+1#64).toNat=xU h+1:=by
  rw [BitVec.toNat_add,BitVec.toNat_ushiftRight,Nat.shiftRight_eq_div_pow];show (h.toNat/4294967296+1)%2 ^ 64=_;unfold xU at hv ⊢;omega
 unfold xU;rw [zxp _ h1 h2,e];unfold xU at hv ⊢;omega
def Chn (m:List (BitVec 64)) (N:Int) (nb:Nat):Int->List Int->Prop
 | h,[]=>h=0
 | h,x::l=>h=x/\1<=x/\x<nb/\Chn m N nb (ld m (N+x)).toInt l
theorem Chn.mem {m:List (BitVec 64)}{N:Int}{nb:Nat}:∀ {l:List Int}{h:Int},Chn m N nb h l->∀x∈l,1<=x/\x<nb
 | y::l,h,c,x,hx=>by
  rcases zKN.1 hx with rfl | hx
  .exact ⟨c.2.1,c.2.2.1⟩
  .exact Chn.mem c.2.2.2 x hx
theorem Chn.st {m:List (BitVec 64)}{N:Int}{nb:Nat}{a:Int}{v:BitVec 64}:∀ {l:List Int}{h:Int},Chn m N nb h l->(∀x∈l,a≠N+x)->Chn (st m a v) N nb h l
 | [],h,c,_=>c
 | y::l,h,c,hn=>⟨c.1,c.2.1,c.2.2.1,by
  rw [yK (hn y (by simp))];exact Chn.st c.2.2.2 (fun x hx=>hn x (zKA _ hx))⟩
theorem Chn.head {m:List (BitVec 64)}{N:Int}{nb:Nat}{l:List Int}{h:Int}(c:Chn m N nb h l) (hh:h≠0):∃t,l=h::t/\1<=h/\h<nb/\Chn m N nb (ld m (N+h)).toInt t:=by
 cases l with
 | nil=>exact zj c hh
 | cons x t =>
  obtain ⟨rfl,h1,h2,h3⟩:=c;exact ⟨t,rfl,h1,h2,h3⟩
theorem Chn.empty {m:List (BitVec 64)}{N:Int}{nb:Nat}{l:List Int}(c:Chn m N nb 0 l):l=[]:=by
 cases l with
 | nil=>rfl
 | cons x t=>have:=c.1;have:=c.2.1;omega
def zqj (nb:Nat):List Int:=(zMt (nb-1)).map (fun (i:Nat)=>(i:Int)+1)
theorem zuh (nb:Nat):(zqj nb).Nodup:=by
 unfold zqj;rw [List.Nodup,List.pairwise_map];exact List.nodup_range.imp (fun h e=>h (by omega))
theorem zsO {nb:Nat}{x:Int}:x∈zqj nb↔1<=x/\x<nb:=by
 unfold zqj;rw [zKE];constructor
 .rintro ⟨i,hi,rfl⟩;have:=zK6.1 hi;omega
 .rintro ⟨h1,h2⟩;exact ⟨(x-1).toNat,zK6.2 (by omega),by omega⟩
structure LI (p:zd) (nb:Nat) (m:List (BitVec 64)) (h1 h2:Int) (F E own:List Int):Prop where
 hs:(h1=yt p/\h2=zT p)\/(h1=zT p/\h2=yt p)
 cF:Chn m (zT p) nb (yE (ld m h1)) F
 cE:Chn m (zT p) nb (yE (ld m h2)) E
 all:zMu (F++E++own) (zqj nb)
 len:zT p+nb<=m.length
theorem LI.nodup {p:zd}{nb:Nat}{m:List (BitVec 64)}{h1 h2:Int}{F E own:List Int}(h:LI p nb m h1 h2 F E own):(F++E++own).Nodup:=h.all.nodup_iff.2 (zuh nb)
theorem LI.notF {p:zd}{nb:Nat}{m:List (BitVec 64)}{h1 h2:Int}{F E own:List Int}(h:LI p nb m h1 h2 F E own) {x:Int}(hx:x∈own):x∉F/\x∉E:=by
 have:=zLK.1 h.nodup;exact ⟨fun e=>this.2.2 x (zKO _ e) x hx rfl,fun e=>this.2.2 x (zK2 _ e) x hx rfl⟩
theorem LI.own_in {p:zd}{nb:Nat}{m:List (BitVec 64)}{h1 h2:Int}{F E own:List Int}(h:LI p nb m h1 h2 F E own) {x:Int}(hx:x∈own):1<=x/\x<nb:=zsO.1 (h.all.subset (zK2 _ hx))
structure CK (p:zd) (m:List (BitVec 64)) (c:zU):Prop where
 v:1<=c.PC->xU c.H<=xU (ld m c.Head)
 y:c.PC=2->c.Kind=2->ld m c.Head=c.H->c.Y=(ld m (zT p+yE c.H)).toInt
 l:c.PC=2->c.Kind=1->ld m (zT p+c.X)=zMs 64 (yE c.H)
structure Mv (p:zd) (nb:Nat) (X:List Int) (m m':List (BitVec 64)):Prop where
 hd:∀h,h=yt p\/h=zT p->xU (ld m h)<=xU (ld m' h)/\(ld m' h=ld m h\/xU (ld m h)<xU (ld m' h))
 nx:∀x:Int,1<=x->x<nb->x∉X->ld m' (zT p+x)=ld m (zT p+x)
theorem Mv.refl (p:zd) (nb:Nat) (X:List Int) (m:List (BitVec 64)):Mv p nb X m m:=⟨fun h _=>⟨zKz _,.inl rfl⟩,fun _ _ _ _=>rfl⟩
theorem CK.mv {p:zd}{nb:Nat}{m m':List (BitVec 64)}{h1 h2:Int}{F E own X:List Int}{c:zU}(k:CK p m c) (L:LI p nb m h1 h2 F E own) (M:Mv p nb X m m') (hX:∀x∈X,x∈own)
  (hh:c.Head=h1\/c.Head=h2) (hn:1<=c.PC->c.Kind=2->1<=yE c.H/\yE c.H<nb) (hx:c.Kind=1->1<=c.X/\c.X<nb/\c.X∉X):CK p m' c:=by
 obtain ⟨m1,m2⟩:=M.hd c.Head (by rcases L.hs with g | g<;>rcases hh with hh | hh<;>rw [hh]<;>simp [g]);refine ⟨fun h=>zLB (k.v h) m1,fun h2 hk e=>?_,fun h2 hk=>?_⟩
 .have hv:=k.v (by omega);have e':ld m c.Head=c.H:=by
   rcases m2 with m2 | m2
   .rw [<-m2];exact e
   .rw [e] at m2;omega
  obtain ⟨n1,n2⟩:=hn (by omega) hk;rw [M.nx _ n1 n2 (fun hmem=>?_)]
  .exact k.y h2 hk e'
  .obtain ⟨f1,f2⟩:=L.notF (hX _ hmem);rcases hh with hh | hh
   .obtain ⟨t,ht,_⟩:=L.cF.head (by rw [<-hh,e'];omega);rw [<-hh,e'] at ht;exact f1 (by rw [ht];simp)
   .obtain ⟨t,ht,_⟩:=L.cE.head (by rw [<-hh,e'];omega);rw [<-hh,e'] at ht;exact f2 (by rw [ht];simp)
 .obtain ⟨x1,x2,x3⟩:=hx hk;rw [M.nx _ x1 x2 x3];exact k.l h2 hk
theorem LI.swap {p:zd}{nb:Nat}{m:List (BitVec 64)}{h1 h2:Int}{F E own:List Int}(h:LI p nb m h1 h2 F E own):LI p nb m h2 h1 E F own :=
 ⟨h.hs.elim (fun g=>.inr ⟨g.2,g.1⟩) (fun g=>.inl ⟨g.2,g.1⟩),h.cE,h.cF,(zLm.append_right own).trans h.all,h.len⟩
theorem zsd {p:zd}(hp:zJ p) {m:List (BitVec 64)}{a x:Int}{v:BitVec 64}(ha:a=yt p\/a=zT p) (hx:1<=x):ld (st m a v) (zT p+x)=ld m (zT p+x):=by
 have:=ve hp;exact yK (by omega)
theorem Chn.st_head {p:zd}(hp:zJ p) {m:List (BitVec 64)}{nb:Nat}{a h:Int}{l:List Int}{v:BitVec 64}(ha:a=yt p\/a=zT p) (c:Chn m (zT p) nb h l):Chn (Go.Pe.G.st m a v) (zT p) nb h l:=by
 have:=ve hp;exact c.st (fun x hx=>by have:=(c.mem x hx).1;omega)
theorem Mv.head {p:zd}(hp:zJ p) {nb:Nat}{X:List Int}{m:List (BitVec 64)}{a:Int}{v:BitVec 64}(ha:a=yt p\/a=zT p) (hv:xU (ld m a)<xU v):Mv p nb X m (st m a v):=by
 refine ⟨fun h hh=>?_,fun x hx _ _=>zsd hp ha hx⟩;by_cases e:a=h
 .subst e;rw [VD];split
  .exact ⟨by omega,.inr hv⟩
  .exact ⟨zKz _,.inl rfl⟩
 .rw [yK e];exact ⟨zKz _,.inl rfl⟩
theorem zBJ {p:zd}(hp:zJ p) {nb:Nat}(hnb:nb<1000) {m:List (BitVec 64)}{h1 h2:Int}{F E own:List Int}(L:LI p nb m h1 h2 F E own) {c:zU}
  (hk:c.Kind=2) (hh:c.Head=h1) (hN:c.Next=zT p) (ho:c.Out=0) (hpc:0<=c.PC/\c.PC<=2) (K:CK p m c) (hn:1<=c.PC->1<=yE c.H/\yE c.H<nb) (hv:xU (ld m h1)+1<4294967296) :
  ((zC m c).1=m/\(zC m c).2.Out≠1/\((zC m c).2.Out=2->F=[])/\CK p m (zC m c).2) \/
  (∃x F',F=x::F'/\(zC m c).2.Out=1/\(zC m c).2.X=x/\LI p nb (zC m c).1 h1 h2 F' E (x::own)/\Mv p nb [] m (zC m c).1/\xU (ld (zC m c).1 h1)=xU (ld m h1)+1/\ld (zC m c).1 h2=ld m h2):=by
 have hE:=ve hp;have hF:=Yg hp;have hd:h1=yt p\/h1=zT p:=by rcases L.hs with g | g<;>simp [g]
 unfold zC;rw [zk];by_cases c0:c.PC=0
 .rw [zb c0];left;split
  .rename_i e;refine ⟨rfl,(by show (2:Int)≠1;decide),fun _=>?_,⟨fun _=>by rw [hh];exact zKz _,fun e2=>(by cases e2),fun e2=>(by cases e2)⟩⟩;have:=L.cF;rw [hh] at e;rw [e.2] at this;exact this.empty
  .refine ⟨rfl,by dsimp only;omega,fun e=>by dsimp only at e;omega,⟨fun _=>by rw [hh];exact zKz _,fun e2=>(by cases e2),fun e2=>(by cases e2)⟩⟩
 .rw [zc c0];by_cases c1:c.PC=1
  .rw [zb c1,zb hk];left;refine ⟨rfl,by dsimp only;omega,fun e=>by dsimp only at e;omega,⟨fun _=>K.v (by omega),fun _ _ _=>?_,fun _ e=>by dsimp only at e;omega⟩⟩;have:=hn (by omega);dsimp only;rw [hN,xq]
  .rw [zc c1];have c2:c.PC=2:=by omega
   simp only [zb hk];by_cases hs:0<=c.Head/\c.Head<m.length/\ld m c.Head=c.H
   .right;have n:=hn (by omega);have hsw:sw m c.Head c.H (xR (c.H >>> 32+1#64) c.Y)=(st m c.Head (xR (c.H >>> 32+1#64) c.Y),true):=by unfold sw;rw [zb hs]
    rw [hsw];have hc:=L.cF;rw [<-hh,hs.2.2] at hc;obtain ⟨t,ht,_,_,hct⟩:=hc.head (by omega);have hy:=K.y c2 hk hs.2.2;have hct':=hct;rw [<-hy] at hct';have y0:0<=c.Y/\c.Y<nb:=by
     cases t with
     | nil=>have e:c.Y=0:=hct';omega
     | cons z t=>have:=hct'.1;have:=hct'.2.1;have:=hct'.2.2.1;omega
    have vp:xU (xR (c.H >>> 32+1#64) c.Y)=xU c.H+1:=zAW c.H y0.1 (by omega) (by rw [<-hs.2.2,hh];exact hv);have hcH:xU c.H=xU (ld m h1):=by rw [<-hs.2.2,hh]
    have ld1:ld (st m h1 (xR (c.H >>> 32+1#64) c.Y)) h1=xR (c.H >>> 32+1#64) c.Y:=by rw [VD,zb ⟨rfl,by rw [<-hh];exact hs.1,by rw [<-hh];exact hs.2.1⟩]
    have h12:h1≠h2:=by rcases L.hs with g | g<;>omega
    refine ⟨yE c.H,t,ht,rfl,rfl,?_,?_,?_,?_⟩
    .rw [hh];refine ⟨L.hs,?_,?_,?_,by rw [YD];exact L.len⟩
     .rw [ld1,zfh _ y0.1 (by omega)];exact hct'.st_head hp hd
     .rw [yK h12];exact L.cE.st_head hp hd
     .refine List.Perm.trans ?_ L.all;rw [ht];show zMu (t++E++yE c.H::own) (yE c.H::(t++E++own));exact List.perm_middle
    .rw [hh];exact Mv.head hp hd (by rw [vp,hcH];omega)
    .rw [hh,ld1,vp,hcH]
    .rw [hh,yK h12]
   .left;have hsw:sw m c.Head c.H (xR (c.H >>> 32+1#64) c.Y)=(m,false):=by unfold sw;rw [zc hs]
    rw [hsw];refine ⟨rfl,by dsimp only;simp;omega,fun e=>by simp at e;omega,⟨fun e=>by simp at e,fun e=>by simp at e,fun e=>by simp at e⟩⟩
theorem zCA {n:Int}(h:0<=n) (h2:n<4294967296):(zMs 64 n).toInt=n:=toInt_ofInt h h2
theorem zpt {N a b:Int}(h:N+a=N+b):b=a:=by omega
theorem zzy {p:zd}(hp:zJ p) {nb:Nat}(hnb:nb<1000) {m:List (BitVec 64)}{h1 h2 b:Int}{F E o1 o2:List Int}(L:LI p nb m h1 h2 F E (o1++b::o2)) {c:zU}
  (hk:c.Kind=1) (hh:c.Head=h1) (hN:c.Next=zT p) (hX:c.X=b) (ho:c.Out=0) (hpc:0<=c.PC/\c.PC<=2) (K:CK p m c) (hn:1<=c.PC->yE c.H<nb) (hv:xU (ld m h1)+1<4294967296) :
  ((zC m c).2.Out=0/\LI p nb (zC m c).1 h1 h2 F E (o1++b::o2)/\Mv p nb [b] m (zC m c).1/\CK p (zC m c).1 (zC m c).2/\(∀a,a<=zT p->ld (zC m c).1 a=ld m a)) \/
  ((zC m c).2.Out=1/\LI p nb (zC m c).1 h1 h2 (b::F) E (o1++o2)/\Mv p nb [] m (zC m c).1/\xU (ld (zC m c).1 h1)=xU (ld m h1)+1/\(∀a,a<=zT p->a≠h1->ld (zC m c).1 a=ld m a)):=by
 have hE:=ve hp;have hF:=Yg hp;have hd:h1=yt p\/h1=zT p:=by rcases L.hs with g | g<;>simp [g]
 have hd2:h2=yt p\/h2=zT p:=by rcases L.hs with g | g<;>simp [g]
 have hb:1<=b/\b<nb:=L.own_in (zK2 _ (by simp));have hbn:=L.notF (x:=b) (zK2 _ (by simp));have hlen:=L.len;have hk2: ¬c.Kind=2:=by omega
 unfold zC;rw [zk];by_cases c0:c.PC=0
 .rw [zb c0,zc (fun e=>hk2 e.1)];left;exact ⟨ho,L,Mv.refl _ _ _ _,⟨fun _=>by rw [hh];exact zKz _,fun e2=>(by cases e2),fun e2=>(by cases e2)⟩,fun _ _=>rfl⟩
 .rw [zc c0];by_cases c1:c.PC=1
  .rw [zb c1,zc hk2];left;have nn:=zn8 c.H;have ea:wc (c.Next+c.X)=zT p+b:=by rw [hN,hX,xq]
   rw [ea];have hne:∀h,h=yt p\/h=zT p->ld (st m (zT p+b) (zMs 64 (yE c.H))) h=ld m h:=fun h hh=>yK (by omega);refine ⟨ho,⟨L.hs,?_,?_,L.all,by dsimp only;rw [YD];exact hlen⟩,⟨fun h hh=>?_,fun x x1 x2 x3=>?_⟩,⟨fun _=>?_,fun _ e=>zj e hk2,fun _ _=>?_⟩,fun a ha=>?_⟩
   .dsimp only;rw [hne _ hd];exact L.cF.st (fun x hx e=>hbn.1 (zpt e▸hx))
   .dsimp only;rw [hne _ hd2];exact L.cE.st (fun x hx e=>hbn.2 (zpt e▸hx))
   .dsimp only;rw [hne _ hh];exact ⟨zKz _,.inl rfl⟩
   .dsimp only;exact yK (fun e=>x3 (zLf.2 (zpt e)))
   .dsimp only;rw [hh,hne _ hd,<-hh];exact K.v (by omega)
   .dsimp only;rw [hX,VD,zb ⟨rfl,by omega,by omega⟩]
   .dsimp only;exact yK (by omega)
  .rw [zc c1];have c2:c.PC=2:=by omega
   simp only [zc hk2];by_cases hs:0<=c.Head/\c.Head<m.length/\ld m c.Head=c.H
   .right;have n:=hn (by omega);have nn:=zn8 c.H;have hsw:sw m c.Head c.H (xR (c.H >>> 32+1#64) c.X)=(st m c.Head (xR (c.H >>> 32+1#64) c.X),true):=by unfold sw;rw [zb hs]
    rw [hsw];have hl:=K.l c2 hk;rw [hX] at hl;have vp:xU (xR (c.H >>> 32+1#64) c.X)=xU c.H+1:=zAW c.H (by omega) (by omega) (by rw [<-hs.2.2,hh];exact hv);have hcH:xU c.H=xU (ld m h1):=by rw [<-hs.2.2,hh]
    have ld1:ld (st m h1 (xR (c.H >>> 32+1#64) c.X)) h1=xR (c.H >>> 32+1#64) c.X:=by rw [VD,zb ⟨rfl,by rw [<-hh];exact hs.1,by rw [<-hh];exact hs.2.1⟩]
    have h12:h1≠h2:=by rcases L.hs with g | g<;>omega
    refine ⟨rfl,?_,?_,?_,fun a ha hne=>?_⟩
    .rw [hh];refine ⟨L.hs,?_,?_,?_,by dsimp only;rw [YD];exact hlen⟩
     .dsimp only;rw [ld1,zfh _ (by omega) (by omega),hX];refine ⟨rfl,hb.1,hb.2,?_⟩;rw [zsd hp hd hb.1,hl,zCA nn.1 nn.2];have:=L.cF;rw [<-hh,hs.2.2] at this;rw [<-hX,<-hh] at *;exact this.st_head hp hd
     .dsimp only;rw [yK h12];exact L.cE.st_head hp hd
     .refine List.Perm.trans ?_ L.all;show zMu (b::(F++E++(o1++o2))) (F++E++(o1++b::o2));rw [<-zKD (F++E) o1 o2,<-zKD (F++E) o1 (b::o2)];exact List.perm_middle.symm
    .rw [hh];exact Mv.head hp hd (by rw [vp,hcH];omega)
    .rw [hh];dsimp only;rw [ld1,vp,hcH]
    .rw [hh];exact yK (fun e=>hne e.symm)
   .left;have hsw:sw m c.Head c.H (xR (c.H >>> 32+1#64) c.X)=(m,false):=by unfold sw;rw [zc hs]
    rw [hsw];exact ⟨ho,L,Mv.refl _ _ _ _,⟨fun e=>(by simp at e),fun e=>(by simp at e),fun e=>(by simp at e)⟩,fun _ _=>rfl⟩
structure Gh where
 F:List Int
 E:List Int
 D:Int->List Int
 t:Int->Nat
 c:Int->Nat
def yS (s:za) (b:Int):List Int:=(s.Bins[b.toNat]?).getD []
def yR (p:zd) (s:za) (g:Gh):List Int:=g.F.flatMap (yS s)++(zMt p.Workers.toNat).flatMap (fun i:Nat=>g.D ((i:Int)+1))
structure SX (p:zd) (nb:Nat) (s:za) (g:Gh) (own:List Int) (k:Nat):Prop where
 S:SOk p nb s
 L:LI p nb s.M (yt p) (zT p) g.F g.E own
 D:∀w,1<=w->w<=p.Workers->DQ p s.M w (g.t w) (g.D w) (g.c w)
 v:xU (ld s.M (yt p))<=k/\xU (ld s.M (zT p))<=k
 dk:∀w,1<=w->w<=p.Workers->g.t w+(g.D w).length<=k+1000
inductive DFr (p:zd) (m m':List (BitVec 64)) (g g':Gh) (w:Int):Prop
 | same (e1:g'.t w=g.t w) (e2:g'.D w=g.D w) (e3:g'.c w=g.c w) (e4:∀a,z6 p w<=a->a<z6 p w+p.Cap+2->ld m' a=ld m a):DFr p m m' g g' w
 | stolen (x:Int) (e1:g'.t w=g.t w+1) (e2:g.D w=x::g'.D w) (e3:g'.c w=g.c w) (e4:∀a,z6 p w<a->a<z6 p w+p.Cap+2->ld m' a=ld m a):DFr p m m' g g' w
structure FX (p:zd) (nb:Nat) (X:List Int) (O:Int->Prop) (s s':za) (g g':Gh):Prop where
 mv:Mv p nb X s.M s'.M
 bn:∀b,1<=b->b∉X->s'.Bins[b.toNat]? =s.Bins[b.toNat]?
 dq:∀w,1<=w->w<=p.Workers->DFr p s.M s'.M g g' w\/(O w/\Dv (g.t w) (g.D w) (g'.t w) (g'.D w))
 fb:∀y∈g'.F,y∈g.F\/yS s' y≠[]
theorem DFr.dv {p:zd}{m m':List (BitVec 64)}{g g':Gh}{w:Int}(h:DFr p m m' g g' w):Dv (g.t w) (g.D w) (g'.t w) (g'.D w):=by
 cases h with
 | same t l c m=>rw [t,l];exact Dv.refl _ _
 | stolen x t l c m=>exact ⟨by omega,fun e=>by omega⟩
theorem FX.dv {p:zd}{nb:Nat}{X:List Int}{O:Int->Prop}{s s':za}{g g':Gh}(h:FX p nb X O s s' g g') {w:Int}(h1:1<=w) (h2:w<=p.Workers):Dv (g.t w) (g.D w) (g'.t w) (g'.D w):=by
 rcases h.dq w h1 h2 with h | h
 .exact h.dv
 .exact h.2
theorem FX.tk {p:zd}{nb:Nat}{X:List Int}{O:Int->Prop}{s s':za}{g g':Gh}(h:FX p nb X O s s' g g') {w:Int}(h1:1<=w) (h2:w<=p.Workers) {d:zg}(K:TK p s.M w (g.t w) (g.D w) d):TK p s'.M w (g'.t w) (g'.D w) d:=K.dv (h.dv h1 h2)
theorem FX.pk {p:zd}(hp:zJ p) {nb:Nat}{X:List Int}{O:Int->Prop}{s s':za}{g g':Gh}(h:FX p nb X O s s' g g') {w:Int}(h1:1<=w) (h2:w<=p.Workers) (ho: ¬O w) {d:zg}(K:PK p s.M w (g.t w) (g.D w) (g.c w) d):PK p s'.M w (g'.t w) (g'.D w) (g'.c w) d:=by
 rcases h.dq w h1 h2 with h | h
 .cases h with
  | same t l c m=>rw [t,l,c];exact K.keep
  | stolen x t l c m=>rw [l] at K;rw [t,c];exact K.stolen hp ⟨h1,h2⟩
 .exact zj h.1 ho
theorem FX.dk {p:zd}(hp:zJ p) {nb:Nat}{X:List Int}{O:Int->Prop}{s s':za}{g g':Gh}(h:FX p nb X O s s' g g') {w:Int}(h1:1<=w) (h2:w<=p.Workers) (ho: ¬O w) {d:zg}(K:DK p s.M w (g.t w) (g.D w) (g.c w) d):DK p s'.M w (g'.t w) (g'.D w) (g'.c w) d:=by
 have hc:=hp.cap;rcases h.dq w h1 h2 with h | h
 .cases h with
  | same t l c m=>rw [t,l,c];exact K.keep hp (fun a h1 h2=>m a (by omega) h2)
  | stolen x t l c m =>
   rw [l] at K;have K':DK p s'.M w (g.t w) (x::g'.D w) (g.c w) d:=K.keep hp (fun a h1 h2=>m a (by omega) h2);rw [t,c];exact K'.stolen (m':=s'.M) (fun _ _=>rfl) hp
 .exact zj h.1 ho
def wV (g:zI):List Int:=if g.Out=0/\(g.PC=6\/g.PC=7) then [g.Bin] else []
def yF (g:zI):List Int:=if g.Out=0/\3<=g.PC/\g.PC<=7 then [g.Obj] else []
structure GX (p:zd) (s:za) (gh:Gh) (g:zI):Prop where
 o:g.Out=0\/g.Out=1
 pc:0<=g.PC/\g.PC<=7
 md:1<=g.Mode/\g.Mode<=3
 ob:1<=g.Obj/\g.Obj<=64
 c0:g.Mode=1->g.Out=0->gh.c g.Who=0
 c5:g.PC=5->g.Out=0->g.C.Out=0/\(0<=g.C.PC/\g.C.PC<=2)/\CK p s.M g.C
 c7:g.PC=7->g.Out=0->g.C.Out=0/\(0<=g.C.PC/\g.C.PC<=2)/\g.C.X=g.Bin/\CK p s.M g.C/\s.Bins[g.Bin.toNat]? =some [g.Obj]
 d3:g.PC=3->g.Out=0->g.Mode=1/\g.D.X=g.Obj/\DK p s.M g.Who (gh.t g.Who) (gh.D g.Who) (gh.c g.Who) g.D
theorem GX.other {p:zd}(hp:zJ p) {nb k:Nat}{s s':za}{gh gh':Gh}{X R:List Int}{O:Int->Prop}{o:zI}(Y:SX p nb s gh (X++R) k) (Fx:FX p nb X O s s' gh gh') (G:GX p s gh o) (M:MOk p nb o)
  (hR:∀x∈wV o,x∈R) (apart:o.Mode=1->¬O o.Who):GX p s' gh' o:=by
 have hsub:∀x∈X,x∈X++R:=fun x hx=>zKO _ hx;have hnd:=(zLK.1 Y.L.nodup).2.1;have hnot:∀x,x∈wV o->x∉X:=fun x hx hg=>(zLK.1 hnd).2.2 x hg x (hR x hx) rfl;refine ⟨G.o,G.pc,G.md,G.ob,fun h1 h0=>?_,fun h5 h0=>?_,fun h7 h0=>?_,fun h3 h0=>?_⟩
 .have hw:=M.who h1;rcases Fx.dq o.Who hw.1 hw.2 with h | h
  .cases h with
   | same t l c m=>rw [c];exact G.c0 h1 h0
   | stolen x t l c m=>rw [c];exact G.c0 h1 h0
  .exact zj h.1 (apart h1)
 .obtain ⟨a,b,c⟩:=G.c5 h5 h0;obtain ⟨m1,m2,m3,m4,m5⟩:=M.c5 h5;exact ⟨a,b,c.mv Y.L Fx.mv hsub (.inr m2) (fun h _=>m4 h) (fun e=>by omega)⟩
 .obtain ⟨a,b,c,d,e⟩:=G.c7 h7 h0;obtain ⟨m1,m2,m3,m4,m5⟩:=M.c7 h7;have hown:o.Bin∈wV o:=by unfold wV;rw [zb ⟨h0,.inr h7⟩];simp
  have hno:=hnot _ hown;exact ⟨a,b,c,d.mv Y.L Fx.mv hsub (.inl m2) (fun _ e=>by omega) (fun _=>⟨m4.1,m4.2,by rw [c];exact hno⟩),by rw [Fx.bn o.Bin (by rw [<-c];exact m4.1) hno];exact e⟩
 .obtain ⟨a,b,c⟩:=G.d3 h3 h0;have hw:=M.who a;exact ⟨a,b,Fx.dk hp hw.1 hw.2 (apart a) c⟩
theorem zdg (m:List (BitVec 64)) {c:zU}(h:c.Out=0) (hpc:0<=c.PC/\c.PC<=2) (hk:c.Kind=1\/c.Kind=2) :
  ((zC m c).2.Out=0/\0<=(zC m c).2.PC/\(zC m c).2.PC<=2)\/(zC m c).2.Out=1\/((zC m c).2.Out=2/\c.Kind=2):=by
 unfold zC;rw [zk];split
 .dsimp only;split
  .rename_i e;exact .inr (.inr ⟨rfl,e.1⟩)
  .exact .inl ⟨h,by show (0:Int)<=1;decide,by show (1:Int)<=2;decide⟩
 split
 .split<;>exact .inl ⟨h,by show (0:Int)<=2;decide,by show (2:Int)<=2;decide⟩
 .dsimp only;generalize sw m c.Head c.H _=r;split
  .split<;>exact .inr (.inl rfl)
  .exact .inl ⟨h,by show (0:Int)<=0;decide,by show (0:Int)<=2;decide⟩
theorem zot (m:List (BitVec 64)) (c:zU):(zC m c).2.Kind=c.Kind/\(zC m c).2.Head=c.Head/\(zC m c).2.Next=c.Next/\(c.Kind=1->(zC m c).2.X=c.X):=by
 unfold zC;split
 .exact ⟨rfl,rfl,rfl,fun _=>rfl⟩
 split
 .dsimp only;split<;>exact ⟨rfl,rfl,rfl,fun _=>rfl⟩
 split
 .split<;>exact ⟨rfl,rfl,rfl,fun _=>rfl⟩
 .dsimp only;generalize sw m c.Head c.H _=r;split
  .split
   .rename_i e;exact ⟨rfl,rfl,rfl,fun e2=>by omega⟩
   .exact ⟨rfl,rfl,rfl,fun _=>rfl⟩
  .exact ⟨rfl,rfl,rfl,fun _=>rfl⟩
theorem SX.quiet {p:zd}{nb k:Nat}{s s':za}{g:Gh}{own:List Int}(X:SX p nb s g own k) (S':SOk p nb s') (hm:s'.M=s.M):SX p nb s' g own (k+1) :=
 ⟨S',by rw [hm];exact X.L,by rw [hm];exact X.D,by rw [hm];exact ⟨Nat.le_succ_of_le X.v.1,Nat.le_succ_of_le X.v.2⟩,fun w h1 h2=>by have:=X.dk w h1 h2;omega⟩
theorem FX.quiet {p:zd}{nb:Nat}{X:List Int}{O:Int->Prop}{s s':za}{g:Gh}(hm:s'.M=s.M) (hb:∀b,1<=b->b∉X->s'.Bins[b.toNat]? =s.Bins[b.toNat]?):FX p nb X O s s' g g :=
 ⟨by rw [hm];exact Mv.refl _ _ _ _,hb,fun _ _ _=>.inl (.same rfl rfl rfl (fun _ _ _=>by rw [hm])),fun _ h=>.inl h⟩
theorem ZO {p:zd}{s s':za}{g:Gh}(hb:s'.Bins=s.Bins):yR p s' g=yR p s g:=by
 unfold yR yS;rw [hb]
theorem uh {g:zI}(h:g.Out≠0\/(g.PC≠6/\g.PC≠7)):wV g=[]:=by unfold wV;rw [zk]
theorem zmP {g:zI}(h:g.Out=0) (h2:g.PC=6\/g.PC=7):wV g=[g.Bin]:=by unfold wV;rw [zb ⟨h,h2⟩]
theorem Yi {g:zI}(h:g.Out≠0\/g.PC<3\/7<g.PC):yF g=[]:=by unfold yF;rw [zk]
theorem v9 {g:zI}(h:g.Out=0) (h2:3<=g.PC) (h3:g.PC<=7):yF g=[g.Obj]:=by unfold yF;rw [zb ⟨h,h2,h3⟩]
theorem GX.ask {p:zd}{s:za}{gh:Gh}{g:zI}(o:g.Out=0) (md:1<=g.Mode/\g.Mode<=3) (ob:1<=g.Obj/\g.Obj<=64) (c0:g.Mode=1->gh.c g.Who=0) (q:zd):GX p s gh (zga q g) :=
 ⟨.inl o,⟨by show (0:Int)<=5;decide,by show (5:Int)<=7;decide⟩,md,ob,fun h _=>c0 h,
  fun _ _=>⟨rfl,⟨by show (0:Int)<=0;decide,by show (0:Int)<=2;decide⟩,⟨fun e=>zj e (by show ¬(1:Int)<=0;decide),fun e=>zj e (by show ¬(0:Int)=2;decide),fun e=>zj e (by show ¬(0:Int)=2;decide)⟩⟩,
  fun e=>zj e (by show ¬(5:Int)=7;decide),fun e=>zj e (by show ¬(5:Int)=3;decide)⟩
theorem GX.plain {p:zd}{s:za}{gh:Gh}{g:zI}(o:g.Out=0\/g.Out=1) (pc:0<=g.PC/\g.PC<=7) (md:1<=g.Mode/\g.Mode<=3) (ob:1<=g.Obj/\g.Obj<=64) (c0:g.Mode=1->g.Out=0->gh.c g.Who=0) (h:g.Out≠0\/(g.PC≠3/\g.PC≠5/\g.PC≠7)):GX p s gh g :=
 ⟨o,pc,md,ob,c0,fun e e2=>by omega,fun e e2=>by omega,fun e e2=>by omega⟩
def zAp (g:zI) (w:Int):Prop:=g.Mode=1/\w=g.Who
def ztf (p:zd) (nb k:Nat) (R:List Int) (gh:Gh) (s:za) (g:zI) (s':za) (g':zI):Prop :=
 ∃gh',SX p nb s' gh' (wV g'++R) (k+1)/\GX p s' gh' g'/\FX p nb (wV g) (zAp g) s s' gh gh'/\(g.Mode=1->g.Out=0->gh'.c g.Who=0)/\(∀b∈gh'.F,b∈gh.F\/yS s' b≠[]) /\
  ∃N,zMu (yR p s' gh'++yF g') (N++(yR p s gh++yF g)) /\
   ((N=[]/\s'.T=s.T)\/(N=[g.Obj]/\¬(s.T.Marks|||bit g.Obj=s.T.Marks)/\s'.T={s.T with Marks:=s.T.Marks|||bit g.Obj}))
theorem ztf.quiet {p:zd}{nb k:Nat}{R:List Int}{gh:Gh}{s s':za}{g g':zI}(X:SX p nb s gh (wV g++R) k) (S':SOk p nb s') (hm:s'.M=s.M) (hb:s'.Bins=s.Bins) (hT:s'.T=s.T)
  (ho:wV g'=wV g) (hh:yF g'=yF g) (c0:g.Mode=1->g.Out=0->gh.c g.Who=0) (G':GX p s' gh g'):ztf p nb k R gh s g s' g' :=
 ⟨gh,by rw [ho];exact X.quiet S' hm,G',FX.quiet hm (fun _ _ _=>by rw [hb]),c0,fun _ h=>.inl h,[],by rw [ZO hb,hh];exact zKX _,.inl ⟨rfl,hT⟩⟩
theorem zsV (m:List (BitVec 64)) {c:zU}(hk:c.Kind=2) {a:Int}(ha:a≠c.Head):ld (zC m c).1 a=ld m a:=by
 unfold zC;split
 .rfl
 split
 .rfl
 split
 .rfl
 .dsimp only;unfold sw;split
  .exact yK (fun e=>ha e.symm)
  .rfl
theorem Chn.congr {m m':List (BitVec 64)}{N:Int}{nb:Nat}(hm:∀x:Int,1<=x->ld m' (N+x)=ld m (N+x)):∀ {l:List Int}{h:Int},Chn m N nb h l->Chn m' N nb h l
 | [],h,c=>c
 | y::l,h,c=>⟨c.1,c.2.1,c.2.2.1,by rw [hm y c.2.1];exact Chn.congr hm c.2.2.2⟩
theorem LI.low {p:zd}(hp:zJ p) {nb:Nat}{m m':List (BitVec 64)}{h1 h2:Int}{F E own:List Int}(L:LI p nb m h1 h2 F E own) (hl:m'.length=m.length) (hm:∀a,yt p<=a->ld m' a=ld m a):LI p nb m' h1 h2 F E own:=by
 have hE:=ve hp;have h:h1=yt p\/h1=zT p:=by rcases L.hs with g | g<;>simp [g]
 have h':h2=yt p\/h2=zT p:=by rcases L.hs with g | g<;>simp [g]
 exact ⟨L.hs,by rw [hm h1 (by omega)];exact L.cF.congr (fun x hx=>hm _ (by omega)),by rw [hm h2 (by omega)];exact L.cE.congr (fun x hx=>hm _ (by omega)),L.all,by rw [hl];exact L.len⟩
theorem Mv.low {p:zd}(hp:zJ p) {nb:Nat}{X:List Int}{m m':List (BitVec 64)}(hm:∀a,yt p<=a->ld m' a=ld m a):Mv p nb X m m':=by
 have hE:=ve hp;exact ⟨fun h hh=>by rw [hm h (by omega)];exact ⟨zKz _,.inl rfl⟩,fun x hx _ _=>hm _ (by omega)⟩
theorem zCS {p:zd}(hp:zJ p) {v w:Int}(hv:1<=v/\v<=p.Workers) (hw:1<=w/\w<=p.Workers) (h:v≠w):z6 p v+p.Cap+2<=z6 p w\/z6 p w+p.Cap+2<=z6 p v:=by
 have hk:=hp.wk;have hc:=hp.cap;have h1:=(Xe hp hv.1 hv.2).1;have h2:=(Xe hp hw.1 hw.2).1;have hx:v=1\/v=2\/v=3:=by omega
 have hy:w=1\/w=2\/w=3:=by omega
 rw [h1,h2];rcases hx with rfl | rfl | rfl<;>rcases hy with rfl | rfl | rfl<;>omega
theorem zxL {p:zd}(hp:zJ p) {w:Int}(hw:1<=w/\w<=p.Workers) {m m':List (BitVec 64)}(hm:∀a,(a<z6 p w\/z6 p w+p.Cap+2<=a)->ld m' a=ld m a):(∀a,yt p<=a->ld m' a=ld m a) /\
  ∀v,1<=v->v<=p.Workers->v≠w->∀a,z6 p v<=a->a<z6 p v+p.Cap+2->ld m' a=ld m a:=by
 have hd:=Xe hp hw.1 hw.2;refine ⟨fun a ha=>hm a (by omega),fun v h1 h2 hne a h3 h4=>hm a ?_⟩;have:=zCS hp ⟨h1,h2⟩ hw hne;omega
def VQ (g:Gh) (w:Int) (t:Nat) (l:List Int) (c:Nat):Gh:={g with D:=fun v=>if v=w then l else g.D v,t:=fun v=>if v=w then t else g.t v,c:=fun v=>if v=w then c else g.c v}
theorem XT {g:Gh}{w v:Int}{t c:Nat}{l:List Int}(h:v≠w):(VQ g w t l c).D v=g.D v/\(VQ g w t l c).t v=g.t v/\(VQ g w t l c).c v=g.c v:=by
 unfold VQ;dsimp only;rw [zc h,zc h,zc h];exact ⟨rfl,rfl,rfl⟩
theorem vi {g:Gh}{w:Int}{t c:Nat}{l:List Int}:(VQ g w t l c).D w=l/\(VQ g w t l c).t w=t/\(VQ g w t l c).c w=c:=by
 unfold VQ;dsimp only;rw [zb rfl,zb rfl,zb rfl];exact ⟨rfl,rfl,rfl⟩
theorem SX.dq {p:zd}(hp:zJ p) {nb k:Nat}{s s':za}{g:Gh}{own:List Int}(X:SX p nb s g own k) (S':SOk p nb s') (hl:s'.M.length=s.M.length) {w:Int}(hw:1<=w/\w<=p.Workers)
  (hm:∀a,(a<z6 p w\/z6 p w+p.Cap+2<=a)->ld s'.M a=ld s.M a) {t c:Nat}{l:List Int}(D:DQ p s'.M w t l c) (hk:t+l.length<=k+1+1000):SX p nb s' (VQ g w t l c) own (k+1):=by
 obtain ⟨h1,h2⟩:=zxL hp hw hm;have hE:=ve hp;refine ⟨S',X.L.low hp hl h1,fun v a b=>?_,?_,fun v a b=>?_⟩
 .by_cases e:v=w
  .subst e;rw [vi.1,vi.2.1,vi.2.2];exact D
  .rw [(XT e).1,(XT e).2.1,(XT e).2.2];exact (X.D v a b).keep hp (h2 v a b e)
 .rw [h1 _ (by omega),h1 _ (by omega)];exact ⟨Nat.le_succ_of_le X.v.1,Nat.le_succ_of_le X.v.2⟩
 .by_cases e:v=w
  .subst e;rw [vi.1,vi.2.1];exact hk
  .rw [(XT e).1,(XT e).2.1];have:=X.dk v a b;omega
theorem FX.own {p:zd}(hp:zJ p) {nb:Nat}{Y:List Int}{O:Int->Prop}{s s':za}{g:Gh}{w:Int}(hw:1<=w/\w<=p.Workers)
  (hm:∀a,(a<z6 p w\/z6 p w+p.Cap+2<=a)->ld s'.M a=ld s.M a) (hb:s'.Bins=s.Bins) {t c:Nat}{l:List Int}(hO:O w) (V:Dv (g.t w) (g.D w) t l):FX p nb Y O s s' g (VQ g w t l c):=by
 obtain ⟨h1,h2⟩:=zxL hp hw hm;refine ⟨Mv.low hp h1,fun b _ _=>by rw [hb],fun v a b=>?_,fun _ h=>.inl h⟩;by_cases e:v=w
 .subst e;right;rw [vi.1,vi.2.1];exact ⟨hO,V⟩
 .exact .inl (.same (XT e).2.1 (XT e).1 (XT e).2.2 (h2 v a b e))
theorem wW {α β:Type}{f g:α->List β}:∀ {l:List α},(∀x∈l,f x=g x)->l.flatMap f=l.flatMap g
 | [],_=>rfl
 | a::l,h=>by rw [zLl,zLl,h a (by simp),wW (fun x hx=>h x (zKA _ hx))]
theorem zCG {n:Nat}{i:Nat}(h:i<n):∃a b,zMt n=a++i::b/\i∉a/\i∉b:=by
 refine ⟨zMt i,(zMt (n-i-1)).map (fun j=>i+1+j),?_,by simp,by simp;omega⟩;have:n=i+(1+(n-i-1)):=by omega
 rw [this,List.range_add,List.range_add];simp [zLU,zLL,Function.comp_def]
theorem zsD {p:zd}{s s':za}{g:Gh}(hb:s'.Bins=s.Bins) {w:Int}(hw:1<=w/\w<=p.Workers) {t c:Nat}{l:List Int}:∃a b,yR p s g=a++g.D w++b/\yR p s' (VQ g w t l c)=a++l++b:=by
 obtain ⟨a,b,e,ha,hb'⟩:=zCG (n:=p.Workers.toNat) (i:=(w-1).toNat) (by omega);have ew:(((w-1).toNat:Nat):Int)+1=w:=by omega
 have ne:∀j:Nat,j≠(w-1).toNat->(j:Int)+1≠w:=fun j hj e=>hj (by omega);refine ⟨g.F.flatMap (yS s)++a.flatMap (fun i:Nat=>g.D ((i:Int)+1)),b.flatMap (fun i:Nat=>g.D ((i:Int)+1)),?_,?_⟩
 .unfold yR;rw [e,zLV,zLl,ew];simp [zKD]
 .unfold yR yS;rw [hb,e,zLV,zLl,ew,vi.1];have h1:a.flatMap (fun i:Nat=>(VQ g w t l c).D ((i:Int)+1))=a.flatMap (fun i:Nat=>g.D ((i:Int)+1)):=by
   refine wW (fun j hj=>?_);exact (XT (ne j (fun e=>ha (e▸hj)))).1
  have h2:b.flatMap (fun i:Nat=>(VQ g w t l c).D ((i:Int)+1))=b.flatMap (fun i:Nat=>g.D ((i:Int)+1)):=by
   refine wW (fun j hj=>?_);exact (XT (ne j (fun e=>hb' (e▸hj)))).1
  rw [h1,h2];have hF:(VQ g w t l c).F=g.F:=rfl;rw [hF];simp [zKD]
theorem Mv.weak {p:zd}{nb:Nat}{m m':List (BitVec 64)}(M:Mv p nb [] m m') (Y:List Int):Mv p nb Y m m':=⟨M.hd,fun x a b _=>M.nx x a b (by simp)⟩
theorem Mv.grow {p:zd}{nb:Nat}{X Y:List Int}{m m':List (BitVec 64)}(M:Mv p nb X m m') (h:∀x∈X,x∈Y):Mv p nb Y m m':=⟨M.hd,fun x a b c=>M.nx x a b (fun e=>c (h x e))⟩
theorem SX.chain {p:zd}(hp:zJ p) {nb k:Nat}{s s':za}{g:Gh}{own own' F E:List Int}(X:SX p nb s g own k) (S':SOk p nb s') (hlow:∀a,a<yt p->ld s'.M a=ld s.M a) (L':LI p nb s'.M (yt p) (zT p) F E own')
  (hv:xU (ld s'.M (yt p))<=k+1/\xU (ld s'.M (zT p))<=k+1):SX p nb s' {g with F:=F,E:=E} own' (k+1) :=
 ⟨S',L',fun w h1 h2=>(X.D w h1 h2).keep hp (fun a h3 h4=>hlow a (by have:=Xe hp h1 h2;omega)),hv,fun w h1 h2=>by have:=X.dk w h1 h2;show g.t w+(g.D w).length<=_;omega⟩
theorem FX.chain {p:zd}(hp:zJ p) {nb:Nat}{Y:List Int}{O:Int->Prop}{s s':za}{g:Gh}{F E:List Int}(M:Mv p nb Y s.M s'.M) (hb:s'.Bins=s.Bins) (hlow:∀a,a<yt p->ld s'.M a=ld s.M a) (hF:∀y∈F,y∈g.F\/yS s' y≠[]):FX p nb Y O s s' g {g with F:=F,E:=E} :=
 ⟨M,fun _ _ _=>by rw [hb],fun w h1 h2=>.inl (.same rfl rfl rfl (fun a h3 h4=>hlow a (by have:=Xe hp h1 h2;omega))),hF⟩
theorem SX.popE {p:zd}(hp:zJ p) {nb k:Nat}{s:za}{g:Gh}{own:List Int}(X:SX p nb s g own k) (hk:k<4294960000) {c:zU}(kd:c.Kind=2) (hh:c.Head=zT p) (hN:c.Next=zT p) (ho:c.Out=0) (hpc:0<=c.PC/\c.PC<=2) (K:CK p s.M c)
  (hn:1<=c.PC->1<=yE c.H/\yE c.H<nb) (S':SOk p nb {s with M:=(zC s.M c).1}) :
  ((zC s.M c).1=s.M/\(zC s.M c).2.Out≠1/\CK p s.M (zC s.M c).2/\((zC s.M c).2.Out=2->g.E=[])) \/
  (∃x l,g.E=x::l/\(zC s.M c).2.Out=1/\(zC s.M c).2.X=x/\SX p nb {s with M:=(zC s.M c).1} {g with E:=l} (x::own) (k+1)/\∀Y O,FX p nb Y O s {s with M:=(zC s.M c).1} g {g with E:=l}):=by
 have hE:=ve hp;have hnb:=X.S.nbk;have hv:=X.v;have hcells:=fun a (ha:a≠c.Head)=>zsV s.M kd ha;rcases zBJ hp hnb.2 (L:=X.L.swap) kd hh hN ho hpc K hn (by omega) with ⟨a,b,e,d⟩ | ⟨x,l,a,b,e,d,f,v1,v2⟩
 .exact .inl ⟨a,b,d,e⟩
 .refine .inr ⟨x,l,a,b,e,X.chain hp S' (fun a ha=>hcells a (by omega)) d.swap ?_,fun Y O=>FX.chain hp (f.weak Y) rfl (fun a ha=>hcells a (by omega)) (fun _ h=>.inl h)⟩;rw [v2,v1];omega
theorem SX.popF {p:zd}(hp:zJ p) {nb k:Nat}{s:za}{g:Gh}{own:List Int}(X:SX p nb s g own k) (hk:k<4294960000) {c:zU}(kd:c.Kind=2) (hh:c.Head=yt p) (hN:c.Next=zT p) (ho:c.Out=0) (hpc:0<=c.PC/\c.PC<=2) (K:CK p s.M c)
  (hn:1<=c.PC->1<=yE c.H/\yE c.H<nb) (S':SOk p nb {s with M:=(zC s.M c).1}) :
  ((zC s.M c).1=s.M/\(zC s.M c).2.Out≠1/\CK p s.M (zC s.M c).2/\((zC s.M c).2.Out=2->g.F=[])) \/
  (∃x l,g.F=x::l/\(zC s.M c).2.Out=1/\(zC s.M c).2.X=x/\SX p nb {s with M:=(zC s.M c).1} {g with F:=l} (x::own) (k+1)/\∀Y O,FX p nb Y O s {s with M:=(zC s.M c).1} g {g with F:=l}):=by
 have hE:=ve hp;have hnb:=X.S.nbk;have hv:=X.v;have hcells:=fun a (ha:a≠c.Head)=>zsV s.M kd ha;rcases zBJ hp hnb.2 (L:=X.L) kd hh hN ho hpc K hn (by omega) with ⟨a,b,e,d⟩ | ⟨x,l,a,b,e,d,f,v1,v2⟩
 .exact .inl ⟨a,b,d,e⟩
 .refine .inr ⟨x,l,a,b,e,X.chain hp S' (fun a ha=>hcells a (by omega)) d ?_,fun Y O=>FX.chain hp (f.weak Y) rfl (fun a ha=>hcells a (by omega)) (fun y hy=>.inl (by rw [a];exact zKA _ hy))⟩;rw [v2,v1];omega
theorem SX.pushF {p:zd}(hp:zJ p) {nb k:Nat}{s:za}{g:Gh}{o1 o2:List Int}{b:Int}(X:SX p nb s g (o1++b::o2) k) (hk:k<4294960000) {c:zU}(kd:c.Kind=1) (hh:c.Head=yt p) (hN:c.Next=zT p) (hX:c.X=b) (ho:c.Out=0) (hpc:0<=c.PC/\c.PC<=2) (K:CK p s.M c)
  (hn:1<=c.PC->yE c.H<nb) (S':SOk p nb {s with M:=(zC s.M c).1}) :
  ((zC s.M c).2.Out=0/\SX p nb {s with M:=(zC s.M c).1} g (o1++b::o2) (k+1)/\CK p (zC s.M c).1 (zC s.M c).2/\(∀Y O,b∈Y->FX p nb Y O s {s with M:=(zC s.M c).1} g g)) \/
  ((zC s.M c).2.Out=1/\SX p nb {s with M:=(zC s.M c).1} {g with F:=b::g.F} (o1++o2) (k+1)/\(∀Y O,yS s b≠[]->FX p nb Y O s {s with M:=(zC s.M c).1} g {g with F:=b::g.F})):=by
 have hE:=ve hp;have hnb:=X.S.nbk;have hv:=X.v;rcases zzy hp hnb.2 (L:=X.L) kd hh hN hX ho hpc K hn (by omega) with ⟨a,l,d,e,f⟩ | ⟨a,l,d,e,f⟩
 .refine .inl ⟨a,X.chain hp S' (fun a ha=>f a (by omega)) l ?_,e,fun Y O hb=>FX.chain hp (d.grow (fun x hx=>by rw [zLf.1 hx];exact hb)) rfl (fun a ha=>f a (by omega)) (fun _ h=>.inl h)⟩;show xU (ld (zC s.M c).1 (yt p))<=_/\xU (ld (zC s.M c).1 (zT p))<=_;rw [f _ (by omega),f _ (by omega)];omega
 .refine .inr ⟨a,X.chain hp S' (fun a ha=>f a (by omega) (by omega)) l ?_,fun Y O hb=>FX.chain hp (d.weak Y) rfl (fun a ha=>f a (by omega) (by omega)) (fun y hy=>(zKN.1 hy).elim (fun e=>.inr (by rw [e];exact hb)) .inl)⟩;show xU (ld (zC s.M c).1 (yt p))<=_/\xU (ld (zC s.M c).1 (zT p))<=_;have f':=f (zT p) (by omega) (by omega);rw [f'];omega
theorem SX.pushE {p:zd}(hp:zJ p) {nb k:Nat}{s:za}{g:Gh}{o1 o2:List Int}{b:Int}(X:SX p nb s g (o1++b::o2) k) (hk:k<4294960000) {c:zU}(kd:c.Kind=1) (hh:c.Head=zT p) (hN:c.Next=zT p) (hX:c.X=b) (ho:c.Out=0) (hpc:0<=c.PC/\c.PC<=2) (K:CK p s.M c)
  (hn:1<=c.PC->yE c.H<nb) (S':SOk p nb {s with M:=(zC s.M c).1}) :
  ((zC s.M c).2.Out=0/\SX p nb {s with M:=(zC s.M c).1} g (o1++b::o2) (k+1)/\CK p (zC s.M c).1 (zC s.M c).2/\(∀Y O,b∈Y->FX p nb Y O s {s with M:=(zC s.M c).1} g g)) \/
  ((zC s.M c).2.Out=1/\SX p nb {s with M:=(zC s.M c).1} {g with E:=b::g.E} (o1++o2) (k+1)/\(∀Y O,FX p nb Y O s {s with M:=(zC s.M c).1} g {g with E:=b::g.E})):=by
 have hE:=ve hp;have hnb:=X.S.nbk;have hv:=X.v;rcases zzy hp hnb.2 (L:=X.L.swap) kd hh hN hX ho hpc K hn (by omega) with ⟨a,l,d,e,f⟩ | ⟨a,l,d,e,f⟩
 .refine .inl ⟨a,X.chain hp S' (fun a ha=>f a (by omega)) l.swap ?_,e,fun Y O hb=>FX.chain hp (d.grow (fun x hx=>by rw [zLf.1 hx];exact hb)) rfl (fun a ha=>f a (by omega)) (fun _ h=>.inl h)⟩;show xU (ld (zC s.M c).1 (yt p))<=_/\xU (ld (zC s.M c).1 (zT p))<=_;rw [f _ (by omega),f _ (by omega)];omega
 .refine .inr ⟨a,X.chain hp S' (fun a ha=>f a (by omega) (by omega)) l.swap ?_,fun Y O=>FX.chain hp (d.weak Y) rfl (fun a ha=>f a (by omega) (by omega)) (fun _ h=>.inl h)⟩;show xU (ld (zC s.M c).1 (yt p))<=_/\xU (ld (zC s.M c).1 (zT p))<=_;have f':=f (yt p) (by omega) (by omega);rw [f'];omega
theorem zJ4 {p:zd}{s:za}{g:Gh}{b:Int}:yR p s {g with F:=b::g.F}=yS s b++yR p s g:=by
 unfold yR;simp [zKD]
theorem zKe {p:zd}{s:za}{g:Gh}{l:List Int}:yR p s {g with E:=l}=yR p s g:=rfl
theorem zHZ {l:List Int}{t:Nat}{x:Int}:Dv t l t (l++[x]):=⟨zKz _,fun _ h=>⟨by simp,by cases l with | nil=>exact zj rfl h | cons a l=>rfl⟩⟩
theorem zE1 {p:zd}(hp:zJ p) {nb k:Nat}{R:List Int}{gh:Gh}{s:za}{g:zI}(hk:k<4294960000) (X:SX p nb s gh (wV g++R) k) (M:MOk p nb g) (h5o:g.PC=5->g.C.Out≠1) (G:GX p s gh g) :
  ztf p nb k R gh s g (zF s g).1 (zF s g).2:=by
 have S':=(zs8 hp X.S M h5o).1;have hP:=X.S.P;have hpc:=G.pc;have hmd:=G.md;have hob:=G.ob;revert S';unfold zF;by_cases h0:g.Out=0;rotate_left
 .rw [zb (.inl h0)];intro S';exact .quiet X S' rfl rfl rfl rfl rfl G.c0 G
 rw [zk];have hc0:g.Mode=1->gh.c g.Who=0:=fun h=>G.c0 h h0;by_cases p7:g.PC=7
 .rw [zb p7];obtain ⟨c1,c2,c3,c4,c5⟩:=G.c7 p7 h0;obtain ⟨m1,m2,m3,m4,m5⟩:=M.c7 p7;have eo:wV g=[g.Bin]:=zmP h0 (.inr p7);have eh:yF g=[g.Obj]:=v9 h0 (by omega) (by omega);rw [eo] at X;intro S';have S':SOk p nb {s with M:=(zC s.M g.C).1}:=S';unfold zcY;dsimp only;rcases SX.pushF hp (o1:=[]) (o2:=R) (b:=g.Bin) X hk m1 m2 m3 c3 c1 c2 c4 m5 S' with ⟨a,b,c,d⟩ | ⟨a,b,d⟩
  .rw [a];rw [zc (by decide)];have hout:=zdg s.M c1 c2 (.inl m1);have hsame:=zot s.M g.C;have hpc':0<=(zC s.M g.C).2.PC/\(zC s.M g.C).2.PC<=2:=by omega
   refine ⟨gh,by rw [show wV {g with C:=(zC s.M g.C).2}=[g.Bin] from zmP h0 (.inr p7)];exact b,?_,by rw [eo];exact d _ _ (by simp),fun h _=>hc0 h,fun _ h=>.inl h,[],?_,.inl ⟨rfl,rfl⟩⟩
   .exact ⟨.inl h0,hpc,hmd,hob,fun h _=>hc0 h,fun e=>by have e:g.PC=5:=e;omega,fun _ _=>⟨a,hpc',(hsame.2.2.2 m1).trans c3,c,c5⟩,fun e=>by have e:g.PC=3:=e;omega⟩
   .rw [ZO rfl,show yF {g with C:=(zC s.M g.C).2}=[g.Obj] from v9 h0 (by show (3:Int)<=g.PC;omega) (by show g.PC<=7;omega),eh];exact zKX _
  .rw [a,zb rfl];have e1:wV {g with C:=(zC s.M g.C).2,Out:=1}=[]:=uh (.inl (by show (1:Int)≠0;decide));have e2:yF {g with C:=(zC s.M g.C).2,Out:=1}=[]:=Yi (.inl (by show (1:Int)≠0;decide));refine ⟨{gh with F:=g.Bin::gh.F},by rw [e1];exact b,?_,by rw [eo];exact d _ _ (by unfold yS;rw [c5];exact List.cons_ne_nil _ _),fun h _=>hc0 h,fun y hy=>(zKN.1 hy).elim (fun e=>.inr (by rw [e];unfold yS;rw [show ({s with M:=(zC s.M g.C).1}:za).Bins=s.Bins from rfl,c5];exact List.cons_ne_nil _ _)) .inl,[],?_,.inl ⟨rfl,rfl⟩⟩
   .exact GX.plain (.inr rfl) hpc hmd hob (fun _ e=>by cases e) (.inl (by show (1:Int)≠0;decide))
   .rw [e2,eh,zJ4,ZO rfl,zKx];have:yS {s with M:=(zC s.M g.C).1} g.Bin=[g.Obj]:=by unfold yS;rw [show ({s with M:=(zC s.M g.C).1}:za).Bins=s.Bins from rfl,c5];rfl
    rw [this];exact zLm
 rw [zc p7];by_cases p6:g.PC=6
 .rw [zb p6];have eo:wV g=[g.Bin]:=zmP h0 (.inl p6);have eh:yF g=[g.Obj]:=v9 h0 (by omega) (by omega);have hb:=M.b6 p6;have hbl:=X.S.bins;intro S';unfold zAm;unfold zAm at S';have e1:wV {g with PC:=7,C:=⟨1,0,yt s.P,zT s.P,0#64,g.Bin,0,0⟩}=[g.Bin]:=zmP h0 (.inr rfl);have hget:∀b,1<=b->b∉wV g->(s.Bins.set g.Bin.toNat [g.Obj])[b.toNat]? =s.Bins[b.toNat]? :=fun b b1 b2=>by
   rw [zKP];intro e;rw [eo] at b2;exact b2 (by rw [show b=g.Bin by omega];simp)
  refine ⟨gh,by rw [e1,<-eo];exact X.quiet S' rfl,?_,FX.quiet rfl hget,fun h _=>hc0 h,fun _ h=>.inl h,[],?_,.inl ⟨rfl,rfl⟩⟩
  .refine ⟨.inl h0,⟨by show (0:Int)<=7;decide,by show (7:Int)<=7;decide⟩,hmd,hob,fun h _=>hc0 h,fun e=>zj e (by show ¬(7:Int)=5;decide),fun _ _=>⟨rfl,⟨by show (0:Int)<=0;decide,by show (0:Int)<=2;decide⟩,rfl,⟨fun e=>zj e (by show ¬(1:Int)<=0;decide),fun e=>zj e (by show ¬(0:Int)=2;decide),fun e=>zj e (by show ¬(0:Int)=2;decide)⟩,?_⟩,fun e=>zj e (by show ¬(7:Int)=3;decide)⟩;show (s.Bins.set g.Bin.toNat [g.Obj])[g.Bin.toNat]? =_;rw [zLb (by omega)]
  .rw [show yF {g with PC:=7,C:=⟨1,0,yt s.P,zT s.P,0#64,g.Bin,0,0⟩}=[g.Obj] from v9 h0 (by show (3:Int)<=7;decide) (by show (7:Int)<=7;decide),eh];have:yR p {s with Bins:=s.Bins.set g.Bin.toNat [g.Obj]} gh=yR p s gh:=by
    unfold yR;congr 1;refine wW (fun b hb=>?_);have hm:=X.L.cF.mem b hb;have hno:=(X.L.notF (x:=g.Bin) (by rw [eo];simp)).1;unfold yS;rw [show ({s with Bins:=s.Bins.set g.Bin.toNat [g.Obj]}:za).Bins=s.Bins.set g.Bin.toNat [g.Obj] from rfl,hget b hm.1 (by rw [eo];intro e;rw [zLf.1 e] at hb;exact hno hb)]
   rw [this];exact zKX _
 rw [zc p6];have eo:wV g=[]:=uh (.inr ⟨p6,p7⟩);by_cases p5:g.PC=5
 .rw [zb p5];obtain ⟨c1,c2,c3⟩:=G.c5 p5 h0;obtain ⟨m1,m2,m3,m4,m5⟩:=M.c5 p5;have eh:yF g=[g.Obj]:=v9 h0 (by omega) (by omega);intro S';have S':SOk p nb {s with M:=(zC s.M g.C).1}:=S';unfold zkZ;dsimp only;rcases SX.popE hp X hk m1 m2 m3 c1 c2 c3 m4 S' with ⟨a,b,c,d⟩ | ⟨x,l,a,b,c,d,e⟩
  .rw [zc b];have hout:=zdg s.M c1 c2 (.inr m1);by_cases o2:(zC s.M g.C).2.Out=2
   .rw [zb o2];refine .quiet X S' a rfl rfl ?_ ?_ G.c0 (GX.ask h0 hmd hob hc0 _)
    .rw [eo];exact uh (.inr ⟨by show (5:Int)≠6;decide,by show (5:Int)≠7;decide⟩)
    .rw [eh];exact v9 h0 (by show (3:Int)<=5;decide) (by show (5:Int)<=7;decide)
   .rw [zc o2];have hpc':(zC s.M g.C).2.Out=0/\0<=(zC s.M g.C).2.PC/\(zC s.M g.C).2.PC<=2:=by omega
    refine .quiet X S' a rfl rfl ?_ ?_ G.c0 ⟨.inl h0,hpc,hmd,hob,G.c0,fun _ _=>⟨hpc'.1,hpc'.2,by rw [show ({s with M:=(zC s.M g.C).1}:za).M=s.M from a];exact c⟩,fun e=>by have e:g.PC=7:=e;omega,fun e=>by have e:g.PC=3:=e;omega⟩
    .rw [eo];exact uh (.inr ⟨p6,p7⟩)
    .rw [eh];exact v9 h0 (by show (3:Int)<=g.PC;omega) (by show g.PC<=7;omega)
  .rw [zb b];have e1:wV {g with PC:=6,C:=(zC s.M g.C).2,Bin:=(zC s.M g.C).2.X}=[x]:=by rw [<-c];exact zmP (g:={g with PC:=6,C:=(zC s.M g.C).2,Bin:=(zC s.M g.C).2.X}) h0 (.inl rfl)
   refine ⟨{gh with E:=l},by rw [e1];rw [eo] at d;exact d,?_,e _ _,fun h _=>hc0 h,fun _ h=>.inl h,[],?_,.inl ⟨rfl,rfl⟩⟩
   .exact GX.plain (.inl h0) ⟨by show (0:Int)<=6;decide,by show (6:Int)<=7;decide⟩ hmd hob (fun h _=>hc0 h) (.inr ⟨by show (6:Int)≠3;decide,by show (6:Int)≠5;decide,by show (6:Int)≠7;decide⟩)
   .rw [zKe,ZO rfl,eh,show yF {g with PC:=6,C:=(zC s.M g.C).2,Bin:=(zC s.M g.C).2.X}=[g.Obj] from v9 h0 (by show (3:Int)<=6;decide) (by show (6:Int)<=7;decide)];exact zKX _
 rw [zc p5];by_cases p4:g.PC=4
 .rw [zb p4];intro S';refine .quiet X S' rfl rfl rfl ?_ ?_ G.c0 (GX.ask h0 hmd hob hc0 _)
  .rw [eo];exact uh (.inr ⟨by show (5:Int)≠6;decide,by show (5:Int)≠7;decide⟩)
  .rw [v9 h0 (by omega) (by omega)];exact v9 h0 (by show (3:Int)<=5;decide) (by show (5:Int)<=7;decide)
 rw [zc p4];by_cases p3:g.PC=3
 .rw [zb p3];obtain ⟨c1,c2,c3⟩:=G.d3 p3 h0;have hw:=M.who c1;have eh:yF g=[g.Obj]:=v9 h0 (by omega) (by omega);have hdk:=X.dk g.Who hw.1 hw.2;have hlen:=X.L.len;have hE:=ve hp;have hc00:=c3.c0;have c3':=c3;rw [hc00] at c3';have D0:=X.D g.Who hw.1 hw.2;rw [hc00] at D0;obtain ⟨a,b,r⟩:=zzG hp hw (by omega) D0 c3' (by omega) (by rw [c2];omega);intro S';have S':SOk p nb {s with M:=(xp s.M g.D).1}:=S';unfold zlf;dsimp only;rcases r with ⟨r1,r2,r3⟩ | ⟨r1,r2⟩ | ⟨r1,r2⟩
  .rw [r1,zc (by decide),zc (by decide)];have e1:wV {g with D:=(xp s.M g.D).2}=[]:=uh (.inr ⟨p6,p7⟩);refine ⟨VQ gh g.Who (gh.t g.Who) (gh.D g.Who) 0,?_,?_,FX.own (O:=zAp g) (s:=s) (s':={s with M:=(xp s.M g.D).1}) (g:=gh) hp hw a rfl ⟨c1,rfl⟩ (Dv.refl _ _),fun _ _=>vi.2.2,fun _ h=>.inl h,[],?_,.inl ⟨rfl,rfl⟩⟩
   .rw [e1];rw [eo] at X;exact X.dq hp S' (zkR _ _) hw a r2 (by omega)
   .refine ⟨.inl h0,hpc,hmd,hob,fun _ _=>vi.2.2,fun e=>by have e:g.PC=5:=e;omega,fun e=>by have e:g.PC=7:=e;omega,fun _ _=>⟨c1,b.trans c2,?_⟩⟩;show DK p (xp s.M g.D).1 g.Who ((VQ gh g.Who (gh.t g.Who) (gh.D g.Who) 0).t g.Who) _ _ _;rw [vi.1,vi.2.1,vi.2.2];exact r3
   .obtain ⟨u,v,f1,f2⟩:=zsD (p:=p) (s:=s) (s':={s with M:=(xp s.M g.D).1}) (g:=gh) rfl hw (t:=gh.t g.Who) (c:=0) (l:=gh.D g.Who);rw [f1,f2,eh,show yF {g with D:=(xp s.M g.D).2}=[g.Obj] from v9 h0 (by show (3:Int)<=g.PC;omega) (by show g.PC<=7;omega)];exact zKX _
  .rw [r1,zc (by decide),zb rfl];have e1:wV (zga s.P {g with D:=(xp s.M g.D).2})=[]:=uh (.inr ⟨by show (5:Int)≠6;decide,by show (5:Int)≠7;decide⟩);refine ⟨VQ gh g.Who (gh.t g.Who) (gh.D g.Who) 0,?_,?_,FX.own (O:=zAp g) (s:=s) (s':={s with M:=(xp s.M g.D).1}) (g:=gh) hp hw a rfl ⟨c1,rfl⟩ (Dv.refl _ _),fun _ _=>vi.2.2,fun _ h=>.inl h,[],?_,.inl ⟨rfl,rfl⟩⟩
   .rw [e1];rw [eo] at X;exact X.dq hp S' (zkR _ _) hw a r2 (by omega)
   .exact GX.ask (g:={g with D:=(xp s.M g.D).2}) h0 hmd hob (fun _=>vi.2.2) _
   .obtain ⟨u,v,f1,f2⟩:=zsD (p:=p) (s:=s) (s':={s with M:=(xp s.M g.D).1}) (g:=gh) rfl hw (t:=gh.t g.Who) (c:=0) (l:=gh.D g.Who);rw [f1,f2,eh,show yF (zga s.P {g with D:=(xp s.M g.D).2})=[g.Obj] from v9 h0 (by show (3:Int)<=5;decide) (by show (5:Int)<=7;decide)];exact zKX _
  .rw [r1,zb rfl];have e1:wV {g with D:=(xp s.M g.D).2,Out:=1}=[]:=uh (.inl (by show (1:Int)≠0;decide));refine ⟨VQ gh g.Who (gh.t g.Who) (gh.D g.Who++[g.D.X]) 0,?_,?_,FX.own (O:=zAp g) (s:=s) (s':={s with M:=(xp s.M g.D).1}) (g:=gh) hp hw a rfl ⟨c1,rfl⟩ zHZ,fun _ _=>vi.2.2,fun _ h=>.inl h,[],?_,.inl ⟨rfl,rfl⟩⟩
   .rw [e1];rw [eo] at X;exact X.dq hp S' (zkR _ _) hw a r2 (by rw [zKH,zMl];omega)
   .exact GX.plain (.inr rfl) hpc hmd hob (fun _ e=>by cases e) (.inl (by show (1:Int)≠0;decide))
   .obtain ⟨u,v,f1,f2⟩:=zsD (p:=p) (s:=s) (s':={s with M:=(xp s.M g.D).1}) (g:=gh) rfl hw (t:=gh.t g.Who) (c:=0) (l:=gh.D g.Who++[g.D.X]);rw [f1,f2,eh,show yF {g with D:=(xp s.M g.D).2,Out:=1}=[] from Yi (.inl (by show (1:Int)≠0;decide)),c2,zKx,zKG];simp only [zKD];refine zKK _ (zKK _ ?_);exact zLm
 rw [zc p3];by_cases p2:g.PC=2
 .rw [zb p2];intro S';refine .quiet X S' rfl rfl rfl ?_ ?_ G.c0 (GX.plain (.inr rfl) hpc hmd hob (fun _ e=>by cases e) (.inl (by show (1:Int)≠0;decide)))
  .rw [eo];exact uh (.inl (by show (1:Int)≠0;decide))
  .rw [Yi (g:=g) (.inr (.inl (by omega)))];exact Yi (.inl (by show (1:Int)≠0;decide))
 rw [zc p2];by_cases p1:g.PC=1
 .rw [zb p1];have eh:yF g=[]:=Yi (.inr (.inl (by omega)));intro S';unfold zli;unfold zli at S';dsimp only at S' ⊢;by_cases hs:(wv s.T g.Obj).2=false
  .have eT:(wv s.T g.Obj).1=s.T:=by
    unfold wv at hs ⊢;split at hs
    .rename_i h1;rw [zb h1]
    .rename_i h1;split at hs
     .cases hs
     .rename_i h2;rw [zc h1,zc h2]
   rw [zb hs];refine .quiet X S' rfl rfl eT ?_ ?_ G.c0 (GX.plain (.inl h0) ⟨by show (0:Int)<=2;decide,by show (2:Int)<=7;decide⟩ hmd hob G.c0 (.inr ⟨by show (2:Int)≠3;decide,by show (2:Int)≠5;decide,by show (2:Int)≠7;decide⟩))
   .rw [eo];exact uh (.inr ⟨by show (2:Int)≠6;decide,by show (2:Int)≠7;decide⟩)
   .rw [eh];exact Yi (.inr (.inl (by show (2:Int)<3;decide)))
  .have eT: ¬(s.T.Marks|||bit g.Obj=s.T.Marks)/\(wv s.T g.Obj).1={s.T with Marks:=s.T.Marks|||bit g.Obj}:=by
    unfold wv at hs ⊢;split at hs
    .exact zj rfl hs
    .rename_i h1;split at hs
     .rename_i h2;exact ⟨h1,by rw [zc h1,zb h2]⟩
     .exact zj rfl hs
   rw [zc hs];have fin:∀g':zI,wV g'=[]->yF g'=[g.Obj]->GX p {s with T:=(wv s.T g.Obj).1} gh g'->ztf p nb k R gh s g {s with T:=(wv s.T g.Obj).1} g':=fun g' a b c =>
    ⟨gh,by rw [a,<-eo];exact X.quiet S' rfl,c,FX.quiet rfl (fun _ _ _=>rfl),fun h _=>hc0 h,fun _ h=>.inl h,[g.Obj],by rw [ZO rfl,b,eh,zKx];exact zLm,.inr ⟨rfl,eT.1,eT.2⟩⟩
   by_cases q1:g.Mode=1
   .rw [zb q1];have hw:=M.who q1;refine fin _ (uh (.inr ⟨by show (3:Int)≠6;decide,by show (3:Int)≠7;decide⟩)) (v9 h0 (by show (3:Int)<=3;decide) (by show (3:Int)<=7;decide))
     ⟨.inl h0,⟨by show (0:Int)<=3;decide,by show (3:Int)<=7;decide⟩,hmd,hob,G.c0,fun e=>zj e (by show ¬(3:Int)=5;decide),fun e=>zj e (by show ¬(3:Int)=7;decide),fun _ _=>⟨q1,rfl,⟨rfl,by rw [hP],by rw [hP],rfl,hc0 q1,⟨by show (0:Int)<=0;decide,by show (0:Int)<=3;decide⟩,fun e=>zj e (by show ¬(1:Int)<=0;decide),fun e=>zj e (by show ¬(2:Int)<=0;decide),fun e=>zj e (by show ¬(3:Int)<=0;decide)⟩⟩⟩
   rw [zc q1];by_cases q2:g.Mode=2
   .rw [zb q2];exact fin _ (uh (.inr ⟨by show (4:Int)≠6;decide,by show (4:Int)≠7;decide⟩)) (v9 h0 (by show (3:Int)<=4;decide) (by show (4:Int)<=7;decide))
     (GX.plain (.inl h0) ⟨by show (0:Int)<=4;decide,by show (4:Int)<=7;decide⟩ hmd hob G.c0 (.inr ⟨by show (4:Int)≠3;decide,by show (4:Int)≠5;decide,by show (4:Int)≠7;decide⟩))
   .rw [zc q2];exact fin _ (uh (.inr ⟨by show (5:Int)≠6;decide,by show (5:Int)≠7;decide⟩)) (v9 h0 (by show (3:Int)<=5;decide) (by show (5:Int)<=7;decide)) (GX.ask h0 hmd hob hc0 _)
 .rw [zc p1];intro S';refine .quiet X S' rfl rfl rfl ?_ ?_ G.c0 (GX.plain (.inl h0) ⟨by show (0:Int)<=1;decide,by show (1:Int)<=7;decide⟩ hmd hob G.c0 (.inr ⟨by show (1:Int)≠3;decide,by show (1:Int)≠5;decide,by show (1:Int)≠7;decide⟩))
  .rw [eo];exact uh (.inr ⟨by show (1:Int)≠6;decide,by show (1:Int)≠7;decide⟩)
  .rw [Yi (g:=g) (.inr (.inl (by omega)))];exact Yi (.inr (.inl (by show (1:Int)<3;decide)))
end
end Go.Pe.G
