/- Own work of this seat: PA, PB, PMk, PMade20, PRight, PNew, PInv, PNewOk, PDq, PWork, PMut, PSmall, PEng, PLowEq, PMutEq, PDetEq, PWorkEq, PFrame, PGo, PEngEq, PPicks20, PFold, PSort, PDq2, PChain, PStrong, PGstep, PWstep, PBits. -/
import Derived.Test.YtohmajcohogajaaGreatDoorTFGb
import Derived.Test.YtohmajcohogajaaGreatDoorTFGa
set_option linter.unusedVariables false
set_option linter.unusedSimpArgs false
set_option linter.unnecessarySimpa false
set_option linter.unusedSectionVars false
set_option linter.deprecated false
set_option maxRecDepth 20000
open BitVec renaming toNat_ofInt → zKu, toNat_and → zKF, getLsbD_and → zKO, eq_of_toNat_eq → zKS, eq_of_getLsbD_eq → zK5, getLsbD_zero → zK6, toInt_eq_toNat_cond → zLb, getLsbD_not → zLg
open Bool renaming and_eq_true → zJB, not_true → zJQ, not_eq_true' → zJU, true_and → zKz, or_eq_true → zKI
open Int renaming toNat_natCast → zKi, le_refl → zKl
open List renaming getElem?_eq_getElem → zJC, getD_eq_getElem?_getD → zJD, append_nil → zJE, mem_of_getElem? → zJG, mem_cons_of_mem → zJI, append_assoc → zJJ, getElem?_eq_some_iff → zJK, nil_append → zJM, length_append → zJN, mem_map → zJO, length_cons → zJS, mem_cons → zJT, mem_append_left → zJV, mem_cons_self → zJW, getElem_mem → zJY, mem_append → zJZ, mem_range → zJ1, getElem?_append_left → zJ4, length_set → zJ6, mem_append_right → zJ7, getElem?_map → zJ8, getElem?_append_right → zJ9, getElem?_set_ne → zKc, length_replicate → zKf, drop_eq_getElem_cons → zKg, perm_append_comm_assoc → zKh, mem_singleton → zKm, mem_or_eq_of_mem_set → zKn, getElem?_set → zKo, eq_nil_of_length_eq_zero → zKp, foldl_cons → zKq, flatMap_cons → zKr, perm_append_comm → zKs, length_map → zKv, getElem?_cons_zero → zKE, getElem?_eq_none → zKH, length_take → zKK, length_filter_le → zKN, nodup_append → zKP, length_drop → zKR, pairwise_cons → zKT, take_add_one → zKU, getElem?_set_self → zKV, range_succ → zKY, flatMap_append → zKZ, getElem?_replicate → zK4, mem_of_mem_take → zK8, drop_eq_nil_of_le → zLa, take_length → zLf, length_singleton → zLr, getElem_append_left → zLs
open List.Perm renaming append_left → zJP, refl → zJ2
open Nat renaming le_refl → zJF, lt_or_ge → zKa, add_zero → zKj, mul_one → zKx, le_trans → zKG, add_assoc → zKQ, mul_le_mul → zK0, lt_of_le_of_lt → zLh, and_two_pow_sub_one_eq_mod → zLu
open Option renaming bind_some → zJA
namespace Go.Pe.G
open Go.Pe
noncomputable section
theorem wS {A B D:Type}{f:A->Option (yD A B D)}(Inv:A->Prop) (ms:A->Nat) (Q:yD Unit B D->Prop)
  (h:∀a,Inv a->∃o,f a=some o/\match o with
   | .again a'=>Inv a'/\ms a'<ms a
   | .brk b=>Q (.brk b)
   | .ret c=>Q (.ret c)):∀a,Inv a->ms a<vv->∃o,zX f a=some o/\Q o:=by
 have key:∀(n:Nat) a,Inv a->ms a<n->∃o,yK f n a=some o/\Q o:=by
  intro n
  induction n with
  | zero=>intro a _ h;omega
  | succ n ih =>
   intro a ha hm;obtain ⟨o,ho,hq⟩:=h a ha;simp only [yK,ho,zJA];cases o with
   | again a'=>exact ih a' hq.1 (by have:=hq.2;omega)
   | brk b=>exact ⟨_,rfl,hq⟩
   | ret c=>exact ⟨_,rfl,hq⟩
 intro a ha hm;rw [YI];exact key vv a ha hm
theorem vC {n:Nat}(h:n<18446744073709551616):n<vv:=h
theorem zU {a:Int}(h: -9223372036854775808<=a:=by omega) (h2:a<9223372036854775808:=by omega):w64 a=a:=by
 rw [zsA];omega
def wc (n:Int):Int:=(n+9223372036854775808)%18446744073709551616-9223372036854775808
theorem xC:w64=wc:=funext zsA
theorem yT {a:Int}(h: -9223372036854775808<=a:=by omega) (h2:a<9223372036854775808:=by omega):wc a=a:=by unfold wc;omega
theorem zo {α:Type}(p:Prop) [Decidable p] (a b:α):(bif decide p then a else b)=if p then a else b:=by
 by_cases h:p<;>simp [h]
theorem ya {α:Type}(p:Prop) [Decidable p] (a b:α):(bif !(decide p) then a else b)=if p then b else a:=by
 by_cases h:p<;>simp [h]
theorem yC {α:Type}{l:List α}(h:l.length<4294967296:=by omega):yq l=some l:=by
 rw [zuq];simp [h]
theorem vu {α:Type}{l:List α}{i:Int}(h:0<=i:=by omega):idx l i=l[i.toNat]? :=by
 unfold idx;simp [h]
theorem ve {α:Type}{l:List α}{i:Int}(h:0<=i:=by omega) (h2:i<l.length:=by omega):xM l i=some i.toNat:=by
 unfold xM;simp [h,h2]
def bit (o:Int):BitVec 64:=if 1<=o/\o<=64 then 1#64 <<< (o-1).toNat else 0#64
theorem zCP (a:Int):zns a=some (bit a,()):=by
 rw [zz2];simp only [zo];unfold bit;by_cases h1:a<1
 .rw [zb h1,zi]
 .rw [zc h1];by_cases h2:64<a
  .rw [zb h2,zi]
  .rw [zc h2,zU (a:=a-1) (by omega) (by omega),zc (show ¬a-1<0 by omega),zb (show 1<=a/\a<=64 by omega),Nat.min_eq_left (by omega)]
theorem zkN (s:BitVec 64) (o:Int):zb9 s o=some (!(decide (s&&&bit o=0#64)),()):=by
 rw [zBt,zCP];rfl
theorem zg3 (s:BitVec 64) (o:Int):Yw s o=some (s|||bit o,()):=by
 rw [zzN,zCP];rfl
def shade (t:zm) (o:Int):zm×Bool :=
 if t.Marks|||bit o=t.Marks then (t,false) else if t.Black&&&bit o=0#64 then ({t with Marks:=t.Marks|||bit o},true) else (t,false)
theorem zky (t:zm) (o:Int):zci t o=some ((shade t o).1,(shade t o).2,()):=by
 rw [zvv,zg3,zJA,zo];unfold shade;by_cases h1:t.Marks|||bit o=t.Marks
 .rw [zb h1,zb h1]
 .rw [zc h1,zc h1,zkN,zJA,ya];by_cases h2:t.Black&&&bit o=0#64
  .rw [zb h2,zb h2]
  .rw [zc h2,zc h2]
theorem zx2 {m:List (BitVec 64)}(h:m.length<4294967296):xW m=some (m,()):=by
 rw [zdN,zJM,yC h,zJA];cases m with
 | nil=>simp [zee]
 | cons a l=>simp
theorem zjV {m:List (List Int)}(h:m.length<4294967296):wW m=some (m,()):=by
 rw [zgS,zJM,yC h,zJA];cases m with
 | nil=>simp [zee]
 | cons a l=>simp
def ld (m:List (BitVec 64)) (a:Int):BitVec 64:=if 0<=a then m.getD a.toNat 0#64 else 0#64
def st (m:List (BitVec 64)) (a:Int) (v:BitVec 64):List (BitVec 64):=if 0<=a then m.set a.toNat v else m
def sw (m:List (BitVec 64)) (at_:Int) (a b:BitVec 64):List (BitVec 64)×Bool :=
 if 0<=at_/\at_<m.length/\ld m at_=a then (st m at_ b,true) else (m,false)
theorem zBv {m:List (BitVec 64)}{a:Int}(h:0<=a) (h2:a<m.length):m[a.toNat]? =some (ld m a):=by
 unfold ld;rw [zb h,zJD,zJC (by omega)];rfl
theorem zCI {m:List (BitVec 64)}{a:Int}:st m a (ld m a)=m:=by
 unfold st ld;by_cases h:0<=a
 .rw [zb h,zb h];by_cases h2:a.toNat<m.length
  .rw [zJD,zJC h2];simp
  .rw [List.set_eq_of_length_le (by omega)]
 .rw [zc h]
theorem zEI {m:List (BitVec 64)}{a:Int}(h:a<0\/m.length<=a):ld m a=0#64:=by
 unfold ld;rcases h with h | h
 .rw [zi]
 .split
  .rw [zJD,zKH (by omega)];rfl
  .rfl
theorem zFT {m:List (BitVec 64)}{a:Int}{v:BitVec 64}(h:a<0\/m.length<=a):st m a v=m:=by
 unfold st;rcases h with h | h
 .rw [zi]
 .split
  .rw [List.set_eq_of_length_le (by omega)]
  .rfl
theorem zwV (m:List (BitVec 64)) (a:Int) (x y:BitVec 64):∃b,XC m ⟨1,a,x,y⟩=some (m,ld m a,b,()):=by
 rw [znE];simp only [zo,if_true];by_cases h1:a<0
 .rw [zb h1,zEI (.inl h1)];exact ⟨_,rfl⟩
 .rw [zc h1];by_cases h2:(m.length:Int)<=a
  .rw [zb h2,zEI (.inr h2)];exact ⟨_,rfl⟩
  .rw [zc h2,vu,zBv (by omega) (by omega),zJA,zyQ,zJA];simp
theorem zBD {m:List (BitVec 64)}(hm:m.length<4294967296) (a:Int) (x y:BitVec 64):∃v b,XC m ⟨2,a,x,y⟩=some (st m a x,v,b,()):=by
 rw [znE];simp only [zo,if_true,zc (show ¬(2:Int)=1 by omega)];by_cases h1:a<0
 .rw [zb h1,zFT (.inl h1)];exact ⟨_,_,rfl⟩
 .rw [zc h1];by_cases h2:(m.length:Int)<=a
  .rw [zb h2,zFT (.inr h2)];exact ⟨_,_,rfl⟩
  .rw [zc h2,vu,zBv (by omega) (by omega),zJA,zy9,zJA,cond_true,ya];by_cases h3:ld m a=x
   .rw [zb h3];subst h3;rw [zCI];exact ⟨_,_,rfl⟩
   .rw [zc h3,zx2 hm,zJA,ve (l:=m) (by omega) (by omega),zJA];unfold st;rw [zY];exact ⟨_,_,rfl⟩
theorem zxU {m:List (BitVec 64)}(hm:m.length<4294967296) (a:Int) (x y:BitVec 64):∃v,XC m ⟨3,a,x,y⟩=some ((sw m a x y).1,v,(sw m a x y).2,()):=by
 rw [znE];simp only [zo,if_true,zc (show ¬(3:Int)=1 by omega),zc (show ¬(3:Int)=2 by omega)];by_cases h1:a<0
 .rw [zb h1];have:sw m a x y=(m,false):=by unfold sw;rw [zi]
  rw [this];exact ⟨_,rfl⟩
 .rw [zc h1];by_cases h2:(m.length:Int)<=a
  .rw [zb h2];have:sw m a x y=(m,false):=by unfold sw;rw [zi]
   rw [this];exact ⟨_,rfl⟩
  .rw [zc h2,vu,zBv (by omega) (by omega),zJA,zyR,zJA];simp only [zo];by_cases h3:ld m a=x
   .have:sw m a x y=(st m a y,true):=by unfold sw;rw [zb ⟨by omega,by omega,h3⟩]
    rw [zb h3,this,ya];by_cases h4:ld m a=y
    .rw [zb h4];have:st m a y=m:=by rw [<-h4,zCI]
     rw [this];simp [h3]
    .rw [zc h4,zx2 hm,zJA,ve (l:=m) (by omega) (by omega),zJA];unfold st;rw [zY];simp [h3]
   .have:sw m a x y=(m,false):=by unfold sw;rw [zc (by rintro ⟨_,_,h⟩;exact h3 h)]
    rw [zc h3,this];simp [h3]
theorem zj9 (m:List (BitVec 64)) (a:Int):UX m a=some (ld m a,()):=by
 obtain ⟨b,h⟩:=zwV m a 0#64 0#64;rw [zv8,h];rfl
theorem zdf {m:List (BitVec 64)}(hm:m.length<4294967296) (a:Int) (x:BitVec 64):XL m a x=some (st m a x,()):=by
 obtain ⟨v,b,h⟩:=zBD hm a x 0#64;rw [ztR,h];rfl
theorem YZ (m:List (BitVec 64)) (a:Int):vT m a=some (ld m a,()):=by
 obtain ⟨b,h⟩:=zwV m a 0#64 0#64;rw [zvl,h];rfl
theorem zde {m:List (BitVec 64)}(hm:m.length<4294967296) (a:Int) (x:BitVec 64):XM m a x=some (st m a x,()):=by
 obtain ⟨v,b,h⟩:=zBD hm a x 0#64;rw [zt1,h];rfl
def yr (h:BitVec 64):Int:=(h&&&4294967295#64).toInt
def xw (v:BitVec 64) (n:Int):BitVec 64:=(v <<< 32)|||(BitVec.ofInt 64 n&&&4294967295#64)
theorem ze1 (h:BitVec 64):Xl h=some (yr h,()):=zuQ h
theorem zkI (v:BitVec 64) (n:Int):UL v n=some (xw v n,()):=zwq v n
def zt (m:List (BitVec 64)) (c:zL):List (BitVec 64)×zL :=
 if c.Out≠0\/(c.Kind≠1/\c.Kind≠2)\/c.PC<0\/3<=c.PC then (m,c)
 else if c.PC=0 then
  (m,if c.Kind=2/\yr (ld m c.Head)=0 then {c with H:=ld m c.Head,Out:=2,PC:=1} else {c with H:=ld m c.Head,PC:=1})
 else if c.PC=1 then
  if c.Kind=2 then (m,{c with Y:=(ld m (wc (c.Next+yr c.H))).toInt,PC:=2})
  else (st m (wc (c.Next+c.X)) (BitVec.ofInt 64 (yr c.H)),{c with PC:=2})
 else
  let r:=sw m c.Head c.H (xw ((c.H >>> 32)+1#64) (if c.Kind=2 then c.Y else c.X))
  (r.1,if r.2 then (if c.Kind=2 then {c with X:=yr c.H,Out:=1,PC:=3} else {c with Out:=1,PC:=3}) else {c with PC:=0})
theorem zfG {m:List (BitVec 64)}(hm:m.length<4294967296) (c:zL):WV m c=some ((zt m c).1,(zt m c).2,()):=by
 have hsee:vY m c=some (m,(if c.Kind=2/\yr (ld m c.Head)=0 then {c with H:=ld m c.Head,Out:=2} else {c with H:=ld m c.Head}),()):=by
  rw [zkl,zj9,zJA,ze1,zJA,zo,zo];by_cases h1:c.Kind=2
  .by_cases h2:yr (ld m c.Head)=0
   .rw [zb h1,zb h2,zb ⟨h1,h2⟩]
   .rw [zb h1,zc h2,zc (fun h=>h2 h.2)]
  .rw [zc h1,zc (fun h=>h1 h.1)]
 have hlink:Wh m c=some (st m (wc (c.Next+c.X)) (BitVec.ofInt 64 (yr c.H)),()):=by
  rw [zmp,xC,ze1,zJA,zdf hm];rfl
 have hbeh:Z1 m c=some (m,{c with Y:=(ld m (wc (c.Next+yr c.H))).toInt},()):=by
  rw [zg2,xC,ze1,zJA,zj9];rfl
 have hswap:vy m c=some ((sw m c.Head c.H (xw ((c.H >>> 32)+1#64) (if c.Kind=2 then c.Y else c.X))).1,
   (if (sw m c.Head c.H (xw ((c.H >>> 32)+1#64) (if c.Kind=2 then c.Y else c.X))).2 then (if c.Kind=2 then {c with X:=yr c.H,Out:=1} else {c with Out:=1}) else {c with PC:= -1}),()):=by
  rw [zjg,zo];by_cases h1:c.Kind=2
  .rw [zb h1,zkI,zJA];obtain ⟨v,hv⟩:=zxU hm c.Head c.H (xw ((c.H >>> 32)+1#64) c.Y);simp only [zb h1];rw [hv,zJA];cases hs:(sw m c.Head c.H (xw ((c.H >>> 32)+1#64) c.Y)).2 with
   | true=>simp [hs,h1,ze1]
   | false=>simp [hs]
  .rw [zc h1,zkI,zJA];obtain ⟨v,hv⟩:=zxU hm c.Head c.H (xw ((c.H >>> 32)+1#64) c.X);simp only [zc h1];rw [hv,zJA];cases hs:(sw m c.Head c.H (xw ((c.H >>> 32)+1#64) c.X)).2 with
   | true=>simp [hs,h1]
   | false=>simp [hs]
 rw [zuZ,hsee,hlink,hbeh,hswap];simp only [zo,ya,zJA];unfold zt;by_cases h0:c.Out=0
 .by_cases hp0:c.PC<0
  .have:(c.Out≠0\/(c.Kind≠1/\c.Kind≠2)\/c.PC<0\/3<=c.PC):= .inr (.inr (.inl hp0));rw [zb this];simp [h0,hp0]
  .by_cases hp3:3<=c.PC
   .have:(c.Out≠0\/(c.Kind≠1/\c.Kind≠2)\/c.PC<0\/3<=c.PC):= .inr (.inr (.inr hp3));rw [zb this];simp [h0,hp3]
   .by_cases hk:c.Kind=1\/c.Kind=2
    .have: ¬(c.Out≠0\/(c.Kind≠1/\c.Kind≠2)\/c.PC<0\/3<=c.PC):=by
      rintro (h | h | h | h)
      .exact h h0
      .omega
      .exact hp0 h
      .exact hp3 h
     rw [zc this];have hpc:c.PC=0\/c.PC=1\/c.PC=2:=by omega
     have w1:w64 1=1:=zU;have w2:w64 2=2:=zU;have w3:w64 3=3:=zU;have w4:w64 0=0:=zU;rcases hk with hk | hk<;>rcases hpc with hpc | hpc | hpc<;>simp [h0,hk,hpc,w1,w2,w3,w4]<;>(try split)<;>simp [hpc,w1,w3,w4]
    .have:(c.Out≠0\/(c.Kind≠1/\c.Kind≠2)\/c.PC<0\/3<=c.PC):= .inr (.inl (by omega));rw [zb this];have k1: ¬c.Kind=1:=by omega
     have k2: ¬c.Kind=2:=by omega
     simp [h0,k1,k2]
 .have:(c.Out≠0\/(c.Kind≠1/\c.Kind≠2)\/c.PC<0\/3<=c.PC):= .inl h0;rw [zb this];simp [h0]
def uA (d:zg):BitVec 64:=BitVec.ofInt 64 (if d.Cap<1 then 1 else d.Cap)
def Xf (d:zg) (i:BitVec 64):Int:=wc (wc (d.Base+2)+(i%uA d).toInt)
def yP (m:List (BitVec 64)) (d:zg):List (BitVec 64)×zg :=
 if d.Out≠0\/d.PC<0\/4<=d.PC then (m,d)
 else if d.PC=0 then (m,{d with B:=ld m (wc (d.Base+1)),PC:=1})
 else if d.PC=1 then (m,if uA d<=d.B-ld m d.Base then {d with T:=ld m d.Base,Out:=3,PC:=2} else {d with T:=ld m d.Base,PC:=2})
 else if d.PC=2 then (st m (Xf d d.B) (BitVec.ofInt 64 d.X),{d with PC:=3})
 else (st m (wc (d.Base+1)) (d.B+1#64),{d with Out:=1,PC:=4})
theorem zBi:w64 0=0/\w64 1=1/\w64 2=2/\w64 3=3/\w64 4=4:=by
 refine ⟨?_,?_,?_,?_,?_⟩<;>exact zU
theorem zFO {d:zg}(h:d.Cap<1000):uA d≠0#64:=by
 unfold uA;intro e;have:=congrArg BitVec.toNat e;rw [zKu] at this;split at this<;>simp at this<;>omega
theorem zpE (d:zg):yb d=some (uA d,()):=by
 rw [zmn];unfold uA;rw [zo]
theorem zhE {d:zg}(h:d.Cap<1000) (i:BitVec 64):un i d=some (Xf d i,()):=by
 rw [zlH,xC,zpE,zJA,zo,zc (zFO h)];rfl
theorem znd {m:List (BitVec 64)}(hm:m.length<4294967296) {d:zg}(hk:d.Kind=1) (hc:d.Cap<1000):zbN m d=some ((yP m d).1,(yP m d).2,()):=by
 obtain ⟨w0,w1,w2,w3,w4⟩:=zBi;have h0:vg m d=some (m,{d with B:=ld m (wc (d.Base+1))},()):=by
  rw [Vd,xD,xC,zJA,YZ];rfl
 have h1:Vv m d=some (m,(if uA d<=d.B-ld m d.Base then {d with T:=ld m d.Base,Out:=3} else {d with T:=ld m d.Base}),()):=by
  rw [zjc,Zr,zJA,YZ,zJA,zpE,zJA,zo];have e:uA {d with T:=ld m d.Base}=uA d:=rfl;simp only [e];by_cases h:uA d<=d.B-ld m d.Base
  .rw [zb h,zb h,wU];simp [hk]
  .rw [zc h,zc h]
 have h2:zbp m d=some (st m (Xf d d.B) (BitVec.ofInt 64 d.X),()):=by
  rw [zom,zhE hc,zJA,zde hm];rfl
 have h3:XD m d=some (st m (wc (d.Base+1)) (d.B+1#64),{d with Out:=1},()):=by
  rw [zf3,wU];simp only [decide_true,zJQ,cond_false,zJA,xD,xC];rw [zde hm];rfl
 rw [znp,h0,h1,h2,h3,zjQ];simp only [hk,decide_true,cond_true,zJA,ya,zo];have key:∀(x:Option (List (BitVec 64)×zg×Unit)) (v:List (BitVec 64)×zg×Unit) (y:Option (List (BitVec 64)×zg×Unit)),x=some v->Option.or x y=some v:=by
  rintro _ v y rfl;rfl
 apply key;unfold yP;by_cases g0:d.Out=0
 .by_cases g1:d.PC<0
  .simp [g0,g1]
  .by_cases g2:4<=d.PC
   .simp [g0,g2]
   .have hpc:d.PC=0\/d.PC=1\/d.PC=2\/d.PC=3:=by omega
    rcases hpc with h | h | h | h<;>simp [g0,h,hk,w1,w2,w3,w4]<;>(try split)<;>simp [h,hk,w2]
 .simp [g0]
def yc (p:zd):Int:=wc (p.Workers*wc (p.Cap+2))
def zJ (p:zd):Int:=wc (yc p+1)
def zR (p:zd) (w:Int):Int:=wc (wc (w-1)*wc (p.Cap+2))
theorem zcq (p:zd):Y3 p=some (yc p,()):=by rw [zvS,xC];rfl
theorem zdA (p:zd):Xx p=some (zJ p,()):=by rw [zum,xC,zcq];rfl
theorem zar (p:zd):Yc p=some (zJ p,()):=by rw [zvt,zdA];rfl
theorem za7 (p:zd) (w:Int):xm p w=some (zR p w,()):=by rw [ztS,xC];rfl
def ziX (p:zd) (g:zB):zB:={g with PC:=5,C:=⟨2,0,zJ p,zJ p,0#64,0,0,0⟩}
theorem zps (a:zM):uw a=some (⟨ziX a.s.P a.Grey,a.s⟩,()):=by
 rw [zlC,zdA,zJA,zar,zJA,WO];rfl
def zm6 (s:za) (g:zB):za×zB :=
 let t:=shade s.T g.Obj
 ({s with T:=t.1},
  if t.2=false then {g with PC:=2}
  else if g.Mode=1 then {g with PC:=3,D:=⟨1,0,zR s.P g.Who,s.P.Cap,0#64,0#64,g.Obj,0⟩}
  else if g.Mode=2 then {g with PC:=4}
  else ziX s.P g)
def zm0 (s:za) (g:zB):za×zB :=
 let r:=yP s.M g.D
 ({s with M:=r.1},if r.2.Out=1 then {g with D:=r.2,Out:=1} else if r.2.Out=3 then ziX s.P {g with D:=r.2} else {g with D:=r.2})
def znq (s:za) (g:zB):za×zB :=
 let r:=zt s.M g.C
 ({s with M:=r.1},if r.2.Out=1 then {g with PC:=6,C:=r.2,Bin:=r.2.X} else if r.2.Out=2 then ziX s.P {g with C:=r.2} else {g with C:=r.2})
def zzA (s:za) (g:zB):za×zB :=
 ({s with Bins:=s.Bins.set g.Bin.toNat [g.Obj]},{g with PC:=7,C:=⟨1,0,yc s.P,zJ s.P,0#64,g.Bin,0,0⟩})
def zdR (s:za) (g:zB):za×zB :=
 let r:=zt s.M g.C
 ({s with M:=r.1},if r.2.Out=1 then {g with C:=r.2,Out:=1} else {g with C:=r.2})
def zy (s:za) (g:zB):za×zB :=
 if g.Out≠0\/g.Mode<1\/3<g.Mode\/g.PC<0\/8<=g.PC then (s,g)
 else if g.PC=7 then zdR s g
 else if g.PC=6 then zzA s g
 else if g.PC=5 then znq s g
 else if g.PC=4 then ({s with Flag:=true},ziX s.P g)
 else if g.PC=3 then zm0 s g
 else if g.PC=2 then ({s with Work:=wc (s.Work-1)},{g with Out:=1})
 else if g.PC=1 then zm6 s g
 else ({s with Work:=wc (s.Work+1)},{g with PC:=1})
structure GOk (s:za) (g:zB):Prop where
 mem:s.M.length<4294967296
 bins:s.Bins.length<4294967296
 bin:g.PC=6->0<=g.Bin/\g.Bin<s.Bins.length
 deq:g.PC=3->g.D.Kind=1/\g.D.Cap<1000
theorem zxY {s:za}{g:zB}(ok:GOk s g):zdy s g=some ((zy s g).1,(zy s g).2,()):=by
 rw [zxG];simp only [zo,ya];unfold zy;by_cases h0:g.Out=0;rotate_left
 .rw [zc h0,zb (.inl h0)]
 rw [zb h0];by_cases h1:g.Mode<1
 .rw [zb h1,zb (.inr (.inl h1))]
 rw [zc h1];by_cases h2:3<g.Mode
 .rw [zb h2,zb (.inr (.inr (.inl h2)))]
 rw [zc h2];by_cases h3:g.PC<0
 .rw [zb h3,zb (.inr (.inr (.inr (.inl h3))))]
 rw [zc h3];by_cases h4:8<=g.PC
 .rw [zb h4,zb (.inr (.inr (.inr (.inr h4))))]
 rw [zc h4,zc (show ¬(g.Out≠0\/g.Mode<1\/3<g.Mode\/g.PC<0\/8<=g.PC) by omega)];by_cases p7:g.PC=7
 .rw [zb p7,zb p7,zgE];simp only [zfG ok.mem,zJA,zo];by_cases e:(zt s.M g.C).2.Out=1<;>simp [zdR,e]
 rw [zc p7,zc p7];by_cases p6:g.PC=6
 .rw [zb p6,zb p6,zkf];obtain ⟨b1,b2⟩:=ok.bin p6;simp only [zjV ok.bins,zJA,ve (l:=s.Bins) b1 b2,zcq,zar,WO];rfl
 rw [zc p6,zc p6];by_cases p5:g.PC=5
 .rw [zb p5,zb p5,zkk];simp only [zfG ok.mem,zJA,zo,zps];by_cases e:(zt s.M g.C).2.Out=1
  .simp [znq,e]
  .by_cases e2:(zt s.M g.C).2.Out=2<;>simp [znq,e,e2]
 rw [zc p5,zc p5];by_cases p4:g.PC=4
 .rw [zb p4,zb p4,zj6,zps];rfl
 rw [zc p4,zc p4];by_cases p3:g.PC=3
 .rw [zb p3,zb p3,zkE];obtain ⟨b1,b2⟩:=ok.deq p3;simp only [znd ok.mem b1 b2,zJA,zo,zps];by_cases e:(yP s.M g.D).2.Out=1
  .simp [zm0,e]
  .by_cases e2:(yP s.M g.D).2.Out=3<;>simp [zm0,e,e2]
 rw [zc p3,zc p3];by_cases p2:g.PC=2
 .rw [zb p2,zb p2,zkH,xC];rfl
 rw [zc p2,zc p2];by_cases p1:g.PC=1
 .rw [zb p1,zb p1,zj8];simp only [zky,zJA,zo,zps,za7,zaO];unfold zm6;cases hs:(shade s.T g.Obj).2 with
  | false=>simp [hs]
  | true =>
   by_cases m1:g.Mode=1
   .simp [hs,m1]
   .by_cases m2:g.Mode=2<;>simp [hs,m1,m2]
 rw [zc p1,zc p1,zb (show g.PC=0 by omega),zgo,xC];rfl
theorem uo {b k:Int}(h:0<=b) (hk:0<k):0<=b.tmod k/\b.tmod k<k:=by
 rw [Int.tmod_eq_emod_of_nonneg h];exact ⟨Int.emod_nonneg _ (by omega),Int.emod_lt_of_pos _ hk⟩
def zlG (o:zw) (regs slots:Int):Prop:=(0<=o.R/\o.R<regs) /\
 ((o.Kind=1\/o.Kind=2)/\(0<=o.A/\o.A<regs)/\(0<=o.S/\o.S<slots)\/o.Kind=4/\(0<=o.A/\o.A<regs)/\o.S=0\/(o.Kind=3\/o.Kind=5)/\o.A=0/\o.S=0)
structure zD (p:zd):Prop where
 wk:1<=p.Workers/\p.Workers<=3
 mt:0<=p.Mutators/\p.Mutators<=2
 cap:1<=p.Cap/\p.Cap<=3
 buf:1<=p.Buf/\p.Buf<=2
 bin:1<=p.Bin/\p.Bin<=3
 price:0<=p.Price/\p.Price<=3
 limit:0<=p.Limit/\p.Limit<=3
 slots:1<=p.H.Slots/\p.H.Slots<=2
 n:1<=(p.H.Objs.length:Int)/\(p.H.Objs.length:Int)<=6
 objs:∀o∈p.H.Objs,(o.length:Int)=p.H.Slots/\∀v∈o,0<=v/\v<=(p.H.Objs.length:Int)
 most:(p.H.Objs.length:Int)<=p.Most/\p.Most<=(p.H.Objs.length:Int)+3
 roots:∃r,0<=r/\r<=(p.H.Objs.length:Int)/\p.Roots=bit r
 regs:(p.Regs.length:Int)=p.Mutators
 progs:(p.Progs.length:Int)=p.Mutators
 reg:∀r∈p.Regs,(1<=(r.length:Int)/\(r.length:Int)<=3)/\∀v∈r,0<=v/\v<=(p.H.Objs.length:Int)
 prog:∀(k:Nat) r ops,p.Regs[k]? =some r->p.Progs[k]? =some ops->(ops.length:Int)<=7/\∀o∈ops,zlG o (r.length:Int) p.H.Slots
 picks:p.Picks=[]
namespace B20
def Vp (m:zO):Prop:=0<=m.At/\m.At<=m.L.length/\m.L.length<=90
theorem uP {m:zO}(h:Vp m):∃b m',zG m=some (b,m',())/\(0<=b/\b<256)/\Vp m':=by
 obtain ⟨h1,h2,h3⟩:=h;rw [zf5,zo];by_cases h:(m.L.length:Int)<=m.At
 .rw [zb h];exact ⟨_,_,rfl,by omega,h1,h2,h3⟩
 .rw [zc h,zU (a:=m.At+1) (by omega) (by omega),zU,vu,zJC (by omega),zJA];exact ⟨_,_,rfl,by have:=(m.L[(m.At+1-1).toNat]'(by omega)).isLt;omega,show 0<=m.At+1 by omega,show m.At+1<=m.L.length by omega,h3⟩
theorem zI6 {m:zO}(h:Vp m) {regs slots:Int}(hr:1<=regs) (hs:1<=slots):∃o m',W2 regs slots m=some (o,m',())/\zlG o regs slots/\Vp m':=by
 obtain ⟨b1,m1,e1,r1,k1⟩:=uP h;obtain ⟨b2,m2,e2,r2,k2⟩:=uP k1;obtain ⟨b3,m3,e3,r3,k3⟩:=uP k2;obtain ⟨b4,m4,e4,r4,k4⟩:=uP k3;have t1:=uo r1.1 (show (0:Int)<8 by omega);have t2:=uo r2.1 (show (0:Int)<regs by omega);have t3:=uo r3.1 (show (0:Int)<regs by omega);have t4:=uo r4.1 (show (0:Int)<slots by omega);have t5:=uo r3.1 (show (0:Int)<slots by omega);have hn: ¬regs=0:=by omega
 have hn2: ¬slots=0:=by omega
 rw [ziu,e1,zJA,ve t1.1 (by simpa using t1.2),zJA];have hx:b1.tmod 8=0\/b1.tmod 8=1\/b1.tmod 8=2\/b1.tmod 8=3\/b1.tmod 8=4\/b1.tmod 8=5\/b1.tmod 8=6\/b1.tmod 8=7:=by omega
 rcases hx with hx | hx | hx | hx | hx | hx | hx | hx<;>simp [hx,e2,e3,e4,hn,hn2]<;>refine ⟨_,_,⟨rfl,rfl⟩,?_,by assumption⟩<;>(unfold zlG;dsimp only;omega)
theorem zGz {s1:Int}{s2:Int}{s4:Int}{s5:Int}{s6:Int}{s7:Int}{s8:Int}{s9:Int}{s10:Int}{s11:Int}{s12:Int}{s13:BitVec 64}{s15:Int}{s16:Int}{s17:Int}{s18:Int}{s19:Int}{s20:Int}{s21:Int}{s22:Int}{s23:Int}{s24:BitVec 64}{s26:List (List Int)}{s27:List (List Int)}{s28:List (List zw)}{s29:List zj}{s30:List (List Int)}{s31:List (List Int)}{s32:List (List zw)}{s33:List zj}(hn:1<=s1/\s1<=6) (hs:1<=s23/\s23<=2) {mk:zO}(hm:Vp mk) :
  ∃mk' l,zX Xo (s1,s2,0,s4,s5,s6,s7,s8,s9,s10,s11,s12,s13,mk,s15,s16,s17,s18,s19,s20,s21,s22,s23,s24,[],s26,s27,s28,s29,s30,s31,s32,s33,())=some (.brk (s1,s2,s4,s5,s6,s7,s8,s9,s10,s11,s12,s13,mk',s15,s16,s17,s18,s19,s20,s21,s22,s23,s24,l,s26,s27,s28,s29,s30,s31,s32,s33,()))/\Vp mk'/\(l.length:Int)=s23/\∀v∈l,0<=v/\v<=s1:=by
 refine (wS (f:=Xo)
  (fun a=>∃i mk l,a=(s1,s2,i,s4,s5,s6,s7,s8,s9,s10,s11,s12,s13,mk,s15,s16,s17,s18,s19,s20,s21,s22,s23,s24,l,s26,s27,s28,s29,s30,s31,s32,s33,())/\Vp mk/\(0<=i/\i<=s23/\(l.length:Int)=i)/\∀v∈l,0<=v/\v<=s1)
  (fun a=>(s23-a.2.2.1).toNat)
  (fun o=>match o with | .brk b=>∃mk l,b=(s1,s2,s4,s5,s6,s7,s8,s9,s10,s11,s12,s13,mk,s15,s16,s17,s18,s19,s20,s21,s22,s23,s24,l,s26,s27,s28,s29,s30,s31,s32,s33,())/\Vp mk/\(l.length:Int)=s23/\∀v∈l,0<=v/\v<=s1 | _=>False) ?_
  (s1,s2,0,s4,s5,s6,s7,s8,s9,s10,s11,s12,s13,mk,s15,s16,s17,s18,s19,s20,s21,s22,s23,s24,[],s26,s27,s28,s29,s30,s31,s32,s33,()) ⟨0,mk,[],rfl,hm,by simp;omega,by simp⟩ (vC (by simp;omega))).elim fun o h=>?_
 rotate_left
 .obtain ⟨ho,hq⟩:=h;cases o with
  | again a=>exact hq.elim
  | ret a=>exact hq.elim
  | brk b =>
   obtain ⟨mk',l,rfl,h1,h2,h3⟩:=hq;exact ⟨mk',l,ho,h1,h2,h3⟩
 .rintro _ ⟨i,mk,l,rfl,h1,h2,h3⟩;rw [zl4,zo];by_cases hi:i<s23
  .rw [zb hi];obtain ⟨b,mk',e,r,k⟩:=uP h1;have w1:w64 (s1+1)=s1+1:=zU;have t:=uo r.1 (show 0<s1+1 by omega);rw [e,zJA,w1,zo,zi,yC (by simp;omega),zJA,zU (a:=i+1) (by omega) (by omega)];refine ⟨_,rfl,⟨i+1,mk',l++[b.tmod (s1+1)],rfl,k,by simp;omega,fun v hv=>?_⟩,?_⟩
   .rcases zJZ.1 hv with hv | hv
    .exact h3 v hv
    .simp at hv;omega
   .show (s23-(i+1)).toNat<(s23-i).toNat;omega
  .rw [zc hi];exact ⟨_,rfl,mk,l,rfl,h1,by omega,h3⟩
theorem zHT {s1:Int}{s3:Int}{s4:Int}{s5:Int}{s6:Int}{s7:Int}{s8:Int}{s9:Int}{s10:Int}{s11:Int}{s12:BitVec 64}{s14:Int}{s15:Int}{s16:Int}{s17:Int}{s18:Int}{s19:Int}{s20:Int}{s21:Int}{s22:Int}{s23:BitVec 64}{s24:List (List Int)}{s25:List (List Int)}{s26:List (List zw)}{s27:List zj}{s29:List (List Int)}{s30:List (List zw)}{s31:List zj}(hn:1<=s1/\s1<=6) (hs:1<=s22/\s22<=2) {mk:zO}(hm:Vp mk) :
  ∃mk' l,zX Wi (s1,0,s3,s4,s5,s6,s7,s8,s9,s10,s11,s12,mk,s14,s15,s16,s17,s18,s19,s20,s21,s22,s23,s24,s25,s26,s27,[],s29,s30,s31,())=some (.brk (s1,s3,s4,s5,s6,s7,s8,s9,s10,s11,s12,mk',s14,s15,s16,s17,s18,s19,s20,s21,s22,s23,s24,s25,s26,s27,l,s29,s30,s31,()))/\Vp mk'/\(l.length:Int)=s1/\∀o∈l,(o.length:Int)=s22/\∀v∈o,0<=v/\v<=s1:=by
 refine (wS (f:=Wi)
  (fun a=>∃i mk l,a=(s1,i,s3,s4,s5,s6,s7,s8,s9,s10,s11,s12,mk,s14,s15,s16,s17,s18,s19,s20,s21,s22,s23,s24,s25,s26,s27,l,s29,s30,s31,())/\Vp mk/\(0<=i/\i<=s1/\(l.length:Int)=i)/\∀o∈l,(o.length:Int)=s22/\∀v∈o,0<=v/\v<=s1)
  (fun a=>(s1-a.2.1).toNat)
  (fun o=>match o with | .brk b=>∃mk l,b=(s1,s3,s4,s5,s6,s7,s8,s9,s10,s11,s12,mk,s14,s15,s16,s17,s18,s19,s20,s21,s22,s23,s24,s25,s26,s27,l,s29,s30,s31,())/\Vp mk/\(l.length:Int)=s1/\∀o∈l,(o.length:Int)=s22/\∀v∈o,0<=v/\v<=s1 | _=>False) ?_
  (s1,0,s3,s4,s5,s6,s7,s8,s9,s10,s11,s12,mk,s14,s15,s16,s17,s18,s19,s20,s21,s22,s23,s24,s25,s26,s27,[],s29,s30,s31,()) ⟨0,mk,[],rfl,hm,by simp;omega,by simp⟩ (vC (by simp;omega))).elim fun o h=>?_
 rotate_left
 .obtain ⟨ho,hq⟩:=h;cases o with
  | again a=>exact hq.elim
  | ret a=>exact hq.elim
  | brk b =>
   obtain ⟨mk',l,rfl,h1,h2,h3⟩:=hq;exact ⟨mk',l,ho,h1,h2,h3⟩
 .rintro _ ⟨i,mk,l,rfl,h1,h2,h3⟩;rw [zmm,zo];by_cases hi:i<s1
  .rw [zb hi];obtain ⟨mk',o,e,g1,g2,g3⟩:=zGz hn hs h1;rw [e];simp only [zJA];rw [yC (by simp;omega),zJA,zU (a:=i+1) (by omega) (by omega)];refine ⟨_,rfl,⟨i+1,mk',l++[o],rfl,g1,by simp;omega,fun v hv=>?_⟩,?_⟩
   .rcases zJZ.1 hv with hv | hv
    .exact h3 v hv
    .simp at hv;subst hv;exact ⟨g2,g3⟩
   .show (s1-(i+1)).toNat<(s1-i).toNat;omega
  .rw [zc hi];exact ⟨_,rfl,mk,l,rfl,h1,by omega,h3⟩
theorem zG6 {s1:Int}{s2:Int}{s4:Int}{s5:Int}{s6:Int}{s7:Int}{s8:Int}{s9:Int}{s10:Int}{s11:Int}{s12:Int}{s13:BitVec 64}{s15:Int}{s16:Int}{s17:Int}{s18:Int}{s19:Int}{s20:Int}{s21:Int}{s22:Int}{s23:Int}{s24:BitVec 64}{s26:List (List Int)}{s27:List (List Int)}{s28:List (List zw)}{s29:List zj}{s30:List (List Int)}{s31:List (List Int)}{s32:List (List zw)}{s33:List zj}(hn:1<=s1/\s1<=6) {mk:zO}(hm:Vp mk) :
  ∃mk' l,zX Xw (s1,s2,0,s4,s5,s6,s7,s8,s9,s10,s11,s12,s13,mk,s15,s16,s17,s18,s19,s20,s21,s22,s23,s24,[],s26,s27,s28,s29,s30,s31,s32,s33,())=some (.brk (s1,s2,s4,s5,s6,s7,s8,s9,s10,s11,s12,s13,mk',s15,s16,s17,s18,s19,s20,s21,s22,s23,s24,l,s26,s27,s28,s29,s30,s31,s32,s33,()))/\Vp mk'/\(1<=(l.length:Int)/\(l.length:Int)<=3)/\∀v∈l,0<=v/\v<=s1:=by
 refine (wS (f:=Xw)
  (fun a=>∃i mk l,a=(s1,s2,i,s4,s5,s6,s7,s8,s9,s10,s11,s12,s13,mk,s15,s16,s17,s18,s19,s20,s21,s22,s23,s24,l,s26,s27,s28,s29,s30,s31,s32,s33,())/\Vp mk/\(0<=i/\i<=3/\(l.length:Int)=i)/\∀v∈l,0<=v/\v<=s1)
  (fun a=>(3-a.2.2.1).toNat)
  (fun o=>match o with | .brk b=>∃mk l,b=(s1,s2,s4,s5,s6,s7,s8,s9,s10,s11,s12,s13,mk,s15,s16,s17,s18,s19,s20,s21,s22,s23,s24,l,s26,s27,s28,s29,s30,s31,s32,s33,())/\Vp mk/\(1<=(l.length:Int)/\(l.length:Int)<=3)/\∀v∈l,0<=v/\v<=s1 | _=>False) ?_
  (s1,s2,0,s4,s5,s6,s7,s8,s9,s10,s11,s12,s13,mk,s15,s16,s17,s18,s19,s20,s21,s22,s23,s24,[],s26,s27,s28,s29,s30,s31,s32,s33,()) ⟨0,mk,[],rfl,hm,by simp,by simp⟩ (vC (by simp))).elim fun o h=>?_
 rotate_left
 .obtain ⟨ho,hq⟩:=h;cases o with
  | again a=>exact hq.elim
  | ret a=>exact hq.elim
  | brk b =>
   obtain ⟨mk',l,rfl,h1,h2,h3⟩:=hq;exact ⟨mk',l,ho,h1,h2,h3⟩
 .rintro _ ⟨i,mk,l,rfl,h1,h2,h3⟩;obtain ⟨b0,mk0,e0,r0,k0⟩:=uP h1;have t0:=uo r0.1 (show (0:Int)<3 by omega);rw [zk6,e0,zJA,zo,zU (a:=1+b0.tmod 3) (by omega) (by omega)];by_cases hi:i<1+b0.tmod 3
  .rw [zb hi];obtain ⟨b,mk',e,r,k⟩:=uP k0;have w1:w64 (s1+1)=s1+1:=zU;have t:=uo r.1 (show 0<s1+1 by omega);rw [e,zJA,w1,zo,zi,yC (by simp;omega),zJA,zU (a:=i+1) (by omega) (by omega)];refine ⟨_,rfl,⟨i+1,mk',l++[b.tmod (s1+1)],rfl,k,by simp;omega,fun v hv=>?_⟩,?_⟩
   .rcases zJZ.1 hv with hv | hv
    .exact h3 v hv
    .simp at hv;omega
   .show (3-(i+1)).toNat<(3-i).toNat;omega
  .rw [zc hi];exact ⟨_,rfl,mk0,l,rfl,k0,by omega,h3⟩
theorem zGj {s1:Int}{s2:Int}{s4:Int}{s5:Int}{s6:Int}{s7:Int}{s8:Int}{s9:Int}{s10:Int}{s11:Int}{s12:Int}{s13:BitVec 64}{s15:Int}{s16:Int}{s17:Int}{s18:Int}{s19:Int}{s20:Int}{s21:Int}{s22:Int}{s23:Int}{s24:BitVec 64}{s25:List Int}{s27:List (List Int)}{s28:List (List Int)}{s29:List (List zw)}{s30:List zj}{s31:List (List Int)}{s32:List (List Int)}{s33:List (List zw)}{s34:List zj}(hr:1<=(s25.length:Int)) (hs:1<=s23/\s23<=2) {k0:Int}(hk:0<=k0/\k0<8) {mk:zO}(hm:Vp mk) :
  ∃mk' l,zX ZJ (s1,s2,k0,s4,s5,s6,s7,s8,s9,s10,s11,s12,s13,mk,s15,s16,s17,s18,s19,s20,s21,s22,s23,s24,s25,[],s27,s28,s29,s30,s31,s32,s33,s34,())=some (.brk (s1,s2,s4,s5,s6,s7,s8,s9,s10,s11,s12,s13,mk',s15,s16,s17,s18,s19,s20,s21,s22,s23,s24,s25,l,s27,s28,s29,s30,s31,s32,s33,s34,()))/\Vp mk'/\(l.length:Int)<=7/\∀o∈l,zlG o (s25.length:Int) s23:=by
 refine (wS (f:=ZJ)
  (fun a=>∃i mk l,a=(s1,s2,i,s4,s5,s6,s7,s8,s9,s10,s11,s12,s13,mk,s15,s16,s17,s18,s19,s20,s21,s22,s23,s24,s25,l,s27,s28,s29,s30,s31,s32,s33,s34,())/\Vp mk/\(0<=i/\(l.length:Int)+i<=7)/\∀o∈l,zlG o (s25.length:Int) s23)
  (fun a=>(a.2.2.1).toNat)
  (fun o=>match o with | .brk b=>∃mk l,b=(s1,s2,s4,s5,s6,s7,s8,s9,s10,s11,s12,s13,mk,s15,s16,s17,s18,s19,s20,s21,s22,s23,s24,s25,l,s27,s28,s29,s30,s31,s32,s33,s34,())/\Vp mk/\(l.length:Int)<=7/\∀o∈l,zlG o (s25.length:Int) s23 | _=>False) ?_
  (s1,s2,k0,s4,s5,s6,s7,s8,s9,s10,s11,s12,s13,mk,s15,s16,s17,s18,s19,s20,s21,s22,s23,s24,s25,[],s27,s28,s29,s30,s31,s32,s33,s34,()) ⟨k0,mk,[],rfl,hm,by simp;omega,by simp⟩ (vC (by simp;omega))).elim fun o h=>?_
 rotate_left
 .obtain ⟨ho,hq⟩:=h;cases o with
  | again a=>exact hq.elim
  | ret a=>exact hq.elim
  | brk b =>
   obtain ⟨mk',l,rfl,h1,h2,h3⟩:=hq;exact ⟨mk',l,ho,h1,h2,h3⟩
 .rintro _ ⟨i,mk,l,rfl,h1,h2,h3⟩;rw [zkS,zo];by_cases hi:0<i
  .rw [zb hi];obtain ⟨o,mk',e,r,k⟩:=zI6 h1 hr hs.1;rw [e,zJA,yC (by simp;omega),zJA,zU (a:=i-1) (by omega) (by omega)];refine ⟨_,rfl,⟨i-1,mk',l++[o],rfl,k,by simp;omega,fun v hv=>?_⟩,?_⟩
   .rcases zJZ.1 hv with hv | hv
    .exact h3 v hv
    .simp at hv;subst hv;exact r
   .show (i-1).toNat<i.toNat;omega
  .rw [zc hi];exact ⟨_,rfl,mk,l,rfl,h1,by omega,h3⟩
theorem zGm {s1:Int}{s3:Int}{s4:Int}{s5:Int}{s6:Int}{s7:Int}{s8:Int}{s9:Int}{s10:Int}{s11:Int}{s12:BitVec 64}{s14:Int}{s15:Int}{s16:Int}{s17:Int}{s18:Int}{s19:Int}{s20:Int}{s21:Int}{s22:Int}{s23:BitVec 64}{s24:List (List Int)}{s25:List (List Int)}{s26:List (List zw)}{s27:List zj}{s28:List (List Int)}{s31:List zj}(hn:1<=s1/\s1<=6) (hm0:0<=s15/\s15<=2) (hs:1<=s22/\s22<=2) {mk:zO}(hm:Vp mk) :
  ∃regs progs,zX Xq (s1,0,s3,s4,s5,s6,s7,s8,s9,s10,s11,s12,mk,s14,s15,s16,s17,s18,s19,s20,s21,s22,s23,s24,s25,s26,s27,s28,[],[],s31,())=some (.brk (s3,s4,s5,s6,s7,s8,s9,s10,s11,s12,s14,s15,s16,s17,s18,s19,s20,s21,s22,s23,s24,s25,s26,s27,s28,regs,progs,s31,()))/\(regs.length:Int)=s15/\(regs.length=progs.length)/\(∀r∈regs,(1<=(r.length:Int)/\(r.length:Int)<=3)/\∀v∈r,0<=v/\v<=s1)/\∀(k:Nat) r ops,regs[k]? =some r->progs[k]? =some ops->(ops.length:Int)<=7/\∀o∈ops,zlG o (r.length:Int) s22:=by
 refine (wS (f:=Xq)
  (fun a=>∃i mk regs progs,a=(s1,i,s3,s4,s5,s6,s7,s8,s9,s10,s11,s12,mk,s14,s15,s16,s17,s18,s19,s20,s21,s22,s23,s24,s25,s26,s27,s28,regs,progs,s31,())/\Vp mk/\(0<=i/\i<=s15/\(regs.length:Int)=i)/\(regs.length=progs.length)/\(∀r∈regs,(1<=(r.length:Int)/\(r.length:Int)<=3)/\∀v∈r,0<=v/\v<=s1)/\∀(k:Nat) r ops,regs[k]? =some r->progs[k]? =some ops->(ops.length:Int)<=7/\∀o∈ops,zlG o (r.length:Int) s22)
  (fun a=>(s15-a.2.1).toNat)
  (fun o=>match o with | .brk b=>∃regs progs,b=(s3,s4,s5,s6,s7,s8,s9,s10,s11,s12,s14,s15,s16,s17,s18,s19,s20,s21,s22,s23,s24,s25,s26,s27,s28,regs,progs,s31,())/\(regs.length:Int)=s15/\(regs.length=progs.length)/\(∀r∈regs,(1<=(r.length:Int)/\(r.length:Int)<=3)/\∀v∈r,0<=v/\v<=s1)/\∀(k:Nat) r ops,regs[k]? =some r->progs[k]? =some ops->(ops.length:Int)<=7/\∀o∈ops,zlG o (r.length:Int) s22 | _=>False) ?_
  (s1,0,s3,s4,s5,s6,s7,s8,s9,s10,s11,s12,mk,s14,s15,s16,s17,s18,s19,s20,s21,s22,s23,s24,s25,s26,s27,s28,[],[],s31,()) ⟨0,mk,[],[],rfl,hm,by simp;omega,rfl,by simp,by simp⟩ (vC (by simp;omega))).elim fun o h=>?_
 rotate_left
 .obtain ⟨ho,hq⟩:=h;cases o with
  | again a=>exact hq.elim
  | ret a=>exact hq.elim
  | brk b =>
   obtain ⟨regs,progs,rfl,h⟩:=hq;exact ⟨regs,progs,ho,h⟩
 .rintro _ ⟨i,mk,regs,progs,rfl,h1,h2,h3,h4,h5⟩;rw [zlM,zo];by_cases hi:i<s15
  .rw [zb hi];obtain ⟨mk1,r,e,g1,g2,g3⟩:=zG6 hn h1;rw [e];simp only [zJA];rw [zo,zi];obtain ⟨b,mk2,e2,r2,k2⟩:=uP g1;rw [e2,zJA];obtain ⟨mk3,ops,e3,f1,f2,f3⟩:=zGj (s25:=r) g2.1 hs (uo r2.1 (show (0:Int)<8 by omega)) k2;rw [e3];simp only [zJA];rw [yC (by simp;omega),zJA,yC (by simp;omega),zJA,zU (a:=i+1) (by omega) (by omega)];refine ⟨_,rfl,⟨i+1,mk3,regs++[r],progs++[ops],rfl,f1,by simp;omega,by simp [h3],fun v hv=>?_,fun k r' ops' hk1 hk2=>?_⟩,?_⟩
   .rcases zJZ.1 hv with hv | hv
    .exact h4 v hv
    .simp at hv;subst hv;exact ⟨g2,g3⟩
   .rcases zKa k regs.length with hlt | hge
    .rw [zJ4 hlt] at hk1;rw [zJ4 (by omega)] at hk2;exact h5 k r' ops' hk1 hk2
    .rw [zJ9 hge] at hk1;rw [zJ9 (by omega),<-h3] at hk2;have hk0:k-regs.length=0:=by
      have:=(zJK.1 hk1).1;simpa using this
     rw [hk0] at hk1 hk2;simp at hk1 hk2;subst hk1;subst hk2;exact ⟨f2,f3⟩
   .show (s15-(i+1)).toNat<(s15-i).toNat;omega
  .rw [zc hi];exact ⟨_,rfl,regs,progs,rfl,by omega,h3,h4,h5⟩
theorem zIa (l:List (BitVec 8)):∃p,zc4 l=some (p,())/\zD p:=by
 rw [zqf,zo];obtain ⟨m,em,hl⟩:∃m,cut l 0 (if 90<(l.length:Int) then 90 else (l.length:Int))=some m/\m.length<=90:=by
  unfold cut;by_cases h:90<(l.length:Int)
  .have h2:(90:Int)<=l.length:=by omega
   rw [zb h];exact ⟨l.take 90,by simp [h2],List.length_take_le _ _⟩
  .rw [zc h];exact ⟨l,by simp,by omega⟩
 rw [em,zJA];obtain ⟨b1,m1,e1,r1,k1⟩:=uP (m:=⟨m,0⟩) ⟨by simp,by simp,hl⟩;obtain ⟨b2,m2,e2,r2,k2⟩:=uP k1;obtain ⟨b3,m3,e3,r3,k3⟩:=uP k2;obtain ⟨b4,m4,e4,r4,k4⟩:=uP k3;obtain ⟨b5,m5,e5,r5,k5⟩:=uP k4;obtain ⟨b6,m6,e6,r6,k6⟩:=uP k5;obtain ⟨b7,m7,e7,r7,k7⟩:=uP k6;obtain ⟨b8,m8,e8,r8,k8⟩:=uP k7;obtain ⟨b9,m9,e9,r9,k9⟩:=uP k8;obtain ⟨b10,m10,e10,r10,k10⟩:=uP k9;simp only [e1,e2,e3,e4,e5,e6,e7,e8,e9,e10,zJA];have t1:=uo r1.1 (show (0:Int)<3 by omega);have t2:=uo r2.1 (show (0:Int)<3 by omega);have t3:=uo r3.1 (show (0:Int)<3 by omega);have t4:=uo r4.1 (show (0:Int)<2 by omega);have t5:=uo r5.1 (show (0:Int)<3 by omega);have t6:=uo r6.1 (show (0:Int)<4 by omega);have t7:=uo r7.1 (show (0:Int)<4 by omega);have t8:=uo r8.1 (show (0:Int)<2 by omega);have t9:=uo r9.1 (show (0:Int)<6 by omega);have t10:=uo r10.1 (show (0:Int)<4 by omega);rw [zU (a:=1+b9.tmod 6) (by omega) (by omega),zU (a:=1+b1.tmod 3) (by omega) (by omega),zU (a:=1+b3.tmod 3) (by omega) (by omega),zU (a:=1+b4.tmod 2) (by omega) (by omega),zU (a:=1+b5.tmod 3) (by omega) (by omega),
  zU (a:=1+b9.tmod 6+b10.tmod 4) (by omega) (by omega),zU (a:=1+b8.tmod 2) (by omega) (by omega)]
 obtain ⟨m11,objs,e11,g1,g2,g3⟩:=zHT (s1:=1+b9.tmod 6) (s22:=1+b8.tmod 2) (by omega) (by omega) k10;rw [e11];simp only [zJA];obtain ⟨b12,m12,e12,r12,k12⟩:=uP g1;rw [e12,zJA,zU (a:=1+b9.tmod 6+1) (by omega) (by omega),zo,zi];have t12:=uo r12.1 (show (0:Int)<1+b9.tmod 6+1 by omega);rw [zg3,zJA];obtain ⟨regs,progs,e13,f1,f2,f3,f4⟩:=zGm (s1:=1+b9.tmod 6) (s15:=b2.tmod 3) (s22:=1+b8.tmod 2) (by omega) (by omega) (by omega) k12;rw [e13];simp only [zJA];refine ⟨_,rfl,?_⟩;constructor<;>dsimp only
 case objs=>intro o ho;rw [g2];exact g3 o ho
 case roots=>exact ⟨b12.tmod (1+b9.tmod 6+1),by omega,by omega,by simp⟩
 case reg=>rw [g2];exact f3
 case prog=>exact f4
 all_goals first | omega | rfl
end B20
theorem zcp {α β B C:Type}{f:List α×Int×Int×β->Option (yD (List α×Int×Int×β) B C)}{l:List α}{e:β}{b:B}(hl:l.length<1000000)
  (h1:∀(i:Nat) (x:α),l[i]? =some x->f (l,(l.length:Int),(i:Int),e)=some (.again (l,(l.length:Int),((i+1:Nat):Int),e)))
  (h2:f (l,(l.length:Int),(l.length:Int),e)=some (.brk b)):zX f (l,(l.length:Int),0,e)=some (.brk b):=by
 refine (wS (f:=f) (fun a=>∃i:Nat,a=(l,(l.length:Int),(i:Int),e)/\i<=l.length) (fun a=>l.length-a.2.2.1.toNat) (fun o=>o= .brk b) ?_ (l,(l.length:Int),0,e) ⟨0,rfl,by omega⟩ (vC (by simp;omega))).elim fun o h=>?_;rotate_left
 .rw [h.1,h.2]
 .rintro _ ⟨i,rfl,hi⟩;rcases zKa i l.length with hlt | hge
  .refine ⟨_,h1 i _ (zJC hlt),⟨i+1,rfl,hlt⟩,?_⟩;show l.length-((i+1:Nat):Int).toNat<l.length-(i:Int).toNat;omega
  .have:i=l.length:=by omega
   subst this;exact ⟨_,h2,rfl⟩
theorem yZ {α:Type}{l:List α}{i:Nat}{x:α}(h:l[i]? =some x):idx l (i:Int)=some x:=by
 rw [vu];simpa using h
theorem ziz {α:Type}{l:List α}{i:Nat}{x:α}(h:l[i]? =some x):(i:Int)<(l.length:Int):=by
 have:=(zJK.1 h).1;omega
theorem yH {i:Nat}(h:i<1000000:=by omega):w64 ((i:Int)+1)=((i+1:Nat):Int):=by
 rw [zU];omega
theorem zhK (a b c:Int):uM a b c=some (decide (b<=a/\a<=c),()):=by
 rw [zuC,zo];by_cases h:b<=a
 .rw [zb h];simp [h]
 .rw [zc h];simp [h]
theorem zEg {l:List Int}{h:zq}(hl:l.length<1000000) (hv:∀v∈l,0<=v/\v<=(h.Objs.length:Int)):wj l h=some (false,()):=by
 rw [XU,WS,zcp (b:=()) hl (fun i x hx=>?_) (by rw [ug];simp)]
 .rfl
 .have hm:=hv x (zJG hx);have hlt:=ziz hx;rw [ug,zo,zb hlt,yZ hx,zJA,zqQ,zo,zc (show ¬x<0 by omega),zJA,yH];simp [show ¬(h.Objs.length:Int)<x by omega]
theorem zET {l:List Int}{n:Int}(hl:l.length<1000000) (hv:∀v∈l,0<=v/\v<=n):wI l n=some (false,()):=by
 rw [Wv,Vi,zcp (b:=()) hl (fun i x hx=>?_) (by rw [uu];simp)]
 .rfl
 .have hm:=hv x (zJG hx);have hlt:=ziz hx;rw [uu,yZ hx,zJA,zsV,zhK,zJA,zJA,yH,zo,zb hlt];simp [hm]
theorem zyg {l:List (List Int)}{h:zq}(hl:l.length<1000000) (hs:h.Slots<1000000) (hv:∀o∈l,(o.length:Int)=h.Slots/\∀v∈o,0<=v/\v<=(h.Objs.length:Int)):wo l h=some (false,()):=by
 rw [XZ,Wy,zcp (b:=()) hl (fun i x hx=>?_) (by rw [ue];simp)]
 .rfl
 .have hm:=hv x (zJG hx);have hlt:=ziz hx;rw [ue,yZ hx,zJA,zsU,ya,zb hm.1,zEg (by omega) hm.2,zJA,zJA,yH,zo,zb hlt];rfl
theorem zvr {r n:Int}(h:0<=r/\r<n) (h2:n<=4):yf r n=some (true,()):=by
 rw [zsG,zo,zb h.1,zo];rw [zi];simp [h.2]
theorem zHe {o:zw}{regs slots:Int}(h:zlG o regs slots) (h2:regs<=4) (h3:slots<=4):zlr o regs slots=some (true,()):=by
 obtain ⟨hr,h⟩:=h;have e1:=zvr hr h2;have h4: ¬4<slots:=by omega
 rw [zwk];rcases h with ⟨hk | hk,ha,hs⟩ | ⟨hk,ha,hs⟩ | ⟨hk | hk,ha,hs⟩
 .have e2:=zvr ha h2;simp [hk,e1,e2,hs.1,hs.2,h4]
 .have e2:=zvr ha h2;simp [hk,e1,e2,hs.1,hs.2,h4]
 .have e2:=zvr ha h2;simp [hk,e1,e2,hs]
 .simp [hk,e1,ha,hs]
 .simp [hk,e1,ha,hs]
theorem zHu {l:List zw}{regs slots:Int}(hl:(l.length:Int)<=64) (h:∀o∈l,zlG o regs slots) (h2:regs<=4) (h3:slots<=4):zol l regs slots=some (true,()):=by
 rw [zwN,zo,zb hl,YT,Xm,zcp (b:=()) (by omega) (fun i x hx=>?_) (by rw [vh];simp)]
 .rfl
 .have hlt:=ziz hx;rw [vh,yZ hx,zJA,zuB,zHe (h x (zJG hx)) h2 h3,zJA,zJA,yH,zo,zb hlt];rfl
theorem zF0 (a b:Int):zlf [] a b=some (true,()):=by
 rw [zwc,Z7,Yz,zcp (b:=()) (by simp) (fun i x hx=>by simp at hx) (by rw [Z6];simp)];rfl
def xz (n:Int):BitVec 64:=if n<1 then 0#64 else 18446744073709551615#64 >>> (64-min n 64).toNat
theorem zez (n:Int) (h:0<=n):Ug n=some (xz n,()):=by
 rw [zxv,zo];unfold xz;by_cases h1:n<1
 .rw [zb h1,zb h1]
 .rw [zc h1,zc h1];simp only [zo];have e:(if 64<n then (64:Int) else n)=min n 64:=by
   by_cases h2:64<n
   .rw [zb h2];omega
   .rw [zc h2];omega
  rw [e,zU,zi,Nat.min_eq_left (by omega)]
theorem zyu:∀(r n:Fin 7),r.1<=n.1->bit (r.1:Int)&&& ~~~xz (n.1:Int)=0#64:=by decide
theorem ztp {p:zd}(h:zD p):p.Roots&&& ~~~xz (p.H.Objs.length:Int)=0#64:=by
 obtain ⟨r,h1,h2,h3⟩:=h.roots;have hn:=h.n;have:=zyu ⟨r.toNat,by omega⟩ ⟨p.H.Objs.length,by omega⟩ (by show r.toNat<=p.H.Objs.length;omega);rw [h3];simpa [Int.toNat_of_nonneg h1] using this
theorem zEr {p:zd}(h:zD p):zcY p=some (true,()):=by
 obtain ⟨h1,h2,h3,h4,h5,h6,h7,_⟩:=h;rw [zpT];simp only [zhK,zJA,zo];rw [zY,zY,zY,zY,zY,zb (by split<;>omega)];have:(if p.Price<p.Limit then p.Limit else p.Price)<=1000000:=by split<;>omega
 simp [this]
theorem zDH {p:zd}(h:zD p):Xj p.H=some (true,()):=by
 have:=h.slots;have:=h.n;rw [znA,zo,zY,zo,zY,zo,zY,zyg (by omega) (by omega) h.objs];rfl
theorem zDI {p:zd}(h:zD p):zme p=some (true,()):=by
 have hn:=h.n;have hm:=h.most;have hsl:=h.slots;have hmt:=h.mt;have hrl:=h.regs;have hpl:=h.progs;rw [zu9,zEr h];simp only [zJA,zJQ,cond_false,zDH h,zhK];rw [show decide ((p.H.Objs.length:Int)<=p.Most/\p.Most<=64)=true by simp;omega];simp only [zJQ,cond_false,zez _ (show (0:Int)<=(p.H.Objs.length:Int) by omega),zJA,ZP,ztp h,decide_true,ya,zb h.regs,zb h.progs];rw [zcp (b:=(p,())) (by omega) (fun i x hx=>?_) (by rw [zh7];simp)]
 .simp [h.picks,zF0]
 .have hlt:=ziz hx;have hr:=h.reg x (zJG hx);obtain ⟨ops,hops⟩:∃ops,p.Progs[i]? =some ops:=⟨_,zJC (by omega)⟩
  obtain ⟨o1,o2⟩:=h.prog i x ops hx hops;rw [zh7,zo,zb hlt,yZ hx];simp only [zJA,zhK];rw [show decide (1<=(x.length:Int)/\(x.length:Int)<=4)=true by simp;omega];simp only [zJQ,cond_false,zET (show x.length<1000000 by omega) hr.2,zJA,yZ hops,zHu (show (ops.length:Int)<=64 by omega) o2 (show (x.length:Int)<=4 by omega) (show p.H.Slots<=4 by omega),yH (show i<1000000 by omega)]
theorem zmc {n:Int}(h:0<=n) (h2:n<4294967296):W4 n=some n.toNat:=by rw [znv];simp [h,h2]
theorem zyf {n:Int}(h:0<n) (h2:n<4294967296):zix n=some n.toNat:=by rw [zve];simp [h,h2]
def Uw (l:List Int):BitVec 64:=l.foldl (fun s o=>s|||bit o) 0#64
def uV (p:zd):BitVec 64:=p.Regs.foldl (fun s l=>s|||Uw l) p.Roots
def zHj (a1:BitVec 64):BitVec 64 :=
 let a:=((a1 >>> 1)&&&6148914691236517205#64)+(a1&&&6148914691236517205#64);let b:=((a >>> 2)&&&3689348814741910323#64)+(a&&&3689348814741910323#64);let c:=((b >>> 4)+b)&&&1085102592571150095#64;let d:=c+(c >>> 8);let e:=d+(d >>> 16)
 e+(e >>> 32)
def cnt (s:BitVec 64):Int:=(BitVec.ofInt 64 (zHj s).toInt&&&BitVec.ofInt 64 127).toInt
theorem ziM (s:BitVec 64):Wt s=some (cnt s,()):=by
 rw [zxO,zoR,zAw];rfl
theorem Wf {m:List Int}(h:m.length<4294967296):yM m=some (m,()):=by
 rw [zi9,zJM,yC h,zJA];cases m with
 | nil=>simp [zee]
 | cons a l=>simp
theorem zAT {l:List Int}(hl:l.length<1000000):zkY l=some (Uw l,()):=by
 rw [zCn];refine (wS (f:=znZ) (fun a=>∃i:Nat,a=((l.take i).foldl (fun s o=>s|||bit o) 0#64,l,(l.length:Int),(i:Int),())/\i<=l.length) (fun a=>l.length-a.2.2.2.1.toNat) (fun o=>o= .brk (Uw l,())) ?_ (0#64,l,(l.length:Int),0,()) ⟨0,rfl,by omega⟩ (vC (by simp;omega))).elim fun o h=>?_;rotate_left
 .rw [h.1,h.2];rfl
 .rintro _ ⟨i,rfl,hi⟩;rw [zwJ,zo];rcases zKa i l.length with hlt | hge
  .have hx:=zJC hlt;rw [zY,yZ hx,zJA,zg3,zJA,yH];refine ⟨_,rfl,⟨i+1,?_,hlt⟩,?_⟩
   .rw [zKU,hx];simp only [Option.toList_some,List.foldl_append,zKq,List.foldl_nil]
   .show l.length-((i+1:Nat):Int).toNat<l.length-(i:Int).toNat;omega
  .rw [zi];have:i=l.length:=by omega
   subst this;exact ⟨_,rfl,by rw [zLf];rfl⟩
theorem zwm {p:zd}(hl:p.Regs.length<1000000) (hr:∀r∈p.Regs,r.length<1000000):zeO p=some (uV p,()):=by
 rw [zwp];refine (wS (f:=zfb) (fun a=>∃i:Nat,a=((p.Regs.take i).foldl (fun s l=>s|||Uw l) p.Roots,p.Regs,(p.Regs.length:Int),(i:Int),())/\i<=p.Regs.length) (fun a=>p.Regs.length-a.2.2.2.1.toNat) (fun o=>o= .brk (uV p,())) ?_ (p.Roots,p.Regs,(p.Regs.length:Int),0,()) ⟨0,rfl,by omega⟩ (vC (by simp;omega))).elim fun o h=>?_;rotate_left
 .rw [h.1,h.2];rfl
 .rintro _ ⟨i,rfl,hi⟩;rw [zsi,zo];rcases zKa i p.Regs.length with hlt | hge
  .have hx:=zJC hlt;rw [zY,yZ hx,zJA,zAT (hr _ (zJY hlt)),zJA,yH];refine ⟨_,rfl,⟨i+1,?_,hlt⟩,?_⟩
   .rw [zKU,hx];simp only [Option.toList_some,List.foldl_append,zKq,List.foldl_nil]
   .show p.Regs.length-((i+1:Nat):Int).toNat<p.Regs.length-(i:Int).toNat;omega
  .rw [zi];have:i=p.Regs.length:=by omega
   subst this;exact ⟨_,rfl,by rw [zLf];rfl⟩
theorem zFd {l:List (List Int)}(hl:l.length<1000000) (h:∀r∈l,r.length<1000000):vi l=some (l,()):=by
 have key:∀n:Int,n=(l.length:Int)->zX yR (n,0,l,())=some (.brk (l,())):=by
  rintro _ rfl;refine (wS (f:=yR) (fun a=>∃i:Nat,a=((l.length:Int),(i:Int),l,())/\i<=l.length) (fun a=>l.length-a.2.1.toNat) (fun o=>o= .brk (l,())) ?_ ((l.length:Int),0,l,()) ⟨0,rfl,by omega⟩ (vC (by simp;omega))).elim fun o h=>?_;rotate_left
  .rw [h.1,h.2]
  .rintro _ ⟨i,rfl,hi⟩;rw [WZ,zo];rcases zKa i l.length with hlt | hge
   .have hx:=zJC hlt;have hr:=h _ (zJY hlt);have e:xM l (i:Int)=some i:=by rw [ve];simp
    rw [zY,e];simp only [zJA];rw [hx,zJA,Wf (by omega),zJA,yH];refine ⟨_,rfl,⟨i+1,by simp,hlt⟩,?_⟩;show l.length-((i+1:Nat):Int).toNat<l.length-(i:Int).toNat;omega
   .rw [zi];have:i=l.length:=by omega
    subst this;exact ⟨_,rfl,rfl⟩
 have hc:W4 (l.length:Int)=some l.length:=by rw [zmc (by omega) (by omega)];simp
 rw [VO];simp only [decide_true,cond_true,hc,zJA,zKf];cases l with
 | nil=>simp;rw [key 0 rfl];rfl
 | cons a r=>simp only [List.isEmpty_cons,cond_false];rw [key _ rfl];rfl
def zin (cap:Int):List (BitVec 64):=[1#64,1#64]++List.replicate cap.toNat 0#64
theorem zCy {c:Int}(h:1<=c) (h2:c<=64):zi7 c=some (zin c,()):=by
 have e:(if 64<(if c<1 then (1:Int) else c) then (64:Int) else (if c<1 then (1:Int) else c))=c:=by
  rw [zc (show ¬c<1 by omega),zi]
 have w:w64 (2+c)=2+c:=zU;have hc:W4 (2+c)=some (2+c.toNat):=by rw [zmc (by omega) (by omega)];congr 1;omega
 rw [zuv];simp only [zo,e,w,if_true,hc,zJA];rw [ve (by omega) (by simp;omega),zJA,ve (by omega) (by simp;omega),zJA];have e2:List.replicate (2+c.toNat) 0#64=0#64::0#64::List.replicate c.toNat 0#64:=by rw [Nat.add_comm 2];rfl
 rw [e2];rfl
theorem zDJ {m:Int}(h:0<=m) (h2:m<=16):zlP m=some (⟨0,0,0,List.replicate m.toNat 0⟩,()):=by
 have e:(if (if 16<m then (16:Int) else m)<0 then (0:Int) else (if 16<m then (16:Int) else m))=m:=by
  rw [zc (show ¬16<m by omega),zi]
 have hc:W4 m=some m.toNat:=zmc (by omega) (by omega);rw [zvK];simp only [zo,e,if_true,hc,zJA]
def links (m:List (BitVec 64)) (next:Int):List Int->List (BitVec 64)
 | []=>m
 | [a]=>st m (wc (next+a)) 0#64
 | a::b::l=>links (st m (wc (next+a)) (BitVec.ofInt 64 b)) next (b::l)
def zdU (m:List (BitVec 64)) (head next:Int) (l:List Int):List (BitVec 64):=st (links m next l) head (xw 0#64 (l.headD 0))
theorem Yk (m:List (BitVec 64)) (a:Int) (v:BitVec 64):(st m a v).length=m.length:=by unfold st;split<;>simp
theorem zek:∀(l:List Int) (m:List (BitVec 64)) (n:Int),(links m n l).length=m.length
 | [],_,_=>rfl
 | [a],m,n=>Yk _ _ _
 | a::b::l,m,n=>by simp only [links];rw [zek (b::l),Yk]
theorem zup (m:List (BitVec 64)) (h n:Int) (l:List Int):(zdU m h n l).length=m.length:=by unfold zdU;rw [Yk,zek]
theorem ztY {head next:Int}{l:List Int}(hl:l.length<1000000):∀(k:Nat) (m:List (BitVec 64)) (i:Nat),l.length-i=k->i<=l.length->m.length<4294967296 ->
  ∀n,k<n->yK zgX n (m,head,next,l,(l.length:Int),(i:Int),())=some (.brk (links m next (l.drop i),head,l,()))
 | 0,m,i,hk,hi,hm,n+1,hn=>by
  have:i=l.length:=by omega
  subst this;simp only [yK];rw [zjL,zo,zi,zJA,List.drop_length];rfl
 | k+1,m,i,hk,hi,hm,n+1,hn=>by
  have hlt:i<l.length:=by omega
  have hx:=zJC hlt;simp only [yK];rw [zjL,zo,zY,yH,zo,xC];by_cases h2:i+1<l.length
  .have hy:=zJC h2;have ed:l.drop i=l[i]::l[i+1]::l.drop (i+2):=by
    rw [zKg hlt,zKg h2]
   rw [zY,yZ hy,zJA,yZ hx,zJA,zdf hm,zJA,zJA];dsimp only;rw [ztY hl k _ (i+1) (by omega) (by omega) (by rw [Yk];exact hm) n (by omega),ed];rw [zKg h2];rfl
  .have ed:l.drop i=[l[i]]:=by
    rw [zKg hlt,zLa (by omega)]
   rw [zi,yZ hx,zJA,zdf hm,zJA,zJA];dsimp only;rw [ztY hl k _ (i+1) (by omega) (by omega) (by rw [Yk];exact hm) n (by omega),ed,zLa (by omega)];rfl
theorem zyp {m:List (BitVec 64)}(hm:m.length<4294967296) {head next:Int}{l:List Int}(hl:l.length<1000000):zhD m head next l=some (zdU m head next l,()):=by
 have e:=ztY (head:=head) (next:=next) hl l.length m 0 (by omega) (by omega) hm vv (vC (by omega));rw [show ((0:Nat):Int)=0 from rfl] at e;rw [zwO,YI,e];simp only [zJA,List.drop_zero,zo];unfold zdU;cases l with
 | nil =>
  rw [zc (by simp),zkI,zJA,zdf (by rw [zek];exact hm)];rfl
 | cons a r =>
  have:idx (a::r) 0=some a:=by rw [vu];rfl
  rw [zb (by simp),this,zJA,zkI,zJA,zdf (by rw [zek];exact hm)];rfl
def zp3:Nat->BitVec 64->Option (List Int)
 | 0,_=>none
 | f+1,s=>bif decide (s=0#64) then some [] else (zp3 f (s&&&(s-1#64))).map fun l=>(((Go.Lib.ctz 64 s.toNat:Nat):Int)+1)::l
theorem zCF:∀t:Fin 64,zp3 66 (BitVec.ofNat 64 t.1)=some (((List.range 6).filter fun i=>(BitVec.ofNat 64 t.1).getLsbD i).map fun i:Nat=>(i:Int)+1):=by decide +kernel
def Va (s:BitVec 64):List Int:=((List.range 6).filter fun i=>s.getLsbD i).map fun i:Nat=>(i:Int)+1
theorem zAc {s:BitVec 64}(h:s&&& ~~~63#64=0#64):∃t:Fin 64,s=BitVec.ofNat 64 t.1:=by
 have h2:s=s&&&63#64:=by
  apply zK5;intro i hi;have:=congrArg (fun x=>x.getLsbD i) h;simp only [zKO,zLg,hi,decide_true,zKz,zK6] at this ⊢;cases h1:s.getLsbD i<;>cases h3:(63#64:BitVec 64).getLsbD i<;>simp_all
 have h3:s.toNat<64:=by
  rw [h2,zKF];exact zLh Nat.and_le_right (by decide)
 exact ⟨⟨s.toNat,h3⟩,by simp⟩
theorem zJm:∀t:Fin 64,Go.Lib.ctz 64 t.1<=64:=by decide +kernel
theorem zyD:∀(f:Nat) (s:BitVec 64),s.toNat<64->zag f s=zp3 f s
 | 0,_,_=>rfl
 | f+1,s,h=>by
  simp only [zag,zp3];rw [zyD f _ (by rw [zKF];exact zLh Nat.and_le_left h)];have:Go.Lib.ctz 64 s.toNat<=64:=zJm ⟨s.toNat,h⟩;have e:w64 (tz s+1)=((Go.Lib.ctz 64 s.toNat:Nat):Int)+1:=by
   unfold tz;exact zU
  rw [e]
theorem zpS:∀(l acc:List Int),(acc.length+l.length)<4294967296->Zw zjv l (acc,())=some (acc++l,())
 | [],acc,_=>by simp [Zw]
 | a::l,acc,h=>by
  simp only [zJS] at h;rw [Zw,zuy,yC (by simp;omega),zJA,zJA,zpS l _ (by simp;omega)];simp
theorem zFu (s:BitVec 64):(Va s).length<=6:=by
 unfold Va;rw [zKv];exact zKG (zKN _ _) (by simp)
theorem zHf {s:BitVec 64}(h:s&&& ~~~63#64=0#64):zfh s=some (Va s,()):=by
 obtain ⟨t,rfl⟩:=zAc h;have e:zkT (BitVec.ofNat 64 t.1)=some (Va (BitVec.ofNat 64 t.1)):=by
  show zag 66 _=_;rw [zyD 66 _ (by simp;omega),zCF t];rfl
 have:=zFu (BitVec.ofNat 64 t.1);rw [zqy,zqx,zJA,e,zJA,zpS _ _ (by simp;omega)];rfl
theorem zvd (n:Nat) (hn:1<=n):∀(f:Nat) (l:List Int),(vQ n f l).length<=l.length
 | 0,l=>by simp [vQ]
 | f+1,[]=>by simp [vQ]
 | f+1,x::l=>by
  have:=zvd n hn f ((x::l).drop n);simp only [vQ,zJS,zKR] at this ⊢;omega
theorem znV (n:Nat):∀(f:Nat) (l c:List Int),c∈vQ n f l->c.length<=l.length
 | 0,l,c,h=>by simp [vQ] at h
 | f+1,[],c,h=>by simp [vQ] at h
 | f+1,x::l,c,h=>by
  simp only [vQ,zJT] at h;rcases h with rfl | h
  .rw [zKK];exact Nat.min_le_right _ _
  .have:=znV n f _ c h;simp only [zKR] at this;omega
def vX (p:zd) (w:Nat):zk:=⟨0,0,0,(w:Int)+1,0,[],⟨2,0,zR p ((w:Int)+1),p.Cap,0#64,0#64,0,0⟩,⟨0,0,0,0,0#64,0,0,0⟩,⟨0,0,0,0,⟨0,0,0,0,0#64,0#64,0,0⟩,⟨0,0,0,0,0#64,0,0,0⟩,0,0⟩⟩
def Y4 (p:zd) (k:Nat):List (BitVec 64):=(List.range k).flatMap fun _=>zin p.Cap
theorem zvN (c:Int):(zin c).length=c.toNat+2:=by unfold zin;rw [zJN,zKf];exact Nat.add_comm _ _
theorem znK (p:zd) (k:Nat):Y4 p (k+1)=Y4 p k++zin p.Cap:=by unfold Y4;rw [zKY,zKZ];simp
theorem zaJ (p:zd):∀k,(Y4 p k).length=k*(p.Cap.toNat+2)
 | 0=>by simp [Y4]
 | k+1=>by rw [znK,zJN,zaJ p k,zvN,Nat.succ_mul]
theorem zIF {p:zd}{s1:BitVec 64}{s5:Int}{s6:Int}{s7:Int}{s8:Int}{s9:Int}{s10:Int}{s11:Int}{s12:Int}{s13:Int}{s14:BitVec 64}{s15:Int}{s16:zm}{s17:Int}{s18:Int}{s19:Bool}{s20:Bool}{s21:Int}{s22:Int}{s23:Int}{s24:Int}{s25:zE}{s26:zd}{s27:Int}{s28:zm}{s29:Int}{s30:Int}{s31:Bool}{s32:Bool}{s33:Int}{s34:zr}{s35:zE}{s36:List (List Int)}{s37:List (List Int)}{s38:List (List zw)}{s39:List zj}{s40:List (List Int)}{s41:List (BitVec 64)}{s42:List (List Int)}{s43:List Int}{s44:List Int}{s45:List zk}{s46:List ze}{s47:List (List Int)}{s49:List (List Int)}{s50:List Int}{s52:List ze}(hp:zD p) :
  zX zcE (s1,p.Workers,0,p,s5,s6,s7,s8,s9,s10,s11,s12,s13,s14,s15,s16,s17,s18,s19,s20,s21,s22,s23,s24,s25,s26,s27,s28,s29,s30,s31,s32,s33,s34,s35,s36,s37,s38,s39,s40,s41,s42,s43,s44,s45,s46,s47,[],s49,s50,[],s52,())=some (.brk (s1,p,s5,s6,s7,s8,s9,s10,s11,s12,s13,s14,s15,s16,s17,s18,s19,s20,s21,s22,s23,s24,s25,s26,s27,s28,s29,s30,s31,s32,s33,s34,s35,s36,s37,s38,s39,s40,s41,s42,s43,s44,s45,s46,s47,(Y4 p p.Workers.toNat),s49,s50,((List.range p.Workers.toNat).map (vX p)),s52,())):=by
 have hw:=hp.wk;have hc:=hp.cap;refine (wS (f:=zcE) (fun a=>∃i:Nat,a=(s1,p.Workers,(i:Int),p,s5,s6,s7,s8,s9,s10,s11,s12,s13,s14,s15,s16,s17,s18,s19,s20,s21,s22,s23,s24,s25,s26,s27,s28,s29,s30,s31,s32,s33,s34,s35,s36,s37,s38,s39,s40,s41,s42,s43,s44,s45,s46,s47,(Y4 p i),s49,s50,((List.range i).map (vX p)),s52,())/\(i:Int)<=p.Workers) (fun a=>(p.Workers-a.2.2.1).toNat) (fun o=>o= .brk (s1,p,s5,s6,s7,s8,s9,s10,s11,s12,s13,s14,s15,s16,s17,s18,s19,s20,s21,s22,s23,s24,s25,s26,s27,s28,s29,s30,s31,s32,s33,s34,s35,s36,s37,s38,s39,s40,s41,s42,s43,s44,s45,s46,s47,(Y4 p p.Workers.toNat),s49,s50,((List.range p.Workers.toNat).map (vX p)),s52,())) ?_ (s1,p.Workers,0,p,s5,s6,s7,s8,s9,s10,s11,s12,s13,s14,s15,s16,s17,s18,s19,s20,s21,s22,s23,s24,s25,s26,s27,s28,s29,s30,s31,s32,s33,s34,s35,s36,s37,s38,s39,s40,s41,s42,s43,s44,s45,s46,s47,[],s49,s50,[],s52,()) ⟨0,rfl,by omega⟩ (vC (by dsimp only;omega))).elim fun o h=>?_;rotate_left
 .rw [h.1,h.2]
 .rintro _ ⟨i,rfl,hi⟩;rw [zs0,zo];by_cases hlt:(i:Int)<p.Workers
  .have hl:=zaJ p i;have hl2:=zvN p.Cap;have hb:i*(p.Cap.toNat+2)<=3*5:=zK0 (by omega) (by omega);rw [zb hlt,zCy hc.1 (by omega),zJA,yC (l:=Y4 p i++zin p.Cap) (by rw [zJN];omega),zJA,za7,zJA,zaO,zJA,yC (by simp<;>omega),zJA,yH];refine ⟨_,rfl,⟨i+1,?_,by omega⟩,?_⟩
   .rw [znK,zKY,List.map_append];rfl
   .show (p.Workers-((i+1:Nat):Int)).toNat<(p.Workers-(i:Int)).toNat;omega
  .rw [zc hlt];have:i=p.Workers.toNat:=by omega
   subst this;exact ⟨_,rfl,rfl⟩
def xI (k:Nat):List Int:=(List.range k).map fun i:Nat=>(i:Int)+1
theorem zzI (k:Nat):(xI k).length=k:=by simp [xI]
theorem zHz {b:Int}{s1:BitVec 64}{s4:zd}{s5:Int}{s6:Int}{s7:Int}{s8:Int}{s9:Int}{s10:Int}{s11:Int}{s12:Int}{s13:Int}{s14:BitVec 64}{s15:Int}{s16:zm}{s17:Int}{s18:Int}{s19:Bool}{s20:Bool}{s21:Int}{s22:Int}{s23:Int}{s24:Int}{s25:zE}{s26:zd}{s27:Int}{s28:zm}{s29:Int}{s30:Int}{s31:Bool}{s32:Bool}{s33:Int}{s34:zr}{s35:zE}{s37:List (List Int)}{s38:List (List Int)}{s39:List (List zw)}{s40:List zj}{s41:List (List Int)}{s42:List (BitVec 64)}{s43:List (List Int)}{s44:List Int}{s45:List Int}{s46:List zk}{s47:List ze}{s48:List (List Int)}{s49:List (BitVec 64)}{s50:List (List Int)}{s51:List Int}{s52:List zk}{s53:List ze}(hb:0<=b/\b<1000) :
  zX zbG (s1,b,0,s4,s5,s6,s7,s8,s9,s10,s11,s12,s13,s14,s15,s16,s17,s18,s19,s20,s21,s22,s23,s24,s25,s26,s27,s28,s29,s30,s31,s32,s33,s34,s35,[],s37,s38,s39,s40,s41,s42,s43,s44,s45,s46,s47,s48,s49,s50,s51,s52,s53,())=some (.brk (s1,s4,s5,s6,s7,s8,s9,s10,s11,s12,s13,s14,s15,s16,s17,s18,s19,s20,s21,s22,s23,s24,s25,s26,s27,s28,s29,s30,s31,s32,s33,s34,s35,(xI b.toNat),s37,s38,s39,s40,s41,s42,s43,s44,s45,s46,s47,s48,s49,s50,s51,s52,s53,())):=by
 refine (wS (f:=zbG) (fun a=>∃i:Nat,a=(s1,b,(i:Int),s4,s5,s6,s7,s8,s9,s10,s11,s12,s13,s14,s15,s16,s17,s18,s19,s20,s21,s22,s23,s24,s25,s26,s27,s28,s29,s30,s31,s32,s33,s34,s35,(xI i),s37,s38,s39,s40,s41,s42,s43,s44,s45,s46,s47,s48,s49,s50,s51,s52,s53,())/\(i:Int)<=b) (fun a=>(b-a.2.2.1).toNat) (fun o=>o= .brk (s1,s4,s5,s6,s7,s8,s9,s10,s11,s12,s13,s14,s15,s16,s17,s18,s19,s20,s21,s22,s23,s24,s25,s26,s27,s28,s29,s30,s31,s32,s33,s34,s35,(xI b.toNat),s37,s38,s39,s40,s41,s42,s43,s44,s45,s46,s47,s48,s49,s50,s51,s52,s53,())) ?_ (s1,b,0,s4,s5,s6,s7,s8,s9,s10,s11,s12,s13,s14,s15,s16,s17,s18,s19,s20,s21,s22,s23,s24,s25,s26,s27,s28,s29,s30,s31,s32,s33,s34,s35,[],s37,s38,s39,s40,s41,s42,s43,s44,s45,s46,s47,s48,s49,s50,s51,s52,s53,()) ⟨0,rfl,by omega⟩ (vC (by dsimp only;omega))).elim fun o h=>?_;rotate_left
 .rw [h.1,h.2]
 .rintro _ ⟨i,rfl,hi⟩;rw [zq7,zo];by_cases hlt:(i:Int)<b
  .have:=zzI i;rw [zb hlt,yC (by rw [zJN];simp;omega),zJA,yH];refine ⟨_,rfl,⟨i+1,?_,by omega⟩,?_⟩
   .unfold xI;rw [zKY,List.map_append];rfl
   .show (b-((i+1:Nat):Int)).toNat<(b-(i:Int)).toNat;omega
  .rw [zc hlt];have:i=b.toNat:=by omega
   subst this;exact ⟨_,rfl,rfl⟩
theorem zCN {s1:zd}{s2:Int}{s3:Int}{s4:Int}{s5:Int}{s6:Int}{s7:Int}{s8:Int}{s9:Int}{s10:Int}{s11:BitVec 64}{s12:Int}{s13:zm}{s14:Int}{s15:Int}{s16:Bool}{s17:Bool}{s18:Int}{s19:Int}{s20:Int}{s21:Int}{s22:zE}{s23:zd}{s24:Int}{s25:zm}{s26:Int}{s27:Int}{s28:Bool}{s29:Bool}{s30:Int}{s31:zr}{s32:zE}{s33:List Int}{s34:List (List Int)}{s35:List (List Int)}{s36:List (List zw)}{s37:List zj}{s38:List (List Int)}{s39:List (BitVec 64)}{s40:List (List Int)}{s41:List Int}{s42:List Int}{s43:List zk}{s44:List ze}{s45:List (List Int)}{s46:List (BitVec 64)}{s48:List Int}{s49:List zk}{s50:List ze}:∀(ys acc:List (List Int)),acc.length+ys.length<1000000->(∀c∈ys,c.length<1000000)->Zw ze5 ys (s1,s2,s3,s4,s5,s6,s7,s8,s9,s10,s11,s12,s13,s14,s15,s16,s17,s18,s19,s20,s21,s22,s23,s24,s25,s26,s27,s28,s29,s30,s31,s32,s33,s34,s35,s36,s37,s38,s39,s40,s41,s42,s43,s44,s45,s46,acc,s48,s49,s50,())=some (s1,s2,s3,s4,s5,s6,s7,s8,s9,s10,s11,s12,s13,s14,s15,s16,s17,s18,s19,s20,s21,s22,s23,s24,s25,s26,s27,s28,s29,s30,s31,s32,s33,s34,s35,s36,s37,s38,s39,s40,s41,s42,s43,s44,s45,s46,(acc++ys),s48,s49,s50,())
 | [],acc,_,_=>by simp [Zw]
 | y::ys,acc,h,hc=>by
  simp only [zJS] at h;have hy:=hc y (zJW ..);rw [Zw,zrU,Wf (by omega),zJA,yC (by simp<;>omega),zJA,zJA,zCN ys _ (by simp<;>omega) (fun c h'=>hc c (zJI _ h'))];simp
def wR (r:List Int):ze:=⟨0,0,0,0,0,0,0,0,r,[],[],⟨0,0,0,0,0#64,0,0,0⟩,⟨0,0,0,0,⟨0,0,0,0,0#64,0#64,0,0⟩,⟨0,0,0,0,0#64,0,0,0⟩,0,0⟩⟩
theorem zHQ {p:zd}{s4:Int}{s5:Int}{s6:Int}{s7:Int}{s8:Int}{s9:Int}{s10:Int}{s11:Int}{s12:Int}{s13:BitVec 64}{s14:Int}{s15:zm}{s16:Int}{s17:Int}{s18:Bool}{s19:Bool}{s20:Int}{s21:Int}{s22:Int}{s23:Int}{s24:zE}{s25:zd}{s26:Int}{s27:List (BitVec 64)}{s28:zm}{s29:Int}{s30:Int}{s31:Bool}{s32:Bool}{s33:Int}{s34:zr}{s35:zE}{s36:List (List Int)}{s37:List (List Int)}{s38:List (List zw)}{s39:List zj}{s40:List (List Int)}{s41:List (BitVec 64)}{s42:List (List Int)}{s43:List Int}{s44:List Int}{s45:List zk}{s46:List ze}{s47:List (List Int)}{s48:List (List Int)}{s49:List Int}{s50:List zk}(hl:p.Regs.length<1000000) (hr:∀r∈p.Regs,r.length<1000000) :
  zX zbt (p.Regs,(p.Regs.length:Int),0,s4,s5,s6,s7,s8,s9,s10,s11,s12,s13,s14,s15,s16,s17,s18,s19,s20,s21,s22,s23,s24,s25,s26,s27,s28,s29,s30,s31,s32,s33,s34,s35,s36,s37,s38,s39,s40,s41,s42,s43,s44,s45,s46,s47,s48,s49,s50,[],())=some (.brk (s4,s5,s6,s7,s8,s9,s10,s11,s12,s13,s14,s15,s16,s17,s18,s19,s20,s21,s22,s23,s24,s25,s26,s27,s28,s29,s30,s31,s32,s33,s34,s35,s36,s37,s38,s39,s40,s41,s42,s43,s44,s45,s46,s47,s48,s49,s50,(p.Regs.map wR),())):=by
 refine (wS (f:=zbt) (fun a=>∃i:Nat,a=(p.Regs,(p.Regs.length:Int),(i:Int),s4,s5,s6,s7,s8,s9,s10,s11,s12,s13,s14,s15,s16,s17,s18,s19,s20,s21,s22,s23,s24,s25,s26,s27,s28,s29,s30,s31,s32,s33,s34,s35,s36,s37,s38,s39,s40,s41,s42,s43,s44,s45,s46,s47,s48,s49,s50,((p.Regs.take i).map wR),())/\i<=p.Regs.length) (fun a=>p.Regs.length-a.2.2.1.toNat) (fun o=>o= .brk (s4,s5,s6,s7,s8,s9,s10,s11,s12,s13,s14,s15,s16,s17,s18,s19,s20,s21,s22,s23,s24,s25,s26,s27,s28,s29,s30,s31,s32,s33,s34,s35,s36,s37,s38,s39,s40,s41,s42,s43,s44,s45,s46,s47,s48,s49,s50,(p.Regs.map wR),())) ?_ (p.Regs,(p.Regs.length:Int),0,s4,s5,s6,s7,s8,s9,s10,s11,s12,s13,s14,s15,s16,s17,s18,s19,s20,s21,s22,s23,s24,s25,s26,s27,s28,s29,s30,s31,s32,s33,s34,s35,s36,s37,s38,s39,s40,s41,s42,s43,s44,s45,s46,s47,s48,s49,s50,[],()) ⟨0,rfl,by omega⟩ (vC (by dsimp only;omega))).elim fun o h=>?_;rotate_left
 .rw [h.1,h.2]
 .rintro _ ⟨i,rfl,hi⟩;rw [zrx,zo];rcases zKa i p.Regs.length with hlt | hge
  .have hx:=zJC hlt;have hh:=hr _ (zJY hlt);rw [zY,yZ hx,zJA,Wf (by omega),zJA,yC (by simp<;>omega),zJA,yH];refine ⟨_,rfl,⟨i+1,?_,hlt⟩,?_⟩
   .rw [zKU,hx,List.map_append];rfl
   .show p.Regs.length-((i+1:Nat):Int).toNat<p.Regs.length-(i:Int).toNat;omega
  .rw [zi];have:i=p.Regs.length:=by omega
   subst this;exact ⟨_,rfl,by rw [zLf]⟩
def z5 (p:zd):Nat:=(p.Most+p.Workers+p.Mutators).toNat
def xn (p:zd):List (List Int):=vQ p.Bin.toNat (Va (uV p)).length (Va (uV p))
def xl (p:zd):za :=
 {P:=p,H:=p.H,
  M:=zdU (zdU (Y4 p p.Workers.toNat++List.replicate (2+z5 p) 0#64) (yc p) (zJ p) ((xI (z5 p)).take (xn p).length)) (zJ p) (zJ p) ((xI (z5 p)).drop (xn p).length),
  Bins:=[[]]++xn p++List.replicate (z5 p-(xn p).length) [],
  T:=⟨uV p,0#64⟩,Work:=cnt (uV p),Epoch:=0,Flag:=false,Done:=false,Restarts:=0,
  Acks:=List.replicate p.Mutators.toNat 0,L:=⟨0,0,0,List.replicate p.Mutators.toNat 0⟩,
  Ws:=(List.range p.Workers.toNat).map (vX p),Ms:=p.Regs.map wR,D:=⟨0,0⟩}
theorem zFM {r n:Int}(h:0<=r) (h2:r<=n) (h3:n<=6):bit r&&& ~~~xz n=0#64:=by
 have:=zyu ⟨r.toNat,by omega⟩ ⟨n.toNat,by omega⟩ (by show r.toNat<=n.toNat;omega);simpa [Int.toNat_of_nonneg h,Int.toNat_of_nonneg (show 0<=n by omega)] using this
theorem zAK {a b c:BitVec 64}(ha:a&&& ~~~c=0#64) (hb:b&&& ~~~c=0#64):(a|||b)&&& ~~~c=0#64:=by
 apply zK5;intro i hi;have h1:=congrArg (fun x=>x.getLsbD i) ha;have h2:=congrArg (fun x=>x.getLsbD i) hb;simp only [zKO,BitVec.getLsbD_or,zLg,zK6,hi,decide_true,zKz] at h1 h2 ⊢;revert h1 h2;generalize a.getLsbD i=x;generalize b.getLsbD i=y;generalize c.getLsbD i=z;cases x<;>cases y<;>cases z<;>decide
theorem zDT {c:BitVec 64}{l:List Int}(h:∀o∈l,bit o&&& ~~~c=0#64):∀(z:BitVec 64),z&&& ~~~c=0#64->l.foldl (fun s o=>s|||bit o) z&&& ~~~c=0#64:=by
 induction l with
 | nil=>intro z hz;exact hz
 | cons a l ih=>intro z hz;exact ih (fun o ho=>h o (zJI _ ho)) _ (zAK hz (h a (zJW ..)))
theorem zoa {p:zd}(h:zD p):uV p&&& ~~~xz (p.H.Objs.length:Int)=0#64:=by
 have hn:=h.n;have key:∀(L:List (List Int)) (z:BitVec 64),(∀r∈L,∀v∈r,0<=v/\v<=(p.H.Objs.length:Int))->z&&& ~~~xz (p.H.Objs.length:Int)=0#64->L.foldl (fun s l=>s|||Uw l) z&&& ~~~xz (p.H.Objs.length:Int)=0#64:=by
  intro L
  induction L with
  | nil=>intro z _ hz;exact hz
  | cons r L ih =>
   intro z hr hz;refine ih _ (fun r' h'=>hr r' (zJI _ h')) (zAK hz (zDT (fun o ho=>?_) _ (by simp)));have:=hr r (zJW ..) o ho;exact zFM this.1 this.2 hn.2
 exact key _ _ (fun r hr=>(h.reg r hr).2) (ztp h)
theorem zCe {a b c:BitVec 64}(h:a&&& ~~~b=0#64) (h2:b&&& ~~~c=0#64):a&&& ~~~c=0#64:=by
 apply zK5;intro i hi;have h1:=congrArg (fun x=>x.getLsbD i) h;have h2:=congrArg (fun x=>x.getLsbD i) h2;simp only [zKO,zLg,zK6,hi,decide_true,zKz] at h1 h2 ⊢;revert h1 h2;generalize a.getLsbD i=x;generalize b.getLsbD i=y;generalize c.getLsbD i=z;cases x<;>cases y<;>cases z<;>decide
theorem zBX:∀n:Fin 7,xz (n.1:Int)&&& ~~~63#64=0#64:=by decide
theorem zhL {p:zd}(h:zD p):uV p&&& ~~~63#64=0#64:=by
 have hn:=h.n;refine zCe (zoa h) ?_;exact zBX ⟨p.H.Objs.length,by omega⟩
theorem zDk:∀(n:Fin 7) (t:Fin 64),BitVec.ofNat 64 t.1&&& ~~~xz (n.1:Int)=0#64->(Va (BitVec.ofNat 64 t.1)).length<=n.1:=by decide +kernel
theorem zmN {p:zd}(h:zD p):(Va (uV p)).length<=p.H.Objs.length:=by
 have hn:=h.n;obtain ⟨t,ht⟩:=zAc (zhL h);have h2:=zoa h;rw [ht] at h2 ⊢;exact zDk ⟨p.H.Objs.length,by omega⟩ t h2
theorem zpL {p:zd}(h:zD p):(xn p).length<=p.H.Objs.length:=by
 have hb:=h.bin;exact zKG (zvd _ (by omega) _ _) (zmN h)
theorem zyt {p:zd}(h:zD p):zhz p=some (xl p,()):=by
 have hw:=h.wk;have hc:=h.cap;have hm:=h.mt;have hb:=h.bin;have hn:=h.n;have hmo:=h.most;have hrl:=h.regs;have hreg:∀r∈p.Regs,r.length<1000000:=fun r hr=>by have:=(h.reg r hr).1;omega
 have hobj:∀o∈p.H.Objs,o.length<1000000:=fun o ho=>by have:=(h.objs o ho).1;have:=h.slots;omega
 have hfl:=zpL h;have hgl:=zmN h;have hcl:=zaJ p p.Workers.toNat;have hcb:p.Workers.toNat*(p.Cap.toNat+2)<=3*5:=zK0 (by omega) (by omega);have hbn:(z5 p:Int)=p.Most+p.Workers+p.Mutators:=by unfold z5;omega
 have eb:zhq p=some ((z5 p:Int),()):=by
  rw [zwz,zU (a:=p.Most+p.Workers) (by omega) (by omega),zU,hbn]
 have hul:=zzI (z5 p);have ec:zaX (Va (uV p)) p.Bin=some (xn p):=by
  show zla _ _=_;unfold zla xn;have c1:(decide (1<=p.Bin)&&decide (p.Bin<1000000)&&decide (((Va (uV p)).length:Int)<1000000))=true:=by simp<;>omega
  rw [c1];rfl
 have cut1:cut (xI (z5 p)) 0 ((xn p).length:Int)=some ((xI (z5 p)).take (xn p).length):=by
  unfold cut;have:((xn p).length:Int)<=((xI (z5 p)).length:Int):=by omega
  simp [this]
 have cut2:cut (xI (z5 p)) ((xn p).length:Int) ((xI (z5 p)).length:Int)=some ((xI (z5 p)).drop (xn p).length):=by
  unfold cut;have:((xn p).length:Int)<=((xI (z5 p)).length:Int):=by omega
  simp [this]
 rw [zxR,zDI h];simp only [zJA,zJQ,cond_false];rw [zwm (by omega) hreg];simp only [zJA,ziM,zDJ hm.1 (show p.Mutators<=16 by omega)];rw [zFd (by omega) hobj];simp only [zJA];rw [zIF h];simp only [zJA,eb];have e3:(2+(z5 p:Int)).toNat=2+z5 p:=by omega
 rw [zU (a:=2+(z5 p:Int)) (by omega) (by omega),zyf (by omega) (by omega),e3,zJA,yC (l:=Y4 p p.Workers.toNat++List.replicate (2+z5 p) 0#64) (by simp<;>omega),zJA,zHz (by omega)];dsimp only [zJA];rw [zKi,zHf (zhL h),zJA,zjn,zo,zi,zJA,ec,zJA,zCN _ _ (by simp<;>omega) (fun c hc'=>by have:=znV _ _ _ _ hc';omega)];dsimp only [zJA];have e1:w64 ((([[]]++xn p:List (List Int)).length:Int)-1)=((xn p).length:Int):=by
  rw [zU (by simp<;>omega) (by simp<;>omega)];simp
 have e2:w64 (((xI (z5 p)).length:Int)-((xn p).length:Int))=((z5 p-(xn p).length:Nat):Int):=by
  rw [zU];omega
 rw [e1,e2,zyf (by omega) (by omega),zKi,zJA,yC (by simp<;>omega),zJA,zcq,zJA,zar,zJA,cut1,zJA,zyp (by simp<;>omega) (by simp<;>omega),zJA,zdA,zJA,zJA,cut2,zJA,zyp (by rw [zup];simp<;>omega) (by simp<;>omega),zJA,decide_true,cond_true,zmc hm.1 (show p.Mutators<4294967296 by omega),zJA,zHQ (by omega) hreg];rfl
theorem zm7 (h:BitVec 64):yr h=((h.toNat%4294967296:Nat):Int):=by
 unfold yr;have e:(h&&&4294967295#64).toNat=h.toNat%4294967296:=by
  rw [zKF];exact zLu h.toNat 32
 rw [zLb,e];omega
theorem zm3 (h:BitVec 64):0<=yr h/\yr h<4294967296:=by rw [zm7];omega
theorem zet (v:BitVec 64) {n:Int}(h:0<=n) (h2:n<4294967296):yr (xw v n)=n:=by
 rw [zm7];unfold xw;rw [BitVec.toNat_or,zKF,BitVec.toNat_shiftLeft];have e1:(v.toNat <<< 32%2 ^ 64|||(BitVec.ofInt 64 n).toNat&&&(4294967295#64).toNat)%2 ^ 32=(v.toNat <<< 32%2 ^ 64)%2 ^ 32|||((BitVec.ofInt 64 n).toNat&&&(4294967295#64).toNat)%2 ^ 32:=Nat.or_mod_two_pow;have e2:v.toNat <<< 32%2 ^ 64%2 ^ 32=0:=by rw [Nat.shiftLeft_eq];omega
 have e3:(BitVec.ofInt 64 n).toNat&&&(4294967295#64).toNat=n.toNat:=by
  have:(BitVec.ofInt 64 n).toNat=n.toNat:=by rw [zKu];omega
  rw [this];exact (zLu n.toNat 32).trans (Nat.mod_eq_of_lt (by omega))
 rw [show (4294967296:Nat)=2 ^ 32 from rfl,e1,e2,e3,Nat.zero_or,Nat.mod_eq_of_lt (by omega)];omega
theorem toInt_ofInt {n:Int}(h:0<=n) (h2:n<4294967296):(BitVec.ofInt 64 n).toInt=n:=by
 have e:(BitVec.ofInt 64 n).toNat=n.toNat:=by rw [zKu];omega
 rw [zLb,e];omega
theorem W6 {m:List (BitVec 64)}{a b:Int}{v:BitVec 64}:ld (st m a v) b=if a=b/\0<=a/\a<m.length then v else ld m b:=by
 unfold ld st;by_cases hb:0<=b
 .rw [zb hb,zb hb];by_cases ha:0<=a
  .rw [zb ha,zJD,zJD,zKo];by_cases hab:a.toNat=b.toNat
   .have e:a=b:=by omega
    subst e;by_cases hl:a.toNat<m.length
    .rw [zb rfl,zb hl,zb ⟨rfl,ha,by omega⟩];rfl
    .rw [zb rfl,zc hl,zi,zKH (by omega)]
   .rw [zc hab,zi]
  .rw [zc ha,zi]
 .rw [zc hb,zc hb,zi]
theorem yy {m:List (BitVec 64)}{a b:Int}{v:BitVec 64}(h:a≠b):ld (st m a v) b=ld m b:=by
 rw [W6,zc (fun h'=>h h'.1)]
theorem ZR {p:zd}(h:zD p):yc p=p.Workers*(p.Cap+2)/\3<=yc p/\yc p<=15:=by
 have hw:=h.wk;have hc:=h.cap;unfold yc;rw [yT (a:=p.Cap+2) (by omega) (by omega)];have hx:p.Workers=1\/p.Workers=2\/p.Workers=3:=by omega
 rcases hx with hx | hx | hx<;>rw [hx,yT]<;>omega
theorem wE {p:zd}(h:zD p):zJ p=yc p+1:=by
 have:=ZR h;unfold zJ;rw [yT]
theorem YQ {p:zd}(h:zD p) {w:Int}(h1:1<=w) (h2:w<=p.Workers):zR p w=(w-1)*(p.Cap+2)/\0<=zR p w/\zR p w+p.Cap+2<=yc p:=by
 have hw:=h.wk;have hc:=h.cap;have hf:=(ZR h).1;unfold zR;rw [yT (a:=p.Cap+2) (by omega) (by omega),yT (a:=w-1) (by omega) (by omega)];have hx:p.Workers=1\/p.Workers=2\/p.Workers=3:=by omega
 have hy:w=1\/w=2\/w=3:=by omega
 rw [hf];rcases hx with hx | hx | hx<;>rcases hy with hy | hy | hy<;>first | omega | (rw [hx,hy,yT]<;>omega)
theorem zuk {p:zd}(h:zD p) {d:zg}{w:Int}(h1:1<=w) (h2:w<=p.Workers) (hb:d.Base=zR p w) (hc:d.Cap=p.Cap) (i:BitVec 64) :
  Xf d i=d.Base+2+((i.toNat%p.Cap.toNat:Nat):Int)/\d.Base+2<=Xf d i/\Xf d i<d.Base+2+p.Cap:=by
 have hcp:=h.cap;have hd:=YQ h h1 h2;have hf:=ZR h;have hs:(uA d).toNat=p.Cap.toNat:=by
  unfold uA;rw [hc,zi,zKu];omega
 have hlt:i.toNat%p.Cap.toNat<p.Cap.toNat:=Nat.mod_lt _ (by omega);have hm:(i%uA d).toInt=((i.toNat%p.Cap.toNat:Nat):Int):=by
  rw [zLb,BitVec.toNat_umod,hs];omega
 unfold Xf;rw [hm,yT (a:=d.Base+2) (by omega) (by omega),yT];omega
structure SOk (p:zd) (nb:Nat) (s:za):Prop where
 P:s.P=p
 bins:s.Bins.length=nb
 nbk:1<=nb/\nb<1000
 mem:s.M.length<100000
 cF:yr (ld s.M (yc p))<nb
 cE:yr (ld s.M (zJ p))<nb
 cL:∀a,zJ p<a->0<=(ld s.M a).toInt/\(ld s.M a).toInt<nb
structure MOk (p:zd) (nb:Nat) (g:zB):Prop where
 who:g.Mode=1->1<=g.Who/\g.Who<=p.Workers
 d3:g.PC=3->g.D.Kind=1/\g.D.Base=zR p g.Who/\g.D.Cap=p.Cap/\g.Mode=1
 c5:g.PC=5->g.C.Kind=2/\g.C.Head=zJ p/\g.C.Next=zJ p/\(1<=g.C.PC->1<=yr g.C.H/\yr g.C.H<nb)/\(2<=g.C.PC->0<=g.C.Y/\g.C.Y<nb)
 b6:g.PC=6->1<=g.Bin/\g.Bin<nb
 c7:g.PC=7->g.C.Kind=1/\g.C.Head=yc p/\g.C.Next=zJ p/\(1<=g.C.X/\g.C.X<nb)/\(1<=g.C.PC->yr g.C.H<nb)
theorem SOk.gok {p:zd}{nb:Nat}{s:za}{g:zB}(h:zD p) (S:SOk p nb s) (M:MOk p nb g):GOk s g:=by
 have hc:=h.cap;refine ⟨by have:=S.mem;omega,by have:=S.bins;have:=S.nbk;omega,fun h6=>?_,fun h3=>?_⟩
 .have:=M.b6 h6;have:=S.bins;omega
 .obtain ⟨a,b,c,_⟩:=M.d3 h3;exact ⟨a,by omega⟩
theorem SOk.low {p:zd}{nb:Nat}{s:za}(h:zD p) (S:SOk p nb s) {a:Int}(ha:a<yc p) (v:BitVec 64):SOk p nb {s with M:=st s.M a v}:=by
 have he:=wE h;exact ⟨S.P,S.bins,S.nbk,by simp only [Yk];exact S.mem,by simp only [yy (show a≠yc p by omega)];exact S.cF,by simp only [yy (show a≠zJ p by omega)];exact S.cE,fun b hb=>by
  simp only [yy (show a≠b by omega)];exact S.cL b hb⟩
theorem SOk.link {p:zd}{nb:Nat}{s:za}(h:zD p) (S:SOk p nb s) {a:Int}(ha:zJ p<a) {v:BitVec 64}(hv:0<=v.toInt/\v.toInt<nb):SOk p nb {s with M:=st s.M a v}:=by
 have he:=wE h;exact ⟨S.P,S.bins,S.nbk,by simp only [Yk];exact S.mem,by simp only [yy (show a≠yc p by omega)];exact S.cF,by simp only [yy (show a≠zJ p by omega)];exact S.cE,fun b hb=>by
  simp only [W6];split
  .exact hv
  .exact S.cL b hb⟩
theorem SOk.head {p:zd}{nb:Nat}{s:za}(h:zD p) (S:SOk p nb s) {a:Int}(ha:a=yc p\/a=zJ p) {v:BitVec 64}(hv:yr v<nb):SOk p nb {s with M:=st s.M a v}:=by
 have he:=wE h;refine ⟨S.P,S.bins,S.nbk,by simp only [Yk];exact S.mem,?_,?_,fun b hb=>?_⟩
 .simp only [W6];split
  .exact hv
  .exact S.cF
 .simp only [W6];split
  .exact hv
  .exact S.cE
 .simp only [yy (show a≠b by omega)];exact S.cL b hb
theorem SOk.swap {p:zd}{nb:Nat}{s:za}(h:zD p) (S:SOk p nb s) {a:Int}(ha:a=yc p\/a=zJ p) (x:BitVec 64) {v:BitVec 64}(hv:yr v<nb):SOk p nb {s with M:=(sw s.M a x v).1}:=by
 unfold sw;split
 .exact S.head h ha hv
 .exact S
theorem zAC {p:zd}{nb:Nat}{s:za}(h:zD p) (S:SOk p nb s) {c:zL}{hd:Int}(hdd:hd=yc p\/hd=zJ p) (hk:c.Kind=2) (hh:c.Head=hd) (hn:c.Next=zJ p)
  (h1:1<=c.PC->1<=yr c.H/\yr c.H<nb) (h2:2<=c.PC->0<=c.Y/\c.Y<nb) (ho:c.Out≠1) :
  SOk p nb {s with M:=(zt s.M c).1}/\(zt s.M c).2.Kind=2/\(zt s.M c).2.Head=hd/\(zt s.M c).2.Next=zJ p /\
  ((zt s.M c).2.Out≠1->(zt s.M c).2.Out≠2->(1<=(zt s.M c).2.PC->1<=yr (zt s.M c).2.H/\yr (zt s.M c).2.H<nb)/\(2<=(zt s.M c).2.PC->0<=(zt s.M c).2.Y/\(zt s.M c).2.Y<nb)) /\
  ((zt s.M c).2.Out=1->1<=(zt s.M c).2.X/\(zt s.M c).2.X<nb):=by
 have hnb:=S.nbk;have hE:=wE h;have hF:=ZR h;unfold zt;split
 .exact ⟨S,hk,hh,hn,fun _ _=>⟨h1,h2⟩,fun e=>absurd e ho⟩
 .split
  .rw [hh];have n1:=zm3 (ld s.M hd);have n2:yr (ld s.M hd)<nb:=by
    rcases hdd with e | e<;>rw [e]
    .exact S.cF
    .exact S.cE
   split
   .exact ⟨S,hk,rfl,hn,fun _ h=>absurd rfl h,fun e=>by cases e⟩
   .rename_i hne;refine ⟨S,hk,rfl,hn,fun _ _=>⟨fun _=>⟨?_,n2⟩,fun e=>absurd e (by dsimp only;omega)⟩,fun e=>absurd e ho⟩;have:yr (ld s.M hd)≠0:=fun e=>hne ⟨hk,e⟩;dsimp only;omega
  .split
   .try rw [zb hk]
    have hpc:1<=c.PC:=by omega
    have n1:=h1 hpc;refine ⟨S,hk,hh,hn,fun _ _=>⟨fun _=>n1,fun _=>?_⟩,fun e=>absurd e ho⟩;dsimp only;rw [hn,yT];exact S.cL _ (by omega)
   .rename_i g1 g2 g3;have hpc:c.PC=2:=by omega
    have n1:=h1 (by omega);have n2:=h2 (by omega);simp only [zb hk];refine ⟨S.swap h (by rw [hh];exact hdd) _ (by rw [zet _ n2.1 (by omega)];exact n2.2),?_⟩;split
    .exact ⟨hk,hh,hn,fun e=>absurd rfl e,fun _=>n1⟩
    .exact ⟨hk,hh,hn,fun _ _=>⟨fun e=>absurd e (by dsimp only;omega),fun e=>absurd e (by dsimp only;omega)⟩,fun e=>absurd e ho⟩
theorem zxm {p:zd}{nb:Nat}{s:za}(h:zD p) (S:SOk p nb s) {c:zL}{hd:Int}(hdd:hd=yc p\/hd=zJ p) (hk:c.Kind=1) (hh:c.Head=hd) (hn:c.Next=zJ p) (hx:1<=c.X/\c.X<nb)
  (h1:1<=c.PC->yr c.H<nb) :
  SOk p nb {s with M:=(zt s.M c).1}/\(zt s.M c).2.Kind=1/\(zt s.M c).2.Head=hd/\(zt s.M c).2.Next=zJ p/\(1<=(zt s.M c).2.X/\(zt s.M c).2.X<nb) /\
  (1<=(zt s.M c).2.PC->yr (zt s.M c).2.H<nb):=by
 have hnb:=S.nbk;have hE:=wE h;have hF:=ZR h;have hk2: ¬c.Kind=2:=by omega
 unfold zt;split
 .exact ⟨S,hk,hh,hn,hx,h1⟩
 .split
  .rw [zc (fun e=>hk2 e.1),hh];exact ⟨S,hk,rfl,hn,hx,fun _=>hdd.elim (fun e=>by dsimp only;rw [e];exact S.cF) (fun e=>by dsimp only;rw [e];exact S.cE)⟩
  .split
   .try rw [zc hk2]
    have hpc:1<=c.PC:=by omega
    have n1:=h1 hpc;have n2:=zm3 c.H;refine ⟨?_,hk,hh,hn,hx,fun _=>n1⟩;dsimp only;rw [hn,yT];exact S.link h (by omega) (by rw [toInt_ofInt (by omega) (by omega)];omega)
   .have n1:=h1 (by omega);simp only [zc hk2];refine ⟨S.swap h (by rw [hh];exact hdd) _ (by rw [zet _ (by omega) (by omega)];exact hx.2),?_⟩;split
    .exact ⟨hk,hh,hn,hx,fun _=>n1⟩
    .exact ⟨hk,hh,hn,hx,fun _=>n1⟩
theorem MOk.ask {p:zd}{nb:Nat}{g:zB}(hw:g.Mode=1->1<=g.Who/\g.Who<=p.Workers):MOk p nb (ziX p g) :=
 ⟨hw,fun e=>(by cases e),fun _=>⟨rfl,rfl,rfl,fun e=>absurd e (show ¬(1:Int)<=0 by decide),fun e=>absurd e (show ¬(2:Int)<=0 by decide)⟩,fun e=>(by cases e),fun e=>(by cases e)⟩
theorem zsu {p:zd}{nb:Nat}{s:za}{g:zB}(h:zD p) (S:SOk p nb s) (M:MOk p nb g) (hout:g.PC=5->g.C.Out≠1):SOk p nb (zy s g).1/\MOk p nb (zy s g).2/\((zy s g).2.PC=5->(zy s g).2.C.Out≠1):=by
 have hP:=S.P;unfold zy;split
 .exact ⟨S,M,hout⟩
 split
 .rename_i h7;obtain ⟨a1,a2,a3,a4,a5⟩:=M.c7 h7;obtain ⟨b1,b2,b3,b4,b5,b6⟩:=zxm h S (.inl rfl) a1 a2 a3 a4 a5;unfold zdR;refine ⟨b1,?_,?_⟩
  .dsimp only;split<;>exact ⟨M.who,fun e=>(by dsimp only at e;omega),fun e=>(by dsimp only at e;omega),fun e=>(by dsimp only at e;omega),fun _=>⟨b2,b3,b4,b5,b6⟩⟩
  .dsimp only;split<;>exact fun e=>by dsimp only at e;omega
 split
 .rename_i h6;obtain ⟨a1,a2⟩:=M.b6 h6;unfold zzA;refine ⟨⟨hP,by simp only [zJ6];exact S.bins,S.nbk,S.mem,S.cF,S.cE,S.cL⟩,⟨M.who,fun e=>(by cases e),fun e=>(by cases e),fun e=>(by cases e),fun _=>⟨rfl,by rw [hP],by rw [hP],⟨a1,a2⟩,fun e=>absurd e (show ¬(1:Int)<=0 by decide)⟩⟩,fun e=>by cases e⟩
 split
 .rename_i h5;obtain ⟨a1,a2,a3,a4,a5⟩:=M.c5 h5;obtain ⟨b1,b2,b3,b4,b5,b6⟩:=zAC h S (.inr rfl) a1 a2 a3 a4 a5 (hout h5);unfold znq;refine ⟨b1,?_,?_⟩
  .dsimp only;split
   .rename_i e1;exact ⟨M.who,fun e=>(by cases e),fun e=>(by cases e),fun _=>b6 e1,fun e=>(by cases e)⟩
   .split
    .rw [hP];exact MOk.ask M.who
    .rename_i e1 e2;exact ⟨M.who,fun e=>(by dsimp only at e;omega),fun _=>⟨b2,b3,b4,b5 e1 e2⟩,fun e=>(by dsimp only at e;omega),fun e=>(by dsimp only at e;omega)⟩
  .dsimp only;split
   .exact fun e=>by cases e
   .split
    .exact fun _ e=>by cases e
    .rename_i e1 e2;exact fun _=>e1
 split
 .rw [hP];exact ⟨⟨rfl,S.bins,S.nbk,S.mem,S.cF,S.cE,S.cL⟩,MOk.ask M.who,fun _ e=>by cases e⟩
 split
 .rename_i h3;obtain ⟨a1,a2,a3,a4⟩:=M.d3 h3;have hw:=M.who a4;obtain ⟨d1,d2,d3⟩:=YQ h hw.1 hw.2;have hc:=h.cap;have hf:=ZR h;have hs:SOk p nb {s with M:=(yP s.M g.D).1}:=by
   unfold yP;split
   .exact S
   split
   .exact S
   split
   .exact S
   split
   .have:=zuk h hw.1 hw.2 a2 a3 g.D.B;exact S.low h (by omega) _
   .dsimp only;rw [yT];exact S.low h (by omega) _
  have hd:(yP s.M g.D).2.Kind=1/\(yP s.M g.D).2.Base=zR p g.Who/\(yP s.M g.D).2.Cap=p.Cap:=by
   unfold yP;split
   .exact ⟨a1,a2,a3⟩
   split
   .exact ⟨a1,a2,a3⟩
   split
   .dsimp only;split<;>exact ⟨a1,a2,a3⟩
   split<;>exact ⟨a1,a2,a3⟩
  unfold zm0;refine ⟨hs,?_,?_⟩
  .dsimp only;split
   .exact ⟨M.who,fun _=>⟨hd.1,hd.2.1,hd.2.2,a4⟩,fun e=>(by dsimp only at e;omega),fun e=>(by dsimp only at e;omega),fun e=>(by dsimp only at e;omega)⟩
   .split
    .rw [hP];exact MOk.ask M.who
    .exact ⟨M.who,fun _=>⟨hd.1,hd.2.1,hd.2.2,a4⟩,fun e=>(by dsimp only at e;omega),fun e=>(by dsimp only at e;omega),fun e=>(by dsimp only at e;omega)⟩
  .dsimp only;split
   .exact fun e=>by dsimp only at e;omega
   .split
    .exact fun _ e=>by cases e
    .exact fun e=>by dsimp only at e;omega
 split
 .rename_i h2;exact ⟨⟨hP,S.bins,S.nbk,S.mem,S.cF,S.cE,S.cL⟩,⟨M.who,fun e=>(by dsimp only at e;omega),fun e=>(by dsimp only at e;omega),fun e=>(by dsimp only at e;omega),fun e=>(by dsimp only at e;omega)⟩,fun e=>by dsimp only at e;omega⟩
 split
 .unfold zm6;refine ⟨⟨hP,S.bins,S.nbk,S.mem,S.cF,S.cE,S.cL⟩,?_,?_⟩
  .dsimp only;split
   .exact ⟨M.who,fun e=>(by cases e),fun e=>(by cases e),fun e=>(by cases e),fun e=>(by cases e)⟩
   split
   .exact ⟨M.who,fun _=>⟨rfl,by rw [hP],by rw [hP],by assumption⟩,fun e=>(by cases e),fun e=>(by cases e),fun e=>(by cases e)⟩
   split
   .exact ⟨M.who,fun e=>(by cases e),fun e=>(by cases e),fun e=>(by cases e),fun e=>(by cases e)⟩
   .rw [hP];exact MOk.ask M.who
  .dsimp only;split
   .exact fun e=>by cases e
   split
   .exact fun e=>by cases e
   split
   .exact fun e=>by cases e
   .exact fun _ e=>by cases e
 .exact ⟨⟨hP,S.bins,S.nbk,S.mem,S.cF,S.cE,S.cL⟩,⟨M.who,fun e=>(by cases e),fun e=>(by cases e),fun e=>(by cases e),fun e=>(by cases e)⟩,fun e=>by cases e⟩
theorem zap (s:za) (g:zB):(zy s g).2.Obj=g.Obj/\(zy s g).2.Who=g.Who/\(zy s g).2.Mode=g.Mode:=by
 unfold zy;split
 .exact ⟨rfl,rfl,rfl⟩
 split
 .unfold zdR;dsimp only;split<;>exact ⟨rfl,rfl,rfl⟩
 split
 .exact ⟨rfl,rfl,rfl⟩
 split
 .unfold znq;dsimp only;split
  .exact ⟨rfl,rfl,rfl⟩
  .split<;>exact ⟨rfl,rfl,rfl⟩
 split
 .exact ⟨rfl,rfl,rfl⟩
 split
 .unfold zm0;dsimp only;split
  .exact ⟨rfl,rfl,rfl⟩
  .split<;>exact ⟨rfl,rfl,rfl⟩
 split
 .exact ⟨rfl,rfl,rfl⟩
 split
 .unfold zm6;dsimp only;split
  .exact ⟨rfl,rfl,rfl⟩
  split
  .exact ⟨rfl,rfl,rfl⟩
  split<;>exact ⟨rfl,rfl,rfl⟩
 .exact ⟨rfl,rfl,rfl⟩
def OkV (nb:Nat) (v:BitVec 64):Prop:=yr v<nb/\0<=v.toInt/\v.toInt<nb
theorem zBO {nb:Nat}(h:1<=nb):OkV nb 0#64:=by
 refine ⟨by rw [zm7];simp;omega,by simp,by simp;omega⟩
theorem zw6 {nb:Nat}{b:Int}(h:0<=b) (h2:b<nb) (h3:nb<1000):OkV nb (BitVec.ofInt 64 b):=by
 have e:(BitVec.ofInt 64 b).toNat=b.toNat:=by rw [zKu];omega
 refine ⟨by rw [zm7,e];omega,?_⟩;rw [toInt_ofInt h (by omega)];omega
theorem zyP {b:Int}(h:0<=b) (h2:b<4294967296):xw 0#64 b=BitVec.ofInt 64 b:=by
 have e:(BitVec.ofInt 64 b).toNat=b.toNat:=by rw [zKu];omega
 apply zKS;unfold xw;rw [BitVec.toNat_or,zKF,e];have:b.toNat&&&(4294967295#64).toNat=b.toNat:=(zLu b.toNat 32).trans (Nat.mod_eq_of_lt (by omega));rw [this];simp
def W1 (F:Int) (nb:Nat) (m:List (BitVec 64)):Prop:=∀a,F<=a->OkV nb (ld m a)
theorem W1.st {F:Int}{nb:Nat}{m:List (BitVec 64)}(h:W1 F nb m) (a:Int) {v:BitVec 64}(hv:OkV nb v):W1 F nb (st m a v):=fun b hb=>by
 rw [W6];split
 .exact hv
 .exact h b hb
theorem W1.links {F:Int}{nb:Nat}(h1:1<=nb) (h3:nb<1000):∀(l:List Int) (m:List (BitVec 64)) (n:Int),(∀b∈l,0<=b/\b<nb)->W1 F nb m->W1 F nb (links m n l)
 | [],m,n,_,h=>h
 | [a],m,n,_,h=>h.st _ (zBO h1)
 | a::b::l,m,n,hb,h=>W1.links h1 h3 (b::l) _ n (fun x hx=>hb x (zJI _ hx)) (h.st _ (zw6 (hb b (by simp)).1 (hb b (by simp)).2 h3))
theorem W1.lay {F:Int}{nb:Nat}(h1:1<=nb) (h3:nb<1000) {l:List Int}{m:List (BitVec 64)}{hd n:Int}(hb:∀b∈l,0<=b/\b<nb) (h:W1 F nb m):W1 F nb (zdU m hd n l):=by
 unfold zdU;refine (W1.links h1 h3 l m n hb h).st _ ?_;cases l with
 | nil=>rw [List.headD_nil,zyP (by omega) (by omega)];exact zw6 (by omega) (by omega) h3
 | cons a r =>
  have:=hb a (by simp);rw [List.headD_cons,zyP this.1 (by omega)];exact zw6 this.1 this.2 h3
theorem zhb {k:Nat}{b:Int}(h:b∈xI k):1<=b/\b<=k:=by
 unfold xI at h;obtain ⟨i,hi,rfl⟩:=zJO.1 h;have:=zJ1.1 hi;omega
theorem zdW {p:zd}(h:zD p):(z5 p:Int)=p.Most+p.Workers+p.Mutators/\2<=z5 p/\z5 p<=14:=by
 have:=h.most;have:=h.n;have:=h.wk;have:=h.mt;unfold z5;omega
theorem zCK {p:zd}(h:zD p):SOk p (z5 p+1) (xl p):=by
 have hb:=zdW h;have hf:=zpL h;have hn:=h.n;have hw:=h.wk;have hc:=h.cap;have hmo:=h.most;have hF:=ZR h;have hE:=wE h;have hcl:=zaJ p p.Workers.toNat;have hfe:yc p=((p.Workers.toNat*(p.Cap.toNat+2):Nat):Int):=by
  rw [hF.1];have e1:p.Workers=((p.Workers.toNat:Nat):Int):=by omega
  have e2:p.Cap+2=((p.Cap.toNat+2:Nat):Int):=by omega
  rw [e2,Int.natCast_mul];rw [<-e1]
 have h0:W1 (yc p) (z5 p+1) (Y4 p p.Workers.toNat++List.replicate (2+z5 p) 0#64):=by
  intro a ha;have:ld (Y4 p p.Workers.toNat++List.replicate (2+z5 p) 0#64) a=0#64:=by
   unfold ld;rw [zY,zJD,zJ9 (by omega),zK4];split<;>rfl
  rw [this];exact zBO (by omega)
 have h1:W1 (yc p) (z5 p+1) (xl p).M:=by
  refine W1.lay (by omega) (by omega) (fun b hb'=>?_) (W1.lay (by omega) (by omega) (fun b hb'=>?_) h0)
  .have:=zhb (List.mem_of_mem_drop hb');omega
  .have:=zhb (zK8 hb');omega
 have hlen:(xl p).M.length=p.Workers.toNat*(p.Cap.toNat+2)+(2+z5 p):=by
  show (zdU _ _ _ _).length=_;rw [zup,zup,zJN,hcl,zKf]
 refine ⟨rfl,?_,by omega,by rw [hlen];omega,(h1 _ (by omega)).1,(h1 _ (by omega)).1,fun a ha=>(h1 a (by omega)).2⟩;have hd:(xl p).Bins.length=1+(xn p).length+(z5 p-(xn p).length):=by
  show ([[]]++xn p++List.replicate (z5 p-(xn p).length) ([]:List Int)).length=_;rw [zJN,zJN,zKf];rfl
 have h2:=hb.1;have hmt:=h.mt;rw [hd];omega
def Ym (mode obj who:Int):zB:=⟨0,mode,obj,who,⟨0,0,0,0,0#64,0#64,0,0⟩,⟨0,0,0,0,0#64,0,0,0⟩,0,0⟩
theorem zpC (a b c:Int):zbP a b c=some (Ym a b c,()):=by rw [zu7];rfl
def zkC (m:List (BitVec 64)) (d:zg):List (BitVec 64)×zg :=
 if d.PC<0\/7<=d.PC then (m,d)
 else if d.PC=0 then (m,{d with B:=ld m (wc (d.Base+1)),PC:=1})
 else if d.PC=1 then (st m (wc (d.Base+1)) (d.B-1#64),{d with PC:=2})
 else if d.PC=2 then (m,{d with T:=ld m d.Base,PC:=if 0<(ld m d.Base-(d.B-1#64)).toInt then 5 else 3})
 else if d.PC=3 then (m,{d with X:=(ld m (Xf d (d.B-1#64))).toInt,PC:=4,Out:=if d.T=d.B-1#64 then d.Out else 1})
 else if d.PC=4 then ((sw m d.Base d.T (d.T+1#64)).1,{d with PC:=if (sw m d.Base d.T (d.T+1#64)).2 then 6 else 5})
 else if d.PC=5 then (st m (wc (d.Base+1)) d.B,{d with X:=0,Out:=2,PC:=6})
 else (st m (wc (d.Base+1)) d.B,{d with Out:=1,PC:=7})
def zcH (m:List (BitVec 64)) (d:zg):List (BitVec 64)×zg :=
 if d.PC<0\/4<=d.PC then (m,d)
 else if d.PC=0 then (m,{d with T:=ld m d.Base,PC:=1})
 else if d.PC=1 then (m,{d with B:=ld m (wc (d.Base+1)),PC:=2,Out:=if 0<(ld m (wc (d.Base+1))-d.T).toInt then d.Out else 2})
 else if d.PC=2 then (m,{d with X:=(ld m (Xf d d.T)).toInt,PC:=3})
 else ((sw m d.Base d.T (d.T+1#64)).1,if (sw m d.Base d.T (d.T+1#64)).2 then {d with Out:=1,PC:=4} else {d with X:=0,Out:=4,PC:=4})
def z3 (m:List (BitVec 64)) (d:zg):List (BitVec 64)×zg :=
 if d.Out≠0 then (m,d) else if d.Kind=1 then yP m d else if d.Kind=2 then zkC m d else if d.Kind=3 then zcH m d else (m,d)
theorem zCB {m:List (BitVec 64)}{d:zg}(h:d.Kind=1):z3 m d=yP m d:=by
 unfold z3;by_cases h0:d.Out≠0
 .rw [zb h0];unfold yP;rw [zb (.inl h0)]
 .rw [zc h0,zb h]
theorem zCX {α:Type}{x y:Option α}{v:α}(h:x=some v):Option.or x y=some v:=by subst h;rfl
theorem zkL {α:Type}{x y z:Option α}(h:x=none) (h2:y=z):Option.or x y=z:=by subst h;exact h2
theorem zGQ:wc 1=1/\wc 2=2/\wc 3=3/\wc 4=4/\wc 5=5/\wc 6=6/\wc 7=7:=by decide
theorem zEE:w64 5=5/\w64 6=6/\w64 7=7:=by
 refine ⟨?_,?_,?_⟩<;>exact zU
theorem zDM {m:List (BitVec 64)}(hm:m.length<4294967296) {d:zg}(hc:d.Cap<1000):zbN m d=some ((z3 m d).1,(z3 m d).2,()):=by
 by_cases k1:d.Kind=1
 .rw [zCB k1];exact znd hm k1 hc
 obtain ⟨w0,w1,w2,w3,w4⟩:=zBi;obtain ⟨w5,w6,w7⟩:=zEE;obtain ⟨v1,v2,v3,v4,v5,v6,v7⟩:=zGQ;have hsb:∀d:zg,vg m d=some (m,{d with B:=ld m (wc (d.Base+1))},()):=fun d=>by
  rw [Vd,xD,xC,zJA,YZ];rfl
 have htk:∀d:zg,Wg m d=some ((sw m d.Base d.T (d.T+1#64)).1,(sw m d.Base d.T (d.T+1#64)).2,()):=fun d=>by
  obtain ⟨v,hv⟩:=zxU hm d.Base d.T (d.T+1#64);rw [zmG,Zr,zJA,hv];rfl
 rw [znp,zjQ,zsK,zs1,zsM];simp only [zo,ya,zc k1];unfold z3;by_cases k2:d.Kind=2
 .refine zkL (by simp [k2]) (zCX ?_);rw [zb k2,zJA];by_cases g0:d.Out=0;rotate_left
  .rw [zc g0,zb (show d.Out≠0 from g0)]
  rw [zb g0,zc (show ¬(d.Out≠0) from fun e=>e g0),zc k1,zb k2];unfold zkC;by_cases g1:d.PC<0
  .rw [zb g1,zb (.inl g1)]
  rw [zc g1];by_cases g2:7<=d.PC
  .rw [zb g2,zb (.inr g2)]
  rw [zc g2,zc (show ¬(d.PC<0\/7<=d.PC) by omega)];have hpc:d.PC=0\/d.PC=1\/d.PC=2\/d.PC=3\/d.PC=4\/d.PC=5\/d.PC=6:=by omega
  rcases hpc with h | h | h | h | h | h | h
  .simp [h,hsb,w1]
  .simp [h,zl1,xD,xC,zde hm,v1,v2,v3,v4,v5,v6,v7]
  .rw [h,zc (by decide),zc (by decide),zc (by decide),zc (by decide),zb rfl,zc (by decide),zc (by decide),zb rfl];simp only [zgY,Zr,zJA,YZ,zd0,zo];by_cases hs:0<(ld m d.Base-(d.B-1#64)).toInt
   .simp only [zb hs,zJA,Int.reduceAdd,w5]
   .simp only [zc hs,zJA,h,Int.reduceAdd,w3]
  .simp only [h,zki,zhE hc,zJA,YZ,ya,wU];by_cases hs:d.T=d.B-1#64
   .simp [hs,w4,h]
   .simp [hs,w4,h]
  .simp only [h,zjm,htk,zJA];cases hs:(sw m d.Base d.T (d.T+1#64)).2 with
   | true=>simp [hs,w6,h]
   | false=>simp [hs,w5,h]
  .simp [h,zjz,wU,k1,xD,xC,zde hm,v1,v2,v3,v4,v5,v6,v7]
  .simp [h,zj7,wU,xD,xC,zde hm,v1,v2,v3,v4,v5,v6,v7]
 by_cases k3:d.Kind=3
 .refine zkL (by simp [k2,k3]) (zkL (by simp [k2,k3]) (zCX ?_));rw [zc k2,zb k3,zJA];by_cases g0:d.Out=0;rotate_left
  .rw [zc g0,zb (show d.Out≠0 from g0)]
  rw [zb g0,zc (show ¬(d.Out≠0) from fun e=>e g0),zc k1,zc k2,zb k3];unfold zcH;by_cases g1:d.PC<0
  .rw [zb g1,zb (.inl g1)]
  rw [zc g1];by_cases g2:4<=d.PC
  .rw [zb g2,zb (.inr g2)]
  rw [zc g2,zc (show ¬(d.PC<0\/4<=d.PC) by omega)];have hpc:d.PC=0\/d.PC=1\/d.PC=2\/d.PC=3:=by omega
  rcases hpc with h | h | h | h
  .simp [h,zkh,Zr,YZ,w1]
  .rw [h,zc (by decide),zc (by decide),zb rfl,zc (by decide),zb rfl];simp only [zjU,xD,zJA,YZ,zd0,ya,xC];by_cases hs:0<(ld m (wc (d.Base+1))-d.T).toInt
   .simp only [zb hs,zJA,Int.reduceAdd,v2,h]
   .simp only [zc hs,zJA,Int.reduceAdd,v2,h]
  .simp [h,ziU,zhE hc,YZ,w3]
  .simp only [h,zgO,htk,zJA,wU];cases hs:(sw m d.Base d.T (d.T+1#64)).2 with
   | true=>simp [hs,w4,h]
   | false=>simp [hs,w4,h,k1]
 .refine zkL (by simp [k2,k3]) (zkL (by simp [k2,k3]) (zkL (by simp [k2,k3]) ?_));rw [zc k2,zc k3,zJA];by_cases g0:d.Out=0
  .simp [g0,k1,k2,k3]
  .simp [g0]
theorem zDP (m:List (BitVec 64)) (d:zg):(zkC m d).1.length=m.length/\(zkC m d).2.Kind=d.Kind/\(zkC m d).2.Base=d.Base/\(zkC m d).2.Cap=d.Cap:=by
 unfold zkC sw st;split
 .exact ⟨rfl,rfl,rfl,rfl⟩
 split
 .exact ⟨rfl,rfl,rfl,rfl⟩
 split
 .refine ⟨?_,rfl,rfl,rfl⟩;dsimp only;split<;>simp
 split
 .exact ⟨rfl,rfl,rfl,rfl⟩
 split
 .exact ⟨rfl,rfl,rfl,rfl⟩
 split
 .refine ⟨?_,rfl,rfl,rfl⟩;dsimp only;split<;>(try split)<;>simp
 split<;>(refine ⟨?_,rfl,rfl,rfl⟩;dsimp only;split<;>simp)
theorem zBF (m:List (BitVec 64)) (d:zg):(zcH m d).1.length=m.length/\(zcH m d).2.Kind=d.Kind/\(zcH m d).2.Base=d.Base/\(zcH m d).2.Cap=d.Cap:=by
 unfold zcH sw st;split
 .exact ⟨rfl,rfl,rfl,rfl⟩
 split
 .exact ⟨rfl,rfl,rfl,rfl⟩
 split
 .exact ⟨rfl,rfl,rfl,rfl⟩
 split
 .exact ⟨rfl,rfl,rfl,rfl⟩
 .refine ⟨?_,?_,?_,?_⟩<;>dsimp only<;>split<;>(try split)<;>simp
def zF (h:zq) (o:Int):List Int:=h.Objs.getD (o-1).toNat []
def yj (h:zq) (o s:Int):Bool:=decide (1<=o)&&decide (o<=(h.Objs.length:Int))&&decide (0<=s)&&decide (s<((zF h o).length:Int))
def zN (h:zq) (o s:Int):Int:=if yj h o s then (zF h o).getD s.toNat 0 else 0
def zI (s:BitVec 64) (o:Int):Bool:= !(decide (s&&&bit o=0#64))
def yh (t:zm) (o:Int):Int:=if zI (t.Marks&&&t.Black) o then 2 else if zI t.Marks o then 1 else 0
def yX (t:zm) (o:Int):zm:=if yh t o=1 then {t with Black:=t.Black|||bit o} else t
def zcF (l:zr) (who:Int):zr :=
 if 1<=who/\who<=(l.Bal.length:Int) then {l with Scanned:=wc (l.Scanned+1),Bal:=l.Bal.set (who-1).toNat (wc (l.Bal.getD (who-1).toNat 0+1))}
 else {l with Scanned:=wc (l.Scanned+1),Pool:=wc (l.Pool+1)}
def VL (s:za) (b:Int):List Int:=s.Bins.getD b.toNat []
def zDG (p:zd) (h x:Int):zL:=⟨2,0,h,zJ p,0#64,x,0,0⟩
def zcJ (p:zd) (h x:Int):zL:=⟨1,0,h,zJ p,0#64,x,0,0⟩
def onW (s:za) (slot:Int):Int:=if slot=s.H.Slots then 8 else 5
def UI (p:zd) (w:Int) (x:zk):zk:={x with PC:=0,Victim:=w,D:=⟨2,0,zR p w,p.Cap,0#64,0#64,0,0⟩}
def zj2 (n v:Int):Int:=if v<n then v+1 else 1
def Z3 (p:zd) (w:Int) (x:zk):zk :=
 if zj2 p.Workers x.Victim=w then {x with PC:=2,Victim:=w,C:=zDG p (yc p) 0}
 else {x with PC:=1,Victim:=zj2 p.Workers x.Victim,D:=⟨3,0,zR p (zj2 p.Workers x.Victim),p.Cap,0#64,0#64,0,0⟩}
def zu (s:za) (w:Int) (x:zk):za×zk :=
 if x.PC=0\/x.PC=1 then
  ({s with M:=(z3 s.M x.D).1},
   if (z3 s.M x.D).2.Out=1 then {x with D:=(z3 s.M x.D).2,Victim:=w,PC:=5,Obj:=(z3 s.M x.D).2.X,Slot:=0}
   else if (z3 s.M x.D).2.Out=2\/(z3 s.M x.D).2.Out=4 then Z3 s.P w {x with D:=(z3 s.M x.D).2} else {x with D:=(z3 s.M x.D).2})
 else if x.PC=2 then
  ({s with M:=(zt s.M x.C).1},
   if (zt s.M x.C).2.Out=1 then {x with C:=(zt s.M x.C).2,Bin:=(zt s.M x.C).2.X,PC:=3}
   else if (zt s.M x.C).2.Out=2 then UI s.P w {x with C:=(zt s.M x.C).2} else {x with C:=(zt s.M x.C).2})
 else if x.PC=3 then ({s with Bins:=s.Bins.set x.Bin.toNat []},{x with Batch:=VL s x.Bin,PC:=4,C:=zcJ s.P (zJ s.P) x.Bin})
 else if x.PC=4 then
  ({s with M:=(zt s.M x.C).1},if (zt s.M x.C).2.Out=1 then {x with C:=(zt s.M x.C).2,Bin:=0,PC:=7} else {x with C:=(zt s.M x.C).2})
 else if x.PC=5 then
  (s,if zN s.H x.Obj x.Slot=0 then {x with Slot:=wc (x.Slot+1),PC:=onW s (wc (x.Slot+1))} else {x with Slot:=wc (x.Slot+1),PC:=6,G:=Ym 1 (zN s.H x.Obj x.Slot) w})
 else if x.PC=6 then ((zy s x.G).1,if (zy s x.G).2.Out=1 then {x with G:=(zy s x.G).2,PC:=onW s x.Slot} else {x with G:=(zy s x.G).2})
 else if x.PC=7 then (s,match x.Batch with | []=>UI s.P w x | o::l=>{x with Batch:=l,PC:=5,Obj:=o,Slot:=0})
 else if x.PC=8 then ({s with T:=yX s.T x.Obj,L:=zcF s.L 0},{x with PC:=9})
 else if x.PC=9 then ({s with Work:=wc (s.Work-1)},{x with Obj:=0,PC:=7})
 else (s,x)
def zK (s:za) (w:Int):za :=
 if s.Done=true\/w<1\/(s.Ws.length:Int)<w then s
 else match s.Ws[(w-1).toNat]? with
  | some x=>{(zu s w x).1 with Ws:=s.Ws.set (w-1).toNat (zu s w x).2}
  | none=>s
structure zEe (p:zd) (nb:Nat) (hd:Int) (c:zL):Prop where
 k:c.Kind=2
 h:c.Head=hd
 n:c.Next=zJ p
 v:1<=c.PC->1<=yr c.H/\yr c.H<nb
 y:2<=c.PC->0<=c.Y/\c.Y<nb
 o:c.Out≠1
structure zBh (p:zd) (nb:Nat) (hd:Int) (c:zL):Prop where
 k:c.Kind=1
 h:c.Head=hd
 n:c.Next=zJ p
 x:1<=c.X/\c.X<nb
 v:1<=c.PC->yr c.H<nb
theorem zC6 {p:zd}{nb:Nat}{hd x:Int}:zEe p nb hd (zDG p hd x) :=
 ⟨rfl,rfl,rfl,fun e=>absurd e (by show ¬(1:Int)<=0;decide),fun e=>absurd e (by show ¬(2:Int)<=0;decide),by show (0:Int)≠1;decide⟩
theorem zBA {p:zd}{nb:Nat}{hd x:Int}(h:1<=x/\x<nb):zBh p nb hd (zcJ p hd x) :=
 ⟨rfl,rfl,rfl,h,fun e=>absurd e (by show ¬(1:Int)<=0;decide)⟩
structure WOk (p:zd) (nb:Nat) (w:Int) (x:zk):Prop where
 pc:0<=x.PC/\x.PC<=9
 vic:1<=x.Victim/\x.Victim<=p.Workers
 d0:x.PC=0->x.D.Kind=2/\x.D.Base=zR p w/\x.D.Cap=p.Cap
 d1:x.PC=1->x.D.Kind=3/\x.D.Base=zR p x.Victim/\x.D.Cap=p.Cap
 c2:x.PC=2->zEe p nb (yc p) x.C
 b3:x.PC=3->1<=x.Bin/\x.Bin<nb
 c4:x.PC=4->zBh p nb (zJ p) x.C
 g6:x.PC=6->MOk p nb x.G/\(x.G.PC=5->x.G.C.Out≠1)/\x.G.Mode=1/\x.G.PC≠4
theorem WOk.plain {p:zd}{nb:Nat}{w:Int}{x:zk}(pc:x.PC=5\/x.PC=7\/x.PC=8\/x.PC=9) (vic:1<=x.Victim/\x.Victim<=p.Workers):WOk p nb w x :=
 ⟨by omega,vic,fun e=>by omega,fun e=>by omega,fun e=>by omega,fun e=>by omega,fun e=>by omega,fun e=>by omega⟩
theorem SOk.swLow {p:zd}{nb:Nat}{s:za}(h:zD p) (S:SOk p nb s) {a:Int}(ha:a<yc p) (x v:BitVec 64):SOk p nb {s with M:=(sw s.M a x v).1}:=by
 unfold sw;split
 .exact S.low h ha v
 .exact S
theorem zIX {p:zd}{nb:Nat}{s:za}(h:zD p) (S:SOk p nb s) {d:zg}{v:Int}(hv:1<=v/\v<=p.Workers) (hk:d.Kind=2\/d.Kind=3) (hb:d.Base=zR p v):SOk p nb {s with M:=(z3 s.M d).1}:=by
 have hd:=YQ h hv.1 hv.2;have hc:=h.cap;have hf:=ZR h;have e1:wc (d.Base+1)=d.Base+1:=yT;unfold z3;split
 .exact S
 split
 .omega
 split
 .unfold zkC;rw [e1];split
  .exact S
  split
  .exact S
  split
  .exact S.low h (by omega) _
  split
  .exact S
  split
  .exact S
  split
  .exact S.swLow h (by omega) _ _
  split<;>exact S.low h (by omega) _
 split
 .unfold zcH;split
  .exact S
  split
  .exact S
  split
  .exact S
  split
  .exact S
  .exact S.swLow h (by omega) _ _
 .exact S
theorem znS (m:List (BitVec 64)) (d:zg):(z3 m d).1.length=m.length/\(z3 m d).2.Kind=d.Kind/\(z3 m d).2.Base=d.Base/\(z3 m d).2.Cap=d.Cap:=by
 unfold z3;split
 .exact ⟨rfl,rfl,rfl,rfl⟩
 split
 .unfold yP;split
  .exact ⟨rfl,rfl,rfl,rfl⟩
  split
  .exact ⟨rfl,rfl,rfl,rfl⟩
  split
  .refine ⟨rfl,?_,?_,?_⟩<;>dsimp only<;>split<;>rfl
  split<;>exact ⟨Yk _ _ _,rfl,rfl,rfl⟩
 split
 .exact zDP m d
 split
 .exact zBF m d
 .exact ⟨rfl,rfl,rfl,rfl⟩
theorem zG8 {n v:Int}(h:1<=v/\v<=n):1<=zj2 n v/\zj2 n v<=n:=by unfold zj2;split<;>omega
theorem WOk.look {p:zd}{nb:Nat}{w:Int}{x:zk}(hw:1<=w/\w<=p.Workers) (vic:1<=x.Victim/\x.Victim<=p.Workers):WOk p nb w (Z3 p w x):=by
 have hn:=zG8 vic;unfold Z3;split
 .exact ⟨⟨(by show (0:Int)<=2;decide),(by show (2:Int)<=9;decide)⟩,hw,fun e=>(by cases e),fun e=>(by cases e),fun _=>zC6,fun e=>(by cases e),fun e=>(by cases e),fun e=>(by cases e)⟩
 .exact ⟨⟨(by show (0:Int)<=1;decide),(by show (1:Int)<=9;decide)⟩,hn,fun e=>(by cases e),fun _=>⟨rfl,rfl,rfl⟩,fun e=>(by cases e),fun e=>(by cases e),fun e=>(by cases e),fun e=>(by cases e)⟩
theorem WOk.begin {p:zd}{nb:Nat}{w:Int}{x:zk}(hw:1<=w/\w<=p.Workers):WOk p nb w (UI p w x) :=
 ⟨⟨(by show (0:Int)<=0;decide),(by show (0:Int)<=9;decide)⟩,hw,fun _=>⟨rfl,rfl,rfl⟩,fun e=>(by cases e),fun e=>(by cases e),fun e=>(by cases e),fun e=>(by cases e),fun e=>(by cases e)⟩
theorem zC9 (s:za) {g:zB}(h1:g.Mode=1) (h4:g.PC≠4):(zy s g).2.PC≠4/\(zy s g).1.Flag=s.Flag:=by
 have five:(5:Int)≠4:=by decide
 unfold zy;split
 .exact ⟨h4,rfl⟩
 split
 .refine ⟨?_,rfl⟩;unfold zdR;dsimp only;split<;>exact h4
 split
 .exact ⟨(by show (7:Int)≠4;decide),rfl⟩
 split
 .refine ⟨?_,rfl⟩;unfold znq;dsimp only;split
  .show (6:Int)≠4;decide
  split
  .exact five
  .exact h4
 split
 .refine ⟨?_,rfl⟩;unfold zm0;dsimp only;split
  .exact h4
  split
  .exact five
  .exact h4
 split
 .exact ⟨h4,rfl⟩
 split
 .refine ⟨?_,rfl⟩;unfold zm6;dsimp only;split
  .show (2:Int)≠4;decide
  .show (3:Int)≠4;decide
 .exact ⟨(by show (1:Int)≠4;decide),rfl⟩
theorem zlx (s:za) (i:Int):onW s i=5\/onW s i=8:=by unfold onW;split<;>simp
theorem SOk.keep {p:zd}{nb:Nat}{s s':za}(S:SOk p nb s) (hP:s'.P=s.P) (hM:s'.M=s.M) (hB:s'.Bins.length=s.Bins.length):SOk p nb s' :=
 ⟨hP.trans S.P,hB.trans S.bins,S.nbk,by rw [hM];exact S.mem,by rw [hM];exact S.cF,by rw [hM];exact S.cE,by rw [hM];exact S.cL⟩
theorem zCU {p:zd}{nb:Nat}{s:za}{w:Int}{x:zk}(h:zD p) (hw:1<=w/\w<=p.Workers) (S:SOk p nb s) (W:WOk p nb w x):SOk p nb (zu s w x).1/\WOk p nb w (zu s w x).2:=by
 have hP:=S.P;unfold zu;split
 .rename_i h01;have hv:∃v,(1<=v/\v<=p.Workers)/\(x.D.Kind=2\/x.D.Kind=3)/\x.D.Base=zR p v:=by
   rcases h01 with e | e
   .obtain ⟨a,b,c⟩:=W.d0 e;exact ⟨w,hw,.inl a,b⟩
   .obtain ⟨a,b,c⟩:=W.d1 e;exact ⟨x.Victim,W.vic,.inr a,b⟩
  obtain ⟨v,hv1,hv2,hv3⟩:=hv;refine ⟨zIX h S hv1 hv2 hv3,?_⟩;obtain ⟨l1,l2,l3,l4⟩:=znS s.M x.D;dsimp only;split
  .exact WOk.plain (.inl rfl) hw
  split
  .rw [hP];exact WOk.look hw W.vic
  .refine ⟨W.pc,W.vic,fun e=>?_,fun e=>?_,fun e=>by dsimp only at e;omega,fun e=>by dsimp only at e;omega,fun e=>by dsimp only at e;omega,fun e=>by dsimp only at e;omega⟩
   .obtain ⟨a,b,c⟩:=W.d0 e;exact ⟨l2.trans a,l3.trans b,l4.trans c⟩
   .obtain ⟨a,b,c⟩:=W.d1 e;exact ⟨l2.trans a,l3.trans b,l4.trans c⟩
 split
 .rename_i h2;have C:=W.c2 h2;obtain ⟨b1,b2,b3,b4,b5,b6⟩:=zAC h S (.inl rfl) C.k C.h C.n C.v C.y C.o;refine ⟨b1,?_⟩;dsimp only;split
  .rename_i e1;exact ⟨⟨(by show (0:Int)<=3;decide),(by show (3:Int)<=9;decide)⟩,W.vic,fun e=>(by cases e),fun e=>(by cases e),fun e=>(by cases e),fun _=>b6 e1,fun e=>(by cases e),fun e=>(by cases e)⟩
  split
  .rw [hP];exact WOk.begin hw
  .rename_i e1 e2;exact ⟨W.pc,W.vic,fun e=>(by dsimp only at e;omega),fun e=>(by dsimp only at e;omega),fun _=>⟨b2,b3,b4,(b5 e1 e2).1,(b5 e1 e2).2,e1⟩,fun e=>(by dsimp only at e;omega),fun e=>(by dsimp only at e;omega),fun e=>(by dsimp only at e;omega)⟩
 split
 .rename_i h3;have B:=W.b3 h3;refine ⟨S.keep rfl rfl (by simp),?_⟩;rw [hP];exact ⟨⟨(by show (0:Int)<=4;decide),(by show (4:Int)<=9;decide)⟩,W.vic,fun e=>(by cases e),fun e=>(by cases e),fun e=>(by cases e),fun e=>(by cases e),fun _=>zBA B,fun e=>(by cases e)⟩
 split
 .rename_i h4;have C:=W.c4 h4;obtain ⟨b1,b2,b3,b4,b5,b6⟩:=zxm h S (.inr rfl) C.k C.h C.n C.x C.v;refine ⟨b1,?_⟩;dsimp only;split
  .exact WOk.plain (.inr (.inl rfl)) W.vic
  .exact ⟨W.pc,W.vic,fun e=>(by dsimp only at e;omega),fun e=>(by dsimp only at e;omega),fun e=>(by dsimp only at e;omega),fun e=>(by dsimp only at e;omega),fun _=>⟨b2,b3,b4,b5,b6⟩,fun e=>(by dsimp only at e;omega)⟩
 split
 .refine ⟨S,?_⟩;dsimp only;split
  .rcases zlx s (wc (x.Slot+1)) with e | e<;>rw [e]
   .exact WOk.plain (.inl rfl) W.vic
   .exact WOk.plain (.inr (.inr (.inl rfl))) W.vic
  .exact ⟨⟨(by show (0:Int)<=6;decide),(by show (6:Int)<=9;decide)⟩,W.vic,fun e=>(by cases e),fun e=>(by cases e),fun e=>(by cases e),fun e=>(by cases e),fun e=>(by cases e),fun _ =>
    ⟨⟨fun _=>hw,fun e=>(by cases e),fun e=>(by cases e),fun e=>(by cases e),fun e=>(by cases e)⟩,fun e=>(by cases e),rfl,by show (0:Int)≠4;decide⟩⟩
 split
 .rename_i h6;obtain ⟨g1,g2,g3,g4⟩:=W.g6 h6;obtain ⟨r1,r2,r3⟩:=zsu h S g1 g2;refine ⟨r1,?_⟩;dsimp only;split
  .rcases zlx s x.Slot with e | e<;>rw [e]
   .exact WOk.plain (.inl rfl) W.vic
   .exact WOk.plain (.inr (.inr (.inl rfl))) W.vic
  .exact ⟨W.pc,W.vic,fun e=>(by dsimp only at e;omega),fun e=>(by dsimp only at e;omega),fun e=>(by dsimp only at e;omega),fun e=>(by dsimp only at e;omega),fun e=>(by dsimp only at e;omega),fun _=>⟨r2,r3,(zap s x.G).2.2.trans g3,(zC9 s g3 g4).1⟩⟩
 split
 .refine ⟨S,?_⟩;dsimp only;split
  .rw [hP];exact WOk.begin hw
  .exact WOk.plain (.inl rfl) W.vic
 split
 .exact ⟨S.keep rfl rfl rfl,WOk.plain (.inr (.inr (.inr rfl))) W.vic⟩
 split
 .exact ⟨S.keep rfl rfl rfl,WOk.plain (.inr (.inl rfl)) W.vic⟩
 .have:=W.pc;omega
def xr (h:zq) (o s v:Int):zq :=
 if yj h o s=true/\0<=v/\v<=(h.Objs.length:Int) then {h with Objs:=h.Objs.set (o-1).toNat ((zF h o).set s.toNat v)} else h
def Zz (h:zq) (most:Int):Bool:=decide ((h.Objs.length:Int)<most)&&decide ((h.Objs.length:Int)<64)
def yB (h:zq):zq:={h with Objs:=h.Objs++[List.replicate h.Slots.toNat 0]}
def Y2 (t:zm) (o:Int):zm:=if (shade t o).2=true then yX (shade t o).1 o else t
def zby (l:zr) (who:Int):Int:=l.Bal.getD (who-1).toNat 0
def UM (l:zr) (who:Int):Bool:=decide (1<=who)&&decide (who<=(l.Bal.length:Int))
def zbb (l:zr) (who price limit:Int):Bool:=UM l who&&decide (0<=price)&&decide (0<=limit)&&decide (price<=1000000)&&decide (limit<=1000000)
def zdY (l:zr) (who price limit:Int):Bool:=zbb l who price limit&&decide (wc (-limit)<=wc (zby l who-price))
def zb4 (l:zr) (who price:Int):zr:={l with Spent:=wc (l.Spent+price),Bal:=l.Bal.set (who-1).toNat (wc (zby l who-price))}
def zrt (l:zr) (who price limit:Int):Int:=if zbb l who price limit then (if zdY l who price limit then 0 else wc (wc (price-limit)-zby l who)) else -1
def zjj (a b:Int):Int:=if b<a then b else a
def zbI (l:zr) (who want:Int):zr×Int :=
 if UM l who=true/\0<zjj want l.Pool then ({l with Pool:=wc (l.Pool-zjj want l.Pool),Bal:=l.Bal.set (who-1).toNat (wc (zby l who+zjj want l.Pool))},zjj want l.Pool) else (l,0)
def vm (p:zd) (m:Int):List zw:=p.Progs.getD (m-1).toNat []
def opM (p:zd) (m:Int) (x:ze):zw:=(vm p m).getD x.IP.toNat ⟨0,0,0,0⟩
def wC (x:ze) (r:Int):Int:=x.Regs.getD r.toNat 0
def vJ (x:ze):ze:={x with PC:=0,IP:=wc (x.IP+1)}
def setM (x:ze) (r v:Int):ze:={x with PC:=0,IP:=wc (x.IP+1),Regs:=x.Regs.set r.toNat v}
def onM (s:za) (slot:Int):Int:=if slot=s.H.Slots then 38 else 36
def zsy (s:za) (m:Int) (x:ze):Int:=zN s.H (wC x (opM s.P m x).A) (opM s.P m x).S
def UU (s:za) (m:Int) (x:ze):ze :=
 if s.Acks.getD (m-1).toNat 0<s.Epoch then {x with PC:=1,Ret:=2,Want:=s.Epoch}
 else if ((vm s.P m).length:Int)<=x.IP then x
 else if (opM s.P m x).Kind=1 then {x with PC:=10}
 else if (opM s.P m x).Kind=2 then {x with PC:=20}
 else if (opM s.P m x).Kind=3 then {x with PC:=30}
 else if (opM s.P m x).Kind=4 then setM x (opM s.P m x).R (wC x (opM s.P m x).A)
 else setM x (opM s.P m x).R 0
def mu0 (s:za) (m:Int) (x:ze):za×ze :=
 (s,UU s m x)
def mu1 (s:za) (m:Int) (x:ze):za×ze :=
 (s,if x.Buf.length=0 then {x with PC:=x.Ret} else {x with PC:=3,Buf:=x.Buf.take (x.Buf.length-1),G:=Ym 2 (x.Buf.getD (x.Buf.length-1) 0) m})
def mu2 (s:za) (m:Int) (x:ze):za×ze :=
 ({s with Acks:=s.Acks.set (m-1).toNat x.Want},{x with PC:=0})
def mu3 (s:za) (m:Int) (x:ze):za×ze :=
 ((zy s x.G).1,if (zy s x.G).2.Out=1 then {x with PC:=1,G:=(zy s x.G).2} else {x with G:=(zy s x.G).2})
def zi8 (s:za) (m:Int) (x:ze):za×ze :=
 (s,setM x (opM s.P m x).R (zsy s m x))
def zfQ (s:za) (m:Int) (x:ze):za×ze :=
 (s,if wC x (opM s.P m x).A=0 then vJ x else {x with PC:=21,Old:=zsy s m x})
def zfW (s:za) (m:Int) (x:ze):za×ze :=
 (s,if x.Old=0\/yh s.T x.Old≠0 then {x with PC:=23,Old:=0} else {x with PC:=22})
def zfq (s:za) (m:Int) (x:ze):za×ze :=
 (s,if s.P.Buf<=(x.Buf.length:Int) then {x with PC:=1,Ret:=22} else {x with PC:=23,Old:=0,Buf:=x.Buf++[x.Old]})
def zgT (s:za) (m:Int) (x:ze):za×ze :=
 ({s with H:=xr s.H (wC x (opM s.P m x).A) (opM s.P m x).S (wC x (opM s.P m x).R)},vJ x)
def Uo (s:za) (m:Int) (x:ze):za×ze :=
   if zdY s.L m s.P.Price s.P.Limit=true then
   if Zz s.H s.P.Most=true then ({s with L:=zb4 s.L m s.P.Price,H:=yB s.H,T:=Y2 s.T (wc (s.H.Objs.length+1))},setM x (opM s.P m x).R (wc (s.H.Objs.length+1)))
   else (s,vJ x)
  else (s,{x with PC:=31})
def zeN (s:za) (m:Int) (x:ze):za×ze :=
   ({s with L:=(zbI s.L m (zrt s.L m s.P.Price s.P.Limit)).1},if (zbI s.L m (zrt s.L m s.P.Price s.P.Limit)).2=0 then {x with PC:=32,C:=zDG s.P (yc s.P) x.Bin} else {x with PC:=0})
def zeZ (s:za) (m:Int) (x:ze):za×ze :=
   ({s with M:=(zt s.M x.C).1},if (zt s.M x.C).2.Out=1 then {x with PC:=33,Bin:=(zt s.M x.C).2.X,C:=(zt s.M x.C).2}
   else if (zt s.M x.C).2.Out=2 then {x with PC:=0,C:=(zt s.M x.C).2} else {x with C:=(zt s.M x.C).2})
def zjw (s:za) (m:Int) (x:ze):za×ze :=
 ({s with Bins:=s.Bins.set x.Bin.toNat []},{x with Batch:=VL s x.Bin,PC:=34,C:=zcJ s.P (zJ s.P) x.Bin})
def zfe (s:za) (m:Int) (x:ze):za×ze :=
   ({s with M:=(zt s.M x.C).1},if (zt s.M x.C).2.Out=1 then {x with C:=(zt s.M x.C).2,Bin:=0,PC:=35} else {x with C:=(zt s.M x.C).2})
def zeK (s:za) (m:Int) (x:ze):za×ze :=
 (s,match x.Batch with | []=>{x with PC:=0} | o::l=>{x with PC:=36,Obj:=o,Slot:=0,Batch:=l})
def zeM (s:za) (m:Int) (x:ze):za×ze :=
   (s,if zN s.H x.Obj x.Slot=0 then {x with Slot:=wc (x.Slot+1),PC:=onM s (wc (x.Slot+1))} else {x with Slot:=wc (x.Slot+1),PC:=37,G:=Ym 3 (zN s.H x.Obj x.Slot) m})
def zaI (s:za) (m:Int) (x:ze):za×ze :=
 ((zy s x.G).1,if (zy s x.G).2.Out=1 then {x with G:=(zy s x.G).2,PC:=onM s x.Slot} else {x with G:=(zy s x.G).2})
def zgj (s:za) (m:Int) (x:ze):za×ze :=
 ({s with T:=yX s.T x.Obj,L:=zcF s.L m},{x with PC:=39})
def zlh (s:za) (m:Int) (x:ze):za×ze :=
 ({s with Work:=wc (s.Work-1)},{x with Obj:=0,PC:=35})
def zp (s:za) (m:Int) (x:ze):za×ze :=
 if x.PC=0 then mu0 s m x
 else if x.PC=1 then mu1 s m x
 else if x.PC=2 then mu2 s m x
 else if x.PC=3 then mu3 s m x
 else if x.PC=10 then zi8 s m x
 else if x.PC=20 then zfQ s m x
 else if x.PC=21 then zfW s m x
 else if x.PC=22 then zfq s m x
 else if x.PC=23 then zgT s m x
 else if x.PC=30 then Uo s m x
 else if x.PC=31 then zeN s m x
 else if x.PC=32 then zeZ s m x
 else if x.PC=33 then zjw s m x
 else if x.PC=34 then zfe s m x
 else if x.PC=35 then zeK s m x
 else if x.PC=36 then zeM s m x
 else if x.PC=37 then zaI s m x
 else if x.PC=38 then zgj s m x
 else if x.PC=39 then zlh s m x
 else (s,x)
def zH (s:za) (m:Int):za :=
 if s.Done=true\/m<1\/(s.Ms.length:Int)<m then s
 else match s.Ms[(m-1).toNat]? with
  | some x=>{(zp s m x).1 with Ms:=s.Ms.set (m-1).toNat (zp s m x).2}
  | none=>s
def zhR (p:zd) (m:Int):Nat:=(p.Regs.getD (m-1).toNat []).length
structure XOk (p:zd) (nb:Nat) (m:Int) (x:ze):Prop where
 pc:(0<=x.PC/\x.PC<=3)\/x.PC=10\/(20<=x.PC/\x.PC<=23)\/(30<=x.PC/\x.PC<=39)
 regs:x.Regs.length=zhR p m
 ip:0<=x.IP/\x.IP<=((vm p m).length:Int)
 op:(10<=x.PC/\x.PC<=30)\/((x.PC=1\/x.PC=3)/\x.Ret=22)->x.IP<((vm p m).length:Int)
 ret:x.PC=1\/x.PC=3->x.Ret=2\/x.Ret=22
 c32:x.PC=32->zEe p nb (yc p) x.C
 b33:x.PC=33->1<=x.Bin/\x.Bin<nb
 c34:x.PC=34->zBh p nb (zJ p) x.C
 bin:x.PC≠33->x.PC≠34->x.Bin=0
 g:x.PC=3\/x.PC=37->MOk p nb x.G/\(x.G.PC=5->x.G.C.Out≠1)/\x.G.Mode≠1
 buf:(x.Buf.length:Int)<=p.Buf
theorem XOk.move {p:zd}{nb:Nat}{m:Int}{x y:ze}(X:XOk p nb m x) (h:x.PC≠33/\x.PC≠34) (pc:y.PC=0\/y.PC=2\/y.PC=10\/(20<=y.PC/\y.PC<=23)\/y.PC=30\/y.PC=31\/y.PC=35\/y.PC=36\/y.PC=38\/y.PC=39)
  (regs:y.Regs.length=x.Regs.length) (bin:y.Bin=x.Bin) (buf:(y.Buf.length:Int)<=p.Buf) (ip:0<=y.IP/\y.IP<=((vm p m).length:Int)) (op:10<=y.PC/\y.PC<=30->y.IP<((vm p m).length:Int)):XOk p nb m y :=
 ⟨by omega,regs.trans X.regs,ip,fun e=>op (by omega),fun e=>by omega,fun e=>by omega,fun e=>by omega,fun e=>by omega,fun _ _=>bin.trans (X.bin h.1 h.2),fun e=>by omega,buf⟩
theorem zdl (s:za) (i:Int):onM s i=36\/onM s i=38:=by unfold onM;split<;>simp
theorem XOk.next {p:zd}{nb:Nat}{m:Int}{x:ze}(hp:((vm p m).length:Int)<=64) (X:XOk p nb m x) (h:x.PC≠33/\x.PC≠34) (hi:x.IP<((vm p m).length:Int)):XOk p nb m (vJ x):=by
 have:=X.ip;have e:wc (x.IP+1)=x.IP+1:=yT;refine X.move h (.inl rfl) rfl rfl X.buf ?_ (fun h=>absurd h (by show ¬((10:Int)<=0/\(0:Int)<=30);decide));show 0<=wc (x.IP+1)/\wc (x.IP+1)<=_;rw [e];omega
theorem XOk.set {p:zd}{nb:Nat}{m:Int}{x:ze}(hp:((vm p m).length:Int)<=64) (X:XOk p nb m x) (h:x.PC≠33/\x.PC≠34) (hi:x.IP<((vm p m).length:Int)) (r v:Int):XOk p nb m (setM x r v):=by
 have:=X.ip;have e:wc (x.IP+1)=x.IP+1:=yT;refine X.move h (.inl rfl) (by simp [setM]) rfl X.buf ?_ (fun h=>absurd h (by show ¬((10:Int)<=0/\(0:Int)<=30);decide));show 0<=wc (x.IP+1)/\wc (x.IP+1)<=_;rw [e];omega
theorem xG {motive:za×ze->Prop}(s:za) (m:Int) (x:ze) (h0:x.PC=0->motive (mu0 s m x)) (h1:x.PC=1->motive (mu1 s m x)) (h2:x.PC=2->motive (mu2 s m x)) (h3:x.PC=3->motive (mu3 s m x)) (h10:x.PC=10->motive (zi8 s m x)) (h20:x.PC=20->motive (zfQ s m x)) (h21:x.PC=21->motive (zfW s m x)) (h22:x.PC=22->motive (zfq s m x)) (h23:x.PC=23->motive (zgT s m x)) (h30:x.PC=30->motive (Uo s m x)) (h31:x.PC=31->motive (zeN s m x)) (h32:x.PC=32->motive (zeZ s m x)) (h33:x.PC=33->motive (zjw s m x)) (h34:x.PC=34->motive (zfe s m x)) (h35:x.PC=35->motive (zeK s m x)) (h36:x.PC=36->motive (zeM s m x)) (h37:x.PC=37->motive (zaI s m x)) (h38:x.PC=38->motive (zgj s m x)) (h39:x.PC=39->motive (zlh s m x)) (hn:motive (s,x)):motive (zp s m x):=by
 unfold zp;by_cases c0:x.PC=0
 .rw [zb c0];exact h0 c0
 rw [zc c0];by_cases c1:x.PC=1
 .rw [zb c1];exact h1 c1
 rw [zc c1];by_cases c2:x.PC=2
 .rw [zb c2];exact h2 c2
 rw [zc c2];by_cases c3:x.PC=3
 .rw [zb c3];exact h3 c3
 rw [zc c3];by_cases c10:x.PC=10
 .rw [zb c10];exact h10 c10
 rw [zc c10];by_cases c20:x.PC=20
 .rw [zb c20];exact h20 c20
 rw [zc c20];by_cases c21:x.PC=21
 .rw [zb c21];exact h21 c21
 rw [zc c21];by_cases c22:x.PC=22
 .rw [zb c22];exact h22 c22
 rw [zc c22];by_cases c23:x.PC=23
 .rw [zb c23];exact h23 c23
 rw [zc c23];by_cases c30:x.PC=30
 .rw [zb c30];exact h30 c30
 rw [zc c30];by_cases c31:x.PC=31
 .rw [zb c31];exact h31 c31
 rw [zc c31];by_cases c32:x.PC=32
 .rw [zb c32];exact h32 c32
 rw [zc c32];by_cases c33:x.PC=33
 .rw [zb c33];exact h33 c33
 rw [zc c33];by_cases c34:x.PC=34
 .rw [zb c34];exact h34 c34
 rw [zc c34];by_cases c35:x.PC=35
 .rw [zb c35];exact h35 c35
 rw [zc c35];by_cases c36:x.PC=36
 .rw [zb c36];exact h36 c36
 rw [zc c36];by_cases c37:x.PC=37
 .rw [zb c37];exact h37 c37
 rw [zc c37];by_cases c38:x.PC=38
 .rw [zb c38];exact h38 c38
 rw [zc c38];by_cases c39:x.PC=39
 .rw [zb c39];exact h39 c39
 rw [zc c39];exact hn
theorem zE9 {p:zd}{nb:Nat}{s:za}{m:Int}{x:ze}(h:zD p) (hp:((vm p m).length:Int)<=64) (S:SOk p nb s) (X:XOk p nb m x):SOk p nb (zp s m x).1/\XOk p nb m (zp s m x).2:=by
 have hP:=S.P;have hip:=X.ip;have hbuf:=X.buf;have hb:=h.buf;have nop:∀y:Int,31<=y->¬(10<=y/\y<=30):=fun y h e=>by omega
 refine xG (motive:=fun r=>SOk p nb r.1/\XOk p nb m r.2) s m x ?_ ?_ ?_ ?_ ?_ ?_ ?_ ?_ ?_ ?_ ?_ ?_ ?_ ?_ ?_ ?_ ?_ ?_ ?_ ?_
 .intro c;unfold mu0;refine ⟨S,?_⟩;unfold UU;rw [hP];split
  .exact ⟨.inl ⟨(by show (0:Int)<=1;decide),(by show (1:Int)<=3;decide)⟩,X.regs,X.ip,fun e=>by dsimp only at e;omega,fun _=>.inl rfl,fun e=>(by cases e),fun e=>(by cases e),fun e=>(by cases e),fun _ _=>X.bin (by omega) (by omega),fun e=>by dsimp only at e;omega,X.buf⟩
  split
  .exact X
  rename_i hlt;have hlt:x.IP<((vm p m).length:Int):=by omega
  split
  .exact X.move (by omega) (.inr (.inr (.inl rfl))) rfl rfl X.buf X.ip (fun _=>hlt)
  split
  .exact X.move (by omega) (.inr (.inr (.inr (.inl ⟨by show (20:Int)<=20;decide,by show (20:Int)<=23;decide⟩)))) rfl rfl X.buf X.ip (fun _=>hlt)
  split
  .exact X.move (by omega) (.inr (.inr (.inr (.inr (.inl rfl))))) rfl rfl X.buf X.ip (fun _=>hlt)
  split
  .exact X.set hp (by omega) hlt _ _
  .exact X.set hp (by omega) hlt _ _
 .intro c;unfold mu1;refine ⟨S,?_⟩;split
  .rcases X.ret (.inl c) with e | e
   .exact X.move (by omega) (.inr (.inl e)) rfl rfl X.buf X.ip (fun e2=>by dsimp only at e2;omega)
   .exact X.move (by omega) (.inr (.inr (.inr (.inl (by dsimp only;omega))))) rfl rfl X.buf X.ip (fun e2=>X.op (.inr ⟨.inl c,e⟩))
  .exact ⟨.inl ⟨(by show (0:Int)<=3;decide),(by show (3:Int)<=3;decide)⟩,X.regs,X.ip,fun e=>X.op (.inr ⟨.inl c,by dsimp only at e;omega⟩),fun _=>X.ret (.inl c),fun e=>(by cases e),fun e=>(by cases e),fun e=>(by cases e),fun _ _=>X.bin (by omega) (by omega),
    fun _=>⟨⟨fun e=>absurd e (by show ¬(2:Int)=1;decide),fun e=>(by cases e),fun e=>(by cases e),fun e=>(by cases e),fun e=>(by cases e)⟩,fun e=>(by cases e),by show (2:Int)≠1;decide⟩,by dsimp only;rw [zKK];omega⟩
 .intro c;unfold mu2;exact ⟨S.keep rfl rfl rfl,X.move (by omega) (.inl rfl) rfl rfl X.buf X.ip (fun e=>absurd e (by show ¬((10:Int)<=0/\(0:Int)<=30);decide))⟩
 .intro c;unfold mu3;obtain ⟨g1,g2,g3⟩:=X.g (.inl c);obtain ⟨r1,r2,r3⟩:=zsu h S g1 g2;refine ⟨r1,?_⟩;dsimp only;split
  .exact ⟨.inl ⟨(by show (0:Int)<=1;decide),(by show (1:Int)<=3;decide)⟩,X.regs,X.ip,fun e=>X.op (.inr ⟨.inr c,by dsimp only at e;omega⟩),fun _=>X.ret (.inr c),fun e=>(by cases e),fun e=>(by cases e),fun e=>(by cases e),fun _ _=>X.bin (by omega) (by omega),fun e=>by dsimp only at e;omega,X.buf⟩
  .exact ⟨X.pc,X.regs,X.ip,X.op,X.ret,fun e=>by dsimp only at e;omega,fun e=>by dsimp only at e;omega,fun e=>by dsimp only at e;omega,X.bin,fun _=>⟨r2,r3,by rw [(zap s x.G).2.2];exact g3⟩,X.buf⟩
 .intro c;unfold zi8;exact ⟨S,X.set hp (by omega) (X.op (.inl (by omega))) _ _⟩
 .intro c;unfold zfQ;refine ⟨S,?_⟩;split
  .exact X.next hp (by omega) (X.op (.inl (by omega)))
  .exact X.move (by omega) (.inr (.inr (.inr (.inl ⟨by show (20:Int)<=21;decide,by show (21:Int)<=23;decide⟩)))) rfl rfl X.buf X.ip (fun _=>X.op (.inl (by omega)))
 .intro c;unfold zfW;refine ⟨S,?_⟩;split
  .exact X.move (by omega) (.inr (.inr (.inr (.inl ⟨by show (20:Int)<=23;decide,by show (23:Int)<=23;decide⟩)))) rfl rfl X.buf X.ip (fun _=>X.op (.inl (by omega)))
  .exact X.move (by omega) (.inr (.inr (.inr (.inl ⟨by show (20:Int)<=22;decide,by show (22:Int)<=23;decide⟩)))) rfl rfl X.buf X.ip (fun _=>X.op (.inl (by omega)))
 .intro c;unfold zfq;have hi:=X.op (.inl (by omega));refine ⟨S,?_⟩;rw [hP];split
  .exact ⟨.inl ⟨(by show (0:Int)<=1;decide),(by show (1:Int)<=3;decide)⟩,X.regs,X.ip,fun e=>hi,fun _=>.inr rfl,fun e=>(by cases e),fun e=>(by cases e),fun e=>(by cases e),fun _ _=>X.bin (by omega) (by omega),fun e=>by dsimp only at e;omega,X.buf⟩
  .exact X.move (by omega) (.inr (.inr (.inr (.inl ⟨by show (20:Int)<=23;decide,by show (23:Int)<=23;decide⟩)))) rfl rfl (by simp;omega) X.ip (fun _=>hi)
 .intro c;unfold zgT;exact ⟨S.keep rfl rfl rfl,X.next hp (by omega) (X.op (.inl (by omega)))⟩
 .intro c;unfold Uo;have hi:=X.op (.inl (by omega));split
  .split
   .exact ⟨S.keep rfl rfl rfl,X.set hp (by omega) hi _ _⟩
   .exact ⟨S,X.next hp (by omega) hi⟩
  .exact ⟨S,X.move (by omega) (.inr (.inr (.inr (.inr (.inr (.inl rfl)))))) rfl rfl X.buf X.ip (fun e=>absurd e (by show ¬((10:Int)<=31/\(31:Int)<=30);decide))⟩
 .intro c;unfold zeN;refine ⟨S.keep rfl rfl rfl,?_⟩;rw [hP];split
  .exact ⟨.inr (.inr (.inr ⟨(by show (30:Int)<=32;decide),(by show (32:Int)<=39;decide)⟩)),X.regs,X.ip,fun e=>by dsimp only at e;omega,fun e=>by dsimp only at e;omega,fun _=>zC6,fun e=>(by cases e),fun e=>(by cases e),fun _ _=>X.bin (by omega) (by omega),fun e=>by dsimp only at e;omega,X.buf⟩
  .exact X.move (by omega) (.inl rfl) rfl rfl X.buf X.ip (fun e=>absurd e (by show ¬((10:Int)<=0/\(0:Int)<=30);decide))
 .intro c;unfold zeZ;have C:=X.c32 c;obtain ⟨b1,b2,b3,b4,b5,b6⟩:=zAC h S (.inl rfl) C.k C.h C.n C.v C.y C.o;refine ⟨b1,?_⟩;dsimp only;split
  .rename_i e1;exact ⟨.inr (.inr (.inr ⟨(by show (30:Int)<=33;decide),(by show (33:Int)<=39;decide)⟩)),X.regs,X.ip,fun e=>by dsimp only at e;omega,fun e=>by dsimp only at e;omega,fun e=>(by cases e),fun _=>b6 e1,fun e=>(by cases e),fun e=>absurd rfl e,fun e=>by dsimp only at e;omega,X.buf⟩
  split
  .exact X.move (by omega) (.inl rfl) rfl rfl X.buf X.ip (fun e=>absurd e (by show ¬((10:Int)<=0/\(0:Int)<=30);decide))
  .rename_i e1 e2;exact ⟨X.pc,X.regs,X.ip,X.op,X.ret,fun _=>⟨b2,b3,b4,(b5 e1 e2).1,(b5 e1 e2).2,e1⟩,fun e=>by dsimp only at e;omega,fun e=>by dsimp only at e;omega,X.bin,fun e=>by dsimp only at e;omega,X.buf⟩
 .intro c;unfold zjw;have B:=X.b33 c;refine ⟨S.keep rfl rfl (by simp),?_⟩;rw [hP];exact ⟨.inr (.inr (.inr ⟨(by show (30:Int)<=34;decide),(by show (34:Int)<=39;decide)⟩)),X.regs,X.ip,fun e=>by dsimp only at e;omega,fun e=>by dsimp only at e;omega,fun e=>(by cases e),fun e=>(by cases e),fun _=>zBA B,fun _ e=>absurd rfl e,fun e=>by dsimp only at e;omega,X.buf⟩
 .intro c;unfold zfe;have C:=X.c34 c;obtain ⟨b1,b2,b3,b4,b5,b6⟩:=zxm h S (.inr rfl) C.k C.h C.n C.x C.v;refine ⟨b1,?_⟩;dsimp only;split
  .exact ⟨.inr (.inr (.inr ⟨(by show (30:Int)<=35;decide),(by show (35:Int)<=39;decide)⟩)),X.regs,X.ip,fun e=>by dsimp only at e;omega,fun e=>by dsimp only at e;omega,fun e=>(by cases e),fun e=>(by cases e),fun e=>(by cases e),fun _ _=>rfl,fun e=>by dsimp only at e;omega,X.buf⟩
  .exact ⟨X.pc,X.regs,X.ip,X.op,X.ret,fun e=>by dsimp only at e;omega,fun e=>by dsimp only at e;omega,fun _=>⟨b2,b3,b4,b5,b6⟩,X.bin,fun e=>by dsimp only at e;omega,X.buf⟩
 .intro c;unfold zeK;refine ⟨S,?_⟩;dsimp only;split
  .exact X.move (by omega) (.inl rfl) rfl rfl X.buf X.ip (fun e=>absurd e (by show ¬((10:Int)<=0/\(0:Int)<=30);decide))
  .exact X.move (by omega) (by simp) rfl rfl X.buf X.ip (fun e=>absurd e (nop 36 (by omega)))
 .intro c;unfold zeM;refine ⟨S,?_⟩;dsimp only;split
  .rcases zdl s (wc (x.Slot+1)) with e | e<;>rw [e]
   .exact X.move (by omega) (by simp) rfl rfl X.buf X.ip (fun e=>absurd e (nop 36 (by omega)))
   .exact X.move (by omega) (by simp) rfl rfl X.buf X.ip (fun e=>absurd e (nop 38 (by omega)))
  .exact ⟨.inr (.inr (.inr ⟨(by show (30:Int)<=37;decide),(by show (37:Int)<=39;decide)⟩)),X.regs,X.ip,fun e=>by dsimp only at e;omega,fun e=>by dsimp only at e;omega,fun e=>(by cases e),fun e=>(by cases e),fun e=>(by cases e),fun _ _=>X.bin (by omega) (by omega),
    fun _=>⟨⟨fun e=>absurd e (by show ¬(3:Int)=1;decide),fun e=>(by cases e),fun e=>(by cases e),fun e=>(by cases e),fun e=>(by cases e)⟩,fun e=>(by cases e),by show (3:Int)≠1;decide⟩,X.buf⟩
 .intro c;unfold zaI;obtain ⟨g1,g2,g3⟩:=X.g (.inr c);obtain ⟨r1,r2,r3⟩:=zsu h S g1 g2;refine ⟨r1,?_⟩;dsimp only;split
  .rcases zdl s x.Slot with e | e<;>rw [e]
   .exact X.move (by omega) (by simp) rfl rfl X.buf X.ip (fun e=>absurd e (nop 36 (by omega)))
   .exact X.move (by omega) (by simp) rfl rfl X.buf X.ip (fun e=>absurd e (nop 38 (by omega)))
  .exact ⟨X.pc,X.regs,X.ip,X.op,X.ret,fun e=>by dsimp only at e;omega,fun e=>by dsimp only at e;omega,fun e=>by dsimp only at e;omega,X.bin,fun _=>⟨r2,r3,by rw [(zap s x.G).2.2];exact g3⟩,X.buf⟩
 .intro c;unfold zgj;exact ⟨S.keep rfl rfl rfl,X.move (by omega) (by simp) rfl rfl X.buf X.ip (fun e=>absurd e (nop 39 (by omega)))⟩
 .intro c;unfold zlh;exact ⟨S.keep rfl rfl rfl,X.move (by omega) (by simp) rfl rfl X.buf X.ip (fun e=>absurd e (nop 35 (by omega)))⟩
 .exact ⟨S,X⟩
structure X4 (s:za):Prop where
 m:s.M.length<1000000
 bins:s.Bins.length<1000000
 bin:∀x∈s.Bins,x.length<1000000
 acks:s.Acks.length<1000000
 bal:s.L.Bal.length<1000000
 ws:s.Ws.length<1000000
 w:∀x∈s.Ws,x.Batch.length<1000000
 ms:s.Ms.length<1000000
 mu:∀x∈s.Ms,x.Regs.length<1000000/\x.Buf.length<1000000/\x.Batch.length<1000000
 objs:s.H.Objs.length<1000000
 obj:∀x∈s.H.Objs,x.length<1000000
 pobjs:s.P.H.Objs.length<1000000
 pobj:∀x∈s.P.H.Objs,x.length<1000000
 regs:s.P.Regs.length<1000000
 reg:∀x∈s.P.Regs,x.length<1000000
 progs:s.P.Progs.length<1000000
 prog:∀x∈s.P.Progs,x.length<1000000
 picks:s.P.Picks.length<1000000
theorem zcA (m:List (BitVec 64)) (c:zL):(zt m c).1.length=m.length:=by
 unfold zt sw;split
 .rfl
 split
 .rfl
 split
 .split<;>simp [Yk]
 .dsimp only;split<;>simp [Yk]
theorem zj5 (m:List (BitVec 64)) (d:zg):(yP m d).1.length=m.length:=by
 unfold yP;split
 .rfl
 split
 .rfl
 split
 .rfl
 split<;>simp [Yk]
theorem ze0 (s:za) (g:zB):∃m b t w f,(zy s g).1={s with M:=m,Bins:=b,T:=t,Work:=w,Flag:=f}/\m.length=s.M.length/\b.length=s.Bins.length /\
  (∀x∈b,x∈s.Bins\/x=[g.Obj])/\(t=s.T\/t=(shade s.T g.Obj).1)/\(w=s.Work\/w=wc (s.Work+1)\/w=wc (s.Work-1)):=by
 unfold zy;split
 .exact ⟨s.M,s.Bins,s.T,s.Work,s.Flag,rfl,rfl,rfl,fun x h=>.inl h,.inl rfl,.inl rfl⟩
 split
 .exact ⟨_,s.Bins,s.T,s.Work,s.Flag,rfl,zcA _ _,rfl,fun x h=>.inl h,.inl rfl,.inl rfl⟩
 split
 .refine ⟨s.M,_,s.T,s.Work,s.Flag,rfl,rfl,by simp,fun x h=>?_,.inl rfl,.inl rfl⟩;rcases zKn h with h | h
  .exact .inl h
  .exact .inr h
 split
 .exact ⟨_,s.Bins,s.T,s.Work,s.Flag,rfl,zcA _ _,rfl,fun x h=>.inl h,.inl rfl,.inl rfl⟩
 split
 .exact ⟨s.M,s.Bins,s.T,s.Work,true,rfl,rfl,rfl,fun x h=>.inl h,.inl rfl,.inl rfl⟩
 split
 .exact ⟨_,s.Bins,s.T,s.Work,s.Flag,rfl,zj5 _ _,rfl,fun x h=>.inl h,.inl rfl,.inl rfl⟩
 split
 .exact ⟨s.M,s.Bins,s.T,_,s.Flag,rfl,rfl,rfl,fun x h=>.inl h,.inl rfl,.inr (.inr rfl)⟩
 split
 .exact ⟨s.M,s.Bins,_,s.Work,s.Flag,rfl,rfl,rfl,fun x h=>.inl h,.inr rfl,.inl rfl⟩
 .exact ⟨s.M,s.Bins,s.T,_,s.Flag,rfl,rfl,rfl,fun x h=>.inl h,.inl rfl,.inr (.inl rfl)⟩
theorem zFw {p:zd}(h:zD p):X4 (xl p):=by
 have S:=zCK h;have hb:=zdW h;have hg:=zmN h;have hn:=h.n;have hm:=h.mt;have hw:=h.wk;have hs:=h.slots;have hrl:=h.regs;have hpl:=h.progs;have hobj:∀o∈p.H.Objs,o.length<1000000:=fun o ho=>by have:=(h.objs o ho).1;omega
 have hreg:∀r∈p.Regs,r.length<1000000:=fun r hr=>by have:=(h.reg r hr).1;omega
 refine ⟨by have:=S.mem;omega,by rw [S.bins];omega,fun x hx=>?_,?_,?_,?_,fun x hx=>?_,?_,fun x hx=>?_,by show p.H.Objs.length<_;omega,hobj,by show p.H.Objs.length<_;omega,hobj,by show p.Regs.length<_;omega,hreg,by show p.Progs.length<_;omega,fun x hx=>?_,?_⟩
 .have hx:x∈[[]]++xn p++List.replicate (z5 p-(xn p).length) []:=hx;rcases zJZ.1 hx with hx | hx
  .rcases zJZ.1 hx with hx | hx
   .simp at hx;subst hx;simp
   .have:=znV _ _ _ _ hx;omega
  .have:=(List.mem_replicate.1 hx).2;subst this;simp
 .show (List.replicate p.Mutators.toNat (0:Int)).length<_;simp;omega
 .show (List.replicate p.Mutators.toNat (0:Int)).length<_;simp;omega
 .show ((List.range p.Workers.toNat).map (vX p)).length<_;simp;omega
 .have hx:x∈(List.range p.Workers.toNat).map (vX p):=hx;obtain ⟨i,_,rfl⟩:=zJO.1 hx;simp [vX]
 .show (p.Regs.map wR).length<_;simp;omega
 .have hx:x∈p.Regs.map wR:=hx;obtain ⟨r,hr,rfl⟩:=zJO.1 hx;exact ⟨hreg r hr,by simp [wR],by simp [wR]⟩
 .obtain ⟨i,hi⟩:=List.getElem?_of_mem hx;have hlt:=(zJK.1 hi).1;have:=(h.prog i _ x (zJC (show i<p.Regs.length from (show p.Progs.length=p.Regs.length by omega)▸hlt)) hi).1;omega
 .show p.Picks.length<_;rw [h.picks];simp
def xL (s:za):za :=
 if s.Done=true then s
 else if s.D.PC=0 then {s with Flag:=false,D:={s.D with PC:=1}}
 else if s.D.PC=1 then (if s.Work=0 then {s with D:={s.D with PC:=2}} else s)
 else if s.D.PC=2 then {s with Epoch:=wc (s.Epoch+1),D:=⟨if s.Ms.length=0 then 4 else 3,0⟩}
 else if s.D.PC=3 then (if s.Acks.getD s.D.I.toNat 0<s.Epoch then s else {s with D:=⟨if wc (s.D.I+1)=(s.Ms.length:Int) then 4 else 3,wc (s.D.I+1)⟩})
 else if s.D.PC=4 then (if s.Work=0 then {s with D:={s.D with PC:=5}} else {s with Restarts:=wc (s.Restarts+1),D:={s.D with PC:=0}})
 else if s.D.PC=5 then (if s.Flag=true then {s with Restarts:=wc (s.Restarts+1),D:={s.D with PC:=0}} else {s with D:={s.D with PC:=6}})
 else if s.D.PC=6 then {s with Done:=true}
 else s
structure HOk (p:zd) (h:zq):Prop where
 slots:h.Slots=p.H.Slots
 n:(p.H.Objs.length:Int)<=(h.Objs.length:Int)/\(h.Objs.length:Int)<=p.Most
 objs:∀o∈h.Objs,(o.length:Int)=h.Slots/\∀v∈o,0<=v/\v<=(h.Objs.length:Int)
structure EOk (p:zd) (nb:Nat) (s:za):Prop where
 S:SOk p nb s
 wl:(s.Ws.length:Int)=p.Workers
 ml:(s.Ms.length:Int)=p.Mutators
 al:s.Acks.length=s.Ms.length
 W:∀(i:Nat) x,s.Ws[i]? =some x->WOk p nb ((i:Int)+1) x
 X:∀(i:Nat) x,s.Ms[i]? =some x->XOk p nb ((i:Int)+1) x
 H:HOk p s.H
 D:(0<=s.D.PC/\s.D.PC<=6)/\(s.D.PC=3->0<=s.D.I/\s.D.I<(s.Ms.length:Int))
 small:X4 s
theorem zuU {p:zd}(h:zD p) (m:Int):((vm p m).length:Int)<=64:=by
 unfold vm;have hr:=h.regs;have hp:=h.progs;rw [zJD];rcases zKa (m-1).toNat p.Progs.length with hl | hl
 .rw [zJC hl];have hl2:(m-1).toNat<p.Regs.length:=by omega
  have:=(h.prog (m-1).toNat _ _ (zJC hl2) (zJC hl)).1;show ((p.Progs[(m-1).toNat]).length:Int)<=64;omega
 .rw [zKH hl];show (([]:List zw).length:Int)<=64;simp
theorem zAV {p:zd}(h:zD p):EOk p (z5 p+1) (xl p):=by
 have hw:=h.wk;have hm:=h.mt;have hr:=h.regs;have hn:=h.n;have hmo:=h.most;have hb:=h.buf;refine ⟨zCK h,?_,?_,?_,fun i x hx=>?_,fun i x hx=>?_,⟨rfl,⟨zKl _,hmo.1⟩,h.objs⟩,⟨⟨by show (0:Int)<=0;decide,by show (0:Int)<=6;decide⟩,fun e=>absurd e (by show ¬(0:Int)=3;decide)⟩,zFw h⟩
 .show (((List.range p.Workers.toNat).map (vX p)).length:Int)=_;rw [zKv,List.length_range];omega
 .show ((p.Regs.map wR).length:Int)=_;rw [zKv];exact hr
 .show (List.replicate p.Mutators.toNat (0:Int)).length=(p.Regs.map wR).length;rw [zKf,zKv];omega
 .have hx:((List.range p.Workers.toNat).map (vX p))[i]? =some x:=hx;rw [zJ8] at hx;rcases zKa i p.Workers.toNat with hl | hl
  .rw [List.getElem?_range hl] at hx;injection hx with hx;subst hx;exact ⟨⟨by show (0:Int)<=0;decide,by show (0:Int)<=9;decide⟩,by show 1<=(i:Int)+1/\(i:Int)+1<=p.Workers;omega,fun _=>⟨rfl,rfl,rfl⟩,fun e=>(by cases e),fun e=>(by cases e),fun e=>(by cases e),fun e=>(by cases e),fun e=>(by cases e)⟩
  .rw [zKH (by rw [List.length_range];exact hl)] at hx;cases hx
 .have hx:(p.Regs.map wR)[i]? =some x:=hx;rw [zJ8] at hx;cases hq:p.Regs[i]? with
  | none=>rw [hq] at hx;cases hx
  | some r =>
   rw [hq] at hx;injection hx with hx;subst hx;refine ⟨.inl ⟨by show (0:Int)<=0;decide,by show (0:Int)<=3;decide⟩,?_,⟨by show (0:Int)<=0;decide,by show (0:Int)<=_;omega⟩,fun e=>absurd e ?_,fun e=>absurd e ?_,fun e=>(by cases e),fun e=>(by cases e),fun e=>(by cases e),fun _ _=>rfl,fun e=>absurd e ?_,by show (0:Int)<=p.Buf;omega⟩
   .show r.length=zhR p ((i:Int)+1);unfold zhR;rw [show ((i:Int)+1-1).toNat=i by omega,zJD,hq];rfl
   .intro e;simp [wR] at e
   .intro e;simp [wR] at e
   .intro e;simp [wR] at e
theorem zto {s:za}(h:X4 s) (b:Int):(VL s b).length<1000000:=by
 unfold VL;rw [zJD];cases hq:s.Bins[b.toNat]? with
 | none=>simp
 | some l=>exact h.bin l (zJG hq)
theorem zyB (l:zr) (w:Int):(zcF l w).Bal.length=l.Bal.length:=by unfold zcF;split<;>simp
structure Vt (s s':za):Prop where
 P:s'.P=s.P
 m:s'.M.length=s.M.length
 bl:s'.Bins.length=s.Bins.length
 b:∀l∈s'.Bins,l∈s.Bins\/l.length<=1
 bal:s'.L.Bal.length=s.L.Bal.length
 ac:s'.Acks.length=s.Acks.length
 ws:s'.Ws=s.Ws
 ms:s'.Ms=s.Ms
 done:s'.Done=s.Done
 d:s'.D=s.D
theorem Vt.refl (s:za):Vt s s:=⟨rfl,rfl,rfl,fun l h=>.inl h,rfl,rfl,rfl,rfl,rfl,rfl⟩
theorem zew (s:za) (g:zB):Vt s (zy s g).1/\(zy s g).1.H=s.H:=by
 obtain ⟨m,b,t,w,f,e,h1,h2,h3,_,_⟩:=ze0 s g;rw [e];exact ⟨⟨rfl,h1,h2,fun l hl=>(h3 l hl).imp id (fun e=>by rw [e];simp),rfl,rfl,rfl,rfl,rfl,rfl⟩,rfl⟩
theorem zC2 {s:za}(b:Nat):∀l∈s.Bins.set b [],l∈s.Bins\/l.length<=1:=fun l hl=>(zKn hl).imp id (fun e=>by rw [e];simp)
theorem zyy (s:za) (w:Int) (x:zk):Vt s (zu s w x).1/\(zu s w x).1.H=s.H:=by
 unfold zu;split
 .exact ⟨⟨rfl,(znS _ _).1,rfl,fun l h=>.inl h,rfl,rfl,rfl,rfl,rfl,rfl⟩,rfl⟩
 split
 .exact ⟨⟨rfl,zcA _ _,rfl,fun l h=>.inl h,rfl,rfl,rfl,rfl,rfl,rfl⟩,rfl⟩
 split
 .exact ⟨⟨rfl,rfl,by simp,zC2 _,rfl,rfl,rfl,rfl,rfl,rfl⟩,rfl⟩
 split
 .exact ⟨⟨rfl,zcA _ _,rfl,fun l h=>.inl h,rfl,rfl,rfl,rfl,rfl,rfl⟩,rfl⟩
 split
 .exact ⟨Vt.refl s,rfl⟩
 split
 .exact zew s x.G
 split
 .exact ⟨Vt.refl s,rfl⟩
 split
 .exact ⟨⟨rfl,rfl,rfl,fun l h=>.inl h,zyB _ _,rfl,rfl,rfl,rfl,rfl⟩,rfl⟩
 split
 .exact ⟨⟨rfl,rfl,rfl,fun l h=>.inl h,rfl,rfl,rfl,rfl,rfl,rfl⟩,rfl⟩
 .exact ⟨Vt.refl s,rfl⟩
theorem zCq (p:zd) (w:Int) (x:zk):(Z3 p w x).Batch=x.Batch:=by unfold Z3;split<;>rfl
theorem zDv {s:za}(h:X4 s) (w:Int) {x:zk}(hx:x.Batch.length<1000000):(zu s w x).2.Batch.length<1000000:=by
 unfold zu;split
 .dsimp only;split
  .exact hx
  split
  .rw [zCq];exact hx
  .exact hx
 split
 .dsimp only;split
  .exact hx
  split<;>exact hx
 split
 .exact zto h _
 split
 .dsimp only;split<;>exact hx
 split
 .dsimp only;split<;>exact hx
 split
 .dsimp only;split<;>exact hx
 split
 .dsimp only;cases hb:x.Batch with
  | nil=>show x.Batch.length<_;exact hx
  | cons o l=>rw [hb] at hx;show l.length<_;simp at hx;omega
 split
 .exact hx
 split
 .exact hx
 .exact hx
theorem zDn (l:zr) (w p:Int):(zb4 l w p).Bal.length=l.Bal.length:=by unfold zb4;simp
theorem zFm (l:zr) (w n:Int):(zbI l w n).1.Bal.length=l.Bal.length:=by unfold zbI;split<;>simp
theorem zAW (s:za) (m:Int) (x:ze):Vt s (zp s m x).1:=by
 have q:∀s':za,s'.P=s.P->s'.M=s.M->s'.Bins=s.Bins->s'.L.Bal.length=s.L.Bal.length->s'.Acks.length=s.Acks.length->s'.Ws=s.Ws->s'.Ms=s.Ms->s'.Done=s.Done->s'.D=s.D->Vt s s' :=
  fun s' a b c d e f g h i=>⟨a,by rw [b],by rw [c],fun l hl=>.inl (c▸hl),d,e,f,g,h,i⟩
 refine xG (motive:=fun r=>Vt s r.1) s m x ?_ ?_ ?_ ?_ ?_ ?_ ?_ ?_ ?_ ?_ ?_ ?_ ?_ ?_ ?_ ?_ ?_ ?_ ?_ ?_
 .intro c;unfold mu0;exact Vt.refl s
 .intro c;unfold mu1;exact Vt.refl s
 .intro c;unfold mu2;exact q _ rfl rfl rfl rfl (by simp) rfl rfl rfl rfl
 .intro c;unfold mu3;exact (zew s x.G).1
 .intro c;unfold zi8;exact Vt.refl s
 .intro c;unfold zfQ;exact Vt.refl s
 .intro c;unfold zfW;exact Vt.refl s
 .intro c;unfold zfq;exact Vt.refl s
 .intro c;unfold zgT;exact q _ rfl rfl rfl rfl rfl rfl rfl rfl rfl
 .intro c;unfold Uo;split
  .split
   .exact q _ rfl rfl rfl (zDn _ _ _) rfl rfl rfl rfl rfl
   .exact Vt.refl s
  .exact Vt.refl s
 .intro c;unfold zeN;exact q _ rfl rfl rfl (zFm _ _ _) rfl rfl rfl rfl rfl
 .intro c;unfold zeZ;exact ⟨rfl,zcA _ _,rfl,fun l h=>.inl h,rfl,rfl,rfl,rfl,rfl,rfl⟩
 .intro c;unfold zjw;exact ⟨rfl,rfl,by simp,zC2 _,rfl,rfl,rfl,rfl,rfl,rfl⟩
 .intro c;unfold zfe;exact ⟨rfl,zcA _ _,rfl,fun l h=>.inl h,rfl,rfl,rfl,rfl,rfl,rfl⟩
 .intro c;unfold zeK;exact Vt.refl s
 .intro c;unfold zeM;exact Vt.refl s
 .intro c;unfold zaI;exact (zew s x.G).1
 .intro c;unfold zgj;exact q _ rfl rfl rfl (zyB _ _) rfl rfl rfl rfl rfl
 .intro c;unfold zlh;exact q _ rfl rfl rfl rfl rfl rfl rfl rfl rfl
 .exact Vt.refl s
theorem HOk.sm {p:zd}(hp:zD p) {h:zq}(H:HOk p h):h.Objs.length<1000000/\∀x∈h.Objs,x.length<1000000:=by
 have h1:=H.n;have h2:=hp.most;have h3:=hp.n;have h4:=hp.slots;have h5:=H.slots;exact ⟨by omega,fun x hx=>by have:=(H.objs x hx).1;omega⟩
theorem X4.turn {p:zd}(hp:zD p) {s s':za}(h:X4 s) (T:Vt s s') (H:HOk p s'.H):X4 s':=by
 have hh:=H.sm hp;refine ⟨by rw [T.m];exact h.m,by rw [T.bl];exact h.bins,fun x hx=>?_,by rw [T.ac];exact h.acks,by rw [T.bal];exact h.bal,by rw [T.ws];exact h.ws,by rw [T.ws];exact h.w,by rw [T.ms];exact h.ms,by rw [T.ms];exact h.mu,hh.1,hh.2,by rw [T.P];exact h.pobjs,by rw [T.P];exact h.pobj,by rw [T.P];exact h.regs,by rw [T.P];exact h.reg,by rw [T.P];exact h.progs,by rw [T.P];exact h.prog,by rw [T.P];exact h.picks⟩;rcases T.b x hx with h' | h'
 .exact h.bin x h'
 .omega
theorem X4.setW {s:za}(h:X4 s) {i:Nat}{x:zk}(hx:x.Batch.length<1000000):X4 {s with Ws:=s.Ws.set i x} :=
 ⟨h.m,h.bins,h.bin,h.acks,h.bal,by simp only [zJ6];exact h.ws,fun y hy=>by
  rcases zKn hy with hy | rfl
  .exact h.w y hy
  .exact hx,h.ms,h.mu,h.objs,h.obj,h.pobjs,h.pobj,h.regs,h.reg,h.progs,h.prog,h.picks⟩
theorem X4.setM {s:za}(h:X4 s) {i:Nat}{x:ze}(hx:x.Regs.length<1000000/\x.Buf.length<1000000/\x.Batch.length<1000000):X4 {s with Ms:=s.Ms.set i x} :=
 ⟨h.m,h.bins,h.bin,h.acks,h.bal,h.ws,h.w,by simp only [zJ6];exact h.ms,fun y hy=>by
  rcases zKn hy with hy | rfl
  .exact h.mu y hy
  .exact hx,h.objs,h.obj,h.pobjs,h.pobj,h.regs,h.reg,h.progs,h.prog,h.picks⟩
theorem zCZ {α:Type}{l:List α}{i j:Nat}{x y:α}(h:(l.set i x)[j]? =some y):(j=i/\y=x)\/l[j]? =some y:=by
 rw [zKo] at h;split at h
 .rename_i e;split at h
  .injection h with h;exact .inl ⟨e.symm,h.symm⟩
  .cases h
 .exact .inr h
theorem zz0 {p:zd}{nb:Nat}{s:za}(h:zD p) (E:EOk p nb s) (w:Int):EOk p nb (zK s w):=by
 unfold zK;split
 .exact E
 rename_i hc;cases hx:s.Ws[(w-1).toNat]? with
 | none=>exact E
 | some x =>
  have hw1: ¬w<1:=fun e=>hc (.inr (.inl e));have hw2: ¬(s.Ws.length:Int)<w:=fun e=>hc (.inr (.inr e));have hwl:=E.wl;have ei:(((w-1).toNat:Nat):Int)+1=w:=by omega
  have hW:=E.W _ x hx;rw [ei] at hW;obtain ⟨r1,r2⟩:=zCU h (by omega) E.S hW;obtain ⟨T,TH⟩:=zyy s w x;have sm:X4 (zu s w x).1:=E.small.turn h T (by rw [TH];exact E.H);have hws:(zu s w x).1.Ws=s.Ws:=T.ws;refine ⟨r1.keep rfl rfl rfl,?_,?_,?_,fun i y hy=>?_,fun i y hy=>?_,?_,?_,?_⟩
  .show ((s.Ws.set _ _).length:Int)=_;rw [zJ6];exact hwl
  .show ((zu s w x).1.Ms.length:Int)=_;rw [T.ms];exact E.ml
  .show (zu s w x).1.Acks.length=(zu s w x).1.Ms.length;rw [T.ms,T.ac];exact E.al
  .rcases zCZ hy with ⟨rfl,rfl⟩ | hy
   .rw [ei];exact r2
   .exact E.W i y hy
  .have hy:(zu s w x).1.Ms[i]? =some y:=hy;rw [T.ms] at hy;exact E.X i y hy
  .show HOk p (zu s w x).1.H;rw [TH];exact E.H
  .show (0<=(zu s w x).1.D.PC/\(zu s w x).1.D.PC<=6)/\((zu s w x).1.D.PC=3->0<=(zu s w x).1.D.I/\(zu s w x).1.D.I<((zu s w x).1.Ms.length:Int));rw [T.d,T.ms];exact E.D
  .have:=sm.setW (i:=(w-1).toNat) (zDv E.small w (E.small.w x (zJG hx)));rw [hws] at this;exact this
theorem zHm {p:zd}{nb:Nat}{s:za}(h:zD p) (E:EOk p nb s):EOk p nb (xL s):=by
 have key:∀s':za,s'.P=s.P->s'.M=s.M->s'.Bins=s.Bins->s'.Ws=s.Ws->s'.Ms=s.Ms->s'.Acks=s.Acks->s'.H=s.H->s'.L=s.L->((0<=s'.D.PC/\s'.D.PC<=6)/\(s'.D.PC=3->0<=s'.D.I/\s'.D.I<(s'.Ms.length:Int)))->EOk p nb s':=by
  intro s' e1 e2 e3 e4 e5 e6 e7 e8 e9;have q:=E.small;refine ⟨E.S.keep e1 e2 (by rw [e3]),by rw [e4];exact E.wl,by rw [e5];exact E.ml,by rw [e5,e6];exact E.al,by rw [e4];exact E.W,by rw [e5];exact E.X,by rw [e7];exact E.H,e9,?_⟩;exact ⟨by rw [e2];exact q.m,by rw [e3];exact q.bins,by rw [e3];exact q.bin,by rw [e6];exact q.acks,by rw [e8];exact q.bal,by rw [e4];exact q.ws,by rw [e4];exact q.w,by rw [e5];exact q.ms,by rw [e5];exact q.mu,by rw [e7];exact q.objs,by rw [e7];exact q.obj,by rw [e1];exact q.pobjs,by rw [e1];exact q.pobj,by rw [e1];exact q.regs,by rw [e1];exact q.reg,by rw [e1];exact q.progs,by rw [e1];exact q.prog,by rw [e1];exact q.picks⟩
 have hm:∀n:Int,0<=n/\n<=6->n≠3->∀i,(0<=(⟨n,i⟩:zE).PC/\(⟨n,i⟩:zE).PC<=6)/\((⟨n,i⟩:zE).PC=3->0<=(⟨n,i⟩:zE).I/\(⟨n,i⟩:zE).I<(s.Ms.length:Int)):=fun n h1 h2 i=>⟨h1,fun e=>absurd e h2⟩
 have hml:=E.ml;have hmt:=h.mt;unfold xL;split
 .exact E
 split
 .exact key _ rfl rfl rfl rfl rfl rfl rfl rfl (hm 1 (by decide) (by decide) _)
 split
 .split
  .exact key _ rfl rfl rfl rfl rfl rfl rfl rfl (hm 2 (by decide) (by decide) _)
  .exact E
 split
 .refine key _ rfl rfl rfl rfl rfl rfl rfl rfl ?_;dsimp only;split
  .exact hm 4 (by decide) (by decide) _
  .exact ⟨by decide,fun _=>by omega⟩
 split
 .rename_i c3;have hi:=E.D.2 c3;split
  .exact E
  .refine key _ rfl rfl rfl rfl rfl rfl rfl rfl ?_;dsimp only;have e:wc (s.D.I+1)=s.D.I+1:=yT;rw [e];split
   .exact hm 4 (by decide) (by decide) _
   .exact ⟨by decide,fun _=>by omega⟩
 split
 .split
  .exact key _ rfl rfl rfl rfl rfl rfl rfl rfl (hm 5 (by decide) (by decide) _)
  .exact key _ rfl rfl rfl rfl rfl rfl rfl rfl (hm 0 (by decide) (by decide) _)
 split
 .split
  .exact key _ rfl rfl rfl rfl rfl rfl rfl rfl (hm 0 (by decide) (by decide) _)
  .exact key _ rfl rfl rfl rfl rfl rfl rfl rfl (hm 6 (by decide) (by decide) _)
 split
 .exact key _ rfl rfl rfl rfl rfl rfl rfl rfl E.D
 .exact E
theorem HOk.put {p:zd}{h:zq}(H:HOk p h) (o s v:Int):HOk p (xr h o s v):=by
 unfold xr;split
 .rename_i c;obtain ⟨c1,c2,c3⟩:=c;unfold yj at c1;simp only [zJB,decide_eq_true_eq] at c1;refine ⟨H.slots,by simp only [zJ6];exact H.n,fun l hl=>?_⟩;simp only [zJ6];rcases zKn hl with hl | rfl
  .exact H.objs l hl
  .have hm:zF h o∈h.Objs:=by
    unfold zF;rw [zJD,zJC (show (o-1).toNat<h.Objs.length by omega)];exact zJY _
   obtain ⟨a,b⟩:=H.objs _ hm;refine ⟨by rw [zJ6];exact a,fun y hy=>?_⟩;rcases zKn hy with hy | rfl
   .exact b y hy
   .exact ⟨c2,c3⟩
 .exact H
theorem HOk.alloc {p:zd}(hp:zD p) {h:zq}(H:HOk p h) (hr:Zz h p.Most=true):HOk p (yB h):=by
 unfold Zz at hr;simp only [zJB,decide_eq_true_eq] at hr;have hs:=hp.slots;have hsl:=H.slots;have hn:=H.n;unfold yB;refine ⟨H.slots,by simp only [zJN,zLr];omega,fun l hl=>?_⟩;simp only [zJN,zLr];rcases zJZ.1 hl with hl | hl
 .obtain ⟨a,b⟩:=H.objs l hl;exact ⟨a,fun v hv=>by have:=b v hv;omega⟩
 .rw [zKm.1 hl];refine ⟨by rw [zKf];omega,fun v hv=>?_⟩;rw [(List.mem_replicate.1 hv).2];omega
theorem zI5 {p:zd}(hp:zD p) {s:za}(hP:s.P=p) (H:HOk p s.H) (m:Int) (x:ze):HOk p (zp s m x).1.H:=by
 refine xG (motive:=fun r=>HOk p r.1.H) s m x ?_ ?_ ?_ ?_ ?_ ?_ ?_ ?_ ?_ ?_ ?_ ?_ ?_ ?_ ?_ ?_ ?_ ?_ ?_ ?_
 .intro c;unfold mu0;exact H
 .intro c;unfold mu1;exact H
 .intro c;unfold mu2;exact H
 .intro c;unfold mu3;rw [(zew s x.G).2];exact H
 .intro c;unfold zi8;exact H
 .intro c;unfold zfQ;exact H
 .intro c;unfold zfW;exact H
 .intro c;unfold zfq;exact H
 .intro c;unfold zgT;exact H.put _ _ _
 .intro c;unfold Uo;split
  .split
   .rename_i hr;rw [hP] at hr;exact H.alloc hp hr
   .exact H
  .exact H
 .intro c;unfold zeN;exact H
 .intro c;unfold zeZ;exact H
 .intro c;unfold zjw;exact H
 .intro c;unfold zfe;exact H
 .intro c;unfold zeK;exact H
 .intro c;unfold zeM;exact H
 .intro c;unfold zaI;rw [(zew s x.G).2];exact H
 .intro c;unfold zgj;exact H
 .intro c;unfold zlh;exact H
 .exact H
theorem zBf (s:za) (m:Int) (x:ze):(UU s m x).Batch=x.Batch:=by
 unfold UU
 repeat' split
 all_goals rfl
theorem zFE {s:za}(h:X4 s) (m:Int) {x:ze}(hx:x.Batch.length<1000000):(zp s m x).2.Batch.length<1000000:=by
 refine xG (motive:=fun r=>r.2.Batch.length<1000000) s m x ?_ ?_ ?_ ?_ ?_ ?_ ?_ ?_ ?_ ?_ ?_ ?_ ?_ ?_ ?_ ?_ ?_ ?_ ?_ ?_
 .intro c;unfold mu0;dsimp only;rw [zBf];exact hx
 .intro c;unfold mu1;dsimp only;split<;>exact hx
 .intro c;unfold mu2;exact hx
 .intro c;unfold mu3;dsimp only;split<;>exact hx
 .intro c;unfold zi8;exact hx
 .intro c;unfold zfQ;dsimp only;split<;>exact hx
 .intro c;unfold zfW;dsimp only;split<;>exact hx
 .intro c;unfold zfq;dsimp only;split<;>exact hx
 .intro c;unfold zgT;exact hx
 .intro c;unfold Uo;split
  .split<;>exact hx
  .exact hx
 .intro c;unfold zeN;dsimp only;split<;>exact hx
 .intro c;unfold zeZ;dsimp only;split
  .exact hx
  split<;>exact hx
 .intro c;unfold zjw;exact zto h _
 .intro c;unfold zfe;dsimp only;split<;>exact hx
 .intro c;unfold zeK;dsimp only;cases hb:x.Batch with
  | nil=>show ([]:List Int).length<1000000;simp
  | cons o l=>rw [hb] at hx;show l.length<_;simp at hx;omega
 .intro c;unfold zeM;dsimp only;split<;>exact hx
 .intro c;unfold zaI;dsimp only;split<;>exact hx
 .intro c;unfold zgj;exact hx
 .intro c;unfold zlh;exact hx
 .exact hx
theorem znW {p:zd}(h:zD p) (m:Int):zhR p m<1000000:=by
 unfold zhR;rw [zJD];cases hq:p.Regs[(m-1).toNat]? with
 | none=>simp
 | some r=>have:=(h.reg r (zJG hq)).1;show r.length<_;omega
theorem zx8 {p:zd}{nb:Nat}{s:za}(h:zD p) (E:EOk p nb s) (m:Int):EOk p nb (zH s m):=by
 unfold zH;split
 .exact E
 rename_i hc;cases hx:s.Ms[(m-1).toNat]? with
 | none=>exact E
 | some x =>
  have hw1: ¬m<1:=fun e=>hc (.inr (.inl e));have hw2: ¬(s.Ms.length:Int)<m:=fun e=>hc (.inr (.inr e));have ei:(((m-1).toNat:Nat):Int)+1=m:=by omega
  have hX:=E.X _ x hx;rw [ei] at hX;obtain ⟨r1,r2⟩:=zE9 h (zuU h m) E.S hX;have T:=zAW s m x;have TH:=zI5 h E.S.P E.H m x;have sm:X4 (zp s m x).1:=E.small.turn h T TH;have hms:(zp s m x).1.Ms=s.Ms:=T.ms;have hb:=h.buf;refine ⟨r1.keep rfl rfl rfl,?_,?_,?_,fun i y hy=>?_,fun i y hy=>?_,TH,?_,?_⟩
  .show ((zp s m x).1.Ws.length:Int)=_;rw [T.ws];exact E.wl
  .show ((s.Ms.set _ _).length:Int)=_;rw [zJ6];exact E.ml
  .show (zp s m x).1.Acks.length=(s.Ms.set _ _).length;rw [zJ6,T.ac];exact E.al
  .have hy:(zp s m x).1.Ws[i]? =some y:=hy;rw [T.ws] at hy;exact E.W i y hy
  .rcases zCZ hy with ⟨rfl,rfl⟩ | hy
   .rw [ei];exact r2
   .exact E.X i y hy
  .show (0<=(zp s m x).1.D.PC/\(zp s m x).1.D.PC<=6)/\((zp s m x).1.D.PC=3->0<=(zp s m x).1.D.I/\(zp s m x).1.D.I<((s.Ms.set _ _).length:Int));rw [T.d,zJ6];exact E.D
  .have q:=E.small.mu x (zJG hx);have q1:=r2.regs;have q2:=r2.buf;have q3:=znW h m;have:=sm.setM (i:=(m-1).toNat) (x:=(zp s m x).2) ⟨by omega,by omega,zFE E.small m q.2.2⟩;rw [hms] at this;exact this
theorem zC7 (t:zm) (o:Int):zm8 t o=some (yh t o,()):=by
 rw [zBu,zkN,zJA];show (bif zI (t.Marks&&&t.Black) o then _ else _)=_;unfold yh;cases h:zI (t.Marks&&&t.Black) o with
 | true=>rfl
 | false =>
  rw [cond_false,zkN,zJA];show (bif zI t.Marks o then _ else _)=_;cases h2:zI t.Marks o<;>rfl
theorem zit (t:zm) (o:Int):Uf t o=some (yX t o,decide (yh t o=1),()):=by
 rw [zxb,zC7,zJA,ya];unfold yX;by_cases h:yh t o=1
 .rw [zb h,zb h,zg3,zJA,decide_eq_true h]
 .rw [zc h,zc h,decide_eq_false h]
theorem zuM {h:zq}(hl:h.Objs.length<1000000) (o s:Int):UE h o s=some (yj h o s,()):=by
 rw [zp2];simp only [zo];unfold yj;by_cases h1:1<=o
 .rw [zb h1];by_cases h2:o<=(h.Objs.length:Int)
  .rw [zb h2];by_cases h3:0<=s
   .have e:=zJC (show (o-1).toNat<h.Objs.length by omega);rw [zb h3,zU (a:=o-1) (by omega) (by omega),vu,e,zJA,decide_eq_true h1,decide_eq_true h2,decide_eq_true h3];unfold zF;rw [zJD,e];rfl
   .rw [zc h3,decide_eq_false h3,Bool.and_false];rfl
  .rw [zc h2,decide_eq_false h2,Bool.and_false];rfl
 .rw [zc h1,decide_eq_false h1];rfl
theorem ztU {h:zq}(hl:h.Objs.length<1000000) (o s:Int):zfi h o s=some (zN h o s,yj h o s,()):=by
 rw [zzg,zuM hl,zJA];unfold zN;cases hs:yj h o s with
 | false=>rfl
 | true =>
  have hs':=hs;unfold yj at hs';simp only [zJB,decide_eq_true_eq] at hs';obtain ⟨⟨⟨h1,h2⟩,h3⟩,h4⟩:=hs';have e:=zJC (show (o-1).toNat<h.Objs.length by omega);have es:zF h o=h.Objs[(o-1).toNat]'(by omega):=by unfold zF;rw [zJD,e];rfl
  rw [es] at h4;have e2:=zJC (show s.toNat<(h.Objs[(o-1).toNat]'(by omega)).length by omega);simp only [zJQ,cond_false,if_true];rw [zU (a:=o-1) (by omega) (by omega),vu,e,zJA,vu h3,e2,zJA,es,zJD,e2];rfl
theorem zlI (l:zr) (who:Int):ZS l who=some (decide (1<=who)&&decide (who<=(l.Bal.length:Int)),()):=by
 rw [zk1,zo];by_cases h1:1<=who
 .rw [zb h1,decide_eq_true h1];rfl
 .rw [zc h1,decide_eq_false h1];rfl
theorem ztr {l:zr}(hl:l.Bal.length<1000000) (who:Int):zaT l who=some (zcF l who,()):=by
 rw [ztO,xC,zlI,zJA];unfold zcF;by_cases h:1<=who/\who<=(l.Bal.length:Int)
 .rw [zb h,decide_eq_true h.1,decide_eq_true (show who<=((({l with Scanned:=wc (l.Scanned+1)}:zr).Bal.length:Nat):Int) from h.2)];have hn: ¬l.Bal.isEmpty=true:=by
   intro e;have:l.Bal=[]:=by simpa using e
   rw [this] at h;simp at h;omega
  have hn:l.Bal.isEmpty=false:=by simpa using hn
  have e:=zJC (show (who-1).toNat<l.Bal.length by omega);rw [zKz,zJQ,cond_false,UV];simp only [decide_true,cond_true,zmc (n:=(l.Bal.length:Int)) (by omega) (by omega),zJA,zKf,zKi,hn,cond_false,xC];rw [yT (a:=who-1) (by omega) (by omega),ve (l:=l.Bal) (by omega) (by omega),zJA,e,zJA,zq6,zJA,zJA,zJA,xC,zJD,e];rfl
 .rw [zc h];have e:(decide (1<=who)&&decide (who<=((({l with Scanned:=wc (l.Scanned+1)}:zr).Bal.length:Nat):Int)))=false:=by
   by_cases h1:1<=who
   .rw [decide_eq_true h1,decide_eq_false (fun e=>h ⟨h1,e⟩)];rfl
   .rw [decide_eq_false h1];rfl
  rw [e];rfl
theorem zuc {α:Type}(o:α) (l:List α):cut (o::l) 1 (((o::l).length:Nat):Int)=some l:=by
 unfold cut;rw [decide_eq_true (show (0:Int)<=1 by decide),decide_eq_true (show (1:Int)<=(((o::l).length:Nat):Int) by simp;omega),decide_eq_true (zKl _)];simp
theorem zuj {p:zd}(h:zD p) {m:Int}(hm:1<=m/\m<=p.Mutators):p.Progs[(m-1).toNat]? =some (vm p m):=by
 have:=h.progs;have e:=zJC (show (m-1).toNat<p.Progs.length by omega);unfold vm;rw [zJD,e];rfl
theorem zoM {p:zd}(h:zD p) {m:Int}(hm:1<=m/\m<=p.Mutators) {o:zw}(ho:o∈vm p m):(0<=o.R/\o.R<(zhR p m:Int))/\(0<=o.A/\o.A<(zhR p m:Int)):=by
 have hr:=h.regs;have er:=zJC (show (m-1).toNat<p.Regs.length by omega);have e1:zhR p m=(p.Regs[(m-1).toNat]'(by omega)).length:=by unfold zhR;rw [zJD,er];rfl
 have hl:=(h.reg _ (zJY (show (m-1).toNat<p.Regs.length by omega))).1;obtain ⟨a,b⟩:=(h.prog _ _ _ er (zuj h hm)).2 o ho;rw [e1];refine ⟨a,?_⟩;rcases b with ⟨_,b,_⟩ | ⟨_,b,_⟩ | ⟨_,b,_⟩
 .exact b
 .exact b
 .omega
theorem zkr {p:zd}(h:zD p) {s:za}(hP:s.P=p) {m:Int}(hm:1<=m/\m<=p.Mutators) {x:ze}(hi:0<=x.IP/\x.IP<((vm p m).length:Int)) :
  vE ⟨x,s,m⟩=some (opM p m x,())/\opM p m x∈vm p m:=by
 have hmt:=h.mt;have e:=zJC (show x.IP.toNat<(vm p m).length by omega);have eo:opM p m x=(vm p m)[x.IP.toNat]'(by omega):=by unfold opM;rw [zJD,e];rfl
 rw [zqM];dsimp only;rw [hP,zU (a:=m-1) (by omega) (by omega),vu,zuj h hm,zJA,vu hi.1,e,zJA,eo];exact ⟨rfl,zJY _⟩
theorem zot {x:ze}{r:Int}(h:0<=r/\r<(x.Regs.length:Int)):idx x.Regs r=some (wC x r):=by
 have e:=zJC (show r.toNat<x.Regs.length by omega);rw [vu h.1,e];unfold wC;rw [zJD,e];rfl
theorem zhB {s:za}{m:Int}{x:ze}{r:Int}(h:0<=r/\r<(x.Regs.length:Int)) (hl:x.Regs.length<1000000) (v:Int):uQ r v ⟨x,s,m⟩=some (⟨setM x r v,s,m⟩,()):=by
 rw [zmA];simp only [Wf (show x.Regs.length<4294967296 by omega),zJA,ve h.1 h.2,Yo,xC];rfl
theorem zq4 {p:zd}(h:zD p) {s:za}(hP:s.P=p) {m:Int}(hm:1<=m/\m<=p.Mutators) {x:ze}(hi:0<=x.IP/\x.IP<((vm p m).length:Int)) (hr:x.Regs.length=zhR p m) (ho:s.H.Objs.length<1000000) :
  VU ⟨x,s,m⟩=some (zsy s m x,()):=by
 obtain ⟨e1,e2⟩:=zkr h hP hm hi;have o:=zoM h hm e2;rw [zoZ];simp only [e1,zJA,zot (x:=x) (r:=(opM p m x).A) (by omega),ztU ho];unfold zsy;rw [hP]
theorem zpa {p:zd}{nb:Nat}(h:zD p) {s:za}(S:SOk p nb s) {m:Int}{x:ze}(M:MOk p nb x.G) (to:Int) :
  YD to ⟨x,s,m⟩=some (⟨if (zy s x.G).2.Out=1 then {x with PC:=to,G:=(zy s x.G).2} else {x with G:=(zy s x.G).2},(zy s x.G).1,m⟩,()):=by
 rw [zjd];simp only [zxY (S.gok h M),zJA,zo];split<;>rfl
theorem zvV (s:za) (x:ze) (m:Int):zaK ⟨x,s,m⟩=some (onM s x.Slot,()):=by
 rw [zqK,zo];unfold onM;split<;>rfl
theorem zsb (k hd to:Int) (s:za) (x:ze) (m:Int):Xp k hd to ⟨x,s,m⟩=some (⟨{x with PC:=to,C:=⟨k,0,hd,zJ s.P,0#64,x.Bin,0,0⟩},s,m⟩,()):=by
 rw [zlN];simp only [zar,zJA,WO]
theorem zF5 {m:List ze}(h:m.length<4294967296):vd m=some (m,()):=by
 rw [Vm,zJM,yC h,zJA];cases m with
 | nil=>simp [zee]
 | cons a l=>simp
theorem zzp {p:zd}(h:zD p) {nb:Nat}{s:za}(hP:s.P=p) {m:Int}(hm:1<=m/\m<=p.Mutators) (ha:(s.Acks.length:Int)=p.Mutators) {x:ze}(X:XOk p nb m x) :
  V5 ⟨x,s,m⟩=some (⟨UU s m x,s,m⟩,()):=by
 have hmt:=h.mt;have hip:=X.ip;have hrs:=znW h m;have e:=zJC (show (m-1).toNat<s.Acks.length by omega);have ed:s.Acks.getD (m-1).toNat 0=s.Acks[(m-1).toNat]'(by omega):=by rw [zJD,e];rfl
 have pg:s.P.Progs[(m-1).toNat]? =some (vm p m):=by rw [hP];exact zuj h hm
 rw [zjY];simp only [zo];rw [zU (a:=m-1) (by omega) (by omega),vu,e,zJA];unfold UU;rw [ed,hP];by_cases c:(s.Acks[(m-1).toNat]'(by omega))<s.Epoch
 .rw [zb c,zb c]
 rw [zc c,zc c,<-hP,vu,pg,zJA,hP];by_cases c2:((vm p m).length:Int)<=x.IP
 .rw [zb c2,zb c2]
 rw [zc c2,zc c2];obtain ⟨e1,e2⟩:=zkr h hP hm (x:=x) (show 0<=x.IP/\x.IP<((vm p m).length:Int) by omega);have o:=zoM h hm e2;have hreg:=X.regs;rw [e1,zJA];by_cases k1:(opM p m x).Kind=1
 .rw [zb k1,zb k1]
 rw [zc k1,zc k1];by_cases k2:(opM p m x).Kind=2
 .rw [zb k2,zb k2]
 rw [zc k2,zc k2];by_cases k3:(opM p m x).Kind=3
 .rw [zb k3,zb k3]
 rw [zc k3,zc k3];by_cases k4:(opM p m x).Kind=4
 .rw [zb k4,zb k4,zot (x:=x) (r:=(opM p m x).A) (by omega),zJA,zhB (x:=x) (r:=(opM p m x).R) (by omega) (by omega)];rfl
 .rw [zc k4,zc k4,zhB (x:=x) (r:=(opM p m x).R) (by omega) (by omega)];rfl
theorem zEP {h:zq}(hl:h.Objs.length<1000000) (hs:∀l∈h.Objs,l.length<1000000) (o i v:Int):∃b,zpj h o i v=some (xr h o i v,b,()):=by
 rw [zzq,zuM hl,zJA];unfold xr;cases ht:yj h o i with
 | false=>rw [zc (fun e=>by cases e.1)];exact ⟨_,rfl⟩
 | true =>
  rw [zJQ,cond_false,zo];by_cases h1:v<0
  .rw [zb h1,zi];exact ⟨_,rfl⟩
  rw [zc h1,zo];by_cases h2:(h.Objs.length:Int)<v
  .rw [zb h2,zi];exact ⟨_,rfl⟩
  have hh:=ht;unfold yj at hh;simp only [zJB,decide_eq_true_eq] at hh;obtain ⟨⟨⟨g1,g2⟩,g3⟩,g4⟩:=hh;have e:=zJC (show (o-1).toNat<h.Objs.length by omega);have es:zF h o=h.Objs[(o-1).toNat]'(by omega):=by unfold zF;rw [zJD,e];rfl
  have hlen:=hs _ (zJG e);rw [zc h2,zb ⟨rfl,by omega,by omega⟩,zjV (by omega),zJA,zU (a:=o-1) (by omega) (by omega),ve (l:=h.Objs) (by omega) (by omega),zJA,e,zJA,Wf (by omega),zJA,zJA,zJA];rw [zo,zb rfl,ve g3 (by rw [<-es];exact g4),zJA,es];exact ⟨_,rfl⟩
theorem zqv {h:zq}(h1:1<=h.Slots/\h.Slots<=4) (h2:h.Objs.length<=64) (h3:∀o∈h.Objs,(o.length:Int)=h.Slots/\∀v∈o,0<=v/\v<=(h.Objs.length:Int)):Xj h=some (true,()):=by
 rw [znA,zo,zb h1.1,zo,zb h1.2,zo,zY,zyg (by omega) (by omega) h3];rfl
theorem zwy {h:zq}(h1:1<=h.Slots/\h.Slots<=4) (h2:h.Objs.length<=64) (h3:∀o∈h.Objs,(o.length:Int)=h.Slots/\∀v∈o,0<=v/\v<=(h.Objs.length:Int)) (hne:h.Objs≠[]) (most:Int) :
  zfT h most=some (if Zz h most=true then (yB h,(h.Objs.length:Int)+1,0,()) else (h,0,4,())):=by
 have hn:h.Objs.length≠0:=fun e=>hne (zKp e);rw [zvT,zqv h1 h2 h3,zJA,zJQ,cond_false];simp only [zo];have er:Zz h most=true↔(h.Objs.length:Int)<most/\(h.Objs.length:Int)<64:=by unfold Zz;simp
 have hx:(if 64<most then (64:Int) else most)<=(h.Objs.length:Int)↔¬(Zz h most=true):=by
  rw [er];split<;>omega
 by_cases hr:Zz h most=true
 .rw [zc (fun e=>hx.1 e hr),zb hr];have ec:WA h.Objs=some (h.Objs,()):=by
   rw [ziB];simp [hn]
  rw [ec,zJA,zb trivial,znv,decide_eq_true (show 0<=h.Slots by omega),decide_eq_true (show h.Slots<4294967296 by omega)];simp only [Bool.and_self,cond_true,zJA];rw [yC (by simp only [zJN,zLr];omega),zJA];unfold yB;simp
 .rw [zb (hx.2 hr),zc hr]
theorem zDD (t:zm) (o:Int):∃b,zb5 t o=some (Y2 t o,b,()):=by
 rw [zmS,zky,zJA];unfold Y2;dsimp only;cases hs:(shade t o).2 with
 | false=>rw [zc (by simp)];exact ⟨_,rfl⟩
 | true=>rw [zJQ,cond_false,zit,zb rfl];exact ⟨_,rfl⟩
theorem zqr (l:zr) (who price limit:Int):YW l who price limit=some (zbb l who price limit,()):=by
 rw [zkj,zlI,zJA];unfold zbb UM;simp only [zo];cases ht:(decide (1<=who)&&decide (who<=(l.Bal.length:Int))) with
 | false=>rw [cond_false];simp
 | true =>
  rw [cond_true];by_cases h1:0<=price<;>by_cases h2:0<=limit
  .rw [zb (by split<;>omega)];simp only [zKz,decide_eq_true h1,decide_eq_true h2,Option.some.injEq,Prod.mk.injEq,and_true];rw [Bool.eq_iff_iff];simp only [decide_eq_true_eq,zJB];split<;>omega
  .rw [zc (by split<;>omega)];simp [h2]
  .rw [zc (by split<;>omega)];simp [h1]
  .rw [zc (by split<;>omega)];simp [h1]
theorem zwZ {l:zr}{who:Int}(hl:l.Bal.length<1000000) (h:UM l who=true):idx l.Bal (w64 (who-1))=some (zby l who)/\xM l.Bal (w64 (who-1))=some (who-1).toNat/\l.Bal[(who-1).toNat]? =some (zby l who):=by
 unfold UM at h;simp only [zJB,decide_eq_true_eq] at h;have e:=zJC (show (who-1).toNat<l.Bal.length by omega);have eb:zby l who=l.Bal[(who-1).toNat]'(by omega):=by unfold zby;rw [zJD,e];rfl
 rw [zU (a:=who-1) (by omega) (by omega),vu,ve,e,eb];exact ⟨rfl,rfl,rfl⟩
theorem zvb {l:zr}(hl:l.Bal.length<1000000) (who price limit:Int):zfo l who price limit=some (zdY l who price limit,()):=by
 rw [zvU,zqr,zJA];unfold zdY;cases hp:zbb l who price limit with
 | false=>rfl
 | true =>
  have ht:UM l who=true:=by unfold zbb at hp;simp only [zJB] at hp;exact hp.1.1.1.1
  dsimp only;rw [cond_true,(zwZ hl ht).1,zJA,xC,zKz,Int.zero_sub]
theorem zqt {l l':zr}(hl:l.Bal.length<1000000) {who:Int}(h:UM l who=true) (hb:l'.Bal=l.Bal) {v:Int}{Q:Option (zr×Unit)}{f:Int->Option (Int×Unit)}(hf:f (zby l who)=some (v,()))
  (hQ:Q=bif decide (((l'.Bal.length:Int))=((l'.Bal.length:Int))) then (W4 ((l'.Bal.length:Int))).bind fun n1=>bif decide (l'.Bal.length=((List.replicate n1 ((0:Int))).length)) then
   bif l'.Bal.isEmpty then (xM (List.replicate n1 ((0:Int))) (w64 (who-1))).bind fun n2=>((List.replicate n1 ((0:Int)))[n2]?).bind fun x3=>(f x3).bind fun y4=>(xM (List.replicate n1 ((0:Int))) (w64 (who-1))).bind fun n5=>some ({l' with Bal:=(List.replicate n1 ((0:Int))).set n5 y4.1},())
   else (xM l'.Bal (w64 (who-1))).bind fun n6=>(l'.Bal[n6]?).bind fun x7=>(f x7).bind fun y8=>(xM l'.Bal (w64 (who-1))).bind fun n9=>some ({l' with Bal:=l'.Bal.set n9 y8.1},()) else none else none) :
  Q=some ({l' with Bal:=l.Bal.set (who-1).toNat v},()):=by
 obtain ⟨e1,e2,e3⟩:=zwZ hl h;have hne:l.Bal.isEmpty=false:=by
  cases hl2:l.Bal with
  | nil=>rw [hl2] at e3;simp at e3
  | cons a r=>rfl
 rw [hQ,hb,znv,decide_eq_true (show (0:Int)<=(l.Bal.length:Int) by omega),decide_eq_true (show (l.Bal.length:Int)<4294967296 by omega)];simp only [decide_true,cond_true,Bool.and_self,zJA,zKi,zKf,hne,cond_false,e2,e3,hf]
theorem zAG {l:zr}(hl:l.Bal.length<1000000) (who price limit:Int):zgp l who price limit=some (if zdY l who price limit=true then (zb4 l who price,true,()) else (l,false,())):=by
 rw [zte,zvb hl,zJA];cases hm:zdY l who price limit with
 | false=>rfl
 | true =>
  have ht:UM l who=true:=by unfold zdY zbb at hm;simp only [zJB] at hm;exact hm.1.1.1.1.1
  dsimp only;rw [zJQ,cond_false,zqt (l':={l with Spent:=w64 (l.Spent+price)}) hl ht rfl (f:=fun b=>zaz b price) (v:=wc (zby l who-price)) (by rw [zqL,xC]) (Uu _ _ _),zJA,zb rfl,xC];rfl
theorem zBP {l:zr}(hl:l.Bal.length<1000000) (who want:Int):ziZ l who want=some ((zbI l who want).1,(zbI l who want).2,()):=by
 rw [zuz,zlI,zJA];unfold zbI;have em:(bif decide (l.Pool<want) then l.Pool else want)=zjj want l.Pool:=by rw [zo];rfl
 simp only [em];have et:(decide (1<=who)&&decide (who<=(l.Bal.length:Int)))=UM l who:=rfl;rw [et];cases ht:UM l who with
 | false=>rw [zc (fun e=>by cases e.1)];rfl
 | true =>
  rw [zJQ,cond_false,zo];by_cases hz:zjj want l.Pool<=0
  .rw [zb hz,zi]
  .rw [zc hz,zb ⟨rfl,by omega⟩,zqt (l':={l with Pool:=w64 (l.Pool-zjj want l.Pool)}) hl ht rfl (f:=fun b=>zbJ b (zjj want l.Pool)) (v:=wc (zby l who+zjj want l.Pool)) (by rw [zr1,xC]) (UZ _ _ _),zJA,xC]
theorem zz6 {l:zr}(hl:l.Bal.length<1000000) (who price limit:Int):zgz l who price limit=some (zrt l who price limit,()):=by
 rw [zs3,zqr,zJA];unfold zrt;cases hp:zbb l who price limit with
 | false=>rfl
 | true =>
  have ht:UM l who=true:=by unfold zbb at hp;simp only [zJB] at hp;exact hp.1.1.1.1
  dsimp only;rw [zJQ,cond_false,zvb hl,zJA,zb rfl];cases hm:zdY l who price limit with
  | false=>rw [cond_false,(zwZ hl ht).1,zJA,xC];rfl
  | true=>rfl
theorem zB3 {p:zd}{nb:Nat}(h:zD p) {s:za}{x:ze}{m:Int}(S:SOk p nb s) (X:XOk p nb m x) (hm:1<=m/\m<=p.Mutators) (ha:(s.Acks.length:Int)=p.Mutators) (sm:X4 s) (H:HOk p s.H) (hb:x.Buf.length<1000000) (hbt:x.Batch.length<1000000):UY ⟨x,s,m⟩=some (⟨(zp s m x).2,(zp s m x).1,m⟩,()):=by
 have hmt:=h.mt;have hpc:=X.pc;rw [zlW];simp only [zo];unfold zp;by_cases c0:x.PC=0
 .rw [zb c0,zb c0,zzp h S.P hm ha X];rfl
 rw [zc c0,zc c0];by_cases c1:x.PC=1
 .rw [zb c1,zb c1,zkg];simp only [zo];unfold mu1;by_cases e:x.Buf.length=0
  .rw [zb e,zb (by rw [zU];omega)];rfl
  .have ei:=zJC (show x.Buf.length-1<x.Buf.length by omega);have en:((x.Buf.length:Int)-1).toNat=x.Buf.length-1:=by omega
   have ec:cut x.Buf 0 ((x.Buf.length:Int)-1)=some (x.Buf.take (x.Buf.length-1)):=by
    unfold cut;rw [decide_eq_true (show (0:Int)<=0 by decide),decide_eq_true (show (0:Int)<=(x.Buf.length:Int)-1 by omega),decide_eq_true (show (x.Buf.length:Int)-1<=(x.Buf.length:Int) by omega),en];simp
   rw [zc e,zU (a:=(x.Buf.length:Int)-1) (by omega) (by omega),zi,vu,en,ei,zJA,zpC,zJA,ec,zJD,ei];rfl
 rw [zc c1,zc c1];by_cases c2:x.PC=2
 .rw [zb c2,zb c2,zmK];have hs:=sm.acks;simp only [Wf (show s.Acks.length<4294967296 by omega),zJA];rw [zU (a:=m-1) (by omega) (by omega),ve (l:=s.Acks) (by omega) (by omega)];rfl
 rw [zc c2,zc c2];have hbl:=sm.bal;have hon:=sm.objs;have hregs:=X.regs;have hrs:=znW h m;have hHs:=H.slots;have hHn:=H.n;have hpn:=h.n;have hpm:=h.most;have hps:=h.slots;have op:=fun (hi:x.IP<((vm p m).length:Int))=>zkr h S.P hm (x:=x) ⟨X.ip.1,hi⟩;by_cases c3:x.PC=3
 .rw [zb c3,zb c3,zkw,zpa h S (X.g (.inl c3)).1];rfl
 rw [zc c3,zc c3];by_cases c10:x.PC=10
 .have hi:=X.op (.inl (by omega));obtain ⟨e1,e2⟩:=op hi;have o:=zoM h hm e2;rw [zb c10,zb c10,zlp,e1,zJA,zq4 h S.P hm ⟨X.ip.1,hi⟩ hregs hon,zJA,zhB (x:=x) (r:=(opM p m x).R) (by omega) (by omega)];unfold zi8;rw [S.P];rfl
 rw [zc c10,zc c10];by_cases c20:x.PC=20
 .have hi:=X.op (.inl (by omega));obtain ⟨e1,e2⟩:=op hi;have o:=zoM h hm e2;rw [zb c20,zb c20,zmF,e1,zJA];unfold zfQ;dsimp only;rw [zot (x:=x) (r:=(opM p m x).A) (by omega),zJA,zo,S.P];by_cases e:wC x (opM p m x).A=0
  .rw [zb e,zb e,Yo,xC];rfl
  .rw [zc e,zc e,zq4 h S.P hm ⟨X.ip.1,hi⟩ hregs hon];rfl
 rw [zc c20,zc c20];by_cases c21:x.PC=21
 .rw [zb c21,zb c21,zkD];unfold zfW;dsimp only;rw [zo];by_cases e:x.Old=0
  .rw [zb e,zb (.inl e)];rfl
  .rw [zc e,zC7,zJA,ya];by_cases e2:yh s.T x.Old=0
   .rw [zb e2,zc (fun h=>h.elim e (fun h=>h e2))];rfl
   .rw [zc e2,zb (.inr e2)];rfl
 rw [zc c21,zc c21];by_cases c22:x.PC=22
 .rw [zb c22,zb c22,zg9];unfold zfq;dsimp only;rw [zo];by_cases e:s.P.Buf<=(x.Buf.length:Int)
  .rw [zb e,zb e];rfl
  .rw [zc e,zc e,Wf (by omega),zJA,yC (by simp;omega)];rfl
 rw [zc c22,zc c22];by_cases c23:x.PC=23
 .have hi:=X.op (.inl (by omega));obtain ⟨e1,e2⟩:=op hi;have o:=zoM h hm e2;obtain ⟨b,ep⟩:=zEP hon sm.obj (wC x (opM p m x).A) (opM p m x).S (wC x (opM p m x).R);rw [zb c23,zb c23,zkb,e1,zJA];dsimp only;rw [zot (x:=x) (r:=(opM p m x).A) (by omega),zJA,zot (x:=x) (r:=(opM p m x).R) (by omega),zJA,ep,zJA,Yo,xC];unfold zgT;rw [S.P];rfl
 rw [zc c23,zc c23];by_cases c30:x.PC=30
 .have hi:=X.op (.inl (by omega));obtain ⟨e1,e2⟩:=op hi;have o:=zoM h hm e2;have hne:s.H.Objs≠[]:=fun e=>by
   have e2:s.H.Objs.length=0:=by rw [e];rfl
   omega
  rw [zb c30,zb c30,zkx];unfold Uo;dsimp only;rw [zAG hbl,zJA];cases hmay:zdY s.L m s.P.Price s.P.Limit with
  | false=>rfl
  | true =>
   rw [zb rfl,zb rfl];dsimp only;rw [zJQ,cond_false,zwy (show 1<=s.H.Slots/\s.H.Slots<=4 by rw [hHs];omega) (show s.H.Objs.length<=64 by omega) H.objs hne,zJA];cases hr:Zz s.H s.P.Most with
   | false =>
    rw [zc (by simp),zc (by simp)];dsimp only;rw [ya,zc (by decide),Yo,xC];rfl
   | true =>
    rw [zb rfl,zb rfl];dsimp only;obtain ⟨b,ef⟩:=zDD s.T ((s.H.Objs.length:Int)+1);rw [ya,zb rfl,ef,zJA];have e3:=(zkr h (s:={s with H:=yB s.H,T:=Y2 s.T ((s.H.Objs.length:Int)+1),L:=zb4 s.L m s.P.Price}) S.P hm (x:=x) ⟨X.ip.1,hi⟩).1;rw [e3,zJA,zhB (x:=x) (r:=(opM p m x).R) (by omega) (by omega),yT];rw [S.P];rfl
 rw [zc c30,zc c30];by_cases c31:x.PC=31
 .rw [zb c31,zb c31,zlA];unfold zeN;dsimp only;rw [zz6 hbl,zJA,zBP hbl,zJA,zo];by_cases e:(zbI s.L m (zrt s.L m s.P.Price s.P.Limit)).2=0
  .rw [zb e,zb e,zcq,zJA,zsb];rfl
  .rw [zc e,zc e];rfl
 rw [zc c31,zc c31];by_cases c32:x.PC=32
 .rw [zb c32,zb c32,zmH];unfold zeZ;dsimp only;rw [zfG (by have:=S.mem;omega),zJA,zo,zo];by_cases e:(zt s.M x.C).2.Out=1
  .rw [zb e,zb e];rfl
  .rw [zc e,zc e];by_cases e2:(zt s.M x.C).2.Out=2
   .rw [zb e2,zb e2];rfl
   .rw [zc e2,zc e2];rfl
 rw [zc c32,zc c32];by_cases c33:x.PC=33
 .have B:=X.b33 c33;have hbn:=S.bins;have hnb:=S.nbk;have e:=zJC (show x.Bin.toNat<s.Bins.length by omega);rw [zb c33,zb c33,zkn];unfold zjw;dsimp only;rw [vu,e,zJA,zjV (by omega),zJA,ve (l:=s.Bins) (by omega) (by omega),zJA,zdA,zJA,zsb];have eb:VL s x.Bin=s.Bins[x.Bin.toNat]'(by omega):=by unfold VL;rw [zJD,e];rfl
  rw [eb];rfl
 rw [zc c33,zc c33];by_cases c34:x.PC=34
 .rw [zb c34,zb c34,zkW];unfold zfe;dsimp only;rw [zfG (by have:=S.mem;omega),zJA,zo];by_cases e:(zt s.M x.C).2.Out=1
  .rw [zb e,zb e];rfl
  .rw [zc e,zc e];rfl
 rw [zc c34,zc c34];by_cases c35:x.PC=35
 .rw [zb c35,zb c35,zkp];unfold zeK;dsimp only;rw [zo];cases hbb:x.Batch with
  | nil=>rw [zc (by simp)];rfl
  | cons o l =>
   have:idx (o::l) 0=some o:=by rw [vu];rfl
   rw [zb (by simp),this,zJA,zuc];rfl
 rw [zc c35,zc c35];by_cases c36:x.PC=36
 .rw [zb c36,zb c36,zlF];unfold zeM;dsimp only;rw [ztU hon,zJA,zvV,zJA,ya,xC];by_cases e:zN s.H x.Obj x.Slot=0
  .rw [zb e,zb e];rfl
  .rw [zc e,zc e,zpC];rfl
 rw [zc c36,zc c36];by_cases c37:x.PC=37
 .rw [zb c37,zb c37,zmr,zvV,zJA,zpa h S (X.g (.inr c37)).1];rfl
 rw [zc c37,zc c37];by_cases c38:x.PC=38
 .rw [zb c38,zb c38,zii];unfold zgj;dsimp only;rw [zit,zJA,ztr hbl];rfl
 rw [zc c38,zc c38];have c39:x.PC=39:=by omega
 rw [zb c39,zb c39,zh5,xC];rfl
theorem zA5 {p:zd}{nb:Nat}{s:za}(h:zD p) (E:EOk p nb s) (m:Int):zg6 s m=some (zH s m,()):=by
 rw [zs6];simp only [zo];unfold zH;cases hd:s.Done with
 | true=>rw [cond_true,zb (.inl rfl)]
 | false =>
  rw [cond_false];by_cases h1:m<1
  .rw [zb h1,zb (.inr (.inl h1))]
  rw [zc h1];by_cases h2:(s.Ms.length:Int)<m
  .rw [zb h2,zb (.inr (.inr h2))]
  have hml:=E.ml;have hal:=E.al;have hmt:=h.mt;have e:=zJC (show (m-1).toNat<s.Ms.length by omega);have ei:(((m-1).toNat:Nat):Int)+1=m:=by omega
  have hX:=E.X _ _ e;rw [ei] at hX;have hb:=(E.small.mu _ (zJG e)).2;have T:=zAW s m (s.Ms[(m-1).toNat]'(by omega));rw [zc h2,zc (fun e=>e.elim (fun h=>by cases h) (fun e=>e.elim h1 h2)),zU (a:=m-1) (by omega) (by omega),vu,e,zJA,zB3 h E.S hX (by omega) (by omega) E.small E.H hb.1 hb.2,zJA];simp only [T.ms,zF5 (show s.Ms.length<4294967296 by omega),zJA,ve (l:=s.Ms) (show 0<=m-1 by omega) (show m-1<(s.Ms.length:Int) by omega)]
theorem zCs {p:zd}{nb:Nat}{s:za}(h:zD p) (E:EOk p nb s):ziQ s=some (xL s,()):=by
 rw [zux,xC];simp only [zo,ya];have ag:∀s:za,Uy s=some ({s with Restarts:=wc (s.Restarts+1),D:={s.D with PC:=0}},()):=fun s=>by rw [zpW,xC]
 unfold xL;by_cases hd:s.Done=true
 .rw [cond_eq_ite,zb hd,zb hd]
 .rw [cond_eq_ite,zc hd,zc hd];by_cases c0:s.D.PC=0
  .rw [zb c0,zb c0]
  rw [zc c0,zc c0];by_cases c1:s.D.PC=1
  .rw [zb c1,zb c1];by_cases w:s.Work=0
   .rw [zb w,zb w]
   .rw [zc w,zc w]
  rw [zc c1,zc c1];by_cases c2:s.D.PC=2
  .rw [zb c2,zb c2];by_cases w:s.Ms.length=0
   .rw [zb (show (s.Ms.length:Int)=0 by omega),zb w]
   .rw [zc (show ¬(s.Ms.length:Int)=0 by omega),zc w]
  rw [zc c2,zc c2];by_cases c3:s.D.PC=3
  .have hi:=E.D.2 c3;have ha:=E.al;have e:=zJC (show s.D.I.toNat<s.Acks.length by omega);have ed:s.Acks.getD s.D.I.toNat 0=s.Acks[s.D.I.toNat]'(by omega):=by rw [zJD,e];rfl
   rw [zb c3,zb c3,vu hi.1,e,zJA,ed];by_cases w:(s.Acks[s.D.I.toNat]'(by omega))<s.Epoch
   .rw [zb w,zb w]
   .rw [zc w,zc w];by_cases v:wc (s.D.I+1)=(s.Ms.length:Int)
    .rw [zb v,zb v]
    .rw [zc v,zc v,c3]
  rw [zc c3,zc c3];by_cases c4:s.D.PC=4
  .rw [zb c4,zb c4];by_cases w:s.Work=0
   .rw [zb w,zb w]
   .rw [zc w,zc w,ag];rfl
  rw [zc c4,zc c4];by_cases c5:s.D.PC=5
  .rw [zb c5,zb c5];by_cases hf:s.Flag=true
   .rw [cond_eq_ite,zb hf,zb hf,ag];rfl
   .rw [cond_eq_ite,zc hf,zc hf]
  rw [zc c5,zc c5];by_cases c6:s.D.PC=6
  .rw [zb c6,zb c6]
  .rw [zc c6,zc c6]
theorem zGu {m:List zk}(h:m.length<4294967296):vr m=some (m,()):=by
 rw [V1,zJM,yC h,zJA];cases m with
 | nil=>simp [zee]
 | cons a l=>simp
theorem zGN {n v:Int}(h:1<=v/\v<=n) (hn:n<1000000):w64 (v.tmod n+1)=zj2 n v:=by
 unfold zj2;rw [Int.tmod_eq_emod_of_nonneg (by omega)];by_cases hv:v<n
 .rw [zb hv,Int.emod_eq_of_lt (by omega) hv,zU]
 .have:v=n:=by omega
  rw [zc hv,this,Int.emod_self,zU];rfl
theorem zCA {p:zd}(h:zD p) {s:za}(hP:s.P=p) (hl:(s.Ws.length:Int)=p.Workers) {x:zk}(hv:1<=x.Victim/\x.Victim<=p.Workers) (w:Int) :
  Wa ⟨x,s,w⟩=some (⟨Z3 p w x,s,w⟩,()):=by
 have hw:=h.wk;rw [zmy];simp only [zo,hl];rw [zc (show ¬p.Workers=0 by omega),zGN hv (by omega)];unfold Z3;by_cases e:zj2 p.Workers x.Victim=w
 .rw [zb e,zb e,zcq,zJA,ze6];simp only [zar,zJA,WO,e,hP];rfl
 .rw [zc e,zc e,zhV];simp only [za7,zJA,zaO,hP]
theorem zru {p:zd}{s:za}(hP:s.P=p) (x:zk) (w:Int):um ⟨x,s,w⟩=some (⟨UI p w x,s,w⟩,()):=by
 rw [zlL,zhV];simp only [za7,zJA,zaO,hP];rfl
theorem zyL (s:za) (x:zk) (w:Int):VX ⟨x,s,w⟩=some (onW s x.Slot,()):=by
 rw [zrD,zo];unfold onW;split<;>rfl
theorem ztA {s:za}(hm:s.M.length<4294967296) (x:zk) (w:Int):uR ⟨x,s,w⟩=some ((zt s.M x.C).2.Out,⟨{x with C:=(zt s.M x.C).2},{s with M:=(zt s.M x.C).1},w⟩,()):=by
 rw [zml];simp only [zfG hm,zJA]
theorem zu2 {p:zd}(h:zD p) {s:za}(hP:s.P=p) (hm:s.M.length<4294967296) (hl:(s.Ws.length:Int)=p.Workers) {x:zk}(hv:1<=x.Victim/\x.Victim<=p.Workers) (hc:x.D.Cap<1000) {w:Int}(h01:x.PC=0\/x.PC=1) :
  W8 ⟨x,s,w⟩=some (⟨(zu s w x).2,(zu s w x).1,w⟩,()):=by
 unfold zu;rw [zb h01,zon];simp only [zDM hm hc,zJA,zo];by_cases o1:(z3 s.M x.D).2.Out=1
 .rw [zb o1,zb o1,zcR];rfl
 .rw [zc o1,zc o1];have hk:=fun (x':zk) (e:x'.Victim=x.Victim)=>zCA h (s:={s with M:=(z3 s.M x.D).1}) hP hl (x:=x') (by rw [e];exact hv) w;by_cases o4:(z3 s.M x.D).2.Out=4
  .rw [zb o4,zb (.inr o4),hk {x with D:=(z3 s.M x.D).2} rfl,zJA,hP]
  .rw [zc o4];by_cases o2:(z3 s.M x.D).2.Out=2
   .rw [zb o2,zb (.inl o2),hk {x with D:=(z3 s.M x.D).2} rfl,zJA,hP]
   .rw [zc o2,zi]
theorem zEd {p:zd}{nb:Nat}(h:zD p) {s:za}{x:zk}{w:Int}(S:SOk p nb s) (W:WOk p nb w x) (hl:(s.Ws.length:Int)=p.Workers) (sm:X4 s) :
  zaM ⟨x,s,w⟩=some (⟨(zu s w x).2,(zu s w x).1,w⟩,()):=by
 have hP:=S.P;have hm:s.M.length<4294967296:=by have:=S.mem;omega
 have hc:=h.cap;rw [zmv];simp only [zo];by_cases c0:x.PC=0
 .rw [zb c0,zb c0,zu2 h hP hm hl W.vic (by have:=(W.d0 c0).2.2;omega) (.inl c0),zJA]
 rw [zc c0];by_cases c1:x.PC=1
 .rw [zb c1,zu2 h hP hm hl W.vic (by have:=(W.d1 c1).2.2;omega) (.inr c1),zJA]
 rw [zc c1];unfold zu;rw [zc (show ¬(x.PC=0\/x.PC=1) by omega)];by_cases c2:x.PC=2
 .rw [zb c2,zb c2,ztA hm,zJA];simp only [zru (s:={s with M:=(zt s.M x.C).1}) hP];by_cases o1:(zt s.M x.C).2.Out=1
  .rw [zb o1,zb o1]
  .rw [zc o1,zc o1];by_cases o2:(zt s.M x.C).2.Out=2
   .rw [zb o2,zb o2,zJA,hP]
   .rw [zc o2,zc o2]
 rw [zc c2,zc c2];by_cases c3:x.PC=3
 .have B:=W.b3 c3;have hb:=S.bins;have hnb:=S.nbk;have e:=zJC (show x.Bin.toNat<s.Bins.length by omega);rw [zb c3,zb c3,zmI];dsimp only;rw [vu,e,zJA,zjV (by omega),zJA,ve (l:=s.Bins) (by omega) (by omega),zJA,zdA,zJA,ze6];simp only [zar,zJA,WO];unfold VL;rw [zJD,e];rfl
 rw [zc c3,zc c3];by_cases c4:x.PC=4
 .rw [zb c4,zb c4,ztA hm,zJA];dsimp only;by_cases o1:(zt s.M x.C).2.Out=1
  .rw [zb o1,zb o1]
  .rw [zc o1,zc o1]
 rw [zc c4,zc c4];by_cases c5:x.PC=5
 .rw [zb c5,zb c5,zmk];simp only [ztU sm.objs,zJA,zo,zyL,zpC,xC];by_cases v:zN s.H x.Obj x.Slot=0
  .rw [zb v,zb v];rfl
  .rw [zc v,zc v];rfl
 rw [zc c5,zc c5];by_cases c6:x.PC=6
 .obtain ⟨g1,g2,g3,g4⟩:=W.g6 c6;rw [zb c6,zb c6];simp only [zxY (S.gok h g1),zJA,zyL];have eH:(zy s x.G).1.H=s.H:=(zew s x.G).2;by_cases o1:(zy s x.G).2.Out=1
  .rw [zb o1,zb o1];unfold onW;rw [eH]
  .rw [zc o1,zc o1]
 rw [zc c6,zc c6];by_cases c7:x.PC=7
 .rw [zb c7,zb c7];cases hb:x.Batch with
  | nil=>rw [zb (by simp),zru hP,zJA,hP]
  | cons o l =>
   rw [zc (by simp;omega),vu];simp only [Int.toNat_zero,zKE,zJA,zcR,hb];rw [zuc];rfl
 rw [zc c7,zc c7];by_cases c8:x.PC=8
 .rw [zb c8,zb c8];simp only [zit,zJA,ztr sm.bal]
 rw [zc c8,zc c8];by_cases c9:x.PC=9
 .rw [zb c9,zb c9,xC]
 .rw [zc c9,zc c9]
theorem zBS {p:zd}{nb:Nat}{s:za}(h:zD p) (E:EOk p nb s) (w:Int):zjk s w=some (zK s w,()):=by
 rw [zt8];simp only [zo];unfold zK;cases hd:s.Done with
 | true=>rw [cond_true,zb (.inl rfl)]
 | false =>
  rw [cond_false];by_cases h1:w<1
  .rw [zb h1,zb (.inr (.inl h1))]
  rw [zc h1];by_cases h2:(s.Ws.length:Int)<w
  .rw [zb h2,zb (.inr (.inr h2))]
  have hwl:=E.wl;have hwk:=h.wk;have e:=zJC (show (w-1).toNat<s.Ws.length by omega);have ei:(((w-1).toNat:Nat):Int)+1=w:=by omega
  have hW:=E.W _ _ e;rw [ei] at hW;obtain ⟨T,TH⟩:=zyy s w (s.Ws[(w-1).toNat]'(by omega));rw [zc h2,zc (fun e=>e.elim (fun h=>by cases h) (fun e=>e.elim h1 h2)),zU (a:=w-1) (by omega) (by omega),vu,e,zJA,zEd h E.S hW hwl E.small,zJA];simp only [T.ws,zGu (show s.Ws.length<4294967296 by omega),zJA,ve (l:=s.Ws) (show 0<=w-1 by omega) (show w-1<(s.Ws.length:Int) by omega)]
theorem vF (s:za) (g:zB):(zy s g).1={s with M:=(zy s g).1.M,Bins:=(zy s g).1.Bins,T:=(zy s g).1.T,Work:=(zy s g).1.Work,Flag:=(zy s g).1.Flag}:=by
 obtain ⟨m,b,t,wk,f,e,_⟩:=ze0 s g;rw [e]
theorem zkz {p:zd}{nb:Nat}{s:za}{w:Int}{x:zk}(W:WOk p nb w x):(zu s w x).1={s with M:=(zu s w x).1.M,Bins:=(zu s w x).1.Bins,T:=(zu s w x).1.T,Work:=(zu s w x).1.Work,L:=(zu s w x).1.L}:=by
 unfold zu;split
 .rfl
 split
 .rfl
 split
 .rfl
 split
 .rfl
 split
 .rfl
 split
 .rename_i h6;obtain ⟨g1,g2,g3,g4⟩:=W.g6 h6;have hf:=(zC9 s g3 g4).2;obtain ⟨m,b,t,wk,f,e,_⟩:=ze0 s x.G;dsimp only;rw [e] at hf ⊢;have hf:f=s.Flag:=hf;rw [hf]
 split
 .rfl
 split
 .rfl
 split<;>rfl
theorem znt (s:za) (m:Int) (x:ze):(zp s m x).1={s with H:=(zp s m x).1.H,M:=(zp s m x).1.M,Bins:=(zp s m x).1.Bins,T:=(zp s m x).1.T,Work:=(zp s m x).1.Work,Flag:=(zp s m x).1.Flag,Acks:=(zp s m x).1.Acks,L:=(zp s m x).1.L}:=by
 have g:∀g:zB,(zy s g).1={s with H:=(zy s g).1.H,M:=(zy s g).1.M,Bins:=(zy s g).1.Bins,T:=(zy s g).1.T,Work:=(zy s g).1.Work,Flag:=(zy s g).1.Flag,Acks:=(zy s g).1.Acks,L:=(zy s g).1.L}:=fun g=>by
  obtain ⟨m,b,t,wk,f,e,_⟩:=ze0 s g;rw [e]
 refine xG (motive:=fun r=>r.1={s with H:=r.1.H,M:=r.1.M,Bins:=r.1.Bins,T:=r.1.T,Work:=r.1.Work,Flag:=r.1.Flag,Acks:=r.1.Acks,L:=r.1.L}) s m x ?_ ?_ ?_ ?_ ?_ ?_ ?_ ?_ ?_ ?_ ?_ ?_ ?_ ?_ ?_ ?_ ?_ ?_ ?_ ?_
 .exact fun _=>rfl
 .exact fun _=>rfl
 .exact fun _=>rfl
 .exact fun _=>g x.G
 .exact fun _=>rfl
 .exact fun _=>rfl
 .exact fun _=>rfl
 .exact fun _=>rfl
 .exact fun _=>rfl
 .intro _;unfold Uo;split
  .split<;>rfl
  .rfl
 .exact fun _=>rfl
 .exact fun _=>rfl
 .exact fun _=>rfl
 .exact fun _=>rfl
 .exact fun _=>rfl
 .exact fun _=>rfl
 .exact fun _=>g x.G
 .exact fun _=>rfl
 .exact fun _=>rfl
 .rfl
def Yi (s:za) (k:Int):za:=if k=0 then xL s else if k<=(s.Ws.length:Int) then zK s k else zH s (k-s.Ws.length)
theorem zdO {p:zd}{nb:Nat}{s:za}(E:EOk p nb s) (w:Int):zK s w={s with M:=(zK s w).M,Bins:=(zK s w).Bins,T:=(zK s w).T,Work:=(zK s w).Work,L:=(zK s w).L,Ws:=(zK s w).Ws}:=by
 unfold zK;split
 .rfl
 rename_i hc;cases hx:s.Ws[(w-1).toNat]? with
 | none=>rfl
 | some x =>
  have hW:=E.W _ _ hx;rw [show (((w-1).toNat:Nat):Int)+1=w by omega] at hW;dsimp only;rw [zkz hW]
theorem zt0 {α:Type}{l:List α}{i j:Nat}{v d:α}(h:i<l.length):(l.set i v).getD j d=if i=j then v else l.getD j d:=by
 rw [zJD,zJD,zKo];by_cases e:i=j
 .rw [zb e,zb e,zb h];rfl
 .rw [zc e,zc e]
def goF {S:Type}(g:Nat->S->S):Nat->Nat->S->S
 | _,0,s=>s
 | i,k+1,s=>goF g (i+1) k (g i s)
theorem zHx {S σ B C:Type}{f:σ->Option (yD σ B C)}(A:Int->S->σ) (b:S->B) (n:Nat) (hn:n<1000000) (g:Nat->S->S) (Inv:S->Prop) (hg:∀i s,Inv s->Inv (g i s))
  (h1:∀(i:Nat) s,i<n->Inv s->f (A (i:Int) s)=some (.again (A ((i+1:Nat):Int) (g i s)))) (h2:∀s,Inv s->f (A (n:Int) s)=some (.brk (b s))) {s:S}(hs:Inv s) :
  zX f (A 0 s)=some (.brk (b (goF g 0 n s))):=by
 have key:∀(k i:Nat) (s:S),n-i=k->i<=n->Inv s->∀m,k<m->yK f m (A (i:Int) s)=some (.brk (b (goF g i k s))):=by
  intro k
  induction k with
  | zero =>
   intro i s hk hi hs m hm;have:i=n:=by omega
   subst this;obtain ⟨m,rfl⟩:∃x,m=x+1:=⟨m-1,by omega⟩
   simp only [yK];rw [h2 s hs];rfl
  | succ k ih =>
   intro i s hk hi hs m hm;obtain ⟨m,rfl⟩:∃x,m=x+1:=⟨m-1,by omega⟩
   simp only [yK];rw [h1 i s (by omega) hs,zJA];exact ih (i+1) _ (by omega) (by omega) (hg i s hs) m (by omega)
 have:=key n 0 s (by omega) (by omega) hs vv (vC (by omega));rw [YI];exact this
def Ze (s:za) (x:zj):za :=
 if x.Kind=0 then (if x.N=0 then xL s else s)
 else if x.Kind=1 then (if 1<=x.N/\x.N<=16 then zK s x.N else s)
 else if x.Kind=2 then (if 1<=x.N/\x.N<=16 then zH s x.N else s)
 else s
theorem zHU {p:zd}{nb:Nat}{s:za}(h:zD p) (E:EOk p nb s) (x:zj):EOk p nb (Ze s x):=by
 unfold Ze;split
 .split
  .exact zHm h E
  .exact E
 split
 .split
  .exact zz0 h E _
  .exact E
 split
 .split
  .exact zx8 h E _
  .exact E
 .exact E
theorem zts {p:zd}{nb:Nat}{s:za}(h:zD p) (E:EOk p nb s) (x:zj):zdG s x=some (Ze s x,()):=by
 rw [ztD,zwj];unfold Ze;by_cases k0:x.Kind=0
 .rw [decide_eq_true k0,cond_true,cond_true,zb k0,zJA];by_cases n0:x.N=0
  .rw [decide_eq_true n0,zb n0,zJQ,cond_false,zrC,zCs h E];rfl
  .rw [decide_eq_false n0,zc n0];rfl
 rw [decide_eq_false k0,cond_false,cond_false,zc k0];have key:(bif decide (1<=x.N) then some (decide (x.N<=16),()) else some (false,()):Option (Bool×Unit))=some (decide (1<=x.N/\x.N<=16),()):=by
  by_cases a:1<=x.N
  .by_cases b:x.N<=16
   .rw [decide_eq_true a,decide_eq_true b,decide_eq_true (show 1<=x.N/\x.N<=16 from ⟨a,b⟩)];rfl
   .rw [decide_eq_true a,decide_eq_false b,decide_eq_false (show ¬(1<=x.N/\x.N<=16) from fun e=>b e.2)];rfl
  .rw [decide_eq_false a,decide_eq_false (show ¬(1<=x.N/\x.N<=16) from fun e=>a e.1)];rfl
 rw [key];by_cases k1:x.Kind=1
 .rw [decide_eq_true k1,cond_true,cond_true,zb k1,zJA];by_cases n0:1<=x.N/\x.N<=16
  .rw [decide_eq_true n0,zb n0,zJQ,cond_false,zBS h E];rfl
  .rw [decide_eq_false n0,zc n0];rfl
 rw [decide_eq_false k1,cond_false,cond_false,zc k1];by_cases k2:x.Kind=2
 .rw [decide_eq_true k2,cond_true,cond_true,zb k2,zJA];by_cases n0:1<=x.N/\x.N<=16
  .rw [decide_eq_true n0,zb n0,zJQ,cond_false,zA5 h E];rfl
  .rw [decide_eq_false n0,zc n0];rfl
 .rw [decide_eq_false k2,cond_false,cond_false,zc k2];rfl
def zah (p:zd) (x:zj):Prop:=(x.Kind=0/\x.N=0)\/(x.Kind=1/\1<=x.N/\x.N<=p.Workers)\/(x.Kind=2/\1<=x.N/\x.N<=p.Mutators)
def zhr (p:zd) (x:zj):Int:=if x.Kind=0 then 0 else if x.Kind=1 then x.N else p.Workers+x.N
theorem zx0 {p:zd}{nb:Nat}{s:za}(h:zD p) (E:EOk p nb s) {x:zj}(hx:zah p x):Ze s x=Yi s (zhr p x):=by
 have hw:=h.wk;have hm:=h.mt;have hwl:=E.wl;rcases hx with ⟨a,b⟩ | ⟨a,b,c⟩ | ⟨a,b,c⟩
 .have ek:zhr p x=0:=zb a;rw [ek];unfold Ze Yi;rw [zb a,zb b,zb rfl]
 .have ek:zhr p x=x.N:=by unfold zhr;rw [zc (by rw [a];decide),zb a]
  rw [ek];unfold Ze Yi;rw [zc (by rw [a];decide),zb a,zb ⟨b,by omega⟩,zi,zY]
 .have ek:zhr p x=p.Workers+x.N:=by unfold zhr;rw [zc (by rw [a];decide),zc (by rw [a];decide)]
  rw [ek];unfold Ze Yi;rw [zc (by rw [a];decide),zc (by rw [a];decide),zb a,zb ⟨b,by omega⟩,zi,zi];congr 1;omega
def zbh:za->List zj->za×Int
 | s,[]=>(s,0)
 | s,x::l=>if s.Done=true then (s,0) else ((zbh (Ze s x) l).1,(zbh (Ze s x) l).2+1)
theorem zr0 (s:za) (x:zj) (l:List zj):zbh s (x::l)=if s.Done=true then (s,0) else ((zbh (Ze s x) l).1,(zbh (Ze s x) l).2+1):=rfl
theorem zEh {p:zd}{nb:Nat}{s:za}(h:zD p) (E:EOk p nb s) {l:List zj}(hl:l.length<1000000):WJ s l=some ((zbh s l).1,(zbh s l).2,()):=by
 rw [zvu];obtain ⟨o,e,ho⟩:=wS (f:=zfS) (fun a=>∃(i:Nat) (t:za),i<=l.length/\EOk p nb t/\a=(l,l,(l.length:Int),(i:Int),t,0,0,0,0,0,0,0,0,0,0#64,0,zm.mk 0#64 0#64,0,0,false,false,0,0,0,0,zE.mk 0 0,([]:List (List Int)),([]:List (List Int)),([]:List (List zw)),([]:List zj),([]:List (List Int)),([]:List (BitVec 64)),([]:List (List Int)),([]:List Int),([]:List Int),([]:List zk),([]:List ze),())/\(zbh s l).1=(zbh t (l.drop i)).1/\(zbh s l).2=(i:Int)+(zbh t (l.drop i)).2) (fun a=>l.length-a.2.2.2.1.toNat)
  (fun o=>o= .brk (l,(zbh s l).1,0,0,0,0,0,0,0,0,0,0#64,0,zm.mk 0#64 0#64,0,0,false,false,0,0,0,0,zE.mk 0 0,([]:List (List Int)),([]:List (List Int)),([]:List (List zw)),([]:List zj),([]:List (List Int)),([]:List (BitVec 64)),([]:List (List Int)),([]:List Int),([]:List Int),([]:List zk),([]:List ze),())/\(zbh s l).2=(l.length:Int)\/o= .ret ((zbh s l).2,(zbh s l).1,())) (by
  rintro _ ⟨i,t,hi,F,rfl,r1,r2⟩;rw [zrn,zo];by_cases c1:(i:Int)<(l.length:Int)
  .have hx:=zJC (show i<l.length by omega);have hd:=zKg (show i<l.length by omega);generalize l[i]'(by omega)=x at hx hd;rw [zb c1,yZ hx,zJA];rw [hd] at r1 r2;cases hD:t.Done with
   | true =>
    rw [zr0,zb hD] at r1 r2;refine ⟨_,rfl,.inr ?_⟩;rw [r1,r2];simp
   | false =>
    rw [zr0,zc (by rw [hD];decide)] at r1 r2;rw [cond_false,zts h F,zJA,yH];refine ⟨_,rfl,⟨i+1,Ze t x,by omega,zHU h F x,rfl,r1,?_⟩,?_⟩
    .rw [r2];dsimp only;omega
    .show l.length-((i+1:Nat):Int).toNat<l.length-(i:Int).toNat;omega
  .rw [zc c1];have ei:i=l.length:=by omega
   subst ei;rw [List.drop_length] at r1 r2;refine ⟨_,rfl,.inl ⟨?_,?_⟩⟩
   .rw [r1];rfl
   .rw [r2];show (l.length:Int)+0=_;omega) (l,l,(l.length:Int),0,s,0,0,0,0,0,0,0,0,0,0#64,0,zm.mk 0#64 0#64,0,0,false,false,0,0,0,0,zE.mk 0 0,([]:List (List Int)),([]:List (List Int)),([]:List (List zw)),([]:List zj),([]:List (List Int)),([]:List (BitVec 64)),([]:List (List Int)),([]:List Int),([]:List Int),([]:List zk),([]:List ze),()) ⟨0,s,by omega,E,rfl,by rw [List.drop_zero],by rw [List.drop_zero];omega⟩ (by show l.length-0<18446744073709551616;omega)
 rw [e];rcases ho with ⟨rfl,hn⟩ | rfl
 .rw [hn];rfl
 .rfl
namespace B20
theorem zIh {a b:Int}(ha:0<=a) (hb:0<b):0<=a.tmod b/\a.tmod b<b:=by
 rw [Int.tmod_eq_emod_of_nonneg ha];exact ⟨Int.emod_nonneg _ (by omega),Int.emod_lt_of_pos _ hb⟩
theorem zt4 {p:zd}(ord:List (BitVec 8)) (n:Nat) (hn:n<1000000) (i:Nat) (hi:i<ord.length) (x:zj) (hx:zah p x) (l:List zj) (hl:l.length<n) (hp:∀y∈l,zah p y) :
  ∃o,zX v8 (ord,(n:Int),(i:Int),0,p,l,x,())=some o/\∃l',o= .brk (ord,(n:Int),(i:Int),p,l',())/\(l.length<l'.length/\l'.length<=n)/\∀y∈l',zah p y:=by
 have hb:=ord[i].isLt;have hdv:w64 (((ord[i]).toNat:Int).tdiv 64)=((ord[i].toNat/64:Nat):Int):=by rw [zU (by rw [Int.tdiv_eq_ediv_of_nonneg (by omega)];omega) (by rw [Int.tdiv_eq_ediv_of_nonneg (by omega)];omega),Int.tdiv_eq_ediv_of_nonneg (by omega)];omega
 refine wS (f:=v8) (fun a=>∃(k:Nat) (l':List zj),k<=5/\a=(ord,(n:Int),(i:Int),(k:Int),p,l',x,())/\(((k=0/\l'=l)\/l.length<l'.length)/\l'.length<=n)/\∀y∈l',zah p y) (fun a=>10-a.2.2.2.1.toNat) (fun o=>∃l',o= .brk (ord,(n:Int),(i:Int),p,l',())/\(l.length<l'.length/\l'.length<=n)/\∀y∈l',zah p y) ?_ _ ⟨0,l,by omega,rfl,⟨.inl ⟨rfl,rfl⟩,by omega⟩,hp⟩ (by show 10-0<18446744073709551616;decide);rintro _ ⟨k,l',hk,rfl,hl',hp'⟩;rw [zkq,yZ (zJC hi),zJA,hdv,zo];by_cases c1:(k:Int)<=((ord[i].toNat/64:Nat):Int)
 .rw [zb c1,zo];by_cases c2:(l'.length:Int)<(n:Int)
  .rw [zb c2,yC (by simp;omega),zJA,yH];refine ⟨_,rfl,⟨k+1,l'++[x],by omega,rfl,⟨.inr ?_,by simp;omega⟩,fun y hy=>?_⟩,?_⟩
   .rcases hl'.1 with ⟨_,rfl⟩ | h
    .simp
    .simp;omega
   .rcases zJZ.1 hy with hy | hy
    .exact hp' y hy
    .rw [zKm.1 hy];exact hx
   .show 10-((k+1:Nat):Int).toNat<10-(k:Int).toNat;omega
  .rw [zc c2];refine ⟨_,rfl,l',rfl,⟨?_,hl'.2⟩,hp'⟩;rcases hl'.1 with ⟨_,rfl⟩ | h
   .omega
   .exact h
 .rw [zc c1];refine ⟨_,rfl,l',rfl,⟨?_,hl'.2⟩,hp'⟩;rcases hl'.1 with ⟨rfl,rfl⟩ | h
  .exact absurd (Int.natCast_nonneg _) c1
  .exact h
theorem zGV {p:zd}(h:zD p) (ord:List (BitVec 8)) (n:Nat) (hn:n<1000000):∃l,VG p ord (n:Int)=some (l,())/\l.length<=n/\∀x∈l,zah p x:=by
 have hw:=h.wk;have hm:=h.mt;have e1:w64 (w64 (1+p.Workers)+p.Mutators)=1+p.Workers+p.Mutators:=by rw [zU (a:=1+p.Workers) (by omega) (by omega),zU]
 obtain ⟨o,e,l,rfl,h1,h2⟩:=wS (f:=UP) (fun a=>∃(i:Nat) (l:List zj),i<=l.length/\a=(ord,(n:Int),(i:Int),p,l,())/\l.length<=n/\∀y∈l,zah p y) (fun a=>n+1-a.2.2.1.toNat) (fun o=>∃l,o= .brk (l,())/\l.length<=n/\∀y∈l,zah p y) (by
  rintro _ ⟨i,l,hi,rfl,hl,hp⟩;rw [zln,zo];by_cases c1:(i:Int)<(ord.length:Int);rotate_left
  .rw [zc c1];exact ⟨_,rfl,l,rfl,hl,hp⟩
  rw [zb c1,zo];by_cases c2:(l.length:Int)<(n:Int);rotate_left
  .rw [zc c2];exact ⟨_,rfl,l,rfl,hl,hp⟩
  have hil:i<ord.length:=by omega
  have ht:=zIh (show (0:Int)<=(ord[i].toNat:Int) by omega) (show (0:Int)<1+p.Workers+p.Mutators by omega);have fin:∀ {l':List zj},(l.length<l'.length/\l'.length<=n)->(∀y∈l',zah p y)->(∃(j:Nat) (q:List zj),j<=q.length/\(ord,(n:Int),((i+1:Nat):Int),p,l',())=(ord,(n:Int),(j:Int),p,q,())/\q.length<=n/\∀y∈q,zah p y)/\n+1-((i+1:Nat):Int).toNat<n+1-(i:Int).toNat:=fun {l'} h1 h2=>⟨⟨i+1,l',by omega,rfl,h1.2,h2⟩,by omega⟩
  rw [zb c2,yZ (zJC hil),zJA,e1,zo,zi,zo];generalize (ord[i].toNat:Int).tmod (1+p.Workers+p.Mutators)=t at ht;by_cases c3:p.Workers<t
  .rw [zb c3,zU];obtain ⟨o,e,l',rfl,h1,h2⟩:=zt4 ord n hn i hil ⟨2,t-p.Workers⟩ (.inr (.inr ⟨rfl,by show 1<=t-p.Workers;omega,by show t-p.Workers<=p.Mutators;omega⟩)) l (by omega) hp;rw [e,zJA];dsimp only;rw [yH];exact ⟨_,rfl,fin h1 h2⟩
  rw [zc c3,zo];by_cases c4:0<t
  .rw [zb c4];obtain ⟨o,e,l',rfl,h1,h2⟩:=zt4 ord n hn i hil ⟨1,t⟩ (.inr (.inl ⟨rfl,by show 1<=t;omega,by show t<=p.Workers;omega⟩)) l (by omega) hp;rw [e,zJA];dsimp only;rw [yH];exact ⟨_,rfl,fin h1 h2⟩
  .rw [zc c4];obtain ⟨o,e,l',rfl,h1,h2⟩:=zt4 ord n hn i hil ⟨0,0⟩ (.inl ⟨rfl,rfl⟩) l (by omega) hp;rw [e,zJA];dsimp only;rw [yH];exact ⟨_,rfl,fin h1 h2⟩) (ord,(n:Int),0,p,[],()) ⟨0,[],by simp,rfl,by simp,fun y hy=>by cases hy⟩ (by show n+1-0<18446744073709551616;omega)
 refine ⟨l,?_,h1,h2⟩;rw [zoO,e];rfl
end B20
theorem ZO {α S σ B C:Type}{f:σ->Option (yD σ B C)}(A:Int->S->σ) (b:S->B) (l:List α) (hl:l.length<1000000) (g:S->α->S) (Inv:Nat->S->Prop) {s:S}(h0:Inv 0 s)
  (h1:∀(i:Nat) s x,l[i]? =some x->i<l.length->Inv i s->Inv (i+1) (g s x)/\f (A (i:Int) s)=some (.again (A ((i+1:Nat):Int) (g s x)))) (h2:∀s,Inv l.length s->f (A (l.length:Int) s)=some (.brk (b s))) :
  zX f (A 0 s)=some (.brk (b (l.foldl g s)))/\Inv l.length (l.foldl g s):=by
 have key:∀(k i:Nat) (s:S),l.length-i=k->i<=l.length->Inv i s->(∀m,k<m->yK f m (A (i:Int) s)=some (.brk (b ((l.drop i).foldl g s))))/\Inv l.length ((l.drop i).foldl g s):=by
  intro k
  induction k with
  | zero =>
   intro i s hk hi hs;have:i=l.length:=by omega
   subst this;rw [List.drop_length];refine ⟨fun m hm=>?_,hs⟩;obtain ⟨m,rfl⟩:∃x,m=x+1:=⟨m-1,by omega⟩
   simp only [yK];rw [h2 s hs];rfl
  | succ k ih =>
   intro i s hk hi hs;have hx:=zJC (show i<l.length by omega);have hd:=zKg (show i<l.length by omega);generalize l[i]'(by omega)=x at hx hd;obtain ⟨h3,h4⟩:=h1 i s x hx (by omega) hs;obtain ⟨h5,h6⟩:=ih (i+1) (g s x) (by omega) (by omega) h3;rw [hd];refine ⟨fun m hm=>?_,h6⟩;obtain ⟨m,rfl⟩:∃x,m=x+1:=⟨m-1,by omega⟩
   simp only [yK];rw [h4,zJA];exact h5 m (by omega)
 obtain ⟨k1,k2⟩:=key l.length 0 s (by omega) (by omega) h0;refine ⟨?_,k2⟩;rw [YI];exact k1 vv (vC (by omega))
def zxy (x:Int):List Int->List Int
 | []=>[x]
 | y::l=>if x<=y then x::y::l else y::zxy x l
def ZF:List Int->List Int
 | []=>[]
 | x::l=>zxy x (ZF l)
theorem zrp (x:Int):∀l,List.Perm (zxy x l) (x::l)
 | []=>zJ2 _
 | y::l=>by
  unfold zxy;split
  .exact zJ2 _
  .exact ((zrp x l).cons y).trans (List.Perm.swap x y l)
theorem VP:∀l,List.Perm (ZF l) l
 | []=>zJ2 _
 | x::l=>(zrp x (ZF l)).trans ((VP l).cons x)
theorem ztl (x:Int):∀l,List.Pairwise (fun a b:Int=>a<=b) l->List.Pairwise (fun a b:Int=>a<=b) (zxy x l)
 | [],_=>List.pairwise_singleton _ _
 | y::l,h=>by
  rw [zKT] at h;unfold zxy;split
  .rename_i hx;refine zKT.2 ⟨fun z hz=>?_,zKT.2 h⟩;rcases zJT.1 hz with rfl | hz
   .exact hx
   .have:=h.1 z hz;omega
  .rename_i hx;refine zKT.2 ⟨fun z hz=>?_,ztl x l h.2⟩;rcases zJT.1 ((zrp x l).mem_iff.1 hz) with rfl | hz
   .omega
   .exact h.1 z hz
theorem zdb:∀l,List.Pairwise (fun a b:Int=>a<=b) (ZF l)
 | []=>List.Pairwise.nil
 | x::l=>ztl x _ (zdb l)
theorem zr3 {l m:List Int}(hl:List.Pairwise (fun a b:Int=>a<=b) l) (hm:List.Pairwise (fun a b:Int=>a<=b) m) (h:List.Perm l m):l=m :=
 List.Perm.eq_of_pairwise (fun a b _ _ h1 h2=>Int.le_antisymm h1 h2) hl hm h
theorem zDK (l:List Int):wV l=ZF l:=by
 refine zr3 ?_ (zdb l) ((List.mergeSort_perm l _).trans (VP l).symm);have:=List.pairwise_mergeSort (le:=fun x y:Int=>decide (x<=y)) (fun a b c h1 h2=>by simp only [decide_eq_true_eq] at *;omega) (fun a b=>by simp only [zKI,decide_eq_true_eq];omega) l;exact this.imp (fun h=>by simpa using h)
theorem zC8 {l m:List Int}(h:List.Perm l m):ZF l=ZF m:=zr3 (zdb l) (zdb m) ((VP l).trans (h.trans (VP m).symm))
theorem zGr (l:List Int):(ZF l).length=l.length:=(VP l).length_eq
theorem zG4 (a b:List Int):ZF (ZF a++b)=ZF (a++b):=zC8 ((VP a).append_right b)
theorem zyr {l:List Int}(h:l.length<4294967296):zsB l=some (ZF l,()):=by
 rw [zDm];unfold zo2;rw [decide_eq_true (by omega),zDK];rfl
def Yl (p:zd) (w:Int) (i:Nat):Int:=zR p w+2+((i%p.Cap.toNat:Nat):Int)
structure DQ (p:zd) (m:List (BitVec 64)) (w:Int) (t:Nat) (l:List Int) (c:Nat):Prop where
 top:ld m (zR p w)=BitVec.ofNat 64 t
 bot:ld m (zR p w+1)=BitVec.ofNat 64 (t+l.length-c)
 c1:c<=1
 t1:1<=t
 cap:l.length<=p.Cap.toNat
 small:t+l.length<4294967296
 cell:∀(i:Nat) (hi:i<l.length),(ld m (Yl p w (t+i))).toInt=l[i]
theorem DQ.keep {p:zd}(h:zD p) {m m':List (BitVec 64)}{w:Int}{t c:Nat}{l:List Int}(D:DQ p m w t l c) (hm:∀a,zR p w<=a->a<zR p w+p.Cap+2->ld m' a=ld m a):DQ p m' w t l c:=by
 have hc:=h.cap;refine ⟨by rw [hm _ (by omega) (by omega)];exact D.top,by rw [hm _ (by omega) (by omega)];exact D.bot,D.c1,D.t1,D.cap,D.small,fun i hi=>?_⟩;have:=Nat.mod_lt (t+i) (show 0<p.Cap.toNat by omega);rw [hm _ (by unfold Yl;omega) (by unfold Yl;omega)];exact D.cell i hi
theorem ZZ {n:Nat}(h:n<18446744073709551616):(BitVec.ofNat 64 n).toNat=n:=by rw [BitVec.toNat_ofNat];omega
theorem ziG {a b:Nat}(h:b<=a) (h2:a<18446744073709551616):BitVec.ofNat 64 a-BitVec.ofNat 64 b=BitVec.ofNat 64 (a-b):=by
 apply zKS;rw [BitVec.toNat_sub,ZZ h2,ZZ (by omega),ZZ (by omega)];omega
theorem zem {a b:Nat}(h2:a+b<18446744073709551616):BitVec.ofNat 64 a+BitVec.ofNat 64 b=BitVec.ofNat 64 (a+b):=by
 apply zKS;rw [BitVec.toNat_add,ZZ (by omega),ZZ (by omega),ZZ (by omega)];omega
theorem zxV {a b:Nat}(h:a<18446744073709551616) (h2:b<18446744073709551616) (e:BitVec.ofNat 64 a=BitVec.ofNat 64 b):a=b:=by
 have:=congrArg BitVec.toNat e;rwa [ZZ h,ZZ h2] at this
theorem zhY {a b:Nat}(h:a<4294967296) (h2:b<4294967296):0<(BitVec.ofNat 64 a-BitVec.ofNat 64 b).toInt↔b<a:=by
 rw [zLb,BitVec.toNat_sub,ZZ (by omega),ZZ (by omega)];omega
theorem zHY {t i n c:Nat}(hi:i<n) (hn:n<t+c) (ht:t<=i) (e:i%c=n%c):False:=by
 have h1:=Nat.div_add_mod i c;have h2:=Nat.div_add_mod n c;have hc:0<c:=by omega
 rw [e] at h1;have h3:c*(n/c)=c*(i/c)+(n-i):=by omega
 rcases zKa (i/c) (n/c) with h | h
 .have:c*(i/c)+c<=c*(n/c):=by
   have:=Nat.mul_le_mul_left c h;rw [Nat.succ_eq_add_one,Nat.mul_add,zKx] at this;exact this
  omega
 .have:=Nat.mul_le_mul_left c h;omega
theorem zik {p:zd}(h:zD p) {d:zg}{w:Int}(hw:1<=w/\w<=p.Workers) (hb:d.Base=zR p w) (hc:d.Cap=p.Cap) {i:Nat}(hi:i<4294967296):Xf d (BitVec.ofNat 64 i)=Yl p w i:=by
 rw [(zuk h hw.1 hw.2 hb hc _).1,ZZ (by omega),hb];rfl
structure DK (p:zd) (m:List (BitVec 64)) (w:Int) (t:Nat) (l:List Int) (c:Nat) (d:zg):Prop where
 kind:d.Kind=1
 base:d.Base=zR p w
 size:d.Cap=p.Cap
 out:d.Out=0
 c0:c=0
 pc:0<=d.PC/\d.PC<=3
 b:1<=d.PC->d.B=BitVec.ofNat 64 (t+l.length)
 r:2<=d.PC->l.length<p.Cap.toNat
 x:3<=d.PC->(ld m (Yl p w (t+l.length))).toInt=d.X
structure PK (p:zd) (m:List (BitVec 64)) (w:Int) (t:Nat) (l:List Int) (c:Nat) (d:zg):Prop where
 kind:d.Kind=2
 base:d.Base=zR p w
 size:d.Cap=p.Cap
 out:d.Out=0
 pc:0<=d.PC/\d.PC<=6
 c0:d.PC<=1->c=0
 c1:d.PC=2\/4<=d.PC->c=1
 b:d.PC=1\/d.PC=2\/4<=d.PC\/(d.PC=3/\d.T=d.B-1#64)->d.B=BitVec.ofNat 64 (t+l.length)
 c3:d.PC=3->d.T=d.B-1#64->c=1
 n3:d.PC=3->d.T≠d.B-1#64->c=0/\d.B=BitVec.ofNat 64 (t+l.length+1)/\t+l.length+1<4294967296/\l.length+1<=p.Cap.toNat
 t3:d.PC=3\/d.PC=4->d.T.toNat<=t
 t4:d.PC=4->d.T=d.B-1#64
 x4:d.PC=4->d.T.toNat=t->l=[d.X]
 e5:5<=d.PC->l=[]
def Yd (m:List (BitVec 64)) (d:zg):List Int :=
 if d.PC=3/\d.T≠d.B-1#64 then [(ld m (Xf d (d.B-1#64))).toInt] else if d.PC=6 then [d.X] else []
structure TK (p:zd) (m:List (BitVec 64)) (w:Int) (t:Nat) (l:List Int) (d:zg):Prop where
 kind:d.Kind=3
 base:d.Base=zR p w
 size:d.Cap=p.Cap
 out:d.Out=0
 pc:0<=d.PC/\d.PC<=3
 le:1<=d.PC->d.T.toNat<=t
 ne:2<=d.PC->d.T.toNat=t->l≠[]
 hd:d.PC=3->d.T.toNat=t->l.head? =some d.X
structure Dv (t:Nat) (l:List Int) (t':Nat) (l':List Int):Prop where
 le:t<=t'
 hd:t'=t->l≠[]->l'≠[]/\l'.head? =l.head?
theorem Dv.refl (t:Nat) (l:List Int):Dv t l t l:=⟨zJF _,fun _ h=>⟨h,rfl⟩⟩
theorem TK.dv {p:zd}{m m':List (BitVec 64)}{w:Int}{t t':Nat}{l l':List Int}{d:zg}(K:TK p m w t l d) (V:Dv t l t' l'):TK p m' w t' l' d:=by
 have h1:=V.le;refine ⟨K.kind,K.base,K.size,K.out,K.pc,fun h=>zKG (K.le h) h1,fun h e=>?_,fun h e=>?_⟩
 .have:=K.le (by omega);have et:t'=t:=by omega
  exact (V.hd et (K.ne h (by omega))).1
 .have:=K.le (by omega);have et:t'=t:=by omega
  rw [(V.hd et (K.ne (by omega) (by omega))).2];exact K.hd h (by omega)
theorem zEa {p:zd}(h:zD p) {m:List (BitVec 64)}{w:Int}{t c:Nat}{l:List Int}{d:zg}(hw:1<=w/\w<=p.Workers) (hlen:yc p<=m.length) (D:DQ p m w t l c) (K:TK p m w t l d) :
  ((z3 m d).1=m/\(((z3 m d).2.Out=0/\TK p m w t l (z3 m d).2)\/(z3 m d).2.Out=2\/(z3 m d).2.Out=4)) \/
  (∃x l',l=x::l'/\(z3 m d).2.Out=1/\(z3 m d).2.X=x/\DQ p (z3 m d).1 w (t+1) l' c/\(∀a,a≠zR p w->ld (z3 m d).1 a=ld m a)):=by
 have hc:=h.cap;have hd:=YQ h hw.1 hw.2;have hf:=ZR h;have hpc:=K.pc;have hsm:=D.small;have ht1:=D.t1;have hc1:=D.c1;have eb:wc (d.Base+1)=zR p w+1:=by rw [K.base,yT]
 have k:=K.kind;unfold z3;rw [zc (by have:=K.out;omega),zi,zi,zb k];unfold zcH;rw [zi,eb];by_cases c0:d.PC=0
 .rw [zb c0];exact .inl ⟨rfl,.inl ⟨K.out,⟨k,K.base,K.size,K.out,⟨by dsimp only;omega,by dsimp only;omega⟩,fun _=>by dsimp only;rw [K.base,D.top,ZZ (by omega)];exact zJF _,fun e=>by dsimp only at e;omega,fun e=>by dsimp only at e;omega⟩⟩⟩
 rw [zc c0];have hT:=K.le (by omega);by_cases c1:d.PC=1
 .rw [zb c1];left;refine ⟨rfl,?_⟩;by_cases hs:0<(ld m (zR p w+1)-d.T).toInt
  .left;dsimp only;rw [zb hs];refine ⟨K.out,⟨k,K.base,K.size,K.out,⟨by dsimp only;omega,by dsimp only;omega⟩,fun _=>hT,fun _ e=>?_,fun e=>by dsimp only at e;omega⟩⟩;have e:d.T.toNat=t:=e;have eT:d.T=BitVec.ofNat 64 t:=by apply zKS;rw [ZZ (by omega)];exact e
   rw [D.bot,eT] at hs;have:=(zhY (by omega) (by omega)).1 hs;intro el;rw [el] at this;simp at this;omega
  .right;left;dsimp only;rw [zc hs]
 rw [zc c1];by_cases c2:d.PC=2
 .rw [zb c2];left;refine ⟨rfl,.inl ⟨K.out,⟨k,K.base,K.size,K.out,⟨by dsimp only;omega,by dsimp only;omega⟩,fun _=>hT,fun _ e=>K.ne (by omega) e,fun _ e=>?_⟩⟩⟩;have e:d.T.toNat=t:=e;have eT:d.T=BitVec.ofNat 64 t:=by apply zKS;rw [ZZ (by omega)];exact e
  have hn:=K.ne (by omega) e;cases l with
  | nil=>exact absurd rfl hn
  | cons x l =>
   have:=D.cell 0 (by simp);dsimp only;rw [eT,zik h hw K.base K.size (by omega)];rw [zKj] at this;rw [this];rfl
 rw [zc c2];have c3:d.PC=3:=by omega
 by_cases hs:ld m d.Base=d.T
 .right;have eT:d.T.toNat=t:=by rw [<-hs,K.base,D.top,ZZ (by omega)]
  have eT':d.T=BitVec.ofNat 64 t:=by rw [<-hs,K.base,D.top]
  have hx:=K.hd c3 eT;have hn:=K.ne (by omega) eT;have hsw:sw m d.Base d.T (d.T+1#64)=(st m d.Base (d.T+1#64),true):=by unfold sw;rw [zb ⟨by rw [K.base];omega,by rw [K.base];omega,hs⟩]
  rw [hsw];cases l with
  | nil=>exact absurd rfl hn
  | cons x l =>
   have hx:x=d.X:=by simpa using hx
   have hmod:∀i,zR p w+2<=Yl p w i:=fun i=>by unfold Yl;omega
   have hlc:=D.cap;rw [zJS] at hlc hsm;refine ⟨x,l,rfl,rfl,hx.symm,⟨?_,?_,hc1,by omega,by omega,by omega,fun i hi=>?_⟩,fun a ha=>?_⟩
   .dsimp only;rw [K.base,W6,zb ⟨rfl,by omega,by omega⟩,eT'];exact zem (by omega)
   .dsimp only;rw [K.base,yy (by omega),D.bot,zJS];congr 1;omega
   .dsimp only;have:=hmod (t+1+i);rw [K.base,yy (by omega)];have:=D.cell (i+1) (by simp;omega);rw [show t+(i+1)=t+1+i by omega] at this;simpa using this
   .dsimp only;rw [K.base,yy (fun e=>ha e.symm)]
 .left;have hsw:sw m d.Base d.T (d.T+1#64)=(m,false):=by unfold sw;rw [zc (fun e=>hs e.2.2)]
  rw [hsw];exact ⟨rfl,.inr (.inr rfl)⟩
theorem ua {m:List (BitVec 64)}{d:zg}(h:d.PC≠3\/d.T=d.B-1#64) (h2:d.PC≠6):Yd m d=[]:=by
 unfold Yd;rw [zc (fun e=>h.elim (fun f=>f e.1) (fun f=>e.2 f)),zc h2]
theorem zAq {p:zd}(h:zD p) {m:List (BitVec 64)}{w:Int}{t c:Nat}{l:List Int}{d:zg}(hw:1<=w/\w<=p.Workers) (hlen:yc p<=m.length) (D:DQ p m w t l c) (K:PK p m w t l c d) :
  ∃t' l' c',DQ p (z3 m d).1 w t' l' c'/\(∀a,a≠zR p w->a≠zR p w+1->ld (z3 m d).1 a=ld m a)/\Dv t l t' l'/\t'+l'.length<=t+l.length /\
   (((z3 m d).2.Out=0/\PK p (z3 m d).1 w t' l' c' (z3 m d).2/\List.Perm (l'++Yd (z3 m d).1 (z3 m d).2) (l++Yd m d)) \/
    ((z3 m d).2.Out=1/\c'=0/\List.Perm (l'++[(z3 m d).2.X]) (l++Yd m d)) \/
    ((z3 m d).2.Out=2/\c'=0/\l'=[]/\l=[]/\Yd m d=[])):=by
 have hc:=h.cap;have hd:=YQ h hw.1 hw.2;have hf:=ZR h;have hpc:=K.pc;have hsm:=D.small;have ht1:=D.t1;have hc1:=D.c1;have eb:wc (d.Base+1)=zR p w+1:=by rw [K.base,yT]
 have k:=K.kind;have one:(1#64:BitVec 64)=BitVec.ofNat 64 1:=rfl;have hmod:∀i,zR p w+2<=Yl p w i/\Yl p w i<zR p w+p.Cap+2:=fun i=>by
  have:=Nat.mod_lt i (show 0<p.Cap.toNat by omega);unfold Yl;omega
 have stb:∀(c':Nat) (v:BitVec 64),c'<=1->v=BitVec.ofNat 64 (t+l.length-c')->DQ p (st m (zR p w+1) v) w t l c'/\(∀a,a≠zR p w->a≠zR p w+1->ld (st m (zR p w+1) v) a=ld m a):=by
  intro c' v h1 h2;refine ⟨⟨by rw [yy (by omega)];exact D.top,by rw [W6,zb ⟨rfl,by omega,by omega⟩];exact h2,h1,ht1,D.cap,hsm,fun i hi=>by rw [yy (by have:=hmod (t+i);omega)];exact D.cell i hi⟩,fun a _ h2=>yy (fun e=>h2 e.symm)⟩
 unfold z3;rw [zc (by have:=K.out;omega),zi,zb k];unfold zkC;rw [zi,eb];by_cases p0:d.PC=0
 .rw [zb p0];have hc0:=K.c0 (by omega);refine ⟨t,l,c,D,fun _ _ _=>rfl,Dv.refl _ _,zJF _,.inl ⟨K.out,⟨k,K.base,K.size,K.out,⟨by dsimp only;omega,by dsimp only;omega⟩,fun _=>hc0,fun e=>by dsimp only at e;omega,fun _=>?_,fun e=>by dsimp only at e;omega,fun e=>by dsimp only at e;omega,fun e=>by dsimp only at e;omega,fun e=>by dsimp only at e;omega,fun e=>by dsimp only at e;omega,fun e=>by dsimp only at e;omega⟩,?_⟩⟩
  .dsimp only;rw [D.bot,hc0];rfl
  .rw [ua (.inl (by dsimp only;omega)) (by dsimp only;omega),ua (.inl (by omega)) (by omega)]
 rw [zc p0];by_cases p1:d.PC=1
 .rw [zb p1];have hB:=K.b (.inl p1);have eB:d.B-1#64=BitVec.ofNat 64 (t+l.length-1):=by rw [hB,one,ziG (by omega) (by omega)]
  obtain ⟨D',hm⟩:=stb 1 (d.B-1#64) (by omega) eB;refine ⟨t,l,1,D',hm,Dv.refl _ _,zJF _,.inl ⟨K.out,⟨k,K.base,K.size,K.out,⟨by dsimp only;omega,by dsimp only;omega⟩,fun e=>by dsimp only at e;omega,fun _=>rfl,fun _=>hB,fun e=>by dsimp only at e;omega,fun e=>by dsimp only at e;omega,fun e=>by dsimp only at e;omega,fun e=>by dsimp only at e;omega,fun e=>by dsimp only at e;omega,fun e=>by dsimp only at e;omega⟩,?_⟩⟩;rw [ua (.inl (by dsimp only;omega)) (by dsimp only;omega),ua (.inl (by omega)) (by omega)]
 rw [zc p1];by_cases p2:d.PC=2
 .rw [zb p2];have hB:=K.b (.inr (.inl p2));have hc':=K.c1 (.inl p2);have eB:d.B-1#64=BitVec.ofNat 64 (t+l.length-1):=by rw [hB,one,ziG (by omega) (by omega)]
  have eT:ld m d.Base=BitVec.ofNat 64 t:=by rw [K.base];exact D.top
  rw [ua (d:=d) (.inl (by omega)) (by omega),zJE];by_cases hs:0<(ld m d.Base-(d.B-1#64)).toInt
  .have hs':=hs;rw [eT,eB] at hs';have:=(zhY (by omega) (by omega)).1 hs';have el:l=[]:=by cases l with | nil=>rfl | cons a l=>rw [zJS] at this;omega
   rw [zb hs];refine ⟨t,l,c,D,fun _ _ _=>rfl,Dv.refl _ _,zJF _,.inl ⟨K.out,⟨k,K.base,K.size,K.out,⟨by dsimp only;omega,by dsimp only;omega⟩,fun e=>by dsimp only at e;omega,fun _=>hc',fun _=>hB,fun e=>by dsimp only at e;omega,fun e=>by dsimp only at e;omega,fun e=>by dsimp only at e;omega,fun e=>by dsimp only at e;omega,fun e=>by dsimp only at e;omega,fun _=>el⟩,?_⟩⟩;rw [ua (.inl (by dsimp only;omega)) (by dsimp only;omega),zJE]
  .have hs':=hs;rw [eT,eB] at hs';have hle: ¬(t+l.length-1<t):=fun e=>hs' ((zhY (by omega) (by omega)).2 e);rw [zc hs];by_cases h1:l.length=1
   .have e3:ld m d.Base=d.B-1#64:=by rw [eT,eB];congr 1;omega
    refine ⟨t,l,c,D,fun _ _ _=>rfl,Dv.refl _ _,zJF _,.inl ⟨K.out,⟨k,K.base,K.size,K.out,⟨by dsimp only;omega,by dsimp only;omega⟩,fun e=>by dsimp only at e;omega,fun e=>by dsimp only at e;omega,fun _=>hB,fun _ _=>hc',fun _ e=>absurd e3 e,fun _=>by dsimp only;rw [eT,ZZ (by omega)];exact zJF _,fun e=>by dsimp only at e;omega,fun e=>by dsimp only at e;omega,fun e=>by dsimp only at e;omega⟩,?_⟩⟩;rw [ua (.inr e3) (by dsimp only;omega),zJE]
   .-- the last one is the owner's
    have h2:2<=l.length:=by omega
    have e3:ld m d.Base≠d.B-1#64:=by
     rw [eT,eB];intro e;have:=zxV (by omega) (by omega) e;omega
    have hne:l≠[]:=fun e=>by rw [e] at h2;simp at h2
    have hdl:l.dropLast.length=l.length-1:=List.length_dropLast;refine ⟨t,l.dropLast,0,⟨D.top,?_,by omega,ht1,by have:=D.cap;omega,by omega,fun i hi=>?_⟩,fun _ _ _=>rfl,⟨zJF _,fun _ _=>⟨fun e=>?_,?_⟩⟩,by omega,.inl ⟨K.out,⟨k,K.base,K.size,K.out,⟨by dsimp only;omega,by dsimp only;omega⟩,fun e=>by dsimp only at e;omega,fun e=>by dsimp only at e;omega,fun e=>?_,fun _ e=>absurd e e3,fun _ _=>⟨rfl,?_,by omega,by have:=D.cap;omega⟩,fun _=>by dsimp only;rw [eT,ZZ (by omega)];exact zJF _,fun e=>by dsimp only at e;omega,fun e=>by dsimp only at e;omega,fun e=>by dsimp only at e;omega⟩,?_⟩⟩
    .rw [D.bot,hc',hdl];congr 1;omega
    .rw [D.cell i (by omega)];exact (List.getElem_dropLast ..).symm
    .have:=congrArg List.length e;rw [hdl] at this;simp at this;omega
    .cases l with
     | nil=>exact absurd rfl hne
     | cons a l=>cases l with
      | nil=>simp at h2
      | cons b l=>rfl
    .rcases e with e | e | e | ⟨_,e⟩
     .dsimp only at e;omega
     .dsimp only at e;omega
     .dsimp only at e;omega
     .exact absurd e e3
    .dsimp only;rw [hB,hdl];congr 1;omega
    .unfold Yd;rw [zb ⟨rfl,e3⟩];dsimp only;have ep:Xf {d with T:=ld m d.Base,PC:=3} (d.B-1#64)=Yl p w (t+(l.length-1)):=by
      rw [eB];have:=zik h (d:={d with T:=ld m d.Base,PC:=3}) hw K.base K.size (i:=t+l.length-1) (by omega);rw [this];congr 1;omega
     rw [ep,D.cell (l.length-1) (by omega)];have:=List.dropLast_concat_getLast hne;rw [List.getLast_eq_getElem] at this;rw [this]
 rw [zc p2];by_cases p3:d.PC=3
 .rw [zb p3];by_cases e3:d.T=d.B-1#64
  .rw [zb e3];have hB:=K.b (.inr (.inr (.inr ⟨p3,e3⟩)));have hc':=K.c3 p3 e3;have eB:d.B-1#64=BitVec.ofNat 64 (t+l.length-1):=by rw [hB,one,ziG (by omega) (by omega)]
   refine ⟨t,l,c,D,fun _ _ _=>rfl,Dv.refl _ _,zJF _,.inl ⟨K.out,⟨k,K.base,K.size,K.out,⟨by dsimp only;omega,by dsimp only;omega⟩,fun e=>by dsimp only at e;omega,fun _=>hc',fun _=>hB,fun e=>by dsimp only at e;omega,fun e=>by dsimp only at e;omega,fun _=>K.t3 (.inl p3),fun _=>e3,fun _ e=>?_,fun e=>by dsimp only at e;omega⟩,?_⟩⟩
   .have e:d.T.toNat=t:=e;rw [e3,eB,ZZ (by omega)] at e;have h1:l.length=1:=by omega
    have:=D.cell 0 (by omega);dsimp only;rw [eB,zik h hw K.base K.size (by omega),show t+l.length-1=t+0 by omega,this]
    match l,h1 with
    | [a],_=>rfl
   .rw [ua (.inl (by dsimp only;omega)) (by dsimp only;omega),ua (.inr e3) (by omega)]
  .rw [zc e3];obtain ⟨a1,a2,a3,a4⟩:=K.n3 p3 e3;refine ⟨t,l,c,D,fun _ _ _=>rfl,Dv.refl _ _,zJF _,.inr (.inl ⟨rfl,a1,?_⟩)⟩;unfold Yd;rw [zb ⟨p3,e3⟩]
 rw [zc p3];by_cases p4:d.PC=4
 .rw [zb p4];have hB:=K.b (.inr (.inr (.inl (by omega))));have hc':=K.c1 (.inr (by omega));have e3:=K.t4 p4;have ht:=K.t3 (.inr p4);have eB:d.B-1#64=BitVec.ofNat 64 (t+l.length-1):=by rw [hB,one,ziG (by omega) (by omega)]
  have eT:d.T.toNat=t+l.length-1:=by rw [e3,eB,ZZ (by omega)]
  rw [ua (d:=d) (.inl (by omega)) (by omega),zJE];by_cases hs:ld m d.Base=d.T
  .have hsw:sw m d.Base d.T (d.T+1#64)=(st m d.Base (d.T+1#64),true):=by unfold sw;rw [zb ⟨by rw [K.base];omega,by rw [K.base];omega,hs⟩]
   have et:d.T.toNat=t:=by rw [<-hs,K.base,D.top,ZZ (by omega)]
   have el:=K.x4 p4 et;rw [hsw];have eT':d.T=BitVec.ofNat 64 t:=by rw [<-hs,K.base,D.top]
   have hl1:l.length=1:=by rw [el];rfl
   refine ⟨t+1,[],1,⟨?_,?_,by omega,by omega,by simp,by simp;omega,fun i hi=>by simp at hi⟩,fun a h1 _=>?_,⟨by omega,fun e=>by omega⟩,by simp;omega,.inl ⟨K.out,⟨k,K.base,K.size,K.out,⟨by dsimp only;simp,by dsimp only;simp⟩,fun e=>by simp at e,fun _=>rfl,fun _=>?_,fun e=>by simp at e,fun e=>by simp at e,fun e=>by simp at e,fun e=>by simp at e,fun e=>by simp at e,fun _=>rfl⟩,?_⟩⟩
   .dsimp only;rw [K.base,W6,zb ⟨rfl,by omega,by omega⟩,eT'];exact zem (by omega)
   .dsimp only;rw [K.base,yy (by omega),D.bot,hc',hl1];rfl
   .dsimp only;rw [K.base,yy (fun e=>h1 e.symm)]
   .dsimp only;rw [hB,hl1];rfl
   .unfold Yd;rw [zc (fun e=>by simp at e),zb (by simp)];rw [el];exact zJ2 _
  .have hsw:sw m d.Base d.T (d.T+1#64)=(m,false):=by unfold sw;rw [zc (fun e=>hs e.2.2)]
   rw [hsw];have hne:d.T.toNat≠t:=fun e=>hs (by rw [K.base,D.top];apply zKS;rw [ZZ (by omega)];exact e.symm);have el:l=[]:=by cases l with | nil=>rfl | cons a l=>rw [zJS] at eT;omega
   refine ⟨t,l,c,D,fun _ _ _=>rfl,Dv.refl _ _,zJF _,.inl ⟨K.out,⟨k,K.base,K.size,K.out,⟨by dsimp only;simp,by dsimp only;simp⟩,fun e=>by simp at e,fun _=>hc',fun _=>hB,fun e=>by simp at e,fun e=>by simp at e,fun e=>by simp at e,fun e=>by simp at e,fun e=>by simp at e,fun _=>el⟩,?_⟩⟩;rw [ua (.inl (by simp)) (by simp),zJE]
 rw [zc p4];have hB:=K.b (.inr (.inr (.inl (by omega))));have el:=K.e5 (by omega);obtain ⟨D',hm⟩:=stb 0 d.B (by omega) (by rw [hB];rfl);by_cases p5:d.PC=5
 .rw [zb p5];exact ⟨t,l,0,D',hm,Dv.refl _ _,zJF _,.inr (.inr ⟨rfl,rfl,el,el,ua (.inl (by omega)) (by omega)⟩)⟩
 .rw [zc p5];refine ⟨t,l,0,D',hm,Dv.refl _ _,zJF _,.inr (.inl ⟨rfl,rfl,?_⟩)⟩;unfold Yd;rw [zc (fun e=>p3 e.1),zb (show d.PC=6 by omega)]
theorem PK.stolen {p:zd}{m m':List (BitVec 64)}(h:zD p) {w:Int}(hw:1<=w/\w<=p.Workers) {t c:Nat}{x:Int}{l:List Int}{d:zg}(K:PK p m w t (x::l) c d):PK p m' w (t+1) l c d:=by
 have e:t+(x::l).length=t+1+l.length:=by rw [zJS];omega
 refine ⟨K.kind,K.base,K.size,K.out,K.pc,K.c0,K.c1,fun q=>by rw [<-e];exact K.b q,K.c3,fun a b=>?_,fun a=>Nat.le_succ_of_le (K.t3 a),K.t4,fun a b=>?_,fun a=>?_⟩
 .have:=K.n3 a b;rw [e] at this;rw [zJS] at this;exact ⟨this.1,this.2.1,this.2.2.1,by omega⟩
 .have:=K.t3 (.inr a);omega
 .have:=K.e5 a;cases this
theorem DK.stolen {p:zd}{m m':List (BitVec 64)}{w:Int}{t c:Nat}{x:Int}{l:List Int}{d:zg}(K:DK p m w t (x::l) c d) (hm:∀a,a≠zR p w->ld m' a=ld m a) (h:zD p):DK p m' w (t+1) l c d:=by
 have e:t+(x::l).length=t+1+l.length:=by rw [zJS];omega
 refine ⟨K.kind,K.base,K.size,K.out,K.c0,K.pc,fun q=>by rw [<-e];exact K.b q,fun q=>by have:=K.r q;rw [zJS] at this;omega,fun q=>?_⟩;rw [<-e,hm _ (by unfold Yl;omega)];exact K.x q
theorem PK.keep {p:zd}{m m':List (BitVec 64)}{w:Int}{t c:Nat}{l:List Int}{d:zg}(K:PK p m w t l c d):PK p m' w t l c d :=
 ⟨K.kind,K.base,K.size,K.out,K.pc,K.c0,K.c1,K.b,K.c3,K.n3,K.t3,K.t4,K.x4,K.e5⟩
theorem DK.keep {p:zd}(h:zD p) {m m':List (BitVec 64)}{w:Int}{t c:Nat}{l:List Int}{d:zg}(K:DK p m w t l c d) (hm:∀a,zR p w+1<a->a<zR p w+p.Cap+2->ld m' a=ld m a):DK p m' w t l c d:=by
 have hc:=h.cap;have:=Nat.mod_lt (t+l.length) (show 0<p.Cap.toNat by omega);exact ⟨K.kind,K.base,K.size,K.out,K.c0,K.pc,K.b,K.r,fun q=>by rw [hm _ (by unfold Yl;omega) (by unfold Yl;omega)];exact K.x q⟩
theorem zyV {p:zd}(h:zD p) {m:List (BitVec 64)}{w:Int}{t c:Nat}{l:List Int}{d:zg}(hw:1<=w/\w<=p.Workers) (hlen:yc p<=m.length) (D:DQ p m w t l c) (K:DK p m w t l c d) (hs:t+l.length+1<4294967296) (hX: -9223372036854775808<=d.X/\d.X<9223372036854775808) :
  (∀a,(a<zR p w\/zR p w+p.Cap+2<=a)->ld (yP m d).1 a=ld m a)/\(yP m d).2.X=d.X /\
  (((yP m d).2.Out=0/\DQ p (yP m d).1 w t l 0/\DK p (yP m d).1 w t l 0 (yP m d).2) \/
   ((yP m d).2.Out=3/\DQ p (yP m d).1 w t l 0) \/
   ((yP m d).2.Out=1/\DQ p (yP m d).1 w t (l++[d.X]) 0)):=by
 have hc:=h.cap;have hd:=YQ h hw.1 hw.2;have hf:=ZR h;have hmod:∀i,zR p w+2<=Yl p w i/\Yl p w i<zR p w+p.Cap+2:=fun i=>by
  have:=Nat.mod_lt i (show 0<p.Cap.toNat by omega);unfold Yl;omega
 have hpc:=K.pc;have c00:=K.c0;subst c00;have ht1:=D.t1;have hsm:=D.small;have eb:wc (d.Base+1)=zR p w+1:=by rw [K.base,yT]
 unfold yP;rw [zc (by have:=K.out;omega),eb];by_cases c0:d.PC=0
 .rw [zb c0];exact ⟨fun _ _=>rfl,rfl,.inl ⟨K.out,D,⟨K.kind,K.base,K.size,K.out,rfl,⟨by dsimp only;omega,by dsimp only;omega⟩,fun _=>D.bot,fun e=>by dsimp only at e;omega,fun e=>by dsimp only at e;omega⟩⟩⟩
 rw [zc c0];by_cases c1:d.PC=1
 .rw [zb c1];refine ⟨fun _ _=>rfl,by dsimp only;split<;>rfl,?_⟩;have hB:=K.b (by omega);have es:(uA d).toNat=p.Cap.toNat:=by
   unfold uA;rw [K.size,zi,zKu];omega
  have ed:(d.B-ld m d.Base).toNat=l.length:=by
   rw [hB,K.base,D.top,BitVec.toNat_sub,ZZ (by omega),ZZ (by omega)];omega
  split
  .right;left;exact ⟨rfl,D⟩
  .rename_i hlt;left;have hr:l.length<p.Cap.toNat:=by
    have: ¬(uA d).toNat<=(d.B-ld m d.Base).toNat:=fun e=>hlt (BitVec.le_def.2 e);omega
   exact ⟨K.out,D,⟨K.kind,K.base,K.size,K.out,rfl,⟨by dsimp only;omega,by dsimp only;omega⟩,fun _=>hB,fun _=>hr,fun e=>by dsimp only at e;omega⟩⟩
 rw [zc c1];have hB:=K.b (by omega);have hr:=K.r (by omega);by_cases c2:d.PC=2
 .rw [zb c2];have ep:Xf d d.B=Yl p w (t+l.length):=by rw [hB];exact zik h hw K.base K.size (by omega)
  rw [ep];have hm:=hmod (t+l.length);refine ⟨fun a ha=>yy (by omega),rfl,.inl ⟨K.out,⟨?_,?_,D.c1,ht1,D.cap,D.small,fun i hi=>?_⟩,⟨K.kind,K.base,K.size,K.out,rfl,⟨by dsimp only;omega,by dsimp only;omega⟩,fun _=>hB,fun _=>hr,fun _=>?_⟩⟩⟩
  .dsimp only;rw [yy (by omega)];exact D.top
  .dsimp only;rw [yy (by omega)];exact D.bot
  .dsimp only;rw [yy (fun e=>zHY (t:=t) (i:=t+i) (n:=t+l.length) (c:=p.Cap.toNat) (by omega) (by omega) (by omega) (by unfold Yl at e;omega))];exact D.cell i hi
  .dsimp only;rw [W6,zb ⟨rfl,by omega,by omega⟩,BitVec.toInt_ofInt,Int.bmod_def];omega
 .rw [zc c2];have hx:=K.x (by omega);refine ⟨fun a ha=>yy (by omega),rfl,.inr (.inr ⟨rfl,⟨?_,?_,by omega,ht1,?_,?_,fun i hi=>?_⟩⟩)⟩
  .dsimp only;rw [yy (by omega)];exact D.top
  .dsimp only;rw [W6,zb ⟨rfl,by omega,by omega⟩,hB,zJN];exact zem (by omega)
  .rw [zJN];show l.length+1<=_;omega
  .rw [zJN];show t+(l.length+1)<_;omega
  .dsimp only;have hi':i<l.length+1:=by rw [zJN] at hi;exact hi
   have hm:=hmod (t+i);rw [yy (by omega)];rcases zKa i l.length with g | g
   .rw [zLs g];exact D.cell i g
   .have:i=l.length:=by omega
    subst this;rw [List.getElem_append_right (by omega)];simp only [Nat.sub_self,List.getElem_cons_zero];exact hx
def xy (h:BitVec 64):Nat:=h.toNat/4294967296
theorem zvO (v:BitVec 64) {n:Int}(h:0<=n) (h2:n<4294967296):(xw v n).toNat=(v.toNat%4294967296)*4294967296+n.toNat:=by
 unfold xw;have e3:(BitVec.ofInt 64 n).toNat&&&(4294967295#64).toNat=n.toNat:=by
  have:(BitVec.ofInt 64 n).toNat=n.toNat:=by rw [zKu];omega
  rw [this];exact (zLu n.toNat 32).trans (Nat.mod_eq_of_lt (by omega))
 rw [BitVec.toNat_or,zKF,e3,BitVec.toNat_shiftLeft];have h2':v.toNat <<< 32%2 ^ 64=(v.toNat%4294967296) <<< 32:=by rw [Nat.shiftLeft_eq,Nat.shiftLeft_eq];omega
 rw [h2',<-Nat.shiftLeft_add_eq_or_of_lt (show n.toNat<2 ^ 32 by omega),Nat.shiftLeft_eq]
theorem zBx (h:BitVec 64) {n:Int}(h1:0<=n) (h2:n<4294967296) (hv:xy h+1<4294967296):xy (xw ((h >>> 32)+1#64) n)=xy h+1:=by
 have e:((h >>> 32)+1#64).toNat=xy h+1:=by
  rw [BitVec.toNat_add,BitVec.toNat_ushiftRight,Nat.shiftRight_eq_div_pow];show (h.toNat/4294967296+1)%2 ^ 64=_;unfold xy at hv ⊢;omega
 unfold xy;rw [zvO _ h1 h2,e];unfold xy at hv ⊢;omega
def Chn (m:List (BitVec 64)) (N:Int) (nb:Nat):Int->List Int->Prop
 | h,[]=>h=0
 | h,x::l=>h=x/\1<=x/\x<nb/\Chn m N nb (ld m (N+x)).toInt l
theorem Chn.mem {m:List (BitVec 64)}{N:Int}{nb:Nat}:∀ {l:List Int}{h:Int},Chn m N nb h l->∀x∈l,1<=x/\x<nb
 | y::l,h,c,x,hx=>by
  rcases zJT.1 hx with rfl | hx
  .exact ⟨c.2.1,c.2.2.1⟩
  .exact Chn.mem c.2.2.2 x hx
theorem Chn.st {m:List (BitVec 64)}{N:Int}{nb:Nat}{a:Int}{v:BitVec 64}:∀ {l:List Int}{h:Int},Chn m N nb h l->(∀x∈l,a≠N+x)->Chn (st m a v) N nb h l
 | [],h,c,_=>c
 | y::l,h,c,hn=>⟨c.1,c.2.1,c.2.2.1,by
  rw [yy (hn y (by simp))];exact Chn.st c.2.2.2 (fun x hx=>hn x (zJI _ hx))⟩
theorem Chn.head {m:List (BitVec 64)}{N:Int}{nb:Nat}{l:List Int}{h:Int}(c:Chn m N nb h l) (hh:h≠0):∃t,l=h::t/\1<=h/\h<nb/\Chn m N nb (ld m (N+h)).toInt t:=by
 cases l with
 | nil=>exact absurd c hh
 | cons x t =>
  obtain ⟨rfl,h1,h2,h3⟩:=c;exact ⟨t,rfl,h1,h2,h3⟩
theorem Chn.empty {m:List (BitVec 64)}{N:Int}{nb:Nat}{l:List Int}(c:Chn m N nb 0 l):l=[]:=by
 cases l with
 | nil=>rfl
 | cons x t=>have:=c.1;have:=c.2.1;omega
def zp4 (nb:Nat):List Int:=(List.range (nb-1)).map (fun (i:Nat)=>(i:Int)+1)
theorem ztf (nb:Nat):(zp4 nb).Nodup:=by
 unfold zp4;rw [List.Nodup,List.pairwise_map];exact List.nodup_range.imp (fun h e=>h (by omega))
theorem zrF {nb:Nat}{x:Int}:x∈zp4 nb↔1<=x/\x<nb:=by
 unfold zp4;rw [zJO];constructor
 .rintro ⟨i,hi,rfl⟩;have:=zJ1.1 hi;omega
 .rintro ⟨h1,h2⟩;exact ⟨(x-1).toNat,zJ1.2 (by omega),by omega⟩
structure LI (p:zd) (nb:Nat) (m:List (BitVec 64)) (h1 h2:Int) (F E own:List Int):Prop where
 hs:(h1=yc p/\h2=zJ p)\/(h1=zJ p/\h2=yc p)
 cF:Chn m (zJ p) nb (yr (ld m h1)) F
 cE:Chn m (zJ p) nb (yr (ld m h2)) E
 all:List.Perm (F++E++own) (zp4 nb)
 len:zJ p+nb<=m.length
theorem LI.nodup {p:zd}{nb:Nat}{m:List (BitVec 64)}{h1 h2:Int}{F E own:List Int}(h:LI p nb m h1 h2 F E own):(F++E++own).Nodup:=h.all.nodup_iff.2 (ztf nb)
theorem LI.notF {p:zd}{nb:Nat}{m:List (BitVec 64)}{h1 h2:Int}{F E own:List Int}(h:LI p nb m h1 h2 F E own) {x:Int}(hx:x∈own):x∉F/\x∉E:=by
 have:=zKP.1 h.nodup;exact ⟨fun e=>this.2.2 x (zJV _ e) x hx rfl,fun e=>this.2.2 x (zJ7 _ e) x hx rfl⟩
theorem LI.own_in {p:zd}{nb:Nat}{m:List (BitVec 64)}{h1 h2:Int}{F E own:List Int}(h:LI p nb m h1 h2 F E own) {x:Int}(hx:x∈own):1<=x/\x<nb:=zrF.1 (h.all.subset (zJ7 _ hx))
structure CK (p:zd) (m:List (BitVec 64)) (c:zL):Prop where
 v:1<=c.PC->xy c.H<=xy (ld m c.Head)
 y:c.PC=2->c.Kind=2->ld m c.Head=c.H->c.Y=(ld m (zJ p+yr c.H)).toInt
 l:c.PC=2->c.Kind=1->ld m (zJ p+c.X)=BitVec.ofInt 64 (yr c.H)
structure Mv (p:zd) (nb:Nat) (X:List Int) (m m':List (BitVec 64)):Prop where
 hd:∀h,h=yc p\/h=zJ p->xy (ld m h)<=xy (ld m' h)/\(ld m' h=ld m h\/xy (ld m h)<xy (ld m' h))
 nx:∀x:Int,1<=x->x<nb->x∉X->ld m' (zJ p+x)=ld m (zJ p+x)
theorem Mv.refl (p:zd) (nb:Nat) (X:List Int) (m:List (BitVec 64)):Mv p nb X m m:=⟨fun h _=>⟨zJF _,.inl rfl⟩,fun _ _ _ _=>rfl⟩
theorem CK.mv {p:zd}{nb:Nat}{m m':List (BitVec 64)}{h1 h2:Int}{F E own X:List Int}{c:zL}(k:CK p m c) (L:LI p nb m h1 h2 F E own) (M:Mv p nb X m m') (hX:∀x∈X,x∈own)
  (hh:c.Head=h1\/c.Head=h2) (hn:1<=c.PC->c.Kind=2->1<=yr c.H/\yr c.H<nb) (hx:c.Kind=1->1<=c.X/\c.X<nb/\c.X∉X):CK p m' c:=by
 obtain ⟨m1,m2⟩:=M.hd c.Head (by rcases L.hs with g | g<;>rcases hh with hh | hh<;>rw [hh]<;>simp [g]);refine ⟨fun h=>zKG (k.v h) m1,fun h2 hk e=>?_,fun h2 hk=>?_⟩
 .have hv:=k.v (by omega);have e':ld m c.Head=c.H:=by
   rcases m2 with m2 | m2
   .rw [<-m2];exact e
   .rw [e] at m2;omega
  obtain ⟨n1,n2⟩:=hn (by omega) hk;rw [M.nx _ n1 n2 (fun hmem=>?_)]
  .exact k.y h2 hk e'
  .obtain ⟨f1,f2⟩:=L.notF (hX _ hmem);rcases hh with hh | hh
   .obtain ⟨t,ht,_⟩:=L.cF.head (by rw [<-hh,e'];omega);rw [<-hh,e'] at ht;exact f1 (by rw [ht];simp)
   .obtain ⟨t,ht,_⟩:=L.cE.head (by rw [<-hh,e'];omega);rw [<-hh,e'] at ht;exact f2 (by rw [ht];simp)
 .obtain ⟨x1,x2,x3⟩:=hx hk;rw [M.nx _ x1 x2 x3];exact k.l h2 hk
theorem LI.swap {p:zd}{nb:Nat}{m:List (BitVec 64)}{h1 h2:Int}{F E own:List Int}(h:LI p nb m h1 h2 F E own):LI p nb m h2 h1 E F own :=
 ⟨h.hs.elim (fun g=>.inr ⟨g.2,g.1⟩) (fun g=>.inl ⟨g.2,g.1⟩),h.cE,h.cF,(zKs.append_right own).trans h.all,h.len⟩
theorem zsc {p:zd}(hp:zD p) {m:List (BitVec 64)}{a x:Int}{v:BitVec 64}(ha:a=yc p\/a=zJ p) (hx:1<=x):ld (st m a v) (zJ p+x)=ld m (zJ p+x):=by
 have:=wE hp;exact yy (by omega)
theorem Chn.st_head {p:zd}(hp:zD p) {m:List (BitVec 64)}{nb:Nat}{a h:Int}{l:List Int}{v:BitVec 64}(ha:a=yc p\/a=zJ p) (c:Chn m (zJ p) nb h l):Chn (Go.Pe.G.st m a v) (zJ p) nb h l:=by
 have:=wE hp;exact c.st (fun x hx=>by have:=(c.mem x hx).1;omega)
theorem Mv.head {p:zd}(hp:zD p) {nb:Nat}{X:List Int}{m:List (BitVec 64)}{a:Int}{v:BitVec 64}(ha:a=yc p\/a=zJ p) (hv:xy (ld m a)<xy v):Mv p nb X m (st m a v):=by
 refine ⟨fun h hh=>?_,fun x hx _ _=>zsc hp ha hx⟩;by_cases e:a=h
 .subst e;rw [W6];split
  .exact ⟨by omega,.inr hv⟩
  .exact ⟨zJF _,.inl rfl⟩
 .rw [yy e];exact ⟨zJF _,.inl rfl⟩
theorem zzZ {p:zd}(hp:zD p) {nb:Nat}(hnb:nb<1000) {m:List (BitVec 64)}{h1 h2:Int}{F E own:List Int}(L:LI p nb m h1 h2 F E own) {c:zL}
  (hk:c.Kind=2) (hh:c.Head=h1) (hN:c.Next=zJ p) (ho:c.Out=0) (hpc:0<=c.PC/\c.PC<=2) (K:CK p m c) (hn:1<=c.PC->1<=yr c.H/\yr c.H<nb) (hv:xy (ld m h1)+1<4294967296) :
  ((zt m c).1=m/\(zt m c).2.Out≠1/\((zt m c).2.Out=2->F=[])/\CK p m (zt m c).2) \/
  (∃x F',F=x::F'/\(zt m c).2.Out=1/\(zt m c).2.X=x/\LI p nb (zt m c).1 h1 h2 F' E (x::own)/\Mv p nb [] m (zt m c).1/\xy (ld (zt m c).1 h1)=xy (ld m h1)+1/\ld (zt m c).1 h2=ld m h2):=by
 have hE:=wE hp;have hF:=ZR hp;have hd:h1=yc p\/h1=zJ p:=by rcases L.hs with g | g<;>simp [g]
 unfold zt;rw [zi];by_cases c0:c.PC=0
 .rw [zb c0];left;split
  .rename_i e;refine ⟨rfl,(by show (2:Int)≠1;decide),fun _=>?_,⟨fun _=>by rw [hh];exact zJF _,fun e2=>(by cases e2),fun e2=>(by cases e2)⟩⟩;have:=L.cF;rw [hh] at e;rw [e.2] at this;exact this.empty
  .refine ⟨rfl,by dsimp only;omega,fun e=>by dsimp only at e;omega,⟨fun _=>by rw [hh];exact zJF _,fun e2=>(by cases e2),fun e2=>(by cases e2)⟩⟩
 .rw [zc c0];by_cases c1:c.PC=1
  .rw [zb c1,zb hk];left;refine ⟨rfl,by dsimp only;omega,fun e=>by dsimp only at e;omega,⟨fun _=>K.v (by omega),fun _ _ _=>?_,fun _ e=>by dsimp only at e;omega⟩⟩;have:=hn (by omega);dsimp only;rw [hN,yT]
  .rw [zc c1];have c2:c.PC=2:=by omega
   simp only [zb hk];by_cases hs:0<=c.Head/\c.Head<m.length/\ld m c.Head=c.H
   .right;have n:=hn (by omega);have hsw:sw m c.Head c.H (xw (c.H >>> 32+1#64) c.Y)=(st m c.Head (xw (c.H >>> 32+1#64) c.Y),true):=by unfold sw;rw [zb hs]
    rw [hsw];have hc:=L.cF;rw [<-hh,hs.2.2] at hc;obtain ⟨t,ht,_,_,hct⟩:=hc.head (by omega);have hy:=K.y c2 hk hs.2.2;have hct':=hct;rw [<-hy] at hct';have y0:0<=c.Y/\c.Y<nb:=by
     cases t with
     | nil=>have e:c.Y=0:=hct';omega
     | cons z t=>have:=hct'.1;have:=hct'.2.1;have:=hct'.2.2.1;omega
    have vp:xy (xw (c.H >>> 32+1#64) c.Y)=xy c.H+1:=zBx c.H y0.1 (by omega) (by rw [<-hs.2.2,hh];exact hv);have hcH:xy c.H=xy (ld m h1):=by rw [<-hs.2.2,hh]
    have ld1:ld (st m h1 (xw (c.H >>> 32+1#64) c.Y)) h1=xw (c.H >>> 32+1#64) c.Y:=by rw [W6,zb ⟨rfl,by rw [<-hh];exact hs.1,by rw [<-hh];exact hs.2.1⟩]
    have h12:h1≠h2:=by rcases L.hs with g | g<;>omega
    refine ⟨yr c.H,t,ht,rfl,rfl,?_,?_,?_,?_⟩
    .rw [hh];refine ⟨L.hs,?_,?_,?_,by rw [Yk];exact L.len⟩
     .rw [ld1,zet _ y0.1 (by omega)];exact hct'.st_head hp hd
     .rw [yy h12];exact L.cE.st_head hp hd
     .refine List.Perm.trans ?_ L.all;rw [ht];show List.Perm (t++E++yr c.H::own) (yr c.H::(t++E++own));exact List.perm_middle
    .rw [hh];exact Mv.head hp hd (by rw [vp,hcH];omega)
    .rw [hh,ld1,vp,hcH]
    .rw [hh,yy h12]
   .left;have hsw:sw m c.Head c.H (xw (c.H >>> 32+1#64) c.Y)=(m,false):=by unfold sw;rw [zc hs]
    rw [hsw];refine ⟨rfl,by dsimp only;simp;omega,fun e=>by simp at e;omega,⟨fun e=>by simp at e,fun e=>by simp at e,fun e=>by simp at e⟩⟩
theorem zBV {n:Int}(h:0<=n) (h2:n<4294967296):(BitVec.ofInt 64 n).toInt=n:=toInt_ofInt h h2
theorem zoQ {N a b:Int}(h:N+a=N+b):b=a:=by omega
theorem zyK {p:zd}(hp:zD p) {nb:Nat}(hnb:nb<1000) {m:List (BitVec 64)}{h1 h2 b:Int}{F E o1 o2:List Int}(L:LI p nb m h1 h2 F E (o1++b::o2)) {c:zL}
  (hk:c.Kind=1) (hh:c.Head=h1) (hN:c.Next=zJ p) (hX:c.X=b) (ho:c.Out=0) (hpc:0<=c.PC/\c.PC<=2) (K:CK p m c) (hn:1<=c.PC->yr c.H<nb) (hv:xy (ld m h1)+1<4294967296) :
  ((zt m c).2.Out=0/\LI p nb (zt m c).1 h1 h2 F E (o1++b::o2)/\Mv p nb [b] m (zt m c).1/\CK p (zt m c).1 (zt m c).2/\(∀a,a<=zJ p->ld (zt m c).1 a=ld m a)) \/
  ((zt m c).2.Out=1/\LI p nb (zt m c).1 h1 h2 (b::F) E (o1++o2)/\Mv p nb [] m (zt m c).1/\xy (ld (zt m c).1 h1)=xy (ld m h1)+1/\(∀a,a<=zJ p->a≠h1->ld (zt m c).1 a=ld m a)):=by
 have hE:=wE hp;have hF:=ZR hp;have hd:h1=yc p\/h1=zJ p:=by rcases L.hs with g | g<;>simp [g]
 have hd2:h2=yc p\/h2=zJ p:=by rcases L.hs with g | g<;>simp [g]
 have hb:1<=b/\b<nb:=L.own_in (zJ7 _ (by simp));have hbn:=L.notF (x:=b) (zJ7 _ (by simp));have hlen:=L.len;have hk2: ¬c.Kind=2:=by omega
 unfold zt;rw [zi];by_cases c0:c.PC=0
 .rw [zb c0,zc (fun e=>hk2 e.1)];left;exact ⟨ho,L,Mv.refl _ _ _ _,⟨fun _=>by rw [hh];exact zJF _,fun e2=>(by cases e2),fun e2=>(by cases e2)⟩,fun _ _=>rfl⟩
 .rw [zc c0];by_cases c1:c.PC=1
  .rw [zb c1,zc hk2];left;have nn:=zm3 c.H;have ea:wc (c.Next+c.X)=zJ p+b:=by rw [hN,hX,yT]
   rw [ea];have hne:∀h,h=yc p\/h=zJ p->ld (st m (zJ p+b) (BitVec.ofInt 64 (yr c.H))) h=ld m h:=fun h hh=>yy (by omega);refine ⟨ho,⟨L.hs,?_,?_,L.all,by dsimp only;rw [Yk];exact hlen⟩,⟨fun h hh=>?_,fun x x1 x2 x3=>?_⟩,⟨fun _=>?_,fun _ e=>absurd e hk2,fun _ _=>?_⟩,fun a ha=>?_⟩
   .dsimp only;rw [hne _ hd];exact L.cF.st (fun x hx e=>hbn.1 (zoQ e▸hx))
   .dsimp only;rw [hne _ hd2];exact L.cE.st (fun x hx e=>hbn.2 (zoQ e▸hx))
   .dsimp only;rw [hne _ hh];exact ⟨zJF _,.inl rfl⟩
   .dsimp only;exact yy (fun e=>x3 (zKm.2 (zoQ e)))
   .dsimp only;rw [hh,hne _ hd,<-hh];exact K.v (by omega)
   .dsimp only;rw [hX,W6,zb ⟨rfl,by omega,by omega⟩]
   .dsimp only;exact yy (by omega)
  .rw [zc c1];have c2:c.PC=2:=by omega
   simp only [zc hk2];by_cases hs:0<=c.Head/\c.Head<m.length/\ld m c.Head=c.H
   .right;have n:=hn (by omega);have nn:=zm3 c.H;have hsw:sw m c.Head c.H (xw (c.H >>> 32+1#64) c.X)=(st m c.Head (xw (c.H >>> 32+1#64) c.X),true):=by unfold sw;rw [zb hs]
    rw [hsw];have hl:=K.l c2 hk;rw [hX] at hl;have vp:xy (xw (c.H >>> 32+1#64) c.X)=xy c.H+1:=zBx c.H (by omega) (by omega) (by rw [<-hs.2.2,hh];exact hv);have hcH:xy c.H=xy (ld m h1):=by rw [<-hs.2.2,hh]
    have ld1:ld (st m h1 (xw (c.H >>> 32+1#64) c.X)) h1=xw (c.H >>> 32+1#64) c.X:=by rw [W6,zb ⟨rfl,by rw [<-hh];exact hs.1,by rw [<-hh];exact hs.2.1⟩]
    have h12:h1≠h2:=by rcases L.hs with g | g<;>omega
    refine ⟨rfl,?_,?_,?_,fun a ha hne=>?_⟩
    .rw [hh];refine ⟨L.hs,?_,?_,?_,by dsimp only;rw [Yk];exact hlen⟩
     .dsimp only;rw [ld1,zet _ (by omega) (by omega),hX];refine ⟨rfl,hb.1,hb.2,?_⟩;rw [zsc hp hd hb.1,hl,zBV nn.1 nn.2];have:=L.cF;rw [<-hh,hs.2.2] at this;rw [<-hX,<-hh] at *;exact this.st_head hp hd
     .dsimp only;rw [yy h12];exact L.cE.st_head hp hd
     .refine List.Perm.trans ?_ L.all;show List.Perm (b::(F++E++(o1++o2))) (F++E++(o1++b::o2));rw [<-zJJ (F++E) o1 o2,<-zJJ (F++E) o1 (b::o2)];exact List.perm_middle.symm
    .rw [hh];exact Mv.head hp hd (by rw [vp,hcH];omega)
    .rw [hh];dsimp only;rw [ld1,vp,hcH]
    .rw [hh];exact yy (fun e=>hne e.symm)
   .left;have hsw:sw m c.Head c.H (xw (c.H >>> 32+1#64) c.X)=(m,false):=by unfold sw;rw [zc hs]
    rw [hsw];exact ⟨ho,L,Mv.refl _ _ _ _,⟨fun e=>(by simp at e),fun e=>(by simp at e),fun e=>(by simp at e)⟩,fun _ _=>rfl⟩
structure Gh where
 F:List Int
 E:List Int
 D:Int->List Int
 t:Int->Nat
 c:Int->Nat
def yF (s:za) (b:Int):List Int:=(s.Bins[b.toNat]?).getD []
def yE (p:zd) (s:za) (g:Gh):List Int:=g.F.flatMap (yF s)++(List.range p.Workers.toNat).flatMap (fun i:Nat=>g.D ((i:Int)+1))
structure SX (p:zd) (nb:Nat) (s:za) (g:Gh) (own:List Int) (k:Nat):Prop where
 S:SOk p nb s
 L:LI p nb s.M (yc p) (zJ p) g.F g.E own
 D:∀w,1<=w->w<=p.Workers->DQ p s.M w (g.t w) (g.D w) (g.c w)
 v:xy (ld s.M (yc p))<=k/\xy (ld s.M (zJ p))<=k
 dk:∀w,1<=w->w<=p.Workers->g.t w+(g.D w).length<=k+1000
inductive DFr (p:zd) (m m':List (BitVec 64)) (g g':Gh) (w:Int):Prop
 | same (e1:g'.t w=g.t w) (e2:g'.D w=g.D w) (e3:g'.c w=g.c w) (e4:∀a,zR p w<=a->a<zR p w+p.Cap+2->ld m' a=ld m a):DFr p m m' g g' w
 | stolen (x:Int) (e1:g'.t w=g.t w+1) (e2:g.D w=x::g'.D w) (e3:g'.c w=g.c w) (e4:∀a,zR p w<a->a<zR p w+p.Cap+2->ld m' a=ld m a):DFr p m m' g g' w
structure FX (p:zd) (nb:Nat) (X:List Int) (O:Int->Prop) (s s':za) (g g':Gh):Prop where
 mv:Mv p nb X s.M s'.M
 bn:∀b,1<=b->b∉X->s'.Bins[b.toNat]? =s.Bins[b.toNat]?
 dq:∀w,1<=w->w<=p.Workers->DFr p s.M s'.M g g' w\/(O w/\Dv (g.t w) (g.D w) (g'.t w) (g'.D w))
 fb:∀y∈g'.F,y∈g.F\/yF s' y≠[]
theorem DFr.dv {p:zd}{m m':List (BitVec 64)}{g g':Gh}{w:Int}(h:DFr p m m' g g' w):Dv (g.t w) (g.D w) (g'.t w) (g'.D w):=by
 cases h with
 | same t l c m=>rw [t,l];exact Dv.refl _ _
 | stolen x t l c m=>exact ⟨by omega,fun e=>by omega⟩
theorem FX.dv {p:zd}{nb:Nat}{X:List Int}{O:Int->Prop}{s s':za}{g g':Gh}(h:FX p nb X O s s' g g') {w:Int}(h1:1<=w) (h2:w<=p.Workers):Dv (g.t w) (g.D w) (g'.t w) (g'.D w):=by
 rcases h.dq w h1 h2 with h | h
 .exact h.dv
 .exact h.2
theorem FX.tk {p:zd}{nb:Nat}{X:List Int}{O:Int->Prop}{s s':za}{g g':Gh}(h:FX p nb X O s s' g g') {w:Int}(h1:1<=w) (h2:w<=p.Workers) {d:zg}(K:TK p s.M w (g.t w) (g.D w) d):TK p s'.M w (g'.t w) (g'.D w) d:=K.dv (h.dv h1 h2)
theorem FX.pk {p:zd}(hp:zD p) {nb:Nat}{X:List Int}{O:Int->Prop}{s s':za}{g g':Gh}(h:FX p nb X O s s' g g') {w:Int}(h1:1<=w) (h2:w<=p.Workers) (ho: ¬O w) {d:zg}(K:PK p s.M w (g.t w) (g.D w) (g.c w) d):PK p s'.M w (g'.t w) (g'.D w) (g'.c w) d:=by
 rcases h.dq w h1 h2 with h | h
 .cases h with
  | same t l c m=>rw [t,l,c];exact K.keep
  | stolen x t l c m=>rw [l] at K;rw [t,c];exact K.stolen hp ⟨h1,h2⟩
 .exact absurd h.1 ho
theorem FX.dk {p:zd}(hp:zD p) {nb:Nat}{X:List Int}{O:Int->Prop}{s s':za}{g g':Gh}(h:FX p nb X O s s' g g') {w:Int}(h1:1<=w) (h2:w<=p.Workers) (ho: ¬O w) {d:zg}(K:DK p s.M w (g.t w) (g.D w) (g.c w) d):DK p s'.M w (g'.t w) (g'.D w) (g'.c w) d:=by
 have hc:=hp.cap;rcases h.dq w h1 h2 with h | h
 .cases h with
  | same t l c m=>rw [t,l,c];exact K.keep hp (fun a h1 h2=>m a (by omega) h2)
  | stolen x t l c m =>
   rw [l] at K;have K':DK p s'.M w (g.t w) (x::g'.D w) (g.c w) d:=K.keep hp (fun a h1 h2=>m a (by omega) h2);rw [t,c];exact K'.stolen (m':=s'.M) (fun _ _=>rfl) hp
 .exact absurd h.1 ho
def wv (g:zB):List Int:=if g.Out=0/\(g.PC=6\/g.PC=7) then [g.Bin] else []
def yt (g:zB):List Int:=if g.Out=0/\3<=g.PC/\g.PC<=7 then [g.Obj] else []
structure GX (p:zd) (s:za) (gh:Gh) (g:zB):Prop where
 o:g.Out=0\/g.Out=1
 pc:0<=g.PC/\g.PC<=7
 md:1<=g.Mode/\g.Mode<=3
 ob:1<=g.Obj/\g.Obj<=64
 c0:g.Mode=1->g.Out=0->gh.c g.Who=0
 c5:g.PC=5->g.Out=0->g.C.Out=0/\(0<=g.C.PC/\g.C.PC<=2)/\CK p s.M g.C
 c7:g.PC=7->g.Out=0->g.C.Out=0/\(0<=g.C.PC/\g.C.PC<=2)/\g.C.X=g.Bin/\CK p s.M g.C/\s.Bins[g.Bin.toNat]? =some [g.Obj]
 d3:g.PC=3->g.Out=0->g.Mode=1/\g.D.X=g.Obj/\DK p s.M g.Who (gh.t g.Who) (gh.D g.Who) (gh.c g.Who) g.D
theorem GX.other {p:zd}(hp:zD p) {nb k:Nat}{s s':za}{gh gh':Gh}{X R:List Int}{O:Int->Prop}{o:zB}(Y:SX p nb s gh (X++R) k) (Fx:FX p nb X O s s' gh gh') (G:GX p s gh o) (M:MOk p nb o)
  (hR:∀x∈wv o,x∈R) (apart:o.Mode=1->¬O o.Who):GX p s' gh' o:=by
 have hsub:∀x∈X,x∈X++R:=fun x hx=>zJV _ hx;have hnd:=(zKP.1 Y.L.nodup).2.1;have hnot:∀x,x∈wv o->x∉X:=fun x hx hg=>(zKP.1 hnd).2.2 x hg x (hR x hx) rfl;refine ⟨G.o,G.pc,G.md,G.ob,fun h1 h0=>?_,fun h5 h0=>?_,fun h7 h0=>?_,fun h3 h0=>?_⟩
 .have hw:=M.who h1;rcases Fx.dq o.Who hw.1 hw.2 with h | h
  .cases h with
   | same t l c m=>rw [c];exact G.c0 h1 h0
   | stolen x t l c m=>rw [c];exact G.c0 h1 h0
  .exact absurd h.1 (apart h1)
 .obtain ⟨a,b,c⟩:=G.c5 h5 h0;obtain ⟨m1,m2,m3,m4,m5⟩:=M.c5 h5;exact ⟨a,b,c.mv Y.L Fx.mv hsub (.inr m2) (fun h _=>m4 h) (fun e=>by omega)⟩
 .obtain ⟨a,b,c,d,e⟩:=G.c7 h7 h0;obtain ⟨m1,m2,m3,m4,m5⟩:=M.c7 h7;have hown:o.Bin∈wv o:=by unfold wv;rw [zb ⟨h0,.inr h7⟩];simp
  have hno:=hnot _ hown;exact ⟨a,b,c,d.mv Y.L Fx.mv hsub (.inl m2) (fun _ e=>by omega) (fun _=>⟨m4.1,m4.2,by rw [c];exact hno⟩),by rw [Fx.bn o.Bin (by rw [<-c];exact m4.1) hno];exact e⟩
 .obtain ⟨a,b,c⟩:=G.d3 h3 h0;have hw:=M.who a;exact ⟨a,b,Fx.dk hp hw.1 hw.2 (apart a) c⟩
theorem zcx (m:List (BitVec 64)) {c:zL}(h:c.Out=0) (hpc:0<=c.PC/\c.PC<=2) (hk:c.Kind=1\/c.Kind=2) :
  ((zt m c).2.Out=0/\0<=(zt m c).2.PC/\(zt m c).2.PC<=2)\/(zt m c).2.Out=1\/((zt m c).2.Out=2/\c.Kind=2):=by
 unfold zt;rw [zi];split
 .dsimp only;split
  .rename_i e;exact .inr (.inr ⟨rfl,e.1⟩)
  .exact .inl ⟨h,by show (0:Int)<=1;decide,by show (1:Int)<=2;decide⟩
 split
 .split<;>exact .inl ⟨h,by show (0:Int)<=2;decide,by show (2:Int)<=2;decide⟩
 .dsimp only;generalize sw m c.Head c.H _=r;split
  .split<;>exact .inr (.inl rfl)
  .exact .inl ⟨h,by show (0:Int)<=0;decide,by show (0:Int)<=2;decide⟩
theorem znU (m:List (BitVec 64)) (c:zL):(zt m c).2.Kind=c.Kind/\(zt m c).2.Head=c.Head/\(zt m c).2.Next=c.Next/\(c.Kind=1->(zt m c).2.X=c.X):=by
 unfold zt;split
 .exact ⟨rfl,rfl,rfl,fun _=>rfl⟩
 split
 .dsimp only;split<;>exact ⟨rfl,rfl,rfl,fun _=>rfl⟩
 split
 .split<;>exact ⟨rfl,rfl,rfl,fun _=>rfl⟩
 .dsimp only;generalize sw m c.Head c.H _=r;split
  .split
   .rename_i e;exact ⟨rfl,rfl,rfl,fun e2=>by omega⟩
   .exact ⟨rfl,rfl,rfl,fun _=>rfl⟩
  .exact ⟨rfl,rfl,rfl,fun _=>rfl⟩
theorem SX.quiet {p:zd}{nb k:Nat}{s s':za}{g:Gh}{own:List Int}(X:SX p nb s g own k) (S':SOk p nb s') (hm:s'.M=s.M):SX p nb s' g own (k+1) :=
 ⟨S',by rw [hm];exact X.L,by rw [hm];exact X.D,by rw [hm];exact ⟨Nat.le_succ_of_le X.v.1,Nat.le_succ_of_le X.v.2⟩,fun w h1 h2=>by have:=X.dk w h1 h2;omega⟩
theorem FX.quiet {p:zd}{nb:Nat}{X:List Int}{O:Int->Prop}{s s':za}{g:Gh}(hm:s'.M=s.M) (hb:∀b,1<=b->b∉X->s'.Bins[b.toNat]? =s.Bins[b.toNat]?):FX p nb X O s s' g g :=
 ⟨by rw [hm];exact Mv.refl _ _ _ _,hb,fun _ _ _=>.inl (.same rfl rfl rfl (fun _ _ _=>by rw [hm])),fun _ h=>.inl h⟩
theorem Zd {p:zd}{s s':za}{g:Gh}(hb:s'.Bins=s.Bins):yE p s' g=yE p s g:=by
 unfold yE yF;rw [hb]
theorem vA {g:zB}(h:g.Out≠0\/(g.PC≠6/\g.PC≠7)):wv g=[]:=by unfold wv;rw [zi]
theorem zmg {g:zB}(h:g.Out=0) (h2:g.PC=6\/g.PC=7):wv g=[g.Bin]:=by unfold wv;rw [zb ⟨h,h2⟩]
theorem ZM {g:zB}(h:g.Out≠0\/g.PC<3\/7<g.PC):yt g=[]:=by unfold yt;rw [zi]
theorem uf {g:zB}(h:g.Out=0) (h2:3<=g.PC) (h3:g.PC<=7):yt g=[g.Obj]:=by unfold yt;rw [zb ⟨h,h2,h3⟩]
theorem GX.ask {p:zd}{s:za}{gh:Gh}{g:zB}(o:g.Out=0) (md:1<=g.Mode/\g.Mode<=3) (ob:1<=g.Obj/\g.Obj<=64) (c0:g.Mode=1->gh.c g.Who=0) (q:zd):GX p s gh (ziX q g) :=
 ⟨.inl o,⟨by show (0:Int)<=5;decide,by show (5:Int)<=7;decide⟩,md,ob,fun h _=>c0 h,
  fun _ _=>⟨rfl,⟨by show (0:Int)<=0;decide,by show (0:Int)<=2;decide⟩,⟨fun e=>absurd e (by show ¬(1:Int)<=0;decide),fun e=>absurd e (by show ¬(0:Int)=2;decide),fun e=>absurd e (by show ¬(0:Int)=2;decide)⟩⟩,
  fun e=>absurd e (by show ¬(5:Int)=7;decide),fun e=>absurd e (by show ¬(5:Int)=3;decide)⟩
theorem GX.plain {p:zd}{s:za}{gh:Gh}{g:zB}(o:g.Out=0\/g.Out=1) (pc:0<=g.PC/\g.PC<=7) (md:1<=g.Mode/\g.Mode<=3) (ob:1<=g.Obj/\g.Obj<=64) (c0:g.Mode=1->g.Out=0->gh.c g.Who=0) (h:g.Out≠0\/(g.PC≠3/\g.PC≠5/\g.PC≠7)):GX p s gh g :=
 ⟨o,pc,md,ob,c0,fun e e2=>by omega,fun e e2=>by omega,fun e e2=>by omega⟩
def zzz (g:zB) (w:Int):Prop:=g.Mode=1/\w=g.Who
def zsx (p:zd) (nb k:Nat) (R:List Int) (gh:Gh) (s:za) (g:zB) (s':za) (g':zB):Prop :=
 ∃gh',SX p nb s' gh' (wv g'++R) (k+1)/\GX p s' gh' g'/\FX p nb (wv g) (zzz g) s s' gh gh'/\(g.Mode=1->g.Out=0->gh'.c g.Who=0)/\(∀b∈gh'.F,b∈gh.F\/yF s' b≠[]) /\
  ∃N,List.Perm (yE p s' gh'++yt g') (N++(yE p s gh++yt g)) /\
   ((N=[]/\s'.T=s.T)\/(N=[g.Obj]/\¬(s.T.Marks|||bit g.Obj=s.T.Marks)/\s'.T={s.T with Marks:=s.T.Marks|||bit g.Obj}))
theorem zsx.quiet {p:zd}{nb k:Nat}{R:List Int}{gh:Gh}{s s':za}{g g':zB}(X:SX p nb s gh (wv g++R) k) (S':SOk p nb s') (hm:s'.M=s.M) (hb:s'.Bins=s.Bins) (hT:s'.T=s.T)
  (ho:wv g'=wv g) (hh:yt g'=yt g) (c0:g.Mode=1->g.Out=0->gh.c g.Who=0) (G':GX p s' gh g'):zsx p nb k R gh s g s' g' :=
 ⟨gh,by rw [ho];exact X.quiet S' hm,G',FX.quiet hm (fun _ _ _=>by rw [hb]),c0,fun _ h=>.inl h,[],by rw [Zd hb,hh];exact zJ2 _,.inl ⟨rfl,hT⟩⟩
theorem zrf (m:List (BitVec 64)) {c:zL}(hk:c.Kind=2) {a:Int}(ha:a≠c.Head):ld (zt m c).1 a=ld m a:=by
 unfold zt;split
 .rfl
 split
 .rfl
 split
 .rfl
 .dsimp only;unfold sw;split
  .exact yy (fun e=>ha e.symm)
  .rfl
theorem Chn.congr {m m':List (BitVec 64)}{N:Int}{nb:Nat}(hm:∀x:Int,1<=x->ld m' (N+x)=ld m (N+x)):∀ {l:List Int}{h:Int},Chn m N nb h l->Chn m' N nb h l
 | [],h,c=>c
 | y::l,h,c=>⟨c.1,c.2.1,c.2.2.1,by rw [hm y c.2.1];exact Chn.congr hm c.2.2.2⟩
theorem LI.low {p:zd}(hp:zD p) {nb:Nat}{m m':List (BitVec 64)}{h1 h2:Int}{F E own:List Int}(L:LI p nb m h1 h2 F E own) (hl:m'.length=m.length) (hm:∀a,yc p<=a->ld m' a=ld m a):LI p nb m' h1 h2 F E own:=by
 have hE:=wE hp;have h:h1=yc p\/h1=zJ p:=by rcases L.hs with g | g<;>simp [g]
 have h':h2=yc p\/h2=zJ p:=by rcases L.hs with g | g<;>simp [g]
 exact ⟨L.hs,by rw [hm h1 (by omega)];exact L.cF.congr (fun x hx=>hm _ (by omega)),by rw [hm h2 (by omega)];exact L.cE.congr (fun x hx=>hm _ (by omega)),L.all,by rw [hl];exact L.len⟩
theorem Mv.low {p:zd}(hp:zD p) {nb:Nat}{X:List Int}{m m':List (BitVec 64)}(hm:∀a,yc p<=a->ld m' a=ld m a):Mv p nb X m m':=by
 have hE:=wE hp;exact ⟨fun h hh=>by rw [hm h (by omega)];exact ⟨zJF _,.inl rfl⟩,fun x hx _ _=>hm _ (by omega)⟩
theorem zCx {p:zd}(hp:zD p) {v w:Int}(hv:1<=v/\v<=p.Workers) (hw:1<=w/\w<=p.Workers) (h:v≠w):zR p v+p.Cap+2<=zR p w\/zR p w+p.Cap+2<=zR p v:=by
 have hk:=hp.wk;have hc:=hp.cap;have h1:=(YQ hp hv.1 hv.2).1;have h2:=(YQ hp hw.1 hw.2).1;have hx:v=1\/v=2\/v=3:=by omega
 have hy:w=1\/w=2\/w=3:=by omega
 rw [h1,h2];rcases hx with rfl | rfl | rfl<;>rcases hy with rfl | rfl | rfl<;>omega
theorem zwD {p:zd}(hp:zD p) {w:Int}(hw:1<=w/\w<=p.Workers) {m m':List (BitVec 64)}(hm:∀a,(a<zR p w\/zR p w+p.Cap+2<=a)->ld m' a=ld m a):(∀a,yc p<=a->ld m' a=ld m a) /\
  ∀v,1<=v->v<=p.Workers->v≠w->∀a,zR p v<=a->a<zR p v+p.Cap+2->ld m' a=ld m a:=by
 have hd:=YQ hp hw.1 hw.2;refine ⟨fun a ha=>hm a (by omega),fun v h1 h2 hne a h3 h4=>hm a ?_⟩;have:=zCx hp ⟨h1,h2⟩ hw hne;omega
def Vs (g:Gh) (w:Int) (t:Nat) (l:List Int) (c:Nat):Gh:={g with D:=fun v=>if v=w then l else g.D v,t:=fun v=>if v=w then t else g.t v,c:=fun v=>if v=w then c else g.c v}
theorem Xv {g:Gh}{w v:Int}{t c:Nat}{l:List Int}(h:v≠w):(Vs g w t l c).D v=g.D v/\(Vs g w t l c).t v=g.t v/\(Vs g w t l c).c v=g.c v:=by
 unfold Vs;dsimp only;rw [zc h,zc h,zc h];exact ⟨rfl,rfl,rfl⟩
theorem wK {g:Gh}{w:Int}{t c:Nat}{l:List Int}:(Vs g w t l c).D w=l/\(Vs g w t l c).t w=t/\(Vs g w t l c).c w=c:=by
 unfold Vs;dsimp only;rw [zb rfl,zb rfl,zb rfl];exact ⟨rfl,rfl,rfl⟩
theorem SX.dq {p:zd}(hp:zD p) {nb k:Nat}{s s':za}{g:Gh}{own:List Int}(X:SX p nb s g own k) (S':SOk p nb s') (hl:s'.M.length=s.M.length) {w:Int}(hw:1<=w/\w<=p.Workers)
  (hm:∀a,(a<zR p w\/zR p w+p.Cap+2<=a)->ld s'.M a=ld s.M a) {t c:Nat}{l:List Int}(D:DQ p s'.M w t l c) (hk:t+l.length<=k+1+1000):SX p nb s' (Vs g w t l c) own (k+1):=by
 obtain ⟨h1,h2⟩:=zwD hp hw hm;have hE:=wE hp;refine ⟨S',X.L.low hp hl h1,fun v a b=>?_,?_,fun v a b=>?_⟩
 .by_cases e:v=w
  .subst e;rw [wK.1,wK.2.1,wK.2.2];exact D
  .rw [(Xv e).1,(Xv e).2.1,(Xv e).2.2];exact (X.D v a b).keep hp (h2 v a b e)
 .rw [h1 _ (by omega),h1 _ (by omega)];exact ⟨Nat.le_succ_of_le X.v.1,Nat.le_succ_of_le X.v.2⟩
 .by_cases e:v=w
  .subst e;rw [wK.1,wK.2.1];exact hk
  .rw [(Xv e).1,(Xv e).2.1];have:=X.dk v a b;omega
theorem FX.own {p:zd}(hp:zD p) {nb:Nat}{Y:List Int}{O:Int->Prop}{s s':za}{g:Gh}{w:Int}(hw:1<=w/\w<=p.Workers)
  (hm:∀a,(a<zR p w\/zR p w+p.Cap+2<=a)->ld s'.M a=ld s.M a) (hb:s'.Bins=s.Bins) {t c:Nat}{l:List Int}(hO:O w) (V:Dv (g.t w) (g.D w) t l):FX p nb Y O s s' g (Vs g w t l c):=by
 obtain ⟨h1,h2⟩:=zwD hp hw hm;refine ⟨Mv.low hp h1,fun b _ _=>by rw [hb],fun v a b=>?_,fun _ h=>.inl h⟩;by_cases e:v=w
 .subst e;right;rw [wK.1,wK.2.1];exact ⟨hO,V⟩
 .exact .inl (.same (Xv e).2.1 (Xv e).1 (Xv e).2.2 (h2 v a b e))
theorem wx {α β:Type}{f g:α->List β}:∀ {l:List α},(∀x∈l,f x=g x)->l.flatMap f=l.flatMap g
 | [],_=>rfl
 | a::l,h=>by rw [zKr,zKr,h a (by simp),wx (fun x hx=>h x (zJI _ hx))]
theorem zB0 {n:Nat}{i:Nat}(h:i<n):∃a b,List.range n=a++i::b/\i∉a/\i∉b:=by
 refine ⟨List.range i,(List.range (n-i-1)).map (fun j=>i+1+j),?_,by simp,by simp;omega⟩;have:n=i+(1+(n-i-1)):=by omega
 rw [this,List.range_add,List.range_add];simp [zKY,zKQ,Function.comp_def]
theorem zrW {p:zd}{s s':za}{g:Gh}(hb:s'.Bins=s.Bins) {w:Int}(hw:1<=w/\w<=p.Workers) {t c:Nat}{l:List Int}:∃a b,yE p s g=a++g.D w++b/\yE p s' (Vs g w t l c)=a++l++b:=by
 obtain ⟨a,b,e,ha,hb'⟩:=zB0 (n:=p.Workers.toNat) (i:=(w-1).toNat) (by omega);have ew:(((w-1).toNat:Nat):Int)+1=w:=by omega
 have ne:∀j:Nat,j≠(w-1).toNat->(j:Int)+1≠w:=fun j hj e=>hj (by omega);refine ⟨g.F.flatMap (yF s)++a.flatMap (fun i:Nat=>g.D ((i:Int)+1)),b.flatMap (fun i:Nat=>g.D ((i:Int)+1)),?_,?_⟩
 .unfold yE;rw [e,zKZ,zKr,ew];simp [zJJ]
 .unfold yE yF;rw [hb,e,zKZ,zKr,ew,wK.1];have h1:a.flatMap (fun i:Nat=>(Vs g w t l c).D ((i:Int)+1))=a.flatMap (fun i:Nat=>g.D ((i:Int)+1)):=by
   refine wx (fun j hj=>?_);exact (Xv (ne j (fun e=>ha (e▸hj)))).1
  have h2:b.flatMap (fun i:Nat=>(Vs g w t l c).D ((i:Int)+1))=b.flatMap (fun i:Nat=>g.D ((i:Int)+1)):=by
   refine wx (fun j hj=>?_);exact (Xv (ne j (fun e=>hb' (e▸hj)))).1
  rw [h1,h2];have hF:(Vs g w t l c).F=g.F:=rfl;rw [hF];simp [zJJ]
theorem Mv.weak {p:zd}{nb:Nat}{m m':List (BitVec 64)}(M:Mv p nb [] m m') (Y:List Int):Mv p nb Y m m':=⟨M.hd,fun x a b _=>M.nx x a b (by simp)⟩
theorem Mv.grow {p:zd}{nb:Nat}{X Y:List Int}{m m':List (BitVec 64)}(M:Mv p nb X m m') (h:∀x∈X,x∈Y):Mv p nb Y m m':=⟨M.hd,fun x a b c=>M.nx x a b (fun e=>c (h x e))⟩
theorem SX.chain {p:zd}(hp:zD p) {nb k:Nat}{s s':za}{g:Gh}{own own' F E:List Int}(X:SX p nb s g own k) (S':SOk p nb s') (hlow:∀a,a<yc p->ld s'.M a=ld s.M a) (L':LI p nb s'.M (yc p) (zJ p) F E own')
  (hv:xy (ld s'.M (yc p))<=k+1/\xy (ld s'.M (zJ p))<=k+1):SX p nb s' {g with F:=F,E:=E} own' (k+1) :=
 ⟨S',L',fun w h1 h2=>(X.D w h1 h2).keep hp (fun a h3 h4=>hlow a (by have:=YQ hp h1 h2;omega)),hv,fun w h1 h2=>by have:=X.dk w h1 h2;show g.t w+(g.D w).length<=_;omega⟩
theorem FX.chain {p:zd}(hp:zD p) {nb:Nat}{Y:List Int}{O:Int->Prop}{s s':za}{g:Gh}{F E:List Int}(M:Mv p nb Y s.M s'.M) (hb:s'.Bins=s.Bins) (hlow:∀a,a<yc p->ld s'.M a=ld s.M a) (hF:∀y∈F,y∈g.F\/yF s' y≠[]):FX p nb Y O s s' g {g with F:=F,E:=E} :=
 ⟨M,fun _ _ _=>by rw [hb],fun w h1 h2=>.inl (.same rfl rfl rfl (fun a h3 h4=>hlow a (by have:=YQ hp h1 h2;omega))),hF⟩
theorem SX.popE {p:zd}(hp:zD p) {nb k:Nat}{s:za}{g:Gh}{own:List Int}(X:SX p nb s g own k) (hk:k<4294960000) {c:zL}(kd:c.Kind=2) (hh:c.Head=zJ p) (hN:c.Next=zJ p) (ho:c.Out=0) (hpc:0<=c.PC/\c.PC<=2) (K:CK p s.M c)
  (hn:1<=c.PC->1<=yr c.H/\yr c.H<nb) (S':SOk p nb {s with M:=(zt s.M c).1}) :
  ((zt s.M c).1=s.M/\(zt s.M c).2.Out≠1/\CK p s.M (zt s.M c).2/\((zt s.M c).2.Out=2->g.E=[])) \/
  (∃x l,g.E=x::l/\(zt s.M c).2.Out=1/\(zt s.M c).2.X=x/\SX p nb {s with M:=(zt s.M c).1} {g with E:=l} (x::own) (k+1)/\∀Y O,FX p nb Y O s {s with M:=(zt s.M c).1} g {g with E:=l}):=by
 have hE:=wE hp;have hnb:=X.S.nbk;have hv:=X.v;have hcells:=fun a (ha:a≠c.Head)=>zrf s.M kd ha;rcases zzZ hp hnb.2 (L:=X.L.swap) kd hh hN ho hpc K hn (by omega) with ⟨a,b,e,d⟩ | ⟨x,l,a,b,e,d,f,v1,v2⟩
 .exact .inl ⟨a,b,d,e⟩
 .refine .inr ⟨x,l,a,b,e,X.chain hp S' (fun a ha=>hcells a (by omega)) d.swap ?_,fun Y O=>FX.chain hp (f.weak Y) rfl (fun a ha=>hcells a (by omega)) (fun _ h=>.inl h)⟩;rw [v2,v1];omega
theorem SX.popF {p:zd}(hp:zD p) {nb k:Nat}{s:za}{g:Gh}{own:List Int}(X:SX p nb s g own k) (hk:k<4294960000) {c:zL}(kd:c.Kind=2) (hh:c.Head=yc p) (hN:c.Next=zJ p) (ho:c.Out=0) (hpc:0<=c.PC/\c.PC<=2) (K:CK p s.M c)
  (hn:1<=c.PC->1<=yr c.H/\yr c.H<nb) (S':SOk p nb {s with M:=(zt s.M c).1}) :
  ((zt s.M c).1=s.M/\(zt s.M c).2.Out≠1/\CK p s.M (zt s.M c).2/\((zt s.M c).2.Out=2->g.F=[])) \/
  (∃x l,g.F=x::l/\(zt s.M c).2.Out=1/\(zt s.M c).2.X=x/\SX p nb {s with M:=(zt s.M c).1} {g with F:=l} (x::own) (k+1)/\∀Y O,FX p nb Y O s {s with M:=(zt s.M c).1} g {g with F:=l}):=by
 have hE:=wE hp;have hnb:=X.S.nbk;have hv:=X.v;have hcells:=fun a (ha:a≠c.Head)=>zrf s.M kd ha;rcases zzZ hp hnb.2 (L:=X.L) kd hh hN ho hpc K hn (by omega) with ⟨a,b,e,d⟩ | ⟨x,l,a,b,e,d,f,v1,v2⟩
 .exact .inl ⟨a,b,d,e⟩
 .refine .inr ⟨x,l,a,b,e,X.chain hp S' (fun a ha=>hcells a (by omega)) d ?_,fun Y O=>FX.chain hp (f.weak Y) rfl (fun a ha=>hcells a (by omega)) (fun y hy=>.inl (by rw [a];exact zJI _ hy))⟩;rw [v2,v1];omega
theorem SX.pushF {p:zd}(hp:zD p) {nb k:Nat}{s:za}{g:Gh}{o1 o2:List Int}{b:Int}(X:SX p nb s g (o1++b::o2) k) (hk:k<4294960000) {c:zL}(kd:c.Kind=1) (hh:c.Head=yc p) (hN:c.Next=zJ p) (hX:c.X=b) (ho:c.Out=0) (hpc:0<=c.PC/\c.PC<=2) (K:CK p s.M c)
  (hn:1<=c.PC->yr c.H<nb) (S':SOk p nb {s with M:=(zt s.M c).1}) :
  ((zt s.M c).2.Out=0/\SX p nb {s with M:=(zt s.M c).1} g (o1++b::o2) (k+1)/\CK p (zt s.M c).1 (zt s.M c).2/\(∀Y O,b∈Y->FX p nb Y O s {s with M:=(zt s.M c).1} g g)) \/
  ((zt s.M c).2.Out=1/\SX p nb {s with M:=(zt s.M c).1} {g with F:=b::g.F} (o1++o2) (k+1)/\(∀Y O,yF s b≠[]->FX p nb Y O s {s with M:=(zt s.M c).1} g {g with F:=b::g.F})):=by
 have hE:=wE hp;have hnb:=X.S.nbk;have hv:=X.v;rcases zyK hp hnb.2 (L:=X.L) kd hh hN hX ho hpc K hn (by omega) with ⟨a,l,d,e,f⟩ | ⟨a,l,d,e,f⟩
 .refine .inl ⟨a,X.chain hp S' (fun a ha=>f a (by omega)) l ?_,e,fun Y O hb=>FX.chain hp (d.grow (fun x hx=>by rw [zKm.1 hx];exact hb)) rfl (fun a ha=>f a (by omega)) (fun _ h=>.inl h)⟩;show xy (ld (zt s.M c).1 (yc p))<=_/\xy (ld (zt s.M c).1 (zJ p))<=_;rw [f _ (by omega),f _ (by omega)];omega
 .refine .inr ⟨a,X.chain hp S' (fun a ha=>f a (by omega) (by omega)) l ?_,fun Y O hb=>FX.chain hp (d.weak Y) rfl (fun a ha=>f a (by omega) (by omega)) (fun y hy=>(zJT.1 hy).elim (fun e=>.inr (by rw [e];exact hb)) .inl)⟩;show xy (ld (zt s.M c).1 (yc p))<=_/\xy (ld (zt s.M c).1 (zJ p))<=_;have f':=f (zJ p) (by omega) (by omega);rw [f'];omega
theorem SX.pushE {p:zd}(hp:zD p) {nb k:Nat}{s:za}{g:Gh}{o1 o2:List Int}{b:Int}(X:SX p nb s g (o1++b::o2) k) (hk:k<4294960000) {c:zL}(kd:c.Kind=1) (hh:c.Head=zJ p) (hN:c.Next=zJ p) (hX:c.X=b) (ho:c.Out=0) (hpc:0<=c.PC/\c.PC<=2) (K:CK p s.M c)
  (hn:1<=c.PC->yr c.H<nb) (S':SOk p nb {s with M:=(zt s.M c).1}) :
  ((zt s.M c).2.Out=0/\SX p nb {s with M:=(zt s.M c).1} g (o1++b::o2) (k+1)/\CK p (zt s.M c).1 (zt s.M c).2/\(∀Y O,b∈Y->FX p nb Y O s {s with M:=(zt s.M c).1} g g)) \/
  ((zt s.M c).2.Out=1/\SX p nb {s with M:=(zt s.M c).1} {g with E:=b::g.E} (o1++o2) (k+1)/\(∀Y O,FX p nb Y O s {s with M:=(zt s.M c).1} g {g with E:=b::g.E})):=by
 have hE:=wE hp;have hnb:=X.S.nbk;have hv:=X.v;rcases zyK hp hnb.2 (L:=X.L.swap) kd hh hN hX ho hpc K hn (by omega) with ⟨a,l,d,e,f⟩ | ⟨a,l,d,e,f⟩
 .refine .inl ⟨a,X.chain hp S' (fun a ha=>f a (by omega)) l.swap ?_,e,fun Y O hb=>FX.chain hp (d.grow (fun x hx=>by rw [zKm.1 hx];exact hb)) rfl (fun a ha=>f a (by omega)) (fun _ h=>.inl h)⟩;show xy (ld (zt s.M c).1 (yc p))<=_/\xy (ld (zt s.M c).1 (zJ p))<=_;rw [f _ (by omega),f _ (by omega)];omega
 .refine .inr ⟨a,X.chain hp S' (fun a ha=>f a (by omega) (by omega)) l.swap ?_,fun Y O=>FX.chain hp (d.weak Y) rfl (fun a ha=>f a (by omega) (by omega)) (fun _ h=>.inl h)⟩;show xy (ld (zt s.M c).1 (yc p))<=_/\xy (ld (zt s.M c).1 (zJ p))<=_;have f':=f (yc p) (by omega) (by omega);rw [f'];omega
theorem zI2 {p:zd}{s:za}{g:Gh}{b:Int}:yE p s {g with F:=b::g.F}=yF s b++yE p s g:=by
 unfold yE;simp [zJJ]
theorem zI0 {p:zd}{s:za}{g:Gh}{l:List Int}:yE p s {g with E:=l}=yE p s g:=rfl
theorem zGw {l:List Int}{t:Nat}{x:Int}:Dv t l t (l++[x]):=⟨zJF _,fun _ h=>⟨by simp,by cases l with | nil=>exact absurd rfl h | cons a l=>rfl⟩⟩
theorem zEm {p:zd}(hp:zD p) {nb k:Nat}{R:List Int}{gh:Gh}{s:za}{g:zB}(hk:k<4294960000) (X:SX p nb s gh (wv g++R) k) (M:MOk p nb g) (h5o:g.PC=5->g.C.Out≠1) (G:GX p s gh g) :
  zsx p nb k R gh s g (zy s g).1 (zy s g).2:=by
 have S':=(zsu hp X.S M h5o).1;have hP:=X.S.P;have hpc:=G.pc;have hmd:=G.md;have hob:=G.ob;revert S';unfold zy;by_cases h0:g.Out=0;rotate_left
 .rw [zb (.inl h0)];intro S';exact .quiet X S' rfl rfl rfl rfl rfl G.c0 G
 rw [zi];have hc0:g.Mode=1->gh.c g.Who=0:=fun h=>G.c0 h h0;by_cases p7:g.PC=7
 .rw [zb p7];obtain ⟨c1,c2,c3,c4,c5⟩:=G.c7 p7 h0;obtain ⟨m1,m2,m3,m4,m5⟩:=M.c7 p7;have eo:wv g=[g.Bin]:=zmg h0 (.inr p7);have eh:yt g=[g.Obj]:=uf h0 (by omega) (by omega);rw [eo] at X;intro S';have S':SOk p nb {s with M:=(zt s.M g.C).1}:=S';unfold zdR;dsimp only;rcases SX.pushF hp (o1:=[]) (o2:=R) (b:=g.Bin) X hk m1 m2 m3 c3 c1 c2 c4 m5 S' with ⟨a,b,c,d⟩ | ⟨a,b,d⟩
  .rw [a];rw [zc (by decide)];have hout:=zcx s.M c1 c2 (.inl m1);have hsame:=znU s.M g.C;have hpc':0<=(zt s.M g.C).2.PC/\(zt s.M g.C).2.PC<=2:=by omega
   refine ⟨gh,by rw [show wv {g with C:=(zt s.M g.C).2}=[g.Bin] from zmg h0 (.inr p7)];exact b,?_,by rw [eo];exact d _ _ (by simp),fun h _=>hc0 h,fun _ h=>.inl h,[],?_,.inl ⟨rfl,rfl⟩⟩
   .exact ⟨.inl h0,hpc,hmd,hob,fun h _=>hc0 h,fun e=>by have e:g.PC=5:=e;omega,fun _ _=>⟨a,hpc',(hsame.2.2.2 m1).trans c3,c,c5⟩,fun e=>by have e:g.PC=3:=e;omega⟩
   .rw [Zd rfl,show yt {g with C:=(zt s.M g.C).2}=[g.Obj] from uf h0 (by show (3:Int)<=g.PC;omega) (by show g.PC<=7;omega),eh];exact zJ2 _
  .rw [a,zb rfl];have e1:wv {g with C:=(zt s.M g.C).2,Out:=1}=[]:=vA (.inl (by show (1:Int)≠0;decide));have e2:yt {g with C:=(zt s.M g.C).2,Out:=1}=[]:=ZM (.inl (by show (1:Int)≠0;decide));refine ⟨{gh with F:=g.Bin::gh.F},by rw [e1];exact b,?_,by rw [eo];exact d _ _ (by unfold yF;rw [c5];exact List.cons_ne_nil _ _),fun h _=>hc0 h,fun y hy=>(zJT.1 hy).elim (fun e=>.inr (by rw [e];unfold yF;rw [show ({s with M:=(zt s.M g.C).1}:za).Bins=s.Bins from rfl,c5];exact List.cons_ne_nil _ _)) .inl,[],?_,.inl ⟨rfl,rfl⟩⟩
   .exact GX.plain (.inr rfl) hpc hmd hob (fun _ e=>by cases e) (.inl (by show (1:Int)≠0;decide))
   .rw [e2,eh,zI2,Zd rfl,zJE];have:yF {s with M:=(zt s.M g.C).1} g.Bin=[g.Obj]:=by unfold yF;rw [show ({s with M:=(zt s.M g.C).1}:za).Bins=s.Bins from rfl,c5];rfl
    rw [this];exact zKs
 rw [zc p7];by_cases p6:g.PC=6
 .rw [zb p6];have eo:wv g=[g.Bin]:=zmg h0 (.inl p6);have eh:yt g=[g.Obj]:=uf h0 (by omega) (by omega);have hb:=M.b6 p6;have hbl:=X.S.bins;intro S';unfold zzA;unfold zzA at S';have e1:wv {g with PC:=7,C:=⟨1,0,yc s.P,zJ s.P,0#64,g.Bin,0,0⟩}=[g.Bin]:=zmg h0 (.inr rfl);have hget:∀b,1<=b->b∉wv g->(s.Bins.set g.Bin.toNat [g.Obj])[b.toNat]? =s.Bins[b.toNat]? :=fun b b1 b2=>by
   rw [zKc];intro e;rw [eo] at b2;exact b2 (by rw [show b=g.Bin by omega];simp)
  refine ⟨gh,by rw [e1,<-eo];exact X.quiet S' rfl,?_,FX.quiet rfl hget,fun h _=>hc0 h,fun _ h=>.inl h,[],?_,.inl ⟨rfl,rfl⟩⟩
  .refine ⟨.inl h0,⟨by show (0:Int)<=7;decide,by show (7:Int)<=7;decide⟩,hmd,hob,fun h _=>hc0 h,fun e=>absurd e (by show ¬(7:Int)=5;decide),fun _ _=>⟨rfl,⟨by show (0:Int)<=0;decide,by show (0:Int)<=2;decide⟩,rfl,⟨fun e=>absurd e (by show ¬(1:Int)<=0;decide),fun e=>absurd e (by show ¬(0:Int)=2;decide),fun e=>absurd e (by show ¬(0:Int)=2;decide)⟩,?_⟩,fun e=>absurd e (by show ¬(7:Int)=3;decide)⟩;show (s.Bins.set g.Bin.toNat [g.Obj])[g.Bin.toNat]? =_;rw [zKV (by omega)]
  .rw [show yt {g with PC:=7,C:=⟨1,0,yc s.P,zJ s.P,0#64,g.Bin,0,0⟩}=[g.Obj] from uf h0 (by show (3:Int)<=7;decide) (by show (7:Int)<=7;decide),eh];have:yE p {s with Bins:=s.Bins.set g.Bin.toNat [g.Obj]} gh=yE p s gh:=by
    unfold yE;congr 1;refine wx (fun b hb=>?_);have hm:=X.L.cF.mem b hb;have hno:=(X.L.notF (x:=g.Bin) (by rw [eo];simp)).1;unfold yF;rw [show ({s with Bins:=s.Bins.set g.Bin.toNat [g.Obj]}:za).Bins=s.Bins.set g.Bin.toNat [g.Obj] from rfl,hget b hm.1 (by rw [eo];intro e;rw [zKm.1 e] at hb;exact hno hb)]
   rw [this];exact zJ2 _
 rw [zc p6];have eo:wv g=[]:=vA (.inr ⟨p6,p7⟩);by_cases p5:g.PC=5
 .rw [zb p5];obtain ⟨c1,c2,c3⟩:=G.c5 p5 h0;obtain ⟨m1,m2,m3,m4,m5⟩:=M.c5 p5;have eh:yt g=[g.Obj]:=uf h0 (by omega) (by omega);intro S';have S':SOk p nb {s with M:=(zt s.M g.C).1}:=S';unfold znq;dsimp only;rcases SX.popE hp X hk m1 m2 m3 c1 c2 c3 m4 S' with ⟨a,b,c,d⟩ | ⟨x,l,a,b,c,d,e⟩
  .rw [zc b];have hout:=zcx s.M c1 c2 (.inr m1);by_cases o2:(zt s.M g.C).2.Out=2
   .rw [zb o2];refine .quiet X S' a rfl rfl ?_ ?_ G.c0 (GX.ask h0 hmd hob hc0 _)
    .rw [eo];exact vA (.inr ⟨by show (5:Int)≠6;decide,by show (5:Int)≠7;decide⟩)
    .rw [eh];exact uf h0 (by show (3:Int)<=5;decide) (by show (5:Int)<=7;decide)
   .rw [zc o2];have hpc':(zt s.M g.C).2.Out=0/\0<=(zt s.M g.C).2.PC/\(zt s.M g.C).2.PC<=2:=by omega
    refine .quiet X S' a rfl rfl ?_ ?_ G.c0 ⟨.inl h0,hpc,hmd,hob,G.c0,fun _ _=>⟨hpc'.1,hpc'.2,by rw [show ({s with M:=(zt s.M g.C).1}:za).M=s.M from a];exact c⟩,fun e=>by have e:g.PC=7:=e;omega,fun e=>by have e:g.PC=3:=e;omega⟩
    .rw [eo];exact vA (.inr ⟨p6,p7⟩)
    .rw [eh];exact uf h0 (by show (3:Int)<=g.PC;omega) (by show g.PC<=7;omega)
  .rw [zb b];have e1:wv {g with PC:=6,C:=(zt s.M g.C).2,Bin:=(zt s.M g.C).2.X}=[x]:=by rw [<-c];exact zmg (g:={g with PC:=6,C:=(zt s.M g.C).2,Bin:=(zt s.M g.C).2.X}) h0 (.inl rfl)
   refine ⟨{gh with E:=l},by rw [e1];rw [eo] at d;exact d,?_,e _ _,fun h _=>hc0 h,fun _ h=>.inl h,[],?_,.inl ⟨rfl,rfl⟩⟩
   .exact GX.plain (.inl h0) ⟨by show (0:Int)<=6;decide,by show (6:Int)<=7;decide⟩ hmd hob (fun h _=>hc0 h) (.inr ⟨by show (6:Int)≠3;decide,by show (6:Int)≠5;decide,by show (6:Int)≠7;decide⟩)
   .rw [zI0,Zd rfl,eh,show yt {g with PC:=6,C:=(zt s.M g.C).2,Bin:=(zt s.M g.C).2.X}=[g.Obj] from uf h0 (by show (3:Int)<=6;decide) (by show (6:Int)<=7;decide)];exact zJ2 _
 rw [zc p5];by_cases p4:g.PC=4
 .rw [zb p4];intro S';refine .quiet X S' rfl rfl rfl ?_ ?_ G.c0 (GX.ask h0 hmd hob hc0 _)
  .rw [eo];exact vA (.inr ⟨by show (5:Int)≠6;decide,by show (5:Int)≠7;decide⟩)
  .rw [uf h0 (by omega) (by omega)];exact uf h0 (by show (3:Int)<=5;decide) (by show (5:Int)<=7;decide)
 rw [zc p4];by_cases p3:g.PC=3
 .rw [zb p3];obtain ⟨c1,c2,c3⟩:=G.d3 p3 h0;have hw:=M.who c1;have eh:yt g=[g.Obj]:=uf h0 (by omega) (by omega);have hdk:=X.dk g.Who hw.1 hw.2;have hlen:=X.L.len;have hE:=wE hp;have hc00:=c3.c0;have c3':=c3;rw [hc00] at c3';have D0:=X.D g.Who hw.1 hw.2;rw [hc00] at D0;obtain ⟨a,b,r⟩:=zyV hp hw (by omega) D0 c3' (by omega) (by rw [c2];omega);intro S';have S':SOk p nb {s with M:=(yP s.M g.D).1}:=S';unfold zm0;dsimp only;rcases r with ⟨r1,r2,r3⟩ | ⟨r1,r2⟩ | ⟨r1,r2⟩
  .rw [r1,zc (by decide),zc (by decide)];have e1:wv {g with D:=(yP s.M g.D).2}=[]:=vA (.inr ⟨p6,p7⟩);refine ⟨Vs gh g.Who (gh.t g.Who) (gh.D g.Who) 0,?_,?_,FX.own (O:=zzz g) (s:=s) (s':={s with M:=(yP s.M g.D).1}) (g:=gh) hp hw a rfl ⟨c1,rfl⟩ (Dv.refl _ _),fun _ _=>wK.2.2,fun _ h=>.inl h,[],?_,.inl ⟨rfl,rfl⟩⟩
   .rw [e1];rw [eo] at X;exact X.dq hp S' (zj5 _ _) hw a r2 (by omega)
   .refine ⟨.inl h0,hpc,hmd,hob,fun _ _=>wK.2.2,fun e=>by have e:g.PC=5:=e;omega,fun e=>by have e:g.PC=7:=e;omega,fun _ _=>⟨c1,b.trans c2,?_⟩⟩;show DK p (yP s.M g.D).1 g.Who ((Vs gh g.Who (gh.t g.Who) (gh.D g.Who) 0).t g.Who) _ _ _;rw [wK.1,wK.2.1,wK.2.2];exact r3
   .obtain ⟨u,v,f1,f2⟩:=zrW (p:=p) (s:=s) (s':={s with M:=(yP s.M g.D).1}) (g:=gh) rfl hw (t:=gh.t g.Who) (c:=0) (l:=gh.D g.Who);rw [f1,f2,eh,show yt {g with D:=(yP s.M g.D).2}=[g.Obj] from uf h0 (by show (3:Int)<=g.PC;omega) (by show g.PC<=7;omega)];exact zJ2 _
  .rw [r1,zc (by decide),zb rfl];have e1:wv (ziX s.P {g with D:=(yP s.M g.D).2})=[]:=vA (.inr ⟨by show (5:Int)≠6;decide,by show (5:Int)≠7;decide⟩);refine ⟨Vs gh g.Who (gh.t g.Who) (gh.D g.Who) 0,?_,?_,FX.own (O:=zzz g) (s:=s) (s':={s with M:=(yP s.M g.D).1}) (g:=gh) hp hw a rfl ⟨c1,rfl⟩ (Dv.refl _ _),fun _ _=>wK.2.2,fun _ h=>.inl h,[],?_,.inl ⟨rfl,rfl⟩⟩
   .rw [e1];rw [eo] at X;exact X.dq hp S' (zj5 _ _) hw a r2 (by omega)
   .exact GX.ask (g:={g with D:=(yP s.M g.D).2}) h0 hmd hob (fun _=>wK.2.2) _
   .obtain ⟨u,v,f1,f2⟩:=zrW (p:=p) (s:=s) (s':={s with M:=(yP s.M g.D).1}) (g:=gh) rfl hw (t:=gh.t g.Who) (c:=0) (l:=gh.D g.Who);rw [f1,f2,eh,show yt (ziX s.P {g with D:=(yP s.M g.D).2})=[g.Obj] from uf h0 (by show (3:Int)<=5;decide) (by show (5:Int)<=7;decide)];exact zJ2 _
  .rw [r1,zb rfl];have e1:wv {g with D:=(yP s.M g.D).2,Out:=1}=[]:=vA (.inl (by show (1:Int)≠0;decide));refine ⟨Vs gh g.Who (gh.t g.Who) (gh.D g.Who++[g.D.X]) 0,?_,?_,FX.own (O:=zzz g) (s:=s) (s':={s with M:=(yP s.M g.D).1}) (g:=gh) hp hw a rfl ⟨c1,rfl⟩ zGw,fun _ _=>wK.2.2,fun _ h=>.inl h,[],?_,.inl ⟨rfl,rfl⟩⟩
   .rw [e1];rw [eo] at X;exact X.dq hp S' (zj5 _ _) hw a r2 (by rw [zJN,zLr];omega)
   .exact GX.plain (.inr rfl) hpc hmd hob (fun _ e=>by cases e) (.inl (by show (1:Int)≠0;decide))
   .obtain ⟨u,v,f1,f2⟩:=zrW (p:=p) (s:=s) (s':={s with M:=(yP s.M g.D).1}) (g:=gh) rfl hw (t:=gh.t g.Who) (c:=0) (l:=gh.D g.Who++[g.D.X]);rw [f1,f2,eh,show yt {g with D:=(yP s.M g.D).2,Out:=1}=[] from ZM (.inl (by show (1:Int)≠0;decide)),c2,zJE,zJM];simp only [zJJ];refine zJP _ (zJP _ ?_);exact zKs
 rw [zc p3];by_cases p2:g.PC=2
 .rw [zb p2];intro S';refine .quiet X S' rfl rfl rfl ?_ ?_ G.c0 (GX.plain (.inr rfl) hpc hmd hob (fun _ e=>by cases e) (.inl (by show (1:Int)≠0;decide)))
  .rw [eo];exact vA (.inl (by show (1:Int)≠0;decide))
  .rw [ZM (g:=g) (.inr (.inl (by omega)))];exact ZM (.inl (by show (1:Int)≠0;decide))
 rw [zc p2];by_cases p1:g.PC=1
 .rw [zb p1];have eh:yt g=[]:=ZM (.inr (.inl (by omega)));intro S';unfold zm6;unfold zm6 at S';dsimp only at S' ⊢;by_cases hs:(shade s.T g.Obj).2=false
  .have eT:(shade s.T g.Obj).1=s.T:=by
    unfold shade at hs ⊢;split at hs
    .rename_i h1;rw [zb h1]
    .rename_i h1;split at hs
     .cases hs
     .rename_i h2;rw [zc h1,zc h2]
   rw [zb hs];refine .quiet X S' rfl rfl eT ?_ ?_ G.c0 (GX.plain (.inl h0) ⟨by show (0:Int)<=2;decide,by show (2:Int)<=7;decide⟩ hmd hob G.c0 (.inr ⟨by show (2:Int)≠3;decide,by show (2:Int)≠5;decide,by show (2:Int)≠7;decide⟩))
   .rw [eo];exact vA (.inr ⟨by show (2:Int)≠6;decide,by show (2:Int)≠7;decide⟩)
   .rw [eh];exact ZM (.inr (.inl (by show (2:Int)<3;decide)))
  .have eT: ¬(s.T.Marks|||bit g.Obj=s.T.Marks)/\(shade s.T g.Obj).1={s.T with Marks:=s.T.Marks|||bit g.Obj}:=by
    unfold shade at hs ⊢;split at hs
    .exact absurd rfl hs
    .rename_i h1;split at hs
     .rename_i h2;exact ⟨h1,by rw [zc h1,zb h2]⟩
     .exact absurd rfl hs
   rw [zc hs];have fin:∀g':zB,wv g'=[]->yt g'=[g.Obj]->GX p {s with T:=(shade s.T g.Obj).1} gh g'->zsx p nb k R gh s g {s with T:=(shade s.T g.Obj).1} g':=fun g' a b c =>
    ⟨gh,by rw [a,<-eo];exact X.quiet S' rfl,c,FX.quiet rfl (fun _ _ _=>rfl),fun h _=>hc0 h,fun _ h=>.inl h,[g.Obj],by rw [Zd rfl,b,eh,zJE];exact zKs,.inr ⟨rfl,eT.1,eT.2⟩⟩
   by_cases q1:g.Mode=1
   .rw [zb q1];have hw:=M.who q1;refine fin _ (vA (.inr ⟨by show (3:Int)≠6;decide,by show (3:Int)≠7;decide⟩)) (uf h0 (by show (3:Int)<=3;decide) (by show (3:Int)<=7;decide))
     ⟨.inl h0,⟨by show (0:Int)<=3;decide,by show (3:Int)<=7;decide⟩,hmd,hob,G.c0,fun e=>absurd e (by show ¬(3:Int)=5;decide),fun e=>absurd e (by show ¬(3:Int)=7;decide),fun _ _=>⟨q1,rfl,⟨rfl,by rw [hP],by rw [hP],rfl,hc0 q1,⟨by show (0:Int)<=0;decide,by show (0:Int)<=3;decide⟩,fun e=>absurd e (by show ¬(1:Int)<=0;decide),fun e=>absurd e (by show ¬(2:Int)<=0;decide),fun e=>absurd e (by show ¬(3:Int)<=0;decide)⟩⟩⟩
   rw [zc q1];by_cases q2:g.Mode=2
   .rw [zb q2];exact fin _ (vA (.inr ⟨by show (4:Int)≠6;decide,by show (4:Int)≠7;decide⟩)) (uf h0 (by show (3:Int)<=4;decide) (by show (4:Int)<=7;decide))
     (GX.plain (.inl h0) ⟨by show (0:Int)<=4;decide,by show (4:Int)<=7;decide⟩ hmd hob G.c0 (.inr ⟨by show (4:Int)≠3;decide,by show (4:Int)≠5;decide,by show (4:Int)≠7;decide⟩))
   .rw [zc q2];exact fin _ (vA (.inr ⟨by show (5:Int)≠6;decide,by show (5:Int)≠7;decide⟩)) (uf h0 (by show (3:Int)<=5;decide) (by show (5:Int)<=7;decide)) (GX.ask h0 hmd hob hc0 _)
 .rw [zc p1];intro S';refine .quiet X S' rfl rfl rfl ?_ ?_ G.c0 (GX.plain (.inl h0) ⟨by show (0:Int)<=1;decide,by show (1:Int)<=7;decide⟩ hmd hob G.c0 (.inr ⟨by show (1:Int)≠3;decide,by show (1:Int)≠5;decide,by show (1:Int)≠7;decide⟩))
  .rw [eo];exact vA (.inr ⟨by show (1:Int)≠6;decide,by show (1:Int)≠7;decide⟩)
  .rw [ZM (g:=g) (.inr (.inl (by omega)))];exact ZM (.inr (.inl (by show (1:Int)<3;decide)))
def wT (x:zk):List Int:=if x.PC=3\/x.PC=4 then [x.Bin] else if x.PC=6 then wv x.G else []
def Ua (s:za) (x:zk):List Int:=if x.PC=0 then Yd s.M x.D else if x.PC=3 then yF s x.Bin else if x.PC=5\/x.PC=8 then [x.Obj] else if x.PC=6 then x.Obj::yt x.G else []
def zW (s:za) (x:zk):List Int:=x.Batch++Ua s x
structure WX (p:zd) (s:za) (gh:Gh) (w:Int) (x:zk):Prop where
 c0:x.PC≠0->gh.c w=0
 bt:x.PC<=3->x.Batch=[]
 p0:x.PC=0->PK p s.M w (gh.t w) (gh.D w) (gh.c w) x.D
 p1:x.PC=1->TK p s.M x.Victim (gh.t x.Victim) (gh.D x.Victim) x.D
 p2:x.PC=2->x.C.Out=0/\(0<=x.C.PC/\x.C.PC<=2)/\CK p s.M x.C
 p4:x.PC=4->x.C.Out=0/\(0<=x.C.PC/\x.C.PC<=2)/\x.C.X=x.Bin/\CK p s.M x.C
 p6:x.PC=6->GX p s gh x.G/\x.G.Mode=1/\x.G.Who=w/\x.G.Out=0
theorem WX.plain {p:zd}{s:za}{gh:Gh}{w:Int}{x:zk}(h:x.PC=5\/x.PC=7\/x.PC=8\/x.PC=9) (c:gh.c w=0):WX p s gh w x :=
 ⟨fun _=>c,fun e=>by omega,fun e=>by omega,fun e=>by omega,fun e=>by omega,fun e=>by omega,fun e=>by omega⟩
theorem CK.start {p:zd}{m:List (BitVec 64)}{k h x:Int}:CK p m ⟨k,0,h,zJ p,0#64,x,0,0⟩ :=
 ⟨fun e=>absurd e (by show ¬(1:Int)<=0;decide),fun e=>absurd e (by show ¬(0:Int)=2;decide),fun e=>absurd e (by show ¬(0:Int)=2;decide)⟩
theorem WX.begin {p:zd}{s:za}{gh:Gh}{w:Int}{x:zk}(c:gh.c w=0) (hb:x.Batch=[]):WX p s gh w (UI p w x):=by
 refine ⟨fun e=>absurd rfl e,fun _=>hb,fun _=>⟨rfl,rfl,rfl,rfl,⟨by show (0:Int)<=0;decide,by show (0:Int)<=6;decide⟩,fun _=>c,?_,?_,?_,?_,?_,?_,?_,?_⟩,fun e=>(by cases e),fun e=>(by cases e),fun e=>(by cases e),fun e=>(by cases e)⟩
 all_goals (intro e;first | (exact absurd e (by show ¬((0:Int)=2\/(4:Int)<=0);decide)) | (exact absurd e (by show ¬(0:Int)=3;decide)) | (exact absurd e (by show ¬(0:Int)=4;decide)) | (exact absurd e (by show ¬((0:Int)=3\/(0:Int)=4);decide)) | (exact absurd e (by show ¬(5:Int)<=0;decide)) | skip)
 rcases e with e | e | e | e
 .exact absurd e (by show ¬(0:Int)=1;decide)
 .exact absurd e (by show ¬(0:Int)=2;decide)
 .exact absurd e (by show ¬(4:Int)<=0;decide)
 .exact absurd e.1 (by show ¬(0:Int)=3;decide)
theorem zjW {p:zd}{s:za}{w:Int}{x:zk}:Ua s (UI p w x)=[]:=by
 unfold Ua;rw [zb (show (UI p w x).PC=0 from rfl)];exact ua (.inl (by show (0:Int)≠3;decide)) (by show (0:Int)≠6;decide)
theorem WX.look {p:zd}{s:za}{gh:Gh}{w:Int}{x:zk}(c:gh.c w=0) (hb:x.Batch=[]):WX p s gh w (Z3 p w x)/\Ua s (Z3 p w x)=[]/\wT (Z3 p w x)=[]:=by
 unfold Z3;split
 .refine ⟨⟨fun _=>c,fun _=>hb,fun e=>(by cases e),fun e=>(by cases e),fun _=>⟨rfl,⟨by show (0:Int)<=0;decide,by show (0:Int)<=2;decide⟩,CK.start⟩,fun e=>(by cases e),fun e=>(by cases e)⟩,?_,?_⟩
  .unfold Ua;rw [zc (by show ¬(2:Int)=0;decide),zc (by show ¬(2:Int)=3;decide),zc (by show ¬((2:Int)=5\/(2:Int)=8);decide),zc (by show ¬(2:Int)=6;decide)]
  .unfold wT;rw [zc (by show ¬((2:Int)=3\/(2:Int)=4);decide),zc (by show ¬(2:Int)=6;decide)]
 .refine ⟨⟨fun _=>c,fun _=>hb,fun e=>(by cases e),fun _=>⟨rfl,rfl,rfl,rfl,⟨by show (0:Int)<=0;decide,by show (0:Int)<=3;decide⟩,fun e=>absurd e (by show ¬(1:Int)<=0;decide),fun e=>absurd e (by show ¬(2:Int)<=0;decide),fun e=>absurd e (by show ¬(0:Int)=3;decide)⟩,fun e=>(by cases e),fun e=>(by cases e),fun e=>(by cases e)⟩,?_,?_⟩
  .unfold Ua;rw [zc (by show ¬(1:Int)=0;decide),zc (by show ¬(1:Int)=3;decide),zc (by show ¬((1:Int)=5\/(1:Int)=8);decide),zc (by show ¬(1:Int)=6;decide)]
  .unfold wT;rw [zc (by show ¬((1:Int)=3\/(1:Int)=4);decide),zc (by show ¬(1:Int)=6;decide)]
theorem WX.other {p:zd}(hp:zD p) {nb k:Nat}{s s':za}{gh gh':Gh}{X R:List Int}{O:Int->Prop}{w:Int}{x:zk}(hw:1<=w/\w<=p.Workers) (Y:SX p nb s gh (X++R) k) (Fx:FX p nb X O s s' gh gh') (K:WX p s gh w x) (W:WOk p nb w x)
  (hR:∀b∈wT x,b∈R) (apart: ¬O w):WX p s' gh' w x/\zW s' x=zW s x:=by
 have hsub:∀b∈X,b∈X++R:=fun b hb=>zJV _ hb;have hnd:=(zKP.1 Y.L.nodup).2.1;have hnot:∀b,b∈wT x->b∉X:=fun b hb hg=>(zKP.1 hnd).2.2 b hg b (hR b hb) rfl;have hc:gh'.c w=gh.c w:=by
  rcases Fx.dq w hw.1 hw.2 with h | h
  .cases h with
   | same e1 e2 e3 e4=>exact e3
   | stolen y e1 e2 e3 e4=>exact e3
  .exact absurd h.1 apart
 have hcell:∀a,zR p w<a->a<zR p w+p.Cap+2->ld s'.M a=ld s.M a:=by
  rcases Fx.dq w hw.1 hw.2 with h | h
  .cases h with
   | same e1 e2 e3 e4=>exact fun a h1 h2=>e4 a (by omega) h2
   | stolen y e1 e2 e3 e4=>exact e4
  .exact absurd h.1 apart
 refine ⟨⟨fun e=>hc.trans (K.c0 e),K.bt,fun e=>Fx.pk hp hw.1 hw.2 apart (K.p0 e),fun e=>Fx.tk W.vic.1 W.vic.2 (K.p1 e),fun e=>?_,fun e=>?_,fun e=>?_⟩,?_⟩
 .obtain ⟨a,b,c⟩:=K.p2 e;have C:=W.c2 e;exact ⟨a,b,c.mv Y.L Fx.mv hsub (.inl C.h) (fun h _=>C.v h) (fun e2=>by have:=C.k;omega)⟩
 .obtain ⟨a,b,c,d⟩:=K.p4 e;have C:=W.c4 e;have hno:=hnot x.Bin (by unfold wT;rw [zb (.inr e)];simp);exact ⟨a,b,c,d.mv Y.L Fx.mv hsub (.inr C.h) (fun _ e2=>by have:=C.k;omega) (fun _=>⟨C.x.1,C.x.2,by rw [c];exact hno⟩)⟩
 .obtain ⟨a,b,c,d⟩:=K.p6 e;have M:=(W.g6 e).1;refine ⟨a.other hp Y Fx M (fun y hy=>hR y ?_) (fun _=>by rw [c];exact apart),b,c,d⟩;unfold wT;rw [zi,zb e];exact hy
 .unfold zW Ua;congr 1;by_cases e0:x.PC=0
  .rw [zb e0,zb e0];have P:=K.p0 e0;unfold Yd;have hpl:=(zuk hp hw.1 hw.2 P.base P.size (x.D.B-1#64)).2;rw [hcell _ (by rw [P.base] at hpl;omega) (by rw [P.base] at hpl;omega)]
  .rw [zc e0,zc e0];by_cases e3:x.PC=3
   .rw [zb e3,zb e3];have hb:=W.b3 e3;have hno:=hnot x.Bin (by unfold wT;rw [zb (.inl e3)];simp);unfold yF;rw [Fx.bn x.Bin hb.1 hno]
   .rw [zc e3,zc e3]
theorem zBs (s:za) (b:Int):VL s b=yF s b:=by unfold VL yF;rw [zJD]
theorem FX.mono {p:zd}{nb:Nat}{X:List Int}{O O':Int->Prop}{s s':za}{g g':Gh}(h:FX p nb X O s s' g g') (i:∀v,O v->O' v):FX p nb X O' s s' g g' :=
 ⟨h.mv,h.bn,fun v a b=>(h.dq v a b).imp id (fun e=>⟨i v e.1,e.2⟩),h.fb⟩
theorem ur {x:zk}(h3:x.PC≠3) (h4:x.PC≠4) (h6:x.PC≠6):wT x=[]:=by unfold wT;rw [zi,zc h6]
theorem zk4 {x:zk}(h:x.PC=3\/x.PC=4):wT x=[x.Bin]:=by unfold wT;rw [zb h]
theorem zAB {x:zk}(h:x.PC=6):wT x=wv x.G:=by unfold wT;rw [zi,zb h]
theorem zFi {s:za}{x:zk}(h:x.PC=0):Ua s x=Yd s.M x.D:=by unfold Ua;rw [zb h]
theorem zEA {s:za}{x:zk}(h:x.PC=3):Ua s x=yF s x.Bin:=by unfold Ua;rw [zi,zb h]
theorem WI {s:za}{x:zk}(h:x.PC=5\/x.PC=8):Ua s x=[x.Obj]:=by unfold Ua;rw [zi,zi,zb h]
theorem zv3 {s:za}{x:zk}(h:x.PC=6):Ua s x=x.Obj::yt x.G:=by unfold Ua;rw [zi,zi,zi,zb h]
theorem YP {s:za}{x:zk}(h:x.PC=1\/x.PC=2\/x.PC=4\/x.PC=7\/x.PC=9):Ua s x=[]:=by unfold Ua;rw [zi,zi,zi,zi]
def zl6 (p:zd) (nb k:Nat) (R:List Int) (gh:Gh) (s:za) (w:Int) (x:zk) (s':za) (x':zk):Prop :=
 ∃gh',SX p nb s' gh' (wT x'++R) (k+1)/\WX p s' gh' w x'/\FX p nb (wT x) (fun v=>v=w) s s' gh gh' /\
  ∃N B,List.Perm (yE p s' gh'++zW s' x'++B) (N++(yE p s gh++zW s x)) /\
   ((N=[]/\B=[]/\s'.T=s.T)\/(N=[x.G.Obj]/\B=[]/\x.PC=6/\¬(s.T.Marks|||bit x.G.Obj=s.T.Marks)/\s'.T={s.T with Marks:=s.T.Marks|||bit x.G.Obj})\/(N=[]/\B=[x.Obj]/\x.PC=8/\s'.T=yX s.T x.Obj))
theorem zl6.quiet {p:zd}{nb k:Nat}{R:List Int}{gh:Gh}{s s':za}{w:Int}{x x':zk}(X:SX p nb s gh (wT x++R) k) (S':SOk p nb s') (hm:s'.M=s.M) (hb:s'.Bins=s.Bins) (hT:s'.T=s.T)
  (ho:wT x'=wT x) (hh:List.Perm (zW s' x') (zW s x)) (W':WX p s' gh w x'):zl6 p nb k R gh s w x s' x' :=
 ⟨gh,by rw [ho];exact X.quiet S' hm,W',FX.quiet hm (fun _ _ _=>by rw [hb]),[],[],by rw [Zd hb,zJE];exact zJP _ hh,.inl ⟨rfl,rfl,hT⟩⟩
theorem zJf {p:zd}(hp:zD p) {nb k:Nat}{R:List Int}{gh:Gh}{s:za}{w:Int}{x:zk}(hk:k<4294960000) (hw:1<=w/\w<=p.Workers) (X:SX p nb s gh (wT x++R) k) (W:WOk p nb w x) (K:WX p s gh w x)
  (hH:∀o i,0<=zN s.H o i/\zN s.H o i<=64):zl6 p nb k R gh s w x (zu s w x).1 (zu s w x).2:=by
 have S':=(zCU hp hw X.S W).1;have hP:=X.S.P;have eL:∀y,Z3 s.P w y=Z3 p w y:=fun y=>by rw [hP]
 have eB:∀y,UI s.P w y=UI p w y:=fun y=>by rw [hP]
 have eC:zcJ s.P (zJ s.P) x.Bin=zcJ p (zJ p) x.Bin:=by rw [hP]
 have hpc:=W.pc;have hlen:=X.L.len;have hE:=wE hp;revert S';unfold zu;by_cases p01:x.PC=0\/x.PC=1
 .rw [zb p01];intro S';have S':SOk p nb {s with M:=(z3 s.M x.D).1}:=S';have hl:=(znS s.M x.D).1;have eo:wT x=[]:=ur (by omega) (by omega) (by omega);have hbt:=K.bt (by omega);rw [eo] at X;dsimp only;by_cases p0:x.PC=0
  .have K0:=K.p0 p0;have D0:=X.D w hw.1 hw.2;have hdk:=X.dk w hw.1 hw.2;obtain ⟨t',l',c',D',hm,V,hle,r⟩:=zAq hp hw (by omega) D0 K0;have hc:=hp.cap;have hm':∀a,(a<zR p w\/zR p w+p.Cap+2<=a)->ld (z3 s.M x.D).1 a=ld s.M a:=fun a ha=>hm a (by omega) (by omega);have X':=X.dq hp S' hl hw hm' D' (by omega);have Fx:FX p nb (wT x) (fun v=>v=w) s {s with M:=(z3 s.M x.D).1} gh (Vs gh w t' l' c'):=FX.own (O:=fun v=>v=w) (s:=s) (s':={s with M:=(z3 s.M x.D).1}) (g:=gh) hp hw hm' rfl rfl V;obtain ⟨u,v,f1,f2⟩:=zrW (p:=p) (s:=s) (s':={s with M:=(z3 s.M x.D).1}) (g:=gh) rfl hw (t:=t') (c:=c') (l:=l');have fin:∀x':zk,wT x'=[]->WX p {s with M:=(z3 s.M x.D).1} (Vs gh w t' l' c') w x'->List.Perm (l'++zW {s with M:=(z3 s.M x.D).1} x') (gh.D w++zW s x)->zl6 p nb k R gh s w x {s with M:=(z3 s.M x.D).1} x':=by
    intro x' a b c;refine ⟨_,by rw [a];exact X',b,Fx,[],[],?_,.inl ⟨rfl,rfl,rfl⟩⟩;rw [f1,f2,zJE,zJM];simp only [zJJ];refine zJP _ ?_;refine (zKh l' v _).trans (List.Perm.trans ?_ (zKh v (gh.D w) _));exact zJP _ c
   have hh:zW s x=Yd s.M x.D:=by unfold zW;rw [hbt,zFi p0,zJM]
   rw [hh] at fin;rcases r with ⟨r1,r2,r3⟩ | ⟨r1,r2,r3⟩ | ⟨r1,r2,r3,r4,r5⟩
   .rw [r1,zc (by decide),zc (by decide)];refine fin _ (ur (by show x.PC≠3;omega) (by show x.PC≠4;omega) (by show x.PC≠6;omega)) ⟨fun e=>absurd p0 e,fun _=>hbt,fun _=>?_,fun e=>by have e:x.PC=1:=e;omega,fun e=>by have e:x.PC=2:=e;omega,fun e=>by have e:x.PC=4:=e;omega,fun e=>by have e:x.PC=6:=e;omega⟩ ?_
    .rw [wK.1,wK.2.1,wK.2.2];exact r2
    .unfold zW;rw [zFi (x:={x with D:=(z3 s.M x.D).2}) p0];show List.Perm (l'++(x.Batch++Yd (z3 s.M x.D).1 (z3 s.M x.D).2)) _;rw [hbt,zJM];exact r3
   .rw [r1,zb rfl];refine fin _ (ur (by show (5:Int)≠3;decide) (by show (5:Int)≠4;decide) (by show (5:Int)≠6;decide)) (WX.plain (.inl rfl) (by rw [wK.2.2];exact r2)) ?_;unfold zW;rw [WI (.inl rfl)];show List.Perm (l'++(x.Batch++[(z3 s.M x.D).2.X])) _;rw [hbt,zJM];exact r3
   .rw [r1,zc (by decide),zb (.inl rfl),eL];obtain ⟨a,b,c⟩:=WX.look (p:=p) (s:={s with M:=(z3 s.M x.D).1}) (gh:=Vs gh w t' l' c') (w:=w) (x:={x with D:=(z3 s.M x.D).2}) (by rw [wK.2.2];exact r2) hbt;refine fin _ c a ?_;unfold zW;rw [b,r3,r4,r5,show (Z3 p w {x with D:=(z3 s.M x.D).2}).Batch=x.Batch by unfold Z3;split<;>rfl,hbt];exact zJ2 _
  .have p1:x.PC=1:=by omega
   have K1:=K.p1 p1;have hv:=W.vic;have hc0:=K.c0 p0;have D0:=X.D x.Victim hv.1 hv.2;have hdk:=X.dk x.Victim hv.1 hv.2;have hh:zW s x=[]:=by unfold zW;rw [hbt,YP (.inl p1)];rfl
   rcases zEa hp hv (by omega) D0 K1 with ⟨hm,r⟩ | ⟨y,l',e1,e2,e3,e4,e5⟩
   .have S2:=S';have q:∀x':zk,wT x'=[]->zW {s with M:=(z3 s.M x.D).1} x'=[]->WX p {s with M:=(z3 s.M x.D).1} gh w x'->zl6 p nb k R gh s w x {s with M:=(z3 s.M x.D).1} x' :=
     fun x' a b c=>.quiet (by rw [eo];exact X) S' hm rfl rfl (by rw [a,eo]) (by rw [b,hh]) c
    rcases r with ⟨r1,r2⟩ | r
    .rw [r1,zc (by decide),zc (by decide)];refine q _ (ur (by show x.PC≠3;omega) (by show x.PC≠4;omega) (by show x.PC≠6;omega)) ?_ ⟨fun _=>hc0,fun _=>hbt,fun e=>absurd e p0,fun _=>?_,fun e=>by have e:x.PC=2:=e;omega,fun e=>by have e:x.PC=4:=e;omega,fun e=>by have e:x.PC=6:=e;omega⟩
     .unfold zW;rw [YP (x:={x with D:=(z3 s.M x.D).2}) (.inl p1)];show x.Batch++[]=[]
      rw [hbt];rfl
     .show TK p (z3 s.M x.D).1 _ _ _ _;rw [hm];exact r2
    .rw [zi,zb r,eL];obtain ⟨a,b,c⟩:=WX.look (p:=p) (s:={s with M:=(z3 s.M x.D).1}) (gh:=gh) (w:=w) (x:={x with D:=(z3 s.M x.D).2}) hc0 hbt;refine q _ c ?_ a;unfold zW;rw [b,show (Z3 p w {x with D:=(z3 s.M x.D).2}).Batch=x.Batch by unfold Z3;split<;>rfl,hbt];rfl
   .have hc:=hp.cap;have hm':∀a,(a<zR p x.Victim\/zR p x.Victim+p.Cap+2<=a)->ld (z3 s.M x.D).1 a=ld s.M a:=fun a ha=>e5 a (by omega);have X':=X.dq hp S' hl hv hm' e4 (by rw [e1] at hdk;simp at hdk;omega);obtain ⟨h1,h2⟩:=zwD hp hv hm';obtain ⟨u,v,f1,f2⟩:=zrW (p:=p) (s:=s) (s':={s with M:=(z3 s.M x.D).1}) (g:=gh) rfl hv (t:=gh.t x.Victim+1) (c:=gh.c x.Victim) (l:=l');rw [e2,zb rfl];refine ⟨Vs gh x.Victim (gh.t x.Victim+1) l' (gh.c x.Victim),by rw [ur (by show (5:Int)≠3;decide) (by show (5:Int)≠4;decide) (by show (5:Int)≠6;decide)];exact X',WX.plain (.inl rfl) ?_,⟨Mv.low hp h1,fun _ _ _=>rfl,fun v' a b=>.inl ?_,fun _ h=>.inl h⟩,[],[],?_,.inl ⟨rfl,rfl,rfl⟩⟩
    .by_cases e:w=x.Victim
     .rw [e,wK.2.2,<-e];exact hc0
     .rw [(Xv e).2.2];exact hc0
    .by_cases e:v'=x.Victim
     .subst e;exact .stolen y wK.2.1 (by rw [wK.1];exact e1) wK.2.2 (fun a h1 _=>e5 a (by omega))
     .exact .same (Xv e).2.1 (Xv e).1 (Xv e).2.2 (h2 v' a b e)
    .rw [f1,f2,hh,zJE,zJE,zJM,e1];unfold zW;rw [WI (.inl rfl)];show List.Perm (u++l'++v++(x.Batch++[(z3 s.M x.D).2.X])) _;rw [hbt,zJM,e3];simp only [zJJ];refine zJP _ ?_;show List.Perm (l'++(v++[y])) (y::(l'++v));rw [<-zJJ];exact zKs
 rw [zc p01];have hc0:=K.c0 (by omega);by_cases p2:x.PC=2
 .rw [zb p2];intro S';have S':SOk p nb {s with M:=(zt s.M x.C).1}:=S';have C:=W.c2 p2;obtain ⟨c1,c2,c3⟩:=K.p2 p2;have hbt:=K.bt (by omega);have eo:wT x=[]:=ur (by omega) (by omega) (by omega);have hh:zW s x=[]:=by unfold zW;rw [hbt,YP (.inr (.inl p2))];rfl
  dsimp only;rcases SX.popF hp X hk C.k C.h C.n c1 c2 c3 C.v S' with ⟨a,b,c,d⟩ | ⟨y,l,a,b,c,d,e⟩
  .rw [zc b];have hout:=zcx s.M c1 c2 (.inr C.k);by_cases o2:(zt s.M x.C).2.Out=2
   .rw [zb o2,eB];refine .quiet X S' a rfl rfl ?_ ?_ (WX.begin hc0 hbt)
    .rw [eo];exact ur (by show (0:Int)≠3;decide) (by show (0:Int)≠4;decide) (by show (0:Int)≠6;decide)
    .unfold zW;rw [zjW,show (UI p w {x with C:=(zt s.M x.C).2}).Batch=x.Batch from rfl];rw [hbt,YP (.inr (.inl p2))]
   .rw [zc o2];have hpc':(zt s.M x.C).2.Out=0/\0<=(zt s.M x.C).2.PC/\(zt s.M x.C).2.PC<=2:=by omega
    refine .quiet X S' a rfl rfl ?_ ?_ ⟨fun _=>hc0,fun _=>hbt,fun e=>by have e:x.PC=0:=e;omega,fun e=>by have e:x.PC=1:=e;omega,fun _=>⟨hpc'.1,hpc'.2,?_⟩,fun e=>by have e:x.PC=4:=e;omega,fun e=>by have e:x.PC=6:=e;omega⟩
    .rw [eo];exact ur (by show x.PC≠3;omega) (by show x.PC≠4;omega) (by show x.PC≠6;omega)
    .unfold zW;rw [YP (x:={x with C:=(zt s.M x.C).2}) (.inr (.inl p2)),YP (.inr (.inl p2))]
    .rw [show ({s with M:=(zt s.M x.C).1}:za).M=s.M from a];exact c
  .rw [zb b];have e1:wT {x with C:=(zt s.M x.C).2,Bin:=(zt s.M x.C).2.X,PC:=3}=[y]:=by rw [<-c];exact zk4 (x:={x with C:=(zt s.M x.C).2,Bin:=(zt s.M x.C).2.X,PC:=3}) (.inl rfl)
   refine ⟨{gh with F:=l},by rw [e1];rw [eo] at d;exact d,⟨fun _=>hc0,fun _=>hbt,fun e=>(by cases e),fun e=>(by cases e),fun e=>(by cases e),fun e=>(by cases e),fun e=>(by cases e)⟩,e _ _,[],[],?_,.inl ⟨rfl,rfl,rfl⟩⟩;rw [hh,zJE,zJE,zJM];unfold zW;rw [zEA (x:={x with C:=(zt s.M x.C).2,Bin:=(zt s.M x.C).2.X,PC:=3}) rfl];show List.Perm (yE p s {gh with F:=l}++(x.Batch++yF s (zt s.M x.C).2.X)) _;rw [hbt,zJM,c];have:yE p s gh=yF s y++yE p s {gh with F:=l}:=by unfold yE;rw [a];simp [zJJ]
   rw [this];exact zKs
 rw [zc p2];by_cases p3:x.PC=3
 .rw [zb p3];intro S';have hb:=W.b3 p3;have hbt:=K.bt (by omega);have eo:wT x=[x.Bin]:=zk4 (.inl p3);rw [eC];have e1:wT {x with Batch:=VL s x.Bin,PC:=4,C:=zcJ p (zJ p) x.Bin}=[x.Bin]:=zk4 (x:={x with Batch:=VL s x.Bin,PC:=4,C:=zcJ p (zJ p) x.Bin}) (.inr rfl);have hget:∀b,1<=b->b∉wT x->(s.Bins.set x.Bin.toNat [])[b.toNat]? =s.Bins[b.toNat]? :=fun b b1 b2=>by
   rw [zKc];intro e;rw [eo] at b2;exact b2 (by rw [show b=x.Bin by omega];simp)
  refine ⟨gh,by rw [e1,<-eo];exact X.quiet S' rfl,⟨fun _=>hc0,fun e=>absurd e (by show ¬(4:Int)<=3;decide),fun e=>(by cases e),fun e=>(by cases e),fun e=>(by cases e),fun _=>⟨rfl,⟨by show (0:Int)<=0;decide,by show (0:Int)<=2;decide⟩,rfl,CK.start⟩,fun e=>(by cases e)⟩,FX.quiet rfl hget,[],[],?_,.inl ⟨rfl,rfl,rfl⟩⟩;have hbag:yE p {s with Bins:=s.Bins.set x.Bin.toNat []} gh=yE p s gh:=by
   unfold yE;congr 1;refine wx (fun b hb=>?_);have hm:=X.L.cF.mem b hb;have hno:=(X.L.notF (x:=x.Bin) (by rw [eo];simp)).1;unfold yF;rw [show ({s with Bins:=s.Bins.set x.Bin.toNat []}:za).Bins=s.Bins.set x.Bin.toNat [] from rfl,hget b hm.1 (by rw [eo];intro e;rw [zKm.1 e] at hb;exact hno hb)]
  rw [hbag,zJE,zJM];unfold zW;rw [zEA p3,YP (x:={x with Batch:=VL s x.Bin,PC:=4,C:=zcJ p (zJ p) x.Bin}) (.inr (.inr (.inl rfl)))];show List.Perm (yE p s gh++(VL s x.Bin++[])) _;rw [hbt,zJE,zJM,zBs]
 rw [zc p3];by_cases p4:x.PC=4
 .rw [zb p4];intro S';have S':SOk p nb {s with M:=(zt s.M x.C).1}:=S';have C:=W.c4 p4;obtain ⟨c1,c2,c3,c4⟩:=K.p4 p4;have eo:wT x=[x.Bin]:=zk4 (.inr p4);have hh:zW s x=x.Batch:=by unfold zW;rw [YP (.inr (.inr (.inl p4))),zJE]
  rw [eo] at X;dsimp only;rcases SX.pushE hp (o1:=[]) (o2:=R) (b:=x.Bin) X hk C.k C.h C.n c3 c1 c2 c4 C.v S' with ⟨a,b,c,d⟩ | ⟨a,b,d⟩
  .rw [a,zc (by decide)];have hout:=zcx s.M c1 c2 (.inl C.k);have hsame:=znU s.M x.C;have hpc':0<=(zt s.M x.C).2.PC/\(zt s.M x.C).2.PC<=2:=by omega
   have e1:wT {x with C:=(zt s.M x.C).2}=[x.Bin]:=zk4 (x:={x with C:=(zt s.M x.C).2}) (.inr p4);refine ⟨gh,by rw [e1];exact b,⟨fun _=>hc0,fun e=>by have e:x.PC<=3:=e;omega,fun e=>by have e:x.PC=0:=e;omega,fun e=>by have e:x.PC=1:=e;omega,fun e=>by have e:x.PC=2:=e;omega,fun _=>⟨a,hpc',(hsame.2.2.2 C.k).trans c3,c⟩,fun e=>by have e:x.PC=6:=e;omega⟩,by rw [eo];exact d _ _ (by simp),[],[],?_,.inl ⟨rfl,rfl,rfl⟩⟩;rw [Zd rfl,hh,zJE];unfold zW;rw [YP (x:={x with C:=(zt s.M x.C).2}) (.inr (.inr (.inl p4))),zJE];exact zJ2 _
  .rw [a,zb rfl];refine ⟨{gh with E:=x.Bin::gh.E},by rw [ur (by show (7:Int)≠3;decide) (by show (7:Int)≠4;decide) (by show (7:Int)≠6;decide)];exact b,WX.plain (.inr (.inl rfl)) hc0,by rw [eo];exact d _ _,[],[],?_,.inl ⟨rfl,rfl,rfl⟩⟩;rw [hh,zJE];unfold zW;rw [YP (.inr (.inr (.inr (.inl rfl)))),zJE];exact zJ2 _
 rw [zc p4];by_cases p5:x.PC=5
 .rw [zb p5];intro S';have eo:wT x=[]:=ur (by omega) (by omega) (by omega);have hv:=hH x.Obj x.Slot;dsimp only;split
  .rcases zlx s (wc (x.Slot+1)) with e | e<;>rw [e]
   .refine .quiet X S' rfl rfl rfl (by rw [eo];exact ur (by show (5:Int)≠3;decide) (by show (5:Int)≠4;decide) (by show (5:Int)≠6;decide)) ?_ (WX.plain (.inl rfl) hc0);unfold zW;rw [WI (.inl p5),WI (.inl rfl)]
   .refine .quiet X S' rfl rfl rfl (by rw [eo];exact ur (by show (8:Int)≠3;decide) (by show (8:Int)≠4;decide) (by show (8:Int)≠6;decide)) ?_ (WX.plain (.inr (.inr (.inl rfl))) hc0);unfold zW;rw [WI (.inl p5),WI (.inr rfl)]
  .rename_i hne;have e0:(Ym 1 (zN s.H x.Obj x.Slot) w).PC=0:=rfl;refine .quiet X S' rfl rfl rfl ?_ ?_ ⟨fun _=>hc0,fun e=>absurd e (by show ¬(6:Int)<=3;decide),fun e=>(by cases e),fun e=>(by cases e),fun e=>(by cases e),fun e=>(by cases e),fun _=>⟨GX.plain (.inl rfl) ⟨by show (0:Int)<=0;decide,by show (0:Int)<=7;decide⟩ ⟨by show (1:Int)<=1;decide,by show (1:Int)<=3;decide⟩ ⟨by show 1<=zN s.H x.Obj x.Slot;omega,hv.2⟩ (fun _ _=>hc0) (.inr ⟨by show (0:Int)≠3;decide,by show (0:Int)≠5;decide,by show (0:Int)≠7;decide⟩),rfl,rfl,rfl⟩⟩
   .rw [eo,zAB (x:={x with Slot:=wc (x.Slot+1),PC:=6,G:=Ym 1 (zN s.H x.Obj x.Slot) w}) rfl];exact vA (.inr ⟨by show (0:Int)≠6;decide,by show (0:Int)≠7;decide⟩)
   .unfold zW;rw [WI (.inl p5),zv3 (x:={x with Slot:=wc (x.Slot+1),PC:=6,G:=Ym 1 (zN s.H x.Obj x.Slot) w}) rfl];rw [ZM (g:=Ym 1 (zN s.H x.Obj x.Slot) w) (.inr (.inl (by show (0:Int)<3;decide)))]
 rw [zc p5];by_cases p6:x.PC=6
 .rw [zb p6];intro S';obtain ⟨G,gm,gw,g0⟩:=K.p6 p6;obtain ⟨M,h5o,_,hn4⟩:=W.g6 p6;have eo:wT x=wv x.G:=zAB p6;have hh:zW s x=x.Batch++x.Obj::yt x.G:=by unfold zW;rw [zv3 p6]
  rw [eo] at X;obtain ⟨gh',X',G',Fx,hc',hFb,N,hN,hT⟩:=zEm hp hk X M h5o G;have so:=zap s x.G;have Fx':FX p nb (wT x) (fun v=>v=w) s (zy s x.G).1 gh gh':=by
   rw [eo];exact Fx.mono (fun v e=>e.2.trans gw)
  have hcw:gh'.c w=0:=by have:=hc' gm g0;rwa [gw] at this
  dsimp only;have hT':(N=[]/\([]:List Int)=[]/\(zy s x.G).1.T=s.T)\/(N=[x.G.Obj]/\([]:List Int)=[]/\x.PC=6/\¬(s.T.Marks|||bit x.G.Obj=s.T.Marks)/\(zy s x.G).1.T={s.T with Marks:=s.T.Marks|||bit x.G.Obj})\/(N=[]/\([]:List Int)=[x.Obj]/\x.PC=8/\(zy s x.G).1.T=yX s.T x.Obj):=by
   rcases hT with ⟨a,b⟩ | ⟨a,b,c⟩
   .exact .inl ⟨a,rfl,b⟩
   .exact .inr (.inl ⟨a,rfl,p6,b,c⟩)
  have perm:∀H':List Int,H'=x.Batch++x.Obj::yt (zy s x.G).2->List.Perm (yE p (zy s x.G).1 gh'++H'++[]) (N++(yE p s gh++zW s x)):=by
   intro H' e;rw [e,hh,zJE];have a1:List.Perm (yE p (zy s x.G).1 gh'++(x.Batch++x.Obj::yt (zy s x.G).2)) ((x.Batch++[x.Obj])++(yE p (zy s x.G).1 gh'++yt (zy s x.G).2)):=by
    rw [show x.Batch++x.Obj::yt (zy s x.G).2=(x.Batch++[x.Obj])++yt (zy s x.G).2 by simp];exact zKh _ _ _
   have a2:List.Perm (N++(yE p s gh++(x.Batch++x.Obj::yt x.G))) ((x.Batch++[x.Obj])++(N++(yE p s gh++yt x.G))):=by
    rw [show x.Batch++x.Obj::yt x.G=(x.Batch++[x.Obj])++yt x.G by simp];exact (zJP N (zKh _ _ _)).trans (zKh _ _ _)
   exact a1.trans ((zJP _ hN).trans a2.symm)
  split
  .rename_i o1;have n1:wv (zy s x.G).2=[]:=vA (.inl (by omega));have n2:yt (zy s x.G).2=[]:=ZM (.inl (by omega));rw [n1] at X';rcases zlx s x.Slot with e | e<;>rw [e]
   .refine ⟨gh',by rw [ur (by show (5:Int)≠3;decide) (by show (5:Int)≠4;decide) (by show (5:Int)≠6;decide)];exact X',WX.plain (.inl rfl) hcw,Fx',N,[],perm _ ?_,hT'⟩;unfold zW;rw [WI (.inl rfl),n2]
   .refine ⟨gh',by rw [ur (by show (8:Int)≠3;decide) (by show (8:Int)≠4;decide) (by show (8:Int)≠6;decide)];exact X',WX.plain (.inr (.inr (.inl rfl))) hcw,Fx',N,[],perm _ ?_,hT'⟩;unfold zW;rw [WI (.inr rfl),n2]
  .rename_i o1;have o0:(zy s x.G).2.Out=0:=by have:=G'.o;omega
   refine ⟨gh',by rw [zAB (x:={x with G:=(zy s x.G).2}) p6];exact X',⟨fun _=>hcw,fun e=>by have e:x.PC<=3:=e;omega,fun e=>by have e:x.PC=0:=e;omega,fun e=>by have e:x.PC=1:=e;omega,fun e=>by have e:x.PC=2:=e;omega,fun e=>by have e:x.PC=4:=e;omega,fun _=>⟨G',so.2.2.trans gm,so.2.1.trans gw,o0⟩⟩,Fx',N,[],perm _ ?_,hT'⟩;unfold zW;rw [zv3 (x:={x with G:=(zy s x.G).2}) p6]
 rw [zc p6];have eo:wT x=[]:=ur (by omega) (by omega) (by omega);by_cases p7:x.PC=7
 .rw [zb p7];intro S';dsimp only;split
  .rename_i hb;rw [eB];refine .quiet X S' rfl rfl rfl (by rw [eo];exact ur (by show (0:Int)≠3;decide) (by show (0:Int)≠4;decide) (by show (0:Int)≠6;decide)) ?_ (WX.begin hc0 hb);unfold zW;rw [zjW,YP (.inr (.inr (.inr (.inl p7))))];exact zJ2 _
  .rename_i o l hb;refine .quiet X S' rfl rfl rfl (by rw [eo];exact ur (by show (5:Int)≠3;decide) (by show (5:Int)≠4;decide) (by show (5:Int)≠6;decide)) ?_ (WX.plain (.inl rfl) hc0);unfold zW;rw [WI (.inl rfl),YP (.inr (.inr (.inr (.inl p7)))),hb,zJE];exact zKs
 rw [zc p7];by_cases p8:x.PC=8
 .rw [zb p8];intro S';refine ⟨gh,by rw [ur (by show (9:Int)≠3;decide) (by show (9:Int)≠4;decide) (by show (9:Int)≠6;decide)];rw [eo] at X;exact X.quiet S' rfl,WX.plain (.inr (.inr (.inr rfl))) hc0,FX.quiet rfl (fun _ _ _=>rfl),[],[x.Obj],?_,.inr (.inr ⟨rfl,rfl,p8,rfl⟩)⟩;rw [Zd rfl,zJM];unfold zW;rw [WI (.inr p8),YP (.inr (.inr (.inr (.inr rfl)))),zJE,zJJ];exact zJ2 _
 rw [zc p8];have p9:x.PC=9:=by omega
 rw [zb p9];intro S';refine .quiet X S' rfl rfl rfl (by rw [eo];exact ur (by show (7:Int)≠3;decide) (by show (7:Int)≠4;decide) (by show (7:Int)≠6;decide)) ?_ (WX.plain (.inr (.inl rfl)) hc0);unfold zW;rw [YP (.inr (.inr (.inr (.inr p9)))),YP (.inr (.inr (.inr (.inl rfl))))]
theorem zBg (s:za) (w:Int) (x:zk) (h:(zu s w x).2.PC=6):(x.PC=6/\(zu s w x).2.G.Obj=x.G.Obj)\/(x.PC=5/\(zu s w x).2.G.Obj=zN s.H x.Obj x.Slot):=by
 revert h;have hon:∀i,onW s i≠6:=fun i e=>by rcases zlx s i with h | h<;>omega
 have hlk:∀y:zk,(Z3 s.P w y).PC≠6:=fun y e=>by unfold Z3 at e;split at e<;>cases e
 unfold zu;split
 .rename_i h0;dsimp only;split
  .exact fun e=>by cases e
  split
  .exact fun e=>absurd e (hlk _)
  .exact fun e=>by have e:x.PC=6:=e;omega
 split
 .dsimp only;split
  .exact fun e=>by cases e
  split
  .exact fun e=>by cases e
  .exact fun e=>by have e:x.PC=6:=e;omega
 split
 .exact fun e=>by cases e
 split
 .dsimp only;split
  .exact fun e=>by cases e
  .exact fun e=>by have e:x.PC=6:=e;omega
 split
 .rename_i h5;dsimp only;split
  .exact fun e=>absurd e (hon _)
  .exact fun _=>.inr ⟨h5,rfl⟩
 split
 .rename_i h6;dsimp only;split
  .exact fun e=>absurd e (hon _)
  .exact fun _=>.inl ⟨h6,(zap s x.G).1⟩
 split
 .dsimp only;split
  .exact fun e=>by cases e
  .exact fun e=>by cases e
 split
 .exact fun e=>by cases e
 split
 .exact fun e=>by cases e
 .exact fun e=>.inl ⟨e,rfl⟩
theorem zxz {o:Int}(h:1<=o/\o<=64) (j:Nat):(bit o).getLsbD j=decide ((o-1).toNat=j):=by
 unfold bit;rw [zb h,<-BitVec.twoPow_eq,BitVec.getLsbD_twoPow,decide_eq_true (by omega:(o-1).toNat<64),zKz]
theorem xp (s:BitVec 64) (o:Int):zI s o=true↔1<=o/\o<=64/\s.getLsbD (o-1).toNat=true:=by
 unfold zI;rw [zJU,decide_eq_false_iff_not];by_cases h:1<=o/\o<=64
 .constructor
  .intro h1;refine ⟨h.1,h.2,Classical.byContradiction (fun h2=>h1 ?_)⟩;apply zK5;intro j hj;rw [zKO,zxz h,zK6];by_cases e:(o-1).toNat=j
   .rw [<-e];simp only [Bool.not_eq_true] at h2;rw [h2];rfl
   .rw [decide_eq_false e,Bool.and_false]
  .rintro ⟨_,_,h1⟩ h2;have:=congrArg (fun v=>BitVec.getLsbD v (o-1).toNat) h2;simp only [zKO,zxz h,h1,zK6] at this;simp at this
 .constructor
  .intro h1;exact absurd (by unfold bit;rw [zc h,BitVec.and_zero]) h1
  .rintro ⟨a,b,_⟩;exact absurd ⟨a,b⟩ h
theorem yN (s:BitVec 64) {o:Int}(h:1<=o/\o<=64) (q:Int):zI (s|||bit o) q=true↔zI s q=true\/q=o:=by
 rw [xp,xp,BitVec.getLsbD_or,zxz h];simp only [zKI,decide_eq_true_eq];constructor
 .rintro ⟨a,b,c | c⟩
  .exact .inl ⟨a,b,c⟩
  .exact .inr (by omega)
 .rintro (⟨a,b,c⟩ | rfl)
  .exact ⟨a,b,.inl c⟩
  .exact ⟨h.1,h.2,.inr rfl⟩
theorem ui (s t:BitVec 64) (q:Int):zI (s&&&t) q=true↔zI s q=true/\zI t q=true:=by
 rw [xp,xp,xp,zKO];simp only [zJB];constructor
 .rintro ⟨a,b,c,d⟩;exact ⟨⟨a,b,c⟩,a,b,d⟩
 .rintro ⟨⟨a,b,c⟩,_,_,d⟩;exact ⟨a,b,c,d⟩
theorem ZI (q:Int): ¬zI 0#64 q=true:=by
 rw [xp,zK6];exact fun h=>by cases h.2.2
theorem zkP {s t:BitVec 64}(h:∀o,zI s o=true↔zI t o=true):s=t:=by
 apply zK5;intro j hj;have:=h ((j:Int)+1);rw [xp,xp,show ((j:Int)+1-1).toNat=j by omega] at this;rw [Bool.eq_iff_iff];exact ⟨fun e=>(this.1 ⟨by omega,by omega,e⟩).2.2,fun e=>(this.2 ⟨by omega,by omega,e⟩).2.2⟩
theorem uU {m:BitVec 64}{o:Int}(h:1<=o/\o<=64): ¬(m|||bit o=m)↔¬zI m o=true:=by
 constructor
 .intro h1 h2;refine h1 (zkP (fun q=>?_));rw [yN _ h];exact ⟨fun e=>e.elim id (fun e=>by rw [e];exact h2),.inl⟩
 .intro h1 h2;refine h1 ?_;rw [<-h2,yN _ h];exact .inr rfl
theorem wY (t:zm) (o:Int):yh t o=1↔zI t.Marks o=true/\¬zI t.Black o=true:=by
 unfold yh;by_cases h1:zI (t.Marks&&&t.Black) o=true
 .rw [zb h1];rw [ui] at h1;exact ⟨fun e=>(by cases e),fun e=>absurd h1.2 e.2⟩
 .rw [zc h1];rw [ui] at h1;by_cases h2:zI t.Marks o=true
  .rw [zb h2];exact ⟨fun _=>⟨h2,fun e=>h1 ⟨h2,e⟩⟩,fun _=>rfl⟩
  .rw [zc h2];exact ⟨fun e=>(by cases e),fun e=>absurd e.1 h2⟩
end
end Go.Pe.G
