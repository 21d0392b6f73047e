/- Own work of this seat: PA, PB, PMk, PMade15, PRight, PNew, PInv, PNewOk, PSmall, PSame, PGo, PDq, PWork, PMut, PEng, PLowEq, PWorkEq, PDq2, PChain, PStrong, PGstep, PWstep, PBits, PWAll, PLists, PWNew, PHeld, PCnt, PWOnce, PFirst. -/
import Derived.Test.YtdommjamncndpaaGreatDoorWEGa
set_option linter.unusedVariables false
set_option linter.unusedSimpArgs false
set_option linter.unnecessarySimpa false
set_option linter.unusedSectionVars false
set_option linter.deprecated false
set_option maxRecDepth 20000
open BitVec renaming toNat_ofInt → zB9, toNat_and → zCi, getLsbD_and → zCw, eq_of_toNat_eq → zCA, toInt_eq_toNat_cond → zCE, eq_of_getLsbD_eq → zCI, getLsbD_zero → zCJ, getLsbD_not → zCQ, ofNat → zC2, ofInt → zC4
open Bool renaming and_eq_true → zBl, not_eq_true' → zBC, not_true → zB6, true_and → zCu, or_eq_true → zCx
open Int renaming le_refl → zB2, toNat_natCast → zCh
open List renaming getElem?_eq_getElem → zBn, append_nil → zBo, getD_eq_getElem?_getD → zBp, mem_of_getElem? → zBq, mem_cons_of_mem → zBr, getElem?_eq_some_iff → zBt, append_assoc → zBu, length_cons → zBv, mem_cons_self → zBx, nil_append → zBy, length_append → zBz, mem_map → zBB, mem_append → zBE, length_set → zBF, mem_cons → zBG, mem_append_left → zBH, getElem?_set_ne → zBI, mem_append_right → zBJ, getElem?_append_left → zBM, perm_append_comm_assoc → zBO, getElem?_map → zBQ, getElem?_append_right → zBS, getElem_mem → zBU, mem_range → zBW, mem_or_eq_of_mem_set → zBX, getElem?_set → zBZ, getElem?_set_self → zB3, perm_append_comm → zB5, length_replicate → zB8, flatMap_cons → zCa, mem_singleton → zCb, mem_flatMap → zCc, nodup_append → zCe, getElem?_eq_none → zCj, mem_iff_getElem? → zCm, length_take → zCq, foldl_cons → zCs, drop_eq_getElem_cons → zCt, getElem?_cons_zero → zCv, length_drop → zCz, getElem?_replicate → zCH, length_map → zCK, mem_of_mem_take → zCL, drop_eq_nil_of_le → zCM, flatMap_append → zCN, take_add_one → zCO, take_length → zCP, getElem?_cons_succ → zCX, take_append_drop → zCY, replicate → zC3, range → zC5, Perm → zC6, range_succ → zC7
open List.Perm renaming append_left → zBA, refl → zBY
open Nat renaming le_refl → zBm, lt_or_ge → zBR, add_zero → zCd, le_trans → zCf, mul_le_mul_right → zCl, add_assoc → zCy, mul_le_mul → zCD, and_two_pow_sub_one_eq_mod → zC1
open Option renaming bind_some → zBk
namespace Go.Pe.G
open Go.Pe
noncomputable section
theorem ZV {A B D:Type}{f:A->Option (xJ A B D)}(Inv:A->Prop) (ms:A->Nat) (Q:xJ Unit B D->Prop)
  (h:∀a,Inv a->∃o,f a=some o/\match o with
   | .again a'=>Inv a'/\ms a'<ms a
   | .brk b=>Q (.brk b)
   | .ret c=>Q (.ret c)):∀a,Inv a->ms a<rounds->∃o,yM f a=some o/\Q o:=by
 have key:∀(n:Nat) a,Inv a->ms a<n->∃o,vd f n a=some o/\Q o:=by
  intro n
  induction n with
  | zero=>intro a _ h;omega
  | succ n ih =>
   intro a ha hm;obtain ⟨o,ho,hq⟩:=h a ha;simp only [vd,ho,zBk];cases o with
   | again a'=>exact ih a' hq.1 (by have:=hq.2;omega)
   | brk b=>exact ⟨_,rfl,hq⟩
   | ret c=>exact ⟨_,rfl,hq⟩
 intro a ha hm;rw [Uh];exact key rounds a ha hm
theorem vr {n:Nat}(h:n<18446744073709551616):n<rounds:=h
theorem yI {a:Int}(h: -9223372036854775808<=a:=by omega) (h2:a<9223372036854775808:=by omega):w64 a=a:=by
 rw [zmq];omega
def wc (n:Int):Int:=(n+9223372036854775808)%18446744073709551616-9223372036854775808
theorem Zg:w64=wc:=funext zmq
theorem yP {a:Int}(h: -9223372036854775808<=a:=by omega) (h2:a<9223372036854775808:=by omega):wc a=a:=by unfold wc;omega
theorem zG {α:Type}(p:Prop) [Decidable p] (a b:α):(bif decide p then a else b)=if p then a else b:=by
 by_cases h:p<;>simp [h]
theorem xx {α:Type}(p:Prop) [Decidable p] (a b:α):(bif !(decide p) then a else b)=if p then b else a:=by
 by_cases h:p<;>simp [h]
theorem uM {α:Type}{l:List α}(h:l.length<4294967296:=by omega):vQ l=some l:=by
 rw [ztc];simp [h]
theorem VH {α:Type}{l:List α}{i:Int}(h:0<=i:=by omega):idx l i=l[i.toNat]? :=by
 unfold idx;simp [h]
theorem WB {α:Type}{l:List α}{i:Int}(h:0<=i:=by omega) (h2:i<l.length:=by omega):Yh l i=some i.toNat:=by
 unfold Yh;simp [h,h2]
def bit (o:Int):BitVec 64:=if 1<=o/\o<=64 then 1#64 <<< (o-1).toNat else 0#64
theorem zuQ (a:Int):zih a=some (bit a,()):=by
 rw [zth];simp only [zG];unfold bit;by_cases h1:a<1
 .rw [zb h1,ze]
 .rw [zd h1];by_cases h2:64<a
  .rw [zb h2,ze]
  .rw [zd h2,yI (a:=a-1) (by omega) (by omega),zd (show ¬a-1<0 by omega),zb (show 1<=a/\a<=64 by omega),Nat.min_eq_left (by omega)]
theorem zmr (s:BitVec 64) (o:Int):zb7 s o=some (!(decide (s&&&bit o=0#64)),()):=by
 rw [ztk,zuQ];rfl
theorem zjj (s:BitVec 64) (o:Int):zau s o=some (s|||bit o,()):=by
 rw [ztN,zuQ];rfl
def vT (t:zA) (o:Int):zA×Bool :=
 if t.Marks|||bit o=t.Marks then (t,false) else if t.Black&&&bit o=0#64 then ({t with Marks:=t.Marks|||bit o},true) else (t,false)
theorem zvt (t:zA) (o:Int):zgP t o=some ((vT t o).1,(vT t o).2,()):=by
 rw [zpt,zjj,zBk,zG];unfold vT;by_cases h1:t.Marks|||bit o=t.Marks
 .rw [zb h1,zb h1]
 .rw [zd h1,zd h1,zmr,zBk,xx];by_cases h2:t.Black&&&bit o=0#64
  .rw [zb h2,zb h2]
  .rw [zd h2,zd h2]
theorem zrq {m:List (BitVec 64)}(h:m.length<4294967296):we m=some (m,()):=by
 rw [zbP,zBy,uM h,zBk];cases m with
 | nil=>simp [zh4]
 | cons a l=>simp
theorem zoC {m:List (List Int)}(h:m.length<4294967296):ZD m=some (m,()):=by
 rw [zdt,zBy,uM h,zBk];cases m with
 | nil=>simp [zh4]
 | cons a l=>simp
def ld (m:List (BitVec 64)) (a:Int):BitVec 64:=if 0<=a then m.getD a.toNat 0#64 else 0#64
def st (m:List (BitVec 64)) (a:Int) (v:BitVec 64):List (BitVec 64):=if 0<=a then m.set a.toNat v else m
def sw (m:List (BitVec 64)) (at_:Int) (a b:BitVec 64):List (BitVec 64)×Bool :=
 if 0<=at_/\at_<m.length/\ld m at_=a then (st m at_ b,true) else (m,false)
theorem ztz {m:List (BitVec 64)}{a:Int}(h:0<=a) (h2:a<m.length):m[a.toNat]? =some (ld m a):=by
 unfold ld;rw [zb h,zBp,zBn (by omega)];rfl
theorem zuR {m:List (BitVec 64)}{a:Int}:st m a (ld m a)=m:=by
 unfold st ld;by_cases h:0<=a
 .rw [zb h,zb h];by_cases h2:a.toNat<m.length
  .rw [zBp,zBn h2];simp
  .rw [List.set_eq_of_length_le (by omega)]
 .rw [zd h]
theorem zwx {m:List (BitVec 64)}{a:Int}(h:a<0\/m.length<=a):ld m a=0#64:=by
 unfold ld;rcases h with h | h
 .rw [ze]
 .split
  .rw [zBp,zCj (by omega)];rfl
  .rfl
theorem zxf {m:List (BitVec 64)}{a:Int}{v:BitVec 64}(h:a<0\/m.length<=a):st m a v=m:=by
 unfold st;rcases h with h | h
 .rw [ze]
 .split
  .rw [List.set_eq_of_length_le (by omega)]
  .rfl
theorem zuw (m:List (BitVec 64)) (a:Int) (x y:BitVec 64):∃b,XV m ⟨1,a,x,y⟩=some (m,ld m a,b,()):=by
 rw [ziG];simp only [zG,if_true];by_cases h1:a<0
 .rw [zb h1,zwx (.inl h1)];exact ⟨_,rfl⟩
 .rw [zd h1];by_cases h2:(m.length:Int)<=a
  .rw [zb h2,zwx (.inr h2)];exact ⟨_,rfl⟩
  .rw [zd h2,VH,ztz (by omega) (by omega),zBk,zrI,zBk];simp
theorem zst {m:List (BitVec 64)}(hm:m.length<4294967296) (a:Int) (x y:BitVec 64):∃v b,XV m ⟨2,a,x,y⟩=some (st m a x,v,b,()):=by
 rw [ziG];simp only [zG,if_true,zd (show ¬(2:Int)=1 by omega)];by_cases h1:a<0
 .rw [zb h1,zxf (.inl h1)];exact ⟨_,_,rfl⟩
 .rw [zd h1];by_cases h2:(m.length:Int)<=a
  .rw [zb h2,zxf (.inr h2)];exact ⟨_,_,rfl⟩
  .rw [zd h2,VH,ztz (by omega) (by omega),zBk,zrB,zBk,zI,xx];by_cases h3:ld m a=x
   .rw [zb h3];subst h3;rw [zuR];exact ⟨_,_,rfl⟩
   .rw [zd h3,zrq hm,zBk,WB (l:=m) (by omega) (by omega),zBk];unfold st;rw [yo];exact ⟨_,_,rfl⟩
theorem zqH {m:List (BitVec 64)}(hm:m.length<4294967296) (a:Int) (x y:BitVec 64):∃v,XV m ⟨3,a,x,y⟩=some ((sw m a x y).1,v,(sw m a x y).2,()):=by
 rw [ziG];simp only [zG,if_true,zd (show ¬(3:Int)=1 by omega),zd (show ¬(3:Int)=2 by omega)];by_cases h1:a<0
 .rw [zb h1];have:sw m a x y=(m,false):=by unfold sw;rw [ze]
  rw [this];exact ⟨_,rfl⟩
 .rw [zd h1];by_cases h2:(m.length:Int)<=a
  .rw [zb h2];have:sw m a x y=(m,false):=by unfold sw;rw [ze]
   rw [this];exact ⟨_,rfl⟩
  .rw [zd h2,VH,ztz (by omega) (by omega),zBk,zrU,zBk];simp only [zG];by_cases h3:ld m a=x
   .have:sw m a x y=(st m a y,true):=by unfold sw;rw [zb ⟨by omega,by omega,h3⟩]
    rw [zb h3,this,xx];by_cases h4:ld m a=y
    .rw [zb h4];have:st m a y=m:=by rw [<-h4,zuR]
     rw [this];simp [h3]
    .rw [zd h4,zrq hm,zBk,WB (l:=m) (by omega) (by omega),zBk];unfold st;rw [yo];simp [h3]
   .have:sw m a x y=(m,false):=by unfold sw;rw [zd (by rintro ⟨_,_,h⟩;exact h3 h)]
    rw [zd h3,this];simp [h3]
theorem zo3 (m:List (BitVec 64)) (a:Int):zcz m a=some (ld m a,()):=by
 obtain ⟨b,h⟩:=zuw m a 0#64 0#64;rw [zpk,h];rfl
theorem zbi {m:List (BitVec 64)}(hm:m.length<4294967296) (a:Int) (x:BitVec 64):YR m a x=some (st m a x,()):=by
 obtain ⟨v,b,h⟩:=zst hm a x 0#64;rw [znV,h];rfl
theorem WQ (m:List (BitVec 64)) (a:Int):Z3 m a=some (ld m a,()):=by
 obtain ⟨b,h⟩:=zuw m a 0#64 0#64;rw [zop,h];rfl
theorem zbq {m:List (BitVec 64)}(hm:m.length<4294967296) (a:Int) (x:BitVec 64):YX m a x=some (st m a x,()):=by
 obtain ⟨v,b,h⟩:=zst hm a x 0#64;rw [znX,h];rfl
def yH (h:BitVec 64):Int:=(h&&&4294967295#64).toInt
def xz (v:BitVec 64) (n:Int):BitVec 64:=(v <<< 32)|||(zC4 64 n&&&4294967295#64)
theorem zf6 (h:BitVec 64):XF h=some (yH h,()):=zpz h
theorem zfV (v:BitVec 64) (n:Int):VM v n=some (xz v n,()):=zou v n
def zo (m:List (BitVec 64)) (c:zJ):List (BitVec 64)×zJ :=
 if c.Out≠0\/(c.Kind≠1/\c.Kind≠2)\/c.PC<0\/3<=c.PC then (m,c)
 else if c.PC=0 then
  (m,if c.Kind=2/\yH (ld m c.Head)=0 then {c with H:=ld m c.Head,Out:=2,PC:=1} else {c with H:=ld m c.Head,PC:=1})
 else if c.PC=1 then
  if c.Kind=2 then (m,{c with Y:=(ld m (wc (c.Next+yH c.H))).toInt,PC:=2})
  else (st m (wc (c.Next+c.X)) (zC4 64 (yH c.H)),{c with PC:=2})
 else
  let r:=sw m c.Head c.H (xz ((c.H >>> 32)+1#64) (if c.Kind=2 then c.Y else c.X))
  (r.1,if r.2 then (if c.Kind=2 then {c with X:=yH c.H,Out:=1,PC:=3} else {c with Out:=1,PC:=3}) else {c with PC:=0})
theorem zky {m:List (BitVec 64)}(hm:m.length<4294967296) (c:zJ):zak m c=some ((zo m c).1,(zo m c).2,()):=by
 have hsee:ud m c=some (m,(if c.Kind=2/\yH (ld m c.Head)=0 then {c with H:=ld m c.Head,Out:=2} else {c with H:=ld m c.Head}),()):=by
  rw [zf4,zo3,zBk,zf6,zBk,zG,zG];by_cases h1:c.Kind=2
  .by_cases h2:yH (ld m c.Head)=0
   .rw [zb h1,zb h2,zb ⟨h1,h2⟩]
   .rw [zb h1,zd h2,zd (fun h=>h2 h.2)]
  .rw [zd h1,zd (fun h=>h1 h.1)]
 have hlink:Xg m c=some (st m (wc (c.Next+c.X)) (zC4 64 (yH c.H)),()):=by
  rw [zhO,Zg,zf6,zBk,zbi hm];rfl
 have hbeh:ZE m c=some (m,{c with Y:=(ld m (wc (c.Next+yH c.H))).toInt},()):=by
  rw [zdM,Zg,zf6,zBk,zo3];rfl
 have hswap:vN m c=some ((sw m c.Head c.H (xz ((c.H >>> 32)+1#64) (if c.Kind=2 then c.Y else c.X))).1,
   (if (sw m c.Head c.H (xz ((c.H >>> 32)+1#64) (if c.Kind=2 then c.Y else c.X))).2 then (if c.Kind=2 then {c with X:=yH c.H,Out:=1} else {c with Out:=1}) else {c with PC:= -1}),()):=by
  rw [zfE,zG];by_cases h1:c.Kind=2
  .rw [zb h1,zfV,zBk];obtain ⟨v,hv⟩:=zqH hm c.Head c.H (xz ((c.H >>> 32)+1#64) c.Y);simp only [zb h1];rw [hv,zBk];cases hs:(sw m c.Head c.H (xz ((c.H >>> 32)+1#64) c.Y)).2 with
   | true=>simp [hs,h1,zf6]
   | false=>simp [hs]
  .rw [zd h1,zfV,zBk];obtain ⟨v,hv⟩:=zqH hm c.Head c.H (xz ((c.H >>> 32)+1#64) c.X);simp only [zd h1];rw [hv,zBk];cases hs:(sw m c.Head c.H (xz ((c.H >>> 32)+1#64) c.X)).2 with
   | true=>simp [hs,h1]
   | false=>simp [hs]
 rw [zpj,hsee,hlink,hbeh,hswap];simp only [zG,xx,zBk];unfold zo;by_cases h0:c.Out=0
 .by_cases hp0:c.PC<0
  .have:(c.Out≠0\/(c.Kind≠1/\c.Kind≠2)\/c.PC<0\/3<=c.PC):= .inr (.inr (.inl hp0));rw [zb this];simp [h0,hp0]
  .by_cases hp3:3<=c.PC
   .have:(c.Out≠0\/(c.Kind≠1/\c.Kind≠2)\/c.PC<0\/3<=c.PC):= .inr (.inr (.inr hp3));rw [zb this];simp [h0,hp3]
   .by_cases hk:c.Kind=1\/c.Kind=2
    .have: ¬(c.Out≠0\/(c.Kind≠1/\c.Kind≠2)\/c.PC<0\/3<=c.PC):=by
      rintro (h | h | h | h)
      .exact h h0
      .omega
      .exact hp0 h
      .exact hp3 h
     rw [zd this];have hpc:c.PC=0\/c.PC=1\/c.PC=2:=by omega
     have w1:w64 1=1:=yI;have w2:w64 2=2:=yI;have w3:w64 3=3:=yI;have w4:w64 0=0:=yI;rcases hk with hk | hk<;>rcases hpc with hpc | hpc | hpc<;>simp [h0,hk,hpc,w1,w2,w3,w4]<;>(try split)<;>simp [hpc,w1,w3,w4]
    .have:(c.Out≠0\/(c.Kind≠1/\c.Kind≠2)\/c.PC<0\/3<=c.PC):= .inr (.inl (by omega));rw [zb this];have k1: ¬c.Kind=1:=by omega
     have k2: ¬c.Kind=2:=by omega
     simp [h0,k1,k2]
 .have:(c.Out≠0\/(c.Kind≠1/\c.Kind≠2)\/c.PC<0\/3<=c.PC):= .inl h0;rw [zb this];simp [h0]
def Vv (d:zm):BitVec 64:=zC4 64 (if d.Cap<1 then 1 else d.Cap)
def VL (d:zm) (i:BitVec 64):Int:=wc (wc (d.Base+2)+(i%Vv d).toInt)
def yV (m:List (BitVec 64)) (d:zm):List (BitVec 64)×zm :=
 if d.Out≠0\/d.PC<0\/4<=d.PC then (m,d)
 else if d.PC=0 then (m,{d with B:=ld m (wc (d.Base+1)),PC:=1})
 else if d.PC=1 then (m,if Vv d<=d.B-ld m d.Base then {d with T:=ld m d.Base,Out:=3,PC:=2} else {d with T:=ld m d.Base,PC:=2})
 else if d.PC=2 then (st m (VL d d.B) (zC4 64 d.X),{d with PC:=3})
 else (st m (wc (d.Base+1)) (d.B+1#64),{d with Out:=1,PC:=4})
theorem ztQ:w64 0=0/\w64 1=1/\w64 2=2/\w64 3=3/\w64 4=4:=by
 refine ⟨?_,?_,?_,?_,?_⟩<;>exact yI
theorem zwU {d:zm}(h:d.Cap<1000):Vv d≠0#64:=by
 unfold Vv;intro e;have:=congrArg BitVec.toNat e;rw [zB9] at this;split at this<;>simp at this<;>omega
theorem zpJ (d:zm):Xh d=some (Vv d,()):=by
 rw [zhP];unfold Vv;rw [zG]
theorem ziD {d:zm}(h:d.Cap<1000) (i:BitVec 64):Zx i d=some (VL d i,()):=by
 rw [zgF,Zg,zpJ,zBk,zG,zd (zwU h)];rfl
theorem zh7 {m:List (BitVec 64)}(hm:m.length<4294967296) {d:zm}(hk:d.Kind=1) (hc:d.Cap<1000):zaB m d=some ((yV m d).1,(yV m d).2,()):=by
 obtain ⟨w0,w1,w2,w3,w4⟩:=ztQ;have h0:vF m d=some (m,{d with B:=ld m (wc (d.Base+1))},()):=by
  rw [Wk,wp,Zg,zBk,WQ];rfl
 have h1:Wz m d=some (m,(if Vv d<=d.B-ld m d.Base then {d with T:=ld m d.Base,Out:=3} else {d with T:=ld m d.Base}),()):=by
  rw [zfo,Yy,zBk,WQ,zBk,zpJ,zBk,zG];have e:Vv {d with T:=ld m d.Base}=Vv d:=rfl;simp only [e];by_cases h:Vv d<=d.B-ld m d.Base
  .rw [zb h,zb h,vk];simp [hk]
  .rw [zd h,zd h]
 have h2:UX m d=some (st m (VL d d.B) (zC4 64 d.X),()):=by
  rw [zi0,ziD hc,zBk,zbq hm];rfl
 have h3:Y1 m d=some (st m (wc (d.Base+1)) (d.B+1#64),{d with Out:=1},()):=by
  rw [zdj,vk];simp only [decide_true,zB6,yg,zBk,wp,Zg];rw [zbq hm];rfl
 rw [zis,h0,h1,h2,h3,zfK];simp only [hk,decide_true,zI,zBk,xx,zG];have key:∀(x:Option (List (BitVec 64)×zm×Unit)) (v:List (BitVec 64)×zm×Unit) (y:Option (List (BitVec 64)×zm×Unit)),x=some v->Option.or x y=some v:=by
  rintro _ v y rfl;rfl
 apply key;unfold yV;by_cases g0:d.Out=0
 .by_cases g1:d.PC<0
  .simp [g0,g1]
  .by_cases g2:4<=d.PC
   .simp [g0,g2]
   .have hpc:d.PC=0\/d.PC=1\/d.PC=2\/d.PC=3:=by omega
    rcases hpc with h | h | h | h<;>simp [g0,h,hk,w1,w2,w3,w4]<;>(try split)<;>simp [h,hk,w2]
 .simp [g0]
def yb (p:zc):Int:=wc (p.Workers*wc (p.Cap+2))
def zO (p:zc):Int:=wc (yb p+1)
def zZ (p:zc) (w:Int):Int:=wc (wc (w-1)*wc (p.Cap+2))
theorem zf9 (p:zc):VJ p=some (yb p,()):=by rw [zoV,Zg];rfl
theorem zer (p:zc):WL p=some (zO p,()):=by rw [zn8,Zg,zf9];rfl
theorem zcN (p:zc):XS p=some (zO p,()):=by rw [zoF,zer];rfl
theorem zen (p:zc) (w:Int):Uy p w=some (zZ p w,()):=by rw [zn4,Zg];rfl
def zcC (p:zc) (g:zH):zH:={g with PC:=5,C:=⟨2,0,zO p,zO p,0#64,0,0,0⟩}
theorem zkr (a:zR):ux a=some (⟨zcC a.s.P a.Grey,a.s⟩,()):=by
 rw [zgC,zer,zBk,zcN,zBk,Ul];rfl
def zeI (s:za) (g:zH):za×zH :=
 let t:=vT s.T g.Obj
 ({s with T:=t.1},
  if t.2=false then {g with PC:=2}
  else if g.Mode=1 then {g with PC:=3,D:=⟨1,0,zZ s.P g.Who,s.P.Cap,0#64,0#64,g.Obj,0⟩}
  else if g.Mode=2 then {g with PC:=4}
  else zcC s.P g)
def zek (s:za) (g:zH):za×zH :=
 let r:=yV s.M g.D
 ({s with M:=r.1},if r.2.Out=1 then {g with D:=r.2,Out:=1} else if r.2.Out=3 then zcC s.P {g with D:=r.2} else {g with D:=r.2})
def zeH (s:za) (g:zH):za×zH :=
 let r:=zo s.M g.C
 ({s with M:=r.1},if r.2.Out=1 then {g with PC:=6,C:=r.2,Bin:=r.2.X} else if r.2.Out=2 then zcC s.P {g with C:=r.2} else {g with C:=r.2})
def zmt (s:za) (g:zH):za×zH :=
 ({s with Bins:=s.Bins.set g.Bin.toNat [g.Obj]},{g with PC:=7,C:=⟨1,0,yb s.P,zO s.P,0#64,g.Bin,0,0⟩})
def Uf (s:za) (g:zH):za×zH :=
 let r:=zo s.M g.C
 ({s with M:=r.1},if r.2.Out=1 then {g with C:=r.2,Out:=1} else {g with C:=r.2})
def zx (s:za) (g:zH):za×zH :=
 if g.Out≠0\/g.Mode<1\/3<g.Mode\/g.PC<0\/8<=g.PC then (s,g)
 else if g.PC=7 then Uf s g
 else if g.PC=6 then zmt s g
 else if g.PC=5 then zeH s g
 else if g.PC=4 then ({s with Flag:=true},zcC s.P g)
 else if g.PC=3 then zek s g
 else if g.PC=2 then ({s with Work:=wc (s.Work-1)},{g with Out:=1})
 else if g.PC=1 then zeI s g
 else ({s with Work:=wc (s.Work+1)},{g with PC:=1})
structure GOk (s:za) (g:zH):Prop where
 mem:s.M.length<4294967296
 bins:s.Bins.length<4294967296
 bin:g.PC=6->0<=g.Bin/\g.Bin<s.Bins.length
 deq:g.PC=3->g.D.Kind=1/\g.D.Cap<1000
theorem zxF {s:za}{g:zH}(ok:GOk s g):zeD s g=some ((zx s g).1,(zx s g).2,()):=by
 rw [zqF];simp only [zG,xx];unfold zx;by_cases h0:g.Out=0;rotate_left
 .rw [zd h0,zb (.inl h0)]
 rw [zb h0];by_cases h1:g.Mode<1
 .rw [zb h1,zb (.inr (.inl h1))]
 rw [zd h1];by_cases h2:3<g.Mode
 .rw [zb h2,zb (.inr (.inr (.inl h2)))]
 rw [zd h2];by_cases h3:g.PC<0
 .rw [zb h3,zb (.inr (.inr (.inr (.inl h3))))]
 rw [zd h3];by_cases h4:8<=g.PC
 .rw [zb h4,zb (.inr (.inr (.inr (.inr h4))))]
 rw [zd h4,zd (show ¬(g.Out≠0\/g.Mode<1\/3<g.Mode\/g.PC<0\/8<=g.PC) by omega)];by_cases p7:g.PC=7
 .rw [zb p7,zb p7,zdZ];simp only [zky ok.mem,zBk,zG];by_cases e:(zo s.M g.C).2.Out=1<;>simp [Uf,e]
 rw [zd p7,zd p7];by_cases p6:g.PC=6
 .rw [zb p6,zb p6,zf3];obtain ⟨b1,b2⟩:=ok.bin p6;simp only [zoC ok.bins,zBk,WB (l:=s.Bins) b1 b2,zf9,zcN,Ul];rfl
 rw [zd p6,zd p6];by_cases p5:g.PC=5
 .rw [zb p5,zb p5,zfY];simp only [zky ok.mem,zBk,zG,zkr];by_cases e:(zo s.M g.C).2.Out=1
  .simp [zeH,e]
  .by_cases e2:(zo s.M g.C).2.Out=2<;>simp [zeH,e,e2]
 rw [zd p5,zd p5];by_cases p4:g.PC=4
 .rw [zb p4,zb p4,zgn,zkr];rfl
 rw [zd p4,zd p4];by_cases p3:g.PC=3
 .rw [zb p3,zb p3,zgb];obtain ⟨b1,b2⟩:=ok.deq p3;simp only [zh7 ok.mem b1 b2,zBk,zG,zkr];by_cases e:(yV s.M g.D).2.Out=1
  .simp [zek,e]
  .by_cases e2:(yV s.M g.D).2.Out=3<;>simp [zek,e,e2]
 rw [zd p3,zd p3];by_cases p2:g.PC=2
 .rw [zb p2,zb p2,zfW,Zg];rfl
 rw [zd p2,zd p2];by_cases p1:g.PC=1
 .rw [zb p1,zb p1,zf7];simp only [zvt,zBk,zG,zkr,zen,V6];unfold zeI;cases hs:(vT s.T g.Obj).2 with
  | false=>simp [hs]
  | true =>
   by_cases m1:g.Mode=1
   .simp [hs,m1]
   .by_cases m2:g.Mode=2<;>simp [hs,m1,m2]
 rw [zd p1,zd p1,zb (show g.PC=0 by omega),zdO,Zg];rfl
theorem ug {b k:Int}(h:0<=b) (hk:0<k):0<=b.tmod k/\b.tmod k<k:=by
 rw [Int.tmod_eq_emod_of_nonneg h];exact ⟨Int.emod_nonneg _ (by omega),Int.emod_lt_of_pos _ hk⟩
def zgA (o:zr) (regs slots:Int):Prop:=(0<=o.R/\o.R<regs) /\
 ((o.Kind=1\/o.Kind=2)/\(0<=o.A/\o.A<regs)/\(0<=o.S/\o.S<slots)\/o.Kind=4/\(0<=o.A/\o.A<regs)/\o.S=0\/(o.Kind=3\/o.Kind=5)/\o.A=0/\o.S=0)
structure zB (p:zc):Prop where
 wk:1<=p.Workers/\p.Workers<=3
 mt:0<=p.Mutators/\p.Mutators<=2
 cap:1<=p.Cap/\p.Cap<=3
 buf:1<=p.Buf/\p.Buf<=2
 bin:1<=p.Bin/\p.Bin<=3
 price:0<=p.Price/\p.Price<=3
 limit:0<=p.Limit/\p.Limit<=3
 slots:1<=p.H.Slots/\p.H.Slots<=2
 n:1<=(p.H.Objs.length:Int)/\(p.H.Objs.length:Int)<=6
 objs:∀o∈p.H.Objs,(o.length:Int)=p.H.Slots/\∀v∈o,0<=v/\v<=(p.H.Objs.length:Int)
 most:(p.H.Objs.length:Int)<=p.Most/\p.Most<=(p.H.Objs.length:Int)+3
 roots:∃r,0<=r/\r<=(p.H.Objs.length:Int)/\p.Roots=bit r
 regs:(p.Regs.length:Int)=p.Mutators
 progs:(p.Progs.length:Int)=p.Mutators
 reg:∀r∈p.Regs,(1<=(r.length:Int)/\(r.length:Int)<=3)/\∀v∈r,0<=v/\v<=(p.H.Objs.length:Int)
 prog:∀(k:Nat) r ops,p.Regs[k]? =some r->p.Progs[k]? =some ops->(ops.length:Int)<=7/\∀o∈ops,zgA o (r.length:Int) p.H.Slots
 picks:p.Picks=[]
namespace B15
def Wo (m:zW):Prop:=0<=m.At/\m.At<=m.L.length/\m.L.length<=90
theorem uP {m:zW}(h:Wo m):∃b m',zN m=some (b,m',())/\(0<=b/\b<256)/\Wo m':=by
 obtain ⟨h1,h2,h3⟩:=h;rw [zdg,zG];by_cases h:(m.L.length:Int)<=m.At
 .rw [zb h];exact ⟨_,_,rfl,by omega,h1,h2,h3⟩
 .rw [zd h,yI (a:=m.At+1) (by omega) (by omega),yI,VH,zBn (by omega),zBk];exact ⟨_,_,rfl,by have:=(m.L[(m.At+1-1).toNat]'(by omega)).isLt;omega,show 0<=m.At+1 by omega,show m.At+1<=m.L.length by omega,h3⟩
theorem zAS {m:zW}(h:Wo m) {regs slots:Int}(hr:1<=regs) (hs:1<=slots):∃o m',X4 regs slots m=some (o,m',())/\zgA o regs slots/\Wo m':=by
 obtain ⟨b1,m1,e1,r1,k1⟩:=uP h;obtain ⟨b2,m2,e2,r2,k2⟩:=uP k1;obtain ⟨b3,m3,e3,r3,k3⟩:=uP k2;obtain ⟨b4,m4,e4,r4,k4⟩:=uP k3;have t1:=ug r1.1 (show (0:Int)<8 by omega);have t2:=ug r2.1 (show (0:Int)<regs by omega);have t3:=ug r3.1 (show (0:Int)<regs by omega);have t4:=ug r4.1 (show (0:Int)<slots by omega);have t5:=ug r3.1 (show (0:Int)<slots by omega);have hn: ¬regs=0:=by omega
 have hn2: ¬slots=0:=by omega
 rw [zeU,e1,zBk,WB t1.1 (by simpa using t1.2),zBk];have hx:b1.tmod 8=0\/b1.tmod 8=1\/b1.tmod 8=2\/b1.tmod 8=3\/b1.tmod 8=4\/b1.tmod 8=5\/b1.tmod 8=6\/b1.tmod 8=7:=by omega
 rcases hx with hx | hx | hx | hx | hx | hx | hx | hx<;>simp [hx,e2,e3,e4,hn,hn2]<;>refine ⟨_,_,⟨rfl,rfl⟩,?_,by assumption⟩<;>(unfold zgA;dsimp only;omega)
theorem zx5 {s1:Int}{s2:Int}{s4:Int}{s5:Int}{s6:Int}{s7:Int}{s8:Int}{s9:Int}{s10:Int}{s11:Int}{s12:Int}{s13:BitVec 64}{s15:Int}{s16:Int}{s17:Int}{s18:Int}{s19:Int}{s20:Int}{s21:Int}{s22:Int}{s23:Int}{s24:BitVec 64}{s26:List (List Int)}{s27:List (List Int)}{s28:List (List zr)}{s29:List zu}{s30:List (List Int)}{s31:List (List Int)}{s32:List (List zr)}{s33:List zu}(hn:1<=s1/\s1<=6) (hs:1<=s23/\s23<=2) {mk:zW}(hm:Wo mk) :
  ∃mk' l,yM YM (s1,s2,0,s4,s5,s6,s7,s8,s9,s10,s11,s12,s13,mk,s15,s16,s17,s18,s19,s20,s21,s22,s23,s24,[],s26,s27,s28,s29,s30,s31,s32,s33,())=some (.brk (s1,s2,s4,s5,s6,s7,s8,s9,s10,s11,s12,s13,mk',s15,s16,s17,s18,s19,s20,s21,s22,s23,s24,l,s26,s27,s28,s29,s30,s31,s32,s33,()))/\Wo mk'/\(l.length:Int)=s23/\∀v∈l,0<=v/\v<=s1:=by
 refine (ZV (f:=YM)
  (fun a=>∃i mk l,a=(s1,s2,i,s4,s5,s6,s7,s8,s9,s10,s11,s12,s13,mk,s15,s16,s17,s18,s19,s20,s21,s22,s23,s24,l,s26,s27,s28,s29,s30,s31,s32,s33,())/\Wo mk/\(0<=i/\i<=s23/\(l.length:Int)=i)/\∀v∈l,0<=v/\v<=s1)
  (fun a=>(s23-a.2.2.1).toNat)
  (fun o=>match o with | .brk b=>∃mk l,b=(s1,s2,s4,s5,s6,s7,s8,s9,s10,s11,s12,s13,mk,s15,s16,s17,s18,s19,s20,s21,s22,s23,s24,l,s26,s27,s28,s29,s30,s31,s32,s33,())/\Wo mk/\(l.length:Int)=s23/\∀v∈l,0<=v/\v<=s1 | _=>False) ?_
  (s1,s2,0,s4,s5,s6,s7,s8,s9,s10,s11,s12,s13,mk,s15,s16,s17,s18,s19,s20,s21,s22,s23,s24,[],s26,s27,s28,s29,s30,s31,s32,s33,()) ⟨0,mk,[],rfl,hm,by simp;omega,by simp⟩ (vr (by simp;omega))).elim fun o h=>?_
 rotate_left
 .obtain ⟨ho,hq⟩:=h;cases o with
  | again a=>exact hq.elim
  | ret a=>exact hq.elim
  | brk b =>
   obtain ⟨mk',l,rfl,h1,h2,h3⟩:=hq;exact ⟨mk',l,ho,h1,h2,h3⟩
 .rintro _ ⟨i,mk,l,rfl,h1,h2,h3⟩;rw [zhj,zG];by_cases hi:i<s23
  .rw [zb hi];obtain ⟨b,mk',e,r,k⟩:=uP h1;have w1:w64 (s1+1)=s1+1:=yI;have t:=ug r.1 (show 0<s1+1 by omega);rw [e,zBk,w1,zG,ze,uM (by simp;omega),zBk,yI (a:=i+1) (by omega) (by omega)];refine ⟨_,rfl,⟨i+1,mk',l++[b.tmod (s1+1)],rfl,k,by simp;omega,fun v hv=>?_⟩,?_⟩
   .rcases zBE.1 hv with hv | hv
    .exact h3 v hv
    .simp at hv;omega
   .show (s23-(i+1)).toNat<(s23-i).toNat;omega
  .rw [zd hi];exact ⟨_,rfl,mk,l,rfl,h1,by omega,h3⟩
theorem zzL {s1:Int}{s3:Int}{s4:Int}{s5:Int}{s6:Int}{s7:Int}{s8:Int}{s9:Int}{s10:Int}{s11:Int}{s12:BitVec 64}{s14:Int}{s15:Int}{s16:Int}{s17:Int}{s18:Int}{s19:Int}{s20:Int}{s21:Int}{s22:Int}{s23:BitVec 64}{s24:List (List Int)}{s25:List (List Int)}{s26:List (List zr)}{s27:List zu}{s29:List (List Int)}{s30:List (List zr)}{s31:List zu}(hn:1<=s1/\s1<=6) (hs:1<=s22/\s22<=2) {mk:zW}(hm:Wo mk) :
  ∃mk' l,yM Xp (s1,0,s3,s4,s5,s6,s7,s8,s9,s10,s11,s12,mk,s14,s15,s16,s17,s18,s19,s20,s21,s22,s23,s24,s25,s26,s27,[],s29,s30,s31,())=some (.brk (s1,s3,s4,s5,s6,s7,s8,s9,s10,s11,s12,mk',s14,s15,s16,s17,s18,s19,s20,s21,s22,s23,s24,s25,s26,s27,l,s29,s30,s31,()))/\Wo mk'/\(l.length:Int)=s1/\∀o∈l,(o.length:Int)=s22/\∀v∈o,0<=v/\v<=s1:=by
 refine (ZV (f:=Xp)
  (fun a=>∃i mk l,a=(s1,i,s3,s4,s5,s6,s7,s8,s9,s10,s11,s12,mk,s14,s15,s16,s17,s18,s19,s20,s21,s22,s23,s24,s25,s26,s27,l,s29,s30,s31,())/\Wo mk/\(0<=i/\i<=s1/\(l.length:Int)=i)/\∀o∈l,(o.length:Int)=s22/\∀v∈o,0<=v/\v<=s1)
  (fun a=>(s1-a.2.1).toNat)
  (fun o=>match o with | .brk b=>∃mk l,b=(s1,s3,s4,s5,s6,s7,s8,s9,s10,s11,s12,mk,s14,s15,s16,s17,s18,s19,s20,s21,s22,s23,s24,s25,s26,s27,l,s29,s30,s31,())/\Wo mk/\(l.length:Int)=s1/\∀o∈l,(o.length:Int)=s22/\∀v∈o,0<=v/\v<=s1 | _=>False) ?_
  (s1,0,s3,s4,s5,s6,s7,s8,s9,s10,s11,s12,mk,s14,s15,s16,s17,s18,s19,s20,s21,s22,s23,s24,s25,s26,s27,[],s29,s30,s31,()) ⟨0,mk,[],rfl,hm,by simp;omega,by simp⟩ (vr (by simp;omega))).elim fun o h=>?_
 rotate_left
 .obtain ⟨ho,hq⟩:=h;cases o with
  | again a=>exact hq.elim
  | ret a=>exact hq.elim
  | brk b =>
   obtain ⟨mk',l,rfl,h1,h2,h3⟩:=hq;exact ⟨mk',l,ho,h1,h2,h3⟩
 .rintro _ ⟨i,mk,l,rfl,h1,h2,h3⟩;rw [zhX,zG];by_cases hi:i<s1
  .rw [zb hi];obtain ⟨mk',o,e,g1,g2,g3⟩:=zx5 hn hs h1;rw [e];simp only [zBk];rw [uM (by simp;omega),zBk,yI (a:=i+1) (by omega) (by omega)];refine ⟨_,rfl,⟨i+1,mk',l++[o],rfl,g1,by simp;omega,fun v hv=>?_⟩,?_⟩
   .rcases zBE.1 hv with hv | hv
    .exact h3 v hv
    .simp at hv;subst hv;exact ⟨g2,g3⟩
   .show (s1-(i+1)).toNat<(s1-i).toNat;omega
  .rw [zd hi];exact ⟨_,rfl,mk,l,rfl,h1,by omega,h3⟩
theorem zyg {s1:Int}{s2:Int}{s4:Int}{s5:Int}{s6:Int}{s7:Int}{s8:Int}{s9:Int}{s10:Int}{s11:Int}{s12:Int}{s13:BitVec 64}{s15:Int}{s16:Int}{s17:Int}{s18:Int}{s19:Int}{s20:Int}{s21:Int}{s22:Int}{s23:Int}{s24:BitVec 64}{s26:List (List Int)}{s27:List (List Int)}{s28:List (List zr)}{s29:List zu}{s30:List (List Int)}{s31:List (List Int)}{s32:List (List zr)}{s33:List zu}(hn:1<=s1/\s1<=6) {mk:zW}(hm:Wo mk) :
  ∃mk' l,yM YO (s1,s2,0,s4,s5,s6,s7,s8,s9,s10,s11,s12,s13,mk,s15,s16,s17,s18,s19,s20,s21,s22,s23,s24,[],s26,s27,s28,s29,s30,s31,s32,s33,())=some (.brk (s1,s2,s4,s5,s6,s7,s8,s9,s10,s11,s12,s13,mk',s15,s16,s17,s18,s19,s20,s21,s22,s23,s24,l,s26,s27,s28,s29,s30,s31,s32,s33,()))/\Wo mk'/\(1<=(l.length:Int)/\(l.length:Int)<=3)/\∀v∈l,0<=v/\v<=s1:=by
 refine (ZV (f:=YO)
  (fun a=>∃i mk l,a=(s1,s2,i,s4,s5,s6,s7,s8,s9,s10,s11,s12,s13,mk,s15,s16,s17,s18,s19,s20,s21,s22,s23,s24,l,s26,s27,s28,s29,s30,s31,s32,s33,())/\Wo mk/\(0<=i/\i<=3/\(l.length:Int)=i)/\∀v∈l,0<=v/\v<=s1)
  (fun a=>(3-a.2.2.1).toNat)
  (fun o=>match o with | .brk b=>∃mk l,b=(s1,s2,s4,s5,s6,s7,s8,s9,s10,s11,s12,s13,mk,s15,s16,s17,s18,s19,s20,s21,s22,s23,s24,l,s26,s27,s28,s29,s30,s31,s32,s33,())/\Wo mk/\(1<=(l.length:Int)/\(l.length:Int)<=3)/\∀v∈l,0<=v/\v<=s1 | _=>False) ?_
  (s1,s2,0,s4,s5,s6,s7,s8,s9,s10,s11,s12,s13,mk,s15,s16,s17,s18,s19,s20,s21,s22,s23,s24,[],s26,s27,s28,s29,s30,s31,s32,s33,()) ⟨0,mk,[],rfl,hm,by simp,by simp⟩ (vr (by simp))).elim fun o h=>?_
 rotate_left
 .obtain ⟨ho,hq⟩:=h;cases o with
  | again a=>exact hq.elim
  | ret a=>exact hq.elim
  | brk b =>
   obtain ⟨mk',l,rfl,h1,h2,h3⟩:=hq;exact ⟨mk',l,ho,h1,h2,h3⟩
 .rintro _ ⟨i,mk,l,rfl,h1,h2,h3⟩;obtain ⟨b0,mk0,e0,r0,k0⟩:=uP h1;have t0:=ug r0.1 (show (0:Int)<3 by omega);rw [zg5,e0,zBk,zG,yI (a:=1+b0.tmod 3) (by omega) (by omega)];by_cases hi:i<1+b0.tmod 3
  .rw [zb hi];obtain ⟨b,mk',e,r,k⟩:=uP k0;have w1:w64 (s1+1)=s1+1:=yI;have t:=ug r.1 (show 0<s1+1 by omega);rw [e,zBk,w1,zG,ze,uM (by simp;omega),zBk,yI (a:=i+1) (by omega) (by omega)];refine ⟨_,rfl,⟨i+1,mk',l++[b.tmod (s1+1)],rfl,k,by simp;omega,fun v hv=>?_⟩,?_⟩
   .rcases zBE.1 hv with hv | hv
    .exact h3 v hv
    .simp at hv;omega
   .show (3-(i+1)).toNat<(3-i).toNat;omega
  .rw [zd hi];exact ⟨_,rfl,mk0,l,rfl,k0,by omega,h3⟩
theorem zya {s1:Int}{s2:Int}{s4:Int}{s5:Int}{s6:Int}{s7:Int}{s8:Int}{s9:Int}{s10:Int}{s11:Int}{s12:Int}{s13:BitVec 64}{s15:Int}{s16:Int}{s17:Int}{s18:Int}{s19:Int}{s20:Int}{s21:Int}{s22:Int}{s23:Int}{s24:BitVec 64}{s25:List Int}{s27:List (List Int)}{s28:List (List Int)}{s29:List (List zr)}{s30:List zu}{s31:List (List Int)}{s32:List (List Int)}{s33:List (List zr)}{s34:List zu}(hr:1<=(s25.length:Int)) (hs:1<=s23/\s23<=2) {k0:Int}(hk:0<=k0/\k0<8) {mk:zW}(hm:Wo mk) :
  ∃mk' l,yM Zu (s1,s2,k0,s4,s5,s6,s7,s8,s9,s10,s11,s12,s13,mk,s15,s16,s17,s18,s19,s20,s21,s22,s23,s24,s25,[],s27,s28,s29,s30,s31,s32,s33,s34,())=some (.brk (s1,s2,s4,s5,s6,s7,s8,s9,s10,s11,s12,s13,mk',s15,s16,s17,s18,s19,s20,s21,s22,s23,s24,s25,l,s27,s28,s29,s30,s31,s32,s33,s34,()))/\Wo mk'/\(l.length:Int)<=7/\∀o∈l,zgA o (s25.length:Int) s23:=by
 refine (ZV (f:=Zu)
  (fun a=>∃i mk l,a=(s1,s2,i,s4,s5,s6,s7,s8,s9,s10,s11,s12,s13,mk,s15,s16,s17,s18,s19,s20,s21,s22,s23,s24,s25,l,s27,s28,s29,s30,s31,s32,s33,s34,())/\Wo mk/\(0<=i/\(l.length:Int)+i<=7)/\∀o∈l,zgA o (s25.length:Int) s23)
  (fun a=>(a.2.2.1).toNat)
  (fun o=>match o with | .brk b=>∃mk l,b=(s1,s2,s4,s5,s6,s7,s8,s9,s10,s11,s12,s13,mk,s15,s16,s17,s18,s19,s20,s21,s22,s23,s24,s25,l,s27,s28,s29,s30,s31,s32,s33,s34,())/\Wo mk/\(l.length:Int)<=7/\∀o∈l,zgA o (s25.length:Int) s23 | _=>False) ?_
  (s1,s2,k0,s4,s5,s6,s7,s8,s9,s10,s11,s12,s13,mk,s15,s16,s17,s18,s19,s20,s21,s22,s23,s24,s25,[],s27,s28,s29,s30,s31,s32,s33,s34,()) ⟨k0,mk,[],rfl,hm,by simp;omega,by simp⟩ (vr (by simp;omega))).elim fun o h=>?_
 rotate_left
 .obtain ⟨ho,hq⟩:=h;cases o with
  | again a=>exact hq.elim
  | ret a=>exact hq.elim
  | brk b =>
   obtain ⟨mk',l,rfl,h1,h2,h3⟩:=hq;exact ⟨mk',l,ho,h1,h2,h3⟩
 .rintro _ ⟨i,mk,l,rfl,h1,h2,h3⟩;rw [zhy,zG];by_cases hi:0<i
  .rw [zb hi];obtain ⟨o,mk',e,r,k⟩:=zAS h1 hr hs.1;rw [e,zBk,uM (by simp;omega),zBk,yI (a:=i-1) (by omega) (by omega)];refine ⟨_,rfl,⟨i-1,mk',l++[o],rfl,k,by simp;omega,fun v hv=>?_⟩,?_⟩
   .rcases zBE.1 hv with hv | hv
    .exact h3 v hv
    .simp at hv;subst hv;exact r
   .show (i-1).toNat<i.toNat;omega
  .rw [zd hi];exact ⟨_,rfl,mk,l,rfl,h1,by omega,h3⟩
theorem zyf {s1:Int}{s3:Int}{s4:Int}{s5:Int}{s6:Int}{s7:Int}{s8:Int}{s9:Int}{s10:Int}{s11:Int}{s12:BitVec 64}{s14:Int}{s15:Int}{s16:Int}{s17:Int}{s18:Int}{s19:Int}{s20:Int}{s21:Int}{s22:Int}{s23:BitVec 64}{s24:List (List Int)}{s25:List (List Int)}{s26:List (List zr)}{s27:List zu}{s28:List (List Int)}{s31:List zu}(hn:1<=s1/\s1<=6) (hm0:0<=s15/\s15<=2) (hs:1<=s22/\s22<=2) {mk:zW}(hm:Wo mk) :
  ∃regs progs,yM YQ (s1,0,s3,s4,s5,s6,s7,s8,s9,s10,s11,s12,mk,s14,s15,s16,s17,s18,s19,s20,s21,s22,s23,s24,s25,s26,s27,s28,[],[],s31,())=some (.brk (s3,s4,s5,s6,s7,s8,s9,s10,s11,s12,s14,s15,s16,s17,s18,s19,s20,s21,s22,s23,s24,s25,s26,s27,s28,regs,progs,s31,()))/\(regs.length:Int)=s15/\(regs.length=progs.length)/\(∀r∈regs,(1<=(r.length:Int)/\(r.length:Int)<=3)/\∀v∈r,0<=v/\v<=s1)/\∀(k:Nat) r ops,regs[k]? =some r->progs[k]? =some ops->(ops.length:Int)<=7/\∀o∈ops,zgA o (r.length:Int) s22:=by
 refine (ZV (f:=YQ)
  (fun a=>∃i mk regs progs,a=(s1,i,s3,s4,s5,s6,s7,s8,s9,s10,s11,s12,mk,s14,s15,s16,s17,s18,s19,s20,s21,s22,s23,s24,s25,s26,s27,s28,regs,progs,s31,())/\Wo mk/\(0<=i/\i<=s15/\(regs.length:Int)=i)/\(regs.length=progs.length)/\(∀r∈regs,(1<=(r.length:Int)/\(r.length:Int)<=3)/\∀v∈r,0<=v/\v<=s1)/\∀(k:Nat) r ops,regs[k]? =some r->progs[k]? =some ops->(ops.length:Int)<=7/\∀o∈ops,zgA o (r.length:Int) s22)
  (fun a=>(s15-a.2.1).toNat)
  (fun o=>match o with | .brk b=>∃regs progs,b=(s3,s4,s5,s6,s7,s8,s9,s10,s11,s12,s14,s15,s16,s17,s18,s19,s20,s21,s22,s23,s24,s25,s26,s27,s28,regs,progs,s31,())/\(regs.length:Int)=s15/\(regs.length=progs.length)/\(∀r∈regs,(1<=(r.length:Int)/\(r.length:Int)<=3)/\∀v∈r,0<=v/\v<=s1)/\∀(k:Nat) r ops,regs[k]? =some r->progs[k]? =some ops->(ops.length:Int)<=7/\∀o∈ops,zgA o (r.length:Int) s22 | _=>False) ?_
  (s1,0,s3,s4,s5,s6,s7,s8,s9,s10,s11,s12,mk,s14,s15,s16,s17,s18,s19,s20,s21,s22,s23,s24,s25,s26,s27,s28,[],[],s31,()) ⟨0,mk,[],[],rfl,hm,by simp;omega,rfl,by simp,by simp⟩ (vr (by simp;omega))).elim fun o h=>?_
 rotate_left
 .obtain ⟨ho,hq⟩:=h;cases o with
  | again a=>exact hq.elim
  | ret a=>exact hq.elim
  | brk b =>
   obtain ⟨regs,progs,rfl,h⟩:=hq;exact ⟨regs,progs,ho,h⟩
 .rintro _ ⟨i,mk,regs,progs,rfl,h1,h2,h3,h4,h5⟩;rw [zhb,zG];by_cases hi:i<s15
  .rw [zb hi];obtain ⟨mk1,r,e,g1,g2,g3⟩:=zyg hn h1;rw [e];simp only [zBk];rw [zG,ze];obtain ⟨b,mk2,e2,r2,k2⟩:=uP g1;rw [e2,zBk];obtain ⟨mk3,ops,e3,f1,f2,f3⟩:=zya (s25:=r) g2.1 hs (ug r2.1 (show (0:Int)<8 by omega)) k2;rw [e3];simp only [zBk];rw [uM (by simp;omega),zBk,uM (by simp;omega),zBk,yI (a:=i+1) (by omega) (by omega)];refine ⟨_,rfl,⟨i+1,mk3,regs++[r],progs++[ops],rfl,f1,by simp;omega,by simp [h3],fun v hv=>?_,fun k r' ops' hk1 hk2=>?_⟩,?_⟩
   .rcases zBE.1 hv with hv | hv
    .exact h4 v hv
    .simp at hv;subst hv;exact ⟨g2,g3⟩
   .rcases zBR k regs.length with hlt | hge
    .rw [zBM hlt] at hk1;rw [zBM (by omega)] at hk2;exact h5 k r' ops' hk1 hk2
    .rw [zBS hge] at hk1;rw [zBS (by omega),<-h3] at hk2;have hk0:k-regs.length=0:=by
      have:=(zBt.1 hk1).1;simpa using this
     rw [hk0] at hk1 hk2;simp at hk1 hk2;subst hk1;subst hk2;exact ⟨f2,f3⟩
   .show (s15-(i+1)).toNat<(s15-i).toNat;omega
  .rw [zd hi];exact ⟨_,rfl,regs,progs,rfl,by omega,h3,h4,h5⟩
theorem zzE (l:List (BitVec 8)):∃p,za5 l=some (p,())/\zB p:=by
 rw [zkF,zG];obtain ⟨m,em,hl⟩:∃m,cut l 0 (if 90<(l.length:Int) then 90 else (l.length:Int))=some m/\m.length<=90:=by
  unfold cut;by_cases h:90<(l.length:Int)
  .have h2:(90:Int)<=l.length:=by omega
   rw [zb h];exact ⟨l.take 90,by simp [h2],List.length_take_le _ _⟩
  .rw [zd h];exact ⟨l,by simp,by omega⟩
 rw [em,zBk];obtain ⟨b1,m1,e1,r1,k1⟩:=uP (m:=⟨m,0⟩) ⟨by simp,by simp,hl⟩;obtain ⟨b2,m2,e2,r2,k2⟩:=uP k1;obtain ⟨b3,m3,e3,r3,k3⟩:=uP k2;obtain ⟨b4,m4,e4,r4,k4⟩:=uP k3;obtain ⟨b5,m5,e5,r5,k5⟩:=uP k4;obtain ⟨b6,m6,e6,r6,k6⟩:=uP k5;obtain ⟨b7,m7,e7,r7,k7⟩:=uP k6;obtain ⟨b8,m8,e8,r8,k8⟩:=uP k7;obtain ⟨b9,m9,e9,r9,k9⟩:=uP k8;obtain ⟨b10,m10,e10,r10,k10⟩:=uP k9;simp only [e1,e2,e3,e4,e5,e6,e7,e8,e9,e10,zBk];have t1:=ug r1.1 (show (0:Int)<3 by omega);have t2:=ug r2.1 (show (0:Int)<3 by omega);have t3:=ug r3.1 (show (0:Int)<3 by omega);have t4:=ug r4.1 (show (0:Int)<2 by omega);have t5:=ug r5.1 (show (0:Int)<3 by omega);have t6:=ug r6.1 (show (0:Int)<4 by omega);have t7:=ug r7.1 (show (0:Int)<4 by omega);have t8:=ug r8.1 (show (0:Int)<2 by omega);have t9:=ug r9.1 (show (0:Int)<6 by omega);have t10:=ug r10.1 (show (0:Int)<4 by omega);rw [yI (a:=1+b9.tmod 6) (by omega) (by omega),yI (a:=1+b1.tmod 3) (by omega) (by omega),yI (a:=1+b3.tmod 3) (by omega) (by omega),yI (a:=1+b4.tmod 2) (by omega) (by omega),yI (a:=1+b5.tmod 3) (by omega) (by omega),
  yI (a:=1+b9.tmod 6+b10.tmod 4) (by omega) (by omega),yI (a:=1+b8.tmod 2) (by omega) (by omega)]
 obtain ⟨m11,objs,e11,g1,g2,g3⟩:=zzL (s1:=1+b9.tmod 6) (s22:=1+b8.tmod 2) (by omega) (by omega) k10;rw [e11];simp only [zBk];obtain ⟨b12,m12,e12,r12,k12⟩:=uP g1;rw [e12,zBk,yI (a:=1+b9.tmod 6+1) (by omega) (by omega),zG,ze];have t12:=ug r12.1 (show (0:Int)<1+b9.tmod 6+1 by omega);rw [zjj,zBk];obtain ⟨regs,progs,e13,f1,f2,f3,f4⟩:=zyf (s1:=1+b9.tmod 6) (s15:=b2.tmod 3) (s22:=1+b8.tmod 2) (by omega) (by omega) (by omega) k12;rw [e13];simp only [zBk];refine ⟨_,rfl,?_⟩;constructor<;>dsimp only
 case objs=>intro o ho;rw [g2];exact g3 o ho
 case roots=>exact ⟨b12.tmod (1+b9.tmod 6+1),by omega,by omega,by simp⟩
 case reg=>rw [g2];exact f3
 case prog=>exact f4
 all_goals first | omega | rfl
end B15
theorem zaI {α β B C:Type}{f:List α×Int×Int×β->Option (xJ (List α×Int×Int×β) B C)}{l:List α}{e:β}{b:B}(hl:l.length<1000000)
  (h1:∀(i:Nat) (x:α),l[i]? =some x->f (l,(l.length:Int),(i:Int),e)=some (.again (l,(l.length:Int),((i+1:Nat):Int),e)))
  (h2:f (l,(l.length:Int),(l.length:Int),e)=some (.brk b)):yM f (l,(l.length:Int),0,e)=some (.brk b):=by
 refine (ZV (f:=f) (fun a=>∃i:Nat,a=(l,(l.length:Int),(i:Int),e)/\i<=l.length) (fun a=>l.length-a.2.2.1.toNat) (fun o=>o= .brk b) ?_ (l,(l.length:Int),0,e) ⟨0,rfl,by omega⟩ (vr (by simp;omega))).elim fun o h=>?_;rotate_left
 .rw [h.1,h.2]
 .rintro _ ⟨i,rfl,hi⟩;rcases zBR i l.length with hlt | hge
  .refine ⟨_,h1 i _ (zBn hlt),⟨i+1,rfl,hlt⟩,?_⟩;show l.length-((i+1:Nat):Int).toNat<l.length-(i:Int).toNat;omega
  .have:i=l.length:=by omega
   subst this;exact ⟨_,h2,rfl⟩
theorem vj {α:Type}{l:List α}{i:Nat}{x:α}(h:l[i]? =some x):idx l (i:Int)=some x:=by
 rw [VH];simpa using h
theorem u6 {α:Type}{l:List α}{i:Nat}{x:α}(h:l[i]? =some x):(i:Int)<(l.length:Int):=by
 have:=(zBt.1 h).1;omega
theorem xU {i:Nat}(h:i<1000000:=by omega):w64 ((i:Int)+1)=((i+1:Nat):Int):=by
 rw [yI];omega
theorem zem (a b c:Int):uI a b c=some (decide (b<=a/\a<=c),()):=by
 rw [znn,zG];by_cases h:b<=a
 .rw [zb h];simp [h]
 .rw [zd h];simp [h]
theorem zu4 {l:List Int}{h:zC}(hl:l.length<1000000) (hv:∀v∈l,0<=v/\v<=(h.Objs.length:Int)):wJ l h=some (false,()):=by
 rw [Y9,XP,zaI (b:=()) hl (fun i x hx=>?_) (by rw [ui];simp)]
 .rfl
 .have hm:=hv x (zBq hx);have hlt:=u6 hx;rw [ui,zG,zb hlt,vj hx,zBk,zkY,zG,zd (show ¬x<0 by omega),zBk,xU];simp [show ¬(h.Objs.length:Int)<x by omega]
theorem zws {l:List Int}{n:Int}(hl:l.length<1000000) (hv:∀v∈l,0<=v/\v<=n):wT l n=some (false,()):=by
 rw [XE,Wm,zaI (b:=()) hl (fun i x hx=>?_) (by rw [uw];simp)]
 .rfl
 .have hm:=hv x (zBq hx);have hlt:=u6 hx;rw [uw,vj hx,zBk,zmU,zem,zBk,zBk,xU,zG,zb hlt];simp [hm]
theorem zwE {l:List (List Int)}{h:zC}(hl:l.length<1000000) (hs:h.Slots<1000000) (hv:∀o∈l,(o.length:Int)=h.Slots/\∀v∈o,0<=v/\v<=(h.Objs.length:Int)):wH l h=some (false,()):=by
 rw [Y5,XI,zaI (b:=()) hl (fun i x hx=>?_) (by rw [uj];simp)]
 .rfl
 .have hm:=hv x (zBq hx);have hlt:=u6 hx;rw [uj,vj hx,zBk,zmG,xx,zb hm.1,zu4 (by omega) hm.2,zBk,zBk,xU,zG,zb hlt];rfl
theorem zpu {r n:Int}(h:0<=r/\r<n) (h2:n<=4):yq r n=some (true,()):=by
 rw [zmJ,zG,zb h.1,zG];rw [ze];simp [h.2]
theorem zx2 {o:zr}{regs slots:Int}(h:zgA o regs slots) (h2:regs<=4) (h3:slots<=4):zgK o regs slots=some (true,()):=by
 obtain ⟨hr,h⟩:=h;have e1:=zpu hr h2;have h4: ¬4<slots:=by omega
 rw [zo2];rcases h with ⟨hk | hk,ha,hs⟩ | ⟨hk,ha,hs⟩ | ⟨hk | hk,ha,hs⟩
 .have e2:=zpu ha h2;simp [hk,e1,e2,hs.1,hs.2,h4]
 .have e2:=zpu ha h2;simp [hk,e1,e2,hs.1,hs.2,h4]
 .have e2:=zpu ha h2;simp [hk,e1,e2,hs]
 .simp [hk,e1,ha,hs]
 .simp [hk,e1,ha,hs]
theorem zzz {l:List zr}{regs slots:Int}(hl:(l.length:Int)<=64) (h:∀o∈l,zgA o regs slots) (h2:regs<=4) (h3:slots<=4):ziR l regs slots=some (true,()):=by
 rw [zqz,zG,zb hl,Yu,YH,zaI (b:=()) (by omega) (fun i x hx=>?_) (by rw [vE];simp)]
 .rfl
 .have hlt:=u6 hx;rw [vE,vj hx,zBk,znr,zx2 (h x (zBq hx)) h2 h3,zBk,zBk,xU,zG,zb hlt];rfl
theorem zwH (a b:Int):zhv [] a b=some (true,()):=by
 rw [zoo,ZQ,Yf,zaI (b:=()) (by simp) (fun i x hx=>by simp at hx) (by rw [ZO];simp)];rfl
def wR (n:Int):BitVec 64:=if n<1 then 0#64 else 18446744073709551615#64 >>> (64-min n 64).toNat
theorem zqQ (n:Int) (h:0<=n):zej n=some (wR n,()):=by
 rw [zpO,zG];unfold wR;by_cases h1:n<1
 .rw [zb h1,zb h1]
 .rw [zd h1,zd h1];simp only [zG];have e:(if 64<n then (64:Int) else n)=min n 64:=by
   by_cases h2:64<n
   .rw [zb h2];omega
   .rw [zd h2];omega
  rw [e,yI,ze,Nat.min_eq_left (by omega)]
theorem zqX:∀(r n:Fin 7),r.1<=n.1->bit (r.1:Int)&&& ~~~wR (n.1:Int)=0#64:=by decide
theorem znb {p:zc}(h:zB p):p.Roots&&& ~~~wR (p.H.Objs.length:Int)=0#64:=by
 obtain ⟨r,h1,h2,h3⟩:=h.roots;have hn:=h.n;have:=zqX ⟨r.toNat,by omega⟩ ⟨p.H.Objs.length,by omega⟩ (by show r.toNat<=p.H.Objs.length;omega);rw [h3];simpa [Int.toNat_of_nonneg h1] using this
theorem zvv {p:zc}(h:zB p):zbg p=some (true,()):=by
 obtain ⟨h1,h2,h3,h4,h5,h6,h7,_⟩:=h;rw [zkA];simp only [zem,zBk,zG];rw [yo,yo,yo,yo,yo,zb (by split<;>omega)];have:(if p.Price<p.Limit then p.Limit else p.Price)<=1000000:=by split<;>omega
 simp [this]
theorem zwd {p:zc}(h:zB p):zgw p.H=some (true,()):=by
 have:=h.slots;have:=h.n;rw [zpB,zG,yo,zG,yo,zG,yo,zwE (by omega) (by omega) h.objs];rfl
theorem zu6 {p:zc}(h:zB p):zg6 p=some (true,()):=by
 have hn:=h.n;have hm:=h.most;have hsl:=h.slots;have hmt:=h.mt;have hrl:=h.regs;have hpl:=h.progs;rw [zpo,zvv h];simp only [zBk,zB6,yg,zwd h,zem];rw [show decide ((p.H.Objs.length:Int)<=p.Most/\p.Most<=64)=true by simp;omega];simp only [zB6,yg,zqQ _ (show (0:Int)<=(p.H.Objs.length:Int) by omega),zBk,zql,znb h,decide_true,xx,zb h.regs,zb h.progs];rw [zaI (b:=(p,())) (by omega) (fun i x hx=>?_) (by rw [zeW];simp)]
 .simp [h.picks,zwH]
 .have hlt:=u6 hx;have hr:=h.reg x (zBq hx);obtain ⟨ops,hops⟩:∃ops,p.Progs[i]? =some ops:=⟨_,zBn (by omega)⟩
  obtain ⟨o1,o2⟩:=h.prog i x ops hx hops;rw [zeW,zG,zb hlt,vj hx];simp only [zBk,zem];rw [show decide (1<=(x.length:Int)/\(x.length:Int)<=4)=true by simp;omega];simp only [zB6,yg,zws (show x.length<1000000 by omega) hr.2,zBk,vj hops,zzz (show (ops.length:Int)<=64 by omega) o2 (show (x.length:Int)<=4 by omega) (show p.H.Slots<=4 by omega),xU (show i<1000000 by omega)]
theorem zhC {n:Int}(h:0<=n) (h2:n<4294967296):U5 n=some n.toNat:=by rw [zro];simp [h,h2]
theorem zqY {n:Int}(h:0<n) (h2:n<4294967296):zeO n=some n.toNat:=by rw [zo9];simp [h,h2]
def zoD (l:List Int):BitVec 64:=l.foldl (fun s o=>s|||bit o) 0#64
def wN (p:zc):BitVec 64:=p.Regs.foldl (fun s l=>s|||zoD l) p.Roots
def zvc (a1:BitVec 64):BitVec 64 :=
 let a:=((a1 >>> 1)&&&6148914691236517205#64)+(a1&&&6148914691236517205#64);let b:=((a >>> 2)&&&3689348814741910323#64)+(a&&&3689348814741910323#64);let c:=((b >>> 4)+b)&&&1085102592571150095#64;let d:=c+(c >>> 8);let e:=d+(d >>> 16)
 e+(e >>> 32)
def cnt (s:BitVec 64):Int:=(zC4 64 (zvc s).toInt&&&zC4 64 127).toInt
theorem zqZ (s:BitVec 64):zeG s=some (cnt s,()):=by
 rw [zp3,zjJ,zs2];rfl
theorem zkE {m:List Int}(h:m.length<4294967296):uX m=some (m,()):=by
 rw [zfh,zBy,uM h,zBk];cases m with
 | nil=>simp [zh4]
 | cons a l=>simp
theorem zAA {l:List Int}(hl:l.length<1000000):znE l=some (zoD l,()):=by
 rw [zup];refine (ZV (f:=ziV) (fun a=>∃i:Nat,a=((l.take i).foldl (fun s o=>s|||bit o) 0#64,l,(l.length:Int),(i:Int),())/\i<=l.length) (fun a=>l.length-a.2.2.2.1.toNat) (fun o=>o= .brk (zoD l,())) ?_ (0#64,l,(l.length:Int),0,()) ⟨0,rfl,by omega⟩ (vr (by simp;omega))).elim fun o h=>?_;rotate_left
 .rw [h.1,h.2];rfl
 .rintro _ ⟨i,rfl,hi⟩;rw [zpR,zG];rcases zBR i l.length with hlt | hge
  .have hx:=zBn hlt;rw [yo,vj hx,zBk,zjj,zBk,xU];refine ⟨_,rfl,⟨i+1,?_,hlt⟩,?_⟩
   .rw [zCO,hx];simp only [Option.toList_some,List.foldl_append,zCs,List.foldl_nil]
   .show l.length-((i+1:Nat):Int).toNat<l.length-(i:Int).toNat;omega
  .rw [ze];have:i=l.length:=by omega
   subst this;exact ⟨_,rfl,by rw [zCP];rfl⟩
theorem zoU {p:zc}(hl:p.Regs.length<1000000) (hr:∀r∈p.Regs,r.length<1000000):zcS p=some (wN p,()):=by
 rw [zpc];refine (ZV (f:=zcJ) (fun a=>∃i:Nat,a=((p.Regs.take i).foldl (fun s l=>s|||zoD l) p.Roots,p.Regs,(p.Regs.length:Int),(i:Int),())/\i<=p.Regs.length) (fun a=>p.Regs.length-a.2.2.2.1.toNat) (fun o=>o= .brk (wN p,())) ?_ (p.Roots,p.Regs,(p.Regs.length:Int),0,()) ⟨0,rfl,by omega⟩ (vr (by simp;omega))).elim fun o h=>?_;rotate_left
 .rw [h.1,h.2];rfl
 .rintro _ ⟨i,rfl,hi⟩;rw [zlF,zG];rcases zBR i p.Regs.length with hlt | hge
  .have hx:=zBn hlt;rw [yo,vj hx,zBk,zAA (hr _ (zBU hlt)),zBk,xU];refine ⟨_,rfl,⟨i+1,?_,hlt⟩,?_⟩
   .rw [zCO,hx];simp only [Option.toList_some,List.foldl_append,zCs,List.foldl_nil]
   .show p.Regs.length-((i+1:Nat):Int).toNat<p.Regs.length-(i:Int).toNat;omega
  .rw [ze];have:i=p.Regs.length:=by omega
   subst this;exact ⟨_,rfl,by rw [zCP];rfl⟩
theorem zwy {l:List (List Int)}(hl:l.length<1000000) (h:∀r∈l,r.length<1000000):vy l=some (l,()):=by
 have key:∀n:Int,n=(l.length:Int)->yM xr (n,0,l,())=some (.brk (l,())):=by
  rintro _ rfl;refine (ZV (f:=xr) (fun a=>∃i:Nat,a=((l.length:Int),(i:Int),l,())/\i<=l.length) (fun a=>l.length-a.2.1.toNat) (fun o=>o= .brk (l,())) ?_ ((l.length:Int),0,l,()) ⟨0,rfl,by omega⟩ (vr (by simp;omega))).elim fun o h=>?_;rotate_left
  .rw [h.1,h.2]
  .rintro _ ⟨i,rfl,hi⟩;rw [XG,zG];rcases zBR i l.length with hlt | hge
   .have hx:=zBn hlt;have hr:=h _ (zBU hlt);have e:Yh l (i:Int)=some i:=by rw [WB];simp
    rw [yo,e];simp only [zBk];rw [hx,zBk,zkE (by omega),zBk,xU];refine ⟨_,rfl,⟨i+1,by simp,hlt⟩,?_⟩;show l.length-((i+1:Nat):Int).toNat<l.length-(i:Int).toNat;omega
   .rw [ze];have:i=l.length:=by omega
    subst this;exact ⟨_,rfl,rfl⟩
 have hc:U5 (l.length:Int)=some l.length:=by rw [zhC (by omega) (by omega)];simp
 rw [W4];simp only [decide_true,zI,hc,zBk,zB8];cases l with
 | nil=>simp;rw [key 0 rfl];rfl
 | cons a r=>simp only [List.isEmpty_cons,yg];rw [key _ rfl];rfl
def ze7 (cap:Int):List (BitVec 64):=[1#64,1#64]++zC3 cap.toNat 0#64
theorem zt0 {c:Int}(h:1<=c) (h2:c<=64):zfl c=some (ze7 c,()):=by
 have e:(if 64<(if c<1 then (1:Int) else c) then (64:Int) else (if c<1 then (1:Int) else c))=c:=by
  rw [zd (show ¬c<1 by omega),ze]
 have w:w64 (2+c)=2+c:=yI;have hc:U5 (2+c)=some (2+c.toNat):=by rw [zhC (by omega) (by omega)];congr 1;omega
 rw [znF];simp only [zG,e,w,if_true,hc,zBk];rw [WB (by omega) (by simp;omega),zBk,WB (by omega) (by simp;omega),zBk];have e2:zC3 (2+c.toNat) 0#64=0#64::0#64::zC3 c.toNat 0#64:=by rw [Nat.add_comm 2];rfl
 rw [e2];rfl
theorem zv9 {m:Int}(h:0<=m) (h2:m<=16):zgD m=some (⟨0,0,0,zC3 m.toNat 0⟩,()):=by
 have e:(if (if 16<m then (16:Int) else m)<0 then (0:Int) else (if 16<m then (16:Int) else m))=m:=by
  rw [zd (show ¬16<m by omega),ze]
 have hc:U5 m=some m.toNat:=zhC (by omega) (by omega);rw [zoS];simp only [zG,e,if_true,hc,zBk]
def links (m:List (BitVec 64)) (next:Int):List Int->List (BitVec 64)
 | []=>m
 | [a]=>st m (wc (next+a)) 0#64
 | a::b::l=>links (st m (wc (next+a)) (zC4 64 b)) next (b::l)
def zbV (m:List (BitVec 64)) (head next:Int) (l:List Int):List (BitVec 64):=st (links m next l) head (xz 0#64 (l.headD 0))
theorem ZU (m:List (BitVec 64)) (a:Int) (v:BitVec 64):(st m a v).length=m.length:=by unfold st;split<;>simp
theorem zb8:∀(l:List Int) (m:List (BitVec 64)) (n:Int),(links m n l).length=m.length
 | [],_,_=>rfl
 | [a],m,n=>ZU _ _ _
 | a::b::l,m,n=>by simp only [links];rw [zb8 (b::l),ZU]
theorem znD (m:List (BitVec 64)) (h n:Int) (l:List Int):(zbV m h n l).length=m.length:=by unfold zbV;rw [ZU,zb8]
theorem znw {head next:Int}{l:List Int}(hl:l.length<1000000):∀(k:Nat) (m:List (BitVec 64)) (i:Nat),l.length-i=k->i<=l.length->m.length<4294967296 ->
  ∀n,k<n->vd zdJ n (m,head,next,l,(l.length:Int),(i:Int),())=some (.brk (links m next (l.drop i),head,l,()))
 | 0,m,i,hk,hi,hm,n+1,hn=>by
  have:i=l.length:=by omega
  subst this;simp only [vd];rw [zfL,zG,ze,zBk,List.drop_length];rfl
 | k+1,m,i,hk,hi,hm,n+1,hn=>by
  have hlt:i<l.length:=by omega
  have hx:=zBn hlt;simp only [vd];rw [zfL,zG,yo,xU,zG,Zg];by_cases h2:i+1<l.length
  .have hy:=zBn h2;have ed:l.drop i=l[i]::l[i+1]::l.drop (i+2):=by
    rw [zCt hlt,zCt h2]
   rw [yo,vj hy,zBk,vj hx,zBk,zbi hm,zBk,zBk];dsimp only;rw [znw hl k _ (i+1) (by omega) (by omega) (by rw [ZU];exact hm) n (by omega),ed];rw [zCt h2];rfl
  .have ed:l.drop i=[l[i]]:=by
    rw [zCt hlt,zCM (by omega)]
   rw [ze,vj hx,zBk,zbi hm,zBk,zBk];dsimp only;rw [znw hl k _ (i+1) (by omega) (by omega) (by rw [ZU];exact hm) n (by omega),ed,zCM (by omega)];rfl
theorem zrt {m:List (BitVec 64)}(hm:m.length<4294967296) {head next:Int}{l:List Int}(hl:l.length<1000000):zey m head next l=some (zbV m head next l,()):=by
 have e:=znw (head:=head) (next:=next) hl l.length m 0 (by omega) (by omega) hm rounds (vr (by omega));rw [show ((0:Nat):Int)=0 from rfl] at e;rw [zqd,Uh,e];simp only [zBk,List.drop_zero,zG];unfold zbV;cases l with
 | nil =>
  rw [zd (by simp),zfV,zBk,zbi (by rw [zb8];exact hm)];rfl
 | cons a r =>
  have:idx (a::r) 0=some a:=by rw [VH];rfl
  rw [zb (by simp),this,zBk,zfV,zBk,zbi (by rw [zb8];exact hm)];rfl
def zkd:Nat->BitVec 64->Option (List Int)
 | 0,_=>none
 | f+1,s=>bif decide (s=0#64) then some [] else (zkd f (s&&&(s-1#64))).map fun l=>(((Go.Lib.ctz 64 s.toNat:Nat):Int)+1)::l
theorem ztT:∀t:Fin 64,zkd 66 (zC2 64 t.1)=some (((zC5 6).filter fun i=>(zC2 64 t.1).getLsbD i).map fun i:Nat=>(i:Int)+1):=by decide +kernel
def X9 (s:BitVec 64):List Int:=((zC5 6).filter fun i=>s.getLsbD i).map fun i:Nat=>(i:Int)+1
theorem zsU {s:BitVec 64}(h:s&&& ~~~63#64=0#64):∃t:Fin 64,s=zC2 64 t.1:=by
 have h2:s=s&&&63#64:=by
  apply zCI;intro i hi;have:=congrArg (fun x=>x.getLsbD i) h;simp only [zCw,zCQ,hi,decide_true,zCu,zCJ] at this ⊢;cases h1:s.getLsbD i<;>cases h3:(63#64:BitVec 64).getLsbD i<;>simp_all
 have h3:s.toNat<64:=by
  rw [h2,zCi];exact Nat.lt_of_le_of_lt Nat.and_le_right (by decide)
 exact ⟨⟨s.toNat,h3⟩,by simp⟩
theorem zAZ:∀t:Fin 64,Go.Lib.ctz 64 t.1<=64:=by decide +kernel
theorem zra:∀(f:Nat) (s:BitVec 64),s.toNat<64->VA f s=zkd f s
 | 0,_,_=>rfl
 | f+1,s,h=>by
  simp only [VA,zkd];rw [zra f _ (by rw [zCi];exact Nat.lt_of_le_of_lt Nat.and_le_left h)];have:Go.Lib.ctz 64 s.toNat<=64:=zAZ ⟨s.toNat,h⟩;have e:w64 (tz s+1)=((Go.Lib.ctz 64 s.toNat:Nat):Int)+1:=by
   unfold tz;exact yI
  rw [e]
theorem zkp:∀(l acc:List Int),(acc.length+l.length)<4294967296->YI zfq l (acc,())=some (acc++l,())
 | [],acc,_=>by simp [YI]
 | a::l,acc,h=>by
  simp only [zBv] at h;rw [YI,zn5,uM (by simp;omega),zBk,zBk,zkp l _ (by simp;omega)];simp
theorem zxC (s:BitVec 64):(X9 s).length<=6:=by
 unfold X9;rw [zCK];exact zCf (List.length_filter_le _ _) (by simp)
theorem zyA {s:BitVec 64}(h:s&&& ~~~63#64=0#64):zcV s=some (X9 s,()):=by
 obtain ⟨t,rfl⟩:=zsU h;have e:zgz (zC2 64 t.1)=some (X9 (zC2 64 t.1)):=by
  show VA 66 _=_;rw [zra 66 _ (by simp;omega),ztT t];rfl
 have:=zxC (zC2 64 t.1);rw [zkW,zkU,zBk,e,zBk,zkp _ _ (by simp;omega)];rfl
theorem zpD (n:Nat) (hn:1<=n):∀(f:Nat) (l:List Int),(ua n f l).length<=l.length
 | 0,l=>by simp [ua]
 | f+1,[]=>by simp [ua]
 | f+1,x::l=>by
  have:=zpD n hn f ((x::l).drop n);simp only [ua,zBv,zCz] at this ⊢;omega
theorem ziU (n:Nat):∀(f:Nat) (l c:List Int),c∈ua n f l->c.length<=l.length
 | 0,l,c,h=>by simp [ua] at h
 | f+1,[],c,h=>by simp [ua] at h
 | f+1,x::l,c,h=>by
  simp only [ua,zBG] at h;rcases h with rfl | h
  .rw [zCq];exact Nat.min_le_right _ _
  .have:=ziU n f _ c h;simp only [zCz] at this;omega
def wY (p:zc) (w:Nat):zh:=⟨0,0,0,(w:Int)+1,0,[],⟨2,0,zZ p ((w:Int)+1),p.Cap,0#64,0#64,0,0⟩,⟨0,0,0,0,0#64,0,0,0⟩,⟨0,0,0,0,⟨0,0,0,0,0#64,0#64,0,0⟩,⟨0,0,0,0,0#64,0,0,0⟩,0,0⟩⟩
def YB (p:zc) (k:Nat):List (BitVec 64):=(zC5 k).flatMap fun _=>ze7 p.Cap
theorem zoy (c:Int):(ze7 c).length=c.toNat+2:=by unfold ze7;rw [zBz,zB8];exact Nat.add_comm _ _
theorem zjb (p:zc) (k:Nat):YB p (k+1)=YB p k++ze7 p.Cap:=by unfold YB;rw [zC7,zCN];simp
theorem Uj (p:zc):∀k,(YB p k).length=k*(p.Cap.toNat+2)
 | 0=>by simp [YB]
 | k+1=>by rw [zjb,zBz,Uj p k,zoy,Nat.succ_mul]
theorem zAn {p:zc}{s1:BitVec 64}{s5:Int}{s6:Int}{s7:Int}{s8:Int}{s9:Int}{s10:Int}{s11:Int}{s12:Int}{s13:Int}{s14:BitVec 64}{s15:Int}{s16:zA}{s17:Int}{s18:Int}{s19:Bool}{s20:Bool}{s21:Int}{s22:Int}{s23:Int}{s24:Int}{s25:zF}{s26:zc}{s27:Int}{s28:zA}{s29:Int}{s30:Int}{s31:Bool}{s32:Bool}{s33:Int}{s34:zD}{s35:zF}{s36:List (List Int)}{s37:List (List Int)}{s38:List (List zr)}{s39:List zu}{s40:List (List Int)}{s41:List (BitVec 64)}{s42:List (List Int)}{s43:List Int}{s44:List Int}{s45:List zh}{s46:List zg}{s47:List (List Int)}{s49:List (List Int)}{s50:List Int}{s52:List zg}(hp:zB p) :
  yM zaS (s1,p.Workers,0,p,s5,s6,s7,s8,s9,s10,s11,s12,s13,s14,s15,s16,s17,s18,s19,s20,s21,s22,s23,s24,s25,s26,s27,s28,s29,s30,s31,s32,s33,s34,s35,s36,s37,s38,s39,s40,s41,s42,s43,s44,s45,s46,s47,[],s49,s50,[],s52,())=some (.brk (s1,p,s5,s6,s7,s8,s9,s10,s11,s12,s13,s14,s15,s16,s17,s18,s19,s20,s21,s22,s23,s24,s25,s26,s27,s28,s29,s30,s31,s32,s33,s34,s35,s36,s37,s38,s39,s40,s41,s42,s43,s44,s45,s46,s47,(YB p p.Workers.toNat),s49,s50,((zC5 p.Workers.toNat).map (wY p)),s52,())):=by
 have hw:=hp.wk;have hc:=hp.cap;refine (ZV (f:=zaS) (fun a=>∃i:Nat,a=(s1,p.Workers,(i:Int),p,s5,s6,s7,s8,s9,s10,s11,s12,s13,s14,s15,s16,s17,s18,s19,s20,s21,s22,s23,s24,s25,s26,s27,s28,s29,s30,s31,s32,s33,s34,s35,s36,s37,s38,s39,s40,s41,s42,s43,s44,s45,s46,s47,(YB p i),s49,s50,((zC5 i).map (wY p)),s52,())/\(i:Int)<=p.Workers) (fun a=>(p.Workers-a.2.2.1).toNat) (fun o=>o= .brk (s1,p,s5,s6,s7,s8,s9,s10,s11,s12,s13,s14,s15,s16,s17,s18,s19,s20,s21,s22,s23,s24,s25,s26,s27,s28,s29,s30,s31,s32,s33,s34,s35,s36,s37,s38,s39,s40,s41,s42,s43,s44,s45,s46,s47,(YB p p.Workers.toNat),s49,s50,((zC5 p.Workers.toNat).map (wY p)),s52,())) ?_ (s1,p.Workers,0,p,s5,s6,s7,s8,s9,s10,s11,s12,s13,s14,s15,s16,s17,s18,s19,s20,s21,s22,s23,s24,s25,s26,s27,s28,s29,s30,s31,s32,s33,s34,s35,s36,s37,s38,s39,s40,s41,s42,s43,s44,s45,s46,s47,[],s49,s50,[],s52,()) ⟨0,rfl,by omega⟩ (vr (by dsimp only;omega))).elim fun o h=>?_;rotate_left
 .rw [h.1,h.2]
 .rintro _ ⟨i,rfl,hi⟩;rw [zmH,zG];by_cases hlt:(i:Int)<p.Workers
  .have hl:=Uj p i;have hl2:=zoy p.Cap;have hb:i*(p.Cap.toNat+2)<=3*5:=zCD (by omega) (by omega);rw [zb hlt,zt0 hc.1 (by omega),zBk,uM (l:=YB p i++ze7 p.Cap) (by rw [zBz];omega),zBk,zen,zBk,V6,zBk,uM (by simp<;>omega),zBk,xU];refine ⟨_,rfl,⟨i+1,?_,by omega⟩,?_⟩
   .rw [zjb,zC7,List.map_append];rfl
   .show (p.Workers-((i+1:Nat):Int)).toNat<(p.Workers-(i:Int)).toNat;omega
  .rw [zd hlt];have:i=p.Workers.toNat:=by omega
   subst this;exact ⟨_,rfl,rfl⟩
def xN (k:Nat):List Int:=(zC5 k).map fun i:Nat=>(i:Int)+1
theorem zsk (k:Nat):(xN k).length=k:=by simp [xN]
theorem zzR {b:Int}{s1:BitVec 64}{s4:zc}{s5:Int}{s6:Int}{s7:Int}{s8:Int}{s9:Int}{s10:Int}{s11:Int}{s12:Int}{s13:Int}{s14:BitVec 64}{s15:Int}{s16:zA}{s17:Int}{s18:Int}{s19:Bool}{s20:Bool}{s21:Int}{s22:Int}{s23:Int}{s24:Int}{s25:zF}{s26:zc}{s27:Int}{s28:zA}{s29:Int}{s30:Int}{s31:Bool}{s32:Bool}{s33:Int}{s34:zD}{s35:zF}{s37:List (List Int)}{s38:List (List Int)}{s39:List (List zr)}{s40:List zu}{s41:List (List Int)}{s42:List (BitVec 64)}{s43:List (List Int)}{s44:List Int}{s45:List Int}{s46:List zh}{s47:List zg}{s48:List (List Int)}{s49:List (BitVec 64)}{s50:List (List Int)}{s51:List Int}{s52:List zh}{s53:List zg}(hb:0<=b/\b<1000) :
  yM zab (s1,b,0,s4,s5,s6,s7,s8,s9,s10,s11,s12,s13,s14,s15,s16,s17,s18,s19,s20,s21,s22,s23,s24,s25,s26,s27,s28,s29,s30,s31,s32,s33,s34,s35,[],s37,s38,s39,s40,s41,s42,s43,s44,s45,s46,s47,s48,s49,s50,s51,s52,s53,())=some (.brk (s1,s4,s5,s6,s7,s8,s9,s10,s11,s12,s13,s14,s15,s16,s17,s18,s19,s20,s21,s22,s23,s24,s25,s26,s27,s28,s29,s30,s31,s32,s33,s34,s35,(xN b.toNat),s37,s38,s39,s40,s41,s42,s43,s44,s45,s46,s47,s48,s49,s50,s51,s52,s53,())):=by
 refine (ZV (f:=zab) (fun a=>∃i:Nat,a=(s1,b,(i:Int),s4,s5,s6,s7,s8,s9,s10,s11,s12,s13,s14,s15,s16,s17,s18,s19,s20,s21,s22,s23,s24,s25,s26,s27,s28,s29,s30,s31,s32,s33,s34,s35,(xN i),s37,s38,s39,s40,s41,s42,s43,s44,s45,s46,s47,s48,s49,s50,s51,s52,s53,())/\(i:Int)<=b) (fun a=>(b-a.2.2.1).toNat) (fun o=>o= .brk (s1,s4,s5,s6,s7,s8,s9,s10,s11,s12,s13,s14,s15,s16,s17,s18,s19,s20,s21,s22,s23,s24,s25,s26,s27,s28,s29,s30,s31,s32,s33,s34,s35,(xN b.toNat),s37,s38,s39,s40,s41,s42,s43,s44,s45,s46,s47,s48,s49,s50,s51,s52,s53,())) ?_ (s1,b,0,s4,s5,s6,s7,s8,s9,s10,s11,s12,s13,s14,s15,s16,s17,s18,s19,s20,s21,s22,s23,s24,s25,s26,s27,s28,s29,s30,s31,s32,s33,s34,s35,[],s37,s38,s39,s40,s41,s42,s43,s44,s45,s46,s47,s48,s49,s50,s51,s52,s53,()) ⟨0,rfl,by omega⟩ (vr (by dsimp only;omega))).elim fun o h=>?_;rotate_left
 .rw [h.1,h.2]
 .rintro _ ⟨i,rfl,hi⟩;rw [zll,zG];by_cases hlt:(i:Int)<b
  .have:=zsk i;rw [zb hlt,uM (by rw [zBz];simp;omega),zBk,xU];refine ⟨_,rfl,⟨i+1,?_,by omega⟩,?_⟩
   .unfold xN;rw [zC7,List.map_append];rfl
   .show (b-((i+1:Nat):Int)).toNat<(b-(i:Int)).toNat;omega
  .rw [zd hlt];have:i=b.toNat:=by omega
   subst this;exact ⟨_,rfl,rfl⟩
theorem zu1 {s1:zc}{s2:Int}{s3:Int}{s4:Int}{s5:Int}{s6:Int}{s7:Int}{s8:Int}{s9:Int}{s10:Int}{s11:BitVec 64}{s12:Int}{s13:zA}{s14:Int}{s15:Int}{s16:Bool}{s17:Bool}{s18:Int}{s19:Int}{s20:Int}{s21:Int}{s22:zF}{s23:zc}{s24:Int}{s25:zA}{s26:Int}{s27:Int}{s28:Bool}{s29:Bool}{s30:Int}{s31:zD}{s32:zF}{s33:List Int}{s34:List (List Int)}{s35:List (List Int)}{s36:List (List zr)}{s37:List zu}{s38:List (List Int)}{s39:List (BitVec 64)}{s40:List (List Int)}{s41:List Int}{s42:List Int}{s43:List zh}{s44:List zg}{s45:List (List Int)}{s46:List (BitVec 64)}{s48:List Int}{s49:List zh}{s50:List zg}:∀(ys acc:List (List Int)),acc.length+ys.length<1000000->(∀c∈ys,c.length<1000000)->YI zc9 ys (s1,s2,s3,s4,s5,s6,s7,s8,s9,s10,s11,s12,s13,s14,s15,s16,s17,s18,s19,s20,s21,s22,s23,s24,s25,s26,s27,s28,s29,s30,s31,s32,s33,s34,s35,s36,s37,s38,s39,s40,s41,s42,s43,s44,s45,s46,acc,s48,s49,s50,())=some (s1,s2,s3,s4,s5,s6,s7,s8,s9,s10,s11,s12,s13,s14,s15,s16,s17,s18,s19,s20,s21,s22,s23,s24,s25,s26,s27,s28,s29,s30,s31,s32,s33,s34,s35,s36,s37,s38,s39,s40,s41,s42,s43,s44,s45,s46,(acc++ys),s48,s49,s50,())
 | [],acc,_,_=>by simp [YI]
 | y::ys,acc,h,hc=>by
  simp only [zBv] at h;have hy:=hc y (zBx ..);rw [YI,zl4,zkE (by omega),zBk,uM (by simp<;>omega),zBk,zBk,zu1 ys _ (by simp<;>omega) (fun c h'=>hc c (zBr _ h'))];simp
def ve (r:List Int):zg:=⟨0,0,0,0,0,0,0,0,r,[],[],⟨0,0,0,0,0#64,0,0,0⟩,⟨0,0,0,0,⟨0,0,0,0,0#64,0#64,0,0⟩,⟨0,0,0,0,0#64,0,0,0⟩,0,0⟩⟩
theorem zzT {p:zc}{s4:Int}{s5:Int}{s6:Int}{s7:Int}{s8:Int}{s9:Int}{s10:Int}{s11:Int}{s12:Int}{s13:BitVec 64}{s14:Int}{s15:zA}{s16:Int}{s17:Int}{s18:Bool}{s19:Bool}{s20:Int}{s21:Int}{s22:Int}{s23:Int}{s24:zF}{s25:zc}{s26:Int}{s27:List (BitVec 64)}{s28:zA}{s29:Int}{s30:Int}{s31:Bool}{s32:Bool}{s33:Int}{s34:zD}{s35:zF}{s36:List (List Int)}{s37:List (List Int)}{s38:List (List zr)}{s39:List zu}{s40:List (List Int)}{s41:List (BitVec 64)}{s42:List (List Int)}{s43:List Int}{s44:List Int}{s45:List zh}{s46:List zg}{s47:List (List Int)}{s48:List (List Int)}{s49:List Int}{s50:List zh}(hl:p.Regs.length<1000000) (hr:∀r∈p.Regs,r.length<1000000) :
  yM U8 (p.Regs,(p.Regs.length:Int),0,s4,s5,s6,s7,s8,s9,s10,s11,s12,s13,s14,s15,s16,s17,s18,s19,s20,s21,s22,s23,s24,s25,s26,s27,s28,s29,s30,s31,s32,s33,s34,s35,s36,s37,s38,s39,s40,s41,s42,s43,s44,s45,s46,s47,s48,s49,s50,[],())=some (.brk (s4,s5,s6,s7,s8,s9,s10,s11,s12,s13,s14,s15,s16,s17,s18,s19,s20,s21,s22,s23,s24,s25,s26,s27,s28,s29,s30,s31,s32,s33,s34,s35,s36,s37,s38,s39,s40,s41,s42,s43,s44,s45,s46,s47,s48,s49,s50,(p.Regs.map ve),())):=by
 refine (ZV (f:=U8) (fun a=>∃i:Nat,a=(p.Regs,(p.Regs.length:Int),(i:Int),s4,s5,s6,s7,s8,s9,s10,s11,s12,s13,s14,s15,s16,s17,s18,s19,s20,s21,s22,s23,s24,s25,s26,s27,s28,s29,s30,s31,s32,s33,s34,s35,s36,s37,s38,s39,s40,s41,s42,s43,s44,s45,s46,s47,s48,s49,s50,((p.Regs.take i).map ve),())/\i<=p.Regs.length) (fun a=>p.Regs.length-a.2.2.1.toNat) (fun o=>o= .brk (s4,s5,s6,s7,s8,s9,s10,s11,s12,s13,s14,s15,s16,s17,s18,s19,s20,s21,s22,s23,s24,s25,s26,s27,s28,s29,s30,s31,s32,s33,s34,s35,s36,s37,s38,s39,s40,s41,s42,s43,s44,s45,s46,s47,s48,s49,s50,(p.Regs.map ve),())) ?_ (p.Regs,(p.Regs.length:Int),0,s4,s5,s6,s7,s8,s9,s10,s11,s12,s13,s14,s15,s16,s17,s18,s19,s20,s21,s22,s23,s24,s25,s26,s27,s28,s29,s30,s31,s32,s33,s34,s35,s36,s37,s38,s39,s40,s41,s42,s43,s44,s45,s46,s47,s48,s49,s50,[],()) ⟨0,rfl,by omega⟩ (vr (by dsimp only;omega))).elim fun o h=>?_;rotate_left
 .rw [h.1,h.2]
 .rintro _ ⟨i,rfl,hi⟩;rw [zlY,zG];rcases zBR i p.Regs.length with hlt | hge
  .have hx:=zBn hlt;have hh:=hr _ (zBU hlt);rw [yo,vj hx,zBk,zkE (by omega),zBk,uM (by simp<;>omega),zBk,xU];refine ⟨_,rfl,⟨i+1,?_,hlt⟩,?_⟩
   .rw [zCO,hx,List.map_append];rfl
   .show p.Regs.length-((i+1:Nat):Int).toNat<p.Regs.length-(i:Int).toNat;omega
  .rw [ze];have:i=p.Regs.length:=by omega
   subst this;exact ⟨_,rfl,by rw [zCP]⟩
def z7 (p:zc):Nat:=(p.Most+p.Workers+p.Mutators).toNat
def xC (p:zc):List (List Int):=ua p.Bin.toNat (X9 (wN p)).length (X9 (wN p))
def yW (p:zc):za :=
 {P:=p,H:=p.H,
  M:=zbV (zbV (YB p p.Workers.toNat++zC3 (2+z7 p) 0#64) (yb p) (zO p) ((xN (z7 p)).take (xC p).length)) (zO p) (zO p) ((xN (z7 p)).drop (xC p).length),
  Bins:=[[]]++xC p++zC3 (z7 p-(xC p).length) [],
  T:=⟨wN p,0#64⟩,Work:=cnt (wN p),Epoch:=0,Flag:=false,Done:=false,Restarts:=0,
  Acks:=zC3 p.Mutators.toNat 0,L:=⟨0,0,0,zC3 p.Mutators.toNat 0⟩,
  Ws:=(zC5 p.Workers.toNat).map (wY p),Ms:=p.Regs.map ve,D:=⟨0,0⟩}
theorem zwO {r n:Int}(h:0<=r) (h2:r<=n) (h3:n<=6):bit r&&& ~~~wR n=0#64:=by
 have:=zqX ⟨r.toNat,by omega⟩ ⟨n.toNat,by omega⟩ (by show r.toNat<=n.toNat;omega);simpa [Int.toNat_of_nonneg h,Int.toNat_of_nonneg (show 0<=n by omega)] using this
theorem zsc {a b c:BitVec 64}(ha:a&&& ~~~c=0#64) (hb:b&&& ~~~c=0#64):(a|||b)&&& ~~~c=0#64:=by
 apply zCI;intro i hi;have h1:=congrArg (fun x=>x.getLsbD i) ha;have h2:=congrArg (fun x=>x.getLsbD i) hb;simp only [zCw,BitVec.getLsbD_or,zCQ,zCJ,hi,decide_true,zCu] at h1 h2 ⊢;revert h1 h2;generalize a.getLsbD i=x;generalize b.getLsbD i=y;generalize c.getLsbD i=z;cases x<;>cases y<;>cases z<;>decide
theorem zwc {c:BitVec 64}{l:List Int}(h:∀o∈l,bit o&&& ~~~c=0#64):∀(z:BitVec 64),z&&& ~~~c=0#64->l.foldl (fun s o=>s|||bit o) z&&& ~~~c=0#64:=by
 induction l with
 | nil=>intro z hz;exact hz
 | cons a l ih=>intro z hz;exact ih (fun o ho=>h o (zBr _ ho)) _ (zsc hz (h a (zBx ..)))
theorem zeo {p:zc}(h:zB p):wN p&&& ~~~wR (p.H.Objs.length:Int)=0#64:=by
 have hn:=h.n;have key:∀(L:List (List Int)) (z:BitVec 64),(∀r∈L,∀v∈r,0<=v/\v<=(p.H.Objs.length:Int))->z&&& ~~~wR (p.H.Objs.length:Int)=0#64->L.foldl (fun s l=>s|||zoD l) z&&& ~~~wR (p.H.Objs.length:Int)=0#64:=by
  intro L
  induction L with
  | nil=>intro z _ hz;exact hz
  | cons r L ih =>
   intro z hr hz;refine ih _ (fun r' h'=>hr r' (zBr _ h')) (zsc hz (zwc (fun o ho=>?_) _ (by simp)));have:=hr r (zBx ..) o ho;exact zwO this.1 this.2 hn.2
 exact key _ _ (fun r hr=>(h.reg r hr).2) (znb h)
theorem zuo {a b c:BitVec 64}(h:a&&& ~~~b=0#64) (h2:b&&& ~~~c=0#64):a&&& ~~~c=0#64:=by
 apply zCI;intro i hi;have h1:=congrArg (fun x=>x.getLsbD i) h;have h2:=congrArg (fun x=>x.getLsbD i) h2;simp only [zCw,zCQ,zCJ,hi,decide_true,zCu] at h1 h2 ⊢;revert h1 h2;generalize a.getLsbD i=x;generalize b.getLsbD i=y;generalize c.getLsbD i=z;cases x<;>cases y<;>cases z<;>decide
theorem zt4:∀n:Fin 7,wR (n.1:Int)&&& ~~~63#64=0#64:=by decide
theorem zbz {p:zc}(h:zB p):wN p&&& ~~~63#64=0#64:=by
 have hn:=h.n;refine zuo (zeo h) ?_;exact zt4 ⟨p.H.Objs.length,by omega⟩
theorem zu7:∀(n:Fin 7) (t:Fin 64),zC2 64 t.1&&& ~~~wR (n.1:Int)=0#64->(X9 (zC2 64 t.1)).length<=n.1:=by decide +kernel
theorem zh3 {p:zc}(h:zB p):(X9 (wN p)).length<=p.H.Objs.length:=by
 have hn:=h.n;obtain ⟨t,ht⟩:=zsU (zbz h);have h2:=zeo h;rw [ht] at h2 ⊢;exact zu7 ⟨p.H.Objs.length,by omega⟩ t h2
theorem zki {p:zc}(h:zB p):(xC p).length<=p.H.Objs.length:=by
 have hb:=h.bin;exact zCf (zpD _ (by omega) _ _) (zh3 h)
theorem zq5 {p:zc}(h:zB p):zeF p=some (yW p,()):=by
 have hw:=h.wk;have hc:=h.cap;have hm:=h.mt;have hb:=h.bin;have hn:=h.n;have hmo:=h.most;have hrl:=h.regs;have hreg:∀r∈p.Regs,r.length<1000000:=fun r hr=>by have:=(h.reg r hr).1;omega
 have hobj:∀o∈p.H.Objs,o.length<1000000:=fun o ho=>by have:=(h.objs o ho).1;have:=h.slots;omega
 have hfl:=zki h;have hgl:=zh3 h;have hcl:=Uj p p.Workers.toNat;have hcb:p.Workers.toNat*(p.Cap.toNat+2)<=3*5:=zCD (by omega) (by omega);have hbn:(z7 p:Int)=p.Most+p.Workers+p.Mutators:=by unfold z7;omega
 have eb:zeE p=some ((z7 p:Int),()):=by
  rw [zqv,yI (a:=p.Most+p.Workers) (by omega) (by omega),yI,hbn]
 have hul:=zsk (z7 p);have ec:UC (X9 (wN p)) p.Bin=some (xC p):=by
  show zhh _ _=_;unfold zhh xC;have c1:(decide (1<=p.Bin)&&decide (p.Bin<1000000)&&decide (((X9 (wN p)).length:Int)<1000000))=true:=by simp<;>omega
  rw [c1];rfl
 have cut1:cut (xN (z7 p)) 0 ((xC p).length:Int)=some ((xN (z7 p)).take (xC p).length):=by
  unfold cut;have:((xC p).length:Int)<=((xN (z7 p)).length:Int):=by omega
  simp [this]
 have cut2:cut (xN (z7 p)) ((xC p).length:Int) ((xN (z7 p)).length:Int)=some ((xN (z7 p)).drop (xC p).length):=by
  unfold cut;have:((xC p).length:Int)<=((xN (z7 p)).length:Int):=by omega
  simp [this]
 rw [zpP,zu6 h];simp only [zBk,zB6,yg];rw [zoU (by omega) hreg];simp only [zBk,zqZ,zv9 hm.1 (show p.Mutators<=16 by omega)];rw [zwy (by omega) hobj];simp only [zBk];rw [zAn h];simp only [zBk,eb];have e3:(2+(z7 p:Int)).toNat=2+z7 p:=by omega
 rw [yI (a:=2+(z7 p:Int)) (by omega) (by omega),zqY (by omega) (by omega),e3,zBk,uM (l:=YB p p.Workers.toNat++zC3 (2+z7 p) 0#64) (by simp<;>omega),zBk,zzR (by omega)];dsimp only [zBk];rw [zCh,zyA (zbz h),zBk,zfs,zG,ze,zBk,ec,zBk,zu1 _ _ (by simp<;>omega) (fun c hc'=>by have:=ziU _ _ _ _ hc';omega)];dsimp only [zBk];have e1:w64 ((([[]]++xC p:List (List Int)).length:Int)-1)=((xC p).length:Int):=by
  rw [yI (by simp<;>omega) (by simp<;>omega)];simp
 have e2:w64 (((xN (z7 p)).length:Int)-((xC p).length:Int))=((z7 p-(xC p).length:Nat):Int):=by
  rw [yI];omega
 rw [e1,e2,zqY (by omega) (by omega),zCh,zBk,uM (by simp<;>omega),zBk,zf9,zBk,zcN,zBk,cut1,zBk,zrt (by simp<;>omega) (by simp<;>omega),zBk,zer,zBk,zBk,cut2,zBk,zrt (by rw [znD];simp<;>omega) (by simp<;>omega),zBk,decide_true,zI,zhC hm.1 (show p.Mutators<4294967296 by omega),zBk,zzT (by omega) hreg];rfl
theorem zh8 (h:BitVec 64):yH h=((h.toNat%4294967296:Nat):Int):=by
 unfold yH;have e:(h&&&4294967295#64).toNat=h.toNat%4294967296:=by
  rw [zCi];exact zC1 h.toNat 32
 rw [zCE,e];omega
theorem zh9 (h:BitVec 64):0<=yH h/\yH h<4294967296:=by rw [zh8];omega
theorem zcd (v:BitVec 64) {n:Int}(h:0<=n) (h2:n<4294967296):yH (xz v n)=n:=by
 rw [zh8];unfold xz;rw [BitVec.toNat_or,zCi,BitVec.toNat_shiftLeft];have e1:(v.toNat <<< 32%2 ^ 64|||(zC4 64 n).toNat&&&(4294967295#64).toNat)%2 ^ 32=(v.toNat <<< 32%2 ^ 64)%2 ^ 32|||((zC4 64 n).toNat&&&(4294967295#64).toNat)%2 ^ 32:=Nat.or_mod_two_pow;have e2:v.toNat <<< 32%2 ^ 64%2 ^ 32=0:=by rw [Nat.shiftLeft_eq];omega
 have e3:(zC4 64 n).toNat&&&(4294967295#64).toNat=n.toNat:=by
  have:(zC4 64 n).toNat=n.toNat:=by rw [zB9];omega
  rw [this];exact (zC1 n.toNat 32).trans (Nat.mod_eq_of_lt (by omega))
 rw [show (4294967296:Nat)=2 ^ 32 from rfl,e1,e2,e3,Nat.zero_or,Nat.mod_eq_of_lt (by omega)];omega
theorem toInt_ofInt {n:Int}(h:0<=n) (h2:n<4294967296):(zC4 64 n).toInt=n:=by
 have e:(zC4 64 n).toNat=n.toNat:=by rw [zB9];omega
 rw [zCE,e];omega
theorem We {m:List (BitVec 64)}{a b:Int}{v:BitVec 64}:ld (st m a v) b=if a=b/\0<=a/\a<m.length then v else ld m b:=by
 unfold ld st;by_cases hb:0<=b
 .rw [zb hb,zb hb];by_cases ha:0<=a
  .rw [zb ha,zBp,zBp,zBZ];by_cases hab:a.toNat=b.toNat
   .have e:a=b:=by omega
    subst e;by_cases hl:a.toNat<m.length
    .rw [zb rfl,zb hl,zb ⟨rfl,ha,by omega⟩];rfl
    .rw [zb rfl,zd hl,ze,zCj (by omega)]
   .rw [zd hab,ze]
  .rw [zd ha,ze]
 .rw [zd hb,zd hb,ze]
theorem yE {m:List (BitVec 64)}{a b:Int}{v:BitVec 64}(h:a≠b):ld (st m a v) b=ld m b:=by
 rw [We,zd (fun h'=>h h'.1)]
theorem vi {p:zc}(h:zB p):yb p=p.Workers*(p.Cap+2)/\3<=yb p/\yb p<=15:=by
 have hw:=h.wk;have hc:=h.cap;unfold yb;rw [yP (a:=p.Cap+2) (by omega) (by omega)];have hx:p.Workers=1\/p.Workers=2\/p.Workers=3:=by omega
 rcases hx with hx | hx | hx<;>rw [hx,yP]<;>omega
theorem xB {p:zc}(h:zB p):zO p=yb p+1:=by
 have:=vi h;unfold zO;rw [yP]
theorem uC {p:zc}(h:zB p) {w:Int}(h1:1<=w) (h2:w<=p.Workers):zZ p w=(w-1)*(p.Cap+2)/\0<=zZ p w/\zZ p w+p.Cap+2<=yb p:=by
 have hw:=h.wk;have hc:=h.cap;have hf:=(vi h).1;unfold zZ;rw [yP (a:=p.Cap+2) (by omega) (by omega),yP (a:=w-1) (by omega) (by omega)];have hx:p.Workers=1\/p.Workers=2\/p.Workers=3:=by omega
 have hy:w=1\/w=2\/w=3:=by omega
 rw [hf];rcases hx with hx | hx | hx<;>rcases hy with hy | hy | hy<;>first | omega | (rw [hx,hy,yP]<;>omega)
theorem zno {p:zc}(h:zB p) {d:zm}{w:Int}(h1:1<=w) (h2:w<=p.Workers) (hb:d.Base=zZ p w) (hc:d.Cap=p.Cap) (i:BitVec 64) :
  VL d i=d.Base+2+((i.toNat%p.Cap.toNat:Nat):Int)/\d.Base+2<=VL d i/\VL d i<d.Base+2+p.Cap:=by
 have hcp:=h.cap;have hd:=uC h h1 h2;have hf:=vi h;have hs:(Vv d).toNat=p.Cap.toNat:=by
  unfold Vv;rw [hc,ze,zB9];omega
 have hlt:i.toNat%p.Cap.toNat<p.Cap.toNat:=Nat.mod_lt _ (by omega);have hm:(i%Vv d).toInt=((i.toNat%p.Cap.toNat:Nat):Int):=by
  rw [zCE,BitVec.toNat_umod,hs];omega
 unfold VL;rw [hm,yP (a:=d.Base+2) (by omega) (by omega),yP];omega
structure SOk (p:zc) (nb:Nat) (s:za):Prop where
 P:s.P=p
 bins:s.Bins.length=nb
 nbk:1<=nb/\nb<1000
 mem:s.M.length<100000
 cF:yH (ld s.M (yb p))<nb
 cE:yH (ld s.M (zO p))<nb
 cL:∀a,zO p<a->0<=(ld s.M a).toInt/\(ld s.M a).toInt<nb
structure MOk (p:zc) (nb:Nat) (g:zH):Prop where
 who:g.Mode=1->1<=g.Who/\g.Who<=p.Workers
 d3:g.PC=3->g.D.Kind=1/\g.D.Base=zZ p g.Who/\g.D.Cap=p.Cap/\g.Mode=1
 c5:g.PC=5->g.C.Kind=2/\g.C.Head=zO p/\g.C.Next=zO p/\(1<=g.C.PC->1<=yH g.C.H/\yH g.C.H<nb)/\(2<=g.C.PC->0<=g.C.Y/\g.C.Y<nb)
 b6:g.PC=6->1<=g.Bin/\g.Bin<nb
 c7:g.PC=7->g.C.Kind=1/\g.C.Head=yb p/\g.C.Next=zO p/\(1<=g.C.X/\g.C.X<nb)/\(1<=g.C.PC->yH g.C.H<nb)
theorem SOk.gok {p:zc}{nb:Nat}{s:za}{g:zH}(h:zB p) (S:SOk p nb s) (M:MOk p nb g):GOk s g:=by
 have hc:=h.cap;refine ⟨by have:=S.mem;omega,by have:=S.bins;have:=S.nbk;omega,fun h6=>?_,fun h3=>?_⟩
 .have:=M.b6 h6;have:=S.bins;omega
 .obtain ⟨a,b,c,_⟩:=M.d3 h3;exact ⟨a,by omega⟩
theorem SOk.low {p:zc}{nb:Nat}{s:za}(h:zB p) (S:SOk p nb s) {a:Int}(ha:a<yb p) (v:BitVec 64):SOk p nb {s with M:=st s.M a v}:=by
 have he:=xB h;exact ⟨S.P,S.bins,S.nbk,by simp only [ZU];exact S.mem,by simp only [yE (show a≠yb p by omega)];exact S.cF,by simp only [yE (show a≠zO p by omega)];exact S.cE,fun b hb=>by
  simp only [yE (show a≠b by omega)];exact S.cL b hb⟩
theorem SOk.link {p:zc}{nb:Nat}{s:za}(h:zB p) (S:SOk p nb s) {a:Int}(ha:zO p<a) {v:BitVec 64}(hv:0<=v.toInt/\v.toInt<nb):SOk p nb {s with M:=st s.M a v}:=by
 have he:=xB h;exact ⟨S.P,S.bins,S.nbk,by simp only [ZU];exact S.mem,by simp only [yE (show a≠yb p by omega)];exact S.cF,by simp only [yE (show a≠zO p by omega)];exact S.cE,fun b hb=>by
  simp only [We];split
  .exact hv
  .exact S.cL b hb⟩
theorem SOk.head {p:zc}{nb:Nat}{s:za}(h:zB p) (S:SOk p nb s) {a:Int}(ha:a=yb p\/a=zO p) {v:BitVec 64}(hv:yH v<nb):SOk p nb {s with M:=st s.M a v}:=by
 have he:=xB h;refine ⟨S.P,S.bins,S.nbk,by simp only [ZU];exact S.mem,?_,?_,fun b hb=>?_⟩
 .simp only [We];split
  .exact hv
  .exact S.cF
 .simp only [We];split
  .exact hv
  .exact S.cE
 .simp only [yE (show a≠b by omega)];exact S.cL b hb
theorem SOk.swap {p:zc}{nb:Nat}{s:za}(h:zB p) (S:SOk p nb s) {a:Int}(ha:a=yb p\/a=zO p) (x:BitVec 64) {v:BitVec 64}(hv:yH v<nb):SOk p nb {s with M:=(sw s.M a x v).1}:=by
 unfold sw;split
 .exact S.head h ha hv
 .exact S
theorem zme {p:zc}{nb:Nat}{s:za}(h:zB p) (S:SOk p nb s) {c:zJ}{hd:Int}(hdd:hd=yb p\/hd=zO p) (hk:c.Kind=2) (hh:c.Head=hd) (hn:c.Next=zO p)
  (h1:1<=c.PC->1<=yH c.H/\yH c.H<nb) (h2:2<=c.PC->0<=c.Y/\c.Y<nb) (ho:c.Out≠1) :
  SOk p nb {s with M:=(zo s.M c).1}/\(zo s.M c).2.Kind=2/\(zo s.M c).2.Head=hd/\(zo s.M c).2.Next=zO p /\
  ((zo s.M c).2.Out≠1->(zo s.M c).2.Out≠2->(1<=(zo s.M c).2.PC->1<=yH (zo s.M c).2.H/\yH (zo s.M c).2.H<nb)/\(2<=(zo s.M c).2.PC->0<=(zo s.M c).2.Y/\(zo s.M c).2.Y<nb)) /\
  ((zo s.M c).2.Out=1->1<=(zo s.M c).2.X/\(zo s.M c).2.X<nb):=by
 have hnb:=S.nbk;have hE:=xB h;have hF:=vi h;unfold zo;split
 .exact ⟨S,hk,hh,hn,fun _ _=>⟨h1,h2⟩,fun e=>zk e ho⟩
 .split
  .rw [hh];have n1:=zh9 (ld s.M hd);have n2:yH (ld s.M hd)<nb:=by
    rcases hdd with e | e<;>rw [e]
    .exact S.cF
    .exact S.cE
   split
   .exact ⟨S,hk,rfl,hn,fun _ h=>zk rfl h,fun e=>by cases e⟩
   .rename_i hne;refine ⟨S,hk,rfl,hn,fun _ _=>⟨fun _=>⟨?_,n2⟩,fun e=>zk e (by dsimp only;omega)⟩,fun e=>zk e ho⟩;have:yH (ld s.M hd)≠0:=fun e=>hne ⟨hk,e⟩;dsimp only;omega
  .split
   .try rw [zb hk]
    have hpc:1<=c.PC:=by omega
    have n1:=h1 hpc;refine ⟨S,hk,hh,hn,fun _ _=>⟨fun _=>n1,fun _=>?_⟩,fun e=>zk e ho⟩;dsimp only;rw [hn,yP];exact S.cL _ (by omega)
   .rename_i g1 g2 g3;have hpc:c.PC=2:=by omega
    have n1:=h1 (by omega);have n2:=h2 (by omega);simp only [zb hk];refine ⟨S.swap h (by rw [hh];exact hdd) _ (by rw [zcd _ n2.1 (by omega)];exact n2.2),?_⟩;split
    .exact ⟨hk,hh,hn,fun e=>zk rfl e,fun _=>n1⟩
    .exact ⟨hk,hh,hn,fun _ _=>⟨fun e=>zk e (by dsimp only;omega),fun e=>zk e (by dsimp only;omega)⟩,fun e=>zk e ho⟩
theorem zqB {p:zc}{nb:Nat}{s:za}(h:zB p) (S:SOk p nb s) {c:zJ}{hd:Int}(hdd:hd=yb p\/hd=zO p) (hk:c.Kind=1) (hh:c.Head=hd) (hn:c.Next=zO p) (hx:1<=c.X/\c.X<nb)
  (h1:1<=c.PC->yH c.H<nb) :
  SOk p nb {s with M:=(zo s.M c).1}/\(zo s.M c).2.Kind=1/\(zo s.M c).2.Head=hd/\(zo s.M c).2.Next=zO p/\(1<=(zo s.M c).2.X/\(zo s.M c).2.X<nb) /\
  (1<=(zo s.M c).2.PC->yH (zo s.M c).2.H<nb):=by
 have hnb:=S.nbk;have hE:=xB h;have hF:=vi h;have hk2: ¬c.Kind=2:=by omega
 unfold zo;split
 .exact ⟨S,hk,hh,hn,hx,h1⟩
 .split
  .rw [zd (fun e=>hk2 e.1),hh];exact ⟨S,hk,rfl,hn,hx,fun _=>hdd.elim (fun e=>by dsimp only;rw [e];exact S.cF) (fun e=>by dsimp only;rw [e];exact S.cE)⟩
  .split
   .try rw [zd hk2]
    have hpc:1<=c.PC:=by omega
    have n1:=h1 hpc;have n2:=zh9 c.H;refine ⟨?_,hk,hh,hn,hx,fun _=>n1⟩;dsimp only;rw [hn,yP];exact S.link h (by omega) (by rw [toInt_ofInt (by omega) (by omega)];omega)
   .have n1:=h1 (by omega);simp only [zd hk2];refine ⟨S.swap h (by rw [hh];exact hdd) _ (by rw [zcd _ (by omega) (by omega)];exact hx.2),?_⟩;split
    .exact ⟨hk,hh,hn,hx,fun _=>n1⟩
    .exact ⟨hk,hh,hn,hx,fun _=>n1⟩
theorem MOk.ask {p:zc}{nb:Nat}{g:zH}(hw:g.Mode=1->1<=g.Who/\g.Who<=p.Workers):MOk p nb (zcC p g) :=
 ⟨hw,fun e=>(by cases e),fun _=>⟨rfl,rfl,rfl,fun e=>zk e (show ¬(1:Int)<=0 by decide),fun e=>zk e (show ¬(2:Int)<=0 by decide)⟩,fun e=>(by cases e),fun e=>(by cases e)⟩
theorem zmw {p:zc}{nb:Nat}{s:za}{g:zH}(h:zB p) (S:SOk p nb s) (M:MOk p nb g) (hout:g.PC=5->g.C.Out≠1):SOk p nb (zx s g).1/\MOk p nb (zx s g).2/\((zx s g).2.PC=5->(zx s g).2.C.Out≠1):=by
 have hP:=S.P;unfold zx;split
 .exact ⟨S,M,hout⟩
 split
 .rename_i h7;obtain ⟨a1,a2,a3,a4,a5⟩:=M.c7 h7;obtain ⟨b1,b2,b3,b4,b5,b6⟩:=zqB h S (.inl rfl) a1 a2 a3 a4 a5;unfold Uf;refine ⟨b1,?_,?_⟩
  .dsimp only;split<;>exact ⟨M.who,fun e=>(by dsimp only at e;omega),fun e=>(by dsimp only at e;omega),fun e=>(by dsimp only at e;omega),fun _=>⟨b2,b3,b4,b5,b6⟩⟩
  .dsimp only;split<;>exact fun e=>by dsimp only at e;omega
 split
 .rename_i h6;obtain ⟨a1,a2⟩:=M.b6 h6;unfold zmt;refine ⟨⟨hP,by simp only [zBF];exact S.bins,S.nbk,S.mem,S.cF,S.cE,S.cL⟩,⟨M.who,fun e=>(by cases e),fun e=>(by cases e),fun e=>(by cases e),fun _=>⟨rfl,by rw [hP],by rw [hP],⟨a1,a2⟩,fun e=>zk e (show ¬(1:Int)<=0 by decide)⟩⟩,fun e=>by cases e⟩
 split
 .rename_i h5;obtain ⟨a1,a2,a3,a4,a5⟩:=M.c5 h5;obtain ⟨b1,b2,b3,b4,b5,b6⟩:=zme h S (.inr rfl) a1 a2 a3 a4 a5 (hout h5);unfold zeH;refine ⟨b1,?_,?_⟩
  .dsimp only;split
   .rename_i e1;exact ⟨M.who,fun e=>(by cases e),fun e=>(by cases e),fun _=>b6 e1,fun e=>(by cases e)⟩
   .split
    .rw [hP];exact MOk.ask M.who
    .rename_i e1 e2;exact ⟨M.who,fun e=>(by dsimp only at e;omega),fun _=>⟨b2,b3,b4,b5 e1 e2⟩,fun e=>(by dsimp only at e;omega),fun e=>(by dsimp only at e;omega)⟩
  .dsimp only;split
   .exact fun e=>by cases e
   .split
    .exact fun _ e=>by cases e
    .rename_i e1 e2;exact fun _=>e1
 split
 .rw [hP];exact ⟨⟨rfl,S.bins,S.nbk,S.mem,S.cF,S.cE,S.cL⟩,MOk.ask M.who,fun _ e=>by cases e⟩
 split
 .rename_i h3;obtain ⟨a1,a2,a3,a4⟩:=M.d3 h3;have hw:=M.who a4;obtain ⟨d1,d2,d3⟩:=uC h hw.1 hw.2;have hc:=h.cap;have hf:=vi h;have hs:SOk p nb {s with M:=(yV s.M g.D).1}:=by
   unfold yV;split
   .exact S
   split
   .exact S
   split
   .exact S
   split
   .have:=zno h hw.1 hw.2 a2 a3 g.D.B;exact S.low h (by omega) _
   .dsimp only;rw [yP];exact S.low h (by omega) _
  have hd:(yV s.M g.D).2.Kind=1/\(yV s.M g.D).2.Base=zZ p g.Who/\(yV s.M g.D).2.Cap=p.Cap:=by
   unfold yV;split
   .exact ⟨a1,a2,a3⟩
   split
   .exact ⟨a1,a2,a3⟩
   split
   .dsimp only;split<;>exact ⟨a1,a2,a3⟩
   split<;>exact ⟨a1,a2,a3⟩
  unfold zek;refine ⟨hs,?_,?_⟩
  .dsimp only;split
   .exact ⟨M.who,fun _=>⟨hd.1,hd.2.1,hd.2.2,a4⟩,fun e=>(by dsimp only at e;omega),fun e=>(by dsimp only at e;omega),fun e=>(by dsimp only at e;omega)⟩
   .split
    .rw [hP];exact MOk.ask M.who
    .exact ⟨M.who,fun _=>⟨hd.1,hd.2.1,hd.2.2,a4⟩,fun e=>(by dsimp only at e;omega),fun e=>(by dsimp only at e;omega),fun e=>(by dsimp only at e;omega)⟩
  .dsimp only;split
   .exact fun e=>by dsimp only at e;omega
   .split
    .exact fun _ e=>by cases e
    .exact fun e=>by dsimp only at e;omega
 split
 .rename_i h2;exact ⟨⟨hP,S.bins,S.nbk,S.mem,S.cF,S.cE,S.cL⟩,⟨M.who,fun e=>(by dsimp only at e;omega),fun e=>(by dsimp only at e;omega),fun e=>(by dsimp only at e;omega),fun e=>(by dsimp only at e;omega)⟩,fun e=>by dsimp only at e;omega⟩
 split
 .unfold zeI;refine ⟨⟨hP,S.bins,S.nbk,S.mem,S.cF,S.cE,S.cL⟩,?_,?_⟩
  .dsimp only;split
   .exact ⟨M.who,fun e=>(by cases e),fun e=>(by cases e),fun e=>(by cases e),fun e=>(by cases e)⟩
   split
   .exact ⟨M.who,fun _=>⟨rfl,by rw [hP],by rw [hP],by assumption⟩,fun e=>(by cases e),fun e=>(by cases e),fun e=>(by cases e)⟩
   split
   .exact ⟨M.who,fun e=>(by cases e),fun e=>(by cases e),fun e=>(by cases e),fun e=>(by cases e)⟩
   .rw [hP];exact MOk.ask M.who
  .dsimp only;split
   .exact fun e=>by cases e
   split
   .exact fun e=>by cases e
   split
   .exact fun e=>by cases e
   .exact fun _ e=>by cases e
 .exact ⟨⟨hP,S.bins,S.nbk,S.mem,S.cF,S.cE,S.cL⟩,⟨M.who,fun e=>(by cases e),fun e=>(by cases e),fun e=>(by cases e),fun e=>(by cases e)⟩,fun e=>by cases e⟩
theorem Ue (s:za) (g:zH):(zx s g).2.Obj=g.Obj/\(zx s g).2.Who=g.Who/\(zx s g).2.Mode=g.Mode:=by
 unfold zx;split
 .exact ⟨rfl,rfl,rfl⟩
 split
 .unfold Uf;dsimp only;split<;>exact ⟨rfl,rfl,rfl⟩
 split
 .exact ⟨rfl,rfl,rfl⟩
 split
 .unfold zeH;dsimp only;split
  .exact ⟨rfl,rfl,rfl⟩
  .split<;>exact ⟨rfl,rfl,rfl⟩
 split
 .exact ⟨rfl,rfl,rfl⟩
 split
 .unfold zek;dsimp only;split
  .exact ⟨rfl,rfl,rfl⟩
  .split<;>exact ⟨rfl,rfl,rfl⟩
 split
 .exact ⟨rfl,rfl,rfl⟩
 split
 .unfold zeI;dsimp only;split
  .exact ⟨rfl,rfl,rfl⟩
  split
  .exact ⟨rfl,rfl,rfl⟩
  split<;>exact ⟨rfl,rfl,rfl⟩
 .exact ⟨rfl,rfl,rfl⟩
def OkV (nb:Nat) (v:BitVec 64):Prop:=yH v<nb/\0<=v.toInt/\v.toInt<nb
theorem zs7 {nb:Nat}(h:1<=nb):OkV nb 0#64:=by
 refine ⟨by rw [zh8];simp;omega,by simp,by simp;omega⟩
theorem zp2 {nb:Nat}{b:Int}(h:0<=b) (h2:b<nb) (h3:nb<1000):OkV nb (zC4 64 b):=by
 have e:(zC4 64 b).toNat=b.toNat:=by rw [zB9];omega
 refine ⟨by rw [zh8,e];omega,?_⟩;rw [toInt_ofInt h (by omega)];omega
theorem zre {b:Int}(h:0<=b) (h2:b<4294967296):xz 0#64 b=zC4 64 b:=by
 have e:(zC4 64 b).toNat=b.toNat:=by rw [zB9];omega
 apply zCA;unfold xz;rw [BitVec.toNat_or,zCi,e];have:b.toNat&&&(4294967295#64).toNat=b.toNat:=(zC1 b.toNat 32).trans (Nat.mod_eq_of_lt (by omega));rw [this];simp
def X2 (F:Int) (nb:Nat) (m:List (BitVec 64)):Prop:=∀a,F<=a->OkV nb (ld m a)
theorem X2.st {F:Int}{nb:Nat}{m:List (BitVec 64)}(h:X2 F nb m) (a:Int) {v:BitVec 64}(hv:OkV nb v):X2 F nb (st m a v):=fun b hb=>by
 rw [We];split
 .exact hv
 .exact h b hb
theorem X2.links {F:Int}{nb:Nat}(h1:1<=nb) (h3:nb<1000):∀(l:List Int) (m:List (BitVec 64)) (n:Int),(∀b∈l,0<=b/\b<nb)->X2 F nb m->X2 F nb (links m n l)
 | [],m,n,_,h=>h
 | [a],m,n,_,h=>h.st _ (zs7 h1)
 | a::b::l,m,n,hb,h=>X2.links h1 h3 (b::l) _ n (fun x hx=>hb x (zBr _ hx)) (h.st _ (zp2 (hb b (by simp)).1 (hb b (by simp)).2 h3))
theorem X2.lay {F:Int}{nb:Nat}(h1:1<=nb) (h3:nb<1000) {l:List Int}{m:List (BitVec 64)}{hd n:Int}(hb:∀b∈l,0<=b/\b<nb) (h:X2 F nb m):X2 F nb (zbV m hd n l):=by
 unfold zbV;refine (X2.links h1 h3 l m n hb h).st _ ?_;cases l with
 | nil=>rw [List.headD_nil,zre (by omega) (by omega)];exact zp2 (by omega) (by omega) h3
 | cons a r =>
  have:=hb a (by simp);rw [List.headD_cons,zre this.1 (by omega)];exact zp2 this.1 this.2 h3
theorem zd8 {k:Nat}{b:Int}(h:b∈xN k):1<=b/\b<=k:=by
 unfold xN at h;obtain ⟨i,hi,rfl⟩:=zBB.1 h;have:=zBW.1 hi;omega
theorem zbX {p:zc}(h:zB p):(z7 p:Int)=p.Most+p.Workers+p.Mutators/\2<=z7 p/\z7 p<=14:=by
 have:=h.most;have:=h.n;have:=h.wk;have:=h.mt;unfold z7;omega
theorem zux {p:zc}(h:zB p):SOk p (z7 p+1) (yW p):=by
 have hb:=zbX h;have hf:=zki h;have hn:=h.n;have hw:=h.wk;have hc:=h.cap;have hmo:=h.most;have hF:=vi h;have hE:=xB h;have hcl:=Uj p p.Workers.toNat;have hfe:yb p=((p.Workers.toNat*(p.Cap.toNat+2):Nat):Int):=by
  rw [hF.1];have e1:p.Workers=((p.Workers.toNat:Nat):Int):=by omega
  have e2:p.Cap+2=((p.Cap.toNat+2:Nat):Int):=by omega
  rw [e2,Int.natCast_mul];rw [<-e1]
 have h0:X2 (yb p) (z7 p+1) (YB p p.Workers.toNat++zC3 (2+z7 p) 0#64):=by
  intro a ha;have:ld (YB p p.Workers.toNat++zC3 (2+z7 p) 0#64) a=0#64:=by
   unfold ld;rw [yo,zBp,zBS (by omega),zCH];split<;>rfl
  rw [this];exact zs7 (by omega)
 have h1:X2 (yb p) (z7 p+1) (yW p).M:=by
  refine X2.lay (by omega) (by omega) (fun b hb'=>?_) (X2.lay (by omega) (by omega) (fun b hb'=>?_) h0)
  .have:=zd8 (List.mem_of_mem_drop hb');omega
  .have:=zd8 (zCL hb');omega
 have hlen:(yW p).M.length=p.Workers.toNat*(p.Cap.toNat+2)+(2+z7 p):=by
  show (zbV _ _ _ _).length=_;rw [znD,znD,zBz,hcl,zB8]
 refine ⟨rfl,?_,by omega,by rw [hlen];omega,(h1 _ (by omega)).1,(h1 _ (by omega)).1,fun a ha=>(h1 a (by omega)).2⟩;have hd:(yW p).Bins.length=1+(xC p).length+(z7 p-(xC p).length):=by
  show ([[]]++xC p++zC3 (z7 p-(xC p).length) ([]:List Int)).length=_;rw [zBz,zBz,zB8];rfl
 have h2:=hb.1;have hmt:=h.mt;rw [hd];omega
def Zh (mode obj who:Int):zH:=⟨0,mode,obj,who,⟨0,0,0,0,0#64,0#64,0,0⟩,⟨0,0,0,0,0#64,0,0,0⟩,0,0⟩
theorem zvP (a b c:Int):zgB a b c=some (Zh a b c,()):=by rw [zof];rfl
structure X8 (s:za):Prop where
 m:s.M.length<1000000
 bins:s.Bins.length<1000000
 bin:∀x∈s.Bins,x.length<1000000
 acks:s.Acks.length<1000000
 bal:s.L.Bal.length<1000000
 ws:s.Ws.length<1000000
 w:∀x∈s.Ws,x.Batch.length<1000000
 ms:s.Ms.length<1000000
 mu:∀x∈s.Ms,x.Regs.length<1000000/\x.Buf.length<1000000/\x.Batch.length<1000000
 objs:s.H.Objs.length<1000000
 obj:∀x∈s.H.Objs,x.length<1000000
 pobjs:s.P.H.Objs.length<1000000
 pobj:∀x∈s.P.H.Objs,x.length<1000000
 regs:s.P.Regs.length<1000000
 reg:∀x∈s.P.Regs,x.length<1000000
 progs:s.P.Progs.length<1000000
 prog:∀x∈s.P.Progs,x.length<1000000
 picks:s.P.Picks.length<1000000
theorem zaR (m:List (BitVec 64)) (c:zJ):(zo m c).1.length=m.length:=by
 unfold zo sw;split
 .rfl
 split
 .rfl
 split
 .split<;>simp [ZU]
 .dsimp only;split<;>simp [ZU]
theorem zfU (m:List (BitVec 64)) (d:zm):(yV m d).1.length=m.length:=by
 unfold yV;split
 .rfl
 split
 .rfl
 split
 .rfl
 split<;>simp [ZU]
theorem zaH (s:za) (g:zH):∃m b t w f,(zx s g).1={s with M:=m,Bins:=b,T:=t,Work:=w,Flag:=f}/\m.length=s.M.length/\b.length=s.Bins.length /\
  (∀x∈b,x∈s.Bins\/x=[g.Obj])/\(t=s.T\/t=(vT s.T g.Obj).1)/\(w=s.Work\/w=wc (s.Work+1)\/w=wc (s.Work-1)):=by
 unfold zx;split
 .exact ⟨s.M,s.Bins,s.T,s.Work,s.Flag,rfl,rfl,rfl,fun x h=>.inl h,.inl rfl,.inl rfl⟩
 split
 .exact ⟨_,s.Bins,s.T,s.Work,s.Flag,rfl,zaR _ _,rfl,fun x h=>.inl h,.inl rfl,.inl rfl⟩
 split
 .refine ⟨s.M,_,s.T,s.Work,s.Flag,rfl,rfl,by simp,fun x h=>?_,.inl rfl,.inl rfl⟩;rcases zBX h with h | h
  .exact .inl h
  .exact .inr h
 split
 .exact ⟨_,s.Bins,s.T,s.Work,s.Flag,rfl,zaR _ _,rfl,fun x h=>.inl h,.inl rfl,.inl rfl⟩
 split
 .exact ⟨s.M,s.Bins,s.T,s.Work,true,rfl,rfl,rfl,fun x h=>.inl h,.inl rfl,.inl rfl⟩
 split
 .exact ⟨_,s.Bins,s.T,s.Work,s.Flag,rfl,zfU _ _,rfl,fun x h=>.inl h,.inl rfl,.inl rfl⟩
 split
 .exact ⟨s.M,s.Bins,s.T,_,s.Flag,rfl,rfl,rfl,fun x h=>.inl h,.inl rfl,.inr (.inr rfl)⟩
 split
 .exact ⟨s.M,s.Bins,_,s.Work,s.Flag,rfl,rfl,rfl,fun x h=>.inl h,.inr rfl,.inl rfl⟩
 .exact ⟨s.M,s.Bins,s.T,_,s.Flag,rfl,rfl,rfl,fun x h=>.inl h,.inl rfl,.inr (.inl rfl)⟩
theorem zrl {p:zc}(h:zB p):X8 (yW p):=by
 have S:=zux h;have hb:=zbX h;have hg:=zh3 h;have hn:=h.n;have hm:=h.mt;have hw:=h.wk;have hs:=h.slots;have hrl:=h.regs;have hpl:=h.progs;have hobj:∀o∈p.H.Objs,o.length<1000000:=fun o ho=>by have:=(h.objs o ho).1;omega
 have hreg:∀r∈p.Regs,r.length<1000000:=fun r hr=>by have:=(h.reg r hr).1;omega
 refine ⟨by have:=S.mem;omega,by rw [S.bins];omega,fun x hx=>?_,?_,?_,?_,fun x hx=>?_,?_,fun x hx=>?_,by show p.H.Objs.length<_;omega,hobj,by show p.H.Objs.length<_;omega,hobj,by show p.Regs.length<_;omega,hreg,by show p.Progs.length<_;omega,fun x hx=>?_,?_⟩
 .have hx:x∈[[]]++xC p++zC3 (z7 p-(xC p).length) []:=hx;rcases zBE.1 hx with hx | hx
  .rcases zBE.1 hx with hx | hx
   .simp at hx;subst hx;simp
   .have:=ziU _ _ _ _ hx;omega
  .have:=(List.mem_replicate.1 hx).2;subst this;simp
 .show (zC3 p.Mutators.toNat (0:Int)).length<_;simp;omega
 .show (zC3 p.Mutators.toNat (0:Int)).length<_;simp;omega
 .show ((zC5 p.Workers.toNat).map (wY p)).length<_;simp;omega
 .have hx:x∈(zC5 p.Workers.toNat).map (wY p):=hx;obtain ⟨i,_,rfl⟩:=zBB.1 hx;simp [wY]
 .show (p.Regs.map ve).length<_;simp;omega
 .have hx:x∈p.Regs.map ve:=hx;obtain ⟨r,hr,rfl⟩:=zBB.1 hx;exact ⟨hreg r hr,by simp [ve],by simp [ve]⟩
 .obtain ⟨i,hi⟩:=List.getElem?_of_mem hx;have hlt:=(zBt.1 hi).1;have:=(h.prog i _ x (zBn (show i<p.Regs.length from (show p.Progs.length=p.Regs.length by omega)▸hlt)) hi).1;omega
 .show p.Picks.length<_;rw [h.picks];simp
theorem W5 {α B C:Type}{f:List α×List α×Int×Int×Unit->Option (xJ (List α×List α×Int×Int×Unit) B C)}{l:List α}{b:B}(hl:l.length<1000000)
  (h1:∀(i:Nat) (x:α),l[i]? =some x->f (l,l,(l.length:Int),(i:Int),())=some (.again (l,l,(l.length:Int),((i+1:Nat):Int),())))
  (h2:f (l,l,(l.length:Int),(l.length:Int),())=some (.brk b)):yM f (l,l,(l.length:Int),0,())=some (.brk b):=by
 refine (ZV (f:=f) (fun a=>∃i:Nat,a=(l,l,(l.length:Int),(i:Int),())/\i<=l.length) (fun a=>l.length-a.2.2.2.1.toNat) (fun o=>o= .brk b) ?_ (l,l,(l.length:Int),0,()) ⟨0,rfl,by omega⟩ (vr (by dsimp only;omega))).elim fun o h=>?_;rotate_left
 .rw [h.1,h.2]
 .rintro _ ⟨i,rfl,hi⟩;rcases zBR i l.length with hlt | hge
  .refine ⟨_,h1 i _ (zBn hlt),⟨i+1,rfl,hlt⟩,?_⟩;show l.length-((i+1:Nat):Int).toNat<l.length-(i:Int).toNat;omega
  .have:i=l.length:=by omega
   subst this;exact ⟨_,h2,rfl⟩
theorem w8 {l:List (Int)}(hl:l.length<1000000):yB l l=some (true,()):=by
 rw [zft,xx,zb rfl,W5 (b:=()) hl (fun i x hx=>?_) (by rw [Vp];simp)]
 .rfl
 .have hlt:=u6 hx;rw [Vp,zG,zb hlt,vj hx,zBk,zBk,xU];simp
theorem zbS {l:List (BitVec 64)}(hl:l.length<1000000):Ye l l=some (true,()):=by
 rw [zbR,xx,zb rfl,W5 (b:=()) hl (fun i x hx=>?_) (by rw [YN];simp)]
 .rfl
 .have hlt:=u6 hx;rw [YN,zG,zb hlt,vj hx,zBk,zBk,xU];simp
theorem zcQ {l:List (Int)}(hl:l.length<1000000):YG l l=some (true,()):=by
 rw [zcF,xx,zb rfl,W5 (b:=()) hl (fun i x hx=>?_) (by rw [XA];simp)]
 .rfl
 .have hlt:=u6 hx;rw [XA,zG,zb hlt,vj hx,zBk,zBk,xU];simp
theorem za6 {l:List (zr)}(hl:l.length<1000000):ZJ l l=some (true,()):=by
 rw [zbd,xx,zb rfl,W5 (b:=()) hl (fun i x hx=>?_) (by rw [Yx];simp)]
 .rfl
 .have hlt:=u6 hx;rw [Yx,zG,zb hlt,vj hx,zBk,zBk,xU];simp
theorem UL {l:List (zu)}(hl:l.length<1000000):uL l l=some (true,()):=by
 rw [UZ,xx,zb rfl,W5 (b:=()) hl (fun i x hx=>?_) (by rw [ZN];simp)]
 .rfl
 .have hlt:=u6 hx;rw [ZN,zG,zb hlt,vj hx,zBk,zBk,xU];simp
theorem vq {l:List (List Int)}(hl:l.length<1000000) (he:∀x∈l,x.length<1000000):zL l l=some (true,()):=by
 rw [u0,xx,zb rfl,W5 (b:=()) hl (fun i x hx=>?_) (by rw [xQ];simp)]
 .rfl
 .have hlt:=u6 hx;rw [xQ,zG,zb hlt,vj hx,zBk,zBk,w8 (he x (zBq hx)),zBk,xU];simp
theorem Ya {l:List (List zr)}(hl:l.length<1000000) (he:∀x∈l,x.length<1000000):yy l l=some (true,()):=by
 rw [wX,xx,zb rfl,W5 (b:=()) hl (fun i x hx=>?_) (by rw [xl];simp)]
 .rfl
 .have hlt:=u6 hx;rw [xl,zG,zb hlt,vj hx,zBk,zBk,za6 (he x (zBq hx)),zBk,xU];simp
theorem ztZ {w:zh}(h:w.Batch.length<1000000):UQ w w=some (true,()):=by
 rw [ziY,w8 h];simp
theorem zti {m:zg}(h:m.Regs.length<1000000/\m.Buf.length<1000000/\m.Batch.length<1000000):V3 m m=some (true,()):=by
 rw [zhN,w8 h.1,w8 h.2.1,w8 h.2.2,zgo];simp
theorem un {l:List (zh)}(hl:l.length<1000000) (he:∀x∈l,x.Batch.length<1000000):yu l l=some (true,()):=by
 rw [wG,xx,zb rfl,W5 (b:=()) hl (fun i x hx=>?_) (by rw [yU];simp)]
 .rfl
 .have hlt:=u6 hx;rw [yU,zG,zb hlt,vj hx,zBk,zBk,ztZ (he x (zBq hx)),zBk,xU];simp
theorem vY {l:List (zg)}(hl:l.length<1000000) (he:∀x∈l,x.Regs.length<1000000/\x.Buf.length<1000000/\x.Batch.length<1000000):yj l l=some (true,()):=by
 rw [wh,xx,zb rfl,W5 (b:=()) hl (fun i x hx=>?_) (by rw [yO];simp)]
 .rfl
 .have hlt:=u6 hx;rw [yO,zG,zb hlt,vj hx,zBk,zBk,zti (he x (zBq hx)),zBk,xU];simp
theorem zrn {h:zC}(h1:h.Objs.length<1000000) (h2:∀x∈h.Objs,x.length<1000000):ZR h h=some (true,()):=by
 rw [zqI,vq h1 h2];simp
theorem zwb {s:za}(h:X8 s):zcG s s=some (true,()):=by
 have hp:YA s.P s.P=some (true,()):=by
  rw [zpX,zjd,zrn h.pobjs h.pobj,vq h.regs h.reg,Ya h.progs h.prog,UL h.picks];simp
 have hl:Zl s.L s.L=some (true,()):=by
  rw [zng,zcQ h.bal];simp
 have hm:Xq s.M s.M=some (true,()):=by
  rw [zrC,zbS h.m];rfl
 rw [zow,hp,zrn h.objs h.obj,hm,vq h.bins h.bin,w8 h.acks,hl,un h.ws h.w,vY h.ms h.mu];simp
def goF {S:Type}(g:Nat->S->S):Nat->Nat->S->S
 | _,0,s=>s
 | i,k+1,s=>goF g (i+1) k (g i s)
theorem zmo {S σ B C:Type}{f:σ->Option (xJ σ B C)}(A:Int->S->σ) (b:S->B) (n:Nat) (hn:n<1000000) (g:Nat->S->S) (Inv:S->Prop) (hg:∀i s,Inv s->Inv (g i s))
  (h1:∀(i:Nat) s,i<n->Inv s->f (A (i:Int) s)=some (.again (A ((i+1:Nat):Int) (g i s)))) (h2:∀s,Inv s->f (A (n:Int) s)=some (.brk (b s))) {s:S}(hs:Inv s) :
  yM f (A 0 s)=some (.brk (b (goF g 0 n s))):=by
 have key:∀(k i:Nat) (s:S),n-i=k->i<=n->Inv s->∀m,k<m->vd f m (A (i:Int) s)=some (.brk (b (goF g i k s))):=by
  intro k
  induction k with
  | zero =>
   intro i s hk hi hs m hm;have:i=n:=by omega
   subst this;obtain ⟨m,rfl⟩:∃x,m=x+1:=⟨m-1,by omega⟩
   simp only [vd];rw [h2 s hs];rfl
  | succ k ih =>
   intro i s hk hi hs m hm;obtain ⟨m,rfl⟩:∃x,m=x+1:=⟨m-1,by omega⟩
   simp only [vd];rw [h1 i s (by omega) hs,zBk];exact ih (i+1) _ (by omega) (by omega) (hg i s hs) m (by omega)
 have:=key n 0 s (by omega) (by omega) hs rounds (vr (by omega));rw [Uh];exact this
def zbG (m:List (BitVec 64)) (d:zm):List (BitVec 64)×zm :=
 if d.PC<0\/7<=d.PC then (m,d)
 else if d.PC=0 then (m,{d with B:=ld m (wc (d.Base+1)),PC:=1})
 else if d.PC=1 then (st m (wc (d.Base+1)) (d.B-1#64),{d with PC:=2})
 else if d.PC=2 then (m,{d with T:=ld m d.Base,PC:=if 0<(ld m d.Base-(d.B-1#64)).toInt then 5 else 3})
 else if d.PC=3 then (m,{d with X:=(ld m (VL d (d.B-1#64))).toInt,PC:=4,Out:=if d.T=d.B-1#64 then d.Out else 1})
 else if d.PC=4 then ((sw m d.Base d.T (d.T+1#64)).1,{d with PC:=if (sw m d.Base d.T (d.T+1#64)).2 then 6 else 5})
 else if d.PC=5 then (st m (wc (d.Base+1)) d.B,{d with X:=0,Out:=2,PC:=6})
 else (st m (wc (d.Base+1)) d.B,{d with Out:=1,PC:=7})
def WM (m:List (BitVec 64)) (d:zm):List (BitVec 64)×zm :=
 if d.PC<0\/4<=d.PC then (m,d)
 else if d.PC=0 then (m,{d with T:=ld m d.Base,PC:=1})
 else if d.PC=1 then (m,{d with B:=ld m (wc (d.Base+1)),PC:=2,Out:=if 0<(ld m (wc (d.Base+1))-d.T).toInt then d.Out else 2})
 else if d.PC=2 then (m,{d with X:=(ld m (VL d d.T)).toInt,PC:=3})
 else ((sw m d.Base d.T (d.T+1#64)).1,if (sw m d.Base d.T (d.T+1#64)).2 then {d with Out:=1,PC:=4} else {d with X:=0,Out:=4,PC:=4})
def zT (m:List (BitVec 64)) (d:zm):List (BitVec 64)×zm :=
 if d.Out≠0 then (m,d) else if d.Kind=1 then yV m d else if d.Kind=2 then zbG m d else if d.Kind=3 then WM m d else (m,d)
theorem zus {m:List (BitVec 64)}{d:zm}(h:d.Kind=1):zT m d=yV m d:=by
 unfold zT;by_cases h0:d.Out≠0
 .rw [zb h0];unfold yV;rw [zb (.inl h0)]
 .rw [zd h0,zb h]
theorem zuE {α:Type}{x y:Option α}{v:α}(h:x=some v):Option.or x y=some v:=by subst h;rfl
theorem zgv {α:Type}{x y z:Option α}(h:x=none) (h2:y=z):Option.or x y=z:=by subst h;exact h2
theorem zyL:wc 1=1/\wc 2=2/\wc 3=3/\wc 4=4/\wc 5=5/\wc 6=6/\wc 7=7:=by decide
theorem zwp:w64 5=5/\w64 6=6/\w64 7=7:=by
 refine ⟨?_,?_,?_⟩<;>exact yI
theorem zv6 {m:List (BitVec 64)}(hm:m.length<4294967296) {d:zm}(hc:d.Cap<1000):zaB m d=some ((zT m d).1,(zT m d).2,()):=by
 by_cases k1:d.Kind=1
 .rw [zus k1];exact zh7 hm k1 hc
 obtain ⟨w0,w1,w2,w3,w4⟩:=ztQ;obtain ⟨w5,w6,w7⟩:=zwp;obtain ⟨v1,v2,v3,v4,v5,v6,v7⟩:=zyL;have hsb:∀d:zm,vF m d=some (m,{d with B:=ld m (wc (d.Base+1))},()):=fun d=>by
  rw [Wk,wp,Zg,zBk,WQ];rfl
 have htk:∀d:zm,Xx m d=some ((sw m d.Base d.T (d.T+1#64)).1,(sw m d.Base d.T (d.T+1#64)).2,()):=fun d=>by
  obtain ⟨v,hv⟩:=zqH hm d.Base d.T (d.T+1#64);rw [zhS,Yy,zBk,hv];rfl
 rw [zis,zfK,zmD,zmB,zmV];simp only [zG,xx,zd k1];unfold zT;by_cases k2:d.Kind=2
 .refine zgv (by simp [k2]) (zuE ?_);rw [zb k2,zBk];by_cases g0:d.Out=0;rotate_left
  .rw [zd g0,zb (show d.Out≠0 from g0)]
  rw [zb g0,zd (show ¬(d.Out≠0) from fun e=>e g0),zd k1,zb k2];unfold zbG;by_cases g1:d.PC<0
  .rw [zb g1,zb (.inl g1)]
  rw [zd g1];by_cases g2:7<=d.PC
  .rw [zb g2,zb (.inr g2)]
  rw [zd g2,zd (show ¬(d.PC<0\/7<=d.PC) by omega)];have hpc:d.PC=0\/d.PC=1\/d.PC=2\/d.PC=3\/d.PC=4\/d.PC=5\/d.PC=6:=by omega
  rcases hpc with h | h | h | h | h | h | h
  .simp [h,hsb,w1]
  .simp [h,zgZ,wp,Zg,zbq hm,v1,v2,v3,v4,v5,v6,v7]
  .rw [h,zd (by decide),zd (by decide),zd (by decide),zd (by decide),zb rfl,zd (by decide),zd (by decide),zb rfl];simp only [zdB,Yy,zBk,WQ,zgN,zG];by_cases hs:0<(ld m d.Base-(d.B-1#64)).toInt
   .simp only [zb hs,zBk,Int.reduceAdd,w5]
   .simp only [zd hs,zBk,h,Int.reduceAdd,w3]
  .simp only [h,zgg,ziD hc,zBk,WQ,xx,vk];by_cases hs:d.T=d.B-1#64
   .simp [hs,w4,h]
   .simp [hs,w4,h]
  .simp only [h,zfc,htk,zBk];cases hs:(sw m d.Base d.T (d.T+1#64)).2 with
   | true=>simp [hs,w6,h]
   | false=>simp [hs,w5,h]
  .simp [h,zfr,vk,k1,wp,Zg,zbq hm,v1,v2,v3,v4,v5,v6,v7]
  .simp [h,zfX,vk,wp,Zg,zbq hm,v1,v2,v3,v4,v5,v6,v7]
 by_cases k3:d.Kind=3
 .refine zgv (by simp [k2,k3]) (zgv (by simp [k2,k3]) (zuE ?_));rw [zd k2,zb k3,zBk];by_cases g0:d.Out=0;rotate_left
  .rw [zd g0,zb (show d.Out≠0 from g0)]
  rw [zb g0,zd (show ¬(d.Out≠0) from fun e=>e g0),zd k1,zd k2,zb k3];unfold WM;by_cases g1:d.PC<0
  .rw [zb g1,zb (.inl g1)]
  rw [zd g1];by_cases g2:4<=d.PC
  .rw [zb g2,zb (.inr g2)]
  rw [zd g2,zd (show ¬(d.PC<0\/4<=d.PC) by omega)];have hpc:d.PC=0\/d.PC=1\/d.PC=2\/d.PC=3:=by omega
  rcases hpc with h | h | h | h
  .simp [h,zfQ,Yy,WQ,w1]
  .rw [h,zd (by decide),zd (by decide),zb rfl,zd (by decide),zb rfl];simp only [zgq,wp,zBk,WQ,zgN,xx,Zg];by_cases hs:0<(ld m (wc (d.Base+1))-d.T).toInt
   .simp only [zb hs,zBk,Int.reduceAdd,v2,h]
   .simp only [zd hs,zBk,Int.reduceAdd,v2,h]
  .simp [h,zfn,ziD hc,WQ,w3]
  .simp only [h,zdI,htk,zBk,vk];cases hs:(sw m d.Base d.T (d.T+1#64)).2 with
   | true=>simp [hs,w4,h]
   | false=>simp [hs,w4,h,k1]
 .refine zgv (by simp [k2,k3]) (zgv (by simp [k2,k3]) (zgv (by simp [k2,k3]) ?_));rw [zd k2,zd k3,zBk];by_cases g0:d.Out=0
  .simp [g0,k1,k2,k3]
  .simp [g0]
theorem zvs (m:List (BitVec 64)) (d:zm):(zbG m d).1.length=m.length/\(zbG m d).2.Kind=d.Kind/\(zbG m d).2.Base=d.Base/\(zbG m d).2.Cap=d.Cap:=by
 unfold zbG sw st;split
 .exact ⟨rfl,rfl,rfl,rfl⟩
 split
 .exact ⟨rfl,rfl,rfl,rfl⟩
 split
 .refine ⟨?_,rfl,rfl,rfl⟩;dsimp only;split<;>simp
 split
 .exact ⟨rfl,rfl,rfl,rfl⟩
 split
 .exact ⟨rfl,rfl,rfl,rfl⟩
 split
 .refine ⟨?_,rfl,rfl,rfl⟩;dsimp only;split<;>(try split)<;>simp
 split<;>(refine ⟨?_,rfl,rfl,rfl⟩;dsimp only;split<;>simp)
theorem zsS (m:List (BitVec 64)) (d:zm):(WM m d).1.length=m.length/\(WM m d).2.Kind=d.Kind/\(WM m d).2.Base=d.Base/\(WM m d).2.Cap=d.Cap:=by
 unfold WM sw st;split
 .exact ⟨rfl,rfl,rfl,rfl⟩
 split
 .exact ⟨rfl,rfl,rfl,rfl⟩
 split
 .exact ⟨rfl,rfl,rfl,rfl⟩
 split
 .exact ⟨rfl,rfl,rfl,rfl⟩
 .refine ⟨?_,?_,?_,?_⟩<;>dsimp only<;>split<;>(try split)<;>simp
def zV (h:zC) (o:Int):List Int:=h.Objs.getD (o-1).toNat []
def xj (h:zC) (o s:Int):Bool:=decide (1<=o)&&decide (o<=(h.Objs.length:Int))&&decide (0<=s)&&decide (s<((zV h o).length:Int))
def zU (h:zC) (o s:Int):Int:=if xj h o s then (zV h o).getD s.toNat 0 else 0
def zP (s:BitVec 64) (o:Int):Bool:= !(decide (s&&&bit o=0#64))
def yT (t:zA) (o:Int):Int:=if zP (t.Marks&&&t.Black) o then 2 else if zP t.Marks o then 1 else 0
def xP (t:zA) (o:Int):zA:=if yT t o=1 then {t with Black:=t.Black|||bit o} else t
def Yi (l:zD) (who:Int):zD :=
 if 1<=who/\who<=(l.Bal.length:Int) then {l with Scanned:=wc (l.Scanned+1),Bal:=l.Bal.set (who-1).toNat (wc (l.Bal.getD (who-1).toNat 0+1))}
 else {l with Scanned:=wc (l.Scanned+1),Pool:=wc (l.Pool+1)}
def Xy (s:za) (b:Int):List Int:=s.Bins.getD b.toNat []
def zqo (p:zc) (h x:Int):zJ:=⟨2,0,h,zO p,0#64,x,0,0⟩
def Wf (p:zc) (h x:Int):zJ:=⟨1,0,h,zO p,0#64,x,0,0⟩
def onW (s:za) (slot:Int):Int:=if slot=s.H.Slots then 8 else 5
def Z5 (p:zc) (w:Int) (x:zh):zh:={x with PC:=0,Victim:=w,D:=⟨2,0,zZ p w,p.Cap,0#64,0#64,0,0⟩}
def zaK (n v:Int):Int:=if v<n then v+1 else 1
def vh (p:zc) (w:Int) (x:zh):zh :=
 if zaK p.Workers x.Victim=w then {x with PC:=2,Victim:=w,C:=zqo p (yb p) 0}
 else {x with PC:=1,Victim:=zaK p.Workers x.Victim,D:=⟨3,0,zZ p (zaK p.Workers x.Victim),p.Cap,0#64,0#64,0,0⟩}
def zi (s:za) (w:Int) (x:zh):za×zh :=
 if x.PC=0\/x.PC=1 then
  ({s with M:=(zT s.M x.D).1},
   if (zT s.M x.D).2.Out=1 then {x with D:=(zT s.M x.D).2,Victim:=w,PC:=5,Obj:=(zT s.M x.D).2.X,Slot:=0}
   else if (zT s.M x.D).2.Out=2\/(zT s.M x.D).2.Out=4 then vh s.P w {x with D:=(zT s.M x.D).2} else {x with D:=(zT s.M x.D).2})
 else if x.PC=2 then
  ({s with M:=(zo s.M x.C).1},
   if (zo s.M x.C).2.Out=1 then {x with C:=(zo s.M x.C).2,Bin:=(zo s.M x.C).2.X,PC:=3}
   else if (zo s.M x.C).2.Out=2 then Z5 s.P w {x with C:=(zo s.M x.C).2} else {x with C:=(zo s.M x.C).2})
 else if x.PC=3 then ({s with Bins:=s.Bins.set x.Bin.toNat []},{x with Batch:=Xy s x.Bin,PC:=4,C:=Wf s.P (zO s.P) x.Bin})
 else if x.PC=4 then
  ({s with M:=(zo s.M x.C).1},if (zo s.M x.C).2.Out=1 then {x with C:=(zo s.M x.C).2,Bin:=0,PC:=7} else {x with C:=(zo s.M x.C).2})
 else if x.PC=5 then
  (s,if zU s.H x.Obj x.Slot=0 then {x with Slot:=wc (x.Slot+1),PC:=onW s (wc (x.Slot+1))} else {x with Slot:=wc (x.Slot+1),PC:=6,G:=Zh 1 (zU s.H x.Obj x.Slot) w})
 else if x.PC=6 then ((zx s x.G).1,if (zx s x.G).2.Out=1 then {x with G:=(zx s x.G).2,PC:=onW s x.Slot} else {x with G:=(zx s x.G).2})
 else if x.PC=7 then (s,match x.Batch with | []=>Z5 s.P w x | o::l=>{x with Batch:=l,PC:=5,Obj:=o,Slot:=0})
 else if x.PC=8 then ({s with T:=xP s.T x.Obj,L:=Yi s.L 0},{x with PC:=9})
 else if x.PC=9 then ({s with Work:=wc (s.Work-1)},{x with Obj:=0,PC:=7})
 else (s,x)
def zt (s:za) (w:Int):za :=
 if s.Done=true\/w<1\/(s.Ws.length:Int)<w then s
 else match s.Ws[(w-1).toNat]? with
  | some x=>{(zi s w x).1 with Ws:=s.Ws.set (w-1).toNat (zi s w x).2}
  | none=>s
structure zve (p:zc) (nb:Nat) (hd:Int) (c:zJ):Prop where
 k:c.Kind=2
 h:c.Head=hd
 n:c.Next=zO p
 v:1<=c.PC->1<=yH c.H/\yH c.H<nb
 y:2<=c.PC->0<=c.Y/\c.Y<nb
 o:c.Out≠1
structure zo0 (p:zc) (nb:Nat) (hd:Int) (c:zJ):Prop where
 k:c.Kind=1
 h:c.Head=hd
 n:c.Next=zO p
 x:1<=c.X/\c.X<nb
 v:1<=c.PC->yH c.H<nb
theorem zuW {p:zc}{nb:Nat}{hd x:Int}:zve p nb hd (zqo p hd x) :=
 ⟨rfl,rfl,rfl,fun e=>zk e (by show ¬(1:Int)<=0;decide),fun e=>zk e (by show ¬(2:Int)<=0;decide),by show (0:Int)≠1;decide⟩
theorem zsu {p:zc}{nb:Nat}{hd x:Int}(h:1<=x/\x<nb):zo0 p nb hd (Wf p hd x) :=
 ⟨rfl,rfl,rfl,h,fun e=>zk e (by show ¬(1:Int)<=0;decide)⟩
structure WOk (p:zc) (nb:Nat) (w:Int) (x:zh):Prop where
 pc:0<=x.PC/\x.PC<=9
 vic:1<=x.Victim/\x.Victim<=p.Workers
 d0:x.PC=0->x.D.Kind=2/\x.D.Base=zZ p w/\x.D.Cap=p.Cap
 d1:x.PC=1->x.D.Kind=3/\x.D.Base=zZ p x.Victim/\x.D.Cap=p.Cap
 c2:x.PC=2->zve p nb (yb p) x.C
 b3:x.PC=3->1<=x.Bin/\x.Bin<nb
 c4:x.PC=4->zo0 p nb (zO p) x.C
 g6:x.PC=6->MOk p nb x.G/\(x.G.PC=5->x.G.C.Out≠1)/\x.G.Mode=1/\x.G.PC≠4
theorem WOk.plain {p:zc}{nb:Nat}{w:Int}{x:zh}(pc:x.PC=5\/x.PC=7\/x.PC=8\/x.PC=9) (vic:1<=x.Victim/\x.Victim<=p.Workers):WOk p nb w x :=
 ⟨by omega,vic,fun e=>by omega,fun e=>by omega,fun e=>by omega,fun e=>by omega,fun e=>by omega,fun e=>by omega⟩
theorem SOk.swLow {p:zc}{nb:Nat}{s:za}(h:zB p) (S:SOk p nb s) {a:Int}(ha:a<yb p) (x v:BitVec 64):SOk p nb {s with M:=(sw s.M a x v).1}:=by
 unfold sw;split
 .exact S.low h ha v
 .exact S
theorem zA5 {p:zc}{nb:Nat}{s:za}(h:zB p) (S:SOk p nb s) {d:zm}{v:Int}(hv:1<=v/\v<=p.Workers) (hk:d.Kind=2\/d.Kind=3) (hb:d.Base=zZ p v):SOk p nb {s with M:=(zT s.M d).1}:=by
 have hd:=uC h hv.1 hv.2;have hc:=h.cap;have hf:=vi h;have e1:wc (d.Base+1)=d.Base+1:=yP;unfold zT;split
 .exact S
 split
 .omega
 split
 .unfold zbG;rw [e1];split
  .exact S
  split
  .exact S
  split
  .exact S.low h (by omega) _
  split
  .exact S
  split
  .exact S
  split
  .exact S.swLow h (by omega) _ _
  split<;>exact S.low h (by omega) _
 split
 .unfold WM;split
  .exact S
  split
  .exact S
  split
  .exact S
  split
  .exact S
  .exact S.swLow h (by omega) _ _
 .exact S
theorem ziz (m:List (BitVec 64)) (d:zm):(zT m d).1.length=m.length/\(zT m d).2.Kind=d.Kind/\(zT m d).2.Base=d.Base/\(zT m d).2.Cap=d.Cap:=by
 unfold zT;split
 .exact ⟨rfl,rfl,rfl,rfl⟩
 split
 .unfold yV;split
  .exact ⟨rfl,rfl,rfl,rfl⟩
  split
  .exact ⟨rfl,rfl,rfl,rfl⟩
  split
  .refine ⟨rfl,?_,?_,?_⟩<;>dsimp only<;>split<;>rfl
  split<;>exact ⟨ZU _ _ _,rfl,rfl,rfl⟩
 split
 .exact zvs m d
 split
 .exact zsS m d
 .exact ⟨rfl,rfl,rfl,rfl⟩
theorem zy3 {n v:Int}(h:1<=v/\v<=n):1<=zaK n v/\zaK n v<=n:=by unfold zaK;split<;>omega
theorem WOk.look {p:zc}{nb:Nat}{w:Int}{x:zh}(hw:1<=w/\w<=p.Workers) (vic:1<=x.Victim/\x.Victim<=p.Workers):WOk p nb w (vh p w x):=by
 have hn:=zy3 vic;unfold vh;split
 .exact ⟨⟨(by show (0:Int)<=2;decide),(by show (2:Int)<=9;decide)⟩,hw,fun e=>(by cases e),fun e=>(by cases e),fun _=>zuW,fun e=>(by cases e),fun e=>(by cases e),fun e=>(by cases e)⟩
 .exact ⟨⟨(by show (0:Int)<=1;decide),(by show (1:Int)<=9;decide)⟩,hn,fun e=>(by cases e),fun _=>⟨rfl,rfl,rfl⟩,fun e=>(by cases e),fun e=>(by cases e),fun e=>(by cases e),fun e=>(by cases e)⟩
theorem WOk.begin {p:zc}{nb:Nat}{w:Int}{x:zh}(hw:1<=w/\w<=p.Workers):WOk p nb w (Z5 p w x) :=
 ⟨⟨(by show (0:Int)<=0;decide),(by show (0:Int)<=9;decide)⟩,hw,fun _=>⟨rfl,rfl,rfl⟩,fun e=>(by cases e),fun e=>(by cases e),fun e=>(by cases e),fun e=>(by cases e),fun e=>(by cases e)⟩
theorem zuN (s:za) {g:zH}(h1:g.Mode=1) (h4:g.PC≠4):(zx s g).2.PC≠4/\(zx s g).1.Flag=s.Flag:=by
 have five:(5:Int)≠4:=by decide
 unfold zx;split
 .exact ⟨h4,rfl⟩
 split
 .refine ⟨?_,rfl⟩;unfold Uf;dsimp only;split<;>exact h4
 split
 .exact ⟨(by show (7:Int)≠4;decide),rfl⟩
 split
 .refine ⟨?_,rfl⟩;unfold zeH;dsimp only;split
  .show (6:Int)≠4;decide
  split
  .exact five
  .exact h4
 split
 .refine ⟨?_,rfl⟩;unfold zek;dsimp only;split
  .exact h4
  split
  .exact five
  .exact h4
 split
 .exact ⟨h4,rfl⟩
 split
 .refine ⟨?_,rfl⟩;unfold zeI;dsimp only;split
  .show (2:Int)≠4;decide
  .show (3:Int)≠4;decide
 .exact ⟨(by show (1:Int)≠4;decide),rfl⟩
theorem zhz (s:za) (i:Int):onW s i=5\/onW s i=8:=by unfold onW;split<;>simp
theorem SOk.keep {p:zc}{nb:Nat}{s s':za}(S:SOk p nb s) (hP:s'.P=s.P) (hM:s'.M=s.M) (hB:s'.Bins.length=s.Bins.length):SOk p nb s' :=
 ⟨hP.trans S.P,hB.trans S.bins,S.nbk,by rw [hM];exact S.mem,by rw [hM];exact S.cF,by rw [hM];exact S.cE,by rw [hM];exact S.cL⟩
theorem zuD {p:zc}{nb:Nat}{s:za}{w:Int}{x:zh}(h:zB p) (hw:1<=w/\w<=p.Workers) (S:SOk p nb s) (W:WOk p nb w x):SOk p nb (zi s w x).1/\WOk p nb w (zi s w x).2:=by
 have hP:=S.P;unfold zi;split
 .rename_i h01;have hv:∃v,(1<=v/\v<=p.Workers)/\(x.D.Kind=2\/x.D.Kind=3)/\x.D.Base=zZ p v:=by
   rcases h01 with e | e
   .obtain ⟨a,b,c⟩:=W.d0 e;exact ⟨w,hw,.inl a,b⟩
   .obtain ⟨a,b,c⟩:=W.d1 e;exact ⟨x.Victim,W.vic,.inr a,b⟩
  obtain ⟨v,hv1,hv2,hv3⟩:=hv;refine ⟨zA5 h S hv1 hv2 hv3,?_⟩;obtain ⟨l1,l2,l3,l4⟩:=ziz s.M x.D;dsimp only;split
  .exact WOk.plain (.inl rfl) hw
  split
  .rw [hP];exact WOk.look hw W.vic
  .refine ⟨W.pc,W.vic,fun e=>?_,fun e=>?_,fun e=>by dsimp only at e;omega,fun e=>by dsimp only at e;omega,fun e=>by dsimp only at e;omega,fun e=>by dsimp only at e;omega⟩
   .obtain ⟨a,b,c⟩:=W.d0 e;exact ⟨l2.trans a,l3.trans b,l4.trans c⟩
   .obtain ⟨a,b,c⟩:=W.d1 e;exact ⟨l2.trans a,l3.trans b,l4.trans c⟩
 split
 .rename_i h2;have C:=W.c2 h2;obtain ⟨b1,b2,b3,b4,b5,b6⟩:=zme h S (.inl rfl) C.k C.h C.n C.v C.y C.o;refine ⟨b1,?_⟩;dsimp only;split
  .rename_i e1;exact ⟨⟨(by show (0:Int)<=3;decide),(by show (3:Int)<=9;decide)⟩,W.vic,fun e=>(by cases e),fun e=>(by cases e),fun e=>(by cases e),fun _=>b6 e1,fun e=>(by cases e),fun e=>(by cases e)⟩
  split
  .rw [hP];exact WOk.begin hw
  .rename_i e1 e2;exact ⟨W.pc,W.vic,fun e=>(by dsimp only at e;omega),fun e=>(by dsimp only at e;omega),fun _=>⟨b2,b3,b4,(b5 e1 e2).1,(b5 e1 e2).2,e1⟩,fun e=>(by dsimp only at e;omega),fun e=>(by dsimp only at e;omega),fun e=>(by dsimp only at e;omega)⟩
 split
 .rename_i h3;have B:=W.b3 h3;refine ⟨S.keep rfl rfl (by simp),?_⟩;rw [hP];exact ⟨⟨(by show (0:Int)<=4;decide),(by show (4:Int)<=9;decide)⟩,W.vic,fun e=>(by cases e),fun e=>(by cases e),fun e=>(by cases e),fun e=>(by cases e),fun _=>zsu B,fun e=>(by cases e)⟩
 split
 .rename_i h4;have C:=W.c4 h4;obtain ⟨b1,b2,b3,b4,b5,b6⟩:=zqB h S (.inr rfl) C.k C.h C.n C.x C.v;refine ⟨b1,?_⟩;dsimp only;split
  .exact WOk.plain (.inr (.inl rfl)) W.vic
  .exact ⟨W.pc,W.vic,fun e=>(by dsimp only at e;omega),fun e=>(by dsimp only at e;omega),fun e=>(by dsimp only at e;omega),fun e=>(by dsimp only at e;omega),fun _=>⟨b2,b3,b4,b5,b6⟩,fun e=>(by dsimp only at e;omega)⟩
 split
 .refine ⟨S,?_⟩;dsimp only;split
  .rcases zhz s (wc (x.Slot+1)) with e | e<;>rw [e]
   .exact WOk.plain (.inl rfl) W.vic
   .exact WOk.plain (.inr (.inr (.inl rfl))) W.vic
  .exact ⟨⟨(by show (0:Int)<=6;decide),(by show (6:Int)<=9;decide)⟩,W.vic,fun e=>(by cases e),fun e=>(by cases e),fun e=>(by cases e),fun e=>(by cases e),fun e=>(by cases e),fun _ =>
    ⟨⟨fun _=>hw,fun e=>(by cases e),fun e=>(by cases e),fun e=>(by cases e),fun e=>(by cases e)⟩,fun e=>(by cases e),rfl,by show (0:Int)≠4;decide⟩⟩
 split
 .rename_i h6;obtain ⟨g1,g2,g3,g4⟩:=W.g6 h6;obtain ⟨r1,r2,r3⟩:=zmw h S g1 g2;refine ⟨r1,?_⟩;dsimp only;split
  .rcases zhz s x.Slot with e | e<;>rw [e]
   .exact WOk.plain (.inl rfl) W.vic
   .exact WOk.plain (.inr (.inr (.inl rfl))) W.vic
  .exact ⟨W.pc,W.vic,fun e=>(by dsimp only at e;omega),fun e=>(by dsimp only at e;omega),fun e=>(by dsimp only at e;omega),fun e=>(by dsimp only at e;omega),fun e=>(by dsimp only at e;omega),fun _=>⟨r2,r3,(Ue s x.G).2.2.trans g3,(zuN s g3 g4).1⟩⟩
 split
 .refine ⟨S,?_⟩;dsimp only;split
  .rw [hP];exact WOk.begin hw
  .exact WOk.plain (.inl rfl) W.vic
 split
 .exact ⟨S.keep rfl rfl rfl,WOk.plain (.inr (.inr (.inr rfl))) W.vic⟩
 split
 .exact ⟨S.keep rfl rfl rfl,WOk.plain (.inr (.inl rfl)) W.vic⟩
 .have:=W.pc;omega
def Zw (h:zC) (o s v:Int):zC :=
 if xj h o s=true/\0<=v/\v<=(h.Objs.length:Int) then {h with Objs:=h.Objs.set (o-1).toNat ((zV h o).set s.toNat v)} else h
def W3 (h:zC) (most:Int):Bool:=decide ((h.Objs.length:Int)<most)&&decide ((h.Objs.length:Int)<64)
def wK (h:zC):zC:={h with Objs:=h.Objs++[zC3 h.Slots.toNat 0]}
def X3 (t:zA) (o:Int):zA:=if (vT t o).2=true then xP (vT t o).1 o else t
def zf1 (l:zD) (who:Int):Int:=l.Bal.getD (who-1).toNat 0
def zlv (l:zD) (who:Int):Bool:=decide (1<=who)&&decide (who<=(l.Bal.length:Int))
def zmn (l:zD) (who price limit:Int):Bool:=zlv l who&&decide (0<=price)&&decide (0<=limit)&&decide (price<=1000000)&&decide (limit<=1000000)
def ziE (l:zD) (who price limit:Int):Bool:=zmn l who price limit&&decide (wc (-limit)<=wc (zf1 l who-price))
def Ux (l:zD) (who price:Int):zD:={l with Spent:=wc (l.Spent+price),Bal:=l.Bal.set (who-1).toNat (wc (zf1 l who-price))}
def zwq (l:zD) (who price limit:Int):Int:=if zmn l who price limit then (if ziE l who price limit then 0 else wc (wc (price-limit)-zf1 l who)) else -1
def zmb (a b:Int):Int:=if b<a then b else a
def zbI (l:zD) (who want:Int):zD×Int :=
 if zlv l who=true/\0<zmb want l.Pool then ({l with Pool:=wc (l.Pool-zmb want l.Pool),Bal:=l.Bal.set (who-1).toNat (wc (zf1 l who+zmb want l.Pool))},zmb want l.Pool) else (l,0)
def XY (p:zc) (m:Int):List zr:=p.Progs.getD (m-1).toNat []
def opM (p:zc) (m:Int) (x:zg):zr:=(XY p m).getD x.IP.toNat ⟨0,0,0,0⟩
def uF (x:zg) (r:Int):Int:=x.Regs.getD r.toNat 0
def vP (x:zg):zg:={x with PC:=0,IP:=wc (x.IP+1)}
def setM (x:zg) (r v:Int):zg:={x with PC:=0,IP:=wc (x.IP+1),Regs:=x.Regs.set r.toNat v}
def onM (s:za) (slot:Int):Int:=if slot=s.H.Slots then 38 else 36
def zr1 (s:za) (m:Int) (x:zg):Int:=zU s.H (uF x (opM s.P m x).A) (opM s.P m x).S
def zaj (s:za) (m:Int) (x:zg):zg :=
 if s.Acks.getD (m-1).toNat 0<s.Epoch then {x with PC:=1,Ret:=2,Want:=s.Epoch}
 else if ((XY s.P m).length:Int)<=x.IP then x
 else if (opM s.P m x).Kind=1 then {x with PC:=10}
 else if (opM s.P m x).Kind=2 then {x with PC:=20}
 else if (opM s.P m x).Kind=3 then {x with PC:=30}
 else if (opM s.P m x).Kind=4 then setM x (opM s.P m x).R (uF x (opM s.P m x).A)
 else setM x (opM s.P m x).R 0
def mu0 (s:za) (m:Int) (x:zg):za×zg :=
 (s,zaj s m x)
def mu1 (s:za) (m:Int) (x:zg):za×zg :=
 (s,if x.Buf.length=0 then {x with PC:=x.Ret} else {x with PC:=3,Buf:=x.Buf.take (x.Buf.length-1),G:=Zh 2 (x.Buf.getD (x.Buf.length-1) 0) m})
def mu2 (s:za) (m:Int) (x:zg):za×zg :=
 ({s with Acks:=s.Acks.set (m-1).toNat x.Want},{x with PC:=0})
def mu3 (s:za) (m:Int) (x:zg):za×zg :=
 ((zx s x.G).1,if (zx s x.G).2.Out=1 then {x with PC:=1,G:=(zx s x.G).2} else {x with G:=(zx s x.G).2})
def zg0 (s:za) (m:Int) (x:zg):za×zg :=
 (s,setM x (opM s.P m x).R (zr1 s m x))
def zdH (s:za) (m:Int) (x:zg):za×zg :=
 (s,if uF x (opM s.P m x).A=0 then vP x else {x with PC:=21,Old:=zr1 s m x})
def zd7 (s:za) (m:Int) (x:zg):za×zg :=
 (s,if x.Old=0\/yT s.T x.Old≠0 then {x with PC:=23,Old:=0} else {x with PC:=22})
def zdz (s:za) (m:Int) (x:zg):za×zg :=
 (s,if s.P.Buf<=(x.Buf.length:Int) then {x with PC:=1,Ret:=22} else {x with PC:=23,Old:=0,Buf:=x.Buf++[x.Old]})
def zfD (s:za) (m:Int) (x:zg):za×zg :=
 ({s with H:=Zw s.H (uF x (opM s.P m x).A) (opM s.P m x).S (uF x (opM s.P m x).R)},vP x)
def U0 (s:za) (m:Int) (x:zg):za×zg :=
   if ziE s.L m s.P.Price s.P.Limit=true then
   if W3 s.H s.P.Most=true then ({s with L:=Ux s.L m s.P.Price,H:=wK s.H,T:=X3 s.T (wc (s.H.Objs.length+1))},setM x (opM s.P m x).R (wc (s.H.Objs.length+1)))
   else (s,vP x)
  else (s,{x with PC:=31})
def zea (s:za) (m:Int) (x:zg):za×zg :=
   ({s with L:=(zbI s.L m (zwq s.L m s.P.Price s.P.Limit)).1},if (zbI s.L m (zwq s.L m s.P.Price s.P.Limit)).2=0 then {x with PC:=32,C:=zqo s.P (yb s.P) x.Bin} else {x with PC:=0})
def zdD (s:za) (m:Int) (x:zg):za×zg :=
   ({s with M:=(zo s.M x.C).1},if (zo s.M x.C).2.Out=1 then {x with PC:=33,Bin:=(zo s.M x.C).2.X,C:=(zo s.M x.C).2}
   else if (zo s.M x.C).2.Out=2 then {x with PC:=0,C:=(zo s.M x.C).2} else {x with C:=(zo s.M x.C).2})
def zhw (s:za) (m:Int) (x:zg):za×zg :=
 ({s with Bins:=s.Bins.set x.Bin.toNat []},{x with Batch:=Xy s x.Bin,PC:=34,C:=Wf s.P (zO s.P) x.Bin})
def zdX (s:za) (m:Int) (x:zg):za×zg :=
   ({s with M:=(zo s.M x.C).1},if (zo s.M x.C).2.Out=1 then {x with C:=(zo s.M x.C).2,Bin:=0,PC:=35} else {x with C:=(zo s.M x.C).2})
def zdG (s:za) (m:Int) (x:zg):za×zg :=
 (s,match x.Batch with | []=>{x with PC:=0} | o::l=>{x with PC:=36,Obj:=o,Slot:=0,Batch:=l})
def zd4 (s:za) (m:Int) (x:zg):za×zg :=
   (s,if zU s.H x.Obj x.Slot=0 then {x with Slot:=wc (x.Slot+1),PC:=onM s (wc (x.Slot+1))} else {x with Slot:=wc (x.Slot+1),PC:=37,G:=Zh 3 (zU s.H x.Obj x.Slot) m})
def UY (s:za) (m:Int) (x:zg):za×zg :=
 ((zx s x.G).1,if (zx s x.G).2.Out=1 then {x with G:=(zx s x.G).2,PC:=onM s x.Slot} else {x with G:=(zx s x.G).2})
def zfi (s:za) (m:Int) (x:zg):za×zg :=
 ({s with T:=xP s.T x.Obj,L:=Yi s.L m},{x with PC:=39})
def zhe (s:za) (m:Int) (x:zg):za×zg :=
 ({s with Work:=wc (s.Work-1)},{x with Obj:=0,PC:=35})
def zq (s:za) (m:Int) (x:zg):za×zg :=
 if x.PC=0 then mu0 s m x
 else if x.PC=1 then mu1 s m x
 else if x.PC=2 then mu2 s m x
 else if x.PC=3 then mu3 s m x
 else if x.PC=10 then zg0 s m x
 else if x.PC=20 then zdH s m x
 else if x.PC=21 then zd7 s m x
 else if x.PC=22 then zdz s m x
 else if x.PC=23 then zfD s m x
 else if x.PC=30 then U0 s m x
 else if x.PC=31 then zea s m x
 else if x.PC=32 then zdD s m x
 else if x.PC=33 then zhw s m x
 else if x.PC=34 then zdX s m x
 else if x.PC=35 then zdG s m x
 else if x.PC=36 then zd4 s m x
 else if x.PC=37 then UY s m x
 else if x.PC=38 then zfi s m x
 else if x.PC=39 then zhe s m x
 else (s,x)
def zS (s:za) (m:Int):za :=
 if s.Done=true\/m<1\/(s.Ms.length:Int)<m then s
 else match s.Ms[(m-1).toNat]? with
  | some x=>{(zq s m x).1 with Ms:=s.Ms.set (m-1).toNat (zq s m x).2}
  | none=>s
def zoX (p:zc) (m:Int):Nat:=(p.Regs.getD (m-1).toNat []).length
structure XOk (p:zc) (nb:Nat) (m:Int) (x:zg):Prop where
 pc:(0<=x.PC/\x.PC<=3)\/x.PC=10\/(20<=x.PC/\x.PC<=23)\/(30<=x.PC/\x.PC<=39)
 regs:x.Regs.length=zoX p m
 ip:0<=x.IP/\x.IP<=((XY p m).length:Int)
 op:(10<=x.PC/\x.PC<=30)\/((x.PC=1\/x.PC=3)/\x.Ret=22)->x.IP<((XY p m).length:Int)
 ret:x.PC=1\/x.PC=3->x.Ret=2\/x.Ret=22
 c32:x.PC=32->zve p nb (yb p) x.C
 b33:x.PC=33->1<=x.Bin/\x.Bin<nb
 c34:x.PC=34->zo0 p nb (zO p) x.C
 bin:x.PC≠33->x.PC≠34->x.Bin=0
 g:x.PC=3\/x.PC=37->MOk p nb x.G/\(x.G.PC=5->x.G.C.Out≠1)/\x.G.Mode≠1
 buf:(x.Buf.length:Int)<=p.Buf
theorem XOk.move {p:zc}{nb:Nat}{m:Int}{x y:zg}(X:XOk p nb m x) (h:x.PC≠33/\x.PC≠34) (pc:y.PC=0\/y.PC=2\/y.PC=10\/(20<=y.PC/\y.PC<=23)\/y.PC=30\/y.PC=31\/y.PC=35\/y.PC=36\/y.PC=38\/y.PC=39)
  (regs:y.Regs.length=x.Regs.length) (bin:y.Bin=x.Bin) (buf:(y.Buf.length:Int)<=p.Buf) (ip:0<=y.IP/\y.IP<=((XY p m).length:Int)) (op:10<=y.PC/\y.PC<=30->y.IP<((XY p m).length:Int)):XOk p nb m y :=
 ⟨by omega,regs.trans X.regs,ip,fun e=>op (by omega),fun e=>by omega,fun e=>by omega,fun e=>by omega,fun e=>by omega,fun _ _=>bin.trans (X.bin h.1 h.2),fun e=>by omega,buf⟩
theorem zbp (s:za) (i:Int):onM s i=36\/onM s i=38:=by unfold onM;split<;>simp
theorem XOk.next {p:zc}{nb:Nat}{m:Int}{x:zg}(hp:((XY p m).length:Int)<=64) (X:XOk p nb m x) (h:x.PC≠33/\x.PC≠34) (hi:x.IP<((XY p m).length:Int)):XOk p nb m (vP x):=by
 have:=X.ip;have e:wc (x.IP+1)=x.IP+1:=yP;refine X.move h (.inl rfl) rfl rfl X.buf ?_ (fun h=>zk h (by show ¬((10:Int)<=0/\(0:Int)<=30);decide));show 0<=wc (x.IP+1)/\wc (x.IP+1)<=_;rw [e];omega
theorem XOk.set {p:zc}{nb:Nat}{m:Int}{x:zg}(hp:((XY p m).length:Int)<=64) (X:XOk p nb m x) (h:x.PC≠33/\x.PC≠34) (hi:x.IP<((XY p m).length:Int)) (r v:Int):XOk p nb m (setM x r v):=by
 have:=X.ip;have e:wc (x.IP+1)=x.IP+1:=yP;refine X.move h (.inl rfl) (by simp [setM]) rfl X.buf ?_ (fun h=>zk h (by show ¬((10:Int)<=0/\(0:Int)<=30);decide));show 0<=wc (x.IP+1)/\wc (x.IP+1)<=_;rw [e];omega
theorem xV {motive:za×zg->Prop}(s:za) (m:Int) (x:zg) (h0:x.PC=0->motive (mu0 s m x)) (h1:x.PC=1->motive (mu1 s m x)) (h2:x.PC=2->motive (mu2 s m x)) (h3:x.PC=3->motive (mu3 s m x)) (h10:x.PC=10->motive (zg0 s m x)) (h20:x.PC=20->motive (zdH s m x)) (h21:x.PC=21->motive (zd7 s m x)) (h22:x.PC=22->motive (zdz s m x)) (h23:x.PC=23->motive (zfD s m x)) (h30:x.PC=30->motive (U0 s m x)) (h31:x.PC=31->motive (zea s m x)) (h32:x.PC=32->motive (zdD s m x)) (h33:x.PC=33->motive (zhw s m x)) (h34:x.PC=34->motive (zdX s m x)) (h35:x.PC=35->motive (zdG s m x)) (h36:x.PC=36->motive (zd4 s m x)) (h37:x.PC=37->motive (UY s m x)) (h38:x.PC=38->motive (zfi s m x)) (h39:x.PC=39->motive (zhe s m x)) (hn:motive (s,x)):motive (zq s m x):=by
 unfold zq;by_cases c0:x.PC=0
 .rw [zb c0];exact h0 c0
 rw [zd c0];by_cases c1:x.PC=1
 .rw [zb c1];exact h1 c1
 rw [zd c1];by_cases c2:x.PC=2
 .rw [zb c2];exact h2 c2
 rw [zd c2];by_cases c3:x.PC=3
 .rw [zb c3];exact h3 c3
 rw [zd c3];by_cases c10:x.PC=10
 .rw [zb c10];exact h10 c10
 rw [zd c10];by_cases c20:x.PC=20
 .rw [zb c20];exact h20 c20
 rw [zd c20];by_cases c21:x.PC=21
 .rw [zb c21];exact h21 c21
 rw [zd c21];by_cases c22:x.PC=22
 .rw [zb c22];exact h22 c22
 rw [zd c22];by_cases c23:x.PC=23
 .rw [zb c23];exact h23 c23
 rw [zd c23];by_cases c30:x.PC=30
 .rw [zb c30];exact h30 c30
 rw [zd c30];by_cases c31:x.PC=31
 .rw [zb c31];exact h31 c31
 rw [zd c31];by_cases c32:x.PC=32
 .rw [zb c32];exact h32 c32
 rw [zd c32];by_cases c33:x.PC=33
 .rw [zb c33];exact h33 c33
 rw [zd c33];by_cases c34:x.PC=34
 .rw [zb c34];exact h34 c34
 rw [zd c34];by_cases c35:x.PC=35
 .rw [zb c35];exact h35 c35
 rw [zd c35];by_cases c36:x.PC=36
 .rw [zb c36];exact h36 c36
 rw [zd c36];by_cases c37:x.PC=37
 .rw [zb c37];exact h37 c37
 rw [zd c37];by_cases c38:x.PC=38
 .rw [zb c38];exact h38 c38
 rw [zd c38];by_cases c39:x.PC=39
 .rw [zb c39];exact h39 c39
 rw [zd c39];exact hn
theorem zxE {p:zc}{nb:Nat}{s:za}{m:Int}{x:zg}(h:zB p) (hp:((XY p m).length:Int)<=64) (S:SOk p nb s) (X:XOk p nb m x):SOk p nb (zq s m x).1/\XOk p nb m (zq s m x).2:=by
 have hP:=S.P;have hip:=X.ip;have hbuf:=X.buf;have hb:=h.buf;have nop:∀y:Int,31<=y->¬(10<=y/\y<=30):=fun y h e=>by omega
 refine xV (motive:=fun r=>SOk p nb r.1/\XOk p nb m r.2) s m x ?_ ?_ ?_ ?_ ?_ ?_ ?_ ?_ ?_ ?_ ?_ ?_ ?_ ?_ ?_ ?_ ?_ ?_ ?_ ?_
 .intro c;unfold mu0;refine ⟨S,?_⟩;unfold zaj;rw [hP];split
  .exact ⟨.inl ⟨(by show (0:Int)<=1;decide),(by show (1:Int)<=3;decide)⟩,X.regs,X.ip,fun e=>by dsimp only at e;omega,fun _=>.inl rfl,fun e=>(by cases e),fun e=>(by cases e),fun e=>(by cases e),fun _ _=>X.bin (by omega) (by omega),fun e=>by dsimp only at e;omega,X.buf⟩
  split
  .exact X
  rename_i hlt;have hlt:x.IP<((XY p m).length:Int):=by omega
  split
  .exact X.move (by omega) (.inr (.inr (.inl rfl))) rfl rfl X.buf X.ip (fun _=>hlt)
  split
  .exact X.move (by omega) (.inr (.inr (.inr (.inl ⟨by show (20:Int)<=20;decide,by show (20:Int)<=23;decide⟩)))) rfl rfl X.buf X.ip (fun _=>hlt)
  split
  .exact X.move (by omega) (.inr (.inr (.inr (.inr (.inl rfl))))) rfl rfl X.buf X.ip (fun _=>hlt)
  split
  .exact X.set hp (by omega) hlt _ _
  .exact X.set hp (by omega) hlt _ _
 .intro c;unfold mu1;refine ⟨S,?_⟩;split
  .rcases X.ret (.inl c) with e | e
   .exact X.move (by omega) (.inr (.inl e)) rfl rfl X.buf X.ip (fun e2=>by dsimp only at e2;omega)
   .exact X.move (by omega) (.inr (.inr (.inr (.inl (by dsimp only;omega))))) rfl rfl X.buf X.ip (fun e2=>X.op (.inr ⟨.inl c,e⟩))
  .exact ⟨.inl ⟨(by show (0:Int)<=3;decide),(by show (3:Int)<=3;decide)⟩,X.regs,X.ip,fun e=>X.op (.inr ⟨.inl c,by dsimp only at e;omega⟩),fun _=>X.ret (.inl c),fun e=>(by cases e),fun e=>(by cases e),fun e=>(by cases e),fun _ _=>X.bin (by omega) (by omega),
    fun _=>⟨⟨fun e=>zk e (by show ¬(2:Int)=1;decide),fun e=>(by cases e),fun e=>(by cases e),fun e=>(by cases e),fun e=>(by cases e)⟩,fun e=>(by cases e),by show (2:Int)≠1;decide⟩,by dsimp only;rw [zCq];omega⟩
 .intro c;unfold mu2;exact ⟨S.keep rfl rfl rfl,X.move (by omega) (.inl rfl) rfl rfl X.buf X.ip (fun e=>zk e (by show ¬((10:Int)<=0/\(0:Int)<=30);decide))⟩
 .intro c;unfold mu3;obtain ⟨g1,g2,g3⟩:=X.g (.inl c);obtain ⟨r1,r2,r3⟩:=zmw h S g1 g2;refine ⟨r1,?_⟩;dsimp only;split
  .exact ⟨.inl ⟨(by show (0:Int)<=1;decide),(by show (1:Int)<=3;decide)⟩,X.regs,X.ip,fun e=>X.op (.inr ⟨.inr c,by dsimp only at e;omega⟩),fun _=>X.ret (.inr c),fun e=>(by cases e),fun e=>(by cases e),fun e=>(by cases e),fun _ _=>X.bin (by omega) (by omega),fun e=>by dsimp only at e;omega,X.buf⟩
  .exact ⟨X.pc,X.regs,X.ip,X.op,X.ret,fun e=>by dsimp only at e;omega,fun e=>by dsimp only at e;omega,fun e=>by dsimp only at e;omega,X.bin,fun _=>⟨r2,r3,by rw [(Ue s x.G).2.2];exact g3⟩,X.buf⟩
 .intro c;unfold zg0;exact ⟨S,X.set hp (by omega) (X.op (.inl (by omega))) _ _⟩
 .intro c;unfold zdH;refine ⟨S,?_⟩;split
  .exact X.next hp (by omega) (X.op (.inl (by omega)))
  .exact X.move (by omega) (.inr (.inr (.inr (.inl ⟨by show (20:Int)<=21;decide,by show (21:Int)<=23;decide⟩)))) rfl rfl X.buf X.ip (fun _=>X.op (.inl (by omega)))
 .intro c;unfold zd7;refine ⟨S,?_⟩;split
  .exact X.move (by omega) (.inr (.inr (.inr (.inl ⟨by show (20:Int)<=23;decide,by show (23:Int)<=23;decide⟩)))) rfl rfl X.buf X.ip (fun _=>X.op (.inl (by omega)))
  .exact X.move (by omega) (.inr (.inr (.inr (.inl ⟨by show (20:Int)<=22;decide,by show (22:Int)<=23;decide⟩)))) rfl rfl X.buf X.ip (fun _=>X.op (.inl (by omega)))
 .intro c;unfold zdz;have hi:=X.op (.inl (by omega));refine ⟨S,?_⟩;rw [hP];split
  .exact ⟨.inl ⟨(by show (0:Int)<=1;decide),(by show (1:Int)<=3;decide)⟩,X.regs,X.ip,fun e=>hi,fun _=>.inr rfl,fun e=>(by cases e),fun e=>(by cases e),fun e=>(by cases e),fun _ _=>X.bin (by omega) (by omega),fun e=>by dsimp only at e;omega,X.buf⟩
  .exact X.move (by omega) (.inr (.inr (.inr (.inl ⟨by show (20:Int)<=23;decide,by show (23:Int)<=23;decide⟩)))) rfl rfl (by simp;omega) X.ip (fun _=>hi)
 .intro c;unfold zfD;exact ⟨S.keep rfl rfl rfl,X.next hp (by omega) (X.op (.inl (by omega)))⟩
 .intro c;unfold U0;have hi:=X.op (.inl (by omega));split
  .split
   .exact ⟨S.keep rfl rfl rfl,X.set hp (by omega) hi _ _⟩
   .exact ⟨S,X.next hp (by omega) hi⟩
  .exact ⟨S,X.move (by omega) (.inr (.inr (.inr (.inr (.inr (.inl rfl)))))) rfl rfl X.buf X.ip (fun e=>zk e (by show ¬((10:Int)<=31/\(31:Int)<=30);decide))⟩
 .intro c;unfold zea;refine ⟨S.keep rfl rfl rfl,?_⟩;rw [hP];split
  .exact ⟨.inr (.inr (.inr ⟨(by show (30:Int)<=32;decide),(by show (32:Int)<=39;decide)⟩)),X.regs,X.ip,fun e=>by dsimp only at e;omega,fun e=>by dsimp only at e;omega,fun _=>zuW,fun e=>(by cases e),fun e=>(by cases e),fun _ _=>X.bin (by omega) (by omega),fun e=>by dsimp only at e;omega,X.buf⟩
  .exact X.move (by omega) (.inl rfl) rfl rfl X.buf X.ip (fun e=>zk e (by show ¬((10:Int)<=0/\(0:Int)<=30);decide))
 .intro c;unfold zdD;have C:=X.c32 c;obtain ⟨b1,b2,b3,b4,b5,b6⟩:=zme h S (.inl rfl) C.k C.h C.n C.v C.y C.o;refine ⟨b1,?_⟩;dsimp only;split
  .rename_i e1;exact ⟨.inr (.inr (.inr ⟨(by show (30:Int)<=33;decide),(by show (33:Int)<=39;decide)⟩)),X.regs,X.ip,fun e=>by dsimp only at e;omega,fun e=>by dsimp only at e;omega,fun e=>(by cases e),fun _=>b6 e1,fun e=>(by cases e),fun e=>zk rfl e,fun e=>by dsimp only at e;omega,X.buf⟩
  split
  .exact X.move (by omega) (.inl rfl) rfl rfl X.buf X.ip (fun e=>zk e (by show ¬((10:Int)<=0/\(0:Int)<=30);decide))
  .rename_i e1 e2;exact ⟨X.pc,X.regs,X.ip,X.op,X.ret,fun _=>⟨b2,b3,b4,(b5 e1 e2).1,(b5 e1 e2).2,e1⟩,fun e=>by dsimp only at e;omega,fun e=>by dsimp only at e;omega,X.bin,fun e=>by dsimp only at e;omega,X.buf⟩
 .intro c;unfold zhw;have B:=X.b33 c;refine ⟨S.keep rfl rfl (by simp),?_⟩;rw [hP];exact ⟨.inr (.inr (.inr ⟨(by show (30:Int)<=34;decide),(by show (34:Int)<=39;decide)⟩)),X.regs,X.ip,fun e=>by dsimp only at e;omega,fun e=>by dsimp only at e;omega,fun e=>(by cases e),fun e=>(by cases e),fun _=>zsu B,fun _ e=>zk rfl e,fun e=>by dsimp only at e;omega,X.buf⟩
 .intro c;unfold zdX;have C:=X.c34 c;obtain ⟨b1,b2,b3,b4,b5,b6⟩:=zqB h S (.inr rfl) C.k C.h C.n C.x C.v;refine ⟨b1,?_⟩;dsimp only;split
  .exact ⟨.inr (.inr (.inr ⟨(by show (30:Int)<=35;decide),(by show (35:Int)<=39;decide)⟩)),X.regs,X.ip,fun e=>by dsimp only at e;omega,fun e=>by dsimp only at e;omega,fun e=>(by cases e),fun e=>(by cases e),fun e=>(by cases e),fun _ _=>rfl,fun e=>by dsimp only at e;omega,X.buf⟩
  .exact ⟨X.pc,X.regs,X.ip,X.op,X.ret,fun e=>by dsimp only at e;omega,fun e=>by dsimp only at e;omega,fun _=>⟨b2,b3,b4,b5,b6⟩,X.bin,fun e=>by dsimp only at e;omega,X.buf⟩
 .intro c;unfold zdG;refine ⟨S,?_⟩;dsimp only;split
  .exact X.move (by omega) (.inl rfl) rfl rfl X.buf X.ip (fun e=>zk e (by show ¬((10:Int)<=0/\(0:Int)<=30);decide))
  .exact X.move (by omega) (by simp) rfl rfl X.buf X.ip (fun e=>zk e (nop 36 (by omega)))
 .intro c;unfold zd4;refine ⟨S,?_⟩;dsimp only;split
  .rcases zbp s (wc (x.Slot+1)) with e | e<;>rw [e]
   .exact X.move (by omega) (by simp) rfl rfl X.buf X.ip (fun e=>zk e (nop 36 (by omega)))
   .exact X.move (by omega) (by simp) rfl rfl X.buf X.ip (fun e=>zk e (nop 38 (by omega)))
  .exact ⟨.inr (.inr (.inr ⟨(by show (30:Int)<=37;decide),(by show (37:Int)<=39;decide)⟩)),X.regs,X.ip,fun e=>by dsimp only at e;omega,fun e=>by dsimp only at e;omega,fun e=>(by cases e),fun e=>(by cases e),fun e=>(by cases e),fun _ _=>X.bin (by omega) (by omega),
    fun _=>⟨⟨fun e=>zk e (by show ¬(3:Int)=1;decide),fun e=>(by cases e),fun e=>(by cases e),fun e=>(by cases e),fun e=>(by cases e)⟩,fun e=>(by cases e),by show (3:Int)≠1;decide⟩,X.buf⟩
 .intro c;unfold UY;obtain ⟨g1,g2,g3⟩:=X.g (.inr c);obtain ⟨r1,r2,r3⟩:=zmw h S g1 g2;refine ⟨r1,?_⟩;dsimp only;split
  .rcases zbp s x.Slot with e | e<;>rw [e]
   .exact X.move (by omega) (by simp) rfl rfl X.buf X.ip (fun e=>zk e (nop 36 (by omega)))
   .exact X.move (by omega) (by simp) rfl rfl X.buf X.ip (fun e=>zk e (nop 38 (by omega)))
  .exact ⟨X.pc,X.regs,X.ip,X.op,X.ret,fun e=>by dsimp only at e;omega,fun e=>by dsimp only at e;omega,fun e=>by dsimp only at e;omega,X.bin,fun _=>⟨r2,r3,by rw [(Ue s x.G).2.2];exact g3⟩,X.buf⟩
 .intro c;unfold zfi;exact ⟨S.keep rfl rfl rfl,X.move (by omega) (by simp) rfl rfl X.buf X.ip (fun e=>zk e (nop 39 (by omega)))⟩
 .intro c;unfold zhe;exact ⟨S.keep rfl rfl rfl,X.move (by omega) (by simp) rfl rfl X.buf X.ip (fun e=>zk e (nop 35 (by omega)))⟩
 .exact ⟨S,X⟩
def wD (s:za):za :=
 if s.Done=true then s
 else if s.D.PC=0 then {s with Flag:=false,D:={s.D with PC:=1}}
 else if s.D.PC=1 then (if s.Work=0 then {s with D:={s.D with PC:=2}} else s)
 else if s.D.PC=2 then {s with Epoch:=wc (s.Epoch+1),D:=⟨if s.Ms.length=0 then 4 else 3,0⟩}
 else if s.D.PC=3 then (if s.Acks.getD s.D.I.toNat 0<s.Epoch then s else {s with D:=⟨if wc (s.D.I+1)=(s.Ms.length:Int) then 4 else 3,wc (s.D.I+1)⟩})
 else if s.D.PC=4 then (if s.Work=0 then {s with D:={s.D with PC:=5}} else {s with Restarts:=wc (s.Restarts+1),D:={s.D with PC:=0}})
 else if s.D.PC=5 then (if s.Flag=true then {s with Restarts:=wc (s.Restarts+1),D:={s.D with PC:=0}} else {s with D:={s.D with PC:=6}})
 else if s.D.PC=6 then {s with Done:=true}
 else s
structure HOk (p:zc) (h:zC):Prop where
 slots:h.Slots=p.H.Slots
 n:(p.H.Objs.length:Int)<=(h.Objs.length:Int)/\(h.Objs.length:Int)<=p.Most
 objs:∀o∈h.Objs,(o.length:Int)=h.Slots/\∀v∈o,0<=v/\v<=(h.Objs.length:Int)
structure EOk (p:zc) (nb:Nat) (s:za):Prop where
 S:SOk p nb s
 wl:(s.Ws.length:Int)=p.Workers
 ml:(s.Ms.length:Int)=p.Mutators
 al:s.Acks.length=s.Ms.length
 W:∀(i:Nat) x,s.Ws[i]? =some x->WOk p nb ((i:Int)+1) x
 X:∀(i:Nat) x,s.Ms[i]? =some x->XOk p nb ((i:Int)+1) x
 H:HOk p s.H
 D:(0<=s.D.PC/\s.D.PC<=6)/\(s.D.PC=3->0<=s.D.I/\s.D.I<(s.Ms.length:Int))
 small:X8 s
theorem zpH {p:zc}(h:zB p) (m:Int):((XY p m).length:Int)<=64:=by
 unfold XY;have hr:=h.regs;have hp:=h.progs;rw [zBp];rcases zBR (m-1).toNat p.Progs.length with hl | hl
 .rw [zBn hl];have hl2:(m-1).toNat<p.Regs.length:=by omega
  have:=(h.prog (m-1).toNat _ _ (zBn hl2) (zBn hl)).1;show ((p.Progs[(m-1).toNat]).length:Int)<=64;omega
 .rw [zCj hl];show (([]:List zr).length:Int)<=64;simp
theorem ztv {p:zc}(h:zB p):EOk p (z7 p+1) (yW p):=by
 have hw:=h.wk;have hm:=h.mt;have hr:=h.regs;have hn:=h.n;have hmo:=h.most;have hb:=h.buf;refine ⟨zux h,?_,?_,?_,fun i x hx=>?_,fun i x hx=>?_,⟨rfl,⟨zB2 _,hmo.1⟩,h.objs⟩,⟨⟨by show (0:Int)<=0;decide,by show (0:Int)<=6;decide⟩,fun e=>zk e (by show ¬(0:Int)=3;decide)⟩,zrl h⟩
 .show (((zC5 p.Workers.toNat).map (wY p)).length:Int)=_;rw [zCK,List.length_range];omega
 .show ((p.Regs.map ve).length:Int)=_;rw [zCK];exact hr
 .show (zC3 p.Mutators.toNat (0:Int)).length=(p.Regs.map ve).length;rw [zB8,zCK];omega
 .have hx:((zC5 p.Workers.toNat).map (wY p))[i]? =some x:=hx;rw [zBQ] at hx;rcases zBR i p.Workers.toNat with hl | hl
  .rw [List.getElem?_range hl] at hx;injection hx with hx;subst hx;exact ⟨⟨by show (0:Int)<=0;decide,by show (0:Int)<=9;decide⟩,by show 1<=(i:Int)+1/\(i:Int)+1<=p.Workers;omega,fun _=>⟨rfl,rfl,rfl⟩,fun e=>(by cases e),fun e=>(by cases e),fun e=>(by cases e),fun e=>(by cases e),fun e=>(by cases e)⟩
  .rw [zCj (by rw [List.length_range];exact hl)] at hx;cases hx
 .have hx:(p.Regs.map ve)[i]? =some x:=hx;rw [zBQ] at hx;cases hq:p.Regs[i]? with
  | none=>rw [hq] at hx;cases hx
  | some r =>
   rw [hq] at hx;injection hx with hx;subst hx;refine ⟨.inl ⟨by show (0:Int)<=0;decide,by show (0:Int)<=3;decide⟩,?_,⟨by show (0:Int)<=0;decide,by show (0:Int)<=_;omega⟩,fun e=>zk e ?_,fun e=>zk e ?_,fun e=>(by cases e),fun e=>(by cases e),fun e=>(by cases e),fun _ _=>rfl,fun e=>zk e ?_,by show (0:Int)<=p.Buf;omega⟩
   .show r.length=zoX p ((i:Int)+1);unfold zoX;rw [show ((i:Int)+1-1).toNat=i by omega,zBp,hq];rfl
   .intro e;simp [ve] at e
   .intro e;simp [ve] at e
   .intro e;simp [ve] at e
theorem zm0 {s:za}(h:X8 s) (b:Int):(Xy s b).length<1000000:=by
 unfold Xy;rw [zBp];cases hq:s.Bins[b.toNat]? with
 | none=>simp
 | some l=>exact h.bin l (zBq hq)
theorem zrs (l:zD) (w:Int):(Yi l w).Bal.length=l.Bal.length:=by unfold Yi;split<;>simp
structure Wn (s s':za):Prop where
 P:s'.P=s.P
 m:s'.M.length=s.M.length
 bl:s'.Bins.length=s.Bins.length
 b:∀l∈s'.Bins,l∈s.Bins\/l.length<=1
 bal:s'.L.Bal.length=s.L.Bal.length
 ac:s'.Acks.length=s.Acks.length
 ws:s'.Ws=s.Ws
 ms:s'.Ms=s.Ms
 done:s'.Done=s.Done
 d:s'.D=s.D
theorem Wn.refl (s:za):Wn s s:=⟨rfl,rfl,rfl,fun l h=>.inl h,rfl,rfl,rfl,rfl,rfl,rfl⟩
theorem zb0 (s:za) (g:zH):Wn s (zx s g).1/\(zx s g).1.H=s.H:=by
 obtain ⟨m,b,t,w,f,e,h1,h2,h3,_,_⟩:=zaH s g;rw [e];exact ⟨⟨rfl,h1,h2,fun l hl=>(h3 l hl).imp id (fun e=>by rw [e];simp),rfl,rfl,rfl,rfl,rfl,rfl⟩,rfl⟩
theorem zuT {s:za}(b:Nat):∀l∈s.Bins.set b [],l∈s.Bins\/l.length<=1:=fun l hl=>(zBX hl).imp id (fun e=>by rw [e];simp)
theorem zrc (s:za) (w:Int) (x:zh):Wn s (zi s w x).1/\(zi s w x).1.H=s.H:=by
 unfold zi;split
 .exact ⟨⟨rfl,(ziz _ _).1,rfl,fun l h=>.inl h,rfl,rfl,rfl,rfl,rfl,rfl⟩,rfl⟩
 split
 .exact ⟨⟨rfl,zaR _ _,rfl,fun l h=>.inl h,rfl,rfl,rfl,rfl,rfl,rfl⟩,rfl⟩
 split
 .exact ⟨⟨rfl,rfl,by simp,zuT _,rfl,rfl,rfl,rfl,rfl,rfl⟩,rfl⟩
 split
 .exact ⟨⟨rfl,zaR _ _,rfl,fun l h=>.inl h,rfl,rfl,rfl,rfl,rfl,rfl⟩,rfl⟩
 split
 .exact ⟨Wn.refl s,rfl⟩
 split
 .exact zb0 s x.G
 split
 .exact ⟨Wn.refl s,rfl⟩
 split
 .exact ⟨⟨rfl,rfl,rfl,fun l h=>.inl h,zrs _ _,rfl,rfl,rfl,rfl,rfl⟩,rfl⟩
 split
 .exact ⟨⟨rfl,rfl,rfl,fun l h=>.inl h,rfl,rfl,rfl,rfl,rfl,rfl⟩,rfl⟩
 .exact ⟨Wn.refl s,rfl⟩
theorem zt7 (p:zc) (w:Int) (x:zh):(vh p w x).Batch=x.Batch:=by unfold vh;split<;>rfl
theorem zvI {s:za}(h:X8 s) (w:Int) {x:zh}(hx:x.Batch.length<1000000):(zi s w x).2.Batch.length<1000000:=by
 unfold zi;split
 .dsimp only;split
  .exact hx
  split
  .rw [zt7];exact hx
  .exact hx
 split
 .dsimp only;split
  .exact hx
  split<;>exact hx
 split
 .exact zm0 h _
 split
 .dsimp only;split<;>exact hx
 split
 .dsimp only;split<;>exact hx
 split
 .dsimp only;split<;>exact hx
 split
 .dsimp only;cases hb:x.Batch with
  | nil=>show x.Batch.length<_;exact hx
  | cons o l=>rw [hb] at hx;show l.length<_;simp at hx;omega
 split
 .exact hx
 split
 .exact hx
 .exact hx
theorem zvq (l:zD) (w p:Int):(Ux l w p).Bal.length=l.Bal.length:=by unfold Ux;simp
theorem zxg (l:zD) (w n:Int):(zbI l w n).1.Bal.length=l.Bal.length:=by unfold zbI;split<;>simp
theorem zyn (s:za) (m:Int) (x:zg):Wn s (zq s m x).1:=by
 have q:∀s':za,s'.P=s.P->s'.M=s.M->s'.Bins=s.Bins->s'.L.Bal.length=s.L.Bal.length->s'.Acks.length=s.Acks.length->s'.Ws=s.Ws->s'.Ms=s.Ms->s'.Done=s.Done->s'.D=s.D->Wn s s' :=
  fun s' a b c d e f g h i=>⟨a,by rw [b],by rw [c],fun l hl=>.inl (c▸hl),d,e,f,g,h,i⟩
 refine xV (motive:=fun r=>Wn s r.1) s m x ?_ ?_ ?_ ?_ ?_ ?_ ?_ ?_ ?_ ?_ ?_ ?_ ?_ ?_ ?_ ?_ ?_ ?_ ?_ ?_
 .intro c;unfold mu0;exact Wn.refl s
 .intro c;unfold mu1;exact Wn.refl s
 .intro c;unfold mu2;exact q _ rfl rfl rfl rfl (by simp) rfl rfl rfl rfl
 .intro c;unfold mu3;exact (zb0 s x.G).1
 .intro c;unfold zg0;exact Wn.refl s
 .intro c;unfold zdH;exact Wn.refl s
 .intro c;unfold zd7;exact Wn.refl s
 .intro c;unfold zdz;exact Wn.refl s
 .intro c;unfold zfD;exact q _ rfl rfl rfl rfl rfl rfl rfl rfl rfl
 .intro c;unfold U0;split
  .split
   .exact q _ rfl rfl rfl (zvq _ _ _) rfl rfl rfl rfl rfl
   .exact Wn.refl s
  .exact Wn.refl s
 .intro c;unfold zea;exact q _ rfl rfl rfl (zxg _ _ _) rfl rfl rfl rfl rfl
 .intro c;unfold zdD;exact ⟨rfl,zaR _ _,rfl,fun l h=>.inl h,rfl,rfl,rfl,rfl,rfl,rfl⟩
 .intro c;unfold zhw;exact ⟨rfl,rfl,by simp,zuT _,rfl,rfl,rfl,rfl,rfl,rfl⟩
 .intro c;unfold zdX;exact ⟨rfl,zaR _ _,rfl,fun l h=>.inl h,rfl,rfl,rfl,rfl,rfl,rfl⟩
 .intro c;unfold zdG;exact Wn.refl s
 .intro c;unfold zd4;exact Wn.refl s
 .intro c;unfold UY;exact (zb0 s x.G).1
 .intro c;unfold zfi;exact q _ rfl rfl rfl (zrs _ _) rfl rfl rfl rfl rfl
 .intro c;unfold zhe;exact q _ rfl rfl rfl rfl rfl rfl rfl rfl rfl
 .exact Wn.refl s
theorem HOk.sm {p:zc}(hp:zB p) {h:zC}(H:HOk p h):h.Objs.length<1000000/\∀x∈h.Objs,x.length<1000000:=by
 have h1:=H.n;have h2:=hp.most;have h3:=hp.n;have h4:=hp.slots;have h5:=H.slots;exact ⟨by omega,fun x hx=>by have:=(H.objs x hx).1;omega⟩
theorem X8.turn {p:zc}(hp:zB p) {s s':za}(h:X8 s) (T:Wn s s') (H:HOk p s'.H):X8 s':=by
 have hh:=H.sm hp;refine ⟨by rw [T.m];exact h.m,by rw [T.bl];exact h.bins,fun x hx=>?_,by rw [T.ac];exact h.acks,by rw [T.bal];exact h.bal,by rw [T.ws];exact h.ws,by rw [T.ws];exact h.w,by rw [T.ms];exact h.ms,by rw [T.ms];exact h.mu,hh.1,hh.2,by rw [T.P];exact h.pobjs,by rw [T.P];exact h.pobj,by rw [T.P];exact h.regs,by rw [T.P];exact h.reg,by rw [T.P];exact h.progs,by rw [T.P];exact h.prog,by rw [T.P];exact h.picks⟩;rcases T.b x hx with h' | h'
 .exact h.bin x h'
 .omega
theorem X8.setW {s:za}(h:X8 s) {i:Nat}{x:zh}(hx:x.Batch.length<1000000):X8 {s with Ws:=s.Ws.set i x} :=
 ⟨h.m,h.bins,h.bin,h.acks,h.bal,by simp only [zBF];exact h.ws,fun y hy=>by
  rcases zBX hy with hy | rfl
  .exact h.w y hy
  .exact hx,h.ms,h.mu,h.objs,h.obj,h.pobjs,h.pobj,h.regs,h.reg,h.progs,h.prog,h.picks⟩
theorem X8.setM {s:za}(h:X8 s) {i:Nat}{x:zg}(hx:x.Regs.length<1000000/\x.Buf.length<1000000/\x.Batch.length<1000000):X8 {s with Ms:=s.Ms.set i x} :=
 ⟨h.m,h.bins,h.bin,h.acks,h.bal,h.ws,h.w,by simp only [zBF];exact h.ms,fun y hy=>by
  rcases zBX hy with hy | rfl
  .exact h.mu y hy
  .exact hx,h.objs,h.obj,h.pobjs,h.pobj,h.regs,h.reg,h.progs,h.prog,h.picks⟩
theorem zuz {α:Type}{l:List α}{i j:Nat}{x y:α}(h:(l.set i x)[j]? =some y):(j=i/\y=x)\/l[j]? =some y:=by
 rw [zBZ] at h;split at h
 .rename_i e;split at h
  .injection h with h;exact .inl ⟨e.symm,h.symm⟩
  .cases h
 .exact .inr h
theorem zd6 {p:zc}{nb:Nat}{s:za}(h:zB p) (E:EOk p nb s) (w:Int):EOk p nb (zt s w):=by
 unfold zt;split
 .exact E
 rename_i hc;cases hx:s.Ws[(w-1).toNat]? with
 | none=>exact E
 | some x =>
  have hw1: ¬w<1:=fun e=>hc (.inr (.inl e));have hw2: ¬(s.Ws.length:Int)<w:=fun e=>hc (.inr (.inr e));have hwl:=E.wl;have ei:(((w-1).toNat:Nat):Int)+1=w:=by omega
  have hW:=E.W _ x hx;rw [ei] at hW;obtain ⟨r1,r2⟩:=zuD h (by omega) E.S hW;obtain ⟨T,TH⟩:=zrc s w x;have sm:X8 (zi s w x).1:=E.small.turn h T (by rw [TH];exact E.H);have hws:(zi s w x).1.Ws=s.Ws:=T.ws;refine ⟨r1.keep rfl rfl rfl,?_,?_,?_,fun i y hy=>?_,fun i y hy=>?_,?_,?_,?_⟩
  .show ((s.Ws.set _ _).length:Int)=_;rw [zBF];exact hwl
  .show ((zi s w x).1.Ms.length:Int)=_;rw [T.ms];exact E.ml
  .show (zi s w x).1.Acks.length=(zi s w x).1.Ms.length;rw [T.ms,T.ac];exact E.al
  .rcases zuz hy with ⟨rfl,rfl⟩ | hy
   .rw [ei];exact r2
   .exact E.W i y hy
  .have hy:(zi s w x).1.Ms[i]? =some y:=hy;rw [T.ms] at hy;exact E.X i y hy
  .show HOk p (zi s w x).1.H;rw [TH];exact E.H
  .show (0<=(zi s w x).1.D.PC/\(zi s w x).1.D.PC<=6)/\((zi s w x).1.D.PC=3->0<=(zi s w x).1.D.I/\(zi s w x).1.D.I<((zi s w x).1.Ms.length:Int));rw [T.d,T.ms];exact E.D
  .have:=sm.setW (i:=(w-1).toNat) (zvI E.small w (E.small.w x (zBq hx)));rw [hws] at this;exact this
theorem zAW {p:zc}{nb:Nat}{s:za}(h:zB p) (E:EOk p nb s):EOk p nb (wD s):=by
 have key:∀s':za,s'.P=s.P->s'.M=s.M->s'.Bins=s.Bins->s'.Ws=s.Ws->s'.Ms=s.Ms->s'.Acks=s.Acks->s'.H=s.H->s'.L=s.L->((0<=s'.D.PC/\s'.D.PC<=6)/\(s'.D.PC=3->0<=s'.D.I/\s'.D.I<(s'.Ms.length:Int)))->EOk p nb s':=by
  intro s' e1 e2 e3 e4 e5 e6 e7 e8 e9;have q:=E.small;refine ⟨E.S.keep e1 e2 (by rw [e3]),by rw [e4];exact E.wl,by rw [e5];exact E.ml,by rw [e5,e6];exact E.al,by rw [e4];exact E.W,by rw [e5];exact E.X,by rw [e7];exact E.H,e9,?_⟩;exact ⟨by rw [e2];exact q.m,by rw [e3];exact q.bins,by rw [e3];exact q.bin,by rw [e6];exact q.acks,by rw [e8];exact q.bal,by rw [e4];exact q.ws,by rw [e4];exact q.w,by rw [e5];exact q.ms,by rw [e5];exact q.mu,by rw [e7];exact q.objs,by rw [e7];exact q.obj,by rw [e1];exact q.pobjs,by rw [e1];exact q.pobj,by rw [e1];exact q.regs,by rw [e1];exact q.reg,by rw [e1];exact q.progs,by rw [e1];exact q.prog,by rw [e1];exact q.picks⟩
 have hm:∀n:Int,0<=n/\n<=6->n≠3->∀i,(0<=(⟨n,i⟩:zF).PC/\(⟨n,i⟩:zF).PC<=6)/\((⟨n,i⟩:zF).PC=3->0<=(⟨n,i⟩:zF).I/\(⟨n,i⟩:zF).I<(s.Ms.length:Int)):=fun n h1 h2 i=>⟨h1,fun e=>zk e h2⟩
 have hml:=E.ml;have hmt:=h.mt;unfold wD;split
 .exact E
 split
 .exact key _ rfl rfl rfl rfl rfl rfl rfl rfl (hm 1 (by decide) (by decide) _)
 split
 .split
  .exact key _ rfl rfl rfl rfl rfl rfl rfl rfl (hm 2 (by decide) (by decide) _)
  .exact E
 split
 .refine key _ rfl rfl rfl rfl rfl rfl rfl rfl ?_;dsimp only;split
  .exact hm 4 (by decide) (by decide) _
  .exact ⟨by decide,fun _=>by omega⟩
 split
 .rename_i c3;have hi:=E.D.2 c3;split
  .exact E
  .refine key _ rfl rfl rfl rfl rfl rfl rfl rfl ?_;dsimp only;have e:wc (s.D.I+1)=s.D.I+1:=yP;rw [e];split
   .exact hm 4 (by decide) (by decide) _
   .exact ⟨by decide,fun _=>by omega⟩
 split
 .split
  .exact key _ rfl rfl rfl rfl rfl rfl rfl rfl (hm 5 (by decide) (by decide) _)
  .exact key _ rfl rfl rfl rfl rfl rfl rfl rfl (hm 0 (by decide) (by decide) _)
 split
 .split
  .exact key _ rfl rfl rfl rfl rfl rfl rfl rfl (hm 0 (by decide) (by decide) _)
  .exact key _ rfl rfl rfl rfl rfl rfl rfl rfl (hm 6 (by decide) (by decide) _)
 split
 .exact key _ rfl rfl rfl rfl rfl rfl rfl rfl E.D
 .exact E
theorem HOk.put {p:zc}{h:zC}(H:HOk p h) (o s v:Int):HOk p (Zw h o s v):=by
 unfold Zw;split
 .rename_i c;obtain ⟨c1,c2,c3⟩:=c;unfold xj at c1;simp only [zBl,decide_eq_true_eq] at c1;refine ⟨H.slots,by simp only [zBF];exact H.n,fun l hl=>?_⟩;simp only [zBF];rcases zBX hl with hl | rfl
  .exact H.objs l hl
  .have hm:zV h o∈h.Objs:=by
    unfold zV;rw [zBp,zBn (show (o-1).toNat<h.Objs.length by omega)];exact zBU _
   obtain ⟨a,b⟩:=H.objs _ hm;refine ⟨by rw [zBF];exact a,fun y hy=>?_⟩;rcases zBX hy with hy | rfl
   .exact b y hy
   .exact ⟨c2,c3⟩
 .exact H
theorem HOk.alloc {p:zc}(hp:zB p) {h:zC}(H:HOk p h) (hr:W3 h p.Most=true):HOk p (wK h):=by
 unfold W3 at hr;simp only [zBl,decide_eq_true_eq] at hr;have hs:=hp.slots;have hsl:=H.slots;have hn:=H.n;unfold wK;refine ⟨H.slots,by simp only [zBz,List.length_singleton];omega,fun l hl=>?_⟩;simp only [zBz,List.length_singleton];rcases zBE.1 hl with hl | hl
 .obtain ⟨a,b⟩:=H.objs l hl;exact ⟨a,fun v hv=>by have:=b v hv;omega⟩
 .rw [zCb.1 hl];refine ⟨by rw [zB8];omega,fun v hv=>?_⟩;rw [(List.mem_replicate.1 hv).2];omega
theorem zAQ {p:zc}(hp:zB p) {s:za}(hP:s.P=p) (H:HOk p s.H) (m:Int) (x:zg):HOk p (zq s m x).1.H:=by
 refine xV (motive:=fun r=>HOk p r.1.H) s m x ?_ ?_ ?_ ?_ ?_ ?_ ?_ ?_ ?_ ?_ ?_ ?_ ?_ ?_ ?_ ?_ ?_ ?_ ?_ ?_
 .intro c;unfold mu0;exact H
 .intro c;unfold mu1;exact H
 .intro c;unfold mu2;exact H
 .intro c;unfold mu3;rw [(zb0 s x.G).2];exact H
 .intro c;unfold zg0;exact H
 .intro c;unfold zdH;exact H
 .intro c;unfold zd7;exact H
 .intro c;unfold zdz;exact H
 .intro c;unfold zfD;exact H.put _ _ _
 .intro c;unfold U0;split
  .split
   .rename_i hr;rw [hP] at hr;exact H.alloc hp hr
   .exact H
  .exact H
 .intro c;unfold zea;exact H
 .intro c;unfold zdD;exact H
 .intro c;unfold zhw;exact H
 .intro c;unfold zdX;exact H
 .intro c;unfold zdG;exact H
 .intro c;unfold zd4;exact H
 .intro c;unfold UY;rw [(zb0 s x.G).2];exact H
 .intro c;unfold zfi;exact H
 .intro c;unfold zhe;exact H
 .exact H
theorem ztw (s:za) (m:Int) (x:zg):(zaj s m x).Batch=x.Batch:=by
 unfold zaj
 repeat' split
 all_goals rfl
theorem zxd {s:za}(h:X8 s) (m:Int) {x:zg}(hx:x.Batch.length<1000000):(zq s m x).2.Batch.length<1000000:=by
 refine xV (motive:=fun r=>r.2.Batch.length<1000000) s m x ?_ ?_ ?_ ?_ ?_ ?_ ?_ ?_ ?_ ?_ ?_ ?_ ?_ ?_ ?_ ?_ ?_ ?_ ?_ ?_
 .intro c;unfold mu0;dsimp only;rw [ztw];exact hx
 .intro c;unfold mu1;dsimp only;split<;>exact hx
 .intro c;unfold mu2;exact hx
 .intro c;unfold mu3;dsimp only;split<;>exact hx
 .intro c;unfold zg0;exact hx
 .intro c;unfold zdH;dsimp only;split<;>exact hx
 .intro c;unfold zd7;dsimp only;split<;>exact hx
 .intro c;unfold zdz;dsimp only;split<;>exact hx
 .intro c;unfold zfD;exact hx
 .intro c;unfold U0;split
  .split<;>exact hx
  .exact hx
 .intro c;unfold zea;dsimp only;split<;>exact hx
 .intro c;unfold zdD;dsimp only;split
  .exact hx
  split<;>exact hx
 .intro c;unfold zhw;exact zm0 h _
 .intro c;unfold zdX;dsimp only;split<;>exact hx
 .intro c;unfold zdG;dsimp only;cases hb:x.Batch with
  | nil=>show ([]:List Int).length<1000000;simp
  | cons o l=>rw [hb] at hx;show l.length<_;simp at hx;omega
 .intro c;unfold zd4;dsimp only;split<;>exact hx
 .intro c;unfold UY;dsimp only;split<;>exact hx
 .intro c;unfold zfi;exact hx
 .intro c;unfold zhe;exact hx
 .exact hx
theorem zt2 {p:zc}(h:zB p) (m:Int):zoX p m<1000000:=by
 unfold zoX;rw [zBp];cases hq:p.Regs[(m-1).toNat]? with
 | none=>simp
 | some r=>have:=(h.reg r (zBq hq)).1;show r.length<_;omega
theorem zwf {p:zc}{nb:Nat}{s:za}(h:zB p) (E:EOk p nb s) (m:Int):EOk p nb (zS s m):=by
 unfold zS;split
 .exact E
 rename_i hc;cases hx:s.Ms[(m-1).toNat]? with
 | none=>exact E
 | some x =>
  have hw1: ¬m<1:=fun e=>hc (.inr (.inl e));have hw2: ¬(s.Ms.length:Int)<m:=fun e=>hc (.inr (.inr e));have ei:(((m-1).toNat:Nat):Int)+1=m:=by omega
  have hX:=E.X _ x hx;rw [ei] at hX;obtain ⟨r1,r2⟩:=zxE h (zpH h m) E.S hX;have T:=zyn s m x;have TH:=zAQ h E.S.P E.H m x;have sm:X8 (zq s m x).1:=E.small.turn h T TH;have hms:(zq s m x).1.Ms=s.Ms:=T.ms;have hb:=h.buf;refine ⟨r1.keep rfl rfl rfl,?_,?_,?_,fun i y hy=>?_,fun i y hy=>?_,TH,?_,?_⟩
  .show ((zq s m x).1.Ws.length:Int)=_;rw [T.ws];exact E.wl
  .show ((s.Ms.set _ _).length:Int)=_;rw [zBF];exact E.ml
  .show (zq s m x).1.Acks.length=(s.Ms.set _ _).length;rw [zBF,T.ac];exact E.al
  .have hy:(zq s m x).1.Ws[i]? =some y:=hy;rw [T.ws] at hy;exact E.W i y hy
  .rcases zuz hy with ⟨rfl,rfl⟩ | hy
   .rw [ei];exact r2
   .exact E.X i y hy
  .show (0<=(zq s m x).1.D.PC/\(zq s m x).1.D.PC<=6)/\((zq s m x).1.D.PC=3->0<=(zq s m x).1.D.I/\(zq s m x).1.D.I<((s.Ms.set _ _).length:Int));rw [T.d,zBF];exact E.D
  .have q:=E.small.mu x (zBq hx);have q1:=r2.regs;have q2:=r2.buf;have q3:=zt2 h m;have:=sm.setM (i:=(m-1).toNat) (x:=(zq s m x).2) ⟨by omega,by omega,zxd E.small m q.2.2⟩;rw [hms] at this;exact this
theorem zzx (t:zA) (o:Int):zla t o=some (yT t o,()):=by
 rw [zsO,zmr,zBk];show (bif zP (t.Marks&&&t.Black) o then _ else _)=_;unfold yT;cases h:zP (t.Marks&&&t.Black) o with
 | true=>rfl
 | false =>
  rw [yg,zmr,zBk];show (bif zP t.Marks o then _ else _)=_;cases h2:zP t.Marks o<;>rfl
theorem zxc (t:zA) (o:Int):zep t o=some (xP t o,decide (yT t o=1),()):=by
 rw [zqK,zzx,zBk,xx];unfold xP;by_cases h:yT t o=1
 .rw [zb h,zb h,zjj,zBk,yD h]
 .rw [zd h,zd h,wb h]
theorem zvS {h:zC}(hl:h.Objs.length<1000000) (o s:Int):za9 h o s=some (xj h o s,()):=by
 rw [zkh];simp only [zG];unfold xj;by_cases h1:1<=o
 .rw [zb h1];by_cases h2:o<=(h.Objs.length:Int)
  .rw [zb h2];by_cases h3:0<=s
   .have e:=zBn (show (o-1).toNat<h.Objs.length by omega);rw [zb h3,yI (a:=o-1) (by omega) (by omega),VH,e,zBk,yD h1,yD h2,yD h3];unfold zV;rw [zBp,e];rfl
   .rw [zd h3,wb h3,Bool.and_false];rfl
  .rw [zd h2,wb h2,Bool.and_false];rfl
 .rw [zd h1,wb h1];rfl
theorem zyy {h:zC}(hl:h.Objs.length<1000000) (o s:Int):zkH h o s=some (zU h o s,xj h o s,()):=by
 rw [zrV,zvS hl,zBk];unfold zU;cases hs:xj h o s with
 | false=>rfl
 | true =>
  have hs':=hs;unfold xj at hs';simp only [zBl,decide_eq_true_eq] at hs';obtain ⟨⟨⟨h1,h2⟩,h3⟩,h4⟩:=hs';have e:=zBn (show (o-1).toNat<h.Objs.length by omega);have es:zV h o=h.Objs[(o-1).toNat]'(by omega):=by unfold zV;rw [zBp,e];rfl
  rw [es] at h4;have e2:=zBn (show s.toNat<(h.Objs[(o-1).toNat]'(by omega)).length by omega);simp only [zB6,yg,if_true];rw [yI (a:=o-1) (by omega) (by omega),VH,e,zBk,VH h3,e2,zBk,es,zBp,e2];rfl
theorem ztp (l:zD) (who:Int):VO l who=some (decide (1<=who)&&decide (who<=(l.Bal.length:Int)),()):=by
 rw [zhB,zG];by_cases h1:1<=who
 .rw [zb h1,yD h1];rfl
 .rw [zd h1,wb h1];rfl
theorem zun {l:zD}(hl:l.Bal.length<1000000) (who:Int):zbB l who=some (Yi l who,()):=by
 rw [znP,Zg,ztp,zBk];unfold Yi;by_cases h:1<=who/\who<=(l.Bal.length:Int)
 .rw [zb h,yD h.1,yD (show who<=((({l with Scanned:=wc (l.Scanned+1)}:zD).Bal.length:Nat):Int) from h.2)];have hn: ¬l.Bal.isEmpty=true:=by
   intro e;have:l.Bal=[]:=by simpa using e
   rw [this] at h;simp at h;omega
  have hn:l.Bal.isEmpty=false:=by simpa using hn
  have e:=zBn (show (who-1).toNat<l.Bal.length by omega);rw [zCu,zB6,yg,VD];simp only [decide_true,zI,zhC (n:=(l.Bal.length:Int)) (by omega) (by omega),zBk,zB8,zCh,hn,yg,Zg];rw [yP (a:=who-1) (by omega) (by omega),WB (l:=l.Bal) (by omega) (by omega),zBk,e,zBk,zl0,zBk,zBk,zBk,Zg,zBp,e];rfl
 .rw [zd h];have e:(decide (1<=who)&&decide (who<=((({l with Scanned:=wc (l.Scanned+1)}:zD).Bal.length:Nat):Int)))=false:=by
   by_cases h1:1<=who
   .rw [yD h1,wb (fun e=>h ⟨h1,e⟩)];rfl
   .rw [wb h1];rfl
  rw [e];rfl
theorem zsp {α:Type}(o:α) (l:List α):cut (o::l) 1 (((o::l).length:Nat):Int)=some l:=by
 unfold cut;rw [yD (show (0:Int)<=1 by decide),yD (show (1:Int)<=(((o::l).length:Nat):Int) by simp;omega),yD (zB2 _)];simp
theorem zx4 {m:List zh}(h:m.length<4294967296):vH m=some (m,()):=by
 rw [Ve,zBy,uM h,zBk];cases m with
 | nil=>simp [zh4]
 | cons a l=>simp
theorem zy2 {n v:Int}(h:1<=v/\v<=n) (hn:n<1000000):w64 (v.tmod n+1)=zaK n v:=by
 unfold zaK;rw [Int.tmod_eq_emod_of_nonneg (by omega)];by_cases hv:v<n
 .rw [zb hv,Int.emod_eq_of_lt (by omega) hv,yI]
 .have:v=n:=by omega
  rw [zd hv,this,Int.emod_self,yI];rfl
theorem ztY {p:zc}(h:zB p) {s:za}(hP:s.P=p) (hl:(s.Ws.length:Int)=p.Workers) {x:zh}(hv:1<=x.Victim/\x.Victim<=p.Workers) (w:Int) :
  Xl ⟨x,s,w⟩=some (⟨vh p w x,s,w⟩,()):=by
 have hw:=h.wk;rw [zhG];simp only [zG,hl];rw [zd (show ¬p.Workers=0 by omega),zy2 hv (by omega)];unfold vh;by_cases e:zaK p.Workers x.Victim=w
 .rw [zb e,zb e,zf9,zBk,zcu];simp only [zcN,zBk,Ul,e,hP];rfl
 .rw [zd e,zd e,zeN];simp only [zen,zBk,V6,hP]
theorem zlG {p:zc}{s:za}(hP:s.P=p) (x:zh) (w:Int):uu ⟨x,s,w⟩=some (⟨Z5 p w x,s,w⟩,()):=by
 rw [zhd,zeN];simp only [zen,zBk,V6,hP];rfl
theorem zqS (s:za) (x:zh) (w:Int):WT ⟨x,s,w⟩=some (onW s x.Slot,()):=by
 rw [zlQ,zG];unfold onW;split<;>rfl
theorem znc {s:za}(hm:s.M.length<4294967296) (x:zh) (w:Int):uR ⟨x,s,w⟩=some ((zo s.M x.C).2.Out,⟨{x with C:=(zo s.M x.C).2},{s with M:=(zo s.M x.C).1},w⟩,()):=by
 rw [zhJ];simp only [zky hm,zBk]
theorem zpq {p:zc}(h:zB p) {s:za}(hP:s.P=p) (hm:s.M.length<4294967296) (hl:(s.Ws.length:Int)=p.Workers) {x:zh}(hv:1<=x.Victim/\x.Victim<=p.Workers) (hc:x.D.Cap<1000) {w:Int}(h01:x.PC=0\/x.PC=1) :
  X7 ⟨x,s,w⟩=some (⟨(zi s w x).2,(zi s w x).1,w⟩,()):=by
 unfold zi;rw [zb h01,ziJ];simp only [zv6 hm hc,zBk,zG];by_cases o1:(zT s.M x.D).2.Out=1
 .rw [zb o1,zb o1,za2];rfl
 .rw [zd o1,zd o1];have hk:=fun (x':zh) (e:x'.Victim=x.Victim)=>ztY h (s:={s with M:=(zT s.M x.D).1}) hP hl (x:=x') (by rw [e];exact hv) w;by_cases o4:(zT s.M x.D).2.Out=4
  .rw [zb o4,zb (.inr o4),hk {x with D:=(zT s.M x.D).2} rfl,zBk,hP]
  .rw [zd o4];by_cases o2:(zT s.M x.D).2.Out=2
   .rw [zb o2,zb (.inl o2),hk {x with D:=(zT s.M x.D).2} rfl,zBk,hP]
   .rw [zd o2,ze]
theorem zvR {p:zc}{nb:Nat}(h:zB p) {s:za}{x:zh}{w:Int}(S:SOk p nb s) (W:WOk p nb w x) (hl:(s.Ws.length:Int)=p.Workers) (sm:X8 s) :
  V8 ⟨x,s,w⟩=some (⟨(zi s w x).2,(zi s w x).1,w⟩,()):=by
 have hP:=S.P;have hm:s.M.length<4294967296:=by have:=S.mem;omega
 have hc:=h.cap;rw [zhW];simp only [zG];by_cases c0:x.PC=0
 .rw [zb c0,zb c0,zpq h hP hm hl W.vic (by have:=(W.d0 c0).2.2;omega) (.inl c0),zBk]
 rw [zd c0];by_cases c1:x.PC=1
 .rw [zb c1,zpq h hP hm hl W.vic (by have:=(W.d1 c1).2.2;omega) (.inr c1),zBk]
 rw [zd c1];unfold zi;rw [zd (show ¬(x.PC=0\/x.PC=1) by omega)];by_cases c2:x.PC=2
 .rw [zb c2,zb c2,znc hm,zBk];simp only [zlG (s:={s with M:=(zo s.M x.C).1}) hP];by_cases o1:(zo s.M x.C).2.Out=1
  .rw [zb o1,zb o1]
  .rw [zd o1,zd o1];by_cases o2:(zo s.M x.C).2.Out=2
   .rw [zb o2,zb o2,zBk,hP]
   .rw [zd o2,zd o2]
 rw [zd c2,zd c2];by_cases c3:x.PC=3
 .have B:=W.b3 c3;have hb:=S.bins;have hnb:=S.nbk;have e:=zBn (show x.Bin.toNat<s.Bins.length by omega);rw [zb c3,zb c3,zhL];dsimp only;rw [VH,e,zBk,zoC (by omega),zBk,WB (l:=s.Bins) (by omega) (by omega),zBk,zer,zBk,zcu];simp only [zcN,zBk,Ul];unfold Xy;rw [zBp,e];rfl
 rw [zd c3,zd c3];by_cases c4:x.PC=4
 .rw [zb c4,zb c4,znc hm,zBk];dsimp only;by_cases o1:(zo s.M x.C).2.Out=1
  .rw [zb o1,zb o1]
  .rw [zd o1,zd o1]
 rw [zd c4,zd c4];by_cases c5:x.PC=5
 .rw [zb c5,zb c5,zhV];simp only [zyy sm.objs,zBk,zG,zqS,zvP,Zg];by_cases v:zU s.H x.Obj x.Slot=0
  .rw [zb v,zb v];rfl
  .rw [zd v,zd v];rfl
 rw [zd c5,zd c5];by_cases c6:x.PC=6
 .obtain ⟨g1,g2,g3,g4⟩:=W.g6 c6;rw [zb c6,zb c6];simp only [zxF (S.gok h g1),zBk,zqS];have eH:(zx s x.G).1.H=s.H:=(zb0 s x.G).2;by_cases o1:(zx s x.G).2.Out=1
  .rw [zb o1,zb o1];unfold onW;rw [eH]
  .rw [zd o1,zd o1]
 rw [zd c6,zd c6];by_cases c7:x.PC=7
 .rw [zb c7,zb c7];cases hb:x.Batch with
  | nil=>rw [zb (by simp),zlG hP,zBk,hP]
  | cons o l =>
   rw [zd (by simp;omega),VH];simp only [Int.toNat_zero,zCv,zBk,za2,hb];rw [zsp];rfl
 rw [zd c7,zd c7];by_cases c8:x.PC=8
 .rw [zb c8,zb c8];simp only [zxc,zBk,zun sm.bal]
 rw [zd c8,zd c8];by_cases c9:x.PC=9
 .rw [zb c9,zb c9,Zg]
 .rw [zd c9,zd c9]
theorem zew {p:zc}{nb:Nat}{s:za}(h:zB p) (E:EOk p nb s) (w:Int):YZ s w=some (zt s w,()):=by
 rw [znv];simp only [zG];unfold zt;cases hd:s.Done with
 | true=>rw [zI,zb (.inl rfl)]
 | false =>
  rw [yg];by_cases h1:w<1
  .rw [zb h1,zb (.inr (.inl h1))]
  rw [zd h1];by_cases h2:(s.Ws.length:Int)<w
  .rw [zb h2,zb (.inr (.inr h2))]
  have hwl:=E.wl;have hwk:=h.wk;have e:=zBn (show (w-1).toNat<s.Ws.length by omega);have ei:(((w-1).toNat:Nat):Int)+1=w:=by omega
  have hW:=E.W _ _ e;rw [ei] at hW;obtain ⟨T,TH⟩:=zrc s w (s.Ws[(w-1).toNat]'(by omega));rw [zd h2,zd (fun e=>e.elim (fun h=>by cases h) (fun e=>e.elim h1 h2)),yI (a:=w-1) (by omega) (by omega),VH,e,zBk,zvR h E.S hW hwl E.small,zBk];simp only [T.ws,zx4 (show s.Ws.length<4294967296 by omega),zBk,WB (l:=s.Ws) (show 0<=w-1 by omega) (show w-1<(s.Ws.length:Int) by omega)]
def Z6 (p:zc) (w:Int) (i:Nat):Int:=zZ p w+2+((i%p.Cap.toNat:Nat):Int)
structure DQ (p:zc) (m:List (BitVec 64)) (w:Int) (t:Nat) (l:List Int) (c:Nat):Prop where
 top:ld m (zZ p w)=zC2 64 t
 bot:ld m (zZ p w+1)=zC2 64 (t+l.length-c)
 c1:c<=1
 t1:1<=t
 cap:l.length<=p.Cap.toNat
 small:t+l.length<4294967296
 cell:∀(i:Nat) (hi:i<l.length),(ld m (Z6 p w (t+i))).toInt=l[i]
theorem DQ.keep {p:zc}(h:zB p) {m m':List (BitVec 64)}{w:Int}{t c:Nat}{l:List Int}(D:DQ p m w t l c) (hm:∀a,zZ p w<=a->a<zZ p w+p.Cap+2->ld m' a=ld m a):DQ p m' w t l c:=by
 have hc:=h.cap;refine ⟨by rw [hm _ (by omega) (by omega)];exact D.top,by rw [hm _ (by omega) (by omega)];exact D.bot,D.c1,D.t1,D.cap,D.small,fun i hi=>?_⟩;have:=Nat.mod_lt (t+i) (show 0<p.Cap.toNat by omega);rw [hm _ (by unfold Z6;omega) (by unfold Z6;omega)];exact D.cell i hi
theorem ZZ {n:Nat}(h:n<18446744073709551616):(zC2 64 n).toNat=n:=by rw [BitVec.toNat_ofNat];omega
theorem zh1 {a b:Nat}(h:b<=a) (h2:a<18446744073709551616):zC2 64 a-zC2 64 b=zC2 64 (a-b):=by
 apply zCA;rw [BitVec.toNat_sub,ZZ h2,ZZ (by omega),ZZ (by omega)];omega
theorem zlx {a b:Nat}(h2:a+b<18446744073709551616):zC2 64 a+zC2 64 b=zC2 64 (a+b):=by
 apply zCA;rw [BitVec.toNat_add,ZZ (by omega),ZZ (by omega),ZZ (by omega)];omega
theorem zwk {a b:Nat}(h:a<18446744073709551616) (h2:b<18446744073709551616) (e:zC2 64 a=zC2 64 b):a=b:=by
 have:=congrArg BitVec.toNat e;rwa [ZZ h,ZZ h2] at this
theorem zlE {a b:Nat}(h:a<4294967296) (h2:b<4294967296):0<(zC2 64 a-zC2 64 b).toInt↔b<a:=by
 rw [zCE,BitVec.toNat_sub,ZZ (by omega),ZZ (by omega)];omega
theorem zzV {t i n c:Nat}(hi:i<n) (hn:n<t+c) (ht:t<=i) (e:i%c=n%c):False:=by
 have h1:=Nat.div_add_mod i c;have h2:=Nat.div_add_mod n c;have hc:0<c:=by omega
 rw [e] at h1;have h3:c*(n/c)=c*(i/c)+(n-i):=by omega
 rcases zBR (i/c) (n/c) with h | h
 .have:c*(i/c)+c<=c*(n/c):=by
   have:=Nat.mul_le_mul_left c h;rw [Nat.succ_eq_add_one,Nat.mul_add,Nat.mul_one] at this;exact this
  omega
 .have:=Nat.mul_le_mul_left c h;omega
theorem zik {p:zc}(h:zB p) {d:zm}{w:Int}(hw:1<=w/\w<=p.Workers) (hb:d.Base=zZ p w) (hc:d.Cap=p.Cap) {i:Nat}(hi:i<4294967296):VL d (zC2 64 i)=Z6 p w i:=by
 rw [(zno h hw.1 hw.2 hb hc _).1,ZZ (by omega),hb];rfl
structure DK (p:zc) (m:List (BitVec 64)) (w:Int) (t:Nat) (l:List Int) (c:Nat) (d:zm):Prop where
 kind:d.Kind=1
 base:d.Base=zZ p w
 size:d.Cap=p.Cap
 out:d.Out=0
 c0:c=0
 pc:0<=d.PC/\d.PC<=3
 b:1<=d.PC->d.B=zC2 64 (t+l.length)
 r:2<=d.PC->l.length<p.Cap.toNat
 x:3<=d.PC->(ld m (Z6 p w (t+l.length))).toInt=d.X
structure PK (p:zc) (m:List (BitVec 64)) (w:Int) (t:Nat) (l:List Int) (c:Nat) (d:zm):Prop where
 kind:d.Kind=2
 base:d.Base=zZ p w
 size:d.Cap=p.Cap
 out:d.Out=0
 pc:0<=d.PC/\d.PC<=6
 c0:d.PC<=1->c=0
 c1:d.PC=2\/4<=d.PC->c=1
 b:d.PC=1\/d.PC=2\/4<=d.PC\/(d.PC=3/\d.T=d.B-1#64)->d.B=zC2 64 (t+l.length)
 c3:d.PC=3->d.T=d.B-1#64->c=1
 n3:d.PC=3->d.T≠d.B-1#64->c=0/\d.B=zC2 64 (t+l.length+1)/\t+l.length+1<4294967296/\l.length+1<=p.Cap.toNat
 t3:d.PC=3\/d.PC=4->d.T.toNat<=t
 t4:d.PC=4->d.T=d.B-1#64
 x4:d.PC=4->d.T.toNat=t->l=[d.X]
 e5:5<=d.PC->l=[]
def Yk (m:List (BitVec 64)) (d:zm):List Int :=
 if d.PC=3/\d.T≠d.B-1#64 then [(ld m (VL d (d.B-1#64))).toInt] else if d.PC=6 then [d.X] else []
structure TK (p:zc) (m:List (BitVec 64)) (w:Int) (t:Nat) (l:List Int) (d:zm):Prop where
 kind:d.Kind=3
 base:d.Base=zZ p w
 size:d.Cap=p.Cap
 out:d.Out=0
 pc:0<=d.PC/\d.PC<=3
 le:1<=d.PC->d.T.toNat<=t
 ne:2<=d.PC->d.T.toNat=t->l≠[]
 hd:d.PC=3->d.T.toNat=t->l.head? =some d.X
structure Dv (t:Nat) (l:List Int) (t':Nat) (l':List Int):Prop where
 le:t<=t'
 hd:t'=t->l≠[]->l'≠[]/\l'.head? =l.head?
theorem Dv.refl (t:Nat) (l:List Int):Dv t l t l:=⟨zBm _,fun _ h=>⟨h,rfl⟩⟩
theorem TK.dv {p:zc}{m m':List (BitVec 64)}{w:Int}{t t':Nat}{l l':List Int}{d:zm}(K:TK p m w t l d) (V:Dv t l t' l'):TK p m' w t' l' d:=by
 have h1:=V.le;refine ⟨K.kind,K.base,K.size,K.out,K.pc,fun h=>zCf (K.le h) h1,fun h e=>?_,fun h e=>?_⟩
 .have:=K.le (by omega);have et:t'=t:=by omega
  exact (V.hd et (K.ne h (by omega))).1
 .have:=K.le (by omega);have et:t'=t:=by omega
  rw [(V.hd et (K.ne (by omega) (by omega))).2];exact K.hd h (by omega)
theorem zkf {p:zc}(h:zB p) {m:List (BitVec 64)}{w:Int}{t c:Nat}{l:List Int}{d:zm}(hw:1<=w/\w<=p.Workers) (hlen:yb p<=m.length) (D:DQ p m w t l c) (K:TK p m w t l d) :
  ((zT m d).1=m/\(((zT m d).2.Out=0/\TK p m w t l (zT m d).2)\/(zT m d).2.Out=2\/(zT m d).2.Out=4)) \/
  (∃x l',l=x::l'/\(zT m d).2.Out=1/\(zT m d).2.X=x/\DQ p (zT m d).1 w (t+1) l' c/\(∀a,a≠zZ p w->ld (zT m d).1 a=ld m a)):=by
 have hc:=h.cap;have hd:=uC h hw.1 hw.2;have hf:=vi h;have hpc:=K.pc;have hsm:=D.small;have ht1:=D.t1;have hc1:=D.c1;have eb:wc (d.Base+1)=zZ p w+1:=by rw [K.base,yP]
 have k:=K.kind;unfold zT;rw [zd (by have:=K.out;omega),ze,ze,zb k];unfold WM;rw [ze,eb];by_cases c0:d.PC=0
 .rw [zb c0];exact .inl ⟨rfl,.inl ⟨K.out,⟨k,K.base,K.size,K.out,⟨by dsimp only;omega,by dsimp only;omega⟩,fun _=>by dsimp only;rw [K.base,D.top,ZZ (by omega)];exact zBm _,fun e=>by dsimp only at e;omega,fun e=>by dsimp only at e;omega⟩⟩⟩
 rw [zd c0];have hT:=K.le (by omega);by_cases c1:d.PC=1
 .rw [zb c1];left;refine ⟨rfl,?_⟩;by_cases hs:0<(ld m (zZ p w+1)-d.T).toInt
  .left;dsimp only;rw [zb hs];refine ⟨K.out,⟨k,K.base,K.size,K.out,⟨by dsimp only;omega,by dsimp only;omega⟩,fun _=>hT,fun _ e=>?_,fun e=>by dsimp only at e;omega⟩⟩;have e:d.T.toNat=t:=e;have eT:d.T=zC2 64 t:=by apply zCA;rw [ZZ (by omega)];exact e
   rw [D.bot,eT] at hs;have:=(zlE (by omega) (by omega)).1 hs;intro el;rw [el] at this;simp at this;omega
  .right;left;dsimp only;rw [zd hs]
 rw [zd c1];by_cases c2:d.PC=2
 .rw [zb c2];left;refine ⟨rfl,.inl ⟨K.out,⟨k,K.base,K.size,K.out,⟨by dsimp only;omega,by dsimp only;omega⟩,fun _=>hT,fun _ e=>K.ne (by omega) e,fun _ e=>?_⟩⟩⟩;have e:d.T.toNat=t:=e;have eT:d.T=zC2 64 t:=by apply zCA;rw [ZZ (by omega)];exact e
  have hn:=K.ne (by omega) e;cases l with
  | nil=>exact zk rfl hn
  | cons x l =>
   have:=D.cell 0 (by simp);dsimp only;rw [eT,zik h hw K.base K.size (by omega)];rw [zCd] at this;rw [this];rfl
 rw [zd c2];have c3:d.PC=3:=by omega
 by_cases hs:ld m d.Base=d.T
 .right;have eT:d.T.toNat=t:=by rw [<-hs,K.base,D.top,ZZ (by omega)]
  have eT':d.T=zC2 64 t:=by rw [<-hs,K.base,D.top]
  have hx:=K.hd c3 eT;have hn:=K.ne (by omega) eT;have hsw:sw m d.Base d.T (d.T+1#64)=(st m d.Base (d.T+1#64),true):=by unfold sw;rw [zb ⟨by rw [K.base];omega,by rw [K.base];omega,hs⟩]
  rw [hsw];cases l with
  | nil=>exact zk rfl hn
  | cons x l =>
   have hx:x=d.X:=by simpa using hx
   have hmod:∀i,zZ p w+2<=Z6 p w i:=fun i=>by unfold Z6;omega
   have hlc:=D.cap;rw [zBv] at hlc hsm;refine ⟨x,l,rfl,rfl,hx.symm,⟨?_,?_,hc1,by omega,by omega,by omega,fun i hi=>?_⟩,fun a ha=>?_⟩
   .dsimp only;rw [K.base,We,zb ⟨rfl,by omega,by omega⟩,eT'];exact zlx (by omega)
   .dsimp only;rw [K.base,yE (by omega),D.bot,zBv];congr 1;omega
   .dsimp only;have:=hmod (t+1+i);rw [K.base,yE (by omega)];have:=D.cell (i+1) (by simp;omega);rw [show t+(i+1)=t+1+i by omega] at this;simpa using this
   .dsimp only;rw [K.base,yE (fun e=>ha e.symm)]
 .left;have hsw:sw m d.Base d.T (d.T+1#64)=(m,false):=by unfold sw;rw [zd (fun e=>hs e.2.2)]
  rw [hsw];exact ⟨rfl,.inr (.inr rfl)⟩
theorem ue {m:List (BitVec 64)}{d:zm}(h:d.PC≠3\/d.T=d.B-1#64) (h2:d.PC≠6):Yk m d=[]:=by
 unfold Yk;rw [zd (fun e=>h.elim (fun f=>f e.1) (fun f=>e.2 f)),zd h2]
theorem zcy {p:zc}(h:zB p) {m:List (BitVec 64)}{w:Int}{t c:Nat}{l:List Int}{d:zm}(hw:1<=w/\w<=p.Workers) (hlen:yb p<=m.length) (D:DQ p m w t l c) (K:PK p m w t l c d) :
  ∃t' l' c',DQ p (zT m d).1 w t' l' c'/\(∀a,a≠zZ p w->a≠zZ p w+1->ld (zT m d).1 a=ld m a)/\Dv t l t' l'/\t'+l'.length<=t+l.length /\
   (((zT m d).2.Out=0/\PK p (zT m d).1 w t' l' c' (zT m d).2/\zC6 (l'++Yk (zT m d).1 (zT m d).2) (l++Yk m d)) \/
    ((zT m d).2.Out=1/\c'=0/\zC6 (l'++[(zT m d).2.X]) (l++Yk m d)) \/
    ((zT m d).2.Out=2/\c'=0/\l'=[]/\l=[]/\Yk m d=[])):=by
 have hc:=h.cap;have hd:=uC h hw.1 hw.2;have hf:=vi h;have hpc:=K.pc;have hsm:=D.small;have ht1:=D.t1;have hc1:=D.c1;have eb:wc (d.Base+1)=zZ p w+1:=by rw [K.base,yP]
 have k:=K.kind;have one:(1#64:BitVec 64)=zC2 64 1:=rfl;have hmod:∀i,zZ p w+2<=Z6 p w i/\Z6 p w i<zZ p w+p.Cap+2:=fun i=>by
  have:=Nat.mod_lt i (show 0<p.Cap.toNat by omega);unfold Z6;omega
 have stb:∀(c':Nat) (v:BitVec 64),c'<=1->v=zC2 64 (t+l.length-c')->DQ p (st m (zZ p w+1) v) w t l c'/\(∀a,a≠zZ p w->a≠zZ p w+1->ld (st m (zZ p w+1) v) a=ld m a):=by
  intro c' v h1 h2;refine ⟨⟨by rw [yE (by omega)];exact D.top,by rw [We,zb ⟨rfl,by omega,by omega⟩];exact h2,h1,ht1,D.cap,hsm,fun i hi=>by rw [yE (by have:=hmod (t+i);omega)];exact D.cell i hi⟩,fun a _ h2=>yE (fun e=>h2 e.symm)⟩
 unfold zT;rw [zd (by have:=K.out;omega),ze,zb k];unfold zbG;rw [ze,eb];by_cases p0:d.PC=0
 .rw [zb p0];have hc0:=K.c0 (by omega);refine ⟨t,l,c,D,fun _ _ _=>rfl,Dv.refl _ _,zBm _,.inl ⟨K.out,⟨k,K.base,K.size,K.out,⟨by dsimp only;omega,by dsimp only;omega⟩,fun _=>hc0,fun e=>by dsimp only at e;omega,fun _=>?_,fun e=>by dsimp only at e;omega,fun e=>by dsimp only at e;omega,fun e=>by dsimp only at e;omega,fun e=>by dsimp only at e;omega,fun e=>by dsimp only at e;omega,fun e=>by dsimp only at e;omega⟩,?_⟩⟩
  .dsimp only;rw [D.bot,hc0];rfl
  .rw [ue (.inl (by dsimp only;omega)) (by dsimp only;omega),ue (.inl (by omega)) (by omega)]
 rw [zd p0];by_cases p1:d.PC=1
 .rw [zb p1];have hB:=K.b (.inl p1);have eB:d.B-1#64=zC2 64 (t+l.length-1):=by rw [hB,one,zh1 (by omega) (by omega)]
  obtain ⟨D',hm⟩:=stb 1 (d.B-1#64) (by omega) eB;refine ⟨t,l,1,D',hm,Dv.refl _ _,zBm _,.inl ⟨K.out,⟨k,K.base,K.size,K.out,⟨by dsimp only;omega,by dsimp only;omega⟩,fun e=>by dsimp only at e;omega,fun _=>rfl,fun _=>hB,fun e=>by dsimp only at e;omega,fun e=>by dsimp only at e;omega,fun e=>by dsimp only at e;omega,fun e=>by dsimp only at e;omega,fun e=>by dsimp only at e;omega,fun e=>by dsimp only at e;omega⟩,?_⟩⟩;rw [ue (.inl (by dsimp only;omega)) (by dsimp only;omega),ue (.inl (by omega)) (by omega)]
 rw [zd p1];by_cases p2:d.PC=2
 .rw [zb p2];have hB:=K.b (.inr (.inl p2));have hc':=K.c1 (.inl p2);have eB:d.B-1#64=zC2 64 (t+l.length-1):=by rw [hB,one,zh1 (by omega) (by omega)]
  have eT:ld m d.Base=zC2 64 t:=by rw [K.base];exact D.top
  rw [ue (d:=d) (.inl (by omega)) (by omega),zBo];by_cases hs:0<(ld m d.Base-(d.B-1#64)).toInt
  .have hs':=hs;rw [eT,eB] at hs';have:=(zlE (by omega) (by omega)).1 hs';have el:l=[]:=by cases l with | nil=>rfl | cons a l=>rw [zBv] at this;omega
   rw [zb hs];refine ⟨t,l,c,D,fun _ _ _=>rfl,Dv.refl _ _,zBm _,.inl ⟨K.out,⟨k,K.base,K.size,K.out,⟨by dsimp only;omega,by dsimp only;omega⟩,fun e=>by dsimp only at e;omega,fun _=>hc',fun _=>hB,fun e=>by dsimp only at e;omega,fun e=>by dsimp only at e;omega,fun e=>by dsimp only at e;omega,fun e=>by dsimp only at e;omega,fun e=>by dsimp only at e;omega,fun _=>el⟩,?_⟩⟩;rw [ue (.inl (by dsimp only;omega)) (by dsimp only;omega),zBo]
  .have hs':=hs;rw [eT,eB] at hs';have hle: ¬(t+l.length-1<t):=fun e=>hs' ((zlE (by omega) (by omega)).2 e);rw [zd hs];by_cases h1:l.length=1
   .have e3:ld m d.Base=d.B-1#64:=by rw [eT,eB];congr 1;omega
    refine ⟨t,l,c,D,fun _ _ _=>rfl,Dv.refl _ _,zBm _,.inl ⟨K.out,⟨k,K.base,K.size,K.out,⟨by dsimp only;omega,by dsimp only;omega⟩,fun e=>by dsimp only at e;omega,fun e=>by dsimp only at e;omega,fun _=>hB,fun _ _=>hc',fun _ e=>zk e3 e,fun _=>by dsimp only;rw [eT,ZZ (by omega)];exact zBm _,fun e=>by dsimp only at e;omega,fun e=>by dsimp only at e;omega,fun e=>by dsimp only at e;omega⟩,?_⟩⟩;rw [ue (.inr e3) (by dsimp only;omega),zBo]
   .-- the last one is the owner's
    have h2:2<=l.length:=by omega
    have e3:ld m d.Base≠d.B-1#64:=by
     rw [eT,eB];intro e;have:=zwk (by omega) (by omega) e;omega
    have hne:l≠[]:=fun e=>by rw [e] at h2;simp at h2
    have hdl:l.dropLast.length=l.length-1:=List.length_dropLast;refine ⟨t,l.dropLast,0,⟨D.top,?_,by omega,ht1,by have:=D.cap;omega,by omega,fun i hi=>?_⟩,fun _ _ _=>rfl,⟨zBm _,fun _ _=>⟨fun e=>?_,?_⟩⟩,by omega,.inl ⟨K.out,⟨k,K.base,K.size,K.out,⟨by dsimp only;omega,by dsimp only;omega⟩,fun e=>by dsimp only at e;omega,fun e=>by dsimp only at e;omega,fun e=>?_,fun _ e=>zk e e3,fun _ _=>⟨rfl,?_,by omega,by have:=D.cap;omega⟩,fun _=>by dsimp only;rw [eT,ZZ (by omega)];exact zBm _,fun e=>by dsimp only at e;omega,fun e=>by dsimp only at e;omega,fun e=>by dsimp only at e;omega⟩,?_⟩⟩
    .rw [D.bot,hc',hdl];congr 1;omega
    .rw [D.cell i (by omega)];exact (List.getElem_dropLast ..).symm
    .have:=congrArg List.length e;rw [hdl] at this;simp at this;omega
    .cases l with
     | nil=>exact zk rfl hne
     | cons a l=>cases l with
      | nil=>simp at h2
      | cons b l=>rfl
    .rcases e with e | e | e | ⟨_,e⟩
     .dsimp only at e;omega
     .dsimp only at e;omega
     .dsimp only at e;omega
     .exact zk e e3
    .dsimp only;rw [hB,hdl];congr 1;omega
    .unfold Yk;rw [zb ⟨rfl,e3⟩];dsimp only;have ep:VL {d with T:=ld m d.Base,PC:=3} (d.B-1#64)=Z6 p w (t+(l.length-1)):=by
      rw [eB];have:=zik h (d:={d with T:=ld m d.Base,PC:=3}) hw K.base K.size (i:=t+l.length-1) (by omega);rw [this];congr 1;omega
     rw [ep,D.cell (l.length-1) (by omega)];have:=List.dropLast_concat_getLast hne;rw [List.getLast_eq_getElem] at this;rw [this]
 rw [zd p2];by_cases p3:d.PC=3
 .rw [zb p3];by_cases e3:d.T=d.B-1#64
  .rw [zb e3];have hB:=K.b (.inr (.inr (.inr ⟨p3,e3⟩)));have hc':=K.c3 p3 e3;have eB:d.B-1#64=zC2 64 (t+l.length-1):=by rw [hB,one,zh1 (by omega) (by omega)]
   refine ⟨t,l,c,D,fun _ _ _=>rfl,Dv.refl _ _,zBm _,.inl ⟨K.out,⟨k,K.base,K.size,K.out,⟨by dsimp only;omega,by dsimp only;omega⟩,fun e=>by dsimp only at e;omega,fun _=>hc',fun _=>hB,fun e=>by dsimp only at e;omega,fun e=>by dsimp only at e;omega,fun _=>K.t3 (.inl p3),fun _=>e3,fun _ e=>?_,fun e=>by dsimp only at e;omega⟩,?_⟩⟩
   .have e:d.T.toNat=t:=e;rw [e3,eB,ZZ (by omega)] at e;have h1:l.length=1:=by omega
    have:=D.cell 0 (by omega);dsimp only;rw [eB,zik h hw K.base K.size (by omega),show t+l.length-1=t+0 by omega,this]
    match l,h1 with
    | [a],_=>rfl
   .rw [ue (.inl (by dsimp only;omega)) (by dsimp only;omega),ue (.inr e3) (by omega)]
  .rw [zd e3];obtain ⟨a1,a2,a3,a4⟩:=K.n3 p3 e3;refine ⟨t,l,c,D,fun _ _ _=>rfl,Dv.refl _ _,zBm _,.inr (.inl ⟨rfl,a1,?_⟩)⟩;unfold Yk;rw [zb ⟨p3,e3⟩]
 rw [zd p3];by_cases p4:d.PC=4
 .rw [zb p4];have hB:=K.b (.inr (.inr (.inl (by omega))));have hc':=K.c1 (.inr (by omega));have e3:=K.t4 p4;have ht:=K.t3 (.inr p4);have eB:d.B-1#64=zC2 64 (t+l.length-1):=by rw [hB,one,zh1 (by omega) (by omega)]
  have eT:d.T.toNat=t+l.length-1:=by rw [e3,eB,ZZ (by omega)]
  rw [ue (d:=d) (.inl (by omega)) (by omega),zBo];by_cases hs:ld m d.Base=d.T
  .have hsw:sw m d.Base d.T (d.T+1#64)=(st m d.Base (d.T+1#64),true):=by unfold sw;rw [zb ⟨by rw [K.base];omega,by rw [K.base];omega,hs⟩]
   have et:d.T.toNat=t:=by rw [<-hs,K.base,D.top,ZZ (by omega)]
   have el:=K.x4 p4 et;rw [hsw];have eT':d.T=zC2 64 t:=by rw [<-hs,K.base,D.top]
   have hl1:l.length=1:=by rw [el];rfl
   refine ⟨t+1,[],1,⟨?_,?_,by omega,by omega,by simp,by simp;omega,fun i hi=>by simp at hi⟩,fun a h1 _=>?_,⟨by omega,fun e=>by omega⟩,by simp;omega,.inl ⟨K.out,⟨k,K.base,K.size,K.out,⟨by dsimp only;simp,by dsimp only;simp⟩,fun e=>by simp at e,fun _=>rfl,fun _=>?_,fun e=>by simp at e,fun e=>by simp at e,fun e=>by simp at e,fun e=>by simp at e,fun e=>by simp at e,fun _=>rfl⟩,?_⟩⟩
   .dsimp only;rw [K.base,We,zb ⟨rfl,by omega,by omega⟩,eT'];exact zlx (by omega)
   .dsimp only;rw [K.base,yE (by omega),D.bot,hc',hl1];rfl
   .dsimp only;rw [K.base,yE (fun e=>h1 e.symm)]
   .dsimp only;rw [hB,hl1];rfl
   .unfold Yk;rw [zd (fun e=>by simp at e),zb (by simp)];rw [el];exact zBY _
  .have hsw:sw m d.Base d.T (d.T+1#64)=(m,false):=by unfold sw;rw [zd (fun e=>hs e.2.2)]
   rw [hsw];have hne:d.T.toNat≠t:=fun e=>hs (by rw [K.base,D.top];apply zCA;rw [ZZ (by omega)];exact e.symm);have el:l=[]:=by cases l with | nil=>rfl | cons a l=>rw [zBv] at eT;omega
   refine ⟨t,l,c,D,fun _ _ _=>rfl,Dv.refl _ _,zBm _,.inl ⟨K.out,⟨k,K.base,K.size,K.out,⟨by dsimp only;simp,by dsimp only;simp⟩,fun e=>by simp at e,fun _=>hc',fun _=>hB,fun e=>by simp at e,fun e=>by simp at e,fun e=>by simp at e,fun e=>by simp at e,fun e=>by simp at e,fun _=>el⟩,?_⟩⟩;rw [ue (.inl (by simp)) (by simp),zBo]
 rw [zd p4];have hB:=K.b (.inr (.inr (.inl (by omega))));have el:=K.e5 (by omega);obtain ⟨D',hm⟩:=stb 0 d.B (by omega) (by rw [hB];rfl);by_cases p5:d.PC=5
 .rw [zb p5];exact ⟨t,l,0,D',hm,Dv.refl _ _,zBm _,.inr (.inr ⟨rfl,rfl,el,el,ue (.inl (by omega)) (by omega)⟩)⟩
 .rw [zd p5];refine ⟨t,l,0,D',hm,Dv.refl _ _,zBm _,.inr (.inl ⟨rfl,rfl,?_⟩)⟩;unfold Yk;rw [zd (fun e=>p3 e.1),zb (show d.PC=6 by omega)]
theorem PK.stolen {p:zc}{m m':List (BitVec 64)}(h:zB p) {w:Int}(hw:1<=w/\w<=p.Workers) {t c:Nat}{x:Int}{l:List Int}{d:zm}(K:PK p m w t (x::l) c d):PK p m' w (t+1) l c d:=by
 have e:t+(x::l).length=t+1+l.length:=by rw [zBv];omega
 refine ⟨K.kind,K.base,K.size,K.out,K.pc,K.c0,K.c1,fun q=>by rw [<-e];exact K.b q,K.c3,fun a b=>?_,fun a=>Nat.le_succ_of_le (K.t3 a),K.t4,fun a b=>?_,fun a=>?_⟩
 .have:=K.n3 a b;rw [e] at this;rw [zBv] at this;exact ⟨this.1,this.2.1,this.2.2.1,by omega⟩
 .have:=K.t3 (.inr a);omega
 .have:=K.e5 a;cases this
theorem DK.stolen {p:zc}{m m':List (BitVec 64)}{w:Int}{t c:Nat}{x:Int}{l:List Int}{d:zm}(K:DK p m w t (x::l) c d) (hm:∀a,a≠zZ p w->ld m' a=ld m a) (h:zB p):DK p m' w (t+1) l c d:=by
 have e:t+(x::l).length=t+1+l.length:=by rw [zBv];omega
 refine ⟨K.kind,K.base,K.size,K.out,K.c0,K.pc,fun q=>by rw [<-e];exact K.b q,fun q=>by have:=K.r q;rw [zBv] at this;omega,fun q=>?_⟩;rw [<-e,hm _ (by unfold Z6;omega)];exact K.x q
theorem PK.keep {p:zc}{m m':List (BitVec 64)}{w:Int}{t c:Nat}{l:List Int}{d:zm}(K:PK p m w t l c d):PK p m' w t l c d :=
 ⟨K.kind,K.base,K.size,K.out,K.pc,K.c0,K.c1,K.b,K.c3,K.n3,K.t3,K.t4,K.x4,K.e5⟩
theorem DK.keep {p:zc}(h:zB p) {m m':List (BitVec 64)}{w:Int}{t c:Nat}{l:List Int}{d:zm}(K:DK p m w t l c d) (hm:∀a,zZ p w+1<a->a<zZ p w+p.Cap+2->ld m' a=ld m a):DK p m' w t l c d:=by
 have hc:=h.cap;have:=Nat.mod_lt (t+l.length) (show 0<p.Cap.toNat by omega);exact ⟨K.kind,K.base,K.size,K.out,K.c0,K.pc,K.b,K.r,fun q=>by rw [hm _ (by unfold Z6;omega) (by unfold Z6;omega)];exact K.x q⟩
theorem zkV {p:zc}(h:zB p) {m:List (BitVec 64)}{w:Int}{t c:Nat}{l:List Int}{d:zm}(hw:1<=w/\w<=p.Workers) (hlen:yb p<=m.length) (D:DQ p m w t l c) (K:DK p m w t l c d) (hs:t+l.length+1<4294967296) (hX: -9223372036854775808<=d.X/\d.X<9223372036854775808) :
  (∀a,(a<zZ p w\/zZ p w+p.Cap+2<=a)->ld (yV m d).1 a=ld m a)/\(yV m d).2.X=d.X /\
  (((yV m d).2.Out=0/\DQ p (yV m d).1 w t l 0/\DK p (yV m d).1 w t l 0 (yV m d).2) \/
   ((yV m d).2.Out=3/\DQ p (yV m d).1 w t l 0) \/
   ((yV m d).2.Out=1/\DQ p (yV m d).1 w t (l++[d.X]) 0)):=by
 have hc:=h.cap;have hd:=uC h hw.1 hw.2;have hf:=vi h;have hmod:∀i,zZ p w+2<=Z6 p w i/\Z6 p w i<zZ p w+p.Cap+2:=fun i=>by
  have:=Nat.mod_lt i (show 0<p.Cap.toNat by omega);unfold Z6;omega
 have hpc:=K.pc;have c00:=K.c0;subst c00;have ht1:=D.t1;have hsm:=D.small;have eb:wc (d.Base+1)=zZ p w+1:=by rw [K.base,yP]
 unfold yV;rw [zd (by have:=K.out;omega),eb];by_cases c0:d.PC=0
 .rw [zb c0];exact ⟨fun _ _=>rfl,rfl,.inl ⟨K.out,D,⟨K.kind,K.base,K.size,K.out,rfl,⟨by dsimp only;omega,by dsimp only;omega⟩,fun _=>D.bot,fun e=>by dsimp only at e;omega,fun e=>by dsimp only at e;omega⟩⟩⟩
 rw [zd c0];by_cases c1:d.PC=1
 .rw [zb c1];refine ⟨fun _ _=>rfl,by dsimp only;split<;>rfl,?_⟩;have hB:=K.b (by omega);have es:(Vv d).toNat=p.Cap.toNat:=by
   unfold Vv;rw [K.size,ze,zB9];omega
  have ed:(d.B-ld m d.Base).toNat=l.length:=by
   rw [hB,K.base,D.top,BitVec.toNat_sub,ZZ (by omega),ZZ (by omega)];omega
  split
  .right;left;exact ⟨rfl,D⟩
  .rename_i hlt;left;have hr:l.length<p.Cap.toNat:=by
    have: ¬(Vv d).toNat<=(d.B-ld m d.Base).toNat:=fun e=>hlt (BitVec.le_def.2 e);omega
   exact ⟨K.out,D,⟨K.kind,K.base,K.size,K.out,rfl,⟨by dsimp only;omega,by dsimp only;omega⟩,fun _=>hB,fun _=>hr,fun e=>by dsimp only at e;omega⟩⟩
 rw [zd c1];have hB:=K.b (by omega);have hr:=K.r (by omega);by_cases c2:d.PC=2
 .rw [zb c2];have ep:VL d d.B=Z6 p w (t+l.length):=by rw [hB];exact zik h hw K.base K.size (by omega)
  rw [ep];have hm:=hmod (t+l.length);refine ⟨fun a ha=>yE (by omega),rfl,.inl ⟨K.out,⟨?_,?_,D.c1,ht1,D.cap,D.small,fun i hi=>?_⟩,⟨K.kind,K.base,K.size,K.out,rfl,⟨by dsimp only;omega,by dsimp only;omega⟩,fun _=>hB,fun _=>hr,fun _=>?_⟩⟩⟩
  .dsimp only;rw [yE (by omega)];exact D.top
  .dsimp only;rw [yE (by omega)];exact D.bot
  .dsimp only;rw [yE (fun e=>zzV (t:=t) (i:=t+i) (n:=t+l.length) (c:=p.Cap.toNat) (by omega) (by omega) (by omega) (by unfold Z6 at e;omega))];exact D.cell i hi
  .dsimp only;rw [We,zb ⟨rfl,by omega,by omega⟩,BitVec.toInt_ofInt,Int.bmod_def];omega
 .rw [zd c2];have hx:=K.x (by omega);refine ⟨fun a ha=>yE (by omega),rfl,.inr (.inr ⟨rfl,⟨?_,?_,by omega,ht1,?_,?_,fun i hi=>?_⟩⟩)⟩
  .dsimp only;rw [yE (by omega)];exact D.top
  .dsimp only;rw [We,zb ⟨rfl,by omega,by omega⟩,hB,zBz];exact zlx (by omega)
  .rw [zBz];show l.length+1<=_;omega
  .rw [zBz];show t+(l.length+1)<_;omega
  .dsimp only;have hi':i<l.length+1:=by rw [zBz] at hi;exact hi
   have hm:=hmod (t+i);rw [yE (by omega)];rcases zBR i l.length with g | g
   .rw [List.getElem_append_left g];exact D.cell i g
   .have:i=l.length:=by omega
    subst this;rw [List.getElem_append_right (by omega)];simp only [Nat.sub_self,List.getElem_cons_zero];exact hx
def xI (h:BitVec 64):Nat:=h.toNat/4294967296
theorem zoB (v:BitVec 64) {n:Int}(h:0<=n) (h2:n<4294967296):(xz v n).toNat=(v.toNat%4294967296)*4294967296+n.toNat:=by
 unfold xz;have e3:(zC4 64 n).toNat&&&(4294967295#64).toNat=n.toNat:=by
  have:(zC4 64 n).toNat=n.toNat:=by rw [zB9];omega
  rw [this];exact (zC1 n.toNat 32).trans (Nat.mod_eq_of_lt (by omega))
 rw [BitVec.toNat_or,zCi,e3,BitVec.toNat_shiftLeft];have h2':v.toNat <<< 32%2 ^ 64=(v.toNat%4294967296) <<< 32:=by rw [Nat.shiftLeft_eq,Nat.shiftLeft_eq];omega
 rw [h2',<-Nat.shiftLeft_add_eq_or_of_lt (show n.toNat<2 ^ 32 by omega),Nat.shiftLeft_eq]
theorem zsF (h:BitVec 64) {n:Int}(h1:0<=n) (h2:n<4294967296) (hv:xI h+1<4294967296):xI (xz ((h >>> 32)+1#64) n)=xI h+1:=by
 have e:((h >>> 32)+1#64).toNat=xI h+1:=by
  rw [BitVec.toNat_add,BitVec.toNat_ushiftRight,Nat.shiftRight_eq_div_pow];show (h.toNat/4294967296+1)%2 ^ 64=_;unfold xI at hv ⊢;omega
 unfold xI;rw [zoB _ h1 h2,e];unfold xI at hv ⊢;omega
def Chn (m:List (BitVec 64)) (N:Int) (nb:Nat):Int->List Int->Prop
 | h,[]=>h=0
 | h,x::l=>h=x/\1<=x/\x<nb/\Chn m N nb (ld m (N+x)).toInt l
theorem Chn.mem {m:List (BitVec 64)}{N:Int}{nb:Nat}:∀ {l:List Int}{h:Int},Chn m N nb h l->∀x∈l,1<=x/\x<nb
 | y::l,h,c,x,hx=>by
  rcases zBG.1 hx with rfl | hx
  .exact ⟨c.2.1,c.2.2.1⟩
  .exact Chn.mem c.2.2.2 x hx
theorem Chn.st {m:List (BitVec 64)}{N:Int}{nb:Nat}{a:Int}{v:BitVec 64}:∀ {l:List Int}{h:Int},Chn m N nb h l->(∀x∈l,a≠N+x)->Chn (st m a v) N nb h l
 | [],h,c,_=>c
 | y::l,h,c,hn=>⟨c.1,c.2.1,c.2.2.1,by
  rw [yE (hn y (by simp))];exact Chn.st c.2.2.2 (fun x hx=>hn x (zBr _ hx))⟩
theorem Chn.head {m:List (BitVec 64)}{N:Int}{nb:Nat}{l:List Int}{h:Int}(c:Chn m N nb h l) (hh:h≠0):∃t,l=h::t/\1<=h/\h<nb/\Chn m N nb (ld m (N+h)).toInt t:=by
 cases l with
 | nil=>exact zk c hh
 | cons x t =>
  obtain ⟨rfl,h1,h2,h3⟩:=c;exact ⟨t,rfl,h1,h2,h3⟩
theorem Chn.empty {m:List (BitVec 64)}{N:Int}{nb:Nat}{l:List Int}(c:Chn m N nb 0 l):l=[]:=by
 cases l with
 | nil=>rfl
 | cons x t=>have:=c.1;have:=c.2.1;omega
def zks (nb:Nat):List Int:=(zC5 (nb-1)).map (fun (i:Nat)=>(i:Int)+1)
theorem zm4 (nb:Nat):(zks nb).Nodup:=by
 unfold zks;rw [List.Nodup,List.pairwise_map];exact List.nodup_range.imp (fun h e=>h (by omega))
theorem zrd {nb:Nat}{x:Int}:x∈zks nb↔1<=x/\x<nb:=by
 unfold zks;rw [zBB];constructor
 .rintro ⟨i,hi,rfl⟩;have:=zBW.1 hi;omega
 .rintro ⟨h1,h2⟩;exact ⟨(x-1).toNat,zBW.2 (by omega),by omega⟩
structure LI (p:zc) (nb:Nat) (m:List (BitVec 64)) (h1 h2:Int) (F E own:List Int):Prop where
 hs:(h1=yb p/\h2=zO p)\/(h1=zO p/\h2=yb p)
 cF:Chn m (zO p) nb (yH (ld m h1)) F
 cE:Chn m (zO p) nb (yH (ld m h2)) E
 all:zC6 (F++E++own) (zks nb)
 len:zO p+nb<=m.length
theorem LI.nodup {p:zc}{nb:Nat}{m:List (BitVec 64)}{h1 h2:Int}{F E own:List Int}(h:LI p nb m h1 h2 F E own):(F++E++own).Nodup:=h.all.nodup_iff.2 (zm4 nb)
theorem LI.notF {p:zc}{nb:Nat}{m:List (BitVec 64)}{h1 h2:Int}{F E own:List Int}(h:LI p nb m h1 h2 F E own) {x:Int}(hx:x∈own):x∉F/\x∉E:=by
 have:=zCe.1 h.nodup;exact ⟨fun e=>this.2.2 x (zBH _ e) x hx rfl,fun e=>this.2.2 x (zBJ _ e) x hx rfl⟩
theorem LI.own_in {p:zc}{nb:Nat}{m:List (BitVec 64)}{h1 h2:Int}{F E own:List Int}(h:LI p nb m h1 h2 F E own) {x:Int}(hx:x∈own):1<=x/\x<nb:=zrd.1 (h.all.subset (zBJ _ hx))
structure CK (p:zc) (m:List (BitVec 64)) (c:zJ):Prop where
 v:1<=c.PC->xI c.H<=xI (ld m c.Head)
 y:c.PC=2->c.Kind=2->ld m c.Head=c.H->c.Y=(ld m (zO p+yH c.H)).toInt
 l:c.PC=2->c.Kind=1->ld m (zO p+c.X)=zC4 64 (yH c.H)
structure Mv (p:zc) (nb:Nat) (X:List Int) (m m':List (BitVec 64)):Prop where
 hd:∀h,h=yb p\/h=zO p->xI (ld m h)<=xI (ld m' h)/\(ld m' h=ld m h\/xI (ld m h)<xI (ld m' h))
 nx:∀x:Int,1<=x->x<nb->x∉X->ld m' (zO p+x)=ld m (zO p+x)
theorem Mv.refl (p:zc) (nb:Nat) (X:List Int) (m:List (BitVec 64)):Mv p nb X m m:=⟨fun h _=>⟨zBm _,.inl rfl⟩,fun _ _ _ _=>rfl⟩
theorem CK.mv {p:zc}{nb:Nat}{m m':List (BitVec 64)}{h1 h2:Int}{F E own X:List Int}{c:zJ}(k:CK p m c) (L:LI p nb m h1 h2 F E own) (M:Mv p nb X m m') (hX:∀x∈X,x∈own)
  (hh:c.Head=h1\/c.Head=h2) (hn:1<=c.PC->c.Kind=2->1<=yH c.H/\yH c.H<nb) (hx:c.Kind=1->1<=c.X/\c.X<nb/\c.X∉X):CK p m' c:=by
 obtain ⟨m1,m2⟩:=M.hd c.Head (by rcases L.hs with g | g<;>rcases hh with hh | hh<;>rw [hh]<;>simp [g]);refine ⟨fun h=>zCf (k.v h) m1,fun h2 hk e=>?_,fun h2 hk=>?_⟩
 .have hv:=k.v (by omega);have e':ld m c.Head=c.H:=by
   rcases m2 with m2 | m2
   .rw [<-m2];exact e
   .rw [e] at m2;omega
  obtain ⟨n1,n2⟩:=hn (by omega) hk;rw [M.nx _ n1 n2 (fun hmem=>?_)]
  .exact k.y h2 hk e'
  .obtain ⟨f1,f2⟩:=L.notF (hX _ hmem);rcases hh with hh | hh
   .obtain ⟨t,ht,_⟩:=L.cF.head (by rw [<-hh,e'];omega);rw [<-hh,e'] at ht;exact f1 (by rw [ht];simp)
   .obtain ⟨t,ht,_⟩:=L.cE.head (by rw [<-hh,e'];omega);rw [<-hh,e'] at ht;exact f2 (by rw [ht];simp)
 .obtain ⟨x1,x2,x3⟩:=hx hk;rw [M.nx _ x1 x2 x3];exact k.l h2 hk
theorem LI.swap {p:zc}{nb:Nat}{m:List (BitVec 64)}{h1 h2:Int}{F E own:List Int}(h:LI p nb m h1 h2 F E own):LI p nb m h2 h1 E F own :=
 ⟨h.hs.elim (fun g=>.inr ⟨g.2,g.1⟩) (fun g=>.inl ⟨g.2,g.1⟩),h.cE,h.cF,(zB5.append_right own).trans h.all,h.len⟩
theorem zlO {p:zc}(hp:zB p) {m:List (BitVec 64)}{a x:Int}{v:BitVec 64}(ha:a=yb p\/a=zO p) (hx:1<=x):ld (st m a v) (zO p+x)=ld m (zO p+x):=by
 have:=xB hp;exact yE (by omega)
theorem Chn.st_head {p:zc}(hp:zB p) {m:List (BitVec 64)}{nb:Nat}{a h:Int}{l:List Int}{v:BitVec 64}(ha:a=yb p\/a=zO p) (c:Chn m (zO p) nb h l):Chn (Go.Pe.G.st m a v) (zO p) nb h l:=by
 have:=xB hp;exact c.st (fun x hx=>by have:=(c.mem x hx).1;omega)
theorem Mv.head {p:zc}(hp:zB p) {nb:Nat}{X:List Int}{m:List (BitVec 64)}{a:Int}{v:BitVec 64}(ha:a=yb p\/a=zO p) (hv:xI (ld m a)<xI v):Mv p nb X m (st m a v):=by
 refine ⟨fun h hh=>?_,fun x hx _ _=>zlO hp ha hx⟩;by_cases e:a=h
 .subst e;rw [We];split
  .exact ⟨by omega,.inr hv⟩
  .exact ⟨zBm _,.inl rfl⟩
 .rw [yE e];exact ⟨zBm _,.inl rfl⟩
theorem zto {p:zc}(hp:zB p) {nb:Nat}(hnb:nb<1000) {m:List (BitVec 64)}{h1 h2:Int}{F E own:List Int}(L:LI p nb m h1 h2 F E own) {c:zJ}
  (hk:c.Kind=2) (hh:c.Head=h1) (hN:c.Next=zO p) (ho:c.Out=0) (hpc:0<=c.PC/\c.PC<=2) (K:CK p m c) (hn:1<=c.PC->1<=yH c.H/\yH c.H<nb) (hv:xI (ld m h1)+1<4294967296) :
  ((zo m c).1=m/\(zo m c).2.Out≠1/\((zo m c).2.Out=2->F=[])/\CK p m (zo m c).2) \/
  (∃x F',F=x::F'/\(zo m c).2.Out=1/\(zo m c).2.X=x/\LI p nb (zo m c).1 h1 h2 F' E (x::own)/\Mv p nb [] m (zo m c).1/\xI (ld (zo m c).1 h1)=xI (ld m h1)+1/\ld (zo m c).1 h2=ld m h2):=by
 have hE:=xB hp;have hF:=vi hp;have hd:h1=yb p\/h1=zO p:=by rcases L.hs with g | g<;>simp [g]
 unfold zo;rw [ze];by_cases c0:c.PC=0
 .rw [zb c0];left;split
  .rename_i e;refine ⟨rfl,(by show (2:Int)≠1;decide),fun _=>?_,⟨fun _=>by rw [hh];exact zBm _,fun e2=>(by cases e2),fun e2=>(by cases e2)⟩⟩;have:=L.cF;rw [hh] at e;rw [e.2] at this;exact this.empty
  .refine ⟨rfl,by dsimp only;omega,fun e=>by dsimp only at e;omega,⟨fun _=>by rw [hh];exact zBm _,fun e2=>(by cases e2),fun e2=>(by cases e2)⟩⟩
 .rw [zd c0];by_cases c1:c.PC=1
  .rw [zb c1,zb hk];left;refine ⟨rfl,by dsimp only;omega,fun e=>by dsimp only at e;omega,⟨fun _=>K.v (by omega),fun _ _ _=>?_,fun _ e=>by dsimp only at e;omega⟩⟩;have:=hn (by omega);dsimp only;rw [hN,yP]
  .rw [zd c1];have c2:c.PC=2:=by omega
   simp only [zb hk];by_cases hs:0<=c.Head/\c.Head<m.length/\ld m c.Head=c.H
   .right;have n:=hn (by omega);have hsw:sw m c.Head c.H (xz (c.H >>> 32+1#64) c.Y)=(st m c.Head (xz (c.H >>> 32+1#64) c.Y),true):=by unfold sw;rw [zb hs]
    rw [hsw];have hc:=L.cF;rw [<-hh,hs.2.2] at hc;obtain ⟨t,ht,_,_,hct⟩:=hc.head (by omega);have hy:=K.y c2 hk hs.2.2;have hct':=hct;rw [<-hy] at hct';have y0:0<=c.Y/\c.Y<nb:=by
     cases t with
     | nil=>have e:c.Y=0:=hct';omega
     | cons z t=>have:=hct'.1;have:=hct'.2.1;have:=hct'.2.2.1;omega
    have vp:xI (xz (c.H >>> 32+1#64) c.Y)=xI c.H+1:=zsF c.H y0.1 (by omega) (by rw [<-hs.2.2,hh];exact hv);have hcH:xI c.H=xI (ld m h1):=by rw [<-hs.2.2,hh]
    have ld1:ld (st m h1 (xz (c.H >>> 32+1#64) c.Y)) h1=xz (c.H >>> 32+1#64) c.Y:=by rw [We,zb ⟨rfl,by rw [<-hh];exact hs.1,by rw [<-hh];exact hs.2.1⟩]
    have h12:h1≠h2:=by rcases L.hs with g | g<;>omega
    refine ⟨yH c.H,t,ht,rfl,rfl,?_,?_,?_,?_⟩
    .rw [hh];refine ⟨L.hs,?_,?_,?_,by rw [ZU];exact L.len⟩
     .rw [ld1,zcd _ y0.1 (by omega)];exact hct'.st_head hp hd
     .rw [yE h12];exact L.cE.st_head hp hd
     .refine List.Perm.trans ?_ L.all;rw [ht];show zC6 (t++E++yH c.H::own) (yH c.H::(t++E++own));exact List.perm_middle
    .rw [hh];exact Mv.head hp hd (by rw [vp,hcH];omega)
    .rw [hh,ld1,vp,hcH]
    .rw [hh,yE h12]
   .left;have hsw:sw m c.Head c.H (xz (c.H >>> 32+1#64) c.Y)=(m,false):=by unfold sw;rw [zd hs]
    rw [hsw];refine ⟨rfl,by dsimp only;simp;omega,fun e=>by simp at e;omega,⟨fun e=>by simp at e,fun e=>by simp at e,fun e=>by simp at e⟩⟩
theorem zub {n:Int}(h:0<=n) (h2:n<4294967296):(zC4 64 n).toInt=n:=toInt_ofInt h h2
theorem zju {N a b:Int}(h:N+a=N+b):b=a:=by omega
theorem zrk {p:zc}(hp:zB p) {nb:Nat}(hnb:nb<1000) {m:List (BitVec 64)}{h1 h2 b:Int}{F E o1 o2:List Int}(L:LI p nb m h1 h2 F E (o1++b::o2)) {c:zJ}
  (hk:c.Kind=1) (hh:c.Head=h1) (hN:c.Next=zO p) (hX:c.X=b) (ho:c.Out=0) (hpc:0<=c.PC/\c.PC<=2) (K:CK p m c) (hn:1<=c.PC->yH c.H<nb) (hv:xI (ld m h1)+1<4294967296) :
  ((zo m c).2.Out=0/\LI p nb (zo m c).1 h1 h2 F E (o1++b::o2)/\Mv p nb [b] m (zo m c).1/\CK p (zo m c).1 (zo m c).2/\(∀a,a<=zO p->ld (zo m c).1 a=ld m a)) \/
  ((zo m c).2.Out=1/\LI p nb (zo m c).1 h1 h2 (b::F) E (o1++o2)/\Mv p nb [] m (zo m c).1/\xI (ld (zo m c).1 h1)=xI (ld m h1)+1/\(∀a,a<=zO p->a≠h1->ld (zo m c).1 a=ld m a)):=by
 have hE:=xB hp;have hF:=vi hp;have hd:h1=yb p\/h1=zO p:=by rcases L.hs with g | g<;>simp [g]
 have hd2:h2=yb p\/h2=zO p:=by rcases L.hs with g | g<;>simp [g]
 have hb:1<=b/\b<nb:=L.own_in (zBJ _ (by simp));have hbn:=L.notF (x:=b) (zBJ _ (by simp));have hlen:=L.len;have hk2: ¬c.Kind=2:=by omega
 unfold zo;rw [ze];by_cases c0:c.PC=0
 .rw [zb c0,zd (fun e=>hk2 e.1)];left;exact ⟨ho,L,Mv.refl _ _ _ _,⟨fun _=>by rw [hh];exact zBm _,fun e2=>(by cases e2),fun e2=>(by cases e2)⟩,fun _ _=>rfl⟩
 .rw [zd c0];by_cases c1:c.PC=1
  .rw [zb c1,zd hk2];left;have nn:=zh9 c.H;have ea:wc (c.Next+c.X)=zO p+b:=by rw [hN,hX,yP]
   rw [ea];have hne:∀h,h=yb p\/h=zO p->ld (st m (zO p+b) (zC4 64 (yH c.H))) h=ld m h:=fun h hh=>yE (by omega);refine ⟨ho,⟨L.hs,?_,?_,L.all,by dsimp only;rw [ZU];exact hlen⟩,⟨fun h hh=>?_,fun x x1 x2 x3=>?_⟩,⟨fun _=>?_,fun _ e=>zk e hk2,fun _ _=>?_⟩,fun a ha=>?_⟩
   .dsimp only;rw [hne _ hd];exact L.cF.st (fun x hx e=>hbn.1 (zju e▸hx))
   .dsimp only;rw [hne _ hd2];exact L.cE.st (fun x hx e=>hbn.2 (zju e▸hx))
   .dsimp only;rw [hne _ hh];exact ⟨zBm _,.inl rfl⟩
   .dsimp only;exact yE (fun e=>x3 (zCb.2 (zju e)))
   .dsimp only;rw [hh,hne _ hd,<-hh];exact K.v (by omega)
   .dsimp only;rw [hX,We,zb ⟨rfl,by omega,by omega⟩]
   .dsimp only;exact yE (by omega)
  .rw [zd c1];have c2:c.PC=2:=by omega
   simp only [zd hk2];by_cases hs:0<=c.Head/\c.Head<m.length/\ld m c.Head=c.H
   .right;have n:=hn (by omega);have nn:=zh9 c.H;have hsw:sw m c.Head c.H (xz (c.H >>> 32+1#64) c.X)=(st m c.Head (xz (c.H >>> 32+1#64) c.X),true):=by unfold sw;rw [zb hs]
    rw [hsw];have hl:=K.l c2 hk;rw [hX] at hl;have vp:xI (xz (c.H >>> 32+1#64) c.X)=xI c.H+1:=zsF c.H (by omega) (by omega) (by rw [<-hs.2.2,hh];exact hv);have hcH:xI c.H=xI (ld m h1):=by rw [<-hs.2.2,hh]
    have ld1:ld (st m h1 (xz (c.H >>> 32+1#64) c.X)) h1=xz (c.H >>> 32+1#64) c.X:=by rw [We,zb ⟨rfl,by rw [<-hh];exact hs.1,by rw [<-hh];exact hs.2.1⟩]
    have h12:h1≠h2:=by rcases L.hs with g | g<;>omega
    refine ⟨rfl,?_,?_,?_,fun a ha hne=>?_⟩
    .rw [hh];refine ⟨L.hs,?_,?_,?_,by dsimp only;rw [ZU];exact hlen⟩
     .dsimp only;rw [ld1,zcd _ (by omega) (by omega),hX];refine ⟨rfl,hb.1,hb.2,?_⟩;rw [zlO hp hd hb.1,hl,zub nn.1 nn.2];have:=L.cF;rw [<-hh,hs.2.2] at this;rw [<-hX,<-hh] at *;exact this.st_head hp hd
     .dsimp only;rw [yE h12];exact L.cE.st_head hp hd
     .refine List.Perm.trans ?_ L.all;show zC6 (b::(F++E++(o1++o2))) (F++E++(o1++b::o2));rw [<-zBu (F++E) o1 o2,<-zBu (F++E) o1 (b::o2)];exact List.perm_middle.symm
    .rw [hh];exact Mv.head hp hd (by rw [vp,hcH];omega)
    .rw [hh];dsimp only;rw [ld1,vp,hcH]
    .rw [hh];exact yE (fun e=>hne e.symm)
   .left;have hsw:sw m c.Head c.H (xz (c.H >>> 32+1#64) c.X)=(m,false):=by unfold sw;rw [zd hs]
    rw [hsw];exact ⟨ho,L,Mv.refl _ _ _ _,⟨fun e=>(by simp at e),fun e=>(by simp at e),fun e=>(by simp at e)⟩,fun _ _=>rfl⟩
structure Gh where
 F:List Int
 E:List Int
 D:Int->List Int
 t:Int->Nat
 c:Int->Nat
def xt (s:za) (b:Int):List Int:=(s.Bins[b.toNat]?).getD []
def yK (p:zc) (s:za) (g:Gh):List Int:=g.F.flatMap (xt s)++(zC5 p.Workers.toNat).flatMap (fun i:Nat=>g.D ((i:Int)+1))
structure SX (p:zc) (nb:Nat) (s:za) (g:Gh) (own:List Int) (k:Nat):Prop where
 S:SOk p nb s
 L:LI p nb s.M (yb p) (zO p) g.F g.E own
 D:∀w,1<=w->w<=p.Workers->DQ p s.M w (g.t w) (g.D w) (g.c w)
 v:xI (ld s.M (yb p))<=k/\xI (ld s.M (zO p))<=k
 dk:∀w,1<=w->w<=p.Workers->g.t w+(g.D w).length<=k+1000
inductive DFr (p:zc) (m m':List (BitVec 64)) (g g':Gh) (w:Int):Prop
 | same (e1:g'.t w=g.t w) (e2:g'.D w=g.D w) (e3:g'.c w=g.c w) (e4:∀a,zZ p w<=a->a<zZ p w+p.Cap+2->ld m' a=ld m a):DFr p m m' g g' w
 | stolen (x:Int) (e1:g'.t w=g.t w+1) (e2:g.D w=x::g'.D w) (e3:g'.c w=g.c w) (e4:∀a,zZ p w<a->a<zZ p w+p.Cap+2->ld m' a=ld m a):DFr p m m' g g' w
structure FX (p:zc) (nb:Nat) (X:List Int) (O:Int->Prop) (s s':za) (g g':Gh):Prop where
 mv:Mv p nb X s.M s'.M
 bn:∀b,1<=b->b∉X->s'.Bins[b.toNat]? =s.Bins[b.toNat]?
 dq:∀w,1<=w->w<=p.Workers->DFr p s.M s'.M g g' w\/(O w/\Dv (g.t w) (g.D w) (g'.t w) (g'.D w))
 fb:∀y∈g'.F,y∈g.F\/xt s' y≠[]
theorem DFr.dv {p:zc}{m m':List (BitVec 64)}{g g':Gh}{w:Int}(h:DFr p m m' g g' w):Dv (g.t w) (g.D w) (g'.t w) (g'.D w):=by
 cases h with
 | same t l c m=>rw [t,l];exact Dv.refl _ _
 | stolen x t l c m=>exact ⟨by omega,fun e=>by omega⟩
theorem FX.dv {p:zc}{nb:Nat}{X:List Int}{O:Int->Prop}{s s':za}{g g':Gh}(h:FX p nb X O s s' g g') {w:Int}(h1:1<=w) (h2:w<=p.Workers):Dv (g.t w) (g.D w) (g'.t w) (g'.D w):=by
 rcases h.dq w h1 h2 with h | h
 .exact h.dv
 .exact h.2
theorem FX.tk {p:zc}{nb:Nat}{X:List Int}{O:Int->Prop}{s s':za}{g g':Gh}(h:FX p nb X O s s' g g') {w:Int}(h1:1<=w) (h2:w<=p.Workers) {d:zm}(K:TK p s.M w (g.t w) (g.D w) d):TK p s'.M w (g'.t w) (g'.D w) d:=K.dv (h.dv h1 h2)
theorem FX.pk {p:zc}(hp:zB p) {nb:Nat}{X:List Int}{O:Int->Prop}{s s':za}{g g':Gh}(h:FX p nb X O s s' g g') {w:Int}(h1:1<=w) (h2:w<=p.Workers) (ho: ¬O w) {d:zm}(K:PK p s.M w (g.t w) (g.D w) (g.c w) d):PK p s'.M w (g'.t w) (g'.D w) (g'.c w) d:=by
 rcases h.dq w h1 h2 with h | h
 .cases h with
  | same t l c m=>rw [t,l,c];exact K.keep
  | stolen x t l c m=>rw [l] at K;rw [t,c];exact K.stolen hp ⟨h1,h2⟩
 .exact zk h.1 ho
theorem FX.dk {p:zc}(hp:zB p) {nb:Nat}{X:List Int}{O:Int->Prop}{s s':za}{g g':Gh}(h:FX p nb X O s s' g g') {w:Int}(h1:1<=w) (h2:w<=p.Workers) (ho: ¬O w) {d:zm}(K:DK p s.M w (g.t w) (g.D w) (g.c w) d):DK p s'.M w (g'.t w) (g'.D w) (g'.c w) d:=by
 have hc:=hp.cap;rcases h.dq w h1 h2 with h | h
 .cases h with
  | same t l c m=>rw [t,l,c];exact K.keep hp (fun a h1 h2=>m a (by omega) h2)
  | stolen x t l c m =>
   rw [l] at K;have K':DK p s'.M w (g.t w) (x::g'.D w) (g.c w) d:=K.keep hp (fun a h1 h2=>m a (by omega) h2);rw [t,c];exact K'.stolen (m':=s'.M) (fun _ _=>rfl) hp
 .exact zk h.1 ho
def wi (g:zH):List Int:=if g.Out=0/\(g.PC=6\/g.PC=7) then [g.Bin] else []
def xn (g:zH):List Int:=if g.Out=0/\3<=g.PC/\g.PC<=7 then [g.Obj] else []
structure GX (p:zc) (s:za) (gh:Gh) (g:zH):Prop where
 o:g.Out=0\/g.Out=1
 pc:0<=g.PC/\g.PC<=7
 md:1<=g.Mode/\g.Mode<=3
 ob:1<=g.Obj/\g.Obj<=64
 c0:g.Mode=1->g.Out=0->gh.c g.Who=0
 c5:g.PC=5->g.Out=0->g.C.Out=0/\(0<=g.C.PC/\g.C.PC<=2)/\CK p s.M g.C
 c7:g.PC=7->g.Out=0->g.C.Out=0/\(0<=g.C.PC/\g.C.PC<=2)/\g.C.X=g.Bin/\CK p s.M g.C/\s.Bins[g.Bin.toNat]? =some [g.Obj]
 d3:g.PC=3->g.Out=0->g.Mode=1/\g.D.X=g.Obj/\DK p s.M g.Who (gh.t g.Who) (gh.D g.Who) (gh.c g.Who) g.D
theorem GX.other {p:zc}(hp:zB p) {nb k:Nat}{s s':za}{gh gh':Gh}{X R:List Int}{O:Int->Prop}{o:zH}(Y:SX p nb s gh (X++R) k) (Fx:FX p nb X O s s' gh gh') (G:GX p s gh o) (M:MOk p nb o)
  (hR:∀x∈wi o,x∈R) (apart:o.Mode=1->¬O o.Who):GX p s' gh' o:=by
 have hsub:∀x∈X,x∈X++R:=fun x hx=>zBH _ hx;have hnd:=(zCe.1 Y.L.nodup).2.1;have hnot:∀x,x∈wi o->x∉X:=fun x hx hg=>(zCe.1 hnd).2.2 x hg x (hR x hx) rfl;refine ⟨G.o,G.pc,G.md,G.ob,fun h1 h0=>?_,fun h5 h0=>?_,fun h7 h0=>?_,fun h3 h0=>?_⟩
 .have hw:=M.who h1;rcases Fx.dq o.Who hw.1 hw.2 with h | h
  .cases h with
   | same t l c m=>rw [c];exact G.c0 h1 h0
   | stolen x t l c m=>rw [c];exact G.c0 h1 h0
  .exact zk h.1 (apart h1)
 .obtain ⟨a,b,c⟩:=G.c5 h5 h0;obtain ⟨m1,m2,m3,m4,m5⟩:=M.c5 h5;exact ⟨a,b,c.mv Y.L Fx.mv hsub (.inr m2) (fun h _=>m4 h) (fun e=>by omega)⟩
 .obtain ⟨a,b,c,d,e⟩:=G.c7 h7 h0;obtain ⟨m1,m2,m3,m4,m5⟩:=M.c7 h7;have hown:o.Bin∈wi o:=by unfold wi;rw [zb ⟨h0,.inr h7⟩];simp
  have hno:=hnot _ hown;exact ⟨a,b,c,d.mv Y.L Fx.mv hsub (.inl m2) (fun _ e=>by omega) (fun _=>⟨m4.1,m4.2,by rw [c];exact hno⟩),by rw [Fx.bn o.Bin (by rw [<-c];exact m4.1) hno];exact e⟩
 .obtain ⟨a,b,c⟩:=G.d3 h3 h0;have hw:=M.who a;exact ⟨a,b,Fx.dk hp hw.1 hw.2 (apart a) c⟩
theorem WN (m:List (BitVec 64)) {c:zJ}(h:c.Out=0) (hpc:0<=c.PC/\c.PC<=2) (hk:c.Kind=1\/c.Kind=2) :
  ((zo m c).2.Out=0/\0<=(zo m c).2.PC/\(zo m c).2.PC<=2)\/(zo m c).2.Out=1\/((zo m c).2.Out=2/\c.Kind=2):=by
 unfold zo;rw [ze];split
 .dsimp only;split
  .rename_i e;exact .inr (.inr ⟨rfl,e.1⟩)
  .exact .inl ⟨h,by show (0:Int)<=1;decide,by show (1:Int)<=2;decide⟩
 split
 .split<;>exact .inl ⟨h,by show (0:Int)<=2;decide,by show (2:Int)<=2;decide⟩
 .dsimp only;generalize sw m c.Head c.H _=r;split
  .split<;>exact .inr (.inl rfl)
  .exact .inl ⟨h,by show (0:Int)<=0;decide,by show (0:Int)<=2;decide⟩
theorem ziK (m:List (BitVec 64)) (c:zJ):(zo m c).2.Kind=c.Kind/\(zo m c).2.Head=c.Head/\(zo m c).2.Next=c.Next/\(c.Kind=1->(zo m c).2.X=c.X):=by
 unfold zo;split
 .exact ⟨rfl,rfl,rfl,fun _=>rfl⟩
 split
 .dsimp only;split<;>exact ⟨rfl,rfl,rfl,fun _=>rfl⟩
 split
 .split<;>exact ⟨rfl,rfl,rfl,fun _=>rfl⟩
 .dsimp only;generalize sw m c.Head c.H _=r;split
  .split
   .rename_i e;exact ⟨rfl,rfl,rfl,fun e2=>by omega⟩
   .exact ⟨rfl,rfl,rfl,fun _=>rfl⟩
  .exact ⟨rfl,rfl,rfl,fun _=>rfl⟩
theorem SX.quiet {p:zc}{nb k:Nat}{s s':za}{g:Gh}{own:List Int}(X:SX p nb s g own k) (S':SOk p nb s') (hm:s'.M=s.M):SX p nb s' g own (k+1) :=
 ⟨S',by rw [hm];exact X.L,by rw [hm];exact X.D,by rw [hm];exact ⟨Nat.le_succ_of_le X.v.1,Nat.le_succ_of_le X.v.2⟩,fun w h1 h2=>by have:=X.dk w h1 h2;omega⟩
theorem FX.quiet {p:zc}{nb:Nat}{X:List Int}{O:Int->Prop}{s s':za}{g:Gh}(hm:s'.M=s.M) (hb:∀b,1<=b->b∉X->s'.Bins[b.toNat]? =s.Bins[b.toNat]?):FX p nb X O s s' g g :=
 ⟨by rw [hm];exact Mv.refl _ _ _ _,hb,fun _ _ _=>.inl (.same rfl rfl rfl (fun _ _ _=>by rw [hm])),fun _ h=>.inl h⟩
theorem Zc {p:zc}{s s':za}{g:Gh}(hb:s'.Bins=s.Bins):yK p s' g=yK p s g:=by
 unfold yK xt;rw [hb]
theorem vA {g:zH}(h:g.Out≠0\/(g.PC≠6/\g.PC≠7)):wi g=[]:=by unfold wi;rw [ze]
theorem zhE {g:zH}(h:g.Out=0) (h2:g.PC=6\/g.PC=7):wi g=[g.Bin]:=by unfold wi;rw [zb ⟨h,h2⟩]
theorem Zy {g:zH}(h:g.Out≠0\/g.PC<3\/7<g.PC):xn g=[]:=by unfold xn;rw [ze]
theorem uh {g:zH}(h:g.Out=0) (h2:3<=g.PC) (h3:g.PC<=7):xn g=[g.Obj]:=by unfold xn;rw [zb ⟨h,h2,h3⟩]
theorem GX.ask {p:zc}{s:za}{gh:Gh}{g:zH}(o:g.Out=0) (md:1<=g.Mode/\g.Mode<=3) (ob:1<=g.Obj/\g.Obj<=64) (c0:g.Mode=1->gh.c g.Who=0) (q:zc):GX p s gh (zcC q g) :=
 ⟨.inl o,⟨by show (0:Int)<=5;decide,by show (5:Int)<=7;decide⟩,md,ob,fun h _=>c0 h,
  fun _ _=>⟨rfl,⟨by show (0:Int)<=0;decide,by show (0:Int)<=2;decide⟩,⟨fun e=>zk e (by show ¬(1:Int)<=0;decide),fun e=>zk e (by show ¬(0:Int)=2;decide),fun e=>zk e (by show ¬(0:Int)=2;decide)⟩⟩,
  fun e=>zk e (by show ¬(5:Int)=7;decide),fun e=>zk e (by show ¬(5:Int)=3;decide)⟩
theorem GX.plain {p:zc}{s:za}{gh:Gh}{g:zH}(o:g.Out=0\/g.Out=1) (pc:0<=g.PC/\g.PC<=7) (md:1<=g.Mode/\g.Mode<=3) (ob:1<=g.Obj/\g.Obj<=64) (c0:g.Mode=1->g.Out=0->gh.c g.Who=0) (h:g.Out≠0\/(g.PC≠3/\g.PC≠5/\g.PC≠7)):GX p s gh g :=
 ⟨o,pc,md,ob,c0,fun e e2=>by omega,fun e e2=>by omega,fun e e2=>by omega⟩
def zr0 (g:zH) (w:Int):Prop:=g.Mode=1/\w=g.Who
def zms (p:zc) (nb k:Nat) (R:List Int) (gh:Gh) (s:za) (g:zH) (s':za) (g':zH):Prop :=
 ∃gh',SX p nb s' gh' (wi g'++R) (k+1)/\GX p s' gh' g'/\FX p nb (wi g) (zr0 g) s s' gh gh'/\(g.Mode=1->g.Out=0->gh'.c g.Who=0)/\(∀b∈gh'.F,b∈gh.F\/xt s' b≠[]) /\
  ∃N,zC6 (yK p s' gh'++xn g') (N++(yK p s gh++xn g)) /\
   ((N=[]/\s'.T=s.T)\/(N=[g.Obj]/\¬(s.T.Marks|||bit g.Obj=s.T.Marks)/\s'.T={s.T with Marks:=s.T.Marks|||bit g.Obj}))
theorem zms.quiet {p:zc}{nb k:Nat}{R:List Int}{gh:Gh}{s s':za}{g g':zH}(X:SX p nb s gh (wi g++R) k) (S':SOk p nb s') (hm:s'.M=s.M) (hb:s'.Bins=s.Bins) (hT:s'.T=s.T)
  (ho:wi g'=wi g) (hh:xn g'=xn g) (c0:g.Mode=1->g.Out=0->gh.c g.Who=0) (G':GX p s' gh g'):zms p nb k R gh s g s' g' :=
 ⟨gh,by rw [ho];exact X.quiet S' hm,G',FX.quiet hm (fun _ _ _=>by rw [hb]),c0,fun _ h=>.inl h,[],by rw [Zc hb,hh];exact zBY _,.inl ⟨rfl,hT⟩⟩
theorem zlL (m:List (BitVec 64)) {c:zJ}(hk:c.Kind=2) {a:Int}(ha:a≠c.Head):ld (zo m c).1 a=ld m a:=by
 unfold zo;split
 .rfl
 split
 .rfl
 split
 .rfl
 .dsimp only;unfold sw;split
  .exact yE (fun e=>ha e.symm)
  .rfl
theorem Chn.congr {m m':List (BitVec 64)}{N:Int}{nb:Nat}(hm:∀x:Int,1<=x->ld m' (N+x)=ld m (N+x)):∀ {l:List Int}{h:Int},Chn m N nb h l->Chn m' N nb h l
 | [],h,c=>c
 | y::l,h,c=>⟨c.1,c.2.1,c.2.2.1,by rw [hm y c.2.1];exact Chn.congr hm c.2.2.2⟩
theorem LI.low {p:zc}(hp:zB p) {nb:Nat}{m m':List (BitVec 64)}{h1 h2:Int}{F E own:List Int}(L:LI p nb m h1 h2 F E own) (hl:m'.length=m.length) (hm:∀a,yb p<=a->ld m' a=ld m a):LI p nb m' h1 h2 F E own:=by
 have hE:=xB hp;have h:h1=yb p\/h1=zO p:=by rcases L.hs with g | g<;>simp [g]
 have h':h2=yb p\/h2=zO p:=by rcases L.hs with g | g<;>simp [g]
 exact ⟨L.hs,by rw [hm h1 (by omega)];exact L.cF.congr (fun x hx=>hm _ (by omega)),by rw [hm h2 (by omega)];exact L.cE.congr (fun x hx=>hm _ (by omega)),L.all,by rw [hl];exact L.len⟩
theorem Mv.low {p:zc}(hp:zB p) {nb:Nat}{X:List Int}{m m':List (BitVec 64)}(hm:∀a,yb p<=a->ld m' a=ld m a):Mv p nb X m m':=by
 have hE:=xB hp;exact ⟨fun h hh=>by rw [hm h (by omega)];exact ⟨zBm _,.inl rfl⟩,fun x hx _ _=>hm _ (by omega)⟩
theorem zna {p:zc}(hp:zB p) {v w:Int}(hv:1<=v/\v<=p.Workers) (hw:1<=w/\w<=p.Workers) (h:v≠w):zZ p v+p.Cap+2<=zZ p w\/zZ p w+p.Cap+2<=zZ p v:=by
 have hk:=hp.wk;have hc:=hp.cap;have h1:=(uC hp hv.1 hv.2).1;have h2:=(uC hp hw.1 hw.2).1;have hx:v=1\/v=2\/v=3:=by omega
 have hy:w=1\/w=2\/w=3:=by omega
 rw [h1,h2];rcases hx with rfl | rfl | rfl<;>rcases hy with rfl | rfl | rfl<;>omega
theorem zpM {p:zc}(hp:zB p) {w:Int}(hw:1<=w/\w<=p.Workers) {m m':List (BitVec 64)}(hm:∀a,(a<zZ p w\/zZ p w+p.Cap+2<=a)->ld m' a=ld m a):(∀a,yb p<=a->ld m' a=ld m a) /\
  ∀v,1<=v->v<=p.Workers->v≠w->∀a,zZ p v<=a->a<zZ p v+p.Cap+2->ld m' a=ld m a:=by
 have hd:=uC hp hw.1 hw.2;refine ⟨fun a ha=>hm a (by omega),fun v h1 h2 hne a h3 h4=>hm a ?_⟩;have:=zna hp ⟨h1,h2⟩ hw hne;omega
def WA (g:Gh) (w:Int) (t:Nat) (l:List Int) (c:Nat):Gh:={g with D:=fun v=>if v=w then l else g.D v,t:=fun v=>if v=w then t else g.t v,c:=fun v=>if v=w then c else g.c v}
theorem YJ {g:Gh}{w v:Int}{t c:Nat}{l:List Int}(h:v≠w):(WA g w t l c).D v=g.D v/\(WA g w t l c).t v=g.t v/\(WA g w t l c).c v=g.c v:=by
 unfold WA;dsimp only;rw [zd h,zd h,zd h];exact ⟨rfl,rfl,rfl⟩
theorem wZ {g:Gh}{w:Int}{t c:Nat}{l:List Int}:(WA g w t l c).D w=l/\(WA g w t l c).t w=t/\(WA g w t l c).c w=c:=by
 unfold WA;dsimp only;rw [zb rfl,zb rfl,zb rfl];exact ⟨rfl,rfl,rfl⟩
theorem SX.dq {p:zc}(hp:zB p) {nb k:Nat}{s s':za}{g:Gh}{own:List Int}(X:SX p nb s g own k) (S':SOk p nb s') (hl:s'.M.length=s.M.length) {w:Int}(hw:1<=w/\w<=p.Workers)
  (hm:∀a,(a<zZ p w\/zZ p w+p.Cap+2<=a)->ld s'.M a=ld s.M a) {t c:Nat}{l:List Int}(D:DQ p s'.M w t l c) (hk:t+l.length<=k+1+1000):SX p nb s' (WA g w t l c) own (k+1):=by
 obtain ⟨h1,h2⟩:=zpM hp hw hm;have hE:=xB hp;refine ⟨S',X.L.low hp hl h1,fun v a b=>?_,?_,fun v a b=>?_⟩
 .by_cases e:v=w
  .subst e;rw [wZ.1,wZ.2.1,wZ.2.2];exact D
  .rw [(YJ e).1,(YJ e).2.1,(YJ e).2.2];exact (X.D v a b).keep hp (h2 v a b e)
 .rw [h1 _ (by omega),h1 _ (by omega)];exact ⟨Nat.le_succ_of_le X.v.1,Nat.le_succ_of_le X.v.2⟩
 .by_cases e:v=w
  .subst e;rw [wZ.1,wZ.2.1];exact hk
  .rw [(YJ e).1,(YJ e).2.1];have:=X.dk v a b;omega
theorem FX.own {p:zc}(hp:zB p) {nb:Nat}{Y:List Int}{O:Int->Prop}{s s':za}{g:Gh}{w:Int}(hw:1<=w/\w<=p.Workers)
  (hm:∀a,(a<zZ p w\/zZ p w+p.Cap+2<=a)->ld s'.M a=ld s.M a) (hb:s'.Bins=s.Bins) {t c:Nat}{l:List Int}(hO:O w) (V:Dv (g.t w) (g.D w) t l):FX p nb Y O s s' g (WA g w t l c):=by
 obtain ⟨h1,h2⟩:=zpM hp hw hm;refine ⟨Mv.low hp h1,fun b _ _=>by rw [hb],fun v a b=>?_,fun _ h=>.inl h⟩;by_cases e:v=w
 .subst e;right;rw [wZ.1,wZ.2.1];exact ⟨hO,V⟩
 .exact .inl (.same (YJ e).2.1 (YJ e).1 (YJ e).2.2 (h2 v a b e))
theorem wq {α β:Type}{f g:α->List β}:∀ {l:List α},(∀x∈l,f x=g x)->l.flatMap f=l.flatMap g
 | [],_=>rfl
 | a::l,h=>by rw [zCa,zCa,h a (by simp),wq (fun x hx=>h x (zBr _ hx))]
theorem zt1 {n:Nat}{i:Nat}(h:i<n):∃a b,zC5 n=a++i::b/\i∉a/\i∉b:=by
 refine ⟨zC5 i,(zC5 (n-i-1)).map (fun j=>i+1+j),?_,by simp,by simp;omega⟩;have:n=i+(1+(n-i-1)):=by omega
 rw [this,List.range_add,List.range_add];simp [zC7,zCy,Function.comp_def]
theorem zl5 {p:zc}{s s':za}{g:Gh}(hb:s'.Bins=s.Bins) {w:Int}(hw:1<=w/\w<=p.Workers) {t c:Nat}{l:List Int}:∃a b,yK p s g=a++g.D w++b/\yK p s' (WA g w t l c)=a++l++b:=by
 obtain ⟨a,b,e,ha,hb'⟩:=zt1 (n:=p.Workers.toNat) (i:=(w-1).toNat) (by omega);have ew:(((w-1).toNat:Nat):Int)+1=w:=by omega
 have ne:∀j:Nat,j≠(w-1).toNat->(j:Int)+1≠w:=fun j hj e=>hj (by omega);refine ⟨g.F.flatMap (xt s)++a.flatMap (fun i:Nat=>g.D ((i:Int)+1)),b.flatMap (fun i:Nat=>g.D ((i:Int)+1)),?_,?_⟩
 .unfold yK;rw [e,zCN,zCa,ew];simp [zBu]
 .unfold yK xt;rw [hb,e,zCN,zCa,ew,wZ.1];have h1:a.flatMap (fun i:Nat=>(WA g w t l c).D ((i:Int)+1))=a.flatMap (fun i:Nat=>g.D ((i:Int)+1)):=by
   refine wq (fun j hj=>?_);exact (YJ (ne j (fun e=>ha (e▸hj)))).1
  have h2:b.flatMap (fun i:Nat=>(WA g w t l c).D ((i:Int)+1))=b.flatMap (fun i:Nat=>g.D ((i:Int)+1)):=by
   refine wq (fun j hj=>?_);exact (YJ (ne j (fun e=>hb' (e▸hj)))).1
  rw [h1,h2];have hF:(WA g w t l c).F=g.F:=rfl;rw [hF];simp [zBu]
theorem Mv.weak {p:zc}{nb:Nat}{m m':List (BitVec 64)}(M:Mv p nb [] m m') (Y:List Int):Mv p nb Y m m':=⟨M.hd,fun x a b _=>M.nx x a b (by simp)⟩
theorem Mv.grow {p:zc}{nb:Nat}{X Y:List Int}{m m':List (BitVec 64)}(M:Mv p nb X m m') (h:∀x∈X,x∈Y):Mv p nb Y m m':=⟨M.hd,fun x a b c=>M.nx x a b (fun e=>c (h x e))⟩
theorem SX.chain {p:zc}(hp:zB p) {nb k:Nat}{s s':za}{g:Gh}{own own' F E:List Int}(X:SX p nb s g own k) (S':SOk p nb s') (hlow:∀a,a<yb p->ld s'.M a=ld s.M a) (L':LI p nb s'.M (yb p) (zO p) F E own')
  (hv:xI (ld s'.M (yb p))<=k+1/\xI (ld s'.M (zO p))<=k+1):SX p nb s' {g with F:=F,E:=E} own' (k+1) :=
 ⟨S',L',fun w h1 h2=>(X.D w h1 h2).keep hp (fun a h3 h4=>hlow a (by have:=uC hp h1 h2;omega)),hv,fun w h1 h2=>by have:=X.dk w h1 h2;show g.t w+(g.D w).length<=_;omega⟩
theorem FX.chain {p:zc}(hp:zB p) {nb:Nat}{Y:List Int}{O:Int->Prop}{s s':za}{g:Gh}{F E:List Int}(M:Mv p nb Y s.M s'.M) (hb:s'.Bins=s.Bins) (hlow:∀a,a<yb p->ld s'.M a=ld s.M a) (hF:∀y∈F,y∈g.F\/xt s' y≠[]):FX p nb Y O s s' g {g with F:=F,E:=E} :=
 ⟨M,fun _ _ _=>by rw [hb],fun w h1 h2=>.inl (.same rfl rfl rfl (fun a h3 h4=>hlow a (by have:=uC hp h1 h2;omega))),hF⟩
theorem SX.popE {p:zc}(hp:zB p) {nb k:Nat}{s:za}{g:Gh}{own:List Int}(X:SX p nb s g own k) (hk:k<4294960000) {c:zJ}(kd:c.Kind=2) (hh:c.Head=zO p) (hN:c.Next=zO p) (ho:c.Out=0) (hpc:0<=c.PC/\c.PC<=2) (K:CK p s.M c)
  (hn:1<=c.PC->1<=yH c.H/\yH c.H<nb) (S':SOk p nb {s with M:=(zo s.M c).1}) :
  ((zo s.M c).1=s.M/\(zo s.M c).2.Out≠1/\CK p s.M (zo s.M c).2/\((zo s.M c).2.Out=2->g.E=[])) \/
  (∃x l,g.E=x::l/\(zo s.M c).2.Out=1/\(zo s.M c).2.X=x/\SX p nb {s with M:=(zo s.M c).1} {g with E:=l} (x::own) (k+1)/\∀Y O,FX p nb Y O s {s with M:=(zo s.M c).1} g {g with E:=l}):=by
 have hE:=xB hp;have hnb:=X.S.nbk;have hv:=X.v;have hcells:=fun a (ha:a≠c.Head)=>zlL s.M kd ha;rcases zto hp hnb.2 (L:=X.L.swap) kd hh hN ho hpc K hn (by omega) with ⟨a,b,e,d⟩ | ⟨x,l,a,b,e,d,f,v1,v2⟩
 .exact .inl ⟨a,b,d,e⟩
 .refine .inr ⟨x,l,a,b,e,X.chain hp S' (fun a ha=>hcells a (by omega)) d.swap ?_,fun Y O=>FX.chain hp (f.weak Y) rfl (fun a ha=>hcells a (by omega)) (fun _ h=>.inl h)⟩;rw [v2,v1];omega
theorem SX.popF {p:zc}(hp:zB p) {nb k:Nat}{s:za}{g:Gh}{own:List Int}(X:SX p nb s g own k) (hk:k<4294960000) {c:zJ}(kd:c.Kind=2) (hh:c.Head=yb p) (hN:c.Next=zO p) (ho:c.Out=0) (hpc:0<=c.PC/\c.PC<=2) (K:CK p s.M c)
  (hn:1<=c.PC->1<=yH c.H/\yH c.H<nb) (S':SOk p nb {s with M:=(zo s.M c).1}) :
  ((zo s.M c).1=s.M/\(zo s.M c).2.Out≠1/\CK p s.M (zo s.M c).2/\((zo s.M c).2.Out=2->g.F=[])) \/
  (∃x l,g.F=x::l/\(zo s.M c).2.Out=1/\(zo s.M c).2.X=x/\SX p nb {s with M:=(zo s.M c).1} {g with F:=l} (x::own) (k+1)/\∀Y O,FX p nb Y O s {s with M:=(zo s.M c).1} g {g with F:=l}):=by
 have hE:=xB hp;have hnb:=X.S.nbk;have hv:=X.v;have hcells:=fun a (ha:a≠c.Head)=>zlL s.M kd ha;rcases zto hp hnb.2 (L:=X.L) kd hh hN ho hpc K hn (by omega) with ⟨a,b,e,d⟩ | ⟨x,l,a,b,e,d,f,v1,v2⟩
 .exact .inl ⟨a,b,d,e⟩
 .refine .inr ⟨x,l,a,b,e,X.chain hp S' (fun a ha=>hcells a (by omega)) d ?_,fun Y O=>FX.chain hp (f.weak Y) rfl (fun a ha=>hcells a (by omega)) (fun y hy=>.inl (by rw [a];exact zBr _ hy))⟩;rw [v2,v1];omega
theorem SX.pushF {p:zc}(hp:zB p) {nb k:Nat}{s:za}{g:Gh}{o1 o2:List Int}{b:Int}(X:SX p nb s g (o1++b::o2) k) (hk:k<4294960000) {c:zJ}(kd:c.Kind=1) (hh:c.Head=yb p) (hN:c.Next=zO p) (hX:c.X=b) (ho:c.Out=0) (hpc:0<=c.PC/\c.PC<=2) (K:CK p s.M c)
  (hn:1<=c.PC->yH c.H<nb) (S':SOk p nb {s with M:=(zo s.M c).1}) :
  ((zo s.M c).2.Out=0/\SX p nb {s with M:=(zo s.M c).1} g (o1++b::o2) (k+1)/\CK p (zo s.M c).1 (zo s.M c).2/\(∀Y O,b∈Y->FX p nb Y O s {s with M:=(zo s.M c).1} g g)) \/
  ((zo s.M c).2.Out=1/\SX p nb {s with M:=(zo s.M c).1} {g with F:=b::g.F} (o1++o2) (k+1)/\(∀Y O,xt s b≠[]->FX p nb Y O s {s with M:=(zo s.M c).1} g {g with F:=b::g.F})):=by
 have hE:=xB hp;have hnb:=X.S.nbk;have hv:=X.v;rcases zrk hp hnb.2 (L:=X.L) kd hh hN hX ho hpc K hn (by omega) with ⟨a,l,d,e,f⟩ | ⟨a,l,d,e,f⟩
 .refine .inl ⟨a,X.chain hp S' (fun a ha=>f a (by omega)) l ?_,e,fun Y O hb=>FX.chain hp (d.grow (fun x hx=>by rw [zCb.1 hx];exact hb)) rfl (fun a ha=>f a (by omega)) (fun _ h=>.inl h)⟩;show xI (ld (zo s.M c).1 (yb p))<=_/\xI (ld (zo s.M c).1 (zO p))<=_;rw [f _ (by omega),f _ (by omega)];omega
 .refine .inr ⟨a,X.chain hp S' (fun a ha=>f a (by omega) (by omega)) l ?_,fun Y O hb=>FX.chain hp (d.weak Y) rfl (fun a ha=>f a (by omega) (by omega)) (fun y hy=>(zBG.1 hy).elim (fun e=>.inr (by rw [e];exact hb)) .inl)⟩;show xI (ld (zo s.M c).1 (yb p))<=_/\xI (ld (zo s.M c).1 (zO p))<=_;have f':=f (zO p) (by omega) (by omega);rw [f'];omega
theorem SX.pushE {p:zc}(hp:zB p) {nb k:Nat}{s:za}{g:Gh}{o1 o2:List Int}{b:Int}(X:SX p nb s g (o1++b::o2) k) (hk:k<4294960000) {c:zJ}(kd:c.Kind=1) (hh:c.Head=zO p) (hN:c.Next=zO p) (hX:c.X=b) (ho:c.Out=0) (hpc:0<=c.PC/\c.PC<=2) (K:CK p s.M c)
  (hn:1<=c.PC->yH c.H<nb) (S':SOk p nb {s with M:=(zo s.M c).1}) :
  ((zo s.M c).2.Out=0/\SX p nb {s with M:=(zo s.M c).1} g (o1++b::o2) (k+1)/\CK p (zo s.M c).1 (zo s.M c).2/\(∀Y O,b∈Y->FX p nb Y O s {s with M:=(zo s.M c).1} g g)) \/
  ((zo s.M c).2.Out=1/\SX p nb {s with M:=(zo s.M c).1} {g with E:=b::g.E} (o1++o2) (k+1)/\(∀Y O,FX p nb Y O s {s with M:=(zo s.M c).1} g {g with E:=b::g.E})):=by
 have hE:=xB hp;have hnb:=X.S.nbk;have hv:=X.v;rcases zrk hp hnb.2 (L:=X.L.swap) kd hh hN hX ho hpc K hn (by omega) with ⟨a,l,d,e,f⟩ | ⟨a,l,d,e,f⟩
 .refine .inl ⟨a,X.chain hp S' (fun a ha=>f a (by omega)) l.swap ?_,e,fun Y O hb=>FX.chain hp (d.grow (fun x hx=>by rw [zCb.1 hx];exact hb)) rfl (fun a ha=>f a (by omega)) (fun _ h=>.inl h)⟩;show xI (ld (zo s.M c).1 (yb p))<=_/\xI (ld (zo s.M c).1 (zO p))<=_;rw [f _ (by omega),f _ (by omega)];omega
 .refine .inr ⟨a,X.chain hp S' (fun a ha=>f a (by omega) (by omega)) l.swap ?_,fun Y O=>FX.chain hp (d.weak Y) rfl (fun a ha=>f a (by omega) (by omega)) (fun _ h=>.inl h)⟩;show xI (ld (zo s.M c).1 (yb p))<=_/\xI (ld (zo s.M c).1 (zO p))<=_;have f':=f (yb p) (by omega) (by omega);rw [f'];omega
theorem zAO {p:zc}{s:za}{g:Gh}{b:Int}:yK p s {g with F:=b::g.F}=xt s b++yK p s g:=by
 unfold yK;simp [zBu]
theorem zA2 {p:zc}{s:za}{g:Gh}{l:List Int}:yK p s {g with E:=l}=yK p s g:=rfl
theorem zx6 {l:List Int}{t:Nat}{x:Int}:Dv t l t (l++[x]):=⟨zBm _,fun _ h=>⟨by simp,by cases l with | nil=>exact zk rfl h | cons a l=>rfl⟩⟩
theorem zu9 {p:zc}(hp:zB p) {nb k:Nat}{R:List Int}{gh:Gh}{s:za}{g:zH}(hk:k<4294960000) (X:SX p nb s gh (wi g++R) k) (M:MOk p nb g) (h5o:g.PC=5->g.C.Out≠1) (G:GX p s gh g) :
  zms p nb k R gh s g (zx s g).1 (zx s g).2:=by
 have S':=(zmw hp X.S M h5o).1;have hP:=X.S.P;have hpc:=G.pc;have hmd:=G.md;have hob:=G.ob;revert S';unfold zx;by_cases h0:g.Out=0;rotate_left
 .rw [zb (.inl h0)];intro S';exact .quiet X S' rfl rfl rfl rfl rfl G.c0 G
 rw [ze];have hc0:g.Mode=1->gh.c g.Who=0:=fun h=>G.c0 h h0;by_cases p7:g.PC=7
 .rw [zb p7];obtain ⟨c1,c2,c3,c4,c5⟩:=G.c7 p7 h0;obtain ⟨m1,m2,m3,m4,m5⟩:=M.c7 p7;have eo:wi g=[g.Bin]:=zhE h0 (.inr p7);have eh:xn g=[g.Obj]:=uh h0 (by omega) (by omega);rw [eo] at X;intro S';have S':SOk p nb {s with M:=(zo s.M g.C).1}:=S';unfold Uf;dsimp only;rcases SX.pushF hp (o1:=[]) (o2:=R) (b:=g.Bin) X hk m1 m2 m3 c3 c1 c2 c4 m5 S' with ⟨a,b,c,d⟩ | ⟨a,b,d⟩
  .rw [a];rw [zd (by decide)];have hout:=WN s.M c1 c2 (.inl m1);have hsame:=ziK s.M g.C;have hpc':0<=(zo s.M g.C).2.PC/\(zo s.M g.C).2.PC<=2:=by omega
   refine ⟨gh,by rw [show wi {g with C:=(zo s.M g.C).2}=[g.Bin] from zhE h0 (.inr p7)];exact b,?_,by rw [eo];exact d _ _ (by simp),fun h _=>hc0 h,fun _ h=>.inl h,[],?_,.inl ⟨rfl,rfl⟩⟩
   .exact ⟨.inl h0,hpc,hmd,hob,fun h _=>hc0 h,fun e=>by have e:g.PC=5:=e;omega,fun _ _=>⟨a,hpc',(hsame.2.2.2 m1).trans c3,c,c5⟩,fun e=>by have e:g.PC=3:=e;omega⟩
   .rw [Zc rfl,show xn {g with C:=(zo s.M g.C).2}=[g.Obj] from uh h0 (by show (3:Int)<=g.PC;omega) (by show g.PC<=7;omega),eh];exact zBY _
  .rw [a,zb rfl];have e1:wi {g with C:=(zo s.M g.C).2,Out:=1}=[]:=vA (.inl (by show (1:Int)≠0;decide));have e2:xn {g with C:=(zo s.M g.C).2,Out:=1}=[]:=Zy (.inl (by show (1:Int)≠0;decide));refine ⟨{gh with F:=g.Bin::gh.F},by rw [e1];exact b,?_,by rw [eo];exact d _ _ (by unfold xt;rw [c5];exact List.cons_ne_nil _ _),fun h _=>hc0 h,fun y hy=>(zBG.1 hy).elim (fun e=>.inr (by rw [e];unfold xt;rw [show ({s with M:=(zo s.M g.C).1}:za).Bins=s.Bins from rfl,c5];exact List.cons_ne_nil _ _)) .inl,[],?_,.inl ⟨rfl,rfl⟩⟩
   .exact GX.plain (.inr rfl) hpc hmd hob (fun _ e=>by cases e) (.inl (by show (1:Int)≠0;decide))
   .rw [e2,eh,zAO,Zc rfl,zBo];have:xt {s with M:=(zo s.M g.C).1} g.Bin=[g.Obj]:=by unfold xt;rw [show ({s with M:=(zo s.M g.C).1}:za).Bins=s.Bins from rfl,c5];rfl
    rw [this];exact zB5
 rw [zd p7];by_cases p6:g.PC=6
 .rw [zb p6];have eo:wi g=[g.Bin]:=zhE h0 (.inl p6);have eh:xn g=[g.Obj]:=uh h0 (by omega) (by omega);have hb:=M.b6 p6;have hbl:=X.S.bins;intro S';unfold zmt;unfold zmt at S';have e1:wi {g with PC:=7,C:=⟨1,0,yb s.P,zO s.P,0#64,g.Bin,0,0⟩}=[g.Bin]:=zhE h0 (.inr rfl);have hget:∀b,1<=b->b∉wi g->(s.Bins.set g.Bin.toNat [g.Obj])[b.toNat]? =s.Bins[b.toNat]? :=fun b b1 b2=>by
   rw [zBI];intro e;rw [eo] at b2;exact b2 (by rw [show b=g.Bin by omega];simp)
  refine ⟨gh,by rw [e1,<-eo];exact X.quiet S' rfl,?_,FX.quiet rfl hget,fun h _=>hc0 h,fun _ h=>.inl h,[],?_,.inl ⟨rfl,rfl⟩⟩
  .refine ⟨.inl h0,⟨by show (0:Int)<=7;decide,by show (7:Int)<=7;decide⟩,hmd,hob,fun h _=>hc0 h,fun e=>zk e (by show ¬(7:Int)=5;decide),fun _ _=>⟨rfl,⟨by show (0:Int)<=0;decide,by show (0:Int)<=2;decide⟩,rfl,⟨fun e=>zk e (by show ¬(1:Int)<=0;decide),fun e=>zk e (by show ¬(0:Int)=2;decide),fun e=>zk e (by show ¬(0:Int)=2;decide)⟩,?_⟩,fun e=>zk e (by show ¬(7:Int)=3;decide)⟩;show (s.Bins.set g.Bin.toNat [g.Obj])[g.Bin.toNat]? =_;rw [zB3 (by omega)]
  .rw [show xn {g with PC:=7,C:=⟨1,0,yb s.P,zO s.P,0#64,g.Bin,0,0⟩}=[g.Obj] from uh h0 (by show (3:Int)<=7;decide) (by show (7:Int)<=7;decide),eh];have:yK p {s with Bins:=s.Bins.set g.Bin.toNat [g.Obj]} gh=yK p s gh:=by
    unfold yK;congr 1;refine wq (fun b hb=>?_);have hm:=X.L.cF.mem b hb;have hno:=(X.L.notF (x:=g.Bin) (by rw [eo];simp)).1;unfold xt;rw [show ({s with Bins:=s.Bins.set g.Bin.toNat [g.Obj]}:za).Bins=s.Bins.set g.Bin.toNat [g.Obj] from rfl,hget b hm.1 (by rw [eo];intro e;rw [zCb.1 e] at hb;exact hno hb)]
   rw [this];exact zBY _
 rw [zd p6];have eo:wi g=[]:=vA (.inr ⟨p6,p7⟩);by_cases p5:g.PC=5
 .rw [zb p5];obtain ⟨c1,c2,c3⟩:=G.c5 p5 h0;obtain ⟨m1,m2,m3,m4,m5⟩:=M.c5 p5;have eh:xn g=[g.Obj]:=uh h0 (by omega) (by omega);intro S';have S':SOk p nb {s with M:=(zo s.M g.C).1}:=S';unfold zeH;dsimp only;rcases SX.popE hp X hk m1 m2 m3 c1 c2 c3 m4 S' with ⟨a,b,c,d⟩ | ⟨x,l,a,b,c,d,e⟩
  .rw [zd b];have hout:=WN s.M c1 c2 (.inr m1);by_cases o2:(zo s.M g.C).2.Out=2
   .rw [zb o2];refine .quiet X S' a rfl rfl ?_ ?_ G.c0 (GX.ask h0 hmd hob hc0 _)
    .rw [eo];exact vA (.inr ⟨by show (5:Int)≠6;decide,by show (5:Int)≠7;decide⟩)
    .rw [eh];exact uh h0 (by show (3:Int)<=5;decide) (by show (5:Int)<=7;decide)
   .rw [zd o2];have hpc':(zo s.M g.C).2.Out=0/\0<=(zo s.M g.C).2.PC/\(zo s.M g.C).2.PC<=2:=by omega
    refine .quiet X S' a rfl rfl ?_ ?_ G.c0 ⟨.inl h0,hpc,hmd,hob,G.c0,fun _ _=>⟨hpc'.1,hpc'.2,by rw [show ({s with M:=(zo s.M g.C).1}:za).M=s.M from a];exact c⟩,fun e=>by have e:g.PC=7:=e;omega,fun e=>by have e:g.PC=3:=e;omega⟩
    .rw [eo];exact vA (.inr ⟨p6,p7⟩)
    .rw [eh];exact uh h0 (by show (3:Int)<=g.PC;omega) (by show g.PC<=7;omega)
  .rw [zb b];have e1:wi {g with PC:=6,C:=(zo s.M g.C).2,Bin:=(zo s.M g.C).2.X}=[x]:=by rw [<-c];exact zhE (g:={g with PC:=6,C:=(zo s.M g.C).2,Bin:=(zo s.M g.C).2.X}) h0 (.inl rfl)
   refine ⟨{gh with E:=l},by rw [e1];rw [eo] at d;exact d,?_,e _ _,fun h _=>hc0 h,fun _ h=>.inl h,[],?_,.inl ⟨rfl,rfl⟩⟩
   .exact GX.plain (.inl h0) ⟨by show (0:Int)<=6;decide,by show (6:Int)<=7;decide⟩ hmd hob (fun h _=>hc0 h) (.inr ⟨by show (6:Int)≠3;decide,by show (6:Int)≠5;decide,by show (6:Int)≠7;decide⟩)
   .rw [zA2,Zc rfl,eh,show xn {g with PC:=6,C:=(zo s.M g.C).2,Bin:=(zo s.M g.C).2.X}=[g.Obj] from uh h0 (by show (3:Int)<=6;decide) (by show (6:Int)<=7;decide)];exact zBY _
 rw [zd p5];by_cases p4:g.PC=4
 .rw [zb p4];intro S';refine .quiet X S' rfl rfl rfl ?_ ?_ G.c0 (GX.ask h0 hmd hob hc0 _)
  .rw [eo];exact vA (.inr ⟨by show (5:Int)≠6;decide,by show (5:Int)≠7;decide⟩)
  .rw [uh h0 (by omega) (by omega)];exact uh h0 (by show (3:Int)<=5;decide) (by show (5:Int)<=7;decide)
 rw [zd p4];by_cases p3:g.PC=3
 .rw [zb p3];obtain ⟨c1,c2,c3⟩:=G.d3 p3 h0;have hw:=M.who c1;have eh:xn g=[g.Obj]:=uh h0 (by omega) (by omega);have hdk:=X.dk g.Who hw.1 hw.2;have hlen:=X.L.len;have hE:=xB hp;have hc00:=c3.c0;have c3':=c3;rw [hc00] at c3';have D0:=X.D g.Who hw.1 hw.2;rw [hc00] at D0;obtain ⟨a,b,r⟩:=zkV hp hw (by omega) D0 c3' (by omega) (by rw [c2];omega);intro S';have S':SOk p nb {s with M:=(yV s.M g.D).1}:=S';unfold zek;dsimp only;rcases r with ⟨r1,r2,r3⟩ | ⟨r1,r2⟩ | ⟨r1,r2⟩
  .rw [r1,zd (by decide),zd (by decide)];have e1:wi {g with D:=(yV s.M g.D).2}=[]:=vA (.inr ⟨p6,p7⟩);refine ⟨WA gh g.Who (gh.t g.Who) (gh.D g.Who) 0,?_,?_,FX.own (O:=zr0 g) (s:=s) (s':={s with M:=(yV s.M g.D).1}) (g:=gh) hp hw a rfl ⟨c1,rfl⟩ (Dv.refl _ _),fun _ _=>wZ.2.2,fun _ h=>.inl h,[],?_,.inl ⟨rfl,rfl⟩⟩
   .rw [e1];rw [eo] at X;exact X.dq hp S' (zfU _ _) hw a r2 (by omega)
   .refine ⟨.inl h0,hpc,hmd,hob,fun _ _=>wZ.2.2,fun e=>by have e:g.PC=5:=e;omega,fun e=>by have e:g.PC=7:=e;omega,fun _ _=>⟨c1,b.trans c2,?_⟩⟩;show DK p (yV s.M g.D).1 g.Who ((WA gh g.Who (gh.t g.Who) (gh.D g.Who) 0).t g.Who) _ _ _;rw [wZ.1,wZ.2.1,wZ.2.2];exact r3
   .obtain ⟨u,v,f1,f2⟩:=zl5 (p:=p) (s:=s) (s':={s with M:=(yV s.M g.D).1}) (g:=gh) rfl hw (t:=gh.t g.Who) (c:=0) (l:=gh.D g.Who);rw [f1,f2,eh,show xn {g with D:=(yV s.M g.D).2}=[g.Obj] from uh h0 (by show (3:Int)<=g.PC;omega) (by show g.PC<=7;omega)];exact zBY _
  .rw [r1,zd (by decide),zb rfl];have e1:wi (zcC s.P {g with D:=(yV s.M g.D).2})=[]:=vA (.inr ⟨by show (5:Int)≠6;decide,by show (5:Int)≠7;decide⟩);refine ⟨WA gh g.Who (gh.t g.Who) (gh.D g.Who) 0,?_,?_,FX.own (O:=zr0 g) (s:=s) (s':={s with M:=(yV s.M g.D).1}) (g:=gh) hp hw a rfl ⟨c1,rfl⟩ (Dv.refl _ _),fun _ _=>wZ.2.2,fun _ h=>.inl h,[],?_,.inl ⟨rfl,rfl⟩⟩
   .rw [e1];rw [eo] at X;exact X.dq hp S' (zfU _ _) hw a r2 (by omega)
   .exact GX.ask (g:={g with D:=(yV s.M g.D).2}) h0 hmd hob (fun _=>wZ.2.2) _
   .obtain ⟨u,v,f1,f2⟩:=zl5 (p:=p) (s:=s) (s':={s with M:=(yV s.M g.D).1}) (g:=gh) rfl hw (t:=gh.t g.Who) (c:=0) (l:=gh.D g.Who);rw [f1,f2,eh,show xn (zcC s.P {g with D:=(yV s.M g.D).2})=[g.Obj] from uh h0 (by show (3:Int)<=5;decide) (by show (5:Int)<=7;decide)];exact zBY _
  .rw [r1,zb rfl];have e1:wi {g with D:=(yV s.M g.D).2,Out:=1}=[]:=vA (.inl (by show (1:Int)≠0;decide));refine ⟨WA gh g.Who (gh.t g.Who) (gh.D g.Who++[g.D.X]) 0,?_,?_,FX.own (O:=zr0 g) (s:=s) (s':={s with M:=(yV s.M g.D).1}) (g:=gh) hp hw a rfl ⟨c1,rfl⟩ zx6,fun _ _=>wZ.2.2,fun _ h=>.inl h,[],?_,.inl ⟨rfl,rfl⟩⟩
   .rw [e1];rw [eo] at X;exact X.dq hp S' (zfU _ _) hw a r2 (by rw [zBz,List.length_singleton];omega)
   .exact GX.plain (.inr rfl) hpc hmd hob (fun _ e=>by cases e) (.inl (by show (1:Int)≠0;decide))
   .obtain ⟨u,v,f1,f2⟩:=zl5 (p:=p) (s:=s) (s':={s with M:=(yV s.M g.D).1}) (g:=gh) rfl hw (t:=gh.t g.Who) (c:=0) (l:=gh.D g.Who++[g.D.X]);rw [f1,f2,eh,show xn {g with D:=(yV s.M g.D).2,Out:=1}=[] from Zy (.inl (by show (1:Int)≠0;decide)),c2,zBo,zBy];simp only [zBu];refine zBA _ (zBA _ ?_);exact zB5
 rw [zd p3];by_cases p2:g.PC=2
 .rw [zb p2];intro S';refine .quiet X S' rfl rfl rfl ?_ ?_ G.c0 (GX.plain (.inr rfl) hpc hmd hob (fun _ e=>by cases e) (.inl (by show (1:Int)≠0;decide)))
  .rw [eo];exact vA (.inl (by show (1:Int)≠0;decide))
  .rw [Zy (g:=g) (.inr (.inl (by omega)))];exact Zy (.inl (by show (1:Int)≠0;decide))
 rw [zd p2];by_cases p1:g.PC=1
 .rw [zb p1];have eh:xn g=[]:=Zy (.inr (.inl (by omega)));intro S';unfold zeI;unfold zeI at S';dsimp only at S' ⊢;by_cases hs:(vT s.T g.Obj).2=false
  .have eT:(vT s.T g.Obj).1=s.T:=by
    unfold vT at hs ⊢;split at hs
    .rename_i h1;rw [zb h1]
    .rename_i h1;split at hs
     .cases hs
     .rename_i h2;rw [zd h1,zd h2]
   rw [zb hs];refine .quiet X S' rfl rfl eT ?_ ?_ G.c0 (GX.plain (.inl h0) ⟨by show (0:Int)<=2;decide,by show (2:Int)<=7;decide⟩ hmd hob G.c0 (.inr ⟨by show (2:Int)≠3;decide,by show (2:Int)≠5;decide,by show (2:Int)≠7;decide⟩))
   .rw [eo];exact vA (.inr ⟨by show (2:Int)≠6;decide,by show (2:Int)≠7;decide⟩)
   .rw [eh];exact Zy (.inr (.inl (by show (2:Int)<3;decide)))
  .have eT: ¬(s.T.Marks|||bit g.Obj=s.T.Marks)/\(vT s.T g.Obj).1={s.T with Marks:=s.T.Marks|||bit g.Obj}:=by
    unfold vT at hs ⊢;split at hs
    .exact zk rfl hs
    .rename_i h1;split at hs
     .rename_i h2;exact ⟨h1,by rw [zd h1,zb h2]⟩
     .exact zk rfl hs
   rw [zd hs];have fin:∀g':zH,wi g'=[]->xn g'=[g.Obj]->GX p {s with T:=(vT s.T g.Obj).1} gh g'->zms p nb k R gh s g {s with T:=(vT s.T g.Obj).1} g':=fun g' a b c =>
    ⟨gh,by rw [a,<-eo];exact X.quiet S' rfl,c,FX.quiet rfl (fun _ _ _=>rfl),fun h _=>hc0 h,fun _ h=>.inl h,[g.Obj],by rw [Zc rfl,b,eh,zBo];exact zB5,.inr ⟨rfl,eT.1,eT.2⟩⟩
   by_cases q1:g.Mode=1
   .rw [zb q1];have hw:=M.who q1;refine fin _ (vA (.inr ⟨by show (3:Int)≠6;decide,by show (3:Int)≠7;decide⟩)) (uh h0 (by show (3:Int)<=3;decide) (by show (3:Int)<=7;decide))
     ⟨.inl h0,⟨by show (0:Int)<=3;decide,by show (3:Int)<=7;decide⟩,hmd,hob,G.c0,fun e=>zk e (by show ¬(3:Int)=5;decide),fun e=>zk e (by show ¬(3:Int)=7;decide),fun _ _=>⟨q1,rfl,⟨rfl,by rw [hP],by rw [hP],rfl,hc0 q1,⟨by show (0:Int)<=0;decide,by show (0:Int)<=3;decide⟩,fun e=>zk e (by show ¬(1:Int)<=0;decide),fun e=>zk e (by show ¬(2:Int)<=0;decide),fun e=>zk e (by show ¬(3:Int)<=0;decide)⟩⟩⟩
   rw [zd q1];by_cases q2:g.Mode=2
   .rw [zb q2];exact fin _ (vA (.inr ⟨by show (4:Int)≠6;decide,by show (4:Int)≠7;decide⟩)) (uh h0 (by show (3:Int)<=4;decide) (by show (4:Int)<=7;decide))
     (GX.plain (.inl h0) ⟨by show (0:Int)<=4;decide,by show (4:Int)<=7;decide⟩ hmd hob G.c0 (.inr ⟨by show (4:Int)≠3;decide,by show (4:Int)≠5;decide,by show (4:Int)≠7;decide⟩))
   .rw [zd q2];exact fin _ (vA (.inr ⟨by show (5:Int)≠6;decide,by show (5:Int)≠7;decide⟩)) (uh h0 (by show (3:Int)<=5;decide) (by show (5:Int)<=7;decide)) (GX.ask h0 hmd hob hc0 _)
 .rw [zd p1];intro S';refine .quiet X S' rfl rfl rfl ?_ ?_ G.c0 (GX.plain (.inl h0) ⟨by show (0:Int)<=1;decide,by show (1:Int)<=7;decide⟩ hmd hob G.c0 (.inr ⟨by show (1:Int)≠3;decide,by show (1:Int)≠5;decide,by show (1:Int)≠7;decide⟩))
  .rw [eo];exact vA (.inr ⟨by show (1:Int)≠6;decide,by show (1:Int)≠7;decide⟩)
  .rw [Zy (g:=g) (.inr (.inl (by omega)))];exact Zy (.inr (.inl (by show (1:Int)<3;decide)))
def wj (x:zh):List Int:=if x.PC=3\/x.PC=4 then [x.Bin] else if x.PC=6 then wi x.G else []
def W7 (s:za) (x:zh):List Int:=if x.PC=0 then Yk s.M x.D else if x.PC=3 then xt s x.Bin else if x.PC=5\/x.PC=8 then [x.Obj] else if x.PC=6 then x.Obj::xn x.G else []
def zY (s:za) (x:zh):List Int:=x.Batch++W7 s x
structure WX (p:zc) (s:za) (gh:Gh) (w:Int) (x:zh):Prop where
 c0:x.PC≠0->gh.c w=0
 bt:x.PC<=3->x.Batch=[]
 p0:x.PC=0->PK p s.M w (gh.t w) (gh.D w) (gh.c w) x.D
 p1:x.PC=1->TK p s.M x.Victim (gh.t x.Victim) (gh.D x.Victim) x.D
 p2:x.PC=2->x.C.Out=0/\(0<=x.C.PC/\x.C.PC<=2)/\CK p s.M x.C
 p4:x.PC=4->x.C.Out=0/\(0<=x.C.PC/\x.C.PC<=2)/\x.C.X=x.Bin/\CK p s.M x.C
 p6:x.PC=6->GX p s gh x.G/\x.G.Mode=1/\x.G.Who=w/\x.G.Out=0
theorem WX.plain {p:zc}{s:za}{gh:Gh}{w:Int}{x:zh}(h:x.PC=5\/x.PC=7\/x.PC=8\/x.PC=9) (c:gh.c w=0):WX p s gh w x :=
 ⟨fun _=>c,fun e=>by omega,fun e=>by omega,fun e=>by omega,fun e=>by omega,fun e=>by omega,fun e=>by omega⟩
theorem CK.start {p:zc}{m:List (BitVec 64)}{k h x:Int}:CK p m ⟨k,0,h,zO p,0#64,x,0,0⟩ :=
 ⟨fun e=>zk e (by show ¬(1:Int)<=0;decide),fun e=>zk e (by show ¬(0:Int)=2;decide),fun e=>zk e (by show ¬(0:Int)=2;decide)⟩
theorem WX.begin {p:zc}{s:za}{gh:Gh}{w:Int}{x:zh}(c:gh.c w=0) (hb:x.Batch=[]):WX p s gh w (Z5 p w x):=by
 refine ⟨fun e=>zk rfl e,fun _=>hb,fun _=>⟨rfl,rfl,rfl,rfl,⟨by show (0:Int)<=0;decide,by show (0:Int)<=6;decide⟩,fun _=>c,?_,?_,?_,?_,?_,?_,?_,?_⟩,fun e=>(by cases e),fun e=>(by cases e),fun e=>(by cases e),fun e=>(by cases e)⟩
 all_goals (intro e;first | (exact zk e (by show ¬((0:Int)=2\/(4:Int)<=0);decide)) | (exact zk e (by show ¬(0:Int)=3;decide)) | (exact zk e (by show ¬(0:Int)=4;decide)) | (exact zk e (by show ¬((0:Int)=3\/(0:Int)=4);decide)) | (exact zk e (by show ¬(5:Int)<=0;decide)) | skip)
 rcases e with e | e | e | e
 .exact zk e (by show ¬(0:Int)=1;decide)
 .exact zk e (by show ¬(0:Int)=2;decide)
 .exact zk e (by show ¬(4:Int)<=0;decide)
 .exact zk e.1 (by show ¬(0:Int)=3;decide)
theorem zgc {p:zc}{s:za}{w:Int}{x:zh}:W7 s (Z5 p w x)=[]:=by
 unfold W7;rw [zb (show (Z5 p w x).PC=0 from rfl)];exact ue (.inl (by show (0:Int)≠3;decide)) (by show (0:Int)≠6;decide)
theorem WX.look {p:zc}{s:za}{gh:Gh}{w:Int}{x:zh}(c:gh.c w=0) (hb:x.Batch=[]):WX p s gh w (vh p w x)/\W7 s (vh p w x)=[]/\wj (vh p w x)=[]:=by
 unfold vh;split
 .refine ⟨⟨fun _=>c,fun _=>hb,fun e=>(by cases e),fun e=>(by cases e),fun _=>⟨rfl,⟨by show (0:Int)<=0;decide,by show (0:Int)<=2;decide⟩,CK.start⟩,fun e=>(by cases e),fun e=>(by cases e)⟩,?_,?_⟩
  .unfold W7;rw [zd (by show ¬(2:Int)=0;decide),zd (by show ¬(2:Int)=3;decide),zd (by show ¬((2:Int)=5\/(2:Int)=8);decide),zd (by show ¬(2:Int)=6;decide)]
  .unfold wj;rw [zd (by show ¬((2:Int)=3\/(2:Int)=4);decide),zd (by show ¬(2:Int)=6;decide)]
 .refine ⟨⟨fun _=>c,fun _=>hb,fun e=>(by cases e),fun _=>⟨rfl,rfl,rfl,rfl,⟨by show (0:Int)<=0;decide,by show (0:Int)<=3;decide⟩,fun e=>zk e (by show ¬(1:Int)<=0;decide),fun e=>zk e (by show ¬(2:Int)<=0;decide),fun e=>zk e (by show ¬(0:Int)=3;decide)⟩,fun e=>(by cases e),fun e=>(by cases e),fun e=>(by cases e)⟩,?_,?_⟩
  .unfold W7;rw [zd (by show ¬(1:Int)=0;decide),zd (by show ¬(1:Int)=3;decide),zd (by show ¬((1:Int)=5\/(1:Int)=8);decide),zd (by show ¬(1:Int)=6;decide)]
  .unfold wj;rw [zd (by show ¬((1:Int)=3\/(1:Int)=4);decide),zd (by show ¬(1:Int)=6;decide)]
theorem WX.other {p:zc}(hp:zB p) {nb k:Nat}{s s':za}{gh gh':Gh}{X R:List Int}{O:Int->Prop}{w:Int}{x:zh}(hw:1<=w/\w<=p.Workers) (Y:SX p nb s gh (X++R) k) (Fx:FX p nb X O s s' gh gh') (K:WX p s gh w x) (W:WOk p nb w x)
  (hR:∀b∈wj x,b∈R) (apart: ¬O w):WX p s' gh' w x/\zY s' x=zY s x:=by
 have hsub:∀b∈X,b∈X++R:=fun b hb=>zBH _ hb;have hnd:=(zCe.1 Y.L.nodup).2.1;have hnot:∀b,b∈wj x->b∉X:=fun b hb hg=>(zCe.1 hnd).2.2 b hg b (hR b hb) rfl;have hc:gh'.c w=gh.c w:=by
  rcases Fx.dq w hw.1 hw.2 with h | h
  .cases h with
   | same e1 e2 e3 e4=>exact e3
   | stolen y e1 e2 e3 e4=>exact e3
  .exact zk h.1 apart
 have hcell:∀a,zZ p w<a->a<zZ p w+p.Cap+2->ld s'.M a=ld s.M a:=by
  rcases Fx.dq w hw.1 hw.2 with h | h
  .cases h with
   | same e1 e2 e3 e4=>exact fun a h1 h2=>e4 a (by omega) h2
   | stolen y e1 e2 e3 e4=>exact e4
  .exact zk h.1 apart
 refine ⟨⟨fun e=>hc.trans (K.c0 e),K.bt,fun e=>Fx.pk hp hw.1 hw.2 apart (K.p0 e),fun e=>Fx.tk W.vic.1 W.vic.2 (K.p1 e),fun e=>?_,fun e=>?_,fun e=>?_⟩,?_⟩
 .obtain ⟨a,b,c⟩:=K.p2 e;have C:=W.c2 e;exact ⟨a,b,c.mv Y.L Fx.mv hsub (.inl C.h) (fun h _=>C.v h) (fun e2=>by have:=C.k;omega)⟩
 .obtain ⟨a,b,c,d⟩:=K.p4 e;have C:=W.c4 e;have hno:=hnot x.Bin (by unfold wj;rw [zb (.inr e)];simp);exact ⟨a,b,c,d.mv Y.L Fx.mv hsub (.inr C.h) (fun _ e2=>by have:=C.k;omega) (fun _=>⟨C.x.1,C.x.2,by rw [c];exact hno⟩)⟩
 .obtain ⟨a,b,c,d⟩:=K.p6 e;have M:=(W.g6 e).1;refine ⟨a.other hp Y Fx M (fun y hy=>hR y ?_) (fun _=>by rw [c];exact apart),b,c,d⟩;unfold wj;rw [ze,zb e];exact hy
 .unfold zY W7;congr 1;by_cases e0:x.PC=0
  .rw [zb e0,zb e0];have P:=K.p0 e0;unfold Yk;have hpl:=(zno hp hw.1 hw.2 P.base P.size (x.D.B-1#64)).2;rw [hcell _ (by rw [P.base] at hpl;omega) (by rw [P.base] at hpl;omega)]
  .rw [zd e0,zd e0];by_cases e3:x.PC=3
   .rw [zb e3,zb e3];have hb:=W.b3 e3;have hno:=hnot x.Bin (by unfold wj;rw [zb (.inl e3)];simp);unfold xt;rw [Fx.bn x.Bin hb.1 hno]
   .rw [zd e3,zd e3]
theorem zku (s:za) (b:Int):Xy s b=xt s b:=by unfold Xy xt;rw [zBp]
theorem FX.mono {p:zc}{nb:Nat}{X:List Int}{O O':Int->Prop}{s s':za}{g g':Gh}(h:FX p nb X O s s' g g') (i:∀v,O v->O' v):FX p nb X O' s s' g g' :=
 ⟨h.mv,h.bn,fun v a b=>(h.dq v a b).imp id (fun e=>⟨i v e.1,e.2⟩),h.fb⟩
theorem uv {x:zh}(h3:x.PC≠3) (h4:x.PC≠4) (h6:x.PC≠6):wj x=[]:=by unfold wj;rw [ze,zd h6]
theorem zbO {x:zh}(h:x.PC=3\/x.PC=4):wj x=[x.Bin]:=by unfold wj;rw [zb h]
theorem zoG {x:zh}(h:x.PC=6):wj x=wi x.G:=by unfold wj;rw [ze,zb h]
theorem zsA {s:za}{x:zh}(h:x.PC=0):W7 s x=Yk s.M x.D:=by unfold W7;rw [zb h]
theorem ztD {s:za}{x:zh}(h:x.PC=3):W7 s x=xt s x.Bin:=by unfold W7;rw [ze,zb h]
theorem XW {s:za}{x:zh}(h:x.PC=5\/x.PC=8):W7 s x=[x.Obj]:=by unfold W7;rw [ze,ze,zb h]
theorem zoQ {s:za}{x:zh}(h:x.PC=6):W7 s x=x.Obj::xn x.G:=by unfold W7;rw [ze,ze,ze,zb h]
theorem uQ {s:za}{x:zh}(h:x.PC=1\/x.PC=2\/x.PC=4\/x.PC=7\/x.PC=9):W7 s x=[]:=by unfold W7;rw [ze,ze,ze,ze]
def zgR (p:zc) (nb k:Nat) (R:List Int) (gh:Gh) (s:za) (w:Int) (x:zh) (s':za) (x':zh):Prop :=
 ∃gh',SX p nb s' gh' (wj x'++R) (k+1)/\WX p s' gh' w x'/\FX p nb (wj x) (fun v=>v=w) s s' gh gh' /\
  ∃N B,zC6 (yK p s' gh'++zY s' x'++B) (N++(yK p s gh++zY s x)) /\
   ((N=[]/\B=[]/\s'.T=s.T)\/(N=[x.G.Obj]/\B=[]/\x.PC=6/\¬(s.T.Marks|||bit x.G.Obj=s.T.Marks)/\s'.T={s.T with Marks:=s.T.Marks|||bit x.G.Obj})\/(N=[]/\B=[x.Obj]/\x.PC=8/\s'.T=xP s.T x.Obj))
theorem zgR.quiet {p:zc}{nb k:Nat}{R:List Int}{gh:Gh}{s s':za}{w:Int}{x x':zh}(X:SX p nb s gh (wj x++R) k) (S':SOk p nb s') (hm:s'.M=s.M) (hb:s'.Bins=s.Bins) (hT:s'.T=s.T)
  (ho:wj x'=wj x) (hh:zC6 (zY s' x') (zY s x)) (W':WX p s' gh w x'):zgR p nb k R gh s w x s' x' :=
 ⟨gh,by rw [ho];exact X.quiet S' hm,W',FX.quiet hm (fun _ _ _=>by rw [hb]),[],[],by rw [Zc hb,zBo];exact zBA _ hh,.inl ⟨rfl,rfl,hT⟩⟩
theorem zzb {p:zc}(hp:zB p) {nb k:Nat}{R:List Int}{gh:Gh}{s:za}{w:Int}{x:zh}(hk:k<4294960000) (hw:1<=w/\w<=p.Workers) (X:SX p nb s gh (wj x++R) k) (W:WOk p nb w x) (K:WX p s gh w x)
  (hH:∀o i,0<=zU s.H o i/\zU s.H o i<=64):zgR p nb k R gh s w x (zi s w x).1 (zi s w x).2:=by
 have S':=(zuD hp hw X.S W).1;have hP:=X.S.P;have eL:∀y,vh s.P w y=vh p w y:=fun y=>by rw [hP]
 have eB:∀y,Z5 s.P w y=Z5 p w y:=fun y=>by rw [hP]
 have eC:Wf s.P (zO s.P) x.Bin=Wf p (zO p) x.Bin:=by rw [hP]
 have hpc:=W.pc;have hlen:=X.L.len;have hE:=xB hp;revert S';unfold zi;by_cases p01:x.PC=0\/x.PC=1
 .rw [zb p01];intro S';have S':SOk p nb {s with M:=(zT s.M x.D).1}:=S';have hl:=(ziz s.M x.D).1;have eo:wj x=[]:=uv (by omega) (by omega) (by omega);have hbt:=K.bt (by omega);rw [eo] at X;dsimp only;by_cases p0:x.PC=0
  .have K0:=K.p0 p0;have D0:=X.D w hw.1 hw.2;have hdk:=X.dk w hw.1 hw.2;obtain ⟨t',l',c',D',hm,V,hle,r⟩:=zcy hp hw (by omega) D0 K0;have hc:=hp.cap;have hm':∀a,(a<zZ p w\/zZ p w+p.Cap+2<=a)->ld (zT s.M x.D).1 a=ld s.M a:=fun a ha=>hm a (by omega) (by omega);have X':=X.dq hp S' hl hw hm' D' (by omega);have Fx:FX p nb (wj x) (fun v=>v=w) s {s with M:=(zT s.M x.D).1} gh (WA gh w t' l' c'):=FX.own (O:=fun v=>v=w) (s:=s) (s':={s with M:=(zT s.M x.D).1}) (g:=gh) hp hw hm' rfl rfl V;obtain ⟨u,v,f1,f2⟩:=zl5 (p:=p) (s:=s) (s':={s with M:=(zT s.M x.D).1}) (g:=gh) rfl hw (t:=t') (c:=c') (l:=l');have fin:∀x':zh,wj x'=[]->WX p {s with M:=(zT s.M x.D).1} (WA gh w t' l' c') w x'->zC6 (l'++zY {s with M:=(zT s.M x.D).1} x') (gh.D w++zY s x)->zgR p nb k R gh s w x {s with M:=(zT s.M x.D).1} x':=by
    intro x' a b c;refine ⟨_,by rw [a];exact X',b,Fx,[],[],?_,.inl ⟨rfl,rfl,rfl⟩⟩;rw [f1,f2,zBo,zBy];simp only [zBu];refine zBA _ ?_;refine (zBO l' v _).trans (List.Perm.trans ?_ (zBO v (gh.D w) _));exact zBA _ c
   have hh:zY s x=Yk s.M x.D:=by unfold zY;rw [hbt,zsA p0,zBy]
   rw [hh] at fin;rcases r with ⟨r1,r2,r3⟩ | ⟨r1,r2,r3⟩ | ⟨r1,r2,r3,r4,r5⟩
   .rw [r1,zd (by decide),zd (by decide)];refine fin _ (uv (by show x.PC≠3;omega) (by show x.PC≠4;omega) (by show x.PC≠6;omega)) ⟨fun e=>zk p0 e,fun _=>hbt,fun _=>?_,fun e=>by have e:x.PC=1:=e;omega,fun e=>by have e:x.PC=2:=e;omega,fun e=>by have e:x.PC=4:=e;omega,fun e=>by have e:x.PC=6:=e;omega⟩ ?_
    .rw [wZ.1,wZ.2.1,wZ.2.2];exact r2
    .unfold zY;rw [zsA (x:={x with D:=(zT s.M x.D).2}) p0];show zC6 (l'++(x.Batch++Yk (zT s.M x.D).1 (zT s.M x.D).2)) _;rw [hbt,zBy];exact r3
   .rw [r1,zb rfl];refine fin _ (uv (by show (5:Int)≠3;decide) (by show (5:Int)≠4;decide) (by show (5:Int)≠6;decide)) (WX.plain (.inl rfl) (by rw [wZ.2.2];exact r2)) ?_;unfold zY;rw [XW (.inl rfl)];show zC6 (l'++(x.Batch++[(zT s.M x.D).2.X])) _;rw [hbt,zBy];exact r3
   .rw [r1,zd (by decide),zb (.inl rfl),eL];obtain ⟨a,b,c⟩:=WX.look (p:=p) (s:={s with M:=(zT s.M x.D).1}) (gh:=WA gh w t' l' c') (w:=w) (x:={x with D:=(zT s.M x.D).2}) (by rw [wZ.2.2];exact r2) hbt;refine fin _ c a ?_;unfold zY;rw [b,r3,r4,r5,show (vh p w {x with D:=(zT s.M x.D).2}).Batch=x.Batch by unfold vh;split<;>rfl,hbt];exact zBY _
  .have p1:x.PC=1:=by omega
   have K1:=K.p1 p1;have hv:=W.vic;have hc0:=K.c0 p0;have D0:=X.D x.Victim hv.1 hv.2;have hdk:=X.dk x.Victim hv.1 hv.2;have hh:zY s x=[]:=by unfold zY;rw [hbt,uQ (.inl p1)];rfl
   rcases zkf hp hv (by omega) D0 K1 with ⟨hm,r⟩ | ⟨y,l',e1,e2,e3,e4,e5⟩
   .have S2:=S';have q:∀x':zh,wj x'=[]->zY {s with M:=(zT s.M x.D).1} x'=[]->WX p {s with M:=(zT s.M x.D).1} gh w x'->zgR p nb k R gh s w x {s with M:=(zT s.M x.D).1} x' :=
     fun x' a b c=>.quiet (by rw [eo];exact X) S' hm rfl rfl (by rw [a,eo]) (by rw [b,hh]) c
    rcases r with ⟨r1,r2⟩ | r
    .rw [r1,zd (by decide),zd (by decide)];refine q _ (uv (by show x.PC≠3;omega) (by show x.PC≠4;omega) (by show x.PC≠6;omega)) ?_ ⟨fun _=>hc0,fun _=>hbt,fun e=>zk e p0,fun _=>?_,fun e=>by have e:x.PC=2:=e;omega,fun e=>by have e:x.PC=4:=e;omega,fun e=>by have e:x.PC=6:=e;omega⟩
     .unfold zY;rw [uQ (x:={x with D:=(zT s.M x.D).2}) (.inl p1)];show x.Batch++[]=[]
      rw [hbt];rfl
     .show TK p (zT s.M x.D).1 _ _ _ _;rw [hm];exact r2
    .rw [ze,zb r,eL];obtain ⟨a,b,c⟩:=WX.look (p:=p) (s:={s with M:=(zT s.M x.D).1}) (gh:=gh) (w:=w) (x:={x with D:=(zT s.M x.D).2}) hc0 hbt;refine q _ c ?_ a;unfold zY;rw [b,show (vh p w {x with D:=(zT s.M x.D).2}).Batch=x.Batch by unfold vh;split<;>rfl,hbt];rfl
   .have hc:=hp.cap;have hm':∀a,(a<zZ p x.Victim\/zZ p x.Victim+p.Cap+2<=a)->ld (zT s.M x.D).1 a=ld s.M a:=fun a ha=>e5 a (by omega);have X':=X.dq hp S' hl hv hm' e4 (by rw [e1] at hdk;simp at hdk;omega);obtain ⟨h1,h2⟩:=zpM hp hv hm';obtain ⟨u,v,f1,f2⟩:=zl5 (p:=p) (s:=s) (s':={s with M:=(zT s.M x.D).1}) (g:=gh) rfl hv (t:=gh.t x.Victim+1) (c:=gh.c x.Victim) (l:=l');rw [e2,zb rfl];refine ⟨WA gh x.Victim (gh.t x.Victim+1) l' (gh.c x.Victim),by rw [uv (by show (5:Int)≠3;decide) (by show (5:Int)≠4;decide) (by show (5:Int)≠6;decide)];exact X',WX.plain (.inl rfl) ?_,⟨Mv.low hp h1,fun _ _ _=>rfl,fun v' a b=>.inl ?_,fun _ h=>.inl h⟩,[],[],?_,.inl ⟨rfl,rfl,rfl⟩⟩
    .by_cases e:w=x.Victim
     .rw [e,wZ.2.2,<-e];exact hc0
     .rw [(YJ e).2.2];exact hc0
    .by_cases e:v'=x.Victim
     .subst e;exact .stolen y wZ.2.1 (by rw [wZ.1];exact e1) wZ.2.2 (fun a h1 _=>e5 a (by omega))
     .exact .same (YJ e).2.1 (YJ e).1 (YJ e).2.2 (h2 v' a b e)
    .rw [f1,f2,hh,zBo,zBo,zBy,e1];unfold zY;rw [XW (.inl rfl)];show zC6 (u++l'++v++(x.Batch++[(zT s.M x.D).2.X])) _;rw [hbt,zBy,e3];simp only [zBu];refine zBA _ ?_;show zC6 (l'++(v++[y])) (y::(l'++v));rw [<-zBu];exact zB5
 rw [zd p01];have hc0:=K.c0 (by omega);by_cases p2:x.PC=2
 .rw [zb p2];intro S';have S':SOk p nb {s with M:=(zo s.M x.C).1}:=S';have C:=W.c2 p2;obtain ⟨c1,c2,c3⟩:=K.p2 p2;have hbt:=K.bt (by omega);have eo:wj x=[]:=uv (by omega) (by omega) (by omega);have hh:zY s x=[]:=by unfold zY;rw [hbt,uQ (.inr (.inl p2))];rfl
  dsimp only;rcases SX.popF hp X hk C.k C.h C.n c1 c2 c3 C.v S' with ⟨a,b,c,d⟩ | ⟨y,l,a,b,c,d,e⟩
  .rw [zd b];have hout:=WN s.M c1 c2 (.inr C.k);by_cases o2:(zo s.M x.C).2.Out=2
   .rw [zb o2,eB];refine .quiet X S' a rfl rfl ?_ ?_ (WX.begin hc0 hbt)
    .rw [eo];exact uv (by show (0:Int)≠3;decide) (by show (0:Int)≠4;decide) (by show (0:Int)≠6;decide)
    .unfold zY;rw [zgc,show (Z5 p w {x with C:=(zo s.M x.C).2}).Batch=x.Batch from rfl];rw [hbt,uQ (.inr (.inl p2))]
   .rw [zd o2];have hpc':(zo s.M x.C).2.Out=0/\0<=(zo s.M x.C).2.PC/\(zo s.M x.C).2.PC<=2:=by omega
    refine .quiet X S' a rfl rfl ?_ ?_ ⟨fun _=>hc0,fun _=>hbt,fun e=>by have e:x.PC=0:=e;omega,fun e=>by have e:x.PC=1:=e;omega,fun _=>⟨hpc'.1,hpc'.2,?_⟩,fun e=>by have e:x.PC=4:=e;omega,fun e=>by have e:x.PC=6:=e;omega⟩
    .rw [eo];exact uv (by show x.PC≠3;omega) (by show x.PC≠4;omega) (by show x.PC≠6;omega)
    .unfold zY;rw [uQ (x:={x with C:=(zo s.M x.C).2}) (.inr (.inl p2)),uQ (.inr (.inl p2))]
    .rw [show ({s with M:=(zo s.M x.C).1}:za).M=s.M from a];exact c
  .rw [zb b];have e1:wj {x with C:=(zo s.M x.C).2,Bin:=(zo s.M x.C).2.X,PC:=3}=[y]:=by rw [<-c];exact zbO (x:={x with C:=(zo s.M x.C).2,Bin:=(zo s.M x.C).2.X,PC:=3}) (.inl rfl)
   refine ⟨{gh with F:=l},by rw [e1];rw [eo] at d;exact d,⟨fun _=>hc0,fun _=>hbt,fun e=>(by cases e),fun e=>(by cases e),fun e=>(by cases e),fun e=>(by cases e),fun e=>(by cases e)⟩,e _ _,[],[],?_,.inl ⟨rfl,rfl,rfl⟩⟩;rw [hh,zBo,zBo,zBy];unfold zY;rw [ztD (x:={x with C:=(zo s.M x.C).2,Bin:=(zo s.M x.C).2.X,PC:=3}) rfl];show zC6 (yK p s {gh with F:=l}++(x.Batch++xt s (zo s.M x.C).2.X)) _;rw [hbt,zBy,c];have:yK p s gh=xt s y++yK p s {gh with F:=l}:=by unfold yK;rw [a];simp [zBu]
   rw [this];exact zB5
 rw [zd p2];by_cases p3:x.PC=3
 .rw [zb p3];intro S';have hb:=W.b3 p3;have hbt:=K.bt (by omega);have eo:wj x=[x.Bin]:=zbO (.inl p3);rw [eC];have e1:wj {x with Batch:=Xy s x.Bin,PC:=4,C:=Wf p (zO p) x.Bin}=[x.Bin]:=zbO (x:={x with Batch:=Xy s x.Bin,PC:=4,C:=Wf p (zO p) x.Bin}) (.inr rfl);have hget:∀b,1<=b->b∉wj x->(s.Bins.set x.Bin.toNat [])[b.toNat]? =s.Bins[b.toNat]? :=fun b b1 b2=>by
   rw [zBI];intro e;rw [eo] at b2;exact b2 (by rw [show b=x.Bin by omega];simp)
  refine ⟨gh,by rw [e1,<-eo];exact X.quiet S' rfl,⟨fun _=>hc0,fun e=>zk e (by show ¬(4:Int)<=3;decide),fun e=>(by cases e),fun e=>(by cases e),fun e=>(by cases e),fun _=>⟨rfl,⟨by show (0:Int)<=0;decide,by show (0:Int)<=2;decide⟩,rfl,CK.start⟩,fun e=>(by cases e)⟩,FX.quiet rfl hget,[],[],?_,.inl ⟨rfl,rfl,rfl⟩⟩;have hbag:yK p {s with Bins:=s.Bins.set x.Bin.toNat []} gh=yK p s gh:=by
   unfold yK;congr 1;refine wq (fun b hb=>?_);have hm:=X.L.cF.mem b hb;have hno:=(X.L.notF (x:=x.Bin) (by rw [eo];simp)).1;unfold xt;rw [show ({s with Bins:=s.Bins.set x.Bin.toNat []}:za).Bins=s.Bins.set x.Bin.toNat [] from rfl,hget b hm.1 (by rw [eo];intro e;rw [zCb.1 e] at hb;exact hno hb)]
  rw [hbag,zBo,zBy];unfold zY;rw [ztD p3,uQ (x:={x with Batch:=Xy s x.Bin,PC:=4,C:=Wf p (zO p) x.Bin}) (.inr (.inr (.inl rfl)))];show zC6 (yK p s gh++(Xy s x.Bin++[])) _;rw [hbt,zBo,zBy,zku]
 rw [zd p3];by_cases p4:x.PC=4
 .rw [zb p4];intro S';have S':SOk p nb {s with M:=(zo s.M x.C).1}:=S';have C:=W.c4 p4;obtain ⟨c1,c2,c3,c4⟩:=K.p4 p4;have eo:wj x=[x.Bin]:=zbO (.inr p4);have hh:zY s x=x.Batch:=by unfold zY;rw [uQ (.inr (.inr (.inl p4))),zBo]
  rw [eo] at X;dsimp only;rcases SX.pushE hp (o1:=[]) (o2:=R) (b:=x.Bin) X hk C.k C.h C.n c3 c1 c2 c4 C.v S' with ⟨a,b,c,d⟩ | ⟨a,b,d⟩
  .rw [a,zd (by decide)];have hout:=WN s.M c1 c2 (.inl C.k);have hsame:=ziK s.M x.C;have hpc':0<=(zo s.M x.C).2.PC/\(zo s.M x.C).2.PC<=2:=by omega
   have e1:wj {x with C:=(zo s.M x.C).2}=[x.Bin]:=zbO (x:={x with C:=(zo s.M x.C).2}) (.inr p4);refine ⟨gh,by rw [e1];exact b,⟨fun _=>hc0,fun e=>by have e:x.PC<=3:=e;omega,fun e=>by have e:x.PC=0:=e;omega,fun e=>by have e:x.PC=1:=e;omega,fun e=>by have e:x.PC=2:=e;omega,fun _=>⟨a,hpc',(hsame.2.2.2 C.k).trans c3,c⟩,fun e=>by have e:x.PC=6:=e;omega⟩,by rw [eo];exact d _ _ (by simp),[],[],?_,.inl ⟨rfl,rfl,rfl⟩⟩;rw [Zc rfl,hh,zBo];unfold zY;rw [uQ (x:={x with C:=(zo s.M x.C).2}) (.inr (.inr (.inl p4))),zBo];exact zBY _
  .rw [a,zb rfl];refine ⟨{gh with E:=x.Bin::gh.E},by rw [uv (by show (7:Int)≠3;decide) (by show (7:Int)≠4;decide) (by show (7:Int)≠6;decide)];exact b,WX.plain (.inr (.inl rfl)) hc0,by rw [eo];exact d _ _,[],[],?_,.inl ⟨rfl,rfl,rfl⟩⟩;rw [hh,zBo];unfold zY;rw [uQ (.inr (.inr (.inr (.inl rfl)))),zBo];exact zBY _
 rw [zd p4];by_cases p5:x.PC=5
 .rw [zb p5];intro S';have eo:wj x=[]:=uv (by omega) (by omega) (by omega);have hv:=hH x.Obj x.Slot;dsimp only;split
  .rcases zhz s (wc (x.Slot+1)) with e | e<;>rw [e]
   .refine .quiet X S' rfl rfl rfl (by rw [eo];exact uv (by show (5:Int)≠3;decide) (by show (5:Int)≠4;decide) (by show (5:Int)≠6;decide)) ?_ (WX.plain (.inl rfl) hc0);unfold zY;rw [XW (.inl p5),XW (.inl rfl)]
   .refine .quiet X S' rfl rfl rfl (by rw [eo];exact uv (by show (8:Int)≠3;decide) (by show (8:Int)≠4;decide) (by show (8:Int)≠6;decide)) ?_ (WX.plain (.inr (.inr (.inl rfl))) hc0);unfold zY;rw [XW (.inl p5),XW (.inr rfl)]
  .rename_i hne;have e0:(Zh 1 (zU s.H x.Obj x.Slot) w).PC=0:=rfl;refine .quiet X S' rfl rfl rfl ?_ ?_ ⟨fun _=>hc0,fun e=>zk e (by show ¬(6:Int)<=3;decide),fun e=>(by cases e),fun e=>(by cases e),fun e=>(by cases e),fun e=>(by cases e),fun _=>⟨GX.plain (.inl rfl) ⟨by show (0:Int)<=0;decide,by show (0:Int)<=7;decide⟩ ⟨by show (1:Int)<=1;decide,by show (1:Int)<=3;decide⟩ ⟨by show 1<=zU s.H x.Obj x.Slot;omega,hv.2⟩ (fun _ _=>hc0) (.inr ⟨by show (0:Int)≠3;decide,by show (0:Int)≠5;decide,by show (0:Int)≠7;decide⟩),rfl,rfl,rfl⟩⟩
   .rw [eo,zoG (x:={x with Slot:=wc (x.Slot+1),PC:=6,G:=Zh 1 (zU s.H x.Obj x.Slot) w}) rfl];exact vA (.inr ⟨by show (0:Int)≠6;decide,by show (0:Int)≠7;decide⟩)
   .unfold zY;rw [XW (.inl p5),zoQ (x:={x with Slot:=wc (x.Slot+1),PC:=6,G:=Zh 1 (zU s.H x.Obj x.Slot) w}) rfl];rw [Zy (g:=Zh 1 (zU s.H x.Obj x.Slot) w) (.inr (.inl (by show (0:Int)<3;decide)))]
 rw [zd p5];by_cases p6:x.PC=6
 .rw [zb p6];intro S';obtain ⟨G,gm,gw,g0⟩:=K.p6 p6;obtain ⟨M,h5o,_,hn4⟩:=W.g6 p6;have eo:wj x=wi x.G:=zoG p6;have hh:zY s x=x.Batch++x.Obj::xn x.G:=by unfold zY;rw [zoQ p6]
  rw [eo] at X;obtain ⟨gh',X',G',Fx,hc',hFb,N,hN,hT⟩:=zu9 hp hk X M h5o G;have so:=Ue s x.G;have Fx':FX p nb (wj x) (fun v=>v=w) s (zx s x.G).1 gh gh':=by
   rw [eo];exact Fx.mono (fun v e=>e.2.trans gw)
  have hcw:gh'.c w=0:=by have:=hc' gm g0;rwa [gw] at this
  dsimp only;have hT':(N=[]/\([]:List Int)=[]/\(zx s x.G).1.T=s.T)\/(N=[x.G.Obj]/\([]:List Int)=[]/\x.PC=6/\¬(s.T.Marks|||bit x.G.Obj=s.T.Marks)/\(zx s x.G).1.T={s.T with Marks:=s.T.Marks|||bit x.G.Obj})\/(N=[]/\([]:List Int)=[x.Obj]/\x.PC=8/\(zx s x.G).1.T=xP s.T x.Obj):=by
   rcases hT with ⟨a,b⟩ | ⟨a,b,c⟩
   .exact .inl ⟨a,rfl,b⟩
   .exact .inr (.inl ⟨a,rfl,p6,b,c⟩)
  have perm:∀H':List Int,H'=x.Batch++x.Obj::xn (zx s x.G).2->zC6 (yK p (zx s x.G).1 gh'++H'++[]) (N++(yK p s gh++zY s x)):=by
   intro H' e;rw [e,hh,zBo];have a1:zC6 (yK p (zx s x.G).1 gh'++(x.Batch++x.Obj::xn (zx s x.G).2)) ((x.Batch++[x.Obj])++(yK p (zx s x.G).1 gh'++xn (zx s x.G).2)):=by
    rw [show x.Batch++x.Obj::xn (zx s x.G).2=(x.Batch++[x.Obj])++xn (zx s x.G).2 by simp];exact zBO _ _ _
   have a2:zC6 (N++(yK p s gh++(x.Batch++x.Obj::xn x.G))) ((x.Batch++[x.Obj])++(N++(yK p s gh++xn x.G))):=by
    rw [show x.Batch++x.Obj::xn x.G=(x.Batch++[x.Obj])++xn x.G by simp];exact (zBA N (zBO _ _ _)).trans (zBO _ _ _)
   exact a1.trans ((zBA _ hN).trans a2.symm)
  split
  .rename_i o1;have n1:wi (zx s x.G).2=[]:=vA (.inl (by omega));have n2:xn (zx s x.G).2=[]:=Zy (.inl (by omega));rw [n1] at X';rcases zhz s x.Slot with e | e<;>rw [e]
   .refine ⟨gh',by rw [uv (by show (5:Int)≠3;decide) (by show (5:Int)≠4;decide) (by show (5:Int)≠6;decide)];exact X',WX.plain (.inl rfl) hcw,Fx',N,[],perm _ ?_,hT'⟩;unfold zY;rw [XW (.inl rfl),n2]
   .refine ⟨gh',by rw [uv (by show (8:Int)≠3;decide) (by show (8:Int)≠4;decide) (by show (8:Int)≠6;decide)];exact X',WX.plain (.inr (.inr (.inl rfl))) hcw,Fx',N,[],perm _ ?_,hT'⟩;unfold zY;rw [XW (.inr rfl),n2]
  .rename_i o1;have o0:(zx s x.G).2.Out=0:=by have:=G'.o;omega
   refine ⟨gh',by rw [zoG (x:={x with G:=(zx s x.G).2}) p6];exact X',⟨fun _=>hcw,fun e=>by have e:x.PC<=3:=e;omega,fun e=>by have e:x.PC=0:=e;omega,fun e=>by have e:x.PC=1:=e;omega,fun e=>by have e:x.PC=2:=e;omega,fun e=>by have e:x.PC=4:=e;omega,fun _=>⟨G',so.2.2.trans gm,so.2.1.trans gw,o0⟩⟩,Fx',N,[],perm _ ?_,hT'⟩;unfold zY;rw [zoQ (x:={x with G:=(zx s x.G).2}) p6]
 rw [zd p6];have eo:wj x=[]:=uv (by omega) (by omega) (by omega);by_cases p7:x.PC=7
 .rw [zb p7];intro S';dsimp only;split
  .rename_i hb;rw [eB];refine .quiet X S' rfl rfl rfl (by rw [eo];exact uv (by show (0:Int)≠3;decide) (by show (0:Int)≠4;decide) (by show (0:Int)≠6;decide)) ?_ (WX.begin hc0 hb);unfold zY;rw [zgc,uQ (.inr (.inr (.inr (.inl p7))))];exact zBY _
  .rename_i o l hb;refine .quiet X S' rfl rfl rfl (by rw [eo];exact uv (by show (5:Int)≠3;decide) (by show (5:Int)≠4;decide) (by show (5:Int)≠6;decide)) ?_ (WX.plain (.inl rfl) hc0);unfold zY;rw [XW (.inl rfl),uQ (.inr (.inr (.inr (.inl p7)))),hb,zBo];exact zB5
 rw [zd p7];by_cases p8:x.PC=8
 .rw [zb p8];intro S';refine ⟨gh,by rw [uv (by show (9:Int)≠3;decide) (by show (9:Int)≠4;decide) (by show (9:Int)≠6;decide)];rw [eo] at X;exact X.quiet S' rfl,WX.plain (.inr (.inr (.inr rfl))) hc0,FX.quiet rfl (fun _ _ _=>rfl),[],[x.Obj],?_,.inr (.inr ⟨rfl,rfl,p8,rfl⟩)⟩;rw [Zc rfl,zBy];unfold zY;rw [XW (.inr p8),uQ (.inr (.inr (.inr (.inr rfl)))),zBo,zBu];exact zBY _
 rw [zd p8];have p9:x.PC=9:=by omega
 rw [zb p9];intro S';refine .quiet X S' rfl rfl rfl (by rw [eo];exact uv (by show (7:Int)≠3;decide) (by show (7:Int)≠4;decide) (by show (7:Int)≠6;decide)) ?_ (WX.plain (.inr (.inl rfl)) hc0);unfold zY;rw [uQ (.inr (.inr (.inr (.inr p9)))),uQ (.inr (.inr (.inr (.inl rfl))))]
theorem zkl (s:za) (w:Int) (x:zh) (h:(zi s w x).2.PC=6):(x.PC=6/\(zi s w x).2.G.Obj=x.G.Obj)\/(x.PC=5/\(zi s w x).2.G.Obj=zU s.H x.Obj x.Slot):=by
 revert h;have hon:∀i,onW s i≠6:=fun i e=>by rcases zhz s i with h | h<;>omega
 have hlk:∀y:zh,(vh s.P w y).PC≠6:=fun y e=>by unfold vh at e;split at e<;>cases e
 unfold zi;split
 .rename_i h0;dsimp only;split
  .exact fun e=>by cases e
  split
  .exact fun e=>zk e (hlk _)
  .exact fun e=>by have e:x.PC=6:=e;omega
 split
 .dsimp only;split
  .exact fun e=>by cases e
  split
  .exact fun e=>by cases e
  .exact fun e=>by have e:x.PC=6:=e;omega
 split
 .exact fun e=>by cases e
 split
 .dsimp only;split
  .exact fun e=>by cases e
  .exact fun e=>by have e:x.PC=6:=e;omega
 split
 .rename_i h5;dsimp only;split
  .exact fun e=>zk e (hon _)
  .exact fun _=>.inr ⟨h5,rfl⟩
 split
 .rename_i h6;dsimp only;split
  .exact fun e=>zk e (hon _)
  .exact fun _=>.inl ⟨h6,(Ue s x.G).1⟩
 split
 .dsimp only;split
  .exact fun e=>by cases e
  .exact fun e=>by cases e
 split
 .exact fun e=>by cases e
 split
 .exact fun e=>by cases e
 .exact fun e=>.inl ⟨e,rfl⟩
theorem zp4 {o:Int}(h:1<=o/\o<=64) (j:Nat):(bit o).getLsbD j=decide ((o-1).toNat=j):=by
 unfold bit;rw [zb h,<-BitVec.twoPow_eq,BitVec.getLsbD_twoPow,yD (by omega:(o-1).toNat<64),zCu]
theorem wm (s:BitVec 64) (o:Int):zP s o=true↔1<=o/\o<=64/\s.getLsbD (o-1).toNat=true:=by
 unfold zP;rw [zBC,decide_eq_false_iff_not];by_cases h:1<=o/\o<=64
 .constructor
  .intro h1;refine ⟨h.1,h.2,Classical.byContradiction (fun h2=>h1 ?_)⟩;apply zCI;intro j hj;rw [zCw,zp4 h,zCJ];by_cases e:(o-1).toNat=j
   .rw [<-e];simp only [Bool.not_eq_true] at h2;rw [h2];rfl
   .rw [wb e,Bool.and_false]
  .rintro ⟨_,_,h1⟩ h2;have:=congrArg (fun v=>BitVec.getLsbD v (o-1).toNat) h2;simp only [zCw,zp4 h,h1,zCJ] at this;simp at this
 .constructor
  .intro h1;exact zk (by unfold bit;rw [zd h,BitVec.and_zero]) h1
  .rintro ⟨a,b,_⟩;exact zk ⟨a,b⟩ h
theorem wg (s:BitVec 64) {o:Int}(h:1<=o/\o<=64) (q:Int):zP (s|||bit o) q=true↔zP s q=true\/q=o:=by
 rw [wm,wm,BitVec.getLsbD_or,zp4 h];simp only [zCx,decide_eq_true_eq];constructor
 .rintro ⟨a,b,c | c⟩
  .exact .inl ⟨a,b,c⟩
  .exact .inr (by omega)
 .rintro (⟨a,b,c⟩ | rfl)
  .exact ⟨a,b,.inl c⟩
  .exact ⟨h.1,h.2,.inr rfl⟩
theorem Zp (s t:BitVec 64) (q:Int):zP (s&&&t) q=true↔zP s q=true/\zP t q=true:=by
 rw [wm,wm,wm,zCw];simp only [zBl];constructor
 .rintro ⟨a,b,c,d⟩;exact ⟨⟨a,b,c⟩,a,b,d⟩
 .rintro ⟨⟨a,b,c⟩,_,_,d⟩;exact ⟨a,b,c,d⟩
theorem XB (q:Int): ¬zP 0#64 q=true:=by
 rw [wm,zCJ];exact fun h=>by cases h.2.2
theorem zgs {s t:BitVec 64}(h:∀o,zP s o=true↔zP t o=true):s=t:=by
 apply zCI;intro j hj;have:=h ((j:Int)+1);rw [wm,wm,show ((j:Int)+1-1).toNat=j by omega] at this;rw [Bool.eq_iff_iff];exact ⟨fun e=>(this.1 ⟨by omega,by omega,e⟩).2.2,fun e=>(this.2 ⟨by omega,by omega,e⟩).2.2⟩
theorem Um {m:BitVec 64}{o:Int}(h:1<=o/\o<=64): ¬(m|||bit o=m)↔¬zP m o=true:=by
 constructor
 .intro h1 h2;refine h1 (zgs (fun q=>?_));rw [wg _ h];exact ⟨fun e=>e.elim id (fun e=>by rw [e];exact h2),.inl⟩
 .intro h1 h2;refine h1 ?_;rw [<-h2,wg _ h];exact .inr rfl
theorem vu (t:zA) (o:Int):yT t o=1↔zP t.Marks o=true/\¬zP t.Black o=true:=by
 unfold yT;by_cases h1:zP (t.Marks&&&t.Black) o=true
 .rw [zb h1];rw [Zp] at h1;exact ⟨fun e=>(by cases e),fun e=>zk h1.2 e.2⟩
 .rw [zd h1];rw [Zp] at h1;by_cases h2:zP t.Marks o=true
  .rw [zb h2];exact ⟨fun _=>⟨h2,fun e=>h1 ⟨h2,e⟩⟩,fun _=>rfl⟩
  .rw [zd h2];exact ⟨fun e=>(by cases e),fun e=>zk e.1 h2⟩
theorem zhc {α:Type}{l:List α}{i:Nat}{x:α}(h:l[i]? =some x):∃a b,l=a++x::b/\(∀y,l.set i y=a++y::b)/\(∀z∈a++b,∃j,j≠i/\l[j]? =some z) /\
  (∀j z,j≠i->l[j]? =some z->z∈a++b):=by
 obtain ⟨hi,e⟩:=zBt.1 h;have hl:(l.take i).length=i:=by rw [zCq];omega
 have el:l=l.take i++x::l.drop (i+1):=by
  conv=>lhs;rw [<-zCY i l,zCt hi,e]
 refine ⟨l.take i,l.drop (i+1),el,fun y=>?_,fun z hz=>?_,fun j z hj hz=>?_⟩
 .rw [List.set_eq_take_append_cons_drop,zb hi]
 .rcases zBE.1 hz with hz | hz
  .obtain ⟨j,hj⟩:=zCm.1 hz;obtain ⟨hj1,hj2⟩:=zBt.1 hj;have hj3:j<i:=by omega
   exact ⟨j,by omega,by rw [List.getElem?_take_of_lt hj3] at hj;exact hj⟩
  .obtain ⟨j,hj⟩:=zCm.1 hz;exact ⟨i+1+j,by omega,by rw [List.getElem?_drop] at hj;exact hj⟩
 .rw [el] at hz;rcases zBR j i with h1 | h1
  .rw [zBM (by omega)] at hz;exact zBH _ (zBq hz)
  .rw [zBS (by omega),hl] at hz;rw [show j-i=(j-i-1)+1 by omega,zCX] at hz;exact zBJ _ (zBq hz)
theorem uS {α β:Type}{f:α->List β}{a b:List α}{x:α}:zC6 ((a++x::b).flatMap f) (f x++(a++b).flatMap f):=by
 rw [zCN,zCa,zCN];exact zBO _ _ _
theorem SX.perm {p:zc}{nb k:Nat}{s:za}{g:Gh}{o o':List Int}(X:SX p nb s g o k) (h:zC6 o' o):SX p nb s g o' k :=
 ⟨X.S,⟨X.L.hs,X.L.cF,X.L.cE,(zBA _ h).trans X.L.all,X.L.len⟩,X.D,X.v,X.dk⟩
theorem SX.state {p:zc}{nb k:Nat}{s s':za}{g:Gh}{o:List Int}(X:SX p nb s g o k) (S':SOk p nb s') (hm:s'.M=s.M):SX p nb s' g o k :=
 ⟨S',by rw [hm];exact X.L,by rw [hm];exact X.D,by rw [hm];exact X.v,X.dk⟩
theorem GX.state {p:zc}{s s':za}{gh:Gh}{g:zH}(G:GX p s gh g) (hm:s'.M=s.M) (hb:s'.Bins=s.Bins):GX p s' gh g :=
 ⟨G.o,G.pc,G.md,G.ob,G.c0,by rw [hm];exact G.c5,by rw [hm,hb];exact G.c7,by rw [hm];exact G.d3⟩
theorem WX.state {p:zc}{s s':za}{gh:Gh}{w:Int}{x:zh}(W:WX p s gh w x) (hm:s'.M=s.M) (hb:s'.Bins=s.Bins):WX p s' gh w x :=
 ⟨W.c0,W.bt,by rw [hm];exact W.p0,by rw [hm];exact W.p1,by rw [hm];exact W.p2,by rw [hm];exact W.p4,fun e=>⟨(W.p6 e).1.state hm hb,(W.p6 e).2⟩⟩
theorem zbk {s s':za}{x:zh}(hm:s'.M=s.M) (hb:s'.Bins=s.Bins):zY s' x=zY s x:=by
 unfold zY W7 xt;rw [hm,hb]
def zkB (p:zc) (s:za) (g:Gh):List Int:=yK p s g++s.Ws.flatMap (zY s)
structure U9 (B:List Int) (t:zA):Prop where
 blk:∀o,zP t.Black o=true->zP t.Marks o=true
 nd:B.Nodup
 gr:∀o,o∈B↔yT t o=1
theorem Xv {t:zA}{o:Int}(h:yT t o=1):1<=o/\o<=64:=by
 have:=(wm _ _).1 ((vu t o).1 h).1;exact ⟨this.1,this.2.1⟩
theorem U9.more {B B':List Int}{t:zA}{o:Int}(K:U9 B t) (ho:1<=o/\o<=64) (hn: ¬(t.Marks|||bit o=t.Marks)) (h:zC6 B' (o::B)):U9 B' {t with Marks:=t.Marks|||bit o}:=by
 have hn:=(Um ho).1 hn;have hnb: ¬zP t.Black o=true:=fun e=>hn (K.blk o e);have hno:o∉B:=fun e=>hn ((vu t o).1 ((K.gr o).1 e)).1;refine ⟨fun q hq=>(wg _ ho q).2 (.inl (K.blk q hq)),h.nodup_iff.2 (List.nodup_cons.2 ⟨hno,K.nd⟩),fun q=>?_⟩;rw [h.mem_iff,zBG,K.gr,vu,vu];show q=o\/_↔zP (t.Marks|||bit o) q=true/\¬zP t.Black q=true;rw [wg _ ho];constructor
 .rintro (rfl | ⟨a,b⟩)
  .exact ⟨.inr rfl,hnb⟩
  .exact ⟨.inl a,b⟩
 .rintro ⟨a | a,b⟩
  .exact .inr ⟨a,b⟩
  .exact .inl a
theorem U9.less {B B':List Int}{t:zA}{o:Int}(K:U9 B t) (h:zC6 (B'++[o]) B):U9 B' (xP t o)/\(xP t o).Marks=t.Marks/\yT t o=1/\∀q,zP (xP t o).Black q=true↔zP t.Black q=true\/q=o:=by
 have ho:yT t o=1:=(K.gr o).1 (h.mem_iff.1 (by simp));have hr:=Xv ho;have hm:=((vu t o).1 ho)
 have hnd:=h.nodup_iff.2 K.nd;have hnd:=zCe.1 hnd;unfold xP;rw [zb ho];refine ⟨⟨fun q hq=>?_,hnd.1,fun q=>?_⟩,rfl,ho,fun q=>wg _ hr q⟩
 .rcases (wg _ hr q).1 hq with e | e
  .exact K.blk q e
  .rw [e];exact hm.1
 .have e1:q∈B↔q∈B'\/q=o:=by rw [<-h.mem_iff,zBE,zCb]
  rw [K.gr,vu] at e1;rw [vu];show _↔zP t.Marks q=true/\¬zP (t.Black|||bit o) q=true;rw [wg _ hr];constructor
  .intro hq;have:=e1.2 (.inl hq);exact ⟨this.1,fun e=>e.elim this.2 (fun e=>hnd.2.2 q hq o (by simp) e)⟩
  .rintro ⟨a,b⟩;rcases e1.1 ⟨a,fun e=>b (.inl e)⟩ with e | e
   .exact e
   .exact zk (.inr e) b
theorem HOk.get {p:zc}(hp:zB p) {h:zC}(H:HOk p h) (o i:Int):0<=zU h o i/\zU h o i<=64:=by
 have h1:=H.n;have h2:p.Most<=64:=by have:=hp.most;have:=hp.n;omega
 unfold zU;split
 .unfold zV;rw [zBp,zBp];cases hx:h.Objs[(o-1).toNat]? with
  | none=>show 0<=(([]:List Int)[i.toNat]?).getD 0/\_;simp
  | some l =>
   show 0<=(l[i.toNat]?).getD 0/\(l[i.toNat]?).getD 0<=64;cases hv:l[i.toNat]? with
   | none=>show (0:Int)<=0/\(0:Int)<=64;decide
   | some v =>
    have:=(H.objs l (zBq hx)).2 v (zBq hv);show 0<=v/\v<=64;omega
 .exact ⟨by decide,by decide⟩
structure WG (p:zc) (nb k:Nat) (s:za) (gh:Gh):Prop where
 E:EOk p nb s
 X:SX p nb s gh (s.Ws.flatMap wj) k
 W:∀(i:Nat) x,s.Ws[i]? =some x->WX p s gh ((i:Int)+1) x
 B:U9 (zkB p s gh) s.T
def zvN (s s':za) (w:Int):Prop :=
 s'.T=s.T\/(∃x o,s.Ws[(w-1).toNat]? =some x/\x.PC=6/\o=x.G.Obj/\(1<=o/\o<=64)/\¬zP s.T.Marks o=true/\s'.T={s.T with Marks:=s.T.Marks|||bit o}) \/
  (∃x,s.Ws[(w-1).toNat]? =some x/\x.PC=8/\yT s.T x.Obj=1/\s'.T={s.T with Black:=s.T.Black|||bit x.Obj})
theorem WG.step {p:zc}(hp:zB p) {nb k:Nat}{s:za}{gh:Gh}(hk:k<4294960000) (G:WG p nb k s gh) {w:Int}(hw:1<=w/\w<=p.Workers) (hd:s.Done=false):∃gh',WG p nb (k+1) (zt s w) gh'/\zvN s (zt s w) w:=by
 have hE:=zd6 hp G.E w;have hwl:=G.E.wl;have e0: ¬(s.Done=true\/w<1\/(s.Ws.length:Int)<w):=by rw [hd];rintro (e | e | e)<;>first | cases e | omega
 revert hE;unfold zt;rw [zd e0];have hi:(w-1).toNat<s.Ws.length:=by omega
 have hx:=zBn hi;generalize s.Ws[(w-1).toNat]=x at hx;rw [hx];dsimp only;intro hE;obtain ⟨a,b,el,es,hab,hba⟩:=zhc hx;have ei:(((w-1).toNat:Nat):Int)+1=w:=by omega
 have hWX:=G.W _ x hx;have hWO:=G.E.W _ x hx;rw [ei] at hWX hWO;have X0:SX p nb s gh (wj x++(a++b).flatMap wj) k:=G.X.perm (by rw [el];exact uS.symm);obtain ⟨gh',X',W',Fx,N,C,hN,hT⟩:=zzb hp hk hw X0 hWO hWX (fun o i=>G.E.H.get hp o i);have hoth:∀(j:Nat) y,j≠(w-1).toNat->s.Ws[j]? =some y->WX p (zi s w x).1 gh' ((j:Int)+1) y/\zY (zi s w x).1 y=zY s y:=by
  intro j y hj hy;have hjl:=(zBt.1 hy).1;exact WX.other hp (w:=(j:Int)+1) (by omega) X0 Fx (G.W j y hy) (G.E.W j y hy) (fun z hz=>zCc.2 ⟨y,hba j y hj hy,hz⟩) (fun e=>hj (by omega))
 have hbag:zC6 (zkB p {(zi s w x).1 with Ws:=s.Ws.set (w-1).toNat (zi s w x).2} gh'++C) (N++zkB p s gh):=by
  unfold zkB;have q1:yK p {(zi s w x).1 with Ws:=s.Ws.set (w-1).toNat (zi s w x).2} gh'=yK p (zi s w x).1 gh':=rfl;have q2:(s.Ws.set (w-1).toNat (zi s w x).2).flatMap (zY {(zi s w x).1 with Ws:=s.Ws.set (w-1).toNat (zi s w x).2})=(a++(zi s w x).2::b).flatMap (zY (zi s w x).1):=by
   rw [es];exact wq (fun y _=>zbk rfl rfl)
  have q3:(a++b).flatMap (zY (zi s w x).1)=(a++b).flatMap (zY s):=wq (fun y hy=>by
   obtain ⟨j,hj,hjy⟩:=hab y hy;exact (hoth j y hj hjy).2)
  rw [q1];show zC6 (yK p (zi s w x).1 gh'++(s.Ws.set (w-1).toNat (zi s w x).2).flatMap (zY {(zi s w x).1 with Ws:=s.Ws.set (w-1).toNat (zi s w x).2})++C) _;rw [q2];have r1:zC6 (yK p (zi s w x).1 gh'++(a++(zi s w x).2::b).flatMap (zY (zi s w x).1)++C) ((a++b).flatMap (zY s)++(yK p (zi s w x).1 gh'++zY (zi s w x).1 (zi s w x).2++C)):=by
   refine ((zBA _ uS).append_right C).trans ?_;rw [q3,zBu,zBu,zBu];refine (zBO _ _ _).trans ?_;refine (zBA _ (zBO _ _ _)).trans ?_;refine (zBO _ _ _).trans (zBA _ ?_);exact zBO _ _ _
  have r2:zC6 (N++(yK p s gh++s.Ws.flatMap (zY s))) ((a++b).flatMap (zY s)++(N++(yK p s gh++zY s x))):=by
   conv=>lhs;rw [el]
   refine (zBA _ (zBA _ uS)).trans ?_;refine (zBA _ ?_).trans (zBO _ _ _);rw [<-zBu];exact zB5
  exact r1.trans ((zBA _ hN).trans r2.symm)
 have fin:U9 (zkB p {(zi s w x).1 with Ws:=s.Ws.set (w-1).toNat (zi s w x).2} gh') (zi s w x).1.T->WG p nb (k+1) {(zi s w x).1 with Ws:=s.Ws.set (w-1).toNat (zi s w x).2} gh':=by
  intro hB;refine ⟨hE,?_,fun j y hy=>?_,hB⟩
  .refine (X'.state hE.S rfl).perm ?_;show zC6 ((s.Ws.set (w-1).toNat (zi s w x).2).flatMap wj) _;rw [es];exact uS
  .have hy:(s.Ws.set (w-1).toNat (zi s w x).2)[j]? =some y:=hy;by_cases hj:j=(w-1).toNat
   .subst hj;rw [zB3 hi] at hy;injection hy with hy;rw [<-hy,ei];exact W'.state rfl rfl
   .rw [zBI (fun e=>hj e.symm)] at hy;exact (hoth j y hj hy).1.state rfl rfl
 refine ⟨gh',?_⟩;rcases hT with ⟨rfl,rfl,t1⟩ | ⟨rfl,rfl,t1,t2,t3⟩ | ⟨rfl,rfl,t1,t2⟩
 .rw [zBo,zBy] at hbag;refine ⟨fin ⟨?_,hbag.nodup_iff.2 G.B.nd,fun o=>?_⟩,.inl t1⟩
  .rw [t1];exact G.B.blk
  .rw [t1,hbag.mem_iff];exact G.B.gr o
 .have ho:=((hWX.p6 t1).1).ob;rw [zBo] at hbag;refine ⟨fin ?_,.inr (.inl ⟨x,x.G.Obj,hx,t1,rfl,ho,(Um ho).1 t2,t3⟩)⟩;rw [t3];exact G.B.more ho t2 hbag
 .rw [zBy] at hbag;obtain ⟨b1,b2,b3,b4⟩:=G.B.less hbag;refine ⟨fin ?_,.inr (.inr ⟨x,hx,t1,b3,?_⟩)⟩
  .rw [t2];exact b1
  .show (zi s w x).1.T=_;rw [t2];unfold xP;rw [zb b3]
theorem zkG {N:Int}{nb:Nat}(hN:0<=N/\N<1000) (hnb:nb<1000):∀(l:List Int) (m:List (BitVec 64)) (a:Int),(∀x∈l,1<=x/\x<nb)->(∀x∈l,a≠N+x)->ld (links m N l) a=ld m a
 | [],m,a,_,_=>rfl
 | [x],m,a,h,h2=>by
  have:=h x (by simp);have:=h2 x (by simp);rw [links,yP];exact yE (by omega)
 | x::y::l,m,a,h,h2=>by
  have:=h x (by simp);have:=h2 x (by simp);rw [links,zkG hN hnb (y::l) _ a (fun z hz=>h z (zBr _ hz)) (fun z hz=>h2 z (zBr _ hz)),yP];exact yE (by omega)
theorem zlK {N:Int}{nb:Nat}(hN:0<=N/\N<1000) (hnb:nb<1000):∀(l:List Int) (m:List (BitVec 64)),(∀x∈l,1<=x/\x<nb)->l.Nodup->N+nb<=m.length->Chn (links m N l) N nb (l.headD 0) l
 | [],m,_,_,_=>rfl
 | [x],m,h,_,hl=>by
  have:=h x (by simp);refine ⟨rfl,this.1,this.2,?_⟩;rw [links,yP,We,zb ⟨rfl,by omega,by omega⟩];rfl
 | x::y::l,m,h,hd,hl=>by
  have hx:=h x (by simp);have hy:=h y (by simp);have hd:=List.nodup_cons.1 hd;refine ⟨rfl,hx.1,hx.2,?_⟩;have ih:=zlK hN hnb (y::l) (st m (wc (N+x)) (zC4 64 y)) (fun z hz=>h z (zBr _ hz)) hd.2 (by rw [ZU];exact hl);rw [links,zkG hN hnb (y::l) _ (N+x) (fun z hz=>h z (zBr _ hz)) (fun z hz e=>hd.1 (by rw [zju e] at hz;exact hz)),yP,We,zb ⟨rfl,by omega,by omega⟩,toInt_ofInt (by omega) (by omega)];rw [yP] at ih;exact ih
theorem Chn.links {N:Int}{nb:Nat}(hN:0<=N/\N<1000) (hnb:nb<1000) {l r:List Int}{h:Int}{m:List (BitVec 64)}(hr:∀x∈r,1<=x/\x<nb) (hd:∀x∈l,x∉r) (c:Chn m N nb h l):Chn (Go.Pe.G.links m N r) N nb h l:=by
 induction l generalizing h with
 | nil=>exact c
 | cons y l ih =>
  refine ⟨c.1,c.2.1,c.2.2.1,?_⟩;rw [zkG hN hnb r m (N+y) hr (fun z hz e=>hd y (by simp) (by rw [zju e] at hz;exact hz))];exact ih (fun x hx=>hd x (zBr _ hx)) c.2.2.2
theorem zsa {l:List Int}{nb:Nat}(h:∀x∈l,1<=x/\x<nb) (hnb:nb<1000):0<=l.headD 0/\l.headD 0<4294967296:=by
 cases l with
 | nil=>exact ⟨by decide,by decide⟩
 | cons a r=>have:=h a (by simp);show 0<=a/\a<4294967296;omega
theorem zwF {p:zc}(h:zB p):LI p (z7 p+1) (yW p).M (yb p) (zO p) ((xN (z7 p)).take (xC p).length) ((xN (z7 p)).drop (xC p).length) []/\xI (ld (yW p).M (yb p))=0/\xI (ld (yW p).M (zO p))=0:=by
 have hb:=zbX h;have hF:=vi h;have hE:=xB h;have hcl:=Uj p p.Workers.toNat;have hw:=h.wk;have hc:=h.cap;have hfe:yb p=((p.Workers.toNat*(p.Cap.toNat+2):Nat):Int):=by
  rw [hF.1];have e1:p.Workers=((p.Workers.toNat:Nat):Int):=by omega
  have e2:p.Cap+2=((p.Cap.toNat+2:Nat):Int):=by omega
  rw [e2,Int.natCast_mul];rw [<-e1]
 have hN:0<=zO p/\zO p<1000:=by omega
 have hnb:z7 p+1<1000:=by omega
 generalize hk:(xC p).length=k;have t1:∀x∈(xN (z7 p)).take k,1<=x/\x<((z7 p+1:Nat):Int):=fun x hx=>by have:=zd8 (zCL hx);omega
 have t2:∀x∈(xN (z7 p)).drop k,1<=x/\x<((z7 p+1:Nat):Int):=fun x hx=>by have:=zd8 (List.mem_of_mem_drop hx);omega
 have nd:((xN (z7 p)).take k++(xN (z7 p)).drop k).Nodup:=by rw [zCY];exact zm4 (z7 p+1)
 have nd3:=zCe.1 nd;have eM:(yW p).M=zbV (zbV (YB p p.Workers.toNat++zC3 (2+z7 p) 0#64) (yb p) (zO p) ((xN (z7 p)).take k)) (zO p) (zO p) ((xN (z7 p)).drop k):=by rw [<-hk];rfl
 rw [eM];generalize hm0:YB p p.Workers.toNat++zC3 (2+z7 p) 0#64=m0;have l0:zO p+((z7 p+1:Nat):Int)<=m0.length:=by
  rw [<-hm0,zBz,hcl,zB8];omega
 have p1:=zsa t1 hnb;have p2:=zsa t2 hnb;have v0:∀n:Int,0<=n->n<4294967296->xI (xz 0#64 n)=0:=fun n h1 h2=>by
  unfold xI;rw [zoB _ h1 h2];show (0*4294967296+n.toNat)/4294967296=0;omega
 have c1:=zlK hN hnb _ m0 t1 nd3.1 l0;generalize hm1:links m0 (zO p) ((xN (z7 p)).take k)=m1 at c1;have l1:m1.length=m0.length:=by rw [<-hm1,zb8]
 have c1':=(c1.st_head h (a:=yb p) (v:=xz 0#64 (((xN (z7 p)).take k).headD 0)) (.inl rfl)).links hN hnb t2 (fun x hx hx2=>nd3.2.2 x hx x hx2 rfl);have c2:=zlK hN hnb _ (st m1 (yb p) (xz 0#64 (((xN (z7 p)).take k).headD 0))) t2 nd3.2.1 (by rw [ZU,l1];exact l0);have hd1:ld (links (st m1 (yb p) (xz 0#64 (((xN (z7 p)).take k).headD 0))) (zO p) ((xN (z7 p)).drop k)) (yb p)=xz 0#64 (((xN (z7 p)).take k).headD 0):=by
  rw [zkG hN hnb _ _ _ t2 (fun x hx=>by have:=t2 x hx;omega),We,zb ⟨rfl,by omega,by omega⟩]
 unfold zbV;rw [hm1];generalize hm2:links (st m1 (yb p) (xz 0#64 (((xN (z7 p)).take k).headD 0))) (zO p) ((xN (z7 p)).drop k)=m2 at c1' c2 hd1;have l2:m2.length=m0.length:=by rw [<-hm2,zb8,ZU,l1]
 have g1:ld (st m2 (zO p) (xz 0#64 (((xN (z7 p)).drop k).headD 0))) (yb p)=xz 0#64 (((xN (z7 p)).take k).headD 0):=by rw [yE (by omega),hd1]
 have g2:ld (st m2 (zO p) (xz 0#64 (((xN (z7 p)).drop k).headD 0))) (zO p)=xz 0#64 (((xN (z7 p)).drop k).headD 0):=by rw [We,zb ⟨rfl,by omega,by omega⟩]
 refine ⟨⟨.inl ⟨rfl,rfl⟩,?_,?_,?_,by rw [ZU,l2];exact l0⟩,?_,?_⟩
 .rw [g1,zcd _ p1.1 p1.2];exact c1'.st_head h (.inr rfl)
 .rw [g2,zcd _ p2.1 p2.2];exact c2.st_head h (.inr rfl)
 .rw [zBo,zCY];exact zBY _
 .rw [g1];exact v0 _ p1.1 p1.2
 .rw [g2];exact v0 _ p2.1 p2.2
theorem zlH {N:Int}(hN:0<=N/\N<1000):∀(l:List Int) (m:List (BitVec 64)) (a:Int),(∀x∈l,1<=x/\x<1000)->a<=N->ld (links m N l) a=ld m a
 | [],m,a,_,_=>rfl
 | [x],m,a,h,h2=>by
  have:=h x (by simp);rw [links,yP];exact yE (by omega)
 | x::y::l,m,a,h,h2=>by
  have:=h x (by simp);rw [links,zlH hN (y::l) _ a (fun z hz=>h z (zBr _ hz)) h2,yP];exact yE (by omega)
theorem zzf {p:zc}(h:zB p) {a:Int}(ha:a<yb p):ld (yW p).M a=ld (YB p p.Workers.toNat++zC3 (2+z7 p) 0#64) a:=by
 have hb:=zbX h;have hF:=vi h;have hE:=xB h;have t1:∀x∈(xN (z7 p)).take (xC p).length,1<=x/\x<1000:=fun x hx=>by have:=zd8 (zCL hx);omega
 have t2:∀x∈(xN (z7 p)).drop (xC p).length,1<=x/\x<1000:=fun x hx=>by have:=zd8 (List.mem_of_mem_drop hx);omega
 show ld (zbV (zbV _ (yb p) (zO p) _) (zO p) (zO p) _) a=_;unfold zbV;rw [yE (by omega),zlH (by omega) _ _ _ t2 (by omega),yE (by omega),zlH (by omega) _ _ _ t1 (by omega)]
theorem zrz (p:zc):∀(k i j:Nat),i<k->j<p.Cap.toNat+2->(YB p k)[i*(p.Cap.toNat+2)+j]? =(ze7 p.Cap)[j]?
 | 0,i,j,h,_=>by omega
 | k+1,i,j,h,hj=>by
  rw [zjb];have hl:=Uj p k;rcases zBR i k with h1 | h1
  .have h2:=zCl (p.Cap.toNat+2) (show i+1<=k from h1);rw [Nat.succ_mul] at h2;rw [zBM (by omega)];exact zrz p k i j h1 hj
  .have:i=k:=by omega
   subst this;rw [zBS (by omega),hl,show i*(p.Cap.toNat+2)+j-i*(p.Cap.toNat+2)=j by omega]
theorem zsv {p:zc}(h:zB p) {w:Int}(hw:1<=w/\w<=p.Workers) {j:Nat}(hj:j<2):ld (yW p).M (zZ p w+j)=1#64:=by
 have hd:=uC h hw.1 hw.2;have hc:=h.cap;have hl:=Uj p p.Workers.toNat;have hlt:(w-1).toNat<p.Workers.toNat:=by omega
 have e1:(zZ p w+j).toNat=(w-1).toNat*(p.Cap.toNat+2)+j:=by
  obtain ⟨n,hn⟩:∃n:Nat,w-1=(n:Int):=⟨(w-1).toNat,by omega⟩
  have e2:p.Cap+2=((p.Cap.toNat+2:Nat):Int):=by omega
  rw [hd.1,hn,e2,<-Int.natCast_mul,zCh];omega
 have h2:=zCl (p.Cap.toNat+2) (show (w-1).toNat+1<=p.Workers.toNat from hlt);rw [Nat.succ_mul] at h2;rw [zzf h (by omega)];unfold ld;rw [yo,e1,zBp,zBM (by omega),zrz p _ _ _ hlt (by omega)];unfold ze7
 match j,hj with
 | 0,_=>rfl
 | 1,_=>rfl
theorem zm3 (n:Nat) (hn:1<=n):∀(f:Nat) (l:List Int),l.length<=f->(ua n f l).flatten=l
 | 0,l,h=>by
  have:l=[]:=List.length_eq_zero_iff.1 (by omega);subst this;simp [ua]
 | f+1,[],_=>by simp [ua]
 | f+1,x::l,h=>by
  have:=zm3 n hn f ((x::l).drop n) (by rw [zCz];simp at h ⊢;omega);simp only [ua,List.flatten_cons] at this ⊢;rw [this,zCY]
theorem zwI {α:Type}(l:List (List α)):(zC5 l.length).flatMap (fun i:Nat=>(l[i]?).getD [])=l.flatten:=by
 rw [List.flatMap_def];congr 1;apply List.ext_getElem
 .simp
 .intro i h1 h2;simp [zBn h2]
def gh0 (p:zc):Gh:=⟨(xN (z7 p)).take (xC p).length,(xN (z7 p)).drop (xC p).length,fun _=>[],fun _=>1,fun _=>0⟩
theorem zaC {α β:Type}{f:α->List β}:∀ {l:List α},(∀x∈l,f x=[])->l.flatMap f=[]
 | [],_=>rfl
 | a::l,h=>by rw [zCa,h a (by simp),zaC (fun x hx=>h x (zBr _ hx))];rfl
theorem zuS {p:zc}(h:zB p):yK p (yW p) (gh0 p)=X9 (wN p):=by
 have hb:=h.bin;have hfl:=zki h;have hbs:=zbX h;have hmost:=h.most;have hw:=h.wk;have hm:=h.mt;have e1:yK p (yW p) (gh0 p)=((xN (z7 p)).take (xC p).length).flatMap (xt (yW p)):=by
  show ((xN (z7 p)).take (xC p).length).flatMap (xt (yW p))++(zC5 p.Workers.toNat).flatMap (fun _=>([]:List Int))=_;rw [zaC (f:=fun _=>([]:List Int)) (fun _ _=>rfl),zBo]
 have e2:(xN (z7 p)).take (xC p).length=(zC5 (xC p).length).map (fun i:Nat=>(i:Int)+1):=by
  unfold xN;rw [<-List.map_take,List.take_range,Nat.min_eq_left (by omega)]
 rw [e1,e2,List.flatMap_map];have e3:(zC5 (xC p).length).flatMap (fun i:Nat=>xt (yW p) ((i:Int)+1))=(zC5 (xC p).length).flatMap (fun i:Nat=>((xC p)[i]?).getD []):=by
  refine wq (fun i hi=>?_);have hi:=zBW.1 hi;unfold xt;show (([[]]++xC p++zC3 (z7 p-(xC p).length) [])[((i:Int)+1).toNat]?).getD []=_;rw [show ((i:Int)+1).toNat=i+1 by omega,zBu];show ((xC p++zC3 (z7 p-(xC p).length) [])[i]?).getD []=_;rw [zBM hi]
 rw [e3,zwI];exact zm3 _ (by omega) _ _ (zBm _)
theorem zuk (s:BitVec 64):(X9 s).Nodup:=by
 unfold X9;rw [List.Nodup,List.pairwise_map];exact (List.nodup_range.filter _).imp (fun h e=>h (by omega))
theorem zoe {s:BitVec 64}(h:s&&& ~~~63#64=0#64) {j:Nat}(hs:s.getLsbD j=true):j<6:=by
 have hj:j<64:=BitVec.lt_of_getLsbD hs;have:=congrArg (fun x=>x.getLsbD j) h;simp only [zCw,zCQ,hs,hj,decide_true,zCu,zCJ] at this;have h63:(63#64).getLsbD j=decide (j<6):=by
  have:∀j:Fin 64,(63#64).getLsbD j.1=decide (j.1<6):=by decide
  exact this ⟨j,hj⟩
 rw [h63] at this;by_cases e:j<6
 .exact e
 .rw [wb e] at this;cases this
theorem zxo {s:BitVec 64}(h:s&&& ~~~63#64=0#64) (o:Int):o∈X9 s↔zP s o=true:=by
 unfold X9;rw [wm,zBB];constructor
 .rintro ⟨i,hi,rfl⟩;obtain ⟨h1,h2⟩:=List.mem_filter.1 hi;have:=zBW.1 h1;exact ⟨by omega,by omega,by rw [show ((i:Int)+1-1).toNat=i by omega];exact h2⟩
 .rintro ⟨h1,h2,h3⟩;exact ⟨(o-1).toNat,List.mem_filter.2 ⟨zBW.2 (zoe h h3),h3⟩,by omega⟩
theorem zwJ {p:zc}(h:zB p):WG p (z7 p+1) 0 (yW p) (gh0 p):=by
 have hE:=ztv h;obtain ⟨L,v1,v2⟩:=zwF h;have hc:=h.cap;have hws:∀x∈(yW p).Ws,∃i:Nat,x=wY p i:=fun x hx=>by
  obtain ⟨i,_,rfl⟩:=zBB.1 (show x∈(zC5 p.Workers.toNat).map (wY p) from hx);exact ⟨i,rfl⟩
 have hb:∀i:Nat,wY p i=Z5 p ((i:Int)+1) (wY p i):=fun i=>rfl;have own:(yW p).Ws.flatMap wj=[]:=zaC (fun x hx=>by
  obtain ⟨i,rfl⟩:=hws x hx;exact uv (by show (0:Int)≠3;decide) (by show (0:Int)≠4;decide) (by show (0:Int)≠6;decide))
 have hold:(yW p).Ws.flatMap (zY (yW p))=[]:=zaC (fun x hx=>by
  obtain ⟨i,rfl⟩:=hws x hx;unfold zY;rw [hb i,zgc];rfl)
 refine ⟨hE,⟨hE.S,by rw [own];exact L,fun w h1 h2=>?_,?_,fun w _ _=>by show 1+0<=0+1000;decide⟩,fun i x hx=>?_,?_⟩
 .have c0:=zsv h ⟨h1,h2⟩ (j:=0) (by decide);have c1:=zsv h ⟨h1,h2⟩ (j:=1) (by decide);rw [show zZ p w+((0:Nat):Int)=zZ p w by omega] at c0;exact ⟨c0,c1,by show (0:Nat)<=1;decide,by show (1:Nat)<=1;decide,Nat.zero_le _,by show 1+0<4294967296;decide,fun i hi=>zk hi (Nat.not_lt_zero _)⟩
 .rw [v1,v2];exact ⟨zBm _,zBm _⟩
 .have hx:((zC5 p.Workers.toNat).map (wY p))[i]? =some x:=hx;rw [zBQ] at hx;cases hr:(zC5 p.Workers.toNat)[i]? with
  | none=>rw [hr] at hx;cases hx
  | some j =>
   rw [hr] at hx;injection hx with hx;obtain ⟨h1,h2⟩:=zBt.1 hr;rw [List.getElem_range] at h2;subst h2;rw [<-hx,hb i];exact WX.begin rfl rfl
 .have hs:=zbz h;unfold zkB;rw [hold,zBo,zuS h];refine ⟨fun o ho=>zk ho (XB o),zuk _,fun o=>?_⟩;rw [zxo hs,vu];exact ⟨fun e=>⟨e,XB o⟩,fun e=>e.1⟩
theorem zrg (n:Nat) (hn:1<=n):∀(f:Nat) (l c:List Int),c∈ua n f l->c≠[]
 | 0,l,c,h=>by simp [ua] at h
 | f+1,[],c,h=>by simp [ua] at h
 | f+1,x::l,c,h=>by
  simp only [ua,zBG] at h;rcases h with h | h
  .rw [h]
   match n,hn with
   | m+1,_=>exact List.cons_ne_nil _ _
  .exact zrg n hn f _ c h
theorem zAz {p:zc}(h:zB p):∀y∈(gh0 p).F,xt (yW p) y≠[]:=by
 intro y hy;have hb:=h.bin;have hfl:=zki h;have hbs:=zbX h;have hmost:=h.most;have hw:=h.wk;have hm:=h.mt;have hy:y∈(xN (z7 p)).take (xC p).length:=hy;have e2:(xN (z7 p)).take (xC p).length=(zC5 (xC p).length).map (fun i:Nat=>(i:Int)+1):=by
  unfold xN;rw [<-List.map_take,List.take_range,Nat.min_eq_left (by omega)]
 rw [e2] at hy;obtain ⟨i,hi,rfl⟩:=zBB.1 hy;have hi:=zBW.1 hi;unfold xt;show (([[]]++xC p++zC3 (z7 p-(xC p).length) [])[((i:Int)+1).toNat]?).getD []≠[];rw [show ((i:Int)+1).toNat=i+1 by omega,zBu];show ((xC p++zC3 (z7 p-(xC p).length) [])[i]?).getD []≠[];rw [zBM hi,zBn hi];exact zrg _ (by omega) _ _ _ (zBU hi)
def zuP (o:zm):Prop:=o.Kind=2/\o.Out=0/\(o.PC=2\/o.PC=4\/o.PC=5\/(o.PC=3/\o.T=o.B-1#64))
instance (o:zm):Decidable (zuP o):=by unfold zuP;infer_instance
theorem zyM:∀(t:Fin 512) (k:Fin 9),zC2 64 t.1|||bit ((k.1:Int)+1)=zC2 64 t.1\/cnt (zC2 64 t.1|||bit ((k.1:Int)+1))=cnt (zC2 64 t.1)+1:=by decide +kernel
theorem zsV {s:BitVec 64}(h:∀o,zP s o=true->o<=9):∃t:Fin 512,s=zC2 64 t.1:=by
 have h2:s=s&&&511#64:=by
  apply zCI;intro j hj;rw [zCw];have h63:(511#64).getLsbD j=decide (j<9):=by
   have:∀j:Fin 64,(511#64).getLsbD j.1=decide (j.1<9):=by decide
   exact this ⟨j,hj⟩
  rw [h63];cases hs:s.getLsbD j with
  | false=>rfl
  | true =>
   have:=h ((j:Int)+1) ((wm _ _).2 ⟨by omega,by omega,by rw [show ((j:Int)+1-1).toNat=j by omega];exact hs⟩);rw [yD (by omega:j<9)];rfl
 have h3:s.toNat<512:=by
  rw [h2,zCi];exact Nat.lt_of_le_of_lt Nat.and_le_right (by decide)
 exact ⟨⟨s.toNat,h3⟩,by rw [BitVec.ofNat_toNat,BitVec.setWidth_eq]⟩
theorem zwT {s:BitVec 64}(h:∀o,zP s o=true->o<=9) {o:Int}(ho:1<=o/\o<=9) (hn: ¬zP s o=true):cnt (s|||bit o)=cnt s+1:=by
 obtain ⟨t,rfl⟩:=zsV h;have:=zyM t ⟨(o-1).toNat,by omega⟩;rw [show (((o-1).toNat:Nat):Int)+1=o by omega] at this;rcases this with e | e
 .exact zk e ((Um ⟨ho.1,by omega⟩).2 hn)
 .exact e
theorem zvJ:∀t:Fin 512,cnt (zC2 64 t.1)<=9:=by decide +kernel
theorem zj4 {s:BitVec 64}(h:∀o,zP s o=true->o<=9):cnt s<=9:=by
 obtain ⟨t,rfl⟩:=zsV h;exact zvJ t
theorem zyp:cnt 0#64=0:=by decide +kernel
theorem znR (s:BitVec 64) {q:Int}(h:1<=q/\q<=64):zP (~~~s) q=true↔¬zP s q=true:=by
 rw [wm,wm,zCQ];simp only [show (q-1).toNat<64 by omega,decide_true,zCu,zBC];constructor
 .rintro ⟨_,_,e⟩ ⟨_,_,e2⟩;rw [e] at e2;cases e2
 .intro e;refine ⟨h.1,h.2,?_⟩;cases hs:s.getLsbD (q-1).toNat with
  | false=>rfl
  | true=>exact zk ⟨h.1,h.2,hs⟩ e
structure zqh (s:za):Prop where
 mks:∀o,zP s.T.Marks o=true->o<=9
 ob:∀(i:Nat) x,s.Ws[i]? =some x->x.PC=6->x.G.Obj<=9
theorem HOk.get9 {p:zc}(hp:zB p) {h:zC}(H:HOk p h) (o i:Int):zU h o i<=9:=by
 have h1:=H.n;have h2:p.Most<=9:=by have:=hp.most;have:=hp.n;omega
 unfold zU;split
 .unfold zV;rw [zBp,zBp];cases hx:h.Objs[(o-1).toNat]? with
  | none=>show (([]:List Int)[i.toNat]?).getD 0<=9;simp
  | some l =>
   show (l[i.toNat]?).getD 0<=9;cases hv:l[i.toNat]? with
   | none=>show (0:Int)<=9;decide
   | some v =>
    have:=(H.objs l (zBq hx)).2 v (zBq hv);show v<=9;omega
 .decide
theorem zqh.step {p:zc}(hp:zB p) {nb k:Nat}{s:za}{gh:Gh}(L:zqh s) (G:WG p nb k s gh) {w:Int}(hw:1<=w/\w<=p.Workers) (hd:s.Done=false) (T:zvN s (zt s w) w):zqh (zt s w):=by
 have hwl:=G.E.wl;refine ⟨fun o ho=>?_,fun i y hy h6=>?_⟩
 .rcases T with e | ⟨x,q,hx,h6,rfl,hr,hn,e⟩ | ⟨x,hx,h8,h1,e⟩
  .rw [e] at ho;exact L.mks o ho
  .rw [e] at ho;rcases (wg _ hr o).1 ho with e | e
   .exact L.mks o e
   .rw [e];exact L.ob _ x hx h6
  .rw [e] at ho;exact L.mks o ho
 .have e0: ¬(s.Done=true\/w<1\/(s.Ws.length:Int)<w):=by rw [hd];rintro (e | e | e)<;>first | cases e | omega
  have hi:(w-1).toNat<s.Ws.length:=by omega
  have hx:=zBn hi;generalize s.Ws[(w-1).toNat]=x at hx;unfold zt at hy;rw [zd e0,hx] at hy;have hy:(s.Ws.set (w-1).toNat (zi s w x).2)[i]? =some y:=hy;by_cases hj:i=(w-1).toNat
  .subst hj;rw [zB3 hi] at hy;injection hy with hy;subst hy;rcases zkl s w x h6 with ⟨a,b⟩ | ⟨a,b⟩
   .rw [b];exact L.ob _ x hx a
   .rw [b];exact G.E.H.get9 hp _ _
  .rw [zBI (fun e=>hj e.symm)] at hy;exact L.ob i y hy h6
theorem zyr {p:zc}(h:zB p):zqh (yW p):=by
 refine ⟨fun o ho=>?_,fun i x hx h6=>?_⟩
 .have hs:=zbz h;obtain ⟨a,b,c⟩:=(wm _ _).1 (show zP (wN p) o=true from ho);have:=zoe hs c;omega
 .have hx:=zBq hx;obtain ⟨j,_,rfl⟩:=zBB.1 (show x∈(zC5 p.Workers.toNat).map (wY p) from hx);exact zk h6 (by show ¬(0:Int)=6;decide)
theorem zok:∀(n:Fin 10) (j:Fin 64),(wR (n.1:Int)).getLsbD j.1=decide (j.1<n.1):=by decide +kernel
theorem Uk {n:Nat}(hn:n<=9) (o:Int):zP (wR (n:Int)) o=true↔1<=o/\o<=(n:Int):=by
 rw [wm];constructor
 .rintro ⟨a,b,c⟩;have:=zok ⟨n,by omega⟩ ⟨(o-1).toNat,by omega⟩;rw [this] at c;have:(o-1).toNat<n:=by simpa using c
  omega
 .rintro ⟨a,b⟩;have:=zok ⟨n,by omega⟩ ⟨(o-1).toNat,by omega⟩;refine ⟨a,by omega,?_⟩;rw [this];exact yD (by show (o-1).toNat<n;omega)
end
end Go.Pe.G
