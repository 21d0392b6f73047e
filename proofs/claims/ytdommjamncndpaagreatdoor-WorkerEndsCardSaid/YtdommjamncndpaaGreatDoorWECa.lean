/- Own work of this seat: Core, Exec, Rep, Moves, Tab, OpA, OpB, OpC, OpD, OpE, OpF, OpG, OpH, OpI, OpJ, OpK, OpL. -/
import Derived.Orders
import Derived.KernelRfl
import Derived.Laws.Sem
import Derived.Laws.World
import Derived.Laws.CopyRow
import Derived.Laws.Entries
import Derived.Laws.Rows
import Derived.Laws.Append
import Derived.Laws.BitsLemmas
import Derived.Laws.Bits64
import Derived.Laws.Shifts
import Derived.Laws.StructEq
import Derived.Laws.Concat
import Derived.ChangeKeysEq
set_option linter.unusedVariables false
set_option linter.unusedSimpArgs false
set_option linter.unnecessarySimpa false
set_option linter.unusedSectionVars false
set_option linter.deprecated false
open Array renaming getD_eq_getD_getElem? → zBN, getElem?_eq_some_iff → zBP, getElem?_toList → zB1, length_toList → zCk, getElem?_eq_getElem → zCr, toList_inj → zCF, getElem?_eq_none → zCT, getElem?_push → zCU
open BitVec renaming toNat_ofInt → zB9, eq_of_toNat_eq → zCA, toInt_eq_toNat_cond → zCE
open Bool renaming and_eq_true → zBl, not_eq_true' → zBC, false_eq_true → zBT, not_true → zB6, true_and → zCu, or_eq_true → zCx
open Int renaming le_refl → zB2, toNat_natCast → zCh
open List renaming getElem?_eq_getElem → zBn, getD_eq_getElem?_getD → zBp, mem_of_getElem? → zBq, mem_cons_of_mem → zBr, getElem?_eq_some_iff → zBt, append_assoc → zBu, length_cons → zBv, mem_cons_self → zBx, nil_append → zBy, length_append → zBz, mem_map → zBB, mem_append → zBE, length_set → zBF, getElem?_set_ne → zBI, all_eq_true → zBL, getElem?_append_left → zBM, getElem?_map → zBQ, getElem?_append_right → zBS, getElem_mem → zBU, getElem?_set → zBZ, length_nil → zB4, eq_nil_of_length_eq_zero → zB7, length_replicate → zB8, flatMap_cons → zCa, getElem?_eq_none → zCj, map_cons → zCo, getElem?_take → zCp, length_take → zCq, foldl_cons → zCs, drop_eq_getElem_cons → zCt, length_drop → zCz, getElem_of_mem → zCB, mem_of_mem_take → zCL, drop_eq_nil_of_le → zCM, flatMap_append → zCN, getElem?_toArray → zCS, take_of_length_le → zCV, range_eq_range' → zCW
open Nat renaming le_refl → zBm, eq_of_beq_eq_true → zBs, lt_of_lt_of_le → zBK, lt_or_ge → zBR, add_mul → zBV, le_of_ble_eq_true → zB0, add_zero → zCd, le_trans → zCf, mul_le_mul_right → zCl, add_assoc → zCy, mul_le_mul → zCD
open Option renaming bind_some → zBk, bind_eq_some_iff → zBw, map_eq_some_iff → zBD, getD_some → zCg, map_some → zCC
namespace Go.Pe
theorem zd {c:Prop}{d:Decidable c}{A:Sort _}{a b:A}(h: ¬c):(if c then a else b)=b:=if_neg h
theorem zb {c:Prop}{d:Decidable c}{A:Sort _}{a b:A}(h:c):(if c then a else b)=a:=if_pos h
theorem yD {p:Prop} [d:Decidable p] (h:p):decide p=true:=decide_eq_true h
theorem wb {p:Prop} [d:Decidable p] (h: ¬p):decide p=false:=decide_eq_false h
theorem zI {A:Sort _}(a b:A):cond true a b=a:=rfl
theorem yg {A:Sort _}(a b:A):cond false a b=b:=rfl
theorem zk {a b:Prop}(h:a) (k: ¬a):b:=absurd h k
theorem ze {c:Prop}{d:Decidable c}{A:Sort _}{a b:A}(h: ¬c:=by omega):(if c then a else b)=b:=if_neg h
theorem yo {c:Prop}{d:Decidable c}{A:Sort _}{a b:A}(h:c:=by omega):(if c then a else b)=a:=if_pos h
noncomputable section
inductive Ty where
 | bool | int (k:IntKind) | str | slice (e:Ty) | named (n:Nat) | arr (n:Nat) (e:Ty)
 deriving DecidableEq
@[reducible] def z6:IntKind->Type
 | .u64=>BitVec 64 | .u8=>BitVec 8 | .i8=>Int | .i16=>Int | .i32=>Int | .i64=>Int | .u16=>Int | .u32=>Int
@[reducible] def Den (T:Nat->Type):Ty->Type
 | .bool=>Bool | .int k=>z6 k | .str=>ByteArray | .slice e=>List (Den T e) | .named n=>T n | .arr _ e=>List (Den T e)
@[reducible] def HL (T:Nat->Type):List Ty->Type
 | []=>Unit
 | t::ts=>Den T t×HL T ts
structure yG where
 T:Nat->Type
 leaves:Nat->List Ty
 unpack:(n:Nat)->T n->HL T (leaves n)
 pack:(n:Nat)->HL T (leaves n)->T n
 pu:∀n x,pack n (unpack n x)=x
 up:∀n h,unpack n (pack n h)=h
 lf:∀n,(leaves n).all (fun t=>match t with | .named _=>false | .arr _ _=>false | _=>true)=true
noncomputable def zfB {α:Type}(a:α):α:=Classical.choose (⟨a,rfl⟩:∃b:α,b=a)
theorem VI {α:Type}(a:α):zfB a=a:=Classical.choose_spec (⟨a,rfl⟩:∃b:α,b=a)
def w64 (n:Int):Int:=zfB (fun n:Int=>(n+9223372036854775808)%18446744073709551616-9223372036854775808) n
theorem zmq (n:Int):w64 n=(n+9223372036854775808)%18446744073709551616-9223372036854775808:=congrFun (VI _) n
def w32 (n:Int):Int:=zfB (fun n:Int=>(n+2147483648)%4294967296-2147483648) n
theorem zzG (n:Int):w32 n=(n+2147483648)%4294967296-2147483648:=congrFun (VI _) n
@[reducible] def toZ:(k:IntKind)->z6 k->Int
 | .u64,x=>(x.toNat:Int) | .u8,x=>(x.toNat:Int) | .i8,x=>x | .i16,x=>x | .i32,x=>x | .i64,x=>x | .u16,x=>x | .u32,x=>x
def zaa:(k:IntKind)->Int->z6 k
 | .u64,n=>BitVec.ofInt 64 n | .u8,n=>BitVec.ofInt 8 n | .i8,n=>n | .i16,n=>n | .i32,n=>n | .i64,n=>n | .u16,n=>n | .u32,n=>n
def zoN:IntKind->Int->Bool
 | .u64,n=>decide (0<=n)&&decide (n<18446744073709551616) | .u8,n=>decide (0<=n)&&decide (n<256) | _,_=>true
def zy1:(k:IntKind)->z6 k->z6 k->Option (z6 k)
 | .u64,a,b=>some (a+b) | .u8,a,b=>some (a+b) | .i64,a,b=>some (w64 (a+b)) | .i32,a,b=>some (w32 (a+b)) | _,_,_=>none
def zyI:(k:IntKind)->z6 k->z6 k->Option (z6 k)
 | .u64,a,b=>some (a-b) | .i64,a,b=>some (w64 (a-b)) | .i32,a,b=>some (w32 (a-b)) | _,_,_=>none
def zy4:(k:IntKind)->z6 k->z6 k->Option (z6 k)
 | .u64,a,b=>some (a*b) | .i64,a,b=>some (w64 (a*b)) | _,_,_=>none
def zvC (a b:Int):Int:=zfB (fun a b:Int=>(BitVec.ofInt 64 a&&&BitVec.ofInt 64 b).toInt) a b
theorem zs2 (a b:Int):zvC a b=(BitVec.ofInt 64 a&&&BitVec.ofInt 64 b).toInt:=by delta zvC;rw [VI]
def zor (a b:Int):Int:=zfB (fun a b:Int=>(BitVec.ofInt 64 a|||BitVec.ofInt 64 b).toInt) a b
theorem zzl (a b:Int):zor a b=(BitVec.ofInt 64 a|||BitVec.ofInt 64 b).toInt:=by delta zor;rw [VI]
def zyB (a b:Int):Int:=zfB (fun a b:Int=>(BitVec.ofInt 64 a ^^^ BitVec.ofInt 64 b).toInt) a b
theorem zyt (a b:Int):zyB a b=(BitVec.ofInt 64 a ^^^ BitVec.ofInt 64 b).toInt:=by delta zyB;rw [VI]
def zpY (a b:Int):Int:=zfB (fun a b:Int=>(BitVec.ofInt 64 a&&& ~~~BitVec.ofInt 64 b).toInt) a b
theorem zug (a b:Int):zpY a b=(BitVec.ofInt 64 a&&& ~~~BitVec.ofInt 64 b).toInt:=by delta zpY;rw [VI]
def zqi:(k:IntKind)->z6 k->z6 k->Option (z6 k)
 | .u64,a,b=>some (a/b) | .i64,a,b=>some (w64 (a.tdiv b)) | .u8,a,b=>some (a/b) | _,_,_=>none
def zyE:(k:IntKind)->z6 k->z6 k->Option (z6 k)
 | .u64,a,b=>some (a%b) | .i64,a,b=>some (a.tmod b) | .u8,a,b=>some (a%b) | _,_,_=>none
def zyX:(k:IntKind)->z6 k->z6 k->Option (z6 k)
 | .u64,a,b=>some (a&&&b) | .i64,a,b=>some (zvC a b) | _,_,_=>none
def ior:(k:IntKind)->z6 k->z6 k->Option (z6 k)
 | .u64,a,b=>some (a|||b) | .i64,a,b=>some (zor a b) | _,_,_=>none
def zyR:(k:IntKind)->z6 k->z6 k->Option (z6 k)
 | .u64,a,b=>some (a ^^^ b) | .i64,a,b=>some (zyB a b) | _,_,_=>none
def zqw:(k:IntKind)->z6 k->z6 k->Option (z6 k)
 | .u64,a,b=>some (a&&& ~~~b) | .i64,a,b=>some (zpY a b) | _,_,_=>none
def ztd:(k:IntKind)->z6 k->Nat->Option (z6 k)
 | .u64,a,n=>some (a <<< n) | _,_,_=>none
def zs0:(k:IntKind)->z6 k->Nat->Option (z6 k)
 | .u64,a,n=>some (a >>> n) | _,_,_=>none
def ieq:(k:IntKind)->z6 k->z6 k->Bool
 | .u64,a,b=>decide (a=b) | .u8,a,b=>decide (a=b) | .i8,a,b=>decide (a=b) | .i16,a,b=>decide (a=b) | .i32,a,b=>decide (a=b)
 | .i64,a,b=>decide (a=b) | .u16,a,b=>decide (a=b) | .u32,a,b=>decide (a=b)
def ilt:(k:IntKind)->z6 k->z6 k->Bool
 | .u64,a,b=>decide (a<b) | .u8,a,b=>decide (a<b) | .i8,a,b=>decide (a<b) | .i16,a,b=>decide (a<b) | .i32,a,b=>decide (a<b)
 | .i64,a,b=>decide (a<b) | .u16,a,b=>decide (a<b) | .u32,a,b=>decide (a<b)
def ile:(k:IntKind)->z6 k->z6 k->Bool
 | .u64,a,b=>decide (a<=b) | .u8,a,b=>decide (a<=b) | .i8,a,b=>decide (a<=b) | .i16,a,b=>decide (a<=b) | .i32,a,b=>decide (a<=b)
 | .i64,a,b=>decide (a<=b) | .u16,a,b=>decide (a<=b) | .u32,a,b=>decide (a<=b)
def zv7:(k k':IntKind)->z6 k->Option (z6 k')
 | .u8,.i64,x=>some (x.toNat:Int) | .u8,.i32,x=>some (x.toNat:Int) | .u8,.u8,x=>some x | .u8,.u64,x=>some (x.setWidth 64)
 | .u64,.i64,x=>some x.toInt | .u64,.u64,x=>some x | .i64,.u64,x=>some (BitVec.ofInt 64 x) | .i64,.u8,x=>some (BitVec.ofInt 8 x)
 | .i64,.i64,x=>some (w64 x) | .i64,.i32,x=>some (w32 x) | .i32,.i64,x=>some (w64 x) | .i32,.i32,x=>some (w32 x)
 | _,_,_=>none
def znf:(k:IntKind)->z6 k->z6 k->Option (z6 k)
 | .u64,a,b=>some (bif decide (b<a) then b else a) | .i64,a,b=>some (bif decide (b<a) then b else a) | _,_,_=>none
def znu:(k:IntKind)->z6 k->z6 k->Option (z6 k)
 | .u64,a,b=>some (bif decide (a<b) then b else a) | .i64,a,b=>some (bif decide (a<b) then b else a) | _,_,_=>none
def idx {α:Type}(l:List α) (i:Int):Option α:=bif decide (0<=i) then l[i.toNat]? else none
def Yh {α:Type}(l:List α) (i:Int):Option Nat:=bif decide (0<=i)&&decide (i<l.length) then some i.toNat else none
def vQ {α:Type}(l:List α):Option (List α):=zfB (fun l:List α=>bif decide (l.length<4294967296) then some l else none) l
theorem ztc {α:Type}(l:List α):vQ l=bif decide (l.length<4294967296) then some l else none:=by delta vQ;rw [VI]
def zd1 {α:Type}(l:List α) (n:Nat) (i:Int):Option Nat:=bif decide (0<=i)&&decide (i<l.length)&&decide (i<n) then some i.toNat else none
def U5 (n:Int):Option Nat:=zfB (fun n:Int=>bif decide (0<=n)&&decide (n<4294967296) then some n.toNat else none) n
theorem zro (n:Int):U5 n=bif decide (0<=n)&&decide (n<4294967296) then some n.toNat else none:=by delta U5;rw [VI]
def cut {α:Type}(l:List α) (lo hi:Int):Option (List α) :=
 bif decide (0<=lo)&&decide (lo<=hi)&&decide (hi<=l.length) then some ((l.take hi.toNat).drop lo.toNat) else none
section
variable (E:yG)
inductive zj:Type where
 | any | skip
 | v (τ:Ty) (x:Den E.T τ)
 | agg (cs:List zj) | tuple (vs:List zj)
 | nils | own (id:Nat) | full (e:Ty) (l:List (Den E.T e)) | bsl (id n:Nat)
 | ptr (id off:Nat) | eptr (e:Ty) (id i off:Nat) | rptr (cs:List zj)
 | fn (f:FuncId) (caps:List zj) | bfn (f:FuncId) (first:List zj) | nilfn | nilp | nilm | map (id:Nat)
 | yld (n i:Int)
inductive Blk:Type where
 | free | dead
 | box (w:Bool) (cs:List (zj E))
 | row (w:Bool) (e:Ty) (l:List (Den E.T e))
 | map (w:Bool) (es:List (zj E×zj E))
 | rowh (e:Ty) (l:List (List (Den E.T e))) (n k:Nat)
inductive Dec (α:Type):Type 1 where
 | ret (a:α) | fail
 | br (b:Bool) (t e:Dec α)
 | opt (β:Type) (o:Option β) (k:β->Dec α)
 | rd (id:Nat) (k:Blk E->Dec α)
 | wr (id:Nat) (b:Blk E) (k:Dec α)
 | any (k:Bool->Dec α)
end
variable {E:yG}
def Dec.bind {α β:Type}:Dec E α->(α->Dec E β)->Dec E β
 | .ret a,f=>f a
 | .fail,_=>.fail
 | .br b t e,f=>.br b (t.bind f) (e.bind f)
 | .opt γ o k,f=>.opt γ o fun x=>(k x).bind f
 | .rd id k,f=>.rd id fun b=>(k b).bind f
 | .wr id b k,f=>.wr id b (k.bind f)
 | .any k,f=>.any fun b=>(k b).bind f
def zn (H:List (Blk E)) (id:Nat):Blk E:=(H[id]?).getD .free
open Classical in
noncomputable def zkJ {R:Type}(a b:Option R):Option R:=if a=b then a else none
theorem zh4 {R:Type}(a:Option R):zkJ a a=a:=zb rfl
theorem zxw {R:Type}{a b:Option R}{r:R}(h:zkJ a b=some r):a=some r/\b=some r:=by
 unfold zkJ at h;split at h
 .rename_i e;exact ⟨h,e▸h⟩
 .cases h
noncomputable def Dec.cps {α R:Type}:Dec E α->List (Blk E)->(α->List (Blk E)->Option R)->Option R
 | .ret a,H,K=>K a H
 | .fail,_,_=>none
 | .br b t e,H,K=>bif b then t.cps H K else e.cps H K
 | .opt _ o k,H,K=>o.bind fun x=>(k x).cps H K
 | .rd id k,H,K=>(k (zn H id)).cps H K
 | .wr id b k,H,K=>bif Nat.blt id H.length then k.cps (H.set id b) K else none
 | .any k,H,K=>zkJ ((k true).cps H K) ((k false).cps H K)
@[reducible] def p1 {A B:Type}(x:A×B):A:=Prod.casesOn (motive:=fun _=>A) x (fun a _=>a)
@[reducible] def p2 {A B:Type}(x:A×B):B:=Prod.casesOn (motive:=fun _=>B) x (fun _ b=>b)
@[simp] theorem zBj {A B:Type}(x:A×B):p1 x=x.1:=rfl
@[simp] theorem zBi {A B:Type}(x:A×B):p2 x=x.2:=rfl
def HL.toP:(ts:List Ty)->HL E.T ts->List (zj E)
 | [],_=>[]
 | t::ts,x=>.v t (p1 x)::HL.toP ts (p2 x)
def vC (τ τ':Ty) (x:Den E.T τ):Option (Den E.T τ'):=if h:τ=τ' then some (h▸x) else none
def uU:zj E->List (zj E)
 | .agg cs=>cs
 | .v (.named n) x=>HL.toP (E.leaves n) (E.unpack n x)
 | p=>[p]
def Ty.leaf:Ty->Bool
 | .named _=>false | .arr _ _=>false | _=>true
def zj.leaf:zj E->Bool
 | .v τ _=>τ.leaf
 | .nils | .own _ | .full _ _ | .bsl _ _ | .ptr _ _ | .eptr _ _ _ _ | .rptr _ | .fn _ _ | .bfn _ _ | .nilfn | .nilp | .nilm | .map _=>true
 | _=>false
def vz (τ:Ty) (p:zj E) (H:List (Blk E)):Option (Den E.T τ×List Nat) :=
 match p with
 | .v τ' x=>(vC τ' τ x).bind fun y=>some (y,[])
 | .nils=>match τ with | .slice _=>some ([],[]) | _=>none
 | .own id=>match τ with
  | .slice e=>match zn H id with
   | .row _ e' l=>(vC (.slice e') (.slice e) l).bind fun y=>some (y,[id])
   | _=>none
  | _=>none
 | .full e' l=>match τ with
  | .slice e=>(vC (.slice e') (.slice e) l).bind fun y=>some (y,[])
  | _=>none
 | _=>none
def wV:(ts:List Ty)->List (zj E)->List (Blk E)->Option (HL E.T ts×List Nat)
 | [],[],_=>some ((),[])
 | t::ts,p::ps,H=>(vz t p H).bind fun x=>(wV ts ps H).bind fun y=>some ((x.1,y.1),x.2++y.2)
 | _,_,_=>none
def toT (τ:Ty) (p:zj E) (H:List (Blk E)):Option (Den E.T τ×List Nat) :=
 match p,τ with
 | .agg cs,.named n=>(wV (E.leaves n) cs H).bind fun x=>some (E.pack n x.1,x.2)
 | p,τ=>vz τ p H
def X1:(ts:List Ty)->List (zj E)->List (Blk E)->Option (HL E.T ts×List Nat)
 | [],[],_=>some ((),[])
 | t::ts,p::ps,H=>(toT t p H).bind fun x=>(X1 ts ps H).bind fun y=>some ((x.1,y.1),x.2++y.2)
 | _,_,_=>none
def zsX (τ:Ty) (p:zj E):Option (Den E.T τ):=(toT τ p []).bind fun x=>some x.1
def frz:Blk E->Blk E
 | .row _ e l=>.row false e l
 | b=>b
inductive Z where
 | bool | int (k:IntKind) | str | slice | func | ptr | map
 deriving DecidableEq
structure TI where
 size:Nat
 agg:Bool
 fields:List (Nat×Nat)
 elem:Nat
 alen:Nat
 ty:Option Ty
 zero:List Z
 bytes:Nat
 sl:Bool
 fk:Bool
 cmp:Bool
 mp:Bool:=false
def Z.toP:Z->zj E
 | .bool=>.v .bool false | .int k=>.v (.int k) (zaa k 0) | .str=>.v .str ByteArray.empty | .slice=>.nils | .func=>.nilfn | .ptr=>.nilp | .map=>.nilm
def Z.is:Z->Ty->Bool
 | .bool,.bool=>true | .int k,.int k'=>decide (k=k') | .str,.str=>true | .slice,.slice _=>true | _,_=>false
def look (tab:List (Nat×TI)) (t:Nat):Option TI:=match tab with
 | []=>none
 | (u,i)::r=>if Nat.beq u t then some i else look r t
def zgW (i:TI):zj E:=if i.agg then .agg (i.zero.map Z.toP) else match i.zero with | [z]=>z.toP | _=>.any
def zmz:Value->zj E
 | .bool b=>.v .bool b
 | .int k n=>if zoN k n then .v (.int k) (zaa k n) else .any
 | .string s=>.v .str s
 | .slice none 0 0=>.nils
 | .nilFunc=>.nilfn
 | .pointer none=>.nilp
 | .map none=>.nilm
 | .agg cs=>.agg (cs.toList.map fun | .bool b=>.v .bool b | .int k n=>if zoN k n then .v (.int k) (zaa k n) else .any | .slice none 0 0=>.nils | .string s=>.v .str s | .nilFunc=>.nilfn | .pointer none=>.nilp | _=>.any)
 | _=>.any
def sub {α:Type}(cs:List α) (off n:Nat):List α:=(cs.drop off).take n
def Vx {α:Type}(cs:List α) (off:Nat) (xs:List α):List α:=cs.take off++xs++cs.drop (off+xs.length)
def UT (i:TI) (τ:Ty):Bool:=match i.ty with | some σ=>decide (σ=τ) | none=>false
def zi7 (i:TI) (cs:List (zj E)):Dec E (zj E) :=
 if Nat.beq cs.length i.size then (if i.agg then .ret (.agg cs) else match cs with | [c]=>.ret c | _=>.fail) else .fail
def zeg (e:Ty) (x:Den E.T e):List (zj E):=uU (.v e x)
def zkn {α:Type}:List (zj E)->Dec E α->Dec E α
 | [],k=>k
 | .own id::r,k=>.rd id fun
  | .rowh e l n j=>.rd j fun
   | .row true e' l'=>match vC (.slice e') (.slice e) l' with
    | some l'=>.wr j (.row false e l') (.wr id (.row true (.slice e) (l.set n l')) (zkn r k))
    | none=>.fail
   | _=>.fail
  | _=>zkn r k
 | _::r,k=>zkn r k
def zrX (n:Nat) (e:Ty) (p:zj E):Dec E (zj E) :=
 match p with
 | .eptr e' id k off=>if Nat.beq k 0&&Nat.beq off 0&&decide (e=e')&&e.leaf then .rd id fun
   | .row _ e2 l=>match vC (.slice e2) (.slice e) l with
    | some l=>.br (decide (l.length=n)) (.ret (.v (.arr n e) l)) .fail
    | none=>.fail
   | _=>.fail
  else .fail
 | _=>.fail
def zcO (i:TI):Option (Nat×Ty):=match i.ty with
 | some (.arr n e)=>some (n,e)
 | _=>none
def zvY (mv:Bool) (i:TI) (p:zj E):Dec E (zj E) :=
 match zcO i with
 | some (n,e)=>zrX n e p
 | none=>match p with
 | .ptr id off=>.rd id fun
  | .box _ cs=>if mv then zkn (sub cs off i.size) (zi7 i (sub cs off i.size)) else zi7 i (sub cs off i.size)
  | _=>.fail
 | .eptr e id n off=>.rd id fun
  | .rowh e' l n' k=>if Nat.beq off 0&&decide (e= .slice e') then .br (decide (n=n')) (zi7 i [.own k]) .fail else .fail
  | .row _ e' l=>match vC (.slice e') (.slice e) l with
   | some l=>.opt _ (l[n]?) fun x=>if (zeg e x).all zj.leaf then zi7 i (sub (zeg e x) off i.size) else .fail
   | none=>.fail
  | _=>.fail
 | .rptr cs=>zi7 i (sub cs 0 i.size)
 | _=>.fail
def zaG {α:Type}(τ:Ty) (p:zj E) (k:Den E.T τ->Dec E α):Dec E α :=
 match p with
 | .own id=>.rd id fun
  | .row _ e l=>.wr id (.row false e l) (match zsX τ (.v (.slice e) l) with | some y=>k y | none=>.fail)
  | _=>.fail
 | .agg cs=>typedAgg cs []
 | p=>match zsX τ p with | some y=>k y | none=>.fail
where
 typedAgg:List (zj E)->List (zj E)->Dec E α
  | [],acc=>match zsX τ (.agg acc) with | some y=>k y | none=>.fail
  | .own id::r,acc=>.rd id fun
   | .row _ e l=>.wr id (.row false e l) (typedAgg r (acc++[.v (.slice e) l]))
   | _=>.fail
  | c::r,acc=>typedAgg r (acc++[c])
def zsN (n:Nat) (e:Ty) (p x:zj E):Dec E (zj E) :=
 match p,x with
 | .eptr e' id k off,.v (.arr n' e2) l'=>if Nat.beq k 0&&Nat.beq off 0&&decide (e=e')&&e.leaf&&decide (e2=e)&&Nat.beq n' n then .rd id fun
   | .row true e3 l=>match vC (E:=E) (.slice e2) (.slice e3) l' with
    | some l'=>.br (decide (l.length=n)) (.wr id (.row true e3 l') (.ret .skip)) .fail
    | none=>.fail
   | _=>.fail
  else .fail
 | _,_=>.fail
def zte (e:Ty) (id n:Nat) (x:zj E):Dec E (zj E) :=
 match e,x with
 | .slice e,.own k=>.rd id fun
  | .row true e' l=>match vC (E:=E) (.slice e') (.slice (.slice e)) l with
   | some l=>.rd k fun
    | .row true e2 l2=>if decide (e2=e) then .wr id (.rowh e l n k) (.ret .skip) else .fail
    | _=>.fail
   | none=>.fail
  | _=>.fail
 | _,_=>.fail
def ztF (mv:Bool) (i:TI) (p x:zj E):Dec E (zj E) :=
 match zcO i with
 | some (n,e)=>zsN n e p x
 | none =>
 let cx:=uU x
 if Nat.beq cx.length i.size&&cx.all zj.leaf then
  match p with
  | .ptr id off=>.rd id fun
   | .box true cs=>if Nat.ble (off+i.size) cs.length then .wr id (.box true (Vx cs off cx)) (.ret .skip) else .fail
   | _=>.fail
  | .eptr e id n off =>
   if Nat.beq off 0&&UT i e then
    if mv then zte e id n x else
    zaG e x fun z=>.rd id fun
     | .row true e' l=>match vC (.slice e') (.slice e) l with
      | some l=>.wr id (.row true e (l.set n z)) (.ret .skip)
      | none=>.fail
     | _=>.fail
   else .fail
  | _=>.fail
 else .fail
def zjS (s:TI) (p:zj E) (f:Nat):Dec E (zj E) :=
 match s.fields[f]? with
 | some (off,_)=>match p with
  | .ptr id o=>.ret (.ptr id (o+off))
  | .eptr e id n o=>.ret (.eptr e id n (o+off))
  | .rptr cs=>.ret (.rptr (cs.drop off))
  | _=>.fail
 | none=>.fail
def zlB:zj E->Option (List (zj E))
 | .agg cs=>some cs
 | .v (.named n) x=>some (HL.toP (E.leaves n) (E.unpack n x))
 | _=>none
def zs8 (tab:List (Nat×TI)) (s:TI) (p:zj E) (f:Nat):Dec E (zj E) :=
 match s.fields[f]? with
 | some (off,t)=>match look tab t with
  | some i=>match zlB p with
   | some cs=>zi7 i (sub cs off i.size)
   | none=>.fail
  | none=>.fail
 | none=>.fail
def vR:(t:Ty)->Option (Den E.T t)
 | .bool=>some false | .int k=>some (zaa k 0) | .str=>some ByteArray.empty | .slice _=>some [] | _=>none
def choose (i:Int):Nat->(Nat->Dec E (zj E))->Dec E (zj E)
 | 0,_=>.fail
 | n+1,k=>.br (decide (i=(n:Int))) (k n) (choose i n k)
def zjQ (s u:TI) (p:zj E) (i:Int):Dec E (zj E) :=
 if s.sl then
  match p with
  | .v (.slice e) l=>if UT u e then .opt _ (idx l i) fun x=>if (zeg e x).all zj.leaf then .ret (.rptr (zeg e x)) else .fail else .fail
  | .full e l=>if UT u e then .opt _ (idx l i) fun x=>if (zeg e x).all zj.leaf then .ret (.rptr (zeg e x)) else .fail else .fail
  | .own id=>.rd id fun
   | .row _ e l=>if UT u e then .opt _ (Yh l i) fun n=>.ret (.eptr e id n 0) else .fail
   | .rowh e l _ _=>if UT u (.slice e) then .opt _ (Yh l i) fun n=>.ret (.eptr (.slice e) id n 0) else .fail
   | _=>.fail
  | .bsl id n=>choose i n fun k=>.ret (.ptr id (k*u.size))
  | _=>.fail
 else match p with
 | .ptr id off=>if s.agg then choose i s.alen fun k=>.ret (.ptr id (off+k*u.size)) else .fail
 | .eptr e id k off=>if s.agg&&Nat.blt 0 s.alen&&Nat.beq k 0&&Nat.beq off 0&&UT u e then .rd id fun
   | .row _ e' l=>if decide (e'=e) then .opt _ (zd1 l s.alen i) fun n=>.ret (.eptr e id n 0) else .fail
   | _=>.fail
  else .fail
 | _=>.fail
def zlI (s u:TI) (p:zj E) (i:Int):Dec E (zj E) :=
 match p with
 | .v (.arr n e) l=>if s.agg&&Nat.blt 0 s.alen&&Nat.beq n s.alen&&UT u e&&e.leaf then .opt _ (zd1 l s.alen i) fun k=>.opt _ (l[k]?) fun x=>.ret (.v e x) else .fail
 | .agg cs=>if s.agg&&Nat.blt 0 s.alen&&Nat.beq cs.length s.alen&&Nat.beq u.size 1&& !u.agg then choose i s.alen fun k=>match cs[k]? with | some x=>.ret x | none=>.fail else .fail
 | _=>.fail
def zts (i:TI) (fresh:Nat):Dec E (zj E) :=
 match zcO i with
 | some (n,e)=>match vR (E:=E) e with
  | some z=>if Nat.blt 0 n&&i.zero.all (fun q=>q.is e) then .wr fresh (.row true e (List.replicate n z)) (.ret (.eptr e fresh 0 0)) else .fail
  | none=>.fail
 | none=>.wr fresh (.box true (i.zero.map Z.toP)) (.ret (.ptr fresh 0))
def zyu (i:TI) (fresh:Nat) (x:zj E):Dec E (zj E) :=
 match zcO i with
 | some (n,e)=>match x with
  | .v (.arr n' e') l=>if Nat.blt 0 n&&Nat.beq n n'&&e'.leaf&&decide (e=e') then .wr fresh (.row true e' l) (.ret (.eptr e' fresh 0 0)) else .fail
  | _=>.fail
 | none=>if Nat.beq (uU x).length i.size&&(uU x).all zj.leaf then .wr fresh (.box true (uU x)) (.ret (.ptr fresh 0)) else .fail
def Wq (p:Option (zj E)) (d:Int):Option Int:=match p with
 | none=>some d
 | some (.v (.int .i64) x)=>some x
 | _=>none
def zqC (i:TI) (u:Option TI) (e:Ty):Bool:=i.sl&&(match u with | some u=>UT u e | none=>false)
def zsP (i:TI) (u:Option TI) (mv:Bool) (fresh:Nat) (p:zj E) (lo hi mx:Option (zj E)):Dec E (zj E) :=
 match mx with
 | none=>match p with
  | .v (.slice e) l=>if zqC i u e then (match Wq lo 0,Wq hi l.length with
   | some a,some b=>.opt _ (cut l a b) fun l'=>.ret (.v (.slice e) l')
   | _,_=>.fail) else .fail
  | .v .str s=>if UT i .str then (match Wq lo 0,Wq hi s.size with
   | some a,some b=>.br (decide (0<=a)&&decide (a<=b)&&decide (b<=s.size)) (.ret (.v .str (s.extract a.toNat b.toNat))) .fail
   | _,_=>.fail) else .fail
  | .nils=>if i.sl&&u.isSome then (match Wq lo 0,Wq hi 0 with
   | some a,some b=>.br (decide (a=0)&&decide (b=0)) (.ret .nils) .fail
   | _,_=>.fail) else .fail
  | .own id=>.rd id fun
   | .row w e l=>if zqC i u e then (match Wq lo 0,Wq hi l.length with
    | some a,some b =>
     if mv then (if w then .opt _ (cut l a b) fun l'=>.wr id .dead (.wr fresh (.row true e l') (.ret (.own fresh))) else .fail)
     else .wr id (.row false e l) (.opt _ (cut l a b) fun l'=>.ret (.v (.slice e) l'))
    | _,_=>.fail) else .fail
   | _=>.fail
  | _=>.fail
 | some m=>match p with
  | .v (.slice e) l=>if zqC i u e then (match Wq lo 0,hi,Wq (some m) 0 with
   | some a,some b,some c=>match Wq (some b) 0 with
    | some b=>.br (decide (a=0)&&decide (b=0)&&decide (c=0)) (.ret .nils)
     (.br (decide (a=0)&&decide (b=l.length)&&decide (c=l.length)) (.ret (.full e l)) (.br (decide (b=c)) (.opt _ (cut l a b) fun l'=>.ret (.v (.slice e) l')) .fail))
    | none=>.fail
   | _,_,_=>.fail) else .fail
  | .nils=>if i.sl&&u.isSome then (match Wq lo 0,hi,Wq (some m) 0 with
   | some a,some b,some c=>match Wq (some b) 0 with
    | some b=>.br (decide (a=0)&&decide (b=0)&&decide (c=0)) (.ret .nils) .fail
    | none=>.fail
   | _,_,_=>.fail) else .fail
  | .own id=>.rd id fun
   | .row _ e l=>if zqC i u e then (match Wq lo 0,hi,Wq (some m) 0 with
    | some a,some b,some c=>match Wq (some b) 0 with
     | some b=>.br (decide (a=0)&&decide (b=0)&&decide (c=0)) (.wr id (.row false e l) (.ret .nils))
      (.br (decide (a=0)&&decide (b=l.length)&&decide (c=l.length)) (.wr id (.row false e l) (.ret (.full e l))) .fail)
     | none=>.fail
    | _,_,_=>.fail) else .fail
   | _=>.fail
  | _=>.fail
def zyx (i:TI) (p:zj E):Dec E (zj E) :=
 if i.sl then
  match p with
  | .v (.slice _) l=>.ret (.v (.int .i64) (l.length:Int))
  | .full _ l=>.ret (.v (.int .i64) (l.length:Int))
  | .nils=>.ret (.v (.int .i64) (0:Int))
  | .bsl _ n=>.ret (.v (.int .i64) (n:Int))
  | .own id=>.rd id fun
   | .row _ _ l=>.ret (.v (.int .i64) (l.length:Int))
   | _=>.fail
  | _=>.fail
 else if UT i .str then
  match p with
  | .v .str s=>.ret (.v (.int .i64) (s.size:Int))
  | _=>.fail
 else .fail
def zpl:(ts:List Ty)->Option (HL E.T ts)
 | []=>some ()
 | t::ts=>match vR (E:=E) t,zpl ts with | some x,some y=>some (x,y) | _,_=>none
def zmu (t:Ty):Option (Den E.T t):=match t with
 | .named n=>(zpl (E:=E) (E.leaves n)).map (E.pack n)
 | t=>vR t
def zmx (e:Ty) (fresh:Nat) (p:zj E) (l2:List (Den E.T e)):Dec E (zj E) :=
 match p with
 | .nils=>.opt _ (vQ l2) fun l=>.wr fresh (.row true e l) (.ret (.own fresh))
 | .own id=>.rd id fun
  | .row true e' l=>match vC (.slice e') (.slice e) l with
   | some l=>.opt _ (vQ (l++l2)) fun l'=>.wr id .dead (.wr fresh (.row true e l') (.ret (.own fresh)))
   | none=>.fail
  | _=>.fail
 | .full e' l=>match vC (.slice e') (.slice e) l with
  | some l=>match l2 with
   | []=>.fail
   | _::_=>.opt _ (vQ (l++l2)) fun l'=>.wr fresh (.row true e l') (.ret (.own fresh))
  | none=>.fail
 | _=>.fail
def zqP (e:Ty) (fresh:Nat) (p x:zj E):Dec E (zj E):=zaG (.slice e) x (zmx e fresh p)
def zy7 (e:Ty) (p:zj E) (l2:List (Den E.T e)):Dec E (zj E) :=
 match p with
 | .own id=>.rd id fun
  | .row true e' l=>match vC (.slice e') (.slice e) l with
   | some l=>.br (decide (l2.length=l.length)) (.br l2.isEmpty (.ret (.v (.int .i64) (0:Int))) (.wr id (.row true e l2) (.ret (.v (.int .i64) (l2.length:Int))))) .fail
   | none=>.fail
  | _=>.fail
 | _=>.fail
def zvH (e:Ty) (p x:zj E):Dec E (zj E):=zaG (.slice e) x (zy7 e p)
def zeO (n:Int):Option Nat:=zfB (fun n:Int=>bif decide (0<n)&&decide (n<4294967296) then some n.toNat else none) n
theorem zo9 (n:Int):zeO n=bif decide (0<n)&&decide (n<4294967296) then some n.toNat else none:=by delta zeO;rw [VI]
def znZ (e:Ty) (fresh:Nat) (p x:zj E):Dec E (zj E) :=
 match zmu (E:=E) e,x with
 | some z,.v (.int .i64) n=>.opt _ (zeO n) fun k=>match p with
  | .full _ _=>.fail
  | p=>zmx e fresh p (List.replicate k z)
 | _,_=>.fail
def zjU (e:Ty) (fresh:Nat) (p c:zj E):Dec E (zj E) :=
 match p,c with
 | .v (.int .i64) n,.v (.int .i64) m=>match zmu e with
  | some z=>.br (decide (n=m)) (.opt _ (U5 n) fun k=>.wr fresh (.row true e (List.replicate k z)) (.ret (.own fresh))) .fail
  | none=>.fail
 | _,_=>.fail
def zhq (fields:Nat->Option (Nat×Nat)) (cs:List (zj E)):List (Nat×zj E)->Option (List (zj E))
 | []=>some cs
 | (i,x)::r=>match fields i with
  | some (off,n)=>if Nat.beq (uU x).length n&&Nat.ble (off+n) cs.length then zhq fields (Vx cs off (uU x)) r else none
  | none=>none
def zsx (tab:List (Nat×TI)) (i:TI) (parts:List (Nat×zj E)):Dec E (zj E) :=
 let place (j:Nat):Option (Nat×Nat):=match i.fields[j]? with
  | some (off,t)=>(look tab t).map fun u=>(off,u.size)
  | none=>if Nat.blt j i.alen then (look tab i.elem).map fun u=>(j*u.size,u.size) else none
 if i.agg&&parts.all (fun p=>(uU p.2).all zj.leaf) then
  match zhq place (i.zero.map Z.toP) parts with
  | some cs=>.ret (.agg cs)
  | none=>.fail
 else .fail
def zeY {α:Type}(e:Ty) (k:List (Den E.T e)->Dec E α):List (zj E)->List (Den E.T e)->Dec E α
 | [],acc=>k acc
 | p::r,acc=>zaG e p fun x=>zeY e k r (acc++[x])
def ziI (i u:TI) (fresh:Nat) (len:Nat) (parts:List (Nat×zj E)):Dec E (zj E) :=
 if i.sl&&decide (parts.map (·.1)=List.range len)&&Nat.ble (len*u.size) 16777216 then
  match i.ty with
  | some (.slice e)=>zeY e (fun l=>.wr fresh (.row true e l) (.ret (.own fresh))) (parts.map (·.2)) []
  | _=>if Nat.beq u.size 1&&parts.all (fun p=>p.2.leaf) then .wr fresh (.box true (parts.map (·.2))) (.ret (.bsl fresh len)) else .fail
 else .fail
def zld (i:TI) (p q:zj E):Option Bool:=match p,q with
 | .v .bool a,.v .bool b=>if UT i .bool then some (decide (a=b)) else none
 | .v (.int k) a,.v (.int k') b=>if UT i (.int k) then (vC (E:=E) (.int k') (.int k) b).map fun b=>ieq k a b else none
 | .v .str a,.v .str b=>if UT i .str then some (decide (a=b)) else none
 | .nilfn,.nilfn=>if i.fk then some true else none
 | .nilfn,.fn _ _=>if i.fk then some false else none
 | .fn _ _,.nilfn=>if i.fk then some false else none
 | _,_=>none
def zfA:List (Option Bool)->Option Bool
 | []=>some true
 | [a]=>a
 | a::r=>match a,zfA r with | some x,some y=>some (x&&y) | _,_=>none
def eqT (tab:List (Nat×TI)):Nat->TI->List (zj E)->List (zj E)->Option Bool
 | 0,_,_,_=>none
 | d+1,i,ps,qs =>
  if i.agg then
   if i.cmp then
    if Nat.beq i.alen 0 then zfA (i.fields.map fun f=>match look tab f.2 with | some u=>eqT tab d u (sub ps f.1 u.size) (sub qs f.1 u.size) | none=>none)
    else match look tab i.elem with
     | some u=>zfA ((List.range i.alen).map fun j=>eqT tab d u (sub ps (j*u.size) u.size) (sub qs (j*u.size) u.size))
     | none=>none
   else none
  else match ps,qs with
   | [p],[q]=>zld i p q
   | _,_=>none
def WY (b:Bool):Dec E (zj E):= .ret (.v .bool b)
def Y0 (k:IntKind) (o:Option (z6 k)):Dec E (zj E):=match o with | some x=>.ret (.v (.int k) x) | none=>.fail
def zjC:(k:IntKind)->z6 k->Bool
 | k,x=>ieq k x (zaa k 0)
def eqD (tab:List (Nat×TI)) (i:TI) (p q:zj E):Option Bool :=
 if i.agg then match zlB p,zlB q with | some a,some b=>eqT tab 50 i a b | _,_=>none else zld i p q
def zyj (tab:List (Nat×TI)) (i:TI) (op:BinOp) (p q:zj E):Dec E (zj E) :=
 match op with
 | .eql=>match eqD tab i p q with | some b=>WY b | none=>.fail
 | .neq=>match eqD tab i p q with | some b=>WY (!b) | none=>.fail
 | .shl=>match p,q with
  | .v (.int k) a,.v (.int .i64) n=>.br (decide (n<0)) .fail (Y0 k (ztd k a (min n.toNat k.bits)))
  | .v (.int k) a,.v (.int .u64) n=>Y0 k (ztd k a (min n.toNat k.bits))
  | _,_=>.fail
 | .shr=>match p,q with
  | .v (.int k) a,.v (.int .i64) n=>.br (decide (n<0)) .fail (Y0 k (zs0 k a (min n.toNat k.bits)))
  | .v (.int k) a,.v (.int .u64) n=>Y0 k (zs0 k a (min n.toNat k.bits))
  | _,_=>.fail
 | op=>match p,q with
  | .v (.int k) a,.v (.int k') b=>match vC (E:=E) (.int k') (.int k) b with
   | some b=>match op with
    | .add=>Y0 k (zy1 k a b) | .sub=>Y0 k (zyI k a b) | .mul=>Y0 k (zy4 k a b)
    | .quo=>.br (zjC k b) .fail (Y0 k (zqi k a b)) | .rem=>.br (zjC k b) .fail (Y0 k (zyE k a b))
    | .and=>Y0 k (zyX k a b) | .or=>Y0 k (ior k a b) | .xor=>Y0 k (zyR k a b) | .andNot=>Y0 k (zqw k a b)
    | .lss=>WY (ilt k a b) | .leq=>WY (ile k a b) | .gtr=>WY (ilt k b a) | .geq=>WY (ile k b a)
    | _=>.fail
   | none=>.fail
  | .v .str a,.v .str b=>match op with
   | .add=>.br (decide (a.size+b.size<4294967296)) (.ret (.v .str (a++b))) .fail
   | _=>.fail
  | _,_=>.fail
def unD (op:UnOp) (p:zj E):Dec E (zj E) :=
 match op,p with
 | .not,.v .bool b=>WY (!b)
 | .neg,.v (.int .u64) x=>.ret (.v (.int .u64) (0-x))
 | .neg,.v (.int .i64) x=>.ret (.v (.int .i64) (w64 (0-x)))
 | .xor,.v (.int .u64) x=>.ret (.v (.int .u64) (~~~x))
 | _,_=>.fail
def zvZ (d:TI) (p:zj E):Dec E (zj E) :=
 match p,d.ty with
 | .v (.int k) x,some (.int k')=>Y0 k' (zv7 k k' x)
 | .v .str s,some .str=>.ret (.v .str s)
 | _,_=>.fail
def zdS (i:Int) (z:zj E) (ok:Bool):List (zj E×zj E)->Dec E (zj E)
 | []=>.ret (if ok then .tuple [z,.v .bool false] else z)
 | (.v (.int .i64) k,x)::r=>.br (decide (i=k)) (.ret (if ok then .tuple [x,.v .bool true] else x)) (zdS i z ok r)
 | _::_=>.fail
def znA (i:TI) (z:zj E) (p k:zj E) (ok:Bool):Dec E (zj E) :=
 if i.mp then match k with
 | .v (.int .i64) n=>match p with
  | .map id=>.rd id fun
   | .map _ es=>zdS n z ok es
   | _=>.fail
  | .nilm=>.ret (if ok then .tuple [z,.v .bool false] else z)
  | _=>.fail
 | _=>.fail
 else .fail
def zle (id:Nat) (i:Int) (x:zj E):List (zj E×zj E)->List (zj E×zj E)->Dec E (zj E)
 | acc,[]=>.wr id (.map true (acc++[(.v (.int .i64) i,x)])) (.ret .skip)
 | acc,(.v (.int .i64) k,y)::r=>.br (decide (i=k)) (.wr id (.map true (acc++(.v (.int .i64) i,x)::r)) (.ret .skip)) (zle id i x (acc++[(.v (.int .i64) k,y)]) r)
 | _,_=>.fail
def zpS (i:TI) (p k x:zj E):Dec E (zj E) :=
 if i.mp then match k with
 | .v (.int .i64) n=>match p with
  | .map id=>.rd id fun
   | .map true es=>zle id n x [] es
   | _=>.fail
  | _=>.fail
 | _=>.fail
 else .fail
def zwu:Operand->Bool
 | .const (.slice none 0 0)=>true
 | _=>false
def zse (i:TI) (op:BinOp) (p:zj E):Dec E (zj E) :=
 if i.sl then
  match op with
  | .eql=>go fun b=>b
  | .neq=>go fun b=> !b
  | _=>.fail
 else .fail
where
 go (f:Bool->Bool):Dec E (zj E):=match p with
  | .v (.slice _) l=>.br l.isEmpty (.any fun b=>WY (f b)) (WY (f false))
  | .nils=>.any fun b=>WY (f b)
  | .own id=>.rd id fun
   | .row _ _ l=>.br l.isEmpty (.any fun b=>WY (f b)) (WY (f false))
   | _=>.fail
  | .bsl _ _=>WY (f false)
  | _=>.fail
def opD (tab:List (Nat×TI)) (mv:Bool) (fresh:Nat) (ρ:Operand->zj E) (o:Op):Dec E (zj E) :=
 let T {α:Type}(t:Nat) (k:TI->Dec E α):Dec E α:=match look tab t with | some i=>k i | none=>.fail
 match o with
 | .move x | .assign x=>.ret (ρ x)
 | .pick c a b=>match ρ c with
  | .v .bool t=>.br t (.ret (ρ a)) (.ret (ρ b))
  | _=>.fail
 | .alloc t=>T t fun i=>zts i fresh
 | .box t x=>T t fun i=>zyu i fresh (ρ x)
 | .build t parts=>T t fun i=>zsx tab i (parts.toList.map fun p=>(p.1,ρ p.2))
 | .buildSlice t len parts=>T t fun i=>T i.elem fun u=>ziI i u fresh len (parts.toList.map fun p=>(p.1,ρ p.2))
 | .load t a=>T t fun i=>zvY mv i (ρ a)
 | .store t a x=>T t fun i=>ztF mv i (ρ a) (ρ x)
 | .nilCheck x=>match ρ x with
  | .ptr id off=>.ret (.ptr id off) | .eptr e id n off=>.ret (.eptr e id n off) | .rptr cs=>.ret (.rptr cs) | .fn f cs=>.ret (.fn f cs) | _=>.fail
 | .binOp op t x y _=>T t fun i=>if zwu y then zse i op (ρ x) else zyj tab i op (ρ x) (ρ y)
 | .unOp op _ x=>unD op (ρ x)
 | .convert s d x=>T s fun _=>T d fun i=>zvZ i (ρ x)
 | .makeFunc (.func f) first captured=>if first.isEmpty then .ret (.fn f (captured.toList.map ρ)) else if captured.isEmpty then .ret (.bfn f (first.toList.map ρ)) else .fail
 | .makeSlice t l c=>T t fun i=>match i.ty with | some (.slice e)=>zjU e fresh (ρ l) (ρ c) | _=>.fail
 | .slice t x lo hi mx=>T t fun i=>zsP i (look tab i.elem) mv fresh (ρ x) (lo.map ρ) (hi.map ρ) (mx.map ρ)
 | .fieldAddr t x f=>T t fun i=>zjS i (ρ x) f
 | .field t x f=>T t fun i=>zs8 tab i (ρ x) f
 | .indexAddr t x ix=>T t fun i=>T i.elem fun u=>match ρ ix with
  | .v (.int .i64) k=>zjQ i u (ρ x) k
  | _=>.fail
 | .index t x ix=>T t fun i=>T i.elem fun u=>match ρ ix with
  | .v (.int .i64) k=>zlI i u (ρ x) k
  | _=>.fail
 | .makeMap _ none=>.wr fresh (.map true []) (.ret (.map fresh))
 | .insert t m k x=>T t fun i=>zpS i (ρ m) (ρ k) (ρ x)
 | .lookup t m k ok=>T t fun i=>T i.elem fun u=>znA i (zgW u) (ρ m) (ρ k) ok
 | .extract t n=>match ρ t with
  | .tuple vs=>match vs[n]? with | some p=>.ret p | none=>.fail
  | _=>.fail
 | .call {callee:= .builtin .len,args,argTypes}=>match argTypes[0]?,args[0]? with
  | some t,some x=>T t fun i=>zyx i (ρ x)
  | _,_=>.fail
 | .call {callee:= .builtin .append,args,argTypes}=>match argTypes.toList,args.toList with
  | [t,t2],[x,y]=>T t fun i=>T t2 fun j=>match i.ty with
   | some (.slice e)=>if j.sl then zqP e fresh (ρ x) (ρ y) else if UT j (.int .i64) then znZ e fresh (ρ x) (ρ y) else .fail
   | _=>.fail
  | _,_=>.fail
 | .call {callee:= .builtin .copy,args,argTypes}=>match argTypes.toList,args.toList with
  | [t,t2],[x,y]=>T t fun i=>T t2 fun j=>match i.ty with
   | some (.slice e)=>if j.sl then zvH e (ρ x) (ρ y) else .fail
   | _=>.fail
  | _,_=>.fail
 | .call {callee:= .builtin .min,args,..}=>match args.toList.map ρ with
  | [.v (.int .i64) a,.v (.int .i64) b]=>Y0 .i64 (znf .i64 a b)
  | [.v (.int .u64) a,.v (.int .u64) b]=>Y0 .u64 (znf .u64 a b)
  | [.v (.int .i64) a,.v (.int .i64) b,.v (.int .i64) c]=>match znf .i64 a b with | some x=>Y0 .i64 (znf .i64 x c) | none=>.fail
  | _=>.fail
 | .call {callee:= .builtin .max,args,..}=>match args.toList.map ρ with
  | [.v (.int .i64) a,.v (.int .i64) b]=>Y0 .i64 (znu .i64 a b)
  | [.v (.int .u64) a,.v (.int .u64) b]=>Y0 .u64 (znu .u64 a b)
  | [.v (.int .i64) a,.v (.int .i64) b,.v (.int .i64) c]=>match znu .i64 a b with | some x=>Y0 .i64 (znu .i64 x c) | none=>.fail
  | _=>.fail
 | _=>.fail
end
end Go.Pe
namespace Go.Pe
noncomputable section
variable {E:yG}
inductive SK where
 | any | val (τ:Ty) | ptr (j:Nat) | own (j:Nat) | fn (f:FuncId) (caps:List SK) | bsl (j n:Nat) | nilfn | nils | fns (fs:List FuncId) | map (j:Nat) | yld | full (e:Ty) | aptr (e:Ty) (j:Nat)
inductive BK where
 | box (w:Bool) (ks:List SK) | row (w:Bool) (e:Ty) | gone | map (es:List (Int×SK))
structure wn where
 vals:List SK
 blks:List BK
mutual
def SK.holes:SK->List Ty
 | .val τ=>[τ]
 | .full e=>[.slice e]
 | .yld=>[.int .i64,.int .i64]
 | .fn _ ks=>SK.holesL ks
 | _=>[]
def SK.holesL:List SK->List Ty
 | []=>[]
 | k::ks=>k.holes++SK.holesL ks
end
def BK.holes:BK->List Ty
 | .box _ ks=>SK.holesL ks
 | .row _ e=>[.slice e]
 | .gone=>[]
 | .map es=>SK.holesL (es.map (·.2))
def BK.holesL:List BK->List Ty
 | []=>[]
 | b::bs=>b.holes++BK.holesL bs
def wn.holes (S:wn):List Ty:=SK.holesL S.vals++BK.holesL S.blks
def zml (e:Ty) (p:zj E):zj E:=match p with
 | .v (.slice e') l=>match vC (E:=E) (.slice e') (.slice e) l with | some l=>.full e l | none=>.any
 | _=>.any
def zr5 (p q:zj E):zj E:=match p,q with
 | .v (.int .i64) n,.v (.int .i64) i=>.yld n i
 | _,_=>.any
mutual
def xS (N:Nat->Nat):SK->List (zj E)->zj E×List (zj E)
 | .any,r=>(.any,r)
 | .val _,p::r=>(p,r)
 | .val _,[]=>(.any,[])
 | .full e,p::r=>(zml e p,r)
 | .full _,[]=>(.any,[])
 | .aptr e j,r=>(.eptr e (N j) 0 0,r)
 | .ptr j,r=>(.ptr (N j) 0,r)
 | .own j,r=>(.own (N j),r)
 | .bsl j n,r=>(.bsl (N j) n,r)
 | .nilfn,r=>(.nilfn,r)
 | .nils,r=>(.nils,r)
 | .fns fs,r=>(.agg (fs.map fun f=>.fn f []),r)
 | .map j,r=>(.map (N j),r)
 | .yld,p::q::r=>(zr5 p q,r)
 | .yld,r=>(.any,r)
 | .fn f ks,r=>let x:=yC N ks r;(.fn f x.1,x.2)
def yC (N:Nat->Nat):List SK->List (zj E)->List (zj E)×List (zj E)
 | [],r=>([],r)
 | k::ks,r=>let x:=xS N k r;let y:=yC N ks x.2;(x.1::y.1,y.2)
end
def wS (N:Nat->Nat):BK->List (zj E)->Blk E×List (zj E)
 | .box w ks,r=>let x:=yC N ks r;(.box w x.1,x.2)
 | .row w e,p::r=>(match p with | .v (.slice e') l=>(match vC (E:=E) (.slice e') (.slice e) l with | some l=>.row w e l | none=>.free) | _=>.free,r)
 | .row _ _,[]=>(.free,[])
 | .gone,r=>(.free,r)
 | .map es,r=>let x:=yC N (es.map (·.2)) r;(.map false (((es.map (·.1)).map fun k=>zj.v (.int .i64) k).zip x.1),x.2)
def yF (N:Nat->Nat):List BK->List (zj E)->List (Blk E)
 | [],_=>[]
 | b::bs,r=>let x:=wS N b r;x.1::yF N bs x.2
def yL (N:Nat->Nat) (S:wn) (ps:List (zj E)):List (zj E)×List (Blk E) :=
 let x:=yC N S.vals ps
 (x.1,yF N S.blks x.2)
abbrev Ren:=List (Nat×Option Nat)
def Ren.get (ρ:Ren) (j:Nat):Option (Option Nat):=match ρ with
 | []=>none
 | (i,x)::r=>if Nat.beq i j then some x else Ren.get r j
def Ren.bind (ρ:Ren) (j:Nat) (x:Option Nat):Option Ren:=match ρ.get j with
 | none=>some (ρ++[(j,x)])
 | some (some y)=>match x with | some z=>if Nat.beq y z then some ρ else none | none=>none
 | some none=>none
def zqk:List FuncId->List (zj E)->Bool
 | [],[]=>true
 | f::fs,.fn g []::ps=>Nat.beq f g&&zqk fs ps
 | _,_=>false
theorem zqU:∀(fs:List FuncId) (ps:List (zj E)),zqk fs ps=true->ps=fs.map fun f=>.fn f []
 | [],[],_=>rfl
 | f::fs,.fn g []::ps,h=>by
  simp only [zqk,zBl] at h;rw [zCo,zqU fs ps h.2,zBs h.1]
 | [],_::_,h=>by simp [zqk] at h
 | _::_,[],h=>by simp [zqk] at h
mutual
def xM:SK->zj E->Ren×List (zj E)->Option (Ren×List (zj E))
 | .any,_,s=>some s
 | .val _,p,s=>some (s.1,s.2++[p])
 | .ptr j,.ptr id off,s=>if Nat.beq off 0 then (s.1.bind j (some id)).map fun ρ=>(ρ,s.2) else none
 | .full e,.full e' l,s=>if decide (e=e') then some (s.1,s.2++[.v (.slice e') l]) else none
 | .aptr e j,.eptr e' id k off,s=>if decide (e=e')&&Nat.beq k 0&&Nat.beq off 0 then (s.1.bind j (some id)).map fun ρ=>(ρ,s.2) else none
 | .own j,.own id,s=>(s.1.bind j (some id)).map fun ρ=>(ρ,s.2)
 | .own j,.nils,s=>(s.1.bind j none).map fun ρ=>(ρ,s.2)
 | .bsl j n,.bsl id m,s=>if Nat.beq n m then (s.1.bind j (some id)).map fun ρ=>(ρ,s.2) else none
 | .nilfn,.nilfn,s=>some s
 | .nils,.nils,s=>some s
 | .fns fs,.agg ps,s=>if zqk fs ps then some s else none
 | .map j,.map id,s=>(s.1.bind j (some id)).map fun ρ=>(ρ,s.2)
 | .yld,.yld n i,s=>some (s.1,s.2++[.v (.int .i64) n,.v (.int .i64) i])
 | .fn f ks,.fn g ps,s=>if Nat.beq f g then Zt ks ps s else none
 | _,_,_=>none
def Zt:List SK->List (zj E)->Ren×List (zj E)->Option (Ren×List (zj E))
 | [],[],s=>some s
 | k::ks,p::ps,s=>match xM k p s with | some s=>Zt ks ps s | none=>none
 | _,_,_=>none
end
def SK.solid:SK->Bool
 | .any=>false | .val τ=>τ.leaf | .yld=>false | .fns _=>false | _=>true
def zgu:List Int->List (zj E×zj E)->Bool
 | [],[]=>true
 | k::ks,(.v (.int .i64) n,_)::es=>decide (k=n)&&zgu ks es
 | _,_=>false
def v9 (H:List (Blk E)):List BK->Nat->Ren×List (zj E)->Option (Ren×List (zj E))
 | [],_,s=>some s
 | .gone::bs,j,s=>v9 H bs (j+1) s
 | b::bs,j,s=>match s.1.get j with
  | some (some id)=>match b,zn H id with
   | .box w ks,.box w' cs=>if (!w||w')&&ks.all SK.solid then (match Zt ks cs s with | some s=>v9 H bs (j+1) s | none=>none) else none
   | .row w e,.row w' e' l=>if w==w' then (match vC (E:=E) (.slice e') (.slice e) l with | some l=>v9 H bs (j+1) (s.1,s.2++[.v (.slice e) l]) | none=>none) else none
   | .map ks,.map _ es=>if zgu (ks.map (·.1)) es then (match Zt (ks.map (·.2)) (es.map (·.2)) s with | some s=>v9 H bs (j+1) s | none=>none) else none
   | _,_=>none
  | some none=>match b with
   | .row _ e=>v9 H bs (j+1) (s.1,s.2++[.v (.slice e) []])
   | _=>none
  | none=>none
def Ren.ids:Ren->List Nat
 | []=>[]
 | (_,some id)::r=>id::Ren.ids r
 | (_,none)::r=>Ren.ids r
def zg8:List Nat->Bool
 | []=>true
 | a::r=> !(r.any fun b=>Nat.beq a b)&&zg8 r
def zjp (a b:List Nat):Bool:=a.all fun x=> !(b.any fun y=>Nat.beq x y)
def Ren.under (ρ:Ren) (bs:List BK):Bool:=ρ.all fun x=>match bs[x.1]? with | some .gone=>false | some _=>true | none=>false
def Wc (ρ0:Ren) (S:wn) (ps:List (zj E)) (H:List (Blk E)):Option (HL E.T S.holes×Ren×List Nat) :=
 match Zt S.vals ps (ρ0,[]) with
 | some s=>match v9 H S.blks 0 s with
  | some s=>match X1 S.holes s.2 H with
   | some x=>if s.1.under S.blks&&zg8 s.1.ids&&zjp s.1.ids x.2 then some (x.1,s.1,x.2) else none
   | none=>none
  | none=>none
 | none=>none
structure Iso (E:yG) (ts:List Ty) where
 G:Type
 to:G->HL E.T ts
 of:HL E.T ts->G
 law:∀x,to (of x)=x
inductive Grp where
 | one (τ:Ty) | str (n:Nat)
def ZG (E:yG):List Grp->List Ty
 | []=>[]
 | .one τ::gs=>τ::ZG E gs
 | .str n::gs=>E.leaves n++ZG E gs
@[reducible] def GL (E:yG):List Grp->Type
 | []=>Unit
 | .one τ::gs=>Den E.T τ×GL E gs
 | .str n::gs=>E.T n×GL E gs
def HL.app {T:Nat->Type}:(a b:List Ty)->HL T a->HL T b->HL T (a++b)
 | [],_,_,y=>y
 | _::a,b,x,y=>(p1 x,HL.app a b (p2 x) y)
def HL.fst {T:Nat->Type}:(a b:List Ty)->HL T (a++b)->HL T a
 | [],_,_=>()
 | _::a,b,x=>(p1 x,HL.fst a b (p2 x))
def HL.snd {T:Nat->Type}:(a b:List Ty)->HL T (a++b)->HL T b
 | [],_,x=>x
 | _::a,b,x=>HL.snd a b (p2 x)
theorem HL.app_fst_snd {T:Nat->Type}:∀(a b:List Ty) (x:HL T (a++b)),HL.app a b (HL.fst a b x) (HL.snd a b x)=x
 | [],_,_=>rfl
 | _::a,b,x=>by simp only [HL.app,HL.fst,HL.snd,HL.app_fst_snd a b];rfl
def GL.to:(gs:List Grp)->GL E gs->HL E.T (ZG E gs)
 | [],_=>()
 | .one _::gs,x=>(p1 x,GL.to gs (p2 x))
 | .str n::gs,x=>HL.app (E.leaves n) (ZG E gs) (E.unpack n (p1 x)) (GL.to gs (p2 x))
def GL.of:(gs:List Grp)->HL E.T (ZG E gs)->GL E gs
 | [],_=>()
 | .one _::gs,x=>(p1 x,GL.of gs (p2 x))
 | .str n::gs,x=>(E.pack n (HL.fst (E.leaves n) (ZG E gs) x),GL.of gs (HL.snd (E.leaves n) (ZG E gs) x))
theorem GL.to_of:∀(gs:List Grp) (x:HL E.T (ZG E gs)),GL.to gs (GL.of gs x)=x
 | [],_=>rfl
 | .one _::gs,x=>by simp only [GL.to,GL.of,GL.to_of gs];rfl
 | .str n::gs,x=>by simp only [GL.to,GL.of,GL.to_of gs,E.up];exact HL.app_fst_snd _ _ _
def HL.cast {T:Nat->Type}{a b:List Ty}(h:a=b) (x:HL T a):HL T b:=h▸x
def grp {ts:List Ty}(gs:List Grp) (h:ZG E gs=ts):Iso E ts :=
 {G:=GL E gs,to:=fun g=>HL.cast h (GL.to gs g),of:=fun x=>GL.of gs (HL.cast h.symm x),law:=fun x=>by subst h;exact GL.to_of gs x}
structure zM (E:yG) where
 inn:wn
 out:wn
 gi:Iso E inn.holes
 go:Iso E out.holes
 F:gi.G->Option go.G
inductive xJ (A B C:Type) where
 | again (a:A) | brk (b:B) | ret (c:C)
structure yf (E:yG) where
 slots:List Nat
 inn:wn
 brkId:Nat
 bslots:List Nat
 brk:wn
 rslots:List Nat
 ret:wn
 gi:Iso E inn.holes
 gb:Iso E brk.holes
 gr:Iso E ret.holes
inductive Ex where
 | normal | exit (id:Nat) | ret
 deriving DecidableEq
def upd (H:List (Blk E)):List Nat->List (Blk E)
 | []=>H
 | id::r=>upd (H.set id (frz (zn H id))) r
def VB (fresh:Nat):List (Blk E)->Nat->List (Blk E)->List (Blk E)
 | [],_,H=>H
 | b::bs,t,H=>VB fresh bs (t+1) (H.set (fresh+t) b)
def wE (ρ:Ren) (fresh:Nat):List BK->List BK->List (Blk E)->Nat->List (Blk E)->Option (List (Blk E))
 | [],_,bs,_,H=>some (VB fresh bs 0 H)
 | .box true _::ks,.box true _::os,b::bs,j,H=>match ρ.get j with
  | some (some id)=>wE ρ fresh ks os bs (j+1) (H.set id b)
  | _=>none
 | .box false _::ks,.gone::os,_::bs,j,H=>wE ρ fresh ks os bs (j+1) H
 | .row true _::ks,.gone::os,_::bs,j,H=>match ρ.get j with
  | some (some id)=>wE ρ fresh ks os bs (j+1) (H.set id .dead)
  | some none=>wE ρ fresh ks os bs (j+1) H
  | none=>none
 | .row false _::ks,.gone::os,_::bs,j,H=>wE ρ fresh ks os bs (j+1) H
 | .map _::ks,.gone::os,_::bs,j,H=>wE ρ fresh ks os bs (j+1) H
 | _,_,_,_,_=>none
def zqu:List (zj E)->zj E
 | [p]=>p
 | ps=>.tuple ps
def zbT (ρ:Ren) (n fresh:Nat) (j:Nat):Nat:=if Nat.blt j n then (match ρ.get j with | some (some id)=>id | _=>fresh) else fresh+(j-n)
def Wb (H:List (Blk E)) (fresh:Nat):Nat->Bool
 | 0=>true
 | n+1=>(match zn H fresh with | .free=>true | _=>false)&&Nat.blt fresh H.length&&Wb H (fresh+1) n
def BK.handsOut:BK->Bool
 | .box w _=>w | .map _=>false | _=>true
def BK.owns:BK->Bool
 | .box w _=>w | .map _=>false | _=>true
def zbK {R:Type}(s:zM E) (fresh:Nat) (args:List (zj E)) (H:List (Blk E)) (K:zj E->List (Blk E)->Option R):Option R :=
 match Wc [] s.inn args H with
 | some (x,ρ,fz)=>(s.F (s.gi.of x)).bind fun y =>
  let n:=s.inn.blks.length;let r:=yL (zbT ρ n fresh) s.out (HL.toP s.out.holes (s.go.to y))
  match wE ρ fresh s.inn.blks s.out.blks r.2 0 (upd H fz) with
  | some H'=>if Wb H fresh (s.out.blks.length-n)&&s.out.blks.all BK.handsOut then K (zqu r.1) H' else none
  | none=>none
 | none=>none
structure ZT (E:yG) where
 inn:wn
 e:Ty
 F:HL E.T inn.holes->Option (List (Den E.T e))
structure Cfg (E:yG) where
 P:Program
 tab:List (Nat×TI)
 specs:FuncId->List (zM E)
 loops:Nat->Option (yf E)
 mv:Nat->Nat->Bool
 kept:Ren
 pick:Nat->Nat->List Nat
 yl:Bool
 ye:Ty
 yd:List (Den E.T ye)
 iters:FuncId->Option (ZT E)
abbrev Inl (E:yG) (R:Type):=FuncId->List (zj E)->List (Blk E)->(zj E->List (Blk E)->Option R)->Option R
def zh0:∀R,Inl E R:=fun _ _ _ _ _=>none
def u4 (env:List (zj E)):Operand->zj E
 | .tmp t=>(env[t]?).getD .any
 | .const v=>zmz v
 | .func f=>.fn f []
 | .global _=>.any
def put (env:List (zj E)) (d:Option Nat) (p:zj E):List (zj E):=match d with | some t=>env.set t p | none=>env
def Vf (env:List (zj E)) (o:Op):Option (FuncId×List (zj E)):=match o with
 | .call {callee:= .value f,args,..}=>match u4 env f with
  | .fn g caps=>some (g,args.toList.map (u4 env)++caps)
  | .bfn g first=>some (g,first++args.toList.map (u4 env))
  | _=>none
 | _=>none
variable (C:Cfg E)
def Y7 {R:Type}(ops:Array Oper) (o:Oper) (env:List (zj E)) (K:Bool->List (zj E)->Option R):Option R :=
 match o.guard with
 | none=>K true env
 | some (j,want)=>match (ops[j]?).bind (·.dst) with
  | none=>none
  | some d=>match (env[d]?).getD .any with
   | .v .bool b=>bif b then K want (env.set d (.v .bool true)) else K (!want) (env.set d (.v .bool false))
   | .skip=>K false env
   | _=>none
def UU:Op->Nat
 | .alloc _ | .box .. | .buildSlice .. | .makeSlice .. | .slice .. | .makeMap .. =>1
 | .call {callee:= .builtin .append,..}=>1
 | .call {callee:= .value _,..}=>2
 | _=>0
def zpG (ops:Array Oper):Nat:=ops.toList.foldl (fun n o=>n+UU o.op) 0
def zly {R:Type}(ss:List (zM E)) (fresh:Nat) (args:List (zj E)) (H:List (Blk E)) (K:zj E->List (Blk E)->Option R):List Nat->Option R
 | []=>none
 | [k]=>match ss[k]? with
  | some s=>zbK s fresh args H K
  | none=>none
 | k::ks=>match ss[k]? with
  | some s=>(zbK s fresh args H K).or (zly ss fresh args H K ks)
  | none=>none
def zuC (env:List (zj E)) (o:Op):Option (zj E):=match o with
 | .call {callee:= .value f,args,..}=>match u4 env f,args.toList with
  | .yld _ _,[x]=>some (u4 env x)
  | _,_=>none
 | _=>none
def zzC (H:List (Blk E)):Bool:=H.all fun | .box w _=>w | .map w _=>w | _=>true
open Classical in
noncomputable def zbs {α:Type}(l:List α) (j:Int) (z:α):Option Unit:=if 0<=j/\l[j.toNat]? =some z then some () else none
def noY:zj E->zj E
 | .yld _ _=>.any
 | p=>p
def zbD:List (zj E)->List (zj E)
 | []=>[]
 | p::r=>p::r.map noY
noncomputable def ziq {R:Type}(rid i fresh spare:Nat) (o:Oper) (env:List (zj E)) (H:List (Blk E)) (K:zj E->List (Blk E)->Option R):Option R :=
 match Vf env o.op with
 | some (f,args)=>zly (C.specs f) fresh args H K (C.pick rid i)
 | none =>
  let g:=if Nat.beq (UU o.op) 0 then spare else fresh
  if Wb H g 1 then (opD C.tab (C.mv rid i) g (u4 env) o.op).cps H K else none
noncomputable def zvX {R:Type}(rid i fresh spare:Nat) (o:Oper) (env:List (zj E)) (H:List (Blk E)) (K:List (zj E)->List (Blk E)->Option R):Option R :=
 match o.op with
 | .move (.tmp 0)=>K (put env o.dst ((env[0]?).getD .any)) H
 | _=>match zuC env o.op with
  | some x=>match (env[0]?).getD .any with
   | .yld n j=>(zaG C.ye x fun z=>(.ret z:Dec E (Den E.T C.ye))).cps H fun z H=>if zzC H then (zbs C.yd j z).bind fun _=>K (put (env.set 0 (.yld n (j+1))) o.dst (.v .bool true)) H else none
   | _=>none
  | none=>ziq C rid i fresh spare o env H fun p H=>K (put env o.dst (noY p)) H
noncomputable def zc6 {R:Type}(inl:Inl E R) (rid i fresh spare:Nat) (ops:Array Oper) (o:Oper) (env:List (zj E)) (H:List (Blk E))
  (K:List (zj E)->List (Blk E)->Option R):Option R :=
 Y7 ops o env fun yes env =>
  if yes then
   (if C.yl then zvX C rid i fresh spare o env H K else ziq C rid i fresh spare o env H fun p H=>K (put env o.dst p) H)
  else K (put env o.dst .skip) H
noncomputable def zsg {R:Type}(inl:Inl E R) (rid spare:Nat) (ops:Array Oper):List Oper->Nat->Nat->List (zj E)->List (Blk E)->(List (zj E)->List (Blk E)->Option R)->Option R
 | [],_,_,env,H,K=>K env H
 | o::r,i,fresh,env,H,K=>zc6 C inl rid i fresh spare ops o env H fun env H=>zsg inl rid spare ops r (i+1) (fresh+UU o.op) env H K
def Dec.cpsL {α R:Type}:Dec E α->List (Blk E)->List Nat->List Nat->(α->List (Blk E)->List Nat->List Nat->Option R)->Option R
 | .ret a,H,rs,ws,K=>K a H rs ws
 | .fail,_,_,_,_=>none
 | .br b t e,H,rs,ws,K=>bif b then t.cpsL H rs ws K else e.cpsL H rs ws K
 | .opt _ o k,H,rs,ws,K=>o.bind fun x=>(k x).cpsL H rs ws K
 | .rd id k,H,rs,ws,K=>(k (zn H id)).cpsL H (id::rs) ws K
 | .wr id b k,H,rs,ws,K=>bif Nat.blt id H.length then k.cpsL (H.set id b) rs (id::ws) K else none
 | .any _,_,_,_,_=>none
def Zm (ρ:Ren):List BK->Nat->List Nat
 | [],_=>[]
 | .box true _::ks,j=>(match ρ.get j with | some (some id)=>[id] | _=>[])++Zm ρ ks (j+1)
 | .row true _::ks,j=>(match ρ.get j with | some (some id)=>[id] | _=>[])++Zm ρ ks (j+1)
 | _::ks,j=>Zm ρ ks (j+1)
def zif {R:Type}(s:zM E) (fresh:Nat) (args:List (zj E)) (H:List (Blk E)) (K:zj E->List (Blk E)->List Nat->List Nat->Option R):Option R :=
 match Wc [] s.inn args H with
 | some (x,ρ,fz)=>(s.F (s.gi.of x)).bind fun y =>
  let n:=s.inn.blks.length;let m:=s.out.blks.length;let r:=yL (zbT ρ n fresh) s.out (HL.toP s.out.holes (s.go.to y))
  match wE ρ fresh s.inn.blks s.out.blks r.2 0 (upd H fz) with
  | some H'=>if Wb H fresh (m-n)&&s.out.blks.all BK.handsOut then K (zqu r.1) H' (ρ.ids++fz) (fz++Zm ρ s.inn.blks 0++List.range' fresh (m-n)) else none
  | none=>none
 | none=>none
def zex {R:Type}(rid i fresh spare:Nat) (ops:Array Oper) (o:Oper) (env:List (zj E)) (H:List (Blk E))
  (K:List (zj E)->List (Blk E)->List Nat->List Nat->Option R):Option R :=
 Y7 ops o env fun yes env =>
  if yes then
   match Vf env o.op with
   | some (f,args)=>match C.pick rid i with
    | [k]=>match (C.specs f)[k]? with
     | some s=>zif s fresh args H fun p H rs ws=>K (put env o.dst p) H rs ws
     | none=>none
    | _=>none
   | none =>
    if Nat.beq (UU o.op) 0 then
     (if Wb H spare 1 then (opD C.tab (C.mv rid i) spare (u4 env) o.op).cpsL H [] [] fun p H rs ws=>K (put env o.dst p) H rs ws else none)
    else if Wb H fresh 1 then (opD C.tab (C.mv rid i) fresh (u4 env) o.op).cpsL H [fresh] [] fun p H rs ws=>K (put env o.dst p) H rs ws else none
  else K (put env o.dst .skip) H [] []
def V9:List Oper->List Nat->List Nat
 | [],acc=>acc
 | o::r,acc=>V9 r (acc++[o.after.foldl (fun s e=>if Region.binds .any e then s|||2 ^ e.on|||acc.getD e.on 0 else s) 0])
def Zi:List Nat->Nat
 | []=>0
 | a::l=>Nat.lor (Zi l) (Nat.pow 2 a)
def zmj (mask:Nat) (r w:Nat):List (Nat×Nat×Nat)->Bool
 | []=>true
 | (k,rk,wk)::l=>(Nat.testBit mask k||(Nat.beq (Nat.land wk r) 0&&Nat.beq (Nat.land wk w) 0&&Nat.beq (Nat.land rk w) 0))&&zmj mask r w l
def WR {R:Type}(n:Nat) (K:Nat->R):R:=match n with
 | 0=>K 0
 | m+1=>K (m+1)
theorem XO {R:Type}(n:Nat) (K:Nat->R):WR n K=K n:=by cases n<;>rfl
def XX {R:Type}(rid spare:Nat) (ops:Array Oper):List Oper->List Nat->Nat->Nat->List (Nat×Nat×Nat)->List (zj E)->List (Blk E)->(List (zj E)->List (Blk E)->Option R)->Option R
 | [],_,_,_,_,env,H,K=>K env H
 | _::_,[],_,_,_,_,_,_=>none
 | o::r,mask::ms,i,fresh,log,env,H,K=>zex C rid i fresh spare ops o env H fun env H rs ws =>
  match rs,ws with
  | [],[]=>XX rid spare ops r ms (i+1) (fresh+UU o.op) log env H K
  | rs,ws=>WR (Zi rs) fun mr=>WR (Zi ws) fun mw =>
   if zmj mask mr mw log&& !(Nat.testBit mw spare) then
    XX rid spare ops r ms (i+1) (fresh+UU o.op) ((i,mr,mw)::log) env H K
   else none
def looks (ops:Array Oper) (o:Oper):List Nat:=o.looksAt ops
def zuH (a b:Option Nat):Bool:=match a,b with | some x,some y=>Nat.beq x y | _,_=>false
def zr2 (a:Option Nat) (l:List Nat):Bool:=match a with | some x=>l.any fun y=>Nat.beq x y | none=>false
def zeA (ops:Array Oper):Bool :=
 let bef:=V9 ops.toList []
 (List.range ops.size).all fun j=>match ops[j]?,bef[j]? with
  | some oj,some m=>oj.after.all (fun e=> !Region.binds .any e||Nat.blt e.on j)&&(match oj.op with | .select .. =>false | _=>true) &&
   (List.range j).all fun i=>Nat.testBit m i||(match ops[i]? with
    | some oi=> !zuH oi.dst oj.dst&& !zr2 oi.dst (looks ops oj)&& !zr2 oj.dst (looks ops oi)
    | none=>true)
  | _,_=>false
def zV (env:List (zj E)) (l:List Nat):List (zj E):=l.map fun t=>(env[t]?).getD .any
def zpp (n:Nat) (l:List Nat) (ps:List (zj E)):List (zj E):=(l.zip ps).foldl (fun e x=>e.set x.1 x.2) (List.replicate n .any)
def zeQ:Code->Nat
 | .region id _ _=>id
 | .seq a _=>zeQ a
 | .block _ a=>zeQ a
 | .loop a=>zeQ a
 | .cond _ a _=>zeQ a
 | _=>0
def entry (n:Nat) (slots:List Nat) (S:wn) (x:HL E.T S.holes):List (zj E)×List (Blk E) :=
 let r:=yL id S (HL.toP S.holes x)
 (zpp n slots r.1,r.2)
def vd {A B D:Type}(f:A->Option (xJ A B D)):Nat->A->Option (xJ Unit B D)
 | 0,_=>none
 | n+1,x=>(f x).bind fun
  | .again y=>vd f n y
  | .brk b=>some (.brk b)
  | .ret c=>some (.ret c)
def rounds:Nat:=18446744073709551616
noncomputable def yM {A B D:Type}(f:A->Option (xJ A B D)):A->Option (xJ Unit B D):=zfB (vd f rounds)
theorem Uh {A B D:Type}(f:A->Option (xJ A B D)) (x:A):yM f x=vd f rounds x:=congrFun (VI _) x
abbrev zy6 (E:yG):=∀R:Type,List (zj E)->List (Blk E)->(Ex->List (zj E)->List (Blk E)->Option R)->Option R
noncomputable def yQ (ex:zy6 E) (n:Nat) (l:yf E) (x:l.gi.G):Option (xJ l.gi.G l.gb.G l.gr.G) :=
 let s:=entry n l.slots l.inn (l.gi.to x)
 ex _ s.1 s.2 fun ex env H=>match ex with
  | .normal=>(Wc C.kept l.inn (zV env l.slots) H).map fun y=>.again (l.gi.of y.1)
  | .exit j=>if Nat.beq j l.brkId then (Wc C.kept l.brk (zV env l.bslots) H).map fun y=>.brk (l.gb.of y.1) else none
  | .ret=>(Wc C.kept l.ret (zV env l.rslots) H).map fun y=>.ret (l.gr.of y.1)
noncomputable def YI {A B:Type}(f:B->A->Option A):List B->A->Option A
 | [],a=>some a
 | y::ys,a=>(f y a).bind (YI f ys)
noncomputable def zjo (as body:zy6 E) (n:Nat) (l:yf E) (t:Nat) (e:Ty) (y:Den E.T e) (z:l.gi.G):Option l.gi.G :=
 let s:=entry n l.slots l.inn (l.gi.to z)
 as _ (s.1.set t (.v e y)) s.2 fun ex env H=>match ex with
  | .normal=>body _ env H fun ex _ H=>match ex with
   | .normal=>(Wc C.kept l.inn (zV s.1 l.slots) H).map fun y=>l.gi.of y.1
   | _=>none
  | _=>none
def zet:Code->Bool
 | .skip=>true | .region _ _ _=>true | .seq a b=>zet a&&zet b | .cond _ a b=>zet a&&zet b | .block _ a=>zet a | .exit _=>true | _=>false
def zoj (ops:Array Oper):Bool:=ops.toList.all fun o=>match o.dst with | some d=> !Nat.beq d 0 | none=>true
def SK.notY:SK->Bool
 | .yld=>false | _=>true
def Uq (slots:List Nat) (vals:List SK):Bool:=match slots,vals with
 | t::ts,.yld::ks=>Nat.beq t 0&&(ts.all fun s=> !Nat.beq s 0)&&ks.all SK.notY
 | _,_=>false
def zrY {R:Type}(p:zj E) (K:zj E->R):R:=match p with
 | .any=>K .any
 | .skip=>K .skip
 | .v τ x=>K (.v τ x)
 | .nils=>K .nils
 | .own id=>WR id fun id=>K (.own id)
 | .ptr id off=>WR id fun id=>WR off fun off=>K (.ptr id off)
 | p=>K p
theorem zr8 {R:Type}(p:zj E) (K:zj E->R):zrY p K=K p:=by cases p<;>simp only [zrY,XO]
def zmh {R:Type}:List (zj E)->(List (zj E)->R)->R
 | [],K=>K []
 | p::ps,K=>zrY p fun p=>zmh ps fun ps=>K (p::ps)
theorem zlo {R:Type}:∀(ps:List (zj E)) (K:List (zj E)->R),zmh ps K=K ps
 | [],K=>rfl
 | p::ps,K=>by simp only [zmh,zr8,zlo ps]
def zpx {R:Type}(b:Blk E) (K:Blk E->R):R:=match b with
 | .box w cs=>zmh cs fun cs=>K (.box w cs)
 | .row w e l=>K (.row w e l)
 | .free=>K .free
 | .dead=>K .dead
 | .map w es=>K (.map w es)
 | .rowh e l n k=>WR k fun k=>K (.rowh e l n k)
theorem znM {R:Type}(b:Blk E) (K:Blk E->R):zpx b K=K b:=by cases b<;>simp only [zpx,zlo,XO]
def zmy {R:Type}:List (Blk E)->(List (Blk E)->R)->R
 | [],K=>K []
 | b::bs,K=>zpx b fun b=>zmy bs fun bs=>K (b::bs)
theorem zkq {R:Type}:∀(H:List (Blk E)) (K:List (Blk E)->R),zmy H K=K H
 | [],K=>rfl
 | b::bs,K=>by simp only [zmy,znM,zkq bs]
def zr4 {R:Type}(env:List (zj E)) (H:List (Blk E)) (K:List (zj E)->List (Blk E)->R):R:=zmh env fun env=>zmy H fun H=>K env H
theorem ztR {R:Type}(env:List (zj E)) (H:List (Blk E)) (K:List (zj E)->List (Blk E)->R):zr4 env H K=K env H:=by simp only [zr4,zlo,zkq]
def zlP {α R:Type}:List α->Nat->α->(List α->R)->R
 | [],_,_,K=>K []
 | _::l,0,p,K=>K (p::l)
 | x::l,t+1,p,K=>zlP l t p fun l=>K (x::l)
theorem zjL {α R:Type}:∀(l:List α) (t:Nat) (p:α) (K:List α->R),zlP l t p K=K (l.set t p)
 | [],_,_,_=>rfl
 | _::_,0,_,_=>rfl
 | x::l,t+1,p,K=>by simp only [zlP,zjL l,List.set]
def zlJ {R:Type}(env:List (zj E)) (d:Option Nat) (p:zj E) (K:List (zj E)->R):R:=match d with
 | some t=>zrY p fun p=>zlP env t p K
 | none=>K env
theorem zuK {R:Type}(env:List (zj E)) (d:Option Nat) (p:zj E) (K:List (zj E)->R):zlJ env d p K=K (put env d p):=by
 cases d<;>simp only [zlJ,put,zr8,zjL]
def Dec.cpsN {α R:Type}:Dec E α->List (Blk E)->(α->List (Blk E)->Option R)->Option R
 | .ret a,H,K=>K a H
 | .fail,_,_=>none
 | .br b t e,H,K=>bif b then t.cpsN H K else e.cpsN H K
 | .opt _ o k,H,K=>o.bind fun x=>(k x).cpsN H K
 | .rd id k,H,K=>(k (zn H id)).cpsN H K
 | .wr id b k,H,K=>bif Nat.blt id H.length then zpx b fun b=>zlP H id b fun H=>k.cpsN H K else none
 | .any k,H,K=>zkJ ((k true).cpsN H K) ((k false).cpsN H K)
theorem Dec.cpsN_eq {α R:Type}:∀(d:Dec E α) (H:List (Blk E)) (K:α->List (Blk E)->Option R),d.cpsN H K=d.cps H K
 | .ret a,H,K=>rfl
 | .fail,_,_=>rfl
 | .br b t e,H,K=>by simp only [cpsN,cps,cpsN_eq t,cpsN_eq e]
 | .opt _ o k,H,K=>by simp only [cpsN,cps,cpsN_eq (k _)]
 | .rd id k,H,K=>by simp only [cpsN,cps,cpsN_eq (k _)]
 | .wr id b k,H,K=>by simp only [cpsN,cps,cpsN_eq k,znM,zjL]
 | .any k,H,K=>by simp only [cpsN,cps,cpsN_eq (k _)]
def Dec.cpsLN {α R:Type}:Dec E α->List (Blk E)->List Nat->List Nat->(α->List (Blk E)->List Nat->List Nat->Option R)->Option R
 | .ret a,H,rs,ws,K=>K a H rs ws
 | .fail,_,_,_,_=>none
 | .br b t e,H,rs,ws,K=>bif b then t.cpsLN H rs ws K else e.cpsLN H rs ws K
 | .opt _ o k,H,rs,ws,K=>o.bind fun x=>(k x).cpsLN H rs ws K
 | .rd id k,H,rs,ws,K=>WR id fun id=>(k (zn H id)).cpsLN H (id::rs) ws K
 | .wr id b k,H,rs,ws,K=>bif Nat.blt id H.length then WR id fun id=>zpx b fun b=>zlP H id b fun H=>k.cpsLN H rs (id::ws) K else none
 | .any _,_,_,_,_=>none
theorem Dec.cpsLN_eq {α R:Type}:∀(d:Dec E α) (H:List (Blk E)) (rs ws:List Nat) (K:α->List (Blk E)->List Nat->List Nat->Option R),d.cpsLN H rs ws K=d.cpsL H rs ws K
 | .ret a,H,_,_,K=>rfl
 | .fail,_,_,_,_=>rfl
 | .br b t e,H,_,_,K=>by simp only [cpsLN,cpsL,cpsLN_eq t,cpsLN_eq e]
 | .opt _ o k,H,_,_,K=>by simp only [cpsLN,cpsL,cpsLN_eq (k _)]
 | .rd id k,H,_,_,K=>by simp only [cpsLN,cpsL,cpsLN_eq (k _),XO]
 | .wr id b k,H,_,_,K=>by simp only [cpsLN,cpsL,cpsLN_eq k,znM,zjL,XO]
 | .any _,H,_,_,K=>rfl
def zon {R:Type}(ops:Array Oper) (o:Oper) (env:List (zj E)) (K:Bool->List (zj E)->Option R):Option R :=
 match o.guard with
 | none=>K true env
 | some (j,want)=>match (ops[j]?).bind (·.dst) with
  | none=>none
  | some d=>match (env[d]?).getD .any with
   | .v .bool b=>bif b then zlP env d (.v .bool true) fun env=>K want env else zlP env d (.v .bool false) fun env=>K (!want) env
   | .skip=>K false env
   | _=>none
theorem zq4 {R:Type}(ops:Array Oper) (o:Oper) (env:List (zj E)) (K:Bool->List (zj E)->Option R):zon ops o env K=Y7 ops o env K:=by
 unfold zon Y7;simp only [zjL]
def ztg {R:Type}(rid i fresh spare:Nat) (o:Oper) (env:List (zj E)) (H:List (Blk E)) (K:zj E->List (Blk E)->Option R):Option R :=
 match Vf env o.op with
 | some (f,args)=>zly (C.specs f) fresh args H (fun p H=>zmy H fun H=>K p H) (C.pick rid i)
 | none =>
  let g:=if Nat.beq (UU o.op) 0 then spare else fresh
  if Wb H g 1 then (opD C.tab (C.mv rid i) g (u4 env) o.op).cpsN H K else none
theorem zwl {R:Type}(rid i fresh spare:Nat) (o:Oper) (env:List (zj E)) (H:List (Blk E)) (K:zj E->List (Blk E)->Option R):ztg C rid i fresh spare o env H K=ziq C rid i fresh spare o env H K:=by
 unfold ztg ziq;simp only [zkq,Dec.cpsN_eq]
def zv8 {R:Type}(rid i fresh spare:Nat) (ops:Array Oper) (o:Oper) (env:List (zj E)) (H:List (Blk E)) (K:List (zj E)->List (Blk E)->Option R):Option R :=
 zon ops o env fun yes env =>
  if yes then
   (if C.yl then zvX C rid i fresh spare o env H K else ztg C rid i fresh spare o env H fun p H=>zlJ env o.dst p fun env=>K env H)
  else zlJ env o.dst .skip fun env=>K env H
theorem zxZ {R:Type}(rid i fresh spare:Nat) (ops:Array Oper) (o:Oper) (env:List (zj E)) (H:List (Blk E)) (K:List (zj E)->List (Blk E)->Option R):zv8 C rid i fresh spare ops o env H K=zc6 C (zh0 _) rid i fresh spare ops o env H K:=by
 unfold zv8 zc6;simp only [zq4,zuK,zwl]
def zvQ {R:Type}(rid spare:Nat) (ops:Array Oper):List Oper->Nat->Nat->List (zj E)->List (Blk E)->(List (zj E)->List (Blk E)->Option R)->Option R
 | [],_,_,env,H,K=>K env H
 | o::r,i,fresh,env,H,K=>zv8 C rid i fresh spare ops o env H fun env H=>WR (i+1) fun i=>WR (fresh+UU o.op) fun fresh=>zvQ rid spare ops r i fresh env H K
theorem zp6 {R:Type}(rid spare:Nat) (ops:Array Oper):∀(l:List Oper) (i fresh:Nat) (env:List (zj E)) (H:List (Blk E)) (K:List (zj E)->List (Blk E)->Option R),zvQ C rid spare ops l i fresh env H K=zsg C (zh0 _) rid spare ops l i fresh env H K
 | [],_,_,_,_,_=>rfl
 | o::r,i,fresh,env,H,K=>by simp only [zvQ,zsg,zxZ,XO,zp6 rid spare ops r]
def zr6 {R:Type}(rid i fresh spare:Nat) (ops:Array Oper) (o:Oper) (env:List (zj E)) (H:List (Blk E))
  (K:List (zj E)->List (Blk E)->List Nat->List Nat->Option R):Option R :=
 zon ops o env fun yes env =>
  if yes then
   match Vf env o.op with
   | some (f,args)=>match C.pick rid i with
    | [k]=>match (C.specs f)[k]? with
     | some s=>zif s fresh args H fun p H rs ws=>zmy H fun H=>zlJ env o.dst p fun env=>K env H rs ws
     | none=>none
    | _=>none
   | none =>
    if Nat.beq (UU o.op) 0 then
     (if Wb H spare 1 then (opD C.tab (C.mv rid i) spare (u4 env) o.op).cpsLN H [] [] fun p H rs ws=>zlJ env o.dst p fun env=>K env H rs ws else none)
    else if Wb H fresh 1 then (opD C.tab (C.mv rid i) fresh (u4 env) o.op).cpsLN H [fresh] [] fun p H rs ws=>zlJ env o.dst p fun env=>K env H rs ws else none
  else zlJ env o.dst .skip fun env=>K env H [] []
theorem zxz {R:Type}(rid i fresh spare:Nat) (ops:Array Oper) (o:Oper) (env:List (zj E)) (H:List (Blk E))
  (K:List (zj E)->List (Blk E)->List Nat->List Nat->Option R):zr6 C rid i fresh spare ops o env H K=zex C rid i fresh spare ops o env H K:=by
 unfold zr6 zex;simp only [zq4,zuK,zkq,Dec.cpsLN_eq]
def zkN {R:Type}(rid spare:Nat) (ops:Array Oper):List Oper->List Nat->Nat->Nat->List (Nat×Nat×Nat)->List (zj E)->List (Blk E)->(List (zj E)->List (Blk E)->Option R)->Option R
 | [],_,_,_,_,env,H,K=>K env H
 | _::_,[],_,_,_,_,_,_=>none
 | o::r,mask::ms,i,fresh,log,env,H,K=>zr6 C rid i fresh spare ops o env H fun env H rs ws =>
  WR (i+1) fun i1=>WR (fresh+UU o.op) fun fresh1 =>
  match rs,ws with
  | [],[]=>zkN rid spare ops r ms i1 fresh1 log env H K
  | rs,ws=>WR (Zi rs) fun mr=>WR (Zi ws) fun mw =>
   if zmj mask mr mw log&& !(Nat.testBit mw spare) then
    zkN rid spare ops r ms i1 fresh1 ((i,mr,mw)::log) env H K
   else none
theorem znL {R:Type}(rid spare:Nat) (ops:Array Oper):∀(l:List Oper) (ms:List Nat) (i fresh:Nat) (log:List (Nat×Nat×Nat)) (env:List (zj E)) (H:List (Blk E)) (K:List (zj E)->List (Blk E)->Option R),zkN C rid spare ops l ms i fresh log env H K=XX C rid spare ops l ms i fresh log env H K
 | [],_,_,_,_,_,_,_=>by simp only [zkN,XX]
 | _::_,[],_,_,_,_,_,_=>by simp only [zkN,XX]
 | o::r,mask::ms,i,fresh,log,env,H,K=>by simp only [zkN,XX,zxz,XO,znL rid spare ops r]
noncomputable def exec:Code->zy6 E
 | .skip,_,env,H,K=>K .normal env H
 | .region rid ops draw,_,env,H,K =>
  WR (zpG ops) fun n=>WR H.length fun L =>
  if C.yl&& !zoj ops then none else
  if draw then (if zeA ops then zkN C rid (L+n) ops ops.toList (V9 ops.toList []) 0 L [] env (H++List.replicate (n+1) .free) fun env H=>zr4 (if C.yl then zbD env else env) H fun env H=>K .normal env H else none) else zvQ C rid (L+n) ops ops.toList 0 L env (H++List.replicate (n+1) .free) fun env H=>zr4 env H fun env H=>K .normal env H
 | .seq a b,_,env,H,K=>exec a _ env H fun ex env H=>match ex with
  | .normal=>exec b _ env H K
  | ex=>K ex env H
 | .cond c a b,_,env,H,K=>match u4 env c with
  | .v .bool t=>bif t then exec a _ env H K else exec b _ env H K
  | _=>none
 | .block id a,_,env,H,K=>exec a _ env H fun ex env H=>match ex with
  | .exit j=>if Nat.beq j id then K .normal env H else K (.exit j) env H
  | ex=>K ex env H
 | .loop a,_,env,H,K=>match C.loops (zeQ a) with
  | some l=>if C.yl&& !(Uq l.slots l.inn.vals&&Uq l.bslots l.brk.vals&&Uq l.rslots l.ret.vals) then none else match Wc C.kept l.inn (zV env l.slots) H with
   | some (x,_,_)=>(yM (yQ C (exec a) env.length l) (l.gi.of x)).bind fun
    | .again _=>none
    | .brk y=>K (.exit l.brkId) (entry env.length l.bslots l.brk (l.gb.to y)).1 (entry env.length l.bslots l.brk (l.gb.to y)).2
    | .ret y=>K .ret (entry env.length l.rslots l.ret (l.gr.to y)).1 (entry env.length l.rslots l.ret (l.gr.to y)).2
   | none=>none
  | none=>none
 | .rangeFunc f ps as body,_,env,H,K=>match u4 env f,ps.toList with
  | .fn g caps,[t]=>match C.iters g,C.loops (zeQ as) with
   | some it,some l=>match Wc [] it.inn caps H with
    | some (x,ρ,fz)=>(it.F x).bind fun ys=>match Wc C.kept l.inn (zV env l.slots) (upd H fz) with
     | some (z,ρ2,fz2) =>
      if zet as&&zet body&&zjp ρ.ids ρ2.ids&&zjp ρ.ids fz2&& !C.yl&&l.inn.blks.all BK.owns then
       (YI (zjo C (exec as) (exec body) env.length l t it.e) ys (l.gi.of z)).bind fun z=>K .normal (entry env.length l.slots l.inn (l.gi.to z)).1 (entry env.length l.slots l.inn (l.gi.to z)).2
      else none
     | none=>none
    | none=>none
   | _,_=>none
  | _,_=>none
 | .exit id,_,env,H,K=>K (.exit id) env H
 | .ret,_,env,H,K=>K .ret env H
 | .scope a,_,env,H,K=>exec a _ env H K
 | .label _,_,env,H,K=>K .normal env H
 | _,_,_,_,_=>none
noncomputable def zlj {R:Type}(tab:List (Nat×TI)) (env:List (zj E)) (H:List (Blk E)):List ResultVar->(List (zj E)->Option R)->Option R
 | [],K=>K []
 | .tmp t::r,K=>zlj tab env H r fun ps=>K ((env[t]?).getD .any::ps)
 | .cell a t::r,K=>match look tab t,(env[a]?).getD .any with
  | some i,.eptr e' id k off=>match zcO i with
   | some (n,e)=>(zrX n e (.eptr e' id k off)).cps H fun p _=>zlj tab env H r fun ps=>K (p::ps)
   | none=>none
  | some i,.ptr id off=>match zn H id with
   | .box _ cs=>(zi7 i (sub cs off i.size)).cps H fun p _=>zlj tab env H r fun ps=>K (p::ps)
   | _=>none
  | _,_=>none
def zgh:List BK->Nat->Ren
 | [],_=>[]
 | .box true _::ks,j=>(j,some j)::zgh ks (j+1)
 | _::ks,j=>zgh ks (j+1)
def zvk (inn out:wn) (go:Iso E out.holes) (ps:List (zj E)) (H:List (Blk E)):Option go.G:=(Wc (zgh inn.blks 0) out ps H).map fun x=>go.of x.1
noncomputable def zlU (fn:Func) (inn out:wn) (gi:Iso E inn.holes) (go:Iso E out.holes) (g:gi.G):Option go.G :=
 let x:=gi.to g
 match fn.body with
 | none=>none
 | some c =>
  let s:=yL id inn (HL.toP inn.holes x)
  exec C c _ (s.1++List.replicate (fn.ntmps-s.1.length) .skip) s.2 fun ex env H=>match ex with
   | .exit _=>none
   | _=>zlj C.tab env H fn.results.toList fun ps=>zvk inn out go ps H
noncomputable def zoR (fn:Func) (inn:wn) (n:Int) (x:HL E.T inn.holes):Option Int :=
 match fn.body with
 | none=>none
 | some c =>
  let s:=yL id inn (HL.toP inn.holes x)
  exec C c _ ((.yld n 0::s.1)++List.replicate (fn.ntmps-(s.1.length+1)) .skip) s.2 fun ex env H=>match ex with
   | .exit _=>none
   | _=>if fn.results.isEmpty then (match (env[0]?).getD .any with
    | .yld _ i=>some i
    | _=>none) else none
end
end Go.Pe
namespace Go.Pe
inductive Loc where
 | blk (b off len cap:Nat) | none (a:Option Addr)
def Ty.size (E:yG):Ty->Nat
 | .named n=>(E.leaves n).length
 | .arr n e=>n*e.size E
 | .bool=>1 | .int _=>1 | .str=>1 | .slice _=>1
def HL.get {T:Nat->Type}:(ts:List Ty)->HL T ts->(i:Nat)->(h:i<ts.length)->Den T ts[i]
 | _::_,x,0,_=>x.1
 | _::ts,x,i+1,h=>HL.get ts x.2 i (Nat.lt_of_succ_lt_succ h)
section
variable (E:yG) (w:World) (A:Nat->Prop)
inductive yz:(τ:Ty)->Value->Den E.T τ->Prop where
 | bool (b:Bool):yz .bool (.bool b) b
 | int (k:IntKind) (x:z6 k):yz (.int k) (.int k (toZ k x)) x
 | str (s:ByteArray):yz .str (.string s) s
 | nil (e:Ty) (a:Option Addr) (cap:Nat):yz (.slice e) (.slice a 0 cap) ([]:List (Den E.T e))
 | slice (e:Ty) (b off cap:Nat) (l:List (Den E.T e)) (vs:Nat->Value) (hA: ¬A b) (hb:b<w.heap.size) (hc:l.length<=cap)
   (hm:∀i,i<l.length->∀j u,(vs i).cells[j]? =some u->w.cell? ⟨b,off+i*e.size E+j,none⟩=some u)
   (hr:∀i (h:i<l.length),yz e (vs i) l[i]):yz (.slice e) (.slice (some ⟨b,off,none⟩) l.length cap) l
 | named (n:Nat) (cs:Array Value) (x:E.T n) (hs:cs.size=(E.leaves n).length)
   (h:∀i (hi:i<(E.leaves n).length),yz (E.leaves n)[i] (cs.getD i undef) (HL.get (E.leaves n) (E.unpack n x) i hi)):yz (.named n) (.agg cs) x
 | arr (n:Nat) (e:Ty) (cs:Array Value) (l:List (Den E.T e)) (vs:Nat->Value) (hl:l.length=n) (hs:cs.size=n*e.size E)
   (hm:∀i,i<n->∀j u,(vs i).cells[j]? =some u->cs[i*e.size E+j]? =some u)
   (hr:∀i (h:i<l.length),yz e (vs i) l[i]):yz (.arr n e) (.agg cs) l
inductive yc (U:Nat->Prop) (μ:Nat->Loc):zj E->Value->Prop where
 | any (v:Value):yc U μ .any v
 | skip:yc U μ .skip undef
 | v (τ:Ty) (x:Den E.T τ) (v:Value) (h:yz E w A τ v x):yc U μ (.v τ x) v
 | agg (ps:List (zj E)) (cs:Array Value) (hs:cs.size=ps.length) (h:∀i (hi:i<ps.length),yc U μ ps[i] (cs.getD i undef)):yc U μ (.agg ps) (.agg cs)
 | tuple (ps:List (zj E)) (cs:Array Value) (hs:cs.size=ps.length) (h:∀i (hi:i<ps.length),yc U μ ps[i] (cs.getD i undef)):yc U μ (.tuple ps) (.tuple cs)
 | nils (a:Option Addr):yc U μ .nils (.slice a 0 0)
 | own (id b off len cap:Nat) (hU:U id) (hμ:μ id= .blk b off len cap):yc U μ (.own id) (.slice (some ⟨b,off,none⟩) len cap)
 | own0 (id:Nat) (a a2:Option Addr) (hU:U id) (hμ:μ id= .none a2):yc U μ (.own id) (.slice a 0 0)
 | full (e:Ty) (l:List (Den E.T e)) (a:Option Addr) (h:yz E w A (.slice e) (.slice a l.length l.length) l):yc U μ (.full e l) (.slice a l.length l.length)
 | bsl (id n b:Nat) (hU:U id) (hμ:μ id= .blk b 0 n n):yc U μ (.bsl id n) (.slice (some ⟨b,0,none⟩) n n)
 | ptr (id off b len cap:Nat) (hU:U id) (hμ:μ id= .blk b 0 len cap):yc U μ (.ptr id off) (.pointer (some ⟨b,off,none⟩))
 | eptr (e:Ty) (id i off b o len cap:Nat) (hU:U id) (hμ:μ id= .blk b o len cap) (hi:i<len):yc U μ (.eptr e id i off) (.pointer (some ⟨b,o+i*e.size E+off,none⟩))
 | rptr (ps:List (zj E)) (b o:Nat) (us:Nat->Value) (hA: ¬A b) (hb:b<w.heap.size) (hm:∀j,j<ps.length->w.cell? ⟨b,o+j,none⟩=some (us j))
   (hr:∀j (h:j<ps.length),yc U μ ps[j] (us j)):yc U μ (.rptr ps) (.pointer (some ⟨b,o,none⟩))
 | fn (f:FuncId) (ps:List (zj E)) (cs:Array Value) (hs:cs.size=ps.length) (h:∀i (hi:i<ps.length),yc U μ ps[i] (cs.getD i undef)):yc U μ (.fn f ps) (.func (.func f) #[] cs)
 | nilfn:yc U μ .nilfn .nilFunc
 | nilp:yc U μ .nilp (.pointer none)
 | bfn (f:FuncId) (ps:List (zj E)) (cs:Array Value) (hs:cs.size=ps.length) (h:∀i (hi:i<ps.length),yc U μ ps[i] (cs.getD i undef)):yc U μ (.bfn f ps) (.func (.func f) cs #[])
 | yld (n i:Int):yc U μ (.yld n i) (.func (.yield n.toNat) #[] #[])
 | nilm:yc U μ .nilm (.map none)
 | map (id b:Nat) (hU:U id) (hμ:μ id= .blk b 0 0 0):yc U μ (.map id) (.map (some b))
end
variable {E:yG}
theorem yz.mono {w w':World}{A A':Nat->Prop}(hs:w.heap.size<=w'.heap.size)
  (hb:∀b,b<w.heap.size->¬A b->w'.heap[b]? =w.heap[b]? /\¬A' b) {τ:Ty}{v:Value}{x:Den E.T τ}(h:yz E w A τ v x):yz E w' A' τ v x:=by
 induction h with
 | bool b=>exact .bool b
 | int k x=>exact .int k x
 | str s=>exact .str s
 | nil e a cap=>exact .nil e a cap
 | slice e b off cap l vs hA hlt hc hm _ ih =>
  obtain ⟨h1,h2⟩:=hb b hlt hA;exact .slice e b off cap l vs h2 (zBK hlt hs) hc (fun i hi j u hu=>by
   have:=hm i hi j u hu;simp only [World.cell?,h1] at this ⊢;exact this) ih
 | named n cs x hsz _ ih=>exact .named n cs x hsz ih
 | arr n e cs l vs hl hsz hm _ ih=>exact .arr n e cs l vs hl hsz hm ih
theorem yc.mono {w w':World}{A A':Nat->Prop}{U U':Nat->Prop}{μ μ':Nat->Loc}(hs:w.heap.size<=w'.heap.size)
  (hb:∀b,b<w.heap.size->¬A b->w'.heap[b]? =w.heap[b]? /\¬A' b) (hU:∀id,U id->U' id/\μ' id=μ id) {p:zj E}{v:Value}(h:yc E w A U μ p v):yc E w' A' U' μ' p v:=by
 induction h with
 | any v=>exact .any v
 | skip=>exact .skip
 | v τ x v h=>exact .v τ x v (h.mono hs hb)
 | agg ps cs hsz _ ih=>exact .agg ps cs hsz ih
 | tuple ps cs hsz _ ih=>exact .tuple ps cs hsz ih
 | nils a=>exact .nils a
 | own id b off len cap u m=>exact .own id b off len cap (hU id u).1 ((hU id u).2.trans m)
 | own0 id a a2 u m=>exact .own0 id a a2 (hU id u).1 ((hU id u).2.trans m)
 | full e l a h=>exact .full e l a (h.mono hs hb)
 | bsl id n b u m=>exact .bsl id n b (hU id u).1 ((hU id u).2.trans m)
 | ptr id off b len cap u m=>exact .ptr id off b len cap (hU id u).1 ((hU id u).2.trans m)
 | eptr e id i off b o len cap u m hi=>exact .eptr e id i off b o len cap (hU id u).1 ((hU id u).2.trans m) hi
 | rptr ps b o us hA hlt hm _ ih =>
  obtain ⟨h1,h2⟩:=hb b hlt hA;exact .rptr ps b o us h2 (zBK hlt hs) (fun j hj=>by
   have:=hm j hj;simp only [World.cell?,h1] at this ⊢;exact this) ih
 | fn f ps cs hsz _ ih=>exact .fn f ps cs hsz ih
 | bfn f ps cs hsz _ ih=>exact .bfn f ps cs hsz ih
 | nilfn=>exact .nilfn
 | nilp=>exact .nilp
 | nilm=>exact .nilm
 | yld n i=>exact .yld n i
 | map id b u m=>exact .map id b (hU id u).1 ((hU id u).2.trans m)
def xu:Blk E->Bool
 | .box w _=>w | .row w _ _=>w | .map w _=>w | .rowh _ _ _ _=>true | _=>false
def xG:Blk E->Bool
 | .free=>false | .dead=>false | _=>true
def xY:Blk E->Bool
 | .free=>false | _=>true
def ZY:Blk E->Bool
 | .box w _=>w | .row _ _ _=>true | .map w _=>w | .rowh _ _ _ _=>true | _=>false
theorem xy {b:Blk E}(h:xu b=true):ZY b=true:=by cases b<;>simp_all [xu,ZY]
theorem zeC {b:Blk E}(h:ZY b=true):xG b=true:=by cases b<;>simp_all [ZY,xG]
theorem yN {b:Blk E}(h:xu b=true):xG b=true:=by cases b<;>simp_all [xu,xG]
theorem yA {b:Blk E}(h:xG b=true):xY b=true:=by cases b<;>simp_all [xY,xG]
def Kb (b:Nat):Prop:=b<1
def Lv (μ:Nat->Loc) (H:List (Blk E)) (b:Nat):Prop:=∃id off len cap,xu (zn H id)=true/\μ id= .blk b off len cap
def Us (H:List (Blk E)) (id:Nat):Prop:=xY (zn H id)=true
def Av (A0:Nat->Prop) (μ:Nat->Loc) (H:List (Blk E)) (b:Nat):Prop:=(A0 b/\¬Kb b)\/Lv μ H b
def zc7 (w:World) (b:Nat) (fr:Bool) (c:Array Value):Prop:=∃t f,w.heap[b]? =some (.cells c t f)/\(fr=true->f=(0,0))
def xX (w:World) (A:Nat->Prop) (U:Nat->Prop) (μ:Nat->Loc) (l:Loc) (B:Blk E):Prop:=match B with
 | .free=>True
 | .dead=>True
 | .box wr cs=>∃b len cap c,l= .blk b 0 len cap/\zc7 w b wr c/\c.size=cs.length/\∀j (h:j<cs.length),yc E w A U μ cs[j] (c.getD j undef)/\cs[j].leaf=true
 | .row wr e xs=>(∃(b off cap:Nat) (c:Array Value) (vs:Nat->Value),l= .blk b off xs.length cap/\zc7 w b wr c/\xs.length<=cap/\off+cap*e.size E<=c.size /\
   (∀i,i<xs.length->∀j u,(vs i).cells[j]? =some u->c[off+i*e.size E+j]? =some u)/\∀i (h:i<xs.length),yz E w A e (vs i) xs[i])\/(xs=[]/\∃a,l= .none a)
 | .rowh e xs n k=>∃(b off cap:Nat) (c:Array Value) (vs:Nat->Value),l= .blk b off xs.length cap/\zc7 w b true c/\xs.length<=cap/\off+cap<=c.size/\n<xs.length /\
   (∀i,i<xs.length->∀j u,(vs i).cells[j]? =some u->c[off+i+j]? =some u)/\(∀i (h:i<xs.length),i≠n->yz E w A (.slice e) (vs i) xs[i])/\yc E w A U μ (.own k) (vs n)
 | .map _ es=>∃b ms clock,l= .blk b 0 0 0/\w.heap[b]? =some (.map ms clock)/\ms.size=es.length /\
   ∀j (h:j<es.length),yc E w A U μ es[j].1 ((ms.getD j default).key)/\yc E w A U μ es[j].2 ((ms.getD j default).val)
structure z9 (A0:Nat->Prop) (μ:Nat->Loc) (H:List (Blk E)) (w:World):Prop where
 ok:∀id,xX w (Av A0 μ H) (Us H) μ (μ id) (zn H id)
 inj:∀i j b o l c b' o' l' c',i≠j->xu (zn H i)=true->xG (zn H j)=true->μ i= .blk b o l c->μ j= .blk b' o' l' c'->b≠b'
 out:∀id b o l c,ZY (zn H id)=true->μ id= .blk b o l c->¬A0 b/\b<w.heap.size
structure z3 (A0:Nat->Prop) (μ:Nat->Loc) (H:List (Blk E)) (w:World) (μ':Nat->Loc) (H':List (Blk E)) (w':World):Prop where
 os:w'.os=w.os
 tape:w'.tape=w.tape
 output:w'.output=w.output
 size:w.heap.size<=w'.heap.size
 block:∀b,b<w.heap.size->¬Lv μ H b->w'.heap[b]? =w.heap[b]?
 lv:∀b,b<w.heap.size->Lv μ' H' b->Lv μ H b
 used:∀id,Us H id->Us H' id/\μ' id=μ id
 len:H'.length=H.length
theorem z3.refl (A0:Nat->Prop) (μ:Nat->Loc) (H:List (Blk E)) (w:World):z3 A0 μ H w μ H w :=
 ⟨rfl,rfl,rfl,zBm _,fun _ _ _=>rfl,fun _ _ h=>h,fun _ h=>⟨h,rfl⟩,rfl⟩
theorem z3.trans {A0:Nat->Prop}{μ μ1 μ2:Nat->Loc}{H H1 H2:List (Blk E)}{w w1 w2:World}(h:z3 A0 μ H w μ1 H1 w1) (k:z3 A0 μ1 H1 w1 μ2 H2 w2) :
  z3 A0 μ H w μ2 H2 w2 :=
 ⟨k.os.trans h.os,k.tape.trans h.tape,k.output.trans h.output,zCf h.size k.size,
  fun b hb hl=>(k.block b (zBK hb h.size) (fun hl1=>hl (h.lv b hb hl1))).trans (h.block b hb hl),
  fun b hb hl=>h.lv b hb (k.lv b (zBK hb h.size) hl),
  fun id hu=>⟨(k.used id (h.used id hu).1).1,(k.used id (h.used id hu).1).2.trans (h.used id hu).2⟩,k.len.trans h.len⟩
theorem z3.rep {A0:Nat->Prop}{μ μ':Nat->Loc}{H H':List (Blk E)}{w w':World}(h:z3 A0 μ H w μ' H' w') {p:zj E}{v:Value}
  (r:yc E w (Av A0 μ H) (Us H) μ p v):yc E w' (Av A0 μ' H') (Us H') μ' p v :=
 r.mono h.size (fun b hb hA=>⟨h.block b hb (fun hl=>hA (.inr hl)),fun hA'=>hA'.elim (fun h0=>hA (.inl h0)) (fun hl=>hA (.inr (h.lv b hb hl)))⟩) h.used
theorem z3.repT {A0:Nat->Prop}{μ μ':Nat->Loc}{H H':List (Blk E)}{w w':World}(h:z3 A0 μ H w μ' H' w') {τ:Ty}{x:Den E.T τ}{v:Value}
  (r:yz E w (Av A0 μ H) τ v x):yz E w' (Av A0 μ' H') τ v x :=
 r.mono h.size (fun b hb hA=>⟨h.block b hb (fun hl=>hA (.inr hl)),fun hA'=>hA'.elim (fun h0=>hA (.inl h0)) (fun hl=>hA (.inr (h.lv b hb hl)))⟩)
theorem zc7.keep {w w':World}{b:Nat}{fr:Bool}{c:Array Value}(h:zc7 w b fr c) (e:w'.heap[b]? =w.heap[b]?):zc7 w' b fr c:=by
 obtain ⟨t,f,h1,h2⟩:=h;exact ⟨t,f,e.trans h1,h2⟩
theorem zc7.lt {w:World}{b:Nat}{fr:Bool}{c:Array Value}(h:zc7 w b fr c):b<w.heap.size:=by
 obtain ⟨t,f,h1,_⟩:=h;exact (zBP.1 h1).1
theorem xX.keep {A0:Nat->Prop}{μ μ':Nat->Loc}{H H':List (Blk E)}{w w':World}(h:z3 A0 μ H w μ' H' w') {l:Loc}{B:Blk E}
  (hk:∀b o n c,xG B=true->l= .blk b o n c->w'.heap[b]? =w.heap[b]?)
  (r:xX w (Av A0 μ H) (Us H) μ l B):xX w' (Av A0 μ' H') (Us H') μ' l B:=by
 cases B with
 | free=>trivial
 | dead=>trivial
 | box wr cs =>
  obtain ⟨b,len,cap,c,hl,hbox,hsz,hr⟩:=r;exact ⟨b,len,cap,c,hl,hbox.keep (hk b 0 len cap rfl hl),hsz,fun j hj=>⟨h.rep (hr j hj).1,(hr j hj).2⟩⟩
 | row wr e xs =>
  rcases r with ⟨b,off,cap,c,vs,hl,hbox,h1,h2,h3,h4⟩ | ⟨h1,a,h2⟩
  .exact .inl ⟨b,off,cap,c,vs,hl,hbox.keep (hk b off xs.length cap rfl hl),h1,h2,h3,fun i hi=>h.repT (h4 i hi)⟩
  .exact .inr ⟨h1,a,h2⟩
 | rowh e xs n k =>
  obtain ⟨b,off,cap,c,vs,hl,hbox,h1,h2,h3,h4,h5,h6⟩:=r;exact ⟨b,off,cap,c,vs,hl,hbox.keep (hk b off xs.length cap rfl hl),h1,h2,h3,h4,fun i hi hn=>h.repT (h5 i hi hn),h.rep h6⟩
 | map wr es =>
  obtain ⟨b,ms,clock,hl,hm,hsz,hr⟩:=r;exact ⟨b,ms,clock,hl,(hk b 0 0 0 rfl hl).trans hm,hsz,fun j hj=>⟨h.rep (hr j hj).1,h.rep (hr j hj).2⟩⟩
theorem xX.lt {w:World}{A U:Nat->Prop}{μ:Nat->Loc}{l:Loc}{B:Blk E}(r:xX w A U μ l B) {b o n c:Nat}(hm:xG B=true) (hl:l= .blk b o n c):b<w.heap.size:=by
 subst hl;cases B with
 | free=>simp [xG] at hm
 | dead=>simp [xG] at hm
 | box wr cs =>
  obtain ⟨b',len,cap,c',hl,hbox,_⟩:=r;injection hl with e;subst e;exact hbox.lt
 | row wr e xs =>
  rcases r with ⟨b',off,cap,c',vs,hl,hbox,_⟩ | ⟨_,a,h2⟩
  .injection hl with e;subst e;exact hbox.lt
  .cases h2
 | rowh e xs n k =>
  obtain ⟨b',off,cap,c',vs,hl,hbox,_⟩:=r;injection hl with e;subst e;exact hbox.lt
 | map wr es =>
  obtain ⟨b',ms,clock,hl,hm',_⟩:=r;injection hl with e;subst e;exact (zBP.1 hm').1
theorem xX.of_not_mem {w:World}{A U:Nat->Prop}{μ:Nat->Loc}{l:Loc}{B:Blk E}(h:xG B=false):xX w A U μ l B:=by
 cases B<;>first | trivial | (simp [xG] at h)
theorem z9.step {A0:Nat->Prop}{μ μ':Nat->Loc}{H H':List (Blk E)}{w w':World}(h:z9 A0 μ H w) (T:z3 A0 μ H w μ' H' w') (S:Nat->Prop)
  (same:∀id,¬S id->(zn H' id=zn H id/\(xG (zn H id)=true->μ' id=μ id))\/xG (zn H' id)=false)
  (keep:∀id b o n c,¬S id->xG (zn H' id)=true->μ id= .blk b o n c->w'.heap[b]? =w.heap[b]?)
  (ok:∀id,S id->xX w' (Av A0 μ' H') (Us H') μ' (μ' id) (zn H' id))
  (inj:∀i j b o l c b' o' l' c',i≠j->S i\/S j->xu (zn H' i)=true->xG (zn H' j)=true->μ' i= .blk b o l c->μ' j= .blk b' o' l' c'->b≠b')
  (out:∀id b o l c,S id->ZY (zn H' id)=true->μ' id= .blk b o l c->¬A0 b/\b<w'.heap.size):z9 A0 μ' H' w':=by
 have hμ:∀id,¬S id->xG (zn H' id)=true->zn H' id=zn H id/\μ' id=μ id:=fun id hS hm=>by
  rcases same id hS with ⟨h1,h2⟩ | h1
  .exact ⟨h1,h2 (h1▸hm)⟩
  .rw [h1] at hm;cases hm
 refine ⟨fun id=>?_,fun i j b o l c b' o' l' c' hne hi hj mi mj=>?_,fun id b o l c hi mi=>?_⟩
 .by_cases hS:S id
  .exact ok id hS
  .by_cases hm:xG (zn H' id)=true
   .obtain ⟨h1,h2⟩:=hμ id hS hm;have:=h.ok id;rw [h1,h2];exact this.keep T (fun b o n c _ hl=>keep id b o n c hS hm hl)
   .exact xX.of_not_mem (by simpa using hm)
 .by_cases hS:S i\/S j
  .exact inj i j b o l c b' o' l' c' hne hS hi hj mi mj
  .have hSi: ¬S i:=fun x=>hS (.inl x);have hSj: ¬S j:=fun x=>hS (.inr x);obtain ⟨a1,a2⟩:=hμ i hSi (yN hi);obtain ⟨b1,b2⟩:=hμ j hSj hj;exact h.inj i j b o l c b' o' l' c' hne (a1▸hi) (b1▸hj) (a2▸mi) (b2▸mj)
 .by_cases hS:S id
  .exact out id b o l c hS hi mi
  .obtain ⟨a1,a2⟩:=hμ id hS (zeC hi);obtain ⟨r1,r2⟩:=h.out id b o l c (a1▸hi) (a2▸mi);exact ⟨r1,zBK r2 T.size⟩
end Go.Pe
namespace Go.Pe
variable {E:yG}
theorem zao (H:List (Blk E)) (id j:Nat) (B:Blk E) (h:id<H.length):zn (H.set id B) j=if id=j then B else zn H j:=by
 unfold zn;rw [zBZ];split
 .rename_i e;subst e;simp
 .rfl
theorem ya (H:List (Blk E)) {id j:Nat}(B:Blk E) (h:id≠j):zn (H.set id B) j=zn H j:=by
 unfold zn;rw [zBI h]
theorem yr (H:List (Blk E)) (id:Nat) (B:Blk E) (h:id<H.length):zn (H.set id B) id=B:=by
 rw [zao H id id B h,zb rfl]
theorem wu {H:List (Blk E)}{id:Nat}(h:xY (zn H id)=true):id<H.length:=by
 rcases zBR id H.length with h' | h'
 .exact h'
 .unfold zn at h;rw [zCj h'] at h;simp [xY] at h
def YT (μ:Nat->Loc) (id:Nat) (l:Loc):Nat->Loc:=fun i=>if i=id then l else μ i
theorem vv (μ:Nat->Loc) (id:Nat) (l:Loc):YT μ id l id=l:=zb rfl
theorem UG (μ:Nat->Loc) {id i:Nat}(l:Loc) (h:i≠id):YT μ id l i=μ i:=zd h
structure yv (w w':World):Prop where
 os:w'.os=w.os
 tape:w'.tape=w.tape
 output:w'.output=w.output
 size:w.heap.size<=w'.heap.size
theorem yv.refl (w:World):yv w w:=⟨rfl,rfl,rfl,zBm _⟩
theorem yv.alloc (w:World) (o:Obj):yv w (w.alloc o):=⟨rfl,rfl,rfl,by simp⟩
theorem yv.drew (w:World):yv w w.drew:=⟨rfl,rfl,rfl,zBm _⟩
theorem yv.setRow (w:World) (g:Nat) (c:Array Value):yv w (w.setRow g c):=⟨rfl,rfl,rfl,by simp⟩
section
variable {A0:Nat->Prop}{μ:Nat->Loc}{H:List (Blk E)}{w w':World}
theorem z3.fresh (id:Nat) (l:Loc) (B:Blk E) (hf:zn H id= .free) (hlt:id<H.length) (q:yv w w') (hb:∀b,b<w.heap.size->w'.heap[b]? =w.heap[b]?)
  (hl:∀b o n c,l= .blk b o n c->w.heap.size<=b):z3 A0 μ H w (YT μ id l) (H.set id B) w':=by
 have hne:∀i,Us H i->i≠id:=fun i hi e=>by subst e;simp [Us,hf,xY] at hi
 refine ⟨q.os,q.tape,q.output,q.size,fun b hlt' _=>hb b hlt',fun b hlt' ⟨i,o,n,c,h1,h2⟩=>?_,fun i hi=>⟨?_,UG _ _ (hne i hi)⟩,by simp⟩
 .by_cases e:i=id
  .subst e;rw [vv] at h2;have:=hl _ _ _ _ h2;omega
  .rw [UG _ _ e] at h2;rw [ya H B (Ne.symm e)] at h1;exact ⟨i,o,n,c,h1,h2⟩
 .unfold Us;rw [ya H B (Ne.symm (hne i hi))];exact hi
theorem z9.fresh (h:z9 A0 μ H w) (id:Nat) (l:Loc) (B:Blk E) (hf:zn H id= .free) (hlt:id<H.length) (q:yv w w') (hb:∀b,b<w.heap.size->w'.heap[b]? =w.heap[b]?)
  (hl:∀b o n c,l= .blk b o n c->w.heap.size<=b/\b<w'.heap.size) (hA:∀b,A0 b->b<w.heap.size)
  (ok:xX w' (Av A0 (YT μ id l) (H.set id B)) (Us (H.set id B)) (YT μ id l) l B):z9 A0 (YT μ id l) (H.set id B) w':=by
 have T:=z3.fresh (A0:=A0) (μ:=μ) id l B hf hlt q hb (fun b o n c e=>(hl b o n c e).1);refine h.step T (fun i=>i=id) (fun i hi=>.inl ⟨ya H B (Ne.symm hi),fun _=>UG _ _ hi⟩) (fun i b o n c hi hm hμ=>?_) (fun i hi=>?_) (fun i j b o n c b' o' n' c' hne hS hi hj mi mj=>?_) (fun i b o n c hi hlv hμ=>?_)
 .rw [ya H B (Ne.symm hi)] at hm;exact hb b (xX.lt (h.ok i) hm hμ)
 .subst hi;rw [yr H i B hlt,vv];exact ok
 .rcases hS with rfl | rfl
  .rw [vv] at mi;have h1:=(hl _ _ _ _ mi).1;rw [UG _ _ (Ne.symm hne)] at mj;rw [ya H B hne] at hj;have:=xX.lt (h.ok j) hj mj;omega
  .rw [vv] at mj;have h1:=(hl _ _ _ _ mj).1;rw [UG _ _ hne] at mi;rw [ya H B (Ne.symm hne)] at hi;have:=xX.lt (h.ok i) (yN hi) mi;omega
 .subst hi;rw [vv] at hμ;obtain ⟨h1,h2⟩:=hl _ _ _ _ hμ;exact ⟨fun ha=>by have:=hA b ha;omega,h2⟩
theorem z3.write (id:Nat) (B:Blk E) (hu:Us H id) (q:yv w w') (hlive:xu (zn H id)=true)
  (hb:∀b,b<w.heap.size->(∀o n c,μ id≠ .blk b o n c)->w'.heap[b]? =w.heap[b]?) (hB:xY B=true):z3 A0 μ H w μ (H.set id B) w':=by
 have hlt:=wu hu;refine ⟨q.os,q.tape,q.output,q.size,fun b hlt' hl=>hb b hlt' (fun o n c e=>hl ⟨id,o,n,c,hlive,e⟩),fun b hlt' ⟨i,o,n,c,h1,h2⟩=>?_,fun i hi=>⟨?_,rfl⟩,by simp⟩
 .by_cases e:id=i
  .subst e;exact ⟨id,o,n,c,hlive,h2⟩
  .rw [ya H B e] at h1;exact ⟨i,o,n,c,h1,h2⟩
 .unfold Us;rw [zao H id i B hlt];split
  .exact hB
  .exact hi
theorem z9.write (h:z9 A0 μ H w) (id:Nat) (B:Blk E) (hu:Us H id) (q:yv w w') (hlive:xu (zn H id)=true)
  (hb:∀b,b<w.heap.size->(∀o n c,μ id≠ .blk b o n c)->w'.heap[b]? =w.heap[b]?) (hB:xY B=true)
  (ok:xX w' (Av A0 μ (H.set id B)) (Us (H.set id B)) μ (μ id) B):z9 A0 μ (H.set id B) w':=by
 have hlt:=wu hu;have T:=z3.write (A0:=A0) (μ:=μ) id B hu q hlive hb hB;refine h.step T (fun i=>i=id) (fun i hi=>.inl ⟨ya H B (Ne.symm hi),fun _=>rfl⟩) (fun i b o n c hi hm hμ=>?_) (fun i hi=>?_) (fun i j b o n c b' o' n' c' hne hS hi hj mi mj=>?_) (fun i b o n c hi hlv hμ=>?_)
 .rw [ya H B (Ne.symm hi)] at hm;refine hb b (xX.lt (h.ok i) hm hμ) (fun o' n' c' e=>?_);exact h.inj id i b o' n' c' b o n c (Ne.symm hi) hlive hm e hμ rfl
 .subst hi;rw [yr H i B hlt];exact ok
 .rcases hS with rfl | rfl
  .rw [ya H B hne] at hj;exact h.inj i j b o n c b' o' n' c' hne hlive hj mi mj
  .rw [ya H B (Ne.symm hne)] at hi;exact h.inj i j b o n c b' o' n' c' hne hi (yN hlive) mi mj
 .subst hi;obtain ⟨h1,h2⟩:=h.out i b o n c (xy hlive) hμ;exact ⟨h1,zBK h2 q.size⟩
theorem z3.drop (id:Nat) (B:Blk E) (hu:Us H id) (hB:xu B=false) (hB':xY B=true):z3 A0 μ H w μ (H.set id B) w:=by
 have hlt:=wu hu;refine ⟨rfl,rfl,rfl,zBm _,fun _ _ _=>rfl,fun b hlt' ⟨i,o,n,c,h1,h2⟩=>?_,fun i hi=>⟨?_,rfl⟩,by simp⟩
 .by_cases e:id=i
  .subst e;rw [yr H id B hlt,hB] at h1;cases h1
  .rw [ya H B e] at h1;exact ⟨i,o,n,c,h1,h2⟩
 .unfold Us;rw [zao H id i B hlt];split
  .exact hB'
  .exact hi
theorem z9.drop (h:z9 A0 μ H w) (id:Nat) (B:Blk E) (hu:Us H id) (hB:xu B=false) (hB':xY B=true) (hm:xG B=true->xG (zn H id)=true) (ho:ZY B=true->ZY (zn H id)=true)
  (ok:xX w (Av A0 μ (H.set id B)) (Us (H.set id B)) μ (μ id) B):z9 A0 μ (H.set id B) w:=by
 have hlt:=wu hu;have T:=z3.drop (A0:=A0) (μ:=μ) (w:=w) id B hu hB hB';refine h.step T (fun i=>i=id) (fun i hi=>.inl ⟨ya H B (Ne.symm hi),fun _=>rfl⟩) (fun _ _ _ _ _ _ _ _=>rfl) (fun i hi=>?_) (fun i j b o n c b' o' n' c' hne hS hi hj mi mj=>?_) (fun i b o n c hi hlv hμ=>?_)
 .subst hi;rw [yr H i B hlt];exact ok
 .rcases hS with rfl | rfl
  .rw [yr H i B hlt,hB] at hi;cases hi
  .rw [ya H B (Ne.symm hne)] at hi;rw [yr H j B hlt] at hj;exact h.inj i j b o n c b' o' n' c' hne hi (hm hj) mi mj
 .subst hi;rw [yr H i B hlt] at hlv;exact h.out i b o n c (ho hlv) hμ
theorem z3.drew:z3 A0 μ H w μ H w.drew :=
 ⟨rfl,rfl,rfl,zBm _,fun _ _ _=>rfl,fun _ _ h=>h,fun _ h=>⟨h,rfl⟩,rfl⟩
theorem z9.drew (h:z9 A0 μ H w):z9 A0 μ H w.drew :=
 h.step z3.drew (fun _=>False) (fun _ _=>.inl ⟨rfl,fun _=>rfl⟩) (fun _ _ _ _ _ _ _ _=>rfl) (fun _ hi=>hi.elim) (fun _ _ _ _ _ _ _ _ _ _ _ hS=>(hS.elim id id).elim) (fun _ _ _ _ _ hi=>hi.elim)
theorem z3.move (id fresh b o n c o' n' c':Nat) (B:Blk E) (hlive:xu (zn H id)=true) (hμ:μ id= .blk b o n c) (hf:zn H fresh= .free) (hlt:fresh<H.length) (q:yv w w')
  (hb:∀k,k<w.heap.size->k≠b->w'.heap[k]? =w.heap[k]?):z3 A0 μ H w (YT μ fresh (.blk b o' n' c')) ((H.set id .dead).set fresh B) w':=by
 have hu:Us H id:=yA (yN hlive);have hne:∀i,Us H i->i≠fresh:=fun i hi e=>by subst e;simp [Us,hf,xY] at hi
 have hif:=hne id hu;have hid:=wu hu;refine ⟨q.os,q.tape,q.output,q.size,fun k hk hl=>hb k hk (fun e=>hl (by subst e;exact ⟨id,o,n,c,hlive,hμ⟩)),fun k hk ⟨i,o1,n1,c1,h1,h2⟩=>?_,fun i hi=>⟨?_,UG _ _ (hne i hi)⟩,by simp⟩
 .by_cases e:i=fresh
  .subst e;rw [vv] at h2;injection h2 with e1;subst e1;exact ⟨id,o,n,c,hlive,hμ⟩
  .rw [UG _ _ e] at h2;rw [ya _ B (Ne.symm e)] at h1;by_cases e2:id=i
   .subst e2;rw [yr H id .dead hid] at h1;cases h1
   .rw [ya H _ e2] at h1;exact ⟨i,o1,n1,c1,h1,h2⟩
 .unfold Us;rw [ya _ B (Ne.symm (hne i hi)),zao H id i .dead hid];split
  .rfl
  .exact hi
theorem z9.move (h:z9 A0 μ H w) (id fresh b o n c o' n' c':Nat) (B:Blk E) (hlive:xu (zn H id)=true) (hμ:μ id= .blk b o n c) (hf:zn H fresh= .free) (hlt:fresh<H.length) (q:yv w w')
  (hb:∀k,k<w.heap.size->k≠b->w'.heap[k]? =w.heap[k]?)
  (ok:xX w' (Av A0 (YT μ fresh (.blk b o' n' c')) ((H.set id .dead).set fresh B)) (Us ((H.set id .dead).set fresh B)) (YT μ fresh (.blk b o' n' c')) (.blk b o' n' c') B) :
  z9 A0 (YT μ fresh (.blk b o' n' c')) ((H.set id .dead).set fresh B) w':=by
 have hu:Us H id:=yA (yN hlive);have hif:id≠fresh:=fun e=>by subst e;simp [Us,hf,xY] at hu
 have hid:=wu hu;have hfl:fresh<(H.set id .dead).length:=by simpa using hlt
 have T:=z3.move (A0:=A0) (μ:=μ) id fresh b o n c o' n' c' B hlive hμ hf hlt q hb;have hg:∀i,i≠fresh->i≠id->zn ((H.set id .dead).set fresh B) i=zn H i:=fun i h1 h2=>by
  rw [ya _ B (Ne.symm h1),ya H _ (Ne.symm h2)]
 refine h.step T (fun i=>i=fresh) (fun i hi=>?_) (fun i k o1 n1 c1 hi hm hμ'=>?_) (fun i hi=>?_) (fun i j k o1 n1 c1 k' o2 n2 c2 hne hS hi hj mi mj=>?_) (fun i k o1 n1 c1 hi hlv hμ'=>?_)
 .by_cases e:i=id
  .subst e;right;rw [ya _ B (Ne.symm hi),yr H i .dead hid];rfl
  .exact .inl ⟨hg i hi e,fun _=>UG _ _ hi⟩
 .by_cases e:i=id
  .subst e;rw [ya _ B (Ne.symm hi),yr H i .dead hid] at hm;cases hm
  .rw [hg i hi e] at hm;exact hb k (xX.lt (h.ok i) hm hμ') (fun e'=>h.inj id i b o n c k o1 n1 c1 (Ne.symm e) hlive hm hμ hμ' e'.symm)
 .subst hi;rw [yr _ i B hfl,vv];exact ok
 .rcases hS with rfl | rfl
  .rw [vv] at mi;injection mi with e1;subst e1;rw [UG _ _ (Ne.symm hne)] at mj;by_cases e:j=id
   .subst e;rw [ya _ B hne,yr H j .dead hid] at hj;cases hj
   .rw [hg j (Ne.symm hne) e] at hj;exact h.inj id j b o n c k' o2 n2 c2 (Ne.symm e) hlive hj hμ mj
  .rw [vv] at mj;injection mj with e1;subst e1;rw [UG _ _ hne] at mi;by_cases e:i=id
   .subst e;rw [ya _ B (Ne.symm hne),yr H i .dead hid] at hi;cases hi
   .rw [hg i hne e] at hi;exact h.inj i id k o1 n1 c1 b o n c e hi (yN hlive) mi hμ
 .subst hi;rw [vv] at hμ';injection hμ' with e1;subst e1;obtain ⟨h1,h2⟩:=h.out id b o n c (xy hlive) hμ;exact ⟨h1,zBK h2 q.size⟩
end
end Go.Pe
namespace Go.Pe
def Z.toV:Z->Value
 | .bool=>.bool false | .int k=>.int k 0 | .str=>.string ByteArray.empty | .slice=>.slice none 0 0 | .func=>.nilFunc | .ptr=>.pointer none | .map=>.map none
def xA (i:TI):Value:=if i.agg then .agg (i.zero.map Z.toV).toArray else match i.zero with | [z]=>z.toV | _=>undef
def zee:List Z->List Ty->Bool
 | [],[]=>true
 | z::zs,t::ts=>z.is t&&zee zs ts
 | _,_=>false
def zrW:Value->Value->Bool
 | .bool a,.bool b=>a==b
 | .int k a,.int k' b=>decide (k=k')&&decide (a=b)
 | .string a,.string b=>decide (a=b)
 | .slice none 0 0,.slice none 0 0=>true
 | .nilFunc,.nilFunc=>true
 | .pointer none,.pointer none=>true
 | .map none,.map none=>true
 | _,_=>false
theorem zsh {a b:Value}(h:zrW a b=true):a=b:=by
 unfold zrW at h;split at h<;>simp_all
def zjv:List Value->List Value->Bool
 | [],[]=>true
 | a::as,b::bs=>zrW a b&&zjv as bs
 | _,_=>false
theorem zqT:∀ {a b:List Value},zjv a b=true->a=b
 | [],[],_=>rfl
 | [],_::_,h=>by simp [zjv] at h
 | _::_,[],h=>by simp [zjv] at h
 | a::as,b::bs,h=>by
  simp only [zjv,zBl] at h;rw [zsh h.1,zqT h.2]
def zoT (i:TI):Option Value->Bool
 | some (.agg cs)=>i.agg&&zjv cs.toList (i.zero.map Z.toV)
 | some v=> !i.agg&&(match i.zero with | [z]=>zrW v z.toV | _=>false)
 | none=>false
theorem zyG {i:TI}{o:Option Value}(h:zoT i o=true):o=some (xA i):=by
 cases o with
 | none=>simp [zoT] at h
 | some v =>
  unfold xA;cases v with
  | agg cs =>
   simp only [zoT,zBl] at h;rw [zb h.1,<-zqT h.2]
  | _ =>
   simp only [zoT,zBl,zBC] at h;rw [zd (by simp [h.1])];obtain ⟨_,h⟩:=h;split at h
   .rename_i z hz;rw [zsh h]
   .cases h
def tyB (lv:Nat->List Ty) (tab:List (Nat×TI)) (i:TI):Bool:=match i.ty with
 | none=>true
 | some (.named n)=>i.agg&&zee i.zero (lv n)
 | some (.arr n e)=>i.agg&&i.alen==n&&i.fields.isEmpty&&(match look tab i.elem with | some u=>decide (u.ty=some e) | none=>false)
 | some (.slice e)=> !i.agg&&(match look tab i.elem with | some u=>decide (u.ty=some e)&& !Nat.beq u.size 0 | none=>false)&&(match i.zero with | [.slice]=>true | _=>false)&&(match e with | .arr _ _=>false | _=>true)
 | some τ=> !i.agg&&(match i.zero with | [z]=>z.is τ | _=>false)
def uk (P:Program) (tab:List (Nat×TI)) (i:TI):TypeDesc->Bool
 | .struct fs=>i.agg&&decide (i.fields=fs.toList.map fun f=>(f.offset,f.type))&&fs.toList.all (fun f=> !Nat.beq (P.cellsOf f.type) 0)&&i.alen==0&&(match i.ty with | none=>true | some (.named _)=>true | _=>false)
 | .array n e=>i.agg&&Nat.beq i.alen n&&Nat.beq i.elem e&&i.fields.isEmpty&&(match look tab e with | some u=>Nat.beq i.size (n*u.size)&& !Nat.beq u.size 0 | none=>false)&&(match i.ty with | none=>true | some (.arr _ _)=>true | some (.named _)=>true | _=>false)
 | .slice e=> !i.agg&&Nat.beq i.elem e&&(match i.ty with | none=>true | some (.slice _)=>true | _=>false)&&Nat.beq i.alen 0&&(look tab e).isSome
 | .int k=> !i.agg&&(match i.ty with | none=>true | some (.int k')=>decide (k=k') | _=>false)&&Nat.beq i.alen 0
 | .bool=> !i.agg&&(match i.ty with | none=>true | some .bool=>true | _=>false)&&Nat.beq i.alen 0
 | .string=> !i.agg&&(match i.ty with | none=>true | some .str=>true | _=>false)&&Nat.beq i.alen 0
 | .pointer e=> !i.agg&&i.ty.isNone&&(match look tab e with | some u=>Nat.beq i.alen u.alen | none=>Nat.beq i.alen 0)
 | .func _ _ _=> !i.agg&&i.ty.isNone&&Nat.beq i.alen 0
 | .map k e=> !i.agg&&i.ty.isNone&&Nat.beq i.elem e&&(match P.underlying k with | some (.int .i64)=>true | _=>false)&&Nat.beq i.alen 0
 | _=>false
def tiB (lv:Nat->List Ty) (P:Program) (tab:List (Nat×TI)) (t:Nat) (i:TI):Bool :=
 (match P.info? t with | some f=>Nat.beq f.size i.size&&Nat.beq f.bytes i.bytes&&zoT i f.zero | none=>false) &&
 (match P.underlying t with | some d=>uk P tab i d&&(i.sl==match d with | .slice _=>true | _=>false)&&(i.fk==match d with | .func _ _ _=>true | _=>false)&&(!i.cmp||(!P.eqGuardType P.depth t&&match d with | .struct fs=> !P.stoodInHeld t&&fs.toList.all (fun f=>f.name != "_") | _=>true)) | none=>false) &&
 tyB lv tab i&&Nat.beq i.zero.length i.size&&(i.agg||Nat.beq i.size 1&&i.fields.isEmpty)&&(Nat.ble i.bytes 4096&&(!i.mp||match P.underlying t with | some (.map _ _)=>true | _=>false))
def yX (lv:Nat->List Ty) (P:Program) (tab:List (Nat×TI)):Bool:=tab.all fun x=>tiB lv P tab x.1 x.2
theorem zyJ {tab:List (Nat×TI)}{t:Nat}{i:TI}(h:look tab t=some i):(t,i)∈tab:=by
 induction tab with
 | nil=>simp [look] at h
 | cons x r ih =>
  obtain ⟨u,j⟩:=x;simp only [look] at h;split at h
  .rename_i hu;have:=zBs hu;subst this;simp at h;subst h;simp
  .exact zBr _ (ih h)
section
variable {E:yG}{P:Program}{tab:List (Nat×TI)}(hT:yX E.leaves P tab=true) {t:Nat}{i:TI}(hi:look tab t=some i)
include hT hi
theorem zeJ:tiB E.leaves P tab t i=true:=zBL.1 hT _ (zyJ hi)
theorem zdK:∃f,P.info? t=some f/\f.size=i.size/\f.bytes=i.bytes/\f.zero=some (xA i):=by
 have h:=zeJ hT hi;simp only [tiB,zBl] at h;obtain ⟨⟨⟨⟨⟨h,_⟩,_⟩,_⟩,_⟩,_⟩:=h;split at h
 .rename_i f hf;simp only [zBl] at h;exact ⟨f,hf,zBs h.1.1,zBs h.1.2,zyG h.2⟩
 .cases h
theorem znq:∃d,P.underlying t=some d/\uk P tab i d=true/\(i.sl=true↔∃e,d= .slice e):=by
 have h:=zeJ hT hi;simp only [tiB,zBl] at h;obtain ⟨⟨⟨⟨⟨_,h⟩,_⟩,_⟩,_⟩,_⟩:=h;split at h
 .rename_i d hd;simp only [zBl,beq_iff_eq] at h;refine ⟨d,hd,h.1.1.1,?_⟩;rw [h.1.1.2];split<;>simp_all
 .cases h
theorem zu8 (hk:i.fk=true):∃a b c,P.underlying t=some (.func a b c):=by
 have h:=zeJ hT hi;simp only [tiB,zBl] at h;obtain ⟨⟨⟨⟨⟨_,h⟩,_⟩,_⟩,_⟩,_⟩:=h;split at h
 .rename_i d hd;simp only [zBl,beq_iff_eq] at h;have:=h.1.2;rw [hk] at this;split at this
  .exact ⟨_,_,_,hd⟩
  .cases this
 .cases h
theorem zxt (hk:i.cmp=true):P.eqGuardType P.depth t=false/\∀fs,P.underlying t=some (.struct fs)->P.stoodInHeld t=false/\∀f∈fs.toList,f.name ≠ "_" := by
 have h:=zeJ hT hi;simp only [tiB,zBl] at h;obtain ⟨⟨⟨⟨⟨_,h⟩,_⟩,_⟩,_⟩,_⟩:=h;split at h
 .rename_i d hd;simp only [zBl,hk,zB6,Bool.false_or,zBC] at h;refine ⟨h.2.1,fun fs hfs=>?_⟩;rw [hd] at hfs;injection hfs with hfs;subst hfs;have h2:=h.2.2;simp only [zBl,zBC,zBL,bne_iff_ne] at h2;exact h2
 .cases h
theorem Yv:∃d,P.underlying t=some d/\uk P tab i d=true:=by
 obtain ⟨d,h1,h2,_⟩:=znq hT hi;exact ⟨d,h1,h2⟩
theorem zj2 (h:i.sl=true):P.underlying t=some (.slice i.elem):=by
 obtain ⟨d,h1,h2,h3⟩:=znq hT hi;obtain ⟨e,rfl⟩:=h3.1 h;simp only [uk,zBl] at h2;rw [zBs h2.1.1.1.2];exact h1
theorem zln (h:i.agg=true) (h0:i.alen≠0):P.underlying t=some (.array i.alen i.elem):=by
 obtain ⟨d,h1,h2,_⟩:=znq hT hi;cases d with
 | array n e =>
  simp only [uk,zBl] at h2;rw [zBs h2.1.1.1.1.2,zBs h2.1.1.1.2];exact h1
 | struct fs =>
  simp only [uk,zBl,beq_iff_eq] at h2;exact zk h2.1.2 h0
 | _=>simp [uk,h] at h2
theorem zeh:tyB E.leaves tab i=true:=by
 have h:=zeJ hT hi;simp only [tiB,zBl] at h;exact h.1.1.1.2
theorem zjI:i.zero.length=i.size:=by
 have h:=zeJ hT hi;simp only [tiB,zBl] at h;exact zBs h.1.1.2
theorem zc8 (ha:i.agg=false):i.size=1:=by
 have h:=zeJ hT hi;simp only [tiB,zBl,zCx,ha,zBT,false_or] at h;exact zBs h.1.2.1
theorem zwe (ha:i.agg=false):i.fields=[]:=by
 have h:=zeJ hT hi;simp only [tiB,zBl,zCx,ha,zBT,false_or] at h;simpa using h.1.2.2
theorem zkt:i.bytes<=4096:=by
 have h:=zeJ hT hi;simp only [tiB,zBl] at h;exact zB0 h.2.1
theorem zw8 (hk:i.mp=true):∃k,P.underlying t=some (.map k i.elem)/\P.underlying k=some (.int .i64):=by
 have h:=zeJ hT hi;simp only [tiB,zBl,hk,zB6,Bool.false_or] at h;have h2:=h.2.2;obtain ⟨d,hd,hb⟩:=Yv hT hi;rw [hd] at h2;split at h2
 .rename_i k e heq;injection heq with heq;subst heq;simp only [uk,zBl] at hb;have he:=zBs hb.1.1.2;subst he;refine ⟨k,hd,?_⟩;have:=hb.1.2;split at this
  .assumption
  .cases this
 .cases h2
theorem zkQ (w:World):∃f:TypeInfo,(typeInfo t).run P w= .ok f w/\f.size=i.size/\f.bytes=i.bytes/\f.zero=some (xA i):=by
 obtain ⟨f,h1,h2,h3,h4⟩:=zdK hT hi;exact ⟨f,by simp [typeInfo,h1],h2,h3,h4⟩
theorem xk (w:World):(sizeOf t).run P w= .ok i.size w:=by
 obtain ⟨f,h1,h2,_⟩:=zkQ hT hi w;simp [sizeOf,h1,h2]
theorem ZB (w:World):(zeroValue t).run P w= .ok (xA i) w:=by
 obtain ⟨f,h1,_,_,h4⟩:=zkQ hT hi w;simp [zeroValue,h1,h4]
theorem zcD (w:World):(isAgg t).run P w= .ok i.agg w:=by
 obtain ⟨d,h1,h2⟩:=Yv hT hi;simp only [isAgg,Sem.run_bind,run_underlying h1,Result.andThen_ok];cases d<;>simp_all [uk]
end
theorem zk9:∀ {zs:List Z}{ts:List Ty},zee zs ts=true->zs.length=ts.length
 | [],[],_=>rfl
 | [],_::_,h=>by simp [zee] at h
 | _::_,[],h=>by simp [zee] at h
 | z::zs,t::ts,h=>by
  simp only [zee,zBl] at h;simp [zk9 h.2]
theorem ul {E:yG}{P:Program}{tab:List (Nat×TI)}(hT:yX E.leaves P tab=true):∀(τ:Ty) {t:Nat}{i:TI},look tab t=some i->i.ty=some τ->τ.size E=i.size
 | .named n,t,i,hi,h=>by
  have h1:=zeh hT hi;simp only [tyB,h,zBl] at h1;rw [<-zjI hT hi,zk9 h1.2];rfl
 | .arr n e,t,i,hi,h=>by
  have h1:=zeh hT hi;obtain ⟨d,hd,h2⟩:=Yv hT hi;simp only [tyB,h,zBl] at h1;obtain ⟨⟨⟨ha,hn⟩,hf⟩,h1⟩:=h1;cases d with
  | array m el =>
   simp only [uk,h,zBl] at h2;obtain ⟨⟨⟨⟨⟨_,h3⟩,h4⟩,_⟩,h6⟩,_⟩:=h2;have h3:=zBs h3;have h4:=zBs h4;have hn:i.alen=n:=by simpa using hn
   subst h4;split at h1
   .rename_i u hu;have:=ul hT e hu (by simpa using h1);simp only [hu,zBl] at h6;rw [zBs h6.1,<-this,<-h3,hn];simp [Ty.size]
   .cases h1
  | _=>simp [uk,h,ha] at h2
 | .bool,t,i,hi,h=>by
  have h1:=zeh hT hi;simp only [tyB,h,zBl,zBC] at h1;rw [zc8 hT hi h1.1];rfl
 | .int k,t,i,hi,h=>by
  have h1:=zeh hT hi;simp only [tyB,h,zBl,zBC] at h1;rw [zc8 hT hi h1.1];rfl
 | .str,t,i,hi,h=>by
  have h1:=zeh hT hi;simp only [tyB,h,zBl,zBC] at h1;rw [zc8 hT hi h1.1];rfl
 | .slice e,t,i,hi,h=>by
  have h1:=zeh hT hi;simp only [tyB,h,zBl,zBC] at h1;rw [zc8 hT hi h1.1.1.1];rfl
theorem Up {E:yG}{P:Program}{tab:List (Nat×TI)}(hT:yX E.leaves P tab=true) {t:Nat}{i:TI}{e:Ty}(hi:look tab t=some i) (h:i.ty=some (.slice e)) :
  ∃u,look tab i.elem=some u/\u.ty=some e/\u.size≠0/\P.underlying t=some (.slice i.elem)/\∀n e',e≠ .arr n e':=by
 have h1:=zeh hT hi;simp only [tyB,h,zBl,zBC] at h1;obtain ⟨⟨⟨_,h2⟩,_⟩,h4⟩:=h1;obtain ⟨d,hd,h3⟩:=Yv hT hi;split at h2
 .rename_i u hu;simp only [zBl,decide_eq_true_eq,zBC] at h2;refine ⟨u,hu,h2.1,fun e0=>by simp [e0] at h2,?_,fun n e' he=>by subst he;simp at h4⟩;cases d with
  | slice el=>simp only [uk,zBl] at h3;rw [zBs h3.1.1.1.2];exact hd
  | _=>simp [uk,h] at h3
 .cases h2
end Go.Pe
namespace Go.Pe
variable {E:yG}
def RL (R:zj E->Value->Prop) (ps:List (zj E)) (vs:List Value):Prop:=ps.length=vs.length/\∀(j:Nat) p u,ps[j]? =some p->vs[j]? =some u->R p u
section
variable {R:zj E->Value->Prop}
theorem RL.nil:RL R [] []:=⟨rfl,fun j p u h=>by simp at h⟩
theorem RL.cons {p:zj E}{u:Value}{ps:List (zj E)}{vs:List Value}(h:R p u) (k:RL R ps vs):RL R (p::ps) (u::vs) :=
 ⟨by simp [k.1],fun j q v hq hv=>by
  cases j with
  | zero=>simp at hq hv;subst hq hv;exact h
  | succ j=>exact k.2 j q v (by simpa using hq) (by simpa using hv)⟩
theorem RL.append {ps qs:List (zj E)}{us vs:List Value}(h:RL R ps us) (k:RL R qs vs):RL R (ps++qs) (us++vs) :=
 ⟨by simp [h.1,k.1],fun j p u hp hu=>by
  have hl:=h.1;by_cases hj:j<ps.length
  .rw [zBM hj] at hp;rw [zBM (by omega)] at hu;exact h.2 j p u hp hu
  .rw [zBS (by omega)] at hp;rw [zBS (by omega)] at hu;exact k.2 _ p u hp (by rw [h.1];exact hu)⟩
theorem RL.drop {ps:List (zj E)}{vs:List Value}(h:RL R ps vs) (n:Nat):RL R (ps.drop n) (vs.drop n) :=
 ⟨by simp [h.1],fun j p u hp hu=>h.2 (n+j) p u (by simpa using hp) (by simpa using hu)⟩
theorem RL.take {ps:List (zj E)}{vs:List Value}(h:RL R ps vs) (n:Nat):RL R (ps.take n) (vs.take n) :=
 ⟨by simp [h.1],fun j p u hp hu=>by
  rw [zCp] at hp hu;split at hp
  .rw [zb (by assumption)] at hu;exact h.2 j p u hp hu
  .cases hp⟩
theorem RL.mono {R':zj E->Value->Prop}{ps:List (zj E)}{vs:List Value}(h:RL R ps vs) (k:∀p u,R p u->R' p u):RL R' ps vs:=⟨h.1,fun j p u hp hu=>k _ _ (h.2 j p u hp hu)⟩
theorem RL.of_idx {ps:List (zj E)}{cs:Array Value}(hs:cs.size=ps.length) (h:∀i (hi:i<ps.length),R ps[i] (cs.getD i undef)):RL R ps cs.toList :=
 ⟨by simp [hs],fun j p u hp hu=>by
  obtain ⟨hj,rfl⟩:=zBt.1 hp;have:=h j hj;obtain ⟨hj',rfl⟩:=zBt.1 hu;simpa [Array.getD,hs,hj] using this⟩
theorem RL.idx {ps:List (zj E)}{vs:List Value}(h:RL R ps vs):vs.toArray.size=ps.length/\∀i (hi:i<ps.length),R ps[i] (vs.toArray.getD i undef) :=
 ⟨by simp [h.1],fun i hi=>h.2 i _ _ (zBn hi) (by
  have hi':i<vs.length:=by rw [<-h.1];exact hi
  simp [Array.getD,hi'])⟩
end
abbrev Rp (E:yG) (A0:Nat->Prop) (μ:Nat->Loc) (H:List (Blk E)) (w:World):zj E->Value->Prop:=yc E w (Av A0 μ H) (Us H) μ
abbrev Rt (E:yG) (A0:Nat->Prop) (μ:Nat->Loc) (H:List (Blk E)) (w:World) (τ:Ty) (v:Value) (x:Den E.T τ):Prop:=yz E w (Av A0 μ H) τ v x
theorem yc.aggL {w:World}{A U:Nat->Prop}{μ:Nat->Loc}{ps:List (zj E)}{vs:List Value}(h:RL (yc E w A U μ) ps vs):yc E w A U μ (.agg ps) (.agg vs.toArray) :=
 .agg ps _ h.idx.1 h.idx.2
theorem yc.tupleL {w:World}{A U:Nat->Prop}{μ:Nat->Loc}{ps:List (zj E)}{vs:List Value}(h:RL (yc E w A U μ) ps vs):yc E w A U μ (.tuple ps) (.tuple vs.toArray) :=
 .tuple ps _ h.idx.1 h.idx.2
theorem yz.leaf_cells {w:World}{A:Nat->Prop}{τ:Ty}{v:Value}{x:Den E.T τ}(h:yz E w A τ v x) (hl:τ.leaf=true):v.cells= #[v]:=by
 cases h<;>first | rfl | (simp [Ty.leaf] at hl)
theorem HL.toP_len:∀(ts:List Ty) (x:HL E.T ts),(HL.toP (E:=E) ts x).length=ts.length
 | [],_=>rfl
 | t::ts,x=>by simp [HL.toP,HL.toP_len ts x.2]
theorem HL.toP_get:∀(ts:List Ty) (x:HL E.T ts) (i:Nat) (h:i<ts.length),(HL.toP (E:=E) ts x)[i]? =some (.v ts[i] (HL.get ts x i h))
 | t::ts,x,0,h=>by simp [HL.toP,HL.get]
 | t::ts,x,i+1,h=>by
  have:=HL.toP_get ts x.2 i (Nat.lt_of_succ_lt_succ h);simpa [HL.toP,HL.get] using this
theorem yc.cells {w:World}{A U:Nat->Prop}{μ:Nat->Loc}{p:zj E}{v:Value}(h:yc E w A U μ p v) (hl:(uU p).all zj.leaf=true):RL (yc E w A U μ) (uU p) v.cells.toList:=by
 have one:∀ {p:zj E}{v:Value},yc E w A U μ p v->v.cells= #[v]->RL (yc E w A U μ) [p] v.cells.toList:=fun h e=>by rw [e];exact RL.cons h RL.nil
 cases h with
 | agg ps cs hs h=>exact RL.of_idx hs h
 | v τ x v h =>
  cases h with
  | named n cs x hs h =>
   have hlen:=HL.toP_len (E:=E) (E.leaves n) (E.unpack n x);refine RL.of_idx (ps:=HL.toP (E.leaves n) (E.unpack n x)) (cs:=cs) (by rw [hs,hlen]) (fun i hi=>?_);rw [hlen] at hi;have:=HL.toP_get (E.leaves n) (E.unpack n x) i hi;obtain ⟨_,e⟩:=zBt.1 this;rw [e];exact .v _ _ _ (h i hi)
  | arr n e cs l vs h1 h2 h3 h4=>simp [uU,zj.leaf,Ty.leaf] at hl
  | bool b=>exact one (.v _ _ _ (.bool b)) rfl
  | int k x=>exact one (.v _ _ _ (.int k x)) rfl
  | str s=>exact one (.v _ _ _ (.str s)) rfl
  | nil e a cap=>exact one (.v _ _ _ (.nil e a cap)) rfl
  | slice e b off cap l vs h1 h2 h3 h4 h5=>exact one (.v _ _ _ (.slice e b off cap l vs h1 h2 h3 h4 h5)) rfl
 | any v=>simp [uU,zj.leaf] at hl
 | skip=>simp [uU,zj.leaf] at hl
 | tuple ps cs hs h=>simp [uU,zj.leaf] at hl
 | nils a=>exact one (.nils a) rfl
 | own id b off len cap u m=>exact one (.own id b off len cap u m) rfl
 | own0 id a a2 u m=>exact one (.own0 id a a2 u m) rfl
 | full e l a h=>exact one (.full e l a h) rfl
 | bsl id n b u m=>exact one (.bsl id n b u m) rfl
 | ptr id off b len cap u m=>exact one (.ptr id off b len cap u m) rfl
 | eptr e id i off b o len cap u m hi=>exact one (.eptr e id i off b o len cap u m hi) rfl
 | rptr ps b o us a1 a2 a3 a4=>exact one (.rptr ps b o us a1 a2 a3 a4) rfl
 | fn f ps cs hs h=>exact one (.fn f ps cs hs h) rfl
 | bfn f ps cs hs h=>exact one (.bfn f ps cs hs h) rfl
 | yld n i=>exact one (.yld n i) rfl
 | nilfn=>exact one .nilfn rfl
 | nilp=>exact one .nilp rfl
 | nilm=>exact one .nilm rfl
 | map id b u m=>exact one (.map id b u m) rfl
theorem yz.cellsL {w:World}{A U:Nat->Prop}{μ:Nat->Loc}{τ:Ty}{v:Value}{x:Den E.T τ}(h:yz E w A τ v x) (hl:(zeg τ x).all zj.leaf=true):RL (yc E w A U μ) (zeg τ x) v.cells.toList :=
 yc.cells (.v τ x v h) hl
theorem zgT {w:World}{A U:Nat->Prop}{μ:Nat->Loc}{p:zj E}{v:Value}(h:yc E w A U μ p v) (hl:p.leaf=true):v.oneCell'=true:=by
 cases h with
 | v τ x v h=>cases h<;>first | rfl | (simp [zj.leaf,Ty.leaf] at hl)
 | _=>first | rfl | (simp [zj.leaf] at hl)
section
variable {P:Program}{tab:List (Nat×TI)}{A0:Nat->Prop}{μ:Nat->Loc}{H:List (Blk E)}{w:World}{R:Type}{K:zj E->List (Blk E)->Option R}{r:R}
def z8 (P:Program) (A0:Nat->Prop) (μ:Nat->Loc) (H:List (Blk E)) (w:World) {R:Type}(s:Sem Value) (K:zj E->List (Blk E)->Option R) (r:R):Prop :=
 ∃p H' v w' μ',s.run P w= .ok v w'/\z3 A0 μ H w μ' H' w'/\z9 A0 μ' H' w'/\Rp E A0 μ' H' w' p v/\K p H'=some r
def zb2 (P:Program) (A0:Nat->Prop) (μ:Nat->Loc) (H:List (Blk E)) (w:World) {R:Type}(s:Sem Unit) (K:zj E->List (Blk E)->Option R) (r:R):Prop :=
 ∃H' w' μ',s.run P w= .ok () w'/\z3 A0 μ H w μ' H' w'/\z9 A0 μ' H' w'/\K .skip H'=some r
theorem z8.same {s:Sem Value}{v:Value}{p:zj E}(S:z9 A0 μ H w) (h:s.run P w= .ok v w) (hp:Rp E A0 μ H w p v) (hk:K p H=some r):z8 P A0 μ H w s K r :=
 ⟨p,H,v,w,μ,h,z3.refl _ _ _ _,S,hp,hk⟩
theorem Vl (b o j:Nat):(⟨b,o,none⟩:Addr).add j=⟨b,o+j,none⟩:=by unfold Addr.add;split<;>simp_all
theorem zcp (hT:yX E.leaves P tab=true) {t:Nat}{i:TI}(hi:look tab t=some i) (w:World) (b o:Nat) (cs:List Value) (hl:cs.length=i.size)
  (hc:∀(j:Nat) u,cs[j]? =some u->w.cell? ⟨b,o+j,none⟩=some u):(loadVar t ⟨b,o,none⟩).run P w= .ok (if i.agg then .agg cs.toArray else cs.headD undef) w:=by
 have hload:(loadCells ⟨b,o,none⟩ cs.length).run P w= .ok cs.toArray w:=run_loadCells_list (P:=P) w ⟨b,o,none⟩ cs (fun j v hv=>by rw [Vl];exact hc j v hv);simp only [loadVar,Sem.run_bind,zcD hT hi,Result.andThen_ok];cases ha:i.agg with
 | true=>simp [xk hT hi,<-hl,hload]
 | false =>
  have h1:=zc8 hT hi ha
  match cs,hl with
  | [c],_=>have:=hc 0 c rfl;simp only [zCd] at this;simp [this]
  | [],hl=>simp [h1] at hl
  | _::_::_,hl=>simp [h1] at hl
theorem zf0 {i:TI}{ps:List (zj E)}{vs:List Value}(h:(zi7 i ps).cps H K=some r) (hr:RL (Rp E A0 μ H w) ps vs) :
  vs.length=i.size/\∃p,Rp E A0 μ H w p (if i.agg then .agg vs.toArray else vs.headD undef)/\K p H=some r:=by
 unfold zi7 at h;split at h
 .rename_i hn;have hn:=zBs hn;refine ⟨by rw [<-hr.1,hn],?_⟩;split at h
  .rename_i ha;rw [zb ha];exact ⟨_,yc.aggL hr,h⟩
  .rename_i ha;rw [zd ha]
   match ps,vs,hr,h with
   | [c],[u],hr,h=>exact ⟨c,hr.2 0 c u rfl rfl,h⟩
   | [c],[],hr,_=>simp [RL] at hr
   | [c],_::_::_,hr,_=>simp [RL] at hr
   | [],_,_,h=>simp [Dec.cps] at h
   | _::_::_,_,_,h=>simp [Dec.cps] at h
 .simp [Dec.cps] at h
theorem zcL {R:zj E->Value->Prop}{ps:List (zj E)}{vs:List Value}(h:RL R ps vs) (off n:Nat):RL R (Pe.sub ps off n) (Pe.sub vs off n):=(h.drop off).take n
theorem zlW {w:World}{b:Nat}{fr:Bool}{c:Array Value}(h:zc7 w b fr c) (off n:Nat):∀(j:Nat) u,(Pe.sub c.toList off n)[j]? =some u->w.cell? ⟨b,off+j,none⟩=some u:=by
 intro j u hu;obtain ⟨t,f,hb,_⟩:=h;unfold Pe.sub at hu;rw [zCp] at hu;split at hu
 .rw [List.getElem?_drop] at hu;simp only [World.cell?,hb];simpa using hu
 .cases hu
theorem wz {τ τ':Ty}{x:Den E.T τ}{y:Den E.T τ'}(h:vC (E:=E) τ τ' x=some y):∃e:τ=τ',e▸x=y:=by
 unfold vC at h;split at h
 .rename_i e;exact ⟨e,by simpa using h⟩
 .cases h
end
end Go.Pe
namespace Go.Pe
variable {E:yG}
section
variable {P:Program}{tab:List (Nat×TI)}{A0:Nat->Prop}{μ:Nat->Loc}{H:List (Blk E)}{w:World}{R:Type}
theorem yz.less {A A':Nat->Prop}{τ:Ty}{v:Value}{x:Den E.T τ}(h:yz E w A τ v x) (hA:∀b,A' b->A b):yz E w A' τ v x :=
 h.mono (zBm _) (fun b _ hb=>⟨rfl,fun h'=>hb (hA b h')⟩)
theorem zp1 {wr:Bool}{e:Ty}{l:List (Den E.T e)}{b o n c:Nat}{A A':Nat->Prop}{U:Nat->Prop}(ok:xX w A U μ (.blk b o n c) (.row wr e l))
  (hA:∀b,A' b->A b) (hb: ¬A' b):n=l.length/\yz E w A' (.slice e) (.slice (some ⟨b,o,none⟩) n c) l:=by
 rcases ok with ⟨b',off,cap,c',vs,hl,hbox,h1,h2,h3,h4⟩ | ⟨_,a,h2⟩
 .injection hl with e1 e2 e3 e4;subst e1 e2 e3 e4;refine ⟨rfl,.slice e b o c l vs hb hbox.lt h1 (fun i hi j u hu=>?_) (fun i hi=>(h4 i hi).less hA)⟩;obtain ⟨t,f,hh,_⟩:=hbox;simp only [World.cell?,hh];simpa using h3 i hi j u hu
 .cases h2
theorem zlm {τ:Ty}{p:zj E}{v:Value}{y:Den E.T τ}{ids:List Nat}(S:z9 A0 μ H w) (hp:Rp E A0 μ H w p v) (h:vz τ p H=some (y,ids))
  {A':Nat->Prop}(hA:∀b,A' b->Av A0 μ H b) (hids:∀id∈ids,∀b o l c,μ id= .blk b o l c->¬A' b):yz E w A' τ v y:=by
 cases hp with
 | v τ' x v hx =>
  simp only [vz,zBw] at h;obtain ⟨z,hz,he⟩:=h;obtain ⟨e,rfl⟩:=wz hz;subst e;simp at he;obtain ⟨rfl,_⟩:=he;exact hx.less hA
 | nils a =>
  simp only [vz] at h;split at h
  .simp at h;obtain ⟨rfl,_⟩:=h;exact .nil _ a 0
  .cases h
 | full e l a hx =>
  simp only [vz] at h;split at h
  .simp only [zBw] at h;obtain ⟨z,hz,he⟩:=h;obtain ⟨e',rfl⟩:=wz hz;injection e' with e';subst e';simp at he;obtain ⟨rfl,_⟩:=he;exact hx.less hA
  .cases h
 | own id b o n c hU hμ =>
  simp only [vz] at h;split at h
  .cases hB:zn H id with
   | row wr e' l =>
    simp only [hB,zBw] at h;obtain ⟨z,hz,he⟩:=h;obtain ⟨e',rfl⟩:=wz hz;injection e' with e';subst e';simp at he;obtain ⟨rfl,rfl⟩:=he;have ok:=S.ok id;rw [hB,hμ] at ok;exact (zp1 ok hA (hids id (by simp) b o n c hμ)).2
   | _=>simp [hB] at h
  .cases h
 | own0 id a a2 hU hμ =>
  simp only [vz] at h;split at h
  .cases hB:zn H id with
   | row wr e' l =>
    simp only [hB,zBw] at h;obtain ⟨z,hz,he⟩:=h;obtain ⟨e',rfl⟩:=wz hz;injection e' with e';subst e';simp at he;obtain ⟨rfl,rfl⟩:=he;have ok:=S.ok id;rw [hB,hμ] at ok;rcases ok with ⟨_,_,_,_,_,hl,_⟩ | ⟨rfl,_⟩
    .cases hl
    .exact .nil _ a 0
   | _=>simp [hB] at h
  .cases h
 | _=>simp [vz] at h
theorem zn9 {τ:Ty}{p:zj E}{y:Den E.T τ}{ids:List Nat}(h:vz τ p []=some (y,ids)) (H:List (Blk E)):vz τ p H=some (y,ids)/\ids=[]:=by
 cases p with
 | own id=>simp only [vz] at h;split at h<;>simp_all [zn]
 | v τ' x=>exact ⟨h,by simp only [vz,zBw] at h;obtain ⟨z,_,he⟩:=h;simp at he;exact he.2⟩
 | nils=>refine ⟨h,?_⟩;simp only [vz] at h;split at h<;>simp_all
 | full e l =>
  refine ⟨h,?_⟩;simp only [vz] at h;split at h
  .simp only [zBw] at h;obtain ⟨z,_,he⟩:=h;simp at he;exact he.2
  .cases h
 | _=>simp [vz] at h
theorem zjg:∀ {ts:List Ty}{ps:List (zj E)}{vs:List Value}{x:HL E.T ts}{ids:List Nat},z9 A0 μ H w->RL (Rp E A0 μ H w) ps vs->wV ts ps H=some (x,ids) ->
  ∀ {A':Nat->Prop},(∀b,A' b->Av A0 μ H b)->(∀id∈ids,∀b o l c,μ id= .blk b o l c->¬A' b) ->
  vs.length=ts.length/\∀i (hi:i<ts.length),yz E w A' ts[i] (vs.getD i undef) (HL.get ts x i hi)
 | [],[],vs,x,ids,S,hr,h,A',hA,hids=>by
  have:=hr.1;simp at this;simp [this.symm]
 | [],_::_,_,_,_,_,_,h,_,_,_=>by simp [wV] at h
 | _::_,[],_,_,_,_,_,h,_,_,_=>by simp [wV] at h
 | t::ts,p::ps,[],_,_,_,hr,_,_,_,_=>by have:=hr.1;simp at this
 | t::ts,p::ps,v::vs,x,ids,S,hr,h,A',hA,hids=>by
  simp only [wV,zBw] at h;obtain ⟨a,ha,b,hb,he⟩:=h;obtain ⟨a1,a2⟩:=a;obtain ⟨b1,b2⟩:=b;simp at he;obtain ⟨rfl,rfl⟩:=he;have h0:=zlm S (hr.2 0 p v rfl rfl) ha hA (fun id hid=>hids id (by simp [hid]));have h1:=zjg (ts:=ts) (ps:=ps) (vs:=vs) S ⟨by have:=hr.1;simpa using this,fun j p u hp hu=>hr.2 (j+1) p u (by simpa using hp) (by simpa using hu)⟩ hb hA (fun id hid=>hids id (by simp [hid]));refine ⟨by simp [h1.1],fun i hi=>?_⟩;cases i with
  | zero=>simpa [HL.get] using h0
  | succ i=>simpa [HL.get] using h1.2 i (Nat.lt_of_succ_lt_succ hi)
theorem zlt:∀ {ts:List Ty}{ps:List (zj E)}{x:HL E.T ts}{ids:List Nat},wV ts ps []=some (x,ids)->∀H:List (Blk E),wV ts ps H=some (x,ids)/\ids=[]
 | [],[],_,_,h,H=>by simp [wV] at h ⊢;exact h
 | [],_::_,_,_,h,_=>by simp [wV] at h
 | _::_,[],_,_,h,_=>by simp [wV] at h
 | t::ts,p::ps,x,ids,h,H=>by
  simp only [wV,zBw] at h ⊢;obtain ⟨⟨a1,a2⟩,ha,⟨b1,b2⟩,hb,he⟩:=h;simp at he;obtain ⟨rfl,rfl⟩:=he;obtain ⟨ha',rfl⟩:=zn9 ha H;obtain ⟨hb',rfl⟩:=zlt hb H;exact ⟨⟨_,ha',_,hb',rfl⟩,rfl⟩
theorem zrx {τ:Ty}{p:zj E}{v:Value}{y:Den E.T τ}{ids:List Nat}(S:z9 A0 μ H w) (hp:Rp E A0 μ H w p v) (h:toT τ p H=some (y,ids))
  {A':Nat->Prop}(hA:∀b,A' b->Av A0 μ H b) (hids:∀id∈ids,∀b o l c,μ id= .blk b o l c->¬A' b):yz E w A' τ v y:=by
 unfold toT at h;split at h
 .rename_i cs n;simp only [zBw] at h;obtain ⟨⟨x,ids'⟩,hx,he⟩:=h;simp at he;obtain ⟨rfl,rfl⟩:=he;cases hp with
  | agg ps vs hs hr =>
   obtain ⟨h1,h2⟩:=zjg S (RL.of_idx hs hr) hx hA hids;refine .named n vs _ (by simpa using h1) (fun i hi=>?_);rw [E.up];simpa [zBN] using h2 i hi
 .exact zlm S hp h hA hids
theorem zzW {τ:Ty}{p:zj E}{y:Den E.T τ}{ids:List Nat}(h:toT τ p []=some (y,ids)) (H:List (Blk E)):toT τ p H=some (y,ids)/\ids=[]:=by
 unfold toT at h ⊢;split at h
 .rename_i cs n;simp only [zBw] at h;obtain ⟨⟨x,ids'⟩,hx,he⟩:=h;simp at he;obtain ⟨rfl,rfl⟩:=he;obtain ⟨h1,rfl⟩:=zlt hx H;simp [h1]
 .exact zn9 h H
theorem zjV {τ:Ty}{p:zj E}{v:Value}{y:Den E.T τ}(S:z9 A0 μ H w) (hp:Rp E A0 μ H w p v) (h:zsX τ p=some y):Rt E A0 μ H w τ v y:=by
 simp only [zsX,zBw] at h;obtain ⟨⟨x,ids⟩,hx,he⟩:=h;simp at he;subst he;obtain ⟨h1,rfl⟩:=zzW hx H;exact zrx S hp h1 (fun _ h=>h) (fun id hid=>by cases hid)
theorem ztH {id:Nat}{wr:Bool}{e:Ty}{l:List (Den E.T e)}(hB:zn H id= .row wr e l) {B:Blk E}:∀j,zn H j= .free->zn (H.set id B) j= .free:=by
 intro j hj;have hne:id≠j:=fun e=>by subst e;rw [hB] at hj;cases hj
 rw [ya H B hne];exact hj
theorem zaJ {id:Nat}{wr:Bool}{e:Ty}{l:List (Den E.T e)}(S:z9 A0 μ H w) (hB:zn H id= .row wr e l) :
  z3 A0 μ H w μ (H.set id (.row false e l)) w/\z9 A0 μ (H.set id (.row false e l)) w /\
   ∀v,Rp E A0 μ H w (.own id) v->∃a c,v= .slice a l.length c/\Rt E A0 μ (H.set id (.row false e l)) w (.slice e) v l:=by
 have hu:Us H id:=by unfold Us;rw [hB];rfl
 have hlt:=wu hu;have T:z3 A0 μ H w μ (H.set id (.row false e l)) w:=z3.drop id _ hu rfl rfl;have ok:=S.ok id;rw [hB] at ok;have S':z9 A0 μ (H.set id (.row false e l)) w:=by
  refine S.drop id _ hu rfl rfl (fun _=>by rw [hB];rfl) (fun _=>by rw [hB];rfl) ?_;have ok':=ok.keep T (fun _ _ _ _ _ _=>rfl);rcases ok' with ⟨b,off,cap,c,vs,hl,hbox,h1⟩ | h1
  .obtain ⟨t,f,hh,_⟩:=hbox;exact .inl ⟨b,off,cap,c,vs,hl,⟨t,f,hh,fun h=>by cases h⟩,h1⟩
  .exact .inr h1
 refine ⟨T,S',fun v hv=>?_⟩;have ok2:=S'.ok id;rw [yr H id _ hlt] at ok2;cases hv with
 | own id b o n c hU hμ =>
  rw [hμ] at ok2;have hA: ¬Av A0 μ (H.set id (.row false e l)) b:=by
   rintro (h0 | ⟨j,o',n',c',hj,hj'⟩)
   .exact (S'.out id b o n c (by rw [yr H id _ hlt];rfl) hμ).1 h0.1
   .by_cases ej:j=id
    .subst ej;rw [yr H j _ hlt] at hj;cases hj
    .exact S'.inj j id b o' n' c' b o n c ej hj (by rw [yr H id _ hlt];rfl) hj' hμ rfl
  obtain ⟨h1,h2⟩:=zp1 ok2 (fun _ h=>h) hA;subst h1;exact ⟨_,_,rfl,h2⟩
 | own0 id a a2 hU hμ =>
  rw [hμ] at ok2;rcases ok2 with ⟨_,_,_,_,_,hl,_⟩ | ⟨rfl,_⟩
  .cases hl
  .exact ⟨a,0,rfl,.nil _ a 0⟩
variable {α:Type}{K:α->List (Blk E)->Option R}{r:R}
theorem zjs {τ:Ty}(k:Den E.T τ->Dec E α):∀ {cs:List (zj E)}{acc:List (zj E)}{vs:List Value}{us:List Value}{H:List (Blk E)},z9 A0 μ H w->RL (Rp E A0 μ H w) cs vs ->
  RL (Rp E A0 μ H w) acc us->(zaG.typedAgg τ k cs acc).cps H K=some r ->
  ∃x H',z3 A0 μ H w μ H' w/\z9 A0 μ H' w/\Rt E A0 μ H' w τ (.agg (us++vs).toArray) x/\(∀id,zn H id= .free->zn H' id= .free)/\(k x).cps H' K=some r
 | [],acc,vs,us,H,S,hc,ha,h=>by
  have:=hc.1;simp at this;obtain rfl:=List.length_eq_zero_iff.1 this.symm;simp only [zaG.typedAgg] at h;split at h
  .rename_i y hy;exact ⟨y,H,z3.refl _ _ _ _,S,by simpa using zjV S (yc.aggL ha) hy,fun _ h=>h,h⟩
  .simp [Dec.cps] at h
 | c::cs,acc,[],us,H,S,hc,ha,h=>by have:=hc.1;simp at this
 | c::cs,acc,v::vs,us,H,S,hc,ha,h=>by
  have hc0:=hc.2 0 c v rfl rfl;have hcs:RL (Rp E A0 μ H w) cs vs:=⟨by have:=hc.1;simpa using this,fun j p u hp hu=>hc.2 (j+1) p u (by simpa using hp) (by simpa using hu)⟩
  have go:∀(c:zj E) (H':List (Blk E)),z3 A0 μ H w μ H' w->z9 A0 μ H' w->(∀id,zn H id= .free->zn H' id= .free)->Rp E A0 μ H' w c v->(zaG.typedAgg τ k cs (acc++[c])).cps H' K=some r ->
    ∃x H',z3 A0 μ H w μ H' w/\z9 A0 μ H' w/\Rt E A0 μ H' w τ (.agg (us++v::vs).toArray) x/\(∀id,zn H id= .free->zn H' id= .free)/\(k x).cps H' K=some r:=fun c H' T S' hfr hcv h=>by
   obtain ⟨x,H'',T',S'',hx,hfr',hk⟩:=zjs k S' (hcs.mono fun _ _=>T.rep) ((ha.mono fun _ _=>T.rep).append (RL.cons hcv RL.nil)) h;exact ⟨x,H'',T.trans T',S'',by simpa using hx,fun id h=>hfr' id (hfr id h),hk⟩
  cases c with
  | own id =>
   simp only [zaG.typedAgg,Dec.cps] at h;cases hB:zn H id with
   | row wr e l =>
    rw [hB] at h;simp only [Dec.cps] at h;cases hlt:Nat.blt id H.length with
    | false=>simp [hlt] at h
    | true =>
     simp only [hlt,zI] at h;obtain ⟨T,S',hrep⟩:=zaJ S hB;obtain ⟨a,c,rfl,hv⟩:=hrep v hc0;exact go (.v (.slice e) l) _ T S' (ztH hB) (.v _ _ _ hv) h
   | _=>rw [hB] at h;simp [Dec.cps] at h
  | _=>exact go _ H (z3.refl _ _ _ _) S (fun _ h=>h) hc0 (by simpa only [zaG.typedAgg] using h)
theorem zby {τ:Ty}{p:zj E}{v:Value}{k:Den E.T τ->Dec E α}(S:z9 A0 μ H w) (hp:Rp E A0 μ H w p v) (h:(zaG τ p k).cps H K=some r) :
  ∃x H',z3 A0 μ H w μ H' w/\z9 A0 μ H' w/\Rt E A0 μ H' w τ v x/\(∀id,zn H id= .free->zn H' id= .free)/\(k x).cps H' K=some r:=by
 unfold zaG at h;split at h
 .rename_i id;simp only [Dec.cps] at h;cases hB:zn H id with
  | row wr e l =>
   rw [hB] at h;simp only [Dec.cps] at h;cases hlt:Nat.blt id H.length with
   | false=>simp [hlt] at h
   | true =>
    simp only [hlt,zI] at h;obtain ⟨T,S',hrep⟩:=zaJ S hB;obtain ⟨a,c,rfl,hv⟩:=hrep v hp;split at h
    .rename_i y hy;exact ⟨y,_,T,S',zjV S' (.v _ _ _ hv) hy,ztH hB,h⟩
    .simp [Dec.cps] at h
  | _=>rw [hB] at h;simp [Dec.cps] at h
 .rename_i cs;cases hp with
  | agg ps vs hs hr =>
   obtain ⟨x,H',T,S',hx,hfr,hk⟩:=zjs k S (RL.of_idx hs hr) RL.nil h;exact ⟨x,H',T,S',by simpa using hx,hfr,hk⟩
 .split at h
  .rename_i y hy;exact ⟨y,H,z3.refl _ _ _ _,S,zjV S hp hy,fun _ h=>h,h⟩
  .simp [Dec.cps] at h
theorem u9 {e:Ty}(h:e.leaf=true):e.size E=1:=by cases e<;>first | rfl | (simp [Ty.leaf] at h)
theorem zyQ {i:TI}{n:Nat}{e:Ty}(h:zcO i=some (n,e)):i.ty=some (.arr n e):=by
 unfold zcO at h;split at h
 .rename_i hty;simp at h;obtain ⟨rfl,rfl⟩:=h;exact hty
 .cases h
theorem znY (hT:yX E.leaves P tab=true) {t:Nat}{i:TI}(hi:look tab t=some i) {n:Nat}{e:Ty}(h:zcO i=some (n,e)):i.agg=true/\i.alen=n/\i.size=n*e.size E:=by
 have hty:=zyQ h;have h1:=zeh hT hi;simp only [tyB,hty,zBl] at h1;exact ⟨h1.1.1.1,by simpa using h1.1.1.2,(ul hT _ hi hty).symm⟩
theorem zzj {wr:Bool}{e:Ty}{l:List (Den E.T e)}{b o n c:Nat}{A U:Nat->Prop}(he:e.leaf=true) (ok:xX w A U μ (.blk b o n c) (.row wr e l)) :
  n=l.length/\∃cs:List Value,cs.length=l.length/\(∀(j:Nat) u,cs[j]? =some u->w.cell? ⟨b,o+j,none⟩=some u)/\yz E w A (.arr l.length e) (.agg cs.toArray) l:=by
 rcases ok with ⟨b',off,cap,c',vs,hl,hbox,h1,h2,h3,h4⟩ | ⟨_,a,h2⟩;rotate_left
 .cases h2
 injection hl with e1 e2 e3 e4;subst e1 e2 e3 e4;have hsz:=u9 (E:=E) he;obtain ⟨t,f,hh,_⟩:=hbox;refine ⟨rfl,(List.range l.length).map vs,by simp,fun j u hu=>?_,.arr _ e _ l vs rfl (by simp [hsz]) (fun i hi j u hu=>?_) h4⟩
 .simp only [zBQ,zBD] at hu;obtain ⟨i,hi,rfl⟩:=hu;obtain ⟨hj,hij⟩:=zBt.1 hi;simp only [List.getElem_range] at hij;subst hij;have hj':j<l.length:=by simpa using hj
  have:=h3 j hj' 0 (vs j) (by rw [(h4 j hj').leaf_cells he];rfl);simp only [World.cell?,hh];simpa [hsz] using this
 .rw [(h4 i hi).leaf_cells he] at hu;cases j with
  | zero =>
   have hu:vs i=u:=by simpa using hu
   subst hu;simp [hsz,hi]
  | succ j=>simp at hu
theorem zm9 {R:Type}{K:zj E->List (Blk E)->Option R}{r:R}(hT:yX E.leaves P tab=true) {t:Nat}{i:TI}(hi:look tab t=some i) {n:Nat}{e:Ty}(ha:zcO i=some (n,e)) {p:zj E}{v:Value}(S:z9 A0 μ H w) (hp:Rp E A0 μ H w p v)
  (h:(zrX n e p).cps H K=some r):∃b o cs l,v= .pointer (some ⟨b,o,none⟩)/\(loadVar t ⟨b,o,none⟩).run P w= .ok (.agg cs) w/\Rt E A0 μ H w (.arr n e) (.agg cs) l/\K (.v (.arr n e) l) H=some r:=by
 unfold zrX at h;split at h;rotate_left
 .simp [Dec.cps] at h
 rename_i e' id k off;split at h;rotate_left
 .simp [Dec.cps] at h
 rename_i hc;simp only [zBl,decide_eq_true_eq] at hc;obtain ⟨⟨⟨h1,h2⟩,rfl⟩,he⟩:=hc;have h1:=zBs h1;have h2:=zBs h2;subst h1 h2;simp only [Dec.cps] at h;cases hp with
 | eptr e id n0 off b o len cap hU hμ hlt =>
  have ok:=S.ok id;cases hB:zn H id with
  | row wr e2 l =>
   rw [hB,hμ] at ok;rw [hB] at h;simp only at h;split at h;rotate_left
   .simp [Dec.cps] at h
   rename_i l' hcast;obtain ⟨he2,rfl⟩:=wz hcast;injection he2 with he2;subst he2;simp only [Dec.cps] at h;cases hd:decide (l.length=n) with
   | false=>simp [hd] at h
   | true =>
    simp only [hd,zI] at h;have hd:l.length=n:=by simpa using hd
    subst hd;obtain ⟨_,cs,hl,hcell,hrep⟩:=zzj he ok;obtain ⟨hagg,_,hsz⟩:=znY hT hi ha;have hrun:=zcp hT hi w b o cs (by rw [hl,hsz,u9 he];simp) hcell;rw [zb hagg] at hrun;exact ⟨b,o,cs.toArray,l,by simp,hrun,hrep,h⟩
  | _=>rw [hB] at h;simp [Dec.cps] at h
theorem zA8 {id j:Nat}{B:Blk E}(hB:zn H id≠ .free) (h:zn H j= .free):zn (H.set id B) j= .free:=by
 rw [ya H B (fun e=>hB (by rw [e];exact h))];exact h
theorem zeB {α R:Type}{k:Dec E α}{K:α->List (Blk E)->Option R}{r:R}:∀(ps:List (zj E)) {H:List (Blk E)},z9 A0 μ H w->(zkn ps k).cps H K=some r ->
  ∃H',z3 A0 μ H w μ H' w/\z9 A0 μ H' w/\k.cps H' K=some r
 | [],H,S,h=>⟨H,z3.refl _ _ _ _,S,h⟩
 | p::ps,H,S,h=>by
  cases p with
  | own id =>
   simp only [zkn,Dec.cps] at h;cases hB:zn H id with
   | rowh e l n j =>
    rw [hB] at h;simp only [Dec.cps] at h;cases hJ:zn H j with
    | row wr e' l' =>
     rw [hJ] at h;cases wr with
     | false=>simp [Dec.cps] at h
     | true =>
      simp only at h;split at h;rotate_left
      .simp [Dec.cps] at h
      rename_i l2 hcast;obtain ⟨he,rfl⟩:=wz hcast;injection he with he;subst he;simp only [Dec.cps] at h;cases hlj:Nat.blt j H.length with
      | false=>simp [hlj] at h
      | true =>
       simp only [hlj,zI] at h;obtain ⟨T1,S1,hrep⟩:=zaJ S hJ;have hij:j≠id:=fun e=>by rw [e,hB] at hJ;cases hJ
       cases hli:Nat.blt id (H.set j (.row false e' l')).length with
       | false=>rw [hli] at h;cases h
       | true =>
        simp only [hli,zI] at h;have hB1:zn (H.set j (.row false e' l')) id= .rowh e' l n j:=by rw [ya H _ hij];exact hB
        have hu:Us (H.set j (.row false e' l')) id:=by unfold Us;rw [hB1];rfl
        have hlive:xu (zn (H.set j (.row false e' l')) id)=true:=by rw [hB1];rfl
        have T2:z3 A0 μ (H.set j (.row false e' l')) w μ ((H.set j (.row false e' l')).set id (.row true (.slice e') (l.set n l'))) w:=z3.write id _ hu (yv.refl w) hlive (fun _ _ _=>rfl) rfl;have S2:z9 A0 μ ((H.set j (.row false e' l')).set id (.row true (.slice e') (l.set n l'))) w:=by
         refine S1.write id _ hu (yv.refl w) hlive (fun _ _ _=>rfl) rfl ?_;have ok:=S.ok id;rw [hB] at ok;obtain ⟨b,off,cap,c,vs,hl,hbox,g1,g2,g3,g4,g5,g6⟩:=ok;obtain ⟨a,cc,hv,hr⟩:=hrep _ g6;refine .inl ⟨b,off,cap,c,vs,by rw [zBF];exact hl,hbox,by rw [zBF];exact g1,by simpa [Ty.size] using g2,fun i hi q u hu=>?_,fun i hi=>?_⟩
         .rw [zBF] at hi;have:=g4 i hi q u hu;simpa [Ty.size] using this
         .simp only [zBF] at hi;rw [List.getElem_set];by_cases hin:n=i
          .subst hin;rw [zb rfl];exact T2.repT hr
          .rw [zd hin];exact T2.repT (T1.repT (g5 i hi (Ne.symm hin)))
        obtain ⟨H',T3,S3,hk⟩:=zeB ps S2 h;exact ⟨H',T1.trans (T2.trans T3),S3,hk⟩
    | _=>rw [hJ] at h;simp [Dec.cps] at h
   | _=>rw [hB] at h;exact zeB ps S h
  | _=>simp only [zkn] at h;exact zeB ps S h
theorem ztW {R:Type}{K:zj E->List (Blk E)->Option R}{r:R}(hT:yX E.leaves P tab=true) {t:Nat}{i:TI}(hi:look tab t=some i) {mv:Bool}{p:zj E}{v:Value}(S:z9 A0 μ H w) (hp:Rp E A0 μ H w p v)
  (h:(zvY mv i p).cps H K=some r):z8 P A0 μ H w (Instr.loadAt t v) K r:=by
 have fin:∀(b o:Nat) (ps:List (zj E)) (vs:List Value),(zi7 i ps).cps H K=some r->RL (Rp E A0 μ H w) ps vs->(∀(j:Nat) u,vs[j]? =some u->w.cell? ⟨b,o+j,none⟩=some u) ->
   z8 P A0 μ H w (Instr.loadAt t (.pointer (some ⟨b,o,none⟩))) K r:=fun b o ps vs h hr hc=>by
  obtain ⟨hl,p,hp,hk⟩:=zf0 h hr;exact z8.same S (by simp [Instr.loadAt,Instr.sureAddr,zcp hT hi w b o vs hl hc]) hp hk
 unfold zvY at h;split at h
 .rename_i n e ha;obtain ⟨b,o,cs,l,rfl,hrun,hrep,hk⟩:=zm9 hT hi ha S hp h;exact z8.same S (by simp [Instr.loadAt,Instr.sureAddr,hrun]) (.v _ _ _ hrep) hk
 rename_i hna;cases hp with
 | ptr id off b len cap hU hμ =>
  simp only [Dec.cps] at h;have ok:=S.ok id;cases hB:zn H id with
  | box wr cs =>
   rw [hB] at ok h;obtain ⟨b',len',cap',c,hl,hbox,hsz,hr⟩:=ok;rw [hμ] at hl;injection hl with e1;subst e1;have hrl:=zcL (RL.of_idx hsz (fun j hj=>(hr j hj).1)) off i.size;simp only at h;split at h
   .obtain ⟨H',T',S',hk⟩:=zeB _ S h;obtain ⟨hl,p,hp,hk⟩:=zf0 (A0:=A0) (μ:=μ) (w:=w) hk (hrl.mono fun _ _=>T'.rep);exact ⟨_,_,_,w,μ,by simp [Instr.loadAt,Instr.sureAddr,zcp hT hi w b off _ hl (zlW hbox off i.size)],T',S',hp,hk⟩
   .exact fin b off _ _ h hrl (zlW hbox off i.size)
  | _=>rw [hB] at h;simp [Dec.cps] at h
 | eptr e id n off b o len cap hU hμ _ =>
  simp only [Dec.cps] at h;have ok:=S.ok id;cases hB:zn H id with
  | rowh e' l n' k =>
   rw [hB] at ok h;simp only at h;split at h;rotate_left
   .simp [Dec.cps] at h
   rename_i hc;simp only [zBl,decide_eq_true_eq] at hc;obtain ⟨h0,rfl⟩:=hc;have h0:=zBs h0;subst h0;simp only [Dec.cps] at h;cases hd:decide (n=n') with
   | false=>simp [hd] at h
   | true =>
    simp only [hd,zI] at h;have hd:n=n':=by simpa using hd
    subst hd;obtain ⟨b',off,cap',c,vs,hl,hbox,g1,g2,g3,g4,g5,g6⟩:=ok;rw [hμ] at hl;injection hl with e1 e2;subst e1 e2;have hone:(vs n).cells= #[vs n]:=by
     generalize vs n=u at g6;cases g6<;>rfl
    refine fin _ _ _ _ h (RL.cons g6 RL.nil) (fun j u hu=>?_);cases j with
    | zero =>
     have hu:vs n=u:=by simpa using hu
     subst hu;have:=g4 n g3 0 (vs n) (by rw [hone];rfl);obtain ⟨t',f,hb,_⟩:=hbox;simp only [World.cell?,hb];simpa [Ty.size] using this
    | succ j=>simp at hu
  | row wr e' l =>
   rw [hB] at ok h;simp only at h;split at h
   .rename_i l' hcast;obtain ⟨he,rfl⟩:=wz hcast;injection he with he;subst he;simp only [Dec.cps] at h;cases hx:l[n]? with
    | none=>simp [hx] at h
    | some x =>
     simp only [hx,zBk] at h;obtain ⟨hn,hxe⟩:=zBt.1 hx;rcases ok with ⟨b',off',cap',c,vs,hl,hbox,h1,h2,h3,h4⟩ | ⟨rfl,_⟩
     .rw [hμ] at hl;injection hl with e1 e2;subst e1 e2;have hrep:=h4 n hn;rw [hxe] at hrep;split at h
      .rename_i hleaf;refine fin _ _ _ _ h (zcL (yz.cellsL hrep hleaf) off i.size) (fun j u hu=>?_);unfold Pe.sub at hu;rw [zCp] at hu;split at hu
       .rw [List.getElem?_drop,zB1] at hu;have:=h3 n hn _ _ hu;obtain ⟨t',f,hb,_⟩:=hbox;simp only [World.cell?,hb];simpa [zCy] using this
       .cases hu
      .simp [Dec.cps] at h
     .simp at hn
   .simp [Dec.cps] at h
  | _=>rw [hB] at h;simp [Dec.cps] at h
 | rptr ps b o us hA hb hm hr =>
  simp only at h;refine fin b o _ _ h (zcL (ps:=ps) (vs:=(List.range ps.length).map us) ⟨by simp,fun j p u hp hu=>?_⟩ 0 i.size) (fun j u hu=>?_)
  .obtain ⟨hj,rfl⟩:=zBt.1 hp;simp [hj] at hu;subst hu;exact hr j hj
  .unfold Pe.sub at hu;rw [zCp] at hu;split at hu
   .simp only [List.drop_zero,zBQ,zBD] at hu;obtain ⟨a,ha,rfl⟩:=hu;obtain ⟨hj,rfl⟩:=zBt.1 ha;simpa using hm j (by simpa using hj)
   .cases hu
 | _=>simp [Dec.cps] at h
end
end Go.Pe
namespace Go.Pe
variable {E:yG}
theorem yz.size {w:World}{A:Nat->Prop}{τ:Ty}{v:Value}{x:Den E.T τ}(h:yz E w A τ v x):v.cells.size=τ.size E:=by
 cases h<;>first | rfl | assumption
section
variable {P:Program}{tab:List (Nat×TI)}{A0:Nat->Prop}{μ:Nat->Loc}{H:List (Blk E)}{w:World}{R:Type}{K:zj E->List (Blk E)->Option R}{r:R}
theorem zwr {w:World}{A U:Nat->Prop}{l:Loc}{wr:Bool}{cs:List (zj E)}(ok:xX w A U μ l (.box wr cs)) :
  ∃b n cap c,l= .blk b 0 n cap/\zc7 w b wr c/\RL (yc E w A U μ) cs c.toList/\∀p∈cs,p.leaf=true:=by
 obtain ⟨b,n,cap,c,hl,hbox,hsz,hr⟩:=ok;refine ⟨b,n,cap,c,hl,hbox,RL.of_idx hsz (fun j hj=>(hr j hj).1),fun p hp=>?_⟩;obtain ⟨j,hj,rfl⟩:=zCB hp;exact (hr j hj).2
theorem zwz {w:World}{A U:Nat->Prop}{wr:Bool}{cs:List (zj E)}{b n cap:Nat}{vs:List Value}(hbox:zc7 w b wr vs.toArray) (hr:RL (yc E w A U μ) cs vs) (hl:∀p∈cs,p.leaf=true) :
  xX w A U μ (.blk b 0 n cap) (.box wr cs) :=
 ⟨b,n,cap,vs.toArray,rfl,hbox,hr.idx.1,fun j hj=>⟨hr.idx.2 j hj,hl _ (zBU hj)⟩⟩
theorem YP {i:TI}{τ:Ty}(h:UT i τ=true):i.ty=some τ:=by
 unfold UT at h;split at h
 .simp at h;subst h;assumption
 .cases h
theorem zlC {t:Nat}{i:TI}(hT:yX E.leaves P tab=true) (hi:look tab t=some i) {b o:Nat}{c:Array Value}{t':TypeId}{u:Value}(hh:w.heap[b]? =some (.cells c t' (0,0))) (hsz:u.cells.size=i.size) (hle:o+i.size<=c.size) (hone:∀y∈u.cells.toList,y.oneCell'=true) :
  (Instr.storeAt t (.pointer (some ⟨b,o,none⟩)) u).run P w= .ok () (w.setRow b (c.toList.take o++u.cells.toList++c.toList.drop (o+i.size)).toArray):=by
 have hrun:=run_storeCells_at (P:=P) b o t' u.cells.toList 0 c w hh (by simp [hsz];omega) hone;simp only [Instr.storeAt,Instr.sureAddr,storeVar,Sem.run_bind,Sem.run_pure,Result.andThen_ok,xk hT hi,hsz];simpa [hsz] using hrun
theorem zuA {o n:Nat}{c:Array Value}{u:List Value}(hn:u.length=n) (hle:o+n<=c.size):(c.toList.take o++u++c.toList.drop (o+n)).toArray.size=c.size /\
  ∀k,(c.toList.take o++u++c.toList.drop (o+n)).toArray[k]? =if k<o then c[k]? else if k<o+n then u[k-o]? else c[k]? :=by
 refine ⟨by simp [hn];omega,fun k=>?_⟩;have hmin:min o c.size=o:=by omega
 simp only [zCS,zBu,List.getElem?_append,zCq,zCk,hmin,zCp,zB1,List.getElem?_drop,hn];split
 .rfl
 .rename_i hk;split
  .rename_i hk2;rw [yo]
  .rename_i hk2;rw [ze];congr 1;omega
theorem zsD (hT:yX E.leaves P tab=true) {t:Nat}{i:TI}(hi:look tab t=some i) {n:Nat}{e:Ty}(ha:zcO i=some (n,e)) {p x:zj E}{v u:Value}(S:z9 A0 μ H w) (hp:Rp E A0 μ H w p v) (hx:Rp E A0 μ H w x u)
  (h:(zsN n e p x).cps H K=some r):zb2 P A0 μ H w (Instr.storeAt t v u) K r:=by
 unfold zsN at h;split at h;rotate_left
 .simp [Dec.cps] at h
 rename_i e' id k off n' e2 l';split at h;rotate_left
 .simp [Dec.cps] at h
 rename_i hc;simp only [zBl,decide_eq_true_eq] at hc;obtain ⟨⟨⟨⟨⟨h1,h2⟩,rfl⟩,he⟩,rfl⟩,hn⟩:=hc;have h1:=zBs h1;have h2:=zBs h2;have hn:=zBs hn;subst h1 h2 hn;simp only [Dec.cps] at h;obtain ⟨hagg,_,hsz⟩:=znY hT hi ha;rw [u9 he,Nat.mul_one] at hsz;cases hp with
 | eptr e id n0 off b o len cap hU hμ hlt =>
  have ok:=S.ok id;cases hB:zn H id with
  | row wr e3 l =>
   rw [hB] at ok h;cases wr with
   | false=>simp [Dec.cps] at h
   | true =>
    simp only at h;split at h;rotate_left
    .simp [Dec.cps] at h
    rename_i l2 hcast;obtain ⟨he2,rfl⟩:=wz hcast;injection he2 with he2;subst he2;simp only [Dec.cps] at h;cases hd:decide (l.length=n') with
    | false=>simp [hd] at h
    | true =>
     simp only [hd,zI] at h;have hd:l.length=n':=by simpa using hd
     cases hli:Nat.blt id H.length with
     | false=>rw [hli] at h;cases h
     | true =>
      simp only [hli,zI] at h;rcases ok with ⟨b',off',cap',c,vs,hl,hbox,g1,g2,g3,g4⟩ | ⟨_,a,g2⟩;rotate_left
      .rw [hμ] at g2;cases g2
      rw [hμ] at hl;injection hl with q1 q2 q3 q4;subst q1 q2 q3 q4;obtain ⟨t',f,hh,hf⟩:=hbox;obtain rfl:=hf rfl;rw [u9 he,Nat.mul_one] at g2;cases hx with
      | v _ _ _ hx =>
       cases hx with
       | arr n0 e0 cs l0 us a1 a2 a3 a4 =>
        have hone:∀y∈(Value.agg cs).cells.toList,y.oneCell'=true:=fun y hy=>by
         have hy:y∈cs.toList:=hy;obtain ⟨j,hj,rfl⟩:=zCB hy;have hj':j<n':=by simpa [a2,u9 he] using hj
         have hjl:j<l'.length:=by omega
         have hr:=a4 j hjl;have h3:=a3 j hj' 0 (us j) (by rw [hr.leaf_cells he];rfl);rw [u9 he] at h3;have hj2:j<cs.size:=by simpa using hj
         have e5:cs.toList[j]=us j:=by
          rw [zBP] at h3;obtain ⟨q,h3⟩:=h3;simpa using h3
         rw [e5];exact zgT (U:=Us H) (μ:=μ) (.v _ _ _ hr) he
        have hsu:(Value.agg cs).cells.size=i.size:=by show cs.size=_;rw [a2,u9 he,hsz];omega
        have hrun:=zlC (w:=w) hT hi hh hsu (o:=o) (by omega) hone;obtain ⟨z1,z2⟩:=zuA (o:=o) (n:=i.size) (c:=c) (u:=(Value.agg cs).cells.toList) (by rw [<-hsu];simp) (by omega);generalize hc':(c.toList.take o++(Value.agg cs).cells.toList++c.toList.drop (o+i.size)).toArray=c' at hrun z1 z2;have hlive:xu (zn H id)=true:=by rw [hB];rfl
        have hb:∀k,k<w.heap.size->(∀o n c,μ id≠ .blk k o n c)->(w.setRow b c').heap[k]? =w.heap[k]? :=fun k _ hk=>setRow_other _ _ _ _ (fun e=>hk o l.length cap (e▸hμ));have T2:z3 A0 μ H w μ (H.set id (.row true e2 l')) (w.setRow b c'):=z3.write id _ hU (yv.setRow w b _) hlive hb rfl;refine ⟨_,_,μ,by simpa using hrun,T2,S.write id _ hU (yv.setRow w b _) hlive hb rfl ?_,h⟩;rw [hμ];refine .inl ⟨b,o,cap,c',us,by rw [a1,hd],⟨t',(0,0),setRow_heap _ _ _ _ _ _ hh,fun _=>rfl⟩,by omega,by rw [z1,u9 he];omega,fun i hi j y hy=>?_,fun i hi=>T2.repT (a4 i hi)⟩;have hr:=a4 i hi;rw [hr.leaf_cells he] at hy;cases j with
        | succ j=>simp at hy
        | zero =>
         have hy:us i=y:=by simpa using hy
         subst hy;have h3:=a3 i (by omega) 0 (us i) (by rw [hr.leaf_cells he];rfl);rw [u9 he] at h3 ⊢;rw [z2,ze,yo];show cs.toList[_]? =_;rw [zB1];rw [<-h3];congr 1;omega
  | _=>rw [hB] at h;simp [Dec.cps] at h
theorem zr7 (hT:yX E.leaves P tab=true) {t:Nat}{i:TI}(hi:look tab t=some i) {e:Ty}{id n b o len cap:Nat}{x:zj E}{u:Value}(hμ:μ id= .blk b o len cap) (hU:Us H id) (hn:n<len) (hsz:e.size E=e.size E) (husz:u.cells.size=i.size) (S:z9 A0 μ H w) (hx:Rp E A0 μ H w x u)
  (hone:∀y∈u.cells.toList,y.oneCell'=true) (h:(zte e id n x).cps H K=some r):zb2 P A0 μ H w (Instr.storeAt t (.pointer (some ⟨b,o+n*e.size E+0,none⟩)) u) K r:=by
 unfold zte at h;split at h;rotate_left
 .simp [Dec.cps] at h
 rename_i e k;simp only [Dec.cps] at h;have ok:=S.ok id;cases hB:zn H id with
 | row wr e' l =>
  rw [hB] at h ok;cases wr with
  | false=>simp [Dec.cps] at h
  | true =>
   simp only at h;split at h;rotate_left
   .simp [Dec.cps] at h
   rename_i l1 hcast;obtain ⟨he,rfl⟩:=wz hcast;injection he with he;subst he;simp only [Dec.cps] at h;cases hJ:zn H k with
   | row wr2 e2 l2 =>
    rw [hJ] at h;cases wr2 with
    | false=>simp [Dec.cps] at h
    | true =>
     simp only at h;split at h;rotate_left
     .simp [Dec.cps] at h
     rename_i he2;simp only [Dec.cps] at h;cases hli:Nat.blt id H.length with
     | false=>rw [hli] at h;cases h
     | true =>
      simp only [hli,zI] at h;rcases ok with ⟨b',off',cap',c,vs,hl,hbox,g1,g2,g3,g4⟩ | ⟨_,a,g2⟩;rotate_left
      .rw [hμ] at g2;cases g2
      rw [hμ] at hl;injection hl with q1 q2 q3 q4;subst q1 q2 q3 q4;obtain ⟨t',f,hh,hf⟩:=hbox;obtain rfl:=hf rfl;have hu1:u.cells= #[u]:=by cases hx<;>rfl
      have hs1:i.size=1:=by rw [<-husz,hu1];rfl
      simp only [Ty.size,Nat.mul_one,zCd] at g2 g3 ⊢;have hrun:=zlC (w:=w) hT hi hh husz (o:=o+n) (by omega) hone;obtain ⟨z1,z2⟩:=zuA (o:=o+n) (n:=i.size) (c:=c) (u:=u.cells.toList) (by rw [<-husz];simp) (by omega);generalize hc':(c.toList.take (o+n)++u.cells.toList++c.toList.drop (o+n+i.size)).toArray=c' at hrun z1 z2;have hlive:xu (zn H id)=true:=by rw [hB];rfl
      have hb:∀k,k<w.heap.size->(∀o n c,μ id≠ .blk k o n c)->(w.setRow b c').heap[k]? =w.heap[k]? :=fun k _ hk=>setRow_other _ _ _ _ (fun e=>hk o l.length cap (e▸hμ));have T2:z3 A0 μ H w μ (H.set id (.rowh e l n k)) (w.setRow b c'):=z3.write id _ hU (yv.setRow w b _) hlive hb rfl;refine ⟨_,_,μ,hrun,T2,S.write id _ hU (yv.setRow w b _) hlive hb rfl ?_,h⟩;rw [hμ];refine ⟨b,o,cap,c',fun i=>if i=n then u else vs i,rfl,⟨t',(0,0),setRow_heap _ _ _ _ _ _ hh,fun _=>rfl⟩,g1,by rw [z1];exact g2,hn,fun i hi j y hy=>?_,fun i hi hin=>?_,?_⟩
      .by_cases hin:i=n
       .subst hin;simp only [if_true] at hy;rw [hu1] at hy;cases j with
        | succ j=>simp at hy
        | zero =>
         have hy:u=y:=by simpa using hy
         subst hy;rw [z2,ze,yo,hu1];simp
       .simp only [zd hin] at hy;have hv1:(vs i).cells= #[vs i]:=(g4 i hi).leaf_cells rfl;have h0:=g3 i hi j y hy;rw [hv1] at hy;cases j with
        | succ j=>simp at hy
        | zero =>
         rw [z2];split
         .exact h0
         .rw [ze];exact h0
      .simp only [zd hin];exact T2.repT (g4 i hi)
      .simp only [if_true];exact T2.rep hx
   | _=>rw [hJ] at h;simp [Dec.cps] at h
 | _=>rw [hB] at h;simp [Dec.cps] at h
theorem ztG (hT:yX E.leaves P tab=true) {t:Nat}{i:TI}(hi:look tab t=some i) {mv:Bool}{p x:zj E}{v u:Value}(S:z9 A0 μ H w) (hp:Rp E A0 μ H w p v) (hx:Rp E A0 μ H w x u)
  (h:(ztF mv i p x).cps H K=some r):zb2 P A0 μ H w (Instr.storeAt t v u) K r:=by
 unfold ztF at h;split at h
 .exact zsD hT hi (by assumption) S hp hx h
 simp only at h;split at h;rotate_left
 .simp [Dec.cps] at h
 rename_i hc;simp only [zBl] at hc;obtain ⟨hlen,hleaf⟩:=hc;have hlen:=zBs hlen;have hcell:=yc.cells hx hleaf;have husz:u.cells.size=i.size:=by have:=hcell.1;simpa [hlen] using this.symm
 have hone:∀y∈u.cells.toList,y.oneCell'=true:=fun y hy=>by
  obtain ⟨j,hj,rfl⟩:=zCB hy;have hj':j<(uU x).length:=by rw [hcell.1];exact hj
  exact zgT (hcell.2 j _ _ (zBn hj') (zBn hj)) (zBL.1 hleaf _ (zBU hj'))
 cases hp with
 | ptr id off b n cap hU hμ =>
  simp only [Dec.cps] at h;have ok:=S.ok id;cases hB:zn H id with
  | box wr cs =>
   rw [hB] at h ok;cases wr with
   | false=>simp [Dec.cps] at h
   | true =>
    simp only at h;split at h;rotate_left
    .simp [Dec.cps] at h
    rename_i hfit;have hfit:=zB0 hfit;simp only [Dec.cps] at h;cases hlt:Nat.blt id H.length with
    | false=>simp [hlt] at h
    | true =>
     simp only [hlt,zI] at h;obtain ⟨b',n',cap',c,hl,hbox,hr,hlf⟩:=zwr ok;rw [hμ] at hl;injection hl with e1 e2 e3 e4;subst e1 e3 e4;obtain ⟨t',f,hh,hf⟩:=hbox;obtain rfl:=hf rfl;have hcs:c.size=cs.length:=by have:=hr.1;simpa using this.symm
     have hrun:=run_storeCells_at (P:=P) b off t' u.cells.toList 0 c w hh (by simp [husz,hcs];omega) hone;have hlive:xu (zn H id)=true:=by rw [hB];rfl
     have hb:∀k,k<w.heap.size->(∀o n c,μ id≠ .blk k o n c)->(w.setRow b (c.toList.take (off+0)++u.cells.toList++c.toList.drop (off+0+u.cells.toList.length)).toArray).heap[k]? =w.heap[k]? :=
      fun k _ hk=>setRow_other _ _ _ _ (fun e=>hk 0 n cap (e▸hμ))
     have T:z3 A0 μ H w μ (H.set id (.box true (Vx cs off (uU x)))) _:=z3.write id _ hU (yv.setRow w b _) hlive hb rfl;refine ⟨_,_,μ,?_,T,S.write id _ hU (yv.setRow w b _) hlive hb rfl ?_,h⟩
     .simp only [Instr.storeAt,Instr.sureAddr,storeVar,Sem.run_bind,Sem.run_pure,Result.andThen_ok,xk hT hi,husz];simpa using hrun
     .rw [hμ];refine zwz (vs:=c.toList.take (off+0)++u.cells.toList++c.toList.drop (off+0+u.cells.toList.length)) ⟨t',(0,0),setRow_heap _ _ _ _ _ _ hh,fun _=>rfl⟩ ?_ ?_
      .have e:off+0+u.cells.toList.length=off+(uU x).length:=by rw [hcell.1];omega
       have hfin:RL (Rp E A0 μ H w) (Vx cs off (uU x)) (c.toList.take (off+0)++u.cells.toList++c.toList.drop (off+0+u.cells.toList.length)):=by
        rw [e];exact ((hr.take off).append hcell).append (hr.drop _)
       exact hfin.mono fun _ _=>T.rep
      .intro q hq;simp only [Vx,zBE] at hq;rcases hq with (hq | hq) | hq
       .exact hlf q (zCL hq)
       .exact zBL.1 hleaf q hq
       .exact hlf q (List.mem_of_mem_drop hq)
  | _=>rw [hB] at h;simp [Dec.cps] at h
 | eptr e id n off b o len cap hU hμ hn =>
  simp only at h;split at h;rotate_left
  .simp [Dec.cps] at h
  rename_i hoff;simp only [zBl] at hoff;obtain ⟨hoff,hty⟩:=hoff;have hoff:=zBs hoff;subst hoff;have hsz:=ul hT e hi (YP hty);split at h
  .exact zr7 hT hi hμ hU hn rfl husz S hx hone h
  obtain ⟨z,H1,T1,S1,hz,_,h⟩:=zby S hx h;simp only [Dec.cps] at h;have ok:=S1.ok id;obtain ⟨hU1,hμ1⟩:=T1.used id hU;cases hB:zn H1 id with
  | row wr e' l =>
   rw [hB] at h ok;cases wr with
   | false=>simp [Dec.cps] at h
   | true =>
    simp only at h;split at h;rotate_left
    .simp [Dec.cps] at h
    rename_i l' hcast;obtain ⟨he,rfl⟩:=wz hcast;injection he with he;subst he;simp only [Dec.cps] at h;cases hlt:Nat.blt id H1.length with
    | false=>simp [hlt] at h
    | true =>
     simp only [hlt,zI] at h;rcases ok with ⟨b',off',cap',c,vs,hl,hbox,h1,h2,h3,h4⟩ | ⟨_,a,h2⟩;rotate_left
     .rw [hμ] at h2;cases h2
     rw [hμ] at hl;injection hl with e1 e2 e3 e4;subst e1 e2 e3 e4;obtain ⟨t',f,hh,hf⟩:=hbox;obtain rfl:=hf rfl;have husz':u.cells.size=e'.size E:=hz.size;have hle:n*e'.size E+e'.size E<=cap*e'.size E:=by
      have:(n+1)*e'.size E<=cap*e'.size E:=zCl _ (by omega);simpa [zBV] using this
     have hrun:=run_storeCells_at (P:=P) b (o+n*e'.size E+0) t' u.cells.toList 0 c w hh (by simp [husz'];omega) hone;have hlive:xu (zn H1 id)=true:=by rw [hB];rfl
     generalize hc':(c.toList.take (o+n*e'.size E+0+0)++u.cells.toList++c.toList.drop (o+n*e'.size E+0+0+u.cells.toList.length)).toArray=c' at hrun;have hget:∀k,c'[k]? =if k<o+n*e'.size E then c[k]? else if k<o+n*e'.size E+e'.size E then u.cells[k-(o+n*e'.size E)]? else c[k]? :=by
      intro k;subst hc';have hmin:min (o+n*e'.size E) c.size=o+n*e'.size E:=by omega
      simp only [zCS,zCd,zBu,List.getElem?_append,zCq,zCk,hmin,zCp,zB1,List.getElem?_drop,husz'];split
      .rfl
      .rename_i hk;split
       .rename_i hk2;rw [yo]
       .rename_i hk2;rw [ze];congr 1;omega
     have hsz':c'.size=c.size:=by
      subst hc';simp [husz'];omega
     have hb:∀k,k<w.heap.size->(∀o n c,μ id≠ .blk k o n c)->(w.setRow b c').heap[k]? =w.heap[k]? :=fun k _ hk=>setRow_other _ _ _ _ (fun e=>hk o l.length cap (e▸hμ));have T2:z3 A0 μ H1 w μ (H1.set id (.row true e' (l.set n z))) (w.setRow b c'):=z3.write id _ hU1 (yv.setRow w b _) hlive hb rfl;refine ⟨_,_,μ,?_,T1.trans T2,S1.write id _ hU1 (yv.setRow w b _) hlive hb rfl ?_,h⟩
     .simp only [Instr.storeAt,Instr.sureAddr,storeVar,Sem.run_bind,Sem.run_pure,Result.andThen_ok,xk hT hi,husz];simpa using hrun
     .rw [hμ];refine .inl ⟨b,o,cap,c',fun i=>if i=n then u else vs i,by simp,⟨t',(0,0),setRow_heap _ _ _ _ _ _ hh,fun _=>rfl⟩,by simpa using h1,by rw [hsz'];exact h2,fun i hi j y hy=>?_,fun i hi=>?_⟩
      .simp only [zBF] at hi;rw [hget];by_cases e:i=n
       .subst e;simp only [if_true] at hy;have hj:j<u.cells.size:=by
         rcases zBR j u.cells.size with h' | h'
         .exact h'
         .rw [zCT h'] at hy;cases hy
        rw [ze,yo];rw [<-hy];congr 1;omega
       .simp only [zd e] at hy;have hj:j<e'.size E:=by
         rw [<-(h4 i hi).size];rcases zBR j (vs i).cells.size with h' | h'
         .exact h'
         .rw [zCT h'] at hy;cases hy
        have h0:=h3 i hi j y hy;rcases Nat.lt_or_gt_of_ne e with hlt' | hgt
        .have:(i+1)*e'.size E<=n*e'.size E:=zCl _ hlt';rw [zBV] at this;rw [yo];exact h0
        .have:(n+1)*e'.size E<=i*e'.size E:=zCl _ hgt;rw [zBV] at this;rw [ze,ze];exact h0
      .simp only [zBF] at hi;rw [List.getElem_set];by_cases e:n=i
       .subst e;simp only [if_true];exact T2.repT hz
       .rw [zd e];simp only [zd (Ne.symm e)];exact T2.repT (h4 i hi)
  | _=>rw [hB] at h;simp [Dec.cps] at h
 | _=>simp [Dec.cps] at h
theorem zsG (hT:yX E.leaves P tab=true) {t:Nat}{i:TI}(hi:look tab t=some i) {f off t':Nat}(hf:i.fields[f]? =some (off,t')) :
  ∃fs fld,P.underlying t=some (.struct fs)/\fs[f]? =some fld/\fld.offset=off/\fld.type=t'/\P.cellsOf t'≠0:=by
 obtain ⟨d,hd,h2⟩:=Yv hT hi;cases d with
 | struct fs =>
  simp only [uk,zBl,decide_eq_true_eq] at h2;obtain ⟨⟨⟨⟨_,h3⟩,h4⟩,_⟩,_⟩:=h2;rw [h3,zBQ] at hf;simp only [zBD,Prod.mk.injEq] at hf;obtain ⟨fld,h5,h6,h7⟩:=hf;have:=zBL.1 h4 fld (zBq h5);exact ⟨fs,fld,hd,by simpa using h5,h6,h7,fun e=>by rw [<-h7] at e;simp [e] at this⟩
 | array n e =>
  simp only [uk,zBl] at h2;have:=h2.1.1.2;simp at this;rw [this] at hf;simp at hf
 | _ =>
  have ha:i.agg=false:=by simp only [uk,zBl,zBC] at h2;first | exact h2.1 | exact h2.1.1 | exact h2.1.1.1 | exact h2.1.1.1.1 | cases h2
  rw [zwe hT hi ha] at hf;simp at hf
theorem zgU {t:Nat}(h:P.cellsOf t≠0) (w:World):(sizeOf t).run P w= .ok (P.cellsOf t) w:=by
 unfold Program.cellsOf at *;cases hi:P.info? t with
 | none=>simp [hi] at h
 | some f=>simp [sizeOf,typeInfo,hi]
theorem znK (hT:yX E.leaves P tab=true) {t:Nat}{i:TI}(hi:look tab t=some i) {p:zj E}{v:Value}{f:Nat}(S:z9 A0 μ H w) (hp:Rp E A0 μ H w p v)
  (h:(zjS i p f).cps H K=some r):z8 P A0 μ H w (Instr.fieldAt t v f) K r:=by
 unfold zjS at h;split at h;rotate_left
 .simp [Dec.cps] at h
 rename_i off t' hf;obtain ⟨fs,fld,h1,h2,h3,h4,h5⟩:=zsG hT hi hf;subst h3 h4;have hrun:∀b o,(Instr.fieldAt t (.pointer (some ⟨b,o,none⟩)) f).run P w= .ok (.pointer (some ⟨b,o+fld.offset,none⟩)) w:=fun b o=>by
  simp [Instr.fieldAt,run_underlying h1,h2,Instr.sureAddr,fieldPlace,zgU h5,h5,Vl]
 cases hp with
 | ptr id o b n cap hU hμ=>exact z8.same S (hrun b o) (.ptr id _ b n cap hU hμ) h
 | eptr e id n o b o' len cap hU hμ hn =>
  refine z8.same S (hrun b _) ?_ h;have:=yc.eptr (E:=E) (w:=w) (A:=Av A0 μ H) (U:=Us H) (μ:=μ) e id n (o+fld.offset) b o' len cap hU hμ hn;simpa [zCy] using this
 | rptr ps b o us hA hb hm hr =>
  refine z8.same S (hrun b o) (.rptr _ b (o+fld.offset) (fun j=>us (fld.offset+j)) hA hb (fun j hj=>?_) (fun j hj=>?_)) h
  .have:=hm (fld.offset+j) (by simp at hj;omega);simpa [zCy] using this
  .have hj':fld.offset+j<ps.length:=by simp at hj;omega
   have:=hr (fld.offset+j) hj';simpa using this
 | _=>simp [Dec.cps] at h
end
end Go.Pe
namespace Go.Pe
variable {E:yG}
section
variable {P:Program}{tab:List (Nat×TI)}{A0:Nat->Prop}{μ:Nat->Loc}{H:List (Blk E)}{w:World}{R:Type}{K:zj E->List (Blk E)->Option R}{r:R}
theorem zza {w:World}{A U:Nat->Prop}{μ:Nat->Loc}(z:Z):yc E w A U μ z.toP z.toV:=by
 cases z with
 | bool=>exact .v .bool false _ (.bool false)
 | int k=>exact .v (.int k) (zaa k 0) _ (by have:=yz.int (E:=E) (w:=w) (A:=A) k (zaa k 0);cases k<;>exact this)
 | str=>exact .v .str _ _ (.str _)
 | slice=>exact .nils none
 | func=>exact .nilfn
 | ptr=>exact .nilp
 | map=>exact .nilm
theorem zAo (z:Z):(z.toP:zj E).leaf=true:=by cases z<;>rfl
theorem zsT {w:World}{A U:Nat->Prop}{μ:Nat->Loc}(zs:List Z):RL (yc E w A U μ) (zs.map Z.toP) (zs.map Z.toV) :=
 ⟨by simp,fun j p u hp hu=>by
  simp only [zBQ,zBD] at hp hu;obtain ⟨z,h1,rfl⟩:=hp;obtain ⟨z',h2,rfl⟩:=hu;rw [h1] at h2;injection h2 with h2;subst h2;exact zza z⟩
theorem zbj (hT:yX E.leaves P tab=true) {t:Nat}{i:TI}(hi:look tab t=some i):(xA i).cells.toList=i.zero.map Z.toV:=by
 unfold xA;cases ha:i.agg with
 | true=>simp [Value.cells]
 | false =>
  have h1:=zc8 hT hi ha;have h2:=zjI hT hi
  match hz:i.zero,h2 with
  | [z],_=>cases z<;>simp [Z.toV,Value.cells]
  | [],h2=>simp [h1] at h2
  | _::_::_,h2=>simp [h1] at h2
structure Zv (H:List (Blk E)) (fresh:Nat) (A0:Nat->Prop) (w:World):Prop where
 free:zn H fresh= .free
 lt:fresh<H.length
 A0:∀b,A0 b->b<w.heap.size
theorem Zv.trans {H':List (Blk E)}{μ':Nat->Loc}{w':World}{fresh:Nat}(F:Zv H fresh A0 w) (T:z3 A0 μ H w μ' H' w') (h:zn H' fresh= .free):Zv H' fresh A0 w' :=
 ⟨h,by rw [T.len];exact F.lt,fun b hb=>zBK (F.A0 b hb) T.size⟩
theorem zsH {ps:List (zj E)}{vs:List Value}{t:TypeId}{fresh:Nat}(S:z9 A0 μ H w) (F:Zv H fresh A0 w) (hr:RL (Rp E A0 μ H w) ps vs) (hl:∀p∈ps,p.leaf=true) (n c:Nat) :
  let l:=Loc.blk w.heap.size 0 n c;let w':=w.alloc (.cells vs.toArray t)
  z3 A0 μ H w (YT μ fresh l) (H.set fresh (.box true ps)) w'/\z9 A0 (YT μ fresh l) (H.set fresh (.box true ps)) w'/\Us (H.set fresh (.box true ps)) fresh:=by
 intro l w';have hb:∀b,b<w.heap.size->w'.heap[b]? =w.heap[b]? :=fun b hb=>by
  show (w.heap.push _)[b]? =_;rw [zCU,ze]
 have T:z3 A0 μ H w (YT μ fresh l) (H.set fresh (.box true ps)) w':=z3.fresh fresh l _ F.free F.lt (yv.alloc w _) hb (fun b o n c e=>by injection e with e;omega);refine ⟨T,S.fresh fresh l _ F.free F.lt (yv.alloc w _) hb (fun b o n c e=>by injection e with e;subst e;simp [w']) F.A0 ?_,by unfold Us;rw [yr _ _ _ F.lt];rfl⟩;refine zwz ⟨t,(0,0),?_,fun _=>rfl⟩ (hr.mono fun _ _=>T.rep) hl;show (w.heap.push _)[w.heap.size]? =_;simp
theorem zwi {n:Nat}{e:Ty}{l:List (Den E.T e)}{vs:List Value}{t:TypeId}{fresh:Nat}(S:z9 A0 μ H w) (F:Zv H fresh A0 w) (he:e.leaf=true) (h0:0<n) (hr:Rt E A0 μ H w (.arr n e) (.agg vs.toArray) l) :
  let w':=w.alloc (.cells vs.toArray t)
  z3 A0 μ H w (YT μ fresh (.blk w.heap.size 0 n n)) (H.set fresh (.row true e l)) w'/\z9 A0 (YT μ fresh (.blk w.heap.size 0 n n)) (H.set fresh (.row true e l)) w'/\Us (H.set fresh (.row true e l)) fresh:=by
 intro w';have hb:∀b,b<w.heap.size->w'.heap[b]? =w.heap[b]? :=fun b hb=>by
  show (w.heap.push _)[b]? =_;rw [zCU,ze]
 have T:z3 A0 μ H w (YT μ fresh (.blk w.heap.size 0 n n)) (H.set fresh (.row true e l)) w':=z3.fresh fresh _ _ F.free F.lt (yv.alloc w _) hb (fun b o n c e=>by injection e with e;omega);refine ⟨T,S.fresh fresh _ _ F.free F.lt (yv.alloc w _) hb (fun b o n c e=>by injection e with e;subst e;simp [w']) F.A0 ?_,by unfold Us;rw [yr _ _ _ F.lt];rfl⟩;cases hr with
 | arr n0 e0 cs l0 us a1 a2 a3 a4 =>
  refine .inl ⟨w.heap.size,0,n,vs.toArray,us,by rw [a1],⟨t,(0,0),?_,fun _=>rfl⟩,by omega,by rw [a2];omega,fun i hi j u hu=>by rw [Nat.zero_add];exact a3 i (by omega) j u hu,fun i hi=>T.repT (a4 i hi)⟩;show (w.heap.push _)[w.heap.size]? =_;simp
theorem ztt {e:Ty}{z:Den E.T e}(h:vR (E:=E) e=some z) {A:Nat->Prop}{zz:Z}(hz:zz.is e=true):e.leaf=true/\yz E w A e zz.toV z:=by
 cases e with
 | bool=>simp [vR] at h;subst h;cases zz<;>simp [Z.is] at hz;exact ⟨rfl,.bool _⟩
 | int k =>
  simp [vR] at h;subst h;cases zz<;>simp [Z.is] at hz;rename_i k;subst hz;exact ⟨rfl,by have:=yz.int (E:=E) (w:=w) (A:=A) k (zaa k 0);cases k<;>exact this⟩
 | str=>simp [vR] at h;subst h;cases zz<;>simp [Z.is] at hz;exact ⟨rfl,.str _⟩
 | slice e=>simp [vR] at h;subst h;cases zz<;>simp [Z.is] at hz;exact ⟨rfl,.nil _ _ _⟩
 | named n=>simp [vR] at h
 | arr n e=>simp [vR] at h
theorem zx9 (hT:yX E.leaves P tab=true) {t:Nat}{i:TI}(hi:look tab t=some i) {n:Nat}{e:Ty}(ha:zcO i=some (n,e)) {z:Den E.T e}(hz:vR (E:=E) e=some z) {A:Nat->Prop}(hall:i.zero.all (fun q=>q.is e)=true) :
  e.leaf=true/\∃vs:List Value,(xA i).cells=vs.toArray/\yz E w A (.arr n e) (.agg vs.toArray) (List.replicate n z):=by
 obtain ⟨hagg,hal,hsz⟩:=znY hT hi ha;have hl:e.leaf=true:=by cases e<;>simp [vR] at hz<;>rfl
 rw [u9 hl,Nat.mul_one] at hsz;have hzl:=zjI hT hi;refine ⟨hl,i.zero.map Z.toV,by unfold xA;rw [zb hagg];rfl,?_⟩;refine .arr n e _ _ (fun j=>((i.zero.map Z.toV)[j]?).getD undef) (by simp) (by simp [u9 hl,hzl,hsz]) (fun j hj k u hu=>?_) (fun j hj=>?_)
 .have hj':j<i.zero.length:=by omega
  have h1:(i.zero.map Z.toV)[j]? =some (i.zero[j].toV):=by simp [hj']
  simp only [h1,zCg] at hu;have hc:(i.zero[j].toV).cells= #[i.zero[j].toV]:=by cases i.zero[j]<;>rfl
  rw [hc] at hu;cases k with
  | succ k=>simp at hu
  | zero =>
   have hu:i.zero[j].toV=u:=by simpa using hu
   subst hu;simp [u9 hl,hj']
 .have hj0:j<n:=by simpa using hj
  have hj':j<i.zero.length:=by omega
  have h1:(i.zero.map Z.toV)[j]? =some (i.zero[j].toV):=by simp [hj']
  simp only [h1,zCg,List.getElem_replicate];exact (ztt hz (zBL.1 hall _ (zBU hj'))).2
theorem ztj (hT:yX E.leaves P tab=true) {t:Nat}{i:TI}(hi:look tab t=some i) {fresh:Nat}(S:z9 A0 μ H w) (F:Zv H fresh A0 w)
  (h:(zts i fresh).cps H K=some r):z8 P A0 μ H w (Instr.alloc t true (.tuple #[])) K r:=by
 unfold zts at h;split at h
 .rename_i n e ha;split at h;rotate_left
  .simp [Dec.cps] at h
  rename_i z hz;split at h;rotate_left
  .simp [Dec.cps] at h
  rename_i h0;simp only [zBl] at h0;obtain ⟨h0,hall⟩:=h0;have h0:0<n:=zB0 h0;simp only [Dec.cps] at h;cases hlt:Nat.blt fresh H.length with
  | false=>simp [hlt] at h
  | true =>
   simp only [hlt,zI] at h;obtain ⟨he,zv,hzv,hrep⟩:=zx9 (w:=w) (A:=Av A0 μ H) hT hi ha hz hall;obtain ⟨T,S',hU⟩:=zwi (t:=t) S F he h0 hrep;refine ⟨_,_,.pointer (some ⟨w.heap.size,0,none⟩),_,_,?_,T,S',?_,h⟩
   .have:=zbj hT hi;simp only [Instr.alloc,Sem.run_bind,ZB hT hi,Result.andThen_ok,newVar,newRow,run_newObj,Sem.run_pure,hzv];rfl
   .have:=yc.eptr (E:=E) (w:=w.alloc (.cells (zv.toArray) t)) (A:=Av A0 (YT μ fresh (.blk w.heap.size 0 n n)) (H.set fresh (.row true e (List.replicate n z)))) (U:=Us (H.set fresh (.row true e (List.replicate n z)))) (μ:=YT μ fresh (.blk w.heap.size 0 n n)) e fresh 0 0 w.heap.size 0 n n hU (vv _ _ _) h0;simpa using this
 simp only [Dec.cps] at h;cases hlt:Nat.blt fresh H.length with
 | false=>simp [hlt] at h
 | true =>
  simp only [hlt,zI] at h;obtain ⟨T,S',hU⟩:=zsH (t:=t) S F (zsT i.zero) (fun p hp=>by simp only [zBB] at hp;obtain ⟨z,_,rfl⟩:=hp;exact zAo z) 0 0;refine ⟨_,_,.pointer (some ⟨w.heap.size,0,none⟩),_,_,?_,T,S',.ptr fresh 0 w.heap.size 0 0 hU (vv _ _ _),h⟩;have:=zbj hT hi;simp only [Instr.alloc,Sem.run_bind,ZB hT hi,Result.andThen_ok,newVar,newRow,run_newObj,Sem.run_pure];simp [<-this]
theorem zvL (hT:yX E.leaves P tab=true) {t:Nat}{i:TI}(hi:look tab t=some i) {fresh:Nat}{x:zj E}{u:Value}(S:z9 A0 μ H w) (F:Zv H fresh A0 w) (hx:Rp E A0 μ H w x u)
  (h:(zyu i fresh x).cps H K=some r):z8 P A0 μ H w (Instr.box t u) K r:=by
 unfold zyu at h;split at h
 .rename_i n e ha;split at h;rotate_left
  .simp [Dec.cps] at h
  rename_i n' e' l;split at h;rotate_left
  .simp [Dec.cps] at h
  rename_i hc;simp only [zBl,decide_eq_true_eq] at hc;obtain ⟨⟨⟨h0,h1⟩,he⟩,rfl⟩:=hc;have h0:0<n:=zB0 h0;have h1:=zBs h1;subst h1;simp only [Dec.cps] at h;cases hlt:Nat.blt fresh H.length with
  | false=>simp [hlt] at h
  | true =>
   simp only [hlt,zI] at h;cases hx with
   | v _ _ _ hx =>
    have hx0:=hx;cases hx with
    | arr n0 e0 cs l0 us a1 a2 a3 a4 =>
     obtain ⟨T,S',hU⟩:=zwi (t:=t) (vs:=cs.toList) S F he h0 (by simpa using hx0);refine ⟨_,_,.pointer (some ⟨w.heap.size,0,none⟩),_,_,?_,T,S',?_,h⟩
     .simp [Instr.box,newVar,newRow,Value.cells]
     .have:=yc.eptr (E:=E) (w:=w.alloc (.cells cs.toList.toArray t)) (A:=Av A0 (YT μ fresh (.blk w.heap.size 0 n n)) (H.set fresh (.row true e l))) (U:=Us (H.set fresh (.row true e l))) (μ:=YT μ fresh (.blk w.heap.size 0 n n)) e fresh 0 0 w.heap.size 0 n n hU (vv _ _ _) h0;simpa using this
 split at h;rotate_left
 .simp [Dec.cps] at h
 rename_i hc;simp only [zBl] at hc;simp only [Dec.cps] at h;cases hlt:Nat.blt fresh H.length with
 | false=>simp [hlt] at h
 | true =>
  simp only [hlt,zI] at h;obtain ⟨T,S',hU⟩:=zsH (t:=t) S F (yc.cells hx hc.2) (fun p hp=>zBL.1 hc.2 p hp) 0 0;refine ⟨_,_,.pointer (some ⟨w.heap.size,0,none⟩),_,_,?_,T,S',.ptr fresh 0 w.heap.size 0 0 hU (vv _ _ _),h⟩;simp [Instr.box,newVar,newRow]
theorem zA9 (hT:yX E.leaves P tab=true) {t:Nat}{i:TI}(hi:look tab t=some i) {d:TypeDesc}(hd:P.underlying t=some d):uk P tab i d=true:=by
 obtain ⟨d',h1,h2⟩:=Yv hT hi;rw [hd] at h1;injection h1 with h1;subst h1;exact h2
theorem zyD {α:Type}{l:List α}{i:Int}{x:α}(h:idx l i=some x):0<=i/\i<l.length/\l[i.toNat]? =some x:=by
 unfold idx at h;cases hd:decide (0<=i) with
 | false=>simp [hd] at h
 | true =>
  simp only [hd,zI] at h;have h0:0<=i:=by simpa using hd
  obtain ⟨hlt,_⟩:=zBt.1 h;exact ⟨h0,by omega,h⟩
theorem zq1 {α:Type}{l:List α}{i:Int}{n:Nat}(h:Yh l i=some n):0<=i/\i<l.length/\n=i.toNat:=by
 unfold Yh at h;cases hd:(decide (0<=i)&&decide (i<l.length)) with
 | false=>simp [hd] at h
 | true =>
  simp only [hd,zI] at h;simp only [zBl,decide_eq_true_eq] at hd;injection h with h;exact ⟨hd.1,hd.2,h.symm⟩
theorem zrw {α:Type}{l:List α}{k:Nat}{i:Int}{n:Nat}(h:zd1 l k i=some n):0<=i/\i<l.length/\i<k/\n=i.toNat:=by
 unfold zd1 at h;cases hd:(decide (0<=i)&&decide (i<l.length)&&decide (i<k)) with
 | false=>simp [hd] at h
 | true =>
  simp only [hd,zI] at h;simp only [zBl,decide_eq_true_eq] at hd;injection h with h;exact ⟨hd.1.1,hd.1.2,hd.2,h.symm⟩
theorem zcU (i:Int):∀(n:Nat) {k:Nat->Dec E (zj E)},(choose i n k).cps H K=some r->0<=i/\i<n/\(k i.toNat).cps H K=some r
 | 0,k,h=>by simp [choose,Dec.cps] at h
 | n+1,k,h=>by
  simp only [choose,Dec.cps] at h;cases hd:decide (i=(n:Int)) with
  | true =>
   simp only [hd,zI] at h;have:i=n:=by simpa using hd
   subst this;exact ⟨by omega,by omega,by simpa using h⟩
  | false =>
   simp only [hd,yg] at h;obtain ⟨h1,h2,h3⟩:=zcU i n h;exact ⟨h1,by omega,h3⟩
theorem Vu (hT:yX E.leaves P tab=true) {t e:Nat}{u:TI}(hd:P.underlying t=some (.slice e)) (hu:look tab e=some u) (b off len cap:Nat) (i:Int) (h0:0<=i) (h1:i<len) :
  (Instr.indexAt t (.slice (some ⟨b,off,none⟩) len cap) (.int .i64 i)).run P w= .ok (.pointer (some ⟨b,off+i.toNat*u.size,none⟩)) w:=by
 simp [Instr.indexAt,asIntOf,run_underlying hd,h0,h1,xk hT hu,Vl]
theorem znB (hT:yX E.leaves P tab=true) {t:Nat}{s u:TI}(hs:look tab t=some s) (hu:look tab s.elem=some u) {p:zj E}{v:Value}{i:Int}(S:z9 A0 μ H w) (hp:Rp E A0 μ H w p v)
  (h:(zjQ s u p i).cps H K=some r):z8 P A0 μ H w (Instr.indexAt t v (.int .i64 i)) K r:=by
 have typedElem:∀ {e:Ty}{l:List (Den E.T e)}{v:Value},Rt E A0 μ H w (.slice e) v l->UT u e=true->(Dec.opt _ (idx l i) fun x=>if (zeg e x).all zj.leaf then (.ret (.rptr (zeg e x)):Dec E (zj E)) else .fail).cps H K=some r ->
   P.underlying t=some (.slice s.elem)->z8 P A0 μ H w (Instr.indexAt t v (.int .i64 i)) K r:=by
  intro e l v hv hty h hd;have hsz:=ul hT e hu (YP hty);simp only [Dec.cps] at h;cases hx:idx l i with
  | none=>simp [hx] at h
  | some x =>
   simp only [hx,zBk] at h;obtain ⟨h0,h1,h2⟩:=zyD hx;split at h;rotate_left
   .simp [Dec.cps] at h
   rename_i hleaf;cases hv with
   | nil e a cap=>simp at h1;omega
   | slice e b off cap l vs hA hb hc hm hr =>
    obtain ⟨hlt,hxe⟩:=zBt.1 h2;have hrep:=hr i.toNat hlt;rw [hxe] at hrep;have hcells:=yz.cellsL (U:=Us H) (μ:=μ) hrep hleaf;refine z8.same S (Vu hT hd hu b off l.length cap i h0 h1) (.rptr _ b _ (fun j=>(vs i.toNat).cells.getD j undef) hA hb (fun j hj=>?_) (fun j hj=>?_)) h
    .have hj':j<(vs i.toNat).cells.size:=by have:=hcells.1;simp at this;omega
     have:=hm i.toNat hlt j _ (zCr hj');rw [<-hsz];simpa [Array.getD,hj'] using this
    .have hj':j<(vs i.toNat).cells.size:=by have:=hcells.1;simp at this;omega
     exact hcells.2 j _ _ (zBn hj) (by simp [Array.getD,hj'])
 unfold zjQ at h;split at h
 .rename_i hsl;have hd:=zj2 hT hs hsl;split at h
  .rename_i e l;split at h;rotate_left
   .simp [Dec.cps] at h
   rename_i hty;cases hp with
   | v τ x v hv=>exact typedElem hv hty h hd
  .rename_i e l;split at h;rotate_left
   .simp [Dec.cps] at h
   rename_i hty;cases hp with
   | full e l a hv=>exact typedElem hv hty h hd
  .rename_i id;simp only [Dec.cps] at h;cases hB:zn H id with
   | row wr e l =>
    rw [hB] at h;simp only at h;split at h;rotate_left
    .simp [Dec.cps] at h
    rename_i hty;have hsz:=ul hT e hu (YP hty);simp only [Dec.cps] at h;cases hx:Yh l i with
    | none=>simp [hx] at h
    | some n =>
     simp only [hx,zBk] at h;obtain ⟨h0,h1,rfl⟩:=zq1 hx;have ok:=S.ok id;rw [hB] at ok;cases hp with
     | own id b off len cap hU hμ =>
      rw [hμ] at ok;rcases ok with ⟨b',off',cap',c,vs,hl,_⟩ | ⟨_,a,hl⟩;rotate_left
      .cases hl
      injection hl with e1 e2 e3 e4;subst e1 e2 e3 e4;refine z8.same S (Vu hT hd hu b off l.length cap i h0 h1) ?_ h;have:=yc.eptr (E:=E) (w:=w) (A:=Av A0 μ H) (U:=Us H) (μ:=μ) e id i.toNat 0 b off l.length cap hU hμ (by omega);rw [hsz] at this;simpa using this
     | own0 id a a2 hU hμ =>
      rw [hμ] at ok;rcases ok with ⟨b',off',cap',c,vs,hl,_⟩ | ⟨rfl,_⟩
      .cases hl
      .simp at h1;omega
   | rowh e l n' k =>
    rw [hB] at h;simp only at h;split at h;rotate_left
    .simp [Dec.cps] at h
    rename_i hty;have hsz:=ul hT (.slice e) hu (YP hty);simp only [Dec.cps] at h;cases hx:Yh l i with
    | none=>simp [hx] at h
    | some n =>
     simp only [hx,zBk] at h;obtain ⟨h0,h1,rfl⟩:=zq1 hx;have ok:=S.ok id;rw [hB] at ok;obtain ⟨b',off',cap',c,vs,hl,_⟩:=ok;cases hp with
     | own id b off len cap hU hμ =>
      rw [hμ] at hl;injection hl with e1 e2 e3 e4;subst e1 e2 e3 e4;refine z8.same S (Vu hT hd hu b off l.length cap i h0 h1) ?_ h;have:=yc.eptr (E:=E) (w:=w) (A:=Av A0 μ H) (U:=Us H) (μ:=μ) (.slice e) id i.toNat 0 b off l.length cap hU hμ (by omega);rw [hsz] at this;simpa using this
     | own0 id a a2 hU hμ=>rw [hμ] at hl;cases hl
   | _=>rw [hB] at h;simp [Dec.cps] at h
  .rename_i id n;obtain ⟨h0,h1,h2⟩:=zcU i n h;cases hp with
   | bsl id n b hU hμ =>
    refine z8.same S (Vu hT hd hu b 0 n n i h0 h1) ?_ h2;have:=yc.ptr (E:=E) (w:=w) (A:=Av A0 μ H) (U:=Us H) (μ:=μ) id (i.toNat*u.size) b n n hU hμ;simpa using this
  .simp [Dec.cps] at h
 .split at h
  .rename_i id off;split at h;rotate_left
   .simp [Dec.cps] at h
   rename_i hagg;obtain ⟨h0,h1,h2⟩:=zcU i s.alen h;have hd:=zln hT hs hagg (by omega);cases hp with
   | ptr id off b n cap hU hμ =>
    refine z8.same S (v:= .pointer (some ⟨b,off+i.toNat*u.size,none⟩)) ?_ (.ptr id _ b n cap hU hμ) h2;simp [Instr.indexAt,asIntOf,run_underlying hd,Instr.sureAddr,h0,h1,xk hT hu,Vl]
  .rename_i e id k off;split at h;rotate_left
   .simp [Dec.cps] at h
   rename_i hc;simp only [zBl] at hc;obtain ⟨⟨⟨⟨hagg,hal⟩,hk⟩,hoff⟩,hty⟩:=hc;have hal:0<s.alen:=zB0 hal;have hk:=zBs hk;have hoff:=zBs hoff;subst hk hoff;have hsz:=ul hT e hu (YP hty);have hd:=zln hT hs hagg (by omega);simp only [Dec.cps] at h;cases hp with
   | eptr e id n0 off b o len cap hU hμ hlt =>
    have ok:=S.ok id;cases hB:zn H id with
    | row wr e' l =>
     rw [hB] at h ok;simp only at h;split at h;rotate_left
     .simp [Dec.cps] at h
     rename_i he;have he:e'=e:=by simpa using he
     subst he;simp only [Dec.cps] at h;cases hx:zd1 l s.alen i with
     | none=>simp [hx] at h
     | some n =>
      simp only [hx,zBk] at h;obtain ⟨h0,h1,h2,rfl⟩:=zrw hx;rw [hμ] at ok;rcases ok with ⟨b',off',cap',c,vs,hl,_⟩ | ⟨_,a,hl⟩;rotate_left
      .cases hl
      injection hl with e1 e2 e3 e4;subst e1 e2 e3 e4;refine z8.same S (v:= .pointer (some ⟨b,o+i.toNat*u.size,none⟩)) ?_ ?_ h
      .simp [Instr.indexAt,asIntOf,run_underlying hd,Instr.sureAddr,h0,h2,xk hT hu,Vl]
      .have:=yc.eptr (E:=E) (w:=w) (A:=Av A0 μ H) (U:=Us H) (μ:=μ) e' id i.toNat 0 b o l.length cap hU hμ (by omega);rw [hsz] at this;simpa using this
    | _=>rw [hB] at h;simp [Dec.cps] at h
  .simp [Dec.cps] at h
theorem zv0 (hT:yX E.leaves P tab=true) {t:Nat}{i:TI}(hi:look tab t=some i) {e:Ty}(he:e.leaf=true) (h:i.ty=some e):i.agg=false:=by
 have h1:=zeh hT hi;cases e<;>simp only [tyB,h,zBl,zBC] at h1<;>first | exact h1.1 | exact h1.1.1.1 | (simp [Ty.leaf] at he)
theorem ztf (hT:yX E.leaves P tab=true) {t:Nat}{s u:TI}(hs:look tab t=some s) (hu:look tab s.elem=some u) {cs:List (zj E)}{v:Value}{i:Int}(S:z9 A0 μ H w) (hp:Rp E A0 μ H w (.agg cs) v)
  (h:(zlI s u (.agg cs) i).cps H K=some r):z8 P A0 μ H w (Instr.index t v (.int .i64 i)) K r:=by
 simp only [zlI] at h;split at h;rotate_left
 .simp [Dec.cps] at h
 rename_i hc;simp only [zBl,zBC] at hc;obtain ⟨⟨⟨⟨hagg,hal⟩,hk⟩,hsz⟩,hna⟩:=hc;have hal:0<s.alen:=zB0 hal;have hk:=zBs hk;have hsz:=zBs hsz;have hd:=zln hT hs hagg (by omega);obtain ⟨h0,h1,h2⟩:=zcU i s.alen h;have hlt:i.toNat<cs.length:=by omega
 rw [zBn hlt] at h2;simp only [Dec.cps] at h2;cases hp with
 | agg _ ds a1 a2 =>
  have hr:=a2 i.toNat hlt;have hl:i.toNat<ds.size:=by omega
  have hc:=zCr hl;have e:ds.getD i.toNat undef=ds[i.toNat]:=by rw [zBN,hc];rfl
  rw [e] at hr;generalize ds[i.toNat]=y at hc hr;have h1':i<(s.alen:Int):=h1;refine z8.same S (v:=y) ?_ hr h2;simp [Instr.index,asIntOf,run_underlying hd,h0,h1',xk hT hu,part,zcD hT hu,hna,hsz,hc]
theorem ztK (hT:yX E.leaves P tab=true) {t:Nat}{s u:TI}(hs:look tab t=some s) (hu:look tab s.elem=some u) {p:zj E}{v:Value}{i:Int}(S:z9 A0 μ H w) (hp:Rp E A0 μ H w p v)
  (h:(zlI s u p i).cps H K=some r):z8 P A0 μ H w (Instr.index t v (.int .i64 i)) K r:=by
 by_cases ha:∃cs,p= .agg cs
 .obtain ⟨cs,rfl⟩:=ha;exact ztf hT hs hu S hp h
 unfold zlI at h;split at h;rotate_left
 .exact zk ⟨_,rfl⟩ ha
 .simp [Dec.cps] at h
 rename_i n e l;split at h;rotate_left
 .simp [Dec.cps] at h
 rename_i hc;simp only [zBl] at hc;obtain ⟨⟨⟨⟨hagg,hal⟩,hk⟩,hty⟩,he⟩:=hc;have hal:0<s.alen:=zB0 hal;have hk:=zBs hk;subst hk;have hsz:=ul hT e hu (YP hty);have hd:=zln hT hs hagg (by omega);have hna:=zv0 hT hu he (YP hty);rw [u9 he] at hsz;simp only [Dec.cps] at h;cases hx:zd1 l s.alen i with
 | none=>simp [hx] at h
 | some n =>
  simp only [hx,zBk] at h;obtain ⟨h0,h1,h2,rfl⟩:=zrw hx;have hlt:i.toNat<l.length:=by omega
  rw [zBn hlt,zBk] at h;cases hp with
  | v _ _ _ hv =>
   cases hv with
   | arr n0 e0 cs l0 us a1 a2 a3 a4 =>
    have hr:=a4 i.toNat hlt;have hc:=a3 i.toNat (by omega) 0 (us i.toNat) (by rw [hr.leaf_cells he];rfl);rw [u9 he,Nat.mul_one,zCd] at hc;refine z8.same S (v:=us i.toNat) ?_ (.v _ _ _ hr) h;simp [Instr.index,asIntOf,run_underlying hd,h0,h2,xk hT hu,part,zcD hT hu,hna,<-hsz,hc]
end
end Go.Pe
namespace Go.Pe
variable {E:yG}
section
variable {P:Program}{tab:List (Nat×TI)}{A0:Nat->Prop}{μ:Nat->Loc}{H:List (Blk E)}{w:World}{R:Type}{K:zj E->List (Blk E)->Option R}{r:R}
def zmf (f:zj E->Value->Prop):Option (zj E)->Option Value->Prop
 | none,none=>True
 | some p,some v=>f p v
 | _,_=>False
theorem wW {w:World}{A U:Nat->Prop}{μ:Nat->Loc}{p:Option (zj E)}{v:Option Value}{d a:Int}(h:zmf (yc E w A U μ) p v) (ha:Wq p d=some a):(v=none/\a=d)\/v=some (.int .i64 a):=by
 cases p with
 | none=>cases v with
  | none=>simp [Wq] at ha;exact .inl ⟨rfl,ha.symm⟩
  | some v=>exact h.elim
 | some p=>cases v with
  | none=>exact h.elim
  | some v =>
   right;cases h with
   | v τ x v hx=>cases hx<;>simp [Wq] at ha;rename_i k x;cases k<;>simp_all
   | _=>simp [Wq] at ha
theorem zgM {len cap:Nat}{lo hi:Option Value}{a b:Int}(w:World) (h1:(lo=none/\a=0)\/lo=some (.int .i64 a)) (h2:(hi=none/\b=len)\/hi=some (.int .i64 b))
  (h0:0<=a) (hab:a<=b) (hb:b<=len) (hc:len<=cap) (s:Bool):(Instr.sliceBounds s len cap lo hi none).run P w= .ok (a.toNat,b.toNat,cap) w:=by
 rcases h1 with ⟨rfl,rfl⟩ | rfl<;>rcases h2 with ⟨rfl,rfl⟩ | rfl
 .simp [Instr.sliceBounds]
 .have:b<=(cap:Int):=by omega
  simp [Instr.sliceBounds,Instr.sliceBound,asIntOf,hab,this]
 .simp [Instr.sliceBounds,Instr.sliceBound,asIntOf,h0,hab]
 .have h3:b<=(cap:Int):=by omega
  have h4:0<=b:=by omega
  have h5:((b.toNat:Nat):Int)=b:=by omega
  simp [Instr.sliceBounds,Instr.sliceBound,asIntOf,h0,hab,h3,h4,h5]
theorem zbN {α:Type}{l l':List α}{lo hi:Int}(h:cut l lo hi=some l'):0<=lo/\lo<=hi/\hi<=l.length/\l'=(l.take hi.toNat).drop lo.toNat:=by
 unfold cut at h;cases hd:(decide (0<=lo)&&decide (lo<=hi)&&decide (hi<=l.length)) with
 | false=>simp [hd] at h
 | true =>
  simp only [hd,zI] at h;simp only [zBl,decide_eq_true_eq] at hd;injection h with h;exact ⟨hd.1.1,hd.1.2,hd.2,h.symm⟩
theorem yz.cut {A:Nat->Prop}{e:Ty}{l l':List (Den E.T e)}{a:Option Addr}{len cap:Nat}{lo hi:Int}(h:yz E w A (.slice e) (.slice a len cap) l) (hc:Pe.cut l lo hi=some l') :
  len=l.length/\len<=cap/\yz E w A (.slice e) (.slice (if cap=lo.toNat then a else a.map (·.add (lo.toNat*e.size E))) (hi.toNat-lo.toNat) (cap-lo.toNat)) l':=by
 obtain ⟨h0,h1,h2,rfl⟩:=zbN hc;cases h with
 | nil e a cap =>
  simp at h2;have e1:hi.toNat=0:=by omega
  have e2:lo.toNat=0:=by omega
  rw [e1,e2];refine ⟨by simp,by simp,?_⟩;simp only [List.take_nil,List.drop_nil];exact .nil _ _ _
 | slice e b off cap l vs hA hb hcap hm hr =>
  refine ⟨rfl,hcap,?_⟩;by_cases hz:hi.toNat-lo.toNat=0
  .rw [hz];have:(List.take hi.toNat l).drop lo.toNat=[]:=by
    apply zCM;simp;omega
   rw [this];exact .nil _ _ _
  .rw [ze];simp only [zCC,Vl];have hlen:((List.take hi.toNat l).drop lo.toNat).length=hi.toNat-lo.toNat:=by simp;omega
   have key:=yz.slice (E:=E) (w:=w) (A:=A) e b (off+lo.toNat*e.size E) (cap-lo.toNat) ((List.take hi.toNat l).drop lo.toNat) (fun i=>vs (lo.toNat+i)) hA hb (by rw [hlen];omega)
    (fun i hi' j u hu=>by
     have:=hm (lo.toNat+i) (by rw [hlen] at hi';omega) j u hu;rw [zBV] at this;simpa [zCy] using this)
    (fun i hi'=>by
     have:=hr (lo.toNat+i) (by rw [hlen] at hi';omega);simpa using this)
   rw [hlen] at key;exact key
theorem zcr {t e:Nat}{u:TI}(hT:yX E.leaves P tab=true) (hd:P.underlying t=some (.slice e)) (hu:look tab e=some u) {len cap:Nat}{base:Option Addr}{lo hi:Option Value}{a b:Int}(w:World)
  (h1:(lo=none/\a=0)\/lo=some (.int .i64 a)) (h2:(hi=none/\b=len)\/hi=some (.int .i64 b)) (h0:0<=a) (hab:a<=b) (hb:b<=len) (hc:len<=cap) :
  (Instr.sliceAt t (.slice base len cap) lo hi none).run P w= .ok (.slice (if cap=a.toNat then base else base.map (·.add (a.toNat*u.size))) (b.toNat-a.toNat) (cap-a.toNat)) w:=by
 simp [Instr.sliceAt,run_underlying hd,Instr.slice,zgM (P:=P) w h1 h2 h0 hab hb hc,xk hT hu]
theorem zc0 {t e:Nat}{u:TI}(hT:yX E.leaves P tab=true) (hd:P.underlying t=some (.slice e)) (hu:look tab e=some u) {len cap:Nat}{base:Option Addr}{lo hi:Option Value}{a b c:Int}{m:Value}(w:World)
  (h1:(lo=none/\a=0)\/lo=some (.int .i64 a)) (h2:hi=some (.int .i64 b)) (h3:m= .int .i64 c) (h0:a=0) (hab:0<=b) (hb:b<=c) (hc:c<=cap) :
  (Instr.sliceAt t (.slice base len cap) lo hi (some m)).run P w= .ok (.slice base b.toNat c.toNat) w:=by
 subst h0 h2 h3;have hc0:0<=c:=by omega
 have e1:((c.toNat:Nat):Int)=c:=by omega
 have e2:((b.toNat:Nat):Int)=b:=by omega
 have hadd:base.map (fun x=>x.add 0)=base:=by cases base<;>simp [Addr.add]
 rcases h1 with ⟨rfl,_⟩ | rfl
 .simp [Instr.sliceAt,run_underlying hd,Instr.slice,Instr.sliceBounds,Instr.sliceBound,asIntOf,hab,hb,hc,hc0,e1,xk hT hu,hadd]
 .simp [Instr.sliceAt,run_underlying hd,Instr.slice,Instr.sliceBounds,Instr.sliceBound,asIntOf,hab,hb,hc,hc0,e1,e2,xk hT hu,hadd]
theorem yz.recap {A:Nat->Prop}{e:Ty}{l:List (Den E.T e)}{a:Option Addr}{len cap cap':Nat}(h:yz E w A (.slice e) (.slice a len cap) l) (hc:len<=cap'):yz E w A (.slice e) (.slice a len cap') l:=by
 cases h with
 | nil e a cap=>exact .nil _ _ _
 | slice e b off cap l vs g1 g2 g3 g4 g5=>exact .slice e b off _ l vs g1 g2 hc g4 g5
theorem yz.cut3 {A:Nat->Prop}{e:Ty}{l l':List (Den E.T e)}{a:Option Addr}{len cap:Nat}{lo hi:Int}(h:yz E w A (.slice e) (.slice a len cap) l) (hc:Pe.cut l lo hi=some l') :
  yz E w A (.slice e) (.slice (if hi.toNat=lo.toNat then a else a.map (·.add (lo.toNat*e.size E))) (hi.toNat-lo.toNat) (hi.toNat-lo.toNat)) l':=by
 obtain ⟨h1,h2,h3⟩:=h.cut hc;obtain ⟨g0,g1,g2,hl⟩:=zbN hc;by_cases hz:hi.toNat-lo.toNat=0
 .rw [hz];have:l'=[]:=by rw [hl];apply zCM;simp;omega
  subst this;exact .nil _ _ _
 .rw [ze];rw [ze] at h3;exact h3.recap (zBm _)
theorem zum {t e:Nat}{u:TI}(hT:yX E.leaves P tab=true) (hd:P.underlying t=some (.slice e)) (hu:look tab e=some u) {len cap:Nat}{base:Option Addr}{lo hi:Option Value}{a b:Int}{m:Value}(w:World)
  (h1:(lo=none/\a=0)\/lo=some (.int .i64 a)) (h2:hi=some (.int .i64 b)) (h3:m= .int .i64 b) (h0:0<=a) (hab:a<=b) (hc:b<=cap) :
  (Instr.sliceAt t (.slice base len cap) lo hi (some m)).run P w= .ok (.slice (if b.toNat=a.toNat then base else base.map (·.add (a.toNat*u.size))) (b.toNat-a.toNat) (b.toNat-a.toNat)) w:=by
 subst h2 h3;have hb0:0<=b:=by omega
 have e1:((a.toNat:Nat):Int)=a:=by omega
 have e2:((b.toNat:Nat):Int)=b:=by omega
 rcases h1 with ⟨rfl,rfl⟩ | rfl
 .simp [Instr.sliceAt,run_underlying hd,Instr.slice,Instr.sliceBounds,Instr.sliceBound,asIntOf,hab,hb0,hc,e2,xk hT hu]
 .simp [Instr.sliceAt,run_underlying hd,Instr.slice,Instr.sliceBounds,Instr.sliceBound,asIntOf,h0,hab,hb0,hc,e1,e2,xk hT hu]
theorem zwB {id fresh:Nat}{e:Ty}{l l':List (Den E.T e)}{lo hi:Int}(S:z9 A0 μ H w) (F:Zv H fresh A0 w) (hB:zn H id= .row true e l) (hc:cut l lo hi=some l') {v:Value}(hv:Rp E A0 μ H w (.own id) v) :
  ∃base len cap,v= .slice base len cap/\len=l.length/\len<=cap/\∃ μ',z3 A0 μ H w μ' ((H.set id .dead).set fresh (.row true e l')) w/\z9 A0 μ' ((H.set id .dead).set fresh (.row true e l')) w /\
   Rp E A0 μ' ((H.set id .dead).set fresh (.row true e l')) w (.own fresh) (.slice (if cap=lo.toNat then base else base.map (·.add (lo.toNat*e.size E))) (hi.toNat-lo.toNat) (cap-lo.toNat)):=by
 obtain ⟨h0,h1,h2,hl'⟩:=zbN hc;have hlive:xu (zn H id)=true:=by rw [hB];rfl
 have hUid:Us H id:=yA (yN hlive);have hid:=wu hUid;have ok:=S.ok id;rw [hB] at ok;have hlen':l'.length=hi.toNat-lo.toNat:=by rw [hl'];simp;omega
 have hne:id≠fresh:=fun e'=>by subst e';rw [F.free] at hB;cases hB
 have hfl:fresh<(H.set id (.dead:Blk E)).length:=by simpa using F.lt
 have hUf:Us ((H.set id .dead).set fresh (.row true e l')) fresh:=by unfold Us;rw [yr _ _ _ hfl];rfl
 cases hv with
 | own id b off len cap hU hμ =>
  rw [hμ] at ok;rcases ok with ⟨b',off',cap',c,vs,hl,hbox,g1,g2,g3,g4⟩ | ⟨_,a,hl⟩;rotate_left
  .cases hl
  injection hl with e1 e2 e3 e4;subst e1 e2 e3 e4;refine ⟨_,_,_,rfl,rfl,g1,?_⟩;by_cases hz:cap=lo.toNat
  .have hnil:l'=[]:=zB7 (by rw [hlen'];omega);refine ⟨_,z3.move (w':=w) id fresh b off l.length cap off 0 0 _ hlive hμ F.free F.lt (yv.refl w) (fun _ _ _=>rfl),S.move id fresh b off l.length cap off 0 0 _ hlive hμ F.free F.lt (yv.refl w) (fun _ _ _=>rfl) ?_,?_⟩
   .subst hnil;exact .inl ⟨b,off,0,c,vs,rfl,hbox,zBm _,by omega,fun i hi=>by simp at hi,fun i hi=>by simp at hi⟩
   .rw [zb hz];have:hi.toNat-lo.toNat=0/\cap-lo.toNat=0:=by omega
    rw [this.1,this.2];exact .own fresh b off 0 0 hUf (vv _ _ _)
  .have T:=z3.move (A0:=A0) (w':=w) id fresh b off l.length cap (off+lo.toNat*e.size E) (hi.toNat-lo.toNat) (cap-lo.toNat) (.row true e l') hlive hμ F.free F.lt (yv.refl w) (fun _ _ _=>rfl);refine ⟨_,T,S.move id fresh b off l.length cap (off+lo.toNat*e.size E) (hi.toNat-lo.toNat) (cap-lo.toNat) _ hlive hμ F.free F.lt (yv.refl w) (fun _ _ _=>rfl) ?_,?_⟩
   .refine .inl ⟨b,off+lo.toNat*e.size E,cap-lo.toNat,c,fun i=>vs (lo.toNat+i),by rw [hlen'],hbox,by rw [hlen'];omega,?_,fun i hi' j u hu=>?_,fun i hi'=>?_⟩
    .have:lo.toNat*e.size E+(cap-lo.toNat)*e.size E=cap*e.size E:=by rw [<-zBV];congr 1;omega
     omega
    .have:=g3 (lo.toNat+i) (by rw [hlen'] at hi';omega) j u hu;rw [zBV] at this;simpa [zCy] using this
    .have:=g4 (lo.toNat+i) (by rw [hlen'] at hi';omega);have:=T.repT this;subst hl';simpa using this
   .rw [zd hz];simp only [zCC,Vl];exact .own fresh b _ _ _ hUf (vv _ _ _)
 | own0 id a a2 hU hμ =>
  rw [hμ] at ok;rcases ok with ⟨b',off',cap',c,vs,hl,_⟩ | ⟨rfl,_⟩
  .cases hl
  simp at h2;have e1:hi.toNat=0:=by omega
  have e2:lo.toNat=0:=by omega
  have hnil:l'=[]:=zB7 (by rw [hlen'];omega);refine ⟨_,_,_,rfl,rfl,zBm _,YT μ fresh (.none a),?_,?_,?_⟩
  .have T1:z3 A0 μ H w μ (H.set id .dead) w:=z3.drop id .dead hU rfl rfl;exact T1.trans (z3.fresh (A0:=A0) (μ:=μ) (H:=H.set id .dead) fresh (.none a) _ (by rw [ya H _ hne];exact F.free) hfl (yv.refl w) (fun _ _=>rfl) (fun b o n c h=>by cases h))
  .have S1:z9 A0 μ (H.set id .dead) w:=S.drop id .dead hU rfl rfl (fun h=>by cases h) (fun h=>by cases h) trivial;exact S1.fresh fresh (.none a) _ (by rw [ya H _ hne];exact F.free) hfl (yv.refl w) (fun _ _=>rfl) (fun b o n c h=>by cases h) F.A0 (.inr ⟨hnil,a,rfl⟩)
  .rw [e1,e2];simp only [if_true,Nat.sub_zero];exact .own0 fresh a _ hUf (vv _ _ _)
theorem zsJ (hT:yX E.leaves P tab=true) {t:Nat}{i:TI}(hi:look tab t=some i) {mv:Bool}{fresh:Nat}{p:zj E}{v:Value}{lo hi' mx:Option (zj E)}{lov hiv mxv:Option Value}(S:z9 A0 μ H w) (F:Zv H fresh A0 w)
  (hp:Rp E A0 μ H w p v) (h1:zmf (Rp E A0 μ H w) lo lov) (h2:zmf (Rp E A0 μ H w) hi' hiv) (h3:zmf (Rp E A0 μ H w) mx mxv)
  (h:(zsP i (look tab i.elem) mv fresh p lo hi' mx).cps H K=some r):z8 P A0 μ H w (Instr.sliceAt t v lov hiv mxv) K r:=by
 have elx:∀ {e:Ty},zqC i (look tab i.elem) e=true->∃u,look tab i.elem=some u/\P.underlying t=some (.slice i.elem)/\u.size=e.size E:=by
  intro e h;simp only [zqC,zBl] at h;obtain ⟨h1,h2⟩:=h;split at h2
  .rename_i u hu;exact ⟨u,hu,zj2 hT hi h1,(ul hT e hu (YP h2)).symm⟩
  .cases h2
 have elx0:(i.sl&&(look tab i.elem).isSome)=true->∃u,look tab i.elem=some u/\P.underlying t=some (.slice i.elem):=by
  intro h;simp only [zBl] at h;obtain ⟨h1,h2⟩:=h;cases hu:look tab i.elem with
  | none=>simp [hu] at h2
  | some u=>exact ⟨u,rfl,zj2 hT hi h1⟩
 unfold zsP at h;simp only at h;cases mx with
 | none =>
  cases mxv with
  | some _=>exact h3.elim
  | none =>
  simp only at h;split at h
  .-- a zaG slice
   rename_i e l;split at h;rotate_left
   .simp [Dec.cps] at h
   rename_i hel;obtain ⟨u,hu,hd,hsz⟩:=elx hel;split at h;rotate_left
   .simp [Dec.cps] at h
   rename_i a b ha hb;simp only [Dec.cps] at h;cases hc:cut l a b with
   | none=>simp [hc] at h
   | some l' =>
    simp only [hc,zBk] at h;obtain ⟨c0,c1,c2,_⟩:=zbN hc;cases hp with
    | v τ x v hv =>
     have hv':=hv;cases hv' with
     | nil e a' cap =>
      obtain ⟨e1,e2,hrep⟩:=hv.cut hc;refine z8.same S (zcr hT hd hu w (wW h1 ha) (wW h2 hb) c0 c1 (by simpa using c2) e2) (.v _ _ _ ?_) h;rw [hsz];exact hrep
     | slice e b' off cap l vs g1 g2 g3 g4 g5 =>
      obtain ⟨e1,e2,hrep⟩:=hv.cut hc;refine z8.same S (zcr hT hd hu w (wW h1 ha) (wW h2 hb) c0 c1 c2 e2) (.v _ _ _ ?_) h;rw [hsz];exact hrep
  .-- a string
   rename_i s;split at h;rotate_left
   .simp [Dec.cps] at h
   rename_i hty;have hd:P.underlying t=some .string:=by
    obtain ⟨d,g1,g2⟩:=Yv hT hi;have hty:=YP hty;cases d<;>simp_all [uk]
   split at h;rotate_left
   .simp [Dec.cps] at h
   rename_i a b ha hb;simp only [Dec.cps] at h;cases hc:(decide (0<=a)&&decide (a<=b)&&decide (b<=s.size)) with
   | false=>simp [hc] at h
   | true =>
    simp only [hc,zI] at h;simp only [zBl,decide_eq_true_eq] at hc;cases hp with
    | v τ x v hv =>
     cases hv with
     | str s =>
      refine z8.same S (v:= .string (s.extract a.toNat b.toNat)) ?_ (.v _ _ _ (.str _)) h;simp [Instr.sliceAt,run_underlying hd,Instr.slice,zgM (P:=P) w (wW h1 ha) (wW h2 hb) hc.1.1 hc.1.2 hc.2 (zBm _)]
  .-- nothing
   split at h;rotate_left
   .simp [Dec.cps] at h
   rename_i hel;obtain ⟨u,hu,hd⟩:=elx0 hel;split at h;rotate_left
   .simp [Dec.cps] at h
   rename_i a b ha hb;simp only [Dec.cps] at h;cases hc:(decide (a=0)&&decide (b=0)) with
   | false=>simp [hc] at h
   | true =>
    simp only [hc,zI] at h;simp only [zBl,decide_eq_true_eq] at hc;obtain ⟨rfl,rfl⟩:=hc;cases hp with
    | nils a' =>
     refine z8.same S (zcr hT hd hu w (wW h1 ha) (wW h2 hb) (zB2 _) (zB2 _) (by simp) (zBm _)) ?_ h;simp only [Int.toNat_zero,Nat.sub_zero,if_true];exact .nils a'
  .-- a row
   rename_i id;simp only [Dec.cps] at h;cases hB:zn H id with
   | row wr e l =>
    rw [hB] at h;simp only at h;split at h;rotate_left
    .simp [Dec.cps] at h
    rename_i hel;obtain ⟨u,hu,hd,hsz⟩:=elx hel;split at h;rotate_left
    .simp [Dec.cps] at h
    rename_i a b ha hb;split at h
    .split at h;rotate_left
     .simp [Dec.cps] at h
     rename_i hwr;subst hwr;simp only [Dec.cps] at h;cases hc:cut l a b with
     | none=>simp [hc] at h
     | some l' =>
      simp only [hc,zBk] at h;obtain ⟨c0,c1,c2,_⟩:=zbN hc;cases hlt:Nat.blt id H.length with
      | false=>simp [hlt] at h
      | true =>
       simp only [hlt,zI] at h;cases hlt2:Nat.blt fresh (H.set id .dead).length with
       | false=>simp only [hlt2,yg] at h;cases h
       | true =>
        simp only [hlt2,zI] at h;obtain ⟨base,len,cap,rfl,e1,e2,μ',T,S',hrep⟩:=zwB S F hB hc hp;refine ⟨_,_,_,_,μ',zcr hT hd hu w (wW h1 ha) (by rw [e1];exact wW h2 hb) c0 c1 (by rw [e1];exact c2) e2,T,S',?_,h⟩;rw [hsz];exact hrep
    .simp only [Dec.cps] at h;cases hlt:Nat.blt id H.length with
     | false=>simp [hlt] at h
     | true =>
      simp only [hlt,zI] at h;cases hc:cut l a b with
      | none=>simp [hc] at h
      | some l' =>
       simp only [hc,zBk] at h;obtain ⟨c0,c1,c2,_⟩:=zbN hc;obtain ⟨T,S',hrep⟩:=zaJ S hB;obtain ⟨a',c,rfl,hv⟩:=hrep v hp;obtain ⟨e1,e2,hrep'⟩:=hv.cut hc;refine ⟨_,_,_,_,μ,zcr hT hd hu w (wW h1 ha) (wW h2 hb) c0 c1 c2 e2,T,S',.v _ _ _ ?_,h⟩;rw [hsz];exact hrep'
   | _=>rw [hB] at h;simp [Dec.cps] at h
  .simp [Dec.cps] at h
 | some m =>
  cases mxv with
  | none=>exact h3.elim
  | some mv' =>
  simp only at h;have hm:∀ {c:Int},Wq (some m) 0=some c->mv'= .int .i64 c:=fun hc=>by
   rcases wW (w:=w) (A:=Av A0 μ H) (U:=Us H) (μ:=μ) (v:=some mv') h3 hc with ⟨h,_⟩ | h
   .cases h
   .injection h
  split at h
  .rename_i e l;split at h;rotate_left
   .simp [Dec.cps] at h
   rename_i hel;obtain ⟨u,hu,hd,hsz⟩:=elx hel;split at h;rotate_left
   .simp [Dec.cps] at h
   rename_i a bp c ha hc;cases hiv with
   | none=>exact h2.elim
   | some bv =>
   split at h;rotate_left
   .simp [Dec.cps] at h
   rename_i b hb;have hbv:some bv=some (.int .i64 b):=by
    rcases wW (w:=w) (A:=Av A0 μ H) (U:=Us H) (μ:=μ) (v:=some bv) h2 hb with ⟨h,_⟩ | h
    .cases h
    .exact h
   have fin:∀(base:Option Addr) (cap:Nat),l.length<=cap->v= .slice base l.length cap->yz E w (Av A0 μ H) (.slice e) (.slice base l.length l.length) l->z8 P A0 μ H w (Instr.sliceAt t v lov (some bv) (some mv')) K r:=by
    intro base cap hcap hv' hrep;subst hv';simp only [Dec.cps] at h;cases hz:(decide (a=0)&&decide (b=0)&&decide (c=0)) with
    | true =>
     simp only [hz,zI] at h;simp only [zBl,decide_eq_true_eq] at hz;obtain ⟨⟨rfl,rfl⟩,rfl⟩:=hz;exact z8.same S (zc0 hT hd hu w (wW h1 ha) hbv (hm hc) rfl (zB2 _) (zB2 _) (by omega)) (.nils base) h
    | false =>
     simp only [hz,yg] at h;cases hz2:(decide (a=0)&&decide (b=l.length)&&decide (c=l.length)) with
     | false =>
      simp only [hz2,yg] at h;cases hz3:decide (b=c) with
      | false=>simp [hz3] at h
      | true =>
       simp only [hz3,zI] at h;simp only [decide_eq_true_eq] at hz3;subst hz3;simp only [zBw] at h;obtain ⟨l',hcut,h⟩:=h;obtain ⟨c0,c1,c2,_⟩:=zbN hcut;have hsz':u.size=e.size E:=hsz;refine z8.same S (zum hT hd hu w (wW h1 ha) hbv (hm hc) c0 c1 (by omega)) ?_ h;rw [hsz'];exact .v _ _ _ (hrep.cut3 hcut)
     | true =>
      simp only [hz2,zI] at h;simp only [zBl,decide_eq_true_eq] at hz2;obtain ⟨⟨rfl,rfl⟩,rfl⟩:=hz2;refine z8.same S (zc0 hT hd hu w (wW h1 ha) hbv (hm hc) rfl (by omega) (zB2 _) (by omega)) ?_ h;simpa using yc.full e l base hrep
   cases hp with
   | v τ x v hv =>
    cases hv with
    | nil e a' cap=>exact fin a' cap (Nat.zero_le _) rfl (.nil _ _ _)
    | slice e b' off cap l vs g1 g2 g3 g4 g5=>exact fin _ cap g3 rfl (.slice e b' off _ l vs g1 g2 (zBm _) g4 g5)
  .split at h;rotate_left
   .simp [Dec.cps] at h
   rename_i hel;obtain ⟨u,hu,hd⟩:=elx0 hel;split at h;rotate_left
   .simp [Dec.cps] at h
   rename_i a bp c ha hc;cases hiv with
   | none=>exact h2.elim
   | some bv =>
   split at h;rotate_left
   .simp [Dec.cps] at h
   rename_i b hb;have hbv:some bv=some (.int .i64 b):=by
    rcases wW (w:=w) (A:=Av A0 μ H) (U:=Us H) (μ:=μ) (v:=some bv) h2 hb with ⟨h,_⟩ | h
    .cases h
    .exact h
   simp only [Dec.cps] at h;cases hz:(decide (a=0)&&decide (b=0)&&decide (c=0)) with
   | false=>simp [hz] at h
   | true =>
    simp only [hz,zI] at h;simp only [zBl,decide_eq_true_eq] at hz;obtain ⟨⟨rfl,rfl⟩,rfl⟩:=hz;cases hp with
    | nils a'=>exact z8.same S (zc0 hT hd hu w (wW h1 ha) hbv (hm hc) rfl (zB2 _) (zB2 _) (by simp)) (.nils a') h
  .rename_i id;simp only [Dec.cps] at h;cases hB:zn H id with
   | row wr e l =>
    rw [hB] at h;simp only at h;split at h;rotate_left
    .simp [Dec.cps] at h
    rename_i hel;obtain ⟨u,hu,hd,hsz⟩:=elx hel;split at h;rotate_left
    .simp [Dec.cps] at h
    rename_i a bp c ha hc;cases hiv with
    | none=>exact h2.elim
    | some bv =>
    split at h;rotate_left
    .simp [Dec.cps] at h
    rename_i b hb;have hbv:some bv=some (.int .i64 b):=by
     rcases wW (w:=w) (A:=Av A0 μ H) (U:=Us H) (μ:=μ) (v:=some bv) h2 hb with ⟨h,_⟩ | h
     .cases h
     .exact h
    simp only [Dec.cps] at h;obtain ⟨T,S',hrep⟩:=zaJ S hB;obtain ⟨a',cp,rfl,hv⟩:=hrep v hp;have hcap:l.length<=cp:=by
     have hv2:=hv;generalize hq:Value.slice a' l.length cp=q at hv2;cases hv2 with
     | nil e a2 cap2=>simp
     | slice e b' off cap2 l vs g1 g2 g3 g4 g5=>injection hq with q1 q2 q3;omega
    have hfull:yz E w (Av A0 μ (H.set id (.row false e l))) (.slice e) (.slice a' l.length l.length) l:=by
     generalize hq:Value.slice a' l.length cp=q at hv;cases hv with
     | nil e a2 cap2=>injection hq with q1;subst q1;exact .nil _ _ _
     | slice e b' off cap2 l vs g1 g2 g3 g4 g5=>injection hq with q1;subst q1;exact .slice e b' off _ l vs g1 g2 (zBm _) g4 g5
    cases hz:(decide (a=0)&&decide (b=0)&&decide (c=0)) with
    | true =>
     simp only [hz,zI] at h;simp only [zBl,decide_eq_true_eq] at hz;obtain ⟨⟨rfl,rfl⟩,rfl⟩:=hz;cases hlt:Nat.blt id H.length with
     | false=>simp [hlt] at h
     | true =>
      simp only [hlt,zI] at h;exact ⟨_,_,_,_,μ,zc0 hT hd hu w (wW h1 ha) hbv (hm hc) rfl (zB2 _) (zB2 _) (by omega),T,S',.nils a',h⟩
    | false =>
     simp only [hz,yg] at h;cases hz2:(decide (a=0)&&decide (b=l.length)&&decide (c=l.length)) with
     | false=>simp [hz2] at h
     | true =>
      simp only [hz2,zI] at h;simp only [zBl,decide_eq_true_eq] at hz2;obtain ⟨⟨rfl,rfl⟩,rfl⟩:=hz2;cases hlt:Nat.blt id H.length with
      | false=>simp [hlt] at h
      | true =>
       simp only [hlt,zI] at h;refine ⟨_,_,_,_,μ,zc0 hT hd hu w (wW h1 ha) hbv (hm hc) rfl (by omega) (zB2 _) (by omega),T,S',?_,h⟩;simpa using yc.full e l a' hfull
   | _=>rw [hB] at h;simp [Dec.cps] at h
  .simp [Dec.cps] at h
end
end Go.Pe
namespace Go.Pe
variable {E:yG}
section
variable {P:Program}{tab:List (Nat×TI)}{A0:Nat->Prop}{μ:Nat->Loc}{H:List (Blk E)}{w:World}{R:Type}{K:zj E->List (Blk E)->Option R}{r:R}
structure Zo (w:World) (A:Nat->Prop) (e:Ty) (l:List (Den E.T e)) (cells:Array Value) (vs:Nat->Value):Prop where
 size:cells.size=l.length*e.size E
 at_:∀i,i<l.length->∀j u,(vs i).cells[j]? =some u->cells[i*e.size E+j]? =some u
 rep:∀i (h:i<l.length),yz E w A e (vs i) l[i]
def zcw (vs:Nat->Value) (n:Nat):List Value:=(List.range n).flatMap fun i=>(vs i).cells.toList
theorem ziw (vs:Nat->Value) (s:Nat):∀n,(∀i,i<n->(vs i).cells.size=s)->(zcw vs n).length=n*s
 | 0,_=>by simp [zcw]
 | n+1,h=>by
  have:=ziw vs s n (fun i hi=>h i (by omega));simp only [zcw,List.range_succ,zCN,zBz] at this ⊢;rw [this];simp [h n (by omega),zBV]
theorem zil (vs:Nat->Value) (s:Nat):∀n,(∀i,i<n->(vs i).cells.size=s)->∀i,i<n->∀j u,(vs i).cells[j]? =some u->(zcw vs n)[i*s+j]? =some u
 | 0,_,i,hi,_,_,_=>by omega
 | n+1,h,i,hi,j,u,hu=>by
  have hl:=ziw vs s n (fun i hi=>h i (by omega));have hj:j<s:=by
   rw [<-h i hi];rcases zBR j (vs i).cells.size with h' | h'
   .exact h'
   .rw [zCT h'] at hu;cases hu
  have e1:zcw vs (n+1)=zcw vs n++(vs n).cells.toList:=by simp [zcw,List.range_succ]
  rw [e1];by_cases hin:i<n
  .have:(i+1)*s<=n*s:=zCl _ hin;rw [zBV] at this;rw [zBM (by omega)];exact zil vs s n (fun i hi=>h i (by omega)) i hin j u hu
  .have:i=n:=by omega
   subst this;rw [zBS (by omega),hl];simpa using hu
theorem zqe {A:Nat->Prop}{e:Ty}{l:List (Den E.T e)}{v:Value}(h:yz E w A (.slice e) v l):∃a c,v= .slice a l.length c:=by
 cases h with
 | nil e a c=>exact ⟨a,c,rfl⟩
 | slice e b off cap l vs hA hb hc hm hr=>exact ⟨_,cap,rfl⟩
theorem zaT {A:Nat->Prop}{e:Ty}{l:List (Den E.T e)}{v:Value}(h:yz E w A (.slice e) v l):∃cells vs,Zo w A e l cells vs /\
  ∀w':World,w'.heap=w.heap->(Builtin.firstCells (e.size E) l.length v).run P w'= .ok cells w':=by
 cases h with
 | nil e a cap =>
  refine ⟨#[],fun _=>undef,⟨by simp,fun i hi=>by simp at hi,fun i hi=>by simp at hi⟩,fun w' _=>?_⟩;cases a<;>simp [Builtin.firstCells,loadCells,loadCellsFrom]
 | slice e b off cap l vs hA hb hc hm hr =>
  have hs:∀i,i<l.length->(vs i).cells.size=e.size E:=fun i hi=>(hr i hi).size;have hlen:=ziw vs (e.size E) l.length hs;refine ⟨(zcw vs l.length).toArray,vs,⟨by simpa using hlen,fun i hi j u hu=>?_,hr⟩,fun w' hw=>?_⟩
  .simpa using zil vs (e.size E) l.length hs i hi j u hu
  .have:=run_loadCells_list (P:=P) w' ⟨b,off,none⟩ (zcw vs l.length) (fun j u hu=>by
    rw [Vl];have hj:j<l.length*e.size E:=by
     rw [<-hlen];exact (zBt.1 hu).1
    have hpos:0<e.size E:=by
     rcases Nat.eq_zero_or_pos (e.size E) with h0 | h0
     .rw [h0] at hj;simp at hj
     .exact h0
    have hi:j/e.size E<l.length:=(Nat.div_lt_iff_lt_mul hpos).2 hj;have hjm:j%e.size E<(vs (j/e.size E)).cells.size:=by rw [hs _ hi];exact Nat.mod_lt _ hpos
    have hu':=zil vs (e.size E) l.length hs _ hi (j%e.size E) _ (zCr hjm);have hdm:j/e.size E*e.size E+j%e.size E=j:=Nat.div_add_mod' j (e.size E);rw [hdm,hu] at hu';injection hu' with hu';subst hu';have:=hm _ hi (j%e.size E) _ (zCr hjm);rw [zCy,hdm] at this;simpa [World.cell?,hw] using this)
   rw [hlen] at this;simpa [Builtin.firstCells] using this
theorem zn2 (hT:yX E.leaves P tab=true) {t1 t2:Nat}{type:TypeId}{e e2:Nat}{u:TI}(hd:P.underlying t1=some (.slice e)) (hu:look tab e=some u)
  (hd2:P.underlying t2=some (.slice e2)) {base:Option Addr}{len cap n:Nat}{x:Value}{old new:Array Value}
  (hlen:(Builtin.lenOf x).run P w= .ok n w) (hold:∀w':World,w'.heap=w.heap->(Builtin.firstCells u.size len (.slice base len cap)).run P w'= .ok old w')
  (hnew:∀w':World,w'.heap=w.heap->(Builtin.firstCells u.size n x).run P w'= .ok new w') (hg:cap<len+n) (hb:len+n<4294967296) :
  ∃newCap,len+n<=newCap/\(Builtin.append_ #[t1,t2] type #[.slice base len cap,x]).run P w =
   .ok (.slice (some ⟨w.heap.size,0,none⟩) (len+n) newCap) (w.drew.alloc (.cells (old++new++Builtin.zeroCells (xA u).cells (newCap-(len+n))) e)):=by
 obtain ⟨f,hf,hf1,hf2,hf3⟩:=zdK hT hu;have hbytes:=zkt hT hu;have hfit:Builtin.nextslicecap (len+n) cap*f.bytes<=281474976710656:=by
  refine growslice_fits hg ?_;rw [hf2];have:=zCD (Nat.le_of_lt hb) hbytes;omega
 refine ⟨grownCap w (len+n) cap e,by simp only [grownCap,Question.cut];omega,?_⟩;have hn: ¬(len+n<=cap):=by omega
 have h63': ¬(9223372036854775807<((len:Int)+(n:Int))):=by omega
 have h48': ¬(281474976710656<Builtin.nextslicecap (len+n) cap*f.bytes):=by omega
 have h1:=hold w.drew rfl;have h2:=hnew w.drew rfl;rw [<-hf1] at h1 h2;simp [Builtin.append_,run_underlying hd,run_underlying hd2,sizeOf,typeInfo,zeroValue,hf,hf3,hlen,hn,h63',h48',Question.forced,h1,h2,newRow,grownCap]
theorem zmF (hT:yX E.leaves P tab=true) {t1 t2:Nat}{type:TypeId}{e:Nat}{u:TI}{k2:IntKind}(hd:P.underlying t1=some (.slice e)) (hu:look tab e=some u)
  (hd2:P.underlying t2=some (.int k2)) {base:Option Addr}{len cap n:Nat}{old:Array Value}
  (hold:∀w':World,w'.heap=w.heap->(Builtin.firstCells u.size len (.slice base len cap)).run P w'= .ok old w') (hg:cap<len+n) (hb:len+n<4294967296) (hs:u.size≠0) (hz:n≠0) :
  ∃newCap,len+n<=newCap/\(Builtin.append_ #[t1,t2] type #[.slice base len cap,.int .i64 (n:Int)]).run P w =
   .ok (.slice (some ⟨w.heap.size,0,none⟩) (len+n) newCap) (w.drew.alloc (.cells (old++(Builtin.zeroCells (xA u).cells n)++Builtin.zeroCells (xA u).cells (newCap-(len+n))) e)):=by
 obtain ⟨f,hf,hf1,hf2,hf3⟩:=zdK hT hu;have hbytes:=zkt hT hu;have hfit:Builtin.nextslicecap (len+n) cap*f.bytes<=281474976710656:=by
  refine growslice_fits hg ?_;rw [hf2];have:=zCD (Nat.le_of_lt hb) hbytes;omega
 refine ⟨grownCap w (len+n) cap e,by simp only [grownCap,Question.cut];omega,?_⟩;have hn: ¬(len+n<=cap):=by omega
 have hw:IntKind.i64.wrap (n:Int)=n:=by
  have h1:(n:Int)%2 ^ 64=n:=by omega
  simp only [IntKind.wrap,IntKind.signed,IntKind.bits,h1];rw [zd (by simp;omega)]
 have h63': ¬(9223372036854775807<((len:Int)+(n:Int))):=by omega
 have h48': ¬(281474976710656<Builtin.nextslicecap (len+n) cap*f.bytes):=by omega
 have h48'': ¬((281474976710656:Int)<(n:Int)*f.bytes):=by
  rw [hf2];have h1:n*u.bytes<=4294967296*4096:=zCD (by omega) hbytes;have:((n*u.bytes:Nat):Int)=(n:Int)*u.bytes:=by simp
  omega
 have hn0: ¬((n:Int)<0):=by omega
 have h1:=hold w.drew rfl;rw [<-hf1] at h1 hs;simp [Builtin.append_,run_underlying hd,run_underlying hd2,asInt,asIntOf,sizeOf,typeInfo,zeroValue,hf,hf3,hn,hw,h63',h48',h48'',hn0,Question.forced,h1,newRow,grownCap,hz,hs];intro h0;exact zk h0 (Nat.mul_ne_zero hz hs)
theorem zkS {A:Nat->Prop}{z:Z}{t:Ty}(h:z.is t=true) {x:Den E.T t}(hx:vR (E:=E) t=some x):yz E w A t z.toV x:=by
 cases z<;>cases t<;>simp [Z.is] at h
 .simp [vR] at hx;subst hx;exact .bool false
 .rename_i k k';subst h;simp [vR] at hx;subst hx;have:=yz.int (E:=E) (w:=w) (A:=A) k (zaa k 0);cases k<;>exact this
 .simp [vR] at hx;subst hx;exact .str _
 .simp [vR] at hx;subst hx;exact .nil _ none 0
theorem zoY {A:Nat->Prop}:∀ {zs:List Z}{ts:List Ty}{x:HL E.T ts},zee zs ts=true->zpl (E:=E) ts=some x ->
  ∀i (hi:i<ts.length),yz E w A ts[i] ((zs.map Z.toV).getD i undef) (HL.get ts x i hi)
 | [],[],_,_,_,i,hi=>by simp at hi
 | [],_::_,_,h,_,_,_=>by simp [zee] at h
 | _::_,[],_,h,_,_,_=>by simp [zee] at h
 | z::zs,t::ts,x,h,hx,i,hi=>by
  simp only [zee,zBl] at h;simp only [zpl] at hx;split at hx
  .rename_i a b ha hb;injection hx with hx;subst hx;cases i with
   | zero=>simpa [HL.get] using zkS h.1 ha
   | succ i=>simpa [HL.get] using zoY h.2 hb i (Nat.lt_of_succ_lt_succ hi)
  .cases hx
theorem zrb {A:Nat->Prop}(hT:yX E.leaves P tab=true) {t:Nat}{u:TI}(hu:look tab t=some u) {e:Ty}(hty:u.ty=some e) {z:Den E.T e}(hz:zmu (E:=E) e=some z):yz E w A e (xA u) z:=by
 have h1:=zeh hT hu;have leaf:∀ {e:Ty}{z:Den E.T e},u.agg=false->(match u.zero with | [z]=>z.is e | _=>false)=true->vR (E:=E) e=some z->yz E w A e (xA u) z:=by
  intro e z ha h hz;split at h
  .rename_i z' hz';have:xA u=z'.toV:=by simp [xA,ha,hz']
   rw [this];exact zkS h hz
  .cases h
 cases e with
 | named n =>
  simp only [tyB,hty,zBl] at h1;simp only [zmu,zBD] at hz;obtain ⟨x,hx,rfl⟩:=hz;have:xA u= .agg (u.zero.map Z.toV).toArray:=by simp [xA,h1.1]
  rw [this];refine .named n _ _ (by simp [zk9 h1.2]) (fun i hi=>?_);rw [E.up];have:=zoY (w:=w) (A:=A) h1.2 hx i hi;simpa [zBN] using this
 | arr n e=>simp [zmu,vR] at hz
 | slice e =>
  simp only [tyB,hty,zBl,zBC] at h1;refine leaf h1.1.1.1 ?_ hz;have h2:=h1.1.2;split at h2
  .rename_i hz';rw [hz'];rfl
  .cases h2
 | bool=>simp only [tyB,hty,zBl,zBC] at h1;exact leaf h1.1 h1.2 hz
 | int k=>simp only [tyB,hty,zBl,zBC] at h1;exact leaf h1.1 h1.2 hz
 | str=>simp only [tyB,hty,zBl,zBC] at h1;exact leaf h1.1 h1.2 hz
theorem zsf {A:Nat->Prop}(hT:yX E.leaves P tab=true) {t:Nat}{u:TI}(hu:look tab t=some u) {e:Ty}(hty:u.ty=some e) {z:Den E.T e}(hz:zmu (E:=E) e=some z) (n:Nat) :
  Zo w A e (List.replicate n z) (Builtin.zeroCells (xA u).cells n) (fun _=>xA u):=by
 have hr:=zrb (w:=w) (A:=A) hT hu hty hz;have hs:=hr.size;refine ⟨by simp [Builtin.zeroCells,hs],fun i hi j v hv=>?_,fun i hi=>by simpa using hr⟩;have hj:j<(xA u).cells.size:=by
  rcases zBR j (xA u).cells.size with h' | h'
  .exact h'
  .rw [zCT h'] at hv;cases hv
 simp only [zB8] at hi;have hlt:i*e.size E+j<n*(xA u).cells.size:=by
  have:(i+1)*e.size E<=n*e.size E:=zCl _ hi;rw [zBV] at this;rw [hs] at hj ⊢;omega
 have hmod:(i*e.size E+j)%(xA u).cells.size=j:=by
  rw [hs] at hj ⊢;rw [Nat.mul_comm,Nat.mul_add_mod,Nat.mod_eq_of_lt hj]
 simp only [Builtin.zeroCells];rw [Array.getElem?_map,Array.getElem?_range,zb hlt];simp only [zCC,hmod];rw [<-hv,getElem!_pos _ j hj,zCr hj]
theorem zn3 (hT:yX E.leaves P tab=true) {t1 t2:Nat}{type:TypeId}{e e2:Nat}{u:TI}(hd:P.underlying t1=some (.slice e)) (hu:look tab e=some u) (hd2:P.underlying t2=some (.slice e2))
  {b off len cap n:Nat}{x:Value}{new cur:Array Value}{t:TypeId}(hlen:(Builtin.lenOf x).run P w= .ok n w) (hnew:(Builtin.firstCells u.size n x).run P w= .ok new w) (hg:len+n<=cap)
  (hh:w.heap[b]? =some (.cells cur t (0,0))) (hfit:off+len*u.size+new.size<=cur.size) (hone:∀v∈new.toList,v.oneCell'=true) :
  (Builtin.append_ #[t1,t2] type #[.slice (some ⟨b,off,none⟩) len cap,x]).run P w =
   .ok (.slice (some ⟨b,off,none⟩) (len+n) cap) (w.setRow b (cur.toList.take (off+len*u.size)++new.toList++cur.toList.drop (off+len*u.size+new.size)).toArray):=by
 have hst:=run_storeCells_at (P:=P) b (off+len*u.size) t new.toList 0 cur w hh (by simpa using hfit) hone;simp only [zCd] at hst;have hst':Sem.run P (storeCells ⟨b,off+len*u.size,none⟩ new.toList) w=_:=hst;simp [Builtin.append_,run_underlying hd,run_underlying hd2,xk hT hu,hlen,hg,hnew,Vl,hst']
theorem zmI (hT:yX E.leaves P tab=true) {t1 t2:Nat}{type:TypeId}{e:Nat}{u:TI}{k2:IntKind}(hd:P.underlying t1=some (.slice e)) (hu:look tab e=some u) (hd2:P.underlying t2=some (.int k2))
  {b off len cap n:Nat}{cur:Array Value}{t:TypeId}(hg:len+n<=cap) (hn:n≠0) (hs:u.size≠0) (hb:n<4294967296)
  (hh:w.heap[b]? =some (.cells cur t (0,0))) (hfit:off+len*u.size+(Builtin.zeroCells (xA u).cells n).size<=cur.size) (hone:∀v∈(Builtin.zeroCells (xA u).cells n).toList,v.oneCell'=true) :
  (Builtin.append_ #[t1,t2] type #[.slice (some ⟨b,off,none⟩) len cap,.int .i64 (n:Int)]).run P w =
   .ok (.slice (some ⟨b,off,none⟩) (len+n) cap) (w.setRow b (cur.toList.take (off+len*u.size)++(Builtin.zeroCells (xA u).cells n).toList++cur.toList.drop (off+len*u.size+(Builtin.zeroCells (xA u).cells n).size)).toArray):=by
 obtain ⟨f,hf,hf1,hf2,hf3⟩:=zdK hT hu;have hbytes:=zkt hT hu;have hst:=run_storeCells_at (P:=P) b (off+len*u.size) t (Builtin.zeroCells (xA u).cells n).toList 0 cur w hh (by simpa using hfit) hone;simp only [zCd] at hst;have hst':Sem.run P (storeCells ⟨b,off+len*u.size,none⟩ (Builtin.zeroCells (xA u).cells n).toList) w=_:=hst;have hw:IntKind.i64.wrap (n:Int)=n:=by
  have h1:(n:Int)%2 ^ 64=n:=by omega
  simp only [IntKind.wrap,IntKind.signed,IntKind.bits,h1];rw [zd (by simp;omega)]
 have h48'': ¬((281474976710656:Int)<(n:Int)*f.bytes):=by
  rw [hf2];have h1:n*u.bytes<=4294967296*4096:=zCD (by omega) hbytes;have:((n*u.bytes:Nat):Int)=(n:Int)*u.bytes:=by simp
  omega
 have hn0: ¬((n:Int)<0):=by omega
 have hti:∀w',(typeInfo e).run P w'= .ok f w':=fun w'=>by simp [typeInfo,hf]
 simp [Builtin.append_,run_underlying hd,run_underlying hd2,asInt,asIntOf,xk hT hu,hti,ZB hT hu,hw,h48'',hn0,hg,hn,hs,Vl,hst'];intro h0;exact zk h0 (Nat.mul_ne_zero hn hs)
theorem Zo.mono {A A':Nat->Prop}{w w':World}{e:Ty}{l:List (Den E.T e)}{cells:Array Value}{vs:Nat->Value}(h:Zo w A e l cells vs) (k:∀ {v x},yz E w A e v x->yz E w' A' e v x):Zo w' A' e l cells vs :=
 ⟨h.size,h.at_,fun i hi=>k (h.rep i hi)⟩
theorem Zo.append {A:Nat->Prop}{e:Ty}{l l2:List (Den E.T e)}{c c2:Array Value}{vs vs2:Nat->Value}(h:Zo w A e l c vs) (h2:Zo w A e l2 c2 vs2) :
  Zo w A e (l++l2) (c++c2) (fun i=>if i<l.length then vs i else vs2 (i-l.length)):=by
 refine ⟨by simp [h.size,h2.size,zBV],fun i hi j u hu=>?_,fun i hi=>?_⟩
 .by_cases hl:i<l.length
  .simp only [hl,if_true] at hu;have:=h.at_ i hl j u hu;rw [Array.getElem?_append_left (zBP.1 this).1];exact this
  .simp only [hl,if_false] at hu;have hi2:i-l.length<l2.length:=by simp at hi;omega
   have:=h2.at_ (i-l.length) hi2 j u hu;have e1:i*e.size E=l.length*e.size E+(i-l.length)*e.size E:=by rw [<-zBV];congr 1;omega
   rw [Array.getElem?_append_right (by rw [h.size];omega),h.size];rw [show i*e.size E+j-l.length*e.size E=(i-l.length)*e.size E+j by omega];exact this
 .by_cases hl:i<l.length
  .simp only [hl,if_true];rw [List.getElem_append_left hl];exact h.rep i hl
  .simp only [hl,if_false];have hi2:i-l.length<l2.length:=by simp at hi;omega
   rw [List.getElem_append_right (by omega)];exact h2.rep _ hi2
structure Apd (P:Program) (E:yG) (A0:Nat->Prop) (μ:Nat->Loc) (H:List (Blk E)) (w:World) (t1 t2 e:Nat) (u:TI) (type:TypeId) (τ:Ty) (l2:List (Den E.T τ)) (x:Value) (new:Array Value) (vs:Nat->Value):Prop where
 rows:Zo w (Av A0 μ H) τ l2 new vs
 one:∀v∈new.toList,v.oneCell'=true
 grows:∀ {base:Option Addr}{len cap:Nat}{old:Array Value},(∀w':World,w'.heap=w.heap->(Builtin.firstCells u.size len (.slice base len cap)).run P w'= .ok old w')->cap<len+l2.length->len+l2.length<4294967296 ->
  ∃newCap,len+l2.length<=newCap/\(Builtin.append_ #[t1,t2] type #[.slice base len cap,x]).run P w =
   .ok (.slice (some ⟨w.heap.size,0,none⟩) (len+l2.length) newCap) (w.drew.alloc (.cells (old++new++Builtin.zeroCells (xA u).cells (newCap-(len+l2.length))) e))
 fits:∀ {b off len cap:Nat}{cur:Array Value}{t:TypeId},len+l2.length<=cap->w.heap[b]? =some (.cells cur t (0,0))->off+len*u.size+new.size<=cur.size ->
  (Builtin.append_ #[t1,t2] type #[.slice (some ⟨b,off,none⟩) len cap,x]).run P w =
   .ok (.slice (some ⟨b,off,none⟩) (len+l2.length) cap) (w.setRow b (cur.toList.take (off+len*u.size)++new.toList++cur.toList.drop (off+len*u.size+new.size)).toArray)
 none_:∀ {base:Option Addr},l2.length=0->(Builtin.append_ #[t1,t2] type #[.slice base 0 0,x]).run P w= .ok (.slice base 0 0) w
theorem zlN {fresh:Nat}{e:Ty}{l:List (Den E.T e)}{cells rest:Array Value}{vs:Nat->Value}{t:TypeId}{newCap:Nat}(S:z9 A0 μ H w) (F:Zv H fresh A0 w) (hr:Zo w (Av A0 μ H) e l cells vs) (hcap:l.length<=newCap)
  (hsz:(cells++rest).size=newCap*e.size E) {w1:World}(hw:w1.heap=w.heap) (q:yv w w1) :
  let loc:=Loc.blk w.heap.size 0 l.length newCap;let H':=H.set fresh (.row true e l);let w':=w1.alloc (.cells (cells++rest) t)
  z3 A0 μ H w (YT μ fresh loc) H' w'/\z9 A0 (YT μ fresh loc) H' w'/\Rp E A0 (YT μ fresh loc) H' w' (.own fresh) (.slice (some ⟨w.heap.size,0,none⟩) l.length newCap):=by
 intro loc H' w';have hb:∀b,b<w.heap.size->w'.heap[b]? =w.heap[b]? :=fun b hb=>by
  show (w1.heap.push _)[b]? =_;rw [hw,zCU,ze]
 have hq:yv w w':=⟨q.os,q.tape,q.output,by show _<=(w1.heap.push _).size;rw [hw];simp⟩
 have T:z3 A0 μ H w (YT μ fresh loc) H' w':=z3.fresh fresh loc _ F.free F.lt hq hb (fun b o n c e=>by injection e with e;omega);refine ⟨T,S.fresh fresh loc _ F.free F.lt hq hb (fun b o n c e=>by injection e with e;subst e;exact ⟨zBm _,by show _<(w1.heap.push _).size;rw [hw];simp⟩) F.A0 ?_,?_⟩
 .refine .inl ⟨w.heap.size,0,newCap,cells++rest,vs,rfl,⟨t,(0,0),?_,fun _=>rfl⟩,hcap,by rw [hsz];omega,fun i hi j u hu=>?_,fun i hi=>T.repT (hr.rep i hi)⟩
  .show (w1.heap.push _)[w.heap.size]? =_;rw [hw];simp
  .have:=hr.at_ i hi j u hu;rw [Nat.zero_add,Array.getElem?_append_left (zBP.1 this).1];exact this
 .exact .own fresh _ _ _ _ (by unfold Us;rw [yr _ _ _ F.lt];rfl) (vv _ _ _)
theorem zmc {α:Type}{l l':List α}(h:vQ l=some l'):l'=l/\l.length<4294967296:=by
 rw [ztc] at h;cases hd:decide (l.length<4294967296) with
 | false=>simp [hd] at h
 | true=>simp only [hd,zI] at h;injection h with h;exact ⟨h.symm,by simpa using hd⟩
theorem zkP (hT:yX E.leaves P tab=true) {t1 t2 e:Nat}{u:TI}{type:TypeId}{τ:Ty}(hu:look tab e=some u) (hty:u.ty=some τ) (hs:u.size≠0) {fresh:Nat}{p:zj E}{v x:Value}{l2:List (Den E.T τ)}{new:Array Value}{vs2:Nat->Value}
  (S:z9 A0 μ H w) (F:Zv H fresh A0 w) (hp:Rp E A0 μ H w p v) (D:Apd P E A0 μ H w t1 t2 e u type τ l2 x new vs2)
  (h:(zmx τ fresh p l2).cps H K=some r):z8 P A0 μ H w (Builtin.append_ #[t1,t2] type #[v,x]) K r:=by
 have hsz:=ul hT τ hu hty;have hzs:(xA u).cells.size=τ.size E:=by
  have h1:=zbj hT hu;have h2:=zjI hT hu;have:(xA u).cells.toList.length=u.zero.length:=by rw [h1];simp
  rw [hsz,<-h2];simpa using this
 have hrest:∀(k:Nat),(Builtin.zeroCells (xA u).cells k).size=k*τ.size E:=fun k=>by simp [Builtin.zeroCells,hzs]
 have grow:∀ {base:Option Addr}{len cap:Nat}{old:Array Value}{l:List (Den E.T τ)}{vs:Nat->Value}{H1:List (Blk E)},z3 A0 μ H w μ H1 w->z9 A0 μ H1 w->Zv H1 fresh A0 w->len=l.length->Zo w (Av A0 μ H1) τ l old vs ->
   (∀w':World,w'.heap=w.heap->(Builtin.firstCells u.size len (.slice base len cap)).run P w'= .ok old w')->cap<len+l2.length->(l++l2).length<4294967296->K (.own fresh) (H1.set fresh (.row true τ (l++l2)))=some r ->
   z8 P A0 μ H w (Builtin.append_ #[t1,t2] type #[.slice base len cap,x]) K r:=by
  intro base len cap old l vs H1 T1 S1 F1 hlen hrows hold hg hroom hk;subst hlen;rw [zBz] at hroom;obtain ⟨newCap,hcap,hrun⟩:=D.grows hold hg hroom;have hj:=hrows.append (D.rows.mono T1.repT);have el:(l++l2).length=l.length+l2.length:=zBz;rw [<-el] at hcap hrun;obtain ⟨T2,S2,hrep⟩:=zlN (t:=e) (newCap:=newCap) (rest:=Builtin.zeroCells (xA u).cells (newCap-(l++l2).length)) S1 F1 hj hcap (by
   rw [Array.size_append,hj.size,hrest,<-zBV];congr 1;omega) (w1:=w.drew) rfl (yv.drew w)
  exact ⟨_,_,_,_,_,hrun,T1.trans T2,S2,hrep,hk⟩
 unfold zmx at h;split at h
 .-- nothing
  simp only [Dec.cps] at h;cases hrm:vQ l2 with
  | none=>simp [hrm] at h
  | some l' =>
   simp only [hrm,zBk] at h;obtain ⟨rfl,hlt⟩:=zmc hrm;cases hb:Nat.blt fresh H.length with
   | false=>simp [hb] at h
   | true =>
    simp only [hb,zI] at h;cases hp with
    | nils a =>
     by_cases hz:l'.length=0
     .have hnil:=zB7 hz;have T:=z3.fresh (A0:=A0) (μ:=μ) (w':=w) fresh (.none a) (.row true τ l') F.free F.lt (yv.refl w) (fun _ _=>rfl) (fun b o n c h=>by cases h);refine ⟨_,_,_,w,_,D.none_ hz,T,S.fresh fresh (.none a) _ F.free F.lt (yv.refl w) (fun _ _=>rfl) (fun b o n c h=>by cases h) F.A0 (.inr ⟨hnil,a,rfl⟩),?_,h⟩;exact .own0 fresh a _ (by unfold Us;rw [yr _ _ _ F.lt];rfl) (vv _ _ _)
     .refine grow (l:=[]) (old:= #[]) (vs:=fun _=>undef) (z3.refl _ _ _ _) S F rfl ⟨by simp,fun i hi=>by simp at hi,fun i hi=>by simp at hi⟩ (fun w' _=>?_) (by simp;omega) (by simpa using hlt) (by simpa using h);cases a<;>simp [Builtin.firstCells,loadCells,loadCellsFrom]
 .-- a row of the call's own
  rename_i id;simp only [Dec.cps] at h;cases hB:zn H id with
  | row wr e' l =>
   rw [hB] at h;cases wr with
   | false=>simp [Dec.cps] at h
   | true =>
   simp only at h;split at h;rotate_left
   .simp [Dec.cps] at h
   rename_i l0 hcast;obtain ⟨he,rfl⟩:=wz hcast;injection he with he;have he:=he.symm;subst he;simp only [Dec.cps] at h;cases hrm:vQ (l++l2) with
   | none=>simp [hrm] at h
   | some l' =>
    simp only [hrm,zBk] at h;obtain ⟨rfl,hlt⟩:=zmc hrm;cases hb:Nat.blt id H.length with
    | false=>simp [hb] at h
    | true =>
    simp only [hb,zI] at h;cases hb2:Nat.blt fresh (H.set id .dead).length with
    | false=>simp only [hb2,yg] at h;cases h
    | true =>
    simp only [hb2,zI] at h;have hlive:xu (zn H id)=true:=by rw [hB];rfl
    have hU:Us H id:=yA (yN hlive);have hne:id≠fresh:=fun e'=>by subst e';rw [F.free] at hB;cases hB
    have ok:=S.ok id;rw [hB] at ok;have T1:z3 A0 μ H w μ (H.set id .dead) w:=z3.drop id .dead hU rfl rfl;have S1:z9 A0 μ (H.set id .dead) w:=S.drop id .dead hU rfl rfl (fun h=>by cases h) (fun h=>by cases h) trivial;have F1:Zv (H.set id .dead) fresh A0 w:=F.trans T1 (by rw [ya H _ hne];exact F.free);cases hp with
    | own id b off len cap hU' hμ =>
     rw [hμ] at ok;rcases ok with ⟨b',off',cap',c,vs,hl,hbox,g1,g2,g3,g4⟩ | ⟨_,a,hl⟩;rotate_left
     .cases hl
     injection hl with e1 e2 e3 e4;subst e1 e2 e3 e4;by_cases hroom:l.length+l2.length<=cap
     .-- there is vQ
      obtain ⟨t',f,hh,hf⟩:=hbox;obtain rfl:=hf rfl;have hnew:new.size=l2.length*τ.size E:=D.rows.size;have hle:(l.length+l2.length)*τ.size E<=cap*τ.size E:=zCl _ hroom;rw [zBV] at hle;have hrun:=D.fits (off:=off) hroom hh (by rw [<-hsz,hnew];omega);rw [<-hsz] at hrun;generalize hc':(c.toList.take (off+l.length*τ.size E)++new.toList++c.toList.drop (off+l.length*τ.size E+new.size)).toArray=c' at hrun;have hmin:min (off+l.length*τ.size E) c.size=off+l.length*τ.size E:=by omega
      have hsz':c'.size=c.size:=by subst hc';simp;omega
      have hlow:∀k,k<off+l.length*τ.size E->c'[k]? =c[k]? :=fun k hk=>by
       subst hc';simp only [zCS,zBu];rw [zBM (by simp;omega),zCp,zb hk,zB1]
      have hhigh:∀k y,new[k]? =some y->c'[off+l.length*τ.size E+k]? =some y:=fun k y hk=>by
       subst hc';have hk':=(zBP.1 hk).1;simp only [zCS,zBu];rw [zBS (by simp;omega),zBM (by simp;omega)];simp only [zCq,zCk,hmin,Nat.add_sub_cancel_left,zB1];exact hk
      have hbk:∀k,k<w.heap.size->k≠b->(w.setRow b c').heap[k]? =w.heap[k]? :=fun k _ hk=>setRow_other _ _ _ _ hk;have T:=z3.move (A0:=A0) (w':=w.setRow b c') id fresh b off l.length cap off (l.length+l2.length) cap (.row true τ (l++l2)) hlive hμ F.free F.lt (yv.setRow w b c') hbk;refine ⟨_,_,_,_,_,hrun,T,S.move id fresh b off l.length cap off (l.length+l2.length) cap _ hlive hμ F.free F.lt (yv.setRow w b c') hbk ?_,?_,h⟩
      .refine .inl ⟨b,off,cap,c',fun i=>if i<l.length then vs i else vs2 (i-l.length),by simp,⟨t',(0,0),setRow_heap _ _ _ _ _ _ hh,fun _=>rfl⟩,by simpa using hroom,by rw [hsz'];exact g2,fun i hi j y hy=>?_,fun i hi=>?_⟩
       .by_cases hil:i<l.length
        .simp only [hil,if_true] at hy;have hj:j<τ.size E:=by
          rw [<-(g4 i hil).size];rcases zBR j (vs i).cells.size with h' | h'
          .exact h'
          .rw [zCT h'] at hy;cases hy
         have:(i+1)*τ.size E<=l.length*τ.size E:=zCl _ hil;rw [zBV] at this;rw [hlow _ (by omega)];exact g3 i hil j y hy
        .simp only [hil,if_false] at hy;have hi2:i-l.length<l2.length:=by simp at hi;omega
         have:=hhigh _ _ (D.rows.at_ (i-l.length) hi2 j y hy);have e1:i*τ.size E=l.length*τ.size E+(i-l.length)*τ.size E:=by rw [<-zBV];congr 1;omega
         rw [e1];simpa [zCy] using this
       .by_cases hil:i<l.length
        .simp only [hil,if_true];rw [List.getElem_append_left hil];exact T.repT (g4 i hil)
        .simp only [hil,if_false];have hi2:i-l.length<l2.length:=by simp at hi;omega
         rw [List.getElem_append_right (by omega)];exact T.repT (D.rows.rep _ hi2)
      .exact .own fresh _ _ _ _ (by unfold Us;rw [yr _ _ _ (by simpa using F.lt)];rfl) (vv _ _ _)
     .-- it grows
      have hrep:yz E w (Av A0 μ (H.set id .dead)) (.slice τ) (.slice (some ⟨b,off,none⟩) l.length cap) l:=by
       have hnb: ¬Av A0 μ (H.set id .dead) b:=by
        rintro (h0 | ⟨j,o',n',c',hj,hj'⟩)
        .exact (S.out id b off _ cap (xy hlive) hμ).1 h0.1
        .by_cases ej:j=id
         .subst ej;rw [yr H j _ (wu hU)] at hj;cases hj
         .rw [ya H _ (Ne.symm ej)] at hj;exact S.inj j id b o' n' c' b off _ cap ej hj (yN hlive) hj' hμ rfl
       have ok':xX w (Av A0 μ H) (Us H) μ (.blk b off l.length cap) (.row true τ l):= .inl ⟨b,off,cap,c,vs,rfl,hbox,g1,g2,g3,g4⟩;exact (zp1 ok' (fun k hk=>hk.elim .inl (fun h'=>by
        obtain ⟨j,o',n',c',hj,hj'⟩:=h';by_cases ej:id=j
        .subst ej;rw [yr H id _ (wu hU)] at hj;cases hj
        .rw [ya H _ ej] at hj;exact .inr ⟨j,o',n',c',hj,hj'⟩)) hnb).2
      obtain ⟨old,vs',hrows,hold⟩:=zaT (P:=P) hrep;rw [hsz] at hold;exact grow T1 S1 F1 rfl hrows hold (by omega) hlt h
    | own0 id a a2 hU' hμ =>
     rw [hμ] at ok;rcases ok with ⟨b',off',cap',c,vs,hl,_⟩ | ⟨rfl,_⟩
     .cases hl
     by_cases hz:l2.length=0
     .have hnil:=zB7 hz;subst hnil;have T:=z3.fresh (A0:=A0) (μ:=μ) (H:=H.set id .dead) (w':=w) fresh (.none a) (.row true τ ([]++[])) F1.free F1.lt (yv.refl w) (fun _ _=>rfl) (fun b o n c h=>by cases h);refine ⟨_,_,_,w,_,D.none_ hz,T1.trans T,S1.fresh fresh (.none a) _ F1.free F1.lt (yv.refl w) (fun _ _=>rfl) (fun b o n c h=>by cases h) F1.A0 (.inr ⟨rfl,a,rfl⟩),?_,h⟩;exact .own0 fresh a _ (by unfold Us;rw [yr _ _ _ F1.lt];rfl) (vv _ _ _)
     .refine grow (l:=[]) (old:= #[]) (vs:=fun _=>undef) T1 S1 F1 rfl ⟨by simp,fun i hi=>by simp at hi,fun i hi=>by simp at hi⟩ (fun w' _=>?_) (by simp;omega) hlt h;cases a<;>simp [Builtin.firstCells,loadCells,loadCellsFrom]
  | _=>rw [hB] at h;simp [Dec.cps] at h
 .-- a slice that has no vQ
  rename_i e' l;split at h;rotate_left
  .simp [Dec.cps] at h
  rename_i l0 hcast;obtain ⟨he,rfl⟩:=wz hcast;injection he with he;have he:=he.symm;subst he;split at h
  .simp [Dec.cps] at h
  rename_i y ys;simp only [Dec.cps] at h;cases hrm:vQ (l++y::ys) with
  | none=>simp [hrm] at h
  | some l' =>
   simp only [hrm,zBk] at h;obtain ⟨rfl,hlt⟩:=zmc hrm;cases hb:Nat.blt fresh H.length with
   | false=>simp [hb] at h
   | true =>
    simp only [hb,zI] at h;cases hp with
    | full e'' l a hv =>
     obtain ⟨old,vs',hrows,hold⟩:=zaT (P:=P) hv;rw [hsz] at hold;exact grow (z3.refl _ _ _ _) S F rfl hrows hold (by simp) hlt h
 .simp [Dec.cps] at h
theorem ztB (n:Nat) (i:Nat) (hi:i<(E.leaves n).length):((E.leaves n)[i]).leaf=true:=by
 have:=zBL.1 (E.lf n) _ (zBU hi);unfold Ty.leaf;split<;>simp_all
theorem yz.one {A:Nat->Prop}{τ:Ty}{v:Value}{x:Den E.T τ}(h:yz E w A τ v x) (hn:∀n e,τ≠ .arr n e):∀u∈v.cells.toList,u.oneCell'=true:=by
 have leaf:∀ {τ:Ty}{v:Value}{x:Den E.T τ},yz E w A τ v x->τ.leaf=true->v.oneCell'=true:=fun h hl=>zgT (.v _ _ _ h:yc E w A (fun _=>False) (fun _=>.none none) _ _) hl;cases h with
 | named n cs x hs h =>
  intro u hu;obtain ⟨j,hj,rfl⟩:=zCB hu;have hj':j<(E.leaves n).length:=by rw [<-hs];simpa [Value.cells] using hj
  have:=leaf (h j hj') (ztB n j hj');simpa [Array.getD,hs,hj',Value.cells] using this
 | arr n e cs l vs h1 h2 h3 h4=>exact zk rfl (hn n e)
 | bool b=>intro u hu;simp [Value.cells] at hu;subst hu;rfl
 | int k x=>intro u hu;simp [Value.cells] at hu;subst hu;rfl
 | str s=>intro u hu;simp [Value.cells] at hu;subst hu;rfl
 | nil e a c=>intro u hu;simp [Value.cells] at hu;subst hu;rfl
 | slice e b off cap l vs h1 h2 h3 h4 h5=>intro u hu;simp [Value.cells] at hu;subst hu;rfl
theorem Zo.one {A:Nat->Prop}{e:Ty}{l:List (Den E.T e)}{cells:Array Value}{vs:Nat->Value}(h:Zo w A e l cells vs) (hn:∀n e',e≠ .arr n e'):∀u∈cells.toList,u.oneCell'=true:=by
 intro u hu;obtain ⟨j,hj,rfl⟩:=zCB hu;have hj:j<l.length*e.size E:=by rw [<-h.size];simpa using hj
 have hpos:0<e.size E:=by
  rcases Nat.eq_zero_or_pos (e.size E) with h0 | h0
  .rw [h0] at hj;simp at hj
  .exact h0
 have hi:j/e.size E<l.length:=(Nat.div_lt_iff_lt_mul hpos).2 hj;have hs:=(h.rep _ hi).size;have hjm:j%e.size E<(vs (j/e.size E)).cells.size:=by rw [hs];exact Nat.mod_lt _ hpos
 have:=h.at_ _ hi (j%e.size E) _ (zCr hjm);rw [Nat.div_add_mod' j (e.size E)] at this;obtain ⟨h1,h2⟩:=zBP.1 this;rw [Array.getElem_toList,h2];exact (h.rep _ hi).one hn _ (by simp)
theorem zwX (hT:yX E.leaves P tab=true) {t:Nat}{u:TI}(hu:look tab t=some u) (n:Nat):∀v∈(Builtin.zeroCells (xA u).cells n).toList,v.oneCell'=true:=by
 intro v hv;have hz:=zbj hT hu;simp only [Builtin.zeroCells,Array.toList_map,zBB] at hv;obtain ⟨j,hj,rfl⟩:=hv;have hj':j<n*(xA u).cells.size:=by simpa using hj
 have hpos:0<(xA u).cells.size:=by
  rcases Nat.eq_zero_or_pos (xA u).cells.size with h0 | h0
  .rw [h0] at hj';simp at hj'
  .exact h0
 have hlt:=Nat.mod_lt j hpos;rw [getElem!_pos (xA u).cells _ hlt];have hm:(xA u).cells[j%(xA u).cells.size]∈(xA u).cells.toList:=by simp
 rw [hz,zBB] at hm;obtain ⟨z,_,hz⟩:=hm;rw [<-hz];cases z<;>rfl
theorem zrG (hT:yX E.leaves P tab=true) {t1 t2:Nat}{i j:TI}{type:TypeId}{e:Ty}(hi:look tab t1=some i) (hj:look tab t2=some j) (hty:i.ty=some (.slice e)) (hsl:j.sl=true) {fresh:Nat}{p x:zj E}{v xv:Value}
  (S:z9 A0 μ H w) (F:Zv H fresh A0 w) (hp:Rp E A0 μ H w p v) (hx:Rp E A0 μ H w x xv)
  (h:(zqP e fresh p x).cps H K=some r):z8 P A0 μ H w (Builtin.append_ #[t1,t2] type #[v,xv]) K r:=by
 obtain ⟨u,hu,hut,hs0,hd,hna⟩:=Up hT hi hty;have hd2:=zj2 hT hj hsl;have hsz:=ul hT e hu hut;unfold zqP at h;obtain ⟨l2,H0,T0,S0,hl2,hfr,h⟩:=zby S hx h;obtain ⟨a2,c2,rfl⟩:=zqe hl2;obtain ⟨new,vs2,hrows,hnew⟩:=zaT (P:=P) hl2;rw [hsz] at hnew;have F0:Zv H0 fresh A0 w:=F.trans T0 (hfr _ F.free);have hnone:∀ {base:Option Addr},l2.length=0->(Builtin.append_ #[t1,t2] type #[.slice base 0 0,.slice a2 l2.length c2]).run P w= .ok (.slice base 0 0) w:=by
  intro base h0;have hnil:=zB7 h0;subst hnil;have hn0:=hnew w rfl;have hnew0:new= #[]:=by have:=hrows.size;simpa using this
  subst hnew0;simp only [zB4] at hn0;cases base<;>simp [Builtin.append_,run_underlying hd,run_underlying hd2,xk hT hu,Builtin.lenOf,hn0,storeCells]
 have D:Apd P E A0 μ H0 w t1 t2 i.elem u type e l2 (.slice a2 l2.length c2) new vs2 :=
  {rows:=hrows,one:=hrows.one hna,
   grows:=fun hold hg hb=>zn2 hT hd hu hd2 (by simp [Builtin.lenOf]) hold hnew hg hb,
   fits:=fun hg hh hfit=>zn3 hT hd hu hd2 (by simp [Builtin.lenOf]) (hnew w rfl) hg hh hfit (hrows.one hna),
   none_:=hnone}
 obtain ⟨p',H',v',w',μ',h1,h2,h3,h4,h5⟩:=zkP hT hu hut hs0 S0 F0 (T0.rep hp) D h;exact ⟨p',H',v',w',μ',h1,T0.trans h2,h3,h4,h5⟩
theorem ztV {n:Int}{k:Nat}(h:zeO n=some k):0<k/\k<4294967296/\n=(k:Int):=by
 rw [zo9] at h;cases hd:(decide (0<n)&&decide (n<4294967296)) with
 | false=>simp [hd] at h
 | true =>
  simp only [hd,zI] at h;simp only [zBl,decide_eq_true_eq] at hd;injection h with h;omega
theorem zqG (hT:yX E.leaves P tab=true) {t1 t2:Nat}{i j:TI}{type:TypeId}{e:Ty}(hi:look tab t1=some i) (hj:look tab t2=some j) (hty:i.ty=some (.slice e)) (hj2:UT j (.int .i64)=true) {fresh:Nat}{p x:zj E}{v xv:Value}
  (S:z9 A0 μ H w) (F:Zv H fresh A0 w) (hp:Rp E A0 μ H w p v) (hx:Rp E A0 μ H w x xv)
  (h:(znZ e fresh p x).cps H K=some r):z8 P A0 μ H w (Builtin.append_ #[t1,t2] type #[v,xv]) K r:=by
 obtain ⟨u,hu,hut,hs0,hd,hna⟩:=Up hT hi hty;have hd2:P.underlying t2=some (.int .i64):=by
  obtain ⟨d,g1,g2⟩:=Yv hT hj;have hj2:=YP hj2;cases d<;>simp_all [uk]
 unfold znZ at h;split at h;rotate_left
 .simp [Dec.cps] at h
 rename_i z n hz;simp only [Dec.cps] at h;cases hc:zeO n with
 | none=>simp [hc] at h
 | some k =>
  simp only [hc,zBk] at h;obtain ⟨hk0,hk1,rfl⟩:=ztV hc;cases hx with
  | v τ x xv hx =>
   have hxv:xv= .int .i64 (k:Int):=by cases hx;rfl
   subst hxv;have hrows:=zsf (w:=w) (A:=Av A0 μ H) hT hu hut hz k;have hone:=zwX hT hu k;have hlen:(List.replicate k z).length=k:=zB8;have D:Apd P E A0 μ H w t1 t2 i.elem u type e (List.replicate k z) (.int .i64 (k:Int)) _ _ :=
    {rows:=hrows,one:=hone,
     grows:=fun hold hg hb=>by rw [hlen] at hg hb ⊢;exact zmF hT hd hu hd2 hold hg hb hs0 (by omega),
     fits:=fun hg hh hfit=>by rw [hlen] at hg ⊢;exact zmI hT hd hu hd2 hg (by omega) hs0 hk1 hh hfit hone,
     none_:=fun h0=>by rw [hlen] at h0;omega}
   split at h
   .simp [Dec.cps] at h
   .exact zkP hT hu hut hs0 S F hp D h
end
end Go.Pe
namespace Go.Pe
variable {E:yG}
section
variable {P:Program}{tab:List (Nat×TI)}{A0:Nat->Prop}{μ:Nat->Loc}{H:List (Blk E)}{w:World}{R:Type}{K:zj E->List (Blk E)->Option R}{r:R}
theorem zu3 {n:Int}{k:Nat}(h:U5 n=some k):k<4294967296/\n=(k:Int):=by
 rw [zro] at h;cases hd:(decide (0<=n)&&decide (n<4294967296)) with
 | false=>simp [hd] at h
 | true =>
  simp only [hd,zI] at h;simp only [zBl,decide_eq_true_eq] at hd;injection h with h;omega
theorem zns (hT:yX E.leaves P tab=true) {t:Nat}{i:TI}{e:Ty}(hi:look tab t=some i) (hty:i.ty=some (.slice e)) {fresh:Nat}{p c:zj E}{v cv:Value}
  (S:z9 A0 μ H w) (F:Zv H fresh A0 w) (hp:Rp E A0 μ H w p v) (hc:Rp E A0 μ H w c cv) (h:(zjU e fresh p c).cps H K=some r):z8 P A0 μ H w (Instr.makeSlice t v cv) K r:=by
 obtain ⟨u,hu,hut,hs0,hd,hna⟩:=Up hT hi hty;have hsz:=ul hT e hu hut;have hby:=zkt hT hu;obtain ⟨f,hf,hf1,hf2,hf3⟩:=zdK hT hu;unfold zjU at h;split at h;rotate_left
 .simp [Dec.cps] at h
 rename_i n m;split at h;rotate_left
 .simp [Dec.cps] at h
 rename_i z hz;simp only [Dec.cps] at h;cases hnm:decide (n=m) with
 | false=>simp [hnm] at h
 | true =>
  simp only [hnm,zI] at h;have hnm:n=m:=by simpa using hnm
  subst hnm;cases hk:U5 n with
  | none=>simp [hk] at h
  | some k =>
   simp only [hk,zBk] at h;obtain ⟨hk1,rfl⟩:=zu3 hk;cases hb:Nat.blt fresh H.length with
   | false=>simp [hb] at h
   | true =>
    simp only [hb,zI] at h;have hv:v= .int .i64 (k:Int):=by cases hp with | v _ _ _ hp=>cases hp;rfl
    have hcv:cv= .int .i64 (k:Int):=by cases hc with | v _ _ _ hc=>cases hc;rfl
    subst hv hcv;have hrows:=zsf (w:=w) (A:=Av A0 μ H) hT hu hut hz k;have hzs:(xA u).cells.size=u.size:=by rw [<-hsz];exact (zrb (w:=w) (A:=Av A0 μ H) hT hu hut hz).size
    obtain ⟨T,S',hrep⟩:=zlN (t:=i.elem) (newCap:=k) (rest:= #[]) S F hrows (by simp) (by simp [Builtin.zeroCells,hzs,hsz]) rfl (yv.refl w);refine ⟨_,_,_,_,_,?_,T,S',hrep,h⟩;have hw:IntKind.i64.wrap (k:Int)=k:=by
     have h1:(k:Int)%2 ^ 64=k:=by omega
     simp only [IntKind.wrap,IntKind.signed,IntKind.bits,h1];rw [zd (by simp;omega)]
    have h1: ¬((281474976710656:Int)<(f.bytes:Int)*k):=by
     rw [hf2];have h1:u.bytes*k<=4096*4294967296:=zCD hby (by omega);have:((u.bytes*k:Nat):Int)=(u.bytes:Int)*k:=by simp
     omega
    have h2: ¬((k:Int)<0):=by omega
    by_cases h0:k=0
    .subst h0;have hw0:IntKind.i64.wrap 0=0:=by decide
     simp [Instr.makeSlice,run_underlying hd,asInt,asIntOf,typeInfo,hf,hw0,sizeOf,hf1,newRow,Builtin.zeroCells];have hr0:Array.range 0= #[]:=Array.eq_empty_of_size_eq_zero (by simp);rw [hr0];simp
    .simp [Instr.makeSlice,run_underlying hd,asInt,asIntOf,typeInfo,hf,hw,h1,h2,sizeOf,hf1,newRow,h0,hs0,ZB hT hu,Builtin.zeroCells,hzs];intro h';exact zk h' (Nat.mul_ne_zero h0 hs0)
theorem zlk (off:Nat):∀(xs:List Value) (m:Nat) (cells:Array Value),off+m+xs.length<=cells.size ->
  ((xs.zipIdx m).foldl (fun cs x=>cs.setIfInBounds (off+x.2) x.1) cells).toList=Vx cells.toList (off+m) xs
 | [],m,cells,h=>by simp [Vx]
 | x::xs,m,cells,h=>by
  simp only [List.zipIdx_cons,zCs];rw [zlk off xs (m+1) (cells.setIfInBounds (off+m) x) (by simp at h ⊢;omega)];simp only [Array.toList_setIfInBounds,Vx,zBv];have hk:off+m<cells.toList.length:=by simp at h ⊢;omega
  have e1:(cells.toList.set (off+m) x).take (off+(m+1))=cells.toList.take (off+m)++[x]:=by
   rw [show off+(m+1)=off+m+1 by omega,List.take_succ_eq_append_getElem (by simpa using hk)];rw [List.take_set_of_le (by omega)];simp
  have e2:(cells.toList.set (off+m) x).drop (off+(m+1)+xs.length)=cells.toList.drop (off+m+(xs.length+1)):=by
   rw [List.drop_set_of_lt (by omega)];congr 1;omega
  rw [e1,e2];simp
theorem zkz {R:zj E->Value->Prop}{place:Nat->Option (Nat×Nat)}{place':Nat->Option (Nat×Nat)}(hpl:∀j x,place j=some x->place' j=some x) :
  ∀ {parts:List (Nat×zj E)}{partsV:List (Nat×Value)}{ps ps':List (zj E)}{cells:Array Value},parts.length=partsV.length ->
   (∀(j:Nat) p v,parts[j]? =some p->partsV[j]? =some v->p.1=v.1/\RL R (uU p.2) v.2.cells.toList)->RL R ps cells.toList->zhq place ps parts=some ps' ->
   ∃cells',Instr.fill place' cells partsV=some cells'/\RL R ps' cells'.toList
 | [],[],ps,ps',cells,_,_,hr,h=>by simp [zhq] at h;subst h;exact ⟨cells,rfl,hr⟩
 | [],_::_,_,_,_,hl,_,_,_=>by simp at hl
 | _::_,[],_,_,_,hl,_,_,_=>by simp at hl
 | (j,x)::parts,(j',v)::partsV,ps,ps',cells,hl,hp,hr,h=>by
  obtain ⟨hj,hx⟩:=hp 0 _ _ rfl rfl;simp only at hj hx;subst hj;simp only [zhq] at h;split at h
  .rename_i off n hpj;split at h
   .rename_i hc;simp only [zBl] at hc;have hn:=zBs hc.1;have hfit:=zB0 hc.2;have hvs:v.cells.size=n:=by have:=hx.1;rw [hn] at this;simpa using this.symm
    have hcs:ps.length=cells.size:=by have:=hr.1;simpa using this
    have hfold:(v.cells.zipIdx.foldl (fun cs (c,j)=>cs.setIfInBounds (off+j) c) cells).toList=Vx cells.toList off v.cells.toList:=by
     rw [<-Array.foldl_toList,Array.toList_zipIdx];have:=zlk off v.cells.toList 0 cells (by simp [hvs];omega);simpa using this
    obtain ⟨cells',h1,h2⟩:=zkz hpl (parts:=parts) (partsV:=partsV) (by simpa using hl) (fun k p u hk hu=>hp (k+1) p u (by simpa using hk) (by simpa using hu))
     (cells:=v.cells.zipIdx.foldl (fun cs (c,j)=>cs.setIfInBounds (off+j) c) cells) (by
      rw [hfold];unfold Vx;rw [<-hx.1];exact ((hr.take off).append hx).append (hr.drop _)) h
    refine ⟨cells',?_,h2⟩;simp only [Instr.fill,hpl j _ hpj];rw [zd (by simp [hvs];omega)];exact h1
   .cases h
  .cases h
theorem RL.parts {ρ:Operand->zj E}{ρv:Operand->Value}{parts:List (Nat×Operand)}(h:∀x,Rp E A0 μ H w (ρ x) (ρv x)) (hl:(parts.map fun p=>(p.1,ρ p.2)).all (fun p=>(uU p.2).all zj.leaf)=true) :
  ∀(j:Nat) p v,(parts.map fun p=>(p.1,ρ p.2))[j]? =some p->(parts.map fun p=>(p.1,ρv p.2))[j]? =some v->p.1=v.1/\RL (Rp E A0 μ H w) (uU p.2) v.2.cells.toList:=by
 intro j p v hp hv;simp only [zBQ,zBD] at hp hv;obtain ⟨a,ha,rfl⟩:=hp;obtain ⟨a',ha',rfl⟩:=hv;rw [ha] at ha';injection ha' with ha';subst ha';refine ⟨rfl,yc.cells (h a.2) ?_⟩;exact zBL.1 hl (a.1,ρ a.2) (zBB.2 ⟨a,zBq ha,rfl⟩)
theorem zox (fs:List Field) (h:∀f∈fs,P.cellsOf f.type≠0) (w:World):(fs.mapM fun f=>(do pure (f.offset,<-sizeOf f.type):Sem (Nat×Nat))).run P w= .ok (fs.map fun f=>(f.offset,P.cellsOf f.type)) w:=by
 induction fs with
 | nil=>simp
 | cons f fs ih =>
  simp only [List.mapM_cons,Sem.run_bind,zgU (h f (by simp)),Result.andThen_ok,Sem.run_pure,ih (fun g hg=>h g (by simp [hg]))];rfl
theorem ztl (hT:yX E.leaves P tab=true) {t:Nat}{u:TI}(hu:look tab t=some u):P.cellsOf t=u.size:=by
 obtain ⟨f,h1,h2,_⟩:=zdK hT hu;simp [Program.cellsOf,h1,h2]
theorem zr9 (hT:yX E.leaves P tab=true) {t:Nat}{i:TI}(hi:look tab t=some i) {ρ:Operand->zj E}{ρv:Operand->Value}{parts:List (Nat×Operand)}(S:z9 A0 μ H w) (hρ:∀x,Rp E A0 μ H w (ρ x) (ρv x))
  (h:(zsx tab i (parts.map fun p=>(p.1,ρ p.2))).cps H K=some r):z8 P A0 μ H w (Instr.build t (parts.map fun p=>(p.1,ρv p.2)).toArray) K r:=by
 unfold zsx at h;simp only at h;split at h;rotate_left
 .simp [Dec.cps] at h
 rename_i hleaf;simp only [zBl] at hleaf;obtain ⟨hagg,hleaf⟩:=hleaf;split at h;rotate_left
 .simp [Dec.cps] at h
 rename_i cs hcs;simp only [Dec.cps] at h;have hz:=zbj hT hi;have hz':(xA i).cells=(i.zero.map Z.toV).toArray:=by rw [<-hz]
 have hrz:RL (Rp E A0 μ H w) (i.zero.map Z.toP) ((i.zero.map Z.toV).toArray).toList:=by simpa using zsT i.zero
 obtain ⟨d,hd,hdb⟩:=Yv hT hi;cases d with
 | struct fs =>
  have hdb':=hdb;simp only [uk,zBl,decide_eq_true_eq] at hdb';obtain ⟨⟨⟨⟨_,h3⟩,h4⟩,h5⟩,_⟩:=hdb';have h4':∀f∈fs.toList,P.cellsOf f.type≠0:=fun f hf e=>by
   have:=zBL.1 h4 f hf;simp [e] at this
  have h5:i.alen=0:=by simpa using h5
  obtain ⟨cells',hf,hr⟩:=zkz (place':=fun j=>(fs.map fun f=>(f.offset,P.cellsOf f.type))[j]?) (fun j x hx=>by
   cases hj:i.fields[j]? with
   | none=>simp [hj,h5] at hx
   | some ft =>
    obtain ⟨off,t'⟩:=ft;simp only [hj,zBD] at hx;obtain ⟨u,hu,rfl⟩:=hx;rw [h3,zBQ,zBD] at hj;obtain ⟨f,hf,he⟩:=hj;simp only [Prod.mk.injEq] at he;obtain ⟨rfl,rfl⟩:=he;rw [Array.getElem?_map];rw [zB1] at hf;simp [hf,ztl hT hu]) (by simp) (RL.parts hρ hleaf) hrz hcs
  refine z8.same S (v:= .agg cells') ?_ (by simpa using yc.aggL hr) h;have hm:=zox (P:=P) fs.toList h4' w;simp only [Instr.build,Sem.run_bind,ZB hT hi,Result.andThen_ok,run_underlying hd,hz'];rw [Array.mapM_eq_mapM_toList];simp only [Sem.run_map,hm,Result.andThen_ok];have e:(List.map (fun f:Field=>(f.offset,P.cellsOf f.type)) fs.toList).toArray=fs.map fun f=>(f.offset,P.cellsOf f.type):=by
   apply Array.ext';simp
  rw [e,hf];rfl
 | array n e =>
  have hdb':=hdb;simp only [uk,zBl] at hdb';obtain ⟨⟨⟨⟨⟨_,h3⟩,h4⟩,h5⟩,h6⟩,_⟩:=hdb';have h3:=zBs h3;have h4:=zBs h4;subst h3 h4;have h5:i.fields=[]:=by simpa using h5
  cases hu:look tab i.elem with
  | none=>simp [hu] at h6
  | some u =>
   obtain ⟨cells',hf,hr⟩:=zkz (place':=fun j=>some (j*u.size,u.size)) (fun j x hx=>by
    simp only [h5,hu] at hx;simp at hx;obtain ⟨_,rfl⟩:=hx;rfl) (by simp) (RL.parts hρ hleaf) hrz hcs
   refine z8.same S (v:= .agg cells') ?_ (by simpa using yc.aggL hr) h;simp only [Instr.build,Sem.run_bind,ZB hT hi,Result.andThen_ok,run_underlying hd,xk hT hu,hz'];rw [hf];rfl
 | _ =>
  exfalso;have ha:i.agg=false:=by simp only [uk,zBl,zBC] at hdb;first | exact hdb.1 | exact hdb.1.1 | exact hdb.1.1.1 | exact hdb.1.1.1.1 | cases hdb
  rw [ha] at hagg;cases hagg
end
end Go.Pe
namespace Go.Pe
variable {E:yG}
section
variable {P:Program}{tab:List (Nat×TI)}{A0:Nat->Prop}{μ:Nat->Loc}{H:List (Blk E)}{w:World}{R:Type}{K:zj E->List (Blk E)->Option R}{r:R}
theorem zjZ {p:zj E}{v:Value}{cs:List (zj E)}(hp:Rp E A0 μ H w p v) (h:zlB p=some cs):∃vs,v= .agg vs/\RL (Rp E A0 μ H w) cs vs.toList:=by
 cases hp with
 | agg ps vs hs hr=>simp [zlB] at h;subst h;exact ⟨vs,rfl,RL.of_idx hs hr⟩
 | v τ x v hv =>
  cases hv with
  | named n vs x hs hr =>
   simp [zlB] at h;subst h;refine ⟨vs,rfl,?_⟩;have:=yc.cells (U:=Us H) (μ:=μ) (yc.v (E:=E) (w:=w) (A:=Av A0 μ H) (.named n) x (.agg vs) (.named n vs x hs hr)) (by
    refine zBL.2 fun p hp=>?_;obtain ⟨j,hj,rfl⟩:=zCB hp;have hlen:=HL.toP_len (E:=E) (E.leaves n) (E.unpack n x);have hj':j<(E.leaves n).length:=by rw [<-hlen];exact hj
    have:=HL.toP_get (E.leaves n) (E.unpack n x) j hj';obtain ⟨_,e⟩:=zBt.1 this;simp only [uU] at hj ⊢;rw [e];exact ztB n j hj')
   exact this
  | _=>simp [zlB] at h
 | _=>simp [zlB] at h
theorem ztA (hT:yX E.leaves P tab=true) {t:Nat}{s:TI}(hs:look tab t=some s) {p:zj E}{v:Value}{f:Nat}(S:z9 A0 μ H w) (hp:Rp E A0 μ H w p v)
  (h:(zs8 tab s p f).cps H K=some r):z8 P A0 μ H w (Instr.field t v f) K r:=by
 unfold zs8 at h;split at h;rotate_left
 .simp [Dec.cps] at h
 rename_i off t' hf;split at h;rotate_left
 .simp [Dec.cps] at h
 rename_i i hi;split at h;rotate_left
 .simp [Dec.cps] at h
 rename_i cs hcs;obtain ⟨fs,fld,h1,h2,h3,h4,h5⟩:=zsG hT hs hf;subst h3 h4;obtain ⟨vs,rfl,hr⟩:=zjZ hp hcs;obtain ⟨hl,q,hq,hk⟩:=zf0 h (zcL hr fld.offset i.size);refine z8.same S ?_ hq hk;have hsub:Pe.sub vs.toList fld.offset i.size=(vs.extract fld.offset (fld.offset+i.size)).toList:=by
  simp [Pe.sub,List.extract_eq_take_drop]
 simp only [Instr.field,Sem.run_bind,run_underlying h1,Result.andThen_ok,h2,asAgg,Sem.run_pure,part,zcD hT hi,xk hT hi];cases ha:i.agg with
 | true =>
  have hsub':vs.extract fld.offset (fld.offset+i.size)=(Pe.sub vs.toList fld.offset i.size).toArray:=by rw [hsub]
  simp only [if_true,Sem.run_bind,xk hT hi,Result.andThen_ok,Sem.run_pure,hsub']
 | false =>
  have h1:=zc8 hT hi ha;rw [h1] at hl;simp only [zBT,if_false];have hlt:fld.offset<vs.size:=by
   simp only [Pe.sub,h1,zCq,zCz,zCk] at hl;omega
  have e:(Pe.sub vs.toList fld.offset i.size).headD undef=vs[fld.offset]:=by
   simp only [Pe.sub,h1];rw [zCt (by simpa using hlt)];simp
  rw [e,zCr hlt];rfl
theorem zvn (hT:yX E.leaves P tab=true) {t:Nat}{i:TI}(hi:look tab t=some i) {type:TypeId}{at_:Array TypeId}{av:Array Value}(hat:at_[0]? =some t) {p:zj E}{v:Value}(hav:av[0]? =some v) (S:z9 A0 μ H w) (hp:Rp E A0 μ H w p v)
  (h:(zyx i p).cps H K=some r):z8 P A0 μ H w (Builtin.len_ at_ type av) K r:=by
 have fin:∀ {n:Nat}{base:Option Addr}{cap:Nat},P.underlying t=some (.slice i.elem)->v= .slice base n cap->K (.v (.int .i64) (n:Int)) H=some r->z8 P A0 μ H w (Builtin.len_ at_ type av) K r:=by
  intro n base cap hd hv hk;subst hv;refine z8.same S (v:= .int .i64 n) ?_ (.v _ _ _ (.int .i64 _)) hk;simp [Builtin.len_,hat,hav,run_underlying hd,goInt]
 unfold zyx at h;split at h
 .rename_i hsl;have hd:=zj2 hT hi hsl;split at h
  .cases hp with
   | v τ x v hv=>obtain ⟨a,c,rfl⟩:=zqe hv;exact fin hd rfl h
  .cases hp with
   | full e l a hv=>exact fin hd rfl h
  .cases hp with
   | nils a=>exact fin (n:=0) hd rfl h
  .cases hp with
   | bsl id n b hU hμ=>exact fin hd rfl h
  .rename_i id;simp only [Dec.cps] at h;have ok:=S.ok id;cases hB:zn H id with
   | row wr e l =>
    rw [hB] at h ok;cases hp with
    | own id b off len cap hU hμ =>
     rw [hμ] at ok;rcases ok with ⟨b',off',cap',c,vs,hl,_⟩ | ⟨_,a,hl⟩
     .injection hl with e1 e2 e3 e4;subst e1 e2 e3 e4;exact fin hd rfl h
     .cases hl
    | own0 id a a2 hU hμ =>
     rw [hμ] at ok;rcases ok with ⟨b',off',cap',c,vs,hl,_⟩ | ⟨rfl,_⟩
     .cases hl
     .exact fin (n:=0) hd rfl h
   | _=>rw [hB] at h;simp [Dec.cps] at h
  .simp [Dec.cps] at h
 .split at h;rotate_left
  .simp [Dec.cps] at h
  rename_i hty;have hd:P.underlying t=some .string:=by
   obtain ⟨d,g1,g2⟩:=Yv hT hi;have hty:=YP hty;cases d<;>simp_all [uk]
  split at h;rotate_left
  .simp [Dec.cps] at h
  cases hp with
  | v τ x v hv =>
   cases hv with
   | str s' =>
    refine z8.same S (v:= .int .i64 _) ?_ (.v _ _ _ (.int .i64 _)) h;simp [Builtin.len_,hat,hav,run_underlying hd,goInt]
end
end Go.Pe
namespace Go.Pe
variable {E:yG}
theorem wrap_i64 (n:Int):IntKind.i64.wrap n=w64 n:=by rw [IntKind.wrap_i64,zmq]
theorem wrap_i32 (n:Int):IntKind.i32.wrap n=w32 n:=by rw [IntKind.wrap_i32,zzG]
theorem wrap_u64 (n:Int):IntKind.u64.wrap n=((BitVec.ofInt 64 n).toNat:Int):=by
 rw [IntKind.wrap_u64,zB9];omega
theorem wrap_u8 (n:Int):IntKind.u8.wrap n=((BitVec.ofInt 8 n).toNat:Int):=by
 rw [IntKind.wrap_u8,zB9];omega
theorem WK (b:BitVec 64):BitVec.ofInt 64 (b.toNat:Int)=b:=by
 apply zCA;rw [zB9];have:=b.isLt;omega
theorem V1 (b:BitVec 64):IntKind.u64.wrap (b.toNat:Int)=(b.toNat:Int):=by rw [wrap_u64,WK]
section
variable {P:Program}{w:World}
theorem zzg {k:IntKind}{a b:z6 k}:(toZ k a=toZ k b)↔a=b:=by
 cases k<;>simp only [toZ]<;>first | rfl | (constructor<;>intro h<;>first | (subst h;rfl) | (apply zCA;omega))
theorem ztO {k:IntKind}(a b:z6 k):ieq k a b=decide (toZ k a=toZ k b):=by
 cases k<;>simp only [ieq,decide_eq_decide]<;>exact zzg.symm
theorem zqW {k:IntKind}{b:z6 k}(h:zjC k b=false):toZ k b≠0:=by
 intro e;rw [zjC,ztO,decide_eq_false_iff_not] at h;exact h (e.trans (by cases k<;>rfl))
theorem zys {k:IntKind}{a b c:z6 k}(h:zy1 k a b=some c):(Op.intArith .add k (toZ k a) (toZ k b)).run P w= .ok (.int k (toZ k c)) w:=by
 cases k<;>simp [zy1] at h<;>subst h<;>simp [Op.intArith,toZ]
 .exact wrap_i32 _
 .exact wrap_i64 _
 .rw [IntKind.wrap_u8]
 .rw [IntKind.wrap_u64]
theorem zyb {k:IntKind}{a b c:z6 k}(h:zyI k a b=some c):(Op.intArith .sub k (toZ k a) (toZ k b)).run P w= .ok (.int k (toZ k c)) w:=by
 cases k<;>simp [zyI] at h<;>subst h<;>simp [Op.intArith,toZ]
 .exact wrap_i32 _
 .exact wrap_i64 _
 .rw [IntKind.wrap_u64];have:=b.isLt;omega
theorem zyh {k:IntKind}{a b c:z6 k}(h:zy4 k a b=some c):(Op.intArith .mul k (toZ k a) (toZ k b)).run P w= .ok (.int k (toZ k c)) w:=by
 cases k<;>simp [zy4] at h<;>subst h<;>simp [Op.intArith,toZ]
 .exact wrap_i64 _
 .rw [IntKind.wrap_u64]
theorem zur (b:BitVec 8):IntKind.u8.wrap (b.toNat:Int)=(b.toNat:Int):=by rw [IntKind.wrap_u8];have:=b.isLt;omega
theorem zgl (b:BitVec 64):IntKind.i64.wrap (b.toNat:Int)=b.toInt:=by
 rw [IntKind.wrap_i64,BitVec.toInt];have:=b.isLt;split<;>omega
theorem zxT {k:IntKind}{a b c:z6 k}(hz:zjC k b=false) (h:zqi k a b=some c):(Op.intDiv .quo k (toZ k a) (toZ k b)).run P w= .ok (.int k (toZ k c)) w:=by
 have hz:=zqW hz;cases k with
 | i64 =>
  simp [zqi] at h;subst h;simp only [Op.intDiv,zd hz,Sem.run_pure];congr 2;exact wrap_i64 _
 | u64 =>
  simp [zqi] at h;subst h;simp only [Op.intDiv,zd hz,Sem.run_pure];congr 2;rw [show Int.tdiv (toZ .u64 a) (toZ .u64 b)=(((a/b:BitVec 64).toNat:Nat):Int) by simp [toZ,Int.ofNat_tdiv]];exact V1 _
 | u8 =>
  simp [zqi] at h;subst h;simp only [Op.intDiv,zd hz,Sem.run_pure];congr 2;rw [show Int.tdiv (toZ .u8 a) (toZ .u8 b)=(((a/b:BitVec 8).toNat:Nat):Int) by simp [toZ,Int.ofNat_tdiv]];exact zur _
 | _=>simp [zqi] at h
theorem zyP {k:IntKind}{a b c:z6 k}(hz:zjC k b=false) (h:zyE k a b=some c):(Op.intDiv .rem k (toZ k a) (toZ k b)).run P w= .ok (.int k (toZ k c)) w:=by
 have hz:=zqW hz;cases k<;>simp [zyE] at h<;>subst h<;>simp only [Op.intDiv,zd hz,Sem.run_pure]<;>congr 2
theorem zyC {k:IntKind}{a b c:z6 k}(h:zyX k a b=some c):(Op.intBits .and k (toZ k a) (toZ k b)).run P w= .ok (.int k (toZ k c)) w:=by
 cases k<;>simp [zyX] at h<;>subst h
 .simp only [Op.intBits,Sem.run_pure,toZ,IntKind.bits,zgl,zs2];rfl
 .simp only [Op.intBits,Sem.run_pure,toZ,IntKind.bits,WK,V1];rfl
theorem zzH {k:IntKind}{a b c:z6 k}(h:ior k a b=some c):(Op.intBits .or k (toZ k a) (toZ k b)).run P w= .ok (.int k (toZ k c)) w:=by
 cases k<;>simp [ior] at h<;>subst h
 .simp only [Op.intBits,Sem.run_pure,toZ,IntKind.bits,zgl,zzl];rfl
 .simp only [Op.intBits,Sem.run_pure,toZ,IntKind.bits,WK,V1];rfl
theorem zx8 {k:IntKind}{a b c:z6 k}(h:zyR k a b=some c):(Op.intBits .xor k (toZ k a) (toZ k b)).run P w= .ok (.int k (toZ k c)) w:=by
 cases k<;>simp [zyR] at h<;>subst h
 .simp only [Op.intBits,Sem.run_pure,toZ,IntKind.bits,zgl,zyt];rfl
 .simp only [Op.intBits,Sem.run_pure,toZ,IntKind.bits,WK,V1];rfl
theorem zuh {k:IntKind}{a b c:z6 k}(h:zqw k a b=some c):(Op.intBits .andNot k (toZ k a) (toZ k b)).run P w= .ok (.int k (toZ k c)) w:=by
 cases k<;>simp [zqw] at h<;>subst h
 .simp only [Op.intBits,Sem.run_pure,toZ,IntKind.bits,zgl,zug];rfl
 .simp only [Op.intBits,Sem.run_pure,toZ,IntKind.bits,WK,V1];rfl
theorem zxY {k yk:IntKind}{a c:z6 k}{n:Int}(hn:0<=n) (h:ztd k a (min n.toNat k.bits)=some c):(Op.shift .shl k (toZ k a) yk n).run P w= .ok (.int k (toZ k c)) w:=by
 cases k<;>simp [ztd] at h;subst h;rw [shift_shl_any _ _ _ _ hn];simp only [Sem.run_pure,toZ];congr 2;rw [IntKind.wrap_u64,BitVec.toNat_shiftLeft,Nat.shiftLeft_eq];rw [Int.natCast_emod,Int.natCast_mul,Int.natCast_pow];rfl
theorem zyN {k yk:IntKind}{a c:z6 k}{n:Int}(hn:0<=n) (h:zs0 k a (min n.toNat k.bits)=some c):(Op.shift .shr k (toZ k a) yk n).run P w= .ok (.int k (toZ k c)) w:=by
 cases k<;>simp [zs0] at h;subst h;rw [shift_shr_any _ _ _ _ hn];simp only [Sem.run_pure,toZ];congr 2;rw [BitVec.toNat_ushiftRight,Nat.shiftRight_eq_div_pow];rw [Int.natCast_ediv,Int.natCast_pow];rfl
theorem zw6 {k:IntKind}(a b:z6 k):ilt k a b=decide (toZ k a<toZ k b):=by
 cases k<;>simp only [ilt,decide_eq_decide,toZ]<;>first | rfl | (rw [BitVec.lt_def];omega)
theorem zxv {k:IntKind}(a b:z6 k):ile k a b=decide (toZ k a<=toZ k b):=by
 cases k<;>simp only [ile,decide_eq_decide,toZ]<;>first | rfl | (rw [BitVec.le_def];omega)
theorem zzN {k:IntKind}(a b:z6 k):(Op.intCmp .lss (toZ k a) (toZ k b)).run P w= .ok (.bool (ilt k a b)) w:=by simp [Op.intCmp,zw6]
theorem zze {k:IntKind}(a b:z6 k):(Op.intCmp .leq (toZ k a) (toZ k b)).run P w= .ok (.bool (ile k a b)) w:=by simp [Op.intCmp,zxv]
theorem zzA {k:IntKind}(a b:z6 k):(Op.intCmp .gtr (toZ k a) (toZ k b)).run P w= .ok (.bool (ilt k b a)) w:=by simp [Op.intCmp,zw6]
theorem zzq {k:IntKind}(a b:z6 k):(Op.intCmp .geq (toZ k a) (toZ k b)).run P w= .ok (.bool (ile k b a)) w:=by simp [Op.intCmp,zxv]
theorem zyK {k k':IntKind}{x:z6 k}{y:z6 k'}(h:zv7 k k' x=some y):k'.wrap (toZ k x)=toZ k' y:=by
 have hb8:∀x:BitVec 8,x.toNat<256:=fun x=>x.isLt;have hb64:∀x:BitVec 64,x.toNat<18446744073709551616:=fun x=>x.isLt;have e1:∀x:BitVec 8,IntKind.i64.wrap (x.toNat:Int)=(x.toNat:Int):=fun x=>by rw [IntKind.wrap_i64];have:=hb8 x;omega
 have e2:∀x:BitVec 8,IntKind.i32.wrap (x.toNat:Int)=(x.toNat:Int):=fun x=>by rw [IntKind.wrap_i32];have:=hb8 x;omega
 have e3:∀x:BitVec 8,IntKind.u8.wrap (x.toNat:Int)=(x.toNat:Int):=fun x=>by rw [IntKind.wrap_u8];have:=hb8 x;omega
 have e4:∀x:BitVec 8,IntKind.u64.wrap (x.toNat:Int)=((x.setWidth 64).toNat:Int):=fun x=>by
  rw [IntKind.wrap_u64,BitVec.toNat_setWidth];have:=hb8 x;omega
 have e5:∀x:BitVec 64,IntKind.i64.wrap (x.toNat:Int)=x.toInt:=fun x=>by
  rw [IntKind.wrap_i64,zCE];have:=hb64 x;split<;>omega
 cases k<;>cases k'<;>simp only [zv7,Option.some.injEq,reduceCtorEq] at h
 all_goals subst h
 .exact wrap_i32 _
 .exact wrap_i64 _
 .exact wrap_i32 _
 .exact wrap_i64 _
 .exact wrap_u8 _
 .exact wrap_u64 _
 .exact e2 _
 .exact e1 _
 .exact e3 _
 .exact e4 _
 .exact e5 _
 .exact V1 _
end
end Go.Pe
namespace Go.Pe
variable {E:yG}
section
variable {P:Program}{tab:List (Nat×TI)}{A0:Nat->Prop}{μ:Nat->Loc}{H:List (Blk E)}{w:World}{R:Type}{K:zj E->List (Blk E)->Option R}{r:R}
def ziW (i:TI) (vs:List Value):Value:=if i.agg then .agg vs.toArray else vs.headD undef
theorem zko (hT:yX E.leaves P tab=true) {t:Nat}{i:TI}(hi:look tab t=some i) (vs:List Value) (off:Nat) (hl:i.agg=false->sub vs off i.size≠[]) :
  (part t vs.toArray off).run P w= .ok (ziW i (sub vs off i.size)) w:=by
 simp only [part,Sem.run_bind,zcD hT hi,Result.andThen_ok];cases ha:i.agg with
 | true =>
  simp only [if_true,Sem.run_bind,xk hT hi,Result.andThen_ok,Sem.run_pure,ziW,ha];congr 2;simp [sub,List.extract_eq_take_drop]
 | false =>
  have h1:=zc8 hT hi ha;have hl:=hl ha;simp only [zBT,if_false,ziW,ha];have hlt:off<vs.length:=by
   by_cases h:off<vs.length
   .exact h
   .exact zk (by simp [sub,zCM (by omega:vs.length<=off)]) hl
  have e:(sub vs off i.size).headD undef=vs[off]:=by
   simp only [sub,h1];rw [zCt hlt];rfl
  rw [e];simp [hlt]
theorem zq2 {a:Option Bool}{l:List (Option Bool)}{b:Bool}(h:zfA (a::l)=some b):∃x y,a=some x/\zfA l=some y/\b=(x&&y):=by
 cases l with
 | nil =>
  simp only [zfA] at h;exact ⟨b,true,h,rfl,by simp⟩
 | cons c l =>
  simp only [zfA] at h;split at h
  .rename_i x y h2;exact ⟨x,y,rfl,h2,by simpa using h.symm⟩
  .cases h
theorem ztC (d:Nat) (xs ys:Array Value) (g:Nat×Nat->Option Bool):∀(fs:List Field) (b:Bool),(∀f∈fs,f.name ≠ "_") ->
  (∀f∈fs,∀c,g (f.offset,f.type)=some c->∃x y,(part f.type xs f.offset).run P w= .ok x w/\(part f.type ys f.offset).run P w= .ok y w/\(Op.equalIn d f.type x y).run P w= .ok c w) ->
  zfA ((fs.map fun f=>(f.offset,f.type)).map g)=some b->(Op.eqFields d xs ys fs).run P w= .ok b w:=by
 intro fs
 induction fs with
 | nil=>intro b _ _ h;simp [zfA] at h;subst h;simp [Op.eqFields]
 | cons f fs ih =>
  intro b hn hg h;obtain ⟨x,y,h1,h2,rfl⟩:=zq2 (by simpa using h);obtain ⟨u,v,e1,e2,e3⟩:=hg f (by simp) x h1;simp only [Op.eqFields,zb (hn f (by simp)),Sem.run_bind,e1,e2,e3,Result.andThen_ok];cases x with
  | true =>
   simp only [zB6,zBT,if_false,zCu];exact ih y (fun f hf=>hn f (by simp [hf])) (fun f hf=>hg f (by simp [hf])) (by simpa using h2)
  | false=>simp
theorem zpE (a b:ByteArray):(a.toList==b.toList)=decide (a=b):=by
 rw [ByteArray.toList_eq,ByteArray.toList_eq,Bool.eq_iff_iff];simp only [beq_iff_eq,decide_eq_true_eq];constructor
 .intro h;obtain ⟨⟨x⟩⟩:=a;obtain ⟨⟨y⟩⟩:=b;simp at h;subst h;rfl
 .rintro rfl;rfl
theorem zxq {t D:Nat}{x y z} (hf:P.underlying t=some (.func x y z)):(Op.equalIn (D+1) t .nilFunc .nilFunc).run P w= .ok true w:=by
 simp only [Op.equalIn,Sem.run_bind,run_underlying hf,Result.andThen_ok,Sem.run_pure]
theorem zw5 {t D:Nat}{x y z} (hf:P.underlying t=some (.func x y z)) (f:Fn) (a b:Array Value):(Op.equalIn (D+1) t .nilFunc (.func f a b)).run P w= .ok false w:=by
 simp only [Op.equalIn,Sem.run_bind,run_underlying hf,Result.andThen_ok,Sem.run_pure]
theorem zxk {t D:Nat}{x y z} (hf:P.underlying t=some (.func x y z)) (f:Fn) (a b:Array Value):(Op.equalIn (D+1) t (.func f a b) .nilFunc).run P w= .ok false w:=by
 simp only [Op.equalIn,Sem.run_bind,run_underlying hf,Result.andThen_ok,Sem.run_pure]
theorem zzI (hT:yX E.leaves P tab=true) {t:Nat}{i:TI}(hi:look tab t=some i) (h:i.ty=some .bool):P.underlying t=some .bool:=by
 obtain ⟨d,hd,h2⟩:=Yv hT hi;cases d<;>simp_all [uk]
theorem zwY (hT:yX E.leaves P tab=true) {t:Nat}{i:TI}(hi:look tab t=some i) (h:i.ty=some .str):P.underlying t=some .string:=by
 obtain ⟨d,hd,h2⟩:=Yv hT hi;cases d<;>simp_all [uk]
theorem zxG (hT:yX E.leaves P tab=true) {t:Nat}{i:TI}{k:IntKind}(hi:look tab t=some i) (h:i.ty=some (.int k)):P.underlying t=some (.int k):=by
 obtain ⟨d,hd,h2⟩:=Yv hT hi;cases d<;>simp_all [uk]
theorem zo6 (hT:yX E.leaves P tab=true) {t:Nat}{i:TI}(hi:look tab t=some i) (D:Nat) {p q:zj E}{u v:Value}{b:Bool}
  (hp:Rp E A0 μ H w p u) (hq:Rp E A0 μ H w q v) (h:zld i p q=some b):(Op.equalIn (D+1) t u v).run P w= .ok b w:=by
 unfold zld at h;split at h
 .split at h;rotate_left
  .cases h
  rename_i a b' hty;have hd:=zzI hT hi (YP hty);cases hp with | v _ _ _ hp=>cases hp with | bool _ =>
  cases hq with | v _ _ _ hq=>cases hq with | bool _ =>
  simp at h;subst h;rw [run_equalIn_bool' _ _ _ _ _ hd,Bool.beq_eq_decide_eq]
 .split at h;rotate_left
  .cases h
  rename_i k a k' b' hty;have hd:=zxG hT hi (YP hty);cases hp with | v _ _ _ hp=>cases hp with | int _ _ =>
  cases hq with | v _ _ _ hq=>cases hq with | int _ _ =>
  simp only [zBD] at h;obtain ⟨c,hc,rfl⟩:=h;obtain ⟨hk,hk2⟩:=wz hc;cases hk;have hk2:b'=c:=hk2;subst hk2;rw [run_equalIn_int _ _ _ _ _ _ _ hd,ztO];rfl
 .split at h;rotate_left
  .cases h
  rename_i a b' hty;have hd:=zwY hT hi (YP hty);cases hp with | v _ _ _ hp=>cases hp with | str _ =>
  cases hq with | v _ _ _ hq=>cases hq with | str _ =>
  simp at h;subst h;rw [run_equalIn_string _ _ _ _ _ hd,zpE]
 .split at h;rotate_left
  .cases h
  rename_i hk;obtain ⟨x,y,z,hf⟩:=zu8 hT hi hk;cases hp;cases hq;simp at h;subst h;exact zxq hf
 .split at h;rotate_left
  .cases h
  rename_i hk;obtain ⟨x,y,z,hf⟩:=zu8 hT hi hk;cases hp;cases hq;simp at h;subst h;exact zw5 hf _ _ _
 .split at h;rotate_left
  .cases h
  rename_i hk;obtain ⟨x,y,z,hf⟩:=zu8 hT hi hk;cases hp;cases hq;simp at h;subst h;exact zxk hf _ _ _
 .cases h
theorem zuc (d:Nat) (e c:Nat) (xs ys:Array Value) (g:Nat->Option Bool):∀(is:List Nat) (b:Bool),
  (∀j∈is,∀r,g j=some r->∃x y,(part e xs (j*c)).run P w= .ok x w/\(part e ys (j*c)).run P w= .ok y w/\(Op.equalIn d e x y).run P w= .ok r w) ->
  zfA (is.map g)=some b->(Op.eqItems d e c xs ys is).run P w= .ok b w:=by
 intro is
 induction is with
 | nil=>intro b _ h;simp [zfA] at h;subst h;simp [Op.eqItems]
 | cons j is ih =>
  intro b hg h;obtain ⟨x,y,h1,h2,rfl⟩:=zq2 (by simpa using h);obtain ⟨u,v,e1,e2,e3⟩:=hg j (by simp) x h1;have:=ih y (fun k hk=>hg k (zBr _ hk)) h2;simp only [Op.eqItems,Sem.run_bind,e1,e2,e3,Result.andThen_ok];cases x with
  | false=>simp
  | true=>simpa using this
theorem zzs (hT:yX E.leaves P tab=true):∀(d:Nat) {t:Nat}{i:TI}{ps qs:List (zj E)}{us vs:List Value}{b:Bool}(D:Nat),d<=D->look tab t=some i ->
  RL (Rp E A0 μ H w) ps us->RL (Rp E A0 μ H w) qs vs->eqT tab d i ps qs=some b ->
  (Op.equalIn D t (ziW i us) (ziW i vs)).run P w= .ok b w/\(i.agg=false->us≠[]/\vs≠[]):=by
 intro d
 induction d with
 | zero=>intro t i ps qs us vs b D _ _ _ _ h;simp [eqT] at h
 | succ d ih =>
  intro t i ps qs us vs b D hD hi hp hq h;obtain ⟨D,rfl⟩:∃D',D=D'+1:=⟨D-1,by omega⟩
  have hD:d<=D:=by omega
  simp only [eqT] at h;cases ha:i.agg with
  | true =>
   simp only [ha,if_true] at h;split at h;rotate_left
   .cases h
   rename_i hc;split at h;rotate_left
   .rename_i h0;have h0:i.alen≠0:=fun e=>h0 (by simp [e]);split at h;rotate_left
    .cases h
    rename_i u hu;refine ⟨?_,by simp⟩;have hd:=zln hT hi ha h0;obtain ⟨f,hf,hsz,_,_⟩:=zdK hT hu;have hc:P.cellsOf i.elem=u.size:=by simp [Program.cellsOf,hf,hsz]
    simp only [ziW,ha,if_true];rw [run_equalIn_array w D us.toArray vs.toArray hd hf,hc];refine zuc D i.elem u.size us.toArray vs.toArray _ _ b ?_ h;intro j _ c hjc;obtain ⟨k1,k2⟩:=ih D hD hu (zcL hp (j*u.size) u.size) (zcL hq (j*u.size) u.size) hjc;exact ⟨_,_,zko hT hu us (j*u.size) (fun h=>(k2 h).1),zko hT hu vs (j*u.size) (fun h=>(k2 h).2),k1⟩
   rename_i h0;have h0:=zBs h0;refine ⟨?_,by simp⟩;obtain ⟨dd,hd,h2⟩:=Yv hT hi;obtain ⟨g1,g2⟩:=zxt hT hi hc;cases dd with
   | struct fs =>
    simp only [uk,zBl,decide_eq_true_eq] at h2;obtain ⟨⟨⟨⟨_,h3⟩,h4⟩,_⟩,_⟩:=h2;obtain ⟨g3,g4⟩:=g2 fs hd;have hfo:P.fieldsOf t=fs:=by simp [Program.fieldsOf,hd]
    simp only [ziW,ha,if_true];rw [run_equalIn_struct w D t us.toArray vs.toArray (by rw [hfo];exact hd) g3,hfo];rw [h3] at h;refine ztC D us.toArray vs.toArray _ fs.toList b g4 ?_ h;intro f hf c hfc;simp only at hfc;split at hfc;rotate_left
    .cases hfc
    rename_i u hu;obtain ⟨k1,k2⟩:=ih D hD hu (zcL hp f.offset u.size) (zcL hq f.offset u.size) hfc;exact ⟨_,_,zko hT hu us f.offset (fun h=>(k2 h).1),zko hT hu vs f.offset (fun h=>(k2 h).2),k1⟩
   | array n e =>
    simp only [uk,zBl] at h2;have h5:i.alen=n:=zBs h2.1.1.1.1.2;have h6:i.size=0:=by
     have:=h2.1.2;split at this
     .simp only [zBl] at this;have:=zBs this.1;rw [this,<-h5,h0];simp
     .cases this
    have h7:i.fields=[]:=by simpa using h2.1.1.2
    rw [h7] at h;simp [zfA] at h;subst h;simp only [ziW,ha,if_true,Op.equalIn,Sem.run_bind,run_underlying hd,Result.andThen_ok];have h8:n=0:=by omega
    subst h8;have:∃u,look tab e=some u:=by
     have:=h2.1.2;split at this
     .rename_i u hu;exact ⟨u,hu⟩
     .cases this
    obtain ⟨u,hu⟩:=this;simp [xk hT hu]
   | _=>simp [uk,ha] at h2
  | false =>
   simp only [ha,zBT,if_false] at h;split at h;rotate_left
   .cases h
   rename_i p q;obtain ⟨u,rfl⟩:∃u,us=[u]:=by
    have:=hp.1
    match us,this with
    | [u],_=>exact ⟨u,rfl⟩
   obtain ⟨v,rfl⟩:∃v,vs=[v]:=by
    have:=hq.1
    match vs,this with
    | [v],_=>exact ⟨v,rfl⟩
   refine ⟨?_,by simp⟩;replace hp:=hp.2 0 p u rfl rfl;replace hq:=hq.2 0 q v rfl rfl;simp only [ziW,ha,zBT,if_false,List.headD_cons];exact zo6 hT hi D hp hq h
end
end Go.Pe
namespace Go.Pe
variable {E:yG}
section
variable {P:Program}{tab:List (Nat×TI)}{A0:Nat->Prop}{μ:Nat->Loc}{H:List (Blk E)}{w:World}{R:Type}{K:zj E->List (Blk E)->Option R}{r:R}
def zds (op:BinOp) (t:Nat) (x y:Operand) (u v:Value):Sem Value:=do eqGuard op t x y u v;binOp op t u v
def zsZ:Value->Prop
 | .nilIface=>False | .agg _=>False | _=>True
theorem zrJ (op:BinOp) (t:Nat) (x y:Operand) {u v:Value}(h:zsZ u):(eqGuard op t x y u v).run P w= .ok () w:=by
 cases u<;>first | exact zk h id | (cases op<;>rfl)
theorem yJ (op:BinOp) (t:Nat) (x y:Operand) {u v:Value}(h:zsZ u):(zds op t x y u v).run P w=(binOp op t u v).run P w:=by
 simp only [zds,Sem.run_bind,zrJ op t x y h,Result.andThen_ok]
theorem zzk {d:Nat}{i:TI}{a c:List (zj E)}{b:Bool}(ha:i.agg=true) (h:eqT tab (d+1) i a c=some b):i.cmp=true:=by
 simp only [eqT,ha,if_true] at h;split at h
 .assumption
 .cases h
theorem zuF {k yk:IntKind}{a c:z6 k}{n:Int}(t:Nat) (hn:0<=n) (h:ztd k a (min n.toNat k.bits)=some c):(binOp .shl t (.int k (toZ k a)) (.int yk n)).run P w= .ok (.int k (toZ k c)) w :=
 zxY (yk:=yk) hn h
theorem zuy {k yk:IntKind}{a c:z6 k}{n:Int}(t:Nat) (hn:0<=n) (h:zs0 k a (min n.toNat k.bits)=some c):(binOp .shr t (.int k (toZ k a)) (.int yk n)).run P w= .ok (.int k (toZ k c)) w :=
 zyN (yk:=yk) hn h
theorem zuM (hT:yX E.leaves P tab=true) {t:Nat}{i:TI}(hi:look tab t=some i) {p q:zj E}{u v:Value}{b:Bool}
  (hp:Rp E A0 μ H w p u) (hq:Rp E A0 μ H w q v) (h:eqD tab i p q=some b) (x y:Operand) :
  (zds .eql t x y u v).run P w= .ok (.bool b) w/\(zds .neq t x y u v).run P w= .ok (.bool !b) w:=by
 unfold eqD at h;split at h
 .rename_i ha;split at h
  .rename_i a c h1 h2;obtain ⟨us,rfl,hu⟩:=zjZ hp h1;obtain ⟨vs,rfl,hv⟩:=zjZ hq h2;have hc:i.cmp=true:=by
    exact zzk ha h
   obtain ⟨g1,_⟩:=zxt hT hi hc;obtain ⟨k,_⟩:=zzs hT 50 10000 (by omega) hi hu hv h;simp only [ziW,ha,if_true] at k;simp only [zds,Sem.run_bind,run_eqGuard_agg w _ t x y _ _ g1,Result.andThen_ok,run_eql_struct,run_neq_struct];rw [show (us.toList.toArray)=us from rfl,show (vs.toList.toArray)=vs from rfl] at k;rw [k];exact ⟨rfl,rfl⟩
  .cases h
 .have k:=zo6 hT hi 9999 hp hq h;unfold zld at h;split at h
  .split at h;rotate_left
   .cases h
   cases hp with | v _ _ _ hp=>cases hp with | bool _ =>
   cases hq with | v _ _ _ hq=>cases hq with | bool _ =>
   rw [yJ _ _ _ _ (by trivial),yJ _ _ _ _ (by trivial)];simp only [binOp,Sem.run_bind,Op.equal,Op.maxDepth,k,Result.andThen_ok,Sem.run_pure,and_self]
  .split at h;rotate_left
   .cases h
   rename_i k a k' b' hty;cases hp with | v _ _ _ hp=>cases hp with | int _ _ =>
   cases hq with | v _ _ _ hq=>cases hq with | int _ _ =>
   simp only [zBD] at h;obtain ⟨c,hc,rfl⟩:=h;obtain ⟨hk,hk2⟩:=wz hc;cases hk;have hk2:b'=c:=hk2;subst hk2;rw [yJ _ _ _ _ (by trivial),yJ _ _ _ _ (by trivial)];simp only [binOp,ne_eq,not_true_eq_false,if_false,Op.intCmp,Sem.run_pure,ztO];exact ⟨rfl,rfl⟩
  .split at h;rotate_left
   .cases h
   rename_i a b' hty;cases hp with | v _ _ _ hp=>cases hp with | str _ =>
   cases hq with | v _ _ _ hq=>cases hq with | str _ =>
   simp at h;subst h;rw [yJ _ _ _ _ (by trivial),yJ _ _ _ _ (by trivial)];simp only [binOp,Op.stringOp,Sem.run_pure,zpE,and_self]
  .split at h;rotate_left
   .cases h
   cases hp;cases hq;rw [yJ _ _ _ _ (by trivial),yJ _ _ _ _ (by trivial)];simp only [binOp,Sem.run_bind,Op.equal,Op.maxDepth,k,Result.andThen_ok,Sem.run_pure,and_self]
  .split at h;rotate_left
   .cases h
   cases hp;cases hq;rw [yJ _ _ _ _ (by trivial),yJ _ _ _ _ (by trivial)];simp only [binOp,Sem.run_bind,Op.equal,Op.maxDepth,k,Result.andThen_ok,Sem.run_pure,and_self]
  .split at h;rotate_left
   .cases h
   cases hp;cases hq;rw [yJ _ _ _ _ (by trivial),yJ _ _ _ _ (by trivial)];simp only [binOp,Sem.run_bind,Op.equal,Op.maxDepth,k,Result.andThen_ok,Sem.run_pure,and_self]
  .cases h
theorem XN {b:Bool}{s:Sem Value}(S:z9 A0 μ H w) (h:(WY (E:=E) b).cps H K=some r) (hs:s.run P w= .ok (.bool b) w):z8 P A0 μ H w s K r :=
 z8.same S hs (.v _ _ _ (.bool b)) h
theorem Zr {k:IntKind}{o:Option (z6 k)}{s:Sem Value}(S:z9 A0 μ H w) (h:(Y0 (E:=E) k o).cps H K=some r) (hs:∀x,o=some x->s.run P w= .ok (.int k (toZ k x)) w):z8 P A0 μ H w s K r:=by
 unfold Y0 at h;split at h
 .exact z8.same S (hs _ rfl) (.v _ _ _ (.int k _)) h
 .simp [Dec.cps] at h
theorem zmv {α:Type}{b:Bool}{d:Dec E α}{K:α->List (Blk E)->Option R}(h:(Dec.br b .fail d).cps H K=some r):b=false/\d.cps H K=some r:=by
 cases b
 .exact ⟨rfl,by simpa [Dec.cps] using h⟩
 .simp [Dec.cps] at h
theorem zzX {α:Type}{b:Bool}{d:Dec E α}{K:α->List (Blk E)->Option R}(h:(Dec.br b d .fail).cps H K=some r):b=true/\d.cps H K=some r:=by
 cases b
 .simp [Dec.cps] at h
 .exact ⟨rfl,by simpa [Dec.cps] using h⟩
theorem zvi (hT:yX E.leaves P tab=true) {t:Nat}{i:TI}(hi:look tab t=some i) {op:BinOp}{p q:zj E}{u v:Value}(x y:Operand) (S:z9 A0 μ H w)
  (hp:Rp E A0 μ H w p u) (hq:Rp E A0 μ H w q v) (h:(zyj tab i op p q).cps H K=some r):z8 P A0 μ H w (zds op t x y u v) K r:=by
 unfold zyj at h;split at h
 .split at h
  .rename_i b hb;exact XN S h (zuM hT hi hp hq hb x y).1
  .simp [Dec.cps] at h
 .split at h
  .rename_i b hb;exact XN S h (zuM hT hi hp hq hb x y).2
  .simp [Dec.cps] at h
 .split at h
  .cases hp with | v _ _ _ hp=>cases hp with | int k a =>
   cases hq with | v _ _ _ hq=>cases hq with | int k' n =>
   obtain ⟨hn,h⟩:=zmv h;refine Zr S h fun z hz=>?_;rw [yJ _ _ _ _ (by trivial)];exact zuF t (by simpa using hn) hz
  .cases hp with | v _ _ _ hp=>cases hp with | int k a =>
   cases hq with | v _ _ _ hq=>cases hq with | int k' n =>
   refine Zr S h fun z hz=>?_;rw [yJ _ _ _ _ (by trivial)];exact zuF t (Int.natCast_nonneg _) (by rw [zCh];exact hz)
  .simp [Dec.cps] at h
 .split at h
  .cases hp with | v _ _ _ hp=>cases hp with | int k a =>
   cases hq with | v _ _ _ hq=>cases hq with | int k' n =>
   obtain ⟨hn,h⟩:=zmv h;refine Zr S h fun z hz=>?_;rw [yJ _ _ _ _ (by trivial)];exact zuy t (by simpa using hn) hz
  .cases hp with | v _ _ _ hp=>cases hp with | int k a =>
   cases hq with | v _ _ _ hq=>cases hq with | int k' n =>
   refine Zr S h fun z hz=>?_;rw [yJ _ _ _ _ (by trivial)];exact zuy t (Int.natCast_nonneg _) (by rw [zCh];exact hz)
  .simp [Dec.cps] at h
 .split at h
  .split at h;rotate_left
   .simp [Dec.cps] at h
   rename_i k a k' b0 _ b hc;cases hp with | v _ _ _ hp=>cases hp with | int _ _ =>
   cases hq with | v _ _ _ hq=>cases hq with | int _ _ =>
   obtain ⟨hk,hk2⟩:=wz hc;cases hk;have hk2:b0=b:=hk2;subst hk2;have pl:zsZ (.int k (toZ k a)):=trivial;split at h
   .exact Zr S h fun z hz=>by rw [yJ _ _ _ _ pl];simpa [binOp] using zys hz
   .exact Zr S h fun z hz=>by rw [yJ _ _ _ _ pl];simpa [binOp] using zyb hz
   .exact Zr S h fun z hz=>by rw [yJ _ _ _ _ pl];simpa [binOp] using zyh hz
   .obtain ⟨hn,h⟩:=zmv h;exact Zr S h fun z hz=>by rw [yJ _ _ _ _ pl];simpa [binOp] using zxT hn hz
   .obtain ⟨hn,h⟩:=zmv h;exact Zr S h fun z hz=>by rw [yJ _ _ _ _ pl];simpa [binOp] using zyP hn hz
   .exact Zr S h fun z hz=>by rw [yJ _ _ _ _ pl];simpa [binOp] using zyC hz
   .exact Zr S h fun z hz=>by rw [yJ _ _ _ _ pl];simpa [binOp] using zzH hz
   .exact Zr S h fun z hz=>by rw [yJ _ _ _ _ pl];simpa [binOp] using zx8 hz
   .exact Zr S h fun z hz=>by rw [yJ _ _ _ _ pl];simpa [binOp] using zuh hz
   .exact XN S h (by rw [yJ _ _ _ _ pl];simpa [binOp] using zzN a b0)
   .exact XN S h (by rw [yJ _ _ _ _ pl];simpa [binOp] using zze a b0)
   .exact XN S h (by rw [yJ _ _ _ _ pl];simpa [binOp] using zzA a b0)
   .exact XN S h (by rw [yJ _ _ _ _ pl];simpa [binOp] using zzq a b0)
   .simp [Dec.cps] at h
  .split at h
   .rename_i a b _ _ _ _ _;cases hp with | v _ _ _ hp=>cases hp with | str _ =>
    cases hq with | v _ _ _ hq=>cases hq with | str _ =>
    obtain ⟨hn,h⟩:=zzX h;have hn:ByteArray.size a+ByteArray.size b<4294967296:=by simpa using hn
    refine z8.same S ?_ (.v _ _ _ (.str _)) h;rw [yJ _ _ _ _ (by trivial)];simp only [binOp];exact run_string_add_sum _ a b (by omega)
   .simp [Dec.cps] at h
  .simp [Dec.cps] at h
theorem zwR {op:UnOp}{p:zj E}{u:Value}(S:z9 A0 μ H w) (hp:Rp E A0 μ H w p u) (h:(unD op p).cps H K=some r):z8 P A0 μ H w (Op.unary op u) K r:=by
 unfold unD at h;split at h
 .cases hp with | v _ _ _ hp=>cases hp with | bool b =>
  exact XN S h (by simp [Op.unary])
 .cases hp with | v _ _ _ hp=>cases hp with | int k x =>
  refine z8.same S ?_ (.v _ _ _ (.int .u64 _)) h;simp only [Op.unary,Op.intArith,Sem.run_pure,toZ];congr 2;rename_i y _;have key:∀x:BitVec 64,IntKind.u64.wrap (0-(x.toNat:Int))=((0-x:BitVec 64).toNat:Int):=fun x=>by
   rw [IntKind.wrap_u64,BitVec.toNat_sub];have:=x.isLt;simp;omega
  exact key _
 .cases hp with | v _ _ _ hp=>cases hp with | int k x =>
  refine z8.same S ?_ (.v _ _ _ (.int .i64 _)) h;simp only [Op.unary,Op.intArith,Sem.run_pure,toZ];rw [wrap_i64]
 .cases hp with | v _ _ _ hp=>cases hp with | int k x =>
  refine z8.same S ?_ (.v _ _ _ (.int .u64 _)) h;simp only [Op.unary,Op.intBits,Sem.run_pure,toZ,IntKind.bits,WK];rw [V1];congr 4
 .simp [Dec.cps] at h
theorem ztS (hT:yX E.leaves P tab=true) {s d:Nat}{i j:TI}(hi:look tab d=some i) (hj:look tab s=some j) {p:zj E}{u:Value}(S:z9 A0 μ H w) (hp:Rp E A0 μ H w p u)
  (h:(zvZ i p).cps H K=some r):z8 P A0 μ H w (convert s d u) K r:=by
 obtain ⟨ds,h1,_⟩:=Yv hT hj;unfold zvZ at h;split at h
 .rename_i k x k' hty;cases hp with | v _ _ _ hp=>cases hp with | int _ _ =>
  have hd:=zxG hT hi hty;refine Zr S h fun z hz=>?_;simp only [convert,Sem.run_bind,run_underlying h1,run_underlying hd,Result.andThen_ok,Conv.intToInt,Sem.run_pure,zyK hz]
 .rename_i x hty;cases hp with | v _ _ _ hp=>cases hp with | str _ =>
  have hd:=zwY hT hi hty;refine z8.same S ?_ (.v _ _ _ (.str _)) h;simp only [convert,Sem.run_bind,run_underlying h1,run_underlying hd,Result.andThen_ok];cases ds<;>rfl
 .simp [Dec.cps] at h
theorem zyZ {k:IntKind}{a b c:z6 k}(h:znf k a b=some c):(Builtin.min2 (.int k (toZ k a)) (.int k (toZ k b))).run P w= .ok (.int k (toZ k c)) w:=by
 cases k<;>simp only [znf,Option.some.injEq,reduceCtorEq] at h<;>subst h<;>simp only [Builtin.min2,Sem.run_pure,toZ]
 .congr 2;cases hc:decide (b<a)<;>simp_all<;>omega
 .congr 2;cases hc:decide (b<a)<;>simp_all [BitVec.lt_def,BitVec.le_def]<;>omega
theorem zyV {k:IntKind}{a b c:z6 k}(h:znu k a b=some c):(Builtin.max2 (.int k (toZ k a)) (.int k (toZ k b))).run P w= .ok (.int k (toZ k c)) w:=by
 cases k<;>simp only [znu,Option.some.injEq,reduceCtorEq] at h<;>subst h<;>simp only [Builtin.max2,Sem.run_pure,toZ]
 .congr 2;cases hc:decide (a<b)<;>simp_all<;>omega
 .congr 2;cases hc:decide (a<b)<;>simp_all [BitVec.lt_def,BitVec.le_def]<;>omega
end
end Go.Pe
namespace Go.Pe
variable {E:yG}
section
variable {P:Program}{tab:List (Nat×TI)}{A0:Nat->Prop}{μ:Nat->Loc}{H:List (Blk E)}{w:World}{R:Type}{K:zj E->List (Blk E)->Option R}{r:R}
theorem zqf {α:Type}{a b:Nat}{x y:α}(h:a<b):(bif Nat.blt a b then x else y)=x:=by
 rw [show Nat.blt a b=true from Nat.ble_eq_true_of_le h];rfl
theorem zqx {w:World}{A U:Nat->Prop}{μ:Nat->Loc}{p:zj E}{v:Value}(h:yc E w A U μ p v) (hl:p.leaf=true):v.cells= #[v]:=by
 cases h with
 | v τ x v h=>exact h.leaf_cells hl
 | _=>first | rfl | (simp [zj.leaf] at hl)
theorem ztu (size:Nat):∀(parts:List (Nat×Value)) (m:Nat) (cells:Array Value),(∀p∈parts,p.2.cells.size=size)->parts.map (·.1)=List.range' m parts.length->cells.size=(m+parts.length)*size ->
  ∃cells',Instr.fill (fun i=>some (i*size,size)) cells parts=some cells'/\cells'.toList=cells.toList.take (m*size)++(parts.map (·.2)).flatMap fun v=>v.cells.toList
 | [],m,cells,_,_,hs=>⟨cells,rfl,by
   have:cells.toList.length=m*size:=by simpa using hs
   simp [zCV (Nat.le_of_eq this)]⟩
 | (j,v)::parts,m,cells,hp,hm,hs=>by
  simp only [zCo,zBv,List.range'_succ,List.cons.injEq] at hm;obtain ⟨rfl,hm⟩:=hm;have hv:v.cells.size=size:=hp _ (zBx ..);have hs':cells.size=j*size+size+parts.length*size:=by
   rw [hs];simp only [zBv,zBV,Nat.one_mul];omega
  have hfold:(v.cells.zipIdx.foldl (fun cs (c,k)=>cs.setIfInBounds (j*size+k) c) cells).toList=Vx cells.toList (j*size) v.cells.toList:=by
   rw [<-Array.foldl_toList,Array.toList_zipIdx];have:=zlk (j*size) v.cells.toList 0 cells (by simp [hv];omega);simpa using this
  have hlen:(v.cells.zipIdx.foldl (fun cs (c,k)=>cs.setIfInBounds (j*size+k) c) cells).size=cells.size:=by
   rw [<-zCk,hfold];simp [Vx,hv];omega
  obtain ⟨c',h1,h2⟩:=ztu size parts (j+1) _ (fun p h=>hp p (zBr _ h)) hm (by rw [hlen,hs'];simp only [zBV,Nat.one_mul]);refine ⟨c',?_,?_⟩
  .simp only [Instr.fill];rw [zd (by simp [hv];omega)];exact h1
  .rw [h2,hfold];simp only [Vx,zCo,zCa];have e:(j+1)*size=j*size+size:=by simp [zBV]
   have hl:(List.take (j*size) cells.toList).length=j*size:=by simp;omega
   rw [List.take_append_of_le_length (by simp [hv];omega)];rw [e,zCV (by simp [hv];omega)];simp
theorem zhZ {α:Type}{K:α->List (Blk E)->Option R}(e:Ty) (k:List (Den E.T e)->Dec E α):∀ {ps:List (zj E)}{acc:List (Den E.T e)}{vs:List Value}{H:List (Blk E)},z9 A0 μ H w->RL (Rp E A0 μ H w) ps vs ->
  (zeY e k ps acc).cps H K=some r->∃(xs:List (Den E.T e)) (H':List (Blk E)),z3 A0 μ H w μ H' w/\z9 A0 μ H' w/\xs.length=ps.length/\(∀i (h:i<xs.length),Rt E A0 μ H' w e (vs.getD i undef) xs[i]) /\
   (∀id,zn H id= .free->zn H' id= .free)/\(k (acc++xs)).cps H' K=some r
 | [],acc,vs,H,S,hr,h=>⟨[],H,z3.refl _ _ _ _,S,rfl,fun i h=>by simp at h,fun _ h=>h,by simpa [zeY] using h⟩
 | p::ps,acc,[],H,S,hr,h=>by have:=hr.1;simp at this
 | p::ps,acc,v::vs,H,S,hr,h=>by
  simp only [zeY] at h;obtain ⟨x,H1,T1,S1,h1,f1,h⟩:=zby S (hr.2 0 p v rfl rfl) h;obtain ⟨xs,H2,T2,S2,h2,h3,f2,h⟩:=zhZ e k (acc:=acc++[x]) (vs:=vs) S1 ⟨by have:=hr.1;simpa using this,fun j q u hq hu=>T1.rep (hr.2 (j+1) q u (by simpa using hq) (by simpa using hu))⟩ h;refine ⟨x::xs,H2,T1.trans T2,S2,by simp [h2],fun i hi=>?_,fun id hf=>f2 id (f1 id hf),by simpa using h⟩;cases i with
  | zero=>simpa using T2.repT h1
  | succ i=>simpa using h3 i (by simpa using hi)
theorem zv5 (vs:List Value):vs.flatMap (fun v=>v.cells.toList)=zcw (fun i=>vs.getD i undef) vs.length:=by
 unfold zcw
 induction vs with
 | nil=>rfl
 | cons v vs ih =>
  rw [zBv,List.range_succ_eq_map,zCa,zCa,ih,List.flatMap_map];simp
theorem zjl (hT:yX E.leaves P tab=true) {t:Nat}{i u:TI}(hi:look tab t=some i) (hu:look tab i.elem=some u) (hsl:i.sl=true) {len:Nat}{parts:Array (Nat×Value)}
  (hs:∀p∈parts.toList,p.2.cells.size=u.size) (hm:parts.toList.map (·.1)=List.range len) (hb:len*u.size<=16777216) (hz:u.size≠0) :
  (Instr.buildSlice t len parts).run P w= .ok (.slice (some ⟨w.heap.size,0,none⟩) len len) (w.alloc (.cells ((parts.toList.map (·.2)).flatMap fun v=>v.cells.toList).toArray i.elem)):=by
 have hd:=zj2 hT hi hsl;have hlen:parts.toList.length=len:=by have:=congrArg List.length hm;simpa using this
 obtain ⟨c',h1,h2⟩:=ztu u.size parts.toList 0 ((Array.range (len*u.size)).map ((xA u).cells[· %(xA u).cells.size]!)) hs (by rw [hm,hlen,zCW]) (by simp;rw [<-hlen];simp);have h3:c'=((parts.toList.map (·.2)).flatMap fun v=>v.cells.toList).toArray:=by
  apply zCF.1;rw [h2];simp
 subst h3;simp only [Instr.buildSlice,Sem.run_bind,run_underlying hd,Result.andThen_ok,xk hT hu,gt_iff_lt];rw [ze];by_cases h0:len*u.size=0
 .have hl0:len=0:=by
   rcases Nat.mul_eq_zero.1 h0 with h | h
   .exact h
   .exact zk h hz
  subst hl0;have hp:parts.toList=[]:=by simpa using hlen
  simp [hp,Instr.fill,newRow];congr 2;exact Array.eq_empty_of_size_eq_zero (by simp)
 .simp only [h0,if_false,Sem.run_bind,ZB hT hu,Result.andThen_ok,Sem.run_pure,h1];simp [newRow]
theorem zmX (hT:yX E.leaves P tab=true) {t:Nat}{i u:TI}(hi:look tab t=some i) (hu:look tab i.elem=some u) {ρ:Operand->zj E}{ρv:Operand->Value}{parts:Array (Nat×Operand)}{len fresh:Nat}(S:z9 A0 μ H w)
  (F:Zv H fresh A0 w) (hρ:∀x,Rp E A0 μ H w (ρ x) (ρv x))
  (h:(ziI i u fresh len (parts.toList.map fun p=>(p.1,ρ p.2))).cps H K=some r):z8 P A0 μ H w (Instr.buildSlice t len (parts.map fun (i,x)=>(i,ρv x))) K r:=by
 unfold ziI at h;split at h;rotate_left
 .simp [Dec.cps] at h
 rename_i hc;simp only [zBl,decide_eq_true_eq,List.map_map] at hc;obtain ⟨⟨hsl,hm⟩,hb⟩:=hc;have hb:=zB0 hb;have hpv:(parts.map fun (i,x)=>(i,ρv x)).toList=parts.toList.map fun p=>(p.1,ρv p.2):=by simp
 have hm':(parts.map fun (i,x)=>(i,ρv x)).toList.map (·.1)=List.range len:=by
  rw [hpv,<-hm,List.map_map];rfl
 have hv2:(parts.map fun (i,x)=>(i,ρv x)).toList.map (·.2)=parts.toList.map fun p=>ρv p.2:=by
  rw [hpv,List.map_map];rfl
 have hlen:parts.toList.length=len:=by have:=congrArg List.length hm;simpa using this
 have hrl:RL (Rp E A0 μ H w) (parts.toList.map fun p=>ρ p.2) (parts.toList.map fun p=>ρv p.2) :=
  ⟨by simp,fun j p v hp hv=>by
   simp only [zBQ,zBD] at hp hv;obtain ⟨a,ha,rfl⟩:=hp;obtain ⟨a',ha',rfl⟩:=hv;rw [ha] at ha';injection ha' with ha';subst ha';exact hρ a.2⟩
 split at h
 .rename_i e hty;obtain ⟨u',hu',hut,hs0,hd,hna⟩:=Up hT hi hty;rw [hu] at hu';injection hu' with hu';subst hu';have hsz:=ul hT e hu hut;simp only [List.map_map] at h;obtain ⟨xs,H',T,S',hl,hr,hf,h⟩:=zhZ e _ S hrl h;simp only [Dec.cps,zBy] at h;have F':=F.trans T (hf _ F.free);rw [zqf F'.lt] at h;have hxl:xs.length=len:=by rw [hl];simpa using hlen
  have hget:∀i,i<len->((parts.toList.map fun p=>ρv p.2).getD i undef).cells.size=u.size:=fun i hi=>by
   have:=(hr i (by omega)).size;rw [this,hsz]
  have hs:∀p∈(parts.map fun (i,x)=>(i,ρv x)).toList,p.2.cells.size=u.size:=by
   intro p hp;rw [hpv] at hp;obtain ⟨a,ha,rfl⟩:=zBB.1 hp;obtain ⟨j,hj,rfl⟩:=zCB ha;have:=hget j (by omega);have e:(parts.toList.map fun p=>ρv p.2).getD j undef=ρv (parts.toList[j]).2:=by
    rw [zBp,zBQ,zBn hj];rfl
   rw [e] at this;exact this
  have hcells:Zo w (Av A0 μ H') e xs ((parts.toList.map fun p=>ρv p.2).flatMap fun v=>v.cells.toList).toArray (fun i=>(parts.toList.map fun p=>ρv p.2).getD i undef):=by
   have hj:=zv5 (parts.toList.map fun p=>ρv p.2);have hl2:(parts.toList.map fun p=>ρv p.2).length=len:=by simpa using hlen
   rw [hl2] at hj;refine ⟨?_,fun i hi j v hv=>?_,hr⟩
   .rw [hj];simp only [List.size_toArray];rw [ziw _ u.size _ hget,hxl,hsz]
   .rw [hj,hsz];simpa using zil _ u.size len hget i (by omega) j v hv
  obtain ⟨T2,S2,hrep⟩:=zlN (t:=i.elem) (newCap:=xs.length) (rest:= #[]) S' F' hcells (zBm _) (by simpa using hcells.size) rfl (yv.refl w);refine ⟨_,_,_,_,_,?_,T.trans T2,S2,hrep,h⟩;rw [zjl hT hi hu hsl hs hm' hb hs0,hv2,hxl];simp
 .split at h;rotate_left
  .simp [Dec.cps] at h
  rename_i hc;simp only [zBl] at hc;have h1:=zBs hc.1;simp only [Dec.cps] at h;rw [zqf F.lt] at h;have hleaf:∀p∈parts.toList.map (fun p=>ρ p.2),p.leaf=true:=by
   intro p hp;obtain ⟨a,ha,rfl⟩:=zBB.1 hp;exact zBL.1 hc.2 (a.1,ρ a.2) (zBB.2 ⟨a,ha,rfl⟩)
  have hone:∀a∈parts.toList,(ρv a.2).cells= #[ρv a.2]:=fun a ha=>zqx (hρ a.2) (hleaf (ρ a.2) (zBB.2 ⟨a,ha,rfl⟩));obtain ⟨T,S',hU⟩:=zsH (t:=i.elem) S F hrl hleaf len len;simp only [List.map_map] at h;refine ⟨_,_,_,_,_,?_,T,S',.bsl fresh len w.heap.size hU (vv _ _ _),h⟩;rw [zjl hT hi hu hsl (fun p hp=>by
   rw [hpv] at hp;obtain ⟨a,ha,rfl⟩:=zBB.1 hp;rw [hone a ha,h1];rfl) hm' hb (by omega),hv2]
  congr 4;rw [List.flatMap_map];have e:(parts.toList.map fun a=>(ρv a.2).cells.toList)=parts.toList.map fun a=>[ρv a.2]:=List.map_congr_left (fun a ha=>by rw [hone a ha]);rw [List.flatMap_def,e];have e2:∀l:List (Nat×Operand),(l.map fun a=>[ρv a.2]).flatten=l.map fun a=>ρv a.2:=fun l=>by
   induction l with
   | nil=>rfl
   | cons a l ih=>simp [ih]
  exact e2 _
end
end Go.Pe
