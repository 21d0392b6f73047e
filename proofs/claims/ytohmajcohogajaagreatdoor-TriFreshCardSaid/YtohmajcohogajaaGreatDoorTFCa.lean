/- Own work of this seat: Core, Exec, Rep, Moves, Tab, OpA, OpB, OpC, OpD, OpE, OpF, OpG, OpH, OpI, OpJ, OpK, OpL. -/
import Derived.Orders
import Derived.KernelRfl
import Derived.Laws.Sem
import Derived.Laws.World
import Derived.Laws.CopyRow
import Derived.Laws.Entries
import Derived.Laws.Rows
import Derived.Laws.Append
import Derived.Laws.BitsLemmas
import Derived.Laws.Bits64
import Derived.Laws.Shifts
import Derived.Laws.StructEq
import Derived.Laws.Concat
import Derived.ChangeKeysEq
set_option linter.unusedVariables false
set_option linter.unusedSimpArgs false
set_option linter.unnecessarySimpa false
set_option linter.unusedSectionVars false
set_option linter.deprecated false
open Array renaming getElem?_eq_some_iff → zJ0, getD_eq_getD_getElem? → zJ5, getElem?_toList → zKk, length_toList → zKB, getElem?_eq_getElem → zKL, toList_inj → zK2, getElem?_push → zK9, getElem?_eq_none → zLm
open BitVec renaming toNat_ofInt → zKu, eq_of_toNat_eq → zKS, toInt_eq_toNat_cond → zLb
open Bool renaming and_eq_true → zJB, not_true → zJQ, not_eq_true' → zJU, false_eq_true → zKb, true_and → zKz, or_eq_true → zKI
open Int renaming toNat_natCast → zKi, le_refl → zKl
open List renaming getElem?_eq_getElem → zJC, getD_eq_getElem?_getD → zJD, mem_of_getElem? → zJG, mem_cons_of_mem → zJI, append_assoc → zJJ, getElem?_eq_some_iff → zJK, nil_append → zJM, length_append → zJN, mem_map → zJO, length_cons → zJS, mem_cons_self → zJW, getElem_mem → zJY, mem_append → zJZ, all_eq_true → zJ3, getElem?_append_left → zJ4, length_set → zJ6, getElem?_map → zJ8, getElem?_append_right → zJ9, getElem?_set_ne → zKc, length_replicate → zKf, drop_eq_getElem_cons → zKg, getElem?_set → zKo, eq_nil_of_length_eq_zero → zKp, foldl_cons → zKq, flatMap_cons → zKr, length_nil → zKt, map_cons → zKw, getElem?_eq_none → zKH, getElem?_take → zKJ, length_take → zKK, length_drop → zKR, getElem_of_mem → zKX, range_succ → zKY, flatMap_append → zKZ, range_eq_range' → zK1, mem_of_mem_take → zK8, drop_eq_nil_of_le → zLa, range'_succ → zLc, map_congr_left → zLd, getElem?_toArray → zLl, take_of_length_le → zLn, getElem_append_left → zLs
open Nat renaming le_refl → zJF, eq_of_beq_eq_true → zJH, lt_of_lt_of_le → zJX, lt_or_ge → zKa, le_of_ble_eq_true → zKd, add_mul → zKe, add_zero → zKj, mul_one → zKx, mul_le_mul_right → zKC, le_trans → zKG, zero_le → zKM, add_assoc → zKQ, mul_le_mul → zK0
open Option renaming bind_some → zJA, bind_eq_some_iff → zJL, map_eq_some_iff → zJR, getD_some → zKy, map_some → zKD
namespace Go.Pe
theorem zc {c:Prop}{d:Decidable c}{A:Sort _}{a b:A}(h: ¬c):(if c then a else b)=b:=if_neg h
theorem zb {c:Prop}{d:Decidable c}{A:Sort _}{a b:A}(h:c):(if c then a else b)=a:=if_pos h
theorem zi {c:Prop}{d:Decidable c}{A:Sort _}{a b:A}(h: ¬c:=by omega):(if c then a else b)=b:=if_neg h
theorem zY {c:Prop}{d:Decidable c}{A:Sort _}{a b:A}(h:c:=by omega):(if c then a else b)=a:=if_pos h
noncomputable section
inductive Ty where
 | bool | int (k:IntKind) | str | slice (e:Ty) | named (n:Nat) | arr (n:Nat) (e:Ty)
 deriving DecidableEq
@[reducible] def zV:IntKind->Type
 | .u64=>BitVec 64 | .u8=>BitVec 8 | .i8=>Int | .i16=>Int | .i32=>Int | .i64=>Int | .u16=>Int | .u32=>Int
@[reducible] def Den (T:Nat->Type):Ty->Type
 | .bool=>Bool | .int k=>zV k | .str=>ByteArray | .slice e=>List (Den T e) | .named n=>T n | .arr _ e=>List (Den T e)
@[reducible] def HL (T:Nat->Type):List Ty->Type
 | []=>Unit
 | t::ts=>Den T t×HL T ts
structure yw where
 T:Nat->Type
 leaves:Nat->List Ty
 unpack:(n:Nat)->T n->HL T (leaves n)
 pack:(n:Nat)->HL T (leaves n)->T n
 pu:∀n x,pack n (unpack n x)=x
 up:∀n h,unpack n (pack n h)=h
 lf:∀n,(leaves n).all (fun t=>match t with | .named _=>false | .arr _ _=>false | _=>true)=true
noncomputable def zjo {α:Type}(a:α):α:=Classical.choose (⟨a,rfl⟩:∃b:α,b=a)
theorem zad {α:Type}(a:α):zjo a=a:=Classical.choose_spec (⟨a,rfl⟩:∃b:α,b=a)
def w64 (n:Int):Int:=zjo (fun n:Int=>(n+9223372036854775808)%18446744073709551616-9223372036854775808) n
theorem zsA (n:Int):w64 n=(n+9223372036854775808)%18446744073709551616-9223372036854775808:=congrFun (zad _) n
def w32 (n:Int):Int:=zjo (fun n:Int=>(n+2147483648)%4294967296-2147483648) n
theorem zH8 (n:Int):w32 n=(n+2147483648)%4294967296-2147483648:=congrFun (zad _) n
@[reducible] def toZ:(k:IntKind)->zV k->Int
 | .u64,x=>(x.toNat:Int) | .u8,x=>(x.toNat:Int) | .i8,x=>x | .i16,x=>x | .i32,x=>x | .i64,x=>x | .u16,x=>x | .u32,x=>x
def zbz:(k:IntKind)->Int->zV k
 | .u64,n=>BitVec.ofInt 64 n | .u8,n=>BitVec.ofInt 8 n | .i8,n=>n | .i16,n=>n | .i32,n=>n | .i64,n=>n | .u16,n=>n | .u32,n=>n
def zv5:IntKind->Int->Bool
 | .u64,n=>decide (0<=n)&&decide (n<18446744073709551616) | .u8,n=>decide (0<=n)&&decide (n<256) | _,_=>true
def zGv:(k:IntKind)->zV k->zV k->Option (zV k)
 | .u64,a,b=>some (a+b) | .u8,a,b=>some (a+b) | .i64,a,b=>some (w64 (a+b)) | .i32,a,b=>some (w32 (a+b)) | _,_,_=>none
def zGD:(k:IntKind)->zV k->zV k->Option (zV k)
 | .u64,a,b=>some (a-b) | .i64,a,b=>some (w64 (a-b)) | .i32,a,b=>some (w32 (a-b)) | _,_,_=>none
def zGU:(k:IntKind)->zV k->zV k->Option (zV k)
 | .u64,a,b=>some (a*b) | .i64,a,b=>some (w64 (a*b)) | _,_,_=>none
def zDt (a b:Int):Int:=zjo (fun a b:Int=>(BitVec.ofInt 64 a&&&BitVec.ofInt 64 b).toInt) a b
theorem zAw (a b:Int):zDt a b=(BitVec.ofInt 64 a&&&BitVec.ofInt 64 b).toInt:=by delta zDt;rw [zad]
def zor (a b:Int):Int:=zjo (fun a b:Int=>(BitVec.ofInt 64 a|||BitVec.ofInt 64 b).toInt) a b
theorem zH6 (a b:Int):zor a b=(BitVec.ofInt 64 a|||BitVec.ofInt 64 b).toInt:=by delta zor;rw [zad]
def zF8 (a b:Int):Int:=zjo (fun a b:Int=>(BitVec.ofInt 64 a ^^^ BitVec.ofInt 64 b).toInt) a b
theorem zGY (a b:Int):zF8 a b=(BitVec.ofInt 64 a ^^^ BitVec.ofInt 64 b).toInt:=by delta zF8;rw [zad]
def zw4 (a b:Int):Int:=zjo (fun a b:Int=>(BitVec.ofInt 64 a&&& ~~~BitVec.ofInt 64 b).toInt) a b
theorem zCj (a b:Int):zw4 a b=(BitVec.ofInt 64 a&&& ~~~BitVec.ofInt 64 b).toInt:=by delta zw4;rw [zad]
def zxr:(k:IntKind)->zV k->zV k->Option (zV k)
 | .u64,a,b=>some (a/b) | .i64,a,b=>some (w64 (a.tdiv b)) | .u8,a,b=>some (a/b) | _,_,_=>none
def zGK:(k:IntKind)->zV k->zV k->Option (zV k)
 | .u64,a,b=>some (a%b) | .i64,a,b=>some (a.tmod b) | .u8,a,b=>some (a%b) | _,_,_=>none
def zGW:(k:IntKind)->zV k->zV k->Option (zV k)
 | .u64,a,b=>some (a&&&b) | .i64,a,b=>some (zDt a b) | _,_,_=>none
def ior:(k:IntKind)->zV k->zV k->Option (zV k)
 | .u64,a,b=>some (a|||b) | .i64,a,b=>some (zor a b) | _,_,_=>none
def zGf:(k:IntKind)->zV k->zV k->Option (zV k)
 | .u64,a,b=>some (a ^^^ b) | .i64,a,b=>some (zF8 a b) | _,_,_=>none
def zxS:(k:IntKind)->zV k->zV k->Option (zV k)
 | .u64,a,b=>some (a&&& ~~~b) | .i64,a,b=>some (zw4 a b) | _,_,_=>none
def zBm:(k:IntKind)->zV k->Nat->Option (zV k)
 | .u64,a,n=>some (a <<< n) | _,_,_=>none
def zAH:(k:IntKind)->zV k->Nat->Option (zV k)
 | .u64,a,n=>some (a >>> n) | _,_,_=>none
def ieq:(k:IntKind)->zV k->zV k->Bool
 | .u64,a,b=>decide (a=b) | .u8,a,b=>decide (a=b) | .i8,a,b=>decide (a=b) | .i16,a,b=>decide (a=b) | .i32,a,b=>decide (a=b)
 | .i64,a,b=>decide (a=b) | .u16,a,b=>decide (a=b) | .u32,a,b=>decide (a=b)
def ilt:(k:IntKind)->zV k->zV k->Bool
 | .u64,a,b=>decide (a<b) | .u8,a,b=>decide (a<b) | .i8,a,b=>decide (a<b) | .i16,a,b=>decide (a<b) | .i32,a,b=>decide (a<b)
 | .i64,a,b=>decide (a<b) | .u16,a,b=>decide (a<b) | .u32,a,b=>decide (a<b)
def ile:(k:IntKind)->zV k->zV k->Bool
 | .u64,a,b=>decide (a<=b) | .u8,a,b=>decide (a<=b) | .i8,a,b=>decide (a<=b) | .i16,a,b=>decide (a<=b) | .i32,a,b=>decide (a<=b)
 | .i64,a,b=>decide (a<=b) | .u16,a,b=>decide (a<=b) | .u32,a,b=>decide (a<=b)
def zD6:(k k':IntKind)->zV k->Option (zV k')
 | .u8,.i64,x=>some (x.toNat:Int) | .u8,.i32,x=>some (x.toNat:Int) | .u8,.u8,x=>some x | .u8,.u64,x=>some (x.setWidth 64)
 | .u64,.i64,x=>some x.toInt | .u64,.u64,x=>some x | .i64,.u64,x=>some (BitVec.ofInt 64 x) | .i64,.u8,x=>some (BitVec.ofInt 8 x)
 | .i64,.i64,x=>some (w64 x) | .i64,.i32,x=>some (w32 x) | .i32,.i64,x=>some (w64 x) | .i32,.i32,x=>some (w32 x)
 | _,_,_=>none
def zt3:(k:IntKind)->zV k->zV k->Option (zV k)
 | .u64,a,b=>some (bif decide (b<a) then b else a) | .i64,a,b=>some (bif decide (b<a) then b else a) | _,_,_=>none
def ztX:(k:IntKind)->zV k->zV k->Option (zV k)
 | .u64,a,b=>some (bif decide (a<b) then b else a) | .i64,a,b=>some (bif decide (a<b) then b else a) | _,_,_=>none
def idx {α:Type}(l:List α) (i:Int):Option α:=bif decide (0<=i) then l[i.toNat]? else none
def xM {α:Type}(l:List α) (i:Int):Option Nat:=bif decide (0<=i)&&decide (i<l.length) then some i.toNat else none
def yq {α:Type}(l:List α):Option (List α):=zjo (fun l:List α=>bif decide (l.length<4294967296) then some l else none) l
theorem zuq {α:Type}(l:List α):yq l=bif decide (l.length<4294967296) then some l else none:=by delta yq;rw [zad]
def zgM {α:Type}(l:List α) (n:Nat) (i:Int):Option Nat:=bif decide (0<=i)&&decide (i<l.length)&&decide (i<n) then some i.toNat else none
def W4 (n:Int):Option Nat:=zjo (fun n:Int=>bif decide (0<=n)&&decide (n<4294967296) then some n.toNat else none) n
theorem znv (n:Int):W4 n=bif decide (0<=n)&&decide (n<4294967296) then some n.toNat else none:=by delta W4;rw [zad]
def cut {α:Type}(l:List α) (lo hi:Int):Option (List α) :=
 bif decide (0<=lo)&&decide (lo<=hi)&&decide (hi<=l.length) then some ((l.take hi.toNat).drop lo.toNat) else none
section
variable (E:yw)
inductive zh:Type where
 | any | skip
 | v (τ:Ty) (x:Den E.T τ)
 | agg (cs:List zh) | tuple (vs:List zh)
 | nils | own (id:Nat) | full (e:Ty) (l:List (Den E.T e)) | bsl (id n:Nat)
 | ptr (id off:Nat) | eptr (e:Ty) (id i off:Nat) | rptr (cs:List zh)
 | fn (f:FuncId) (caps:List zh) | bfn (f:FuncId) (first:List zh) | nilfn | nilp | nilm | map (id:Nat)
 | yld (n i:Int)
inductive Blk:Type where
 | free | dead
 | box (w:Bool) (cs:List (zh E))
 | row (w:Bool) (e:Ty) (l:List (Den E.T e))
 | map (w:Bool) (es:List (zh E×zh E))
 | rowh (e:Ty) (l:List (List (Den E.T e))) (n k:Nat)
inductive Dec (α:Type):Type 1 where
 | ret (a:α) | fail
 | br (b:Bool) (t e:Dec α)
 | opt (β:Type) (o:Option β) (k:β->Dec α)
 | rd (id:Nat) (k:Blk E->Dec α)
 | wr (id:Nat) (b:Blk E) (k:Dec α)
 | any (k:Bool->Dec α)
end
variable {E:yw}
def zn (H:List (Blk E)) (id:Nat):Blk E:=(H[id]?).getD .free
open Classical in
noncomputable def zlV {R:Type}(a b:Option R):Option R:=if a=b then a else none
theorem zee {R:Type}(a:Option R):zlV a a=a:=zb rfl
theorem zE4 {R:Type}{a b:Option R}{r:R}(h:zlV a b=some r):a=some r/\b=some r:=by
 unfold zlV at h;split at h
 .rename_i e;exact ⟨h,e▸h⟩
 .cases h
noncomputable def Dec.cps {α R:Type}:Dec E α->List (Blk E)->(α->List (Blk E)->Option R)->Option R
 | .ret a,H,K=>K a H
 | .fail,_,_=>none
 | .br b t e,H,K=>bif b then t.cps H K else e.cps H K
 | .opt _ o k,H,K=>o.bind fun x=>(k x).cps H K
 | .rd id k,H,K=>(k (zn H id)).cps H K
 | .wr id b k,H,K=>bif Nat.blt id H.length then k.cps (H.set id b) K else none
 | .any k,H,K=>zlV ((k true).cps H K) ((k false).cps H K)
@[reducible] def p1 {A B:Type}(x:A×B):A:=Prod.casesOn (motive:=fun _=>A) x (fun a _=>a)
@[reducible] def p2 {A B:Type}(x:A×B):B:=Prod.casesOn (motive:=fun _=>B) x (fun _ b=>b)
def HL.toP:(ts:List Ty)->HL E.T ts->List (zh E)
 | [],_=>[]
 | t::ts,x=>.v t (p1 x)::HL.toP ts (p2 x)
def vk (τ τ':Ty) (x:Den E.T τ):Option (Den E.T τ'):=if h:τ=τ' then some (h▸x) else none
def uZ:zh E->List (zh E)
 | .agg cs=>cs
 | .v (.named n) x=>HL.toP (E.leaves n) (E.unpack n x)
 | p=>[p]
def Ty.leaf:Ty->Bool
 | .named _=>false | .arr _ _=>false | _=>true
def zh.leaf:zh E->Bool
 | .v τ _=>τ.leaf
 | .nils | .own _ | .full _ _ | .bsl _ _ | .ptr _ _ | .eptr _ _ _ _ | .rptr _ | .fn _ _ | .bfn _ _ | .nilfn | .nilp | .nilm | .map _=>true
 | _=>false
def vf (τ:Ty) (p:zh E) (H:List (Blk E)):Option (Den E.T τ×List Nat) :=
 match p with
 | .v τ' x=>(vk τ' τ x).bind fun y=>some (y,[])
 | .nils=>match τ with | .slice _=>some ([],[]) | _=>none
 | .own id=>match τ with
  | .slice e=>match zn H id with
   | .row _ e' l=>(vk (.slice e') (.slice e) l).bind fun y=>some (y,[id])
   | _=>none
  | _=>none
 | .full e' l=>match τ with
  | .slice e=>(vk (.slice e') (.slice e) l).bind fun y=>some (y,[])
  | _=>none
 | _=>none
def wG:(ts:List Ty)->List (zh E)->List (Blk E)->Option (HL E.T ts×List Nat)
 | [],[],_=>some ((),[])
 | t::ts,p::ps,H=>(vf t p H).bind fun x=>(wG ts ps H).bind fun y=>some ((x.1,y.1),x.2++y.2)
 | _,_,_=>none
def toT (τ:Ty) (p:zh E) (H:List (Blk E)):Option (Den E.T τ×List Nat) :=
 match p,τ with
 | .agg cs,.named n=>(wG (E.leaves n) cs H).bind fun x=>some (E.pack n x.1,x.2)
 | p,τ=>vf τ p H
def zaR:(ts:List Ty)->List (zh E)->List (Blk E)->Option (HL E.T ts×List Nat)
 | [],[],_=>some ((),[])
 | t::ts,p::ps,H=>(toT t p H).bind fun x=>(zaR ts ps H).bind fun y=>some ((x.1,y.1),x.2++y.2)
 | _,_,_=>none
def zAO (τ:Ty) (p:zh E):Option (Den E.T τ):=(toT τ p []).bind fun x=>some x.1
def frz:Blk E->Blk E
 | .row _ e l=>.row false e l
 | b=>b
inductive Z where
 | bool | int (k:IntKind) | str | slice | func | ptr | map
 deriving DecidableEq
structure TI where
 size:Nat
 agg:Bool
 fields:List (Nat×Nat)
 elem:Nat
 alen:Nat
 ty:Option Ty
 zero:List Z
 bytes:Nat
 sl:Bool
 fk:Bool
 cmp:Bool
 mp:Bool:=false
def Z.toP:Z->zh E
 | .bool=>.v .bool false | .int k=>.v (.int k) (zbz k 0) | .str=>.v .str ByteArray.empty | .slice=>.nils | .func=>.nilfn | .ptr=>.nilp | .map=>.nilm
def Z.is:Z->Ty->Bool
 | .bool,.bool=>true | .int k,.int k'=>decide (k=k') | .str,.str=>true | .slice,.slice _=>true | _,_=>false
def look (tab:List (Nat×TI)) (t:Nat):Option TI:=match tab with
 | []=>none
 | (u,i)::r=>if Nat.beq u t then some i else look r t
def zlK (i:TI):zh E:=if i.agg then .agg (i.zero.map Z.toP) else match i.zero with | [z]=>z.toP | _=>.any
def zsC:Value->zh E
 | .bool b=>.v .bool b
 | .int k n=>if zv5 k n then .v (.int k) (zbz k n) else .any
 | .string s=>.v .str s
 | .slice none 0 0=>.nils
 | .nilFunc=>.nilfn
 | .pointer none=>.nilp
 | .map none=>.nilm
 | .agg cs=>.agg (cs.toList.map fun | .bool b=>.v .bool b | .int k n=>if zv5 k n then .v (.int k) (zbz k n) else .any | .slice none 0 0=>.nils | .string s=>.v .str s | .nilFunc=>.nilfn | .pointer none=>.nilp | _=>.any)
 | _=>.any
def sub {α:Type}(cs:List α) (off n:Nat):List α:=(cs.drop off).take n
def zaa {α:Type}(cs:List α) (off:Nat) (xs:List α):List α:=cs.take off++xs++cs.drop (off+xs.length)
def zbg (i:TI) (τ:Ty):Bool:=match i.ty with | some σ=>decide (σ=τ) | none=>false
def znN (i:TI) (cs:List (zh E)):Dec E (zh E) :=
 if Nat.beq cs.length i.size then (if i.agg then .ret (.agg cs) else match cs with | [c]=>.ret c | _=>.fail) else .fail
def zhN (e:Ty) (x:Den E.T e):List (zh E):=uZ (.v e x)
def zpZ {α:Type}:List (zh E)->Dec E α->Dec E α
 | [],k=>k
 | .own id::r,k=>.rd id fun
  | .rowh e l n j=>.rd j fun
   | .row true e' l'=>match vk (.slice e') (.slice e) l' with
    | some l'=>.wr j (.row false e l') (.wr id (.row true (.slice e) (l.set n l')) (zpZ r k))
    | none=>.fail
   | _=>.fail
  | _=>zpZ r k
 | _::r,k=>zpZ r k
def zzx (n:Nat) (e:Ty) (p:zh E):Dec E (zh E) :=
 match p with
 | .eptr e' id k off=>if Nat.beq k 0&&Nat.beq off 0&&decide (e=e')&&e.leaf then .rd id fun
   | .row _ e2 l=>match vk (.slice e2) (.slice e) l with
    | some l=>.br (decide (l.length=n)) (.ret (.v (.arr n e) l)) .fail
    | none=>.fail
   | _=>.fail
  else .fail
 | _=>.fail
def zfn (i:TI):Option (Nat×Ty):=match i.ty with
 | some (.arr n e)=>some (n,e)
 | _=>none
def zDA (mv:Bool) (i:TI) (p:zh E):Dec E (zh E) :=
 match zfn i with
 | some (n,e)=>zzx n e p
 | none=>match p with
 | .ptr id off=>.rd id fun
  | .box _ cs=>if mv then zpZ (sub cs off i.size) (znN i (sub cs off i.size)) else znN i (sub cs off i.size)
  | _=>.fail
 | .eptr e id n off=>.rd id fun
  | .rowh e' l n' k=>if Nat.beq off 0&&decide (e= .slice e') then .br (decide (n=n')) (znN i [.own k]) .fail else .fail
  | .row _ e' l=>match vk (.slice e') (.slice e) l with
   | some l=>.opt _ (l[n]?) fun x=>if (zhN e x).all zh.leaf then znN i (sub (zhN e x) off i.size) else .fail
   | none=>.fail
  | _=>.fail
 | .rptr cs=>znN i (sub cs 0 i.size)
 | _=>.fail
def zct {α:Type}(τ:Ty) (p:zh E) (k:Den E.T τ->Dec E α):Dec E α :=
 match p with
 | .own id=>.rd id fun
  | .row _ e l=>.wr id (.row false e l) (match zAO τ (.v (.slice e) l) with | some y=>k y | none=>.fail)
  | _=>.fail
 | .agg cs=>typedAgg cs []
 | p=>match zAO τ p with | some y=>k y | none=>.fail
where
 typedAgg:List (zh E)->List (zh E)->Dec E α
  | [],acc=>match zAO τ (.agg acc) with | some y=>k y | none=>.fail
  | .own id::r,acc=>.rd id fun
   | .row _ e l=>.wr id (.row false e l) (typedAgg r (acc++[.v (.slice e) l]))
   | _=>.fail
  | c::r,acc=>typedAgg r (acc++[c])
def zzV (n:Nat) (e:Ty) (p x:zh E):Dec E (zh E) :=
 match p,x with
 | .eptr e' id k off,.v (.arr n' e2) l'=>if Nat.beq k 0&&Nat.beq off 0&&decide (e=e')&&e.leaf&&decide (e2=e)&&Nat.beq n' n then .rd id fun
   | .row true e3 l=>match vk (E:=E) (.slice e2) (.slice e3) l' with
    | some l'=>.br (decide (l.length=n)) (.wr id (.row true e3 l') (.ret .skip)) .fail
    | none=>.fail
   | _=>.fail
  else .fail
 | _,_=>.fail
def zBa (e:Ty) (id n:Nat) (x:zh E):Dec E (zh E) :=
 match e,x with
 | .slice e,.own k=>.rd id fun
  | .row true e' l=>match vk (E:=E) (.slice e') (.slice (.slice e)) l with
   | some l=>.rd k fun
    | .row true e2 l2=>if decide (e2=e) then .wr id (.rowh e l n k) (.ret .skip) else .fail
    | _=>.fail
   | none=>.fail
  | _=>.fail
 | _,_=>.fail
def zBn (mv:Bool) (i:TI) (p x:zh E):Dec E (zh E) :=
 match zfn i with
 | some (n,e)=>zzV n e p x
 | none =>
 let cx:=uZ x
 if Nat.beq cx.length i.size&&cx.all zh.leaf then
  match p with
  | .ptr id off=>.rd id fun
   | .box true cs=>if Nat.ble (off+i.size) cs.length then .wr id (.box true (zaa cs off cx)) (.ret .skip) else .fail
   | _=>.fail
  | .eptr e id n off =>
   if Nat.beq off 0&&zbg i e then
    if mv then zBa e id n x else
    zct e x fun z=>.rd id fun
     | .row true e' l=>match vk (.slice e') (.slice e) l with
      | some l=>.wr id (.row true e (l.set n z)) (.ret .skip)
      | none=>.fail
     | _=>.fail
   else .fail
  | _=>.fail
 else .fail
def zqe (s:TI) (p:zh E) (f:Nat):Dec E (zh E) :=
 match s.fields[f]? with
 | some (off,_)=>match p with
  | .ptr id o=>.ret (.ptr id (o+off))
  | .eptr e id n o=>.ret (.eptr e id n (o+off))
  | .rptr cs=>.ret (.rptr (cs.drop off))
  | _=>.fail
 | none=>.fail
def zro:zh E->Option (List (zh E))
 | .agg cs=>some cs
 | .v (.named n) x=>some (HL.toP (E.leaves n) (E.unpack n x))
 | _=>none
def zBw (tab:List (Nat×TI)) (s:TI) (p:zh E) (f:Nat):Dec E (zh E) :=
 match s.fields[f]? with
 | some (off,t)=>match look tab t with
  | some i=>match zro p with
   | some cs=>znN i (sub cs off i.size)
   | none=>.fail
  | none=>.fail
 | none=>.fail
def vH:(t:Ty)->Option (Den E.T t)
 | .bool=>some false | .int k=>some (zbz k 0) | .str=>some ByteArray.empty | .slice _=>some [] | _=>none
def choose (i:Int):Nat->(Nat->Dec E (zh E))->Dec E (zh E)
 | 0,_=>.fail
 | n+1,k=>.br (decide (i=(n:Int))) (k n) (choose i n k)
def zqb (s u:TI) (p:zh E) (i:Int):Dec E (zh E) :=
 if s.sl then
  match p with
  | .v (.slice e) l=>if zbg u e then .opt _ (idx l i) fun x=>if (zhN e x).all zh.leaf then .ret (.rptr (zhN e x)) else .fail else .fail
  | .full e l=>if zbg u e then .opt _ (idx l i) fun x=>if (zhN e x).all zh.leaf then .ret (.rptr (zhN e x)) else .fail else .fail
  | .own id=>.rd id fun
   | .row _ e l=>if zbg u e then .opt _ (xM l i) fun n=>.ret (.eptr e id n 0) else .fail
   | .rowh e l _ _=>if zbg u (.slice e) then .opt _ (xM l i) fun n=>.ret (.eptr (.slice e) id n 0) else .fail
   | _=>.fail
  | .bsl id n=>choose i n fun k=>.ret (.ptr id (k*u.size))
  | _=>.fail
 else match p with
 | .ptr id off=>if s.agg then choose i s.alen fun k=>.ret (.ptr id (off+k*u.size)) else .fail
 | .eptr e id k off=>if s.agg&&Nat.blt 0 s.alen&&Nat.beq k 0&&Nat.beq off 0&&zbg u e then .rd id fun
   | .row _ e' l=>if decide (e'=e) then .opt _ (zgM l s.alen i) fun n=>.ret (.eptr e id n 0) else .fail
   | _=>.fail
  else .fail
 | _=>.fail
def zq8 (s u:TI) (p:zh E) (i:Int):Dec E (zh E) :=
 match p with
 | .v (.arr n e) l=>if s.agg&&Nat.blt 0 s.alen&&Nat.beq n s.alen&&zbg u e&&e.leaf then .opt _ (zgM l s.alen i) fun k=>.opt _ (l[k]?) fun x=>.ret (.v e x) else .fail
 | .agg cs=>if s.agg&&Nat.blt 0 s.alen&&Nat.beq cs.length s.alen&&Nat.beq u.size 1&& !u.agg then choose i s.alen fun k=>match cs[k]? with | some x=>.ret x | none=>.fail else .fail
 | _=>.fail
def zAm (i:TI) (fresh:Nat):Dec E (zh E) :=
 match zfn i with
 | some (n,e)=>match vH (E:=E) e with
  | some z=>if Nat.blt 0 n&&i.zero.all (fun q=>q.is e) then .wr fresh (.row true e (List.replicate n z)) (.ret (.eptr e fresh 0 0)) else .fail
  | none=>.fail
 | none=>.wr fresh (.box true (i.zero.map Z.toP)) (.ret (.ptr fresh 0))
def zG3 (i:TI) (fresh:Nat) (x:zh E):Dec E (zh E) :=
 match zfn i with
 | some (n,e)=>match x with
  | .v (.arr n' e') l=>if Nat.blt 0 n&&Nat.beq n n'&&e'.leaf&&decide (e=e') then .wr fresh (.row true e' l) (.ret (.eptr e' fresh 0 0)) else .fail
  | _=>.fail
 | none=>if Nat.beq (uZ x).length i.size&&(uZ x).all zh.leaf then .wr fresh (.box true (uZ x)) (.ret (.ptr fresh 0)) else .fail
def Vo (p:Option (zh E)) (d:Int):Option Int:=match p with
 | none=>some d
 | some (.v (.int .i64) x)=>some x
 | _=>none
def zwY (i:TI) (u:Option TI) (e:Ty):Bool:=i.sl&&(match u with | some u=>zbg u e | none=>false)
def zA7 (i:TI) (u:Option TI) (mv:Bool) (fresh:Nat) (p:zh E) (lo hi mx:Option (zh E)):Dec E (zh E) :=
 match mx with
 | none=>match p with
  | .v (.slice e) l=>if zwY i u e then (match Vo lo 0,Vo hi l.length with
   | some a,some b=>.opt _ (cut l a b) fun l'=>.ret (.v (.slice e) l')
   | _,_=>.fail) else .fail
  | .v .str s=>if zbg i .str then (match Vo lo 0,Vo hi s.size with
   | some a,some b=>.br (decide (0<=a)&&decide (a<=b)&&decide (b<=s.size)) (.ret (.v .str (s.extract a.toNat b.toNat))) .fail
   | _,_=>.fail) else .fail
  | .nils=>if i.sl&&u.isSome then (match Vo lo 0,Vo hi 0 with
   | some a,some b=>.br (decide (a=0)&&decide (b=0)) (.ret .nils) .fail
   | _,_=>.fail) else .fail
  | .own id=>.rd id fun
   | .row w e l=>if zwY i u e then (match Vo lo 0,Vo hi l.length with
    | some a,some b =>
     if mv then (if w then .opt _ (cut l a b) fun l'=>.wr id .dead (.wr fresh (.row true e l') (.ret (.own fresh))) else .fail)
     else .wr id (.row false e l) (.opt _ (cut l a b) fun l'=>.ret (.v (.slice e) l'))
    | _,_=>.fail) else .fail
   | _=>.fail
  | _=>.fail
 | some m=>match p with
  | .v (.slice e) l=>if zwY i u e then (match Vo lo 0,hi,Vo (some m) 0 with
   | some a,some b,some c=>match Vo (some b) 0 with
    | some b=>.br (decide (a=0)&&decide (b=0)&&decide (c=0)) (.ret .nils)
     (.br (decide (a=0)&&decide (b=l.length)&&decide (c=l.length)) (.ret (.full e l)) (.br (decide (b=c)) (.opt _ (cut l a b) fun l'=>.ret (.v (.slice e) l')) .fail))
    | none=>.fail
   | _,_,_=>.fail) else .fail
  | .nils=>if i.sl&&u.isSome then (match Vo lo 0,hi,Vo (some m) 0 with
   | some a,some b,some c=>match Vo (some b) 0 with
    | some b=>.br (decide (a=0)&&decide (b=0)&&decide (c=0)) (.ret .nils) .fail
    | none=>.fail
   | _,_,_=>.fail) else .fail
  | .own id=>.rd id fun
   | .row _ e l=>if zwY i u e then (match Vo lo 0,hi,Vo (some m) 0 with
    | some a,some b,some c=>match Vo (some b) 0 with
     | some b=>.br (decide (a=0)&&decide (b=0)&&decide (c=0)) (.wr id (.row false e l) (.ret .nils))
      (.br (decide (a=0)&&decide (b=l.length)&&decide (c=l.length)) (.wr id (.row false e l) (.ret (.full e l))) .fail)
     | none=>.fail
    | _,_,_=>.fail) else .fail
   | _=>.fail
  | _=>.fail
def zHd (i:TI) (p:zh E):Dec E (zh E) :=
 if i.sl then
  match p with
  | .v (.slice _) l=>.ret (.v (.int .i64) (l.length:Int))
  | .full _ l=>.ret (.v (.int .i64) (l.length:Int))
  | .nils=>.ret (.v (.int .i64) (0:Int))
  | .bsl _ n=>.ret (.v (.int .i64) (n:Int))
  | .own id=>.rd id fun
   | .row _ _ l=>.ret (.v (.int .i64) (l.length:Int))
   | _=>.fail
  | _=>.fail
 else if zbg i .str then
  match p with
  | .v .str s=>.ret (.v (.int .i64) (s.size:Int))
  | _=>.fail
 else .fail
def zwn:(ts:List Ty)->Option (HL E.T ts)
 | []=>some ()
 | t::ts=>match vH (E:=E) t,zwn ts with | some x,some y=>some (x,y) | _,_=>none
def zss (t:Ty):Option (Den E.T t):=match t with
 | .named n=>(zwn (E:=E) (E.leaves n)).map (E.pack n)
 | t=>vH t
def zsw (e:Ty) (fresh:Nat) (p:zh E) (l2:List (Den E.T e)):Dec E (zh E) :=
 match p with
 | .nils=>.opt _ (yq l2) fun l=>.wr fresh (.row true e l) (.ret (.own fresh))
 | .own id=>.rd id fun
  | .row true e' l=>match vk (.slice e') (.slice e) l with
   | some l=>.opt _ (yq (l++l2)) fun l'=>.wr id .dead (.wr fresh (.row true e l') (.ret (.own fresh)))
   | none=>.fail
  | _=>.fail
 | .full e' l=>match vk (.slice e') (.slice e) l with
  | some l=>match l2 with
   | []=>.fail
   | _::_=>.opt _ (yq (l++l2)) fun l'=>.wr fresh (.row true e l') (.ret (.own fresh))
  | none=>.fail
 | _=>.fail
def zw8 (e:Ty) (fresh:Nat) (p x:zh E):Dec E (zh E):=zct (.slice e) x (zsw e fresh p)
def zHn (e:Ty) (p:zh E) (l2:List (Den E.T e)):Dec E (zh E) :=
 match p with
 | .own id=>.rd id fun
  | .row true e' l=>match vk (.slice e') (.slice e) l with
   | some l=>.br (decide (l2.length=l.length)) (.br l2.isEmpty (.ret (.v (.int .i64) (0:Int))) (.wr id (.row true e l2) (.ret (.v (.int .i64) (l2.length:Int))))) .fail
   | none=>.fail
  | _=>.fail
 | _=>.fail
def zDS (e:Ty) (p x:zh E):Dec E (zh E):=zct (.slice e) x (zHn e p)
def zix (n:Int):Option Nat:=zjo (fun n:Int=>bif decide (0<n)&&decide (n<4294967296) then some n.toNat else none) n
theorem zve (n:Int):zix n=bif decide (0<n)&&decide (n<4294967296) then some n.toNat else none:=by delta zix;rw [zad]
def ztK (e:Ty) (fresh:Nat) (p x:zh E):Dec E (zh E) :=
 match zss (E:=E) e,x with
 | some z,.v (.int .i64) n=>.opt _ (zix n) fun k=>match p with
  | .full _ _=>.fail
  | p=>zsw e fresh p (List.replicate k z)
 | _,_=>.fail
def zpz (e:Ty) (fresh:Nat) (p c:zh E):Dec E (zh E) :=
 match p,c with
 | .v (.int .i64) n,.v (.int .i64) m=>match zss e with
  | some z=>.br (decide (n=m)) (.opt _ (W4 n) fun k=>.wr fresh (.row true e (List.replicate k z)) (.ret (.own fresh))) .fail
  | none=>.fail
 | _,_=>.fail
def zlD (fields:Nat->Option (Nat×Nat)) (cs:List (zh E)):List (Nat×zh E)->Option (List (zh E))
 | []=>some cs
 | (i,x)::r=>match fields i with
  | some (off,n)=>if Nat.beq (uZ x).length n&&Nat.ble (off+n) cs.length then zlD fields (zaa cs off (uZ x)) r else none
  | none=>none
def zBB (tab:List (Nat×TI)) (i:TI) (parts:List (Nat×zh E)):Dec E (zh E) :=
 let place (j:Nat):Option (Nat×Nat):=match i.fields[j]? with
  | some (off,t)=>(look tab t).map fun u=>(off,u.size)
  | none=>if Nat.blt j i.alen then (look tab i.elem).map fun u=>(j*u.size,u.size) else none
 if i.agg&&parts.all (fun p=>(uZ p.2).all zh.leaf) then
  match zlD place (i.zero.map Z.toP) parts with
  | some cs=>.ret (.agg cs)
  | none=>.fail
 else .fail
def zh3 {α:Type}(e:Ty) (k:List (Den E.T e)->Dec E α):List (zh E)->List (Den E.T e)->Dec E α
 | [],acc=>k acc
 | p::r,acc=>zct e p fun x=>zh3 e k r (acc++[x])
def zn1 (i u:TI) (fresh:Nat) (len:Nat) (parts:List (Nat×zh E)):Dec E (zh E) :=
 if i.sl&&decide (parts.map (·.1)=List.range len)&&Nat.ble (len*u.size) 16777216 then
  match i.ty with
  | some (.slice e)=>zh3 e (fun l=>.wr fresh (.row true e l) (.ret (.own fresh))) (parts.map (·.2)) []
  | _=>if Nat.beq u.size 1&&parts.all (fun p=>p.2.leaf) then .wr fresh (.box true (parts.map (·.2))) (.ret (.bsl fresh len)) else .fail
 else .fail
def zrr (i:TI) (p q:zh E):Option Bool:=match p,q with
 | .v .bool a,.v .bool b=>if zbg i .bool then some (decide (a=b)) else none
 | .v (.int k) a,.v (.int k') b=>if zbg i (.int k) then (vk (E:=E) (.int k') (.int k) b).map fun b=>ieq k a b else none
 | .v .str a,.v .str b=>if zbg i .str then some (decide (a=b)) else none
 | .nilfn,.nilfn=>if i.fk then some true else none
 | .nilfn,.fn _ _=>if i.fk then some false else none
 | .fn _ _,.nilfn=>if i.fk then some false else none
 | _,_=>none
def zjp:List (Option Bool)->Option Bool
 | []=>some true
 | [a]=>a
 | a::r=>match a,zjp r with | some x,some y=>some (x&&y) | _,_=>none
def eqT (tab:List (Nat×TI)):Nat->TI->List (zh E)->List (zh E)->Option Bool
 | 0,_,_,_=>none
 | d+1,i,ps,qs =>
  if i.agg then
   if i.cmp then
    if Nat.beq i.alen 0 then zjp (i.fields.map fun f=>match look tab f.2 with | some u=>eqT tab d u (sub ps f.1 u.size) (sub qs f.1 u.size) | none=>none)
    else match look tab i.elem with
     | some u=>zjp ((List.range i.alen).map fun j=>eqT tab d u (sub ps (j*u.size) u.size) (sub qs (j*u.size) u.size))
     | none=>none
   else none
  else match ps,qs with
   | [p],[q]=>zrr i p q
   | _,_=>none
def VF (b:Bool):Dec E (zh E):= .ret (.v .bool b)
def XI (k:IntKind) (o:Option (zV k)):Dec E (zh E):=match o with | some x=>.ret (.v (.int k) x) | none=>.fail
def zoX:(k:IntKind)->zV k->Bool
 | k,x=>ieq k x (zbz k 0)
def eqD (tab:List (Nat×TI)) (i:TI) (p q:zh E):Option Bool :=
 if i.agg then match zro p,zro q with | some a,some b=>eqT tab 50 i a b | _,_=>none else zrr i p q
def zGp (tab:List (Nat×TI)) (i:TI) (op:BinOp) (p q:zh E):Dec E (zh E) :=
 match op with
 | .eql=>match eqD tab i p q with | some b=>VF b | none=>.fail
 | .neq=>match eqD tab i p q with | some b=>VF (!b) | none=>.fail
 | .shl=>match p,q with
  | .v (.int k) a,.v (.int .i64) n=>.br (decide (n<0)) .fail (XI k (zBm k a (min n.toNat k.bits)))
  | .v (.int k) a,.v (.int .u64) n=>XI k (zBm k a (min n.toNat k.bits))
  | _,_=>.fail
 | .shr=>match p,q with
  | .v (.int k) a,.v (.int .i64) n=>.br (decide (n<0)) .fail (XI k (zAH k a (min n.toNat k.bits)))
  | .v (.int k) a,.v (.int .u64) n=>XI k (zAH k a (min n.toNat k.bits))
  | _,_=>.fail
 | op=>match p,q with
  | .v (.int k) a,.v (.int k') b=>match vk (E:=E) (.int k') (.int k) b with
   | some b=>match op with
    | .add=>XI k (zGv k a b) | .sub=>XI k (zGD k a b) | .mul=>XI k (zGU k a b)
    | .quo=>.br (zoX k b) .fail (XI k (zxr k a b)) | .rem=>.br (zoX k b) .fail (XI k (zGK k a b))
    | .and=>XI k (zGW k a b) | .or=>XI k (ior k a b) | .xor=>XI k (zGf k a b) | .andNot=>XI k (zxS k a b)
    | .lss=>VF (ilt k a b) | .leq=>VF (ile k a b) | .gtr=>VF (ilt k b a) | .geq=>VF (ile k b a)
    | _=>.fail
   | none=>.fail
  | .v .str a,.v .str b=>match op with
   | .add=>.br (decide (a.size+b.size<4294967296)) (.ret (.v .str (a++b))) .fail
   | _=>.fail
  | _,_=>.fail
def unD (op:UnOp) (p:zh E):Dec E (zh E) :=
 match op,p with
 | .not,.v .bool b=>VF (!b)
 | .neg,.v (.int .u64) x=>.ret (.v (.int .u64) (0-x))
 | .neg,.v (.int .i64) x=>.ret (.v (.int .i64) (w64 (0-x)))
 | .xor,.v (.int .u64) x=>.ret (.v (.int .u64) (~~~x))
 | _,_=>.fail
def zDV (d:TI) (p:zh E):Dec E (zh E) :=
 match p,d.ty with
 | .v (.int k) x,some (.int k')=>XI k' (zD6 k k' x)
 | .v .str s,some .str=>.ret (.v .str s)
 | _,_=>.fail
def zg8 (i:Int) (z:zh E) (ok:Bool):List (zh E×zh E)->Dec E (zh E)
 | []=>.ret (if ok then .tuple [z,.v .bool false] else z)
 | (.v (.int .i64) k,x)::r=>.br (decide (i=k)) (.ret (if ok then .tuple [x,.v .bool true] else x)) (zg8 i z ok r)
 | _::_=>.fail
def zub (i:TI) (z:zh E) (p k:zh E) (ok:Bool):Dec E (zh E) :=
 if i.mp then match k with
 | .v (.int .i64) n=>match p with
  | .map id=>.rd id fun
   | .map _ es=>zg8 n z ok es
   | _=>.fail
  | .nilm=>.ret (if ok then .tuple [z,.v .bool false] else z)
  | _=>.fail
 | _=>.fail
 else .fail
def zry (id:Nat) (i:Int) (x:zh E):List (zh E×zh E)->List (zh E×zh E)->Dec E (zh E)
 | acc,[]=>.wr id (.map true (acc++[(.v (.int .i64) i,x)])) (.ret .skip)
 | acc,(.v (.int .i64) k,y)::r=>.br (decide (i=k)) (.wr id (.map true (acc++(.v (.int .i64) i,x)::r)) (.ret .skip)) (zry id i x (acc++[(.v (.int .i64) k,y)]) r)
 | _,_=>.fail
def zw0 (i:TI) (p k x:zh E):Dec E (zh E) :=
 if i.mp then match k with
 | .v (.int .i64) n=>match p with
  | .map id=>.rd id fun
   | .map true es=>zry id n x [] es
   | _=>.fail
  | _=>.fail
 | _=>.fail
 else .fail
def zEN:Operand->Bool
 | .const (.slice none 0 0)=>true
 | _=>false
def zAR (i:TI) (op:BinOp) (p:zh E):Dec E (zh E) :=
 if i.sl then
  match op with
  | .eql=>go fun b=>b
  | .neq=>go fun b=> !b
  | _=>.fail
 else .fail
where
 go (f:Bool->Bool):Dec E (zh E):=match p with
  | .v (.slice _) l=>.br l.isEmpty (.any fun b=>VF (f b)) (VF (f false))
  | .nils=>.any fun b=>VF (f b)
  | .own id=>.rd id fun
   | .row _ _ l=>.br l.isEmpty (.any fun b=>VF (f b)) (VF (f false))
   | _=>.fail
  | .bsl _ _=>VF (f false)
  | _=>.fail
def opD (tab:List (Nat×TI)) (mv:Bool) (fresh:Nat) (ρ:Operand->zh E) (o:Op):Dec E (zh E) :=
 let T {α:Type}(t:Nat) (k:TI->Dec E α):Dec E α:=match look tab t with | some i=>k i | none=>.fail
 match o with
 | .move x | .assign x=>.ret (ρ x)
 | .pick c a b=>match ρ c with
  | .v .bool t=>.br t (.ret (ρ a)) (.ret (ρ b))
  | _=>.fail
 | .alloc t=>T t fun i=>zAm i fresh
 | .box t x=>T t fun i=>zG3 i fresh (ρ x)
 | .build t parts=>T t fun i=>zBB tab i (parts.toList.map fun p=>(p.1,ρ p.2))
 | .buildSlice t len parts=>T t fun i=>T i.elem fun u=>zn1 i u fresh len (parts.toList.map fun p=>(p.1,ρ p.2))
 | .load t a=>T t fun i=>zDA mv i (ρ a)
 | .store t a x=>T t fun i=>zBn mv i (ρ a) (ρ x)
 | .nilCheck x=>match ρ x with
  | .ptr id off=>.ret (.ptr id off) | .eptr e id n off=>.ret (.eptr e id n off) | .rptr cs=>.ret (.rptr cs) | .fn f cs=>.ret (.fn f cs) | _=>.fail
 | .binOp op t x y _=>T t fun i=>if zEN y then zAR i op (ρ x) else zGp tab i op (ρ x) (ρ y)
 | .unOp op _ x=>unD op (ρ x)
 | .convert s d x=>T s fun _=>T d fun i=>zDV i (ρ x)
 | .makeFunc (.func f) first captured=>if first.isEmpty then .ret (.fn f (captured.toList.map ρ)) else if captured.isEmpty then .ret (.bfn f (first.toList.map ρ)) else .fail
 | .makeSlice t l c=>T t fun i=>match i.ty with | some (.slice e)=>zpz e fresh (ρ l) (ρ c) | _=>.fail
 | .slice t x lo hi mx=>T t fun i=>zA7 i (look tab i.elem) mv fresh (ρ x) (lo.map ρ) (hi.map ρ) (mx.map ρ)
 | .fieldAddr t x f=>T t fun i=>zqe i (ρ x) f
 | .field t x f=>T t fun i=>zBw tab i (ρ x) f
 | .indexAddr t x ix=>T t fun i=>T i.elem fun u=>match ρ ix with
  | .v (.int .i64) k=>zqb i u (ρ x) k
  | _=>.fail
 | .index t x ix=>T t fun i=>T i.elem fun u=>match ρ ix with
  | .v (.int .i64) k=>zq8 i u (ρ x) k
  | _=>.fail
 | .makeMap _ none=>.wr fresh (.map true []) (.ret (.map fresh))
 | .insert t m k x=>T t fun i=>zw0 i (ρ m) (ρ k) (ρ x)
 | .lookup t m k ok=>T t fun i=>T i.elem fun u=>zub i (zlK u) (ρ m) (ρ k) ok
 | .extract t n=>match ρ t with
  | .tuple vs=>match vs[n]? with | some p=>.ret p | none=>.fail
  | _=>.fail
 | .call {callee:= .builtin .len,args,argTypes}=>match argTypes[0]?,args[0]? with
  | some t,some x=>T t fun i=>zHd i (ρ x)
  | _,_=>.fail
 | .call {callee:= .builtin .append,args,argTypes}=>match argTypes.toList,args.toList with
  | [t,t2],[x,y]=>T t fun i=>T t2 fun j=>match i.ty with
   | some (.slice e)=>if j.sl then zw8 e fresh (ρ x) (ρ y) else if zbg j (.int .i64) then ztK e fresh (ρ x) (ρ y) else .fail
   | _=>.fail
  | _,_=>.fail
 | .call {callee:= .builtin .copy,args,argTypes}=>match argTypes.toList,args.toList with
  | [t,t2],[x,y]=>T t fun i=>T t2 fun j=>match i.ty with
   | some (.slice e)=>if j.sl then zDS e (ρ x) (ρ y) else .fail
   | _=>.fail
  | _,_=>.fail
 | .call {callee:= .builtin .min,args,..}=>match args.toList.map ρ with
  | [.v (.int .i64) a,.v (.int .i64) b]=>XI .i64 (zt3 .i64 a b)
  | [.v (.int .u64) a,.v (.int .u64) b]=>XI .u64 (zt3 .u64 a b)
  | [.v (.int .i64) a,.v (.int .i64) b,.v (.int .i64) c]=>match zt3 .i64 a b with | some x=>XI .i64 (zt3 .i64 x c) | none=>.fail
  | _=>.fail
 | .call {callee:= .builtin .max,args,..}=>match args.toList.map ρ with
  | [.v (.int .i64) a,.v (.int .i64) b]=>XI .i64 (ztX .i64 a b)
  | [.v (.int .u64) a,.v (.int .u64) b]=>XI .u64 (ztX .u64 a b)
  | [.v (.int .i64) a,.v (.int .i64) b,.v (.int .i64) c]=>match ztX .i64 a b with | some x=>XI .i64 (ztX .i64 x c) | none=>.fail
  | _=>.fail
 | _=>.fail
end
end Go.Pe
namespace Go.Pe
noncomputable section
variable {E:yw}
inductive SK where
 | any | val (τ:Ty) | ptr (j:Nat) | own (j:Nat) | fn (f:FuncId) (caps:List SK) | bsl (j n:Nat) | nilfn | nils | fns (fs:List FuncId) | map (j:Nat) | yld | full (e:Ty) | aptr (e:Ty) (j:Nat)
inductive BK where
 | box (w:Bool) (ks:List SK) | row (w:Bool) (e:Ty) | gone | map (es:List (Int×SK))
structure xS where
 vals:List SK
 blks:List BK
mutual
def SK.holes:SK->List Ty
 | .val τ=>[τ]
 | .full e=>[.slice e]
 | .yld=>[.int .i64,.int .i64]
 | .fn _ ks=>SK.holesL ks
 | _=>[]
def SK.holesL:List SK->List Ty
 | []=>[]
 | k::ks=>k.holes++SK.holesL ks
end
def BK.holes:BK->List Ty
 | .box _ ks=>SK.holesL ks
 | .row _ e=>[.slice e]
 | .gone=>[]
 | .map es=>SK.holesL (es.map (·.2))
def BK.holesL:List BK->List Ty
 | []=>[]
 | b::bs=>b.holes++BK.holesL bs
def xS.holes (S:xS):List Ty:=SK.holesL S.vals++BK.holesL S.blks
def zsq (e:Ty) (p:zh E):zh E:=match p with
 | .v (.slice e') l=>match vk (E:=E) (.slice e') (.slice e) l with | some l=>.full e l | none=>.any
 | _=>.any
def zzD (p q:zh E):zh E:=match p,q with
 | .v (.int .i64) n,.v (.int .i64) i=>.yld n i
 | _,_=>.any
mutual
def xP (N:Nat->Nat):SK->List (zh E)->zh E×List (zh E)
 | .any,r=>(.any,r)
 | .val _,p::r=>(p,r)
 | .val _,[]=>(.any,[])
 | .full e,p::r=>(zsq e p,r)
 | .full _,[]=>(.any,[])
 | .aptr e j,r=>(.eptr e (N j) 0 0,r)
 | .ptr j,r=>(.ptr (N j) 0,r)
 | .own j,r=>(.own (N j),r)
 | .bsl j n,r=>(.bsl (N j) n,r)
 | .nilfn,r=>(.nilfn,r)
 | .nils,r=>(.nils,r)
 | .fns fs,r=>(.agg (fs.map fun f=>.fn f []),r)
 | .map j,r=>(.map (N j),r)
 | .yld,p::q::r=>(zzD p q,r)
 | .yld,r=>(.any,r)
 | .fn f ks,r=>let x:=yp N ks r;(.fn f x.1,x.2)
def yp (N:Nat->Nat):List SK->List (zh E)->List (zh E)×List (zh E)
 | [],r=>([],r)
 | k::ks,r=>let x:=xP N k r;let y:=yp N ks x.2;(x.1::y.1,y.2)
end
def wD (N:Nat->Nat):BK->List (zh E)->Blk E×List (zh E)
 | .box w ks,r=>let x:=yp N ks r;(.box w x.1,x.2)
 | .row w e,p::r=>(match p with | .v (.slice e') l=>(match vk (E:=E) (.slice e') (.slice e) l with | some l=>.row w e l | none=>.free) | _=>.free,r)
 | .row _ _,[]=>(.free,[])
 | .gone,r=>(.free,r)
 | .map es,r=>let x:=yp N (es.map (·.2)) r;(.map false (((es.map (·.1)).map fun k=>zh.v (.int .i64) k).zip x.1),x.2)
def yu (N:Nat->Nat):List BK->List (zh E)->List (Blk E)
 | [],_=>[]
 | b::bs,r=>let x:=wD N b r;x.1::yu N bs x.2
def yx (N:Nat->Nat) (S:xS) (ps:List (zh E)):List (zh E)×List (Blk E) :=
 let x:=yp N S.vals ps
 (x.1,yu N S.blks x.2)
abbrev Ren:=List (Nat×Option Nat)
def Ren.get (ρ:Ren) (j:Nat):Option (Option Nat):=match ρ with
 | []=>none
 | (i,x)::r=>if Nat.beq i j then some x else Ren.get r j
def Ren.bind (ρ:Ren) (j:Nat) (x:Option Nat):Option Ren:=match ρ.get j with
 | none=>some (ρ++[(j,x)])
 | some (some y)=>match x with | some z=>if Nat.beq y z then some ρ else none | none=>none
 | some none=>none
def zwK:List FuncId->List (zh E)->Bool
 | [],[]=>true
 | f::fs,.fn g []::ps=>Nat.beq f g&&zwK fs ps
 | _,_=>false
theorem zx4:∀(fs:List FuncId) (ps:List (zh E)),zwK fs ps=true->ps=fs.map fun f=>.fn f []
 | [],[],_=>rfl
 | f::fs,.fn g []::ps,h=>by
  simp only [zwK,zJB] at h;rw [zKw,zx4 fs ps h.2,zJH h.1]
 | [],_::_,h=>by simp [zwK] at h
 | _::_,[],h=>by simp [zwK] at h
mutual
def xE:SK->zh E->Ren×List (zh E)->Option (Ren×List (zh E))
 | .any,_,s=>some s
 | .val _,p,s=>some (s.1,s.2++[p])
 | .ptr j,.ptr id off,s=>if Nat.beq off 0 then (s.1.bind j (some id)).map fun ρ=>(ρ,s.2) else none
 | .full e,.full e' l,s=>if decide (e=e') then some (s.1,s.2++[.v (.slice e') l]) else none
 | .aptr e j,.eptr e' id k off,s=>if decide (e=e')&&Nat.beq k 0&&Nat.beq off 0 then (s.1.bind j (some id)).map fun ρ=>(ρ,s.2) else none
 | .own j,.own id,s=>(s.1.bind j (some id)).map fun ρ=>(ρ,s.2)
 | .own j,.nils,s=>(s.1.bind j none).map fun ρ=>(ρ,s.2)
 | .bsl j n,.bsl id m,s=>if Nat.beq n m then (s.1.bind j (some id)).map fun ρ=>(ρ,s.2) else none
 | .nilfn,.nilfn,s=>some s
 | .nils,.nils,s=>some s
 | .fns fs,.agg ps,s=>if zwK fs ps then some s else none
 | .map j,.map id,s=>(s.1.bind j (some id)).map fun ρ=>(ρ,s.2)
 | .yld,.yld n i,s=>some (s.1,s.2++[.v (.int .i64) n,.v (.int .i64) i])
 | .fn f ks,.fn g ps,s=>if Nat.beq f g then ZN ks ps s else none
 | _,_,_=>none
def ZN:List SK->List (zh E)->Ren×List (zh E)->Option (Ren×List (zh E))
 | [],[],s=>some s
 | k::ks,p::ps,s=>match xE k p s with | some s=>ZN ks ps s | none=>none
 | _,_,_=>none
end
def SK.solid:SK->Bool
 | .any=>false | .val τ=>τ.leaf | .yld=>false | .fns _=>false | _=>true
def zkQ:List Int->List (zh E×zh E)->Bool
 | [],[]=>true
 | k::ks,(.v (.int .i64) n,_)::es=>decide (k=n)&&zkQ ks es
 | _,_=>false
def vS (H:List (Blk E)):List BK->Nat->Ren×List (zh E)->Option (Ren×List (zh E))
 | [],_,s=>some s
 | .gone::bs,j,s=>vS H bs (j+1) s
 | b::bs,j,s=>match s.1.get j with
  | some (some id)=>match b,zn H id with
   | .box w ks,.box w' cs=>if (!w||w')&&ks.all SK.solid then (match ZN ks cs s with | some s=>vS H bs (j+1) s | none=>none) else none
   | .row w e,.row w' e' l=>if w==w' then (match vk (E:=E) (.slice e') (.slice e) l with | some l=>vS H bs (j+1) (s.1,s.2++[.v (.slice e) l]) | none=>none) else none
   | .map ks,.map _ es=>if zkQ (ks.map (·.1)) es then (match ZN (ks.map (·.2)) (es.map (·.2)) s with | some s=>vS H bs (j+1) s | none=>none) else none
   | _,_=>none
  | some none=>match b with
   | .row _ e=>vS H bs (j+1) (s.1,s.2++[.v (.slice e) []])
   | _=>none
  | none=>none
def Ren.ids:Ren->List Nat
 | []=>[]
 | (_,some id)::r=>id::Ren.ids r
 | (_,none)::r=>Ren.ids r
def zl2:List Nat->Bool
 | []=>true
 | a::r=> !(r.any fun b=>Nat.beq a b)&&zl2 r
def zo5 (a b:List Nat):Bool:=a.all fun x=> !(b.any fun y=>Nat.beq x y)
def Ren.under (ρ:Ren) (bs:List BK):Bool:=ρ.all fun x=>match bs[x.1]? with | some .gone=>false | some _=>true | none=>false
def W7 (ρ0:Ren) (S:xS) (ps:List (zh E)) (H:List (Blk E)):Option (HL E.T S.holes×Ren×List Nat) :=
 match ZN S.vals ps (ρ0,[]) with
 | some s=>match vS H S.blks 0 s with
  | some s=>match zaR S.holes s.2 H with
   | some x=>if s.1.under S.blks&&zl2 s.1.ids&&zo5 s.1.ids x.2 then some (x.1,s.1,x.2) else none
   | none=>none
  | none=>none
 | none=>none
structure Iso (E:yw) (ts:List Ty) where
 G:Type
 to:G->HL E.T ts
 of:HL E.T ts->G
 law:∀x,to (of x)=x
inductive Grp where
 | one (τ:Ty) | str (n:Nat)
def Z0 (E:yw):List Grp->List Ty
 | []=>[]
 | .one τ::gs=>τ::Z0 E gs
 | .str n::gs=>E.leaves n++Z0 E gs
@[reducible] def GL (E:yw):List Grp->Type
 | []=>Unit
 | .one τ::gs=>Den E.T τ×GL E gs
 | .str n::gs=>E.T n×GL E gs
def HL.app {T:Nat->Type}:(a b:List Ty)->HL T a->HL T b->HL T (a++b)
 | [],_,_,y=>y
 | _::a,b,x,y=>(p1 x,HL.app a b (p2 x) y)
def HL.fst {T:Nat->Type}:(a b:List Ty)->HL T (a++b)->HL T a
 | [],_,_=>()
 | _::a,b,x=>(p1 x,HL.fst a b (p2 x))
def HL.snd {T:Nat->Type}:(a b:List Ty)->HL T (a++b)->HL T b
 | [],_,x=>x
 | _::a,b,x=>HL.snd a b (p2 x)
theorem HL.app_fst_snd {T:Nat->Type}:∀(a b:List Ty) (x:HL T (a++b)),HL.app a b (HL.fst a b x) (HL.snd a b x)=x
 | [],_,_=>rfl
 | _::a,b,x=>by simp only [HL.app,HL.fst,HL.snd,HL.app_fst_snd a b];rfl
def GL.to:(gs:List Grp)->GL E gs->HL E.T (Z0 E gs)
 | [],_=>()
 | .one _::gs,x=>(p1 x,GL.to gs (p2 x))
 | .str n::gs,x=>HL.app (E.leaves n) (Z0 E gs) (E.unpack n (p1 x)) (GL.to gs (p2 x))
def GL.of:(gs:List Grp)->HL E.T (Z0 E gs)->GL E gs
 | [],_=>()
 | .one _::gs,x=>(p1 x,GL.of gs (p2 x))
 | .str n::gs,x=>(E.pack n (HL.fst (E.leaves n) (Z0 E gs) x),GL.of gs (HL.snd (E.leaves n) (Z0 E gs) x))
theorem GL.to_of:∀(gs:List Grp) (x:HL E.T (Z0 E gs)),GL.to gs (GL.of gs x)=x
 | [],_=>rfl
 | .one _::gs,x=>by simp only [GL.to,GL.of,GL.to_of gs];rfl
 | .str n::gs,x=>by simp only [GL.to,GL.of,GL.to_of gs,E.up];exact HL.app_fst_snd _ _ _
def HL.cast {T:Nat->Type}{a b:List Ty}(h:a=b) (x:HL T a):HL T b:=h▸x
def grp {ts:List Ty}(gs:List Grp) (h:Z0 E gs=ts):Iso E ts :=
 {G:=GL E gs,to:=fun g=>HL.cast h (GL.to gs g),of:=fun x=>GL.of gs (HL.cast h.symm x),law:=fun x=>by subst h;exact GL.to_of gs x}
structure zC (E:yw) where
 inn:xS
 out:xS
 gi:Iso E inn.holes
 go:Iso E out.holes
 F:gi.G->Option go.G
inductive yD (A B C:Type) where
 | again (a:A) | brk (b:B) | ret (c:C)
structure zP (E:yw) where
 slots:List Nat
 inn:xS
 brkId:Nat
 bslots:List Nat
 brk:xS
 rslots:List Nat
 ret:xS
 gi:Iso E inn.holes
 gb:Iso E brk.holes
 gr:Iso E ret.holes
inductive Ex where
 | normal | exit (id:Nat) | ret
 deriving DecidableEq
def upd (H:List (Blk E)):List Nat->List (Blk E)
 | []=>H
 | id::r=>upd (H.set id (frz (zn H id))) r
def U9 (fresh:Nat):List (Blk E)->Nat->List (Blk E)->List (Blk E)
 | [],_,H=>H
 | b::bs,t,H=>U9 fresh bs (t+1) (H.set (fresh+t) b)
def wg (ρ:Ren) (fresh:Nat):List BK->List BK->List (Blk E)->Nat->List (Blk E)->Option (List (Blk E))
 | [],_,bs,_,H=>some (U9 fresh bs 0 H)
 | .box true _::ks,.box true _::os,b::bs,j,H=>match ρ.get j with
  | some (some id)=>wg ρ fresh ks os bs (j+1) (H.set id b)
  | _=>none
 | .box false _::ks,.gone::os,_::bs,j,H=>wg ρ fresh ks os bs (j+1) H
 | .row true _::ks,.gone::os,_::bs,j,H=>match ρ.get j with
  | some (some id)=>wg ρ fresh ks os bs (j+1) (H.set id .dead)
  | some none=>wg ρ fresh ks os bs (j+1) H
  | none=>none
 | .row false _::ks,.gone::os,_::bs,j,H=>wg ρ fresh ks os bs (j+1) H
 | .map _::ks,.gone::os,_::bs,j,H=>wg ρ fresh ks os bs (j+1) H
 | _,_,_,_,_=>none
def zwE:List (zh E)->zh E
 | [p]=>p
 | ps=>.tuple ps
def zdP (ρ:Ren) (n fresh:Nat) (j:Nat):Nat:=if Nat.blt j n then (match ρ.get j with | some (some id)=>id | _=>fresh) else fresh+(j-n)
def W5 (H:List (Blk E)) (fresh:Nat):Nat->Bool
 | 0=>true
 | n+1=>(match zn H fresh with | .free=>true | _=>false)&&Nat.blt fresh H.length&&W5 H (fresh+1) n
def BK.handsOut:BK->Bool
 | .box w _=>w | .map _=>false | _=>true
def BK.owns:BK->Bool
 | .box w _=>w | .map _=>false | _=>true
def zdZ {R:Type}(s:zC E) (fresh:Nat) (args:List (zh E)) (H:List (Blk E)) (K:zh E->List (Blk E)->Option R):Option R :=
 match W7 [] s.inn args H with
 | some (x,ρ,fz)=>(s.F (s.gi.of x)).bind fun y =>
  let n:=s.inn.blks.length;let r:=yx (zdP ρ n fresh) s.out (HL.toP s.out.holes (s.go.to y))
  match wg ρ fresh s.inn.blks s.out.blks r.2 0 (upd H fz) with
  | some H'=>if W5 H fresh (s.out.blks.length-n)&&s.out.blks.all BK.handsOut then K (zwE r.1) H' else none
  | none=>none
 | none=>none
structure ZG (E:yw) where
 inn:xS
 e:Ty
 F:HL E.T inn.holes->Option (List (Den E.T e))
structure Cfg (E:yw) where
 P:Program
 tab:List (Nat×TI)
 specs:FuncId->List (zC E)
 loops:Nat->Option (zP E)
 mv:Nat->Nat->Bool
 kept:Ren
 pick:Nat->Nat->List Nat
 yl:Bool
 ye:Ty
 yd:List (Den E.T ye)
 iters:FuncId->Option (ZG E)
abbrev Inl (E:yw) (R:Type):=FuncId->List (zh E)->List (Blk E)->(zh E->List (Blk E)->Option R)->Option R
def zng:∀R,Inl E R:=fun _ _ _ _ _=>none
def Zg (env:List (zh E)):Operand->zh E
 | .tmp t=>(env[t]?).getD .any
 | .const v=>zsC v
 | .func f=>.fn f []
 | .global _=>.any
def put (env:List (zh E)) (d:Option Nat) (p:zh E):List (zh E):=match d with | some t=>env.set t p | none=>env
def V2 (env:List (zh E)) (o:Op):Option (FuncId×List (zh E)):=match o with
 | .call {callee:= .value f,args,..}=>match Zg env f with
  | .fn g caps=>some (g,args.toList.map (Zg env)++caps)
  | .bfn g first=>some (g,first++args.toList.map (Zg env))
  | _=>none
 | _=>none
variable (C:Cfg E)
def XY {R:Type}(ops:Array Oper) (o:Oper) (env:List (zh E)) (K:Bool->List (zh E)->Option R):Option R :=
 match o.guard with
 | none=>K true env
 | some (j,want)=>match (ops[j]?).bind (·.dst) with
  | none=>none
  | some d=>match (env[d]?).getD .any with
   | .v .bool b=>bif b then K want (env.set d (.v .bool true)) else K (!want) (env.set d (.v .bool false))
   | .skip=>K false env
   | _=>none
def zbo:Op->Nat
 | .alloc _ | .box .. | .buildSlice .. | .makeSlice .. | .slice .. | .makeMap .. =>1
 | .call {callee:= .builtin .append,..}=>1
 | .call {callee:= .value _,..}=>2
 | _=>0
def zuW (ops:Array Oper):Nat:=ops.toList.foldl (fun n o=>n+zbo o.op) 0
def zr9 {R:Type}(ss:List (zC E)) (fresh:Nat) (args:List (zh E)) (H:List (Blk E)) (K:zh E->List (Blk E)->Option R):List Nat->Option R
 | []=>none
 | [k]=>match ss[k]? with
  | some s=>zdZ s fresh args H K
  | none=>none
 | k::ks=>match ss[k]? with
  | some s=>(zdZ s fresh args H K).or (zr9 ss fresh args H K ks)
  | none=>none
def zC3 (env:List (zh E)) (o:Op):Option (zh E):=match o with
 | .call {callee:= .value f,args,..}=>match Zg env f,args.toList with
  | .yld _ _,[x]=>some (Zg env x)
  | _,_=>none
 | _=>none
def zHH (H:List (Blk E)):Bool:=H.all fun | .box w _=>w | .map w _=>w | _=>true
open Classical in
noncomputable def Y5 {α:Type}(l:List α) (j:Int) (z:α):Option Unit:=if 0<=j/\l[j.toNat]? =some z then some () else none
def noY:zh E->zh E
 | .yld _ _=>.any
 | p=>p
def zdH:List (zh E)->List (zh E)
 | []=>[]
 | p::r=>p::r.map noY
noncomputable def Ze {R:Type}(rid i fresh spare:Nat) (o:Oper) (env:List (zh E)) (H:List (Blk E)) (K:zh E->List (Blk E)->Option R):Option R :=
 match V2 env o.op with
 | some (f,args)=>zr9 (C.specs f) fresh args H K (C.pick rid i)
 | none =>
  let g:=if Nat.beq (zbo o.op) 0 then spare else fresh
  if W5 H g 1 then (opD C.tab (C.mv rid i) g (Zg env) o.op).cps H K else none
noncomputable def zD0 {R:Type}(rid i fresh spare:Nat) (o:Oper) (env:List (zh E)) (H:List (Blk E)) (K:List (zh E)->List (Blk E)->Option R):Option R :=
 match o.op with
 | .move (.tmp 0)=>K (put env o.dst ((env[0]?).getD .any)) H
 | _=>match zC3 env o.op with
  | some x=>match (env[0]?).getD .any with
   | .yld n j=>(zct C.ye x fun z=>(.ret z:Dec E (Den E.T C.ye))).cps H fun z H=>if zHH H then (Y5 C.yd j z).bind fun _=>K (put (env.set 0 (.yld n (j+1))) o.dst (.v .bool true)) H else none
   | _=>none
  | none=>Ze C rid i fresh spare o env H fun p H=>K (put env o.dst (noY p)) H
noncomputable def zfN {R:Type}(inl:Inl E R) (rid i fresh spare:Nat) (ops:Array Oper) (o:Oper) (env:List (zh E)) (H:List (Blk E))
  (K:List (zh E)->List (Blk E)->Option R):Option R :=
 XY ops o env fun yes env =>
  if yes then
   (if C.yl then zD0 C rid i fresh spare o env H K else Ze C rid i fresh spare o env H fun p H=>K (put env o.dst p) H)
  else K (put env o.dst .skip) H
noncomputable def zAY {R:Type}(inl:Inl E R) (rid spare:Nat) (ops:Array Oper):List Oper->Nat->Nat->List (zh E)->List (Blk E)->(List (zh E)->List (Blk E)->Option R)->Option R
 | [],_,_,env,H,K=>K env H
 | o::r,i,fresh,env,H,K=>zfN C inl rid i fresh spare ops o env H fun env H=>zAY inl rid spare ops r (i+1) (fresh+zbo o.op) env H K
def Dec.cpsL {α R:Type}:Dec E α->List (Blk E)->List Nat->List Nat->(α->List (Blk E)->List Nat->List Nat->Option R)->Option R
 | .ret a,H,rs,ws,K=>K a H rs ws
 | .fail,_,_,_,_=>none
 | .br b t e,H,rs,ws,K=>bif b then t.cpsL H rs ws K else e.cpsL H rs ws K
 | .opt _ o k,H,rs,ws,K=>o.bind fun x=>(k x).cpsL H rs ws K
 | .rd id k,H,rs,ws,K=>(k (zn H id)).cpsL H (id::rs) ws K
 | .wr id b k,H,rs,ws,K=>bif Nat.blt id H.length then k.cpsL (H.set id b) rs (id::ws) K else none
 | .any _,_,_,_,_=>none
def Zx (ρ:Ren):List BK->Nat->List Nat
 | [],_=>[]
 | .box true _::ks,j=>(match ρ.get j with | some (some id)=>[id] | _=>[])++Zx ρ ks (j+1)
 | .row true _::ks,j=>(match ρ.get j with | some (some id)=>[id] | _=>[])++Zx ρ ks (j+1)
 | _::ks,j=>Zx ρ ks (j+1)
def zmO {R:Type}(s:zC E) (fresh:Nat) (args:List (zh E)) (H:List (Blk E)) (K:zh E->List (Blk E)->List Nat->List Nat->Option R):Option R :=
 match W7 [] s.inn args H with
 | some (x,ρ,fz)=>(s.F (s.gi.of x)).bind fun y =>
  let n:=s.inn.blks.length;let m:=s.out.blks.length;let r:=yx (zdP ρ n fresh) s.out (HL.toP s.out.holes (s.go.to y))
  match wg ρ fresh s.inn.blks s.out.blks r.2 0 (upd H fz) with
  | some H'=>if W5 H fresh (m-n)&&s.out.blks.all BK.handsOut then K (zwE r.1) H' (ρ.ids++fz) (fz++Zx ρ s.inn.blks 0++List.range' fresh (m-n)) else none
  | none=>none
 | none=>none
def zhP {R:Type}(rid i fresh spare:Nat) (ops:Array Oper) (o:Oper) (env:List (zh E)) (H:List (Blk E))
  (K:List (zh E)->List (Blk E)->List Nat->List Nat->Option R):Option R :=
 XY ops o env fun yes env =>
  if yes then
   match V2 env o.op with
   | some (f,args)=>match C.pick rid i with
    | [k]=>match (C.specs f)[k]? with
     | some s=>zmO s fresh args H fun p H rs ws=>K (put env o.dst p) H rs ws
     | none=>none
    | _=>none
   | none =>
    if Nat.beq (zbo o.op) 0 then
     (if W5 H spare 1 then (opD C.tab (C.mv rid i) spare (Zg env) o.op).cpsL H [] [] fun p H rs ws=>K (put env o.dst p) H rs ws else none)
    else if W5 H fresh 1 then (opD C.tab (C.mv rid i) fresh (Zg env) o.op).cpsL H [fresh] [] fun p H rs ws=>K (put env o.dst p) H rs ws else none
  else K (put env o.dst .skip) H [] []
def zaD:List Oper->List Nat->List Nat
 | [],acc=>acc
 | o::r,acc=>zaD r (acc++[o.after.foldl (fun s e=>if Region.binds .any e then s|||2 ^ e.on|||acc.getD e.on 0 else s) 0])
def Zv:List Nat->Nat
 | []=>0
 | a::l=>Nat.lor (Zv l) (Nat.pow 2 a)
def zso (mask:Nat) (r w:Nat):List (Nat×Nat×Nat)->Bool
 | []=>true
 | (k,rk,wk)::l=>(Nat.testBit mask k||(Nat.beq (Nat.land wk r) 0&&Nat.beq (Nat.land wk w) 0&&Nat.beq (Nat.land rk w) 0))&&zso mask r w l
def VW {R:Type}(n:Nat) (K:Nat->R):R:=match n with
 | 0=>K 0
 | m+1=>K (m+1)
theorem WN {R:Type}(n:Nat) (K:Nat->R):VW n K=K n:=by cases n<;>rfl
def WK {R:Type}(rid spare:Nat) (ops:Array Oper):List Oper->List Nat->Nat->Nat->List (Nat×Nat×Nat)->List (zh E)->List (Blk E)->(List (zh E)->List (Blk E)->Option R)->Option R
 | [],_,_,_,_,env,H,K=>K env H
 | _::_,[],_,_,_,_,_,_=>none
 | o::r,mask::ms,i,fresh,log,env,H,K=>zhP C rid i fresh spare ops o env H fun env H rs ws =>
  match rs,ws with
  | [],[]=>WK rid spare ops r ms (i+1) (fresh+zbo o.op) log env H K
  | rs,ws=>VW (Zv rs) fun mr=>VW (Zv ws) fun mw =>
   if zso mask mr mw log&& !(Nat.testBit mw spare) then
    WK rid spare ops r ms (i+1) (fresh+zbo o.op) ((i,mr,mw)::log) env H K
   else none
def looks (ops:Array Oper) (o:Oper):List Nat:=o.looksAt ops
def zDe (a b:Option Nat):Bool:=match a,b with | some x,some y=>Nat.beq x y | _,_=>false
def zzw (a:Option Nat) (l:List Nat):Bool:=match a with | some x=>l.any fun y=>Nat.beq x y | none=>false
def zhs (ops:Array Oper):Bool :=
 let bef:=zaD ops.toList []
 (List.range ops.size).all fun j=>match ops[j]?,bef[j]? with
  | some oj,some m=>oj.after.all (fun e=> !Region.binds .any e||Nat.blt e.on j)&&(match oj.op with | .select .. =>false | _=>true) &&
   (List.range j).all fun i=>Nat.testBit m i||(match ops[i]? with
    | some oi=> !zDe oi.dst oj.dst&& !zzw oi.dst (looks ops oj)&& !zzw oj.dst (looks ops oi)
    | none=>true)
  | _,_=>false
def zF (env:List (zh E)) (l:List Nat):List (zh E):=l.map fun t=>(env[t]?).getD .any
def zvf (n:Nat) (l:List Nat) (ps:List (zh E)):List (zh E):=(l.zip ps).foldl (fun e x=>e.set x.1 x.2) (List.replicate n .any)
def ziN:Code->Nat
 | .region id _ _=>id
 | .seq a _=>ziN a
 | .block _ a=>ziN a
 | .loop a=>ziN a
 | .cond _ a _=>ziN a
 | _=>0
def entry (n:Nat) (slots:List Nat) (S:xS) (x:HL E.T S.holes):List (zh E)×List (Blk E) :=
 let r:=yx id S (HL.toP S.holes x)
 (zvf n slots r.1,r.2)
def yK {A B D:Type}(f:A->Option (yD A B D)):Nat->A->Option (yD Unit B D)
 | 0,_=>none
 | n+1,x=>(f x).bind fun
  | .again y=>yK f n y
  | .brk b=>some (.brk b)
  | .ret c=>some (.ret c)
def vv:Nat:=18446744073709551616
noncomputable def zX {A B D:Type}(f:A->Option (yD A B D)):A->Option (yD Unit B D):=zjo (yK f vv)
theorem YI {A B D:Type}(f:A->Option (yD A B D)) (x:A):zX f x=yK f vv x:=congrFun (zad _) x
abbrev zGS (E:yw):=∀R:Type,List (zh E)->List (Blk E)->(Ex->List (zh E)->List (Blk E)->Option R)->Option R
noncomputable def z9 (ex:zGS E) (n:Nat) (l:zP E) (x:l.gi.G):Option (yD l.gi.G l.gb.G l.gr.G) :=
 let s:=entry n l.slots l.inn (l.gi.to x)
 ex _ s.1 s.2 fun ex env H=>match ex with
  | .normal=>(W7 C.kept l.inn (zF env l.slots) H).map fun y=>.again (l.gi.of y.1)
  | .exit j=>if Nat.beq j l.brkId then (W7 C.kept l.brk (zF env l.bslots) H).map fun y=>.brk (l.gb.of y.1) else none
  | .ret=>(W7 C.kept l.ret (zF env l.rslots) H).map fun y=>.ret (l.gr.of y.1)
noncomputable def Zw {A B:Type}(f:B->A->Option A):List B->A->Option A
 | [],a=>some a
 | y::ys,a=>(f y a).bind (Zw f ys)
noncomputable def zkU (as body:zGS E) (n:Nat) (l:zP E) (t:Nat) (e:Ty) (y:Den E.T e) (z:l.gi.G):Option l.gi.G :=
 let s:=entry n l.slots l.inn (l.gi.to z)
 as _ (s.1.set t (.v e y)) s.2 fun ex env H=>match ex with
  | .normal=>body _ env H fun ex _ H=>match ex with
   | .normal=>(W7 C.kept l.inn (zF s.1 l.slots) H).map fun y=>l.gi.of y.1
   | _=>none
  | _=>none
def zhQ:Code->Bool
 | .skip=>true | .region _ _ _=>true | .seq a b=>zhQ a&&zhQ b | .cond _ a b=>zhQ a&&zhQ b | .block _ a=>zhQ a | .exit _=>true | _=>false
def zuJ (ops:Array Oper):Bool:=ops.toList.all fun o=>match o.dst with | some d=> !Nat.beq d 0 | none=>true
def SK.notY:SK->Bool
 | .yld=>false | _=>true
def zaV (slots:List Nat) (vals:List SK):Bool:=match slots,vals with
 | t::ts,.yld::ks=>Nat.beq t 0&&(ts.all fun s=> !Nat.beq s 0)&&ks.all SK.notY
 | _,_=>false
def zzE {R:Type}(p:zh E) (K:zh E->R):R:=match p with
 | .any=>K .any
 | .skip=>K .skip
 | .v τ x=>K (.v τ x)
 | .nils=>K .nils
 | .own id=>VW id fun id=>K (.own id)
 | .ptr id off=>VW id fun id=>VW off fun off=>K (.ptr id off)
 | p=>K p
theorem zBj {R:Type}(p:zh E) (K:zh E->R):zzE p K=K p:=by cases p<;>simp only [zzE,WN]
def zrJ {R:Type}:List (zh E)->(List (zh E)->R)->R
 | [],K=>K []
 | p::ps,K=>zzE p fun p=>zrJ ps fun ps=>K (p::ps)
theorem zr8 {R:Type}:∀(ps:List (zh E)) (K:List (zh E)->R),zrJ ps K=K ps
 | [],K=>rfl
 | p::ps,K=>by simp only [zrJ,zBj,zr8 ps]
def zvL {R:Type}(b:Blk E) (K:Blk E->R):R:=match b with
 | .box w cs=>zrJ cs fun cs=>K (.box w cs)
 | .row w e l=>K (.row w e l)
 | .free=>K .free
 | .dead=>K .dead
 | .map w es=>K (.map w es)
 | .rowh e l n k=>VW k fun k=>K (.rowh e l n k)
theorem ztL {R:Type}(b:Blk E) (K:Blk E->R):zvL b K=K b:=by cases b<;>simp only [zvL,zr8,WN]
def zst {R:Type}:List (Blk E)->(List (Blk E)->R)->R
 | [],K=>K []
 | b::bs,K=>zvL b fun b=>zst bs fun bs=>K (b::bs)
theorem zpm {R:Type}:∀(H:List (Blk E)) (K:List (Blk E)->R),zst H K=K H
 | [],K=>rfl
 | b::bs,K=>by simp only [zst,ztL,zpm bs]
def zzy {R:Type}(env:List (zh E)) (H:List (Blk E)) (K:List (zh E)->List (Blk E)->R):R:=zrJ env fun env=>zst H fun H=>K env H
theorem zz1 {R:Type}(env:List (zh E)) (H:List (Blk E)) (K:List (zh E)->List (Blk E)->R):zzy env H K=K env H:=by simp only [zzy,zr8,zpm]
def zrX {α R:Type}:List α->Nat->α->(List α->R)->R
 | [],_,_,K=>K []
 | _::l,0,p,K=>K (p::l)
 | x::l,t+1,p,K=>zrX l t p fun l=>K (x::l)
theorem zoC {α R:Type}:∀(l:List α) (t:Nat) (p:α) (K:List α->R),zrX l t p K=K (l.set t p)
 | [],_,_,_=>rfl
 | _::_,0,_,_=>rfl
 | x::l,t+1,p,K=>by simp only [zrX,zoC l,List.set]
def zri {R:Type}(env:List (zh E)) (d:Option Nat) (p:zh E) (K:List (zh E)->R):R:=match d with
 | some t=>zzE p fun p=>zrX env t p K
 | none=>K env
theorem zDa {R:Type}(env:List (zh E)) (d:Option Nat) (p:zh E) (K:List (zh E)->R):zri env d p K=K (put env d p):=by
 cases d<;>simp only [zri,put,zBj,zoC]
def Dec.cpsN {α R:Type}:Dec E α->List (Blk E)->(α->List (Blk E)->Option R)->Option R
 | .ret a,H,K=>K a H
 | .fail,_,_=>none
 | .br b t e,H,K=>bif b then t.cpsN H K else e.cpsN H K
 | .opt _ o k,H,K=>o.bind fun x=>(k x).cpsN H K
 | .rd id k,H,K=>(k (zn H id)).cpsN H K
 | .wr id b k,H,K=>bif Nat.blt id H.length then zvL b fun b=>zrX H id b fun H=>k.cpsN H K else none
 | .any k,H,K=>zlV ((k true).cpsN H K) ((k false).cpsN H K)
theorem Dec.cpsN_eq {α R:Type}:∀(d:Dec E α) (H:List (Blk E)) (K:α->List (Blk E)->Option R),d.cpsN H K=d.cps H K
 | .ret a,H,K=>rfl
 | .fail,_,_=>rfl
 | .br b t e,H,K=>by simp only [cpsN,cps,cpsN_eq t,cpsN_eq e]
 | .opt _ o k,H,K=>by simp only [cpsN,cps,cpsN_eq (k _)]
 | .rd id k,H,K=>by simp only [cpsN,cps,cpsN_eq (k _)]
 | .wr id b k,H,K=>by simp only [cpsN,cps,cpsN_eq k,ztL,zoC]
 | .any k,H,K=>by simp only [cpsN,cps,cpsN_eq (k _)]
def Dec.cpsLN {α R:Type}:Dec E α->List (Blk E)->List Nat->List Nat->(α->List (Blk E)->List Nat->List Nat->Option R)->Option R
 | .ret a,H,rs,ws,K=>K a H rs ws
 | .fail,_,_,_,_=>none
 | .br b t e,H,rs,ws,K=>bif b then t.cpsLN H rs ws K else e.cpsLN H rs ws K
 | .opt _ o k,H,rs,ws,K=>o.bind fun x=>(k x).cpsLN H rs ws K
 | .rd id k,H,rs,ws,K=>VW id fun id=>(k (zn H id)).cpsLN H (id::rs) ws K
 | .wr id b k,H,rs,ws,K=>bif Nat.blt id H.length then VW id fun id=>zvL b fun b=>zrX H id b fun H=>k.cpsLN H rs (id::ws) K else none
 | .any _,_,_,_,_=>none
theorem Dec.cpsLN_eq {α R:Type}:∀(d:Dec E α) (H:List (Blk E)) (rs ws:List Nat) (K:α->List (Blk E)->List Nat->List Nat->Option R),d.cpsLN H rs ws K=d.cpsL H rs ws K
 | .ret a,H,_,_,K=>rfl
 | .fail,_,_,_,_=>rfl
 | .br b t e,H,_,_,K=>by simp only [cpsLN,cpsL,cpsLN_eq t,cpsLN_eq e]
 | .opt _ o k,H,_,_,K=>by simp only [cpsLN,cpsL,cpsLN_eq (k _)]
 | .rd id k,H,_,_,K=>by simp only [cpsLN,cpsL,cpsLN_eq (k _),WN]
 | .wr id b k,H,_,_,K=>by simp only [cpsLN,cpsL,cpsLN_eq k,ztL,zoC,WN]
 | .any _,H,_,_,K=>rfl
def zwh {R:Type}(ops:Array Oper) (o:Oper) (env:List (zh E)) (K:Bool->List (zh E)->Option R):Option R :=
 match o.guard with
 | none=>K true env
 | some (j,want)=>match (ops[j]?).bind (·.dst) with
  | none=>none
  | some d=>match (env[d]?).getD .any with
   | .v .bool b=>bif b then zrX env d (.v .bool true) fun env=>K want env else zrX env d (.v .bool false) fun env=>K (!want) env
   | .skip=>K false env
   | _=>none
theorem zyx {R:Type}(ops:Array Oper) (o:Oper) (env:List (zh E)) (K:Bool->List (zh E)->Option R):zwh ops o env K=XY ops o env K:=by
 unfold zwh XY;simp only [zoC]
def zAg {R:Type}(rid i fresh spare:Nat) (o:Oper) (env:List (zh E)) (H:List (Blk E)) (K:zh E->List (Blk E)->Option R):Option R :=
 match V2 env o.op with
 | some (f,args)=>zr9 (C.specs f) fresh args H (fun p H=>zst H fun H=>K p H) (C.pick rid i)
 | none =>
  let g:=if Nat.beq (zbo o.op) 0 then spare else fresh
  if W5 H g 1 then (opD C.tab (C.mv rid i) g (Zg env) o.op).cpsN H K else none
theorem zEz {R:Type}(rid i fresh spare:Nat) (o:Oper) (env:List (zh E)) (H:List (Blk E)) (K:zh E->List (Blk E)->Option R):zAg C rid i fresh spare o env H K=Ze C rid i fresh spare o env H K:=by
 unfold zAg Ze;simp only [zpm,Dec.cpsN_eq]
def zEp {R:Type}(rid i fresh spare:Nat) (ops:Array Oper) (o:Oper) (env:List (zh E)) (H:List (Blk E)) (K:List (zh E)->List (Blk E)->Option R):Option R :=
 zwh ops o env fun yes env =>
  if yes then
   (if C.yl then zD0 C rid i fresh spare o env H K else zAg C rid i fresh spare o env H fun p H=>zri env o.dst p fun env=>K env H)
  else zri env o.dst .skip fun env=>K env H
theorem zGy {R:Type}(rid i fresh spare:Nat) (ops:Array Oper) (o:Oper) (env:List (zh E)) (H:List (Blk E)) (K:List (zh E)->List (Blk E)->Option R):zEp C rid i fresh spare ops o env H K=zfN C (zng _) rid i fresh spare ops o env H K:=by
 unfold zEp zfN;simp only [zyx,zDa,zEz]
def zDh {R:Type}(rid spare:Nat) (ops:Array Oper):List Oper->Nat->Nat->List (zh E)->List (Blk E)->(List (zh E)->List (Blk E)->Option R)->Option R
 | [],_,_,env,H,K=>K env H
 | o::r,i,fresh,env,H,K=>zEp C rid i fresh spare ops o env H fun env H=>VW (i+1) fun i=>VW (fresh+zbo o.op) fun fresh=>zDh rid spare ops r i fresh env H K
theorem zxH {R:Type}(rid spare:Nat) (ops:Array Oper):∀(l:List Oper) (i fresh:Nat) (env:List (zh E)) (H:List (Blk E)) (K:List (zh E)->List (Blk E)->Option R),zDh C rid spare ops l i fresh env H K=zAY C (zng _) rid spare ops l i fresh env H K
 | [],_,_,_,_,_=>rfl
 | o::r,i,fresh,env,H,K=>by simp only [zDh,zAY,zGy,WN,zxH rid spare ops r]
def zAx {R:Type}(rid i fresh spare:Nat) (ops:Array Oper) (o:Oper) (env:List (zh E)) (H:List (Blk E))
  (K:List (zh E)->List (Blk E)->List Nat->List Nat->Option R):Option R :=
 zwh ops o env fun yes env =>
  if yes then
   match V2 env o.op with
   | some (f,args)=>match C.pick rid i with
    | [k]=>match (C.specs f)[k]? with
     | some s=>zmO s fresh args H fun p H rs ws=>zst H fun H=>zri env o.dst p fun env=>K env H rs ws
     | none=>none
    | _=>none
   | none =>
    if Nat.beq (zbo o.op) 0 then
     (if W5 H spare 1 then (opD C.tab (C.mv rid i) spare (Zg env) o.op).cpsLN H [] [] fun p H rs ws=>zri env o.dst p fun env=>K env H rs ws else none)
    else if W5 H fresh 1 then (opD C.tab (C.mv rid i) fresh (Zg env) o.op).cpsLN H [fresh] [] fun p H rs ws=>zri env o.dst p fun env=>K env H rs ws else none
  else zri env o.dst .skip fun env=>K env H [] []
theorem zFs {R:Type}(rid i fresh spare:Nat) (ops:Array Oper) (o:Oper) (env:List (zh E)) (H:List (Blk E))
  (K:List (zh E)->List (Blk E)->List Nat->List Nat->Option R):zAx C rid i fresh spare ops o env H K=zhP C rid i fresh spare ops o env H K:=by
 unfold zAx zhP;simp only [zyx,zDa,zpm,Dec.cpsLN_eq]
def zpR {R:Type}(rid spare:Nat) (ops:Array Oper):List Oper->List Nat->Nat->Nat->List (Nat×Nat×Nat)->List (zh E)->List (Blk E)->(List (zh E)->List (Blk E)->Option R)->Option R
 | [],_,_,_,_,env,H,K=>K env H
 | _::_,[],_,_,_,_,_,_=>none
 | o::r,mask::ms,i,fresh,log,env,H,K=>zAx C rid i fresh spare ops o env H fun env H rs ws =>
  VW (i+1) fun i1=>VW (fresh+zbo o.op) fun fresh1 =>
  match rs,ws with
  | [],[]=>zpR rid spare ops r ms i1 fresh1 log env H K
  | rs,ws=>VW (Zv rs) fun mr=>VW (Zv ws) fun mw =>
   if zso mask mr mw log&& !(Nat.testBit mw spare) then
    zpR rid spare ops r ms i1 fresh1 ((i,mr,mw)::log) env H K
   else none
theorem zue {R:Type}(rid spare:Nat) (ops:Array Oper):∀(l:List Oper) (ms:List Nat) (i fresh:Nat) (log:List (Nat×Nat×Nat)) (env:List (zh E)) (H:List (Blk E)) (K:List (zh E)->List (Blk E)->Option R),zpR C rid spare ops l ms i fresh log env H K=WK C rid spare ops l ms i fresh log env H K
 | [],_,_,_,_,_,_,_=>by simp only [zpR,WK]
 | _::_,[],_,_,_,_,_,_=>by simp only [zpR,WK]
 | o::r,mask::ms,i,fresh,log,env,H,K=>by simp only [zpR,WK,zFs,WN,zue rid spare ops r]
noncomputable def exec:Code->zGS E
 | .skip,_,env,H,K=>K .normal env H
 | .region rid ops draw,_,env,H,K =>
  VW (zuW ops) fun n=>VW H.length fun L =>
  if C.yl&& !zuJ ops then none else
  if draw then (if zhs ops then zpR C rid (L+n) ops ops.toList (zaD ops.toList []) 0 L [] env (H++List.replicate (n+1) .free) fun env H=>zzy (if C.yl then zdH env else env) H fun env H=>K .normal env H else none) else zDh C rid (L+n) ops ops.toList 0 L env (H++List.replicate (n+1) .free) fun env H=>zzy env H fun env H=>K .normal env H
 | .seq a b,_,env,H,K=>exec a _ env H fun ex env H=>match ex with
  | .normal=>exec b _ env H K
  | ex=>K ex env H
 | .cond c a b,_,env,H,K=>match Zg env c with
  | .v .bool t=>bif t then exec a _ env H K else exec b _ env H K
  | _=>none
 | .block id a,_,env,H,K=>exec a _ env H fun ex env H=>match ex with
  | .exit j=>if Nat.beq j id then K .normal env H else K (.exit j) env H
  | ex=>K ex env H
 | .loop a,_,env,H,K=>match C.loops (ziN a) with
  | some l=>if C.yl&& !(zaV l.slots l.inn.vals&&zaV l.bslots l.brk.vals&&zaV l.rslots l.ret.vals) then none else match W7 C.kept l.inn (zF env l.slots) H with
   | some (x,_,_)=>(zX (z9 C (exec a) env.length l) (l.gi.of x)).bind fun
    | .again _=>none
    | .brk y=>K (.exit l.brkId) (entry env.length l.bslots l.brk (l.gb.to y)).1 (entry env.length l.bslots l.brk (l.gb.to y)).2
    | .ret y=>K .ret (entry env.length l.rslots l.ret (l.gr.to y)).1 (entry env.length l.rslots l.ret (l.gr.to y)).2
   | none=>none
  | none=>none
 | .rangeFunc f ps as body,_,env,H,K=>match Zg env f,ps.toList with
  | .fn g caps,[t]=>match C.iters g,C.loops (ziN as) with
   | some it,some l=>match W7 [] it.inn caps H with
    | some (x,ρ,fz)=>(it.F x).bind fun ys=>match W7 C.kept l.inn (zF env l.slots) (upd H fz) with
     | some (z,ρ2,fz2) =>
      if zhQ as&&zhQ body&&zo5 ρ.ids ρ2.ids&&zo5 ρ.ids fz2&& !C.yl&&l.inn.blks.all BK.owns then
       (Zw (zkU C (exec as) (exec body) env.length l t it.e) ys (l.gi.of z)).bind fun z=>K .normal (entry env.length l.slots l.inn (l.gi.to z)).1 (entry env.length l.slots l.inn (l.gi.to z)).2
      else none
     | none=>none
    | none=>none
   | _,_=>none
  | _,_=>none
 | .exit id,_,env,H,K=>K (.exit id) env H
 | .ret,_,env,H,K=>K .ret env H
 | .scope a,_,env,H,K=>exec a _ env H K
 | .label _,_,env,H,K=>K .normal env H
 | _,_,_,_,_=>none
noncomputable def zrw {R:Type}(tab:List (Nat×TI)) (env:List (zh E)) (H:List (Blk E)):List ResultVar->(List (zh E)->Option R)->Option R
 | [],K=>K []
 | .tmp t::r,K=>zrw tab env H r fun ps=>K ((env[t]?).getD .any::ps)
 | .cell a t::r,K=>match look tab t,(env[a]?).getD .any with
  | some i,.eptr e' id k off=>match zfn i with
   | some (n,e)=>(zzx n e (.eptr e' id k off)).cps H fun p _=>zrw tab env H r fun ps=>K (p::ps)
   | none=>none
  | some i,.ptr id off=>match zn H id with
   | .box _ cs=>(znN i (sub cs off i.size)).cps H fun p _=>zrw tab env H r fun ps=>K (p::ps)
   | _=>none
  | _,_=>none
def zkA:List BK->Nat->Ren
 | [],_=>[]
 | .box true _::ks,j=>(j,some j)::zkA ks (j+1)
 | _::ks,j=>zkA ks (j+1)
def zDu (inn out:xS) (go:Iso E out.holes) (ps:List (zh E)) (H:List (Blk E)):Option go.G:=(W7 (zkA inn.blks 0) out ps H).map fun x=>go.of x.1
noncomputable def zrH (fn:Func) (inn out:xS) (gi:Iso E inn.holes) (go:Iso E out.holes) (g:gi.G):Option go.G :=
 let x:=gi.to g
 match fn.body with
 | none=>none
 | some c =>
  let s:=yx id inn (HL.toP inn.holes x)
  exec C c _ (s.1++List.replicate (fn.ntmps-s.1.length) .skip) s.2 fun ex env H=>match ex with
   | .exit _=>none
   | _=>zrw C.tab env H fn.results.toList fun ps=>zDu inn out go ps H
noncomputable def zoV (fn:Func) (inn:xS) (n:Int) (x:HL E.T inn.holes):Option Int :=
 match fn.body with
 | none=>none
 | some c =>
  let s:=yx id inn (HL.toP inn.holes x)
  exec C c _ ((.yld n 0::s.1)++List.replicate (fn.ntmps-(s.1.length+1)) .skip) s.2 fun ex env H=>match ex with
   | .exit _=>none
   | _=>if fn.results.isEmpty then (match (env[0]?).getD .any with
    | .yld _ i=>some i
    | _=>none) else none
end
end Go.Pe
namespace Go.Pe
inductive Loc where
 | blk (b off len cap:Nat) | none (a:Option Addr)
def Ty.size (E:yw):Ty->Nat
 | .named n=>(E.leaves n).length
 | .arr n e=>n*e.size E
 | .bool=>1 | .int _=>1 | .str=>1 | .slice _=>1
def HL.get {T:Nat->Type}:(ts:List Ty)->HL T ts->(i:Nat)->(h:i<ts.length)->Den T ts[i]
 | _::_,x,0,_=>x.1
 | _::ts,x,i+1,h=>HL.get ts x.2 i (Nat.lt_of_succ_lt_succ h)
section
variable (E:yw) (w:World) (A:Nat->Prop)
inductive yn:(τ:Ty)->Value->Den E.T τ->Prop where
 | bool (b:Bool):yn .bool (.bool b) b
 | int (k:IntKind) (x:zV k):yn (.int k) (.int k (toZ k x)) x
 | str (s:ByteArray):yn .str (.string s) s
 | nil (e:Ty) (a:Option Addr) (cap:Nat):yn (.slice e) (.slice a 0 cap) ([]:List (Den E.T e))
 | slice (e:Ty) (b off cap:Nat) (l:List (Den E.T e)) (vs:Nat->Value) (hA: ¬A b) (hb:b<w.heap.size) (hc:l.length<=cap)
   (hm:∀i,i<l.length->∀j u,(vs i).cells[j]? =some u->w.cell? ⟨b,off+i*e.size E+j,none⟩=some u)
   (hr:∀i (h:i<l.length),yn e (vs i) l[i]):yn (.slice e) (.slice (some ⟨b,off,none⟩) l.length cap) l
 | named (n:Nat) (cs:Array Value) (x:E.T n) (hs:cs.size=(E.leaves n).length)
   (h:∀i (hi:i<(E.leaves n).length),yn (E.leaves n)[i] (cs.getD i undef) (HL.get (E.leaves n) (E.unpack n x) i hi)):yn (.named n) (.agg cs) x
 | arr (n:Nat) (e:Ty) (cs:Array Value) (l:List (Den E.T e)) (vs:Nat->Value) (hl:l.length=n) (hs:cs.size=n*e.size E)
   (hm:∀i,i<n->∀j u,(vs i).cells[j]? =some u->cs[i*e.size E+j]? =some u)
   (hr:∀i (h:i<l.length),yn e (vs i) l[i]):yn (.arr n e) (.agg cs) l
inductive z7 (U:Nat->Prop) (μ:Nat->Loc):zh E->Value->Prop where
 | any (v:Value):z7 U μ .any v
 | skip:z7 U μ .skip undef
 | v (τ:Ty) (x:Den E.T τ) (v:Value) (h:yn E w A τ v x):z7 U μ (.v τ x) v
 | agg (ps:List (zh E)) (cs:Array Value) (hs:cs.size=ps.length) (h:∀i (hi:i<ps.length),z7 U μ ps[i] (cs.getD i undef)):z7 U μ (.agg ps) (.agg cs)
 | tuple (ps:List (zh E)) (cs:Array Value) (hs:cs.size=ps.length) (h:∀i (hi:i<ps.length),z7 U μ ps[i] (cs.getD i undef)):z7 U μ (.tuple ps) (.tuple cs)
 | nils (a:Option Addr):z7 U μ .nils (.slice a 0 0)
 | own (id b off len cap:Nat) (hU:U id) (hμ:μ id= .blk b off len cap):z7 U μ (.own id) (.slice (some ⟨b,off,none⟩) len cap)
 | own0 (id:Nat) (a a2:Option Addr) (hU:U id) (hμ:μ id= .none a2):z7 U μ (.own id) (.slice a 0 0)
 | full (e:Ty) (l:List (Den E.T e)) (a:Option Addr) (h:yn E w A (.slice e) (.slice a l.length l.length) l):z7 U μ (.full e l) (.slice a l.length l.length)
 | bsl (id n b:Nat) (hU:U id) (hμ:μ id= .blk b 0 n n):z7 U μ (.bsl id n) (.slice (some ⟨b,0,none⟩) n n)
 | ptr (id off b len cap:Nat) (hU:U id) (hμ:μ id= .blk b 0 len cap):z7 U μ (.ptr id off) (.pointer (some ⟨b,off,none⟩))
 | eptr (e:Ty) (id i off b o len cap:Nat) (hU:U id) (hμ:μ id= .blk b o len cap) (hi:i<len):z7 U μ (.eptr e id i off) (.pointer (some ⟨b,o+i*e.size E+off,none⟩))
 | rptr (ps:List (zh E)) (b o:Nat) (us:Nat->Value) (hA: ¬A b) (hb:b<w.heap.size) (hm:∀j,j<ps.length->w.cell? ⟨b,o+j,none⟩=some (us j))
   (hr:∀j (h:j<ps.length),z7 U μ ps[j] (us j)):z7 U μ (.rptr ps) (.pointer (some ⟨b,o,none⟩))
 | fn (f:FuncId) (ps:List (zh E)) (cs:Array Value) (hs:cs.size=ps.length) (h:∀i (hi:i<ps.length),z7 U μ ps[i] (cs.getD i undef)):z7 U μ (.fn f ps) (.func (.func f) #[] cs)
 | nilfn:z7 U μ .nilfn .nilFunc
 | nilp:z7 U μ .nilp (.pointer none)
 | bfn (f:FuncId) (ps:List (zh E)) (cs:Array Value) (hs:cs.size=ps.length) (h:∀i (hi:i<ps.length),z7 U μ ps[i] (cs.getD i undef)):z7 U μ (.bfn f ps) (.func (.func f) cs #[])
 | yld (n i:Int):z7 U μ (.yld n i) (.func (.yield n.toNat) #[] #[])
 | nilm:z7 U μ .nilm (.map none)
 | map (id b:Nat) (hU:U id) (hμ:μ id= .blk b 0 0 0):z7 U μ (.map id) (.map (some b))
end
variable {E:yw}
theorem yn.mono {w w':World}{A A':Nat->Prop}(hs:w.heap.size<=w'.heap.size)
  (hb:∀b,b<w.heap.size->¬A b->w'.heap[b]? =w.heap[b]? /\¬A' b) {τ:Ty}{v:Value}{x:Den E.T τ}(h:yn E w A τ v x):yn E w' A' τ v x:=by
 induction h with
 | bool b=>exact .bool b
 | int k x=>exact .int k x
 | str s=>exact .str s
 | nil e a cap=>exact .nil e a cap
 | slice e b off cap l vs hA hlt hc hm _ ih =>
  obtain ⟨h1,h2⟩:=hb b hlt hA;exact .slice e b off cap l vs h2 (zJX hlt hs) hc (fun i hi j u hu=>by
   have:=hm i hi j u hu;simp only [World.cell?,h1] at this ⊢;exact this) ih
 | named n cs x hsz _ ih=>exact .named n cs x hsz ih
 | arr n e cs l vs hl hsz hm _ ih=>exact .arr n e cs l vs hl hsz hm ih
theorem z7.mono {w w':World}{A A':Nat->Prop}{U U':Nat->Prop}{μ μ':Nat->Loc}(hs:w.heap.size<=w'.heap.size)
  (hb:∀b,b<w.heap.size->¬A b->w'.heap[b]? =w.heap[b]? /\¬A' b) (hU:∀id,U id->U' id/\μ' id=μ id) {p:zh E}{v:Value}(h:z7 E w A U μ p v):z7 E w' A' U' μ' p v:=by
 induction h with
 | any v=>exact .any v
 | skip=>exact .skip
 | v τ x v h=>exact .v τ x v (h.mono hs hb)
 | agg ps cs hsz _ ih=>exact .agg ps cs hsz ih
 | tuple ps cs hsz _ ih=>exact .tuple ps cs hsz ih
 | nils a=>exact .nils a
 | own id b off len cap u m=>exact .own id b off len cap (hU id u).1 ((hU id u).2.trans m)
 | own0 id a a2 u m=>exact .own0 id a a2 (hU id u).1 ((hU id u).2.trans m)
 | full e l a h=>exact .full e l a (h.mono hs hb)
 | bsl id n b u m=>exact .bsl id n b (hU id u).1 ((hU id u).2.trans m)
 | ptr id off b len cap u m=>exact .ptr id off b len cap (hU id u).1 ((hU id u).2.trans m)
 | eptr e id i off b o len cap u m hi=>exact .eptr e id i off b o len cap (hU id u).1 ((hU id u).2.trans m) hi
 | rptr ps b o us hA hlt hm _ ih =>
  obtain ⟨h1,h2⟩:=hb b hlt hA;exact .rptr ps b o us h2 (zJX hlt hs) (fun j hj=>by
   have:=hm j hj;simp only [World.cell?,h1] at this ⊢;exact this) ih
 | fn f ps cs hsz _ ih=>exact .fn f ps cs hsz ih
 | bfn f ps cs hsz _ ih=>exact .bfn f ps cs hsz ih
 | nilfn=>exact .nilfn
 | nilp=>exact .nilp
 | nilm=>exact .nilm
 | yld n i=>exact .yld n i
 | map id b u m=>exact .map id b (hU id u).1 ((hU id u).2.trans m)
def yQ:Blk E->Bool
 | .box w _=>w | .row w _ _=>w | .map w _=>w | .rowh _ _ _ _=>true | _=>false
def xt:Blk E->Bool
 | .free=>false | .dead=>false | _=>true
def xU:Blk E->Bool
 | .free=>false | _=>true
def Yh:Blk E->Bool
 | .box w _=>w | .row _ _ _=>true | .map w _=>w | .rowh _ _ _ _=>true | _=>false
theorem yU {b:Blk E}(h:yQ b=true):Yh b=true:=by cases b<;>simp_all [yQ,Yh]
theorem zhO {b:Blk E}(h:Yh b=true):xt b=true:=by cases b<;>simp_all [Yh,xt]
theorem yA {b:Blk E}(h:yQ b=true):xt b=true:=by cases b<;>simp_all [yQ,xt]
theorem yo {b:Blk E}(h:xt b=true):xU b=true:=by cases b<;>simp_all [xU,xt]
def Kb (b:Nat):Prop:=b<1
def Lv (μ:Nat->Loc) (H:List (Blk E)) (b:Nat):Prop:=∃id off len cap,yQ (zn H id)=true/\μ id= .blk b off len cap
def Us (H:List (Blk E)) (id:Nat):Prop:=xU (zn H id)=true
def Av (A0:Nat->Prop) (μ:Nat->Loc) (H:List (Blk E)) (b:Nat):Prop:=(A0 b/\¬Kb b)\/Lv μ H b
def zeW (w:World) (b:Nat) (fr:Bool) (c:Array Value):Prop:=∃t f,w.heap[b]? =some (.cells c t f)/\(fr=true->f=(0,0))
def xT (w:World) (A:Nat->Prop) (U:Nat->Prop) (μ:Nat->Loc) (l:Loc) (B:Blk E):Prop:=match B with
 | .free=>True
 | .dead=>True
 | .box wr cs=>∃b len cap c,l= .blk b 0 len cap/\zeW w b wr c/\c.size=cs.length/\∀j (h:j<cs.length),z7 E w A U μ cs[j] (c.getD j undef)/\cs[j].leaf=true
 | .row wr e xs=>(∃(b off cap:Nat) (c:Array Value) (vs:Nat->Value),l= .blk b off xs.length cap/\zeW w b wr c/\xs.length<=cap/\off+cap*e.size E<=c.size /\
   (∀i,i<xs.length->∀j u,(vs i).cells[j]? =some u->c[off+i*e.size E+j]? =some u)/\∀i (h:i<xs.length),yn E w A e (vs i) xs[i])\/(xs=[]/\∃a,l= .none a)
 | .rowh e xs n k=>∃(b off cap:Nat) (c:Array Value) (vs:Nat->Value),l= .blk b off xs.length cap/\zeW w b true c/\xs.length<=cap/\off+cap<=c.size/\n<xs.length /\
   (∀i,i<xs.length->∀j u,(vs i).cells[j]? =some u->c[off+i+j]? =some u)/\(∀i (h:i<xs.length),i≠n->yn E w A (.slice e) (vs i) xs[i])/\z7 E w A U μ (.own k) (vs n)
 | .map _ es=>∃b ms clock,l= .blk b 0 0 0/\w.heap[b]? =some (.map ms clock)/\ms.size=es.length /\
   ∀j (h:j<es.length),z7 E w A U μ es[j].1 ((ms.getD j default).key)/\z7 E w A U μ es[j].2 ((ms.getD j default).val)
structure zT (A0:Nat->Prop) (μ:Nat->Loc) (H:List (Blk E)) (w:World):Prop where
 ok:∀id,xT w (Av A0 μ H) (Us H) μ (μ id) (zn H id)
 inj:∀i j b o l c b' o' l' c',i≠j->yQ (zn H i)=true->xt (zn H j)=true->μ i= .blk b o l c->μ j= .blk b' o' l' c'->b≠b'
 out:∀id b o l c,Yh (zn H id)=true->μ id= .blk b o l c->¬A0 b/\b<w.heap.size
structure zS (A0:Nat->Prop) (μ:Nat->Loc) (H:List (Blk E)) (w:World) (μ':Nat->Loc) (H':List (Blk E)) (w':World):Prop where
 os:w'.os=w.os
 tape:w'.tape=w.tape
 output:w'.output=w.output
 size:w.heap.size<=w'.heap.size
 block:∀b,b<w.heap.size->¬Lv μ H b->w'.heap[b]? =w.heap[b]?
 lv:∀b,b<w.heap.size->Lv μ' H' b->Lv μ H b
 used:∀id,Us H id->Us H' id/\μ' id=μ id
 len:H'.length=H.length
theorem zS.refl (A0:Nat->Prop) (μ:Nat->Loc) (H:List (Blk E)) (w:World):zS A0 μ H w μ H w :=
 ⟨rfl,rfl,rfl,zJF _,fun _ _ _=>rfl,fun _ _ h=>h,fun _ h=>⟨h,rfl⟩,rfl⟩
theorem zS.trans {A0:Nat->Prop}{μ μ1 μ2:Nat->Loc}{H H1 H2:List (Blk E)}{w w1 w2:World}(h:zS A0 μ H w μ1 H1 w1) (k:zS A0 μ1 H1 w1 μ2 H2 w2) :
  zS A0 μ H w μ2 H2 w2 :=
 ⟨k.os.trans h.os,k.tape.trans h.tape,k.output.trans h.output,zKG h.size k.size,
  fun b hb hl=>(k.block b (zJX hb h.size) (fun hl1=>hl (h.lv b hb hl1))).trans (h.block b hb hl),
  fun b hb hl=>h.lv b hb (k.lv b (zJX hb h.size) hl),
  fun id hu=>⟨(k.used id (h.used id hu).1).1,(k.used id (h.used id hu).1).2.trans (h.used id hu).2⟩,k.len.trans h.len⟩
theorem zS.rep {A0:Nat->Prop}{μ μ':Nat->Loc}{H H':List (Blk E)}{w w':World}(h:zS A0 μ H w μ' H' w') {p:zh E}{v:Value}
  (r:z7 E w (Av A0 μ H) (Us H) μ p v):z7 E w' (Av A0 μ' H') (Us H') μ' p v :=
 r.mono h.size (fun b hb hA=>⟨h.block b hb (fun hl=>hA (.inr hl)),fun hA'=>hA'.elim (fun h0=>hA (.inl h0)) (fun hl=>hA (.inr (h.lv b hb hl)))⟩) h.used
theorem zS.repT {A0:Nat->Prop}{μ μ':Nat->Loc}{H H':List (Blk E)}{w w':World}(h:zS A0 μ H w μ' H' w') {τ:Ty}{x:Den E.T τ}{v:Value}
  (r:yn E w (Av A0 μ H) τ v x):yn E w' (Av A0 μ' H') τ v x :=
 r.mono h.size (fun b hb hA=>⟨h.block b hb (fun hl=>hA (.inr hl)),fun hA'=>hA'.elim (fun h0=>hA (.inl h0)) (fun hl=>hA (.inr (h.lv b hb hl)))⟩)
theorem zeW.keep {w w':World}{b:Nat}{fr:Bool}{c:Array Value}(h:zeW w b fr c) (e:w'.heap[b]? =w.heap[b]?):zeW w' b fr c:=by
 obtain ⟨t,f,h1,h2⟩:=h;exact ⟨t,f,e.trans h1,h2⟩
theorem zeW.lt {w:World}{b:Nat}{fr:Bool}{c:Array Value}(h:zeW w b fr c):b<w.heap.size:=by
 obtain ⟨t,f,h1,_⟩:=h;exact (zJ0.1 h1).1
theorem xT.keep {A0:Nat->Prop}{μ μ':Nat->Loc}{H H':List (Blk E)}{w w':World}(h:zS A0 μ H w μ' H' w') {l:Loc}{B:Blk E}
  (hk:∀b o n c,xt B=true->l= .blk b o n c->w'.heap[b]? =w.heap[b]?)
  (r:xT w (Av A0 μ H) (Us H) μ l B):xT w' (Av A0 μ' H') (Us H') μ' l B:=by
 cases B with
 | free=>trivial
 | dead=>trivial
 | box wr cs =>
  obtain ⟨b,len,cap,c,hl,hbox,hsz,hr⟩:=r;exact ⟨b,len,cap,c,hl,hbox.keep (hk b 0 len cap rfl hl),hsz,fun j hj=>⟨h.rep (hr j hj).1,(hr j hj).2⟩⟩
 | row wr e xs =>
  rcases r with ⟨b,off,cap,c,vs,hl,hbox,h1,h2,h3,h4⟩ | ⟨h1,a,h2⟩
  .exact .inl ⟨b,off,cap,c,vs,hl,hbox.keep (hk b off xs.length cap rfl hl),h1,h2,h3,fun i hi=>h.repT (h4 i hi)⟩
  .exact .inr ⟨h1,a,h2⟩
 | rowh e xs n k =>
  obtain ⟨b,off,cap,c,vs,hl,hbox,h1,h2,h3,h4,h5,h6⟩:=r;exact ⟨b,off,cap,c,vs,hl,hbox.keep (hk b off xs.length cap rfl hl),h1,h2,h3,h4,fun i hi hn=>h.repT (h5 i hi hn),h.rep h6⟩
 | map wr es =>
  obtain ⟨b,ms,clock,hl,hm,hsz,hr⟩:=r;exact ⟨b,ms,clock,hl,(hk b 0 0 0 rfl hl).trans hm,hsz,fun j hj=>⟨h.rep (hr j hj).1,h.rep (hr j hj).2⟩⟩
theorem xT.lt {w:World}{A U:Nat->Prop}{μ:Nat->Loc}{l:Loc}{B:Blk E}(r:xT w A U μ l B) {b o n c:Nat}(hm:xt B=true) (hl:l= .blk b o n c):b<w.heap.size:=by
 subst hl;cases B with
 | free=>simp [xt] at hm
 | dead=>simp [xt] at hm
 | box wr cs =>
  obtain ⟨b',len,cap,c',hl,hbox,_⟩:=r;injection hl with e;subst e;exact hbox.lt
 | row wr e xs =>
  rcases r with ⟨b',off,cap,c',vs,hl,hbox,_⟩ | ⟨_,a,h2⟩
  .injection hl with e;subst e;exact hbox.lt
  .cases h2
 | rowh e xs n k =>
  obtain ⟨b',off,cap,c',vs,hl,hbox,_⟩:=r;injection hl with e;subst e;exact hbox.lt
 | map wr es =>
  obtain ⟨b',ms,clock,hl,hm',_⟩:=r;injection hl with e;subst e;exact (zJ0.1 hm').1
theorem xT.of_not_mem {w:World}{A U:Nat->Prop}{μ:Nat->Loc}{l:Loc}{B:Blk E}(h:xt B=false):xT w A U μ l B:=by
 cases B<;>first | trivial | (simp [xt] at h)
theorem zT.step {A0:Nat->Prop}{μ μ':Nat->Loc}{H H':List (Blk E)}{w w':World}(h:zT A0 μ H w) (T:zS A0 μ H w μ' H' w') (S:Nat->Prop)
  (same:∀id,¬S id->(zn H' id=zn H id/\(xt (zn H id)=true->μ' id=μ id))\/xt (zn H' id)=false)
  (keep:∀id b o n c,¬S id->xt (zn H' id)=true->μ id= .blk b o n c->w'.heap[b]? =w.heap[b]?)
  (ok:∀id,S id->xT w' (Av A0 μ' H') (Us H') μ' (μ' id) (zn H' id))
  (inj:∀i j b o l c b' o' l' c',i≠j->S i\/S j->yQ (zn H' i)=true->xt (zn H' j)=true->μ' i= .blk b o l c->μ' j= .blk b' o' l' c'->b≠b')
  (out:∀id b o l c,S id->Yh (zn H' id)=true->μ' id= .blk b o l c->¬A0 b/\b<w'.heap.size):zT A0 μ' H' w':=by
 have hμ:∀id,¬S id->xt (zn H' id)=true->zn H' id=zn H id/\μ' id=μ id:=fun id hS hm=>by
  rcases same id hS with ⟨h1,h2⟩ | h1
  .exact ⟨h1,h2 (h1▸hm)⟩
  .rw [h1] at hm;cases hm
 refine ⟨fun id=>?_,fun i j b o l c b' o' l' c' hne hi hj mi mj=>?_,fun id b o l c hi mi=>?_⟩
 .by_cases hS:S id
  .exact ok id hS
  .by_cases hm:xt (zn H' id)=true
   .obtain ⟨h1,h2⟩:=hμ id hS hm;have:=h.ok id;rw [h1,h2];exact this.keep T (fun b o n c _ hl=>keep id b o n c hS hm hl)
   .exact xT.of_not_mem (by simpa using hm)
 .by_cases hS:S i\/S j
  .exact inj i j b o l c b' o' l' c' hne hS hi hj mi mj
  .have hSi: ¬S i:=fun x=>hS (.inl x);have hSj: ¬S j:=fun x=>hS (.inr x);obtain ⟨a1,a2⟩:=hμ i hSi (yA hi);obtain ⟨b1,b2⟩:=hμ j hSj hj;exact h.inj i j b o l c b' o' l' c' hne (a1▸hi) (b1▸hj) (a2▸mi) (b2▸mj)
 .by_cases hS:S id
  .exact out id b o l c hS hi mi
  .obtain ⟨a1,a2⟩:=hμ id hS (zhO hi);obtain ⟨r1,r2⟩:=h.out id b o l c (a1▸hi) (a2▸mi);exact ⟨r1,zJX r2 T.size⟩
end Go.Pe
namespace Go.Pe
variable {E:yw}
theorem zbX (H:List (Blk E)) (id j:Nat) (B:Blk E) (h:id<H.length):zn (H.set id B) j=if id=j then B else zn H j:=by
 unfold zn;rw [zKo];split
 .rename_i e;subst e;simp
 .rfl
theorem z6 (H:List (Blk E)) {id j:Nat}(B:Blk E) (h:id≠j):zn (H.set id B) j=zn H j:=by
 unfold zn;rw [zKc h]
theorem yg (H:List (Blk E)) (id:Nat) (B:Blk E) (h:id<H.length):zn (H.set id B) id=B:=by
 rw [zbX H id id B h,zb rfl]
theorem xY {H:List (Blk E)}{id:Nat}(h:xU (zn H id)=true):id<H.length:=by
 rcases zKa id H.length with h' | h'
 .exact h'
 .unfold zn at h;rw [zKH h'] at h;simp [xU] at h
def XG (μ:Nat->Loc) (id:Nat) (l:Loc):Nat->Loc:=fun i=>if i=id then l else μ i
theorem vl (μ:Nat->Loc) (id:Nat) (l:Loc):XG μ id l id=l:=zb rfl
theorem zbd (μ:Nat->Loc) {id i:Nat}(l:Loc) (h:i≠id):XG μ id l i=μ i:=zc h
structure yi (w w':World):Prop where
 os:w'.os=w.os
 tape:w'.tape=w.tape
 output:w'.output=w.output
 size:w.heap.size<=w'.heap.size
theorem yi.refl (w:World):yi w w:=⟨rfl,rfl,rfl,zJF _⟩
theorem yi.alloc (w:World) (o:Obj):yi w (w.alloc o):=⟨rfl,rfl,rfl,by simp⟩
theorem yi.drew (w:World):yi w w.drew:=⟨rfl,rfl,rfl,zJF _⟩
theorem yi.setRow (w:World) (g:Nat) (c:Array Value):yi w (w.setRow g c):=⟨rfl,rfl,rfl,by simp⟩
section
variable {A0:Nat->Prop}{μ:Nat->Loc}{H:List (Blk E)}{w w':World}
theorem zS.fresh (id:Nat) (l:Loc) (B:Blk E) (hf:zn H id= .free) (hlt:id<H.length) (q:yi w w') (hb:∀b,b<w.heap.size->w'.heap[b]? =w.heap[b]?)
  (hl:∀b o n c,l= .blk b o n c->w.heap.size<=b):zS A0 μ H w (XG μ id l) (H.set id B) w':=by
 have hne:∀i,Us H i->i≠id:=fun i hi e=>by subst e;simp [Us,hf,xU] at hi
 refine ⟨q.os,q.tape,q.output,q.size,fun b hlt' _=>hb b hlt',fun b hlt' ⟨i,o,n,c,h1,h2⟩=>?_,fun i hi=>⟨?_,zbd _ _ (hne i hi)⟩,by simp⟩
 .by_cases e:i=id
  .subst e;rw [vl] at h2;have:=hl _ _ _ _ h2;omega
  .rw [zbd _ _ e] at h2;rw [z6 H B (Ne.symm e)] at h1;exact ⟨i,o,n,c,h1,h2⟩
 .unfold Us;rw [z6 H B (Ne.symm (hne i hi))];exact hi
theorem zT.fresh (h:zT A0 μ H w) (id:Nat) (l:Loc) (B:Blk E) (hf:zn H id= .free) (hlt:id<H.length) (q:yi w w') (hb:∀b,b<w.heap.size->w'.heap[b]? =w.heap[b]?)
  (hl:∀b o n c,l= .blk b o n c->w.heap.size<=b/\b<w'.heap.size) (hA:∀b,A0 b->b<w.heap.size)
  (ok:xT w' (Av A0 (XG μ id l) (H.set id B)) (Us (H.set id B)) (XG μ id l) l B):zT A0 (XG μ id l) (H.set id B) w':=by
 have T:=zS.fresh (A0:=A0) (μ:=μ) id l B hf hlt q hb (fun b o n c e=>(hl b o n c e).1);refine h.step T (fun i=>i=id) (fun i hi=>.inl ⟨z6 H B (Ne.symm hi),fun _=>zbd _ _ hi⟩) (fun i b o n c hi hm hμ=>?_) (fun i hi=>?_) (fun i j b o n c b' o' n' c' hne hS hi hj mi mj=>?_) (fun i b o n c hi hlv hμ=>?_)
 .rw [z6 H B (Ne.symm hi)] at hm;exact hb b (xT.lt (h.ok i) hm hμ)
 .subst hi;rw [yg H i B hlt,vl];exact ok
 .rcases hS with rfl | rfl
  .rw [vl] at mi;have h1:=(hl _ _ _ _ mi).1;rw [zbd _ _ (Ne.symm hne)] at mj;rw [z6 H B hne] at hj;have:=xT.lt (h.ok j) hj mj;omega
  .rw [vl] at mj;have h1:=(hl _ _ _ _ mj).1;rw [zbd _ _ hne] at mi;rw [z6 H B (Ne.symm hne)] at hi;have:=xT.lt (h.ok i) (yA hi) mi;omega
 .subst hi;rw [vl] at hμ;obtain ⟨h1,h2⟩:=hl _ _ _ _ hμ;exact ⟨fun ha=>by have:=hA b ha;omega,h2⟩
theorem zS.write (id:Nat) (B:Blk E) (hu:Us H id) (q:yi w w') (hlive:yQ (zn H id)=true)
  (hb:∀b,b<w.heap.size->(∀o n c,μ id≠ .blk b o n c)->w'.heap[b]? =w.heap[b]?) (hB:xU B=true):zS A0 μ H w μ (H.set id B) w':=by
 have hlt:=xY hu;refine ⟨q.os,q.tape,q.output,q.size,fun b hlt' hl=>hb b hlt' (fun o n c e=>hl ⟨id,o,n,c,hlive,e⟩),fun b hlt' ⟨i,o,n,c,h1,h2⟩=>?_,fun i hi=>⟨?_,rfl⟩,by simp⟩
 .by_cases e:id=i
  .subst e;exact ⟨id,o,n,c,hlive,h2⟩
  .rw [z6 H B e] at h1;exact ⟨i,o,n,c,h1,h2⟩
 .unfold Us;rw [zbX H id i B hlt];split
  .exact hB
  .exact hi
theorem zT.write (h:zT A0 μ H w) (id:Nat) (B:Blk E) (hu:Us H id) (q:yi w w') (hlive:yQ (zn H id)=true)
  (hb:∀b,b<w.heap.size->(∀o n c,μ id≠ .blk b o n c)->w'.heap[b]? =w.heap[b]?) (hB:xU B=true)
  (ok:xT w' (Av A0 μ (H.set id B)) (Us (H.set id B)) μ (μ id) B):zT A0 μ (H.set id B) w':=by
 have hlt:=xY hu;have T:=zS.write (A0:=A0) (μ:=μ) id B hu q hlive hb hB;refine h.step T (fun i=>i=id) (fun i hi=>.inl ⟨z6 H B (Ne.symm hi),fun _=>rfl⟩) (fun i b o n c hi hm hμ=>?_) (fun i hi=>?_) (fun i j b o n c b' o' n' c' hne hS hi hj mi mj=>?_) (fun i b o n c hi hlv hμ=>?_)
 .rw [z6 H B (Ne.symm hi)] at hm;refine hb b (xT.lt (h.ok i) hm hμ) (fun o' n' c' e=>?_);exact h.inj id i b o' n' c' b o n c (Ne.symm hi) hlive hm e hμ rfl
 .subst hi;rw [yg H i B hlt];exact ok
 .rcases hS with rfl | rfl
  .rw [z6 H B hne] at hj;exact h.inj i j b o n c b' o' n' c' hne hlive hj mi mj
  .rw [z6 H B (Ne.symm hne)] at hi;exact h.inj i j b o n c b' o' n' c' hne hi (yA hlive) mi mj
 .subst hi;obtain ⟨h1,h2⟩:=h.out i b o n c (yU hlive) hμ;exact ⟨h1,zJX h2 q.size⟩
theorem zS.drop (id:Nat) (B:Blk E) (hu:Us H id) (hB:yQ B=false) (hB':xU B=true):zS A0 μ H w μ (H.set id B) w:=by
 have hlt:=xY hu;refine ⟨rfl,rfl,rfl,zJF _,fun _ _ _=>rfl,fun b hlt' ⟨i,o,n,c,h1,h2⟩=>?_,fun i hi=>⟨?_,rfl⟩,by simp⟩
 .by_cases e:id=i
  .subst e;rw [yg H id B hlt,hB] at h1;cases h1
  .rw [z6 H B e] at h1;exact ⟨i,o,n,c,h1,h2⟩
 .unfold Us;rw [zbX H id i B hlt];split
  .exact hB'
  .exact hi
theorem zT.drop (h:zT A0 μ H w) (id:Nat) (B:Blk E) (hu:Us H id) (hB:yQ B=false) (hB':xU B=true) (hm:xt B=true->xt (zn H id)=true) (ho:Yh B=true->Yh (zn H id)=true)
  (ok:xT w (Av A0 μ (H.set id B)) (Us (H.set id B)) μ (μ id) B):zT A0 μ (H.set id B) w:=by
 have hlt:=xY hu;have T:=zS.drop (A0:=A0) (μ:=μ) (w:=w) id B hu hB hB';refine h.step T (fun i=>i=id) (fun i hi=>.inl ⟨z6 H B (Ne.symm hi),fun _=>rfl⟩) (fun _ _ _ _ _ _ _ _=>rfl) (fun i hi=>?_) (fun i j b o n c b' o' n' c' hne hS hi hj mi mj=>?_) (fun i b o n c hi hlv hμ=>?_)
 .subst hi;rw [yg H i B hlt];exact ok
 .rcases hS with rfl | rfl
  .rw [yg H i B hlt,hB] at hi;cases hi
  .rw [z6 H B (Ne.symm hne)] at hi;rw [yg H j B hlt] at hj;exact h.inj i j b o n c b' o' n' c' hne hi (hm hj) mi mj
 .subst hi;rw [yg H i B hlt] at hlv;exact h.out i b o n c (ho hlv) hμ
theorem zS.drew:zS A0 μ H w μ H w.drew :=
 ⟨rfl,rfl,rfl,zJF _,fun _ _ _=>rfl,fun _ _ h=>h,fun _ h=>⟨h,rfl⟩,rfl⟩
theorem zT.drew (h:zT A0 μ H w):zT A0 μ H w.drew :=
 h.step zS.drew (fun _=>False) (fun _ _=>.inl ⟨rfl,fun _=>rfl⟩) (fun _ _ _ _ _ _ _ _=>rfl) (fun _ hi=>hi.elim) (fun _ _ _ _ _ _ _ _ _ _ _ hS=>(hS.elim id id).elim) (fun _ _ _ _ _ hi=>hi.elim)
theorem zS.move (id fresh b o n c o' n' c':Nat) (B:Blk E) (hlive:yQ (zn H id)=true) (hμ:μ id= .blk b o n c) (hf:zn H fresh= .free) (hlt:fresh<H.length) (q:yi w w')
  (hb:∀k,k<w.heap.size->k≠b->w'.heap[k]? =w.heap[k]?):zS A0 μ H w (XG μ fresh (.blk b o' n' c')) ((H.set id .dead).set fresh B) w':=by
 have hu:Us H id:=yo (yA hlive);have hne:∀i,Us H i->i≠fresh:=fun i hi e=>by subst e;simp [Us,hf,xU] at hi
 have hif:=hne id hu;have hid:=xY hu;refine ⟨q.os,q.tape,q.output,q.size,fun k hk hl=>hb k hk (fun e=>hl (by subst e;exact ⟨id,o,n,c,hlive,hμ⟩)),fun k hk ⟨i,o1,n1,c1,h1,h2⟩=>?_,fun i hi=>⟨?_,zbd _ _ (hne i hi)⟩,by simp⟩
 .by_cases e:i=fresh
  .subst e;rw [vl] at h2;injection h2 with e1;subst e1;exact ⟨id,o,n,c,hlive,hμ⟩
  .rw [zbd _ _ e] at h2;rw [z6 _ B (Ne.symm e)] at h1;by_cases e2:id=i
   .subst e2;rw [yg H id .dead hid] at h1;cases h1
   .rw [z6 H _ e2] at h1;exact ⟨i,o1,n1,c1,h1,h2⟩
 .unfold Us;rw [z6 _ B (Ne.symm (hne i hi)),zbX H id i .dead hid];split
  .rfl
  .exact hi
theorem zT.move (h:zT A0 μ H w) (id fresh b o n c o' n' c':Nat) (B:Blk E) (hlive:yQ (zn H id)=true) (hμ:μ id= .blk b o n c) (hf:zn H fresh= .free) (hlt:fresh<H.length) (q:yi w w')
  (hb:∀k,k<w.heap.size->k≠b->w'.heap[k]? =w.heap[k]?)
  (ok:xT w' (Av A0 (XG μ fresh (.blk b o' n' c')) ((H.set id .dead).set fresh B)) (Us ((H.set id .dead).set fresh B)) (XG μ fresh (.blk b o' n' c')) (.blk b o' n' c') B) :
  zT A0 (XG μ fresh (.blk b o' n' c')) ((H.set id .dead).set fresh B) w':=by
 have hu:Us H id:=yo (yA hlive);have hif:id≠fresh:=fun e=>by subst e;simp [Us,hf,xU] at hu
 have hid:=xY hu;have hfl:fresh<(H.set id .dead).length:=by simpa using hlt
 have T:=zS.move (A0:=A0) (μ:=μ) id fresh b o n c o' n' c' B hlive hμ hf hlt q hb;have hg:∀i,i≠fresh->i≠id->zn ((H.set id .dead).set fresh B) i=zn H i:=fun i h1 h2=>by
  rw [z6 _ B (Ne.symm h1),z6 H _ (Ne.symm h2)]
 refine h.step T (fun i=>i=fresh) (fun i hi=>?_) (fun i k o1 n1 c1 hi hm hμ'=>?_) (fun i hi=>?_) (fun i j k o1 n1 c1 k' o2 n2 c2 hne hS hi hj mi mj=>?_) (fun i k o1 n1 c1 hi hlv hμ'=>?_)
 .by_cases e:i=id
  .subst e;right;rw [z6 _ B (Ne.symm hi),yg H i .dead hid];rfl
  .exact .inl ⟨hg i hi e,fun _=>zbd _ _ hi⟩
 .by_cases e:i=id
  .subst e;rw [z6 _ B (Ne.symm hi),yg H i .dead hid] at hm;cases hm
  .rw [hg i hi e] at hm;exact hb k (xT.lt (h.ok i) hm hμ') (fun e'=>h.inj id i b o n c k o1 n1 c1 (Ne.symm e) hlive hm hμ hμ' e'.symm)
 .subst hi;rw [yg _ i B hfl,vl];exact ok
 .rcases hS with rfl | rfl
  .rw [vl] at mi;injection mi with e1;subst e1;rw [zbd _ _ (Ne.symm hne)] at mj;by_cases e:j=id
   .subst e;rw [z6 _ B hne,yg H j .dead hid] at hj;cases hj
   .rw [hg j (Ne.symm hne) e] at hj;exact h.inj id j b o n c k' o2 n2 c2 (Ne.symm e) hlive hj hμ mj
  .rw [vl] at mj;injection mj with e1;subst e1;rw [zbd _ _ hne] at mi;by_cases e:i=id
   .subst e;rw [z6 _ B (Ne.symm hne),yg H i .dead hid] at hi;cases hi
   .rw [hg i hne e] at hi;exact h.inj i id k o1 n1 c1 b o n c e hi (yA hlive) mi hμ
 .subst hi;rw [vl] at hμ';injection hμ' with e1;subst e1;obtain ⟨h1,h2⟩:=h.out id b o n c (yU hlive) hμ;exact ⟨h1,zJX h2 q.size⟩
end
end Go.Pe
namespace Go.Pe
def Z.toV:Z->Value
 | .bool=>.bool false | .int k=>.int k 0 | .str=>.string ByteArray.empty | .slice=>.slice none 0 0 | .func=>.nilFunc | .ptr=>.pointer none | .map=>.map none
def xj (i:TI):Value:=if i.agg then .agg (i.zero.map Z.toV).toArray else match i.zero with | [z]=>z.toV | _=>undef
def zhM:List Z->List Ty->Bool
 | [],[]=>true
 | z::zs,t::ts=>z.is t&&zhM zs ts
 | _,_=>false
def zzC:Value->Value->Bool
 | .bool a,.bool b=>a==b
 | .int k a,.int k' b=>decide (k=k')&&decide (a=b)
 | .string a,.string b=>decide (a=b)
 | .slice none 0 0,.slice none 0 0=>true
 | .nilFunc,.nilFunc=>true
 | .pointer none,.pointer none=>true
 | .map none,.map none=>true
 | _,_=>false
theorem zBC {a b:Value}(h:zzC a b=true):a=b:=by
 unfold zzC at h;split at h<;>simp_all
def zoy:List Value->List Value->Bool
 | [],[]=>true
 | a::as,b::bs=>zzC a b&&zoy as bs
 | _,_=>false
theorem zya:∀ {a b:List Value},zoy a b=true->a=b
 | [],[],_=>rfl
 | [],_::_,h=>by simp [zoy] at h
 | _::_,[],h=>by simp [zoy] at h
 | a::as,b::bs,h=>by
  simp only [zoy,zJB] at h;rw [zBC h.1,zya h.2]
def zvp (i:TI):Option Value->Bool
 | some (.agg cs)=>i.agg&&zoy cs.toList (i.zero.map Z.toV)
 | some v=> !i.agg&&(match i.zero with | [z]=>zzC v z.toV | _=>false)
 | none=>false
theorem zGd {i:TI}{o:Option Value}(h:zvp i o=true):o=some (xj i):=by
 cases o with
 | none=>simp [zvp] at h
 | some v =>
  unfold xj;cases v with
  | agg cs =>
   simp only [zvp,zJB] at h;rw [zb h.1,<-zya h.2]
  | _ =>
   simp only [zvp,zJB,zJU] at h;rw [zc (by simp [h.1])];obtain ⟨_,h⟩:=h;split at h
   .rename_i z hz;rw [zBC h]
   .cases h
def tyB (lv:Nat->List Ty) (tab:List (Nat×TI)) (i:TI):Bool:=match i.ty with
 | none=>true
 | some (.named n)=>i.agg&&zhM i.zero (lv n)
 | some (.arr n e)=>i.agg&&i.alen==n&&i.fields.isEmpty&&(match look tab i.elem with | some u=>decide (u.ty=some e) | none=>false)
 | some (.slice e)=> !i.agg&&(match look tab i.elem with | some u=>decide (u.ty=some e)&& !Nat.beq u.size 0 | none=>false)&&(match i.zero with | [.slice]=>true | _=>false)&&(match e with | .arr _ _=>false | _=>true)
 | some τ=> !i.agg&&(match i.zero with | [z]=>z.is τ | _=>false)
def uy (P:Program) (tab:List (Nat×TI)) (i:TI):TypeDesc->Bool
 | .struct fs=>i.agg&&decide (i.fields=fs.toList.map fun f=>(f.offset,f.type))&&fs.toList.all (fun f=> !Nat.beq (P.cellsOf f.type) 0)&&i.alen==0&&(match i.ty with | none=>true | some (.named _)=>true | _=>false)
 | .array n e=>i.agg&&Nat.beq i.alen n&&Nat.beq i.elem e&&i.fields.isEmpty&&(match look tab e with | some u=>Nat.beq i.size (n*u.size)&& !Nat.beq u.size 0 | none=>false)&&(match i.ty with | none=>true | some (.arr _ _)=>true | some (.named _)=>true | _=>false)
 | .slice e=> !i.agg&&Nat.beq i.elem e&&(match i.ty with | none=>true | some (.slice _)=>true | _=>false)&&Nat.beq i.alen 0&&(look tab e).isSome
 | .int k=> !i.agg&&(match i.ty with | none=>true | some (.int k')=>decide (k=k') | _=>false)&&Nat.beq i.alen 0
 | .bool=> !i.agg&&(match i.ty with | none=>true | some .bool=>true | _=>false)&&Nat.beq i.alen 0
 | .string=> !i.agg&&(match i.ty with | none=>true | some .str=>true | _=>false)&&Nat.beq i.alen 0
 | .pointer e=> !i.agg&&i.ty.isNone&&(match look tab e with | some u=>Nat.beq i.alen u.alen | none=>Nat.beq i.alen 0)
 | .func _ _ _=> !i.agg&&i.ty.isNone&&Nat.beq i.alen 0
 | .map k e=> !i.agg&&i.ty.isNone&&Nat.beq i.elem e&&(match P.underlying k with | some (.int .i64)=>true | _=>false)&&Nat.beq i.alen 0
 | _=>false
def tiB (lv:Nat->List Ty) (P:Program) (tab:List (Nat×TI)) (t:Nat) (i:TI):Bool :=
 (match P.info? t with | some f=>Nat.beq f.size i.size&&Nat.beq f.bytes i.bytes&&zvp i f.zero | none=>false) &&
 (match P.underlying t with | some d=>uy P tab i d&&(i.sl==match d with | .slice _=>true | _=>false)&&(i.fk==match d with | .func _ _ _=>true | _=>false)&&(!i.cmp||(!P.eqGuardType P.depth t&&match d with | .struct fs=> !P.stoodInHeld t&&fs.toList.all (fun f=>f.name != "_") | _=>true)) | none=>false) &&
 tyB lv tab i&&Nat.beq i.zero.length i.size&&(i.agg||Nat.beq i.size 1&&i.fields.isEmpty)&&(Nat.ble i.bytes 4096&&(!i.mp||match P.underlying t with | some (.map _ _)=>true | _=>false))
def yG (lv:Nat->List Ty) (P:Program) (tab:List (Nat×TI)):Bool:=tab.all fun x=>tiB lv P tab x.1 x.2
theorem zGt {tab:List (Nat×TI)}{t:Nat}{i:TI}(h:look tab t=some i):(t,i)∈tab:=by
 induction tab with
 | nil=>simp [look] at h
 | cons x r ih =>
  obtain ⟨u,j⟩:=x;simp only [look] at h;split at h
  .rename_i hu;have:=zJH hu;subst this;simp at h;subst h;simp
  .exact zJI _ (ih h)
section
variable {E:yw}{P:Program}{tab:List (Nat×TI)}(hT:yG E.leaves P tab=true) {t:Nat}{i:TI}(hi:look tab t=some i)
include hT hi
theorem zhH:tiB E.leaves P tab t i=true:=zJ3.1 hT _ (zGt hi)
theorem zg4:∃f,P.info? t=some f/\f.size=i.size/\f.bytes=i.bytes/\f.zero=some (xj i):=by
 have h:=zhH hT hi;simp only [tiB,zJB] at h;obtain ⟨⟨⟨⟨⟨h,_⟩,_⟩,_⟩,_⟩,_⟩:=h;split at h
 .rename_i f hf;simp only [zJB] at h;exact ⟨f,hf,zJH h.1.1,zJH h.1.2,zGd h.2⟩
 .cases h
theorem ztN:∃d,P.underlying t=some d/\uy P tab i d=true/\(i.sl=true↔∃e,d= .slice e):=by
 have h:=zhH hT hi;simp only [tiB,zJB] at h;obtain ⟨⟨⟨⟨⟨_,h⟩,_⟩,_⟩,_⟩,_⟩:=h;split at h
 .rename_i d hd;simp only [zJB,beq_iff_eq] at h;refine ⟨d,hd,h.1.1.1,?_⟩;rw [h.1.1.2];split<;>simp_all
 .cases h
theorem zDB (hk:i.fk=true):∃a b c,P.underlying t=some (.func a b c):=by
 have h:=zhH hT hi;simp only [tiB,zJB] at h;obtain ⟨⟨⟨⟨⟨_,h⟩,_⟩,_⟩,_⟩,_⟩:=h;split at h
 .rename_i d hd;simp only [zJB,beq_iff_eq] at h;have:=h.1.2;rw [hk] at this;split at this
  .exact ⟨_,_,_,hd⟩
  .cases this
 .cases h
theorem zE3 (hk:i.cmp=true):P.eqGuardType P.depth t=false/\∀fs,P.underlying t=some (.struct fs)->P.stoodInHeld t=false/\∀f∈fs.toList,f.name ≠ "_" := by
 have h:=zhH hT hi;simp only [tiB,zJB] at h;obtain ⟨⟨⟨⟨⟨_,h⟩,_⟩,_⟩,_⟩,_⟩:=h;split at h
 .rename_i d hd;simp only [zJB,hk,zJQ,Bool.false_or,zJU] at h;refine ⟨h.2.1,fun fs hfs=>?_⟩;rw [hd] at hfs;injection hfs with hfs;subst hfs;have h2:=h.2.2;simp only [zJB,zJU,zJ3,bne_iff_ne] at h2;exact h2
 .cases h
theorem Xs:∃d,P.underlying t=some d/\uy P tab i d=true:=by
 obtain ⟨d,h1,h2,_⟩:=ztN hT hi;exact ⟨d,h1,h2⟩
theorem zpU (h:i.sl=true):P.underlying t=some (.slice i.elem):=by
 obtain ⟨d,h1,h2,h3⟩:=ztN hT hi;obtain ⟨e,rfl⟩:=h3.1 h;simp only [uy,zJB] at h2;rw [zJH h2.1.1.1.2];exact h1
theorem zsf (h:i.agg=true) (h0:i.alen≠0):P.underlying t=some (.array i.alen i.elem):=by
 obtain ⟨d,h1,h2,_⟩:=ztN hT hi;cases d with
 | array n e =>
  simp only [uy,zJB] at h2;rw [zJH h2.1.1.1.1.2,zJH h2.1.1.1.2];exact h1
 | struct fs =>
  simp only [uy,zJB,beq_iff_eq] at h2;exact absurd h2.1.2 h0
 | _=>simp [uy,h] at h2
theorem zhF:tyB E.leaves tab i=true:=by
 have h:=zhH hT hi;simp only [tiB,zJB] at h;exact h.1.1.1.2
theorem zoT:i.zero.length=i.size:=by
 have h:=zhH hT hi;simp only [tiB,zJB] at h;exact zJH h.1.1.2
theorem zeJ (ha:i.agg=false):i.size=1:=by
 have h:=zhH hT hi;simp only [tiB,zJB,zKI,ha,zKb,false_or] at h;exact zJH h.1.2.1
theorem zEf (ha:i.agg=false):i.fields=[]:=by
 have h:=zhH hT hi;simp only [tiB,zJB,zKI,ha,zKb,false_or] at h;simpa using h.1.2.2
theorem zpo:i.bytes<=4096:=by
 have h:=zhH hT hi;simp only [tiB,zJB] at h;exact zKd h.2.1
theorem zFK (hk:i.mp=true):∃k,P.underlying t=some (.map k i.elem)/\P.underlying k=some (.int .i64):=by
 have h:=zhH hT hi;simp only [tiB,zJB,hk,zJQ,Bool.false_or] at h;have h2:=h.2.2;obtain ⟨d,hd,hb⟩:=Xs hT hi;rw [hd] at h2;split at h2
 .rename_i k e heq;injection heq with heq;subst heq;simp only [uy,zJB] at hb;have he:=zJH hb.1.1.2;subst he;refine ⟨k,hd,?_⟩;have:=hb.1.2;split at this
  .assumption
  .cases this
 .cases h2
theorem zqs (w:World):∃f:TypeInfo,(typeInfo t).run P w= .ok f w/\f.size=i.size/\f.bytes=i.bytes/\f.zero=some (xj i):=by
 obtain ⟨f,h1,h2,h3,h4⟩:=zg4 hT hi;exact ⟨f,by simp [typeInfo,h1],h2,h3,h4⟩
theorem yJ (w:World):(sizeOf t).run P w= .ok i.size w:=by
 obtain ⟨f,h1,h2,_⟩:=zqs hT hi w;simp [sizeOf,h1,h2]
theorem ZY (w:World):(zeroValue t).run P w= .ok (xj i) w:=by
 obtain ⟨f,h1,_,_,h4⟩:=zqs hT hi w;simp [zeroValue,h1,h4]
theorem ze9 (w:World):(isAgg t).run P w= .ok i.agg w:=by
 obtain ⟨d,h1,h2⟩:=Xs hT hi;simp only [isAgg,Sem.run_bind,run_underlying h1,Result.andThen_ok];cases d<;>simp_all [uy]
end
theorem zrM:∀ {zs:List Z}{ts:List Ty},zhM zs ts=true->zs.length=ts.length
 | [],[],_=>rfl
 | [],_::_,h=>by simp [zhM] at h
 | _::_,[],h=>by simp [zhM] at h
 | z::zs,t::ts,h=>by
  simp only [zhM,zJB] at h;simp [zrM h.2]
theorem uk {E:yw}{P:Program}{tab:List (Nat×TI)}(hT:yG E.leaves P tab=true):∀(τ:Ty) {t:Nat}{i:TI},look tab t=some i->i.ty=some τ->τ.size E=i.size
 | .named n,t,i,hi,h=>by
  have h1:=zhF hT hi;simp only [tyB,h,zJB] at h1;rw [<-zoT hT hi,zrM h1.2];rfl
 | .arr n e,t,i,hi,h=>by
  have h1:=zhF hT hi;obtain ⟨d,hd,h2⟩:=Xs hT hi;simp only [tyB,h,zJB] at h1;obtain ⟨⟨⟨ha,hn⟩,hf⟩,h1⟩:=h1;cases d with
  | array m el =>
   simp only [uy,h,zJB] at h2;obtain ⟨⟨⟨⟨⟨_,h3⟩,h4⟩,_⟩,h6⟩,_⟩:=h2;have h3:=zJH h3;have h4:=zJH h4;have hn:i.alen=n:=by simpa using hn
   subst h4;split at h1
   .rename_i u hu;have:=uk hT e hu (by simpa using h1);simp only [hu,zJB] at h6;rw [zJH h6.1,<-this,<-h3,hn];simp [Ty.size]
   .cases h1
  | _=>simp [uy,h,ha] at h2
 | .bool,t,i,hi,h=>by
  have h1:=zhF hT hi;simp only [tyB,h,zJB,zJU] at h1;rw [zeJ hT hi h1.1];rfl
 | .int k,t,i,hi,h=>by
  have h1:=zhF hT hi;simp only [tyB,h,zJB,zJU] at h1;rw [zeJ hT hi h1.1];rfl
 | .str,t,i,hi,h=>by
  have h1:=zhF hT hi;simp only [tyB,h,zJB,zJU] at h1;rw [zeJ hT hi h1.1];rfl
 | .slice e,t,i,hi,h=>by
  have h1:=zhF hT hi;simp only [tyB,h,zJB,zJU] at h1;rw [zeJ hT hi h1.1.1.1];rfl
theorem za0 {E:yw}{P:Program}{tab:List (Nat×TI)}(hT:yG E.leaves P tab=true) {t:Nat}{i:TI}{e:Ty}(hi:look tab t=some i) (h:i.ty=some (.slice e)) :
  ∃u,look tab i.elem=some u/\u.ty=some e/\u.size≠0/\P.underlying t=some (.slice i.elem)/\∀n e',e≠ .arr n e':=by
 have h1:=zhF hT hi;simp only [tyB,h,zJB,zJU] at h1;obtain ⟨⟨⟨_,h2⟩,_⟩,h4⟩:=h1;obtain ⟨d,hd,h3⟩:=Xs hT hi;split at h2
 .rename_i u hu;simp only [zJB,decide_eq_true_eq,zJU] at h2;refine ⟨u,hu,h2.1,fun e0=>by simp [e0] at h2,?_,fun n e' he=>by subst he;simp at h4⟩;cases d with
  | slice el=>simp only [uy,zJB] at h3;rw [zJH h3.1.1.1.2];exact hd
  | _=>simp [uy,h] at h3
 .cases h2
end Go.Pe
namespace Go.Pe
variable {E:yw}
def RL (R:zh E->Value->Prop) (ps:List (zh E)) (vs:List Value):Prop:=ps.length=vs.length/\∀(j:Nat) p u,ps[j]? =some p->vs[j]? =some u->R p u
section
variable {R:zh E->Value->Prop}
theorem RL.nil:RL R [] []:=⟨rfl,fun j p u h=>by simp at h⟩
theorem RL.cons {p:zh E}{u:Value}{ps:List (zh E)}{vs:List Value}(h:R p u) (k:RL R ps vs):RL R (p::ps) (u::vs) :=
 ⟨by simp [k.1],fun j q v hq hv=>by
  cases j with
  | zero=>simp at hq hv;subst hq hv;exact h
  | succ j=>exact k.2 j q v (by simpa using hq) (by simpa using hv)⟩
theorem RL.append {ps qs:List (zh E)}{us vs:List Value}(h:RL R ps us) (k:RL R qs vs):RL R (ps++qs) (us++vs) :=
 ⟨by simp [h.1,k.1],fun j p u hp hu=>by
  have hl:=h.1;by_cases hj:j<ps.length
  .rw [zJ4 hj] at hp;rw [zJ4 (by omega)] at hu;exact h.2 j p u hp hu
  .rw [zJ9 (by omega)] at hp;rw [zJ9 (by omega)] at hu;exact k.2 _ p u hp (by rw [h.1];exact hu)⟩
theorem RL.drop {ps:List (zh E)}{vs:List Value}(h:RL R ps vs) (n:Nat):RL R (ps.drop n) (vs.drop n) :=
 ⟨by simp [h.1],fun j p u hp hu=>h.2 (n+j) p u (by simpa using hp) (by simpa using hu)⟩
theorem RL.take {ps:List (zh E)}{vs:List Value}(h:RL R ps vs) (n:Nat):RL R (ps.take n) (vs.take n) :=
 ⟨by simp [h.1],fun j p u hp hu=>by
  rw [zKJ] at hp hu;split at hp
  .rw [zb (by assumption)] at hu;exact h.2 j p u hp hu
  .cases hp⟩
theorem RL.mono {R':zh E->Value->Prop}{ps:List (zh E)}{vs:List Value}(h:RL R ps vs) (k:∀p u,R p u->R' p u):RL R' ps vs:=⟨h.1,fun j p u hp hu=>k _ _ (h.2 j p u hp hu)⟩
theorem RL.of_idx {ps:List (zh E)}{cs:Array Value}(hs:cs.size=ps.length) (h:∀i (hi:i<ps.length),R ps[i] (cs.getD i undef)):RL R ps cs.toList :=
 ⟨by simp [hs],fun j p u hp hu=>by
  obtain ⟨hj,rfl⟩:=zJK.1 hp;have:=h j hj;obtain ⟨hj',rfl⟩:=zJK.1 hu;simpa [Array.getD,hs,hj] using this⟩
theorem RL.idx {ps:List (zh E)}{vs:List Value}(h:RL R ps vs):vs.toArray.size=ps.length/\∀i (hi:i<ps.length),R ps[i] (vs.toArray.getD i undef) :=
 ⟨by simp [h.1],fun i hi=>h.2 i _ _ (zJC hi) (by
  have hi':i<vs.length:=by rw [<-h.1];exact hi
  simp [Array.getD,hi'])⟩
end
abbrev Rp (E:yw) (A0:Nat->Prop) (μ:Nat->Loc) (H:List (Blk E)) (w:World):zh E->Value->Prop:=z7 E w (Av A0 μ H) (Us H) μ
abbrev Rt (E:yw) (A0:Nat->Prop) (μ:Nat->Loc) (H:List (Blk E)) (w:World) (τ:Ty) (v:Value) (x:Den E.T τ):Prop:=yn E w (Av A0 μ H) τ v x
theorem z7.aggL {w:World}{A U:Nat->Prop}{μ:Nat->Loc}{ps:List (zh E)}{vs:List Value}(h:RL (z7 E w A U μ) ps vs):z7 E w A U μ (.agg ps) (.agg vs.toArray) :=
 .agg ps _ h.idx.1 h.idx.2
theorem z7.tupleL {w:World}{A U:Nat->Prop}{μ:Nat->Loc}{ps:List (zh E)}{vs:List Value}(h:RL (z7 E w A U μ) ps vs):z7 E w A U μ (.tuple ps) (.tuple vs.toArray) :=
 .tuple ps _ h.idx.1 h.idx.2
theorem yn.leaf_cells {w:World}{A:Nat->Prop}{τ:Ty}{v:Value}{x:Den E.T τ}(h:yn E w A τ v x) (hl:τ.leaf=true):v.cells= #[v]:=by
 cases h<;>first | rfl | (simp [Ty.leaf] at hl)
theorem HL.toP_len:∀(ts:List Ty) (x:HL E.T ts),(HL.toP (E:=E) ts x).length=ts.length
 | [],_=>rfl
 | t::ts,x=>by simp [HL.toP,HL.toP_len ts x.2]
theorem HL.toP_get:∀(ts:List Ty) (x:HL E.T ts) (i:Nat) (h:i<ts.length),(HL.toP (E:=E) ts x)[i]? =some (.v ts[i] (HL.get ts x i h))
 | t::ts,x,0,h=>by simp [HL.toP,HL.get]
 | t::ts,x,i+1,h=>by
  have:=HL.toP_get ts x.2 i (Nat.lt_of_succ_lt_succ h);simpa [HL.toP,HL.get] using this
theorem z7.cells {w:World}{A U:Nat->Prop}{μ:Nat->Loc}{p:zh E}{v:Value}(h:z7 E w A U μ p v) (hl:(uZ p).all zh.leaf=true):RL (z7 E w A U μ) (uZ p) v.cells.toList:=by
 have one:∀ {p:zh E}{v:Value},z7 E w A U μ p v->v.cells= #[v]->RL (z7 E w A U μ) [p] v.cells.toList:=fun h e=>by rw [e];exact RL.cons h RL.nil
 cases h with
 | agg ps cs hs h=>exact RL.of_idx hs h
 | v τ x v h =>
  cases h with
  | named n cs x hs h =>
   have hlen:=HL.toP_len (E:=E) (E.leaves n) (E.unpack n x);refine RL.of_idx (ps:=HL.toP (E.leaves n) (E.unpack n x)) (cs:=cs) (by rw [hs,hlen]) (fun i hi=>?_);rw [hlen] at hi;have:=HL.toP_get (E.leaves n) (E.unpack n x) i hi;obtain ⟨_,e⟩:=zJK.1 this;rw [e];exact .v _ _ _ (h i hi)
  | arr n e cs l vs h1 h2 h3 h4=>simp [uZ,zh.leaf,Ty.leaf] at hl
  | bool b=>exact one (.v _ _ _ (.bool b)) rfl
  | int k x=>exact one (.v _ _ _ (.int k x)) rfl
  | str s=>exact one (.v _ _ _ (.str s)) rfl
  | nil e a cap=>exact one (.v _ _ _ (.nil e a cap)) rfl
  | slice e b off cap l vs h1 h2 h3 h4 h5=>exact one (.v _ _ _ (.slice e b off cap l vs h1 h2 h3 h4 h5)) rfl
 | any v=>simp [uZ,zh.leaf] at hl
 | skip=>simp [uZ,zh.leaf] at hl
 | tuple ps cs hs h=>simp [uZ,zh.leaf] at hl
 | nils a=>exact one (.nils a) rfl
 | own id b off len cap u m=>exact one (.own id b off len cap u m) rfl
 | own0 id a a2 u m=>exact one (.own0 id a a2 u m) rfl
 | full e l a h=>exact one (.full e l a h) rfl
 | bsl id n b u m=>exact one (.bsl id n b u m) rfl
 | ptr id off b len cap u m=>exact one (.ptr id off b len cap u m) rfl
 | eptr e id i off b o len cap u m hi=>exact one (.eptr e id i off b o len cap u m hi) rfl
 | rptr ps b o us a1 a2 a3 a4=>exact one (.rptr ps b o us a1 a2 a3 a4) rfl
 | fn f ps cs hs h=>exact one (.fn f ps cs hs h) rfl
 | bfn f ps cs hs h=>exact one (.bfn f ps cs hs h) rfl
 | yld n i=>exact one (.yld n i) rfl
 | nilfn=>exact one .nilfn rfl
 | nilp=>exact one .nilp rfl
 | nilm=>exact one .nilm rfl
 | map id b u m=>exact one (.map id b u m) rfl
theorem yn.cellsL {w:World}{A U:Nat->Prop}{μ:Nat->Loc}{τ:Ty}{v:Value}{x:Den E.T τ}(h:yn E w A τ v x) (hl:(zhN τ x).all zh.leaf=true):RL (z7 E w A U μ) (zhN τ x) v.cells.toList :=
 z7.cells (.v τ x v h) hl
theorem zl5 {w:World}{A U:Nat->Prop}{μ:Nat->Loc}{p:zh E}{v:Value}(h:z7 E w A U μ p v) (hl:p.leaf=true):v.oneCell'=true:=by
 cases h with
 | v τ x v h=>cases h<;>first | rfl | (simp [zh.leaf,Ty.leaf] at hl)
 | _=>first | rfl | (simp [zh.leaf] at hl)
section
variable {P:Program}{tab:List (Nat×TI)}{A0:Nat->Prop}{μ:Nat->Loc}{H:List (Blk E)}{w:World}{R:Type}{K:zh E->List (Blk E)->Option R}{r:R}
def zZ (P:Program) (A0:Nat->Prop) (μ:Nat->Loc) (H:List (Blk E)) (w:World) {R:Type}(s:Sem Value) (K:zh E->List (Blk E)->Option R) (r:R):Prop :=
 ∃p H' v w' μ',s.run P w= .ok v w'/\zS A0 μ H w μ' H' w'/\zT A0 μ' H' w'/\Rp E A0 μ' H' w' p v/\K p H'=some r
def zey (P:Program) (A0:Nat->Prop) (μ:Nat->Loc) (H:List (Blk E)) (w:World) {R:Type}(s:Sem Unit) (K:zh E->List (Blk E)->Option R) (r:R):Prop :=
 ∃H' w' μ',s.run P w= .ok () w'/\zS A0 μ H w μ' H' w'/\zT A0 μ' H' w'/\K .skip H'=some r
theorem zZ.same {s:Sem Value}{v:Value}{p:zh E}(S:zT A0 μ H w) (h:s.run P w= .ok v w) (hp:Rp E A0 μ H w p v) (hk:K p H=some r):zZ P A0 μ H w s K r :=
 ⟨p,H,v,w,μ,h,zS.refl _ _ _ _,S,hp,hk⟩
theorem Ub (b o j:Nat):(⟨b,o,none⟩:Addr).add j=⟨b,o+j,none⟩:=by unfold Addr.add;split<;>simp_all
theorem zff (hT:yG E.leaves P tab=true) {t:Nat}{i:TI}(hi:look tab t=some i) (w:World) (b o:Nat) (cs:List Value) (hl:cs.length=i.size)
  (hc:∀(j:Nat) u,cs[j]? =some u->w.cell? ⟨b,o+j,none⟩=some u):(loadVar t ⟨b,o,none⟩).run P w= .ok (if i.agg then .agg cs.toArray else cs.headD undef) w:=by
 have hload:(loadCells ⟨b,o,none⟩ cs.length).run P w= .ok cs.toArray w:=run_loadCells_list (P:=P) w ⟨b,o,none⟩ cs (fun j v hv=>by rw [Ub];exact hc j v hv);simp only [loadVar,Sem.run_bind,ze9 hT hi,Result.andThen_ok];cases ha:i.agg with
 | true=>simp [yJ hT hi,<-hl,hload]
 | false =>
  have h1:=zeJ hT hi ha
  match cs,hl with
  | [c],_=>have:=hc 0 c rfl;simp only [zKj] at this;simp [this]
  | [],hl=>simp [h1] at hl
  | _::_::_,hl=>simp [h1] at hl
theorem zj1 {i:TI}{ps:List (zh E)}{vs:List Value}(h:(znN i ps).cps H K=some r) (hr:RL (Rp E A0 μ H w) ps vs) :
  vs.length=i.size/\∃p,Rp E A0 μ H w p (if i.agg then .agg vs.toArray else vs.headD undef)/\K p H=some r:=by
 unfold znN at h;split at h
 .rename_i hn;have hn:=zJH hn;refine ⟨by rw [<-hr.1,hn],?_⟩;split at h
  .rename_i ha;rw [zb ha];exact ⟨_,z7.aggL hr,h⟩
  .rename_i ha;rw [zc ha]
   match ps,vs,hr,h with
   | [c],[u],hr,h=>exact ⟨c,hr.2 0 c u rfl rfl,h⟩
   | [c],[],hr,_=>simp [RL] at hr
   | [c],_::_::_,hr,_=>simp [RL] at hr
   | [],_,_,h=>simp [Dec.cps] at h
   | _::_::_,_,_,h=>simp [Dec.cps] at h
 .simp [Dec.cps] at h
theorem zfL {R:zh E->Value->Prop}{ps:List (zh E)}{vs:List Value}(h:RL R ps vs) (off n:Nat):RL R (Pe.sub ps off n) (Pe.sub vs off n):=(h.drop off).take n
theorem zrj {w:World}{b:Nat}{fr:Bool}{c:Array Value}(h:zeW w b fr c) (off n:Nat):∀(j:Nat) u,(Pe.sub c.toList off n)[j]? =some u->w.cell? ⟨b,off+j,none⟩=some u:=by
 intro j u hu;obtain ⟨t,f,hb,_⟩:=h;unfold Pe.sub at hu;rw [zKJ] at hu;split at hu
 .rw [List.getElem?_drop] at hu;simp only [World.cell?,hb];simpa using hu
 .cases hu
theorem xZ {τ τ':Ty}{x:Den E.T τ}{y:Den E.T τ'}(h:vk (E:=E) τ τ' x=some y):∃e:τ=τ',e▸x=y:=by
 unfold vk at h;split at h
 .rename_i e;exact ⟨e,by simpa using h⟩
 .cases h
end
end Go.Pe
namespace Go.Pe
variable {E:yw}
section
variable {P:Program}{tab:List (Nat×TI)}{A0:Nat->Prop}{μ:Nat->Loc}{H:List (Blk E)}{w:World}{R:Type}
theorem yn.less {A A':Nat->Prop}{τ:Ty}{v:Value}{x:Den E.T τ}(h:yn E w A τ v x) (hA:∀b,A' b->A b):yn E w A' τ v x :=
 h.mono (zJF _) (fun b _ hb=>⟨rfl,fun h'=>hb (hA b h')⟩)
theorem zwM {wr:Bool}{e:Ty}{l:List (Den E.T e)}{b o n c:Nat}{A A':Nat->Prop}{U:Nat->Prop}(ok:xT w A U μ (.blk b o n c) (.row wr e l))
  (hA:∀b,A' b->A b) (hb: ¬A' b):n=l.length/\yn E w A' (.slice e) (.slice (some ⟨b,o,none⟩) n c) l:=by
 rcases ok with ⟨b',off,cap,c',vs,hl,hbox,h1,h2,h3,h4⟩ | ⟨_,a,h2⟩
 .injection hl with e1 e2 e3 e4;subst e1 e2 e3 e4;refine ⟨rfl,.slice e b o c l vs hb hbox.lt h1 (fun i hi j u hu=>?_) (fun i hi=>(h4 i hi).less hA)⟩;obtain ⟨t,f,hh,_⟩:=hbox;simp only [World.cell?,hh];simpa using h3 i hi j u hu
 .cases h2
theorem zrg {τ:Ty}{p:zh E}{v:Value}{y:Den E.T τ}{ids:List Nat}(S:zT A0 μ H w) (hp:Rp E A0 μ H w p v) (h:vf τ p H=some (y,ids))
  {A':Nat->Prop}(hA:∀b,A' b->Av A0 μ H b) (hids:∀id∈ids,∀b o l c,μ id= .blk b o l c->¬A' b):yn E w A' τ v y:=by
 cases hp with
 | v τ' x v hx =>
  simp only [vf,zJL] at h;obtain ⟨z,hz,he⟩:=h;obtain ⟨e,rfl⟩:=xZ hz;subst e;simp at he;obtain ⟨rfl,_⟩:=he;exact hx.less hA
 | nils a =>
  simp only [vf] at h;split at h
  .simp at h;obtain ⟨rfl,_⟩:=h;exact .nil _ a 0
  .cases h
 | full e l a hx =>
  simp only [vf] at h;split at h
  .simp only [zJL] at h;obtain ⟨z,hz,he⟩:=h;obtain ⟨e',rfl⟩:=xZ hz;injection e' with e';subst e';simp at he;obtain ⟨rfl,_⟩:=he;exact hx.less hA
  .cases h
 | own id b o n c hU hμ =>
  simp only [vf] at h;split at h
  .cases hB:zn H id with
   | row wr e' l =>
    simp only [hB,zJL] at h;obtain ⟨z,hz,he⟩:=h;obtain ⟨e',rfl⟩:=xZ hz;injection e' with e';subst e';simp at he;obtain ⟨rfl,rfl⟩:=he;have ok:=S.ok id;rw [hB,hμ] at ok;exact (zwM ok hA (hids id (by simp) b o n c hμ)).2
   | _=>simp [hB] at h
  .cases h
 | own0 id a a2 hU hμ =>
  simp only [vf] at h;split at h
  .cases hB:zn H id with
   | row wr e' l =>
    simp only [hB,zJL] at h;obtain ⟨z,hz,he⟩:=h;obtain ⟨e',rfl⟩:=xZ hz;injection e' with e';subst e';simp at he;obtain ⟨rfl,rfl⟩:=he;have ok:=S.ok id;rw [hB,hμ] at ok;rcases ok with ⟨_,_,_,_,_,hl,_⟩ | ⟨rfl,_⟩
    .cases hl
    .exact .nil _ a 0
   | _=>simp [hB] at h
  .cases h
 | _=>simp [vf] at h
theorem zvy {τ:Ty}{p:zh E}{y:Den E.T τ}{ids:List Nat}(h:vf τ p []=some (y,ids)) (H:List (Blk E)):vf τ p H=some (y,ids)/\ids=[]:=by
 cases p with
 | own id=>simp only [vf] at h;split at h<;>simp_all [zn]
 | v τ' x=>exact ⟨h,by simp only [vf,zJL] at h;obtain ⟨z,_,he⟩:=h;simp at he;exact he.2⟩
 | nils=>refine ⟨h,?_⟩;simp only [vf] at h;split at h<;>simp_all
 | full e l =>
  refine ⟨h,?_⟩;simp only [vf] at h;split at h
  .simp only [zJL] at h;obtain ⟨z,_,he⟩:=h;simp at he;exact he.2
  .cases h
 | _=>simp [vf] at h
theorem zo1:∀ {ts:List Ty}{ps:List (zh E)}{vs:List Value}{x:HL E.T ts}{ids:List Nat},zT A0 μ H w->RL (Rp E A0 μ H w) ps vs->wG ts ps H=some (x,ids) ->
  ∀ {A':Nat->Prop},(∀b,A' b->Av A0 μ H b)->(∀id∈ids,∀b o l c,μ id= .blk b o l c->¬A' b) ->
  vs.length=ts.length/\∀i (hi:i<ts.length),yn E w A' ts[i] (vs.getD i undef) (HL.get ts x i hi)
 | [],[],vs,x,ids,S,hr,h,A',hA,hids=>by
  have:=hr.1;simp at this;simp [this.symm]
 | [],_::_,_,_,_,_,_,h,_,_,_=>by simp [wG] at h
 | _::_,[],_,_,_,_,_,h,_,_,_=>by simp [wG] at h
 | t::ts,p::ps,[],_,_,_,hr,_,_,_,_=>by have:=hr.1;simp at this
 | t::ts,p::ps,v::vs,x,ids,S,hr,h,A',hA,hids=>by
  simp only [wG,zJL] at h;obtain ⟨a,ha,b,hb,he⟩:=h;obtain ⟨a1,a2⟩:=a;obtain ⟨b1,b2⟩:=b;simp at he;obtain ⟨rfl,rfl⟩:=he;have h0:=zrg S (hr.2 0 p v rfl rfl) ha hA (fun id hid=>hids id (by simp [hid]));have h1:=zo1 (ts:=ts) (ps:=ps) (vs:=vs) S ⟨by have:=hr.1;simpa using this,fun j p u hp hu=>hr.2 (j+1) p u (by simpa using hp) (by simpa using hu)⟩ hb hA (fun id hid=>hids id (by simp [hid]));refine ⟨by simp [h1.1],fun i hi=>?_⟩;cases i with
  | zero=>simpa [HL.get] using h0
  | succ i=>simpa [HL.get] using h1.2 i (Nat.lt_of_succ_lt_succ hi)
theorem zq5:∀ {ts:List Ty}{ps:List (zh E)}{x:HL E.T ts}{ids:List Nat},wG ts ps []=some (x,ids)->∀H:List (Blk E),wG ts ps H=some (x,ids)/\ids=[]
 | [],[],_,_,h,H=>by simp [wG] at h ⊢;exact h
 | [],_::_,_,_,h,_=>by simp [wG] at h
 | _::_,[],_,_,h,_=>by simp [wG] at h
 | t::ts,p::ps,x,ids,h,H=>by
  simp only [wG,zJL] at h ⊢;obtain ⟨⟨a1,a2⟩,ha,⟨b1,b2⟩,hb,he⟩:=h;simp at he;obtain ⟨rfl,rfl⟩:=he;obtain ⟨ha',rfl⟩:=zvy ha H;obtain ⟨hb',rfl⟩:=zq5 hb H;exact ⟨⟨_,ha',_,hb',rfl⟩,rfl⟩
theorem zyj {τ:Ty}{p:zh E}{v:Value}{y:Den E.T τ}{ids:List Nat}(S:zT A0 μ H w) (hp:Rp E A0 μ H w p v) (h:toT τ p H=some (y,ids))
  {A':Nat->Prop}(hA:∀b,A' b->Av A0 μ H b) (hids:∀id∈ids,∀b o l c,μ id= .blk b o l c->¬A' b):yn E w A' τ v y:=by
 unfold toT at h;split at h
 .rename_i cs n;simp only [zJL] at h;obtain ⟨⟨x,ids'⟩,hx,he⟩:=h;simp at he;obtain ⟨rfl,rfl⟩:=he;cases hp with
  | agg ps vs hs hr =>
   obtain ⟨h1,h2⟩:=zo1 S (RL.of_idx hs hr) hx hA hids;refine .named n vs _ (by simpa using h1) (fun i hi=>?_);rw [E.up];simpa [zJ5] using h2 i hi
 .exact zrg S hp h hA hids
theorem zHV {τ:Ty}{p:zh E}{y:Den E.T τ}{ids:List Nat}(h:toT τ p []=some (y,ids)) (H:List (Blk E)):toT τ p H=some (y,ids)/\ids=[]:=by
 unfold toT at h ⊢;split at h
 .rename_i cs n;simp only [zJL] at h;obtain ⟨⟨x,ids'⟩,hx,he⟩:=h;simp at he;obtain ⟨rfl,rfl⟩:=he;obtain ⟨h1,rfl⟩:=zq5 hx H;simp [h1]
 .exact zvy h H
theorem zpv {τ:Ty}{p:zh E}{v:Value}{y:Den E.T τ}(S:zT A0 μ H w) (hp:Rp E A0 μ H w p v) (h:zAO τ p=some y):Rt E A0 μ H w τ v y:=by
 simp only [zAO,zJL] at h;obtain ⟨⟨x,ids⟩,hx,he⟩:=h;simp at he;subst he;obtain ⟨h1,rfl⟩:=zHV hx H;exact zyj S hp h1 (fun _ h=>h) (fun id hid=>by cases hid)
theorem zAI {id:Nat}{wr:Bool}{e:Ty}{l:List (Den E.T e)}(hB:zn H id= .row wr e l) {B:Blk E}:∀j,zn H j= .free->zn (H.set id B) j= .free:=by
 intro j hj;have hne:id≠j:=fun e=>by subst e;rw [hB] at hj;cases hj
 rw [z6 H B hne];exact hj
theorem zcz {id:Nat}{wr:Bool}{e:Ty}{l:List (Den E.T e)}(S:zT A0 μ H w) (hB:zn H id= .row wr e l) :
  zS A0 μ H w μ (H.set id (.row false e l)) w/\zT A0 μ (H.set id (.row false e l)) w /\
   ∀v,Rp E A0 μ H w (.own id) v->∃a c,v= .slice a l.length c/\Rt E A0 μ (H.set id (.row false e l)) w (.slice e) v l:=by
 have hu:Us H id:=by unfold Us;rw [hB];rfl
 have hlt:=xY hu;have T:zS A0 μ H w μ (H.set id (.row false e l)) w:=zS.drop id _ hu rfl rfl;have ok:=S.ok id;rw [hB] at ok;have S':zT A0 μ (H.set id (.row false e l)) w:=by
  refine S.drop id _ hu rfl rfl (fun _=>by rw [hB];rfl) (fun _=>by rw [hB];rfl) ?_;have ok':=ok.keep T (fun _ _ _ _ _ _=>rfl);rcases ok' with ⟨b,off,cap,c,vs,hl,hbox,h1⟩ | h1
  .obtain ⟨t,f,hh,_⟩:=hbox;exact .inl ⟨b,off,cap,c,vs,hl,⟨t,f,hh,fun h=>by cases h⟩,h1⟩
  .exact .inr h1
 refine ⟨T,S',fun v hv=>?_⟩;have ok2:=S'.ok id;rw [yg H id _ hlt] at ok2;cases hv with
 | own id b o n c hU hμ =>
  rw [hμ] at ok2;have hA: ¬Av A0 μ (H.set id (.row false e l)) b:=by
   rintro (h0 | ⟨j,o',n',c',hj,hj'⟩)
   .exact (S'.out id b o n c (by rw [yg H id _ hlt];rfl) hμ).1 h0.1
   .by_cases ej:j=id
    .subst ej;rw [yg H j _ hlt] at hj;cases hj
    .exact S'.inj j id b o' n' c' b o n c ej hj (by rw [yg H id _ hlt];rfl) hj' hμ rfl
  obtain ⟨h1,h2⟩:=zwM ok2 (fun _ h=>h) hA;subst h1;exact ⟨_,_,rfl,h2⟩
 | own0 id a a2 hU hμ =>
  rw [hμ] at ok2;rcases ok2 with ⟨_,_,_,_,_,hl,_⟩ | ⟨rfl,_⟩
  .cases hl
  .exact ⟨a,0,rfl,.nil _ a 0⟩
variable {α:Type}{K:α->List (Blk E)->Option R}{r:R}
theorem zo6 {τ:Ty}(k:Den E.T τ->Dec E α):∀ {cs:List (zh E)}{acc:List (zh E)}{vs:List Value}{us:List Value}{H:List (Blk E)},zT A0 μ H w->RL (Rp E A0 μ H w) cs vs ->
  RL (Rp E A0 μ H w) acc us->(zct.typedAgg τ k cs acc).cps H K=some r ->
  ∃x H',zS A0 μ H w μ H' w/\zT A0 μ H' w/\Rt E A0 μ H' w τ (.agg (us++vs).toArray) x/\(∀id,zn H id= .free->zn H' id= .free)/\(k x).cps H' K=some r
 | [],acc,vs,us,H,S,hc,ha,h=>by
  have:=hc.1;simp at this;obtain rfl:=List.length_eq_zero_iff.1 this.symm;simp only [zct.typedAgg] at h;split at h
  .rename_i y hy;exact ⟨y,H,zS.refl _ _ _ _,S,by simpa using zpv S (z7.aggL ha) hy,fun _ h=>h,h⟩
  .simp [Dec.cps] at h
 | c::cs,acc,[],us,H,S,hc,ha,h=>by have:=hc.1;simp at this
 | c::cs,acc,v::vs,us,H,S,hc,ha,h=>by
  have hc0:=hc.2 0 c v rfl rfl;have hcs:RL (Rp E A0 μ H w) cs vs:=⟨by have:=hc.1;simpa using this,fun j p u hp hu=>hc.2 (j+1) p u (by simpa using hp) (by simpa using hu)⟩
  have go:∀(c:zh E) (H':List (Blk E)),zS A0 μ H w μ H' w->zT A0 μ H' w->(∀id,zn H id= .free->zn H' id= .free)->Rp E A0 μ H' w c v->(zct.typedAgg τ k cs (acc++[c])).cps H' K=some r ->
    ∃x H',zS A0 μ H w μ H' w/\zT A0 μ H' w/\Rt E A0 μ H' w τ (.agg (us++v::vs).toArray) x/\(∀id,zn H id= .free->zn H' id= .free)/\(k x).cps H' K=some r:=fun c H' T S' hfr hcv h=>by
   obtain ⟨x,H'',T',S'',hx,hfr',hk⟩:=zo6 k S' (hcs.mono fun _ _=>T.rep) ((ha.mono fun _ _=>T.rep).append (RL.cons hcv RL.nil)) h;exact ⟨x,H'',T.trans T',S'',by simpa using hx,fun id h=>hfr' id (hfr id h),hk⟩
  cases c with
  | own id =>
   simp only [zct.typedAgg,Dec.cps] at h;cases hB:zn H id with
   | row wr e l =>
    rw [hB] at h;simp only [Dec.cps] at h;cases hlt:Nat.blt id H.length with
    | false=>simp [hlt] at h
    | true =>
     simp only [hlt,cond_true] at h;obtain ⟨T,S',hrep⟩:=zcz S hB;obtain ⟨a,c,rfl,hv⟩:=hrep v hc0;exact go (.v (.slice e) l) _ T S' (zAI hB) (.v _ _ _ hv) h
   | _=>rw [hB] at h;simp [Dec.cps] at h
  | _=>exact go _ H (zS.refl _ _ _ _) S (fun _ h=>h) hc0 (by simpa only [zct.typedAgg] using h)
theorem zc5 {τ:Ty}{p:zh E}{v:Value}{k:Den E.T τ->Dec E α}(S:zT A0 μ H w) (hp:Rp E A0 μ H w p v) (h:(zct τ p k).cps H K=some r) :
  ∃x H',zS A0 μ H w μ H' w/\zT A0 μ H' w/\Rt E A0 μ H' w τ v x/\(∀id,zn H id= .free->zn H' id= .free)/\(k x).cps H' K=some r:=by
 unfold zct at h;split at h
 .rename_i id;simp only [Dec.cps] at h;cases hB:zn H id with
  | row wr e l =>
   rw [hB] at h;simp only [Dec.cps] at h;cases hlt:Nat.blt id H.length with
   | false=>simp [hlt] at h
   | true =>
    simp only [hlt,cond_true] at h;obtain ⟨T,S',hrep⟩:=zcz S hB;obtain ⟨a,c,rfl,hv⟩:=hrep v hp;split at h
    .rename_i y hy;exact ⟨y,_,T,S',zpv S' (.v _ _ _ hv) hy,zAI hB,h⟩
    .simp [Dec.cps] at h
  | _=>rw [hB] at h;simp [Dec.cps] at h
 .rename_i cs;cases hp with
  | agg ps vs hs hr =>
   obtain ⟨x,H',T,S',hx,hfr,hk⟩:=zo6 k S (RL.of_idx hs hr) RL.nil h;exact ⟨x,H',T,S',by simpa using hx,hfr,hk⟩
 .split at h
  .rename_i y hy;exact ⟨y,H,zS.refl _ _ _ _,S,zpv S hp hy,fun _ h=>h,h⟩
  .simp [Dec.cps] at h
theorem Zj {e:Ty}(h:e.leaf=true):e.size E=1:=by cases e<;>first | rfl | (simp [Ty.leaf] at h)
theorem zGE {i:TI}{n:Nat}{e:Ty}(h:zfn i=some (n,e)):i.ty=some (.arr n e):=by
 unfold zfn at h;split at h
 .rename_i hty;simp at h;obtain ⟨rfl,rfl⟩:=h;exact hty
 .cases h
theorem ztH (hT:yG E.leaves P tab=true) {t:Nat}{i:TI}(hi:look tab t=some i) {n:Nat}{e:Ty}(h:zfn i=some (n,e)):i.agg=true/\i.alen=n/\i.size=n*e.size E:=by
 have hty:=zGE h;have h1:=zhF hT hi;simp only [tyB,hty,zJB] at h1;exact ⟨h1.1.1.1,by simpa using h1.1.1.2,(uk hT _ hi hty).symm⟩
theorem zIb {wr:Bool}{e:Ty}{l:List (Den E.T e)}{b o n c:Nat}{A U:Nat->Prop}(he:e.leaf=true) (ok:xT w A U μ (.blk b o n c) (.row wr e l)) :
  n=l.length/\∃cs:List Value,cs.length=l.length/\(∀(j:Nat) u,cs[j]? =some u->w.cell? ⟨b,o+j,none⟩=some u)/\yn E w A (.arr l.length e) (.agg cs.toArray) l:=by
 rcases ok with ⟨b',off,cap,c',vs,hl,hbox,h1,h2,h3,h4⟩ | ⟨_,a,h2⟩;rotate_left
 .cases h2
 injection hl with e1 e2 e3 e4;subst e1 e2 e3 e4;have hsz:=Zj (E:=E) he;obtain ⟨t,f,hh,_⟩:=hbox;refine ⟨rfl,(List.range l.length).map vs,by simp,fun j u hu=>?_,.arr _ e _ l vs rfl (by simp [hsz]) (fun i hi j u hu=>?_) h4⟩
 .simp only [zJ8,zJR] at hu;obtain ⟨i,hi,rfl⟩:=hu;obtain ⟨hj,hij⟩:=zJK.1 hi;simp only [List.getElem_range] at hij;subst hij;have hj':j<l.length:=by simpa using hj
  have:=h3 j hj' 0 (vs j) (by rw [(h4 j hj').leaf_cells he];rfl);simp only [World.cell?,hh];simpa [hsz] using this
 .rw [(h4 i hi).leaf_cells he] at hu;cases j with
  | zero =>
   have hu:vs i=u:=by simpa using hu
   subst hu;simp [hsz,hi]
  | succ j=>simp at hu
theorem zti {R:Type}{K:zh E->List (Blk E)->Option R}{r:R}(hT:yG E.leaves P tab=true) {t:Nat}{i:TI}(hi:look tab t=some i) {n:Nat}{e:Ty}(ha:zfn i=some (n,e)) {p:zh E}{v:Value}(S:zT A0 μ H w) (hp:Rp E A0 μ H w p v)
  (h:(zzx n e p).cps H K=some r):∃b o cs l,v= .pointer (some ⟨b,o,none⟩)/\(loadVar t ⟨b,o,none⟩).run P w= .ok (.agg cs) w/\Rt E A0 μ H w (.arr n e) (.agg cs) l/\K (.v (.arr n e) l) H=some r:=by
 unfold zzx at h;split at h;rotate_left
 .simp [Dec.cps] at h
 rename_i e' id k off;split at h;rotate_left
 .simp [Dec.cps] at h
 rename_i hc;simp only [zJB,decide_eq_true_eq] at hc;obtain ⟨⟨⟨h1,h2⟩,rfl⟩,he⟩:=hc;have h1:=zJH h1;have h2:=zJH h2;subst h1 h2;simp only [Dec.cps] at h;cases hp with
 | eptr e id n0 off b o len cap hU hμ hlt =>
  have ok:=S.ok id;cases hB:zn H id with
  | row wr e2 l =>
   rw [hB,hμ] at ok;rw [hB] at h;simp only at h;split at h;rotate_left
   .simp [Dec.cps] at h
   rename_i l' hcast;obtain ⟨he2,rfl⟩:=xZ hcast;injection he2 with he2;subst he2;simp only [Dec.cps] at h;cases hd:decide (l.length=n) with
   | false=>simp [hd] at h
   | true =>
    simp only [hd,cond_true] at h;have hd:l.length=n:=by simpa using hd
    subst hd;obtain ⟨_,cs,hl,hcell,hrep⟩:=zIb he ok;obtain ⟨hagg,_,hsz⟩:=ztH hT hi ha;have hrun:=zff hT hi w b o cs (by rw [hl,hsz,Zj he];simp) hcell;rw [zb hagg] at hrun;exact ⟨b,o,cs.toArray,l,by simp,hrun,hrep,h⟩
  | _=>rw [hB] at h;simp [Dec.cps] at h
theorem zhx {α R:Type}{k:Dec E α}{K:α->List (Blk E)->Option R}{r:R}:∀(ps:List (zh E)) {H:List (Blk E)},zT A0 μ H w->(zpZ ps k).cps H K=some r ->
  ∃H',zS A0 μ H w μ H' w/\zT A0 μ H' w/\k.cps H' K=some r
 | [],H,S,h=>⟨H,zS.refl _ _ _ _,S,h⟩
 | p::ps,H,S,h=>by
  cases p with
  | own id =>
   simp only [zpZ,Dec.cps] at h;cases hB:zn H id with
   | rowh e l n j =>
    rw [hB] at h;simp only [Dec.cps] at h;cases hJ:zn H j with
    | row wr e' l' =>
     rw [hJ] at h;cases wr with
     | false=>simp [Dec.cps] at h
     | true =>
      simp only at h;split at h;rotate_left
      .simp [Dec.cps] at h
      rename_i l2 hcast;obtain ⟨he,rfl⟩:=xZ hcast;injection he with he;subst he;simp only [Dec.cps] at h;cases hlj:Nat.blt j H.length with
      | false=>simp [hlj] at h
      | true =>
       simp only [hlj,cond_true] at h;obtain ⟨T1,S1,hrep⟩:=zcz S hJ;have hij:j≠id:=fun e=>by rw [e,hB] at hJ;cases hJ
       cases hli:Nat.blt id (H.set j (.row false e' l')).length with
       | false=>rw [hli] at h;cases h
       | true =>
        simp only [hli,cond_true] at h;have hB1:zn (H.set j (.row false e' l')) id= .rowh e' l n j:=by rw [z6 H _ hij];exact hB
        have hu:Us (H.set j (.row false e' l')) id:=by unfold Us;rw [hB1];rfl
        have hlive:yQ (zn (H.set j (.row false e' l')) id)=true:=by rw [hB1];rfl
        have T2:zS A0 μ (H.set j (.row false e' l')) w μ ((H.set j (.row false e' l')).set id (.row true (.slice e') (l.set n l'))) w:=zS.write id _ hu (yi.refl w) hlive (fun _ _ _=>rfl) rfl;have S2:zT A0 μ ((H.set j (.row false e' l')).set id (.row true (.slice e') (l.set n l'))) w:=by
         refine S1.write id _ hu (yi.refl w) hlive (fun _ _ _=>rfl) rfl ?_;have ok:=S.ok id;rw [hB] at ok;obtain ⟨b,off,cap,c,vs,hl,hbox,g1,g2,g3,g4,g5,g6⟩:=ok;obtain ⟨a,cc,hv,hr⟩:=hrep _ g6;refine .inl ⟨b,off,cap,c,vs,by rw [zJ6];exact hl,hbox,by rw [zJ6];exact g1,by simpa [Ty.size] using g2,fun i hi q u hu=>?_,fun i hi=>?_⟩
         .rw [zJ6] at hi;have:=g4 i hi q u hu;simpa [Ty.size] using this
         .simp only [zJ6] at hi;rw [List.getElem_set];by_cases hin:n=i
          .subst hin;rw [zb rfl];exact T2.repT hr
          .rw [zc hin];exact T2.repT (T1.repT (g5 i hi (Ne.symm hin)))
        obtain ⟨H',T3,S3,hk⟩:=zhx ps S2 h;exact ⟨H',T1.trans (T2.trans T3),S3,hk⟩
    | _=>rw [hJ] at h;simp [Dec.cps] at h
   | _=>rw [hB] at h;exact zhx ps S h
  | _=>simp only [zpZ] at h;exact zhx ps S h
theorem zB5 {R:Type}{K:zh E->List (Blk E)->Option R}{r:R}(hT:yG E.leaves P tab=true) {t:Nat}{i:TI}(hi:look tab t=some i) {mv:Bool}{p:zh E}{v:Value}(S:zT A0 μ H w) (hp:Rp E A0 μ H w p v)
  (h:(zDA mv i p).cps H K=some r):zZ P A0 μ H w (Instr.loadAt t v) K r:=by
 have fin:∀(b o:Nat) (ps:List (zh E)) (vs:List Value),(znN i ps).cps H K=some r->RL (Rp E A0 μ H w) ps vs->(∀(j:Nat) u,vs[j]? =some u->w.cell? ⟨b,o+j,none⟩=some u) ->
   zZ P A0 μ H w (Instr.loadAt t (.pointer (some ⟨b,o,none⟩))) K r:=fun b o ps vs h hr hc=>by
  obtain ⟨hl,p,hp,hk⟩:=zj1 h hr;exact zZ.same S (by simp [Instr.loadAt,Instr.sureAddr,zff hT hi w b o vs hl hc]) hp hk
 unfold zDA at h;split at h
 .rename_i n e ha;obtain ⟨b,o,cs,l,rfl,hrun,hrep,hk⟩:=zti hT hi ha S hp h;exact zZ.same S (by simp [Instr.loadAt,Instr.sureAddr,hrun]) (.v _ _ _ hrep) hk
 rename_i hna;cases hp with
 | ptr id off b len cap hU hμ =>
  simp only [Dec.cps] at h;have ok:=S.ok id;cases hB:zn H id with
  | box wr cs =>
   rw [hB] at ok h;obtain ⟨b',len',cap',c,hl,hbox,hsz,hr⟩:=ok;rw [hμ] at hl;injection hl with e1;subst e1;have hrl:=zfL (RL.of_idx hsz (fun j hj=>(hr j hj).1)) off i.size;simp only at h;split at h
   .obtain ⟨H',T',S',hk⟩:=zhx _ S h;obtain ⟨hl,p,hp,hk⟩:=zj1 (A0:=A0) (μ:=μ) (w:=w) hk (hrl.mono fun _ _=>T'.rep);exact ⟨_,_,_,w,μ,by simp [Instr.loadAt,Instr.sureAddr,zff hT hi w b off _ hl (zrj hbox off i.size)],T',S',hp,hk⟩
   .exact fin b off _ _ h hrl (zrj hbox off i.size)
  | _=>rw [hB] at h;simp [Dec.cps] at h
 | eptr e id n off b o len cap hU hμ _ =>
  simp only [Dec.cps] at h;have ok:=S.ok id;cases hB:zn H id with
  | rowh e' l n' k =>
   rw [hB] at ok h;simp only at h;split at h;rotate_left
   .simp [Dec.cps] at h
   rename_i hc;simp only [zJB,decide_eq_true_eq] at hc;obtain ⟨h0,rfl⟩:=hc;have h0:=zJH h0;subst h0;simp only [Dec.cps] at h;cases hd:decide (n=n') with
   | false=>simp [hd] at h
   | true =>
    simp only [hd,cond_true] at h;have hd:n=n':=by simpa using hd
    subst hd;obtain ⟨b',off,cap',c,vs,hl,hbox,g1,g2,g3,g4,g5,g6⟩:=ok;rw [hμ] at hl;injection hl with e1 e2;subst e1 e2;have hone:(vs n).cells= #[vs n]:=by
     generalize vs n=u at g6;cases g6<;>rfl
    refine fin _ _ _ _ h (RL.cons g6 RL.nil) (fun j u hu=>?_);cases j with
    | zero =>
     have hu:vs n=u:=by simpa using hu
     subst hu;have:=g4 n g3 0 (vs n) (by rw [hone];rfl);obtain ⟨t',f,hb,_⟩:=hbox;simp only [World.cell?,hb];simpa [Ty.size] using this
    | succ j=>simp at hu
  | row wr e' l =>
   rw [hB] at ok h;simp only at h;split at h
   .rename_i l' hcast;obtain ⟨he,rfl⟩:=xZ hcast;injection he with he;subst he;simp only [Dec.cps] at h;cases hx:l[n]? with
    | none=>simp [hx] at h
    | some x =>
     simp only [hx,zJA] at h;obtain ⟨hn,hxe⟩:=zJK.1 hx;rcases ok with ⟨b',off',cap',c,vs,hl,hbox,h1,h2,h3,h4⟩ | ⟨rfl,_⟩
     .rw [hμ] at hl;injection hl with e1 e2;subst e1 e2;have hrep:=h4 n hn;rw [hxe] at hrep;split at h
      .rename_i hleaf;refine fin _ _ _ _ h (zfL (yn.cellsL hrep hleaf) off i.size) (fun j u hu=>?_);unfold Pe.sub at hu;rw [zKJ] at hu;split at hu
       .rw [List.getElem?_drop,zKk] at hu;have:=h3 n hn _ _ hu;obtain ⟨t',f,hb,_⟩:=hbox;simp only [World.cell?,hb];simpa [zKQ] using this
       .cases hu
      .simp [Dec.cps] at h
     .simp at hn
   .simp [Dec.cps] at h
  | _=>rw [hB] at h;simp [Dec.cps] at h
 | rptr ps b o us hA hb hm hr =>
  simp only at h;refine fin b o _ _ h (zfL (ps:=ps) (vs:=(List.range ps.length).map us) ⟨by simp,fun j p u hp hu=>?_⟩ 0 i.size) (fun j u hu=>?_)
  .obtain ⟨hj,rfl⟩:=zJK.1 hp;simp [hj] at hu;subst hu;exact hr j hj
  .unfold Pe.sub at hu;rw [zKJ] at hu;split at hu
   .simp only [List.drop_zero,zJ8,zJR] at hu;obtain ⟨a,ha,rfl⟩:=hu;obtain ⟨hj,rfl⟩:=zJK.1 ha;simpa using hm j (by simpa using hj)
   .cases hu
 | _=>simp [Dec.cps] at h
end
end Go.Pe
namespace Go.Pe
variable {E:yw}
theorem yn.size {w:World}{A:Nat->Prop}{τ:Ty}{v:Value}{x:Den E.T τ}(h:yn E w A τ v x):v.cells.size=τ.size E:=by
 cases h<;>first | rfl | assumption
section
variable {P:Program}{tab:List (Nat×TI)}{A0:Nat->Prop}{μ:Nat->Loc}{H:List (Blk E)}{w:World}{R:Type}{K:zh E->List (Blk E)->Option R}{r:R}
theorem zE6 {w:World}{A U:Nat->Prop}{l:Loc}{wr:Bool}{cs:List (zh E)}(ok:xT w A U μ l (.box wr cs)) :
  ∃b n cap c,l= .blk b 0 n cap/\zeW w b wr c/\RL (z7 E w A U μ) cs c.toList/\∀p∈cs,p.leaf=true:=by
 obtain ⟨b,n,cap,c,hl,hbox,hsz,hr⟩:=ok;refine ⟨b,n,cap,c,hl,hbox,RL.of_idx hsz (fun j hj=>(hr j hj).1),fun p hp=>?_⟩;obtain ⟨j,hj,rfl⟩:=zKX hp;exact (hr j hj).2
theorem zEM {w:World}{A U:Nat->Prop}{wr:Bool}{cs:List (zh E)}{b n cap:Nat}{vs:List Value}(hbox:zeW w b wr vs.toArray) (hr:RL (z7 E w A U μ) cs vs) (hl:∀p∈cs,p.leaf=true) :
  xT w A U μ (.blk b 0 n cap) (.box wr cs) :=
 ⟨b,n,cap,vs.toArray,rfl,hbox,hr.idx.1,fun j hj=>⟨hr.idx.2 j hj,hl _ (zJY hj)⟩⟩
theorem Xu {i:TI}{τ:Ty}(h:zbg i τ=true):i.ty=some τ:=by
 unfold zbg at h;split at h
 .simp at h;subst h;assumption
 .cases h
theorem zq2 {t:Nat}{i:TI}(hT:yG E.leaves P tab=true) (hi:look tab t=some i) {b o:Nat}{c:Array Value}{t':TypeId}{u:Value}(hh:w.heap[b]? =some (.cells c t' (0,0))) (hsz:u.cells.size=i.size) (hle:o+i.size<=c.size) (hone:∀y∈u.cells.toList,y.oneCell'=true) :
  (Instr.storeAt t (.pointer (some ⟨b,o,none⟩)) u).run P w= .ok () (w.setRow b (c.toList.take o++u.cells.toList++c.toList.drop (o+i.size)).toArray):=by
 have hrun:=run_storeCells_at (P:=P) b o t' u.cells.toList 0 c w hh (by simp [hsz];omega) hone;simp only [Instr.storeAt,Instr.sureAddr,storeVar,Sem.run_bind,Sem.run_pure,Result.andThen_ok,yJ hT hi,hsz];simpa [hsz] using hrun
theorem zDc {o n:Nat}{c:Array Value}{u:List Value}(hn:u.length=n) (hle:o+n<=c.size):(c.toList.take o++u++c.toList.drop (o+n)).toArray.size=c.size /\
  ∀k,(c.toList.take o++u++c.toList.drop (o+n)).toArray[k]? =if k<o then c[k]? else if k<o+n then u[k-o]? else c[k]? :=by
 refine ⟨by simp [hn];omega,fun k=>?_⟩;have hmin:min o c.size=o:=by omega
 simp only [zLl,zJJ,List.getElem?_append,zKK,zKB,hmin,zKJ,zKk,List.getElem?_drop,hn];split
 .rfl
 .rename_i hk;split
  .rename_i hk2;rw [zY]
  .rename_i hk2;rw [zi];congr 1;omega
theorem zBM (hT:yG E.leaves P tab=true) {t:Nat}{i:TI}(hi:look tab t=some i) {n:Nat}{e:Ty}(ha:zfn i=some (n,e)) {p x:zh E}{v u:Value}(S:zT A0 μ H w) (hp:Rp E A0 μ H w p v) (hx:Rp E A0 μ H w x u)
  (h:(zzV n e p x).cps H K=some r):zey P A0 μ H w (Instr.storeAt t v u) K r:=by
 unfold zzV at h;split at h;rotate_left
 .simp [Dec.cps] at h
 rename_i e' id k off n' e2 l';split at h;rotate_left
 .simp [Dec.cps] at h
 rename_i hc;simp only [zJB,decide_eq_true_eq] at hc;obtain ⟨⟨⟨⟨⟨h1,h2⟩,rfl⟩,he⟩,rfl⟩,hn⟩:=hc;have h1:=zJH h1;have h2:=zJH h2;have hn:=zJH hn;subst h1 h2 hn;simp only [Dec.cps] at h;obtain ⟨hagg,_,hsz⟩:=ztH hT hi ha;rw [Zj he,zKx] at hsz;cases hp with
 | eptr e id n0 off b o len cap hU hμ hlt =>
  have ok:=S.ok id;cases hB:zn H id with
  | row wr e3 l =>
   rw [hB] at ok h;cases wr with
   | false=>simp [Dec.cps] at h
   | true =>
    simp only at h;split at h;rotate_left
    .simp [Dec.cps] at h
    rename_i l2 hcast;obtain ⟨he2,rfl⟩:=xZ hcast;injection he2 with he2;subst he2;simp only [Dec.cps] at h;cases hd:decide (l.length=n') with
    | false=>simp [hd] at h
    | true =>
     simp only [hd,cond_true] at h;have hd:l.length=n':=by simpa using hd
     cases hli:Nat.blt id H.length with
     | false=>rw [hli] at h;cases h
     | true =>
      simp only [hli,cond_true] at h;rcases ok with ⟨b',off',cap',c,vs,hl,hbox,g1,g2,g3,g4⟩ | ⟨_,a,g2⟩;rotate_left
      .rw [hμ] at g2;cases g2
      rw [hμ] at hl;injection hl with q1 q2 q3 q4;subst q1 q2 q3 q4;obtain ⟨t',f,hh,hf⟩:=hbox;obtain rfl:=hf rfl;rw [Zj he,zKx] at g2;cases hx with
      | v _ _ _ hx =>
       cases hx with
       | arr n0 e0 cs l0 us a1 a2 a3 a4 =>
        have hone:∀y∈(Value.agg cs).cells.toList,y.oneCell'=true:=fun y hy=>by
         have hy:y∈cs.toList:=hy;obtain ⟨j,hj,rfl⟩:=zKX hy;have hj':j<n':=by simpa [a2,Zj he] using hj
         have hjl:j<l'.length:=by omega
         have hr:=a4 j hjl;have h3:=a3 j hj' 0 (us j) (by rw [hr.leaf_cells he];rfl);rw [Zj he] at h3;have hj2:j<cs.size:=by simpa using hj
         have e5:cs.toList[j]=us j:=by
          rw [zJ0] at h3;obtain ⟨q,h3⟩:=h3;simpa using h3
         rw [e5];exact zl5 (U:=Us H) (μ:=μ) (.v _ _ _ hr) he
        have hsu:(Value.agg cs).cells.size=i.size:=by show cs.size=_;rw [a2,Zj he,hsz];omega
        have hrun:=zq2 (w:=w) hT hi hh hsu (o:=o) (by omega) hone;obtain ⟨z1,z2⟩:=zDc (o:=o) (n:=i.size) (c:=c) (u:=(Value.agg cs).cells.toList) (by rw [<-hsu];simp) (by omega);generalize hc':(c.toList.take o++(Value.agg cs).cells.toList++c.toList.drop (o+i.size)).toArray=c' at hrun z1 z2;have hlive:yQ (zn H id)=true:=by rw [hB];rfl
        have hb:∀k,k<w.heap.size->(∀o n c,μ id≠ .blk k o n c)->(w.setRow b c').heap[k]? =w.heap[k]? :=fun k _ hk=>setRow_other _ _ _ _ (fun e=>hk o l.length cap (e▸hμ));have T2:zS A0 μ H w μ (H.set id (.row true e2 l')) (w.setRow b c'):=zS.write id _ hU (yi.setRow w b _) hlive hb rfl;refine ⟨_,_,μ,by simpa using hrun,T2,S.write id _ hU (yi.setRow w b _) hlive hb rfl ?_,h⟩;rw [hμ];refine .inl ⟨b,o,cap,c',us,by rw [a1,hd],⟨t',(0,0),setRow_heap _ _ _ _ _ _ hh,fun _=>rfl⟩,by omega,by rw [z1,Zj he];omega,fun i hi j y hy=>?_,fun i hi=>T2.repT (a4 i hi)⟩;have hr:=a4 i hi;rw [hr.leaf_cells he] at hy;cases j with
        | succ j=>simp at hy
        | zero =>
         have hy:us i=y:=by simpa using hy
         subst hy;have h3:=a3 i (by omega) 0 (us i) (by rw [hr.leaf_cells he];rfl);rw [Zj he] at h3 ⊢;rw [z2,zi,zY];show cs.toList[_]? =_;rw [zKk];rw [<-h3];congr 1;omega
  | _=>rw [hB] at h;simp [Dec.cps] at h
theorem zBE (hT:yG E.leaves P tab=true) {t:Nat}{i:TI}(hi:look tab t=some i) {e:Ty}{id n b o len cap:Nat}{x:zh E}{u:Value}(hμ:μ id= .blk b o len cap) (hU:Us H id) (hn:n<len) (hsz:e.size E=e.size E) (husz:u.cells.size=i.size) (S:zT A0 μ H w) (hx:Rp E A0 μ H w x u)
  (hone:∀y∈u.cells.toList,y.oneCell'=true) (h:(zBa e id n x).cps H K=some r):zey P A0 μ H w (Instr.storeAt t (.pointer (some ⟨b,o+n*e.size E+0,none⟩)) u) K r:=by
 unfold zBa at h;split at h;rotate_left
 .simp [Dec.cps] at h
 rename_i e k;simp only [Dec.cps] at h;have ok:=S.ok id;cases hB:zn H id with
 | row wr e' l =>
  rw [hB] at h ok;cases wr with
  | false=>simp [Dec.cps] at h
  | true =>
   simp only at h;split at h;rotate_left
   .simp [Dec.cps] at h
   rename_i l1 hcast;obtain ⟨he,rfl⟩:=xZ hcast;injection he with he;subst he;simp only [Dec.cps] at h;cases hJ:zn H k with
   | row wr2 e2 l2 =>
    rw [hJ] at h;cases wr2 with
    | false=>simp [Dec.cps] at h
    | true =>
     simp only at h;split at h;rotate_left
     .simp [Dec.cps] at h
     rename_i he2;simp only [Dec.cps] at h;cases hli:Nat.blt id H.length with
     | false=>rw [hli] at h;cases h
     | true =>
      simp only [hli,cond_true] at h;rcases ok with ⟨b',off',cap',c,vs,hl,hbox,g1,g2,g3,g4⟩ | ⟨_,a,g2⟩;rotate_left
      .rw [hμ] at g2;cases g2
      rw [hμ] at hl;injection hl with q1 q2 q3 q4;subst q1 q2 q3 q4;obtain ⟨t',f,hh,hf⟩:=hbox;obtain rfl:=hf rfl;have hu1:u.cells= #[u]:=by cases hx<;>rfl
      have hs1:i.size=1:=by rw [<-husz,hu1];rfl
      simp only [Ty.size,zKx,zKj] at g2 g3 ⊢;have hrun:=zq2 (w:=w) hT hi hh husz (o:=o+n) (by omega) hone;obtain ⟨z1,z2⟩:=zDc (o:=o+n) (n:=i.size) (c:=c) (u:=u.cells.toList) (by rw [<-husz];simp) (by omega);generalize hc':(c.toList.take (o+n)++u.cells.toList++c.toList.drop (o+n+i.size)).toArray=c' at hrun z1 z2;have hlive:yQ (zn H id)=true:=by rw [hB];rfl
      have hb:∀k,k<w.heap.size->(∀o n c,μ id≠ .blk k o n c)->(w.setRow b c').heap[k]? =w.heap[k]? :=fun k _ hk=>setRow_other _ _ _ _ (fun e=>hk o l.length cap (e▸hμ));have T2:zS A0 μ H w μ (H.set id (.rowh e l n k)) (w.setRow b c'):=zS.write id _ hU (yi.setRow w b _) hlive hb rfl;refine ⟨_,_,μ,hrun,T2,S.write id _ hU (yi.setRow w b _) hlive hb rfl ?_,h⟩;rw [hμ];refine ⟨b,o,cap,c',fun i=>if i=n then u else vs i,rfl,⟨t',(0,0),setRow_heap _ _ _ _ _ _ hh,fun _=>rfl⟩,g1,by rw [z1];exact g2,hn,fun i hi j y hy=>?_,fun i hi hin=>?_,?_⟩
      .by_cases hin:i=n
       .subst hin;simp only [if_true] at hy;rw [hu1] at hy;cases j with
        | succ j=>simp at hy
        | zero =>
         have hy:u=y:=by simpa using hy
         subst hy;rw [z2,zi,zY,hu1];simp
       .simp only [zc hin] at hy;have hv1:(vs i).cells= #[vs i]:=(g4 i hi).leaf_cells rfl;have h0:=g3 i hi j y hy;rw [hv1] at hy;cases j with
        | succ j=>simp at hy
        | zero =>
         rw [z2];split
         .exact h0
         .rw [zi];exact h0
      .simp only [zc hin];exact T2.repT (g4 i hi)
      .simp only [if_true];exact T2.rep hx
   | _=>rw [hJ] at h;simp [Dec.cps] at h
 | _=>rw [hB] at h;simp [Dec.cps] at h
theorem zzH (hT:yG E.leaves P tab=true) {t:Nat}{i:TI}(hi:look tab t=some i) {mv:Bool}{p x:zh E}{v u:Value}(S:zT A0 μ H w) (hp:Rp E A0 μ H w p v) (hx:Rp E A0 μ H w x u)
  (h:(zBn mv i p x).cps H K=some r):zey P A0 μ H w (Instr.storeAt t v u) K r:=by
 unfold zBn at h;split at h
 .exact zBM hT hi (by assumption) S hp hx h
 simp only at h;split at h;rotate_left
 .simp [Dec.cps] at h
 rename_i hc;simp only [zJB] at hc;obtain ⟨hlen,hleaf⟩:=hc;have hlen:=zJH hlen;have hcell:=z7.cells hx hleaf;have husz:u.cells.size=i.size:=by have:=hcell.1;simpa [hlen] using this.symm
 have hone:∀y∈u.cells.toList,y.oneCell'=true:=fun y hy=>by
  obtain ⟨j,hj,rfl⟩:=zKX hy;have hj':j<(uZ x).length:=by rw [hcell.1];exact hj
  exact zl5 (hcell.2 j _ _ (zJC hj') (zJC hj)) (zJ3.1 hleaf _ (zJY hj'))
 cases hp with
 | ptr id off b n cap hU hμ =>
  simp only [Dec.cps] at h;have ok:=S.ok id;cases hB:zn H id with
  | box wr cs =>
   rw [hB] at h ok;cases wr with
   | false=>simp [Dec.cps] at h
   | true =>
    simp only at h;split at h;rotate_left
    .simp [Dec.cps] at h
    rename_i hfit;have hfit:=zKd hfit;simp only [Dec.cps] at h;cases hlt:Nat.blt id H.length with
    | false=>simp [hlt] at h
    | true =>
     simp only [hlt,cond_true] at h;obtain ⟨b',n',cap',c,hl,hbox,hr,hlf⟩:=zE6 ok;rw [hμ] at hl;injection hl with e1 e2 e3 e4;subst e1 e3 e4;obtain ⟨t',f,hh,hf⟩:=hbox;obtain rfl:=hf rfl;have hcs:c.size=cs.length:=by have:=hr.1;simpa using this.symm
     have hrun:=run_storeCells_at (P:=P) b off t' u.cells.toList 0 c w hh (by simp [husz,hcs];omega) hone;have hlive:yQ (zn H id)=true:=by rw [hB];rfl
     have hb:∀k,k<w.heap.size->(∀o n c,μ id≠ .blk k o n c)->(w.setRow b (c.toList.take (off+0)++u.cells.toList++c.toList.drop (off+0+u.cells.toList.length)).toArray).heap[k]? =w.heap[k]? :=
      fun k _ hk=>setRow_other _ _ _ _ (fun e=>hk 0 n cap (e▸hμ))
     have T:zS A0 μ H w μ (H.set id (.box true (zaa cs off (uZ x)))) _:=zS.write id _ hU (yi.setRow w b _) hlive hb rfl;refine ⟨_,_,μ,?_,T,S.write id _ hU (yi.setRow w b _) hlive hb rfl ?_,h⟩
     .simp only [Instr.storeAt,Instr.sureAddr,storeVar,Sem.run_bind,Sem.run_pure,Result.andThen_ok,yJ hT hi,husz];simpa using hrun
     .rw [hμ];refine zEM (vs:=c.toList.take (off+0)++u.cells.toList++c.toList.drop (off+0+u.cells.toList.length)) ⟨t',(0,0),setRow_heap _ _ _ _ _ _ hh,fun _=>rfl⟩ ?_ ?_
      .have e:off+0+u.cells.toList.length=off+(uZ x).length:=by rw [hcell.1];omega
       have hfin:RL (Rp E A0 μ H w) (zaa cs off (uZ x)) (c.toList.take (off+0)++u.cells.toList++c.toList.drop (off+0+u.cells.toList.length)):=by
        rw [e];exact ((hr.take off).append hcell).append (hr.drop _)
       exact hfin.mono fun _ _=>T.rep
      .intro q hq;simp only [zaa,zJZ] at hq;rcases hq with (hq | hq) | hq
       .exact hlf q (zK8 hq)
       .exact zJ3.1 hleaf q hq
       .exact hlf q (List.mem_of_mem_drop hq)
  | _=>rw [hB] at h;simp [Dec.cps] at h
 | eptr e id n off b o len cap hU hμ hn =>
  simp only at h;split at h;rotate_left
  .simp [Dec.cps] at h
  rename_i hoff;simp only [zJB] at hoff;obtain ⟨hoff,hty⟩:=hoff;have hoff:=zJH hoff;subst hoff;have hsz:=uk hT e hi (Xu hty);split at h
  .exact zBE hT hi hμ hU hn rfl husz S hx hone h
  obtain ⟨z,H1,T1,S1,hz,_,h⟩:=zc5 S hx h;simp only [Dec.cps] at h;have ok:=S1.ok id;obtain ⟨hU1,hμ1⟩:=T1.used id hU;cases hB:zn H1 id with
  | row wr e' l =>
   rw [hB] at h ok;cases wr with
   | false=>simp [Dec.cps] at h
   | true =>
    simp only at h;split at h;rotate_left
    .simp [Dec.cps] at h
    rename_i l' hcast;obtain ⟨he,rfl⟩:=xZ hcast;injection he with he;subst he;simp only [Dec.cps] at h;cases hlt:Nat.blt id H1.length with
    | false=>simp [hlt] at h
    | true =>
     simp only [hlt,cond_true] at h;rcases ok with ⟨b',off',cap',c,vs,hl,hbox,h1,h2,h3,h4⟩ | ⟨_,a,h2⟩;rotate_left
     .rw [hμ] at h2;cases h2
     rw [hμ] at hl;injection hl with e1 e2 e3 e4;subst e1 e2 e3 e4;obtain ⟨t',f,hh,hf⟩:=hbox;obtain rfl:=hf rfl;have husz':u.cells.size=e'.size E:=hz.size;have hle:n*e'.size E+e'.size E<=cap*e'.size E:=by
      have:(n+1)*e'.size E<=cap*e'.size E:=zKC _ (by omega);simpa [zKe] using this
     have hrun:=run_storeCells_at (P:=P) b (o+n*e'.size E+0) t' u.cells.toList 0 c w hh (by simp [husz'];omega) hone;have hlive:yQ (zn H1 id)=true:=by rw [hB];rfl
     generalize hc':(c.toList.take (o+n*e'.size E+0+0)++u.cells.toList++c.toList.drop (o+n*e'.size E+0+0+u.cells.toList.length)).toArray=c' at hrun;have hget:∀k,c'[k]? =if k<o+n*e'.size E then c[k]? else if k<o+n*e'.size E+e'.size E then u.cells[k-(o+n*e'.size E)]? else c[k]? :=by
      intro k;subst hc';have hmin:min (o+n*e'.size E) c.size=o+n*e'.size E:=by omega
      simp only [zLl,zKj,zJJ,List.getElem?_append,zKK,zKB,hmin,zKJ,zKk,List.getElem?_drop,husz'];split
      .rfl
      .rename_i hk;split
       .rename_i hk2;rw [zY]
       .rename_i hk2;rw [zi];congr 1;omega
     have hsz':c'.size=c.size:=by
      subst hc';simp [husz'];omega
     have hb:∀k,k<w.heap.size->(∀o n c,μ id≠ .blk k o n c)->(w.setRow b c').heap[k]? =w.heap[k]? :=fun k _ hk=>setRow_other _ _ _ _ (fun e=>hk o l.length cap (e▸hμ));have T2:zS A0 μ H1 w μ (H1.set id (.row true e' (l.set n z))) (w.setRow b c'):=zS.write id _ hU1 (yi.setRow w b _) hlive hb rfl;refine ⟨_,_,μ,?_,T1.trans T2,S1.write id _ hU1 (yi.setRow w b _) hlive hb rfl ?_,h⟩
     .simp only [Instr.storeAt,Instr.sureAddr,storeVar,Sem.run_bind,Sem.run_pure,Result.andThen_ok,yJ hT hi,husz];simpa using hrun
     .rw [hμ];refine .inl ⟨b,o,cap,c',fun i=>if i=n then u else vs i,by simp,⟨t',(0,0),setRow_heap _ _ _ _ _ _ hh,fun _=>rfl⟩,by simpa using h1,by rw [hsz'];exact h2,fun i hi j y hy=>?_,fun i hi=>?_⟩
      .simp only [zJ6] at hi;rw [hget];by_cases e:i=n
       .subst e;simp only [if_true] at hy;have hj:j<u.cells.size:=by
         rcases zKa j u.cells.size with h' | h'
         .exact h'
         .rw [zLm h'] at hy;cases hy
        rw [zi,zY];rw [<-hy];congr 1;omega
       .simp only [zc e] at hy;have hj:j<e'.size E:=by
         rw [<-(h4 i hi).size];rcases zKa j (vs i).cells.size with h' | h'
         .exact h'
         .rw [zLm h'] at hy;cases hy
        have h0:=h3 i hi j y hy;rcases Nat.lt_or_gt_of_ne e with hlt' | hgt
        .have:(i+1)*e'.size E<=n*e'.size E:=zKC _ hlt';rw [zKe] at this;rw [zY];exact h0
        .have:(n+1)*e'.size E<=i*e'.size E:=zKC _ hgt;rw [zKe] at this;rw [zi,zi];exact h0
      .simp only [zJ6] at hi;rw [List.getElem_set];by_cases e:n=i
       .subst e;simp only [if_true];exact T2.repT hz
       .rw [zc e];simp only [zc (Ne.symm e)];exact T2.repT (h4 i hi)
  | _=>rw [hB] at h;simp [Dec.cps] at h
 | _=>simp [Dec.cps] at h
theorem zBc (hT:yG E.leaves P tab=true) {t:Nat}{i:TI}(hi:look tab t=some i) {f off t':Nat}(hf:i.fields[f]? =some (off,t')) :
  ∃fs fld,P.underlying t=some (.struct fs)/\fs[f]? =some fld/\fld.offset=off/\fld.type=t'/\P.cellsOf t'≠0:=by
 obtain ⟨d,hd,h2⟩:=Xs hT hi;cases d with
 | struct fs =>
  simp only [uy,zJB,decide_eq_true_eq] at h2;obtain ⟨⟨⟨⟨_,h3⟩,h4⟩,_⟩,_⟩:=h2;rw [h3,zJ8] at hf;simp only [zJR,Prod.mk.injEq] at hf;obtain ⟨fld,h5,h6,h7⟩:=hf;have:=zJ3.1 h4 fld (zJG h5);exact ⟨fs,fld,hd,by simpa using h5,h6,h7,fun e=>by rw [<-h7] at e;simp [e] at this⟩
 | array n e =>
  simp only [uy,zJB] at h2;have:=h2.1.1.2;simp at this;rw [this] at hf;simp at hf
 | _ =>
  have ha:i.agg=false:=by simp only [uy,zJB,zJU] at h2;first | exact h2.1 | exact h2.1.1 | exact h2.1.1.1 | exact h2.1.1.1.1 | cases h2
  rw [zEf hT hi ha] at hf;simp at hf
theorem zkR {t:Nat}(h:P.cellsOf t≠0) (w:World):(sizeOf t).run P w= .ok (P.cellsOf t) w:=by
 unfold Program.cellsOf at *;cases hi:P.info? t with
 | none=>simp [hi] at h
 | some f=>simp [sizeOf,typeInfo,hi]
theorem zua (hT:yG E.leaves P tab=true) {t:Nat}{i:TI}(hi:look tab t=some i) {p:zh E}{v:Value}{f:Nat}(S:zT A0 μ H w) (hp:Rp E A0 μ H w p v)
  (h:(zqe i p f).cps H K=some r):zZ P A0 μ H w (Instr.fieldAt t v f) K r:=by
 unfold zqe at h;split at h;rotate_left
 .simp [Dec.cps] at h
 rename_i off t' hf;obtain ⟨fs,fld,h1,h2,h3,h4,h5⟩:=zBc hT hi hf;subst h3 h4;have hrun:∀b o,(Instr.fieldAt t (.pointer (some ⟨b,o,none⟩)) f).run P w= .ok (.pointer (some ⟨b,o+fld.offset,none⟩)) w:=fun b o=>by
  simp [Instr.fieldAt,run_underlying h1,h2,Instr.sureAddr,fieldPlace,zkR h5,h5,Ub]
 cases hp with
 | ptr id o b n cap hU hμ=>exact zZ.same S (hrun b o) (.ptr id _ b n cap hU hμ) h
 | eptr e id n o b o' len cap hU hμ hn =>
  refine zZ.same S (hrun b _) ?_ h;have:=z7.eptr (E:=E) (w:=w) (A:=Av A0 μ H) (U:=Us H) (μ:=μ) e id n (o+fld.offset) b o' len cap hU hμ hn;simpa [zKQ] using this
 | rptr ps b o us hA hb hm hr =>
  refine zZ.same S (hrun b o) (.rptr _ b (o+fld.offset) (fun j=>us (fld.offset+j)) hA hb (fun j hj=>?_) (fun j hj=>?_)) h
  .have:=hm (fld.offset+j) (by simp at hj;omega);simpa [zKQ] using this
  .have hj':fld.offset+j<ps.length:=by simp at hj;omega
   have:=hr (fld.offset+j) hj';simpa using this
 | _=>simp [Dec.cps] at h
end
end Go.Pe
namespace Go.Pe
variable {E:yw}
section
variable {P:Program}{tab:List (Nat×TI)}{A0:Nat->Prop}{μ:Nat->Loc}{H:List (Blk E)}{w:World}{R:Type}{K:zh E->List (Blk E)->Option R}{r:R}
theorem zHg {w:World}{A U:Nat->Prop}{μ:Nat->Loc}(z:Z):z7 E w A U μ z.toP z.toV:=by
 cases z with
 | bool=>exact .v .bool false _ (.bool false)
 | int k=>exact .v (.int k) (zbz k 0) _ (by have:=yn.int (E:=E) (w:=w) (A:=A) k (zbz k 0);cases k<;>exact this)
 | str=>exact .v .str _ _ (.str _)
 | slice=>exact .nils none
 | func=>exact .nilfn
 | ptr=>exact .nilp
 | map=>exact .nilm
theorem zIp (z:Z):(z.toP:zh E).leaf=true:=by cases z<;>rfl
theorem zBp {w:World}{A U:Nat->Prop}{μ:Nat->Loc}(zs:List Z):RL (z7 E w A U μ) (zs.map Z.toP) (zs.map Z.toV) :=
 ⟨by simp,fun j p u hp hu=>by
  simp only [zJ8,zJR] at hp hu;obtain ⟨z,h1,rfl⟩:=hp;obtain ⟨z',h2,rfl⟩:=hu;rw [h1] at h2;injection h2 with h2;subst h2;exact zHg z⟩
theorem zdr (hT:yG E.leaves P tab=true) {t:Nat}{i:TI}(hi:look tab t=some i):(xj i).cells.toList=i.zero.map Z.toV:=by
 unfold xj;cases ha:i.agg with
 | true=>simp [Value.cells]
 | false =>
  have h1:=zeJ hT hi ha;have h2:=zoT hT hi
  match hz:i.zero,h2 with
  | [z],_=>cases z<;>simp [Z.toV,Value.cells]
  | [],h2=>simp [h1] at h2
  | _::_::_,h2=>simp [h1] at h2
structure ZU (H:List (Blk E)) (fresh:Nat) (A0:Nat->Prop) (w:World):Prop where
 free:zn H fresh= .free
 lt:fresh<H.length
 A0:∀b,A0 b->b<w.heap.size
theorem ZU.trans {H':List (Blk E)}{μ':Nat->Loc}{w':World}{fresh:Nat}(F:ZU H fresh A0 w) (T:zS A0 μ H w μ' H' w') (h:zn H' fresh= .free):ZU H' fresh A0 w' :=
 ⟨h,by rw [T.len];exact F.lt,fun b hb=>zJX (F.A0 b hb) T.size⟩
theorem zBz {ps:List (zh E)}{vs:List Value}{t:TypeId}{fresh:Nat}(S:zT A0 μ H w) (F:ZU H fresh A0 w) (hr:RL (Rp E A0 μ H w) ps vs) (hl:∀p∈ps,p.leaf=true) (n c:Nat) :
  let l:=Loc.blk w.heap.size 0 n c;let w':=w.alloc (.cells vs.toArray t)
  zS A0 μ H w (XG μ fresh l) (H.set fresh (.box true ps)) w'/\zT A0 (XG μ fresh l) (H.set fresh (.box true ps)) w'/\Us (H.set fresh (.box true ps)) fresh:=by
 intro l w';have hb:∀b,b<w.heap.size->w'.heap[b]? =w.heap[b]? :=fun b hb=>by
  show (w.heap.push _)[b]? =_;rw [zK9,zi]
 have T:zS A0 μ H w (XG μ fresh l) (H.set fresh (.box true ps)) w':=zS.fresh fresh l _ F.free F.lt (yi.alloc w _) hb (fun b o n c e=>by injection e with e;omega);refine ⟨T,S.fresh fresh l _ F.free F.lt (yi.alloc w _) hb (fun b o n c e=>by injection e with e;subst e;simp [w']) F.A0 ?_,by unfold Us;rw [yg _ _ _ F.lt];rfl⟩;refine zEM ⟨t,(0,0),?_,fun _=>rfl⟩ (hr.mono fun _ _=>T.rep) hl;show (w.heap.push _)[w.heap.size]? =_;simp
theorem zEB {n:Nat}{e:Ty}{l:List (Den E.T e)}{vs:List Value}{t:TypeId}{fresh:Nat}(S:zT A0 μ H w) (F:ZU H fresh A0 w) (he:e.leaf=true) (h0:0<n) (hr:Rt E A0 μ H w (.arr n e) (.agg vs.toArray) l) :
  let w':=w.alloc (.cells vs.toArray t)
  zS A0 μ H w (XG μ fresh (.blk w.heap.size 0 n n)) (H.set fresh (.row true e l)) w'/\zT A0 (XG μ fresh (.blk w.heap.size 0 n n)) (H.set fresh (.row true e l)) w'/\Us (H.set fresh (.row true e l)) fresh:=by
 intro w';have hb:∀b,b<w.heap.size->w'.heap[b]? =w.heap[b]? :=fun b hb=>by
  show (w.heap.push _)[b]? =_;rw [zK9,zi]
 have T:zS A0 μ H w (XG μ fresh (.blk w.heap.size 0 n n)) (H.set fresh (.row true e l)) w':=zS.fresh fresh _ _ F.free F.lt (yi.alloc w _) hb (fun b o n c e=>by injection e with e;omega);refine ⟨T,S.fresh fresh _ _ F.free F.lt (yi.alloc w _) hb (fun b o n c e=>by injection e with e;subst e;simp [w']) F.A0 ?_,by unfold Us;rw [yg _ _ _ F.lt];rfl⟩;cases hr with
 | arr n0 e0 cs l0 us a1 a2 a3 a4 =>
  refine .inl ⟨w.heap.size,0,n,vs.toArray,us,by rw [a1],⟨t,(0,0),?_,fun _=>rfl⟩,by omega,by rw [a2];omega,fun i hi j u hu=>by rw [Nat.zero_add];exact a3 i (by omega) j u hu,fun i hi=>T.repT (a4 i hi)⟩;show (w.heap.push _)[w.heap.size]? =_;simp
theorem zAi {e:Ty}{z:Den E.T e}(h:vH (E:=E) e=some z) {A:Nat->Prop}{zz:Z}(hz:zz.is e=true):e.leaf=true/\yn E w A e zz.toV z:=by
 cases e with
 | bool=>simp [vH] at h;subst h;cases zz<;>simp [Z.is] at hz;exact ⟨rfl,.bool _⟩
 | int k =>
  simp [vH] at h;subst h;cases zz<;>simp [Z.is] at hz;rename_i k;subst hz;exact ⟨rfl,by have:=yn.int (E:=E) (w:=w) (A:=A) k (zbz k 0);cases k<;>exact this⟩
 | str=>simp [vH] at h;subst h;cases zz<;>simp [Z.is] at hz;exact ⟨rfl,.str _⟩
 | slice e=>simp [vH] at h;subst h;cases zz<;>simp [Z.is] at hz;exact ⟨rfl,.nil _ _ _⟩
 | named n=>simp [vH] at h
 | arr n e=>simp [vH] at h
theorem zGJ (hT:yG E.leaves P tab=true) {t:Nat}{i:TI}(hi:look tab t=some i) {n:Nat}{e:Ty}(ha:zfn i=some (n,e)) {z:Den E.T e}(hz:vH (E:=E) e=some z) {A:Nat->Prop}(hall:i.zero.all (fun q=>q.is e)=true) :
  e.leaf=true/\∃vs:List Value,(xj i).cells=vs.toArray/\yn E w A (.arr n e) (.agg vs.toArray) (List.replicate n z):=by
 obtain ⟨hagg,hal,hsz⟩:=ztH hT hi ha;have hl:e.leaf=true:=by cases e<;>simp [vH] at hz<;>rfl
 rw [Zj hl,zKx] at hsz;have hzl:=zoT hT hi;refine ⟨hl,i.zero.map Z.toV,by unfold xj;rw [zb hagg];rfl,?_⟩;refine .arr n e _ _ (fun j=>((i.zero.map Z.toV)[j]?).getD undef) (by simp) (by simp [Zj hl,hzl,hsz]) (fun j hj k u hu=>?_) (fun j hj=>?_)
 .have hj':j<i.zero.length:=by omega
  have h1:(i.zero.map Z.toV)[j]? =some (i.zero[j].toV):=by simp [hj']
  simp only [h1,zKy] at hu;have hc:(i.zero[j].toV).cells= #[i.zero[j].toV]:=by cases i.zero[j]<;>rfl
  rw [hc] at hu;cases k with
  | succ k=>simp at hu
  | zero =>
   have hu:i.zero[j].toV=u:=by simpa using hu
   subst hu;simp [Zj hl,hj']
 .have hj0:j<n:=by simpa using hj
  have hj':j<i.zero.length:=by omega
  have h1:(i.zero.map Z.toV)[j]? =some (i.zero[j].toV):=by simp [hj']
  simp only [h1,zKy,List.getElem_replicate];exact (zAi hz (zJ3.1 hall _ (zJY hj'))).2
theorem zBq (hT:yG E.leaves P tab=true) {t:Nat}{i:TI}(hi:look tab t=some i) {fresh:Nat}(S:zT A0 μ H w) (F:ZU H fresh A0 w)
  (h:(zAm i fresh).cps H K=some r):zZ P A0 μ H w (Instr.alloc t true (.tuple #[])) K r:=by
 unfold zAm at h;split at h
 .rename_i n e ha;split at h;rotate_left
  .simp [Dec.cps] at h
  rename_i z hz;split at h;rotate_left
  .simp [Dec.cps] at h
  rename_i h0;simp only [zJB] at h0;obtain ⟨h0,hall⟩:=h0;have h0:0<n:=zKd h0;simp only [Dec.cps] at h;cases hlt:Nat.blt fresh H.length with
  | false=>simp [hlt] at h
  | true =>
   simp only [hlt,cond_true] at h;obtain ⟨he,zv,hzv,hrep⟩:=zGJ (w:=w) (A:=Av A0 μ H) hT hi ha hz hall;obtain ⟨T,S',hU⟩:=zEB (t:=t) S F he h0 hrep;refine ⟨_,_,.pointer (some ⟨w.heap.size,0,none⟩),_,_,?_,T,S',?_,h⟩
   .have:=zdr hT hi;simp only [Instr.alloc,Sem.run_bind,ZY hT hi,Result.andThen_ok,newVar,newRow,run_newObj,Sem.run_pure,hzv];rfl
   .have:=z7.eptr (E:=E) (w:=w.alloc (.cells (zv.toArray) t)) (A:=Av A0 (XG μ fresh (.blk w.heap.size 0 n n)) (H.set fresh (.row true e (List.replicate n z)))) (U:=Us (H.set fresh (.row true e (List.replicate n z)))) (μ:=XG μ fresh (.blk w.heap.size 0 n n)) e fresh 0 0 w.heap.size 0 n n hU (vl _ _ _) h0;simpa using this
 simp only [Dec.cps] at h;cases hlt:Nat.blt fresh H.length with
 | false=>simp [hlt] at h
 | true =>
  simp only [hlt,cond_true] at h;obtain ⟨T,S',hU⟩:=zBz (t:=t) S F (zBp i.zero) (fun p hp=>by simp only [zJO] at hp;obtain ⟨z,_,rfl⟩:=hp;exact zIp z) 0 0;refine ⟨_,_,.pointer (some ⟨w.heap.size,0,none⟩),_,_,?_,T,S',.ptr fresh 0 w.heap.size 0 0 hU (vl _ _ _),h⟩;have:=zdr hT hi;simp only [Instr.alloc,Sem.run_bind,ZY hT hi,Result.andThen_ok,newVar,newRow,run_newObj,Sem.run_pure];simp [<-this]
theorem zEs (hT:yG E.leaves P tab=true) {t:Nat}{i:TI}(hi:look tab t=some i) {fresh:Nat}{x:zh E}{u:Value}(S:zT A0 μ H w) (F:ZU H fresh A0 w) (hx:Rp E A0 μ H w x u)
  (h:(zG3 i fresh x).cps H K=some r):zZ P A0 μ H w (Instr.box t u) K r:=by
 unfold zG3 at h;split at h
 .rename_i n e ha;split at h;rotate_left
  .simp [Dec.cps] at h
  rename_i n' e' l;split at h;rotate_left
  .simp [Dec.cps] at h
  rename_i hc;simp only [zJB,decide_eq_true_eq] at hc;obtain ⟨⟨⟨h0,h1⟩,he⟩,rfl⟩:=hc;have h0:0<n:=zKd h0;have h1:=zJH h1;subst h1;simp only [Dec.cps] at h;cases hlt:Nat.blt fresh H.length with
  | false=>simp [hlt] at h
  | true =>
   simp only [hlt,cond_true] at h;cases hx with
   | v _ _ _ hx =>
    have hx0:=hx;cases hx with
    | arr n0 e0 cs l0 us a1 a2 a3 a4 =>
     obtain ⟨T,S',hU⟩:=zEB (t:=t) (vs:=cs.toList) S F he h0 (by simpa using hx0);refine ⟨_,_,.pointer (some ⟨w.heap.size,0,none⟩),_,_,?_,T,S',?_,h⟩
     .simp [Instr.box,newVar,newRow,Value.cells]
     .have:=z7.eptr (E:=E) (w:=w.alloc (.cells cs.toList.toArray t)) (A:=Av A0 (XG μ fresh (.blk w.heap.size 0 n n)) (H.set fresh (.row true e l))) (U:=Us (H.set fresh (.row true e l))) (μ:=XG μ fresh (.blk w.heap.size 0 n n)) e fresh 0 0 w.heap.size 0 n n hU (vl _ _ _) h0;simpa using this
 split at h;rotate_left
 .simp [Dec.cps] at h
 rename_i hc;simp only [zJB] at hc;simp only [Dec.cps] at h;cases hlt:Nat.blt fresh H.length with
 | false=>simp [hlt] at h
 | true =>
  simp only [hlt,cond_true] at h;obtain ⟨T,S',hU⟩:=zBz (t:=t) S F (z7.cells hx hc.2) (fun p hp=>zJ3.1 hc.2 p hp) 0 0;refine ⟨_,_,.pointer (some ⟨w.heap.size,0,none⟩),_,_,?_,T,S',.ptr fresh 0 w.heap.size 0 0 hU (vl _ _ _),h⟩;simp [Instr.box,newVar,newRow]
theorem zF6 {α:Type}{l:List α}{i:Int}{x:α}(h:idx l i=some x):0<=i/\i<l.length/\l[i.toNat]? =some x:=by
 unfold idx at h;cases hd:decide (0<=i) with
 | false=>simp [hd] at h
 | true =>
  simp only [hd,cond_true] at h;have h0:0<=i:=by simpa using hd
  obtain ⟨hlt,_⟩:=zJK.1 h;exact ⟨h0,by omega,h⟩
theorem zyC {α:Type}{l:List α}{i:Int}{n:Nat}(h:xM l i=some n):0<=i/\i<l.length/\n=i.toNat:=by
 unfold xM at h;cases hd:(decide (0<=i)&&decide (i<l.length)) with
 | false=>simp [hd] at h
 | true =>
  simp only [hd,cond_true] at h;simp only [zJB,decide_eq_true_eq] at hd;injection h with h;exact ⟨hd.1,hd.2,h.symm⟩
theorem zxX {α:Type}{l:List α}{k:Nat}{i:Int}{n:Nat}(h:zgM l k i=some n):0<=i/\i<l.length/\i<k/\n=i.toNat:=by
 unfold zgM at h;cases hd:(decide (0<=i)&&decide (i<l.length)&&decide (i<k)) with
 | false=>simp [hd] at h
 | true =>
  simp only [hd,cond_true] at h;simp only [zJB,decide_eq_true_eq] at hd;injection h with h;exact ⟨hd.1.1,hd.1.2,hd.2,h.symm⟩
theorem zfx (i:Int):∀(n:Nat) {k:Nat->Dec E (zh E)},(choose i n k).cps H K=some r->0<=i/\i<n/\(k i.toNat).cps H K=some r
 | 0,k,h=>by simp [choose,Dec.cps] at h
 | n+1,k,h=>by
  simp only [choose,Dec.cps] at h;cases hd:decide (i=(n:Int)) with
  | true =>
   simp only [hd,cond_true] at h;have:i=n:=by simpa using hd
   subst this;exact ⟨by omega,by omega,by simpa using h⟩
  | false =>
   simp only [hd,cond_false] at h;obtain ⟨h1,h2,h3⟩:=zfx i n h;exact ⟨h1,by omega,h3⟩
theorem Uz (hT:yG E.leaves P tab=true) {t e:Nat}{u:TI}(hd:P.underlying t=some (.slice e)) (hu:look tab e=some u) (b off len cap:Nat) (i:Int) (h0:0<=i) (h1:i<len) :
  (Instr.indexAt t (.slice (some ⟨b,off,none⟩) len cap) (.int .i64 i)).run P w= .ok (.pointer (some ⟨b,off+i.toNat*u.size,none⟩)) w:=by
 simp [Instr.indexAt,asIntOf,run_underlying hd,h0,h1,yJ hT hu,Ub]
theorem ztF (hT:yG E.leaves P tab=true) {t:Nat}{s u:TI}(hs:look tab t=some s) (hu:look tab s.elem=some u) {p:zh E}{v:Value}{i:Int}(S:zT A0 μ H w) (hp:Rp E A0 μ H w p v)
  (h:(zqb s u p i).cps H K=some r):zZ P A0 μ H w (Instr.indexAt t v (.int .i64 i)) K r:=by
 have typedElem:∀ {e:Ty}{l:List (Den E.T e)}{v:Value},Rt E A0 μ H w (.slice e) v l->zbg u e=true->(Dec.opt _ (idx l i) fun x=>if (zhN e x).all zh.leaf then (.ret (.rptr (zhN e x)):Dec E (zh E)) else .fail).cps H K=some r ->
   P.underlying t=some (.slice s.elem)->zZ P A0 μ H w (Instr.indexAt t v (.int .i64 i)) K r:=by
  intro e l v hv hty h hd;have hsz:=uk hT e hu (Xu hty);simp only [Dec.cps] at h;cases hx:idx l i with
  | none=>simp [hx] at h
  | some x =>
   simp only [hx,zJA] at h;obtain ⟨h0,h1,h2⟩:=zF6 hx;split at h;rotate_left
   .simp [Dec.cps] at h
   rename_i hleaf;cases hv with
   | nil e a cap=>simp at h1;omega
   | slice e b off cap l vs hA hb hc hm hr =>
    obtain ⟨hlt,hxe⟩:=zJK.1 h2;have hrep:=hr i.toNat hlt;rw [hxe] at hrep;have hcells:=yn.cellsL (U:=Us H) (μ:=μ) hrep hleaf;refine zZ.same S (Uz hT hd hu b off l.length cap i h0 h1) (.rptr _ b _ (fun j=>(vs i.toNat).cells.getD j undef) hA hb (fun j hj=>?_) (fun j hj=>?_)) h
    .have hj':j<(vs i.toNat).cells.size:=by have:=hcells.1;simp at this;omega
     have:=hm i.toNat hlt j _ (zKL hj');rw [<-hsz];simpa [Array.getD,hj'] using this
    .have hj':j<(vs i.toNat).cells.size:=by have:=hcells.1;simp at this;omega
     exact hcells.2 j _ _ (zJC hj) (by simp [Array.getD,hj'])
 unfold zqb at h;split at h
 .rename_i hsl;have hd:=zpU hT hs hsl;split at h
  .rename_i e l;split at h;rotate_left
   .simp [Dec.cps] at h
   rename_i hty;cases hp with
   | v τ x v hv=>exact typedElem hv hty h hd
  .rename_i e l;split at h;rotate_left
   .simp [Dec.cps] at h
   rename_i hty;cases hp with
   | full e l a hv=>exact typedElem hv hty h hd
  .rename_i id;simp only [Dec.cps] at h;cases hB:zn H id with
   | row wr e l =>
    rw [hB] at h;simp only at h;split at h;rotate_left
    .simp [Dec.cps] at h
    rename_i hty;have hsz:=uk hT e hu (Xu hty);simp only [Dec.cps] at h;cases hx:xM l i with
    | none=>simp [hx] at h
    | some n =>
     simp only [hx,zJA] at h;obtain ⟨h0,h1,rfl⟩:=zyC hx;have ok:=S.ok id;rw [hB] at ok;cases hp with
     | own id b off len cap hU hμ =>
      rw [hμ] at ok;rcases ok with ⟨b',off',cap',c,vs,hl,_⟩ | ⟨_,a,hl⟩;rotate_left
      .cases hl
      injection hl with e1 e2 e3 e4;subst e1 e2 e3 e4;refine zZ.same S (Uz hT hd hu b off l.length cap i h0 h1) ?_ h;have:=z7.eptr (E:=E) (w:=w) (A:=Av A0 μ H) (U:=Us H) (μ:=μ) e id i.toNat 0 b off l.length cap hU hμ (by omega);rw [hsz] at this;simpa using this
     | own0 id a a2 hU hμ =>
      rw [hμ] at ok;rcases ok with ⟨b',off',cap',c,vs,hl,_⟩ | ⟨rfl,_⟩
      .cases hl
      .simp at h1;omega
   | rowh e l n' k =>
    rw [hB] at h;simp only at h;split at h;rotate_left
    .simp [Dec.cps] at h
    rename_i hty;have hsz:=uk hT (.slice e) hu (Xu hty);simp only [Dec.cps] at h;cases hx:xM l i with
    | none=>simp [hx] at h
    | some n =>
     simp only [hx,zJA] at h;obtain ⟨h0,h1,rfl⟩:=zyC hx;have ok:=S.ok id;rw [hB] at ok;obtain ⟨b',off',cap',c,vs,hl,_⟩:=ok;cases hp with
     | own id b off len cap hU hμ =>
      rw [hμ] at hl;injection hl with e1 e2 e3 e4;subst e1 e2 e3 e4;refine zZ.same S (Uz hT hd hu b off l.length cap i h0 h1) ?_ h;have:=z7.eptr (E:=E) (w:=w) (A:=Av A0 μ H) (U:=Us H) (μ:=μ) (.slice e) id i.toNat 0 b off l.length cap hU hμ (by omega);rw [hsz] at this;simpa using this
     | own0 id a a2 hU hμ=>rw [hμ] at hl;cases hl
   | _=>rw [hB] at h;simp [Dec.cps] at h
  .rename_i id n;obtain ⟨h0,h1,h2⟩:=zfx i n h;cases hp with
   | bsl id n b hU hμ =>
    refine zZ.same S (Uz hT hd hu b 0 n n i h0 h1) ?_ h2;have:=z7.ptr (E:=E) (w:=w) (A:=Av A0 μ H) (U:=Us H) (μ:=μ) id (i.toNat*u.size) b n n hU hμ;simpa using this
  .simp [Dec.cps] at h
 .split at h
  .rename_i id off;split at h;rotate_left
   .simp [Dec.cps] at h
   rename_i hagg;obtain ⟨h0,h1,h2⟩:=zfx i s.alen h;have hd:=zsf hT hs hagg (by omega);cases hp with
   | ptr id off b n cap hU hμ =>
    refine zZ.same S (v:= .pointer (some ⟨b,off+i.toNat*u.size,none⟩)) ?_ (.ptr id _ b n cap hU hμ) h2;simp [Instr.indexAt,asIntOf,run_underlying hd,Instr.sureAddr,h0,h1,yJ hT hu,Ub]
  .rename_i e id k off;split at h;rotate_left
   .simp [Dec.cps] at h
   rename_i hc;simp only [zJB] at hc;obtain ⟨⟨⟨⟨hagg,hal⟩,hk⟩,hoff⟩,hty⟩:=hc;have hal:0<s.alen:=zKd hal;have hk:=zJH hk;have hoff:=zJH hoff;subst hk hoff;have hsz:=uk hT e hu (Xu hty);have hd:=zsf hT hs hagg (by omega);simp only [Dec.cps] at h;cases hp with
   | eptr e id n0 off b o len cap hU hμ hlt =>
    have ok:=S.ok id;cases hB:zn H id with
    | row wr e' l =>
     rw [hB] at h ok;simp only at h;split at h;rotate_left
     .simp [Dec.cps] at h
     rename_i he;have he:e'=e:=by simpa using he
     subst he;simp only [Dec.cps] at h;cases hx:zgM l s.alen i with
     | none=>simp [hx] at h
     | some n =>
      simp only [hx,zJA] at h;obtain ⟨h0,h1,h2,rfl⟩:=zxX hx;rw [hμ] at ok;rcases ok with ⟨b',off',cap',c,vs,hl,_⟩ | ⟨_,a,hl⟩;rotate_left
      .cases hl
      injection hl with e1 e2 e3 e4;subst e1 e2 e3 e4;refine zZ.same S (v:= .pointer (some ⟨b,o+i.toNat*u.size,none⟩)) ?_ ?_ h
      .simp [Instr.indexAt,asIntOf,run_underlying hd,Instr.sureAddr,h0,h2,yJ hT hu,Ub]
      .have:=z7.eptr (E:=E) (w:=w) (A:=Av A0 μ H) (U:=Us H) (μ:=μ) e' id i.toNat 0 b o l.length cap hU hμ (by omega);rw [hsz] at this;simpa using this
    | _=>rw [hB] at h;simp [Dec.cps] at h
  .simp [Dec.cps] at h
theorem zDj (hT:yG E.leaves P tab=true) {t:Nat}{i:TI}(hi:look tab t=some i) {e:Ty}(he:e.leaf=true) (h:i.ty=some e):i.agg=false:=by
 have h1:=zhF hT hi;cases e<;>simp only [tyB,h,zJB,zJU] at h1<;>first | exact h1.1 | exact h1.1.1.1 | (simp [Ty.leaf] at he)
theorem zAX (hT:yG E.leaves P tab=true) {t:Nat}{s u:TI}(hs:look tab t=some s) (hu:look tab s.elem=some u) {cs:List (zh E)}{v:Value}{i:Int}(S:zT A0 μ H w) (hp:Rp E A0 μ H w (.agg cs) v)
  (h:(zq8 s u (.agg cs) i).cps H K=some r):zZ P A0 μ H w (Instr.index t v (.int .i64 i)) K r:=by
 simp only [zq8] at h;split at h;rotate_left
 .simp [Dec.cps] at h
 rename_i hc;simp only [zJB,zJU] at hc;obtain ⟨⟨⟨⟨hagg,hal⟩,hk⟩,hsz⟩,hna⟩:=hc;have hal:0<s.alen:=zKd hal;have hk:=zJH hk;have hsz:=zJH hsz;have hd:=zsf hT hs hagg (by omega);obtain ⟨h0,h1,h2⟩:=zfx i s.alen h;have hlt:i.toNat<cs.length:=by omega
 rw [zJC hlt] at h2;simp only [Dec.cps] at h2;cases hp with
 | agg _ ds a1 a2 =>
  have hr:=a2 i.toNat hlt;have hl:i.toNat<ds.size:=by omega
  have hc:=zKL hl;have e:ds.getD i.toNat undef=ds[i.toNat]:=by rw [zJ5,hc];rfl
  rw [e] at hr;generalize ds[i.toNat]=y at hc hr;have h1':i<(s.alen:Int):=h1;refine zZ.same S (v:=y) ?_ hr h2;simp [Instr.index,asIntOf,run_underlying hd,h0,h1',yJ hT hu,part,ze9 hT hu,hna,hsz,hc]
theorem zzS (hT:yG E.leaves P tab=true) {t:Nat}{s u:TI}(hs:look tab t=some s) (hu:look tab s.elem=some u) {p:zh E}{v:Value}{i:Int}(S:zT A0 μ H w) (hp:Rp E A0 μ H w p v)
  (h:(zq8 s u p i).cps H K=some r):zZ P A0 μ H w (Instr.index t v (.int .i64 i)) K r:=by
 by_cases ha:∃cs,p= .agg cs
 .obtain ⟨cs,rfl⟩:=ha;exact zAX hT hs hu S hp h
 unfold zq8 at h;split at h;rotate_left
 .exact absurd ⟨_,rfl⟩ ha
 .simp [Dec.cps] at h
 rename_i n e l;split at h;rotate_left
 .simp [Dec.cps] at h
 rename_i hc;simp only [zJB] at hc;obtain ⟨⟨⟨⟨hagg,hal⟩,hk⟩,hty⟩,he⟩:=hc;have hal:0<s.alen:=zKd hal;have hk:=zJH hk;subst hk;have hsz:=uk hT e hu (Xu hty);have hd:=zsf hT hs hagg (by omega);have hna:=zDj hT hu he (Xu hty);rw [Zj he] at hsz;simp only [Dec.cps] at h;cases hx:zgM l s.alen i with
 | none=>simp [hx] at h
 | some n =>
  simp only [hx,zJA] at h;obtain ⟨h0,h1,h2,rfl⟩:=zxX hx;have hlt:i.toNat<l.length:=by omega
  rw [zJC hlt,zJA] at h;cases hp with
  | v _ _ _ hv =>
   cases hv with
   | arr n0 e0 cs l0 us a1 a2 a3 a4 =>
    have hr:=a4 i.toNat hlt;have hc:=a3 i.toNat (by omega) 0 (us i.toNat) (by rw [hr.leaf_cells he];rfl);rw [Zj he,zKx,zKj] at hc;refine zZ.same S (v:=us i.toNat) ?_ (.v _ _ _ hr) h;simp [Instr.index,asIntOf,run_underlying hd,h0,h2,yJ hT hu,part,ze9 hT hu,hna,<-hsz,hc]
end
end Go.Pe
namespace Go.Pe
variable {E:yw}
section
variable {P:Program}{tab:List (Nat×TI)}{A0:Nat->Prop}{μ:Nat->Loc}{H:List (Blk E)}{w:World}{R:Type}{K:zh E->List (Blk E)->Option R}{r:R}
def zrq (f:zh E->Value->Prop):Option (zh E)->Option Value->Prop
 | none,none=>True
 | some p,some v=>f p v
 | _,_=>False
theorem wH {w:World}{A U:Nat->Prop}{μ:Nat->Loc}{p:Option (zh E)}{v:Option Value}{d a:Int}(h:zrq (z7 E w A U μ) p v) (ha:Vo p d=some a):(v=none/\a=d)\/v=some (.int .i64 a):=by
 cases p with
 | none=>cases v with
  | none=>simp [Vo] at ha;exact .inl ⟨rfl,ha.symm⟩
  | some v=>exact h.elim
 | some p=>cases v with
  | none=>exact h.elim
  | some v =>
   right;cases h with
   | v τ x v hx=>cases hx<;>simp [Vo] at ha;rename_i k x;cases k<;>simp_all
   | _=>simp [Vo] at ha
theorem zlw {len cap:Nat}{lo hi:Option Value}{a b:Int}(w:World) (h1:(lo=none/\a=0)\/lo=some (.int .i64 a)) (h2:(hi=none/\b=len)\/hi=some (.int .i64 b))
  (h0:0<=a) (hab:a<=b) (hb:b<=len) (hc:len<=cap) (s:Bool):(Instr.sliceBounds s len cap lo hi none).run P w= .ok (a.toNat,b.toNat,cap) w:=by
 rcases h1 with ⟨rfl,rfl⟩ | rfl<;>rcases h2 with ⟨rfl,rfl⟩ | rfl
 .simp [Instr.sliceBounds]
 .have:b<=(cap:Int):=by omega
  simp [Instr.sliceBounds,Instr.sliceBound,asIntOf,hab,this]
 .simp [Instr.sliceBounds,Instr.sliceBound,asIntOf,h0,hab]
 .have h3:b<=(cap:Int):=by omega
  have h4:0<=b:=by omega
  have h5:((b.toNat:Nat):Int)=b:=by omega
  simp [Instr.sliceBounds,Instr.sliceBound,asIntOf,h0,hab,h3,h4,h5]
theorem zd7 {α:Type}{l l':List α}{lo hi:Int}(h:cut l lo hi=some l'):0<=lo/\lo<=hi/\hi<=l.length/\l'=(l.take hi.toNat).drop lo.toNat:=by
 unfold cut at h;cases hd:(decide (0<=lo)&&decide (lo<=hi)&&decide (hi<=l.length)) with
 | false=>simp [hd] at h
 | true =>
  simp only [hd,cond_true] at h;simp only [zJB,decide_eq_true_eq] at hd;injection h with h;exact ⟨hd.1.1,hd.1.2,hd.2,h.symm⟩
theorem yn.cut {A:Nat->Prop}{e:Ty}{l l':List (Den E.T e)}{a:Option Addr}{len cap:Nat}{lo hi:Int}(h:yn E w A (.slice e) (.slice a len cap) l) (hc:Pe.cut l lo hi=some l') :
  len=l.length/\len<=cap/\yn E w A (.slice e) (.slice (if cap=lo.toNat then a else a.map (·.add (lo.toNat*e.size E))) (hi.toNat-lo.toNat) (cap-lo.toNat)) l':=by
 obtain ⟨h0,h1,h2,rfl⟩:=zd7 hc;cases h with
 | nil e a cap =>
  simp at h2;have e1:hi.toNat=0:=by omega
  have e2:lo.toNat=0:=by omega
  rw [e1,e2];refine ⟨by simp,by simp,?_⟩;simp only [List.take_nil,List.drop_nil];exact .nil _ _ _
 | slice e b off cap l vs hA hb hcap hm hr =>
  refine ⟨rfl,hcap,?_⟩;by_cases hz:hi.toNat-lo.toNat=0
  .rw [hz];have:(List.take hi.toNat l).drop lo.toNat=[]:=by
    apply zLa;simp;omega
   rw [this];exact .nil _ _ _
  .rw [zi];simp only [zKD,Ub];have hlen:((List.take hi.toNat l).drop lo.toNat).length=hi.toNat-lo.toNat:=by simp;omega
   have key:=yn.slice (E:=E) (w:=w) (A:=A) e b (off+lo.toNat*e.size E) (cap-lo.toNat) ((List.take hi.toNat l).drop lo.toNat) (fun i=>vs (lo.toNat+i)) hA hb (by rw [hlen];omega)
    (fun i hi' j u hu=>by
     have:=hm (lo.toNat+i) (by rw [hlen] at hi';omega) j u hu;rw [zKe] at this;simpa [zKQ] using this)
    (fun i hi'=>by
     have:=hr (lo.toNat+i) (by rw [hlen] at hi';omega);simpa using this)
   rw [hlen] at key;exact key
theorem zfR {t e:Nat}{u:TI}(hT:yG E.leaves P tab=true) (hd:P.underlying t=some (.slice e)) (hu:look tab e=some u) {len cap:Nat}{base:Option Addr}{lo hi:Option Value}{a b:Int}(w:World)
  (h1:(lo=none/\a=0)\/lo=some (.int .i64 a)) (h2:(hi=none/\b=len)\/hi=some (.int .i64 b)) (h0:0<=a) (hab:a<=b) (hb:b<=len) (hc:len<=cap) :
  (Instr.sliceAt t (.slice base len cap) lo hi none).run P w= .ok (.slice (if cap=a.toNat then base else base.map (·.add (a.toNat*u.size))) (b.toNat-a.toNat) (cap-a.toNat)) w:=by
 simp [Instr.sliceAt,run_underlying hd,Instr.slice,zlw (P:=P) w h1 h2 h0 hab hb hc,yJ hT hu]
theorem zeL {t e:Nat}{u:TI}(hT:yG E.leaves P tab=true) (hd:P.underlying t=some (.slice e)) (hu:look tab e=some u) {len cap:Nat}{base:Option Addr}{lo hi:Option Value}{a b c:Int}{m:Value}(w:World)
  (h1:(lo=none/\a=0)\/lo=some (.int .i64 a)) (h2:hi=some (.int .i64 b)) (h3:m= .int .i64 c) (h0:a=0) (hab:0<=b) (hb:b<=c) (hc:c<=cap) :
  (Instr.sliceAt t (.slice base len cap) lo hi (some m)).run P w= .ok (.slice base b.toNat c.toNat) w:=by
 subst h0 h2 h3;have hc0:0<=c:=by omega
 have e1:((c.toNat:Nat):Int)=c:=by omega
 have e2:((b.toNat:Nat):Int)=b:=by omega
 have hadd:base.map (fun x=>x.add 0)=base:=by cases base<;>simp [Addr.add]
 rcases h1 with ⟨rfl,_⟩ | rfl
 .simp [Instr.sliceAt,run_underlying hd,Instr.slice,Instr.sliceBounds,Instr.sliceBound,asIntOf,hab,hb,hc,hc0,e1,yJ hT hu,hadd]
 .simp [Instr.sliceAt,run_underlying hd,Instr.slice,Instr.sliceBounds,Instr.sliceBound,asIntOf,hab,hb,hc,hc0,e1,e2,yJ hT hu,hadd]
theorem yn.recap {A:Nat->Prop}{e:Ty}{l:List (Den E.T e)}{a:Option Addr}{len cap cap':Nat}(h:yn E w A (.slice e) (.slice a len cap) l) (hc:len<=cap'):yn E w A (.slice e) (.slice a len cap') l:=by
 cases h with
 | nil e a cap=>exact .nil _ _ _
 | slice e b off cap l vs g1 g2 g3 g4 g5=>exact .slice e b off _ l vs g1 g2 hc g4 g5
theorem yn.cut3 {A:Nat->Prop}{e:Ty}{l l':List (Den E.T e)}{a:Option Addr}{len cap:Nat}{lo hi:Int}(h:yn E w A (.slice e) (.slice a len cap) l) (hc:Pe.cut l lo hi=some l') :
  yn E w A (.slice e) (.slice (if hi.toNat=lo.toNat then a else a.map (·.add (lo.toNat*e.size E))) (hi.toNat-lo.toNat) (hi.toNat-lo.toNat)) l':=by
 obtain ⟨h1,h2,h3⟩:=h.cut hc;obtain ⟨g0,g1,g2,hl⟩:=zd7 hc;by_cases hz:hi.toNat-lo.toNat=0
 .rw [hz];have:l'=[]:=by rw [hl];apply zLa;simp;omega
  subst this;exact .nil _ _ _
 .rw [zi];rw [zi] at h3;exact h3.recap (zJF _)
theorem zCv {t e:Nat}{u:TI}(hT:yG E.leaves P tab=true) (hd:P.underlying t=some (.slice e)) (hu:look tab e=some u) {len cap:Nat}{base:Option Addr}{lo hi:Option Value}{a b:Int}{m:Value}(w:World)
  (h1:(lo=none/\a=0)\/lo=some (.int .i64 a)) (h2:hi=some (.int .i64 b)) (h3:m= .int .i64 b) (h0:0<=a) (hab:a<=b) (hc:b<=cap) :
  (Instr.sliceAt t (.slice base len cap) lo hi (some m)).run P w= .ok (.slice (if b.toNat=a.toNat then base else base.map (·.add (a.toNat*u.size))) (b.toNat-a.toNat) (b.toNat-a.toNat)) w:=by
 subst h2 h3;have hb0:0<=b:=by omega
 have e1:((a.toNat:Nat):Int)=a:=by omega
 have e2:((b.toNat:Nat):Int)=b:=by omega
 rcases h1 with ⟨rfl,rfl⟩ | rfl
 .simp [Instr.sliceAt,run_underlying hd,Instr.slice,Instr.sliceBounds,Instr.sliceBound,asIntOf,hab,hb0,hc,e2,yJ hT hu]
 .simp [Instr.sliceAt,run_underlying hd,Instr.slice,Instr.sliceBounds,Instr.sliceBound,asIntOf,h0,hab,hb0,hc,e1,e2,yJ hT hu]
theorem zFA {id fresh:Nat}{e:Ty}{l l':List (Den E.T e)}{lo hi:Int}(S:zT A0 μ H w) (F:ZU H fresh A0 w) (hB:zn H id= .row true e l) (hc:cut l lo hi=some l') {v:Value}(hv:Rp E A0 μ H w (.own id) v) :
  ∃base len cap,v= .slice base len cap/\len=l.length/\len<=cap/\∃ μ',zS A0 μ H w μ' ((H.set id .dead).set fresh (.row true e l')) w/\zT A0 μ' ((H.set id .dead).set fresh (.row true e l')) w /\
   Rp E A0 μ' ((H.set id .dead).set fresh (.row true e l')) w (.own fresh) (.slice (if cap=lo.toNat then base else base.map (·.add (lo.toNat*e.size E))) (hi.toNat-lo.toNat) (cap-lo.toNat)):=by
 obtain ⟨h0,h1,h2,hl'⟩:=zd7 hc;have hlive:yQ (zn H id)=true:=by rw [hB];rfl
 have hUid:Us H id:=yo (yA hlive);have hid:=xY hUid;have ok:=S.ok id;rw [hB] at ok;have hlen':l'.length=hi.toNat-lo.toNat:=by rw [hl'];simp;omega
 have hne:id≠fresh:=fun e'=>by subst e';rw [F.free] at hB;cases hB
 have hfl:fresh<(H.set id (.dead:Blk E)).length:=by simpa using F.lt
 have hUf:Us ((H.set id .dead).set fresh (.row true e l')) fresh:=by unfold Us;rw [yg _ _ _ hfl];rfl
 cases hv with
 | own id b off len cap hU hμ =>
  rw [hμ] at ok;rcases ok with ⟨b',off',cap',c,vs,hl,hbox,g1,g2,g3,g4⟩ | ⟨_,a,hl⟩;rotate_left
  .cases hl
  injection hl with e1 e2 e3 e4;subst e1 e2 e3 e4;refine ⟨_,_,_,rfl,rfl,g1,?_⟩;by_cases hz:cap=lo.toNat
  .have hnil:l'=[]:=zKp (by rw [hlen'];omega);refine ⟨_,zS.move (w':=w) id fresh b off l.length cap off 0 0 _ hlive hμ F.free F.lt (yi.refl w) (fun _ _ _=>rfl),S.move id fresh b off l.length cap off 0 0 _ hlive hμ F.free F.lt (yi.refl w) (fun _ _ _=>rfl) ?_,?_⟩
   .subst hnil;exact .inl ⟨b,off,0,c,vs,rfl,hbox,zJF _,by omega,fun i hi=>by simp at hi,fun i hi=>by simp at hi⟩
   .rw [zb hz];have:hi.toNat-lo.toNat=0/\cap-lo.toNat=0:=by omega
    rw [this.1,this.2];exact .own fresh b off 0 0 hUf (vl _ _ _)
  .have T:=zS.move (A0:=A0) (w':=w) id fresh b off l.length cap (off+lo.toNat*e.size E) (hi.toNat-lo.toNat) (cap-lo.toNat) (.row true e l') hlive hμ F.free F.lt (yi.refl w) (fun _ _ _=>rfl);refine ⟨_,T,S.move id fresh b off l.length cap (off+lo.toNat*e.size E) (hi.toNat-lo.toNat) (cap-lo.toNat) _ hlive hμ F.free F.lt (yi.refl w) (fun _ _ _=>rfl) ?_,?_⟩
   .refine .inl ⟨b,off+lo.toNat*e.size E,cap-lo.toNat,c,fun i=>vs (lo.toNat+i),by rw [hlen'],hbox,by rw [hlen'];omega,?_,fun i hi' j u hu=>?_,fun i hi'=>?_⟩
    .have:lo.toNat*e.size E+(cap-lo.toNat)*e.size E=cap*e.size E:=by rw [<-zKe];congr 1;omega
     omega
    .have:=g3 (lo.toNat+i) (by rw [hlen'] at hi';omega) j u hu;rw [zKe] at this;simpa [zKQ] using this
    .have:=g4 (lo.toNat+i) (by rw [hlen'] at hi';omega);have:=T.repT this;subst hl';simpa using this
   .rw [zc hz];simp only [zKD,Ub];exact .own fresh b _ _ _ hUf (vl _ _ _)
 | own0 id a a2 hU hμ =>
  rw [hμ] at ok;rcases ok with ⟨b',off',cap',c,vs,hl,_⟩ | ⟨rfl,_⟩
  .cases hl
  simp at h2;have e1:hi.toNat=0:=by omega
  have e2:lo.toNat=0:=by omega
  have hnil:l'=[]:=zKp (by rw [hlen'];omega);refine ⟨_,_,_,rfl,rfl,zJF _,XG μ fresh (.none a),?_,?_,?_⟩
  .have T1:zS A0 μ H w μ (H.set id .dead) w:=zS.drop id .dead hU rfl rfl;exact T1.trans (zS.fresh (A0:=A0) (μ:=μ) (H:=H.set id .dead) fresh (.none a) _ (by rw [z6 H _ hne];exact F.free) hfl (yi.refl w) (fun _ _=>rfl) (fun b o n c h=>by cases h))
  .have S1:zT A0 μ (H.set id .dead) w:=S.drop id .dead hU rfl rfl (fun h=>by cases h) (fun h=>by cases h) trivial;exact S1.fresh fresh (.none a) _ (by rw [z6 H _ hne];exact F.free) hfl (yi.refl w) (fun _ _=>rfl) (fun b o n c h=>by cases h) F.A0 (.inr ⟨hnil,a,rfl⟩)
  .rw [e1,e2];simp only [if_true,Nat.sub_zero];exact .own0 fresh a _ hUf (vl _ _ _)
theorem zAt (hT:yG E.leaves P tab=true) {t:Nat}{i:TI}(hi:look tab t=some i) {mv:Bool}{fresh:Nat}{p:zh E}{v:Value}{lo hi' mx:Option (zh E)}{lov hiv mxv:Option Value}(S:zT A0 μ H w) (F:ZU H fresh A0 w)
  (hp:Rp E A0 μ H w p v) (h1:zrq (Rp E A0 μ H w) lo lov) (h2:zrq (Rp E A0 μ H w) hi' hiv) (h3:zrq (Rp E A0 μ H w) mx mxv)
  (h:(zA7 i (look tab i.elem) mv fresh p lo hi' mx).cps H K=some r):zZ P A0 μ H w (Instr.sliceAt t v lov hiv mxv) K r:=by
 have elx:∀ {e:Ty},zwY i (look tab i.elem) e=true->∃u,look tab i.elem=some u/\P.underlying t=some (.slice i.elem)/\u.size=e.size E:=by
  intro e h;simp only [zwY,zJB] at h;obtain ⟨h1,h2⟩:=h;split at h2
  .rename_i u hu;exact ⟨u,hu,zpU hT hi h1,(uk hT e hu (Xu h2)).symm⟩
  .cases h2
 have elx0:(i.sl&&(look tab i.elem).isSome)=true->∃u,look tab i.elem=some u/\P.underlying t=some (.slice i.elem):=by
  intro h;simp only [zJB] at h;obtain ⟨h1,h2⟩:=h;cases hu:look tab i.elem with
  | none=>simp [hu] at h2
  | some u=>exact ⟨u,rfl,zpU hT hi h1⟩
 unfold zA7 at h;simp only at h;cases mx with
 | none =>
  cases mxv with
  | some _=>exact h3.elim
  | none =>
  simp only at h;split at h
  .-- a zct slice
   rename_i e l;split at h;rotate_left
   .simp [Dec.cps] at h
   rename_i hel;obtain ⟨u,hu,hd,hsz⟩:=elx hel;split at h;rotate_left
   .simp [Dec.cps] at h
   rename_i a b ha hb;simp only [Dec.cps] at h;cases hc:cut l a b with
   | none=>simp [hc] at h
   | some l' =>
    simp only [hc,zJA] at h;obtain ⟨c0,c1,c2,_⟩:=zd7 hc;cases hp with
    | v τ x v hv =>
     have hv':=hv;cases hv' with
     | nil e a' cap =>
      obtain ⟨e1,e2,hrep⟩:=hv.cut hc;refine zZ.same S (zfR hT hd hu w (wH h1 ha) (wH h2 hb) c0 c1 (by simpa using c2) e2) (.v _ _ _ ?_) h;rw [hsz];exact hrep
     | slice e b' off cap l vs g1 g2 g3 g4 g5 =>
      obtain ⟨e1,e2,hrep⟩:=hv.cut hc;refine zZ.same S (zfR hT hd hu w (wH h1 ha) (wH h2 hb) c0 c1 c2 e2) (.v _ _ _ ?_) h;rw [hsz];exact hrep
  .-- a string
   rename_i s;split at h;rotate_left
   .simp [Dec.cps] at h
   rename_i hty;have hd:P.underlying t=some .string:=by
    obtain ⟨d,g1,g2⟩:=Xs hT hi;have hty:=Xu hty;cases d<;>simp_all [uy]
   split at h;rotate_left
   .simp [Dec.cps] at h
   rename_i a b ha hb;simp only [Dec.cps] at h;cases hc:(decide (0<=a)&&decide (a<=b)&&decide (b<=s.size)) with
   | false=>simp [hc] at h
   | true =>
    simp only [hc,cond_true] at h;simp only [zJB,decide_eq_true_eq] at hc;cases hp with
    | v τ x v hv =>
     cases hv with
     | str s =>
      refine zZ.same S (v:= .string (s.extract a.toNat b.toNat)) ?_ (.v _ _ _ (.str _)) h;simp [Instr.sliceAt,run_underlying hd,Instr.slice,zlw (P:=P) w (wH h1 ha) (wH h2 hb) hc.1.1 hc.1.2 hc.2 (zJF _)]
  .-- nothing
   split at h;rotate_left
   .simp [Dec.cps] at h
   rename_i hel;obtain ⟨u,hu,hd⟩:=elx0 hel;split at h;rotate_left
   .simp [Dec.cps] at h
   rename_i a b ha hb;simp only [Dec.cps] at h;cases hc:(decide (a=0)&&decide (b=0)) with
   | false=>simp [hc] at h
   | true =>
    simp only [hc,cond_true] at h;simp only [zJB,decide_eq_true_eq] at hc;obtain ⟨rfl,rfl⟩:=hc;cases hp with
    | nils a' =>
     refine zZ.same S (zfR hT hd hu w (wH h1 ha) (wH h2 hb) (zKl _) (zKl _) (by simp) (zJF _)) ?_ h;simp only [Int.toNat_zero,Nat.sub_zero,if_true];exact .nils a'
  .-- a row
   rename_i id;simp only [Dec.cps] at h;cases hB:zn H id with
   | row wr e l =>
    rw [hB] at h;simp only at h;split at h;rotate_left
    .simp [Dec.cps] at h
    rename_i hel;obtain ⟨u,hu,hd,hsz⟩:=elx hel;split at h;rotate_left
    .simp [Dec.cps] at h
    rename_i a b ha hb;split at h
    .split at h;rotate_left
     .simp [Dec.cps] at h
     rename_i hwr;subst hwr;simp only [Dec.cps] at h;cases hc:cut l a b with
     | none=>simp [hc] at h
     | some l' =>
      simp only [hc,zJA] at h;obtain ⟨c0,c1,c2,_⟩:=zd7 hc;cases hlt:Nat.blt id H.length with
      | false=>simp [hlt] at h
      | true =>
       simp only [hlt,cond_true] at h;cases hlt2:Nat.blt fresh (H.set id .dead).length with
       | false=>simp only [hlt2,cond_false] at h;cases h
       | true =>
        simp only [hlt2,cond_true] at h;obtain ⟨base,len,cap,rfl,e1,e2,μ',T,S',hrep⟩:=zFA S F hB hc hp;refine ⟨_,_,_,_,μ',zfR hT hd hu w (wH h1 ha) (by rw [e1];exact wH h2 hb) c0 c1 (by rw [e1];exact c2) e2,T,S',?_,h⟩;rw [hsz];exact hrep
    .simp only [Dec.cps] at h;cases hlt:Nat.blt id H.length with
     | false=>simp [hlt] at h
     | true =>
      simp only [hlt,cond_true] at h;cases hc:cut l a b with
      | none=>simp [hc] at h
      | some l' =>
       simp only [hc,zJA] at h;obtain ⟨c0,c1,c2,_⟩:=zd7 hc;obtain ⟨T,S',hrep⟩:=zcz S hB;obtain ⟨a',c,rfl,hv⟩:=hrep v hp;obtain ⟨e1,e2,hrep'⟩:=hv.cut hc;refine ⟨_,_,_,_,μ,zfR hT hd hu w (wH h1 ha) (wH h2 hb) c0 c1 c2 e2,T,S',.v _ _ _ ?_,h⟩;rw [hsz];exact hrep'
   | _=>rw [hB] at h;simp [Dec.cps] at h
  .simp [Dec.cps] at h
 | some m =>
  cases mxv with
  | none=>exact h3.elim
  | some mv' =>
  simp only at h;have hm:∀ {c:Int},Vo (some m) 0=some c->mv'= .int .i64 c:=fun hc=>by
   rcases wH (w:=w) (A:=Av A0 μ H) (U:=Us H) (μ:=μ) (v:=some mv') h3 hc with ⟨h,_⟩ | h
   .cases h
   .injection h
  split at h
  .rename_i e l;split at h;rotate_left
   .simp [Dec.cps] at h
   rename_i hel;obtain ⟨u,hu,hd,hsz⟩:=elx hel;split at h;rotate_left
   .simp [Dec.cps] at h
   rename_i a bp c ha hc;cases hiv with
   | none=>exact h2.elim
   | some bv =>
   split at h;rotate_left
   .simp [Dec.cps] at h
   rename_i b hb;have hbv:some bv=some (.int .i64 b):=by
    rcases wH (w:=w) (A:=Av A0 μ H) (U:=Us H) (μ:=μ) (v:=some bv) h2 hb with ⟨h,_⟩ | h
    .cases h
    .exact h
   have fin:∀(base:Option Addr) (cap:Nat),l.length<=cap->v= .slice base l.length cap->yn E w (Av A0 μ H) (.slice e) (.slice base l.length l.length) l->zZ P A0 μ H w (Instr.sliceAt t v lov (some bv) (some mv')) K r:=by
    intro base cap hcap hv' hrep;subst hv';simp only [Dec.cps] at h;cases hz:(decide (a=0)&&decide (b=0)&&decide (c=0)) with
    | true =>
     simp only [hz,cond_true] at h;simp only [zJB,decide_eq_true_eq] at hz;obtain ⟨⟨rfl,rfl⟩,rfl⟩:=hz;exact zZ.same S (zeL hT hd hu w (wH h1 ha) hbv (hm hc) rfl (zKl _) (zKl _) (by omega)) (.nils base) h
    | false =>
     simp only [hz,cond_false] at h;cases hz2:(decide (a=0)&&decide (b=l.length)&&decide (c=l.length)) with
     | false =>
      simp only [hz2,cond_false] at h;cases hz3:decide (b=c) with
      | false=>simp [hz3] at h
      | true =>
       simp only [hz3,cond_true] at h;simp only [decide_eq_true_eq] at hz3;subst hz3;simp only [zJL] at h;obtain ⟨l',hcut,h⟩:=h;obtain ⟨c0,c1,c2,_⟩:=zd7 hcut;have hsz':u.size=e.size E:=hsz;refine zZ.same S (zCv hT hd hu w (wH h1 ha) hbv (hm hc) c0 c1 (by omega)) ?_ h;rw [hsz'];exact .v _ _ _ (hrep.cut3 hcut)
     | true =>
      simp only [hz2,cond_true] at h;simp only [zJB,decide_eq_true_eq] at hz2;obtain ⟨⟨rfl,rfl⟩,rfl⟩:=hz2;refine zZ.same S (zeL hT hd hu w (wH h1 ha) hbv (hm hc) rfl (by omega) (zKl _) (by omega)) ?_ h;simpa using z7.full e l base hrep
   cases hp with
   | v τ x v hv =>
    cases hv with
    | nil e a' cap=>exact fin a' cap (zKM _) rfl (.nil _ _ _)
    | slice e b' off cap l vs g1 g2 g3 g4 g5=>exact fin _ cap g3 rfl (.slice e b' off _ l vs g1 g2 (zJF _) g4 g5)
  .split at h;rotate_left
   .simp [Dec.cps] at h
   rename_i hel;obtain ⟨u,hu,hd⟩:=elx0 hel;split at h;rotate_left
   .simp [Dec.cps] at h
   rename_i a bp c ha hc;cases hiv with
   | none=>exact h2.elim
   | some bv =>
   split at h;rotate_left
   .simp [Dec.cps] at h
   rename_i b hb;have hbv:some bv=some (.int .i64 b):=by
    rcases wH (w:=w) (A:=Av A0 μ H) (U:=Us H) (μ:=μ) (v:=some bv) h2 hb with ⟨h,_⟩ | h
    .cases h
    .exact h
   simp only [Dec.cps] at h;cases hz:(decide (a=0)&&decide (b=0)&&decide (c=0)) with
   | false=>simp [hz] at h
   | true =>
    simp only [hz,cond_true] at h;simp only [zJB,decide_eq_true_eq] at hz;obtain ⟨⟨rfl,rfl⟩,rfl⟩:=hz;cases hp with
    | nils a'=>exact zZ.same S (zeL hT hd hu w (wH h1 ha) hbv (hm hc) rfl (zKl _) (zKl _) (by simp)) (.nils a') h
  .rename_i id;simp only [Dec.cps] at h;cases hB:zn H id with
   | row wr e l =>
    rw [hB] at h;simp only at h;split at h;rotate_left
    .simp [Dec.cps] at h
    rename_i hel;obtain ⟨u,hu,hd,hsz⟩:=elx hel;split at h;rotate_left
    .simp [Dec.cps] at h
    rename_i a bp c ha hc;cases hiv with
    | none=>exact h2.elim
    | some bv =>
    split at h;rotate_left
    .simp [Dec.cps] at h
    rename_i b hb;have hbv:some bv=some (.int .i64 b):=by
     rcases wH (w:=w) (A:=Av A0 μ H) (U:=Us H) (μ:=μ) (v:=some bv) h2 hb with ⟨h,_⟩ | h
     .cases h
     .exact h
    simp only [Dec.cps] at h;obtain ⟨T,S',hrep⟩:=zcz S hB;obtain ⟨a',cp,rfl,hv⟩:=hrep v hp;have hcap:l.length<=cp:=by
     have hv2:=hv;generalize hq:Value.slice a' l.length cp=q at hv2;cases hv2 with
     | nil e a2 cap2=>simp
     | slice e b' off cap2 l vs g1 g2 g3 g4 g5=>injection hq with q1 q2 q3;omega
    have hfull:yn E w (Av A0 μ (H.set id (.row false e l))) (.slice e) (.slice a' l.length l.length) l:=by
     generalize hq:Value.slice a' l.length cp=q at hv;cases hv with
     | nil e a2 cap2=>injection hq with q1;subst q1;exact .nil _ _ _
     | slice e b' off cap2 l vs g1 g2 g3 g4 g5=>injection hq with q1;subst q1;exact .slice e b' off _ l vs g1 g2 (zJF _) g4 g5
    cases hz:(decide (a=0)&&decide (b=0)&&decide (c=0)) with
    | true =>
     simp only [hz,cond_true] at h;simp only [zJB,decide_eq_true_eq] at hz;obtain ⟨⟨rfl,rfl⟩,rfl⟩:=hz;cases hlt:Nat.blt id H.length with
     | false=>simp [hlt] at h
     | true =>
      simp only [hlt,cond_true] at h;exact ⟨_,_,_,_,μ,zeL hT hd hu w (wH h1 ha) hbv (hm hc) rfl (zKl _) (zKl _) (by omega),T,S',.nils a',h⟩
    | false =>
     simp only [hz,cond_false] at h;cases hz2:(decide (a=0)&&decide (b=l.length)&&decide (c=l.length)) with
     | false=>simp [hz2] at h
     | true =>
      simp only [hz2,cond_true] at h;simp only [zJB,decide_eq_true_eq] at hz2;obtain ⟨⟨rfl,rfl⟩,rfl⟩:=hz2;cases hlt:Nat.blt id H.length with
      | false=>simp [hlt] at h
      | true =>
       simp only [hlt,cond_true] at h;refine ⟨_,_,_,_,μ,zeL hT hd hu w (wH h1 ha) hbv (hm hc) rfl (by omega) (zKl _) (by omega),T,S',?_,h⟩;simpa using z7.full e l a' hfull
   | _=>rw [hB] at h;simp [Dec.cps] at h
  .simp [Dec.cps] at h
end
end Go.Pe
namespace Go.Pe
variable {E:yw}
section
variable {P:Program}{tab:List (Nat×TI)}{A0:Nat->Prop}{μ:Nat->Loc}{H:List (Blk E)}{w:World}{R:Type}{K:zh E->List (Blk E)->Option R}{r:R}
structure ZC (w:World) (A:Nat->Prop) (e:Ty) (l:List (Den E.T e)) (cells:Array Value) (vs:Nat->Value):Prop where
 size:cells.size=l.length*e.size E
 at_:∀i,i<l.length->∀j u,(vs i).cells[j]? =some u->cells[i*e.size E+j]? =some u
 rep:∀i (h:i<l.length),yn E w A e (vs i) l[i]
def zfB (vs:Nat->Value) (n:Nat):List Value:=(List.range n).flatMap fun i=>(vs i).cells.toList
theorem zmP (vs:Nat->Value) (s:Nat):∀n,(∀i,i<n->(vs i).cells.size=s)->(zfB vs n).length=n*s
 | 0,_=>by simp [zfB]
 | n+1,h=>by
  have:=zmP vs s n (fun i hi=>h i (by omega));simp only [zfB,zKY,zKZ,zJN] at this ⊢;rw [this];simp [h n (by omega),zKe]
theorem znc (vs:Nat->Value) (s:Nat):∀n,(∀i,i<n->(vs i).cells.size=s)->∀i,i<n->∀j u,(vs i).cells[j]? =some u->(zfB vs n)[i*s+j]? =some u
 | 0,_,i,hi,_,_,_=>by omega
 | n+1,h,i,hi,j,u,hu=>by
  have hl:=zmP vs s n (fun i hi=>h i (by omega));have hj:j<s:=by
   rw [<-h i hi];rcases zKa j (vs i).cells.size with h' | h'
   .exact h'
   .rw [zLm h'] at hu;cases hu
  have e1:zfB vs (n+1)=zfB vs n++(vs n).cells.toList:=by simp [zfB,zKY]
  rw [e1];by_cases hin:i<n
  .have:(i+1)*s<=n*s:=zKC _ hin;rw [zKe] at this;rw [zJ4 (by omega)];exact znc vs s n (fun i hi=>h i (by omega)) i hin j u hu
  .have:i=n:=by omega
   subst this;rw [zJ9 (by omega),hl];simpa using hu
theorem zxa {A:Nat->Prop}{e:Ty}{l:List (Den E.T e)}{v:Value}(h:yn E w A (.slice e) v l):∃a c,v= .slice a l.length c:=by
 cases h with
 | nil e a c=>exact ⟨a,c,rfl⟩
 | slice e b off cap l vs hA hb hc hm hr=>exact ⟨_,cap,rfl⟩
theorem zcm {A:Nat->Prop}{e:Ty}{l:List (Den E.T e)}{v:Value}(h:yn E w A (.slice e) v l):∃cells vs,ZC w A e l cells vs /\
  ∀w':World,w'.heap=w.heap->(Builtin.firstCells (e.size E) l.length v).run P w'= .ok cells w':=by
 cases h with
 | nil e a cap =>
  refine ⟨#[],fun _=>undef,⟨by simp,fun i hi=>by simp at hi,fun i hi=>by simp at hi⟩,fun w' _=>?_⟩;cases a<;>simp [Builtin.firstCells,loadCells,loadCellsFrom]
 | slice e b off cap l vs hA hb hc hm hr =>
  have hs:∀i,i<l.length->(vs i).cells.size=e.size E:=fun i hi=>(hr i hi).size;have hlen:=zmP vs (e.size E) l.length hs;refine ⟨(zfB vs l.length).toArray,vs,⟨by simpa using hlen,fun i hi j u hu=>?_,hr⟩,fun w' hw=>?_⟩
  .simpa using znc vs (e.size E) l.length hs i hi j u hu
  .have:=run_loadCells_list (P:=P) w' ⟨b,off,none⟩ (zfB vs l.length) (fun j u hu=>by
    rw [Ub];have hj:j<l.length*e.size E:=by
     rw [<-hlen];exact (zJK.1 hu).1
    have hpos:0<e.size E:=by
     rcases Nat.eq_zero_or_pos (e.size E) with h0 | h0
     .rw [h0] at hj;simp at hj
     .exact h0
    have hi:j/e.size E<l.length:=(Nat.div_lt_iff_lt_mul hpos).2 hj;have hjm:j%e.size E<(vs (j/e.size E)).cells.size:=by rw [hs _ hi];exact Nat.mod_lt _ hpos
    have hu':=znc vs (e.size E) l.length hs _ hi (j%e.size E) _ (zKL hjm);have hdm:j/e.size E*e.size E+j%e.size E=j:=Nat.div_add_mod' j (e.size E);rw [hdm,hu] at hu';injection hu' with hu';subst hu';have:=hm _ hi (j%e.size E) _ (zKL hjm);rw [zKQ,hdm] at this;simpa [World.cell?,hw] using this)
   rw [hlen] at this;simpa [Builtin.firstCells] using this
theorem zuo (hT:yG E.leaves P tab=true) {t1 t2:Nat}{type:TypeId}{e e2:Nat}{u:TI}(hd:P.underlying t1=some (.slice e)) (hu:look tab e=some u)
  (hd2:P.underlying t2=some (.slice e2)) {base:Option Addr}{len cap n:Nat}{x:Value}{old new:Array Value}
  (hlen:(Builtin.lenOf x).run P w= .ok n w) (hold:∀w':World,w'.heap=w.heap->(Builtin.firstCells u.size len (.slice base len cap)).run P w'= .ok old w')
  (hnew:∀w':World,w'.heap=w.heap->(Builtin.firstCells u.size n x).run P w'= .ok new w') (hg:cap<len+n) (hb:len+n<4294967296) :
  ∃newCap,len+n<=newCap/\(Builtin.append_ #[t1,t2] type #[.slice base len cap,x]).run P w =
   .ok (.slice (some ⟨w.heap.size,0,none⟩) (len+n) newCap) (w.drew.alloc (.cells (old++new++Builtin.zeroCells (xj u).cells (newCap-(len+n))) e)):=by
 obtain ⟨f,hf,hf1,hf2,hf3⟩:=zg4 hT hu;have hbytes:=zpo hT hu;have hfit:Builtin.nextslicecap (len+n) cap*f.bytes<=281474976710656:=by
  refine growslice_fits hg ?_;rw [hf2];have:=zK0 (Nat.le_of_lt hb) hbytes;omega
 refine ⟨grownCap w (len+n) cap e,by simp only [grownCap,Question.cut];omega,?_⟩;have hn: ¬(len+n<=cap):=by omega
 have h63': ¬(9223372036854775807<((len:Int)+(n:Int))):=by omega
 have h48': ¬(281474976710656<Builtin.nextslicecap (len+n) cap*f.bytes):=by omega
 have h1:=hold w.drew rfl;have h2:=hnew w.drew rfl;rw [<-hf1] at h1 h2;simp [Builtin.append_,run_underlying hd,run_underlying hd2,sizeOf,typeInfo,zeroValue,hf,hf3,hlen,hn,h63',h48',Question.forced,h1,h2,newRow,grownCap]
theorem zsJ (hT:yG E.leaves P tab=true) {t1 t2:Nat}{type:TypeId}{e:Nat}{u:TI}{k2:IntKind}(hd:P.underlying t1=some (.slice e)) (hu:look tab e=some u)
  (hd2:P.underlying t2=some (.int k2)) {base:Option Addr}{len cap n:Nat}{old:Array Value}
  (hold:∀w':World,w'.heap=w.heap->(Builtin.firstCells u.size len (.slice base len cap)).run P w'= .ok old w') (hg:cap<len+n) (hb:len+n<4294967296) (hs:u.size≠0) (hz:n≠0) :
  ∃newCap,len+n<=newCap/\(Builtin.append_ #[t1,t2] type #[.slice base len cap,.int .i64 (n:Int)]).run P w =
   .ok (.slice (some ⟨w.heap.size,0,none⟩) (len+n) newCap) (w.drew.alloc (.cells (old++(Builtin.zeroCells (xj u).cells n)++Builtin.zeroCells (xj u).cells (newCap-(len+n))) e)):=by
 obtain ⟨f,hf,hf1,hf2,hf3⟩:=zg4 hT hu;have hbytes:=zpo hT hu;have hfit:Builtin.nextslicecap (len+n) cap*f.bytes<=281474976710656:=by
  refine growslice_fits hg ?_;rw [hf2];have:=zK0 (Nat.le_of_lt hb) hbytes;omega
 refine ⟨grownCap w (len+n) cap e,by simp only [grownCap,Question.cut];omega,?_⟩;have hn: ¬(len+n<=cap):=by omega
 have hw:IntKind.i64.wrap (n:Int)=n:=by
  have h1:(n:Int)%2 ^ 64=n:=by omega
  simp only [IntKind.wrap,IntKind.signed,IntKind.bits,h1];rw [zc (by simp;omega)]
 have h63': ¬(9223372036854775807<((len:Int)+(n:Int))):=by omega
 have h48': ¬(281474976710656<Builtin.nextslicecap (len+n) cap*f.bytes):=by omega
 have h48'': ¬((281474976710656:Int)<(n:Int)*f.bytes):=by
  rw [hf2];have h1:n*u.bytes<=4294967296*4096:=zK0 (by omega) hbytes;have:((n*u.bytes:Nat):Int)=(n:Int)*u.bytes:=by simp
  omega
 have hn0: ¬((n:Int)<0):=by omega
 have h1:=hold w.drew rfl;rw [<-hf1] at h1 hs;simp [Builtin.append_,run_underlying hd,run_underlying hd2,asInt,asIntOf,sizeOf,typeInfo,zeroValue,hf,hf3,hn,hw,h63',h48',h48'',hn0,Question.forced,h1,newRow,grownCap,hz,hs];intro h0;exact absurd h0 (Nat.mul_ne_zero hz hs)
theorem zqn {A:Nat->Prop}{z:Z}{t:Ty}(h:z.is t=true) {x:Den E.T t}(hx:vH (E:=E) t=some x):yn E w A t z.toV x:=by
 cases z<;>cases t<;>simp [Z.is] at h
 .simp [vH] at hx;subst hx;exact .bool false
 .rename_i k k';subst h;simp [vH] at hx;subst hx;have:=yn.int (E:=E) (w:=w) (A:=A) k (zbz k 0);cases k<;>exact this
 .simp [vH] at hx;subst hx;exact .str _
 .simp [vH] at hx;subst hx;exact .nil _ none 0
theorem zvk {A:Nat->Prop}:∀ {zs:List Z}{ts:List Ty}{x:HL E.T ts},zhM zs ts=true->zwn (E:=E) ts=some x ->
  ∀i (hi:i<ts.length),yn E w A ts[i] ((zs.map Z.toV).getD i undef) (HL.get ts x i hi)
 | [],[],_,_,_,i,hi=>by simp at hi
 | [],_::_,_,h,_,_,_=>by simp [zhM] at h
 | _::_,[],_,h,_,_,_=>by simp [zhM] at h
 | z::zs,t::ts,x,h,hx,i,hi=>by
  simp only [zhM,zJB] at h;simp only [zwn] at hx;split at hx
  .rename_i a b ha hb;injection hx with hx;subst hx;cases i with
   | zero=>simpa [HL.get] using zqn h.1 ha
   | succ i=>simpa [HL.get] using zvk h.2 hb i (Nat.lt_of_succ_lt_succ hi)
  .cases hx
theorem zyc {A:Nat->Prop}(hT:yG E.leaves P tab=true) {t:Nat}{u:TI}(hu:look tab t=some u) {e:Ty}(hty:u.ty=some e) {z:Den E.T e}(hz:zss (E:=E) e=some z):yn E w A e (xj u) z:=by
 have h1:=zhF hT hu;have leaf:∀ {e:Ty}{z:Den E.T e},u.agg=false->(match u.zero with | [z]=>z.is e | _=>false)=true->vH (E:=E) e=some z->yn E w A e (xj u) z:=by
  intro e z ha h hz;split at h
  .rename_i z' hz';have:xj u=z'.toV:=by simp [xj,ha,hz']
   rw [this];exact zqn h hz
  .cases h
 cases e with
 | named n =>
  simp only [tyB,hty,zJB] at h1;simp only [zss,zJR] at hz;obtain ⟨x,hx,rfl⟩:=hz;have:xj u= .agg (u.zero.map Z.toV).toArray:=by simp [xj,h1.1]
  rw [this];refine .named n _ _ (by simp [zrM h1.2]) (fun i hi=>?_);rw [E.up];have:=zvk (w:=w) (A:=A) h1.2 hx i hi;simpa [zJ5] using this
 | arr n e=>simp [zss,vH] at hz
 | slice e =>
  simp only [tyB,hty,zJB,zJU] at h1;refine leaf h1.1.1.1 ?_ hz;have h2:=h1.1.2;split at h2
  .rename_i hz';rw [hz'];rfl
  .cases h2
 | bool=>simp only [tyB,hty,zJB,zJU] at h1;exact leaf h1.1 h1.2 hz
 | int k=>simp only [tyB,hty,zJB,zJU] at h1;exact leaf h1.1 h1.2 hz
 | str=>simp only [tyB,hty,zJB,zJU] at h1;exact leaf h1.1 h1.2 hz
theorem zBI {A:Nat->Prop}(hT:yG E.leaves P tab=true) {t:Nat}{u:TI}(hu:look tab t=some u) {e:Ty}(hty:u.ty=some e) {z:Den E.T e}(hz:zss (E:=E) e=some z) (n:Nat) :
  ZC w A e (List.replicate n z) (Builtin.zeroCells (xj u).cells n) (fun _=>xj u):=by
 have hr:=zyc (w:=w) (A:=A) hT hu hty hz;have hs:=hr.size;refine ⟨by simp [Builtin.zeroCells,hs],fun i hi j v hv=>?_,fun i hi=>by simpa using hr⟩;have hj:j<(xj u).cells.size:=by
  rcases zKa j (xj u).cells.size with h' | h'
  .exact h'
  .rw [zLm h'] at hv;cases hv
 simp only [zKf] at hi;have hlt:i*e.size E+j<n*(xj u).cells.size:=by
  have:(i+1)*e.size E<=n*e.size E:=zKC _ hi;rw [zKe] at this;rw [hs] at hj ⊢;omega
 have hmod:(i*e.size E+j)%(xj u).cells.size=j:=by
  rw [hs] at hj ⊢;rw [Nat.mul_comm,Nat.mul_add_mod,Nat.mod_eq_of_lt hj]
 simp only [Builtin.zeroCells];rw [Array.getElem?_map,Array.getElem?_range,zb hlt];simp only [zKD,hmod];rw [<-hv,getElem!_pos _ j hj,zKL hj]
theorem zt9 (hT:yG E.leaves P tab=true) {t1 t2:Nat}{type:TypeId}{e e2:Nat}{u:TI}(hd:P.underlying t1=some (.slice e)) (hu:look tab e=some u) (hd2:P.underlying t2=some (.slice e2))
  {b off len cap n:Nat}{x:Value}{new cur:Array Value}{t:TypeId}(hlen:(Builtin.lenOf x).run P w= .ok n w) (hnew:(Builtin.firstCells u.size n x).run P w= .ok new w) (hg:len+n<=cap)
  (hh:w.heap[b]? =some (.cells cur t (0,0))) (hfit:off+len*u.size+new.size<=cur.size) (hone:∀v∈new.toList,v.oneCell'=true) :
  (Builtin.append_ #[t1,t2] type #[.slice (some ⟨b,off,none⟩) len cap,x]).run P w =
   .ok (.slice (some ⟨b,off,none⟩) (len+n) cap) (w.setRow b (cur.toList.take (off+len*u.size)++new.toList++cur.toList.drop (off+len*u.size+new.size)).toArray):=by
 have hst:=run_storeCells_at (P:=P) b (off+len*u.size) t new.toList 0 cur w hh (by simpa using hfit) hone;simp only [zKj] at hst;have hst':Sem.run P (storeCells ⟨b,off+len*u.size,none⟩ new.toList) w=_:=hst;simp [Builtin.append_,run_underlying hd,run_underlying hd2,yJ hT hu,hlen,hg,hnew,Ub,hst']
theorem ztb (hT:yG E.leaves P tab=true) {t1 t2:Nat}{type:TypeId}{e:Nat}{u:TI}{k2:IntKind}(hd:P.underlying t1=some (.slice e)) (hu:look tab e=some u) (hd2:P.underlying t2=some (.int k2))
  {b off len cap n:Nat}{cur:Array Value}{t:TypeId}(hg:len+n<=cap) (hn:n≠0) (hs:u.size≠0) (hb:n<4294967296)
  (hh:w.heap[b]? =some (.cells cur t (0,0))) (hfit:off+len*u.size+(Builtin.zeroCells (xj u).cells n).size<=cur.size) (hone:∀v∈(Builtin.zeroCells (xj u).cells n).toList,v.oneCell'=true) :
  (Builtin.append_ #[t1,t2] type #[.slice (some ⟨b,off,none⟩) len cap,.int .i64 (n:Int)]).run P w =
   .ok (.slice (some ⟨b,off,none⟩) (len+n) cap) (w.setRow b (cur.toList.take (off+len*u.size)++(Builtin.zeroCells (xj u).cells n).toList++cur.toList.drop (off+len*u.size+(Builtin.zeroCells (xj u).cells n).size)).toArray):=by
 obtain ⟨f,hf,hf1,hf2,hf3⟩:=zg4 hT hu;have hbytes:=zpo hT hu;have hst:=run_storeCells_at (P:=P) b (off+len*u.size) t (Builtin.zeroCells (xj u).cells n).toList 0 cur w hh (by simpa using hfit) hone;simp only [zKj] at hst;have hst':Sem.run P (storeCells ⟨b,off+len*u.size,none⟩ (Builtin.zeroCells (xj u).cells n).toList) w=_:=hst;have hw:IntKind.i64.wrap (n:Int)=n:=by
  have h1:(n:Int)%2 ^ 64=n:=by omega
  simp only [IntKind.wrap,IntKind.signed,IntKind.bits,h1];rw [zc (by simp;omega)]
 have h48'': ¬((281474976710656:Int)<(n:Int)*f.bytes):=by
  rw [hf2];have h1:n*u.bytes<=4294967296*4096:=zK0 (by omega) hbytes;have:((n*u.bytes:Nat):Int)=(n:Int)*u.bytes:=by simp
  omega
 have hn0: ¬((n:Int)<0):=by omega
 have hti:∀w',(typeInfo e).run P w'= .ok f w':=fun w'=>by simp [typeInfo,hf]
 simp [Builtin.append_,run_underlying hd,run_underlying hd2,asInt,asIntOf,yJ hT hu,hti,ZY hT hu,hw,h48'',hn0,hg,hn,hs,Ub,hst'];intro h0;exact absurd h0 (Nat.mul_ne_zero hn hs)
theorem ZC.mono {A A':Nat->Prop}{w w':World}{e:Ty}{l:List (Den E.T e)}{cells:Array Value}{vs:Nat->Value}(h:ZC w A e l cells vs) (k:∀ {v x},yn E w A e v x->yn E w' A' e v x):ZC w' A' e l cells vs :=
 ⟨h.size,h.at_,fun i hi=>k (h.rep i hi)⟩
theorem ZC.append {A:Nat->Prop}{e:Ty}{l l2:List (Den E.T e)}{c c2:Array Value}{vs vs2:Nat->Value}(h:ZC w A e l c vs) (h2:ZC w A e l2 c2 vs2) :
  ZC w A e (l++l2) (c++c2) (fun i=>if i<l.length then vs i else vs2 (i-l.length)):=by
 refine ⟨by simp [h.size,h2.size,zKe],fun i hi j u hu=>?_,fun i hi=>?_⟩
 .by_cases hl:i<l.length
  .simp only [hl,if_true] at hu;have:=h.at_ i hl j u hu;rw [Array.getElem?_append_left (zJ0.1 this).1];exact this
  .simp only [hl,if_false] at hu;have hi2:i-l.length<l2.length:=by simp at hi;omega
   have:=h2.at_ (i-l.length) hi2 j u hu;have e1:i*e.size E=l.length*e.size E+(i-l.length)*e.size E:=by rw [<-zKe];congr 1;omega
   rw [Array.getElem?_append_right (by rw [h.size];omega),h.size];rw [show i*e.size E+j-l.length*e.size E=(i-l.length)*e.size E+j by omega];exact this
 .by_cases hl:i<l.length
  .simp only [hl,if_true];rw [zLs hl];exact h.rep i hl
  .simp only [hl,if_false];have hi2:i-l.length<l2.length:=by simp at hi;omega
   rw [List.getElem_append_right (by omega)];exact h2.rep _ hi2
structure Apd (P:Program) (E:yw) (A0:Nat->Prop) (μ:Nat->Loc) (H:List (Blk E)) (w:World) (t1 t2 e:Nat) (u:TI) (type:TypeId) (τ:Ty) (l2:List (Den E.T τ)) (x:Value) (new:Array Value) (vs:Nat->Value):Prop where
 rows:ZC w (Av A0 μ H) τ l2 new vs
 one:∀v∈new.toList,v.oneCell'=true
 grows:∀ {base:Option Addr}{len cap:Nat}{old:Array Value},(∀w':World,w'.heap=w.heap->(Builtin.firstCells u.size len (.slice base len cap)).run P w'= .ok old w')->cap<len+l2.length->len+l2.length<4294967296 ->
  ∃newCap,len+l2.length<=newCap/\(Builtin.append_ #[t1,t2] type #[.slice base len cap,x]).run P w =
   .ok (.slice (some ⟨w.heap.size,0,none⟩) (len+l2.length) newCap) (w.drew.alloc (.cells (old++new++Builtin.zeroCells (xj u).cells (newCap-(len+l2.length))) e))
 fits:∀ {b off len cap:Nat}{cur:Array Value}{t:TypeId},len+l2.length<=cap->w.heap[b]? =some (.cells cur t (0,0))->off+len*u.size+new.size<=cur.size ->
  (Builtin.append_ #[t1,t2] type #[.slice (some ⟨b,off,none⟩) len cap,x]).run P w =
   .ok (.slice (some ⟨b,off,none⟩) (len+l2.length) cap) (w.setRow b (cur.toList.take (off+len*u.size)++new.toList++cur.toList.drop (off+len*u.size+new.size)).toArray)
 none_:∀ {base:Option Addr},l2.length=0->(Builtin.append_ #[t1,t2] type #[.slice base 0 0,x]).run P w= .ok (.slice base 0 0) w
theorem zqX {fresh:Nat}{e:Ty}{l:List (Den E.T e)}{cells rest:Array Value}{vs:Nat->Value}{t:TypeId}{newCap:Nat}(S:zT A0 μ H w) (F:ZU H fresh A0 w) (hr:ZC w (Av A0 μ H) e l cells vs) (hcap:l.length<=newCap)
  (hsz:(cells++rest).size=newCap*e.size E) {w1:World}(hw:w1.heap=w.heap) (q:yi w w1) :
  let loc:=Loc.blk w.heap.size 0 l.length newCap;let H':=H.set fresh (.row true e l);let w':=w1.alloc (.cells (cells++rest) t)
  zS A0 μ H w (XG μ fresh loc) H' w'/\zT A0 (XG μ fresh loc) H' w'/\Rp E A0 (XG μ fresh loc) H' w' (.own fresh) (.slice (some ⟨w.heap.size,0,none⟩) l.length newCap):=by
 intro loc H' w';have hb:∀b,b<w.heap.size->w'.heap[b]? =w.heap[b]? :=fun b hb=>by
  show (w1.heap.push _)[b]? =_;rw [hw,zK9,zi]
 have hq:yi w w':=⟨q.os,q.tape,q.output,by show _<=(w1.heap.push _).size;rw [hw];simp⟩
 have T:zS A0 μ H w (XG μ fresh loc) H' w':=zS.fresh fresh loc _ F.free F.lt hq hb (fun b o n c e=>by injection e with e;omega);refine ⟨T,S.fresh fresh loc _ F.free F.lt hq hb (fun b o n c e=>by injection e with e;subst e;exact ⟨zJF _,by show _<(w1.heap.push _).size;rw [hw];simp⟩) F.A0 ?_,?_⟩
 .refine .inl ⟨w.heap.size,0,newCap,cells++rest,vs,rfl,⟨t,(0,0),?_,fun _=>rfl⟩,hcap,by rw [hsz];omega,fun i hi j u hu=>?_,fun i hi=>T.repT (hr.rep i hi)⟩
  .show (w1.heap.push _)[w.heap.size]? =_;rw [hw];simp
  .have:=hr.at_ i hi j u hu;rw [Nat.zero_add,Array.getElem?_append_left (zJ0.1 this).1];exact this
 .exact .own fresh _ _ _ _ (by unfold Us;rw [yg _ _ _ F.lt];rfl) (vl _ _ _)
theorem zrb {α:Type}{l l':List α}(h:yq l=some l'):l'=l/\l.length<4294967296:=by
 rw [zuq] at h;cases hd:decide (l.length<4294967296) with
 | false=>simp [hd] at h
 | true=>simp only [hd,cond_true] at h;injection h with h;exact ⟨h.symm,by simpa using hd⟩
theorem zqz (hT:yG E.leaves P tab=true) {t1 t2 e:Nat}{u:TI}{type:TypeId}{τ:Ty}(hu:look tab e=some u) (hty:u.ty=some τ) (hs:u.size≠0) {fresh:Nat}{p:zh E}{v x:Value}{l2:List (Den E.T τ)}{new:Array Value}{vs2:Nat->Value}
  (S:zT A0 μ H w) (F:ZU H fresh A0 w) (hp:Rp E A0 μ H w p v) (D:Apd P E A0 μ H w t1 t2 e u type τ l2 x new vs2)
  (h:(zsw τ fresh p l2).cps H K=some r):zZ P A0 μ H w (Builtin.append_ #[t1,t2] type #[v,x]) K r:=by
 have hsz:=uk hT τ hu hty;have hzs:(xj u).cells.size=τ.size E:=by
  have h1:=zdr hT hu;have h2:=zoT hT hu;have:(xj u).cells.toList.length=u.zero.length:=by rw [h1];simp
  rw [hsz,<-h2];simpa using this
 have hrest:∀(k:Nat),(Builtin.zeroCells (xj u).cells k).size=k*τ.size E:=fun k=>by simp [Builtin.zeroCells,hzs]
 have grow:∀ {base:Option Addr}{len cap:Nat}{old:Array Value}{l:List (Den E.T τ)}{vs:Nat->Value}{H1:List (Blk E)},zS A0 μ H w μ H1 w->zT A0 μ H1 w->ZU H1 fresh A0 w->len=l.length->ZC w (Av A0 μ H1) τ l old vs ->
   (∀w':World,w'.heap=w.heap->(Builtin.firstCells u.size len (.slice base len cap)).run P w'= .ok old w')->cap<len+l2.length->(l++l2).length<4294967296->K (.own fresh) (H1.set fresh (.row true τ (l++l2)))=some r ->
   zZ P A0 μ H w (Builtin.append_ #[t1,t2] type #[.slice base len cap,x]) K r:=by
  intro base len cap old l vs H1 T1 S1 F1 hlen hrows hold hg hroom hk;subst hlen;rw [zJN] at hroom;obtain ⟨newCap,hcap,hrun⟩:=D.grows hold hg hroom;have hj:=hrows.append (D.rows.mono T1.repT);have el:(l++l2).length=l.length+l2.length:=zJN;rw [<-el] at hcap hrun;obtain ⟨T2,S2,hrep⟩:=zqX (t:=e) (newCap:=newCap) (rest:=Builtin.zeroCells (xj u).cells (newCap-(l++l2).length)) S1 F1 hj hcap (by
   rw [Array.size_append,hj.size,hrest,<-zKe];congr 1;omega) (w1:=w.drew) rfl (yi.drew w)
  exact ⟨_,_,_,_,_,hrun,T1.trans T2,S2,hrep,hk⟩
 unfold zsw at h;split at h
 .-- nothing
  simp only [Dec.cps] at h;cases hrm:yq l2 with
  | none=>simp [hrm] at h
  | some l' =>
   simp only [hrm,zJA] at h;obtain ⟨rfl,hlt⟩:=zrb hrm;cases hb:Nat.blt fresh H.length with
   | false=>simp [hb] at h
   | true =>
    simp only [hb,cond_true] at h;cases hp with
    | nils a =>
     by_cases hz:l'.length=0
     .have hnil:=zKp hz;have T:=zS.fresh (A0:=A0) (μ:=μ) (w':=w) fresh (.none a) (.row true τ l') F.free F.lt (yi.refl w) (fun _ _=>rfl) (fun b o n c h=>by cases h);refine ⟨_,_,_,w,_,D.none_ hz,T,S.fresh fresh (.none a) _ F.free F.lt (yi.refl w) (fun _ _=>rfl) (fun b o n c h=>by cases h) F.A0 (.inr ⟨hnil,a,rfl⟩),?_,h⟩;exact .own0 fresh a _ (by unfold Us;rw [yg _ _ _ F.lt];rfl) (vl _ _ _)
     .refine grow (l:=[]) (old:= #[]) (vs:=fun _=>undef) (zS.refl _ _ _ _) S F rfl ⟨by simp,fun i hi=>by simp at hi,fun i hi=>by simp at hi⟩ (fun w' _=>?_) (by simp;omega) (by simpa using hlt) (by simpa using h);cases a<;>simp [Builtin.firstCells,loadCells,loadCellsFrom]
 .-- a row of the call's own
  rename_i id;simp only [Dec.cps] at h;cases hB:zn H id with
  | row wr e' l =>
   rw [hB] at h;cases wr with
   | false=>simp [Dec.cps] at h
   | true =>
   simp only at h;split at h;rotate_left
   .simp [Dec.cps] at h
   rename_i l0 hcast;obtain ⟨he,rfl⟩:=xZ hcast;injection he with he;have he:=he.symm;subst he;simp only [Dec.cps] at h;cases hrm:yq (l++l2) with
   | none=>simp [hrm] at h
   | some l' =>
    simp only [hrm,zJA] at h;obtain ⟨rfl,hlt⟩:=zrb hrm;cases hb:Nat.blt id H.length with
    | false=>simp [hb] at h
    | true =>
    simp only [hb,cond_true] at h;cases hb2:Nat.blt fresh (H.set id .dead).length with
    | false=>simp only [hb2,cond_false] at h;cases h
    | true =>
    simp only [hb2,cond_true] at h;have hlive:yQ (zn H id)=true:=by rw [hB];rfl
    have hU:Us H id:=yo (yA hlive);have hne:id≠fresh:=fun e'=>by subst e';rw [F.free] at hB;cases hB
    have ok:=S.ok id;rw [hB] at ok;have T1:zS A0 μ H w μ (H.set id .dead) w:=zS.drop id .dead hU rfl rfl;have S1:zT A0 μ (H.set id .dead) w:=S.drop id .dead hU rfl rfl (fun h=>by cases h) (fun h=>by cases h) trivial;have F1:ZU (H.set id .dead) fresh A0 w:=F.trans T1 (by rw [z6 H _ hne];exact F.free);cases hp with
    | own id b off len cap hU' hμ =>
     rw [hμ] at ok;rcases ok with ⟨b',off',cap',c,vs,hl,hbox,g1,g2,g3,g4⟩ | ⟨_,a,hl⟩;rotate_left
     .cases hl
     injection hl with e1 e2 e3 e4;subst e1 e2 e3 e4;by_cases hroom:l.length+l2.length<=cap
     .-- there is yq
      obtain ⟨t',f,hh,hf⟩:=hbox;obtain rfl:=hf rfl;have hnew:new.size=l2.length*τ.size E:=D.rows.size;have hle:(l.length+l2.length)*τ.size E<=cap*τ.size E:=zKC _ hroom;rw [zKe] at hle;have hrun:=D.fits (off:=off) hroom hh (by rw [<-hsz,hnew];omega);rw [<-hsz] at hrun;generalize hc':(c.toList.take (off+l.length*τ.size E)++new.toList++c.toList.drop (off+l.length*τ.size E+new.size)).toArray=c' at hrun;have hmin:min (off+l.length*τ.size E) c.size=off+l.length*τ.size E:=by omega
      have hsz':c'.size=c.size:=by subst hc';simp;omega
      have hlow:∀k,k<off+l.length*τ.size E->c'[k]? =c[k]? :=fun k hk=>by
       subst hc';simp only [zLl,zJJ];rw [zJ4 (by simp;omega),zKJ,zb hk,zKk]
      have hhigh:∀k y,new[k]? =some y->c'[off+l.length*τ.size E+k]? =some y:=fun k y hk=>by
       subst hc';have hk':=(zJ0.1 hk).1;simp only [zLl,zJJ];rw [zJ9 (by simp;omega),zJ4 (by simp;omega)];simp only [zKK,zKB,hmin,Nat.add_sub_cancel_left,zKk];exact hk
      have hbk:∀k,k<w.heap.size->k≠b->(w.setRow b c').heap[k]? =w.heap[k]? :=fun k _ hk=>setRow_other _ _ _ _ hk;have T:=zS.move (A0:=A0) (w':=w.setRow b c') id fresh b off l.length cap off (l.length+l2.length) cap (.row true τ (l++l2)) hlive hμ F.free F.lt (yi.setRow w b c') hbk;refine ⟨_,_,_,_,_,hrun,T,S.move id fresh b off l.length cap off (l.length+l2.length) cap _ hlive hμ F.free F.lt (yi.setRow w b c') hbk ?_,?_,h⟩
      .refine .inl ⟨b,off,cap,c',fun i=>if i<l.length then vs i else vs2 (i-l.length),by simp,⟨t',(0,0),setRow_heap _ _ _ _ _ _ hh,fun _=>rfl⟩,by simpa using hroom,by rw [hsz'];exact g2,fun i hi j y hy=>?_,fun i hi=>?_⟩
       .by_cases hil:i<l.length
        .simp only [hil,if_true] at hy;have hj:j<τ.size E:=by
          rw [<-(g4 i hil).size];rcases zKa j (vs i).cells.size with h' | h'
          .exact h'
          .rw [zLm h'] at hy;cases hy
         have:(i+1)*τ.size E<=l.length*τ.size E:=zKC _ hil;rw [zKe] at this;rw [hlow _ (by omega)];exact g3 i hil j y hy
        .simp only [hil,if_false] at hy;have hi2:i-l.length<l2.length:=by simp at hi;omega
         have:=hhigh _ _ (D.rows.at_ (i-l.length) hi2 j y hy);have e1:i*τ.size E=l.length*τ.size E+(i-l.length)*τ.size E:=by rw [<-zKe];congr 1;omega
         rw [e1];simpa [zKQ] using this
       .by_cases hil:i<l.length
        .simp only [hil,if_true];rw [zLs hil];exact T.repT (g4 i hil)
        .simp only [hil,if_false];have hi2:i-l.length<l2.length:=by simp at hi;omega
         rw [List.getElem_append_right (by omega)];exact T.repT (D.rows.rep _ hi2)
      .exact .own fresh _ _ _ _ (by unfold Us;rw [yg _ _ _ (by simpa using F.lt)];rfl) (vl _ _ _)
     .-- it grows
      have hrep:yn E w (Av A0 μ (H.set id .dead)) (.slice τ) (.slice (some ⟨b,off,none⟩) l.length cap) l:=by
       have hnb: ¬Av A0 μ (H.set id .dead) b:=by
        rintro (h0 | ⟨j,o',n',c',hj,hj'⟩)
        .exact (S.out id b off _ cap (yU hlive) hμ).1 h0.1
        .by_cases ej:j=id
         .subst ej;rw [yg H j _ (xY hU)] at hj;cases hj
         .rw [z6 H _ (Ne.symm ej)] at hj;exact S.inj j id b o' n' c' b off _ cap ej hj (yA hlive) hj' hμ rfl
       have ok':xT w (Av A0 μ H) (Us H) μ (.blk b off l.length cap) (.row true τ l):= .inl ⟨b,off,cap,c,vs,rfl,hbox,g1,g2,g3,g4⟩;exact (zwM ok' (fun k hk=>hk.elim .inl (fun h'=>by
        obtain ⟨j,o',n',c',hj,hj'⟩:=h';by_cases ej:id=j
        .subst ej;rw [yg H id _ (xY hU)] at hj;cases hj
        .rw [z6 H _ ej] at hj;exact .inr ⟨j,o',n',c',hj,hj'⟩)) hnb).2
      obtain ⟨old,vs',hrows,hold⟩:=zcm (P:=P) hrep;rw [hsz] at hold;exact grow T1 S1 F1 rfl hrows hold (by omega) hlt h
    | own0 id a a2 hU' hμ =>
     rw [hμ] at ok;rcases ok with ⟨b',off',cap',c,vs,hl,_⟩ | ⟨rfl,_⟩
     .cases hl
     by_cases hz:l2.length=0
     .have hnil:=zKp hz;subst hnil;have T:=zS.fresh (A0:=A0) (μ:=μ) (H:=H.set id .dead) (w':=w) fresh (.none a) (.row true τ ([]++[])) F1.free F1.lt (yi.refl w) (fun _ _=>rfl) (fun b o n c h=>by cases h);refine ⟨_,_,_,w,_,D.none_ hz,T1.trans T,S1.fresh fresh (.none a) _ F1.free F1.lt (yi.refl w) (fun _ _=>rfl) (fun b o n c h=>by cases h) F1.A0 (.inr ⟨rfl,a,rfl⟩),?_,h⟩;exact .own0 fresh a _ (by unfold Us;rw [yg _ _ _ F1.lt];rfl) (vl _ _ _)
     .refine grow (l:=[]) (old:= #[]) (vs:=fun _=>undef) T1 S1 F1 rfl ⟨by simp,fun i hi=>by simp at hi,fun i hi=>by simp at hi⟩ (fun w' _=>?_) (by simp;omega) hlt h;cases a<;>simp [Builtin.firstCells,loadCells,loadCellsFrom]
  | _=>rw [hB] at h;simp [Dec.cps] at h
 .-- a slice that has no yq
  rename_i e' l;split at h;rotate_left
  .simp [Dec.cps] at h
  rename_i l0 hcast;obtain ⟨he,rfl⟩:=xZ hcast;injection he with he;have he:=he.symm;subst he;split at h
  .simp [Dec.cps] at h
  rename_i y ys;simp only [Dec.cps] at h;cases hrm:yq (l++y::ys) with
  | none=>simp [hrm] at h
  | some l' =>
   simp only [hrm,zJA] at h;obtain ⟨rfl,hlt⟩:=zrb hrm;cases hb:Nat.blt fresh H.length with
   | false=>simp [hb] at h
   | true =>
    simp only [hb,cond_true] at h;cases hp with
    | full e'' l a hv =>
     obtain ⟨old,vs',hrows,hold⟩:=zcm (P:=P) hv;rw [hsz] at hold;exact grow (zS.refl _ _ _ _) S F rfl hrows hold (by simp) hlt h
 .simp [Dec.cps] at h
theorem zzY (n:Nat) (i:Nat) (hi:i<(E.leaves n).length):((E.leaves n)[i]).leaf=true:=by
 have:=zJ3.1 (E.lf n) _ (zJY hi);unfold Ty.leaf;split<;>simp_all
theorem yn.one {A:Nat->Prop}{τ:Ty}{v:Value}{x:Den E.T τ}(h:yn E w A τ v x) (hn:∀n e,τ≠ .arr n e):∀u∈v.cells.toList,u.oneCell'=true:=by
 have leaf:∀ {τ:Ty}{v:Value}{x:Den E.T τ},yn E w A τ v x->τ.leaf=true->v.oneCell'=true:=fun h hl=>zl5 (.v _ _ _ h:z7 E w A (fun _=>False) (fun _=>.none none) _ _) hl;cases h with
 | named n cs x hs h =>
  intro u hu;obtain ⟨j,hj,rfl⟩:=zKX hu;have hj':j<(E.leaves n).length:=by rw [<-hs];simpa [Value.cells] using hj
  have:=leaf (h j hj') (zzY n j hj');simpa [Array.getD,hs,hj',Value.cells] using this
 | arr n e cs l vs h1 h2 h3 h4=>exact absurd rfl (hn n e)
 | bool b=>intro u hu;simp [Value.cells] at hu;subst hu;rfl
 | int k x=>intro u hu;simp [Value.cells] at hu;subst hu;rfl
 | str s=>intro u hu;simp [Value.cells] at hu;subst hu;rfl
 | nil e a c=>intro u hu;simp [Value.cells] at hu;subst hu;rfl
 | slice e b off cap l vs h1 h2 h3 h4 h5=>intro u hu;simp [Value.cells] at hu;subst hu;rfl
theorem ZC.one {A:Nat->Prop}{e:Ty}{l:List (Den E.T e)}{cells:Array Value}{vs:Nat->Value}(h:ZC w A e l cells vs) (hn:∀n e',e≠ .arr n e'):∀u∈cells.toList,u.oneCell'=true:=by
 intro u hu;obtain ⟨j,hj,rfl⟩:=zKX hu;have hj:j<l.length*e.size E:=by rw [<-h.size];simpa using hj
 have hpos:0<e.size E:=by
  rcases Nat.eq_zero_or_pos (e.size E) with h0 | h0
  .rw [h0] at hj;simp at hj
  .exact h0
 have hi:j/e.size E<l.length:=(Nat.div_lt_iff_lt_mul hpos).2 hj;have hs:=(h.rep _ hi).size;have hjm:j%e.size E<(vs (j/e.size E)).cells.size:=by rw [hs];exact Nat.mod_lt _ hpos
 have:=h.at_ _ hi (j%e.size E) _ (zKL hjm);rw [Nat.div_add_mod' j (e.size E)] at this;obtain ⟨h1,h2⟩:=zJ0.1 this;rw [Array.getElem_toList,h2];exact (h.rep _ hi).one hn _ (by simp)
theorem zFb (hT:yG E.leaves P tab=true) {t:Nat}{u:TI}(hu:look tab t=some u) (n:Nat):∀v∈(Builtin.zeroCells (xj u).cells n).toList,v.oneCell'=true:=by
 intro v hv;have hz:=zdr hT hu;simp only [Builtin.zeroCells,Array.toList_map,zJO] at hv;obtain ⟨j,hj,rfl⟩:=hv;have hj':j<n*(xj u).cells.size:=by simpa using hj
 have hpos:0<(xj u).cells.size:=by
  rcases Nat.eq_zero_or_pos (xj u).cells.size with h0 | h0
  .rw [h0] at hj';simp at hj'
  .exact h0
 have hlt:=Nat.mod_lt j hpos;rw [getElem!_pos (xj u).cells _ hlt];have hm:(xj u).cells[j%(xj u).cells.size]∈(xj u).cells.toList:=by simp
 rw [hz,zJO] at hm;obtain ⟨z,_,hz⟩:=hm;rw [<-hz];cases z<;>rfl
theorem zzf (hT:yG E.leaves P tab=true) {t1 t2:Nat}{i j:TI}{type:TypeId}{e:Ty}(hi:look tab t1=some i) (hj:look tab t2=some j) (hty:i.ty=some (.slice e)) (hsl:j.sl=true) {fresh:Nat}{p x:zh E}{v xv:Value}
  (S:zT A0 μ H w) (F:ZU H fresh A0 w) (hp:Rp E A0 μ H w p v) (hx:Rp E A0 μ H w x xv)
  (h:(zw8 e fresh p x).cps H K=some r):zZ P A0 μ H w (Builtin.append_ #[t1,t2] type #[v,xv]) K r:=by
 obtain ⟨u,hu,hut,hs0,hd,hna⟩:=za0 hT hi hty;have hd2:=zpU hT hj hsl;have hsz:=uk hT e hu hut;unfold zw8 at h;obtain ⟨l2,H0,T0,S0,hl2,hfr,h⟩:=zc5 S hx h;obtain ⟨a2,c2,rfl⟩:=zxa hl2;obtain ⟨new,vs2,hrows,hnew⟩:=zcm (P:=P) hl2;rw [hsz] at hnew;have F0:ZU H0 fresh A0 w:=F.trans T0 (hfr _ F.free);have hnone:∀ {base:Option Addr},l2.length=0->(Builtin.append_ #[t1,t2] type #[.slice base 0 0,.slice a2 l2.length c2]).run P w= .ok (.slice base 0 0) w:=by
  intro base h0;have hnil:=zKp h0;subst hnil;have hn0:=hnew w rfl;have hnew0:new= #[]:=by have:=hrows.size;simpa using this
  subst hnew0;simp only [zKt] at hn0;cases base<;>simp [Builtin.append_,run_underlying hd,run_underlying hd2,yJ hT hu,Builtin.lenOf,hn0,storeCells]
 have D:Apd P E A0 μ H0 w t1 t2 i.elem u type e l2 (.slice a2 l2.length c2) new vs2 :=
  {rows:=hrows,one:=hrows.one hna,
   grows:=fun hold hg hb=>zuo hT hd hu hd2 (by simp [Builtin.lenOf]) hold hnew hg hb,
   fits:=fun hg hh hfit=>zt9 hT hd hu hd2 (by simp [Builtin.lenOf]) (hnew w rfl) hg hh hfit (hrows.one hna),
   none_:=hnone}
 obtain ⟨p',H',v',w',μ',h1,h2,h3,h4,h5⟩:=zqz hT hu hut hs0 S0 F0 (T0.rep hp) D h;exact ⟨p',H',v',w',μ',h1,T0.trans h2,h3,h4,h5⟩
theorem zCt {n:Int}{k:Nat}(h:zix n=some k):0<k/\k<4294967296/\n=(k:Int):=by
 rw [zve] at h;cases hd:(decide (0<n)&&decide (n<4294967296)) with
 | false=>simp [hd] at h
 | true =>
  simp only [hd,cond_true] at h;simp only [zJB,decide_eq_true_eq] at hd;injection h with h;omega
theorem zw3 (hT:yG E.leaves P tab=true) {t1 t2:Nat}{i j:TI}{type:TypeId}{e:Ty}(hi:look tab t1=some i) (hj:look tab t2=some j) (hty:i.ty=some (.slice e)) (hj2:zbg j (.int .i64)=true) {fresh:Nat}{p x:zh E}{v xv:Value}
  (S:zT A0 μ H w) (F:ZU H fresh A0 w) (hp:Rp E A0 μ H w p v) (hx:Rp E A0 μ H w x xv)
  (h:(ztK e fresh p x).cps H K=some r):zZ P A0 μ H w (Builtin.append_ #[t1,t2] type #[v,xv]) K r:=by
 obtain ⟨u,hu,hut,hs0,hd,hna⟩:=za0 hT hi hty;have hd2:P.underlying t2=some (.int .i64):=by
  obtain ⟨d,g1,g2⟩:=Xs hT hj;have hj2:=Xu hj2;cases d<;>simp_all [uy]
 unfold ztK at h;split at h;rotate_left
 .simp [Dec.cps] at h
 rename_i z n hz;simp only [Dec.cps] at h;cases hc:zix n with
 | none=>simp [hc] at h
 | some k =>
  simp only [hc,zJA] at h;obtain ⟨hk0,hk1,rfl⟩:=zCt hc;cases hx with
  | v τ x xv hx =>
   have hxv:xv= .int .i64 (k:Int):=by cases hx;rfl
   subst hxv;have hrows:=zBI (w:=w) (A:=Av A0 μ H) hT hu hut hz k;have hone:=zFb hT hu k;have hlen:(List.replicate k z).length=k:=zKf;have D:Apd P E A0 μ H w t1 t2 i.elem u type e (List.replicate k z) (.int .i64 (k:Int)) _ _ :=
    {rows:=hrows,one:=hone,
     grows:=fun hold hg hb=>by rw [hlen] at hg hb ⊢;exact zsJ hT hd hu hd2 hold hg hb hs0 (by omega),
     fits:=fun hg hh hfit=>by rw [hlen] at hg ⊢;exact ztb hT hd hu hd2 hg (by omega) hs0 hk1 hh hfit hone,
     none_:=fun h0=>by rw [hlen] at h0;omega}
   split at h
   .simp [Dec.cps] at h
   .exact zqz hT hu hut hs0 S F hp D h
end
end Go.Pe
namespace Go.Pe
variable {E:yw}
section
variable {P:Program}{tab:List (Nat×TI)}{A0:Nat->Prop}{μ:Nat->Loc}{H:List (Blk E)}{w:World}{R:Type}{K:zh E->List (Blk E)->Option R}{r:R}
theorem zDR {n:Int}{k:Nat}(h:W4 n=some k):k<4294967296/\n=(k:Int):=by
 rw [znv] at h;cases hd:(decide (0<=n)&&decide (n<4294967296)) with
 | false=>simp [hd] at h
 | true =>
  simp only [hd,cond_true] at h;simp only [zJB,decide_eq_true_eq] at hd;injection h with h;omega
theorem zuh (hT:yG E.leaves P tab=true) {t:Nat}{i:TI}{e:Ty}(hi:look tab t=some i) (hty:i.ty=some (.slice e)) {fresh:Nat}{p c:zh E}{v cv:Value}
  (S:zT A0 μ H w) (F:ZU H fresh A0 w) (hp:Rp E A0 μ H w p v) (hc:Rp E A0 μ H w c cv) (h:(zpz e fresh p c).cps H K=some r):zZ P A0 μ H w (Instr.makeSlice t v cv) K r:=by
 obtain ⟨u,hu,hut,hs0,hd,hna⟩:=za0 hT hi hty;have hsz:=uk hT e hu hut;have hby:=zpo hT hu;obtain ⟨f,hf,hf1,hf2,hf3⟩:=zg4 hT hu;unfold zpz at h;split at h;rotate_left
 .simp [Dec.cps] at h
 rename_i n m;split at h;rotate_left
 .simp [Dec.cps] at h
 rename_i z hz;simp only [Dec.cps] at h;cases hnm:decide (n=m) with
 | false=>simp [hnm] at h
 | true =>
  simp only [hnm,cond_true] at h;have hnm:n=m:=by simpa using hnm
  subst hnm;cases hk:W4 n with
  | none=>simp [hk] at h
  | some k =>
   simp only [hk,zJA] at h;obtain ⟨hk1,rfl⟩:=zDR hk;cases hb:Nat.blt fresh H.length with
   | false=>simp [hb] at h
   | true =>
    simp only [hb,cond_true] at h;have hv:v= .int .i64 (k:Int):=by cases hp with | v _ _ _ hp=>cases hp;rfl
    have hcv:cv= .int .i64 (k:Int):=by cases hc with | v _ _ _ hc=>cases hc;rfl
    subst hv hcv;have hrows:=zBI (w:=w) (A:=Av A0 μ H) hT hu hut hz k;have hzs:(xj u).cells.size=u.size:=by rw [<-hsz];exact (zyc (w:=w) (A:=Av A0 μ H) hT hu hut hz).size
    obtain ⟨T,S',hrep⟩:=zqX (t:=i.elem) (newCap:=k) (rest:= #[]) S F hrows (by simp) (by simp [Builtin.zeroCells,hzs,hsz]) rfl (yi.refl w);refine ⟨_,_,_,_,_,?_,T,S',hrep,h⟩;have hw:IntKind.i64.wrap (k:Int)=k:=by
     have h1:(k:Int)%2 ^ 64=k:=by omega
     simp only [IntKind.wrap,IntKind.signed,IntKind.bits,h1];rw [zc (by simp;omega)]
    have h1: ¬((281474976710656:Int)<(f.bytes:Int)*k):=by
     rw [hf2];have h1:u.bytes*k<=4096*4294967296:=zK0 hby (by omega);have:((u.bytes*k:Nat):Int)=(u.bytes:Int)*k:=by simp
     omega
    have h2: ¬((k:Int)<0):=by omega
    by_cases h0:k=0
    .subst h0;have hw0:IntKind.i64.wrap 0=0:=by decide
     simp [Instr.makeSlice,run_underlying hd,asInt,asIntOf,typeInfo,hf,hw0,sizeOf,hf1,newRow,Builtin.zeroCells];have hr0:Array.range 0= #[]:=Array.eq_empty_of_size_eq_zero (by simp);rw [hr0];simp
    .simp [Instr.makeSlice,run_underlying hd,asInt,asIntOf,typeInfo,hf,hw,h1,h2,sizeOf,hf1,newRow,h0,hs0,ZY hT hu,Builtin.zeroCells,hzs];intro h';exact absurd h' (Nat.mul_ne_zero h0 hs0)
theorem zqZ (off:Nat):∀(xs:List Value) (m:Nat) (cells:Array Value),off+m+xs.length<=cells.size ->
  ((xs.zipIdx m).foldl (fun cs x=>cs.setIfInBounds (off+x.2) x.1) cells).toList=zaa cells.toList (off+m) xs
 | [],m,cells,h=>by simp [zaa]
 | x::xs,m,cells,h=>by
  simp only [List.zipIdx_cons,zKq];rw [zqZ off xs (m+1) (cells.setIfInBounds (off+m) x) (by simp at h ⊢;omega)];simp only [Array.toList_setIfInBounds,zaa,zJS];have hk:off+m<cells.toList.length:=by simp at h ⊢;omega
  have e1:(cells.toList.set (off+m) x).take (off+(m+1))=cells.toList.take (off+m)++[x]:=by
   rw [show off+(m+1)=off+m+1 by omega,List.take_succ_eq_append_getElem (by simpa using hk)];rw [List.take_set_of_le (by omega)];simp
  have e2:(cells.toList.set (off+m) x).drop (off+(m+1)+xs.length)=cells.toList.drop (off+m+(xs.length+1)):=by
   rw [List.drop_set_of_lt (by omega)];congr 1;omega
  rw [e1,e2];simp
theorem zpl {R:zh E->Value->Prop}{place:Nat->Option (Nat×Nat)}{place':Nat->Option (Nat×Nat)}(hpl:∀j x,place j=some x->place' j=some x) :
  ∀ {parts:List (Nat×zh E)}{partsV:List (Nat×Value)}{ps ps':List (zh E)}{cells:Array Value},parts.length=partsV.length ->
   (∀(j:Nat) p v,parts[j]? =some p->partsV[j]? =some v->p.1=v.1/\RL R (uZ p.2) v.2.cells.toList)->RL R ps cells.toList->zlD place ps parts=some ps' ->
   ∃cells',Instr.fill place' cells partsV=some cells'/\RL R ps' cells'.toList
 | [],[],ps,ps',cells,_,_,hr,h=>by simp [zlD] at h;subst h;exact ⟨cells,rfl,hr⟩
 | [],_::_,_,_,_,hl,_,_,_=>by simp at hl
 | _::_,[],_,_,_,hl,_,_,_=>by simp at hl
 | (j,x)::parts,(j',v)::partsV,ps,ps',cells,hl,hp,hr,h=>by
  obtain ⟨hj,hx⟩:=hp 0 _ _ rfl rfl;simp only at hj hx;subst hj;simp only [zlD] at h;split at h
  .rename_i off n hpj;split at h
   .rename_i hc;simp only [zJB] at hc;have hn:=zJH hc.1;have hfit:=zKd hc.2;have hvs:v.cells.size=n:=by have:=hx.1;rw [hn] at this;simpa using this.symm
    have hcs:ps.length=cells.size:=by have:=hr.1;simpa using this
    have hfold:(v.cells.zipIdx.foldl (fun cs (c,j)=>cs.setIfInBounds (off+j) c) cells).toList=zaa cells.toList off v.cells.toList:=by
     rw [<-Array.foldl_toList,Array.toList_zipIdx];have:=zqZ off v.cells.toList 0 cells (by simp [hvs];omega);simpa using this
    obtain ⟨cells',h1,h2⟩:=zpl hpl (parts:=parts) (partsV:=partsV) (by simpa using hl) (fun k p u hk hu=>hp (k+1) p u (by simpa using hk) (by simpa using hu))
     (cells:=v.cells.zipIdx.foldl (fun cs (c,j)=>cs.setIfInBounds (off+j) c) cells) (by
      rw [hfold];unfold zaa;rw [<-hx.1];exact ((hr.take off).append hx).append (hr.drop _)) h
    refine ⟨cells',?_,h2⟩;simp only [Instr.fill,hpl j _ hpj];rw [zc (by simp [hvs];omega)];exact h1
   .cases h
  .cases h
theorem RL.parts {ρ:Operand->zh E}{ρv:Operand->Value}{parts:List (Nat×Operand)}(h:∀x,Rp E A0 μ H w (ρ x) (ρv x)) (hl:(parts.map fun p=>(p.1,ρ p.2)).all (fun p=>(uZ p.2).all zh.leaf)=true) :
  ∀(j:Nat) p v,(parts.map fun p=>(p.1,ρ p.2))[j]? =some p->(parts.map fun p=>(p.1,ρv p.2))[j]? =some v->p.1=v.1/\RL (Rp E A0 μ H w) (uZ p.2) v.2.cells.toList:=by
 intro j p v hp hv;simp only [zJ8,zJR] at hp hv;obtain ⟨a,ha,rfl⟩:=hp;obtain ⟨a',ha',rfl⟩:=hv;rw [ha] at ha';injection ha' with ha';subst ha';refine ⟨rfl,z7.cells (h a.2) ?_⟩;exact zJ3.1 hl (a.1,ρ a.2) (zJO.2 ⟨a,zJG ha,rfl⟩)
theorem zuX (fs:List Field) (h:∀f∈fs,P.cellsOf f.type≠0) (w:World):(fs.mapM fun f=>(do pure (f.offset,<-sizeOf f.type):Sem (Nat×Nat))).run P w= .ok (fs.map fun f=>(f.offset,P.cellsOf f.type)) w:=by
 induction fs with
 | nil=>simp
 | cons f fs ih =>
  simp only [List.mapM_cons,Sem.run_bind,zkR (h f (by simp)),Result.andThen_ok,Sem.run_pure,ih (fun g hg=>h g (by simp [hg]))];rfl
theorem zAu (hT:yG E.leaves P tab=true) {t:Nat}{u:TI}(hu:look tab t=some u):P.cellsOf t=u.size:=by
 obtain ⟨f,h1,h2,_⟩:=zg4 hT hu;simp [Program.cellsOf,h1,h2]
theorem zA2 (hT:yG E.leaves P tab=true) {t:Nat}{i:TI}(hi:look tab t=some i) {ρ:Operand->zh E}{ρv:Operand->Value}{parts:List (Nat×Operand)}(S:zT A0 μ H w) (hρ:∀x,Rp E A0 μ H w (ρ x) (ρv x))
  (h:(zBB tab i (parts.map fun p=>(p.1,ρ p.2))).cps H K=some r):zZ P A0 μ H w (Instr.build t (parts.map fun p=>(p.1,ρv p.2)).toArray) K r:=by
 unfold zBB at h;simp only at h;split at h;rotate_left
 .simp [Dec.cps] at h
 rename_i hleaf;simp only [zJB] at hleaf;obtain ⟨hagg,hleaf⟩:=hleaf;split at h;rotate_left
 .simp [Dec.cps] at h
 rename_i cs hcs;simp only [Dec.cps] at h;have hz:=zdr hT hi;have hz':(xj i).cells=(i.zero.map Z.toV).toArray:=by rw [<-hz]
 have hrz:RL (Rp E A0 μ H w) (i.zero.map Z.toP) ((i.zero.map Z.toV).toArray).toList:=by simpa using zBp i.zero
 obtain ⟨d,hd,hdb⟩:=Xs hT hi;cases d with
 | struct fs =>
  have hdb':=hdb;simp only [uy,zJB,decide_eq_true_eq] at hdb';obtain ⟨⟨⟨⟨_,h3⟩,h4⟩,h5⟩,_⟩:=hdb';have h4':∀f∈fs.toList,P.cellsOf f.type≠0:=fun f hf e=>by
   have:=zJ3.1 h4 f hf;simp [e] at this
  have h5:i.alen=0:=by simpa using h5
  obtain ⟨cells',hf,hr⟩:=zpl (place':=fun j=>(fs.map fun f=>(f.offset,P.cellsOf f.type))[j]?) (fun j x hx=>by
   cases hj:i.fields[j]? with
   | none=>simp [hj,h5] at hx
   | some ft =>
    obtain ⟨off,t'⟩:=ft;simp only [hj,zJR] at hx;obtain ⟨u,hu,rfl⟩:=hx;rw [h3,zJ8,zJR] at hj;obtain ⟨f,hf,he⟩:=hj;simp only [Prod.mk.injEq] at he;obtain ⟨rfl,rfl⟩:=he;rw [Array.getElem?_map];rw [zKk] at hf;simp [hf,zAu hT hu]) (by simp) (RL.parts hρ hleaf) hrz hcs
  refine zZ.same S (v:= .agg cells') ?_ (by simpa using z7.aggL hr) h;have hm:=zuX (P:=P) fs.toList h4' w;simp only [Instr.build,Sem.run_bind,ZY hT hi,Result.andThen_ok,run_underlying hd,hz'];rw [Array.mapM_eq_mapM_toList];simp only [Sem.run_map,hm,Result.andThen_ok];have e:(List.map (fun f:Field=>(f.offset,P.cellsOf f.type)) fs.toList).toArray=fs.map fun f=>(f.offset,P.cellsOf f.type):=by
   apply Array.ext';simp
  rw [e,hf];rfl
 | array n e =>
  have hdb':=hdb;simp only [uy,zJB] at hdb';obtain ⟨⟨⟨⟨⟨_,h3⟩,h4⟩,h5⟩,h6⟩,_⟩:=hdb';have h3:=zJH h3;have h4:=zJH h4;subst h3 h4;have h5:i.fields=[]:=by simpa using h5
  cases hu:look tab i.elem with
  | none=>simp [hu] at h6
  | some u =>
   obtain ⟨cells',hf,hr⟩:=zpl (place':=fun j=>some (j*u.size,u.size)) (fun j x hx=>by
    simp only [h5,hu] at hx;simp at hx;obtain ⟨_,rfl⟩:=hx;rfl) (by simp) (RL.parts hρ hleaf) hrz hcs
   refine zZ.same S (v:= .agg cells') ?_ (by simpa using z7.aggL hr) h;simp only [Instr.build,Sem.run_bind,ZY hT hi,Result.andThen_ok,run_underlying hd,yJ hT hu,hz'];rw [hf];rfl
 | _ =>
  exfalso;have ha:i.agg=false:=by simp only [uy,zJB,zJU] at hdb;first | exact hdb.1 | exact hdb.1.1 | exact hdb.1.1.1 | exact hdb.1.1.1.1 | cases hdb
  rw [ha] at hagg;cases hagg
end
end Go.Pe
namespace Go.Pe
variable {E:yw}
section
variable {P:Program}{tab:List (Nat×TI)}{A0:Nat->Prop}{μ:Nat->Loc}{H:List (Blk E)}{w:World}{R:Type}{K:zh E->List (Blk E)->Option R}{r:R}
theorem zqk {p:zh E}{v:Value}{cs:List (zh E)}(hp:Rp E A0 μ H w p v) (h:zro p=some cs):∃vs,v= .agg vs/\RL (Rp E A0 μ H w) cs vs.toList:=by
 cases hp with
 | agg ps vs hs hr=>simp [zro] at h;subst h;exact ⟨vs,rfl,RL.of_idx hs hr⟩
 | v τ x v hv =>
  cases hv with
  | named n vs x hs hr =>
   simp [zro] at h;subst h;refine ⟨vs,rfl,?_⟩;have:=z7.cells (U:=Us H) (μ:=μ) (z7.v (E:=E) (w:=w) (A:=Av A0 μ H) (.named n) x (.agg vs) (.named n vs x hs hr)) (by
    refine zJ3.2 fun p hp=>?_;obtain ⟨j,hj,rfl⟩:=zKX hp;have hlen:=HL.toP_len (E:=E) (E.leaves n) (E.unpack n x);have hj':j<(E.leaves n).length:=by rw [<-hlen];exact hj
    have:=HL.toP_get (E.leaves n) (E.unpack n x) j hj';obtain ⟨_,e⟩:=zJK.1 this;simp only [uZ] at hj ⊢;rw [e];exact zzY n j hj')
   exact this
  | _=>simp [zro] at h
 | _=>simp [zro] at h
theorem zAs (hT:yG E.leaves P tab=true) {t:Nat}{s:TI}(hs:look tab t=some s) {p:zh E}{v:Value}{f:Nat}(S:zT A0 μ H w) (hp:Rp E A0 μ H w p v)
  (h:(zBw tab s p f).cps H K=some r):zZ P A0 μ H w (Instr.field t v f) K r:=by
 unfold zBw at h;split at h;rotate_left
 .simp [Dec.cps] at h
 rename_i off t' hf;split at h;rotate_left
 .simp [Dec.cps] at h
 rename_i i hi;split at h;rotate_left
 .simp [Dec.cps] at h
 rename_i cs hcs;obtain ⟨fs,fld,h1,h2,h3,h4,h5⟩:=zBc hT hs hf;subst h3 h4;obtain ⟨vs,rfl,hr⟩:=zqk hp hcs;obtain ⟨hl,q,hq,hk⟩:=zj1 h (zfL hr fld.offset i.size);refine zZ.same S ?_ hq hk;have hsub:Pe.sub vs.toList fld.offset i.size=(vs.extract fld.offset (fld.offset+i.size)).toList:=by
  simp [Pe.sub,List.extract_eq_take_drop]
 simp only [Instr.field,Sem.run_bind,run_underlying h1,Result.andThen_ok,h2,asAgg,Sem.run_pure,part,ze9 hT hi,yJ hT hi];cases ha:i.agg with
 | true =>
  have hsub':vs.extract fld.offset (fld.offset+i.size)=(Pe.sub vs.toList fld.offset i.size).toArray:=by rw [hsub]
  simp only [if_true,Sem.run_bind,yJ hT hi,Result.andThen_ok,Sem.run_pure,hsub']
 | false =>
  have h1:=zeJ hT hi ha;rw [h1] at hl;simp only [zKb,if_false];have hlt:fld.offset<vs.size:=by
   simp only [Pe.sub,h1,zKK,zKR,zKB] at hl;omega
  have e:(Pe.sub vs.toList fld.offset i.size).headD undef=vs[fld.offset]:=by
   simp only [Pe.sub,h1];rw [zKg (by simpa using hlt)];simp
  rw [e,zKL hlt];rfl
theorem zD5 (hT:yG E.leaves P tab=true) {t:Nat}{i:TI}(hi:look tab t=some i) {type:TypeId}{at_:Array TypeId}{av:Array Value}(hat:at_[0]? =some t) {p:zh E}{v:Value}(hav:av[0]? =some v) (S:zT A0 μ H w) (hp:Rp E A0 μ H w p v)
  (h:(zHd i p).cps H K=some r):zZ P A0 μ H w (Builtin.len_ at_ type av) K r:=by
 have fin:∀ {n:Nat}{base:Option Addr}{cap:Nat},P.underlying t=some (.slice i.elem)->v= .slice base n cap->K (.v (.int .i64) (n:Int)) H=some r->zZ P A0 μ H w (Builtin.len_ at_ type av) K r:=by
  intro n base cap hd hv hk;subst hv;refine zZ.same S (v:= .int .i64 n) ?_ (.v _ _ _ (.int .i64 _)) hk;simp [Builtin.len_,hat,hav,run_underlying hd,goInt]
 unfold zHd at h;split at h
 .rename_i hsl;have hd:=zpU hT hi hsl;split at h
  .cases hp with
   | v τ x v hv=>obtain ⟨a,c,rfl⟩:=zxa hv;exact fin hd rfl h
  .cases hp with
   | full e l a hv=>exact fin hd rfl h
  .cases hp with
   | nils a=>exact fin (n:=0) hd rfl h
  .cases hp with
   | bsl id n b hU hμ=>exact fin hd rfl h
  .rename_i id;simp only [Dec.cps] at h;have ok:=S.ok id;cases hB:zn H id with
   | row wr e l =>
    rw [hB] at h ok;cases hp with
    | own id b off len cap hU hμ =>
     rw [hμ] at ok;rcases ok with ⟨b',off',cap',c,vs,hl,_⟩ | ⟨_,a,hl⟩
     .injection hl with e1 e2 e3 e4;subst e1 e2 e3 e4;exact fin hd rfl h
     .cases hl
    | own0 id a a2 hU hμ =>
     rw [hμ] at ok;rcases ok with ⟨b',off',cap',c,vs,hl,_⟩ | ⟨rfl,_⟩
     .cases hl
     .exact fin (n:=0) hd rfl h
   | _=>rw [hB] at h;simp [Dec.cps] at h
  .simp [Dec.cps] at h
 .split at h;rotate_left
  .simp [Dec.cps] at h
  rename_i hty;have hd:P.underlying t=some .string:=by
   obtain ⟨d,g1,g2⟩:=Xs hT hi;have hty:=Xu hty;cases d<;>simp_all [uy]
  split at h;rotate_left
  .simp [Dec.cps] at h
  cases hp with
  | v τ x v hv =>
   cases hv with
   | str s' =>
    refine zZ.same S (v:= .int .i64 _) ?_ (.v _ _ _ (.int .i64 _)) h;simp [Builtin.len_,hat,hav,run_underlying hd,goInt]
end
end Go.Pe
namespace Go.Pe
variable {E:yw}
theorem wrap_i64 (n:Int):IntKind.i64.wrap n=w64 n:=by rw [IntKind.wrap_i64,zsA]
theorem wrap_i32 (n:Int):IntKind.i32.wrap n=w32 n:=by rw [IntKind.wrap_i32,zH8]
theorem wrap_u64 (n:Int):IntKind.u64.wrap n=((BitVec.ofInt 64 n).toNat:Int):=by
 rw [IntKind.wrap_u64,zKu];omega
theorem wrap_u8 (n:Int):IntKind.u8.wrap n=((BitVec.ofInt 8 n).toNat:Int):=by
 rw [IntKind.wrap_u8,zKu];omega
theorem Vy (b:BitVec 64):BitVec.ofInt 64 (b.toNat:Int)=b:=by
 apply zKS;rw [zKu];have:=b.isLt;omega
theorem zay (b:BitVec 64):IntKind.u64.wrap (b.toNat:Int)=(b.toNat:Int):=by rw [wrap_u64,Vy]
section
variable {P:Program}{w:World}
theorem zHM {k:IntKind}{a b:zV k}:(toZ k a=toZ k b)↔a=b:=by
 cases k<;>simp only [toZ]<;>first | rfl | (constructor<;>intro h<;>first | (subst h;rfl) | (apply zKS;omega))
theorem zAZ {k:IntKind}(a b:zV k):ieq k a b=decide (toZ k a=toZ k b):=by
 cases k<;>simp only [ieq,decide_eq_decide]<;>exact zHM.symm
theorem zye {k:IntKind}{b:zV k}(h:zoX k b=false):toZ k b≠0:=by
 intro e;rw [zoX,zAZ,decide_eq_false_iff_not] at h;exact h (e.trans (by cases k<;>rfl))
theorem zG1 {k:IntKind}{a b c:zV k}(h:zGv k a b=some c):(Op.intArith .add k (toZ k a) (toZ k b)).run P w= .ok (.int k (toZ k c)) w:=by
 cases k<;>simp [zGv] at h<;>subst h<;>simp [Op.intArith,toZ]
 .exact wrap_i32 _
 .exact wrap_i64 _
 .rw [IntKind.wrap_u8]
 .rw [IntKind.wrap_u64]
theorem zGX {k:IntKind}{a b c:zV k}(h:zGD k a b=some c):(Op.intArith .sub k (toZ k a) (toZ k b)).run P w= .ok (.int k (toZ k c)) w:=by
 cases k<;>simp [zGD] at h<;>subst h<;>simp [Op.intArith,toZ]
 .exact wrap_i32 _
 .exact wrap_i64 _
 .rw [IntKind.wrap_u64];have:=b.isLt;omega
theorem zGg {k:IntKind}{a b c:zV k}(h:zGU k a b=some c):(Op.intArith .mul k (toZ k a) (toZ k b)).run P w= .ok (.int k (toZ k c)) w:=by
 cases k<;>simp [zGU] at h<;>subst h<;>simp [Op.intArith,toZ]
 .exact wrap_i64 _
 .rw [IntKind.wrap_u64]
theorem zCl (b:BitVec 8):IntKind.u8.wrap (b.toNat:Int)=(b.toNat:Int):=by rw [IntKind.wrap_u8];have:=b.isLt;omega
theorem zjX (b:BitVec 64):IntKind.i64.wrap (b.toNat:Int)=b.toInt:=by
 rw [IntKind.wrap_i64,BitVec.toInt];have:=b.isLt;split<;>omega
theorem zG2 {k:IntKind}{a b c:zV k}(hz:zoX k b=false) (h:zxr k a b=some c):(Op.intDiv .quo k (toZ k a) (toZ k b)).run P w= .ok (.int k (toZ k c)) w:=by
 have hz:=zye hz;cases k with
 | i64 =>
  simp [zxr] at h;subst h;simp only [Op.intDiv,zc hz,Sem.run_pure];congr 2;exact wrap_i64 _
 | u64 =>
  simp [zxr] at h;subst h;simp only [Op.intDiv,zc hz,Sem.run_pure];congr 2;rw [show Int.tdiv (toZ .u64 a) (toZ .u64 b)=(((a/b:BitVec 64).toNat:Nat):Int) by simp [toZ,Int.ofNat_tdiv]];exact zay _
 | u8 =>
  simp [zxr] at h;subst h;simp only [Op.intDiv,zc hz,Sem.run_pure];congr 2;rw [show Int.tdiv (toZ .u8 a) (toZ .u8 b)=(((a/b:BitVec 8).toNat:Nat):Int) by simp [toZ,Int.ofNat_tdiv]];exact zCl _
 | _=>simp [zxr] at h
theorem zGc {k:IntKind}{a b c:zV k}(hz:zoX k b=false) (h:zGK k a b=some c):(Op.intDiv .rem k (toZ k a) (toZ k b)).run P w= .ok (.int k (toZ k c)) w:=by
 have hz:=zye hz;cases k<;>simp [zGK] at h<;>subst h<;>simp only [Op.intDiv,zc hz,Sem.run_pure]<;>congr 2
theorem zGb {k:IntKind}{a b c:zV k}(h:zGW k a b=some c):(Op.intBits .and k (toZ k a) (toZ k b)).run P w= .ok (.int k (toZ k c)) w:=by
 cases k<;>simp [zGW] at h<;>subst h
 .simp only [Op.intBits,Sem.run_pure,toZ,IntKind.bits,zjX,zAw];rfl
 .simp only [Op.intBits,Sem.run_pure,toZ,IntKind.bits,Vy,zay];rfl
theorem zIf {k:IntKind}{a b c:zV k}(h:ior k a b=some c):(Op.intBits .or k (toZ k a) (toZ k b)).run P w= .ok (.int k (toZ k c)) w:=by
 cases k<;>simp [ior] at h<;>subst h
 .simp only [Op.intBits,Sem.run_pure,toZ,IntKind.bits,zjX,zH6];rfl
 .simp only [Op.intBits,Sem.run_pure,toZ,IntKind.bits,Vy,zay];rfl
theorem zGR {k:IntKind}{a b c:zV k}(h:zGf k a b=some c):(Op.intBits .xor k (toZ k a) (toZ k b)).run P w= .ok (.int k (toZ k c)) w:=by
 cases k<;>simp [zGf] at h<;>subst h
 .simp only [Op.intBits,Sem.run_pure,toZ,IntKind.bits,zjX,zGY];rfl
 .simp only [Op.intBits,Sem.run_pure,toZ,IntKind.bits,Vy,zay];rfl
theorem zB2 {k:IntKind}{a b c:zV k}(h:zxS k a b=some c):(Op.intBits .andNot k (toZ k a) (toZ k b)).run P w= .ok (.int k (toZ k c)) w:=by
 cases k<;>simp [zxS] at h<;>subst h
 .simp only [Op.intBits,Sem.run_pure,toZ,IntKind.bits,zjX,zCj];rfl
 .simp only [Op.intBits,Sem.run_pure,toZ,IntKind.bits,Vy,zay];rfl
theorem zG9 {k yk:IntKind}{a c:zV k}{n:Int}(hn:0<=n) (h:zBm k a (min n.toNat k.bits)=some c):(Op.shift .shl k (toZ k a) yk n).run P w= .ok (.int k (toZ k c)) w:=by
 cases k<;>simp [zBm] at h;subst h;rw [shift_shl_any _ _ _ _ hn];simp only [Sem.run_pure,toZ];congr 2;rw [IntKind.wrap_u64,BitVec.toNat_shiftLeft,Nat.shiftLeft_eq];rw [Int.natCast_emod,Int.natCast_mul,Int.natCast_pow];rfl
theorem zGP {k yk:IntKind}{a c:zV k}{n:Int}(hn:0<=n) (h:zAH k a (min n.toNat k.bits)=some c):(Op.shift .shr k (toZ k a) yk n).run P w= .ok (.int k (toZ k c)) w:=by
 cases k<;>simp [zAH] at h;subst h;rw [shift_shr_any _ _ _ _ hn];simp only [Sem.run_pure,toZ];congr 2;rw [BitVec.toNat_ushiftRight,Nat.shiftRight_eq_div_pow];rw [Int.natCast_ediv,Int.natCast_pow];rfl
theorem zFZ {k:IntKind}(a b:zV k):ilt k a b=decide (toZ k a<toZ k b):=by
 cases k<;>simp only [ilt,decide_eq_decide,toZ]<;>first | rfl | (rw [BitVec.lt_def];omega)
theorem zE0 {k:IntKind}(a b:zV k):ile k a b=decide (toZ k a<=toZ k b):=by
 cases k<;>simp only [ile,decide_eq_decide,toZ]<;>first | rfl | (rw [BitVec.le_def];omega)
theorem zHo {k:IntKind}(a b:zV k):(Op.intCmp .lss (toZ k a) (toZ k b)).run P w= .ok (.bool (ilt k a b)) w:=by simp [Op.intCmp,zFZ]
theorem zHw {k:IntKind}(a b:zV k):(Op.intCmp .leq (toZ k a) (toZ k b)).run P w= .ok (.bool (ile k a b)) w:=by simp [Op.intCmp,zE0]
theorem zHq {k:IntKind}(a b:zV k):(Op.intCmp .gtr (toZ k a) (toZ k b)).run P w= .ok (.bool (ilt k b a)) w:=by simp [Op.intCmp,zFZ]
theorem zHI {k:IntKind}(a b:zV k):(Op.intCmp .geq (toZ k a) (toZ k b)).run P w= .ok (.bool (ile k b a)) w:=by simp [Op.intCmp,zE0]
theorem zGx {k k':IntKind}{x:zV k}{y:zV k'}(h:zD6 k k' x=some y):k'.wrap (toZ k x)=toZ k' y:=by
 have hb8:∀x:BitVec 8,x.toNat<256:=fun x=>x.isLt;have hb64:∀x:BitVec 64,x.toNat<18446744073709551616:=fun x=>x.isLt;have e1:∀x:BitVec 8,IntKind.i64.wrap (x.toNat:Int)=(x.toNat:Int):=fun x=>by rw [IntKind.wrap_i64];have:=hb8 x;omega
 have e2:∀x:BitVec 8,IntKind.i32.wrap (x.toNat:Int)=(x.toNat:Int):=fun x=>by rw [IntKind.wrap_i32];have:=hb8 x;omega
 have e3:∀x:BitVec 8,IntKind.u8.wrap (x.toNat:Int)=(x.toNat:Int):=fun x=>by rw [IntKind.wrap_u8];have:=hb8 x;omega
 have e4:∀x:BitVec 8,IntKind.u64.wrap (x.toNat:Int)=((x.setWidth 64).toNat:Int):=fun x=>by
  rw [IntKind.wrap_u64,BitVec.toNat_setWidth];have:=hb8 x;omega
 have e5:∀x:BitVec 64,IntKind.i64.wrap (x.toNat:Int)=x.toInt:=fun x=>by
  rw [IntKind.wrap_i64,zLb];have:=hb64 x;split<;>omega
 cases k<;>cases k'<;>simp only [zD6,Option.some.injEq,reduceCtorEq] at h
 all_goals subst h
 .exact wrap_i32 _
 .exact wrap_i64 _
 .exact wrap_i32 _
 .exact wrap_i64 _
 .exact wrap_u8 _
 .exact wrap_u64 _
 .exact e2 _
 .exact e1 _
 .exact e3 _
 .exact e4 _
 .exact e5 _
 .exact zay _
end
end Go.Pe
namespace Go.Pe
variable {E:yw}
section
variable {P:Program}{tab:List (Nat×TI)}{A0:Nat->Prop}{μ:Nat->Loc}{H:List (Blk E)}{w:World}{R:Type}{K:zh E->List (Blk E)->Option R}{r:R}
def zoj (i:TI) (vs:List Value):Value:=if i.agg then .agg vs.toArray else vs.headD undef
theorem zpk (hT:yG E.leaves P tab=true) {t:Nat}{i:TI}(hi:look tab t=some i) (vs:List Value) (off:Nat) (hl:i.agg=false->sub vs off i.size≠[]) :
  (part t vs.toArray off).run P w= .ok (zoj i (sub vs off i.size)) w:=by
 simp only [part,Sem.run_bind,ze9 hT hi,Result.andThen_ok];cases ha:i.agg with
 | true =>
  simp only [if_true,Sem.run_bind,yJ hT hi,Result.andThen_ok,Sem.run_pure,zoj,ha];congr 2;simp [sub,List.extract_eq_take_drop]
 | false =>
  have h1:=zeJ hT hi ha;have hl:=hl ha;simp only [zKb,if_false,zoj,ha];have hlt:off<vs.length:=by
   by_cases h:off<vs.length
   .exact h
   .exact absurd (by simp [sub,zLa (by omega:vs.length<=off)]) hl
  have e:(sub vs off i.size).headD undef=vs[off]:=by
   simp only [sub,h1];rw [zKg hlt];rfl
  rw [e];simp [hlt]
theorem zyh {a:Option Bool}{l:List (Option Bool)}{b:Bool}(h:zjp (a::l)=some b):∃x y,a=some x/\zjp l=some y/\b=(x&&y):=by
 cases l with
 | nil =>
  simp only [zjp] at h;exact ⟨b,true,h,rfl,by simp⟩
 | cons c l =>
  simp only [zjp] at h;split at h
  .rename_i x y h2;exact ⟨x,y,rfl,h2,by simpa using h.symm⟩
  .cases h
theorem zAh (d:Nat) (xs ys:Array Value) (g:Nat×Nat->Option Bool):∀(fs:List Field) (b:Bool),(∀f∈fs,f.name ≠ "_") ->
  (∀f∈fs,∀c,g (f.offset,f.type)=some c->∃x y,(part f.type xs f.offset).run P w= .ok x w/\(part f.type ys f.offset).run P w= .ok y w/\(Op.equalIn d f.type x y).run P w= .ok c w) ->
  zjp ((fs.map fun f=>(f.offset,f.type)).map g)=some b->(Op.eqFields d xs ys fs).run P w= .ok b w:=by
 intro fs
 induction fs with
 | nil=>intro b _ _ h;simp [zjp] at h;subst h;simp [Op.eqFields]
 | cons f fs ih =>
  intro b hn hg h;obtain ⟨x,y,h1,h2,rfl⟩:=zyh (by simpa using h);obtain ⟨u,v,e1,e2,e3⟩:=hg f (by simp) x h1;simp only [Op.eqFields,zb (hn f (by simp)),Sem.run_bind,e1,e2,e3,Result.andThen_ok];cases x with
  | true =>
   simp only [zJQ,zKb,if_false,zKz];exact ih y (fun f hf=>hn f (by simp [hf])) (fun f hf=>hg f (by simp [hf])) (by simpa using h2)
  | false=>simp
theorem zvW (a b:ByteArray):(a.toList==b.toList)=decide (a=b):=by
 rw [ByteArray.toList_eq,ByteArray.toList_eq,Bool.eq_iff_iff];simp only [beq_iff_eq,decide_eq_true_eq];constructor
 .intro h;obtain ⟨⟨x⟩⟩:=a;obtain ⟨⟨y⟩⟩:=b;simp at h;subst h;rfl
 .rintro rfl;rfl
theorem zFF {t D:Nat}{x y z} (hf:P.underlying t=some (.func x y z)):(Op.equalIn (D+1) t .nilFunc .nilFunc).run P w= .ok true w:=by
 simp only [Op.equalIn,Sem.run_bind,run_underlying hf,Result.andThen_ok,Sem.run_pure]
theorem zFa {t D:Nat}{x y z} (hf:P.underlying t=some (.func x y z)) (f:Fn) (a b:Array Value):(Op.equalIn (D+1) t .nilFunc (.func f a b)).run P w= .ok false w:=by
 simp only [Op.equalIn,Sem.run_bind,run_underlying hf,Result.andThen_ok,Sem.run_pure]
theorem zFj {t D:Nat}{x y z} (hf:P.underlying t=some (.func x y z)) (f:Fn) (a b:Array Value):(Op.equalIn (D+1) t (.func f a b) .nilFunc).run P w= .ok false w:=by
 simp only [Op.equalIn,Sem.run_bind,run_underlying hf,Result.andThen_ok,Sem.run_pure]
theorem zHp (hT:yG E.leaves P tab=true) {t:Nat}{i:TI}(hi:look tab t=some i) (h:i.ty=some .bool):P.underlying t=some .bool:=by
 obtain ⟨d,hd,h2⟩:=Xs hT hi;cases d<;>simp_all [uy]
theorem zFW (hT:yG E.leaves P tab=true) {t:Nat}{i:TI}(hi:look tab t=some i) (h:i.ty=some .str):P.underlying t=some .string:=by
 obtain ⟨d,hd,h2⟩:=Xs hT hi;cases d<;>simp_all [uy]
theorem zE1 (hT:yG E.leaves P tab=true) {t:Nat}{i:TI}{k:IntKind}(hi:look tab t=some i) (h:i.ty=some (.int k)):P.underlying t=some (.int k):=by
 obtain ⟨d,hd,h2⟩:=Xs hT hi;cases d<;>simp_all [uy]
theorem zvP (hT:yG E.leaves P tab=true) {t:Nat}{i:TI}(hi:look tab t=some i) (D:Nat) {p q:zh E}{u v:Value}{b:Bool}
  (hp:Rp E A0 μ H w p u) (hq:Rp E A0 μ H w q v) (h:zrr i p q=some b):(Op.equalIn (D+1) t u v).run P w= .ok b w:=by
 unfold zrr at h;split at h
 .split at h;rotate_left
  .cases h
  rename_i a b' hty;have hd:=zHp hT hi (Xu hty);cases hp with | v _ _ _ hp=>cases hp with | bool _ =>
  cases hq with | v _ _ _ hq=>cases hq with | bool _ =>
  simp at h;subst h;rw [run_equalIn_bool' _ _ _ _ _ hd,Bool.beq_eq_decide_eq]
 .split at h;rotate_left
  .cases h
  rename_i k a k' b' hty;have hd:=zE1 hT hi (Xu hty);cases hp with | v _ _ _ hp=>cases hp with | int _ _ =>
  cases hq with | v _ _ _ hq=>cases hq with | int _ _ =>
  simp only [zJR] at h;obtain ⟨c,hc,rfl⟩:=h;obtain ⟨hk,hk2⟩:=xZ hc;cases hk;have hk2:b'=c:=hk2;subst hk2;rw [run_equalIn_int _ _ _ _ _ _ _ hd,zAZ];rfl
 .split at h;rotate_left
  .cases h
  rename_i a b' hty;have hd:=zFW hT hi (Xu hty);cases hp with | v _ _ _ hp=>cases hp with | str _ =>
  cases hq with | v _ _ _ hq=>cases hq with | str _ =>
  simp at h;subst h;rw [run_equalIn_string _ _ _ _ _ hd,zvW]
 .split at h;rotate_left
  .cases h
  rename_i hk;obtain ⟨x,y,z,hf⟩:=zDB hT hi hk;cases hp;cases hq;simp at h;subst h;exact zFF hf
 .split at h;rotate_left
  .cases h
  rename_i hk;obtain ⟨x,y,z,hf⟩:=zDB hT hi hk;cases hp;cases hq;simp at h;subst h;exact zFa hf _ _ _
 .split at h;rotate_left
  .cases h
  rename_i hk;obtain ⟨x,y,z,hf⟩:=zDB hT hi hk;cases hp;cases hq;simp at h;subst h;exact zFj hf _ _ _
 .cases h
theorem zCh (d:Nat) (e c:Nat) (xs ys:Array Value) (g:Nat->Option Bool):∀(is:List Nat) (b:Bool),
  (∀j∈is,∀r,g j=some r->∃x y,(part e xs (j*c)).run P w= .ok x w/\(part e ys (j*c)).run P w= .ok y w/\(Op.equalIn d e x y).run P w= .ok r w) ->
  zjp (is.map g)=some b->(Op.eqItems d e c xs ys is).run P w= .ok b w:=by
 intro is
 induction is with
 | nil=>intro b _ h;simp [zjp] at h;subst h;simp [Op.eqItems]
 | cons j is ih =>
  intro b hg h;obtain ⟨x,y,h1,h2,rfl⟩:=zyh (by simpa using h);obtain ⟨u,v,e1,e2,e3⟩:=hg j (by simp) x h1;have:=ih y (fun k hk=>hg k (zJI _ hk)) h2;simp only [Op.eqItems,Sem.run_bind,e1,e2,e3,Result.andThen_ok];cases x with
  | false=>simp
  | true=>simpa using this
theorem zHy (hT:yG E.leaves P tab=true):∀(d:Nat) {t:Nat}{i:TI}{ps qs:List (zh E)}{us vs:List Value}{b:Bool}(D:Nat),d<=D->look tab t=some i ->
  RL (Rp E A0 μ H w) ps us->RL (Rp E A0 μ H w) qs vs->eqT tab d i ps qs=some b ->
  (Op.equalIn D t (zoj i us) (zoj i vs)).run P w= .ok b w/\(i.agg=false->us≠[]/\vs≠[]):=by
 intro d
 induction d with
 | zero=>intro t i ps qs us vs b D _ _ _ _ h;simp [eqT] at h
 | succ d ih =>
  intro t i ps qs us vs b D hD hi hp hq h;obtain ⟨D,rfl⟩:∃D',D=D'+1:=⟨D-1,by omega⟩
  have hD:d<=D:=by omega
  simp only [eqT] at h;cases ha:i.agg with
  | true =>
   simp only [ha,if_true] at h;split at h;rotate_left
   .cases h
   rename_i hc;split at h;rotate_left
   .rename_i h0;have h0:i.alen≠0:=fun e=>h0 (by simp [e]);split at h;rotate_left
    .cases h
    rename_i u hu;refine ⟨?_,by simp⟩;have hd:=zsf hT hi ha h0;obtain ⟨f,hf,hsz,_,_⟩:=zg4 hT hu;have hc:P.cellsOf i.elem=u.size:=by simp [Program.cellsOf,hf,hsz]
    simp only [zoj,ha,if_true];rw [run_equalIn_array w D us.toArray vs.toArray hd hf,hc];refine zCh D i.elem u.size us.toArray vs.toArray _ _ b ?_ h;intro j _ c hjc;obtain ⟨k1,k2⟩:=ih D hD hu (zfL hp (j*u.size) u.size) (zfL hq (j*u.size) u.size) hjc;exact ⟨_,_,zpk hT hu us (j*u.size) (fun h=>(k2 h).1),zpk hT hu vs (j*u.size) (fun h=>(k2 h).2),k1⟩
   rename_i h0;have h0:=zJH h0;refine ⟨?_,by simp⟩;obtain ⟨dd,hd,h2⟩:=Xs hT hi;obtain ⟨g1,g2⟩:=zE3 hT hi hc;cases dd with
   | struct fs =>
    simp only [uy,zJB,decide_eq_true_eq] at h2;obtain ⟨⟨⟨⟨_,h3⟩,h4⟩,_⟩,_⟩:=h2;obtain ⟨g3,g4⟩:=g2 fs hd;have hfo:P.fieldsOf t=fs:=by simp [Program.fieldsOf,hd]
    simp only [zoj,ha,if_true];rw [run_equalIn_struct w D t us.toArray vs.toArray (by rw [hfo];exact hd) g3,hfo];rw [h3] at h;refine zAh D us.toArray vs.toArray _ fs.toList b g4 ?_ h;intro f hf c hfc;simp only at hfc;split at hfc;rotate_left
    .cases hfc
    rename_i u hu;obtain ⟨k1,k2⟩:=ih D hD hu (zfL hp f.offset u.size) (zfL hq f.offset u.size) hfc;exact ⟨_,_,zpk hT hu us f.offset (fun h=>(k2 h).1),zpk hT hu vs f.offset (fun h=>(k2 h).2),k1⟩
   | array n e =>
    simp only [uy,zJB] at h2;have h5:i.alen=n:=zJH h2.1.1.1.1.2;have h6:i.size=0:=by
     have:=h2.1.2;split at this
     .simp only [zJB] at this;have:=zJH this.1;rw [this,<-h5,h0];simp
     .cases this
    have h7:i.fields=[]:=by simpa using h2.1.1.2
    rw [h7] at h;simp [zjp] at h;subst h;simp only [zoj,ha,if_true,Op.equalIn,Sem.run_bind,run_underlying hd,Result.andThen_ok];have h8:n=0:=by omega
    subst h8;have:∃u,look tab e=some u:=by
     have:=h2.1.2;split at this
     .rename_i u hu;exact ⟨u,hu⟩
     .cases this
    obtain ⟨u,hu⟩:=this;simp [yJ hT hu]
   | _=>simp [uy,ha] at h2
  | false =>
   simp only [ha,zKb,if_false] at h;split at h;rotate_left
   .cases h
   rename_i p q;obtain ⟨u,rfl⟩:∃u,us=[u]:=by
    have:=hp.1
    match us,this with
    | [u],_=>exact ⟨u,rfl⟩
   obtain ⟨v,rfl⟩:∃v,vs=[v]:=by
    have:=hq.1
    match vs,this with
    | [v],_=>exact ⟨v,rfl⟩
   refine ⟨?_,by simp⟩;replace hp:=hp.2 0 p u rfl rfl;replace hq:=hq.2 0 q v rfl rfl;simp only [zoj,ha,zKb,if_false,List.headD_cons];exact zvP hT hi D hp hq h
end
end Go.Pe
namespace Go.Pe
variable {E:yw}
section
variable {P:Program}{tab:List (Nat×TI)}{A0:Nat->Prop}{μ:Nat->Loc}{H:List (Blk E)}{w:World}{R:Type}{K:zh E->List (Blk E)->Option R}{r:R}
def zgJ (op:BinOp) (t:Nat) (x y:Operand) (u v:Value):Sem Value:=do eqGuard op t x y u v;binOp op t u v
def zAU:Value->Prop
 | .nilIface=>False | .agg _=>False | _=>True
theorem zy2 (op:BinOp) (t:Nat) (x y:Operand) {u v:Value}(h:zAU u):(eqGuard op t x y u v).run P w= .ok () w:=by
 cases u<;>first | exact absurd h id | (cases op<;>rfl)
theorem yv (op:BinOp) (t:Nat) (x y:Operand) {u v:Value}(h:zAU u):(zgJ op t x y u v).run P w=(binOp op t u v).run P w:=by
 simp only [zgJ,Sem.run_bind,zy2 op t x y h,Result.andThen_ok]
theorem zHL {d:Nat}{i:TI}{a c:List (zh E)}{b:Bool}(ha:i.agg=true) (h:eqT tab (d+1) i a c=some b):i.cmp=true:=by
 simp only [eqT,ha,if_true] at h;split at h
 .assumption
 .cases h
theorem zCG {k yk:IntKind}{a c:zV k}{n:Int}(t:Nat) (hn:0<=n) (h:zBm k a (min n.toNat k.bits)=some c):(binOp .shl t (.int k (toZ k a)) (.int yk n)).run P w= .ok (.int k (toZ k c)) w :=
 zG9 (yk:=yk) hn h
theorem zCV {k yk:IntKind}{a c:zV k}{n:Int}(t:Nat) (hn:0<=n) (h:zAH k a (min n.toNat k.bits)=some c):(binOp .shr t (.int k (toZ k a)) (.int yk n)).run P w= .ok (.int k (toZ k c)) w :=
 zGP (yk:=yk) hn h
theorem zCQ (hT:yG E.leaves P tab=true) {t:Nat}{i:TI}(hi:look tab t=some i) {p q:zh E}{u v:Value}{b:Bool}
  (hp:Rp E A0 μ H w p u) (hq:Rp E A0 μ H w q v) (h:eqD tab i p q=some b) (x y:Operand) :
  (zgJ .eql t x y u v).run P w= .ok (.bool b) w/\(zgJ .neq t x y u v).run P w= .ok (.bool !b) w:=by
 unfold eqD at h;split at h
 .rename_i ha;split at h
  .rename_i a c h1 h2;obtain ⟨us,rfl,hu⟩:=zqk hp h1;obtain ⟨vs,rfl,hv⟩:=zqk hq h2;have hc:i.cmp=true:=by
    exact zHL ha h
   obtain ⟨g1,_⟩:=zE3 hT hi hc;obtain ⟨k,_⟩:=zHy hT 50 10000 (by omega) hi hu hv h;simp only [zoj,ha,if_true] at k;simp only [zgJ,Sem.run_bind,run_eqGuard_agg w _ t x y _ _ g1,Result.andThen_ok,run_eql_struct,run_neq_struct];rw [show (us.toList.toArray)=us from rfl,show (vs.toList.toArray)=vs from rfl] at k;rw [k];exact ⟨rfl,rfl⟩
  .cases h
 .have k:=zvP hT hi 9999 hp hq h;unfold zrr at h;split at h
  .split at h;rotate_left
   .cases h
   cases hp with | v _ _ _ hp=>cases hp with | bool _ =>
   cases hq with | v _ _ _ hq=>cases hq with | bool _ =>
   rw [yv _ _ _ _ (by trivial),yv _ _ _ _ (by trivial)];simp only [binOp,Sem.run_bind,Op.equal,Op.maxDepth,k,Result.andThen_ok,Sem.run_pure,and_self]
  .split at h;rotate_left
   .cases h
   rename_i k a k' b' hty;cases hp with | v _ _ _ hp=>cases hp with | int _ _ =>
   cases hq with | v _ _ _ hq=>cases hq with | int _ _ =>
   simp only [zJR] at h;obtain ⟨c,hc,rfl⟩:=h;obtain ⟨hk,hk2⟩:=xZ hc;cases hk;have hk2:b'=c:=hk2;subst hk2;rw [yv _ _ _ _ (by trivial),yv _ _ _ _ (by trivial)];simp only [binOp,ne_eq,not_true_eq_false,if_false,Op.intCmp,Sem.run_pure,zAZ];exact ⟨rfl,rfl⟩
  .split at h;rotate_left
   .cases h
   rename_i a b' hty;cases hp with | v _ _ _ hp=>cases hp with | str _ =>
   cases hq with | v _ _ _ hq=>cases hq with | str _ =>
   simp at h;subst h;rw [yv _ _ _ _ (by trivial),yv _ _ _ _ (by trivial)];simp only [binOp,Op.stringOp,Sem.run_pure,zvW,and_self]
  .split at h;rotate_left
   .cases h
   cases hp;cases hq;rw [yv _ _ _ _ (by trivial),yv _ _ _ _ (by trivial)];simp only [binOp,Sem.run_bind,Op.equal,Op.maxDepth,k,Result.andThen_ok,Sem.run_pure,and_self]
  .split at h;rotate_left
   .cases h
   cases hp;cases hq;rw [yv _ _ _ _ (by trivial),yv _ _ _ _ (by trivial)];simp only [binOp,Sem.run_bind,Op.equal,Op.maxDepth,k,Result.andThen_ok,Sem.run_pure,and_self]
  .split at h;rotate_left
   .cases h
   cases hp;cases hq;rw [yv _ _ _ _ (by trivial),yv _ _ _ _ (by trivial)];simp only [binOp,Sem.run_bind,Op.equal,Op.maxDepth,k,Result.andThen_ok,Sem.run_pure,and_self]
  .cases h
theorem WD {b:Bool}{s:Sem Value}(S:zT A0 μ H w) (h:(VF (E:=E) b).cps H K=some r) (hs:s.run P w= .ok (.bool b) w):zZ P A0 μ H w s K r :=
 zZ.same S hs (.v _ _ _ (.bool b)) h
theorem ZX {k:IntKind}{o:Option (zV k)}{s:Sem Value}(S:zT A0 μ H w) (h:(XI (E:=E) k o).cps H K=some r) (hs:∀x,o=some x->s.run P w= .ok (.int k (toZ k x)) w):zZ P A0 μ H w s K r:=by
 unfold XI at h;split at h
 .exact zZ.same S (hs _ rfl) (.v _ _ _ (.int k _)) h
 .simp [Dec.cps] at h
theorem zsp {α:Type}{b:Bool}{d:Dec E α}{K:α->List (Blk E)->Option R}(h:(Dec.br b .fail d).cps H K=some r):b=false/\d.cps H K=some r:=by
 cases b
 .exact ⟨rfl,by simpa [Dec.cps] using h⟩
 .simp [Dec.cps] at h
theorem zHG {α:Type}{b:Bool}{d:Dec E α}{K:α->List (Blk E)->Option R}(h:(Dec.br b d .fail).cps H K=some r):b=true/\d.cps H K=some r:=by
 cases b
 .simp [Dec.cps] at h
 .exact ⟨rfl,by simpa [Dec.cps] using h⟩
theorem zEb (hT:yG E.leaves P tab=true) {t:Nat}{i:TI}(hi:look tab t=some i) {op:BinOp}{p q:zh E}{u v:Value}(x y:Operand) (S:zT A0 μ H w)
  (hp:Rp E A0 μ H w p u) (hq:Rp E A0 μ H w q v) (h:(zGp tab i op p q).cps H K=some r):zZ P A0 μ H w (zgJ op t x y u v) K r:=by
 unfold zGp at h;split at h
 .split at h
  .rename_i b hb;exact WD S h (zCQ hT hi hp hq hb x y).1
  .simp [Dec.cps] at h
 .split at h
  .rename_i b hb;exact WD S h (zCQ hT hi hp hq hb x y).2
  .simp [Dec.cps] at h
 .split at h
  .cases hp with | v _ _ _ hp=>cases hp with | int k a =>
   cases hq with | v _ _ _ hq=>cases hq with | int k' n =>
   obtain ⟨hn,h⟩:=zsp h;refine ZX S h fun z hz=>?_;rw [yv _ _ _ _ (by trivial)];exact zCG t (by simpa using hn) hz
  .cases hp with | v _ _ _ hp=>cases hp with | int k a =>
   cases hq with | v _ _ _ hq=>cases hq with | int k' n =>
   refine ZX S h fun z hz=>?_;rw [yv _ _ _ _ (by trivial)];exact zCG t (Int.natCast_nonneg _) (by rw [zKi];exact hz)
  .simp [Dec.cps] at h
 .split at h
  .cases hp with | v _ _ _ hp=>cases hp with | int k a =>
   cases hq with | v _ _ _ hq=>cases hq with | int k' n =>
   obtain ⟨hn,h⟩:=zsp h;refine ZX S h fun z hz=>?_;rw [yv _ _ _ _ (by trivial)];exact zCV t (by simpa using hn) hz
  .cases hp with | v _ _ _ hp=>cases hp with | int k a =>
   cases hq with | v _ _ _ hq=>cases hq with | int k' n =>
   refine ZX S h fun z hz=>?_;rw [yv _ _ _ _ (by trivial)];exact zCV t (Int.natCast_nonneg _) (by rw [zKi];exact hz)
  .simp [Dec.cps] at h
 .split at h
  .split at h;rotate_left
   .simp [Dec.cps] at h
   rename_i k a k' b0 _ b hc;cases hp with | v _ _ _ hp=>cases hp with | int _ _ =>
   cases hq with | v _ _ _ hq=>cases hq with | int _ _ =>
   obtain ⟨hk,hk2⟩:=xZ hc;cases hk;have hk2:b0=b:=hk2;subst hk2;have pl:zAU (.int k (toZ k a)):=trivial;split at h
   .exact ZX S h fun z hz=>by rw [yv _ _ _ _ pl];simpa [binOp] using zG1 hz
   .exact ZX S h fun z hz=>by rw [yv _ _ _ _ pl];simpa [binOp] using zGX hz
   .exact ZX S h fun z hz=>by rw [yv _ _ _ _ pl];simpa [binOp] using zGg hz
   .obtain ⟨hn,h⟩:=zsp h;exact ZX S h fun z hz=>by rw [yv _ _ _ _ pl];simpa [binOp] using zG2 hn hz
   .obtain ⟨hn,h⟩:=zsp h;exact ZX S h fun z hz=>by rw [yv _ _ _ _ pl];simpa [binOp] using zGc hn hz
   .exact ZX S h fun z hz=>by rw [yv _ _ _ _ pl];simpa [binOp] using zGb hz
   .exact ZX S h fun z hz=>by rw [yv _ _ _ _ pl];simpa [binOp] using zIf hz
   .exact ZX S h fun z hz=>by rw [yv _ _ _ _ pl];simpa [binOp] using zGR hz
   .exact ZX S h fun z hz=>by rw [yv _ _ _ _ pl];simpa [binOp] using zB2 hz
   .exact WD S h (by rw [yv _ _ _ _ pl];simpa [binOp] using zHo a b0)
   .exact WD S h (by rw [yv _ _ _ _ pl];simpa [binOp] using zHw a b0)
   .exact WD S h (by rw [yv _ _ _ _ pl];simpa [binOp] using zHq a b0)
   .exact WD S h (by rw [yv _ _ _ _ pl];simpa [binOp] using zHI a b0)
   .simp [Dec.cps] at h
  .split at h
   .rename_i a b _ _ _ _ _;cases hp with | v _ _ _ hp=>cases hp with | str _ =>
    cases hq with | v _ _ _ hq=>cases hq with | str _ =>
    obtain ⟨hn,h⟩:=zHG h;have hn:ByteArray.size a+ByteArray.size b<4294967296:=by simpa using hn
    refine zZ.same S ?_ (.v _ _ _ (.str _)) h;rw [yv _ _ _ _ (by trivial)];simp only [binOp];exact run_string_add_sum _ a b (by omega)
   .simp [Dec.cps] at h
  .simp [Dec.cps] at h
theorem zFR {op:UnOp}{p:zh E}{u:Value}(S:zT A0 μ H w) (hp:Rp E A0 μ H w p u) (h:(unD op p).cps H K=some r):zZ P A0 μ H w (Op.unary op u) K r:=by
 unfold unD at h;split at h
 .cases hp with | v _ _ _ hp=>cases hp with | bool b =>
  exact WD S h (by simp [Op.unary])
 .cases hp with | v _ _ _ hp=>cases hp with | int k x =>
  refine zZ.same S ?_ (.v _ _ _ (.int .u64 _)) h;simp only [Op.unary,Op.intArith,Sem.run_pure,toZ];congr 2;rename_i y _;have key:∀x:BitVec 64,IntKind.u64.wrap (0-(x.toNat:Int))=((0-x:BitVec 64).toNat:Int):=fun x=>by
   rw [IntKind.wrap_u64,BitVec.toNat_sub];have:=x.isLt;simp;omega
  exact key _
 .cases hp with | v _ _ _ hp=>cases hp with | int k x =>
  refine zZ.same S ?_ (.v _ _ _ (.int .i64 _)) h;simp only [Op.unary,Op.intArith,Sem.run_pure,toZ];rw [wrap_i64]
 .cases hp with | v _ _ _ hp=>cases hp with | int k x =>
  refine zZ.same S ?_ (.v _ _ _ (.int .u64 _)) h;simp only [Op.unary,Op.intBits,Sem.run_pure,toZ,IntKind.bits,Vy];rw [zay];congr 4
 .simp [Dec.cps] at h
theorem zB1 (hT:yG E.leaves P tab=true) {s d:Nat}{i j:TI}(hi:look tab d=some i) (hj:look tab s=some j) {p:zh E}{u:Value}(S:zT A0 μ H w) (hp:Rp E A0 μ H w p u)
  (h:(zDV i p).cps H K=some r):zZ P A0 μ H w (convert s d u) K r:=by
 obtain ⟨ds,h1,_⟩:=Xs hT hj;unfold zDV at h;split at h
 .rename_i k x k' hty;cases hp with | v _ _ _ hp=>cases hp with | int _ _ =>
  have hd:=zE1 hT hi hty;refine ZX S h fun z hz=>?_;simp only [convert,Sem.run_bind,run_underlying h1,run_underlying hd,Result.andThen_ok,Conv.intToInt,Sem.run_pure,zGx hz]
 .rename_i x hty;cases hp with | v _ _ _ hp=>cases hp with | str _ =>
  have hd:=zFW hT hi hty;refine zZ.same S ?_ (.v _ _ _ (.str _)) h;simp only [convert,Sem.run_bind,run_underlying h1,run_underlying hd,Result.andThen_ok];cases ds<;>rfl
 .simp [Dec.cps] at h
theorem zHc {k:IntKind}{a b c:zV k}(h:zt3 k a b=some c):(Builtin.min2 (.int k (toZ k a)) (.int k (toZ k b))).run P w= .ok (.int k (toZ k c)) w:=by
 cases k<;>simp only [zt3,Option.some.injEq,reduceCtorEq] at h<;>subst h<;>simp only [Builtin.min2,Sem.run_pure,toZ]
 .congr 2;cases hc:decide (b<a)<;>simp_all<;>omega
 .congr 2;cases hc:decide (b<a)<;>simp_all [BitVec.lt_def,BitVec.le_def]<;>omega
theorem zF4 {k:IntKind}{a b c:zV k}(h:ztX k a b=some c):(Builtin.max2 (.int k (toZ k a)) (.int k (toZ k b))).run P w= .ok (.int k (toZ k c)) w:=by
 cases k<;>simp only [ztX,Option.some.injEq,reduceCtorEq] at h<;>subst h<;>simp only [Builtin.max2,Sem.run_pure,toZ]
 .congr 2;cases hc:decide (a<b)<;>simp_all<;>omega
 .congr 2;cases hc:decide (a<b)<;>simp_all [BitVec.lt_def,BitVec.le_def]<;>omega
end
end Go.Pe
namespace Go.Pe
variable {E:yw}
section
variable {P:Program}{tab:List (Nat×TI)}{A0:Nat->Prop}{μ:Nat->Loc}{H:List (Blk E)}{w:World}{R:Type}{K:zh E->List (Blk E)->Option R}{r:R}
theorem zxq {α:Type}{a b:Nat}{x y:α}(h:a<b):(bif Nat.blt a b then x else y)=x:=by
 rw [show Nat.blt a b=true from Nat.ble_eq_true_of_le h];rfl
theorem zxB {w:World}{A U:Nat->Prop}{μ:Nat->Loc}{p:zh E}{v:Value}(h:z7 E w A U μ p v) (hl:p.leaf=true):v.cells= #[v]:=by
 cases h with
 | v τ x v h=>exact h.leaf_cells hl
 | _=>first | rfl | (simp [zh.leaf] at hl)
theorem zBo (size:Nat):∀(parts:List (Nat×Value)) (m:Nat) (cells:Array Value),(∀p∈parts,p.2.cells.size=size)->parts.map (·.1)=List.range' m parts.length->cells.size=(m+parts.length)*size ->
  ∃cells',Instr.fill (fun i=>some (i*size,size)) cells parts=some cells'/\cells'.toList=cells.toList.take (m*size)++(parts.map (·.2)).flatMap fun v=>v.cells.toList
 | [],m,cells,_,_,hs=>⟨cells,rfl,by
   have:cells.toList.length=m*size:=by simpa using hs
   simp [zLn (Nat.le_of_eq this)]⟩
 | (j,v)::parts,m,cells,hp,hm,hs=>by
  simp only [zKw,zJS,zLc,List.cons.injEq] at hm;obtain ⟨rfl,hm⟩:=hm;have hv:v.cells.size=size:=hp _ (zJW ..);have hs':cells.size=j*size+size+parts.length*size:=by
   rw [hs];simp only [zJS,zKe,Nat.one_mul];omega
  have hfold:(v.cells.zipIdx.foldl (fun cs (c,k)=>cs.setIfInBounds (j*size+k) c) cells).toList=zaa cells.toList (j*size) v.cells.toList:=by
   rw [<-Array.foldl_toList,Array.toList_zipIdx];have:=zqZ (j*size) v.cells.toList 0 cells (by simp [hv];omega);simpa using this
  have hlen:(v.cells.zipIdx.foldl (fun cs (c,k)=>cs.setIfInBounds (j*size+k) c) cells).size=cells.size:=by
   rw [<-zKB,hfold];simp [zaa,hv];omega
  obtain ⟨c',h1,h2⟩:=zBo size parts (j+1) _ (fun p h=>hp p (zJI _ h)) hm (by rw [hlen,hs'];simp only [zKe,Nat.one_mul]);refine ⟨c',?_,?_⟩
  .simp only [Instr.fill];rw [zc (by simp [hv];omega)];exact h1
  .rw [h2,hfold];simp only [zaa,zKw,zKr];have e:(j+1)*size=j*size+size:=by simp [zKe]
   have hl:(List.take (j*size) cells.toList).length=j*size:=by simp;omega
   rw [List.take_append_of_le_length (by simp [hv];omega)];rw [e,zLn (by simp [hv];omega)];simp
theorem zm4 {α:Type}{K:α->List (Blk E)->Option R}(e:Ty) (k:List (Den E.T e)->Dec E α):∀ {ps:List (zh E)}{acc:List (Den E.T e)}{vs:List Value}{H:List (Blk E)},zT A0 μ H w->RL (Rp E A0 μ H w) ps vs ->
  (zh3 e k ps acc).cps H K=some r->∃(xs:List (Den E.T e)) (H':List (Blk E)),zS A0 μ H w μ H' w/\zT A0 μ H' w/\xs.length=ps.length/\(∀i (h:i<xs.length),Rt E A0 μ H' w e (vs.getD i undef) xs[i]) /\
   (∀id,zn H id= .free->zn H' id= .free)/\(k (acc++xs)).cps H' K=some r
 | [],acc,vs,H,S,hr,h=>⟨[],H,zS.refl _ _ _ _,S,rfl,fun i h=>by simp at h,fun _ h=>h,by simpa [zh3] using h⟩
 | p::ps,acc,[],H,S,hr,h=>by have:=hr.1;simp at this
 | p::ps,acc,v::vs,H,S,hr,h=>by
  simp only [zh3] at h;obtain ⟨x,H1,T1,S1,h1,f1,h⟩:=zc5 S (hr.2 0 p v rfl rfl) h;obtain ⟨xs,H2,T2,S2,h2,h3,f2,h⟩:=zm4 e k (acc:=acc++[x]) (vs:=vs) S1 ⟨by have:=hr.1;simpa using this,fun j q u hq hu=>T1.rep (hr.2 (j+1) q u (by simpa using hq) (by simpa using hu))⟩ h;refine ⟨x::xs,H2,T1.trans T2,S2,by simp [h2],fun i hi=>?_,fun id hf=>f2 id (f1 id hf),by simpa using h⟩;cases i with
  | zero=>simpa using T2.repT h1
  | succ i=>simpa using h3 i (by simpa using hi)
theorem zD3 (vs:List Value):vs.flatMap (fun v=>v.cells.toList)=zfB (fun i=>vs.getD i undef) vs.length:=by
 unfold zfB
 induction vs with
 | nil=>rfl
 | cons v vs ih =>
  rw [zJS,List.range_succ_eq_map,zKr,zKr,ih,List.flatMap_map];simp
theorem zoG (hT:yG E.leaves P tab=true) {t:Nat}{i u:TI}(hi:look tab t=some i) (hu:look tab i.elem=some u) (hsl:i.sl=true) {len:Nat}{parts:Array (Nat×Value)}
  (hs:∀p∈parts.toList,p.2.cells.size=u.size) (hm:parts.toList.map (·.1)=List.range len) (hb:len*u.size<=16777216) (hz:u.size≠0) :
  (Instr.buildSlice t len parts).run P w= .ok (.slice (some ⟨w.heap.size,0,none⟩) len len) (w.alloc (.cells ((parts.toList.map (·.2)).flatMap fun v=>v.cells.toList).toArray i.elem)):=by
 have hd:=zpU hT hi hsl;have hlen:parts.toList.length=len:=by have:=congrArg List.length hm;simpa using this
 obtain ⟨c',h1,h2⟩:=zBo u.size parts.toList 0 ((Array.range (len*u.size)).map ((xj u).cells[· %(xj u).cells.size]!)) hs (by rw [hm,hlen,zK1]) (by simp;rw [<-hlen];simp);have h3:c'=((parts.toList.map (·.2)).flatMap fun v=>v.cells.toList).toArray:=by
  apply zK2.1;rw [h2];simp
 subst h3;simp only [Instr.buildSlice,Sem.run_bind,run_underlying hd,Result.andThen_ok,yJ hT hu,gt_iff_lt];rw [zi];by_cases h0:len*u.size=0
 .have hl0:len=0:=by
   rcases Nat.mul_eq_zero.1 h0 with h | h
   .exact h
   .exact absurd h hz
  subst hl0;have hp:parts.toList=[]:=by simpa using hlen
  simp [hp,Instr.fill,newRow];congr 2;exact Array.eq_empty_of_size_eq_zero (by simp)
 .simp only [h0,if_false,Sem.run_bind,ZY hT hu,Result.andThen_ok,Sem.run_pure,h1];simp [newRow]
theorem zs2 (hT:yG E.leaves P tab=true) {t:Nat}{i u:TI}(hi:look tab t=some i) (hu:look tab i.elem=some u) {ρ:Operand->zh E}{ρv:Operand->Value}{parts:Array (Nat×Operand)}{len fresh:Nat}(S:zT A0 μ H w)
  (F:ZU H fresh A0 w) (hρ:∀x,Rp E A0 μ H w (ρ x) (ρv x))
  (h:(zn1 i u fresh len (parts.toList.map fun p=>(p.1,ρ p.2))).cps H K=some r):zZ P A0 μ H w (Instr.buildSlice t len (parts.map fun (i,x)=>(i,ρv x))) K r:=by
 unfold zn1 at h;split at h;rotate_left
 .simp [Dec.cps] at h
 rename_i hc;simp only [zJB,decide_eq_true_eq,List.map_map] at hc;obtain ⟨⟨hsl,hm⟩,hb⟩:=hc;have hb:=zKd hb;have hpv:(parts.map fun (i,x)=>(i,ρv x)).toList=parts.toList.map fun p=>(p.1,ρv p.2):=by simp
 have hm':(parts.map fun (i,x)=>(i,ρv x)).toList.map (·.1)=List.range len:=by
  rw [hpv,<-hm,List.map_map];rfl
 have hv2:(parts.map fun (i,x)=>(i,ρv x)).toList.map (·.2)=parts.toList.map fun p=>ρv p.2:=by
  rw [hpv,List.map_map];rfl
 have hlen:parts.toList.length=len:=by have:=congrArg List.length hm;simpa using this
 have hrl:RL (Rp E A0 μ H w) (parts.toList.map fun p=>ρ p.2) (parts.toList.map fun p=>ρv p.2) :=
  ⟨by simp,fun j p v hp hv=>by
   simp only [zJ8,zJR] at hp hv;obtain ⟨a,ha,rfl⟩:=hp;obtain ⟨a',ha',rfl⟩:=hv;rw [ha] at ha';injection ha' with ha';subst ha';exact hρ a.2⟩
 split at h
 .rename_i e hty;obtain ⟨u',hu',hut,hs0,hd,hna⟩:=za0 hT hi hty;rw [hu] at hu';injection hu' with hu';subst hu';have hsz:=uk hT e hu hut;simp only [List.map_map] at h;obtain ⟨xs,H',T,S',hl,hr,hf,h⟩:=zm4 e _ S hrl h;simp only [Dec.cps,zJM] at h;have F':=F.trans T (hf _ F.free);rw [zxq F'.lt] at h;have hxl:xs.length=len:=by rw [hl];simpa using hlen
  have hget:∀i,i<len->((parts.toList.map fun p=>ρv p.2).getD i undef).cells.size=u.size:=fun i hi=>by
   have:=(hr i (by omega)).size;rw [this,hsz]
  have hs:∀p∈(parts.map fun (i,x)=>(i,ρv x)).toList,p.2.cells.size=u.size:=by
   intro p hp;rw [hpv] at hp;obtain ⟨a,ha,rfl⟩:=zJO.1 hp;obtain ⟨j,hj,rfl⟩:=zKX ha;have:=hget j (by omega);have e:(parts.toList.map fun p=>ρv p.2).getD j undef=ρv (parts.toList[j]).2:=by
    rw [zJD,zJ8,zJC hj];rfl
   rw [e] at this;exact this
  have hcells:ZC w (Av A0 μ H') e xs ((parts.toList.map fun p=>ρv p.2).flatMap fun v=>v.cells.toList).toArray (fun i=>(parts.toList.map fun p=>ρv p.2).getD i undef):=by
   have hj:=zD3 (parts.toList.map fun p=>ρv p.2);have hl2:(parts.toList.map fun p=>ρv p.2).length=len:=by simpa using hlen
   rw [hl2] at hj;refine ⟨?_,fun i hi j v hv=>?_,hr⟩
   .rw [hj];simp only [List.size_toArray];rw [zmP _ u.size _ hget,hxl,hsz]
   .rw [hj,hsz];simpa using znc _ u.size len hget i (by omega) j v hv
  obtain ⟨T2,S2,hrep⟩:=zqX (t:=i.elem) (newCap:=xs.length) (rest:= #[]) S' F' hcells (zJF _) (by simpa using hcells.size) rfl (yi.refl w);refine ⟨_,_,_,_,_,?_,T.trans T2,S2,hrep,h⟩;rw [zoG hT hi hu hsl hs hm' hb hs0,hv2,hxl];simp
 .split at h;rotate_left
  .simp [Dec.cps] at h
  rename_i hc;simp only [zJB] at hc;have h1:=zJH hc.1;simp only [Dec.cps] at h;rw [zxq F.lt] at h;have hleaf:∀p∈parts.toList.map (fun p=>ρ p.2),p.leaf=true:=by
   intro p hp;obtain ⟨a,ha,rfl⟩:=zJO.1 hp;exact zJ3.1 hc.2 (a.1,ρ a.2) (zJO.2 ⟨a,ha,rfl⟩)
  have hone:∀a∈parts.toList,(ρv a.2).cells= #[ρv a.2]:=fun a ha=>zxB (hρ a.2) (hleaf (ρ a.2) (zJO.2 ⟨a,ha,rfl⟩));obtain ⟨T,S',hU⟩:=zBz (t:=i.elem) S F hrl hleaf len len;simp only [List.map_map] at h;refine ⟨_,_,_,_,_,?_,T,S',.bsl fresh len w.heap.size hU (vl _ _ _),h⟩;rw [zoG hT hi hu hsl (fun p hp=>by
   rw [hpv] at hp;obtain ⟨a,ha,rfl⟩:=zJO.1 hp;rw [hone a ha,h1];rfl) hm' hb (by omega),hv2]
  congr 4;rw [List.flatMap_map];have e:(parts.toList.map fun a=>(ρv a.2).cells.toList)=parts.toList.map fun a=>[ρv a.2]:=zLd (fun a ha=>by rw [hone a ha]);rw [List.flatMap_def,e];have e2:∀l:List (Nat×Operand),(l.map fun a=>[ρv a.2]).flatten=l.map fun a=>ρv a.2:=fun l=>by
   induction l with
   | nil=>rfl
   | cons a l ih=>simp [ih]
  exact e2 _
end
end Go.Pe
