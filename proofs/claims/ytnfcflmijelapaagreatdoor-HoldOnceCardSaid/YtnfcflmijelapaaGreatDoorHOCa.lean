/- Own work of this seat: Core, Exec, Rep, Moves, Tab, OpA, OpB, OpC, OpD, OpE, OpF, OpG, OpH, OpI, OpJ, OpK. -/
import Derived.Orders
import Derived.KernelRfl
import Derived.Laws.Sem
import Derived.Laws.World
import Derived.Laws.CopyRow
import Derived.Laws.Entries
import Derived.Laws.Rows
import Derived.Laws.Append
import Derived.Laws.BitsLemmas
import Derived.Laws.Bits64
import Derived.Laws.Shifts
import Derived.Laws.StructEq
import Derived.Laws.Concat
import Derived.ChangeKeysEq
set_option linter.unusedVariables false
set_option linter.unusedSimpArgs false
set_option linter.unnecessarySimpa false
set_option linter.unusedSectionVars false
set_option linter.deprecated false
namespace Go.Pe
noncomputable section
inductive Ty where
 | bool | int (k:IntKind) | str | slice (e:Ty) | named (n:Nat) | arr (n:Nat) (e:Ty)
 deriving DecidableEq
@[reducible] def zN:IntKind→Type
 | .u64=>BitVec 64 | .u8=>BitVec 8 | .i8=>Int | .i16=>Int | .i32=>Int | .i64=>Int | .u16=>Int | .u32=>Int
@[reducible] def Den (T:Nat→Type):Ty→Type
 | .bool=>Bool | .int k=>zN k | .str=>ByteArray | .slice e=>List (Den T e) | .named n=>T n | .arr _ e=>List (Den T e)
@[reducible] def HL (T:Nat→Type):List Ty→Type
 | []=>Unit
 | t::ts=>Den T t×HL T ts
structure yg where
 T:Nat→Type
 leaves:Nat→List Ty
 unpack:(n:Nat)→T n→HL T (leaves n)
 pack:(n:Nat)→HL T (leaves n)→T n
 pu: ∀n x,pack n (unpack n x)=x
 up: ∀n h,unpack n (pack n h)=h
 lf: ∀n,(leaves n).all (fun t=>match t with | .named _=>false | .arr _ _=>false | _=>true)=true
noncomputable def zhE {α:Type} (a:α):α:=Classical.choose (⟨a,rfl⟩: ∃b:α,b=a)
theorem VQ {α:Type} (a:α):zhE a=a:=Classical.choose_spec (⟨a,rfl⟩: ∃b:α,b=a)
def w64 (n:Int):Int:=zhE (fun n:Int=>(n+9223372036854775808)%18446744073709551616-9223372036854775808) n
theorem zqt (n:Int):w64 n=(n+9223372036854775808)%18446744073709551616-9223372036854775808:=congrFun (VQ _) n
def w32 (n:Int):Int:=zhE (fun n:Int=>(n+2147483648)%4294967296-2147483648) n
theorem zEO (n:Int):w32 n=(n+2147483648)%4294967296-2147483648:=congrFun (VQ _) n
@[reducible] def toZ:(k:IntKind)→zN k→Int
 | .u64,x=>(x.toNat:Int) | .u8,x=>(x.toNat:Int) | .i8,x=>x | .i16,x=>x | .i32,x=>x | .i64,x=>x | .u16,x=>x | .u32,x=>x
def zai:(k:IntKind)→Int→zN k
 | .u64,n=>BitVec.ofInt 64 n | .u8,n=>BitVec.ofInt 8 n | .i8,n=>n | .i16,n=>n | .i32,n=>n | .i64,n=>n | .u16,n=>n | .u32,n=>n
def zt1:IntKind→Int→Bool
 | .u64,n=>decide (0≤n)&&decide (n<18446744073709551616) | .u8,n=>decide (0≤n)&&decide (n<256) | _,_=>true
def zC1:(k:IntKind)→zN k→zN k→Option (zN k)
 | .u64,a,b=>some (a+b) | .u8,a,b=>some (a+b) | .i64,a,b=>some (w64 (a+b)) | .i32,a,b=>some (w32 (a+b)) | _,_,_=>none
def zDh:(k:IntKind)→zN k→zN k→Option (zN k)
 | .u64,a,b=>some (a-b) | .i64,a,b=>some (w64 (a-b)) | .i32,a,b=>some (w32 (a-b)) | _,_,_=>none
def zCQ:(k:IntKind)→zN k→zN k→Option (zN k)
 | .u64,a,b=>some (a*b) | .i64,a,b=>some (w64 (a*b)) | _,_,_=>none
def zBm (a b:Int):Int:=zhE (fun a b:Int=>(BitVec.ofInt 64 a&&&BitVec.ofInt 64 b).toInt) a b
theorem zxH (a b:Int):zBm a b=(BitVec.ofInt 64 a&&&BitVec.ofInt 64 b).toInt:=by delta zBm;rw [VQ]
def zor (a b:Int):Int:=zhE (fun a b:Int=>(BitVec.ofInt 64 a|||BitVec.ofInt 64 b).toInt) a b
theorem zEo (a b:Int):zor a b=(BitVec.ofInt 64 a|||BitVec.ofInt 64 b).toInt:=by delta zor;rw [VQ]
def zDO (a b:Int):Int:=zhE (fun a b:Int=>(BitVec.ofInt 64 a ^^^ BitVec.ofInt 64 b).toInt) a b
theorem zDM (a b:Int):zDO a b=(BitVec.ofInt 64 a ^^^ BitVec.ofInt 64 b).toInt:=by delta zDO;rw [VQ]
def zuM (a b:Int):Int:=zhE (fun a b:Int=>(BitVec.ofInt 64 a&&& ~~~BitVec.ofInt 64 b).toInt) a b
theorem zzm (a b:Int):zuM a b=(BitVec.ofInt 64 a&&& ~~~BitVec.ofInt 64 b).toInt:=by delta zuM;rw [VQ]
def zvs:(k:IntKind)→zN k→zN k→Option (zN k)
 | .u64,a,b=>some (a/b) | .i64,a,b=>some (w64 (a.tdiv b)) | .u8,a,b=>some (a/b) | _,_,_=>none
def zDg:(k:IntKind)→zN k→zN k→Option (zN k)
 | .u64,a,b=>some (a%b) | .i64,a,b=>some (a.tmod b) | .u8,a,b=>some (a%b) | _,_,_=>none
def zDi:(k:IntKind)→zN k→zN k→Option (zN k)
 | .u64,a,b=>some (a&&&b) | .i64,a,b=>some (zBm a b) | _,_,_=>none
def ior:(k:IntKind)→zN k→zN k→Option (zN k)
 | .u64,a,b=>some (a|||b) | .i64,a,b=>some (zor a b) | _,_,_=>none
def zCS:(k:IntKind)→zN k→zN k→Option (zN k)
 | .u64,a,b=>some (a ^^^ b) | .i64,a,b=>some (zDO a b) | _,_,_=>none
def zvo:(k:IntKind)→zN k→zN k→Option (zN k)
 | .u64,a,b=>some (a&&& ~~~b) | .i64,a,b=>some (zuM a b) | _,_,_=>none
def zyR:(k:IntKind)→zN k→Nat→Option (zN k)
 | .u64,a,n=>some (a <<< n) | _,_,_=>none
def zyL:(k:IntKind)→zN k→Nat→Option (zN k)
 | .u64,a,n=>some (a >>> n) | _,_,_=>none
def ieq:(k:IntKind)→zN k→zN k→Bool
 | .u64,a,b=>decide (a=b) | .u8,a,b=>decide (a=b) | .i8,a,b=>decide (a=b) | .i16,a,b=>decide (a=b) | .i32,a,b=>decide (a=b)
 | .i64,a,b=>decide (a=b) | .u16,a,b=>decide (a=b) | .u32,a,b=>decide (a=b)
def ilt:(k:IntKind)→zN k→zN k→Bool
 | .u64,a,b=>decide (a<b) | .u8,a,b=>decide (a<b) | .i8,a,b=>decide (a<b) | .i16,a,b=>decide (a<b) | .i32,a,b=>decide (a<b)
 | .i64,a,b=>decide (a<b) | .u16,a,b=>decide (a<b) | .u32,a,b=>decide (a<b)
def ile:(k:IntKind)→zN k→zN k→Bool
 | .u64,a,b=>decide (a≤b) | .u8,a,b=>decide (a≤b) | .i8,a,b=>decide (a≤b) | .i16,a,b=>decide (a≤b) | .i32,a,b=>decide (a≤b)
 | .i64,a,b=>decide (a≤b) | .u16,a,b=>decide (a≤b) | .u32,a,b=>decide (a≤b)
def zAY:(k k':IntKind)→zN k→Option (zN k')
 | .u8,.i64,x=>some (x.toNat:Int) | .u8,.i32,x=>some (x.toNat:Int) | .u8,.u8,x=>some x | .u8,.u64,x=>some (x.setWidth 64)
 | .u64,.i64,x=>some x.toInt | .u64,.u64,x=>some x | .i64,.u64,x=>some (BitVec.ofInt 64 x) | .i64,.u8,x=>some (BitVec.ofInt 8 x)
 | .i64,.i64,x=>some (w64 x) | .i64,.i32,x=>some (w32 x) | .i32,.i64,x=>some (w64 x) | .i32,.i32,x=>some (w32 x)
 | _,_,_=>none
def zsA:(k:IntKind)→zN k→zN k→Option (zN k)
 | .u64,a,b=>some (bif decide (b<a) then b else a) | .i64,a,b=>some (bif decide (b<a) then b else a) | _,_,_=>none
def zrU:(k:IntKind)→zN k→zN k→Option (zN k)
 | .u64,a,b=>some (bif decide (a<b) then b else a) | .i64,a,b=>some (bif decide (a<b) then b else a) | _,_,_=>none
def idx {α:Type} (l:List α) (i:Int):Option α:=bif decide (0≤i) then l[i.toNat]? else none
def xt {α:Type} (l:List α) (i:Int):Option Nat:=bif decide (0≤i)&&decide (i<l.length) then some i.toNat else none
def yc {α:Type} (l:List α):Option (List α):=zhE (fun l:List α=>bif decide (l.length<4294967296) then some l else none) l
theorem zsz {α:Type} (l:List α):yc l=bif decide (l.length<4294967296) then some l else none:=by delta yc;rw [VQ]
def zeW {α:Type} (l:List α) (n:Nat) (i:Int):Option Nat:=bif decide (0≤i)&&decide (i<l.length)&&decide (i<n) then some i.toNat else none
def Wf (n:Int):Option Nat:=zhE (fun n:Int=>bif decide (0≤n)&&decide (n<4294967296) then some n.toNat else none) n
theorem zlh (n:Int):Wf n=bif decide (0≤n)&&decide (n<4294967296) then some n.toNat else none:=by delta Wf;rw [VQ]
def cut {α:Type} (l:List α) (lo hi:Int):Option (List α) :=
 bif decide (0≤lo)&&decide (lo≤hi)&&decide (hi≤l.length) then some ((l.take hi.toNat).drop lo.toNat) else none
section
variable (E:yg)
inductive ze:Type where
 | any | skip
 | v (τ:Ty) (x:Den E.T τ)
 | agg (cs:List ze) | tuple (vs:List ze)
 | nils | own (id:Nat) | full (e:Ty) (l:List (Den E.T e)) | bsl (id n:Nat)
 | ptr (id off:Nat) | eptr (e:Ty) (id i off:Nat) | rptr (cs:List ze)
 | fn (f:FuncId) (caps:List ze) | bfn (f:FuncId) (first:List ze) | nilfn | nilp | nilm | map (id:Nat)
 | yld (n i:Int)
inductive Blk:Type where
 | free | dead
 | box (w:Bool) (cs:List (ze E))
 | row (w:Bool) (e:Ty) (l:List (Den E.T e))
 | map (w:Bool) (es:List (ze E×ze E))
 | rowh (e:Ty) (l:List (List (Den E.T e))) (n k:Nat)
inductive Dec (α:Type):Type 1 where
 | ret (a:α) | fail
 | br (b:Bool) (t e:Dec α)
 | opt (β:Type) (o:Option β) (k:β→Dec α)
 | rd (id:Nat) (k:Blk E→Dec α)
 | wr (id:Nat) (b:Blk E) (k:Dec α)
 | any (k:Bool→Dec α)
end
variable {E:yg}
def Dec.bind {α β:Type}:Dec E α→(α→Dec E β)→Dec E β
 | .ret a,f=>f a
 | .fail,_=> .fail
 | .br b t e,f=> .br b (t.bind f) (e.bind f)
 | .opt γ o k,f=> .opt γ o fun x=>(k x).bind f
 | .rd id k,f=> .rd id fun b=>(k b).bind f
 | .wr id b k,f=> .wr id b (k.bind f)
 | .any k,f=> .any fun b=>(k b).bind f
def zi (H:List (Blk E)) (id:Nat):Blk E:=(H[id]?).getD .free
open Classical in
noncomputable def zjY {R:Type} (a b:Option R):Option R:=if a=b then a else none
theorem zcH {R:Type} (a:Option R):zjY a a=a:=if_pos rfl
theorem zBS {R:Type} {a b:Option R} {r:R} (h:zjY a b=some r):a=some r∧b=some r:=by
 unfold zjY at h
 split at h
 ·rename_i e;exact ⟨h,e▸h⟩
 ·cases h
noncomputable def Dec.cps {α R:Type}:Dec E α→List (Blk E)→(α→List (Blk E)→Option R)→Option R
 | .ret a,H,K=>K a H
 | .fail,_,_=>none
 | .br b t e,H,K=>bif b then t.cps H K else e.cps H K
 | .opt _ o k,H,K=>o.bind fun x=>(k x).cps H K
 | .rd id k,H,K=>(k (zi H id)).cps H K
 | .wr id b k,H,K=>bif Nat.blt id H.length then k.cps (H.set id b) K else none
 | .any k,H,K=>zjY ((k true).cps H K) ((k false).cps H K)
@[reducible] def p1 {A B:Type} (x:A×B):A:=Prod.casesOn (motive:=fun _=>A) x (fun a _=>a)
@[reducible] def p2 {A B:Type} (x:A×B):B:=Prod.casesOn (motive:=fun _=>B) x (fun _ b=>b)
@[simp] theorem zGE {A B:Type} (x:A×B):p1 x=x.1:=rfl
@[simp] theorem zGD {A B:Type} (x:A×B):p2 x=x.2:=rfl
def HL.toP:(ts:List Ty)→HL E.T ts→List (ze E)
 | [],_=>[]
 | t::ts,x=> .v t (p1 x)::HL.toP ts (p2 x)
def wK (τ τ':Ty) (x:Den E.T τ):Option (Den E.T τ'):=if h:τ=τ' then some (h▸x) else none
def uB:ze E→List (ze E)
 | .agg cs=>cs
 | .v (.named n) x=>HL.toP (E.leaves n) (E.unpack n x)
 | p=>[p]
def Ty.leaf:Ty→Bool
 | .named _=>false | .arr _ _=>false | _=>true
def ze.leaf:ze E→Bool
 | .v τ _=>τ.leaf
 | .nils | .own _ | .full _ _ | .bsl _ _ | .ptr _ _ | .eptr _ _ _ _ | .rptr _ | .fn _ _ | .bfn _ _ | .nilfn | .nilp | .nilm | .map _=>true
 | _=>false
def wM (τ:Ty) (p:ze E) (H:List (Blk E)):Option (Den E.T τ×List Nat) :=
 match p with
 | .v τ' x=>(wK τ' τ x).bind fun y=>some (y,[])
 | .nils=>match τ with | .slice _=>some ([],[]) | _=>none
 | .own id=>match τ with
  | .slice e=>match zi H id with
   | .row _ e' l=>(wK (.slice e') (.slice e) l).bind fun y=>some (y,[id])
   | _=>none
  | _=>none
 | .full e' l=>match τ with
  | .slice e=>(wK (.slice e') (.slice e) l).bind fun y=>some (y,[])
  | _=>none
 | _=>none
def wj:(ts:List Ty)→List (ze E)→List (Blk E)→Option (HL E.T ts×List Nat)
 | [],[],_=>some ((),[])
 | t::ts,p::ps,H=>(wM t p H).bind fun x=>(wj ts ps H).bind fun y=>some ((x.1,y.1),x.2++y.2)
 | _,_,_=>none
def toT (τ:Ty) (p:ze E) (H:List (Blk E)):Option (Den E.T τ×List Nat) :=
 match p,τ with
 | .agg cs,.named n=>(wj (E.leaves n) cs H).bind fun x=>some (E.pack n x.1,x.2)
 | p,τ=>wM τ p H
def XT:(ts:List Ty)→List (ze E)→List (Blk E)→Option (HL E.T ts×List Nat)
 | [],[],_=>some ((),[])
 | t::ts,p::ps,H=>(toT t p H).bind fun x=>(XT ts ps H).bind fun y=>some ((x.1,y.1),x.2++y.2)
 | _,_,_=>none
def zyu (τ:Ty) (p:ze E):Option (Den E.T τ):=(toT τ p []).bind fun x=>some x.1
def frz:Blk E→Blk E
 | .row _ e l=> .row false e l
 | b=>b
inductive Z where
 | bool | int (k:IntKind) | str | slice | func | ptr | map
 deriving DecidableEq
structure TI where
 size:Nat
 agg:Bool
 fields:List (Nat×Nat)
 elem:Nat
 alen:Nat
 ty:Option Ty
 zero:List Z
 bytes:Nat
 sl:Bool
 fk:Bool
 cmp:Bool
 mp:Bool:=false
def Z.toP:Z→ze E
 | .bool=> .v .bool false | .int k=> .v (.int k) (zai k 0) | .str=> .v .str ByteArray.empty | .slice=> .nils | .func=> .nilfn | .ptr=> .nilp | .map=> .nilm
def Z.is:Z→Ty→Bool
 | .bool,.bool=>true | .int k,.int k'=>decide (k=k') | .str,.str=>true | .slice,.slice _=>true | _,_=>false
def look (tab:List (Nat×TI)) (t:Nat):Option TI:=match tab with
 | []=>none
 | (u,i)::r=>if Nat.beq u t then some i else look r t
def zjd (i:TI):ze E:=if i.agg then .agg (i.zero.map Z.toP) else match i.zero with | [z]=>z.toP | _=> .any
def zqJ:Value→ze E
 | .bool b=> .v .bool b
 | .int k n=>if zt1 k n then .v (.int k) (zai k n) else .any
 | .string s=> .v .str s
 | .slice none 0 0=> .nils
 | .nilFunc=> .nilfn
 | .pointer none=> .nilp
 | .map none=> .nilm
 | .agg cs=> .agg (cs.toList.map fun | .bool b=> .v .bool b | .int k n=>if zt1 k n then .v (.int k) (zai k n) else .any | .slice none 0 0=> .nils | .string s=> .v .str s | .nilFunc=> .nilfn | .pointer none=> .nilp | _=> .any)
 | _=> .any
def sub {α:Type} (cs:List α) (off n:Nat):List α:=(cs.drop off).take n
def V6 {α:Type} (cs:List α) (off:Nat) (xs:List α):List α:=cs.take off++xs++cs.drop (off+xs.length)
def zad (i:TI) (τ:Ty):Bool:=match i.ty with | some σ=>decide (σ=τ) | none=>false
def zmE (i:TI) (cs:List (ze E)):Dec E (ze E) :=
 if Nat.beq cs.length i.size then (if i.agg then .ret (.agg cs) else match cs with | [c]=> .ret c | _=> .fail) else .fail
def zfM (e:Ty) (x:Den E.T e):List (ze E):=uB (.v e x)
def zn5 {α:Type}:List (ze E)→Dec E α→Dec E α
 | [],k=>k
 | .own id::r,k=> .rd id fun
  | .rowh e l n j=> .rd j fun
   | .row true e' l'=>match wK (.slice e') (.slice e) l' with
    | some l'=> .wr j (.row false e l') (.wr id (.row true (.slice e) (l.set n l')) (zn5 r k))
    | none=> .fail
   | _=> .fail
  | _=>zn5 r k
 | _::r,k=>zn5 r k
def zxa (n:Nat) (e:Ty) (p:ze E):Dec E (ze E) :=
 match p with
 | .eptr e' id k off=>if Nat.beq k 0&&Nat.beq off 0&&decide (e=e')&&e.leaf then .rd id fun
   | .row _ e2 l=>match wK (.slice e2) (.slice e) l with
    | some l=> .br (decide (l.length=n)) (.ret (.v (.arr n e) l)) .fail
    | none=> .fail
   | _=> .fail
  else .fail
 | _=> .fail
def zdY (i:TI):Option (Nat×Ty):=match i.ty with
 | some (.arr n e)=>some (n,e)
 | _=>none
def zAA (mv:Bool) (i:TI) (p:ze E):Dec E (ze E) :=
 match zdY i with
 | some (n,e)=>zxa n e p
 | none=>match p with
 | .ptr id off=> .rd id fun
  | .box _ cs=>if mv then zn5 (sub cs off i.size) (zmE i (sub cs off i.size)) else zmE i (sub cs off i.size)
  | _=> .fail
 | .eptr e id n off=> .rd id fun
  | .rowh e' l n' k=>if Nat.beq off 0&&decide (e= .slice e') then .br (decide (n=n')) (zmE i [.own k]) .fail else .fail
  | .row _ e' l=>match wK (.slice e') (.slice e) l with
   | some l=> .opt _ (l[n]?) fun x=>if (zfM e x).all ze.leaf then zmE i (sub (zfM e x) off i.size) else .fail
   | none=> .fail
  | _=> .fail
 | .rptr cs=>zmE i (sub cs 0 i.size)
 | _=> .fail
def zbl {α:Type} (τ:Ty) (p:ze E) (k:Den E.T τ→Dec E α):Dec E α :=
 match p with
 | .own id=> .rd id fun
  | .row _ e l=> .wr id (.row false e l) (match zyu τ (.v (.slice e) l) with | some y=>k y | none=> .fail)
  | _=> .fail
 | .agg cs=>typedAgg cs []
 | p=>match zyu τ p with | some y=>k y | none=> .fail
where
 typedAgg:List (ze E)→List (ze E)→Dec E α
  | [],acc=>match zyu τ (.agg acc) with | some y=>k y | none=> .fail
  | .own id::r,acc=> .rd id fun
   | .row _ e l=> .wr id (.row false e l) (typedAgg r (acc++[.v (.slice e) l]))
   | _=> .fail
  | c::r,acc=>typedAgg r (acc++[c])
def zyW (n:Nat) (e:Ty) (p x:ze E):Dec E (ze E) :=
 match p,x with
 | .eptr e' id k off,.v (.arr n' e2) l'=>if Nat.beq k 0&&Nat.beq off 0&&decide (e=e')&&e.leaf&&decide (e2=e)&&Nat.beq n' n then .rd id fun
   | .row true e3 l=>match wK (E:=E) (.slice e2) (.slice e3) l' with
    | some l'=> .br (decide (l.length=n)) (.wr id (.row true e3 l') (.ret .skip)) .fail
    | none=> .fail
   | _=> .fail
  else .fail
 | _,_=> .fail
def zyl (e:Ty) (id n:Nat) (x:ze E):Dec E (ze E) :=
 match e,x with
 | .slice e,.own k=> .rd id fun
  | .row true e' l=>match wK (E:=E) (.slice e') (.slice (.slice e)) l with
   | some l=> .rd k fun
    | .row true e2 l2=>if decide (e2=e) then .wr id (.rowh e l n k) (.ret .skip) else .fail
    | _=> .fail
   | none=> .fail
  | _=> .fail
 | _,_=> .fail
def zy4 (mv:Bool) (i:TI) (p x:ze E):Dec E (ze E) :=
 match zdY i with
 | some (n,e)=>zyW n e p x
 | none =>
 let cx:=uB x
 if Nat.beq cx.length i.size&&cx.all ze.leaf then
  match p with
  | .ptr id off=> .rd id fun
   | .box true cs=>if Nat.ble (off+i.size) cs.length then .wr id (.box true (V6 cs off cx)) (.ret .skip) else .fail
   | _=> .fail
  | .eptr e id n off =>
   if Nat.beq off 0&&zad i e then
    if mv then zyl e id n x else
    zbl e x fun z=> .rd id fun
     | .row true e' l=>match wK (.slice e') (.slice e) l with
      | some l=> .wr id (.row true e (l.set n z)) (.ret .skip)
      | none=> .fail
     | _=> .fail
   else .fail
  | _=> .fail
 else .fail
def znz (s:TI) (p:ze E) (f:Nat):Dec E (ze E) :=
 match s.fields[f]? with
 | some (off,_)=>match p with
  | .ptr id o=> .ret (.ptr id (o+off))
  | .eptr e id n o=> .ret (.eptr e id n (o+off))
  | .rptr cs=> .ret (.rptr (cs.drop off))
  | _=> .fail
 | none=> .fail
def zpc:ze E→Option (List (ze E))
 | .agg cs=>some cs
 | .v (.named n) x=>some (HL.toP (E.leaves n) (E.unpack n x))
 | _=>none
def zxs (tab:List (Nat×TI)) (s:TI) (p:ze E) (f:Nat):Dec E (ze E) :=
 match s.fields[f]? with
 | some (off,t)=>match look tab t with
  | some i=>match zpc p with
   | some cs=>zmE i (sub cs off i.size)
   | none=> .fail
  | none=> .fail
 | none=> .fail
def vd:(t:Ty)→Option (Den E.T t)
 | .bool=>some false | .int k=>some (zai k 0) | .str=>some ByteArray.empty | .slice _=>some [] | _=>none
def choose (i:Int):Nat→(Nat→Dec E (ze E))→Dec E (ze E)
 | 0,_=> .fail
 | n+1,k=> .br (decide (i=(n:Int))) (k n) (choose i n k)
def znK (s u:TI) (p:ze E) (i:Int):Dec E (ze E) :=
 if s.sl then
  match p with
  | .v (.slice e) l=>if zad u e then .opt _ (idx l i) fun x=>if (zfM e x).all ze.leaf then .ret (.rptr (zfM e x)) else .fail else .fail
  | .full e l=>if zad u e then .opt _ (idx l i) fun x=>if (zfM e x).all ze.leaf then .ret (.rptr (zfM e x)) else .fail else .fail
  | .own id=> .rd id fun
   | .row _ e l=>if zad u e then .opt _ (xt l i) fun n=> .ret (.eptr e id n 0) else .fail
   | .rowh e l _ _=>if zad u (.slice e) then .opt _ (xt l i) fun n=> .ret (.eptr (.slice e) id n 0) else .fail
   | _=> .fail
  | .bsl id n=>choose i n fun k=> .ret (.ptr id (k*u.size))
  | _=> .fail
 else match p with
 | .ptr id off=>if s.agg then choose i s.alen fun k=> .ret (.ptr id (off+k*u.size)) else .fail
 | .eptr e id k off=>if s.agg&&Nat.blt 0 s.alen&&Nat.beq k 0&&Nat.beq off 0&&zad u e then .rd id fun
   | .row _ e' l=>if decide (e'=e) then .opt _ (zeW l s.alen i) fun n=> .ret (.eptr e id n 0) else .fail
   | _=> .fail
  else .fail
 | _=> .fail
def zym (s u:TI) (p:ze E) (i:Int):Dec E (ze E) :=
 match p with
 | .v (.arr n e) l=>if s.agg&&Nat.blt 0 s.alen&&Nat.beq n s.alen&&zad u e&&e.leaf then .opt _ (zeW l s.alen i) fun k=> .opt _ (l[k]?) fun x=> .ret (.v e x) else .fail
 | _=> .fail
def zxk (i:TI) (fresh:Nat):Dec E (ze E) :=
 match zdY i with
 | some (n,e)=>match vd (E:=E) e with
  | some z=>if Nat.blt 0 n&&i.zero.all (fun q=>q.is e) then .wr fresh (.row true e (List.replicate n z)) (.ret (.eptr e fresh 0 0)) else .fail
  | none=> .fail
 | none=> .wr fresh (.box true (i.zero.map Z.toP)) (.ret (.ptr fresh 0))
def zDC (i:TI) (fresh:Nat) (x:ze E):Dec E (ze E) :=
 match zdY i with
 | some (n,e)=>match x with
  | .v (.arr n' e') l=>if Nat.blt 0 n&&Nat.beq n n'&&e'.leaf&&decide (e=e') then .wr fresh (.row true e' l) (.ret (.eptr e' fresh 0 0)) else .fail
  | _=> .fail
 | none=>if Nat.beq (uB x).length i.size&&(uB x).all ze.leaf then .wr fresh (.box true (uB x)) (.ret (.ptr fresh 0)) else .fail
def Wy (p:Option (ze E)) (d:Int):Option Int:=match p with
 | none=>some d
 | some (.v (.int .i64) x)=>some x
 | _=>none
def zvA (i:TI) (u:Option TI) (e:Ty):Bool:=i.sl&&(match u with | some u=>zad u e | none=>false)
def zyA (i:TI) (u:Option TI) (mv:Bool) (fresh:Nat) (p:ze E) (lo hi mx:Option (ze E)):Dec E (ze E) :=
 match mx with
 | none=>match p with
  | .v (.slice e) l=>if zvA i u e then (match Wy lo 0,Wy hi l.length with
   | some a,some b=> .opt _ (cut l a b) fun l'=> .ret (.v (.slice e) l')
   | _,_=> .fail) else .fail
  | .v .str s=>if zad i .str then (match Wy lo 0,Wy hi s.size with
   | some a,some b=> .br (decide (0≤a)&&decide (a≤b)&&decide (b≤s.size)) (.ret (.v .str (s.extract a.toNat b.toNat))) .fail
   | _,_=> .fail) else .fail
  | .nils=>if i.sl&&u.isSome then (match Wy lo 0,Wy hi 0 with
   | some a,some b=> .br (decide (a=0)&&decide (b=0)) (.ret .nils) .fail
   | _,_=> .fail) else .fail
  | .own id=> .rd id fun
   | .row w e l=>if zvA i u e then (match Wy lo 0,Wy hi l.length with
    | some a,some b =>
     if mv then (if w then .opt _ (cut l a b) fun l'=> .wr id .dead (.wr fresh (.row true e l') (.ret (.own fresh))) else .fail)
     else .wr id (.row false e l) (.opt _ (cut l a b) fun l'=> .ret (.v (.slice e) l'))
    | _,_=> .fail) else .fail
   | _=> .fail
  | _=> .fail
 | some m=>match p with
  | .v (.slice e) l=>if zvA i u e then (match Wy lo 0,hi,Wy (some m) 0 with
   | some a,some b,some c=>match Wy (some b) 0 with
    | some b=> .br (decide (a=0)&&decide (b=0)&&decide (c=0)) (.ret .nils)
     (.br (decide (a=0)&&decide (b=l.length)&&decide (c=l.length)) (.ret (.full e l)) (.br (decide (b=c)) (.opt _ (cut l a b) fun l'=> .ret (.v (.slice e) l')) .fail))
    | none=> .fail
   | _,_,_=> .fail) else .fail
  | .nils=>if i.sl&&u.isSome then (match Wy lo 0,hi,Wy (some m) 0 with
   | some a,some b,some c=>match Wy (some b) 0 with
    | some b=> .br (decide (a=0)&&decide (b=0)&&decide (c=0)) (.ret .nils) .fail
    | none=> .fail
   | _,_,_=> .fail) else .fail
  | .own id=> .rd id fun
   | .row _ e l=>if zvA i u e then (match Wy lo 0,hi,Wy (some m) 0 with
    | some a,some b,some c=>match Wy (some b) 0 with
     | some b=> .br (decide (a=0)&&decide (b=0)&&decide (c=0)) (.wr id (.row false e l) (.ret .nils))
      (.br (decide (a=0)&&decide (b=l.length)&&decide (c=l.length)) (.wr id (.row false e l) (.ret (.full e l))) .fail)
     | none=> .fail
    | _,_,_=> .fail) else .fail
   | _=> .fail
  | _=> .fail
def zDT (i:TI) (p:ze E):Dec E (ze E) :=
 if i.sl then
  match p with
  | .v (.slice _) l=> .ret (.v (.int .i64) (l.length:Int))
  | .full _ l=> .ret (.v (.int .i64) (l.length:Int))
  | .nils=> .ret (.v (.int .i64) (0:Int))
  | .bsl _ n=> .ret (.v (.int .i64) (n:Int))
  | .own id=> .rd id fun
   | .row _ _ l=> .ret (.v (.int .i64) (l.length:Int))
   | _=> .fail
  | _=> .fail
 else if zad i .str then
  match p with
  | .v .str s=> .ret (.v (.int .i64) (s.size:Int))
  | _=> .fail
 else .fail
def zut:(ts:List Ty)→Option (HL E.T ts)
 | []=>some ()
 | t::ts=>match vd (E:=E) t,zut ts with | some x,some y=>some (x,y) | _,_=>none
def zqD (t:Ty):Option (Den E.T t):=match t with
 | .named n=>(zut (E:=E) (E.leaves n)).map (E.pack n)
 | t=>vd t
def zqG (e:Ty) (fresh:Nat) (p:ze E) (l2:List (Den E.T e)):Dec E (ze E) :=
 match p with
 | .nils=> .opt _ (yc l2) fun l=> .wr fresh (.row true e l) (.ret (.own fresh))
 | .own id=> .rd id fun
  | .row true e' l=>match wK (.slice e') (.slice e) l with
   | some l=> .opt _ (yc (l++l2)) fun l'=> .wr id .dead (.wr fresh (.row true e l') (.ret (.own fresh)))
   | none=> .fail
  | _=> .fail
 | .full e' l=>match wK (.slice e') (.slice e) l with
  | some l=>match l2 with
   | []=> .fail
   | _::_=> .opt _ (yc (l++l2)) fun l'=> .wr fresh (.row true e l') (.ret (.own fresh))
  | none=> .fail
 | _=> .fail
def zvG (e:Ty) (fresh:Nat) (p x:ze E):Dec E (ze E):=zbl (.slice e) x (zqG e fresh p)
def zD3 (e:Ty) (p:ze E) (l2:List (Den E.T e)):Dec E (ze E) :=
 match p with
 | .own id=> .rd id fun
  | .row true e' l=>match wK (.slice e') (.slice e) l with
   | some l=> .br (decide (l2.length=l.length)) (.br l2.isEmpty (.ret (.v (.int .i64) (0:Int))) (.wr id (.row true e l2) (.ret (.v (.int .i64) (l2.length:Int))))) .fail
   | none=> .fail
  | _=> .fail
 | _=> .fail
def zA1 (e:Ty) (p x:ze E):Dec E (ze E):=zbl (.slice e) x (zD3 e p)
def zgO (n:Int):Option Nat:=zhE (fun n:Int=>bif decide (0<n)&&decide (n<4294967296) then some n.toNat else none) n
theorem zuk (n:Int):zgO n=bif decide (0<n)&&decide (n<4294967296) then some n.toNat else none:=by delta zgO;rw [VQ]
def zsv (e:Ty) (fresh:Nat) (p x:ze E):Dec E (ze E) :=
 match zqD (E:=E) e,x with
 | some z,.v (.int .i64) n=> .opt _ (zgO n) fun k=>match p with
  | .full _ _=> .fail
  | p=>zqG e fresh p (List.replicate k z)
 | _,_=> .fail
def znr (e:Ty) (fresh:Nat) (p c:ze E):Dec E (ze E) :=
 match p,c with
 | .v (.int .i64) n,.v (.int .i64) m=>match zqD e with
  | some z=> .br (decide (n=m)) (.opt _ (Wf n) fun k=> .wr fresh (.row true e (List.replicate k z)) (.ret (.own fresh))) .fail
  | none=> .fail
 | _,_=> .fail
def zjM (fields:Nat→Option (Nat×Nat)) (cs:List (ze E)):List (Nat×ze E)→Option (List (ze E))
 | []=>some cs
 | (i,x)::r=>match fields i with
  | some (off,n)=>if Nat.beq (uB x).length n&&Nat.ble (off+n) cs.length then zjM fields (V6 cs off (uB x)) r else none
  | none=>none
def zxp (tab:List (Nat×TI)) (i:TI) (parts:List (Nat×ze E)):Dec E (ze E) :=
 let place (j:Nat):Option (Nat×Nat):=match i.fields[j]? with
  | some (off,t)=>(look tab t).map fun u=>(off,u.size)
  | none=>if Nat.blt j i.alen then (look tab i.elem).map fun u=>(j*u.size,u.size) else none
 if i.agg&&parts.all (fun p=>(uB p.2).all ze.leaf) then
  match zjM place (i.zero.map Z.toP) parts with
  | some cs=> .ret (.agg cs)
  | none=> .fail
 else .fail
def zgk {α:Type} (e:Ty) (k:List (Den E.T e)→Dec E α):List (ze E)→List (Den E.T e)→Dec E α
 | [],acc=>k acc
 | p::r,acc=>zbl e p fun x=>zgk e k r (acc++[x])
def zlK (i u:TI) (fresh:Nat) (len:Nat) (parts:List (Nat×ze E)):Dec E (ze E) :=
 if i.sl&&decide (parts.map (·.1)=List.range len)&&Nat.ble (len*u.size) 16777216 then
  match i.ty with
  | some (.slice e)=>zgk e (fun l=> .wr fresh (.row true e l) (.ret (.own fresh))) (parts.map (·.2)) []
  | _=>if Nat.beq u.size 1&&parts.all (fun p=>p.2.leaf) then .wr fresh (.box true (parts.map (·.2))) (.ret (.bsl fresh len)) else .fail
 else .fail
def zpz (i:TI) (p q:ze E):Option Bool:=match p,q with
 | .v .bool a,.v .bool b=>if zad i .bool then some (decide (a=b)) else none
 | .v (.int k) a,.v (.int k') b=>if zad i (.int k) then (wK (E:=E) (.int k') (.int k) b).map fun b=>ieq k a b else none
 | .v .str a,.v .str b=>if zad i .str then some (decide (a=b)) else none
 | .nilfn,.nilfn=>if i.fk then some true else none
 | .nilfn,.fn _ _=>if i.fk then some false else none
 | .fn _ _,.nilfn=>if i.fk then some false else none
 | _,_=>none
def zhL:List (Option Bool)→Option Bool
 | []=>some true
 | [a]=>a
 | a::r=>match a,zhL r with | some x,some y=>some (x&&y) | _,_=>none
def eqT (tab:List (Nat×TI)):Nat→TI→List (ze E)→List (ze E)→Option Bool
 | 0,_,_,_=>none
 | d+1,i,ps,qs =>
  if i.agg then
   if i.cmp then
    if Nat.beq i.alen 0 then zhL (i.fields.map fun f=>match look tab f.2 with | some u=>eqT tab d u (sub ps f.1 u.size) (sub qs f.1 u.size) | none=>none)
    else match look tab i.elem with
     | some u=>zhL ((List.range i.alen).map fun j=>eqT tab d u (sub ps (j*u.size) u.size) (sub qs (j*u.size) u.size))
     | none=>none
   else none
  else match ps,qs with
   | [p],[q]=>zpz i p q
   | _,_=>none
def WR (b:Bool):Dec E (ze E):= .ret (.v .bool b)
def Y3 (k:IntKind) (o:Option (zN k)):Dec E (ze E):=match o with | some x=> .ret (.v (.int k) x) | none=> .fail
def zm2:(k:IntKind)→zN k→Bool
 | k,x=>ieq k x (zai k 0)
def eqD (tab:List (Nat×TI)) (i:TI) (p q:ze E):Option Bool :=
 if i.agg then match zpc p,zpc q with | some a,some b=>eqT tab 50 i a b | _,_=>none else zpz i p q
def zC8 (tab:List (Nat×TI)) (i:TI) (op:BinOp) (p q:ze E):Dec E (ze E) :=
 match op with
 | .eql=>match eqD tab i p q with | some b=>WR b | none=> .fail
 | .neq=>match eqD tab i p q with | some b=>WR (!b) | none=> .fail
 | .shl=>match p,q with
  | .v (.int k) a,.v (.int .i64) n=> .br (decide (n<0)) .fail (Y3 k (zyR k a (min n.toNat k.bits)))
  | .v (.int k) a,.v (.int .u64) n=>Y3 k (zyR k a (min n.toNat k.bits))
  | _,_=> .fail
 | .shr=>match p,q with
  | .v (.int k) a,.v (.int .i64) n=> .br (decide (n<0)) .fail (Y3 k (zyL k a (min n.toNat k.bits)))
  | .v (.int k) a,.v (.int .u64) n=>Y3 k (zyL k a (min n.toNat k.bits))
  | _,_=> .fail
 | op=>match p,q with
  | .v (.int k) a,.v (.int k') b=>match wK (E:=E) (.int k') (.int k) b with
   | some b=>match op with
    | .add=>Y3 k (zC1 k a b) | .sub=>Y3 k (zDh k a b) | .mul=>Y3 k (zCQ k a b)
    | .quo=> .br (zm2 k b) .fail (Y3 k (zvs k a b)) | .rem=> .br (zm2 k b) .fail (Y3 k (zDg k a b))
    | .and=>Y3 k (zDi k a b) | .or=>Y3 k (ior k a b) | .xor=>Y3 k (zCS k a b) | .andNot=>Y3 k (zvo k a b)
    | .lss=>WR (ilt k a b) | .leq=>WR (ile k a b) | .gtr=>WR (ilt k b a) | .geq=>WR (ile k b a)
    | _=> .fail
   | none=> .fail
  | .v .str a,.v .str b=>match op with
   | .add=> .br (decide (a.size+b.size<4294967296)) (.ret (.v .str (a++b))) .fail
   | _=> .fail
  | _,_=> .fail
def unD (op:UnOp) (p:ze E):Dec E (ze E) :=
 match op,p with
 | .not,.v .bool b=>WR (!b)
 | .neg,.v (.int .u64) x=> .ret (.v (.int .u64) (0-x))
 | .neg,.v (.int .i64) x=> .ret (.v (.int .i64) (w64 (0-x)))
 | .xor,.v (.int .u64) x=> .ret (.v (.int .u64) (~~~x))
 | _,_=> .fail
def zAx (d:TI) (p:ze E):Dec E (ze E) :=
 match p,d.ty with
 | .v (.int k) x,some (.int k')=>Y3 k' (zAY k k' x)
 | .v .str s,some .str=> .ret (.v .str s)
 | _,_=> .fail
def zeH (i:Int) (z:ze E) (ok:Bool):List (ze E×ze E)→Dec E (ze E)
 | []=> .ret (if ok then .tuple [z,.v .bool false] else z)
 | (.v (.int .i64) k,x)::r=> .br (decide (i=k)) (.ret (if ok then .tuple [x,.v .bool true] else x)) (zeH i z ok r)
 | _::_=> .fail
def zrW (i:TI) (z:ze E) (p k:ze E) (ok:Bool):Dec E (ze E) :=
 if i.mp then match k with
 | .v (.int .i64) n=>match p with
  | .map id=> .rd id fun
   | .map _ es=>zeH n z ok es
   | _=> .fail
  | .nilm=> .ret (if ok then .tuple [z,.v .bool false] else z)
  | _=> .fail
 | _=> .fail
 else .fail
def zpl (id:Nat) (i:Int) (x:ze E):List (ze E×ze E)→List (ze E×ze E)→Dec E (ze E)
 | acc,[]=> .wr id (.map true (acc++[(.v (.int .i64) i,x)])) (.ret .skip)
 | acc,(.v (.int .i64) k,y)::r=> .br (decide (i=k)) (.wr id (.map true (acc++(.v (.int .i64) i,x)::r)) (.ret .skip)) (zpl id i x (acc++[(.v (.int .i64) k,y)]) r)
 | _,_=> .fail
def zuW (i:TI) (p k x:ze E):Dec E (ze E) :=
 if i.mp then match k with
 | .v (.int .i64) n=>match p with
  | .map id=> .rd id fun
   | .map true es=>zpl id n x [] es
   | _=> .fail
  | _=> .fail
 | _=> .fail
 else .fail
def zBJ:Operand→Bool
 | .const (.slice none 0 0)=>true
 | _=>false
def zyr (i:TI) (op:BinOp) (p:ze E):Dec E (ze E) :=
 if i.sl then
  match op with
  | .eql=>go fun b=>b
  | .neq=>go fun b=> !b
  | _=> .fail
 else .fail
where
 go (f:Bool→Bool):Dec E (ze E):=match p with
  | .v (.slice _) l=> .br l.isEmpty (.any fun b=>WR (f b)) (WR (f false))
  | .nils=> .any fun b=>WR (f b)
  | .own id=> .rd id fun
   | .row _ _ l=> .br l.isEmpty (.any fun b=>WR (f b)) (WR (f false))
   | _=> .fail
  | .bsl _ _=>WR (f false)
  | _=> .fail
def opD (tab:List (Nat×TI)) (mv:Bool) (fresh:Nat) (ρ:Operand→ze E) (o:Op):Dec E (ze E) :=
 let T {α:Type} (t:Nat) (k:TI→Dec E α):Dec E α:=match look tab t with | some i=>k i | none=> .fail
 match o with
 | .move x | .assign x=> .ret (ρ x)
 | .pick c a b=>match ρ c with
  | .v .bool t=> .br t (.ret (ρ a)) (.ret (ρ b))
  | _=> .fail
 | .alloc t=>T t fun i=>zxk i fresh
 | .box t x=>T t fun i=>zDC i fresh (ρ x)
 | .build t parts=>T t fun i=>zxp tab i (parts.toList.map fun p=>(p.1,ρ p.2))
 | .buildSlice t len parts=>T t fun i=>T i.elem fun u=>zlK i u fresh len (parts.toList.map fun p=>(p.1,ρ p.2))
 | .load t a=>T t fun i=>zAA mv i (ρ a)
 | .store t a x=>T t fun i=>zy4 mv i (ρ a) (ρ x)
 | .nilCheck x=>match ρ x with
  | .ptr id off=> .ret (.ptr id off) | .eptr e id n off=> .ret (.eptr e id n off) | .rptr cs=> .ret (.rptr cs) | .fn f cs=> .ret (.fn f cs) | _=> .fail
 | .binOp op t x y _=>T t fun i=>if zBJ y then zyr i op (ρ x) else zC8 tab i op (ρ x) (ρ y)
 | .unOp op _ x=>unD op (ρ x)
 | .convert s d x=>T s fun _=>T d fun i=>zAx i (ρ x)
 | .makeFunc (.func f) first captured=>if first.isEmpty then .ret (.fn f (captured.toList.map ρ)) else if captured.isEmpty then .ret (.bfn f (first.toList.map ρ)) else .fail
 | .makeSlice t l c=>T t fun i=>match i.ty with | some (.slice e)=>znr e fresh (ρ l) (ρ c) | _=> .fail
 | .slice t x lo hi mx=>T t fun i=>zyA i (look tab i.elem) mv fresh (ρ x) (lo.map ρ) (hi.map ρ) (mx.map ρ)
 | .fieldAddr t x f=>T t fun i=>znz i (ρ x) f
 | .field t x f=>T t fun i=>zxs tab i (ρ x) f
 | .indexAddr t x ix=>T t fun i=>T i.elem fun u=>match ρ ix with
  | .v (.int .i64) k=>znK i u (ρ x) k
  | _=> .fail
 | .index t x ix=>T t fun i=>T i.elem fun u=>match ρ ix with
  | .v (.int .i64) k=>zym i u (ρ x) k
  | _=> .fail
 | .makeMap _ none=> .wr fresh (.map true []) (.ret (.map fresh))
 | .insert t m k x=>T t fun i=>zuW i (ρ m) (ρ k) (ρ x)
 | .lookup t m k ok=>T t fun i=>T i.elem fun u=>zrW i (zjd u) (ρ m) (ρ k) ok
 | .extract t n=>match ρ t with
  | .tuple vs=>match vs[n]? with | some p=> .ret p | none=> .fail
  | _=> .fail
 | .call {callee:= .builtin .len,args,argTypes}=>match argTypes[0]?,args[0]? with
  | some t,some x=>T t fun i=>zDT i (ρ x)
  | _,_=> .fail
 | .call {callee:= .builtin .append,args,argTypes}=>match argTypes.toList,args.toList with
  | [t,t2],[x,y]=>T t fun i=>T t2 fun j=>match i.ty with
   | some (.slice e)=>if j.sl then zvG e fresh (ρ x) (ρ y) else if zad j (.int .i64) then zsv e fresh (ρ x) (ρ y) else .fail
   | _=> .fail
  | _,_=> .fail
 | .call {callee:= .builtin .copy,args,argTypes}=>match argTypes.toList,args.toList with
  | [t,t2],[x,y]=>T t fun i=>T t2 fun j=>match i.ty with
   | some (.slice e)=>if j.sl then zA1 e (ρ x) (ρ y) else .fail
   | _=> .fail
  | _,_=> .fail
 | .call {callee:= .builtin .min,args,..}=>match args.toList.map ρ with
  | [.v (.int .i64) a,.v (.int .i64) b]=>Y3 .i64 (zsA .i64 a b)
  | [.v (.int .u64) a,.v (.int .u64) b]=>Y3 .u64 (zsA .u64 a b)
  | [.v (.int .i64) a,.v (.int .i64) b,.v (.int .i64) c]=>match zsA .i64 a b with | some x=>Y3 .i64 (zsA .i64 x c) | none=> .fail
  | _=> .fail
 | .call {callee:= .builtin .max,args,..}=>match args.toList.map ρ with
  | [.v (.int .i64) a,.v (.int .i64) b]=>Y3 .i64 (zrU .i64 a b)
  | [.v (.int .u64) a,.v (.int .u64) b]=>Y3 .u64 (zrU .u64 a b)
  | [.v (.int .i64) a,.v (.int .i64) b,.v (.int .i64) c]=>match zrU .i64 a b with | some x=>Y3 .i64 (zrU .i64 x c) | none=> .fail
  | _=> .fail
 | _=> .fail
end
end Go.Pe
namespace Go.Pe
noncomputable section
variable {E:yg}
inductive SK where
 | any | val (τ:Ty) | ptr (j:Nat) | own (j:Nat) | fn (f:FuncId) (caps:List SK) | bsl (j n:Nat) | nilfn | nils | map (j:Nat) | yld | full (e:Ty) | aptr (e:Ty) (j:Nat)
inductive BK where
 | box (w:Bool) (ks:List SK) | row (w:Bool) (e:Ty) | gone | map (es:List (Int×SK))
structure xG where
 vals:List SK
 blks:List BK
mutual
def SK.holes:SK→List Ty
 | .val τ=>[τ]
 | .full e=>[.slice e]
 | .yld=>[.int .i64,.int .i64]
 | .fn _ ks=>SK.holesL ks
 | _=>[]
def SK.holesL:List SK→List Ty
 | []=>[]
 | k::ks=>k.holes++SK.holesL ks
end
def BK.holes:BK→List Ty
 | .box _ ks=>SK.holesL ks
 | .row _ e=>[.slice e]
 | .gone=>[]
 | .map es=>SK.holesL (es.map (·.2))
def BK.holesL:List BK→List Ty
 | []=>[]
 | b::bs=>b.holes++BK.holesL bs
def xG.holes (S:xG):List Ty:=SK.holesL S.vals++BK.holesL S.blks
def zqy (e:Ty) (p:ze E):ze E:=match p with
 | .v (.slice e') l=>match wK (E:=E) (.slice e') (.slice e) l with | some l=> .full e l | none=> .any
 | _=> .any
def zxe (p q:ze E):ze E:=match p,q with
 | .v (.int .i64) n,.v (.int .i64) i=> .yld n i
 | _,_=> .any
mutual
def xH (N:Nat→Nat):SK→List (ze E)→ze E×List (ze E)
 | .any,r=>(.any,r)
 | .val _,p::r=>(p,r)
 | .val _,[]=>(.any,[])
 | .full e,p::r=>(zqy e p,r)
 | .full _,[]=>(.any,[])
 | .aptr e j,r=>(.eptr e (N j) 0 0,r)
 | .ptr j,r=>(.ptr (N j) 0,r)
 | .own j,r=>(.own (N j),r)
 | .bsl j n,r=>(.bsl (N j) n,r)
 | .nilfn,r=>(.nilfn,r)
 | .nils,r=>(.nils,r)
 | .map j,r=>(.map (N j),r)
 | .yld,p::q::r=>(zxe p q,r)
 | .yld,r=>(.any,r)
 | .fn f ks,r=>let x:=yb N ks r;(.fn f x.1,x.2)
def yb (N:Nat→Nat):List SK→List (ze E)→List (ze E)×List (ze E)
 | [],r=>([],r)
 | k::ks,r=>let x:=xH N k r;let y:=yb N ks x.2;(x.1::y.1,y.2)
end
def wi (N:Nat→Nat):BK→List (ze E)→Blk E×List (ze E)
 | .box w ks,r=>let x:=yb N ks r;(.box w x.1,x.2)
 | .row w e,p::r=>(match p with | .v (.slice e') l=>(match wK (E:=E) (.slice e') (.slice e) l with | some l=> .row w e l | none=> .free) | _=> .free,r)
 | .row _ _,[]=>(.free,[])
 | .gone,r=>(.free,r)
 | .map es,r=>let x:=yb N (es.map (·.2)) r;(.map false (((es.map (·.1)).map fun k=>ze.v (.int .i64) k).zip x.1),x.2)
def yj (N:Nat→Nat):List BK→List (ze E)→List (Blk E)
 | [],_=>[]
 | b::bs,r=>let x:=wi N b r;x.1::yj N bs x.2
def ym (N:Nat→Nat) (S:xG) (ps:List (ze E)):List (ze E)×List (Blk E) :=
 let x:=yb N S.vals ps
 (x.1,yj N S.blks x.2)
abbrev Ren:=List (Nat×Option Nat)
def Ren.get (ρ:Ren) (j:Nat):Option (Option Nat):=match ρ with
 | []=>none
 | (i,x)::r=>if Nat.beq i j then some x else Ren.get r j
def Ren.bind (ρ:Ren) (j:Nat) (x:Option Nat):Option Ren:=match ρ.get j with
 | none=>some (ρ++[(j,x)])
 | some (some y)=>match x with | some z=>if Nat.beq y z then some ρ else none | none=>none
 | some none=>none
mutual
def xz:SK→ze E→Ren×List (ze E)→Option (Ren×List (ze E))
 | .any,_,s=>some s
 | .val _,p,s=>some (s.1,s.2++[p])
 | .ptr j,.ptr id off,s=>if Nat.beq off 0 then (s.1.bind j (some id)).map fun ρ=>(ρ,s.2) else none
 | .full e,.full e' l,s=>if decide (e=e') then some (s.1,s.2++[.v (.slice e') l]) else none
 | .aptr e j,.eptr e' id k off,s=>if decide (e=e')&&Nat.beq k 0&&Nat.beq off 0 then (s.1.bind j (some id)).map fun ρ=>(ρ,s.2) else none
 | .own j,.own id,s=>(s.1.bind j (some id)).map fun ρ=>(ρ,s.2)
 | .own j,.nils,s=>(s.1.bind j none).map fun ρ=>(ρ,s.2)
 | .bsl j n,.bsl id m,s=>if Nat.beq n m then (s.1.bind j (some id)).map fun ρ=>(ρ,s.2) else none
 | .nilfn,.nilfn,s=>some s
 | .nils,.nils,s=>some s
 | .map j,.map id,s=>(s.1.bind j (some id)).map fun ρ=>(ρ,s.2)
 | .yld,.yld n i,s=>some (s.1,s.2++[.v (.int .i64) n,.v (.int .i64) i])
 | .fn f ks,.fn g ps,s=>if Nat.beq f g then Zk ks ps s else none
 | _,_,_=>none
def Zk:List SK→List (ze E)→Ren×List (ze E)→Option (Ren×List (ze E))
 | [],[],s=>some s
 | k::ks,p::ps,s=>match xz k p s with | some s=>Zk ks ps s | none=>none
 | _,_,_=>none
end
def SK.solid:SK→Bool
 | .any=>false | .val τ=>τ.leaf | .yld=>false | _=>true
def ziX:List Int→List (ze E×ze E)→Bool
 | [],[]=>true
 | k::ks,(.v (.int .i64) n,_)::es=>decide (k=n)&&ziX ks es
 | _,_=>false
def vn (H:List (Blk E)):List BK→Nat→Ren×List (ze E)→Option (Ren×List (ze E))
 | [],_,s=>some s
 | .gone::bs,j,s=>vn H bs (j+1) s
 | b::bs,j,s=>match s.1.get j with
  | some (some id)=>match b,zi H id with
   | .box w ks,.box w' cs=>if (!w||w')&&ks.all SK.solid then (match Zk ks cs s with | some s=>vn H bs (j+1) s | none=>none) else none
   | .row w e,.row w' e' l=>if w==w' then (match wK (E:=E) (.slice e') (.slice e) l with | some l=>vn H bs (j+1) (s.1,s.2++[.v (.slice e) l]) | none=>none) else none
   | .map ks,.map _ es=>if ziX (ks.map (·.1)) es then (match Zk (ks.map (·.2)) (es.map (·.2)) s with | some s=>vn H bs (j+1) s | none=>none) else none
   | _,_=>none
  | some none=>match b with
   | .row _ e=>vn H bs (j+1) (s.1,s.2++[.v (.slice e) []])
   | _=>none
  | none=>none
def Ren.ids:Ren→List Nat
 | []=>[]
 | (_,some id)::r=>id::Ren.ids r
 | (_,none)::r=>Ren.ids r
def zjb:List Nat→Bool
 | []=>true
 | a::r=> !(r.any fun b=>Nat.beq a b)&&zjb r
def znj (a b:List Nat):Bool:=a.all fun x=> !(b.any fun y=>Nat.beq x y)
def Ren.under (ρ:Ren) (bs:List BK):Bool:=ρ.all fun x=>match bs[x.1]? with | some .gone=>false | some _=>true | none=>false
def Wk (ρ0:Ren) (S:xG) (ps:List (ze E)) (H:List (Blk E)):Option (HL E.T S.holes×Ren×List Nat) :=
 match Zk S.vals ps (ρ0,[]) with
 | some s=>match vn H S.blks 0 s with
  | some s=>match XT S.holes s.2 H with
   | some x=>if s.1.under S.blks&&zjb s.1.ids&&znj s.1.ids x.2 then some (x.1,s.1,x.2) else none
   | none=>none
  | none=>none
 | none=>none
structure Iso (E:yg) (ts:List Ty) where
 G:Type
 to:G→HL E.T ts
 of:HL E.T ts→G
 law: ∀x,to (of x)=x
inductive Grp where
 | one (τ:Ty) | str (n:Nat)
def Zz (E:yg):List Grp→List Ty
 | []=>[]
 | .one τ::gs=>τ::Zz E gs
 | .str n::gs=>E.leaves n++Zz E gs
@[reducible] def GL (E:yg):List Grp→Type
 | []=>Unit
 | .one τ::gs=>Den E.T τ×GL E gs
 | .str n::gs=>E.T n×GL E gs
def HL.app {T:Nat→Type}:(a b:List Ty)→HL T a→HL T b→HL T (a++b)
 | [],_,_,y=>y
 | _::a,b,x,y=>(p1 x,HL.app a b (p2 x) y)
def HL.fst {T:Nat→Type}:(a b:List Ty)→HL T (a++b)→HL T a
 | [],_,_=>()
 | _::a,b,x=>(p1 x,HL.fst a b (p2 x))
def HL.snd {T:Nat→Type}:(a b:List Ty)→HL T (a++b)→HL T b
 | [],_,x=>x
 | _::a,b,x=>HL.snd a b (p2 x)
theorem HL.app_fst_snd {T:Nat→Type}: ∀(a b:List Ty) (x:HL T (a++b)),HL.app a b (HL.fst a b x) (HL.snd a b x)=x
 | [],_,_=>rfl
 | _::a,b,x=>by simp only [HL.app,HL.fst,HL.snd,HL.app_fst_snd a b];rfl
def GL.to:(gs:List Grp)→GL E gs→HL E.T (Zz E gs)
 | [],_=>()
 | .one _::gs,x=>(p1 x,GL.to gs (p2 x))
 | .str n::gs,x=>HL.app (E.leaves n) (Zz E gs) (E.unpack n (p1 x)) (GL.to gs (p2 x))
def GL.of:(gs:List Grp)→HL E.T (Zz E gs)→GL E gs
 | [],_=>()
 | .one _::gs,x=>(p1 x,GL.of gs (p2 x))
 | .str n::gs,x=>(E.pack n (HL.fst (E.leaves n) (Zz E gs) x),GL.of gs (HL.snd (E.leaves n) (Zz E gs) x))
theorem GL.to_of: ∀(gs:List Grp) (x:HL E.T (Zz E gs)),GL.to gs (GL.of gs x)=x
 | [],_=>rfl
 | .one _::gs,x=>by simp only [GL.to,GL.of,GL.to_of gs];rfl
 | .str n::gs,x=>by simp only [GL.to,GL.of,GL.to_of gs,E.up];exact HL.app_fst_snd _ _ _
def HL.cast {T:Nat→Type} {a b:List Ty} (h:a=b) (x:HL T a):HL T b:=h▸x
def grp {ts:List Ty} (gs:List Grp) (h:Zz E gs=ts):Iso E ts :=
 {G:=GL E gs,to:=fun g=>HL.cast h (GL.to gs g),of:=fun x=>GL.of gs (HL.cast h.symm x),law:=fun x=>by subst h;exact GL.to_of gs x}
structure zy (E:yg) where
 inn:xG
 out:xG
 gi:Iso E inn.holes
 go:Iso E out.holes
 F:gi.G→Option go.G
inductive yA (A B C:Type) where
 | again (a:A) | brk (b:B) | ret (c:C)
structure zL (E:yg) where
 slots:List Nat
 inn:xG
 brkId:Nat
 bslots:List Nat
 brk:xG
 rslots:List Nat
 ret:xG
 gi:Iso E inn.holes
 gb:Iso E brk.holes
 gr:Iso E ret.holes
inductive Ex where
 | normal | exit (id:Nat) | ret
 deriving DecidableEq
def upd (H:List (Blk E)):List Nat→List (Blk E)
 | []=>H
 | id::r=>upd (H.set id (frz (zi H id))) r
def VJ (fresh:Nat):List (Blk E)→Nat→List (Blk E)→List (Blk E)
 | [],_,H=>H
 | b::bs,t,H=>VJ fresh bs (t+1) (H.set (fresh+t) b)
def xQ (ρ:Ren) (fresh:Nat):List BK→List BK→List (Blk E)→Nat→List (Blk E)→Option (List (Blk E))
 | [],_,bs,_,H=>some (VJ fresh bs 0 H)
 | .box true _::ks,.box true _::os,b::bs,j,H=>match ρ.get j with
  | some (some id)=>xQ ρ fresh ks os bs (j+1) (H.set id b)
  | _=>none
 | .box false _::ks,.gone::os,_::bs,j,H=>xQ ρ fresh ks os bs (j+1) H
 | .row true _::ks,.gone::os,_::bs,j,H=>match ρ.get j with
  | some (some id)=>xQ ρ fresh ks os bs (j+1) (H.set id .dead)
  | some none=>xQ ρ fresh ks os bs (j+1) H
  | none=>none
 | .row false _::ks,.gone::os,_::bs,j,H=>xQ ρ fresh ks os bs (j+1) H
 | .map _::ks,.gone::os,_::bs,j,H=>xQ ρ fresh ks os bs (j+1) H
 | _,_,_,_,_=>none
def zuQ:List (ze E)→ze E
 | [p]=>p
 | ps=> .tuple ps
def zcA (ρ:Ren) (n fresh:Nat) (j:Nat):Nat:=if Nat.blt j n then (match ρ.get j with | some (some id)=>id | _=>fresh) else fresh+(j-n)
def We (H:List (Blk E)) (fresh:Nat):Nat→Bool
 | 0=>true
 | n+1=>(match zi H fresh with | .free=>true | _=>false)&&Nat.blt fresh H.length&&We H (fresh+1) n
def BK.handsOut:BK→Bool
 | .box w _=>w | .map _=>false | _=>true
def BK.owns:BK→Bool
 | .box w _=>w | .map _=>false | _=>true
def zcr {R:Type} (s:zy E) (fresh:Nat) (args:List (ze E)) (H:List (Blk E)) (K:ze E→List (Blk E)→Option R):Option R :=
 match Wk [] s.inn args H with
 | some (x,ρ,fz)=>(s.F (s.gi.of x)).bind fun y =>
  let n:=s.inn.blks.length
  let r:=ym (zcA ρ n fresh) s.out (HL.toP s.out.holes (s.go.to y))
  match xQ ρ fresh s.inn.blks s.out.blks r.2 0 (upd H fz) with
  | some H'=>if We H fresh (s.out.blks.length-n)&&s.out.blks.all BK.handsOut then K (zuQ r.1) H' else none
  | none=>none
 | none=>none
structure Ze (E:yg) where
 inn:xG
 e:Ty
 F:HL E.T inn.holes→Option (List (Den E.T e))
structure Cfg (E:yg) where
 P:Program
 tab:List (Nat×TI)
 specs:FuncId→List (zy E)
 loops:Nat→Option (zL E)
 mv:Nat→Nat→Bool
 kept:Ren
 pick:Nat→Nat→List Nat
 yl:Bool
 ye:Ty
 yd:List (Den E.T ye)
 iters:FuncId→Option (Ze E)
abbrev Inl (E:yg) (R:Type):=FuncId→List (ze E)→List (Blk E)→(ze E→List (Blk E)→Option R)→Option R
def zk0: ∀R,Inl E R:=fun _ _ _ _ _=>none
def uM (env:List (ze E)):Operand→ze E
 | .tmp t=>(env[t]?).getD .any
 | .const v=>zqJ v
 | .func f=> .fn f []
 | .global _=> .any
def put (env:List (ze E)) (d:Option Nat) (p:ze E):List (ze E):=match d with | some t=>env.set t p | none=>env
def Vn (env:List (ze E)) (o:Op):Option (FuncId×List (ze E)):=match o with
 | .call {callee:= .value f,args,..}=>match uM env f with
  | .fn g caps=>some (g,args.toList.map (uM env)++caps)
  | .bfn g first=>some (g,first++args.toList.map (uM env))
  | _=>none
 | _=>none
variable (C:Cfg E)
def Xf {R:Type} (ops:Array Oper) (o:Oper) (env:List (ze E)) (K:Bool→List (ze E)→Option R):Option R :=
 match o.guard with
 | none=>K true env
 | some (j,want)=>match (ops[j]?).bind (·.dst) with
  | none=>none
  | some d=>match (env[d]?).getD .any with
   | .v .bool b=>bif b then K want (env.set d (.v .bool true)) else K (!want) (env.set d (.v .bool false))
   | .skip=>K false env
   | _=>none
def U4:Op→Nat
 | .alloc _ | .box .. | .buildSlice .. | .makeSlice .. | .slice .. | .makeMap .. =>1
 | .call {callee:= .builtin .append,..}=>1
 | .call {callee:= .value _,..}=>2
 | _=>0
def ztd (ops:Array Oper):Nat:=ops.toList.foldl (fun n o=>n+U4 o.op) 0
def zp8 {R:Type} (ss:List (zy E)) (fresh:Nat) (args:List (ze E)) (H:List (Blk E)) (K:ze E→List (Blk E)→Option R):List Nat→Option R
 | []=>none
 | [k]=>match ss[k]? with
  | some s=>zcr s fresh args H K
  | none=>none
 | k::ks=>match ss[k]? with
  | some s=>(zcr s fresh args H K).or (zp8 ss fresh args H K ks)
  | none=>none
def zAf (env:List (ze E)) (o:Op):Option (ze E):=match o with
 | .call {callee:= .value f,args,..}=>match uM env f,args.toList with
  | .yld _ _,[x]=>some (uM env x)
  | _,_=>none
 | _=>none
def zEv (H:List (Blk E)):Bool:=H.all fun | .box w _=>w | .map w _=>w | _=>true
open Classical in
noncomputable def YH {α:Type} (l:List α) (j:Int) (z:α):Option Unit:=if 0≤j∧l[j.toNat]? =some z then some () else none
def noY:ze E→ze E
 | .yld _ _=> .any
 | p=>p
def zce:List (ze E)→List (ze E)
 | []=>[]
 | p::r=>p::r.map noY
noncomputable def uQ {R:Type} (rid i fresh spare:Nat) (o:Oper) (env:List (ze E)) (H:List (Blk E)) (K:ze E→List (Blk E)→Option R):Option R :=
 match Vn env o.op with
 | some (f,args)=>zp8 (C.specs f) fresh args H K (C.pick rid i)
 | none =>
  let g:=if Nat.beq (U4 o.op) 0 then spare else fresh
  if We H g 1 then (opD C.tab (C.mv rid i) g (uM env) o.op).cps H K else none
noncomputable def zA2 {R:Type} (rid i fresh spare:Nat) (o:Oper) (env:List (ze E)) (H:List (Blk E)) (K:List (ze E)→List (Blk E)→Option R):Option R :=
 match o.op with
 | .move (.tmp 0)=>K (put env o.dst ((env[0]?).getD .any)) H
 | _=>match zAf env o.op with
  | some x=>match (env[0]?).getD .any with
   | .yld n j=>(zbl C.ye x fun z=>(.ret z:Dec E (Den E.T C.ye))).cps H fun z H=>if zEv H then (YH C.yd j z).bind fun _=>K (put (env.set 0 (.yld n (j+1))) o.dst (.v .bool true)) H else none
   | _=>none
  | none=>uQ C rid i fresh spare o env H fun p H=>K (put env o.dst (noY p)) H
noncomputable def zed {R:Type} (inl:Inl E R) (rid i fresh spare:Nat) (ops:Array Oper) (o:Oper) (env:List (ze E)) (H:List (Blk E))
  (K:List (ze E)→List (Blk E)→Option R):Option R :=
 Xf ops o env fun yes env =>
  if yes then
   (if C.yl then zA2 C rid i fresh spare o env H K else uQ C rid i fresh spare o env H fun p H=>K (put env o.dst p) H)
  else K (put env o.dst .skip) H
noncomputable def zye {R:Type} (inl:Inl E R) (rid spare:Nat) (ops:Array Oper):List Oper→Nat→Nat→List (ze E)→List (Blk E)→(List (ze E)→List (Blk E)→Option R)→Option R
 | [],_,_,env,H,K=>K env H
 | o::r,i,fresh,env,H,K=>zed C inl rid i fresh spare ops o env H fun env H=>zye inl rid spare ops r (i+1) (fresh+U4 o.op) env H K
def Dec.cpsL {α R:Type}:Dec E α→List (Blk E)→List Nat→List Nat→(α→List (Blk E)→List Nat→List Nat→Option R)→Option R
 | .ret a,H,rs,ws,K=>K a H rs ws
 | .fail,_,_,_,_=>none
 | .br b t e,H,rs,ws,K=>bif b then t.cpsL H rs ws K else e.cpsL H rs ws K
 | .opt _ o k,H,rs,ws,K=>o.bind fun x=>(k x).cpsL H rs ws K
 | .rd id k,H,rs,ws,K=>(k (zi H id)).cpsL H (id::rs) ws K
 | .wr id b k,H,rs,ws,K=>bif Nat.blt id H.length then k.cpsL (H.set id b) rs (id::ws) K else none
 | .any _,_,_,_,_=>none
def Za (ρ:Ren):List BK→Nat→List Nat
 | [],_=>[]
 | .box true _::ks,j=>(match ρ.get j with | some (some id)=>[id] | _=>[])++Za ρ ks (j+1)
 | .row true _::ks,j=>(match ρ.get j with | some (some id)=>[id] | _=>[])++Za ρ ks (j+1)
 | _::ks,j=>Za ρ ks (j+1)
def zlu {R:Type} (s:zy E) (fresh:Nat) (args:List (ze E)) (H:List (Blk E)) (K:ze E→List (Blk E)→List Nat→List Nat→Option R):Option R :=
 match Wk [] s.inn args H with
 | some (x,ρ,fz)=>(s.F (s.gi.of x)).bind fun y =>
  let n:=s.inn.blks.length
  let m:=s.out.blks.length
  let r:=ym (zcA ρ n fresh) s.out (HL.toP s.out.holes (s.go.to y))
  match xQ ρ fresh s.inn.blks s.out.blks r.2 0 (upd H fz) with
  | some H'=>if We H fresh (m-n)&&s.out.blks.all BK.handsOut then K (zuQ r.1) H' (ρ.ids++fz) (fz++Za ρ s.inn.blks 0++List.range' fresh (m-n)) else none
  | none=>none
 | none=>none
def zfU {R:Type} (rid i fresh spare:Nat) (ops:Array Oper) (o:Oper) (env:List (ze E)) (H:List (Blk E))
  (K:List (ze E)→List (Blk E)→List Nat→List Nat→Option R):Option R :=
 Xf ops o env fun yes env =>
  if yes then
   match Vn env o.op with
   | some (f,args)=>match C.pick rid i with
    | [k]=>match (C.specs f)[k]? with
     | some s=>zlu s fresh args H fun p H rs ws=>K (put env o.dst p) H rs ws
     | none=>none
    | _=>none
   | none =>
    if Nat.beq (U4 o.op) 0 then
     (if We H spare 1 then (opD C.tab (C.mv rid i) spare (uM env) o.op).cpsL H [] [] fun p H rs ws=>K (put env o.dst p) H rs ws else none)
    else if We H fresh 1 then (opD C.tab (C.mv rid i) fresh (uM env) o.op).cpsL H [fresh] [] fun p H rs ws=>K (put env o.dst p) H rs ws else none
  else K (put env o.dst .skip) H [] []
def Ur:List Oper→List Nat→List Nat
 | [],acc=>acc
 | o::r,acc=>Ur r (acc++[o.after.foldl (fun s e=>if Region.binds .any e then s|||2 ^ e.on|||acc.getD e.on 0 else s) 0])
def uY:List Nat→Nat
 | []=>0
 | a::l=>Nat.lor (uY l) (Nat.pow 2 a)
def zqI (mask:Nat) (r w:Nat):List (Nat×Nat×Nat)→Bool
 | []=>true
 | (k,rk,wk)::l=>(Nat.testBit mask k||(Nat.beq (Nat.land wk r) 0&&Nat.beq (Nat.land wk w) 0&&Nat.beq (Nat.land rk w) 0))&&zqI mask r w l
def W2 {R:Type} (n:Nat) (K:Nat→R):R:=match n with
 | 0=>K 0
 | m+1=>K (m+1)
theorem XK {R:Type} (n:Nat) (K:Nat→R):W2 n K=K n:=by cases n<;>rfl
def XY {R:Type} (rid spare:Nat) (ops:Array Oper):List Oper→List Nat→Nat→Nat→List (Nat×Nat×Nat)→List (ze E)→List (Blk E)→(List (ze E)→List (Blk E)→Option R)→Option R
 | [],_,_,_,_,env,H,K=>K env H
 | _::_,[],_,_,_,_,_,_=>none
 | o::r,mask::ms,i,fresh,log,env,H,K=>zfU C rid i fresh spare ops o env H fun env H rs ws =>
  match rs,ws with
  | [],[]=>XY rid spare ops r ms (i+1) (fresh+U4 o.op) log env H K
  | rs,ws=>W2 (uY rs) fun mr=>W2 (uY ws) fun mw =>
   if zqI mask mr mw log&& !(Nat.testBit mw spare) then
    XY rid spare ops r ms (i+1) (fresh+U4 o.op) ((i,mr,mw)::log) env H K
   else none
def looks (ops:Array Oper) (o:Oper):List Nat:=o.looksAt ops
def zzZ (a b:Option Nat):Bool:=match a,b with | some x,some y=>Nat.beq x y | _,_=>false
def zw7 (a:Option Nat) (l:List Nat):Bool:=match a with | some x=>l.any fun y=>Nat.beq x y | none=>false
def zf9 (ops:Array Oper):Bool :=
 let bef:=Ur ops.toList []
 (List.range ops.size).all fun j=>match ops[j]?,bef[j]? with
  | some oj,some m=>oj.after.all (fun e=> !Region.binds .any e||Nat.blt e.on j)&&(match oj.op with | .select .. =>false | _=>true) &&
   (List.range j).all fun i=>Nat.testBit m i||(match ops[i]? with
    | some oi=> !zzZ oi.dst oj.dst&& !zw7 oi.dst (looks ops oj)&& !zw7 oj.dst (looks ops oi)
    | none=>true)
  | _,_=>false
def zV (env:List (ze E)) (l:List Nat):List (ze E):=l.map fun t=>(env[t]?).getD .any
def zti (n:Nat) (l:List Nat) (ps:List (ze E)):List (ze E):=(l.zip ps).foldl (fun e x=>e.set x.1 x.2) (List.replicate n .any)
def zgC:Code→Nat
 | .region id _ _=>id
 | .seq a _=>zgC a
 | .block _ a=>zgC a
 | .loop a=>zgC a
 | .cond _ a _=>zgC a
 | _=>0
def entry (n:Nat) (slots:List Nat) (S:xG) (x:HL E.T S.holes):List (ze E)×List (Blk E) :=
 let r:=ym id S (HL.toP S.holes x)
 (zti n slots r.1,r.2)
def xr {A B D:Type} (f:A→Option (yA A B D)):Nat→A→Option (yA Unit B D)
 | 0,_=>none
 | n+1,x=>(f x).bind fun
  | .again y=>xr f n y
  | .brk b=>some (.brk b)
  | .ret c=>some (.ret c)
def vH:Nat:=18446744073709551616
noncomputable def zO {A B D:Type} (f:A→Option (yA A B D)):A→Option (yA Unit B D):=zhE (xr f vH)
theorem XW {A B D:Type} (f:A→Option (yA A B D)) (x:A):zO f x=xr f vH x:=congrFun (VQ _) x
abbrev zDX (E:yg):=∀R:Type,List (ze E)→List (Blk E)→(Ex→List (ze E)→List (Blk E)→Option R)→Option R
noncomputable def zX (ex:zDX E) (n:Nat) (l:zL E) (x:l.gi.G):Option (yA l.gi.G l.gb.G l.gr.G) :=
 let s:=entry n l.slots l.inn (l.gi.to x)
 ex _ s.1 s.2 fun ex env H=>match ex with
  | .normal=>(Wk C.kept l.inn (zV env l.slots) H).map fun y=> .again (l.gi.of y.1)
  | .exit j=>if Nat.beq j l.brkId then (Wk C.kept l.brk (zV env l.bslots) H).map fun y=> .brk (l.gb.of y.1) else none
  | .ret=>(Wk C.kept l.ret (zV env l.rslots) H).map fun y=> .ret (l.gr.of y.1)
noncomputable def Zc {A B:Type} (f:B→A→Option A):List B→A→Option A
 | [],a=>some a
 | y::ys,a=>(f y a).bind (Zc f ys)
noncomputable def zkc (as body:zDX E) (n:Nat) (l:zL E) (t:Nat) (e:Ty) (y:Den E.T e) (z:l.gi.G):Option l.gi.G :=
 let s:=entry n l.slots l.inn (l.gi.to z)
 as _ (s.1.set t (.v e y)) s.2 fun ex env H=>match ex with
  | .normal=>body _ env H fun ex _ H=>match ex with
   | .normal=>(Wk C.kept l.inn (zV s.1 l.slots) H).map fun y=>l.gi.of y.1
   | _=>none
  | _=>none
def zf5:Code→Bool
 | .skip=>true | .region _ _ _=>true | .seq a b=>zf5 a&&zf5 b | .cond _ a b=>zf5 a&&zf5 b | .block _ a=>zf5 a | .exit _=>true | _=>false
def ztH (ops:Array Oper):Bool:=ops.toList.all fun o=>match o.dst with | some d=> !Nat.beq d 0 | none=>true
def SK.notY:SK→Bool
 | .yld=>false | _=>true
def UP (slots:List Nat) (vals:List SK):Bool:=match slots,vals with
 | t::ts,.yld::ks=>Nat.beq t 0&&(ts.all fun s=> !Nat.beq s 0)&&ks.all SK.notY
 | _,_=>false
def zw5 {R:Type} (p:ze E) (K:ze E→R):R:=match p with
 | .any=>K .any
 | .skip=>K .skip
 | .v τ x=>K (.v τ x)
 | .nils=>K .nils
 | .own id=>W2 id fun id=>K (.own id)
 | .ptr id off=>W2 id fun id=>W2 off fun off=>K (.ptr id off)
 | p=>K p
theorem zxT {R:Type} (p:ze E) (K:ze E→R):zw5 p K=K p:=by cases p<;>simp only [zw5,XK]
def zpb {R:Type}:List (ze E)→(List (ze E)→R)→R
 | [],K=>K []
 | p::ps,K=>zw5 p fun p=>zpb ps fun ps=>K (p::ps)
theorem zpi {R:Type}: ∀(ps:List (ze E)) (K:List (ze E)→R),zpb ps K=K ps
 | [],K=>rfl
 | p::ps,K=>by simp only [zpb,zxT,zpi ps]
def zt9 {R:Type} (b:Blk E) (K:Blk E→R):R:=match b with
 | .box w cs=>zpb cs fun cs=>K (.box w cs)
 | .row w e l=>K (.row w e l)
 | .free=>K .free
 | .dead=>K .dead
 | .map w es=>K (.map w es)
 | .rowh e l n k=>W2 k fun k=>K (.rowh e l n k)
theorem zsf {R:Type} (b:Blk E) (K:Blk E→R):zt9 b K=K b:=by cases b<;>simp only [zt9,zpi,XK]
def zqs {R:Type}:List (Blk E)→(List (Blk E)→R)→R
 | [],K=>K []
 | b::bs,K=>zt9 b fun b=>zqs bs fun bs=>K (b::bs)
theorem znP {R:Type}: ∀(H:List (Blk E)) (K:List (Blk E)→R),zqs H K=K H
 | [],K=>rfl
 | b::bs,K=>by simp only [zqs,zsf,znP bs]
def zw4 {R:Type} (env:List (ze E)) (H:List (Blk E)) (K:List (ze E)→List (Blk E)→R):R:=zpb env fun env=>zqs H fun H=>K env H
theorem zyO {R:Type} (env:List (ze E)) (H:List (Blk E)) (K:List (ze E)→List (Blk E)→R):zw4 env H K=K env H:=by simp only [zw4,zpi,znP]
def zp5 {α R:Type}:List α→Nat→α→(List α→R)→R
 | [],_,_,K=>K []
 | _::l,0,p,K=>K (p::l)
 | x::l,t+1,p,K=>zp5 l t p fun l=>K (x::l)
theorem zna {α R:Type}: ∀(l:List α) (t:Nat) (p:α) (K:List α→R),zp5 l t p K=K (l.set t p)
 | [],_,_,_=>rfl
 | _::_,0,_,_=>rfl
 | x::l,t+1,p,K=>by simp only [zp5,zna l,List.set]
def zpF {R:Type} (env:List (ze E)) (d:Option Nat) (p:ze E) (K:List (ze E)→R):R:=match d with
 | some t=>zw5 p fun p=>zp5 env t p K
 | none=>K env
theorem zAe {R:Type} (env:List (ze E)) (d:Option Nat) (p:ze E) (K:List (ze E)→R):zpF env d p K=K (put env d p):=by
 cases d<;>simp only [zpF,put,zxT,zna]
def Dec.cpsN {α R:Type}:Dec E α→List (Blk E)→(α→List (Blk E)→Option R)→Option R
 | .ret a,H,K=>K a H
 | .fail,_,_=>none
 | .br b t e,H,K=>bif b then t.cpsN H K else e.cpsN H K
 | .opt _ o k,H,K=>o.bind fun x=>(k x).cpsN H K
 | .rd id k,H,K=>(k (zi H id)).cpsN H K
 | .wr id b k,H,K=>bif Nat.blt id H.length then zt9 b fun b=>zp5 H id b fun H=>k.cpsN H K else none
 | .any k,H,K=>zjY ((k true).cpsN H K) ((k false).cpsN H K)
theorem Dec.cpsN_eq {α R:Type}: ∀(d:Dec E α) (H:List (Blk E)) (K:α→List (Blk E)→Option R),d.cpsN H K=d.cps H K
 | .ret a,H,K=>rfl
 | .fail,_,_=>rfl
 | .br b t e,H,K=>by simp only [cpsN,cps,cpsN_eq t,cpsN_eq e]
 | .opt _ o k,H,K=>by simp only [cpsN,cps,cpsN_eq (k _)]
 | .rd id k,H,K=>by simp only [cpsN,cps,cpsN_eq (k _)]
 | .wr id b k,H,K=>by simp only [cpsN,cps,cpsN_eq k,zsf,zna]
 | .any k,H,K=>by simp only [cpsN,cps,cpsN_eq (k _)]
def Dec.cpsLN {α R:Type}:Dec E α→List (Blk E)→List Nat→List Nat→(α→List (Blk E)→List Nat→List Nat→Option R)→Option R
 | .ret a,H,rs,ws,K=>K a H rs ws
 | .fail,_,_,_,_=>none
 | .br b t e,H,rs,ws,K=>bif b then t.cpsLN H rs ws K else e.cpsLN H rs ws K
 | .opt _ o k,H,rs,ws,K=>o.bind fun x=>(k x).cpsLN H rs ws K
 | .rd id k,H,rs,ws,K=>W2 id fun id=>(k (zi H id)).cpsLN H (id::rs) ws K
 | .wr id b k,H,rs,ws,K=>bif Nat.blt id H.length then W2 id fun id=>zt9 b fun b=>zp5 H id b fun H=>k.cpsLN H rs (id::ws) K else none
 | .any _,_,_,_,_=>none
theorem Dec.cpsLN_eq {α R:Type}: ∀(d:Dec E α) (H:List (Blk E)) (rs ws:List Nat) (K:α→List (Blk E)→List Nat→List Nat→Option R),d.cpsLN H rs ws K=d.cpsL H rs ws K
 | .ret a,H,_,_,K=>rfl
 | .fail,_,_,_,_=>rfl
 | .br b t e,H,_,_,K=>by simp only [cpsLN,cpsL,cpsLN_eq t,cpsLN_eq e]
 | .opt _ o k,H,_,_,K=>by simp only [cpsLN,cpsL,cpsLN_eq (k _)]
 | .rd id k,H,_,_,K=>by simp only [cpsLN,cpsL,cpsLN_eq (k _),XK]
 | .wr id b k,H,_,_,K=>by simp only [cpsLN,cpsL,cpsLN_eq k,zsf,zna,XK]
 | .any _,H,_,_,K=>rfl
def ztQ {R:Type} (ops:Array Oper) (o:Oper) (env:List (ze E)) (K:Bool→List (ze E)→Option R):Option R :=
 match o.guard with
 | none=>K true env
 | some (j,want)=>match (ops[j]?).bind (·.dst) with
  | none=>none
  | some d=>match (env[d]?).getD .any with
   | .v .bool b=>bif b then zp5 env d (.v .bool true) fun env=>K want env else zp5 env d (.v .bool false) fun env=>K (!want) env
   | .skip=>K false env
   | _=>none
theorem zwd {R:Type} (ops:Array Oper) (o:Oper) (env:List (ze E)) (K:Bool→List (ze E)→Option R):ztQ ops o env K=Xf ops o env K:=by
 unfold ztQ Xf
 simp only [zna]
def zxy {R:Type} (rid i fresh spare:Nat) (o:Oper) (env:List (ze E)) (H:List (Blk E)) (K:ze E→List (Blk E)→Option R):Option R :=
 match Vn env o.op with
 | some (f,args)=>zp8 (C.specs f) fresh args H (fun p H=>zqs H fun H=>K p H) (C.pick rid i)
 | none =>
  let g:=if Nat.beq (U4 o.op) 0 then spare else fresh
  if We H g 1 then (opD C.tab (C.mv rid i) g (uM env) o.op).cpsN H K else none
theorem zCr {R:Type} (rid i fresh spare:Nat) (o:Oper) (env:List (ze E)) (H:List (Blk E)) (K:ze E→List (Blk E)→Option R):zxy C rid i fresh spare o env H K=uQ C rid i fresh spare o env H K:=by
 unfold zxy uQ
 simp only [znP,Dec.cpsN_eq]
def zAC {R:Type} (rid i fresh spare:Nat) (ops:Array Oper) (o:Oper) (env:List (ze E)) (H:List (Blk E)) (K:List (ze E)→List (Blk E)→Option R):Option R :=
 ztQ ops o env fun yes env =>
  if yes then
   (if C.yl then zA2 C rid i fresh spare o env H K else zxy C rid i fresh spare o env H fun p H=>zpF env o.dst p fun env=>K env H)
  else zpF env o.dst .skip fun env=>K env H
theorem zDA {R:Type} (rid i fresh spare:Nat) (ops:Array Oper) (o:Oper) (env:List (ze E)) (H:List (Blk E)) (K:List (ze E)→List (Blk E)→Option R):zAC C rid i fresh spare ops o env H K=zed C (zk0 _) rid i fresh spare ops o env H K:=by
 unfold zAC zed
 simp only [zwd,zAe,zCr]
def zAB {R:Type} (rid spare:Nat) (ops:Array Oper):List Oper→Nat→Nat→List (ze E)→List (Blk E)→(List (ze E)→List (Blk E)→Option R)→Option R
 | [],_,_,env,H,K=>K env H
 | o::r,i,fresh,env,H,K=>zAC C rid i fresh spare ops o env H fun env H=>W2 (i+1) fun i=>W2 (fresh+U4 o.op) fun fresh=>zAB rid spare ops r i fresh env H K
theorem zvp {R:Type} (rid spare:Nat) (ops:Array Oper): ∀(l:List Oper) (i fresh:Nat) (env:List (ze E)) (H:List (Blk E)) (K:List (ze E)→List (Blk E)→Option R),zAB C rid spare ops l i fresh env H K=zye C (zk0 _) rid spare ops l i fresh env H K
 | [],_,_,_,_,_=>rfl
 | o::r,i,fresh,env,H,K=>by simp only [zAB,zye,zDA,XK,zvp rid spare ops r]
def zxr {R:Type} (rid i fresh spare:Nat) (ops:Array Oper) (o:Oper) (env:List (ze E)) (H:List (Blk E))
  (K:List (ze E)→List (Blk E)→List Nat→List Nat→Option R):Option R :=
 ztQ ops o env fun yes env =>
  if yes then
   match Vn env o.op with
   | some (f,args)=>match C.pick rid i with
    | [k]=>match (C.specs f)[k]? with
     | some s=>zlu s fresh args H fun p H rs ws=>zqs H fun H=>zpF env o.dst p fun env=>K env H rs ws
     | none=>none
    | _=>none
   | none =>
    if Nat.beq (U4 o.op) 0 then
     (if We H spare 1 then (opD C.tab (C.mv rid i) spare (uM env) o.op).cpsLN H [] [] fun p H rs ws=>zpF env o.dst p fun env=>K env H rs ws else none)
    else if We H fresh 1 then (opD C.tab (C.mv rid i) fresh (uM env) o.op).cpsLN H [fresh] [] fun p H rs ws=>zpF env o.dst p fun env=>K env H rs ws else none
  else zpF env o.dst .skip fun env=>K env H [] []
theorem zCw {R:Type} (rid i fresh spare:Nat) (ops:Array Oper) (o:Oper) (env:List (ze E)) (H:List (Blk E))
  (K:List (ze E)→List (Blk E)→List Nat→List Nat→Option R):zxr C rid i fresh spare ops o env H K=zfU C rid i fresh spare ops o env H K:=by
 unfold zxr zfU
 simp only [zwd,zAe,znP,Dec.cpsLN_eq]
def znS {R:Type} (rid spare:Nat) (ops:Array Oper):List Oper→List Nat→Nat→Nat→List (Nat×Nat×Nat)→List (ze E)→List (Blk E)→(List (ze E)→List (Blk E)→Option R)→Option R
 | [],_,_,_,_,env,H,K=>K env H
 | _::_,[],_,_,_,_,_,_=>none
 | o::r,mask::ms,i,fresh,log,env,H,K=>zxr C rid i fresh spare ops o env H fun env H rs ws =>
  W2 (i+1) fun i1=>W2 (fresh+U4 o.op) fun fresh1 =>
  match rs,ws with
  | [],[]=>znS rid spare ops r ms i1 fresh1 log env H K
  | rs,ws=>W2 (uY rs) fun mr=>W2 (uY ws) fun mw =>
   if zqI mask mr mw log&& !(Nat.testBit mw spare) then
    znS rid spare ops r ms i1 fresh1 ((i,mr,mw)::log) env H K
   else none
theorem zsF {R:Type} (rid spare:Nat) (ops:Array Oper): ∀(l:List Oper) (ms:List Nat) (i fresh:Nat) (log:List (Nat×Nat×Nat)) (env:List (ze E)) (H:List (Blk E)) (K:List (ze E)→List (Blk E)→Option R),znS C rid spare ops l ms i fresh log env H K=XY C rid spare ops l ms i fresh log env H K
 | [],_,_,_,_,_,_,_=>by simp only [znS,XY]
 | _::_,[],_,_,_,_,_,_=>by simp only [znS,XY]
 | o::r,mask::ms,i,fresh,log,env,H,K=>by simp only [znS,XY,zCw,XK,zsF rid spare ops r]
noncomputable def exec:Code→zDX E
 | .skip,_,env,H,K=>K .normal env H
 | .region rid ops draw,_,env,H,K =>
  W2 (ztd ops) fun n=>W2 H.length fun L =>
  if C.yl&& !ztH ops then none else
  if draw then (if zf9 ops then znS C rid (L+n) ops ops.toList (Ur ops.toList []) 0 L [] env (H++List.replicate (n+1) .free) fun env H=>zw4 (if C.yl then zce env else env) H fun env H=>K .normal env H else none) else zAB C rid (L+n) ops ops.toList 0 L env (H++List.replicate (n+1) .free) fun env H=>zw4 env H fun env H=>K .normal env H
 | .seq a b,_,env,H,K=>exec a _ env H fun ex env H=>match ex with
  | .normal=>exec b _ env H K
  | ex=>K ex env H
 | .cond c a b,_,env,H,K=>match uM env c with
  | .v .bool t=>bif t then exec a _ env H K else exec b _ env H K
  | _=>none
 | .block id a,_,env,H,K=>exec a _ env H fun ex env H=>match ex with
  | .exit j=>if Nat.beq j id then K .normal env H else K (.exit j) env H
  | ex=>K ex env H
 | .loop a,_,env,H,K=>match C.loops (zgC a) with
  | some l=>if C.yl&& !(UP l.slots l.inn.vals&&UP l.bslots l.brk.vals&&UP l.rslots l.ret.vals) then none else match Wk C.kept l.inn (zV env l.slots) H with
   | some (x,_,_)=>(zO (zX C (exec a) env.length l) (l.gi.of x)).bind fun
    | .again _=>none
    | .brk y=>K (.exit l.brkId) (entry env.length l.bslots l.brk (l.gb.to y)).1 (entry env.length l.bslots l.brk (l.gb.to y)).2
    | .ret y=>K .ret (entry env.length l.rslots l.ret (l.gr.to y)).1 (entry env.length l.rslots l.ret (l.gr.to y)).2
   | none=>none
  | none=>none
 | .rangeFunc f ps as body,_,env,H,K=>match uM env f,ps.toList with
  | .fn g caps,[t]=>match C.iters g,C.loops (zgC as) with
   | some it,some l=>match Wk [] it.inn caps H with
    | some (x,ρ,fz)=>(it.F x).bind fun ys=>match Wk C.kept l.inn (zV env l.slots) (upd H fz) with
     | some (z,ρ2,fz2) =>
      if zf5 as&&zf5 body&&znj ρ.ids ρ2.ids&&znj ρ.ids fz2&& !C.yl&&l.inn.blks.all BK.owns then
       (Zc (zkc C (exec as) (exec body) env.length l t it.e) ys (l.gi.of z)).bind fun z=>K .normal (entry env.length l.slots l.inn (l.gi.to z)).1 (entry env.length l.slots l.inn (l.gi.to z)).2
      else none
     | none=>none
    | none=>none
   | _,_=>none
  | _,_=>none
 | .exit id,_,env,H,K=>K (.exit id) env H
 | .ret,_,env,H,K=>K .ret env H
 | .scope a,_,env,H,K=>exec a _ env H K
 | .label _,_,env,H,K=>K .normal env H
 | _,_,_,_,_=>none
noncomputable def zp0 {R:Type} (tab:List (Nat×TI)) (env:List (ze E)) (H:List (Blk E)):List ResultVar→(List (ze E)→Option R)→Option R
 | [],K=>K []
 | .tmp t::r,K=>zp0 tab env H r fun ps=>K ((env[t]?).getD .any::ps)
 | .cell a t::r,K=>match look tab t,(env[a]?).getD .any with
  | some i,.eptr e' id k off=>match zdY i with
   | some (n,e)=>(zxa n e (.eptr e' id k off)).cps H fun p _=>zp0 tab env H r fun ps=>K (p::ps)
   | none=>none
  | some i,.ptr id off=>match zi H id with
   | .box _ cs=>(zmE i (sub cs off i.size)).cps H fun p _=>zp0 tab env H r fun ps=>K (p::ps)
   | _=>none
  | _,_=>none
def ziF:List BK→Nat→Ren
 | [],_=>[]
 | .box true _::ks,j=>(j,some j)::ziF ks (j+1)
 | _::ks,j=>ziF ks (j+1)
def zBl (inn out:xG) (go:Iso E out.holes) (ps:List (ze E)) (H:List (Blk E)):Option go.G:=(Wk (ziF inn.blks 0) out ps H).map fun x=>go.of x.1
noncomputable def zpt (fn:Func) (inn out:xG) (gi:Iso E inn.holes) (go:Iso E out.holes) (g:gi.G):Option go.G :=
 let x:=gi.to g
 match fn.body with
 | none=>none
 | some c =>
  let s:=ym id inn (HL.toP inn.holes x)
  exec C c _ (s.1++List.replicate (fn.ntmps-s.1.length) .skip) s.2 fun ex env H=>match ex with
   | .exit _=>none
   | _=>zp0 C.tab env H fn.results.toList fun ps=>zBl inn out go ps H
noncomputable def znl (fn:Func) (inn:xG) (n:Int) (x:HL E.T inn.holes):Option Int :=
 match fn.body with
 | none=>none
 | some c =>
  let s:=ym id inn (HL.toP inn.holes x)
  exec C c _ ((.yld n 0::s.1)++List.replicate (fn.ntmps-(s.1.length+1)) .skip) s.2 fun ex env H=>match ex with
   | .exit _=>none
   | _=>if fn.results.isEmpty then (match (env[0]?).getD .any with
    | .yld _ i=>some i
    | _=>none) else none
end
end Go.Pe
namespace Go.Pe
inductive Loc where
 | blk (b off len cap:Nat) | none (a:Option Addr)
def Ty.size (E:yg):Ty→Nat
 | .named n=>(E.leaves n).length
 | .arr n e=>n*e.size E
 | .bool=>1 | .int _=>1 | .str=>1 | .slice _=>1
def HL.get {T:Nat→Type}:(ts:List Ty)→HL T ts→(i:Nat)→(h:i<ts.length)→Den T ts[i]
 | _::_,x,0,_=>x.1
 | _::ts,x,i+1,h=>HL.get ts x.2 i (Nat.lt_of_succ_lt_succ h)
section
variable (E:yg) (w:World) (A:Nat→Prop)
inductive z5:(τ:Ty)→Value→Den E.T τ→Prop where
 | bool (b:Bool):z5 .bool (.bool b) b
 | int (k:IntKind) (x:zN k):z5 (.int k) (.int k (toZ k x)) x
 | str (s:ByteArray):z5 .str (.string s) s
 | nil (e:Ty) (a:Option Addr) (cap:Nat):z5 (.slice e) (.slice a 0 cap) ([]:List (Den E.T e))
 | slice (e:Ty) (b off cap:Nat) (l:List (Den E.T e)) (vs:Nat→Value) (hA: ¬A b) (hb:b<w.heap.size) (hc:l.length≤cap)
   (hm: ∀i,i<l.length→∀j u,(vs i).cells[j]? =some u→w.cell? ⟨b,off+i*e.size E+j,none⟩=some u)
   (hr: ∀i (h:i<l.length),z5 e (vs i) l[i]):z5 (.slice e) (.slice (some ⟨b,off,none⟩) l.length cap) l
 | named (n:Nat) (cs:Array Value) (x:E.T n) (hs:cs.size=(E.leaves n).length)
   (h: ∀i (hi:i<(E.leaves n).length),z5 (E.leaves n)[i] (cs.getD i undef) (HL.get (E.leaves n) (E.unpack n x) i hi)):z5 (.named n) (.agg cs) x
 | arr (n:Nat) (e:Ty) (cs:Array Value) (l:List (Den E.T e)) (vs:Nat→Value) (hl:l.length=n) (hs:cs.size=n*e.size E)
   (hm: ∀i,i<n→∀j u,(vs i).cells[j]? =some u→cs[i*e.size E+j]? =some u)
   (hr: ∀i (h:i<l.length),z5 e (vs i) l[i]):z5 (.arr n e) (.agg cs) l
inductive zT (U:Nat→Prop) (μ:Nat→Loc):ze E→Value→Prop where
 | any (v:Value):zT U μ .any v
 | skip:zT U μ .skip undef
 | v (τ:Ty) (x:Den E.T τ) (v:Value) (h:z5 E w A τ v x):zT U μ (.v τ x) v
 | agg (ps:List (ze E)) (cs:Array Value) (hs:cs.size=ps.length) (h: ∀i (hi:i<ps.length),zT U μ ps[i] (cs.getD i undef)):zT U μ (.agg ps) (.agg cs)
 | tuple (ps:List (ze E)) (cs:Array Value) (hs:cs.size=ps.length) (h: ∀i (hi:i<ps.length),zT U μ ps[i] (cs.getD i undef)):zT U μ (.tuple ps) (.tuple cs)
 | nils (a:Option Addr):zT U μ .nils (.slice a 0 0)
 | own (id b off len cap:Nat) (hU:U id) (hμ:μ id= .blk b off len cap):zT U μ (.own id) (.slice (some ⟨b,off,none⟩) len cap)
 | own0 (id:Nat) (a a2:Option Addr) (hU:U id) (hμ:μ id= .none a2):zT U μ (.own id) (.slice a 0 0)
 | full (e:Ty) (l:List (Den E.T e)) (a:Option Addr) (h:z5 E w A (.slice e) (.slice a l.length l.length) l):zT U μ (.full e l) (.slice a l.length l.length)
 | bsl (id n b:Nat) (hU:U id) (hμ:μ id= .blk b 0 n n):zT U μ (.bsl id n) (.slice (some ⟨b,0,none⟩) n n)
 | ptr (id off b len cap:Nat) (hU:U id) (hμ:μ id= .blk b 0 len cap):zT U μ (.ptr id off) (.pointer (some ⟨b,off,none⟩))
 | eptr (e:Ty) (id i off b o len cap:Nat) (hU:U id) (hμ:μ id= .blk b o len cap) (hi:i<len):zT U μ (.eptr e id i off) (.pointer (some ⟨b,o+i*e.size E+off,none⟩))
 | rptr (ps:List (ze E)) (b o:Nat) (us:Nat→Value) (hA: ¬A b) (hb:b<w.heap.size) (hm: ∀j,j<ps.length→w.cell? ⟨b,o+j,none⟩=some (us j))
   (hr: ∀j (h:j<ps.length),zT U μ ps[j] (us j)):zT U μ (.rptr ps) (.pointer (some ⟨b,o,none⟩))
 | fn (f:FuncId) (ps:List (ze E)) (cs:Array Value) (hs:cs.size=ps.length) (h: ∀i (hi:i<ps.length),zT U μ ps[i] (cs.getD i undef)):zT U μ (.fn f ps) (.func (.func f) #[] cs)
 | nilfn:zT U μ .nilfn .nilFunc
 | nilp:zT U μ .nilp (.pointer none)
 | bfn (f:FuncId) (ps:List (ze E)) (cs:Array Value) (hs:cs.size=ps.length) (h: ∀i (hi:i<ps.length),zT U μ ps[i] (cs.getD i undef)):zT U μ (.bfn f ps) (.func (.func f) cs #[])
 | yld (n i:Int):zT U μ (.yld n i) (.func (.yield n.toNat) #[] #[])
 | nilm:zT U μ .nilm (.map none)
 | map (id b:Nat) (hU:U id) (hμ:μ id= .blk b 0 0 0):zT U μ (.map id) (.map (some b))
end
variable {E:yg}
theorem z5.mono {w w':World} {A A':Nat→Prop} (hs:w.heap.size≤w'.heap.size)
  (hb: ∀b,b<w.heap.size→¬A b→w'.heap[b]? =w.heap[b]? ∧¬A' b) {τ:Ty} {v:Value} {x:Den E.T τ} (h:z5 E w A τ v x):z5 E w' A' τ v x:=by
 induction h with
 | bool b=>exact .bool b
 | int k x=>exact .int k x
 | str s=>exact .str s
 | nil e a cap=>exact .nil e a cap
 | slice e b off cap l vs hA hlt hc hm _ ih =>
  obtain ⟨h1,h2⟩:=hb b hlt hA
  exact .slice e b off cap l vs h2 (Nat.lt_of_lt_of_le hlt hs) hc (fun i hi j u hu=>by
   have:=hm i hi j u hu
   simp only [World.cell?,h1] at this ⊢
   exact this) ih
 | named n cs x hsz _ ih=>exact .named n cs x hsz ih
 | arr n e cs l vs hl hsz hm _ ih=>exact .arr n e cs l vs hl hsz hm ih
theorem zT.mono {w w':World} {A A':Nat→Prop} {U U':Nat→Prop} {μ μ':Nat→Loc} (hs:w.heap.size≤w'.heap.size)
  (hb: ∀b,b<w.heap.size→¬A b→w'.heap[b]? =w.heap[b]? ∧¬A' b) (hU: ∀id,U id→U' id∧μ' id=μ id) {p:ze E} {v:Value} (h:zT E w A U μ p v):zT E w' A' U' μ' p v:=by
 induction h with
 | any v=>exact .any v
 | skip=>exact .skip
 | v τ x v h=>exact .v τ x v (h.mono hs hb)
 | agg ps cs hsz _ ih=>exact .agg ps cs hsz ih
 | tuple ps cs hsz _ ih=>exact .tuple ps cs hsz ih
 | nils a=>exact .nils a
 | own id b off len cap u m=>exact .own id b off len cap (hU id u).1 ((hU id u).2.trans m)
 | own0 id a a2 u m=>exact .own0 id a a2 (hU id u).1 ((hU id u).2.trans m)
 | full e l a h=>exact .full e l a (h.mono hs hb)
 | bsl id n b u m=>exact .bsl id n b (hU id u).1 ((hU id u).2.trans m)
 | ptr id off b len cap u m=>exact .ptr id off b len cap (hU id u).1 ((hU id u).2.trans m)
 | eptr e id i off b o len cap u m hi=>exact .eptr e id i off b o len cap (hU id u).1 ((hU id u).2.trans m) hi
 | rptr ps b o us hA hlt hm _ ih =>
  obtain ⟨h1,h2⟩:=hb b hlt hA
  exact .rptr ps b o us h2 (Nat.lt_of_lt_of_le hlt hs) (fun j hj=>by
   have:=hm j hj
   simp only [World.cell?,h1] at this ⊢
   exact this) ih
 | fn f ps cs hsz _ ih=>exact .fn f ps cs hsz ih
 | bfn f ps cs hsz _ ih=>exact .bfn f ps cs hsz ih
 | nilfn=>exact .nilfn
 | nilp=>exact .nilp
 | nilm=>exact .nilm
 | yld n i=>exact .yld n i
 | map id b u m=>exact .map id b (hU id u).1 ((hU id u).2.trans m)
def yE:Blk E→Bool
 | .box w _=>w | .row w _ _=>w | .map w _=>w | .rowh _ _ _ _=>true | _=>false
def yY:Blk E→Bool
 | .free=>false | .dead=>false | _=>true
def xF:Blk E→Bool
 | .free=>false | _=>true
def ZH:Blk E→Bool
 | .box w _=>w | .row _ _ _=>true | .map w _=>w | .rowh _ _ _ _=>true | _=>false
theorem yJ {b:Blk E} (h:yE b=true):ZH b=true:=by cases b<;>simp_all [yE,ZH]
theorem zfR {b:Blk E} (h:ZH b=true):yY b=true:=by cases b<;>simp_all [ZH,yY]
theorem yt {b:Blk E} (h:yE b=true):yY b=true:=by cases b<;>simp_all [yE,yY]
theorem ya {b:Blk E} (h:yY b=true):xF b=true:=by cases b<;>simp_all [xF,yY]
def Kb (b:Nat):Prop:=b<1
def Lv (μ:Nat→Loc) (H:List (Blk E)) (b:Nat):Prop:=∃id off len cap,yE (zi H id)=true∧μ id= .blk b off len cap
def Us (H:List (Blk E)) (id:Nat):Prop:=xF (zi H id)=true
def Av (A0:Nat→Prop) (μ:Nat→Loc) (H:List (Blk E)) (b:Nat):Prop:=(A0 b∧¬Kb b)∨Lv μ H b
def zdj (w:World) (b:Nat) (fr:Bool) (c:Array Value):Prop:=∃t f,w.heap[b]? =some (.cells c t f)∧(fr=true→f=(0,0))
def xE (w:World) (A:Nat→Prop) (U:Nat→Prop) (μ:Nat→Loc) (l:Loc) (B:Blk E):Prop:=match B with
 | .free=>True
 | .dead=>True
 | .box wr cs=>∃b len cap c,l= .blk b 0 len cap∧zdj w b wr c∧c.size=cs.length∧∀j (h:j<cs.length),zT E w A U μ cs[j] (c.getD j undef)∧cs[j].leaf=true
 | .row wr e xs=>(∃(b off cap:Nat) (c:Array Value) (vs:Nat→Value),l= .blk b off xs.length cap∧zdj w b wr c∧xs.length≤cap∧off+cap*e.size E≤c.size ∧
   (∀i,i<xs.length→∀j u,(vs i).cells[j]? =some u→c[off+i*e.size E+j]? =some u)∧∀i (h:i<xs.length),z5 E w A e (vs i) xs[i])∨(xs=[]∧∃a,l= .none a)
 | .rowh e xs n k=>∃(b off cap:Nat) (c:Array Value) (vs:Nat→Value),l= .blk b off xs.length cap∧zdj w b true c∧xs.length≤cap∧off+cap≤c.size∧n<xs.length ∧
   (∀i,i<xs.length→∀j u,(vs i).cells[j]? =some u→c[off+i+j]? =some u)∧(∀i (h:i<xs.length),i≠n→z5 E w A (.slice e) (vs i) xs[i])∧zT E w A U μ (.own k) (vs n)
 | .map _ es=>∃b ms clock,l= .blk b 0 0 0∧w.heap[b]? =some (.map ms clock)∧ms.size=es.length ∧
   ∀j (h:j<es.length),zT E w A U μ es[j].1 ((ms.getD j default).key)∧zT E w A U μ es[j].2 ((ms.getD j default).val)
structure zM (A0:Nat→Prop) (μ:Nat→Loc) (H:List (Blk E)) (w:World):Prop where
 ok: ∀id,xE w (Av A0 μ H) (Us H) μ (μ id) (zi H id)
 inj: ∀i j b o l c b' o' l' c',i≠j→yE (zi H i)=true→yY (zi H j)=true→μ i= .blk b o l c→μ j= .blk b' o' l' c'→b≠b'
 out: ∀id b o l c,ZH (zi H id)=true→μ id= .blk b o l c→¬A0 b∧b<w.heap.size
structure zK (A0:Nat→Prop) (μ:Nat→Loc) (H:List (Blk E)) (w:World) (μ':Nat→Loc) (H':List (Blk E)) (w':World):Prop where
 os:w'.os=w.os
 tape:w'.tape=w.tape
 output:w'.output=w.output
 size:w.heap.size≤w'.heap.size
 block: ∀b,b<w.heap.size→¬Lv μ H b→w'.heap[b]? =w.heap[b]?
 lv: ∀b,b<w.heap.size→Lv μ' H' b→Lv μ H b
 used: ∀id,Us H id→Us H' id∧μ' id=μ id
 len:H'.length=H.length
theorem zK.refl (A0:Nat→Prop) (μ:Nat→Loc) (H:List (Blk E)) (w:World):zK A0 μ H w μ H w :=
 ⟨rfl,rfl,rfl,Nat.le_refl _,fun _ _ _=>rfl,fun _ _ h=>h,fun _ h=>⟨h,rfl⟩,rfl⟩
theorem zK.trans {A0:Nat→Prop} {μ μ1 μ2:Nat→Loc} {H H1 H2:List (Blk E)} {w w1 w2:World} (h:zK A0 μ H w μ1 H1 w1) (k:zK A0 μ1 H1 w1 μ2 H2 w2) :
  zK A0 μ H w μ2 H2 w2 :=
 ⟨k.os.trans h.os,k.tape.trans h.tape,k.output.trans h.output,Nat.le_trans h.size k.size,
  fun b hb hl=>(k.block b (Nat.lt_of_lt_of_le hb h.size) (fun hl1=>hl (h.lv b hb hl1))).trans (h.block b hb hl),
  fun b hb hl=>h.lv b hb (k.lv b (Nat.lt_of_lt_of_le hb h.size) hl),
  fun id hu=>⟨(k.used id (h.used id hu).1).1,(k.used id (h.used id hu).1).2.trans (h.used id hu).2⟩,k.len.trans h.len⟩
theorem zK.rep {A0:Nat→Prop} {μ μ':Nat→Loc} {H H':List (Blk E)} {w w':World} (h:zK A0 μ H w μ' H' w') {p:ze E} {v:Value}
  (r:zT E w (Av A0 μ H) (Us H) μ p v):zT E w' (Av A0 μ' H') (Us H') μ' p v :=
 r.mono h.size (fun b hb hA=>⟨h.block b hb (fun hl=>hA (.inr hl)),fun hA'=>hA'.elim (fun h0=>hA (.inl h0)) (fun hl=>hA (.inr (h.lv b hb hl)))⟩) h.used
theorem zK.repT {A0:Nat→Prop} {μ μ':Nat→Loc} {H H':List (Blk E)} {w w':World} (h:zK A0 μ H w μ' H' w') {τ:Ty} {x:Den E.T τ} {v:Value}
  (r:z5 E w (Av A0 μ H) τ v x):z5 E w' (Av A0 μ' H') τ v x :=
 r.mono h.size (fun b hb hA=>⟨h.block b hb (fun hl=>hA (.inr hl)),fun hA'=>hA'.elim (fun h0=>hA (.inl h0)) (fun hl=>hA (.inr (h.lv b hb hl)))⟩)
theorem zdj.keep {w w':World} {b:Nat} {fr:Bool} {c:Array Value} (h:zdj w b fr c) (e:w'.heap[b]? =w.heap[b]?):zdj w' b fr c:=by
 obtain ⟨t,f,h1,h2⟩:=h
 exact ⟨t,f,e.trans h1,h2⟩
theorem zdj.lt {w:World} {b:Nat} {fr:Bool} {c:Array Value} (h:zdj w b fr c):b<w.heap.size:=by
 obtain ⟨t,f,h1,_⟩:=h
 exact (Array.getElem?_eq_some_iff.1 h1).1
theorem xE.keep {A0:Nat→Prop} {μ μ':Nat→Loc} {H H':List (Blk E)} {w w':World} (h:zK A0 μ H w μ' H' w') {l:Loc} {B:Blk E}
  (hk: ∀b o n c,yY B=true→l= .blk b o n c→w'.heap[b]? =w.heap[b]?)
  (r:xE w (Av A0 μ H) (Us H) μ l B):xE w' (Av A0 μ' H') (Us H') μ' l B:=by
 cases B with
 | free=>trivial
 | dead=>trivial
 | box wr cs =>
  obtain ⟨b,len,cap,c,hl,hbox,hsz,hr⟩:=r
  exact ⟨b,len,cap,c,hl,hbox.keep (hk b 0 len cap rfl hl),hsz,fun j hj=>⟨h.rep (hr j hj).1,(hr j hj).2⟩⟩
 | row wr e xs =>
  rcases r with ⟨b,off,cap,c,vs,hl,hbox,h1,h2,h3,h4⟩ | ⟨h1,a,h2⟩
  ·exact .inl ⟨b,off,cap,c,vs,hl,hbox.keep (hk b off xs.length cap rfl hl),h1,h2,h3,fun i hi=>h.repT (h4 i hi)⟩
  ·exact .inr ⟨h1,a,h2⟩
 | rowh e xs n k =>
  obtain ⟨b,off,cap,c,vs,hl,hbox,h1,h2,h3,h4,h5,h6⟩:=r
  exact ⟨b,off,cap,c,vs,hl,hbox.keep (hk b off xs.length cap rfl hl),h1,h2,h3,h4,fun i hi hn=>h.repT (h5 i hi hn),h.rep h6⟩
 | map wr es =>
  obtain ⟨b,ms,clock,hl,hm,hsz,hr⟩:=r
  exact ⟨b,ms,clock,hl,(hk b 0 0 0 rfl hl).trans hm,hsz,fun j hj=>⟨h.rep (hr j hj).1,h.rep (hr j hj).2⟩⟩
theorem xE.lt {w:World} {A U:Nat→Prop} {μ:Nat→Loc} {l:Loc} {B:Blk E} (r:xE w A U μ l B) {b o n c:Nat} (hm:yY B=true) (hl:l= .blk b o n c):b<w.heap.size:=by
 subst hl
 cases B with
 | free=>simp [yY] at hm
 | dead=>simp [yY] at hm
 | box wr cs =>
  obtain ⟨b',len,cap,c',hl,hbox,_⟩:=r
  injection hl with e;subst e;exact hbox.lt
 | row wr e xs =>
  rcases r with ⟨b',off,cap,c',vs,hl,hbox,_⟩ | ⟨_,a,h2⟩
  ·injection hl with e;subst e;exact hbox.lt
  ·cases h2
 | rowh e xs n k =>
  obtain ⟨b',off,cap,c',vs,hl,hbox,_⟩:=r
  injection hl with e;subst e;exact hbox.lt
 | map wr es =>
  obtain ⟨b',ms,clock,hl,hm',_⟩:=r
  injection hl with e;subst e;exact (Array.getElem?_eq_some_iff.1 hm').1
theorem xE.of_not_mem {w:World} {A U:Nat→Prop} {μ:Nat→Loc} {l:Loc} {B:Blk E} (h:yY B=false):xE w A U μ l B:=by
 cases B<;>first | trivial | (simp [yY] at h)
theorem zM.step {A0:Nat→Prop} {μ μ':Nat→Loc} {H H':List (Blk E)} {w w':World} (h:zM A0 μ H w) (T:zK A0 μ H w μ' H' w') (S:Nat→Prop)
  (same: ∀id,¬S id→(zi H' id=zi H id∧(yY (zi H id)=true→μ' id=μ id))∨yY (zi H' id)=false)
  (keep: ∀id b o n c,¬S id→yY (zi H' id)=true→μ id= .blk b o n c→w'.heap[b]? =w.heap[b]?)
  (ok: ∀id,S id→xE w' (Av A0 μ' H') (Us H') μ' (μ' id) (zi H' id))
  (inj: ∀i j b o l c b' o' l' c',i≠j→S i∨S j→yE (zi H' i)=true→yY (zi H' j)=true→μ' i= .blk b o l c→μ' j= .blk b' o' l' c'→b≠b')
  (out: ∀id b o l c,S id→ZH (zi H' id)=true→μ' id= .blk b o l c→¬A0 b∧b<w'.heap.size):zM A0 μ' H' w':=by
 have hμ: ∀id,¬S id→yY (zi H' id)=true→zi H' id=zi H id∧μ' id=μ id:=fun id hS hm=>by
  rcases same id hS with ⟨h1,h2⟩ | h1
  ·exact ⟨h1,h2 (h1▸hm)⟩
  ·rw [h1] at hm;cases hm
 refine ⟨fun id=> ?_,fun i j b o l c b' o' l' c' hne hi hj mi mj=> ?_,fun id b o l c hi mi=> ?_⟩
 ·by_cases hS:S id
  ·exact ok id hS
  ·by_cases hm:yY (zi H' id)=true
   ·obtain ⟨h1,h2⟩:=hμ id hS hm
    have:=h.ok id
    rw [h1,h2]
    exact this.keep T (fun b o n c _ hl=>keep id b o n c hS hm hl)
   ·exact xE.of_not_mem (by simpa using hm)
 ·by_cases hS:S i∨S j
  ·exact inj i j b o l c b' o' l' c' hne hS hi hj mi mj
  ·have hSi: ¬S i:=fun x=>hS (.inl x)
   have hSj: ¬S j:=fun x=>hS (.inr x)
   obtain ⟨a1,a2⟩:=hμ i hSi (yt hi)
   obtain ⟨b1,b2⟩:=hμ j hSj hj
   exact h.inj i j b o l c b' o' l' c' hne (a1▸hi) (b1▸hj) (a2▸mi) (b2▸mj)
 ·by_cases hS:S id
  ·exact out id b o l c hS hi mi
  ·obtain ⟨a1,a2⟩:=hμ id hS (zfR hi)
   obtain ⟨r1,r2⟩:=h.out id b o l c (a1▸hi) (a2▸mi)
   exact ⟨r1,Nat.lt_of_lt_of_le r2 T.size⟩
end Go.Pe
namespace Go.Pe
variable {E:yg}
theorem zaF (H:List (Blk E)) (id j:Nat) (B:Blk E) (h:id<H.length):zi (H.set id B) j=if id=j then B else zi H j:=by
 unfold zi
 rw [List.getElem?_set]
 split
 ·rename_i e;subst e;simp
 ·rfl
theorem zP (H:List (Blk E)) {id j:Nat} (B:Blk E) (h:id≠j):zi (H.set id B) j=zi H j:=by
 unfold zi
 rw [List.getElem?_set_ne h]
theorem z7 (H:List (Blk E)) (id:Nat) (B:Blk E) (h:id<H.length):zi (H.set id B) id=B:=by
 rw [zaF H id id B h,if_pos rfl]
theorem xK {H:List (Blk E)} {id:Nat} (h:xF (zi H id)=true):id<H.length:=by
 rcases Nat.lt_or_ge id H.length with h' | h'
 ·exact h'
 ·unfold zi at h
  rw [List.getElem?_eq_none h'] at h
  simp [xF] at h
def YW (μ:Nat→Loc) (id:Nat) (l:Loc):Nat→Loc:=fun i=>if i=id then l else μ i
theorem wQ (μ:Nat→Loc) (id:Nat) (l:Loc):YW μ id l id=l:=if_pos rfl
theorem U2 (μ:Nat→Loc) {id i:Nat} (l:Loc) (h:i≠id):YW μ id l i=μ i:=if_neg h
structure z8 (w w':World):Prop where
 os:w'.os=w.os
 tape:w'.tape=w.tape
 output:w'.output=w.output
 size:w.heap.size≤w'.heap.size
theorem z8.refl (w:World):z8 w w:=⟨rfl,rfl,rfl,Nat.le_refl _⟩
theorem z8.alloc (w:World) (o:Obj):z8 w (w.alloc o):=⟨rfl,rfl,rfl,by simp⟩
theorem z8.drew (w:World):z8 w w.drew:=⟨rfl,rfl,rfl,Nat.le_refl _⟩
theorem z8.setRow (w:World) (g:Nat) (c:Array Value):z8 w (w.setRow g c):=⟨rfl,rfl,rfl,by simp⟩
section
variable {A0:Nat→Prop} {μ:Nat→Loc} {H:List (Blk E)} {w w':World}
theorem zK.fresh (id:Nat) (l:Loc) (B:Blk E) (hf:zi H id= .free) (hlt:id<H.length) (q:z8 w w') (hb: ∀b,b<w.heap.size→w'.heap[b]? =w.heap[b]?)
  (hl: ∀b o n c,l= .blk b o n c→w.heap.size≤b):zK A0 μ H w (YW μ id l) (H.set id B) w':=by
 have hne: ∀i,Us H i→i≠id:=fun i hi e=>by subst e;simp [Us,hf,xF] at hi
 refine ⟨q.os,q.tape,q.output,q.size,fun b hlt' _=>hb b hlt',fun b hlt' ⟨i,o,n,c,h1,h2⟩=> ?_,fun i hi=>⟨?_,U2 _ _ (hne i hi)⟩,by simp⟩
 ·by_cases e:i=id
  ·subst e;rw [wQ] at h2;have:=hl _ _ _ _ h2;omega
  ·rw [U2 _ _ e] at h2
   rw [zP H B (Ne.symm e)] at h1
   exact ⟨i,o,n,c,h1,h2⟩
 ·unfold Us;rw [zP H B (Ne.symm (hne i hi))];exact hi
theorem zM.fresh (h:zM A0 μ H w) (id:Nat) (l:Loc) (B:Blk E) (hf:zi H id= .free) (hlt:id<H.length) (q:z8 w w') (hb: ∀b,b<w.heap.size→w'.heap[b]? =w.heap[b]?)
  (hl: ∀b o n c,l= .blk b o n c→w.heap.size≤b∧b<w'.heap.size) (hA: ∀b,A0 b→b<w.heap.size)
  (ok:xE w' (Av A0 (YW μ id l) (H.set id B)) (Us (H.set id B)) (YW μ id l) l B):zM A0 (YW μ id l) (H.set id B) w':=by
 have T:=zK.fresh (A0:=A0) (μ:=μ) id l B hf hlt q hb (fun b o n c e=>(hl b o n c e).1)
 refine h.step T (fun i=>i=id) (fun i hi=> .inl ⟨zP H B (Ne.symm hi),fun _=>U2 _ _ hi⟩) (fun i b o n c hi hm hμ=> ?_) (fun i hi=> ?_) (fun i j b o n c b' o' n' c' hne hS hi hj mi mj=> ?_) (fun i b o n c hi hlv hμ=> ?_)
 ·rw [zP H B (Ne.symm hi)] at hm
  exact hb b (xE.lt (h.ok i) hm hμ)
 ·subst hi;rw [z7 H i B hlt,wQ];exact ok
 ·rcases hS with rfl | rfl
  ·rw [wQ] at mi
   have h1:=(hl _ _ _ _ mi).1
   rw [U2 _ _ (Ne.symm hne)] at mj
   rw [zP H B hne] at hj
   have:=xE.lt (h.ok j) hj mj
   omega
  ·rw [wQ] at mj
   have h1:=(hl _ _ _ _ mj).1
   rw [U2 _ _ hne] at mi
   rw [zP H B (Ne.symm hne)] at hi
   have:=xE.lt (h.ok i) (yt hi) mi
   omega
 ·subst hi
  rw [wQ] at hμ
  obtain ⟨h1,h2⟩:=hl _ _ _ _ hμ
  exact ⟨fun ha=>by have:=hA b ha;omega,h2⟩
theorem zK.write (id:Nat) (B:Blk E) (hu:Us H id) (q:z8 w w') (hlive:yE (zi H id)=true)
  (hb: ∀b,b<w.heap.size→(∀o n c,μ id≠ .blk b o n c)→w'.heap[b]? =w.heap[b]?) (hB:xF B=true):zK A0 μ H w μ (H.set id B) w':=by
 have hlt:=xK hu
 refine ⟨q.os,q.tape,q.output,q.size,fun b hlt' hl=>hb b hlt' (fun o n c e=>hl ⟨id,o,n,c,hlive,e⟩),fun b hlt' ⟨i,o,n,c,h1,h2⟩=> ?_,fun i hi=>⟨?_,rfl⟩,by simp⟩
 ·by_cases e:id=i
  ·subst e;exact ⟨id,o,n,c,hlive,h2⟩
  ·rw [zP H B e] at h1;exact ⟨i,o,n,c,h1,h2⟩
 ·unfold Us;rw [zaF H id i B hlt];split
  ·exact hB
  ·exact hi
theorem zM.write (h:zM A0 μ H w) (id:Nat) (B:Blk E) (hu:Us H id) (q:z8 w w') (hlive:yE (zi H id)=true)
  (hb: ∀b,b<w.heap.size→(∀o n c,μ id≠ .blk b o n c)→w'.heap[b]? =w.heap[b]?) (hB:xF B=true)
  (ok:xE w' (Av A0 μ (H.set id B)) (Us (H.set id B)) μ (μ id) B):zM A0 μ (H.set id B) w':=by
 have hlt:=xK hu
 have T:=zK.write (A0:=A0) (μ:=μ) id B hu q hlive hb hB
 refine h.step T (fun i=>i=id) (fun i hi=> .inl ⟨zP H B (Ne.symm hi),fun _=>rfl⟩) (fun i b o n c hi hm hμ=> ?_) (fun i hi=> ?_) (fun i j b o n c b' o' n' c' hne hS hi hj mi mj=> ?_) (fun i b o n c hi hlv hμ=> ?_)
 ·rw [zP H B (Ne.symm hi)] at hm
  refine hb b (xE.lt (h.ok i) hm hμ) (fun o' n' c' e=> ?_)
  exact h.inj id i b o' n' c' b o n c (Ne.symm hi) hlive hm e hμ rfl
 ·subst hi;rw [z7 H i B hlt];exact ok
 ·rcases hS with rfl | rfl
  ·rw [zP H B hne] at hj
   exact h.inj i j b o n c b' o' n' c' hne hlive hj mi mj
  ·rw [zP H B (Ne.symm hne)] at hi
   exact h.inj i j b o n c b' o' n' c' hne hi (yt hlive) mi mj
 ·subst hi
  obtain ⟨h1,h2⟩:=h.out i b o n c (yJ hlive) hμ
  exact ⟨h1,Nat.lt_of_lt_of_le h2 q.size⟩
theorem zK.drop (id:Nat) (B:Blk E) (hu:Us H id) (hB:yE B=false) (hB':xF B=true):zK A0 μ H w μ (H.set id B) w:=by
 have hlt:=xK hu
 refine ⟨rfl,rfl,rfl,Nat.le_refl _,fun _ _ _=>rfl,fun b hlt' ⟨i,o,n,c,h1,h2⟩=> ?_,fun i hi=>⟨?_,rfl⟩,by simp⟩
 ·by_cases e:id=i
  ·subst e;rw [z7 H id B hlt,hB] at h1;cases h1
  ·rw [zP H B e] at h1;exact ⟨i,o,n,c,h1,h2⟩
 ·unfold Us;rw [zaF H id i B hlt];split
  ·exact hB'
  ·exact hi
theorem zM.drop (h:zM A0 μ H w) (id:Nat) (B:Blk E) (hu:Us H id) (hB:yE B=false) (hB':xF B=true) (hm:yY B=true→yY (zi H id)=true) (ho:ZH B=true→ZH (zi H id)=true)
  (ok:xE w (Av A0 μ (H.set id B)) (Us (H.set id B)) μ (μ id) B):zM A0 μ (H.set id B) w:=by
 have hlt:=xK hu
 have T:=zK.drop (A0:=A0) (μ:=μ) (w:=w) id B hu hB hB'
 refine h.step T (fun i=>i=id) (fun i hi=> .inl ⟨zP H B (Ne.symm hi),fun _=>rfl⟩) (fun _ _ _ _ _ _ _ _=>rfl) (fun i hi=> ?_) (fun i j b o n c b' o' n' c' hne hS hi hj mi mj=> ?_) (fun i b o n c hi hlv hμ=> ?_)
 ·subst hi;rw [z7 H i B hlt];exact ok
 ·rcases hS with rfl | rfl
  ·rw [z7 H i B hlt,hB] at hi;cases hi
  ·rw [zP H B (Ne.symm hne)] at hi
   rw [z7 H j B hlt] at hj
   exact h.inj i j b o n c b' o' n' c' hne hi (hm hj) mi mj
 ·subst hi;rw [z7 H i B hlt] at hlv;exact h.out i b o n c (ho hlv) hμ
theorem zK.drew:zK A0 μ H w μ H w.drew :=
 ⟨rfl,rfl,rfl,Nat.le_refl _,fun _ _ _=>rfl,fun _ _ h=>h,fun _ h=>⟨h,rfl⟩,rfl⟩
theorem zM.drew (h:zM A0 μ H w):zM A0 μ H w.drew :=
 h.step zK.drew (fun _=>False) (fun _ _=> .inl ⟨rfl,fun _=>rfl⟩) (fun _ _ _ _ _ _ _ _=>rfl) (fun _ hi=>hi.elim) (fun _ _ _ _ _ _ _ _ _ _ _ hS=>(hS.elim id id).elim) (fun _ _ _ _ _ hi=>hi.elim)
theorem zK.move (id fresh b o n c o' n' c':Nat) (B:Blk E) (hlive:yE (zi H id)=true) (hμ:μ id= .blk b o n c) (hf:zi H fresh= .free) (hlt:fresh<H.length) (q:z8 w w')
  (hb: ∀k,k<w.heap.size→k≠b→w'.heap[k]? =w.heap[k]?):zK A0 μ H w (YW μ fresh (.blk b o' n' c')) ((H.set id .dead).set fresh B) w':=by
 have hu:Us H id:=ya (yt hlive)
 have hne: ∀i,Us H i→i≠fresh:=fun i hi e=>by subst e;simp [Us,hf,xF] at hi
 have hif:=hne id hu
 have hid:=xK hu
 refine ⟨q.os,q.tape,q.output,q.size,fun k hk hl=>hb k hk (fun e=>hl (by subst e;exact ⟨id,o,n,c,hlive,hμ⟩)),fun k hk ⟨i,o1,n1,c1,h1,h2⟩=> ?_,fun i hi=>⟨?_,U2 _ _ (hne i hi)⟩,by simp⟩
 ·by_cases e:i=fresh
  ·subst e;rw [wQ] at h2;injection h2 with e1;subst e1;exact ⟨id,o,n,c,hlive,hμ⟩
  ·rw [U2 _ _ e] at h2
   rw [zP _ B (Ne.symm e)] at h1
   by_cases e2:id=i
   ·subst e2;rw [z7 H id .dead hid] at h1;cases h1
   ·rw [zP H _ e2] at h1;exact ⟨i,o1,n1,c1,h1,h2⟩
 ·unfold Us
  rw [zP _ B (Ne.symm (hne i hi)),zaF H id i .dead hid]
  split
  ·rfl
  ·exact hi
theorem zM.move (h:zM A0 μ H w) (id fresh b o n c o' n' c':Nat) (B:Blk E) (hlive:yE (zi H id)=true) (hμ:μ id= .blk b o n c) (hf:zi H fresh= .free) (hlt:fresh<H.length) (q:z8 w w')
  (hb: ∀k,k<w.heap.size→k≠b→w'.heap[k]? =w.heap[k]?)
  (ok:xE w' (Av A0 (YW μ fresh (.blk b o' n' c')) ((H.set id .dead).set fresh B)) (Us ((H.set id .dead).set fresh B)) (YW μ fresh (.blk b o' n' c')) (.blk b o' n' c') B) :
  zM A0 (YW μ fresh (.blk b o' n' c')) ((H.set id .dead).set fresh B) w':=by
 have hu:Us H id:=ya (yt hlive)
 have hif:id≠fresh:=fun e=>by subst e;simp [Us,hf,xF] at hu
 have hid:=xK hu
 have hfl:fresh<(H.set id .dead).length:=by simpa using hlt
 have T:=zK.move (A0:=A0) (μ:=μ) id fresh b o n c o' n' c' B hlive hμ hf hlt q hb
 have hg: ∀i,i≠fresh→i≠id→zi ((H.set id .dead).set fresh B) i=zi H i:=fun i h1 h2=>by
  rw [zP _ B (Ne.symm h1),zP H _ (Ne.symm h2)]
 refine h.step T (fun i=>i=fresh) (fun i hi=> ?_) (fun i k o1 n1 c1 hi hm hμ'=> ?_) (fun i hi=> ?_) (fun i j k o1 n1 c1 k' o2 n2 c2 hne hS hi hj mi mj=> ?_) (fun i k o1 n1 c1 hi hlv hμ'=> ?_)
 ·by_cases e:i=id
  ·subst e;right;rw [zP _ B (Ne.symm hi),z7 H i .dead hid];rfl
  ·exact .inl ⟨hg i hi e,fun _=>U2 _ _ hi⟩
 ·by_cases e:i=id
  ·subst e;rw [zP _ B (Ne.symm hi),z7 H i .dead hid] at hm;cases hm
  ·rw [hg i hi e] at hm
   exact hb k (xE.lt (h.ok i) hm hμ') (fun e'=>h.inj id i b o n c k o1 n1 c1 (Ne.symm e) hlive hm hμ hμ' e'.symm)
 ·subst hi;rw [z7 _ i B hfl,wQ];exact ok
 ·rcases hS with rfl | rfl
  ·rw [wQ] at mi;injection mi with e1;subst e1
   rw [U2 _ _ (Ne.symm hne)] at mj
   by_cases e:j=id
   ·subst e;rw [zP _ B hne,z7 H j .dead hid] at hj;cases hj
   ·rw [hg j (Ne.symm hne) e] at hj
    exact h.inj id j b o n c k' o2 n2 c2 (Ne.symm e) hlive hj hμ mj
  ·rw [wQ] at mj;injection mj with e1;subst e1
   rw [U2 _ _ hne] at mi
   by_cases e:i=id
   ·subst e;rw [zP _ B (Ne.symm hne),z7 H i .dead hid] at hi;cases hi
   ·rw [hg i hne e] at hi
    exact h.inj i id k o1 n1 c1 b o n c e hi (yt hlive) mi hμ
 ·subst hi
  rw [wQ] at hμ';injection hμ' with e1;subst e1
  obtain ⟨h1,h2⟩:=h.out id b o n c (yJ hlive) hμ
  exact ⟨h1,Nat.lt_of_lt_of_le h2 q.size⟩
end
end Go.Pe
namespace Go.Pe
def Z.toV:Z→Value
 | .bool=> .bool false | .int k=> .int k 0 | .str=> .string ByteArray.empty | .slice=> .slice none 0 0 | .func=> .nilFunc | .ptr=> .pointer none | .map=> .map none
def yQ (i:TI):Value:=if i.agg then .agg (i.zero.map Z.toV).toArray else match i.zero with | [z]=>z.toV | _=>undef
def zgb:List Z→List Ty→Bool
 | [],[]=>true
 | z::zs,t::ts=>z.is t&&zgb zs ts
 | _,_=>false
def zxc:Value→Value→Bool
 | .bool a,.bool b=>a==b
 | .int k a,.int k' b=>decide (k=k')&&decide (a=b)
 | .string a,.string b=>decide (a=b)
 | .slice none 0 0,.slice none 0 0=>true
 | .nilFunc,.nilFunc=>true
 | .pointer none,.pointer none=>true
 | .map none,.map none=>true
 | _,_=>false
theorem zyG {a b:Value} (h:zxc a b=true):a=b:=by
 unfold zxc at h
 split at h<;>simp_all
def zmI:List Value→List Value→Bool
 | [],[]=>true
 | a::as,b::bs=>zxc a b&&zmI as bs
 | _,_=>false
theorem zwe: ∀ {a b:List Value},zmI a b=true→a=b
 | [],[],_=>rfl
 | [],_::_,h=>by simp [zmI] at h
 | _::_,[],h=>by simp [zmI] at h
 | a::as,b::bs,h=>by
  simp only [zmI,Bool.and_eq_true] at h
  rw [zyG h.1,zwe h.2]
def ztU (i:TI):Option Value→Bool
 | some (.agg cs)=>i.agg&&zmI cs.toList (i.zero.map Z.toV)
 | some v=> !i.agg&&(match i.zero with | [z]=>zxc v z.toV | _=>false)
 | none=>false
theorem zDI {i:TI} {o:Option Value} (h:ztU i o=true):o=some (yQ i):=by
 cases o with
 | none=>simp [ztU] at h
 | some v =>
  unfold yQ
  cases v with
  | agg cs =>
   simp only [ztU,Bool.and_eq_true] at h
   rw [if_pos h.1,←zwe h.2]
  | _ =>
   simp only [ztU,Bool.and_eq_true,Bool.not_eq_true'] at h
   rw [if_neg (by simp [h.1])]
   obtain ⟨_,h⟩:=h
   split at h
   ·rename_i z hz;rw [zyG h]
   ·cases h
def tyB (lv:Nat→List Ty) (tab:List (Nat×TI)) (i:TI):Bool:=match i.ty with
 | none=>true
 | some (.named n)=>i.agg&&zgb i.zero (lv n)
 | some (.arr n e)=>i.agg&&i.alen==n&&i.fields.isEmpty&&(match look tab i.elem with | some u=>decide (u.ty=some e) | none=>false)
 | some (.slice e)=> !i.agg&&(match look tab i.elem with | some u=>decide (u.ty=some e)&& !Nat.beq u.size 0 | none=>false)&&(match i.zero with | [.slice]=>true | _=>false)&&(match e with | .arr _ _=>false | _=>true)
 | some τ=> !i.agg&&(match i.zero with | [z]=>z.is τ | _=>false)
def vK (P:Program) (tab:List (Nat×TI)) (i:TI):TypeDesc→Bool
 | .struct fs=>i.agg&&decide (i.fields=fs.toList.map fun f=>(f.offset,f.type))&&fs.toList.all (fun f=> !Nat.beq (P.cellsOf f.type) 0)&&i.alen==0&&(match i.ty with | none=>true | some (.named _)=>true | _=>false)
 | .array n e=>i.agg&&Nat.beq i.alen n&&Nat.beq i.elem e&&i.fields.isEmpty&&(match look tab e with | some u=>Nat.beq i.size (n*u.size)&& !Nat.beq u.size 0 | none=>false)&&(match i.ty with | none=>true | some (.arr _ _)=>true | some (.named _)=>true | _=>false)
 | .slice e=> !i.agg&&Nat.beq i.elem e&&(match i.ty with | none=>true | some (.slice _)=>true | _=>false)&&Nat.beq i.alen 0&&(look tab e).isSome
 | .int k=> !i.agg&&(match i.ty with | none=>true | some (.int k')=>decide (k=k') | _=>false)&&Nat.beq i.alen 0
 | .bool=> !i.agg&&(match i.ty with | none=>true | some .bool=>true | _=>false)&&Nat.beq i.alen 0
 | .string=> !i.agg&&(match i.ty with | none=>true | some .str=>true | _=>false)&&Nat.beq i.alen 0
 | .pointer e=> !i.agg&&i.ty.isNone&&(match look tab e with | some u=>Nat.beq i.alen u.alen | none=>Nat.beq i.alen 0)
 | .func _ _ _=> !i.agg&&i.ty.isNone&&Nat.beq i.alen 0
 | .map k e=> !i.agg&&i.ty.isNone&&Nat.beq i.elem e&&(match P.underlying k with | some (.int .i64)=>true | _=>false)&&Nat.beq i.alen 0
 | _=>false
def tiB (lv:Nat→List Ty) (P:Program) (tab:List (Nat×TI)) (t:Nat) (i:TI):Bool :=
 (match P.info? t with | some f=>Nat.beq f.size i.size&&Nat.beq f.bytes i.bytes&&ztU i f.zero | none=>false) &&
 (match P.underlying t with | some d=>vK P tab i d&&(i.sl==match d with | .slice _=>true | _=>false)&&(i.fk==match d with | .func _ _ _=>true | _=>false)&&(!i.cmp||(!P.eqGuardType P.depth t&&match d with | .struct fs=> !P.stoodInHeld t&&fs.toList.all (fun f=>f.name != "_") | _=>true)) | none=>false) &&
 tyB lv tab i&&Nat.beq i.zero.length i.size&&(i.agg||Nat.beq i.size 1&&i.fields.isEmpty)&&(Nat.ble i.bytes 4096&&(!i.mp||match P.underlying t with | some (.map _ _)=>true | _=>false))
def yx (lv:Nat→List Ty) (P:Program) (tab:List (Nat×TI)):Bool:=tab.all fun x=>tiB lv P tab x.1 x.2
theorem zC4 {tab:List (Nat×TI)} {t:Nat} {i:TI} (h:look tab t=some i):(t,i)∈tab:=by
 induction tab with
 | nil=>simp [look] at h
 | cons x r ih =>
  obtain ⟨u,j⟩:=x
  simp only [look] at h
  split at h
  ·rename_i hu
   have:=Nat.eq_of_beq_eq_true hu
   subst this
   simp at h;subst h;simp
  ·exact List.mem_cons_of_mem _ (ih h)
section
variable {E:yg} {P:Program} {tab:List (Nat×TI)} (hT:yx E.leaves P tab=true) {t:Nat} {i:TI} (hi:look tab t=some i)
include hT hi
theorem zf6:tiB E.leaves P tab t i=true:=List.all_eq_true.1 hT _ (zC4 hi)
theorem zeR: ∃f,P.info? t=some f∧f.size=i.size∧f.bytes=i.bytes∧f.zero=some (yQ i):=by
 have h:=zf6 hT hi
 simp only [tiB,Bool.and_eq_true] at h
 obtain ⟨⟨⟨⟨⟨h,_⟩,_⟩,_⟩,_⟩,_⟩:=h
 split at h
 ·rename_i f hf
  simp only [Bool.and_eq_true] at h
  exact ⟨f,hf,Nat.eq_of_beq_eq_true h.1.1,Nat.eq_of_beq_eq_true h.1.2,zDI h.2⟩
 ·cases h
theorem zsa: ∃d,P.underlying t=some d∧vK P tab i d=true∧(i.sl=true↔∃e,d= .slice e):=by
 have h:=zf6 hT hi
 simp only [tiB,Bool.and_eq_true] at h
 obtain ⟨⟨⟨⟨⟨_,h⟩,_⟩,_⟩,_⟩,_⟩:=h
 split at h
 ·rename_i d hd
  simp only [Bool.and_eq_true,beq_iff_eq] at h
  refine ⟨d,hd,h.1.1.1,?_⟩
  rw [h.1.1.2]
  split<;>simp_all
 ·cases h
theorem zAJ (hk:i.fk=true): ∃a b c,P.underlying t=some (.func a b c):=by
 have h:=zf6 hT hi
 simp only [tiB,Bool.and_eq_true] at h
 obtain ⟨⟨⟨⟨⟨_,h⟩,_⟩,_⟩,_⟩,_⟩:=h
 split at h
 ·rename_i d hd
  simp only [Bool.and_eq_true,beq_iff_eq] at h
  have:=h.1.2
  rw [hk] at this
  split at this
  ·exact ⟨_,_,_,hd⟩
  ·cases this
 ·cases h
theorem zBY (hk:i.cmp=true):P.eqGuardType P.depth t=false∧∀fs,P.underlying t=some (.struct fs)→P.stoodInHeld t=false∧∀f∈fs.toList,f.name ≠ "_" := by
 have h:=zf6 hT hi
 simp only [tiB,Bool.and_eq_true] at h
 obtain ⟨⟨⟨⟨⟨_,h⟩,_⟩,_⟩,_⟩,_⟩:=h
 split at h
 ·rename_i d hd
  simp only [Bool.and_eq_true,hk,Bool.not_true,Bool.false_or,Bool.not_eq_true'] at h
  refine ⟨h.2.1,fun fs hfs=> ?_⟩
  rw [hd] at hfs;injection hfs with hfs;subst hfs
  have h2:=h.2.2
  simp only [Bool.and_eq_true,Bool.not_eq_true',List.all_eq_true,bne_iff_ne] at h2
  exact h2
 ·cases h
theorem Yd: ∃d,P.underlying t=some d∧vK P tab i d=true:=by
 obtain ⟨d,h1,h2,_⟩:=zsa hT hi
 exact ⟨d,h1,h2⟩
theorem zou (h:i.sl=true):P.underlying t=some (.slice i.elem):=by
 obtain ⟨d,h1,h2,h3⟩:=zsa hT hi
 obtain ⟨e,rfl⟩:=h3.1 h
 simp only [vK,Bool.and_eq_true] at h2
 rw [Nat.eq_of_beq_eq_true h2.1.1.1.2];exact h1
theorem zup (h:i.agg=true) (h0:i.alen≠0):P.underlying t=some (.array i.alen i.elem):=by
 obtain ⟨d,h1,h2,_⟩:=zsa hT hi
 cases d with
 | array n e =>
  simp only [vK,Bool.and_eq_true] at h2
  rw [Nat.eq_of_beq_eq_true h2.1.1.1.1.2,Nat.eq_of_beq_eq_true h2.1.1.1.2];exact h1
 | struct fs =>
  simp only [vK,Bool.and_eq_true,beq_iff_eq] at h2
  exact absurd h2.1.2 h0
 | _=>simp [vK,h] at h2
theorem zga:tyB E.leaves tab i=true:=by
 have h:=zf6 hT hi
 simp only [tiB,Bool.and_eq_true] at h
 exact h.1.1.1.2
theorem znk:i.zero.length=i.size:=by
 have h:=zf6 hT hi
 simp only [tiB,Bool.and_eq_true] at h
 exact Nat.eq_of_beq_eq_true h.1.1.2
theorem zdB (ha:i.agg=false):i.size=1:=by
 have h:=zf6 hT hi
 simp only [tiB,Bool.and_eq_true,Bool.or_eq_true,ha,Bool.false_eq_true,false_or] at h
 exact Nat.eq_of_beq_eq_true h.1.2.1
theorem zAO (ha:i.agg=false):i.fields=[]:=by
 have h:=zf6 hT hi
 simp only [tiB,Bool.and_eq_true,Bool.or_eq_true,ha,Bool.false_eq_true,false_or] at h
 simpa using h.1.2.2
theorem znX:i.bytes≤4096:=by
 have h:=zf6 hT hi
 simp only [tiB,Bool.and_eq_true] at h
 exact Nat.le_of_ble_eq_true h.2.1
theorem zBT (hk:i.mp=true): ∃k,P.underlying t=some (.map k i.elem)∧P.underlying k=some (.int .i64):=by
 have h:=zf6 hT hi
 simp only [tiB,Bool.and_eq_true,hk,Bool.not_true,Bool.false_or] at h
 have h2:=h.2.2
 obtain ⟨d,hd,hb⟩:=Yd hT hi
 rw [hd] at h2
 split at h2
 ·rename_i k e heq
  injection heq with heq
  subst heq
  simp only [vK,Bool.and_eq_true] at hb
  have he:=Nat.eq_of_beq_eq_true hb.1.1.2
  subst he
  refine ⟨k,hd,?_⟩
  have:=hb.1.2
  split at this
  ·assumption
  ·cases this
 ·cases h2
theorem zoJ (w:World): ∃f:TypeInfo,(typeInfo t).run P w= .ok f w∧f.size=i.size∧f.bytes=i.bytes∧f.zero=some (yQ i):=by
 obtain ⟨f,h1,h2,h3,h4⟩:=zeR hT hi
 exact ⟨f,by simp [typeInfo,h1],h2,h3,h4⟩
theorem yC (w:World):(sizeOf t).run P w= .ok i.size w:=by
 obtain ⟨f,h1,h2,_⟩:=zoJ hT hi w
 simp [sizeOf,h1,h2]
theorem Zl (w:World):(zeroValue t).run P w= .ok (yQ i) w:=by
 obtain ⟨f,h1,_,_,h4⟩:=zoJ hT hi w
 simp [zeroValue,h1,h4]
theorem ziP (w:World):(isAgg t).run P w= .ok i.agg w:=by
 obtain ⟨d,h1,h2⟩:=Yd hT hi
 simp only [isAgg,Sem.run_bind,run_underlying h1,Result.andThen_ok]
 cases d<;>simp_all [vK]
end
theorem zo4: ∀ {zs:List Z} {ts:List Ty},zgb zs ts=true→zs.length=ts.length
 | [],[],_=>rfl
 | [],_::_,h=>by simp [zgb] at h
 | _::_,[],h=>by simp [zgb] at h
 | z::zs,t::ts,h=>by
  simp only [zgb,Bool.and_eq_true] at h
  simp [zo4 h.2]
theorem vJ {E:yg} {P:Program} {tab:List (Nat×TI)} (hT:yx E.leaves P tab=true): ∀(τ:Ty) {t:Nat} {i:TI},look tab t=some i→i.ty=some τ→τ.size E=i.size
 | .named n,t,i,hi,h=>by
  have h1:=zga hT hi
  simp only [tyB,h,Bool.and_eq_true] at h1
  rw [←znk hT hi,zo4 h1.2];rfl
 | .arr n e,t,i,hi,h=>by
  have h1:=zga hT hi
  obtain ⟨d,hd,h2⟩:=Yd hT hi
  simp only [tyB,h,Bool.and_eq_true] at h1
  obtain ⟨⟨⟨ha,hn⟩,hf⟩,h1⟩:=h1
  cases d with
  | array m el =>
   simp only [vK,h,Bool.and_eq_true] at h2
   obtain ⟨⟨⟨⟨⟨_,h3⟩,h4⟩,_⟩,h6⟩,_⟩:=h2
   have h3:=Nat.eq_of_beq_eq_true h3
   have h4:=Nat.eq_of_beq_eq_true h4
   have hn:i.alen=n:=by simpa using hn
   subst h4
   split at h1
   ·rename_i u hu
    have:=vJ hT e hu (by simpa using h1)
    simp only [hu,Bool.and_eq_true] at h6
    rw [Nat.eq_of_beq_eq_true h6.1,←this,←h3,hn]
    simp [Ty.size]
   ·cases h1
  | _=>simp [vK,h,ha] at h2
 | .bool,t,i,hi,h=>by
  have h1:=zga hT hi
  simp only [tyB,h,Bool.and_eq_true,Bool.not_eq_true'] at h1
  rw [zdB hT hi h1.1];rfl
 | .int k,t,i,hi,h=>by
  have h1:=zga hT hi
  simp only [tyB,h,Bool.and_eq_true,Bool.not_eq_true'] at h1
  rw [zdB hT hi h1.1];rfl
 | .str,t,i,hi,h=>by
  have h1:=zga hT hi
  simp only [tyB,h,Bool.and_eq_true,Bool.not_eq_true'] at h1
  rw [zdB hT hi h1.1];rfl
 | .slice e,t,i,hi,h=>by
  have h1:=zga hT hi
  simp only [tyB,h,Bool.and_eq_true,Bool.not_eq_true'] at h1
  rw [zdB hT hi h1.1.1.1];rfl
theorem UT {E:yg} {P:Program} {tab:List (Nat×TI)} (hT:yx E.leaves P tab=true) {t:Nat} {i:TI} {e:Ty} (hi:look tab t=some i) (h:i.ty=some (.slice e)) :
  ∃u,look tab i.elem=some u∧u.ty=some e∧u.size≠0∧P.underlying t=some (.slice i.elem)∧∀n e',e≠ .arr n e':=by
 have h1:=zga hT hi
 simp only [tyB,h,Bool.and_eq_true,Bool.not_eq_true'] at h1
 obtain ⟨⟨⟨_,h2⟩,_⟩,h4⟩:=h1
 obtain ⟨d,hd,h3⟩:=Yd hT hi
 split at h2
 ·rename_i u hu
  simp only [Bool.and_eq_true,decide_eq_true_eq,Bool.not_eq_true'] at h2
  refine ⟨u,hu,h2.1,fun e0=>by simp [e0] at h2,?_,fun n e' he=>by subst he;simp at h4⟩
  cases d with
  | slice el=>simp only [vK,Bool.and_eq_true] at h3;rw [Nat.eq_of_beq_eq_true h3.1.1.1.2];exact hd
  | _=>simp [vK,h] at h3
 ·cases h2
end Go.Pe
namespace Go.Pe
variable {E:yg}
def RL (R:ze E→Value→Prop) (ps:List (ze E)) (vs:List Value):Prop:=ps.length=vs.length∧∀(j:Nat) p u,ps[j]? =some p→vs[j]? =some u→R p u
section
variable {R:ze E→Value→Prop}
theorem RL.nil:RL R [] []:=⟨rfl,fun j p u h=>by simp at h⟩
theorem RL.cons {p:ze E} {u:Value} {ps:List (ze E)} {vs:List Value} (h:R p u) (k:RL R ps vs):RL R (p::ps) (u::vs) :=
 ⟨by simp [k.1],fun j q v hq hv=>by
  cases j with
  | zero=>simp at hq hv;subst hq hv;exact h
  | succ j=>exact k.2 j q v (by simpa using hq) (by simpa using hv)⟩
theorem RL.append {ps qs:List (ze E)} {us vs:List Value} (h:RL R ps us) (k:RL R qs vs):RL R (ps++qs) (us++vs) :=
 ⟨by simp [h.1,k.1],fun j p u hp hu=>by
  have hl:=h.1
  by_cases hj:j<ps.length
  ·rw [List.getElem?_append_left hj] at hp
   rw [List.getElem?_append_left (by omega)] at hu
   exact h.2 j p u hp hu
  ·rw [List.getElem?_append_right (by omega)] at hp
   rw [List.getElem?_append_right (by omega)] at hu
   exact k.2 _ p u hp (by rw [h.1];exact hu)⟩
theorem RL.drop {ps:List (ze E)} {vs:List Value} (h:RL R ps vs) (n:Nat):RL R (ps.drop n) (vs.drop n) :=
 ⟨by simp [h.1],fun j p u hp hu=>h.2 (n+j) p u (by simpa using hp) (by simpa using hu)⟩
theorem RL.take {ps:List (ze E)} {vs:List Value} (h:RL R ps vs) (n:Nat):RL R (ps.take n) (vs.take n) :=
 ⟨by simp [h.1],fun j p u hp hu=>by
  rw [List.getElem?_take] at hp hu
  split at hp
  ·rw [if_pos (by assumption)] at hu;exact h.2 j p u hp hu
  ·cases hp⟩
theorem RL.mono {R':ze E→Value→Prop} {ps:List (ze E)} {vs:List Value} (h:RL R ps vs) (k: ∀p u,R p u→R' p u):RL R' ps vs:=⟨h.1,fun j p u hp hu=>k _ _ (h.2 j p u hp hu)⟩
theorem RL.of_idx {ps:List (ze E)} {cs:Array Value} (hs:cs.size=ps.length) (h: ∀i (hi:i<ps.length),R ps[i] (cs.getD i undef)):RL R ps cs.toList :=
 ⟨by simp [hs],fun j p u hp hu=>by
  obtain ⟨hj,rfl⟩:=List.getElem?_eq_some_iff.1 hp
  have:=h j hj
  obtain ⟨hj',rfl⟩:=List.getElem?_eq_some_iff.1 hu
  simpa [Array.getD,hs,hj] using this⟩
theorem RL.idx {ps:List (ze E)} {vs:List Value} (h:RL R ps vs):vs.toArray.size=ps.length∧∀i (hi:i<ps.length),R ps[i] (vs.toArray.getD i undef) :=
 ⟨by simp [h.1],fun i hi=>h.2 i _ _ (List.getElem?_eq_getElem hi) (by
  have hi':i<vs.length:=by rw [←h.1];exact hi
  simp [Array.getD,hi'])⟩
end
abbrev Rp (E:yg) (A0:Nat→Prop) (μ:Nat→Loc) (H:List (Blk E)) (w:World):ze E→Value→Prop:=zT E w (Av A0 μ H) (Us H) μ
abbrev Rt (E:yg) (A0:Nat→Prop) (μ:Nat→Loc) (H:List (Blk E)) (w:World) (τ:Ty) (v:Value) (x:Den E.T τ):Prop:=z5 E w (Av A0 μ H) τ v x
theorem zT.aggL {w:World} {A U:Nat→Prop} {μ:Nat→Loc} {ps:List (ze E)} {vs:List Value} (h:RL (zT E w A U μ) ps vs):zT E w A U μ (.agg ps) (.agg vs.toArray) :=
 .agg ps _ h.idx.1 h.idx.2
theorem zT.tupleL {w:World} {A U:Nat→Prop} {μ:Nat→Loc} {ps:List (ze E)} {vs:List Value} (h:RL (zT E w A U μ) ps vs):zT E w A U μ (.tuple ps) (.tuple vs.toArray) :=
 .tuple ps _ h.idx.1 h.idx.2
theorem z5.leaf_cells {w:World} {A:Nat→Prop} {τ:Ty} {v:Value} {x:Den E.T τ} (h:z5 E w A τ v x) (hl:τ.leaf=true):v.cells= #[v]:=by
 cases h<;>first | rfl | (simp [Ty.leaf] at hl)
theorem HL.toP_len: ∀(ts:List Ty) (x:HL E.T ts),(HL.toP (E:=E) ts x).length=ts.length
 | [],_=>rfl
 | t::ts,x=>by simp [HL.toP,HL.toP_len ts x.2]
theorem HL.toP_get: ∀(ts:List Ty) (x:HL E.T ts) (i:Nat) (h:i<ts.length),(HL.toP (E:=E) ts x)[i]? =some (.v ts[i] (HL.get ts x i h))
 | t::ts,x,0,h=>by simp [HL.toP,HL.get]
 | t::ts,x,i+1,h=>by
  have:=HL.toP_get ts x.2 i (Nat.lt_of_succ_lt_succ h)
  simpa [HL.toP,HL.get] using this
theorem zT.cells {w:World} {A U:Nat→Prop} {μ:Nat→Loc} {p:ze E} {v:Value} (h:zT E w A U μ p v) (hl:(uB p).all ze.leaf=true):RL (zT E w A U μ) (uB p) v.cells.toList:=by
 have one: ∀ {p:ze E} {v:Value},zT E w A U μ p v→v.cells= #[v]→RL (zT E w A U μ) [p] v.cells.toList:=fun h e=>by rw [e];exact RL.cons h RL.nil
 cases h with
 | agg ps cs hs h=>exact RL.of_idx hs h
 | v τ x v h =>
  cases h with
  | named n cs x hs h =>
   have hlen:=HL.toP_len (E:=E) (E.leaves n) (E.unpack n x)
   refine RL.of_idx (ps:=HL.toP (E.leaves n) (E.unpack n x)) (cs:=cs) (by rw [hs,hlen]) (fun i hi=> ?_)
   rw [hlen] at hi
   have:=HL.toP_get (E.leaves n) (E.unpack n x) i hi
   obtain ⟨_,e⟩:=List.getElem?_eq_some_iff.1 this
   rw [e]
   exact .v _ _ _ (h i hi)
  | arr n e cs l vs h1 h2 h3 h4=>simp [uB,ze.leaf,Ty.leaf] at hl
  | bool b=>exact one (.v _ _ _ (.bool b)) rfl
  | int k x=>exact one (.v _ _ _ (.int k x)) rfl
  | str s=>exact one (.v _ _ _ (.str s)) rfl
  | nil e a cap=>exact one (.v _ _ _ (.nil e a cap)) rfl
  | slice e b off cap l vs h1 h2 h3 h4 h5=>exact one (.v _ _ _ (.slice e b off cap l vs h1 h2 h3 h4 h5)) rfl
 | any v=>simp [uB,ze.leaf] at hl
 | skip=>simp [uB,ze.leaf] at hl
 | tuple ps cs hs h=>simp [uB,ze.leaf] at hl
 | nils a=>exact one (.nils a) rfl
 | own id b off len cap u m=>exact one (.own id b off len cap u m) rfl
 | own0 id a a2 u m=>exact one (.own0 id a a2 u m) rfl
 | full e l a h=>exact one (.full e l a h) rfl
 | bsl id n b u m=>exact one (.bsl id n b u m) rfl
 | ptr id off b len cap u m=>exact one (.ptr id off b len cap u m) rfl
 | eptr e id i off b o len cap u m hi=>exact one (.eptr e id i off b o len cap u m hi) rfl
 | rptr ps b o us a1 a2 a3 a4=>exact one (.rptr ps b o us a1 a2 a3 a4) rfl
 | fn f ps cs hs h=>exact one (.fn f ps cs hs h) rfl
 | bfn f ps cs hs h=>exact one (.bfn f ps cs hs h) rfl
 | yld n i=>exact one (.yld n i) rfl
 | nilfn=>exact one .nilfn rfl
 | nilp=>exact one .nilp rfl
 | nilm=>exact one .nilm rfl
 | map id b u m=>exact one (.map id b u m) rfl
theorem z5.cellsL {w:World} {A U:Nat→Prop} {μ:Nat→Loc} {τ:Ty} {v:Value} {x:Den E.T τ} (h:z5 E w A τ v x) (hl:(zfM τ x).all ze.leaf=true):RL (zT E w A U μ) (zfM τ x) v.cells.toList :=
 zT.cells (.v τ x v h) hl
theorem zjH {w:World} {A U:Nat→Prop} {μ:Nat→Loc} {p:ze E} {v:Value} (h:zT E w A U μ p v) (hl:p.leaf=true):v.oneCell'=true:=by
 cases h with
 | v τ x v h=>cases h<;>first | rfl | (simp [ze.leaf,Ty.leaf] at hl)
 | _=>first | rfl | (simp [ze.leaf] at hl)
section
variable {P:Program} {tab:List (Nat×TI)} {A0:Nat→Prop} {μ:Nat→Loc} {H:List (Blk E)} {w:World} {R:Type} {K:ze E→List (Blk E)→Option R} {r:R}
def zR (P:Program) (A0:Nat→Prop) (μ:Nat→Loc) (H:List (Blk E)) (w:World) {R:Type} (s:Sem Value) (K:ze E→List (Blk E)→Option R) (r:R):Prop :=
 ∃p H' v w' μ',s.run P w= .ok v w'∧zK A0 μ H w μ' H' w'∧zM A0 μ' H' w'∧Rp E A0 μ' H' w' p v∧K p H'=some r
def zc2 (P:Program) (A0:Nat→Prop) (μ:Nat→Loc) (H:List (Blk E)) (w:World) {R:Type} (s:Sem Unit) (K:ze E→List (Blk E)→Option R) (r:R):Prop :=
 ∃H' w' μ',s.run P w= .ok () w'∧zK A0 μ H w μ' H' w'∧zM A0 μ' H' w'∧K .skip H'=some r
theorem zR.same {s:Sem Value} {v:Value} {p:ze E} (S:zM A0 μ H w) (h:s.run P w= .ok v w) (hp:Rp E A0 μ H w p v) (hk:K p H=some r):zR P A0 μ H w s K r :=
 ⟨p,H,v,w,μ,h,zK.refl _ _ _ _,S,hp,hk⟩
theorem W9 (b o j:Nat):(⟨b,o,none⟩:Addr).add j=⟨b,o+j,none⟩:=by unfold Addr.add;split<;>simp_all
theorem zec (hT:yx E.leaves P tab=true) {t:Nat} {i:TI} (hi:look tab t=some i) (w:World) (b o:Nat) (cs:List Value) (hl:cs.length=i.size)
  (hc: ∀(j:Nat) u,cs[j]? =some u→w.cell? ⟨b,o+j,none⟩=some u):(loadVar t ⟨b,o,none⟩).run P w= .ok (if i.agg then .agg cs.toArray else cs.headD undef) w:=by
 have hload:(loadCells ⟨b,o,none⟩ cs.length).run P w= .ok cs.toArray w:=run_loadCells_list (P:=P) w ⟨b,o,none⟩ cs (fun j v hv=>by rw [W9];exact hc j v hv)
 simp only [loadVar,Sem.run_bind,ziP hT hi,Result.andThen_ok]
 cases ha:i.agg with
 | true=>simp [yC hT hi,←hl,hload]
 | false =>
  have h1:=zdB hT hi ha
  match cs,hl with
  | [c],_=>have:=hc 0 c rfl;simp only [Nat.add_zero] at this;simp [this]
  | [],hl=>simp [h1] at hl
  | _::_::_,hl=>simp [h1] at hl
theorem zh6 {i:TI} {ps:List (ze E)} {vs:List Value} (h:(zmE i ps).cps H K=some r) (hr:RL (Rp E A0 μ H w) ps vs) :
  vs.length=i.size∧∃p,Rp E A0 μ H w p (if i.agg then .agg vs.toArray else vs.headD undef)∧K p H=some r:=by
 unfold zmE at h
 split at h
 ·rename_i hn
  have hn:=Nat.eq_of_beq_eq_true hn
  refine ⟨by rw [←hr.1,hn],?_⟩
  split at h
  ·rename_i ha;rw [if_pos ha];exact ⟨_,zT.aggL hr,h⟩
  ·rename_i ha
   rw [if_neg ha]
   match ps,vs,hr,h with
   | [c],[u],hr,h=>exact ⟨c,hr.2 0 c u rfl rfl,h⟩
   | [c],[],hr,_=>simp [RL] at hr
   | [c],_::_::_,hr,_=>simp [RL] at hr
   | [],_,_,h=>simp [Dec.cps] at h
   | _::_::_,_,_,h=>simp [Dec.cps] at h
 ·simp [Dec.cps] at h
theorem zd8 {R:ze E→Value→Prop} {ps:List (ze E)} {vs:List Value} (h:RL R ps vs) (off n:Nat):RL R (Pe.sub ps off n) (Pe.sub vs off n):=(h.drop off).take n
theorem zpS {w:World} {b:Nat} {fr:Bool} {c:Array Value} (h:zdj w b fr c) (off n:Nat): ∀(j:Nat) u,(Pe.sub c.toList off n)[j]? =some u→w.cell? ⟨b,off+j,none⟩=some u:=by
 intro j u hu
 obtain ⟨t,f,hb,_⟩:=h
 unfold Pe.sub at hu
 rw [List.getElem?_take] at hu
 split at hu
 ·rw [List.getElem?_drop] at hu
  simp only [World.cell?,hb]
  simpa using hu
 ·cases hu
theorem xL {τ τ':Ty} {x:Den E.T τ} {y:Den E.T τ'} (h:wK (E:=E) τ τ' x=some y): ∃e:τ=τ',e▸x=y:=by
 unfold wK at h
 split at h
 ·rename_i e;exact ⟨e,by simpa using h⟩
 ·cases h
end
end Go.Pe
namespace Go.Pe
variable {E:yg}
section
variable {P:Program} {tab:List (Nat×TI)} {A0:Nat→Prop} {μ:Nat→Loc} {H:List (Blk E)} {w:World} {R:Type}
theorem z5.less {A A':Nat→Prop} {τ:Ty} {v:Value} {x:Den E.T τ} (h:z5 E w A τ v x) (hA: ∀b,A' b→A b):z5 E w A' τ v x :=
 h.mono (Nat.le_refl _) (fun b _ hb=>⟨rfl,fun h'=>hb (hA b h')⟩)
theorem zuV {wr:Bool} {e:Ty} {l:List (Den E.T e)} {b o n c:Nat} {A A':Nat→Prop} {U:Nat→Prop} (ok:xE w A U μ (.blk b o n c) (.row wr e l))
  (hA: ∀b,A' b→A b) (hb: ¬A' b):n=l.length∧z5 E w A' (.slice e) (.slice (some ⟨b,o,none⟩) n c) l:=by
 rcases ok with ⟨b',off,cap,c',vs,hl,hbox,h1,h2,h3,h4⟩ | ⟨_,a,h2⟩
 ·injection hl with e1 e2 e3 e4
  subst e1 e2 e3 e4
  refine ⟨rfl,.slice e b o c l vs hb hbox.lt h1 (fun i hi j u hu=> ?_) (fun i hi=>(h4 i hi).less hA)⟩
  obtain ⟨t,f,hh,_⟩:=hbox
  simp only [World.cell?,hh]
  simpa using h3 i hi j u hu
 ·cases h2
theorem zpa {τ:Ty} {p:ze E} {v:Value} {y:Den E.T τ} {ids:List Nat} (S:zM A0 μ H w) (hp:Rp E A0 μ H w p v) (h:wM τ p H=some (y,ids))
  {A':Nat→Prop} (hA: ∀b,A' b→Av A0 μ H b) (hids: ∀id∈ids,∀b o l c,μ id= .blk b o l c→¬A' b):z5 E w A' τ v y:=by
 cases hp with
 | v τ' x v hx =>
  simp only [wM,Option.bind_eq_some_iff] at h
  obtain ⟨z,hz,he⟩:=h
  obtain ⟨e,rfl⟩:=xL hz
  subst e
  simp at he;obtain ⟨rfl,_⟩:=he
  exact hx.less hA
 | nils a =>
  simp only [wM] at h
  split at h
  ·simp at h;obtain ⟨rfl,_⟩:=h;exact .nil _ a 0
  ·cases h
 | full e l a hx =>
  simp only [wM] at h
  split at h
  ·simp only [Option.bind_eq_some_iff] at h
   obtain ⟨z,hz,he⟩:=h
   obtain ⟨e',rfl⟩:=xL hz
   injection e' with e';subst e'
   simp at he;obtain ⟨rfl,_⟩:=he
   exact hx.less hA
  ·cases h
 | own id b o n c hU hμ =>
  simp only [wM] at h
  split at h
  ·cases hB:zi H id with
   | row wr e' l =>
    simp only [hB,Option.bind_eq_some_iff] at h
    obtain ⟨z,hz,he⟩:=h
    obtain ⟨e',rfl⟩:=xL hz
    injection e' with e';subst e'
    simp at he;obtain ⟨rfl,rfl⟩:=he
    have ok:=S.ok id
    rw [hB,hμ] at ok
    exact (zuV ok hA (hids id (by simp) b o n c hμ)).2
   | _=>simp [hB] at h
  ·cases h
 | own0 id a a2 hU hμ =>
  simp only [wM] at h
  split at h
  ·cases hB:zi H id with
   | row wr e' l =>
    simp only [hB,Option.bind_eq_some_iff] at h
    obtain ⟨z,hz,he⟩:=h
    obtain ⟨e',rfl⟩:=xL hz
    injection e' with e';subst e'
    simp at he;obtain ⟨rfl,rfl⟩:=he
    have ok:=S.ok id
    rw [hB,hμ] at ok
    rcases ok with ⟨_,_,_,_,_,hl,_⟩ | ⟨rfl,_⟩
    ·cases hl
    ·exact .nil _ a 0
   | _=>simp [hB] at h
  ·cases h
 | _=>simp [wM] at h
theorem zth {τ:Ty} {p:ze E} {y:Den E.T τ} {ids:List Nat} (h:wM τ p []=some (y,ids)) (H:List (Blk E)):wM τ p H=some (y,ids)∧ids=[]:=by
 cases p with
 | own id=>simp only [wM] at h;split at h<;>simp_all [zi]
 | v τ' x=>exact ⟨h,by simp only [wM,Option.bind_eq_some_iff] at h;obtain ⟨z,_,he⟩:=h;simp at he;exact he.2⟩
 | nils=>refine ⟨h,?_⟩;simp only [wM] at h;split at h<;>simp_all
 | full e l =>
  refine ⟨h,?_⟩
  simp only [wM] at h
  split at h
  ·simp only [Option.bind_eq_some_iff] at h;obtain ⟨z,_,he⟩:=h;simp at he;exact he.2
  ·cases h
 | _=>simp [wM] at h
theorem zmG: ∀ {ts:List Ty} {ps:List (ze E)} {vs:List Value} {x:HL E.T ts} {ids:List Nat},zM A0 μ H w→RL (Rp E A0 μ H w) ps vs→wj ts ps H=some (x,ids) →
  ∀ {A':Nat→Prop},(∀b,A' b→Av A0 μ H b)→(∀id∈ids,∀b o l c,μ id= .blk b o l c→¬A' b) →
  vs.length=ts.length∧∀i (hi:i<ts.length),z5 E w A' ts[i] (vs.getD i undef) (HL.get ts x i hi)
 | [],[],vs,x,ids,S,hr,h,A',hA,hids=>by
  have:=hr.1;simp at this;simp [this.symm]
 | [],_::_,_,_,_,_,_,h,_,_,_=>by simp [wj] at h
 | _::_,[],_,_,_,_,_,h,_,_,_=>by simp [wj] at h
 | t::ts,p::ps,[],_,_,_,hr,_,_,_,_=>by have:=hr.1;simp at this
 | t::ts,p::ps,v::vs,x,ids,S,hr,h,A',hA,hids=>by
  simp only [wj,Option.bind_eq_some_iff] at h
  obtain ⟨a,ha,b,hb,he⟩:=h
  obtain ⟨a1,a2⟩:=a
  obtain ⟨b1,b2⟩:=b
  simp at he;obtain ⟨rfl,rfl⟩:=he
  have h0:=zpa S (hr.2 0 p v rfl rfl) ha hA (fun id hid=>hids id (by simp [hid]))
  have h1:=zmG (ts:=ts) (ps:=ps) (vs:=vs) S ⟨by have:=hr.1;simpa using this,fun j p u hp hu=>hr.2 (j+1) p u (by simpa using hp) (by simpa using hu)⟩ hb hA (fun id hid=>hids id (by simp [hid]))
  refine ⟨by simp [h1.1],fun i hi=> ?_⟩
  cases i with
  | zero=>simpa [HL.get] using h0
  | succ i=>simpa [HL.get] using h1.2 i (Nat.lt_of_succ_lt_succ hi)
theorem zqk: ∀ {ts:List Ty} {ps:List (ze E)} {x:HL E.T ts} {ids:List Nat},wj ts ps []=some (x,ids)→∀H:List (Blk E),wj ts ps H=some (x,ids)∧ids=[]
 | [],[],_,_,h,H=>by simp [wj] at h ⊢;exact h
 | [],_::_,_,_,h,_=>by simp [wj] at h
 | _::_,[],_,_,h,_=>by simp [wj] at h
 | t::ts,p::ps,x,ids,h,H=>by
  simp only [wj,Option.bind_eq_some_iff] at h ⊢
  obtain ⟨⟨a1,a2⟩,ha,⟨b1,b2⟩,hb,he⟩:=h
  simp at he;obtain ⟨rfl,rfl⟩:=he
  obtain ⟨ha',rfl⟩:=zth ha H
  obtain ⟨hb',rfl⟩:=zqk hb H
  exact ⟨⟨_,ha',_,hb',rfl⟩,rfl⟩
theorem zvK {τ:Ty} {p:ze E} {v:Value} {y:Den E.T τ} {ids:List Nat} (S:zM A0 μ H w) (hp:Rp E A0 μ H w p v) (h:toT τ p H=some (y,ids))
  {A':Nat→Prop} (hA: ∀b,A' b→Av A0 μ H b) (hids: ∀id∈ids,∀b o l c,μ id= .blk b o l c→¬A' b):z5 E w A' τ v y:=by
 unfold toT at h
 split at h
 ·rename_i cs n
  simp only [Option.bind_eq_some_iff] at h
  obtain ⟨⟨x,ids'⟩,hx,he⟩:=h
  simp at he;obtain ⟨rfl,rfl⟩:=he
  cases hp with
  | agg ps vs hs hr =>
   obtain ⟨h1,h2⟩:=zmG S (RL.of_idx hs hr) hx hA hids
   refine .named n vs _ (by simpa using h1) (fun i hi=> ?_)
   rw [E.up]
   simpa [Array.getD_eq_getD_getElem?] using h2 i hi
 ·exact zpa S hp h hA hids
theorem zEc {τ:Ty} {p:ze E} {y:Den E.T τ} {ids:List Nat} (h:toT τ p []=some (y,ids)) (H:List (Blk E)):toT τ p H=some (y,ids)∧ids=[]:=by
 unfold toT at h ⊢
 split at h
 ·rename_i cs n
  simp only [Option.bind_eq_some_iff] at h
  obtain ⟨⟨x,ids'⟩,hx,he⟩:=h
  simp at he;obtain ⟨rfl,rfl⟩:=he
  obtain ⟨h1,rfl⟩:=zqk hx H
  simp [h1]
 ·exact zth h H
theorem znM {τ:Ty} {p:ze E} {v:Value} {y:Den E.T τ} (S:zM A0 μ H w) (hp:Rp E A0 μ H w p v) (h:zyu τ p=some y):Rt E A0 μ H w τ v y:=by
 simp only [zyu,Option.bind_eq_some_iff] at h
 obtain ⟨⟨x,ids⟩,hx,he⟩:=h
 simp at he;subst he
 obtain ⟨h1,rfl⟩:=zEc hx H
 exact zvK S hp h1 (fun _ h=>h) (fun id hid=>by cases hid)
theorem zx7 {id:Nat} {wr:Bool} {e:Ty} {l:List (Den E.T e)} (hB:zi H id= .row wr e l) {B:Blk E}: ∀j,zi H j= .free→zi (H.set id B) j= .free:=by
 intro j hj
 have hne:id≠j:=fun e=>by subst e;rw [hB] at hj;cases hj
 rw [zP H B hne];exact hj
theorem zba {id:Nat} {wr:Bool} {e:Ty} {l:List (Den E.T e)} (S:zM A0 μ H w) (hB:zi H id= .row wr e l) :
  zK A0 μ H w μ (H.set id (.row false e l)) w∧zM A0 μ (H.set id (.row false e l)) w ∧
   ∀v,Rp E A0 μ H w (.own id) v→∃a c,v= .slice a l.length c∧Rt E A0 μ (H.set id (.row false e l)) w (.slice e) v l:=by
 have hu:Us H id:=by unfold Us;rw [hB];rfl
 have hlt:=xK hu
 have T:zK A0 μ H w μ (H.set id (.row false e l)) w:=zK.drop id _ hu rfl rfl
 have ok:=S.ok id
 rw [hB] at ok
 have S':zM A0 μ (H.set id (.row false e l)) w:=by
  refine S.drop id _ hu rfl rfl (fun _=>by rw [hB];rfl) (fun _=>by rw [hB];rfl) ?_
  have ok':=ok.keep T (fun _ _ _ _ _ _=>rfl)
  rcases ok' with ⟨b,off,cap,c,vs,hl,hbox,h1⟩ | h1
  ·obtain ⟨t,f,hh,_⟩:=hbox
   exact .inl ⟨b,off,cap,c,vs,hl,⟨t,f,hh,fun h=>by cases h⟩,h1⟩
  ·exact .inr h1
 refine ⟨T,S',fun v hv=> ?_⟩
 have ok2:=S'.ok id
 rw [z7 H id _ hlt] at ok2
 cases hv with
 | own id b o n c hU hμ =>
  rw [hμ] at ok2
  have hA: ¬Av A0 μ (H.set id (.row false e l)) b:=by
   rintro (h0 | ⟨j,o',n',c',hj,hj'⟩)
   ·exact (S'.out id b o n c (by rw [z7 H id _ hlt];rfl) hμ).1 h0.1
   ·by_cases ej:j=id
    ·subst ej;rw [z7 H j _ hlt] at hj;cases hj
    ·exact S'.inj j id b o' n' c' b o n c ej hj (by rw [z7 H id _ hlt];rfl) hj' hμ rfl
  obtain ⟨h1,h2⟩:=zuV ok2 (fun _ h=>h) hA
  subst h1
  exact ⟨_,_,rfl,h2⟩
 | own0 id a a2 hU hμ =>
  rw [hμ] at ok2
  rcases ok2 with ⟨_,_,_,_,_,hl,_⟩ | ⟨rfl,_⟩
  ·cases hl
  ·exact ⟨a,0,rfl,.nil _ a 0⟩
variable {α:Type} {K:α→List (Blk E)→Option R} {r:R}
theorem zmK {τ:Ty} (k:Den E.T τ→Dec E α): ∀ {cs:List (ze E)} {acc:List (ze E)} {vs:List Value} {us:List Value} {H:List (Blk E)},zM A0 μ H w→RL (Rp E A0 μ H w) cs vs →
  RL (Rp E A0 μ H w) acc us→(zbl.typedAgg τ k cs acc).cps H K=some r →
  ∃x H',zK A0 μ H w μ H' w∧zM A0 μ H' w∧Rt E A0 μ H' w τ (.agg (us++vs).toArray) x∧(∀id,zi H id= .free→zi H' id= .free)∧(k x).cps H' K=some r
 | [],acc,vs,us,H,S,hc,ha,h=>by
  have:=hc.1;simp at this;obtain rfl:=List.length_eq_zero_iff.1 this.symm
  simp only [zbl.typedAgg] at h
  split at h
  ·rename_i y hy
   exact ⟨y,H,zK.refl _ _ _ _,S,by simpa using znM S (zT.aggL ha) hy,fun _ h=>h,h⟩
  ·simp [Dec.cps] at h
 | c::cs,acc,[],us,H,S,hc,ha,h=>by have:=hc.1;simp at this
 | c::cs,acc,v::vs,us,H,S,hc,ha,h=>by
  have hc0:=hc.2 0 c v rfl rfl
  have hcs:RL (Rp E A0 μ H w) cs vs:=⟨by have:=hc.1;simpa using this,fun j p u hp hu=>hc.2 (j+1) p u (by simpa using hp) (by simpa using hu)⟩
  have go: ∀(c:ze E) (H':List (Blk E)),zK A0 μ H w μ H' w→zM A0 μ H' w→(∀id,zi H id= .free→zi H' id= .free)→Rp E A0 μ H' w c v→(zbl.typedAgg τ k cs (acc++[c])).cps H' K=some r →
    ∃x H',zK A0 μ H w μ H' w∧zM A0 μ H' w∧Rt E A0 μ H' w τ (.agg (us++v::vs).toArray) x∧(∀id,zi H id= .free→zi H' id= .free)∧(k x).cps H' K=some r:=fun c H' T S' hfr hcv h=>by
   obtain ⟨x,H'',T',S'',hx,hfr',hk⟩:=zmK k S' (hcs.mono fun _ _=>T.rep) ((ha.mono fun _ _=>T.rep).append (RL.cons hcv RL.nil)) h
   exact ⟨x,H'',T.trans T',S'',by simpa using hx,fun id h=>hfr' id (hfr id h),hk⟩
  cases c with
  | own id =>
   simp only [zbl.typedAgg,Dec.cps] at h
   cases hB:zi H id with
   | row wr e l =>
    rw [hB] at h
    simp only [Dec.cps] at h
    cases hlt:Nat.blt id H.length with
    | false=>simp [hlt] at h
    | true =>
     simp only [hlt,cond_true] at h
     obtain ⟨T,S',hrep⟩:=zba S hB
     obtain ⟨a,c,rfl,hv⟩:=hrep v hc0
     exact go (.v (.slice e) l) _ T S' (zx7 hB) (.v _ _ _ hv) h
   | _=>rw [hB] at h;simp [Dec.cps] at h
  | _=>exact go _ H (zK.refl _ _ _ _) S (fun _ h=>h) hc0 (by simpa only [zbl.typedAgg] using h)
theorem zbH {τ:Ty} {p:ze E} {v:Value} {k:Den E.T τ→Dec E α} (S:zM A0 μ H w) (hp:Rp E A0 μ H w p v) (h:(zbl τ p k).cps H K=some r) :
  ∃x H',zK A0 μ H w μ H' w∧zM A0 μ H' w∧Rt E A0 μ H' w τ v x∧(∀id,zi H id= .free→zi H' id= .free)∧(k x).cps H' K=some r:=by
 unfold zbl at h
 split at h
 ·rename_i id
  simp only [Dec.cps] at h
  cases hB:zi H id with
  | row wr e l =>
   rw [hB] at h
   simp only [Dec.cps] at h
   cases hlt:Nat.blt id H.length with
   | false=>simp [hlt] at h
   | true =>
    simp only [hlt,cond_true] at h
    obtain ⟨T,S',hrep⟩:=zba S hB
    obtain ⟨a,c,rfl,hv⟩:=hrep v hp
    split at h
    ·rename_i y hy
     exact ⟨y,_,T,S',znM S' (.v _ _ _ hv) hy,zx7 hB,h⟩
    ·simp [Dec.cps] at h
  | _=>rw [hB] at h;simp [Dec.cps] at h
 ·rename_i cs
  cases hp with
  | agg ps vs hs hr =>
   obtain ⟨x,H',T,S',hx,hfr,hk⟩:=zmK k S (RL.of_idx hs hr) RL.nil h
   exact ⟨x,H',T,S',by simpa using hx,hfr,hk⟩
 ·split at h
  ·rename_i y hy
   exact ⟨y,H,zK.refl _ _ _ _,S,znM S hp hy,fun _ h=>h,h⟩
  ·simp [Dec.cps] at h
theorem uS {e:Ty} (h:e.leaf=true):e.size E=1:=by cases e<;>first | rfl | (simp [Ty.leaf] at h)
theorem zDG {i:TI} {n:Nat} {e:Ty} (h:zdY i=some (n,e)):i.ty=some (.arr n e):=by
 unfold zdY at h
 split at h
 ·rename_i hty;simp at h;obtain ⟨rfl,rfl⟩:=h;exact hty
 ·cases h
theorem zr8 (hT:yx E.leaves P tab=true) {t:Nat} {i:TI} (hi:look tab t=some i) {n:Nat} {e:Ty} (h:zdY i=some (n,e)):i.agg=true∧i.alen=n∧i.size=n*e.size E:=by
 have hty:=zDG h
 have h1:=zga hT hi
 simp only [tyB,hty,Bool.and_eq_true] at h1
 exact ⟨h1.1.1.1,by simpa using h1.1.1.2,(vJ hT _ hi hty).symm⟩
theorem zEA {wr:Bool} {e:Ty} {l:List (Den E.T e)} {b o n c:Nat} {A U:Nat→Prop} (he:e.leaf=true) (ok:xE w A U μ (.blk b o n c) (.row wr e l)) :
  n=l.length∧∃cs:List Value,cs.length=l.length∧(∀(j:Nat) u,cs[j]? =some u→w.cell? ⟨b,o+j,none⟩=some u)∧z5 E w A (.arr l.length e) (.agg cs.toArray) l:=by
 rcases ok with ⟨b',off,cap,c',vs,hl,hbox,h1,h2,h3,h4⟩ | ⟨_,a,h2⟩
 rotate_left
 ·cases h2
 injection hl with e1 e2 e3 e4
 subst e1 e2 e3 e4
 have hsz:=uS (E:=E) he
 obtain ⟨t,f,hh,_⟩:=hbox
 refine ⟨rfl,(List.range l.length).map vs,by simp,fun j u hu=> ?_,.arr _ e _ l vs rfl (by simp [hsz]) (fun i hi j u hu=> ?_) h4⟩
 ·simp only [List.getElem?_map,Option.map_eq_some_iff] at hu
  obtain ⟨i,hi,rfl⟩:=hu
  obtain ⟨hj,hij⟩:=List.getElem?_eq_some_iff.1 hi
  simp only [List.getElem_range] at hij
  subst hij
  have hj':j<l.length:=by simpa using hj
  have:=h3 j hj' 0 (vs j) (by rw [(h4 j hj').leaf_cells he];rfl)
  simp only [World.cell?,hh]
  simpa [hsz] using this
 ·rw [(h4 i hi).leaf_cells he] at hu
  cases j with
  | zero =>
   have hu:vs i=u:=by simpa using hu
   subst hu
   simp [hsz,hi]
  | succ j=>simp at hu
theorem zro {R:Type} {K:ze E→List (Blk E)→Option R} {r:R} (hT:yx E.leaves P tab=true) {t:Nat} {i:TI} (hi:look tab t=some i) {n:Nat} {e:Ty} (ha:zdY i=some (n,e)) {p:ze E} {v:Value} (S:zM A0 μ H w) (hp:Rp E A0 μ H w p v)
  (h:(zxa n e p).cps H K=some r): ∃b o cs l,v= .pointer (some ⟨b,o,none⟩)∧(loadVar t ⟨b,o,none⟩).run P w= .ok (.agg cs) w∧Rt E A0 μ H w (.arr n e) (.agg cs) l∧K (.v (.arr n e) l) H=some r:=by
 unfold zxa at h
 split at h
 rotate_left
 ·simp [Dec.cps] at h
 rename_i e' id k off
 split at h
 rotate_left
 ·simp [Dec.cps] at h
 rename_i hc
 simp only [Bool.and_eq_true,decide_eq_true_eq] at hc
 obtain ⟨⟨⟨h1,h2⟩,rfl⟩,he⟩:=hc
 have h1:=Nat.eq_of_beq_eq_true h1
 have h2:=Nat.eq_of_beq_eq_true h2
 subst h1 h2
 simp only [Dec.cps] at h
 cases hp with
 | eptr e id n0 off b o len cap hU hμ hlt =>
  have ok:=S.ok id
  cases hB:zi H id with
  | row wr e2 l =>
   rw [hB,hμ] at ok
   rw [hB] at h
   simp only at h
   split at h
   rotate_left
   ·simp [Dec.cps] at h
   rename_i l' hcast
   obtain ⟨he2,rfl⟩:=xL hcast
   injection he2 with he2;subst he2
   simp only [Dec.cps] at h
   cases hd:decide (l.length=n) with
   | false=>simp [hd] at h
   | true =>
    simp only [hd,cond_true] at h
    have hd:l.length=n:=by simpa using hd
    subst hd
    obtain ⟨_,cs,hl,hcell,hrep⟩:=zEA he ok
    obtain ⟨hagg,_,hsz⟩:=zr8 hT hi ha
    have hrun:=zec hT hi w b o cs (by rw [hl,hsz,uS he];simp) hcell
    rw [if_pos hagg] at hrun
    exact ⟨b,o,cs.toArray,l,by simp,hrun,hrep,h⟩
  | _=>rw [hB] at h;simp [Dec.cps] at h
theorem zGg {id j:Nat} {B:Blk E} (hB:zi H id≠ .free) (h:zi H j= .free):zi (H.set id B) j= .free:=by
 rw [zP H B (fun e=>hB (by rw [e];exact h))];exact h
theorem zfP {α R:Type} {k:Dec E α} {K:α→List (Blk E)→Option R} {r:R}: ∀(ps:List (ze E)) {H:List (Blk E)},zM A0 μ H w→(zn5 ps k).cps H K=some r →
  ∃H',zK A0 μ H w μ H' w∧zM A0 μ H' w∧k.cps H' K=some r
 | [],H,S,h=>⟨H,zK.refl _ _ _ _,S,h⟩
 | p::ps,H,S,h=>by
  cases p with
  | own id =>
   simp only [zn5,Dec.cps] at h
   cases hB:zi H id with
   | rowh e l n j =>
    rw [hB] at h
    simp only [Dec.cps] at h
    cases hJ:zi H j with
    | row wr e' l' =>
     rw [hJ] at h
     cases wr with
     | false=>simp [Dec.cps] at h
     | true =>
      simp only at h
      split at h
      rotate_left
      ·simp [Dec.cps] at h
      rename_i l2 hcast
      obtain ⟨he,rfl⟩:=xL hcast
      injection he with he;subst he
      simp only [Dec.cps] at h
      cases hlj:Nat.blt j H.length with
      | false=>simp [hlj] at h
      | true =>
       simp only [hlj,cond_true] at h
       obtain ⟨T1,S1,hrep⟩:=zba S hJ
       have hij:j≠id:=fun e=>by rw [e,hB] at hJ;cases hJ
       cases hli:Nat.blt id (H.set j (.row false e' l')).length with
       | false=>rw [hli] at h;cases h
       | true =>
        simp only [hli,cond_true] at h
        have hB1:zi (H.set j (.row false e' l')) id= .rowh e' l n j:=by rw [zP H _ hij];exact hB
        have hu:Us (H.set j (.row false e' l')) id:=by unfold Us;rw [hB1];rfl
        have hlive:yE (zi (H.set j (.row false e' l')) id)=true:=by rw [hB1];rfl
        have T2:zK A0 μ (H.set j (.row false e' l')) w μ ((H.set j (.row false e' l')).set id (.row true (.slice e') (l.set n l'))) w:=zK.write id _ hu (z8.refl w) hlive (fun _ _ _=>rfl) rfl
        have S2:zM A0 μ ((H.set j (.row false e' l')).set id (.row true (.slice e') (l.set n l'))) w:=by
         refine S1.write id _ hu (z8.refl w) hlive (fun _ _ _=>rfl) rfl ?_
         have ok:=S.ok id
         rw [hB] at ok
         obtain ⟨b,off,cap,c,vs,hl,hbox,g1,g2,g3,g4,g5,g6⟩:=ok
         obtain ⟨a,cc,hv,hr⟩:=hrep _ g6
         refine .inl ⟨b,off,cap,c,vs,by rw [List.length_set];exact hl,hbox,by rw [List.length_set];exact g1,by simpa [Ty.size] using g2,fun i hi q u hu=> ?_,fun i hi=> ?_⟩
         ·rw [List.length_set] at hi
          have:=g4 i hi q u hu
          simpa [Ty.size] using this
         ·simp only [List.length_set] at hi
          rw [List.getElem_set]
          by_cases hin:n=i
          ·subst hin;rw [if_pos rfl];exact T2.repT hr
          ·rw [if_neg hin];exact T2.repT (T1.repT (g5 i hi (Ne.symm hin)))
        obtain ⟨H',T3,S3,hk⟩:=zfP ps S2 h
        exact ⟨H',T1.trans (T2.trans T3),S3,hk⟩
    | _=>rw [hJ] at h;simp [Dec.cps] at h
   | _=>rw [hB] at h;exact zfP ps S h
  | _=>simp only [zn5] at h;exact zfP ps S h
theorem zzI {R:Type} {K:ze E→List (Blk E)→Option R} {r:R} (hT:yx E.leaves P tab=true) {t:Nat} {i:TI} (hi:look tab t=some i) {mv:Bool} {p:ze E} {v:Value} (S:zM A0 μ H w) (hp:Rp E A0 μ H w p v)
  (h:(zAA mv i p).cps H K=some r):zR P A0 μ H w (Instr.loadAt t v) K r:=by
 have fin: ∀(b o:Nat) (ps:List (ze E)) (vs:List Value),(zmE i ps).cps H K=some r→RL (Rp E A0 μ H w) ps vs→(∀(j:Nat) u,vs[j]? =some u→w.cell? ⟨b,o+j,none⟩=some u) →
   zR P A0 μ H w (Instr.loadAt t (.pointer (some ⟨b,o,none⟩))) K r:=fun b o ps vs h hr hc=>by
  obtain ⟨hl,p,hp,hk⟩:=zh6 h hr
  exact zR.same S (by simp [Instr.loadAt,Instr.sureAddr,zec hT hi w b o vs hl hc]) hp hk
 unfold zAA at h
 split at h
 ·rename_i n e ha
  obtain ⟨b,o,cs,l,rfl,hrun,hrep,hk⟩:=zro hT hi ha S hp h
  exact zR.same S (by simp [Instr.loadAt,Instr.sureAddr,hrun]) (.v _ _ _ hrep) hk
 rename_i hna
 cases hp with
 | ptr id off b len cap hU hμ =>
  simp only [Dec.cps] at h
  have ok:=S.ok id
  cases hB:zi H id with
  | box wr cs =>
   rw [hB] at ok h
   obtain ⟨b',len',cap',c,hl,hbox,hsz,hr⟩:=ok
   rw [hμ] at hl;injection hl with e1;subst e1
   have hrl:=zd8 (RL.of_idx hsz (fun j hj=>(hr j hj).1)) off i.size
   simp only at h
   split at h
   ·obtain ⟨H',T',S',hk⟩:=zfP _ S h
    obtain ⟨hl,p,hp,hk⟩:=zh6 (A0:=A0) (μ:=μ) (w:=w) hk (hrl.mono fun _ _=>T'.rep)
    exact ⟨_,_,_,w,μ,by simp [Instr.loadAt,Instr.sureAddr,zec hT hi w b off _ hl (zpS hbox off i.size)],T',S',hp,hk⟩
   ·exact fin b off _ _ h hrl (zpS hbox off i.size)
  | _=>rw [hB] at h;simp [Dec.cps] at h
 | eptr e id n off b o len cap hU hμ _ =>
  simp only [Dec.cps] at h
  have ok:=S.ok id
  cases hB:zi H id with
  | rowh e' l n' k =>
   rw [hB] at ok h
   simp only at h
   split at h
   rotate_left
   ·simp [Dec.cps] at h
   rename_i hc
   simp only [Bool.and_eq_true,decide_eq_true_eq] at hc
   obtain ⟨h0,rfl⟩:=hc
   have h0:=Nat.eq_of_beq_eq_true h0
   subst h0
   simp only [Dec.cps] at h
   cases hd:decide (n=n') with
   | false=>simp [hd] at h
   | true =>
    simp only [hd,cond_true] at h
    have hd:n=n':=by simpa using hd
    subst hd
    obtain ⟨b',off,cap',c,vs,hl,hbox,g1,g2,g3,g4,g5,g6⟩:=ok
    rw [hμ] at hl;injection hl with e1 e2;subst e1 e2
    have hone:(vs n).cells= #[vs n]:=by
     generalize vs n=u at g6
     cases g6<;>rfl
    refine fin _ _ _ _ h (RL.cons g6 RL.nil) (fun j u hu=> ?_)
    cases j with
    | zero =>
     have hu:vs n=u:=by simpa using hu
     subst hu
     have:=g4 n g3 0 (vs n) (by rw [hone];rfl)
     obtain ⟨t',f,hb,_⟩:=hbox
     simp only [World.cell?,hb]
     simpa [Ty.size] using this
    | succ j=>simp at hu
  | row wr e' l =>
   rw [hB] at ok h
   simp only at h
   split at h
   ·rename_i l' hcast
    obtain ⟨he,rfl⟩:=xL hcast
    injection he with he;subst he
    simp only [Dec.cps] at h
    cases hx:l[n]? with
    | none=>simp [hx] at h
    | some x =>
     simp only [hx,Option.bind_some] at h
     obtain ⟨hn,hxe⟩:=List.getElem?_eq_some_iff.1 hx
     rcases ok with ⟨b',off',cap',c,vs,hl,hbox,h1,h2,h3,h4⟩ | ⟨rfl,_⟩
     ·rw [hμ] at hl;injection hl with e1 e2;subst e1 e2
      have hrep:=h4 n hn
      rw [hxe] at hrep
      split at h
      ·rename_i hleaf
       refine fin _ _ _ _ h (zd8 (z5.cellsL hrep hleaf) off i.size) (fun j u hu=> ?_)
       unfold Pe.sub at hu
       rw [List.getElem?_take] at hu
       split at hu
       ·rw [List.getElem?_drop,Array.getElem?_toList] at hu
        have:=h3 n hn _ _ hu
        obtain ⟨t',f,hb,_⟩:=hbox
        simp only [World.cell?,hb]
        simpa [Nat.add_assoc] using this
       ·cases hu
      ·simp [Dec.cps] at h
     ·simp at hn
   ·simp [Dec.cps] at h
  | _=>rw [hB] at h;simp [Dec.cps] at h
 | rptr ps b o us hA hb hm hr =>
  simp only at h
  refine fin b o _ _ h (zd8 (ps:=ps) (vs:=(List.range ps.length).map us) ⟨by simp,fun j p u hp hu=> ?_⟩ 0 i.size) (fun j u hu=> ?_)
  ·obtain ⟨hj,rfl⟩:=List.getElem?_eq_some_iff.1 hp
   simp [hj] at hu;subst hu;exact hr j hj
  ·unfold Pe.sub at hu
   rw [List.getElem?_take] at hu
   split at hu
   ·simp only [List.drop_zero,List.getElem?_map,Option.map_eq_some_iff] at hu
    obtain ⟨a,ha,rfl⟩:=hu
    obtain ⟨hj,rfl⟩:=List.getElem?_eq_some_iff.1 ha
    simpa using hm j (by simpa using hj)
   ·cases hu
 | _=>simp [Dec.cps] at h
end
end Go.Pe
namespace Go.Pe
variable {E:yg}
theorem z5.size {w:World} {A:Nat→Prop} {τ:Ty} {v:Value} {x:Den E.T τ} (h:z5 E w A τ v x):v.cells.size=τ.size E:=by
 cases h<;>first | rfl | assumption
section
variable {P:Program} {tab:List (Nat×TI)} {A0:Nat→Prop} {μ:Nat→Loc} {H:List (Blk E)} {w:World} {R:Type} {K:ze E→List (Blk E)→Option R} {r:R}
theorem zBH {w:World} {A U:Nat→Prop} {l:Loc} {wr:Bool} {cs:List (ze E)} (ok:xE w A U μ l (.box wr cs)) :
  ∃b n cap c,l= .blk b 0 n cap∧zdj w b wr c∧RL (zT E w A U μ) cs c.toList∧∀p∈cs,p.leaf=true:=by
 obtain ⟨b,n,cap,c,hl,hbox,hsz,hr⟩:=ok
 refine ⟨b,n,cap,c,hl,hbox,RL.of_idx hsz (fun j hj=>(hr j hj).1),fun p hp=> ?_⟩
 obtain ⟨j,hj,rfl⟩:=List.getElem_of_mem hp
 exact (hr j hj).2
theorem zCE {w:World} {A U:Nat→Prop} {wr:Bool} {cs:List (ze E)} {b n cap:Nat} {vs:List Value} (hbox:zdj w b wr vs.toArray) (hr:RL (zT E w A U μ) cs vs) (hl: ∀p∈cs,p.leaf=true) :
  xE w A U μ (.blk b 0 n cap) (.box wr cs) :=
 ⟨b,n,cap,vs.toArray,rfl,hbox,hr.idx.1,fun j hj=>⟨hr.idx.2 j hj,hl _ (List.getElem_mem hj)⟩⟩
theorem YP {i:TI} {τ:Ty} (h:zad i τ=true):i.ty=some τ:=by
 unfold zad at h
 split at h
 ·simp at h;subst h;assumption
 ·cases h
theorem zo6 {t:Nat} {i:TI} (hT:yx E.leaves P tab=true) (hi:look tab t=some i) {b o:Nat} {c:Array Value} {t':TypeId} {u:Value} (hh:w.heap[b]? =some (.cells c t' (0,0))) (hsz:u.cells.size=i.size) (hle:o+i.size≤c.size) (hone: ∀y∈u.cells.toList,y.oneCell'=true) :
  (Instr.storeAt t (.pointer (some ⟨b,o,none⟩)) u).run P w= .ok () (w.setRow b (c.toList.take o++u.cells.toList++c.toList.drop (o+i.size)).toArray):=by
 have hrun:=run_storeCells_at (P:=P) b o t' u.cells.toList 0 c w hh (by simp [hsz];omega) hone
 simp only [Instr.storeAt,Instr.sureAddr,storeVar,Sem.run_bind,Sem.run_pure,Result.andThen_ok,yC hT hi,hsz]
 simpa [hsz] using hrun
theorem zzU {o n:Nat} {c:Array Value} {u:List Value} (hn:u.length=n) (hle:o+n≤c.size):(c.toList.take o++u++c.toList.drop (o+n)).toArray.size=c.size ∧
  ∀k,(c.toList.take o++u++c.toList.drop (o+n)).toArray[k]? =if k<o then c[k]? else if k<o+n then u[k-o]? else c[k]? :=by
 refine ⟨by simp [hn];omega,fun k=> ?_⟩
 have hmin:min o c.size=o:=by omega
 simp only [List.getElem?_toArray,List.append_assoc,List.getElem?_append,List.length_take,Array.length_toList,hmin,List.getElem?_take,Array.getElem?_toList,List.getElem?_drop,hn]
 split
 ·rfl
 ·rename_i hk
  split
  ·rename_i hk2;rw [if_pos (by omega)]
  ·rename_i hk2;rw [if_neg (by omega)];congr 1;omega
theorem zyp (hT:yx E.leaves P tab=true) {t:Nat} {i:TI} (hi:look tab t=some i) {n:Nat} {e:Ty} (ha:zdY i=some (n,e)) {p x:ze E} {v u:Value} (S:zM A0 μ H w) (hp:Rp E A0 μ H w p v) (hx:Rp E A0 μ H w x u)
  (h:(zyW n e p x).cps H K=some r):zc2 P A0 μ H w (Instr.storeAt t v u) K r:=by
 unfold zyW at h
 split at h
 rotate_left
 ·simp [Dec.cps] at h
 rename_i e' id k off n' e2 l'
 split at h
 rotate_left
 ·simp [Dec.cps] at h
 rename_i hc
 simp only [Bool.and_eq_true,decide_eq_true_eq] at hc
 obtain ⟨⟨⟨⟨⟨h1,h2⟩,rfl⟩,he⟩,rfl⟩,hn⟩:=hc
 have h1:=Nat.eq_of_beq_eq_true h1
 have h2:=Nat.eq_of_beq_eq_true h2
 have hn:=Nat.eq_of_beq_eq_true hn
 subst h1 h2 hn
 simp only [Dec.cps] at h
 obtain ⟨hagg,_,hsz⟩:=zr8 hT hi ha
 rw [uS he,Nat.mul_one] at hsz
 cases hp with
 | eptr e id n0 off b o len cap hU hμ hlt =>
  have ok:=S.ok id
  cases hB:zi H id with
  | row wr e3 l =>
   rw [hB] at ok h
   cases wr with
   | false=>simp [Dec.cps] at h
   | true =>
    simp only at h
    split at h
    rotate_left
    ·simp [Dec.cps] at h
    rename_i l2 hcast
    obtain ⟨he2,rfl⟩:=xL hcast
    injection he2 with he2;subst he2
    simp only [Dec.cps] at h
    cases hd:decide (l.length=n') with
    | false=>simp [hd] at h
    | true =>
     simp only [hd,cond_true] at h
     have hd:l.length=n':=by simpa using hd
     cases hli:Nat.blt id H.length with
     | false=>rw [hli] at h;cases h
     | true =>
      simp only [hli,cond_true] at h
      rcases ok with ⟨b',off',cap',c,vs,hl,hbox,g1,g2,g3,g4⟩ | ⟨_,a,g2⟩
      rotate_left
      ·rw [hμ] at g2;cases g2
      rw [hμ] at hl;injection hl with q1 q2 q3 q4;subst q1 q2 q3 q4
      obtain ⟨t',f,hh,hf⟩:=hbox
      obtain rfl:=hf rfl
      rw [uS he,Nat.mul_one] at g2
      cases hx with
      | v _ _ _ hx =>
       cases hx with
       | arr n0 e0 cs l0 us a1 a2 a3 a4 =>
        have hone: ∀y∈(Value.agg cs).cells.toList,y.oneCell'=true:=fun y hy=>by
         have hy:y∈cs.toList:=hy
         obtain ⟨j,hj,rfl⟩:=List.getElem_of_mem hy
         have hj':j<n':=by simpa [a2,uS he] using hj
         have hjl:j<l'.length:=by omega
         have hr:=a4 j hjl
         have h3:=a3 j hj' 0 (us j) (by rw [hr.leaf_cells he];rfl)
         rw [uS he] at h3
         have hj2:j<cs.size:=by simpa using hj
         have e5:cs.toList[j]=us j:=by
          rw [Array.getElem?_eq_some_iff] at h3
          obtain ⟨q,h3⟩:=h3
          simpa using h3
         rw [e5]
         exact zjH (U:=Us H) (μ:=μ) (.v _ _ _ hr) he
        have hsu:(Value.agg cs).cells.size=i.size:=by show cs.size=_;rw [a2,uS he,hsz];omega
        have hrun:=zo6 (w:=w) hT hi hh hsu (o:=o) (by omega) hone
        obtain ⟨z1,z2⟩:=zzU (o:=o) (n:=i.size) (c:=c) (u:=(Value.agg cs).cells.toList) (by rw [←hsu];simp) (by omega)
        generalize hc':(c.toList.take o++(Value.agg cs).cells.toList++c.toList.drop (o+i.size)).toArray=c' at hrun z1 z2
        have hlive:yE (zi H id)=true:=by rw [hB];rfl
        have hb: ∀k,k<w.heap.size→(∀o n c,μ id≠ .blk k o n c)→(w.setRow b c').heap[k]? =w.heap[k]? :=fun k _ hk=>setRow_other _ _ _ _ (fun e=>hk o l.length cap (e▸hμ))
        have T2:zK A0 μ H w μ (H.set id (.row true e2 l')) (w.setRow b c'):=zK.write id _ hU (z8.setRow w b _) hlive hb rfl
        refine ⟨_,_,μ,by simpa using hrun,T2,S.write id _ hU (z8.setRow w b _) hlive hb rfl ?_,h⟩
        rw [hμ]
        refine .inl ⟨b,o,cap,c',us,by rw [a1,hd],⟨t',(0,0),setRow_heap _ _ _ _ _ _ hh,fun _=>rfl⟩,by omega,by rw [z1,uS he];omega,fun i hi j y hy=> ?_,fun i hi=>T2.repT (a4 i hi)⟩
        have hr:=a4 i hi
        rw [hr.leaf_cells he] at hy
        cases j with
        | succ j=>simp at hy
        | zero =>
         have hy:us i=y:=by simpa using hy
         subst hy
         have h3:=a3 i (by omega) 0 (us i) (by rw [hr.leaf_cells he];rfl)
         rw [uS he] at h3 ⊢
         rw [z2,if_neg (by omega),if_pos (by omega)]
         show cs.toList[_]? =_
         rw [Array.getElem?_toList]
         rw [←h3];congr 1;omega
  | _=>rw [hB] at h;simp [Dec.cps] at h
theorem zyw (hT:yx E.leaves P tab=true) {t:Nat} {i:TI} (hi:look tab t=some i) {e:Ty} {id n b o len cap:Nat} {x:ze E} {u:Value} (hμ:μ id= .blk b o len cap) (hU:Us H id) (hn:n<len) (hsz:e.size E=e.size E) (husz:u.cells.size=i.size) (S:zM A0 μ H w) (hx:Rp E A0 μ H w x u)
  (hone: ∀y∈u.cells.toList,y.oneCell'=true) (h:(zyl e id n x).cps H K=some r):zc2 P A0 μ H w (Instr.storeAt t (.pointer (some ⟨b,o+n*e.size E+0,none⟩)) u) K r:=by
 unfold zyl at h
 split at h
 rotate_left
 ·simp [Dec.cps] at h
 rename_i e k
 simp only [Dec.cps] at h
 have ok:=S.ok id
 cases hB:zi H id with
 | row wr e' l =>
  rw [hB] at h ok
  cases wr with
  | false=>simp [Dec.cps] at h
  | true =>
   simp only at h
   split at h
   rotate_left
   ·simp [Dec.cps] at h
   rename_i l1 hcast
   obtain ⟨he,rfl⟩:=xL hcast
   injection he with he;subst he
   simp only [Dec.cps] at h
   cases hJ:zi H k with
   | row wr2 e2 l2 =>
    rw [hJ] at h
    cases wr2 with
    | false=>simp [Dec.cps] at h
    | true =>
     simp only at h
     split at h
     rotate_left
     ·simp [Dec.cps] at h
     rename_i he2
     simp only [Dec.cps] at h
     cases hli:Nat.blt id H.length with
     | false=>rw [hli] at h;cases h
     | true =>
      simp only [hli,cond_true] at h
      rcases ok with ⟨b',off',cap',c,vs,hl,hbox,g1,g2,g3,g4⟩ | ⟨_,a,g2⟩
      rotate_left
      ·rw [hμ] at g2;cases g2
      rw [hμ] at hl;injection hl with q1 q2 q3 q4;subst q1 q2 q3 q4
      obtain ⟨t',f,hh,hf⟩:=hbox
      obtain rfl:=hf rfl
      have hu1:u.cells= #[u]:=by cases hx<;>rfl
      have hs1:i.size=1:=by rw [←husz,hu1];rfl
      simp only [Ty.size,Nat.mul_one,Nat.add_zero] at g2 g3 ⊢
      have hrun:=zo6 (w:=w) hT hi hh husz (o:=o+n) (by omega) hone
      obtain ⟨z1,z2⟩:=zzU (o:=o+n) (n:=i.size) (c:=c) (u:=u.cells.toList) (by rw [←husz];simp) (by omega)
      generalize hc':(c.toList.take (o+n)++u.cells.toList++c.toList.drop (o+n+i.size)).toArray=c' at hrun z1 z2
      have hlive:yE (zi H id)=true:=by rw [hB];rfl
      have hb: ∀k,k<w.heap.size→(∀o n c,μ id≠ .blk k o n c)→(w.setRow b c').heap[k]? =w.heap[k]? :=fun k _ hk=>setRow_other _ _ _ _ (fun e=>hk o l.length cap (e▸hμ))
      have T2:zK A0 μ H w μ (H.set id (.rowh e l n k)) (w.setRow b c'):=zK.write id _ hU (z8.setRow w b _) hlive hb rfl
      refine ⟨_,_,μ,hrun,T2,S.write id _ hU (z8.setRow w b _) hlive hb rfl ?_,h⟩
      rw [hμ]
      refine ⟨b,o,cap,c',fun i=>if i=n then u else vs i,rfl,⟨t',(0,0),setRow_heap _ _ _ _ _ _ hh,fun _=>rfl⟩,g1,by rw [z1];exact g2,hn,fun i hi j y hy=> ?_,fun i hi hin=> ?_,?_⟩
      ·by_cases hin:i=n
       ·subst hin
        simp only [if_true] at hy
        rw [hu1] at hy
        cases j with
        | succ j=>simp at hy
        | zero =>
         have hy:u=y:=by simpa using hy
         subst hy
         rw [z2,if_neg (by omega),if_pos (by omega),hu1];simp
       ·simp only [if_neg hin] at hy
        have hv1:(vs i).cells= #[vs i]:=(g4 i hi).leaf_cells rfl
        have h0:=g3 i hi j y hy
        rw [hv1] at hy
        cases j with
        | succ j=>simp at hy
        | zero =>
         rw [z2]
         split
         ·exact h0
         ·rw [if_neg (by omega)];exact h0
      ·simp only [if_neg hin];exact T2.repT (g4 i hi)
      ·simp only [if_true];exact T2.rep hx
   | _=>rw [hJ] at h;simp [Dec.cps] at h
 | _=>rw [hB] at h;simp [Dec.cps] at h
theorem zyn (hT:yx E.leaves P tab=true) {t:Nat} {i:TI} (hi:look tab t=some i) {mv:Bool} {p x:ze E} {v u:Value} (S:zM A0 μ H w) (hp:Rp E A0 μ H w p v) (hx:Rp E A0 μ H w x u)
  (h:(zy4 mv i p x).cps H K=some r):zc2 P A0 μ H w (Instr.storeAt t v u) K r:=by
 unfold zy4 at h
 split at h
 ·exact zyp hT hi (by assumption) S hp hx h
 simp only at h
 split at h
 rotate_left
 ·simp [Dec.cps] at h
 rename_i hc
 simp only [Bool.and_eq_true] at hc
 obtain ⟨hlen,hleaf⟩:=hc
 have hlen:=Nat.eq_of_beq_eq_true hlen
 have hcell:=zT.cells hx hleaf
 have husz:u.cells.size=i.size:=by have:=hcell.1;simpa [hlen] using this.symm
 have hone: ∀y∈u.cells.toList,y.oneCell'=true:=fun y hy=>by
  obtain ⟨j,hj,rfl⟩:=List.getElem_of_mem hy
  have hj':j<(uB x).length:=by rw [hcell.1];exact hj
  exact zjH (hcell.2 j _ _ (List.getElem?_eq_getElem hj') (List.getElem?_eq_getElem hj)) (List.all_eq_true.1 hleaf _ (List.getElem_mem hj'))
 cases hp with
 | ptr id off b n cap hU hμ =>
  simp only [Dec.cps] at h
  have ok:=S.ok id
  cases hB:zi H id with
  | box wr cs =>
   rw [hB] at h ok
   cases wr with
   | false=>simp [Dec.cps] at h
   | true =>
    simp only at h
    split at h
    rotate_left
    ·simp [Dec.cps] at h
    rename_i hfit
    have hfit:=Nat.le_of_ble_eq_true hfit
    simp only [Dec.cps] at h
    cases hlt:Nat.blt id H.length with
    | false=>simp [hlt] at h
    | true =>
     simp only [hlt,cond_true] at h
     obtain ⟨b',n',cap',c,hl,hbox,hr,hlf⟩:=zBH ok
     rw [hμ] at hl;injection hl with e1 e2 e3 e4;subst e1 e3 e4
     obtain ⟨t',f,hh,hf⟩:=hbox
     obtain rfl:=hf rfl
     have hcs:c.size=cs.length:=by have:=hr.1;simpa using this.symm
     have hrun:=run_storeCells_at (P:=P) b off t' u.cells.toList 0 c w hh (by simp [husz,hcs];omega) hone
     have hlive:yE (zi H id)=true:=by rw [hB];rfl
     have hb: ∀k,k<w.heap.size→(∀o n c,μ id≠ .blk k o n c)→(w.setRow b (c.toList.take (off+0)++u.cells.toList++c.toList.drop (off+0+u.cells.toList.length)).toArray).heap[k]? =w.heap[k]? :=
      fun k _ hk=>setRow_other _ _ _ _ (fun e=>hk 0 n cap (e▸hμ))
     have T:zK A0 μ H w μ (H.set id (.box true (V6 cs off (uB x)))) _:=zK.write id _ hU (z8.setRow w b _) hlive hb rfl
     refine ⟨_,_,μ,?_,T,S.write id _ hU (z8.setRow w b _) hlive hb rfl ?_,h⟩
     ·simp only [Instr.storeAt,Instr.sureAddr,storeVar,Sem.run_bind,Sem.run_pure,Result.andThen_ok,yC hT hi,husz]
      simpa using hrun
     ·rw [hμ]
      refine zCE (vs:=c.toList.take (off+0)++u.cells.toList++c.toList.drop (off+0+u.cells.toList.length)) ⟨t',(0,0),setRow_heap _ _ _ _ _ _ hh,fun _=>rfl⟩ ?_ ?_
      ·have e:off+0+u.cells.toList.length=off+(uB x).length:=by rw [hcell.1];omega
       have hfin:RL (Rp E A0 μ H w) (V6 cs off (uB x)) (c.toList.take (off+0)++u.cells.toList++c.toList.drop (off+0+u.cells.toList.length)):=by
        rw [e];exact ((hr.take off).append hcell).append (hr.drop _)
       exact hfin.mono fun _ _=>T.rep
      ·intro q hq
       simp only [V6,List.mem_append] at hq
       rcases hq with (hq | hq) | hq
       ·exact hlf q (List.mem_of_mem_take hq)
       ·exact List.all_eq_true.1 hleaf q hq
       ·exact hlf q (List.mem_of_mem_drop hq)
  | _=>rw [hB] at h;simp [Dec.cps] at h
 | eptr e id n off b o len cap hU hμ hn =>
  simp only at h
  split at h
  rotate_left
  ·simp [Dec.cps] at h
  rename_i hoff
  simp only [Bool.and_eq_true] at hoff
  obtain ⟨hoff,hty⟩:=hoff
  have hoff:=Nat.eq_of_beq_eq_true hoff
  subst hoff
  have hsz:=vJ hT e hi (YP hty)
  split at h
  ·exact zyw hT hi hμ hU hn rfl husz S hx hone h
  obtain ⟨z,H1,T1,S1,hz,_,h⟩:=zbH S hx h
  simp only [Dec.cps] at h
  have ok:=S1.ok id
  obtain ⟨hU1,hμ1⟩:=T1.used id hU
  cases hB:zi H1 id with
  | row wr e' l =>
   rw [hB] at h ok
   cases wr with
   | false=>simp [Dec.cps] at h
   | true =>
    simp only at h
    split at h
    rotate_left
    ·simp [Dec.cps] at h
    rename_i l' hcast
    obtain ⟨he,rfl⟩:=xL hcast
    injection he with he;subst he
    simp only [Dec.cps] at h
    cases hlt:Nat.blt id H1.length with
    | false=>simp [hlt] at h
    | true =>
     simp only [hlt,cond_true] at h
     rcases ok with ⟨b',off',cap',c,vs,hl,hbox,h1,h2,h3,h4⟩ | ⟨_,a,h2⟩
     rotate_left
     ·rw [hμ] at h2;cases h2
     rw [hμ] at hl;injection hl with e1 e2 e3 e4;subst e1 e2 e3 e4
     obtain ⟨t',f,hh,hf⟩:=hbox
     obtain rfl:=hf rfl
     have husz':u.cells.size=e'.size E:=hz.size
     have hle:n*e'.size E+e'.size E≤cap*e'.size E:=by
      have:(n+1)*e'.size E≤cap*e'.size E:=Nat.mul_le_mul_right _ (by omega)
      simpa [Nat.add_mul] using this
     have hrun:=run_storeCells_at (P:=P) b (o+n*e'.size E+0) t' u.cells.toList 0 c w hh (by simp [husz'];omega) hone
     have hlive:yE (zi H1 id)=true:=by rw [hB];rfl
     generalize hc':(c.toList.take (o+n*e'.size E+0+0)++u.cells.toList++c.toList.drop (o+n*e'.size E+0+0+u.cells.toList.length)).toArray=c' at hrun
     have hget: ∀k,c'[k]? =if k<o+n*e'.size E then c[k]? else if k<o+n*e'.size E+e'.size E then u.cells[k-(o+n*e'.size E)]? else c[k]? :=by
      intro k
      subst hc'
      have hmin:min (o+n*e'.size E) c.size=o+n*e'.size E:=by omega
      simp only [List.getElem?_toArray,Nat.add_zero,List.append_assoc,List.getElem?_append,List.length_take,Array.length_toList,hmin,List.getElem?_take,Array.getElem?_toList,List.getElem?_drop,husz']
      split
      ·rfl
      ·rename_i hk
       split
       ·rename_i hk2;rw [if_pos (by omega)]
       ·rename_i hk2;rw [if_neg (by omega)];congr 1;omega
     have hsz':c'.size=c.size:=by
      subst hc'
      simp [husz']
      omega
     have hb: ∀k,k<w.heap.size→(∀o n c,μ id≠ .blk k o n c)→(w.setRow b c').heap[k]? =w.heap[k]? :=fun k _ hk=>setRow_other _ _ _ _ (fun e=>hk o l.length cap (e▸hμ))
     have T2:zK A0 μ H1 w μ (H1.set id (.row true e' (l.set n z))) (w.setRow b c'):=zK.write id _ hU1 (z8.setRow w b _) hlive hb rfl
     refine ⟨_,_,μ,?_,T1.trans T2,S1.write id _ hU1 (z8.setRow w b _) hlive hb rfl ?_,h⟩
     ·simp only [Instr.storeAt,Instr.sureAddr,storeVar,Sem.run_bind,Sem.run_pure,Result.andThen_ok,yC hT hi,husz]
      simpa using hrun
     ·rw [hμ]
      refine .inl ⟨b,o,cap,c',fun i=>if i=n then u else vs i,by simp,⟨t',(0,0),setRow_heap _ _ _ _ _ _ hh,fun _=>rfl⟩,by simpa using h1,by rw [hsz'];exact h2,fun i hi j y hy=> ?_,fun i hi=> ?_⟩
      ·simp only [List.length_set] at hi
       rw [hget]
       by_cases e:i=n
       ·subst e
        simp only [if_true] at hy
        have hj:j<u.cells.size:=by
         rcases Nat.lt_or_ge j u.cells.size with h' | h'
         ·exact h'
         ·rw [Array.getElem?_eq_none h'] at hy;cases hy
        rw [if_neg (by omega),if_pos (by omega)]
        rw [←hy];congr 1;omega
       ·simp only [if_neg e] at hy
        have hj:j<e'.size E:=by
         rw [←(h4 i hi).size]
         rcases Nat.lt_or_ge j (vs i).cells.size with h' | h'
         ·exact h'
         ·rw [Array.getElem?_eq_none h'] at hy;cases hy
        have h0:=h3 i hi j y hy
        rcases Nat.lt_or_gt_of_ne e with hlt' | hgt
        ·have:(i+1)*e'.size E≤n*e'.size E:=Nat.mul_le_mul_right _ hlt'
         rw [Nat.add_mul] at this
         rw [if_pos (by omega)];exact h0
        ·have:(n+1)*e'.size E≤i*e'.size E:=Nat.mul_le_mul_right _ hgt
         rw [Nat.add_mul] at this
         rw [if_neg (by omega),if_neg (by omega)];exact h0
      ·simp only [List.length_set] at hi
       rw [List.getElem_set]
       by_cases e:n=i
       ·subst e;simp only [if_true];exact T2.repT hz
       ·rw [if_neg e];simp only [if_neg (Ne.symm e)];exact T2.repT (h4 i hi)
  | _=>rw [hB] at h;simp [Dec.cps] at h
 | _=>simp [Dec.cps] at h
theorem zy1 (hT:yx E.leaves P tab=true) {t:Nat} {i:TI} (hi:look tab t=some i) {f off t':Nat} (hf:i.fields[f]? =some (off,t')) :
  ∃fs fld,P.underlying t=some (.struct fs)∧fs[f]? =some fld∧fld.offset=off∧fld.type=t'∧P.cellsOf t'≠0:=by
 obtain ⟨d,hd,h2⟩:=Yd hT hi
 cases d with
 | struct fs =>
  simp only [vK,Bool.and_eq_true,decide_eq_true_eq] at h2
  obtain ⟨⟨⟨⟨_,h3⟩,h4⟩,_⟩,_⟩:=h2
  rw [h3,List.getElem?_map] at hf
  simp only [Option.map_eq_some_iff,Prod.mk.injEq] at hf
  obtain ⟨fld,h5,h6,h7⟩:=hf
  have:=List.all_eq_true.1 h4 fld (List.mem_of_getElem? h5)
  exact ⟨fs,fld,hd,by simpa using h5,h6,h7,fun e=>by rw [←h7] at e;simp [e] at this⟩
 | array n e =>
  simp only [vK,Bool.and_eq_true] at h2
  have:=h2.1.1.2
  simp at this;rw [this] at hf;simp at hf
 | _ =>
  have ha:i.agg=false:=by simp only [vK,Bool.and_eq_true,Bool.not_eq_true'] at h2;first | exact h2.1 | exact h2.1.1 | exact h2.1.1.1 | exact h2.1.1.1.1 | cases h2
  rw [zAO hT hi ha] at hf;simp at hf
theorem zkh {t:Nat} (h:P.cellsOf t≠0) (w:World):(sizeOf t).run P w= .ok (P.cellsOf t) w:=by
 unfold Program.cellsOf at *
 cases hi:P.info? t with
 | none=>simp [hi] at h
 | some f=>simp [sizeOf,typeInfo,hi]
theorem zrR (hT:yx E.leaves P tab=true) {t:Nat} {i:TI} (hi:look tab t=some i) {p:ze E} {v:Value} {f:Nat} (S:zM A0 μ H w) (hp:Rp E A0 μ H w p v)
  (h:(znz i p f).cps H K=some r):zR P A0 μ H w (Instr.fieldAt t v f) K r:=by
 unfold znz at h
 split at h
 rotate_left
 ·simp [Dec.cps] at h
 rename_i off t' hf
 obtain ⟨fs,fld,h1,h2,h3,h4,h5⟩:=zy1 hT hi hf
 subst h3 h4
 have hrun: ∀b o,(Instr.fieldAt t (.pointer (some ⟨b,o,none⟩)) f).run P w= .ok (.pointer (some ⟨b,o+fld.offset,none⟩)) w:=fun b o=>by
  simp [Instr.fieldAt,run_underlying h1,h2,Instr.sureAddr,fieldPlace,zkh h5,h5,W9]
 cases hp with
 | ptr id o b n cap hU hμ=>exact zR.same S (hrun b o) (.ptr id _ b n cap hU hμ) h
 | eptr e id n o b o' len cap hU hμ hn =>
  refine zR.same S (hrun b _) ?_ h
  have:=zT.eptr (E:=E) (w:=w) (A:=Av A0 μ H) (U:=Us H) (μ:=μ) e id n (o+fld.offset) b o' len cap hU hμ hn
  simpa [Nat.add_assoc] using this
 | rptr ps b o us hA hb hm hr =>
  refine zR.same S (hrun b o) (.rptr _ b (o+fld.offset) (fun j=>us (fld.offset+j)) hA hb (fun j hj=> ?_) (fun j hj=> ?_)) h
  ·have:=hm (fld.offset+j) (by simp at hj;omega)
   simpa [Nat.add_assoc] using this
  ·have hj':fld.offset+j<ps.length:=by simp at hj;omega
   have:=hr (fld.offset+j) hj'
   simpa using this
 | _=>simp [Dec.cps] at h
end
end Go.Pe
namespace Go.Pe
variable {E:yg}
section
variable {P:Program} {tab:List (Nat×TI)} {A0:Nat→Prop} {μ:Nat→Loc} {H:List (Blk E)} {w:World} {R:Type} {K:ze E→List (Blk E)→Option R} {r:R}
theorem zD1 {w:World} {A U:Nat→Prop} {μ:Nat→Loc} (z:Z):zT E w A U μ z.toP z.toV:=by
 cases z with
 | bool=>exact .v .bool false _ (.bool false)
 | int k=>exact .v (.int k) (zai k 0) _ (by have:=z5.int (E:=E) (w:=w) (A:=A) k (zai k 0);cases k<;>exact this)
 | str=>exact .v .str _ _ (.str _)
 | slice=>exact .nils none
 | func=>exact .nilfn
 | ptr=>exact .nilp
 | map=>exact .nilm
theorem zEY (z:Z):(z.toP:ze E).leaf=true:=by cases z<;>rfl
theorem zxQ {w:World} {A U:Nat→Prop} {μ:Nat→Loc} (zs:List Z):RL (zT E w A U μ) (zs.map Z.toP) (zs.map Z.toV) :=
 ⟨by simp,fun j p u hp hu=>by
  simp only [List.getElem?_map,Option.map_eq_some_iff] at hp hu
  obtain ⟨z,h1,rfl⟩:=hp
  obtain ⟨z',h2,rfl⟩:=hu
  rw [h1] at h2;injection h2 with h2;subst h2
  exact zD1 z⟩
theorem zb9 (hT:yx E.leaves P tab=true) {t:Nat} {i:TI} (hi:look tab t=some i):(yQ i).cells.toList=i.zero.map Z.toV:=by
 unfold yQ
 cases ha:i.agg with
 | true=>simp [Value.cells]
 | false =>
  have h1:=zdB hT hi ha
  have h2:=znk hT hi
  match hz:i.zero,h2 with
  | [z],_=>cases z<;>simp [Z.toV,Value.cells]
  | [],h2=>simp [h1] at h2
  | _::_::_,h2=>simp [h1] at h2
structure Zt (H:List (Blk E)) (fresh:Nat) (A0:Nat→Prop) (w:World):Prop where
 free:zi H fresh= .free
 lt:fresh<H.length
 A0: ∀b,A0 b→b<w.heap.size
theorem Zt.trans {H':List (Blk E)} {μ':Nat→Loc} {w':World} {fresh:Nat} (F:Zt H fresh A0 w) (T:zK A0 μ H w μ' H' w') (h:zi H' fresh= .free):Zt H' fresh A0 w' :=
 ⟨h,by rw [T.len];exact F.lt,fun b hb=>Nat.lt_of_lt_of_le (F.A0 b hb) T.size⟩
theorem zxY {ps:List (ze E)} {vs:List Value} {t:TypeId} {fresh:Nat} (S:zM A0 μ H w) (F:Zt H fresh A0 w) (hr:RL (Rp E A0 μ H w) ps vs) (hl: ∀p∈ps,p.leaf=true) (n c:Nat) :
  let l:=Loc.blk w.heap.size 0 n c
  let w':=w.alloc (.cells vs.toArray t)
  zK A0 μ H w (YW μ fresh l) (H.set fresh (.box true ps)) w'∧zM A0 (YW μ fresh l) (H.set fresh (.box true ps)) w'∧Us (H.set fresh (.box true ps)) fresh:=by
 intro l w'
 have hb: ∀b,b<w.heap.size→w'.heap[b]? =w.heap[b]? :=fun b hb=>by
  show (w.heap.push _)[b]? =_
  rw [Array.getElem?_push,if_neg (by omega)]
 have T:zK A0 μ H w (YW μ fresh l) (H.set fresh (.box true ps)) w':=zK.fresh fresh l _ F.free F.lt (z8.alloc w _) hb (fun b o n c e=>by injection e with e;omega)
 refine ⟨T,S.fresh fresh l _ F.free F.lt (z8.alloc w _) hb (fun b o n c e=>by injection e with e;subst e;simp [w']) F.A0 ?_,by unfold Us;rw [z7 _ _ _ F.lt];rfl⟩
 refine zCE ⟨t,(0,0),?_,fun _=>rfl⟩ (hr.mono fun _ _=>T.rep) hl
 show (w.heap.push _)[w.heap.size]? =_
 simp
theorem zCj {n:Nat} {e:Ty} {l:List (Den E.T e)} {vs:List Value} {t:TypeId} {fresh:Nat} (S:zM A0 μ H w) (F:Zt H fresh A0 w) (he:e.leaf=true) (h0:0<n) (hr:Rt E A0 μ H w (.arr n e) (.agg vs.toArray) l) :
  let w':=w.alloc (.cells vs.toArray t)
  zK A0 μ H w (YW μ fresh (.blk w.heap.size 0 n n)) (H.set fresh (.row true e l)) w'∧zM A0 (YW μ fresh (.blk w.heap.size 0 n n)) (H.set fresh (.row true e l)) w'∧Us (H.set fresh (.row true e l)) fresh:=by
 intro w'
 have hb: ∀b,b<w.heap.size→w'.heap[b]? =w.heap[b]? :=fun b hb=>by
  show (w.heap.push _)[b]? =_
  rw [Array.getElem?_push,if_neg (by omega)]
 have T:zK A0 μ H w (YW μ fresh (.blk w.heap.size 0 n n)) (H.set fresh (.row true e l)) w':=zK.fresh fresh _ _ F.free F.lt (z8.alloc w _) hb (fun b o n c e=>by injection e with e;omega)
 refine ⟨T,S.fresh fresh _ _ F.free F.lt (z8.alloc w _) hb (fun b o n c e=>by injection e with e;subst e;simp [w']) F.A0 ?_,by unfold Us;rw [z7 _ _ _ F.lt];rfl⟩
 cases hr with
 | arr n0 e0 cs l0 us a1 a2 a3 a4 =>
  refine .inl ⟨w.heap.size,0,n,vs.toArray,us,by rw [a1],⟨t,(0,0),?_,fun _=>rfl⟩,by omega,by rw [a2];omega,fun i hi j u hu=>by rw [Nat.zero_add];exact a3 i (by omega) j u hu,fun i hi=>T.repT (a4 i hi)⟩
  show (w.heap.push _)[w.heap.size]? =_
  simp
theorem zx4 {e:Ty} {z:Den E.T e} (h:vd (E:=E) e=some z) {A:Nat→Prop} {zz:Z} (hz:zz.is e=true):e.leaf=true∧z5 E w A e zz.toV z:=by
 cases e with
 | bool=>simp [vd] at h;subst h;cases zz<;>simp [Z.is] at hz;exact ⟨rfl,.bool _⟩
 | int k =>
  simp [vd] at h;subst h
  cases zz<;>simp [Z.is] at hz
  rename_i k
  subst hz
  exact ⟨rfl,by have:=z5.int (E:=E) (w:=w) (A:=A) k (zai k 0);cases k<;>exact this⟩
 | str=>simp [vd] at h;subst h;cases zz<;>simp [Z.is] at hz;exact ⟨rfl,.str _⟩
 | slice e=>simp [vd] at h;subst h;cases zz<;>simp [Z.is] at hz;exact ⟨rfl,.nil _ _ _⟩
 | named n=>simp [vd] at h
 | arr n e=>simp [vd] at h
theorem zC9 (hT:yx E.leaves P tab=true) {t:Nat} {i:TI} (hi:look tab t=some i) {n:Nat} {e:Ty} (ha:zdY i=some (n,e)) {z:Den E.T e} (hz:vd (E:=E) e=some z) {A:Nat→Prop} (hall:i.zero.all (fun q=>q.is e)=true) :
  e.leaf=true∧∃vs:List Value,(yQ i).cells=vs.toArray∧z5 E w A (.arr n e) (.agg vs.toArray) (List.replicate n z):=by
 obtain ⟨hagg,hal,hsz⟩:=zr8 hT hi ha
 have hl:e.leaf=true:=by cases e<;>simp [vd] at hz<;>rfl
 rw [uS hl,Nat.mul_one] at hsz
 have hzl:=znk hT hi
 refine ⟨hl,i.zero.map Z.toV,by unfold yQ;rw [if_pos hagg];rfl,?_⟩
 refine .arr n e _ _ (fun j=>((i.zero.map Z.toV)[j]?).getD undef) (by simp) (by simp [uS hl,hzl,hsz]) (fun j hj k u hu=> ?_) (fun j hj=> ?_)
 ·have hj':j<i.zero.length:=by omega
  have h1:(i.zero.map Z.toV)[j]? =some (i.zero[j].toV):=by simp [hj']
  simp only [h1,Option.getD_some] at hu
  have hc:(i.zero[j].toV).cells= #[i.zero[j].toV]:=by cases i.zero[j]<;>rfl
  rw [hc] at hu
  cases k with
  | succ k=>simp at hu
  | zero =>
   have hu:i.zero[j].toV=u:=by simpa using hu
   subst hu
   simp [uS hl,hj']
 ·have hj0:j<n:=by simpa using hj
  have hj':j<i.zero.length:=by omega
  have h1:(i.zero.map Z.toV)[j]? =some (i.zero[j].toV):=by simp [hj']
  simp only [h1,Option.getD_some,List.getElem_replicate]
  exact (zx4 hz (List.all_eq_true.1 hall _ (List.getElem_mem hj'))).2
theorem zxv (hT:yx E.leaves P tab=true) {t:Nat} {i:TI} (hi:look tab t=some i) {fresh:Nat} (S:zM A0 μ H w) (F:Zt H fresh A0 w)
  (h:(zxk i fresh).cps H K=some r):zR P A0 μ H w (Instr.alloc t true (.tuple #[])) K r:=by
 unfold zxk at h
 split at h
 ·rename_i n e ha
  split at h
  rotate_left
  ·simp [Dec.cps] at h
  rename_i z hz
  split at h
  rotate_left
  ·simp [Dec.cps] at h
  rename_i h0
  simp only [Bool.and_eq_true] at h0
  obtain ⟨h0,hall⟩:=h0
  have h0:0<n:=Nat.le_of_ble_eq_true h0
  simp only [Dec.cps] at h
  cases hlt:Nat.blt fresh H.length with
  | false=>simp [hlt] at h
  | true =>
   simp only [hlt,cond_true] at h
   obtain ⟨he,zv,hzv,hrep⟩:=zC9 (w:=w) (A:=Av A0 μ H) hT hi ha hz hall
   obtain ⟨T,S',hU⟩:=zCj (t:=t) S F he h0 hrep
   refine ⟨_,_,.pointer (some ⟨w.heap.size,0,none⟩),_,_,?_,T,S',?_,h⟩
   ·have:=zb9 hT hi
    simp only [Instr.alloc,Sem.run_bind,Zl hT hi,Result.andThen_ok,newVar,newRow,run_newObj,Sem.run_pure,hzv]
    rfl
   ·have:=zT.eptr (E:=E) (w:=w.alloc (.cells (zv.toArray) t)) (A:=Av A0 (YW μ fresh (.blk w.heap.size 0 n n)) (H.set fresh (.row true e (List.replicate n z)))) (U:=Us (H.set fresh (.row true e (List.replicate n z)))) (μ:=YW μ fresh (.blk w.heap.size 0 n n)) e fresh 0 0 w.heap.size 0 n n hU (wQ _ _ _) h0
    simpa using this
 simp only [Dec.cps] at h
 cases hlt:Nat.blt fresh H.length with
 | false=>simp [hlt] at h
 | true =>
  simp only [hlt,cond_true] at h
  obtain ⟨T,S',hU⟩:=zxY (t:=t) S F (zxQ i.zero) (fun p hp=>by simp only [List.mem_map] at hp;obtain ⟨z,_,rfl⟩:=hp;exact zEY z) 0 0
  refine ⟨_,_,.pointer (some ⟨w.heap.size,0,none⟩),_,_,?_,T,S',.ptr fresh 0 w.heap.size 0 0 hU (wQ _ _ _),h⟩
  have:=zb9 hT hi
  simp only [Instr.alloc,Sem.run_bind,Zl hT hi,Result.andThen_ok,newVar,newRow,run_newObj,Sem.run_pure]
  simp [←this]
theorem zAn (hT:yx E.leaves P tab=true) {t:Nat} {i:TI} (hi:look tab t=some i) {fresh:Nat} {x:ze E} {u:Value} (S:zM A0 μ H w) (F:Zt H fresh A0 w) (hx:Rp E A0 μ H w x u)
  (h:(zDC i fresh x).cps H K=some r):zR P A0 μ H w (Instr.box t u) K r:=by
 unfold zDC at h
 split at h
 ·rename_i n e ha
  split at h
  rotate_left
  ·simp [Dec.cps] at h
  rename_i n' e' l
  split at h
  rotate_left
  ·simp [Dec.cps] at h
  rename_i hc
  simp only [Bool.and_eq_true,decide_eq_true_eq] at hc
  obtain ⟨⟨⟨h0,h1⟩,he⟩,rfl⟩:=hc
  have h0:0<n:=Nat.le_of_ble_eq_true h0
  have h1:=Nat.eq_of_beq_eq_true h1
  subst h1
  simp only [Dec.cps] at h
  cases hlt:Nat.blt fresh H.length with
  | false=>simp [hlt] at h
  | true =>
   simp only [hlt,cond_true] at h
   cases hx with
   | v _ _ _ hx =>
    have hx0:=hx
    cases hx with
    | arr n0 e0 cs l0 us a1 a2 a3 a4 =>
     obtain ⟨T,S',hU⟩:=zCj (t:=t) (vs:=cs.toList) S F he h0 (by simpa using hx0)
     refine ⟨_,_,.pointer (some ⟨w.heap.size,0,none⟩),_,_,?_,T,S',?_,h⟩
     ·simp [Instr.box,newVar,newRow,Value.cells]
     ·have:=zT.eptr (E:=E) (w:=w.alloc (.cells cs.toList.toArray t)) (A:=Av A0 (YW μ fresh (.blk w.heap.size 0 n n)) (H.set fresh (.row true e l))) (U:=Us (H.set fresh (.row true e l))) (μ:=YW μ fresh (.blk w.heap.size 0 n n)) e fresh 0 0 w.heap.size 0 n n hU (wQ _ _ _) h0
      simpa using this
 split at h
 rotate_left
 ·simp [Dec.cps] at h
 rename_i hc
 simp only [Bool.and_eq_true] at hc
 simp only [Dec.cps] at h
 cases hlt:Nat.blt fresh H.length with
 | false=>simp [hlt] at h
 | true =>
  simp only [hlt,cond_true] at h
  obtain ⟨T,S',hU⟩:=zxY (t:=t) S F (zT.cells hx hc.2) (fun p hp=>List.all_eq_true.1 hc.2 p hp) 0 0
  refine ⟨_,_,.pointer (some ⟨w.heap.size,0,none⟩),_,_,?_,T,S',.ptr fresh 0 w.heap.size 0 0 hU (wQ _ _ _),h⟩
  simp [Instr.box,newVar,newRow]
theorem zGo (hT:yx E.leaves P tab=true) {t:Nat} {i:TI} (hi:look tab t=some i) {d:TypeDesc} (hd:P.underlying t=some d):vK P tab i d=true:=by
 obtain ⟨d',h1,h2⟩:=Yd hT hi
 rw [hd] at h1;injection h1 with h1;subst h1;exact h2
theorem zDo {α:Type} {l:List α} {i:Int} {x:α} (h:idx l i=some x):0≤i∧i<l.length∧l[i.toNat]? =some x:=by
 unfold idx at h
 cases hd:decide (0≤i) with
 | false=>simp [hd] at h
 | true =>
  simp only [hd,cond_true] at h
  have h0:0≤i:=by simpa using hd
  obtain ⟨hlt,_⟩:=List.getElem?_eq_some_iff.1 h
  exact ⟨h0,by omega,h⟩
theorem zvT {α:Type} {l:List α} {i:Int} {n:Nat} (h:xt l i=some n):0≤i∧i<l.length∧n=i.toNat:=by
 unfold xt at h
 cases hd:(decide (0≤i)&&decide (i<l.length)) with
 | false=>simp [hd] at h
 | true =>
  simp only [hd,cond_true] at h
  simp only [Bool.and_eq_true,decide_eq_true_eq] at hd
  injection h with h
  exact ⟨hd.1,hd.2,h.symm⟩
theorem zwx {α:Type} {l:List α} {k:Nat} {i:Int} {n:Nat} (h:zeW l k i=some n):0≤i∧i<l.length∧i<k∧n=i.toNat:=by
 unfold zeW at h
 cases hd:(decide (0≤i)&&decide (i<l.length)&&decide (i<k)) with
 | false=>simp [hd] at h
 | true =>
  simp only [hd,cond_true] at h
  simp only [Bool.and_eq_true,decide_eq_true_eq] at hd
  injection h with h
  exact ⟨hd.1.1,hd.1.2,hd.2,h.symm⟩
theorem zi3 (i:Int): ∀(n:Nat) {k:Nat→Dec E (ze E)},(choose i n k).cps H K=some r→0≤i∧i<n∧(k i.toNat).cps H K=some r
 | 0,k,h=>by simp [choose,Dec.cps] at h
 | n+1,k,h=>by
  simp only [choose,Dec.cps] at h
  cases hd:decide (i=(n:Int)) with
  | true =>
   simp only [hd,cond_true] at h
   have:i=n:=by simpa using hd
   subst this
   exact ⟨by omega,by omega,by simpa using h⟩
  | false =>
   simp only [hd,cond_false] at h
   obtain ⟨h1,h2,h3⟩:=zi3 i n h
   exact ⟨h1,by omega,h3⟩
theorem VC (hT:yx E.leaves P tab=true) {t e:Nat} {u:TI} (hd:P.underlying t=some (.slice e)) (hu:look tab e=some u) (b off len cap:Nat) (i:Int) (h0:0≤i) (h1:i<len) :
  (Instr.indexAt t (.slice (some ⟨b,off,none⟩) len cap) (.int .i64 i)).run P w= .ok (.pointer (some ⟨b,off+i.toNat*u.size,none⟩)) w:=by
 simp [Instr.indexAt,asIntOf,run_underlying hd,h0,h1,yC hT hu,W9]
theorem zrS (hT:yx E.leaves P tab=true) {t:Nat} {s u:TI} (hs:look tab t=some s) (hu:look tab s.elem=some u) {p:ze E} {v:Value} {i:Int} (S:zM A0 μ H w) (hp:Rp E A0 μ H w p v)
  (h:(znK s u p i).cps H K=some r):zR P A0 μ H w (Instr.indexAt t v (.int .i64 i)) K r:=by
 have typedElem: ∀ {e:Ty} {l:List (Den E.T e)} {v:Value},Rt E A0 μ H w (.slice e) v l→zad u e=true→(Dec.opt _ (idx l i) fun x=>if (zfM e x).all ze.leaf then (.ret (.rptr (zfM e x)):Dec E (ze E)) else .fail).cps H K=some r →
   P.underlying t=some (.slice s.elem)→zR P A0 μ H w (Instr.indexAt t v (.int .i64 i)) K r:=by
  intro e l v hv hty h hd
  have hsz:=vJ hT e hu (YP hty)
  simp only [Dec.cps] at h
  cases hx:idx l i with
  | none=>simp [hx] at h
  | some x =>
   simp only [hx,Option.bind_some] at h
   obtain ⟨h0,h1,h2⟩:=zDo hx
   split at h
   rotate_left
   ·simp [Dec.cps] at h
   rename_i hleaf
   cases hv with
   | nil e a cap=>simp at h1;omega
   | slice e b off cap l vs hA hb hc hm hr =>
    obtain ⟨hlt,hxe⟩:=List.getElem?_eq_some_iff.1 h2
    have hrep:=hr i.toNat hlt
    rw [hxe] at hrep
    have hcells:=z5.cellsL (U:=Us H) (μ:=μ) hrep hleaf
    refine zR.same S (VC hT hd hu b off l.length cap i h0 h1) (.rptr _ b _ (fun j=>(vs i.toNat).cells.getD j undef) hA hb (fun j hj=> ?_) (fun j hj=> ?_)) h
    ·have hj':j<(vs i.toNat).cells.size:=by have:=hcells.1;simp at this;omega
     have:=hm i.toNat hlt j _ (Array.getElem?_eq_getElem hj')
     rw [←hsz]
     simpa [Array.getD,hj'] using this
    ·have hj':j<(vs i.toNat).cells.size:=by have:=hcells.1;simp at this;omega
     exact hcells.2 j _ _ (List.getElem?_eq_getElem hj) (by simp [Array.getD,hj'])
 unfold znK at h
 split at h
 ·rename_i hsl
  have hd:=zou hT hs hsl
  split at h
  ·rename_i e l
   split at h
   rotate_left
   ·simp [Dec.cps] at h
   rename_i hty
   cases hp with
   | v τ x v hv=>exact typedElem hv hty h hd
  ·rename_i e l
   split at h
   rotate_left
   ·simp [Dec.cps] at h
   rename_i hty
   cases hp with
   | full e l a hv=>exact typedElem hv hty h hd
  ·rename_i id
   simp only [Dec.cps] at h
   cases hB:zi H id with
   | row wr e l =>
    rw [hB] at h
    simp only at h
    split at h
    rotate_left
    ·simp [Dec.cps] at h
    rename_i hty
    have hsz:=vJ hT e hu (YP hty)
    simp only [Dec.cps] at h
    cases hx:xt l i with
    | none=>simp [hx] at h
    | some n =>
     simp only [hx,Option.bind_some] at h
     obtain ⟨h0,h1,rfl⟩:=zvT hx
     have ok:=S.ok id
     rw [hB] at ok
     cases hp with
     | own id b off len cap hU hμ =>
      rw [hμ] at ok
      rcases ok with ⟨b',off',cap',c,vs,hl,_⟩ | ⟨_,a,hl⟩
      rotate_left
      ·cases hl
      injection hl with e1 e2 e3 e4;subst e1 e2 e3 e4
      refine zR.same S (VC hT hd hu b off l.length cap i h0 h1) ?_ h
      have:=zT.eptr (E:=E) (w:=w) (A:=Av A0 μ H) (U:=Us H) (μ:=μ) e id i.toNat 0 b off l.length cap hU hμ (by omega)
      rw [hsz] at this
      simpa using this
     | own0 id a a2 hU hμ =>
      rw [hμ] at ok
      rcases ok with ⟨b',off',cap',c,vs,hl,_⟩ | ⟨rfl,_⟩
      ·cases hl
      ·simp at h1;omega
   | rowh e l n' k =>
    rw [hB] at h
    simp only at h
    split at h
    rotate_left
    ·simp [Dec.cps] at h
    rename_i hty
    have hsz:=vJ hT (.slice e) hu (YP hty)
    simp only [Dec.cps] at h
    cases hx:xt l i with
    | none=>simp [hx] at h
    | some n =>
     simp only [hx,Option.bind_some] at h
     obtain ⟨h0,h1,rfl⟩:=zvT hx
     have ok:=S.ok id
     rw [hB] at ok
     obtain ⟨b',off',cap',c,vs,hl,_⟩:=ok
     cases hp with
     | own id b off len cap hU hμ =>
      rw [hμ] at hl
      injection hl with e1 e2 e3 e4;subst e1 e2 e3 e4
      refine zR.same S (VC hT hd hu b off l.length cap i h0 h1) ?_ h
      have:=zT.eptr (E:=E) (w:=w) (A:=Av A0 μ H) (U:=Us H) (μ:=μ) (.slice e) id i.toNat 0 b off l.length cap hU hμ (by omega)
      rw [hsz] at this
      simpa using this
     | own0 id a a2 hU hμ=>rw [hμ] at hl;cases hl
   | _=>rw [hB] at h;simp [Dec.cps] at h
  ·rename_i id n
   obtain ⟨h0,h1,h2⟩:=zi3 i n h
   cases hp with
   | bsl id n b hU hμ =>
    refine zR.same S (VC hT hd hu b 0 n n i h0 h1) ?_ h2
    have:=zT.ptr (E:=E) (w:=w) (A:=Av A0 μ H) (U:=Us H) (μ:=μ) id (i.toNat*u.size) b n n hU hμ
    simpa using this
  ·simp [Dec.cps] at h
 ·split at h
  ·rename_i id off
   split at h
   rotate_left
   ·simp [Dec.cps] at h
   rename_i hagg
   obtain ⟨h0,h1,h2⟩:=zi3 i s.alen h
   have hd:=zup hT hs hagg (by omega)
   cases hp with
   | ptr id off b n cap hU hμ =>
    refine zR.same S (v:= .pointer (some ⟨b,off+i.toNat*u.size,none⟩)) ?_ (.ptr id _ b n cap hU hμ) h2
    simp [Instr.indexAt,asIntOf,run_underlying hd,Instr.sureAddr,h0,h1,yC hT hu,W9]
  ·rename_i e id k off
   split at h
   rotate_left
   ·simp [Dec.cps] at h
   rename_i hc
   simp only [Bool.and_eq_true] at hc
   obtain ⟨⟨⟨⟨hagg,hal⟩,hk⟩,hoff⟩,hty⟩:=hc
   have hal:0<s.alen:=Nat.le_of_ble_eq_true hal
   have hk:=Nat.eq_of_beq_eq_true hk
   have hoff:=Nat.eq_of_beq_eq_true hoff
   subst hk hoff
   have hsz:=vJ hT e hu (YP hty)
   have hd:=zup hT hs hagg (by omega)
   simp only [Dec.cps] at h
   cases hp with
   | eptr e id n0 off b o len cap hU hμ hlt =>
    have ok:=S.ok id
    cases hB:zi H id with
    | row wr e' l =>
     rw [hB] at h ok
     simp only at h
     split at h
     rotate_left
     ·simp [Dec.cps] at h
     rename_i he
     have he:e'=e:=by simpa using he
     subst he
     simp only [Dec.cps] at h
     cases hx:zeW l s.alen i with
     | none=>simp [hx] at h
     | some n =>
      simp only [hx,Option.bind_some] at h
      obtain ⟨h0,h1,h2,rfl⟩:=zwx hx
      rw [hμ] at ok
      rcases ok with ⟨b',off',cap',c,vs,hl,_⟩ | ⟨_,a,hl⟩
      rotate_left
      ·cases hl
      injection hl with e1 e2 e3 e4;subst e1 e2 e3 e4
      refine zR.same S (v:= .pointer (some ⟨b,o+i.toNat*u.size,none⟩)) ?_ ?_ h
      ·simp [Instr.indexAt,asIntOf,run_underlying hd,Instr.sureAddr,h0,h2,yC hT hu,W9]
      ·have:=zT.eptr (E:=E) (w:=w) (A:=Av A0 μ H) (U:=Us H) (μ:=μ) e' id i.toNat 0 b o l.length cap hU hμ (by omega)
       rw [hsz] at this
       simpa using this
    | _=>rw [hB] at h;simp [Dec.cps] at h
  ·simp [Dec.cps] at h
theorem zAU (hT:yx E.leaves P tab=true) {t:Nat} {i:TI} (hi:look tab t=some i) {e:Ty} (he:e.leaf=true) (h:i.ty=some e):i.agg=false:=by
 have h1:=zga hT hi
 cases e<;>simp only [tyB,h,Bool.and_eq_true,Bool.not_eq_true'] at h1<;>first | exact h1.1 | exact h1.1.1.1 | (simp [Ty.leaf] at he)
theorem zyo (hT:yx E.leaves P tab=true) {t:Nat} {s u:TI} (hs:look tab t=some s) (hu:look tab s.elem=some u) {p:ze E} {v:Value} {i:Int} (S:zM A0 μ H w) (hp:Rp E A0 μ H w p v)
  (h:(zym s u p i).cps H K=some r):zR P A0 μ H w (Instr.index t v (.int .i64 i)) K r:=by
 unfold zym at h
 split at h
 rotate_left
 ·simp [Dec.cps] at h
 rename_i n e l
 split at h
 rotate_left
 ·simp [Dec.cps] at h
 rename_i hc
 simp only [Bool.and_eq_true] at hc
 obtain ⟨⟨⟨⟨hagg,hal⟩,hk⟩,hty⟩,he⟩:=hc
 have hal:0<s.alen:=Nat.le_of_ble_eq_true hal
 have hk:=Nat.eq_of_beq_eq_true hk
 subst hk
 have hsz:=vJ hT e hu (YP hty)
 have hd:=zup hT hs hagg (by omega)
 have hna:=zAU hT hu he (YP hty)
 rw [uS he] at hsz
 simp only [Dec.cps] at h
 cases hx:zeW l s.alen i with
 | none=>simp [hx] at h
 | some n =>
  simp only [hx,Option.bind_some] at h
  obtain ⟨h0,h1,h2,rfl⟩:=zwx hx
  have hlt:i.toNat<l.length:=by omega
  rw [List.getElem?_eq_getElem hlt,Option.bind_some] at h
  cases hp with
  | v _ _ _ hv =>
   cases hv with
   | arr n0 e0 cs l0 us a1 a2 a3 a4 =>
    have hr:=a4 i.toNat hlt
    have hc:=a3 i.toNat (by omega) 0 (us i.toNat) (by rw [hr.leaf_cells he];rfl)
    rw [uS he,Nat.mul_one,Nat.add_zero] at hc
    refine zR.same S (v:=us i.toNat) ?_ (.v _ _ _ hr) h
    simp [Instr.index,asIntOf,run_underlying hd,h0,h2,yC hT hu,part,ziP hT hu,hna,←hsz,hc]
end
end Go.Pe
namespace Go.Pe
variable {E:yg}
section
variable {P:Program} {tab:List (Nat×TI)} {A0:Nat→Prop} {μ:Nat→Loc} {H:List (Blk E)} {w:World} {R:Type} {K:ze E→List (Blk E)→Option R} {r:R}
def zpp (f:ze E→Value→Prop):Option (ze E)→Option Value→Prop
 | none,none=>True
 | some p,some v=>f p v
 | _,_=>False
theorem wn {w:World} {A U:Nat→Prop} {μ:Nat→Loc} {p:Option (ze E)} {v:Option Value} {d a:Int} (h:zpp (zT E w A U μ) p v) (ha:Wy p d=some a):(v=none∧a=d)∨v=some (.int .i64 a):=by
 cases p with
 | none=>cases v with
  | none=>simp [Wy] at ha;exact .inl ⟨rfl,ha.symm⟩
  | some v=>exact h.elim
 | some p=>cases v with
  | none=>exact h.elim
  | some v =>
   right
   cases h with
   | v τ x v hx=>cases hx<;>simp [Wy] at ha;rename_i k x;cases k<;>simp_all
   | _=>simp [Wy] at ha
theorem zj9 {len cap:Nat} {lo hi:Option Value} {a b:Int} (w:World) (h1:(lo=none∧a=0)∨lo=some (.int .i64 a)) (h2:(hi=none∧b=len)∨hi=some (.int .i64 b))
  (h0:0≤a) (hab:a≤b) (hb:b≤len) (hc:len≤cap) (s:Bool):(Instr.sliceBounds s len cap lo hi none).run P w= .ok (a.toNat,b.toNat,cap) w:=by
 rcases h1 with ⟨rfl,rfl⟩ | rfl<;>rcases h2 with ⟨rfl,rfl⟩ | rfl
 ·simp [Instr.sliceBounds]
 ·have:b≤(cap:Int):=by omega
  simp [Instr.sliceBounds,Instr.sliceBound,asIntOf,hab,this]
 ·simp [Instr.sliceBounds,Instr.sliceBound,asIntOf,h0,hab]
 ·have h3:b≤(cap:Int):=by omega
  have h4:0≤b:=by omega
  have h5:((b.toNat:Nat):Int)=b:=by omega
  simp [Instr.sliceBounds,Instr.sliceBound,asIntOf,h0,hab,h3,h4,h5]
theorem zcD {α:Type} {l l':List α} {lo hi:Int} (h:cut l lo hi=some l'):0≤lo∧lo≤hi∧hi≤l.length∧l'=(l.take hi.toNat).drop lo.toNat:=by
 unfold cut at h
 cases hd:(decide (0≤lo)&&decide (lo≤hi)&&decide (hi≤l.length)) with
 | false=>simp [hd] at h
 | true =>
  simp only [hd,cond_true] at h
  simp only [Bool.and_eq_true,decide_eq_true_eq] at hd
  injection h with h
  exact ⟨hd.1.1,hd.1.2,hd.2,h.symm⟩
theorem z5.cut {A:Nat→Prop} {e:Ty} {l l':List (Den E.T e)} {a:Option Addr} {len cap:Nat} {lo hi:Int} (h:z5 E w A (.slice e) (.slice a len cap) l) (hc:Pe.cut l lo hi=some l') :
  len=l.length∧len≤cap∧z5 E w A (.slice e) (.slice (if cap=lo.toNat then a else a.map (·.add (lo.toNat*e.size E))) (hi.toNat-lo.toNat) (cap-lo.toNat)) l':=by
 obtain ⟨h0,h1,h2,rfl⟩:=zcD hc
 cases h with
 | nil e a cap =>
  simp at h2
  have e1:hi.toNat=0:=by omega
  have e2:lo.toNat=0:=by omega
  rw [e1,e2]
  refine ⟨by simp,by simp,?_⟩
  simp only [List.take_nil,List.drop_nil]
  exact .nil _ _ _
 | slice e b off cap l vs hA hb hcap hm hr =>
  refine ⟨rfl,hcap,?_⟩
  by_cases hz:hi.toNat-lo.toNat=0
  ·rw [hz]
   have:(List.take hi.toNat l).drop lo.toNat=[]:=by
    apply List.drop_eq_nil_of_le;simp;omega
   rw [this]
   exact .nil _ _ _
  ·rw [if_neg (by omega)]
   simp only [Option.map_some,W9]
   have hlen:((List.take hi.toNat l).drop lo.toNat).length=hi.toNat-lo.toNat:=by simp;omega
   have key:=z5.slice (E:=E) (w:=w) (A:=A) e b (off+lo.toNat*e.size E) (cap-lo.toNat) ((List.take hi.toNat l).drop lo.toNat) (fun i=>vs (lo.toNat+i)) hA hb (by rw [hlen];omega)
    (fun i hi' j u hu=>by
     have:=hm (lo.toNat+i) (by rw [hlen] at hi';omega) j u hu
     rw [Nat.add_mul] at this
     simpa [Nat.add_assoc] using this)
    (fun i hi'=>by
     have:=hr (lo.toNat+i) (by rw [hlen] at hi';omega)
     simpa using this)
   rw [hlen] at key
   exact key
theorem zeg {t e:Nat} {u:TI} (hT:yx E.leaves P tab=true) (hd:P.underlying t=some (.slice e)) (hu:look tab e=some u) {len cap:Nat} {base:Option Addr} {lo hi:Option Value} {a b:Int} (w:World)
  (h1:(lo=none∧a=0)∨lo=some (.int .i64 a)) (h2:(hi=none∧b=len)∨hi=some (.int .i64 b)) (h0:0≤a) (hab:a≤b) (hb:b≤len) (hc:len≤cap) :
  (Instr.sliceAt t (.slice base len cap) lo hi none).run P w= .ok (.slice (if cap=a.toNat then base else base.map (·.add (a.toNat*u.size))) (b.toNat-a.toNat) (cap-a.toNat)) w:=by
 simp [Instr.sliceAt,run_underlying hd,Instr.slice,zj9 (P:=P) w h1 h2 h0 hab hb hc,yC hT hu]
theorem zdI {t e:Nat} {u:TI} (hT:yx E.leaves P tab=true) (hd:P.underlying t=some (.slice e)) (hu:look tab e=some u) {len cap:Nat} {base:Option Addr} {lo hi:Option Value} {a b c:Int} {m:Value} (w:World)
  (h1:(lo=none∧a=0)∨lo=some (.int .i64 a)) (h2:hi=some (.int .i64 b)) (h3:m= .int .i64 c) (h0:a=0) (hab:0≤b) (hb:b≤c) (hc:c≤cap) :
  (Instr.sliceAt t (.slice base len cap) lo hi (some m)).run P w= .ok (.slice base b.toNat c.toNat) w:=by
 subst h0 h2 h3
 have hc0:0≤c:=by omega
 have e1:((c.toNat:Nat):Int)=c:=by omega
 have e2:((b.toNat:Nat):Int)=b:=by omega
 have hadd:base.map (fun x=>x.add 0)=base:=by cases base<;>simp [Addr.add]
 rcases h1 with ⟨rfl,_⟩ | rfl
 ·simp [Instr.sliceAt,run_underlying hd,Instr.slice,Instr.sliceBounds,Instr.sliceBound,asIntOf,hab,hb,hc,hc0,e1,yC hT hu,hadd]
 ·simp [Instr.sliceAt,run_underlying hd,Instr.slice,Instr.sliceBounds,Instr.sliceBound,asIntOf,hab,hb,hc,hc0,e1,e2,yC hT hu,hadd]
theorem z5.recap {A:Nat→Prop} {e:Ty} {l:List (Den E.T e)} {a:Option Addr} {len cap cap':Nat} (h:z5 E w A (.slice e) (.slice a len cap) l) (hc:len≤cap'):z5 E w A (.slice e) (.slice a len cap') l:=by
 cases h with
 | nil e a cap=>exact .nil _ _ _
 | slice e b off cap l vs g1 g2 g3 g4 g5=>exact .slice e b off _ l vs g1 g2 hc g4 g5
theorem z5.cut3 {A:Nat→Prop} {e:Ty} {l l':List (Den E.T e)} {a:Option Addr} {len cap:Nat} {lo hi:Int} (h:z5 E w A (.slice e) (.slice a len cap) l) (hc:Pe.cut l lo hi=some l') :
  z5 E w A (.slice e) (.slice (if hi.toNat=lo.toNat then a else a.map (·.add (lo.toNat*e.size E))) (hi.toNat-lo.toNat) (hi.toNat-lo.toNat)) l':=by
 obtain ⟨h1,h2,h3⟩:=h.cut hc
 obtain ⟨g0,g1,g2,hl⟩:=zcD hc
 by_cases hz:hi.toNat-lo.toNat=0
 ·rw [hz]
  have:l'=[]:=by rw [hl];apply List.drop_eq_nil_of_le;simp;omega
  subst this
  exact .nil _ _ _
 ·rw [if_neg (by omega)]
  rw [if_neg (by omega)] at h3
  exact h3.recap (Nat.le_refl _)
theorem zzp {t e:Nat} {u:TI} (hT:yx E.leaves P tab=true) (hd:P.underlying t=some (.slice e)) (hu:look tab e=some u) {len cap:Nat} {base:Option Addr} {lo hi:Option Value} {a b:Int} {m:Value} (w:World)
  (h1:(lo=none∧a=0)∨lo=some (.int .i64 a)) (h2:hi=some (.int .i64 b)) (h3:m= .int .i64 b) (h0:0≤a) (hab:a≤b) (hc:b≤cap) :
  (Instr.sliceAt t (.slice base len cap) lo hi (some m)).run P w= .ok (.slice (if b.toNat=a.toNat then base else base.map (·.add (a.toNat*u.size))) (b.toNat-a.toNat) (b.toNat-a.toNat)) w:=by
 subst h2 h3
 have hb0:0≤b:=by omega
 have e1:((a.toNat:Nat):Int)=a:=by omega
 have e2:((b.toNat:Nat):Int)=b:=by omega
 rcases h1 with ⟨rfl,rfl⟩ | rfl
 ·simp [Instr.sliceAt,run_underlying hd,Instr.slice,Instr.sliceBounds,Instr.sliceBound,asIntOf,hab,hb0,hc,e2,yC hT hu]
 ·simp [Instr.sliceAt,run_underlying hd,Instr.slice,Instr.sliceBounds,Instr.sliceBound,asIntOf,h0,hab,hb0,hc,e1,e2,yC hT hu]
theorem zCz {id fresh:Nat} {e:Ty} {l l':List (Den E.T e)} {lo hi:Int} (S:zM A0 μ H w) (F:Zt H fresh A0 w) (hB:zi H id= .row true e l) (hc:cut l lo hi=some l') {v:Value} (hv:Rp E A0 μ H w (.own id) v) :
  ∃base len cap,v= .slice base len cap∧len=l.length∧len≤cap∧∃ μ',zK A0 μ H w μ' ((H.set id .dead).set fresh (.row true e l')) w∧zM A0 μ' ((H.set id .dead).set fresh (.row true e l')) w ∧
   Rp E A0 μ' ((H.set id .dead).set fresh (.row true e l')) w (.own fresh) (.slice (if cap=lo.toNat then base else base.map (·.add (lo.toNat*e.size E))) (hi.toNat-lo.toNat) (cap-lo.toNat)):=by
 obtain ⟨h0,h1,h2,hl'⟩:=zcD hc
 have hlive:yE (zi H id)=true:=by rw [hB];rfl
 have hUid:Us H id:=ya (yt hlive)
 have hid:=xK hUid
 have ok:=S.ok id
 rw [hB] at ok
 have hlen':l'.length=hi.toNat-lo.toNat:=by rw [hl'];simp;omega
 have hne:id≠fresh:=fun e'=>by subst e';rw [F.free] at hB;cases hB
 have hfl:fresh<(H.set id (.dead:Blk E)).length:=by simpa using F.lt
 have hUf:Us ((H.set id .dead).set fresh (.row true e l')) fresh:=by unfold Us;rw [z7 _ _ _ hfl];rfl
 cases hv with
 | own id b off len cap hU hμ =>
  rw [hμ] at ok
  rcases ok with ⟨b',off',cap',c,vs,hl,hbox,g1,g2,g3,g4⟩ | ⟨_,a,hl⟩
  rotate_left
  ·cases hl
  injection hl with e1 e2 e3 e4;subst e1 e2 e3 e4
  refine ⟨_,_,_,rfl,rfl,g1,?_⟩
  by_cases hz:cap=lo.toNat
  ·have hnil:l'=[]:=List.eq_nil_of_length_eq_zero (by rw [hlen'];omega)
   refine ⟨_,zK.move (w':=w) id fresh b off l.length cap off 0 0 _ hlive hμ F.free F.lt (z8.refl w) (fun _ _ _=>rfl),S.move id fresh b off l.length cap off 0 0 _ hlive hμ F.free F.lt (z8.refl w) (fun _ _ _=>rfl) ?_,?_⟩
   ·subst hnil
    exact .inl ⟨b,off,0,c,vs,rfl,hbox,Nat.le_refl _,by omega,fun i hi=>by simp at hi,fun i hi=>by simp at hi⟩
   ·rw [if_pos hz]
    have:hi.toNat-lo.toNat=0∧cap-lo.toNat=0:=by omega
    rw [this.1,this.2]
    exact .own fresh b off 0 0 hUf (wQ _ _ _)
  ·have T:=zK.move (A0:=A0) (w':=w) id fresh b off l.length cap (off+lo.toNat*e.size E) (hi.toNat-lo.toNat) (cap-lo.toNat) (.row true e l') hlive hμ F.free F.lt (z8.refl w) (fun _ _ _=>rfl)
   refine ⟨_,T,S.move id fresh b off l.length cap (off+lo.toNat*e.size E) (hi.toNat-lo.toNat) (cap-lo.toNat) _ hlive hμ F.free F.lt (z8.refl w) (fun _ _ _=>rfl) ?_,?_⟩
   ·refine .inl ⟨b,off+lo.toNat*e.size E,cap-lo.toNat,c,fun i=>vs (lo.toNat+i),by rw [hlen'],hbox,by rw [hlen'];omega,?_,fun i hi' j u hu=> ?_,fun i hi'=> ?_⟩
    ·have:lo.toNat*e.size E+(cap-lo.toNat)*e.size E=cap*e.size E:=by rw [←Nat.add_mul];congr 1;omega
     omega
    ·have:=g3 (lo.toNat+i) (by rw [hlen'] at hi';omega) j u hu
     rw [Nat.add_mul] at this
     simpa [Nat.add_assoc] using this
    ·have:=g4 (lo.toNat+i) (by rw [hlen'] at hi';omega)
     have:=T.repT this
     subst hl'
     simpa using this
   ·rw [if_neg hz]
    simp only [Option.map_some,W9]
    exact .own fresh b _ _ _ hUf (wQ _ _ _)
 | own0 id a a2 hU hμ =>
  rw [hμ] at ok
  rcases ok with ⟨b',off',cap',c,vs,hl,_⟩ | ⟨rfl,_⟩
  ·cases hl
  simp at h2
  have e1:hi.toNat=0:=by omega
  have e2:lo.toNat=0:=by omega
  have hnil:l'=[]:=List.eq_nil_of_length_eq_zero (by rw [hlen'];omega)
  refine ⟨_,_,_,rfl,rfl,Nat.le_refl _,YW μ fresh (.none a),?_,?_,?_⟩
  ·have T1:zK A0 μ H w μ (H.set id .dead) w:=zK.drop id .dead hU rfl rfl
   exact T1.trans (zK.fresh (A0:=A0) (μ:=μ) (H:=H.set id .dead) fresh (.none a) _ (by rw [zP H _ hne];exact F.free) hfl (z8.refl w) (fun _ _=>rfl) (fun b o n c h=>by cases h))
  ·have S1:zM A0 μ (H.set id .dead) w:=S.drop id .dead hU rfl rfl (fun h=>by cases h) (fun h=>by cases h) trivial
   exact S1.fresh fresh (.none a) _ (by rw [zP H _ hne];exact F.free) hfl (z8.refl w) (fun _ _=>rfl) (fun b o n c h=>by cases h) F.A0 (.inr ⟨hnil,a,rfl⟩)
  ·rw [e1,e2]
   simp only [if_true,Nat.sub_zero]
   exact .own0 fresh a _ hUf (wQ _ _ _)
theorem zyq (hT:yx E.leaves P tab=true) {t:Nat} {i:TI} (hi:look tab t=some i) {mv:Bool} {fresh:Nat} {p:ze E} {v:Value} {lo hi' mx:Option (ze E)} {lov hiv mxv:Option Value} (S:zM A0 μ H w) (F:Zt H fresh A0 w)
  (hp:Rp E A0 μ H w p v) (h1:zpp (Rp E A0 μ H w) lo lov) (h2:zpp (Rp E A0 μ H w) hi' hiv) (h3:zpp (Rp E A0 μ H w) mx mxv)
  (h:(zyA i (look tab i.elem) mv fresh p lo hi' mx).cps H K=some r):zR P A0 μ H w (Instr.sliceAt t v lov hiv mxv) K r:=by
 have elx: ∀ {e:Ty},zvA i (look tab i.elem) e=true→∃u,look tab i.elem=some u∧P.underlying t=some (.slice i.elem)∧u.size=e.size E:=by
  intro e h
  simp only [zvA,Bool.and_eq_true] at h
  obtain ⟨h1,h2⟩:=h
  split at h2
  ·rename_i u hu;exact ⟨u,hu,zou hT hi h1,(vJ hT e hu (YP h2)).symm⟩
  ·cases h2
 have elx0:(i.sl&&(look tab i.elem).isSome)=true→∃u,look tab i.elem=some u∧P.underlying t=some (.slice i.elem):=by
  intro h
  simp only [Bool.and_eq_true] at h
  obtain ⟨h1,h2⟩:=h
  cases hu:look tab i.elem with
  | none=>simp [hu] at h2
  | some u=>exact ⟨u,rfl,zou hT hi h1⟩
 unfold zyA at h
 simp only at h
 cases mx with
 | none =>
  cases mxv with
  | some _=>exact h3.elim
  | none =>
  simp only at h
  split at h
  ·-- a zbl slice
   rename_i e l
   split at h
   rotate_left
   ·simp [Dec.cps] at h
   rename_i hel
   obtain ⟨u,hu,hd,hsz⟩:=elx hel
   split at h
   rotate_left
   ·simp [Dec.cps] at h
   rename_i a b ha hb
   simp only [Dec.cps] at h
   cases hc:cut l a b with
   | none=>simp [hc] at h
   | some l' =>
    simp only [hc,Option.bind_some] at h
    obtain ⟨c0,c1,c2,_⟩:=zcD hc
    cases hp with
    | v τ x v hv =>
     have hv':=hv
     cases hv' with
     | nil e a' cap =>
      obtain ⟨e1,e2,hrep⟩:=hv.cut hc
      refine zR.same S (zeg hT hd hu w (wn h1 ha) (wn h2 hb) c0 c1 (by simpa using c2) e2) (.v _ _ _ ?_) h
      rw [hsz];exact hrep
     | slice e b' off cap l vs g1 g2 g3 g4 g5 =>
      obtain ⟨e1,e2,hrep⟩:=hv.cut hc
      refine zR.same S (zeg hT hd hu w (wn h1 ha) (wn h2 hb) c0 c1 c2 e2) (.v _ _ _ ?_) h
      rw [hsz];exact hrep
  ·-- a string
   rename_i s
   split at h
   rotate_left
   ·simp [Dec.cps] at h
   rename_i hty
   have hd:P.underlying t=some .string:=by
    obtain ⟨d,g1,g2⟩:=Yd hT hi
    have hty:=YP hty
    cases d<;>simp_all [vK]
   split at h
   rotate_left
   ·simp [Dec.cps] at h
   rename_i a b ha hb
   simp only [Dec.cps] at h
   cases hc:(decide (0≤a)&&decide (a≤b)&&decide (b≤s.size)) with
   | false=>simp [hc] at h
   | true =>
    simp only [hc,cond_true] at h
    simp only [Bool.and_eq_true,decide_eq_true_eq] at hc
    cases hp with
    | v τ x v hv =>
     cases hv with
     | str s =>
      refine zR.same S (v:= .string (s.extract a.toNat b.toNat)) ?_ (.v _ _ _ (.str _)) h
      simp [Instr.sliceAt,run_underlying hd,Instr.slice,zj9 (P:=P) w (wn h1 ha) (wn h2 hb) hc.1.1 hc.1.2 hc.2 (Nat.le_refl _)]
  ·-- nothing
   split at h
   rotate_left
   ·simp [Dec.cps] at h
   rename_i hel
   obtain ⟨u,hu,hd⟩:=elx0 hel
   split at h
   rotate_left
   ·simp [Dec.cps] at h
   rename_i a b ha hb
   simp only [Dec.cps] at h
   cases hc:(decide (a=0)&&decide (b=0)) with
   | false=>simp [hc] at h
   | true =>
    simp only [hc,cond_true] at h
    simp only [Bool.and_eq_true,decide_eq_true_eq] at hc
    obtain ⟨rfl,rfl⟩:=hc
    cases hp with
    | nils a' =>
     refine zR.same S (zeg hT hd hu w (wn h1 ha) (wn h2 hb) (Int.le_refl _) (Int.le_refl _) (by simp) (Nat.le_refl _)) ?_ h
     simp only [Int.toNat_zero,Nat.sub_zero,if_true]
     exact .nils a'
  ·-- a row
   rename_i id
   simp only [Dec.cps] at h
   cases hB:zi H id with
   | row wr e l =>
    rw [hB] at h
    simp only at h
    split at h
    rotate_left
    ·simp [Dec.cps] at h
    rename_i hel
    obtain ⟨u,hu,hd,hsz⟩:=elx hel
    split at h
    rotate_left
    ·simp [Dec.cps] at h
    rename_i a b ha hb
    split at h
    ·split at h
     rotate_left
     ·simp [Dec.cps] at h
     rename_i hwr
     subst hwr
     simp only [Dec.cps] at h
     cases hc:cut l a b with
     | none=>simp [hc] at h
     | some l' =>
      simp only [hc,Option.bind_some] at h
      obtain ⟨c0,c1,c2,_⟩:=zcD hc
      cases hlt:Nat.blt id H.length with
      | false=>simp [hlt] at h
      | true =>
       simp only [hlt,cond_true] at h
       cases hlt2:Nat.blt fresh (H.set id .dead).length with
       | false=>simp only [hlt2,cond_false] at h;cases h
       | true =>
        simp only [hlt2,cond_true] at h
        obtain ⟨base,len,cap,rfl,e1,e2,μ',T,S',hrep⟩:=zCz S F hB hc hp
        refine ⟨_,_,_,_,μ',zeg hT hd hu w (wn h1 ha) (by rw [e1];exact wn h2 hb) c0 c1 (by rw [e1];exact c2) e2,T,S',?_,h⟩
        rw [hsz];exact hrep
    ·simp only [Dec.cps] at h
     cases hlt:Nat.blt id H.length with
     | false=>simp [hlt] at h
     | true =>
      simp only [hlt,cond_true] at h
      cases hc:cut l a b with
      | none=>simp [hc] at h
      | some l' =>
       simp only [hc,Option.bind_some] at h
       obtain ⟨c0,c1,c2,_⟩:=zcD hc
       obtain ⟨T,S',hrep⟩:=zba S hB
       obtain ⟨a',c,rfl,hv⟩:=hrep v hp
       obtain ⟨e1,e2,hrep'⟩:=hv.cut hc
       refine ⟨_,_,_,_,μ,zeg hT hd hu w (wn h1 ha) (wn h2 hb) c0 c1 c2 e2,T,S',.v _ _ _ ?_,h⟩
       rw [hsz];exact hrep'
   | _=>rw [hB] at h;simp [Dec.cps] at h
  ·simp [Dec.cps] at h
 | some m =>
  cases mxv with
  | none=>exact h3.elim
  | some mv' =>
  simp only at h
  have hm: ∀ {c:Int},Wy (some m) 0=some c→mv'= .int .i64 c:=fun hc=>by
   rcases wn (w:=w) (A:=Av A0 μ H) (U:=Us H) (μ:=μ) (v:=some mv') h3 hc with ⟨h,_⟩ | h
   ·cases h
   ·injection h
  split at h
  ·rename_i e l
   split at h
   rotate_left
   ·simp [Dec.cps] at h
   rename_i hel
   obtain ⟨u,hu,hd,hsz⟩:=elx hel
   split at h
   rotate_left
   ·simp [Dec.cps] at h
   rename_i a bp c ha hc
   cases hiv with
   | none=>exact h2.elim
   | some bv =>
   split at h
   rotate_left
   ·simp [Dec.cps] at h
   rename_i b hb
   have hbv:some bv=some (.int .i64 b):=by
    rcases wn (w:=w) (A:=Av A0 μ H) (U:=Us H) (μ:=μ) (v:=some bv) h2 hb with ⟨h,_⟩ | h
    ·cases h
    ·exact h
   have fin: ∀(base:Option Addr) (cap:Nat),l.length≤cap→v= .slice base l.length cap→z5 E w (Av A0 μ H) (.slice e) (.slice base l.length l.length) l→zR P A0 μ H w (Instr.sliceAt t v lov (some bv) (some mv')) K r:=by
    intro base cap hcap hv' hrep
    subst hv'
    simp only [Dec.cps] at h
    cases hz:(decide (a=0)&&decide (b=0)&&decide (c=0)) with
    | true =>
     simp only [hz,cond_true] at h
     simp only [Bool.and_eq_true,decide_eq_true_eq] at hz
     obtain ⟨⟨rfl,rfl⟩,rfl⟩:=hz
     exact zR.same S (zdI hT hd hu w (wn h1 ha) hbv (hm hc) rfl (Int.le_refl _) (Int.le_refl _) (by omega)) (.nils base) h
    | false =>
     simp only [hz,cond_false] at h
     cases hz2:(decide (a=0)&&decide (b=l.length)&&decide (c=l.length)) with
     | false =>
      simp only [hz2,cond_false] at h
      cases hz3:decide (b=c) with
      | false=>simp [hz3] at h
      | true =>
       simp only [hz3,cond_true] at h
       simp only [decide_eq_true_eq] at hz3
       subst hz3
       simp only [Option.bind_eq_some_iff] at h
       obtain ⟨l',hcut,h⟩:=h
       obtain ⟨c0,c1,c2,_⟩:=zcD hcut
       have hsz':u.size=e.size E:=hsz
       refine zR.same S (zzp hT hd hu w (wn h1 ha) hbv (hm hc) c0 c1 (by omega)) ?_ h
       rw [hsz']
       exact .v _ _ _ (hrep.cut3 hcut)
     | true =>
      simp only [hz2,cond_true] at h
      simp only [Bool.and_eq_true,decide_eq_true_eq] at hz2
      obtain ⟨⟨rfl,rfl⟩,rfl⟩:=hz2
      refine zR.same S (zdI hT hd hu w (wn h1 ha) hbv (hm hc) rfl (by omega) (Int.le_refl _) (by omega)) ?_ h
      simpa using zT.full e l base hrep
   cases hp with
   | v τ x v hv =>
    cases hv with
    | nil e a' cap=>exact fin a' cap (Nat.zero_le _) rfl (.nil _ _ _)
    | slice e b' off cap l vs g1 g2 g3 g4 g5=>exact fin _ cap g3 rfl (.slice e b' off _ l vs g1 g2 (Nat.le_refl _) g4 g5)
  ·split at h
   rotate_left
   ·simp [Dec.cps] at h
   rename_i hel
   obtain ⟨u,hu,hd⟩:=elx0 hel
   split at h
   rotate_left
   ·simp [Dec.cps] at h
   rename_i a bp c ha hc
   cases hiv with
   | none=>exact h2.elim
   | some bv =>
   split at h
   rotate_left
   ·simp [Dec.cps] at h
   rename_i b hb
   have hbv:some bv=some (.int .i64 b):=by
    rcases wn (w:=w) (A:=Av A0 μ H) (U:=Us H) (μ:=μ) (v:=some bv) h2 hb with ⟨h,_⟩ | h
    ·cases h
    ·exact h
   simp only [Dec.cps] at h
   cases hz:(decide (a=0)&&decide (b=0)&&decide (c=0)) with
   | false=>simp [hz] at h
   | true =>
    simp only [hz,cond_true] at h
    simp only [Bool.and_eq_true,decide_eq_true_eq] at hz
    obtain ⟨⟨rfl,rfl⟩,rfl⟩:=hz
    cases hp with
    | nils a'=>exact zR.same S (zdI hT hd hu w (wn h1 ha) hbv (hm hc) rfl (Int.le_refl _) (Int.le_refl _) (by simp)) (.nils a') h
  ·rename_i id
   simp only [Dec.cps] at h
   cases hB:zi H id with
   | row wr e l =>
    rw [hB] at h
    simp only at h
    split at h
    rotate_left
    ·simp [Dec.cps] at h
    rename_i hel
    obtain ⟨u,hu,hd,hsz⟩:=elx hel
    split at h
    rotate_left
    ·simp [Dec.cps] at h
    rename_i a bp c ha hc
    cases hiv with
    | none=>exact h2.elim
    | some bv =>
    split at h
    rotate_left
    ·simp [Dec.cps] at h
    rename_i b hb
    have hbv:some bv=some (.int .i64 b):=by
     rcases wn (w:=w) (A:=Av A0 μ H) (U:=Us H) (μ:=μ) (v:=some bv) h2 hb with ⟨h,_⟩ | h
     ·cases h
     ·exact h
    simp only [Dec.cps] at h
    obtain ⟨T,S',hrep⟩:=zba S hB
    obtain ⟨a',cp,rfl,hv⟩:=hrep v hp
    have hcap:l.length≤cp:=by
     have hv2:=hv
     generalize hq:Value.slice a' l.length cp=q at hv2
     cases hv2 with
     | nil e a2 cap2=>simp
     | slice e b' off cap2 l vs g1 g2 g3 g4 g5=>injection hq with q1 q2 q3;omega
    have hfull:z5 E w (Av A0 μ (H.set id (.row false e l))) (.slice e) (.slice a' l.length l.length) l:=by
     generalize hq:Value.slice a' l.length cp=q at hv
     cases hv with
     | nil e a2 cap2=>injection hq with q1;subst q1;exact .nil _ _ _
     | slice e b' off cap2 l vs g1 g2 g3 g4 g5=>injection hq with q1;subst q1;exact .slice e b' off _ l vs g1 g2 (Nat.le_refl _) g4 g5
    cases hz:(decide (a=0)&&decide (b=0)&&decide (c=0)) with
    | true =>
     simp only [hz,cond_true] at h
     simp only [Bool.and_eq_true,decide_eq_true_eq] at hz
     obtain ⟨⟨rfl,rfl⟩,rfl⟩:=hz
     cases hlt:Nat.blt id H.length with
     | false=>simp [hlt] at h
     | true =>
      simp only [hlt,cond_true] at h
      exact ⟨_,_,_,_,μ,zdI hT hd hu w (wn h1 ha) hbv (hm hc) rfl (Int.le_refl _) (Int.le_refl _) (by omega),T,S',.nils a',h⟩
    | false =>
     simp only [hz,cond_false] at h
     cases hz2:(decide (a=0)&&decide (b=l.length)&&decide (c=l.length)) with
     | false=>simp [hz2] at h
     | true =>
      simp only [hz2,cond_true] at h
      simp only [Bool.and_eq_true,decide_eq_true_eq] at hz2
      obtain ⟨⟨rfl,rfl⟩,rfl⟩:=hz2
      cases hlt:Nat.blt id H.length with
      | false=>simp [hlt] at h
      | true =>
       simp only [hlt,cond_true] at h
       refine ⟨_,_,_,_,μ,zdI hT hd hu w (wn h1 ha) hbv (hm hc) rfl (by omega) (Int.le_refl _) (by omega),T,S',?_,h⟩
       simpa using zT.full e l a' hfull
   | _=>rw [hB] at h;simp [Dec.cps] at h
  ·simp [Dec.cps] at h
end
end Go.Pe
namespace Go.Pe
variable {E:yg}
section
variable {P:Program} {tab:List (Nat×TI)} {A0:Nat→Prop} {μ:Nat→Loc} {H:List (Blk E)} {w:World} {R:Type} {K:ze E→List (Blk E)→Option R} {r:R}
structure Zf (w:World) (A:Nat→Prop) (e:Ty) (l:List (Den E.T e)) (cells:Array Value) (vs:Nat→Value):Prop where
 size:cells.size=l.length*e.size E
 at_: ∀i,i<l.length→∀j u,(vs i).cells[j]? =some u→cells[i*e.size E+j]? =some u
 rep: ∀i (h:i<l.length),z5 E w A e (vs i) l[i]
def zdF (vs:Nat→Value) (n:Nat):List Value:=(List.range n).flatMap fun i=>(vs i).cells.toList
theorem zk3 (vs:Nat→Value) (s:Nat): ∀n,(∀i,i<n→(vs i).cells.size=s)→(zdF vs n).length=n*s
 | 0,_=>by simp [zdF]
 | n+1,h=>by
  have:=zk3 vs s n (fun i hi=>h i (by omega))
  simp only [zdF,List.range_succ,List.flatMap_append,List.length_append] at this ⊢
  rw [this]
  simp [h n (by omega),Nat.add_mul]
theorem zld (vs:Nat→Value) (s:Nat): ∀n,(∀i,i<n→(vs i).cells.size=s)→∀i,i<n→∀j u,(vs i).cells[j]? =some u→(zdF vs n)[i*s+j]? =some u
 | 0,_,i,hi,_,_,_=>by omega
 | n+1,h,i,hi,j,u,hu=>by
  have hl:=zk3 vs s n (fun i hi=>h i (by omega))
  have hj:j<s:=by
   rw [←h i hi]
   rcases Nat.lt_or_ge j (vs i).cells.size with h' | h'
   ·exact h'
   ·rw [Array.getElem?_eq_none h'] at hu;cases hu
  have e1:zdF vs (n+1)=zdF vs n++(vs n).cells.toList:=by simp [zdF,List.range_succ]
  rw [e1]
  by_cases hin:i<n
  ·have:(i+1)*s≤n*s:=Nat.mul_le_mul_right _ hin
   rw [Nat.add_mul] at this
   rw [List.getElem?_append_left (by omega)]
   exact zld vs s n (fun i hi=>h i (by omega)) i hin j u hu
  ·have:i=n:=by omega
   subst this
   rw [List.getElem?_append_right (by omega),hl]
   simpa using hu
theorem zvv {A:Nat→Prop} {e:Ty} {l:List (Den E.T e)} {v:Value} (h:z5 E w A (.slice e) v l): ∃a c,v= .slice a l.length c:=by
 cases h with
 | nil e a c=>exact ⟨a,c,rfl⟩
 | slice e b off cap l vs hA hb hc hm hr=>exact ⟨_,cap,rfl⟩
theorem za9 {A:Nat→Prop} {e:Ty} {l:List (Den E.T e)} {v:Value} (h:z5 E w A (.slice e) v l): ∃cells vs,Zf w A e l cells vs ∧
  ∀w':World,w'.heap=w.heap→(Builtin.firstCells (e.size E) l.length v).run P w'= .ok cells w':=by
 cases h with
 | nil e a cap =>
  refine ⟨#[],fun _=>undef,⟨by simp,fun i hi=>by simp at hi,fun i hi=>by simp at hi⟩,fun w' _=> ?_⟩
  cases a<;>simp [Builtin.firstCells,loadCells,loadCellsFrom]
 | slice e b off cap l vs hA hb hc hm hr =>
  have hs: ∀i,i<l.length→(vs i).cells.size=e.size E:=fun i hi=>(hr i hi).size
  have hlen:=zk3 vs (e.size E) l.length hs
  refine ⟨(zdF vs l.length).toArray,vs,⟨by simpa using hlen,fun i hi j u hu=> ?_,hr⟩,fun w' hw=> ?_⟩
  ·simpa using zld vs (e.size E) l.length hs i hi j u hu
  ·have:=run_loadCells_list (P:=P) w' ⟨b,off,none⟩ (zdF vs l.length) (fun j u hu=>by
    rw [W9]
    have hj:j<l.length*e.size E:=by
     rw [←hlen]
     exact (List.getElem?_eq_some_iff.1 hu).1
    have hpos:0<e.size E:=by
     rcases Nat.eq_zero_or_pos (e.size E) with h0 | h0
     ·rw [h0] at hj;simp at hj
     ·exact h0
    have hi:j/e.size E<l.length:=(Nat.div_lt_iff_lt_mul hpos).2 hj
    have hjm:j%e.size E<(vs (j/e.size E)).cells.size:=by rw [hs _ hi];exact Nat.mod_lt _ hpos
    have hu':=zld vs (e.size E) l.length hs _ hi (j%e.size E) _ (Array.getElem?_eq_getElem hjm)
    have hdm:j/e.size E*e.size E+j%e.size E=j:=Nat.div_add_mod' j (e.size E)
    rw [hdm,hu] at hu'
    injection hu' with hu'
    subst hu'
    have:=hm _ hi (j%e.size E) _ (Array.getElem?_eq_getElem hjm)
    rw [Nat.add_assoc,hdm] at this
    simpa [World.cell?,hw] using this)
   rw [hlen] at this
   simpa [Builtin.firstCells] using this
theorem zrT (hT:yx E.leaves P tab=true) {t1 t2:Nat} {type:TypeId} {e e2:Nat} {u:TI} (hd:P.underlying t1=some (.slice e)) (hu:look tab e=some u)
  (hd2:P.underlying t2=some (.slice e2)) {base:Option Addr} {len cap n:Nat} {x:Value} {old new:Array Value}
  (hlen:(Builtin.lenOf x).run P w= .ok n w) (hold: ∀w':World,w'.heap=w.heap→(Builtin.firstCells u.size len (.slice base len cap)).run P w'= .ok old w')
  (hnew: ∀w':World,w'.heap=w.heap→(Builtin.firstCells u.size n x).run P w'= .ok new w') (hg:cap<len+n) (hb:len+n<4294967296) :
  ∃newCap,len+n≤newCap∧(Builtin.append_ #[t1,t2] type #[.slice base len cap,x]).run P w =
   .ok (.slice (some ⟨w.heap.size,0,none⟩) (len+n) newCap) (w.drew.alloc (.cells (old++new++Builtin.zeroCells (yQ u).cells (newCap-(len+n))) e)):=by
 obtain ⟨f,hf,hf1,hf2,hf3⟩:=zeR hT hu
 have hbytes:=znX hT hu
 have hfit:Builtin.nextslicecap (len+n) cap*f.bytes≤281474976710656:=by
  refine growslice_fits hg ?_
  rw [hf2]
  have:=Nat.mul_le_mul (Nat.le_of_lt hb) hbytes
  omega
 refine ⟨grownCap w (len+n) cap e,by simp only [grownCap,Question.cut];omega,?_⟩
 have hn: ¬(len+n≤cap):=by omega
 have h63': ¬(9223372036854775807<((len:Int)+(n:Int))):=by omega
 have h48': ¬(281474976710656<Builtin.nextslicecap (len+n) cap*f.bytes):=by omega
 have h1:=hold w.drew rfl
 have h2:=hnew w.drew rfl
 rw [←hf1] at h1 h2
 simp [Builtin.append_,run_underlying hd,run_underlying hd2,sizeOf,typeInfo,zeroValue,hf,hf3,hlen,hn,h63',h48',Question.forced,h1,h2,newRow,grownCap]
theorem zq2 (hT:yx E.leaves P tab=true) {t1 t2:Nat} {type:TypeId} {e:Nat} {u:TI} {k2:IntKind} (hd:P.underlying t1=some (.slice e)) (hu:look tab e=some u)
  (hd2:P.underlying t2=some (.int k2)) {base:Option Addr} {len cap n:Nat} {old:Array Value}
  (hold: ∀w':World,w'.heap=w.heap→(Builtin.firstCells u.size len (.slice base len cap)).run P w'= .ok old w') (hg:cap<len+n) (hb:len+n<4294967296) (hs:u.size≠0) (hz:n≠0) :
  ∃newCap,len+n≤newCap∧(Builtin.append_ #[t1,t2] type #[.slice base len cap,.int .i64 (n:Int)]).run P w =
   .ok (.slice (some ⟨w.heap.size,0,none⟩) (len+n) newCap) (w.drew.alloc (.cells (old++(Builtin.zeroCells (yQ u).cells n)++Builtin.zeroCells (yQ u).cells (newCap-(len+n))) e)):=by
 obtain ⟨f,hf,hf1,hf2,hf3⟩:=zeR hT hu
 have hbytes:=znX hT hu
 have hfit:Builtin.nextslicecap (len+n) cap*f.bytes≤281474976710656:=by
  refine growslice_fits hg ?_
  rw [hf2]
  have:=Nat.mul_le_mul (Nat.le_of_lt hb) hbytes
  omega
 refine ⟨grownCap w (len+n) cap e,by simp only [grownCap,Question.cut];omega,?_⟩
 have hn: ¬(len+n≤cap):=by omega
 have hw:IntKind.i64.wrap (n:Int)=n:=by
  have h1:(n:Int)%2 ^ 64=n:=by omega
  simp only [IntKind.wrap,IntKind.signed,IntKind.bits,h1]
  rw [if_neg (by simp;omega)]
 have h63': ¬(9223372036854775807<((len:Int)+(n:Int))):=by omega
 have h48': ¬(281474976710656<Builtin.nextslicecap (len+n) cap*f.bytes):=by omega
 have h48'': ¬((281474976710656:Int)<(n:Int)*f.bytes):=by
  rw [hf2]
  have h1:n*u.bytes≤4294967296*4096:=Nat.mul_le_mul (by omega) hbytes
  have:((n*u.bytes:Nat):Int)=(n:Int)*u.bytes:=by simp
  omega
 have hn0: ¬((n:Int)<0):=by omega
 have h1:=hold w.drew rfl
 rw [←hf1] at h1 hs
 simp [Builtin.append_,run_underlying hd,run_underlying hd2,asInt,asIntOf,sizeOf,typeInfo,zeroValue,hf,hf3,hn,hw,h63',h48',h48'',hn0,Question.forced,h1,newRow,grownCap,hz,hs]
 intro h0;exact absurd h0 (Nat.mul_ne_zero hz hs)
theorem zoz {A:Nat→Prop} {z:Z} {t:Ty} (h:z.is t=true) {x:Den E.T t} (hx:vd (E:=E) t=some x):z5 E w A t z.toV x:=by
 cases z<;>cases t<;>simp [Z.is] at h
 ·simp [vd] at hx;subst hx;exact .bool false
 ·rename_i k k';subst h;simp [vd] at hx;subst hx
  have:=z5.int (E:=E) (w:=w) (A:=A) k (zai k 0)
  cases k<;>exact this
 ·simp [vd] at hx;subst hx;exact .str _
 ·simp [vd] at hx;subst hx;exact .nil _ none 0
theorem zsZ {A:Nat→Prop}: ∀ {zs:List Z} {ts:List Ty} {x:HL E.T ts},zgb zs ts=true→zut (E:=E) ts=some x →
  ∀i (hi:i<ts.length),z5 E w A ts[i] ((zs.map Z.toV).getD i undef) (HL.get ts x i hi)
 | [],[],_,_,_,i,hi=>by simp at hi
 | [],_::_,_,h,_,_,_=>by simp [zgb] at h
 | _::_,[],_,h,_,_,_=>by simp [zgb] at h
 | z::zs,t::ts,x,h,hx,i,hi=>by
  simp only [zgb,Bool.and_eq_true] at h
  simp only [zut] at hx
  split at hx
  ·rename_i a b ha hb
   injection hx with hx
   subst hx
   cases i with
   | zero=>simpa [HL.get] using zoz h.1 ha
   | succ i=>simpa [HL.get] using zsZ h.2 hb i (Nat.lt_of_succ_lt_succ hi)
  ·cases hx
theorem zv8 {A:Nat→Prop} (hT:yx E.leaves P tab=true) {t:Nat} {u:TI} (hu:look tab t=some u) {e:Ty} (hty:u.ty=some e) {z:Den E.T e} (hz:zqD (E:=E) e=some z):z5 E w A e (yQ u) z:=by
 have h1:=zga hT hu
 have leaf: ∀ {e:Ty} {z:Den E.T e},u.agg=false→(match u.zero with | [z]=>z.is e | _=>false)=true→vd (E:=E) e=some z→z5 E w A e (yQ u) z:=by
  intro e z ha h hz
  split at h
  ·rename_i z' hz'
   have:yQ u=z'.toV:=by simp [yQ,ha,hz']
   rw [this]
   exact zoz h hz
  ·cases h
 cases e with
 | named n =>
  simp only [tyB,hty,Bool.and_eq_true] at h1
  simp only [zqD,Option.map_eq_some_iff] at hz
  obtain ⟨x,hx,rfl⟩:=hz
  have:yQ u= .agg (u.zero.map Z.toV).toArray:=by simp [yQ,h1.1]
  rw [this]
  refine .named n _ _ (by simp [zo4 h1.2]) (fun i hi=> ?_)
  rw [E.up]
  have:=zsZ (w:=w) (A:=A) h1.2 hx i hi
  simpa [Array.getD_eq_getD_getElem?] using this
 | arr n e=>simp [zqD,vd] at hz
 | slice e =>
  simp only [tyB,hty,Bool.and_eq_true,Bool.not_eq_true'] at h1
  refine leaf h1.1.1.1 ?_ hz
  have h2:=h1.1.2
  split at h2
  ·rename_i hz';rw [hz'];rfl
  ·cases h2
 | bool=>simp only [tyB,hty,Bool.and_eq_true,Bool.not_eq_true'] at h1;exact leaf h1.1 h1.2 hz
 | int k=>simp only [tyB,hty,Bool.and_eq_true,Bool.not_eq_true'] at h1;exact leaf h1.1 h1.2 hz
 | str=>simp only [tyB,hty,Bool.and_eq_true,Bool.not_eq_true'] at h1;exact leaf h1.1 h1.2 hz
theorem zyZ {A:Nat→Prop} (hT:yx E.leaves P tab=true) {t:Nat} {u:TI} (hu:look tab t=some u) {e:Ty} (hty:u.ty=some e) {z:Den E.T e} (hz:zqD (E:=E) e=some z) (n:Nat) :
  Zf w A e (List.replicate n z) (Builtin.zeroCells (yQ u).cells n) (fun _=>yQ u):=by
 have hr:=zv8 (w:=w) (A:=A) hT hu hty hz
 have hs:=hr.size
 refine ⟨by simp [Builtin.zeroCells,hs],fun i hi j v hv=> ?_,fun i hi=>by simpa using hr⟩
 have hj:j<(yQ u).cells.size:=by
  rcases Nat.lt_or_ge j (yQ u).cells.size with h' | h'
  ·exact h'
  ·rw [Array.getElem?_eq_none h'] at hv;cases hv
 simp only [List.length_replicate] at hi
 have hlt:i*e.size E+j<n*(yQ u).cells.size:=by
  have:(i+1)*e.size E≤n*e.size E:=Nat.mul_le_mul_right _ hi
  rw [Nat.add_mul] at this
  rw [hs] at hj ⊢
  omega
 have hmod:(i*e.size E+j)%(yQ u).cells.size=j:=by
  rw [hs] at hj ⊢
  rw [Nat.mul_comm,Nat.mul_add_mod,Nat.mod_eq_of_lt hj]
 simp only [Builtin.zeroCells]
 rw [Array.getElem?_map,Array.getElem?_range,if_pos hlt]
 simp only [Option.map_some,hmod]
 rw [←hv,getElem!_pos _ j hj,Array.getElem?_eq_getElem hj]
theorem zsC (hT:yx E.leaves P tab=true) {t1 t2:Nat} {type:TypeId} {e e2:Nat} {u:TI} (hd:P.underlying t1=some (.slice e)) (hu:look tab e=some u) (hd2:P.underlying t2=some (.slice e2))
  {b off len cap n:Nat} {x:Value} {new cur:Array Value} {t:TypeId} (hlen:(Builtin.lenOf x).run P w= .ok n w) (hnew:(Builtin.firstCells u.size n x).run P w= .ok new w) (hg:len+n≤cap)
  (hh:w.heap[b]? =some (.cells cur t (0,0))) (hfit:off+len*u.size+new.size≤cur.size) (hone: ∀v∈new.toList,v.oneCell'=true) :
  (Builtin.append_ #[t1,t2] type #[.slice (some ⟨b,off,none⟩) len cap,x]).run P w =
   .ok (.slice (some ⟨b,off,none⟩) (len+n) cap) (w.setRow b (cur.toList.take (off+len*u.size)++new.toList++cur.toList.drop (off+len*u.size+new.size)).toArray):=by
 have hst:=run_storeCells_at (P:=P) b (off+len*u.size) t new.toList 0 cur w hh (by simpa using hfit) hone
 simp only [Nat.add_zero] at hst
 have hst':Sem.run P (storeCells ⟨b,off+len*u.size,none⟩ new.toList) w=_:=hst
 simp [Builtin.append_,run_underlying hd,run_underlying hd2,yC hT hu,hlen,hg,hnew,W9,hst']
theorem zq1 (hT:yx E.leaves P tab=true) {t1 t2:Nat} {type:TypeId} {e:Nat} {u:TI} {k2:IntKind} (hd:P.underlying t1=some (.slice e)) (hu:look tab e=some u) (hd2:P.underlying t2=some (.int k2))
  {b off len cap n:Nat} {cur:Array Value} {t:TypeId} (hg:len+n≤cap) (hn:n≠0) (hs:u.size≠0) (hb:n<4294967296)
  (hh:w.heap[b]? =some (.cells cur t (0,0))) (hfit:off+len*u.size+(Builtin.zeroCells (yQ u).cells n).size≤cur.size) (hone: ∀v∈(Builtin.zeroCells (yQ u).cells n).toList,v.oneCell'=true) :
  (Builtin.append_ #[t1,t2] type #[.slice (some ⟨b,off,none⟩) len cap,.int .i64 (n:Int)]).run P w =
   .ok (.slice (some ⟨b,off,none⟩) (len+n) cap) (w.setRow b (cur.toList.take (off+len*u.size)++(Builtin.zeroCells (yQ u).cells n).toList++cur.toList.drop (off+len*u.size+(Builtin.zeroCells (yQ u).cells n).size)).toArray):=by
 obtain ⟨f,hf,hf1,hf2,hf3⟩:=zeR hT hu
 have hbytes:=znX hT hu
 have hst:=run_storeCells_at (P:=P) b (off+len*u.size) t (Builtin.zeroCells (yQ u).cells n).toList 0 cur w hh (by simpa using hfit) hone
 simp only [Nat.add_zero] at hst
 have hst':Sem.run P (storeCells ⟨b,off+len*u.size,none⟩ (Builtin.zeroCells (yQ u).cells n).toList) w=_:=hst
 have hw:IntKind.i64.wrap (n:Int)=n:=by
  have h1:(n:Int)%2 ^ 64=n:=by omega
  simp only [IntKind.wrap,IntKind.signed,IntKind.bits,h1]
  rw [if_neg (by simp;omega)]
 have h48'': ¬((281474976710656:Int)<(n:Int)*f.bytes):=by
  rw [hf2]
  have h1:n*u.bytes≤4294967296*4096:=Nat.mul_le_mul (by omega) hbytes
  have:((n*u.bytes:Nat):Int)=(n:Int)*u.bytes:=by simp
  omega
 have hn0: ¬((n:Int)<0):=by omega
 have hti: ∀w',(typeInfo e).run P w'= .ok f w':=fun w'=>by simp [typeInfo,hf]
 simp [Builtin.append_,run_underlying hd,run_underlying hd2,asInt,asIntOf,yC hT hu,hti,Zl hT hu,hw,h48'',hn0,hg,hn,hs,W9,hst']
 intro h0;exact absurd h0 (Nat.mul_ne_zero hn hs)
theorem Zf.mono {A A':Nat→Prop} {w w':World} {e:Ty} {l:List (Den E.T e)} {cells:Array Value} {vs:Nat→Value} (h:Zf w A e l cells vs) (k: ∀ {v x},z5 E w A e v x→z5 E w' A' e v x):Zf w' A' e l cells vs :=
 ⟨h.size,h.at_,fun i hi=>k (h.rep i hi)⟩
theorem Zf.append {A:Nat→Prop} {e:Ty} {l l2:List (Den E.T e)} {c c2:Array Value} {vs vs2:Nat→Value} (h:Zf w A e l c vs) (h2:Zf w A e l2 c2 vs2) :
  Zf w A e (l++l2) (c++c2) (fun i=>if i<l.length then vs i else vs2 (i-l.length)):=by
 refine ⟨by simp [h.size,h2.size,Nat.add_mul],fun i hi j u hu=> ?_,fun i hi=> ?_⟩
 ·by_cases hl:i<l.length
  ·simp only [hl,if_true] at hu
   have:=h.at_ i hl j u hu
   rw [Array.getElem?_append_left (Array.getElem?_eq_some_iff.1 this).1]
   exact this
  ·simp only [hl,if_false] at hu
   have hi2:i-l.length<l2.length:=by simp at hi;omega
   have:=h2.at_ (i-l.length) hi2 j u hu
   have e1:i*e.size E=l.length*e.size E+(i-l.length)*e.size E:=by rw [←Nat.add_mul];congr 1;omega
   rw [Array.getElem?_append_right (by rw [h.size];omega),h.size]
   rw [show i*e.size E+j-l.length*e.size E=(i-l.length)*e.size E+j by omega]
   exact this
 ·by_cases hl:i<l.length
  ·simp only [hl,if_true]
   rw [List.getElem_append_left hl]
   exact h.rep i hl
  ·simp only [hl,if_false]
   have hi2:i-l.length<l2.length:=by simp at hi;omega
   rw [List.getElem_append_right (by omega)]
   exact h2.rep _ hi2
structure Apd (P:Program) (E:yg) (A0:Nat→Prop) (μ:Nat→Loc) (H:List (Blk E)) (w:World) (t1 t2 e:Nat) (u:TI) (type:TypeId) (τ:Ty) (l2:List (Den E.T τ)) (x:Value) (new:Array Value) (vs:Nat→Value):Prop where
 rows:Zf w (Av A0 μ H) τ l2 new vs
 one: ∀v∈new.toList,v.oneCell'=true
 grows: ∀ {base:Option Addr} {len cap:Nat} {old:Array Value},(∀w':World,w'.heap=w.heap→(Builtin.firstCells u.size len (.slice base len cap)).run P w'= .ok old w')→cap<len+l2.length→len+l2.length<4294967296 →
  ∃newCap,len+l2.length≤newCap∧(Builtin.append_ #[t1,t2] type #[.slice base len cap,x]).run P w =
   .ok (.slice (some ⟨w.heap.size,0,none⟩) (len+l2.length) newCap) (w.drew.alloc (.cells (old++new++Builtin.zeroCells (yQ u).cells (newCap-(len+l2.length))) e))
 fits: ∀ {b off len cap:Nat} {cur:Array Value} {t:TypeId},len+l2.length≤cap→w.heap[b]? =some (.cells cur t (0,0))→off+len*u.size+new.size≤cur.size →
  (Builtin.append_ #[t1,t2] type #[.slice (some ⟨b,off,none⟩) len cap,x]).run P w =
   .ok (.slice (some ⟨b,off,none⟩) (len+l2.length) cap) (w.setRow b (cur.toList.take (off+len*u.size)++new.toList++cur.toList.drop (off+len*u.size+new.size)).toArray)
 none_: ∀ {base:Option Addr},l2.length=0→(Builtin.append_ #[t1,t2] type #[.slice base 0 0,x]).run P w= .ok (.slice base 0 0) w
theorem zpB {fresh:Nat} {e:Ty} {l:List (Den E.T e)} {cells rest:Array Value} {vs:Nat→Value} {t:TypeId} {newCap:Nat} (S:zM A0 μ H w) (F:Zt H fresh A0 w) (hr:Zf w (Av A0 μ H) e l cells vs) (hcap:l.length≤newCap)
  (hsz:(cells++rest).size=newCap*e.size E) {w1:World} (hw:w1.heap=w.heap) (q:z8 w w1) :
  let loc:=Loc.blk w.heap.size 0 l.length newCap
  let H':=H.set fresh (.row true e l)
  let w':=w1.alloc (.cells (cells++rest) t)
  zK A0 μ H w (YW μ fresh loc) H' w'∧zM A0 (YW μ fresh loc) H' w'∧Rp E A0 (YW μ fresh loc) H' w' (.own fresh) (.slice (some ⟨w.heap.size,0,none⟩) l.length newCap):=by
 intro loc H' w'
 have hb: ∀b,b<w.heap.size→w'.heap[b]? =w.heap[b]? :=fun b hb=>by
  show (w1.heap.push _)[b]? =_
  rw [hw,Array.getElem?_push,if_neg (by omega)]
 have hq:z8 w w':=⟨q.os,q.tape,q.output,by show _≤(w1.heap.push _).size;rw [hw];simp⟩
 have T:zK A0 μ H w (YW μ fresh loc) H' w':=zK.fresh fresh loc _ F.free F.lt hq hb (fun b o n c e=>by injection e with e;omega)
 refine ⟨T,S.fresh fresh loc _ F.free F.lt hq hb (fun b o n c e=>by injection e with e;subst e;exact ⟨Nat.le_refl _,by show _<(w1.heap.push _).size;rw [hw];simp⟩) F.A0 ?_,?_⟩
 ·refine .inl ⟨w.heap.size,0,newCap,cells++rest,vs,rfl,⟨t,(0,0),?_,fun _=>rfl⟩,hcap,by rw [hsz];omega,fun i hi j u hu=> ?_,fun i hi=>T.repT (hr.rep i hi)⟩
  ·show (w1.heap.push _)[w.heap.size]? =_
   rw [hw];simp
  ·have:=hr.at_ i hi j u hu
   rw [Nat.zero_add,Array.getElem?_append_left (Array.getElem?_eq_some_iff.1 this).1]
   exact this
 ·exact .own fresh _ _ _ _ (by unfold Us;rw [z7 _ _ _ F.lt];rfl) (wQ _ _ _)
theorem zo2 {α:Type} {l l':List α} (h:yc l=some l'):l'=l∧l.length<4294967296:=by
 rw [zsz] at h
 cases hd:decide (l.length<4294967296) with
 | false=>simp [hd] at h
 | true=>simp only [hd,cond_true] at h;injection h with h;exact ⟨h.symm,by simpa using hd⟩
theorem zoG (hT:yx E.leaves P tab=true) {t1 t2 e:Nat} {u:TI} {type:TypeId} {τ:Ty} (hu:look tab e=some u) (hty:u.ty=some τ) (hs:u.size≠0) {fresh:Nat} {p:ze E} {v x:Value} {l2:List (Den E.T τ)} {new:Array Value} {vs2:Nat→Value}
  (S:zM A0 μ H w) (F:Zt H fresh A0 w) (hp:Rp E A0 μ H w p v) (D:Apd P E A0 μ H w t1 t2 e u type τ l2 x new vs2)
  (h:(zqG τ fresh p l2).cps H K=some r):zR P A0 μ H w (Builtin.append_ #[t1,t2] type #[v,x]) K r:=by
 have hsz:=vJ hT τ hu hty
 have hzs:(yQ u).cells.size=τ.size E:=by
  have h1:=zb9 hT hu
  have h2:=znk hT hu
  have:(yQ u).cells.toList.length=u.zero.length:=by rw [h1];simp
  rw [hsz,←h2];simpa using this
 have hrest: ∀(k:Nat),(Builtin.zeroCells (yQ u).cells k).size=k*τ.size E:=fun k=>by simp [Builtin.zeroCells,hzs]
 have grow: ∀ {base:Option Addr} {len cap:Nat} {old:Array Value} {l:List (Den E.T τ)} {vs:Nat→Value} {H1:List (Blk E)},zK A0 μ H w μ H1 w→zM A0 μ H1 w→Zt H1 fresh A0 w→len=l.length→Zf w (Av A0 μ H1) τ l old vs →
   (∀w':World,w'.heap=w.heap→(Builtin.firstCells u.size len (.slice base len cap)).run P w'= .ok old w')→cap<len+l2.length→(l++l2).length<4294967296→K (.own fresh) (H1.set fresh (.row true τ (l++l2)))=some r →
   zR P A0 μ H w (Builtin.append_ #[t1,t2] type #[.slice base len cap,x]) K r:=by
  intro base len cap old l vs H1 T1 S1 F1 hlen hrows hold hg hroom hk
  subst hlen
  rw [List.length_append] at hroom
  obtain ⟨newCap,hcap,hrun⟩:=D.grows hold hg hroom
  have hj:=hrows.append (D.rows.mono T1.repT)
  have el:(l++l2).length=l.length+l2.length:=List.length_append
  rw [←el] at hcap hrun
  obtain ⟨T2,S2,hrep⟩:=zpB (t:=e) (newCap:=newCap) (rest:=Builtin.zeroCells (yQ u).cells (newCap-(l++l2).length)) S1 F1 hj hcap (by
   rw [Array.size_append,hj.size,hrest,←Nat.add_mul];congr 1;omega) (w1:=w.drew) rfl (z8.drew w)
  exact ⟨_,_,_,_,_,hrun,T1.trans T2,S2,hrep,hk⟩
 unfold zqG at h
 split at h
 ·-- nothing
  simp only [Dec.cps] at h
  cases hrm:yc l2 with
  | none=>simp [hrm] at h
  | some l' =>
   simp only [hrm,Option.bind_some] at h
   obtain ⟨rfl,hlt⟩:=zo2 hrm
   cases hb:Nat.blt fresh H.length with
   | false=>simp [hb] at h
   | true =>
    simp only [hb,cond_true] at h
    cases hp with
    | nils a =>
     by_cases hz:l'.length=0
     ·have hnil:=List.eq_nil_of_length_eq_zero hz
      have T:=zK.fresh (A0:=A0) (μ:=μ) (w':=w) fresh (.none a) (.row true τ l') F.free F.lt (z8.refl w) (fun _ _=>rfl) (fun b o n c h=>by cases h)
      refine ⟨_,_,_,w,_,D.none_ hz,T,S.fresh fresh (.none a) _ F.free F.lt (z8.refl w) (fun _ _=>rfl) (fun b o n c h=>by cases h) F.A0 (.inr ⟨hnil,a,rfl⟩),?_,h⟩
      exact .own0 fresh a _ (by unfold Us;rw [z7 _ _ _ F.lt];rfl) (wQ _ _ _)
     ·refine grow (l:=[]) (old:= #[]) (vs:=fun _=>undef) (zK.refl _ _ _ _) S F rfl ⟨by simp,fun i hi=>by simp at hi,fun i hi=>by simp at hi⟩ (fun w' _=> ?_) (by simp;omega) (by simpa using hlt) (by simpa using h)
      cases a<;>simp [Builtin.firstCells,loadCells,loadCellsFrom]
 ·-- a row of the call's own
  rename_i id
  simp only [Dec.cps] at h
  cases hB:zi H id with
  | row wr e' l =>
   rw [hB] at h
   cases wr with
   | false=>simp [Dec.cps] at h
   | true =>
   simp only at h
   split at h
   rotate_left
   ·simp [Dec.cps] at h
   rename_i l0 hcast
   obtain ⟨he,rfl⟩:=xL hcast
   injection he with he;have he:=he.symm;subst he
   simp only [Dec.cps] at h
   cases hrm:yc (l++l2) with
   | none=>simp [hrm] at h
   | some l' =>
    simp only [hrm,Option.bind_some] at h
    obtain ⟨rfl,hlt⟩:=zo2 hrm
    cases hb:Nat.blt id H.length with
    | false=>simp [hb] at h
    | true =>
    simp only [hb,cond_true] at h
    cases hb2:Nat.blt fresh (H.set id .dead).length with
    | false=>simp only [hb2,cond_false] at h;cases h
    | true =>
    simp only [hb2,cond_true] at h
    have hlive:yE (zi H id)=true:=by rw [hB];rfl
    have hU:Us H id:=ya (yt hlive)
    have hne:id≠fresh:=fun e'=>by subst e';rw [F.free] at hB;cases hB
    have ok:=S.ok id
    rw [hB] at ok
    have T1:zK A0 μ H w μ (H.set id .dead) w:=zK.drop id .dead hU rfl rfl
    have S1:zM A0 μ (H.set id .dead) w:=S.drop id .dead hU rfl rfl (fun h=>by cases h) (fun h=>by cases h) trivial
    have F1:Zt (H.set id .dead) fresh A0 w:=F.trans T1 (by rw [zP H _ hne];exact F.free)
    cases hp with
    | own id b off len cap hU' hμ =>
     rw [hμ] at ok
     rcases ok with ⟨b',off',cap',c,vs,hl,hbox,g1,g2,g3,g4⟩ | ⟨_,a,hl⟩
     rotate_left
     ·cases hl
     injection hl with e1 e2 e3 e4;subst e1 e2 e3 e4
     by_cases hroom:l.length+l2.length≤cap
     ·-- there is yc
      obtain ⟨t',f,hh,hf⟩:=hbox
      obtain rfl:=hf rfl
      have hnew:new.size=l2.length*τ.size E:=D.rows.size
      have hle:(l.length+l2.length)*τ.size E≤cap*τ.size E:=Nat.mul_le_mul_right _ hroom
      rw [Nat.add_mul] at hle
      have hrun:=D.fits (off:=off) hroom hh (by rw [←hsz,hnew];omega)
      rw [←hsz] at hrun
      generalize hc':(c.toList.take (off+l.length*τ.size E)++new.toList++c.toList.drop (off+l.length*τ.size E+new.size)).toArray=c' at hrun
      have hmin:min (off+l.length*τ.size E) c.size=off+l.length*τ.size E:=by omega
      have hsz':c'.size=c.size:=by subst hc';simp;omega
      have hlow: ∀k,k<off+l.length*τ.size E→c'[k]? =c[k]? :=fun k hk=>by
       subst hc'
       simp only [List.getElem?_toArray,List.append_assoc]
       rw [List.getElem?_append_left (by simp;omega),List.getElem?_take,if_pos hk,Array.getElem?_toList]
      have hhigh: ∀k y,new[k]? =some y→c'[off+l.length*τ.size E+k]? =some y:=fun k y hk=>by
       subst hc'
       have hk':=(Array.getElem?_eq_some_iff.1 hk).1
       simp only [List.getElem?_toArray,List.append_assoc]
       rw [List.getElem?_append_right (by simp;omega),List.getElem?_append_left (by simp;omega)]
       simp only [List.length_take,Array.length_toList,hmin,Nat.add_sub_cancel_left,Array.getElem?_toList]
       exact hk
      have hbk: ∀k,k<w.heap.size→k≠b→(w.setRow b c').heap[k]? =w.heap[k]? :=fun k _ hk=>setRow_other _ _ _ _ hk
      have T:=zK.move (A0:=A0) (w':=w.setRow b c') id fresh b off l.length cap off (l.length+l2.length) cap (.row true τ (l++l2)) hlive hμ F.free F.lt (z8.setRow w b c') hbk
      refine ⟨_,_,_,_,_,hrun,T,S.move id fresh b off l.length cap off (l.length+l2.length) cap _ hlive hμ F.free F.lt (z8.setRow w b c') hbk ?_,?_,h⟩
      ·refine .inl ⟨b,off,cap,c',fun i=>if i<l.length then vs i else vs2 (i-l.length),by simp,⟨t',(0,0),setRow_heap _ _ _ _ _ _ hh,fun _=>rfl⟩,by simpa using hroom,by rw [hsz'];exact g2,fun i hi j y hy=> ?_,fun i hi=> ?_⟩
       ·by_cases hil:i<l.length
        ·simp only [hil,if_true] at hy
         have hj:j<τ.size E:=by
          rw [←(g4 i hil).size]
          rcases Nat.lt_or_ge j (vs i).cells.size with h' | h'
          ·exact h'
          ·rw [Array.getElem?_eq_none h'] at hy;cases hy
         have:(i+1)*τ.size E≤l.length*τ.size E:=Nat.mul_le_mul_right _ hil
         rw [Nat.add_mul] at this
         rw [hlow _ (by omega)]
         exact g3 i hil j y hy
        ·simp only [hil,if_false] at hy
         have hi2:i-l.length<l2.length:=by simp at hi;omega
         have:=hhigh _ _ (D.rows.at_ (i-l.length) hi2 j y hy)
         have e1:i*τ.size E=l.length*τ.size E+(i-l.length)*τ.size E:=by rw [←Nat.add_mul];congr 1;omega
         rw [e1]
         simpa [Nat.add_assoc] using this
       ·by_cases hil:i<l.length
        ·simp only [hil,if_true]
         rw [List.getElem_append_left hil]
         exact T.repT (g4 i hil)
        ·simp only [hil,if_false]
         have hi2:i-l.length<l2.length:=by simp at hi;omega
         rw [List.getElem_append_right (by omega)]
         exact T.repT (D.rows.rep _ hi2)
      ·exact .own fresh _ _ _ _ (by unfold Us;rw [z7 _ _ _ (by simpa using F.lt)];rfl) (wQ _ _ _)
     ·-- it grows
      have hrep:z5 E w (Av A0 μ (H.set id .dead)) (.slice τ) (.slice (some ⟨b,off,none⟩) l.length cap) l:=by
       have hnb: ¬Av A0 μ (H.set id .dead) b:=by
        rintro (h0 | ⟨j,o',n',c',hj,hj'⟩)
        ·exact (S.out id b off _ cap (yJ hlive) hμ).1 h0.1
        ·by_cases ej:j=id
         ·subst ej;rw [z7 H j _ (xK hU)] at hj;cases hj
         ·rw [zP H _ (Ne.symm ej)] at hj
          exact S.inj j id b o' n' c' b off _ cap ej hj (yt hlive) hj' hμ rfl
       have ok':xE w (Av A0 μ H) (Us H) μ (.blk b off l.length cap) (.row true τ l):= .inl ⟨b,off,cap,c,vs,rfl,hbox,g1,g2,g3,g4⟩
       exact (zuV ok' (fun k hk=>hk.elim .inl (fun h'=>by
        obtain ⟨j,o',n',c',hj,hj'⟩:=h'
        by_cases ej:id=j
        ·subst ej;rw [z7 H id _ (xK hU)] at hj;cases hj
        ·rw [zP H _ ej] at hj;exact .inr ⟨j,o',n',c',hj,hj'⟩)) hnb).2
      obtain ⟨old,vs',hrows,hold⟩:=za9 (P:=P) hrep
      rw [hsz] at hold
      exact grow T1 S1 F1 rfl hrows hold (by omega) hlt h
    | own0 id a a2 hU' hμ =>
     rw [hμ] at ok
     rcases ok with ⟨b',off',cap',c,vs,hl,_⟩ | ⟨rfl,_⟩
     ·cases hl
     by_cases hz:l2.length=0
     ·have hnil:=List.eq_nil_of_length_eq_zero hz
      subst hnil
      have T:=zK.fresh (A0:=A0) (μ:=μ) (H:=H.set id .dead) (w':=w) fresh (.none a) (.row true τ ([]++[])) F1.free F1.lt (z8.refl w) (fun _ _=>rfl) (fun b o n c h=>by cases h)
      refine ⟨_,_,_,w,_,D.none_ hz,T1.trans T,S1.fresh fresh (.none a) _ F1.free F1.lt (z8.refl w) (fun _ _=>rfl) (fun b o n c h=>by cases h) F1.A0 (.inr ⟨rfl,a,rfl⟩),?_,h⟩
      exact .own0 fresh a _ (by unfold Us;rw [z7 _ _ _ F1.lt];rfl) (wQ _ _ _)
     ·refine grow (l:=[]) (old:= #[]) (vs:=fun _=>undef) T1 S1 F1 rfl ⟨by simp,fun i hi=>by simp at hi,fun i hi=>by simp at hi⟩ (fun w' _=> ?_) (by simp;omega) hlt h
      cases a<;>simp [Builtin.firstCells,loadCells,loadCellsFrom]
  | _=>rw [hB] at h;simp [Dec.cps] at h
 ·-- a slice that has no yc
  rename_i e' l
  split at h
  rotate_left
  ·simp [Dec.cps] at h
  rename_i l0 hcast
  obtain ⟨he,rfl⟩:=xL hcast
  injection he with he;have he:=he.symm;subst he
  split at h
  ·simp [Dec.cps] at h
  rename_i y ys
  simp only [Dec.cps] at h
  cases hrm:yc (l++y::ys) with
  | none=>simp [hrm] at h
  | some l' =>
   simp only [hrm,Option.bind_some] at h
   obtain ⟨rfl,hlt⟩:=zo2 hrm
   cases hb:Nat.blt fresh H.length with
   | false=>simp [hb] at h
   | true =>
    simp only [hb,cond_true] at h
    cases hp with
    | full e'' l a hv =>
     obtain ⟨old,vs',hrows,hold⟩:=za9 (P:=P) hv
     rw [hsz] at hold
     exact grow (zK.refl _ _ _ _) S F rfl hrows hold (by simp) hlt h
 ·simp [Dec.cps] at h
theorem zx2 (n:Nat) (i:Nat) (hi:i<(E.leaves n).length):((E.leaves n)[i]).leaf=true:=by
 have:=List.all_eq_true.1 (E.lf n) _ (List.getElem_mem hi)
 unfold Ty.leaf
 split<;>simp_all
theorem z5.one {A:Nat→Prop} {τ:Ty} {v:Value} {x:Den E.T τ} (h:z5 E w A τ v x) (hn: ∀n e,τ≠ .arr n e): ∀u∈v.cells.toList,u.oneCell'=true:=by
 have leaf: ∀ {τ:Ty} {v:Value} {x:Den E.T τ},z5 E w A τ v x→τ.leaf=true→v.oneCell'=true:=fun h hl=>zjH (.v _ _ _ h:zT E w A (fun _=>False) (fun _=> .none none) _ _) hl
 cases h with
 | named n cs x hs h =>
  intro u hu
  obtain ⟨j,hj,rfl⟩:=List.getElem_of_mem hu
  have hj':j<(E.leaves n).length:=by rw [←hs];simpa [Value.cells] using hj
  have:=leaf (h j hj') (zx2 n j hj')
  simpa [Array.getD,hs,hj',Value.cells] using this
 | arr n e cs l vs h1 h2 h3 h4=>exact absurd rfl (hn n e)
 | bool b=>intro u hu;simp [Value.cells] at hu;subst hu;rfl
 | int k x=>intro u hu;simp [Value.cells] at hu;subst hu;rfl
 | str s=>intro u hu;simp [Value.cells] at hu;subst hu;rfl
 | nil e a c=>intro u hu;simp [Value.cells] at hu;subst hu;rfl
 | slice e b off cap l vs h1 h2 h3 h4 h5=>intro u hu;simp [Value.cells] at hu;subst hu;rfl
theorem Zf.one {A:Nat→Prop} {e:Ty} {l:List (Den E.T e)} {cells:Array Value} {vs:Nat→Value} (h:Zf w A e l cells vs) (hn: ∀n e',e≠ .arr n e'): ∀u∈cells.toList,u.oneCell'=true:=by
 intro u hu
 obtain ⟨j,hj,rfl⟩:=List.getElem_of_mem hu
 have hj:j<l.length*e.size E:=by rw [←h.size];simpa using hj
 have hpos:0<e.size E:=by
  rcases Nat.eq_zero_or_pos (e.size E) with h0 | h0
  ·rw [h0] at hj;simp at hj
  ·exact h0
 have hi:j/e.size E<l.length:=(Nat.div_lt_iff_lt_mul hpos).2 hj
 have hs:=(h.rep _ hi).size
 have hjm:j%e.size E<(vs (j/e.size E)).cells.size:=by rw [hs];exact Nat.mod_lt _ hpos
 have:=h.at_ _ hi (j%e.size E) _ (Array.getElem?_eq_getElem hjm)
 rw [Nat.div_add_mod' j (e.size E)] at this
 obtain ⟨h1,h2⟩:=Array.getElem?_eq_some_iff.1 this
 rw [Array.getElem_toList,h2]
 exact (h.rep _ hi).one hn _ (by simp)
theorem zBO (hT:yx E.leaves P tab=true) {t:Nat} {u:TI} (hu:look tab t=some u) (n:Nat): ∀v∈(Builtin.zeroCells (yQ u).cells n).toList,v.oneCell'=true:=by
 intro v hv
 have hz:=zb9 hT hu
 simp only [Builtin.zeroCells,Array.toList_map,List.mem_map] at hv
 obtain ⟨j,hj,rfl⟩:=hv
 have hj':j<n*(yQ u).cells.size:=by simpa using hj
 have hpos:0<(yQ u).cells.size:=by
  rcases Nat.eq_zero_or_pos (yQ u).cells.size with h0 | h0
  ·rw [h0] at hj';simp at hj'
  ·exact h0
 have hlt:=Nat.mod_lt j hpos
 rw [getElem!_pos (yQ u).cells _ hlt]
 have hm:(yQ u).cells[j%(yQ u).cells.size]∈(yQ u).cells.toList:=by simp
 rw [hz,List.mem_map] at hm
 obtain ⟨z,_,hz⟩:=hm
 rw [←hz]
 cases z<;>rfl
theorem zwU (hT:yx E.leaves P tab=true) {t1 t2:Nat} {i j:TI} {type:TypeId} {e:Ty} (hi:look tab t1=some i) (hj:look tab t2=some j) (hty:i.ty=some (.slice e)) (hsl:j.sl=true) {fresh:Nat} {p x:ze E} {v xv:Value}
  (S:zM A0 μ H w) (F:Zt H fresh A0 w) (hp:Rp E A0 μ H w p v) (hx:Rp E A0 μ H w x xv)
  (h:(zvG e fresh p x).cps H K=some r):zR P A0 μ H w (Builtin.append_ #[t1,t2] type #[v,xv]) K r:=by
 obtain ⟨u,hu,hut,hs0,hd,hna⟩:=UT hT hi hty
 have hd2:=zou hT hj hsl
 have hsz:=vJ hT e hu hut
 unfold zvG at h
 obtain ⟨l2,H0,T0,S0,hl2,hfr,h⟩:=zbH S hx h
 obtain ⟨a2,c2,rfl⟩:=zvv hl2
 obtain ⟨new,vs2,hrows,hnew⟩:=za9 (P:=P) hl2
 rw [hsz] at hnew
 have F0:Zt H0 fresh A0 w:=F.trans T0 (hfr _ F.free)
 have hnone: ∀ {base:Option Addr},l2.length=0→(Builtin.append_ #[t1,t2] type #[.slice base 0 0,.slice a2 l2.length c2]).run P w= .ok (.slice base 0 0) w:=by
  intro base h0
  have hnil:=List.eq_nil_of_length_eq_zero h0
  subst hnil
  have hn0:=hnew w rfl
  have hnew0:new= #[]:=by have:=hrows.size;simpa using this
  subst hnew0
  simp only [List.length_nil] at hn0
  cases base<;>simp [Builtin.append_,run_underlying hd,run_underlying hd2,yC hT hu,Builtin.lenOf,hn0,storeCells]
 have D:Apd P E A0 μ H0 w t1 t2 i.elem u type e l2 (.slice a2 l2.length c2) new vs2 :=
  {rows:=hrows,one:=hrows.one hna,
   grows:=fun hold hg hb=>zrT hT hd hu hd2 (by simp [Builtin.lenOf]) hold hnew hg hb,
   fits:=fun hg hh hfit=>zsC hT hd hu hd2 (by simp [Builtin.lenOf]) (hnew w rfl) hg hh hfit (hrows.one hna),
   none_:=hnone}
 obtain ⟨p',H',v',w',μ',h1,h2,h3,h4,h5⟩:=zoG hT hu hut hs0 S0 F0 (T0.rep hp) D h
 exact ⟨p',H',v',w',μ',h1,T0.trans h2,h3,h4,h5⟩
theorem zzf {n:Int} {k:Nat} (h:zgO n=some k):0<k∧k<4294967296∧n=(k:Int):=by
 rw [zuk] at h
 cases hd:(decide (0<n)&&decide (n<4294967296)) with
 | false=>simp [hd] at h
 | true =>
  simp only [hd,cond_true] at h
  simp only [Bool.and_eq_true,decide_eq_true_eq] at hd
  injection h with h
  omega
theorem zuA (hT:yx E.leaves P tab=true) {t1 t2:Nat} {i j:TI} {type:TypeId} {e:Ty} (hi:look tab t1=some i) (hj:look tab t2=some j) (hty:i.ty=some (.slice e)) (hj2:zad j (.int .i64)=true) {fresh:Nat} {p x:ze E} {v xv:Value}
  (S:zM A0 μ H w) (F:Zt H fresh A0 w) (hp:Rp E A0 μ H w p v) (hx:Rp E A0 μ H w x xv)
  (h:(zsv e fresh p x).cps H K=some r):zR P A0 μ H w (Builtin.append_ #[t1,t2] type #[v,xv]) K r:=by
 obtain ⟨u,hu,hut,hs0,hd,hna⟩:=UT hT hi hty
 have hd2:P.underlying t2=some (.int .i64):=by
  obtain ⟨d,g1,g2⟩:=Yd hT hj
  have hj2:=YP hj2
  cases d<;>simp_all [vK]
 unfold zsv at h
 split at h
 rotate_left
 ·simp [Dec.cps] at h
 rename_i z n hz
 simp only [Dec.cps] at h
 cases hc:zgO n with
 | none=>simp [hc] at h
 | some k =>
  simp only [hc,Option.bind_some] at h
  obtain ⟨hk0,hk1,rfl⟩:=zzf hc
  cases hx with
  | v τ x xv hx =>
   have hxv:xv= .int .i64 (k:Int):=by cases hx;rfl
   subst hxv
   have hrows:=zyZ (w:=w) (A:=Av A0 μ H) hT hu hut hz k
   have hone:=zBO hT hu k
   have hlen:(List.replicate k z).length=k:=List.length_replicate
   have D:Apd P E A0 μ H w t1 t2 i.elem u type e (List.replicate k z) (.int .i64 (k:Int)) _ _ :=
    {rows:=hrows,one:=hone,
     grows:=fun hold hg hb=>by rw [hlen] at hg hb ⊢;exact zq2 hT hd hu hd2 hold hg hb hs0 (by omega),
     fits:=fun hg hh hfit=>by rw [hlen] at hg ⊢;exact zq1 hT hd hu hd2 hg (by omega) hs0 hk1 hh hfit hone,
     none_:=fun h0=>by rw [hlen] at h0;omega}
   split at h
   ·simp [Dec.cps] at h
   ·exact zoG hT hu hut hs0 S F hp D h
end
end Go.Pe
namespace Go.Pe
variable {E:yg}
section
variable {P:Program} {tab:List (Nat×TI)} {A0:Nat→Prop} {μ:Nat→Loc} {H:List (Blk E)} {w:World} {R:Type} {K:ze E→List (Blk E)→Option R} {r:R}
theorem zA4 {n:Int} {k:Nat} (h:Wf n=some k):k<4294967296∧n=(k:Int):=by
 rw [zlh] at h
 cases hd:(decide (0≤n)&&decide (n<4294967296)) with
 | false=>simp [hd] at h
 | true =>
  simp only [hd,cond_true] at h
  simp only [Bool.and_eq_true,decide_eq_true_eq] at hd
  injection h with h
  omega
theorem zsk (hT:yx E.leaves P tab=true) {t:Nat} {i:TI} {e:Ty} (hi:look tab t=some i) (hty:i.ty=some (.slice e)) {fresh:Nat} {p c:ze E} {v cv:Value}
  (S:zM A0 μ H w) (F:Zt H fresh A0 w) (hp:Rp E A0 μ H w p v) (hc:Rp E A0 μ H w c cv) (h:(znr e fresh p c).cps H K=some r):zR P A0 μ H w (Instr.makeSlice t v cv) K r:=by
 obtain ⟨u,hu,hut,hs0,hd,hna⟩:=UT hT hi hty
 have hsz:=vJ hT e hu hut
 have hby:=znX hT hu
 obtain ⟨f,hf,hf1,hf2,hf3⟩:=zeR hT hu
 unfold znr at h
 split at h
 rotate_left
 ·simp [Dec.cps] at h
 rename_i n m
 split at h
 rotate_left
 ·simp [Dec.cps] at h
 rename_i z hz
 simp only [Dec.cps] at h
 cases hnm:decide (n=m) with
 | false=>simp [hnm] at h
 | true =>
  simp only [hnm,cond_true] at h
  have hnm:n=m:=by simpa using hnm
  subst hnm
  cases hk:Wf n with
  | none=>simp [hk] at h
  | some k =>
   simp only [hk,Option.bind_some] at h
   obtain ⟨hk1,rfl⟩:=zA4 hk
   cases hb:Nat.blt fresh H.length with
   | false=>simp [hb] at h
   | true =>
    simp only [hb,cond_true] at h
    have hv:v= .int .i64 (k:Int):=by cases hp with | v _ _ _ hp=>cases hp;rfl
    have hcv:cv= .int .i64 (k:Int):=by cases hc with | v _ _ _ hc=>cases hc;rfl
    subst hv hcv
    have hrows:=zyZ (w:=w) (A:=Av A0 μ H) hT hu hut hz k
    have hzs:(yQ u).cells.size=u.size:=by rw [←hsz];exact (zv8 (w:=w) (A:=Av A0 μ H) hT hu hut hz).size
    obtain ⟨T,S',hrep⟩:=zpB (t:=i.elem) (newCap:=k) (rest:= #[]) S F hrows (by simp) (by simp [Builtin.zeroCells,hzs,hsz]) rfl (z8.refl w)
    refine ⟨_,_,_,_,_,?_,T,S',hrep,h⟩
    have hw:IntKind.i64.wrap (k:Int)=k:=by
     have h1:(k:Int)%2 ^ 64=k:=by omega
     simp only [IntKind.wrap,IntKind.signed,IntKind.bits,h1]
     rw [if_neg (by simp;omega)]
    have h1: ¬((281474976710656:Int)<(f.bytes:Int)*k):=by
     rw [hf2]
     have h1:u.bytes*k≤4096*4294967296:=Nat.mul_le_mul hby (by omega)
     have:((u.bytes*k:Nat):Int)=(u.bytes:Int)*k:=by simp
     omega
    have h2: ¬((k:Int)<0):=by omega
    by_cases h0:k=0
    ·subst h0
     have hw0:IntKind.i64.wrap 0=0:=by decide
     simp [Instr.makeSlice,run_underlying hd,asInt,asIntOf,typeInfo,hf,hw0,sizeOf,hf1,newRow,Builtin.zeroCells]
     have hr0:Array.range 0= #[]:=Array.eq_empty_of_size_eq_zero (by simp)
     rw [hr0];simp
    ·simp [Instr.makeSlice,run_underlying hd,asInt,asIntOf,typeInfo,hf,hw,h1,h2,sizeOf,hf1,newRow,h0,hs0,Zl hT hu,Builtin.zeroCells,hzs]
     intro h';exact absurd h' (Nat.mul_ne_zero h0 hs0)
theorem zpM (off:Nat): ∀(xs:List Value) (m:Nat) (cells:Array Value),off+m+xs.length≤cells.size →
  ((xs.zipIdx m).foldl (fun cs x=>cs.setIfInBounds (off+x.2) x.1) cells).toList=V6 cells.toList (off+m) xs
 | [],m,cells,h=>by simp [V6]
 | x::xs,m,cells,h=>by
  simp only [List.zipIdx_cons,List.foldl_cons]
  rw [zpM off xs (m+1) (cells.setIfInBounds (off+m) x) (by simp at h ⊢;omega)]
  simp only [Array.toList_setIfInBounds,V6,List.length_cons]
  have hk:off+m<cells.toList.length:=by simp at h ⊢;omega
  have e1:(cells.toList.set (off+m) x).take (off+(m+1))=cells.toList.take (off+m)++[x]:=by
   rw [show off+(m+1)=off+m+1 by omega,List.take_succ_eq_append_getElem (by simpa using hk)]
   rw [List.take_set_of_le (by omega)]
   simp
  have e2:(cells.toList.set (off+m) x).drop (off+(m+1)+xs.length)=cells.toList.drop (off+m+(xs.length+1)):=by
   rw [List.drop_set_of_lt (by omega)];congr 1;omega
  rw [e1,e2];simp
theorem znZ {R:ze E→Value→Prop} {place:Nat→Option (Nat×Nat)} {place':Nat→Option (Nat×Nat)} (hpl: ∀j x,place j=some x→place' j=some x) :
  ∀ {parts:List (Nat×ze E)} {partsV:List (Nat×Value)} {ps ps':List (ze E)} {cells:Array Value},parts.length=partsV.length →
   (∀(j:Nat) p v,parts[j]? =some p→partsV[j]? =some v→p.1=v.1∧RL R (uB p.2) v.2.cells.toList)→RL R ps cells.toList→zjM place ps parts=some ps' →
   ∃cells',Instr.fill place' cells partsV=some cells'∧RL R ps' cells'.toList
 | [],[],ps,ps',cells,_,_,hr,h=>by simp [zjM] at h;subst h;exact ⟨cells,rfl,hr⟩
 | [],_::_,_,_,_,hl,_,_,_=>by simp at hl
 | _::_,[],_,_,_,hl,_,_,_=>by simp at hl
 | (j,x)::parts,(j',v)::partsV,ps,ps',cells,hl,hp,hr,h=>by
  obtain ⟨hj,hx⟩:=hp 0 _ _ rfl rfl
  simp only at hj hx
  subst hj
  simp only [zjM] at h
  split at h
  ·rename_i off n hpj
   split at h
   ·rename_i hc
    simp only [Bool.and_eq_true] at hc
    have hn:=Nat.eq_of_beq_eq_true hc.1
    have hfit:=Nat.le_of_ble_eq_true hc.2
    have hvs:v.cells.size=n:=by have:=hx.1;rw [hn] at this;simpa using this.symm
    have hcs:ps.length=cells.size:=by have:=hr.1;simpa using this
    have hfold:(v.cells.zipIdx.foldl (fun cs (c,j)=>cs.setIfInBounds (off+j) c) cells).toList=V6 cells.toList off v.cells.toList:=by
     rw [←Array.foldl_toList,Array.toList_zipIdx]
     have:=zpM off v.cells.toList 0 cells (by simp [hvs];omega)
     simpa using this
    obtain ⟨cells',h1,h2⟩:=znZ hpl (parts:=parts) (partsV:=partsV) (by simpa using hl) (fun k p u hk hu=>hp (k+1) p u (by simpa using hk) (by simpa using hu))
     (cells:=v.cells.zipIdx.foldl (fun cs (c,j)=>cs.setIfInBounds (off+j) c) cells) (by
      rw [hfold]
      unfold V6
      rw [←hx.1]
      exact ((hr.take off).append hx).append (hr.drop _)) h
    refine ⟨cells',?_,h2⟩
    simp only [Instr.fill,hpl j _ hpj]
    rw [if_neg (by simp [hvs];omega)]
    exact h1
   ·cases h
  ·cases h
theorem RL.parts {ρ:Operand→ze E} {ρv:Operand→Value} {parts:List (Nat×Operand)} (h: ∀x,Rp E A0 μ H w (ρ x) (ρv x)) (hl:(parts.map fun p=>(p.1,ρ p.2)).all (fun p=>(uB p.2).all ze.leaf)=true) :
  ∀(j:Nat) p v,(parts.map fun p=>(p.1,ρ p.2))[j]? =some p→(parts.map fun p=>(p.1,ρv p.2))[j]? =some v→p.1=v.1∧RL (Rp E A0 μ H w) (uB p.2) v.2.cells.toList:=by
 intro j p v hp hv
 simp only [List.getElem?_map,Option.map_eq_some_iff] at hp hv
 obtain ⟨a,ha,rfl⟩:=hp
 obtain ⟨a',ha',rfl⟩:=hv
 rw [ha] at ha';injection ha' with ha';subst ha'
 refine ⟨rfl,zT.cells (h a.2) ?_⟩
 exact List.all_eq_true.1 hl (a.1,ρ a.2) (List.mem_map.2 ⟨a,List.mem_of_getElem? ha,rfl⟩)
theorem ztq (fs:List Field) (h: ∀f∈fs,P.cellsOf f.type≠0) (w:World):(fs.mapM fun f=>(do pure (f.offset,←sizeOf f.type):Sem (Nat×Nat))).run P w= .ok (fs.map fun f=>(f.offset,P.cellsOf f.type)) w:=by
 induction fs with
 | nil=>simp
 | cons f fs ih =>
  simp only [List.mapM_cons,Sem.run_bind,zkh (h f (by simp)),Result.andThen_ok,Sem.run_pure,ih (fun g hg=>h g (by simp [hg]))]
  rfl
theorem zxS (hT:yx E.leaves P tab=true) {t:Nat} {u:TI} (hu:look tab t=some u):P.cellsOf t=u.size:=by
 obtain ⟨f,h1,h2,_⟩:=zeR hT hu
 simp [Program.cellsOf,h1,h2]
theorem zyE (hT:yx E.leaves P tab=true) {t:Nat} {i:TI} (hi:look tab t=some i) {ρ:Operand→ze E} {ρv:Operand→Value} {parts:List (Nat×Operand)} (S:zM A0 μ H w) (hρ: ∀x,Rp E A0 μ H w (ρ x) (ρv x))
  (h:(zxp tab i (parts.map fun p=>(p.1,ρ p.2))).cps H K=some r):zR P A0 μ H w (Instr.build t (parts.map fun p=>(p.1,ρv p.2)).toArray) K r:=by
 unfold zxp at h
 simp only at h
 split at h
 rotate_left
 ·simp [Dec.cps] at h
 rename_i hleaf
 simp only [Bool.and_eq_true] at hleaf
 obtain ⟨hagg,hleaf⟩:=hleaf
 split at h
 rotate_left
 ·simp [Dec.cps] at h
 rename_i cs hcs
 simp only [Dec.cps] at h
 have hz:=zb9 hT hi
 have hz':(yQ i).cells=(i.zero.map Z.toV).toArray:=by rw [←hz]
 have hrz:RL (Rp E A0 μ H w) (i.zero.map Z.toP) ((i.zero.map Z.toV).toArray).toList:=by simpa using zxQ i.zero
 obtain ⟨d,hd,hdb⟩:=Yd hT hi
 cases d with
 | struct fs =>
  have hdb':=hdb
  simp only [vK,Bool.and_eq_true,decide_eq_true_eq] at hdb'
  obtain ⟨⟨⟨⟨_,h3⟩,h4⟩,h5⟩,_⟩:=hdb'
  have h4': ∀f∈fs.toList,P.cellsOf f.type≠0:=fun f hf e=>by
   have:=List.all_eq_true.1 h4 f hf
   simp [e] at this
  have h5:i.alen=0:=by simpa using h5
  obtain ⟨cells',hf,hr⟩:=znZ (place':=fun j=>(fs.map fun f=>(f.offset,P.cellsOf f.type))[j]?) (fun j x hx=>by
   cases hj:i.fields[j]? with
   | none=>simp [hj,h5] at hx
   | some ft =>
    obtain ⟨off,t'⟩:=ft
    simp only [hj,Option.map_eq_some_iff] at hx
    obtain ⟨u,hu,rfl⟩:=hx
    rw [h3,List.getElem?_map,Option.map_eq_some_iff] at hj
    obtain ⟨f,hf,he⟩:=hj
    simp only [Prod.mk.injEq] at he
    obtain ⟨rfl,rfl⟩:=he
    rw [Array.getElem?_map]
    rw [Array.getElem?_toList] at hf
    simp [hf,zxS hT hu]) (by simp) (RL.parts hρ hleaf) hrz hcs
  refine zR.same S (v:= .agg cells') ?_ (by simpa using zT.aggL hr) h
  have hm:=ztq (P:=P) fs.toList h4' w
  simp only [Instr.build,Sem.run_bind,Zl hT hi,Result.andThen_ok,run_underlying hd,hz']
  rw [Array.mapM_eq_mapM_toList]
  simp only [Sem.run_map,hm,Result.andThen_ok]
  have e:(List.map (fun f:Field=>(f.offset,P.cellsOf f.type)) fs.toList).toArray=fs.map fun f=>(f.offset,P.cellsOf f.type):=by
   apply Array.ext';simp
  rw [e,hf]
  rfl
 | array n e =>
  have hdb':=hdb
  simp only [vK,Bool.and_eq_true] at hdb'
  obtain ⟨⟨⟨⟨⟨_,h3⟩,h4⟩,h5⟩,h6⟩,_⟩:=hdb'
  have h3:=Nat.eq_of_beq_eq_true h3
  have h4:=Nat.eq_of_beq_eq_true h4
  subst h3 h4
  have h5:i.fields=[]:=by simpa using h5
  cases hu:look tab i.elem with
  | none=>simp [hu] at h6
  | some u =>
   obtain ⟨cells',hf,hr⟩:=znZ (place':=fun j=>some (j*u.size,u.size)) (fun j x hx=>by
    simp only [h5,hu] at hx
    simp at hx
    obtain ⟨_,rfl⟩:=hx
    rfl) (by simp) (RL.parts hρ hleaf) hrz hcs
   refine zR.same S (v:= .agg cells') ?_ (by simpa using zT.aggL hr) h
   simp only [Instr.build,Sem.run_bind,Zl hT hi,Result.andThen_ok,run_underlying hd,yC hT hu,hz']
   rw [hf]
   rfl
 | _ =>
  exfalso
  have ha:i.agg=false:=by simp only [vK,Bool.and_eq_true,Bool.not_eq_true'] at hdb;first | exact hdb.1 | exact hdb.1.1 | exact hdb.1.1.1 | exact hdb.1.1.1.1 | cases hdb
  rw [ha] at hagg;cases hagg
end
end Go.Pe
namespace Go.Pe
variable {E:yg}
section
variable {P:Program} {tab:List (Nat×TI)} {A0:Nat→Prop} {μ:Nat→Loc} {H:List (Blk E)} {w:World} {R:Type} {K:ze E→List (Blk E)→Option R} {r:R}
theorem zow {p:ze E} {v:Value} {cs:List (ze E)} (hp:Rp E A0 μ H w p v) (h:zpc p=some cs): ∃vs,v= .agg vs∧RL (Rp E A0 μ H w) cs vs.toList:=by
 cases hp with
 | agg ps vs hs hr=>simp [zpc] at h;subst h;exact ⟨vs,rfl,RL.of_idx hs hr⟩
 | v τ x v hv =>
  cases hv with
  | named n vs x hs hr =>
   simp [zpc] at h;subst h
   refine ⟨vs,rfl,?_⟩
   have:=zT.cells (U:=Us H) (μ:=μ) (zT.v (E:=E) (w:=w) (A:=Av A0 μ H) (.named n) x (.agg vs) (.named n vs x hs hr)) (by
    refine List.all_eq_true.2 fun p hp=> ?_
    obtain ⟨j,hj,rfl⟩:=List.getElem_of_mem hp
    have hlen:=HL.toP_len (E:=E) (E.leaves n) (E.unpack n x)
    have hj':j<(E.leaves n).length:=by rw [←hlen];exact hj
    have:=HL.toP_get (E.leaves n) (E.unpack n x) j hj'
    obtain ⟨_,e⟩:=List.getElem?_eq_some_iff.1 this
    simp only [uB] at hj ⊢
    rw [e]
    exact zx2 n j hj')
   exact this
  | _=>simp [zpc] at h
 | _=>simp [zpc] at h
theorem zy6 (hT:yx E.leaves P tab=true) {t:Nat} {s:TI} (hs:look tab t=some s) {p:ze E} {v:Value} {f:Nat} (S:zM A0 μ H w) (hp:Rp E A0 μ H w p v)
  (h:(zxs tab s p f).cps H K=some r):zR P A0 μ H w (Instr.field t v f) K r:=by
 unfold zxs at h
 split at h
 rotate_left
 ·simp [Dec.cps] at h
 rename_i off t' hf
 split at h
 rotate_left
 ·simp [Dec.cps] at h
 rename_i i hi
 split at h
 rotate_left
 ·simp [Dec.cps] at h
 rename_i cs hcs
 obtain ⟨fs,fld,h1,h2,h3,h4,h5⟩:=zy1 hT hs hf
 subst h3 h4
 obtain ⟨vs,rfl,hr⟩:=zow hp hcs
 obtain ⟨hl,q,hq,hk⟩:=zh6 h (zd8 hr fld.offset i.size)
 refine zR.same S ?_ hq hk
 have hsub:Pe.sub vs.toList fld.offset i.size=(vs.extract fld.offset (fld.offset+i.size)).toList:=by
  simp [Pe.sub,List.extract_eq_take_drop]
 simp only [Instr.field,Sem.run_bind,run_underlying h1,Result.andThen_ok,h2,asAgg,Sem.run_pure,part,ziP hT hi,yC hT hi]
 cases ha:i.agg with
 | true =>
  have hsub':vs.extract fld.offset (fld.offset+i.size)=(Pe.sub vs.toList fld.offset i.size).toArray:=by rw [hsub]
  simp only [if_true,Sem.run_bind,yC hT hi,Result.andThen_ok,Sem.run_pure,hsub']
 | false =>
  have h1:=zdB hT hi ha
  rw [h1] at hl
  simp only [Bool.false_eq_true,if_false]
  have hlt:fld.offset<vs.size:=by
   simp only [Pe.sub,h1,List.length_take,List.length_drop,Array.length_toList] at hl
   omega
  have e:(Pe.sub vs.toList fld.offset i.size).headD undef=vs[fld.offset]:=by
   simp only [Pe.sub,h1]
   rw [List.drop_eq_getElem_cons (by simpa using hlt)]
   simp
  rw [e,Array.getElem?_eq_getElem hlt]
  rfl
theorem zBh (hT:yx E.leaves P tab=true) {t:Nat} {i:TI} (hi:look tab t=some i) {type:TypeId} {at_:Array TypeId} {av:Array Value} (hat:at_[0]? =some t) {p:ze E} {v:Value} (hav:av[0]? =some v) (S:zM A0 μ H w) (hp:Rp E A0 μ H w p v)
  (h:(zDT i p).cps H K=some r):zR P A0 μ H w (Builtin.len_ at_ type av) K r:=by
 have fin: ∀ {n:Nat} {base:Option Addr} {cap:Nat},P.underlying t=some (.slice i.elem)→v= .slice base n cap→K (.v (.int .i64) (n:Int)) H=some r→zR P A0 μ H w (Builtin.len_ at_ type av) K r:=by
  intro n base cap hd hv hk
  subst hv
  refine zR.same S (v:= .int .i64 n) ?_ (.v _ _ _ (.int .i64 _)) hk
  simp [Builtin.len_,hat,hav,run_underlying hd,goInt]
 unfold zDT at h
 split at h
 ·rename_i hsl
  have hd:=zou hT hi hsl
  split at h
  ·cases hp with
   | v τ x v hv=>obtain ⟨a,c,rfl⟩:=zvv hv;exact fin hd rfl h
  ·cases hp with
   | full e l a hv=>exact fin hd rfl h
  ·cases hp with
   | nils a=>exact fin (n:=0) hd rfl h
  ·cases hp with
   | bsl id n b hU hμ=>exact fin hd rfl h
  ·rename_i id
   simp only [Dec.cps] at h
   have ok:=S.ok id
   cases hB:zi H id with
   | row wr e l =>
    rw [hB] at h ok
    cases hp with
    | own id b off len cap hU hμ =>
     rw [hμ] at ok
     rcases ok with ⟨b',off',cap',c,vs,hl,_⟩ | ⟨_,a,hl⟩
     ·injection hl with e1 e2 e3 e4;subst e1 e2 e3 e4
      exact fin hd rfl h
     ·cases hl
    | own0 id a a2 hU hμ =>
     rw [hμ] at ok
     rcases ok with ⟨b',off',cap',c,vs,hl,_⟩ | ⟨rfl,_⟩
     ·cases hl
     ·exact fin (n:=0) hd rfl h
   | _=>rw [hB] at h;simp [Dec.cps] at h
  ·simp [Dec.cps] at h
 ·split at h
  rotate_left
  ·simp [Dec.cps] at h
  rename_i hty
  have hd:P.underlying t=some .string:=by
   obtain ⟨d,g1,g2⟩:=Yd hT hi
   have hty:=YP hty
   cases d<;>simp_all [vK]
  split at h
  rotate_left
  ·simp [Dec.cps] at h
  cases hp with
  | v τ x v hv =>
   cases hv with
   | str s' =>
    refine zR.same S (v:= .int .i64 _) ?_ (.v _ _ _ (.int .i64 _)) h
    simp [Builtin.len_,hat,hav,run_underlying hd,goInt]
end
end Go.Pe
namespace Go.Pe
variable {E:yg}
theorem wrap_i64 (n:Int):IntKind.i64.wrap n=w64 n:=by rw [IntKind.wrap_i64,zqt]
theorem wrap_i32 (n:Int):IntKind.i32.wrap n=w32 n:=by rw [IntKind.wrap_i32,zEO]
theorem wrap_u64 (n:Int):IntKind.u64.wrap n=((BitVec.ofInt 64 n).toNat:Int):=by
 rw [IntKind.wrap_u64,BitVec.toNat_ofInt]
 omega
theorem wrap_u8 (n:Int):IntKind.u8.wrap n=((BitVec.ofInt 8 n).toNat:Int):=by
 rw [IntKind.wrap_u8,BitVec.toNat_ofInt]
 omega
theorem WJ (b:BitVec 64):BitVec.ofInt 64 (b.toNat:Int)=b:=by
 apply BitVec.eq_of_toNat_eq
 rw [BitVec.toNat_ofInt]
 have:=b.isLt
 omega
theorem Uu (b:BitVec 64):IntKind.u64.wrap (b.toNat:Int)=(b.toNat:Int):=by rw [wrap_u64,WJ]
section
variable {P:Program} {w:World}
theorem zEF {k:IntKind} {a b:zN k}:(toZ k a=toZ k b)↔a=b:=by
 cases k<;>simp only [toZ]<;>first | rfl | (constructor<;>intro h<;>first | (subst h;rfl) | (apply BitVec.eq_of_toNat_eq;omega))
theorem zx0 {k:IntKind} (a b:zN k):ieq k a b=decide (toZ k a=toZ k b):=by
 cases k<;>simp only [ieq,decide_eq_decide]<;>exact zEF.symm
theorem zwz {k:IntKind} {b:zN k} (h:zm2 k b=false):toZ k b≠0:=by
 intro e
 rw [zm2,zx0,decide_eq_false_iff_not] at h
 exact h (e.trans (by cases k<;>rfl))
theorem zCK {k:IntKind} {a b c:zN k} (h:zC1 k a b=some c):(Op.intArith .add k (toZ k a) (toZ k b)).run P w= .ok (.int k (toZ k c)) w:=by
 cases k<;>simp [zC1] at h<;>subst h<;>simp [Op.intArith,toZ]
 ·exact wrap_i32 _
 ·exact wrap_i64 _
 ·rw [IntKind.wrap_u8]
 ·rw [IntKind.wrap_u64]
theorem zDK {k:IntKind} {a b c:zN k} (h:zDh k a b=some c):(Op.intArith .sub k (toZ k a) (toZ k b)).run P w= .ok (.int k (toZ k c)) w:=by
 cases k<;>simp [zDh] at h<;>subst h<;>simp [Op.intArith,toZ]
 ·exact wrap_i32 _
 ·exact wrap_i64 _
 ·rw [IntKind.wrap_u64];have:=b.isLt;omega
theorem zDb {k:IntKind} {a b c:zN k} (h:zCQ k a b=some c):(Op.intArith .mul k (toZ k a) (toZ k b)).run P w= .ok (.int k (toZ k c)) w:=by
 cases k<;>simp [zCQ] at h<;>subst h<;>simp [Op.intArith,toZ]
 ·exact wrap_i64 _
 ·rw [IntKind.wrap_u64]
theorem zzG (b:BitVec 8):IntKind.u8.wrap (b.toNat:Int)=(b.toNat:Int):=by rw [IntKind.wrap_u8];have:=b.isLt;omega
theorem ziQ (b:BitVec 64):IntKind.i64.wrap (b.toNat:Int)=b.toInt:=by
 rw [IntKind.wrap_i64,BitVec.toInt]
 have:=b.isLt
 split<;>omega
theorem zDS {k:IntKind} {a b c:zN k} (hz:zm2 k b=false) (h:zvs k a b=some c):(Op.intDiv .quo k (toZ k a) (toZ k b)).run P w= .ok (.int k (toZ k c)) w:=by
 have hz:=zwz hz
 cases k with
 | i64 =>
  simp [zvs] at h;subst h;simp only [Op.intDiv,if_neg hz,Sem.run_pure]
  congr 2;exact wrap_i64 _
 | u64 =>
  simp [zvs] at h;subst h;simp only [Op.intDiv,if_neg hz,Sem.run_pure]
  congr 2
  rw [show Int.tdiv (toZ .u64 a) (toZ .u64 b)=(((a/b:BitVec 64).toNat:Nat):Int) by simp [toZ,Int.ofNat_tdiv]]
  exact Uu _
 | u8 =>
  simp [zvs] at h;subst h;simp only [Op.intDiv,if_neg hz,Sem.run_pure]
  congr 2
  rw [show Int.tdiv (toZ .u8 a) (toZ .u8 b)=(((a/b:BitVec 8).toNat:Nat):Int) by simp [toZ,Int.ofNat_tdiv]]
  exact zzG _
 | _=>simp [zvs] at h
theorem zDZ {k:IntKind} {a b c:zN k} (hz:zm2 k b=false) (h:zDg k a b=some c):(Op.intDiv .rem k (toZ k a) (toZ k b)).run P w= .ok (.int k (toZ k c)) w:=by
 have hz:=zwz hz
 cases k<;>simp [zDg] at h<;>subst h<;>simp only [Op.intDiv,if_neg hz,Sem.run_pure]<;>congr 2
theorem zDc {k:IntKind} {a b c:zN k} (h:zDi k a b=some c):(Op.intBits .and k (toZ k a) (toZ k b)).run P w= .ok (.int k (toZ k c)) w:=by
 cases k<;>simp [zDi] at h<;>subst h
 ·simp only [Op.intBits,Sem.run_pure,toZ,IntKind.bits,ziQ,zxH];rfl
 ·simp only [Op.intBits,Sem.run_pure,toZ,IntKind.bits,WJ,Uu];rfl
theorem zEH {k:IntKind} {a b c:zN k} (h:ior k a b=some c):(Op.intBits .or k (toZ k a) (toZ k b)).run P w= .ok (.int k (toZ k c)) w:=by
 cases k<;>simp [ior] at h<;>subst h
 ·simp only [Op.intBits,Sem.run_pure,toZ,IntKind.bits,ziQ,zEo];rfl
 ·simp only [Op.intBits,Sem.run_pure,toZ,IntKind.bits,WJ,Uu];rfl
theorem zDP {k:IntKind} {a b c:zN k} (h:zCS k a b=some c):(Op.intBits .xor k (toZ k a) (toZ k b)).run P w= .ok (.int k (toZ k c)) w:=by
 cases k<;>simp [zCS] at h<;>subst h
 ·simp only [Op.intBits,Sem.run_pure,toZ,IntKind.bits,ziQ,zDM];rfl
 ·simp only [Op.intBits,Sem.run_pure,toZ,IntKind.bits,WJ,Uu];rfl
theorem zzJ {k:IntKind} {a b c:zN k} (h:zvo k a b=some c):(Op.intBits .andNot k (toZ k a) (toZ k b)).run P w= .ok (.int k (toZ k c)) w:=by
 cases k<;>simp [zvo] at h<;>subst h
 ·simp only [Op.intBits,Sem.run_pure,toZ,IntKind.bits,ziQ,zzm];rfl
 ·simp only [Op.intBits,Sem.run_pure,toZ,IntKind.bits,WJ,Uu];rfl
theorem zDD {k yk:IntKind} {a c:zN k} {n:Int} (hn:0≤n) (h:zyR k a (min n.toNat k.bits)=some c):(Op.shift .shl k (toZ k a) yk n).run P w= .ok (.int k (toZ k c)) w:=by
 cases k<;>simp [zyR] at h
 subst h
 rw [shift_shl_any _ _ _ _ hn]
 simp only [Sem.run_pure,toZ]
 congr 2
 rw [IntKind.wrap_u64,BitVec.toNat_shiftLeft,Nat.shiftLeft_eq]
 rw [Int.natCast_emod,Int.natCast_mul,Int.natCast_pow]
 rfl
theorem zDe {k yk:IntKind} {a c:zN k} {n:Int} (hn:0≤n) (h:zyL k a (min n.toNat k.bits)=some c):(Op.shift .shr k (toZ k a) yk n).run P w= .ok (.int k (toZ k c)) w:=by
 cases k<;>simp [zyL] at h
 subst h
 rw [shift_shr_any _ _ _ _ hn]
 simp only [Sem.run_pure,toZ]
 congr 2
 rw [BitVec.toNat_ushiftRight,Nat.shiftRight_eq_div_pow]
 rw [Int.natCast_ediv,Int.natCast_pow]
 rfl
theorem zBD {k:IntKind} (a b:zN k):ilt k a b=decide (toZ k a<toZ k b):=by
 cases k<;>simp only [ilt,decide_eq_decide,toZ]<;>first | rfl | (rw [BitVec.lt_def];omega)
theorem zB0 {k:IntKind} (a b:zN k):ile k a b=decide (toZ k a≤toZ k b):=by
 cases k<;>simp only [ile,decide_eq_decide,toZ]<;>first | rfl | (rw [BitVec.le_def];omega)
theorem zEG {k:IntKind} (a b:zN k):(Op.intCmp .lss (toZ k a) (toZ k b)).run P w= .ok (.bool (ilt k a b)) w:=by simp [Op.intCmp,zBD]
theorem zEb {k:IntKind} (a b:zN k):(Op.intCmp .leq (toZ k a) (toZ k b)).run P w= .ok (.bool (ile k a b)) w:=by simp [Op.intCmp,zB0]
theorem zEM {k:IntKind} (a b:zN k):(Op.intCmp .gtr (toZ k a) (toZ k b)).run P w= .ok (.bool (ilt k b a)) w:=by simp [Op.intCmp,zBD]
theorem zEf {k:IntKind} (a b:zN k):(Op.intCmp .geq (toZ k a) (toZ k b)).run P w= .ok (.bool (ile k b a)) w:=by simp [Op.intCmp,zB0]
theorem zCZ {k k':IntKind} {x:zN k} {y:zN k'} (h:zAY k k' x=some y):k'.wrap (toZ k x)=toZ k' y:=by
 have hb8: ∀x:BitVec 8,x.toNat<256:=fun x=>x.isLt
 have hb64: ∀x:BitVec 64,x.toNat<18446744073709551616:=fun x=>x.isLt
 have e1: ∀x:BitVec 8,IntKind.i64.wrap (x.toNat:Int)=(x.toNat:Int):=fun x=>by rw [IntKind.wrap_i64];have:=hb8 x;omega
 have e2: ∀x:BitVec 8,IntKind.i32.wrap (x.toNat:Int)=(x.toNat:Int):=fun x=>by rw [IntKind.wrap_i32];have:=hb8 x;omega
 have e3: ∀x:BitVec 8,IntKind.u8.wrap (x.toNat:Int)=(x.toNat:Int):=fun x=>by rw [IntKind.wrap_u8];have:=hb8 x;omega
 have e4: ∀x:BitVec 8,IntKind.u64.wrap (x.toNat:Int)=((x.setWidth 64).toNat:Int):=fun x=>by
  rw [IntKind.wrap_u64,BitVec.toNat_setWidth];have:=hb8 x;omega
 have e5: ∀x:BitVec 64,IntKind.i64.wrap (x.toNat:Int)=x.toInt:=fun x=>by
  rw [IntKind.wrap_i64,BitVec.toInt_eq_toNat_cond];have:=hb64 x;split<;>omega
 cases k<;>cases k'<;>simp only [zAY,Option.some.injEq,reduceCtorEq] at h
 all_goals subst h
 ·exact wrap_i32 _
 ·exact wrap_i64 _
 ·exact wrap_i32 _
 ·exact wrap_i64 _
 ·exact wrap_u8 _
 ·exact wrap_u64 _
 ·exact e2 _
 ·exact e1 _
 ·exact e3 _
 ·exact e4 _
 ·exact e5 _
 ·exact Uu _
end
end Go.Pe
namespace Go.Pe
variable {E:yg}
section
variable {P:Program} {tab:List (Nat×TI)} {A0:Nat→Prop} {μ:Nat→Loc} {H:List (Blk E)} {w:World} {R:Type} {K:ze E→List (Blk E)→Option R} {r:R}
def zlI (i:TI) (vs:List Value):Value:=if i.agg then .agg vs.toArray else vs.headD undef
theorem zov (hT:yx E.leaves P tab=true) {t:Nat} {i:TI} (hi:look tab t=some i) (vs:List Value) (off:Nat) (hl:i.agg=false→sub vs off i.size≠[]) :
  (part t vs.toArray off).run P w= .ok (zlI i (sub vs off i.size)) w:=by
 simp only [part,Sem.run_bind,ziP hT hi,Result.andThen_ok]
 cases ha:i.agg with
 | true =>
  simp only [if_true,Sem.run_bind,yC hT hi,Result.andThen_ok,Sem.run_pure,zlI,ha]
  congr 2
  simp [sub,List.extract_eq_take_drop]
 | false =>
  have h1:=zdB hT hi ha
  have hl:=hl ha
  simp only [Bool.false_eq_true,if_false,zlI,ha]
  have hlt:off<vs.length:=by
   by_cases h:off<vs.length
   ·exact h
   ·exact absurd (by simp [sub,List.drop_eq_nil_of_le (by omega:vs.length≤off)]) hl
  have e:(sub vs off i.size).headD undef=vs[off]:=by
   simp only [sub,h1]
   rw [List.drop_eq_getElem_cons hlt]
   rfl
  rw [e]
  simp [hlt]
theorem zwq {a:Option Bool} {l:List (Option Bool)} {b:Bool} (h:zhL (a::l)=some b): ∃x y,a=some x∧zhL l=some y∧b=(x&&y):=by
 cases l with
 | nil =>
  simp only [zhL] at h
  exact ⟨b,true,h,rfl,by simp⟩
 | cons c l =>
  simp only [zhL] at h
  split at h
  ·rename_i x y h2
   exact ⟨x,y,rfl,h2,by simpa using h.symm⟩
  ·cases h
theorem zxm (d:Nat) (xs ys:Array Value) (g:Nat×Nat→Option Bool): ∀(fs:List Field) (b:Bool),(∀f∈fs,f.name ≠ "_") →
  (∀f∈fs,∀c,g (f.offset,f.type)=some c→∃x y,(part f.type xs f.offset).run P w= .ok x w∧(part f.type ys f.offset).run P w= .ok y w∧(Op.equalIn d f.type x y).run P w= .ok c w) →
  zhL ((fs.map fun f=>(f.offset,f.type)).map g)=some b→(Op.eqFields d xs ys fs).run P w= .ok b w:=by
 intro fs
 induction fs with
 | nil=>intro b _ _ h;simp [zhL] at h;subst h;simp [Op.eqFields]
 | cons f fs ih =>
  intro b hn hg h
  obtain ⟨x,y,h1,h2,rfl⟩:=zwq (by simpa using h)
  obtain ⟨u,v,e1,e2,e3⟩:=hg f (by simp) x h1
  simp only [Op.eqFields,if_pos (hn f (by simp)),Sem.run_bind,e1,e2,e3,Result.andThen_ok]
  cases x with
  | true =>
   simp only [Bool.not_true,Bool.false_eq_true,if_false,Bool.true_and]
   exact ih y (fun f hf=>hn f (by simp [hf])) (fun f hf=>hg f (by simp [hf])) (by simpa using h2)
  | false=>simp
theorem zur (a b:ByteArray):(a.toList==b.toList)=decide (a=b):=by
 rw [ByteArray.toList_eq,ByteArray.toList_eq,Bool.eq_iff_iff]
 simp only [beq_iff_eq,decide_eq_true_eq]
 constructor
 ·intro h
  obtain ⟨⟨x⟩⟩:=a
  obtain ⟨⟨y⟩⟩:=b
  simp at h
  subst h;rfl
 ·rintro rfl;rfl
theorem zBw {t D:Nat} {x y z} (hf:P.underlying t=some (.func x y z)):(Op.equalIn (D+1) t .nilFunc .nilFunc).run P w= .ok true w:=by
 simp only [Op.equalIn,Sem.run_bind,run_underlying hf,Result.andThen_ok,Sem.run_pure]
theorem zCq {t D:Nat} {x y z} (hf:P.underlying t=some (.func x y z)) (f:Fn) (a b:Array Value):(Op.equalIn (D+1) t .nilFunc (.func f a b)).run P w= .ok false w:=by
 simp only [Op.equalIn,Sem.run_bind,run_underlying hf,Result.andThen_ok,Sem.run_pure]
theorem zCD {t D:Nat} {x y z} (hf:P.underlying t=some (.func x y z)) (f:Fn) (a b:Array Value):(Op.equalIn (D+1) t (.func f a b) .nilFunc).run P w= .ok false w:=by
 simp only [Op.equalIn,Sem.run_bind,run_underlying hf,Result.andThen_ok,Sem.run_pure]
theorem zEd (hT:yx E.leaves P tab=true) {t:Nat} {i:TI} (hi:look tab t=some i) (h:i.ty=some .bool):P.underlying t=some .bool:=by
 obtain ⟨d,hd,h2⟩:=Yd hT hi
 cases d<;>simp_all [vK]
theorem zCI (hT:yx E.leaves P tab=true) {t:Nat} {i:TI} (hi:look tab t=some i) (h:i.ty=some .str):P.underlying t=some .string:=by
 obtain ⟨d,hd,h2⟩:=Yd hT hi
 cases d<;>simp_all [vK]
theorem zB3 (hT:yx E.leaves P tab=true) {t:Nat} {i:TI} {k:IntKind} (hi:look tab t=some i) (h:i.ty=some (.int k)):P.underlying t=some (.int k):=by
 obtain ⟨d,hd,h2⟩:=Yd hT hi
 cases d<;>simp_all [vK]
theorem zs6 (hT:yx E.leaves P tab=true) {t:Nat} {i:TI} (hi:look tab t=some i) (D:Nat) {p q:ze E} {u v:Value} {b:Bool}
  (hp:Rp E A0 μ H w p u) (hq:Rp E A0 μ H w q v) (h:zpz i p q=some b):(Op.equalIn (D+1) t u v).run P w= .ok b w:=by
 unfold zpz at h
 split at h
 ·split at h
  rotate_left
  ·cases h
  rename_i a b' hty
  have hd:=zEd hT hi (YP hty)
  cases hp with | v _ _ _ hp=>cases hp with | bool _ =>
  cases hq with | v _ _ _ hq=>cases hq with | bool _ =>
  simp at h;subst h
  rw [run_equalIn_bool' _ _ _ _ _ hd,Bool.beq_eq_decide_eq]
 ·split at h
  rotate_left
  ·cases h
  rename_i k a k' b' hty
  have hd:=zB3 hT hi (YP hty)
  cases hp with | v _ _ _ hp=>cases hp with | int _ _ =>
  cases hq with | v _ _ _ hq=>cases hq with | int _ _ =>
  simp only [Option.map_eq_some_iff] at h
  obtain ⟨c,hc,rfl⟩:=h
  obtain ⟨hk,hk2⟩:=xL hc
  cases hk
  have hk2:b'=c:=hk2
  subst hk2
  rw [run_equalIn_int _ _ _ _ _ _ _ hd,zx0]
  rfl
 ·split at h
  rotate_left
  ·cases h
  rename_i a b' hty
  have hd:=zCI hT hi (YP hty)
  cases hp with | v _ _ _ hp=>cases hp with | str _ =>
  cases hq with | v _ _ _ hq=>cases hq with | str _ =>
  simp at h;subst h
  rw [run_equalIn_string _ _ _ _ _ hd,zur]
 ·split at h
  rotate_left
  ·cases h
  rename_i hk
  obtain ⟨x,y,z,hf⟩:=zAJ hT hi hk
  cases hp;cases hq
  simp at h;subst h
  exact zBw hf
 ·split at h
  rotate_left
  ·cases h
  rename_i hk
  obtain ⟨x,y,z,hf⟩:=zAJ hT hi hk
  cases hp;cases hq
  simp at h;subst h
  exact zCq hf _ _ _
 ·split at h
  rotate_left
  ·cases h
  rename_i hk
  obtain ⟨x,y,z,hf⟩:=zAJ hT hi hk
  cases hp;cases hq
  simp at h;subst h
  exact zCD hf _ _ _
 ·cases h
theorem zzt (d:Nat) (e c:Nat) (xs ys:Array Value) (g:Nat→Option Bool): ∀(is:List Nat) (b:Bool),
  (∀j∈is,∀r,g j=some r→∃x y,(part e xs (j*c)).run P w= .ok x w∧(part e ys (j*c)).run P w= .ok y w∧(Op.equalIn d e x y).run P w= .ok r w) →
  zhL (is.map g)=some b→(Op.eqItems d e c xs ys is).run P w= .ok b w:=by
 intro is
 induction is with
 | nil=>intro b _ h;simp [zhL] at h;subst h;simp [Op.eqItems]
 | cons j is ih =>
  intro b hg h
  obtain ⟨x,y,h1,h2,rfl⟩:=zwq (by simpa using h)
  obtain ⟨u,v,e1,e2,e3⟩:=hg j (by simp) x h1
  have:=ih y (fun k hk=>hg k (List.mem_cons_of_mem _ hk)) h2
  simp only [Op.eqItems,Sem.run_bind,e1,e2,e3,Result.andThen_ok]
  cases x with
  | false=>simp
  | true=>simpa using this
theorem zEV (hT:yx E.leaves P tab=true): ∀(d:Nat) {t:Nat} {i:TI} {ps qs:List (ze E)} {us vs:List Value} {b:Bool} (D:Nat),d≤D→look tab t=some i →
  RL (Rp E A0 μ H w) ps us→RL (Rp E A0 μ H w) qs vs→eqT tab d i ps qs=some b →
  (Op.equalIn D t (zlI i us) (zlI i vs)).run P w= .ok b w∧(i.agg=false→us≠[]∧vs≠[]):=by
 intro d
 induction d with
 | zero=>intro t i ps qs us vs b D _ _ _ _ h;simp [eqT] at h
 | succ d ih =>
  intro t i ps qs us vs b D hD hi hp hq h
  obtain ⟨D,rfl⟩: ∃D',D=D'+1:=⟨D-1,by omega⟩
  have hD:d≤D:=by omega
  simp only [eqT] at h
  cases ha:i.agg with
  | true =>
   simp only [ha,if_true] at h
   split at h
   rotate_left
   ·cases h
   rename_i hc
   split at h
   rotate_left
   ·rename_i h0
    have h0:i.alen≠0:=fun e=>h0 (by simp [e])
    split at h
    rotate_left
    ·cases h
    rename_i u hu
    refine ⟨?_,by simp⟩
    have hd:=zup hT hi ha h0
    obtain ⟨f,hf,hsz,_,_⟩:=zeR hT hu
    have hc:P.cellsOf i.elem=u.size:=by simp [Program.cellsOf,hf,hsz]
    simp only [zlI,ha,if_true]
    rw [run_equalIn_array w D us.toArray vs.toArray hd hf,hc]
    refine zzt D i.elem u.size us.toArray vs.toArray _ _ b ?_ h
    intro j _ c hjc
    obtain ⟨k1,k2⟩:=ih D hD hu (zd8 hp (j*u.size) u.size) (zd8 hq (j*u.size) u.size) hjc
    exact ⟨_,_,zov hT hu us (j*u.size) (fun h=>(k2 h).1),zov hT hu vs (j*u.size) (fun h=>(k2 h).2),k1⟩
   rename_i h0
   have h0:=Nat.eq_of_beq_eq_true h0
   refine ⟨?_,by simp⟩
   obtain ⟨dd,hd,h2⟩:=Yd hT hi
   obtain ⟨g1,g2⟩:=zBY hT hi hc
   cases dd with
   | struct fs =>
    simp only [vK,Bool.and_eq_true,decide_eq_true_eq] at h2
    obtain ⟨⟨⟨⟨_,h3⟩,h4⟩,_⟩,_⟩:=h2
    obtain ⟨g3,g4⟩:=g2 fs hd
    have hfo:P.fieldsOf t=fs:=by simp [Program.fieldsOf,hd]
    simp only [zlI,ha,if_true]
    rw [run_equalIn_struct w D t us.toArray vs.toArray (by rw [hfo];exact hd) g3,hfo]
    rw [h3] at h
    refine zxm D us.toArray vs.toArray _ fs.toList b g4 ?_ h
    intro f hf c hfc
    simp only at hfc
    split at hfc
    rotate_left
    ·cases hfc
    rename_i u hu
    obtain ⟨k1,k2⟩:=ih D hD hu (zd8 hp f.offset u.size) (zd8 hq f.offset u.size) hfc
    exact ⟨_,_,zov hT hu us f.offset (fun h=>(k2 h).1),zov hT hu vs f.offset (fun h=>(k2 h).2),k1⟩
   | array n e =>
    simp only [vK,Bool.and_eq_true] at h2
    have h5:i.alen=n:=Nat.eq_of_beq_eq_true h2.1.1.1.1.2
    have h6:i.size=0:=by
     have:=h2.1.2
     split at this
     ·simp only [Bool.and_eq_true] at this
      have:=Nat.eq_of_beq_eq_true this.1
      rw [this,←h5,h0];simp
     ·cases this
    have h7:i.fields=[]:=by simpa using h2.1.1.2
    rw [h7] at h
    simp [zhL] at h
    subst h
    simp only [zlI,ha,if_true,Op.equalIn,Sem.run_bind,run_underlying hd,Result.andThen_ok]
    have h8:n=0:=by omega
    subst h8
    have: ∃u,look tab e=some u:=by
     have:=h2.1.2
     split at this
     ·rename_i u hu;exact ⟨u,hu⟩
     ·cases this
    obtain ⟨u,hu⟩:=this
    simp [yC hT hu]
   | _=>simp [vK,ha] at h2
  | false =>
   simp only [ha,Bool.false_eq_true,if_false] at h
   split at h
   rotate_left
   ·cases h
   rename_i p q
   obtain ⟨u,rfl⟩: ∃u,us=[u]:=by
    have:=hp.1
    match us,this with
    | [u],_=>exact ⟨u,rfl⟩
   obtain ⟨v,rfl⟩: ∃v,vs=[v]:=by
    have:=hq.1
    match vs,this with
    | [v],_=>exact ⟨v,rfl⟩
   refine ⟨?_,by simp⟩
   replace hp:=hp.2 0 p u rfl rfl
   replace hq:=hq.2 0 q v rfl rfl
   simp only [zlI,ha,Bool.false_eq_true,if_false,List.headD_cons]
   exact zs6 hT hi D hp hq h
end
end Go.Pe
namespace Go.Pe
variable {E:yg}
section
variable {P:Program} {tab:List (Nat×TI)} {A0:Nat→Prop} {μ:Nat→Loc} {H:List (Blk E)} {w:World} {R:Type} {K:ze E→List (Blk E)→Option R} {r:R}
def zfg (op:BinOp) (t:Nat) (x y:Operand) (u v:Value):Sem Value:=do eqGuard op t x y u v;binOp op t u v
def zyD:Value→Prop
 | .nilIface=>False | .agg _=>False | _=>True
theorem zwC (op:BinOp) (t:Nat) (x y:Operand) {u v:Value} (h:zyD u):(eqGuard op t x y u v).run P w= .ok () w:=by
 cases u<;>first | exact absurd h id | (cases op<;>rfl)
theorem yh (op:BinOp) (t:Nat) (x y:Operand) {u v:Value} (h:zyD u):(zfg op t x y u v).run P w=(binOp op t u v).run P w:=by
 simp only [zfg,Sem.run_bind,zwC op t x y h,Result.andThen_ok]
theorem zET {d:Nat} {i:TI} {a c:List (ze E)} {b:Bool} (ha:i.agg=true) (h:eqT tab (d+1) i a c=some b):i.cmp=true:=by
 simp only [eqT,ha,if_true] at h
 split at h
 ·assumption
 ·cases h
theorem zzQ {k yk:IntKind} {a c:zN k} {n:Int} (t:Nat) (hn:0≤n) (h:zyR k a (min n.toNat k.bits)=some c):(binOp .shl t (.int k (toZ k a)) (.int yk n)).run P w= .ok (.int k (toZ k c)) w :=
 zDD (yk:=yk) hn h
theorem zzY {k yk:IntKind} {a c:zN k} {n:Int} (t:Nat) (hn:0≤n) (h:zyL k a (min n.toNat k.bits)=some c):(binOp .shr t (.int k (toZ k a)) (.int yk n)).run P w= .ok (.int k (toZ k c)) w :=
 zDe (yk:=yk) hn h
theorem zz9 (hT:yx E.leaves P tab=true) {t:Nat} {i:TI} (hi:look tab t=some i) {p q:ze E} {u v:Value} {b:Bool}
  (hp:Rp E A0 μ H w p u) (hq:Rp E A0 μ H w q v) (h:eqD tab i p q=some b) (x y:Operand) :
  (zfg .eql t x y u v).run P w= .ok (.bool b) w∧(zfg .neq t x y u v).run P w= .ok (.bool !b) w:=by
 unfold eqD at h
 split at h
 ·rename_i ha
  split at h
  ·rename_i a c h1 h2
   obtain ⟨us,rfl,hu⟩:=zow hp h1
   obtain ⟨vs,rfl,hv⟩:=zow hq h2
   have hc:i.cmp=true:=by
    exact zET ha h
   obtain ⟨g1,_⟩:=zBY hT hi hc
   obtain ⟨k,_⟩:=zEV hT 50 10000 (by omega) hi hu hv h
   simp only [zlI,ha,if_true] at k
   simp only [zfg,Sem.run_bind,run_eqGuard_agg w _ t x y _ _ g1,Result.andThen_ok,run_eql_struct,run_neq_struct]
   rw [show (us.toList.toArray)=us from rfl,show (vs.toList.toArray)=vs from rfl] at k
   rw [k]
   exact ⟨rfl,rfl⟩
  ·cases h
 ·have k:=zs6 hT hi 9999 hp hq h
  unfold zpz at h
  split at h
  ·split at h
   rotate_left
   ·cases h
   cases hp with | v _ _ _ hp=>cases hp with | bool _ =>
   cases hq with | v _ _ _ hq=>cases hq with | bool _ =>
   rw [yh _ _ _ _ (by trivial),yh _ _ _ _ (by trivial)]
   simp only [binOp,Sem.run_bind,Op.equal,Op.maxDepth,k,Result.andThen_ok,Sem.run_pure,and_self]
  ·split at h
   rotate_left
   ·cases h
   rename_i k a k' b' hty
   cases hp with | v _ _ _ hp=>cases hp with | int _ _ =>
   cases hq with | v _ _ _ hq=>cases hq with | int _ _ =>
   simp only [Option.map_eq_some_iff] at h
   obtain ⟨c,hc,rfl⟩:=h
   obtain ⟨hk,hk2⟩:=xL hc
   cases hk
   have hk2:b'=c:=hk2
   subst hk2
   rw [yh _ _ _ _ (by trivial),yh _ _ _ _ (by trivial)]
   simp only [binOp,ne_eq,not_true_eq_false,if_false,Op.intCmp,Sem.run_pure,zx0]
   exact ⟨rfl,rfl⟩
  ·split at h
   rotate_left
   ·cases h
   rename_i a b' hty
   cases hp with | v _ _ _ hp=>cases hp with | str _ =>
   cases hq with | v _ _ _ hq=>cases hq with | str _ =>
   simp at h;subst h
   rw [yh _ _ _ _ (by trivial),yh _ _ _ _ (by trivial)]
   simp only [binOp,Op.stringOp,Sem.run_pure,zur,and_self]
  ·split at h
   rotate_left
   ·cases h
   cases hp;cases hq
   rw [yh _ _ _ _ (by trivial),yh _ _ _ _ (by trivial)]
   simp only [binOp,Sem.run_bind,Op.equal,Op.maxDepth,k,Result.andThen_ok,Sem.run_pure,and_self]
  ·split at h
   rotate_left
   ·cases h
   cases hp;cases hq
   rw [yh _ _ _ _ (by trivial),yh _ _ _ _ (by trivial)]
   simp only [binOp,Sem.run_bind,Op.equal,Op.maxDepth,k,Result.andThen_ok,Sem.run_pure,and_self]
  ·split at h
   rotate_left
   ·cases h
   cases hp;cases hq
   rw [yh _ _ _ _ (by trivial),yh _ _ _ _ (by trivial)]
   simp only [binOp,Sem.run_bind,Op.equal,Op.maxDepth,k,Result.andThen_ok,Sem.run_pure,and_self]
  ·cases h
theorem X3 {b:Bool} {s:Sem Value} (S:zM A0 μ H w) (h:(WR (E:=E) b).cps H K=some r) (hs:s.run P w= .ok (.bool b) w):zR P A0 μ H w s K r :=
 zR.same S hs (.v _ _ _ (.bool b)) h
theorem Zp {k:IntKind} {o:Option (zN k)} {s:Sem Value} (S:zM A0 μ H w) (h:(Y3 (E:=E) k o).cps H K=some r) (hs: ∀x,o=some x→s.run P w= .ok (.int k (toZ k x)) w):zR P A0 μ H w s K r:=by
 unfold Y3 at h
 split at h
 ·exact zR.same S (hs _ rfl) (.v _ _ _ (.int k _)) h
 ·simp [Dec.cps] at h
theorem zqv {α:Type} {b:Bool} {d:Dec E α} {K:α→List (Blk E)→Option R} (h:(Dec.br b .fail d).cps H K=some r):b=false∧d.cps H K=some r:=by
 cases b
 ·exact ⟨rfl,by simpa [Dec.cps] using h⟩
 ·simp [Dec.cps] at h
theorem zD7 {α:Type} {b:Bool} {d:Dec E α} {K:α→List (Blk E)→Option R} (h:(Dec.br b d .fail).cps H K=some r):b=true∧d.cps H K=some r:=by
 cases b
 ·simp [Dec.cps] at h
 ·exact ⟨rfl,by simpa [Dec.cps] using h⟩
theorem zAH (hT:yx E.leaves P tab=true) {t:Nat} {i:TI} (hi:look tab t=some i) {op:BinOp} {p q:ze E} {u v:Value} (x y:Operand) (S:zM A0 μ H w)
  (hp:Rp E A0 μ H w p u) (hq:Rp E A0 μ H w q v) (h:(zC8 tab i op p q).cps H K=some r):zR P A0 μ H w (zfg op t x y u v) K r:=by
 unfold zC8 at h
 split at h
 ·split at h
  ·rename_i b hb;exact X3 S h (zz9 hT hi hp hq hb x y).1
  ·simp [Dec.cps] at h
 ·split at h
  ·rename_i b hb;exact X3 S h (zz9 hT hi hp hq hb x y).2
  ·simp [Dec.cps] at h
 ·split at h
  ·cases hp with | v _ _ _ hp=>cases hp with | int k a =>
   cases hq with | v _ _ _ hq=>cases hq with | int k' n =>
   obtain ⟨hn,h⟩:=zqv h
   refine Zp S h fun z hz=> ?_
   rw [yh _ _ _ _ (by trivial)]
   exact zzQ t (by simpa using hn) hz
  ·cases hp with | v _ _ _ hp=>cases hp with | int k a =>
   cases hq with | v _ _ _ hq=>cases hq with | int k' n =>
   refine Zp S h fun z hz=> ?_
   rw [yh _ _ _ _ (by trivial)]
   exact zzQ t (Int.natCast_nonneg _) (by rw [Int.toNat_natCast];exact hz)
  ·simp [Dec.cps] at h
 ·split at h
  ·cases hp with | v _ _ _ hp=>cases hp with | int k a =>
   cases hq with | v _ _ _ hq=>cases hq with | int k' n =>
   obtain ⟨hn,h⟩:=zqv h
   refine Zp S h fun z hz=> ?_
   rw [yh _ _ _ _ (by trivial)]
   exact zzY t (by simpa using hn) hz
  ·cases hp with | v _ _ _ hp=>cases hp with | int k a =>
   cases hq with | v _ _ _ hq=>cases hq with | int k' n =>
   refine Zp S h fun z hz=> ?_
   rw [yh _ _ _ _ (by trivial)]
   exact zzY t (Int.natCast_nonneg _) (by rw [Int.toNat_natCast];exact hz)
  ·simp [Dec.cps] at h
 ·split at h
  ·split at h
   rotate_left
   ·simp [Dec.cps] at h
   rename_i k a k' b0 _ b hc
   cases hp with | v _ _ _ hp=>cases hp with | int _ _ =>
   cases hq with | v _ _ _ hq=>cases hq with | int _ _ =>
   obtain ⟨hk,hk2⟩:=xL hc
   cases hk
   have hk2:b0=b:=hk2
   subst hk2
   have pl:zyD (.int k (toZ k a)):=trivial
   split at h
   ·exact Zp S h fun z hz=>by rw [yh _ _ _ _ pl];simpa [binOp] using zCK hz
   ·exact Zp S h fun z hz=>by rw [yh _ _ _ _ pl];simpa [binOp] using zDK hz
   ·exact Zp S h fun z hz=>by rw [yh _ _ _ _ pl];simpa [binOp] using zDb hz
   ·obtain ⟨hn,h⟩:=zqv h
    exact Zp S h fun z hz=>by rw [yh _ _ _ _ pl];simpa [binOp] using zDS hn hz
   ·obtain ⟨hn,h⟩:=zqv h
    exact Zp S h fun z hz=>by rw [yh _ _ _ _ pl];simpa [binOp] using zDZ hn hz
   ·exact Zp S h fun z hz=>by rw [yh _ _ _ _ pl];simpa [binOp] using zDc hz
   ·exact Zp S h fun z hz=>by rw [yh _ _ _ _ pl];simpa [binOp] using zEH hz
   ·exact Zp S h fun z hz=>by rw [yh _ _ _ _ pl];simpa [binOp] using zDP hz
   ·exact Zp S h fun z hz=>by rw [yh _ _ _ _ pl];simpa [binOp] using zzJ hz
   ·exact X3 S h (by rw [yh _ _ _ _ pl];simpa [binOp] using zEG a b0)
   ·exact X3 S h (by rw [yh _ _ _ _ pl];simpa [binOp] using zEb a b0)
   ·exact X3 S h (by rw [yh _ _ _ _ pl];simpa [binOp] using zEM a b0)
   ·exact X3 S h (by rw [yh _ _ _ _ pl];simpa [binOp] using zEf a b0)
   ·simp [Dec.cps] at h
  ·split at h
   ·rename_i a b _ _ _ _ _
    cases hp with | v _ _ _ hp=>cases hp with | str _ =>
    cases hq with | v _ _ _ hq=>cases hq with | str _ =>
    obtain ⟨hn,h⟩:=zD7 h
    have hn:ByteArray.size a+ByteArray.size b<4294967296:=by simpa using hn
    refine zR.same S ?_ (.v _ _ _ (.str _)) h
    rw [yh _ _ _ _ (by trivial)]
    simp only [binOp]
    exact run_string_add_sum _ a b (by omega)
   ·simp [Dec.cps] at h
  ·simp [Dec.cps] at h
theorem zCh {op:UnOp} {p:ze E} {u:Value} (S:zM A0 μ H w) (hp:Rp E A0 μ H w p u) (h:(unD op p).cps H K=some r):zR P A0 μ H w (Op.unary op u) K r:=by
 unfold unD at h
 split at h
 ·cases hp with | v _ _ _ hp=>cases hp with | bool b =>
  exact X3 S h (by simp [Op.unary])
 ·cases hp with | v _ _ _ hp=>cases hp with | int k x =>
  refine zR.same S ?_ (.v _ _ _ (.int .u64 _)) h
  simp only [Op.unary,Op.intArith,Sem.run_pure,toZ]
  congr 2
  rename_i y _
  have key: ∀x:BitVec 64,IntKind.u64.wrap (0-(x.toNat:Int))=((0-x:BitVec 64).toNat:Int):=fun x=>by
   rw [IntKind.wrap_u64,BitVec.toNat_sub]
   have:=x.isLt
   simp
   omega
  exact key _
 ·cases hp with | v _ _ _ hp=>cases hp with | int k x =>
  refine zR.same S ?_ (.v _ _ _ (.int .i64 _)) h
  simp only [Op.unary,Op.intArith,Sem.run_pure,toZ]
  rw [wrap_i64]
 ·cases hp with | v _ _ _ hp=>cases hp with | int k x =>
  refine zR.same S ?_ (.v _ _ _ (.int .u64 _)) h
  simp only [Op.unary,Op.intBits,Sem.run_pure,toZ,IntKind.bits,WJ]
  rw [Uu]
  congr 4
 ·simp [Dec.cps] at h
theorem zzE (hT:yx E.leaves P tab=true) {s d:Nat} {i j:TI} (hi:look tab d=some i) (hj:look tab s=some j) {p:ze E} {u:Value} (S:zM A0 μ H w) (hp:Rp E A0 μ H w p u)
  (h:(zAx i p).cps H K=some r):zR P A0 μ H w (convert s d u) K r:=by
 obtain ⟨ds,h1,_⟩:=Yd hT hj
 unfold zAx at h
 split at h
 ·rename_i k x k' hty
  cases hp with | v _ _ _ hp=>cases hp with | int _ _ =>
  have hd:=zB3 hT hi hty
  refine Zp S h fun z hz=> ?_
  simp only [convert,Sem.run_bind,run_underlying h1,run_underlying hd,Result.andThen_ok,Conv.intToInt,Sem.run_pure,zCZ hz]
 ·rename_i x hty
  cases hp with | v _ _ _ hp=>cases hp with | str _ =>
  have hd:=zCI hT hi hty
  refine zR.same S ?_ (.v _ _ _ (.str _)) h
  simp only [convert,Sem.run_bind,run_underlying h1,run_underlying hd,Result.andThen_ok]
  cases ds<;>rfl
 ·simp [Dec.cps] at h
theorem zDt {k:IntKind} {a b c:zN k} (h:zsA k a b=some c):(Builtin.min2 (.int k (toZ k a)) (.int k (toZ k b))).run P w= .ok (.int k (toZ k c)) w:=by
 cases k<;>simp only [zsA,Option.some.injEq,reduceCtorEq] at h<;>subst h<;>simp only [Builtin.min2,Sem.run_pure,toZ]
 ·congr 2;cases hc:decide (b<a)<;>simp_all<;>omega
 ·congr 2;cases hc:decide (b<a)<;>simp_all [BitVec.lt_def,BitVec.le_def]<;>omega
theorem zC5 {k:IntKind} {a b c:zN k} (h:zrU k a b=some c):(Builtin.max2 (.int k (toZ k a)) (.int k (toZ k b))).run P w= .ok (.int k (toZ k c)) w:=by
 cases k<;>simp only [zrU,Option.some.injEq,reduceCtorEq] at h<;>subst h<;>simp only [Builtin.max2,Sem.run_pure,toZ]
 ·congr 2;cases hc:decide (a<b)<;>simp_all<;>omega
 ·congr 2;cases hc:decide (a<b)<;>simp_all [BitVec.lt_def,BitVec.le_def]<;>omega
end
end Go.Pe
