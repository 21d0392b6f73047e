/- Own work of this seat: Core, Exec, Rep, Moves, Tab, OpA, OpB, OpC, OpD, OpE. -/
import Derived.Orders
import Derived.KernelRfl
import Derived.Laws.Sem
import Derived.Laws.World
import Derived.Laws.CopyRow
import Derived.Laws.Entries
import Derived.Laws.Rows
set_option linter.unusedVariables false
set_option linter.unusedSimpArgs false
set_option linter.unnecessarySimpa false
set_option linter.unusedSectionVars false
set_option linter.deprecated false
namespace Go.Pe
noncomputable section
inductive Ty where
  | bool | int (k : IntKind) | str | slice (e : Ty) | named (n : Nat) | arr (n : Nat) (e : Ty)
  deriving DecidableEq
@[reducible] def IntDen : IntKind → Type
  | .u64 => BitVec 64 | .u8 => BitVec 8 | .i8 => Int | .i16 => Int | .i32 => Int | .i64 => Int | .u16 => Int | .u32 => Int
@[reducible] def Den (T : Nat → Type) : Ty → Type
  | .bool => Bool | .int k => IntDen k | .str => ByteArray | .slice e => List (Den T e) | .named n => T n | .arr _ e => List (Den T e)
@[reducible] def HL (T : Nat → Type) : List Ty → Type
  | [] => Unit
  | t :: ts => Den T t × HL T ts
structure Types where
  T : Nat → Type
  leaves : Nat → List Ty
  unpack : (n : Nat) → T n → HL T (leaves n)
  pack : (n : Nat) → HL T (leaves n) → T n
  pu : ∀ n x, pack n (unpack n x) = x
  up : ∀ n h, unpack n (pack n h) = h
  lf : ∀ n, (leaves n).all (fun t => match t with | .named _ => false | .arr _ _ => false | _ => true) = true
noncomputable def hide {α : Type} (a : α) : α := Classical.choose (⟨a, rfl⟩ : ∃ b : α, b = a)
theorem hide_eq {α : Type} (a : α) : hide a = a := Classical.choose_spec (⟨a, rfl⟩ : ∃ b : α, b = a)
def w64 (n : Int) : Int := hide (fun n : Int => (n + 9223372036854775808) % 18446744073709551616 - 9223372036854775808) n
theorem w64_def (n : Int) : w64 n = (n + 9223372036854775808) % 18446744073709551616 - 9223372036854775808 := congrFun (hide_eq _) n
def w32 (n : Int) : Int := hide (fun n : Int => (n + 2147483648) % 4294967296 - 2147483648) n
theorem w32_def (n : Int) : w32 n = (n + 2147483648) % 4294967296 - 2147483648 := congrFun (hide_eq _) n
@[reducible] def toZ : (k : IntKind) → IntDen k → Int
  | .u64, x => (x.toNat : Int) | .u8, x => (x.toNat : Int) | .i8, x => x | .i16, x => x | .i32, x => x | .i64, x => x | .u16, x => x | .u32, x => x
def ofLit : (k : IntKind) → Int → IntDen k
  | .u64, n => BitVec.ofInt 64 n | .u8, n => BitVec.ofInt 8 n | .i8, n => n | .i16, n => n | .i32, n => n | .i64, n => n | .u16, n => n | .u32, n => n
def litOk : IntKind → Int → Bool
  | .u64, n => decide (0 ≤ n) && decide (n < 18446744073709551616) | .u8, n => decide (0 ≤ n) && decide (n < 256) | _, _ => true
def iadd : (k : IntKind) → IntDen k → IntDen k → Option (IntDen k)
  | .u64, a, b => some (a + b) | .i64, a, b => some (w64 (a + b)) | .i32, a, b => some (w32 (a + b)) | _, _, _ => none
def isub : (k : IntKind) → IntDen k → IntDen k → Option (IntDen k)
  | .u64, a, b => some (a - b) | .i64, a, b => some (w64 (a - b)) | .i32, a, b => some (w32 (a - b)) | _, _, _ => none
def imul : (k : IntKind) → IntDen k → IntDen k → Option (IntDen k)
  | .u64, a, b => some (a * b) | .i64, a, b => some (w64 (a * b)) | _, _, _ => none
def zand (a b : Int) : Int := hide (fun a b : Int => (BitVec.ofInt 64 a &&& BitVec.ofInt 64 b).toInt) a b
theorem zand_def (a b : Int) : zand a b = (BitVec.ofInt 64 a &&& BitVec.ofInt 64 b).toInt := by delta zand; rw [hide_eq]
def zor (a b : Int) : Int := hide (fun a b : Int => (BitVec.ofInt 64 a ||| BitVec.ofInt 64 b).toInt) a b
theorem zor_def (a b : Int) : zor a b = (BitVec.ofInt 64 a ||| BitVec.ofInt 64 b).toInt := by delta zor; rw [hide_eq]
def zxor (a b : Int) : Int := hide (fun a b : Int => (BitVec.ofInt 64 a ^^^ BitVec.ofInt 64 b).toInt) a b
theorem zxor_def (a b : Int) : zxor a b = (BitVec.ofInt 64 a ^^^ BitVec.ofInt 64 b).toInt := by delta zxor; rw [hide_eq]
def zandnot (a b : Int) : Int := hide (fun a b : Int => (BitVec.ofInt 64 a &&& ~~~BitVec.ofInt 64 b).toInt) a b
theorem zandnot_def (a b : Int) : zandnot a b = (BitVec.ofInt 64 a &&& ~~~BitVec.ofInt 64 b).toInt := by delta zandnot; rw [hide_eq]
def iquo : (k : IntKind) → IntDen k → IntDen k → Option (IntDen k)
  | .u64, a, b => some (a / b) | .i64, a, b => some (w64 (a.tdiv b)) | .u8, a, b => some (a / b) | _, _, _ => none
def irem : (k : IntKind) → IntDen k → IntDen k → Option (IntDen k)
  | .u64, a, b => some (a % b) | .i64, a, b => some (a.tmod b) | .u8, a, b => some (a % b) | _, _, _ => none
def iand : (k : IntKind) → IntDen k → IntDen k → Option (IntDen k)
  | .u64, a, b => some (a &&& b) | .i64, a, b => some (zand a b) | _, _, _ => none
def ior : (k : IntKind) → IntDen k → IntDen k → Option (IntDen k)
  | .u64, a, b => some (a ||| b) | .i64, a, b => some (zor a b) | _, _, _ => none
def ixor : (k : IntKind) → IntDen k → IntDen k → Option (IntDen k)
  | .u64, a, b => some (a ^^^ b) | .i64, a, b => some (zxor a b) | _, _, _ => none
def iandnot : (k : IntKind) → IntDen k → IntDen k → Option (IntDen k)
  | .u64, a, b => some (a &&& ~~~b) | .i64, a, b => some (zandnot a b) | _, _, _ => none
def ishl : (k : IntKind) → IntDen k → Nat → Option (IntDen k)
  | .u64, a, n => some (a <<< n) | _, _, _ => none
def ishr : (k : IntKind) → IntDen k → Nat → Option (IntDen k)
  | .u64, a, n => some (a >>> n) | _, _, _ => none
def ieq : (k : IntKind) → IntDen k → IntDen k → Bool
  | .u64, a, b => decide (a = b) | .u8, a, b => decide (a = b) | .i8, a, b => decide (a = b) | .i16, a, b => decide (a = b) | .i32, a, b => decide (a = b)
  | .i64, a, b => decide (a = b) | .u16, a, b => decide (a = b) | .u32, a, b => decide (a = b)
def ilt : (k : IntKind) → IntDen k → IntDen k → Bool
  | .u64, a, b => decide (a < b) | .u8, a, b => decide (a < b) | .i8, a, b => decide (a < b) | .i16, a, b => decide (a < b) | .i32, a, b => decide (a < b)
  | .i64, a, b => decide (a < b) | .u16, a, b => decide (a < b) | .u32, a, b => decide (a < b)
def ile : (k : IntKind) → IntDen k → IntDen k → Bool
  | .u64, a, b => decide (a ≤ b) | .u8, a, b => decide (a ≤ b) | .i8, a, b => decide (a ≤ b) | .i16, a, b => decide (a ≤ b) | .i32, a, b => decide (a ≤ b)
  | .i64, a, b => decide (a ≤ b) | .u16, a, b => decide (a ≤ b) | .u32, a, b => decide (a ≤ b)
def iconv : (k k' : IntKind) → IntDen k → Option (IntDen k')
  | .u8, .i64, x => some (x.toNat : Int) | .u8, .i32, x => some (x.toNat : Int) | .u8, .u8, x => some x | .u8, .u64, x => some (x.setWidth 64)
  | .u64, .i64, x => some x.toInt | .u64, .u64, x => some x | .i64, .u64, x => some (BitVec.ofInt 64 x) | .i64, .u8, x => some (BitVec.ofInt 8 x)
  | .i64, .i64, x => some (w64 x) | .i64, .i32, x => some (w32 x) | .i32, .i64, x => some (w64 x) | .i32, .i32, x => some (w32 x)
  | _, _, _ => none
def mini : (k : IntKind) → IntDen k → IntDen k → Option (IntDen k)
  | .u64, a, b => some (bif decide (b < a) then b else a) | .i64, a, b => some (bif decide (b < a) then b else a) | _, _, _ => none
def maxi : (k : IntKind) → IntDen k → IntDen k → Option (IntDen k)
  | .u64, a, b => some (bif decide (a < b) then b else a) | .i64, a, b => some (bif decide (a < b) then b else a) | _, _, _ => none
def idx {α : Type} (l : List α) (i : Int) : Option α := bif decide (0 ≤ i) then l[i.toNat]? else none
def idxn {α : Type} (l : List α) (i : Int) : Option Nat := bif decide (0 ≤ i) && decide (i < l.length) then some i.toNat else none
def room {α : Type} (l : List α) : Option (List α) := bif decide (l.length < 4294967296) then some l else none
def count (n : Int) : Option Nat := bif decide (0 ≤ n) && decide (n < 4294967296) then some n.toNat else none
def cut {α : Type} (l : List α) (lo hi : Int) : Option (List α) :=
  bif decide (0 ≤ lo) && decide (lo ≤ hi) && decide (hi ≤ l.length) then some ((l.take hi.toNat).drop lo.toNat) else none
section
variable (E : Types)
inductive PVal : Type where
  | any | skip
  | v (τ : Ty) (x : Den E.T τ)
  | agg (cs : List PVal) | tuple (vs : List PVal)
  | nils | own (id : Nat) | full (e : Ty) (l : List (Den E.T e)) | bsl (id n : Nat)
  | ptr (id off : Nat) | eptr (e : Ty) (id i off : Nat) | rptr (cs : List PVal)
  | fn (f : FuncId) (caps : List PVal) | bfn (f : FuncId) (first : List PVal) | nilfn | nilp | nilm | map (id : Nat)
  | yld (n i : Int)
inductive Blk : Type where
  | free | dead
  | box (w : Bool) (cs : List (PVal E))
  | row (w : Bool) (e : Ty) (l : List (Den E.T e))
  | map (w : Bool) (es : List (PVal E × PVal E))
inductive Dec (α : Type) : Type 1 where
  | ret (a : α) | fail
  | br (b : Bool) (t e : Dec α)
  | opt (β : Type) (o : Option β) (k : β → Dec α)
  | rd (id : Nat) (k : Blk E → Dec α)
  | wr (id : Nat) (b : Blk E) (k : Dec α)
  | any (k : Bool → Dec α)
end
variable {E : Types}
def Dec.bind {α β : Type} : Dec E α → (α → Dec E β) → Dec E β
  | .ret a, f => f a
  | .fail, _ => .fail
  | .br b t e, f => .br b (t.bind f) (e.bind f)
  | .opt γ o k, f => .opt γ o fun x => (k x).bind f
  | .rd id k, f => .rd id fun b => (k b).bind f
  | .wr id b k, f => .wr id b (k.bind f)
  | .any k, f => .any fun b => (k b).bind f
def getB (H : List (Blk E)) (id : Nat) : Blk E := (H[id]?).getD .free
open Classical in
noncomputable def both {R : Type} (a b : Option R) : Option R := if a = b then a else none
theorem both_self {R : Type} (a : Option R) : both a a = a := if_pos rfl
theorem both_some {R : Type} {a b : Option R} {r : R} (h : both a b = some r) : a = some r ∧ b = some r := by
  unfold both at h
  split at h
  · rename_i e; exact ⟨h, e ▸ h⟩
  · cases h
noncomputable def Dec.cps {α R : Type} : Dec E α → List (Blk E) → (α → List (Blk E) → Option R) → Option R
  | .ret a, H, K => K a H
  | .fail, _, _ => none
  | .br b t e, H, K => bif b then t.cps H K else e.cps H K
  | .opt _ o k, H, K => o.bind fun x => (k x).cps H K
  | .rd id k, H, K => (k (getB H id)).cps H K
  | .wr id b k, H, K => bif Nat.blt id H.length then k.cps (H.set id b) K else none
  | .any k, H, K => both ((k true).cps H K) ((k false).cps H K)
@[reducible] def p1 {A B : Type} (x : A × B) : A := Prod.casesOn (motive := fun _ => A) x (fun a _ => a)
@[reducible] def p2 {A B : Type} (x : A × B) : B := Prod.casesOn (motive := fun _ => B) x (fun _ b => b)
@[simp] theorem p1_eq {A B : Type} (x : A × B) : p1 x = x.1 := rfl
@[simp] theorem p2_eq {A B : Type} (x : A × B) : p2 x = x.2 := rfl
def HL.toP : (ts : List Ty) → HL E.T ts → List (PVal E)
  | [], _ => []
  | t :: ts, x => .v t (p1 x) :: HL.toP ts (p2 x)
def castTy (τ τ' : Ty) (x : Den E.T τ) : Option (Den E.T τ') := if h : τ = τ' then some (h ▸ x) else none
def cellsP : PVal E → List (PVal E)
  | .agg cs => cs
  | .v (.named n) x => HL.toP (E.leaves n) (E.unpack n x)
  | p => [p]
def Ty.leaf : Ty → Bool
  | .named _ => false | .arr _ _ => false | _ => true
def PVal.leaf : PVal E → Bool
  | .v τ _ => τ.leaf
  | .nils | .own _ | .full _ _ | .bsl _ _ | .ptr _ _ | .eptr _ _ _ _ | .rptr _ | .fn _ _ | .bfn _ _ | .nilfn | .nilp | .nilm | .map _ => true
  | _ => false
def toLeaf (τ : Ty) (p : PVal E) (H : List (Blk E)) : Option (Den E.T τ × List Nat) :=
  match p with
  | .v τ' x => (castTy τ' τ x).bind fun y => some (y, [])
  | .nils => match τ with | .slice _ => some ([], []) | _ => none
  | .own id => match τ with
    | .slice e => match getB H id with
      | .row _ e' l => (castTy (.slice e') (.slice e) l).bind fun y => some (y, [id])
      | _ => none
    | _ => none
  | .full e' l => match τ with
    | .slice e => (castTy (.slice e') (.slice e) l).bind fun y => some (y, [])
    | _ => none
  | _ => none
def toLeaves : (ts : List Ty) → List (PVal E) → List (Blk E) → Option (HL E.T ts × List Nat)
  | [], [], _ => some ((), [])
  | t :: ts, p :: ps, H => (toLeaf t p H).bind fun x => (toLeaves ts ps H).bind fun y => some ((x.1, y.1), x.2 ++ y.2)
  | _, _, _ => none
def toT (τ : Ty) (p : PVal E) (H : List (Blk E)) : Option (Den E.T τ × List Nat) :=
  match p, τ with
  | .agg cs, .named n => (toLeaves (E.leaves n) cs H).bind fun x => some (E.pack n x.1, x.2)
  | p, τ => toLeaf τ p H
def toTs : (ts : List Ty) → List (PVal E) → List (Blk E) → Option (HL E.T ts × List Nat)
  | [], [], _ => some ((), [])
  | t :: ts, p :: ps, H => (toT t p H).bind fun x => (toTs ts ps H).bind fun y => some ((x.1, y.1), x.2 ++ y.2)
  | _, _, _ => none
def toT0 (τ : Ty) (p : PVal E) : Option (Den E.T τ) := (toT τ p []).bind fun x => some x.1
def frz : Blk E → Blk E
  | .row _ e l => .row false e l
  | b => b
inductive Z where
  | bool | int (k : IntKind) | str | slice | func | ptr | map
  deriving DecidableEq
structure TI where
  size : Nat
  agg : Bool
  fields : List (Nat × Nat)
  elem : Nat
  alen : Nat
  ty : Option Ty
  zero : List Z
  bytes : Nat
  sl : Bool
  fk : Bool
  cmp : Bool
  mp : Bool := false
def Z.toP : Z → PVal E
  | .bool => .v .bool false | .int k => .v (.int k) (ofLit k 0) | .str => .v .str ByteArray.empty | .slice => .nils | .func => .nilfn | .ptr => .nilp | .map => .nilm
def look (tab : List (Nat × TI)) (t : Nat) : Option TI := match tab with
  | [] => none
  | (u, i) :: r => if Nat.beq u t then some i else look r t
def zeroOf (i : TI) : PVal E := if i.agg then .agg (i.zero.map Z.toP) else match i.zero with | [z] => z.toP | _ => .any
def ofConst : Value → PVal E
  | .bool b => .v .bool b
  | .int k n => if litOk k n then .v (.int k) (ofLit k n) else .any
  | .string s => .v .str s
  | .slice none 0 0 => .nils
  | .nilFunc => .nilfn
  | .pointer none => .nilp
  | .map none => .nilm
  | .agg cs => .agg (cs.toList.map fun | .bool b => .v .bool b | .int k n => if litOk k n then .v (.int k) (ofLit k n) else .any | .slice none 0 0 => .nils | .string s => .v .str s | .nilFunc => .nilfn | .pointer none => .nilp | _ => .any)
  | _ => .any
def sub {α : Type} (cs : List α) (off n : Nat) : List α := (cs.drop off).take n
def splice {α : Type} (cs : List α) (off : Nat) (xs : List α) : List α := cs.take off ++ xs ++ cs.drop (off + xs.length)
def tyIs (i : TI) (τ : Ty) : Bool := match i.ty with | some σ => decide (σ = τ) | none => false
def outD (i : TI) (cs : List (PVal E)) : Dec E (PVal E) :=
  if Nat.beq cs.length i.size then (if i.agg then .ret (.agg cs) else match cs with | [c] => .ret c | _ => .fail) else .fail
def elemP (e : Ty) (x : Den E.T e) : List (PVal E) := cellsP (.v e x)
def loadD (i : TI) (p : PVal E) : Dec E (PVal E) :=
  match p with
  | .ptr id off => .rd id fun
    | .box _ cs => outD i (sub cs off i.size)
    | _ => .fail
  | .eptr e id n off => .rd id fun
    | .row _ e' l => match castTy (.slice e') (.slice e) l with
      | some l => .opt _ (l[n]?) fun x => if (elemP e x).all PVal.leaf then outD i (sub (elemP e x) off i.size) else .fail
      | none => .fail
    | _ => .fail
  | .rptr cs => outD i (sub cs 0 i.size)
  | _ => .fail
def typed {α : Type} (τ : Ty) (p : PVal E) (k : Den E.T τ → Dec E α) : Dec E α :=
  match p with
  | .own id => .rd id fun
    | .row _ e l => .wr id (.row false e l) (match toT0 τ (.v (.slice e) l) with | some y => k y | none => .fail)
    | _ => .fail
  | .agg cs => typedAgg cs []
  | p => match toT0 τ p with | some y => k y | none => .fail
where
  typedAgg : List (PVal E) → List (PVal E) → Dec E α
    | [], acc => match toT0 τ (.agg acc) with | some y => k y | none => .fail
    | .own id :: r, acc => .rd id fun
      | .row _ e l => .wr id (.row false e l) (typedAgg r (acc ++ [.v (.slice e) l]))
      | _ => .fail
    | c :: r, acc => typedAgg r (acc ++ [c])
def storeD (i : TI) (p x : PVal E) : Dec E (PVal E) :=
  let cx := cellsP x
  if Nat.beq cx.length i.size && cx.all PVal.leaf then
    match p with
    | .ptr id off => .rd id fun
      | .box true cs => if Nat.ble (off + i.size) cs.length then .wr id (.box true (splice cs off cx)) (.ret .skip) else .fail
      | _ => .fail
    | .eptr e id n off =>
      if Nat.beq off 0 && tyIs i e then
        typed e x fun z => .rd id fun
          | .row true e' l => match castTy (.slice e') (.slice e) l with
            | some l => .wr id (.row true e (l.set n z)) (.ret .skip)
            | none => .fail
          | _ => .fail
      else .fail
    | _ => .fail
  else .fail
def fieldAddrD (s : TI) (p : PVal E) (f : Nat) : Dec E (PVal E) :=
  match s.fields[f]? with
  | some (off, _) => match p with
    | .ptr id o => .ret (.ptr id (o + off))
    | .eptr e id n o => .ret (.eptr e id n (o + off))
    | .rptr cs => .ret (.rptr (cs.drop off))
    | _ => .fail
  | none => .fail
def aggP : PVal E → Option (List (PVal E))
  | .agg cs => some cs
  | .v (.named n) x => some (HL.toP (E.leaves n) (E.unpack n x))
  | _ => none
def fieldD (tab : List (Nat × TI)) (s : TI) (p : PVal E) (f : Nat) : Dec E (PVal E) :=
  match s.fields[f]? with
  | some (off, t) => match look tab t with
    | some i => match aggP p with
      | some cs => outD i (sub cs off i.size)
      | none => .fail
    | none => .fail
  | none => .fail
def choose (i : Int) : Nat → (Nat → Dec E (PVal E)) → Dec E (PVal E)
  | 0, _ => .fail
  | n + 1, k => .br (decide (i = (n : Int))) (k n) (choose i n k)
def indexAddrD (s u : TI) (p : PVal E) (i : Int) : Dec E (PVal E) :=
  if s.sl then
    match p with
    | .v (.slice e) l => if tyIs u e then .opt _ (idx l i) fun x => if (elemP e x).all PVal.leaf then .ret (.rptr (elemP e x)) else .fail else .fail
    | .full e l => if tyIs u e then .opt _ (idx l i) fun x => if (elemP e x).all PVal.leaf then .ret (.rptr (elemP e x)) else .fail else .fail
    | .own id => .rd id fun
      | .row _ e l => if tyIs u e then .opt _ (idxn l i) fun n => .ret (.eptr e id n 0) else .fail
      | _ => .fail
    | .bsl id n => choose i n fun k => .ret (.ptr id (k * u.size))
    | _ => .fail
  else match p with
  | .ptr id off => if s.agg then choose i s.alen fun k => .ret (.ptr id (off + k * u.size)) else .fail
  | _ => .fail
def optI (p : Option (PVal E)) (d : Int) : Option Int := match p with
  | none => some d
  | some (.v (.int .i64) x) => some x
  | _ => none
def elOk (i : TI) (u : Option TI) (e : Ty) : Bool := i.sl && (match u with | some u => tyIs u e | none => false)
def sliceD (i : TI) (u : Option TI) (mv : Bool) (fresh : Nat) (p : PVal E) (lo hi mx : Option (PVal E)) : Dec E (PVal E) :=
  match mx with
  | none => match p with
    | .v (.slice e) l => if elOk i u e then (match optI lo 0, optI hi l.length with
      | some a, some b => .opt _ (cut l a b) fun l' => .ret (.v (.slice e) l')
      | _, _ => .fail) else .fail
    | .v .str s => if tyIs i .str then (match optI lo 0, optI hi s.size with
      | some a, some b => .br (decide (0 ≤ a) && decide (a ≤ b) && decide (b ≤ s.size)) (.ret (.v .str (s.extract a.toNat b.toNat))) .fail
      | _, _ => .fail) else .fail
    | .nils => if i.sl && u.isSome then (match optI lo 0, optI hi 0 with
      | some a, some b => .br (decide (a = 0) && decide (b = 0)) (.ret .nils) .fail
      | _, _ => .fail) else .fail
    | .own id => .rd id fun
      | .row w e l => if elOk i u e then (match optI lo 0, optI hi l.length with
        | some a, some b =>
          if mv then (if w then .opt _ (cut l a b) fun l' => .wr id .dead (.wr fresh (.row true e l') (.ret (.own fresh))) else .fail)
          else .wr id (.row false e l) (.opt _ (cut l a b) fun l' => .ret (.v (.slice e) l'))
        | _, _ => .fail) else .fail
      | _ => .fail
    | _ => .fail
  | some m => match p with
    | .v (.slice e) l => if elOk i u e then (match optI lo 0, hi, optI (some m) 0 with
      | some a, some b, some c => match optI (some b) 0 with
        | some b => .br (decide (a = 0) && decide (b = 0) && decide (c = 0)) (.ret .nils)
          (.br (decide (a = 0) && decide (b = l.length) && decide (c = l.length)) (.ret (.full e l)) (.br (decide (b = c)) (.opt _ (cut l a b) fun l' => .ret (.v (.slice e) l')) .fail))
        | none => .fail
      | _, _, _ => .fail) else .fail
    | .nils => if i.sl && u.isSome then (match optI lo 0, hi, optI (some m) 0 with
      | some a, some b, some c => match optI (some b) 0 with
        | some b => .br (decide (a = 0) && decide (b = 0) && decide (c = 0)) (.ret .nils) .fail
        | none => .fail
      | _, _, _ => .fail) else .fail
    | .own id => .rd id fun
      | .row _ e l => if elOk i u e then (match optI lo 0, hi, optI (some m) 0 with
        | some a, some b, some c => match optI (some b) 0 with
          | some b => .br (decide (a = 0) && decide (b = 0) && decide (c = 0)) (.wr id (.row false e l) (.ret .nils))
            (.br (decide (a = 0) && decide (b = l.length) && decide (c = l.length)) (.wr id (.row false e l) (.ret (.full e l))) .fail)
          | none => .fail
        | _, _, _ => .fail) else .fail
      | _ => .fail
    | _ => .fail
def lenD (i : TI) (p : PVal E) : Dec E (PVal E) :=
  if i.sl then
    match p with
    | .v (.slice _) l => .ret (.v (.int .i64) (l.length : Int))
    | .full _ l => .ret (.v (.int .i64) (l.length : Int))
    | .nils => .ret (.v (.int .i64) (0 : Int))
    | .bsl _ n => .ret (.v (.int .i64) (n : Int))
    | .own id => .rd id fun
      | .row _ _ l => .ret (.v (.int .i64) (l.length : Int))
      | _ => .fail
    | _ => .fail
  else if tyIs i .str then
    match p with
    | .v .str s => .ret (.v (.int .i64) (s.size : Int))
    | _ => .fail
  else .fail
def zeroLeaf : (t : Ty) → Option (Den E.T t)
  | .bool => some false | .int k => some (ofLit k 0) | .str => some ByteArray.empty | .slice _ => some [] | _ => none
def zeroHL : (ts : List Ty) → Option (HL E.T ts)
  | [] => some ()
  | t :: ts => match zeroLeaf (E := E) t, zeroHL ts with | some x, some y => some (x, y) | _, _ => none
def zeroT (t : Ty) : Option (Den E.T t) := match t with
  | .named n => (zeroHL (E := E) (E.leaves n)).map (E.pack n)
  | t => zeroLeaf t
def appendL (e : Ty) (fresh : Nat) (p : PVal E) (l2 : List (Den E.T e)) : Dec E (PVal E) :=
  match p with
  | .nils => .opt _ (room l2) fun l => .wr fresh (.row true e l) (.ret (.own fresh))
  | .own id => .rd id fun
    | .row true e' l => match castTy (.slice e') (.slice e) l with
      | some l => .opt _ (room (l ++ l2)) fun l' => .wr id .dead (.wr fresh (.row true e l') (.ret (.own fresh)))
      | none => .fail
    | _ => .fail
  | .full e' l => match castTy (.slice e') (.slice e) l with
    | some l => match l2 with
      | [] => .fail
      | _ :: _ => .opt _ (room (l ++ l2)) fun l' => .wr fresh (.row true e l') (.ret (.own fresh))
    | none => .fail
  | _ => .fail
def appendD (e : Ty) (fresh : Nat) (p x : PVal E) : Dec E (PVal E) := typed (.slice e) x (appendL e fresh p)
def copyL (e : Ty) (p : PVal E) (l2 : List (Den E.T e)) : Dec E (PVal E) :=
  match p with
  | .own id => .rd id fun
    | .row true e' l => match castTy (.slice e') (.slice e) l with
      | some l => .br (decide (l2.length = l.length)) (.br l2.isEmpty (.ret (.v (.int .i64) (0 : Int))) (.wr id (.row true e l2) (.ret (.v (.int .i64) (l2.length : Int))))) .fail
      | none => .fail
    | _ => .fail
  | _ => .fail
def copyD (e : Ty) (p x : PVal E) : Dec E (PVal E) := typed (.slice e) x (copyL e p)
def count1 (n : Int) : Option Nat := bif decide (0 < n) && decide (n < 4294967296) then some n.toNat else none
def appendZD (e : Ty) (fresh : Nat) (p x : PVal E) : Dec E (PVal E) :=
  match zeroT (E := E) e, x with
  | some z, .v (.int .i64) n => .opt _ (count1 n) fun k => match p with
    | .full _ _ => .fail
    | p => appendL e fresh p (List.replicate k z)
  | _, _ => .fail
def makeSliceD (e : Ty) (fresh : Nat) (p c : PVal E) : Dec E (PVal E) :=
  match p, c with
  | .v (.int .i64) n, .v (.int .i64) m => match zeroT e with
    | some z => .br (decide (n = m)) (.opt _ (count n) fun k => .wr fresh (.row true e (List.replicate k z)) (.ret (.own fresh))) .fail
    | none => .fail
  | _, _ => .fail
def putParts (fields : Nat → Option (Nat × Nat)) (cs : List (PVal E)) : List (Nat × PVal E) → Option (List (PVal E))
  | [] => some cs
  | (i, x) :: r => match fields i with
    | some (off, n) => if Nat.beq (cellsP x).length n && Nat.ble (off + n) cs.length then putParts fields (splice cs off (cellsP x)) r else none
    | none => none
def buildD (tab : List (Nat × TI)) (i : TI) (parts : List (Nat × PVal E)) : Dec E (PVal E) :=
  let place (j : Nat) : Option (Nat × Nat) := match i.fields[j]? with
    | some (off, t) => (look tab t).map fun u => (off, u.size)
    | none => if Nat.blt j i.alen then (look tab i.elem).map fun u => (j * u.size, u.size) else none
  if i.agg && parts.all (fun p => (cellsP p.2).all PVal.leaf) then
    match putParts place (i.zero.map Z.toP) parts with
    | some cs => .ret (.agg cs)
    | none => .fail
  else .fail
def typedList {α : Type} (e : Ty) (k : List (Den E.T e) → Dec E α) : List (PVal E) → List (Den E.T e) → Dec E α
  | [], acc => k acc
  | p :: r, acc => typed e p fun x => typedList e k r (acc ++ [x])
def buildSliceD (i u : TI) (fresh : Nat) (len : Nat) (parts : List (Nat × PVal E)) : Dec E (PVal E) :=
  if i.sl && decide (parts.map (·.1) = List.range len) && Nat.ble (len * u.size) 16777216 then
    match i.ty with
    | some (.slice e) => typedList e (fun l => .wr fresh (.row true e l) (.ret (.own fresh))) (parts.map (·.2)) []
    | _ => if Nat.beq u.size 1 && parts.all (fun p => p.2.leaf) then .wr fresh (.box true (parts.map (·.2))) (.ret (.bsl fresh len)) else .fail
  else .fail
def eqLeaf (i : TI) (p q : PVal E) : Option Bool := match p, q with
  | .v .bool a, .v .bool b => if tyIs i .bool then some (decide (a = b)) else none
  | .v (.int k) a, .v (.int k') b => if tyIs i (.int k) then (castTy (E := E) (.int k') (.int k) b).map fun b => ieq k a b else none
  | .v .str a, .v .str b => if tyIs i .str then some (decide (a = b)) else none
  | .nilfn, .nilfn => if i.fk then some true else none
  | .nilfn, .fn _ _ => if i.fk then some false else none
  | .fn _ _, .nilfn => if i.fk then some false else none
  | _, _ => none
def andO : List (Option Bool) → Option Bool
  | [] => some true
  | [a] => a
  | a :: r => match a, andO r with | some x, some y => some (x && y) | _, _ => none
def eqT (tab : List (Nat × TI)) : Nat → TI → List (PVal E) → List (PVal E) → Option Bool
  | 0, _, _, _ => none
  | d + 1, i, ps, qs =>
    if i.agg then
      if i.cmp then
        if Nat.beq i.alen 0 then andO (i.fields.map fun f => match look tab f.2 with | some u => eqT tab d u (sub ps f.1 u.size) (sub qs f.1 u.size) | none => none)
        else match look tab i.elem with
          | some u => andO ((List.range i.alen).map fun j => eqT tab d u (sub ps (j * u.size) u.size) (sub qs (j * u.size) u.size))
          | none => none
      else none
    else match ps, qs with
      | [p], [q] => eqLeaf i p q
      | _, _ => none
def boolD (b : Bool) : Dec E (PVal E) := .ret (.v .bool b)
def intD (k : IntKind) (o : Option (IntDen k)) : Dec E (PVal E) := match o with | some x => .ret (.v (.int k) x) | none => .fail
def isZero : (k : IntKind) → IntDen k → Bool
  | k, x => ieq k x (ofLit k 0)
def eqD (tab : List (Nat × TI)) (i : TI) (p q : PVal E) : Option Bool :=
  if i.agg then match aggP p, aggP q with | some a, some b => eqT tab 50 i a b | _, _ => none else eqLeaf i p q
def binD (tab : List (Nat × TI)) (i : TI) (op : BinOp) (p q : PVal E) : Dec E (PVal E) :=
  match op with
  | .eql => match eqD tab i p q with | some b => boolD b | none => .fail
  | .neq => match eqD tab i p q with | some b => boolD (!b) | none => .fail
  | .shl => match p, q with
    | .v (.int k) a, .v (.int .i64) n => .br (decide (n < 0)) .fail (intD k (ishl k a (min n.toNat k.bits)))
    | .v (.int k) a, .v (.int .u64) n => intD k (ishl k a (min n.toNat k.bits))
    | _, _ => .fail
  | .shr => match p, q with
    | .v (.int k) a, .v (.int .i64) n => .br (decide (n < 0)) .fail (intD k (ishr k a (min n.toNat k.bits)))
    | .v (.int k) a, .v (.int .u64) n => intD k (ishr k a (min n.toNat k.bits))
    | _, _ => .fail
  | op => match p, q with
    | .v (.int k) a, .v (.int k') b => match castTy (E := E) (.int k') (.int k) b with
      | some b => match op with
        | .add => intD k (iadd k a b) | .sub => intD k (isub k a b) | .mul => intD k (imul k a b)
        | .quo => .br (isZero k b) .fail (intD k (iquo k a b)) | .rem => .br (isZero k b) .fail (intD k (irem k a b))
        | .and => intD k (iand k a b) | .or => intD k (ior k a b) | .xor => intD k (ixor k a b) | .andNot => intD k (iandnot k a b)
        | .lss => boolD (ilt k a b) | .leq => boolD (ile k a b) | .gtr => boolD (ilt k b a) | .geq => boolD (ile k b a)
        | _ => .fail
      | none => .fail
    | .v .str a, .v .str b => match op with
      | .add => .br (decide (a.size + b.size < 4294967296)) (.ret (.v .str (a ++ b))) .fail
      | _ => .fail
    | _, _ => .fail
def unD (op : UnOp) (p : PVal E) : Dec E (PVal E) :=
  match op, p with
  | .not, .v .bool b => boolD (!b)
  | .neg, .v (.int .u64) x => .ret (.v (.int .u64) (0 - x))
  | .neg, .v (.int .i64) x => .ret (.v (.int .i64) (w64 (0 - x)))
  | .xor, .v (.int .u64) x => .ret (.v (.int .u64) (~~~x))
  | _, _ => .fail
def convD (d : TI) (p : PVal E) : Dec E (PVal E) :=
  match p, d.ty with
  | .v (.int k) x, some (.int k') => intD k' (iconv k k' x)
  | .v .str s, some .str => .ret (.v .str s)
  | _, _ => .fail
def lookupD (i : Int) (z : PVal E) (ok : Bool) : List (PVal E × PVal E) → Dec E (PVal E)
  | [] => .ret (if ok then .tuple [z, .v .bool false] else z)
  | (.v (.int .i64) k, x) :: r => .br (decide (i = k)) (.ret (if ok then .tuple [x, .v .bool true] else x)) (lookupD i z ok r)
  | _ :: _ => .fail
def lookupMD (i : TI) (z : PVal E) (p k : PVal E) (ok : Bool) : Dec E (PVal E) :=
  if i.mp then match k with
  | .v (.int .i64) n => match p with
    | .map id => .rd id fun
      | .map _ es => lookupD n z ok es
      | _ => .fail
    | .nilm => .ret (if ok then .tuple [z, .v .bool false] else z)
    | _ => .fail
  | _ => .fail
  else .fail
def insD (id : Nat) (i : Int) (x : PVal E) : List (PVal E × PVal E) → List (PVal E × PVal E) → Dec E (PVal E)
  | acc, [] => .wr id (.map true (acc ++ [(.v (.int .i64) i, x)])) (.ret .skip)
  | acc, (.v (.int .i64) k, y) :: r => .br (decide (i = k)) (.wr id (.map true (acc ++ (.v (.int .i64) i, x) :: r)) (.ret .skip)) (insD id i x (acc ++ [(.v (.int .i64) k, y)]) r)
  | _, _ => .fail
def insertD (i : TI) (p k x : PVal E) : Dec E (PVal E) :=
  if i.mp then match k with
  | .v (.int .i64) n => match p with
    | .map id => .rd id fun
      | .map true es => insD id n x [] es
      | _ => .fail
    | _ => .fail
  | _ => .fail
  else .fail
def isNilC : Operand → Bool
  | .const (.slice none 0 0) => true
  | _ => false
def nilD (i : TI) (op : BinOp) (p : PVal E) : Dec E (PVal E) :=
  if i.sl then
    match op with
    | .eql => go fun b => b
    | .neq => go fun b => !b
    | _ => .fail
  else .fail
where
  go (f : Bool → Bool) : Dec E (PVal E) := match p with
    | .v (.slice _) l => .br l.isEmpty (.any fun b => boolD (f b)) (boolD (f false))
    | .nils => .any fun b => boolD (f b)
    | .own id => .rd id fun
      | .row _ _ l => .br l.isEmpty (.any fun b => boolD (f b)) (boolD (f false))
      | _ => .fail
    | .bsl _ _ => boolD (f false)
    | _ => .fail
def opD (tab : List (Nat × TI)) (mv : Bool) (fresh : Nat) (ρ : Operand → PVal E) (o : Op) : Dec E (PVal E) :=
  let T {α : Type} (t : Nat) (k : TI → Dec E α) : Dec E α := match look tab t with | some i => k i | none => .fail
  match o with
  | .move x | .assign x => .ret (ρ x)
  | .pick c a b => match ρ c with
    | .v .bool t => .br t (.ret (ρ a)) (.ret (ρ b))
    | _ => .fail
  | .alloc t => T t fun i => .wr fresh (.box true (i.zero.map Z.toP)) (.ret (.ptr fresh 0))
  | .box t x => T t fun i =>
    let x := ρ x
    if Nat.beq (cellsP x).length i.size && (cellsP x).all PVal.leaf then .wr fresh (.box true (cellsP x)) (.ret (.ptr fresh 0)) else .fail
  | .build t parts => T t fun i => buildD tab i (parts.toList.map fun p => (p.1, ρ p.2))
  | .buildSlice t len parts => T t fun i => T i.elem fun u => buildSliceD i u fresh len (parts.toList.map fun p => (p.1, ρ p.2))
  | .load t a => T t fun i => loadD i (ρ a)
  | .store t a x => T t fun i => storeD i (ρ a) (ρ x)
  | .nilCheck x => match ρ x with
    | .ptr id off => .ret (.ptr id off) | .eptr e id n off => .ret (.eptr e id n off) | .rptr cs => .ret (.rptr cs) | .fn f cs => .ret (.fn f cs) | _ => .fail
  | .binOp op t x y _ => T t fun i => if isNilC y then nilD i op (ρ x) else binD tab i op (ρ x) (ρ y)
  | .unOp op _ x => unD op (ρ x)
  | .convert s d x => T s fun _ => T d fun i => convD i (ρ x)
  | .makeFunc (.func f) first captured => if first.isEmpty then .ret (.fn f (captured.toList.map ρ)) else if captured.isEmpty then .ret (.bfn f (first.toList.map ρ)) else .fail
  | .makeSlice t l c => T t fun i => match i.ty with | some (.slice e) => makeSliceD e fresh (ρ l) (ρ c) | _ => .fail
  | .slice t x lo hi mx => T t fun i => sliceD i (look tab i.elem) mv fresh (ρ x) (lo.map ρ) (hi.map ρ) (mx.map ρ)
  | .fieldAddr t x f => T t fun i => fieldAddrD i (ρ x) f
  | .field t x f => T t fun i => fieldD tab i (ρ x) f
  | .indexAddr t x ix => T t fun i => T i.elem fun u => match ρ ix with
    | .v (.int .i64) k => indexAddrD i u (ρ x) k
    | _ => .fail
  | .makeMap _ none => .wr fresh (.map true []) (.ret (.map fresh))
  | .insert t m k x => T t fun i => insertD i (ρ m) (ρ k) (ρ x)
  | .lookup t m k ok => T t fun i => T i.elem fun u => lookupMD i (zeroOf u) (ρ m) (ρ k) ok
  | .extract t n => match ρ t with
    | .tuple vs => match vs[n]? with | some p => .ret p | none => .fail
    | _ => .fail
  | .call { callee := .builtin .len, args, argTypes } => match argTypes[0]?, args[0]? with
    | some t, some x => T t fun i => lenD i (ρ x)
    | _, _ => .fail
  | .call { callee := .builtin .append, args, argTypes } => match argTypes.toList, args.toList with
    | [t, t2], [x, y] => T t fun i => T t2 fun j => match i.ty with
      | some (.slice e) => if j.sl then appendD e fresh (ρ x) (ρ y) else if tyIs j (.int .i64) then appendZD e fresh (ρ x) (ρ y) else .fail
      | _ => .fail
    | _, _ => .fail
  | .call { callee := .builtin .copy, args, argTypes } => match argTypes.toList, args.toList with
    | [t, t2], [x, y] => T t fun i => T t2 fun j => match i.ty with
      | some (.slice e) => if j.sl then copyD e (ρ x) (ρ y) else .fail
      | _ => .fail
    | _, _ => .fail
  | .call { callee := .builtin .min, args, .. } => match args.toList.map ρ with
    | [.v (.int .i64) a, .v (.int .i64) b] => intD .i64 (mini .i64 a b)
    | [.v (.int .u64) a, .v (.int .u64) b] => intD .u64 (mini .u64 a b)
    | [.v (.int .i64) a, .v (.int .i64) b, .v (.int .i64) c] => match mini .i64 a b with | some x => intD .i64 (mini .i64 x c) | none => .fail
    | _ => .fail
  | .call { callee := .builtin .max, args, .. } => match args.toList.map ρ with
    | [.v (.int .i64) a, .v (.int .i64) b] => intD .i64 (maxi .i64 a b)
    | [.v (.int .u64) a, .v (.int .u64) b] => intD .u64 (maxi .u64 a b)
    | [.v (.int .i64) a, .v (.int .i64) b, .v (.int .i64) c] => match maxi .i64 a b with | some x => intD .i64 (maxi .i64 x c) | none => .fail
    | _ => .fail
  | _ => .fail
end
end Go.Pe
namespace Go.Pe
noncomputable section
variable {E : Types}
inductive SK where
  | any | val (τ : Ty) | ptr (j : Nat) | own (j : Nat) | fn (f : FuncId) (caps : List SK) | bsl (j n : Nat) | nilfn | map (j : Nat) | yld
inductive BK where
  | box (w : Bool) (ks : List SK) | row (w : Bool) (e : Ty) | gone | map (es : List (Int × SK))
structure Shape where
  vals : List SK
  blks : List BK
mutual
def SK.holes : SK → List Ty
  | .val τ => [τ]
  | .yld => [.int .i64, .int .i64]
  | .fn _ ks => SK.holesL ks
  | _ => []
def SK.holesL : List SK → List Ty
  | [] => []
  | k :: ks => k.holes ++ SK.holesL ks
end
def BK.holes : BK → List Ty
  | .box _ ks => SK.holesL ks
  | .row _ e => [.slice e]
  | .gone => []
  | .map es => SK.holesL (es.map (·.2))
def BK.holesL : List BK → List Ty
  | [] => []
  | b :: bs => b.holes ++ BK.holesL bs
def Shape.holes (S : Shape) : List Ty := SK.holesL S.vals ++ BK.holesL S.blks
def fillY (p q : PVal E) : PVal E := match p, q with
  | .v (.int .i64) n, .v (.int .i64) i => .yld n i
  | _, _ => .any
mutual
def fillK (N : Nat → Nat) : SK → List (PVal E) → PVal E × List (PVal E)
  | .any, r => (.any, r)
  | .val _, p :: r => (p, r)
  | .val _, [] => (.any, [])
  | .ptr j, r => (.ptr (N j) 0, r)
  | .own j, r => (.own (N j), r)
  | .bsl j n, r => (.bsl (N j) n, r)
  | .nilfn, r => (.nilfn, r)
  | .map j, r => (.map (N j), r)
  | .yld, p :: q :: r => (fillY p q, r)
  | .yld, r => (.any, r)
  | .fn f ks, r => let x := fillKs N ks r; (.fn f x.1, x.2)
def fillKs (N : Nat → Nat) : List SK → List (PVal E) → List (PVal E) × List (PVal E)
  | [], r => ([], r)
  | k :: ks, r => let x := fillK N k r; let y := fillKs N ks x.2; (x.1 :: y.1, y.2)
end
def fillB (N : Nat → Nat) : BK → List (PVal E) → Blk E × List (PVal E)
  | .box w ks, r => let x := fillKs N ks r; (.box w x.1, x.2)
  | .row w e, p :: r => (match p with | .v (.slice e') l => (match castTy (E := E) (.slice e') (.slice e) l with | some l => .row w e l | none => .free) | _ => .free, r)
  | .row _ _, [] => (.free, [])
  | .gone, r => (.free, r)
  | .map es, r => let x := fillKs N (es.map (·.2)) r; (.map false (((es.map (·.1)).map fun k => PVal.v (.int .i64) k).zip x.1), x.2)
def fillBs (N : Nat → Nat) : List BK → List (PVal E) → List (Blk E)
  | [], _ => []
  | b :: bs, r => let x := fillB N b r; x.1 :: fillBs N bs x.2
def fillS (N : Nat → Nat) (S : Shape) (ps : List (PVal E)) : List (PVal E) × List (Blk E) :=
  let x := fillKs N S.vals ps
  (x.1, fillBs N S.blks x.2)
abbrev Ren := List (Nat × Option Nat)
def Ren.get (ρ : Ren) (j : Nat) : Option (Option Nat) := match ρ with
  | [] => none
  | (i, x) :: r => if Nat.beq i j then some x else Ren.get r j
def Ren.bind (ρ : Ren) (j : Nat) (x : Option Nat) : Option Ren := match ρ.get j with
  | none => some (ρ ++ [(j, x)])
  | some (some y) => match x with | some z => if Nat.beq y z then some ρ else none | none => none
  | some none => none
mutual
def readK : SK → PVal E → Ren × List (PVal E) → Option (Ren × List (PVal E))
  | .any, _, s => some s
  | .val _, p, s => some (s.1, s.2 ++ [p])
  | .ptr j, .ptr id off, s => if Nat.beq off 0 then (s.1.bind j (some id)).map fun ρ => (ρ, s.2) else none
  | .own j, .own id, s => (s.1.bind j (some id)).map fun ρ => (ρ, s.2)
  | .own j, .nils, s => (s.1.bind j none).map fun ρ => (ρ, s.2)
  | .bsl j n, .bsl id m, s => if Nat.beq n m then (s.1.bind j (some id)).map fun ρ => (ρ, s.2) else none
  | .nilfn, .nilfn, s => some s
  | .map j, .map id, s => (s.1.bind j (some id)).map fun ρ => (ρ, s.2)
  | .yld, .yld n i, s => some (s.1, s.2 ++ [.v (.int .i64) n, .v (.int .i64) i])
  | .fn f ks, .fn g ps, s => if Nat.beq f g then readKs ks ps s else none
  | _, _, _ => none
def readKs : List SK → List (PVal E) → Ren × List (PVal E) → Option (Ren × List (PVal E))
  | [], [], s => some s
  | k :: ks, p :: ps, s => match readK k p s with | some s => readKs ks ps s | none => none
  | _, _, _ => none
end
def SK.solid : SK → Bool
  | .any => false | .val τ => τ.leaf | .yld => false | _ => true
def keysAre : List Int → List (PVal E × PVal E) → Bool
  | [], [] => true
  | k :: ks, (.v (.int .i64) n, _) :: es => decide (k = n) && keysAre ks es
  | _, _ => false
def readBs (H : List (Blk E)) : List BK → Nat → Ren × List (PVal E) → Option (Ren × List (PVal E))
  | [], _, s => some s
  | .gone :: bs, j, s => readBs H bs (j + 1) s
  | b :: bs, j, s => match s.1.get j with
    | some (some id) => match b, getB H id with
      | .box w ks, .box w' cs => if (!w || w') && ks.all SK.solid then (match readKs ks cs s with | some s => readBs H bs (j + 1) s | none => none) else none
      | .row w e, .row w' e' l => if w == w' then (match castTy (E := E) (.slice e') (.slice e) l with | some l => readBs H bs (j + 1) (s.1, s.2 ++ [.v (.slice e) l]) | none => none) else none
      | .map ks, .map _ es => if keysAre (ks.map (·.1)) es then (match readKs (ks.map (·.2)) (es.map (·.2)) s with | some s => readBs H bs (j + 1) s | none => none) else none
      | _, _ => none
    | some none => match b with
      | .row _ e => readBs H bs (j + 1) (s.1, s.2 ++ [.v (.slice e) []])
      | _ => none
    | none => none
def Ren.ids : Ren → List Nat
  | [] => []
  | (_, some id) :: r => id :: Ren.ids r
  | (_, none) :: r => Ren.ids r
def nodupB : List Nat → Bool
  | [] => true
  | a :: r => !(r.any fun b => Nat.beq a b) && nodupB r
def apartB (a b : List Nat) : Bool := a.all fun x => !(b.any fun y => Nat.beq x y)
def Ren.under (ρ : Ren) (bs : List BK) : Bool := ρ.all fun x => match bs[x.1]? with | some .gone => false | some _ => true | none => false
def readS (ρ0 : Ren) (S : Shape) (ps : List (PVal E)) (H : List (Blk E)) : Option (HL E.T S.holes × Ren × List Nat) :=
  match readKs S.vals ps (ρ0, []) with
  | some s => match readBs H S.blks 0 s with
    | some s => match toTs S.holes s.2 H with
      | some x => if s.1.under S.blks && nodupB s.1.ids && apartB s.1.ids x.2 then some (x.1, s.1, x.2) else none
      | none => none
    | none => none
  | none => none
structure Iso (E : Types) (ts : List Ty) where
  G : Type
  to : G → HL E.T ts
  of : HL E.T ts → G
  law : ∀ x, to (of x) = x
inductive Grp where
  | one (τ : Ty) | str (n : Nat)
def flatG (E : Types) : List Grp → List Ty
  | [] => []
  | .one τ :: gs => τ :: flatG E gs
  | .str n :: gs => E.leaves n ++ flatG E gs
@[reducible] def GL (E : Types) : List Grp → Type
  | [] => Unit
  | .one τ :: gs => Den E.T τ × GL E gs
  | .str n :: gs => E.T n × GL E gs
def HL.app {T : Nat → Type} : (a b : List Ty) → HL T a → HL T b → HL T (a ++ b)
  | [], _, _, y => y
  | _ :: a, b, x, y => (p1 x, HL.app a b (p2 x) y)
def HL.fst {T : Nat → Type} : (a b : List Ty) → HL T (a ++ b) → HL T a
  | [], _, _ => ()
  | _ :: a, b, x => (p1 x, HL.fst a b (p2 x))
def HL.snd {T : Nat → Type} : (a b : List Ty) → HL T (a ++ b) → HL T b
  | [], _, x => x
  | _ :: a, b, x => HL.snd a b (p2 x)
theorem HL.app_fst_snd {T : Nat → Type} : ∀ (a b : List Ty) (x : HL T (a ++ b)), HL.app a b (HL.fst a b x) (HL.snd a b x) = x
  | [], _, _ => rfl
  | _ :: a, b, x => by simp only [HL.app, HL.fst, HL.snd, HL.app_fst_snd a b]; rfl
def GL.to : (gs : List Grp) → GL E gs → HL E.T (flatG E gs)
  | [], _ => ()
  | .one _ :: gs, x => (p1 x, GL.to gs (p2 x))
  | .str n :: gs, x => HL.app (E.leaves n) (flatG E gs) (E.unpack n (p1 x)) (GL.to gs (p2 x))
def GL.of : (gs : List Grp) → HL E.T (flatG E gs) → GL E gs
  | [], _ => ()
  | .one _ :: gs, x => (p1 x, GL.of gs (p2 x))
  | .str n :: gs, x => (E.pack n (HL.fst (E.leaves n) (flatG E gs) x), GL.of gs (HL.snd (E.leaves n) (flatG E gs) x))
theorem GL.to_of : ∀ (gs : List Grp) (x : HL E.T (flatG E gs)), GL.to gs (GL.of gs x) = x
  | [], _ => rfl
  | .one _ :: gs, x => by simp only [GL.to, GL.of, GL.to_of gs]; rfl
  | .str n :: gs, x => by simp only [GL.to, GL.of, GL.to_of gs, E.up]; exact HL.app_fst_snd _ _ _
def HL.cast {T : Nat → Type} {a b : List Ty} (h : a = b) (x : HL T a) : HL T b := h ▸ x
def grp {ts : List Ty} (gs : List Grp) (h : flatG E gs = ts) : Iso E ts :=
  { G := GL E gs, to := fun g => HL.cast h (GL.to gs g), of := fun x => GL.of gs (HL.cast h.symm x), law := fun x => by subst h; exact GL.to_of gs x }
structure Spec (E : Types) where
  inn : Shape
  out : Shape
  gi : Iso E inn.holes
  go : Iso E out.holes
  F : gi.G → Option go.G
inductive Stop (A B C : Type) where
  | again (a : A) | brk (b : B) | ret (c : C)
structure LoopSpec (E : Types) where
  slots : List Nat
  inn : Shape
  brkId : Nat
  bslots : List Nat
  brk : Shape
  rslots : List Nat
  ret : Shape
  gi : Iso E inn.holes
  gb : Iso E brk.holes
  gr : Iso E ret.holes
inductive Ex where
  | normal | exit (id : Nat) | ret
  deriving DecidableEq
def upd (H : List (Blk E)) : List Nat → List (Blk E)
  | [] => H
  | id :: r => upd (H.set id (frz (getB H id))) r
def putNew (fresh : Nat) : List (Blk E) → Nat → List (Blk E) → List (Blk E)
  | [], _, H => H
  | b :: bs, t, H => putNew fresh bs (t + 1) (H.set (fresh + t) b)
def putBack (ρ : Ren) (fresh : Nat) : List BK → List BK → List (Blk E) → Nat → List (Blk E) → Option (List (Blk E))
  | [], _, bs, _, H => some (putNew fresh bs 0 H)
  | .box true _ :: ks, .box true _ :: os, b :: bs, j, H => match ρ.get j with
    | some (some id) => putBack ρ fresh ks os bs (j + 1) (H.set id b)
    | _ => none
  | .box false _ :: ks, .gone :: os, _ :: bs, j, H => putBack ρ fresh ks os bs (j + 1) H
  | .row true _ :: ks, .gone :: os, _ :: bs, j, H => match ρ.get j with
    | some (some id) => putBack ρ fresh ks os bs (j + 1) (H.set id .dead)
    | some none => putBack ρ fresh ks os bs (j + 1) H
    | none => none
  | .row false _ :: ks, .gone :: os, _ :: bs, j, H => putBack ρ fresh ks os bs (j + 1) H
  | .map _ :: ks, .gone :: os, _ :: bs, j, H => putBack ρ fresh ks os bs (j + 1) H
  | _, _, _, _, _ => none
def resultP : List (PVal E) → PVal E
  | [p] => p
  | ps => .tuple ps
def outN (ρ : Ren) (n fresh : Nat) (j : Nat) : Nat := if Nat.blt j n then (match ρ.get j with | some (some id) => id | _ => fresh) else fresh + (j - n)
def freeB (H : List (Blk E)) (fresh : Nat) : Nat → Bool
  | 0 => true
  | n + 1 => (match getB H fresh with | .free => true | _ => false) && Nat.blt fresh H.length && freeB H (fresh + 1) n
def BK.handsOut : BK → Bool
  | .box w _ => w | .map _ => false | _ => true
def BK.owns : BK → Bool
  | .box w _ => w | .map _ => false | _ => true
def callSpec {R : Type} (s : Spec E) (fresh : Nat) (args : List (PVal E)) (H : List (Blk E)) (K : PVal E → List (Blk E) → Option R) : Option R :=
  match readS [] s.inn args H with
  | some (x, ρ, fz) => (s.F (s.gi.of x)).bind fun y =>
    let n := s.inn.blks.length
    let r := fillS (outN ρ n fresh) s.out (HL.toP s.out.holes (s.go.to y))
    match putBack ρ fresh s.inn.blks s.out.blks r.2 0 (upd H fz) with
    | some H' => if freeB H fresh (s.out.blks.length - n) && s.out.blks.all BK.handsOut then K (resultP r.1) H' else none
    | none => none
  | none => none
structure IterSpec (E : Types) where
  inn : Shape
  e : Ty
  F : HL E.T inn.holes → Option (List (Den E.T e))
structure Cfg (E : Types) where
  P : Program
  tab : List (Nat × TI)
  specs : FuncId → List (Spec E)
  loops : Nat → Option (LoopSpec E)
  mv : Nat → Nat → Bool
  kept : Ren
  pick : Nat → Nat → List Nat
  yl : Bool
  ye : Ty
  yd : List (Den E.T ye)
  iters : FuncId → Option (IterSpec E)
abbrev Inl (E : Types) (R : Type) := FuncId → List (PVal E) → List (Blk E) → (PVal E → List (Blk E) → Option R) → Option R
def noInl : ∀ R, Inl E R := fun _ _ _ _ _ => none
def evalO (env : List (PVal E)) : Operand → PVal E
  | .tmp t => (env[t]?).getD .any
  | .const v => ofConst v
  | .func f => .fn f []
  | .global _ => .any
def put (env : List (PVal E)) (d : Option Nat) (p : PVal E) : List (PVal E) := match d with | some t => env.set t p | none => env
def calleeOf (env : List (PVal E)) (o : Op) : Option (FuncId × List (PVal E)) := match o with
  | .call { callee := .value f, args, .. } => match evalO env f with
    | .fn g caps => some (g, args.toList.map (evalO env) ++ caps)
    | .bfn g first => some (g, first ++ args.toList.map (evalO env))
    | _ => none
  | _ => none
variable (C : Cfg E)
def guardD {R : Type} (ops : Array Oper) (o : Oper) (env : List (PVal E)) (K : Bool → List (PVal E) → Option R) : Option R :=
  match o.guard with
  | none => K true env
  | some (j, want) => match (ops[j]?).bind (·.dst) with
    | none => none
    | some d => match (env[d]?).getD .any with
      | .v .bool b => bif b then K want (env.set d (.v .bool true)) else K (!want) (env.set d (.v .bool false))
      | .skip => K false env
      | _ => none
def need : Op → Nat
  | .alloc _ | .box .. | .buildSlice .. | .makeSlice .. | .slice .. | .makeMap .. => 1
  | .call { callee := .builtin .append, .. } => 1
  | .call { callee := .value _, .. } => 2
  | _ => 0
def needs (ops : Array Oper) : Nat := ops.toList.foldl (fun n o => n + need o.op) 0
def tryS {R : Type} (ss : List (Spec E)) (fresh : Nat) (args : List (PVal E)) (H : List (Blk E)) (K : PVal E → List (Blk E) → Option R) : List Nat → Option R
  | [] => none
  | [k] => match ss[k]? with
    | some s => callSpec s fresh args H K
    | none => none
  | k :: ks => match ss[k]? with
    | some s => (callSpec s fresh args H K).or (tryS ss fresh args H K ks)
    | none => none
def yieldOf (env : List (PVal E)) (o : Op) : Option (PVal E) := match o with
  | .call { callee := .value f, args, .. } => match evalO env f, args.toList with
    | .yld _ _, [x] => some (evalO env x)
    | _, _ => none
  | _ => none
def ownsAll (H : List (Blk E)) : Bool := H.all fun | .box w _ => w | .map w _ => w | _ => true
open Classical in
noncomputable def isNext {α : Type} (l : List α) (j : Int) (z : α) : Option Unit := if 0 ≤ j ∧ l[j.toNat]? = some z then some () else none
def noY : PVal E → PVal E
  | .yld _ _ => .any
  | p => p
def keepY : List (PVal E) → List (PVal E)
  | [] => []
  | p :: r => p :: r.map noY
noncomputable def stepP {R : Type} (rid i fresh spare : Nat) (o : Oper) (env : List (PVal E)) (H : List (Blk E)) (K : PVal E → List (Blk E) → Option R) : Option R :=
  match calleeOf env o.op with
  | some (f, args) => tryS (C.specs f) fresh args H K (C.pick rid i)
  | none =>
    let g := if Nat.beq (need o.op) 0 then spare else fresh
    if freeB H g 1 then (opD C.tab (C.mv rid i) g (evalO env) o.op).cps H K else none
noncomputable def stepY {R : Type} (rid i fresh spare : Nat) (o : Oper) (env : List (PVal E)) (H : List (Blk E)) (K : List (PVal E) → List (Blk E) → Option R) : Option R :=
  match o.op with
  | .move (.tmp 0) => K (put env o.dst ((env[0]?).getD .any)) H
  | _ => match yieldOf env o.op with
    | some x => match (env[0]?).getD .any with
      | .yld n j => (typed C.ye x fun z => (.ret z : Dec E (Den E.T C.ye))).cps H fun z H => if ownsAll H then (isNext C.yd j z).bind fun _ => K (put (env.set 0 (.yld n (j + 1))) o.dst (.v .bool true)) H else none
      | _ => none
    | none => stepP C rid i fresh spare o env H fun p H => K (put env o.dst (noY p)) H
noncomputable def stepO {R : Type} (inl : Inl E R) (rid i fresh spare : Nat) (ops : Array Oper) (o : Oper) (env : List (PVal E)) (H : List (Blk E))
    (K : List (PVal E) → List (Blk E) → Option R) : Option R :=
  guardD ops o env fun yes env =>
    if yes then
      (if C.yl then stepY C rid i fresh spare o env H K else stepP C rid i fresh spare o env H fun p H => K (put env o.dst p) H)
    else K (put env o.dst .skip) H
noncomputable def opsC {R : Type} (inl : Inl E R) (rid spare : Nat) (ops : Array Oper) : List Oper → Nat → Nat → List (PVal E) → List (Blk E) → (List (PVal E) → List (Blk E) → Option R) → Option R
  | [], _, _, env, H, K => K env H
  | o :: r, i, fresh, env, H, K => stepO C inl rid i fresh spare ops o env H fun env H => opsC inl rid spare ops r (i + 1) (fresh + need o.op) env H K
def Dec.cpsL {α R : Type} : Dec E α → List (Blk E) → List Nat → List Nat → (α → List (Blk E) → List Nat → List Nat → Option R) → Option R
  | .ret a, H, rs, ws, K => K a H rs ws
  | .fail, _, _, _, _ => none
  | .br b t e, H, rs, ws, K => bif b then t.cpsL H rs ws K else e.cpsL H rs ws K
  | .opt _ o k, H, rs, ws, K => o.bind fun x => (k x).cpsL H rs ws K
  | .rd id k, H, rs, ws, K => (k (getB H id)).cpsL H (id :: rs) ws K
  | .wr id b k, H, rs, ws, K => bif Nat.blt id H.length then k.cpsL (H.set id b) rs (id :: ws) K else none
  | .any _, _, _, _, _ => none
def wrIds (ρ : Ren) : List BK → Nat → List Nat
  | [], _ => []
  | .box true _ :: ks, j => (match ρ.get j with | some (some id) => [id] | _ => []) ++ wrIds ρ ks (j + 1)
  | .row true _ :: ks, j => (match ρ.get j with | some (some id) => [id] | _ => []) ++ wrIds ρ ks (j + 1)
  | _ :: ks, j => wrIds ρ ks (j + 1)
def callSpecL {R : Type} (s : Spec E) (fresh : Nat) (args : List (PVal E)) (H : List (Blk E)) (K : PVal E → List (Blk E) → List Nat → List Nat → Option R) : Option R :=
  match readS [] s.inn args H with
  | some (x, ρ, fz) => (s.F (s.gi.of x)).bind fun y =>
    let n := s.inn.blks.length
    let m := s.out.blks.length
    let r := fillS (outN ρ n fresh) s.out (HL.toP s.out.holes (s.go.to y))
    match putBack ρ fresh s.inn.blks s.out.blks r.2 0 (upd H fz) with
    | some H' => if freeB H fresh (m - n) && s.out.blks.all BK.handsOut then K (resultP r.1) H' (ρ.ids ++ fz) (fz ++ wrIds ρ s.inn.blks 0 ++ List.range' fresh (m - n)) else none
    | none => none
  | none => none
def stepL {R : Type} (rid i fresh spare : Nat) (ops : Array Oper) (o : Oper) (env : List (PVal E)) (H : List (Blk E))
    (K : List (PVal E) → List (Blk E) → List Nat → List Nat → Option R) : Option R :=
  guardD ops o env fun yes env =>
    if yes then
      match calleeOf env o.op with
      | some (f, args) => match C.pick rid i with
        | [k] => match (C.specs f)[k]? with
          | some s => callSpecL s fresh args H fun p H rs ws => K (put env o.dst p) H rs ws
          | none => none
        | _ => none
      | none =>
        if Nat.beq (need o.op) 0 then
          (if freeB H spare 1 then (opD C.tab (C.mv rid i) spare (evalO env) o.op).cpsL H [] [] fun p H rs ws => K (put env o.dst p) H rs ws else none)
        else if freeB H fresh 1 then (opD C.tab (C.mv rid i) fresh (evalO env) o.op).cpsL H [fresh] [] fun p H rs ws => K (put env o.dst p) H rs ws else none
    else K (put env o.dst .skip) H [] []
def befL : List Oper → List Nat → List Nat
  | [], acc => acc
  | o :: r, acc => befL r (acc ++ [o.after.foldl (fun s e => if Region.binds .any e then s ||| 2 ^ e.on ||| acc.getD e.on 0 else s) 0])
def maskOf : List Nat → Nat
  | [] => 0
  | a :: l => Nat.lor (maskOf l) (Nat.pow 2 a)
def meets (mask : Nat) (r w : Nat) : List (Nat × Nat × Nat) → Bool
  | [] => true
  | (k, rk, wk) :: l => (Nat.testBit mask k || (Nat.beq (Nat.land wk r) 0 && Nat.beq (Nat.land wk w) 0 && Nat.beq (Nat.land rk w) 0)) && meets mask r w l
def normN {R : Type} (n : Nat) (K : Nat → R) : R := match n with
  | 0 => K 0
  | m + 1 => K (m + 1)
theorem normN_eq {R : Type} (n : Nat) (K : Nat → R) : normN n K = K n := by cases n <;> rfl
def opsL {R : Type} (rid spare : Nat) (ops : Array Oper) : List Oper → List Nat → Nat → Nat → List (Nat × Nat × Nat) → List (PVal E) → List (Blk E) → (List (PVal E) → List (Blk E) → Option R) → Option R
  | [], _, _, _, _, env, H, K => K env H
  | _ :: _, [], _, _, _, _, _, _ => none
  | o :: r, mask :: ms, i, fresh, log, env, H, K => stepL C rid i fresh spare ops o env H fun env H rs ws =>
    match rs, ws with
    | [], [] => opsL rid spare ops r ms (i + 1) (fresh + need o.op) log env H K
    | rs, ws => normN (maskOf rs) fun mr => normN (maskOf ws) fun mw =>
      if meets mask mr mw log && !(Nat.testBit mw spare) then
        opsL rid spare ops r ms (i + 1) (fresh + need o.op) ((i, mr, mw) :: log) env H K
      else none
def looks (ops : Array Oper) (o : Oper) : List Nat := o.looksAt ops
def sameDst (a b : Option Nat) : Bool := match a, b with | some x, some y => Nat.beq x y | _, _ => false
def dstIn (a : Option Nat) (l : List Nat) : Bool := match a with | some x => l.any fun y => Nat.beq x y | none => false
def regOk (ops : Array Oper) : Bool :=
  let bef := befL ops.toList []
  (List.range ops.size).all fun j => match ops[j]?, bef[j]? with
    | some oj, some m => oj.after.all (fun e => !Region.binds .any e || Nat.blt e.on j) && (match oj.op with | .select .. => false | _ => true) &&
      (List.range j).all fun i => Nat.testBit m i || (match ops[i]? with
        | some oi => !sameDst oi.dst oj.dst && !dstIn oi.dst (looks ops oj) && !dstIn oj.dst (looks ops oi)
        | none => true)
    | _, _ => false
def slotsOf (env : List (PVal E)) (l : List Nat) : List (PVal E) := l.map fun t => (env[t]?).getD .any
def envOf (n : Nat) (l : List Nat) (ps : List (PVal E)) : List (PVal E) := (l.zip ps).foldl (fun e x => e.set x.1 x.2) (List.replicate n .any)
def firstR : Code → Nat
  | .region id _ _ => id
  | .seq a _ => firstR a
  | .block _ a => firstR a
  | .loop a => firstR a
  | .cond _ a _ => firstR a
  | _ => 0
def entry (n : Nat) (slots : List Nat) (S : Shape) (x : HL E.T S.holes) : List (PVal E) × List (Blk E) :=
  let r := fillS id S (HL.toP S.holes x)
  (envOf n slots r.1, r.2)
def iter {A B D : Type} (f : A → Option (Stop A B D)) : Nat → A → Option (Stop Unit B D)
  | 0, _ => none
  | n + 1, x => (f x).bind fun
    | .again y => iter f n y
    | .brk b => some (.brk b)
    | .ret c => some (.ret c)
def rounds : Nat := 18446744073709551616
noncomputable def loopF {A B D : Type} (f : A → Option (Stop A B D)) : A → Option (Stop Unit B D) := hide (iter f rounds)
theorem loopF_eq {A B D : Type} (f : A → Option (Stop A B D)) (x : A) : loopF f x = iter f rounds x := congrFun (hide_eq _) x
abbrev Exec (E : Types) := ∀ R : Type, List (PVal E) → List (Blk E) → (Ex → List (PVal E) → List (Blk E) → Option R) → Option R
noncomputable def roundBy (ex : Exec E) (n : Nat) (l : LoopSpec E) (x : l.gi.G) : Option (Stop l.gi.G l.gb.G l.gr.G) :=
  let s := entry n l.slots l.inn (l.gi.to x)
  ex _ s.1 s.2 fun ex env H => match ex with
    | .normal => (readS C.kept l.inn (slotsOf env l.slots) H).map fun y => .again (l.gi.of y.1)
    | .exit j => if Nat.beq j l.brkId then (readS C.kept l.brk (slotsOf env l.bslots) H).map fun y => .brk (l.gb.of y.1) else none
    | .ret => (readS C.kept l.ret (slotsOf env l.rslots) H).map fun y => .ret (l.gr.of y.1)
noncomputable def foldY {A B : Type} (f : B → A → Option A) : List B → A → Option A
  | [], a => some a
  | y :: ys, a => (f y a).bind (foldY f ys)
noncomputable def roundY (as body : Exec E) (n : Nat) (l : LoopSpec E) (t : Nat) (e : Ty) (y : Den E.T e) (z : l.gi.G) : Option l.gi.G :=
  let s := entry n l.slots l.inn (l.gi.to z)
  as _ (s.1.set t (.v e y)) s.2 fun ex env H => match ex with
    | .normal => body _ env H fun ex _ H => match ex with
      | .normal => (readS C.kept l.inn (slotsOf s.1 l.slots) H).map fun y => l.gi.of y.1
      | _ => none
    | _ => none
def flatB : Code → Bool
  | .skip => true | .region _ _ _ => true | .seq a b => flatB a && flatB b | .cond _ a b => flatB a && flatB b | .block _ a => flatB a | .exit _ => true | _ => false
def noDst0 (ops : Array Oper) : Bool := ops.toList.all fun o => match o.dst with | some d => !Nat.beq d 0 | none => true
def SK.notY : SK → Bool
  | .yld => false | _ => true
def yShape (slots : List Nat) (vals : List SK) : Bool := match slots, vals with
  | t :: ts, .yld :: ks => Nat.beq t 0 && (ts.all fun s => !Nat.beq s 0) && ks.all SK.notY
  | _, _ => false
def normP {R : Type} (p : PVal E) (K : PVal E → R) : R := match p with
  | .any => K .any
  | .skip => K .skip
  | .v τ x => K (.v τ x)
  | .nils => K .nils
  | .own id => normN id fun id => K (.own id)
  | .ptr id off => normN id fun id => normN off fun off => K (.ptr id off)
  | p => K p
theorem normP_eq {R : Type} (p : PVal E) (K : PVal E → R) : normP p K = K p := by cases p <;> simp only [normP, normN_eq]
def normPs {R : Type} : List (PVal E) → (List (PVal E) → R) → R
  | [], K => K []
  | p :: ps, K => normP p fun p => normPs ps fun ps => K (p :: ps)
theorem normPs_eq {R : Type} : ∀ (ps : List (PVal E)) (K : List (PVal E) → R), normPs ps K = K ps
  | [], K => rfl
  | p :: ps, K => by simp only [normPs, normP_eq, normPs_eq ps]
def normB {R : Type} (b : Blk E) (K : Blk E → R) : R := match b with
  | .box w cs => normPs cs fun cs => K (.box w cs)
  | .row w e l => K (.row w e l)
  | .free => K .free
  | .dead => K .dead
  | .map w es => K (.map w es)
theorem normB_eq {R : Type} (b : Blk E) (K : Blk E → R) : normB b K = K b := by cases b <;> simp only [normB, normPs_eq]
def normH {R : Type} : List (Blk E) → (List (Blk E) → R) → R
  | [], K => K []
  | b :: bs, K => normB b fun b => normH bs fun bs => K (b :: bs)
theorem normH_eq {R : Type} : ∀ (H : List (Blk E)) (K : List (Blk E) → R), normH H K = K H
  | [], K => rfl
  | b :: bs, K => by simp only [normH, normB_eq, normH_eq bs]
def normS {R : Type} (env : List (PVal E)) (H : List (Blk E)) (K : List (PVal E) → List (Blk E) → R) : R := normPs env fun env => normH H fun H => K env H
theorem normS_eq {R : Type} (env : List (PVal E)) (H : List (Blk E)) (K : List (PVal E) → List (Blk E) → R) : normS env H K = K env H := by simp only [normS, normPs_eq, normH_eq]
def setK {α R : Type} : List α → Nat → α → (List α → R) → R
  | [], _, _, K => K []
  | _ :: l, 0, p, K => K (p :: l)
  | x :: l, t + 1, p, K => setK l t p fun l => K (x :: l)
theorem setK_eq {α R : Type} : ∀ (l : List α) (t : Nat) (p : α) (K : List α → R), setK l t p K = K (l.set t p)
  | [], _, _, _ => rfl
  | _ :: _, 0, _, _ => rfl
  | x :: l, t + 1, p, K => by simp only [setK, setK_eq l, List.set]
def putK {R : Type} (env : List (PVal E)) (d : Option Nat) (p : PVal E) (K : List (PVal E) → R) : R := match d with
  | some t => normP p fun p => setK env t p K
  | none => K env
theorem putK_eq {R : Type} (env : List (PVal E)) (d : Option Nat) (p : PVal E) (K : List (PVal E) → R) : putK env d p K = K (put env d p) := by
  cases d <;> simp only [putK, put, normP_eq, setK_eq]
def Dec.cpsN {α R : Type} : Dec E α → List (Blk E) → (α → List (Blk E) → Option R) → Option R
  | .ret a, H, K => K a H
  | .fail, _, _ => none
  | .br b t e, H, K => bif b then t.cpsN H K else e.cpsN H K
  | .opt _ o k, H, K => o.bind fun x => (k x).cpsN H K
  | .rd id k, H, K => (k (getB H id)).cpsN H K
  | .wr id b k, H, K => bif Nat.blt id H.length then normB b fun b => setK H id b fun H => k.cpsN H K else none
  | .any k, H, K => both ((k true).cpsN H K) ((k false).cpsN H K)
theorem Dec.cpsN_eq {α R : Type} : ∀ (d : Dec E α) (H : List (Blk E)) (K : α → List (Blk E) → Option R), d.cpsN H K = d.cps H K
  | .ret a, H, K => rfl
  | .fail, _, _ => rfl
  | .br b t e, H, K => by simp only [cpsN, cps, cpsN_eq t, cpsN_eq e]
  | .opt _ o k, H, K => by simp only [cpsN, cps, cpsN_eq (k _)]
  | .rd id k, H, K => by simp only [cpsN, cps, cpsN_eq (k _)]
  | .wr id b k, H, K => by simp only [cpsN, cps, cpsN_eq k, normB_eq, setK_eq]
  | .any k, H, K => by simp only [cpsN, cps, cpsN_eq (k _)]
def Dec.cpsLN {α R : Type} : Dec E α → List (Blk E) → List Nat → List Nat → (α → List (Blk E) → List Nat → List Nat → Option R) → Option R
  | .ret a, H, rs, ws, K => K a H rs ws
  | .fail, _, _, _, _ => none
  | .br b t e, H, rs, ws, K => bif b then t.cpsLN H rs ws K else e.cpsLN H rs ws K
  | .opt _ o k, H, rs, ws, K => o.bind fun x => (k x).cpsLN H rs ws K
  | .rd id k, H, rs, ws, K => normN id fun id => (k (getB H id)).cpsLN H (id :: rs) ws K
  | .wr id b k, H, rs, ws, K => bif Nat.blt id H.length then normN id fun id => normB b fun b => setK H id b fun H => k.cpsLN H rs (id :: ws) K else none
  | .any _, _, _, _, _ => none
theorem Dec.cpsLN_eq {α R : Type} : ∀ (d : Dec E α) (H : List (Blk E)) (rs ws : List Nat) (K : α → List (Blk E) → List Nat → List Nat → Option R), d.cpsLN H rs ws K = d.cpsL H rs ws K
  | .ret a, H, _, _, K => rfl
  | .fail, _, _, _, _ => rfl
  | .br b t e, H, _, _, K => by simp only [cpsLN, cpsL, cpsLN_eq t, cpsLN_eq e]
  | .opt _ o k, H, _, _, K => by simp only [cpsLN, cpsL, cpsLN_eq (k _)]
  | .rd id k, H, _, _, K => by simp only [cpsLN, cpsL, cpsLN_eq (k _), normN_eq]
  | .wr id b k, H, _, _, K => by simp only [cpsLN, cpsL, cpsLN_eq k, normB_eq, setK_eq, normN_eq]
  | .any _, H, _, _, K => rfl
def guardN {R : Type} (ops : Array Oper) (o : Oper) (env : List (PVal E)) (K : Bool → List (PVal E) → Option R) : Option R :=
  match o.guard with
  | none => K true env
  | some (j, want) => match (ops[j]?).bind (·.dst) with
    | none => none
    | some d => match (env[d]?).getD .any with
      | .v .bool b => bif b then setK env d (.v .bool true) fun env => K want env else setK env d (.v .bool false) fun env => K (!want) env
      | .skip => K false env
      | _ => none
theorem guardN_eq {R : Type} (ops : Array Oper) (o : Oper) (env : List (PVal E)) (K : Bool → List (PVal E) → Option R) : guardN ops o env K = guardD ops o env K := by
  unfold guardN guardD
  simp only [setK_eq]
def stepPN {R : Type} (rid i fresh spare : Nat) (o : Oper) (env : List (PVal E)) (H : List (Blk E)) (K : PVal E → List (Blk E) → Option R) : Option R :=
  match calleeOf env o.op with
  | some (f, args) => tryS (C.specs f) fresh args H (fun p H => normH H fun H => K p H) (C.pick rid i)
  | none =>
    let g := if Nat.beq (need o.op) 0 then spare else fresh
    if freeB H g 1 then (opD C.tab (C.mv rid i) g (evalO env) o.op).cpsN H K else none
theorem stepPN_eq {R : Type} (rid i fresh spare : Nat) (o : Oper) (env : List (PVal E)) (H : List (Blk E)) (K : PVal E → List (Blk E) → Option R) : stepPN C rid i fresh spare o env H K = stepP C rid i fresh spare o env H K := by
  unfold stepPN stepP
  simp only [normH_eq, Dec.cpsN_eq]
def stepN {R : Type} (rid i fresh spare : Nat) (ops : Array Oper) (o : Oper) (env : List (PVal E)) (H : List (Blk E)) (K : List (PVal E) → List (Blk E) → Option R) : Option R :=
  guardN ops o env fun yes env =>
    if yes then
      (if C.yl then stepY C rid i fresh spare o env H K else stepPN C rid i fresh spare o env H fun p H => putK env o.dst p fun env => K env H)
    else putK env o.dst .skip fun env => K env H
theorem stepN_eq {R : Type} (rid i fresh spare : Nat) (ops : Array Oper) (o : Oper) (env : List (PVal E)) (H : List (Blk E)) (K : List (PVal E) → List (Blk E) → Option R) : stepN C rid i fresh spare ops o env H K = stepO C (noInl _) rid i fresh spare ops o env H K := by
  unfold stepN stepO
  simp only [guardN_eq, putK_eq, stepPN_eq]
def opsN {R : Type} (rid spare : Nat) (ops : Array Oper) : List Oper → Nat → Nat → List (PVal E) → List (Blk E) → (List (PVal E) → List (Blk E) → Option R) → Option R
  | [], _, _, env, H, K => K env H
  | o :: r, i, fresh, env, H, K => stepN C rid i fresh spare ops o env H fun env H => normN (i + 1) fun i => normN (fresh + need o.op) fun fresh => opsN rid spare ops r i fresh env H K
theorem opsN_eq {R : Type} (rid spare : Nat) (ops : Array Oper) : ∀ (l : List Oper) (i fresh : Nat) (env : List (PVal E)) (H : List (Blk E)) (K : List (PVal E) → List (Blk E) → Option R), opsN C rid spare ops l i fresh env H K = opsC C (noInl _) rid spare ops l i fresh env H K
  | [], _, _, _, _, _ => rfl
  | o :: r, i, fresh, env, H, K => by simp only [opsN, opsC, stepN_eq, normN_eq, opsN_eq rid spare ops r]
def stepLN {R : Type} (rid i fresh spare : Nat) (ops : Array Oper) (o : Oper) (env : List (PVal E)) (H : List (Blk E))
    (K : List (PVal E) → List (Blk E) → List Nat → List Nat → Option R) : Option R :=
  guardN ops o env fun yes env =>
    if yes then
      match calleeOf env o.op with
      | some (f, args) => match C.pick rid i with
        | [k] => match (C.specs f)[k]? with
          | some s => callSpecL s fresh args H fun p H rs ws => normH H fun H => putK env o.dst p fun env => K env H rs ws
          | none => none
        | _ => none
      | none =>
        if Nat.beq (need o.op) 0 then
          (if freeB H spare 1 then (opD C.tab (C.mv rid i) spare (evalO env) o.op).cpsLN H [] [] fun p H rs ws => putK env o.dst p fun env => K env H rs ws else none)
        else if freeB H fresh 1 then (opD C.tab (C.mv rid i) fresh (evalO env) o.op).cpsLN H [fresh] [] fun p H rs ws => putK env o.dst p fun env => K env H rs ws else none
    else putK env o.dst .skip fun env => K env H [] []
theorem stepLN_eq {R : Type} (rid i fresh spare : Nat) (ops : Array Oper) (o : Oper) (env : List (PVal E)) (H : List (Blk E))
    (K : List (PVal E) → List (Blk E) → List Nat → List Nat → Option R) : stepLN C rid i fresh spare ops o env H K = stepL C rid i fresh spare ops o env H K := by
  unfold stepLN stepL
  simp only [guardN_eq, putK_eq, normH_eq, Dec.cpsLN_eq]
def opsLN {R : Type} (rid spare : Nat) (ops : Array Oper) : List Oper → List Nat → Nat → Nat → List (Nat × Nat × Nat) → List (PVal E) → List (Blk E) → (List (PVal E) → List (Blk E) → Option R) → Option R
  | [], _, _, _, _, env, H, K => K env H
  | _ :: _, [], _, _, _, _, _, _ => none
  | o :: r, mask :: ms, i, fresh, log, env, H, K => stepLN C rid i fresh spare ops o env H fun env H rs ws =>
    normN (i + 1) fun i1 => normN (fresh + need o.op) fun fresh1 =>
    match rs, ws with
    | [], [] => opsLN rid spare ops r ms i1 fresh1 log env H K
    | rs, ws => normN (maskOf rs) fun mr => normN (maskOf ws) fun mw =>
      if meets mask mr mw log && !(Nat.testBit mw spare) then
        opsLN rid spare ops r ms i1 fresh1 ((i, mr, mw) :: log) env H K
      else none
theorem opsLN_eq {R : Type} (rid spare : Nat) (ops : Array Oper) : ∀ (l : List Oper) (ms : List Nat) (i fresh : Nat) (log : List (Nat × Nat × Nat)) (env : List (PVal E)) (H : List (Blk E)) (K : List (PVal E) → List (Blk E) → Option R), opsLN C rid spare ops l ms i fresh log env H K = opsL C rid spare ops l ms i fresh log env H K
  | [], _, _, _, _, _, _, _ => by simp only [opsLN, opsL]
  | _ :: _, [], _, _, _, _, _, _ => by simp only [opsLN, opsL]
  | o :: r, mask :: ms, i, fresh, log, env, H, K => by simp only [opsLN, opsL, stepLN_eq, normN_eq, opsLN_eq rid spare ops r]
noncomputable def exec : Code → Exec E
  | .skip, _, env, H, K => K .normal env H
  | .region rid ops draw, _, env, H, K =>
    normN (needs ops) fun n => normN H.length fun L =>
    if C.yl && !noDst0 ops then none else
    if draw then (if regOk ops then opsLN C rid (L + n) ops ops.toList (befL ops.toList []) 0 L [] env (H ++ List.replicate (n + 1) .free) fun env H => normS (if C.yl then keepY env else env) H fun env H => K .normal env H else none) else opsN C rid (L + n) ops ops.toList 0 L env (H ++ List.replicate (n + 1) .free) fun env H => normS env H fun env H => K .normal env H
  | .seq a b, _, env, H, K => exec a _ env H fun ex env H => match ex with
    | .normal => exec b _ env H K
    | ex => K ex env H
  | .cond c a b, _, env, H, K => match evalO env c with
    | .v .bool t => bif t then exec a _ env H K else exec b _ env H K
    | _ => none
  | .block id a, _, env, H, K => exec a _ env H fun ex env H => match ex with
    | .exit j => if Nat.beq j id then K .normal env H else K (.exit j) env H
    | ex => K ex env H
  | .loop a, _, env, H, K => match C.loops (firstR a) with
    | some l => if C.yl && !(yShape l.slots l.inn.vals && yShape l.bslots l.brk.vals && yShape l.rslots l.ret.vals) then none else match readS C.kept l.inn (slotsOf env l.slots) H with
      | some (x, _, _) => (loopF (roundBy C (exec a) env.length l) (l.gi.of x)).bind fun
        | .again _ => none
        | .brk y => K (.exit l.brkId) (entry env.length l.bslots l.brk (l.gb.to y)).1 (entry env.length l.bslots l.brk (l.gb.to y)).2
        | .ret y => K .ret (entry env.length l.rslots l.ret (l.gr.to y)).1 (entry env.length l.rslots l.ret (l.gr.to y)).2
      | none => none
    | none => none
  | .rangeFunc f ps as body, _, env, H, K => match evalO env f, ps.toList with
    | .fn g caps, [t] => match C.iters g, C.loops (firstR as) with
      | some it, some l => match readS [] it.inn caps H with
        | some (x, ρ, fz) => (it.F x).bind fun ys => match readS C.kept l.inn (slotsOf env l.slots) (upd H fz) with
          | some (z, ρ2, fz2) =>
            if flatB as && flatB body && apartB ρ.ids ρ2.ids && apartB ρ.ids fz2 && !C.yl && l.inn.blks.all BK.owns then
              (foldY (roundY C (exec as) (exec body) env.length l t it.e) ys (l.gi.of z)).bind fun z => K .normal (entry env.length l.slots l.inn (l.gi.to z)).1 (entry env.length l.slots l.inn (l.gi.to z)).2
            else none
          | none => none
        | none => none
      | _, _ => none
    | _, _ => none
  | .exit id, _, env, H, K => K (.exit id) env H
  | .ret, _, env, H, K => K .ret env H
  | _, _, _, _, _ => none
noncomputable def resC {R : Type} (tab : List (Nat × TI)) (env : List (PVal E)) (H : List (Blk E)) : List ResultVar → (List (PVal E) → Option R) → Option R
  | [], K => K []
  | .tmp t :: r, K => resC tab env H r fun ps => K ((env[t]?).getD .any :: ps)
  | .cell a t :: r, K => match look tab t, (env[a]?).getD .any with
    | some i, .ptr id off => match getB H id with
      | .box _ cs => (outD i (sub cs off i.size)).cps H fun p _ => resC tab env H r fun ps => K (p :: ps)
      | _ => none
    | _, _ => none
def keptR : List BK → Nat → Ren
  | [], _ => []
  | .box true _ :: ks, j => (j, some j) :: keptR ks (j + 1)
  | _ :: ks, j => keptR ks (j + 1)
def readO (inn out : Shape) (go : Iso E out.holes) (ps : List (PVal E)) (H : List (Blk E)) : Option go.G := (readS (keptR inn.blks 0) out ps H).map fun x => go.of x.1
noncomputable def bodyOf (fn : Func) (inn out : Shape) (gi : Iso E inn.holes) (go : Iso E out.holes) (g : gi.G) : Option go.G :=
  let x := gi.to g
  match fn.body with
  | none => none
  | some c =>
    let s := fillS id inn (HL.toP inn.holes x)
    exec C c _ (s.1 ++ List.replicate (fn.ntmps - s.1.length) .skip) s.2 fun ex env H => match ex with
      | .exit _ => none
      | _ => resC C.tab env H fn.results.toList fun ps => readO inn out go ps H
noncomputable def iterOf (fn : Func) (inn : Shape) (n : Int) (x : HL E.T inn.holes) : Option Int :=
  match fn.body with
  | none => none
  | some c =>
    let s := fillS id inn (HL.toP inn.holes x)
    exec C c _ ((.yld n 0 :: s.1) ++ List.replicate (fn.ntmps - (s.1.length + 1)) .skip) s.2 fun ex env H => match ex with
      | .exit _ => none
      | _ => if fn.results.isEmpty then (match (env[0]?).getD .any with
        | .yld _ i => some i
        | _ => none) else none
end
end Go.Pe
namespace Go.Pe
inductive Loc where
  | blk (b off len cap : Nat) | none (a : Option Addr)
def Ty.size (E : Types) : Ty → Nat
  | .named n => (E.leaves n).length
  | .arr n e => n * e.size E
  | .bool => 1 | .int _ => 1 | .str => 1 | .slice _ => 1
def HL.get {T : Nat → Type} : (ts : List Ty) → HL T ts → (i : Nat) → (h : i < ts.length) → Den T ts[i]
  | _ :: _, x, 0, _ => x.1
  | _ :: ts, x, i + 1, h => HL.get ts x.2 i (Nat.lt_of_succ_lt_succ h)
section
variable (E : Types) (w : World) (A : Nat → Prop)
inductive RepT : (τ : Ty) → Value → Den E.T τ → Prop where
  | bool (b : Bool) : RepT .bool (.bool b) b
  | int (k : IntKind) (x : IntDen k) : RepT (.int k) (.int k (toZ k x)) x
  | str (s : ByteArray) : RepT .str (.string s) s
  | nil (e : Ty) (a : Option Addr) (cap : Nat) : RepT (.slice e) (.slice a 0 cap) ([] : List (Den E.T e))
  | slice (e : Ty) (b off cap : Nat) (l : List (Den E.T e)) (vs : Nat → Value) (hA : ¬ A b) (hb : b < w.heap.size) (hc : l.length ≤ cap)
      (hm : ∀ i, i < l.length → ∀ j u, (vs i).cells[j]? = some u → w.cell? ⟨b, off + i * e.size E + j, none⟩ = some u)
      (hr : ∀ i (h : i < l.length), RepT e (vs i) l[i]) : RepT (.slice e) (.slice (some ⟨b, off, none⟩) l.length cap) l
  | named (n : Nat) (cs : Array Value) (x : E.T n) (hs : cs.size = (E.leaves n).length)
      (h : ∀ i (hi : i < (E.leaves n).length), RepT (E.leaves n)[i] (cs.getD i undef) (HL.get (E.leaves n) (E.unpack n x) i hi)) : RepT (.named n) (.agg cs) x
  | arr (n : Nat) (e : Ty) (cs : Array Value) (l : List (Den E.T e)) (vs : Nat → Value) (hl : l.length = n) (hs : cs.size = n * e.size E)
      (hm : ∀ i, i < n → ∀ j u, (vs i).cells[j]? = some u → cs[i * e.size E + j]? = some u)
      (hr : ∀ i (h : i < l.length), RepT e (vs i) l[i]) : RepT (.arr n e) (.agg cs) l
inductive RepP (U : Nat → Prop) (μ : Nat → Loc) : PVal E → Value → Prop where
  | any (v : Value) : RepP U μ .any v
  | skip : RepP U μ .skip undef
  | v (τ : Ty) (x : Den E.T τ) (v : Value) (h : RepT E w A τ v x) : RepP U μ (.v τ x) v
  | agg (ps : List (PVal E)) (cs : Array Value) (hs : cs.size = ps.length) (h : ∀ i (hi : i < ps.length), RepP U μ ps[i] (cs.getD i undef)) : RepP U μ (.agg ps) (.agg cs)
  | tuple (ps : List (PVal E)) (cs : Array Value) (hs : cs.size = ps.length) (h : ∀ i (hi : i < ps.length), RepP U μ ps[i] (cs.getD i undef)) : RepP U μ (.tuple ps) (.tuple cs)
  | nils (a : Option Addr) : RepP U μ .nils (.slice a 0 0)
  | own (id b off len cap : Nat) (hU : U id) (hμ : μ id = .blk b off len cap) : RepP U μ (.own id) (.slice (some ⟨b, off, none⟩) len cap)
  | own0 (id : Nat) (a a2 : Option Addr) (hU : U id) (hμ : μ id = .none a2) : RepP U μ (.own id) (.slice a 0 0)
  | full (e : Ty) (l : List (Den E.T e)) (a : Option Addr) (h : RepT E w A (.slice e) (.slice a l.length l.length) l) : RepP U μ (.full e l) (.slice a l.length l.length)
  | bsl (id n b : Nat) (hU : U id) (hμ : μ id = .blk b 0 n n) : RepP U μ (.bsl id n) (.slice (some ⟨b, 0, none⟩) n n)
  | ptr (id off b len cap : Nat) (hU : U id) (hμ : μ id = .blk b 0 len cap) : RepP U μ (.ptr id off) (.pointer (some ⟨b, off, none⟩))
  | eptr (e : Ty) (id i off b o len cap : Nat) (hU : U id) (hμ : μ id = .blk b o len cap) (hi : i < len) : RepP U μ (.eptr e id i off) (.pointer (some ⟨b, o + i * e.size E + off, none⟩))
  | rptr (ps : List (PVal E)) (b o : Nat) (us : Nat → Value) (hA : ¬ A b) (hb : b < w.heap.size) (hm : ∀ j, j < ps.length → w.cell? ⟨b, o + j, none⟩ = some (us j))
      (hr : ∀ j (h : j < ps.length), RepP U μ ps[j] (us j)) : RepP U μ (.rptr ps) (.pointer (some ⟨b, o, none⟩))
  | fn (f : FuncId) (ps : List (PVal E)) (cs : Array Value) (hs : cs.size = ps.length) (h : ∀ i (hi : i < ps.length), RepP U μ ps[i] (cs.getD i undef)) : RepP U μ (.fn f ps) (.func (.func f) #[] cs)
  | nilfn : RepP U μ .nilfn .nilFunc
  | nilp : RepP U μ .nilp (.pointer none)
  | bfn (f : FuncId) (ps : List (PVal E)) (cs : Array Value) (hs : cs.size = ps.length) (h : ∀ i (hi : i < ps.length), RepP U μ ps[i] (cs.getD i undef)) : RepP U μ (.bfn f ps) (.func (.func f) cs #[])
  | yld (n i : Int) : RepP U μ (.yld n i) (.func (.yield n.toNat) #[] #[])
  | nilm : RepP U μ .nilm (.map none)
  | map (id b : Nat) (hU : U id) (hμ : μ id = .blk b 0 0 0) : RepP U μ (.map id) (.map (some b))
end
variable {E : Types}
theorem RepT.mono {w w' : World} {A A' : Nat → Prop} (hs : w.heap.size ≤ w'.heap.size)
    (hb : ∀ b, b < w.heap.size → ¬ A b → w'.heap[b]? = w.heap[b]? ∧ ¬ A' b) {τ : Ty} {v : Value} {x : Den E.T τ} (h : RepT E w A τ v x) : RepT E w' A' τ v x := by
  induction h with
  | bool b => exact .bool b
  | int k x => exact .int k x
  | str s => exact .str s
  | nil e a cap => exact .nil e a cap
  | slice e b off cap l vs hA hlt hc hm _ ih =>
    obtain ⟨h1, h2⟩ := hb b hlt hA
    exact .slice e b off cap l vs h2 (Nat.lt_of_lt_of_le hlt hs) hc (fun i hi j u hu => by
      have := hm i hi j u hu
      simp only [World.cell?, h1] at this ⊢
      exact this) ih
  | named n cs x hsz _ ih => exact .named n cs x hsz ih
  | arr n e cs l vs hl hsz hm _ ih => exact .arr n e cs l vs hl hsz hm ih
theorem RepP.mono {w w' : World} {A A' : Nat → Prop} {U U' : Nat → Prop} {μ μ' : Nat → Loc} (hs : w.heap.size ≤ w'.heap.size)
    (hb : ∀ b, b < w.heap.size → ¬ A b → w'.heap[b]? = w.heap[b]? ∧ ¬ A' b) (hU : ∀ id, U id → U' id ∧ μ' id = μ id) {p : PVal E} {v : Value} (h : RepP E w A U μ p v) : RepP E w' A' U' μ' p v := by
  induction h with
  | any v => exact .any v
  | skip => exact .skip
  | v τ x v h => exact .v τ x v (h.mono hs hb)
  | agg ps cs hsz _ ih => exact .agg ps cs hsz ih
  | tuple ps cs hsz _ ih => exact .tuple ps cs hsz ih
  | nils a => exact .nils a
  | own id b off len cap u m => exact .own id b off len cap (hU id u).1 ((hU id u).2.trans m)
  | own0 id a a2 u m => exact .own0 id a a2 (hU id u).1 ((hU id u).2.trans m)
  | full e l a h => exact .full e l a (h.mono hs hb)
  | bsl id n b u m => exact .bsl id n b (hU id u).1 ((hU id u).2.trans m)
  | ptr id off b len cap u m => exact .ptr id off b len cap (hU id u).1 ((hU id u).2.trans m)
  | eptr e id i off b o len cap u m hi => exact .eptr e id i off b o len cap (hU id u).1 ((hU id u).2.trans m) hi
  | rptr ps b o us hA hlt hm _ ih =>
    obtain ⟨h1, h2⟩ := hb b hlt hA
    exact .rptr ps b o us h2 (Nat.lt_of_lt_of_le hlt hs) (fun j hj => by
      have := hm j hj
      simp only [World.cell?, h1] at this ⊢
      exact this) ih
  | fn f ps cs hsz _ ih => exact .fn f ps cs hsz ih
  | bfn f ps cs hsz _ ih => exact .bfn f ps cs hsz ih
  | nilfn => exact .nilfn
  | nilp => exact .nilp
  | nilm => exact .nilm
  | yld n i => exact .yld n i
  | map id b u m => exact .map id b (hU id u).1 ((hU id u).2.trans m)
def liveB : Blk E → Bool
  | .box w _ => w | .row w _ _ => w | .map w _ => w | _ => false
def memB : Blk E → Bool
  | .free => false | .dead => false | _ => true
def usedB : Blk E → Bool
  | .free => false | _ => true
def ownB : Blk E → Bool
  | .box w _ => w | .row _ _ _ => true | .map w _ => w | _ => false
theorem ownB_of_live {b : Blk E} (h : liveB b = true) : ownB b = true := by cases b <;> simp_all [liveB, ownB]
theorem memB_of_own {b : Blk E} (h : ownB b = true) : memB b = true := by cases b <;> simp_all [ownB, memB]
theorem memB_of_live {b : Blk E} (h : liveB b = true) : memB b = true := by cases b <;> simp_all [liveB, memB]
theorem usedB_of_mem {b : Blk E} (h : memB b = true) : usedB b = true := by cases b <;> simp_all [usedB, memB]
def Kb (b : Nat) : Prop := b < 1
def Lv (μ : Nat → Loc) (H : List (Blk E)) (b : Nat) : Prop := ∃ id off len cap, liveB (getB H id) = true ∧ μ id = .blk b off len cap
def Us (H : List (Blk E)) (id : Nat) : Prop := usedB (getB H id) = true
def Av (A0 : Nat → Prop) (μ : Nat → Loc) (H : List (Blk E)) (b : Nat) : Prop := (A0 b ∧ ¬ Kb b) ∨ Lv μ H b
def BoxAt (w : World) (b : Nat) (fr : Bool) (c : Array Value) : Prop := ∃ t f, w.heap[b]? = some (.cells c t f) ∧ (fr = true → f = (0, 0))
def BlkOk (w : World) (A : Nat → Prop) (U : Nat → Prop) (μ : Nat → Loc) (l : Loc) (B : Blk E) : Prop := match B with
  | .free => True
  | .dead => True
  | .box wr cs => ∃ b len cap c, l = .blk b 0 len cap ∧ BoxAt w b wr c ∧ c.size = cs.length ∧ ∀ j (h : j < cs.length), RepP E w A U μ cs[j] (c.getD j undef) ∧ cs[j].leaf = true
  | .row wr e xs => (∃ (b off cap : Nat) (c : Array Value) (vs : Nat → Value), l = .blk b off xs.length cap ∧ BoxAt w b wr c ∧ xs.length ≤ cap ∧ off + cap * e.size E ≤ c.size ∧
      (∀ i, i < xs.length → ∀ j u, (vs i).cells[j]? = some u → c[off + i * e.size E + j]? = some u) ∧ ∀ i (h : i < xs.length), RepT E w A e (vs i) xs[i]) ∨ (xs = [] ∧ ∃ a, l = .none a)
  | .map _ es => ∃ b ms clock, l = .blk b 0 0 0 ∧ w.heap[b]? = some (.map ms clock) ∧ ms.size = es.length ∧
      ∀ j (h : j < es.length), RepP E w A U μ es[j].1 ((ms.getD j default).key) ∧ RepP E w A U μ es[j].2 ((ms.getD j default).val)
structure HSim (A0 : Nat → Prop) (μ : Nat → Loc) (H : List (Blk E)) (w : World) : Prop where
  ok : ∀ id, BlkOk w (Av A0 μ H) (Us H) μ (μ id) (getB H id)
  inj : ∀ i j b o l c b' o' l' c', i ≠ j → liveB (getB H i) = true → memB (getB H j) = true → μ i = .blk b o l c → μ j = .blk b' o' l' c' → b ≠ b'
  out : ∀ id b o l c, ownB (getB H id) = true → μ id = .blk b o l c → ¬ A0 b ∧ b < w.heap.size
structure Trans (A0 : Nat → Prop) (μ : Nat → Loc) (H : List (Blk E)) (w : World) (μ' : Nat → Loc) (H' : List (Blk E)) (w' : World) : Prop where
  os : w'.os = w.os
  tape : w'.tape = w.tape
  output : w'.output = w.output
  size : w.heap.size ≤ w'.heap.size
  block : ∀ b, b < w.heap.size → ¬ Lv μ H b → w'.heap[b]? = w.heap[b]?
  lv : ∀ b, b < w.heap.size → Lv μ' H' b → Lv μ H b
  used : ∀ id, Us H id → Us H' id ∧ μ' id = μ id
  len : H'.length = H.length
theorem Trans.refl (A0 : Nat → Prop) (μ : Nat → Loc) (H : List (Blk E)) (w : World) : Trans A0 μ H w μ H w :=
  ⟨rfl, rfl, rfl, Nat.le_refl _, fun _ _ _ => rfl, fun _ _ h => h, fun _ h => ⟨h, rfl⟩, rfl⟩
theorem Trans.trans {A0 : Nat → Prop} {μ μ1 μ2 : Nat → Loc} {H H1 H2 : List (Blk E)} {w w1 w2 : World} (h : Trans A0 μ H w μ1 H1 w1) (k : Trans A0 μ1 H1 w1 μ2 H2 w2) :
    Trans A0 μ H w μ2 H2 w2 :=
  ⟨k.os.trans h.os, k.tape.trans h.tape, k.output.trans h.output, Nat.le_trans h.size k.size,
    fun b hb hl => (k.block b (Nat.lt_of_lt_of_le hb h.size) (fun hl1 => hl (h.lv b hb hl1))).trans (h.block b hb hl),
    fun b hb hl => h.lv b hb (k.lv b (Nat.lt_of_lt_of_le hb h.size) hl),
    fun id hu => ⟨(k.used id (h.used id hu).1).1, (k.used id (h.used id hu).1).2.trans (h.used id hu).2⟩, k.len.trans h.len⟩
theorem Trans.rep {A0 : Nat → Prop} {μ μ' : Nat → Loc} {H H' : List (Blk E)} {w w' : World} (h : Trans A0 μ H w μ' H' w') {p : PVal E} {v : Value}
    (r : RepP E w (Av A0 μ H) (Us H) μ p v) : RepP E w' (Av A0 μ' H') (Us H') μ' p v :=
  r.mono h.size (fun b hb hA => ⟨h.block b hb (fun hl => hA (.inr hl)), fun hA' => hA'.elim (fun h0 => hA (.inl h0)) (fun hl => hA (.inr (h.lv b hb hl)))⟩) h.used
theorem Trans.repT {A0 : Nat → Prop} {μ μ' : Nat → Loc} {H H' : List (Blk E)} {w w' : World} (h : Trans A0 μ H w μ' H' w') {τ : Ty} {x : Den E.T τ} {v : Value}
    (r : RepT E w (Av A0 μ H) τ v x) : RepT E w' (Av A0 μ' H') τ v x :=
  r.mono h.size (fun b hb hA => ⟨h.block b hb (fun hl => hA (.inr hl)), fun hA' => hA'.elim (fun h0 => hA (.inl h0)) (fun hl => hA (.inr (h.lv b hb hl)))⟩)
theorem BoxAt.keep {w w' : World} {b : Nat} {fr : Bool} {c : Array Value} (h : BoxAt w b fr c) (e : w'.heap[b]? = w.heap[b]?) : BoxAt w' b fr c := by
  obtain ⟨t, f, h1, h2⟩ := h
  exact ⟨t, f, e.trans h1, h2⟩
theorem BoxAt.lt {w : World} {b : Nat} {fr : Bool} {c : Array Value} (h : BoxAt w b fr c) : b < w.heap.size := by
  obtain ⟨t, f, h1, _⟩ := h
  exact (Array.getElem?_eq_some_iff.1 h1).1
theorem BlkOk.keep {A0 : Nat → Prop} {μ μ' : Nat → Loc} {H H' : List (Blk E)} {w w' : World} (h : Trans A0 μ H w μ' H' w') {l : Loc} {B : Blk E}
    (hk : ∀ b o n c, memB B = true → l = .blk b o n c → w'.heap[b]? = w.heap[b]?)
    (r : BlkOk w (Av A0 μ H) (Us H) μ l B) : BlkOk w' (Av A0 μ' H') (Us H') μ' l B := by
  cases B with
  | free => trivial
  | dead => trivial
  | box wr cs =>
    obtain ⟨b, len, cap, c, hl, hbox, hsz, hr⟩ := r
    exact ⟨b, len, cap, c, hl, hbox.keep (hk b 0 len cap rfl hl), hsz, fun j hj => ⟨h.rep (hr j hj).1, (hr j hj).2⟩⟩
  | row wr e xs =>
    rcases r with ⟨b, off, cap, c, vs, hl, hbox, h1, h2, h3, h4⟩ | ⟨h1, a, h2⟩
    · exact .inl ⟨b, off, cap, c, vs, hl, hbox.keep (hk b off xs.length cap rfl hl), h1, h2, h3, fun i hi => h.repT (h4 i hi)⟩
    · exact .inr ⟨h1, a, h2⟩
  | map wr es =>
    obtain ⟨b, ms, clock, hl, hm, hsz, hr⟩ := r
    exact ⟨b, ms, clock, hl, (hk b 0 0 0 rfl hl).trans hm, hsz, fun j hj => ⟨h.rep (hr j hj).1, h.rep (hr j hj).2⟩⟩
theorem BlkOk.lt {w : World} {A U : Nat → Prop} {μ : Nat → Loc} {l : Loc} {B : Blk E} (r : BlkOk w A U μ l B) {b o n c : Nat} (hm : memB B = true) (hl : l = .blk b o n c) : b < w.heap.size := by
  subst hl
  cases B with
  | free => simp [memB] at hm
  | dead => simp [memB] at hm
  | box wr cs =>
    obtain ⟨b', len, cap, c', hl, hbox, _⟩ := r
    injection hl with e; subst e; exact hbox.lt
  | row wr e xs =>
    rcases r with ⟨b', off, cap, c', vs, hl, hbox, _⟩ | ⟨_, a, h2⟩
    · injection hl with e; subst e; exact hbox.lt
    · cases h2
  | map wr es =>
    obtain ⟨b', ms, clock, hl, hm', _⟩ := r
    injection hl with e; subst e; exact (Array.getElem?_eq_some_iff.1 hm').1
theorem BlkOk.of_not_mem {w : World} {A U : Nat → Prop} {μ : Nat → Loc} {l : Loc} {B : Blk E} (h : memB B = false) : BlkOk w A U μ l B := by
  cases B <;> first | trivial | (simp [memB] at h)
theorem HSim.step {A0 : Nat → Prop} {μ μ' : Nat → Loc} {H H' : List (Blk E)} {w w' : World} (h : HSim A0 μ H w) (T : Trans A0 μ H w μ' H' w') (S : Nat → Prop)
    (same : ∀ id, ¬ S id → (getB H' id = getB H id ∧ (memB (getB H id) = true → μ' id = μ id)) ∨ memB (getB H' id) = false)
    (keep : ∀ id b o n c, ¬ S id → memB (getB H' id) = true → μ id = .blk b o n c → w'.heap[b]? = w.heap[b]?)
    (ok : ∀ id, S id → BlkOk w' (Av A0 μ' H') (Us H') μ' (μ' id) (getB H' id))
    (inj : ∀ i j b o l c b' o' l' c', i ≠ j → S i ∨ S j → liveB (getB H' i) = true → memB (getB H' j) = true → μ' i = .blk b o l c → μ' j = .blk b' o' l' c' → b ≠ b')
    (out : ∀ id b o l c, S id → ownB (getB H' id) = true → μ' id = .blk b o l c → ¬ A0 b ∧ b < w'.heap.size) : HSim A0 μ' H' w' := by
  have hμ : ∀ id, ¬ S id → memB (getB H' id) = true → getB H' id = getB H id ∧ μ' id = μ id := fun id hS hm => by
    rcases same id hS with ⟨h1, h2⟩ | h1
    · exact ⟨h1, h2 (h1 ▸ hm)⟩
    · rw [h1] at hm; cases hm
  refine ⟨fun id => ?_, fun i j b o l c b' o' l' c' hne hi hj mi mj => ?_, fun id b o l c hi mi => ?_⟩
  · by_cases hS : S id
    · exact ok id hS
    · by_cases hm : memB (getB H' id) = true
      · obtain ⟨h1, h2⟩ := hμ id hS hm
        have := h.ok id
        rw [h1, h2]
        exact this.keep T (fun b o n c _ hl => keep id b o n c hS hm hl)
      · exact BlkOk.of_not_mem (by simpa using hm)
  · by_cases hS : S i ∨ S j
    · exact inj i j b o l c b' o' l' c' hne hS hi hj mi mj
    · have hSi : ¬ S i := fun x => hS (.inl x)
      have hSj : ¬ S j := fun x => hS (.inr x)
      obtain ⟨a1, a2⟩ := hμ i hSi (memB_of_live hi)
      obtain ⟨b1, b2⟩ := hμ j hSj hj
      exact h.inj i j b o l c b' o' l' c' hne (a1 ▸ hi) (b1 ▸ hj) (a2 ▸ mi) (b2 ▸ mj)
  · by_cases hS : S id
    · exact out id b o l c hS hi mi
    · obtain ⟨a1, a2⟩ := hμ id hS (memB_of_own hi)
      obtain ⟨r1, r2⟩ := h.out id b o l c (a1 ▸ hi) (a2 ▸ mi)
      exact ⟨r1, Nat.lt_of_lt_of_le r2 T.size⟩
end Go.Pe
namespace Go.Pe
variable {E : Types}
theorem getB_set (H : List (Blk E)) (id j : Nat) (B : Blk E) (h : id < H.length) : getB (H.set id B) j = if id = j then B else getB H j := by
  unfold getB
  rw [List.getElem?_set]
  split
  · rename_i e; subst e; simp
  · rfl
theorem getB_set_ne (H : List (Blk E)) {id j : Nat} (B : Blk E) (h : id ≠ j) : getB (H.set id B) j = getB H j := by
  unfold getB
  rw [List.getElem?_set_ne h]
theorem getB_set_eq (H : List (Blk E)) (id : Nat) (B : Blk E) (h : id < H.length) : getB (H.set id B) id = B := by
  rw [getB_set H id id B h, if_pos rfl]
theorem lt_of_used {H : List (Blk E)} {id : Nat} (h : usedB (getB H id) = true) : id < H.length := by
  rcases Nat.lt_or_ge id H.length with h' | h'
  · exact h'
  · unfold getB at h
    rw [List.getElem?_eq_none h'] at h
    simp [usedB] at h
def setL (μ : Nat → Loc) (id : Nat) (l : Loc) : Nat → Loc := fun i => if i = id then l else μ i
theorem setL_eq (μ : Nat → Loc) (id : Nat) (l : Loc) : setL μ id l id = l := if_pos rfl
theorem setL_ne (μ : Nat → Loc) {id i : Nat} (l : Loc) (h : i ≠ id) : setL μ id l i = μ i := if_neg h
structure Quiet (w w' : World) : Prop where
  os : w'.os = w.os
  tape : w'.tape = w.tape
  output : w'.output = w.output
  size : w.heap.size ≤ w'.heap.size
theorem Quiet.refl (w : World) : Quiet w w := ⟨rfl, rfl, rfl, Nat.le_refl _⟩
theorem Quiet.alloc (w : World) (o : Obj) : Quiet w (w.alloc o) := ⟨rfl, rfl, rfl, by simp⟩
theorem Quiet.drew (w : World) : Quiet w w.drew := ⟨rfl, rfl, rfl, Nat.le_refl _⟩
theorem Quiet.setRow (w : World) (g : Nat) (c : Array Value) : Quiet w (w.setRow g c) := ⟨rfl, rfl, rfl, by simp⟩
section
variable {A0 : Nat → Prop} {μ : Nat → Loc} {H : List (Blk E)} {w w' : World}
theorem Trans.fresh (id : Nat) (l : Loc) (B : Blk E) (hf : getB H id = .free) (hlt : id < H.length) (q : Quiet w w') (hb : ∀ b, b < w.heap.size → w'.heap[b]? = w.heap[b]?)
    (hl : ∀ b o n c, l = .blk b o n c → w.heap.size ≤ b) : Trans A0 μ H w (setL μ id l) (H.set id B) w' := by
  have hne : ∀ i, Us H i → i ≠ id := fun i hi e => by subst e; simp [Us, hf, usedB] at hi
  refine ⟨q.os, q.tape, q.output, q.size, fun b hlt' _ => hb b hlt', fun b hlt' ⟨i, o, n, c, h1, h2⟩ => ?_, fun i hi => ⟨?_, setL_ne _ _ (hne i hi)⟩, by simp⟩
  · by_cases e : i = id
    · subst e; rw [setL_eq] at h2; have := hl _ _ _ _ h2; omega
    · rw [setL_ne _ _ e] at h2
      rw [getB_set_ne H B (Ne.symm e)] at h1
      exact ⟨i, o, n, c, h1, h2⟩
  · unfold Us; rw [getB_set_ne H B (Ne.symm (hne i hi))]; exact hi
theorem HSim.fresh (h : HSim A0 μ H w) (id : Nat) (l : Loc) (B : Blk E) (hf : getB H id = .free) (hlt : id < H.length) (q : Quiet w w') (hb : ∀ b, b < w.heap.size → w'.heap[b]? = w.heap[b]?)
    (hl : ∀ b o n c, l = .blk b o n c → w.heap.size ≤ b ∧ b < w'.heap.size) (hA : ∀ b, A0 b → b < w.heap.size)
    (ok : BlkOk w' (Av A0 (setL μ id l) (H.set id B)) (Us (H.set id B)) (setL μ id l) l B) : HSim A0 (setL μ id l) (H.set id B) w' := by
  have T := Trans.fresh (A0 := A0) (μ := μ) id l B hf hlt q hb (fun b o n c e => (hl b o n c e).1)
  refine h.step T (fun i => i = id) (fun i hi => .inl ⟨getB_set_ne H B (Ne.symm hi), fun _ => setL_ne _ _ hi⟩) (fun i b o n c hi hm hμ => ?_) (fun i hi => ?_) (fun i j b o n c b' o' n' c' hne hS hi hj mi mj => ?_) (fun i b o n c hi hlv hμ => ?_)
  · rw [getB_set_ne H B (Ne.symm hi)] at hm
    exact hb b (BlkOk.lt (h.ok i) hm hμ)
  · subst hi; rw [getB_set_eq H i B hlt, setL_eq]; exact ok
  · rcases hS with rfl | rfl
    · rw [setL_eq] at mi
      have h1 := (hl _ _ _ _ mi).1
      rw [setL_ne _ _ (Ne.symm hne)] at mj
      rw [getB_set_ne H B hne] at hj
      have := BlkOk.lt (h.ok j) hj mj
      omega
    · rw [setL_eq] at mj
      have h1 := (hl _ _ _ _ mj).1
      rw [setL_ne _ _ hne] at mi
      rw [getB_set_ne H B (Ne.symm hne)] at hi
      have := BlkOk.lt (h.ok i) (memB_of_live hi) mi
      omega
  · subst hi
    rw [setL_eq] at hμ
    obtain ⟨h1, h2⟩ := hl _ _ _ _ hμ
    exact ⟨fun ha => by have := hA b ha; omega, h2⟩
theorem Trans.write (id : Nat) (B : Blk E) (hu : Us H id) (q : Quiet w w') (hlive : liveB (getB H id) = true)
    (hb : ∀ b, b < w.heap.size → (∀ o n c, μ id ≠ .blk b o n c) → w'.heap[b]? = w.heap[b]?) (hB : usedB B = true) : Trans A0 μ H w μ (H.set id B) w' := by
  have hlt := lt_of_used hu
  refine ⟨q.os, q.tape, q.output, q.size, fun b hlt' hl => hb b hlt' (fun o n c e => hl ⟨id, o, n, c, hlive, e⟩), fun b hlt' ⟨i, o, n, c, h1, h2⟩ => ?_, fun i hi => ⟨?_, rfl⟩, by simp⟩
  · by_cases e : id = i
    · subst e; exact ⟨id, o, n, c, hlive, h2⟩
    · rw [getB_set_ne H B e] at h1; exact ⟨i, o, n, c, h1, h2⟩
  · unfold Us; rw [getB_set H id i B hlt]; split
    · exact hB
    · exact hi
theorem HSim.write (h : HSim A0 μ H w) (id : Nat) (B : Blk E) (hu : Us H id) (q : Quiet w w') (hlive : liveB (getB H id) = true)
    (hb : ∀ b, b < w.heap.size → (∀ o n c, μ id ≠ .blk b o n c) → w'.heap[b]? = w.heap[b]?) (hB : usedB B = true)
    (ok : BlkOk w' (Av A0 μ (H.set id B)) (Us (H.set id B)) μ (μ id) B) : HSim A0 μ (H.set id B) w' := by
  have hlt := lt_of_used hu
  have T := Trans.write (A0 := A0) (μ := μ) id B hu q hlive hb hB
  refine h.step T (fun i => i = id) (fun i hi => .inl ⟨getB_set_ne H B (Ne.symm hi), fun _ => rfl⟩) (fun i b o n c hi hm hμ => ?_) (fun i hi => ?_) (fun i j b o n c b' o' n' c' hne hS hi hj mi mj => ?_) (fun i b o n c hi hlv hμ => ?_)
  · rw [getB_set_ne H B (Ne.symm hi)] at hm
    refine hb b (BlkOk.lt (h.ok i) hm hμ) (fun o' n' c' e => ?_)
    exact h.inj id i b o' n' c' b o n c (Ne.symm hi) hlive hm e hμ rfl
  · subst hi; rw [getB_set_eq H i B hlt]; exact ok
  · rcases hS with rfl | rfl
    · rw [getB_set_ne H B hne] at hj
      exact h.inj i j b o n c b' o' n' c' hne hlive hj mi mj
    · rw [getB_set_ne H B (Ne.symm hne)] at hi
      exact h.inj i j b o n c b' o' n' c' hne hi (memB_of_live hlive) mi mj
  · subst hi
    obtain ⟨h1, h2⟩ := h.out i b o n c (ownB_of_live hlive) hμ
    exact ⟨h1, Nat.lt_of_lt_of_le h2 q.size⟩
theorem Trans.drop (id : Nat) (B : Blk E) (hu : Us H id) (hB : liveB B = false) (hB' : usedB B = true) : Trans A0 μ H w μ (H.set id B) w := by
  have hlt := lt_of_used hu
  refine ⟨rfl, rfl, rfl, Nat.le_refl _, fun _ _ _ => rfl, fun b hlt' ⟨i, o, n, c, h1, h2⟩ => ?_, fun i hi => ⟨?_, rfl⟩, by simp⟩
  · by_cases e : id = i
    · subst e; rw [getB_set_eq H id B hlt, hB] at h1; cases h1
    · rw [getB_set_ne H B e] at h1; exact ⟨i, o, n, c, h1, h2⟩
  · unfold Us; rw [getB_set H id i B hlt]; split
    · exact hB'
    · exact hi
theorem HSim.drop (h : HSim A0 μ H w) (id : Nat) (B : Blk E) (hu : Us H id) (hB : liveB B = false) (hB' : usedB B = true) (hm : memB B = true → memB (getB H id) = true) (ho : ownB B = true → ownB (getB H id) = true)
    (ok : BlkOk w (Av A0 μ (H.set id B)) (Us (H.set id B)) μ (μ id) B) : HSim A0 μ (H.set id B) w := by
  have hlt := lt_of_used hu
  have T := Trans.drop (A0 := A0) (μ := μ) (w := w) id B hu hB hB'
  refine h.step T (fun i => i = id) (fun i hi => .inl ⟨getB_set_ne H B (Ne.symm hi), fun _ => rfl⟩) (fun _ _ _ _ _ _ _ _ => rfl) (fun i hi => ?_) (fun i j b o n c b' o' n' c' hne hS hi hj mi mj => ?_) (fun i b o n c hi hlv hμ => ?_)
  · subst hi; rw [getB_set_eq H i B hlt]; exact ok
  · rcases hS with rfl | rfl
    · rw [getB_set_eq H i B hlt, hB] at hi; cases hi
    · rw [getB_set_ne H B (Ne.symm hne)] at hi
      rw [getB_set_eq H j B hlt] at hj
      exact h.inj i j b o n c b' o' n' c' hne hi (hm hj) mi mj
  · subst hi; rw [getB_set_eq H i B hlt] at hlv; exact h.out i b o n c (ho hlv) hμ
theorem Trans.drew : Trans A0 μ H w μ H w.drew :=
  ⟨rfl, rfl, rfl, Nat.le_refl _, fun _ _ _ => rfl, fun _ _ h => h, fun _ h => ⟨h, rfl⟩, rfl⟩
theorem HSim.drew (h : HSim A0 μ H w) : HSim A0 μ H w.drew :=
  h.step Trans.drew (fun _ => False) (fun _ _ => .inl ⟨rfl, fun _ => rfl⟩) (fun _ _ _ _ _ _ _ _ => rfl) (fun _ hi => hi.elim) (fun _ _ _ _ _ _ _ _ _ _ _ hS => (hS.elim id id).elim) (fun _ _ _ _ _ hi => hi.elim)
theorem Trans.move (id fresh b o n c o' n' c' : Nat) (B : Blk E) (hlive : liveB (getB H id) = true) (hμ : μ id = .blk b o n c) (hf : getB H fresh = .free) (hlt : fresh < H.length) (q : Quiet w w')
    (hb : ∀ k, k < w.heap.size → k ≠ b → w'.heap[k]? = w.heap[k]?) : Trans A0 μ H w (setL μ fresh (.blk b o' n' c')) ((H.set id .dead).set fresh B) w' := by
  have hu : Us H id := usedB_of_mem (memB_of_live hlive)
  have hne : ∀ i, Us H i → i ≠ fresh := fun i hi e => by subst e; simp [Us, hf, usedB] at hi
  have hif := hne id hu
  have hid := lt_of_used hu
  refine ⟨q.os, q.tape, q.output, q.size, fun k hk hl => hb k hk (fun e => hl (by subst e; exact ⟨id, o, n, c, hlive, hμ⟩)), fun k hk ⟨i, o1, n1, c1, h1, h2⟩ => ?_, fun i hi => ⟨?_, setL_ne _ _ (hne i hi)⟩, by simp⟩
  · by_cases e : i = fresh
    · subst e; rw [setL_eq] at h2; injection h2 with e1; subst e1; exact ⟨id, o, n, c, hlive, hμ⟩
    · rw [setL_ne _ _ e] at h2
      rw [getB_set_ne _ B (Ne.symm e)] at h1
      by_cases e2 : id = i
      · subst e2; rw [getB_set_eq H id .dead hid] at h1; cases h1
      · rw [getB_set_ne H _ e2] at h1; exact ⟨i, o1, n1, c1, h1, h2⟩
  · unfold Us
    rw [getB_set_ne _ B (Ne.symm (hne i hi)), getB_set H id i .dead hid]
    split
    · rfl
    · exact hi
theorem HSim.move (h : HSim A0 μ H w) (id fresh b o n c o' n' c' : Nat) (B : Blk E) (hlive : liveB (getB H id) = true) (hμ : μ id = .blk b o n c) (hf : getB H fresh = .free) (hlt : fresh < H.length) (q : Quiet w w')
    (hb : ∀ k, k < w.heap.size → k ≠ b → w'.heap[k]? = w.heap[k]?)
    (ok : BlkOk w' (Av A0 (setL μ fresh (.blk b o' n' c')) ((H.set id .dead).set fresh B)) (Us ((H.set id .dead).set fresh B)) (setL μ fresh (.blk b o' n' c')) (.blk b o' n' c') B) :
    HSim A0 (setL μ fresh (.blk b o' n' c')) ((H.set id .dead).set fresh B) w' := by
  have hu : Us H id := usedB_of_mem (memB_of_live hlive)
  have hif : id ≠ fresh := fun e => by subst e; simp [Us, hf, usedB] at hu
  have hid := lt_of_used hu
  have hfl : fresh < (H.set id .dead).length := by simpa using hlt
  have T := Trans.move (A0 := A0) (μ := μ) id fresh b o n c o' n' c' B hlive hμ hf hlt q hb
  have hg : ∀ i, i ≠ fresh → i ≠ id → getB ((H.set id .dead).set fresh B) i = getB H i := fun i h1 h2 => by
    rw [getB_set_ne _ B (Ne.symm h1), getB_set_ne H _ (Ne.symm h2)]
  refine h.step T (fun i => i = fresh) (fun i hi => ?_) (fun i k o1 n1 c1 hi hm hμ' => ?_) (fun i hi => ?_) (fun i j k o1 n1 c1 k' o2 n2 c2 hne hS hi hj mi mj => ?_) (fun i k o1 n1 c1 hi hlv hμ' => ?_)
  · by_cases e : i = id
    · subst e; right; rw [getB_set_ne _ B (Ne.symm hi), getB_set_eq H i .dead hid]; rfl
    · exact .inl ⟨hg i hi e, fun _ => setL_ne _ _ hi⟩
  · by_cases e : i = id
    · subst e; rw [getB_set_ne _ B (Ne.symm hi), getB_set_eq H i .dead hid] at hm; cases hm
    · rw [hg i hi e] at hm
      exact hb k (BlkOk.lt (h.ok i) hm hμ') (fun e' => h.inj id i b o n c k o1 n1 c1 (Ne.symm e) hlive hm hμ hμ' e'.symm)
  · subst hi; rw [getB_set_eq _ i B hfl, setL_eq]; exact ok
  · rcases hS with rfl | rfl
    · rw [setL_eq] at mi; injection mi with e1; subst e1
      rw [setL_ne _ _ (Ne.symm hne)] at mj
      by_cases e : j = id
      · subst e; rw [getB_set_ne _ B hne, getB_set_eq H j .dead hid] at hj; cases hj
      · rw [hg j (Ne.symm hne) e] at hj
        exact h.inj id j b o n c k' o2 n2 c2 (Ne.symm e) hlive hj hμ mj
    · rw [setL_eq] at mj; injection mj with e1; subst e1
      rw [setL_ne _ _ hne] at mi
      by_cases e : i = id
      · subst e; rw [getB_set_ne _ B (Ne.symm hne), getB_set_eq H i .dead hid] at hi; cases hi
      · rw [hg i hne e] at hi
        exact h.inj i id k o1 n1 c1 b o n c e hi (memB_of_live hlive) mi hμ
  · subst hi
    rw [setL_eq] at hμ'; injection hμ' with e1; subst e1
    obtain ⟨h1, h2⟩ := h.out id b o n c (ownB_of_live hlive) hμ
    exact ⟨h1, Nat.lt_of_lt_of_le h2 q.size⟩
end
end Go.Pe
namespace Go.Pe
def Z.toV : Z → Value
  | .bool => .bool false | .int k => .int k 0 | .str => .string ByteArray.empty | .slice => .slice none 0 0 | .func => .nilFunc | .ptr => .pointer none | .map => .map none
def zeroV (i : TI) : Value := if i.agg then .agg (i.zero.map Z.toV).toArray else match i.zero with | [z] => z.toV | _ => undef
def Z.is : Z → Ty → Bool
  | .bool, .bool => true | .int k, .int k' => decide (k = k') | .str, .str => true | .slice, .slice _ => true | _, _ => false
def zsAre : List Z → List Ty → Bool
  | [], [] => true
  | z :: zs, t :: ts => z.is t && zsAre zs ts
  | _, _ => false
def sameV : Value → Value → Bool
  | .bool a, .bool b => a == b
  | .int k a, .int k' b => decide (k = k') && decide (a = b)
  | .string a, .string b => decide (a = b)
  | .slice none 0 0, .slice none 0 0 => true
  | .nilFunc, .nilFunc => true
  | .pointer none, .pointer none => true
  | .map none, .map none => true
  | _, _ => false
theorem sameV_eq {a b : Value} (h : sameV a b = true) : a = b := by
  unfold sameV at h
  split at h <;> simp_all
def sameVs : List Value → List Value → Bool
  | [], [] => true
  | a :: as, b :: bs => sameV a b && sameVs as bs
  | _, _ => false
theorem sameVs_eq : ∀ {a b : List Value}, sameVs a b = true → a = b
  | [], [], _ => rfl
  | [], _ :: _, h => by simp [sameVs] at h
  | _ :: _, [], h => by simp [sameVs] at h
  | a :: as, b :: bs, h => by
    simp only [sameVs, Bool.and_eq_true] at h
    rw [sameV_eq h.1, sameVs_eq h.2]
def zeroB (i : TI) : Option Value → Bool
  | some (.agg cs) => i.agg && sameVs cs.toList (i.zero.map Z.toV)
  | some v => !i.agg && (match i.zero with | [z] => sameV v z.toV | _ => false)
  | none => false
theorem zeroB_eq {i : TI} {o : Option Value} (h : zeroB i o = true) : o = some (zeroV i) := by
  cases o with
  | none => simp [zeroB] at h
  | some v =>
    unfold zeroV
    cases v with
    | agg cs =>
      simp only [zeroB, Bool.and_eq_true] at h
      rw [if_pos h.1, ← sameVs_eq h.2]
    | _ =>
      simp only [zeroB, Bool.and_eq_true, Bool.not_eq_true'] at h
      rw [if_neg (by simp [h.1])]
      obtain ⟨_, h⟩ := h
      split at h
      · rename_i z hz; rw [sameV_eq h]
      · cases h
def tyB (lv : Nat → List Ty) (tab : List (Nat × TI)) (i : TI) : Bool := match i.ty with
  | none => true
  | some (.named n) => i.agg && zsAre i.zero (lv n)
  | some (.arr n e) => i.agg && i.alen == n && i.fields.isEmpty && (match look tab i.elem with | some u => decide (u.ty = some e) | none => false)
  | some (.slice e) => !i.agg && (match look tab i.elem with | some u => decide (u.ty = some e) && !Nat.beq u.size 0 | none => false) && (match i.zero with | [.slice] => true | _ => false) && (match e with | .arr _ _ => false | _ => true)
  | some τ => !i.agg && (match i.zero with | [z] => z.is τ | _ => false)
def descB (P : Program) (tab : List (Nat × TI)) (i : TI) : TypeDesc → Bool
  | .struct fs => i.agg && decide (i.fields = fs.toList.map fun f => (f.offset, f.type)) && fs.toList.all (fun f => !Nat.beq (P.cellsOf f.type) 0) && i.alen == 0 && (match i.ty with | none => true | some (.named _) => true | _ => false)
  | .array n e => i.agg && Nat.beq i.alen n && Nat.beq i.elem e && i.fields.isEmpty && (match look tab e with | some u => Nat.beq i.size (n * u.size) && !Nat.beq u.size 0 | none => false) && (match i.ty with | none => true | some (.arr _ _) => true | some (.named _) => true | _ => false)
  | .slice e => !i.agg && Nat.beq i.elem e && (match i.ty with | none => true | some (.slice _) => true | _ => false) && Nat.beq i.alen 0 && (look tab e).isSome
  | .int k => !i.agg && (match i.ty with | none => true | some (.int k') => decide (k = k') | _ => false) && Nat.beq i.alen 0
  | .bool => !i.agg && (match i.ty with | none => true | some .bool => true | _ => false) && Nat.beq i.alen 0
  | .string => !i.agg && (match i.ty with | none => true | some .str => true | _ => false) && Nat.beq i.alen 0
  | .pointer e => !i.agg && i.ty.isNone && (match look tab e with | some u => Nat.beq i.alen u.alen | none => Nat.beq i.alen 0)
  | .func _ _ _ => !i.agg && i.ty.isNone && Nat.beq i.alen 0
  | .map k e => !i.agg && i.ty.isNone && Nat.beq i.elem e && (match P.underlying k with | some (.int .i64) => true | _ => false) && Nat.beq i.alen 0
  | _ => false
def tiB (lv : Nat → List Ty) (P : Program) (tab : List (Nat × TI)) (t : Nat) (i : TI) : Bool :=
  (match P.info? t with | some f => Nat.beq f.size i.size && Nat.beq f.bytes i.bytes && zeroB i f.zero | none => false) &&
  (match P.underlying t with | some d => descB P tab i d && (i.sl == match d with | .slice _ => true | _ => false) && (i.fk == match d with | .func _ _ _ => true | _ => false) && (!i.cmp || (!P.eqGuardType P.depth t && match d with | .struct fs => !P.stoodInHeld t && fs.toList.all (fun f => f.name != "_") | _ => true)) | none => false) &&
  tyB lv tab i && Nat.beq i.zero.length i.size && (i.agg || Nat.beq i.size 1 && i.fields.isEmpty) && (Nat.ble i.bytes 4096 && (!i.mp || match P.underlying t with | some (.map _ _) => true | _ => false))
def tabB (lv : Nat → List Ty) (P : Program) (tab : List (Nat × TI)) : Bool := tab.all fun x => tiB lv P tab x.1 x.2
theorem look_mem {tab : List (Nat × TI)} {t : Nat} {i : TI} (h : look tab t = some i) : (t, i) ∈ tab := by
  induction tab with
  | nil => simp [look] at h
  | cons x r ih =>
    obtain ⟨u, j⟩ := x
    simp only [look] at h
    split at h
    · rename_i hu
      have := Nat.eq_of_beq_eq_true hu
      subst this
      simp at h; subst h; simp
    · exact List.mem_cons_of_mem _ (ih h)
section
variable {E : Types} {P : Program} {tab : List (Nat × TI)} (hT : tabB E.leaves P tab = true) {t : Nat} {i : TI} (hi : look tab t = some i)
include hT hi
theorem ti_of : tiB E.leaves P tab t i = true := List.all_eq_true.1 hT _ (look_mem hi)
theorem ti_info : ∃ f, P.info? t = some f ∧ f.size = i.size ∧ f.bytes = i.bytes ∧ f.zero = some (zeroV i) := by
  have h := ti_of hT hi
  simp only [tiB, Bool.and_eq_true] at h
  obtain ⟨⟨⟨⟨⟨h, _⟩, _⟩, _⟩, _⟩, _⟩ := h
  split at h
  · rename_i f hf
    simp only [Bool.and_eq_true] at h
    exact ⟨f, hf, Nat.eq_of_beq_eq_true h.1.1, Nat.eq_of_beq_eq_true h.1.2, zeroB_eq h.2⟩
  · cases h
theorem ti_desc' : ∃ d, P.underlying t = some d ∧ descB P tab i d = true ∧ (i.sl = true ↔ ∃ e, d = .slice e) := by
  have h := ti_of hT hi
  simp only [tiB, Bool.and_eq_true] at h
  obtain ⟨⟨⟨⟨⟨_, h⟩, _⟩, _⟩, _⟩, _⟩ := h
  split at h
  · rename_i d hd
    simp only [Bool.and_eq_true, beq_iff_eq] at h
    refine ⟨d, hd, h.1.1.1, ?_⟩
    rw [h.1.1.2]
    split <;> simp_all
  · cases h
theorem ti_fk (hk : i.fk = true) : ∃ a b c, P.underlying t = some (.func a b c) := by
  have h := ti_of hT hi
  simp only [tiB, Bool.and_eq_true] at h
  obtain ⟨⟨⟨⟨⟨_, h⟩, _⟩, _⟩, _⟩, _⟩ := h
  split at h
  · rename_i d hd
    simp only [Bool.and_eq_true, beq_iff_eq] at h
    have := h.1.2
    rw [hk] at this
    split at this
    · exact ⟨_, _, _, hd⟩
    · cases this
  · cases h
theorem ti_cmp (hk : i.cmp = true) : P.eqGuardType P.depth t = false ∧ ∀ fs, P.underlying t = some (.struct fs) → P.stoodInHeld t = false ∧ ∀ f ∈ fs.toList, f.name ≠ "_" := by
  have h := ti_of hT hi
  simp only [tiB, Bool.and_eq_true] at h
  obtain ⟨⟨⟨⟨⟨_, h⟩, _⟩, _⟩, _⟩, _⟩ := h
  split at h
  · rename_i d hd
    simp only [Bool.and_eq_true, hk, Bool.not_true, Bool.false_or, Bool.not_eq_true'] at h
    refine ⟨h.2.1, fun fs hfs => ?_⟩
    rw [hd] at hfs; injection hfs with hfs; subst hfs
    have h2 := h.2.2
    simp only [Bool.and_eq_true, Bool.not_eq_true', List.all_eq_true, bne_iff_ne] at h2
    exact h2
  · cases h
theorem ti_desc : ∃ d, P.underlying t = some d ∧ descB P tab i d = true := by
  obtain ⟨d, h1, h2, _⟩ := ti_desc' hT hi
  exact ⟨d, h1, h2⟩
theorem ti_sl (h : i.sl = true) : P.underlying t = some (.slice i.elem) := by
  obtain ⟨d, h1, h2, h3⟩ := ti_desc' hT hi
  obtain ⟨e, rfl⟩ := h3.1 h
  simp only [descB, Bool.and_eq_true] at h2
  rw [Nat.eq_of_beq_eq_true h2.1.1.1.2]; exact h1
theorem ti_arr (h : i.agg = true) (h0 : i.alen ≠ 0) : P.underlying t = some (.array i.alen i.elem) := by
  obtain ⟨d, h1, h2, _⟩ := ti_desc' hT hi
  cases d with
  | array n e =>
    simp only [descB, Bool.and_eq_true] at h2
    rw [Nat.eq_of_beq_eq_true h2.1.1.1.1.2, Nat.eq_of_beq_eq_true h2.1.1.1.2]; exact h1
  | struct fs =>
    simp only [descB, Bool.and_eq_true, beq_iff_eq] at h2
    exact absurd h2.1.2 h0
  | _ => simp [descB, h] at h2
theorem ti_ty : tyB E.leaves tab i = true := by
  have h := ti_of hT hi
  simp only [tiB, Bool.and_eq_true] at h
  exact h.1.1.1.2
theorem ti_zlen : i.zero.length = i.size := by
  have h := ti_of hT hi
  simp only [tiB, Bool.and_eq_true] at h
  exact Nat.eq_of_beq_eq_true h.1.1.2
theorem ti_one (ha : i.agg = false) : i.size = 1 := by
  have h := ti_of hT hi
  simp only [tiB, Bool.and_eq_true, Bool.or_eq_true, ha, Bool.false_eq_true, false_or] at h
  exact Nat.eq_of_beq_eq_true h.1.2.1
theorem ti_nofield (ha : i.agg = false) : i.fields = [] := by
  have h := ti_of hT hi
  simp only [tiB, Bool.and_eq_true, Bool.or_eq_true, ha, Bool.false_eq_true, false_or] at h
  simpa using h.1.2.2
theorem ti_bytes : i.bytes ≤ 4096 := by
  have h := ti_of hT hi
  simp only [tiB, Bool.and_eq_true] at h
  exact Nat.le_of_ble_eq_true h.2.1
theorem ti_map (hk : i.mp = true) : ∃ k, P.underlying t = some (.map k i.elem) ∧ P.underlying k = some (.int .i64) := by
  have h := ti_of hT hi
  simp only [tiB, Bool.and_eq_true, hk, Bool.not_true, Bool.false_or] at h
  have h2 := h.2.2
  obtain ⟨d, hd, hb⟩ := ti_desc hT hi
  rw [hd] at h2
  split at h2
  · rename_i k e heq
    injection heq with heq
    subst heq
    simp only [descB, Bool.and_eq_true] at hb
    have he := Nat.eq_of_beq_eq_true hb.1.1.2
    subst he
    refine ⟨k, hd, ?_⟩
    have := hb.1.2
    split at this
    · assumption
    · cases this
  · cases h2
theorem run_typeInfo' (w : World) : ∃ f : TypeInfo, (typeInfo t).run P w = .ok f w ∧ f.size = i.size ∧ f.bytes = i.bytes ∧ f.zero = some (zeroV i) := by
  obtain ⟨f, h1, h2, h3, h4⟩ := ti_info hT hi
  exact ⟨f, by simp [typeInfo, h1], h2, h3, h4⟩
theorem run_sizeOf' (w : World) : (sizeOf t).run P w = .ok i.size w := by
  obtain ⟨f, h1, h2, _⟩ := run_typeInfo' hT hi w
  simp [sizeOf, h1, h2]
theorem run_zeroValue' (w : World) : (zeroValue t).run P w = .ok (zeroV i) w := by
  obtain ⟨f, h1, _, _, h4⟩ := run_typeInfo' hT hi w
  simp [zeroValue, h1, h4]
theorem run_isAgg' (w : World) : (isAgg t).run P w = .ok i.agg w := by
  obtain ⟨d, h1, h2⟩ := ti_desc hT hi
  simp only [isAgg, Sem.run_bind, run_underlying h1, Result.andThen_ok]
  cases d <;> simp_all [descB]
end
theorem zsAre_len : ∀ {zs : List Z} {ts : List Ty}, zsAre zs ts = true → zs.length = ts.length
  | [], [], _ => rfl
  | [], _ :: _, h => by simp [zsAre] at h
  | _ :: _, [], h => by simp [zsAre] at h
  | z :: zs, t :: ts, h => by
    simp only [zsAre, Bool.and_eq_true] at h
    simp [zsAre_len h.2]
theorem size_of_ty {E : Types} {P : Program} {tab : List (Nat × TI)} (hT : tabB E.leaves P tab = true) : ∀ (τ : Ty) {t : Nat} {i : TI}, look tab t = some i → i.ty = some τ → τ.size E = i.size
  | .named n, t, i, hi, h => by
    have h1 := ti_ty hT hi
    simp only [tyB, h, Bool.and_eq_true] at h1
    rw [← ti_zlen hT hi, zsAre_len h1.2]; rfl
  | .arr n e, t, i, hi, h => by
    have h1 := ti_ty hT hi
    obtain ⟨d, hd, h2⟩ := ti_desc hT hi
    simp only [tyB, h, Bool.and_eq_true] at h1
    obtain ⟨⟨⟨ha, hn⟩, hf⟩, h1⟩ := h1
    cases d with
    | array m el =>
      simp only [descB, h, Bool.and_eq_true] at h2
      obtain ⟨⟨⟨⟨⟨_, h3⟩, h4⟩, _⟩, h6⟩, _⟩ := h2
      have h3 := Nat.eq_of_beq_eq_true h3
      have h4 := Nat.eq_of_beq_eq_true h4
      have hn : i.alen = n := by simpa using hn
      subst h4
      split at h1
      · rename_i u hu
        have := size_of_ty hT e hu (by simpa using h1)
        simp only [hu, Bool.and_eq_true] at h6
        rw [Nat.eq_of_beq_eq_true h6.1, ← this, ← h3, hn]
        simp [Ty.size]
      · cases h1
    | _ => simp [descB, h, ha] at h2
  | .bool, t, i, hi, h => by
    have h1 := ti_ty hT hi
    simp only [tyB, h, Bool.and_eq_true, Bool.not_eq_true'] at h1
    rw [ti_one hT hi h1.1]; rfl
  | .int k, t, i, hi, h => by
    have h1 := ti_ty hT hi
    simp only [tyB, h, Bool.and_eq_true, Bool.not_eq_true'] at h1
    rw [ti_one hT hi h1.1]; rfl
  | .str, t, i, hi, h => by
    have h1 := ti_ty hT hi
    simp only [tyB, h, Bool.and_eq_true, Bool.not_eq_true'] at h1
    rw [ti_one hT hi h1.1]; rfl
  | .slice e, t, i, hi, h => by
    have h1 := ti_ty hT hi
    simp only [tyB, h, Bool.and_eq_true, Bool.not_eq_true'] at h1
    rw [ti_one hT hi h1.1.1.1]; rfl
theorem ti_slice_elem {E : Types} {P : Program} {tab : List (Nat × TI)} (hT : tabB E.leaves P tab = true) {t : Nat} {i : TI} {e : Ty} (hi : look tab t = some i) (h : i.ty = some (.slice e)) :
    ∃ u, look tab i.elem = some u ∧ u.ty = some e ∧ u.size ≠ 0 ∧ P.underlying t = some (.slice i.elem) ∧ ∀ n e', e ≠ .arr n e' := by
  have h1 := ti_ty hT hi
  simp only [tyB, h, Bool.and_eq_true, Bool.not_eq_true'] at h1
  obtain ⟨⟨⟨_, h2⟩, _⟩, h4⟩ := h1
  obtain ⟨d, hd, h3⟩ := ti_desc hT hi
  split at h2
  · rename_i u hu
    simp only [Bool.and_eq_true, decide_eq_true_eq, Bool.not_eq_true'] at h2
    refine ⟨u, hu, h2.1, fun e0 => by simp [e0] at h2, ?_, fun n e' he => by subst he; simp at h4⟩
    cases d with
    | slice el => simp only [descB, Bool.and_eq_true] at h3; rw [Nat.eq_of_beq_eq_true h3.1.1.1.2]; exact hd
    | _ => simp [descB, h] at h3
  · cases h2
end Go.Pe
namespace Go.Pe
variable {E : Types}
def RL (R : PVal E → Value → Prop) (ps : List (PVal E)) (vs : List Value) : Prop := ps.length = vs.length ∧ ∀ (j : Nat) p u, ps[j]? = some p → vs[j]? = some u → R p u
section
variable {R : PVal E → Value → Prop}
theorem RL.nil : RL R [] [] := ⟨rfl, fun j p u h => by simp at h⟩
theorem RL.cons {p : PVal E} {u : Value} {ps : List (PVal E)} {vs : List Value} (h : R p u) (k : RL R ps vs) : RL R (p :: ps) (u :: vs) :=
  ⟨by simp [k.1], fun j q v hq hv => by
    cases j with
    | zero => simp at hq hv; subst hq hv; exact h
    | succ j => exact k.2 j q v (by simpa using hq) (by simpa using hv)⟩
theorem RL.append {ps qs : List (PVal E)} {us vs : List Value} (h : RL R ps us) (k : RL R qs vs) : RL R (ps ++ qs) (us ++ vs) :=
  ⟨by simp [h.1, k.1], fun j p u hp hu => by
    have hl := h.1
    by_cases hj : j < ps.length
    · rw [List.getElem?_append_left hj] at hp
      rw [List.getElem?_append_left (by omega)] at hu
      exact h.2 j p u hp hu
    · rw [List.getElem?_append_right (by omega)] at hp
      rw [List.getElem?_append_right (by omega)] at hu
      exact k.2 _ p u hp (by rw [h.1]; exact hu)⟩
theorem RL.drop {ps : List (PVal E)} {vs : List Value} (h : RL R ps vs) (n : Nat) : RL R (ps.drop n) (vs.drop n) :=
  ⟨by simp [h.1], fun j p u hp hu => h.2 (n + j) p u (by simpa using hp) (by simpa using hu)⟩
theorem RL.take {ps : List (PVal E)} {vs : List Value} (h : RL R ps vs) (n : Nat) : RL R (ps.take n) (vs.take n) :=
  ⟨by simp [h.1], fun j p u hp hu => by
    rw [List.getElem?_take] at hp hu
    split at hp
    · rw [if_pos (by assumption)] at hu; exact h.2 j p u hp hu
    · cases hp⟩
theorem RL.mono {R' : PVal E → Value → Prop} {ps : List (PVal E)} {vs : List Value} (h : RL R ps vs) (k : ∀ p u, R p u → R' p u) : RL R' ps vs := ⟨h.1, fun j p u hp hu => k _ _ (h.2 j p u hp hu)⟩
theorem RL.of_idx {ps : List (PVal E)} {cs : Array Value} (hs : cs.size = ps.length) (h : ∀ i (hi : i < ps.length), R ps[i] (cs.getD i undef)) : RL R ps cs.toList :=
  ⟨by simp [hs], fun j p u hp hu => by
    obtain ⟨hj, rfl⟩ := List.getElem?_eq_some_iff.1 hp
    have := h j hj
    obtain ⟨hj', rfl⟩ := List.getElem?_eq_some_iff.1 hu
    simpa [Array.getD, hs, hj] using this⟩
theorem RL.idx {ps : List (PVal E)} {vs : List Value} (h : RL R ps vs) : vs.toArray.size = ps.length ∧ ∀ i (hi : i < ps.length), R ps[i] (vs.toArray.getD i undef) :=
  ⟨by simp [h.1], fun i hi => h.2 i _ _ (List.getElem?_eq_getElem hi) (by
    have hi' : i < vs.length := by rw [← h.1]; exact hi
    simp [Array.getD, hi'])⟩
end
abbrev Rp (E : Types) (A0 : Nat → Prop) (μ : Nat → Loc) (H : List (Blk E)) (w : World) : PVal E → Value → Prop := RepP E w (Av A0 μ H) (Us H) μ
abbrev Rt (E : Types) (A0 : Nat → Prop) (μ : Nat → Loc) (H : List (Blk E)) (w : World) (τ : Ty) (v : Value) (x : Den E.T τ) : Prop := RepT E w (Av A0 μ H) τ v x
theorem RepP.aggL {w : World} {A U : Nat → Prop} {μ : Nat → Loc} {ps : List (PVal E)} {vs : List Value} (h : RL (RepP E w A U μ) ps vs) : RepP E w A U μ (.agg ps) (.agg vs.toArray) :=
  .agg ps _ h.idx.1 h.idx.2
theorem RepP.tupleL {w : World} {A U : Nat → Prop} {μ : Nat → Loc} {ps : List (PVal E)} {vs : List Value} (h : RL (RepP E w A U μ) ps vs) : RepP E w A U μ (.tuple ps) (.tuple vs.toArray) :=
  .tuple ps _ h.idx.1 h.idx.2
theorem RepT.leaf_cells {w : World} {A : Nat → Prop} {τ : Ty} {v : Value} {x : Den E.T τ} (h : RepT E w A τ v x) (hl : τ.leaf = true) : v.cells = #[v] := by
  cases h <;> first | rfl | (simp [Ty.leaf] at hl)
theorem HL.toP_len : ∀ (ts : List Ty) (x : HL E.T ts), (HL.toP (E := E) ts x).length = ts.length
  | [], _ => rfl
  | t :: ts, x => by simp [HL.toP, HL.toP_len ts x.2]
theorem HL.toP_get : ∀ (ts : List Ty) (x : HL E.T ts) (i : Nat) (h : i < ts.length), (HL.toP (E := E) ts x)[i]? = some (.v ts[i] (HL.get ts x i h))
  | t :: ts, x, 0, h => by simp [HL.toP, HL.get]
  | t :: ts, x, i + 1, h => by
    have := HL.toP_get ts x.2 i (Nat.lt_of_succ_lt_succ h)
    simpa [HL.toP, HL.get] using this
theorem RepP.cells {w : World} {A U : Nat → Prop} {μ : Nat → Loc} {p : PVal E} {v : Value} (h : RepP E w A U μ p v) (hl : (cellsP p).all PVal.leaf = true) : RL (RepP E w A U μ) (cellsP p) v.cells.toList := by
  have one : ∀ {p : PVal E} {v : Value}, RepP E w A U μ p v → v.cells = #[v] → RL (RepP E w A U μ) [p] v.cells.toList := fun h e => by rw [e]; exact RL.cons h RL.nil
  cases h with
  | agg ps cs hs h => exact RL.of_idx hs h
  | v τ x v h =>
    cases h with
    | named n cs x hs h =>
      have hlen := HL.toP_len (E := E) (E.leaves n) (E.unpack n x)
      refine RL.of_idx (ps := HL.toP (E.leaves n) (E.unpack n x)) (cs := cs) (by rw [hs, hlen]) (fun i hi => ?_)
      rw [hlen] at hi
      have := HL.toP_get (E.leaves n) (E.unpack n x) i hi
      obtain ⟨_, e⟩ := List.getElem?_eq_some_iff.1 this
      rw [e]
      exact .v _ _ _ (h i hi)
    | arr n e cs l vs h1 h2 h3 h4 => simp [cellsP, PVal.leaf, Ty.leaf] at hl
    | bool b => exact one (.v _ _ _ (.bool b)) rfl
    | int k x => exact one (.v _ _ _ (.int k x)) rfl
    | str s => exact one (.v _ _ _ (.str s)) rfl
    | nil e a cap => exact one (.v _ _ _ (.nil e a cap)) rfl
    | slice e b off cap l vs h1 h2 h3 h4 h5 => exact one (.v _ _ _ (.slice e b off cap l vs h1 h2 h3 h4 h5)) rfl
  | any v => simp [cellsP, PVal.leaf] at hl
  | skip => simp [cellsP, PVal.leaf] at hl
  | tuple ps cs hs h => simp [cellsP, PVal.leaf] at hl
  | nils a => exact one (.nils a) rfl
  | own id b off len cap u m => exact one (.own id b off len cap u m) rfl
  | own0 id a a2 u m => exact one (.own0 id a a2 u m) rfl
  | full e l a h => exact one (.full e l a h) rfl
  | bsl id n b u m => exact one (.bsl id n b u m) rfl
  | ptr id off b len cap u m => exact one (.ptr id off b len cap u m) rfl
  | eptr e id i off b o len cap u m hi => exact one (.eptr e id i off b o len cap u m hi) rfl
  | rptr ps b o us a1 a2 a3 a4 => exact one (.rptr ps b o us a1 a2 a3 a4) rfl
  | fn f ps cs hs h => exact one (.fn f ps cs hs h) rfl
  | bfn f ps cs hs h => exact one (.bfn f ps cs hs h) rfl
  | yld n i => exact one (.yld n i) rfl
  | nilfn => exact one .nilfn rfl
  | nilp => exact one .nilp rfl
  | nilm => exact one .nilm rfl
  | map id b u m => exact one (.map id b u m) rfl
theorem RepT.cellsL {w : World} {A U : Nat → Prop} {μ : Nat → Loc} {τ : Ty} {v : Value} {x : Den E.T τ} (h : RepT E w A τ v x) (hl : (elemP τ x).all PVal.leaf = true) : RL (RepP E w A U μ) (elemP τ x) v.cells.toList :=
  RepP.cells (.v τ x v h) hl
theorem leaf_oneCell {w : World} {A U : Nat → Prop} {μ : Nat → Loc} {p : PVal E} {v : Value} (h : RepP E w A U μ p v) (hl : p.leaf = true) : v.oneCell' = true := by
  cases h with
  | v τ x v h => cases h <;> first | rfl | (simp [PVal.leaf, Ty.leaf] at hl)
  | _ => first | rfl | (simp [PVal.leaf] at hl)
section
variable {P : Program} {tab : List (Nat × TI)} {A0 : Nat → Prop} {μ : Nat → Loc} {H : List (Blk E)} {w : World} {R : Type} {K : PVal E → List (Blk E) → Option R} {r : R}
def ValRes (P : Program) (A0 : Nat → Prop) (μ : Nat → Loc) (H : List (Blk E)) (w : World) {R : Type} (s : Sem Value) (K : PVal E → List (Blk E) → Option R) (r : R) : Prop :=
  ∃ p H' v w' μ', s.run P w = .ok v w' ∧ Trans A0 μ H w μ' H' w' ∧ HSim A0 μ' H' w' ∧ Rp E A0 μ' H' w' p v ∧ K p H' = some r
def UnitRes (P : Program) (A0 : Nat → Prop) (μ : Nat → Loc) (H : List (Blk E)) (w : World) {R : Type} (s : Sem Unit) (K : PVal E → List (Blk E) → Option R) (r : R) : Prop :=
  ∃ H' w' μ', s.run P w = .ok () w' ∧ Trans A0 μ H w μ' H' w' ∧ HSim A0 μ' H' w' ∧ K .skip H' = some r
theorem ValRes.same {s : Sem Value} {v : Value} {p : PVal E} (S : HSim A0 μ H w) (h : s.run P w = .ok v w) (hp : Rp E A0 μ H w p v) (hk : K p H = some r) : ValRes P A0 μ H w s K r :=
  ⟨p, H, v, w, μ, h, Trans.refl _ _ _ _, S, hp, hk⟩
theorem addr_add (b o j : Nat) : (⟨b, o, none⟩ : Addr).add j = ⟨b, o + j, none⟩ := by unfold Addr.add; split <;> simp_all
theorem run_loadVar' (hT : tabB E.leaves P tab = true) {t : Nat} {i : TI} (hi : look tab t = some i) (w : World) (b o : Nat) (cs : List Value) (hl : cs.length = i.size)
    (hc : ∀ (j : Nat) u, cs[j]? = some u → w.cell? ⟨b, o + j, none⟩ = some u) : (loadVar t ⟨b, o, none⟩).run P w = .ok (if i.agg then .agg cs.toArray else cs.headD undef) w := by
  have hload : (loadCells ⟨b, o, none⟩ cs.length).run P w = .ok cs.toArray w := run_loadCells_list (P := P) w ⟨b, o, none⟩ cs (fun j v hv => by rw [addr_add]; exact hc j v hv)
  simp only [loadVar, Sem.run_bind, run_isAgg' hT hi, Result.andThen_ok]
  cases ha : i.agg with
  | true => simp [run_sizeOf' hT hi, ← hl, hload]
  | false =>
    have h1 := ti_one hT hi ha
    match cs, hl with
    | [c], _ => have := hc 0 c rfl; simp only [Nat.add_zero] at this; simp [this]
    | [], hl => simp [h1] at hl
    | _ :: _ :: _, hl => simp [h1] at hl
theorem outD_sound {i : TI} {ps : List (PVal E)} {vs : List Value} (h : (outD i ps).cps H K = some r) (hr : RL (Rp E A0 μ H w) ps vs) :
    vs.length = i.size ∧ ∃ p, Rp E A0 μ H w p (if i.agg then .agg vs.toArray else vs.headD undef) ∧ K p H = some r := by
  unfold outD at h
  split at h
  · rename_i hn
    have hn := Nat.eq_of_beq_eq_true hn
    refine ⟨by rw [← hr.1, hn], ?_⟩
    split at h
    · rename_i ha; rw [if_pos ha]; exact ⟨_, RepP.aggL hr, h⟩
    · rename_i ha
      rw [if_neg ha]
      match ps, vs, hr, h with
      | [c], [u], hr, h => exact ⟨c, hr.2 0 c u rfl rfl, h⟩
      | [c], [], hr, _ => simp [RL] at hr
      | [c], _ :: _ :: _, hr, _ => simp [RL] at hr
      | [], _, _, h => simp [Dec.cps] at h
      | _ :: _ :: _, _, _, h => simp [Dec.cps] at h
  · simp [Dec.cps] at h
theorem RL_sub {R : PVal E → Value → Prop} {ps : List (PVal E)} {vs : List Value} (h : RL R ps vs) (off n : Nat) : RL R (Pe.sub ps off n) (Pe.sub vs off n) := (h.drop off).take n
theorem cells_sub {w : World} {b : Nat} {fr : Bool} {c : Array Value} (h : BoxAt w b fr c) (off n : Nat) : ∀ (j : Nat) u, (Pe.sub c.toList off n)[j]? = some u → w.cell? ⟨b, off + j, none⟩ = some u := by
  intro j u hu
  obtain ⟨t, f, hb, _⟩ := h
  unfold Pe.sub at hu
  rw [List.getElem?_take] at hu
  split at hu
  · rw [List.getElem?_drop] at hu
    simp only [World.cell?, hb]
    simpa using hu
  · cases hu
theorem castTy_some {τ τ' : Ty} {x : Den E.T τ} {y : Den E.T τ'} (h : castTy (E := E) τ τ' x = some y) : ∃ e : τ = τ', e ▸ x = y := by
  unfold castTy at h
  split at h
  · rename_i e; exact ⟨e, by simpa using h⟩
  · cases h
theorem loadD_sound (hT : tabB E.leaves P tab = true) {t : Nat} {i : TI} (hi : look tab t = some i) {p : PVal E} {v : Value} (S : HSim A0 μ H w) (hp : Rp E A0 μ H w p v)
    (h : (loadD i p).cps H K = some r) : ValRes P A0 μ H w (Instr.loadAt t v) K r := by
  have fin : ∀ (b o : Nat) (ps : List (PVal E)) (vs : List Value), (outD i ps).cps H K = some r → RL (Rp E A0 μ H w) ps vs → (∀ (j : Nat) u, vs[j]? = some u → w.cell? ⟨b, o + j, none⟩ = some u) →
      ValRes P A0 μ H w (Instr.loadAt t (.pointer (some ⟨b, o, none⟩))) K r := fun b o ps vs h hr hc => by
    obtain ⟨hl, p, hp, hk⟩ := outD_sound h hr
    exact ValRes.same S (by simp [Instr.loadAt, Instr.sureAddr, run_loadVar' hT hi w b o vs hl hc]) hp hk
  cases hp with
  | ptr id off b len cap hU hμ =>
    simp only [loadD, Dec.cps] at h
    have ok := S.ok id
    cases hB : getB H id with
    | box wr cs =>
      rw [hB] at ok h
      obtain ⟨b', len', cap', c, hl, hbox, hsz, hr⟩ := ok
      rw [hμ] at hl; injection hl with e1; subst e1
      exact fin b off _ _ h (RL_sub (RL.of_idx hsz (fun j hj => (hr j hj).1)) off i.size) (cells_sub hbox off i.size)
    | row wr e l => rw [hB] at h; simp [Dec.cps] at h
    | free => rw [hB] at h; simp [Dec.cps] at h
    | dead => rw [hB] at h; simp [Dec.cps] at h
    | map es => rw [hB] at h; simp [Dec.cps] at h
  | eptr e id n off b o len cap hU hμ _ =>
    simp only [loadD, Dec.cps] at h
    have ok := S.ok id
    cases hB : getB H id with
    | row wr e' l =>
      rw [hB] at ok h
      simp only at h
      split at h
      · rename_i l' hcast
        obtain ⟨he, rfl⟩ := castTy_some hcast
        injection he with he; subst he
        simp only [Dec.cps] at h
        cases hx : l[n]? with
        | none => simp [hx] at h
        | some x =>
          simp only [hx, Option.bind_some] at h
          obtain ⟨hn, hxe⟩ := List.getElem?_eq_some_iff.1 hx
          rcases ok with ⟨b', off', cap', c, vs, hl, hbox, h1, h2, h3, h4⟩ | ⟨rfl, _⟩
          · rw [hμ] at hl; injection hl with e1 e2; subst e1 e2
            have hrep := h4 n hn
            rw [hxe] at hrep
            split at h
            · rename_i hleaf
              refine fin _ _ _ _ h (RL_sub (RepT.cellsL hrep hleaf) off i.size) (fun j u hu => ?_)
              unfold Pe.sub at hu
              rw [List.getElem?_take] at hu
              split at hu
              · rw [List.getElem?_drop, Array.getElem?_toList] at hu
                have := h3 n hn _ _ hu
                obtain ⟨t', f, hb, _⟩ := hbox
                simp only [World.cell?, hb]
                simpa [Nat.add_assoc] using this
              · cases hu
            · simp [Dec.cps] at h
          · simp at hn
      · simp [Dec.cps] at h
    | box wr cs => rw [hB] at h; simp [Dec.cps] at h
    | free => rw [hB] at h; simp [Dec.cps] at h
    | dead => rw [hB] at h; simp [Dec.cps] at h
    | map es => rw [hB] at h; simp [Dec.cps] at h
  | rptr ps b o us hA hb hm hr =>
    simp only [loadD] at h
    refine fin b o _ _ h (RL_sub (ps := ps) (vs := (List.range ps.length).map us) ⟨by simp, fun j p u hp hu => ?_⟩ 0 i.size) (fun j u hu => ?_)
    · obtain ⟨hj, rfl⟩ := List.getElem?_eq_some_iff.1 hp
      simp [hj] at hu; subst hu; exact hr j hj
    · unfold Pe.sub at hu
      rw [List.getElem?_take] at hu
      split at hu
      · simp only [List.drop_zero, List.getElem?_map, Option.map_eq_some_iff] at hu
        obtain ⟨a, ha, rfl⟩ := hu
        obtain ⟨hj, rfl⟩ := List.getElem?_eq_some_iff.1 ha
        simpa using hm j (by simpa using hj)
      · cases hu
  | _ => simp [loadD, Dec.cps] at h
end
end Go.Pe
namespace Go.Pe
variable {E : Types}
section
variable {P : Program} {tab : List (Nat × TI)} {A0 : Nat → Prop} {μ : Nat → Loc} {H : List (Blk E)} {w : World} {R : Type}
theorem RepT.less {A A' : Nat → Prop} {τ : Ty} {v : Value} {x : Den E.T τ} (h : RepT E w A τ v x) (hA : ∀ b, A' b → A b) : RepT E w A' τ v x :=
  h.mono (Nat.le_refl _) (fun b _ hb => ⟨rfl, fun h' => hb (hA b h')⟩)
theorem row_rep {wr : Bool} {e : Ty} {l : List (Den E.T e)} {b o n c : Nat} {A A' : Nat → Prop} {U : Nat → Prop} (ok : BlkOk w A U μ (.blk b o n c) (.row wr e l))
    (hA : ∀ b, A' b → A b) (hb : ¬ A' b) : n = l.length ∧ RepT E w A' (.slice e) (.slice (some ⟨b, o, none⟩) n c) l := by
  rcases ok with ⟨b', off, cap, c', vs, hl, hbox, h1, h2, h3, h4⟩ | ⟨_, a, h2⟩
  · injection hl with e1 e2 e3 e4
    subst e1 e2 e3 e4
    refine ⟨rfl, .slice e b o c l vs hb hbox.lt h1 (fun i hi j u hu => ?_) (fun i hi => (h4 i hi).less hA)⟩
    obtain ⟨t, f, hh, _⟩ := hbox
    simp only [World.cell?, hh]
    simpa using h3 i hi j u hu
  · cases h2
theorem toLeaf_sound {τ : Ty} {p : PVal E} {v : Value} {y : Den E.T τ} {ids : List Nat} (S : HSim A0 μ H w) (hp : Rp E A0 μ H w p v) (h : toLeaf τ p H = some (y, ids))
    {A' : Nat → Prop} (hA : ∀ b, A' b → Av A0 μ H b) (hids : ∀ id ∈ ids, ∀ b o l c, μ id = .blk b o l c → ¬ A' b) : RepT E w A' τ v y := by
  cases hp with
  | v τ' x v hx =>
    simp only [toLeaf, Option.bind_eq_some_iff] at h
    obtain ⟨z, hz, he⟩ := h
    obtain ⟨e, rfl⟩ := castTy_some hz
    subst e
    simp at he; obtain ⟨rfl, _⟩ := he
    exact hx.less hA
  | nils a =>
    simp only [toLeaf] at h
    split at h
    · simp at h; obtain ⟨rfl, _⟩ := h; exact .nil _ a 0
    · cases h
  | full e l a hx =>
    simp only [toLeaf] at h
    split at h
    · simp only [Option.bind_eq_some_iff] at h
      obtain ⟨z, hz, he⟩ := h
      obtain ⟨e', rfl⟩ := castTy_some hz
      injection e' with e'; subst e'
      simp at he; obtain ⟨rfl, _⟩ := he
      exact hx.less hA
    · cases h
  | own id b o n c hU hμ =>
    simp only [toLeaf] at h
    split at h
    · cases hB : getB H id with
      | row wr e' l =>
        simp only [hB, Option.bind_eq_some_iff] at h
        obtain ⟨z, hz, he⟩ := h
        obtain ⟨e', rfl⟩ := castTy_some hz
        injection e' with e'; subst e'
        simp at he; obtain ⟨rfl, rfl⟩ := he
        have ok := S.ok id
        rw [hB, hμ] at ok
        exact (row_rep ok hA (hids id (by simp) b o n c hμ)).2
      | _ => simp [hB] at h
    · cases h
  | own0 id a a2 hU hμ =>
    simp only [toLeaf] at h
    split at h
    · cases hB : getB H id with
      | row wr e' l =>
        simp only [hB, Option.bind_eq_some_iff] at h
        obtain ⟨z, hz, he⟩ := h
        obtain ⟨e', rfl⟩ := castTy_some hz
        injection e' with e'; subst e'
        simp at he; obtain ⟨rfl, rfl⟩ := he
        have ok := S.ok id
        rw [hB, hμ] at ok
        rcases ok with ⟨_, _, _, _, _, hl, _⟩ | ⟨rfl, _⟩
        · cases hl
        · exact .nil _ a 0
      | _ => simp [hB] at h
    · cases h
  | _ => simp [toLeaf] at h
theorem toLeaf_nil {τ : Ty} {p : PVal E} {y : Den E.T τ} {ids : List Nat} (h : toLeaf τ p [] = some (y, ids)) (H : List (Blk E)) : toLeaf τ p H = some (y, ids) ∧ ids = [] := by
  cases p with
  | own id => simp only [toLeaf] at h; split at h <;> simp_all [getB]
  | v τ' x => exact ⟨h, by simp only [toLeaf, Option.bind_eq_some_iff] at h; obtain ⟨z, _, he⟩ := h; simp at he; exact he.2⟩
  | nils => refine ⟨h, ?_⟩; simp only [toLeaf] at h; split at h <;> simp_all
  | full e l =>
    refine ⟨h, ?_⟩
    simp only [toLeaf] at h
    split at h
    · simp only [Option.bind_eq_some_iff] at h; obtain ⟨z, _, he⟩ := h; simp at he; exact he.2
    · cases h
  | _ => simp [toLeaf] at h
theorem toLeaves_sound : ∀ {ts : List Ty} {ps : List (PVal E)} {vs : List Value} {x : HL E.T ts} {ids : List Nat}, HSim A0 μ H w → RL (Rp E A0 μ H w) ps vs → toLeaves ts ps H = some (x, ids) →
    ∀ {A' : Nat → Prop}, (∀ b, A' b → Av A0 μ H b) → (∀ id ∈ ids, ∀ b o l c, μ id = .blk b o l c → ¬ A' b) →
    vs.length = ts.length ∧ ∀ i (hi : i < ts.length), RepT E w A' ts[i] (vs.getD i undef) (HL.get ts x i hi)
  | [], [], vs, x, ids, S, hr, h, A', hA, hids => by
    have := hr.1; simp at this; simp [this.symm]
  | [], _ :: _, _, _, _, _, _, h, _, _, _ => by simp [toLeaves] at h
  | _ :: _, [], _, _, _, _, _, h, _, _, _ => by simp [toLeaves] at h
  | t :: ts, p :: ps, [], _, _, _, hr, _, _, _, _ => by have := hr.1; simp at this
  | t :: ts, p :: ps, v :: vs, x, ids, S, hr, h, A', hA, hids => by
    simp only [toLeaves, Option.bind_eq_some_iff] at h
    obtain ⟨a, ha, b, hb, he⟩ := h
    obtain ⟨a1, a2⟩ := a
    obtain ⟨b1, b2⟩ := b
    simp at he; obtain ⟨rfl, rfl⟩ := he
    have h0 := toLeaf_sound S (hr.2 0 p v rfl rfl) ha hA (fun id hid => hids id (by simp [hid]))
    have h1 := toLeaves_sound (ts := ts) (ps := ps) (vs := vs) S ⟨by have := hr.1; simpa using this, fun j p u hp hu => hr.2 (j + 1) p u (by simpa using hp) (by simpa using hu)⟩ hb hA (fun id hid => hids id (by simp [hid]))
    refine ⟨by simp [h1.1], fun i hi => ?_⟩
    cases i with
    | zero => simpa [HL.get] using h0
    | succ i => simpa [HL.get] using h1.2 i (Nat.lt_of_succ_lt_succ hi)
theorem toLeaves_nil : ∀ {ts : List Ty} {ps : List (PVal E)} {x : HL E.T ts} {ids : List Nat}, toLeaves ts ps [] = some (x, ids) → ∀ H : List (Blk E), toLeaves ts ps H = some (x, ids) ∧ ids = []
  | [], [], _, _, h, H => by simp [toLeaves] at h ⊢; exact h
  | [], _ :: _, _, _, h, _ => by simp [toLeaves] at h
  | _ :: _, [], _, _, h, _ => by simp [toLeaves] at h
  | t :: ts, p :: ps, x, ids, h, H => by
    simp only [toLeaves, Option.bind_eq_some_iff] at h ⊢
    obtain ⟨⟨a1, a2⟩, ha, ⟨b1, b2⟩, hb, he⟩ := h
    simp at he; obtain ⟨rfl, rfl⟩ := he
    obtain ⟨ha', rfl⟩ := toLeaf_nil ha H
    obtain ⟨hb', rfl⟩ := toLeaves_nil hb H
    exact ⟨⟨_, ha', _, hb', rfl⟩, rfl⟩
theorem toT_sound {τ : Ty} {p : PVal E} {v : Value} {y : Den E.T τ} {ids : List Nat} (S : HSim A0 μ H w) (hp : Rp E A0 μ H w p v) (h : toT τ p H = some (y, ids))
    {A' : Nat → Prop} (hA : ∀ b, A' b → Av A0 μ H b) (hids : ∀ id ∈ ids, ∀ b o l c, μ id = .blk b o l c → ¬ A' b) : RepT E w A' τ v y := by
  unfold toT at h
  split at h
  · rename_i cs n
    simp only [Option.bind_eq_some_iff] at h
    obtain ⟨⟨x, ids'⟩, hx, he⟩ := h
    simp at he; obtain ⟨rfl, rfl⟩ := he
    cases hp with
    | agg ps vs hs hr =>
      obtain ⟨h1, h2⟩ := toLeaves_sound S (RL.of_idx hs hr) hx hA hids
      refine .named n vs _ (by simpa using h1) (fun i hi => ?_)
      rw [E.up]
      simpa [Array.getD_eq_getD_getElem?] using h2 i hi
  · exact toLeaf_sound S hp h hA hids
theorem toT_nil {τ : Ty} {p : PVal E} {y : Den E.T τ} {ids : List Nat} (h : toT τ p [] = some (y, ids)) (H : List (Blk E)) : toT τ p H = some (y, ids) ∧ ids = [] := by
  unfold toT at h ⊢
  split at h
  · rename_i cs n
    simp only [Option.bind_eq_some_iff] at h
    obtain ⟨⟨x, ids'⟩, hx, he⟩ := h
    simp at he; obtain ⟨rfl, rfl⟩ := he
    obtain ⟨h1, rfl⟩ := toLeaves_nil hx H
    simp [h1]
  · exact toLeaf_nil h H
theorem toT0_sound {τ : Ty} {p : PVal E} {v : Value} {y : Den E.T τ} (S : HSim A0 μ H w) (hp : Rp E A0 μ H w p v) (h : toT0 τ p = some y) : Rt E A0 μ H w τ v y := by
  simp only [toT0, Option.bind_eq_some_iff] at h
  obtain ⟨⟨x, ids⟩, hx, he⟩ := h
  simp at he; subst he
  obtain ⟨h1, rfl⟩ := toT_nil hx H
  exact toT_sound S hp h1 (fun _ h => h) (fun id hid => by cases hid)
theorem free_set {id : Nat} {wr : Bool} {e : Ty} {l : List (Den E.T e)} (hB : getB H id = .row wr e l) {B : Blk E} : ∀ j, getB H j = .free → getB (H.set id B) j = .free := by
  intro j hj
  have hne : id ≠ j := fun e => by subst e; rw [hB] at hj; cases hj
  rw [getB_set_ne H B hne]; exact hj
theorem freeze_row {id : Nat} {wr : Bool} {e : Ty} {l : List (Den E.T e)} (S : HSim A0 μ H w) (hB : getB H id = .row wr e l) :
    Trans A0 μ H w μ (H.set id (.row false e l)) w ∧ HSim A0 μ (H.set id (.row false e l)) w ∧
      ∀ v, Rp E A0 μ H w (.own id) v → ∃ a c, v = .slice a l.length c ∧ Rt E A0 μ (H.set id (.row false e l)) w (.slice e) v l := by
  have hu : Us H id := by unfold Us; rw [hB]; rfl
  have hlt := lt_of_used hu
  have T : Trans A0 μ H w μ (H.set id (.row false e l)) w := Trans.drop id _ hu rfl rfl
  have ok := S.ok id
  rw [hB] at ok
  have S' : HSim A0 μ (H.set id (.row false e l)) w := by
    refine S.drop id _ hu rfl rfl (fun _ => by rw [hB]; rfl) (fun _ => by rw [hB]; rfl) ?_
    have ok' := ok.keep T (fun _ _ _ _ _ _ => rfl)
    rcases ok' with ⟨b, off, cap, c, vs, hl, hbox, h1⟩ | h1
    · obtain ⟨t, f, hh, _⟩ := hbox
      exact .inl ⟨b, off, cap, c, vs, hl, ⟨t, f, hh, fun h => by cases h⟩, h1⟩
    · exact .inr h1
  refine ⟨T, S', fun v hv => ?_⟩
  have ok2 := S'.ok id
  rw [getB_set_eq H id _ hlt] at ok2
  cases hv with
  | own id b o n c hU hμ =>
    rw [hμ] at ok2
    have hA : ¬ Av A0 μ (H.set id (.row false e l)) b := by
      rintro (h0 | ⟨j, o', n', c', hj, hj'⟩)
      · exact (S'.out id b o n c (by rw [getB_set_eq H id _ hlt]; rfl) hμ).1 h0.1
      · by_cases ej : j = id
        · subst ej; rw [getB_set_eq H j _ hlt] at hj; cases hj
        · exact S'.inj j id b o' n' c' b o n c ej hj (by rw [getB_set_eq H id _ hlt]; rfl) hj' hμ rfl
    obtain ⟨h1, h2⟩ := row_rep ok2 (fun _ h => h) hA
    subst h1
    exact ⟨_, _, rfl, h2⟩
  | own0 id a a2 hU hμ =>
    rw [hμ] at ok2
    rcases ok2 with ⟨_, _, _, _, _, hl, _⟩ | ⟨rfl, _⟩
    · cases hl
    · exact ⟨a, 0, rfl, .nil _ a 0⟩
variable {α : Type} {K : α → List (Blk E) → Option R} {r : R}
theorem typedAgg_sound {τ : Ty} (k : Den E.T τ → Dec E α) : ∀ {cs : List (PVal E)} {acc : List (PVal E)} {vs : List Value} {us : List Value} {H : List (Blk E)}, HSim A0 μ H w → RL (Rp E A0 μ H w) cs vs →
    RL (Rp E A0 μ H w) acc us → (typed.typedAgg τ k cs acc).cps H K = some r →
    ∃ x H', Trans A0 μ H w μ H' w ∧ HSim A0 μ H' w ∧ Rt E A0 μ H' w τ (.agg (us ++ vs).toArray) x ∧ (∀ id, getB H id = .free → getB H' id = .free) ∧ (k x).cps H' K = some r
  | [], acc, vs, us, H, S, hc, ha, h => by
    have := hc.1; simp at this; obtain rfl := List.length_eq_zero_iff.1 this.symm
    simp only [typed.typedAgg] at h
    split at h
    · rename_i y hy
      exact ⟨y, H, Trans.refl _ _ _ _, S, by simpa using toT0_sound S (RepP.aggL ha) hy, fun _ h => h, h⟩
    · simp [Dec.cps] at h
  | c :: cs, acc, [], us, H, S, hc, ha, h => by have := hc.1; simp at this
  | c :: cs, acc, v :: vs, us, H, S, hc, ha, h => by
    have hc0 := hc.2 0 c v rfl rfl
    have hcs : RL (Rp E A0 μ H w) cs vs := ⟨by have := hc.1; simpa using this, fun j p u hp hu => hc.2 (j + 1) p u (by simpa using hp) (by simpa using hu)⟩
    have go : ∀ (c : PVal E) (H' : List (Blk E)), Trans A0 μ H w μ H' w → HSim A0 μ H' w → (∀ id, getB H id = .free → getB H' id = .free) → Rp E A0 μ H' w c v → (typed.typedAgg τ k cs (acc ++ [c])).cps H' K = some r →
        ∃ x H', Trans A0 μ H w μ H' w ∧ HSim A0 μ H' w ∧ Rt E A0 μ H' w τ (.agg (us ++ v :: vs).toArray) x ∧ (∀ id, getB H id = .free → getB H' id = .free) ∧ (k x).cps H' K = some r := fun c H' T S' hfr hcv h => by
      obtain ⟨x, H'', T', S'', hx, hfr', hk⟩ := typedAgg_sound k S' (hcs.mono fun _ _ => T.rep) ((ha.mono fun _ _ => T.rep).append (RL.cons hcv RL.nil)) h
      exact ⟨x, H'', T.trans T', S'', by simpa using hx, fun id h => hfr' id (hfr id h), hk⟩
    cases c with
    | own id =>
      simp only [typed.typedAgg, Dec.cps] at h
      cases hB : getB H id with
      | row wr e l =>
        rw [hB] at h
        simp only [Dec.cps] at h
        cases hlt : Nat.blt id H.length with
        | false => simp [hlt] at h
        | true =>
          simp only [hlt, cond_true] at h
          obtain ⟨T, S', hrep⟩ := freeze_row S hB
          obtain ⟨a, c, rfl, hv⟩ := hrep v hc0
          exact go (.v (.slice e) l) _ T S' (free_set hB) (.v _ _ _ hv) h
      | _ => rw [hB] at h; simp [Dec.cps] at h
    | _ => exact go _ H (Trans.refl _ _ _ _) S (fun _ h => h) hc0 (by simpa only [typed.typedAgg] using h)
theorem typed_sound {τ : Ty} {p : PVal E} {v : Value} {k : Den E.T τ → Dec E α} (S : HSim A0 μ H w) (hp : Rp E A0 μ H w p v) (h : (typed τ p k).cps H K = some r) :
    ∃ x H', Trans A0 μ H w μ H' w ∧ HSim A0 μ H' w ∧ Rt E A0 μ H' w τ v x ∧ (∀ id, getB H id = .free → getB H' id = .free) ∧ (k x).cps H' K = some r := by
  unfold typed at h
  split at h
  · rename_i id
    simp only [Dec.cps] at h
    cases hB : getB H id with
    | row wr e l =>
      rw [hB] at h
      simp only [Dec.cps] at h
      cases hlt : Nat.blt id H.length with
      | false => simp [hlt] at h
      | true =>
        simp only [hlt, cond_true] at h
        obtain ⟨T, S', hrep⟩ := freeze_row S hB
        obtain ⟨a, c, rfl, hv⟩ := hrep v hp
        split at h
        · rename_i y hy
          exact ⟨y, _, T, S', toT0_sound S' (.v _ _ _ hv) hy, free_set hB, h⟩
        · simp [Dec.cps] at h
    | _ => rw [hB] at h; simp [Dec.cps] at h
  · rename_i cs
    cases hp with
    | agg ps vs hs hr =>
      obtain ⟨x, H', T, S', hx, hfr, hk⟩ := typedAgg_sound k S (RL.of_idx hs hr) RL.nil h
      exact ⟨x, H', T, S', by simpa using hx, hfr, hk⟩
  · split at h
    · rename_i y hy
      exact ⟨y, H, Trans.refl _ _ _ _, S, toT0_sound S hp hy, fun _ h => h, h⟩
    · simp [Dec.cps] at h
end
end Go.Pe
namespace Go.Pe
variable {E : Types}
theorem RepT.size {w : World} {A : Nat → Prop} {τ : Ty} {v : Value} {x : Den E.T τ} (h : RepT E w A τ v x) : v.cells.size = τ.size E := by
  cases h <;> first | rfl | assumption
section
variable {P : Program} {tab : List (Nat × TI)} {A0 : Nat → Prop} {μ : Nat → Loc} {H : List (Blk E)} {w : World} {R : Type} {K : PVal E → List (Blk E) → Option R} {r : R}
theorem box_cells {w : World} {A U : Nat → Prop} {l : Loc} {wr : Bool} {cs : List (PVal E)} (ok : BlkOk w A U μ l (.box wr cs)) :
    ∃ b n cap c, l = .blk b 0 n cap ∧ BoxAt w b wr c ∧ RL (RepP E w A U μ) cs c.toList ∧ ∀ p ∈ cs, p.leaf = true := by
  obtain ⟨b, n, cap, c, hl, hbox, hsz, hr⟩ := ok
  refine ⟨b, n, cap, c, hl, hbox, RL.of_idx hsz (fun j hj => (hr j hj).1), fun p hp => ?_⟩
  obtain ⟨j, hj, rfl⟩ := List.getElem_of_mem hp
  exact (hr j hj).2
theorem box_ok {w : World} {A U : Nat → Prop} {wr : Bool} {cs : List (PVal E)} {b n cap : Nat} {vs : List Value} (hbox : BoxAt w b wr vs.toArray) (hr : RL (RepP E w A U μ) cs vs) (hl : ∀ p ∈ cs, p.leaf = true) :
    BlkOk w A U μ (.blk b 0 n cap) (.box wr cs) :=
  ⟨b, n, cap, vs.toArray, rfl, hbox, hr.idx.1, fun j hj => ⟨hr.idx.2 j hj, hl _ (List.getElem_mem hj)⟩⟩
theorem tyIs_eq {i : TI} {τ : Ty} (h : tyIs i τ = true) : i.ty = some τ := by
  unfold tyIs at h
  split at h
  · simp at h; subst h; assumption
  · cases h
theorem storeD_sound (hT : tabB E.leaves P tab = true) {t : Nat} {i : TI} (hi : look tab t = some i) {p x : PVal E} {v u : Value} (S : HSim A0 μ H w) (hp : Rp E A0 μ H w p v) (hx : Rp E A0 μ H w x u)
    (h : (storeD i p x).cps H K = some r) : UnitRes P A0 μ H w (Instr.storeAt t v u) K r := by
  unfold storeD at h
  simp only at h
  split at h
  rotate_left
  · simp [Dec.cps] at h
  rename_i hc
  simp only [Bool.and_eq_true] at hc
  obtain ⟨hlen, hleaf⟩ := hc
  have hlen := Nat.eq_of_beq_eq_true hlen
  have hcell := RepP.cells hx hleaf
  have husz : u.cells.size = i.size := by have := hcell.1; simpa [hlen] using this.symm
  have hone : ∀ y ∈ u.cells.toList, y.oneCell' = true := fun y hy => by
    obtain ⟨j, hj, rfl⟩ := List.getElem_of_mem hy
    have hj' : j < (cellsP x).length := by rw [hcell.1]; exact hj
    exact leaf_oneCell (hcell.2 j _ _ (List.getElem?_eq_getElem hj') (List.getElem?_eq_getElem hj)) (List.all_eq_true.1 hleaf _ (List.getElem_mem hj'))
  cases hp with
  | ptr id off b n cap hU hμ =>
    simp only [Dec.cps] at h
    have ok := S.ok id
    cases hB : getB H id with
    | box wr cs =>
      rw [hB] at h ok
      cases wr with
      | false => simp [Dec.cps] at h
      | true =>
        simp only at h
        split at h
        rotate_left
        · simp [Dec.cps] at h
        rename_i hfit
        have hfit := Nat.le_of_ble_eq_true hfit
        simp only [Dec.cps] at h
        cases hlt : Nat.blt id H.length with
        | false => simp [hlt] at h
        | true =>
          simp only [hlt, cond_true] at h
          obtain ⟨b', n', cap', c, hl, hbox, hr, hlf⟩ := box_cells ok
          rw [hμ] at hl; injection hl with e1 e2 e3 e4; subst e1 e3 e4
          obtain ⟨t', f, hh, hf⟩ := hbox
          obtain rfl := hf rfl
          have hcs : c.size = cs.length := by have := hr.1; simpa using this.symm
          have hrun := run_storeCells_at (P := P) b off t' u.cells.toList 0 c w hh (by simp [husz, hcs]; omega) hone
          have hlive : liveB (getB H id) = true := by rw [hB]; rfl
          have hb : ∀ k, k < w.heap.size → (∀ o n c, μ id ≠ .blk k o n c) → (w.setRow b (c.toList.take (off + 0) ++ u.cells.toList ++ c.toList.drop (off + 0 + u.cells.toList.length)).toArray).heap[k]? = w.heap[k]? :=
            fun k _ hk => setRow_other _ _ _ _ (fun e => hk 0 n cap (e ▸ hμ))
          have T : Trans A0 μ H w μ (H.set id (.box true (splice cs off (cellsP x)))) _ := Trans.write id _ hU (Quiet.setRow w b _) hlive hb rfl
          refine ⟨_, _, μ, ?_, T, S.write id _ hU (Quiet.setRow w b _) hlive hb rfl ?_, h⟩
          · simp only [Instr.storeAt, Instr.sureAddr, storeVar, Sem.run_bind, Sem.run_pure, Result.andThen_ok, run_sizeOf' hT hi, husz]
            simpa using hrun
          · rw [hμ]
            refine box_ok (vs := c.toList.take (off + 0) ++ u.cells.toList ++ c.toList.drop (off + 0 + u.cells.toList.length)) ⟨t', (0, 0), setRow_heap _ _ _ _ _ _ hh, fun _ => rfl⟩ ?_ ?_
            · have e : off + 0 + u.cells.toList.length = off + (cellsP x).length := by rw [hcell.1]; omega
              have hfin : RL (Rp E A0 μ H w) (splice cs off (cellsP x)) (c.toList.take (off + 0) ++ u.cells.toList ++ c.toList.drop (off + 0 + u.cells.toList.length)) := by
                rw [e]; exact ((hr.take off).append hcell).append (hr.drop _)
              exact hfin.mono fun _ _ => T.rep
            · intro q hq
              simp only [splice, List.mem_append] at hq
              rcases hq with (hq | hq) | hq
              · exact hlf q (List.mem_of_mem_take hq)
              · exact List.all_eq_true.1 hleaf q hq
              · exact hlf q (List.mem_of_mem_drop hq)
    | _ => rw [hB] at h; simp [Dec.cps] at h
  | eptr e id n off b o len cap hU hμ hn =>
    simp only at h
    split at h
    rotate_left
    · simp [Dec.cps] at h
    rename_i hoff
    simp only [Bool.and_eq_true] at hoff
    obtain ⟨hoff, hty⟩ := hoff
    have hoff := Nat.eq_of_beq_eq_true hoff
    subst hoff
    have hsz := size_of_ty hT e hi (tyIs_eq hty)
    obtain ⟨z, H1, T1, S1, hz, _, h⟩ := typed_sound S hx h
    simp only [Dec.cps] at h
    have ok := S1.ok id
    obtain ⟨hU1, hμ1⟩ := T1.used id hU
    cases hB : getB H1 id with
    | row wr e' l =>
      rw [hB] at h ok
      cases wr with
      | false => simp [Dec.cps] at h
      | true =>
        simp only at h
        split at h
        rotate_left
        · simp [Dec.cps] at h
        rename_i l' hcast
        obtain ⟨he, rfl⟩ := castTy_some hcast
        injection he with he; subst he
        simp only [Dec.cps] at h
        cases hlt : Nat.blt id H1.length with
        | false => simp [hlt] at h
        | true =>
          simp only [hlt, cond_true] at h
          rcases ok with ⟨b', off', cap', c, vs, hl, hbox, h1, h2, h3, h4⟩ | ⟨_, a, h2⟩
          rotate_left
          · rw [hμ] at h2; cases h2
          rw [hμ] at hl; injection hl with e1 e2 e3 e4; subst e1 e2 e3 e4
          obtain ⟨t', f, hh, hf⟩ := hbox
          obtain rfl := hf rfl
          have husz' : u.cells.size = e'.size E := hz.size
          have hle : n * e'.size E + e'.size E ≤ cap * e'.size E := by
            have : (n + 1) * e'.size E ≤ cap * e'.size E := Nat.mul_le_mul_right _ (by omega)
            simpa [Nat.add_mul] using this
          have hrun := run_storeCells_at (P := P) b (o + n * e'.size E + 0) t' u.cells.toList 0 c w hh (by simp [husz']; omega) hone
          have hlive : liveB (getB H1 id) = true := by rw [hB]; rfl
          generalize hc' : (c.toList.take (o + n * e'.size E + 0 + 0) ++ u.cells.toList ++ c.toList.drop (o + n * e'.size E + 0 + 0 + u.cells.toList.length)).toArray = c' at hrun
          have hget : ∀ k, c'[k]? = if k < o + n * e'.size E then c[k]? else if k < o + n * e'.size E + e'.size E then u.cells[k - (o + n * e'.size E)]? else c[k]? := by
            intro k
            subst hc'
            have hmin : min (o + n * e'.size E) c.size = o + n * e'.size E := by omega
            simp only [List.getElem?_toArray, Nat.add_zero, List.append_assoc, List.getElem?_append, List.length_take, Array.length_toList, hmin, List.getElem?_take, Array.getElem?_toList, List.getElem?_drop, husz']
            split
            · rfl
            · rename_i hk
              split
              · rename_i hk2; rw [if_pos (by omega)]
              · rename_i hk2; rw [if_neg (by omega)]; congr 1; omega
          have hsz' : c'.size = c.size := by
            subst hc'
            simp [husz']
            omega
          have hb : ∀ k, k < w.heap.size → (∀ o n c, μ id ≠ .blk k o n c) → (w.setRow b c').heap[k]? = w.heap[k]? := fun k _ hk => setRow_other _ _ _ _ (fun e => hk o l.length cap (e ▸ hμ))
          have T2 : Trans A0 μ H1 w μ (H1.set id (.row true e' (l.set n z))) (w.setRow b c') := Trans.write id _ hU1 (Quiet.setRow w b _) hlive hb rfl
          refine ⟨_, _, μ, ?_, T1.trans T2, S1.write id _ hU1 (Quiet.setRow w b _) hlive hb rfl ?_, h⟩
          · simp only [Instr.storeAt, Instr.sureAddr, storeVar, Sem.run_bind, Sem.run_pure, Result.andThen_ok, run_sizeOf' hT hi, husz]
            simpa using hrun
          · rw [hμ]
            refine .inl ⟨b, o, cap, c', fun i => if i = n then u else vs i, by simp, ⟨t', (0, 0), setRow_heap _ _ _ _ _ _ hh, fun _ => rfl⟩, by simpa using h1, by rw [hsz']; exact h2, fun i hi j y hy => ?_, fun i hi => ?_⟩
            · simp only [List.length_set] at hi
              rw [hget]
              by_cases e : i = n
              · subst e
                simp only [if_true] at hy
                have hj : j < u.cells.size := by
                  rcases Nat.lt_or_ge j u.cells.size with h' | h'
                  · exact h'
                  · rw [Array.getElem?_eq_none h'] at hy; cases hy
                rw [if_neg (by omega), if_pos (by omega)]
                rw [← hy]; congr 1; omega
              · simp only [if_neg e] at hy
                have hj : j < e'.size E := by
                  rw [← (h4 i hi).size]
                  rcases Nat.lt_or_ge j (vs i).cells.size with h' | h'
                  · exact h'
                  · rw [Array.getElem?_eq_none h'] at hy; cases hy
                have h0 := h3 i hi j y hy
                rcases Nat.lt_or_gt_of_ne e with hlt' | hgt
                · have : (i + 1) * e'.size E ≤ n * e'.size E := Nat.mul_le_mul_right _ hlt'
                  rw [Nat.add_mul] at this
                  rw [if_pos (by omega)]; exact h0
                · have : (n + 1) * e'.size E ≤ i * e'.size E := Nat.mul_le_mul_right _ hgt
                  rw [Nat.add_mul] at this
                  rw [if_neg (by omega), if_neg (by omega)]; exact h0
            · simp only [List.length_set] at hi
              rw [List.getElem_set]
              by_cases e : n = i
              · subst e; simp only [if_true]; exact T2.repT hz
              · rw [if_neg e]; simp only [if_neg (Ne.symm e)]; exact T2.repT (h4 i hi)
    | _ => rw [hB] at h; simp [Dec.cps] at h
  | _ => simp [Dec.cps] at h
theorem ti_field (hT : tabB E.leaves P tab = true) {t : Nat} {i : TI} (hi : look tab t = some i) {f off t' : Nat} (hf : i.fields[f]? = some (off, t')) :
    ∃ fs fld, P.underlying t = some (.struct fs) ∧ fs[f]? = some fld ∧ fld.offset = off ∧ fld.type = t' ∧ P.cellsOf t' ≠ 0 := by
  obtain ⟨d, hd, h2⟩ := ti_desc hT hi
  cases d with
  | struct fs =>
    simp only [descB, Bool.and_eq_true, decide_eq_true_eq] at h2
    obtain ⟨⟨⟨⟨_, h3⟩, h4⟩, _⟩, _⟩ := h2
    rw [h3, List.getElem?_map] at hf
    simp only [Option.map_eq_some_iff, Prod.mk.injEq] at hf
    obtain ⟨fld, h5, h6, h7⟩ := hf
    have := List.all_eq_true.1 h4 fld (List.mem_of_getElem? h5)
    exact ⟨fs, fld, hd, by simpa using h5, h6, h7, fun e => by rw [← h7] at e; simp [e] at this⟩
  | array n e =>
    simp only [descB, Bool.and_eq_true] at h2
    have := h2.1.1.2
    simp at this; rw [this] at hf; simp at hf
  | _ =>
    have ha : i.agg = false := by simp only [descB, Bool.and_eq_true, Bool.not_eq_true'] at h2; first | exact h2.1 | exact h2.1.1 | exact h2.1.1.1 | exact h2.1.1.1.1 | cases h2
    rw [ti_nofield hT hi ha] at hf; simp at hf
theorem run_sizeOf_cells {t : Nat} (h : P.cellsOf t ≠ 0) (w : World) : (sizeOf t).run P w = .ok (P.cellsOf t) w := by
  unfold Program.cellsOf at *
  cases hi : P.info? t with
  | none => simp [hi] at h
  | some f => simp [sizeOf, typeInfo, hi]
theorem fieldAddrD_sound (hT : tabB E.leaves P tab = true) {t : Nat} {i : TI} (hi : look tab t = some i) {p : PVal E} {v : Value} {f : Nat} (S : HSim A0 μ H w) (hp : Rp E A0 μ H w p v)
    (h : (fieldAddrD i p f).cps H K = some r) : ValRes P A0 μ H w (Instr.fieldAt t v f) K r := by
  unfold fieldAddrD at h
  split at h
  rotate_left
  · simp [Dec.cps] at h
  rename_i off t' hf
  obtain ⟨fs, fld, h1, h2, h3, h4, h5⟩ := ti_field hT hi hf
  subst h3 h4
  have hrun : ∀ b o, (Instr.fieldAt t (.pointer (some ⟨b, o, none⟩)) f).run P w = .ok (.pointer (some ⟨b, o + fld.offset, none⟩)) w := fun b o => by
    simp [Instr.fieldAt, run_underlying h1, h2, Instr.sureAddr, fieldPlace, run_sizeOf_cells h5, h5, addr_add]
  cases hp with
  | ptr id o b n cap hU hμ => exact ValRes.same S (hrun b o) (.ptr id _ b n cap hU hμ) h
  | eptr e id n o b o' len cap hU hμ hn =>
    refine ValRes.same S (hrun b _) ?_ h
    have := RepP.eptr (E := E) (w := w) (A := Av A0 μ H) (U := Us H) (μ := μ) e id n (o + fld.offset) b o' len cap hU hμ hn
    simpa [Nat.add_assoc] using this
  | rptr ps b o us hA hb hm hr =>
    refine ValRes.same S (hrun b o) (.rptr _ b (o + fld.offset) (fun j => us (fld.offset + j)) hA hb (fun j hj => ?_) (fun j hj => ?_)) h
    · have := hm (fld.offset + j) (by simp at hj; omega)
      simpa [Nat.add_assoc] using this
    · have hj' : fld.offset + j < ps.length := by simp at hj; omega
      have := hr (fld.offset + j) hj'
      simpa using this
  | _ => simp [Dec.cps] at h
end
end Go.Pe
namespace Go.Pe
variable {E : Types}
section
variable {P : Program} {tab : List (Nat × TI)} {A0 : Nat → Prop} {μ : Nat → Loc} {H : List (Blk E)} {w : World} {R : Type} {K : PVal E → List (Blk E) → Option R} {r : R}
theorem Z_rep {w : World} {A U : Nat → Prop} {μ : Nat → Loc} (z : Z) : RepP E w A U μ z.toP z.toV := by
  cases z with
  | bool => exact .v .bool false _ (.bool false)
  | int k => exact .v (.int k) (ofLit k 0) _ (by have := RepT.int (E := E) (w := w) (A := A) k (ofLit k 0); cases k <;> exact this)
  | str => exact .v .str _ _ (.str _)
  | slice => exact .nils none
  | func => exact .nilfn
  | ptr => exact .nilp
  | map => exact .nilm
theorem Z_leaf (z : Z) : (z.toP : PVal E).leaf = true := by cases z <;> rfl
theorem Zs_rep {w : World} {A U : Nat → Prop} {μ : Nat → Loc} (zs : List Z) : RL (RepP E w A U μ) (zs.map Z.toP) (zs.map Z.toV) :=
  ⟨by simp, fun j p u hp hu => by
    simp only [List.getElem?_map, Option.map_eq_some_iff] at hp hu
    obtain ⟨z, h1, rfl⟩ := hp
    obtain ⟨z', h2, rfl⟩ := hu
    rw [h1] at h2; injection h2 with h2; subst h2
    exact Z_rep z⟩
theorem zeroV_cells (hT : tabB E.leaves P tab = true) {t : Nat} {i : TI} (hi : look tab t = some i) : (zeroV i).cells.toList = i.zero.map Z.toV := by
  unfold zeroV
  cases ha : i.agg with
  | true => simp [Value.cells]
  | false =>
    have h1 := ti_one hT hi ha
    have h2 := ti_zlen hT hi
    match hz : i.zero, h2 with
    | [z], _ => cases z <;> simp [Z.toV, Value.cells]
    | [], h2 => simp [h1] at h2
    | _ :: _ :: _, h2 => simp [h1] at h2
structure FreeAt (H : List (Blk E)) (fresh : Nat) (A0 : Nat → Prop) (w : World) : Prop where
  free : getB H fresh = .free
  lt : fresh < H.length
  A0 : ∀ b, A0 b → b < w.heap.size
theorem FreeAt.trans {H' : List (Blk E)} {μ' : Nat → Loc} {w' : World} {fresh : Nat} (F : FreeAt H fresh A0 w) (T : Trans A0 μ H w μ' H' w') (h : getB H' fresh = .free) : FreeAt H' fresh A0 w' :=
  ⟨h, by rw [T.len]; exact F.lt, fun b hb => Nat.lt_of_lt_of_le (F.A0 b hb) T.size⟩
theorem newBox {ps : List (PVal E)} {vs : List Value} {t : TypeId} {fresh : Nat} (S : HSim A0 μ H w) (F : FreeAt H fresh A0 w) (hr : RL (Rp E A0 μ H w) ps vs) (hl : ∀ p ∈ ps, p.leaf = true) (n c : Nat) :
    let l := Loc.blk w.heap.size 0 n c
    let w' := w.alloc (.cells vs.toArray t)
    Trans A0 μ H w (setL μ fresh l) (H.set fresh (.box true ps)) w' ∧ HSim A0 (setL μ fresh l) (H.set fresh (.box true ps)) w' ∧ Us (H.set fresh (.box true ps)) fresh := by
  intro l w'
  have hb : ∀ b, b < w.heap.size → w'.heap[b]? = w.heap[b]? := fun b hb => by
    show (w.heap.push _)[b]? = _
    rw [Array.getElem?_push, if_neg (by omega)]
  have T : Trans A0 μ H w (setL μ fresh l) (H.set fresh (.box true ps)) w' := Trans.fresh fresh l _ F.free F.lt (Quiet.alloc w _) hb (fun b o n c e => by injection e with e; omega)
  refine ⟨T, S.fresh fresh l _ F.free F.lt (Quiet.alloc w _) hb (fun b o n c e => by injection e with e; subst e; simp [w']) F.A0 ?_, by unfold Us; rw [getB_set_eq _ _ _ F.lt]; rfl⟩
  refine box_ok ⟨t, (0, 0), ?_, fun _ => rfl⟩ (hr.mono fun _ _ => T.rep) hl
  show (w.heap.push _)[w.heap.size]? = _
  simp
theorem allocD_sound (hT : tabB E.leaves P tab = true) {t : Nat} {i : TI} (hi : look tab t = some i) {fresh : Nat} (S : HSim A0 μ H w) (F : FreeAt H fresh A0 w)
    (h : (Dec.wr fresh (.box true (i.zero.map Z.toP)) (.ret (.ptr fresh 0))).cps H K = some r) : ValRes P A0 μ H w (Instr.alloc t true (.tuple #[])) K r := by
  simp only [Dec.cps] at h
  cases hlt : Nat.blt fresh H.length with
  | false => simp [hlt] at h
  | true =>
    simp only [hlt, cond_true] at h
    obtain ⟨T, S', hU⟩ := newBox (t := t) S F (Zs_rep i.zero) (fun p hp => by simp only [List.mem_map] at hp; obtain ⟨z, _, rfl⟩ := hp; exact Z_leaf z) 0 0
    refine ⟨_, _, .pointer (some ⟨w.heap.size, 0, none⟩), _, _, ?_, T, S', .ptr fresh 0 w.heap.size 0 0 hU (setL_eq _ _ _), h⟩
    have := zeroV_cells hT hi
    simp only [Instr.alloc, Sem.run_bind, run_zeroValue' hT hi, Result.andThen_ok, newVar, newRow, run_newObj, Sem.run_pure]
    simp [← this]
theorem boxD_sound (hT : tabB E.leaves P tab = true) {t : Nat} {i : TI} (hi : look tab t = some i) {fresh : Nat} {x : PVal E} {u : Value} (S : HSim A0 μ H w) (F : FreeAt H fresh A0 w) (hx : Rp E A0 μ H w x u)
    (h : (if Nat.beq (cellsP x).length i.size && (cellsP x).all PVal.leaf then (.wr fresh (.box true (cellsP x)) (.ret (.ptr fresh 0)) : Dec E (PVal E)) else .fail).cps H K = some r) : ValRes P A0 μ H w (Instr.box t u) K r := by
  split at h
  rotate_left
  · simp [Dec.cps] at h
  rename_i hc
  simp only [Bool.and_eq_true] at hc
  simp only [Dec.cps] at h
  cases hlt : Nat.blt fresh H.length with
  | false => simp [hlt] at h
  | true =>
    simp only [hlt, cond_true] at h
    obtain ⟨T, S', hU⟩ := newBox (t := t) S F (RepP.cells hx hc.2) (fun p hp => List.all_eq_true.1 hc.2 p hp) 0 0
    refine ⟨_, _, .pointer (some ⟨w.heap.size, 0, none⟩), _, _, ?_, T, S', .ptr fresh 0 w.heap.size 0 0 hU (setL_eq _ _ _), h⟩
    simp [Instr.box, newVar, newRow]
theorem ti_slice (hT : tabB E.leaves P tab = true) {t : Nat} {i : TI} (hi : look tab t = some i) {d : TypeDesc} (hd : P.underlying t = some d) : descB P tab i d = true := by
  obtain ⟨d', h1, h2⟩ := ti_desc hT hi
  rw [hd] at h1; injection h1 with h1; subst h1; exact h2
theorem idx_some {α : Type} {l : List α} {i : Int} {x : α} (h : idx l i = some x) : 0 ≤ i ∧ i < l.length ∧ l[i.toNat]? = some x := by
  unfold idx at h
  cases hd : decide (0 ≤ i) with
  | false => simp [hd] at h
  | true =>
    simp only [hd, cond_true] at h
    have h0 : 0 ≤ i := by simpa using hd
    obtain ⟨hlt, _⟩ := List.getElem?_eq_some_iff.1 h
    exact ⟨h0, by omega, h⟩
theorem idxn_some {α : Type} {l : List α} {i : Int} {n : Nat} (h : idxn l i = some n) : 0 ≤ i ∧ i < l.length ∧ n = i.toNat := by
  unfold idxn at h
  cases hd : (decide (0 ≤ i) && decide (i < l.length)) with
  | false => simp [hd] at h
  | true =>
    simp only [hd, cond_true] at h
    simp only [Bool.and_eq_true, decide_eq_true_eq] at hd
    injection h with h
    exact ⟨hd.1, hd.2, h.symm⟩
theorem choose_sound (i : Int) : ∀ (n : Nat) {k : Nat → Dec E (PVal E)}, (choose i n k).cps H K = some r → 0 ≤ i ∧ i < n ∧ (k i.toNat).cps H K = some r
  | 0, k, h => by simp [choose, Dec.cps] at h
  | n + 1, k, h => by
    simp only [choose, Dec.cps] at h
    cases hd : decide (i = (n : Int)) with
    | true =>
      simp only [hd, cond_true] at h
      have : i = n := by simpa using hd
      subst this
      exact ⟨by omega, by omega, by simpa using h⟩
    | false =>
      simp only [hd, cond_false] at h
      obtain ⟨h1, h2, h3⟩ := choose_sound i n h
      exact ⟨h1, by omega, h3⟩
theorem run_indexAt_slice (hT : tabB E.leaves P tab = true) {t e : Nat} {u : TI} (hd : P.underlying t = some (.slice e)) (hu : look tab e = some u) (b off len cap : Nat) (i : Int) (h0 : 0 ≤ i) (h1 : i < len) :
    (Instr.indexAt t (.slice (some ⟨b, off, none⟩) len cap) (.int .i64 i)).run P w = .ok (.pointer (some ⟨b, off + i.toNat * u.size, none⟩)) w := by
  simp [Instr.indexAt, asIntOf, run_underlying hd, h0, h1, run_sizeOf' hT hu, addr_add]
theorem indexAddrD_sound (hT : tabB E.leaves P tab = true) {t : Nat} {s u : TI} (hs : look tab t = some s) (hu : look tab s.elem = some u) {p : PVal E} {v : Value} {i : Int} (S : HSim A0 μ H w) (hp : Rp E A0 μ H w p v)
    (h : (indexAddrD s u p i).cps H K = some r) : ValRes P A0 μ H w (Instr.indexAt t v (.int .i64 i)) K r := by
  have typedElem : ∀ {e : Ty} {l : List (Den E.T e)} {v : Value}, Rt E A0 μ H w (.slice e) v l → tyIs u e = true → (Dec.opt _ (idx l i) fun x => if (elemP e x).all PVal.leaf then (.ret (.rptr (elemP e x)) : Dec E (PVal E)) else .fail).cps H K = some r →
      P.underlying t = some (.slice s.elem) → ValRes P A0 μ H w (Instr.indexAt t v (.int .i64 i)) K r := by
    intro e l v hv hty h hd
    have hsz := size_of_ty hT e hu (tyIs_eq hty)
    simp only [Dec.cps] at h
    cases hx : idx l i with
    | none => simp [hx] at h
    | some x =>
      simp only [hx, Option.bind_some] at h
      obtain ⟨h0, h1, h2⟩ := idx_some hx
      split at h
      rotate_left
      · simp [Dec.cps] at h
      rename_i hleaf
      cases hv with
      | nil e a cap => simp at h1; omega
      | slice e b off cap l vs hA hb hc hm hr =>
        obtain ⟨hlt, hxe⟩ := List.getElem?_eq_some_iff.1 h2
        have hrep := hr i.toNat hlt
        rw [hxe] at hrep
        have hcells := RepT.cellsL (U := Us H) (μ := μ) hrep hleaf
        refine ValRes.same S (run_indexAt_slice hT hd hu b off l.length cap i h0 h1) (.rptr _ b _ (fun j => (vs i.toNat).cells.getD j undef) hA hb (fun j hj => ?_) (fun j hj => ?_)) h
        · have hj' : j < (vs i.toNat).cells.size := by have := hcells.1; simp at this; omega
          have := hm i.toNat hlt j _ (Array.getElem?_eq_getElem hj')
          rw [← hsz]
          simpa [Array.getD, hj'] using this
        · have hj' : j < (vs i.toNat).cells.size := by have := hcells.1; simp at this; omega
          exact hcells.2 j _ _ (List.getElem?_eq_getElem hj) (by simp [Array.getD, hj'])
  unfold indexAddrD at h
  split at h
  · rename_i hsl
    have hd := ti_sl hT hs hsl
    split at h
    · rename_i e l
      split at h
      rotate_left
      · simp [Dec.cps] at h
      rename_i hty
      cases hp with
      | v τ x v hv => exact typedElem hv hty h hd
    · rename_i e l
      split at h
      rotate_left
      · simp [Dec.cps] at h
      rename_i hty
      cases hp with
      | full e l a hv => exact typedElem hv hty h hd
    · rename_i id
      simp only [Dec.cps] at h
      cases hB : getB H id with
      | row wr e l =>
        rw [hB] at h
        simp only at h
        split at h
        rotate_left
        · simp [Dec.cps] at h
        rename_i hty
        have hsz := size_of_ty hT e hu (tyIs_eq hty)
        simp only [Dec.cps] at h
        cases hx : idxn l i with
        | none => simp [hx] at h
        | some n =>
          simp only [hx, Option.bind_some] at h
          obtain ⟨h0, h1, rfl⟩ := idxn_some hx
          have ok := S.ok id
          rw [hB] at ok
          cases hp with
          | own id b off len cap hU hμ =>
            rw [hμ] at ok
            rcases ok with ⟨b', off', cap', c, vs, hl, _⟩ | ⟨_, a, hl⟩
            rotate_left
            · cases hl
            injection hl with e1 e2 e3 e4; subst e1 e2 e3 e4
            refine ValRes.same S (run_indexAt_slice hT hd hu b off l.length cap i h0 h1) ?_ h
            have := RepP.eptr (E := E) (w := w) (A := Av A0 μ H) (U := Us H) (μ := μ) e id i.toNat 0 b off l.length cap hU hμ (by omega)
            rw [hsz] at this
            simpa using this
          | own0 id a a2 hU hμ =>
            rw [hμ] at ok
            rcases ok with ⟨b', off', cap', c, vs, hl, _⟩ | ⟨rfl, _⟩
            · cases hl
            · simp at h1; omega
      | _ => rw [hB] at h; simp [Dec.cps] at h
    · rename_i id n
      obtain ⟨h0, h1, h2⟩ := choose_sound i n h
      cases hp with
      | bsl id n b hU hμ =>
        refine ValRes.same S (run_indexAt_slice hT hd hu b 0 n n i h0 h1) ?_ h2
        have := RepP.ptr (E := E) (w := w) (A := Av A0 μ H) (U := Us H) (μ := μ) id (i.toNat * u.size) b n n hU hμ
        simpa using this
    · simp [Dec.cps] at h
  · split at h
    · rename_i id off
      split at h
      rotate_left
      · simp [Dec.cps] at h
      rename_i hagg
      obtain ⟨h0, h1, h2⟩ := choose_sound i s.alen h
      have hd := ti_arr hT hs hagg (by omega)
      cases hp with
      | ptr id off b n cap hU hμ =>
        refine ValRes.same S (v := .pointer (some ⟨b, off + i.toNat * u.size, none⟩)) ?_ (.ptr id _ b n cap hU hμ) h2
        simp [Instr.indexAt, asIntOf, run_underlying hd, Instr.sureAddr, h0, h1, run_sizeOf' hT hu, addr_add]
    · simp [Dec.cps] at h
end
end Go.Pe
namespace Go.Pe
variable {E : Types}
section
variable {P : Program} {tab : List (Nat × TI)} {A0 : Nat → Prop} {μ : Nat → Loc} {H : List (Blk E)} {w : World} {R : Type} {K : PVal E → List (Blk E) → Option R} {r : R}
def OptRep (f : PVal E → Value → Prop) : Option (PVal E) → Option Value → Prop
  | none, none => True
  | some p, some v => f p v
  | _, _ => False
theorem optI_val {w : World} {A U : Nat → Prop} {μ : Nat → Loc} {p : Option (PVal E)} {v : Option Value} {d a : Int} (h : OptRep (RepP E w A U μ) p v) (ha : optI p d = some a) : (v = none ∧ a = d) ∨ v = some (.int .i64 a) := by
  cases p with
  | none => cases v with
    | none => simp [optI] at ha; exact .inl ⟨rfl, ha.symm⟩
    | some v => exact h.elim
  | some p => cases v with
    | none => exact h.elim
    | some v =>
      right
      cases h with
      | v τ x v hx => cases hx <;> simp [optI] at ha; rename_i k x; cases k <;> simp_all
      | _ => simp [optI] at ha
theorem run_sliceBounds2 {len cap : Nat} {lo hi : Option Value} {a b : Int} (w : World) (h1 : (lo = none ∧ a = 0) ∨ lo = some (.int .i64 a)) (h2 : (hi = none ∧ b = len) ∨ hi = some (.int .i64 b))
    (h0 : 0 ≤ a) (hab : a ≤ b) (hb : b ≤ len) (hc : len ≤ cap) (s : Bool) : (Instr.sliceBounds s len cap lo hi none).run P w = .ok (a.toNat, b.toNat, cap) w := by
  rcases h1 with ⟨rfl, rfl⟩ | rfl <;> rcases h2 with ⟨rfl, rfl⟩ | rfl
  · simp [Instr.sliceBounds]
  · have : b ≤ (cap : Int) := by omega
    simp [Instr.sliceBounds, Instr.sliceBound, asIntOf, hab, this]
  · simp [Instr.sliceBounds, Instr.sliceBound, asIntOf, h0, hab]
  · have h3 : b ≤ (cap : Int) := by omega
    have h4 : 0 ≤ b := by omega
    have h5 : ((b.toNat : Nat) : Int) = b := by omega
    simp [Instr.sliceBounds, Instr.sliceBound, asIntOf, h0, hab, h3, h4, h5]
theorem cut_some {α : Type} {l l' : List α} {lo hi : Int} (h : cut l lo hi = some l') : 0 ≤ lo ∧ lo ≤ hi ∧ hi ≤ l.length ∧ l' = (l.take hi.toNat).drop lo.toNat := by
  unfold cut at h
  cases hd : (decide (0 ≤ lo) && decide (lo ≤ hi) && decide (hi ≤ l.length)) with
  | false => simp [hd] at h
  | true =>
    simp only [hd, cond_true] at h
    simp only [Bool.and_eq_true, decide_eq_true_eq] at hd
    injection h with h
    exact ⟨hd.1.1, hd.1.2, hd.2, h.symm⟩
theorem RepT.cut {A : Nat → Prop} {e : Ty} {l l' : List (Den E.T e)} {a : Option Addr} {len cap : Nat} {lo hi : Int} (h : RepT E w A (.slice e) (.slice a len cap) l) (hc : Pe.cut l lo hi = some l') :
    len = l.length ∧ len ≤ cap ∧ RepT E w A (.slice e) (.slice (if cap = lo.toNat then a else a.map (·.add (lo.toNat * e.size E))) (hi.toNat - lo.toNat) (cap - lo.toNat)) l' := by
  obtain ⟨h0, h1, h2, rfl⟩ := cut_some hc
  cases h with
  | nil e a cap =>
    simp at h2
    have e1 : hi.toNat = 0 := by omega
    have e2 : lo.toNat = 0 := by omega
    rw [e1, e2]
    refine ⟨by simp, by simp, ?_⟩
    simp only [List.take_nil, List.drop_nil]
    exact .nil _ _ _
  | slice e b off cap l vs hA hb hcap hm hr =>
    refine ⟨rfl, hcap, ?_⟩
    by_cases hz : hi.toNat - lo.toNat = 0
    · rw [hz]
      have : (List.take hi.toNat l).drop lo.toNat = [] := by
        apply List.drop_eq_nil_of_le; simp; omega
      rw [this]
      exact .nil _ _ _
    · rw [if_neg (by omega)]
      simp only [Option.map_some, addr_add]
      have hlen : ((List.take hi.toNat l).drop lo.toNat).length = hi.toNat - lo.toNat := by simp; omega
      have key := RepT.slice (E := E) (w := w) (A := A) e b (off + lo.toNat * e.size E) (cap - lo.toNat) ((List.take hi.toNat l).drop lo.toNat) (fun i => vs (lo.toNat + i)) hA hb (by rw [hlen]; omega)
        (fun i hi' j u hu => by
          have := hm (lo.toNat + i) (by rw [hlen] at hi'; omega) j u hu
          rw [Nat.add_mul] at this
          simpa [Nat.add_assoc] using this)
        (fun i hi' => by
          have := hr (lo.toNat + i) (by rw [hlen] at hi'; omega)
          simpa using this)
      rw [hlen] at key
      exact key
theorem run_slice2 {t e : Nat} {u : TI} (hT : tabB E.leaves P tab = true) (hd : P.underlying t = some (.slice e)) (hu : look tab e = some u) {len cap : Nat} {base : Option Addr} {lo hi : Option Value} {a b : Int} (w : World)
    (h1 : (lo = none ∧ a = 0) ∨ lo = some (.int .i64 a)) (h2 : (hi = none ∧ b = len) ∨ hi = some (.int .i64 b)) (h0 : 0 ≤ a) (hab : a ≤ b) (hb : b ≤ len) (hc : len ≤ cap) :
    (Instr.sliceAt t (.slice base len cap) lo hi none).run P w = .ok (.slice (if cap = a.toNat then base else base.map (·.add (a.toNat * u.size))) (b.toNat - a.toNat) (cap - a.toNat)) w := by
  simp [Instr.sliceAt, run_underlying hd, Instr.slice, run_sliceBounds2 (P := P) w h1 h2 h0 hab hb hc, run_sizeOf' hT hu]
theorem run_slice3 {t e : Nat} {u : TI} (hT : tabB E.leaves P tab = true) (hd : P.underlying t = some (.slice e)) (hu : look tab e = some u) {len cap : Nat} {base : Option Addr} {lo hi : Option Value} {a b c : Int} {m : Value} (w : World)
    (h1 : (lo = none ∧ a = 0) ∨ lo = some (.int .i64 a)) (h2 : hi = some (.int .i64 b)) (h3 : m = .int .i64 c) (h0 : a = 0) (hab : 0 ≤ b) (hb : b ≤ c) (hc : c ≤ cap) :
    (Instr.sliceAt t (.slice base len cap) lo hi (some m)).run P w = .ok (.slice base b.toNat c.toNat) w := by
  subst h0 h2 h3
  have hc0 : 0 ≤ c := by omega
  have e1 : ((c.toNat : Nat) : Int) = c := by omega
  have e2 : ((b.toNat : Nat) : Int) = b := by omega
  have hadd : base.map (fun x => x.add 0) = base := by cases base <;> simp [Addr.add]
  rcases h1 with ⟨rfl, _⟩ | rfl
  · simp [Instr.sliceAt, run_underlying hd, Instr.slice, Instr.sliceBounds, Instr.sliceBound, asIntOf, hab, hb, hc, hc0, e1, run_sizeOf' hT hu, hadd]
  · simp [Instr.sliceAt, run_underlying hd, Instr.slice, Instr.sliceBounds, Instr.sliceBound, asIntOf, hab, hb, hc, hc0, e1, e2, run_sizeOf' hT hu, hadd]
theorem RepT.recap {A : Nat → Prop} {e : Ty} {l : List (Den E.T e)} {a : Option Addr} {len cap cap' : Nat} (h : RepT E w A (.slice e) (.slice a len cap) l) (hc : len ≤ cap') : RepT E w A (.slice e) (.slice a len cap') l := by
  cases h with
  | nil e a cap => exact .nil _ _ _
  | slice e b off cap l vs g1 g2 g3 g4 g5 => exact .slice e b off _ l vs g1 g2 hc g4 g5
theorem RepT.cut3 {A : Nat → Prop} {e : Ty} {l l' : List (Den E.T e)} {a : Option Addr} {len cap : Nat} {lo hi : Int} (h : RepT E w A (.slice e) (.slice a len cap) l) (hc : Pe.cut l lo hi = some l') :
    RepT E w A (.slice e) (.slice (if hi.toNat = lo.toNat then a else a.map (·.add (lo.toNat * e.size E))) (hi.toNat - lo.toNat) (hi.toNat - lo.toNat)) l' := by
  obtain ⟨h1, h2, h3⟩ := h.cut hc
  obtain ⟨g0, g1, g2, hl⟩ := cut_some hc
  by_cases hz : hi.toNat - lo.toNat = 0
  · rw [hz]
    have : l' = [] := by rw [hl]; apply List.drop_eq_nil_of_le; simp; omega
    subst this
    exact .nil _ _ _
  · rw [if_neg (by omega)]
    rw [if_neg (by omega)] at h3
    exact h3.recap (Nat.le_refl _)
theorem run_slice3g {t e : Nat} {u : TI} (hT : tabB E.leaves P tab = true) (hd : P.underlying t = some (.slice e)) (hu : look tab e = some u) {len cap : Nat} {base : Option Addr} {lo hi : Option Value} {a b : Int} {m : Value} (w : World)
    (h1 : (lo = none ∧ a = 0) ∨ lo = some (.int .i64 a)) (h2 : hi = some (.int .i64 b)) (h3 : m = .int .i64 b) (h0 : 0 ≤ a) (hab : a ≤ b) (hc : b ≤ cap) :
    (Instr.sliceAt t (.slice base len cap) lo hi (some m)).run P w = .ok (.slice (if b.toNat = a.toNat then base else base.map (·.add (a.toNat * u.size))) (b.toNat - a.toNat) (b.toNat - a.toNat)) w := by
  subst h2 h3
  have hb0 : 0 ≤ b := by omega
  have e1 : ((a.toNat : Nat) : Int) = a := by omega
  have e2 : ((b.toNat : Nat) : Int) = b := by omega
  rcases h1 with ⟨rfl, rfl⟩ | rfl
  · simp [Instr.sliceAt, run_underlying hd, Instr.slice, Instr.sliceBounds, Instr.sliceBound, asIntOf, hab, hb0, hc, e2, run_sizeOf' hT hu]
  · simp [Instr.sliceAt, run_underlying hd, Instr.slice, Instr.sliceBounds, Instr.sliceBound, asIntOf, h0, hab, hb0, hc, e1, e2, run_sizeOf' hT hu]
theorem move_part {id fresh : Nat} {e : Ty} {l l' : List (Den E.T e)} {lo hi : Int} (S : HSim A0 μ H w) (F : FreeAt H fresh A0 w) (hB : getB H id = .row true e l) (hc : cut l lo hi = some l') {v : Value} (hv : Rp E A0 μ H w (.own id) v) :
    ∃ base len cap, v = .slice base len cap ∧ len = l.length ∧ len ≤ cap ∧ ∃ μ', Trans A0 μ H w μ' ((H.set id .dead).set fresh (.row true e l')) w ∧ HSim A0 μ' ((H.set id .dead).set fresh (.row true e l')) w ∧
      Rp E A0 μ' ((H.set id .dead).set fresh (.row true e l')) w (.own fresh) (.slice (if cap = lo.toNat then base else base.map (·.add (lo.toNat * e.size E))) (hi.toNat - lo.toNat) (cap - lo.toNat)) := by
  obtain ⟨h0, h1, h2, hl'⟩ := cut_some hc
  have hlive : liveB (getB H id) = true := by rw [hB]; rfl
  have hUid : Us H id := usedB_of_mem (memB_of_live hlive)
  have hid := lt_of_used hUid
  have ok := S.ok id
  rw [hB] at ok
  have hlen' : l'.length = hi.toNat - lo.toNat := by rw [hl']; simp; omega
  have hne : id ≠ fresh := fun e' => by subst e'; rw [F.free] at hB; cases hB
  have hfl : fresh < (H.set id (.dead : Blk E)).length := by simpa using F.lt
  have hUf : Us ((H.set id .dead).set fresh (.row true e l')) fresh := by unfold Us; rw [getB_set_eq _ _ _ hfl]; rfl
  cases hv with
  | own id b off len cap hU hμ =>
    rw [hμ] at ok
    rcases ok with ⟨b', off', cap', c, vs, hl, hbox, g1, g2, g3, g4⟩ | ⟨_, a, hl⟩
    rotate_left
    · cases hl
    injection hl with e1 e2 e3 e4; subst e1 e2 e3 e4
    refine ⟨_, _, _, rfl, rfl, g1, ?_⟩
    by_cases hz : cap = lo.toNat
    · have hnil : l' = [] := List.eq_nil_of_length_eq_zero (by rw [hlen']; omega)
      refine ⟨_, Trans.move (w' := w) id fresh b off l.length cap off 0 0 _ hlive hμ F.free F.lt (Quiet.refl w) (fun _ _ _ => rfl), S.move id fresh b off l.length cap off 0 0 _ hlive hμ F.free F.lt (Quiet.refl w) (fun _ _ _ => rfl) ?_, ?_⟩
      · subst hnil
        exact .inl ⟨b, off, 0, c, vs, rfl, hbox, Nat.le_refl _, by omega, fun i hi => by simp at hi, fun i hi => by simp at hi⟩
      · rw [if_pos hz]
        have : hi.toNat - lo.toNat = 0 ∧ cap - lo.toNat = 0 := by omega
        rw [this.1, this.2]
        exact .own fresh b off 0 0 hUf (setL_eq _ _ _)
    · have T := Trans.move (A0 := A0) (w' := w) id fresh b off l.length cap (off + lo.toNat * e.size E) (hi.toNat - lo.toNat) (cap - lo.toNat) (.row true e l') hlive hμ F.free F.lt (Quiet.refl w) (fun _ _ _ => rfl)
      refine ⟨_, T, S.move id fresh b off l.length cap (off + lo.toNat * e.size E) (hi.toNat - lo.toNat) (cap - lo.toNat) _ hlive hμ F.free F.lt (Quiet.refl w) (fun _ _ _ => rfl) ?_, ?_⟩
      · refine .inl ⟨b, off + lo.toNat * e.size E, cap - lo.toNat, c, fun i => vs (lo.toNat + i), by rw [hlen'], hbox, by rw [hlen']; omega, ?_, fun i hi' j u hu => ?_, fun i hi' => ?_⟩
        · have : lo.toNat * e.size E + (cap - lo.toNat) * e.size E = cap * e.size E := by rw [← Nat.add_mul]; congr 1; omega
          omega
        · have := g3 (lo.toNat + i) (by rw [hlen'] at hi'; omega) j u hu
          rw [Nat.add_mul] at this
          simpa [Nat.add_assoc] using this
        · have := g4 (lo.toNat + i) (by rw [hlen'] at hi'; omega)
          have := T.repT this
          subst hl'
          simpa using this
      · rw [if_neg hz]
        simp only [Option.map_some, addr_add]
        exact .own fresh b _ _ _ hUf (setL_eq _ _ _)
  | own0 id a a2 hU hμ =>
    rw [hμ] at ok
    rcases ok with ⟨b', off', cap', c, vs, hl, _⟩ | ⟨rfl, _⟩
    · cases hl
    simp at h2
    have e1 : hi.toNat = 0 := by omega
    have e2 : lo.toNat = 0 := by omega
    have hnil : l' = [] := List.eq_nil_of_length_eq_zero (by rw [hlen']; omega)
    refine ⟨_, _, _, rfl, rfl, Nat.le_refl _, setL μ fresh (.none a), ?_, ?_, ?_⟩
    · have T1 : Trans A0 μ H w μ (H.set id .dead) w := Trans.drop id .dead hU rfl rfl
      exact T1.trans (Trans.fresh (A0 := A0) (μ := μ) (H := H.set id .dead) fresh (.none a) _ (by rw [getB_set_ne H _ hne]; exact F.free) hfl (Quiet.refl w) (fun _ _ => rfl) (fun b o n c h => by cases h))
    · have S1 : HSim A0 μ (H.set id .dead) w := S.drop id .dead hU rfl rfl (fun h => by cases h) (fun h => by cases h) trivial
      exact S1.fresh fresh (.none a) _ (by rw [getB_set_ne H _ hne]; exact F.free) hfl (Quiet.refl w) (fun _ _ => rfl) (fun b o n c h => by cases h) F.A0 (.inr ⟨hnil, a, rfl⟩)
    · rw [e1, e2]
      simp only [if_true, Nat.sub_zero]
      exact .own0 fresh a _ hUf (setL_eq _ _ _)
theorem sliceD_sound (hT : tabB E.leaves P tab = true) {t : Nat} {i : TI} (hi : look tab t = some i) {mv : Bool} {fresh : Nat} {p : PVal E} {v : Value} {lo hi' mx : Option (PVal E)} {lov hiv mxv : Option Value} (S : HSim A0 μ H w) (F : FreeAt H fresh A0 w)
    (hp : Rp E A0 μ H w p v) (h1 : OptRep (Rp E A0 μ H w) lo lov) (h2 : OptRep (Rp E A0 μ H w) hi' hiv) (h3 : OptRep (Rp E A0 μ H w) mx mxv)
    (h : (sliceD i (look tab i.elem) mv fresh p lo hi' mx).cps H K = some r) : ValRes P A0 μ H w (Instr.sliceAt t v lov hiv mxv) K r := by
  have elx : ∀ {e : Ty}, elOk i (look tab i.elem) e = true → ∃ u, look tab i.elem = some u ∧ P.underlying t = some (.slice i.elem) ∧ u.size = e.size E := by
    intro e h
    simp only [elOk, Bool.and_eq_true] at h
    obtain ⟨h1, h2⟩ := h
    split at h2
    · rename_i u hu; exact ⟨u, hu, ti_sl hT hi h1, (size_of_ty hT e hu (tyIs_eq h2)).symm⟩
    · cases h2
  have elx0 : (i.sl && (look tab i.elem).isSome) = true → ∃ u, look tab i.elem = some u ∧ P.underlying t = some (.slice i.elem) := by
    intro h
    simp only [Bool.and_eq_true] at h
    obtain ⟨h1, h2⟩ := h
    cases hu : look tab i.elem with
    | none => simp [hu] at h2
    | some u => exact ⟨u, rfl, ti_sl hT hi h1⟩
  unfold sliceD at h
  simp only at h
  cases mx with
  | none =>
    cases mxv with
    | some _ => exact h3.elim
    | none =>
    simp only at h
    split at h
    · -- a typed slice
      rename_i e l
      split at h
      rotate_left
      · simp [Dec.cps] at h
      rename_i hel
      obtain ⟨u, hu, hd, hsz⟩ := elx hel
      split at h
      rotate_left
      · simp [Dec.cps] at h
      rename_i a b ha hb
      simp only [Dec.cps] at h
      cases hc : cut l a b with
      | none => simp [hc] at h
      | some l' =>
        simp only [hc, Option.bind_some] at h
        obtain ⟨c0, c1, c2, _⟩ := cut_some hc
        cases hp with
        | v τ x v hv =>
          have hv' := hv
          cases hv' with
          | nil e a' cap =>
            obtain ⟨e1, e2, hrep⟩ := hv.cut hc
            refine ValRes.same S (run_slice2 hT hd hu w (optI_val h1 ha) (optI_val h2 hb) c0 c1 (by simpa using c2) e2) (.v _ _ _ ?_) h
            rw [hsz]; exact hrep
          | slice e b' off cap l vs g1 g2 g3 g4 g5 =>
            obtain ⟨e1, e2, hrep⟩ := hv.cut hc
            refine ValRes.same S (run_slice2 hT hd hu w (optI_val h1 ha) (optI_val h2 hb) c0 c1 c2 e2) (.v _ _ _ ?_) h
            rw [hsz]; exact hrep
    · -- a string
      rename_i s
      split at h
      rotate_left
      · simp [Dec.cps] at h
      rename_i hty
      have hd : P.underlying t = some .string := by
        obtain ⟨d, g1, g2⟩ := ti_desc hT hi
        have hty := tyIs_eq hty
        cases d <;> simp_all [descB]
      split at h
      rotate_left
      · simp [Dec.cps] at h
      rename_i a b ha hb
      simp only [Dec.cps] at h
      cases hc : (decide (0 ≤ a) && decide (a ≤ b) && decide (b ≤ s.size)) with
      | false => simp [hc] at h
      | true =>
        simp only [hc, cond_true] at h
        simp only [Bool.and_eq_true, decide_eq_true_eq] at hc
        cases hp with
        | v τ x v hv =>
          cases hv with
          | str s =>
            refine ValRes.same S (v := .string (s.extract a.toNat b.toNat)) ?_ (.v _ _ _ (.str _)) h
            simp [Instr.sliceAt, run_underlying hd, Instr.slice, run_sliceBounds2 (P := P) w (optI_val h1 ha) (optI_val h2 hb) hc.1.1 hc.1.2 hc.2 (Nat.le_refl _)]
    · -- nothing
      split at h
      rotate_left
      · simp [Dec.cps] at h
      rename_i hel
      obtain ⟨u, hu, hd⟩ := elx0 hel
      split at h
      rotate_left
      · simp [Dec.cps] at h
      rename_i a b ha hb
      simp only [Dec.cps] at h
      cases hc : (decide (a = 0) && decide (b = 0)) with
      | false => simp [hc] at h
      | true =>
        simp only [hc, cond_true] at h
        simp only [Bool.and_eq_true, decide_eq_true_eq] at hc
        obtain ⟨rfl, rfl⟩ := hc
        cases hp with
        | nils a' =>
          refine ValRes.same S (run_slice2 hT hd hu w (optI_val h1 ha) (optI_val h2 hb) (Int.le_refl _) (Int.le_refl _) (by simp) (Nat.le_refl _)) ?_ h
          simp only [Int.toNat_zero, Nat.sub_zero, if_true]
          exact .nils a'
    · -- a row
      rename_i id
      simp only [Dec.cps] at h
      cases hB : getB H id with
      | row wr e l =>
        rw [hB] at h
        simp only at h
        split at h
        rotate_left
        · simp [Dec.cps] at h
        rename_i hel
        obtain ⟨u, hu, hd, hsz⟩ := elx hel
        split at h
        rotate_left
        · simp [Dec.cps] at h
        rename_i a b ha hb
        split at h
        · split at h
          rotate_left
          · simp [Dec.cps] at h
          rename_i hwr
          subst hwr
          simp only [Dec.cps] at h
          cases hc : cut l a b with
          | none => simp [hc] at h
          | some l' =>
            simp only [hc, Option.bind_some] at h
            obtain ⟨c0, c1, c2, _⟩ := cut_some hc
            cases hlt : Nat.blt id H.length with
            | false => simp [hlt] at h
            | true =>
              simp only [hlt, cond_true] at h
              cases hlt2 : Nat.blt fresh (H.set id .dead).length with
              | false => simp only [hlt2, cond_false] at h; cases h
              | true =>
                simp only [hlt2, cond_true] at h
                obtain ⟨base, len, cap, rfl, e1, e2, μ', T, S', hrep⟩ := move_part S F hB hc hp
                refine ⟨_, _, _, _, μ', run_slice2 hT hd hu w (optI_val h1 ha) (by rw [e1]; exact optI_val h2 hb) c0 c1 (by rw [e1]; exact c2) e2, T, S', ?_, h⟩
                rw [hsz]; exact hrep
        · simp only [Dec.cps] at h
          cases hlt : Nat.blt id H.length with
          | false => simp [hlt] at h
          | true =>
            simp only [hlt, cond_true] at h
            cases hc : cut l a b with
            | none => simp [hc] at h
            | some l' =>
              simp only [hc, Option.bind_some] at h
              obtain ⟨c0, c1, c2, _⟩ := cut_some hc
              obtain ⟨T, S', hrep⟩ := freeze_row S hB
              obtain ⟨a', c, rfl, hv⟩ := hrep v hp
              obtain ⟨e1, e2, hrep'⟩ := hv.cut hc
              refine ⟨_, _, _, _, μ, run_slice2 hT hd hu w (optI_val h1 ha) (optI_val h2 hb) c0 c1 c2 e2, T, S', .v _ _ _ ?_, h⟩
              rw [hsz]; exact hrep'
      | _ => rw [hB] at h; simp [Dec.cps] at h
    · simp [Dec.cps] at h
  | some m =>
    cases mxv with
    | none => exact h3.elim
    | some mv' =>
    simp only at h
    have hm : ∀ {c : Int}, optI (some m) 0 = some c → mv' = .int .i64 c := fun hc => by
      rcases optI_val (w := w) (A := Av A0 μ H) (U := Us H) (μ := μ) (v := some mv') h3 hc with ⟨h, _⟩ | h
      · cases h
      · injection h
    split at h
    · rename_i e l
      split at h
      rotate_left
      · simp [Dec.cps] at h
      rename_i hel
      obtain ⟨u, hu, hd, hsz⟩ := elx hel
      split at h
      rotate_left
      · simp [Dec.cps] at h
      rename_i a bp c ha hc
      cases hiv with
      | none => exact h2.elim
      | some bv =>
      split at h
      rotate_left
      · simp [Dec.cps] at h
      rename_i b hb
      have hbv : some bv = some (.int .i64 b) := by
        rcases optI_val (w := w) (A := Av A0 μ H) (U := Us H) (μ := μ) (v := some bv) h2 hb with ⟨h, _⟩ | h
        · cases h
        · exact h
      have fin : ∀ (base : Option Addr) (cap : Nat), l.length ≤ cap → v = .slice base l.length cap → RepT E w (Av A0 μ H) (.slice e) (.slice base l.length l.length) l → ValRes P A0 μ H w (Instr.sliceAt t v lov (some bv) (some mv')) K r := by
        intro base cap hcap hv' hrep
        subst hv'
        simp only [Dec.cps] at h
        cases hz : (decide (a = 0) && decide (b = 0) && decide (c = 0)) with
        | true =>
          simp only [hz, cond_true] at h
          simp only [Bool.and_eq_true, decide_eq_true_eq] at hz
          obtain ⟨⟨rfl, rfl⟩, rfl⟩ := hz
          exact ValRes.same S (run_slice3 hT hd hu w (optI_val h1 ha) hbv (hm hc) rfl (Int.le_refl _) (Int.le_refl _) (by omega)) (.nils base) h
        | false =>
          simp only [hz, cond_false] at h
          cases hz2 : (decide (a = 0) && decide (b = l.length) && decide (c = l.length)) with
          | false =>
            simp only [hz2, cond_false] at h
            cases hz3 : decide (b = c) with
            | false => simp [hz3] at h
            | true =>
              simp only [hz3, cond_true] at h
              simp only [decide_eq_true_eq] at hz3
              subst hz3
              simp only [Option.bind_eq_some_iff] at h
              obtain ⟨l', hcut, h⟩ := h
              obtain ⟨c0, c1, c2, _⟩ := cut_some hcut
              have hsz' : u.size = e.size E := hsz
              refine ValRes.same S (run_slice3g hT hd hu w (optI_val h1 ha) hbv (hm hc) c0 c1 (by omega)) ?_ h
              rw [hsz']
              exact .v _ _ _ (hrep.cut3 hcut)
          | true =>
            simp only [hz2, cond_true] at h
            simp only [Bool.and_eq_true, decide_eq_true_eq] at hz2
            obtain ⟨⟨rfl, rfl⟩, rfl⟩ := hz2
            refine ValRes.same S (run_slice3 hT hd hu w (optI_val h1 ha) hbv (hm hc) rfl (by omega) (Int.le_refl _) (by omega)) ?_ h
            simpa using RepP.full e l base hrep
      cases hp with
      | v τ x v hv =>
        cases hv with
        | nil e a' cap => exact fin a' cap (Nat.zero_le _) rfl (.nil _ _ _)
        | slice e b' off cap l vs g1 g2 g3 g4 g5 => exact fin _ cap g3 rfl (.slice e b' off _ l vs g1 g2 (Nat.le_refl _) g4 g5)
    · split at h
      rotate_left
      · simp [Dec.cps] at h
      rename_i hel
      obtain ⟨u, hu, hd⟩ := elx0 hel
      split at h
      rotate_left
      · simp [Dec.cps] at h
      rename_i a bp c ha hc
      cases hiv with
      | none => exact h2.elim
      | some bv =>
      split at h
      rotate_left
      · simp [Dec.cps] at h
      rename_i b hb
      have hbv : some bv = some (.int .i64 b) := by
        rcases optI_val (w := w) (A := Av A0 μ H) (U := Us H) (μ := μ) (v := some bv) h2 hb with ⟨h, _⟩ | h
        · cases h
        · exact h
      simp only [Dec.cps] at h
      cases hz : (decide (a = 0) && decide (b = 0) && decide (c = 0)) with
      | false => simp [hz] at h
      | true =>
        simp only [hz, cond_true] at h
        simp only [Bool.and_eq_true, decide_eq_true_eq] at hz
        obtain ⟨⟨rfl, rfl⟩, rfl⟩ := hz
        cases hp with
        | nils a' => exact ValRes.same S (run_slice3 hT hd hu w (optI_val h1 ha) hbv (hm hc) rfl (Int.le_refl _) (Int.le_refl _) (by simp)) (.nils a') h
    · rename_i id
      simp only [Dec.cps] at h
      cases hB : getB H id with
      | row wr e l =>
        rw [hB] at h
        simp only at h
        split at h
        rotate_left
        · simp [Dec.cps] at h
        rename_i hel
        obtain ⟨u, hu, hd, hsz⟩ := elx hel
        split at h
        rotate_left
        · simp [Dec.cps] at h
        rename_i a bp c ha hc
        cases hiv with
        | none => exact h2.elim
        | some bv =>
        split at h
        rotate_left
        · simp [Dec.cps] at h
        rename_i b hb
        have hbv : some bv = some (.int .i64 b) := by
          rcases optI_val (w := w) (A := Av A0 μ H) (U := Us H) (μ := μ) (v := some bv) h2 hb with ⟨h, _⟩ | h
          · cases h
          · exact h
        simp only [Dec.cps] at h
        obtain ⟨T, S', hrep⟩ := freeze_row S hB
        obtain ⟨a', cp, rfl, hv⟩ := hrep v hp
        have hcap : l.length ≤ cp := by
          have hv2 := hv
          generalize hq : Value.slice a' l.length cp = q at hv2
          cases hv2 with
          | nil e a2 cap2 => simp
          | slice e b' off cap2 l vs g1 g2 g3 g4 g5 => injection hq with q1 q2 q3; omega
        have hfull : RepT E w (Av A0 μ (H.set id (.row false e l))) (.slice e) (.slice a' l.length l.length) l := by
          generalize hq : Value.slice a' l.length cp = q at hv
          cases hv with
          | nil e a2 cap2 => injection hq with q1; subst q1; exact .nil _ _ _
          | slice e b' off cap2 l vs g1 g2 g3 g4 g5 => injection hq with q1; subst q1; exact .slice e b' off _ l vs g1 g2 (Nat.le_refl _) g4 g5
        cases hz : (decide (a = 0) && decide (b = 0) && decide (c = 0)) with
        | true =>
          simp only [hz, cond_true] at h
          simp only [Bool.and_eq_true, decide_eq_true_eq] at hz
          obtain ⟨⟨rfl, rfl⟩, rfl⟩ := hz
          cases hlt : Nat.blt id H.length with
          | false => simp [hlt] at h
          | true =>
            simp only [hlt, cond_true] at h
            exact ⟨_, _, _, _, μ, run_slice3 hT hd hu w (optI_val h1 ha) hbv (hm hc) rfl (Int.le_refl _) (Int.le_refl _) (by omega), T, S', .nils a', h⟩
        | false =>
          simp only [hz, cond_false] at h
          cases hz2 : (decide (a = 0) && decide (b = l.length) && decide (c = l.length)) with
          | false => simp [hz2] at h
          | true =>
            simp only [hz2, cond_true] at h
            simp only [Bool.and_eq_true, decide_eq_true_eq] at hz2
            obtain ⟨⟨rfl, rfl⟩, rfl⟩ := hz2
            cases hlt : Nat.blt id H.length with
            | false => simp [hlt] at h
            | true =>
              simp only [hlt, cond_true] at h
              refine ⟨_, _, _, _, μ, run_slice3 hT hd hu w (optI_val h1 ha) hbv (hm hc) rfl (by omega) (Int.le_refl _) (by omega), T, S', ?_, h⟩
              simpa using RepP.full e l a' hfull
      | _ => rw [hB] at h; simp [Dec.cps] at h
    · simp [Dec.cps] at h
end
end Go.Pe
