/- Own work of this seat: Tz, G1, G0, G2. -/
import Derived.Shelf.Spec.TrailingZeros
import Derived.Test.YtofljjggmmcgjaaGreatDoorProg
import Derived.Test.YtofljjggmmcgjaaGreatDoorCPeD
set_option linter.unusedVariables false
set_option linter.unusedSimpArgs false
set_option linter.unnecessarySimpa false
set_option linter.unusedSectionVars false
set_option linter.deprecated false
set_option maxRecDepth 100000
namespace Go.Proofs
open Go.Shelf
def rhoTz : Go.Shelf.Ren := { f := fun k => if k = 29 then 160 else k, t := fun k => if k = 22 then 29 else if k = 25 then 218 else if k = 54 then 261 else k, g := fun k => if k = 1 then 0 else k }
theorem laysTz : Lays7.n29 Tryz.prog rhoTz := by
  constructor <;> first | kernel_rfl | (intro w; kernel_rfl)
end Go.Proofs
namespace Go.Pe.G
open Go.Pe
structure Sbesomlaw14_Grow where
  Obj : BitVec 8
  Who : BitVec 8
  Mode : BitVec 8
structure Scode_Op where
  Kind : Int
  R : Int
  A : Int
  S : Int
structure Spick_Pick where
  Kind : Int
  N : Int
structure Sheap_Heap where
  Slots : Int
  Objs : List (List Int)
structure Splan_Plan where
  Workers : Int
  Mutators : Int
  Cap : Int
  Buf : Int
  Bin : Int
  Most : Int
  Price : Int
  Limit : Int
  H : Sheap_Heap
  Roots : BitVec 64
  Regs : List (List Int)
  Progs : List (List Scode_Op)
  Picks : List Spick_Pick
structure Sledger_Ledger where
  Scanned : Int
  Spent : Int
  Pool : Int
  Bal : List Int
structure Sdeque_Machine where
  Kind : Int
  PC : Int
  Base : Int
  Cap : Int
  B : BitVec 64
  T : BitVec 64
  X : Int
  Out : Int
structure Schain_Machine where
  Kind : Int
  PC : Int
  Head : Int
  Next : Int
  H : BitVec 64
  X : Int
  Y : Int
  Out : Int
structure Sstate_Grey where
  PC : Int
  Mode : Int
  Obj : Int
  Who : Int
  D : Sdeque_Machine
  C : Schain_Machine
  Bin : Int
  Out : Int
structure Sstate_Worker where
  PC : Int
  Obj : Int
  Slot : Int
  Victim : Int
  Bin : Int
  Batch : List Int
  D : Sdeque_Machine
  C : Schain_Machine
  G : Sstate_Grey
structure Sstate_Mutator where
  PC : Int
  IP : Int
  Ret : Int
  Want : Int
  Old : Int
  Obj : Int
  Slot : Int
  Bin : Int
  Regs : List Int
  Buf : List Int
  Batch : List Int
  C : Schain_Machine
  G : Sstate_Grey
structure Stint_Tint where
  Marks : BitVec 64
  Black : BitVec 64
structure Sstate_Detect where
  PC : Int
  I : Int
structure Smem_Op where
  Kind : Int
  At : Int
  A : BitVec 64
  B : BitVec 64
structure Sstate_State where
  P : Splan_Plan
  H : Sheap_Heap
  M : List (BitVec 64)
  Bins : List (List Int)
  T : Stint_Tint
  Work : Int
  Epoch : Int
  Flag : Bool
  Done : Bool
  Restarts : Int
  Acks : List Int
  L : Sledger_Ledger
  Ws : List Sstate_Worker
  Ms : List Sstate_Mutator
  D : Sstate_Detect
structure Sgrey_machine where
  Grey : Sstate_Grey
  s : Sstate_State
structure Sbesomlaw14_Maker where
  L : List (BitVec 8)
  At : Int
@[reducible] def TT : Nat → Type
  | 0 => Sbesomlaw14_Grow
  | 1 => Scode_Op
  | 2 => Spick_Pick
  | 3 => Sheap_Heap
  | 4 => Splan_Plan
  | 5 => Sledger_Ledger
  | 6 => Sdeque_Machine
  | 7 => Schain_Machine
  | 8 => Sstate_Grey
  | 9 => Sstate_Worker
  | 10 => Sstate_Mutator
  | 11 => Stint_Tint
  | 12 => Sstate_Detect
  | 13 => Smem_Op
  | 14 => Sstate_State
  | 15 => Sgrey_machine
  | 16 => Sbesomlaw14_Maker
  | _ => Unit
@[reducible] def lvs : Nat → List Ty
  | 0 => [(.int .u8), (.int .u8), (.int .u8)]
  | 1 => [(.int .i64), (.int .i64), (.int .i64), (.int .i64)]
  | 2 => [(.int .i64), (.int .i64)]
  | 3 => [(.int .i64), (.slice (.slice (.int .i64)))]
  | 4 => [(.int .i64), (.int .i64), (.int .i64), (.int .i64), (.int .i64), (.int .i64), (.int .i64), (.int .i64), (.int .i64), (.slice (.slice (.int .i64))), (.int .u64), (.slice (.slice (.int .i64))), (.slice (.slice (.named 1))), (.slice (.named 2))]
  | 5 => [(.int .i64), (.int .i64), (.int .i64), (.slice (.int .i64))]
  | 6 => [(.int .i64), (.int .i64), (.int .i64), (.int .i64), (.int .u64), (.int .u64), (.int .i64), (.int .i64)]
  | 7 => [(.int .i64), (.int .i64), (.int .i64), (.int .i64), (.int .u64), (.int .i64), (.int .i64), (.int .i64)]
  | 8 => [(.int .i64), (.int .i64), (.int .i64), (.int .i64), (.int .i64), (.int .i64), (.int .i64), (.int .i64), (.int .u64), (.int .u64), (.int .i64), (.int .i64), (.int .i64), (.int .i64), (.int .i64), (.int .i64), (.int .u64), (.int .i64), (.int .i64), (.int .i64), (.int .i64), (.int .i64)]
  | 9 => [(.int .i64), (.int .i64), (.int .i64), (.int .i64), (.int .i64), (.slice (.int .i64)), (.int .i64), (.int .i64), (.int .i64), (.int .i64), (.int .u64), (.int .u64), (.int .i64), (.int .i64), (.int .i64), (.int .i64), (.int .i64), (.int .i64), (.int .u64), (.int .i64), (.int .i64), (.int .i64), (.int .i64), (.int .i64), (.int .i64), (.int .i64), (.int .i64), (.int .i64), (.int .i64), (.int .i64), (.int .u64), (.int .u64), (.int .i64), (.int .i64), (.int .i64), (.int .i64), (.int .i64), (.int .i64), (.int .u64), (.int .i64), (.int .i64), (.int .i64), (.int .i64), (.int .i64)]
  | 10 => [(.int .i64), (.int .i64), (.int .i64), (.int .i64), (.int .i64), (.int .i64), (.int .i64), (.int .i64), (.slice (.int .i64)), (.slice (.int .i64)), (.slice (.int .i64)), (.int .i64), (.int .i64), (.int .i64), (.int .i64), (.int .u64), (.int .i64), (.int .i64), (.int .i64), (.int .i64), (.int .i64), (.int .i64), (.int .i64), (.int .i64), (.int .i64), (.int .i64), (.int .i64), (.int .u64), (.int .u64), (.int .i64), (.int .i64), (.int .i64), (.int .i64), (.int .i64), (.int .i64), (.int .u64), (.int .i64), (.int .i64), (.int .i64), (.int .i64), (.int .i64)]
  | 11 => [(.int .u64), (.int .u64)]
  | 12 => [(.int .i64), (.int .i64)]
  | 13 => [(.int .i64), (.int .i64), (.int .u64), (.int .u64)]
  | 14 => [(.int .i64), (.int .i64), (.int .i64), (.int .i64), (.int .i64), (.int .i64), (.int .i64), (.int .i64), (.int .i64), (.slice (.slice (.int .i64))), (.int .u64), (.slice (.slice (.int .i64))), (.slice (.slice (.named 1))), (.slice (.named 2)), (.int .i64), (.slice (.slice (.int .i64))), (.slice (.int .u64)), (.slice (.slice (.int .i64))), (.int .u64), (.int .u64), (.int .i64), (.int .i64), .bool, .bool, (.int .i64), (.slice (.int .i64)), (.int .i64), (.int .i64), (.int .i64), (.slice (.int .i64)), (.slice (.named 9)), (.slice (.named 10)), (.int .i64), (.int .i64)]
  | 15 => [(.int .i64), (.int .i64), (.int .i64), (.int .i64), (.int .i64), (.int .i64), (.int .i64), (.int .i64), (.int .u64), (.int .u64), (.int .i64), (.int .i64), (.int .i64), (.int .i64), (.int .i64), (.int .i64), (.int .u64), (.int .i64), (.int .i64), (.int .i64), (.int .i64), (.int .i64), (.int .i64), (.int .i64), (.int .i64), (.int .i64), (.int .i64), (.int .i64), (.int .i64), (.int .i64), (.int .i64), (.slice (.slice (.int .i64))), (.int .u64), (.slice (.slice (.int .i64))), (.slice (.slice (.named 1))), (.slice (.named 2)), (.int .i64), (.slice (.slice (.int .i64))), (.slice (.int .u64)), (.slice (.slice (.int .i64))), (.int .u64), (.int .u64), (.int .i64), (.int .i64), .bool, .bool, (.int .i64), (.slice (.int .i64)), (.int .i64), (.int .i64), (.int .i64), (.slice (.int .i64)), (.slice (.named 9)), (.slice (.named 10)), (.int .i64), (.int .i64)]
  | 16 => [(.slice (.int .u8)), (.int .i64)]
  | _ => []
@[reducible] def unp : (n : Nat) → TT n → HL TT (lvs n)
  | 0 => fun x => (x.Obj, x.Who, x.Mode, ())
  | 1 => fun x => (x.Kind, x.R, x.A, x.S, ())
  | 2 => fun x => (x.Kind, x.N, ())
  | 3 => fun x => (x.Slots, x.Objs, ())
  | 4 => fun x => (x.Workers, x.Mutators, x.Cap, x.Buf, x.Bin, x.Most, x.Price, x.Limit, x.H.Slots, x.H.Objs, x.Roots, x.Regs, x.Progs, x.Picks, ())
  | 5 => fun x => (x.Scanned, x.Spent, x.Pool, x.Bal, ())
  | 6 => fun x => (x.Kind, x.PC, x.Base, x.Cap, x.B, x.T, x.X, x.Out, ())
  | 7 => fun x => (x.Kind, x.PC, x.Head, x.Next, x.H, x.X, x.Y, x.Out, ())
  | 8 => fun x => (x.PC, x.Mode, x.Obj, x.Who, x.D.Kind, x.D.PC, x.D.Base, x.D.Cap, x.D.B, x.D.T, x.D.X, x.D.Out, x.C.Kind, x.C.PC, x.C.Head, x.C.Next, x.C.H, x.C.X, x.C.Y, x.C.Out, x.Bin, x.Out, ())
  | 9 => fun x => (x.PC, x.Obj, x.Slot, x.Victim, x.Bin, x.Batch, x.D.Kind, x.D.PC, x.D.Base, x.D.Cap, x.D.B, x.D.T, x.D.X, x.D.Out, x.C.Kind, x.C.PC, x.C.Head, x.C.Next, x.C.H, x.C.X, x.C.Y, x.C.Out, x.G.PC, x.G.Mode, x.G.Obj, x.G.Who, x.G.D.Kind, x.G.D.PC, x.G.D.Base, x.G.D.Cap, x.G.D.B, x.G.D.T, x.G.D.X, x.G.D.Out, x.G.C.Kind, x.G.C.PC, x.G.C.Head, x.G.C.Next, x.G.C.H, x.G.C.X, x.G.C.Y, x.G.C.Out, x.G.Bin, x.G.Out, ())
  | 10 => fun x => (x.PC, x.IP, x.Ret, x.Want, x.Old, x.Obj, x.Slot, x.Bin, x.Regs, x.Buf, x.Batch, x.C.Kind, x.C.PC, x.C.Head, x.C.Next, x.C.H, x.C.X, x.C.Y, x.C.Out, x.G.PC, x.G.Mode, x.G.Obj, x.G.Who, x.G.D.Kind, x.G.D.PC, x.G.D.Base, x.G.D.Cap, x.G.D.B, x.G.D.T, x.G.D.X, x.G.D.Out, x.G.C.Kind, x.G.C.PC, x.G.C.Head, x.G.C.Next, x.G.C.H, x.G.C.X, x.G.C.Y, x.G.C.Out, x.G.Bin, x.G.Out, ())
  | 11 => fun x => (x.Marks, x.Black, ())
  | 12 => fun x => (x.PC, x.I, ())
  | 13 => fun x => (x.Kind, x.At, x.A, x.B, ())
  | 14 => fun x => (x.P.Workers, x.P.Mutators, x.P.Cap, x.P.Buf, x.P.Bin, x.P.Most, x.P.Price, x.P.Limit, x.P.H.Slots, x.P.H.Objs, x.P.Roots, x.P.Regs, x.P.Progs, x.P.Picks, x.H.Slots, x.H.Objs, x.M, x.Bins, x.T.Marks, x.T.Black, x.Work, x.Epoch, x.Flag, x.Done, x.Restarts, x.Acks, x.L.Scanned, x.L.Spent, x.L.Pool, x.L.Bal, x.Ws, x.Ms, x.D.PC, x.D.I, ())
  | 15 => fun x => (x.Grey.PC, x.Grey.Mode, x.Grey.Obj, x.Grey.Who, x.Grey.D.Kind, x.Grey.D.PC, x.Grey.D.Base, x.Grey.D.Cap, x.Grey.D.B, x.Grey.D.T, x.Grey.D.X, x.Grey.D.Out, x.Grey.C.Kind, x.Grey.C.PC, x.Grey.C.Head, x.Grey.C.Next, x.Grey.C.H, x.Grey.C.X, x.Grey.C.Y, x.Grey.C.Out, x.Grey.Bin, x.Grey.Out, x.s.P.Workers, x.s.P.Mutators, x.s.P.Cap, x.s.P.Buf, x.s.P.Bin, x.s.P.Most, x.s.P.Price, x.s.P.Limit, x.s.P.H.Slots, x.s.P.H.Objs, x.s.P.Roots, x.s.P.Regs, x.s.P.Progs, x.s.P.Picks, x.s.H.Slots, x.s.H.Objs, x.s.M, x.s.Bins, x.s.T.Marks, x.s.T.Black, x.s.Work, x.s.Epoch, x.s.Flag, x.s.Done, x.s.Restarts, x.s.Acks, x.s.L.Scanned, x.s.L.Spent, x.s.L.Pool, x.s.L.Bal, x.s.Ws, x.s.Ms, x.s.D.PC, x.s.D.I, ())
  | 16 => fun x => (x.L, x.At, ())
  | _+17 => fun _ => ()
@[reducible] def pck : (n : Nat) → HL TT (lvs n) → TT n
  | 0 => fun x => ⟨x.1, x.2.1, x.2.2.1⟩
  | 1 => fun x => ⟨x.1, x.2.1, x.2.2.1, x.2.2.2.1⟩
  | 2 => fun x => ⟨x.1, x.2.1⟩
  | 3 => fun x => ⟨x.1, x.2.1⟩
  | 4 => fun x => ⟨x.1, x.2.1, x.2.2.1, x.2.2.2.1, x.2.2.2.2.1, x.2.2.2.2.2.1, x.2.2.2.2.2.2.1, x.2.2.2.2.2.2.2.1, ⟨x.2.2.2.2.2.2.2.2.1, x.2.2.2.2.2.2.2.2.2.1⟩, x.2.2.2.2.2.2.2.2.2.2.1, x.2.2.2.2.2.2.2.2.2.2.2.1, x.2.2.2.2.2.2.2.2.2.2.2.2.1, x.2.2.2.2.2.2.2.2.2.2.2.2.2.1⟩
  | 5 => fun x => ⟨x.1, x.2.1, x.2.2.1, x.2.2.2.1⟩
  | 6 => fun x => ⟨x.1, x.2.1, x.2.2.1, x.2.2.2.1, x.2.2.2.2.1, x.2.2.2.2.2.1, x.2.2.2.2.2.2.1, x.2.2.2.2.2.2.2.1⟩
  | 7 => fun x => ⟨x.1, x.2.1, x.2.2.1, x.2.2.2.1, x.2.2.2.2.1, x.2.2.2.2.2.1, x.2.2.2.2.2.2.1, x.2.2.2.2.2.2.2.1⟩
  | 8 => fun x => ⟨x.1, x.2.1, x.2.2.1, x.2.2.2.1, ⟨x.2.2.2.2.1, x.2.2.2.2.2.1, x.2.2.2.2.2.2.1, x.2.2.2.2.2.2.2.1, x.2.2.2.2.2.2.2.2.1, x.2.2.2.2.2.2.2.2.2.1, x.2.2.2.2.2.2.2.2.2.2.1, x.2.2.2.2.2.2.2.2.2.2.2.1⟩, ⟨x.2.2.2.2.2.2.2.2.2.2.2.2.1, x.2.2.2.2.2.2.2.2.2.2.2.2.2.1, x.2.2.2.2.2.2.2.2.2.2.2.2.2.2.1, x.2.2.2.2.2.2.2.2.2.2.2.2.2.2.2.1, x.2.2.2.2.2.2.2.2.2.2.2.2.2.2.2.2.1, x.2.2.2.2.2.2.2.2.2.2.2.2.2.2.2.2.2.1, x.2.2.2.2.2.2.2.2.2.2.2.2.2.2.2.2.2.2.1, x.2.2.2.2.2.2.2.2.2.2.2.2.2.2.2.2.2.2.2.1⟩, x.2.2.2.2.2.2.2.2.2.2.2.2.2.2.2.2.2.2.2.2.1, x.2.2.2.2.2.2.2.2.2.2.2.2.2.2.2.2.2.2.2.2.2.1⟩
  | 9 => fun x => ⟨x.1, x.2.1, x.2.2.1, x.2.2.2.1, x.2.2.2.2.1, x.2.2.2.2.2.1, ⟨x.2.2.2.2.2.2.1, x.2.2.2.2.2.2.2.1, x.2.2.2.2.2.2.2.2.1, x.2.2.2.2.2.2.2.2.2.1, x.2.2.2.2.2.2.2.2.2.2.1, x.2.2.2.2.2.2.2.2.2.2.2.1, x.2.2.2.2.2.2.2.2.2.2.2.2.1, x.2.2.2.2.2.2.2.2.2.2.2.2.2.1⟩, ⟨x.2.2.2.2.2.2.2.2.2.2.2.2.2.2.1, x.2.2.2.2.2.2.2.2.2.2.2.2.2.2.2.1, x.2.2.2.2.2.2.2.2.2.2.2.2.2.2.2.2.1, x.2.2.2.2.2.2.2.2.2.2.2.2.2.2.2.2.2.1, x.2.2.2.2.2.2.2.2.2.2.2.2.2.2.2.2.2.2.1, x.2.2.2.2.2.2.2.2.2.2.2.2.2.2.2.2.2.2.2.1, x.2.2.2.2.2.2.2.2.2.2.2.2.2.2.2.2.2.2.2.2.1, x.2.2.2.2.2.2.2.2.2.2.2.2.2.2.2.2.2.2.2.2.2.1⟩, ⟨x.2.2.2.2.2.2.2.2.2.2.2.2.2.2.2.2.2.2.2.2.2.2.1, x.2.2.2.2.2.2.2.2.2.2.2.2.2.2.2.2.2.2.2.2.2.2.2.1, x.2.2.2.2.2.2.2.2.2.2.2.2.2.2.2.2.2.2.2.2.2.2.2.2.1, x.2.2.2.2.2.2.2.2.2.2.2.2.2.2.2.2.2.2.2.2.2.2.2.2.2.1, ⟨x.2.2.2.2.2.2.2.2.2.2.2.2.2.2.2.2.2.2.2.2.2.2.2.2.2.2.1, x.2.2.2.2.2.2.2.2.2.2.2.2.2.2.2.2.2.2.2.2.2.2.2.2.2.2.2.1, x.2.2.2.2.2.2.2.2.2.2.2.2.2.2.2.2.2.2.2.2.2.2.2.2.2.2.2.2.1, x.2.2.2.2.2.2.2.2.2.2.2.2.2.2.2.2.2.2.2.2.2.2.2.2.2.2.2.2.2.1, x.2.2.2.2.2.2.2.2.2.2.2.2.2.2.2.2.2.2.2.2.2.2.2.2.2.2.2.2.2.2.1, x.2.2.2.2.2.2.2.2.2.2.2.2.2.2.2.2.2.2.2.2.2.2.2.2.2.2.2.2.2.2.2.1, x.2.2.2.2.2.2.2.2.2.2.2.2.2.2.2.2.2.2.2.2.2.2.2.2.2.2.2.2.2.2.2.2.1, x.2.2.2.2.2.2.2.2.2.2.2.2.2.2.2.2.2.2.2.2.2.2.2.2.2.2.2.2.2.2.2.2.2.1⟩, ⟨x.2.2.2.2.2.2.2.2.2.2.2.2.2.2.2.2.2.2.2.2.2.2.2.2.2.2.2.2.2.2.2.2.2.2.1, x.2.2.2.2.2.2.2.2.2.2.2.2.2.2.2.2.2.2.2.2.2.2.2.2.2.2.2.2.2.2.2.2.2.2.2.1, x.2.2.2.2.2.2.2.2.2.2.2.2.2.2.2.2.2.2.2.2.2.2.2.2.2.2.2.2.2.2.2.2.2.2.2.2.1, x.2.2.2.2.2.2.2.2.2.2.2.2.2.2.2.2.2.2.2.2.2.2.2.2.2.2.2.2.2.2.2.2.2.2.2.2.2.1, x.2.2.2.2.2.2.2.2.2.2.2.2.2.2.2.2.2.2.2.2.2.2.2.2.2.2.2.2.2.2.2.2.2.2.2.2.2.2.1, x.2.2.2.2.2.2.2.2.2.2.2.2.2.2.2.2.2.2.2.2.2.2.2.2.2.2.2.2.2.2.2.2.2.2.2.2.2.2.2.1, x.2.2.2.2.2.2.2.2.2.2.2.2.2.2.2.2.2.2.2.2.2.2.2.2.2.2.2.2.2.2.2.2.2.2.2.2.2.2.2.2.1, x.2.2.2.2.2.2.2.2.2.2.2.2.2.2.2.2.2.2.2.2.2.2.2.2.2.2.2.2.2.2.2.2.2.2.2.2.2.2.2.2.2.1⟩, x.2.2.2.2.2.2.2.2.2.2.2.2.2.2.2.2.2.2.2.2.2.2.2.2.2.2.2.2.2.2.2.2.2.2.2.2.2.2.2.2.2.2.1, x.2.2.2.2.2.2.2.2.2.2.2.2.2.2.2.2.2.2.2.2.2.2.2.2.2.2.2.2.2.2.2.2.2.2.2.2.2.2.2.2.2.2.2.1⟩⟩
  | 10 => fun x => ⟨x.1, x.2.1, x.2.2.1, x.2.2.2.1, x.2.2.2.2.1, x.2.2.2.2.2.1, x.2.2.2.2.2.2.1, x.2.2.2.2.2.2.2.1, x.2.2.2.2.2.2.2.2.1, x.2.2.2.2.2.2.2.2.2.1, x.2.2.2.2.2.2.2.2.2.2.1, ⟨x.2.2.2.2.2.2.2.2.2.2.2.1, x.2.2.2.2.2.2.2.2.2.2.2.2.1, x.2.2.2.2.2.2.2.2.2.2.2.2.2.1, x.2.2.2.2.2.2.2.2.2.2.2.2.2.2.1, x.2.2.2.2.2.2.2.2.2.2.2.2.2.2.2.1, x.2.2.2.2.2.2.2.2.2.2.2.2.2.2.2.2.1, x.2.2.2.2.2.2.2.2.2.2.2.2.2.2.2.2.2.1, x.2.2.2.2.2.2.2.2.2.2.2.2.2.2.2.2.2.2.1⟩, ⟨x.2.2.2.2.2.2.2.2.2.2.2.2.2.2.2.2.2.2.2.1, x.2.2.2.2.2.2.2.2.2.2.2.2.2.2.2.2.2.2.2.2.1, x.2.2.2.2.2.2.2.2.2.2.2.2.2.2.2.2.2.2.2.2.2.1, x.2.2.2.2.2.2.2.2.2.2.2.2.2.2.2.2.2.2.2.2.2.2.1, ⟨x.2.2.2.2.2.2.2.2.2.2.2.2.2.2.2.2.2.2.2.2.2.2.2.1, x.2.2.2.2.2.2.2.2.2.2.2.2.2.2.2.2.2.2.2.2.2.2.2.2.1, x.2.2.2.2.2.2.2.2.2.2.2.2.2.2.2.2.2.2.2.2.2.2.2.2.2.1, x.2.2.2.2.2.2.2.2.2.2.2.2.2.2.2.2.2.2.2.2.2.2.2.2.2.2.1, x.2.2.2.2.2.2.2.2.2.2.2.2.2.2.2.2.2.2.2.2.2.2.2.2.2.2.2.1, x.2.2.2.2.2.2.2.2.2.2.2.2.2.2.2.2.2.2.2.2.2.2.2.2.2.2.2.2.1, x.2.2.2.2.2.2.2.2.2.2.2.2.2.2.2.2.2.2.2.2.2.2.2.2.2.2.2.2.2.1, x.2.2.2.2.2.2.2.2.2.2.2.2.2.2.2.2.2.2.2.2.2.2.2.2.2.2.2.2.2.2.1⟩, ⟨x.2.2.2.2.2.2.2.2.2.2.2.2.2.2.2.2.2.2.2.2.2.2.2.2.2.2.2.2.2.2.2.1, x.2.2.2.2.2.2.2.2.2.2.2.2.2.2.2.2.2.2.2.2.2.2.2.2.2.2.2.2.2.2.2.2.1, x.2.2.2.2.2.2.2.2.2.2.2.2.2.2.2.2.2.2.2.2.2.2.2.2.2.2.2.2.2.2.2.2.2.1, x.2.2.2.2.2.2.2.2.2.2.2.2.2.2.2.2.2.2.2.2.2.2.2.2.2.2.2.2.2.2.2.2.2.2.1, x.2.2.2.2.2.2.2.2.2.2.2.2.2.2.2.2.2.2.2.2.2.2.2.2.2.2.2.2.2.2.2.2.2.2.2.1, x.2.2.2.2.2.2.2.2.2.2.2.2.2.2.2.2.2.2.2.2.2.2.2.2.2.2.2.2.2.2.2.2.2.2.2.2.1, x.2.2.2.2.2.2.2.2.2.2.2.2.2.2.2.2.2.2.2.2.2.2.2.2.2.2.2.2.2.2.2.2.2.2.2.2.2.1, x.2.2.2.2.2.2.2.2.2.2.2.2.2.2.2.2.2.2.2.2.2.2.2.2.2.2.2.2.2.2.2.2.2.2.2.2.2.2.1⟩, x.2.2.2.2.2.2.2.2.2.2.2.2.2.2.2.2.2.2.2.2.2.2.2.2.2.2.2.2.2.2.2.2.2.2.2.2.2.2.2.1, x.2.2.2.2.2.2.2.2.2.2.2.2.2.2.2.2.2.2.2.2.2.2.2.2.2.2.2.2.2.2.2.2.2.2.2.2.2.2.2.2.1⟩⟩
  | 11 => fun x => ⟨x.1, x.2.1⟩
  | 12 => fun x => ⟨x.1, x.2.1⟩
  | 13 => fun x => ⟨x.1, x.2.1, x.2.2.1, x.2.2.2.1⟩
  | 14 => fun x => ⟨⟨x.1, x.2.1, x.2.2.1, x.2.2.2.1, x.2.2.2.2.1, x.2.2.2.2.2.1, x.2.2.2.2.2.2.1, x.2.2.2.2.2.2.2.1, ⟨x.2.2.2.2.2.2.2.2.1, x.2.2.2.2.2.2.2.2.2.1⟩, x.2.2.2.2.2.2.2.2.2.2.1, x.2.2.2.2.2.2.2.2.2.2.2.1, x.2.2.2.2.2.2.2.2.2.2.2.2.1, x.2.2.2.2.2.2.2.2.2.2.2.2.2.1⟩, ⟨x.2.2.2.2.2.2.2.2.2.2.2.2.2.2.1, x.2.2.2.2.2.2.2.2.2.2.2.2.2.2.2.1⟩, x.2.2.2.2.2.2.2.2.2.2.2.2.2.2.2.2.1, x.2.2.2.2.2.2.2.2.2.2.2.2.2.2.2.2.2.1, ⟨x.2.2.2.2.2.2.2.2.2.2.2.2.2.2.2.2.2.2.1, x.2.2.2.2.2.2.2.2.2.2.2.2.2.2.2.2.2.2.2.1⟩, x.2.2.2.2.2.2.2.2.2.2.2.2.2.2.2.2.2.2.2.2.1, x.2.2.2.2.2.2.2.2.2.2.2.2.2.2.2.2.2.2.2.2.2.1, x.2.2.2.2.2.2.2.2.2.2.2.2.2.2.2.2.2.2.2.2.2.2.1, x.2.2.2.2.2.2.2.2.2.2.2.2.2.2.2.2.2.2.2.2.2.2.2.1, x.2.2.2.2.2.2.2.2.2.2.2.2.2.2.2.2.2.2.2.2.2.2.2.2.1, x.2.2.2.2.2.2.2.2.2.2.2.2.2.2.2.2.2.2.2.2.2.2.2.2.2.1, ⟨x.2.2.2.2.2.2.2.2.2.2.2.2.2.2.2.2.2.2.2.2.2.2.2.2.2.2.1, x.2.2.2.2.2.2.2.2.2.2.2.2.2.2.2.2.2.2.2.2.2.2.2.2.2.2.2.1, x.2.2.2.2.2.2.2.2.2.2.2.2.2.2.2.2.2.2.2.2.2.2.2.2.2.2.2.2.1, x.2.2.2.2.2.2.2.2.2.2.2.2.2.2.2.2.2.2.2.2.2.2.2.2.2.2.2.2.2.1⟩, x.2.2.2.2.2.2.2.2.2.2.2.2.2.2.2.2.2.2.2.2.2.2.2.2.2.2.2.2.2.2.1, x.2.2.2.2.2.2.2.2.2.2.2.2.2.2.2.2.2.2.2.2.2.2.2.2.2.2.2.2.2.2.2.1, ⟨x.2.2.2.2.2.2.2.2.2.2.2.2.2.2.2.2.2.2.2.2.2.2.2.2.2.2.2.2.2.2.2.2.1, x.2.2.2.2.2.2.2.2.2.2.2.2.2.2.2.2.2.2.2.2.2.2.2.2.2.2.2.2.2.2.2.2.2.1⟩⟩
  | 15 => fun x => ⟨⟨x.1, x.2.1, x.2.2.1, x.2.2.2.1, ⟨x.2.2.2.2.1, x.2.2.2.2.2.1, x.2.2.2.2.2.2.1, x.2.2.2.2.2.2.2.1, x.2.2.2.2.2.2.2.2.1, x.2.2.2.2.2.2.2.2.2.1, x.2.2.2.2.2.2.2.2.2.2.1, x.2.2.2.2.2.2.2.2.2.2.2.1⟩, ⟨x.2.2.2.2.2.2.2.2.2.2.2.2.1, x.2.2.2.2.2.2.2.2.2.2.2.2.2.1, x.2.2.2.2.2.2.2.2.2.2.2.2.2.2.1, x.2.2.2.2.2.2.2.2.2.2.2.2.2.2.2.1, x.2.2.2.2.2.2.2.2.2.2.2.2.2.2.2.2.1, x.2.2.2.2.2.2.2.2.2.2.2.2.2.2.2.2.2.1, x.2.2.2.2.2.2.2.2.2.2.2.2.2.2.2.2.2.2.1, x.2.2.2.2.2.2.2.2.2.2.2.2.2.2.2.2.2.2.2.1⟩, x.2.2.2.2.2.2.2.2.2.2.2.2.2.2.2.2.2.2.2.2.1, x.2.2.2.2.2.2.2.2.2.2.2.2.2.2.2.2.2.2.2.2.2.1⟩, ⟨⟨x.2.2.2.2.2.2.2.2.2.2.2.2.2.2.2.2.2.2.2.2.2.2.1, x.2.2.2.2.2.2.2.2.2.2.2.2.2.2.2.2.2.2.2.2.2.2.2.1, x.2.2.2.2.2.2.2.2.2.2.2.2.2.2.2.2.2.2.2.2.2.2.2.2.1, x.2.2.2.2.2.2.2.2.2.2.2.2.2.2.2.2.2.2.2.2.2.2.2.2.2.1, x.2.2.2.2.2.2.2.2.2.2.2.2.2.2.2.2.2.2.2.2.2.2.2.2.2.2.1, x.2.2.2.2.2.2.2.2.2.2.2.2.2.2.2.2.2.2.2.2.2.2.2.2.2.2.2.1, x.2.2.2.2.2.2.2.2.2.2.2.2.2.2.2.2.2.2.2.2.2.2.2.2.2.2.2.2.1, x.2.2.2.2.2.2.2.2.2.2.2.2.2.2.2.2.2.2.2.2.2.2.2.2.2.2.2.2.2.1, ⟨x.2.2.2.2.2.2.2.2.2.2.2.2.2.2.2.2.2.2.2.2.2.2.2.2.2.2.2.2.2.2.1, x.2.2.2.2.2.2.2.2.2.2.2.2.2.2.2.2.2.2.2.2.2.2.2.2.2.2.2.2.2.2.2.1⟩, x.2.2.2.2.2.2.2.2.2.2.2.2.2.2.2.2.2.2.2.2.2.2.2.2.2.2.2.2.2.2.2.2.1, x.2.2.2.2.2.2.2.2.2.2.2.2.2.2.2.2.2.2.2.2.2.2.2.2.2.2.2.2.2.2.2.2.2.1, x.2.2.2.2.2.2.2.2.2.2.2.2.2.2.2.2.2.2.2.2.2.2.2.2.2.2.2.2.2.2.2.2.2.2.1, x.2.2.2.2.2.2.2.2.2.2.2.2.2.2.2.2.2.2.2.2.2.2.2.2.2.2.2.2.2.2.2.2.2.2.2.1⟩, ⟨x.2.2.2.2.2.2.2.2.2.2.2.2.2.2.2.2.2.2.2.2.2.2.2.2.2.2.2.2.2.2.2.2.2.2.2.2.1, x.2.2.2.2.2.2.2.2.2.2.2.2.2.2.2.2.2.2.2.2.2.2.2.2.2.2.2.2.2.2.2.2.2.2.2.2.2.1⟩, x.2.2.2.2.2.2.2.2.2.2.2.2.2.2.2.2.2.2.2.2.2.2.2.2.2.2.2.2.2.2.2.2.2.2.2.2.2.2.1, x.2.2.2.2.2.2.2.2.2.2.2.2.2.2.2.2.2.2.2.2.2.2.2.2.2.2.2.2.2.2.2.2.2.2.2.2.2.2.2.1, ⟨x.2.2.2.2.2.2.2.2.2.2.2.2.2.2.2.2.2.2.2.2.2.2.2.2.2.2.2.2.2.2.2.2.2.2.2.2.2.2.2.2.1, x.2.2.2.2.2.2.2.2.2.2.2.2.2.2.2.2.2.2.2.2.2.2.2.2.2.2.2.2.2.2.2.2.2.2.2.2.2.2.2.2.2.1⟩, x.2.2.2.2.2.2.2.2.2.2.2.2.2.2.2.2.2.2.2.2.2.2.2.2.2.2.2.2.2.2.2.2.2.2.2.2.2.2.2.2.2.2.1, x.2.2.2.2.2.2.2.2.2.2.2.2.2.2.2.2.2.2.2.2.2.2.2.2.2.2.2.2.2.2.2.2.2.2.2.2.2.2.2.2.2.2.2.1, x.2.2.2.2.2.2.2.2.2.2.2.2.2.2.2.2.2.2.2.2.2.2.2.2.2.2.2.2.2.2.2.2.2.2.2.2.2.2.2.2.2.2.2.2.1, x.2.2.2.2.2.2.2.2.2.2.2.2.2.2.2.2.2.2.2.2.2.2.2.2.2.2.2.2.2.2.2.2.2.2.2.2.2.2.2.2.2.2.2.2.2.1, x.2.2.2.2.2.2.2.2.2.2.2.2.2.2.2.2.2.2.2.2.2.2.2.2.2.2.2.2.2.2.2.2.2.2.2.2.2.2.2.2.2.2.2.2.2.2.1, x.2.2.2.2.2.2.2.2.2.2.2.2.2.2.2.2.2.2.2.2.2.2.2.2.2.2.2.2.2.2.2.2.2.2.2.2.2.2.2.2.2.2.2.2.2.2.2.1, ⟨x.2.2.2.2.2.2.2.2.2.2.2.2.2.2.2.2.2.2.2.2.2.2.2.2.2.2.2.2.2.2.2.2.2.2.2.2.2.2.2.2.2.2.2.2.2.2.2.2.1, x.2.2.2.2.2.2.2.2.2.2.2.2.2.2.2.2.2.2.2.2.2.2.2.2.2.2.2.2.2.2.2.2.2.2.2.2.2.2.2.2.2.2.2.2.2.2.2.2.2.1, x.2.2.2.2.2.2.2.2.2.2.2.2.2.2.2.2.2.2.2.2.2.2.2.2.2.2.2.2.2.2.2.2.2.2.2.2.2.2.2.2.2.2.2.2.2.2.2.2.2.2.1, x.2.2.2.2.2.2.2.2.2.2.2.2.2.2.2.2.2.2.2.2.2.2.2.2.2.2.2.2.2.2.2.2.2.2.2.2.2.2.2.2.2.2.2.2.2.2.2.2.2.2.2.1⟩, x.2.2.2.2.2.2.2.2.2.2.2.2.2.2.2.2.2.2.2.2.2.2.2.2.2.2.2.2.2.2.2.2.2.2.2.2.2.2.2.2.2.2.2.2.2.2.2.2.2.2.2.2.1, x.2.2.2.2.2.2.2.2.2.2.2.2.2.2.2.2.2.2.2.2.2.2.2.2.2.2.2.2.2.2.2.2.2.2.2.2.2.2.2.2.2.2.2.2.2.2.2.2.2.2.2.2.2.1, ⟨x.2.2.2.2.2.2.2.2.2.2.2.2.2.2.2.2.2.2.2.2.2.2.2.2.2.2.2.2.2.2.2.2.2.2.2.2.2.2.2.2.2.2.2.2.2.2.2.2.2.2.2.2.2.2.1, x.2.2.2.2.2.2.2.2.2.2.2.2.2.2.2.2.2.2.2.2.2.2.2.2.2.2.2.2.2.2.2.2.2.2.2.2.2.2.2.2.2.2.2.2.2.2.2.2.2.2.2.2.2.2.2.1⟩⟩⟩
  | 16 => fun x => ⟨x.1, x.2.1⟩
  | _+17 => fun _ => ()
theorem pck_unp : ∀ n x, pck n (unp n x) = x
  | 0 => fun _ => rfl
  | 1 => fun _ => rfl
  | 2 => fun _ => rfl
  | 3 => fun _ => rfl
  | 4 => fun _ => rfl
  | 5 => fun _ => rfl
  | 6 => fun _ => rfl
  | 7 => fun _ => rfl
  | 8 => fun _ => rfl
  | 9 => fun _ => rfl
  | 10 => fun _ => rfl
  | 11 => fun _ => rfl
  | 12 => fun _ => rfl
  | 13 => fun _ => rfl
  | 14 => fun _ => rfl
  | 15 => fun _ => rfl
  | 16 => fun _ => rfl
  | _+17 => fun _ => rfl
theorem unp_pck : ∀ n h, unp n (pck n h) = h
  | 0 => fun _ => rfl
  | 1 => fun _ => rfl
  | 2 => fun _ => rfl
  | 3 => fun _ => rfl
  | 4 => fun _ => rfl
  | 5 => fun _ => rfl
  | 6 => fun _ => rfl
  | 7 => fun _ => rfl
  | 8 => fun _ => rfl
  | 9 => fun _ => rfl
  | 10 => fun _ => rfl
  | 11 => fun _ => rfl
  | 12 => fun _ => rfl
  | 13 => fun _ => rfl
  | 14 => fun _ => rfl
  | 15 => fun _ => rfl
  | 16 => fun _ => rfl
  | _+17 => fun _ => rfl
theorem lvs_leaf : ∀ n, (lvs n).all (fun t => match t with | .named _ => false | .arr _ _ => false | _ => true) = true
  | 0 => rfl
  | 1 => rfl
  | 2 => rfl
  | 3 => rfl
  | 4 => rfl
  | 5 => rfl
  | 6 => rfl
  | 7 => rfl
  | 8 => rfl
  | 9 => rfl
  | 10 => rfl
  | 11 => rfl
  | 12 => rfl
  | 13 => rfl
  | 14 => rfl
  | 15 => rfl
  | 16 => rfl
  | _+17 => rfl
def E : Types where
  T := TT
  leaves := lvs
  unpack := unp
  pack := pck
  pu := pck_unp
  up := unp_pck
  lf := lvs_leaf
noncomputable def tab : List (Nat × TI) := [
  (2, { size := 1, agg := false, fields := [], elem := 0, alen := 0, ty := some (.int .i64), zero := [.int .i64], bytes := 8, sl := false, fk := false, cmp := false, mp := false }),
  (3, { size := 1, agg := false, fields := [], elem := 0, alen := 0, ty := some (.int .i64), zero := [.int .i64], bytes := 8, sl := false, fk := false, cmp := false, mp := false }),
  (4, { size := 1, agg := false, fields := [], elem := 0, alen := 0, ty := some .bool, zero := [.bool], bytes := 1, sl := false, fk := false, cmp := false, mp := false }),
  (5, { size := 1, agg := false, fields := [], elem := 0, alen := 0, ty := some (.int .u8), zero := [.int .u8], bytes := 1, sl := false, fk := false, cmp := false, mp := false }),
  (22, { size := 1, agg := false, fields := [], elem := 5, alen := 0, ty := some (.slice (.int .u8)), zero := [.slice], bytes := 24, sl := true, fk := false, cmp := false, mp := false }),
  (24, { size := 3, agg := true, fields := [(0, 5), (1, 5), (2, 5)], elem := 0, alen := 0, ty := some (.named 0), zero := [.int .u8, .int .u8, .int .u8], bytes := 3, sl := false, fk := false, cmp := true, mp := false }),
  (26, { size := 1, agg := false, fields := [], elem := 40, alen := 0, ty := some (.slice (.slice (.int .i64))), zero := [.slice], bytes := 24, sl := true, fk := false, cmp := false, mp := false }),
  (28, { size := 2, agg := true, fields := [(0, 3), (1, 26)], elem := 0, alen := 0, ty := some (.named 3), zero := [.int .i64, .slice], bytes := 32, sl := false, fk := false, cmp := false, mp := false }),
  (29, { size := 1, agg := false, fields := [], elem := 0, alen := 0, ty := some (.int .u64), zero := [.int .u64], bytes := 8, sl := false, fk := false, cmp := false, mp := false }),
  (30, { size := 1, agg := false, fields := [], elem := 0, alen := 0, ty := some (.int .u64), zero := [.int .u64], bytes := 8, sl := false, fk := false, cmp := false, mp := false }),
  (31, { size := 1, agg := false, fields := [], elem := 112, alen := 0, ty := some (.slice (.slice (.named 1))), zero := [.slice], bytes := 24, sl := true, fk := false, cmp := false, mp := false }),
  (32, { size := 1, agg := false, fields := [], elem := 230, alen := 0, ty := some (.slice (.named 2)), zero := [.slice], bytes := 24, sl := true, fk := false, cmp := false, mp := false }),
  (34, { size := 14, agg := true, fields := [(0, 3), (1, 3), (2, 3), (3, 3), (4, 3), (5, 3), (6, 2), (7, 2), (8, 28), (10, 30), (11, 26), (12, 31), (13, 32)], elem := 0, alen := 0, ty := some (.named 4), zero := [.int .i64, .int .i64, .int .i64, .int .i64, .int .i64, .int .i64, .int .i64, .int .i64, .int .i64, .slice, .int .u64, .slice, .slice, .slice], bytes := 176, sl := false, fk := false, cmp := false, mp := false }),
  (37, { size := 1, agg := false, fields := [], elem := 29, alen := 0, ty := some (.slice (.int .u64)), zero := [.slice], bytes := 24, sl := true, fk := false, cmp := false, mp := false }),
  (39, { size := 2, agg := true, fields := [(0, 30), (1, 30)], elem := 0, alen := 0, ty := some (.named 11), zero := [.int .u64, .int .u64], bytes := 16, sl := false, fk := false, cmp := true, mp := false }),
  (40, { size := 1, agg := false, fields := [], elem := 3, alen := 0, ty := some (.slice (.int .i64)), zero := [.slice], bytes := 24, sl := true, fk := false, cmp := false, mp := false }),
  (41, { size := 1, agg := false, fields := [], elem := 2, alen := 0, ty := some (.slice (.int .i64)), zero := [.slice], bytes := 24, sl := true, fk := false, cmp := false, mp := false }),
  (43, { size := 4, agg := true, fields := [(0, 2), (1, 2), (2, 2), (3, 41)], elem := 0, alen := 0, ty := some (.named 5), zero := [.int .i64, .int .i64, .int .i64, .slice], bytes := 48, sl := false, fk := false, cmp := false, mp := false }),
  (44, { size := 1, agg := false, fields := [], elem := 124, alen := 0, ty := some (.slice (.named 9)), zero := [.slice], bytes := 24, sl := true, fk := false, cmp := false, mp := false }),
  (45, { size := 1, agg := false, fields := [], elem := 131, alen := 0, ty := some (.slice (.named 10)), zero := [.slice], bytes := 24, sl := true, fk := false, cmp := false, mp := false }),
  (47, { size := 2, agg := true, fields := [(0, 3), (1, 3)], elem := 0, alen := 0, ty := some (.named 12), zero := [.int .i64, .int .i64], bytes := 16, sl := false, fk := false, cmp := true, mp := false }),
  (49, { size := 34, agg := true, fields := [(0, 34), (14, 28), (16, 37), (17, 26), (18, 39), (20, 3), (21, 3), (22, 4), (23, 4), (24, 3), (25, 40), (26, 43), (30, 44), (31, 45), (32, 47)], elem := 0, alen := 0, ty := some (.named 14), zero := [.int .i64, .int .i64, .int .i64, .int .i64, .int .i64, .int .i64, .int .i64, .int .i64, .int .i64, .slice, .int .u64, .slice, .slice, .slice, .int .i64, .slice, .slice, .slice, .int .u64, .int .u64, .int .i64, .int .i64, .bool, .bool, .int .i64, .slice, .int .i64, .int .i64, .int .i64, .slice, .slice, .slice, .int .i64, .int .i64], bytes := 440, sl := false, fk := false, cmp := false, mp := false }),
  (52, { size := 8, agg := true, fields := [(0, 3), (1, 3), (2, 3), (3, 3), (4, 29), (5, 29), (6, 3), (7, 3)], elem := 0, alen := 0, ty := some (.named 6), zero := [.int .i64, .int .i64, .int .i64, .int .i64, .int .u64, .int .u64, .int .i64, .int .i64], bytes := 64, sl := false, fk := false, cmp := true, mp := false }),
  (54, { size := 8, agg := true, fields := [(0, 3), (1, 3), (2, 3), (3, 3), (4, 29), (5, 3), (6, 3), (7, 3)], elem := 0, alen := 0, ty := some (.named 7), zero := [.int .i64, .int .i64, .int .i64, .int .i64, .int .u64, .int .i64, .int .i64, .int .i64], bytes := 64, sl := false, fk := false, cmp := true, mp := false }),
  (56, { size := 22, agg := true, fields := [(0, 3), (1, 3), (2, 3), (3, 3), (4, 52), (12, 54), (20, 3), (21, 3)], elem := 0, alen := 0, ty := some (.named 8), zero := [.int .i64, .int .i64, .int .i64, .int .i64, .int .i64, .int .i64, .int .i64, .int .i64, .int .u64, .int .u64, .int .i64, .int .i64, .int .i64, .int .i64, .int .i64, .int .i64, .int .u64, .int .i64, .int .i64, .int .i64, .int .i64, .int .i64], bytes := 176, sl := false, fk := false, cmp := true, mp := false }),
  (58, { size := 1, agg := false, fields := [], elem := 56, alen := 0, ty := some (.slice (.named 8)), zero := [.slice], bytes := 24, sl := true, fk := false, cmp := false, mp := false }),
  (110, { size := 2, agg := true, fields := [(0, 22), (1, 3)], elem := 0, alen := 0, ty := some (.named 16), zero := [.slice, .int .i64], bytes := 32, sl := false, fk := false, cmp := false, mp := false }),
  (112, { size := 1, agg := false, fields := [], elem := 114, alen := 0, ty := some (.slice (.named 1)), zero := [.slice], bytes := 24, sl := true, fk := false, cmp := false, mp := false }),
  (114, { size := 4, agg := true, fields := [(0, 3), (1, 3), (2, 3), (3, 3)], elem := 0, alen := 0, ty := some (.named 1), zero := [.int .i64, .int .i64, .int .i64, .int .i64], bytes := 32, sl := false, fk := false, cmp := true, mp := false }),
  (124, { size := 44, agg := true, fields := [(0, 3), (1, 3), (2, 3), (3, 3), (4, 3), (5, 40), (6, 52), (14, 54), (22, 56)], elem := 0, alen := 0, ty := some (.named 9), zero := [.int .i64, .int .i64, .int .i64, .int .i64, .int .i64, .slice, .int .i64, .int .i64, .int .i64, .int .i64, .int .u64, .int .u64, .int .i64, .int .i64, .int .i64, .int .i64, .int .i64, .int .i64, .int .u64, .int .i64, .int .i64, .int .i64, .int .i64, .int .i64, .int .i64, .int .i64, .int .i64, .int .i64, .int .i64, .int .i64, .int .u64, .int .u64, .int .i64, .int .i64, .int .i64, .int .i64, .int .i64, .int .i64, .int .u64, .int .i64, .int .i64, .int .i64, .int .i64, .int .i64], bytes := 368, sl := false, fk := false, cmp := false, mp := false }),
  (131, { size := 41, agg := true, fields := [(0, 3), (1, 3), (2, 3), (3, 3), (4, 3), (5, 3), (6, 3), (7, 3), (8, 40), (9, 40), (10, 40), (11, 54), (19, 56)], elem := 0, alen := 0, ty := some (.named 10), zero := [.int .i64, .int .i64, .int .i64, .int .i64, .int .i64, .int .i64, .int .i64, .int .i64, .slice, .slice, .slice, .int .i64, .int .i64, .int .i64, .int .i64, .int .u64, .int .i64, .int .i64, .int .i64, .int .i64, .int .i64, .int .i64, .int .i64, .int .i64, .int .i64, .int .i64, .int .i64, .int .u64, .int .u64, .int .i64, .int .i64, .int .i64, .int .i64, .int .i64, .int .i64, .int .u64, .int .i64, .int .i64, .int .i64, .int .i64, .int .i64], bytes := 376, sl := false, fk := false, cmp := false, mp := false }),
  (144, { size := 1, agg := false, fields := [], elem := 0, alen := 0, ty := none, zero := [.func], bytes := 8, sl := false, fk := true, cmp := false, mp := false }),
  (146, { size := 8, agg := true, fields := [], elem := 144, alen := 8, ty := none, zero := [.func, .func, .func, .func, .func, .func, .func, .func], bytes := 64, sl := false, fk := false, cmp := false, mp := false }),
  (148, { size := 56, agg := true, fields := [(0, 56), (22, 49)], elem := 0, alen := 0, ty := some (.named 15), zero := [.int .i64, .int .i64, .int .i64, .int .i64, .int .i64, .int .i64, .int .i64, .int .i64, .int .u64, .int .u64, .int .i64, .int .i64, .int .i64, .int .i64, .int .i64, .int .i64, .int .u64, .int .i64, .int .i64, .int .i64, .int .i64, .int .i64, .int .i64, .int .i64, .int .i64, .int .i64, .int .i64, .int .i64, .int .i64, .int .i64, .int .i64, .slice, .int .u64, .slice, .slice, .slice, .int .i64, .slice, .slice, .slice, .int .u64, .int .u64, .int .i64, .int .i64, .bool, .bool, .int .i64, .slice, .int .i64, .int .i64, .int .i64, .slice, .slice, .slice, .int .i64, .int .i64], bytes := 616, sl := false, fk := false, cmp := false, mp := false }),
  (223, { size := 4, agg := true, fields := [(0, 3), (1, 3), (2, 29), (3, 29)], elem := 0, alen := 0, ty := some (.named 13), zero := [.int .i64, .int .i64, .int .u64, .int .u64], bytes := 32, sl := false, fk := false, cmp := true, mp := false }),
  (230, { size := 2, agg := true, fields := [(0, 3), (1, 3)], elem := 0, alen := 0, ty := some (.named 2), zero := [.int .i64, .int .i64], bytes := 16, sl := false, fk := false, cmp := true, mp := false }),
  (241, { size := 1, agg := false, fields := [], elem := 3, alen := 0, ty := none, zero := [.map], bytes := 8, sl := false, fk := false, cmp := false, mp := true }),
  (244, { size := 1, agg := false, fields := [], elem := 246, alen := 0, ty := none, zero := [.slice], bytes := 24, sl := true, fk := false, cmp := false, mp := false }),
  (246, { size := 1, agg := false, fields := [], elem := 0, alen := 0, ty := none, zero := [.func], bytes := 8, sl := false, fk := true, cmp := false, mp := false }),
  (247, { size := 1, agg := false, fields := [], elem := 0, alen := 0, ty := none, zero := [.func], bytes := 8, sl := false, fk := true, cmp := false, mp := false }),
  (248, { size := 3, agg := true, fields := [], elem := 247, alen := 3, ty := none, zero := [.func, .func, .func], bytes := 24, sl := false, fk := false, cmp := false, mp := false }),
  (255, { size := 1, agg := false, fields := [], elem := 0, alen := 0, ty := none, zero := [.func], bytes := 8, sl := false, fk := true, cmp := false, mp := false }),
  (256, { size := 1, agg := false, fields := [], elem := 255, alen := 0, ty := none, zero := [.map], bytes := 8, sl := false, fk := false, cmp := false, mp := true })]
theorem tab_ok : tabB E.leaves Go.Proofs.Tryz.prog tab = true := by kernel_rfl
theorem mixed : (Go.Proofs.Tryz.prog).follows .mixedOrders = true := by kernel_rfl
end Go.Pe.G
namespace Go.Pe.G
open Go.Pe
/-- The given variable lies as it was laid. -/
def Glob (G : Nat → Prop) (W0 : World) : Prop := G 0 ∧ Go.Proofs.TabAt 0 Go.Lib.deBruijn64tab W0
noncomputable def tz (x : BitVec 64) : Int := ((Go.Lib.ctz 64 x.toNat : Nat) : Int)
noncomputable def pTZ : Spec E := { inn := ⟨[.val (.int .u64)], []⟩, out := ⟨[.val (.int .i64)], []⟩, gi := grp [.one (.int .u64)] rfl, go := grp [.one (.int .i64)] rfl, F := fun x => some (tz x.1, ()) }
noncomputable def qTZ (a : BitVec 64) : Option (Int × Unit) := pTZ.F (a, ())
theorem qTZ_eq (a : BitVec 64) : qTZ a = some (tz a, ()) := rfl
theorem call160 : callable Go.Proofs.Tryz.prog 160 = true := by kernel_rfl

theorem pTZ_sound (G : Nat → Prop) (W0 : World) (hG : Glob G W0) : Sound Go.Proofs.Tryz.prog G W0 160 pTZ := by
  intro A0 μ w args x y wd S hr hy
  obtain ⟨hg, hT⟩ := hG
  have hw : w.heap[0]? = W0.heap[0]? := (wd.glob 0 hg).2
  have hx : ∃ v, args = #[v] ∧ RepT E w (Av A0 μ ([] : List (Blk E))) (.int .u64) v x.1 := by
    have hl := hr.1
    have hl : 1 = args.toList.length := hl
    match ha : args.toList, hl with
    | [v], _ =>
      have h1 := hr.2 0 (.v (.int .u64) x.1) v rfl (by rw [ha]; rfl)
      refine ⟨v, ?_, ?_⟩
      · rw [← Array.toArray_toList (xs := args), ha]
      · cases h1 with
        | v _ _ _ h => exact h
  obtain ⟨v, rfl, hv⟩ := hx
  cases hv with
  | int k z =>
  have hz : x.1.toNat < 18446744073709551616 := x.1.isLt
  have hk := Go.Proofs.Any7.bits_TrailingZeros64 Go.Proofs.laysTz x.1.toNat hz w (fun _ j hj => by
    have := hT j hj
    unfold World.cell? at this ⊢
    show _ = _
    have e0 : Go.Proofs.rhoTz.g 1 = 0 := rfl
    rw [e0]
    simp only [hw]
    exact this)
  have hy : some (tz x.1, ()) = some y := hy
  injection hy with hy
  subst hy
  refine hk.mono ?_
  rintro e w' ⟨rfl, rfl⟩
  refine ⟨[.int .i64 (tz x.1)], A0, μ, rfl, S, ?_, Adv.refl _ _, fun _ h => h, wd.low, fun j ws h => by simp [pTZ] at h⟩
  exact RL.cons (.v _ _ _ (.int .i64 (tz x.1))) RL.nil

/-- The bits of a set, one by one. -/
noncomputable def bitsAsc : Nat → BitVec 64 → Option (List Int)
  | 0, _ => none
  | f + 1, s => bif decide (s = 0#64) then some [] else (bitsAsc f (s &&& (s - 1#64))).map fun l => w64 (tz s + 1) :: l
def chunks (n : Nat) : Nat → List Int → List (List Int)
  | 0, _ => []
  | _ + 1, [] => []
  | f + 1, x :: l => (x :: l).take n :: chunks n f ((x :: l).drop n)
def chunksOf (l : List Int) (n : Int) : Option (List (List Int)) := bif decide (1 ≤ n) && decide (n < 1000000) && decide ((l.length : Int) < 1000000) then some (chunks n.toNat l.length l) else none
end Go.Pe.G
namespace Go.Pe.G
open Go.Pe
/-! math/bits.OnesCount64 -/
noncomputable def p_bits_OnesCount64_c : Cfg E := mkCfg Go.Proofs.Tryz.prog tab [] [] [] [] [] []
def p_bits_OnesCount64_i : Shape := ⟨[.val (.int .u64)], []⟩
def p_bits_OnesCount64_o : Shape := ⟨[.val (.int .i64)], []⟩
noncomputable def p_bits_OnesCount64 : Spec E := mkSpec p_bits_OnesCount64_c Go.Proofs.Tryz.f83 p_bits_OnesCount64_i p_bits_OnesCount64_o [.one (.int .u64)] [.one (.int .i64)] (by kernel_rfl) (by kernel_rfl)
noncomputable def q_bits_OnesCount64 (a1 : BitVec 64) : Option (Int × Unit) := p_bits_OnesCount64.F (a1, ())
/-! besom/set.Count -/
noncomputable def p_set_Count_c : Cfg E := mkCfg Go.Proofs.Tryz.prog tab [(83, [p_bits_OnesCount64])] [] [] [] [] []
def p_set_Count_i : Shape := ⟨[.val (.int .u64)], []⟩
def p_set_Count_o : Shape := ⟨[.val (.int .i64)], []⟩
noncomputable def p_set_Count : Spec E := mkSpec p_set_Count_c Go.Proofs.Tryz.f26 p_set_Count_i p_set_Count_o [.one (.int .u64)] [.one (.int .i64)] (by kernel_rfl) (by kernel_rfl)
noncomputable def q_set_Count (a1 : BitVec 64) : Option (Int × Unit) := p_set_Count.F (a1, ())
/-! besom/state.Deque -/
noncomputable def p_state_Deque_c : Cfg E := mkCfg Go.Proofs.Tryz.prog tab [] [] [] [] [] []
def p_state_Deque_i : Shape := ⟨[.val (.named 4), .val (.int .i64)], []⟩
def p_state_Deque_o : Shape := ⟨[.val (.int .i64)], []⟩
noncomputable def p_state_Deque : Spec E := mkSpec p_state_Deque_c Go.Proofs.Tryz.f33 p_state_Deque_i p_state_Deque_o [.one (.named 4), .one (.int .i64)] [.one (.int .i64)] (by kernel_rfl) (by kernel_rfl)
noncomputable def q_state_Deque (a1 : Splan_Plan) (a2 : Int) : Option (Int × Unit) := p_state_Deque.F (a1, a2, ())
/-! besom/state.Full -/
noncomputable def p_state_Full_c : Cfg E := mkCfg Go.Proofs.Tryz.prog tab [] [] [] [] [] []
def p_state_Full_i : Shape := ⟨[.val (.named 4)], []⟩
def p_state_Full_o : Shape := ⟨[.val (.int .i64)], []⟩
noncomputable def p_state_Full : Spec E := mkSpec p_state_Full_c Go.Proofs.Tryz.f35 p_state_Full_i p_state_Full_o [.one (.named 4)] [.one (.int .i64)] (by kernel_rfl) (by kernel_rfl)
noncomputable def q_state_Full (a1 : Splan_Plan) : Option (Int × Unit) := p_state_Full.F (a1, ())
/-! besom/state.Empty -/
noncomputable def p_state_Empty_c : Cfg E := mkCfg Go.Proofs.Tryz.prog tab [(35, [p_state_Full])] [] [] [] [] []
def p_state_Empty_i : Shape := ⟨[.val (.named 4)], []⟩
def p_state_Empty_o : Shape := ⟨[.val (.int .i64)], []⟩
noncomputable def p_state_Empty : Spec E := mkSpec p_state_Empty_c Go.Proofs.Tryz.f53 p_state_Empty_i p_state_Empty_o [.one (.named 4)] [.one (.int .i64)] (by kernel_rfl) (by kernel_rfl)
noncomputable def q_state_Empty (a1 : Splan_Plan) : Option (Int × Unit) := p_state_Empty.F (a1, ())
/-! besom/state.Next -/
noncomputable def p_state_Next_c : Cfg E := mkCfg Go.Proofs.Tryz.prog tab [(53, [p_state_Empty])] [] [] [] [] []
def p_state_Next_i : Shape := ⟨[.val (.named 4)], []⟩
def p_state_Next_o : Shape := ⟨[.val (.int .i64)], []⟩
noncomputable def p_state_Next : Spec E := mkSpec p_state_Next_c Go.Proofs.Tryz.f36 p_state_Next_i p_state_Next_o [.one (.named 4)] [.one (.int .i64)] (by kernel_rfl) (by kernel_rfl)
noncomputable def q_state_Next (a1 : Splan_Plan) : Option (Int × Unit) := p_state_Next.F (a1, ())
/-! besom/plan.within -/
noncomputable def p_plan_within_c : Cfg E := mkCfg Go.Proofs.Tryz.prog tab [] [] [] [] [] []
def p_plan_within_i : Shape := ⟨[.val (.int .i64), .val (.int .i64), .val (.int .i64)], []⟩
def p_plan_within_o : Shape := ⟨[.val .bool], []⟩
noncomputable def p_plan_within : Spec E := mkSpec p_plan_within_c Go.Proofs.Tryz.f107 p_plan_within_i p_plan_within_o [.one (.int .i64), .one (.int .i64), .one (.int .i64)] [.one .bool] (by kernel_rfl) (by kernel_rfl)
noncomputable def q_plan_within (a1 : Int) (a2 : Int) (a3 : Int) : Option (Bool × Unit) := p_plan_within.F (a1, a2, a3, ())
/-! (besom/plan.Plan).sized -/
noncomputable def p_plan_Plan_sized_c : Cfg E := mkCfg Go.Proofs.Tryz.prog tab [(107, [p_plan_within])] [] [] [] [] []
def p_plan_Plan_sized_i : Shape := ⟨[.val (.named 4)], []⟩
def p_plan_Plan_sized_o : Shape := ⟨[.val .bool], []⟩
noncomputable def p_plan_Plan_sized : Spec E := mkSpec p_plan_Plan_sized_c Go.Proofs.Tryz.f105 p_plan_Plan_sized_i p_plan_Plan_sized_o [.one (.named 4)] [.one .bool] (by kernel_rfl) (by kernel_rfl)
noncomputable def q_plan_Plan_sized (a1 : Splan_Plan) : Option (Bool × Unit) := p_plan_Plan_sized.F (a1, ())
/-! besom/heap.Right_1_1 -/
noncomputable def p_heap_RightF1F1_c : Cfg E := mkCfg Go.Proofs.Tryz.prog tab [] [] [] [] [] []
def p_heap_RightF1F1_i : Shape := ⟨[.val (.int .i64), .ptr 0], [.box false [.val (.int .i64), .val (.slice (.slice (.int .i64)))]]⟩
def p_heap_RightF1F1_o : Shape := ⟨[.val .bool], [.gone]⟩
noncomputable def p_heap_RightF1F1 : Spec E := mkSpec p_heap_RightF1F1_c Go.Proofs.Tryz.f150 p_heap_RightF1F1_i p_heap_RightF1F1_o [.one (.int .i64), .str 3] [.one .bool] (by kernel_rfl) (by kernel_rfl)
noncomputable def q_heap_RightF1F1 (a1 : Int) (a2 : Sheap_Heap) : Option (Bool × Unit) := p_heap_RightF1F1.F (a1, a2, ())
/-! slices.IndexFunc[[]int,int] -/
noncomputable def p_slices_IndexFunc_Lint_int_l2 : LoopSpec E := { slots := [0, 1, 7, 8], inn := ⟨[.val (.slice (.int .i64)), .fn 150 [.ptr 1], .val (.int .i64), .val (.int .i64)], [.gone, .box false [.val (.int .i64), .val (.slice (.slice (.int .i64)))]]⟩, brkId := 0, bslots := [], brk := ⟨[], [.gone]⟩, rslots := [4], ret := ⟨[.val (.int .i64)], [.gone]⟩, gi := grp [.one (.slice (.int .i64)), .one (.int .i64), .one (.int .i64), .str 3] (by kernel_rfl), gb := grp [] (by kernel_rfl), gr := grp [.one (.int .i64)] (by kernel_rfl) }
noncomputable def p_slices_IndexFunc_Lint_int_c : Cfg E := mkCfg Go.Proofs.Tryz.prog tab [(150, [p_heap_RightF1F1])] [(2, p_slices_IndexFunc_Lint_int_l2)] [] [] [] []
def p_slices_IndexFunc_Lint_int_i : Shape := ⟨[.val (.slice (.int .i64)), .fn 150 [.ptr 0]], [.box false [.val (.int .i64), .val (.slice (.slice (.int .i64)))]]⟩
def p_slices_IndexFunc_Lint_int_o : Shape := ⟨[.val (.int .i64)], [.gone]⟩
noncomputable def p_slices_IndexFunc_Lint_int : Spec E := mkSpec p_slices_IndexFunc_Lint_int_c Go.Proofs.Tryz.f152 p_slices_IndexFunc_Lint_int_i p_slices_IndexFunc_Lint_int_o [.one (.slice (.int .i64)), .str 3] [.one (.int .i64)] (by kernel_rfl) (by kernel_rfl)
noncomputable def q_slices_IndexFunc_Lint_int (a1 : List Int) (a2 : Sheap_Heap) : Option (Int × Unit) := p_slices_IndexFunc_Lint_int.F (a1, a2, ())
noncomputable def p_slices_IndexFunc_Lint_int_r2 (x : (List Int) × Int × Int × Sheap_Heap × Unit) : Option (Stop ((List Int) × Int × Int × Sheap_Heap × Unit) (Unit) (Int × Unit)) := roundBy p_slices_IndexFunc_Lint_int_c (exec p_slices_IndexFunc_Lint_int_c (loopAt Go.Proofs.Tryz.f152 2)) 19 p_slices_IndexFunc_Lint_int_l2 x
/-! slices.ContainsFunc[[]int,int] -/
noncomputable def p_slices_ContainsFunc_Lint_int_c : Cfg E := mkCfg Go.Proofs.Tryz.prog tab [(152, [p_slices_IndexFunc_Lint_int])] [] [] [] [] []
def p_slices_ContainsFunc_Lint_int_i : Shape := ⟨[.val (.slice (.int .i64)), .fn 150 [.ptr 0]], [.box false [.val (.int .i64), .val (.slice (.slice (.int .i64)))]]⟩
def p_slices_ContainsFunc_Lint_int_o : Shape := ⟨[.val .bool], [.gone]⟩
noncomputable def p_slices_ContainsFunc_Lint_int : Spec E := mkSpec p_slices_ContainsFunc_Lint_int_c Go.Proofs.Tryz.f110 p_slices_ContainsFunc_Lint_int_i p_slices_ContainsFunc_Lint_int_o [.one (.slice (.int .i64)), .str 3] [.one .bool] (by kernel_rfl) (by kernel_rfl)
noncomputable def q_slices_ContainsFunc_Lint_int (a1 : List Int) (a2 : Sheap_Heap) : Option (Bool × Unit) := p_slices_ContainsFunc_Lint_int.F (a1, a2, ())
/-! besom/heap.Right_1 -/
noncomputable def p_heap_RightF1_c : Cfg E := mkCfg Go.Proofs.Tryz.prog tab [(110, [p_slices_ContainsFunc_Lint_int])] [] [] [] [] []
def p_heap_RightF1_i : Shape := ⟨[.val (.slice (.int .i64)), .ptr 0], [.box false [.val (.int .i64), .val (.slice (.slice (.int .i64)))]]⟩
def p_heap_RightF1_o : Shape := ⟨[.val .bool], [.gone]⟩
noncomputable def p_heap_RightF1 : Spec E := mkSpec p_heap_RightF1_c Go.Proofs.Tryz.f149 p_heap_RightF1_i p_heap_RightF1_o [.one (.slice (.int .i64)), .str 3] [.one .bool] (by kernel_rfl) (by kernel_rfl)
noncomputable def q_heap_RightF1 (a1 : List Int) (a2 : Sheap_Heap) : Option (Bool × Unit) := p_heap_RightF1.F (a1, a2, ())
/-! slices.IndexFunc[[][]int,[]int] -/
noncomputable def p_slices_IndexFunc_LLint_Lint_l2 : LoopSpec E := { slots := [0, 1, 7, 8], inn := ⟨[.val (.slice (.slice (.int .i64))), .fn 149 [.ptr 1], .val (.int .i64), .val (.int .i64)], [.gone, .box false [.val (.int .i64), .val (.slice (.slice (.int .i64)))]]⟩, brkId := 0, bslots := [], brk := ⟨[], [.gone]⟩, rslots := [4], ret := ⟨[.val (.int .i64)], [.gone]⟩, gi := grp [.one (.slice (.slice (.int .i64))), .one (.int .i64), .one (.int .i64), .str 3] (by kernel_rfl), gb := grp [] (by kernel_rfl), gr := grp [.one (.int .i64)] (by kernel_rfl) }
noncomputable def p_slices_IndexFunc_LLint_Lint_c : Cfg E := mkCfg Go.Proofs.Tryz.prog tab [(149, [p_heap_RightF1])] [(2, p_slices_IndexFunc_LLint_Lint_l2)] [] [] [] []
def p_slices_IndexFunc_LLint_Lint_i : Shape := ⟨[.val (.slice (.slice (.int .i64))), .fn 149 [.ptr 0]], [.box false [.val (.int .i64), .val (.slice (.slice (.int .i64)))]]⟩
def p_slices_IndexFunc_LLint_Lint_o : Shape := ⟨[.val (.int .i64)], [.gone]⟩
noncomputable def p_slices_IndexFunc_LLint_Lint : Spec E := mkSpec p_slices_IndexFunc_LLint_Lint_c Go.Proofs.Tryz.f179 p_slices_IndexFunc_LLint_Lint_i p_slices_IndexFunc_LLint_Lint_o [.one (.slice (.slice (.int .i64))), .str 3] [.one (.int .i64)] (by kernel_rfl) (by kernel_rfl)
noncomputable def q_slices_IndexFunc_LLint_Lint (a1 : List (List Int)) (a2 : Sheap_Heap) : Option (Int × Unit) := p_slices_IndexFunc_LLint_Lint.F (a1, a2, ())
noncomputable def p_slices_IndexFunc_LLint_Lint_r2 (x : (List (List Int)) × Int × Int × Sheap_Heap × Unit) : Option (Stop ((List (List Int)) × Int × Int × Sheap_Heap × Unit) (Unit) (Int × Unit)) := roundBy p_slices_IndexFunc_LLint_Lint_c (exec p_slices_IndexFunc_LLint_Lint_c (loopAt Go.Proofs.Tryz.f179 2)) 19 p_slices_IndexFunc_LLint_Lint_l2 x
/-! slices.ContainsFunc[[][]int,[]int] -/
noncomputable def p_slices_ContainsFunc_LLint_Lint_c : Cfg E := mkCfg Go.Proofs.Tryz.prog tab [(179, [p_slices_IndexFunc_LLint_Lint])] [] [] [] [] []
def p_slices_ContainsFunc_LLint_Lint_i : Shape := ⟨[.val (.slice (.slice (.int .i64))), .fn 149 [.ptr 0]], [.box false [.val (.int .i64), .val (.slice (.slice (.int .i64)))]]⟩
def p_slices_ContainsFunc_LLint_Lint_o : Shape := ⟨[.val .bool], [.gone]⟩
noncomputable def p_slices_ContainsFunc_LLint_Lint : Spec E := mkSpec p_slices_ContainsFunc_LLint_Lint_c Go.Proofs.Tryz.f151 p_slices_ContainsFunc_LLint_Lint_i p_slices_ContainsFunc_LLint_Lint_o [.one (.slice (.slice (.int .i64))), .str 3] [.one .bool] (by kernel_rfl) (by kernel_rfl)
noncomputable def q_slices_ContainsFunc_LLint_Lint (a1 : List (List Int)) (a2 : Sheap_Heap) : Option (Bool × Unit) := p_slices_ContainsFunc_LLint_Lint.F (a1, a2, ())
/-! besom/heap.Right -/
noncomputable def p_heap_Right_c : Cfg E := mkCfg Go.Proofs.Tryz.prog tab [(151, [p_slices_ContainsFunc_LLint_Lint])] [] [] [] [] []
def p_heap_Right_i : Shape := ⟨[.val (.named 3)], []⟩
def p_heap_Right_o : Shape := ⟨[.val .bool], []⟩
noncomputable def p_heap_Right : Spec E := mkSpec p_heap_Right_c Go.Proofs.Tryz.f106 p_heap_Right_i p_heap_Right_o [.one (.named 3)] [.one .bool] (by kernel_rfl) (by kernel_rfl)
noncomputable def q_heap_Right (a1 : Sheap_Heap) : Option (Bool × Unit) := p_heap_Right.F (a1, ())
/-! besom/set.Under -/
noncomputable def p_set_Under_c : Cfg E := mkCfg Go.Proofs.Tryz.prog tab [] [] [] [] [] []
def p_set_Under_i : Shape := ⟨[.val (.int .u64), .val (.int .u64)], []⟩
def p_set_Under_o : Shape := ⟨[.val .bool], []⟩
noncomputable def p_set_Under : Spec E := mkSpec p_set_Under_c Go.Proofs.Tryz.f108 p_set_Under_i p_set_Under_o [.one (.int .u64), .one (.int .u64)] [.one .bool] (by kernel_rfl) (by kernel_rfl)
noncomputable def q_set_Under (a1 : BitVec 64) (a2 : BitVec 64) : Option (Bool × Unit) := p_set_Under.F (a1, a2, ())
/-! besom/set.First -/
noncomputable def p_set_First_c : Cfg E := mkCfg Go.Proofs.Tryz.prog tab [] [] [] [] [] []
def p_set_First_i : Shape := ⟨[.val (.int .i64)], []⟩
def p_set_First_o : Shape := ⟨[.val (.int .u64)], []⟩
noncomputable def p_set_First : Spec E := mkSpec p_set_First_c Go.Proofs.Tryz.f109 p_set_First_i p_set_First_o [.one (.int .i64)] [.one (.int .u64)] (by kernel_rfl) (by kernel_rfl)
noncomputable def q_set_First (a1 : Int) : Option ((BitVec 64) × Unit) := p_set_First.F (a1, ())
/-! besom/plan.Right_1 -/
noncomputable def p_plan_RightF1_c : Cfg E := mkCfg Go.Proofs.Tryz.prog tab [(107, [p_plan_within])] [] [] [] [] []
def p_plan_RightF1_i : Shape := ⟨[.val (.int .i64), .ptr 0], [.box false [.val (.int .i64)]]⟩
def p_plan_RightF1_o : Shape := ⟨[.val .bool], [.gone]⟩
noncomputable def p_plan_RightF1 : Spec E := mkSpec p_plan_RightF1_c Go.Proofs.Tryz.f111 p_plan_RightF1_i p_plan_RightF1_o [.one (.int .i64), .one (.int .i64)] [.one .bool] (by kernel_rfl) (by kernel_rfl)
noncomputable def q_plan_RightF1 (a1 : Int) (a2 : Int) : Option (Bool × Unit) := p_plan_RightF1.F (a1, a2, ())
/-! slices.IndexFunc[[]int,int] -/
noncomputable def p_slices_IndexFunc_Lint_int_v1_l2 : LoopSpec E := { slots := [0, 1, 7, 8], inn := ⟨[.val (.slice (.int .i64)), .fn 111 [.ptr 1], .val (.int .i64), .val (.int .i64)], [.gone, .box false [.val (.int .i64)]]⟩, brkId := 0, bslots := [], brk := ⟨[], [.gone]⟩, rslots := [4], ret := ⟨[.val (.int .i64)], [.gone]⟩, gi := grp [.one (.slice (.int .i64)), .one (.int .i64), .one (.int .i64), .one (.int .i64)] (by kernel_rfl), gb := grp [] (by kernel_rfl), gr := grp [.one (.int .i64)] (by kernel_rfl) }
noncomputable def p_slices_IndexFunc_Lint_int_v1_c : Cfg E := mkCfg Go.Proofs.Tryz.prog tab [(111, [p_plan_RightF1])] [(2, p_slices_IndexFunc_Lint_int_v1_l2)] [] [] [] []
def p_slices_IndexFunc_Lint_int_v1_i : Shape := ⟨[.val (.slice (.int .i64)), .fn 111 [.ptr 0]], [.box false [.val (.int .i64)]]⟩
def p_slices_IndexFunc_Lint_int_v1_o : Shape := ⟨[.val (.int .i64)], [.gone]⟩
noncomputable def p_slices_IndexFunc_Lint_int_v1 : Spec E := mkSpec p_slices_IndexFunc_Lint_int_v1_c Go.Proofs.Tryz.f152 p_slices_IndexFunc_Lint_int_v1_i p_slices_IndexFunc_Lint_int_v1_o [.one (.slice (.int .i64)), .one (.int .i64)] [.one (.int .i64)] (by kernel_rfl) (by kernel_rfl)
noncomputable def q_slices_IndexFunc_Lint_int_v1 (a1 : List Int) (a2 : Int) : Option (Int × Unit) := p_slices_IndexFunc_Lint_int_v1.F (a1, a2, ())
noncomputable def p_slices_IndexFunc_Lint_int_v1_r2 (x : (List Int) × Int × Int × Int × Unit) : Option (Stop ((List Int) × Int × Int × Int × Unit) (Unit) (Int × Unit)) := roundBy p_slices_IndexFunc_Lint_int_v1_c (exec p_slices_IndexFunc_Lint_int_v1_c (loopAt Go.Proofs.Tryz.f152 2)) 19 p_slices_IndexFunc_Lint_int_v1_l2 x
/-! slices.ContainsFunc[[]int,int] -/
noncomputable def p_slices_ContainsFunc_Lint_int_v1_c : Cfg E := mkCfg Go.Proofs.Tryz.prog tab [(152, [p_slices_IndexFunc_Lint_int_v1])] [] [] [] [] []
def p_slices_ContainsFunc_Lint_int_v1_i : Shape := ⟨[.val (.slice (.int .i64)), .fn 111 [.ptr 0]], [.box false [.val (.int .i64)]]⟩
def p_slices_ContainsFunc_Lint_int_v1_o : Shape := ⟨[.val .bool], [.gone]⟩
noncomputable def p_slices_ContainsFunc_Lint_int_v1 : Spec E := mkSpec p_slices_ContainsFunc_Lint_int_v1_c Go.Proofs.Tryz.f110 p_slices_ContainsFunc_Lint_int_v1_i p_slices_ContainsFunc_Lint_int_v1_o [.one (.slice (.int .i64)), .one (.int .i64)] [.one .bool] (by kernel_rfl) (by kernel_rfl)
noncomputable def q_slices_ContainsFunc_Lint_int_v1 (a1 : List Int) (a2 : Int) : Option (Bool × Unit) := p_slices_ContainsFunc_Lint_int_v1.F (a1, a2, ())
/-! besom/code.Right_1 -/
noncomputable def p_code_RightF1_c : Cfg E := mkCfg Go.Proofs.Tryz.prog tab [] [] [] [] [] []
def p_code_RightF1_i : Shape := ⟨[.val (.int .i64), .ptr 0], [.box false [.val (.int .i64)]]⟩
def p_code_RightF1_o : Shape := ⟨[.val .bool], [.gone]⟩
noncomputable def p_code_RightF1 : Spec E := mkSpec p_code_RightF1_c Go.Proofs.Tryz.f181 p_code_RightF1_i p_code_RightF1_o [.one (.int .i64), .one (.int .i64)] [.one .bool] (by kernel_rfl) (by kernel_rfl)
noncomputable def q_code_RightF1 (a1 : Int) (a2 : Int) : Option (Bool × Unit) := p_code_RightF1.F (a1, a2, ())
/-! besom/code.Right -/
noncomputable def p_code_Right_c : Cfg E := mkCfg Go.Proofs.Tryz.prog tab [(181, [p_code_RightF1])] [] [] [] [] []
def p_code_Right_i : Shape := ⟨[.val (.named 1), .val (.int .i64), .val (.int .i64)], []⟩
def p_code_Right_o : Shape := ⟨[.val .bool], []⟩
noncomputable def p_code_Right : Spec E := mkSpec p_code_Right_c Go.Proofs.Tryz.f155 p_code_Right_i p_code_Right_o [.one (.named 1), .one (.int .i64), .one (.int .i64)] [.one .bool] (by kernel_rfl) (by kernel_rfl)
noncomputable def q_code_Right (a1 : Scode_Op) (a2 : Int) (a3 : Int) : Option (Bool × Unit) := p_code_Right.F (a1, a2, a3, ())
/-! besom/code.Fits_1 -/
noncomputable def p_code_FitsF1_c : Cfg E := mkCfg Go.Proofs.Tryz.prog tab [(155, [p_code_Right])] [] [] [] [] []
def p_code_FitsF1_i : Shape := ⟨[.val (.named 1), .ptr 0, .ptr 1], [.box false [.val (.int .i64)], .box false [.val (.int .i64)]]⟩
def p_code_FitsF1_o : Shape := ⟨[.val .bool], [.gone, .gone]⟩
noncomputable def p_code_FitsF1 : Spec E := mkSpec p_code_FitsF1_c Go.Proofs.Tryz.f154 p_code_FitsF1_i p_code_FitsF1_o [.one (.named 1), .one (.int .i64), .one (.int .i64)] [.one .bool] (by kernel_rfl) (by kernel_rfl)
noncomputable def q_code_FitsF1 (a1 : Scode_Op) (a2 : Int) (a3 : Int) : Option (Bool × Unit) := p_code_FitsF1.F (a1, a2, a3, ())
/-! slices.IndexFunc[[]besom/code.Op,besom/code.Op] -/
noncomputable def p_slices_IndexFunc_Lcode_Op_code_Op_l2 : LoopSpec E := { slots := [0, 1, 7, 8], inn := ⟨[.val (.slice (.named 1)), .fn 154 [.ptr 2, .ptr 3], .val (.int .i64), .val (.int .i64)], [.gone, .gone, .box false [.val (.int .i64)], .box false [.val (.int .i64)]]⟩, brkId := 0, bslots := [], brk := ⟨[], [.gone, .gone]⟩, rslots := [4], ret := ⟨[.val (.int .i64)], [.gone, .gone]⟩, gi := grp [.one (.slice (.named 1)), .one (.int .i64), .one (.int .i64), .one (.int .i64), .one (.int .i64)] (by kernel_rfl), gb := grp [] (by kernel_rfl), gr := grp [.one (.int .i64)] (by kernel_rfl) }
noncomputable def p_slices_IndexFunc_Lcode_Op_code_Op_c : Cfg E := mkCfg Go.Proofs.Tryz.prog tab [(154, [p_code_FitsF1])] [(2, p_slices_IndexFunc_Lcode_Op_code_Op_l2)] [] [] [] []
def p_slices_IndexFunc_Lcode_Op_code_Op_i : Shape := ⟨[.val (.slice (.named 1)), .fn 154 [.ptr 0, .ptr 1]], [.box false [.val (.int .i64)], .box false [.val (.int .i64)]]⟩
def p_slices_IndexFunc_Lcode_Op_code_Op_o : Shape := ⟨[.val (.int .i64)], [.gone, .gone]⟩
noncomputable def p_slices_IndexFunc_Lcode_Op_code_Op : Spec E := mkSpec p_slices_IndexFunc_Lcode_Op_code_Op_c Go.Proofs.Tryz.f180 p_slices_IndexFunc_Lcode_Op_code_Op_i p_slices_IndexFunc_Lcode_Op_code_Op_o [.one (.slice (.named 1)), .one (.int .i64), .one (.int .i64)] [.one (.int .i64)] (by kernel_rfl) (by kernel_rfl)
noncomputable def q_slices_IndexFunc_Lcode_Op_code_Op (a1 : List Scode_Op) (a2 : Int) (a3 : Int) : Option (Int × Unit) := p_slices_IndexFunc_Lcode_Op_code_Op.F (a1, a2, a3, ())
noncomputable def p_slices_IndexFunc_Lcode_Op_code_Op_r2 (x : (List Scode_Op) × Int × Int × Int × Int × Unit) : Option (Stop ((List Scode_Op) × Int × Int × Int × Int × Unit) (Unit) (Int × Unit)) := roundBy p_slices_IndexFunc_Lcode_Op_code_Op_c (exec p_slices_IndexFunc_Lcode_Op_code_Op_c (loopAt Go.Proofs.Tryz.f180 2)) 19 p_slices_IndexFunc_Lcode_Op_code_Op_l2 x
/-! slices.ContainsFunc[[]besom/code.Op,besom/code.Op] -/
noncomputable def p_slices_ContainsFunc_Lcode_Op_code_Op_c : Cfg E := mkCfg Go.Proofs.Tryz.prog tab [(180, [p_slices_IndexFunc_Lcode_Op_code_Op])] [] [] [] [] []
def p_slices_ContainsFunc_Lcode_Op_code_Op_i : Shape := ⟨[.val (.slice (.named 1)), .fn 154 [.ptr 0, .ptr 1]], [.box false [.val (.int .i64)], .box false [.val (.int .i64)]]⟩
def p_slices_ContainsFunc_Lcode_Op_code_Op_o : Shape := ⟨[.val .bool], [.gone, .gone]⟩
noncomputable def p_slices_ContainsFunc_Lcode_Op_code_Op : Spec E := mkSpec p_slices_ContainsFunc_Lcode_Op_code_Op_c Go.Proofs.Tryz.f153 p_slices_ContainsFunc_Lcode_Op_code_Op_i p_slices_ContainsFunc_Lcode_Op_code_Op_o [.one (.slice (.named 1)), .one (.int .i64), .one (.int .i64)] [.one .bool] (by kernel_rfl) (by kernel_rfl)
noncomputable def q_slices_ContainsFunc_Lcode_Op_code_Op (a1 : List Scode_Op) (a2 : Int) (a3 : Int) : Option (Bool × Unit) := p_slices_ContainsFunc_Lcode_Op_code_Op.F (a1, a2, a3, ())
/-! besom/code.Fits -/
noncomputable def p_code_Fits_c : Cfg E := mkCfg Go.Proofs.Tryz.prog tab [(153, [p_slices_ContainsFunc_Lcode_Op_code_Op])] [] [] [] [] []
def p_code_Fits_i : Shape := ⟨[.val (.slice (.named 1)), .val (.int .i64), .val (.int .i64)], []⟩
def p_code_Fits_o : Shape := ⟨[.val .bool], []⟩
noncomputable def p_code_Fits : Spec E := mkSpec p_code_Fits_c Go.Proofs.Tryz.f112 p_code_Fits_i p_code_Fits_o [.one (.slice (.named 1)), .one (.int .i64), .one (.int .i64)] [.one .bool] (by kernel_rfl) (by kernel_rfl)
noncomputable def q_code_Fits (a1 : List Scode_Op) (a2 : Int) (a3 : Int) : Option (Bool × Unit) := p_code_Fits.F (a1, a2, a3, ())
/-! besom/pick.Right -/
noncomputable def p_pick_Right_c : Cfg E := mkCfg Go.Proofs.Tryz.prog tab [] [] [] [] [] []
def p_pick_Right_i : Shape := ⟨[.val (.named 2)], []⟩
def p_pick_Right_o : Shape := ⟨[.val .bool], []⟩
noncomputable def p_pick_Right : Spec E := mkSpec p_pick_Right_c Go.Proofs.Tryz.f158 p_pick_Right_i p_pick_Right_o [.one (.named 2)] [.one .bool] (by kernel_rfl) (by kernel_rfl)
noncomputable def q_pick_Right (a1 : Spick_Pick) : Option (Bool × Unit) := p_pick_Right.F (a1, ())
/-! besom/pick.Known_1 -/
noncomputable def p_pick_KnownF1_c : Cfg E := mkCfg Go.Proofs.Tryz.prog tab [(158, [p_pick_Right])] [] [] [] [] []
def p_pick_KnownF1_i : Shape := ⟨[.val (.named 2), .ptr 0], [.box false [.map 1], .map [(1, .val (.int .i64)), (2, .val (.int .i64))]]⟩
def p_pick_KnownF1_o : Shape := ⟨[.val .bool], [.gone, .gone]⟩
noncomputable def p_pick_KnownF1 : Spec E := mkSpec p_pick_KnownF1_c Go.Proofs.Tryz.f157 p_pick_KnownF1_i p_pick_KnownF1_o [.one (.named 2), .one (.int .i64), .one (.int .i64)] [.one .bool] (by kernel_rfl) (by kernel_rfl)
noncomputable def q_pick_KnownF1 (a1 : Spick_Pick) (a2 : Int) (a3 : Int) : Option (Bool × Unit) := p_pick_KnownF1.F (a1, a2, a3, ())
/-! slices.IndexFunc[[]besom/pick.Pick,besom/pick.Pick] -/
noncomputable def p_slices_IndexFunc_Lpick_Pick_pick_Pick_l2 : LoopSpec E := { slots := [0, 1, 7, 8], inn := ⟨[.val (.slice (.named 2)), .fn 157 [.ptr 2], .val (.int .i64), .val (.int .i64)], [.gone, .gone, .box false [.map 3], .map [(1, .val (.int .i64)), (2, .val (.int .i64))]]⟩, brkId := 0, bslots := [], brk := ⟨[], [.gone, .gone]⟩, rslots := [4], ret := ⟨[.val (.int .i64)], [.gone, .gone]⟩, gi := grp [.one (.slice (.named 2)), .one (.int .i64), .one (.int .i64), .one (.int .i64), .one (.int .i64)] (by kernel_rfl), gb := grp [] (by kernel_rfl), gr := grp [.one (.int .i64)] (by kernel_rfl) }
noncomputable def p_slices_IndexFunc_Lpick_Pick_pick_Pick_c : Cfg E := mkCfg Go.Proofs.Tryz.prog tab [(157, [p_pick_KnownF1])] [(2, p_slices_IndexFunc_Lpick_Pick_pick_Pick_l2)] [] [] [] []
def p_slices_IndexFunc_Lpick_Pick_pick_Pick_i : Shape := ⟨[.val (.slice (.named 2)), .fn 157 [.ptr 0]], [.box false [.map 1], .map [(1, .val (.int .i64)), (2, .val (.int .i64))]]⟩
def p_slices_IndexFunc_Lpick_Pick_pick_Pick_o : Shape := ⟨[.val (.int .i64)], [.gone, .gone]⟩
noncomputable def p_slices_IndexFunc_Lpick_Pick_pick_Pick : Spec E := mkSpec p_slices_IndexFunc_Lpick_Pick_pick_Pick_c Go.Proofs.Tryz.f182 p_slices_IndexFunc_Lpick_Pick_pick_Pick_i p_slices_IndexFunc_Lpick_Pick_pick_Pick_o [.one (.slice (.named 2)), .one (.int .i64), .one (.int .i64)] [.one (.int .i64)] (by kernel_rfl) (by kernel_rfl)
noncomputable def q_slices_IndexFunc_Lpick_Pick_pick_Pick (a1 : List Spick_Pick) (a2 : Int) (a3 : Int) : Option (Int × Unit) := p_slices_IndexFunc_Lpick_Pick_pick_Pick.F (a1, a2, a3, ())
noncomputable def p_slices_IndexFunc_Lpick_Pick_pick_Pick_r2 (x : (List Spick_Pick) × Int × Int × Int × Int × Unit) : Option (Stop ((List Spick_Pick) × Int × Int × Int × Int × Unit) (Unit) (Int × Unit)) := roundBy p_slices_IndexFunc_Lpick_Pick_pick_Pick_c (exec p_slices_IndexFunc_Lpick_Pick_pick_Pick_c (loopAt Go.Proofs.Tryz.f182 2)) 19 p_slices_IndexFunc_Lpick_Pick_pick_Pick_l2 x
/-! slices.ContainsFunc[[]besom/pick.Pick,besom/pick.Pick] -/
noncomputable def p_slices_ContainsFunc_Lpick_Pick_pick_Pick_c : Cfg E := mkCfg Go.Proofs.Tryz.prog tab [(182, [p_slices_IndexFunc_Lpick_Pick_pick_Pick])] [] [] [] [] []
def p_slices_ContainsFunc_Lpick_Pick_pick_Pick_i : Shape := ⟨[.val (.slice (.named 2)), .fn 157 [.ptr 0]], [.box false [.map 1], .map [(1, .val (.int .i64)), (2, .val (.int .i64))]]⟩
def p_slices_ContainsFunc_Lpick_Pick_pick_Pick_o : Shape := ⟨[.val .bool], [.gone, .gone]⟩
noncomputable def p_slices_ContainsFunc_Lpick_Pick_pick_Pick : Spec E := mkSpec p_slices_ContainsFunc_Lpick_Pick_pick_Pick_c Go.Proofs.Tryz.f156 p_slices_ContainsFunc_Lpick_Pick_pick_Pick_i p_slices_ContainsFunc_Lpick_Pick_pick_Pick_o [.one (.slice (.named 2)), .one (.int .i64), .one (.int .i64)] [.one .bool] (by kernel_rfl) (by kernel_rfl)
noncomputable def q_slices_ContainsFunc_Lpick_Pick_pick_Pick (a1 : List Spick_Pick) (a2 : Int) (a3 : Int) : Option (Bool × Unit) := p_slices_ContainsFunc_Lpick_Pick_pick_Pick.F (a1, a2, a3, ())
/-! besom/pick.Known -/
noncomputable def p_pick_Known_c : Cfg E := mkCfg Go.Proofs.Tryz.prog tab [(156, [p_slices_ContainsFunc_Lpick_Pick_pick_Pick])] [] [] [] [] []
def p_pick_Known_i : Shape := ⟨[.val (.slice (.named 2)), .val (.int .i64), .val (.int .i64)], []⟩
def p_pick_Known_o : Shape := ⟨[.val .bool], []⟩
noncomputable def p_pick_Known : Spec E := mkSpec p_pick_Known_c Go.Proofs.Tryz.f113 p_pick_Known_i p_pick_Known_o [.one (.slice (.named 2)), .one (.int .i64), .one (.int .i64)] [.one .bool] (by kernel_rfl) (by kernel_rfl)
noncomputable def q_pick_Known (a1 : List Spick_Pick) (a2 : Int) (a3 : Int) : Option (Bool × Unit) := p_pick_Known.F (a1, a2, a3, ())
/-! besom/plan.Right -/
noncomputable def p_plan_Right_l5 : LoopSpec E := { slots := [1, 3, 51, 52, 53], inn := ⟨[.ptr 0, .ptr 1, .val (.slice (.slice (.int .i64))), .val (.int .i64), .val (.int .i64)], [.box true [.val (.int .i64), .val (.int .i64), .val (.int .i64), .val (.int .i64), .val (.int .i64), .val (.int .i64), .val (.int .i64), .val (.int .i64), .val (.int .i64), .val (.slice (.slice (.int .i64))), .val (.int .u64), .val (.slice (.slice (.int .i64))), .val (.slice (.slice (.named 1))), .val (.slice (.named 2))], .box true [.val (.int .i64)]]⟩, brkId := 0, bslots := [1], brk := ⟨[.ptr 0], [.box true [.val (.int .i64), .val (.int .i64), .val (.int .i64), .val (.int .i64), .val (.int .i64), .val (.int .i64), .val (.int .i64), .val (.int .i64), .val (.int .i64), .val (.slice (.slice (.int .i64))), .val (.int .u64), .val (.slice (.slice (.int .i64))), .val (.slice (.slice (.named 1))), .val (.slice (.named 2))]]⟩, rslots := [2], ret := ⟨[.val .bool], []⟩, gi := grp [.one (.slice (.slice (.int .i64))), .one (.int .i64), .one (.int .i64), .str 4, .one (.int .i64)] (by kernel_rfl), gb := grp [.str 4] (by kernel_rfl), gr := grp [.one .bool] (by kernel_rfl) }
noncomputable def p_plan_Right_c : Cfg E := mkCfg Go.Proofs.Tryz.prog tab [(105, [p_plan_Plan_sized]), (106, [p_heap_Right]), (107, [p_plan_within]), (108, [p_set_Under]), (109, [p_set_First]), (110, [p_slices_ContainsFunc_Lint_int_v1]), (112, [p_code_Fits]), (113, [p_pick_Known])] [(5, p_plan_Right_l5)] [] [] [] []
def p_plan_Right_i : Shape := ⟨[.val (.named 4)], []⟩
def p_plan_Right_o : Shape := ⟨[.val .bool], []⟩
noncomputable def p_plan_Right : Spec E := mkSpec p_plan_Right_c Go.Proofs.Tryz.f42 p_plan_Right_i p_plan_Right_o [.one (.named 4)] [.one .bool] (by kernel_rfl) (by kernel_rfl)
noncomputable def q_plan_Right (a1 : Splan_Plan) : Option (Bool × Unit) := p_plan_Right.F (a1, ())
noncomputable def p_plan_Right_r5 (x : (List (List Int)) × Int × Int × Splan_Plan × Int × Unit) : Option (Stop ((List (List Int)) × Int × Int × Splan_Plan × Int × Unit) (Splan_Plan × Unit) (Bool × Unit)) := roundBy p_plan_Right_c (exec p_plan_Right_c (loopAt Go.Proofs.Tryz.f42 5)) 95 p_plan_Right_l5 x
/-! besom/set.bit -/
noncomputable def p_set_bit_c : Cfg E := mkCfg Go.Proofs.Tryz.prog tab [] [] [] [] [] []
def p_set_bit_i : Shape := ⟨[.val (.int .i64)], []⟩
def p_set_bit_o : Shape := ⟨[.val (.int .u64)], []⟩
noncomputable def p_set_bit : Spec E := mkSpec p_set_bit_c Go.Proofs.Tryz.f84 p_set_bit_i p_set_bit_o [.one (.int .i64)] [.one (.int .u64)] (by kernel_rfl) (by kernel_rfl)
noncomputable def q_set_bit (a1 : Int) : Option ((BitVec 64) × Unit) := p_set_bit.F (a1, ())
/-! besom/set.Add -/
noncomputable def p_set_Add_c : Cfg E := mkCfg Go.Proofs.Tryz.prog tab [(84, [p_set_bit])] [] [] [] [] []
def p_set_Add_i : Shape := ⟨[.val (.int .u64), .val (.int .i64)], []⟩
def p_set_Add_o : Shape := ⟨[.val (.int .u64)], []⟩
noncomputable def p_set_Add : Spec E := mkSpec p_set_Add_c Go.Proofs.Tryz.f29 p_set_Add_i p_set_Add_o [.one (.int .u64), .one (.int .i64)] [.one (.int .u64)] (by kernel_rfl) (by kernel_rfl)
noncomputable def q_set_Add (a1 : BitVec 64) (a2 : Int) : Option ((BitVec 64) × Unit) := p_set_Add.F (a1, a2, ())
/-! besom/set.Of -/
noncomputable def p_set_Of_l3 : LoopSpec E := { slots := [3, 6, 7, 8], inn := ⟨[.val (.int .u64), .val (.slice (.int .i64)), .val (.int .i64), .val (.int .i64)], []⟩, brkId := 0, bslots := [3], brk := ⟨[.val (.int .u64)], []⟩, rslots := [], ret := ⟨[], []⟩, gi := grp [.one (.int .u64), .one (.slice (.int .i64)), .one (.int .i64), .one (.int .i64)] (by kernel_rfl), gb := grp [.one (.int .u64)] (by kernel_rfl), gr := grp [] (by kernel_rfl) }
noncomputable def p_set_Of_c : Cfg E := mkCfg Go.Proofs.Tryz.prog tab [(29, [p_set_Add])] [(3, p_set_Of_l3)] [] [] [] []
def p_set_Of_i : Shape := ⟨[.val (.slice (.int .i64))], []⟩
def p_set_Of_o : Shape := ⟨[.val (.int .u64)], []⟩
noncomputable def p_set_Of : Spec E := mkSpec p_set_Of_c Go.Proofs.Tryz.f94 p_set_Of_i p_set_Of_o [.one (.slice (.int .i64))] [.one (.int .u64)] (by kernel_rfl) (by kernel_rfl)
noncomputable def q_set_Of (a1 : List Int) : Option ((BitVec 64) × Unit) := p_set_Of.F (a1, ())
noncomputable def p_set_Of_r3 (x : (BitVec 64) × (List Int) × Int × Int × Unit) : Option (Stop ((BitVec 64) × (List Int) × Int × Int × Unit) ((BitVec 64) × Unit) (Unit)) := roundBy p_set_Of_c (exec p_set_Of_c (loopAt Go.Proofs.Tryz.f94 3)) 17 p_set_Of_l3 x
/-! besom/plan.Greys -/
noncomputable def p_plan_Greys_l3 : LoopSpec E := { slots := [3, 9, 10, 11], inn := ⟨[.val (.int .u64), .val (.slice (.slice (.int .i64))), .val (.int .i64), .val (.int .i64)], []⟩, brkId := 0, bslots := [3], brk := ⟨[.val (.int .u64)], []⟩, rslots := [], ret := ⟨[], []⟩, gi := grp [.one (.int .u64), .one (.slice (.slice (.int .i64))), .one (.int .i64), .one (.int .i64)] (by kernel_rfl), gb := grp [.one (.int .u64)] (by kernel_rfl), gr := grp [] (by kernel_rfl) }
noncomputable def p_plan_Greys_c : Cfg E := mkCfg Go.Proofs.Tryz.prog tab [(94, [p_set_Of])] [(3, p_plan_Greys_l3)] [] [] [] []
def p_plan_Greys_i : Shape := ⟨[.val (.named 4)], []⟩
def p_plan_Greys_o : Shape := ⟨[.val (.int .u64)], []⟩
noncomputable def p_plan_Greys : Spec E := mkSpec p_plan_Greys_c Go.Proofs.Tryz.f43 p_plan_Greys_i p_plan_Greys_o [.one (.named 4)] [.one (.int .u64)] (by kernel_rfl) (by kernel_rfl)
noncomputable def q_plan_Greys (a1 : Splan_Plan) : Option ((BitVec 64) × Unit) := p_plan_Greys.F (a1, ())
noncomputable def p_plan_Greys_r3 (x : (BitVec 64) × (List (List Int)) × Int × Int × Unit) : Option (Stop ((BitVec 64) × (List (List Int)) × Int × Int × Unit) ((BitVec 64) × Unit) (Unit)) := roundBy p_plan_Greys_c (exec p_plan_Greys_c (loopAt Go.Proofs.Tryz.f43 3)) 21 p_plan_Greys_l3 x
/-! besom/ledger.New -/
noncomputable def p_ledger_New_c : Cfg E := mkCfg Go.Proofs.Tryz.prog tab [] [] [] [] [] []
def p_ledger_New_i : Shape := ⟨[.val (.int .i64)], []⟩
def p_ledger_New_o : Shape := ⟨[.val (.named 5)], []⟩
noncomputable def p_ledger_New : Spec E := mkSpec p_ledger_New_c Go.Proofs.Tryz.f44 p_ledger_New_i p_ledger_New_o [.one (.int .i64)] [.one (.named 5)] (by kernel_rfl) (by kernel_rfl)
noncomputable def q_ledger_New (a1 : Int) : Option (Sledger_Ledger × Unit) := p_ledger_New.F (a1, ())
/-! slices.Clone[[]int,int] -/
noncomputable def p_slices_Clone_Lint_int_c : Cfg E := mkCfg Go.Proofs.Tryz.prog tab [] [] [] [] [] []
def p_slices_Clone_Lint_int_i : Shape := ⟨[.val (.slice (.int .i64))], []⟩
def p_slices_Clone_Lint_int_o : Shape := ⟨[.own 0], [.row true (.int .i64)]⟩
noncomputable def p_slices_Clone_Lint_int : Spec E := mkSpec p_slices_Clone_Lint_int_c Go.Proofs.Tryz.f46 p_slices_Clone_Lint_int_i p_slices_Clone_Lint_int_o [.one (.slice (.int .i64))] [.one (.slice (.int .i64))] (by kernel_rfl) (by kernel_rfl)
noncomputable def q_slices_Clone_Lint_int (a1 : List Int) : Option ((List Int) × Unit) := p_slices_Clone_Lint_int.F (a1, ())
/-! besom/state.each[[]int] -/
noncomputable def p_state_each_Lint_l4 : LoopSpec E := { slots := [1, 5, 14, 15], inn := ⟨[.fn 46 [], .own 0, .val (.int .i64), .val (.int .i64)], [.row true (.slice (.int .i64))]⟩, brkId := 0, bslots := [5], brk := ⟨[.own 0], [.row true (.slice (.int .i64))]⟩, rslots := [], ret := ⟨[], []⟩, gi := grp [.one (.int .i64), .one (.int .i64), .one (.slice (.slice (.int .i64)))] (by kernel_rfl), gb := grp [.one (.slice (.slice (.int .i64)))] (by kernel_rfl), gr := grp [] (by kernel_rfl) }
noncomputable def p_state_each_Lint_c : Cfg E := mkCfg Go.Proofs.Tryz.prog tab [(46, [p_slices_Clone_Lint_int])] [(4, p_state_each_Lint_l4)] [] [] [] []
def p_state_each_Lint_i : Shape := ⟨[.val (.slice (.slice (.int .i64))), .fn 46 []], []⟩
def p_state_each_Lint_o : Shape := ⟨[.own 0], [.row true (.slice (.int .i64))]⟩
noncomputable def p_state_each_Lint : Spec E := mkSpec p_state_each_Lint_c Go.Proofs.Tryz.f45 p_state_each_Lint_i p_state_each_Lint_o [.one (.slice (.slice (.int .i64)))] [.one (.slice (.slice (.int .i64)))] (by kernel_rfl) (by kernel_rfl)
noncomputable def q_state_each_Lint (a1 : List (List Int)) : Option ((List (List Int)) × Unit) := p_state_each_Lint.F (a1, ())
noncomputable def p_state_each_Lint_r4 (x : Int × Int × (List (List Int)) × Unit) : Option (Stop (Int × Int × (List (List Int)) × Unit) ((List (List Int)) × Unit) (Unit)) := roundBy p_state_each_Lint_c (exec p_state_each_Lint_c (loopAt Go.Proofs.Tryz.f45 4)) 29 p_state_each_Lint_l4 x
/-! besom/deque.Cells -/
noncomputable def p_deque_Cells_c : Cfg E := mkCfg Go.Proofs.Tryz.prog tab [] [] [] [] [] []
def p_deque_Cells_i : Shape := ⟨[.val (.int .i64)], []⟩
def p_deque_Cells_o : Shape := ⟨[.own 0], [.row true (.int .u64)]⟩
noncomputable def p_deque_Cells : Spec E := mkSpec p_deque_Cells_c Go.Proofs.Tryz.f47 p_deque_Cells_i p_deque_Cells_o [.one (.int .i64)] [.one (.slice (.int .u64))] (by kernel_rfl) (by kernel_rfl)
noncomputable def q_deque_Cells (a1 : Int) : Option ((List (BitVec 64)) × Unit) := p_deque_Cells.F (a1, ())
/-! besom/deque.Start -/
noncomputable def p_deque_Start_c : Cfg E := mkCfg Go.Proofs.Tryz.prog tab [] [] [] [] [] []
def p_deque_Start_i : Shape := ⟨[.val (.int .i64), .val (.int .i64), .val (.int .i64), .val (.int .i64)], []⟩
def p_deque_Start_o : Shape := ⟨[.val (.named 6)], []⟩
noncomputable def p_deque_Start : Spec E := mkSpec p_deque_Start_c Go.Proofs.Tryz.f48 p_deque_Start_i p_deque_Start_o [.one (.int .i64), .one (.int .i64), .one (.int .i64), .one (.int .i64)] [.one (.named 6)] (by kernel_rfl) (by kernel_rfl)
noncomputable def q_deque_Start (a1 : Int) (a2 : Int) (a3 : Int) (a4 : Int) : Option (Sdeque_Machine × Unit) := p_deque_Start.F (a1, a2, a3, a4, ())
/-! besom/plan.Bins -/
noncomputable def p_plan_Bins_c : Cfg E := mkCfg Go.Proofs.Tryz.prog tab [] [] [] [] [] []
def p_plan_Bins_i : Shape := ⟨[.val (.named 4)], []⟩
def p_plan_Bins_o : Shape := ⟨[.val (.int .i64)], []⟩
noncomputable def p_plan_Bins : Spec E := mkSpec p_plan_Bins_c Go.Proofs.Tryz.f49 p_plan_Bins_i p_plan_Bins_o [.one (.named 4)] [.one (.int .i64)] (by kernel_rfl) (by kernel_rfl)
noncomputable def q_plan_Bins (a1 : Splan_Plan) : Option (Int × Unit) := p_plan_Bins.F (a1, ())
/-! slices.Chunk[[]int,int] -/
noncomputable def p_slices_Chunk_Lint_int_c : Cfg E := mkCfg Go.Proofs.Tryz.prog tab [] [] [] [] [] []
def p_slices_Chunk_Lint_int_i : Shape := ⟨[.val (.slice (.int .i64)), .val (.int .i64)], []⟩
def p_slices_Chunk_Lint_int_o : Shape := ⟨[.fn 114 [.ptr 0, .ptr 1]], [.box true [.val (.slice (.int .i64))], .box true [.val (.int .i64)]]⟩
noncomputable def p_slices_Chunk_Lint_int : Spec E := mkSpec p_slices_Chunk_Lint_int_c Go.Proofs.Tryz.f50 p_slices_Chunk_Lint_int_i p_slices_Chunk_Lint_int_o [.one (.slice (.int .i64)), .one (.int .i64)] [.one (.slice (.int .i64)), .one (.int .i64)] (by kernel_rfl) (by kernel_rfl)
noncomputable def q_slices_Chunk_Lint_int (a1 : List Int) (a2 : Int) : Option ((List Int) × Int × Unit) := p_slices_Chunk_Lint_int.F (a1, a2, ())
/-! besom/set.each -/
noncomputable def p_set_each_c : Cfg E := mkCfg Go.Proofs.Tryz.prog tab [] [] [] [] [] []
def p_set_each_i : Shape := ⟨[.val (.int .u64)], []⟩
def p_set_each_o : Shape := ⟨[.fn 159 [.ptr 0]], [.box true [.val (.int .u64)]]⟩
noncomputable def p_set_each : Spec E := mkSpec p_set_each_c Go.Proofs.Tryz.f115 p_set_each_i p_set_each_o [.one (.int .u64)] [.one (.int .u64)] (by kernel_rfl) (by kernel_rfl)
noncomputable def q_set_each (a1 : BitVec 64) : Option ((BitVec 64) × Unit) := p_set_each.F (a1, ())
/-! besom/set.each_1 -/
noncomputable def i_set_eachF1_l0 : LoopSpec E := { slots := [0, 1], inn := ⟨[.yld, .ptr 0], [.box true [.val (.int .u64)]]⟩, brkId := 0, bslots := [0], brk := ⟨[.yld], []⟩, rslots := [0], ret := ⟨[.yld], []⟩, gi := grp [.one (.int .i64), .one (.int .i64), .one (.int .u64)] (by kernel_rfl), gb := grp [.one (.int .i64), .one (.int .i64)] (by kernel_rfl), gr := grp [.one (.int .i64), .one (.int .i64)] (by kernel_rfl) }
noncomputable def i_set_eachF1_c0 : Cfg E := mkCfg Go.Proofs.Tryz.prog tab [(160, [pTZ])] [(0, i_set_eachF1_l0)] [] [] [] []
noncomputable def i_set_eachF1_c (ys : List Int) : Cfg E := { i_set_eachF1_c0 with yl := true, ye := (.int .i64), yd := ys }
def i_set_eachF1_i : Shape := ⟨[.ptr 0], [.box true [.val (.int .u64)]]⟩
noncomputable def i_set_eachF1 : IterSpec E := { inn := i_set_eachF1_i, e := (.int .i64), F := fun x => bitsAsc 66 x.1 }
noncomputable def j_set_eachF1 (a1 : BitVec 64) : Option (List Int) := i_set_eachF1.F (a1, ())
noncomputable def i_set_eachF1_r0 (ys : List Int) (x : Int × Int × (BitVec 64) × Unit) : Option (Stop (Int × Int × (BitVec 64) × Unit) (Int × Int × Unit) (Int × Int × Unit)) := roundBy (i_set_eachF1_c ys) (exec (i_set_eachF1_c ys) (loopAt Go.Proofs.Tryz.f159 0)) 15 i_set_eachF1_l0 x
/-! besom/set.List -/
noncomputable def p_set_List_l3 : LoopSpec E := { slots := [3], inn := ⟨[.ptr 0], [.box true [.own 1], .row true (.int .i64)]⟩, brkId := 0, bslots := [], brk := ⟨[], []⟩, rslots := [], ret := ⟨[], []⟩, gi := grp [.one (.slice (.int .i64))] (by kernel_rfl), gb := grp [] (by kernel_rfl), gr := grp [] (by kernel_rfl) }
noncomputable def p_set_List_c : Cfg E := mkCfg Go.Proofs.Tryz.prog tab [(115, [p_set_each])] [(3, p_set_List_l3)] [] [] [] [(159, i_set_eachF1)]
def p_set_List_i : Shape := ⟨[.val (.int .u64)], []⟩
def p_set_List_o : Shape := ⟨[.own 0], [.row true (.int .i64)]⟩
noncomputable def p_set_List : Spec E := mkSpec p_set_List_c Go.Proofs.Tryz.f51 p_set_List_i p_set_List_o [.one (.int .u64)] [.one (.slice (.int .i64))] (by kernel_rfl) (by kernel_rfl)
noncomputable def q_set_List (a1 : BitVec 64) : Option ((List Int) × Unit) := p_set_List.F (a1, ())
noncomputable def p_set_List_r3 (y : Int) (x : (List Int) × Unit) : Option ((List Int) × Unit) := roundY p_set_List_c (exec p_set_List_c (asAt Go.Proofs.Tryz.f51 3)) (exec p_set_List_c (bodyAt Go.Proofs.Tryz.f51 3)) 13 p_set_List_l3 7 (.int .i64) y x
/-! besom/mem.Do_1 -/
noncomputable def p_mem_DoF1_c : Cfg E := mkCfg Go.Proofs.Tryz.prog tab [] [] [] [] [] []
def p_mem_DoF1_i : Shape := ⟨[.val (.int .u64)], []⟩
def p_mem_DoF1_o : Shape := ⟨[.val (.int .u64), .val .bool], []⟩
noncomputable def p_mem_DoF1 : Spec E := mkSpec p_mem_DoF1_c Go.Proofs.Tryz.f174 p_mem_DoF1_i p_mem_DoF1_o [.one (.int .u64)] [.one (.int .u64), .one .bool] (by kernel_rfl) (by kernel_rfl)
noncomputable def q_mem_DoF1 (a1 : BitVec 64) : Option ((BitVec 64) × Bool × Unit) := p_mem_DoF1.F (a1, ())
/-! besom/mem.Do_2 -/
noncomputable def p_mem_DoF2_c : Cfg E := mkCfg Go.Proofs.Tryz.prog tab [] [] [] [] [] []
def p_mem_DoF2_i : Shape := ⟨[.val (.int .u64), .ptr 0], [.box false [.val (.int .i64), .val (.int .i64), .val (.int .u64), .val (.int .u64)]]⟩
def p_mem_DoF2_o : Shape := ⟨[.val (.int .u64), .val .bool], [.gone]⟩
noncomputable def p_mem_DoF2 : Spec E := mkSpec p_mem_DoF2_c Go.Proofs.Tryz.f175 p_mem_DoF2_i p_mem_DoF2_o [.one (.int .u64), .str 13] [.one (.int .u64), .one .bool] (by kernel_rfl) (by kernel_rfl)
noncomputable def q_mem_DoF2 (a1 : BitVec 64) (a2 : Smem_Op) : Option ((BitVec 64) × Bool × Unit) := p_mem_DoF2.F (a1, a2, ())
/-! besom/mem.Do_3 -/
noncomputable def p_mem_DoF3_c : Cfg E := mkCfg Go.Proofs.Tryz.prog tab [] [] [] [] [] []
def p_mem_DoF3_i : Shape := ⟨[.val (.int .u64), .ptr 0], [.box false [.val (.int .i64), .val (.int .i64), .val (.int .u64), .val (.int .u64)]]⟩
def p_mem_DoF3_o : Shape := ⟨[.val (.int .u64), .val .bool], [.gone]⟩
noncomputable def p_mem_DoF3 : Spec E := mkSpec p_mem_DoF3_c Go.Proofs.Tryz.f176 p_mem_DoF3_i p_mem_DoF3_o [.one (.int .u64), .str 13] [.one (.int .u64), .one .bool] (by kernel_rfl) (by kernel_rfl)
noncomputable def q_mem_DoF3 (a1 : BitVec 64) (a2 : Smem_Op) : Option ((BitVec 64) × Bool × Unit) := p_mem_DoF3.F (a1, a2, ())
/-! besom/mem.Do_4 -/
noncomputable def p_mem_DoF4_c : Cfg E := mkCfg Go.Proofs.Tryz.prog tab [] [] [] [] [] []
def p_mem_DoF4_i : Shape := ⟨[.val (.int .u64), .ptr 0], [.box false [.val (.int .i64), .val (.int .i64), .val (.int .u64), .val (.int .u64)]]⟩
def p_mem_DoF4_o : Shape := ⟨[.val (.int .u64), .val .bool], [.gone]⟩
noncomputable def p_mem_DoF4 : Spec E := mkSpec p_mem_DoF4_c Go.Proofs.Tryz.f177 p_mem_DoF4_i p_mem_DoF4_o [.one (.int .u64), .str 13] [.one (.int .u64), .one .bool] (by kernel_rfl) (by kernel_rfl)
noncomputable def q_mem_DoF4 (a1 : BitVec 64) (a2 : Smem_Op) : Option ((BitVec 64) × Bool × Unit) := p_mem_DoF4.F (a1, a2, ())
/-! slices.Clone[besom/mem.Mem,uint64] -/
noncomputable def p_slices_Clone_mem_Mem_uint64_c : Cfg E := mkCfg Go.Proofs.Tryz.prog tab [] [] [] [] [] []
def p_slices_Clone_mem_Mem_uint64_i : Shape := ⟨[.val (.slice (.int .u64))], []⟩
def p_slices_Clone_mem_Mem_uint64_o : Shape := ⟨[.own 0], [.row true (.int .u64)]⟩
noncomputable def p_slices_Clone_mem_Mem_uint64 : Spec E := mkSpec p_slices_Clone_mem_Mem_uint64_c Go.Proofs.Tryz.f178 p_slices_Clone_mem_Mem_uint64_i p_slices_Clone_mem_Mem_uint64_o [.one (.slice (.int .u64))] [.one (.slice (.int .u64))] (by kernel_rfl) (by kernel_rfl)
noncomputable def q_slices_Clone_mem_Mem_uint64 (a1 : List (BitVec 64)) : Option ((List (BitVec 64)) × Unit) := p_slices_Clone_mem_Mem_uint64.F (a1, ())
/-! besom/mem.Do -/
noncomputable def p_mem_Do_c : Cfg E := mkCfg Go.Proofs.Tryz.prog tab [(174, [p_mem_DoF1]), (175, [p_mem_DoF2]), (176, [p_mem_DoF3]), (177, [p_mem_DoF4]), (178, [p_slices_Clone_mem_Mem_uint64])] [] [] [] [] []
def p_mem_Do_i : Shape := ⟨[.val (.slice (.int .u64)), .val (.named 13)], []⟩
def p_mem_Do_o : Shape := ⟨[.val (.slice (.int .u64)), .val (.int .u64), .val .bool], []⟩
noncomputable def p_mem_Do : Spec E := mkSpec p_mem_Do_c Go.Proofs.Tryz.f141 p_mem_Do_i p_mem_Do_o [.one (.slice (.int .u64)), .one (.named 13)] [.one (.slice (.int .u64)), .one (.int .u64), .one .bool] (by kernel_rfl) (by kernel_rfl)
noncomputable def q_mem_Do (a1 : List (BitVec 64)) (a2 : Smem_Op) : Option ((List (BitVec 64)) × (BitVec 64) × Bool × Unit) := p_mem_Do.F (a1, a2, ())
/-! besom/chain.store -/
noncomputable def p_chain_store_c : Cfg E := mkCfg Go.Proofs.Tryz.prog tab [(141, [p_mem_Do])] [] [] [] [] []
def p_chain_store_i : Shape := ⟨[.val (.slice (.int .u64)), .val (.int .i64), .val (.int .u64)], []⟩
def p_chain_store_o : Shape := ⟨[.val (.slice (.int .u64))], []⟩
noncomputable def p_chain_store : Spec E := mkSpec p_chain_store_c Go.Proofs.Tryz.f116 p_chain_store_i p_chain_store_o [.one (.slice (.int .u64)), .one (.int .i64), .one (.int .u64)] [.one (.slice (.int .u64))] (by kernel_rfl) (by kernel_rfl)
noncomputable def q_chain_store (a1 : List (BitVec 64)) (a2 : Int) (a3 : BitVec 64) : Option ((List (BitVec 64)) × Unit) := p_chain_store.F (a1, a2, a3, ())
/-! besom/chain.Pack -/
noncomputable def p_chain_Pack_c : Cfg E := mkCfg Go.Proofs.Tryz.prog tab [] [] [] [] [] []
def p_chain_Pack_i : Shape := ⟨[.val (.int .u64), .val (.int .i64)], []⟩
def p_chain_Pack_o : Shape := ⟨[.val (.int .u64)], []⟩
noncomputable def p_chain_Pack : Spec E := mkSpec p_chain_Pack_c Go.Proofs.Tryz.f117 p_chain_Pack_i p_chain_Pack_o [.one (.int .u64), .one (.int .i64)] [.one (.int .u64)] (by kernel_rfl) (by kernel_rfl)
noncomputable def q_chain_Pack (a1 : BitVec 64) (a2 : Int) : Option ((BitVec 64) × Unit) := p_chain_Pack.F (a1, a2, ())
/-! besom/chain.Lay -/
noncomputable def p_chain_Lay_l2 : LoopSpec E := { slots := [0, 1, 2, 3, 13, 14], inn := ⟨[.val (.slice (.int .u64)), .val (.int .i64), .val (.int .i64), .val (.slice (.int .i64)), .val (.int .i64), .val (.int .i64)], []⟩, brkId := 0, bslots := [0, 1, 3], brk := ⟨[.val (.slice (.int .u64)), .val (.int .i64), .val (.slice (.int .i64))], []⟩, rslots := [], ret := ⟨[], []⟩, gi := grp [.one (.slice (.int .u64)), .one (.int .i64), .one (.int .i64), .one (.slice (.int .i64)), .one (.int .i64), .one (.int .i64)] (by kernel_rfl), gb := grp [.one (.slice (.int .u64)), .one (.int .i64), .one (.slice (.int .i64))] (by kernel_rfl), gr := grp [] (by kernel_rfl) }
noncomputable def p_chain_Lay_c : Cfg E := mkCfg Go.Proofs.Tryz.prog tab [(116, [p_chain_store]), (117, [p_chain_Pack])] [(2, p_chain_Lay_l2)] [] [] [] []
def p_chain_Lay_i : Shape := ⟨[.val (.slice (.int .u64)), .val (.int .i64), .val (.int .i64), .val (.slice (.int .i64))], []⟩
def p_chain_Lay_o : Shape := ⟨[.val (.slice (.int .u64))], []⟩
noncomputable def p_chain_Lay : Spec E := mkSpec p_chain_Lay_c Go.Proofs.Tryz.f52 p_chain_Lay_i p_chain_Lay_o [.one (.slice (.int .u64)), .one (.int .i64), .one (.int .i64), .one (.slice (.int .i64))] [.one (.slice (.int .u64))] (by kernel_rfl) (by kernel_rfl)
noncomputable def q_chain_Lay (a1 : List (BitVec 64)) (a2 : Int) (a3 : Int) (a4 : List Int) : Option ((List (BitVec 64)) × Unit) := p_chain_Lay.F (a1, a2, a3, a4, ())
noncomputable def p_chain_Lay_r2 (x : (List (BitVec 64)) × Int × Int × (List Int) × Int × Int × Unit) : Option (Stop ((List (BitVec 64)) × Int × Int × (List Int) × Int × Int × Unit) ((List (BitVec 64)) × Int × (List Int) × Unit) (Unit)) := roundBy p_chain_Lay_c (exec p_chain_Lay_c (loopAt Go.Proofs.Tryz.f52 2)) 49 p_chain_Lay_l2 x
/-! slices.Chunk[[]int,int]_1 -/
noncomputable def i_slices_Chunk_Lint_int_F1_l1 : LoopSpec E := { slots := [0, 1, 2, 4], inn := ⟨[.yld, .ptr 0, .ptr 1, .val (.int .i64)], [.box true [.val (.slice (.int .i64))], .box true [.val (.int .i64)]]⟩, brkId := 0, bslots := [0], brk := ⟨[.yld], []⟩, rslots := [0], ret := ⟨[.yld], []⟩, gi := grp [.one (.int .i64), .one (.int .i64), .one (.int .i64), .one (.slice (.int .i64)), .one (.int .i64)] (by kernel_rfl), gb := grp [.one (.int .i64), .one (.int .i64)] (by kernel_rfl), gr := grp [.one (.int .i64), .one (.int .i64)] (by kernel_rfl) }
noncomputable def i_slices_Chunk_Lint_int_F1_c0 : Cfg E := mkCfg Go.Proofs.Tryz.prog tab [] [(1, i_slices_Chunk_Lint_int_F1_l1)] [] [] [] []
noncomputable def i_slices_Chunk_Lint_int_F1_c (ys : List (List Int)) : Cfg E := { i_slices_Chunk_Lint_int_F1_c0 with yl := true, ye := (.slice (.int .i64)), yd := ys }
def i_slices_Chunk_Lint_int_F1_i : Shape := ⟨[.ptr 0, .ptr 1], [.box true [.val (.slice (.int .i64))], .box true [.val (.int .i64)]]⟩
noncomputable def i_slices_Chunk_Lint_int_F1 : IterSpec E := { inn := i_slices_Chunk_Lint_int_F1_i, e := (.slice (.int .i64)), F := fun x => chunksOf x.1 x.2.1 }
noncomputable def j_slices_Chunk_Lint_int_F1 (a1 : List Int) (a2 : Int) : Option (List (List Int)) := i_slices_Chunk_Lint_int_F1.F (a1, a2, ())
noncomputable def i_slices_Chunk_Lint_int_F1_r1 (ys : List (List Int)) (x : Int × Int × Int × (List Int) × Int × Unit) : Option (Stop (Int × Int × Int × (List Int) × Int × Unit) (Int × Int × Unit) (Int × Int × Unit)) := roundBy (i_slices_Chunk_Lint_int_F1_c ys) (exec (i_slices_Chunk_Lint_int_F1_c ys) (loopAt Go.Proofs.Tryz.f114 1)) 31 i_slices_Chunk_Lint_int_F1_l1 x
/-! besom/state.New -/
noncomputable def p_state_New_l7 : LoopSpec E := { slots := [1, 2, 3, 4, 37, 38], inn := ⟨[.ptr 0, .ptr 1, .val (.int .u64), .ptr 2, .val (.int .i64), .val (.int .i64)], [.box true [.val (.int .i64), .val (.int .i64), .val (.int .i64), .val (.int .i64), .val (.int .i64), .val (.int .i64), .val (.int .i64), .val (.int .i64), .val (.int .i64), .val (.slice (.slice (.int .i64))), .val (.int .u64), .val (.slice (.slice (.int .i64))), .val (.slice (.slice (.named 1))), .val (.slice (.named 2))], .box true [.val (.int .i64), .val (.int .i64), .val (.int .i64), .val (.int .i64), .val (.int .i64), .val (.int .i64), .val (.int .i64), .val (.int .i64), .val (.int .i64), .own 3, .val (.int .u64), .own 4, .own 5, .own 6, .val (.int .i64), .own 7, .own 8, .own 9, .val (.int .u64), .val (.int .u64), .val (.int .i64), .val (.int .i64), .val .bool, .val .bool, .val (.int .i64), .own 10, .val (.int .i64), .val (.int .i64), .val (.int .i64), .own 11, .own 12, .own 13, .val (.int .i64), .val (.int .i64)], .box true [.val (.int .i64), .val (.int .i64), .val (.int .i64), .val (.int .i64), .val (.int .i64), .val (.int .i64), .val (.int .i64), .val (.int .i64), .val (.int .i64), .val (.slice (.slice (.int .i64))), .val (.int .u64), .val (.slice (.slice (.int .i64))), .val (.slice (.slice (.named 1))), .val (.slice (.named 2)), .val (.int .i64), .own 14, .own 15, .own 16, .val (.int .u64), .val (.int .u64), .val (.int .i64), .val (.int .i64), .val .bool, .val .bool, .val (.int .i64), .own 17, .val (.int .i64), .val (.int .i64), .val (.int .i64), .val (.slice (.int .i64)), .own 18, .own 19, .val (.int .i64), .val (.int .i64)], .row true (.slice (.int .i64)), .row true (.slice (.int .i64)), .row true (.slice (.named 1)), .row true (.named 2), .row true (.slice (.int .i64)), .row true (.int .u64), .row true (.slice (.int .i64)), .row true (.int .i64), .row true (.int .i64), .row true (.named 9), .row true (.named 10), .row true (.slice (.int .i64)), .row true (.int .u64), .row true (.slice (.int .i64)), .row true (.int .i64), .row true (.named 9), .row true (.named 10)]⟩, brkId := 0, bslots := [1, 2, 3, 4], brk := ⟨[.ptr 0, .ptr 1, .val (.int .u64), .ptr 2], [.box true [.val (.int .i64), .val (.int .i64), .val (.int .i64), .val (.int .i64), .val (.int .i64), .val (.int .i64), .val (.int .i64), .val (.int .i64), .val (.int .i64), .val (.slice (.slice (.int .i64))), .val (.int .u64), .val (.slice (.slice (.int .i64))), .val (.slice (.slice (.named 1))), .val (.slice (.named 2))], .box true [.val (.int .i64), .val (.int .i64), .val (.int .i64), .val (.int .i64), .val (.int .i64), .val (.int .i64), .val (.int .i64), .val (.int .i64), .val (.int .i64), .own 3, .val (.int .u64), .own 4, .own 5, .own 6, .val (.int .i64), .own 7, .own 8, .own 9, .val (.int .u64), .val (.int .u64), .val (.int .i64), .val (.int .i64), .val .bool, .val .bool, .val (.int .i64), .own 10, .val (.int .i64), .val (.int .i64), .val (.int .i64), .own 11, .own 12, .own 13, .val (.int .i64), .val (.int .i64)], .box true [.val (.int .i64), .val (.int .i64), .val (.int .i64), .val (.int .i64), .val (.int .i64), .val (.int .i64), .val (.int .i64), .val (.int .i64), .val (.int .i64), .val (.slice (.slice (.int .i64))), .val (.int .u64), .val (.slice (.slice (.int .i64))), .val (.slice (.slice (.named 1))), .val (.slice (.named 2)), .val (.int .i64), .own 14, .own 15, .own 16, .val (.int .u64), .val (.int .u64), .val (.int .i64), .val (.int .i64), .val .bool, .val .bool, .val (.int .i64), .own 17, .val (.int .i64), .val (.int .i64), .val (.int .i64), .val (.slice (.int .i64)), .own 18, .own 19, .val (.int .i64), .val (.int .i64)], .row true (.slice (.int .i64)), .row true (.slice (.int .i64)), .row true (.slice (.named 1)), .row true (.named 2), .row true (.slice (.int .i64)), .row true (.int .u64), .row true (.slice (.int .i64)), .row true (.int .i64), .row true (.int .i64), .row true (.named 9), .row true (.named 10), .row true (.slice (.int .i64)), .row true (.int .u64), .row true (.slice (.int .i64)), .row true (.int .i64), .row true (.named 9), .row true (.named 10)]⟩, rslots := [], ret := ⟨[], []⟩, gi := grp [.one (.int .u64), .one (.int .i64), .one (.int .i64), .str 4, .one (.int .i64), .one (.int .i64), .one (.int .i64), .one (.int .i64), .one (.int .i64), .one (.int .i64), .one (.int .i64), .one (.int .i64), .one (.int .i64), .one (.int .u64), .one (.int .i64), .str 11, .one (.int .i64), .one (.int .i64), .one .bool, .one .bool, .one (.int .i64), .one (.int .i64), .one (.int .i64), .one (.int .i64), .str 12, .str 4, .one (.int .i64), .str 11, .one (.int .i64), .one (.int .i64), .one .bool, .one .bool, .one (.int .i64), .str 5, .str 12, .one (.slice (.slice (.int .i64))), .one (.slice (.slice (.int .i64))), .one (.slice (.slice (.named 1))), .one (.slice (.named 2)), .one (.slice (.slice (.int .i64))), .one (.slice (.int .u64)), .one (.slice (.slice (.int .i64))), .one (.slice (.int .i64)), .one (.slice (.int .i64)), .one (.slice (.named 9)), .one (.slice (.named 10)), .one (.slice (.slice (.int .i64))), .one (.slice (.int .u64)), .one (.slice (.slice (.int .i64))), .one (.slice (.int .i64)), .one (.slice (.named 9)), .one (.slice (.named 10))] (by kernel_rfl), gb := grp [.one (.int .u64), .str 4, .one (.int .i64), .one (.int .i64), .one (.int .i64), .one (.int .i64), .one (.int .i64), .one (.int .i64), .one (.int .i64), .one (.int .i64), .one (.int .i64), .one (.int .u64), .one (.int .i64), .str 11, .one (.int .i64), .one (.int .i64), .one .bool, .one .bool, .one (.int .i64), .one (.int .i64), .one (.int .i64), .one (.int .i64), .str 12, .str 4, .one (.int .i64), .str 11, .one (.int .i64), .one (.int .i64), .one .bool, .one .bool, .one (.int .i64), .str 5, .str 12, .one (.slice (.slice (.int .i64))), .one (.slice (.slice (.int .i64))), .one (.slice (.slice (.named 1))), .one (.slice (.named 2)), .one (.slice (.slice (.int .i64))), .one (.slice (.int .u64)), .one (.slice (.slice (.int .i64))), .one (.slice (.int .i64)), .one (.slice (.int .i64)), .one (.slice (.named 9)), .one (.slice (.named 10)), .one (.slice (.slice (.int .i64))), .one (.slice (.int .u64)), .one (.slice (.slice (.int .i64))), .one (.slice (.int .i64)), .one (.slice (.named 9)), .one (.slice (.named 10))] (by kernel_rfl), gr := grp [] (by kernel_rfl) }
noncomputable def p_state_New_l15 : LoopSpec E := { slots := [1, 2, 3, 4, 6, 72, 73], inn := ⟨[.ptr 0, .ptr 1, .val (.int .u64), .ptr 2, .own 3, .val (.int .i64), .val (.int .i64)], [.box true [.val (.int .i64), .val (.int .i64), .val (.int .i64), .val (.int .i64), .val (.int .i64), .val (.int .i64), .val (.int .i64), .val (.int .i64), .val (.int .i64), .val (.slice (.slice (.int .i64))), .val (.int .u64), .val (.slice (.slice (.int .i64))), .val (.slice (.slice (.named 1))), .val (.slice (.named 2))], .box true [.val (.int .i64), .val (.int .i64), .val (.int .i64), .val (.int .i64), .val (.int .i64), .val (.int .i64), .val (.int .i64), .val (.int .i64), .val (.int .i64), .own 4, .val (.int .u64), .own 5, .own 6, .own 7, .val (.int .i64), .own 8, .own 9, .own 10, .val (.int .u64), .val (.int .u64), .val (.int .i64), .val (.int .i64), .val .bool, .val .bool, .val (.int .i64), .own 11, .val (.int .i64), .val (.int .i64), .val (.int .i64), .own 12, .own 13, .own 14, .val (.int .i64), .val (.int .i64)], .box true [.val (.int .i64), .val (.int .i64), .val (.int .i64), .val (.int .i64), .val (.int .i64), .val (.int .i64), .val (.int .i64), .val (.int .i64), .val (.int .i64), .val (.slice (.slice (.int .i64))), .val (.int .u64), .val (.slice (.slice (.int .i64))), .val (.slice (.slice (.named 1))), .val (.slice (.named 2)), .val (.int .i64), .own 15, .own 16, .own 17, .val (.int .u64), .val (.int .u64), .val (.int .i64), .val (.int .i64), .val .bool, .val .bool, .val (.int .i64), .own 18, .val (.int .i64), .val (.int .i64), .val (.int .i64), .val (.slice (.int .i64)), .own 19, .own 20, .val (.int .i64), .val (.int .i64)], .row true (.int .i64), .row true (.slice (.int .i64)), .row true (.slice (.int .i64)), .row true (.slice (.named 1)), .row true (.named 2), .row true (.slice (.int .i64)), .row true (.int .u64), .row true (.slice (.int .i64)), .row true (.int .i64), .row true (.int .i64), .row true (.named 9), .row true (.named 10), .row true (.slice (.int .i64)), .row true (.int .u64), .row true (.slice (.int .i64)), .row true (.int .i64), .row true (.named 9), .row true (.named 10)]⟩, brkId := 2, bslots := [1, 2, 3, 4, 6], brk := ⟨[.ptr 0, .ptr 1, .val (.int .u64), .ptr 2, .own 3], [.box true [.val (.int .i64), .val (.int .i64), .val (.int .i64), .val (.int .i64), .val (.int .i64), .val (.int .i64), .val (.int .i64), .val (.int .i64), .val (.int .i64), .val (.slice (.slice (.int .i64))), .val (.int .u64), .val (.slice (.slice (.int .i64))), .val (.slice (.slice (.named 1))), .val (.slice (.named 2))], .box true [.val (.int .i64), .val (.int .i64), .val (.int .i64), .val (.int .i64), .val (.int .i64), .val (.int .i64), .val (.int .i64), .val (.int .i64), .val (.int .i64), .own 4, .val (.int .u64), .own 5, .own 6, .own 7, .val (.int .i64), .own 8, .own 9, .own 10, .val (.int .u64), .val (.int .u64), .val (.int .i64), .val (.int .i64), .val .bool, .val .bool, .val (.int .i64), .own 11, .val (.int .i64), .val (.int .i64), .val (.int .i64), .own 12, .own 13, .own 14, .val (.int .i64), .val (.int .i64)], .box true [.val (.int .i64), .val (.int .i64), .val (.int .i64), .val (.int .i64), .val (.int .i64), .val (.int .i64), .val (.int .i64), .val (.int .i64), .val (.int .i64), .val (.slice (.slice (.int .i64))), .val (.int .u64), .val (.slice (.slice (.int .i64))), .val (.slice (.slice (.named 1))), .val (.slice (.named 2)), .val (.int .i64), .own 15, .own 16, .own 17, .val (.int .u64), .val (.int .u64), .val (.int .i64), .val (.int .i64), .val .bool, .val .bool, .val (.int .i64), .own 18, .val (.int .i64), .val (.int .i64), .val (.int .i64), .val (.slice (.int .i64)), .own 19, .own 20, .val (.int .i64), .val (.int .i64)], .row true (.int .i64), .row true (.slice (.int .i64)), .row true (.slice (.int .i64)), .row true (.slice (.named 1)), .row true (.named 2), .row true (.slice (.int .i64)), .row true (.int .u64), .row true (.slice (.int .i64)), .row true (.int .i64), .row true (.int .i64), .row true (.named 9), .row true (.named 10), .row true (.slice (.int .i64)), .row true (.int .u64), .row true (.slice (.int .i64)), .row true (.int .i64), .row true (.named 9), .row true (.named 10)]⟩, rslots := [], ret := ⟨[], []⟩, gi := grp [.one (.int .u64), .one (.int .i64), .one (.int .i64), .str 4, .one (.int .i64), .one (.int .i64), .one (.int .i64), .one (.int .i64), .one (.int .i64), .one (.int .i64), .one (.int .i64), .one (.int .i64), .one (.int .i64), .one (.int .u64), .one (.int .i64), .str 11, .one (.int .i64), .one (.int .i64), .one .bool, .one .bool, .one (.int .i64), .one (.int .i64), .one (.int .i64), .one (.int .i64), .str 12, .str 4, .one (.int .i64), .str 11, .one (.int .i64), .one (.int .i64), .one .bool, .one .bool, .one (.int .i64), .str 5, .str 12, .one (.slice (.int .i64)), .one (.slice (.slice (.int .i64))), .one (.slice (.slice (.int .i64))), .one (.slice (.slice (.named 1))), .one (.slice (.named 2)), .one (.slice (.slice (.int .i64))), .one (.slice (.int .u64)), .one (.slice (.slice (.int .i64))), .one (.slice (.int .i64)), .one (.slice (.int .i64)), .one (.slice (.named 9)), .one (.slice (.named 10)), .one (.slice (.slice (.int .i64))), .one (.slice (.int .u64)), .one (.slice (.slice (.int .i64))), .one (.slice (.int .i64)), .one (.slice (.named 9)), .one (.slice (.named 10))] (by kernel_rfl), gb := grp [.one (.int .u64), .str 4, .one (.int .i64), .one (.int .i64), .one (.int .i64), .one (.int .i64), .one (.int .i64), .one (.int .i64), .one (.int .i64), .one (.int .i64), .one (.int .i64), .one (.int .u64), .one (.int .i64), .str 11, .one (.int .i64), .one (.int .i64), .one .bool, .one .bool, .one (.int .i64), .one (.int .i64), .one (.int .i64), .one (.int .i64), .str 12, .str 4, .one (.int .i64), .str 11, .one (.int .i64), .one (.int .i64), .one .bool, .one .bool, .one (.int .i64), .str 5, .str 12, .one (.slice (.int .i64)), .one (.slice (.slice (.int .i64))), .one (.slice (.slice (.int .i64))), .one (.slice (.slice (.named 1))), .one (.slice (.named 2)), .one (.slice (.slice (.int .i64))), .one (.slice (.int .u64)), .one (.slice (.slice (.int .i64))), .one (.slice (.int .i64)), .one (.slice (.int .i64)), .one (.slice (.named 9)), .one (.slice (.named 10)), .one (.slice (.slice (.int .i64))), .one (.slice (.int .u64)), .one (.slice (.slice (.int .i64))), .one (.slice (.int .i64)), .one (.slice (.named 9)), .one (.slice (.named 10))] (by kernel_rfl), gr := grp [] (by kernel_rfl) }
noncomputable def p_state_New_l20 : LoopSpec E := { slots := [1, 2, 4, 6], inn := ⟨[.ptr 0, .ptr 1, .ptr 2, .own 3], [.box true [.val (.int .i64), .val (.int .i64), .val (.int .i64), .val (.int .i64), .val (.int .i64), .val (.int .i64), .val (.int .i64), .val (.int .i64), .val (.int .i64), .val (.slice (.slice (.int .i64))), .val (.int .u64), .val (.slice (.slice (.int .i64))), .val (.slice (.slice (.named 1))), .val (.slice (.named 2))], .box true [.val (.int .i64), .val (.int .i64), .val (.int .i64), .val (.int .i64), .val (.int .i64), .val (.int .i64), .val (.int .i64), .val (.int .i64), .val (.int .i64), .own 4, .val (.int .u64), .own 5, .own 6, .own 7, .val (.int .i64), .own 8, .own 9, .own 10, .val (.int .u64), .val (.int .u64), .val (.int .i64), .val (.int .i64), .val .bool, .val .bool, .val (.int .i64), .own 11, .val (.int .i64), .val (.int .i64), .val (.int .i64), .own 12, .own 13, .own 14, .val (.int .i64), .val (.int .i64)], .box true [.val (.int .i64), .val (.int .i64), .val (.int .i64), .val (.int .i64), .val (.int .i64), .val (.int .i64), .val (.int .i64), .val (.int .i64), .val (.int .i64), .val (.slice (.slice (.int .i64))), .val (.int .u64), .val (.slice (.slice (.int .i64))), .val (.slice (.slice (.named 1))), .val (.slice (.named 2)), .val (.int .i64), .own 15, .own 16, .own 17, .val (.int .u64), .val (.int .u64), .val (.int .i64), .val (.int .i64), .val .bool, .val .bool, .val (.int .i64), .own 18, .val (.int .i64), .val (.int .i64), .val (.int .i64), .val (.slice (.int .i64)), .own 19, .own 20, .val (.int .i64), .val (.int .i64)], .row true (.int .i64), .row true (.slice (.int .i64)), .row true (.slice (.int .i64)), .row true (.slice (.named 1)), .row true (.named 2), .row true (.slice (.int .i64)), .row true (.int .u64), .row true (.slice (.int .i64)), .row true (.int .i64), .row true (.int .i64), .row true (.named 9), .row true (.named 10), .row true (.slice (.int .i64)), .row true (.int .u64), .row true (.slice (.int .i64)), .row true (.int .i64), .row true (.named 9), .row true (.named 10)]⟩, brkId := 0, bslots := [], brk := ⟨[], []⟩, rslots := [], ret := ⟨[], []⟩, gi := grp [.str 4, .one (.int .i64), .one (.int .i64), .one (.int .i64), .one (.int .i64), .one (.int .i64), .one (.int .i64), .one (.int .i64), .one (.int .i64), .one (.int .i64), .one (.int .u64), .one (.int .i64), .str 11, .one (.int .i64), .one (.int .i64), .one .bool, .one .bool, .one (.int .i64), .one (.int .i64), .one (.int .i64), .one (.int .i64), .str 12, .str 4, .one (.int .i64), .str 11, .one (.int .i64), .one (.int .i64), .one .bool, .one .bool, .one (.int .i64), .str 5, .str 12, .one (.slice (.int .i64)), .one (.slice (.slice (.int .i64))), .one (.slice (.slice (.int .i64))), .one (.slice (.slice (.named 1))), .one (.slice (.named 2)), .one (.slice (.slice (.int .i64))), .one (.slice (.int .u64)), .one (.slice (.slice (.int .i64))), .one (.slice (.int .i64)), .one (.slice (.int .i64)), .one (.slice (.named 9)), .one (.slice (.named 10)), .one (.slice (.slice (.int .i64))), .one (.slice (.int .u64)), .one (.slice (.slice (.int .i64))), .one (.slice (.int .i64)), .one (.slice (.named 9)), .one (.slice (.named 10))] (by kernel_rfl), gb := grp [] (by kernel_rfl), gr := grp [] (by kernel_rfl) }
noncomputable def p_state_New_l28 : LoopSpec E := { slots := [2, 4, 134, 135, 136], inn := ⟨[.ptr 0, .ptr 1, .val (.slice (.slice (.int .i64))), .val (.int .i64), .val (.int .i64)], [.box true [.val (.int .i64), .val (.int .i64), .val (.int .i64), .val (.int .i64), .val (.int .i64), .val (.int .i64), .val (.int .i64), .val (.int .i64), .val (.int .i64), .own 2, .val (.int .u64), .own 3, .own 4, .own 5, .val (.int .i64), .own 6, .own 7, .own 8, .val (.int .u64), .val (.int .u64), .val (.int .i64), .val (.int .i64), .val .bool, .val .bool, .val (.int .i64), .own 9, .val (.int .i64), .val (.int .i64), .val (.int .i64), .own 10, .own 11, .own 12, .val (.int .i64), .val (.int .i64)], .box true [.val (.int .i64), .val (.int .i64), .val (.int .i64), .val (.int .i64), .val (.int .i64), .val (.int .i64), .val (.int .i64), .val (.int .i64), .val (.int .i64), .val (.slice (.slice (.int .i64))), .val (.int .u64), .val (.slice (.slice (.int .i64))), .val (.slice (.slice (.named 1))), .val (.slice (.named 2)), .val (.int .i64), .own 13, .val (.slice (.int .u64)), .own 14, .val (.int .u64), .val (.int .u64), .val (.int .i64), .val (.int .i64), .val .bool, .val .bool, .val (.int .i64), .own 15, .val (.int .i64), .val (.int .i64), .val (.int .i64), .val (.slice (.int .i64)), .own 16, .own 17, .val (.int .i64), .val (.int .i64)], .row true (.slice (.int .i64)), .row true (.slice (.int .i64)), .row true (.slice (.named 1)), .row true (.named 2), .row true (.slice (.int .i64)), .row true (.int .u64), .row true (.slice (.int .i64)), .row true (.int .i64), .row true (.int .i64), .row true (.named 9), .row true (.named 10), .row true (.slice (.int .i64)), .row true (.slice (.int .i64)), .row true (.int .i64), .row true (.named 9), .row true (.named 10)]⟩, brkId := 6, bslots := [2, 4], brk := ⟨[.ptr 0, .ptr 1], [.box true [.val (.int .i64), .val (.int .i64), .val (.int .i64), .val (.int .i64), .val (.int .i64), .val (.int .i64), .val (.int .i64), .val (.int .i64), .val (.int .i64), .own 2, .val (.int .u64), .own 3, .own 4, .own 5, .val (.int .i64), .own 6, .own 7, .own 8, .val (.int .u64), .val (.int .u64), .val (.int .i64), .val (.int .i64), .val .bool, .val .bool, .val (.int .i64), .own 9, .val (.int .i64), .val (.int .i64), .val (.int .i64), .own 10, .own 11, .own 12, .val (.int .i64), .val (.int .i64)], .box true [.val (.int .i64), .val (.int .i64), .val (.int .i64), .val (.int .i64), .val (.int .i64), .val (.int .i64), .val (.int .i64), .val (.int .i64), .val (.int .i64), .val (.slice (.slice (.int .i64))), .val (.int .u64), .val (.slice (.slice (.int .i64))), .val (.slice (.slice (.named 1))), .val (.slice (.named 2)), .val (.int .i64), .own 13, .val (.slice (.int .u64)), .own 14, .val (.int .u64), .val (.int .u64), .val (.int .i64), .val (.int .i64), .val .bool, .val .bool, .val (.int .i64), .own 15, .val (.int .i64), .val (.int .i64), .val (.int .i64), .val (.slice (.int .i64)), .own 16, .own 17, .val (.int .i64), .val (.int .i64)], .row true (.slice (.int .i64)), .row true (.slice (.int .i64)), .row true (.slice (.named 1)), .row true (.named 2), .row true (.slice (.int .i64)), .row true (.int .u64), .row true (.slice (.int .i64)), .row true (.int .i64), .row true (.int .i64), .row true (.named 9), .row true (.named 10), .row true (.slice (.int .i64)), .row true (.slice (.int .i64)), .row true (.int .i64), .row true (.named 9), .row true (.named 10)]⟩, rslots := [], ret := ⟨[], []⟩, gi := grp [.one (.slice (.slice (.int .i64))), .one (.int .i64), .one (.int .i64), .one (.int .i64), .one (.int .i64), .one (.int .i64), .one (.int .i64), .one (.int .i64), .one (.int .i64), .one (.int .i64), .one (.int .i64), .one (.int .i64), .one (.int .u64), .one (.int .i64), .str 11, .one (.int .i64), .one (.int .i64), .one .bool, .one .bool, .one (.int .i64), .one (.int .i64), .one (.int .i64), .one (.int .i64), .str 12, .str 4, .one (.int .i64), .one (.slice (.int .u64)), .str 11, .one (.int .i64), .one (.int .i64), .one .bool, .one .bool, .one (.int .i64), .str 5, .str 12, .one (.slice (.slice (.int .i64))), .one (.slice (.slice (.int .i64))), .one (.slice (.slice (.named 1))), .one (.slice (.named 2)), .one (.slice (.slice (.int .i64))), .one (.slice (.int .u64)), .one (.slice (.slice (.int .i64))), .one (.slice (.int .i64)), .one (.slice (.int .i64)), .one (.slice (.named 9)), .one (.slice (.named 10)), .one (.slice (.slice (.int .i64))), .one (.slice (.slice (.int .i64))), .one (.slice (.int .i64)), .one (.slice (.named 9)), .one (.slice (.named 10))] (by kernel_rfl), gb := grp [.one (.int .i64), .one (.int .i64), .one (.int .i64), .one (.int .i64), .one (.int .i64), .one (.int .i64), .one (.int .i64), .one (.int .i64), .one (.int .i64), .one (.int .u64), .one (.int .i64), .str 11, .one (.int .i64), .one (.int .i64), .one .bool, .one .bool, .one (.int .i64), .one (.int .i64), .one (.int .i64), .one (.int .i64), .str 12, .str 4, .one (.int .i64), .one (.slice (.int .u64)), .str 11, .one (.int .i64), .one (.int .i64), .one .bool, .one .bool, .one (.int .i64), .str 5, .str 12, .one (.slice (.slice (.int .i64))), .one (.slice (.slice (.int .i64))), .one (.slice (.slice (.named 1))), .one (.slice (.named 2)), .one (.slice (.slice (.int .i64))), .one (.slice (.int .u64)), .one (.slice (.slice (.int .i64))), .one (.slice (.int .i64)), .one (.slice (.int .i64)), .one (.slice (.named 9)), .one (.slice (.named 10)), .one (.slice (.slice (.int .i64))), .one (.slice (.slice (.int .i64))), .one (.slice (.int .i64)), .one (.slice (.named 9)), .one (.slice (.named 10))] (by kernel_rfl), gr := grp [] (by kernel_rfl) }
noncomputable def p_state_New_c : Cfg E := mkCfg Go.Proofs.Tryz.prog tab [(26, [p_set_Count]), (33, [p_state_Deque]), (35, [p_state_Full]), (36, [p_state_Next]), (42, [p_plan_Right]), (43, [p_plan_Greys]), (44, [p_ledger_New]), (45, [p_state_each_Lint]), (46, [p_slices_Clone_Lint_int]), (47, [p_deque_Cells]), (48, [p_deque_Start]), (49, [p_plan_Bins]), (50, [p_slices_Chunk_Lint_int]), (51, [p_set_List]), (52, [p_chain_Lay]), (53, [p_state_Empty])] [(7, p_state_New_l7), (15, p_state_New_l15), (20, p_state_New_l20), (28, p_state_New_l28)] [] [] [] [(114, i_slices_Chunk_Lint_int_F1)]
def p_state_New_i : Shape := ⟨[.val (.named 4)], []⟩
def p_state_New_o : Shape := ⟨[.val (.named 14)], []⟩
noncomputable def p_state_New : Spec E := mkSpec p_state_New_c Go.Proofs.Tryz.f10 p_state_New_i p_state_New_o [.one (.named 4)] [.one (.named 14)] (by kernel_rfl) (by kernel_rfl)
noncomputable def q_state_New (a1 : Splan_Plan) : Option (Sstate_State × Unit) := p_state_New.F (a1, ())
noncomputable def p_state_New_r7 (x : (BitVec 64) × Int × Int × Splan_Plan × Int × Int × Int × Int × Int × Int × Int × Int × Int × (BitVec 64) × Int × Stint_Tint × Int × Int × Bool × Bool × Int × Int × Int × Int × Sstate_Detect × Splan_Plan × Int × Stint_Tint × Int × Int × Bool × Bool × Int × Sledger_Ledger × Sstate_Detect × (List (List Int)) × (List (List Int)) × (List (List Scode_Op)) × (List Spick_Pick) × (List (List Int)) × (List (BitVec 64)) × (List (List Int)) × (List Int) × (List Int) × (List Sstate_Worker) × (List Sstate_Mutator) × (List (List Int)) × (List (BitVec 64)) × (List (List Int)) × (List Int) × (List Sstate_Worker) × (List Sstate_Mutator) × Unit) : Option (Stop ((BitVec 64) × Int × Int × Splan_Plan × Int × Int × Int × Int × Int × Int × Int × Int × Int × (BitVec 64) × Int × Stint_Tint × Int × Int × Bool × Bool × Int × Int × Int × Int × Sstate_Detect × Splan_Plan × Int × Stint_Tint × Int × Int × Bool × Bool × Int × Sledger_Ledger × Sstate_Detect × (List (List Int)) × (List (List Int)) × (List (List Scode_Op)) × (List Spick_Pick) × (List (List Int)) × (List (BitVec 64)) × (List (List Int)) × (List Int) × (List Int) × (List Sstate_Worker) × (List Sstate_Mutator) × (List (List Int)) × (List (BitVec 64)) × (List (List Int)) × (List Int) × (List Sstate_Worker) × (List Sstate_Mutator) × Unit) ((BitVec 64) × Splan_Plan × Int × Int × Int × Int × Int × Int × Int × Int × Int × (BitVec 64) × Int × Stint_Tint × Int × Int × Bool × Bool × Int × Int × Int × Int × Sstate_Detect × Splan_Plan × Int × Stint_Tint × Int × Int × Bool × Bool × Int × Sledger_Ledger × Sstate_Detect × (List (List Int)) × (List (List Int)) × (List (List Scode_Op)) × (List Spick_Pick) × (List (List Int)) × (List (BitVec 64)) × (List (List Int)) × (List Int) × (List Int) × (List Sstate_Worker) × (List Sstate_Mutator) × (List (List Int)) × (List (BitVec 64)) × (List (List Int)) × (List Int) × (List Sstate_Worker) × (List Sstate_Mutator) × Unit) (Unit)) := roundBy p_state_New_c (exec p_state_New_c (loopAt Go.Proofs.Tryz.f10 7)) 150 p_state_New_l7 x
noncomputable def p_state_New_r15 (x : (BitVec 64) × Int × Int × Splan_Plan × Int × Int × Int × Int × Int × Int × Int × Int × Int × (BitVec 64) × Int × Stint_Tint × Int × Int × Bool × Bool × Int × Int × Int × Int × Sstate_Detect × Splan_Plan × Int × Stint_Tint × Int × Int × Bool × Bool × Int × Sledger_Ledger × Sstate_Detect × (List Int) × (List (List Int)) × (List (List Int)) × (List (List Scode_Op)) × (List Spick_Pick) × (List (List Int)) × (List (BitVec 64)) × (List (List Int)) × (List Int) × (List Int) × (List Sstate_Worker) × (List Sstate_Mutator) × (List (List Int)) × (List (BitVec 64)) × (List (List Int)) × (List Int) × (List Sstate_Worker) × (List Sstate_Mutator) × Unit) : Option (Stop ((BitVec 64) × Int × Int × Splan_Plan × Int × Int × Int × Int × Int × Int × Int × Int × Int × (BitVec 64) × Int × Stint_Tint × Int × Int × Bool × Bool × Int × Int × Int × Int × Sstate_Detect × Splan_Plan × Int × Stint_Tint × Int × Int × Bool × Bool × Int × Sledger_Ledger × Sstate_Detect × (List Int) × (List (List Int)) × (List (List Int)) × (List (List Scode_Op)) × (List Spick_Pick) × (List (List Int)) × (List (BitVec 64)) × (List (List Int)) × (List Int) × (List Int) × (List Sstate_Worker) × (List Sstate_Mutator) × (List (List Int)) × (List (BitVec 64)) × (List (List Int)) × (List Int) × (List Sstate_Worker) × (List Sstate_Mutator) × Unit) ((BitVec 64) × Splan_Plan × Int × Int × Int × Int × Int × Int × Int × Int × Int × (BitVec 64) × Int × Stint_Tint × Int × Int × Bool × Bool × Int × Int × Int × Int × Sstate_Detect × Splan_Plan × Int × Stint_Tint × Int × Int × Bool × Bool × Int × Sledger_Ledger × Sstate_Detect × (List Int) × (List (List Int)) × (List (List Int)) × (List (List Scode_Op)) × (List Spick_Pick) × (List (List Int)) × (List (BitVec 64)) × (List (List Int)) × (List Int) × (List Int) × (List Sstate_Worker) × (List Sstate_Mutator) × (List (List Int)) × (List (BitVec 64)) × (List (List Int)) × (List Int) × (List Sstate_Worker) × (List Sstate_Mutator) × Unit) (Unit)) := roundBy p_state_New_c (exec p_state_New_c (loopAt Go.Proofs.Tryz.f10 15)) 150 p_state_New_l15 x
noncomputable def p_state_New_r20 (y : List Int) (x : Splan_Plan × Int × Int × Int × Int × Int × Int × Int × Int × Int × (BitVec 64) × Int × Stint_Tint × Int × Int × Bool × Bool × Int × Int × Int × Int × Sstate_Detect × Splan_Plan × Int × Stint_Tint × Int × Int × Bool × Bool × Int × Sledger_Ledger × Sstate_Detect × (List Int) × (List (List Int)) × (List (List Int)) × (List (List Scode_Op)) × (List Spick_Pick) × (List (List Int)) × (List (BitVec 64)) × (List (List Int)) × (List Int) × (List Int) × (List Sstate_Worker) × (List Sstate_Mutator) × (List (List Int)) × (List (BitVec 64)) × (List (List Int)) × (List Int) × (List Sstate_Worker) × (List Sstate_Mutator) × Unit) : Option (Splan_Plan × Int × Int × Int × Int × Int × Int × Int × Int × Int × (BitVec 64) × Int × Stint_Tint × Int × Int × Bool × Bool × Int × Int × Int × Int × Sstate_Detect × Splan_Plan × Int × Stint_Tint × Int × Int × Bool × Bool × Int × Sledger_Ledger × Sstate_Detect × (List Int) × (List (List Int)) × (List (List Int)) × (List (List Scode_Op)) × (List Spick_Pick) × (List (List Int)) × (List (BitVec 64)) × (List (List Int)) × (List Int) × (List Int) × (List Sstate_Worker) × (List Sstate_Mutator) × (List (List Int)) × (List (BitVec 64)) × (List (List Int)) × (List Int) × (List Sstate_Worker) × (List Sstate_Mutator) × Unit) := roundY p_state_New_c (exec p_state_New_c (asAt Go.Proofs.Tryz.f10 20)) (exec p_state_New_c (bodyAt Go.Proofs.Tryz.f10 20)) 150 p_state_New_l20 87 (.slice (.int .i64)) y x
noncomputable def p_state_New_r28 (x : (List (List Int)) × Int × Int × Int × Int × Int × Int × Int × Int × Int × Int × Int × (BitVec 64) × Int × Stint_Tint × Int × Int × Bool × Bool × Int × Int × Int × Int × Sstate_Detect × Splan_Plan × Int × (List (BitVec 64)) × Stint_Tint × Int × Int × Bool × Bool × Int × Sledger_Ledger × Sstate_Detect × (List (List Int)) × (List (List Int)) × (List (List Scode_Op)) × (List Spick_Pick) × (List (List Int)) × (List (BitVec 64)) × (List (List Int)) × (List Int) × (List Int) × (List Sstate_Worker) × (List Sstate_Mutator) × (List (List Int)) × (List (List Int)) × (List Int) × (List Sstate_Worker) × (List Sstate_Mutator) × Unit) : Option (Stop ((List (List Int)) × Int × Int × Int × Int × Int × Int × Int × Int × Int × Int × Int × (BitVec 64) × Int × Stint_Tint × Int × Int × Bool × Bool × Int × Int × Int × Int × Sstate_Detect × Splan_Plan × Int × (List (BitVec 64)) × Stint_Tint × Int × Int × Bool × Bool × Int × Sledger_Ledger × Sstate_Detect × (List (List Int)) × (List (List Int)) × (List (List Scode_Op)) × (List Spick_Pick) × (List (List Int)) × (List (BitVec 64)) × (List (List Int)) × (List Int) × (List Int) × (List Sstate_Worker) × (List Sstate_Mutator) × (List (List Int)) × (List (List Int)) × (List Int) × (List Sstate_Worker) × (List Sstate_Mutator) × Unit) (Int × Int × Int × Int × Int × Int × Int × Int × Int × (BitVec 64) × Int × Stint_Tint × Int × Int × Bool × Bool × Int × Int × Int × Int × Sstate_Detect × Splan_Plan × Int × (List (BitVec 64)) × Stint_Tint × Int × Int × Bool × Bool × Int × Sledger_Ledger × Sstate_Detect × (List (List Int)) × (List (List Int)) × (List (List Scode_Op)) × (List Spick_Pick) × (List (List Int)) × (List (BitVec 64)) × (List (List Int)) × (List Int) × (List Int) × (List Sstate_Worker) × (List Sstate_Mutator) × (List (List Int)) × (List (List Int)) × (List Int) × (List Sstate_Worker) × (List Sstate_Mutator) × Unit) (Unit)) := roundBy p_state_New_c (exec p_state_New_c (loopAt Go.Proofs.Tryz.f10 28)) 150 p_state_New_l28 x
/-! besom/grey.Begin -/
noncomputable def p_grey_Begin_c : Cfg E := mkCfg Go.Proofs.Tryz.prog tab [] [] [] [] [] []
def p_grey_Begin_i : Shape := ⟨[.val (.int .i64), .val (.int .i64), .val (.int .i64)], []⟩
def p_grey_Begin_o : Shape := ⟨[.val (.named 8)], []⟩
noncomputable def p_grey_Begin : Spec E := mkSpec p_grey_Begin_c Go.Proofs.Tryz.f12 p_grey_Begin_i p_grey_Begin_o [.one (.int .i64), .one (.int .i64), .one (.int .i64)] [.one (.named 8)] (by kernel_rfl) (by kernel_rfl)
noncomputable def q_grey_Begin (a1 : Int) (a2 : Int) (a3 : Int) : Option (Sstate_Grey × Unit) := p_grey_Begin.F (a1, a2, a3, ())
/-! (*besom/grey.machine).reserve -/
noncomputable def p_grey_machine_reserve_v1_c : Cfg E := mkCfg Go.Proofs.Tryz.prog tab [] [] [] [(0, some 0)] [] []
def p_grey_machine_reserve_v1_i : Shape := ⟨[.ptr 0], [.box true [.val (.int .i64), .val (.int .i64), .val (.int .i64), .val (.int .i64), .val (.int .i64), .val (.int .i64), .val (.int .i64), .val (.int .i64), .val (.int .u64), .val (.int .u64), .val (.int .i64), .val (.int .i64), .val (.int .i64), .val (.int .i64), .val (.int .i64), .val (.int .i64), .val (.int .u64), .val (.int .i64), .val (.int .i64), .val (.int .i64), .val (.int .i64), .val (.int .i64), .val (.int .i64), .val (.int .i64), .val (.int .i64), .val (.int .i64), .val (.int .i64), .val (.int .i64), .val (.int .i64), .val (.int .i64), .val (.int .i64), .val (.slice (.slice (.int .i64))), .val (.int .u64), .val (.slice (.slice (.int .i64))), .val (.slice (.slice (.named 1))), .val (.slice (.named 2)), .val (.int .i64), .val (.slice (.slice (.int .i64))), .val (.slice (.int .u64)), .val (.slice (.slice (.int .i64))), .val (.int .u64), .val (.int .u64), .val (.int .i64), .val (.int .i64), .val .bool, .val .bool, .val (.int .i64), .val (.slice (.int .i64)), .val (.int .i64), .val (.int .i64), .val (.int .i64), .val (.slice (.int .i64)), .val (.slice (.named 9)), .val (.slice (.named 10)), .val (.int .i64), .val (.int .i64)]]⟩
def p_grey_machine_reserve_v1_o : Shape := ⟨[], [.box true [.val (.int .i64), .val (.int .i64), .val (.int .i64), .val (.int .i64), .val (.int .i64), .val (.int .i64), .val (.int .i64), .val (.int .i64), .val (.int .u64), .val (.int .u64), .val (.int .i64), .val (.int .i64), .val (.int .i64), .val (.int .i64), .val (.int .i64), .val (.int .i64), .val (.int .u64), .val (.int .i64), .val (.int .i64), .val (.int .i64), .val (.int .i64), .val (.int .i64), .val (.int .i64), .val (.int .i64), .val (.int .i64), .val (.int .i64), .val (.int .i64), .val (.int .i64), .val (.int .i64), .val (.int .i64), .val (.int .i64), .val (.slice (.slice (.int .i64))), .val (.int .u64), .val (.slice (.slice (.int .i64))), .val (.slice (.slice (.named 1))), .val (.slice (.named 2)), .val (.int .i64), .val (.slice (.slice (.int .i64))), .val (.slice (.int .u64)), .val (.slice (.slice (.int .i64))), .val (.int .u64), .val (.int .u64), .val (.int .i64), .val (.int .i64), .val .bool, .val .bool, .val (.int .i64), .val (.slice (.int .i64)), .val (.int .i64), .val (.int .i64), .val (.int .i64), .val (.slice (.int .i64)), .val (.slice (.named 9)), .val (.slice (.named 10)), .val (.int .i64), .val (.int .i64)]]⟩
noncomputable def p_grey_machine_reserve_v1 : Spec E := mkSpec p_grey_machine_reserve_v1_c Go.Proofs.Tryz.f62 p_grey_machine_reserve_v1_i p_grey_machine_reserve_v1_o [.str 15] [.str 15] (by kernel_rfl) (by kernel_rfl)
noncomputable def q_grey_machine_reserve_v1 (a1 : Sgrey_machine) : Option (Sgrey_machine × Unit) := p_grey_machine_reserve_v1.F (a1, ())
/-! besom/set.Has -/
noncomputable def p_set_Has_c : Cfg E := mkCfg Go.Proofs.Tryz.prog tab [(84, [p_set_bit])] [] [] [] [] []
def p_set_Has_i : Shape := ⟨[.val (.int .u64), .val (.int .i64)], []⟩
def p_set_Has_o : Shape := ⟨[.val .bool], []⟩
noncomputable def p_set_Has : Spec E := mkSpec p_set_Has_c Go.Proofs.Tryz.f140 p_set_Has_i p_set_Has_o [.one (.int .u64), .one (.int .i64)] [.one .bool] (by kernel_rfl) (by kernel_rfl)
noncomputable def q_set_Has (a1 : BitVec 64) (a2 : Int) : Option (Bool × Unit) := p_set_Has.F (a1, a2, ())
/-! besom/tint.Shade -/
noncomputable def p_tint_Shade_c : Cfg E := mkCfg Go.Proofs.Tryz.prog tab [(29, [p_set_Add]), (140, [p_set_Has])] [] [] [] [] []
def p_tint_Shade_i : Shape := ⟨[.val (.named 11), .val (.int .i64)], []⟩
def p_tint_Shade_o : Shape := ⟨[.val (.named 11), .val .bool], []⟩
noncomputable def p_tint_Shade : Spec E := mkSpec p_tint_Shade_c Go.Proofs.Tryz.f120 p_tint_Shade_i p_tint_Shade_o [.one (.named 11), .one (.int .i64)] [.one (.named 11), .one .bool] (by kernel_rfl) (by kernel_rfl)
noncomputable def q_tint_Shade (a1 : Stint_Tint) (a2 : Int) : Option (Stint_Tint × Bool × Unit) := p_tint_Shade.F (a1, a2, ())
/-! besom/chain.Start -/
noncomputable def p_chain_Start_c : Cfg E := mkCfg Go.Proofs.Tryz.prog tab [] [] [] [] [] []
def p_chain_Start_i : Shape := ⟨[.val (.int .i64), .val (.int .i64), .val (.int .i64), .val (.int .i64)], []⟩
def p_chain_Start_o : Shape := ⟨[.val (.named 7)], []⟩
noncomputable def p_chain_Start : Spec E := mkSpec p_chain_Start_c Go.Proofs.Tryz.f125 p_chain_Start_i p_chain_Start_o [.one (.int .i64), .one (.int .i64), .one (.int .i64), .one (.int .i64)] [.one (.named 7)] (by kernel_rfl) (by kernel_rfl)
noncomputable def q_chain_Start (a1 : Int) (a2 : Int) (a3 : Int) (a4 : Int) : Option (Schain_Machine × Unit) := p_chain_Start.F (a1, a2, a3, a4, ())
/-! (*besom/grey.machine).ask -/
noncomputable def p_grey_machine_ask_v1_c : Cfg E := mkCfg Go.Proofs.Tryz.prog tab [(36, [p_state_Next]), (53, [p_state_Empty]), (125, [p_chain_Start])] [] [] [(0, some 0)] [] []
def p_grey_machine_ask_v1_i : Shape := ⟨[.ptr 0], [.box true [.val (.int .i64), .val (.int .i64), .val (.int .i64), .val (.int .i64), .val (.int .i64), .val (.int .i64), .val (.int .i64), .val (.int .i64), .val (.int .u64), .val (.int .u64), .val (.int .i64), .val (.int .i64), .val (.int .i64), .val (.int .i64), .val (.int .i64), .val (.int .i64), .val (.int .u64), .val (.int .i64), .val (.int .i64), .val (.int .i64), .val (.int .i64), .val (.int .i64), .val (.int .i64), .val (.int .i64), .val (.int .i64), .val (.int .i64), .val (.int .i64), .val (.int .i64), .val (.int .i64), .val (.int .i64), .val (.int .i64), .val (.slice (.slice (.int .i64))), .val (.int .u64), .val (.slice (.slice (.int .i64))), .val (.slice (.slice (.named 1))), .val (.slice (.named 2)), .val (.int .i64), .val (.slice (.slice (.int .i64))), .val (.slice (.int .u64)), .val (.slice (.slice (.int .i64))), .val (.int .u64), .val (.int .u64), .val (.int .i64), .val (.int .i64), .val .bool, .val .bool, .val (.int .i64), .val (.slice (.int .i64)), .val (.int .i64), .val (.int .i64), .val (.int .i64), .val (.slice (.int .i64)), .val (.slice (.named 9)), .val (.slice (.named 10)), .val (.int .i64), .val (.int .i64)]]⟩
def p_grey_machine_ask_v1_o : Shape := ⟨[], [.box true [.val (.int .i64), .val (.int .i64), .val (.int .i64), .val (.int .i64), .val (.int .i64), .val (.int .i64), .val (.int .i64), .val (.int .i64), .val (.int .u64), .val (.int .u64), .val (.int .i64), .val (.int .i64), .val (.int .i64), .val (.int .i64), .val (.int .i64), .val (.int .i64), .val (.int .u64), .val (.int .i64), .val (.int .i64), .val (.int .i64), .val (.int .i64), .val (.int .i64), .val (.int .i64), .val (.int .i64), .val (.int .i64), .val (.int .i64), .val (.int .i64), .val (.int .i64), .val (.int .i64), .val (.int .i64), .val (.int .i64), .val (.slice (.slice (.int .i64))), .val (.int .u64), .val (.slice (.slice (.int .i64))), .val (.slice (.slice (.named 1))), .val (.slice (.named 2)), .val (.int .i64), .val (.slice (.slice (.int .i64))), .val (.slice (.int .u64)), .val (.slice (.slice (.int .i64))), .val (.int .u64), .val (.int .u64), .val (.int .i64), .val (.int .i64), .val .bool, .val .bool, .val (.int .i64), .val (.slice (.int .i64)), .val (.int .i64), .val (.int .i64), .val (.int .i64), .val (.slice (.int .i64)), .val (.slice (.named 9)), .val (.slice (.named 10)), .val (.int .i64), .val (.int .i64)]]⟩
noncomputable def p_grey_machine_ask_v1 : Spec E := mkSpec p_grey_machine_ask_v1_c Go.Proofs.Tryz.f121 p_grey_machine_ask_v1_i p_grey_machine_ask_v1_o [.str 15] [.str 15] (by kernel_rfl) (by kernel_rfl)
noncomputable def q_grey_machine_ask_v1 (a1 : Sgrey_machine) : Option (Sgrey_machine × Unit) := p_grey_machine_ask_v1.F (a1, ())
/-! (*besom/grey.machine).mark -/
noncomputable def p_grey_machine_mark_v1_c : Cfg E := mkCfg Go.Proofs.Tryz.prog tab [(33, [p_state_Deque]), (48, [p_deque_Start]), (120, [p_tint_Shade]), (121, [p_grey_machine_ask_v1])] [] [] [(0, some 0)] [] []
def p_grey_machine_mark_v1_i : Shape := ⟨[.ptr 0], [.box true [.val (.int .i64), .val (.int .i64), .val (.int .i64), .val (.int .i64), .val (.int .i64), .val (.int .i64), .val (.int .i64), .val (.int .i64), .val (.int .u64), .val (.int .u64), .val (.int .i64), .val (.int .i64), .val (.int .i64), .val (.int .i64), .val (.int .i64), .val (.int .i64), .val (.int .u64), .val (.int .i64), .val (.int .i64), .val (.int .i64), .val (.int .i64), .val (.int .i64), .val (.int .i64), .val (.int .i64), .val (.int .i64), .val (.int .i64), .val (.int .i64), .val (.int .i64), .val (.int .i64), .val (.int .i64), .val (.int .i64), .val (.slice (.slice (.int .i64))), .val (.int .u64), .val (.slice (.slice (.int .i64))), .val (.slice (.slice (.named 1))), .val (.slice (.named 2)), .val (.int .i64), .val (.slice (.slice (.int .i64))), .val (.slice (.int .u64)), .val (.slice (.slice (.int .i64))), .val (.int .u64), .val (.int .u64), .val (.int .i64), .val (.int .i64), .val .bool, .val .bool, .val (.int .i64), .val (.slice (.int .i64)), .val (.int .i64), .val (.int .i64), .val (.int .i64), .val (.slice (.int .i64)), .val (.slice (.named 9)), .val (.slice (.named 10)), .val (.int .i64), .val (.int .i64)]]⟩
def p_grey_machine_mark_v1_o : Shape := ⟨[], [.box true [.val (.int .i64), .val (.int .i64), .val (.int .i64), .val (.int .i64), .val (.int .i64), .val (.int .i64), .val (.int .i64), .val (.int .i64), .val (.int .u64), .val (.int .u64), .val (.int .i64), .val (.int .i64), .val (.int .i64), .val (.int .i64), .val (.int .i64), .val (.int .i64), .val (.int .u64), .val (.int .i64), .val (.int .i64), .val (.int .i64), .val (.int .i64), .val (.int .i64), .val (.int .i64), .val (.int .i64), .val (.int .i64), .val (.int .i64), .val (.int .i64), .val (.int .i64), .val (.int .i64), .val (.int .i64), .val (.int .i64), .val (.slice (.slice (.int .i64))), .val (.int .u64), .val (.slice (.slice (.int .i64))), .val (.slice (.slice (.named 1))), .val (.slice (.named 2)), .val (.int .i64), .val (.slice (.slice (.int .i64))), .val (.slice (.int .u64)), .val (.slice (.slice (.int .i64))), .val (.int .u64), .val (.int .u64), .val (.int .i64), .val (.int .i64), .val .bool, .val .bool, .val (.int .i64), .val (.slice (.int .i64)), .val (.int .i64), .val (.int .i64), .val (.int .i64), .val (.slice (.int .i64)), .val (.slice (.named 9)), .val (.slice (.named 10)), .val (.int .i64), .val (.int .i64)]]⟩
noncomputable def p_grey_machine_mark_v1 : Spec E := mkSpec p_grey_machine_mark_v1_c Go.Proofs.Tryz.f63 p_grey_machine_mark_v1_i p_grey_machine_mark_v1_o [.str 15] [.str 15] (by kernel_rfl) (by kernel_rfl)
noncomputable def q_grey_machine_mark_v1 (a1 : Sgrey_machine) : Option (Sgrey_machine × Unit) := p_grey_machine_mark_v1.F (a1, ())
/-! (*besom/grey.machine).back -/
noncomputable def p_grey_machine_back_v1_c : Cfg E := mkCfg Go.Proofs.Tryz.prog tab [] [] [] [(0, some 0)] [] []
def p_grey_machine_back_v1_i : Shape := ⟨[.ptr 0], [.box true [.val (.int .i64), .val (.int .i64), .val (.int .i64), .val (.int .i64), .val (.int .i64), .val (.int .i64), .val (.int .i64), .val (.int .i64), .val (.int .u64), .val (.int .u64), .val (.int .i64), .val (.int .i64), .val (.int .i64), .val (.int .i64), .val (.int .i64), .val (.int .i64), .val (.int .u64), .val (.int .i64), .val (.int .i64), .val (.int .i64), .val (.int .i64), .val (.int .i64), .val (.int .i64), .val (.int .i64), .val (.int .i64), .val (.int .i64), .val (.int .i64), .val (.int .i64), .val (.int .i64), .val (.int .i64), .val (.int .i64), .val (.slice (.slice (.int .i64))), .val (.int .u64), .val (.slice (.slice (.int .i64))), .val (.slice (.slice (.named 1))), .val (.slice (.named 2)), .val (.int .i64), .val (.slice (.slice (.int .i64))), .val (.slice (.int .u64)), .val (.slice (.slice (.int .i64))), .val (.int .u64), .val (.int .u64), .val (.int .i64), .val (.int .i64), .val .bool, .val .bool, .val (.int .i64), .val (.slice (.int .i64)), .val (.int .i64), .val (.int .i64), .val (.int .i64), .val (.slice (.int .i64)), .val (.slice (.named 9)), .val (.slice (.named 10)), .val (.int .i64), .val (.int .i64)]]⟩
def p_grey_machine_back_v1_o : Shape := ⟨[], [.box true [.val (.int .i64), .val (.int .i64), .val (.int .i64), .val (.int .i64), .val (.int .i64), .val (.int .i64), .val (.int .i64), .val (.int .i64), .val (.int .u64), .val (.int .u64), .val (.int .i64), .val (.int .i64), .val (.int .i64), .val (.int .i64), .val (.int .i64), .val (.int .i64), .val (.int .u64), .val (.int .i64), .val (.int .i64), .val (.int .i64), .val (.int .i64), .val (.int .i64), .val (.int .i64), .val (.int .i64), .val (.int .i64), .val (.int .i64), .val (.int .i64), .val (.int .i64), .val (.int .i64), .val (.int .i64), .val (.int .i64), .val (.slice (.slice (.int .i64))), .val (.int .u64), .val (.slice (.slice (.int .i64))), .val (.slice (.slice (.named 1))), .val (.slice (.named 2)), .val (.int .i64), .val (.slice (.slice (.int .i64))), .val (.slice (.int .u64)), .val (.slice (.slice (.int .i64))), .val (.int .u64), .val (.int .u64), .val (.int .i64), .val (.int .i64), .val .bool, .val .bool, .val (.int .i64), .val (.slice (.int .i64)), .val (.int .i64), .val (.int .i64), .val (.int .i64), .val (.slice (.int .i64)), .val (.slice (.named 9)), .val (.slice (.named 10)), .val (.int .i64), .val (.int .i64)]]⟩
noncomputable def p_grey_machine_back_v1 : Spec E := mkSpec p_grey_machine_back_v1_c Go.Proofs.Tryz.f64 p_grey_machine_back_v1_i p_grey_machine_back_v1_o [.str 15] [.str 15] (by kernel_rfl) (by kernel_rfl)
noncomputable def q_grey_machine_back_v1 (a1 : Sgrey_machine) : Option (Sgrey_machine × Unit) := p_grey_machine_back_v1.F (a1, ())
/-! besom/deque.steps -/
noncomputable def p_deque_steps_c : Cfg E := mkCfg Go.Proofs.Tryz.prog tab [] [] [] [] [] []
def p_deque_steps_i : Shape := ⟨[.val (.int .i64)], []⟩
def p_deque_stepsa_o : Shape := ⟨[.bsl 0 4], [.box true [.fn 183 [], .fn 184 [], .fn 185 [], .fn 186 []]]⟩
noncomputable def p_deque_stepsa : Spec E := mkSpec p_deque_steps_c Go.Proofs.Tryz.f161 p_deque_steps_i p_deque_stepsa_o [.one (.int .i64)] [] (by kernel_rfl) (by kernel_rfl)
noncomputable def q_deque_stepsa (a1 : Int) : Option (Unit) := p_deque_stepsa.F (a1, ())
def p_deque_stepsb_o : Shape := ⟨[.bsl 0 7], [.box true [.fn 183 [], .fn 187 [], .fn 188 [], .fn 189 [], .fn 190 [], .fn 191 [], .fn 192 []]]⟩
noncomputable def p_deque_stepsb : Spec E := mkSpec p_deque_steps_c Go.Proofs.Tryz.f161 p_deque_steps_i p_deque_stepsb_o [.one (.int .i64)] [] (by kernel_rfl) (by kernel_rfl)
noncomputable def q_deque_stepsb (a1 : Int) : Option (Unit) := p_deque_stepsb.F (a1, ())
def p_deque_stepsc_o : Shape := ⟨[.bsl 0 4], [.box true [.fn 193 [], .fn 194 [], .fn 195 [], .fn 196 []]]⟩
noncomputable def p_deque_stepsc : Spec E := mkSpec p_deque_steps_c Go.Proofs.Tryz.f161 p_deque_steps_i p_deque_stepsc_o [.one (.int .i64)] [] (by kernel_rfl) (by kernel_rfl)
noncomputable def q_deque_stepsc (a1 : Int) : Option (Unit) := p_deque_stepsc.F (a1, ())
def p_deque_stepsd_o : Shape := ⟨[.own 0], [.row true .bool]⟩
noncomputable def p_deque_stepsd : Spec E := mkSpec p_deque_steps_c Go.Proofs.Tryz.f161 p_deque_steps_i p_deque_stepsd_o [.one (.int .i64)] [.one (.slice .bool)] (by kernel_rfl) (by kernel_rfl)
noncomputable def q_deque_stepsd (a1 : Int) : Option ((List Bool) × Unit) := p_deque_stepsd.F (a1, ())
/-! besom/deque.load -/
noncomputable def p_deque_load_c : Cfg E := mkCfg Go.Proofs.Tryz.prog tab [(141, [p_mem_Do])] [] [] [] [] []
def p_deque_load_i : Shape := ⟨[.val (.slice (.int .u64)), .val (.int .i64)], []⟩
def p_deque_load_o : Shape := ⟨[.val (.int .u64)], []⟩
noncomputable def p_deque_load : Spec E := mkSpec p_deque_load_c Go.Proofs.Tryz.f86 p_deque_load_i p_deque_load_o [.one (.slice (.int .u64)), .one (.int .i64)] [.one (.int .u64)] (by kernel_rfl) (by kernel_rfl)
noncomputable def q_deque_load (a1 : List (BitVec 64)) (a2 : Int) : Option ((BitVec 64) × Unit) := p_deque_load.F (a1, a2, ())
/-! (*besom/deque.Machine).bottom -/
noncomputable def p_deque_Machine_bottom_c : Cfg E := mkCfg Go.Proofs.Tryz.prog tab [] [] [] [] [] []
def p_deque_Machine_bottom_i : Shape := ⟨[.ptr 0], [.box false [.val (.int .i64), .val (.int .i64), .val (.int .i64), .val (.int .i64), .val (.int .u64), .val (.int .u64), .val (.int .i64), .val (.int .i64)]]⟩
def p_deque_Machine_bottom_o : Shape := ⟨[.val (.int .i64)], [.gone]⟩
noncomputable def p_deque_Machine_bottom : Spec E := mkSpec p_deque_Machine_bottom_c Go.Proofs.Tryz.f88 p_deque_Machine_bottom_i p_deque_Machine_bottom_o [.str 6] [.one (.int .i64)] (by kernel_rfl) (by kernel_rfl)
noncomputable def q_deque_Machine_bottom (a1 : Sdeque_Machine) : Option (Int × Unit) := p_deque_Machine_bottom.F (a1, ())
/-! (*besom/deque.Machine).seeBottom -/
noncomputable def p_deque_Machine_seeBottom_v1_c : Cfg E := mkCfg Go.Proofs.Tryz.prog tab [(86, [p_deque_load]), (88, [p_deque_Machine_bottom])] [] [] [(0, some 0)] [] []
def p_deque_Machine_seeBottom_v1_i : Shape := ⟨[.ptr 0, .val (.slice (.int .u64))], [.box true [.val (.int .i64), .val (.int .i64), .val (.int .i64), .val (.int .i64), .val (.int .u64), .val (.int .u64), .val (.int .i64), .val (.int .i64)]]⟩
def p_deque_Machine_seeBottom_v1_o : Shape := ⟨[.val (.slice (.int .u64))], [.box true [.val (.int .i64), .val (.int .i64), .val (.int .i64), .val (.int .i64), .val (.int .u64), .val (.int .u64), .val (.int .i64), .val (.int .i64)]]⟩
noncomputable def p_deque_Machine_seeBottom_v1 : Spec E := mkSpec p_deque_Machine_seeBottom_v1_c Go.Proofs.Tryz.f183 p_deque_Machine_seeBottom_v1_i p_deque_Machine_seeBottom_v1_o [.one (.slice (.int .u64)), .str 6] [.one (.slice (.int .u64)), .str 6] (by kernel_rfl) (by kernel_rfl)
noncomputable def q_deque_Machine_seeBottom_v1 (a1 : List (BitVec 64)) (a2 : Sdeque_Machine) : Option ((List (BitVec 64)) × Sdeque_Machine × Unit) := p_deque_Machine_seeBottom_v1.F (a1, a2, ())
/-! (*besom/deque.Machine).top -/
noncomputable def p_deque_Machine_top_c : Cfg E := mkCfg Go.Proofs.Tryz.prog tab [] [] [] [] [] []
def p_deque_Machine_top_i : Shape := ⟨[.ptr 0], [.box false [.val (.int .i64), .val (.int .i64), .val (.int .i64), .val (.int .i64), .val (.int .u64), .val (.int .u64), .val (.int .i64), .val (.int .i64)]]⟩
def p_deque_Machine_top_o : Shape := ⟨[.val (.int .i64)], [.gone]⟩
noncomputable def p_deque_Machine_top : Spec E := mkSpec p_deque_Machine_top_c Go.Proofs.Tryz.f87 p_deque_Machine_top_i p_deque_Machine_top_o [.str 6] [.one (.int .i64)] (by kernel_rfl) (by kernel_rfl)
noncomputable def q_deque_Machine_top (a1 : Sdeque_Machine) : Option (Int × Unit) := p_deque_Machine_top.F (a1, ())
/-! (*besom/deque.Machine).size -/
noncomputable def p_deque_Machine_size_c : Cfg E := mkCfg Go.Proofs.Tryz.prog tab [] [] [] [] [] []
def p_deque_Machine_size_i : Shape := ⟨[.ptr 0], [.box false [.val (.int .i64), .val (.int .i64), .val (.int .i64), .val (.int .i64), .val (.int .u64), .val (.int .u64), .val (.int .i64), .val (.int .i64)]]⟩
def p_deque_Machine_size_o : Shape := ⟨[.val (.int .u64)], [.gone]⟩
noncomputable def p_deque_Machine_size : Spec E := mkSpec p_deque_Machine_size_c Go.Proofs.Tryz.f90 p_deque_Machine_size_i p_deque_Machine_size_o [.str 6] [.one (.int .u64)] (by kernel_rfl) (by kernel_rfl)
noncomputable def q_deque_Machine_size (a1 : Sdeque_Machine) : Option ((BitVec 64) × Unit) := p_deque_Machine_size.F (a1, ())
/-! (*besom/deque.Machine).end -/
noncomputable def p_deque_Machine_end_v1_c : Cfg E := mkCfg Go.Proofs.Tryz.prog tab [] [] [] [(0, some 0)] [] []
def p_deque_Machine_end_v1_i : Shape := ⟨[.ptr 0, .val (.int .i64)], [.box true [.val (.int .i64), .val (.int .i64), .val (.int .i64), .val (.int .i64), .val (.int .u64), .val (.int .u64), .val (.int .i64), .val (.int .i64)]]⟩
def p_deque_Machine_end_v1_o : Shape := ⟨[], [.box true [.val (.int .i64), .val (.int .i64), .val (.int .i64), .val (.int .i64), .val (.int .u64), .val (.int .u64), .val (.int .i64), .val (.int .i64)]]⟩
noncomputable def p_deque_Machine_end_v1 : Spec E := mkSpec p_deque_Machine_end_v1_c Go.Proofs.Tryz.f198 p_deque_Machine_end_v1_i p_deque_Machine_end_v1_o [.one (.int .i64), .str 6] [.str 6] (by kernel_rfl) (by kernel_rfl)
noncomputable def q_deque_Machine_end_v1 (a1 : Int) (a2 : Sdeque_Machine) : Option (Sdeque_Machine × Unit) := p_deque_Machine_end_v1.F (a1, a2, ())
/-! (*besom/deque.Machine).room -/
noncomputable def p_deque_Machine_room_v1_c : Cfg E := mkCfg Go.Proofs.Tryz.prog tab [(86, [p_deque_load]), (87, [p_deque_Machine_top]), (90, [p_deque_Machine_size]), (198, [p_deque_Machine_end_v1])] [] [] [(0, some 0)] [] []
def p_deque_Machine_room_v1_i : Shape := ⟨[.ptr 0, .val (.slice (.int .u64))], [.box true [.val (.int .i64), .val (.int .i64), .val (.int .i64), .val (.int .i64), .val (.int .u64), .val (.int .u64), .val (.int .i64), .val (.int .i64)]]⟩
def p_deque_Machine_room_v1_o : Shape := ⟨[.val (.slice (.int .u64))], [.box true [.val (.int .i64), .val (.int .i64), .val (.int .i64), .val (.int .i64), .val (.int .u64), .val (.int .u64), .val (.int .i64), .val (.int .i64)]]⟩
noncomputable def p_deque_Machine_room_v1 : Spec E := mkSpec p_deque_Machine_room_v1_c Go.Proofs.Tryz.f184 p_deque_Machine_room_v1_i p_deque_Machine_room_v1_o [.one (.slice (.int .u64)), .str 6] [.one (.slice (.int .u64)), .str 6] (by kernel_rfl) (by kernel_rfl)
noncomputable def q_deque_Machine_room_v1 (a1 : List (BitVec 64)) (a2 : Sdeque_Machine) : Option ((List (BitVec 64)) × Sdeque_Machine × Unit) := p_deque_Machine_room_v1.F (a1, a2, ())
/-! (*besom/deque.Machine).place -/
noncomputable def p_deque_Machine_place_c : Cfg E := mkCfg Go.Proofs.Tryz.prog tab [(90, [p_deque_Machine_size])] [] [] [] [] []
def p_deque_Machine_place_i : Shape := ⟨[.ptr 0, .val (.int .u64)], [.box false [.val (.int .i64), .val (.int .i64), .val (.int .i64), .val (.int .i64), .val (.int .u64), .val (.int .u64), .val (.int .i64), .val (.int .i64)]]⟩
def p_deque_Machine_place_o : Shape := ⟨[.val (.int .i64)], [.gone]⟩
noncomputable def p_deque_Machine_place : Spec E := mkSpec p_deque_Machine_place_c Go.Proofs.Tryz.f91 p_deque_Machine_place_i p_deque_Machine_place_o [.one (.int .u64), .str 6] [.one (.int .i64)] (by kernel_rfl) (by kernel_rfl)
noncomputable def q_deque_Machine_place (a1 : BitVec 64) (a2 : Sdeque_Machine) : Option (Int × Unit) := p_deque_Machine_place.F (a1, a2, ())
/-! besom/deque.store -/
noncomputable def p_deque_store_c : Cfg E := mkCfg Go.Proofs.Tryz.prog tab [(141, [p_mem_Do])] [] [] [] [] []
def p_deque_store_i : Shape := ⟨[.val (.slice (.int .u64)), .val (.int .i64), .val (.int .u64)], []⟩
def p_deque_store_o : Shape := ⟨[.val (.slice (.int .u64))], []⟩
noncomputable def p_deque_store : Spec E := mkSpec p_deque_store_c Go.Proofs.Tryz.f199 p_deque_store_i p_deque_store_o [.one (.slice (.int .u64)), .one (.int .i64), .one (.int .u64)] [.one (.slice (.int .u64))] (by kernel_rfl) (by kernel_rfl)
noncomputable def q_deque_store (a1 : List (BitVec 64)) (a2 : Int) (a3 : BitVec 64) : Option ((List (BitVec 64)) × Unit) := p_deque_store.F (a1, a2, a3, ())
/-! (*besom/deque.Machine).put -/
noncomputable def p_deque_Machine_put_c : Cfg E := mkCfg Go.Proofs.Tryz.prog tab [(91, [p_deque_Machine_place]), (199, [p_deque_store])] [] [] [] [] []
def p_deque_Machine_put_i : Shape := ⟨[.ptr 0, .val (.slice (.int .u64))], [.box false [.val (.int .i64), .val (.int .i64), .val (.int .i64), .val (.int .i64), .val (.int .u64), .val (.int .u64), .val (.int .i64), .val (.int .i64)]]⟩
def p_deque_Machine_put_o : Shape := ⟨[.val (.slice (.int .u64))], [.gone]⟩
noncomputable def p_deque_Machine_put : Spec E := mkSpec p_deque_Machine_put_c Go.Proofs.Tryz.f185 p_deque_Machine_put_i p_deque_Machine_put_o [.one (.slice (.int .u64)), .str 6] [.one (.slice (.int .u64))] (by kernel_rfl) (by kernel_rfl)
noncomputable def q_deque_Machine_put (a1 : List (BitVec 64)) (a2 : Sdeque_Machine) : Option ((List (BitVec 64)) × Unit) := p_deque_Machine_put.F (a1, a2, ())
/-! (*besom/deque.Machine).publish -/
noncomputable def p_deque_Machine_publish_v1_c : Cfg E := mkCfg Go.Proofs.Tryz.prog tab [(88, [p_deque_Machine_bottom]), (198, [p_deque_Machine_end_v1]), (199, [p_deque_store])] [] [] [(0, some 0)] [] []
def p_deque_Machine_publish_v1_i : Shape := ⟨[.ptr 0, .val (.slice (.int .u64))], [.box true [.val (.int .i64), .val (.int .i64), .val (.int .i64), .val (.int .i64), .val (.int .u64), .val (.int .u64), .val (.int .i64), .val (.int .i64)]]⟩
def p_deque_Machine_publish_v1_o : Shape := ⟨[.val (.slice (.int .u64))], [.box true [.val (.int .i64), .val (.int .i64), .val (.int .i64), .val (.int .i64), .val (.int .u64), .val (.int .u64), .val (.int .i64), .val (.int .i64)]]⟩
noncomputable def p_deque_Machine_publish_v1 : Spec E := mkSpec p_deque_Machine_publish_v1_c Go.Proofs.Tryz.f186 p_deque_Machine_publish_v1_i p_deque_Machine_publish_v1_o [.one (.slice (.int .u64)), .str 6] [.one (.slice (.int .u64)), .str 6] (by kernel_rfl) (by kernel_rfl)
noncomputable def q_deque_Machine_publish_v1 (a1 : List (BitVec 64)) (a2 : Sdeque_Machine) : Option ((List (BitVec 64)) × Sdeque_Machine × Unit) := p_deque_Machine_publish_v1.F (a1, a2, ())
/-! (*besom/deque.Machine).claim -/
noncomputable def p_deque_Machine_claim_c : Cfg E := mkCfg Go.Proofs.Tryz.prog tab [(88, [p_deque_Machine_bottom]), (199, [p_deque_store])] [] [] [] [] []
def p_deque_Machine_claim_i : Shape := ⟨[.ptr 0, .val (.slice (.int .u64))], [.box false [.val (.int .i64), .val (.int .i64), .val (.int .i64), .val (.int .i64), .val (.int .u64), .val (.int .u64), .val (.int .i64), .val (.int .i64)]]⟩
def p_deque_Machine_claim_o : Shape := ⟨[.val (.slice (.int .u64))], [.gone]⟩
noncomputable def p_deque_Machine_claim : Spec E := mkSpec p_deque_Machine_claim_c Go.Proofs.Tryz.f187 p_deque_Machine_claim_i p_deque_Machine_claim_o [.one (.slice (.int .u64)), .str 6] [.one (.slice (.int .u64))] (by kernel_rfl) (by kernel_rfl)
noncomputable def q_deque_Machine_claim (a1 : List (BitVec 64)) (a2 : Sdeque_Machine) : Option ((List (BitVec 64)) × Unit) := p_deque_Machine_claim.F (a1, a2, ())
/-! besom/deque.above -/
noncomputable def p_deque_above_c : Cfg E := mkCfg Go.Proofs.Tryz.prog tab [] [] [] [] [] []
def p_deque_above_i : Shape := ⟨[.val (.int .u64), .val (.int .u64)], []⟩
def p_deque_above_o : Shape := ⟨[.val .bool], []⟩
noncomputable def p_deque_above : Spec E := mkSpec p_deque_above_c Go.Proofs.Tryz.f89 p_deque_above_i p_deque_above_o [.one (.int .u64), .one (.int .u64)] [.one .bool] (by kernel_rfl) (by kernel_rfl)
noncomputable def q_deque_above (a1 : BitVec 64) (a2 : BitVec 64) : Option (Bool × Unit) := p_deque_above.F (a1, a2, ())
/-! (*besom/deque.Machine).seeTop -/
noncomputable def p_deque_Machine_seeTop_v1_c : Cfg E := mkCfg Go.Proofs.Tryz.prog tab [(86, [p_deque_load]), (87, [p_deque_Machine_top]), (89, [p_deque_above])] [] [] [(0, some 0)] [] []
def p_deque_Machine_seeTop_v1_i : Shape := ⟨[.ptr 0, .val (.slice (.int .u64))], [.box true [.val (.int .i64), .val (.int .i64), .val (.int .i64), .val (.int .i64), .val (.int .u64), .val (.int .u64), .val (.int .i64), .val (.int .i64)]]⟩
def p_deque_Machine_seeTop_v1_o : Shape := ⟨[.val (.slice (.int .u64))], [.box true [.val (.int .i64), .val (.int .i64), .val (.int .i64), .val (.int .i64), .val (.int .u64), .val (.int .u64), .val (.int .i64), .val (.int .i64)]]⟩
noncomputable def p_deque_Machine_seeTop_v1 : Spec E := mkSpec p_deque_Machine_seeTop_v1_c Go.Proofs.Tryz.f188 p_deque_Machine_seeTop_v1_i p_deque_Machine_seeTop_v1_o [.one (.slice (.int .u64)), .str 6] [.one (.slice (.int .u64)), .str 6] (by kernel_rfl) (by kernel_rfl)
noncomputable def q_deque_Machine_seeTop_v1 (a1 : List (BitVec 64)) (a2 : Sdeque_Machine) : Option ((List (BitVec 64)) × Sdeque_Machine × Unit) := p_deque_Machine_seeTop_v1.F (a1, a2, ())
/-! (*besom/deque.Machine).get -/
noncomputable def p_deque_Machine_get_v1_c : Cfg E := mkCfg Go.Proofs.Tryz.prog tab [(86, [p_deque_load]), (91, [p_deque_Machine_place]), (198, [p_deque_Machine_end_v1])] [] [] [(0, some 0)] [] []
def p_deque_Machine_get_v1_i : Shape := ⟨[.ptr 0, .val (.slice (.int .u64))], [.box true [.val (.int .i64), .val (.int .i64), .val (.int .i64), .val (.int .i64), .val (.int .u64), .val (.int .u64), .val (.int .i64), .val (.int .i64)]]⟩
def p_deque_Machine_get_v1_o : Shape := ⟨[.val (.slice (.int .u64))], [.box true [.val (.int .i64), .val (.int .i64), .val (.int .i64), .val (.int .i64), .val (.int .u64), .val (.int .u64), .val (.int .i64), .val (.int .i64)]]⟩
noncomputable def p_deque_Machine_get_v1 : Spec E := mkSpec p_deque_Machine_get_v1_c Go.Proofs.Tryz.f189 p_deque_Machine_get_v1_i p_deque_Machine_get_v1_o [.one (.slice (.int .u64)), .str 6] [.one (.slice (.int .u64)), .str 6] (by kernel_rfl) (by kernel_rfl)
noncomputable def q_deque_Machine_get_v1 (a1 : List (BitVec 64)) (a2 : Sdeque_Machine) : Option ((List (BitVec 64)) × Sdeque_Machine × Unit) := p_deque_Machine_get_v1.F (a1, a2, ())
/-! (*besom/deque.Machine).take -/
noncomputable def p_deque_Machine_take_c : Cfg E := mkCfg Go.Proofs.Tryz.prog tab [(87, [p_deque_Machine_top]), (141, [p_mem_Do])] [] [] [] [] []
def p_deque_Machine_take_i : Shape := ⟨[.ptr 0, .val (.slice (.int .u64))], [.box false [.val (.int .i64), .val (.int .i64), .val (.int .i64), .val (.int .i64), .val (.int .u64), .val (.int .u64), .val (.int .i64), .val (.int .i64)]]⟩
def p_deque_Machine_take_o : Shape := ⟨[.val (.slice (.int .u64)), .val .bool], [.gone]⟩
noncomputable def p_deque_Machine_take : Spec E := mkSpec p_deque_Machine_take_c Go.Proofs.Tryz.f200 p_deque_Machine_take_i p_deque_Machine_take_o [.one (.slice (.int .u64)), .str 6] [.one (.slice (.int .u64)), .one .bool] (by kernel_rfl) (by kernel_rfl)
noncomputable def q_deque_Machine_take (a1 : List (BitVec 64)) (a2 : Sdeque_Machine) : Option ((List (BitVec 64)) × Bool × Unit) := p_deque_Machine_take.F (a1, a2, ())
/-! (*besom/deque.Machine).race -/
noncomputable def p_deque_Machine_race_v1_c : Cfg E := mkCfg Go.Proofs.Tryz.prog tab [(200, [p_deque_Machine_take])] [] [] [(0, some 0)] [] []
def p_deque_Machine_race_v1_i : Shape := ⟨[.ptr 0, .val (.slice (.int .u64))], [.box true [.val (.int .i64), .val (.int .i64), .val (.int .i64), .val (.int .i64), .val (.int .u64), .val (.int .u64), .val (.int .i64), .val (.int .i64)]]⟩
def p_deque_Machine_race_v1_o : Shape := ⟨[.val (.slice (.int .u64))], [.box true [.val (.int .i64), .val (.int .i64), .val (.int .i64), .val (.int .i64), .val (.int .u64), .val (.int .u64), .val (.int .i64), .val (.int .i64)]]⟩
noncomputable def p_deque_Machine_race_v1 : Spec E := mkSpec p_deque_Machine_race_v1_c Go.Proofs.Tryz.f190 p_deque_Machine_race_v1_i p_deque_Machine_race_v1_o [.one (.slice (.int .u64)), .str 6] [.one (.slice (.int .u64)), .str 6] (by kernel_rfl) (by kernel_rfl)
noncomputable def q_deque_Machine_race_v1 (a1 : List (BitVec 64)) (a2 : Sdeque_Machine) : Option ((List (BitVec 64)) × Sdeque_Machine × Unit) := p_deque_Machine_race_v1.F (a1, a2, ())
/-! (*besom/deque.Machine).fail -/
noncomputable def p_deque_Machine_fail_v1_c : Cfg E := mkCfg Go.Proofs.Tryz.prog tab [(88, [p_deque_Machine_bottom]), (198, [p_deque_Machine_end_v1]), (199, [p_deque_store])] [] [] [(0, some 0)] [] []
def p_deque_Machine_fail_v1_i : Shape := ⟨[.ptr 0, .val (.slice (.int .u64))], [.box true [.val (.int .i64), .val (.int .i64), .val (.int .i64), .val (.int .i64), .val (.int .u64), .val (.int .u64), .val (.int .i64), .val (.int .i64)]]⟩
def p_deque_Machine_fail_v1_o : Shape := ⟨[.val (.slice (.int .u64))], [.box true [.val (.int .i64), .val (.int .i64), .val (.int .i64), .val (.int .i64), .val (.int .u64), .val (.int .u64), .val (.int .i64), .val (.int .i64)]]⟩
noncomputable def p_deque_Machine_fail_v1 : Spec E := mkSpec p_deque_Machine_fail_v1_c Go.Proofs.Tryz.f191 p_deque_Machine_fail_v1_i p_deque_Machine_fail_v1_o [.one (.slice (.int .u64)), .str 6] [.one (.slice (.int .u64)), .str 6] (by kernel_rfl) (by kernel_rfl)
noncomputable def q_deque_Machine_fail_v1 (a1 : List (BitVec 64)) (a2 : Sdeque_Machine) : Option ((List (BitVec 64)) × Sdeque_Machine × Unit) := p_deque_Machine_fail_v1.F (a1, a2, ())
/-! (*besom/deque.Machine).won -/
noncomputable def p_deque_Machine_won_v1_c : Cfg E := mkCfg Go.Proofs.Tryz.prog tab [(88, [p_deque_Machine_bottom]), (198, [p_deque_Machine_end_v1]), (199, [p_deque_store])] [] [] [(0, some 0)] [] []
def p_deque_Machine_won_v1_i : Shape := ⟨[.ptr 0, .val (.slice (.int .u64))], [.box true [.val (.int .i64), .val (.int .i64), .val (.int .i64), .val (.int .i64), .val (.int .u64), .val (.int .u64), .val (.int .i64), .val (.int .i64)]]⟩
def p_deque_Machine_won_v1_o : Shape := ⟨[.val (.slice (.int .u64))], [.box true [.val (.int .i64), .val (.int .i64), .val (.int .i64), .val (.int .i64), .val (.int .u64), .val (.int .u64), .val (.int .i64), .val (.int .i64)]]⟩
noncomputable def p_deque_Machine_won_v1 : Spec E := mkSpec p_deque_Machine_won_v1_c Go.Proofs.Tryz.f192 p_deque_Machine_won_v1_i p_deque_Machine_won_v1_o [.one (.slice (.int .u64)), .str 6] [.one (.slice (.int .u64)), .str 6] (by kernel_rfl) (by kernel_rfl)
noncomputable def q_deque_Machine_won_v1 (a1 : List (BitVec 64)) (a2 : Sdeque_Machine) : Option ((List (BitVec 64)) × Sdeque_Machine × Unit) := p_deque_Machine_won_v1.F (a1, a2, ())
/-! (*besom/deque.Machine).aim -/
noncomputable def p_deque_Machine_aim_v1_c : Cfg E := mkCfg Go.Proofs.Tryz.prog tab [(86, [p_deque_load]), (87, [p_deque_Machine_top])] [] [] [(0, some 0)] [] []
def p_deque_Machine_aim_v1_i : Shape := ⟨[.ptr 0, .val (.slice (.int .u64))], [.box true [.val (.int .i64), .val (.int .i64), .val (.int .i64), .val (.int .i64), .val (.int .u64), .val (.int .u64), .val (.int .i64), .val (.int .i64)]]⟩
def p_deque_Machine_aim_v1_o : Shape := ⟨[.val (.slice (.int .u64))], [.box true [.val (.int .i64), .val (.int .i64), .val (.int .i64), .val (.int .i64), .val (.int .u64), .val (.int .u64), .val (.int .i64), .val (.int .i64)]]⟩
noncomputable def p_deque_Machine_aim_v1 : Spec E := mkSpec p_deque_Machine_aim_v1_c Go.Proofs.Tryz.f193 p_deque_Machine_aim_v1_i p_deque_Machine_aim_v1_o [.one (.slice (.int .u64)), .str 6] [.one (.slice (.int .u64)), .str 6] (by kernel_rfl) (by kernel_rfl)
noncomputable def q_deque_Machine_aim_v1 (a1 : List (BitVec 64)) (a2 : Sdeque_Machine) : Option ((List (BitVec 64)) × Sdeque_Machine × Unit) := p_deque_Machine_aim_v1.F (a1, a2, ())
/-! (*besom/deque.Machine).any -/
noncomputable def p_deque_Machine_any_v1_c : Cfg E := mkCfg Go.Proofs.Tryz.prog tab [(86, [p_deque_load]), (88, [p_deque_Machine_bottom]), (89, [p_deque_above])] [] [] [(0, some 0)] [] []
def p_deque_Machine_any_v1_i : Shape := ⟨[.ptr 0, .val (.slice (.int .u64))], [.box true [.val (.int .i64), .val (.int .i64), .val (.int .i64), .val (.int .i64), .val (.int .u64), .val (.int .u64), .val (.int .i64), .val (.int .i64)]]⟩
def p_deque_Machine_any_v1_o : Shape := ⟨[.val (.slice (.int .u64))], [.box true [.val (.int .i64), .val (.int .i64), .val (.int .i64), .val (.int .i64), .val (.int .u64), .val (.int .u64), .val (.int .i64), .val (.int .i64)]]⟩
noncomputable def p_deque_Machine_any_v1 : Spec E := mkSpec p_deque_Machine_any_v1_c Go.Proofs.Tryz.f194 p_deque_Machine_any_v1_i p_deque_Machine_any_v1_o [.one (.slice (.int .u64)), .str 6] [.one (.slice (.int .u64)), .str 6] (by kernel_rfl) (by kernel_rfl)
noncomputable def q_deque_Machine_any_v1 (a1 : List (BitVec 64)) (a2 : Sdeque_Machine) : Option ((List (BitVec 64)) × Sdeque_Machine × Unit) := p_deque_Machine_any_v1.F (a1, a2, ())
/-! (*besom/deque.Machine).peek -/
noncomputable def p_deque_Machine_peek_v1_c : Cfg E := mkCfg Go.Proofs.Tryz.prog tab [(86, [p_deque_load]), (91, [p_deque_Machine_place])] [] [] [(0, some 0)] [] []
def p_deque_Machine_peek_v1_i : Shape := ⟨[.ptr 0, .val (.slice (.int .u64))], [.box true [.val (.int .i64), .val (.int .i64), .val (.int .i64), .val (.int .i64), .val (.int .u64), .val (.int .u64), .val (.int .i64), .val (.int .i64)]]⟩
def p_deque_Machine_peek_v1_o : Shape := ⟨[.val (.slice (.int .u64))], [.box true [.val (.int .i64), .val (.int .i64), .val (.int .i64), .val (.int .i64), .val (.int .u64), .val (.int .u64), .val (.int .i64), .val (.int .i64)]]⟩
noncomputable def p_deque_Machine_peek_v1 : Spec E := mkSpec p_deque_Machine_peek_v1_c Go.Proofs.Tryz.f195 p_deque_Machine_peek_v1_i p_deque_Machine_peek_v1_o [.one (.slice (.int .u64)), .str 6] [.one (.slice (.int .u64)), .str 6] (by kernel_rfl) (by kernel_rfl)
noncomputable def q_deque_Machine_peek_v1 (a1 : List (BitVec 64)) (a2 : Sdeque_Machine) : Option ((List (BitVec 64)) × Sdeque_Machine × Unit) := p_deque_Machine_peek_v1.F (a1, a2, ())
/-! (*besom/deque.Machine).snatch -/
noncomputable def p_deque_Machine_snatch_v1_c : Cfg E := mkCfg Go.Proofs.Tryz.prog tab [(198, [p_deque_Machine_end_v1]), (200, [p_deque_Machine_take])] [] [] [(0, some 0)] [] []
def p_deque_Machine_snatch_v1_i : Shape := ⟨[.ptr 0, .val (.slice (.int .u64))], [.box true [.val (.int .i64), .val (.int .i64), .val (.int .i64), .val (.int .i64), .val (.int .u64), .val (.int .u64), .val (.int .i64), .val (.int .i64)]]⟩
def p_deque_Machine_snatch_v1_o : Shape := ⟨[.val (.slice (.int .u64))], [.box true [.val (.int .i64), .val (.int .i64), .val (.int .i64), .val (.int .i64), .val (.int .u64), .val (.int .u64), .val (.int .i64), .val (.int .i64)]]⟩
noncomputable def p_deque_Machine_snatch_v1 : Spec E := mkSpec p_deque_Machine_snatch_v1_c Go.Proofs.Tryz.f196 p_deque_Machine_snatch_v1_i p_deque_Machine_snatch_v1_o [.one (.slice (.int .u64)), .str 6] [.one (.slice (.int .u64)), .str 6] (by kernel_rfl) (by kernel_rfl)
noncomputable def q_deque_Machine_snatch_v1 (a1 : List (BitVec 64)) (a2 : Sdeque_Machine) : Option ((List (BitVec 64)) × Sdeque_Machine × Unit) := p_deque_Machine_snatch_v1.F (a1, a2, ())
/-! besom/deque.Step -/
noncomputable def p_deque_Step_c : Cfg E := mkCfg Go.Proofs.Tryz.prog tab [(161, [p_deque_stepsa, p_deque_stepsb, p_deque_stepsc, p_deque_stepsd]), (183, [p_deque_Machine_seeBottom_v1]), (184, [p_deque_Machine_room_v1]), (185, [p_deque_Machine_put]), (186, [p_deque_Machine_publish_v1]), (187, [p_deque_Machine_claim]), (188, [p_deque_Machine_seeTop_v1]), (189, [p_deque_Machine_get_v1]), (190, [p_deque_Machine_race_v1]), (191, [p_deque_Machine_fail_v1]), (192, [p_deque_Machine_won_v1]), (193, [p_deque_Machine_aim_v1]), (194, [p_deque_Machine_any_v1]), (195, [p_deque_Machine_peek_v1]), (196, [p_deque_Machine_snatch_v1])] [] [] [] [(1, 2, [0, 1, 2, 3])] []
def p_deque_Step_i : Shape := ⟨[.val (.slice (.int .u64)), .val (.named 6)], []⟩
def p_deque_Step_o : Shape := ⟨[.val (.slice (.int .u64)), .val (.named 6)], []⟩
noncomputable def p_deque_Step : Spec E := mkSpec p_deque_Step_c Go.Proofs.Tryz.f122 p_deque_Step_i p_deque_Step_o [.one (.slice (.int .u64)), .one (.named 6)] [.one (.slice (.int .u64)), .one (.named 6)] (by kernel_rfl) (by kernel_rfl)
noncomputable def q_deque_Step (a1 : List (BitVec 64)) (a2 : Sdeque_Machine) : Option ((List (BitVec 64)) × Sdeque_Machine × Unit) := p_deque_Step.F (a1, a2, ())
/-! (*besom/grey.machine).push -/
noncomputable def p_grey_machine_push_v1_c : Cfg E := mkCfg Go.Proofs.Tryz.prog tab [(121, [p_grey_machine_ask_v1]), (122, [p_deque_Step])] [] [] [(0, some 0)] [] []
def p_grey_machine_push_v1_i : Shape := ⟨[.ptr 0], [.box true [.val (.int .i64), .val (.int .i64), .val (.int .i64), .val (.int .i64), .val (.int .i64), .val (.int .i64), .val (.int .i64), .val (.int .i64), .val (.int .u64), .val (.int .u64), .val (.int .i64), .val (.int .i64), .val (.int .i64), .val (.int .i64), .val (.int .i64), .val (.int .i64), .val (.int .u64), .val (.int .i64), .val (.int .i64), .val (.int .i64), .val (.int .i64), .val (.int .i64), .val (.int .i64), .val (.int .i64), .val (.int .i64), .val (.int .i64), .val (.int .i64), .val (.int .i64), .val (.int .i64), .val (.int .i64), .val (.int .i64), .val (.slice (.slice (.int .i64))), .val (.int .u64), .val (.slice (.slice (.int .i64))), .val (.slice (.slice (.named 1))), .val (.slice (.named 2)), .val (.int .i64), .val (.slice (.slice (.int .i64))), .val (.slice (.int .u64)), .val (.slice (.slice (.int .i64))), .val (.int .u64), .val (.int .u64), .val (.int .i64), .val (.int .i64), .val .bool, .val .bool, .val (.int .i64), .val (.slice (.int .i64)), .val (.int .i64), .val (.int .i64), .val (.int .i64), .val (.slice (.int .i64)), .val (.slice (.named 9)), .val (.slice (.named 10)), .val (.int .i64), .val (.int .i64)]]⟩
def p_grey_machine_push_v1_o : Shape := ⟨[], [.box true [.val (.int .i64), .val (.int .i64), .val (.int .i64), .val (.int .i64), .val (.int .i64), .val (.int .i64), .val (.int .i64), .val (.int .i64), .val (.int .u64), .val (.int .u64), .val (.int .i64), .val (.int .i64), .val (.int .i64), .val (.int .i64), .val (.int .i64), .val (.int .i64), .val (.int .u64), .val (.int .i64), .val (.int .i64), .val (.int .i64), .val (.int .i64), .val (.int .i64), .val (.int .i64), .val (.int .i64), .val (.int .i64), .val (.int .i64), .val (.int .i64), .val (.int .i64), .val (.int .i64), .val (.int .i64), .val (.int .i64), .val (.slice (.slice (.int .i64))), .val (.int .u64), .val (.slice (.slice (.int .i64))), .val (.slice (.slice (.named 1))), .val (.slice (.named 2)), .val (.int .i64), .val (.slice (.slice (.int .i64))), .val (.slice (.int .u64)), .val (.slice (.slice (.int .i64))), .val (.int .u64), .val (.int .u64), .val (.int .i64), .val (.int .i64), .val .bool, .val .bool, .val (.int .i64), .val (.slice (.int .i64)), .val (.int .i64), .val (.int .i64), .val (.int .i64), .val (.slice (.int .i64)), .val (.slice (.named 9)), .val (.slice (.named 10)), .val (.int .i64), .val (.int .i64)]]⟩
noncomputable def p_grey_machine_push_v1 : Spec E := mkSpec p_grey_machine_push_v1_c Go.Proofs.Tryz.f65 p_grey_machine_push_v1_i p_grey_machine_push_v1_o [.str 15] [.str 15] (by kernel_rfl) (by kernel_rfl)
noncomputable def q_grey_machine_push_v1 (a1 : Sgrey_machine) : Option (Sgrey_machine × Unit) := p_grey_machine_push_v1.F (a1, ())
/-! (*besom/grey.machine).tell -/
noncomputable def p_grey_machine_tell_v1_c : Cfg E := mkCfg Go.Proofs.Tryz.prog tab [(121, [p_grey_machine_ask_v1])] [] [] [(0, some 0)] [] []
def p_grey_machine_tell_v1_i : Shape := ⟨[.ptr 0], [.box true [.val (.int .i64), .val (.int .i64), .val (.int .i64), .val (.int .i64), .val (.int .i64), .val (.int .i64), .val (.int .i64), .val (.int .i64), .val (.int .u64), .val (.int .u64), .val (.int .i64), .val (.int .i64), .val (.int .i64), .val (.int .i64), .val (.int .i64), .val (.int .i64), .val (.int .u64), .val (.int .i64), .val (.int .i64), .val (.int .i64), .val (.int .i64), .val (.int .i64), .val (.int .i64), .val (.int .i64), .val (.int .i64), .val (.int .i64), .val (.int .i64), .val (.int .i64), .val (.int .i64), .val (.int .i64), .val (.int .i64), .val (.slice (.slice (.int .i64))), .val (.int .u64), .val (.slice (.slice (.int .i64))), .val (.slice (.slice (.named 1))), .val (.slice (.named 2)), .val (.int .i64), .val (.slice (.slice (.int .i64))), .val (.slice (.int .u64)), .val (.slice (.slice (.int .i64))), .val (.int .u64), .val (.int .u64), .val (.int .i64), .val (.int .i64), .val .bool, .val .bool, .val (.int .i64), .val (.slice (.int .i64)), .val (.int .i64), .val (.int .i64), .val (.int .i64), .val (.slice (.int .i64)), .val (.slice (.named 9)), .val (.slice (.named 10)), .val (.int .i64), .val (.int .i64)]]⟩
def p_grey_machine_tell_v1_o : Shape := ⟨[], [.box true [.val (.int .i64), .val (.int .i64), .val (.int .i64), .val (.int .i64), .val (.int .i64), .val (.int .i64), .val (.int .i64), .val (.int .i64), .val (.int .u64), .val (.int .u64), .val (.int .i64), .val (.int .i64), .val (.int .i64), .val (.int .i64), .val (.int .i64), .val (.int .i64), .val (.int .u64), .val (.int .i64), .val (.int .i64), .val (.int .i64), .val (.int .i64), .val (.int .i64), .val (.int .i64), .val (.int .i64), .val (.int .i64), .val (.int .i64), .val (.int .i64), .val (.int .i64), .val (.int .i64), .val (.int .i64), .val (.int .i64), .val (.slice (.slice (.int .i64))), .val (.int .u64), .val (.slice (.slice (.int .i64))), .val (.slice (.slice (.named 1))), .val (.slice (.named 2)), .val (.int .i64), .val (.slice (.slice (.int .i64))), .val (.slice (.int .u64)), .val (.slice (.slice (.int .i64))), .val (.int .u64), .val (.int .u64), .val (.int .i64), .val (.int .i64), .val .bool, .val .bool, .val (.int .i64), .val (.slice (.int .i64)), .val (.int .i64), .val (.int .i64), .val (.int .i64), .val (.slice (.int .i64)), .val (.slice (.named 9)), .val (.slice (.named 10)), .val (.int .i64), .val (.int .i64)]]⟩
noncomputable def p_grey_machine_tell_v1 : Spec E := mkSpec p_grey_machine_tell_v1_c Go.Proofs.Tryz.f66 p_grey_machine_tell_v1_i p_grey_machine_tell_v1_o [.str 15] [.str 15] (by kernel_rfl) (by kernel_rfl)
noncomputable def q_grey_machine_tell_v1 (a1 : Sgrey_machine) : Option (Sgrey_machine × Unit) := p_grey_machine_tell_v1.F (a1, ())
/-! besom/chain.Node -/
noncomputable def p_chain_Node_c : Cfg E := mkCfg Go.Proofs.Tryz.prog tab [] [] [] [] [] []
def p_chain_Node_i : Shape := ⟨[.val (.int .u64)], []⟩
def p_chain_Node_o : Shape := ⟨[.val (.int .i64)], []⟩
noncomputable def p_chain_Node : Spec E := mkSpec p_chain_Node_c Go.Proofs.Tryz.f92 p_chain_Node_i p_chain_Node_o [.one (.int .u64)] [.one (.int .i64)] (by kernel_rfl) (by kernel_rfl)
noncomputable def q_chain_Node (a1 : BitVec 64) : Option (Int × Unit) := p_chain_Node.F (a1, ())
/-! besom/chain.load -/
noncomputable def p_chain_load_c : Cfg E := mkCfg Go.Proofs.Tryz.prog tab [(141, [p_mem_Do])] [] [] [] [] []
def p_chain_load_i : Shape := ⟨[.val (.slice (.int .u64)), .val (.int .i64)], []⟩
def p_chain_load_o : Shape := ⟨[.val (.int .u64)], []⟩
noncomputable def p_chain_load : Spec E := mkSpec p_chain_load_c Go.Proofs.Tryz.f93 p_chain_load_i p_chain_load_o [.one (.slice (.int .u64)), .one (.int .i64)] [.one (.int .u64)] (by kernel_rfl) (by kernel_rfl)
noncomputable def q_chain_load (a1 : List (BitVec 64)) (a2 : Int) : Option ((BitVec 64) × Unit) := p_chain_load.F (a1, a2, ())
/-! (*besom/chain.Machine).see -/
noncomputable def p_chain_Machine_see_v1_c : Cfg E := mkCfg Go.Proofs.Tryz.prog tab [(92, [p_chain_Node]), (93, [p_chain_load])] [] [] [(0, some 0)] [] []
def p_chain_Machine_see_v1_i : Shape := ⟨[.ptr 0, .val (.slice (.int .u64))], [.box true [.val (.int .i64), .val (.int .i64), .val (.int .i64), .val (.int .i64), .val (.int .u64), .val (.int .i64), .val (.int .i64), .val (.int .i64)]]⟩
def p_chain_Machine_see_v1_o : Shape := ⟨[.val (.slice (.int .u64))], [.box true [.val (.int .i64), .val (.int .i64), .val (.int .i64), .val (.int .i64), .val (.int .u64), .val (.int .i64), .val (.int .i64), .val (.int .i64)]]⟩
noncomputable def p_chain_Machine_see_v1 : Spec E := mkSpec p_chain_Machine_see_v1_c Go.Proofs.Tryz.f162 p_chain_Machine_see_v1_i p_chain_Machine_see_v1_o [.one (.slice (.int .u64)), .str 7] [.one (.slice (.int .u64)), .str 7] (by kernel_rfl) (by kernel_rfl)
noncomputable def q_chain_Machine_see_v1 (a1 : List (BitVec 64)) (a2 : Schain_Machine) : Option ((List (BitVec 64)) × Schain_Machine × Unit) := p_chain_Machine_see_v1.F (a1, a2, ())
/-! (*besom/chain.Machine).link -/
noncomputable def p_chain_Machine_link_c : Cfg E := mkCfg Go.Proofs.Tryz.prog tab [(92, [p_chain_Node]), (116, [p_chain_store])] [] [] [] [] []
def p_chain_Machine_link_i : Shape := ⟨[.ptr 0, .val (.slice (.int .u64))], [.box false [.val (.int .i64), .val (.int .i64), .val (.int .i64), .val (.int .i64), .val (.int .u64), .val (.int .i64), .val (.int .i64), .val (.int .i64)]]⟩
def p_chain_Machine_link_o : Shape := ⟨[.val (.slice (.int .u64))], [.gone]⟩
noncomputable def p_chain_Machine_link : Spec E := mkSpec p_chain_Machine_link_c Go.Proofs.Tryz.f163 p_chain_Machine_link_i p_chain_Machine_link_o [.one (.slice (.int .u64)), .str 7] [.one (.slice (.int .u64))] (by kernel_rfl) (by kernel_rfl)
noncomputable def q_chain_Machine_link (a1 : List (BitVec 64)) (a2 : Schain_Machine) : Option ((List (BitVec 64)) × Unit) := p_chain_Machine_link.F (a1, a2, ())
/-! (*besom/chain.Machine).swap -/
noncomputable def p_chain_Machine_swap_v1_c : Cfg E := mkCfg Go.Proofs.Tryz.prog tab [(92, [p_chain_Node]), (117, [p_chain_Pack]), (141, [p_mem_Do])] [] [] [(0, some 0)] [] []
def p_chain_Machine_swap_v1_i : Shape := ⟨[.ptr 0, .val (.slice (.int .u64))], [.box true [.val (.int .i64), .val (.int .i64), .val (.int .i64), .val (.int .i64), .val (.int .u64), .val (.int .i64), .val (.int .i64), .val (.int .i64)]]⟩
def p_chain_Machine_swap_v1_o : Shape := ⟨[.val (.slice (.int .u64))], [.box true [.val (.int .i64), .val (.int .i64), .val (.int .i64), .val (.int .i64), .val (.int .u64), .val (.int .i64), .val (.int .i64), .val (.int .i64)]]⟩
noncomputable def p_chain_Machine_swap_v1 : Spec E := mkSpec p_chain_Machine_swap_v1_c Go.Proofs.Tryz.f164 p_chain_Machine_swap_v1_i p_chain_Machine_swap_v1_o [.one (.slice (.int .u64)), .str 7] [.one (.slice (.int .u64)), .str 7] (by kernel_rfl) (by kernel_rfl)
noncomputable def q_chain_Machine_swap_v1 (a1 : List (BitVec 64)) (a2 : Schain_Machine) : Option ((List (BitVec 64)) × Schain_Machine × Unit) := p_chain_Machine_swap_v1.F (a1, a2, ())
/-! (*besom/chain.Machine).behind -/
noncomputable def p_chain_Machine_behind_v1_c : Cfg E := mkCfg Go.Proofs.Tryz.prog tab [(92, [p_chain_Node]), (93, [p_chain_load])] [] [] [(0, some 0)] [] []
def p_chain_Machine_behind_v1_i : Shape := ⟨[.ptr 0, .val (.slice (.int .u64))], [.box true [.val (.int .i64), .val (.int .i64), .val (.int .i64), .val (.int .i64), .val (.int .u64), .val (.int .i64), .val (.int .i64), .val (.int .i64)]]⟩
def p_chain_Machine_behind_v1_o : Shape := ⟨[.val (.slice (.int .u64))], [.box true [.val (.int .i64), .val (.int .i64), .val (.int .i64), .val (.int .i64), .val (.int .u64), .val (.int .i64), .val (.int .i64), .val (.int .i64)]]⟩
noncomputable def p_chain_Machine_behind_v1 : Spec E := mkSpec p_chain_Machine_behind_v1_c Go.Proofs.Tryz.f165 p_chain_Machine_behind_v1_i p_chain_Machine_behind_v1_o [.one (.slice (.int .u64)), .str 7] [.one (.slice (.int .u64)), .str 7] (by kernel_rfl) (by kernel_rfl)
noncomputable def q_chain_Machine_behind_v1 (a1 : List (BitVec 64)) (a2 : Schain_Machine) : Option ((List (BitVec 64)) × Schain_Machine × Unit) := p_chain_Machine_behind_v1.F (a1, a2, ())
/-! besom/chain.Step -/
noncomputable def p_chain_Step_c : Cfg E := mkCfg Go.Proofs.Tryz.prog tab [(162, [p_chain_Machine_see_v1]), (163, [p_chain_Machine_link]), (164, [p_chain_Machine_swap_v1]), (165, [p_chain_Machine_behind_v1])] [] [] [] [] []
def p_chain_Step_i : Shape := ⟨[.val (.slice (.int .u64)), .val (.named 7)], []⟩
def p_chain_Step_o : Shape := ⟨[.val (.slice (.int .u64)), .val (.named 7)], []⟩
noncomputable def p_chain_Step : Spec E := mkSpec p_chain_Step_c Go.Proofs.Tryz.f123 p_chain_Step_i p_chain_Step_o [.one (.slice (.int .u64)), .one (.named 7)] [.one (.slice (.int .u64)), .one (.named 7)] (by kernel_rfl) (by kernel_rfl)
noncomputable def q_chain_Step (a1 : List (BitVec 64)) (a2 : Schain_Machine) : Option ((List (BitVec 64)) × Schain_Machine × Unit) := p_chain_Step.F (a1, a2, ())
/-! (*besom/grey.machine).take -/
noncomputable def p_grey_machine_take_v1_c : Cfg E := mkCfg Go.Proofs.Tryz.prog tab [(121, [p_grey_machine_ask_v1]), (123, [p_chain_Step])] [] [] [(0, some 0)] [] []
def p_grey_machine_take_v1_i : Shape := ⟨[.ptr 0], [.box true [.val (.int .i64), .val (.int .i64), .val (.int .i64), .val (.int .i64), .val (.int .i64), .val (.int .i64), .val (.int .i64), .val (.int .i64), .val (.int .u64), .val (.int .u64), .val (.int .i64), .val (.int .i64), .val (.int .i64), .val (.int .i64), .val (.int .i64), .val (.int .i64), .val (.int .u64), .val (.int .i64), .val (.int .i64), .val (.int .i64), .val (.int .i64), .val (.int .i64), .val (.int .i64), .val (.int .i64), .val (.int .i64), .val (.int .i64), .val (.int .i64), .val (.int .i64), .val (.int .i64), .val (.int .i64), .val (.int .i64), .val (.slice (.slice (.int .i64))), .val (.int .u64), .val (.slice (.slice (.int .i64))), .val (.slice (.slice (.named 1))), .val (.slice (.named 2)), .val (.int .i64), .val (.slice (.slice (.int .i64))), .val (.slice (.int .u64)), .val (.slice (.slice (.int .i64))), .val (.int .u64), .val (.int .u64), .val (.int .i64), .val (.int .i64), .val .bool, .val .bool, .val (.int .i64), .val (.slice (.int .i64)), .val (.int .i64), .val (.int .i64), .val (.int .i64), .val (.slice (.int .i64)), .val (.slice (.named 9)), .val (.slice (.named 10)), .val (.int .i64), .val (.int .i64)]]⟩
def p_grey_machine_take_v1_o : Shape := ⟨[], [.box true [.val (.int .i64), .val (.int .i64), .val (.int .i64), .val (.int .i64), .val (.int .i64), .val (.int .i64), .val (.int .i64), .val (.int .i64), .val (.int .u64), .val (.int .u64), .val (.int .i64), .val (.int .i64), .val (.int .i64), .val (.int .i64), .val (.int .i64), .val (.int .i64), .val (.int .u64), .val (.int .i64), .val (.int .i64), .val (.int .i64), .val (.int .i64), .val (.int .i64), .val (.int .i64), .val (.int .i64), .val (.int .i64), .val (.int .i64), .val (.int .i64), .val (.int .i64), .val (.int .i64), .val (.int .i64), .val (.int .i64), .val (.slice (.slice (.int .i64))), .val (.int .u64), .val (.slice (.slice (.int .i64))), .val (.slice (.slice (.named 1))), .val (.slice (.named 2)), .val (.int .i64), .val (.slice (.slice (.int .i64))), .val (.slice (.int .u64)), .val (.slice (.slice (.int .i64))), .val (.int .u64), .val (.int .u64), .val (.int .i64), .val (.int .i64), .val .bool, .val .bool, .val (.int .i64), .val (.slice (.int .i64)), .val (.int .i64), .val (.int .i64), .val (.int .i64), .val (.slice (.int .i64)), .val (.slice (.named 9)), .val (.slice (.named 10)), .val (.int .i64), .val (.int .i64)]]⟩
noncomputable def p_grey_machine_take_v1 : Spec E := mkSpec p_grey_machine_take_v1_c Go.Proofs.Tryz.f67 p_grey_machine_take_v1_i p_grey_machine_take_v1_o [.str 15] [.str 15] (by kernel_rfl) (by kernel_rfl)
noncomputable def q_grey_machine_take_v1 (a1 : Sgrey_machine) : Option (Sgrey_machine × Unit) := p_grey_machine_take_v1.F (a1, ())
/-! slices.Clone[[][]int,[]int] -/
noncomputable def p_slices_Clone_LLint_Lint_c : Cfg E := mkCfg Go.Proofs.Tryz.prog tab [] [] [] [] [] []
def p_slices_Clone_LLint_Lint_i : Shape := ⟨[.val (.slice (.slice (.int .i64)))], []⟩
def p_slices_Clone_LLint_Lint_o : Shape := ⟨[.own 0], [.row true (.slice (.int .i64))]⟩
noncomputable def p_slices_Clone_LLint_Lint : Spec E := mkSpec p_slices_Clone_LLint_Lint_c Go.Proofs.Tryz.f124 p_slices_Clone_LLint_Lint_i p_slices_Clone_LLint_Lint_o [.one (.slice (.slice (.int .i64)))] [.one (.slice (.slice (.int .i64)))] (by kernel_rfl) (by kernel_rfl)
noncomputable def q_slices_Clone_LLint_Lint (a1 : List (List Int)) : Option ((List (List Int)) × Unit) := p_slices_Clone_LLint_Lint.F (a1, ())
/-! (*besom/grey.machine).fill -/
noncomputable def p_grey_machine_fill_v1_c : Cfg E := mkCfg Go.Proofs.Tryz.prog tab [(35, [p_state_Full]), (36, [p_state_Next]), (124, [p_slices_Clone_LLint_Lint]), (125, [p_chain_Start])] [] [] [(0, some 0)] [] []
def p_grey_machine_fill_v1_i : Shape := ⟨[.ptr 0], [.box true [.val (.int .i64), .val (.int .i64), .val (.int .i64), .val (.int .i64), .val (.int .i64), .val (.int .i64), .val (.int .i64), .val (.int .i64), .val (.int .u64), .val (.int .u64), .val (.int .i64), .val (.int .i64), .val (.int .i64), .val (.int .i64), .val (.int .i64), .val (.int .i64), .val (.int .u64), .val (.int .i64), .val (.int .i64), .val (.int .i64), .val (.int .i64), .val (.int .i64), .val (.int .i64), .val (.int .i64), .val (.int .i64), .val (.int .i64), .val (.int .i64), .val (.int .i64), .val (.int .i64), .val (.int .i64), .val (.int .i64), .val (.slice (.slice (.int .i64))), .val (.int .u64), .val (.slice (.slice (.int .i64))), .val (.slice (.slice (.named 1))), .val (.slice (.named 2)), .val (.int .i64), .val (.slice (.slice (.int .i64))), .val (.slice (.int .u64)), .val (.slice (.slice (.int .i64))), .val (.int .u64), .val (.int .u64), .val (.int .i64), .val (.int .i64), .val .bool, .val .bool, .val (.int .i64), .val (.slice (.int .i64)), .val (.int .i64), .val (.int .i64), .val (.int .i64), .val (.slice (.int .i64)), .val (.slice (.named 9)), .val (.slice (.named 10)), .val (.int .i64), .val (.int .i64)]]⟩
def p_grey_machine_fill_v1_o : Shape := ⟨[], [.box true [.val (.int .i64), .val (.int .i64), .val (.int .i64), .val (.int .i64), .val (.int .i64), .val (.int .i64), .val (.int .i64), .val (.int .i64), .val (.int .u64), .val (.int .u64), .val (.int .i64), .val (.int .i64), .val (.int .i64), .val (.int .i64), .val (.int .i64), .val (.int .i64), .val (.int .u64), .val (.int .i64), .val (.int .i64), .val (.int .i64), .val (.int .i64), .val (.int .i64), .val (.int .i64), .val (.int .i64), .val (.int .i64), .val (.int .i64), .val (.int .i64), .val (.int .i64), .val (.int .i64), .val (.int .i64), .val (.int .i64), .val (.slice (.slice (.int .i64))), .val (.int .u64), .val (.slice (.slice (.int .i64))), .val (.slice (.slice (.named 1))), .val (.slice (.named 2)), .val (.int .i64), .val (.slice (.slice (.int .i64))), .val (.slice (.int .u64)), .own 1, .val (.int .u64), .val (.int .u64), .val (.int .i64), .val (.int .i64), .val .bool, .val .bool, .val (.int .i64), .val (.slice (.int .i64)), .val (.int .i64), .val (.int .i64), .val (.int .i64), .val (.slice (.int .i64)), .val (.slice (.named 9)), .val (.slice (.named 10)), .val (.int .i64), .val (.int .i64)], .row true (.slice (.int .i64))]⟩
noncomputable def p_grey_machine_fill_v1 : Spec E := mkSpec p_grey_machine_fill_v1_c Go.Proofs.Tryz.f68 p_grey_machine_fill_v1_i p_grey_machine_fill_v1_o [.str 15] [.str 8, .str 4, .str 3, .one (.slice (.int .u64)), .str 11, .one (.int .i64), .one (.int .i64), .one .bool, .one .bool, .one (.int .i64), .one (.slice (.int .i64)), .str 5, .one (.slice (.named 9)), .one (.slice (.named 10)), .str 12, .one (.slice (.slice (.int .i64)))] (by kernel_rfl) (by kernel_rfl)
noncomputable def q_grey_machine_fill_v1 (a1 : Sgrey_machine) : Option (Sstate_Grey × Splan_Plan × Sheap_Heap × (List (BitVec 64)) × Stint_Tint × Int × Int × Bool × Bool × Int × (List Int) × Sledger_Ledger × (List Sstate_Worker) × (List Sstate_Mutator) × Sstate_Detect × (List (List Int)) × Unit) := p_grey_machine_fill_v1.F (a1, ())
/-! (*besom/grey.machine).publish -/
noncomputable def p_grey_machine_publish_v1_c : Cfg E := mkCfg Go.Proofs.Tryz.prog tab [(123, [p_chain_Step])] [] [] [(0, some 0)] [] []
def p_grey_machine_publish_v1_i : Shape := ⟨[.ptr 0], [.box true [.val (.int .i64), .val (.int .i64), .val (.int .i64), .val (.int .i64), .val (.int .i64), .val (.int .i64), .val (.int .i64), .val (.int .i64), .val (.int .u64), .val (.int .u64), .val (.int .i64), .val (.int .i64), .val (.int .i64), .val (.int .i64), .val (.int .i64), .val (.int .i64), .val (.int .u64), .val (.int .i64), .val (.int .i64), .val (.int .i64), .val (.int .i64), .val (.int .i64), .val (.int .i64), .val (.int .i64), .val (.int .i64), .val (.int .i64), .val (.int .i64), .val (.int .i64), .val (.int .i64), .val (.int .i64), .val (.int .i64), .val (.slice (.slice (.int .i64))), .val (.int .u64), .val (.slice (.slice (.int .i64))), .val (.slice (.slice (.named 1))), .val (.slice (.named 2)), .val (.int .i64), .val (.slice (.slice (.int .i64))), .val (.slice (.int .u64)), .val (.slice (.slice (.int .i64))), .val (.int .u64), .val (.int .u64), .val (.int .i64), .val (.int .i64), .val .bool, .val .bool, .val (.int .i64), .val (.slice (.int .i64)), .val (.int .i64), .val (.int .i64), .val (.int .i64), .val (.slice (.int .i64)), .val (.slice (.named 9)), .val (.slice (.named 10)), .val (.int .i64), .val (.int .i64)]]⟩
def p_grey_machine_publish_v1_o : Shape := ⟨[], [.box true [.val (.int .i64), .val (.int .i64), .val (.int .i64), .val (.int .i64), .val (.int .i64), .val (.int .i64), .val (.int .i64), .val (.int .i64), .val (.int .u64), .val (.int .u64), .val (.int .i64), .val (.int .i64), .val (.int .i64), .val (.int .i64), .val (.int .i64), .val (.int .i64), .val (.int .u64), .val (.int .i64), .val (.int .i64), .val (.int .i64), .val (.int .i64), .val (.int .i64), .val (.int .i64), .val (.int .i64), .val (.int .i64), .val (.int .i64), .val (.int .i64), .val (.int .i64), .val (.int .i64), .val (.int .i64), .val (.int .i64), .val (.slice (.slice (.int .i64))), .val (.int .u64), .val (.slice (.slice (.int .i64))), .val (.slice (.slice (.named 1))), .val (.slice (.named 2)), .val (.int .i64), .val (.slice (.slice (.int .i64))), .val (.slice (.int .u64)), .val (.slice (.slice (.int .i64))), .val (.int .u64), .val (.int .u64), .val (.int .i64), .val (.int .i64), .val .bool, .val .bool, .val (.int .i64), .val (.slice (.int .i64)), .val (.int .i64), .val (.int .i64), .val (.int .i64), .val (.slice (.int .i64)), .val (.slice (.named 9)), .val (.slice (.named 10)), .val (.int .i64), .val (.int .i64)]]⟩
noncomputable def p_grey_machine_publish_v1 : Spec E := mkSpec p_grey_machine_publish_v1_c Go.Proofs.Tryz.f69 p_grey_machine_publish_v1_i p_grey_machine_publish_v1_o [.str 15] [.str 15] (by kernel_rfl) (by kernel_rfl)
noncomputable def q_grey_machine_publish_v1 (a1 : Sgrey_machine) : Option (Sgrey_machine × Unit) := p_grey_machine_publish_v1.F (a1, ())
/-! besom/grey.Step -/
noncomputable def p_grey_Step_c : Cfg E := mkCfg Go.Proofs.Tryz.prog tab [(62, [p_grey_machine_reserve_v1]), (63, [p_grey_machine_mark_v1]), (64, [p_grey_machine_back_v1]), (65, [p_grey_machine_push_v1]), (66, [p_grey_machine_tell_v1]), (67, [p_grey_machine_take_v1]), (68, [p_grey_machine_fill_v1]), (69, [p_grey_machine_publish_v1])] [] [] [] [] []
def p_grey_Step_i : Shape := ⟨[.val (.named 14), .val (.named 8)], []⟩
def p_grey_Step_o : Shape := ⟨[.val (.named 14), .val (.named 8)], []⟩
noncomputable def p_grey_Step : Spec E := mkSpec p_grey_Step_c Go.Proofs.Tryz.f15 p_grey_Step_i p_grey_Step_o [.one (.named 14), .one (.named 8)] [.one (.named 14), .one (.named 8)] (by kernel_rfl) (by kernel_rfl)
noncomputable def q_grey_Step (a1 : Sstate_State) (a2 : Sstate_Grey) : Option (Sstate_State × Sstate_Grey × Unit) := p_grey_Step.F (a1, a2, ())
/-! besom/grey.at -/
noncomputable def p_grey_at_c : Cfg E := mkCfg Go.Proofs.Tryz.prog tab [] [] [] [] [] []
def p_grey_at_i : Shape := ⟨[.val (.named 8), .val (.int .i64), .val (.int .i64), .val (.int .i64)], []⟩
def p_grey_at_o : Shape := ⟨[.val (.int .i64)], []⟩
noncomputable def p_grey_at : Spec E := mkSpec p_grey_at_c Go.Proofs.Tryz.f82 p_grey_at_i p_grey_at_o [.one (.named 8), .one (.int .i64), .one (.int .i64), .one (.int .i64)] [.one (.int .i64)] (by kernel_rfl) (by kernel_rfl)
noncomputable def q_grey_at (a1 : Sstate_Grey) (a2 : Int) (a3 : Int) (a4 : Int) : Option (Int × Unit) := p_grey_at.F (a1, a2, a3, a4, ())
/-! besom/grey.Holds -/
noncomputable def p_grey_Holds_c : Cfg E := mkCfg Go.Proofs.Tryz.prog tab [(82, [p_grey_at])] [] [] [] [] []
def p_grey_Holds_i : Shape := ⟨[.val (.named 8)], []⟩
def p_grey_Holds_o : Shape := ⟨[.val (.int .i64)], []⟩
noncomputable def p_grey_Holds : Spec E := mkSpec p_grey_Holds_c Go.Proofs.Tryz.f18 p_grey_Holds_i p_grey_Holds_o [.one (.named 8)] [.one (.int .i64)] (by kernel_rfl) (by kernel_rfl)
noncomputable def q_grey_Holds (a1 : Sstate_Grey) : Option (Int × Unit) := p_grey_Holds.F (a1, ())
/-! besom/grey.Asks -/
noncomputable def p_grey_Asks_c : Cfg E := mkCfg Go.Proofs.Tryz.prog tab [(82, [p_grey_at])] [] [] [] [] []
def p_grey_Asks_i : Shape := ⟨[.val (.named 8)], []⟩
def p_grey_Asks_o : Shape := ⟨[.val (.int .i64)], []⟩
noncomputable def p_grey_Asks : Spec E := mkSpec p_grey_Asks_c Go.Proofs.Tryz.f20 p_grey_Asks_i p_grey_Asks_o [.one (.named 8)] [.one (.int .i64)] (by kernel_rfl) (by kernel_rfl)
noncomputable def q_grey_Asks (a1 : Sstate_Grey) : Option (Int × Unit) := p_grey_Asks.F (a1, ())
/-! besom/grey.Owes -/
noncomputable def p_grey_Owes_c : Cfg E := mkCfg Go.Proofs.Tryz.prog tab [(82, [p_grey_at])] [] [] [] [] []
def p_grey_Owes_i : Shape := ⟨[.val (.named 8)], []⟩
def p_grey_Owes_o : Shape := ⟨[.val (.int .i64)], []⟩
noncomputable def p_grey_Owes : Spec E := mkSpec p_grey_Owes_c Go.Proofs.Tryz.f22 p_grey_Owes_i p_grey_Owes_o [.one (.named 8)] [.one (.int .i64)] (by kernel_rfl) (by kernel_rfl)
noncomputable def q_grey_Owes (a1 : Sstate_Grey) : Option (Int × Unit) := p_grey_Owes.F (a1, ())
/-! besom/besomlaw14.run -/
noncomputable def p_besomlaw14_run_l2 : LoopSpec E := { slots := [2, 3, 4, 6, 7, 9], inn := ⟨[.val (.int .i64), .ptr 0, .ptr 1, .ptr 2, .ptr 3, .val (.int .i64)], [.box true [.val (.int .i64), .val (.int .i64), .val (.int .i64), .val (.int .i64), .val (.int .i64), .val (.int .i64), .val (.int .i64), .val (.int .i64), .val (.int .i64), .val (.slice (.slice (.int .i64))), .val (.int .u64), .val (.slice (.slice (.int .i64))), .val (.slice (.slice (.named 1))), .val (.slice (.named 2)), .val (.int .i64), .val (.slice (.slice (.int .i64))), .val (.slice (.int .u64)), .val (.slice (.slice (.int .i64))), .val (.int .u64), .val (.int .u64), .val (.int .i64), .val (.int .i64), .val .bool, .val .bool, .val (.int .i64), .val (.slice (.int .i64)), .val (.int .i64), .val (.int .i64), .val (.int .i64), .val (.slice (.int .i64)), .val (.slice (.named 9)), .val (.slice (.named 10)), .val (.int .i64), .val (.int .i64)], .box true [.val (.int .i64), .val (.int .i64), .val (.int .i64), .val (.int .i64), .val (.int .i64), .val (.int .i64), .val (.int .i64), .val (.int .i64), .val (.int .u64), .val (.int .u64), .val (.int .i64), .val (.int .i64), .val (.int .i64), .val (.int .i64), .val (.int .i64), .val (.int .i64), .val (.int .u64), .val (.int .i64), .val (.int .i64), .val (.int .i64), .val (.int .i64), .val (.int .i64)], .box true [.val (.int .i64), .val (.int .i64), .val (.int .i64), .val (.int .i64), .val (.int .i64), .val (.int .i64), .val (.int .i64), .val (.int .i64), .val (.int .i64), .own 4, .val (.int .u64), .own 5, .own 6, .own 7, .val (.int .i64), .own 8, .own 9, .own 10, .val (.int .u64), .val (.int .u64), .val (.int .i64), .val (.int .i64), .val .bool, .val .bool, .val (.int .i64), .own 11, .val (.int .i64), .val (.int .i64), .val (.int .i64), .own 12, .own 13, .own 14, .val (.int .i64), .val (.int .i64)], .box true [.val (.int .i64), .val (.int .i64), .val (.int .i64), .val (.int .i64), .val (.int .i64), .val (.int .i64), .val (.int .i64), .val (.int .i64), .val (.int .u64), .val (.int .u64), .val (.int .i64), .val (.int .i64), .val (.int .i64), .val (.int .i64), .val (.int .i64), .val (.int .i64), .val (.int .u64), .val (.int .i64), .val (.int .i64), .val (.int .i64), .val (.int .i64), .val (.int .i64)], .row true (.slice (.int .i64)), .row true (.slice (.int .i64)), .row true (.slice (.named 1)), .row true (.named 2), .row true (.slice (.int .i64)), .row true (.int .u64), .row true (.slice (.int .i64)), .row true (.int .i64), .row true (.int .i64), .row true (.named 9), .row true (.named 10)]⟩, brkId := 0, bslots := [3, 4, 6, 7, 9], brk := ⟨[.ptr 0, .ptr 1, .ptr 2, .ptr 3, .val (.int .i64)], [.box true [.val (.int .i64), .val (.int .i64), .val (.int .i64), .val (.int .i64), .val (.int .i64), .val (.int .i64), .val (.int .i64), .val (.int .i64), .val (.int .i64), .val (.slice (.slice (.int .i64))), .val (.int .u64), .val (.slice (.slice (.int .i64))), .val (.slice (.slice (.named 1))), .val (.slice (.named 2)), .val (.int .i64), .val (.slice (.slice (.int .i64))), .val (.slice (.int .u64)), .val (.slice (.slice (.int .i64))), .val (.int .u64), .val (.int .u64), .val (.int .i64), .val (.int .i64), .val .bool, .val .bool, .val (.int .i64), .val (.slice (.int .i64)), .val (.int .i64), .val (.int .i64), .val (.int .i64), .val (.slice (.int .i64)), .val (.slice (.named 9)), .val (.slice (.named 10)), .val (.int .i64), .val (.int .i64)], .box true [.val (.int .i64), .val (.int .i64), .val (.int .i64), .val (.int .i64), .val (.int .i64), .val (.int .i64), .val (.int .i64), .val (.int .i64), .val (.int .u64), .val (.int .u64), .val (.int .i64), .val (.int .i64), .val (.int .i64), .val (.int .i64), .val (.int .i64), .val (.int .i64), .val (.int .u64), .val (.int .i64), .val (.int .i64), .val (.int .i64), .val (.int .i64), .val (.int .i64)], .box true [.val (.int .i64), .val (.int .i64), .val (.int .i64), .val (.int .i64), .val (.int .i64), .val (.int .i64), .val (.int .i64), .val (.int .i64), .val (.int .i64), .own 4, .val (.int .u64), .own 5, .own 6, .own 7, .val (.int .i64), .own 8, .own 9, .own 10, .val (.int .u64), .val (.int .u64), .val (.int .i64), .val (.int .i64), .val .bool, .val .bool, .val (.int .i64), .own 11, .val (.int .i64), .val (.int .i64), .val (.int .i64), .own 12, .own 13, .own 14, .val (.int .i64), .val (.int .i64)], .box true [.val (.int .i64), .val (.int .i64), .val (.int .i64), .val (.int .i64), .val (.int .i64), .val (.int .i64), .val (.int .i64), .val (.int .i64), .val (.int .u64), .val (.int .u64), .val (.int .i64), .val (.int .i64), .val (.int .i64), .val (.int .i64), .val (.int .i64), .val (.int .i64), .val (.int .u64), .val (.int .i64), .val (.int .i64), .val (.int .i64), .val (.int .i64), .val (.int .i64)], .row true (.slice (.int .i64)), .row true (.slice (.int .i64)), .row true (.slice (.named 1)), .row true (.named 2), .row true (.slice (.int .i64)), .row true (.int .u64), .row true (.slice (.int .i64)), .row true (.int .i64), .row true (.int .i64), .row true (.named 9), .row true (.named 10)]⟩, rslots := [], ret := ⟨[], []⟩, gi := grp [.one (.int .i64), .one (.int .i64), .str 14, .str 8, .one (.int .i64), .one (.int .i64), .one (.int .i64), .one (.int .i64), .one (.int .i64), .one (.int .i64), .one (.int .i64), .one (.int .i64), .one (.int .i64), .one (.int .u64), .one (.int .i64), .str 11, .one (.int .i64), .one (.int .i64), .one .bool, .one .bool, .one (.int .i64), .one (.int .i64), .one (.int .i64), .one (.int .i64), .str 12, .str 8, .one (.slice (.slice (.int .i64))), .one (.slice (.slice (.int .i64))), .one (.slice (.slice (.named 1))), .one (.slice (.named 2)), .one (.slice (.slice (.int .i64))), .one (.slice (.int .u64)), .one (.slice (.slice (.int .i64))), .one (.slice (.int .i64)), .one (.slice (.int .i64)), .one (.slice (.named 9)), .one (.slice (.named 10))] (by kernel_rfl), gb := grp [.one (.int .i64), .str 14, .str 8, .one (.int .i64), .one (.int .i64), .one (.int .i64), .one (.int .i64), .one (.int .i64), .one (.int .i64), .one (.int .i64), .one (.int .i64), .one (.int .i64), .one (.int .u64), .one (.int .i64), .str 11, .one (.int .i64), .one (.int .i64), .one .bool, .one .bool, .one (.int .i64), .one (.int .i64), .one (.int .i64), .one (.int .i64), .str 12, .str 8, .one (.slice (.slice (.int .i64))), .one (.slice (.slice (.int .i64))), .one (.slice (.slice (.named 1))), .one (.slice (.named 2)), .one (.slice (.slice (.int .i64))), .one (.slice (.int .u64)), .one (.slice (.slice (.int .i64))), .one (.slice (.int .i64)), .one (.slice (.int .i64)), .one (.slice (.named 9)), .one (.slice (.named 10))] (by kernel_rfl), gr := grp [] (by kernel_rfl) }
noncomputable def p_besomlaw14_run_c : Cfg E := mkCfg Go.Proofs.Tryz.prog tab [(15, [p_grey_Step])] [(2, p_besomlaw14_run_l2)] [] [] [] []
def p_besomlaw14_run_i : Shape := ⟨[.val (.named 14), .val (.named 8), .val (.int .i64)], []⟩
def p_besomlaw14_run_o : Shape := ⟨[.val (.named 14), .val (.named 8), .val (.int .i64)], []⟩
noncomputable def p_besomlaw14_run : Spec E := mkSpec p_besomlaw14_run_c Go.Proofs.Tryz.f28 p_besomlaw14_run_i p_besomlaw14_run_o [.one (.named 14), .one (.named 8), .one (.int .i64)] [.one (.named 14), .one (.named 8), .one (.int .i64)] (by kernel_rfl) (by kernel_rfl)
noncomputable def q_besomlaw14_run (a1 : Sstate_State) (a2 : Sstate_Grey) (a3 : Int) : Option (Sstate_State × Sstate_Grey × Int × Unit) := p_besomlaw14_run.F (a1, a2, a3, ())
noncomputable def p_besomlaw14_run_r2 (x : Int × Int × Sstate_State × Sstate_Grey × Int × Int × Int × Int × Int × Int × Int × Int × Int × (BitVec 64) × Int × Stint_Tint × Int × Int × Bool × Bool × Int × Int × Int × Int × Sstate_Detect × Sstate_Grey × (List (List Int)) × (List (List Int)) × (List (List Scode_Op)) × (List Spick_Pick) × (List (List Int)) × (List (BitVec 64)) × (List (List Int)) × (List Int) × (List Int) × (List Sstate_Worker) × (List Sstate_Mutator) × Unit) : Option (Stop (Int × Int × Sstate_State × Sstate_Grey × Int × Int × Int × Int × Int × Int × Int × Int × Int × (BitVec 64) × Int × Stint_Tint × Int × Int × Bool × Bool × Int × Int × Int × Int × Sstate_Detect × Sstate_Grey × (List (List Int)) × (List (List Int)) × (List (List Scode_Op)) × (List Spick_Pick) × (List (List Int)) × (List (BitVec 64)) × (List (List Int)) × (List Int) × (List Int) × (List Sstate_Worker) × (List Sstate_Mutator) × Unit) (Int × Sstate_State × Sstate_Grey × Int × Int × Int × Int × Int × Int × Int × Int × Int × (BitVec 64) × Int × Stint_Tint × Int × Int × Bool × Bool × Int × Int × Int × Int × Sstate_Detect × Sstate_Grey × (List (List Int)) × (List (List Int)) × (List (List Scode_Op)) × (List Spick_Pick) × (List (List Int)) × (List (BitVec 64)) × (List (List Int)) × (List Int) × (List Int) × (List Sstate_Worker) × (List Sstate_Mutator) × Unit) (Unit)) := roundBy p_besomlaw14_run_c (exec p_besomlaw14_run_c (loopAt Go.Proofs.Tryz.f28 2)) 29 p_besomlaw14_run_l2 x
/-! besom/chain.List -/
noncomputable def p_chain_List_l3 : LoopSpec E := { slots := [0, 2, 3, 9, 10], inn := ⟨[.val (.slice (.int .u64)), .val (.int .i64), .val (.int .i64), .own 0, .val (.int .i64)], [.row true (.int .i64)]⟩, brkId := 0, bslots := [9], brk := ⟨[.own 0], [.row true (.int .i64)]⟩, rslots := [], ret := ⟨[], []⟩, gi := grp [.one (.slice (.int .u64)), .one (.int .i64), .one (.int .i64), .one (.int .i64), .one (.slice (.int .i64))] (by kernel_rfl), gb := grp [.one (.slice (.int .i64))] (by kernel_rfl), gr := grp [] (by kernel_rfl) }
noncomputable def p_chain_List_c : Cfg E := mkCfg Go.Proofs.Tryz.prog tab [(92, [p_chain_Node]), (93, [p_chain_load])] [(3, p_chain_List_l3)] [] [] [] []
def p_chain_List_i : Shape := ⟨[.val (.slice (.int .u64)), .val (.int .i64), .val (.int .i64), .val (.int .i64)], []⟩
def p_chain_List_o : Shape := ⟨[.own 0], [.row true (.int .i64)]⟩
noncomputable def p_chain_List : Spec E := mkSpec p_chain_List_c Go.Proofs.Tryz.f34 p_chain_List_i p_chain_List_o [.one (.slice (.int .u64)), .one (.int .i64), .one (.int .i64), .one (.int .i64)] [.one (.slice (.int .i64))] (by kernel_rfl) (by kernel_rfl)
noncomputable def q_chain_List (a1 : List (BitVec 64)) (a2 : Int) (a3 : Int) (a4 : Int) : Option ((List Int) × Unit) := p_chain_List.F (a1, a2, a3, a4, ())
noncomputable def p_chain_List_r3 (x : (List (BitVec 64)) × Int × Int × Int × (List Int) × Unit) : Option (Stop ((List (BitVec 64)) × Int × Int × Int × (List Int) × Unit) ((List Int) × Unit) (Unit)) := roundBy p_chain_List_c (exec p_chain_List_c (loopAt Go.Proofs.Tryz.f34 3)) 35 p_chain_List_l3 x
/-! besom/besomlaw14.small -/
noncomputable def p_besomlaw14_small_l3 : LoopSpec E := { slots := [0, 2, 3, 4], inn := ⟨[.val (.slice (.slice (.named 1))), .ptr 0, .ptr 1, .val (.int .i64)], [.box true [.val (.int .i64), .val (.int .i64), .val (.int .i64), .val (.int .i64), .val (.int .i64), .val (.int .i64), .val (.int .i64), .val (.int .i64), .val (.int .i64), .own 2, .val (.int .u64), .own 3, .own 4, .own 5], .box true [.val (.int .i64), .val (.int .i64), .val (.int .i64), .val (.int .i64), .val (.int .i64), .val (.int .i64), .val (.int .i64), .val (.int .i64), .val (.int .i64), .own 6, .val (.int .u64), .own 7, .own 8, .own 9], .row true (.slice (.int .i64)), .row true (.slice (.int .i64)), .row true (.slice (.named 1)), .row true (.named 2), .row true (.slice (.int .i64)), .row true (.slice (.int .i64)), .row true (.slice (.named 1)), .row true (.named 2)]⟩, brkId := 0, bslots := [2, 3], brk := ⟨[.ptr 0, .ptr 1], [.box true [.val (.int .i64), .val (.int .i64), .val (.int .i64), .val (.int .i64), .val (.int .i64), .val (.int .i64), .val (.int .i64), .val (.int .i64), .val (.int .i64), .own 2, .val (.int .u64), .own 3, .own 4, .own 5], .box true [.val (.int .i64), .val (.int .i64), .val (.int .i64), .val (.int .i64), .val (.int .i64), .val (.int .i64), .val (.int .i64), .val (.int .i64), .val (.int .i64), .own 6, .val (.int .u64), .own 7, .own 8, .own 9], .row true (.slice (.int .i64)), .row true (.slice (.int .i64)), .row true (.slice (.named 1)), .row true (.named 2), .row true (.slice (.int .i64)), .row true (.slice (.int .i64)), .row true (.slice (.named 1)), .row true (.named 2)]⟩, rslots := [], ret := ⟨[], []⟩, gi := grp [.one (.slice (.slice (.named 1))), .one (.int .i64), .one (.int .i64), .one (.int .i64), .one (.int .i64), .one (.int .i64), .one (.int .i64), .one (.int .i64), .one (.int .i64), .one (.int .i64), .one (.int .i64), .one (.int .u64), .one (.int .i64), .one (.int .i64), .one (.int .i64), .one (.int .i64), .one (.int .i64), .one (.int .i64), .one (.int .i64), .one (.int .i64), .one (.int .i64), .one (.int .u64), .one (.slice (.slice (.int .i64))), .one (.slice (.slice (.int .i64))), .one (.slice (.slice (.named 1))), .one (.slice (.named 2)), .one (.slice (.slice (.int .i64))), .one (.slice (.slice (.int .i64))), .one (.slice (.slice (.named 1))), .one (.slice (.named 2))] (by kernel_rfl), gb := grp [.one (.int .i64), .one (.int .i64), .one (.int .i64), .one (.int .i64), .one (.int .i64), .one (.int .i64), .one (.int .i64), .one (.int .i64), .one (.int .i64), .one (.int .u64), .one (.int .i64), .one (.int .i64), .one (.int .i64), .one (.int .i64), .one (.int .i64), .one (.int .i64), .one (.int .i64), .one (.int .i64), .one (.int .i64), .one (.int .u64), .one (.slice (.slice (.int .i64))), .one (.slice (.slice (.int .i64))), .one (.slice (.slice (.named 1))), .one (.slice (.named 2)), .one (.slice (.slice (.int .i64))), .one (.slice (.slice (.int .i64))), .one (.slice (.slice (.named 1))), .one (.slice (.named 2))] (by kernel_rfl), gr := grp [] (by kernel_rfl) }
noncomputable def p_besomlaw14_small_c : Cfg E := mkCfg Go.Proofs.Tryz.prog tab [] [(3, p_besomlaw14_small_l3)] [] [] [] []
def p_besomlaw14_small_i : Shape := ⟨[.val (.slice (.slice (.named 1)))], []⟩
def p_besomlaw14_small_o : Shape := ⟨[.val (.named 4)], []⟩
noncomputable def p_besomlaw14_small : Spec E := mkSpec p_besomlaw14_small_c Go.Proofs.Tryz.f39 p_besomlaw14_small_i p_besomlaw14_small_o [.one (.slice (.slice (.named 1)))] [.one (.named 4)] (by kernel_rfl) (by kernel_rfl)
noncomputable def q_besomlaw14_small (a1 : List (List Scode_Op)) : Option (Splan_Plan × Unit) := p_besomlaw14_small.F (a1, ())
noncomputable def p_besomlaw14_small_r3 (x : (List (List Scode_Op)) × Int × Int × Int × Int × Int × Int × Int × Int × Int × Int × (BitVec 64) × Int × Int × Int × Int × Int × Int × Int × Int × Int × (BitVec 64) × (List (List Int)) × (List (List Int)) × (List (List Scode_Op)) × (List Spick_Pick) × (List (List Int)) × (List (List Int)) × (List (List Scode_Op)) × (List Spick_Pick) × Unit) : Option (Stop ((List (List Scode_Op)) × Int × Int × Int × Int × Int × Int × Int × Int × Int × Int × (BitVec 64) × Int × Int × Int × Int × Int × Int × Int × Int × Int × (BitVec 64) × (List (List Int)) × (List (List Int)) × (List (List Scode_Op)) × (List Spick_Pick) × (List (List Int)) × (List (List Int)) × (List (List Scode_Op)) × (List Spick_Pick) × Unit) (Int × Int × Int × Int × Int × Int × Int × Int × Int × (BitVec 64) × Int × Int × Int × Int × Int × Int × Int × Int × Int × (BitVec 64) × (List (List Int)) × (List (List Int)) × (List (List Scode_Op)) × (List Spick_Pick) × (List (List Int)) × (List (List Int)) × (List (List Scode_Op)) × (List Spick_Pick) × Unit) (Unit)) := roundBy p_besomlaw14_small_c (exec p_besomlaw14_small_c (loopAt Go.Proofs.Tryz.f39 3)) 35 p_besomlaw14_small_l3 x
/-! besom/besomlaw14.examples -/
noncomputable def p_besomlaw14_examples_c : Cfg E := mkCfg Go.Proofs.Tryz.prog tab [(10, [p_state_New]), (12, [p_grey_Begin]), (15, [p_grey_Step]), (18, [p_grey_Holds]), (20, [p_grey_Asks]), (22, [p_grey_Owes]), (28, [p_besomlaw14_run]), (34, [p_chain_List]), (35, [p_state_Full]), (36, [p_state_Next]), (39, [p_besomlaw14_small])] [] [] [] [] []
def p_besomlaw14_examples_i : Shape := ⟨[], []⟩
def p_besomlaw14_examples_o : Shape := ⟨[.val .bool], []⟩
noncomputable def p_besomlaw14_examples : Spec E := mkSpec p_besomlaw14_examples_c Go.Proofs.Tryz.f8 p_besomlaw14_examples_i p_besomlaw14_examples_o [] [.one .bool] (by kernel_rfl) (by kernel_rfl)
noncomputable def q_besomlaw14_examples  : Option (Bool × Unit) := p_besomlaw14_examples.F (())
/-! (*besom/besomlaw14.Maker).byte -/
noncomputable def p_besomlaw14_Maker_byte_v1_c : Cfg E := mkCfg Go.Proofs.Tryz.prog tab [] [] [] [(0, some 0)] [] []
def p_besomlaw14_Maker_byte_v1_i : Shape := ⟨[.ptr 0], [.box true [.val (.slice (.int .u8)), .val (.int .i64)]]⟩
def p_besomlaw14_Maker_byte_v1_o : Shape := ⟨[.val (.int .i64)], [.box true [.val (.slice (.int .u8)), .val (.int .i64)]]⟩
noncomputable def p_besomlaw14_Maker_byte_v1 : Spec E := mkSpec p_besomlaw14_Maker_byte_v1_c Go.Proofs.Tryz.f40 p_besomlaw14_Maker_byte_v1_i p_besomlaw14_Maker_byte_v1_o [.str 16] [.one (.int .i64), .str 16] (by kernel_rfl) (by kernel_rfl)
noncomputable def q_besomlaw14_Maker_byte_v1 (a1 : Sbesomlaw14_Maker) : Option (Int × Sbesomlaw14_Maker × Unit) := p_besomlaw14_Maker_byte_v1.F (a1, ())
/-! (*besom/besomlaw14.Maker).op -/
noncomputable def p_besomlaw14_Maker_op_v1_c : Cfg E := mkCfg Go.Proofs.Tryz.prog tab [(40, [p_besomlaw14_Maker_byte_v1])] [] [] [(0, some 0)] [] []
def p_besomlaw14_Maker_op_v1_i : Shape := ⟨[.ptr 0, .val (.int .i64), .val (.int .i64)], [.box true [.val (.slice (.int .u8)), .val (.int .i64)]]⟩
def p_besomlaw14_Maker_op_v1_o : Shape := ⟨[.val (.named 1)], [.box true [.val (.slice (.int .u8)), .val (.int .i64)]]⟩
noncomputable def p_besomlaw14_Maker_op_v1 : Spec E := mkSpec p_besomlaw14_Maker_op_v1_c Go.Proofs.Tryz.f41 p_besomlaw14_Maker_op_v1_i p_besomlaw14_Maker_op_v1_o [.one (.int .i64), .one (.int .i64), .str 16] [.one (.named 1), .str 16] (by kernel_rfl) (by kernel_rfl)
noncomputable def q_besomlaw14_Maker_op_v1 (a1 : Int) (a2 : Int) (a3 : Sbesomlaw14_Maker) : Option (Scode_Op × Sbesomlaw14_Maker × Unit) := p_besomlaw14_Maker_op_v1.F (a1, a2, a3, ())
/-! besom/besomlaw14.made -/
noncomputable def p_besomlaw14_made_l7 : LoopSpec E := { slots := [2, 3, 4, 5, 6], inn := ⟨[.ptr 0, .ptr 1, .ptr 2, .val (.int .i64), .val (.int .i64)], [.box true [.val (.int .i64), .val (.int .i64), .val (.int .i64), .val (.int .i64), .val (.int .i64), .val (.int .i64), .val (.int .i64), .val (.int .i64), .val (.int .i64), .own 3, .val (.int .u64), .own 4, .own 5, .own 6], .box true [.val (.slice (.int .u8)), .val (.int .i64)], .box true [.val (.int .i64), .val (.int .i64), .val (.int .i64), .val (.int .i64), .val (.int .i64), .val (.int .i64), .val (.int .i64), .val (.int .i64), .val (.int .i64), .own 7, .val (.int .u64), .own 8, .own 9, .own 10], .row true (.slice (.int .i64)), .row true (.slice (.int .i64)), .row true (.slice (.named 1)), .row true (.named 2), .row true (.slice (.int .i64)), .row true (.slice (.int .i64)), .row true (.slice (.named 1)), .row true (.named 2)]⟩, brkId := 0, bslots := [2, 3, 4, 5], brk := ⟨[.ptr 0, .ptr 1, .ptr 2, .val (.int .i64)], [.box true [.val (.int .i64), .val (.int .i64), .val (.int .i64), .val (.int .i64), .val (.int .i64), .val (.int .i64), .val (.int .i64), .val (.int .i64), .val (.int .i64), .own 3, .val (.int .u64), .own 4, .own 5, .own 6], .box true [.val (.slice (.int .u8)), .val (.int .i64)], .box true [.val (.int .i64), .val (.int .i64), .val (.int .i64), .val (.int .i64), .val (.int .i64), .val (.int .i64), .val (.int .i64), .val (.int .i64), .val (.int .i64), .own 7, .val (.int .u64), .own 8, .own 9, .own 10], .row true (.slice (.int .i64)), .row true (.slice (.int .i64)), .row true (.slice (.named 1)), .row true (.named 2), .row true (.slice (.int .i64)), .row true (.slice (.int .i64)), .row true (.slice (.named 1)), .row true (.named 2)]⟩, rslots := [], ret := ⟨[], []⟩, gi := grp [.one (.int .i64), .one (.int .i64), .one (.int .i64), .one (.int .i64), .one (.int .i64), .one (.int .i64), .one (.int .i64), .one (.int .i64), .one (.int .i64), .one (.int .i64), .one (.int .i64), .one (.int .u64), .str 16, .one (.int .i64), .one (.int .i64), .one (.int .i64), .one (.int .i64), .one (.int .i64), .one (.int .i64), .one (.int .i64), .one (.int .i64), .one (.int .i64), .one (.int .u64), .one (.slice (.slice (.int .i64))), .one (.slice (.slice (.int .i64))), .one (.slice (.slice (.named 1))), .one (.slice (.named 2)), .one (.slice (.slice (.int .i64))), .one (.slice (.slice (.int .i64))), .one (.slice (.slice (.named 1))), .one (.slice (.named 2))] (by kernel_rfl), gb := grp [.one (.int .i64), .one (.int .i64), .one (.int .i64), .one (.int .i64), .one (.int .i64), .one (.int .i64), .one (.int .i64), .one (.int .i64), .one (.int .i64), .one (.int .i64), .one (.int .u64), .str 16, .one (.int .i64), .one (.int .i64), .one (.int .i64), .one (.int .i64), .one (.int .i64), .one (.int .i64), .one (.int .i64), .one (.int .i64), .one (.int .i64), .one (.int .u64), .one (.slice (.slice (.int .i64))), .one (.slice (.slice (.int .i64))), .one (.slice (.slice (.named 1))), .one (.slice (.named 2)), .one (.slice (.slice (.int .i64))), .one (.slice (.slice (.int .i64))), .one (.slice (.slice (.named 1))), .one (.slice (.named 2))] (by kernel_rfl), gr := grp [] (by kernel_rfl) }
noncomputable def p_besomlaw14_made_l11 : LoopSpec E := { slots := [2, 3, 4, 5, 6, 7, 8], inn := ⟨[.ptr 0, .ptr 1, .ptr 2, .val (.int .i64), .val (.int .i64), .own 3, .val (.int .i64)], [.box true [.val (.int .i64), .val (.int .i64), .val (.int .i64), .val (.int .i64), .val (.int .i64), .val (.int .i64), .val (.int .i64), .val (.int .i64), .val (.int .i64), .own 4, .val (.int .u64), .own 5, .own 6, .own 7], .box true [.val (.slice (.int .u8)), .val (.int .i64)], .box true [.val (.int .i64), .val (.int .i64), .val (.int .i64), .val (.int .i64), .val (.int .i64), .val (.int .i64), .val (.int .i64), .val (.int .i64), .val (.int .i64), .own 8, .val (.int .u64), .own 9, .own 10, .own 11], .row true (.int .i64), .row true (.slice (.int .i64)), .row true (.slice (.int .i64)), .row true (.slice (.named 1)), .row true (.named 2), .row true (.slice (.int .i64)), .row true (.slice (.int .i64)), .row true (.slice (.named 1)), .row true (.named 2)]⟩, brkId := 2, bslots := [2, 3, 4, 5, 6, 7], brk := ⟨[.ptr 0, .ptr 1, .ptr 2, .val (.int .i64), .val (.int .i64), .own 3], [.box true [.val (.int .i64), .val (.int .i64), .val (.int .i64), .val (.int .i64), .val (.int .i64), .val (.int .i64), .val (.int .i64), .val (.int .i64), .val (.int .i64), .own 4, .val (.int .u64), .own 5, .own 6, .own 7], .box true [.val (.slice (.int .u8)), .val (.int .i64)], .box true [.val (.int .i64), .val (.int .i64), .val (.int .i64), .val (.int .i64), .val (.int .i64), .val (.int .i64), .val (.int .i64), .val (.int .i64), .val (.int .i64), .own 8, .val (.int .u64), .own 9, .own 10, .own 11], .row true (.int .i64), .row true (.slice (.int .i64)), .row true (.slice (.int .i64)), .row true (.slice (.named 1)), .row true (.named 2), .row true (.slice (.int .i64)), .row true (.slice (.int .i64)), .row true (.slice (.named 1)), .row true (.named 2)]⟩, rslots := [], ret := ⟨[], []⟩, gi := grp [.one (.int .i64), .one (.int .i64), .one (.int .i64), .one (.int .i64), .one (.int .i64), .one (.int .i64), .one (.int .i64), .one (.int .i64), .one (.int .i64), .one (.int .i64), .one (.int .i64), .one (.int .i64), .one (.int .u64), .str 16, .one (.int .i64), .one (.int .i64), .one (.int .i64), .one (.int .i64), .one (.int .i64), .one (.int .i64), .one (.int .i64), .one (.int .i64), .one (.int .i64), .one (.int .u64), .one (.slice (.int .i64)), .one (.slice (.slice (.int .i64))), .one (.slice (.slice (.int .i64))), .one (.slice (.slice (.named 1))), .one (.slice (.named 2)), .one (.slice (.slice (.int .i64))), .one (.slice (.slice (.int .i64))), .one (.slice (.slice (.named 1))), .one (.slice (.named 2))] (by kernel_rfl), gb := grp [.one (.int .i64), .one (.int .i64), .one (.int .i64), .one (.int .i64), .one (.int .i64), .one (.int .i64), .one (.int .i64), .one (.int .i64), .one (.int .i64), .one (.int .i64), .one (.int .i64), .one (.int .u64), .str 16, .one (.int .i64), .one (.int .i64), .one (.int .i64), .one (.int .i64), .one (.int .i64), .one (.int .i64), .one (.int .i64), .one (.int .i64), .one (.int .i64), .one (.int .u64), .one (.slice (.int .i64)), .one (.slice (.slice (.int .i64))), .one (.slice (.slice (.int .i64))), .one (.slice (.slice (.named 1))), .one (.slice (.named 2)), .one (.slice (.slice (.int .i64))), .one (.slice (.slice (.int .i64))), .one (.slice (.slice (.named 1))), .one (.slice (.named 2))] (by kernel_rfl), gr := grp [] (by kernel_rfl) }
noncomputable def p_besomlaw14_made_l17 : LoopSpec E := { slots := [2, 3, 4, 5, 9], inn := ⟨[.ptr 0, .ptr 1, .ptr 2, .val (.int .i64), .val (.int .i64)], [.box true [.val (.int .i64), .val (.int .i64), .val (.int .i64), .val (.int .i64), .val (.int .i64), .val (.int .i64), .val (.int .i64), .val (.int .i64), .val (.int .i64), .own 3, .val (.int .u64), .own 4, .own 5, .own 6], .box true [.val (.slice (.int .u8)), .val (.int .i64)], .box true [.val (.int .i64), .val (.int .i64), .val (.int .i64), .val (.int .i64), .val (.int .i64), .val (.int .i64), .val (.int .i64), .val (.int .i64), .val (.int .i64), .own 7, .val (.int .u64), .own 8, .own 9, .own 10], .row true (.slice (.int .i64)), .row true (.slice (.int .i64)), .row true (.slice (.named 1)), .row true (.named 2), .row true (.slice (.int .i64)), .row true (.slice (.int .i64)), .row true (.slice (.named 1)), .row true (.named 2)]⟩, brkId := 4, bslots := [2, 4], brk := ⟨[.ptr 0, .ptr 1], [.box true [.val (.int .i64), .val (.int .i64), .val (.int .i64), .val (.int .i64), .val (.int .i64), .val (.int .i64), .val (.int .i64), .val (.int .i64), .val (.int .i64), .own 2, .val (.int .u64), .own 3, .own 4, .own 5], .box true [.val (.int .i64), .val (.int .i64), .val (.int .i64), .val (.int .i64), .val (.int .i64), .val (.int .i64), .val (.int .i64), .val (.int .i64), .val (.int .i64), .own 6, .val (.int .u64), .own 7, .own 8, .own 9], .row true (.slice (.int .i64)), .row true (.slice (.int .i64)), .row true (.slice (.named 1)), .row true (.named 2), .row true (.slice (.int .i64)), .row true (.slice (.int .i64)), .row true (.slice (.named 1)), .row true (.named 2)]⟩, rslots := [], ret := ⟨[], []⟩, gi := grp [.one (.int .i64), .one (.int .i64), .one (.int .i64), .one (.int .i64), .one (.int .i64), .one (.int .i64), .one (.int .i64), .one (.int .i64), .one (.int .i64), .one (.int .i64), .one (.int .i64), .one (.int .u64), .str 16, .one (.int .i64), .one (.int .i64), .one (.int .i64), .one (.int .i64), .one (.int .i64), .one (.int .i64), .one (.int .i64), .one (.int .i64), .one (.int .i64), .one (.int .u64), .one (.slice (.slice (.int .i64))), .one (.slice (.slice (.int .i64))), .one (.slice (.slice (.named 1))), .one (.slice (.named 2)), .one (.slice (.slice (.int .i64))), .one (.slice (.slice (.int .i64))), .one (.slice (.slice (.named 1))), .one (.slice (.named 2))] (by kernel_rfl), gb := grp [.one (.int .i64), .one (.int .i64), .one (.int .i64), .one (.int .i64), .one (.int .i64), .one (.int .i64), .one (.int .i64), .one (.int .i64), .one (.int .i64), .one (.int .u64), .one (.int .i64), .one (.int .i64), .one (.int .i64), .one (.int .i64), .one (.int .i64), .one (.int .i64), .one (.int .i64), .one (.int .i64), .one (.int .i64), .one (.int .u64), .one (.slice (.slice (.int .i64))), .one (.slice (.slice (.int .i64))), .one (.slice (.slice (.named 1))), .one (.slice (.named 2)), .one (.slice (.slice (.int .i64))), .one (.slice (.slice (.int .i64))), .one (.slice (.slice (.named 1))), .one (.slice (.named 2))] (by kernel_rfl), gr := grp [] (by kernel_rfl) }
noncomputable def p_besomlaw14_made_l21 : LoopSpec E := { slots := [2, 3, 4, 5, 9, 10, 11], inn := ⟨[.ptr 0, .ptr 1, .ptr 2, .val (.int .i64), .val (.int .i64), .own 3, .val (.int .i64)], [.box true [.val (.int .i64), .val (.int .i64), .val (.int .i64), .val (.int .i64), .val (.int .i64), .val (.int .i64), .val (.int .i64), .val (.int .i64), .val (.int .i64), .own 4, .val (.int .u64), .own 5, .own 6, .own 7], .box true [.val (.slice (.int .u8)), .val (.int .i64)], .box true [.val (.int .i64), .val (.int .i64), .val (.int .i64), .val (.int .i64), .val (.int .i64), .val (.int .i64), .val (.int .i64), .val (.int .i64), .val (.int .i64), .own 8, .val (.int .u64), .own 9, .own 10, .own 11], .row true (.int .i64), .row true (.slice (.int .i64)), .row true (.slice (.int .i64)), .row true (.slice (.named 1)), .row true (.named 2), .row true (.slice (.int .i64)), .row true (.slice (.int .i64)), .row true (.slice (.named 1)), .row true (.named 2)]⟩, brkId := 6, bslots := [2, 3, 4, 5, 9, 10], brk := ⟨[.ptr 0, .ptr 1, .ptr 2, .val (.int .i64), .val (.int .i64), .own 3], [.box true [.val (.int .i64), .val (.int .i64), .val (.int .i64), .val (.int .i64), .val (.int .i64), .val (.int .i64), .val (.int .i64), .val (.int .i64), .val (.int .i64), .own 4, .val (.int .u64), .own 5, .own 6, .own 7], .box true [.val (.slice (.int .u8)), .val (.int .i64)], .box true [.val (.int .i64), .val (.int .i64), .val (.int .i64), .val (.int .i64), .val (.int .i64), .val (.int .i64), .val (.int .i64), .val (.int .i64), .val (.int .i64), .own 8, .val (.int .u64), .own 9, .own 10, .own 11], .row true (.int .i64), .row true (.slice (.int .i64)), .row true (.slice (.int .i64)), .row true (.slice (.named 1)), .row true (.named 2), .row true (.slice (.int .i64)), .row true (.slice (.int .i64)), .row true (.slice (.named 1)), .row true (.named 2)]⟩, rslots := [], ret := ⟨[], []⟩, gi := grp [.one (.int .i64), .one (.int .i64), .one (.int .i64), .one (.int .i64), .one (.int .i64), .one (.int .i64), .one (.int .i64), .one (.int .i64), .one (.int .i64), .one (.int .i64), .one (.int .i64), .one (.int .i64), .one (.int .u64), .str 16, .one (.int .i64), .one (.int .i64), .one (.int .i64), .one (.int .i64), .one (.int .i64), .one (.int .i64), .one (.int .i64), .one (.int .i64), .one (.int .i64), .one (.int .u64), .one (.slice (.int .i64)), .one (.slice (.slice (.int .i64))), .one (.slice (.slice (.int .i64))), .one (.slice (.slice (.named 1))), .one (.slice (.named 2)), .one (.slice (.slice (.int .i64))), .one (.slice (.slice (.int .i64))), .one (.slice (.slice (.named 1))), .one (.slice (.named 2))] (by kernel_rfl), gb := grp [.one (.int .i64), .one (.int .i64), .one (.int .i64), .one (.int .i64), .one (.int .i64), .one (.int .i64), .one (.int .i64), .one (.int .i64), .one (.int .i64), .one (.int .i64), .one (.int .i64), .one (.int .u64), .str 16, .one (.int .i64), .one (.int .i64), .one (.int .i64), .one (.int .i64), .one (.int .i64), .one (.int .i64), .one (.int .i64), .one (.int .i64), .one (.int .i64), .one (.int .u64), .one (.slice (.int .i64)), .one (.slice (.slice (.int .i64))), .one (.slice (.slice (.int .i64))), .one (.slice (.slice (.named 1))), .one (.slice (.named 2)), .one (.slice (.slice (.int .i64))), .one (.slice (.slice (.int .i64))), .one (.slice (.slice (.named 1))), .one (.slice (.named 2))] (by kernel_rfl), gr := grp [] (by kernel_rfl) }
noncomputable def p_besomlaw14_made_l28 : LoopSpec E := { slots := [2, 3, 4, 5, 9, 10, 12, 13], inn := ⟨[.ptr 0, .ptr 1, .ptr 2, .val (.int .i64), .val (.int .i64), .own 3, .own 4, .val (.int .i64)], [.box true [.val (.int .i64), .val (.int .i64), .val (.int .i64), .val (.int .i64), .val (.int .i64), .val (.int .i64), .val (.int .i64), .val (.int .i64), .val (.int .i64), .own 5, .val (.int .u64), .own 6, .own 7, .own 8], .box true [.val (.slice (.int .u8)), .val (.int .i64)], .box true [.val (.int .i64), .val (.int .i64), .val (.int .i64), .val (.int .i64), .val (.int .i64), .val (.int .i64), .val (.int .i64), .val (.int .i64), .val (.int .i64), .own 9, .val (.int .u64), .own 10, .own 11, .own 12], .row true (.int .i64), .row true (.named 1), .row true (.slice (.int .i64)), .row true (.slice (.int .i64)), .row true (.slice (.named 1)), .row true (.named 2), .row true (.slice (.int .i64)), .row true (.slice (.int .i64)), .row true (.slice (.named 1)), .row true (.named 2)]⟩, brkId := 8, bslots := [2, 3, 4, 5, 9, 10, 12], brk := ⟨[.ptr 0, .ptr 1, .ptr 2, .val (.int .i64), .val (.int .i64), .own 3, .own 4], [.box true [.val (.int .i64), .val (.int .i64), .val (.int .i64), .val (.int .i64), .val (.int .i64), .val (.int .i64), .val (.int .i64), .val (.int .i64), .val (.int .i64), .own 5, .val (.int .u64), .own 6, .own 7, .own 8], .box true [.val (.slice (.int .u8)), .val (.int .i64)], .box true [.val (.int .i64), .val (.int .i64), .val (.int .i64), .val (.int .i64), .val (.int .i64), .val (.int .i64), .val (.int .i64), .val (.int .i64), .val (.int .i64), .own 9, .val (.int .u64), .own 10, .own 11, .own 12], .row true (.int .i64), .row true (.named 1), .row true (.slice (.int .i64)), .row true (.slice (.int .i64)), .row true (.slice (.named 1)), .row true (.named 2), .row true (.slice (.int .i64)), .row true (.slice (.int .i64)), .row true (.slice (.named 1)), .row true (.named 2)]⟩, rslots := [], ret := ⟨[], []⟩, gi := grp [.one (.int .i64), .one (.int .i64), .one (.int .i64), .one (.int .i64), .one (.int .i64), .one (.int .i64), .one (.int .i64), .one (.int .i64), .one (.int .i64), .one (.int .i64), .one (.int .i64), .one (.int .i64), .one (.int .u64), .str 16, .one (.int .i64), .one (.int .i64), .one (.int .i64), .one (.int .i64), .one (.int .i64), .one (.int .i64), .one (.int .i64), .one (.int .i64), .one (.int .i64), .one (.int .u64), .one (.slice (.int .i64)), .one (.slice (.named 1)), .one (.slice (.slice (.int .i64))), .one (.slice (.slice (.int .i64))), .one (.slice (.slice (.named 1))), .one (.slice (.named 2)), .one (.slice (.slice (.int .i64))), .one (.slice (.slice (.int .i64))), .one (.slice (.slice (.named 1))), .one (.slice (.named 2))] (by kernel_rfl), gb := grp [.one (.int .i64), .one (.int .i64), .one (.int .i64), .one (.int .i64), .one (.int .i64), .one (.int .i64), .one (.int .i64), .one (.int .i64), .one (.int .i64), .one (.int .i64), .one (.int .i64), .one (.int .u64), .str 16, .one (.int .i64), .one (.int .i64), .one (.int .i64), .one (.int .i64), .one (.int .i64), .one (.int .i64), .one (.int .i64), .one (.int .i64), .one (.int .i64), .one (.int .u64), .one (.slice (.int .i64)), .one (.slice (.named 1)), .one (.slice (.slice (.int .i64))), .one (.slice (.slice (.int .i64))), .one (.slice (.slice (.named 1))), .one (.slice (.named 2)), .one (.slice (.slice (.int .i64))), .one (.slice (.slice (.int .i64))), .one (.slice (.slice (.named 1))), .one (.slice (.named 2))] (by kernel_rfl), gr := grp [] (by kernel_rfl) }
noncomputable def p_besomlaw14_made_c : Cfg E := mkCfg Go.Proofs.Tryz.prog tab [(29, [p_set_Add]), (40, [p_besomlaw14_Maker_byte_v1]), (41, [p_besomlaw14_Maker_op_v1])] [(7, p_besomlaw14_made_l7), (11, p_besomlaw14_made_l11), (17, p_besomlaw14_made_l17), (21, p_besomlaw14_made_l21), (28, p_besomlaw14_made_l28)] [] [] [] []
def p_besomlaw14_made_i : Shape := ⟨[.val (.slice (.int .u8))], []⟩
def p_besomlaw14_made_o : Shape := ⟨[.val (.named 4)], []⟩
noncomputable def p_besomlaw14_made : Spec E := mkSpec p_besomlaw14_made_c Go.Proofs.Tryz.f9 p_besomlaw14_made_i p_besomlaw14_made_o [.one (.slice (.int .u8))] [.one (.named 4)] (by kernel_rfl) (by kernel_rfl)
noncomputable def q_besomlaw14_made (a1 : List (BitVec 8)) : Option (Splan_Plan × Unit) := p_besomlaw14_made.F (a1, ())
noncomputable def p_besomlaw14_made_r7 (x : Int × Int × Int × Int × Int × Int × Int × Int × Int × Int × Int × (BitVec 64) × Sbesomlaw14_Maker × Int × Int × Int × Int × Int × Int × Int × Int × Int × (BitVec 64) × (List (List Int)) × (List (List Int)) × (List (List Scode_Op)) × (List Spick_Pick) × (List (List Int)) × (List (List Int)) × (List (List Scode_Op)) × (List Spick_Pick) × Unit) : Option (Stop (Int × Int × Int × Int × Int × Int × Int × Int × Int × Int × Int × (BitVec 64) × Sbesomlaw14_Maker × Int × Int × Int × Int × Int × Int × Int × Int × Int × (BitVec 64) × (List (List Int)) × (List (List Int)) × (List (List Scode_Op)) × (List Spick_Pick) × (List (List Int)) × (List (List Int)) × (List (List Scode_Op)) × (List Spick_Pick) × Unit) (Int × Int × Int × Int × Int × Int × Int × Int × Int × Int × (BitVec 64) × Sbesomlaw14_Maker × Int × Int × Int × Int × Int × Int × Int × Int × Int × (BitVec 64) × (List (List Int)) × (List (List Int)) × (List (List Scode_Op)) × (List Spick_Pick) × (List (List Int)) × (List (List Int)) × (List (List Scode_Op)) × (List Spick_Pick) × Unit) (Unit)) := roundBy p_besomlaw14_made_c (exec p_besomlaw14_made_c (loopAt Go.Proofs.Tryz.f9 7)) 154 p_besomlaw14_made_l7 x
noncomputable def p_besomlaw14_made_r11 (x : Int × Int × Int × Int × Int × Int × Int × Int × Int × Int × Int × Int × (BitVec 64) × Sbesomlaw14_Maker × Int × Int × Int × Int × Int × Int × Int × Int × Int × (BitVec 64) × (List Int) × (List (List Int)) × (List (List Int)) × (List (List Scode_Op)) × (List Spick_Pick) × (List (List Int)) × (List (List Int)) × (List (List Scode_Op)) × (List Spick_Pick) × Unit) : Option (Stop (Int × Int × Int × Int × Int × Int × Int × Int × Int × Int × Int × Int × (BitVec 64) × Sbesomlaw14_Maker × Int × Int × Int × Int × Int × Int × Int × Int × Int × (BitVec 64) × (List Int) × (List (List Int)) × (List (List Int)) × (List (List Scode_Op)) × (List Spick_Pick) × (List (List Int)) × (List (List Int)) × (List (List Scode_Op)) × (List Spick_Pick) × Unit) (Int × Int × Int × Int × Int × Int × Int × Int × Int × Int × Int × (BitVec 64) × Sbesomlaw14_Maker × Int × Int × Int × Int × Int × Int × Int × Int × Int × (BitVec 64) × (List Int) × (List (List Int)) × (List (List Int)) × (List (List Scode_Op)) × (List Spick_Pick) × (List (List Int)) × (List (List Int)) × (List (List Scode_Op)) × (List Spick_Pick) × Unit) (Unit)) := roundBy p_besomlaw14_made_c (exec p_besomlaw14_made_c (loopAt Go.Proofs.Tryz.f9 11)) 154 p_besomlaw14_made_l11 x
noncomputable def p_besomlaw14_made_r17 (x : Int × Int × Int × Int × Int × Int × Int × Int × Int × Int × Int × (BitVec 64) × Sbesomlaw14_Maker × Int × Int × Int × Int × Int × Int × Int × Int × Int × (BitVec 64) × (List (List Int)) × (List (List Int)) × (List (List Scode_Op)) × (List Spick_Pick) × (List (List Int)) × (List (List Int)) × (List (List Scode_Op)) × (List Spick_Pick) × Unit) : Option (Stop (Int × Int × Int × Int × Int × Int × Int × Int × Int × Int × Int × (BitVec 64) × Sbesomlaw14_Maker × Int × Int × Int × Int × Int × Int × Int × Int × Int × (BitVec 64) × (List (List Int)) × (List (List Int)) × (List (List Scode_Op)) × (List Spick_Pick) × (List (List Int)) × (List (List Int)) × (List (List Scode_Op)) × (List Spick_Pick) × Unit) (Int × Int × Int × Int × Int × Int × Int × Int × Int × (BitVec 64) × Int × Int × Int × Int × Int × Int × Int × Int × Int × (BitVec 64) × (List (List Int)) × (List (List Int)) × (List (List Scode_Op)) × (List Spick_Pick) × (List (List Int)) × (List (List Int)) × (List (List Scode_Op)) × (List Spick_Pick) × Unit) (Unit)) := roundBy p_besomlaw14_made_c (exec p_besomlaw14_made_c (loopAt Go.Proofs.Tryz.f9 17)) 154 p_besomlaw14_made_l17 x
noncomputable def p_besomlaw14_made_r21 (x : Int × Int × Int × Int × Int × Int × Int × Int × Int × Int × Int × Int × (BitVec 64) × Sbesomlaw14_Maker × Int × Int × Int × Int × Int × Int × Int × Int × Int × (BitVec 64) × (List Int) × (List (List Int)) × (List (List Int)) × (List (List Scode_Op)) × (List Spick_Pick) × (List (List Int)) × (List (List Int)) × (List (List Scode_Op)) × (List Spick_Pick) × Unit) : Option (Stop (Int × Int × Int × Int × Int × Int × Int × Int × Int × Int × Int × Int × (BitVec 64) × Sbesomlaw14_Maker × Int × Int × Int × Int × Int × Int × Int × Int × Int × (BitVec 64) × (List Int) × (List (List Int)) × (List (List Int)) × (List (List Scode_Op)) × (List Spick_Pick) × (List (List Int)) × (List (List Int)) × (List (List Scode_Op)) × (List Spick_Pick) × Unit) (Int × Int × Int × Int × Int × Int × Int × Int × Int × Int × Int × (BitVec 64) × Sbesomlaw14_Maker × Int × Int × Int × Int × Int × Int × Int × Int × Int × (BitVec 64) × (List Int) × (List (List Int)) × (List (List Int)) × (List (List Scode_Op)) × (List Spick_Pick) × (List (List Int)) × (List (List Int)) × (List (List Scode_Op)) × (List Spick_Pick) × Unit) (Unit)) := roundBy p_besomlaw14_made_c (exec p_besomlaw14_made_c (loopAt Go.Proofs.Tryz.f9 21)) 154 p_besomlaw14_made_l21 x
noncomputable def p_besomlaw14_made_r28 (x : Int × Int × Int × Int × Int × Int × Int × Int × Int × Int × Int × Int × (BitVec 64) × Sbesomlaw14_Maker × Int × Int × Int × Int × Int × Int × Int × Int × Int × (BitVec 64) × (List Int) × (List Scode_Op) × (List (List Int)) × (List (List Int)) × (List (List Scode_Op)) × (List Spick_Pick) × (List (List Int)) × (List (List Int)) × (List (List Scode_Op)) × (List Spick_Pick) × Unit) : Option (Stop (Int × Int × Int × Int × Int × Int × Int × Int × Int × Int × Int × Int × (BitVec 64) × Sbesomlaw14_Maker × Int × Int × Int × Int × Int × Int × Int × Int × Int × (BitVec 64) × (List Int) × (List Scode_Op) × (List (List Int)) × (List (List Int)) × (List (List Scode_Op)) × (List Spick_Pick) × (List (List Int)) × (List (List Int)) × (List (List Scode_Op)) × (List Spick_Pick) × Unit) (Int × Int × Int × Int × Int × Int × Int × Int × Int × Int × Int × (BitVec 64) × Sbesomlaw14_Maker × Int × Int × Int × Int × Int × Int × Int × Int × Int × (BitVec 64) × (List Int) × (List Scode_Op) × (List (List Int)) × (List (List Int)) × (List (List Scode_Op)) × (List Spick_Pick) × (List (List Int)) × (List (List Int)) × (List (List Scode_Op)) × (List Spick_Pick) × Unit) (Unit)) := roundBy p_besomlaw14_made_c (exec p_besomlaw14_made_c (loopAt Go.Proofs.Tryz.f9 28)) 154 p_besomlaw14_made_l28 x
/-! (besom/besomlaw14.Grow).begin -/
noncomputable def p_besomlaw14_Grow_begin_c : Cfg E := mkCfg Go.Proofs.Tryz.prog tab [(12, [p_grey_Begin])] [] [] [] [] []
def p_besomlaw14_Grow_begin_i : Shape := ⟨[.val (.named 0), .val (.named 4)], []⟩
def p_besomlaw14_Grow_begin_o : Shape := ⟨[.val (.named 8)], []⟩
noncomputable def p_besomlaw14_Grow_begin : Spec E := mkSpec p_besomlaw14_Grow_begin_c Go.Proofs.Tryz.f11 p_besomlaw14_Grow_begin_i p_besomlaw14_Grow_begin_o [.one (.named 0), .one (.named 4)] [.one (.named 8)] (by kernel_rfl) (by kernel_rfl)
noncomputable def q_besomlaw14_Grow_begin (a1 : Sbesomlaw14_Grow) (a2 : Splan_Plan) : Option (Sstate_Grey × Unit) := p_besomlaw14_Grow_begin.F (a1, a2, ())
/-! besom/besomlaw14.two -/
noncomputable def p_besomlaw14_two_l7 : LoopSpec E := { slots := [3, 8, 11, 12, 13], inn := ⟨[.val (.slice (.int .u8)), .ptr 0, .ptr 1, .own 2, .val (.int .i64)], [.box true [.val (.int .i64), .val (.int .i64), .val (.int .i64), .val (.int .i64), .val (.int .i64), .val (.int .i64), .val (.int .i64), .val (.int .i64), .val (.int .i64), .own 3, .val (.int .u64), .own 4, .own 5, .own 6, .val (.int .i64), .own 7, .own 8, .own 9, .val (.int .u64), .val (.int .u64), .val (.int .i64), .val (.int .i64), .val .bool, .val .bool, .val (.int .i64), .own 10, .val (.int .i64), .val (.int .i64), .val (.int .i64), .own 11, .own 12, .own 13, .val (.int .i64), .val (.int .i64)], .box true [.val (.int .i64), .val (.int .i64), .val (.int .i64), .val (.int .i64), .val (.int .i64), .val (.int .i64), .val (.int .i64), .val (.int .i64), .val (.int .i64), .val (.slice (.slice (.int .i64))), .val (.int .u64), .val (.slice (.slice (.int .i64))), .val (.slice (.slice (.named 1))), .val (.slice (.named 2)), .val (.int .i64), .val (.slice (.slice (.int .i64))), .val (.slice (.int .u64)), .val (.slice (.slice (.int .i64))), .val (.int .u64), .val (.int .u64), .val (.int .i64), .val (.int .i64), .val .bool, .val .bool, .val (.int .i64), .val (.slice (.int .i64)), .val (.int .i64), .val (.int .i64), .val (.int .i64), .val (.slice (.int .i64)), .val (.slice (.named 9)), .val (.slice (.named 10)), .val (.int .i64), .val (.int .i64)], .row true (.named 8), .row true (.slice (.int .i64)), .row true (.slice (.int .i64)), .row true (.slice (.named 1)), .row true (.named 2), .row true (.slice (.int .i64)), .row true (.int .u64), .row true (.slice (.int .i64)), .row true (.int .i64), .row true (.int .i64), .row true (.named 9), .row true (.named 10)]⟩, brkId := 0, bslots := [8, 11, 12], brk := ⟨[.ptr 0, .ptr 1, .own 2], [.box true [.val (.int .i64), .val (.int .i64), .val (.int .i64), .val (.int .i64), .val (.int .i64), .val (.int .i64), .val (.int .i64), .val (.int .i64), .val (.int .i64), .own 3, .val (.int .u64), .own 4, .own 5, .own 6, .val (.int .i64), .own 7, .own 8, .own 9, .val (.int .u64), .val (.int .u64), .val (.int .i64), .val (.int .i64), .val .bool, .val .bool, .val (.int .i64), .own 10, .val (.int .i64), .val (.int .i64), .val (.int .i64), .own 11, .own 12, .own 13, .val (.int .i64), .val (.int .i64)], .box true [.val (.int .i64), .val (.int .i64), .val (.int .i64), .val (.int .i64), .val (.int .i64), .val (.int .i64), .val (.int .i64), .val (.int .i64), .val (.int .i64), .val (.slice (.slice (.int .i64))), .val (.int .u64), .val (.slice (.slice (.int .i64))), .val (.slice (.slice (.named 1))), .val (.slice (.named 2)), .val (.int .i64), .val (.slice (.slice (.int .i64))), .val (.slice (.int .u64)), .val (.slice (.slice (.int .i64))), .val (.int .u64), .val (.int .u64), .val (.int .i64), .val (.int .i64), .val .bool, .val .bool, .val (.int .i64), .val (.slice (.int .i64)), .val (.int .i64), .val (.int .i64), .val (.int .i64), .val (.slice (.int .i64)), .val (.slice (.named 9)), .val (.slice (.named 10)), .val (.int .i64), .val (.int .i64)], .row true (.named 8), .row true (.slice (.int .i64)), .row true (.slice (.int .i64)), .row true (.slice (.named 1)), .row true (.named 2), .row true (.slice (.int .i64)), .row true (.int .u64), .row true (.slice (.int .i64)), .row true (.int .i64), .row true (.int .i64), .row true (.named 9), .row true (.named 10)]⟩, rslots := [], ret := ⟨[], []⟩, gi := grp [.one (.slice (.int .u8)), .one (.int .i64), .one (.int .i64), .one (.int .i64), .one (.int .i64), .one (.int .i64), .one (.int .i64), .one (.int .i64), .one (.int .i64), .one (.int .i64), .one (.int .i64), .one (.int .u64), .one (.int .i64), .str 11, .one (.int .i64), .one (.int .i64), .one .bool, .one .bool, .one (.int .i64), .one (.int .i64), .one (.int .i64), .one (.int .i64), .str 12, .str 14, .one (.slice (.named 8)), .one (.slice (.slice (.int .i64))), .one (.slice (.slice (.int .i64))), .one (.slice (.slice (.named 1))), .one (.slice (.named 2)), .one (.slice (.slice (.int .i64))), .one (.slice (.int .u64)), .one (.slice (.slice (.int .i64))), .one (.slice (.int .i64)), .one (.slice (.int .i64)), .one (.slice (.named 9)), .one (.slice (.named 10))] (by kernel_rfl), gb := grp [.one (.int .i64), .one (.int .i64), .one (.int .i64), .one (.int .i64), .one (.int .i64), .one (.int .i64), .one (.int .i64), .one (.int .i64), .one (.int .i64), .one (.int .u64), .one (.int .i64), .str 11, .one (.int .i64), .one (.int .i64), .one .bool, .one .bool, .one (.int .i64), .one (.int .i64), .one (.int .i64), .one (.int .i64), .str 12, .str 14, .one (.slice (.named 8)), .one (.slice (.slice (.int .i64))), .one (.slice (.slice (.int .i64))), .one (.slice (.slice (.named 1))), .one (.slice (.named 2)), .one (.slice (.slice (.int .i64))), .one (.slice (.int .u64)), .one (.slice (.slice (.int .i64))), .one (.slice (.int .i64)), .one (.slice (.int .i64)), .one (.slice (.named 9)), .one (.slice (.named 10))] (by kernel_rfl), gr := grp [] (by kernel_rfl) }
noncomputable def p_besomlaw14_two_c : Cfg E := mkCfg Go.Proofs.Tryz.prog tab [(9, [p_besomlaw14_made]), (10, [p_state_New]), (11, [p_besomlaw14_Grow_begin]), (12, [p_grey_Begin]), (15, [p_grey_Step])] [(7, p_besomlaw14_two_l7)] [] [] [] []
def p_besomlaw14_two_i : Shape := ⟨[.val (.slice (.int .u8)), .val (.named 0), .val (.named 0), .val (.slice (.int .u8))], []⟩
def p_besomlaw14_two_o : Shape := ⟨[.val (.named 14), .own 0], [.row true (.named 8)]⟩
noncomputable def p_besomlaw14_two : Spec E := mkSpec p_besomlaw14_two_c Go.Proofs.Tryz.f25 p_besomlaw14_two_i p_besomlaw14_two_o [.one (.slice (.int .u8)), .one (.named 0), .one (.named 0), .one (.slice (.int .u8))] [.one (.named 14), .one (.slice (.named 8))] (by kernel_rfl) (by kernel_rfl)
noncomputable def q_besomlaw14_two (a1 : List (BitVec 8)) (a2 : Sbesomlaw14_Grow) (a3 : Sbesomlaw14_Grow) (a4 : List (BitVec 8)) : Option (Sstate_State × (List Sstate_Grey) × Unit) := p_besomlaw14_two.F (a1, a2, a3, a4, ())
noncomputable def p_besomlaw14_two_r7 (x : (List (BitVec 8)) × Int × Int × Int × Int × Int × Int × Int × Int × Int × Int × (BitVec 64) × Int × Stint_Tint × Int × Int × Bool × Bool × Int × Int × Int × Int × Sstate_Detect × Sstate_State × (List Sstate_Grey) × (List (List Int)) × (List (List Int)) × (List (List Scode_Op)) × (List Spick_Pick) × (List (List Int)) × (List (BitVec 64)) × (List (List Int)) × (List Int) × (List Int) × (List Sstate_Worker) × (List Sstate_Mutator) × Unit) : Option (Stop ((List (BitVec 8)) × Int × Int × Int × Int × Int × Int × Int × Int × Int × Int × (BitVec 64) × Int × Stint_Tint × Int × Int × Bool × Bool × Int × Int × Int × Int × Sstate_Detect × Sstate_State × (List Sstate_Grey) × (List (List Int)) × (List (List Int)) × (List (List Scode_Op)) × (List Spick_Pick) × (List (List Int)) × (List (BitVec 64)) × (List (List Int)) × (List Int) × (List Int) × (List Sstate_Worker) × (List Sstate_Mutator) × Unit) (Int × Int × Int × Int × Int × Int × Int × Int × Int × (BitVec 64) × Int × Stint_Tint × Int × Int × Bool × Bool × Int × Int × Int × Int × Sstate_Detect × Sstate_State × (List Sstate_Grey) × (List (List Int)) × (List (List Int)) × (List (List Scode_Op)) × (List Spick_Pick) × (List (List Int)) × (List (BitVec 64)) × (List (List Int)) × (List Int) × (List Int) × (List Sstate_Worker) × (List Sstate_Mutator) × Unit) (Unit)) := roundBy p_besomlaw14_two_c (exec p_besomlaw14_two_c (loopAt Go.Proofs.Tryz.f25 7)) 84 p_besomlaw14_two_l7 x
/-! besom/tint.Greys -/
noncomputable def p_tint_Greys_c : Cfg E := mkCfg Go.Proofs.Tryz.prog tab [] [] [] [] [] []
def p_tint_Greys_i : Shape := ⟨[.val (.named 11)], []⟩
def p_tint_Greys_o : Shape := ⟨[.val (.int .u64)], []⟩
noncomputable def p_tint_Greys : Spec E := mkSpec p_tint_Greys_c Go.Proofs.Tryz.f27 p_tint_Greys_i p_tint_Greys_o [.one (.named 11)] [.one (.int .u64)] (by kernel_rfl) (by kernel_rfl)
noncomputable def q_tint_Greys (a1 : Stint_Tint) : Option ((BitVec 64) × Unit) := p_tint_Greys.F (a1, ())
/-! besom/besomlaw14.GreyCounts -/
noncomputable def p_besomlaw14_GreyCounts_l5 : LoopSpec E := { slots := [0, 3, 5, 6, 9, 10], inn := ⟨[.val (.slice (.int .u8)), .val (.slice (.int .u8)), .ptr 0, .ptr 1, .val .bool, .val (.int .i64)], [.box true [.val (.int .u8), .val (.int .u8), .val (.int .u8)], .box true [.val (.int .u8), .val (.int .u8), .val (.int .u8)]]⟩, brkId := 0, bslots := [9], brk := ⟨[.val .bool], []⟩, rslots := [8], ret := ⟨[.val .bool], []⟩, gi := grp [.one (.slice (.int .u8)), .one (.slice (.int .u8)), .one .bool, .one (.int .i64), .str 0, .str 0] (by kernel_rfl), gb := grp [.one .bool] (by kernel_rfl), gr := grp [.one .bool] (by kernel_rfl) }
noncomputable def p_besomlaw14_GreyCounts_c : Cfg E := mkCfg Go.Proofs.Tryz.prog tab [(8, [p_besomlaw14_examples]), (22, [p_grey_Owes]), (25, [p_besomlaw14_two]), (26, [p_set_Count]), (27, [p_tint_Greys])] [(5, p_besomlaw14_GreyCounts_l5)] [] [] [] []
def p_besomlaw14_GreyCounts_i : Shape := ⟨[.val (.slice (.int .u8)), .val (.named 0), .val (.named 0), .val (.slice (.int .u8))], []⟩
def p_besomlaw14_GreyCounts_o : Shape := ⟨[.val .bool], []⟩
noncomputable def p_besomlaw14_GreyCounts : Spec E := mkSpec p_besomlaw14_GreyCounts_c Go.Proofs.Tryz.f4 p_besomlaw14_GreyCounts_i p_besomlaw14_GreyCounts_o [.one (.slice (.int .u8)), .one (.named 0), .one (.named 0), .one (.slice (.int .u8))] [.one .bool] (by kernel_rfl) (by kernel_rfl)
noncomputable def q_besomlaw14_GreyCounts (a1 : List (BitVec 8)) (a2 : Sbesomlaw14_Grow) (a3 : Sbesomlaw14_Grow) (a4 : List (BitVec 8)) : Option (Bool × Unit) := p_besomlaw14_GreyCounts.F (a1, a2, a3, a4, ())
noncomputable def p_besomlaw14_GreyCounts_r5 (x : (List (BitVec 8)) × (List (BitVec 8)) × Bool × Int × Sbesomlaw14_Grow × Sbesomlaw14_Grow × Unit) : Option (Stop ((List (BitVec 8)) × (List (BitVec 8)) × Bool × Int × Sbesomlaw14_Grow × Sbesomlaw14_Grow × Unit) (Bool × Unit) (Bool × Unit)) := roundBy p_besomlaw14_GreyCounts_c (exec p_besomlaw14_GreyCounts_c (loopAt Go.Proofs.Tryz.f4 5)) 59 p_besomlaw14_GreyCounts_l5 x
end Go.Pe.G
