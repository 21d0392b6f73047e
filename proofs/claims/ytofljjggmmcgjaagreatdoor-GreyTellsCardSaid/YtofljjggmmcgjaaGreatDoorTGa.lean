/- Own work of this seat: Tz, G1, G0, G2. -/
import Derived.Shelf.Spec.TrailingZeros
import Derived.Test.YtofljjggmmcgjaaGreatDoorProg
import Derived.Test.YtofljjggmmcgjaaGreatDoorTPeD
set_option linter.unusedVariables false
set_option linter.unusedSimpArgs false
set_option linter.unnecessarySimpa false
set_option linter.unusedSectionVars false
set_option linter.deprecated false
set_option maxRecDepth 100000
namespace Go.Proofs
open Go.Shelf
def rhoTz : Go.Shelf.Ren := { f := fun k => if k = 29 then 160 else k, t := fun k => if k = 22 then 29 else if k = 25 then 218 else if k = 54 then 261 else k, g := fun k => if k = 1 then 0 else k }
theorem laysTz : Lays7.n29 Tryz.prog rhoTz := by
  constructor <;> first | kernel_rfl | (intro w; kernel_rfl)
end Go.Proofs
namespace Go.Pe.G
open Go.Pe
structure Sbesomlaw14_Grow where
  Obj : BitVec 8
  Who : BitVec 8
  Mode : BitVec 8
structure Scode_Op where
  Kind : Int
  R : Int
  A : Int
  S : Int
structure Spick_Pick where
  Kind : Int
  N : Int
structure Sheap_Heap where
  Slots : Int
  Objs : List (List Int)
structure Splan_Plan where
  Workers : Int
  Mutators : Int
  Cap : Int
  Buf : Int
  Bin : Int
  Most : Int
  Price : Int
  Limit : Int
  H : Sheap_Heap
  Roots : BitVec 64
  Regs : List (List Int)
  Progs : List (List Scode_Op)
  Picks : List Spick_Pick
structure Sledger_Ledger where
  Scanned : Int
  Spent : Int
  Pool : Int
  Bal : List Int
structure Sdeque_Machine where
  Kind : Int
  PC : Int
  Base : Int
  Cap : Int
  B : BitVec 64
  T : BitVec 64
  X : Int
  Out : Int
structure Schain_Machine where
  Kind : Int
  PC : Int
  Head : Int
  Next : Int
  H : BitVec 64
  X : Int
  Y : Int
  Out : Int
structure Sstate_Grey where
  PC : Int
  Mode : Int
  Obj : Int
  Who : Int
  D : Sdeque_Machine
  C : Schain_Machine
  Bin : Int
  Out : Int
structure Sstate_Worker where
  PC : Int
  Obj : Int
  Slot : Int
  Victim : Int
  Bin : Int
  Batch : List Int
  D : Sdeque_Machine
  C : Schain_Machine
  G : Sstate_Grey
structure Sstate_Mutator where
  PC : Int
  IP : Int
  Ret : Int
  Want : Int
  Old : Int
  Obj : Int
  Slot : Int
  Bin : Int
  Regs : List Int
  Buf : List Int
  Batch : List Int
  C : Schain_Machine
  G : Sstate_Grey
structure Stint_Tint where
  Marks : BitVec 64
  Black : BitVec 64
structure Sstate_Detect where
  PC : Int
  I : Int
structure Smem_Op where
  Kind : Int
  At : Int
  A : BitVec 64
  B : BitVec 64
structure Sstate_State where
  P : Splan_Plan
  H : Sheap_Heap
  M : List (BitVec 64)
  Bins : List (List Int)
  T : Stint_Tint
  Work : Int
  Epoch : Int
  Flag : Bool
  Done : Bool
  Restarts : Int
  Acks : List Int
  L : Sledger_Ledger
  Ws : List Sstate_Worker
  Ms : List Sstate_Mutator
  D : Sstate_Detect
structure Sgrey_machine where
  Grey : Sstate_Grey
  s : Sstate_State
structure Sbesomlaw14_Maker where
  L : List (BitVec 8)
  At : Int
structure Sbesomref03_Heap where
  Slots : Int
  Objs : List (List Int)
structure Sbesomref01_Pick where
  Kind : Int
  N : Int
structure Sbesomref11_Op where
  Kind : Int
  R : Int
  A : Int
  S : Int
structure Sbesomref12_Plan where
  Workers : Int
  Mutators : Int
  Cap : Int
  Buf : Int
  Bin : Int
  Most : Int
  Price : Int
  Limit : Int
  H : Sbesomref03_Heap
  Roots : BitVec 64
  Regs : List (List Int)
  Progs : List (List Sbesomref11_Op)
  Picks : List Sbesomref01_Pick
structure Sbesomref09_Tint where
  Marks : BitVec 64
  Black : BitVec 64
structure Sbesomref10_Ledger where
  Scanned : Int
  Spent : Int
  Pool : Int
  Bal : List Int
structure Sbesomref07_Machine where
  Kind : Int
  PC : Int
  Base : Int
  Cap : Int
  B : BitVec 64
  T : BitVec 64
  X : Int
  Out : Int
structure Sbesomref08_Machine where
  Kind : Int
  PC : Int
  Head : Int
  Next : Int
  H : BitVec 64
  X : Int
  Y : Int
  Out : Int
structure Sbesomref13_Grey where
  PC : Int
  Mode : Int
  Obj : Int
  Who : Int
  D : Sbesomref07_Machine
  C : Sbesomref08_Machine
  Bin : Int
  Out : Int
structure Sbesomref13_Worker where
  PC : Int
  Obj : Int
  Slot : Int
  Victim : Int
  Bin : Int
  Batch : List Int
  D : Sbesomref07_Machine
  C : Sbesomref08_Machine
  G : Sbesomref13_Grey
structure Sbesomref13_Mutator where
  PC : Int
  IP : Int
  Ret : Int
  Want : Int
  Old : Int
  Obj : Int
  Slot : Int
  Bin : Int
  Regs : List Int
  Buf : List Int
  Batch : List Int
  C : Sbesomref08_Machine
  G : Sbesomref13_Grey
structure Sbesomref13_Detect where
  PC : Int
  I : Int
structure Sbesomref13_State where
  P : Sbesomref12_Plan
  H : Sbesomref03_Heap
  M : List (BitVec 64)
  Bins : List (List Int)
  T : Sbesomref09_Tint
  Work : Int
  Epoch : Int
  Flag : Bool
  Done : Bool
  Restarts : Int
  Acks : List Int
  L : Sbesomref10_Ledger
  Ws : List Sbesomref13_Worker
  Ms : List Sbesomref13_Mutator
  D : Sbesomref13_Detect
structure Sbesomref05_Op where
  Kind : Int
  At : Int
  A : BitVec 64
  B : BitVec 64
@[reducible] def TT : Nat → Type
  | 0 => Sbesomlaw14_Grow
  | 1 => Scode_Op
  | 2 => Spick_Pick
  | 3 => Sheap_Heap
  | 4 => Splan_Plan
  | 5 => Sledger_Ledger
  | 6 => Sdeque_Machine
  | 7 => Schain_Machine
  | 8 => Sstate_Grey
  | 9 => Sstate_Worker
  | 10 => Sstate_Mutator
  | 11 => Stint_Tint
  | 12 => Sstate_Detect
  | 13 => Smem_Op
  | 14 => Sstate_State
  | 15 => Sgrey_machine
  | 16 => Sbesomlaw14_Maker
  | 17 => Sbesomref03_Heap
  | 18 => Sbesomref01_Pick
  | 19 => Sbesomref11_Op
  | 20 => Sbesomref12_Plan
  | 21 => Sbesomref09_Tint
  | 22 => Sbesomref10_Ledger
  | 23 => Sbesomref07_Machine
  | 24 => Sbesomref08_Machine
  | 25 => Sbesomref13_Grey
  | 26 => Sbesomref13_Worker
  | 27 => Sbesomref13_Mutator
  | 28 => Sbesomref13_Detect
  | 29 => Sbesomref13_State
  | 30 => Sbesomref05_Op
  | _ => Unit
@[reducible] def lvs : Nat → List Ty
  | 0 => [(.int .u8), (.int .u8), (.int .u8)]
  | 1 => [(.int .i64), (.int .i64), (.int .i64), (.int .i64)]
  | 2 => [(.int .i64), (.int .i64)]
  | 3 => [(.int .i64), (.slice (.slice (.int .i64)))]
  | 4 => [(.int .i64), (.int .i64), (.int .i64), (.int .i64), (.int .i64), (.int .i64), (.int .i64), (.int .i64), (.int .i64), (.slice (.slice (.int .i64))), (.int .u64), (.slice (.slice (.int .i64))), (.slice (.slice (.named 1))), (.slice (.named 2))]
  | 5 => [(.int .i64), (.int .i64), (.int .i64), (.slice (.int .i64))]
  | 6 => [(.int .i64), (.int .i64), (.int .i64), (.int .i64), (.int .u64), (.int .u64), (.int .i64), (.int .i64)]
  | 7 => [(.int .i64), (.int .i64), (.int .i64), (.int .i64), (.int .u64), (.int .i64), (.int .i64), (.int .i64)]
  | 8 => [(.int .i64), (.int .i64), (.int .i64), (.int .i64), (.int .i64), (.int .i64), (.int .i64), (.int .i64), (.int .u64), (.int .u64), (.int .i64), (.int .i64), (.int .i64), (.int .i64), (.int .i64), (.int .i64), (.int .u64), (.int .i64), (.int .i64), (.int .i64), (.int .i64), (.int .i64)]
  | 9 => [(.int .i64), (.int .i64), (.int .i64), (.int .i64), (.int .i64), (.slice (.int .i64)), (.int .i64), (.int .i64), (.int .i64), (.int .i64), (.int .u64), (.int .u64), (.int .i64), (.int .i64), (.int .i64), (.int .i64), (.int .i64), (.int .i64), (.int .u64), (.int .i64), (.int .i64), (.int .i64), (.int .i64), (.int .i64), (.int .i64), (.int .i64), (.int .i64), (.int .i64), (.int .i64), (.int .i64), (.int .u64), (.int .u64), (.int .i64), (.int .i64), (.int .i64), (.int .i64), (.int .i64), (.int .i64), (.int .u64), (.int .i64), (.int .i64), (.int .i64), (.int .i64), (.int .i64)]
  | 10 => [(.int .i64), (.int .i64), (.int .i64), (.int .i64), (.int .i64), (.int .i64), (.int .i64), (.int .i64), (.slice (.int .i64)), (.slice (.int .i64)), (.slice (.int .i64)), (.int .i64), (.int .i64), (.int .i64), (.int .i64), (.int .u64), (.int .i64), (.int .i64), (.int .i64), (.int .i64), (.int .i64), (.int .i64), (.int .i64), (.int .i64), (.int .i64), (.int .i64), (.int .i64), (.int .u64), (.int .u64), (.int .i64), (.int .i64), (.int .i64), (.int .i64), (.int .i64), (.int .i64), (.int .u64), (.int .i64), (.int .i64), (.int .i64), (.int .i64), (.int .i64)]
  | 11 => [(.int .u64), (.int .u64)]
  | 12 => [(.int .i64), (.int .i64)]
  | 13 => [(.int .i64), (.int .i64), (.int .u64), (.int .u64)]
  | 14 => [(.int .i64), (.int .i64), (.int .i64), (.int .i64), (.int .i64), (.int .i64), (.int .i64), (.int .i64), (.int .i64), (.slice (.slice (.int .i64))), (.int .u64), (.slice (.slice (.int .i64))), (.slice (.slice (.named 1))), (.slice (.named 2)), (.int .i64), (.slice (.slice (.int .i64))), (.slice (.int .u64)), (.slice (.slice (.int .i64))), (.int .u64), (.int .u64), (.int .i64), (.int .i64), .bool, .bool, (.int .i64), (.slice (.int .i64)), (.int .i64), (.int .i64), (.int .i64), (.slice (.int .i64)), (.slice (.named 9)), (.slice (.named 10)), (.int .i64), (.int .i64)]
  | 15 => [(.int .i64), (.int .i64), (.int .i64), (.int .i64), (.int .i64), (.int .i64), (.int .i64), (.int .i64), (.int .u64), (.int .u64), (.int .i64), (.int .i64), (.int .i64), (.int .i64), (.int .i64), (.int .i64), (.int .u64), (.int .i64), (.int .i64), (.int .i64), (.int .i64), (.int .i64), (.int .i64), (.int .i64), (.int .i64), (.int .i64), (.int .i64), (.int .i64), (.int .i64), (.int .i64), (.int .i64), (.slice (.slice (.int .i64))), (.int .u64), (.slice (.slice (.int .i64))), (.slice (.slice (.named 1))), (.slice (.named 2)), (.int .i64), (.slice (.slice (.int .i64))), (.slice (.int .u64)), (.slice (.slice (.int .i64))), (.int .u64), (.int .u64), (.int .i64), (.int .i64), .bool, .bool, (.int .i64), (.slice (.int .i64)), (.int .i64), (.int .i64), (.int .i64), (.slice (.int .i64)), (.slice (.named 9)), (.slice (.named 10)), (.int .i64), (.int .i64)]
  | 16 => [(.slice (.int .u8)), (.int .i64)]
  | 17 => [(.int .i64), (.slice (.slice (.int .i64)))]
  | 18 => [(.int .i64), (.int .i64)]
  | 19 => [(.int .i64), (.int .i64), (.int .i64), (.int .i64)]
  | 20 => [(.int .i64), (.int .i64), (.int .i64), (.int .i64), (.int .i64), (.int .i64), (.int .i64), (.int .i64), (.int .i64), (.slice (.slice (.int .i64))), (.int .u64), (.slice (.slice (.int .i64))), (.slice (.slice (.named 19))), (.slice (.named 18))]
  | 21 => [(.int .u64), (.int .u64)]
  | 22 => [(.int .i64), (.int .i64), (.int .i64), (.slice (.int .i64))]
  | 23 => [(.int .i64), (.int .i64), (.int .i64), (.int .i64), (.int .u64), (.int .u64), (.int .i64), (.int .i64)]
  | 24 => [(.int .i64), (.int .i64), (.int .i64), (.int .i64), (.int .u64), (.int .i64), (.int .i64), (.int .i64)]
  | 25 => [(.int .i64), (.int .i64), (.int .i64), (.int .i64), (.int .i64), (.int .i64), (.int .i64), (.int .i64), (.int .u64), (.int .u64), (.int .i64), (.int .i64), (.int .i64), (.int .i64), (.int .i64), (.int .i64), (.int .u64), (.int .i64), (.int .i64), (.int .i64), (.int .i64), (.int .i64)]
  | 26 => [(.int .i64), (.int .i64), (.int .i64), (.int .i64), (.int .i64), (.slice (.int .i64)), (.int .i64), (.int .i64), (.int .i64), (.int .i64), (.int .u64), (.int .u64), (.int .i64), (.int .i64), (.int .i64), (.int .i64), (.int .i64), (.int .i64), (.int .u64), (.int .i64), (.int .i64), (.int .i64), (.int .i64), (.int .i64), (.int .i64), (.int .i64), (.int .i64), (.int .i64), (.int .i64), (.int .i64), (.int .u64), (.int .u64), (.int .i64), (.int .i64), (.int .i64), (.int .i64), (.int .i64), (.int .i64), (.int .u64), (.int .i64), (.int .i64), (.int .i64), (.int .i64), (.int .i64)]
  | 27 => [(.int .i64), (.int .i64), (.int .i64), (.int .i64), (.int .i64), (.int .i64), (.int .i64), (.int .i64), (.slice (.int .i64)), (.slice (.int .i64)), (.slice (.int .i64)), (.int .i64), (.int .i64), (.int .i64), (.int .i64), (.int .u64), (.int .i64), (.int .i64), (.int .i64), (.int .i64), (.int .i64), (.int .i64), (.int .i64), (.int .i64), (.int .i64), (.int .i64), (.int .i64), (.int .u64), (.int .u64), (.int .i64), (.int .i64), (.int .i64), (.int .i64), (.int .i64), (.int .i64), (.int .u64), (.int .i64), (.int .i64), (.int .i64), (.int .i64), (.int .i64)]
  | 28 => [(.int .i64), (.int .i64)]
  | 29 => [(.int .i64), (.int .i64), (.int .i64), (.int .i64), (.int .i64), (.int .i64), (.int .i64), (.int .i64), (.int .i64), (.slice (.slice (.int .i64))), (.int .u64), (.slice (.slice (.int .i64))), (.slice (.slice (.named 19))), (.slice (.named 18)), (.int .i64), (.slice (.slice (.int .i64))), (.slice (.int .u64)), (.slice (.slice (.int .i64))), (.int .u64), (.int .u64), (.int .i64), (.int .i64), .bool, .bool, (.int .i64), (.slice (.int .i64)), (.int .i64), (.int .i64), (.int .i64), (.slice (.int .i64)), (.slice (.named 26)), (.slice (.named 27)), (.int .i64), (.int .i64)]
  | 30 => [(.int .i64), (.int .i64), (.int .u64), (.int .u64)]
  | _ => []
@[reducible] def unp : (n : Nat) → TT n → HL TT (lvs n)
  | 0 => fun x => (x.Obj, x.Who, x.Mode, ())
  | 1 => fun x => (x.Kind, x.R, x.A, x.S, ())
  | 2 => fun x => (x.Kind, x.N, ())
  | 3 => fun x => (x.Slots, x.Objs, ())
  | 4 => fun x => (x.Workers, x.Mutators, x.Cap, x.Buf, x.Bin, x.Most, x.Price, x.Limit, x.H.Slots, x.H.Objs, x.Roots, x.Regs, x.Progs, x.Picks, ())
  | 5 => fun x => (x.Scanned, x.Spent, x.Pool, x.Bal, ())
  | 6 => fun x => (x.Kind, x.PC, x.Base, x.Cap, x.B, x.T, x.X, x.Out, ())
  | 7 => fun x => (x.Kind, x.PC, x.Head, x.Next, x.H, x.X, x.Y, x.Out, ())
  | 8 => fun x => (x.PC, x.Mode, x.Obj, x.Who, x.D.Kind, x.D.PC, x.D.Base, x.D.Cap, x.D.B, x.D.T, x.D.X, x.D.Out, x.C.Kind, x.C.PC, x.C.Head, x.C.Next, x.C.H, x.C.X, x.C.Y, x.C.Out, x.Bin, x.Out, ())
  | 9 => fun x => (x.PC, x.Obj, x.Slot, x.Victim, x.Bin, x.Batch, x.D.Kind, x.D.PC, x.D.Base, x.D.Cap, x.D.B, x.D.T, x.D.X, x.D.Out, x.C.Kind, x.C.PC, x.C.Head, x.C.Next, x.C.H, x.C.X, x.C.Y, x.C.Out, x.G.PC, x.G.Mode, x.G.Obj, x.G.Who, x.G.D.Kind, x.G.D.PC, x.G.D.Base, x.G.D.Cap, x.G.D.B, x.G.D.T, x.G.D.X, x.G.D.Out, x.G.C.Kind, x.G.C.PC, x.G.C.Head, x.G.C.Next, x.G.C.H, x.G.C.X, x.G.C.Y, x.G.C.Out, x.G.Bin, x.G.Out, ())
  | 10 => fun x => (x.PC, x.IP, x.Ret, x.Want, x.Old, x.Obj, x.Slot, x.Bin, x.Regs, x.Buf, x.Batch, x.C.Kind, x.C.PC, x.C.Head, x.C.Next, x.C.H, x.C.X, x.C.Y, x.C.Out, x.G.PC, x.G.Mode, x.G.Obj, x.G.Who, x.G.D.Kind, x.G.D.PC, x.G.D.Base, x.G.D.Cap, x.G.D.B, x.G.D.T, x.G.D.X, x.G.D.Out, x.G.C.Kind, x.G.C.PC, x.G.C.Head, x.G.C.Next, x.G.C.H, x.G.C.X, x.G.C.Y, x.G.C.Out, x.G.Bin, x.G.Out, ())
  | 11 => fun x => (x.Marks, x.Black, ())
  | 12 => fun x => (x.PC, x.I, ())
  | 13 => fun x => (x.Kind, x.At, x.A, x.B, ())
  | 14 => fun x => (x.P.Workers, x.P.Mutators, x.P.Cap, x.P.Buf, x.P.Bin, x.P.Most, x.P.Price, x.P.Limit, x.P.H.Slots, x.P.H.Objs, x.P.Roots, x.P.Regs, x.P.Progs, x.P.Picks, x.H.Slots, x.H.Objs, x.M, x.Bins, x.T.Marks, x.T.Black, x.Work, x.Epoch, x.Flag, x.Done, x.Restarts, x.Acks, x.L.Scanned, x.L.Spent, x.L.Pool, x.L.Bal, x.Ws, x.Ms, x.D.PC, x.D.I, ())
  | 15 => fun x => (x.Grey.PC, x.Grey.Mode, x.Grey.Obj, x.Grey.Who, x.Grey.D.Kind, x.Grey.D.PC, x.Grey.D.Base, x.Grey.D.Cap, x.Grey.D.B, x.Grey.D.T, x.Grey.D.X, x.Grey.D.Out, x.Grey.C.Kind, x.Grey.C.PC, x.Grey.C.Head, x.Grey.C.Next, x.Grey.C.H, x.Grey.C.X, x.Grey.C.Y, x.Grey.C.Out, x.Grey.Bin, x.Grey.Out, x.s.P.Workers, x.s.P.Mutators, x.s.P.Cap, x.s.P.Buf, x.s.P.Bin, x.s.P.Most, x.s.P.Price, x.s.P.Limit, x.s.P.H.Slots, x.s.P.H.Objs, x.s.P.Roots, x.s.P.Regs, x.s.P.Progs, x.s.P.Picks, x.s.H.Slots, x.s.H.Objs, x.s.M, x.s.Bins, x.s.T.Marks, x.s.T.Black, x.s.Work, x.s.Epoch, x.s.Flag, x.s.Done, x.s.Restarts, x.s.Acks, x.s.L.Scanned, x.s.L.Spent, x.s.L.Pool, x.s.L.Bal, x.s.Ws, x.s.Ms, x.s.D.PC, x.s.D.I, ())
  | 16 => fun x => (x.L, x.At, ())
  | 17 => fun x => (x.Slots, x.Objs, ())
  | 18 => fun x => (x.Kind, x.N, ())
  | 19 => fun x => (x.Kind, x.R, x.A, x.S, ())
  | 20 => fun x => (x.Workers, x.Mutators, x.Cap, x.Buf, x.Bin, x.Most, x.Price, x.Limit, x.H.Slots, x.H.Objs, x.Roots, x.Regs, x.Progs, x.Picks, ())
  | 21 => fun x => (x.Marks, x.Black, ())
  | 22 => fun x => (x.Scanned, x.Spent, x.Pool, x.Bal, ())
  | 23 => fun x => (x.Kind, x.PC, x.Base, x.Cap, x.B, x.T, x.X, x.Out, ())
  | 24 => fun x => (x.Kind, x.PC, x.Head, x.Next, x.H, x.X, x.Y, x.Out, ())
  | 25 => fun x => (x.PC, x.Mode, x.Obj, x.Who, x.D.Kind, x.D.PC, x.D.Base, x.D.Cap, x.D.B, x.D.T, x.D.X, x.D.Out, x.C.Kind, x.C.PC, x.C.Head, x.C.Next, x.C.H, x.C.X, x.C.Y, x.C.Out, x.Bin, x.Out, ())
  | 26 => fun x => (x.PC, x.Obj, x.Slot, x.Victim, x.Bin, x.Batch, x.D.Kind, x.D.PC, x.D.Base, x.D.Cap, x.D.B, x.D.T, x.D.X, x.D.Out, x.C.Kind, x.C.PC, x.C.Head, x.C.Next, x.C.H, x.C.X, x.C.Y, x.C.Out, x.G.PC, x.G.Mode, x.G.Obj, x.G.Who, x.G.D.Kind, x.G.D.PC, x.G.D.Base, x.G.D.Cap, x.G.D.B, x.G.D.T, x.G.D.X, x.G.D.Out, x.G.C.Kind, x.G.C.PC, x.G.C.Head, x.G.C.Next, x.G.C.H, x.G.C.X, x.G.C.Y, x.G.C.Out, x.G.Bin, x.G.Out, ())
  | 27 => fun x => (x.PC, x.IP, x.Ret, x.Want, x.Old, x.Obj, x.Slot, x.Bin, x.Regs, x.Buf, x.Batch, x.C.Kind, x.C.PC, x.C.Head, x.C.Next, x.C.H, x.C.X, x.C.Y, x.C.Out, x.G.PC, x.G.Mode, x.G.Obj, x.G.Who, x.G.D.Kind, x.G.D.PC, x.G.D.Base, x.G.D.Cap, x.G.D.B, x.G.D.T, x.G.D.X, x.G.D.Out, x.G.C.Kind, x.G.C.PC, x.G.C.Head, x.G.C.Next, x.G.C.H, x.G.C.X, x.G.C.Y, x.G.C.Out, x.G.Bin, x.G.Out, ())
  | 28 => fun x => (x.PC, x.I, ())
  | 29 => fun x => (x.P.Workers, x.P.Mutators, x.P.Cap, x.P.Buf, x.P.Bin, x.P.Most, x.P.Price, x.P.Limit, x.P.H.Slots, x.P.H.Objs, x.P.Roots, x.P.Regs, x.P.Progs, x.P.Picks, x.H.Slots, x.H.Objs, x.M, x.Bins, x.T.Marks, x.T.Black, x.Work, x.Epoch, x.Flag, x.Done, x.Restarts, x.Acks, x.L.Scanned, x.L.Spent, x.L.Pool, x.L.Bal, x.Ws, x.Ms, x.D.PC, x.D.I, ())
  | 30 => fun x => (x.Kind, x.At, x.A, x.B, ())
  | _+31 => fun _ => ()
@[reducible] def pck : (n : Nat) → HL TT (lvs n) → TT n
  | 0 => fun x => ⟨x.1, x.2.1, x.2.2.1⟩
  | 1 => fun x => ⟨x.1, x.2.1, x.2.2.1, x.2.2.2.1⟩
  | 2 => fun x => ⟨x.1, x.2.1⟩
  | 3 => fun x => ⟨x.1, x.2.1⟩
  | 4 => fun x => ⟨x.1, x.2.1, x.2.2.1, x.2.2.2.1, x.2.2.2.2.1, x.2.2.2.2.2.1, x.2.2.2.2.2.2.1, x.2.2.2.2.2.2.2.1, ⟨x.2.2.2.2.2.2.2.2.1, x.2.2.2.2.2.2.2.2.2.1⟩, x.2.2.2.2.2.2.2.2.2.2.1, x.2.2.2.2.2.2.2.2.2.2.2.1, x.2.2.2.2.2.2.2.2.2.2.2.2.1, x.2.2.2.2.2.2.2.2.2.2.2.2.2.1⟩
  | 5 => fun x => ⟨x.1, x.2.1, x.2.2.1, x.2.2.2.1⟩
  | 6 => fun x => ⟨x.1, x.2.1, x.2.2.1, x.2.2.2.1, x.2.2.2.2.1, x.2.2.2.2.2.1, x.2.2.2.2.2.2.1, x.2.2.2.2.2.2.2.1⟩
  | 7 => fun x => ⟨x.1, x.2.1, x.2.2.1, x.2.2.2.1, x.2.2.2.2.1, x.2.2.2.2.2.1, x.2.2.2.2.2.2.1, x.2.2.2.2.2.2.2.1⟩
  | 8 => fun x => ⟨x.1, x.2.1, x.2.2.1, x.2.2.2.1, ⟨x.2.2.2.2.1, x.2.2.2.2.2.1, x.2.2.2.2.2.2.1, x.2.2.2.2.2.2.2.1, x.2.2.2.2.2.2.2.2.1, x.2.2.2.2.2.2.2.2.2.1, x.2.2.2.2.2.2.2.2.2.2.1, x.2.2.2.2.2.2.2.2.2.2.2.1⟩, ⟨x.2.2.2.2.2.2.2.2.2.2.2.2.1, x.2.2.2.2.2.2.2.2.2.2.2.2.2.1, x.2.2.2.2.2.2.2.2.2.2.2.2.2.2.1, x.2.2.2.2.2.2.2.2.2.2.2.2.2.2.2.1, x.2.2.2.2.2.2.2.2.2.2.2.2.2.2.2.2.1, x.2.2.2.2.2.2.2.2.2.2.2.2.2.2.2.2.2.1, x.2.2.2.2.2.2.2.2.2.2.2.2.2.2.2.2.2.2.1, x.2.2.2.2.2.2.2.2.2.2.2.2.2.2.2.2.2.2.2.1⟩, x.2.2.2.2.2.2.2.2.2.2.2.2.2.2.2.2.2.2.2.2.1, x.2.2.2.2.2.2.2.2.2.2.2.2.2.2.2.2.2.2.2.2.2.1⟩
  | 9 => fun x => ⟨x.1, x.2.1, x.2.2.1, x.2.2.2.1, x.2.2.2.2.1, x.2.2.2.2.2.1, ⟨x.2.2.2.2.2.2.1, x.2.2.2.2.2.2.2.1, x.2.2.2.2.2.2.2.2.1, x.2.2.2.2.2.2.2.2.2.1, x.2.2.2.2.2.2.2.2.2.2.1, x.2.2.2.2.2.2.2.2.2.2.2.1, x.2.2.2.2.2.2.2.2.2.2.2.2.1, x.2.2.2.2.2.2.2.2.2.2.2.2.2.1⟩, ⟨x.2.2.2.2.2.2.2.2.2.2.2.2.2.2.1, x.2.2.2.2.2.2.2.2.2.2.2.2.2.2.2.1, x.2.2.2.2.2.2.2.2.2.2.2.2.2.2.2.2.1, x.2.2.2.2.2.2.2.2.2.2.2.2.2.2.2.2.2.1, x.2.2.2.2.2.2.2.2.2.2.2.2.2.2.2.2.2.2.1, x.2.2.2.2.2.2.2.2.2.2.2.2.2.2.2.2.2.2.2.1, x.2.2.2.2.2.2.2.2.2.2.2.2.2.2.2.2.2.2.2.2.1, x.2.2.2.2.2.2.2.2.2.2.2.2.2.2.2.2.2.2.2.2.2.1⟩, ⟨x.2.2.2.2.2.2.2.2.2.2.2.2.2.2.2.2.2.2.2.2.2.2.1, x.2.2.2.2.2.2.2.2.2.2.2.2.2.2.2.2.2.2.2.2.2.2.2.1, x.2.2.2.2.2.2.2.2.2.2.2.2.2.2.2.2.2.2.2.2.2.2.2.2.1, x.2.2.2.2.2.2.2.2.2.2.2.2.2.2.2.2.2.2.2.2.2.2.2.2.2.1, ⟨x.2.2.2.2.2.2.2.2.2.2.2.2.2.2.2.2.2.2.2.2.2.2.2.2.2.2.1, x.2.2.2.2.2.2.2.2.2.2.2.2.2.2.2.2.2.2.2.2.2.2.2.2.2.2.2.1, x.2.2.2.2.2.2.2.2.2.2.2.2.2.2.2.2.2.2.2.2.2.2.2.2.2.2.2.2.1, x.2.2.2.2.2.2.2.2.2.2.2.2.2.2.2.2.2.2.2.2.2.2.2.2.2.2.2.2.2.1, x.2.2.2.2.2.2.2.2.2.2.2.2.2.2.2.2.2.2.2.2.2.2.2.2.2.2.2.2.2.2.1, x.2.2.2.2.2.2.2.2.2.2.2.2.2.2.2.2.2.2.2.2.2.2.2.2.2.2.2.2.2.2.2.1, x.2.2.2.2.2.2.2.2.2.2.2.2.2.2.2.2.2.2.2.2.2.2.2.2.2.2.2.2.2.2.2.2.1, x.2.2.2.2.2.2.2.2.2.2.2.2.2.2.2.2.2.2.2.2.2.2.2.2.2.2.2.2.2.2.2.2.2.1⟩, ⟨x.2.2.2.2.2.2.2.2.2.2.2.2.2.2.2.2.2.2.2.2.2.2.2.2.2.2.2.2.2.2.2.2.2.2.1, x.2.2.2.2.2.2.2.2.2.2.2.2.2.2.2.2.2.2.2.2.2.2.2.2.2.2.2.2.2.2.2.2.2.2.2.1, x.2.2.2.2.2.2.2.2.2.2.2.2.2.2.2.2.2.2.2.2.2.2.2.2.2.2.2.2.2.2.2.2.2.2.2.2.1, x.2.2.2.2.2.2.2.2.2.2.2.2.2.2.2.2.2.2.2.2.2.2.2.2.2.2.2.2.2.2.2.2.2.2.2.2.2.1, x.2.2.2.2.2.2.2.2.2.2.2.2.2.2.2.2.2.2.2.2.2.2.2.2.2.2.2.2.2.2.2.2.2.2.2.2.2.2.1, x.2.2.2.2.2.2.2.2.2.2.2.2.2.2.2.2.2.2.2.2.2.2.2.2.2.2.2.2.2.2.2.2.2.2.2.2.2.2.2.1, x.2.2.2.2.2.2.2.2.2.2.2.2.2.2.2.2.2.2.2.2.2.2.2.2.2.2.2.2.2.2.2.2.2.2.2.2.2.2.2.2.1, x.2.2.2.2.2.2.2.2.2.2.2.2.2.2.2.2.2.2.2.2.2.2.2.2.2.2.2.2.2.2.2.2.2.2.2.2.2.2.2.2.2.1⟩, x.2.2.2.2.2.2.2.2.2.2.2.2.2.2.2.2.2.2.2.2.2.2.2.2.2.2.2.2.2.2.2.2.2.2.2.2.2.2.2.2.2.2.1, x.2.2.2.2.2.2.2.2.2.2.2.2.2.2.2.2.2.2.2.2.2.2.2.2.2.2.2.2.2.2.2.2.2.2.2.2.2.2.2.2.2.2.2.1⟩⟩
  | 10 => fun x => ⟨x.1, x.2.1, x.2.2.1, x.2.2.2.1, x.2.2.2.2.1, x.2.2.2.2.2.1, x.2.2.2.2.2.2.1, x.2.2.2.2.2.2.2.1, x.2.2.2.2.2.2.2.2.1, x.2.2.2.2.2.2.2.2.2.1, x.2.2.2.2.2.2.2.2.2.2.1, ⟨x.2.2.2.2.2.2.2.2.2.2.2.1, x.2.2.2.2.2.2.2.2.2.2.2.2.1, x.2.2.2.2.2.2.2.2.2.2.2.2.2.1, x.2.2.2.2.2.2.2.2.2.2.2.2.2.2.1, x.2.2.2.2.2.2.2.2.2.2.2.2.2.2.2.1, x.2.2.2.2.2.2.2.2.2.2.2.2.2.2.2.2.1, x.2.2.2.2.2.2.2.2.2.2.2.2.2.2.2.2.2.1, x.2.2.2.2.2.2.2.2.2.2.2.2.2.2.2.2.2.2.1⟩, ⟨x.2.2.2.2.2.2.2.2.2.2.2.2.2.2.2.2.2.2.2.1, x.2.2.2.2.2.2.2.2.2.2.2.2.2.2.2.2.2.2.2.2.1, x.2.2.2.2.2.2.2.2.2.2.2.2.2.2.2.2.2.2.2.2.2.1, x.2.2.2.2.2.2.2.2.2.2.2.2.2.2.2.2.2.2.2.2.2.2.1, ⟨x.2.2.2.2.2.2.2.2.2.2.2.2.2.2.2.2.2.2.2.2.2.2.2.1, x.2.2.2.2.2.2.2.2.2.2.2.2.2.2.2.2.2.2.2.2.2.2.2.2.1, x.2.2.2.2.2.2.2.2.2.2.2.2.2.2.2.2.2.2.2.2.2.2.2.2.2.1, x.2.2.2.2.2.2.2.2.2.2.2.2.2.2.2.2.2.2.2.2.2.2.2.2.2.2.1, x.2.2.2.2.2.2.2.2.2.2.2.2.2.2.2.2.2.2.2.2.2.2.2.2.2.2.2.1, x.2.2.2.2.2.2.2.2.2.2.2.2.2.2.2.2.2.2.2.2.2.2.2.2.2.2.2.2.1, x.2.2.2.2.2.2.2.2.2.2.2.2.2.2.2.2.2.2.2.2.2.2.2.2.2.2.2.2.2.1, x.2.2.2.2.2.2.2.2.2.2.2.2.2.2.2.2.2.2.2.2.2.2.2.2.2.2.2.2.2.2.1⟩, ⟨x.2.2.2.2.2.2.2.2.2.2.2.2.2.2.2.2.2.2.2.2.2.2.2.2.2.2.2.2.2.2.2.1, x.2.2.2.2.2.2.2.2.2.2.2.2.2.2.2.2.2.2.2.2.2.2.2.2.2.2.2.2.2.2.2.2.1, x.2.2.2.2.2.2.2.2.2.2.2.2.2.2.2.2.2.2.2.2.2.2.2.2.2.2.2.2.2.2.2.2.2.1, x.2.2.2.2.2.2.2.2.2.2.2.2.2.2.2.2.2.2.2.2.2.2.2.2.2.2.2.2.2.2.2.2.2.2.1, x.2.2.2.2.2.2.2.2.2.2.2.2.2.2.2.2.2.2.2.2.2.2.2.2.2.2.2.2.2.2.2.2.2.2.2.1, x.2.2.2.2.2.2.2.2.2.2.2.2.2.2.2.2.2.2.2.2.2.2.2.2.2.2.2.2.2.2.2.2.2.2.2.2.1, x.2.2.2.2.2.2.2.2.2.2.2.2.2.2.2.2.2.2.2.2.2.2.2.2.2.2.2.2.2.2.2.2.2.2.2.2.2.1, x.2.2.2.2.2.2.2.2.2.2.2.2.2.2.2.2.2.2.2.2.2.2.2.2.2.2.2.2.2.2.2.2.2.2.2.2.2.2.1⟩, x.2.2.2.2.2.2.2.2.2.2.2.2.2.2.2.2.2.2.2.2.2.2.2.2.2.2.2.2.2.2.2.2.2.2.2.2.2.2.2.1, x.2.2.2.2.2.2.2.2.2.2.2.2.2.2.2.2.2.2.2.2.2.2.2.2.2.2.2.2.2.2.2.2.2.2.2.2.2.2.2.2.1⟩⟩
  | 11 => fun x => ⟨x.1, x.2.1⟩
  | 12 => fun x => ⟨x.1, x.2.1⟩
  | 13 => fun x => ⟨x.1, x.2.1, x.2.2.1, x.2.2.2.1⟩
  | 14 => fun x => ⟨⟨x.1, x.2.1, x.2.2.1, x.2.2.2.1, x.2.2.2.2.1, x.2.2.2.2.2.1, x.2.2.2.2.2.2.1, x.2.2.2.2.2.2.2.1, ⟨x.2.2.2.2.2.2.2.2.1, x.2.2.2.2.2.2.2.2.2.1⟩, x.2.2.2.2.2.2.2.2.2.2.1, x.2.2.2.2.2.2.2.2.2.2.2.1, x.2.2.2.2.2.2.2.2.2.2.2.2.1, x.2.2.2.2.2.2.2.2.2.2.2.2.2.1⟩, ⟨x.2.2.2.2.2.2.2.2.2.2.2.2.2.2.1, x.2.2.2.2.2.2.2.2.2.2.2.2.2.2.2.1⟩, x.2.2.2.2.2.2.2.2.2.2.2.2.2.2.2.2.1, x.2.2.2.2.2.2.2.2.2.2.2.2.2.2.2.2.2.1, ⟨x.2.2.2.2.2.2.2.2.2.2.2.2.2.2.2.2.2.2.1, x.2.2.2.2.2.2.2.2.2.2.2.2.2.2.2.2.2.2.2.1⟩, x.2.2.2.2.2.2.2.2.2.2.2.2.2.2.2.2.2.2.2.2.1, x.2.2.2.2.2.2.2.2.2.2.2.2.2.2.2.2.2.2.2.2.2.1, x.2.2.2.2.2.2.2.2.2.2.2.2.2.2.2.2.2.2.2.2.2.2.1, x.2.2.2.2.2.2.2.2.2.2.2.2.2.2.2.2.2.2.2.2.2.2.2.1, x.2.2.2.2.2.2.2.2.2.2.2.2.2.2.2.2.2.2.2.2.2.2.2.2.1, x.2.2.2.2.2.2.2.2.2.2.2.2.2.2.2.2.2.2.2.2.2.2.2.2.2.1, ⟨x.2.2.2.2.2.2.2.2.2.2.2.2.2.2.2.2.2.2.2.2.2.2.2.2.2.2.1, x.2.2.2.2.2.2.2.2.2.2.2.2.2.2.2.2.2.2.2.2.2.2.2.2.2.2.2.1, x.2.2.2.2.2.2.2.2.2.2.2.2.2.2.2.2.2.2.2.2.2.2.2.2.2.2.2.2.1, x.2.2.2.2.2.2.2.2.2.2.2.2.2.2.2.2.2.2.2.2.2.2.2.2.2.2.2.2.2.1⟩, x.2.2.2.2.2.2.2.2.2.2.2.2.2.2.2.2.2.2.2.2.2.2.2.2.2.2.2.2.2.2.1, x.2.2.2.2.2.2.2.2.2.2.2.2.2.2.2.2.2.2.2.2.2.2.2.2.2.2.2.2.2.2.2.1, ⟨x.2.2.2.2.2.2.2.2.2.2.2.2.2.2.2.2.2.2.2.2.2.2.2.2.2.2.2.2.2.2.2.2.1, x.2.2.2.2.2.2.2.2.2.2.2.2.2.2.2.2.2.2.2.2.2.2.2.2.2.2.2.2.2.2.2.2.2.1⟩⟩
  | 15 => fun x => ⟨⟨x.1, x.2.1, x.2.2.1, x.2.2.2.1, ⟨x.2.2.2.2.1, x.2.2.2.2.2.1, x.2.2.2.2.2.2.1, x.2.2.2.2.2.2.2.1, x.2.2.2.2.2.2.2.2.1, x.2.2.2.2.2.2.2.2.2.1, x.2.2.2.2.2.2.2.2.2.2.1, x.2.2.2.2.2.2.2.2.2.2.2.1⟩, ⟨x.2.2.2.2.2.2.2.2.2.2.2.2.1, x.2.2.2.2.2.2.2.2.2.2.2.2.2.1, x.2.2.2.2.2.2.2.2.2.2.2.2.2.2.1, x.2.2.2.2.2.2.2.2.2.2.2.2.2.2.2.1, x.2.2.2.2.2.2.2.2.2.2.2.2.2.2.2.2.1, x.2.2.2.2.2.2.2.2.2.2.2.2.2.2.2.2.2.1, x.2.2.2.2.2.2.2.2.2.2.2.2.2.2.2.2.2.2.1, x.2.2.2.2.2.2.2.2.2.2.2.2.2.2.2.2.2.2.2.1⟩, x.2.2.2.2.2.2.2.2.2.2.2.2.2.2.2.2.2.2.2.2.1, x.2.2.2.2.2.2.2.2.2.2.2.2.2.2.2.2.2.2.2.2.2.1⟩, ⟨⟨x.2.2.2.2.2.2.2.2.2.2.2.2.2.2.2.2.2.2.2.2.2.2.1, x.2.2.2.2.2.2.2.2.2.2.2.2.2.2.2.2.2.2.2.2.2.2.2.1, x.2.2.2.2.2.2.2.2.2.2.2.2.2.2.2.2.2.2.2.2.2.2.2.2.1, x.2.2.2.2.2.2.2.2.2.2.2.2.2.2.2.2.2.2.2.2.2.2.2.2.2.1, x.2.2.2.2.2.2.2.2.2.2.2.2.2.2.2.2.2.2.2.2.2.2.2.2.2.2.1, x.2.2.2.2.2.2.2.2.2.2.2.2.2.2.2.2.2.2.2.2.2.2.2.2.2.2.2.1, x.2.2.2.2.2.2.2.2.2.2.2.2.2.2.2.2.2.2.2.2.2.2.2.2.2.2.2.2.1, x.2.2.2.2.2.2.2.2.2.2.2.2.2.2.2.2.2.2.2.2.2.2.2.2.2.2.2.2.2.1, ⟨x.2.2.2.2.2.2.2.2.2.2.2.2.2.2.2.2.2.2.2.2.2.2.2.2.2.2.2.2.2.2.1, x.2.2.2.2.2.2.2.2.2.2.2.2.2.2.2.2.2.2.2.2.2.2.2.2.2.2.2.2.2.2.2.1⟩, x.2.2.2.2.2.2.2.2.2.2.2.2.2.2.2.2.2.2.2.2.2.2.2.2.2.2.2.2.2.2.2.2.1, x.2.2.2.2.2.2.2.2.2.2.2.2.2.2.2.2.2.2.2.2.2.2.2.2.2.2.2.2.2.2.2.2.2.1, x.2.2.2.2.2.2.2.2.2.2.2.2.2.2.2.2.2.2.2.2.2.2.2.2.2.2.2.2.2.2.2.2.2.2.1, x.2.2.2.2.2.2.2.2.2.2.2.2.2.2.2.2.2.2.2.2.2.2.2.2.2.2.2.2.2.2.2.2.2.2.2.1⟩, ⟨x.2.2.2.2.2.2.2.2.2.2.2.2.2.2.2.2.2.2.2.2.2.2.2.2.2.2.2.2.2.2.2.2.2.2.2.2.1, x.2.2.2.2.2.2.2.2.2.2.2.2.2.2.2.2.2.2.2.2.2.2.2.2.2.2.2.2.2.2.2.2.2.2.2.2.2.1⟩, x.2.2.2.2.2.2.2.2.2.2.2.2.2.2.2.2.2.2.2.2.2.2.2.2.2.2.2.2.2.2.2.2.2.2.2.2.2.2.1, x.2.2.2.2.2.2.2.2.2.2.2.2.2.2.2.2.2.2.2.2.2.2.2.2.2.2.2.2.2.2.2.2.2.2.2.2.2.2.2.1, ⟨x.2.2.2.2.2.2.2.2.2.2.2.2.2.2.2.2.2.2.2.2.2.2.2.2.2.2.2.2.2.2.2.2.2.2.2.2.2.2.2.2.1, x.2.2.2.2.2.2.2.2.2.2.2.2.2.2.2.2.2.2.2.2.2.2.2.2.2.2.2.2.2.2.2.2.2.2.2.2.2.2.2.2.2.1⟩, x.2.2.2.2.2.2.2.2.2.2.2.2.2.2.2.2.2.2.2.2.2.2.2.2.2.2.2.2.2.2.2.2.2.2.2.2.2.2.2.2.2.2.1, x.2.2.2.2.2.2.2.2.2.2.2.2.2.2.2.2.2.2.2.2.2.2.2.2.2.2.2.2.2.2.2.2.2.2.2.2.2.2.2.2.2.2.2.1, x.2.2.2.2.2.2.2.2.2.2.2.2.2.2.2.2.2.2.2.2.2.2.2.2.2.2.2.2.2.2.2.2.2.2.2.2.2.2.2.2.2.2.2.2.1, x.2.2.2.2.2.2.2.2.2.2.2.2.2.2.2.2.2.2.2.2.2.2.2.2.2.2.2.2.2.2.2.2.2.2.2.2.2.2.2.2.2.2.2.2.2.1, x.2.2.2.2.2.2.2.2.2.2.2.2.2.2.2.2.2.2.2.2.2.2.2.2.2.2.2.2.2.2.2.2.2.2.2.2.2.2.2.2.2.2.2.2.2.2.1, x.2.2.2.2.2.2.2.2.2.2.2.2.2.2.2.2.2.2.2.2.2.2.2.2.2.2.2.2.2.2.2.2.2.2.2.2.2.2.2.2.2.2.2.2.2.2.2.1, ⟨x.2.2.2.2.2.2.2.2.2.2.2.2.2.2.2.2.2.2.2.2.2.2.2.2.2.2.2.2.2.2.2.2.2.2.2.2.2.2.2.2.2.2.2.2.2.2.2.2.1, x.2.2.2.2.2.2.2.2.2.2.2.2.2.2.2.2.2.2.2.2.2.2.2.2.2.2.2.2.2.2.2.2.2.2.2.2.2.2.2.2.2.2.2.2.2.2.2.2.2.1, x.2.2.2.2.2.2.2.2.2.2.2.2.2.2.2.2.2.2.2.2.2.2.2.2.2.2.2.2.2.2.2.2.2.2.2.2.2.2.2.2.2.2.2.2.2.2.2.2.2.2.1, x.2.2.2.2.2.2.2.2.2.2.2.2.2.2.2.2.2.2.2.2.2.2.2.2.2.2.2.2.2.2.2.2.2.2.2.2.2.2.2.2.2.2.2.2.2.2.2.2.2.2.2.1⟩, x.2.2.2.2.2.2.2.2.2.2.2.2.2.2.2.2.2.2.2.2.2.2.2.2.2.2.2.2.2.2.2.2.2.2.2.2.2.2.2.2.2.2.2.2.2.2.2.2.2.2.2.2.1, x.2.2.2.2.2.2.2.2.2.2.2.2.2.2.2.2.2.2.2.2.2.2.2.2.2.2.2.2.2.2.2.2.2.2.2.2.2.2.2.2.2.2.2.2.2.2.2.2.2.2.2.2.2.1, ⟨x.2.2.2.2.2.2.2.2.2.2.2.2.2.2.2.2.2.2.2.2.2.2.2.2.2.2.2.2.2.2.2.2.2.2.2.2.2.2.2.2.2.2.2.2.2.2.2.2.2.2.2.2.2.2.1, x.2.2.2.2.2.2.2.2.2.2.2.2.2.2.2.2.2.2.2.2.2.2.2.2.2.2.2.2.2.2.2.2.2.2.2.2.2.2.2.2.2.2.2.2.2.2.2.2.2.2.2.2.2.2.2.1⟩⟩⟩
  | 16 => fun x => ⟨x.1, x.2.1⟩
  | 17 => fun x => ⟨x.1, x.2.1⟩
  | 18 => fun x => ⟨x.1, x.2.1⟩
  | 19 => fun x => ⟨x.1, x.2.1, x.2.2.1, x.2.2.2.1⟩
  | 20 => fun x => ⟨x.1, x.2.1, x.2.2.1, x.2.2.2.1, x.2.2.2.2.1, x.2.2.2.2.2.1, x.2.2.2.2.2.2.1, x.2.2.2.2.2.2.2.1, ⟨x.2.2.2.2.2.2.2.2.1, x.2.2.2.2.2.2.2.2.2.1⟩, x.2.2.2.2.2.2.2.2.2.2.1, x.2.2.2.2.2.2.2.2.2.2.2.1, x.2.2.2.2.2.2.2.2.2.2.2.2.1, x.2.2.2.2.2.2.2.2.2.2.2.2.2.1⟩
  | 21 => fun x => ⟨x.1, x.2.1⟩
  | 22 => fun x => ⟨x.1, x.2.1, x.2.2.1, x.2.2.2.1⟩
  | 23 => fun x => ⟨x.1, x.2.1, x.2.2.1, x.2.2.2.1, x.2.2.2.2.1, x.2.2.2.2.2.1, x.2.2.2.2.2.2.1, x.2.2.2.2.2.2.2.1⟩
  | 24 => fun x => ⟨x.1, x.2.1, x.2.2.1, x.2.2.2.1, x.2.2.2.2.1, x.2.2.2.2.2.1, x.2.2.2.2.2.2.1, x.2.2.2.2.2.2.2.1⟩
  | 25 => fun x => ⟨x.1, x.2.1, x.2.2.1, x.2.2.2.1, ⟨x.2.2.2.2.1, x.2.2.2.2.2.1, x.2.2.2.2.2.2.1, x.2.2.2.2.2.2.2.1, x.2.2.2.2.2.2.2.2.1, x.2.2.2.2.2.2.2.2.2.1, x.2.2.2.2.2.2.2.2.2.2.1, x.2.2.2.2.2.2.2.2.2.2.2.1⟩, ⟨x.2.2.2.2.2.2.2.2.2.2.2.2.1, x.2.2.2.2.2.2.2.2.2.2.2.2.2.1, x.2.2.2.2.2.2.2.2.2.2.2.2.2.2.1, x.2.2.2.2.2.2.2.2.2.2.2.2.2.2.2.1, x.2.2.2.2.2.2.2.2.2.2.2.2.2.2.2.2.1, x.2.2.2.2.2.2.2.2.2.2.2.2.2.2.2.2.2.1, x.2.2.2.2.2.2.2.2.2.2.2.2.2.2.2.2.2.2.1, x.2.2.2.2.2.2.2.2.2.2.2.2.2.2.2.2.2.2.2.1⟩, x.2.2.2.2.2.2.2.2.2.2.2.2.2.2.2.2.2.2.2.2.1, x.2.2.2.2.2.2.2.2.2.2.2.2.2.2.2.2.2.2.2.2.2.1⟩
  | 26 => fun x => ⟨x.1, x.2.1, x.2.2.1, x.2.2.2.1, x.2.2.2.2.1, x.2.2.2.2.2.1, ⟨x.2.2.2.2.2.2.1, x.2.2.2.2.2.2.2.1, x.2.2.2.2.2.2.2.2.1, x.2.2.2.2.2.2.2.2.2.1, x.2.2.2.2.2.2.2.2.2.2.1, x.2.2.2.2.2.2.2.2.2.2.2.1, x.2.2.2.2.2.2.2.2.2.2.2.2.1, x.2.2.2.2.2.2.2.2.2.2.2.2.2.1⟩, ⟨x.2.2.2.2.2.2.2.2.2.2.2.2.2.2.1, x.2.2.2.2.2.2.2.2.2.2.2.2.2.2.2.1, x.2.2.2.2.2.2.2.2.2.2.2.2.2.2.2.2.1, x.2.2.2.2.2.2.2.2.2.2.2.2.2.2.2.2.2.1, x.2.2.2.2.2.2.2.2.2.2.2.2.2.2.2.2.2.2.1, x.2.2.2.2.2.2.2.2.2.2.2.2.2.2.2.2.2.2.2.1, x.2.2.2.2.2.2.2.2.2.2.2.2.2.2.2.2.2.2.2.2.1, x.2.2.2.2.2.2.2.2.2.2.2.2.2.2.2.2.2.2.2.2.2.1⟩, ⟨x.2.2.2.2.2.2.2.2.2.2.2.2.2.2.2.2.2.2.2.2.2.2.1, x.2.2.2.2.2.2.2.2.2.2.2.2.2.2.2.2.2.2.2.2.2.2.2.1, x.2.2.2.2.2.2.2.2.2.2.2.2.2.2.2.2.2.2.2.2.2.2.2.2.1, x.2.2.2.2.2.2.2.2.2.2.2.2.2.2.2.2.2.2.2.2.2.2.2.2.2.1, ⟨x.2.2.2.2.2.2.2.2.2.2.2.2.2.2.2.2.2.2.2.2.2.2.2.2.2.2.1, x.2.2.2.2.2.2.2.2.2.2.2.2.2.2.2.2.2.2.2.2.2.2.2.2.2.2.2.1, x.2.2.2.2.2.2.2.2.2.2.2.2.2.2.2.2.2.2.2.2.2.2.2.2.2.2.2.2.1, x.2.2.2.2.2.2.2.2.2.2.2.2.2.2.2.2.2.2.2.2.2.2.2.2.2.2.2.2.2.1, x.2.2.2.2.2.2.2.2.2.2.2.2.2.2.2.2.2.2.2.2.2.2.2.2.2.2.2.2.2.2.1, x.2.2.2.2.2.2.2.2.2.2.2.2.2.2.2.2.2.2.2.2.2.2.2.2.2.2.2.2.2.2.2.1, x.2.2.2.2.2.2.2.2.2.2.2.2.2.2.2.2.2.2.2.2.2.2.2.2.2.2.2.2.2.2.2.2.1, x.2.2.2.2.2.2.2.2.2.2.2.2.2.2.2.2.2.2.2.2.2.2.2.2.2.2.2.2.2.2.2.2.2.1⟩, ⟨x.2.2.2.2.2.2.2.2.2.2.2.2.2.2.2.2.2.2.2.2.2.2.2.2.2.2.2.2.2.2.2.2.2.2.1, x.2.2.2.2.2.2.2.2.2.2.2.2.2.2.2.2.2.2.2.2.2.2.2.2.2.2.2.2.2.2.2.2.2.2.2.1, x.2.2.2.2.2.2.2.2.2.2.2.2.2.2.2.2.2.2.2.2.2.2.2.2.2.2.2.2.2.2.2.2.2.2.2.2.1, x.2.2.2.2.2.2.2.2.2.2.2.2.2.2.2.2.2.2.2.2.2.2.2.2.2.2.2.2.2.2.2.2.2.2.2.2.2.1, x.2.2.2.2.2.2.2.2.2.2.2.2.2.2.2.2.2.2.2.2.2.2.2.2.2.2.2.2.2.2.2.2.2.2.2.2.2.2.1, x.2.2.2.2.2.2.2.2.2.2.2.2.2.2.2.2.2.2.2.2.2.2.2.2.2.2.2.2.2.2.2.2.2.2.2.2.2.2.2.1, x.2.2.2.2.2.2.2.2.2.2.2.2.2.2.2.2.2.2.2.2.2.2.2.2.2.2.2.2.2.2.2.2.2.2.2.2.2.2.2.2.1, x.2.2.2.2.2.2.2.2.2.2.2.2.2.2.2.2.2.2.2.2.2.2.2.2.2.2.2.2.2.2.2.2.2.2.2.2.2.2.2.2.2.1⟩, x.2.2.2.2.2.2.2.2.2.2.2.2.2.2.2.2.2.2.2.2.2.2.2.2.2.2.2.2.2.2.2.2.2.2.2.2.2.2.2.2.2.2.1, x.2.2.2.2.2.2.2.2.2.2.2.2.2.2.2.2.2.2.2.2.2.2.2.2.2.2.2.2.2.2.2.2.2.2.2.2.2.2.2.2.2.2.2.1⟩⟩
  | 27 => fun x => ⟨x.1, x.2.1, x.2.2.1, x.2.2.2.1, x.2.2.2.2.1, x.2.2.2.2.2.1, x.2.2.2.2.2.2.1, x.2.2.2.2.2.2.2.1, x.2.2.2.2.2.2.2.2.1, x.2.2.2.2.2.2.2.2.2.1, x.2.2.2.2.2.2.2.2.2.2.1, ⟨x.2.2.2.2.2.2.2.2.2.2.2.1, x.2.2.2.2.2.2.2.2.2.2.2.2.1, x.2.2.2.2.2.2.2.2.2.2.2.2.2.1, x.2.2.2.2.2.2.2.2.2.2.2.2.2.2.1, x.2.2.2.2.2.2.2.2.2.2.2.2.2.2.2.1, x.2.2.2.2.2.2.2.2.2.2.2.2.2.2.2.2.1, x.2.2.2.2.2.2.2.2.2.2.2.2.2.2.2.2.2.1, x.2.2.2.2.2.2.2.2.2.2.2.2.2.2.2.2.2.2.1⟩, ⟨x.2.2.2.2.2.2.2.2.2.2.2.2.2.2.2.2.2.2.2.1, x.2.2.2.2.2.2.2.2.2.2.2.2.2.2.2.2.2.2.2.2.1, x.2.2.2.2.2.2.2.2.2.2.2.2.2.2.2.2.2.2.2.2.2.1, x.2.2.2.2.2.2.2.2.2.2.2.2.2.2.2.2.2.2.2.2.2.2.1, ⟨x.2.2.2.2.2.2.2.2.2.2.2.2.2.2.2.2.2.2.2.2.2.2.2.1, x.2.2.2.2.2.2.2.2.2.2.2.2.2.2.2.2.2.2.2.2.2.2.2.2.1, x.2.2.2.2.2.2.2.2.2.2.2.2.2.2.2.2.2.2.2.2.2.2.2.2.2.1, x.2.2.2.2.2.2.2.2.2.2.2.2.2.2.2.2.2.2.2.2.2.2.2.2.2.2.1, x.2.2.2.2.2.2.2.2.2.2.2.2.2.2.2.2.2.2.2.2.2.2.2.2.2.2.2.1, x.2.2.2.2.2.2.2.2.2.2.2.2.2.2.2.2.2.2.2.2.2.2.2.2.2.2.2.2.1, x.2.2.2.2.2.2.2.2.2.2.2.2.2.2.2.2.2.2.2.2.2.2.2.2.2.2.2.2.2.1, x.2.2.2.2.2.2.2.2.2.2.2.2.2.2.2.2.2.2.2.2.2.2.2.2.2.2.2.2.2.2.1⟩, ⟨x.2.2.2.2.2.2.2.2.2.2.2.2.2.2.2.2.2.2.2.2.2.2.2.2.2.2.2.2.2.2.2.1, x.2.2.2.2.2.2.2.2.2.2.2.2.2.2.2.2.2.2.2.2.2.2.2.2.2.2.2.2.2.2.2.2.1, x.2.2.2.2.2.2.2.2.2.2.2.2.2.2.2.2.2.2.2.2.2.2.2.2.2.2.2.2.2.2.2.2.2.1, x.2.2.2.2.2.2.2.2.2.2.2.2.2.2.2.2.2.2.2.2.2.2.2.2.2.2.2.2.2.2.2.2.2.2.1, x.2.2.2.2.2.2.2.2.2.2.2.2.2.2.2.2.2.2.2.2.2.2.2.2.2.2.2.2.2.2.2.2.2.2.2.1, x.2.2.2.2.2.2.2.2.2.2.2.2.2.2.2.2.2.2.2.2.2.2.2.2.2.2.2.2.2.2.2.2.2.2.2.2.1, x.2.2.2.2.2.2.2.2.2.2.2.2.2.2.2.2.2.2.2.2.2.2.2.2.2.2.2.2.2.2.2.2.2.2.2.2.2.1, x.2.2.2.2.2.2.2.2.2.2.2.2.2.2.2.2.2.2.2.2.2.2.2.2.2.2.2.2.2.2.2.2.2.2.2.2.2.2.1⟩, x.2.2.2.2.2.2.2.2.2.2.2.2.2.2.2.2.2.2.2.2.2.2.2.2.2.2.2.2.2.2.2.2.2.2.2.2.2.2.2.1, x.2.2.2.2.2.2.2.2.2.2.2.2.2.2.2.2.2.2.2.2.2.2.2.2.2.2.2.2.2.2.2.2.2.2.2.2.2.2.2.2.1⟩⟩
  | 28 => fun x => ⟨x.1, x.2.1⟩
  | 29 => fun x => ⟨⟨x.1, x.2.1, x.2.2.1, x.2.2.2.1, x.2.2.2.2.1, x.2.2.2.2.2.1, x.2.2.2.2.2.2.1, x.2.2.2.2.2.2.2.1, ⟨x.2.2.2.2.2.2.2.2.1, x.2.2.2.2.2.2.2.2.2.1⟩, x.2.2.2.2.2.2.2.2.2.2.1, x.2.2.2.2.2.2.2.2.2.2.2.1, x.2.2.2.2.2.2.2.2.2.2.2.2.1, x.2.2.2.2.2.2.2.2.2.2.2.2.2.1⟩, ⟨x.2.2.2.2.2.2.2.2.2.2.2.2.2.2.1, x.2.2.2.2.2.2.2.2.2.2.2.2.2.2.2.1⟩, x.2.2.2.2.2.2.2.2.2.2.2.2.2.2.2.2.1, x.2.2.2.2.2.2.2.2.2.2.2.2.2.2.2.2.2.1, ⟨x.2.2.2.2.2.2.2.2.2.2.2.2.2.2.2.2.2.2.1, x.2.2.2.2.2.2.2.2.2.2.2.2.2.2.2.2.2.2.2.1⟩, x.2.2.2.2.2.2.2.2.2.2.2.2.2.2.2.2.2.2.2.2.1, x.2.2.2.2.2.2.2.2.2.2.2.2.2.2.2.2.2.2.2.2.2.1, x.2.2.2.2.2.2.2.2.2.2.2.2.2.2.2.2.2.2.2.2.2.2.1, x.2.2.2.2.2.2.2.2.2.2.2.2.2.2.2.2.2.2.2.2.2.2.2.1, x.2.2.2.2.2.2.2.2.2.2.2.2.2.2.2.2.2.2.2.2.2.2.2.2.1, x.2.2.2.2.2.2.2.2.2.2.2.2.2.2.2.2.2.2.2.2.2.2.2.2.2.1, ⟨x.2.2.2.2.2.2.2.2.2.2.2.2.2.2.2.2.2.2.2.2.2.2.2.2.2.2.1, x.2.2.2.2.2.2.2.2.2.2.2.2.2.2.2.2.2.2.2.2.2.2.2.2.2.2.2.1, x.2.2.2.2.2.2.2.2.2.2.2.2.2.2.2.2.2.2.2.2.2.2.2.2.2.2.2.2.1, x.2.2.2.2.2.2.2.2.2.2.2.2.2.2.2.2.2.2.2.2.2.2.2.2.2.2.2.2.2.1⟩, x.2.2.2.2.2.2.2.2.2.2.2.2.2.2.2.2.2.2.2.2.2.2.2.2.2.2.2.2.2.2.1, x.2.2.2.2.2.2.2.2.2.2.2.2.2.2.2.2.2.2.2.2.2.2.2.2.2.2.2.2.2.2.2.1, ⟨x.2.2.2.2.2.2.2.2.2.2.2.2.2.2.2.2.2.2.2.2.2.2.2.2.2.2.2.2.2.2.2.2.1, x.2.2.2.2.2.2.2.2.2.2.2.2.2.2.2.2.2.2.2.2.2.2.2.2.2.2.2.2.2.2.2.2.2.1⟩⟩
  | 30 => fun x => ⟨x.1, x.2.1, x.2.2.1, x.2.2.2.1⟩
  | _+31 => fun _ => ()
theorem pck_unp : ∀ n x, pck n (unp n x) = x
  | 0 => fun _ => rfl
  | 1 => fun _ => rfl
  | 2 => fun _ => rfl
  | 3 => fun _ => rfl
  | 4 => fun _ => rfl
  | 5 => fun _ => rfl
  | 6 => fun _ => rfl
  | 7 => fun _ => rfl
  | 8 => fun _ => rfl
  | 9 => fun _ => rfl
  | 10 => fun _ => rfl
  | 11 => fun _ => rfl
  | 12 => fun _ => rfl
  | 13 => fun _ => rfl
  | 14 => fun _ => rfl
  | 15 => fun _ => rfl
  | 16 => fun _ => rfl
  | 17 => fun _ => rfl
  | 18 => fun _ => rfl
  | 19 => fun _ => rfl
  | 20 => fun _ => rfl
  | 21 => fun _ => rfl
  | 22 => fun _ => rfl
  | 23 => fun _ => rfl
  | 24 => fun _ => rfl
  | 25 => fun _ => rfl
  | 26 => fun _ => rfl
  | 27 => fun _ => rfl
  | 28 => fun _ => rfl
  | 29 => fun _ => rfl
  | 30 => fun _ => rfl
  | _+31 => fun _ => rfl
theorem unp_pck : ∀ n h, unp n (pck n h) = h
  | 0 => fun _ => rfl
  | 1 => fun _ => rfl
  | 2 => fun _ => rfl
  | 3 => fun _ => rfl
  | 4 => fun _ => rfl
  | 5 => fun _ => rfl
  | 6 => fun _ => rfl
  | 7 => fun _ => rfl
  | 8 => fun _ => rfl
  | 9 => fun _ => rfl
  | 10 => fun _ => rfl
  | 11 => fun _ => rfl
  | 12 => fun _ => rfl
  | 13 => fun _ => rfl
  | 14 => fun _ => rfl
  | 15 => fun _ => rfl
  | 16 => fun _ => rfl
  | 17 => fun _ => rfl
  | 18 => fun _ => rfl
  | 19 => fun _ => rfl
  | 20 => fun _ => rfl
  | 21 => fun _ => rfl
  | 22 => fun _ => rfl
  | 23 => fun _ => rfl
  | 24 => fun _ => rfl
  | 25 => fun _ => rfl
  | 26 => fun _ => rfl
  | 27 => fun _ => rfl
  | 28 => fun _ => rfl
  | 29 => fun _ => rfl
  | 30 => fun _ => rfl
  | _+31 => fun _ => rfl
theorem lvs_leaf : ∀ n, (lvs n).all (fun t => match t with | .named _ => false | .arr _ _ => false | _ => true) = true
  | 0 => rfl
  | 1 => rfl
  | 2 => rfl
  | 3 => rfl
  | 4 => rfl
  | 5 => rfl
  | 6 => rfl
  | 7 => rfl
  | 8 => rfl
  | 9 => rfl
  | 10 => rfl
  | 11 => rfl
  | 12 => rfl
  | 13 => rfl
  | 14 => rfl
  | 15 => rfl
  | 16 => rfl
  | 17 => rfl
  | 18 => rfl
  | 19 => rfl
  | 20 => rfl
  | 21 => rfl
  | 22 => rfl
  | 23 => rfl
  | 24 => rfl
  | 25 => rfl
  | 26 => rfl
  | 27 => rfl
  | 28 => rfl
  | 29 => rfl
  | 30 => rfl
  | _+31 => rfl
def E : Types where
  T := TT
  leaves := lvs
  unpack := unp
  pack := pck
  pu := pck_unp
  up := unp_pck
  lf := lvs_leaf
noncomputable def tab : List (Nat × TI) := [
  (2, { size := 1, agg := false, fields := [], elem := 0, alen := 0, ty := some (.int .i64), zero := [.int .i64], bytes := 8, sl := false, fk := false, cmp := false, mp := false }),
  (3, { size := 1, agg := false, fields := [], elem := 0, alen := 0, ty := some (.int .i64), zero := [.int .i64], bytes := 8, sl := false, fk := false, cmp := false, mp := false }),
  (4, { size := 1, agg := false, fields := [], elem := 0, alen := 0, ty := some .bool, zero := [.bool], bytes := 1, sl := false, fk := false, cmp := false, mp := false }),
  (5, { size := 1, agg := false, fields := [], elem := 0, alen := 0, ty := some (.int .u8), zero := [.int .u8], bytes := 1, sl := false, fk := false, cmp := false, mp := false }),
  (22, { size := 1, agg := false, fields := [], elem := 5, alen := 0, ty := some (.slice (.int .u8)), zero := [.slice], bytes := 24, sl := true, fk := false, cmp := false, mp := false }),
  (24, { size := 3, agg := true, fields := [(0, 5), (1, 5), (2, 5)], elem := 0, alen := 0, ty := some (.named 0), zero := [.int .u8, .int .u8, .int .u8], bytes := 3, sl := false, fk := false, cmp := true, mp := false }),
  (26, { size := 1, agg := false, fields := [], elem := 40, alen := 0, ty := some (.slice (.slice (.int .i64))), zero := [.slice], bytes := 24, sl := true, fk := false, cmp := false, mp := false }),
  (28, { size := 2, agg := true, fields := [(0, 3), (1, 26)], elem := 0, alen := 0, ty := some (.named 3), zero := [.int .i64, .slice], bytes := 32, sl := false, fk := false, cmp := false, mp := false }),
  (29, { size := 1, agg := false, fields := [], elem := 0, alen := 0, ty := some (.int .u64), zero := [.int .u64], bytes := 8, sl := false, fk := false, cmp := false, mp := false }),
  (30, { size := 1, agg := false, fields := [], elem := 0, alen := 0, ty := some (.int .u64), zero := [.int .u64], bytes := 8, sl := false, fk := false, cmp := false, mp := false }),
  (31, { size := 1, agg := false, fields := [], elem := 112, alen := 0, ty := some (.slice (.slice (.named 1))), zero := [.slice], bytes := 24, sl := true, fk := false, cmp := false, mp := false }),
  (32, { size := 1, agg := false, fields := [], elem := 230, alen := 0, ty := some (.slice (.named 2)), zero := [.slice], bytes := 24, sl := true, fk := false, cmp := false, mp := false }),
  (34, { size := 14, agg := true, fields := [(0, 3), (1, 3), (2, 3), (3, 3), (4, 3), (5, 3), (6, 2), (7, 2), (8, 28), (10, 30), (11, 26), (12, 31), (13, 32)], elem := 0, alen := 0, ty := some (.named 4), zero := [.int .i64, .int .i64, .int .i64, .int .i64, .int .i64, .int .i64, .int .i64, .int .i64, .int .i64, .slice, .int .u64, .slice, .slice, .slice], bytes := 176, sl := false, fk := false, cmp := false, mp := false }),
  (36, { size := 1, agg := false, fields := [], elem := 29, alen := 0, ty := some (.slice (.int .u64)), zero := [.slice], bytes := 24, sl := true, fk := false, cmp := false, mp := false }),
  (37, { size := 1, agg := false, fields := [], elem := 29, alen := 0, ty := some (.slice (.int .u64)), zero := [.slice], bytes := 24, sl := true, fk := false, cmp := false, mp := false }),
  (39, { size := 2, agg := true, fields := [(0, 30), (1, 30)], elem := 0, alen := 0, ty := some (.named 11), zero := [.int .u64, .int .u64], bytes := 16, sl := false, fk := false, cmp := true, mp := false }),
  (40, { size := 1, agg := false, fields := [], elem := 3, alen := 0, ty := some (.slice (.int .i64)), zero := [.slice], bytes := 24, sl := true, fk := false, cmp := false, mp := false }),
  (41, { size := 1, agg := false, fields := [], elem := 2, alen := 0, ty := some (.slice (.int .i64)), zero := [.slice], bytes := 24, sl := true, fk := false, cmp := false, mp := false }),
  (43, { size := 4, agg := true, fields := [(0, 2), (1, 2), (2, 2), (3, 41)], elem := 0, alen := 0, ty := some (.named 5), zero := [.int .i64, .int .i64, .int .i64, .slice], bytes := 48, sl := false, fk := false, cmp := false, mp := false }),
  (44, { size := 1, agg := false, fields := [], elem := 124, alen := 0, ty := some (.slice (.named 9)), zero := [.slice], bytes := 24, sl := true, fk := false, cmp := false, mp := false }),
  (45, { size := 1, agg := false, fields := [], elem := 131, alen := 0, ty := some (.slice (.named 10)), zero := [.slice], bytes := 24, sl := true, fk := false, cmp := false, mp := false }),
  (47, { size := 2, agg := true, fields := [(0, 3), (1, 3)], elem := 0, alen := 0, ty := some (.named 12), zero := [.int .i64, .int .i64], bytes := 16, sl := false, fk := false, cmp := true, mp := false }),
  (49, { size := 34, agg := true, fields := [(0, 34), (14, 28), (16, 37), (17, 26), (18, 39), (20, 3), (21, 3), (22, 4), (23, 4), (24, 3), (25, 40), (26, 43), (30, 44), (31, 45), (32, 47)], elem := 0, alen := 0, ty := some (.named 14), zero := [.int .i64, .int .i64, .int .i64, .int .i64, .int .i64, .int .i64, .int .i64, .int .i64, .int .i64, .slice, .int .u64, .slice, .slice, .slice, .int .i64, .slice, .slice, .slice, .int .u64, .int .u64, .int .i64, .int .i64, .bool, .bool, .int .i64, .slice, .int .i64, .int .i64, .int .i64, .slice, .slice, .slice, .int .i64, .int .i64], bytes := 440, sl := false, fk := false, cmp := false, mp := false }),
  (52, { size := 8, agg := true, fields := [(0, 3), (1, 3), (2, 3), (3, 3), (4, 29), (5, 29), (6, 3), (7, 3)], elem := 0, alen := 0, ty := some (.named 6), zero := [.int .i64, .int .i64, .int .i64, .int .i64, .int .u64, .int .u64, .int .i64, .int .i64], bytes := 64, sl := false, fk := false, cmp := true, mp := false }),
  (54, { size := 8, agg := true, fields := [(0, 3), (1, 3), (2, 3), (3, 3), (4, 29), (5, 3), (6, 3), (7, 3)], elem := 0, alen := 0, ty := some (.named 7), zero := [.int .i64, .int .i64, .int .i64, .int .i64, .int .u64, .int .i64, .int .i64, .int .i64], bytes := 64, sl := false, fk := false, cmp := true, mp := false }),
  (56, { size := 22, agg := true, fields := [(0, 3), (1, 3), (2, 3), (3, 3), (4, 52), (12, 54), (20, 3), (21, 3)], elem := 0, alen := 0, ty := some (.named 8), zero := [.int .i64, .int .i64, .int .i64, .int .i64, .int .i64, .int .i64, .int .i64, .int .i64, .int .u64, .int .u64, .int .i64, .int .i64, .int .i64, .int .i64, .int .i64, .int .i64, .int .u64, .int .i64, .int .i64, .int .i64, .int .i64, .int .i64], bytes := 176, sl := false, fk := false, cmp := true, mp := false }),
  (58, { size := 1, agg := false, fields := [], elem := 56, alen := 0, ty := some (.slice (.named 8)), zero := [.slice], bytes := 24, sl := true, fk := false, cmp := false, mp := false }),
  (60, { size := 2, agg := true, fields := [(0, 3), (1, 26)], elem := 0, alen := 0, ty := some (.named 17), zero := [.int .i64, .slice], bytes := 32, sl := false, fk := false, cmp := false, mp := false }),
  (61, { size := 1, agg := false, fields := [], elem := 195, alen := 0, ty := some (.slice (.slice (.named 19))), zero := [.slice], bytes := 24, sl := true, fk := false, cmp := false, mp := false }),
  (62, { size := 1, agg := false, fields := [], elem := 217, alen := 0, ty := some (.slice (.named 18)), zero := [.slice], bytes := 24, sl := true, fk := false, cmp := false, mp := false }),
  (64, { size := 14, agg := true, fields := [(0, 3), (1, 3), (2, 3), (3, 3), (4, 3), (5, 3), (6, 2), (7, 2), (8, 60), (10, 29), (11, 26), (12, 61), (13, 62)], elem := 0, alen := 0, ty := some (.named 20), zero := [.int .i64, .int .i64, .int .i64, .int .i64, .int .i64, .int .i64, .int .i64, .int .i64, .int .i64, .slice, .int .u64, .slice, .slice, .slice], bytes := 176, sl := false, fk := false, cmp := false, mp := false }),
  (66, { size := 2, agg := true, fields := [(0, 29), (1, 29)], elem := 0, alen := 0, ty := some (.named 21), zero := [.int .u64, .int .u64], bytes := 16, sl := false, fk := false, cmp := true, mp := false }),
  (67, { size := 4, agg := true, fields := [(0, 2), (1, 2), (2, 2), (3, 41)], elem := 0, alen := 0, ty := some (.named 22), zero := [.int .i64, .int .i64, .int .i64, .slice], bytes := 48, sl := false, fk := false, cmp := false, mp := false }),
  (68, { size := 1, agg := false, fields := [], elem := 137, alen := 0, ty := some (.slice (.named 26)), zero := [.slice], bytes := 24, sl := true, fk := false, cmp := false, mp := false }),
  (69, { size := 1, agg := false, fields := [], elem := 140, alen := 0, ty := some (.slice (.named 27)), zero := [.slice], bytes := 24, sl := true, fk := false, cmp := false, mp := false }),
  (70, { size := 2, agg := true, fields := [(0, 3), (1, 3)], elem := 0, alen := 0, ty := some (.named 28), zero := [.int .i64, .int .i64], bytes := 16, sl := false, fk := false, cmp := true, mp := false }),
  (72, { size := 34, agg := true, fields := [(0, 64), (14, 60), (16, 36), (17, 26), (18, 66), (20, 3), (21, 3), (22, 4), (23, 4), (24, 3), (25, 40), (26, 67), (30, 68), (31, 69), (32, 70)], elem := 0, alen := 0, ty := some (.named 29), zero := [.int .i64, .int .i64, .int .i64, .int .i64, .int .i64, .int .i64, .int .i64, .int .i64, .int .i64, .slice, .int .u64, .slice, .slice, .slice, .int .i64, .slice, .slice, .slice, .int .u64, .int .u64, .int .i64, .int .i64, .bool, .bool, .int .i64, .slice, .int .i64, .int .i64, .int .i64, .slice, .slice, .slice, .int .i64, .int .i64], bytes := 440, sl := false, fk := false, cmp := false, mp := false }),
  (74, { size := 8, agg := true, fields := [(0, 3), (1, 3), (2, 3), (3, 3), (4, 29), (5, 29), (6, 3), (7, 3)], elem := 0, alen := 0, ty := some (.named 23), zero := [.int .i64, .int .i64, .int .i64, .int .i64, .int .u64, .int .u64, .int .i64, .int .i64], bytes := 64, sl := false, fk := false, cmp := true, mp := false }),
  (75, { size := 8, agg := true, fields := [(0, 3), (1, 3), (2, 3), (3, 3), (4, 29), (5, 3), (6, 3), (7, 3)], elem := 0, alen := 0, ty := some (.named 24), zero := [.int .i64, .int .i64, .int .i64, .int .i64, .int .u64, .int .i64, .int .i64, .int .i64], bytes := 64, sl := false, fk := false, cmp := true, mp := false }),
  (77, { size := 22, agg := true, fields := [(0, 3), (1, 3), (2, 3), (3, 3), (4, 74), (12, 75), (20, 3), (21, 3)], elem := 0, alen := 0, ty := some (.named 25), zero := [.int .i64, .int .i64, .int .i64, .int .i64, .int .i64, .int .i64, .int .i64, .int .i64, .int .u64, .int .u64, .int .i64, .int .i64, .int .i64, .int .i64, .int .i64, .int .i64, .int .u64, .int .i64, .int .i64, .int .i64, .int .i64, .int .i64], bytes := 176, sl := false, fk := false, cmp := true, mp := false }),
  (79, { size := 1, agg := false, fields := [], elem := 77, alen := 0, ty := some (.slice (.named 25)), zero := [.slice], bytes := 24, sl := true, fk := false, cmp := false, mp := false }),
  (110, { size := 2, agg := true, fields := [(0, 22), (1, 3)], elem := 0, alen := 0, ty := some (.named 16), zero := [.slice, .int .i64], bytes := 32, sl := false, fk := false, cmp := false, mp := false }),
  (112, { size := 1, agg := false, fields := [], elem := 114, alen := 0, ty := some (.slice (.named 1)), zero := [.slice], bytes := 24, sl := true, fk := false, cmp := false, mp := false }),
  (114, { size := 4, agg := true, fields := [(0, 3), (1, 3), (2, 3), (3, 3)], elem := 0, alen := 0, ty := some (.named 1), zero := [.int .i64, .int .i64, .int .i64, .int .i64], bytes := 32, sl := false, fk := false, cmp := true, mp := false }),
  (124, { size := 44, agg := true, fields := [(0, 3), (1, 3), (2, 3), (3, 3), (4, 3), (5, 40), (6, 52), (14, 54), (22, 56)], elem := 0, alen := 0, ty := some (.named 9), zero := [.int .i64, .int .i64, .int .i64, .int .i64, .int .i64, .slice, .int .i64, .int .i64, .int .i64, .int .i64, .int .u64, .int .u64, .int .i64, .int .i64, .int .i64, .int .i64, .int .i64, .int .i64, .int .u64, .int .i64, .int .i64, .int .i64, .int .i64, .int .i64, .int .i64, .int .i64, .int .i64, .int .i64, .int .i64, .int .i64, .int .u64, .int .u64, .int .i64, .int .i64, .int .i64, .int .i64, .int .i64, .int .i64, .int .u64, .int .i64, .int .i64, .int .i64, .int .i64, .int .i64], bytes := 368, sl := false, fk := false, cmp := false, mp := false }),
  (131, { size := 41, agg := true, fields := [(0, 3), (1, 3), (2, 3), (3, 3), (4, 3), (5, 3), (6, 3), (7, 3), (8, 40), (9, 40), (10, 40), (11, 54), (19, 56)], elem := 0, alen := 0, ty := some (.named 10), zero := [.int .i64, .int .i64, .int .i64, .int .i64, .int .i64, .int .i64, .int .i64, .int .i64, .slice, .slice, .slice, .int .i64, .int .i64, .int .i64, .int .i64, .int .u64, .int .i64, .int .i64, .int .i64, .int .i64, .int .i64, .int .i64, .int .i64, .int .i64, .int .i64, .int .i64, .int .i64, .int .u64, .int .u64, .int .i64, .int .i64, .int .i64, .int .i64, .int .i64, .int .i64, .int .u64, .int .i64, .int .i64, .int .i64, .int .i64, .int .i64], bytes := 376, sl := false, fk := false, cmp := false, mp := false }),
  (137, { size := 44, agg := true, fields := [(0, 3), (1, 3), (2, 3), (3, 3), (4, 3), (5, 40), (6, 74), (14, 75), (22, 77)], elem := 0, alen := 0, ty := some (.named 26), zero := [.int .i64, .int .i64, .int .i64, .int .i64, .int .i64, .slice, .int .i64, .int .i64, .int .i64, .int .i64, .int .u64, .int .u64, .int .i64, .int .i64, .int .i64, .int .i64, .int .i64, .int .i64, .int .u64, .int .i64, .int .i64, .int .i64, .int .i64, .int .i64, .int .i64, .int .i64, .int .i64, .int .i64, .int .i64, .int .i64, .int .u64, .int .u64, .int .i64, .int .i64, .int .i64, .int .i64, .int .i64, .int .i64, .int .u64, .int .i64, .int .i64, .int .i64, .int .i64, .int .i64], bytes := 368, sl := false, fk := false, cmp := false, mp := false }),
  (140, { size := 41, agg := true, fields := [(0, 3), (1, 3), (2, 3), (3, 3), (4, 3), (5, 3), (6, 3), (7, 3), (8, 40), (9, 40), (10, 40), (11, 75), (19, 77)], elem := 0, alen := 0, ty := some (.named 27), zero := [.int .i64, .int .i64, .int .i64, .int .i64, .int .i64, .int .i64, .int .i64, .int .i64, .slice, .slice, .slice, .int .i64, .int .i64, .int .i64, .int .i64, .int .u64, .int .i64, .int .i64, .int .i64, .int .i64, .int .i64, .int .i64, .int .i64, .int .i64, .int .i64, .int .i64, .int .i64, .int .u64, .int .u64, .int .i64, .int .i64, .int .i64, .int .i64, .int .i64, .int .i64, .int .u64, .int .i64, .int .i64, .int .i64, .int .i64, .int .i64], bytes := 376, sl := false, fk := false, cmp := false, mp := false }),
  (144, { size := 1, agg := false, fields := [], elem := 0, alen := 0, ty := none, zero := [.func], bytes := 8, sl := false, fk := true, cmp := false, mp := false }),
  (146, { size := 8, agg := true, fields := [], elem := 144, alen := 8, ty := none, zero := [.func, .func, .func, .func, .func, .func, .func, .func], bytes := 64, sl := false, fk := false, cmp := false, mp := false }),
  (148, { size := 56, agg := true, fields := [(0, 56), (22, 49)], elem := 0, alen := 0, ty := some (.named 15), zero := [.int .i64, .int .i64, .int .i64, .int .i64, .int .i64, .int .i64, .int .i64, .int .i64, .int .u64, .int .u64, .int .i64, .int .i64, .int .i64, .int .i64, .int .i64, .int .i64, .int .u64, .int .i64, .int .i64, .int .i64, .int .i64, .int .i64, .int .i64, .int .i64, .int .i64, .int .i64, .int .i64, .int .i64, .int .i64, .int .i64, .int .i64, .slice, .int .u64, .slice, .slice, .slice, .int .i64, .slice, .slice, .slice, .int .u64, .int .u64, .int .i64, .int .i64, .bool, .bool, .int .i64, .slice, .int .i64, .int .i64, .int .i64, .slice, .slice, .slice, .int .i64, .int .i64], bytes := 616, sl := false, fk := false, cmp := false, mp := false }),
  (195, { size := 1, agg := false, fields := [], elem := 215, alen := 0, ty := some (.slice (.named 19)), zero := [.slice], bytes := 24, sl := true, fk := false, cmp := false, mp := false }),
  (215, { size := 4, agg := true, fields := [(0, 3), (1, 3), (2, 3), (3, 3)], elem := 0, alen := 0, ty := some (.named 19), zero := [.int .i64, .int .i64, .int .i64, .int .i64], bytes := 32, sl := false, fk := false, cmp := true, mp := false }),
  (217, { size := 2, agg := true, fields := [(0, 3), (1, 3)], elem := 0, alen := 0, ty := some (.named 18), zero := [.int .i64, .int .i64], bytes := 16, sl := false, fk := false, cmp := true, mp := false }),
  (223, { size := 4, agg := true, fields := [(0, 3), (1, 3), (2, 29), (3, 29)], elem := 0, alen := 0, ty := some (.named 13), zero := [.int .i64, .int .i64, .int .u64, .int .u64], bytes := 32, sl := false, fk := false, cmp := true, mp := false }),
  (230, { size := 2, agg := true, fields := [(0, 3), (1, 3)], elem := 0, alen := 0, ty := some (.named 2), zero := [.int .i64, .int .i64], bytes := 16, sl := false, fk := false, cmp := true, mp := false }),
  (241, { size := 1, agg := false, fields := [], elem := 3, alen := 0, ty := none, zero := [.map], bytes := 8, sl := false, fk := false, cmp := false, mp := true }),
  (244, { size := 1, agg := false, fields := [], elem := 246, alen := 0, ty := none, zero := [.slice], bytes := 24, sl := true, fk := false, cmp := false, mp := false }),
  (246, { size := 1, agg := false, fields := [], elem := 0, alen := 0, ty := none, zero := [.func], bytes := 8, sl := false, fk := true, cmp := false, mp := false }),
  (247, { size := 1, agg := false, fields := [], elem := 0, alen := 0, ty := none, zero := [.func], bytes := 8, sl := false, fk := true, cmp := false, mp := false }),
  (248, { size := 3, agg := true, fields := [], elem := 247, alen := 3, ty := none, zero := [.func, .func, .func], bytes := 24, sl := false, fk := false, cmp := false, mp := false }),
  (254, { size := 4, agg := true, fields := [(0, 3), (1, 3), (2, 29), (3, 29)], elem := 0, alen := 0, ty := some (.named 30), zero := [.int .i64, .int .i64, .int .u64, .int .u64], bytes := 32, sl := false, fk := false, cmp := true, mp := false }),
  (255, { size := 1, agg := false, fields := [], elem := 0, alen := 0, ty := none, zero := [.func], bytes := 8, sl := false, fk := true, cmp := false, mp := false }),
  (256, { size := 1, agg := false, fields := [], elem := 255, alen := 0, ty := none, zero := [.map], bytes := 8, sl := false, fk := false, cmp := false, mp := true })]
theorem tab_ok : tabB E.leaves Go.Proofs.Tryz.prog tab = true := by kernel_rfl
theorem mixed : (Go.Proofs.Tryz.prog).follows .mixedOrders = true := by kernel_rfl
abbrev vI : SK := .val (.int .i64)
abbrev oI : Grp := .one (.int .i64)
end Go.Pe.G
namespace Go.Pe.G
open Go.Pe
def Glob (G : Nat → Prop) (W0 : World) : Prop := G 0 ∧ Go.Proofs.TabAt 0 Go.Lib.deBruijn64tab W0
noncomputable def tz (x : BitVec 64) : Int := ((Go.Lib.ctz 64 x.toNat : Nat) : Int)
noncomputable def pTZ : Spec E := { inn := ⟨[.val (.int .u64)], []⟩, out := ⟨[.val (.int .i64)], []⟩, gi := grp [.one (.int .u64)] rfl, go := grp [.one (.int .i64)] rfl, F := fun x => some (tz x.1, ()) }
noncomputable def qTZ (a : BitVec 64) : Option (Int × Unit) := pTZ.F (a, ())
theorem qTZ_eq (a : BitVec 64) : qTZ a = some (tz a, ()) := rfl
theorem call160 : callable Go.Proofs.Tryz.prog 160 = true := by kernel_rfl
theorem pTZ_sound (G : Nat → Prop) (W0 : World) (hG : Glob G W0) : Sound Go.Proofs.Tryz.prog G W0 160 pTZ := by
  intro A0 μ w args x y wd S hr hy
  obtain ⟨hg, hT⟩ := hG
  have hw : w.heap[0]? = W0.heap[0]? := (wd.glob 0 hg).2
  have hx : ∃ v, args = #[v] ∧ RepT E w (Av A0 μ ([] : List (Blk E))) (.int .u64) v x.1 := by
    have hl := hr.1
    have hl : 1 = args.toList.length := hl
    match ha : args.toList, hl with
    | [v], _ =>
      have h1 := hr.2 0 (.v (.int .u64) x.1) v rfl (by rw [ha]; rfl)
      refine ⟨v, ?_, ?_⟩
      · rw [← Array.toArray_toList (xs := args), ha]
      · cases h1 with
        | v _ _ _ h => exact h
  obtain ⟨v, rfl, hv⟩ := hx
  cases hv with
  | int k z =>
  have hz : x.1.toNat < 18446744073709551616 := x.1.isLt
  have hk := Go.Proofs.Any7.bits_TrailingZeros64 Go.Proofs.laysTz x.1.toNat hz w (fun _ j hj => by
    have := hT j hj
    unfold World.cell? at this ⊢
    show _ = _
    have e0 : Go.Proofs.rhoTz.g 1 = 0 := rfl
    rw [e0]
    simp only [hw]
    exact this)
  have hy : some (tz x.1, ()) = some y := hy
  injection hy with hy
  subst hy
  refine hk.mono ?_
  rintro e w' ⟨rfl, rfl⟩
  refine ⟨[.int .i64 (tz x.1)], A0, μ, rfl, S, ?_, Adv.refl _ _, fun _ h => h, wd.low, fun j ws h => by simp [pTZ] at h⟩
  exact RL.cons (.v _ _ _ (.int .i64 (tz x.1))) RL.nil
noncomputable def bitsAsc : Nat → BitVec 64 → Option (List Int)
  | 0, _ => none
  | f + 1, s => bif decide (s = 0#64) then some [] else (bitsAsc f (s &&& (s - 1#64))).map fun l => w64 (tz s + 1) :: l
def chunks (n : Nat) : Nat → List Int → List (List Int)
  | 0, _ => []
  | _ + 1, [] => []
  | f + 1, x :: l => (x :: l).take n :: chunks n f ((x :: l).drop n)
def chunksOf (l : List Int) (n : Int) : Option (List (List Int)) := bif decide (1 ≤ n) && decide (n < 1000000) && decide ((l.length : Int) < 1000000) then some (chunks n.toNat l.length l) else none
end Go.Pe.G
namespace Go.Pe.G
open Go.Pe Go.Proofs
noncomputable section
def p_bits_OnesCount64_c : Cfg E := mkCfg Tryz.prog tab [] [] [] [] [] []
def p_bits_OnesCount64_i : Shape := ⟨[.val (.int .u64)], []⟩
def p_bits_OnesCount64_o : Shape := ⟨[vI], []⟩
def p_bits_OnesCount64 : Spec E := mkSpec p_bits_OnesCount64_c Tryz.f83 p_bits_OnesCount64_i p_bits_OnesCount64_o [.one (.int .u64)] [oI] (by kernel_rfl) (by kernel_rfl)
def q_bits_OnesCount64 (a1 : BitVec 64) : Option (Int × Unit) := p_bits_OnesCount64.F (a1, ())
def p_set_Count_c : Cfg E := mkCfg Tryz.prog tab [(83, [p_bits_OnesCount64])] [] [] [] [] []
def p_set_Count_i : Shape := ⟨[.val (.int .u64)], []⟩
def p_set_Count_o : Shape := ⟨[vI], []⟩
def p_set_Count : Spec E := mkSpec p_set_Count_c Tryz.f26 p_set_Count_i p_set_Count_o [.one (.int .u64)] [oI] (by kernel_rfl) (by kernel_rfl)
def q_set_Count (a1 : BitVec 64) : Option (Int × Unit) := p_set_Count.F (a1, ())
def p_state_Deque_c : Cfg E := mkCfg Tryz.prog tab [] [] [] [] [] []
def p_state_Deque_i : Shape := ⟨[.val (.named 4), vI], []⟩
def p_state_Deque_o : Shape := ⟨[vI], []⟩
def p_state_Deque : Spec E := mkSpec p_state_Deque_c Tryz.f33 p_state_Deque_i p_state_Deque_o [.one (.named 4), oI] [oI] (by kernel_rfl) (by kernel_rfl)
def q_state_Deque (a1 : Splan_Plan) (a2 : Int) : Option (Int × Unit) := p_state_Deque.F (a1, a2, ())
def p_state_Full_c : Cfg E := mkCfg Tryz.prog tab [] [] [] [] [] []
def p_state_Full_i : Shape := ⟨[.val (.named 4)], []⟩
def p_state_Full_o : Shape := ⟨[vI], []⟩
def p_state_Full : Spec E := mkSpec p_state_Full_c Tryz.f35 p_state_Full_i p_state_Full_o [.one (.named 4)] [oI] (by kernel_rfl) (by kernel_rfl)
def q_state_Full (a1 : Splan_Plan) : Option (Int × Unit) := p_state_Full.F (a1, ())
def p_state_Empty_c : Cfg E := mkCfg Tryz.prog tab [(35, [p_state_Full])] [] [] [] [] []
def p_state_Empty_i : Shape := ⟨[.val (.named 4)], []⟩
def p_state_Empty_o : Shape := ⟨[vI], []⟩
def p_state_Empty : Spec E := mkSpec p_state_Empty_c Tryz.f53 p_state_Empty_i p_state_Empty_o [.one (.named 4)] [oI] (by kernel_rfl) (by kernel_rfl)
def q_state_Empty (a1 : Splan_Plan) : Option (Int × Unit) := p_state_Empty.F (a1, ())
def p_state_Next_c : Cfg E := mkCfg Tryz.prog tab [(53, [p_state_Empty])] [] [] [] [] []
def p_state_Next_i : Shape := ⟨[.val (.named 4)], []⟩
def p_state_Next_o : Shape := ⟨[vI], []⟩
def p_state_Next : Spec E := mkSpec p_state_Next_c Tryz.f36 p_state_Next_i p_state_Next_o [.one (.named 4)] [oI] (by kernel_rfl) (by kernel_rfl)
def q_state_Next (a1 : Splan_Plan) : Option (Int × Unit) := p_state_Next.F (a1, ())
def p_plan_within_c : Cfg E := mkCfg Tryz.prog tab [] [] [] [] [] []
def p_plan_within_i : Shape := ⟨[vI, vI, vI], []⟩
def p_plan_within_o : Shape := ⟨[.val .bool], []⟩
def p_plan_within : Spec E := mkSpec p_plan_within_c Tryz.f107 p_plan_within_i p_plan_within_o [oI, oI, oI] [.one .bool] (by kernel_rfl) (by kernel_rfl)
def q_plan_within (a1 : Int) (a2 : Int) (a3 : Int) : Option (Bool × Unit) := p_plan_within.F (a1, a2, a3, ())
def p_plan_Plan_sized_c : Cfg E := mkCfg Tryz.prog tab [(107, [p_plan_within])] [] [] [] [] []
def p_plan_Plan_sized_i : Shape := ⟨[.val (.named 4)], []⟩
def p_plan_Plan_sized_o : Shape := ⟨[.val .bool], []⟩
def p_plan_Plan_sized : Spec E := mkSpec p_plan_Plan_sized_c Tryz.f105 p_plan_Plan_sized_i p_plan_Plan_sized_o [.one (.named 4)] [.one .bool] (by kernel_rfl) (by kernel_rfl)
def q_plan_Plan_sized (a1 : Splan_Plan) : Option (Bool × Unit) := p_plan_Plan_sized.F (a1, ())
def p_heap_RightF1F1_c : Cfg E := mkCfg Tryz.prog tab [] [] [] [] [] []
def p_heap_RightF1F1_i : Shape := ⟨[vI, .ptr 0], [.box false [vI, .val (.slice (.slice (.int .i64)))]]⟩
def p_heap_RightF1F1_o : Shape := ⟨[.val .bool], [.gone]⟩
def p_heap_RightF1F1 : Spec E := mkSpec p_heap_RightF1F1_c Tryz.f150 p_heap_RightF1F1_i p_heap_RightF1F1_o [oI, .str 3] [.one .bool] (by kernel_rfl) (by kernel_rfl)
def q_heap_RightF1F1 (a1 : Int) (a2 : Sheap_Heap) : Option (Bool × Unit) := p_heap_RightF1F1.F (a1, a2, ())
def p_slices_IndexFunc_Lint_int_l2 : LoopSpec E := { slots := [0, 1, 7, 8], inn := ⟨[.val (.slice (.int .i64)), .fn 150 [.ptr 1], vI, vI], [.gone, .box false [vI, .val (.slice (.slice (.int .i64)))]]⟩, brkId := 0, bslots := [], brk := ⟨[], [.gone]⟩, rslots := [4], ret := ⟨[vI], [.gone]⟩, gi := grp [.one (.slice (.int .i64)), oI, oI, .str 3] (by kernel_rfl), gb := grp [] (by kernel_rfl), gr := grp [oI] (by kernel_rfl) }
def p_slices_IndexFunc_Lint_int_c : Cfg E := mkCfg Tryz.prog tab [(150, [p_heap_RightF1F1])] [(2, p_slices_IndexFunc_Lint_int_l2)] [] [] [] []
def p_slices_IndexFunc_Lint_int_i : Shape := ⟨[.val (.slice (.int .i64)), .fn 150 [.ptr 0]], [.box false [vI, .val (.slice (.slice (.int .i64)))]]⟩
def p_slices_IndexFunc_Lint_int_o : Shape := ⟨[vI], [.gone]⟩
def p_slices_IndexFunc_Lint_int : Spec E := mkSpec p_slices_IndexFunc_Lint_int_c Tryz.f152 p_slices_IndexFunc_Lint_int_i p_slices_IndexFunc_Lint_int_o [.one (.slice (.int .i64)), .str 3] [oI] (by kernel_rfl) (by kernel_rfl)
def q_slices_IndexFunc_Lint_int (a1 : List Int) (a2 : Sheap_Heap) : Option (Int × Unit) := p_slices_IndexFunc_Lint_int.F (a1, a2, ())
def p_slices_IndexFunc_Lint_int_r2 (x : (List Int) × Int × Int × Sheap_Heap × Unit) : Option (Stop ((List Int) × Int × Int × Sheap_Heap × Unit) (Unit) (Int × Unit)) := roundBy p_slices_IndexFunc_Lint_int_c (exec p_slices_IndexFunc_Lint_int_c (loopAt Tryz.f152 2)) 19 p_slices_IndexFunc_Lint_int_l2 x
def p_slices_ContainsFunc_Lint_int_c : Cfg E := mkCfg Tryz.prog tab [(152, [p_slices_IndexFunc_Lint_int])] [] [] [] [] []
def p_slices_ContainsFunc_Lint_int_i : Shape := ⟨[.val (.slice (.int .i64)), .fn 150 [.ptr 0]], [.box false [vI, .val (.slice (.slice (.int .i64)))]]⟩
def p_slices_ContainsFunc_Lint_int_o : Shape := ⟨[.val .bool], [.gone]⟩
def p_slices_ContainsFunc_Lint_int : Spec E := mkSpec p_slices_ContainsFunc_Lint_int_c Tryz.f110 p_slices_ContainsFunc_Lint_int_i p_slices_ContainsFunc_Lint_int_o [.one (.slice (.int .i64)), .str 3] [.one .bool] (by kernel_rfl) (by kernel_rfl)
def q_slices_ContainsFunc_Lint_int (a1 : List Int) (a2 : Sheap_Heap) : Option (Bool × Unit) := p_slices_ContainsFunc_Lint_int.F (a1, a2, ())
def p_heap_RightF1_c : Cfg E := mkCfg Tryz.prog tab [(110, [p_slices_ContainsFunc_Lint_int])] [] [] [] [] []
def p_heap_RightF1_i : Shape := ⟨[.val (.slice (.int .i64)), .ptr 0], [.box false [vI, .val (.slice (.slice (.int .i64)))]]⟩
def p_heap_RightF1_o : Shape := ⟨[.val .bool], [.gone]⟩
def p_heap_RightF1 : Spec E := mkSpec p_heap_RightF1_c Tryz.f149 p_heap_RightF1_i p_heap_RightF1_o [.one (.slice (.int .i64)), .str 3] [.one .bool] (by kernel_rfl) (by kernel_rfl)
def q_heap_RightF1 (a1 : List Int) (a2 : Sheap_Heap) : Option (Bool × Unit) := p_heap_RightF1.F (a1, a2, ())
def p_slices_IndexFunc_LLint_Lint_l2 : LoopSpec E := { slots := [0, 1, 7, 8], inn := ⟨[.val (.slice (.slice (.int .i64))), .fn 149 [.ptr 1], vI, vI], [.gone, .box false [vI, .val (.slice (.slice (.int .i64)))]]⟩, brkId := 0, bslots := [], brk := ⟨[], [.gone]⟩, rslots := [4], ret := ⟨[vI], [.gone]⟩, gi := grp [.one (.slice (.slice (.int .i64))), oI, oI, .str 3] (by kernel_rfl), gb := grp [] (by kernel_rfl), gr := grp [oI] (by kernel_rfl) }
def p_slices_IndexFunc_LLint_Lint_c : Cfg E := mkCfg Tryz.prog tab [(149, [p_heap_RightF1])] [(2, p_slices_IndexFunc_LLint_Lint_l2)] [] [] [] []
def p_slices_IndexFunc_LLint_Lint_i : Shape := ⟨[.val (.slice (.slice (.int .i64))), .fn 149 [.ptr 0]], [.box false [vI, .val (.slice (.slice (.int .i64)))]]⟩
def p_slices_IndexFunc_LLint_Lint_o : Shape := ⟨[vI], [.gone]⟩
def p_slices_IndexFunc_LLint_Lint : Spec E := mkSpec p_slices_IndexFunc_LLint_Lint_c Tryz.f179 p_slices_IndexFunc_LLint_Lint_i p_slices_IndexFunc_LLint_Lint_o [.one (.slice (.slice (.int .i64))), .str 3] [oI] (by kernel_rfl) (by kernel_rfl)
def q_slices_IndexFunc_LLint_Lint (a1 : List (List Int)) (a2 : Sheap_Heap) : Option (Int × Unit) := p_slices_IndexFunc_LLint_Lint.F (a1, a2, ())
def p_slices_IndexFunc_LLint_Lint_r2 (x : (List (List Int)) × Int × Int × Sheap_Heap × Unit) : Option (Stop ((List (List Int)) × Int × Int × Sheap_Heap × Unit) (Unit) (Int × Unit)) := roundBy p_slices_IndexFunc_LLint_Lint_c (exec p_slices_IndexFunc_LLint_Lint_c (loopAt Tryz.f179 2)) 19 p_slices_IndexFunc_LLint_Lint_l2 x
def p_slices_ContainsFunc_LLint_Lint_c : Cfg E := mkCfg Tryz.prog tab [(179, [p_slices_IndexFunc_LLint_Lint])] [] [] [] [] []
def p_slices_ContainsFunc_LLint_Lint_i : Shape := ⟨[.val (.slice (.slice (.int .i64))), .fn 149 [.ptr 0]], [.box false [vI, .val (.slice (.slice (.int .i64)))]]⟩
def p_slices_ContainsFunc_LLint_Lint_o : Shape := ⟨[.val .bool], [.gone]⟩
def p_slices_ContainsFunc_LLint_Lint : Spec E := mkSpec p_slices_ContainsFunc_LLint_Lint_c Tryz.f151 p_slices_ContainsFunc_LLint_Lint_i p_slices_ContainsFunc_LLint_Lint_o [.one (.slice (.slice (.int .i64))), .str 3] [.one .bool] (by kernel_rfl) (by kernel_rfl)
def q_slices_ContainsFunc_LLint_Lint (a1 : List (List Int)) (a2 : Sheap_Heap) : Option (Bool × Unit) := p_slices_ContainsFunc_LLint_Lint.F (a1, a2, ())
def p_heap_Right_c : Cfg E := mkCfg Tryz.prog tab [(151, [p_slices_ContainsFunc_LLint_Lint])] [] [] [] [] []
def p_heap_Right_i : Shape := ⟨[.val (.named 3)], []⟩
def p_heap_Right_o : Shape := ⟨[.val .bool], []⟩
def p_heap_Right : Spec E := mkSpec p_heap_Right_c Tryz.f106 p_heap_Right_i p_heap_Right_o [.one (.named 3)] [.one .bool] (by kernel_rfl) (by kernel_rfl)
def q_heap_Right (a1 : Sheap_Heap) : Option (Bool × Unit) := p_heap_Right.F (a1, ())
def p_set_Under_c : Cfg E := mkCfg Tryz.prog tab [] [] [] [] [] []
def p_set_Under_i : Shape := ⟨[.val (.int .u64), .val (.int .u64)], []⟩
def p_set_Under_o : Shape := ⟨[.val .bool], []⟩
def p_set_Under : Spec E := mkSpec p_set_Under_c Tryz.f108 p_set_Under_i p_set_Under_o [.one (.int .u64), .one (.int .u64)] [.one .bool] (by kernel_rfl) (by kernel_rfl)
def q_set_Under (a1 : BitVec 64) (a2 : BitVec 64) : Option (Bool × Unit) := p_set_Under.F (a1, a2, ())
def p_set_First_c : Cfg E := mkCfg Tryz.prog tab [] [] [] [] [] []
def p_set_First_i : Shape := ⟨[vI], []⟩
def p_set_First_o : Shape := ⟨[.val (.int .u64)], []⟩
def p_set_First : Spec E := mkSpec p_set_First_c Tryz.f109 p_set_First_i p_set_First_o [oI] [.one (.int .u64)] (by kernel_rfl) (by kernel_rfl)
def q_set_First (a1 : Int) : Option ((BitVec 64) × Unit) := p_set_First.F (a1, ())
def p_plan_RightF1_c : Cfg E := mkCfg Tryz.prog tab [(107, [p_plan_within])] [] [] [] [] []
def p_plan_RightF1_i : Shape := ⟨[vI, .ptr 0], [.box false [vI]]⟩
def p_plan_RightF1_o : Shape := ⟨[.val .bool], [.gone]⟩
def p_plan_RightF1 : Spec E := mkSpec p_plan_RightF1_c Tryz.f111 p_plan_RightF1_i p_plan_RightF1_o [oI, oI] [.one .bool] (by kernel_rfl) (by kernel_rfl)
def q_plan_RightF1 (a1 : Int) (a2 : Int) : Option (Bool × Unit) := p_plan_RightF1.F (a1, a2, ())
def p_slices_IndexFunc_Lint_int_v1_l2 : LoopSpec E := { slots := [0, 1, 7, 8], inn := ⟨[.val (.slice (.int .i64)), .fn 111 [.ptr 1], vI, vI], [.gone, .box false [vI]]⟩, brkId := 0, bslots := [], brk := ⟨[], [.gone]⟩, rslots := [4], ret := ⟨[vI], [.gone]⟩, gi := grp [.one (.slice (.int .i64)), oI, oI, oI] (by kernel_rfl), gb := grp [] (by kernel_rfl), gr := grp [oI] (by kernel_rfl) }
def p_slices_IndexFunc_Lint_int_v1_c : Cfg E := mkCfg Tryz.prog tab [(111, [p_plan_RightF1])] [(2, p_slices_IndexFunc_Lint_int_v1_l2)] [] [] [] []
def p_slices_IndexFunc_Lint_int_v1_i : Shape := ⟨[.val (.slice (.int .i64)), .fn 111 [.ptr 0]], [.box false [vI]]⟩
def p_slices_IndexFunc_Lint_int_v1_o : Shape := ⟨[vI], [.gone]⟩
def p_slices_IndexFunc_Lint_int_v1 : Spec E := mkSpec p_slices_IndexFunc_Lint_int_v1_c Tryz.f152 p_slices_IndexFunc_Lint_int_v1_i p_slices_IndexFunc_Lint_int_v1_o [.one (.slice (.int .i64)), oI] [oI] (by kernel_rfl) (by kernel_rfl)
def q_slices_IndexFunc_Lint_int_v1 (a1 : List Int) (a2 : Int) : Option (Int × Unit) := p_slices_IndexFunc_Lint_int_v1.F (a1, a2, ())
def p_slices_IndexFunc_Lint_int_v1_r2 (x : (List Int) × Int × Int × Int × Unit) : Option (Stop ((List Int) × Int × Int × Int × Unit) (Unit) (Int × Unit)) := roundBy p_slices_IndexFunc_Lint_int_v1_c (exec p_slices_IndexFunc_Lint_int_v1_c (loopAt Tryz.f152 2)) 19 p_slices_IndexFunc_Lint_int_v1_l2 x
def p_slices_ContainsFunc_Lint_int_v1_c : Cfg E := mkCfg Tryz.prog tab [(152, [p_slices_IndexFunc_Lint_int_v1])] [] [] [] [] []
def p_slices_ContainsFunc_Lint_int_v1_i : Shape := ⟨[.val (.slice (.int .i64)), .fn 111 [.ptr 0]], [.box false [vI]]⟩
def p_slices_ContainsFunc_Lint_int_v1_o : Shape := ⟨[.val .bool], [.gone]⟩
def p_slices_ContainsFunc_Lint_int_v1 : Spec E := mkSpec p_slices_ContainsFunc_Lint_int_v1_c Tryz.f110 p_slices_ContainsFunc_Lint_int_v1_i p_slices_ContainsFunc_Lint_int_v1_o [.one (.slice (.int .i64)), oI] [.one .bool] (by kernel_rfl) (by kernel_rfl)
def q_slices_ContainsFunc_Lint_int_v1 (a1 : List Int) (a2 : Int) : Option (Bool × Unit) := p_slices_ContainsFunc_Lint_int_v1.F (a1, a2, ())
def p_code_RightF1_c : Cfg E := mkCfg Tryz.prog tab [] [] [] [] [] []
def p_code_RightF1_i : Shape := ⟨[vI, .ptr 0], [.box false [vI]]⟩
def p_code_RightF1_o : Shape := ⟨[.val .bool], [.gone]⟩
def p_code_RightF1 : Spec E := mkSpec p_code_RightF1_c Tryz.f181 p_code_RightF1_i p_code_RightF1_o [oI, oI] [.one .bool] (by kernel_rfl) (by kernel_rfl)
def q_code_RightF1 (a1 : Int) (a2 : Int) : Option (Bool × Unit) := p_code_RightF1.F (a1, a2, ())
def p_code_Right_c : Cfg E := mkCfg Tryz.prog tab [(181, [p_code_RightF1])] [] [] [] [] []
def p_code_Right_i : Shape := ⟨[.val (.named 1), vI, vI], []⟩
def p_code_Right_o : Shape := ⟨[.val .bool], []⟩
def p_code_Right : Spec E := mkSpec p_code_Right_c Tryz.f155 p_code_Right_i p_code_Right_o [.one (.named 1), oI, oI] [.one .bool] (by kernel_rfl) (by kernel_rfl)
def q_code_Right (a1 : Scode_Op) (a2 : Int) (a3 : Int) : Option (Bool × Unit) := p_code_Right.F (a1, a2, a3, ())
def p_code_FitsF1_c : Cfg E := mkCfg Tryz.prog tab [(155, [p_code_Right])] [] [] [] [] []
def p_code_FitsF1_i : Shape := ⟨[.val (.named 1), .ptr 0, .ptr 1], [.box false [vI], .box false [vI]]⟩
def p_code_FitsF1_o : Shape := ⟨[.val .bool], [.gone, .gone]⟩
def p_code_FitsF1 : Spec E := mkSpec p_code_FitsF1_c Tryz.f154 p_code_FitsF1_i p_code_FitsF1_o [.one (.named 1), oI, oI] [.one .bool] (by kernel_rfl) (by kernel_rfl)
def q_code_FitsF1 (a1 : Scode_Op) (a2 : Int) (a3 : Int) : Option (Bool × Unit) := p_code_FitsF1.F (a1, a2, a3, ())
def p_slices_IndexFunc_Lcode_Op_code_Op_l2 : LoopSpec E := { slots := [0, 1, 7, 8], inn := ⟨[.val (.slice (.named 1)), .fn 154 [.ptr 2, .ptr 3], vI, vI], [.gone, .gone, .box false [vI], .box false [vI]]⟩, brkId := 0, bslots := [], brk := ⟨[], [.gone, .gone]⟩, rslots := [4], ret := ⟨[vI], [.gone, .gone]⟩, gi := grp [.one (.slice (.named 1)), oI, oI, oI, oI] (by kernel_rfl), gb := grp [] (by kernel_rfl), gr := grp [oI] (by kernel_rfl) }
def p_slices_IndexFunc_Lcode_Op_code_Op_c : Cfg E := mkCfg Tryz.prog tab [(154, [p_code_FitsF1])] [(2, p_slices_IndexFunc_Lcode_Op_code_Op_l2)] [] [] [] []
def p_slices_IndexFunc_Lcode_Op_code_Op_i : Shape := ⟨[.val (.slice (.named 1)), .fn 154 [.ptr 0, .ptr 1]], [.box false [vI], .box false [vI]]⟩
def p_slices_IndexFunc_Lcode_Op_code_Op_o : Shape := ⟨[vI], [.gone, .gone]⟩
def p_slices_IndexFunc_Lcode_Op_code_Op : Spec E := mkSpec p_slices_IndexFunc_Lcode_Op_code_Op_c Tryz.f180 p_slices_IndexFunc_Lcode_Op_code_Op_i p_slices_IndexFunc_Lcode_Op_code_Op_o [.one (.slice (.named 1)), oI, oI] [oI] (by kernel_rfl) (by kernel_rfl)
def q_slices_IndexFunc_Lcode_Op_code_Op (a1 : List Scode_Op) (a2 : Int) (a3 : Int) : Option (Int × Unit) := p_slices_IndexFunc_Lcode_Op_code_Op.F (a1, a2, a3, ())
def p_slices_IndexFunc_Lcode_Op_code_Op_r2 (x : (List Scode_Op) × Int × Int × Int × Int × Unit) : Option (Stop ((List Scode_Op) × Int × Int × Int × Int × Unit) (Unit) (Int × Unit)) := roundBy p_slices_IndexFunc_Lcode_Op_code_Op_c (exec p_slices_IndexFunc_Lcode_Op_code_Op_c (loopAt Tryz.f180 2)) 19 p_slices_IndexFunc_Lcode_Op_code_Op_l2 x
def p_slices_ContainsFunc_Lcode_Op_code_Op_c : Cfg E := mkCfg Tryz.prog tab [(180, [p_slices_IndexFunc_Lcode_Op_code_Op])] [] [] [] [] []
def p_slices_ContainsFunc_Lcode_Op_code_Op_i : Shape := ⟨[.val (.slice (.named 1)), .fn 154 [.ptr 0, .ptr 1]], [.box false [vI], .box false [vI]]⟩
def p_slices_ContainsFunc_Lcode_Op_code_Op_o : Shape := ⟨[.val .bool], [.gone, .gone]⟩
def p_slices_ContainsFunc_Lcode_Op_code_Op : Spec E := mkSpec p_slices_ContainsFunc_Lcode_Op_code_Op_c Tryz.f153 p_slices_ContainsFunc_Lcode_Op_code_Op_i p_slices_ContainsFunc_Lcode_Op_code_Op_o [.one (.slice (.named 1)), oI, oI] [.one .bool] (by kernel_rfl) (by kernel_rfl)
def q_slices_ContainsFunc_Lcode_Op_code_Op (a1 : List Scode_Op) (a2 : Int) (a3 : Int) : Option (Bool × Unit) := p_slices_ContainsFunc_Lcode_Op_code_Op.F (a1, a2, a3, ())
def p_code_Fits_c : Cfg E := mkCfg Tryz.prog tab [(153, [p_slices_ContainsFunc_Lcode_Op_code_Op])] [] [] [] [] []
def p_code_Fits_i : Shape := ⟨[.val (.slice (.named 1)), vI, vI], []⟩
def p_code_Fits_o : Shape := ⟨[.val .bool], []⟩
def p_code_Fits : Spec E := mkSpec p_code_Fits_c Tryz.f112 p_code_Fits_i p_code_Fits_o [.one (.slice (.named 1)), oI, oI] [.one .bool] (by kernel_rfl) (by kernel_rfl)
def q_code_Fits (a1 : List Scode_Op) (a2 : Int) (a3 : Int) : Option (Bool × Unit) := p_code_Fits.F (a1, a2, a3, ())
def p_pick_Right_c : Cfg E := mkCfg Tryz.prog tab [] [] [] [] [] []
def p_pick_Right_i : Shape := ⟨[.val (.named 2)], []⟩
def p_pick_Right_o : Shape := ⟨[.val .bool], []⟩
def p_pick_Right : Spec E := mkSpec p_pick_Right_c Tryz.f158 p_pick_Right_i p_pick_Right_o [.one (.named 2)] [.one .bool] (by kernel_rfl) (by kernel_rfl)
def q_pick_Right (a1 : Spick_Pick) : Option (Bool × Unit) := p_pick_Right.F (a1, ())
def p_pick_KnownF1_c : Cfg E := mkCfg Tryz.prog tab [(158, [p_pick_Right])] [] [] [] [] []
def p_pick_KnownF1_i : Shape := ⟨[.val (.named 2), .ptr 0], [.box false [.map 1], .map [(1, vI), (2, vI)]]⟩
def p_pick_KnownF1_o : Shape := ⟨[.val .bool], [.gone, .gone]⟩
def p_pick_KnownF1 : Spec E := mkSpec p_pick_KnownF1_c Tryz.f157 p_pick_KnownF1_i p_pick_KnownF1_o [.one (.named 2), oI, oI] [.one .bool] (by kernel_rfl) (by kernel_rfl)
def q_pick_KnownF1 (a1 : Spick_Pick) (a2 : Int) (a3 : Int) : Option (Bool × Unit) := p_pick_KnownF1.F (a1, a2, a3, ())
def p_slices_IndexFunc_Lpick_Pick_pick_Pick_l2 : LoopSpec E := { slots := [0, 1, 7, 8], inn := ⟨[.val (.slice (.named 2)), .fn 157 [.ptr 2], vI, vI], [.gone, .gone, .box false [.map 3], .map [(1, vI), (2, vI)]]⟩, brkId := 0, bslots := [], brk := ⟨[], [.gone, .gone]⟩, rslots := [4], ret := ⟨[vI], [.gone, .gone]⟩, gi := grp [.one (.slice (.named 2)), oI, oI, oI, oI] (by kernel_rfl), gb := grp [] (by kernel_rfl), gr := grp [oI] (by kernel_rfl) }
def p_slices_IndexFunc_Lpick_Pick_pick_Pick_c : Cfg E := mkCfg Tryz.prog tab [(157, [p_pick_KnownF1])] [(2, p_slices_IndexFunc_Lpick_Pick_pick_Pick_l2)] [] [] [] []
def p_slices_IndexFunc_Lpick_Pick_pick_Pick_i : Shape := ⟨[.val (.slice (.named 2)), .fn 157 [.ptr 0]], [.box false [.map 1], .map [(1, vI), (2, vI)]]⟩
def p_slices_IndexFunc_Lpick_Pick_pick_Pick_o : Shape := ⟨[vI], [.gone, .gone]⟩
def p_slices_IndexFunc_Lpick_Pick_pick_Pick : Spec E := mkSpec p_slices_IndexFunc_Lpick_Pick_pick_Pick_c Tryz.f182 p_slices_IndexFunc_Lpick_Pick_pick_Pick_i p_slices_IndexFunc_Lpick_Pick_pick_Pick_o [.one (.slice (.named 2)), oI, oI] [oI] (by kernel_rfl) (by kernel_rfl)
def q_slices_IndexFunc_Lpick_Pick_pick_Pick (a1 : List Spick_Pick) (a2 : Int) (a3 : Int) : Option (Int × Unit) := p_slices_IndexFunc_Lpick_Pick_pick_Pick.F (a1, a2, a3, ())
def p_slices_IndexFunc_Lpick_Pick_pick_Pick_r2 (x : (List Spick_Pick) × Int × Int × Int × Int × Unit) : Option (Stop ((List Spick_Pick) × Int × Int × Int × Int × Unit) (Unit) (Int × Unit)) := roundBy p_slices_IndexFunc_Lpick_Pick_pick_Pick_c (exec p_slices_IndexFunc_Lpick_Pick_pick_Pick_c (loopAt Tryz.f182 2)) 19 p_slices_IndexFunc_Lpick_Pick_pick_Pick_l2 x
def p_slices_ContainsFunc_Lpick_Pick_pick_Pick_c : Cfg E := mkCfg Tryz.prog tab [(182, [p_slices_IndexFunc_Lpick_Pick_pick_Pick])] [] [] [] [] []
def p_slices_ContainsFunc_Lpick_Pick_pick_Pick_i : Shape := ⟨[.val (.slice (.named 2)), .fn 157 [.ptr 0]], [.box false [.map 1], .map [(1, vI), (2, vI)]]⟩
def p_slices_ContainsFunc_Lpick_Pick_pick_Pick_o : Shape := ⟨[.val .bool], [.gone, .gone]⟩
def p_slices_ContainsFunc_Lpick_Pick_pick_Pick : Spec E := mkSpec p_slices_ContainsFunc_Lpick_Pick_pick_Pick_c Tryz.f156 p_slices_ContainsFunc_Lpick_Pick_pick_Pick_i p_slices_ContainsFunc_Lpick_Pick_pick_Pick_o [.one (.slice (.named 2)), oI, oI] [.one .bool] (by kernel_rfl) (by kernel_rfl)
def q_slices_ContainsFunc_Lpick_Pick_pick_Pick (a1 : List Spick_Pick) (a2 : Int) (a3 : Int) : Option (Bool × Unit) := p_slices_ContainsFunc_Lpick_Pick_pick_Pick.F (a1, a2, a3, ())
def p_pick_Known_c : Cfg E := mkCfg Tryz.prog tab [(156, [p_slices_ContainsFunc_Lpick_Pick_pick_Pick])] [] [] [] [] []
def p_pick_Known_i : Shape := ⟨[.val (.slice (.named 2)), vI, vI], []⟩
def p_pick_Known_o : Shape := ⟨[.val .bool], []⟩
def p_pick_Known : Spec E := mkSpec p_pick_Known_c Tryz.f113 p_pick_Known_i p_pick_Known_o [.one (.slice (.named 2)), oI, oI] [.one .bool] (by kernel_rfl) (by kernel_rfl)
def q_pick_Known (a1 : List Spick_Pick) (a2 : Int) (a3 : Int) : Option (Bool × Unit) := p_pick_Known.F (a1, a2, a3, ())
def p_plan_Right_l5 : LoopSpec E := { slots := [1, 3, 51, 52, 53], inn := ⟨[.ptr 0, .ptr 1, .val (.slice (.slice (.int .i64))), vI, vI], [.box true [vI, vI, vI, vI, vI, vI, vI, vI, vI, .val (.slice (.slice (.int .i64))), .val (.int .u64), .val (.slice (.slice (.int .i64))), .val (.slice (.slice (.named 1))), .val (.slice (.named 2))], .box true [vI]]⟩, brkId := 0, bslots := [1], brk := ⟨[.ptr 0], [.box true [vI, vI, vI, vI, vI, vI, vI, vI, vI, .val (.slice (.slice (.int .i64))), .val (.int .u64), .val (.slice (.slice (.int .i64))), .val (.slice (.slice (.named 1))), .val (.slice (.named 2))]]⟩, rslots := [2], ret := ⟨[.val .bool], []⟩, gi := grp [.one (.slice (.slice (.int .i64))), oI, oI, .str 4, oI] (by kernel_rfl), gb := grp [.str 4] (by kernel_rfl), gr := grp [.one .bool] (by kernel_rfl) }
def p_plan_Right_c : Cfg E := mkCfg Tryz.prog tab [(105, [p_plan_Plan_sized]), (106, [p_heap_Right]), (107, [p_plan_within]), (108, [p_set_Under]), (109, [p_set_First]), (110, [p_slices_ContainsFunc_Lint_int_v1]), (112, [p_code_Fits]), (113, [p_pick_Known])] [(5, p_plan_Right_l5)] [] [] [] []
def p_plan_Right_i : Shape := ⟨[.val (.named 4)], []⟩
def p_plan_Right_o : Shape := ⟨[.val .bool], []⟩
def p_plan_Right : Spec E := mkSpec p_plan_Right_c Tryz.f42 p_plan_Right_i p_plan_Right_o [.one (.named 4)] [.one .bool] (by kernel_rfl) (by kernel_rfl)
def q_plan_Right (a1 : Splan_Plan) : Option (Bool × Unit) := p_plan_Right.F (a1, ())
def p_plan_Right_r5 (x : (List (List Int)) × Int × Int × Splan_Plan × Int × Unit) : Option (Stop ((List (List Int)) × Int × Int × Splan_Plan × Int × Unit) (Splan_Plan × Unit) (Bool × Unit)) := roundBy p_plan_Right_c (exec p_plan_Right_c (loopAt Tryz.f42 5)) 95 p_plan_Right_l5 x
def p_set_bit_c : Cfg E := mkCfg Tryz.prog tab [] [] [] [] [] []
def p_set_bit_i : Shape := ⟨[vI], []⟩
def p_set_bit_o : Shape := ⟨[.val (.int .u64)], []⟩
def p_set_bit : Spec E := mkSpec p_set_bit_c Tryz.f84 p_set_bit_i p_set_bit_o [oI] [.one (.int .u64)] (by kernel_rfl) (by kernel_rfl)
def q_set_bit (a1 : Int) : Option ((BitVec 64) × Unit) := p_set_bit.F (a1, ())
def p_set_Add_c : Cfg E := mkCfg Tryz.prog tab [(84, [p_set_bit])] [] [] [] [] []
def p_set_Add_i : Shape := ⟨[.val (.int .u64), vI], []⟩
def p_set_Add_o : Shape := ⟨[.val (.int .u64)], []⟩
def p_set_Add : Spec E := mkSpec p_set_Add_c Tryz.f29 p_set_Add_i p_set_Add_o [.one (.int .u64), oI] [.one (.int .u64)] (by kernel_rfl) (by kernel_rfl)
def q_set_Add (a1 : BitVec 64) (a2 : Int) : Option ((BitVec 64) × Unit) := p_set_Add.F (a1, a2, ())
def p_set_Of_l3 : LoopSpec E := { slots := [3, 6, 7, 8], inn := ⟨[.val (.int .u64), .val (.slice (.int .i64)), vI, vI], []⟩, brkId := 0, bslots := [3], brk := ⟨[.val (.int .u64)], []⟩, rslots := [], ret := ⟨[], []⟩, gi := grp [.one (.int .u64), .one (.slice (.int .i64)), oI, oI] (by kernel_rfl), gb := grp [.one (.int .u64)] (by kernel_rfl), gr := grp [] (by kernel_rfl) }
def p_set_Of_c : Cfg E := mkCfg Tryz.prog tab [(29, [p_set_Add])] [(3, p_set_Of_l3)] [] [] [] []
def p_set_Of_i : Shape := ⟨[.val (.slice (.int .i64))], []⟩
def p_set_Of_o : Shape := ⟨[.val (.int .u64)], []⟩
def p_set_Of : Spec E := mkSpec p_set_Of_c Tryz.f94 p_set_Of_i p_set_Of_o [.one (.slice (.int .i64))] [.one (.int .u64)] (by kernel_rfl) (by kernel_rfl)
def q_set_Of (a1 : List Int) : Option ((BitVec 64) × Unit) := p_set_Of.F (a1, ())
def p_set_Of_r3 (x : (BitVec 64) × (List Int) × Int × Int × Unit) : Option (Stop ((BitVec 64) × (List Int) × Int × Int × Unit) ((BitVec 64) × Unit) (Unit)) := roundBy p_set_Of_c (exec p_set_Of_c (loopAt Tryz.f94 3)) 17 p_set_Of_l3 x
def p_plan_Greys_l3 : LoopSpec E := { slots := [3, 9, 10, 11], inn := ⟨[.val (.int .u64), .val (.slice (.slice (.int .i64))), vI, vI], []⟩, brkId := 0, bslots := [3], brk := ⟨[.val (.int .u64)], []⟩, rslots := [], ret := ⟨[], []⟩, gi := grp [.one (.int .u64), .one (.slice (.slice (.int .i64))), oI, oI] (by kernel_rfl), gb := grp [.one (.int .u64)] (by kernel_rfl), gr := grp [] (by kernel_rfl) }
def p_plan_Greys_c : Cfg E := mkCfg Tryz.prog tab [(94, [p_set_Of])] [(3, p_plan_Greys_l3)] [] [] [] []
def p_plan_Greys_i : Shape := ⟨[.val (.named 4)], []⟩
def p_plan_Greys_o : Shape := ⟨[.val (.int .u64)], []⟩
def p_plan_Greys : Spec E := mkSpec p_plan_Greys_c Tryz.f43 p_plan_Greys_i p_plan_Greys_o [.one (.named 4)] [.one (.int .u64)] (by kernel_rfl) (by kernel_rfl)
def q_plan_Greys (a1 : Splan_Plan) : Option ((BitVec 64) × Unit) := p_plan_Greys.F (a1, ())
def p_plan_Greys_r3 (x : (BitVec 64) × (List (List Int)) × Int × Int × Unit) : Option (Stop ((BitVec 64) × (List (List Int)) × Int × Int × Unit) ((BitVec 64) × Unit) (Unit)) := roundBy p_plan_Greys_c (exec p_plan_Greys_c (loopAt Tryz.f43 3)) 21 p_plan_Greys_l3 x
def p_ledger_New_c : Cfg E := mkCfg Tryz.prog tab [] [] [] [] [] []
def p_ledger_New_i : Shape := ⟨[vI], []⟩
def p_ledger_New_o : Shape := ⟨[.val (.named 5)], []⟩
def p_ledger_New : Spec E := mkSpec p_ledger_New_c Tryz.f44 p_ledger_New_i p_ledger_New_o [oI] [.one (.named 5)] (by kernel_rfl) (by kernel_rfl)
def q_ledger_New (a1 : Int) : Option (Sledger_Ledger × Unit) := p_ledger_New.F (a1, ())
def p_slices_Clone_Lint_int_c : Cfg E := mkCfg Tryz.prog tab [] [] [] [] [] []
def p_slices_Clone_Lint_int_i : Shape := ⟨[.val (.slice (.int .i64))], []⟩
def p_slices_Clone_Lint_int_o : Shape := ⟨[.own 0], [.row true (.int .i64)]⟩
def p_slices_Clone_Lint_int : Spec E := mkSpec p_slices_Clone_Lint_int_c Tryz.f46 p_slices_Clone_Lint_int_i p_slices_Clone_Lint_int_o [.one (.slice (.int .i64))] [.one (.slice (.int .i64))] (by kernel_rfl) (by kernel_rfl)
def q_slices_Clone_Lint_int (a1 : List Int) : Option ((List Int) × Unit) := p_slices_Clone_Lint_int.F (a1, ())
def p_state_each_Lint_l4 : LoopSpec E := { slots := [1, 5, 14, 15], inn := ⟨[.fn 46 [], .own 0, vI, vI], [.row true (.slice (.int .i64))]⟩, brkId := 0, bslots := [5], brk := ⟨[.own 0], [.row true (.slice (.int .i64))]⟩, rslots := [], ret := ⟨[], []⟩, gi := grp [oI, oI, .one (.slice (.slice (.int .i64)))] (by kernel_rfl), gb := grp [.one (.slice (.slice (.int .i64)))] (by kernel_rfl), gr := grp [] (by kernel_rfl) }
def p_state_each_Lint_c : Cfg E := mkCfg Tryz.prog tab [(46, [p_slices_Clone_Lint_int])] [(4, p_state_each_Lint_l4)] [] [] [] []
def p_state_each_Lint_i : Shape := ⟨[.val (.slice (.slice (.int .i64))), .fn 46 []], []⟩
def p_state_each_Lint_o : Shape := ⟨[.own 0], [.row true (.slice (.int .i64))]⟩
def p_state_each_Lint : Spec E := mkSpec p_state_each_Lint_c Tryz.f45 p_state_each_Lint_i p_state_each_Lint_o [.one (.slice (.slice (.int .i64)))] [.one (.slice (.slice (.int .i64)))] (by kernel_rfl) (by kernel_rfl)
def q_state_each_Lint (a1 : List (List Int)) : Option ((List (List Int)) × Unit) := p_state_each_Lint.F (a1, ())
def p_state_each_Lint_r4 (x : Int × Int × (List (List Int)) × Unit) : Option (Stop (Int × Int × (List (List Int)) × Unit) ((List (List Int)) × Unit) (Unit)) := roundBy p_state_each_Lint_c (exec p_state_each_Lint_c (loopAt Tryz.f45 4)) 29 p_state_each_Lint_l4 x
def p_deque_Cells_c : Cfg E := mkCfg Tryz.prog tab [] [] [] [] [] []
def p_deque_Cells_i : Shape := ⟨[vI], []⟩
def p_deque_Cells_o : Shape := ⟨[.own 0], [.row true (.int .u64)]⟩
def p_deque_Cells : Spec E := mkSpec p_deque_Cells_c Tryz.f47 p_deque_Cells_i p_deque_Cells_o [oI] [.one (.slice (.int .u64))] (by kernel_rfl) (by kernel_rfl)
def q_deque_Cells (a1 : Int) : Option ((List (BitVec 64)) × Unit) := p_deque_Cells.F (a1, ())
def p_deque_Start_c : Cfg E := mkCfg Tryz.prog tab [] [] [] [] [] []
def p_deque_Start_i : Shape := ⟨[vI, vI, vI, vI], []⟩
def p_deque_Start_o : Shape := ⟨[.val (.named 6)], []⟩
def p_deque_Start : Spec E := mkSpec p_deque_Start_c Tryz.f48 p_deque_Start_i p_deque_Start_o [oI, oI, oI, oI] [.one (.named 6)] (by kernel_rfl) (by kernel_rfl)
def q_deque_Start (a1 : Int) (a2 : Int) (a3 : Int) (a4 : Int) : Option (Sdeque_Machine × Unit) := p_deque_Start.F (a1, a2, a3, a4, ())
def p_plan_Bins_c : Cfg E := mkCfg Tryz.prog tab [] [] [] [] [] []
def p_plan_Bins_i : Shape := ⟨[.val (.named 4)], []⟩
def p_plan_Bins_o : Shape := ⟨[vI], []⟩
def p_plan_Bins : Spec E := mkSpec p_plan_Bins_c Tryz.f49 p_plan_Bins_i p_plan_Bins_o [.one (.named 4)] [oI] (by kernel_rfl) (by kernel_rfl)
def q_plan_Bins (a1 : Splan_Plan) : Option (Int × Unit) := p_plan_Bins.F (a1, ())
def p_slices_Chunk_Lint_int_c : Cfg E := mkCfg Tryz.prog tab [] [] [] [] [] []
def p_slices_Chunk_Lint_int_i : Shape := ⟨[.val (.slice (.int .i64)), vI], []⟩
def p_slices_Chunk_Lint_int_o : Shape := ⟨[.fn 114 [.ptr 0, .ptr 1]], [.box true [.val (.slice (.int .i64))], .box true [vI]]⟩
def p_slices_Chunk_Lint_int : Spec E := mkSpec p_slices_Chunk_Lint_int_c Tryz.f50 p_slices_Chunk_Lint_int_i p_slices_Chunk_Lint_int_o [.one (.slice (.int .i64)), oI] [.one (.slice (.int .i64)), oI] (by kernel_rfl) (by kernel_rfl)
def q_slices_Chunk_Lint_int (a1 : List Int) (a2 : Int) : Option ((List Int) × Int × Unit) := p_slices_Chunk_Lint_int.F (a1, a2, ())
def p_set_each_c : Cfg E := mkCfg Tryz.prog tab [] [] [] [] [] []
def p_set_each_i : Shape := ⟨[.val (.int .u64)], []⟩
def p_set_each_o : Shape := ⟨[.fn 159 [.ptr 0]], [.box true [.val (.int .u64)]]⟩
def p_set_each : Spec E := mkSpec p_set_each_c Tryz.f115 p_set_each_i p_set_each_o [.one (.int .u64)] [.one (.int .u64)] (by kernel_rfl) (by kernel_rfl)
def q_set_each (a1 : BitVec 64) : Option ((BitVec 64) × Unit) := p_set_each.F (a1, ())
def i_set_eachF1_l0 : LoopSpec E := { slots := [0, 1], inn := ⟨[.yld, .ptr 0], [.box true [.val (.int .u64)]]⟩, brkId := 0, bslots := [0], brk := ⟨[.yld], []⟩, rslots := [0], ret := ⟨[.yld], []⟩, gi := grp [oI, oI, .one (.int .u64)] (by kernel_rfl), gb := grp [oI, oI] (by kernel_rfl), gr := grp [oI, oI] (by kernel_rfl) }
def i_set_eachF1_c0 : Cfg E := mkCfg Tryz.prog tab [(160, [pTZ])] [(0, i_set_eachF1_l0)] [] [] [] []
def i_set_eachF1_c (ys : List Int) : Cfg E := { i_set_eachF1_c0 with yl := true, ye := (.int .i64), yd := ys }
def i_set_eachF1_i : Shape := ⟨[.ptr 0], [.box true [.val (.int .u64)]]⟩
def i_set_eachF1 : IterSpec E := { inn := i_set_eachF1_i, e := (.int .i64), F := fun x => bitsAsc 66 x.1 }
def j_set_eachF1 (a1 : BitVec 64) : Option (List Int) := i_set_eachF1.F (a1, ())
def i_set_eachF1_r0 (ys : List Int) (x : Int × Int × (BitVec 64) × Unit) : Option (Stop (Int × Int × (BitVec 64) × Unit) (Int × Int × Unit) (Int × Int × Unit)) := roundBy (i_set_eachF1_c ys) (exec (i_set_eachF1_c ys) (loopAt Tryz.f159 0)) 15 i_set_eachF1_l0 x
def p_set_List_l3 : LoopSpec E := { slots := [3], inn := ⟨[.ptr 0], [.box true [.own 1], .row true (.int .i64)]⟩, brkId := 0, bslots := [], brk := ⟨[], []⟩, rslots := [], ret := ⟨[], []⟩, gi := grp [.one (.slice (.int .i64))] (by kernel_rfl), gb := grp [] (by kernel_rfl), gr := grp [] (by kernel_rfl) }
def p_set_List_c : Cfg E := mkCfg Tryz.prog tab [(115, [p_set_each])] [(3, p_set_List_l3)] [] [] [] [(159, i_set_eachF1)]
def p_set_List_i : Shape := ⟨[.val (.int .u64)], []⟩
def p_set_List_o : Shape := ⟨[.own 0], [.row true (.int .i64)]⟩
def p_set_List : Spec E := mkSpec p_set_List_c Tryz.f51 p_set_List_i p_set_List_o [.one (.int .u64)] [.one (.slice (.int .i64))] (by kernel_rfl) (by kernel_rfl)
def q_set_List (a1 : BitVec 64) : Option ((List Int) × Unit) := p_set_List.F (a1, ())
def p_set_List_r3 (y : Int) (x : (List Int) × Unit) : Option ((List Int) × Unit) := roundY p_set_List_c (exec p_set_List_c (asAt Tryz.f51 3)) (exec p_set_List_c (bodyAt Tryz.f51 3)) 13 p_set_List_l3 7 (.int .i64) y x
def p_mem_DoF1_c : Cfg E := mkCfg Tryz.prog tab [] [] [] [] [] []
def p_mem_DoF1_i : Shape := ⟨[.val (.int .u64)], []⟩
def p_mem_DoF1_o : Shape := ⟨[.val (.int .u64), .val .bool], []⟩
def p_mem_DoF1 : Spec E := mkSpec p_mem_DoF1_c Tryz.f174 p_mem_DoF1_i p_mem_DoF1_o [.one (.int .u64)] [.one (.int .u64), .one .bool] (by kernel_rfl) (by kernel_rfl)
def q_mem_DoF1 (a1 : BitVec 64) : Option ((BitVec 64) × Bool × Unit) := p_mem_DoF1.F (a1, ())
def p_mem_DoF2_c : Cfg E := mkCfg Tryz.prog tab [] [] [] [] [] []
def p_mem_DoF2_i : Shape := ⟨[.val (.int .u64), .ptr 0], [.box false [vI, vI, .val (.int .u64), .val (.int .u64)]]⟩
def p_mem_DoF2_o : Shape := ⟨[.val (.int .u64), .val .bool], [.gone]⟩
def p_mem_DoF2 : Spec E := mkSpec p_mem_DoF2_c Tryz.f175 p_mem_DoF2_i p_mem_DoF2_o [.one (.int .u64), .str 13] [.one (.int .u64), .one .bool] (by kernel_rfl) (by kernel_rfl)
def q_mem_DoF2 (a1 : BitVec 64) (a2 : Smem_Op) : Option ((BitVec 64) × Bool × Unit) := p_mem_DoF2.F (a1, a2, ())
def p_mem_DoF3_c : Cfg E := mkCfg Tryz.prog tab [] [] [] [] [] []
def p_mem_DoF3_i : Shape := ⟨[.val (.int .u64), .ptr 0], [.box false [vI, vI, .val (.int .u64), .val (.int .u64)]]⟩
def p_mem_DoF3_o : Shape := ⟨[.val (.int .u64), .val .bool], [.gone]⟩
def p_mem_DoF3 : Spec E := mkSpec p_mem_DoF3_c Tryz.f176 p_mem_DoF3_i p_mem_DoF3_o [.one (.int .u64), .str 13] [.one (.int .u64), .one .bool] (by kernel_rfl) (by kernel_rfl)
def q_mem_DoF3 (a1 : BitVec 64) (a2 : Smem_Op) : Option ((BitVec 64) × Bool × Unit) := p_mem_DoF3.F (a1, a2, ())
def p_mem_DoF4_c : Cfg E := mkCfg Tryz.prog tab [] [] [] [] [] []
def p_mem_DoF4_i : Shape := ⟨[.val (.int .u64), .ptr 0], [.box false [vI, vI, .val (.int .u64), .val (.int .u64)]]⟩
def p_mem_DoF4_o : Shape := ⟨[.val (.int .u64), .val .bool], [.gone]⟩
def p_mem_DoF4 : Spec E := mkSpec p_mem_DoF4_c Tryz.f177 p_mem_DoF4_i p_mem_DoF4_o [.one (.int .u64), .str 13] [.one (.int .u64), .one .bool] (by kernel_rfl) (by kernel_rfl)
def q_mem_DoF4 (a1 : BitVec 64) (a2 : Smem_Op) : Option ((BitVec 64) × Bool × Unit) := p_mem_DoF4.F (a1, a2, ())
def p_slices_Clone_mem_Mem_uint64_c : Cfg E := mkCfg Tryz.prog tab [] [] [] [] [] []
def p_slices_Clone_mem_Mem_uint64_i : Shape := ⟨[.val (.slice (.int .u64))], []⟩
def p_slices_Clone_mem_Mem_uint64_o : Shape := ⟨[.own 0], [.row true (.int .u64)]⟩
def p_slices_Clone_mem_Mem_uint64 : Spec E := mkSpec p_slices_Clone_mem_Mem_uint64_c Tryz.f178 p_slices_Clone_mem_Mem_uint64_i p_slices_Clone_mem_Mem_uint64_o [.one (.slice (.int .u64))] [.one (.slice (.int .u64))] (by kernel_rfl) (by kernel_rfl)
def q_slices_Clone_mem_Mem_uint64 (a1 : List (BitVec 64)) : Option ((List (BitVec 64)) × Unit) := p_slices_Clone_mem_Mem_uint64.F (a1, ())
def p_mem_Do_c : Cfg E := mkCfg Tryz.prog tab [(174, [p_mem_DoF1]), (175, [p_mem_DoF2]), (176, [p_mem_DoF3]), (177, [p_mem_DoF4]), (178, [p_slices_Clone_mem_Mem_uint64])] [] [] [] [] []
def p_mem_Do_i : Shape := ⟨[.val (.slice (.int .u64)), .val (.named 13)], []⟩
def p_mem_Do_o : Shape := ⟨[.val (.slice (.int .u64)), .val (.int .u64), .val .bool], []⟩
def p_mem_Do : Spec E := mkSpec p_mem_Do_c Tryz.f141 p_mem_Do_i p_mem_Do_o [.one (.slice (.int .u64)), .one (.named 13)] [.one (.slice (.int .u64)), .one (.int .u64), .one .bool] (by kernel_rfl) (by kernel_rfl)
def q_mem_Do (a1 : List (BitVec 64)) (a2 : Smem_Op) : Option ((List (BitVec 64)) × (BitVec 64) × Bool × Unit) := p_mem_Do.F (a1, a2, ())
def p_chain_store_c : Cfg E := mkCfg Tryz.prog tab [(141, [p_mem_Do])] [] [] [] [] []
def p_chain_store_i : Shape := ⟨[.val (.slice (.int .u64)), vI, .val (.int .u64)], []⟩
def p_chain_store_o : Shape := ⟨[.val (.slice (.int .u64))], []⟩
def p_chain_store : Spec E := mkSpec p_chain_store_c Tryz.f116 p_chain_store_i p_chain_store_o [.one (.slice (.int .u64)), oI, .one (.int .u64)] [.one (.slice (.int .u64))] (by kernel_rfl) (by kernel_rfl)
def q_chain_store (a1 : List (BitVec 64)) (a2 : Int) (a3 : BitVec 64) : Option ((List (BitVec 64)) × Unit) := p_chain_store.F (a1, a2, a3, ())
def p_chain_Pack_c : Cfg E := mkCfg Tryz.prog tab [] [] [] [] [] []
def p_chain_Pack_i : Shape := ⟨[.val (.int .u64), vI], []⟩
def p_chain_Pack_o : Shape := ⟨[.val (.int .u64)], []⟩
def p_chain_Pack : Spec E := mkSpec p_chain_Pack_c Tryz.f117 p_chain_Pack_i p_chain_Pack_o [.one (.int .u64), oI] [.one (.int .u64)] (by kernel_rfl) (by kernel_rfl)
def q_chain_Pack (a1 : BitVec 64) (a2 : Int) : Option ((BitVec 64) × Unit) := p_chain_Pack.F (a1, a2, ())
def p_chain_Lay_l2 : LoopSpec E := { slots := [0, 1, 2, 3, 13, 14], inn := ⟨[.val (.slice (.int .u64)), vI, vI, .val (.slice (.int .i64)), vI, vI], []⟩, brkId := 0, bslots := [0, 1, 3], brk := ⟨[.val (.slice (.int .u64)), vI, .val (.slice (.int .i64))], []⟩, rslots := [], ret := ⟨[], []⟩, gi := grp [.one (.slice (.int .u64)), oI, oI, .one (.slice (.int .i64)), oI, oI] (by kernel_rfl), gb := grp [.one (.slice (.int .u64)), oI, .one (.slice (.int .i64))] (by kernel_rfl), gr := grp [] (by kernel_rfl) }
def p_chain_Lay_c : Cfg E := mkCfg Tryz.prog tab [(116, [p_chain_store]), (117, [p_chain_Pack])] [(2, p_chain_Lay_l2)] [] [] [] []
def p_chain_Lay_i : Shape := ⟨[.val (.slice (.int .u64)), vI, vI, .val (.slice (.int .i64))], []⟩
def p_chain_Lay_o : Shape := ⟨[.val (.slice (.int .u64))], []⟩
def p_chain_Lay : Spec E := mkSpec p_chain_Lay_c Tryz.f52 p_chain_Lay_i p_chain_Lay_o [.one (.slice (.int .u64)), oI, oI, .one (.slice (.int .i64))] [.one (.slice (.int .u64))] (by kernel_rfl) (by kernel_rfl)
def q_chain_Lay (a1 : List (BitVec 64)) (a2 : Int) (a3 : Int) (a4 : List Int) : Option ((List (BitVec 64)) × Unit) := p_chain_Lay.F (a1, a2, a3, a4, ())
def p_chain_Lay_r2 (x : (List (BitVec 64)) × Int × Int × (List Int) × Int × Int × Unit) : Option (Stop ((List (BitVec 64)) × Int × Int × (List Int) × Int × Int × Unit) ((List (BitVec 64)) × Int × (List Int) × Unit) (Unit)) := roundBy p_chain_Lay_c (exec p_chain_Lay_c (loopAt Tryz.f52 2)) 49 p_chain_Lay_l2 x
def i_slices_Chunk_Lint_int_F1_l1 : LoopSpec E := { slots := [0, 1, 2, 4], inn := ⟨[.yld, .ptr 0, .ptr 1, vI], [.box true [.val (.slice (.int .i64))], .box true [vI]]⟩, brkId := 0, bslots := [0], brk := ⟨[.yld], []⟩, rslots := [0], ret := ⟨[.yld], []⟩, gi := grp [oI, oI, oI, .one (.slice (.int .i64)), oI] (by kernel_rfl), gb := grp [oI, oI] (by kernel_rfl), gr := grp [oI, oI] (by kernel_rfl) }
def i_slices_Chunk_Lint_int_F1_c0 : Cfg E := mkCfg Tryz.prog tab [] [(1, i_slices_Chunk_Lint_int_F1_l1)] [] [] [] []
def i_slices_Chunk_Lint_int_F1_c (ys : List (List Int)) : Cfg E := { i_slices_Chunk_Lint_int_F1_c0 with yl := true, ye := (.slice (.int .i64)), yd := ys }
def i_slices_Chunk_Lint_int_F1_i : Shape := ⟨[.ptr 0, .ptr 1], [.box true [.val (.slice (.int .i64))], .box true [vI]]⟩
def i_slices_Chunk_Lint_int_F1 : IterSpec E := { inn := i_slices_Chunk_Lint_int_F1_i, e := (.slice (.int .i64)), F := fun x => chunksOf x.1 x.2.1 }
def j_slices_Chunk_Lint_int_F1 (a1 : List Int) (a2 : Int) : Option (List (List Int)) := i_slices_Chunk_Lint_int_F1.F (a1, a2, ())
def i_slices_Chunk_Lint_int_F1_r1 (ys : List (List Int)) (x : Int × Int × Int × (List Int) × Int × Unit) : Option (Stop (Int × Int × Int × (List Int) × Int × Unit) (Int × Int × Unit) (Int × Int × Unit)) := roundBy (i_slices_Chunk_Lint_int_F1_c ys) (exec (i_slices_Chunk_Lint_int_F1_c ys) (loopAt Tryz.f114 1)) 31 i_slices_Chunk_Lint_int_F1_l1 x
def p_state_New_l7 : LoopSpec E := { slots := [1, 2, 3, 4, 37, 38], inn := ⟨[.ptr 0, .ptr 1, .val (.int .u64), .ptr 2, vI, vI], [.box true [vI, vI, vI, vI, vI, vI, vI, vI, vI, .val (.slice (.slice (.int .i64))), .val (.int .u64), .val (.slice (.slice (.int .i64))), .val (.slice (.slice (.named 1))), .val (.slice (.named 2))], .box true [vI, vI, vI, vI, vI, vI, vI, vI, vI, .own 3, .val (.int .u64), .own 4, .own 5, .own 6, vI, .own 7, .own 8, .own 9, .val (.int .u64), .val (.int .u64), vI, vI, .val .bool, .val .bool, vI, .own 10, vI, vI, vI, .own 11, .own 12, .own 13, vI, vI], .box true [vI, vI, vI, vI, vI, vI, vI, vI, vI, .val (.slice (.slice (.int .i64))), .val (.int .u64), .val (.slice (.slice (.int .i64))), .val (.slice (.slice (.named 1))), .val (.slice (.named 2)), vI, .own 14, .own 15, .own 16, .val (.int .u64), .val (.int .u64), vI, vI, .val .bool, .val .bool, vI, .own 17, vI, vI, vI, .val (.slice (.int .i64)), .own 18, .own 19, vI, vI], .row true (.slice (.int .i64)), .row true (.slice (.int .i64)), .row true (.slice (.named 1)), .row true (.named 2), .row true (.slice (.int .i64)), .row true (.int .u64), .row true (.slice (.int .i64)), .row true (.int .i64), .row true (.int .i64), .row true (.named 9), .row true (.named 10), .row true (.slice (.int .i64)), .row true (.int .u64), .row true (.slice (.int .i64)), .row true (.int .i64), .row true (.named 9), .row true (.named 10)]⟩, brkId := 0, bslots := [1, 2, 3, 4], brk := ⟨[.ptr 0, .ptr 1, .val (.int .u64), .ptr 2], [.box true [vI, vI, vI, vI, vI, vI, vI, vI, vI, .val (.slice (.slice (.int .i64))), .val (.int .u64), .val (.slice (.slice (.int .i64))), .val (.slice (.slice (.named 1))), .val (.slice (.named 2))], .box true [vI, vI, vI, vI, vI, vI, vI, vI, vI, .own 3, .val (.int .u64), .own 4, .own 5, .own 6, vI, .own 7, .own 8, .own 9, .val (.int .u64), .val (.int .u64), vI, vI, .val .bool, .val .bool, vI, .own 10, vI, vI, vI, .own 11, .own 12, .own 13, vI, vI], .box true [vI, vI, vI, vI, vI, vI, vI, vI, vI, .val (.slice (.slice (.int .i64))), .val (.int .u64), .val (.slice (.slice (.int .i64))), .val (.slice (.slice (.named 1))), .val (.slice (.named 2)), vI, .own 14, .own 15, .own 16, .val (.int .u64), .val (.int .u64), vI, vI, .val .bool, .val .bool, vI, .own 17, vI, vI, vI, .val (.slice (.int .i64)), .own 18, .own 19, vI, vI], .row true (.slice (.int .i64)), .row true (.slice (.int .i64)), .row true (.slice (.named 1)), .row true (.named 2), .row true (.slice (.int .i64)), .row true (.int .u64), .row true (.slice (.int .i64)), .row true (.int .i64), .row true (.int .i64), .row true (.named 9), .row true (.named 10), .row true (.slice (.int .i64)), .row true (.int .u64), .row true (.slice (.int .i64)), .row true (.int .i64), .row true (.named 9), .row true (.named 10)]⟩, rslots := [], ret := ⟨[], []⟩, gi := grp [.one (.int .u64), oI, oI, .str 4, oI, oI, oI, oI, oI, oI, oI, oI, oI, .one (.int .u64), oI, .str 11, oI, oI, .one .bool, .one .bool, oI, oI, oI, oI, .str 12, .str 4, oI, .str 11, oI, oI, .one .bool, .one .bool, oI, .str 5, .str 12, .one (.slice (.slice (.int .i64))), .one (.slice (.slice (.int .i64))), .one (.slice (.slice (.named 1))), .one (.slice (.named 2)), .one (.slice (.slice (.int .i64))), .one (.slice (.int .u64)), .one (.slice (.slice (.int .i64))), .one (.slice (.int .i64)), .one (.slice (.int .i64)), .one (.slice (.named 9)), .one (.slice (.named 10)), .one (.slice (.slice (.int .i64))), .one (.slice (.int .u64)), .one (.slice (.slice (.int .i64))), .one (.slice (.int .i64)), .one (.slice (.named 9)), .one (.slice (.named 10))] (by kernel_rfl), gb := grp [.one (.int .u64), .str 4, oI, oI, oI, oI, oI, oI, oI, oI, oI, .one (.int .u64), oI, .str 11, oI, oI, .one .bool, .one .bool, oI, oI, oI, oI, .str 12, .str 4, oI, .str 11, oI, oI, .one .bool, .one .bool, oI, .str 5, .str 12, .one (.slice (.slice (.int .i64))), .one (.slice (.slice (.int .i64))), .one (.slice (.slice (.named 1))), .one (.slice (.named 2)), .one (.slice (.slice (.int .i64))), .one (.slice (.int .u64)), .one (.slice (.slice (.int .i64))), .one (.slice (.int .i64)), .one (.slice (.int .i64)), .one (.slice (.named 9)), .one (.slice (.named 10)), .one (.slice (.slice (.int .i64))), .one (.slice (.int .u64)), .one (.slice (.slice (.int .i64))), .one (.slice (.int .i64)), .one (.slice (.named 9)), .one (.slice (.named 10))] (by kernel_rfl), gr := grp [] (by kernel_rfl) }
def p_state_New_l15 : LoopSpec E := { slots := [1, 2, 3, 4, 6, 72, 73], inn := ⟨[.ptr 0, .ptr 1, .val (.int .u64), .ptr 2, .own 3, vI, vI], [.box true [vI, vI, vI, vI, vI, vI, vI, vI, vI, .val (.slice (.slice (.int .i64))), .val (.int .u64), .val (.slice (.slice (.int .i64))), .val (.slice (.slice (.named 1))), .val (.slice (.named 2))], .box true [vI, vI, vI, vI, vI, vI, vI, vI, vI, .own 4, .val (.int .u64), .own 5, .own 6, .own 7, vI, .own 8, .own 9, .own 10, .val (.int .u64), .val (.int .u64), vI, vI, .val .bool, .val .bool, vI, .own 11, vI, vI, vI, .own 12, .own 13, .own 14, vI, vI], .box true [vI, vI, vI, vI, vI, vI, vI, vI, vI, .val (.slice (.slice (.int .i64))), .val (.int .u64), .val (.slice (.slice (.int .i64))), .val (.slice (.slice (.named 1))), .val (.slice (.named 2)), vI, .own 15, .own 16, .own 17, .val (.int .u64), .val (.int .u64), vI, vI, .val .bool, .val .bool, vI, .own 18, vI, vI, vI, .val (.slice (.int .i64)), .own 19, .own 20, vI, vI], .row true (.int .i64), .row true (.slice (.int .i64)), .row true (.slice (.int .i64)), .row true (.slice (.named 1)), .row true (.named 2), .row true (.slice (.int .i64)), .row true (.int .u64), .row true (.slice (.int .i64)), .row true (.int .i64), .row true (.int .i64), .row true (.named 9), .row true (.named 10), .row true (.slice (.int .i64)), .row true (.int .u64), .row true (.slice (.int .i64)), .row true (.int .i64), .row true (.named 9), .row true (.named 10)]⟩, brkId := 2, bslots := [1, 2, 3, 4, 6], brk := ⟨[.ptr 0, .ptr 1, .val (.int .u64), .ptr 2, .own 3], [.box true [vI, vI, vI, vI, vI, vI, vI, vI, vI, .val (.slice (.slice (.int .i64))), .val (.int .u64), .val (.slice (.slice (.int .i64))), .val (.slice (.slice (.named 1))), .val (.slice (.named 2))], .box true [vI, vI, vI, vI, vI, vI, vI, vI, vI, .own 4, .val (.int .u64), .own 5, .own 6, .own 7, vI, .own 8, .own 9, .own 10, .val (.int .u64), .val (.int .u64), vI, vI, .val .bool, .val .bool, vI, .own 11, vI, vI, vI, .own 12, .own 13, .own 14, vI, vI], .box true [vI, vI, vI, vI, vI, vI, vI, vI, vI, .val (.slice (.slice (.int .i64))), .val (.int .u64), .val (.slice (.slice (.int .i64))), .val (.slice (.slice (.named 1))), .val (.slice (.named 2)), vI, .own 15, .own 16, .own 17, .val (.int .u64), .val (.int .u64), vI, vI, .val .bool, .val .bool, vI, .own 18, vI, vI, vI, .val (.slice (.int .i64)), .own 19, .own 20, vI, vI], .row true (.int .i64), .row true (.slice (.int .i64)), .row true (.slice (.int .i64)), .row true (.slice (.named 1)), .row true (.named 2), .row true (.slice (.int .i64)), .row true (.int .u64), .row true (.slice (.int .i64)), .row true (.int .i64), .row true (.int .i64), .row true (.named 9), .row true (.named 10), .row true (.slice (.int .i64)), .row true (.int .u64), .row true (.slice (.int .i64)), .row true (.int .i64), .row true (.named 9), .row true (.named 10)]⟩, rslots := [], ret := ⟨[], []⟩, gi := grp [.one (.int .u64), oI, oI, .str 4, oI, oI, oI, oI, oI, oI, oI, oI, oI, .one (.int .u64), oI, .str 11, oI, oI, .one .bool, .one .bool, oI, oI, oI, oI, .str 12, .str 4, oI, .str 11, oI, oI, .one .bool, .one .bool, oI, .str 5, .str 12, .one (.slice (.int .i64)), .one (.slice (.slice (.int .i64))), .one (.slice (.slice (.int .i64))), .one (.slice (.slice (.named 1))), .one (.slice (.named 2)), .one (.slice (.slice (.int .i64))), .one (.slice (.int .u64)), .one (.slice (.slice (.int .i64))), .one (.slice (.int .i64)), .one (.slice (.int .i64)), .one (.slice (.named 9)), .one (.slice (.named 10)), .one (.slice (.slice (.int .i64))), .one (.slice (.int .u64)), .one (.slice (.slice (.int .i64))), .one (.slice (.int .i64)), .one (.slice (.named 9)), .one (.slice (.named 10))] (by kernel_rfl), gb := grp [.one (.int .u64), .str 4, oI, oI, oI, oI, oI, oI, oI, oI, oI, .one (.int .u64), oI, .str 11, oI, oI, .one .bool, .one .bool, oI, oI, oI, oI, .str 12, .str 4, oI, .str 11, oI, oI, .one .bool, .one .bool, oI, .str 5, .str 12, .one (.slice (.int .i64)), .one (.slice (.slice (.int .i64))), .one (.slice (.slice (.int .i64))), .one (.slice (.slice (.named 1))), .one (.slice (.named 2)), .one (.slice (.slice (.int .i64))), .one (.slice (.int .u64)), .one (.slice (.slice (.int .i64))), .one (.slice (.int .i64)), .one (.slice (.int .i64)), .one (.slice (.named 9)), .one (.slice (.named 10)), .one (.slice (.slice (.int .i64))), .one (.slice (.int .u64)), .one (.slice (.slice (.int .i64))), .one (.slice (.int .i64)), .one (.slice (.named 9)), .one (.slice (.named 10))] (by kernel_rfl), gr := grp [] (by kernel_rfl) }
def p_state_New_l20 : LoopSpec E := { slots := [1, 2, 4, 6], inn := ⟨[.ptr 0, .ptr 1, .ptr 2, .own 3], [.box true [vI, vI, vI, vI, vI, vI, vI, vI, vI, .val (.slice (.slice (.int .i64))), .val (.int .u64), .val (.slice (.slice (.int .i64))), .val (.slice (.slice (.named 1))), .val (.slice (.named 2))], .box true [vI, vI, vI, vI, vI, vI, vI, vI, vI, .own 4, .val (.int .u64), .own 5, .own 6, .own 7, vI, .own 8, .own 9, .own 10, .val (.int .u64), .val (.int .u64), vI, vI, .val .bool, .val .bool, vI, .own 11, vI, vI, vI, .own 12, .own 13, .own 14, vI, vI], .box true [vI, vI, vI, vI, vI, vI, vI, vI, vI, .val (.slice (.slice (.int .i64))), .val (.int .u64), .val (.slice (.slice (.int .i64))), .val (.slice (.slice (.named 1))), .val (.slice (.named 2)), vI, .own 15, .own 16, .own 17, .val (.int .u64), .val (.int .u64), vI, vI, .val .bool, .val .bool, vI, .own 18, vI, vI, vI, .val (.slice (.int .i64)), .own 19, .own 20, vI, vI], .row true (.int .i64), .row true (.slice (.int .i64)), .row true (.slice (.int .i64)), .row true (.slice (.named 1)), .row true (.named 2), .row true (.slice (.int .i64)), .row true (.int .u64), .row true (.slice (.int .i64)), .row true (.int .i64), .row true (.int .i64), .row true (.named 9), .row true (.named 10), .row true (.slice (.int .i64)), .row true (.int .u64), .row true (.slice (.int .i64)), .row true (.int .i64), .row true (.named 9), .row true (.named 10)]⟩, brkId := 0, bslots := [], brk := ⟨[], []⟩, rslots := [], ret := ⟨[], []⟩, gi := grp [.str 4, oI, oI, oI, oI, oI, oI, oI, oI, oI, .one (.int .u64), oI, .str 11, oI, oI, .one .bool, .one .bool, oI, oI, oI, oI, .str 12, .str 4, oI, .str 11, oI, oI, .one .bool, .one .bool, oI, .str 5, .str 12, .one (.slice (.int .i64)), .one (.slice (.slice (.int .i64))), .one (.slice (.slice (.int .i64))), .one (.slice (.slice (.named 1))), .one (.slice (.named 2)), .one (.slice (.slice (.int .i64))), .one (.slice (.int .u64)), .one (.slice (.slice (.int .i64))), .one (.slice (.int .i64)), .one (.slice (.int .i64)), .one (.slice (.named 9)), .one (.slice (.named 10)), .one (.slice (.slice (.int .i64))), .one (.slice (.int .u64)), .one (.slice (.slice (.int .i64))), .one (.slice (.int .i64)), .one (.slice (.named 9)), .one (.slice (.named 10))] (by kernel_rfl), gb := grp [] (by kernel_rfl), gr := grp [] (by kernel_rfl) }
def p_state_New_l28 : LoopSpec E := { slots := [2, 4, 134, 135, 136], inn := ⟨[.ptr 0, .ptr 1, .val (.slice (.slice (.int .i64))), vI, vI], [.box true [vI, vI, vI, vI, vI, vI, vI, vI, vI, .own 2, .val (.int .u64), .own 3, .own 4, .own 5, vI, .own 6, .own 7, .own 8, .val (.int .u64), .val (.int .u64), vI, vI, .val .bool, .val .bool, vI, .own 9, vI, vI, vI, .own 10, .own 11, .own 12, vI, vI], .box true [vI, vI, vI, vI, vI, vI, vI, vI, vI, .val (.slice (.slice (.int .i64))), .val (.int .u64), .val (.slice (.slice (.int .i64))), .val (.slice (.slice (.named 1))), .val (.slice (.named 2)), vI, .own 13, .val (.slice (.int .u64)), .own 14, .val (.int .u64), .val (.int .u64), vI, vI, .val .bool, .val .bool, vI, .own 15, vI, vI, vI, .val (.slice (.int .i64)), .own 16, .own 17, vI, vI], .row true (.slice (.int .i64)), .row true (.slice (.int .i64)), .row true (.slice (.named 1)), .row true (.named 2), .row true (.slice (.int .i64)), .row true (.int .u64), .row true (.slice (.int .i64)), .row true (.int .i64), .row true (.int .i64), .row true (.named 9), .row true (.named 10), .row true (.slice (.int .i64)), .row true (.slice (.int .i64)), .row true (.int .i64), .row true (.named 9), .row true (.named 10)]⟩, brkId := 6, bslots := [2, 4], brk := ⟨[.ptr 0, .ptr 1], [.box true [vI, vI, vI, vI, vI, vI, vI, vI, vI, .own 2, .val (.int .u64), .own 3, .own 4, .own 5, vI, .own 6, .own 7, .own 8, .val (.int .u64), .val (.int .u64), vI, vI, .val .bool, .val .bool, vI, .own 9, vI, vI, vI, .own 10, .own 11, .own 12, vI, vI], .box true [vI, vI, vI, vI, vI, vI, vI, vI, vI, .val (.slice (.slice (.int .i64))), .val (.int .u64), .val (.slice (.slice (.int .i64))), .val (.slice (.slice (.named 1))), .val (.slice (.named 2)), vI, .own 13, .val (.slice (.int .u64)), .own 14, .val (.int .u64), .val (.int .u64), vI, vI, .val .bool, .val .bool, vI, .own 15, vI, vI, vI, .val (.slice (.int .i64)), .own 16, .own 17, vI, vI], .row true (.slice (.int .i64)), .row true (.slice (.int .i64)), .row true (.slice (.named 1)), .row true (.named 2), .row true (.slice (.int .i64)), .row true (.int .u64), .row true (.slice (.int .i64)), .row true (.int .i64), .row true (.int .i64), .row true (.named 9), .row true (.named 10), .row true (.slice (.int .i64)), .row true (.slice (.int .i64)), .row true (.int .i64), .row true (.named 9), .row true (.named 10)]⟩, rslots := [], ret := ⟨[], []⟩, gi := grp [.one (.slice (.slice (.int .i64))), oI, oI, oI, oI, oI, oI, oI, oI, oI, oI, oI, .one (.int .u64), oI, .str 11, oI, oI, .one .bool, .one .bool, oI, oI, oI, oI, .str 12, .str 4, oI, .one (.slice (.int .u64)), .str 11, oI, oI, .one .bool, .one .bool, oI, .str 5, .str 12, .one (.slice (.slice (.int .i64))), .one (.slice (.slice (.int .i64))), .one (.slice (.slice (.named 1))), .one (.slice (.named 2)), .one (.slice (.slice (.int .i64))), .one (.slice (.int .u64)), .one (.slice (.slice (.int .i64))), .one (.slice (.int .i64)), .one (.slice (.int .i64)), .one (.slice (.named 9)), .one (.slice (.named 10)), .one (.slice (.slice (.int .i64))), .one (.slice (.slice (.int .i64))), .one (.slice (.int .i64)), .one (.slice (.named 9)), .one (.slice (.named 10))] (by kernel_rfl), gb := grp [oI, oI, oI, oI, oI, oI, oI, oI, oI, .one (.int .u64), oI, .str 11, oI, oI, .one .bool, .one .bool, oI, oI, oI, oI, .str 12, .str 4, oI, .one (.slice (.int .u64)), .str 11, oI, oI, .one .bool, .one .bool, oI, .str 5, .str 12, .one (.slice (.slice (.int .i64))), .one (.slice (.slice (.int .i64))), .one (.slice (.slice (.named 1))), .one (.slice (.named 2)), .one (.slice (.slice (.int .i64))), .one (.slice (.int .u64)), .one (.slice (.slice (.int .i64))), .one (.slice (.int .i64)), .one (.slice (.int .i64)), .one (.slice (.named 9)), .one (.slice (.named 10)), .one (.slice (.slice (.int .i64))), .one (.slice (.slice (.int .i64))), .one (.slice (.int .i64)), .one (.slice (.named 9)), .one (.slice (.named 10))] (by kernel_rfl), gr := grp [] (by kernel_rfl) }
def p_state_New_c : Cfg E := mkCfg Tryz.prog tab [(26, [p_set_Count]), (33, [p_state_Deque]), (35, [p_state_Full]), (36, [p_state_Next]), (42, [p_plan_Right]), (43, [p_plan_Greys]), (44, [p_ledger_New]), (45, [p_state_each_Lint]), (46, [p_slices_Clone_Lint_int]), (47, [p_deque_Cells]), (48, [p_deque_Start]), (49, [p_plan_Bins]), (50, [p_slices_Chunk_Lint_int]), (51, [p_set_List]), (52, [p_chain_Lay]), (53, [p_state_Empty])] [(7, p_state_New_l7), (15, p_state_New_l15), (20, p_state_New_l20), (28, p_state_New_l28)] [] [] [] [(114, i_slices_Chunk_Lint_int_F1)]
def p_state_New_i : Shape := ⟨[.val (.named 4)], []⟩
def p_state_New_o : Shape := ⟨[.val (.named 14)], []⟩
def p_state_New : Spec E := mkSpec p_state_New_c Tryz.f10 p_state_New_i p_state_New_o [.one (.named 4)] [.one (.named 14)] (by kernel_rfl) (by kernel_rfl)
def q_state_New (a1 : Splan_Plan) : Option (Sstate_State × Unit) := p_state_New.F (a1, ())
def p_state_New_r7 (x : (BitVec 64) × Int × Int × Splan_Plan × Int × Int × Int × Int × Int × Int × Int × Int × Int × (BitVec 64) × Int × Stint_Tint × Int × Int × Bool × Bool × Int × Int × Int × Int × Sstate_Detect × Splan_Plan × Int × Stint_Tint × Int × Int × Bool × Bool × Int × Sledger_Ledger × Sstate_Detect × (List (List Int)) × (List (List Int)) × (List (List Scode_Op)) × (List Spick_Pick) × (List (List Int)) × (List (BitVec 64)) × (List (List Int)) × (List Int) × (List Int) × (List Sstate_Worker) × (List Sstate_Mutator) × (List (List Int)) × (List (BitVec 64)) × (List (List Int)) × (List Int) × (List Sstate_Worker) × (List Sstate_Mutator) × Unit) : Option (Stop ((BitVec 64) × Int × Int × Splan_Plan × Int × Int × Int × Int × Int × Int × Int × Int × Int × (BitVec 64) × Int × Stint_Tint × Int × Int × Bool × Bool × Int × Int × Int × Int × Sstate_Detect × Splan_Plan × Int × Stint_Tint × Int × Int × Bool × Bool × Int × Sledger_Ledger × Sstate_Detect × (List (List Int)) × (List (List Int)) × (List (List Scode_Op)) × (List Spick_Pick) × (List (List Int)) × (List (BitVec 64)) × (List (List Int)) × (List Int) × (List Int) × (List Sstate_Worker) × (List Sstate_Mutator) × (List (List Int)) × (List (BitVec 64)) × (List (List Int)) × (List Int) × (List Sstate_Worker) × (List Sstate_Mutator) × Unit) ((BitVec 64) × Splan_Plan × Int × Int × Int × Int × Int × Int × Int × Int × Int × (BitVec 64) × Int × Stint_Tint × Int × Int × Bool × Bool × Int × Int × Int × Int × Sstate_Detect × Splan_Plan × Int × Stint_Tint × Int × Int × Bool × Bool × Int × Sledger_Ledger × Sstate_Detect × (List (List Int)) × (List (List Int)) × (List (List Scode_Op)) × (List Spick_Pick) × (List (List Int)) × (List (BitVec 64)) × (List (List Int)) × (List Int) × (List Int) × (List Sstate_Worker) × (List Sstate_Mutator) × (List (List Int)) × (List (BitVec 64)) × (List (List Int)) × (List Int) × (List Sstate_Worker) × (List Sstate_Mutator) × Unit) (Unit)) := roundBy p_state_New_c (exec p_state_New_c (loopAt Tryz.f10 7)) 150 p_state_New_l7 x
def p_state_New_r15 (x : (BitVec 64) × Int × Int × Splan_Plan × Int × Int × Int × Int × Int × Int × Int × Int × Int × (BitVec 64) × Int × Stint_Tint × Int × Int × Bool × Bool × Int × Int × Int × Int × Sstate_Detect × Splan_Plan × Int × Stint_Tint × Int × Int × Bool × Bool × Int × Sledger_Ledger × Sstate_Detect × (List Int) × (List (List Int)) × (List (List Int)) × (List (List Scode_Op)) × (List Spick_Pick) × (List (List Int)) × (List (BitVec 64)) × (List (List Int)) × (List Int) × (List Int) × (List Sstate_Worker) × (List Sstate_Mutator) × (List (List Int)) × (List (BitVec 64)) × (List (List Int)) × (List Int) × (List Sstate_Worker) × (List Sstate_Mutator) × Unit) : Option (Stop ((BitVec 64) × Int × Int × Splan_Plan × Int × Int × Int × Int × Int × Int × Int × Int × Int × (BitVec 64) × Int × Stint_Tint × Int × Int × Bool × Bool × Int × Int × Int × Int × Sstate_Detect × Splan_Plan × Int × Stint_Tint × Int × Int × Bool × Bool × Int × Sledger_Ledger × Sstate_Detect × (List Int) × (List (List Int)) × (List (List Int)) × (List (List Scode_Op)) × (List Spick_Pick) × (List (List Int)) × (List (BitVec 64)) × (List (List Int)) × (List Int) × (List Int) × (List Sstate_Worker) × (List Sstate_Mutator) × (List (List Int)) × (List (BitVec 64)) × (List (List Int)) × (List Int) × (List Sstate_Worker) × (List Sstate_Mutator) × Unit) ((BitVec 64) × Splan_Plan × Int × Int × Int × Int × Int × Int × Int × Int × Int × (BitVec 64) × Int × Stint_Tint × Int × Int × Bool × Bool × Int × Int × Int × Int × Sstate_Detect × Splan_Plan × Int × Stint_Tint × Int × Int × Bool × Bool × Int × Sledger_Ledger × Sstate_Detect × (List Int) × (List (List Int)) × (List (List Int)) × (List (List Scode_Op)) × (List Spick_Pick) × (List (List Int)) × (List (BitVec 64)) × (List (List Int)) × (List Int) × (List Int) × (List Sstate_Worker) × (List Sstate_Mutator) × (List (List Int)) × (List (BitVec 64)) × (List (List Int)) × (List Int) × (List Sstate_Worker) × (List Sstate_Mutator) × Unit) (Unit)) := roundBy p_state_New_c (exec p_state_New_c (loopAt Tryz.f10 15)) 150 p_state_New_l15 x
def p_state_New_r20 (y : List Int) (x : Splan_Plan × Int × Int × Int × Int × Int × Int × Int × Int × Int × (BitVec 64) × Int × Stint_Tint × Int × Int × Bool × Bool × Int × Int × Int × Int × Sstate_Detect × Splan_Plan × Int × Stint_Tint × Int × Int × Bool × Bool × Int × Sledger_Ledger × Sstate_Detect × (List Int) × (List (List Int)) × (List (List Int)) × (List (List Scode_Op)) × (List Spick_Pick) × (List (List Int)) × (List (BitVec 64)) × (List (List Int)) × (List Int) × (List Int) × (List Sstate_Worker) × (List Sstate_Mutator) × (List (List Int)) × (List (BitVec 64)) × (List (List Int)) × (List Int) × (List Sstate_Worker) × (List Sstate_Mutator) × Unit) : Option (Splan_Plan × Int × Int × Int × Int × Int × Int × Int × Int × Int × (BitVec 64) × Int × Stint_Tint × Int × Int × Bool × Bool × Int × Int × Int × Int × Sstate_Detect × Splan_Plan × Int × Stint_Tint × Int × Int × Bool × Bool × Int × Sledger_Ledger × Sstate_Detect × (List Int) × (List (List Int)) × (List (List Int)) × (List (List Scode_Op)) × (List Spick_Pick) × (List (List Int)) × (List (BitVec 64)) × (List (List Int)) × (List Int) × (List Int) × (List Sstate_Worker) × (List Sstate_Mutator) × (List (List Int)) × (List (BitVec 64)) × (List (List Int)) × (List Int) × (List Sstate_Worker) × (List Sstate_Mutator) × Unit) := roundY p_state_New_c (exec p_state_New_c (asAt Tryz.f10 20)) (exec p_state_New_c (bodyAt Tryz.f10 20)) 150 p_state_New_l20 87 (.slice (.int .i64)) y x
def p_state_New_r28 (x : (List (List Int)) × Int × Int × Int × Int × Int × Int × Int × Int × Int × Int × Int × (BitVec 64) × Int × Stint_Tint × Int × Int × Bool × Bool × Int × Int × Int × Int × Sstate_Detect × Splan_Plan × Int × (List (BitVec 64)) × Stint_Tint × Int × Int × Bool × Bool × Int × Sledger_Ledger × Sstate_Detect × (List (List Int)) × (List (List Int)) × (List (List Scode_Op)) × (List Spick_Pick) × (List (List Int)) × (List (BitVec 64)) × (List (List Int)) × (List Int) × (List Int) × (List Sstate_Worker) × (List Sstate_Mutator) × (List (List Int)) × (List (List Int)) × (List Int) × (List Sstate_Worker) × (List Sstate_Mutator) × Unit) : Option (Stop ((List (List Int)) × Int × Int × Int × Int × Int × Int × Int × Int × Int × Int × Int × (BitVec 64) × Int × Stint_Tint × Int × Int × Bool × Bool × Int × Int × Int × Int × Sstate_Detect × Splan_Plan × Int × (List (BitVec 64)) × Stint_Tint × Int × Int × Bool × Bool × Int × Sledger_Ledger × Sstate_Detect × (List (List Int)) × (List (List Int)) × (List (List Scode_Op)) × (List Spick_Pick) × (List (List Int)) × (List (BitVec 64)) × (List (List Int)) × (List Int) × (List Int) × (List Sstate_Worker) × (List Sstate_Mutator) × (List (List Int)) × (List (List Int)) × (List Int) × (List Sstate_Worker) × (List Sstate_Mutator) × Unit) (Int × Int × Int × Int × Int × Int × Int × Int × Int × (BitVec 64) × Int × Stint_Tint × Int × Int × Bool × Bool × Int × Int × Int × Int × Sstate_Detect × Splan_Plan × Int × (List (BitVec 64)) × Stint_Tint × Int × Int × Bool × Bool × Int × Sledger_Ledger × Sstate_Detect × (List (List Int)) × (List (List Int)) × (List (List Scode_Op)) × (List Spick_Pick) × (List (List Int)) × (List (BitVec 64)) × (List (List Int)) × (List Int) × (List Int) × (List Sstate_Worker) × (List Sstate_Mutator) × (List (List Int)) × (List (List Int)) × (List Int) × (List Sstate_Worker) × (List Sstate_Mutator) × Unit) (Unit)) := roundBy p_state_New_c (exec p_state_New_c (loopAt Tryz.f10 28)) 150 p_state_New_l28 x
def p_grey_Begin_c : Cfg E := mkCfg Tryz.prog tab [] [] [] [] [] []
def p_grey_Begin_i : Shape := ⟨[vI, vI, vI], []⟩
def p_grey_Begin_o : Shape := ⟨[.val (.named 8)], []⟩
def p_grey_Begin : Spec E := mkSpec p_grey_Begin_c Tryz.f12 p_grey_Begin_i p_grey_Begin_o [oI, oI, oI] [.one (.named 8)] (by kernel_rfl) (by kernel_rfl)
def q_grey_Begin (a1 : Int) (a2 : Int) (a3 : Int) : Option (Sstate_Grey × Unit) := p_grey_Begin.F (a1, a2, a3, ())
def p_grey_machine_reserve_v1_c : Cfg E := mkCfg Tryz.prog tab [] [] [] [(0, some 0)] [] []
def p_grey_machine_reserve_v1_i : Shape := ⟨[.ptr 0], [.box true [vI, vI, vI, vI, vI, vI, vI, vI, .val (.int .u64), .val (.int .u64), vI, vI, vI, vI, vI, vI, .val (.int .u64), vI, vI, vI, vI, vI, vI, vI, vI, vI, vI, vI, vI, vI, vI, .val (.slice (.slice (.int .i64))), .val (.int .u64), .val (.slice (.slice (.int .i64))), .val (.slice (.slice (.named 1))), .val (.slice (.named 2)), vI, .val (.slice (.slice (.int .i64))), .val (.slice (.int .u64)), .val (.slice (.slice (.int .i64))), .val (.int .u64), .val (.int .u64), vI, vI, .val .bool, .val .bool, vI, .val (.slice (.int .i64)), vI, vI, vI, .val (.slice (.int .i64)), .val (.slice (.named 9)), .val (.slice (.named 10)), vI, vI]]⟩
def p_grey_machine_reserve_v1_o : Shape := ⟨[], [.box true [vI, vI, vI, vI, vI, vI, vI, vI, .val (.int .u64), .val (.int .u64), vI, vI, vI, vI, vI, vI, .val (.int .u64), vI, vI, vI, vI, vI, vI, vI, vI, vI, vI, vI, vI, vI, vI, .val (.slice (.slice (.int .i64))), .val (.int .u64), .val (.slice (.slice (.int .i64))), .val (.slice (.slice (.named 1))), .val (.slice (.named 2)), vI, .val (.slice (.slice (.int .i64))), .val (.slice (.int .u64)), .val (.slice (.slice (.int .i64))), .val (.int .u64), .val (.int .u64), vI, vI, .val .bool, .val .bool, vI, .val (.slice (.int .i64)), vI, vI, vI, .val (.slice (.int .i64)), .val (.slice (.named 9)), .val (.slice (.named 10)), vI, vI]]⟩
def p_grey_machine_reserve_v1 : Spec E := mkSpec p_grey_machine_reserve_v1_c Tryz.f62 p_grey_machine_reserve_v1_i p_grey_machine_reserve_v1_o [.str 15] [.str 15] (by kernel_rfl) (by kernel_rfl)
def q_grey_machine_reserve_v1 (a1 : Sgrey_machine) : Option (Sgrey_machine × Unit) := p_grey_machine_reserve_v1.F (a1, ())
def p_set_Has_c : Cfg E := mkCfg Tryz.prog tab [(84, [p_set_bit])] [] [] [] [] []
def p_set_Has_i : Shape := ⟨[.val (.int .u64), vI], []⟩
def p_set_Has_o : Shape := ⟨[.val .bool], []⟩
def p_set_Has : Spec E := mkSpec p_set_Has_c Tryz.f140 p_set_Has_i p_set_Has_o [.one (.int .u64), oI] [.one .bool] (by kernel_rfl) (by kernel_rfl)
def q_set_Has (a1 : BitVec 64) (a2 : Int) : Option (Bool × Unit) := p_set_Has.F (a1, a2, ())
def p_tint_Shade_c : Cfg E := mkCfg Tryz.prog tab [(29, [p_set_Add]), (140, [p_set_Has])] [] [] [] [] []
def p_tint_Shade_i : Shape := ⟨[.val (.named 11), vI], []⟩
def p_tint_Shade_o : Shape := ⟨[.val (.named 11), .val .bool], []⟩
def p_tint_Shade : Spec E := mkSpec p_tint_Shade_c Tryz.f120 p_tint_Shade_i p_tint_Shade_o [.one (.named 11), oI] [.one (.named 11), .one .bool] (by kernel_rfl) (by kernel_rfl)
def q_tint_Shade (a1 : Stint_Tint) (a2 : Int) : Option (Stint_Tint × Bool × Unit) := p_tint_Shade.F (a1, a2, ())
def p_chain_Start_c : Cfg E := mkCfg Tryz.prog tab [] [] [] [] [] []
def p_chain_Start_i : Shape := ⟨[vI, vI, vI, vI], []⟩
def p_chain_Start_o : Shape := ⟨[.val (.named 7)], []⟩
def p_chain_Start : Spec E := mkSpec p_chain_Start_c Tryz.f125 p_chain_Start_i p_chain_Start_o [oI, oI, oI, oI] [.one (.named 7)] (by kernel_rfl) (by kernel_rfl)
def q_chain_Start (a1 : Int) (a2 : Int) (a3 : Int) (a4 : Int) : Option (Schain_Machine × Unit) := p_chain_Start.F (a1, a2, a3, a4, ())
def p_grey_machine_ask_v1_c : Cfg E := mkCfg Tryz.prog tab [(36, [p_state_Next]), (53, [p_state_Empty]), (125, [p_chain_Start])] [] [] [(0, some 0)] [] []
def p_grey_machine_ask_v1_i : Shape := ⟨[.ptr 0], [.box true [vI, vI, vI, vI, vI, vI, vI, vI, .val (.int .u64), .val (.int .u64), vI, vI, vI, vI, vI, vI, .val (.int .u64), vI, vI, vI, vI, vI, vI, vI, vI, vI, vI, vI, vI, vI, vI, .val (.slice (.slice (.int .i64))), .val (.int .u64), .val (.slice (.slice (.int .i64))), .val (.slice (.slice (.named 1))), .val (.slice (.named 2)), vI, .val (.slice (.slice (.int .i64))), .val (.slice (.int .u64)), .val (.slice (.slice (.int .i64))), .val (.int .u64), .val (.int .u64), vI, vI, .val .bool, .val .bool, vI, .val (.slice (.int .i64)), vI, vI, vI, .val (.slice (.int .i64)), .val (.slice (.named 9)), .val (.slice (.named 10)), vI, vI]]⟩
def p_grey_machine_ask_v1_o : Shape := ⟨[], [.box true [vI, vI, vI, vI, vI, vI, vI, vI, .val (.int .u64), .val (.int .u64), vI, vI, vI, vI, vI, vI, .val (.int .u64), vI, vI, vI, vI, vI, vI, vI, vI, vI, vI, vI, vI, vI, vI, .val (.slice (.slice (.int .i64))), .val (.int .u64), .val (.slice (.slice (.int .i64))), .val (.slice (.slice (.named 1))), .val (.slice (.named 2)), vI, .val (.slice (.slice (.int .i64))), .val (.slice (.int .u64)), .val (.slice (.slice (.int .i64))), .val (.int .u64), .val (.int .u64), vI, vI, .val .bool, .val .bool, vI, .val (.slice (.int .i64)), vI, vI, vI, .val (.slice (.int .i64)), .val (.slice (.named 9)), .val (.slice (.named 10)), vI, vI]]⟩
def p_grey_machine_ask_v1 : Spec E := mkSpec p_grey_machine_ask_v1_c Tryz.f121 p_grey_machine_ask_v1_i p_grey_machine_ask_v1_o [.str 15] [.str 15] (by kernel_rfl) (by kernel_rfl)
def q_grey_machine_ask_v1 (a1 : Sgrey_machine) : Option (Sgrey_machine × Unit) := p_grey_machine_ask_v1.F (a1, ())
def p_grey_machine_mark_v1_c : Cfg E := mkCfg Tryz.prog tab [(33, [p_state_Deque]), (48, [p_deque_Start]), (120, [p_tint_Shade]), (121, [p_grey_machine_ask_v1])] [] [] [(0, some 0)] [] []
def p_grey_machine_mark_v1_i : Shape := ⟨[.ptr 0], [.box true [vI, vI, vI, vI, vI, vI, vI, vI, .val (.int .u64), .val (.int .u64), vI, vI, vI, vI, vI, vI, .val (.int .u64), vI, vI, vI, vI, vI, vI, vI, vI, vI, vI, vI, vI, vI, vI, .val (.slice (.slice (.int .i64))), .val (.int .u64), .val (.slice (.slice (.int .i64))), .val (.slice (.slice (.named 1))), .val (.slice (.named 2)), vI, .val (.slice (.slice (.int .i64))), .val (.slice (.int .u64)), .val (.slice (.slice (.int .i64))), .val (.int .u64), .val (.int .u64), vI, vI, .val .bool, .val .bool, vI, .val (.slice (.int .i64)), vI, vI, vI, .val (.slice (.int .i64)), .val (.slice (.named 9)), .val (.slice (.named 10)), vI, vI]]⟩
def p_grey_machine_mark_v1_o : Shape := ⟨[], [.box true [vI, vI, vI, vI, vI, vI, vI, vI, .val (.int .u64), .val (.int .u64), vI, vI, vI, vI, vI, vI, .val (.int .u64), vI, vI, vI, vI, vI, vI, vI, vI, vI, vI, vI, vI, vI, vI, .val (.slice (.slice (.int .i64))), .val (.int .u64), .val (.slice (.slice (.int .i64))), .val (.slice (.slice (.named 1))), .val (.slice (.named 2)), vI, .val (.slice (.slice (.int .i64))), .val (.slice (.int .u64)), .val (.slice (.slice (.int .i64))), .val (.int .u64), .val (.int .u64), vI, vI, .val .bool, .val .bool, vI, .val (.slice (.int .i64)), vI, vI, vI, .val (.slice (.int .i64)), .val (.slice (.named 9)), .val (.slice (.named 10)), vI, vI]]⟩
def p_grey_machine_mark_v1 : Spec E := mkSpec p_grey_machine_mark_v1_c Tryz.f63 p_grey_machine_mark_v1_i p_grey_machine_mark_v1_o [.str 15] [.str 15] (by kernel_rfl) (by kernel_rfl)
def q_grey_machine_mark_v1 (a1 : Sgrey_machine) : Option (Sgrey_machine × Unit) := p_grey_machine_mark_v1.F (a1, ())
def p_grey_machine_back_v1_c : Cfg E := mkCfg Tryz.prog tab [] [] [] [(0, some 0)] [] []
def p_grey_machine_back_v1_i : Shape := ⟨[.ptr 0], [.box true [vI, vI, vI, vI, vI, vI, vI, vI, .val (.int .u64), .val (.int .u64), vI, vI, vI, vI, vI, vI, .val (.int .u64), vI, vI, vI, vI, vI, vI, vI, vI, vI, vI, vI, vI, vI, vI, .val (.slice (.slice (.int .i64))), .val (.int .u64), .val (.slice (.slice (.int .i64))), .val (.slice (.slice (.named 1))), .val (.slice (.named 2)), vI, .val (.slice (.slice (.int .i64))), .val (.slice (.int .u64)), .val (.slice (.slice (.int .i64))), .val (.int .u64), .val (.int .u64), vI, vI, .val .bool, .val .bool, vI, .val (.slice (.int .i64)), vI, vI, vI, .val (.slice (.int .i64)), .val (.slice (.named 9)), .val (.slice (.named 10)), vI, vI]]⟩
def p_grey_machine_back_v1_o : Shape := ⟨[], [.box true [vI, vI, vI, vI, vI, vI, vI, vI, .val (.int .u64), .val (.int .u64), vI, vI, vI, vI, vI, vI, .val (.int .u64), vI, vI, vI, vI, vI, vI, vI, vI, vI, vI, vI, vI, vI, vI, .val (.slice (.slice (.int .i64))), .val (.int .u64), .val (.slice (.slice (.int .i64))), .val (.slice (.slice (.named 1))), .val (.slice (.named 2)), vI, .val (.slice (.slice (.int .i64))), .val (.slice (.int .u64)), .val (.slice (.slice (.int .i64))), .val (.int .u64), .val (.int .u64), vI, vI, .val .bool, .val .bool, vI, .val (.slice (.int .i64)), vI, vI, vI, .val (.slice (.int .i64)), .val (.slice (.named 9)), .val (.slice (.named 10)), vI, vI]]⟩
def p_grey_machine_back_v1 : Spec E := mkSpec p_grey_machine_back_v1_c Tryz.f64 p_grey_machine_back_v1_i p_grey_machine_back_v1_o [.str 15] [.str 15] (by kernel_rfl) (by kernel_rfl)
def q_grey_machine_back_v1 (a1 : Sgrey_machine) : Option (Sgrey_machine × Unit) := p_grey_machine_back_v1.F (a1, ())
def p_deque_steps_c : Cfg E := mkCfg Tryz.prog tab [] [] [] [] [] []
def p_deque_steps_i : Shape := ⟨[vI], []⟩
def p_deque_stepsa_o : Shape := ⟨[.bsl 0 4], [.box true [.fn 183 [], .fn 184 [], .fn 185 [], .fn 186 []]]⟩
def p_deque_stepsa : Spec E := mkSpec p_deque_steps_c Tryz.f161 p_deque_steps_i p_deque_stepsa_o [oI] [] (by kernel_rfl) (by kernel_rfl)
def q_deque_stepsa (a1 : Int) : Option (Unit) := p_deque_stepsa.F (a1, ())
def p_deque_stepsb_o : Shape := ⟨[.bsl 0 7], [.box true [.fn 183 [], .fn 187 [], .fn 188 [], .fn 189 [], .fn 190 [], .fn 191 [], .fn 192 []]]⟩
def p_deque_stepsb : Spec E := mkSpec p_deque_steps_c Tryz.f161 p_deque_steps_i p_deque_stepsb_o [oI] [] (by kernel_rfl) (by kernel_rfl)
def q_deque_stepsb (a1 : Int) : Option (Unit) := p_deque_stepsb.F (a1, ())
def p_deque_stepsc_o : Shape := ⟨[.bsl 0 4], [.box true [.fn 193 [], .fn 194 [], .fn 195 [], .fn 196 []]]⟩
def p_deque_stepsc : Spec E := mkSpec p_deque_steps_c Tryz.f161 p_deque_steps_i p_deque_stepsc_o [oI] [] (by kernel_rfl) (by kernel_rfl)
def q_deque_stepsc (a1 : Int) : Option (Unit) := p_deque_stepsc.F (a1, ())
def p_deque_stepsd_o : Shape := ⟨[.own 0], [.row true .bool]⟩
def p_deque_stepsd : Spec E := mkSpec p_deque_steps_c Tryz.f161 p_deque_steps_i p_deque_stepsd_o [oI] [.one (.slice .bool)] (by kernel_rfl) (by kernel_rfl)
def q_deque_stepsd (a1 : Int) : Option ((List Bool) × Unit) := p_deque_stepsd.F (a1, ())
def p_deque_load_c : Cfg E := mkCfg Tryz.prog tab [(141, [p_mem_Do])] [] [] [] [] []
def p_deque_load_i : Shape := ⟨[.val (.slice (.int .u64)), vI], []⟩
def p_deque_load_o : Shape := ⟨[.val (.int .u64)], []⟩
def p_deque_load : Spec E := mkSpec p_deque_load_c Tryz.f86 p_deque_load_i p_deque_load_o [.one (.slice (.int .u64)), oI] [.one (.int .u64)] (by kernel_rfl) (by kernel_rfl)
def q_deque_load (a1 : List (BitVec 64)) (a2 : Int) : Option ((BitVec 64) × Unit) := p_deque_load.F (a1, a2, ())
def p_deque_Machine_bottom_c : Cfg E := mkCfg Tryz.prog tab [] [] [] [] [] []
def p_deque_Machine_bottom_i : Shape := ⟨[.ptr 0], [.box false [vI, vI, vI, vI, .val (.int .u64), .val (.int .u64), vI, vI]]⟩
def p_deque_Machine_bottom_o : Shape := ⟨[vI], [.gone]⟩
def p_deque_Machine_bottom : Spec E := mkSpec p_deque_Machine_bottom_c Tryz.f88 p_deque_Machine_bottom_i p_deque_Machine_bottom_o [.str 6] [oI] (by kernel_rfl) (by kernel_rfl)
def q_deque_Machine_bottom (a1 : Sdeque_Machine) : Option (Int × Unit) := p_deque_Machine_bottom.F (a1, ())
def p_deque_Machine_seeBottom_v1_c : Cfg E := mkCfg Tryz.prog tab [(86, [p_deque_load]), (88, [p_deque_Machine_bottom])] [] [] [(0, some 0)] [] []
def p_deque_Machine_seeBottom_v1_i : Shape := ⟨[.ptr 0, .val (.slice (.int .u64))], [.box true [vI, vI, vI, vI, .val (.int .u64), .val (.int .u64), vI, vI]]⟩
def p_deque_Machine_seeBottom_v1_o : Shape := ⟨[.val (.slice (.int .u64))], [.box true [vI, vI, vI, vI, .val (.int .u64), .val (.int .u64), vI, vI]]⟩
def p_deque_Machine_seeBottom_v1 : Spec E := mkSpec p_deque_Machine_seeBottom_v1_c Tryz.f183 p_deque_Machine_seeBottom_v1_i p_deque_Machine_seeBottom_v1_o [.one (.slice (.int .u64)), .str 6] [.one (.slice (.int .u64)), .str 6] (by kernel_rfl) (by kernel_rfl)
def q_deque_Machine_seeBottom_v1 (a1 : List (BitVec 64)) (a2 : Sdeque_Machine) : Option ((List (BitVec 64)) × Sdeque_Machine × Unit) := p_deque_Machine_seeBottom_v1.F (a1, a2, ())
def p_deque_Machine_top_c : Cfg E := mkCfg Tryz.prog tab [] [] [] [] [] []
def p_deque_Machine_top_i : Shape := ⟨[.ptr 0], [.box false [vI, vI, vI, vI, .val (.int .u64), .val (.int .u64), vI, vI]]⟩
def p_deque_Machine_top_o : Shape := ⟨[vI], [.gone]⟩
def p_deque_Machine_top : Spec E := mkSpec p_deque_Machine_top_c Tryz.f87 p_deque_Machine_top_i p_deque_Machine_top_o [.str 6] [oI] (by kernel_rfl) (by kernel_rfl)
def q_deque_Machine_top (a1 : Sdeque_Machine) : Option (Int × Unit) := p_deque_Machine_top.F (a1, ())
def p_deque_Machine_size_c : Cfg E := mkCfg Tryz.prog tab [] [] [] [] [] []
def p_deque_Machine_size_i : Shape := ⟨[.ptr 0], [.box false [vI, vI, vI, vI, .val (.int .u64), .val (.int .u64), vI, vI]]⟩
def p_deque_Machine_size_o : Shape := ⟨[.val (.int .u64)], [.gone]⟩
def p_deque_Machine_size : Spec E := mkSpec p_deque_Machine_size_c Tryz.f90 p_deque_Machine_size_i p_deque_Machine_size_o [.str 6] [.one (.int .u64)] (by kernel_rfl) (by kernel_rfl)
def q_deque_Machine_size (a1 : Sdeque_Machine) : Option ((BitVec 64) × Unit) := p_deque_Machine_size.F (a1, ())
def p_deque_Machine_end_v1_c : Cfg E := mkCfg Tryz.prog tab [] [] [] [(0, some 0)] [] []
def p_deque_Machine_end_v1_i : Shape := ⟨[.ptr 0, vI], [.box true [vI, vI, vI, vI, .val (.int .u64), .val (.int .u64), vI, vI]]⟩
def p_deque_Machine_end_v1_o : Shape := ⟨[], [.box true [vI, vI, vI, vI, .val (.int .u64), .val (.int .u64), vI, vI]]⟩
def p_deque_Machine_end_v1 : Spec E := mkSpec p_deque_Machine_end_v1_c Tryz.f198 p_deque_Machine_end_v1_i p_deque_Machine_end_v1_o [oI, .str 6] [.str 6] (by kernel_rfl) (by kernel_rfl)
def q_deque_Machine_end_v1 (a1 : Int) (a2 : Sdeque_Machine) : Option (Sdeque_Machine × Unit) := p_deque_Machine_end_v1.F (a1, a2, ())
def p_deque_Machine_room_v1_c : Cfg E := mkCfg Tryz.prog tab [(86, [p_deque_load]), (87, [p_deque_Machine_top]), (90, [p_deque_Machine_size]), (198, [p_deque_Machine_end_v1])] [] [] [(0, some 0)] [] []
def p_deque_Machine_room_v1_i : Shape := ⟨[.ptr 0, .val (.slice (.int .u64))], [.box true [vI, vI, vI, vI, .val (.int .u64), .val (.int .u64), vI, vI]]⟩
def p_deque_Machine_room_v1_o : Shape := ⟨[.val (.slice (.int .u64))], [.box true [vI, vI, vI, vI, .val (.int .u64), .val (.int .u64), vI, vI]]⟩
def p_deque_Machine_room_v1 : Spec E := mkSpec p_deque_Machine_room_v1_c Tryz.f184 p_deque_Machine_room_v1_i p_deque_Machine_room_v1_o [.one (.slice (.int .u64)), .str 6] [.one (.slice (.int .u64)), .str 6] (by kernel_rfl) (by kernel_rfl)
def q_deque_Machine_room_v1 (a1 : List (BitVec 64)) (a2 : Sdeque_Machine) : Option ((List (BitVec 64)) × Sdeque_Machine × Unit) := p_deque_Machine_room_v1.F (a1, a2, ())
def p_deque_Machine_place_c : Cfg E := mkCfg Tryz.prog tab [(90, [p_deque_Machine_size])] [] [] [] [] []
def p_deque_Machine_place_i : Shape := ⟨[.ptr 0, .val (.int .u64)], [.box false [vI, vI, vI, vI, .val (.int .u64), .val (.int .u64), vI, vI]]⟩
def p_deque_Machine_place_o : Shape := ⟨[vI], [.gone]⟩
def p_deque_Machine_place : Spec E := mkSpec p_deque_Machine_place_c Tryz.f91 p_deque_Machine_place_i p_deque_Machine_place_o [.one (.int .u64), .str 6] [oI] (by kernel_rfl) (by kernel_rfl)
def q_deque_Machine_place (a1 : BitVec 64) (a2 : Sdeque_Machine) : Option (Int × Unit) := p_deque_Machine_place.F (a1, a2, ())
def p_deque_store_c : Cfg E := mkCfg Tryz.prog tab [(141, [p_mem_Do])] [] [] [] [] []
def p_deque_store_i : Shape := ⟨[.val (.slice (.int .u64)), vI, .val (.int .u64)], []⟩
def p_deque_store_o : Shape := ⟨[.val (.slice (.int .u64))], []⟩
def p_deque_store : Spec E := mkSpec p_deque_store_c Tryz.f199 p_deque_store_i p_deque_store_o [.one (.slice (.int .u64)), oI, .one (.int .u64)] [.one (.slice (.int .u64))] (by kernel_rfl) (by kernel_rfl)
def q_deque_store (a1 : List (BitVec 64)) (a2 : Int) (a3 : BitVec 64) : Option ((List (BitVec 64)) × Unit) := p_deque_store.F (a1, a2, a3, ())
def p_deque_Machine_put_c : Cfg E := mkCfg Tryz.prog tab [(91, [p_deque_Machine_place]), (199, [p_deque_store])] [] [] [] [] []
def p_deque_Machine_put_i : Shape := ⟨[.ptr 0, .val (.slice (.int .u64))], [.box false [vI, vI, vI, vI, .val (.int .u64), .val (.int .u64), vI, vI]]⟩
def p_deque_Machine_put_o : Shape := ⟨[.val (.slice (.int .u64))], [.gone]⟩
def p_deque_Machine_put : Spec E := mkSpec p_deque_Machine_put_c Tryz.f185 p_deque_Machine_put_i p_deque_Machine_put_o [.one (.slice (.int .u64)), .str 6] [.one (.slice (.int .u64))] (by kernel_rfl) (by kernel_rfl)
def q_deque_Machine_put (a1 : List (BitVec 64)) (a2 : Sdeque_Machine) : Option ((List (BitVec 64)) × Unit) := p_deque_Machine_put.F (a1, a2, ())
def p_deque_Machine_publish_v1_c : Cfg E := mkCfg Tryz.prog tab [(88, [p_deque_Machine_bottom]), (198, [p_deque_Machine_end_v1]), (199, [p_deque_store])] [] [] [(0, some 0)] [] []
def p_deque_Machine_publish_v1_i : Shape := ⟨[.ptr 0, .val (.slice (.int .u64))], [.box true [vI, vI, vI, vI, .val (.int .u64), .val (.int .u64), vI, vI]]⟩
def p_deque_Machine_publish_v1_o : Shape := ⟨[.val (.slice (.int .u64))], [.box true [vI, vI, vI, vI, .val (.int .u64), .val (.int .u64), vI, vI]]⟩
def p_deque_Machine_publish_v1 : Spec E := mkSpec p_deque_Machine_publish_v1_c Tryz.f186 p_deque_Machine_publish_v1_i p_deque_Machine_publish_v1_o [.one (.slice (.int .u64)), .str 6] [.one (.slice (.int .u64)), .str 6] (by kernel_rfl) (by kernel_rfl)
def q_deque_Machine_publish_v1 (a1 : List (BitVec 64)) (a2 : Sdeque_Machine) : Option ((List (BitVec 64)) × Sdeque_Machine × Unit) := p_deque_Machine_publish_v1.F (a1, a2, ())
def p_deque_Machine_claim_c : Cfg E := mkCfg Tryz.prog tab [(88, [p_deque_Machine_bottom]), (199, [p_deque_store])] [] [] [] [] []
def p_deque_Machine_claim_i : Shape := ⟨[.ptr 0, .val (.slice (.int .u64))], [.box false [vI, vI, vI, vI, .val (.int .u64), .val (.int .u64), vI, vI]]⟩
def p_deque_Machine_claim_o : Shape := ⟨[.val (.slice (.int .u64))], [.gone]⟩
def p_deque_Machine_claim : Spec E := mkSpec p_deque_Machine_claim_c Tryz.f187 p_deque_Machine_claim_i p_deque_Machine_claim_o [.one (.slice (.int .u64)), .str 6] [.one (.slice (.int .u64))] (by kernel_rfl) (by kernel_rfl)
def q_deque_Machine_claim (a1 : List (BitVec 64)) (a2 : Sdeque_Machine) : Option ((List (BitVec 64)) × Unit) := p_deque_Machine_claim.F (a1, a2, ())
def p_deque_above_c : Cfg E := mkCfg Tryz.prog tab [] [] [] [] [] []
def p_deque_above_i : Shape := ⟨[.val (.int .u64), .val (.int .u64)], []⟩
def p_deque_above_o : Shape := ⟨[.val .bool], []⟩
def p_deque_above : Spec E := mkSpec p_deque_above_c Tryz.f89 p_deque_above_i p_deque_above_o [.one (.int .u64), .one (.int .u64)] [.one .bool] (by kernel_rfl) (by kernel_rfl)
def q_deque_above (a1 : BitVec 64) (a2 : BitVec 64) : Option (Bool × Unit) := p_deque_above.F (a1, a2, ())
def p_deque_Machine_seeTop_v1_c : Cfg E := mkCfg Tryz.prog tab [(86, [p_deque_load]), (87, [p_deque_Machine_top]), (89, [p_deque_above])] [] [] [(0, some 0)] [] []
def p_deque_Machine_seeTop_v1_i : Shape := ⟨[.ptr 0, .val (.slice (.int .u64))], [.box true [vI, vI, vI, vI, .val (.int .u64), .val (.int .u64), vI, vI]]⟩
def p_deque_Machine_seeTop_v1_o : Shape := ⟨[.val (.slice (.int .u64))], [.box true [vI, vI, vI, vI, .val (.int .u64), .val (.int .u64), vI, vI]]⟩
def p_deque_Machine_seeTop_v1 : Spec E := mkSpec p_deque_Machine_seeTop_v1_c Tryz.f188 p_deque_Machine_seeTop_v1_i p_deque_Machine_seeTop_v1_o [.one (.slice (.int .u64)), .str 6] [.one (.slice (.int .u64)), .str 6] (by kernel_rfl) (by kernel_rfl)
def q_deque_Machine_seeTop_v1 (a1 : List (BitVec 64)) (a2 : Sdeque_Machine) : Option ((List (BitVec 64)) × Sdeque_Machine × Unit) := p_deque_Machine_seeTop_v1.F (a1, a2, ())
def p_deque_Machine_get_v1_c : Cfg E := mkCfg Tryz.prog tab [(86, [p_deque_load]), (91, [p_deque_Machine_place]), (198, [p_deque_Machine_end_v1])] [] [] [(0, some 0)] [] []
def p_deque_Machine_get_v1_i : Shape := ⟨[.ptr 0, .val (.slice (.int .u64))], [.box true [vI, vI, vI, vI, .val (.int .u64), .val (.int .u64), vI, vI]]⟩
def p_deque_Machine_get_v1_o : Shape := ⟨[.val (.slice (.int .u64))], [.box true [vI, vI, vI, vI, .val (.int .u64), .val (.int .u64), vI, vI]]⟩
def p_deque_Machine_get_v1 : Spec E := mkSpec p_deque_Machine_get_v1_c Tryz.f189 p_deque_Machine_get_v1_i p_deque_Machine_get_v1_o [.one (.slice (.int .u64)), .str 6] [.one (.slice (.int .u64)), .str 6] (by kernel_rfl) (by kernel_rfl)
def q_deque_Machine_get_v1 (a1 : List (BitVec 64)) (a2 : Sdeque_Machine) : Option ((List (BitVec 64)) × Sdeque_Machine × Unit) := p_deque_Machine_get_v1.F (a1, a2, ())
def p_deque_Machine_take_c : Cfg E := mkCfg Tryz.prog tab [(87, [p_deque_Machine_top]), (141, [p_mem_Do])] [] [] [] [] []
def p_deque_Machine_take_i : Shape := ⟨[.ptr 0, .val (.slice (.int .u64))], [.box false [vI, vI, vI, vI, .val (.int .u64), .val (.int .u64), vI, vI]]⟩
def p_deque_Machine_take_o : Shape := ⟨[.val (.slice (.int .u64)), .val .bool], [.gone]⟩
def p_deque_Machine_take : Spec E := mkSpec p_deque_Machine_take_c Tryz.f200 p_deque_Machine_take_i p_deque_Machine_take_o [.one (.slice (.int .u64)), .str 6] [.one (.slice (.int .u64)), .one .bool] (by kernel_rfl) (by kernel_rfl)
def q_deque_Machine_take (a1 : List (BitVec 64)) (a2 : Sdeque_Machine) : Option ((List (BitVec 64)) × Bool × Unit) := p_deque_Machine_take.F (a1, a2, ())
def p_deque_Machine_race_v1_c : Cfg E := mkCfg Tryz.prog tab [(200, [p_deque_Machine_take])] [] [] [(0, some 0)] [] []
def p_deque_Machine_race_v1_i : Shape := ⟨[.ptr 0, .val (.slice (.int .u64))], [.box true [vI, vI, vI, vI, .val (.int .u64), .val (.int .u64), vI, vI]]⟩
def p_deque_Machine_race_v1_o : Shape := ⟨[.val (.slice (.int .u64))], [.box true [vI, vI, vI, vI, .val (.int .u64), .val (.int .u64), vI, vI]]⟩
def p_deque_Machine_race_v1 : Spec E := mkSpec p_deque_Machine_race_v1_c Tryz.f190 p_deque_Machine_race_v1_i p_deque_Machine_race_v1_o [.one (.slice (.int .u64)), .str 6] [.one (.slice (.int .u64)), .str 6] (by kernel_rfl) (by kernel_rfl)
def q_deque_Machine_race_v1 (a1 : List (BitVec 64)) (a2 : Sdeque_Machine) : Option ((List (BitVec 64)) × Sdeque_Machine × Unit) := p_deque_Machine_race_v1.F (a1, a2, ())
def p_deque_Machine_fail_v1_c : Cfg E := mkCfg Tryz.prog tab [(88, [p_deque_Machine_bottom]), (198, [p_deque_Machine_end_v1]), (199, [p_deque_store])] [] [] [(0, some 0)] [] []
def p_deque_Machine_fail_v1_i : Shape := ⟨[.ptr 0, .val (.slice (.int .u64))], [.box true [vI, vI, vI, vI, .val (.int .u64), .val (.int .u64), vI, vI]]⟩
def p_deque_Machine_fail_v1_o : Shape := ⟨[.val (.slice (.int .u64))], [.box true [vI, vI, vI, vI, .val (.int .u64), .val (.int .u64), vI, vI]]⟩
def p_deque_Machine_fail_v1 : Spec E := mkSpec p_deque_Machine_fail_v1_c Tryz.f191 p_deque_Machine_fail_v1_i p_deque_Machine_fail_v1_o [.one (.slice (.int .u64)), .str 6] [.one (.slice (.int .u64)), .str 6] (by kernel_rfl) (by kernel_rfl)
def q_deque_Machine_fail_v1 (a1 : List (BitVec 64)) (a2 : Sdeque_Machine) : Option ((List (BitVec 64)) × Sdeque_Machine × Unit) := p_deque_Machine_fail_v1.F (a1, a2, ())
def p_deque_Machine_won_v1_c : Cfg E := mkCfg Tryz.prog tab [(88, [p_deque_Machine_bottom]), (198, [p_deque_Machine_end_v1]), (199, [p_deque_store])] [] [] [(0, some 0)] [] []
def p_deque_Machine_won_v1_i : Shape := ⟨[.ptr 0, .val (.slice (.int .u64))], [.box true [vI, vI, vI, vI, .val (.int .u64), .val (.int .u64), vI, vI]]⟩
def p_deque_Machine_won_v1_o : Shape := ⟨[.val (.slice (.int .u64))], [.box true [vI, vI, vI, vI, .val (.int .u64), .val (.int .u64), vI, vI]]⟩
def p_deque_Machine_won_v1 : Spec E := mkSpec p_deque_Machine_won_v1_c Tryz.f192 p_deque_Machine_won_v1_i p_deque_Machine_won_v1_o [.one (.slice (.int .u64)), .str 6] [.one (.slice (.int .u64)), .str 6] (by kernel_rfl) (by kernel_rfl)
def q_deque_Machine_won_v1 (a1 : List (BitVec 64)) (a2 : Sdeque_Machine) : Option ((List (BitVec 64)) × Sdeque_Machine × Unit) := p_deque_Machine_won_v1.F (a1, a2, ())
def p_deque_Machine_aim_v1_c : Cfg E := mkCfg Tryz.prog tab [(86, [p_deque_load]), (87, [p_deque_Machine_top])] [] [] [(0, some 0)] [] []
def p_deque_Machine_aim_v1_i : Shape := ⟨[.ptr 0, .val (.slice (.int .u64))], [.box true [vI, vI, vI, vI, .val (.int .u64), .val (.int .u64), vI, vI]]⟩
def p_deque_Machine_aim_v1_o : Shape := ⟨[.val (.slice (.int .u64))], [.box true [vI, vI, vI, vI, .val (.int .u64), .val (.int .u64), vI, vI]]⟩
def p_deque_Machine_aim_v1 : Spec E := mkSpec p_deque_Machine_aim_v1_c Tryz.f193 p_deque_Machine_aim_v1_i p_deque_Machine_aim_v1_o [.one (.slice (.int .u64)), .str 6] [.one (.slice (.int .u64)), .str 6] (by kernel_rfl) (by kernel_rfl)
def q_deque_Machine_aim_v1 (a1 : List (BitVec 64)) (a2 : Sdeque_Machine) : Option ((List (BitVec 64)) × Sdeque_Machine × Unit) := p_deque_Machine_aim_v1.F (a1, a2, ())
def p_deque_Machine_any_v1_c : Cfg E := mkCfg Tryz.prog tab [(86, [p_deque_load]), (88, [p_deque_Machine_bottom]), (89, [p_deque_above])] [] [] [(0, some 0)] [] []
def p_deque_Machine_any_v1_i : Shape := ⟨[.ptr 0, .val (.slice (.int .u64))], [.box true [vI, vI, vI, vI, .val (.int .u64), .val (.int .u64), vI, vI]]⟩
def p_deque_Machine_any_v1_o : Shape := ⟨[.val (.slice (.int .u64))], [.box true [vI, vI, vI, vI, .val (.int .u64), .val (.int .u64), vI, vI]]⟩
def p_deque_Machine_any_v1 : Spec E := mkSpec p_deque_Machine_any_v1_c Tryz.f194 p_deque_Machine_any_v1_i p_deque_Machine_any_v1_o [.one (.slice (.int .u64)), .str 6] [.one (.slice (.int .u64)), .str 6] (by kernel_rfl) (by kernel_rfl)
def q_deque_Machine_any_v1 (a1 : List (BitVec 64)) (a2 : Sdeque_Machine) : Option ((List (BitVec 64)) × Sdeque_Machine × Unit) := p_deque_Machine_any_v1.F (a1, a2, ())
def p_deque_Machine_peek_v1_c : Cfg E := mkCfg Tryz.prog tab [(86, [p_deque_load]), (91, [p_deque_Machine_place])] [] [] [(0, some 0)] [] []
def p_deque_Machine_peek_v1_i : Shape := ⟨[.ptr 0, .val (.slice (.int .u64))], [.box true [vI, vI, vI, vI, .val (.int .u64), .val (.int .u64), vI, vI]]⟩
def p_deque_Machine_peek_v1_o : Shape := ⟨[.val (.slice (.int .u64))], [.box true [vI, vI, vI, vI, .val (.int .u64), .val (.int .u64), vI, vI]]⟩
def p_deque_Machine_peek_v1 : Spec E := mkSpec p_deque_Machine_peek_v1_c Tryz.f195 p_deque_Machine_peek_v1_i p_deque_Machine_peek_v1_o [.one (.slice (.int .u64)), .str 6] [.one (.slice (.int .u64)), .str 6] (by kernel_rfl) (by kernel_rfl)
def q_deque_Machine_peek_v1 (a1 : List (BitVec 64)) (a2 : Sdeque_Machine) : Option ((List (BitVec 64)) × Sdeque_Machine × Unit) := p_deque_Machine_peek_v1.F (a1, a2, ())
def p_deque_Machine_snatch_v1_c : Cfg E := mkCfg Tryz.prog tab [(198, [p_deque_Machine_end_v1]), (200, [p_deque_Machine_take])] [] [] [(0, some 0)] [] []
def p_deque_Machine_snatch_v1_i : Shape := ⟨[.ptr 0, .val (.slice (.int .u64))], [.box true [vI, vI, vI, vI, .val (.int .u64), .val (.int .u64), vI, vI]]⟩
def p_deque_Machine_snatch_v1_o : Shape := ⟨[.val (.slice (.int .u64))], [.box true [vI, vI, vI, vI, .val (.int .u64), .val (.int .u64), vI, vI]]⟩
def p_deque_Machine_snatch_v1 : Spec E := mkSpec p_deque_Machine_snatch_v1_c Tryz.f196 p_deque_Machine_snatch_v1_i p_deque_Machine_snatch_v1_o [.one (.slice (.int .u64)), .str 6] [.one (.slice (.int .u64)), .str 6] (by kernel_rfl) (by kernel_rfl)
def q_deque_Machine_snatch_v1 (a1 : List (BitVec 64)) (a2 : Sdeque_Machine) : Option ((List (BitVec 64)) × Sdeque_Machine × Unit) := p_deque_Machine_snatch_v1.F (a1, a2, ())
def p_deque_Step_c : Cfg E := mkCfg Tryz.prog tab [(161, [p_deque_stepsa, p_deque_stepsb, p_deque_stepsc, p_deque_stepsd]), (183, [p_deque_Machine_seeBottom_v1]), (184, [p_deque_Machine_room_v1]), (185, [p_deque_Machine_put]), (186, [p_deque_Machine_publish_v1]), (187, [p_deque_Machine_claim]), (188, [p_deque_Machine_seeTop_v1]), (189, [p_deque_Machine_get_v1]), (190, [p_deque_Machine_race_v1]), (191, [p_deque_Machine_fail_v1]), (192, [p_deque_Machine_won_v1]), (193, [p_deque_Machine_aim_v1]), (194, [p_deque_Machine_any_v1]), (195, [p_deque_Machine_peek_v1]), (196, [p_deque_Machine_snatch_v1])] [] [] [] [(1, 2, [0, 1, 2, 3])] []
def p_deque_Step_i : Shape := ⟨[.val (.slice (.int .u64)), .val (.named 6)], []⟩
def p_deque_Step_o : Shape := ⟨[.val (.slice (.int .u64)), .val (.named 6)], []⟩
def p_deque_Step : Spec E := mkSpec p_deque_Step_c Tryz.f122 p_deque_Step_i p_deque_Step_o [.one (.slice (.int .u64)), .one (.named 6)] [.one (.slice (.int .u64)), .one (.named 6)] (by kernel_rfl) (by kernel_rfl)
def q_deque_Step (a1 : List (BitVec 64)) (a2 : Sdeque_Machine) : Option ((List (BitVec 64)) × Sdeque_Machine × Unit) := p_deque_Step.F (a1, a2, ())
def p_grey_machine_push_v1_c : Cfg E := mkCfg Tryz.prog tab [(121, [p_grey_machine_ask_v1]), (122, [p_deque_Step])] [] [] [(0, some 0)] [] []
def p_grey_machine_push_v1_i : Shape := ⟨[.ptr 0], [.box true [vI, vI, vI, vI, vI, vI, vI, vI, .val (.int .u64), .val (.int .u64), vI, vI, vI, vI, vI, vI, .val (.int .u64), vI, vI, vI, vI, vI, vI, vI, vI, vI, vI, vI, vI, vI, vI, .val (.slice (.slice (.int .i64))), .val (.int .u64), .val (.slice (.slice (.int .i64))), .val (.slice (.slice (.named 1))), .val (.slice (.named 2)), vI, .val (.slice (.slice (.int .i64))), .val (.slice (.int .u64)), .val (.slice (.slice (.int .i64))), .val (.int .u64), .val (.int .u64), vI, vI, .val .bool, .val .bool, vI, .val (.slice (.int .i64)), vI, vI, vI, .val (.slice (.int .i64)), .val (.slice (.named 9)), .val (.slice (.named 10)), vI, vI]]⟩
def p_grey_machine_push_v1_o : Shape := ⟨[], [.box true [vI, vI, vI, vI, vI, vI, vI, vI, .val (.int .u64), .val (.int .u64), vI, vI, vI, vI, vI, vI, .val (.int .u64), vI, vI, vI, vI, vI, vI, vI, vI, vI, vI, vI, vI, vI, vI, .val (.slice (.slice (.int .i64))), .val (.int .u64), .val (.slice (.slice (.int .i64))), .val (.slice (.slice (.named 1))), .val (.slice (.named 2)), vI, .val (.slice (.slice (.int .i64))), .val (.slice (.int .u64)), .val (.slice (.slice (.int .i64))), .val (.int .u64), .val (.int .u64), vI, vI, .val .bool, .val .bool, vI, .val (.slice (.int .i64)), vI, vI, vI, .val (.slice (.int .i64)), .val (.slice (.named 9)), .val (.slice (.named 10)), vI, vI]]⟩
def p_grey_machine_push_v1 : Spec E := mkSpec p_grey_machine_push_v1_c Tryz.f65 p_grey_machine_push_v1_i p_grey_machine_push_v1_o [.str 15] [.str 15] (by kernel_rfl) (by kernel_rfl)
def q_grey_machine_push_v1 (a1 : Sgrey_machine) : Option (Sgrey_machine × Unit) := p_grey_machine_push_v1.F (a1, ())
def p_grey_machine_tell_v1_c : Cfg E := mkCfg Tryz.prog tab [(121, [p_grey_machine_ask_v1])] [] [] [(0, some 0)] [] []
def p_grey_machine_tell_v1_i : Shape := ⟨[.ptr 0], [.box true [vI, vI, vI, vI, vI, vI, vI, vI, .val (.int .u64), .val (.int .u64), vI, vI, vI, vI, vI, vI, .val (.int .u64), vI, vI, vI, vI, vI, vI, vI, vI, vI, vI, vI, vI, vI, vI, .val (.slice (.slice (.int .i64))), .val (.int .u64), .val (.slice (.slice (.int .i64))), .val (.slice (.slice (.named 1))), .val (.slice (.named 2)), vI, .val (.slice (.slice (.int .i64))), .val (.slice (.int .u64)), .val (.slice (.slice (.int .i64))), .val (.int .u64), .val (.int .u64), vI, vI, .val .bool, .val .bool, vI, .val (.slice (.int .i64)), vI, vI, vI, .val (.slice (.int .i64)), .val (.slice (.named 9)), .val (.slice (.named 10)), vI, vI]]⟩
def p_grey_machine_tell_v1_o : Shape := ⟨[], [.box true [vI, vI, vI, vI, vI, vI, vI, vI, .val (.int .u64), .val (.int .u64), vI, vI, vI, vI, vI, vI, .val (.int .u64), vI, vI, vI, vI, vI, vI, vI, vI, vI, vI, vI, vI, vI, vI, .val (.slice (.slice (.int .i64))), .val (.int .u64), .val (.slice (.slice (.int .i64))), .val (.slice (.slice (.named 1))), .val (.slice (.named 2)), vI, .val (.slice (.slice (.int .i64))), .val (.slice (.int .u64)), .val (.slice (.slice (.int .i64))), .val (.int .u64), .val (.int .u64), vI, vI, .val .bool, .val .bool, vI, .val (.slice (.int .i64)), vI, vI, vI, .val (.slice (.int .i64)), .val (.slice (.named 9)), .val (.slice (.named 10)), vI, vI]]⟩
def p_grey_machine_tell_v1 : Spec E := mkSpec p_grey_machine_tell_v1_c Tryz.f66 p_grey_machine_tell_v1_i p_grey_machine_tell_v1_o [.str 15] [.str 15] (by kernel_rfl) (by kernel_rfl)
def q_grey_machine_tell_v1 (a1 : Sgrey_machine) : Option (Sgrey_machine × Unit) := p_grey_machine_tell_v1.F (a1, ())
def p_chain_Node_c : Cfg E := mkCfg Tryz.prog tab [] [] [] [] [] []
def p_chain_Node_i : Shape := ⟨[.val (.int .u64)], []⟩
def p_chain_Node_o : Shape := ⟨[vI], []⟩
def p_chain_Node : Spec E := mkSpec p_chain_Node_c Tryz.f92 p_chain_Node_i p_chain_Node_o [.one (.int .u64)] [oI] (by kernel_rfl) (by kernel_rfl)
def q_chain_Node (a1 : BitVec 64) : Option (Int × Unit) := p_chain_Node.F (a1, ())
def p_chain_load_c : Cfg E := mkCfg Tryz.prog tab [(141, [p_mem_Do])] [] [] [] [] []
def p_chain_load_i : Shape := ⟨[.val (.slice (.int .u64)), vI], []⟩
def p_chain_load_o : Shape := ⟨[.val (.int .u64)], []⟩
def p_chain_load : Spec E := mkSpec p_chain_load_c Tryz.f93 p_chain_load_i p_chain_load_o [.one (.slice (.int .u64)), oI] [.one (.int .u64)] (by kernel_rfl) (by kernel_rfl)
def q_chain_load (a1 : List (BitVec 64)) (a2 : Int) : Option ((BitVec 64) × Unit) := p_chain_load.F (a1, a2, ())
def p_chain_Machine_see_v1_c : Cfg E := mkCfg Tryz.prog tab [(92, [p_chain_Node]), (93, [p_chain_load])] [] [] [(0, some 0)] [] []
def p_chain_Machine_see_v1_i : Shape := ⟨[.ptr 0, .val (.slice (.int .u64))], [.box true [vI, vI, vI, vI, .val (.int .u64), vI, vI, vI]]⟩
def p_chain_Machine_see_v1_o : Shape := ⟨[.val (.slice (.int .u64))], [.box true [vI, vI, vI, vI, .val (.int .u64), vI, vI, vI]]⟩
def p_chain_Machine_see_v1 : Spec E := mkSpec p_chain_Machine_see_v1_c Tryz.f162 p_chain_Machine_see_v1_i p_chain_Machine_see_v1_o [.one (.slice (.int .u64)), .str 7] [.one (.slice (.int .u64)), .str 7] (by kernel_rfl) (by kernel_rfl)
def q_chain_Machine_see_v1 (a1 : List (BitVec 64)) (a2 : Schain_Machine) : Option ((List (BitVec 64)) × Schain_Machine × Unit) := p_chain_Machine_see_v1.F (a1, a2, ())
def p_chain_Machine_link_c : Cfg E := mkCfg Tryz.prog tab [(92, [p_chain_Node]), (116, [p_chain_store])] [] [] [] [] []
def p_chain_Machine_link_i : Shape := ⟨[.ptr 0, .val (.slice (.int .u64))], [.box false [vI, vI, vI, vI, .val (.int .u64), vI, vI, vI]]⟩
def p_chain_Machine_link_o : Shape := ⟨[.val (.slice (.int .u64))], [.gone]⟩
def p_chain_Machine_link : Spec E := mkSpec p_chain_Machine_link_c Tryz.f163 p_chain_Machine_link_i p_chain_Machine_link_o [.one (.slice (.int .u64)), .str 7] [.one (.slice (.int .u64))] (by kernel_rfl) (by kernel_rfl)
def q_chain_Machine_link (a1 : List (BitVec 64)) (a2 : Schain_Machine) : Option ((List (BitVec 64)) × Unit) := p_chain_Machine_link.F (a1, a2, ())
def p_chain_Machine_swap_v1_c : Cfg E := mkCfg Tryz.prog tab [(92, [p_chain_Node]), (117, [p_chain_Pack]), (141, [p_mem_Do])] [] [] [(0, some 0)] [] []
def p_chain_Machine_swap_v1_i : Shape := ⟨[.ptr 0, .val (.slice (.int .u64))], [.box true [vI, vI, vI, vI, .val (.int .u64), vI, vI, vI]]⟩
def p_chain_Machine_swap_v1_o : Shape := ⟨[.val (.slice (.int .u64))], [.box true [vI, vI, vI, vI, .val (.int .u64), vI, vI, vI]]⟩
def p_chain_Machine_swap_v1 : Spec E := mkSpec p_chain_Machine_swap_v1_c Tryz.f164 p_chain_Machine_swap_v1_i p_chain_Machine_swap_v1_o [.one (.slice (.int .u64)), .str 7] [.one (.slice (.int .u64)), .str 7] (by kernel_rfl) (by kernel_rfl)
def q_chain_Machine_swap_v1 (a1 : List (BitVec 64)) (a2 : Schain_Machine) : Option ((List (BitVec 64)) × Schain_Machine × Unit) := p_chain_Machine_swap_v1.F (a1, a2, ())
def p_chain_Machine_behind_v1_c : Cfg E := mkCfg Tryz.prog tab [(92, [p_chain_Node]), (93, [p_chain_load])] [] [] [(0, some 0)] [] []
def p_chain_Machine_behind_v1_i : Shape := ⟨[.ptr 0, .val (.slice (.int .u64))], [.box true [vI, vI, vI, vI, .val (.int .u64), vI, vI, vI]]⟩
def p_chain_Machine_behind_v1_o : Shape := ⟨[.val (.slice (.int .u64))], [.box true [vI, vI, vI, vI, .val (.int .u64), vI, vI, vI]]⟩
def p_chain_Machine_behind_v1 : Spec E := mkSpec p_chain_Machine_behind_v1_c Tryz.f165 p_chain_Machine_behind_v1_i p_chain_Machine_behind_v1_o [.one (.slice (.int .u64)), .str 7] [.one (.slice (.int .u64)), .str 7] (by kernel_rfl) (by kernel_rfl)
def q_chain_Machine_behind_v1 (a1 : List (BitVec 64)) (a2 : Schain_Machine) : Option ((List (BitVec 64)) × Schain_Machine × Unit) := p_chain_Machine_behind_v1.F (a1, a2, ())
def p_chain_Step_c : Cfg E := mkCfg Tryz.prog tab [(162, [p_chain_Machine_see_v1]), (163, [p_chain_Machine_link]), (164, [p_chain_Machine_swap_v1]), (165, [p_chain_Machine_behind_v1])] [] [] [] [] []
def p_chain_Step_i : Shape := ⟨[.val (.slice (.int .u64)), .val (.named 7)], []⟩
def p_chain_Step_o : Shape := ⟨[.val (.slice (.int .u64)), .val (.named 7)], []⟩
def p_chain_Step : Spec E := mkSpec p_chain_Step_c Tryz.f123 p_chain_Step_i p_chain_Step_o [.one (.slice (.int .u64)), .one (.named 7)] [.one (.slice (.int .u64)), .one (.named 7)] (by kernel_rfl) (by kernel_rfl)
def q_chain_Step (a1 : List (BitVec 64)) (a2 : Schain_Machine) : Option ((List (BitVec 64)) × Schain_Machine × Unit) := p_chain_Step.F (a1, a2, ())
def p_grey_machine_take_v1_c : Cfg E := mkCfg Tryz.prog tab [(121, [p_grey_machine_ask_v1]), (123, [p_chain_Step])] [] [] [(0, some 0)] [] []
def p_grey_machine_take_v1_i : Shape := ⟨[.ptr 0], [.box true [vI, vI, vI, vI, vI, vI, vI, vI, .val (.int .u64), .val (.int .u64), vI, vI, vI, vI, vI, vI, .val (.int .u64), vI, vI, vI, vI, vI, vI, vI, vI, vI, vI, vI, vI, vI, vI, .val (.slice (.slice (.int .i64))), .val (.int .u64), .val (.slice (.slice (.int .i64))), .val (.slice (.slice (.named 1))), .val (.slice (.named 2)), vI, .val (.slice (.slice (.int .i64))), .val (.slice (.int .u64)), .val (.slice (.slice (.int .i64))), .val (.int .u64), .val (.int .u64), vI, vI, .val .bool, .val .bool, vI, .val (.slice (.int .i64)), vI, vI, vI, .val (.slice (.int .i64)), .val (.slice (.named 9)), .val (.slice (.named 10)), vI, vI]]⟩
def p_grey_machine_take_v1_o : Shape := ⟨[], [.box true [vI, vI, vI, vI, vI, vI, vI, vI, .val (.int .u64), .val (.int .u64), vI, vI, vI, vI, vI, vI, .val (.int .u64), vI, vI, vI, vI, vI, vI, vI, vI, vI, vI, vI, vI, vI, vI, .val (.slice (.slice (.int .i64))), .val (.int .u64), .val (.slice (.slice (.int .i64))), .val (.slice (.slice (.named 1))), .val (.slice (.named 2)), vI, .val (.slice (.slice (.int .i64))), .val (.slice (.int .u64)), .val (.slice (.slice (.int .i64))), .val (.int .u64), .val (.int .u64), vI, vI, .val .bool, .val .bool, vI, .val (.slice (.int .i64)), vI, vI, vI, .val (.slice (.int .i64)), .val (.slice (.named 9)), .val (.slice (.named 10)), vI, vI]]⟩
def p_grey_machine_take_v1 : Spec E := mkSpec p_grey_machine_take_v1_c Tryz.f67 p_grey_machine_take_v1_i p_grey_machine_take_v1_o [.str 15] [.str 15] (by kernel_rfl) (by kernel_rfl)
def q_grey_machine_take_v1 (a1 : Sgrey_machine) : Option (Sgrey_machine × Unit) := p_grey_machine_take_v1.F (a1, ())
def p_slices_Clone_LLint_Lint_c : Cfg E := mkCfg Tryz.prog tab [] [] [] [] [] []
def p_slices_Clone_LLint_Lint_i : Shape := ⟨[.val (.slice (.slice (.int .i64)))], []⟩
def p_slices_Clone_LLint_Lint_o : Shape := ⟨[.own 0], [.row true (.slice (.int .i64))]⟩
def p_slices_Clone_LLint_Lint : Spec E := mkSpec p_slices_Clone_LLint_Lint_c Tryz.f124 p_slices_Clone_LLint_Lint_i p_slices_Clone_LLint_Lint_o [.one (.slice (.slice (.int .i64)))] [.one (.slice (.slice (.int .i64)))] (by kernel_rfl) (by kernel_rfl)
def q_slices_Clone_LLint_Lint (a1 : List (List Int)) : Option ((List (List Int)) × Unit) := p_slices_Clone_LLint_Lint.F (a1, ())
def p_grey_machine_fill_v1_c : Cfg E := mkCfg Tryz.prog tab [(35, [p_state_Full]), (36, [p_state_Next]), (124, [p_slices_Clone_LLint_Lint]), (125, [p_chain_Start])] [] [] [(0, some 0)] [] []
def p_grey_machine_fill_v1_i : Shape := ⟨[.ptr 0], [.box true [vI, vI, vI, vI, vI, vI, vI, vI, .val (.int .u64), .val (.int .u64), vI, vI, vI, vI, vI, vI, .val (.int .u64), vI, vI, vI, vI, vI, vI, vI, vI, vI, vI, vI, vI, vI, vI, .val (.slice (.slice (.int .i64))), .val (.int .u64), .val (.slice (.slice (.int .i64))), .val (.slice (.slice (.named 1))), .val (.slice (.named 2)), vI, .val (.slice (.slice (.int .i64))), .val (.slice (.int .u64)), .val (.slice (.slice (.int .i64))), .val (.int .u64), .val (.int .u64), vI, vI, .val .bool, .val .bool, vI, .val (.slice (.int .i64)), vI, vI, vI, .val (.slice (.int .i64)), .val (.slice (.named 9)), .val (.slice (.named 10)), vI, vI]]⟩
def p_grey_machine_fill_v1_o : Shape := ⟨[], [.box true [vI, vI, vI, vI, vI, vI, vI, vI, .val (.int .u64), .val (.int .u64), vI, vI, vI, vI, vI, vI, .val (.int .u64), vI, vI, vI, vI, vI, vI, vI, vI, vI, vI, vI, vI, vI, vI, .val (.slice (.slice (.int .i64))), .val (.int .u64), .val (.slice (.slice (.int .i64))), .val (.slice (.slice (.named 1))), .val (.slice (.named 2)), vI, .val (.slice (.slice (.int .i64))), .val (.slice (.int .u64)), .own 1, .val (.int .u64), .val (.int .u64), vI, vI, .val .bool, .val .bool, vI, .val (.slice (.int .i64)), vI, vI, vI, .val (.slice (.int .i64)), .val (.slice (.named 9)), .val (.slice (.named 10)), vI, vI], .row true (.slice (.int .i64))]⟩
def p_grey_machine_fill_v1 : Spec E := mkSpec p_grey_machine_fill_v1_c Tryz.f68 p_grey_machine_fill_v1_i p_grey_machine_fill_v1_o [.str 15] [.str 8, .str 4, .str 3, .one (.slice (.int .u64)), .str 11, oI, oI, .one .bool, .one .bool, oI, .one (.slice (.int .i64)), .str 5, .one (.slice (.named 9)), .one (.slice (.named 10)), .str 12, .one (.slice (.slice (.int .i64)))] (by kernel_rfl) (by kernel_rfl)
def q_grey_machine_fill_v1 (a1 : Sgrey_machine) : Option (Sstate_Grey × Splan_Plan × Sheap_Heap × (List (BitVec 64)) × Stint_Tint × Int × Int × Bool × Bool × Int × (List Int) × Sledger_Ledger × (List Sstate_Worker) × (List Sstate_Mutator) × Sstate_Detect × (List (List Int)) × Unit) := p_grey_machine_fill_v1.F (a1, ())
def p_grey_machine_publish_v1_c : Cfg E := mkCfg Tryz.prog tab [(123, [p_chain_Step])] [] [] [(0, some 0)] [] []
def p_grey_machine_publish_v1_i : Shape := ⟨[.ptr 0], [.box true [vI, vI, vI, vI, vI, vI, vI, vI, .val (.int .u64), .val (.int .u64), vI, vI, vI, vI, vI, vI, .val (.int .u64), vI, vI, vI, vI, vI, vI, vI, vI, vI, vI, vI, vI, vI, vI, .val (.slice (.slice (.int .i64))), .val (.int .u64), .val (.slice (.slice (.int .i64))), .val (.slice (.slice (.named 1))), .val (.slice (.named 2)), vI, .val (.slice (.slice (.int .i64))), .val (.slice (.int .u64)), .val (.slice (.slice (.int .i64))), .val (.int .u64), .val (.int .u64), vI, vI, .val .bool, .val .bool, vI, .val (.slice (.int .i64)), vI, vI, vI, .val (.slice (.int .i64)), .val (.slice (.named 9)), .val (.slice (.named 10)), vI, vI]]⟩
def p_grey_machine_publish_v1_o : Shape := ⟨[], [.box true [vI, vI, vI, vI, vI, vI, vI, vI, .val (.int .u64), .val (.int .u64), vI, vI, vI, vI, vI, vI, .val (.int .u64), vI, vI, vI, vI, vI, vI, vI, vI, vI, vI, vI, vI, vI, vI, .val (.slice (.slice (.int .i64))), .val (.int .u64), .val (.slice (.slice (.int .i64))), .val (.slice (.slice (.named 1))), .val (.slice (.named 2)), vI, .val (.slice (.slice (.int .i64))), .val (.slice (.int .u64)), .val (.slice (.slice (.int .i64))), .val (.int .u64), .val (.int .u64), vI, vI, .val .bool, .val .bool, vI, .val (.slice (.int .i64)), vI, vI, vI, .val (.slice (.int .i64)), .val (.slice (.named 9)), .val (.slice (.named 10)), vI, vI]]⟩
def p_grey_machine_publish_v1 : Spec E := mkSpec p_grey_machine_publish_v1_c Tryz.f69 p_grey_machine_publish_v1_i p_grey_machine_publish_v1_o [.str 15] [.str 15] (by kernel_rfl) (by kernel_rfl)
def q_grey_machine_publish_v1 (a1 : Sgrey_machine) : Option (Sgrey_machine × Unit) := p_grey_machine_publish_v1.F (a1, ())
def p_grey_Step_c : Cfg E := mkCfg Tryz.prog tab [(62, [p_grey_machine_reserve_v1]), (63, [p_grey_machine_mark_v1]), (64, [p_grey_machine_back_v1]), (65, [p_grey_machine_push_v1]), (66, [p_grey_machine_tell_v1]), (67, [p_grey_machine_take_v1]), (68, [p_grey_machine_fill_v1]), (69, [p_grey_machine_publish_v1])] [] [] [] [] []
def p_grey_Step_i : Shape := ⟨[.val (.named 14), .val (.named 8)], []⟩
def p_grey_Step_o : Shape := ⟨[.val (.named 14), .val (.named 8)], []⟩
def p_grey_Step : Spec E := mkSpec p_grey_Step_c Tryz.f15 p_grey_Step_i p_grey_Step_o [.one (.named 14), .one (.named 8)] [.one (.named 14), .one (.named 8)] (by kernel_rfl) (by kernel_rfl)
def q_grey_Step (a1 : Sstate_State) (a2 : Sstate_Grey) : Option (Sstate_State × Sstate_Grey × Unit) := p_grey_Step.F (a1, a2, ())
def p_grey_at_c : Cfg E := mkCfg Tryz.prog tab [] [] [] [] [] []
def p_grey_at_i : Shape := ⟨[.val (.named 8), vI, vI, vI], []⟩
def p_grey_at_o : Shape := ⟨[vI], []⟩
def p_grey_at : Spec E := mkSpec p_grey_at_c Tryz.f82 p_grey_at_i p_grey_at_o [.one (.named 8), oI, oI, oI] [oI] (by kernel_rfl) (by kernel_rfl)
def q_grey_at (a1 : Sstate_Grey) (a2 : Int) (a3 : Int) (a4 : Int) : Option (Int × Unit) := p_grey_at.F (a1, a2, a3, a4, ())
def p_grey_Holds_c : Cfg E := mkCfg Tryz.prog tab [(82, [p_grey_at])] [] [] [] [] []
def p_grey_Holds_i : Shape := ⟨[.val (.named 8)], []⟩
def p_grey_Holds_o : Shape := ⟨[vI], []⟩
def p_grey_Holds : Spec E := mkSpec p_grey_Holds_c Tryz.f18 p_grey_Holds_i p_grey_Holds_o [.one (.named 8)] [oI] (by kernel_rfl) (by kernel_rfl)
def q_grey_Holds (a1 : Sstate_Grey) : Option (Int × Unit) := p_grey_Holds.F (a1, ())
def p_grey_Asks_c : Cfg E := mkCfg Tryz.prog tab [(82, [p_grey_at])] [] [] [] [] []
def p_grey_Asks_i : Shape := ⟨[.val (.named 8)], []⟩
def p_grey_Asks_o : Shape := ⟨[vI], []⟩
def p_grey_Asks : Spec E := mkSpec p_grey_Asks_c Tryz.f20 p_grey_Asks_i p_grey_Asks_o [.one (.named 8)] [oI] (by kernel_rfl) (by kernel_rfl)
def q_grey_Asks (a1 : Sstate_Grey) : Option (Int × Unit) := p_grey_Asks.F (a1, ())
def p_grey_Owes_c : Cfg E := mkCfg Tryz.prog tab [(82, [p_grey_at])] [] [] [] [] []
def p_grey_Owes_i : Shape := ⟨[.val (.named 8)], []⟩
def p_grey_Owes_o : Shape := ⟨[vI], []⟩
def p_grey_Owes : Spec E := mkSpec p_grey_Owes_c Tryz.f22 p_grey_Owes_i p_grey_Owes_o [.one (.named 8)] [oI] (by kernel_rfl) (by kernel_rfl)
def q_grey_Owes (a1 : Sstate_Grey) : Option (Int × Unit) := p_grey_Owes.F (a1, ())
def p_besomlaw14_run_l2 : LoopSpec E := { slots := [2, 3, 4, 6, 7, 9], inn := ⟨[vI, .ptr 0, .ptr 1, .ptr 2, .ptr 3, vI], [.box true [vI, vI, vI, vI, vI, vI, vI, vI, vI, .val (.slice (.slice (.int .i64))), .val (.int .u64), .val (.slice (.slice (.int .i64))), .val (.slice (.slice (.named 1))), .val (.slice (.named 2)), vI, .val (.slice (.slice (.int .i64))), .val (.slice (.int .u64)), .val (.slice (.slice (.int .i64))), .val (.int .u64), .val (.int .u64), vI, vI, .val .bool, .val .bool, vI, .val (.slice (.int .i64)), vI, vI, vI, .val (.slice (.int .i64)), .val (.slice (.named 9)), .val (.slice (.named 10)), vI, vI], .box true [vI, vI, vI, vI, vI, vI, vI, vI, .val (.int .u64), .val (.int .u64), vI, vI, vI, vI, vI, vI, .val (.int .u64), vI, vI, vI, vI, vI], .box true [vI, vI, vI, vI, vI, vI, vI, vI, vI, .own 4, .val (.int .u64), .own 5, .own 6, .own 7, vI, .own 8, .own 9, .own 10, .val (.int .u64), .val (.int .u64), vI, vI, .val .bool, .val .bool, vI, .own 11, vI, vI, vI, .own 12, .own 13, .own 14, vI, vI], .box true [vI, vI, vI, vI, vI, vI, vI, vI, .val (.int .u64), .val (.int .u64), vI, vI, vI, vI, vI, vI, .val (.int .u64), vI, vI, vI, vI, vI], .row true (.slice (.int .i64)), .row true (.slice (.int .i64)), .row true (.slice (.named 1)), .row true (.named 2), .row true (.slice (.int .i64)), .row true (.int .u64), .row true (.slice (.int .i64)), .row true (.int .i64), .row true (.int .i64), .row true (.named 9), .row true (.named 10)]⟩, brkId := 0, bslots := [3, 4, 6, 7, 9], brk := ⟨[.ptr 0, .ptr 1, .ptr 2, .ptr 3, vI], [.box true [vI, vI, vI, vI, vI, vI, vI, vI, vI, .val (.slice (.slice (.int .i64))), .val (.int .u64), .val (.slice (.slice (.int .i64))), .val (.slice (.slice (.named 1))), .val (.slice (.named 2)), vI, .val (.slice (.slice (.int .i64))), .val (.slice (.int .u64)), .val (.slice (.slice (.int .i64))), .val (.int .u64), .val (.int .u64), vI, vI, .val .bool, .val .bool, vI, .val (.slice (.int .i64)), vI, vI, vI, .val (.slice (.int .i64)), .val (.slice (.named 9)), .val (.slice (.named 10)), vI, vI], .box true [vI, vI, vI, vI, vI, vI, vI, vI, .val (.int .u64), .val (.int .u64), vI, vI, vI, vI, vI, vI, .val (.int .u64), vI, vI, vI, vI, vI], .box true [vI, vI, vI, vI, vI, vI, vI, vI, vI, .own 4, .val (.int .u64), .own 5, .own 6, .own 7, vI, .own 8, .own 9, .own 10, .val (.int .u64), .val (.int .u64), vI, vI, .val .bool, .val .bool, vI, .own 11, vI, vI, vI, .own 12, .own 13, .own 14, vI, vI], .box true [vI, vI, vI, vI, vI, vI, vI, vI, .val (.int .u64), .val (.int .u64), vI, vI, vI, vI, vI, vI, .val (.int .u64), vI, vI, vI, vI, vI], .row true (.slice (.int .i64)), .row true (.slice (.int .i64)), .row true (.slice (.named 1)), .row true (.named 2), .row true (.slice (.int .i64)), .row true (.int .u64), .row true (.slice (.int .i64)), .row true (.int .i64), .row true (.int .i64), .row true (.named 9), .row true (.named 10)]⟩, rslots := [], ret := ⟨[], []⟩, gi := grp [oI, oI, .str 14, .str 8, oI, oI, oI, oI, oI, oI, oI, oI, oI, .one (.int .u64), oI, .str 11, oI, oI, .one .bool, .one .bool, oI, oI, oI, oI, .str 12, .str 8, .one (.slice (.slice (.int .i64))), .one (.slice (.slice (.int .i64))), .one (.slice (.slice (.named 1))), .one (.slice (.named 2)), .one (.slice (.slice (.int .i64))), .one (.slice (.int .u64)), .one (.slice (.slice (.int .i64))), .one (.slice (.int .i64)), .one (.slice (.int .i64)), .one (.slice (.named 9)), .one (.slice (.named 10))] (by kernel_rfl), gb := grp [oI, .str 14, .str 8, oI, oI, oI, oI, oI, oI, oI, oI, oI, .one (.int .u64), oI, .str 11, oI, oI, .one .bool, .one .bool, oI, oI, oI, oI, .str 12, .str 8, .one (.slice (.slice (.int .i64))), .one (.slice (.slice (.int .i64))), .one (.slice (.slice (.named 1))), .one (.slice (.named 2)), .one (.slice (.slice (.int .i64))), .one (.slice (.int .u64)), .one (.slice (.slice (.int .i64))), .one (.slice (.int .i64)), .one (.slice (.int .i64)), .one (.slice (.named 9)), .one (.slice (.named 10))] (by kernel_rfl), gr := grp [] (by kernel_rfl) }
def p_besomlaw14_run_c : Cfg E := mkCfg Tryz.prog tab [(15, [p_grey_Step])] [(2, p_besomlaw14_run_l2)] [] [] [] []
def p_besomlaw14_run_i : Shape := ⟨[.val (.named 14), .val (.named 8), vI], []⟩
def p_besomlaw14_run_o : Shape := ⟨[.val (.named 14), .val (.named 8), vI], []⟩
def p_besomlaw14_run : Spec E := mkSpec p_besomlaw14_run_c Tryz.f28 p_besomlaw14_run_i p_besomlaw14_run_o [.one (.named 14), .one (.named 8), oI] [.one (.named 14), .one (.named 8), oI] (by kernel_rfl) (by kernel_rfl)
def q_besomlaw14_run (a1 : Sstate_State) (a2 : Sstate_Grey) (a3 : Int) : Option (Sstate_State × Sstate_Grey × Int × Unit) := p_besomlaw14_run.F (a1, a2, a3, ())
def p_besomlaw14_run_r2 (x : Int × Int × Sstate_State × Sstate_Grey × Int × Int × Int × Int × Int × Int × Int × Int × Int × (BitVec 64) × Int × Stint_Tint × Int × Int × Bool × Bool × Int × Int × Int × Int × Sstate_Detect × Sstate_Grey × (List (List Int)) × (List (List Int)) × (List (List Scode_Op)) × (List Spick_Pick) × (List (List Int)) × (List (BitVec 64)) × (List (List Int)) × (List Int) × (List Int) × (List Sstate_Worker) × (List Sstate_Mutator) × Unit) : Option (Stop (Int × Int × Sstate_State × Sstate_Grey × Int × Int × Int × Int × Int × Int × Int × Int × Int × (BitVec 64) × Int × Stint_Tint × Int × Int × Bool × Bool × Int × Int × Int × Int × Sstate_Detect × Sstate_Grey × (List (List Int)) × (List (List Int)) × (List (List Scode_Op)) × (List Spick_Pick) × (List (List Int)) × (List (BitVec 64)) × (List (List Int)) × (List Int) × (List Int) × (List Sstate_Worker) × (List Sstate_Mutator) × Unit) (Int × Sstate_State × Sstate_Grey × Int × Int × Int × Int × Int × Int × Int × Int × Int × (BitVec 64) × Int × Stint_Tint × Int × Int × Bool × Bool × Int × Int × Int × Int × Sstate_Detect × Sstate_Grey × (List (List Int)) × (List (List Int)) × (List (List Scode_Op)) × (List Spick_Pick) × (List (List Int)) × (List (BitVec 64)) × (List (List Int)) × (List Int) × (List Int) × (List Sstate_Worker) × (List Sstate_Mutator) × Unit) (Unit)) := roundBy p_besomlaw14_run_c (exec p_besomlaw14_run_c (loopAt Tryz.f28 2)) 29 p_besomlaw14_run_l2 x
def p_chain_List_l3 : LoopSpec E := { slots := [0, 2, 3, 9, 10], inn := ⟨[.val (.slice (.int .u64)), vI, vI, .own 0, vI], [.row true (.int .i64)]⟩, brkId := 0, bslots := [9], brk := ⟨[.own 0], [.row true (.int .i64)]⟩, rslots := [], ret := ⟨[], []⟩, gi := grp [.one (.slice (.int .u64)), oI, oI, oI, .one (.slice (.int .i64))] (by kernel_rfl), gb := grp [.one (.slice (.int .i64))] (by kernel_rfl), gr := grp [] (by kernel_rfl) }
def p_chain_List_c : Cfg E := mkCfg Tryz.prog tab [(92, [p_chain_Node]), (93, [p_chain_load])] [(3, p_chain_List_l3)] [] [] [] []
def p_chain_List_i : Shape := ⟨[.val (.slice (.int .u64)), vI, vI, vI], []⟩
def p_chain_List_o : Shape := ⟨[.own 0], [.row true (.int .i64)]⟩
def p_chain_List : Spec E := mkSpec p_chain_List_c Tryz.f34 p_chain_List_i p_chain_List_o [.one (.slice (.int .u64)), oI, oI, oI] [.one (.slice (.int .i64))] (by kernel_rfl) (by kernel_rfl)
def q_chain_List (a1 : List (BitVec 64)) (a2 : Int) (a3 : Int) (a4 : Int) : Option ((List Int) × Unit) := p_chain_List.F (a1, a2, a3, a4, ())
def p_chain_List_r3 (x : (List (BitVec 64)) × Int × Int × Int × (List Int) × Unit) : Option (Stop ((List (BitVec 64)) × Int × Int × Int × (List Int) × Unit) ((List Int) × Unit) (Unit)) := roundBy p_chain_List_c (exec p_chain_List_c (loopAt Tryz.f34 3)) 35 p_chain_List_l3 x
def p_besomlaw14_small_l3 : LoopSpec E := { slots := [0, 2, 3, 4], inn := ⟨[.val (.slice (.slice (.named 1))), .ptr 0, .ptr 1, vI], [.box true [vI, vI, vI, vI, vI, vI, vI, vI, vI, .own 2, .val (.int .u64), .own 3, .own 4, .own 5], .box true [vI, vI, vI, vI, vI, vI, vI, vI, vI, .own 6, .val (.int .u64), .own 7, .own 8, .own 9], .row true (.slice (.int .i64)), .row true (.slice (.int .i64)), .row true (.slice (.named 1)), .row true (.named 2), .row true (.slice (.int .i64)), .row true (.slice (.int .i64)), .row true (.slice (.named 1)), .row true (.named 2)]⟩, brkId := 0, bslots := [2, 3], brk := ⟨[.ptr 0, .ptr 1], [.box true [vI, vI, vI, vI, vI, vI, vI, vI, vI, .own 2, .val (.int .u64), .own 3, .own 4, .own 5], .box true [vI, vI, vI, vI, vI, vI, vI, vI, vI, .own 6, .val (.int .u64), .own 7, .own 8, .own 9], .row true (.slice (.int .i64)), .row true (.slice (.int .i64)), .row true (.slice (.named 1)), .row true (.named 2), .row true (.slice (.int .i64)), .row true (.slice (.int .i64)), .row true (.slice (.named 1)), .row true (.named 2)]⟩, rslots := [], ret := ⟨[], []⟩, gi := grp [.one (.slice (.slice (.named 1))), oI, oI, oI, oI, oI, oI, oI, oI, oI, oI, .one (.int .u64), oI, oI, oI, oI, oI, oI, oI, oI, oI, .one (.int .u64), .one (.slice (.slice (.int .i64))), .one (.slice (.slice (.int .i64))), .one (.slice (.slice (.named 1))), .one (.slice (.named 2)), .one (.slice (.slice (.int .i64))), .one (.slice (.slice (.int .i64))), .one (.slice (.slice (.named 1))), .one (.slice (.named 2))] (by kernel_rfl), gb := grp [oI, oI, oI, oI, oI, oI, oI, oI, oI, .one (.int .u64), oI, oI, oI, oI, oI, oI, oI, oI, oI, .one (.int .u64), .one (.slice (.slice (.int .i64))), .one (.slice (.slice (.int .i64))), .one (.slice (.slice (.named 1))), .one (.slice (.named 2)), .one (.slice (.slice (.int .i64))), .one (.slice (.slice (.int .i64))), .one (.slice (.slice (.named 1))), .one (.slice (.named 2))] (by kernel_rfl), gr := grp [] (by kernel_rfl) }
def p_besomlaw14_small_c : Cfg E := mkCfg Tryz.prog tab [] [(3, p_besomlaw14_small_l3)] [] [] [] []
def p_besomlaw14_small_i : Shape := ⟨[.val (.slice (.slice (.named 1)))], []⟩
def p_besomlaw14_small_o : Shape := ⟨[.val (.named 4)], []⟩
def p_besomlaw14_small : Spec E := mkSpec p_besomlaw14_small_c Tryz.f39 p_besomlaw14_small_i p_besomlaw14_small_o [.one (.slice (.slice (.named 1)))] [.one (.named 4)] (by kernel_rfl) (by kernel_rfl)
def q_besomlaw14_small (a1 : List (List Scode_Op)) : Option (Splan_Plan × Unit) := p_besomlaw14_small.F (a1, ())
def p_besomlaw14_small_r3 (x : (List (List Scode_Op)) × Int × Int × Int × Int × Int × Int × Int × Int × Int × Int × (BitVec 64) × Int × Int × Int × Int × Int × Int × Int × Int × Int × (BitVec 64) × (List (List Int)) × (List (List Int)) × (List (List Scode_Op)) × (List Spick_Pick) × (List (List Int)) × (List (List Int)) × (List (List Scode_Op)) × (List Spick_Pick) × Unit) : Option (Stop ((List (List Scode_Op)) × Int × Int × Int × Int × Int × Int × Int × Int × Int × Int × (BitVec 64) × Int × Int × Int × Int × Int × Int × Int × Int × Int × (BitVec 64) × (List (List Int)) × (List (List Int)) × (List (List Scode_Op)) × (List Spick_Pick) × (List (List Int)) × (List (List Int)) × (List (List Scode_Op)) × (List Spick_Pick) × Unit) (Int × Int × Int × Int × Int × Int × Int × Int × Int × (BitVec 64) × Int × Int × Int × Int × Int × Int × Int × Int × Int × (BitVec 64) × (List (List Int)) × (List (List Int)) × (List (List Scode_Op)) × (List Spick_Pick) × (List (List Int)) × (List (List Int)) × (List (List Scode_Op)) × (List Spick_Pick) × Unit) (Unit)) := roundBy p_besomlaw14_small_c (exec p_besomlaw14_small_c (loopAt Tryz.f39 3)) 35 p_besomlaw14_small_l3 x
def p_besomlaw14_examples_c : Cfg E := mkCfg Tryz.prog tab [(10, [p_state_New]), (12, [p_grey_Begin]), (15, [p_grey_Step]), (18, [p_grey_Holds]), (20, [p_grey_Asks]), (22, [p_grey_Owes]), (28, [p_besomlaw14_run]), (34, [p_chain_List]), (35, [p_state_Full]), (36, [p_state_Next]), (39, [p_besomlaw14_small])] [] [] [] [] []
def p_besomlaw14_examples_i : Shape := ⟨[], []⟩
def p_besomlaw14_examples_o : Shape := ⟨[.val .bool], []⟩
def p_besomlaw14_examples : Spec E := mkSpec p_besomlaw14_examples_c Tryz.f8 p_besomlaw14_examples_i p_besomlaw14_examples_o [] [.one .bool] (by kernel_rfl) (by kernel_rfl)
def q_besomlaw14_examples  : Option (Bool × Unit) := p_besomlaw14_examples.F (())
def p_besomlaw14_Maker_byte_v1_c : Cfg E := mkCfg Tryz.prog tab [] [] [] [(0, some 0)] [] []
def p_besomlaw14_Maker_byte_v1_i : Shape := ⟨[.ptr 0], [.box true [.val (.slice (.int .u8)), vI]]⟩
def p_besomlaw14_Maker_byte_v1_o : Shape := ⟨[vI], [.box true [.val (.slice (.int .u8)), vI]]⟩
def p_besomlaw14_Maker_byte_v1 : Spec E := mkSpec p_besomlaw14_Maker_byte_v1_c Tryz.f40 p_besomlaw14_Maker_byte_v1_i p_besomlaw14_Maker_byte_v1_o [.str 16] [oI, .str 16] (by kernel_rfl) (by kernel_rfl)
def q_besomlaw14_Maker_byte_v1 (a1 : Sbesomlaw14_Maker) : Option (Int × Sbesomlaw14_Maker × Unit) := p_besomlaw14_Maker_byte_v1.F (a1, ())
def p_besomlaw14_Maker_op_v1_c : Cfg E := mkCfg Tryz.prog tab [(40, [p_besomlaw14_Maker_byte_v1])] [] [] [(0, some 0)] [] []
def p_besomlaw14_Maker_op_v1_i : Shape := ⟨[.ptr 0, vI, vI], [.box true [.val (.slice (.int .u8)), vI]]⟩
def p_besomlaw14_Maker_op_v1_o : Shape := ⟨[.val (.named 1)], [.box true [.val (.slice (.int .u8)), vI]]⟩
def p_besomlaw14_Maker_op_v1 : Spec E := mkSpec p_besomlaw14_Maker_op_v1_c Tryz.f41 p_besomlaw14_Maker_op_v1_i p_besomlaw14_Maker_op_v1_o [oI, oI, .str 16] [.one (.named 1), .str 16] (by kernel_rfl) (by kernel_rfl)
def q_besomlaw14_Maker_op_v1 (a1 : Int) (a2 : Int) (a3 : Sbesomlaw14_Maker) : Option (Scode_Op × Sbesomlaw14_Maker × Unit) := p_besomlaw14_Maker_op_v1.F (a1, a2, a3, ())
def p_besomlaw14_made_l7 : LoopSpec E := { slots := [2, 3, 4, 5, 6], inn := ⟨[.ptr 0, .ptr 1, .ptr 2, vI, vI], [.box true [vI, vI, vI, vI, vI, vI, vI, vI, vI, .own 3, .val (.int .u64), .own 4, .own 5, .own 6], .box true [.val (.slice (.int .u8)), vI], .box true [vI, vI, vI, vI, vI, vI, vI, vI, vI, .own 7, .val (.int .u64), .own 8, .own 9, .own 10], .row true (.slice (.int .i64)), .row true (.slice (.int .i64)), .row true (.slice (.named 1)), .row true (.named 2), .row true (.slice (.int .i64)), .row true (.slice (.int .i64)), .row true (.slice (.named 1)), .row true (.named 2)]⟩, brkId := 0, bslots := [2, 3, 4, 5], brk := ⟨[.ptr 0, .ptr 1, .ptr 2, vI], [.box true [vI, vI, vI, vI, vI, vI, vI, vI, vI, .own 3, .val (.int .u64), .own 4, .own 5, .own 6], .box true [.val (.slice (.int .u8)), vI], .box true [vI, vI, vI, vI, vI, vI, vI, vI, vI, .own 7, .val (.int .u64), .own 8, .own 9, .own 10], .row true (.slice (.int .i64)), .row true (.slice (.int .i64)), .row true (.slice (.named 1)), .row true (.named 2), .row true (.slice (.int .i64)), .row true (.slice (.int .i64)), .row true (.slice (.named 1)), .row true (.named 2)]⟩, rslots := [], ret := ⟨[], []⟩, gi := grp [oI, oI, oI, oI, oI, oI, oI, oI, oI, oI, oI, .one (.int .u64), .str 16, oI, oI, oI, oI, oI, oI, oI, oI, oI, .one (.int .u64), .one (.slice (.slice (.int .i64))), .one (.slice (.slice (.int .i64))), .one (.slice (.slice (.named 1))), .one (.slice (.named 2)), .one (.slice (.slice (.int .i64))), .one (.slice (.slice (.int .i64))), .one (.slice (.slice (.named 1))), .one (.slice (.named 2))] (by kernel_rfl), gb := grp [oI, oI, oI, oI, oI, oI, oI, oI, oI, oI, .one (.int .u64), .str 16, oI, oI, oI, oI, oI, oI, oI, oI, oI, .one (.int .u64), .one (.slice (.slice (.int .i64))), .one (.slice (.slice (.int .i64))), .one (.slice (.slice (.named 1))), .one (.slice (.named 2)), .one (.slice (.slice (.int .i64))), .one (.slice (.slice (.int .i64))), .one (.slice (.slice (.named 1))), .one (.slice (.named 2))] (by kernel_rfl), gr := grp [] (by kernel_rfl) }
def p_besomlaw14_made_l11 : LoopSpec E := { slots := [2, 3, 4, 5, 6, 7, 8], inn := ⟨[.ptr 0, .ptr 1, .ptr 2, vI, vI, .own 3, vI], [.box true [vI, vI, vI, vI, vI, vI, vI, vI, vI, .own 4, .val (.int .u64), .own 5, .own 6, .own 7], .box true [.val (.slice (.int .u8)), vI], .box true [vI, vI, vI, vI, vI, vI, vI, vI, vI, .own 8, .val (.int .u64), .own 9, .own 10, .own 11], .row true (.int .i64), .row true (.slice (.int .i64)), .row true (.slice (.int .i64)), .row true (.slice (.named 1)), .row true (.named 2), .row true (.slice (.int .i64)), .row true (.slice (.int .i64)), .row true (.slice (.named 1)), .row true (.named 2)]⟩, brkId := 2, bslots := [2, 3, 4, 5, 6, 7], brk := ⟨[.ptr 0, .ptr 1, .ptr 2, vI, vI, .own 3], [.box true [vI, vI, vI, vI, vI, vI, vI, vI, vI, .own 4, .val (.int .u64), .own 5, .own 6, .own 7], .box true [.val (.slice (.int .u8)), vI], .box true [vI, vI, vI, vI, vI, vI, vI, vI, vI, .own 8, .val (.int .u64), .own 9, .own 10, .own 11], .row true (.int .i64), .row true (.slice (.int .i64)), .row true (.slice (.int .i64)), .row true (.slice (.named 1)), .row true (.named 2), .row true (.slice (.int .i64)), .row true (.slice (.int .i64)), .row true (.slice (.named 1)), .row true (.named 2)]⟩, rslots := [], ret := ⟨[], []⟩, gi := grp [oI, oI, oI, oI, oI, oI, oI, oI, oI, oI, oI, oI, .one (.int .u64), .str 16, oI, oI, oI, oI, oI, oI, oI, oI, oI, .one (.int .u64), .one (.slice (.int .i64)), .one (.slice (.slice (.int .i64))), .one (.slice (.slice (.int .i64))), .one (.slice (.slice (.named 1))), .one (.slice (.named 2)), .one (.slice (.slice (.int .i64))), .one (.slice (.slice (.int .i64))), .one (.slice (.slice (.named 1))), .one (.slice (.named 2))] (by kernel_rfl), gb := grp [oI, oI, oI, oI, oI, oI, oI, oI, oI, oI, oI, .one (.int .u64), .str 16, oI, oI, oI, oI, oI, oI, oI, oI, oI, .one (.int .u64), .one (.slice (.int .i64)), .one (.slice (.slice (.int .i64))), .one (.slice (.slice (.int .i64))), .one (.slice (.slice (.named 1))), .one (.slice (.named 2)), .one (.slice (.slice (.int .i64))), .one (.slice (.slice (.int .i64))), .one (.slice (.slice (.named 1))), .one (.slice (.named 2))] (by kernel_rfl), gr := grp [] (by kernel_rfl) }
def p_besomlaw14_made_l17 : LoopSpec E := { slots := [2, 3, 4, 5, 9], inn := ⟨[.ptr 0, .ptr 1, .ptr 2, vI, vI], [.box true [vI, vI, vI, vI, vI, vI, vI, vI, vI, .own 3, .val (.int .u64), .own 4, .own 5, .own 6], .box true [.val (.slice (.int .u8)), vI], .box true [vI, vI, vI, vI, vI, vI, vI, vI, vI, .own 7, .val (.int .u64), .own 8, .own 9, .own 10], .row true (.slice (.int .i64)), .row true (.slice (.int .i64)), .row true (.slice (.named 1)), .row true (.named 2), .row true (.slice (.int .i64)), .row true (.slice (.int .i64)), .row true (.slice (.named 1)), .row true (.named 2)]⟩, brkId := 4, bslots := [2, 4], brk := ⟨[.ptr 0, .ptr 1], [.box true [vI, vI, vI, vI, vI, vI, vI, vI, vI, .own 2, .val (.int .u64), .own 3, .own 4, .own 5], .box true [vI, vI, vI, vI, vI, vI, vI, vI, vI, .own 6, .val (.int .u64), .own 7, .own 8, .own 9], .row true (.slice (.int .i64)), .row true (.slice (.int .i64)), .row true (.slice (.named 1)), .row true (.named 2), .row true (.slice (.int .i64)), .row true (.slice (.int .i64)), .row true (.slice (.named 1)), .row true (.named 2)]⟩, rslots := [], ret := ⟨[], []⟩, gi := grp [oI, oI, oI, oI, oI, oI, oI, oI, oI, oI, oI, .one (.int .u64), .str 16, oI, oI, oI, oI, oI, oI, oI, oI, oI, .one (.int .u64), .one (.slice (.slice (.int .i64))), .one (.slice (.slice (.int .i64))), .one (.slice (.slice (.named 1))), .one (.slice (.named 2)), .one (.slice (.slice (.int .i64))), .one (.slice (.slice (.int .i64))), .one (.slice (.slice (.named 1))), .one (.slice (.named 2))] (by kernel_rfl), gb := grp [oI, oI, oI, oI, oI, oI, oI, oI, oI, .one (.int .u64), oI, oI, oI, oI, oI, oI, oI, oI, oI, .one (.int .u64), .one (.slice (.slice (.int .i64))), .one (.slice (.slice (.int .i64))), .one (.slice (.slice (.named 1))), .one (.slice (.named 2)), .one (.slice (.slice (.int .i64))), .one (.slice (.slice (.int .i64))), .one (.slice (.slice (.named 1))), .one (.slice (.named 2))] (by kernel_rfl), gr := grp [] (by kernel_rfl) }
def p_besomlaw14_made_l21 : LoopSpec E := { slots := [2, 3, 4, 5, 9, 10, 11], inn := ⟨[.ptr 0, .ptr 1, .ptr 2, vI, vI, .own 3, vI], [.box true [vI, vI, vI, vI, vI, vI, vI, vI, vI, .own 4, .val (.int .u64), .own 5, .own 6, .own 7], .box true [.val (.slice (.int .u8)), vI], .box true [vI, vI, vI, vI, vI, vI, vI, vI, vI, .own 8, .val (.int .u64), .own 9, .own 10, .own 11], .row true (.int .i64), .row true (.slice (.int .i64)), .row true (.slice (.int .i64)), .row true (.slice (.named 1)), .row true (.named 2), .row true (.slice (.int .i64)), .row true (.slice (.int .i64)), .row true (.slice (.named 1)), .row true (.named 2)]⟩, brkId := 6, bslots := [2, 3, 4, 5, 9, 10], brk := ⟨[.ptr 0, .ptr 1, .ptr 2, vI, vI, .own 3], [.box true [vI, vI, vI, vI, vI, vI, vI, vI, vI, .own 4, .val (.int .u64), .own 5, .own 6, .own 7], .box true [.val (.slice (.int .u8)), vI], .box true [vI, vI, vI, vI, vI, vI, vI, vI, vI, .own 8, .val (.int .u64), .own 9, .own 10, .own 11], .row true (.int .i64), .row true (.slice (.int .i64)), .row true (.slice (.int .i64)), .row true (.slice (.named 1)), .row true (.named 2), .row true (.slice (.int .i64)), .row true (.slice (.int .i64)), .row true (.slice (.named 1)), .row true (.named 2)]⟩, rslots := [], ret := ⟨[], []⟩, gi := grp [oI, oI, oI, oI, oI, oI, oI, oI, oI, oI, oI, oI, .one (.int .u64), .str 16, oI, oI, oI, oI, oI, oI, oI, oI, oI, .one (.int .u64), .one (.slice (.int .i64)), .one (.slice (.slice (.int .i64))), .one (.slice (.slice (.int .i64))), .one (.slice (.slice (.named 1))), .one (.slice (.named 2)), .one (.slice (.slice (.int .i64))), .one (.slice (.slice (.int .i64))), .one (.slice (.slice (.named 1))), .one (.slice (.named 2))] (by kernel_rfl), gb := grp [oI, oI, oI, oI, oI, oI, oI, oI, oI, oI, oI, .one (.int .u64), .str 16, oI, oI, oI, oI, oI, oI, oI, oI, oI, .one (.int .u64), .one (.slice (.int .i64)), .one (.slice (.slice (.int .i64))), .one (.slice (.slice (.int .i64))), .one (.slice (.slice (.named 1))), .one (.slice (.named 2)), .one (.slice (.slice (.int .i64))), .one (.slice (.slice (.int .i64))), .one (.slice (.slice (.named 1))), .one (.slice (.named 2))] (by kernel_rfl), gr := grp [] (by kernel_rfl) }
def p_besomlaw14_made_l28 : LoopSpec E := { slots := [2, 3, 4, 5, 9, 10, 12, 13], inn := ⟨[.ptr 0, .ptr 1, .ptr 2, vI, vI, .own 3, .own 4, vI], [.box true [vI, vI, vI, vI, vI, vI, vI, vI, vI, .own 5, .val (.int .u64), .own 6, .own 7, .own 8], .box true [.val (.slice (.int .u8)), vI], .box true [vI, vI, vI, vI, vI, vI, vI, vI, vI, .own 9, .val (.int .u64), .own 10, .own 11, .own 12], .row true (.int .i64), .row true (.named 1), .row true (.slice (.int .i64)), .row true (.slice (.int .i64)), .row true (.slice (.named 1)), .row true (.named 2), .row true (.slice (.int .i64)), .row true (.slice (.int .i64)), .row true (.slice (.named 1)), .row true (.named 2)]⟩, brkId := 8, bslots := [2, 3, 4, 5, 9, 10, 12], brk := ⟨[.ptr 0, .ptr 1, .ptr 2, vI, vI, .own 3, .own 4], [.box true [vI, vI, vI, vI, vI, vI, vI, vI, vI, .own 5, .val (.int .u64), .own 6, .own 7, .own 8], .box true [.val (.slice (.int .u8)), vI], .box true [vI, vI, vI, vI, vI, vI, vI, vI, vI, .own 9, .val (.int .u64), .own 10, .own 11, .own 12], .row true (.int .i64), .row true (.named 1), .row true (.slice (.int .i64)), .row true (.slice (.int .i64)), .row true (.slice (.named 1)), .row true (.named 2), .row true (.slice (.int .i64)), .row true (.slice (.int .i64)), .row true (.slice (.named 1)), .row true (.named 2)]⟩, rslots := [], ret := ⟨[], []⟩, gi := grp [oI, oI, oI, oI, oI, oI, oI, oI, oI, oI, oI, oI, .one (.int .u64), .str 16, oI, oI, oI, oI, oI, oI, oI, oI, oI, .one (.int .u64), .one (.slice (.int .i64)), .one (.slice (.named 1)), .one (.slice (.slice (.int .i64))), .one (.slice (.slice (.int .i64))), .one (.slice (.slice (.named 1))), .one (.slice (.named 2)), .one (.slice (.slice (.int .i64))), .one (.slice (.slice (.int .i64))), .one (.slice (.slice (.named 1))), .one (.slice (.named 2))] (by kernel_rfl), gb := grp [oI, oI, oI, oI, oI, oI, oI, oI, oI, oI, oI, .one (.int .u64), .str 16, oI, oI, oI, oI, oI, oI, oI, oI, oI, .one (.int .u64), .one (.slice (.int .i64)), .one (.slice (.named 1)), .one (.slice (.slice (.int .i64))), .one (.slice (.slice (.int .i64))), .one (.slice (.slice (.named 1))), .one (.slice (.named 2)), .one (.slice (.slice (.int .i64))), .one (.slice (.slice (.int .i64))), .one (.slice (.slice (.named 1))), .one (.slice (.named 2))] (by kernel_rfl), gr := grp [] (by kernel_rfl) }
def p_besomlaw14_made_c : Cfg E := mkCfg Tryz.prog tab [(29, [p_set_Add]), (40, [p_besomlaw14_Maker_byte_v1]), (41, [p_besomlaw14_Maker_op_v1])] [(7, p_besomlaw14_made_l7), (11, p_besomlaw14_made_l11), (17, p_besomlaw14_made_l17), (21, p_besomlaw14_made_l21), (28, p_besomlaw14_made_l28)] [] [] [] []
def p_besomlaw14_made_i : Shape := ⟨[.val (.slice (.int .u8))], []⟩
def p_besomlaw14_made_o : Shape := ⟨[.val (.named 4)], []⟩
def p_besomlaw14_made : Spec E := mkSpec p_besomlaw14_made_c Tryz.f9 p_besomlaw14_made_i p_besomlaw14_made_o [.one (.slice (.int .u8))] [.one (.named 4)] (by kernel_rfl) (by kernel_rfl)
def q_besomlaw14_made (a1 : List (BitVec 8)) : Option (Splan_Plan × Unit) := p_besomlaw14_made.F (a1, ())
def p_besomlaw14_made_r7 (x : Int × Int × Int × Int × Int × Int × Int × Int × Int × Int × Int × (BitVec 64) × Sbesomlaw14_Maker × Int × Int × Int × Int × Int × Int × Int × Int × Int × (BitVec 64) × (List (List Int)) × (List (List Int)) × (List (List Scode_Op)) × (List Spick_Pick) × (List (List Int)) × (List (List Int)) × (List (List Scode_Op)) × (List Spick_Pick) × Unit) : Option (Stop (Int × Int × Int × Int × Int × Int × Int × Int × Int × Int × Int × (BitVec 64) × Sbesomlaw14_Maker × Int × Int × Int × Int × Int × Int × Int × Int × Int × (BitVec 64) × (List (List Int)) × (List (List Int)) × (List (List Scode_Op)) × (List Spick_Pick) × (List (List Int)) × (List (List Int)) × (List (List Scode_Op)) × (List Spick_Pick) × Unit) (Int × Int × Int × Int × Int × Int × Int × Int × Int × Int × (BitVec 64) × Sbesomlaw14_Maker × Int × Int × Int × Int × Int × Int × Int × Int × Int × (BitVec 64) × (List (List Int)) × (List (List Int)) × (List (List Scode_Op)) × (List Spick_Pick) × (List (List Int)) × (List (List Int)) × (List (List Scode_Op)) × (List Spick_Pick) × Unit) (Unit)) := roundBy p_besomlaw14_made_c (exec p_besomlaw14_made_c (loopAt Tryz.f9 7)) 154 p_besomlaw14_made_l7 x
def p_besomlaw14_made_r11 (x : Int × Int × Int × Int × Int × Int × Int × Int × Int × Int × Int × Int × (BitVec 64) × Sbesomlaw14_Maker × Int × Int × Int × Int × Int × Int × Int × Int × Int × (BitVec 64) × (List Int) × (List (List Int)) × (List (List Int)) × (List (List Scode_Op)) × (List Spick_Pick) × (List (List Int)) × (List (List Int)) × (List (List Scode_Op)) × (List Spick_Pick) × Unit) : Option (Stop (Int × Int × Int × Int × Int × Int × Int × Int × Int × Int × Int × Int × (BitVec 64) × Sbesomlaw14_Maker × Int × Int × Int × Int × Int × Int × Int × Int × Int × (BitVec 64) × (List Int) × (List (List Int)) × (List (List Int)) × (List (List Scode_Op)) × (List Spick_Pick) × (List (List Int)) × (List (List Int)) × (List (List Scode_Op)) × (List Spick_Pick) × Unit) (Int × Int × Int × Int × Int × Int × Int × Int × Int × Int × Int × (BitVec 64) × Sbesomlaw14_Maker × Int × Int × Int × Int × Int × Int × Int × Int × Int × (BitVec 64) × (List Int) × (List (List Int)) × (List (List Int)) × (List (List Scode_Op)) × (List Spick_Pick) × (List (List Int)) × (List (List Int)) × (List (List Scode_Op)) × (List Spick_Pick) × Unit) (Unit)) := roundBy p_besomlaw14_made_c (exec p_besomlaw14_made_c (loopAt Tryz.f9 11)) 154 p_besomlaw14_made_l11 x
def p_besomlaw14_made_r17 (x : Int × Int × Int × Int × Int × Int × Int × Int × Int × Int × Int × (BitVec 64) × Sbesomlaw14_Maker × Int × Int × Int × Int × Int × Int × Int × Int × Int × (BitVec 64) × (List (List Int)) × (List (List Int)) × (List (List Scode_Op)) × (List Spick_Pick) × (List (List Int)) × (List (List Int)) × (List (List Scode_Op)) × (List Spick_Pick) × Unit) : Option (Stop (Int × Int × Int × Int × Int × Int × Int × Int × Int × Int × Int × (BitVec 64) × Sbesomlaw14_Maker × Int × Int × Int × Int × Int × Int × Int × Int × Int × (BitVec 64) × (List (List Int)) × (List (List Int)) × (List (List Scode_Op)) × (List Spick_Pick) × (List (List Int)) × (List (List Int)) × (List (List Scode_Op)) × (List Spick_Pick) × Unit) (Int × Int × Int × Int × Int × Int × Int × Int × Int × (BitVec 64) × Int × Int × Int × Int × Int × Int × Int × Int × Int × (BitVec 64) × (List (List Int)) × (List (List Int)) × (List (List Scode_Op)) × (List Spick_Pick) × (List (List Int)) × (List (List Int)) × (List (List Scode_Op)) × (List Spick_Pick) × Unit) (Unit)) := roundBy p_besomlaw14_made_c (exec p_besomlaw14_made_c (loopAt Tryz.f9 17)) 154 p_besomlaw14_made_l17 x
def p_besomlaw14_made_r21 (x : Int × Int × Int × Int × Int × Int × Int × Int × Int × Int × Int × Int × (BitVec 64) × Sbesomlaw14_Maker × Int × Int × Int × Int × Int × Int × Int × Int × Int × (BitVec 64) × (List Int) × (List (List Int)) × (List (List Int)) × (List (List Scode_Op)) × (List Spick_Pick) × (List (List Int)) × (List (List Int)) × (List (List Scode_Op)) × (List Spick_Pick) × Unit) : Option (Stop (Int × Int × Int × Int × Int × Int × Int × Int × Int × Int × Int × Int × (BitVec 64) × Sbesomlaw14_Maker × Int × Int × Int × Int × Int × Int × Int × Int × Int × (BitVec 64) × (List Int) × (List (List Int)) × (List (List Int)) × (List (List Scode_Op)) × (List Spick_Pick) × (List (List Int)) × (List (List Int)) × (List (List Scode_Op)) × (List Spick_Pick) × Unit) (Int × Int × Int × Int × Int × Int × Int × Int × Int × Int × Int × (BitVec 64) × Sbesomlaw14_Maker × Int × Int × Int × Int × Int × Int × Int × Int × Int × (BitVec 64) × (List Int) × (List (List Int)) × (List (List Int)) × (List (List Scode_Op)) × (List Spick_Pick) × (List (List Int)) × (List (List Int)) × (List (List Scode_Op)) × (List Spick_Pick) × Unit) (Unit)) := roundBy p_besomlaw14_made_c (exec p_besomlaw14_made_c (loopAt Tryz.f9 21)) 154 p_besomlaw14_made_l21 x
def p_besomlaw14_made_r28 (x : Int × Int × Int × Int × Int × Int × Int × Int × Int × Int × Int × Int × (BitVec 64) × Sbesomlaw14_Maker × Int × Int × Int × Int × Int × Int × Int × Int × Int × (BitVec 64) × (List Int) × (List Scode_Op) × (List (List Int)) × (List (List Int)) × (List (List Scode_Op)) × (List Spick_Pick) × (List (List Int)) × (List (List Int)) × (List (List Scode_Op)) × (List Spick_Pick) × Unit) : Option (Stop (Int × Int × Int × Int × Int × Int × Int × Int × Int × Int × Int × Int × (BitVec 64) × Sbesomlaw14_Maker × Int × Int × Int × Int × Int × Int × Int × Int × Int × (BitVec 64) × (List Int) × (List Scode_Op) × (List (List Int)) × (List (List Int)) × (List (List Scode_Op)) × (List Spick_Pick) × (List (List Int)) × (List (List Int)) × (List (List Scode_Op)) × (List Spick_Pick) × Unit) (Int × Int × Int × Int × Int × Int × Int × Int × Int × Int × Int × (BitVec 64) × Sbesomlaw14_Maker × Int × Int × Int × Int × Int × Int × Int × Int × Int × (BitVec 64) × (List Int) × (List Scode_Op) × (List (List Int)) × (List (List Int)) × (List (List Scode_Op)) × (List Spick_Pick) × (List (List Int)) × (List (List Int)) × (List (List Scode_Op)) × (List Spick_Pick) × Unit) (Unit)) := roundBy p_besomlaw14_made_c (exec p_besomlaw14_made_c (loopAt Tryz.f9 28)) 154 p_besomlaw14_made_l28 x
def p_besomlaw14_Grow_begin_c : Cfg E := mkCfg Tryz.prog tab [(12, [p_grey_Begin])] [] [] [] [] []
def p_besomlaw14_Grow_begin_i : Shape := ⟨[.val (.named 0), .val (.named 4)], []⟩
def p_besomlaw14_Grow_begin_o : Shape := ⟨[.val (.named 8)], []⟩
def p_besomlaw14_Grow_begin : Spec E := mkSpec p_besomlaw14_Grow_begin_c Tryz.f11 p_besomlaw14_Grow_begin_i p_besomlaw14_Grow_begin_o [.one (.named 0), .one (.named 4)] [.one (.named 8)] (by kernel_rfl) (by kernel_rfl)
def q_besomlaw14_Grow_begin (a1 : Sbesomlaw14_Grow) (a2 : Splan_Plan) : Option (Sstate_Grey × Unit) := p_besomlaw14_Grow_begin.F (a1, a2, ())
def p_besomlaw14_refHeap_c : Cfg E := mkCfg Tryz.prog tab [] [] [] [] [] []
def p_besomlaw14_refHeap_i : Shape := ⟨[.val (.named 3)], []⟩
def p_besomlaw14_refHeap_o : Shape := ⟨[.val (.named 17)], []⟩
def p_besomlaw14_refHeap : Spec E := mkSpec p_besomlaw14_refHeap_c Tryz.f55 p_besomlaw14_refHeap_i p_besomlaw14_refHeap_o [.one (.named 3)] [.one (.named 17)] (by kernel_rfl) (by kernel_rfl)
def q_besomlaw14_refHeap (a1 : Sheap_Heap) : Option (Sbesomref03_Heap × Unit) := p_besomlaw14_refHeap.F (a1, ())
def p_besomlaw14_refPicks_l3 : LoopSpec E := { slots := [0, 3, 4], inn := ⟨[.val (.slice (.named 2)), .own 0, vI], [.row true (.named 18)]⟩, brkId := 0, bslots := [3], brk := ⟨[.own 0], [.row true (.named 18)]⟩, rslots := [], ret := ⟨[], []⟩, gi := grp [.one (.slice (.named 2)), oI, .one (.slice (.named 18))] (by kernel_rfl), gb := grp [.one (.slice (.named 18))] (by kernel_rfl), gr := grp [] (by kernel_rfl) }
def p_besomlaw14_refPicks_c : Cfg E := mkCfg Tryz.prog tab [] [(3, p_besomlaw14_refPicks_l3)] [] [] [] []
def p_besomlaw14_refPicks_i : Shape := ⟨[.val (.slice (.named 2))], []⟩
def p_besomlaw14_refPicks_o : Shape := ⟨[.own 0], [.row true (.named 18)]⟩
def p_besomlaw14_refPicks : Spec E := mkSpec p_besomlaw14_refPicks_c Tryz.f118 p_besomlaw14_refPicks_i p_besomlaw14_refPicks_o [.one (.slice (.named 2))] [.one (.slice (.named 18))] (by kernel_rfl) (by kernel_rfl)
def q_besomlaw14_refPicks (a1 : List Spick_Pick) : Option ((List Sbesomref01_Pick) × Unit) := p_besomlaw14_refPicks.F (a1, ())
def p_besomlaw14_refPicks_r3 (x : (List Spick_Pick) × Int × (List Sbesomref01_Pick) × Unit) : Option (Stop ((List Spick_Pick) × Int × (List Sbesomref01_Pick) × Unit) ((List Sbesomref01_Pick) × Unit) (Unit)) := roundBy p_besomlaw14_refPicks_c (exec p_besomlaw14_refPicks_c (loopAt Tryz.f118 3)) 26 p_besomlaw14_refPicks_l3 x
def p_besomlaw14_refOps_l3 : LoopSpec E := { slots := [0, 3, 4], inn := ⟨[.val (.slice (.named 1)), .own 0, vI], [.row true (.named 19)]⟩, brkId := 0, bslots := [3], brk := ⟨[.own 0], [.row true (.named 19)]⟩, rslots := [], ret := ⟨[], []⟩, gi := grp [.one (.slice (.named 1)), oI, .one (.slice (.named 19))] (by kernel_rfl), gb := grp [.one (.slice (.named 19))] (by kernel_rfl), gr := grp [] (by kernel_rfl) }
def p_besomlaw14_refOps_c : Cfg E := mkCfg Tryz.prog tab [] [(3, p_besomlaw14_refOps_l3)] [] [] [] []
def p_besomlaw14_refOps_i : Shape := ⟨[.val (.slice (.named 1))], []⟩
def p_besomlaw14_refOps_o : Shape := ⟨[.own 0], [.row true (.named 19)]⟩
def p_besomlaw14_refOps : Spec E := mkSpec p_besomlaw14_refOps_c Tryz.f119 p_besomlaw14_refOps_i p_besomlaw14_refOps_o [.one (.slice (.named 1))] [.one (.slice (.named 19))] (by kernel_rfl) (by kernel_rfl)
def q_besomlaw14_refOps (a1 : List Scode_Op) : Option ((List Sbesomref11_Op) × Unit) := p_besomlaw14_refOps.F (a1, ())
def p_besomlaw14_refOps_r3 (x : (List Scode_Op) × Int × (List Sbesomref11_Op) × Unit) : Option (Stop ((List Scode_Op) × Int × (List Sbesomref11_Op) × Unit) ((List Sbesomref11_Op) × Unit) (Unit)) := roundBy p_besomlaw14_refOps_c (exec p_besomlaw14_refOps_c (loopAt Tryz.f119 3)) 36 p_besomlaw14_refOps_l3 x
def p_besomlaw14_refPlan_l3 : LoopSpec E := { slots := [1, 2, 3, 4], inn := ⟨[.ptr 0, .ptr 1, .ptr 2, vI], [.box true [vI, vI, vI, vI, vI, vI, vI, vI, vI, .val (.slice (.slice (.int .i64))), .val (.int .u64), .val (.slice (.slice (.int .i64))), .val (.slice (.slice (.named 1))), .val (.slice (.named 2))], .box true [vI, vI, vI, vI, vI, vI, vI, vI, vI, .own 3, .val (.int .u64), .own 4, .own 5, .own 6], .box true [vI, vI, vI, vI, vI, vI, vI, vI, vI, .val (.slice (.slice (.int .i64))), .val (.int .u64), .val (.slice (.slice (.int .i64))), .own 7, .own 8], .row true (.slice (.int .i64)), .row true (.slice (.int .i64)), .row true (.slice (.named 19)), .row true (.named 18), .row true (.slice (.named 19)), .row true (.named 18)]⟩, brkId := 0, bslots := [2, 3], brk := ⟨[.ptr 0, .ptr 1], [.box true [vI, vI, vI, vI, vI, vI, vI, vI, vI, .own 2, .val (.int .u64), .own 3, .own 4, .own 5], .box true [vI, vI, vI, vI, vI, vI, vI, vI, vI, .val (.slice (.slice (.int .i64))), .val (.int .u64), .val (.slice (.slice (.int .i64))), .own 6, .own 7], .row true (.slice (.int .i64)), .row true (.slice (.int .i64)), .row true (.slice (.named 19)), .row true (.named 18), .row true (.slice (.named 19)), .row true (.named 18)]⟩, rslots := [], ret := ⟨[], []⟩, gi := grp [oI, .str 4, oI, oI, oI, oI, oI, oI, oI, oI, oI, .one (.int .u64), oI, oI, oI, oI, oI, oI, oI, oI, .str 17, .one (.int .u64), .one (.slice (.slice (.int .i64))), .one (.slice (.slice (.int .i64))), .one (.slice (.slice (.int .i64))), .one (.slice (.slice (.named 19))), .one (.slice (.named 18)), .one (.slice (.slice (.named 19))), .one (.slice (.named 18))] (by kernel_rfl), gb := grp [oI, oI, oI, oI, oI, oI, oI, oI, oI, .one (.int .u64), oI, oI, oI, oI, oI, oI, oI, oI, .str 17, .one (.int .u64), .one (.slice (.slice (.int .i64))), .one (.slice (.slice (.int .i64))), .one (.slice (.slice (.int .i64))), .one (.slice (.slice (.named 19))), .one (.slice (.named 18)), .one (.slice (.slice (.named 19))), .one (.slice (.named 18))] (by kernel_rfl), gr := grp [] (by kernel_rfl) }
def p_besomlaw14_refPlan_c : Cfg E := mkCfg Tryz.prog tab [(55, [p_besomlaw14_refHeap]), (118, [p_besomlaw14_refPicks]), (119, [p_besomlaw14_refOps])] [(3, p_besomlaw14_refPlan_l3)] [] [] [] []
def p_besomlaw14_refPlan_i : Shape := ⟨[.val (.named 4)], []⟩
def p_besomlaw14_refPlan_o : Shape := ⟨[.val (.named 20)], []⟩
def p_besomlaw14_refPlan : Spec E := mkSpec p_besomlaw14_refPlan_c Tryz.f54 p_besomlaw14_refPlan_i p_besomlaw14_refPlan_o [.one (.named 4)] [.one (.named 20)] (by kernel_rfl) (by kernel_rfl)
def q_besomlaw14_refPlan (a1 : Splan_Plan) : Option (Sbesomref12_Plan × Unit) := p_besomlaw14_refPlan.F (a1, ())
def p_besomlaw14_refPlan_r3 (x : Int × Splan_Plan × Int × Int × Int × Int × Int × Int × Int × Int × Int × (BitVec 64) × Int × Int × Int × Int × Int × Int × Int × Int × Sbesomref03_Heap × (BitVec 64) × (List (List Int)) × (List (List Int)) × (List (List Int)) × (List (List Sbesomref11_Op)) × (List Sbesomref01_Pick) × (List (List Sbesomref11_Op)) × (List Sbesomref01_Pick) × Unit) : Option (Stop (Int × Splan_Plan × Int × Int × Int × Int × Int × Int × Int × Int × Int × (BitVec 64) × Int × Int × Int × Int × Int × Int × Int × Int × Sbesomref03_Heap × (BitVec 64) × (List (List Int)) × (List (List Int)) × (List (List Int)) × (List (List Sbesomref11_Op)) × (List Sbesomref01_Pick) × (List (List Sbesomref11_Op)) × (List Sbesomref01_Pick) × Unit) (Int × Int × Int × Int × Int × Int × Int × Int × Int × (BitVec 64) × Int × Int × Int × Int × Int × Int × Int × Int × Sbesomref03_Heap × (BitVec 64) × (List (List Int)) × (List (List Int)) × (List (List Int)) × (List (List Sbesomref11_Op)) × (List Sbesomref01_Pick) × (List (List Sbesomref11_Op)) × (List Sbesomref01_Pick) × Unit) (Unit)) := roundBy p_besomlaw14_refPlan_c (exec p_besomlaw14_refPlan_c (loopAt Tryz.f54 3)) 51 p_besomlaw14_refPlan_l3 x
def p_besomlaw14_refTint_c : Cfg E := mkCfg Tryz.prog tab [] [] [] [] [] []
def p_besomlaw14_refTint_i : Shape := ⟨[.val (.named 11)], []⟩
def p_besomlaw14_refTint_o : Shape := ⟨[.val (.named 21)], []⟩
def p_besomlaw14_refTint : Spec E := mkSpec p_besomlaw14_refTint_c Tryz.f56 p_besomlaw14_refTint_i p_besomlaw14_refTint_o [.one (.named 11)] [.one (.named 21)] (by kernel_rfl) (by kernel_rfl)
def q_besomlaw14_refTint (a1 : Stint_Tint) : Option (Sbesomref09_Tint × Unit) := p_besomlaw14_refTint.F (a1, ())
def p_besomlaw14_refLedger_c : Cfg E := mkCfg Tryz.prog tab [] [] [] [] [] []
def p_besomlaw14_refLedger_i : Shape := ⟨[.val (.named 5)], []⟩
def p_besomlaw14_refLedger_o : Shape := ⟨[.val (.named 22)], []⟩
def p_besomlaw14_refLedger : Spec E := mkSpec p_besomlaw14_refLedger_c Tryz.f57 p_besomlaw14_refLedger_i p_besomlaw14_refLedger_o [.one (.named 5)] [.one (.named 22)] (by kernel_rfl) (by kernel_rfl)
def q_besomlaw14_refLedger (a1 : Sledger_Ledger) : Option (Sbesomref10_Ledger × Unit) := p_besomlaw14_refLedger.F (a1, ())
def p_besomlaw14_refDeque_c : Cfg E := mkCfg Tryz.prog tab [] [] [] [] [] []
def p_besomlaw14_refDeque_i : Shape := ⟨[.val (.named 6)], []⟩
def p_besomlaw14_refDeque_o : Shape := ⟨[.val (.named 23)], []⟩
def p_besomlaw14_refDeque : Spec E := mkSpec p_besomlaw14_refDeque_c Tryz.f60 p_besomlaw14_refDeque_i p_besomlaw14_refDeque_o [.one (.named 6)] [.one (.named 23)] (by kernel_rfl) (by kernel_rfl)
def q_besomlaw14_refDeque (a1 : Sdeque_Machine) : Option (Sbesomref07_Machine × Unit) := p_besomlaw14_refDeque.F (a1, ())
def p_besomlaw14_refChain_c : Cfg E := mkCfg Tryz.prog tab [] [] [] [] [] []
def p_besomlaw14_refChain_i : Shape := ⟨[.val (.named 7)], []⟩
def p_besomlaw14_refChain_o : Shape := ⟨[.val (.named 24)], []⟩
def p_besomlaw14_refChain : Spec E := mkSpec p_besomlaw14_refChain_c Tryz.f61 p_besomlaw14_refChain_i p_besomlaw14_refChain_o [.one (.named 7)] [.one (.named 24)] (by kernel_rfl) (by kernel_rfl)
def q_besomlaw14_refChain (a1 : Schain_Machine) : Option (Sbesomref08_Machine × Unit) := p_besomlaw14_refChain.F (a1, ())
def p_besomlaw14_refGrey_c : Cfg E := mkCfg Tryz.prog tab [(60, [p_besomlaw14_refDeque]), (61, [p_besomlaw14_refChain])] [] [] [] [] []
def p_besomlaw14_refGrey_i : Shape := ⟨[.val (.named 8)], []⟩
def p_besomlaw14_refGrey_o : Shape := ⟨[.val (.named 25)], []⟩
def p_besomlaw14_refGrey : Spec E := mkSpec p_besomlaw14_refGrey_c Tryz.f14 p_besomlaw14_refGrey_i p_besomlaw14_refGrey_o [.one (.named 8)] [.one (.named 25)] (by kernel_rfl) (by kernel_rfl)
def q_besomlaw14_refGrey (a1 : Sstate_Grey) : Option (Sbesomref13_Grey × Unit) := p_besomlaw14_refGrey.F (a1, ())
def p_besomlaw14_refWorker_c : Cfg E := mkCfg Tryz.prog tab [(14, [p_besomlaw14_refGrey]), (60, [p_besomlaw14_refDeque]), (61, [p_besomlaw14_refChain])] [] [] [] [] []
def p_besomlaw14_refWorker_i : Shape := ⟨[.val (.named 9)], []⟩
def p_besomlaw14_refWorker_o : Shape := ⟨[.val (.named 26)], []⟩
def p_besomlaw14_refWorker : Spec E := mkSpec p_besomlaw14_refWorker_c Tryz.f58 p_besomlaw14_refWorker_i p_besomlaw14_refWorker_o [.one (.named 9)] [.one (.named 26)] (by kernel_rfl) (by kernel_rfl)
def q_besomlaw14_refWorker (a1 : Sstate_Worker) : Option (Sbesomref13_Worker × Unit) := p_besomlaw14_refWorker.F (a1, ())
def p_besomlaw14_refMutator_c : Cfg E := mkCfg Tryz.prog tab [(14, [p_besomlaw14_refGrey]), (61, [p_besomlaw14_refChain])] [] [] [] [] []
def p_besomlaw14_refMutator_i : Shape := ⟨[.val (.named 10)], []⟩
def p_besomlaw14_refMutator_o : Shape := ⟨[.val (.named 27)], []⟩
def p_besomlaw14_refMutator : Spec E := mkSpec p_besomlaw14_refMutator_c Tryz.f59 p_besomlaw14_refMutator_i p_besomlaw14_refMutator_o [.one (.named 10)] [.one (.named 27)] (by kernel_rfl) (by kernel_rfl)
def q_besomlaw14_refMutator (a1 : Sstate_Mutator) : Option (Sbesomref13_Mutator × Unit) := p_besomlaw14_refMutator.F (a1, ())
def p_besomlaw14_refState_l3 : LoopSpec E := { slots := [1, 2, 3, 4], inn := ⟨[.ptr 0, .ptr 1, .ptr 2, vI], [.box true [vI, vI, vI, vI, vI, vI, vI, vI, vI, .val (.slice (.slice (.int .i64))), .val (.int .u64), .val (.slice (.slice (.int .i64))), .val (.slice (.slice (.named 1))), .val (.slice (.named 2)), vI, .val (.slice (.slice (.int .i64))), .val (.slice (.int .u64)), .val (.slice (.slice (.int .i64))), .val (.int .u64), .val (.int .u64), vI, vI, .val .bool, .val .bool, vI, .val (.slice (.int .i64)), vI, vI, vI, .val (.slice (.int .i64)), .val (.slice (.named 9)), .val (.slice (.named 10)), vI, vI], .box true [vI, vI, vI, vI, vI, vI, vI, vI, vI, .own 3, .val (.int .u64), .own 4, .own 5, .own 6, vI, .own 7, .own 8, .own 9, .val (.int .u64), .val (.int .u64), vI, vI, .val .bool, .val .bool, vI, .own 10, vI, vI, vI, .own 11, .own 12, .own 13, vI, vI], .box true [vI, vI, vI, vI, vI, vI, vI, vI, vI, .val (.slice (.slice (.int .i64))), .val (.int .u64), .val (.slice (.slice (.int .i64))), .val (.slice (.slice (.named 19))), .val (.slice (.named 18)), vI, .val (.slice (.slice (.int .i64))), .val (.slice (.int .u64)), .val (.slice (.slice (.int .i64))), .val (.int .u64), .val (.int .u64), vI, vI, .val .bool, .val .bool, vI, .val (.slice (.int .i64)), vI, vI, vI, .val (.slice (.int .i64)), .own 14, .own 15, vI, vI], .row true (.slice (.int .i64)), .row true (.slice (.int .i64)), .row true (.slice (.named 19)), .row true (.named 18), .row true (.slice (.int .i64)), .row true (.int .u64), .row true (.slice (.int .i64)), .row true (.int .i64), .row true (.int .i64), .row true (.named 26), .row true (.named 27), .row true (.named 26), .row true (.named 27)]⟩, brkId := 0, bslots := [1, 2, 3], brk := ⟨[.ptr 0, .ptr 1, .ptr 2], [.box true [vI, vI, vI, vI, vI, vI, vI, vI, vI, .val (.slice (.slice (.int .i64))), .val (.int .u64), .val (.slice (.slice (.int .i64))), .val (.slice (.slice (.named 1))), .val (.slice (.named 2)), vI, .val (.slice (.slice (.int .i64))), .val (.slice (.int .u64)), .val (.slice (.slice (.int .i64))), .val (.int .u64), .val (.int .u64), vI, vI, .val .bool, .val .bool, vI, .val (.slice (.int .i64)), vI, vI, vI, .val (.slice (.int .i64)), .val (.slice (.named 9)), .val (.slice (.named 10)), vI, vI], .box true [vI, vI, vI, vI, vI, vI, vI, vI, vI, .own 3, .val (.int .u64), .own 4, .own 5, .own 6, vI, .own 7, .own 8, .own 9, .val (.int .u64), .val (.int .u64), vI, vI, .val .bool, .val .bool, vI, .own 10, vI, vI, vI, .own 11, .own 12, .own 13, vI, vI], .box true [vI, vI, vI, vI, vI, vI, vI, vI, vI, .val (.slice (.slice (.int .i64))), .val (.int .u64), .val (.slice (.slice (.int .i64))), .val (.slice (.slice (.named 19))), .val (.slice (.named 18)), vI, .val (.slice (.slice (.int .i64))), .val (.slice (.int .u64)), .val (.slice (.slice (.int .i64))), .val (.int .u64), .val (.int .u64), vI, vI, .val .bool, .val .bool, vI, .val (.slice (.int .i64)), vI, vI, vI, .val (.slice (.int .i64)), .own 14, .own 15, vI, vI], .row true (.slice (.int .i64)), .row true (.slice (.int .i64)), .row true (.slice (.named 19)), .row true (.named 18), .row true (.slice (.int .i64)), .row true (.int .u64), .row true (.slice (.int .i64)), .row true (.int .i64), .row true (.int .i64), .row true (.named 26), .row true (.named 27), .row true (.named 26), .row true (.named 27)]⟩, rslots := [], ret := ⟨[], []⟩, gi := grp [oI, .str 14, oI, oI, oI, oI, oI, oI, oI, oI, oI, .one (.int .u64), oI, .str 21, oI, oI, .one .bool, .one .bool, oI, oI, oI, oI, .str 28, .str 20, .str 17, .one (.slice (.int .u64)), .one (.slice (.slice (.int .i64))), .str 21, oI, oI, .one .bool, .one .bool, oI, .one (.slice (.int .i64)), .str 22, .str 28, .one (.slice (.slice (.int .i64))), .one (.slice (.slice (.int .i64))), .one (.slice (.slice (.named 19))), .one (.slice (.named 18)), .one (.slice (.slice (.int .i64))), .one (.slice (.int .u64)), .one (.slice (.slice (.int .i64))), .one (.slice (.int .i64)), .one (.slice (.int .i64)), .one (.slice (.named 26)), .one (.slice (.named 27)), .one (.slice (.named 26)), .one (.slice (.named 27))] (by kernel_rfl), gb := grp [.str 14, oI, oI, oI, oI, oI, oI, oI, oI, oI, .one (.int .u64), oI, .str 21, oI, oI, .one .bool, .one .bool, oI, oI, oI, oI, .str 28, .str 20, .str 17, .one (.slice (.int .u64)), .one (.slice (.slice (.int .i64))), .str 21, oI, oI, .one .bool, .one .bool, oI, .one (.slice (.int .i64)), .str 22, .str 28, .one (.slice (.slice (.int .i64))), .one (.slice (.slice (.int .i64))), .one (.slice (.slice (.named 19))), .one (.slice (.named 18)), .one (.slice (.slice (.int .i64))), .one (.slice (.int .u64)), .one (.slice (.slice (.int .i64))), .one (.slice (.int .i64)), .one (.slice (.int .i64)), .one (.slice (.named 26)), .one (.slice (.named 27)), .one (.slice (.named 26)), .one (.slice (.named 27))] (by kernel_rfl), gr := grp [] (by kernel_rfl) }
def p_besomlaw14_refState_l7 : LoopSpec E := { slots := [1, 2, 3, 5], inn := ⟨[.ptr 0, .ptr 1, .ptr 2, vI], [.box true [vI, vI, vI, vI, vI, vI, vI, vI, vI, .val (.slice (.slice (.int .i64))), .val (.int .u64), .val (.slice (.slice (.int .i64))), .val (.slice (.slice (.named 1))), .val (.slice (.named 2)), vI, .val (.slice (.slice (.int .i64))), .val (.slice (.int .u64)), .val (.slice (.slice (.int .i64))), .val (.int .u64), .val (.int .u64), vI, vI, .val .bool, .val .bool, vI, .val (.slice (.int .i64)), vI, vI, vI, .val (.slice (.int .i64)), .val (.slice (.named 9)), .val (.slice (.named 10)), vI, vI], .box true [vI, vI, vI, vI, vI, vI, vI, vI, vI, .own 3, .val (.int .u64), .own 4, .own 5, .own 6, vI, .own 7, .own 8, .own 9, .val (.int .u64), .val (.int .u64), vI, vI, .val .bool, .val .bool, vI, .own 10, vI, vI, vI, .own 11, .own 12, .own 13, vI, vI], .box true [vI, vI, vI, vI, vI, vI, vI, vI, vI, .val (.slice (.slice (.int .i64))), .val (.int .u64), .val (.slice (.slice (.int .i64))), .val (.slice (.slice (.named 19))), .val (.slice (.named 18)), vI, .val (.slice (.slice (.int .i64))), .val (.slice (.int .u64)), .val (.slice (.slice (.int .i64))), .val (.int .u64), .val (.int .u64), vI, vI, .val .bool, .val .bool, vI, .val (.slice (.int .i64)), vI, vI, vI, .val (.slice (.int .i64)), .own 14, .own 15, vI, vI], .row true (.slice (.int .i64)), .row true (.slice (.int .i64)), .row true (.slice (.named 19)), .row true (.named 18), .row true (.slice (.int .i64)), .row true (.int .u64), .row true (.slice (.int .i64)), .row true (.int .i64), .row true (.int .i64), .row true (.named 26), .row true (.named 27), .row true (.named 26), .row true (.named 27)]⟩, brkId := 2, bslots := [2, 3], brk := ⟨[.ptr 0, .ptr 1], [.box true [vI, vI, vI, vI, vI, vI, vI, vI, vI, .own 2, .val (.int .u64), .own 3, .own 4, .own 5, vI, .own 6, .own 7, .own 8, .val (.int .u64), .val (.int .u64), vI, vI, .val .bool, .val .bool, vI, .own 9, vI, vI, vI, .own 10, .own 11, .own 12, vI, vI], .box true [vI, vI, vI, vI, vI, vI, vI, vI, vI, .val (.slice (.slice (.int .i64))), .val (.int .u64), .val (.slice (.slice (.int .i64))), .val (.slice (.slice (.named 19))), .val (.slice (.named 18)), vI, .val (.slice (.slice (.int .i64))), .val (.slice (.int .u64)), .val (.slice (.slice (.int .i64))), .val (.int .u64), .val (.int .u64), vI, vI, .val .bool, .val .bool, vI, .val (.slice (.int .i64)), vI, vI, vI, .val (.slice (.int .i64)), .own 13, .own 14, vI, vI], .row true (.slice (.int .i64)), .row true (.slice (.int .i64)), .row true (.slice (.named 19)), .row true (.named 18), .row true (.slice (.int .i64)), .row true (.int .u64), .row true (.slice (.int .i64)), .row true (.int .i64), .row true (.int .i64), .row true (.named 26), .row true (.named 27), .row true (.named 26), .row true (.named 27)]⟩, rslots := [], ret := ⟨[], []⟩, gi := grp [oI, .str 14, oI, oI, oI, oI, oI, oI, oI, oI, oI, .one (.int .u64), oI, .str 21, oI, oI, .one .bool, .one .bool, oI, oI, oI, oI, .str 28, .str 20, .str 17, .one (.slice (.int .u64)), .one (.slice (.slice (.int .i64))), .str 21, oI, oI, .one .bool, .one .bool, oI, .one (.slice (.int .i64)), .str 22, .str 28, .one (.slice (.slice (.int .i64))), .one (.slice (.slice (.int .i64))), .one (.slice (.slice (.named 19))), .one (.slice (.named 18)), .one (.slice (.slice (.int .i64))), .one (.slice (.int .u64)), .one (.slice (.slice (.int .i64))), .one (.slice (.int .i64)), .one (.slice (.int .i64)), .one (.slice (.named 26)), .one (.slice (.named 27)), .one (.slice (.named 26)), .one (.slice (.named 27))] (by kernel_rfl), gb := grp [oI, oI, oI, oI, oI, oI, oI, oI, oI, .one (.int .u64), oI, .str 21, oI, oI, .one .bool, .one .bool, oI, oI, oI, oI, .str 28, .str 20, .str 17, .one (.slice (.int .u64)), .one (.slice (.slice (.int .i64))), .str 21, oI, oI, .one .bool, .one .bool, oI, .one (.slice (.int .i64)), .str 22, .str 28, .one (.slice (.slice (.int .i64))), .one (.slice (.slice (.int .i64))), .one (.slice (.slice (.named 19))), .one (.slice (.named 18)), .one (.slice (.slice (.int .i64))), .one (.slice (.int .u64)), .one (.slice (.slice (.int .i64))), .one (.slice (.int .i64)), .one (.slice (.int .i64)), .one (.slice (.named 26)), .one (.slice (.named 27)), .one (.slice (.named 26)), .one (.slice (.named 27))] (by kernel_rfl), gr := grp [] (by kernel_rfl) }
def p_besomlaw14_refState_c : Cfg E := mkCfg Tryz.prog tab [(54, [p_besomlaw14_refPlan]), (55, [p_besomlaw14_refHeap]), (56, [p_besomlaw14_refTint]), (57, [p_besomlaw14_refLedger]), (58, [p_besomlaw14_refWorker]), (59, [p_besomlaw14_refMutator])] [(3, p_besomlaw14_refState_l3), (7, p_besomlaw14_refState_l7)] [] [] [] []
def p_besomlaw14_refState_i : Shape := ⟨[.val (.named 14)], []⟩
def p_besomlaw14_refState_o : Shape := ⟨[.val (.named 29)], []⟩
def p_besomlaw14_refState : Spec E := mkSpec p_besomlaw14_refState_c Tryz.f13 p_besomlaw14_refState_i p_besomlaw14_refState_o [.one (.named 14)] [.one (.named 29)] (by kernel_rfl) (by kernel_rfl)
def q_besomlaw14_refState (a1 : Sstate_State) : Option (Sbesomref13_State × Unit) := p_besomlaw14_refState.F (a1, ())
def p_besomlaw14_refState_r3 (x : Int × Sstate_State × Int × Int × Int × Int × Int × Int × Int × Int × Int × (BitVec 64) × Int × Sbesomref09_Tint × Int × Int × Bool × Bool × Int × Int × Int × Int × Sbesomref13_Detect × Sbesomref12_Plan × Sbesomref03_Heap × (List (BitVec 64)) × (List (List Int)) × Sbesomref09_Tint × Int × Int × Bool × Bool × Int × (List Int) × Sbesomref10_Ledger × Sbesomref13_Detect × (List (List Int)) × (List (List Int)) × (List (List Sbesomref11_Op)) × (List Sbesomref01_Pick) × (List (List Int)) × (List (BitVec 64)) × (List (List Int)) × (List Int) × (List Int) × (List Sbesomref13_Worker) × (List Sbesomref13_Mutator) × (List Sbesomref13_Worker) × (List Sbesomref13_Mutator) × Unit) : Option (Stop (Int × Sstate_State × Int × Int × Int × Int × Int × Int × Int × Int × Int × (BitVec 64) × Int × Sbesomref09_Tint × Int × Int × Bool × Bool × Int × Int × Int × Int × Sbesomref13_Detect × Sbesomref12_Plan × Sbesomref03_Heap × (List (BitVec 64)) × (List (List Int)) × Sbesomref09_Tint × Int × Int × Bool × Bool × Int × (List Int) × Sbesomref10_Ledger × Sbesomref13_Detect × (List (List Int)) × (List (List Int)) × (List (List Sbesomref11_Op)) × (List Sbesomref01_Pick) × (List (List Int)) × (List (BitVec 64)) × (List (List Int)) × (List Int) × (List Int) × (List Sbesomref13_Worker) × (List Sbesomref13_Mutator) × (List Sbesomref13_Worker) × (List Sbesomref13_Mutator) × Unit) (Sstate_State × Int × Int × Int × Int × Int × Int × Int × Int × Int × (BitVec 64) × Int × Sbesomref09_Tint × Int × Int × Bool × Bool × Int × Int × Int × Int × Sbesomref13_Detect × Sbesomref12_Plan × Sbesomref03_Heap × (List (BitVec 64)) × (List (List Int)) × Sbesomref09_Tint × Int × Int × Bool × Bool × Int × (List Int) × Sbesomref10_Ledger × Sbesomref13_Detect × (List (List Int)) × (List (List Int)) × (List (List Sbesomref11_Op)) × (List Sbesomref01_Pick) × (List (List Int)) × (List (BitVec 64)) × (List (List Int)) × (List Int) × (List Int) × (List Sbesomref13_Worker) × (List Sbesomref13_Mutator) × (List Sbesomref13_Worker) × (List Sbesomref13_Mutator) × Unit) (Unit)) := roundBy p_besomlaw14_refState_c (exec p_besomlaw14_refState_c (loopAt Tryz.f13 3)) 79 p_besomlaw14_refState_l3 x
def p_besomlaw14_refState_r7 (x : Int × Sstate_State × Int × Int × Int × Int × Int × Int × Int × Int × Int × (BitVec 64) × Int × Sbesomref09_Tint × Int × Int × Bool × Bool × Int × Int × Int × Int × Sbesomref13_Detect × Sbesomref12_Plan × Sbesomref03_Heap × (List (BitVec 64)) × (List (List Int)) × Sbesomref09_Tint × Int × Int × Bool × Bool × Int × (List Int) × Sbesomref10_Ledger × Sbesomref13_Detect × (List (List Int)) × (List (List Int)) × (List (List Sbesomref11_Op)) × (List Sbesomref01_Pick) × (List (List Int)) × (List (BitVec 64)) × (List (List Int)) × (List Int) × (List Int) × (List Sbesomref13_Worker) × (List Sbesomref13_Mutator) × (List Sbesomref13_Worker) × (List Sbesomref13_Mutator) × Unit) : Option (Stop (Int × Sstate_State × Int × Int × Int × Int × Int × Int × Int × Int × Int × (BitVec 64) × Int × Sbesomref09_Tint × Int × Int × Bool × Bool × Int × Int × Int × Int × Sbesomref13_Detect × Sbesomref12_Plan × Sbesomref03_Heap × (List (BitVec 64)) × (List (List Int)) × Sbesomref09_Tint × Int × Int × Bool × Bool × Int × (List Int) × Sbesomref10_Ledger × Sbesomref13_Detect × (List (List Int)) × (List (List Int)) × (List (List Sbesomref11_Op)) × (List Sbesomref01_Pick) × (List (List Int)) × (List (BitVec 64)) × (List (List Int)) × (List Int) × (List Int) × (List Sbesomref13_Worker) × (List Sbesomref13_Mutator) × (List Sbesomref13_Worker) × (List Sbesomref13_Mutator) × Unit) (Int × Int × Int × Int × Int × Int × Int × Int × Int × (BitVec 64) × Int × Sbesomref09_Tint × Int × Int × Bool × Bool × Int × Int × Int × Int × Sbesomref13_Detect × Sbesomref12_Plan × Sbesomref03_Heap × (List (BitVec 64)) × (List (List Int)) × Sbesomref09_Tint × Int × Int × Bool × Bool × Int × (List Int) × Sbesomref10_Ledger × Sbesomref13_Detect × (List (List Int)) × (List (List Int)) × (List (List Sbesomref11_Op)) × (List Sbesomref01_Pick) × (List (List Int)) × (List (BitVec 64)) × (List (List Int)) × (List Int) × (List Int) × (List Sbesomref13_Worker) × (List Sbesomref13_Mutator) × (List Sbesomref13_Worker) × (List Sbesomref13_Mutator) × Unit) (Unit)) := roundBy p_besomlaw14_refState_c (exec p_besomlaw14_refState_c (loopAt Tryz.f13 7)) 79 p_besomlaw14_refState_l7 x
def p_besomref08_Start_c : Cfg E := mkCfg Tryz.prog tab [] [] [] [] [] []
def p_besomref08_Start_i : Shape := ⟨[vI, vI, vI, vI], []⟩
def p_besomref08_Start_o : Shape := ⟨[.val (.named 24)], []⟩
def p_besomref08_Start : Spec E := mkSpec p_besomref08_Start_c Tryz.f132 p_besomref08_Start_i p_besomref08_Start_o [oI, oI, oI, oI] [.one (.named 24)] (by kernel_rfl) (by kernel_rfl)
def q_besomref08_Start (a1 : Int) (a2 : Int) (a3 : Int) (a4 : Int) : Option (Sbesomref08_Machine × Unit) := p_besomref08_Start.F (a1, a2, a3, a4, ())
def p_besomref13_Deque_c : Cfg E := mkCfg Tryz.prog tab [] [] [] [] [] []
def p_besomref13_Deque_i : Shape := ⟨[.val (.named 20), vI], []⟩
def p_besomref13_Deque_o : Shape := ⟨[vI], []⟩
def p_besomref13_Deque : Spec E := mkSpec p_besomref13_Deque_c Tryz.f128 p_besomref13_Deque_i p_besomref13_Deque_o [.one (.named 20), oI] [oI] (by kernel_rfl) (by kernel_rfl)
def q_besomref13_Deque (a1 : Sbesomref12_Plan) (a2 : Int) : Option (Int × Unit) := p_besomref13_Deque.F (a1, a2, ())
def p_besomref13_Full_c : Cfg E := mkCfg Tryz.prog tab [(128, [p_besomref13_Deque])] [] [] [] [] []
def p_besomref13_Full_i : Shape := ⟨[.val (.named 20)], []⟩
def p_besomref13_Full_o : Shape := ⟨[vI], []⟩
def p_besomref13_Full : Spec E := mkSpec p_besomref13_Full_c Tryz.f135 p_besomref13_Full_i p_besomref13_Full_o [.one (.named 20)] [oI] (by kernel_rfl) (by kernel_rfl)
def q_besomref13_Full (a1 : Sbesomref12_Plan) : Option (Int × Unit) := p_besomref13_Full.F (a1, ())
def p_besomref13_Empty_c : Cfg E := mkCfg Tryz.prog tab [(135, [p_besomref13_Full])] [] [] [] [] []
def p_besomref13_Empty_i : Shape := ⟨[.val (.named 20)], []⟩
def p_besomref13_Empty_o : Shape := ⟨[vI], []⟩
def p_besomref13_Empty : Spec E := mkSpec p_besomref13_Empty_c Tryz.f133 p_besomref13_Empty_i p_besomref13_Empty_o [.one (.named 20)] [oI] (by kernel_rfl) (by kernel_rfl)
def q_besomref13_Empty (a1 : Sbesomref12_Plan) : Option (Int × Unit) := p_besomref13_Empty.F (a1, ())
def p_besomref13_Next_c : Cfg E := mkCfg Tryz.prog tab [(133, [p_besomref13_Empty])] [] [] [] [] []
def p_besomref13_Next_i : Shape := ⟨[.val (.named 20)], []⟩
def p_besomref13_Next_o : Shape := ⟨[vI], []⟩
def p_besomref13_Next : Spec E := mkSpec p_besomref13_Next_c Tryz.f134 p_besomref13_Next_i p_besomref13_Next_o [.one (.named 20)] [oI] (by kernel_rfl) (by kernel_rfl)
def q_besomref13_Next (a1 : Sbesomref12_Plan) : Option (Int × Unit) := p_besomref13_Next.F (a1, ())
def p_besomref14_List_c : Cfg E := mkCfg Tryz.prog tab [(132, [p_besomref08_Start]), (133, [p_besomref13_Empty]), (134, [p_besomref13_Next]), (135, [p_besomref13_Full])] [] [] [] [] []
def p_besomref14_List_i : Shape := ⟨[.val (.named 29), vI], []⟩
def p_besomref14_List_o : Shape := ⟨[.val (.named 24)], []⟩
def p_besomref14_List : Spec E := mkSpec p_besomref14_List_c Tryz.f72 p_besomref14_List_i p_besomref14_List_o [.one (.named 29), oI] [.one (.named 24)] (by kernel_rfl) (by kernel_rfl)
def q_besomref14_List (a1 : Sbesomref13_State) (a2 : Int) : Option (Sbesomref08_Machine × Unit) := p_besomref14_List.F (a1, a2, ())
def p_besomref02_object_c : Cfg E := mkCfg Tryz.prog tab [] [] [] [] [] []
def p_besomref02_object_i : Shape := ⟨[vI], []⟩
def p_besomref02_object_o : Shape := ⟨[.val .bool], []⟩
def p_besomref02_object : Spec E := mkSpec p_besomref02_object_c Tryz.f197 p_besomref02_object_i p_besomref02_object_o [oI] [.one .bool] (by kernel_rfl) (by kernel_rfl)
def q_besomref02_object (a1 : Int) : Option (Bool × Unit) := p_besomref02_object.F (a1, ())
def p_besomref02_Has_c : Cfg E := mkCfg Tryz.prog tab [(197, [p_besomref02_object])] [] [] [] [] []
def p_besomref02_Has_i : Shape := ⟨[.val (.int .u64), vI], []⟩
def p_besomref02_Has_o : Shape := ⟨[.val .bool], []⟩
def p_besomref02_Has : Spec E := mkSpec p_besomref02_Has_c Tryz.f166 p_besomref02_Has_i p_besomref02_Has_o [.one (.int .u64), oI] [.one .bool] (by kernel_rfl) (by kernel_rfl)
def q_besomref02_Has (a1 : BitVec 64) (a2 : Int) : Option (Bool × Unit) := p_besomref02_Has.F (a1, a2, ())
def p_besomref02_Add_c : Cfg E := mkCfg Tryz.prog tab [(197, [p_besomref02_object])] [] [] [] [] []
def p_besomref02_Add_i : Shape := ⟨[.val (.int .u64), vI], []⟩
def p_besomref02_Add_o : Shape := ⟨[.val (.int .u64)], []⟩
def p_besomref02_Add : Spec E := mkSpec p_besomref02_Add_c Tryz.f167 p_besomref02_Add_i p_besomref02_Add_o [.one (.int .u64), oI] [.one (.int .u64)] (by kernel_rfl) (by kernel_rfl)
def q_besomref02_Add (a1 : BitVec 64) (a2 : Int) : Option ((BitVec 64) × Unit) := p_besomref02_Add.F (a1, a2, ())
def p_besomref09_Shade_c : Cfg E := mkCfg Tryz.prog tab [(166, [p_besomref02_Has]), (167, [p_besomref02_Add])] [] [] [] [] []
def p_besomref09_Shade_i : Shape := ⟨[.val (.named 21), vI], []⟩
def p_besomref09_Shade_o : Shape := ⟨[.val (.named 21), .val .bool], []⟩
def p_besomref09_Shade : Spec E := mkSpec p_besomref09_Shade_c Tryz.f126 p_besomref09_Shade_i p_besomref09_Shade_o [.one (.named 21), oI] [.one (.named 21), .one .bool] (by kernel_rfl) (by kernel_rfl)
def q_besomref09_Shade (a1 : Sbesomref09_Tint) (a2 : Int) : Option (Sbesomref09_Tint × Bool × Unit) := p_besomref09_Shade.F (a1, a2, ())
def p_besomref07_Start_c : Cfg E := mkCfg Tryz.prog tab [] [] [] [] [] []
def p_besomref07_Start_i : Shape := ⟨[vI, vI, vI, vI], []⟩
def p_besomref07_Start_o : Shape := ⟨[.val (.named 23)], []⟩
def p_besomref07_Start : Spec E := mkSpec p_besomref07_Start_c Tryz.f127 p_besomref07_Start_i p_besomref07_Start_o [oI, oI, oI, oI] [.one (.named 23)] (by kernel_rfl) (by kernel_rfl)
def q_besomref07_Start (a1 : Int) (a2 : Int) (a3 : Int) (a4 : Int) : Option (Sbesomref07_Machine × Unit) := p_besomref07_Start.F (a1, a2, a3, a4, ())
def p_besomref14_mark_c : Cfg E := mkCfg Tryz.prog tab [(72, [p_besomref14_List]), (126, [p_besomref09_Shade]), (127, [p_besomref07_Start]), (128, [p_besomref13_Deque])] [] [] [] [] []
def p_besomref14_mark_i : Shape := ⟨[.val (.named 29), .val (.named 25)], []⟩
def p_besomref14_mark_o : Shape := ⟨[.val (.named 29), .val (.named 25)], []⟩
def p_besomref14_mark : Spec E := mkSpec p_besomref14_mark_c Tryz.f70 p_besomref14_mark_i p_besomref14_mark_o [.one (.named 29), .one (.named 25)] [.one (.named 29), .one (.named 25)] (by kernel_rfl) (by kernel_rfl)
def q_besomref14_mark (a1 : Sbesomref13_State) (a2 : Sbesomref13_Grey) : Option (Sbesomref13_State × Sbesomref13_Grey × Unit) := p_besomref14_mark.F (a1, a2, ())
def p_besomref05_Do_c : Cfg E := mkCfg Tryz.prog tab [] [] [] [] [] []
def p_besomref05_Do_i : Shape := ⟨[.val (.slice (.int .u64)), .val (.named 30)], []⟩
def p_besomref05_Do_o : Shape := ⟨[.val (.slice (.int .u64)), .val (.int .u64), .val .bool], []⟩
def p_besomref05_Do : Spec E := mkSpec p_besomref05_Do_c Tryz.f172 p_besomref05_Do_i p_besomref05_Do_o [.one (.slice (.int .u64)), .one (.named 30)] [.one (.slice (.int .u64)), .one (.int .u64), .one .bool] (by kernel_rfl) (by kernel_rfl)
def q_besomref05_Do (a1 : List (BitVec 64)) (a2 : Sbesomref05_Op) : Option ((List (BitVec 64)) × (BitVec 64) × Bool × Unit) := p_besomref05_Do.F (a1, a2, ())
def p_besomref07_load_c : Cfg E := mkCfg Tryz.prog tab [(172, [p_besomref05_Do])] [] [] [] [] []
def p_besomref07_load_i : Shape := ⟨[.val (.slice (.int .u64)), vI], []⟩
def p_besomref07_load_o : Shape := ⟨[.val (.int .u64)], []⟩
def p_besomref07_load : Spec E := mkSpec p_besomref07_load_c Tryz.f168 p_besomref07_load_i p_besomref07_load_o [.one (.slice (.int .u64)), oI] [.one (.int .u64)] (by kernel_rfl) (by kernel_rfl)
def q_besomref07_load (a1 : List (BitVec 64)) (a2 : Int) : Option ((BitVec 64) × Unit) := p_besomref07_load.F (a1, a2, ())
def p_besomref07_store_c : Cfg E := mkCfg Tryz.prog tab [(172, [p_besomref05_Do])] [] [] [] [] []
def p_besomref07_store_i : Shape := ⟨[.val (.slice (.int .u64)), vI, .val (.int .u64)], []⟩
def p_besomref07_store_o : Shape := ⟨[.val (.slice (.int .u64))], []⟩
def p_besomref07_store : Spec E := mkSpec p_besomref07_store_c Tryz.f169 p_besomref07_store_i p_besomref07_store_o [.one (.slice (.int .u64)), oI, .one (.int .u64)] [.one (.slice (.int .u64))] (by kernel_rfl) (by kernel_rfl)
def q_besomref07_store (a1 : List (BitVec 64)) (a2 : Int) (a3 : BitVec 64) : Option ((List (BitVec 64)) × Unit) := p_besomref07_store.F (a1, a2, a3, ())
def p_besomref07_place_c : Cfg E := mkCfg Tryz.prog tab [] [] [] [] [] []
def p_besomref07_place_i : Shape := ⟨[.val (.named 23), .val (.int .u64)], []⟩
def p_besomref07_place_o : Shape := ⟨[vI], []⟩
def p_besomref07_place : Spec E := mkSpec p_besomref07_place_c Tryz.f170 p_besomref07_place_i p_besomref07_place_o [.one (.named 23), .one (.int .u64)] [oI] (by kernel_rfl) (by kernel_rfl)
def q_besomref07_place (a1 : Sbesomref07_Machine) (a2 : BitVec 64) : Option (Int × Unit) := p_besomref07_place.F (a1, a2, ())
def p_besomref07_push_c : Cfg E := mkCfg Tryz.prog tab [(168, [p_besomref07_load]), (169, [p_besomref07_store]), (170, [p_besomref07_place])] [] [] [] [] []
def p_besomref07_push_i : Shape := ⟨[.val (.slice (.int .u64)), .val (.named 23)], []⟩
def p_besomref07_push_o : Shape := ⟨[.val (.slice (.int .u64)), .val (.named 23)], []⟩
def p_besomref07_push : Spec E := mkSpec p_besomref07_push_c Tryz.f129 p_besomref07_push_i p_besomref07_push_o [.one (.slice (.int .u64)), .one (.named 23)] [.one (.slice (.int .u64)), .one (.named 23)] (by kernel_rfl) (by kernel_rfl)
def q_besomref07_push (a1 : List (BitVec 64)) (a2 : Sbesomref07_Machine) : Option ((List (BitVec 64)) × Sbesomref07_Machine × Unit) := p_besomref07_push.F (a1, a2, ())
def p_besomref07_swap_c : Cfg E := mkCfg Tryz.prog tab [(172, [p_besomref05_Do])] [] [] [] [] []
def p_besomref07_swap_i : Shape := ⟨[.val (.slice (.int .u64)), vI, .val (.int .u64), .val (.int .u64)], []⟩
def p_besomref07_swap_o : Shape := ⟨[.val (.slice (.int .u64)), .val .bool], []⟩
def p_besomref07_swap : Spec E := mkSpec p_besomref07_swap_c Tryz.f171 p_besomref07_swap_i p_besomref07_swap_o [.one (.slice (.int .u64)), oI, .one (.int .u64), .one (.int .u64)] [.one (.slice (.int .u64)), .one .bool] (by kernel_rfl) (by kernel_rfl)
def q_besomref07_swap (a1 : List (BitVec 64)) (a2 : Int) (a3 : BitVec 64) (a4 : BitVec 64) : Option ((List (BitVec 64)) × Bool × Unit) := p_besomref07_swap.F (a1, a2, a3, a4, ())
def p_besomref07_pop_c : Cfg E := mkCfg Tryz.prog tab [(168, [p_besomref07_load]), (169, [p_besomref07_store]), (170, [p_besomref07_place]), (171, [p_besomref07_swap])] [] [] [] [] []
def p_besomref07_pop_i : Shape := ⟨[.val (.slice (.int .u64)), .val (.named 23)], []⟩
def p_besomref07_pop_o : Shape := ⟨[.val (.slice (.int .u64)), .val (.named 23)], []⟩
def p_besomref07_pop : Spec E := mkSpec p_besomref07_pop_c Tryz.f130 p_besomref07_pop_i p_besomref07_pop_o [.one (.slice (.int .u64)), .one (.named 23)] [.one (.slice (.int .u64)), .one (.named 23)] (by kernel_rfl) (by kernel_rfl)
def q_besomref07_pop (a1 : List (BitVec 64)) (a2 : Sbesomref07_Machine) : Option ((List (BitVec 64)) × Sbesomref07_Machine × Unit) := p_besomref07_pop.F (a1, a2, ())
def p_besomref07_steal_c : Cfg E := mkCfg Tryz.prog tab [(168, [p_besomref07_load]), (170, [p_besomref07_place]), (171, [p_besomref07_swap])] [] [] [] [] []
def p_besomref07_steal_i : Shape := ⟨[.val (.slice (.int .u64)), .val (.named 23)], []⟩
def p_besomref07_steal_o : Shape := ⟨[.val (.slice (.int .u64)), .val (.named 23)], []⟩
def p_besomref07_steal : Spec E := mkSpec p_besomref07_steal_c Tryz.f131 p_besomref07_steal_i p_besomref07_steal_o [.one (.slice (.int .u64)), .one (.named 23)] [.one (.slice (.int .u64)), .one (.named 23)] (by kernel_rfl) (by kernel_rfl)
def q_besomref07_steal (a1 : List (BitVec 64)) (a2 : Sbesomref07_Machine) : Option ((List (BitVec 64)) × Sbesomref07_Machine × Unit) := p_besomref07_steal.F (a1, a2, ())
def p_besomref07_Step_c : Cfg E := mkCfg Tryz.prog tab [(129, [p_besomref07_push]), (130, [p_besomref07_pop]), (131, [p_besomref07_steal])] [] [] [] [] []
def p_besomref07_Step_i : Shape := ⟨[.val (.slice (.int .u64)), .val (.named 23)], []⟩
def p_besomref07_Step_o : Shape := ⟨[.val (.slice (.int .u64)), .val (.named 23)], []⟩
def p_besomref07_Step : Spec E := mkSpec p_besomref07_Step_c Tryz.f71 p_besomref07_Step_i p_besomref07_Step_o [.one (.slice (.int .u64)), .one (.named 23)] [.one (.slice (.int .u64)), .one (.named 23)] (by kernel_rfl) (by kernel_rfl)
def q_besomref07_Step (a1 : List (BitVec 64)) (a2 : Sbesomref07_Machine) : Option ((List (BitVec 64)) × Sbesomref07_Machine × Unit) := p_besomref07_Step.F (a1, a2, ())
def p_besomref08_load_c : Cfg E := mkCfg Tryz.prog tab [(172, [p_besomref05_Do])] [] [] [] [] []
def p_besomref08_load_i : Shape := ⟨[.val (.slice (.int .u64)), vI], []⟩
def p_besomref08_load_o : Shape := ⟨[.val (.int .u64)], []⟩
def p_besomref08_load : Spec E := mkSpec p_besomref08_load_c Tryz.f136 p_besomref08_load_i p_besomref08_load_o [.one (.slice (.int .u64)), oI] [.one (.int .u64)] (by kernel_rfl) (by kernel_rfl)
def q_besomref08_load (a1 : List (BitVec 64)) (a2 : Int) : Option ((BitVec 64) × Unit) := p_besomref08_load.F (a1, a2, ())
def p_besomref08_Node_c : Cfg E := mkCfg Tryz.prog tab [] [] [] [] [] []
def p_besomref08_Node_i : Shape := ⟨[.val (.int .u64)], []⟩
def p_besomref08_Node_o : Shape := ⟨[vI], []⟩
def p_besomref08_Node : Spec E := mkSpec p_besomref08_Node_c Tryz.f137 p_besomref08_Node_i p_besomref08_Node_o [.one (.int .u64)] [oI] (by kernel_rfl) (by kernel_rfl)
def q_besomref08_Node (a1 : BitVec 64) : Option (Int × Unit) := p_besomref08_Node.F (a1, ())
def p_besomref08_store_c : Cfg E := mkCfg Tryz.prog tab [(172, [p_besomref05_Do])] [] [] [] [] []
def p_besomref08_store_i : Shape := ⟨[.val (.slice (.int .u64)), vI, .val (.int .u64)], []⟩
def p_besomref08_store_o : Shape := ⟨[.val (.slice (.int .u64))], []⟩
def p_besomref08_store : Spec E := mkSpec p_besomref08_store_c Tryz.f138 p_besomref08_store_i p_besomref08_store_o [.one (.slice (.int .u64)), oI, .one (.int .u64)] [.one (.slice (.int .u64))] (by kernel_rfl) (by kernel_rfl)
def q_besomref08_store (a1 : List (BitVec 64)) (a2 : Int) (a3 : BitVec 64) : Option ((List (BitVec 64)) × Unit) := p_besomref08_store.F (a1, a2, a3, ())
def p_besomref08_Pack_c : Cfg E := mkCfg Tryz.prog tab [] [] [] [] [] []
def p_besomref08_Pack_i : Shape := ⟨[.val (.int .u64), vI], []⟩
def p_besomref08_Pack_o : Shape := ⟨[.val (.int .u64)], []⟩
def p_besomref08_Pack : Spec E := mkSpec p_besomref08_Pack_c Tryz.f173 p_besomref08_Pack_i p_besomref08_Pack_o [.one (.int .u64), oI] [.one (.int .u64)] (by kernel_rfl) (by kernel_rfl)
def q_besomref08_Pack (a1 : BitVec 64) (a2 : Int) : Option ((BitVec 64) × Unit) := p_besomref08_Pack.F (a1, a2, ())
def p_besomref08_swap_c : Cfg E := mkCfg Tryz.prog tab [(172, [p_besomref05_Do]), (173, [p_besomref08_Pack])] [] [] [] [] []
def p_besomref08_swap_i : Shape := ⟨[.val (.slice (.int .u64)), .val (.named 24), vI], []⟩
def p_besomref08_swap_o : Shape := ⟨[.val (.slice (.int .u64)), .val .bool], []⟩
def p_besomref08_swap : Spec E := mkSpec p_besomref08_swap_c Tryz.f139 p_besomref08_swap_i p_besomref08_swap_o [.one (.slice (.int .u64)), .one (.named 24), oI] [.one (.slice (.int .u64)), .one .bool] (by kernel_rfl) (by kernel_rfl)
def q_besomref08_swap (a1 : List (BitVec 64)) (a2 : Sbesomref08_Machine) (a3 : Int) : Option ((List (BitVec 64)) × Bool × Unit) := p_besomref08_swap.F (a1, a2, a3, ())
def p_besomref08_Step_c : Cfg E := mkCfg Tryz.prog tab [(136, [p_besomref08_load]), (137, [p_besomref08_Node]), (138, [p_besomref08_store]), (139, [p_besomref08_swap])] [] [] [] [] []
def p_besomref08_Step_i : Shape := ⟨[.val (.slice (.int .u64)), .val (.named 24)], []⟩
def p_besomref08_Step_o : Shape := ⟨[.val (.slice (.int .u64)), .val (.named 24)], []⟩
def p_besomref08_Step : Spec E := mkSpec p_besomref08_Step_c Tryz.f73 p_besomref08_Step_i p_besomref08_Step_o [.one (.slice (.int .u64)), .one (.named 24)] [.one (.slice (.int .u64)), .one (.named 24)] (by kernel_rfl) (by kernel_rfl)
def q_besomref08_Step (a1 : List (BitVec 64)) (a2 : Sbesomref08_Machine) : Option ((List (BitVec 64)) × Sbesomref08_Machine × Unit) := p_besomref08_Step.F (a1, a2, ())
def p_besomref14_Put_c : Cfg E := mkCfg Tryz.prog tab [] [] [] [] [] []
def p_besomref14_Put_i : Shape := ⟨[.val (.named 29), vI, .val (.slice (.int .i64))], []⟩
def p_besomref14_Put_o : Shape := ⟨[.val (.named 29)], []⟩
def p_besomref14_Put : Spec E := mkSpec p_besomref14_Put_c Tryz.f74 p_besomref14_Put_i p_besomref14_Put_o [.one (.named 29), oI, .one (.slice (.int .i64))] [.one (.named 29)] (by kernel_rfl) (by kernel_rfl)
def q_besomref14_Put (a1 : Sbesomref13_State) (a2 : Int) (a3 : List Int) : Option (Sbesomref13_State × Unit) := p_besomref14_Put.F (a1, a2, a3, ())
def p_besomref14_Step_c : Cfg E := mkCfg Tryz.prog tab [(70, [p_besomref14_mark]), (71, [p_besomref07_Step]), (72, [p_besomref14_List]), (73, [p_besomref08_Step]), (74, [p_besomref14_Put])] [] [] [] [] []
def p_besomref14_Step_i : Shape := ⟨[.val (.named 29), .val (.named 25)], []⟩
def p_besomref14_Step_o : Shape := ⟨[.val (.named 29), .val (.named 25)], []⟩
def p_besomref14_Step : Spec E := mkSpec p_besomref14_Step_c Tryz.f16 p_besomref14_Step_i p_besomref14_Step_o [.one (.named 29), .one (.named 25)] [.one (.named 29), .one (.named 25)] (by kernel_rfl) (by kernel_rfl)
def q_besomref14_Step (a1 : Sbesomref13_State) (a2 : Sbesomref13_Grey) : Option (Sbesomref13_State × Sbesomref13_Grey × Unit) := p_besomref14_Step.F (a1, a2, ())
def p_besomref03_Same_l4 : LoopSpec E := { slots := [2, 3, 5], inn := ⟨[.ptr 0, .ptr 1, vI], [.box true [vI, .val (.slice (.slice (.int .i64)))], .box true [vI, .val (.slice (.slice (.int .i64)))]]⟩, brkId := 0, bslots := [], brk := ⟨[], []⟩, rslots := [4], ret := ⟨[.val .bool], []⟩, gi := grp [oI, .str 17, .str 17] (by kernel_rfl), gb := grp [] (by kernel_rfl), gr := grp [.one .bool] (by kernel_rfl) }
def p_besomref03_Same_l9 : LoopSpec E := { slots := [2, 3, 5, 6], inn := ⟨[.ptr 0, .ptr 1, vI, vI], [.box true [vI, .val (.slice (.slice (.int .i64)))], .box true [vI, .val (.slice (.slice (.int .i64)))]]⟩, brkId := 2, bslots := [2, 3, 5], brk := ⟨[.ptr 0, .ptr 1, vI], [.box true [vI, .val (.slice (.slice (.int .i64)))], .box true [vI, .val (.slice (.slice (.int .i64)))]]⟩, rslots := [4], ret := ⟨[.val .bool], []⟩, gi := grp [oI, oI, .str 17, .str 17] (by kernel_rfl), gb := grp [oI, .str 17, .str 17] (by kernel_rfl), gr := grp [.one .bool] (by kernel_rfl) }
def p_besomref03_Same_c : Cfg E := mkCfg Tryz.prog tab [] [(4, p_besomref03_Same_l4), (9, p_besomref03_Same_l9)] [] [] [] []
def p_besomref03_Same_i : Shape := ⟨[.val (.named 17), .val (.named 17)], []⟩
def p_besomref03_Same_o : Shape := ⟨[.val .bool], []⟩
def p_besomref03_Same : Spec E := mkSpec p_besomref03_Same_c Tryz.f76 p_besomref03_Same_i p_besomref03_Same_o [.one (.named 17), .one (.named 17)] [.one .bool] (by kernel_rfl) (by kernel_rfl)
def q_besomref03_Same (a1 : Sbesomref03_Heap) (a2 : Sbesomref03_Heap) : Option (Bool × Unit) := p_besomref03_Same.F (a1, a2, ())
def p_besomref03_Same_r4 (x : Int × Sbesomref03_Heap × Sbesomref03_Heap × Unit) : Option (Stop (Int × Sbesomref03_Heap × Sbesomref03_Heap × Unit) (Unit) (Bool × Unit)) := roundBy p_besomref03_Same_c (exec p_besomref03_Same_c (loopAt Tryz.f76 4)) 68 p_besomref03_Same_l4 x
def p_besomref03_Same_r9 (x : Int × Int × Sbesomref03_Heap × Sbesomref03_Heap × Unit) : Option (Stop (Int × Int × Sbesomref03_Heap × Sbesomref03_Heap × Unit) (Int × Sbesomref03_Heap × Sbesomref03_Heap × Unit) (Bool × Unit)) := roundBy p_besomref03_Same_c (exec p_besomref03_Same_c (loopAt Tryz.f76 9)) 68 p_besomref03_Same_l9 x
def p_besomref12_Same_l4 : LoopSpec E := { slots := [2, 3, 5], inn := ⟨[.ptr 0, .ptr 1, vI], [.box true [vI, vI, vI, vI, vI, vI, vI, vI, vI, .val (.slice (.slice (.int .i64))), .val (.int .u64), .val (.slice (.slice (.int .i64))), .val (.slice (.slice (.named 19))), .val (.slice (.named 18))], .box true [vI, vI, vI, vI, vI, vI, vI, vI, vI, .val (.slice (.slice (.int .i64))), .val (.int .u64), .val (.slice (.slice (.int .i64))), .val (.slice (.slice (.named 19))), .val (.slice (.named 18))]]⟩, brkId := 0, bslots := [2, 3], brk := ⟨[.ptr 0, .ptr 1], [.box true [vI, vI, vI, vI, vI, vI, vI, vI, vI, .val (.slice (.slice (.int .i64))), .val (.int .u64), .val (.slice (.slice (.int .i64))), .val (.slice (.slice (.named 19))), .val (.slice (.named 18))], .box true [vI, vI, vI, vI, vI, vI, vI, vI, vI, .val (.slice (.slice (.int .i64))), .val (.int .u64), .val (.slice (.slice (.int .i64))), .val (.slice (.slice (.named 19))), .val (.slice (.named 18))]]⟩, rslots := [4], ret := ⟨[.val .bool], []⟩, gi := grp [oI, .str 20, .str 20] (by kernel_rfl), gb := grp [.str 20, .str 20] (by kernel_rfl), gr := grp [.one .bool] (by kernel_rfl) }
def p_besomref12_Same_l9 : LoopSpec E := { slots := [2, 3, 5, 6], inn := ⟨[.ptr 0, .ptr 1, vI, vI], [.box true [vI, vI, vI, vI, vI, vI, vI, vI, vI, .val (.slice (.slice (.int .i64))), .val (.int .u64), .val (.slice (.slice (.int .i64))), .val (.slice (.slice (.named 19))), .val (.slice (.named 18))], .box true [vI, vI, vI, vI, vI, vI, vI, vI, vI, .val (.slice (.slice (.int .i64))), .val (.int .u64), .val (.slice (.slice (.int .i64))), .val (.slice (.slice (.named 19))), .val (.slice (.named 18))]]⟩, brkId := 2, bslots := [2, 3, 5], brk := ⟨[.ptr 0, .ptr 1, vI], [.box true [vI, vI, vI, vI, vI, vI, vI, vI, vI, .val (.slice (.slice (.int .i64))), .val (.int .u64), .val (.slice (.slice (.int .i64))), .val (.slice (.slice (.named 19))), .val (.slice (.named 18))], .box true [vI, vI, vI, vI, vI, vI, vI, vI, vI, .val (.slice (.slice (.int .i64))), .val (.int .u64), .val (.slice (.slice (.int .i64))), .val (.slice (.slice (.named 19))), .val (.slice (.named 18))]]⟩, rslots := [4], ret := ⟨[.val .bool], []⟩, gi := grp [oI, oI, .str 20, .str 20] (by kernel_rfl), gb := grp [oI, .str 20, .str 20] (by kernel_rfl), gr := grp [.one .bool] (by kernel_rfl) }
def p_besomref12_Same_l14 : LoopSpec E := { slots := [2, 3, 7], inn := ⟨[.ptr 0, .ptr 1, vI], [.box true [vI, vI, vI, vI, vI, vI, vI, vI, vI, .val (.slice (.slice (.int .i64))), .val (.int .u64), .val (.slice (.slice (.int .i64))), .val (.slice (.slice (.named 19))), .val (.slice (.named 18))], .box true [vI, vI, vI, vI, vI, vI, vI, vI, vI, .val (.slice (.slice (.int .i64))), .val (.int .u64), .val (.slice (.slice (.int .i64))), .val (.slice (.slice (.named 19))), .val (.slice (.named 18))]]⟩, brkId := 4, bslots := [2, 3], brk := ⟨[.ptr 0, .ptr 1], [.box true [vI, vI, vI, vI, vI, vI, vI, vI, vI, .val (.slice (.slice (.int .i64))), .val (.int .u64), .val (.slice (.slice (.int .i64))), .val (.slice (.slice (.named 19))), .val (.slice (.named 18))], .box true [vI, vI, vI, vI, vI, vI, vI, vI, vI, .val (.slice (.slice (.int .i64))), .val (.int .u64), .val (.slice (.slice (.int .i64))), .val (.slice (.slice (.named 19))), .val (.slice (.named 18))]]⟩, rslots := [4], ret := ⟨[.val .bool], []⟩, gi := grp [oI, .str 20, .str 20] (by kernel_rfl), gb := grp [.str 20, .str 20] (by kernel_rfl), gr := grp [.one .bool] (by kernel_rfl) }
def p_besomref12_Same_l19 : LoopSpec E := { slots := [2, 3, 7, 8], inn := ⟨[.ptr 0, .ptr 1, vI, vI], [.box true [vI, vI, vI, vI, vI, vI, vI, vI, vI, .val (.slice (.slice (.int .i64))), .val (.int .u64), .val (.slice (.slice (.int .i64))), .val (.slice (.slice (.named 19))), .val (.slice (.named 18))], .box true [vI, vI, vI, vI, vI, vI, vI, vI, vI, .val (.slice (.slice (.int .i64))), .val (.int .u64), .val (.slice (.slice (.int .i64))), .val (.slice (.slice (.named 19))), .val (.slice (.named 18))]]⟩, brkId := 6, bslots := [2, 3, 7], brk := ⟨[.ptr 0, .ptr 1, vI], [.box true [vI, vI, vI, vI, vI, vI, vI, vI, vI, .val (.slice (.slice (.int .i64))), .val (.int .u64), .val (.slice (.slice (.int .i64))), .val (.slice (.slice (.named 19))), .val (.slice (.named 18))], .box true [vI, vI, vI, vI, vI, vI, vI, vI, vI, .val (.slice (.slice (.int .i64))), .val (.int .u64), .val (.slice (.slice (.int .i64))), .val (.slice (.slice (.named 19))), .val (.slice (.named 18))]]⟩, rslots := [4], ret := ⟨[.val .bool], []⟩, gi := grp [oI, oI, .str 20, .str 20] (by kernel_rfl), gb := grp [oI, .str 20, .str 20] (by kernel_rfl), gr := grp [.one .bool] (by kernel_rfl) }
def p_besomref12_Same_l24 : LoopSpec E := { slots := [2, 3, 9], inn := ⟨[.ptr 0, .ptr 1, vI], [.box true [vI, vI, vI, vI, vI, vI, vI, vI, vI, .val (.slice (.slice (.int .i64))), .val (.int .u64), .val (.slice (.slice (.int .i64))), .val (.slice (.slice (.named 19))), .val (.slice (.named 18))], .box true [vI, vI, vI, vI, vI, vI, vI, vI, vI, .val (.slice (.slice (.int .i64))), .val (.int .u64), .val (.slice (.slice (.int .i64))), .val (.slice (.slice (.named 19))), .val (.slice (.named 18))]]⟩, brkId := 8, bslots := [], brk := ⟨[], []⟩, rslots := [4], ret := ⟨[.val .bool], []⟩, gi := grp [oI, .str 20, .str 20] (by kernel_rfl), gb := grp [] (by kernel_rfl), gr := grp [.one .bool] (by kernel_rfl) }
def p_besomref12_Same_c : Cfg E := mkCfg Tryz.prog tab [(76, [p_besomref03_Same])] [(4, p_besomref12_Same_l4), (9, p_besomref12_Same_l9), (14, p_besomref12_Same_l14), (19, p_besomref12_Same_l19), (24, p_besomref12_Same_l24)] [] [] [] []
def p_besomref12_Same_i : Shape := ⟨[.val (.named 20), .val (.named 20)], []⟩
def p_besomref12_Same_o : Shape := ⟨[.val .bool], []⟩
def p_besomref12_Same : Spec E := mkSpec p_besomref12_Same_c Tryz.f75 p_besomref12_Same_i p_besomref12_Same_o [.one (.named 20), .one (.named 20)] [.one .bool] (by kernel_rfl) (by kernel_rfl)
def q_besomref12_Same (a1 : Sbesomref12_Plan) (a2 : Sbesomref12_Plan) : Option (Bool × Unit) := p_besomref12_Same.F (a1, a2, ())
def p_besomref12_Same_r4 (x : Int × Sbesomref12_Plan × Sbesomref12_Plan × Unit) : Option (Stop (Int × Sbesomref12_Plan × Sbesomref12_Plan × Unit) (Sbesomref12_Plan × Sbesomref12_Plan × Unit) (Bool × Unit)) := roundBy p_besomref12_Same_c (exec p_besomref12_Same_c (loopAt Tryz.f75 4)) 218 p_besomref12_Same_l4 x
def p_besomref12_Same_r9 (x : Int × Int × Sbesomref12_Plan × Sbesomref12_Plan × Unit) : Option (Stop (Int × Int × Sbesomref12_Plan × Sbesomref12_Plan × Unit) (Int × Sbesomref12_Plan × Sbesomref12_Plan × Unit) (Bool × Unit)) := roundBy p_besomref12_Same_c (exec p_besomref12_Same_c (loopAt Tryz.f75 9)) 218 p_besomref12_Same_l9 x
def p_besomref12_Same_r14 (x : Int × Sbesomref12_Plan × Sbesomref12_Plan × Unit) : Option (Stop (Int × Sbesomref12_Plan × Sbesomref12_Plan × Unit) (Sbesomref12_Plan × Sbesomref12_Plan × Unit) (Bool × Unit)) := roundBy p_besomref12_Same_c (exec p_besomref12_Same_c (loopAt Tryz.f75 14)) 218 p_besomref12_Same_l14 x
def p_besomref12_Same_r19 (x : Int × Int × Sbesomref12_Plan × Sbesomref12_Plan × Unit) : Option (Stop (Int × Int × Sbesomref12_Plan × Sbesomref12_Plan × Unit) (Int × Sbesomref12_Plan × Sbesomref12_Plan × Unit) (Bool × Unit)) := roundBy p_besomref12_Same_c (exec p_besomref12_Same_c (loopAt Tryz.f75 19)) 218 p_besomref12_Same_l19 x
def p_besomref12_Same_r24 (x : Int × Sbesomref12_Plan × Sbesomref12_Plan × Unit) : Option (Stop (Int × Sbesomref12_Plan × Sbesomref12_Plan × Unit) (Unit) (Bool × Unit)) := roundBy p_besomref12_Same_c (exec p_besomref12_Same_c (loopAt Tryz.f75 24)) 218 p_besomref12_Same_l24 x
def p_besomref05_Same_l4 : LoopSpec E := { slots := [0, 1, 5], inn := ⟨[.val (.slice (.int .u64)), .val (.slice (.int .u64)), vI], []⟩, brkId := 0, bslots := [], brk := ⟨[], []⟩, rslots := [4], ret := ⟨[.val .bool], []⟩, gi := grp [.one (.slice (.int .u64)), .one (.slice (.int .u64)), oI] (by kernel_rfl), gb := grp [] (by kernel_rfl), gr := grp [.one .bool] (by kernel_rfl) }
def p_besomref05_Same_c : Cfg E := mkCfg Tryz.prog tab [] [(4, p_besomref05_Same_l4)] [] [] [] []
def p_besomref05_Same_i : Shape := ⟨[.val (.slice (.int .u64)), .val (.slice (.int .u64))], []⟩
def p_besomref05_Same_o : Shape := ⟨[.val .bool], []⟩
def p_besomref05_Same : Spec E := mkSpec p_besomref05_Same_c Tryz.f77 p_besomref05_Same_i p_besomref05_Same_o [.one (.slice (.int .u64)), .one (.slice (.int .u64))] [.one .bool] (by kernel_rfl) (by kernel_rfl)
def q_besomref05_Same (a1 : List (BitVec 64)) (a2 : List (BitVec 64)) : Option (Bool × Unit) := p_besomref05_Same.F (a1, a2, ())
def p_besomref05_Same_r4 (x : (List (BitVec 64)) × (List (BitVec 64)) × Int × Unit) : Option (Stop ((List (BitVec 64)) × (List (BitVec 64)) × Int × Unit) (Unit) (Bool × Unit)) := roundBy p_besomref05_Same_c (exec p_besomref05_Same_c (loopAt Tryz.f77 4)) 26 p_besomref05_Same_l4 x
def p_besomref13_sameInts_l4 : LoopSpec E := { slots := [0, 1, 5], inn := ⟨[.val (.slice (.int .i64)), .val (.slice (.int .i64)), vI], []⟩, brkId := 0, bslots := [], brk := ⟨[], []⟩, rslots := [4], ret := ⟨[.val .bool], []⟩, gi := grp [.one (.slice (.int .i64)), .one (.slice (.int .i64)), oI] (by kernel_rfl), gb := grp [] (by kernel_rfl), gr := grp [.one .bool] (by kernel_rfl) }
def p_besomref13_sameInts_c : Cfg E := mkCfg Tryz.prog tab [] [(4, p_besomref13_sameInts_l4)] [] [] [] []
def p_besomref13_sameInts_i : Shape := ⟨[.val (.slice (.int .i64)), .val (.slice (.int .i64))], []⟩
def p_besomref13_sameInts_o : Shape := ⟨[.val .bool], []⟩
def p_besomref13_sameInts : Spec E := mkSpec p_besomref13_sameInts_c Tryz.f78 p_besomref13_sameInts_i p_besomref13_sameInts_o [.one (.slice (.int .i64)), .one (.slice (.int .i64))] [.one .bool] (by kernel_rfl) (by kernel_rfl)
def q_besomref13_sameInts (a1 : List Int) (a2 : List Int) : Option (Bool × Unit) := p_besomref13_sameInts.F (a1, a2, ())
def p_besomref13_sameInts_r4 (x : (List Int) × (List Int) × Int × Unit) : Option (Stop ((List Int) × (List Int) × Int × Unit) (Unit) (Bool × Unit)) := roundBy p_besomref13_sameInts_c (exec p_besomref13_sameInts_c (loopAt Tryz.f78 4)) 26 p_besomref13_sameInts_l4 x
def p_besomref10_Same_l4 : LoopSpec E := { slots := [2, 3, 5], inn := ⟨[.ptr 0, .ptr 1, vI], [.box true [vI, vI, vI, .val (.slice (.int .i64))], .box true [vI, vI, vI, .val (.slice (.int .i64))]]⟩, brkId := 0, bslots := [], brk := ⟨[], []⟩, rslots := [4], ret := ⟨[.val .bool], []⟩, gi := grp [oI, .str 22, .str 22] (by kernel_rfl), gb := grp [] (by kernel_rfl), gr := grp [.one .bool] (by kernel_rfl) }
def p_besomref10_Same_c : Cfg E := mkCfg Tryz.prog tab [] [(4, p_besomref10_Same_l4)] [] [] [] []
def p_besomref10_Same_i : Shape := ⟨[.val (.named 22), .val (.named 22)], []⟩
def p_besomref10_Same_o : Shape := ⟨[.val .bool], []⟩
def p_besomref10_Same : Spec E := mkSpec p_besomref10_Same_c Tryz.f79 p_besomref10_Same_i p_besomref10_Same_o [.one (.named 22), .one (.named 22)] [.one .bool] (by kernel_rfl) (by kernel_rfl)
def q_besomref10_Same (a1 : Sbesomref10_Ledger) (a2 : Sbesomref10_Ledger) : Option (Bool × Unit) := p_besomref10_Same.F (a1, a2, ())
def p_besomref10_Same_r4 (x : Int × Sbesomref10_Ledger × Sbesomref10_Ledger × Unit) : Option (Stop (Int × Sbesomref10_Ledger × Sbesomref10_Ledger × Unit) (Unit) (Bool × Unit)) := roundBy p_besomref10_Same_c (exec p_besomref10_Same_c (loopAt Tryz.f79 4)) 52 p_besomref10_Same_l4 x
def p_besomref13_sameWorker_c : Cfg E := mkCfg Tryz.prog tab [(78, [p_besomref13_sameInts])] [] [] [] [] []
def p_besomref13_sameWorker_i : Shape := ⟨[.val (.named 26), .val (.named 26)], []⟩
def p_besomref13_sameWorker_o : Shape := ⟨[.val .bool], []⟩
def p_besomref13_sameWorker : Spec E := mkSpec p_besomref13_sameWorker_c Tryz.f80 p_besomref13_sameWorker_i p_besomref13_sameWorker_o [.one (.named 26), .one (.named 26)] [.one .bool] (by kernel_rfl) (by kernel_rfl)
def q_besomref13_sameWorker (a1 : Sbesomref13_Worker) (a2 : Sbesomref13_Worker) : Option (Bool × Unit) := p_besomref13_sameWorker.F (a1, a2, ())
def p_besomref13_sameMutator_c : Cfg E := mkCfg Tryz.prog tab [(78, [p_besomref13_sameInts])] [] [] [] [] []
def p_besomref13_sameMutator_i : Shape := ⟨[.val (.named 27), .val (.named 27)], []⟩
def p_besomref13_sameMutator_o : Shape := ⟨[.val .bool], []⟩
def p_besomref13_sameMutator : Spec E := mkSpec p_besomref13_sameMutator_c Tryz.f81 p_besomref13_sameMutator_i p_besomref13_sameMutator_o [.one (.named 27), .one (.named 27)] [.one .bool] (by kernel_rfl) (by kernel_rfl)
def q_besomref13_sameMutator (a1 : Sbesomref13_Mutator) (a2 : Sbesomref13_Mutator) : Option (Bool × Unit) := p_besomref13_sameMutator.F (a1, a2, ())
def p_besomref13_Same_l4 : LoopSpec E := { slots := [2, 3, 5], inn := ⟨[.ptr 0, .ptr 1, vI], [.box true [vI, vI, vI, vI, vI, vI, vI, vI, vI, .val (.slice (.slice (.int .i64))), .val (.int .u64), .val (.slice (.slice (.int .i64))), .val (.slice (.slice (.named 19))), .val (.slice (.named 18)), vI, .val (.slice (.slice (.int .i64))), .val (.slice (.int .u64)), .val (.slice (.slice (.int .i64))), .val (.int .u64), .val (.int .u64), vI, vI, .val .bool, .val .bool, vI, .val (.slice (.int .i64)), vI, vI, vI, .val (.slice (.int .i64)), .val (.slice (.named 26)), .val (.slice (.named 27)), vI, vI], .box true [vI, vI, vI, vI, vI, vI, vI, vI, vI, .val (.slice (.slice (.int .i64))), .val (.int .u64), .val (.slice (.slice (.int .i64))), .val (.slice (.slice (.named 19))), .val (.slice (.named 18)), vI, .val (.slice (.slice (.int .i64))), .val (.slice (.int .u64)), .val (.slice (.slice (.int .i64))), .val (.int .u64), .val (.int .u64), vI, vI, .val .bool, .val .bool, vI, .val (.slice (.int .i64)), vI, vI, vI, .val (.slice (.int .i64)), .val (.slice (.named 26)), .val (.slice (.named 27)), vI, vI]]⟩, brkId := 0, bslots := [2, 3], brk := ⟨[.ptr 0, .ptr 1], [.box true [vI, vI, vI, vI, vI, vI, vI, vI, vI, .val (.slice (.slice (.int .i64))), .val (.int .u64), .val (.slice (.slice (.int .i64))), .val (.slice (.slice (.named 19))), .val (.slice (.named 18)), vI, .val (.slice (.slice (.int .i64))), .val (.slice (.int .u64)), .val (.slice (.slice (.int .i64))), .val (.int .u64), .val (.int .u64), vI, vI, .val .bool, .val .bool, vI, .val (.slice (.int .i64)), vI, vI, vI, .val (.slice (.int .i64)), .val (.slice (.named 26)), .val (.slice (.named 27)), vI, vI], .box true [vI, vI, vI, vI, vI, vI, vI, vI, vI, .val (.slice (.slice (.int .i64))), .val (.int .u64), .val (.slice (.slice (.int .i64))), .val (.slice (.slice (.named 19))), .val (.slice (.named 18)), vI, .val (.slice (.slice (.int .i64))), .val (.slice (.int .u64)), .val (.slice (.slice (.int .i64))), .val (.int .u64), .val (.int .u64), vI, vI, .val .bool, .val .bool, vI, .val (.slice (.int .i64)), vI, vI, vI, .val (.slice (.int .i64)), .val (.slice (.named 26)), .val (.slice (.named 27)), vI, vI]]⟩, rslots := [4], ret := ⟨[.val .bool], []⟩, gi := grp [oI, .str 29, .str 29] (by kernel_rfl), gb := grp [.str 29, .str 29] (by kernel_rfl), gr := grp [.one .bool] (by kernel_rfl) }
def p_besomref13_Same_l9 : LoopSpec E := { slots := [2, 3, 6], inn := ⟨[.ptr 0, .ptr 1, vI], [.box true [vI, vI, vI, vI, vI, vI, vI, vI, vI, .val (.slice (.slice (.int .i64))), .val (.int .u64), .val (.slice (.slice (.int .i64))), .val (.slice (.slice (.named 19))), .val (.slice (.named 18)), vI, .val (.slice (.slice (.int .i64))), .val (.slice (.int .u64)), .val (.slice (.slice (.int .i64))), .val (.int .u64), .val (.int .u64), vI, vI, .val .bool, .val .bool, vI, .val (.slice (.int .i64)), vI, vI, vI, .val (.slice (.int .i64)), .val (.slice (.named 26)), .val (.slice (.named 27)), vI, vI], .box true [vI, vI, vI, vI, vI, vI, vI, vI, vI, .val (.slice (.slice (.int .i64))), .val (.int .u64), .val (.slice (.slice (.int .i64))), .val (.slice (.slice (.named 19))), .val (.slice (.named 18)), vI, .val (.slice (.slice (.int .i64))), .val (.slice (.int .u64)), .val (.slice (.slice (.int .i64))), .val (.int .u64), .val (.int .u64), vI, vI, .val .bool, .val .bool, vI, .val (.slice (.int .i64)), vI, vI, vI, .val (.slice (.int .i64)), .val (.slice (.named 26)), .val (.slice (.named 27)), vI, vI]]⟩, brkId := 2, bslots := [2, 3], brk := ⟨[.ptr 0, .ptr 1], [.box true [vI, vI, vI, vI, vI, vI, vI, vI, vI, .val (.slice (.slice (.int .i64))), .val (.int .u64), .val (.slice (.slice (.int .i64))), .val (.slice (.slice (.named 19))), .val (.slice (.named 18)), vI, .val (.slice (.slice (.int .i64))), .val (.slice (.int .u64)), .val (.slice (.slice (.int .i64))), .val (.int .u64), .val (.int .u64), vI, vI, .val .bool, .val .bool, vI, .val (.slice (.int .i64)), vI, vI, vI, .val (.slice (.int .i64)), .val (.slice (.named 26)), .val (.slice (.named 27)), vI, vI], .box true [vI, vI, vI, vI, vI, vI, vI, vI, vI, .val (.slice (.slice (.int .i64))), .val (.int .u64), .val (.slice (.slice (.int .i64))), .val (.slice (.slice (.named 19))), .val (.slice (.named 18)), vI, .val (.slice (.slice (.int .i64))), .val (.slice (.int .u64)), .val (.slice (.slice (.int .i64))), .val (.int .u64), .val (.int .u64), vI, vI, .val .bool, .val .bool, vI, .val (.slice (.int .i64)), vI, vI, vI, .val (.slice (.int .i64)), .val (.slice (.named 26)), .val (.slice (.named 27)), vI, vI]]⟩, rslots := [4], ret := ⟨[.val .bool], []⟩, gi := grp [oI, .str 29, .str 29] (by kernel_rfl), gb := grp [.str 29, .str 29] (by kernel_rfl), gr := grp [.one .bool] (by kernel_rfl) }
def p_besomref13_Same_l14 : LoopSpec E := { slots := [2, 3, 7], inn := ⟨[.ptr 0, .ptr 1, vI], [.box true [vI, vI, vI, vI, vI, vI, vI, vI, vI, .val (.slice (.slice (.int .i64))), .val (.int .u64), .val (.slice (.slice (.int .i64))), .val (.slice (.slice (.named 19))), .val (.slice (.named 18)), vI, .val (.slice (.slice (.int .i64))), .val (.slice (.int .u64)), .val (.slice (.slice (.int .i64))), .val (.int .u64), .val (.int .u64), vI, vI, .val .bool, .val .bool, vI, .val (.slice (.int .i64)), vI, vI, vI, .val (.slice (.int .i64)), .val (.slice (.named 26)), .val (.slice (.named 27)), vI, vI], .box true [vI, vI, vI, vI, vI, vI, vI, vI, vI, .val (.slice (.slice (.int .i64))), .val (.int .u64), .val (.slice (.slice (.int .i64))), .val (.slice (.slice (.named 19))), .val (.slice (.named 18)), vI, .val (.slice (.slice (.int .i64))), .val (.slice (.int .u64)), .val (.slice (.slice (.int .i64))), .val (.int .u64), .val (.int .u64), vI, vI, .val .bool, .val .bool, vI, .val (.slice (.int .i64)), vI, vI, vI, .val (.slice (.int .i64)), .val (.slice (.named 26)), .val (.slice (.named 27)), vI, vI]]⟩, brkId := 4, bslots := [], brk := ⟨[], []⟩, rslots := [4], ret := ⟨[.val .bool], []⟩, gi := grp [oI, .str 29, .str 29] (by kernel_rfl), gb := grp [] (by kernel_rfl), gr := grp [.one .bool] (by kernel_rfl) }
def p_besomref13_Same_c : Cfg E := mkCfg Tryz.prog tab [(75, [p_besomref12_Same]), (76, [p_besomref03_Same]), (77, [p_besomref05_Same]), (78, [p_besomref13_sameInts]), (79, [p_besomref10_Same]), (80, [p_besomref13_sameWorker]), (81, [p_besomref13_sameMutator])] [(4, p_besomref13_Same_l4), (9, p_besomref13_Same_l9), (14, p_besomref13_Same_l14)] [] [] [] []
def p_besomref13_Same_i : Shape := ⟨[.val (.named 29), .val (.named 29)], []⟩
def p_besomref13_Same_o : Shape := ⟨[.val .bool], []⟩
def p_besomref13_Same : Spec E := mkSpec p_besomref13_Same_c Tryz.f17 p_besomref13_Same_i p_besomref13_Same_o [.one (.named 29), .one (.named 29)] [.one .bool] (by kernel_rfl) (by kernel_rfl)
def q_besomref13_Same (a1 : Sbesomref13_State) (a2 : Sbesomref13_State) : Option (Bool × Unit) := p_besomref13_Same.F (a1, a2, ())
def p_besomref13_Same_r4 (x : Int × Sbesomref13_State × Sbesomref13_State × Unit) : Option (Stop (Int × Sbesomref13_State × Sbesomref13_State × Unit) (Sbesomref13_State × Sbesomref13_State × Unit) (Bool × Unit)) := roundBy p_besomref13_Same_c (exec p_besomref13_Same_c (loopAt Tryz.f17 4)) 179 p_besomref13_Same_l4 x
def p_besomref13_Same_r9 (x : Int × Sbesomref13_State × Sbesomref13_State × Unit) : Option (Stop (Int × Sbesomref13_State × Sbesomref13_State × Unit) (Sbesomref13_State × Sbesomref13_State × Unit) (Bool × Unit)) := roundBy p_besomref13_Same_c (exec p_besomref13_Same_c (loopAt Tryz.f17 9)) 179 p_besomref13_Same_l9 x
def p_besomref13_Same_r14 (x : Int × Sbesomref13_State × Sbesomref13_State × Unit) : Option (Stop (Int × Sbesomref13_State × Sbesomref13_State × Unit) (Unit) (Bool × Unit)) := roundBy p_besomref13_Same_c (exec p_besomref13_Same_c (loopAt Tryz.f17 14)) 179 p_besomref13_Same_l14 x
def p_besomref14_Holds_c : Cfg E := mkCfg Tryz.prog tab [] [] [] [] [] []
def p_besomref14_Holds_i : Shape := ⟨[.val (.named 25)], []⟩
def p_besomref14_Holds_o : Shape := ⟨[vI], []⟩
def p_besomref14_Holds : Spec E := mkSpec p_besomref14_Holds_c Tryz.f19 p_besomref14_Holds_i p_besomref14_Holds_o [.one (.named 25)] [oI] (by kernel_rfl) (by kernel_rfl)
def q_besomref14_Holds (a1 : Sbesomref13_Grey) : Option (Int × Unit) := p_besomref14_Holds.F (a1, ())
def p_besomref14_Asks_c : Cfg E := mkCfg Tryz.prog tab [] [] [] [] [] []
def p_besomref14_Asks_i : Shape := ⟨[.val (.named 25)], []⟩
def p_besomref14_Asks_o : Shape := ⟨[vI], []⟩
def p_besomref14_Asks : Spec E := mkSpec p_besomref14_Asks_c Tryz.f21 p_besomref14_Asks_i p_besomref14_Asks_o [.one (.named 25)] [oI] (by kernel_rfl) (by kernel_rfl)
def q_besomref14_Asks (a1 : Sbesomref13_Grey) : Option (Int × Unit) := p_besomref14_Asks.F (a1, ())
def p_besomref14_Owes_c : Cfg E := mkCfg Tryz.prog tab [] [] [] [] [] []
def p_besomref14_Owes_i : Shape := ⟨[.val (.named 25)], []⟩
def p_besomref14_Owes_o : Shape := ⟨[vI], []⟩
def p_besomref14_Owes : Spec E := mkSpec p_besomref14_Owes_c Tryz.f23 p_besomref14_Owes_i p_besomref14_Owes_o [.one (.named 25)] [oI] (by kernel_rfl) (by kernel_rfl)
def q_besomref14_Owes (a1 : Sbesomref13_Grey) : Option (Int × Unit) := p_besomref14_Owes.F (a1, ())
def p_besomref14_Begin_c : Cfg E := mkCfg Tryz.prog tab [] [] [] [] [] []
def p_besomref14_Begin_i : Shape := ⟨[vI, vI, vI], []⟩
def p_besomref14_Begin_o : Shape := ⟨[.val (.named 25)], []⟩
def p_besomref14_Begin : Spec E := mkSpec p_besomref14_Begin_c Tryz.f24 p_besomref14_Begin_i p_besomref14_Begin_o [oI, oI, oI] [.one (.named 25)] (by kernel_rfl) (by kernel_rfl)
def q_besomref14_Begin (a1 : Int) (a2 : Int) (a3 : Int) : Option (Sbesomref13_Grey × Unit) := p_besomref14_Begin.F (a1, a2, a3, ())
def p_besomlaw14_GreyTells_l12 : LoopSpec E := { slots := [3, 5, 9, 11, 12, 13, 14, 15], inn := ⟨[.val (.slice (.int .u8)), .ptr 0, .val .bool, .ptr 1, .own 2, .ptr 3, .own 4, vI], [.box true [.val (.int .u8), .val (.int .u8), .val (.int .u8)], .box true [vI, vI, vI, vI, vI, vI, vI, vI, vI, .val (.slice (.slice (.int .i64))), .val (.int .u64), .val (.slice (.slice (.int .i64))), .val (.slice (.slice (.named 1))), .val (.slice (.named 2)), vI, .val (.slice (.slice (.int .i64))), .val (.slice (.int .u64)), .val (.slice (.slice (.int .i64))), .val (.int .u64), .val (.int .u64), vI, vI, .val .bool, .val .bool, vI, .val (.slice (.int .i64)), vI, vI, vI, .val (.slice (.int .i64)), .val (.slice (.named 9)), .val (.slice (.named 10)), vI, vI], .row true (.named 8), .box true [vI, vI, vI, vI, vI, vI, vI, vI, vI, .val (.slice (.slice (.int .i64))), .val (.int .u64), .val (.slice (.slice (.int .i64))), .val (.slice (.slice (.named 19))), .val (.slice (.named 18)), vI, .val (.slice (.slice (.int .i64))), .val (.slice (.int .u64)), .val (.slice (.slice (.int .i64))), .val (.int .u64), .val (.int .u64), vI, vI, .val .bool, .val .bool, vI, .val (.slice (.int .i64)), vI, vI, vI, .val (.slice (.int .i64)), .val (.slice (.named 26)), .val (.slice (.named 27)), vI, vI], .row true (.named 25)]⟩, brkId := 0, bslots := [5, 9], brk := ⟨[.ptr 0, .val .bool], [.box true [.val (.int .u8), .val (.int .u8), .val (.int .u8)]]⟩, rslots := [8], ret := ⟨[.val .bool], []⟩, gi := grp [.one (.slice (.int .u8)), .one .bool, oI, .str 0, .str 14, .one (.slice (.named 8)), .str 29, .one (.slice (.named 25))] (by kernel_rfl), gb := grp [.one .bool, .str 0] (by kernel_rfl), gr := grp [.one .bool] (by kernel_rfl) }
def p_besomlaw14_GreyTells_c : Cfg E := mkCfg Tryz.prog tab [(8, [p_besomlaw14_examples]), (9, [p_besomlaw14_made]), (10, [p_state_New]), (11, [p_besomlaw14_Grow_begin]), (12, [p_grey_Begin]), (13, [p_besomlaw14_refState]), (14, [p_besomlaw14_refGrey]), (15, [p_grey_Step]), (16, [p_besomref14_Step]), (17, [p_besomref13_Same]), (18, [p_grey_Holds]), (19, [p_besomref14_Holds]), (20, [p_grey_Asks]), (21, [p_besomref14_Asks]), (22, [p_grey_Owes]), (23, [p_besomref14_Owes]), (24, [p_besomref14_Begin])] [(12, p_besomlaw14_GreyTells_l12)] [] [] [] []
def p_besomlaw14_GreyTells_i : Shape := ⟨[.val (.slice (.int .u8)), .val (.named 0), .val (.named 0), .val (.slice (.int .u8))], []⟩
def p_besomlaw14_GreyTells_o : Shape := ⟨[.val .bool], []⟩
def p_besomlaw14_GreyTells : Spec E := mkSpec p_besomlaw14_GreyTells_c Tryz.f3 p_besomlaw14_GreyTells_i p_besomlaw14_GreyTells_o [.one (.slice (.int .u8)), .one (.named 0), .one (.named 0), .one (.slice (.int .u8))] [.one .bool] (by kernel_rfl) (by kernel_rfl)
def q_besomlaw14_GreyTells (a1 : List (BitVec 8)) (a2 : Sbesomlaw14_Grow) (a3 : Sbesomlaw14_Grow) (a4 : List (BitVec 8)) : Option (Bool × Unit) := p_besomlaw14_GreyTells.F (a1, a2, a3, a4, ())
def p_besomlaw14_GreyTells_r12 (x : (List (BitVec 8)) × Bool × Int × Sbesomlaw14_Grow × Sstate_State × (List Sstate_Grey) × Sbesomref13_State × (List Sbesomref13_Grey) × Unit) : Option (Stop ((List (BitVec 8)) × Bool × Int × Sbesomlaw14_Grow × Sstate_State × (List Sstate_Grey) × Sbesomref13_State × (List Sbesomref13_Grey) × Unit) (Bool × Sbesomlaw14_Grow × Unit) (Bool × Unit)) := roundBy p_besomlaw14_GreyTells_c (exec p_besomlaw14_GreyTells_c (loopAt Tryz.f3 12)) 191 p_besomlaw14_GreyTells_l12 x
end
end Go.Pe.G
