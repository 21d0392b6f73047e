/- Own work of this seat: G1, Tz, G0, G2, G4a, G4b, G4c, G4d, EQ, G2i, GH, G3. -/
import Derived.Test.YtlnbfkbgfngkeaaGreatDoorGOCc
import Derived.Test.YtlnbfkbgfngkeaaGreatDoorProg
import Derived.Shelf.Spec.TrailingZeros
set_option linter.unusedVariables false
set_option linter.unusedSectionVars false
set_option linter.unusedSimpArgs false
set_option linter.unnecessarySimpa false
set_option linter.deprecated false
set_option maxRecDepth 100000
namespace Go.Pe.G
open Go.Pe
structure ya where
  Obj : BitVec 8
  Who : BitVec 8
  Mode : BitVec 8
structure zj where
  Kind : Int
  R : Int
  A : Int
  S : Int
structure zk where
  Kind : Int
  N : Int
structure zG where
  Slots : Int
  Objs : List (List Int)
structure zb where
  Workers : Int
  Mutators : Int
  Cap : Int
  Buf : Int
  Bin : Int
  Most : Int
  Price : Int
  Limit : Int
  H : zG
  Roots : BitVec 64
  Regs : List (List Int)
  Progs : List (List zj)
  Picks : List zk
structure zA where
  Scanned : Int
  Spent : Int
  Pool : Int
  Bal : List Int
structure zg where
  Kind : Int
  PC : Int
  Base : Int
  Cap : Int
  B : BitVec 64
  T : BitVec 64
  X : Int
  Out : Int
structure zp where
  Kind : Int
  PC : Int
  Head : Int
  Next : Int
  H : BitVec 64
  X : Int
  Y : Int
  Out : Int
structure zd where
  PC : Int
  Mode : Int
  Obj : Int
  Who : Int
  D : zg
  C : zp
  Bin : Int
  Out : Int
structure zi where
  PC : Int
  Obj : Int
  Slot : Int
  Victim : Int
  Bin : Int
  Batch : List Int
  D : zg
  C : zp
  G : zd
structure ze where
  PC : Int
  IP : Int
  Ret : Int
  Want : Int
  Old : Int
  Obj : Int
  Slot : Int
  Bin : Int
  Regs : List Int
  Buf : List Int
  Batch : List Int
  C : zp
  G : zd
structure zo where
  Marks : BitVec 64
  Black : BitVec 64
structure zn where
  PC : Int
  I : Int
structure ve where
  Kind : Int
  At : Int
  A : BitVec 64
  B : BitVec 64
structure za where
  P : zb
  H : zG
  M : List (BitVec 64)
  Bins : List (List Int)
  T : zo
  Work : Int
  Epoch : Int
  Flag : Bool
  Done : Bool
  Restarts : Int
  Acks : List Int
  L : zA
  Ws : List zi
  Ms : List ze
  D : zn
structure zu where
  Grey : zd
  s : za
structure zx where
  L : List (BitVec 8)
  At : Int
@[reducible] def TT : Nat → Type
  | 0 => ya
  | 1 => zj
  | 2 => zk
  | 3 => zG
  | 4 => zb
  | 5 => zA
  | 6 => zg
  | 7 => zp
  | 8 => zd
  | 9 => zi
  | 10 => ze
  | 11 => zo
  | 12 => zn
  | 13 => ve
  | 14 => za
  | 15 => zu
  | 16 => zx
  | _ => Unit
@[reducible] def lvs : Nat → List Ty
  | 0 => [(.int .u8), (.int .u8), (.int .u8)]
  | 1 => [(.int .i64), (.int .i64), (.int .i64), (.int .i64)]
  | 2 => [(.int .i64), (.int .i64)]
  | 3 => [(.int .i64), (.slice (.slice (.int .i64)))]
  | 4 => [(.int .i64), (.int .i64), (.int .i64), (.int .i64), (.int .i64), (.int .i64), (.int .i64), (.int .i64), (.int .i64), (.slice (.slice (.int .i64))), (.int .u64), (.slice (.slice (.int .i64))), (.slice (.slice (.named 1))), (.slice (.named 2))]
  | 5 => [(.int .i64), (.int .i64), (.int .i64), (.slice (.int .i64))]
  | 6 => [(.int .i64), (.int .i64), (.int .i64), (.int .i64), (.int .u64), (.int .u64), (.int .i64), (.int .i64)]
  | 7 => [(.int .i64), (.int .i64), (.int .i64), (.int .i64), (.int .u64), (.int .i64), (.int .i64), (.int .i64)]
  | 8 => [(.int .i64), (.int .i64), (.int .i64), (.int .i64), (.int .i64), (.int .i64), (.int .i64), (.int .i64), (.int .u64), (.int .u64), (.int .i64), (.int .i64), (.int .i64), (.int .i64), (.int .i64), (.int .i64), (.int .u64), (.int .i64), (.int .i64), (.int .i64), (.int .i64), (.int .i64)]
  | 9 => [(.int .i64), (.int .i64), (.int .i64), (.int .i64), (.int .i64), (.slice (.int .i64)), (.int .i64), (.int .i64), (.int .i64), (.int .i64), (.int .u64), (.int .u64), (.int .i64), (.int .i64), (.int .i64), (.int .i64), (.int .i64), (.int .i64), (.int .u64), (.int .i64), (.int .i64), (.int .i64), (.int .i64), (.int .i64), (.int .i64), (.int .i64), (.int .i64), (.int .i64), (.int .i64), (.int .i64), (.int .u64), (.int .u64), (.int .i64), (.int .i64), (.int .i64), (.int .i64), (.int .i64), (.int .i64), (.int .u64), (.int .i64), (.int .i64), (.int .i64), (.int .i64), (.int .i64)]
  | 10 => [(.int .i64), (.int .i64), (.int .i64), (.int .i64), (.int .i64), (.int .i64), (.int .i64), (.int .i64), (.slice (.int .i64)), (.slice (.int .i64)), (.slice (.int .i64)), (.int .i64), (.int .i64), (.int .i64), (.int .i64), (.int .u64), (.int .i64), (.int .i64), (.int .i64), (.int .i64), (.int .i64), (.int .i64), (.int .i64), (.int .i64), (.int .i64), (.int .i64), (.int .i64), (.int .u64), (.int .u64), (.int .i64), (.int .i64), (.int .i64), (.int .i64), (.int .i64), (.int .i64), (.int .u64), (.int .i64), (.int .i64), (.int .i64), (.int .i64), (.int .i64)]
  | 11 => [(.int .u64), (.int .u64)]
  | 12 => [(.int .i64), (.int .i64)]
  | 13 => [(.int .i64), (.int .i64), (.int .u64), (.int .u64)]
  | 14 => [(.int .i64), (.int .i64), (.int .i64), (.int .i64), (.int .i64), (.int .i64), (.int .i64), (.int .i64), (.int .i64), (.slice (.slice (.int .i64))), (.int .u64), (.slice (.slice (.int .i64))), (.slice (.slice (.named 1))), (.slice (.named 2)), (.int .i64), (.slice (.slice (.int .i64))), (.slice (.int .u64)), (.slice (.slice (.int .i64))), (.int .u64), (.int .u64), (.int .i64), (.int .i64), .bool, .bool, (.int .i64), (.slice (.int .i64)), (.int .i64), (.int .i64), (.int .i64), (.slice (.int .i64)), (.slice (.named 9)), (.slice (.named 10)), (.int .i64), (.int .i64)]
  | 15 => [(.int .i64), (.int .i64), (.int .i64), (.int .i64), (.int .i64), (.int .i64), (.int .i64), (.int .i64), (.int .u64), (.int .u64), (.int .i64), (.int .i64), (.int .i64), (.int .i64), (.int .i64), (.int .i64), (.int .u64), (.int .i64), (.int .i64), (.int .i64), (.int .i64), (.int .i64), (.int .i64), (.int .i64), (.int .i64), (.int .i64), (.int .i64), (.int .i64), (.int .i64), (.int .i64), (.int .i64), (.slice (.slice (.int .i64))), (.int .u64), (.slice (.slice (.int .i64))), (.slice (.slice (.named 1))), (.slice (.named 2)), (.int .i64), (.slice (.slice (.int .i64))), (.slice (.int .u64)), (.slice (.slice (.int .i64))), (.int .u64), (.int .u64), (.int .i64), (.int .i64), .bool, .bool, (.int .i64), (.slice (.int .i64)), (.int .i64), (.int .i64), (.int .i64), (.slice (.int .i64)), (.slice (.named 9)), (.slice (.named 10)), (.int .i64), (.int .i64)]
  | 16 => [(.slice (.int .u8)), (.int .i64)]
  | _ => []
@[reducible] def unp : (n : Nat) → TT n → HL TT (lvs n)
  | 0 => fun x => (x.Obj, x.Who, x.Mode, ())
  | 1 => fun x => (x.Kind, x.R, x.A, x.S, ())
  | 2 => fun x => (x.Kind, x.N, ())
  | 3 => fun x => (x.Slots, x.Objs, ())
  | 4 => fun x => (x.Workers, x.Mutators, x.Cap, x.Buf, x.Bin, x.Most, x.Price, x.Limit, x.H.Slots, x.H.Objs, x.Roots, x.Regs, x.Progs, x.Picks, ())
  | 5 => fun x => (x.Scanned, x.Spent, x.Pool, x.Bal, ())
  | 6 => fun x => (x.Kind, x.PC, x.Base, x.Cap, x.B, x.T, x.X, x.Out, ())
  | 7 => fun x => (x.Kind, x.PC, x.Head, x.Next, x.H, x.X, x.Y, x.Out, ())
  | 8 => fun x => (x.PC, x.Mode, x.Obj, x.Who, x.D.Kind, x.D.PC, x.D.Base, x.D.Cap, x.D.B, x.D.T, x.D.X, x.D.Out, x.C.Kind, x.C.PC, x.C.Head, x.C.Next, x.C.H, x.C.X, x.C.Y, x.C.Out, x.Bin, x.Out, ())
  | 9 => fun x => (x.PC, x.Obj, x.Slot, x.Victim, x.Bin, x.Batch, x.D.Kind, x.D.PC, x.D.Base, x.D.Cap, x.D.B, x.D.T, x.D.X, x.D.Out, x.C.Kind, x.C.PC, x.C.Head, x.C.Next, x.C.H, x.C.X, x.C.Y, x.C.Out, x.G.PC, x.G.Mode, x.G.Obj, x.G.Who, x.G.D.Kind, x.G.D.PC, x.G.D.Base, x.G.D.Cap, x.G.D.B, x.G.D.T, x.G.D.X, x.G.D.Out, x.G.C.Kind, x.G.C.PC, x.G.C.Head, x.G.C.Next, x.G.C.H, x.G.C.X, x.G.C.Y, x.G.C.Out, x.G.Bin, x.G.Out, ())
  | 10 => fun x => (x.PC, x.IP, x.Ret, x.Want, x.Old, x.Obj, x.Slot, x.Bin, x.Regs, x.Buf, x.Batch, x.C.Kind, x.C.PC, x.C.Head, x.C.Next, x.C.H, x.C.X, x.C.Y, x.C.Out, x.G.PC, x.G.Mode, x.G.Obj, x.G.Who, x.G.D.Kind, x.G.D.PC, x.G.D.Base, x.G.D.Cap, x.G.D.B, x.G.D.T, x.G.D.X, x.G.D.Out, x.G.C.Kind, x.G.C.PC, x.G.C.Head, x.G.C.Next, x.G.C.H, x.G.C.X, x.G.C.Y, x.G.C.Out, x.G.Bin, x.G.Out, ())
  | 11 => fun x => (x.Marks, x.Black, ())
  | 12 => fun x => (x.PC, x.I, ())
  | 13 => fun x => (x.Kind, x.At, x.A, x.B, ())
  | 14 => fun x => (x.P.Workers, x.P.Mutators, x.P.Cap, x.P.Buf, x.P.Bin, x.P.Most, x.P.Price, x.P.Limit, x.P.H.Slots, x.P.H.Objs, x.P.Roots, x.P.Regs, x.P.Progs, x.P.Picks, x.H.Slots, x.H.Objs, x.M, x.Bins, x.T.Marks, x.T.Black, x.Work, x.Epoch, x.Flag, x.Done, x.Restarts, x.Acks, x.L.Scanned, x.L.Spent, x.L.Pool, x.L.Bal, x.Ws, x.Ms, x.D.PC, x.D.I, ())
  | 15 => fun x => (x.Grey.PC, x.Grey.Mode, x.Grey.Obj, x.Grey.Who, x.Grey.D.Kind, x.Grey.D.PC, x.Grey.D.Base, x.Grey.D.Cap, x.Grey.D.B, x.Grey.D.T, x.Grey.D.X, x.Grey.D.Out, x.Grey.C.Kind, x.Grey.C.PC, x.Grey.C.Head, x.Grey.C.Next, x.Grey.C.H, x.Grey.C.X, x.Grey.C.Y, x.Grey.C.Out, x.Grey.Bin, x.Grey.Out, x.s.P.Workers, x.s.P.Mutators, x.s.P.Cap, x.s.P.Buf, x.s.P.Bin, x.s.P.Most, x.s.P.Price, x.s.P.Limit, x.s.P.H.Slots, x.s.P.H.Objs, x.s.P.Roots, x.s.P.Regs, x.s.P.Progs, x.s.P.Picks, x.s.H.Slots, x.s.H.Objs, x.s.M, x.s.Bins, x.s.T.Marks, x.s.T.Black, x.s.Work, x.s.Epoch, x.s.Flag, x.s.Done, x.s.Restarts, x.s.Acks, x.s.L.Scanned, x.s.L.Spent, x.s.L.Pool, x.s.L.Bal, x.s.Ws, x.s.Ms, x.s.D.PC, x.s.D.I, ())
  | 16 => fun x => (x.L, x.At, ())
  | _+17 => fun _ => ()
@[reducible] def pck : (n : Nat) → HL TT (lvs n) → TT n
  | 0 => fun x => ⟨x.1, x.2.1, x.2.2.1⟩
  | 1 => fun x => ⟨x.1, x.2.1, x.2.2.1, x.2.2.2.1⟩
  | 2 => fun x => ⟨x.1, x.2.1⟩
  | 3 => fun x => ⟨x.1, x.2.1⟩
  | 4 => fun x => ⟨x.1, x.2.1, x.2.2.1, x.2.2.2.1, x.2.2.2.2.1, x.2.2.2.2.2.1, x.2.2.2.2.2.2.1, x.2.2.2.2.2.2.2.1, ⟨x.2.2.2.2.2.2.2.2.1, x.2.2.2.2.2.2.2.2.2.1⟩, x.2.2.2.2.2.2.2.2.2.2.1, x.2.2.2.2.2.2.2.2.2.2.2.1, x.2.2.2.2.2.2.2.2.2.2.2.2.1, x.2.2.2.2.2.2.2.2.2.2.2.2.2.1⟩
  | 5 => fun x => ⟨x.1, x.2.1, x.2.2.1, x.2.2.2.1⟩
  | 6 => fun x => ⟨x.1, x.2.1, x.2.2.1, x.2.2.2.1, x.2.2.2.2.1, x.2.2.2.2.2.1, x.2.2.2.2.2.2.1, x.2.2.2.2.2.2.2.1⟩
  | 7 => fun x => ⟨x.1, x.2.1, x.2.2.1, x.2.2.2.1, x.2.2.2.2.1, x.2.2.2.2.2.1, x.2.2.2.2.2.2.1, x.2.2.2.2.2.2.2.1⟩
  | 8 => fun x => ⟨x.1, x.2.1, x.2.2.1, x.2.2.2.1, ⟨x.2.2.2.2.1, x.2.2.2.2.2.1, x.2.2.2.2.2.2.1, x.2.2.2.2.2.2.2.1, x.2.2.2.2.2.2.2.2.1, x.2.2.2.2.2.2.2.2.2.1, x.2.2.2.2.2.2.2.2.2.2.1, x.2.2.2.2.2.2.2.2.2.2.2.1⟩, ⟨x.2.2.2.2.2.2.2.2.2.2.2.2.1, x.2.2.2.2.2.2.2.2.2.2.2.2.2.1, x.2.2.2.2.2.2.2.2.2.2.2.2.2.2.1, x.2.2.2.2.2.2.2.2.2.2.2.2.2.2.2.1, x.2.2.2.2.2.2.2.2.2.2.2.2.2.2.2.2.1, x.2.2.2.2.2.2.2.2.2.2.2.2.2.2.2.2.2.1, x.2.2.2.2.2.2.2.2.2.2.2.2.2.2.2.2.2.2.1, x.2.2.2.2.2.2.2.2.2.2.2.2.2.2.2.2.2.2.2.1⟩, x.2.2.2.2.2.2.2.2.2.2.2.2.2.2.2.2.2.2.2.2.1, x.2.2.2.2.2.2.2.2.2.2.2.2.2.2.2.2.2.2.2.2.2.1⟩
  | 9 => fun x => ⟨x.1, x.2.1, x.2.2.1, x.2.2.2.1, x.2.2.2.2.1, x.2.2.2.2.2.1, ⟨x.2.2.2.2.2.2.1, x.2.2.2.2.2.2.2.1, x.2.2.2.2.2.2.2.2.1, x.2.2.2.2.2.2.2.2.2.1, x.2.2.2.2.2.2.2.2.2.2.1, x.2.2.2.2.2.2.2.2.2.2.2.1, x.2.2.2.2.2.2.2.2.2.2.2.2.1, x.2.2.2.2.2.2.2.2.2.2.2.2.2.1⟩, ⟨x.2.2.2.2.2.2.2.2.2.2.2.2.2.2.1, x.2.2.2.2.2.2.2.2.2.2.2.2.2.2.2.1, x.2.2.2.2.2.2.2.2.2.2.2.2.2.2.2.2.1, x.2.2.2.2.2.2.2.2.2.2.2.2.2.2.2.2.2.1, x.2.2.2.2.2.2.2.2.2.2.2.2.2.2.2.2.2.2.1, x.2.2.2.2.2.2.2.2.2.2.2.2.2.2.2.2.2.2.2.1, x.2.2.2.2.2.2.2.2.2.2.2.2.2.2.2.2.2.2.2.2.1, x.2.2.2.2.2.2.2.2.2.2.2.2.2.2.2.2.2.2.2.2.2.1⟩, ⟨x.2.2.2.2.2.2.2.2.2.2.2.2.2.2.2.2.2.2.2.2.2.2.1, x.2.2.2.2.2.2.2.2.2.2.2.2.2.2.2.2.2.2.2.2.2.2.2.1, x.2.2.2.2.2.2.2.2.2.2.2.2.2.2.2.2.2.2.2.2.2.2.2.2.1, x.2.2.2.2.2.2.2.2.2.2.2.2.2.2.2.2.2.2.2.2.2.2.2.2.2.1, ⟨x.2.2.2.2.2.2.2.2.2.2.2.2.2.2.2.2.2.2.2.2.2.2.2.2.2.2.1, x.2.2.2.2.2.2.2.2.2.2.2.2.2.2.2.2.2.2.2.2.2.2.2.2.2.2.2.1, x.2.2.2.2.2.2.2.2.2.2.2.2.2.2.2.2.2.2.2.2.2.2.2.2.2.2.2.2.1, x.2.2.2.2.2.2.2.2.2.2.2.2.2.2.2.2.2.2.2.2.2.2.2.2.2.2.2.2.2.1, x.2.2.2.2.2.2.2.2.2.2.2.2.2.2.2.2.2.2.2.2.2.2.2.2.2.2.2.2.2.2.1, x.2.2.2.2.2.2.2.2.2.2.2.2.2.2.2.2.2.2.2.2.2.2.2.2.2.2.2.2.2.2.2.1, x.2.2.2.2.2.2.2.2.2.2.2.2.2.2.2.2.2.2.2.2.2.2.2.2.2.2.2.2.2.2.2.2.1, x.2.2.2.2.2.2.2.2.2.2.2.2.2.2.2.2.2.2.2.2.2.2.2.2.2.2.2.2.2.2.2.2.2.1⟩, ⟨x.2.2.2.2.2.2.2.2.2.2.2.2.2.2.2.2.2.2.2.2.2.2.2.2.2.2.2.2.2.2.2.2.2.2.1, x.2.2.2.2.2.2.2.2.2.2.2.2.2.2.2.2.2.2.2.2.2.2.2.2.2.2.2.2.2.2.2.2.2.2.2.1, x.2.2.2.2.2.2.2.2.2.2.2.2.2.2.2.2.2.2.2.2.2.2.2.2.2.2.2.2.2.2.2.2.2.2.2.2.1, x.2.2.2.2.2.2.2.2.2.2.2.2.2.2.2.2.2.2.2.2.2.2.2.2.2.2.2.2.2.2.2.2.2.2.2.2.2.1, x.2.2.2.2.2.2.2.2.2.2.2.2.2.2.2.2.2.2.2.2.2.2.2.2.2.2.2.2.2.2.2.2.2.2.2.2.2.2.1, x.2.2.2.2.2.2.2.2.2.2.2.2.2.2.2.2.2.2.2.2.2.2.2.2.2.2.2.2.2.2.2.2.2.2.2.2.2.2.2.1, x.2.2.2.2.2.2.2.2.2.2.2.2.2.2.2.2.2.2.2.2.2.2.2.2.2.2.2.2.2.2.2.2.2.2.2.2.2.2.2.2.1, x.2.2.2.2.2.2.2.2.2.2.2.2.2.2.2.2.2.2.2.2.2.2.2.2.2.2.2.2.2.2.2.2.2.2.2.2.2.2.2.2.2.1⟩, x.2.2.2.2.2.2.2.2.2.2.2.2.2.2.2.2.2.2.2.2.2.2.2.2.2.2.2.2.2.2.2.2.2.2.2.2.2.2.2.2.2.2.1, x.2.2.2.2.2.2.2.2.2.2.2.2.2.2.2.2.2.2.2.2.2.2.2.2.2.2.2.2.2.2.2.2.2.2.2.2.2.2.2.2.2.2.2.1⟩⟩
  | 10 => fun x => ⟨x.1, x.2.1, x.2.2.1, x.2.2.2.1, x.2.2.2.2.1, x.2.2.2.2.2.1, x.2.2.2.2.2.2.1, x.2.2.2.2.2.2.2.1, x.2.2.2.2.2.2.2.2.1, x.2.2.2.2.2.2.2.2.2.1, x.2.2.2.2.2.2.2.2.2.2.1, ⟨x.2.2.2.2.2.2.2.2.2.2.2.1, x.2.2.2.2.2.2.2.2.2.2.2.2.1, x.2.2.2.2.2.2.2.2.2.2.2.2.2.1, x.2.2.2.2.2.2.2.2.2.2.2.2.2.2.1, x.2.2.2.2.2.2.2.2.2.2.2.2.2.2.2.1, x.2.2.2.2.2.2.2.2.2.2.2.2.2.2.2.2.1, x.2.2.2.2.2.2.2.2.2.2.2.2.2.2.2.2.2.1, x.2.2.2.2.2.2.2.2.2.2.2.2.2.2.2.2.2.2.1⟩, ⟨x.2.2.2.2.2.2.2.2.2.2.2.2.2.2.2.2.2.2.2.1, x.2.2.2.2.2.2.2.2.2.2.2.2.2.2.2.2.2.2.2.2.1, x.2.2.2.2.2.2.2.2.2.2.2.2.2.2.2.2.2.2.2.2.2.1, x.2.2.2.2.2.2.2.2.2.2.2.2.2.2.2.2.2.2.2.2.2.2.1, ⟨x.2.2.2.2.2.2.2.2.2.2.2.2.2.2.2.2.2.2.2.2.2.2.2.1, x.2.2.2.2.2.2.2.2.2.2.2.2.2.2.2.2.2.2.2.2.2.2.2.2.1, x.2.2.2.2.2.2.2.2.2.2.2.2.2.2.2.2.2.2.2.2.2.2.2.2.2.1, x.2.2.2.2.2.2.2.2.2.2.2.2.2.2.2.2.2.2.2.2.2.2.2.2.2.2.1, x.2.2.2.2.2.2.2.2.2.2.2.2.2.2.2.2.2.2.2.2.2.2.2.2.2.2.2.1, x.2.2.2.2.2.2.2.2.2.2.2.2.2.2.2.2.2.2.2.2.2.2.2.2.2.2.2.2.1, x.2.2.2.2.2.2.2.2.2.2.2.2.2.2.2.2.2.2.2.2.2.2.2.2.2.2.2.2.2.1, x.2.2.2.2.2.2.2.2.2.2.2.2.2.2.2.2.2.2.2.2.2.2.2.2.2.2.2.2.2.2.1⟩, ⟨x.2.2.2.2.2.2.2.2.2.2.2.2.2.2.2.2.2.2.2.2.2.2.2.2.2.2.2.2.2.2.2.1, x.2.2.2.2.2.2.2.2.2.2.2.2.2.2.2.2.2.2.2.2.2.2.2.2.2.2.2.2.2.2.2.2.1, x.2.2.2.2.2.2.2.2.2.2.2.2.2.2.2.2.2.2.2.2.2.2.2.2.2.2.2.2.2.2.2.2.2.1, x.2.2.2.2.2.2.2.2.2.2.2.2.2.2.2.2.2.2.2.2.2.2.2.2.2.2.2.2.2.2.2.2.2.2.1, x.2.2.2.2.2.2.2.2.2.2.2.2.2.2.2.2.2.2.2.2.2.2.2.2.2.2.2.2.2.2.2.2.2.2.2.1, x.2.2.2.2.2.2.2.2.2.2.2.2.2.2.2.2.2.2.2.2.2.2.2.2.2.2.2.2.2.2.2.2.2.2.2.2.1, x.2.2.2.2.2.2.2.2.2.2.2.2.2.2.2.2.2.2.2.2.2.2.2.2.2.2.2.2.2.2.2.2.2.2.2.2.2.1, x.2.2.2.2.2.2.2.2.2.2.2.2.2.2.2.2.2.2.2.2.2.2.2.2.2.2.2.2.2.2.2.2.2.2.2.2.2.2.1⟩, x.2.2.2.2.2.2.2.2.2.2.2.2.2.2.2.2.2.2.2.2.2.2.2.2.2.2.2.2.2.2.2.2.2.2.2.2.2.2.2.1, x.2.2.2.2.2.2.2.2.2.2.2.2.2.2.2.2.2.2.2.2.2.2.2.2.2.2.2.2.2.2.2.2.2.2.2.2.2.2.2.2.1⟩⟩
  | 11 => fun x => ⟨x.1, x.2.1⟩
  | 12 => fun x => ⟨x.1, x.2.1⟩
  | 13 => fun x => ⟨x.1, x.2.1, x.2.2.1, x.2.2.2.1⟩
  | 14 => fun x => ⟨⟨x.1, x.2.1, x.2.2.1, x.2.2.2.1, x.2.2.2.2.1, x.2.2.2.2.2.1, x.2.2.2.2.2.2.1, x.2.2.2.2.2.2.2.1, ⟨x.2.2.2.2.2.2.2.2.1, x.2.2.2.2.2.2.2.2.2.1⟩, x.2.2.2.2.2.2.2.2.2.2.1, x.2.2.2.2.2.2.2.2.2.2.2.1, x.2.2.2.2.2.2.2.2.2.2.2.2.1, x.2.2.2.2.2.2.2.2.2.2.2.2.2.1⟩, ⟨x.2.2.2.2.2.2.2.2.2.2.2.2.2.2.1, x.2.2.2.2.2.2.2.2.2.2.2.2.2.2.2.1⟩, x.2.2.2.2.2.2.2.2.2.2.2.2.2.2.2.2.1, x.2.2.2.2.2.2.2.2.2.2.2.2.2.2.2.2.2.1, ⟨x.2.2.2.2.2.2.2.2.2.2.2.2.2.2.2.2.2.2.1, x.2.2.2.2.2.2.2.2.2.2.2.2.2.2.2.2.2.2.2.1⟩, x.2.2.2.2.2.2.2.2.2.2.2.2.2.2.2.2.2.2.2.2.1, x.2.2.2.2.2.2.2.2.2.2.2.2.2.2.2.2.2.2.2.2.2.1, x.2.2.2.2.2.2.2.2.2.2.2.2.2.2.2.2.2.2.2.2.2.2.1, x.2.2.2.2.2.2.2.2.2.2.2.2.2.2.2.2.2.2.2.2.2.2.2.1, x.2.2.2.2.2.2.2.2.2.2.2.2.2.2.2.2.2.2.2.2.2.2.2.2.1, x.2.2.2.2.2.2.2.2.2.2.2.2.2.2.2.2.2.2.2.2.2.2.2.2.2.1, ⟨x.2.2.2.2.2.2.2.2.2.2.2.2.2.2.2.2.2.2.2.2.2.2.2.2.2.2.1, x.2.2.2.2.2.2.2.2.2.2.2.2.2.2.2.2.2.2.2.2.2.2.2.2.2.2.2.1, x.2.2.2.2.2.2.2.2.2.2.2.2.2.2.2.2.2.2.2.2.2.2.2.2.2.2.2.2.1, x.2.2.2.2.2.2.2.2.2.2.2.2.2.2.2.2.2.2.2.2.2.2.2.2.2.2.2.2.2.1⟩, x.2.2.2.2.2.2.2.2.2.2.2.2.2.2.2.2.2.2.2.2.2.2.2.2.2.2.2.2.2.2.1, x.2.2.2.2.2.2.2.2.2.2.2.2.2.2.2.2.2.2.2.2.2.2.2.2.2.2.2.2.2.2.2.1, ⟨x.2.2.2.2.2.2.2.2.2.2.2.2.2.2.2.2.2.2.2.2.2.2.2.2.2.2.2.2.2.2.2.2.1, x.2.2.2.2.2.2.2.2.2.2.2.2.2.2.2.2.2.2.2.2.2.2.2.2.2.2.2.2.2.2.2.2.2.1⟩⟩
  | 15 => fun x => ⟨⟨x.1, x.2.1, x.2.2.1, x.2.2.2.1, ⟨x.2.2.2.2.1, x.2.2.2.2.2.1, x.2.2.2.2.2.2.1, x.2.2.2.2.2.2.2.1, x.2.2.2.2.2.2.2.2.1, x.2.2.2.2.2.2.2.2.2.1, x.2.2.2.2.2.2.2.2.2.2.1, x.2.2.2.2.2.2.2.2.2.2.2.1⟩, ⟨x.2.2.2.2.2.2.2.2.2.2.2.2.1, x.2.2.2.2.2.2.2.2.2.2.2.2.2.1, x.2.2.2.2.2.2.2.2.2.2.2.2.2.2.1, x.2.2.2.2.2.2.2.2.2.2.2.2.2.2.2.1, x.2.2.2.2.2.2.2.2.2.2.2.2.2.2.2.2.1, x.2.2.2.2.2.2.2.2.2.2.2.2.2.2.2.2.2.1, x.2.2.2.2.2.2.2.2.2.2.2.2.2.2.2.2.2.2.1, x.2.2.2.2.2.2.2.2.2.2.2.2.2.2.2.2.2.2.2.1⟩, x.2.2.2.2.2.2.2.2.2.2.2.2.2.2.2.2.2.2.2.2.1, x.2.2.2.2.2.2.2.2.2.2.2.2.2.2.2.2.2.2.2.2.2.1⟩, ⟨⟨x.2.2.2.2.2.2.2.2.2.2.2.2.2.2.2.2.2.2.2.2.2.2.1, x.2.2.2.2.2.2.2.2.2.2.2.2.2.2.2.2.2.2.2.2.2.2.2.1, x.2.2.2.2.2.2.2.2.2.2.2.2.2.2.2.2.2.2.2.2.2.2.2.2.1, x.2.2.2.2.2.2.2.2.2.2.2.2.2.2.2.2.2.2.2.2.2.2.2.2.2.1, x.2.2.2.2.2.2.2.2.2.2.2.2.2.2.2.2.2.2.2.2.2.2.2.2.2.2.1, x.2.2.2.2.2.2.2.2.2.2.2.2.2.2.2.2.2.2.2.2.2.2.2.2.2.2.2.1, x.2.2.2.2.2.2.2.2.2.2.2.2.2.2.2.2.2.2.2.2.2.2.2.2.2.2.2.2.1, x.2.2.2.2.2.2.2.2.2.2.2.2.2.2.2.2.2.2.2.2.2.2.2.2.2.2.2.2.2.1, ⟨x.2.2.2.2.2.2.2.2.2.2.2.2.2.2.2.2.2.2.2.2.2.2.2.2.2.2.2.2.2.2.1, x.2.2.2.2.2.2.2.2.2.2.2.2.2.2.2.2.2.2.2.2.2.2.2.2.2.2.2.2.2.2.2.1⟩, x.2.2.2.2.2.2.2.2.2.2.2.2.2.2.2.2.2.2.2.2.2.2.2.2.2.2.2.2.2.2.2.2.1, x.2.2.2.2.2.2.2.2.2.2.2.2.2.2.2.2.2.2.2.2.2.2.2.2.2.2.2.2.2.2.2.2.2.1, x.2.2.2.2.2.2.2.2.2.2.2.2.2.2.2.2.2.2.2.2.2.2.2.2.2.2.2.2.2.2.2.2.2.2.1, x.2.2.2.2.2.2.2.2.2.2.2.2.2.2.2.2.2.2.2.2.2.2.2.2.2.2.2.2.2.2.2.2.2.2.2.1⟩, ⟨x.2.2.2.2.2.2.2.2.2.2.2.2.2.2.2.2.2.2.2.2.2.2.2.2.2.2.2.2.2.2.2.2.2.2.2.2.1, x.2.2.2.2.2.2.2.2.2.2.2.2.2.2.2.2.2.2.2.2.2.2.2.2.2.2.2.2.2.2.2.2.2.2.2.2.2.1⟩, x.2.2.2.2.2.2.2.2.2.2.2.2.2.2.2.2.2.2.2.2.2.2.2.2.2.2.2.2.2.2.2.2.2.2.2.2.2.2.1, x.2.2.2.2.2.2.2.2.2.2.2.2.2.2.2.2.2.2.2.2.2.2.2.2.2.2.2.2.2.2.2.2.2.2.2.2.2.2.2.1, ⟨x.2.2.2.2.2.2.2.2.2.2.2.2.2.2.2.2.2.2.2.2.2.2.2.2.2.2.2.2.2.2.2.2.2.2.2.2.2.2.2.2.1, x.2.2.2.2.2.2.2.2.2.2.2.2.2.2.2.2.2.2.2.2.2.2.2.2.2.2.2.2.2.2.2.2.2.2.2.2.2.2.2.2.2.1⟩, x.2.2.2.2.2.2.2.2.2.2.2.2.2.2.2.2.2.2.2.2.2.2.2.2.2.2.2.2.2.2.2.2.2.2.2.2.2.2.2.2.2.2.1, x.2.2.2.2.2.2.2.2.2.2.2.2.2.2.2.2.2.2.2.2.2.2.2.2.2.2.2.2.2.2.2.2.2.2.2.2.2.2.2.2.2.2.2.1, x.2.2.2.2.2.2.2.2.2.2.2.2.2.2.2.2.2.2.2.2.2.2.2.2.2.2.2.2.2.2.2.2.2.2.2.2.2.2.2.2.2.2.2.2.1, x.2.2.2.2.2.2.2.2.2.2.2.2.2.2.2.2.2.2.2.2.2.2.2.2.2.2.2.2.2.2.2.2.2.2.2.2.2.2.2.2.2.2.2.2.2.1, x.2.2.2.2.2.2.2.2.2.2.2.2.2.2.2.2.2.2.2.2.2.2.2.2.2.2.2.2.2.2.2.2.2.2.2.2.2.2.2.2.2.2.2.2.2.2.1, x.2.2.2.2.2.2.2.2.2.2.2.2.2.2.2.2.2.2.2.2.2.2.2.2.2.2.2.2.2.2.2.2.2.2.2.2.2.2.2.2.2.2.2.2.2.2.2.1, ⟨x.2.2.2.2.2.2.2.2.2.2.2.2.2.2.2.2.2.2.2.2.2.2.2.2.2.2.2.2.2.2.2.2.2.2.2.2.2.2.2.2.2.2.2.2.2.2.2.2.1, x.2.2.2.2.2.2.2.2.2.2.2.2.2.2.2.2.2.2.2.2.2.2.2.2.2.2.2.2.2.2.2.2.2.2.2.2.2.2.2.2.2.2.2.2.2.2.2.2.2.1, x.2.2.2.2.2.2.2.2.2.2.2.2.2.2.2.2.2.2.2.2.2.2.2.2.2.2.2.2.2.2.2.2.2.2.2.2.2.2.2.2.2.2.2.2.2.2.2.2.2.2.1, x.2.2.2.2.2.2.2.2.2.2.2.2.2.2.2.2.2.2.2.2.2.2.2.2.2.2.2.2.2.2.2.2.2.2.2.2.2.2.2.2.2.2.2.2.2.2.2.2.2.2.2.1⟩, x.2.2.2.2.2.2.2.2.2.2.2.2.2.2.2.2.2.2.2.2.2.2.2.2.2.2.2.2.2.2.2.2.2.2.2.2.2.2.2.2.2.2.2.2.2.2.2.2.2.2.2.2.1, x.2.2.2.2.2.2.2.2.2.2.2.2.2.2.2.2.2.2.2.2.2.2.2.2.2.2.2.2.2.2.2.2.2.2.2.2.2.2.2.2.2.2.2.2.2.2.2.2.2.2.2.2.2.1, ⟨x.2.2.2.2.2.2.2.2.2.2.2.2.2.2.2.2.2.2.2.2.2.2.2.2.2.2.2.2.2.2.2.2.2.2.2.2.2.2.2.2.2.2.2.2.2.2.2.2.2.2.2.2.2.2.1, x.2.2.2.2.2.2.2.2.2.2.2.2.2.2.2.2.2.2.2.2.2.2.2.2.2.2.2.2.2.2.2.2.2.2.2.2.2.2.2.2.2.2.2.2.2.2.2.2.2.2.2.2.2.2.2.1⟩⟩⟩
  | 16 => fun x => ⟨x.1, x.2.1⟩
  | _+17 => fun _ => ()
theorem zrT : ∀ n x, pck n (unp n x) = x
  | 0 => fun _ => rfl
  | 1 => fun _ => rfl
  | 2 => fun _ => rfl
  | 3 => fun _ => rfl
  | 4 => fun _ => rfl
  | 5 => fun _ => rfl
  | 6 => fun _ => rfl
  | 7 => fun _ => rfl
  | 8 => fun _ => rfl
  | 9 => fun _ => rfl
  | 10 => fun _ => rfl
  | 11 => fun _ => rfl
  | 12 => fun _ => rfl
  | 13 => fun _ => rfl
  | 14 => fun _ => rfl
  | 15 => fun _ => rfl
  | 16 => fun _ => rfl
  | _+17 => fun _ => rfl
theorem zr1 : ∀ n h, unp n (pck n h) = h
  | 0 => fun _ => rfl
  | 1 => fun _ => rfl
  | 2 => fun _ => rfl
  | 3 => fun _ => rfl
  | 4 => fun _ => rfl
  | 5 => fun _ => rfl
  | 6 => fun _ => rfl
  | 7 => fun _ => rfl
  | 8 => fun _ => rfl
  | 9 => fun _ => rfl
  | 10 => fun _ => rfl
  | 11 => fun _ => rfl
  | 12 => fun _ => rfl
  | 13 => fun _ => rfl
  | 14 => fun _ => rfl
  | 15 => fun _ => rfl
  | 16 => fun _ => rfl
  | _+17 => fun _ => rfl
theorem zqx : ∀ n, (lvs n).all (fun t => match t with | .named _ => false | .arr _ _ => false | _ => true) = true
  | 0 => rfl
  | 1 => rfl
  | 2 => rfl
  | 3 => rfl
  | 4 => rfl
  | 5 => rfl
  | 6 => rfl
  | 7 => rfl
  | 8 => rfl
  | 9 => rfl
  | 10 => rfl
  | 11 => rfl
  | 12 => rfl
  | 13 => rfl
  | 14 => rfl
  | 15 => rfl
  | 16 => rfl
  | _+17 => rfl
def E : zW where
  T := TT
  leaves := lvs
  unpack := unp
  pack := pck
  pu := zrT
  up := zr1
  lf := zqx
def tab : List (Nat × TI) := [
  (2, { size := 1, agg := false, fields := [], elem := 0, alen := 0, ty := some (.int .i64), zero := [.int .i64], bytes := 8, sl := false, fk := false, cmp := false, mp := false }),
  (3, { size := 1, agg := false, fields := [], elem := 0, alen := 0, ty := some (.int .i64), zero := [.int .i64], bytes := 8, sl := false, fk := false, cmp := false, mp := false }),
  (4, { size := 1, agg := false, fields := [], elem := 0, alen := 0, ty := some .bool, zero := [.bool], bytes := 1, sl := false, fk := false, cmp := false, mp := false }),
  (5, { size := 1, agg := false, fields := [], elem := 0, alen := 0, ty := some (.int .u8), zero := [.int .u8], bytes := 1, sl := false, fk := false, cmp := false, mp := false }),
  (22, { size := 1, agg := false, fields := [], elem := 5, alen := 0, ty := some (.slice (.int .u8)), zero := [.slice], bytes := 24, sl := true, fk := false, cmp := false, mp := false }),
  (24, { size := 3, agg := true, fields := [(0, 5), (1, 5), (2, 5)], elem := 0, alen := 0, ty := some (.named 0), zero := [.int .u8, .int .u8, .int .u8], bytes := 3, sl := false, fk := false, cmp := true, mp := false }),
  (26, { size := 1, agg := false, fields := [], elem := 39, alen := 0, ty := some (.slice (.slice (.int .i64))), zero := [.slice], bytes := 24, sl := true, fk := false, cmp := false, mp := false }),
  (28, { size := 2, agg := true, fields := [(0, 3), (1, 26)], elem := 0, alen := 0, ty := some (.named 3), zero := [.int .i64, .slice], bytes := 32, sl := false, fk := false, cmp := false, mp := false }),
  (29, { size := 1, agg := false, fields := [], elem := 0, alen := 0, ty := some (.int .u64), zero := [.int .u64], bytes := 8, sl := false, fk := false, cmp := false, mp := false }),
  (30, { size := 1, agg := false, fields := [], elem := 0, alen := 0, ty := some (.int .u64), zero := [.int .u64], bytes := 8, sl := false, fk := false, cmp := false, mp := false }),
  (31, { size := 1, agg := false, fields := [], elem := 95, alen := 0, ty := some (.slice (.slice (.named 1))), zero := [.slice], bytes := 24, sl := true, fk := false, cmp := false, mp := false }),
  (32, { size := 1, agg := false, fields := [], elem := 146, alen := 0, ty := some (.slice (.named 2)), zero := [.slice], bytes := 24, sl := true, fk := false, cmp := false, mp := false }),
  (34, { size := 14, agg := true, fields := [(0, 3), (1, 3), (2, 3), (3, 3), (4, 3), (5, 3), (6, 2), (7, 2), (8, 28), (10, 30), (11, 26), (12, 31), (13, 32)], elem := 0, alen := 0, ty := some (.named 4), zero := [.int .i64, .int .i64, .int .i64, .int .i64, .int .i64, .int .i64, .int .i64, .int .i64, .int .i64, .slice, .int .u64, .slice, .slice, .slice], bytes := 176, sl := false, fk := false, cmp := false, mp := false }),
  (36, { size := 1, agg := false, fields := [], elem := 29, alen := 0, ty := some (.slice (.int .u64)), zero := [.slice], bytes := 24, sl := true, fk := false, cmp := false, mp := false }),
  (38, { size := 2, agg := true, fields := [(0, 30), (1, 30)], elem := 0, alen := 0, ty := some (.named 11), zero := [.int .u64, .int .u64], bytes := 16, sl := false, fk := false, cmp := true, mp := false }),
  (39, { size := 1, agg := false, fields := [], elem := 3, alen := 0, ty := some (.slice (.int .i64)), zero := [.slice], bytes := 24, sl := true, fk := false, cmp := false, mp := false }),
  (40, { size := 1, agg := false, fields := [], elem := 2, alen := 0, ty := some (.slice (.int .i64)), zero := [.slice], bytes := 24, sl := true, fk := false, cmp := false, mp := false }),
  (42, { size := 4, agg := true, fields := [(0, 2), (1, 2), (2, 2), (3, 40)], elem := 0, alen := 0, ty := some (.named 5), zero := [.int .i64, .int .i64, .int .i64, .slice], bytes := 48, sl := false, fk := false, cmp := false, mp := false }),
  (43, { size := 1, agg := false, fields := [], elem := 83, alen := 0, ty := some (.slice (.named 9)), zero := [.slice], bytes := 24, sl := true, fk := false, cmp := false, mp := false }),
  (44, { size := 1, agg := false, fields := [], elem := 90, alen := 0, ty := some (.slice (.named 10)), zero := [.slice], bytes := 24, sl := true, fk := false, cmp := false, mp := false }),
  (46, { size := 2, agg := true, fields := [(0, 3), (1, 3)], elem := 0, alen := 0, ty := some (.named 12), zero := [.int .i64, .int .i64], bytes := 16, sl := false, fk := false, cmp := true, mp := false }),
  (48, { size := 34, agg := true, fields := [(0, 34), (14, 28), (16, 36), (17, 26), (18, 38), (20, 3), (21, 3), (22, 4), (23, 4), (24, 3), (25, 39), (26, 42), (30, 43), (31, 44), (32, 46)], elem := 0, alen := 0, ty := some (.named 14), zero := [.int .i64, .int .i64, .int .i64, .int .i64, .int .i64, .int .i64, .int .i64, .int .i64, .int .i64, .slice, .int .u64, .slice, .slice, .slice, .int .i64, .slice, .slice, .slice, .int .u64, .int .u64, .int .i64, .int .i64, .bool, .bool, .int .i64, .slice, .int .i64, .int .i64, .int .i64, .slice, .slice, .slice, .int .i64, .int .i64], bytes := 440, sl := false, fk := false, cmp := false, mp := false }),
  (51, { size := 1, agg := false, fields := [], elem := 59, alen := 0, ty := some (.slice (.named 8)), zero := [.slice], bytes := 24, sl := true, fk := false, cmp := false, mp := false }),
  (55, { size := 8, agg := true, fields := [(0, 3), (1, 3), (2, 3), (3, 3), (4, 29), (5, 29), (6, 3), (7, 3)], elem := 0, alen := 0, ty := some (.named 6), zero := [.int .i64, .int .i64, .int .i64, .int .i64, .int .u64, .int .u64, .int .i64, .int .i64], bytes := 64, sl := false, fk := false, cmp := true, mp := false }),
  (57, { size := 8, agg := true, fields := [(0, 3), (1, 3), (2, 3), (3, 3), (4, 29), (5, 3), (6, 3), (7, 3)], elem := 0, alen := 0, ty := some (.named 7), zero := [.int .i64, .int .i64, .int .i64, .int .i64, .int .u64, .int .i64, .int .i64, .int .i64], bytes := 64, sl := false, fk := false, cmp := true, mp := false }),
  (59, { size := 22, agg := true, fields := [(0, 3), (1, 3), (2, 3), (3, 3), (4, 55), (12, 57), (20, 3), (21, 3)], elem := 0, alen := 0, ty := some (.named 8), zero := [.int .i64, .int .i64, .int .i64, .int .i64, .int .i64, .int .i64, .int .i64, .int .i64, .int .u64, .int .u64, .int .i64, .int .i64, .int .i64, .int .i64, .int .i64, .int .i64, .int .u64, .int .i64, .int .i64, .int .i64, .int .i64, .int .i64], bytes := 176, sl := false, fk := false, cmp := true, mp := false }),
  (83, { size := 44, agg := true, fields := [(0, 3), (1, 3), (2, 3), (3, 3), (4, 3), (5, 39), (6, 55), (14, 57), (22, 59)], elem := 0, alen := 0, ty := some (.named 9), zero := [.int .i64, .int .i64, .int .i64, .int .i64, .int .i64, .slice, .int .i64, .int .i64, .int .i64, .int .i64, .int .u64, .int .u64, .int .i64, .int .i64, .int .i64, .int .i64, .int .i64, .int .i64, .int .u64, .int .i64, .int .i64, .int .i64, .int .i64, .int .i64, .int .i64, .int .i64, .int .i64, .int .i64, .int .i64, .int .i64, .int .u64, .int .u64, .int .i64, .int .i64, .int .i64, .int .i64, .int .i64, .int .i64, .int .u64, .int .i64, .int .i64, .int .i64, .int .i64, .int .i64], bytes := 368, sl := false, fk := false, cmp := false, mp := false }),
  (90, { size := 41, agg := true, fields := [(0, 3), (1, 3), (2, 3), (3, 3), (4, 3), (5, 3), (6, 3), (7, 3), (8, 39), (9, 39), (10, 39), (11, 57), (19, 59)], elem := 0, alen := 0, ty := some (.named 10), zero := [.int .i64, .int .i64, .int .i64, .int .i64, .int .i64, .int .i64, .int .i64, .int .i64, .slice, .slice, .slice, .int .i64, .int .i64, .int .i64, .int .i64, .int .u64, .int .i64, .int .i64, .int .i64, .int .i64, .int .i64, .int .i64, .int .i64, .int .i64, .int .i64, .int .i64, .int .i64, .int .u64, .int .u64, .int .i64, .int .i64, .int .i64, .int .i64, .int .i64, .int .i64, .int .u64, .int .i64, .int .i64, .int .i64, .int .i64, .int .i64], bytes := 376, sl := false, fk := false, cmp := false, mp := false }),
  (93, { size := 2, agg := true, fields := [(0, 22), (1, 3)], elem := 0, alen := 0, ty := some (.named 16), zero := [.slice, .int .i64], bytes := 32, sl := false, fk := false, cmp := false, mp := false }),
  (95, { size := 1, agg := false, fields := [], elem := 97, alen := 0, ty := some (.slice (.named 1)), zero := [.slice], bytes := 24, sl := true, fk := false, cmp := false, mp := false }),
  (97, { size := 4, agg := true, fields := [(0, 3), (1, 3), (2, 3), (3, 3)], elem := 0, alen := 0, ty := some (.named 1), zero := [.int .i64, .int .i64, .int .i64, .int .i64], bytes := 32, sl := false, fk := false, cmp := true, mp := false }),
  (103, { size := 1, agg := false, fields := [], elem := 0, alen := 0, ty := none, zero := [.func], bytes := 8, sl := false, fk := true, cmp := false, mp := false }),
  (105, { size := 8, agg := true, fields := [], elem := 103, alen := 8, ty := none, zero := [.func, .func, .func, .func, .func, .func, .func, .func], bytes := 64, sl := false, fk := false, cmp := false, mp := false }),
  (107, { size := 56, agg := true, fields := [(0, 59), (22, 48)], elem := 0, alen := 0, ty := some (.named 15), zero := [.int .i64, .int .i64, .int .i64, .int .i64, .int .i64, .int .i64, .int .i64, .int .i64, .int .u64, .int .u64, .int .i64, .int .i64, .int .i64, .int .i64, .int .i64, .int .i64, .int .u64, .int .i64, .int .i64, .int .i64, .int .i64, .int .i64, .int .i64, .int .i64, .int .i64, .int .i64, .int .i64, .int .i64, .int .i64, .int .i64, .int .i64, .slice, .int .u64, .slice, .slice, .slice, .int .i64, .slice, .slice, .slice, .int .u64, .int .u64, .int .i64, .int .i64, .bool, .bool, .int .i64, .slice, .int .i64, .int .i64, .int .i64, .slice, .slice, .slice, .int .i64, .int .i64], bytes := 616, sl := false, fk := false, cmp := false, mp := false }),
  (137, { size := 4, agg := true, fields := [(0, 3), (1, 3), (2, 29), (3, 29)], elem := 0, alen := 0, ty := some (.named 13), zero := [.int .i64, .int .i64, .int .u64, .int .u64], bytes := 32, sl := false, fk := false, cmp := true, mp := false }),
  (143, { size := 1, agg := false, fields := [], elem := 3, alen := 0, ty := none, zero := [.map], bytes := 8, sl := false, fk := false, cmp := false, mp := true }),
  (146, { size := 2, agg := true, fields := [(0, 3), (1, 3)], elem := 0, alen := 0, ty := some (.named 2), zero := [.int .i64, .int .i64], bytes := 16, sl := false, fk := false, cmp := true, mp := false }),
  (148, { size := 1, agg := false, fields := [], elem := 150, alen := 0, ty := none, zero := [.slice], bytes := 24, sl := true, fk := false, cmp := false, mp := false }),
  (150, { size := 1, agg := false, fields := [], elem := 0, alen := 0, ty := none, zero := [.func], bytes := 8, sl := false, fk := true, cmp := false, mp := false }),
  (152, { size := 1, agg := false, fields := [], elem := 0, alen := 0, ty := none, zero := [.func], bytes := 8, sl := false, fk := true, cmp := false, mp := false }),
  (153, { size := 3, agg := true, fields := [], elem := 152, alen := 3, ty := none, zero := [.func, .func, .func], bytes := 24, sl := false, fk := false, cmp := false, mp := false }),
  (154, { size := 1, agg := false, fields := [], elem := 0, alen := 0, ty := none, zero := [.func], bytes := 8, sl := false, fk := true, cmp := false, mp := false }),
  (155, { size := 1, agg := false, fields := [], elem := 154, alen := 0, ty := none, zero := [.map], bytes := 8, sl := false, fk := false, cmp := false, mp := true })]
theorem zlB : yb E.leaves Go.Proofs.Tryz.prog tab = true := by kernel_rfl
theorem zoh : (Go.Proofs.Tryz.prog).follows .mixedOrders = true := by kernel_rfl
abbrev L (n : Nat) : List SK := (lvs n).map .val
abbrev vI : SK := .val (.int .i64)
abbrev vU : SK := .val (.int .u64)
abbrev vB : SK := .val .bool
abbrev vL : SK := .val (.slice (.int .i64))
abbrev vM : SK := .val (.slice (.int .u64))
abbrev oI : Grp := .one (.int .i64)
abbrev oU : Grp := .one (.int .u64)
abbrev oB : Grp := .one .bool
abbrev oL : Grp := .one (.slice (.int .i64))
abbrev oM : Grp := .one (.slice (.int .u64))
noncomputable abbrev cf := zov (E := E) Go.Proofs.Tryz.prog tab
noncomputable abbrev sp (C : Cfg E) (fn : Func) (i o : yB) (gi go : List Grp) (hi : wK E gi = i.holes := by kernel_rfl) (ho : wK E go = o.holes := by kernel_rfl) : zy E := zgu C fn i o gi go hi ho
noncomputable abbrev lo (sl : List Nat) (i : yB) (b : Nat) (bs : List Nat) (bk : yB) (rs : List Nat) (r : yB) (gi gb gr : List Grp) (hi : wK E gi = i.holes := by kernel_rfl) (hb : wK E gb = bk.holes := by kernel_rfl) (hr : wK E gr = r.holes := by kernel_rfl) : z6 E := { slots := sl, inn := i, brkId := b, bslots := bs, brk := bk, rslots := rs, ret := r, gi := grp gi hi, gb := grp gb hb, gr := grp gr hr }
end Go.Pe.G
namespace Go.Proofs
open Go.Shelf
def rhoTz : Go.Shelf.Ren := { f := fun k => if k = 29 then 85 else k, t := fun k => if k = 22 then 29 else if k = 25 then 124 else if k = 54 then 160 else k, g := fun k => if k = 1 then 0 else k }
theorem laysTz : Lays7.n29 Tryz.prog rhoTz := by
  constructor <;> first | kernel_rfl | (intro w; kernel_rfl)
end Go.Proofs
namespace Go.Pe.G
open Go.Pe
def zoH (G : Nat → Prop) (W0 : World) : Prop := G 0 ∧ Go.Proofs.TabAt 0 Go.Lib.deBruijn64tab W0
noncomputable def tz (x : BitVec 64) : Int := ((Go.Lib.ctz 64 x.toNat : Nat) : Int)
noncomputable def pTZ : zy E := { inn := ⟨[.val (.int .u64)], []⟩, out := ⟨[.val (.int .i64)], []⟩, gi := grp [.one (.int .u64)] rfl, go := grp [.one (.int .i64)] rfl, F := fun x => some (tz x.1, ()) }
noncomputable def qTZ (a : BitVec 64) : Option (Int × Unit) := pTZ.F (a, ())
theorem zsH (a : BitVec 64) : qTZ a = some (tz a, ()) := rfl
theorem zse : ub Go.Proofs.Tryz.prog 85 = true := by kernel_rfl
theorem zpI {G : Nat → Prop} {W0 : World} (hG : zoH G W0) : Yq Go.Proofs.Tryz.prog G W0 85 pTZ := by
  intro A0 μ w args x y wd S hr hy
  obtain ⟨hg, hT⟩ := hG
  have hw : w.heap[0]? = W0.heap[0]? := (wd.glob 0 hg).2
  have hx : ∃ v, args = #[v] ∧ zS E w (Av A0 μ ([] : List (Blk E))) (.int .u64) v x.1 := by
    have hl := hr.1
    have hl : 1 = args.toList.length := hl
    match ha : args.toList, hl with
    | [v], _ =>
      have h1 := hr.2 0 (.v (.int .u64) x.1) v rfl (by rw [ha]; rfl)
      refine ⟨v, ?_, ?_⟩
      · rw [← Array.toArray_toList (xs := args), ha]
      · cases h1 with
        | v _ _ _ h => exact h
  obtain ⟨v, rfl, hv⟩ := hx
  cases hv with
  | int k z =>
  have hz : x.1.toNat < 18446744073709551616 := x.1.isLt
  have hk := Go.Proofs.Any7.bits_TrailingZeros64 Go.Proofs.laysTz x.1.toNat hz w (fun _ j hj => by
    have := hT j hj
    unfold World.cell? at this ⊢
    show _ = _
    have e0 : Go.Proofs.rhoTz.g 1 = 0 := rfl
    rw [e0]
    simp only [hw]
    exact this)
  have hy : some (tz x.1, ()) = some y := hy
  injection hy with hy
  subst hy
  refine hk.mono ?_
  rintro e w' ⟨rfl, rfl⟩
  refine ⟨[.int .i64 (tz x.1)], A0, μ, rfl, S, ?_, Adv.refl _ _, fun _ h => h, wd.low, fun j ws h => by simp [pTZ] at h⟩
  exact RL.cons (.v _ _ _ (.int .i64 (tz x.1))) RL.nil
noncomputable def W1 : Nat → BitVec 64 → Option (List Int)
  | 0, _ => none
  | f + 1, s => bif decide (s = 0#64) then some [] else (W1 f (s &&& (s - 1#64))).map fun l => w64 (tz s + 1) :: l
def xw (n : Nat) : Nat → List Int → List (List Int)
  | 0, _ => []
  | _ + 1, [] => []
  | f + 1, x :: l => (x :: l).take n :: xw n f ((x :: l).drop n)
def zbT (l : List Int) (n : Int) : Option (List (List Int)) := bif decide (1 ≤ n) && decide (n < 1000000) && decide ((l.length : Int) < 1000000) then some (xw n.toNat l.length l) else none
end Go.Pe.G
namespace Go.Pe.G
open Go.Pe
noncomputable section
def ze6 : Cfg E := cf [] [] [] [] [] []
def Xw : zy E := sp ze6 Go.Proofs.Tryz.f39 ⟨[vU], []⟩ ⟨[vI], []⟩ [oU] [oI]
def zaw (a1 : BitVec 64) : Option (Int × Unit) := Xw.F (a1, ())
def zli : Cfg E := cf [(39, [Xw])] [] [] [] [] []
def UZ : zy E := sp zli Go.Proofs.Tryz.f10 ⟨[vU], []⟩ ⟨[vI], []⟩ [oU] [oI]
def UV (a1 : BitVec 64) : Option (Int × Unit) := UZ.F (a1, ())
def zjG : Cfg E := cf [] [] [] [] [] []
def Z5 : zy E := sp zjG Go.Proofs.Tryz.f17 ⟨[.val (.named 4)], []⟩ ⟨[vI], []⟩ [.one (.named 4)] [oI]
def uK (a1 : zb) : Option (Int × Unit) := Z5.F (a1, ())
def zi9 : Cfg E := cf [(17, [Z5])] [] [] [] [] []
def YG : zy E := sp zi9 Go.Proofs.Tryz.f34 ⟨[.val (.named 4)], []⟩ ⟨[vI], []⟩ [.one (.named 4)] [oI]
def YL (a1 : zb) : Option (Int × Unit) := YG.F (a1, ())
def zjq : Cfg E := cf [(34, [YG])] [] [] [] [] []
def Ye : zy E := sp zjq Go.Proofs.Tryz.f18 ⟨[.val (.named 4)], []⟩ ⟨[vI], []⟩ [.one (.named 4)] [oI]
def vP (a1 : zb) : Option (Int × Unit) := Ye.F (a1, ())
def zik : Cfg E := cf [] [] [] [] [] []
def YH : zy E := sp zik Go.Proofs.Tryz.f54 ⟨[vI, vI, vI], []⟩ ⟨[vB], []⟩ [oI, oI, oI] [oB]
def xP (a1 : Int) (a2 : Int) (a3 : Int) : Option (Bool × Unit) := YH.F (a1, a2, a3, ())
def zfz : Cfg E := cf [(54, [YH])] [] [] [] [] []
def X2 : zy E := sp zfz Go.Proofs.Tryz.f52 ⟨[.val (.named 4)], []⟩ ⟨[vB], []⟩ [.one (.named 4)] [oB]
def X6 (a1 : zb) : Option (Bool × Unit) := X2.F (a1, ())
def zf2 : Cfg E := cf [] [] [] [] [] []
def WT : zy E := sp zf2 Go.Proofs.Tryz.f75 ⟨[vI, .ptr 0], [.box false [vI, .val (.slice (.slice (.int .i64)))]]⟩ ⟨[vB], [.gone]⟩ [oI, .str 3] [oB]
def zcy (a1 : Int) (a2 : zG) : Option (Bool × Unit) := WT.F (a1, a2, ())
def Zy : z6 E := lo [0, 1, 7, 8] ⟨[vL, .fn 75 [.ptr 1], vI, vI], [.gone, .box false [vI, .val (.slice (.slice (.int .i64)))]]⟩ 0 [] ⟨[], [.gone]⟩ [4] ⟨[vI], [.gone]⟩ [oL, oI, oI, .str 3] [] [oI]
def vi : Cfg E := cf [(75, [WT])] [(2, Zy)] [] [] [] []
def vQ : zy E := sp vi Go.Proofs.Tryz.f77 ⟨[vL, .fn 75 [.ptr 0]], [.box false [vI, .val (.slice (.slice (.int .i64)))]]⟩ ⟨[vI], [.gone]⟩ [oL, .str 3] [oI]
def Yk (a1 : List Int) (a2 : zG) : Option (Int × Unit) := vQ.F (a1, a2, ())
def Zt (x : (List Int) × Int × Int × zG × Unit) : Option (xm ((List Int) × Int × Int × zG × Unit) (Unit) (Int × Unit)) := yv vi (exec vi (xr Go.Proofs.Tryz.f77 2)) 19 Zy x
def WR : Cfg E := cf [(77, [vQ])] [] [] [] [] []
def wX : zy E := sp WR Go.Proofs.Tryz.f57 ⟨[vL, .fn 75 [.ptr 0]], [.box false [vI, .val (.slice (.slice (.int .i64)))]]⟩ ⟨[vB], [.gone]⟩ [oL, .str 3] [oB]
def wO (a1 : List Int) (a2 : zG) : Option (Bool × Unit) := wX.F (a1, a2, ())
def zhq : Cfg E := cf [(57, [wX])] [] [] [] [] []
def Uu : zy E := sp zhq Go.Proofs.Tryz.f74 ⟨[vL, .ptr 0], [.box false [vI, .val (.slice (.slice (.int .i64)))]]⟩ ⟨[vB], [.gone]⟩ [oL, .str 3] [oB]
def zd6 (a1 : List Int) (a2 : zG) : Option (Bool × Unit) := Uu.F (a1, a2, ())
def uO : z6 E := lo [0, 1, 7, 8] ⟨[.val (.slice (.slice (.int .i64))), .fn 74 [.ptr 1], vI, vI], [.gone, .box false [vI, .val (.slice (.slice (.int .i64)))]]⟩ 0 [] ⟨[], [.gone]⟩ [4] ⟨[vI], [.gone]⟩ [.one (.slice (.slice (.int .i64))), oI, oI, .str 3] [] [oI]
def wM : Cfg E := cf [(74, [Uu])] [(2, uO)] [] [] [] []
def vg : zy E := sp wM Go.Proofs.Tryz.f96 ⟨[.val (.slice (.slice (.int .i64))), .fn 74 [.ptr 0]], [.box false [vI, .val (.slice (.slice (.int .i64)))]]⟩ ⟨[vI], [.gone]⟩ [.one (.slice (.slice (.int .i64))), .str 3] [oI]
def ZV (a1 : List (List Int)) (a2 : zG) : Option (Int × Unit) := vg.F (a1, a2, ())
def uT (x : (List (List Int)) × Int × Int × zG × Unit) : Option (xm ((List (List Int)) × Int × Int × zG × Unit) (Unit) (Int × Unit)) := yv wM (exec wM (xr Go.Proofs.Tryz.f96 2)) 19 uO x
def Wb : Cfg E := cf [(96, [vg])] [] [] [] [] []
def wp : zy E := sp Wb Go.Proofs.Tryz.f76 ⟨[.val (.slice (.slice (.int .i64))), .fn 74 [.ptr 0]], [.box false [vI, .val (.slice (.slice (.int .i64)))]]⟩ ⟨[vB], [.gone]⟩ [.one (.slice (.slice (.int .i64))), .str 3] [oB]
def wq (a1 : List (List Int)) (a2 : zG) : Option (Bool × Unit) := wp.F (a1, a2, ())
def zku : Cfg E := cf [(76, [wp])] [] [] [] [] []
def zbY : zy E := sp zku Go.Proofs.Tryz.f53 ⟨[.val (.named 3)], []⟩ ⟨[vB], []⟩ [.one (.named 3)] [oB]
def zcF (a1 : zG) : Option (Bool × Unit) := zbY.F (a1, ())
def zk7 : Cfg E := cf [] [] [] [] [] []
def zdT : zy E := sp zk7 Go.Proofs.Tryz.f55 ⟨[vU, vU], []⟩ ⟨[vB], []⟩ [oU, oU] [oB]
def zhh (a1 : BitVec 64) (a2 : BitVec 64) : Option (Bool × Unit) := zdT.F (a1, a2, ())
def zln : Cfg E := cf [] [] [] [] [] []
def zdB : zy E := sp zln Go.Proofs.Tryz.f56 ⟨[vI], []⟩ ⟨[vU], []⟩ [oI] [oU]
def zdX (a1 : Int) : Option ((BitVec 64) × Unit) := zdB.F (a1, ())
def zhJ : Cfg E := cf [(54, [YH])] [] [] [] [] []
def UA : zy E := sp zhJ Go.Proofs.Tryz.f58 ⟨[vI, .ptr 0], [.box false [vI]]⟩ ⟨[vB], [.gone]⟩ [oI, oI] [oB]
def zej (a1 : Int) (a2 : Int) : Option (Bool × Unit) := UA.F (a1, a2, ())
def uE : z6 E := lo [0, 1, 7, 8] ⟨[vL, .fn 58 [.ptr 1], vI, vI], [.gone, .box false [vI]]⟩ 0 [] ⟨[], [.gone]⟩ [4] ⟨[vI], [.gone]⟩ [oL, oI, oI, oI] [] [oI]
def wo : Cfg E := cf [(58, [UA])] [(2, uE)] [] [] [] []
def wV : zy E := sp wo Go.Proofs.Tryz.f77 ⟨[vL, .fn 58 [.ptr 0]], [.box false [vI]]⟩ ⟨[vI], [.gone]⟩ [oL, oI] [oI]
def Zw (a1 : List Int) (a2 : Int) : Option (Int × Unit) := wV.F (a1, a2, ())
def uG (x : (List Int) × Int × Int × Int × Unit) : Option (xm ((List Int) × Int × Int × Int × Unit) (Unit) (Int × Unit)) := yv wo (exec wo (xr Go.Proofs.Tryz.f77 2)) 19 uE x
def XF : Cfg E := cf [(77, [wV])] [] [] [] [] []
def wh : zy E := sp XF Go.Proofs.Tryz.f57 ⟨[vL, .fn 58 [.ptr 0]], [.box false [vI]]⟩ ⟨[vB], [.gone]⟩ [oL, oI] [oB]
def wj (a1 : List Int) (a2 : Int) : Option (Bool × Unit) := wh.F (a1, a2, ())
def zhK : Cfg E := cf [] [] [] [] [] []
def Ut : zy E := sp zhK Go.Proofs.Tryz.f98 ⟨[vI, .ptr 0], [.box false [vI]]⟩ ⟨[vB], [.gone]⟩ [oI, oI] [oB]
def zM (a1 : Int) (a2 : Int) : Option (Bool × Unit) := Ut.F (a1, a2, ())
def zj7 : Cfg E := cf [(98, [Ut])] [] [] [] [] []
def zcx : zy E := sp zj7 Go.Proofs.Tryz.f80 ⟨[.val (.named 1), vI, vI], []⟩ ⟨[vB], []⟩ [.one (.named 1), oI, oI] [oB]
def zcG (a1 : zj) (a2 : Int) (a3 : Int) : Option (Bool × Unit) := zcx.F (a1, a2, a3, ())
def ziG : Cfg E := cf [(80, [zcx])] [] [] [] [] []
def zaP : zy E := sp ziG Go.Proofs.Tryz.f79 ⟨[.val (.named 1), .ptr 0, .ptr 1], [.box false [vI], .box false [vI]]⟩ ⟨[vB], [.gone, .gone]⟩ [.one (.named 1), oI, oI] [oB]
def zfv (a1 : zj) (a2 : Int) (a3 : Int) : Option (Bool × Unit) := zaP.F (a1, a2, a3, ())
def vq : z6 E := lo [0, 1, 7, 8] ⟨[.val (.slice (.named 1)), .fn 79 [.ptr 2, .ptr 3], vI, vI], [.gone, .gone, .box false [vI], .box false [vI]]⟩ 0 [] ⟨[], [.gone, .gone]⟩ [4] ⟨[vI], [.gone, .gone]⟩ [.one (.slice (.named 1)), oI, oI, oI, oI] [] [oI]
def xI : Cfg E := cf [(79, [zaP])] [(2, vq)] [] [] [] []
def xS : zy E := sp xI Go.Proofs.Tryz.f97 ⟨[.val (.slice (.named 1)), .fn 79 [.ptr 0, .ptr 1]], [.box false [vI], .box false [vI]]⟩ ⟨[vI], [.gone, .gone]⟩ [.one (.slice (.named 1)), oI, oI] [oI]
def vW (a1 : List zj) (a2 : Int) (a3 : Int) : Option (Int × Unit) := xS.F (a1, a2, a3, ())
def vm (x : (List zj) × Int × Int × Int × Int × Unit) : Option (xm ((List zj) × Int × Int × Int × Int × Unit) (Unit) (Int × Unit)) := yv xI (exec xI (xr Go.Proofs.Tryz.f97 2)) 19 vq x
def Yl : Cfg E := cf [(97, [xS])] [] [] [] [] []
def xD : zy E := sp Yl Go.Proofs.Tryz.f78 ⟨[.val (.slice (.named 1)), .fn 79 [.ptr 0, .ptr 1]], [.box false [vI], .box false [vI]]⟩ ⟨[vB], [.gone, .gone]⟩ [.one (.slice (.named 1)), oI, oI] [oB]
def vn (a1 : List zj) (a2 : Int) (a3 : Int) : Option (Bool × Unit) := xD.F (a1, a2, a3, ())
def zlb : Cfg E := cf [(78, [xD])] [] [] [] [] []
def zdS : zy E := sp zlb Go.Proofs.Tryz.f59 ⟨[.val (.slice (.named 1)), vI, vI], []⟩ ⟨[vB], []⟩ [.one (.slice (.named 1)), oI, oI] [oB]
def zdQ (a1 : List zj) (a2 : Int) (a3 : Int) : Option (Bool × Unit) := zdS.F (a1, a2, a3, ())
def zjA : Cfg E := cf [] [] [] [] [] []
def zcq : zy E := sp zjA Go.Proofs.Tryz.f83 ⟨[.val (.named 2)], []⟩ ⟨[vB], []⟩ [.one (.named 2)] [oB]
def zgc (a1 : zk) : Option (Bool × Unit) := zcq.F (a1, ())
def zhA : Cfg E := cf [(83, [zcq])] [] [] [] [] []
def UD : zy E := sp zhA Go.Proofs.Tryz.f82 ⟨[.val (.named 2), .ptr 0], [.box false [.map 1], .map [(1, vI), (2, vI)]]⟩ ⟨[vB], [.gone, .gone]⟩ [.one (.named 2), oI, oI] [oB]
def zem (a1 : zk) (a2 : Int) (a3 : Int) : Option (Bool × Unit) := UD.F (a1, a2, a3, ())
def wE : z6 E := lo [0, 1, 7, 8] ⟨[.val (.slice (.named 2)), .fn 82 [.ptr 2], vI, vI], [.gone, .gone, .box false [.map 3], .map [(1, vI), (2, vI)]]⟩ 0 [] ⟨[], [.gone, .gone]⟩ [4] ⟨[vI], [.gone, .gone]⟩ [.one (.slice (.named 2)), oI, oI, oI, oI] [] [oI]
def xg : Cfg E := cf [(82, [UD])] [(2, wE)] [] [] [] []
def xu : zy E := sp xg Go.Proofs.Tryz.f99 ⟨[.val (.slice (.named 2)), .fn 82 [.ptr 0]], [.box false [.map 1], .map [(1, vI), (2, vI)]]⟩ ⟨[vI], [.gone, .gone]⟩ [.one (.slice (.named 2)), oI, oI] [oI]
def vf (a1 : List zk) (a2 : Int) (a3 : Int) : Option (Int × Unit) := xu.F (a1, a2, a3, ())
def wv (x : (List zk) × Int × Int × Int × Int × Unit) : Option (xm ((List zk) × Int × Int × Int × Int × Unit) (Unit) (Int × Unit)) := yv xg (exec xg (xr Go.Proofs.Tryz.f99 2)) 19 wE x
def ZN : Cfg E := cf [(99, [xu])] [] [] [] [] []
def xe : zy E := sp ZN Go.Proofs.Tryz.f81 ⟨[.val (.slice (.named 2)), .fn 82 [.ptr 0]], [.box false [.map 1], .map [(1, vI), (2, vI)]]⟩ ⟨[vB], [.gone, .gone]⟩ [.one (.slice (.named 2)), oI, oI] [oB]
def wy (a1 : List zk) (a2 : Int) (a3 : Int) : Option (Bool × Unit) := xe.F (a1, a2, a3, ())
def zj6 : Cfg E := cf [(81, [xe])] [] [] [] [] []
def zb7 : zy E := sp zj6 Go.Proofs.Tryz.f60 ⟨[.val (.slice (.named 2)), vI, vI], []⟩ ⟨[vB], []⟩ [.one (.slice (.named 2)), oI, oI] [oB]
def zco (a1 : List zk) (a2 : Int) (a3 : Int) : Option (Bool × Unit) := zb7.F (a1, a2, a3, ())
def zc4 : z6 E := lo [1, 3, 51, 52, 53] ⟨[.ptr 0, .ptr 1, .val (.slice (.slice (.int .i64))), vI, vI], [.box true (L 4), .box true [vI]]⟩ 0 [1] ⟨[.ptr 0], [.box true (L 4)]⟩ [2] ⟨[vB], []⟩ [.one (.slice (.slice (.int .i64))), oI, oI, .str 4, oI] [.str 4] [oB]
def UE : Cfg E := cf [(52, [X2]), (53, [zbY]), (54, [YH]), (55, [zdT]), (56, [zdB]), (57, [wh]), (59, [zdS]), (60, [zb7])] [(5, zc4)] [] [] [] []
def zb9 : zy E := sp UE Go.Proofs.Tryz.f22 ⟨[.val (.named 4)], []⟩ ⟨[vB], []⟩ [.one (.named 4)] [oB]
def zbM (a1 : zb) : Option (Bool × Unit) := zb9.F (a1, ())
def zdc (x : (List (List Int)) × Int × Int × zb × Int × Unit) : Option (xm ((List (List Int)) × Int × Int × zb × Int × Unit) (zb × Unit) (Bool × Unit)) := yv UE (exec UE (xr Go.Proofs.Tryz.f22 5)) 95 zc4 x
def znf : Cfg E := cf [] [] [] [] [] []
def zdj : zy E := sp znf Go.Proofs.Tryz.f38 ⟨[vI], []⟩ ⟨[vU], []⟩ [oI] [oU]
def zdb (a1 : Int) : Option ((BitVec 64) × Unit) := zdj.F (a1, ())
def zm1 : Cfg E := cf [(38, [zdj])] [] [] [] [] []
def Vf : zy E := sp zm1 Go.Proofs.Tryz.f9 ⟨[vU, vI], []⟩ ⟨[vU], []⟩ [oU, oI] [oU]
def Xu (a1 : BitVec 64) (a2 : Int) : Option ((BitVec 64) × Unit) := Vf.F (a1, a2, ())
def zg4 : z6 E := lo [3, 6, 7, 8] ⟨[vU, vL, vI, vI], []⟩ 0 [3] ⟨[vU], []⟩ [] ⟨[], []⟩ [oU, oL, oI, oI] [oU] []
def zeN : Cfg E := cf [(9, [Vf])] [(3, zg4)] [] [] [] []
def zhV : zy E := sp zeN Go.Proofs.Tryz.f61 ⟨[vL], []⟩ ⟨[vU], []⟩ [oL] [oU]
def zhz (a1 : List Int) : Option ((BitVec 64) × Unit) := zhV.F (a1, ())
def zd2 (x : (BitVec 64) × (List Int) × Int × Int × Unit) : Option (xm ((BitVec 64) × (List Int) × Int × Int × Unit) ((BitVec 64) × Unit) (Unit)) := yv zeN (exec zeN (xr Go.Proofs.Tryz.f61 3)) 17 zg4 x
def zdl : z6 E := lo [3, 9, 10, 11] ⟨[vU, .val (.slice (.slice (.int .i64))), vI, vI], []⟩ 0 [3] ⟨[vU], []⟩ [] ⟨[], []⟩ [oU, .one (.slice (.slice (.int .i64))), oI, oI] [oU] []
def Uq : Cfg E := cf [(61, [zhV])] [(3, zdl)] [] [] [] []
def zbV : zy E := sp Uq Go.Proofs.Tryz.f23 ⟨[.val (.named 4)], []⟩ ⟨[vU], []⟩ [.one (.named 4)] [oU]
def zcf (a1 : zb) : Option ((BitVec 64) × Unit) := zbV.F (a1, ())
def VO (x : (BitVec 64) × (List (List Int)) × Int × Int × Unit) : Option (xm ((BitVec 64) × (List (List Int)) × Int × Int × Unit) ((BitVec 64) × Unit) (Unit)) := yv Uq (exec Uq (xr Go.Proofs.Tryz.f23 3)) 21 zdl x
def zjY : Cfg E := cf [] [] [] [] [] []
def zb5 : zy E := sp zjY Go.Proofs.Tryz.f24 ⟨[vI], []⟩ ⟨[.val (.named 5)], []⟩ [oI] [.one (.named 5)]
def zbZ (a1 : Int) : Option (zA × Unit) := zb5.F (a1, ())
def za9 : Cfg E := cf [] [] [] [] [] []
def vk : zy E := sp za9 Go.Proofs.Tryz.f26 ⟨[vL], []⟩ ⟨[.own 0], [.row true (.int .i64)]⟩ [oL] [oL]
def xU (a1 : List Int) : Option ((List Int) × Unit) := vk.F (a1, ())
def VU : z6 E := lo [1, 5, 14, 15] ⟨[.fn 26 [], .own 0, vI, vI], [.row true (.slice (.int .i64))]⟩ 0 [5] ⟨[.own 0], [.row true (.slice (.int .i64))]⟩ [] ⟨[], []⟩ [oI, oI, .one (.slice (.slice (.int .i64)))] [.one (.slice (.slice (.int .i64)))] []
def YW : Cfg E := cf [(26, [vk])] [(4, VU)] [] [] [] []
def X5 : zy E := sp YW Go.Proofs.Tryz.f25 ⟨[.val (.slice (.slice (.int .i64))), .fn 26 []], []⟩ ⟨[.own 0], [.row true (.slice (.int .i64))]⟩ [.one (.slice (.slice (.int .i64)))] [.one (.slice (.slice (.int .i64)))]
def X3 (a1 : List (List Int)) : Option ((List (List Int)) × Unit) := X5.F (a1, ())
def wU (x : Int × Int × (List (List Int)) × Unit) : Option (xm (Int × Int × (List (List Int)) × Unit) ((List (List Int)) × Unit) (Unit)) := yv YW (exec YW (xr Go.Proofs.Tryz.f25 4)) 29 VU x
def zih : Cfg E := cf [] [] [] [] [] []
def zaJ : zy E := sp zih Go.Proofs.Tryz.f27 ⟨[vI], []⟩ ⟨[.own 0], [.row true (.int .u64)]⟩ [oI] [oM]
def zaU (a1 : Int) : Option ((List (BitVec 64)) × Unit) := zaJ.F (a1, ())
def zh8 : Cfg E := cf [] [] [] [] [] []
def WE : zy E := sp zh8 Go.Proofs.Tryz.f28 ⟨L 1, []⟩ ⟨[.val (.named 6)], []⟩ [oI, oI, oI, oI] [.one (.named 6)]
def zaG (a1 : Int) (a2 : Int) (a3 : Int) (a4 : Int) : Option (zg × Unit) := WE.F (a1, a2, a3, a4, ())
def zi6 : Cfg E := cf [] [] [] [] [] []
def WH : zy E := sp zi6 Go.Proofs.Tryz.f29 ⟨[.val (.named 4), vI], []⟩ ⟨[vI], []⟩ [.one (.named 4), oI] [oI]
def WI (a1 : zb) (a2 : Int) : Option (Int × Unit) := WH.F (a1, a2, ())
def zk9 : Cfg E := cf [] [] [] [] [] []
def zdN : zy E := sp zk9 Go.Proofs.Tryz.f30 ⟨[.val (.named 4)], []⟩ ⟨[vI], []⟩ [.one (.named 4)] [oI]
def UT (a1 : zb) : Option (Int × Unit) := zdN.F (a1, ())
def zbx : Cfg E := cf [] [] [] [] [] []
def Zc : zy E := sp zbx Go.Proofs.Tryz.f31 ⟨[vL, vI], []⟩ ⟨[.fn 62 [.ptr 0, .ptr 1]], [.box true [vL], .box true [vI]]⟩ [oL, oI] [oL, oI]
def X1 (a1 : List Int) (a2 : Int) : Option ((List Int) × Int × Unit) := Zc.F (a1, a2, ())
def zmF : Cfg E := cf [] [] [] [] [] []
def zeS : zy E := sp zmF Go.Proofs.Tryz.f63 ⟨[vU], []⟩ ⟨[.fn 84 [.ptr 0]], [.box true [vU]]⟩ [oU] [oU]
def zji (a1 : BitVec 64) : Option ((BitVec 64) × Unit) := zeS.F (a1, ())
def zc7 : z6 E := lo [0, 1] ⟨[.yld, .ptr 0], [.box true [vU]]⟩ 0 [0] ⟨[.yld], []⟩ [0] ⟨[.yld], []⟩ [oI, oI, oU] [oI, oI] [oI, oI]
def zii : Cfg E := cf [(85, [pTZ])] [(0, zc7)] [] [] [] []
def XQ (ys : List Int) : Cfg E := { zii with yl := true, ye := (.int .i64), yd := ys }
def zea : yB := ⟨[.ptr 0], [.box true [vU]]⟩
def Xh : wQ E := { inn := zea, e := (.int .i64), F := fun x => W1 66 x.1 }
def zgh (a1 : BitVec 64) : Option (List Int) := Xh.F (a1, ())
def Y7 (ys : List Int) (x : Int × Int × (BitVec 64) × Unit) : Option (xm (Int × Int × (BitVec 64) × Unit) (Int × Int × Unit) (Int × Int × Unit)) := yv (XQ ys) (exec (XQ ys) (xr Go.Proofs.Tryz.f84 0)) 15 zc7 x
def zfr : z6 E := lo [3] ⟨[.ptr 0], [.box true [.own 1], .row true (.int .i64)]⟩ 0 [] ⟨[], []⟩ [] ⟨[], []⟩ [oL] [] []
def VN : Cfg E := cf [(63, [zeS])] [(3, zfr)] [] [] [] [(84, Xh)]
def zeB : zy E := sp VN Go.Proofs.Tryz.f32 ⟨[vU], []⟩ ⟨[.own 0], [.row true (.int .i64)]⟩ [oU] [oL]
def ze8 (a1 : BitVec 64) : Option ((List Int) × Unit) := zeB.F (a1, ())
def zaS (y : Int) (x : (List Int) × Unit) : Option ((List Int) × Unit) := zes VN (exec VN (zsn Go.Proofs.Tryz.f32 3)) (exec VN (zpl Go.Proofs.Tryz.f32 3)) 13 zfr 7 (.int .i64) y x
def zl4 : Cfg E := cf [] [] [] [] [] []
def zfk : zy E := sp zl4 Go.Proofs.Tryz.f91 ⟨[vU], []⟩ ⟨[vU, vB], []⟩ [oU] [oU, oB]
def zja (a1 : BitVec 64) : Option ((BitVec 64) × Bool × Unit) := zfk.F (a1, ())
def zmI : Cfg E := cf [] [] [] [] [] []
def ze5 : zy E := sp zmI Go.Proofs.Tryz.f92 ⟨[vU, .ptr 0], [.box false (L 13)]⟩ ⟨[vU, vB], [.gone]⟩ [oU, .str 13] [oU, oB]
def ziO (a1 : BitVec 64) (a2 : ve) : Option ((BitVec 64) × Bool × Unit) := ze5.F (a1, a2, ())
def zmJ : Cfg E := cf [] [] [] [] [] []
def zfn : zy E := sp zmJ Go.Proofs.Tryz.f93 ⟨[vU, .ptr 0], [.box false (L 13)]⟩ ⟨[vU, vB], [.gone]⟩ [oU, .str 13] [oU, oB]
def zh5 (a1 : BitVec 64) (a2 : ve) : Option ((BitVec 64) × Bool × Unit) := zfn.F (a1, a2, ())
def zmw : Cfg E := cf [] [] [] [] [] []
def zeA : zy E := sp zmw Go.Proofs.Tryz.f94 ⟨[vU, .ptr 0], [.box false (L 13)]⟩ ⟨[vU, vB], [.gone]⟩ [oU, .str 13] [oU, oB]
def ziR (a1 : BitVec 64) (a2 : ve) : Option ((BitVec 64) × Bool × Unit) := zeA.F (a1, a2, ())
def Vn : Cfg E := cf [] [] [] [] [] []
def vh : zy E := sp Vn Go.Proofs.Tryz.f95 ⟨[vM], []⟩ ⟨[.own 0], [.row true (.int .u64)]⟩ [oM] [oM]
def yx (a1 : List (BitVec 64)) : Option ((List (BitVec 64)) × Unit) := vh.F (a1, ())
def zoW : Cfg E := cf [(91, [zfk]), (92, [ze5]), (93, [zfn]), (94, [zeA]), (95, [vh])] [] [] [] [] []
def Xl : zy E := sp zoW Go.Proofs.Tryz.f73 ⟨[vM, .val (.named 13)], []⟩ ⟨[vM, vU, vB], []⟩ [oM, .one (.named 13)] [oM, oU, oB]
def uQ (a1 : List (BitVec 64)) (a2 : ve) : Option ((List (BitVec 64)) × (BitVec 64) × Bool × Unit) := Xl.F (a1, a2, ())
def zix : Cfg E := cf [(73, [Xl])] [] [] [] [] []
def WD : zy E := sp zix Go.Proofs.Tryz.f64 ⟨[vM, vI, vU], []⟩ ⟨[vM], []⟩ [oM, oI, oU] [oM]
def v9 (a1 : List (BitVec 64)) (a2 : Int) (a3 : BitVec 64) : Option ((List (BitVec 64)) × Unit) := WD.F (a1, a2, a3, ())
def zkm : Cfg E := cf [] [] [] [] [] []
def VQ : zy E := sp zkm Go.Proofs.Tryz.f65 ⟨[vU, vI], []⟩ ⟨[vU], []⟩ [oU, oI] [oU]
def Z1 (a1 : BitVec 64) (a2 : Int) : Option ((BitVec 64) × Unit) := VQ.F (a1, a2, ())
def zd3 : z6 E := lo [0, 1, 2, 3, 13, 14] ⟨[vM, vI, vI, vL, vI, vI], []⟩ 0 [0, 1, 3] ⟨[vM, vI, vL], []⟩ [] ⟨[], []⟩ [oM, oI, oI, oL, oI, oI] [oM, oI, oL] []
def zaZ : Cfg E := cf [(64, [WD]), (65, [VQ])] [(2, zd3)] [] [] [] []
def zdF : zy E := sp zaZ Go.Proofs.Tryz.f33 ⟨[vM, vI, vI, vL], []⟩ ⟨[vM], []⟩ [oM, oI, oI, oL] [oM]
def UU (a1 : List (BitVec 64)) (a2 : Int) (a3 : Int) (a4 : List Int) : Option ((List (BitVec 64)) × Unit) := zdF.F (a1, a2, a3, a4, ())
def Uj (x : (List (BitVec 64)) × Int × Int × (List Int) × Int × Int × Unit) : Option (xm ((List (BitVec 64)) × Int × Int × (List Int) × Int × Int × Unit) ((List (BitVec 64)) × Int × (List Int) × Unit) (Unit)) := yv zaZ (exec zaZ (xr Go.Proofs.Tryz.f33 2)) 49 zd3 x
def ZU : z6 E := lo [0, 1, 2, 4] ⟨[.yld, .ptr 0, .ptr 1, vI], [.box true [vL], .box true [vI]]⟩ 0 [0] ⟨[.yld], []⟩ [0] ⟨[.yld], []⟩ [oI, oI, oI, oL, oI] [oI, oI] [oI, oI]
def VY : Cfg E := cf [] [(1, ZU)] [] [] [] []
def xT (ys : List (List Int)) : Cfg E := { VY with yl := true, ye := (.slice (.int .i64)), yd := ys }
def Z0 : yB := ⟨[.ptr 0, .ptr 1], [.box true [vL], .box true [vI]]⟩
def xq : wQ E := { inn := Z0, e := (.slice (.int .i64)), F := fun x => zbT x.1 x.2.1 }
def YF (a1 : List Int) (a2 : Int) : Option (List (List Int)) := xq.F (a1, a2, ())
def xM (ys : List (List Int)) (x : Int × Int × Int × (List Int) × Int × Unit) : Option (xm (Int × Int × Int × (List Int) × Int × Unit) (Int × Int × Unit) (Int × Int × Unit)) := yv (xT ys) (exec (xT ys) (xr Go.Proofs.Tryz.f62 1)) 31 ZU x
def zev : z6 E := lo [1, 2, 3, 4, 37, 38] ⟨[.ptr 0, .ptr 1, vU, .ptr 2, vI, vI], [.box true (L 4), .box true (L 1 ++ L 1 ++ [vI, .own 3, vU, .own 4, .own 5, .own 6, vI, .own 7, .own 8, .own 9, vU, vU, vI, vI, vB, vB, vI, .own 10, vI, vI, vI, .own 11, .own 12, .own 13, vI, vI]), .box true (L 4 ++ [vI, .own 14, .own 15, .own 16, vU, vU, vI, vI, vB, vB, vI, .own 17] ++ L 5 ++ [.own 18, .own 19, vI, vI]), .row true (.slice (.int .i64)), .row true (.slice (.int .i64)), .row true (.slice (.named 1)), .row true (.named 2), .row true (.slice (.int .i64)), .row true (.int .u64), .row true (.slice (.int .i64)), .row true (.int .i64), .row true (.int .i64), .row true (.named 9), .row true (.named 10), .row true (.slice (.int .i64)), .row true (.int .u64), .row true (.slice (.int .i64)), .row true (.int .i64), .row true (.named 9), .row true (.named 10)]⟩ 0 [1, 2, 3, 4] ⟨[.ptr 0, .ptr 1, vU, .ptr 2], [.box true (L 4), .box true (L 1 ++ L 1 ++ [vI, .own 3, vU, .own 4, .own 5, .own 6, vI, .own 7, .own 8, .own 9, vU, vU, vI, vI, vB, vB, vI, .own 10, vI, vI, vI, .own 11, .own 12, .own 13, vI, vI]), .box true (L 4 ++ [vI, .own 14, .own 15, .own 16, vU, vU, vI, vI, vB, vB, vI, .own 17] ++ L 5 ++ [.own 18, .own 19, vI, vI]), .row true (.slice (.int .i64)), .row true (.slice (.int .i64)), .row true (.slice (.named 1)), .row true (.named 2), .row true (.slice (.int .i64)), .row true (.int .u64), .row true (.slice (.int .i64)), .row true (.int .i64), .row true (.int .i64), .row true (.named 9), .row true (.named 10), .row true (.slice (.int .i64)), .row true (.int .u64), .row true (.slice (.int .i64)), .row true (.int .i64), .row true (.named 9), .row true (.named 10)]⟩ [] ⟨[], []⟩ [oU, oI, oI, .str 4, oI, oI, oI, oI, oI, oI, oI, oI, oI, oU, oI, .str 11, oI, oI, oB, oB, oI, oI, oI, oI, .str 12, .str 4, oI, .str 11, oI, oI, oB, oB, oI, .str 5, .str 12, .one (.slice (.slice (.int .i64))), .one (.slice (.slice (.int .i64))), .one (.slice (.slice (.named 1))), .one (.slice (.named 2)), .one (.slice (.slice (.int .i64))), oM, .one (.slice (.slice (.int .i64))), oL, oL, .one (.slice (.named 9)), .one (.slice (.named 10)), .one (.slice (.slice (.int .i64))), oM, .one (.slice (.slice (.int .i64))), oL, .one (.slice (.named 9)), .one (.slice (.named 10))] [oU, .str 4, oI, oI, oI, oI, oI, oI, oI, oI, oI, oU, oI, .str 11, oI, oI, oB, oB, oI, oI, oI, oI, .str 12, .str 4, oI, .str 11, oI, oI, oB, oB, oI, .str 5, .str 12, .one (.slice (.slice (.int .i64))), .one (.slice (.slice (.int .i64))), .one (.slice (.slice (.named 1))), .one (.slice (.named 2)), .one (.slice (.slice (.int .i64))), oM, .one (.slice (.slice (.int .i64))), oL, oL, .one (.slice (.named 9)), .one (.slice (.named 10)), .one (.slice (.slice (.int .i64))), oM, .one (.slice (.slice (.int .i64))), oL, .one (.slice (.named 9)), .one (.slice (.named 10))] []
def zc9 : z6 E := lo [1, 2, 3, 4, 6, 72, 73] ⟨[.ptr 0, .ptr 1, vU, .ptr 2, .own 3, vI, vI], [.box true (L 4), .box true (L 1 ++ L 1 ++ [vI, .own 4, vU, .own 5, .own 6, .own 7, vI, .own 8, .own 9, .own 10, vU, vU, vI, vI, vB, vB, vI, .own 11, vI, vI, vI, .own 12, .own 13, .own 14, vI, vI]), .box true (L 4 ++ [vI, .own 15, .own 16, .own 17, vU, vU, vI, vI, vB, vB, vI, .own 18] ++ L 5 ++ [.own 19, .own 20, vI, vI]), .row true (.int .i64), .row true (.slice (.int .i64)), .row true (.slice (.int .i64)), .row true (.slice (.named 1)), .row true (.named 2), .row true (.slice (.int .i64)), .row true (.int .u64), .row true (.slice (.int .i64)), .row true (.int .i64), .row true (.int .i64), .row true (.named 9), .row true (.named 10), .row true (.slice (.int .i64)), .row true (.int .u64), .row true (.slice (.int .i64)), .row true (.int .i64), .row true (.named 9), .row true (.named 10)]⟩ 2 [1, 2, 3, 4, 6] ⟨[.ptr 0, .ptr 1, vU, .ptr 2, .own 3], [.box true (L 4), .box true (L 1 ++ L 1 ++ [vI, .own 4, vU, .own 5, .own 6, .own 7, vI, .own 8, .own 9, .own 10, vU, vU, vI, vI, vB, vB, vI, .own 11, vI, vI, vI, .own 12, .own 13, .own 14, vI, vI]), .box true (L 4 ++ [vI, .own 15, .own 16, .own 17, vU, vU, vI, vI, vB, vB, vI, .own 18] ++ L 5 ++ [.own 19, .own 20, vI, vI]), .row true (.int .i64), .row true (.slice (.int .i64)), .row true (.slice (.int .i64)), .row true (.slice (.named 1)), .row true (.named 2), .row true (.slice (.int .i64)), .row true (.int .u64), .row true (.slice (.int .i64)), .row true (.int .i64), .row true (.int .i64), .row true (.named 9), .row true (.named 10), .row true (.slice (.int .i64)), .row true (.int .u64), .row true (.slice (.int .i64)), .row true (.int .i64), .row true (.named 9), .row true (.named 10)]⟩ [] ⟨[], []⟩ [oU, oI, oI, .str 4, oI, oI, oI, oI, oI, oI, oI, oI, oI, oU, oI, .str 11, oI, oI, oB, oB, oI, oI, oI, oI, .str 12, .str 4, oI, .str 11, oI, oI, oB, oB, oI, .str 5, .str 12, oL, .one (.slice (.slice (.int .i64))), .one (.slice (.slice (.int .i64))), .one (.slice (.slice (.named 1))), .one (.slice (.named 2)), .one (.slice (.slice (.int .i64))), oM, .one (.slice (.slice (.int .i64))), oL, oL, .one (.slice (.named 9)), .one (.slice (.named 10)), .one (.slice (.slice (.int .i64))), oM, .one (.slice (.slice (.int .i64))), oL, .one (.slice (.named 9)), .one (.slice (.named 10))] [oU, .str 4, oI, oI, oI, oI, oI, oI, oI, oI, oI, oU, oI, .str 11, oI, oI, oB, oB, oI, oI, oI, oI, .str 12, .str 4, oI, .str 11, oI, oI, oB, oB, oI, .str 5, .str 12, oL, .one (.slice (.slice (.int .i64))), .one (.slice (.slice (.int .i64))), .one (.slice (.slice (.named 1))), .one (.slice (.named 2)), .one (.slice (.slice (.int .i64))), oM, .one (.slice (.slice (.int .i64))), oL, oL, .one (.slice (.named 9)), .one (.slice (.named 10)), .one (.slice (.slice (.int .i64))), oM, .one (.slice (.slice (.int .i64))), oL, .one (.slice (.named 9)), .one (.slice (.named 10))] []
def zdn : z6 E := lo [1, 2, 4, 6] ⟨[.ptr 0, .ptr 1, .ptr 2, .own 3], [.box true (L 4), .box true (L 1 ++ L 1 ++ [vI, .own 4, vU, .own 5, .own 6, .own 7, vI, .own 8, .own 9, .own 10, vU, vU, vI, vI, vB, vB, vI, .own 11, vI, vI, vI, .own 12, .own 13, .own 14, vI, vI]), .box true (L 4 ++ [vI, .own 15, .own 16, .own 17, vU, vU, vI, vI, vB, vB, vI, .own 18] ++ L 5 ++ [.own 19, .own 20, vI, vI]), .row true (.int .i64), .row true (.slice (.int .i64)), .row true (.slice (.int .i64)), .row true (.slice (.named 1)), .row true (.named 2), .row true (.slice (.int .i64)), .row true (.int .u64), .row true (.slice (.int .i64)), .row true (.int .i64), .row true (.int .i64), .row true (.named 9), .row true (.named 10), .row true (.slice (.int .i64)), .row true (.int .u64), .row true (.slice (.int .i64)), .row true (.int .i64), .row true (.named 9), .row true (.named 10)]⟩ 0 [] ⟨[], []⟩ [] ⟨[], []⟩ [.str 4, oI, oI, oI, oI, oI, oI, oI, oI, oI, oU, oI, .str 11, oI, oI, oB, oB, oI, oI, oI, oI, .str 12, .str 4, oI, .str 11, oI, oI, oB, oB, oI, .str 5, .str 12, oL, .one (.slice (.slice (.int .i64))), .one (.slice (.slice (.int .i64))), .one (.slice (.slice (.named 1))), .one (.slice (.named 2)), .one (.slice (.slice (.int .i64))), oM, .one (.slice (.slice (.int .i64))), oL, oL, .one (.slice (.named 9)), .one (.slice (.named 10)), .one (.slice (.slice (.int .i64))), oM, .one (.slice (.slice (.int .i64))), oL, .one (.slice (.named 9)), .one (.slice (.named 10))] [] []
def zdr : z6 E := lo [2, 4, 134, 135, 136] ⟨[.ptr 0, .ptr 1, .val (.slice (.slice (.int .i64))), vI, vI], [.box true (L 1 ++ L 1 ++ [vI, .own 2, vU, .own 3, .own 4, .own 5, vI, .own 6, .own 7, .own 8, vU, vU, vI, vI, vB, vB, vI, .own 9, vI, vI, vI, .own 10, .own 11, .own 12, vI, vI]), .box true (L 4 ++ [vI, .own 13, vM, .own 14, vU, vU, vI, vI, vB, vB, vI, .own 15] ++ L 5 ++ [.own 16, .own 17, vI, vI]), .row true (.slice (.int .i64)), .row true (.slice (.int .i64)), .row true (.slice (.named 1)), .row true (.named 2), .row true (.slice (.int .i64)), .row true (.int .u64), .row true (.slice (.int .i64)), .row true (.int .i64), .row true (.int .i64), .row true (.named 9), .row true (.named 10), .row true (.slice (.int .i64)), .row true (.slice (.int .i64)), .row true (.int .i64), .row true (.named 9), .row true (.named 10)]⟩ 6 [2, 4] ⟨[.ptr 0, .ptr 1], [.box true (L 1 ++ L 1 ++ [vI, .own 2, vU, .own 3, .own 4, .own 5, vI, .own 6, .own 7, .own 8, vU, vU, vI, vI, vB, vB, vI, .own 9, vI, vI, vI, .own 10, .own 11, .own 12, vI, vI]), .box true (L 4 ++ [vI, .own 13, vM, .own 14, vU, vU, vI, vI, vB, vB, vI, .own 15] ++ L 5 ++ [.own 16, .own 17, vI, vI]), .row true (.slice (.int .i64)), .row true (.slice (.int .i64)), .row true (.slice (.named 1)), .row true (.named 2), .row true (.slice (.int .i64)), .row true (.int .u64), .row true (.slice (.int .i64)), .row true (.int .i64), .row true (.int .i64), .row true (.named 9), .row true (.named 10), .row true (.slice (.int .i64)), .row true (.slice (.int .i64)), .row true (.int .i64), .row true (.named 9), .row true (.named 10)]⟩ [] ⟨[], []⟩ [.one (.slice (.slice (.int .i64))), oI, oI, oI, oI, oI, oI, oI, oI, oI, oI, oI, oU, oI, .str 11, oI, oI, oB, oB, oI, oI, oI, oI, .str 12, .str 4, oI, oM, .str 11, oI, oI, oB, oB, oI, .str 5, .str 12, .one (.slice (.slice (.int .i64))), .one (.slice (.slice (.int .i64))), .one (.slice (.slice (.named 1))), .one (.slice (.named 2)), .one (.slice (.slice (.int .i64))), oM, .one (.slice (.slice (.int .i64))), oL, oL, .one (.slice (.named 9)), .one (.slice (.named 10)), .one (.slice (.slice (.int .i64))), .one (.slice (.slice (.int .i64))), oL, .one (.slice (.named 9)), .one (.slice (.named 10))] [oI, oI, oI, oI, oI, oI, oI, oI, oI, oU, oI, .str 11, oI, oI, oB, oB, oI, oI, oI, oI, .str 12, .str 4, oI, oM, .str 11, oI, oI, oB, oB, oI, .str 5, .str 12, .one (.slice (.slice (.int .i64))), .one (.slice (.slice (.int .i64))), .one (.slice (.slice (.named 1))), .one (.slice (.named 2)), .one (.slice (.slice (.int .i64))), oM, .one (.slice (.slice (.int .i64))), oL, oL, .one (.slice (.named 9)), .one (.slice (.named 10)), .one (.slice (.slice (.int .i64))), .one (.slice (.slice (.int .i64))), oL, .one (.slice (.named 9)), .one (.slice (.named 10))] []
def xO : Cfg E := cf [(10, [UZ]), (17, [Z5]), (18, [Ye]), (22, [zb9]), (23, [zbV]), (24, [zb5]), (25, [X5]), (26, [vk]), (27, [zaJ]), (28, [WE]), (29, [WH]), (30, [zdN]), (31, [Zc]), (32, [zeB]), (33, [zdF]), (34, [YG])] [(7, zev), (15, zc9), (20, zdn), (28, zdr)] [] [] [] [(62, xq)]
def We : zy E := sp xO Go.Proofs.Tryz.f5 ⟨[.val (.named 4)], []⟩ ⟨[.val (.named 14)], []⟩ [.one (.named 4)] [.one (.named 14)]
def WB (a1 : zb) : Option (za × Unit) := We.F (a1, ())
def XN (x : (BitVec 64) × Int × Int × zb × Int × Int × Int × Int × Int × Int × Int × Int × Int × (BitVec 64) × Int × zo × Int × Int × Bool × Bool × Int × Int × Int × Int × zn × zb × Int × zo × Int × Int × Bool × Bool × Int × zA × zn × (List (List Int)) × (List (List Int)) × (List (List zj)) × (List zk) × (List (List Int)) × (List (BitVec 64)) × (List (List Int)) × (List Int) × (List Int) × (List zi) × (List ze) × (List (List Int)) × (List (BitVec 64)) × (List (List Int)) × (List Int) × (List zi) × (List ze) × Unit) : Option (xm ((BitVec 64) × Int × Int × zb × Int × Int × Int × Int × Int × Int × Int × Int × Int × (BitVec 64) × Int × zo × Int × Int × Bool × Bool × Int × Int × Int × Int × zn × zb × Int × zo × Int × Int × Bool × Bool × Int × zA × zn × (List (List Int)) × (List (List Int)) × (List (List zj)) × (List zk) × (List (List Int)) × (List (BitVec 64)) × (List (List Int)) × (List Int) × (List Int) × (List zi) × (List ze) × (List (List Int)) × (List (BitVec 64)) × (List (List Int)) × (List Int) × (List zi) × (List ze) × Unit) ((BitVec 64) × zb × Int × Int × Int × Int × Int × Int × Int × Int × Int × (BitVec 64) × Int × zo × Int × Int × Bool × Bool × Int × Int × Int × Int × zn × zb × Int × zo × Int × Int × Bool × Bool × Int × zA × zn × (List (List Int)) × (List (List Int)) × (List (List zj)) × (List zk) × (List (List Int)) × (List (BitVec 64)) × (List (List Int)) × (List Int) × (List Int) × (List zi) × (List ze) × (List (List Int)) × (List (BitVec 64)) × (List (List Int)) × (List Int) × (List zi) × (List ze) × Unit) (Unit)) := yv xO (exec xO (xr Go.Proofs.Tryz.f5 7)) 150 zev x
def Xc (x : (BitVec 64) × Int × Int × zb × Int × Int × Int × Int × Int × Int × Int × Int × Int × (BitVec 64) × Int × zo × Int × Int × Bool × Bool × Int × Int × Int × Int × zn × zb × Int × zo × Int × Int × Bool × Bool × Int × zA × zn × (List Int) × (List (List Int)) × (List (List Int)) × (List (List zj)) × (List zk) × (List (List Int)) × (List (BitVec 64)) × (List (List Int)) × (List Int) × (List Int) × (List zi) × (List ze) × (List (List Int)) × (List (BitVec 64)) × (List (List Int)) × (List Int) × (List zi) × (List ze) × Unit) : Option (xm ((BitVec 64) × Int × Int × zb × Int × Int × Int × Int × Int × Int × Int × Int × Int × (BitVec 64) × Int × zo × Int × Int × Bool × Bool × Int × Int × Int × Int × zn × zb × Int × zo × Int × Int × Bool × Bool × Int × zA × zn × (List Int) × (List (List Int)) × (List (List Int)) × (List (List zj)) × (List zk) × (List (List Int)) × (List (BitVec 64)) × (List (List Int)) × (List Int) × (List Int) × (List zi) × (List ze) × (List (List Int)) × (List (BitVec 64)) × (List (List Int)) × (List Int) × (List zi) × (List ze) × Unit) ((BitVec 64) × zb × Int × Int × Int × Int × Int × Int × Int × Int × Int × (BitVec 64) × Int × zo × Int × Int × Bool × Bool × Int × Int × Int × Int × zn × zb × Int × zo × Int × Int × Bool × Bool × Int × zA × zn × (List Int) × (List (List Int)) × (List (List Int)) × (List (List zj)) × (List zk) × (List (List Int)) × (List (BitVec 64)) × (List (List Int)) × (List Int) × (List Int) × (List zi) × (List ze) × (List (List Int)) × (List (BitVec 64)) × (List (List Int)) × (List Int) × (List zi) × (List ze) × Unit) (Unit)) := yv xO (exec xO (xr Go.Proofs.Tryz.f5 15)) 150 zc9 x
def VK (y : List Int) (x : zb × Int × Int × Int × Int × Int × Int × Int × Int × Int × (BitVec 64) × Int × zo × Int × Int × Bool × Bool × Int × Int × Int × Int × zn × zb × Int × zo × Int × Int × Bool × Bool × Int × zA × zn × (List Int) × (List (List Int)) × (List (List Int)) × (List (List zj)) × (List zk) × (List (List Int)) × (List (BitVec 64)) × (List (List Int)) × (List Int) × (List Int) × (List zi) × (List ze) × (List (List Int)) × (List (BitVec 64)) × (List (List Int)) × (List Int) × (List zi) × (List ze) × Unit) : Option (zb × Int × Int × Int × Int × Int × Int × Int × Int × Int × (BitVec 64) × Int × zo × Int × Int × Bool × Bool × Int × Int × Int × Int × zn × zb × Int × zo × Int × Int × Bool × Bool × Int × zA × zn × (List Int) × (List (List Int)) × (List (List Int)) × (List (List zj)) × (List zk) × (List (List Int)) × (List (BitVec 64)) × (List (List Int)) × (List Int) × (List Int) × (List zi) × (List ze) × (List (List Int)) × (List (BitVec 64)) × (List (List Int)) × (List Int) × (List zi) × (List ze) × Unit) := zes xO (exec xO (zsn Go.Proofs.Tryz.f5 20)) (exec xO (zpl Go.Proofs.Tryz.f5 20)) 150 zdn 87 (.slice (.int .i64)) y x
def Y5 (x : (List (List Int)) × Int × Int × Int × Int × Int × Int × Int × Int × Int × Int × Int × (BitVec 64) × Int × zo × Int × Int × Bool × Bool × Int × Int × Int × Int × zn × zb × Int × (List (BitVec 64)) × zo × Int × Int × Bool × Bool × Int × zA × zn × (List (List Int)) × (List (List Int)) × (List (List zj)) × (List zk) × (List (List Int)) × (List (BitVec 64)) × (List (List Int)) × (List Int) × (List Int) × (List zi) × (List ze) × (List (List Int)) × (List (List Int)) × (List Int) × (List zi) × (List ze) × Unit) : Option (xm ((List (List Int)) × Int × Int × Int × Int × Int × Int × Int × Int × Int × Int × Int × (BitVec 64) × Int × zo × Int × Int × Bool × Bool × Int × Int × Int × Int × zn × zb × Int × (List (BitVec 64)) × zo × Int × Int × Bool × Bool × Int × zA × zn × (List (List Int)) × (List (List Int)) × (List (List zj)) × (List zk) × (List (List Int)) × (List (BitVec 64)) × (List (List Int)) × (List Int) × (List Int) × (List zi) × (List ze) × (List (List Int)) × (List (List Int)) × (List Int) × (List zi) × (List ze) × Unit) (Int × Int × Int × Int × Int × Int × Int × Int × Int × (BitVec 64) × Int × zo × Int × Int × Bool × Bool × Int × Int × Int × Int × zn × zb × Int × (List (BitVec 64)) × zo × Int × Int × Bool × Bool × Int × zA × zn × (List (List Int)) × (List (List Int)) × (List (List zj)) × (List zk) × (List (List Int)) × (List (BitVec 64)) × (List (List Int)) × (List Int) × (List Int) × (List zi) × (List ze) × (List (List Int)) × (List (List Int)) × (List Int) × (List zi) × (List ze) × Unit) (Unit)) := yv xO (exec xO (xr Go.Proofs.Tryz.f5 28)) 150 zdr x
def zav : Cfg E := cf [] [] [] [(0, some 0)] [] []
def uD : zy E := sp zav Go.Proofs.Tryz.f41 ⟨[.ptr 0], [.box true (L 15)]⟩ ⟨[], [.box true (L 15)]⟩ [.str 15] [.str 15]
def Y4 (a1 : zu) : Option (zu × Unit) := uD.F (a1, ())
def znb : Cfg E := cf [(38, [zdj])] [] [] [] [] []
def zc2 : zy E := sp znb Go.Proofs.Tryz.f66 ⟨[vU, vI], []⟩ ⟨[vB], []⟩ [oU, oI] [oB]
def zab (a1 : BitVec 64) (a2 : Int) : Option (Bool × Unit) := zc2.F (a1, a2, ())
def zjK : Cfg E := cf [(9, [Vf]), (66, [zc2])] [] [] [] [] []
def zb4 : zy E := sp zjK Go.Proofs.Tryz.f67 ⟨[.val (.named 11), vI], []⟩ ⟨[.val (.named 11), vB], []⟩ [.one (.named 11), oI] [.one (.named 11), oB]
def zbK (a1 : zo) (a2 : Int) : Option (zo × Bool × Unit) := zb4.F (a1, a2, ())
def ziL : Cfg E := cf [] [] [] [] [] []
def WL : zy E := sp ziL Go.Proofs.Tryz.f72 ⟨L 1, []⟩ ⟨[.val (.named 7)], []⟩ [oI, oI, oI, oI] [.one (.named 7)]
def zaL (a1 : Int) (a2 : Int) (a3 : Int) (a4 : Int) : Option (zp × Unit) := WL.F (a1, a2, a3, a4, ())
def zcL : Cfg E := cf [(18, [Ye]), (34, [YG]), (72, [WL])] [] [] [(0, some 0)] [] []
def xL : zy E := sp zcL Go.Proofs.Tryz.f68 ⟨[.ptr 0], [.box true (L 15)]⟩ ⟨[], [.box true (L 15)]⟩ [.str 15] [.str 15]
def xJ (a1 : zu) : Option (zu × Unit) := xL.F (a1, ())
def zcm : Cfg E := cf [(28, [WE]), (29, [WH]), (67, [zb4]), (68, [xL])] [] [] [(0, some 0)] [] []
def ZH : zy E := sp zcm Go.Proofs.Tryz.f42 ⟨[.ptr 0], [.box true (L 15)]⟩ ⟨[], [.box true (L 15)]⟩ [.str 15] [.str 15]
def Wj (a1 : zu) : Option (zu × Unit) := ZH.F (a1, ())
def zca : Cfg E := cf [] [] [] [(0, some 0)] [] []
def ZO : zy E := sp zca Go.Proofs.Tryz.f43 ⟨[.ptr 0], [.box true (L 15)]⟩ ⟨[], [.box true (L 15)]⟩ [.str 15] [.str 15]
def Wm (a1 : zu) : Option (zu × Unit) := ZO.F (a1, ())
def Xa : Cfg E := cf [] [] [] [] [] []
def UI : zy E := sp Xa Go.Proofs.Tryz.f86 ⟨[vI], []⟩ ⟨[.bsl 0 4], [.box true [.fn 100 [], .fn 101 [], .fn 102 [], .fn 103 []]]⟩ [oI] []
def zer (a1 : Int) : Option (Unit) := UI.F (a1, ())
def UQ : zy E := sp Xa Go.Proofs.Tryz.f86 ⟨[vI], []⟩ ⟨[.bsl 0 7], [.box true [.fn 100 [], .fn 104 [], .fn 105 [], .fn 106 [], .fn 107 [], .fn 108 [], .fn 109 []]]⟩ [oI] []
def zd9 (a1 : Int) : Option (Unit) := UQ.F (a1, ())
def UK : zy E := sp Xa Go.Proofs.Tryz.f86 ⟨[vI], []⟩ ⟨[.bsl 0 4], [.box true [.fn 110 [], .fn 111 [], .fn 112 [], .fn 113 []]]⟩ [oI] []
def zeq (a1 : Int) : Option (Unit) := UK.F (a1, ())
def Uw : zy E := sp Xa Go.Proofs.Tryz.f86 ⟨[vI], []⟩ ⟨[.own 0], [.row true .bool]⟩ [oI] [.one (.slice .bool)]
def zel (a1 : Int) : Option ((List Bool) × Unit) := Uw.F (a1, ())
def zjy : Cfg E := cf [(73, [Xl])] [] [] [] [] []
def wT : zy E := sp zjy Go.Proofs.Tryz.f114 ⟨[vM, vI], []⟩ ⟨[vU], []⟩ [oM, oI] [oU]
def va (a1 : List (BitVec 64)) (a2 : Int) : Option ((BitVec 64) × Unit) := wT.F (a1, a2, ())
def zb0 : Cfg E := cf [] [] [] [] [] []
def yD : zy E := sp zb0 Go.Proofs.Tryz.f115 ⟨[.ptr 0], [.box false (L 6)]⟩ ⟨[vI], [.gone]⟩ [.str 6] [oI]
def yT (a1 : zg) : Option (Int × Unit) := yD.F (a1, ())
def Vy : Cfg E := cf [(114, [wT]), (115, [yD])] [] [] [(0, some 0)] [] []
def vv : zy E := sp Vy Go.Proofs.Tryz.f100 ⟨[.ptr 0, vM], [.box true (L 6)]⟩ ⟨[vM], [.box true (L 6)]⟩ [oM, .str 6] [oM, .str 6]
def yZ (a1 : List (BitVec 64)) (a2 : zg) : Option ((List (BitVec 64)) × zg × Unit) := vv.F (a1, a2, ())
def zd5 : Cfg E := cf [] [] [] [] [] []
def xZ : zy E := sp zd5 Go.Proofs.Tryz.f116 ⟨[.ptr 0], [.box false (L 6)]⟩ ⟨[vI], [.gone]⟩ [.str 6] [oI]
def vl (a1 : zg) : Option (Int × Unit) := xZ.F (a1, ())
def zdZ : Cfg E := cf [] [] [] [] [] []
def uC : zy E := sp zdZ Go.Proofs.Tryz.f117 ⟨[.ptr 0], [.box false (L 6)]⟩ ⟨[vU], [.gone]⟩ [.str 6] [oU]
def uq (a1 : zg) : Option ((BitVec 64) × Unit) := uC.F (a1, ())
def zcA : Cfg E := cf [] [] [] [(0, some 0)] [] []
def yE : zy E := sp zcA Go.Proofs.Tryz.f118 ⟨[.ptr 0, vI], [.box true (L 6)]⟩ ⟨[], [.box true (L 6)]⟩ [oI, .str 6] [.str 6]
def yC (a1 : Int) (a2 : zg) : Option (zg × Unit) := yE.F (a1, a2, ())
def za6 : Cfg E := cf [(114, [wT]), (116, [xZ]), (117, [uC]), (118, [yE])] [] [] [(0, some 0)] [] []
def Zi : zy E := sp za6 Go.Proofs.Tryz.f101 ⟨[.ptr 0, vM], [.box true (L 6)]⟩ ⟨[vM], [.box true (L 6)]⟩ [oM, .str 6] [oM, .str 6]
def Zl (a1 : List (BitVec 64)) (a2 : zg) : Option ((List (BitVec 64)) × zg × Unit) := Zi.F (a1, a2, ())
def zh3 : Cfg E := cf [(73, [Xl])] [] [] [] [] []
def ua : zy E := sp zh3 Go.Proofs.Tryz.f119 ⟨[vM, vI, vU], []⟩ ⟨[vM], []⟩ [oM, oI, oU] [oM]
def v8 (a1 : List (BitVec 64)) (a2 : Int) (a3 : BitVec 64) : Option ((List (BitVec 64)) × Unit) := ua.F (a1, a2, a3, ())
def zcT : Cfg E := cf [(117, [uC])] [] [] [] [] []
def wA : zy E := sp zcT Go.Proofs.Tryz.f120 ⟨[.ptr 0, vU], [.box false (L 6)]⟩ ⟨[vI], [.gone]⟩ [oU, .str 6] [oI]
def wD (a1 : BitVec 64) (a2 : zg) : Option (Int × Unit) := wA.F (a1, a2, ())
def zee : Cfg E := cf [(119, [ua]), (120, [wA])] [] [] [] [] []
def YY : zy E := sp zee Go.Proofs.Tryz.f102 ⟨[.ptr 0, vM], [.box false (L 6)]⟩ ⟨[vM], [.gone]⟩ [oM, .str 6] [oM]
def Y1 (a1 : List (BitVec 64)) (a2 : zg) : Option ((List (BitVec 64)) × Unit) := YY.F (a1, a2, ())
def Ux : Cfg E := cf [(115, [yD]), (118, [yE]), (119, [ua])] [] [] [(0, some 0)] [] []
def uf : zy E := sp Ux Go.Proofs.Tryz.f103 ⟨[.ptr 0, vM], [.box true (L 6)]⟩ ⟨[vM], [.box true (L 6)]⟩ [oM, .str 6] [oM, .str 6]
def ud (a1 : List (BitVec 64)) (a2 : zg) : Option ((List (BitVec 64)) × zg × Unit) := uf.F (a1, a2, ())
def zcS : Cfg E := cf [(115, [yD]), (119, [ua])] [] [] [] [] []
def Z8 : zy E := sp zcS Go.Proofs.Tryz.f104 ⟨[.ptr 0, vM], [.box false (L 6)]⟩ ⟨[vM], [.gone]⟩ [oM, .str 6] [oM]
def W3 (a1 : List (BitVec 64)) (a2 : zg) : Option ((List (BitVec 64)) × Unit) := Z8.F (a1, a2, ())
def ziC : Cfg E := cf [] [] [] [] [] []
def WC : zy E := sp ziC Go.Proofs.Tryz.f121 ⟨[vU, vU], []⟩ ⟨[vB], []⟩ [oU, oU] [oB]
def zaI (a1 : BitVec 64) (a2 : BitVec 64) : Option (Bool × Unit) := WC.F (a1, a2, ())
def zae : Cfg E := cf [(114, [wT]), (116, [xZ]), (121, [WC])] [] [] [(0, some 0)] [] []
def uy : zy E := sp zae Go.Proofs.Tryz.f105 ⟨[.ptr 0, vM], [.box true (L 6)]⟩ ⟨[vM], [.box true (L 6)]⟩ [oM, .str 6] [oM, .str 6]
def Y9 (a1 : List (BitVec 64)) (a2 : zg) : Option ((List (BitVec 64)) × zg × Unit) := uy.F (a1, a2, ())
def zcn : Cfg E := cf [(114, [wT]), (118, [yE]), (120, [wA])] [] [] [(0, some 0)] [] []
def ZL : zy E := sp zcn Go.Proofs.Tryz.f106 ⟨[.ptr 0, vM], [.box true (L 6)]⟩ ⟨[vM], [.box true (L 6)]⟩ [oM, .str 6] [oM, .str 6]
def Wr (a1 : List (BitVec 64)) (a2 : zg) : Option ((List (BitVec 64)) × zg × Unit) := ZL.F (a1, a2, ())
def zdC : Cfg E := cf [(73, [Xl]), (116, [xZ])] [] [] [] [] []
def um : zy E := sp zdC Go.Proofs.Tryz.f122 ⟨[.ptr 0, vM], [.box false (L 6)]⟩ ⟨[vM, vB], [.gone]⟩ [oM, .str 6] [oM, oB]
def uz (a1 : List (BitVec 64)) (a2 : zg) : Option ((List (BitVec 64)) × Bool × Unit) := um.F (a1, a2, ())
def zbC : Cfg E := cf [(122, [um])] [] [] [(0, some 0)] [] []
def Zd : zy E := sp zbC Go.Proofs.Tryz.f107 ⟨[.ptr 0, vM], [.box true (L 6)]⟩ ⟨[vM], [.box true (L 6)]⟩ [oM, .str 6] [oM, .str 6]
def XZ (a1 : List (BitVec 64)) (a2 : zg) : Option ((List (BitVec 64)) × zg × Unit) := Zd.F (a1, a2, ())
def zbj : Cfg E := cf [(115, [yD]), (118, [yE]), (119, [ua])] [] [] [(0, some 0)] [] []
def Zg : zy E := sp zbj Go.Proofs.Tryz.f108 ⟨[.ptr 0, vM], [.box true (L 6)]⟩ ⟨[vM], [.box true (L 6)]⟩ [oM, .str 6] [oM, .str 6]
def XW (a1 : List (BitVec 64)) (a2 : zg) : Option ((List (BitVec 64)) × zg × Unit) := Zg.F (a1, a2, ())
def zcl : Cfg E := cf [(115, [yD]), (118, [yE]), (119, [ua])] [] [] [(0, some 0)] [] []
def ZK : zy E := sp zcl Go.Proofs.Tryz.f109 ⟨[.ptr 0, vM], [.box true (L 6)]⟩ ⟨[vM], [.box true (L 6)]⟩ [oM, .str 6] [oM, .str 6]
def Wc (a1 : List (BitVec 64)) (a2 : zg) : Option ((List (BitVec 64)) × zg × Unit) := ZK.F (a1, a2, ())
def zce : Cfg E := cf [(114, [wT]), (116, [xZ])] [] [] [(0, some 0)] [] []
def ZM : zy E := sp zce Go.Proofs.Tryz.f110 ⟨[.ptr 0, vM], [.box true (L 6)]⟩ ⟨[vM], [.box true (L 6)]⟩ [oM, .str 6] [oM, .str 6]
def Wg (a1 : List (BitVec 64)) (a2 : zg) : Option ((List (BitVec 64)) × zg × Unit) := ZM.F (a1, a2, ())
def zbS : Cfg E := cf [(114, [wT]), (115, [yD]), (121, [WC])] [] [] [(0, some 0)] [] []
def ZJ : zy E := sp zbS Go.Proofs.Tryz.f111 ⟨[.ptr 0, vM], [.box true (L 6)]⟩ ⟨[vM], [.box true (L 6)]⟩ [oM, .str 6] [oM, .str 6]
def Wh (a1 : List (BitVec 64)) (a2 : zg) : Option ((List (BitVec 64)) × zg × Unit) := ZJ.F (a1, a2, ())
def zbw : Cfg E := cf [(114, [wT]), (120, [wA])] [] [] [(0, some 0)] [] []
def Ze : zy E := sp zbw Go.Proofs.Tryz.f112 ⟨[.ptr 0, vM], [.box true (L 6)]⟩ ⟨[vM], [.box true (L 6)]⟩ [oM, .str 6] [oM, .str 6]
def XX (a1 : List (BitVec 64)) (a2 : zg) : Option ((List (BitVec 64)) × zg × Unit) := Ze.F (a1, a2, ())
def zam : Cfg E := cf [(118, [yE]), (122, [um])] [] [] [(0, some 0)] [] []
def uA : zy E := sp zam Go.Proofs.Tryz.f113 ⟨[.ptr 0, vM], [.box true (L 6)]⟩ ⟨[vM], [.box true (L 6)]⟩ [oM, .str 6] [oM, .str 6]
def Xb (a1 : List (BitVec 64)) (a2 : zg) : Option ((List (BitVec 64)) × zg × Unit) := uA.F (a1, a2, ())
def zju : Cfg E := cf [(86, [UI, UQ, UK, Uw]), (100, [vv]), (101, [Zi]), (102, [YY]), (103, [uf]), (104, [Z8]), (105, [uy]), (106, [ZL]), (107, [Zd]), (108, [Zg]), (109, [ZK]), (110, [ZM]), (111, [ZJ]), (112, [Ze]), (113, [uA])] [] [] [] [(1, 2, [0, 1, 2, 3])] []
def zcJ : zy E := sp zju Go.Proofs.Tryz.f69 ⟨[vM, .val (.named 6)], []⟩ ⟨[vM, .val (.named 6)], []⟩ [oM, .one (.named 6)] [oM, .one (.named 6)]
def VB (a1 : List (BitVec 64)) (a2 : zg) : Option ((List (BitVec 64)) × zg × Unit) := zcJ.F (a1, a2, ())
def zcg : Cfg E := cf [(68, [xL]), (69, [zcJ])] [] [] [(0, some 0)] [] []
def ZD : zy E := sp zcg Go.Proofs.Tryz.f44 ⟨[.ptr 0], [.box true (L 15)]⟩ ⟨[], [.box true (L 15)]⟩ [.str 15] [.str 15]
def Wf (a1 : zu) : Option (zu × Unit) := ZD.F (a1, ())
def zbL : Cfg E := cf [(68, [xL])] [] [] [(0, some 0)] [] []
def ZS : zy E := sp zbL Go.Proofs.Tryz.f45 ⟨[.ptr 0], [.box true (L 15)]⟩ ⟨[], [.box true (L 15)]⟩ [.str 15] [.str 15]
def Wp (a1 : zu) : Option (zu × Unit) := ZS.F (a1, ())
def zjV : Cfg E := cf [] [] [] [] [] []
def uN : zy E := sp zjV Go.Proofs.Tryz.f49 ⟨[vU], []⟩ ⟨[vI], []⟩ [oU] [oI]
def vK (a1 : BitVec 64) : Option (Int × Unit) := uN.F (a1, ())
def zjD : Cfg E := cf [(73, [Xl])] [] [] [] [] []
def Xf : zy E := sp zjD Go.Proofs.Tryz.f50 ⟨[vM, vI], []⟩ ⟨[vU], []⟩ [oM, oI] [oU]
def Yd (a1 : List (BitVec 64)) (a2 : Int) : Option ((BitVec 64) × Unit) := Xf.F (a1, a2, ())
def zbU : Cfg E := cf [(49, [uN]), (50, [Xf])] [] [] [(0, some 0)] [] []
def ZR : zy E := sp zbU Go.Proofs.Tryz.f87 ⟨[.ptr 0, vM], [.box true (L 7)]⟩ ⟨[vM], [.box true (L 7)]⟩ [oM, .str 7] [oM, .str 7]
def xy (a1 : List (BitVec 64)) (a2 : zp) : Option ((List (BitVec 64)) × zp × Unit) := ZR.F (a1, a2, ())
def zd0 : Cfg E := cf [(49, [uN]), (64, [WD])] [] [] [] [] []
def Yn : zy E := sp zd0 Go.Proofs.Tryz.f88 ⟨[.ptr 0, vM], [.box false (L 7)]⟩ ⟨[vM], [.gone]⟩ [oM, .str 7] [oM]
def uv (a1 : List (BitVec 64)) (a2 : zp) : Option ((List (BitVec 64)) × Unit) := Yn.F (a1, a2, ())
def za5 : Cfg E := cf [(49, [uN]), (65, [VQ]), (73, [Xl])] [] [] [(0, some 0)] [] []
def Zn : zy E := sp za5 Go.Proofs.Tryz.f89 ⟨[.ptr 0, vM], [.box true (L 7)]⟩ ⟨[vM], [.box true (L 7)]⟩ [oM, .str 7] [oM, .str 7]
def xi (a1 : List (BitVec 64)) (a2 : zp) : Option ((List (BitVec 64)) × zp × Unit) := Zn.F (a1, a2, ())
def zag : Cfg E := cf [(49, [uN]), (50, [Xf])] [] [] [(0, some 0)] [] []
def uu : zy E := sp zag Go.Proofs.Tryz.f90 ⟨[.ptr 0, vM], [.box true (L 7)]⟩ ⟨[vM], [.box true (L 7)]⟩ [oM, .str 7] [oM, .str 7]
def wG (a1 : List (BitVec 64)) (a2 : zp) : Option ((List (BitVec 64)) × zp × Unit) := uu.F (a1, a2, ())
def zjm : Cfg E := cf [(87, [ZR]), (88, [Yn]), (89, [Zn]), (90, [uu])] [] [] [] [] []
def VC : zy E := sp zjm Go.Proofs.Tryz.f70 ⟨[vM, .val (.named 7)], []⟩ ⟨[vM, .val (.named 7)], []⟩ [oM, .one (.named 7)] [oM, .one (.named 7)]
def VE (a1 : List (BitVec 64)) (a2 : zp) : Option ((List (BitVec 64)) × zp × Unit) := VC.F (a1, a2, ())
def zcd : Cfg E := cf [(68, [xL]), (70, [VC])] [] [] [(0, some 0)] [] []
def ZT : zy E := sp zcd Go.Proofs.Tryz.f46 ⟨[.ptr 0], [.box true (L 15)]⟩ ⟨[], [.box true (L 15)]⟩ [.str 15] [.str 15]
def Wz (a1 : zu) : Option (zu × Unit) := ZT.F (a1, ())
def zaC : Cfg E := cf [] [] [] [] [] []
def un : zy E := sp zaC Go.Proofs.Tryz.f71 ⟨[.val (.slice (.slice (.int .i64)))], []⟩ ⟨[.own 0], [.row true (.slice (.int .i64))]⟩ [.one (.slice (.slice (.int .i64)))] [.one (.slice (.slice (.int .i64)))]
def ur (a1 : List (List Int)) : Option ((List (List Int)) × Unit) := un.F (a1, ())
def zb2 : Cfg E := cf [(17, [Z5]), (18, [Ye]), (71, [un]), (72, [WL])] [] [] [(0, some 0)] [] []
def ZP : zy E := sp zb2 Go.Proofs.Tryz.f47 ⟨[.ptr 0], [.box true (L 15)]⟩ ⟨[], [.box true (L 8 ++ L 4 ++ [vI, .val (.slice (.slice (.int .i64))), vM, .own 1, vU, vU, vI, vI, vB, vB, vI, vL] ++ L 5 ++ [.val (.slice (.named 9)), .val (.slice (.named 10)), vI, vI]), .row true (.slice (.int .i64))]⟩ [.str 15] [.str 8, .str 4, .str 3, oM, .str 11, oI, oI, oB, oB, oI, oL, .str 5, .one (.slice (.named 9)), .one (.slice (.named 10)), .str 12, .one (.slice (.slice (.int .i64)))]
def Wt (a1 : zu) : Option (zd × zb × zG × (List (BitVec 64)) × zo × Int × Int × Bool × Bool × Int × (List Int) × zA × (List zi) × (List ze) × zn × (List (List Int)) × Unit) := ZP.F (a1, ())
def zaj : Cfg E := cf [(70, [VC])] [] [] [(0, some 0)] [] []
def ux : zy E := sp zaj Go.Proofs.Tryz.f48 ⟨[.ptr 0], [.box true (L 15)]⟩ ⟨[], [.box true (L 15)]⟩ [.str 15] [.str 15]
def Y6 (a1 : zu) : Option (zu × Unit) := ux.F (a1, ())
def zk6 : Cfg E := cf [(41, [uD]), (42, [ZH]), (43, [ZO]), (44, [ZD]), (45, [ZS]), (46, [ZT]), (47, [ZP]), (48, [ux])] [] [] [] [] []
def Wk : zy E := sp zk6 Go.Proofs.Tryz.f15 ⟨[.val (.named 14), .val (.named 8)], []⟩ ⟨[.val (.named 14), .val (.named 8)], []⟩ [.one (.named 14), .one (.named 8)] [.one (.named 14), .one (.named 8)]
def YM (a1 : za) (a2 : zd) : Option (za × zd × Unit) := Wk.F (a1, a2, ())
def V9 : z6 E := lo [2, 3, 4, 6, 7, 9] ⟨[vI, .ptr 0, .ptr 1, .ptr 2, .ptr 3, vI], [.box true (L 14), .box true (L 8), .box true (L 1 ++ L 1 ++ [vI, .own 4, vU, .own 5, .own 6, .own 7, vI, .own 8, .own 9, .own 10, vU, vU, vI, vI, vB, vB, vI, .own 11, vI, vI, vI, .own 12, .own 13, .own 14, vI, vI]), .box true (L 8), .row true (.slice (.int .i64)), .row true (.slice (.int .i64)), .row true (.slice (.named 1)), .row true (.named 2), .row true (.slice (.int .i64)), .row true (.int .u64), .row true (.slice (.int .i64)), .row true (.int .i64), .row true (.int .i64), .row true (.named 9), .row true (.named 10)]⟩ 0 [3, 4, 6, 7, 9] ⟨[.ptr 0, .ptr 1, .ptr 2, .ptr 3, vI], [.box true (L 14), .box true (L 8), .box true (L 1 ++ L 1 ++ [vI, .own 4, vU, .own 5, .own 6, .own 7, vI, .own 8, .own 9, .own 10, vU, vU, vI, vI, vB, vB, vI, .own 11, vI, vI, vI, .own 12, .own 13, .own 14, vI, vI]), .box true (L 8), .row true (.slice (.int .i64)), .row true (.slice (.int .i64)), .row true (.slice (.named 1)), .row true (.named 2), .row true (.slice (.int .i64)), .row true (.int .u64), .row true (.slice (.int .i64)), .row true (.int .i64), .row true (.int .i64), .row true (.named 9), .row true (.named 10)]⟩ [] ⟨[], []⟩ [oI, oI, .str 14, .str 8, oI, oI, oI, oI, oI, oI, oI, oI, oI, oU, oI, .str 11, oI, oI, oB, oB, oI, oI, oI, oI, .str 12, .str 8, .one (.slice (.slice (.int .i64))), .one (.slice (.slice (.int .i64))), .one (.slice (.slice (.named 1))), .one (.slice (.named 2)), .one (.slice (.slice (.int .i64))), oM, .one (.slice (.slice (.int .i64))), oL, oL, .one (.slice (.named 9)), .one (.slice (.named 10))] [oI, .str 14, .str 8, oI, oI, oI, oI, oI, oI, oI, oI, oI, oU, oI, .str 11, oI, oI, oB, oB, oI, oI, oI, oI, .str 12, .str 8, .one (.slice (.slice (.int .i64))), .one (.slice (.slice (.int .i64))), .one (.slice (.slice (.named 1))), .one (.slice (.named 2)), .one (.slice (.slice (.int .i64))), oM, .one (.slice (.slice (.int .i64))), oL, oL, .one (.slice (.named 9)), .one (.slice (.named 10))] []
def Xo : Cfg E := cf [(15, [Wk])] [(2, V9)] [] [] [] []
def YA : zy E := sp Xo Go.Proofs.Tryz.f8 ⟨[.val (.named 14), .val (.named 8), vI], []⟩ ⟨[.val (.named 14), .val (.named 8), vI], []⟩ [.one (.named 14), .one (.named 8), oI] [.one (.named 14), .one (.named 8), oI]
def yU (a1 : za) (a2 : zd) (a3 : Int) : Option (za × zd × Int × Unit) := YA.F (a1, a2, a3, ())
def YV (x : Int × Int × za × zd × Int × Int × Int × Int × Int × Int × Int × Int × Int × (BitVec 64) × Int × zo × Int × Int × Bool × Bool × Int × Int × Int × Int × zn × zd × (List (List Int)) × (List (List Int)) × (List (List zj)) × (List zk) × (List (List Int)) × (List (BitVec 64)) × (List (List Int)) × (List Int) × (List Int) × (List zi) × (List ze) × Unit) : Option (xm (Int × Int × za × zd × Int × Int × Int × Int × Int × Int × Int × Int × Int × (BitVec 64) × Int × zo × Int × Int × Bool × Bool × Int × Int × Int × Int × zn × zd × (List (List Int)) × (List (List Int)) × (List (List zj)) × (List zk) × (List (List Int)) × (List (BitVec 64)) × (List (List Int)) × (List Int) × (List Int) × (List zi) × (List ze) × Unit) (Int × za × zd × Int × Int × Int × Int × Int × Int × Int × Int × Int × (BitVec 64) × Int × zo × Int × Int × Bool × Bool × Int × Int × Int × Int × zn × zd × (List (List Int)) × (List (List Int)) × (List (List zj)) × (List zk) × (List (List Int)) × (List (BitVec 64)) × (List (List Int)) × (List Int) × (List Int) × (List zi) × (List ze) × Unit) (Unit)) := yv Xo (exec Xo (xr Go.Proofs.Tryz.f8 2)) 29 V9 x
def Ve : z6 E := lo [0, 2, 3, 4] ⟨[.val (.slice (.slice (.named 1))), .ptr 0, .ptr 1, vI], [.box true (L 1 ++ L 1 ++ [vI, .own 2, vU, .own 3, .own 4, .own 5]), .box true (L 1 ++ L 1 ++ [vI, .own 6, vU, .own 7, .own 8, .own 9]), .row true (.slice (.int .i64)), .row true (.slice (.int .i64)), .row true (.slice (.named 1)), .row true (.named 2), .row true (.slice (.int .i64)), .row true (.slice (.int .i64)), .row true (.slice (.named 1)), .row true (.named 2)]⟩ 0 [2, 3] ⟨[.ptr 0, .ptr 1], [.box true (L 1 ++ L 1 ++ [vI, .own 2, vU, .own 3, .own 4, .own 5]), .box true (L 1 ++ L 1 ++ [vI, .own 6, vU, .own 7, .own 8, .own 9]), .row true (.slice (.int .i64)), .row true (.slice (.int .i64)), .row true (.slice (.named 1)), .row true (.named 2), .row true (.slice (.int .i64)), .row true (.slice (.int .i64)), .row true (.slice (.named 1)), .row true (.named 2)]⟩ [] ⟨[], []⟩ [.one (.slice (.slice (.named 1))), oI, oI, oI, oI, oI, oI, oI, oI, oI, oI, oU, oI, oI, oI, oI, oI, oI, oI, oI, oI, oU, .one (.slice (.slice (.int .i64))), .one (.slice (.slice (.int .i64))), .one (.slice (.slice (.named 1))), .one (.slice (.named 2)), .one (.slice (.slice (.int .i64))), .one (.slice (.slice (.int .i64))), .one (.slice (.slice (.named 1))), .one (.slice (.named 2))] [oI, oI, oI, oI, oI, oI, oI, oI, oI, oU, oI, oI, oI, oI, oI, oI, oI, oI, oI, oU, .one (.slice (.slice (.int .i64))), .one (.slice (.slice (.int .i64))), .one (.slice (.slice (.named 1))), .one (.slice (.named 2)), .one (.slice (.slice (.int .i64))), .one (.slice (.slice (.int .i64))), .one (.slice (.slice (.named 1))), .one (.slice (.named 2))] []
def Yp : Cfg E := cf [] [(3, Ve)] [] [] [] []
def Xr : zy E := sp Yp Go.Proofs.Tryz.f13 ⟨[.val (.slice (.slice (.named 1)))], []⟩ ⟨[.val (.named 4)], []⟩ [.one (.slice (.slice (.named 1)))] [.one (.named 4)]
def Xy (a1 : List (List zj)) : Option (zb × Unit) := Xr.F (a1, ())
def W2 (x : (List (List zj)) × Int × Int × Int × Int × Int × Int × Int × Int × Int × Int × (BitVec 64) × Int × Int × Int × Int × Int × Int × Int × Int × Int × (BitVec 64) × (List (List Int)) × (List (List Int)) × (List (List zj)) × (List zk) × (List (List Int)) × (List (List Int)) × (List (List zj)) × (List zk) × Unit) : Option (xm ((List (List zj)) × Int × Int × Int × Int × Int × Int × Int × Int × Int × Int × (BitVec 64) × Int × Int × Int × Int × Int × Int × Int × Int × Int × (BitVec 64) × (List (List Int)) × (List (List Int)) × (List (List zj)) × (List zk) × (List (List Int)) × (List (List Int)) × (List (List zj)) × (List zk) × Unit) (Int × Int × Int × Int × Int × Int × Int × Int × Int × (BitVec 64) × Int × Int × Int × Int × Int × Int × Int × Int × Int × (BitVec 64) × (List (List Int)) × (List (List Int)) × (List (List zj)) × (List zk) × (List (List Int)) × (List (List Int)) × (List (List zj)) × (List zk) × Unit) (Unit)) := yv Yp (exec Yp (xr Go.Proofs.Tryz.f13 3)) 35 Ve x
def zkx : Cfg E := cf [] [] [] [] [] []
def Xm : zy E := sp zkx Go.Proofs.Tryz.f14 ⟨[vI, vI, vI], []⟩ ⟨[.val (.named 8)], []⟩ [oI, oI, oI] [.one (.named 8)]
def w8 (a1 : Int) (a2 : Int) (a3 : Int) : Option (zd × Unit) := Xm.F (a1, a2, a3, ())
def zdm : z6 E := lo [0, 2, 3, 9, 10] ⟨[vM, vI, vI, .own 0, vI], [.row true (.int .i64)]⟩ 0 [9] ⟨[.own 0], [.row true (.int .i64)]⟩ [] ⟨[], []⟩ [oM, oI, oI, oI, oL] [oL] []
def Uk : Cfg E := cf [(49, [uN]), (50, [Xf])] [(3, zdm)] [] [] [] []
def zbN : zy E := sp Uk Go.Proofs.Tryz.f16 ⟨[vM, vI, vI, vI], []⟩ ⟨[.own 0], [.row true (.int .i64)]⟩ [oM, oI, oI, oI] [oL]
def Xg (a1 : List (BitVec 64)) (a2 : Int) (a3 : Int) (a4 : Int) : Option ((List Int) × Unit) := zbN.F (a1, a2, a3, a4, ())
def VL (x : (List (BitVec 64)) × Int × Int × Int × (List Int) × Unit) : Option (xm ((List (BitVec 64)) × Int × Int × Int × (List Int) × Unit) ((List Int) × Unit) (Unit)) := yv Uk (exec Uk (xr Go.Proofs.Tryz.f16 3)) 35 zdm x
def zny : Cfg E := cf [] [] [] [] [] []
def zaz : zy E := sp zny Go.Proofs.Tryz.f51 ⟨[.val (.named 8), vI, vI, vI], []⟩ ⟨[vI], []⟩ [.one (.named 8), oI, oI, oI] [oI]
def zap (a1 : zd) (a2 : Int) (a3 : Int) (a4 : Int) : Option (Int × Unit) := zaz.F (a1, a2, a3, a4, ())
def zlm : Cfg E := cf [(51, [zaz])] [] [] [] [] []
def zdG : zy E := sp zlm Go.Proofs.Tryz.f19 ⟨[.val (.named 8)], []⟩ ⟨[vI], []⟩ [.one (.named 8)] [oI]
def zdD (a1 : zd) : Option (Int × Unit) := zdG.F (a1, ())
def zk8 : Cfg E := cf [(51, [zaz])] [] [] [] [] []
def zdJ : zy E := sp zk8 Go.Proofs.Tryz.f20 ⟨[.val (.named 8)], []⟩ ⟨[vI], []⟩ [.one (.named 8)] [oI]
def zdU (a1 : zd) : Option (Int × Unit) := zdJ.F (a1, ())
def zjT : Cfg E := cf [(51, [zaz])] [] [] [] [] []
def zcH : zy E := sp zjT Go.Proofs.Tryz.f21 ⟨[.val (.named 8)], []⟩ ⟨[vI], []⟩ [.one (.named 8)] [oI]
def Vs (a1 : zd) : Option (Int × Unit) := zcH.F (a1, ())
def zcU : Cfg E := cf [(5, [We]), (8, [YA]), (13, [Xr]), (14, [Xm]), (15, [Wk]), (16, [zbN]), (17, [Z5]), (18, [Ye]), (19, [zdG]), (20, [zdJ]), (21, [zcH])] [] [] [] [] []
def Yb : zy E := sp zcU Go.Proofs.Tryz.f4 ⟨[], []⟩ ⟨[vB], []⟩ [] [oB]
def Yf  : Option (Bool × Unit) := Yb.F (())
def UP : Cfg E := cf [] [] [] [(0, some 0)] [] []
def wn : zy E := sp UP Go.Proofs.Tryz.f35 ⟨[.ptr 0], [.box true [.val (.slice (.int .u8)), vI]]⟩ ⟨[vI], [.box true [.val (.slice (.int .u8)), vI]]⟩ [.str 16] [oI, .str 16]
def zq (a1 : zx) : Option (Int × zx × Unit) := wn.F (a1, ())
def zaH : Cfg E := cf [(35, [wn])] [] [] [(0, some 0)] [] []
def uY : zy E := sp zaH Go.Proofs.Tryz.f36 ⟨[.ptr 0, vI, vI], [.box true [.val (.slice (.int .u8)), vI]]⟩ ⟨[.val (.named 1)], [.box true [.val (.slice (.int .u8)), vI]]⟩ [oI, oI, .str 16] [.one (.named 1), .str 16]
def uR (a1 : Int) (a2 : Int) (a3 : zx) : Option (zj × zx × Unit) := uY.F (a1, a2, a3, ())
def Vz : z6 E := lo [2, 3, 4, 5, 6] ⟨[.ptr 0, .ptr 1, .ptr 2, vI, vI], [.box true (L 1 ++ L 1 ++ [vI, .own 3, vU, .own 4, .own 5, .own 6]), .box true [.val (.slice (.int .u8)), vI], .box true (L 1 ++ L 1 ++ [vI, .own 7, vU, .own 8, .own 9, .own 10]), .row true (.slice (.int .i64)), .row true (.slice (.int .i64)), .row true (.slice (.named 1)), .row true (.named 2), .row true (.slice (.int .i64)), .row true (.slice (.int .i64)), .row true (.slice (.named 1)), .row true (.named 2)]⟩ 0 [2, 3, 4, 5] ⟨[.ptr 0, .ptr 1, .ptr 2, vI], [.box true (L 1 ++ L 1 ++ [vI, .own 3, vU, .own 4, .own 5, .own 6]), .box true [.val (.slice (.int .u8)), vI], .box true (L 1 ++ L 1 ++ [vI, .own 7, vU, .own 8, .own 9, .own 10]), .row true (.slice (.int .i64)), .row true (.slice (.int .i64)), .row true (.slice (.named 1)), .row true (.named 2), .row true (.slice (.int .i64)), .row true (.slice (.int .i64)), .row true (.slice (.named 1)), .row true (.named 2)]⟩ [] ⟨[], []⟩ [oI, oI, oI, oI, oI, oI, oI, oI, oI, oI, oI, oU, .str 16, oI, oI, oI, oI, oI, oI, oI, oI, oI, oU, .one (.slice (.slice (.int .i64))), .one (.slice (.slice (.int .i64))), .one (.slice (.slice (.named 1))), .one (.slice (.named 2)), .one (.slice (.slice (.int .i64))), .one (.slice (.slice (.int .i64))), .one (.slice (.slice (.named 1))), .one (.slice (.named 2))] [oI, oI, oI, oI, oI, oI, oI, oI, oI, oI, oU, .str 16, oI, oI, oI, oI, oI, oI, oI, oI, oI, oU, .one (.slice (.slice (.int .i64))), .one (.slice (.slice (.int .i64))), .one (.slice (.slice (.named 1))), .one (.slice (.named 2)), .one (.slice (.slice (.int .i64))), .one (.slice (.slice (.int .i64))), .one (.slice (.slice (.named 1))), .one (.slice (.named 2))] []
def W6 : z6 E := lo [2, 3, 4, 5, 6, 7, 8] ⟨[.ptr 0, .ptr 1, .ptr 2, vI, vI, .own 3, vI], [.box true (L 1 ++ L 1 ++ [vI, .own 4, vU, .own 5, .own 6, .own 7]), .box true [.val (.slice (.int .u8)), vI], .box true (L 1 ++ L 1 ++ [vI, .own 8, vU, .own 9, .own 10, .own 11]), .row true (.int .i64), .row true (.slice (.int .i64)), .row true (.slice (.int .i64)), .row true (.slice (.named 1)), .row true (.named 2), .row true (.slice (.int .i64)), .row true (.slice (.int .i64)), .row true (.slice (.named 1)), .row true (.named 2)]⟩ 2 [2, 3, 4, 5, 6, 7] ⟨[.ptr 0, .ptr 1, .ptr 2, vI, vI, .own 3], [.box true (L 1 ++ L 1 ++ [vI, .own 4, vU, .own 5, .own 6, .own 7]), .box true [.val (.slice (.int .u8)), vI], .box true (L 1 ++ L 1 ++ [vI, .own 8, vU, .own 9, .own 10, .own 11]), .row true (.int .i64), .row true (.slice (.int .i64)), .row true (.slice (.int .i64)), .row true (.slice (.named 1)), .row true (.named 2), .row true (.slice (.int .i64)), .row true (.slice (.int .i64)), .row true (.slice (.named 1)), .row true (.named 2)]⟩ [] ⟨[], []⟩ [oI, oI, oI, oI, oI, oI, oI, oI, oI, oI, oI, oI, oU, .str 16, oI, oI, oI, oI, oI, oI, oI, oI, oI, oU, oL, .one (.slice (.slice (.int .i64))), .one (.slice (.slice (.int .i64))), .one (.slice (.slice (.named 1))), .one (.slice (.named 2)), .one (.slice (.slice (.int .i64))), .one (.slice (.slice (.int .i64))), .one (.slice (.slice (.named 1))), .one (.slice (.named 2))] [oI, oI, oI, oI, oI, oI, oI, oI, oI, oI, oI, oU, .str 16, oI, oI, oI, oI, oI, oI, oI, oI, oI, oU, oL, .one (.slice (.slice (.int .i64))), .one (.slice (.slice (.int .i64))), .one (.slice (.slice (.named 1))), .one (.slice (.named 2)), .one (.slice (.slice (.int .i64))), .one (.slice (.slice (.int .i64))), .one (.slice (.slice (.named 1))), .one (.slice (.named 2))] []
def Vg : z6 E := lo [2, 3, 4, 5, 9] ⟨[.ptr 0, .ptr 1, .ptr 2, vI, vI], [.box true (L 1 ++ L 1 ++ [vI, .own 3, vU, .own 4, .own 5, .own 6]), .box true [.val (.slice (.int .u8)), vI], .box true (L 1 ++ L 1 ++ [vI, .own 7, vU, .own 8, .own 9, .own 10]), .row true (.slice (.int .i64)), .row true (.slice (.int .i64)), .row true (.slice (.named 1)), .row true (.named 2), .row true (.slice (.int .i64)), .row true (.slice (.int .i64)), .row true (.slice (.named 1)), .row true (.named 2)]⟩ 4 [2, 4] ⟨[.ptr 0, .ptr 1], [.box true (L 1 ++ L 1 ++ [vI, .own 2, vU, .own 3, .own 4, .own 5]), .box true (L 1 ++ L 1 ++ [vI, .own 6, vU, .own 7, .own 8, .own 9]), .row true (.slice (.int .i64)), .row true (.slice (.int .i64)), .row true (.slice (.named 1)), .row true (.named 2), .row true (.slice (.int .i64)), .row true (.slice (.int .i64)), .row true (.slice (.named 1)), .row true (.named 2)]⟩ [] ⟨[], []⟩ [oI, oI, oI, oI, oI, oI, oI, oI, oI, oI, oI, oU, .str 16, oI, oI, oI, oI, oI, oI, oI, oI, oI, oU, .one (.slice (.slice (.int .i64))), .one (.slice (.slice (.int .i64))), .one (.slice (.slice (.named 1))), .one (.slice (.named 2)), .one (.slice (.slice (.int .i64))), .one (.slice (.slice (.int .i64))), .one (.slice (.slice (.named 1))), .one (.slice (.named 2))] [oI, oI, oI, oI, oI, oI, oI, oI, oI, oU, oI, oI, oI, oI, oI, oI, oI, oI, oI, oU, .one (.slice (.slice (.int .i64))), .one (.slice (.slice (.int .i64))), .one (.slice (.slice (.named 1))), .one (.slice (.named 2)), .one (.slice (.slice (.int .i64))), .one (.slice (.slice (.int .i64))), .one (.slice (.slice (.named 1))), .one (.slice (.named 2))] []
def Va : z6 E := lo [2, 3, 4, 5, 9, 10, 11] ⟨[.ptr 0, .ptr 1, .ptr 2, vI, vI, .own 3, vI], [.box true (L 1 ++ L 1 ++ [vI, .own 4, vU, .own 5, .own 6, .own 7]), .box true [.val (.slice (.int .u8)), vI], .box true (L 1 ++ L 1 ++ [vI, .own 8, vU, .own 9, .own 10, .own 11]), .row true (.int .i64), .row true (.slice (.int .i64)), .row true (.slice (.int .i64)), .row true (.slice (.named 1)), .row true (.named 2), .row true (.slice (.int .i64)), .row true (.slice (.int .i64)), .row true (.slice (.named 1)), .row true (.named 2)]⟩ 6 [2, 3, 4, 5, 9, 10] ⟨[.ptr 0, .ptr 1, .ptr 2, vI, vI, .own 3], [.box true (L 1 ++ L 1 ++ [vI, .own 4, vU, .own 5, .own 6, .own 7]), .box true [.val (.slice (.int .u8)), vI], .box true (L 1 ++ L 1 ++ [vI, .own 8, vU, .own 9, .own 10, .own 11]), .row true (.int .i64), .row true (.slice (.int .i64)), .row true (.slice (.int .i64)), .row true (.slice (.named 1)), .row true (.named 2), .row true (.slice (.int .i64)), .row true (.slice (.int .i64)), .row true (.slice (.named 1)), .row true (.named 2)]⟩ [] ⟨[], []⟩ [oI, oI, oI, oI, oI, oI, oI, oI, oI, oI, oI, oI, oU, .str 16, oI, oI, oI, oI, oI, oI, oI, oI, oI, oU, oL, .one (.slice (.slice (.int .i64))), .one (.slice (.slice (.int .i64))), .one (.slice (.slice (.named 1))), .one (.slice (.named 2)), .one (.slice (.slice (.int .i64))), .one (.slice (.slice (.int .i64))), .one (.slice (.slice (.named 1))), .one (.slice (.named 2))] [oI, oI, oI, oI, oI, oI, oI, oI, oI, oI, oI, oU, .str 16, oI, oI, oI, oI, oI, oI, oI, oI, oI, oU, oL, .one (.slice (.slice (.int .i64))), .one (.slice (.slice (.int .i64))), .one (.slice (.slice (.named 1))), .one (.slice (.named 2)), .one (.slice (.slice (.int .i64))), .one (.slice (.slice (.int .i64))), .one (.slice (.slice (.named 1))), .one (.slice (.named 2))] []
def Vd : z6 E := lo [2, 3, 4, 5, 9, 10, 12, 13] ⟨[.ptr 0, .ptr 1, .ptr 2, vI, vI, .own 3, .own 4, vI], [.box true (L 1 ++ L 1 ++ [vI, .own 5, vU, .own 6, .own 7, .own 8]), .box true [.val (.slice (.int .u8)), vI], .box true (L 1 ++ L 1 ++ [vI, .own 9, vU, .own 10, .own 11, .own 12]), .row true (.int .i64), .row true (.named 1), .row true (.slice (.int .i64)), .row true (.slice (.int .i64)), .row true (.slice (.named 1)), .row true (.named 2), .row true (.slice (.int .i64)), .row true (.slice (.int .i64)), .row true (.slice (.named 1)), .row true (.named 2)]⟩ 8 [2, 3, 4, 5, 9, 10, 12] ⟨[.ptr 0, .ptr 1, .ptr 2, vI, vI, .own 3, .own 4], [.box true (L 1 ++ L 1 ++ [vI, .own 5, vU, .own 6, .own 7, .own 8]), .box true [.val (.slice (.int .u8)), vI], .box true (L 1 ++ L 1 ++ [vI, .own 9, vU, .own 10, .own 11, .own 12]), .row true (.int .i64), .row true (.named 1), .row true (.slice (.int .i64)), .row true (.slice (.int .i64)), .row true (.slice (.named 1)), .row true (.named 2), .row true (.slice (.int .i64)), .row true (.slice (.int .i64)), .row true (.slice (.named 1)), .row true (.named 2)]⟩ [] ⟨[], []⟩ [oI, oI, oI, oI, oI, oI, oI, oI, oI, oI, oI, oI, oU, .str 16, oI, oI, oI, oI, oI, oI, oI, oI, oI, oU, oL, .one (.slice (.named 1)), .one (.slice (.slice (.int .i64))), .one (.slice (.slice (.int .i64))), .one (.slice (.slice (.named 1))), .one (.slice (.named 2)), .one (.slice (.slice (.int .i64))), .one (.slice (.slice (.int .i64))), .one (.slice (.slice (.named 1))), .one (.slice (.named 2))] [oI, oI, oI, oI, oI, oI, oI, oI, oI, oI, oI, oU, .str 16, oI, oI, oI, oI, oI, oI, oI, oI, oI, oU, oL, .one (.slice (.named 1)), .one (.slice (.slice (.int .i64))), .one (.slice (.slice (.int .i64))), .one (.slice (.slice (.named 1))), .one (.slice (.named 2)), .one (.slice (.slice (.int .i64))), .one (.slice (.slice (.int .i64))), .one (.slice (.slice (.named 1))), .one (.slice (.named 2))] []
def yr : Cfg E := cf [(9, [Vf]), (35, [wn]), (36, [uY])] [(7, Vz), (11, W6), (17, Vg), (21, Va), (28, Vd)] [] [] [] []
def ZX : zy E := sp yr Go.Proofs.Tryz.f6 ⟨[.val (.slice (.int .u8))], []⟩ ⟨[.val (.named 4)], []⟩ [.one (.slice (.int .u8))] [.one (.named 4)]
def ul (a1 : List (BitVec 8)) : Option (zb × Unit) := ZX.F (a1, ())
def uB (x : Int × Int × Int × Int × Int × Int × Int × Int × Int × Int × Int × (BitVec 64) × zx × Int × Int × Int × Int × Int × Int × Int × Int × Int × (BitVec 64) × (List (List Int)) × (List (List Int)) × (List (List zj)) × (List zk) × (List (List Int)) × (List (List Int)) × (List (List zj)) × (List zk) × Unit) : Option (xm (Int × Int × Int × Int × Int × Int × Int × Int × Int × Int × Int × (BitVec 64) × zx × Int × Int × Int × Int × Int × Int × Int × Int × Int × (BitVec 64) × (List (List Int)) × (List (List Int)) × (List (List zj)) × (List zk) × (List (List Int)) × (List (List Int)) × (List (List zj)) × (List zk) × Unit) (Int × Int × Int × Int × Int × Int × Int × Int × Int × Int × (BitVec 64) × zx × Int × Int × Int × Int × Int × Int × Int × Int × Int × (BitVec 64) × (List (List Int)) × (List (List Int)) × (List (List zj)) × (List zk) × (List (List Int)) × (List (List Int)) × (List (List zj)) × (List zk) × Unit) (Unit)) := yv yr (exec yr (xr Go.Proofs.Tryz.f6 7)) 154 Vz x
def vT (x : Int × Int × Int × Int × Int × Int × Int × Int × Int × Int × Int × Int × (BitVec 64) × zx × Int × Int × Int × Int × Int × Int × Int × Int × Int × (BitVec 64) × (List Int) × (List (List Int)) × (List (List Int)) × (List (List zj)) × (List zk) × (List (List Int)) × (List (List Int)) × (List (List zj)) × (List zk) × Unit) : Option (xm (Int × Int × Int × Int × Int × Int × Int × Int × Int × Int × Int × Int × (BitVec 64) × zx × Int × Int × Int × Int × Int × Int × Int × Int × Int × (BitVec 64) × (List Int) × (List (List Int)) × (List (List Int)) × (List (List zj)) × (List zk) × (List (List Int)) × (List (List Int)) × (List (List zj)) × (List zk) × Unit) (Int × Int × Int × Int × Int × Int × Int × Int × Int × Int × Int × (BitVec 64) × zx × Int × Int × Int × Int × Int × Int × Int × Int × Int × (BitVec 64) × (List Int) × (List (List Int)) × (List (List Int)) × (List (List zj)) × (List zk) × (List (List Int)) × (List (List Int)) × (List (List zj)) × (List zk) × Unit) (Unit)) := yv yr (exec yr (xr Go.Proofs.Tryz.f6 11)) 154 W6 x
def vS (x : Int × Int × Int × Int × Int × Int × Int × Int × Int × Int × Int × (BitVec 64) × zx × Int × Int × Int × Int × Int × Int × Int × Int × Int × (BitVec 64) × (List (List Int)) × (List (List Int)) × (List (List zj)) × (List zk) × (List (List Int)) × (List (List Int)) × (List (List zj)) × (List zk) × Unit) : Option (xm (Int × Int × Int × Int × Int × Int × Int × Int × Int × Int × Int × (BitVec 64) × zx × Int × Int × Int × Int × Int × Int × Int × Int × Int × (BitVec 64) × (List (List Int)) × (List (List Int)) × (List (List zj)) × (List zk) × (List (List Int)) × (List (List Int)) × (List (List zj)) × (List zk) × Unit) (Int × Int × Int × Int × Int × Int × Int × Int × Int × (BitVec 64) × Int × Int × Int × Int × Int × Int × Int × Int × Int × (BitVec 64) × (List (List Int)) × (List (List Int)) × (List (List zj)) × (List zk) × (List (List Int)) × (List (List Int)) × (List (List zj)) × (List zk) × Unit) (Unit)) := yv yr (exec yr (xr Go.Proofs.Tryz.f6 17)) 154 Vg x
def vX (x : Int × Int × Int × Int × Int × Int × Int × Int × Int × Int × Int × Int × (BitVec 64) × zx × Int × Int × Int × Int × Int × Int × Int × Int × Int × (BitVec 64) × (List Int) × (List (List Int)) × (List (List Int)) × (List (List zj)) × (List zk) × (List (List Int)) × (List (List Int)) × (List (List zj)) × (List zk) × Unit) : Option (xm (Int × Int × Int × Int × Int × Int × Int × Int × Int × Int × Int × Int × (BitVec 64) × zx × Int × Int × Int × Int × Int × Int × Int × Int × Int × (BitVec 64) × (List Int) × (List (List Int)) × (List (List Int)) × (List (List zj)) × (List zk) × (List (List Int)) × (List (List Int)) × (List (List zj)) × (List zk) × Unit) (Int × Int × Int × Int × Int × Int × Int × Int × Int × Int × Int × (BitVec 64) × zx × Int × Int × Int × Int × Int × Int × Int × Int × Int × (BitVec 64) × (List Int) × (List (List Int)) × (List (List Int)) × (List (List zj)) × (List zk) × (List (List Int)) × (List (List Int)) × (List (List zj)) × (List zk) × Unit) (Unit)) := yv yr (exec yr (xr Go.Proofs.Tryz.f6 21)) 154 Va x
def wB (x : Int × Int × Int × Int × Int × Int × Int × Int × Int × Int × Int × Int × (BitVec 64) × zx × Int × Int × Int × Int × Int × Int × Int × Int × Int × (BitVec 64) × (List Int) × (List zj) × (List (List Int)) × (List (List Int)) × (List (List zj)) × (List zk) × (List (List Int)) × (List (List Int)) × (List (List zj)) × (List zk) × Unit) : Option (xm (Int × Int × Int × Int × Int × Int × Int × Int × Int × Int × Int × Int × (BitVec 64) × zx × Int × Int × Int × Int × Int × Int × Int × Int × Int × (BitVec 64) × (List Int) × (List zj) × (List (List Int)) × (List (List Int)) × (List (List zj)) × (List zk) × (List (List Int)) × (List (List Int)) × (List (List zj)) × (List zk) × Unit) (Int × Int × Int × Int × Int × Int × Int × Int × Int × Int × Int × (BitVec 64) × zx × Int × Int × Int × Int × Int × Int × Int × Int × Int × (BitVec 64) × (List Int) × (List zj) × (List (List Int)) × (List (List Int)) × (List (List zj)) × (List zk) × (List (List Int)) × (List (List Int)) × (List (List zj)) × (List zk) × Unit) (Unit)) := yv yr (exec yr (xr Go.Proofs.Tryz.f6 28)) 154 Vd x
def zbs : Cfg E := cf [(14, [Xm])] [] [] [] [] []
def Zo : zy E := sp zbs Go.Proofs.Tryz.f37 ⟨[.val (.named 0), .val (.named 4)], []⟩ ⟨[.val (.named 8)], []⟩ [.one (.named 0), .one (.named 4)] [.one (.named 8)]
def xV (a1 : ya) (a2 : zb) : Option (zd × Unit) := Zo.F (a1, a2, ())
def Ua : z6 E := lo [3, 8, 11, 12, 13] ⟨[.val (.slice (.int .u8)), .ptr 0, .ptr 1, .own 2, vI], [.box true (L 1 ++ L 1 ++ [vI, .own 3, vU, .own 4, .own 5, .own 6, vI, .own 7, .own 8, .own 9, vU, vU, vI, vI, vB, vB, vI, .own 10, vI, vI, vI, .own 11, .own 12, .own 13, vI, vI]), .box true (L 14), .row true (.named 8), .row true (.slice (.int .i64)), .row true (.slice (.int .i64)), .row true (.slice (.named 1)), .row true (.named 2), .row true (.slice (.int .i64)), .row true (.int .u64), .row true (.slice (.int .i64)), .row true (.int .i64), .row true (.int .i64), .row true (.named 9), .row true (.named 10)]⟩ 0 [8, 11, 12] ⟨[.ptr 0, .ptr 1, .own 2], [.box true (L 1 ++ L 1 ++ [vI, .own 3, vU, .own 4, .own 5, .own 6, vI, .own 7, .own 8, .own 9, vU, vU, vI, vI, vB, vB, vI, .own 10, vI, vI, vI, .own 11, .own 12, .own 13, vI, vI]), .box true (L 14), .row true (.named 8), .row true (.slice (.int .i64)), .row true (.slice (.int .i64)), .row true (.slice (.named 1)), .row true (.named 2), .row true (.slice (.int .i64)), .row true (.int .u64), .row true (.slice (.int .i64)), .row true (.int .i64), .row true (.int .i64), .row true (.named 9), .row true (.named 10)]⟩ [] ⟨[], []⟩ [.one (.slice (.int .u8)), oI, oI, oI, oI, oI, oI, oI, oI, oI, oI, oU, oI, .str 11, oI, oI, oB, oB, oI, oI, oI, oI, .str 12, .str 14, .one (.slice (.named 8)), .one (.slice (.slice (.int .i64))), .one (.slice (.slice (.int .i64))), .one (.slice (.slice (.named 1))), .one (.slice (.named 2)), .one (.slice (.slice (.int .i64))), oM, .one (.slice (.slice (.int .i64))), oL, oL, .one (.slice (.named 9)), .one (.slice (.named 10))] [oI, oI, oI, oI, oI, oI, oI, oI, oI, oU, oI, .str 11, oI, oI, oB, oB, oI, oI, oI, oI, .str 12, .str 14, .one (.slice (.named 8)), .one (.slice (.slice (.int .i64))), .one (.slice (.slice (.int .i64))), .one (.slice (.slice (.named 1))), .one (.slice (.named 2)), .one (.slice (.slice (.int .i64))), oM, .one (.slice (.slice (.int .i64))), oL, oL, .one (.slice (.named 9)), .one (.slice (.named 10))] []
def Xv : Cfg E := cf [(5, [We]), (6, [ZX]), (14, [Xm]), (15, [Wk]), (37, [Zo])] [(7, Ua)] [] [] [] []
def WZ : zy E := sp Xv Go.Proofs.Tryz.f7 ⟨[.val (.slice (.int .u8)), .val (.named 0), .val (.named 0), .val (.slice (.int .u8))], []⟩ ⟨[.val (.named 14), .own 0], [.row true (.named 8)]⟩ [.one (.slice (.int .u8)), .one (.named 0), .one (.named 0), .one (.slice (.int .u8))] [.one (.named 14), .one (.slice (.named 8))]
def WY (a1 : List (BitVec 8)) (a2 : ya) (a3 : ya) (a4 : List (BitVec 8)) : Option (za × (List zd) × Unit) := WZ.F (a1, a2, a3, a4, ())
def yJ (x : (List (BitVec 8)) × Int × Int × Int × Int × Int × Int × Int × Int × Int × Int × (BitVec 64) × Int × zo × Int × Int × Bool × Bool × Int × Int × Int × Int × zn × za × (List zd) × (List (List Int)) × (List (List Int)) × (List (List zj)) × (List zk) × (List (List Int)) × (List (BitVec 64)) × (List (List Int)) × (List Int) × (List Int) × (List zi) × (List ze) × Unit) : Option (xm ((List (BitVec 8)) × Int × Int × Int × Int × Int × Int × Int × Int × Int × Int × (BitVec 64) × Int × zo × Int × Int × Bool × Bool × Int × Int × Int × Int × zn × za × (List zd) × (List (List Int)) × (List (List Int)) × (List (List zj)) × (List zk) × (List (List Int)) × (List (BitVec 64)) × (List (List Int)) × (List Int) × (List Int) × (List zi) × (List ze) × Unit) (Int × Int × Int × Int × Int × Int × Int × Int × Int × (BitVec 64) × Int × zo × Int × Int × Bool × Bool × Int × Int × Int × Int × zn × za × (List zd) × (List (List Int)) × (List (List Int)) × (List (List zj)) × (List zk) × (List (List Int)) × (List (BitVec 64)) × (List (List Int)) × (List Int) × (List Int) × (List zi) × (List ze) × Unit) (Unit)) := yv Xv (exec Xv (xr Go.Proofs.Tryz.f7 7)) 84 Ua x
def znh : Cfg E := cf [(66, [zc2])] [] [] [] [] []
def zfJ : zy E := sp znh Go.Proofs.Tryz.f40 ⟨[.val (.named 11), vI], []⟩ ⟨[vI], []⟩ [.one (.named 11), oI] [oI]
def zaB (a1 : zo) (a2 : Int) : Option (Int × Unit) := zfJ.F (a1, a2, ())
def zdP : Cfg E := cf [(40, [zfJ])] [] [] [] [] []
def Yz : zy E := sp zdP Go.Proofs.Tryz.f11 ⟨[.val (.named 14), .val (.named 8), .val (.named 8)], []⟩ ⟨[vB], []⟩ [.one (.named 14), .one (.named 8), .one (.named 8)] [oB]
def Yw (a1 : za) (a2 : zd) (a3 : zd) : Option (Bool × Unit) := Yz.F (a1, a2, a3, ())
def zdw : Cfg E := cf [] [] [] [] [] []
def Yt : zy E := sp zdw Go.Proofs.Tryz.f12 ⟨[.val (.slice (.named 8))], []⟩ ⟨[vB], []⟩ [.one (.slice (.named 8))] [oB]
def VP (a1 : List zd) : Option (Bool × Unit) := Yt.F (a1, ())
def Xk : z6 E := lo [9, 10, 11, 12, 13] ⟨[vB, .ptr 0, .ptr 1, .own 2, vI], [.box true (L 14), .box true (L 14), .row true (.named 8)]⟩ 0 [9, 10, 11, 12] ⟨[vB, .ptr 0, .ptr 1, .own 2], [.box true (L 14), .box true (L 14), .row true (.named 8)]⟩ [] ⟨[], []⟩ [oB, oI, .str 14, .str 14, .one (.slice (.named 8))] [oB, .str 14, .str 14, .one (.slice (.named 8))] []
def Zf : Cfg E := cf [(4, [Yb]), (5, [We]), (6, [ZX]), (7, [WZ]), (8, [YA]), (9, [Vf]), (10, [UZ]), (11, [Yz]), (12, [Yt])] [(7, Xk)] [] [] [] []
def Ya : zy E := sp Zf Go.Proofs.Tryz.f3 ⟨[.val (.slice (.int .u8)), .val (.named 0), .val (.named 0), .val (.slice (.int .u8))], []⟩ ⟨[vB], []⟩ [.one (.slice (.int .u8)), .one (.named 0), .one (.named 0), .one (.slice (.int .u8))] [oB]
def wz (a1 : List (BitVec 8)) (a2 : ya) (a3 : ya) (a4 : List (BitVec 8)) : Option (Bool × Unit) := Ya.F (a1, a2, a3, a4, ())
def uS (x : Bool × Int × za × za × (List zd) × Unit) : Option (xm (Bool × Int × za × za × (List zd) × Unit) (Bool × za × za × (List zd) × Unit) (Unit)) := yv Zf (exec Zf (xr Go.Proofs.Tryz.f3 7)) 123 Xk x
end
end Go.Pe.G
namespace Go.Pe.G
open Go.Pe
theorem zek (a1 : BitVec 64) : zaw a1 =
 some (zot (((((((((((((a1 >>> 1) &&& 6148914691236517205#64) + (a1 &&& 6148914691236517205#64)) >>> 2) &&& 3689348814741910323#64) + ((((a1 >>> 1) &&& 6148914691236517205#64) + (a1 &&& 6148914691236517205#64)) &&& 3689348814741910323#64)) >>> 4) + ((((((a1 >>> 1) &&& 6148914691236517205#64) + (a1 &&& 6148914691236517205#64)) >>> 2) &&& 3689348814741910323#64) + ((((a1 >>> 1) &&& 6148914691236517205#64) + (a1 &&& 6148914691236517205#64)) &&& 3689348814741910323#64))) &&& 1085102592571150095#64) + ((((((((((a1 >>> 1) &&& 6148914691236517205#64) + (a1 &&& 6148914691236517205#64)) >>> 2) &&& 3689348814741910323#64) + ((((a1 >>> 1) &&& 6148914691236517205#64) + (a1 &&& 6148914691236517205#64)) &&& 3689348814741910323#64)) >>> 4) + ((((((a1 >>> 1) &&& 6148914691236517205#64) + (a1 &&& 6148914691236517205#64)) >>> 2) &&& 3689348814741910323#64) + ((((a1 >>> 1) &&& 6148914691236517205#64) + (a1 &&& 6148914691236517205#64)) &&& 3689348814741910323#64))) &&& 1085102592571150095#64) >>> 8)) + (((((((((((a1 >>> 1) &&& 6148914691236517205#64) + (a1 &&& 6148914691236517205#64)) >>> 2) &&& 3689348814741910323#64) + ((((a1 >>> 1) &&& 6148914691236517205#64) + (a1 &&& 6148914691236517205#64)) &&& 3689348814741910323#64)) >>> 4) + ((((((a1 >>> 1) &&& 6148914691236517205#64) + (a1 &&& 6148914691236517205#64)) >>> 2) &&& 3689348814741910323#64) + ((((a1 >>> 1) &&& 6148914691236517205#64) + (a1 &&& 6148914691236517205#64)) &&& 3689348814741910323#64))) &&& 1085102592571150095#64) + ((((((((((a1 >>> 1) &&& 6148914691236517205#64) + (a1 &&& 6148914691236517205#64)) >>> 2) &&& 3689348814741910323#64) + ((((a1 >>> 1) &&& 6148914691236517205#64) + (a1 &&& 6148914691236517205#64)) &&& 3689348814741910323#64)) >>> 4) + ((((((a1 >>> 1) &&& 6148914691236517205#64) + (a1 &&& 6148914691236517205#64)) >>> 2) &&& 3689348814741910323#64) + ((((a1 >>> 1) &&& 6148914691236517205#64) + (a1 &&& 6148914691236517205#64)) &&& 3689348814741910323#64))) &&& 1085102592571150095#64) >>> 8)) >>> 16)) + ((((((((((((a1 >>> 1) &&& 6148914691236517205#64) + (a1 &&& 6148914691236517205#64)) >>> 2) &&& 3689348814741910323#64) + ((((a1 >>> 1) &&& 6148914691236517205#64) + (a1 &&& 6148914691236517205#64)) &&& 3689348814741910323#64)) >>> 4) + ((((((a1 >>> 1) &&& 6148914691236517205#64) + (a1 &&& 6148914691236517205#64)) >>> 2) &&& 3689348814741910323#64) + ((((a1 >>> 1) &&& 6148914691236517205#64) + (a1 &&& 6148914691236517205#64)) &&& 3689348814741910323#64))) &&& 1085102592571150095#64) + ((((((((((a1 >>> 1) &&& 6148914691236517205#64) + (a1 &&& 6148914691236517205#64)) >>> 2) &&& 3689348814741910323#64) + ((((a1 >>> 1) &&& 6148914691236517205#64) + (a1 &&& 6148914691236517205#64)) &&& 3689348814741910323#64)) >>> 4) + ((((((a1 >>> 1) &&& 6148914691236517205#64) + (a1 &&& 6148914691236517205#64)) >>> 2) &&& 3689348814741910323#64) + ((((a1 >>> 1) &&& 6148914691236517205#64) + (a1 &&& 6148914691236517205#64)) &&& 3689348814741910323#64))) &&& 1085102592571150095#64) >>> 8)) + (((((((((((a1 >>> 1) &&& 6148914691236517205#64) + (a1 &&& 6148914691236517205#64)) >>> 2) &&& 3689348814741910323#64) + ((((a1 >>> 1) &&& 6148914691236517205#64) + (a1 &&& 6148914691236517205#64)) &&& 3689348814741910323#64)) >>> 4) + ((((((a1 >>> 1) &&& 6148914691236517205#64) + (a1 &&& 6148914691236517205#64)) >>> 2) &&& 3689348814741910323#64) + ((((a1 >>> 1) &&& 6148914691236517205#64) + (a1 &&& 6148914691236517205#64)) &&& 3689348814741910323#64))) &&& 1085102592571150095#64) + ((((((((((a1 >>> 1) &&& 6148914691236517205#64) + (a1 &&& 6148914691236517205#64)) >>> 2) &&& 3689348814741910323#64) + ((((a1 >>> 1) &&& 6148914691236517205#64) + (a1 &&& 6148914691236517205#64)) &&& 3689348814741910323#64)) >>> 4) + ((((((a1 >>> 1) &&& 6148914691236517205#64) + (a1 &&& 6148914691236517205#64)) >>> 2) &&& 3689348814741910323#64) + ((((a1 >>> 1) &&& 6148914691236517205#64) + (a1 &&& 6148914691236517205#64)) &&& 3689348814741910323#64))) &&& 1085102592571150095#64) >>> 8)) >>> 16)) >>> 32)).toInt) 127, ()) := zw (by kernel_rfl)
theorem zjw (a1 : BitVec 64) : UV a1 =
 (zaw a1).bind fun y1 =>
 some (y1.1, ()) := zw (by kernel_rfl)
theorem ziK (a1 : zb) : uK a1 =
 some (w64 (a1.Workers * (w64 (a1.Cap + 2))), ()) := zw (by kernel_rfl)
theorem zhQ (a1 : zb) : YL a1 =
 (uK a1).bind fun y1 =>
 some (w64 (y1.1 + 1), ()) := zw (by kernel_rfl)
theorem zi3 (a1 : zb) : vP a1 =
 (YL a1).bind fun y1 =>
 some (y1.1, ()) := zw (by kernel_rfl)
theorem zhw (a1 : Int) (a2 : Int) (a3 : Int) : xP a1 a2 a3 =
 bif decide (a2 ≤ a1) then
  some (decide (a1 ≤ a3), ())
 else
  some (false, ()) := zw (by kernel_rfl)
theorem zfb (a1 : zb) : X6 a1 =
 (xP a1.Workers 1 16).bind fun y1 =>
 bif y1.1 then
  (xP a1.Mutators 0 16).bind fun y2 =>
  bif y2.1 then
   (xP a1.Cap 1 16).bind fun y3 =>
   bif y3.1 then
    (xP a1.Buf 1 8).bind fun y4 =>
    bif y4.1 then
     (xP a1.Bin 1 8).bind fun y5 =>
     bif y5.1 then
      bif decide (0 ≤ (bif decide (a1.Limit < a1.Price) then a1.Limit else a1.Price)) then
       some (decide ((bif decide (a1.Price < a1.Limit) then a1.Limit else a1.Price) ≤ 1000000), ())
      else
       some (false, ())
     else
      some (false, ())
    else
     some (false, ())
   else
    some (false, ())
  else
   some (false, ())
 else
  some (false, ()) := zw (by kernel_rfl)
theorem zfB (a1 : Int) (a2 : zG) : zcy a1 a2 =
 bif decide (a1 < 0) then
  some (true, ())
 else
  some (decide (((a2.Objs.length : Int)) < a1), ()) := zw (by kernel_rfl)
theorem uF (s1 : List Int) (s2 : Int) (s3 : Int) (s4 : zG) : Zt (s1, s2, s3, s4, ()) =
 bif decide (s3 < s2) then
  (idx s1 s3).bind fun x1 =>
  (zcy x1 s4).bind fun y2 =>
  bif y2.1 then
   some (.ret (s3, ()))
  else
   some (.again (s1, s2, w64 (s3 + 1), s4, ()))
 else
  some (.brk (())) := by kernel_rfl
theorem Vx (a1 : List Int) (a2 : zG) : Yk a1 a2 =
 (yf Zt (a1, (a1.length : Int), 0, a2, ())).bind fun st => match st with
   | .again _ => none
   | .brk y1 =>
   some (-1, ())
   | .ret y1 =>
   some (y1.1, ()) := zw (by kernel_rfl)
theorem WA (a1 : List Int) (a2 : zG) : wO a1 a2 =
 (Yk a1 a2).bind fun y1 =>
 some (decide (0 ≤ y1.1), ()) := zw (by kernel_rfl)
theorem zgT (a1 : List Int) (a2 : zG) : zd6 a1 a2 =
 bif !(decide (((a1.length : Int)) = a2.Slots)) then
  some (true, ())
 else
  (wO a1 a2).bind fun y1 =>
  some (y1.1, ()) := zw (by kernel_rfl)
theorem vV (s1 : List (List Int)) (s2 : Int) (s3 : Int) (s4 : zG) : uT (s1, s2, s3, s4, ()) =
 bif decide (s3 < s2) then
  (idx s1 s3).bind fun x1 =>
  (zd6 x1 s4).bind fun y2 =>
  bif y2.1 then
   some (.ret (s3, ()))
  else
   some (.again (s1, s2, w64 (s3 + 1), s4, ()))
 else
  some (.brk (())) := by kernel_rfl
theorem WP (a1 : List (List Int)) (a2 : zG) : ZV a1 a2 =
 (yf uT (a1, (a1.length : Int), 0, a2, ())).bind fun st => match st with
   | .again _ => none
   | .brk y1 =>
   some (-1, ())
   | .ret y1 =>
   some (y1.1, ()) := zw (by kernel_rfl)
theorem XL (a1 : List (List Int)) (a2 : zG) : wq a1 a2 =
 (ZV a1 a2).bind fun y1 =>
 some (decide (0 ≤ y1.1), ()) := zw (by kernel_rfl)
theorem zic (a1 : zG) : zcF a1 =
 bif decide (1 ≤ a1.Slots) then
  bif decide (a1.Slots ≤ 4) then
   bif decide (((a1.Objs.length : Int)) ≤ 64) then
    (wq a1.Objs a1).bind fun y1 =>
    some (!y1.1, ())
   else
    some (false, ())
  else
   some (false, ())
 else
  some (false, ()) := zw (by kernel_rfl)
theorem zjO (a1 : BitVec 64) (a2 : BitVec 64) : zhh a1 a2 =
 some (decide ((a1 &&& ~~~a2) = 0#64), ()) := zw (by kernel_rfl)
theorem zkr (a1 : Int) : zdX a1 =
 bif decide (a1 < 1) then
  some (0#64, ())
 else
  bif decide ((w64 (64 - (bif decide (64 < a1) then 64 else a1))) < 0) then
   none
  else
   some (18446744073709551615#64 >>> min (w64 (64 - (bif decide (64 < a1) then 64 else a1))).toNat 64, ()) := zw (by kernel_rfl)
theorem zg1 (a1 : Int) (a2 : Int) : zej a1 a2 =
 (xP a1 0 a2).bind fun y1 =>
 some (!y1.1, ()) := zw (by kernel_rfl)
theorem vN (s1 : List Int) (s2 : Int) (s3 : Int) (s4 : Int) : uG (s1, s2, s3, s4, ()) =
 bif decide (s3 < s2) then
  (idx s1 s3).bind fun x1 =>
  (zej x1 s4).bind fun y2 =>
  bif y2.1 then
   some (.ret (s3, ()))
  else
   some (.again (s1, s2, w64 (s3 + 1), s4, ()))
 else
  some (.brk (())) := by kernel_rfl
theorem Wq (a1 : List Int) (a2 : Int) : Zw a1 a2 =
 (yf uG (a1, (a1.length : Int), 0, a2, ())).bind fun st => match st with
   | .again _ => none
   | .brk y1 =>
   some (-1, ())
   | .ret y1 =>
   some (y1.1, ()) := zw (by kernel_rfl)
theorem Xd (a1 : List Int) (a2 : Int) : wj a1 a2 =
 (Zw a1 a2).bind fun y1 =>
 some (decide (0 ≤ y1.1), ()) := zw (by kernel_rfl)
theorem zgU (a1 : Int) (a2 : Int) : zM a1 a2 =
 bif decide (0 ≤ a1) then
  some (decide (a1 < (bif decide (4 < a2) then 4 else a2)), ())
 else
  some (false, ()) := zw (by kernel_rfl)
theorem ziz (a1 : zj) (a2 : Int) (a3 : Int) : zcG a1 a2 a3 =
 bif decide (0 ≤ a1.S) then
  bif decide (a1.Kind = 1) then
   bif decide (a1.Kind = 1) then
    (zM a1.R a2).bind fun y1 =>
    bif y1.1 then
     (zM a1.A a2).bind fun y2 =>
     bif y2.1 then
      some (decide (a1.S < (bif decide (4 < a3) then 4 else a3)), ())
     else
      some (false, ())
    else
     some (false, ())
   else
    bif decide (a1.Kind = 4) then
     (zM a1.R a2).bind fun y3 =>
     bif y3.1 then
      (zM a1.A a2).bind fun y4 =>
      bif y4.1 then
       some (decide (a1.S = 0), ())
      else
       some (false, ())
     else
      some (false, ())
    else
     bif decide (a1.Kind = 3) then
      bif decide (a1.Kind = 3) then
       (zM a1.R a2).bind fun y5 =>
       bif y5.1 then
        bif decide (a1.A = 0) then
         some (decide (a1.S = 0), ())
        else
         some (false, ())
       else
        some (false, ())
      else
       some (false, ())
     else
      bif decide (a1.Kind = 5) then
       (zM a1.R a2).bind fun y6 =>
       bif y6.1 then
        bif decide (a1.A = 0) then
         some (decide (a1.S = 0), ())
        else
         some (false, ())
       else
        some (false, ())
      else
       some (false, ())
  else
   bif decide (a1.Kind = 2) then
    (zM a1.R a2).bind fun y7 =>
    bif y7.1 then
     (zM a1.A a2).bind fun y8 =>
     bif y8.1 then
      some (decide (a1.S < (bif decide (4 < a3) then 4 else a3)), ())
     else
      some (false, ())
    else
     some (false, ())
   else
    bif decide (a1.Kind = 4) then
     (zM a1.R a2).bind fun y9 =>
     bif y9.1 then
      (zM a1.A a2).bind fun y10 =>
      bif y10.1 then
       some (decide (a1.S = 0), ())
      else
       some (false, ())
     else
      some (false, ())
    else
     bif decide (a1.Kind = 3) then
      bif decide (a1.Kind = 3) then
       (zM a1.R a2).bind fun y11 =>
       bif y11.1 then
        bif decide (a1.A = 0) then
         some (decide (a1.S = 0), ())
        else
         some (false, ())
       else
        some (false, ())
      else
       some (false, ())
     else
      bif decide (a1.Kind = 5) then
       (zM a1.R a2).bind fun y12 =>
       bif y12.1 then
        bif decide (a1.A = 0) then
         some (decide (a1.S = 0), ())
        else
         some (false, ())
       else
        some (false, ())
      else
       some (false, ())
 else
  bif decide (a1.Kind = 1) then
   bif decide (a1.Kind = 1) then
    (zM a1.R a2).bind fun y13 =>
    bif y13.1 then
     (zM a1.A a2).bind fun y14 =>
     bif y14.1 then
      some (false, ())
     else
      some (false, ())
    else
     some (false, ())
   else
    bif decide (a1.Kind = 4) then
     (zM a1.R a2).bind fun y15 =>
     bif y15.1 then
      (zM a1.A a2).bind fun y16 =>
      bif y16.1 then
       some (decide (a1.S = 0), ())
      else
       some (false, ())
     else
      some (false, ())
    else
     bif decide (a1.Kind = 3) then
      bif decide (a1.Kind = 3) then
       (zM a1.R a2).bind fun y17 =>
       bif y17.1 then
        bif decide (a1.A = 0) then
         some (decide (a1.S = 0), ())
        else
         some (false, ())
       else
        some (false, ())
      else
       some (false, ())
     else
      bif decide (a1.Kind = 5) then
       (zM a1.R a2).bind fun y18 =>
       bif y18.1 then
        bif decide (a1.A = 0) then
         some (decide (a1.S = 0), ())
        else
         some (false, ())
       else
        some (false, ())
      else
       some (false, ())
  else
   bif decide (a1.Kind = 2) then
    (zM a1.R a2).bind fun y19 =>
    bif y19.1 then
     (zM a1.A a2).bind fun y20 =>
     bif y20.1 then
      some (false, ())
     else
      some (false, ())
    else
     some (false, ())
   else
    bif decide (a1.Kind = 4) then
     (zM a1.R a2).bind fun y21 =>
     bif y21.1 then
      (zM a1.A a2).bind fun y22 =>
      bif y22.1 then
       some (decide (a1.S = 0), ())
      else
       some (false, ())
     else
      some (false, ())
    else
     bif decide (a1.Kind = 3) then
      bif decide (a1.Kind = 3) then
       (zM a1.R a2).bind fun y23 =>
       bif y23.1 then
        bif decide (a1.A = 0) then
         some (decide (a1.S = 0), ())
        else
         some (false, ())
       else
        some (false, ())
      else
       some (false, ())
     else
      bif decide (a1.Kind = 5) then
       (zM a1.R a2).bind fun y24 =>
       bif y24.1 then
        bif decide (a1.A = 0) then
         some (decide (a1.S = 0), ())
        else
         some (false, ())
       else
        some (false, ())
      else
       some (false, ()) := zw (by kernel_rfl)
theorem zhn (a1 : zj) (a2 : Int) (a3 : Int) : zfv a1 a2 a3 =
 (zcG a1 a2 a3).bind fun y1 =>
 some (!y1.1, ()) := zw (by kernel_rfl)
theorem wN (s1 : List zj) (s2 : Int) (s3 : Int) (s4 : Int) (s5 : Int) : vm (s1, s2, s3, s4, s5, ()) =
 bif decide (s3 < s2) then
  (idx s1 s3).bind fun x1 =>
  (zfv x1 s4 s5).bind fun y2 =>
  bif y2.1 then
   some (.ret (s3, ()))
  else
   some (.again (s1, s2, w64 (s3 + 1), s4, s5, ()))
 else
  some (.brk (())) := by kernel_rfl
theorem YX (a1 : List zj) (a2 : Int) (a3 : Int) : vW a1 a2 a3 =
 (yf vm (a1, (a1.length : Int), 0, a2, a3, ())).bind fun st => match st with
   | .again _ => none
   | .brk y1 =>
   some (-1, ())
   | .ret y1 =>
   some (y1.1, ()) := zw (by kernel_rfl)
theorem Yg (a1 : List zj) (a2 : Int) (a3 : Int) : vn a1 a2 a3 =
 (vW a1 a2 a3).bind fun y1 =>
 some (decide (0 ≤ y1.1), ()) := zw (by kernel_rfl)
theorem zjz (a1 : List zj) (a2 : Int) (a3 : Int) : zdQ a1 a2 a3 =
 bif decide (((a1.length : Int)) ≤ 64) then
  (vn a1 a2 a3).bind fun y1 =>
  some (!y1.1, ())
 else
  some (false, ()) := zw (by kernel_rfl)
theorem zrl (a1 : zk) : zgc a1 =
 bif decide (a1.Kind = 0) then
  some (decide (a1.N = 0), ())
 else
  bif decide (a1.Kind = 1) then
   bif decide (1 ≤ a1.N) then
    some (decide (a1.N ≤ 16), ())
   else
    some (false, ())
  else
   bif decide (a1.Kind = 2) then
    bif decide (1 ≤ a1.N) then
     some (decide (a1.N ≤ 16), ())
    else
     some (false, ())
   else
    some (false, ()) := zw (by kernel_rfl)
theorem zqh (a1 : zk) (a2 : Int) (a3 : Int) : zem a1 a2 a3 =
 (zgc a1).bind fun y1 =>
 bif !y1.1 then
  some (true, ())
 else
  bif decide (a1.Kind = 1) then
   some (decide (a2 < a1.N), ())
  else
   bif decide (a1.Kind = 2) then
    some (decide (a3 < a1.N), ())
   else
    some (decide (0 < a1.N), ()) := zw (by kernel_rfl)
theorem Zv (s1 : List zk) (s2 : Int) (s3 : Int) (s4 : Int) (s5 : Int) : wv (s1, s2, s3, s4, s5, ()) =
 bif decide (s3 < s2) then
  (idx s1 s3).bind fun x1 =>
  (zem x1 s4 s5).bind fun y2 =>
  bif y2.1 then
   some (.ret (s3, ()))
  else
   some (.again (s1, s2, w64 (s3 + 1), s4, s5, ()))
 else
  some (.brk (())) := by kernel_rfl
theorem Z2 (a1 : List zk) (a2 : Int) (a3 : Int) : vf a1 a2 a3 =
 (yf wv (a1, (a1.length : Int), 0, a2, a3, ())).bind fun st => match st with
   | .again _ => none
   | .brk y1 =>
   some (-1, ())
   | .ret y1 =>
   some (y1.1, ()) := zw (by kernel_rfl)
theorem Zu (a1 : List zk) (a2 : Int) (a3 : Int) : wy a1 a2 a3 =
 (vf a1 a2 a3).bind fun y1 =>
 some (decide (0 ≤ y1.1), ()) := zw (by kernel_rfl)
theorem ziu (a1 : List zk) (a2 : Int) (a3 : Int) : zco a1 a2 a3 =
 (wy a1 a2 a3).bind fun y1 =>
 some (!y1.1, ()) := zw (by kernel_rfl)
theorem zaq (s1 : List (List Int)) (s2 : Int) (s3 : Int) (s4 : zb) (s5 : Int) : zdc (s1, s2, s3, s4, s5, ()) =
 bif decide (s3 < s2) then
  (idx s1 s3).bind fun x1 =>
  (xP ((x1.length : Int)) 1 4).bind fun y2 =>
  bif !y2.1 then
   some (.ret (false, ()))
  else
   (wj x1 s5).bind fun y3 =>
   bif y3.1 then
    some (.ret (false, ()))
   else
    (idx s4.Progs s3).bind fun x4 =>
    (zdQ x4 ((x1.length : Int)) s4.H.Slots).bind fun y5 =>
    bif !y5.1 then
     some (.ret (false, ()))
    else
     some (.again (s1, s2, w64 (s3 + 1), s4, s5, ()))
 else
  some (.brk (s4, ())) := by kernel_rfl
theorem zit (a1 : zb) : zbM a1 =
 (X6 a1).bind fun y1 =>
 bif !y1.1 then
  some (false, ())
 else
  (zcF a1.H).bind fun y2 =>
  bif !y2.1 then
   some (false, ())
  else
   (xP a1.Most ((a1.H.Objs.length : Int)) 64).bind fun y3 =>
   bif !y3.1 then
    some (false, ())
   else
    (zdX ((a1.H.Objs.length : Int))).bind fun y4 =>
    (zhh a1.Roots y4.1).bind fun y5 =>
    bif !y5.1 then
     some (false, ())
    else
     bif !(decide (((a1.Regs.length : Int)) = a1.Mutators)) then
      some (false, ())
     else
      bif !(decide (((a1.Progs.length : Int)) = a1.Mutators)) then
       some (false, ())
      else
       (yf zdc (a1.Regs, (a1.Regs.length : Int), 0, a1, (a1.H.Objs.length : Int), ())).bind fun st => match st with
         | .again _ => none
         | .brk y6 =>
         bif decide (((y6.1.Picks.length : Int)) ≤ 100000) then
          (zco y6.1.Picks y6.1.Workers y6.1.Mutators).bind fun y7 =>
          some (y7.1, ())
         else
          some (false, ())
         | .ret y6 =>
         some (y6.1, ()) := zw (by kernel_rfl)
theorem zlL (a1 : Int) : zdb a1 =
 bif decide (a1 < 1) then
  some (0#64, ())
 else
  bif decide (64 < a1) then
   some (0#64, ())
  else
   bif decide ((w64 (a1 - 1)) < 0) then
    none
   else
    some (1#64 <<< min (w64 (a1 - 1)).toNat 64, ()) := zw (by kernel_rfl)
theorem zmg (a1 : BitVec 64) (a2 : Int) : Xu a1 a2 =
 (zdb a2).bind fun y1 =>
 some (a1 ||| y1.1, ()) := zw (by kernel_rfl)
theorem zj9 (s1 : BitVec 64) (s2 : List Int) (s3 : Int) (s4 : Int) : zd2 (s1, s2, s3, s4, ()) =
 bif decide (s4 < s3) then
  (idx s2 s4).bind fun x1 =>
  (Xu s1 x1).bind fun y2 =>
  some (.again (y2.1, s2, s3, w64 (s4 + 1), ()))
 else
  some (.brk (s1, ())) := by kernel_rfl
theorem znz (a1 : List Int) : zhz a1 =
 (yf zd2 (0#64, a1, (a1.length : Int), 0, ())).bind fun st => match st with
   | .again _ => none
   | .brk y1 =>
   some (y1.1, ())
   | .ret y1 =>
   none := zw (by kernel_rfl)
theorem zf3 (s1 : BitVec 64) (s2 : List (List Int)) (s3 : Int) (s4 : Int) : VO (s1, s2, s3, s4, ()) =
 bif decide (s4 < s3) then
  (idx s2 s4).bind fun x1 =>
  (zhz x1).bind fun y2 =>
  some (.again (s1 ||| y2.1, s2, s3, w64 (s4 + 1), ()))
 else
  some (.brk (s1, ())) := by kernel_rfl
theorem zi7 (a1 : zb) : zcf a1 =
 (yf VO (a1.Roots, a1.Regs, (a1.Regs.length : Int), 0, ())).bind fun st => match st with
   | .again _ => none
   | .brk y1 =>
   some (y1.1, ())
   | .ret y1 =>
   none := zw (by kernel_rfl)
theorem zjj (a1 : Int) : zbZ a1 =
 bif decide ((bif decide ((bif decide (16 < a1) then 16 else a1) < 0) then 0 else (bif decide (16 < a1) then 16 else a1)) = (bif decide ((bif decide (16 < a1) then 16 else a1) < 0) then 0 else (bif decide (16 < a1) then 16 else a1))) then
  (XG (bif decide ((bif decide (16 < a1) then 16 else a1) < 0) then 0 else (bif decide (16 < a1) then 16 else a1))).bind fun n1 =>
  some (zA.mk 0 0 0 (List.replicate n1 ((0 : Int))), ())
 else
  none := zw (by kernel_rfl)
theorem zaX (a1 : List Int) : xU a1 =
 bif a1.isEmpty then
  ze3 (
   some (([] : List Int), ())) (
   (xE (([] : List Int) ++ a1)).bind fun l1 =>
   some (l1, ()))
 else
  (xE (([] : List Int) ++ a1)).bind fun l2 =>
  some (l2, ()) := zw (by kernel_rfl)
theorem zcV (s1 : Int) (s2 : Int) (s3 : List (List Int)) : wU (s1, s2, s3, ()) =
 bif decide (s2 < s1) then
  (xH s3 s2).bind fun n1 =>
  (s3[n1]?).bind fun x2 =>
  (xU x2).bind fun y3 =>
  (xH s3 s2).bind fun n4 =>
  some (.again (s1, w64 (s2 + 1), s3.set n4 y3.1, ()))
 else
  some (.brk (s3, ())) := by kernel_rfl
theorem zeH (a1 : List (List Int)) : X3 a1 =
 bif decide (((a1.length : Int)) = ((a1.length : Int))) then
  (XG ((a1.length : Int))).bind fun n1 =>
  bif decide (a1.length = ((List.replicate n1 ([] : List Int)).length)) then
   bif a1.isEmpty then
    (yf wU (((List.replicate n1 ([] : List Int)).length : Int), 0, List.replicate n1 ([] : List Int), ())).bind fun st => match st with
      | .again _ => none
      | .brk y2 =>
      some (y2.1, ())
      | .ret y2 =>
      none
   else
    (yf wU ((a1.length : Int), 0, a1, ())).bind fun st => match st with
      | .again _ => none
      | .brk y3 =>
      some (y3.1, ())
      | .ret y3 =>
      none
  else
   none
 else
  none := zw (by kernel_rfl)
theorem zhX (a1 : Int) : zaU a1 =
 bif decide ((w64 (2 + (bif decide (64 < (bif decide (a1 < 1) then 1 else a1)) then 64 else (bif decide (a1 < 1) then 1 else a1)))) = (w64 (2 + (bif decide (64 < (bif decide (a1 < 1) then 1 else a1)) then 64 else (bif decide (a1 < 1) then 1 else a1))))) then
  (XG (w64 (2 + (bif decide (64 < (bif decide (a1 < 1) then 1 else a1)) then 64 else (bif decide (a1 < 1) then 1 else a1))))).bind fun n1 =>
  (xH (List.replicate n1 0#64) 0).bind fun n2 =>
  (xH ((List.replicate n1 0#64).set n2 1#64) 1).bind fun n3 =>
  some (((List.replicate n1 0#64).set n2 1#64).set n3 1#64, ())
 else
  none := zw (by kernel_rfl)
theorem zct (a1 : Int) (a2 : Int) (a3 : Int) (a4 : Int) : zaG a1 a2 a3 a4 =
 some (zg.mk a1 0 a2 a3 0#64 0#64 a4 0, ()) := zw (by kernel_rfl)
theorem zhI (a1 : zb) (a2 : Int) : WI a1 a2 =
 some (w64 ((w64 (a2 - 1)) * (w64 (a1.Cap + 2))), ()) := zw (by kernel_rfl)
theorem zkd (a1 : zb) : UT a1 =
 some (w64 ((w64 (a1.Most + a1.Workers)) + a1.Mutators), ()) := zw (by kernel_rfl)
theorem zaQ (a1 : List Int) (a2 : Int) : X1 a1 a2 =
 bif decide (a2 < 1) then
  none
 else
  some (a1, a2, ()) := zw (by kernel_rfl)
theorem zk4 (a1 : BitVec 64) : zji a1 =
 some (a1, ()) := zw (by kernel_rfl)
theorem zhS (y : Int) (s1 : List Int) : zaS y (s1, ()) =
 (xE (s1 ++ ([y] : List Int))).bind fun l1 =>
 some (l1, ()) := by kernel_rfl
theorem zll (a1 : BitVec 64) : ze8 a1 =
 (zji a1).bind fun y1 =>
 (zgh y1.1).bind fun (ys2 : List Int) =>
 (vZ zaS ys2 (([] : List Int), ())).bind fun (y3 : (List Int) × Unit) =>
 some (y3.1, ()) := zw (by kernel_rfl)
theorem zlc (a1 : BitVec 64) : zja a1 =
 some (a1, true, ()) := zw (by kernel_rfl)
theorem zlo (a1 : BitVec 64) (a2 : ve) : ziO a1 a2 =
 some (a2.A, true, ()) := zw (by kernel_rfl)
theorem zle (a1 : BitVec 64) (a2 : ve) : zh5 a1 a2 =
 some (a2.B, decide (a1 = a2.A), ()) := zw (by kernel_rfl)
theorem zr2 (a1 : BitVec 64) (a2 : ve) : ziR a1 a2 =
 some (a1 + a2.A, true, ()) := zw (by kernel_rfl)
theorem WM (a1 : List (BitVec 64)) : yx a1 =
 bif a1.isEmpty then
  ze3 (
   some (([] : List (BitVec 64)), ())) (
   (xE ((([] : List (BitVec 64))) ++ a1)).bind fun l1 =>
   some (l1, ()))
 else
  (xE ((([] : List (BitVec 64))) ++ a1)).bind fun l2 =>
  some (l2, ()) := zw (by kernel_rfl)
theorem zd1 (a1 : List (BitVec 64)) (a2 : ve) : uQ a1 a2 =
 bif decide (a2.Kind = 1) then
  bif decide (a2.At < 0) then
   some (a1, 0#64, false, ())
  else
   bif decide (((a1.length : Int)) ≤ a2.At) then
    some (a1, 0#64, false, ())
   else
    (idx a1 a2.At).bind fun x1 =>
    (zja x1).bind fun y2 =>
    bif y2.2.1 then
     bif !(decide (x1 = y2.1)) then
      (yx a1).bind fun y3 =>
      (xH y3.1 a2.At).bind fun n4 =>
      some (y3.1.set n4 y2.1, x1, y2.2.1, ())
     else
      some (a1, x1, y2.2.1, ())
    else
     some (a1, x1, y2.2.1, ())
 else
  bif decide (a2.Kind = 2) then
   bif decide (a2.At < 0) then
    some (a1, 0#64, false, ())
   else
    bif decide (((a1.length : Int)) ≤ a2.At) then
     some (a1, 0#64, false, ())
    else
     (idx a1 a2.At).bind fun x5 =>
     (ziO x5 a2).bind fun y6 =>
     bif y6.2.1 then
      bif !(decide (x5 = y6.1)) then
       (yx a1).bind fun y7 =>
       (xH y7.1 a2.At).bind fun n8 =>
       some (y7.1.set n8 y6.1, x5, y6.2.1, ())
      else
       some (a1, x5, y6.2.1, ())
     else
      some (a1, x5, y6.2.1, ())
  else
   bif decide (a2.Kind = 3) then
    bif decide (a2.At < 0) then
     some (a1, 0#64, false, ())
    else
     bif decide (((a1.length : Int)) ≤ a2.At) then
      some (a1, 0#64, false, ())
     else
      (idx a1 a2.At).bind fun x9 =>
      (zh5 x9 a2).bind fun y10 =>
      bif y10.2.1 then
       bif !(decide (x9 = y10.1)) then
        (yx a1).bind fun y11 =>
        (xH y11.1 a2.At).bind fun n12 =>
        some (y11.1.set n12 y10.1, x9, y10.2.1, ())
       else
        some (a1, x9, y10.2.1, ())
      else
       some (a1, x9, y10.2.1, ())
   else
    bif decide (a2.Kind = 4) then
     bif decide (a2.At < 0) then
      some (a1, 0#64, false, ())
     else
      bif decide (((a1.length : Int)) ≤ a2.At) then
       some (a1, 0#64, false, ())
      else
       (idx a1 a2.At).bind fun x13 =>
       (ziR x13 a2).bind fun y14 =>
       bif y14.2.1 then
        bif !(decide (x13 = y14.1)) then
         (yx a1).bind fun y15 =>
         (xH y15.1 a2.At).bind fun n16 =>
         some (y15.1.set n16 y14.1, x13, y14.2.1, ())
        else
         some (a1, x13, y14.2.1, ())
       else
        some (a1, x13, y14.2.1, ())
    else
     bif decide (a2.At < 0) then
      some (a1, 0#64, false, ())
     else
      bif decide (((a1.length : Int)) ≤ a2.At) then
       some (a1, 0#64, false, ())
      else
       some (a1, 0#64, false, ()) := zw (by kernel_rfl)
theorem zhU (a1 : List (BitVec 64)) (a2 : Int) (a3 : BitVec 64) : v9 a1 a2 a3 =
 (uQ a1 (ve.mk 2 a2 a3 0#64)).bind fun y1 =>
 some (y1.1, ()) := zw (by kernel_rfl)
theorem zjf (a1 : BitVec 64) (a2 : Int) : Z1 a1 a2 =
 some ((a1 <<< 32) ||| ((BitVec.ofInt 64 a2) &&& 4294967295#64), ()) := zw (by kernel_rfl)
theorem za1 (s1 : List (BitVec 64)) (s2 : Int) (s3 : Int) (s4 : List Int) (s5 : Int) (s6 : Int) : Uj (s1, s2, s3, s4, s5, s6, ()) =
 bif decide (s6 < s5) then
  bif decide ((w64 (s6 + 1)) < ((s4.length : Int))) then
   (idx s4 (w64 (s6 + 1))).bind fun x1 =>
   (idx s4 s6).bind fun x2 =>
   (v9 s1 (w64 (s3 + x2)) (BitVec.ofInt 64 x1)).bind fun y3 =>
   some (.again (y3.1, s2, s3, s4, s5, w64 (s6 + 1), ()))
  else
   (idx s4 s6).bind fun x4 =>
   (v9 s1 (w64 (s3 + x4)) 0#64).bind fun y5 =>
   some (.again (y5.1, s2, s3, s4, s5, w64 (s6 + 1), ()))
 else
  some (.brk (s1, s2, s4, ())) := by kernel_rfl
theorem zjZ (a1 : List (BitVec 64)) (a2 : Int) (a3 : Int) (a4 : List Int) : UU a1 a2 a3 a4 =
 (yf Uj (a1, a2, a3, a4, (a4.length : Int), 0, ())).bind fun st => match st with
   | .again _ => none
   | .brk y1 =>
   bif decide (0 < ((y1.2.2.1.length : Int))) then
    (idx y1.2.2.1 0).bind fun x2 =>
    (Z1 0#64 x2).bind fun y3 =>
    (v9 y1.1 y1.2.1 y3.1).bind fun y4 =>
    some (y4.1, ())
   else
    (Z1 0#64 0).bind fun y5 =>
    (v9 y1.1 y1.2.1 y5.1).bind fun y6 =>
    some (y6.1, ())
   | .ret y1 =>
   none := zw (by kernel_rfl)
end Go.Pe.G
namespace Go.Pe.G
open Go.Pe
theorem zgO (s1 : BitVec 64) (s2 : Int) (s3 : Int) (s4 : zb) (s5 : Int) (s6 : Int) (s7 : Int) (s8 : Int) (s9 : Int) (s10 : Int) (s11 : Int) (s12 : Int) (s13 : Int) (s14 : BitVec 64) (s15 : Int) (s16 : zo) (s17 : Int) (s18 : Int) (s19 : Bool) (s20 : Bool) (s21 : Int) (s22 : Int) (s23 : Int) (s24 : Int) (s25 : zn) (s26 : zb) (s27 : Int) (s28 : zo) (s29 : Int) (s30 : Int) (s31 : Bool) (s32 : Bool) (s33 : Int) (s34 : zA) (s35 : zn) (s36 : List (List Int)) (s37 : List (List Int)) (s38 : List (List zj)) (s39 : List zk) (s40 : List (List Int)) (s41 : List (BitVec 64)) (s42 : List (List Int)) (s43 : List Int) (s44 : List Int) (s45 : List zi) (s46 : List ze) (s47 : List (List Int)) (s48 : List (BitVec 64)) (s49 : List (List Int)) (s50 : List Int) (s51 : List zi) (s52 : List ze) : XN (s1, s2, s3, s4, s5, s6, s7, s8, s9, s10, s11, s12, s13, s14, s15, s16, s17, s18, s19, s20, s21, s22, s23, s24, s25, s26, s27, s28, s29, s30, s31, s32, s33, s34, s35, s36, s37, s38, s39, s40, s41, s42, s43, s44, s45, s46, s47, s48, s49, s50, s51, s52, ()) =
 bif decide (s3 < s2) then
  (zaU s4.Cap).bind fun y1 =>
  (xE (s48 ++ y1.1)).bind fun l2 =>
  (WI s4 (w64 (s3 + 1))).bind fun y3 =>
  (zaG 2 y3.1 s4.Cap 0).bind fun y4 =>
  (xE (s51 ++ (([(zi.mk 0 0 0 (w64 (s3 + 1)) 0 (([] : List Int)) y4.1 (zp.mk 0 0 0 0 0#64 0 0 0) (zd.mk 0 0 0 0 (zg.mk 0 0 0 0 0#64 0#64 0 0) (zp.mk 0 0 0 0 0#64 0 0 0) 0 0))] : List zi)))).bind fun l5 =>
  some (.again (s1, s2, w64 (s3 + 1), s4, s5, s6, s7, s8, s9, s10, s11, s12, s13, s14, s15, s16, s17, s18, s19, s20, s21, s22, s23, s24, s25, s26, s27, s28, s29, s30, s31, s32, s33, s34, s35, s36, s37, s38, s39, s40, s41, s42, s43, s44, s45, s46, s47, l2, s49, s50, l5, s52, ()))
 else
  some (.brk (s1, s4, s5, s6, s7, s8, s9, s10, s11, s12, s13, s14, s15, s16, s17, s18, s19, s20, s21, s22, s23, s24, s25, s26, s27, s28, s29, s30, s31, s32, s33, s34, s35, s36, s37, s38, s39, s40, s41, s42, s43, s44, s45, s46, s47, s48, s49, s50, s51, s52, ())) := by kernel_rfl
theorem zgg (s1 : BitVec 64) (s2 : Int) (s3 : Int) (s4 : zb) (s5 : Int) (s6 : Int) (s7 : Int) (s8 : Int) (s9 : Int) (s10 : Int) (s11 : Int) (s12 : Int) (s13 : Int) (s14 : BitVec 64) (s15 : Int) (s16 : zo) (s17 : Int) (s18 : Int) (s19 : Bool) (s20 : Bool) (s21 : Int) (s22 : Int) (s23 : Int) (s24 : Int) (s25 : zn) (s26 : zb) (s27 : Int) (s28 : zo) (s29 : Int) (s30 : Int) (s31 : Bool) (s32 : Bool) (s33 : Int) (s34 : zA) (s35 : zn) (s36 : List Int) (s37 : List (List Int)) (s38 : List (List Int)) (s39 : List (List zj)) (s40 : List zk) (s41 : List (List Int)) (s42 : List (BitVec 64)) (s43 : List (List Int)) (s44 : List Int) (s45 : List Int) (s46 : List zi) (s47 : List ze) (s48 : List (List Int)) (s49 : List (BitVec 64)) (s50 : List (List Int)) (s51 : List Int) (s52 : List zi) (s53 : List ze) : Xc (s1, s2, s3, s4, s5, s6, s7, s8, s9, s10, s11, s12, s13, s14, s15, s16, s17, s18, s19, s20, s21, s22, s23, s24, s25, s26, s27, s28, s29, s30, s31, s32, s33, s34, s35, s36, s37, s38, s39, s40, s41, s42, s43, s44, s45, s46, s47, s48, s49, s50, s51, s52, s53, ()) =
 bif decide (s3 < s2) then
  (xE (s36 ++ (([(w64 (s3 + 1))] : List Int)))).bind fun l1 =>
  some (.again (s1, s2, w64 (s3 + 1), s4, s5, s6, s7, s8, s9, s10, s11, s12, s13, s14, s15, s16, s17, s18, s19, s20, s21, s22, s23, s24, s25, s26, s27, s28, s29, s30, s31, s32, s33, s34, s35, l1, s37, s38, s39, s40, s41, s42, s43, s44, s45, s46, s47, s48, s49, s50, s51, s52, s53, ()))
 else
  some (.brk (s1, s4, s5, s6, s7, s8, s9, s10, s11, s12, s13, s14, s15, s16, s17, s18, s19, s20, s21, s22, s23, s24, s25, s26, s27, s28, s29, s30, s31, s32, s33, s34, s35, s36, s37, s38, s39, s40, s41, s42, s43, s44, s45, s46, s47, s48, s49, s50, s51, s52, s53, ())) := by kernel_rfl
theorem zgk (y : List Int) (s1 : zb) (s2 : Int) (s3 : Int) (s4 : Int) (s5 : Int) (s6 : Int) (s7 : Int) (s8 : Int) (s9 : Int) (s10 : Int) (s11 : BitVec 64) (s12 : Int) (s13 : zo) (s14 : Int) (s15 : Int) (s16 : Bool) (s17 : Bool) (s18 : Int) (s19 : Int) (s20 : Int) (s21 : Int) (s22 : zn) (s23 : zb) (s24 : Int) (s25 : zo) (s26 : Int) (s27 : Int) (s28 : Bool) (s29 : Bool) (s30 : Int) (s31 : zA) (s32 : zn) (s33 : List Int) (s34 : List (List Int)) (s35 : List (List Int)) (s36 : List (List zj)) (s37 : List zk) (s38 : List (List Int)) (s39 : List (BitVec 64)) (s40 : List (List Int)) (s41 : List Int) (s42 : List Int) (s43 : List zi) (s44 : List ze) (s45 : List (List Int)) (s46 : List (BitVec 64)) (s47 : List (List Int)) (s48 : List Int) (s49 : List zi) (s50 : List ze) : VK y (s1, s2, s3, s4, s5, s6, s7, s8, s9, s10, s11, s12, s13, s14, s15, s16, s17, s18, s19, s20, s21, s22, s23, s24, s25, s26, s27, s28, s29, s30, s31, s32, s33, s34, s35, s36, s37, s38, s39, s40, s41, s42, s43, s44, s45, s46, s47, s48, s49, s50, ()) =
 (xU y).bind fun y1 =>
 (xE (s47 ++ (([y1.1] : List (List Int))))).bind fun l2 =>
 some (s1, s2, s3, s4, s5, s6, s7, s8, s9, s10, s11, s12, s13, s14, s15, s16, s17, s18, s19, s20, s21, s22, s23, s24, s25, s26, s27, s28, s29, s30, s31, s32, s33, s34, s35, s36, s37, s38, s39, s40, s41, s42, s43, s44, s45, s46, l2, s48, s49, s50, ()) := by kernel_rfl
theorem zfM (s1 : List (List Int)) (s2 : Int) (s3 : Int) (s4 : Int) (s5 : Int) (s6 : Int) (s7 : Int) (s8 : Int) (s9 : Int) (s10 : Int) (s11 : Int) (s12 : Int) (s13 : BitVec 64) (s14 : Int) (s15 : zo) (s16 : Int) (s17 : Int) (s18 : Bool) (s19 : Bool) (s20 : Int) (s21 : Int) (s22 : Int) (s23 : Int) (s24 : zn) (s25 : zb) (s26 : Int) (s27 : List (BitVec 64)) (s28 : zo) (s29 : Int) (s30 : Int) (s31 : Bool) (s32 : Bool) (s33 : Int) (s34 : zA) (s35 : zn) (s36 : List (List Int)) (s37 : List (List Int)) (s38 : List (List zj)) (s39 : List zk) (s40 : List (List Int)) (s41 : List (BitVec 64)) (s42 : List (List Int)) (s43 : List Int) (s44 : List Int) (s45 : List zi) (s46 : List ze) (s47 : List (List Int)) (s48 : List (List Int)) (s49 : List Int) (s50 : List zi) (s51 : List ze) : Y5 (s1, s2, s3, s4, s5, s6, s7, s8, s9, s10, s11, s12, s13, s14, s15, s16, s17, s18, s19, s20, s21, s22, s23, s24, s25, s26, s27, s28, s29, s30, s31, s32, s33, s34, s35, s36, s37, s38, s39, s40, s41, s42, s43, s44, s45, s46, s47, s48, s49, s50, s51, ()) =
 bif decide (s3 < s2) then
  (idx s1 s3).bind fun x1 =>
  (xU x1).bind fun y2 =>
  (xE (s51 ++ (([(ze.mk 0 0 0 0 0 0 0 0 y2.1 (([] : List Int)) (([] : List Int)) (zp.mk 0 0 0 0 0#64 0 0 0) (zd.mk 0 0 0 0 (zg.mk 0 0 0 0 0#64 0#64 0 0) (zp.mk 0 0 0 0 0#64 0 0 0) 0 0))] : List ze)))).bind fun l3 =>
  some (.again (s1, s2, w64 (s3 + 1), s4, s5, s6, s7, s8, s9, s10, s11, s12, s13, s14, s15, s16, s17, s18, s19, s20, s21, s22, s23, s24, s25, s26, s27, s28, s29, s30, s31, s32, s33, s34, s35, s36, s37, s38, s39, s40, s41, s42, s43, s44, s45, s46, s47, s48, s49, s50, l3, ()))
 else
  some (.brk (s4, s5, s6, s7, s8, s9, s10, s11, s12, s13, s14, s15, s16, s17, s18, s19, s20, s21, s22, s23, s24, s25, s26, s27, s28, s29, s30, s31, s32, s33, s34, s35, s36, s37, s38, s39, s40, s41, s42, s43, s44, s45, s46, s47, s48, s49, s50, s51, ())) := by kernel_rfl
theorem zjM (a1 : zb) : WB a1 =
 (zbM a1).bind fun y1 =>
 bif !y1.1 then
  some (za.mk (zb.mk 0 0 0 0 0 0 0 0 (zG.mk 0 (([] : List (List Int)))) 0#64 (([] : List (List Int))) (([] : List (List zj))) (([] : List zk))) (zG.mk 0 (([] : List (List Int)))) (([] : List (BitVec 64))) (([] : List (List Int))) (zo.mk 0#64 0#64) 0 0 false false 0 (([] : List Int)) (zA.mk 0 0 0 (([] : List Int))) (([] : List zi)) (([] : List ze)) (zn.mk 0 0), ())
 else
  (zcf a1).bind fun y2 =>
  (UV y2.1).bind fun y3 =>
  (zbZ a1.Mutators).bind fun y4 =>
  (X3 a1.H.Objs).bind fun y5 =>
  (yf XN (y2.1, a1.Workers, 0, a1, 0, 0, 0, 0, 0, 0, 0, 0, 0, 0#64, 0, zo.mk 0#64 0#64, 0, 0, false, false, 0, 0, 0, 0, zn.mk 0 0, a1, a1.H.Slots, zo.mk y2.1 0#64, y3.1, 0, false, false, 0, y4.1, zn.mk 0 0, ([] : List (List Int)), ([] : List (List Int)), ([] : List (List zj)), ([] : List zk), ([] : List (List Int)), ([] : List (BitVec 64)), ([] : List (List Int)), ([] : List Int), ([] : List Int), ([] : List zi), ([] : List ze), y5.1, ([] : List (BitVec 64)), ([([] : List Int)] : List (List Int)), ([] : List Int), ([] : List zi), ([] : List ze), ())).bind fun st => match st with
    | .again _ => none
    | .brk y6 =>
    (UT y6.2.1).bind fun y7 =>
    (zao (w64 (2 + y7.1))).bind fun n8 =>
    (xE (y6.2.2.2.2.2.2.2.2.2.2.2.2.2.2.2.2.2.2.2.2.2.2.2.2.2.2.2.2.2.2.2.2.2.2.2.2.2.2.2.2.2.2.2.2.2.1 ++ (List.replicate n8 0#64))).bind fun l9 =>
    (UT y6.2.1).bind fun y10 =>
    (yf Xc (y6.1, y10.1, 0, y6.2.1, y6.2.2.1, y6.2.2.2.1, y6.2.2.2.2.1, y6.2.2.2.2.2.1, y6.2.2.2.2.2.2.1, y6.2.2.2.2.2.2.2.1, y6.2.2.2.2.2.2.2.2.1, y6.2.2.2.2.2.2.2.2.2.1, y6.2.2.2.2.2.2.2.2.2.2.1, y6.2.2.2.2.2.2.2.2.2.2.2.1, y6.2.2.2.2.2.2.2.2.2.2.2.2.1, y6.2.2.2.2.2.2.2.2.2.2.2.2.2.1, y6.2.2.2.2.2.2.2.2.2.2.2.2.2.2.1, y6.2.2.2.2.2.2.2.2.2.2.2.2.2.2.2.1, y6.2.2.2.2.2.2.2.2.2.2.2.2.2.2.2.2.1, y6.2.2.2.2.2.2.2.2.2.2.2.2.2.2.2.2.2.1, y6.2.2.2.2.2.2.2.2.2.2.2.2.2.2.2.2.2.2.1, y6.2.2.2.2.2.2.2.2.2.2.2.2.2.2.2.2.2.2.2.1, y6.2.2.2.2.2.2.2.2.2.2.2.2.2.2.2.2.2.2.2.2.1, y6.2.2.2.2.2.2.2.2.2.2.2.2.2.2.2.2.2.2.2.2.2.1, y6.2.2.2.2.2.2.2.2.2.2.2.2.2.2.2.2.2.2.2.2.2.2.1, y6.2.2.2.2.2.2.2.2.2.2.2.2.2.2.2.2.2.2.2.2.2.2.2.1, y6.2.2.2.2.2.2.2.2.2.2.2.2.2.2.2.2.2.2.2.2.2.2.2.2.1, y6.2.2.2.2.2.2.2.2.2.2.2.2.2.2.2.2.2.2.2.2.2.2.2.2.2.1, y6.2.2.2.2.2.2.2.2.2.2.2.2.2.2.2.2.2.2.2.2.2.2.2.2.2.2.1, y6.2.2.2.2.2.2.2.2.2.2.2.2.2.2.2.2.2.2.2.2.2.2.2.2.2.2.2.1, y6.2.2.2.2.2.2.2.2.2.2.2.2.2.2.2.2.2.2.2.2.2.2.2.2.2.2.2.2.1, y6.2.2.2.2.2.2.2.2.2.2.2.2.2.2.2.2.2.2.2.2.2.2.2.2.2.2.2.2.2.1, y6.2.2.2.2.2.2.2.2.2.2.2.2.2.2.2.2.2.2.2.2.2.2.2.2.2.2.2.2.2.2.1, y6.2.2.2.2.2.2.2.2.2.2.2.2.2.2.2.2.2.2.2.2.2.2.2.2.2.2.2.2.2.2.2.1, y6.2.2.2.2.2.2.2.2.2.2.2.2.2.2.2.2.2.2.2.2.2.2.2.2.2.2.2.2.2.2.2.2.1, ([] : List Int), y6.2.2.2.2.2.2.2.2.2.2.2.2.2.2.2.2.2.2.2.2.2.2.2.2.2.2.2.2.2.2.2.2.2.1, y6.2.2.2.2.2.2.2.2.2.2.2.2.2.2.2.2.2.2.2.2.2.2.2.2.2.2.2.2.2.2.2.2.2.2.1, y6.2.2.2.2.2.2.2.2.2.2.2.2.2.2.2.2.2.2.2.2.2.2.2.2.2.2.2.2.2.2.2.2.2.2.2.1, y6.2.2.2.2.2.2.2.2.2.2.2.2.2.2.2.2.2.2.2.2.2.2.2.2.2.2.2.2.2.2.2.2.2.2.2.2.1, y6.2.2.2.2.2.2.2.2.2.2.2.2.2.2.2.2.2.2.2.2.2.2.2.2.2.2.2.2.2.2.2.2.2.2.2.2.2.1, y6.2.2.2.2.2.2.2.2.2.2.2.2.2.2.2.2.2.2.2.2.2.2.2.2.2.2.2.2.2.2.2.2.2.2.2.2.2.2.1, y6.2.2.2.2.2.2.2.2.2.2.2.2.2.2.2.2.2.2.2.2.2.2.2.2.2.2.2.2.2.2.2.2.2.2.2.2.2.2.2.1, y6.2.2.2.2.2.2.2.2.2.2.2.2.2.2.2.2.2.2.2.2.2.2.2.2.2.2.2.2.2.2.2.2.2.2.2.2.2.2.2.2.1, y6.2.2.2.2.2.2.2.2.2.2.2.2.2.2.2.2.2.2.2.2.2.2.2.2.2.2.2.2.2.2.2.2.2.2.2.2.2.2.2.2.2.1, y6.2.2.2.2.2.2.2.2.2.2.2.2.2.2.2.2.2.2.2.2.2.2.2.2.2.2.2.2.2.2.2.2.2.2.2.2.2.2.2.2.2.2.1, y6.2.2.2.2.2.2.2.2.2.2.2.2.2.2.2.2.2.2.2.2.2.2.2.2.2.2.2.2.2.2.2.2.2.2.2.2.2.2.2.2.2.2.2.1, y6.2.2.2.2.2.2.2.2.2.2.2.2.2.2.2.2.2.2.2.2.2.2.2.2.2.2.2.2.2.2.2.2.2.2.2.2.2.2.2.2.2.2.2.2.1, l9, y6.2.2.2.2.2.2.2.2.2.2.2.2.2.2.2.2.2.2.2.2.2.2.2.2.2.2.2.2.2.2.2.2.2.2.2.2.2.2.2.2.2.2.2.2.2.2.1, y6.2.2.2.2.2.2.2.2.2.2.2.2.2.2.2.2.2.2.2.2.2.2.2.2.2.2.2.2.2.2.2.2.2.2.2.2.2.2.2.2.2.2.2.2.2.2.2.1, y6.2.2.2.2.2.2.2.2.2.2.2.2.2.2.2.2.2.2.2.2.2.2.2.2.2.2.2.2.2.2.2.2.2.2.2.2.2.2.2.2.2.2.2.2.2.2.2.2.1, y6.2.2.2.2.2.2.2.2.2.2.2.2.2.2.2.2.2.2.2.2.2.2.2.2.2.2.2.2.2.2.2.2.2.2.2.2.2.2.2.2.2.2.2.2.2.2.2.2.2.1, ())).bind fun st => match st with
      | .again _ => none
      | .brk y11 =>
      (ze8 y11.1).bind fun y12 =>
      (X1 y12.1 y11.2.1.Bin).bind fun y13 =>
      (YF y13.1 y13.2.1).bind fun (ys14 : List (List Int)) =>
      (vZ VK ys14 (y11.2.1, y11.2.2.1, y11.2.2.2.1, y11.2.2.2.2.1, y11.2.2.2.2.2.1, y11.2.2.2.2.2.2.1, y11.2.2.2.2.2.2.2.1, y11.2.2.2.2.2.2.2.2.1, y11.2.2.2.2.2.2.2.2.2.1, y11.2.2.2.2.2.2.2.2.2.2.1, y11.2.2.2.2.2.2.2.2.2.2.2.1, y11.2.2.2.2.2.2.2.2.2.2.2.2.1, y11.2.2.2.2.2.2.2.2.2.2.2.2.2.1, y11.2.2.2.2.2.2.2.2.2.2.2.2.2.2.1, y11.2.2.2.2.2.2.2.2.2.2.2.2.2.2.2.1, y11.2.2.2.2.2.2.2.2.2.2.2.2.2.2.2.2.1, y11.2.2.2.2.2.2.2.2.2.2.2.2.2.2.2.2.2.1, y11.2.2.2.2.2.2.2.2.2.2.2.2.2.2.2.2.2.2.1, y11.2.2.2.2.2.2.2.2.2.2.2.2.2.2.2.2.2.2.2.1, y11.2.2.2.2.2.2.2.2.2.2.2.2.2.2.2.2.2.2.2.2.1, y11.2.2.2.2.2.2.2.2.2.2.2.2.2.2.2.2.2.2.2.2.2.1, y11.2.2.2.2.2.2.2.2.2.2.2.2.2.2.2.2.2.2.2.2.2.2.1, y11.2.2.2.2.2.2.2.2.2.2.2.2.2.2.2.2.2.2.2.2.2.2.2.1, y11.2.2.2.2.2.2.2.2.2.2.2.2.2.2.2.2.2.2.2.2.2.2.2.2.1, y11.2.2.2.2.2.2.2.2.2.2.2.2.2.2.2.2.2.2.2.2.2.2.2.2.2.1, y11.2.2.2.2.2.2.2.2.2.2.2.2.2.2.2.2.2.2.2.2.2.2.2.2.2.2.1, y11.2.2.2.2.2.2.2.2.2.2.2.2.2.2.2.2.2.2.2.2.2.2.2.2.2.2.2.1, y11.2.2.2.2.2.2.2.2.2.2.2.2.2.2.2.2.2.2.2.2.2.2.2.2.2.2.2.2.1, y11.2.2.2.2.2.2.2.2.2.2.2.2.2.2.2.2.2.2.2.2.2.2.2.2.2.2.2.2.2.1, y11.2.2.2.2.2.2.2.2.2.2.2.2.2.2.2.2.2.2.2.2.2.2.2.2.2.2.2.2.2.2.1, y11.2.2.2.2.2.2.2.2.2.2.2.2.2.2.2.2.2.2.2.2.2.2.2.2.2.2.2.2.2.2.2.1, y11.2.2.2.2.2.2.2.2.2.2.2.2.2.2.2.2.2.2.2.2.2.2.2.2.2.2.2.2.2.2.2.2.1, y11.2.2.2.2.2.2.2.2.2.2.2.2.2.2.2.2.2.2.2.2.2.2.2.2.2.2.2.2.2.2.2.2.2.1, y11.2.2.2.2.2.2.2.2.2.2.2.2.2.2.2.2.2.2.2.2.2.2.2.2.2.2.2.2.2.2.2.2.2.2.1, y11.2.2.2.2.2.2.2.2.2.2.2.2.2.2.2.2.2.2.2.2.2.2.2.2.2.2.2.2.2.2.2.2.2.2.2.1, y11.2.2.2.2.2.2.2.2.2.2.2.2.2.2.2.2.2.2.2.2.2.2.2.2.2.2.2.2.2.2.2.2.2.2.2.2.1, y11.2.2.2.2.2.2.2.2.2.2.2.2.2.2.2.2.2.2.2.2.2.2.2.2.2.2.2.2.2.2.2.2.2.2.2.2.2.1, y11.2.2.2.2.2.2.2.2.2.2.2.2.2.2.2.2.2.2.2.2.2.2.2.2.2.2.2.2.2.2.2.2.2.2.2.2.2.2.1, y11.2.2.2.2.2.2.2.2.2.2.2.2.2.2.2.2.2.2.2.2.2.2.2.2.2.2.2.2.2.2.2.2.2.2.2.2.2.2.2.1, y11.2.2.2.2.2.2.2.2.2.2.2.2.2.2.2.2.2.2.2.2.2.2.2.2.2.2.2.2.2.2.2.2.2.2.2.2.2.2.2.2.1, y11.2.2.2.2.2.2.2.2.2.2.2.2.2.2.2.2.2.2.2.2.2.2.2.2.2.2.2.2.2.2.2.2.2.2.2.2.2.2.2.2.2.1, y11.2.2.2.2.2.2.2.2.2.2.2.2.2.2.2.2.2.2.2.2.2.2.2.2.2.2.2.2.2.2.2.2.2.2.2.2.2.2.2.2.2.2.1, y11.2.2.2.2.2.2.2.2.2.2.2.2.2.2.2.2.2.2.2.2.2.2.2.2.2.2.2.2.2.2.2.2.2.2.2.2.2.2.2.2.2.2.2.1, y11.2.2.2.2.2.2.2.2.2.2.2.2.2.2.2.2.2.2.2.2.2.2.2.2.2.2.2.2.2.2.2.2.2.2.2.2.2.2.2.2.2.2.2.2.1, y11.2.2.2.2.2.2.2.2.2.2.2.2.2.2.2.2.2.2.2.2.2.2.2.2.2.2.2.2.2.2.2.2.2.2.2.2.2.2.2.2.2.2.2.2.2.1, y11.2.2.2.2.2.2.2.2.2.2.2.2.2.2.2.2.2.2.2.2.2.2.2.2.2.2.2.2.2.2.2.2.2.2.2.2.2.2.2.2.2.2.2.2.2.2.1, y11.2.2.2.2.2.2.2.2.2.2.2.2.2.2.2.2.2.2.2.2.2.2.2.2.2.2.2.2.2.2.2.2.2.2.2.2.2.2.2.2.2.2.2.2.2.2.2.1, y11.2.2.2.2.2.2.2.2.2.2.2.2.2.2.2.2.2.2.2.2.2.2.2.2.2.2.2.2.2.2.2.2.2.2.2.2.2.2.2.2.2.2.2.2.2.2.2.2.1, y11.2.2.2.2.2.2.2.2.2.2.2.2.2.2.2.2.2.2.2.2.2.2.2.2.2.2.2.2.2.2.2.2.2.2.2.2.2.2.2.2.2.2.2.2.2.2.2.2.2.1, y11.2.2.2.2.2.2.2.2.2.2.2.2.2.2.2.2.2.2.2.2.2.2.2.2.2.2.2.2.2.2.2.2.2.2.2.2.2.2.2.2.2.2.2.2.2.2.2.2.2.2.1, ())).bind fun (y15 : zb × Int × Int × Int × Int × Int × Int × Int × Int × Int × (BitVec 64) × Int × zo × Int × Int × Bool × Bool × Int × Int × Int × Int × zn × zb × Int × zo × Int × Int × Bool × Bool × Int × zA × zn × (List Int) × (List (List Int)) × (List (List Int)) × (List (List zj)) × (List zk) × (List (List Int)) × (List (BitVec 64)) × (List (List Int)) × (List Int) × (List Int) × (List zi) × (List ze) × (List (List Int)) × (List (BitVec 64)) × (List (List Int)) × (List Int) × (List zi) × (List ze) × Unit) =>
      (zao (w64 (((y15.2.2.2.2.2.2.2.2.2.2.2.2.2.2.2.2.2.2.2.2.2.2.2.2.2.2.2.2.2.2.2.2.1.length : Int)) - (w64 (((y15.2.2.2.2.2.2.2.2.2.2.2.2.2.2.2.2.2.2.2.2.2.2.2.2.2.2.2.2.2.2.2.2.2.2.2.2.2.2.2.2.2.2.2.2.2.2.1.length : Int)) - 1))))).bind fun n16 =>
      (xE (y15.2.2.2.2.2.2.2.2.2.2.2.2.2.2.2.2.2.2.2.2.2.2.2.2.2.2.2.2.2.2.2.2.2.2.2.2.2.2.2.2.2.2.2.2.2.2.1 ++ (List.replicate n16 ([] : List Int)))).bind fun l17 =>
      (uK y15.1).bind fun y18 =>
      (vP y15.1).bind fun y19 =>
      (cut y15.2.2.2.2.2.2.2.2.2.2.2.2.2.2.2.2.2.2.2.2.2.2.2.2.2.2.2.2.2.2.2.2.1 0 (w64 (((y15.2.2.2.2.2.2.2.2.2.2.2.2.2.2.2.2.2.2.2.2.2.2.2.2.2.2.2.2.2.2.2.2.2.2.2.2.2.2.2.2.2.2.2.2.2.2.1.length : Int)) - 1))).bind fun l20 =>
      (UU y15.2.2.2.2.2.2.2.2.2.2.2.2.2.2.2.2.2.2.2.2.2.2.2.2.2.2.2.2.2.2.2.2.2.2.2.2.2.2.2.2.2.2.2.2.2.1 y18.1 y19.1 l20).bind fun y21 =>
      (YL y15.1).bind fun y22 =>
      (vP y15.1).bind fun y23 =>
      (cut y15.2.2.2.2.2.2.2.2.2.2.2.2.2.2.2.2.2.2.2.2.2.2.2.2.2.2.2.2.2.2.2.2.1 (w64 (((y15.2.2.2.2.2.2.2.2.2.2.2.2.2.2.2.2.2.2.2.2.2.2.2.2.2.2.2.2.2.2.2.2.2.2.2.2.2.2.2.2.2.2.2.2.2.2.1.length : Int)) - 1)) ((y15.2.2.2.2.2.2.2.2.2.2.2.2.2.2.2.2.2.2.2.2.2.2.2.2.2.2.2.2.2.2.2.2.1.length : Int))).bind fun l24 =>
      (UU y21.1 y22.1 y23.1 l24).bind fun y25 =>
      bif decide (y15.1.Mutators = y15.1.Mutators) then
       (XG y15.1.Mutators).bind fun n26 =>
       (yf Y5 (y15.1.Regs, (y15.1.Regs.length : Int), 0, y15.2.1, y15.2.2.1, y15.2.2.2.1, y15.2.2.2.2.1, y15.2.2.2.2.2.1, y15.2.2.2.2.2.2.1, y15.2.2.2.2.2.2.2.1, y15.2.2.2.2.2.2.2.2.1, y15.2.2.2.2.2.2.2.2.2.1, y15.2.2.2.2.2.2.2.2.2.2.1, y15.2.2.2.2.2.2.2.2.2.2.2.1, y15.2.2.2.2.2.2.2.2.2.2.2.2.1, y15.2.2.2.2.2.2.2.2.2.2.2.2.2.1, y15.2.2.2.2.2.2.2.2.2.2.2.2.2.2.1, y15.2.2.2.2.2.2.2.2.2.2.2.2.2.2.2.1, y15.2.2.2.2.2.2.2.2.2.2.2.2.2.2.2.2.1, y15.2.2.2.2.2.2.2.2.2.2.2.2.2.2.2.2.2.1, y15.2.2.2.2.2.2.2.2.2.2.2.2.2.2.2.2.2.2.1, y15.2.2.2.2.2.2.2.2.2.2.2.2.2.2.2.2.2.2.2.1, y15.2.2.2.2.2.2.2.2.2.2.2.2.2.2.2.2.2.2.2.2.1, y15.2.2.2.2.2.2.2.2.2.2.2.2.2.2.2.2.2.2.2.2.2.1, y15.2.2.2.2.2.2.2.2.2.2.2.2.2.2.2.2.2.2.2.2.2.2.1, y15.2.2.2.2.2.2.2.2.2.2.2.2.2.2.2.2.2.2.2.2.2.2.2.1, y25.1, y15.2.2.2.2.2.2.2.2.2.2.2.2.2.2.2.2.2.2.2.2.2.2.2.2.1, y15.2.2.2.2.2.2.2.2.2.2.2.2.2.2.2.2.2.2.2.2.2.2.2.2.2.1, y15.2.2.2.2.2.2.2.2.2.2.2.2.2.2.2.2.2.2.2.2.2.2.2.2.2.2.1, y15.2.2.2.2.2.2.2.2.2.2.2.2.2.2.2.2.2.2.2.2.2.2.2.2.2.2.2.1, y15.2.2.2.2.2.2.2.2.2.2.2.2.2.2.2.2.2.2.2.2.2.2.2.2.2.2.2.2.1, y15.2.2.2.2.2.2.2.2.2.2.2.2.2.2.2.2.2.2.2.2.2.2.2.2.2.2.2.2.2.1, y15.2.2.2.2.2.2.2.2.2.2.2.2.2.2.2.2.2.2.2.2.2.2.2.2.2.2.2.2.2.2.1, y15.2.2.2.2.2.2.2.2.2.2.2.2.2.2.2.2.2.2.2.2.2.2.2.2.2.2.2.2.2.2.2.1, y15.2.2.2.2.2.2.2.2.2.2.2.2.2.2.2.2.2.2.2.2.2.2.2.2.2.2.2.2.2.2.2.2.2.1, y15.2.2.2.2.2.2.2.2.2.2.2.2.2.2.2.2.2.2.2.2.2.2.2.2.2.2.2.2.2.2.2.2.2.2.1, y15.2.2.2.2.2.2.2.2.2.2.2.2.2.2.2.2.2.2.2.2.2.2.2.2.2.2.2.2.2.2.2.2.2.2.2.1, y15.2.2.2.2.2.2.2.2.2.2.2.2.2.2.2.2.2.2.2.2.2.2.2.2.2.2.2.2.2.2.2.2.2.2.2.2.1, y15.2.2.2.2.2.2.2.2.2.2.2.2.2.2.2.2.2.2.2.2.2.2.2.2.2.2.2.2.2.2.2.2.2.2.2.2.2.1, y15.2.2.2.2.2.2.2.2.2.2.2.2.2.2.2.2.2.2.2.2.2.2.2.2.2.2.2.2.2.2.2.2.2.2.2.2.2.2.1, y15.2.2.2.2.2.2.2.2.2.2.2.2.2.2.2.2.2.2.2.2.2.2.2.2.2.2.2.2.2.2.2.2.2.2.2.2.2.2.2.1, y15.2.2.2.2.2.2.2.2.2.2.2.2.2.2.2.2.2.2.2.2.2.2.2.2.2.2.2.2.2.2.2.2.2.2.2.2.2.2.2.2.1, y15.2.2.2.2.2.2.2.2.2.2.2.2.2.2.2.2.2.2.2.2.2.2.2.2.2.2.2.2.2.2.2.2.2.2.2.2.2.2.2.2.2.1, y15.2.2.2.2.2.2.2.2.2.2.2.2.2.2.2.2.2.2.2.2.2.2.2.2.2.2.2.2.2.2.2.2.2.2.2.2.2.2.2.2.2.2.1, y15.2.2.2.2.2.2.2.2.2.2.2.2.2.2.2.2.2.2.2.2.2.2.2.2.2.2.2.2.2.2.2.2.2.2.2.2.2.2.2.2.2.2.2.1, y15.2.2.2.2.2.2.2.2.2.2.2.2.2.2.2.2.2.2.2.2.2.2.2.2.2.2.2.2.2.2.2.2.2.2.2.2.2.2.2.2.2.2.2.2.1, l17, List.replicate n26 ((0 : Int)), y15.2.2.2.2.2.2.2.2.2.2.2.2.2.2.2.2.2.2.2.2.2.2.2.2.2.2.2.2.2.2.2.2.2.2.2.2.2.2.2.2.2.2.2.2.2.2.2.2.1, y15.2.2.2.2.2.2.2.2.2.2.2.2.2.2.2.2.2.2.2.2.2.2.2.2.2.2.2.2.2.2.2.2.2.2.2.2.2.2.2.2.2.2.2.2.2.2.2.2.2.1, ())).bind fun st => match st with
         | .again _ => none
         | .brk y27 =>
         some (za.mk y27.2.2.2.2.2.2.2.2.2.2.2.2.2.2.2.2.2.2.2.2.2.1 (zG.mk y27.2.2.2.2.2.2.2.2.2.2.2.2.2.2.2.2.2.2.2.2.2.2.1 y27.2.2.2.2.2.2.2.2.2.2.2.2.2.2.2.2.2.2.2.2.2.2.2.2.2.2.2.2.2.2.2.2.2.2.2.2.2.2.2.2.2.2.2.1) y27.2.2.2.2.2.2.2.2.2.2.2.2.2.2.2.2.2.2.2.2.2.2.2.1 y27.2.2.2.2.2.2.2.2.2.2.2.2.2.2.2.2.2.2.2.2.2.2.2.2.2.2.2.2.2.2.2.2.2.2.2.2.2.2.2.2.2.2.2.2.1 y27.2.2.2.2.2.2.2.2.2.2.2.2.2.2.2.2.2.2.2.2.2.2.2.2.1 y27.2.2.2.2.2.2.2.2.2.2.2.2.2.2.2.2.2.2.2.2.2.2.2.2.2.1 y27.2.2.2.2.2.2.2.2.2.2.2.2.2.2.2.2.2.2.2.2.2.2.2.2.2.2.1 y27.2.2.2.2.2.2.2.2.2.2.2.2.2.2.2.2.2.2.2.2.2.2.2.2.2.2.2.1 y27.2.2.2.2.2.2.2.2.2.2.2.2.2.2.2.2.2.2.2.2.2.2.2.2.2.2.2.2.1 y27.2.2.2.2.2.2.2.2.2.2.2.2.2.2.2.2.2.2.2.2.2.2.2.2.2.2.2.2.2.1 y27.2.2.2.2.2.2.2.2.2.2.2.2.2.2.2.2.2.2.2.2.2.2.2.2.2.2.2.2.2.2.2.2.2.2.2.2.2.2.2.2.2.2.2.2.2.1 y27.2.2.2.2.2.2.2.2.2.2.2.2.2.2.2.2.2.2.2.2.2.2.2.2.2.2.2.2.2.2.1 y27.2.2.2.2.2.2.2.2.2.2.2.2.2.2.2.2.2.2.2.2.2.2.2.2.2.2.2.2.2.2.2.2.2.2.2.2.2.2.2.2.2.2.2.2.2.2.1 y27.2.2.2.2.2.2.2.2.2.2.2.2.2.2.2.2.2.2.2.2.2.2.2.2.2.2.2.2.2.2.2.2.2.2.2.2.2.2.2.2.2.2.2.2.2.2.2.1 y27.2.2.2.2.2.2.2.2.2.2.2.2.2.2.2.2.2.2.2.2.2.2.2.2.2.2.2.2.2.2.2.1, ())
         | .ret y27 =>
         none
      else
       none
      | .ret y11 =>
      none
    | .ret y6 =>
    none := zw (by kernel_rfl)
theorem Ui (a1 : zu) : Y4 a1 =
 some (zu.mk { a1.Grey with PC := 1 } { a1.s with Work := w64 (a1.s.Work + 1) }, ()) := zw (by kernel_rfl)
theorem zmA (a1 : BitVec 64) (a2 : Int) : zab a1 a2 =
 (zdb a2).bind fun y1 =>
 some (!(decide ((a1 &&& y1.1) = 0#64)), ()) := zw (by kernel_rfl)
theorem ziW (a1 : zo) (a2 : Int) : zbK a1 a2 =
 (Xu a1.Marks a2).bind fun y1 =>
 bif decide (y1.1 = a1.Marks) then
  some (a1, false, ())
 else
  (zab a1.Black a2).bind fun y2 =>
  bif y2.1 then
   some (a1, false, ())
  else
   some ({ a1 with Marks := y1.1 }, true, ()) := zw (by kernel_rfl)
theorem zcB (a1 : Int) (a2 : Int) (a3 : Int) (a4 : Int) : zaL a1 a2 a3 a4 =
 some (zp.mk a1 0 a2 a3 0#64 a4 0 0, ()) := zw (by kernel_rfl)
theorem zcI (a1 : zu) : xJ a1 =
 (YL a1.s.P).bind fun y1 =>
 (vP a1.s.P).bind fun y2 =>
 (zaL 2 y1.1 y2.1 0).bind fun y3 =>
 some ({ a1 with Grey := { a1.Grey with PC := 5, C := y3.1 } }, ()) := zw (by kernel_rfl)
theorem zbv (a1 : zu) : Wj a1 =
 (zbK a1.s.T a1.Grey.Obj).bind fun y1 =>
 bif !y1.2.1 then
  some (zu.mk { a1.Grey with PC := 2 } { a1.s with T := y1.1 }, ())
 else
  bif decide (a1.Grey.Mode = 1) then
   (WI a1.s.P a1.Grey.Who).bind fun y2 =>
   (zaG 1 y2.1 a1.s.P.Cap a1.Grey.Obj).bind fun y3 =>
   some (zu.mk { a1.Grey with PC := 3, D := y3.1 } { a1.s with T := y1.1 }, ())
  else
   bif decide (a1.Grey.Mode = 2) then
    some (zu.mk { a1.Grey with PC := 4 } { a1.s with T := y1.1 }, ())
   else
    (xJ ({ a1 with s := { a1.s with T := y1.1 } })).bind fun y4 =>
    some (y4.1, ()) := zw (by kernel_rfl)
theorem zba (a1 : zu) : Wm a1 =
 some (zu.mk { a1.Grey with Out := 1 } { a1.s with Work := w64 (a1.s.Work - 1) }, ()) := zw (by kernel_rfl)
theorem za3 (a1 : Int) : zer a1 =
 bif decide (a1 = 1) then
  some (())
 else
  bif decide (a1 = 2) then
   none
  else
   bif decide (a1 = 3) then
    none
   else
    none := zw (by kernel_rfl)
theorem zgS (a1 : Int) : zd9 a1 =
 bif decide (a1 = 1) then
  none
 else
  bif decide (a1 = 2) then
   some (())
  else
   bif decide (a1 = 3) then
    none
   else
    none := zw (by kernel_rfl)
theorem zgP (a1 : Int) : zeq a1 =
 bif decide (a1 = 1) then
  none
 else
  bif decide (a1 = 2) then
   none
  else
   bif decide (a1 = 3) then
    some (())
   else
    none := zw (by kernel_rfl)
theorem zgZ (a1 : Int) : zel a1 =
 bif decide (a1 = 1) then
  none
 else
  bif decide (a1 = 2) then
   none
  else
   bif decide (a1 = 3) then
    none
   else
    some (([] : List Bool), ()) := zw (by kernel_rfl)
theorem zjc (a1 : List (BitVec 64)) (a2 : Int) : va a1 a2 =
 (uQ a1 (ve.mk 1 a2 0#64 0#64)).bind fun y1 =>
 some (y1.2.1, ()) := zw (by kernel_rfl)
theorem yz (a1 : zg) : yT a1 =
 some (w64 (a1.Base + 1), ()) := zw (by kernel_rfl)
theorem Zb (a1 : List (BitVec 64)) (a2 : zg) : yZ a1 a2 =
 (yT a2).bind fun y1 =>
 (va a1 y1.1).bind fun y2 =>
 some (a1, { a2 with B := y2.1 }, ()) := zw (by kernel_rfl)
theorem vC (a1 : zg) : vl a1 =
 some (a1.Base, ()) := zw (by kernel_rfl)
theorem zcP (a1 : zg) : uq a1 =
 some (BitVec.ofInt 64 (bif decide (a1.Cap < 1) then 1 else a1.Cap), ()) := zw (by kernel_rfl)
theorem yW (a1 : Int) (a2 : zg) : yC a1 a2 =
 bif !(decide (a1 = 1)) then
  bif !(decide (a2.Kind = 1)) then
   some ({ a2 with X := 0, Out := a1 }, ())
  else
   some ({ a2 with Out := a1 }, ())
 else
  some ({ a2 with Out := a1 }, ()) := zw (by kernel_rfl)
theorem zaM (a1 : List (BitVec 64)) (a2 : zg) : Zl a1 a2 =
 (vl a2).bind fun y1 =>
 (va a1 y1.1).bind fun y2 =>
 (uq ({ a2 with T := y2.1 })).bind fun y3 =>
 bif decide (y3.1 ≤ (a2.B - y2.1)) then
  (yC 3 ({ a2 with T := y2.1 })).bind fun y4 =>
  some (a1, y4.1, ())
 else
  some (a1, { a2 with T := y2.1 }, ()) := zw (by kernel_rfl)
theorem zhm (a1 : List (BitVec 64)) (a2 : Int) (a3 : BitVec 64) : v8 a1 a2 a3 =
 (uQ a1 (ve.mk 2 a2 a3 0#64)).bind fun y1 =>
 some (y1.1, ()) := zw (by kernel_rfl)
theorem zb3 (a1 : BitVec 64) (a2 : zg) : wD a1 a2 =
 (uq a2).bind fun y1 =>
 bif decide (y1.1 = 0#64) then
  none
 else
  some (w64 ((w64 (a2.Base + 2)) + ((a1 % y1.1).toInt)), ()) := zw (by kernel_rfl)
theorem zdu (a1 : List (BitVec 64)) (a2 : zg) : Y1 a1 a2 =
 (wD a2.B a2).bind fun y1 =>
 (v8 a1 y1.1 (BitVec.ofInt 64 a2.X)).bind fun y2 =>
 some (y2.1, ()) := zw (by kernel_rfl)
theorem V5 (a1 : List (BitVec 64)) (a2 : zg) : ud a1 a2 =
 (yC 1 a2).bind fun y1 =>
 (yT y1.1).bind fun y2 =>
 (v8 a1 y2.1 (y1.1.B + 1#64)).bind fun y3 =>
 some (y3.1, y1.1, ()) := zw (by kernel_rfl)
theorem zcE (a1 : List (BitVec 64)) (a2 : zg) : W3 a1 a2 =
 (yT a2).bind fun y1 =>
 (v8 a1 y1.1 (a2.B - 1#64)).bind fun y2 =>
 some (y2.1, ()) := zw (by kernel_rfl)
theorem zbO (a1 : BitVec 64) (a2 : BitVec 64) : zaI a1 a2 =
 some (decide (0 < ((a1 - a2).toInt)), ()) := zw (by kernel_rfl)
theorem UN (a1 : List (BitVec 64)) (a2 : zg) : Y9 a1 a2 =
 (vl a2).bind fun y1 =>
 (va a1 y1.1).bind fun y2 =>
 (zaI y2.1 (a2.B - 1#64)).bind fun y3 =>
 bif y3.1 then
  some (a1, { a2 with PC := 4, T := y2.1 }, ())
 else
  some (a1, { a2 with T := y2.1 }, ()) := zw (by kernel_rfl)
theorem zbe (a1 : List (BitVec 64)) (a2 : zg) : Wr a1 a2 =
 (wD (a2.B - 1#64) a2).bind fun y1 =>
 (va a1 y1.1).bind fun y2 =>
 bif !(decide (a2.T = (a2.B - 1#64))) then
  (yC 1 ({ a2 with X := y2.1.toInt })).bind fun y3 =>
  some (a1, y3.1, ())
 else
  some (a1, { a2 with X := y2.1.toInt }, ()) := zw (by kernel_rfl)
theorem zcN (a1 : List (BitVec 64)) (a2 : zg) : uz a1 a2 =
 (vl a2).bind fun y1 =>
 (uQ a1 (ve.mk 3 y1.1 a2.T (a2.T + 1#64))).bind fun y2 =>
 some (y2.1, y2.2.2.1, ()) := zw (by kernel_rfl)
theorem zaW (a1 : List (BitVec 64)) (a2 : zg) : XZ a1 a2 =
 (uz a1 a2).bind fun y1 =>
 bif y1.2.1 then
  some (y1.1, { a2 with PC := 5 }, ())
 else
  some (y1.1, a2, ()) := zw (by kernel_rfl)
theorem zaE (a1 : List (BitVec 64)) (a2 : zg) : XW a1 a2 =
 (yC 2 a2).bind fun y1 =>
 (yT y1.1).bind fun y2 =>
 (v8 a1 y2.1 y1.1.B).bind fun y3 =>
 some (y3.1, y1.1, ()) := zw (by kernel_rfl)
theorem zbp (a1 : List (BitVec 64)) (a2 : zg) : Wc a1 a2 =
 (yC 1 a2).bind fun y1 =>
 (yT y1.1).bind fun y2 =>
 (v8 a1 y2.1 y1.1.B).bind fun y3 =>
 some (y3.1, y1.1, ()) := zw (by kernel_rfl)
theorem zbt (a1 : List (BitVec 64)) (a2 : zg) : Wg a1 a2 =
 (vl a2).bind fun y1 =>
 (va a1 y1.1).bind fun y2 =>
 some (a1, { a2 with T := y2.1 }, ()) := zw (by kernel_rfl)
theorem zbb (a1 : List (BitVec 64)) (a2 : zg) : Wh a1 a2 =
 (yT a2).bind fun y1 =>
 (va a1 y1.1).bind fun y2 =>
 (zaI y2.1 a2.T).bind fun y3 =>
 bif !y3.1 then
  some (a1, { a2 with B := y2.1, Out := 2 }, ())
 else
  some (a1, { a2 with B := y2.1 }, ()) := zw (by kernel_rfl)
theorem zaK (a1 : List (BitVec 64)) (a2 : zg) : XX a1 a2 =
 (wD a2.T a2).bind fun y1 =>
 (va a1 y1.1).bind fun y2 =>
 some (a1, { a2 with X := y2.1.toInt }, ()) := zw (by kernel_rfl)
theorem UC (a1 : List (BitVec 64)) (a2 : zg) : Xb a1 a2 =
 (uz a1 a2).bind fun y1 =>
 bif y1.2.1 then
  (yC 1 a2).bind fun y2 =>
  some (y1.1, y2.1, ())
 else
  (yC 4 a2).bind fun y3 =>
  some (y1.1, y3.1, ()) := zw (by kernel_rfl)
end Go.Pe.G
namespace Go.Pe.G
open Go.Pe
theorem zdf (a1 : List (BitVec 64)) (a2 : zg) : VB a1 a2 =
 Option.or (
  (zer a2.Kind).bind fun y1 =>
  bif !(decide (a2.Out = 0)) then
   some (a1, a2, ())
  else
   bif decide (a2.PC < 0) then
    some (a1, a2, ())
   else
    bif decide (4 ≤ a2.PC) then
     some (a1, a2, ())
    else
     bif decide (a2.PC = 3) then
      (ud a1 a2).bind fun y2 =>
      some (y2.1, { y2.2.1 with PC := w64 (y2.2.1.PC + 1) }, ())
     else
      bif decide (a2.PC = 2) then
       (Y1 a1 a2).bind fun y3 =>
       some (y3.1, { a2 with PC := w64 (a2.PC + 1) }, ())
      else
       bif decide (a2.PC = 1) then
        (Zl a1 a2).bind fun y4 =>
        some (y4.1, { y4.2.1 with PC := w64 (y4.2.1.PC + 1) }, ())
       else
        bif decide (a2.PC = 0) then
         (yZ a1 a2).bind fun y5 =>
         some (y5.1, { y5.2.1 with PC := w64 (y5.2.1.PC + 1) }, ())
        else
         none) (
  Option.or (
   (zd9 a2.Kind).bind fun y6 =>
   bif !(decide (a2.Out = 0)) then
    some (a1, a2, ())
   else
    bif decide (a2.PC < 0) then
     some (a1, a2, ())
    else
     bif decide (7 ≤ a2.PC) then
      some (a1, a2, ())
     else
      bif decide (a2.PC = 6) then
       (Wc a1 a2).bind fun y7 =>
       some (y7.1, { y7.2.1 with PC := w64 (y7.2.1.PC + 1) }, ())
      else
       bif decide (a2.PC = 5) then
        (XW a1 a2).bind fun y8 =>
        some (y8.1, { y8.2.1 with PC := w64 (y8.2.1.PC + 1) }, ())
       else
        bif decide (a2.PC = 4) then
         (XZ a1 a2).bind fun y9 =>
         some (y9.1, { y9.2.1 with PC := w64 (y9.2.1.PC + 1) }, ())
        else
         bif decide (a2.PC = 3) then
          (Wr a1 a2).bind fun y10 =>
          some (y10.1, { y10.2.1 with PC := w64 (y10.2.1.PC + 1) }, ())
         else
          bif decide (a2.PC = 2) then
           (Y9 a1 a2).bind fun y11 =>
           some (y11.1, { y11.2.1 with PC := w64 (y11.2.1.PC + 1) }, ())
          else
           bif decide (a2.PC = 1) then
            (W3 a1 a2).bind fun y12 =>
            some (y12.1, { a2 with PC := w64 (a2.PC + 1) }, ())
           else
            bif decide (a2.PC = 0) then
             (yZ a1 a2).bind fun y13 =>
             some (y13.1, { y13.2.1 with PC := w64 (y13.2.1.PC + 1) }, ())
            else
             none) (
   Option.or (
    (zeq a2.Kind).bind fun y14 =>
    bif !(decide (a2.Out = 0)) then
     some (a1, a2, ())
    else
     bif decide (a2.PC < 0) then
      some (a1, a2, ())
     else
      bif decide (4 ≤ a2.PC) then
       some (a1, a2, ())
      else
       bif decide (a2.PC = 3) then
        (Xb a1 a2).bind fun y15 =>
        some (y15.1, { y15.2.1 with PC := w64 (y15.2.1.PC + 1) }, ())
       else
        bif decide (a2.PC = 2) then
         (XX a1 a2).bind fun y16 =>
         some (y16.1, { y16.2.1 with PC := w64 (y16.2.1.PC + 1) }, ())
        else
         bif decide (a2.PC = 1) then
          (Wh a1 a2).bind fun y17 =>
          some (y17.1, { y17.2.1 with PC := w64 (y17.2.1.PC + 1) }, ())
         else
          bif decide (a2.PC = 0) then
           (Wg a1 a2).bind fun y18 =>
           some (y18.1, { y18.2.1 with PC := w64 (y18.2.1.PC + 1) }, ())
          else
           none) (
    (zel a2.Kind).bind fun y19 =>
    bif !(decide (a2.Out = 0)) then
     some (a1, a2, ())
    else
     bif decide (a2.PC < 0) then
      some (a1, a2, ())
     else
      bif decide (((y19.1.length : Int)) ≤ a2.PC) then
       some (a1, a2, ())
      else
       none))) := zw (by kernel_rfl)
theorem zbd (a1 : zu) : Wf a1 =
 (VB a1.s.M a1.Grey.D).bind fun y1 =>
 bif decide (y1.2.1.Out = 1) then
  some (zu.mk { a1.Grey with D := y1.2.1, Out := 1 } { a1.s with M := y1.1 }, ())
 else
  bif decide (y1.2.1.Out = 3) then
   (xJ (zu.mk { a1.Grey with D := y1.2.1 } { a1.s with M := y1.1 })).bind fun y2 =>
   some (y2.1, ())
  else
   some (zu.mk { a1.Grey with D := y1.2.1 } { a1.s with M := y1.1 }, ()) := zw (by kernel_rfl)
theorem zbB (a1 : zu) : Wp a1 =
 (xJ ({ a1 with s := { a1.s with Flag := true } })).bind fun y1 =>
 some (y1.1, ()) := zw (by kernel_rfl)
theorem zin (a1 : BitVec 64) : vK a1 =
 some ((a1 &&& 4294967295#64).toInt, ()) := zw (by kernel_rfl)
theorem zjb (a1 : List (BitVec 64)) (a2 : Int) : Yd a1 a2 =
 (uQ a1 (ve.mk 1 a2 0#64 0#64)).bind fun y1 =>
 some (y1.2.1, ()) := zw (by kernel_rfl)
theorem zbh (a1 : List (BitVec 64)) (a2 : zp) : xy a1 a2 =
 (Yd a1 a2.Head).bind fun y1 =>
 bif decide (a2.Kind = 2) then
  (vK y1.1).bind fun y2 =>
  bif decide (y2.1 = 0) then
   some (a1, { a2 with H := y1.1, Out := 2 }, ())
  else
   some (a1, { a2 with H := y1.1 }, ())
 else
  some (a1, { a2 with H := y1.1 }, ()) := zw (by kernel_rfl)
theorem zcM (a1 : List (BitVec 64)) (a2 : zp) : uv a1 a2 =
 (vK a2.H).bind fun y1 =>
 (v9 a1 (w64 (a2.Next + a2.X)) (BitVec.ofInt 64 y1.1)).bind fun y2 =>
 some (y2.1, ()) := zw (by kernel_rfl)
theorem zaF (a1 : List (BitVec 64)) (a2 : zp) : xi a1 a2 =
 bif decide (a2.Kind = 2) then
  (Z1 ((a2.H >>> 32) + 1#64) a2.Y).bind fun y1 =>
  (uQ a1 (ve.mk 3 a2.Head a2.H y1.1)).bind fun y2 =>
  bif !y2.2.2.1 then
   some (y2.1, { a2 with PC := -1 }, ())
  else
   bif decide (a2.Kind = 2) then
    (vK a2.H).bind fun y3 =>
    some (y2.1, { a2 with X := y3.1, Out := 1 }, ())
   else
    some (y2.1, { a2 with Out := 1 }, ())
 else
  (Z1 ((a2.H >>> 32) + 1#64) a2.X).bind fun y4 =>
  (uQ a1 (ve.mk 3 a2.Head a2.H y4.1)).bind fun y5 =>
  bif !y5.2.2.1 then
   some (y5.1, { a2 with PC := -1 }, ())
  else
   bif decide (a2.Kind = 2) then
    (vK a2.H).bind fun y6 =>
    some (y5.1, { a2 with X := y6.1, Out := 1 }, ())
   else
    some (y5.1, { a2 with Out := 1 }, ()) := zw (by kernel_rfl)
theorem Ug (a1 : List (BitVec 64)) (a2 : zp) : wG a1 a2 =
 (vK a2.H).bind fun y1 =>
 (Yd a1 (w64 (a2.Next + y1.1))).bind fun y2 =>
 some (a1, { a2 with Y := y2.1.toInt }, ()) := zw (by kernel_rfl)
theorem ziB (a1 : List (BitVec 64)) (a2 : zp) : VE a1 a2 =
 bif decide (a2.Kind = 2) then
  bif !(decide (a2.Out = 0)) then
   some (a1, a2, ())
  else
   bif !(decide (a2.Kind = 1)) then
    bif !(decide (a2.Kind = 2)) then
     some (a1, a2, ())
    else
     bif decide (a2.PC < 0) then
      some (a1, a2, ())
     else
      bif decide (3 ≤ a2.PC) then
       some (a1, a2, ())
      else
       bif decide (a2.PC = 2) then
        (xi a1 a2).bind fun y1 =>
        some (y1.1, { y1.2.1 with PC := w64 (y1.2.1.PC + 1) }, ())
       else
        bif decide (a2.PC = 1) then
         (wG a1 a2).bind fun y2 =>
         some (y2.1, { y2.2.1 with PC := w64 (y2.2.1.PC + 1) }, ())
        else
         bif decide (a2.PC = 0) then
          (xy a1 a2).bind fun y3 =>
          some (y3.1, { y3.2.1 with PC := w64 (y3.2.1.PC + 1) }, ())
         else
          none
   else
    bif decide (a2.PC < 0) then
     some (a1, a2, ())
    else
     bif decide (3 ≤ a2.PC) then
      some (a1, a2, ())
     else
      bif decide (a2.PC = 2) then
       (xi a1 a2).bind fun y4 =>
       some (y4.1, { y4.2.1 with PC := w64 (y4.2.1.PC + 1) }, ())
      else
       bif decide (a2.PC = 1) then
        (wG a1 a2).bind fun y5 =>
        some (y5.1, { y5.2.1 with PC := w64 (y5.2.1.PC + 1) }, ())
       else
        bif decide (a2.PC = 0) then
         (xy a1 a2).bind fun y6 =>
         some (y6.1, { y6.2.1 with PC := w64 (y6.2.1.PC + 1) }, ())
        else
         none
 else
  bif !(decide (a2.Out = 0)) then
   some (a1, a2, ())
  else
   bif !(decide (a2.Kind = 1)) then
    bif !(decide (a2.Kind = 2)) then
     some (a1, a2, ())
    else
     bif decide (a2.PC < 0) then
      some (a1, a2, ())
     else
      bif decide (3 ≤ a2.PC) then
       some (a1, a2, ())
      else
       bif decide (a2.PC = 2) then
        (xi a1 a2).bind fun y7 =>
        some (y7.1, { y7.2.1 with PC := w64 (y7.2.1.PC + 1) }, ())
       else
        bif decide (a2.PC = 1) then
         (uv a1 a2).bind fun y8 =>
         some (y8.1, { a2 with PC := w64 (a2.PC + 1) }, ())
        else
         bif decide (a2.PC = 0) then
          (xy a1 a2).bind fun y9 =>
          some (y9.1, { y9.2.1 with PC := w64 (y9.2.1.PC + 1) }, ())
         else
          none
   else
    bif decide (a2.PC < 0) then
     some (a1, a2, ())
    else
     bif decide (3 ≤ a2.PC) then
      some (a1, a2, ())
     else
      bif decide (a2.PC = 2) then
       (xi a1 a2).bind fun y10 =>
       some (y10.1, { y10.2.1 with PC := w64 (y10.2.1.PC + 1) }, ())
      else
       bif decide (a2.PC = 1) then
        (uv a1 a2).bind fun y11 =>
        some (y11.1, { a2 with PC := w64 (a2.PC + 1) }, ())
       else
        bif decide (a2.PC = 0) then
         (xy a1 a2).bind fun y12 =>
         some (y12.1, { y12.2.1 with PC := w64 (y12.2.1.PC + 1) }, ())
        else
         none := zw (by kernel_rfl)
theorem za8 (a1 : zu) : Wz a1 =
 (VE a1.s.M a1.Grey.C).bind fun y1 =>
 bif decide (y1.2.1.Out = 1) then
  some (zu.mk { a1.Grey with PC := 6, C := y1.2.1, Bin := y1.2.1.X } { a1.s with M := y1.1 }, ())
 else
  bif decide (y1.2.1.Out = 2) then
   (xJ (zu.mk { a1.Grey with C := y1.2.1 } { a1.s with M := y1.1 })).bind fun y2 =>
   some (y2.1, ())
  else
   some (zu.mk { a1.Grey with C := y1.2.1 } { a1.s with M := y1.1 }, ()) := zw (by kernel_rfl)
theorem UF (a1 : List (List Int)) : ur a1 =
 bif a1.isEmpty then
  ze3 (
   some (([] : List (List Int)), ())) (
   (xE ((([] : List (List Int))) ++ a1)).bind fun l1 =>
   some (l1, ()))
 else
  (xE ((([] : List (List Int))) ++ a1)).bind fun l2 =>
  some (l2, ()) := zw (by kernel_rfl)
theorem zbu (a1 : zu) : Wt a1 =
 (ur a1.s.Bins).bind fun y1 =>
 (xH y1.1 a1.Grey.Bin).bind fun n2 =>
 (uK a1.s.P).bind fun y3 =>
 (vP a1.s.P).bind fun y4 =>
 (zaL 1 y3.1 y4.1 a1.Grey.Bin).bind fun y5 =>
 some ({ a1.Grey with PC := 7, C := y5.1 }, a1.s.P, a1.s.H, a1.s.M, a1.s.T, a1.s.Work, a1.s.Epoch, a1.s.Flag, a1.s.Done, a1.s.Restarts, a1.s.Acks, a1.s.L, a1.s.Ws, a1.s.Ms, a1.s.D, y1.1.set n2 ([a1.Grey.Obj] : List Int), ()) := zw (by kernel_rfl)
theorem UO (a1 : zu) : Y6 a1 =
 (VE a1.s.M a1.Grey.C).bind fun y1 =>
 bif decide (y1.2.1.Out = 1) then
  some (zu.mk { a1.Grey with C := y1.2.1, Out := 1 } { a1.s with M := y1.1 }, ())
 else
  some (zu.mk { a1.Grey with C := y1.2.1 } { a1.s with M := y1.1 }, ()) := zw (by kernel_rfl)
theorem zky (a1 : za) (a2 : zd) : YM a1 a2 =
 bif !(decide (a2.Out = 0)) then
  some (a1, a2, ())
 else
  bif decide (a2.Mode < 1) then
   some (a1, a2, ())
  else
   bif decide (3 < a2.Mode) then
    some (a1, a2, ())
   else
    bif decide (a2.PC < 0) then
     some (a1, a2, ())
    else
     bif decide (8 ≤ a2.PC) then
      some (a1, a2, ())
     else
      bif decide (a2.PC = 7) then
       (Y6 (zu.mk a2 a1)).bind fun y1 =>
       some (y1.1.s, y1.1.Grey, ())
      else
       bif decide (a2.PC = 6) then
        (Wt (zu.mk a2 a1)).bind fun y2 =>
        some (za.mk y2.2.1 y2.2.2.1 y2.2.2.2.1 y2.2.2.2.2.2.2.2.2.2.2.2.2.2.2.2.1 y2.2.2.2.2.1 y2.2.2.2.2.2.1 y2.2.2.2.2.2.2.1 y2.2.2.2.2.2.2.2.1 y2.2.2.2.2.2.2.2.2.1 y2.2.2.2.2.2.2.2.2.2.1 y2.2.2.2.2.2.2.2.2.2.2.1 y2.2.2.2.2.2.2.2.2.2.2.2.1 y2.2.2.2.2.2.2.2.2.2.2.2.2.1 y2.2.2.2.2.2.2.2.2.2.2.2.2.2.1 y2.2.2.2.2.2.2.2.2.2.2.2.2.2.2.1, y2.1, ())
       else
        bif decide (a2.PC = 5) then
         (Wz (zu.mk a2 a1)).bind fun y3 =>
         some (y3.1.s, y3.1.Grey, ())
        else
         bif decide (a2.PC = 4) then
          (Wp (zu.mk a2 a1)).bind fun y4 =>
          some (y4.1.s, y4.1.Grey, ())
         else
          bif decide (a2.PC = 3) then
           (Wf (zu.mk a2 a1)).bind fun y5 =>
           some (y5.1.s, y5.1.Grey, ())
          else
           bif decide (a2.PC = 2) then
            (Wm (zu.mk a2 a1)).bind fun y6 =>
            some (y6.1.s, y6.1.Grey, ())
           else
            bif decide (a2.PC = 1) then
             (Wj (zu.mk a2 a1)).bind fun y7 =>
             some (y7.1.s, y7.1.Grey, ())
            else
             bif decide (a2.PC = 0) then
              (Y4 (zu.mk a2 a1)).bind fun y8 =>
              some (y8.1.s, y8.1.Grey, ())
             else
              none := zw (by kernel_rfl)
theorem Wx (s1 : Int) (s2 : Int) (s3 : za) (s4 : zd) (s5 : Int) (s6 : Int) (s7 : Int) (s8 : Int) (s9 : Int) (s10 : Int) (s11 : Int) (s12 : Int) (s13 : Int) (s14 : BitVec 64) (s15 : Int) (s16 : zo) (s17 : Int) (s18 : Int) (s19 : Bool) (s20 : Bool) (s21 : Int) (s22 : Int) (s23 : Int) (s24 : Int) (s25 : zn) (s26 : zd) (s27 : List (List Int)) (s28 : List (List Int)) (s29 : List (List zj)) (s30 : List zk) (s31 : List (List Int)) (s32 : List (BitVec 64)) (s33 : List (List Int)) (s34 : List Int) (s35 : List Int) (s36 : List zi) (s37 : List ze) : YV (s1, s2, s3, s4, s5, s6, s7, s8, s9, s10, s11, s12, s13, s14, s15, s16, s17, s18, s19, s20, s21, s22, s23, s24, s25, s26, s27, s28, s29, s30, s31, s32, s33, s34, s35, s36, s37, ()) =
 bif decide (s2 < s1) then
  bif decide (s4.Out = 0) then
   (YM s3 s4).bind fun y1 =>
   some (.again (s1, w64 (s2 + 1), y1.1, y1.2.1, s5, s6, s7, s8, s9, s10, s11, s12, s13, s14, s15, s16, s17, s18, s19, s20, s21, s22, s23, s24, s25, s26, s27, s28, s29, s30, s31, s32, s33, s34, s35, s36, s37, ()))
  else
   some (.brk (s2, s3, s4, s5, s6, s7, s8, s9, s10, s11, s12, s13, s14, s15, s16, s17, s18, s19, s20, s21, s22, s23, s24, s25, s26, s27, s28, s29, s30, s31, s32, s33, s34, s35, s36, s37, ()))
 else
  some (.brk (s2, s3, s4, s5, s6, s7, s8, s9, s10, s11, s12, s13, s14, s15, s16, s17, s18, s19, s20, s21, s22, s23, s24, s25, s26, s27, s28, s29, s30, s31, s32, s33, s34, s35, s36, s37, ())) := by kernel_rfl
theorem zfy (a1 : za) (a2 : zd) (a3 : Int) : yU a1 a2 a3 =
 (yf YV (a3, 0, a1, a2, 0, 0, 0, 0, 0, 0, 0, 0, 0, 0#64, 0, zo.mk 0#64 0#64, 0, 0, false, false, 0, 0, 0, 0, zn.mk 0 0, zd.mk 0 0 0 0 (zg.mk 0 0 0 0 0#64 0#64 0 0) (zp.mk 0 0 0 0 0#64 0 0 0) 0 0, ([] : List (List Int)), ([] : List (List Int)), ([] : List (List zj)), ([] : List zk), ([] : List (List Int)), ([] : List (BitVec 64)), ([] : List (List Int)), ([] : List Int), ([] : List Int), ([] : List zi), ([] : List ze), ())).bind fun st => match st with
   | .again _ => none
   | .brk y1 =>
   some (y1.2.1, y1.2.2.1, y1.1, ())
   | .ret y1 =>
   none := zw (by kernel_rfl)
theorem zcs (s1 : List (List zj)) (s2 : Int) (s3 : Int) (s4 : Int) (s5 : Int) (s6 : Int) (s7 : Int) (s8 : Int) (s9 : Int) (s10 : Int) (s11 : Int) (s12 : BitVec 64) (s13 : Int) (s14 : Int) (s15 : Int) (s16 : Int) (s17 : Int) (s18 : Int) (s19 : Int) (s20 : Int) (s21 : Int) (s22 : BitVec 64) (s23 : List (List Int)) (s24 : List (List Int)) (s25 : List (List zj)) (s26 : List zk) (s27 : List (List Int)) (s28 : List (List Int)) (s29 : List (List zj)) (s30 : List zk) : W2 (s1, s2, s3, s4, s5, s6, s7, s8, s9, s10, s11, s12, s13, s14, s15, s16, s17, s18, s19, s20, s21, s22, s23, s24, s25, s26, s27, s28, s29, s30, ()) =
 bif decide (s2 < ((s1.length : Int))) then
  (xE (s28 ++ (([([1, 0] : List Int)] : List (List Int))))).bind fun l1 =>
  (idx s1 s2).bind fun x2 =>
  (xE (s29 ++ (([x2] : List (List zj))))).bind fun l3 =>
  some (.again (s1, w64 (s2 + 1), s3, s4, s5, s6, s7, s8, s9, s10, s11, s12, s13, s14, s15, s16, s17, s18, s19, s20, s21, s22, s23, s24, s25, s26, s27, l1, l3, s30, ()))
 else
  some (.brk (s3, s4, s5, s6, s7, s8, s9, s10, s11, s12, s13, s14, s15, s16, s17, s18, s19, s20, s21, s22, s23, s24, s25, s26, s27, s28, s29, s30, ())) := by kernel_rfl
theorem zei (a1 : List (List zj)) : Xy a1 =
 (yf W2 (a1, 0, 0, 0, 0, 0, 0, 0, 0, 0, 0, 0#64, 1, (a1.length : Int), 2, 1, 1, 4, 2, 2, 1, 1#64, ([] : List (List Int)), ([] : List (List Int)), ([] : List (List zj)), ([] : List zk), ([([2] : List Int), ([0] : List Int), ([0] : List Int)] : List (List Int)), ([] : List (List Int)), ([] : List (List zj)), ([] : List zk), ())).bind fun st => match st with
   | .again _ => none
   | .brk y1 =>
   some (zb.mk y1.2.2.2.2.2.2.2.2.2.2.1 y1.2.2.2.2.2.2.2.2.2.2.2.1 y1.2.2.2.2.2.2.2.2.2.2.2.2.1 y1.2.2.2.2.2.2.2.2.2.2.2.2.2.1 y1.2.2.2.2.2.2.2.2.2.2.2.2.2.2.1 y1.2.2.2.2.2.2.2.2.2.2.2.2.2.2.2.1 y1.2.2.2.2.2.2.2.2.2.2.2.2.2.2.2.2.1 y1.2.2.2.2.2.2.2.2.2.2.2.2.2.2.2.2.2.1 (zG.mk y1.2.2.2.2.2.2.2.2.2.2.2.2.2.2.2.2.2.2.1 y1.2.2.2.2.2.2.2.2.2.2.2.2.2.2.2.2.2.2.2.2.2.2.2.2.1) y1.2.2.2.2.2.2.2.2.2.2.2.2.2.2.2.2.2.2.2.1 y1.2.2.2.2.2.2.2.2.2.2.2.2.2.2.2.2.2.2.2.2.2.2.2.2.2.1 y1.2.2.2.2.2.2.2.2.2.2.2.2.2.2.2.2.2.2.2.2.2.2.2.2.2.2.1 y1.2.2.2.2.2.2.2.2.2.2.2.2.2.2.2.2.2.2.2.2.2.2.2.2.2.2.2.1, ())
   | .ret y1 =>
   none := zw (by kernel_rfl)
theorem zib (a1 : Int) (a2 : Int) (a3 : Int) : w8 a1 a2 a3 =
 some (zd.mk 0 a1 a2 a3 (zg.mk 0 0 0 0 0#64 0#64 0 0) (zp.mk 0 0 0 0 0#64 0 0 0) 0 0, ()) := zw (by kernel_rfl)
theorem zay (s1 : List (BitVec 64)) (s2 : Int) (s3 : Int) (s4 : Int) (s5 : List Int) : VL (s1, s2, s3, s4, s5, ()) =
 bif !(decide (s4 = 0)) then
  bif decide (((s5.length : Int)) < (bif decide (1000 < s3) then 1000 else s3)) then
   (xE (s5 ++ ([s4] : List Int))).bind fun l1 =>
   (Yd s1 (w64 (s2 + s4))).bind fun y2 =>
   some (.again (s1, s2, s3, y2.1.toInt, l1, ()))
  else
   some (.brk (s5, ()))
 else
  some (.brk (s5, ())) := by kernel_rfl
theorem zir (a1 : List (BitVec 64)) (a2 : Int) (a3 : Int) (a4 : Int) : Xg a1 a2 a3 a4 =
 (Yd a1 a2).bind fun y1 =>
 (vK y1.1).bind fun y2 =>
 (yf VL (a1, a3, a4, y2.1, ([] : List Int), ())).bind fun st => match st with
   | .again _ => none
   | .brk y3 =>
   some (y3.1, ())
   | .ret y3 =>
   none := zw (by kernel_rfl)
theorem zmr (a1 : zd) (a2 : Int) (a3 : Int) (a4 : Int) : zap a1 a2 a3 a4 =
 bif decide (a1.Out = 0) then
  bif decide (a2 ≤ a1.PC) then
   bif decide (a1.PC ≤ a3) then
    some (a4, ())
   else
    some (0, ())
  else
   some (0, ())
 else
  some (0, ()) := zw (by kernel_rfl)
theorem zkq (a1 : zd) : zdD a1 =
 (zap a1 0 1 a1.Obj).bind fun y1 =>
 some (y1.1, ()) := zw (by kernel_rfl)
theorem zkj (a1 : zd) : zdU a1 =
 (zap a1 1 2 1).bind fun y1 =>
 some (y1.1, ()) := zw (by kernel_rfl)
theorem zjd (a1 : zd) : Vs a1 =
 (zap a1 3 7 a1.Obj).bind fun y1 =>
 some (y1.1, ()) := zw (by kernel_rfl)
theorem zbW  : Yf  =
 (Xy (([] : List (List zj)))).bind fun y1 =>
 (WB y1.1).bind fun y2 =>
 (w8 1 1 1).bind fun y3 =>
 (yU y2.1 y3.1 30).bind fun y4 =>
 (w8 1 2 1).bind fun y5 =>
 (yU y2.1 y5.1 30).bind fun y6 =>
 (w8 2 2 1).bind fun y7 =>
 (yU y2.1 y7.1 30).bind fun y8 =>
 (w8 3 3 1).bind fun y9 =>
 (yU y2.1 y9.1 30).bind fun y10 =>
 (w8 1 2 1).bind fun y11 =>
 (YM y2.1 y11.1).bind fun y12 =>
 bif !(decide (((y2.1.Bins.length : Int)) = 6)) then
  some (false, ())
 else
  bif !(decide (((y8.1.Bins.length : Int)) = 6)) then
   some (false, ())
  else
   bif !(decide (((y10.1.Bins.length : Int)) = 6)) then
    some (false, ())
   else
    bif decide (y4.2.1.Out = 1) then
     bif decide (y4.2.2.1 = 3) then
      bif decide (y4.1.Work = 1) then
       bif (decide (y4.1.T.Marks = y2.1.T.Marks)) && (decide (y4.1.T.Black = y2.1.T.Black)) then
        bif decide (y6.2.1.Out = 1) then
         bif decide (y6.2.2.1 = 6) then
          bif decide (y6.1.Work = 2) then
           bif decide (y6.1.T.Marks = 3#64) then
            bif decide (y8.2.1.Out = 1) then
             bif decide (y8.2.2.1 = 10) then
              bif y8.1.Flag then
               (idx y8.1.Bins 2).bind fun x13 =>
               bif decide (((x13.length : Int)) = 1) then
                (idx y8.1.Bins 2).bind fun x14 =>
                (idx x14 0).bind fun x15 =>
                bif decide (x15 = 2) then
                 (uK y8.1.P).bind fun y16 =>
                 (vP y8.1.P).bind fun y17 =>
                 (Xg y8.1.M y16.1 y17.1 9).bind fun y18 =>
                 bif decide (((y18.1.length : Int)) = 2) then
                  (uK y8.1.P).bind fun y19 =>
                  (vP y8.1.P).bind fun y20 =>
                  (Xg y8.1.M y19.1 y20.1 9).bind fun y21 =>
                  (xH y21.1 0).bind fun n22 =>
                  (y21.1[n22]?).bind fun x23 =>
                  bif decide (x23 = 2) then
                   bif decide (y10.2.1.Out = 1) then
                    bif !y10.1.Flag then
                     bif decide (y10.1.T.Marks = 5#64) then
                      (zdD y12.2.1).bind fun y24 =>
                      bif decide (y24.1 = 2) then
                       (zdU y12.2.1).bind fun y25 =>
                       bif decide (y25.1 = 1) then
                        (Vs y12.2.1).bind fun y26 =>
                        bif decide (y26.1 = 0) then
                         (Vs y6.2.1).bind fun y27 =>
                         some (decide (y27.1 = 0), ())
                        else
                         some (false, ())
                       else
                        some (false, ())
                      else
                       some (false, ())
                     else
                      some (false, ())
                    else
                     some (false, ())
                   else
                    some (false, ())
                  else
                   some (false, ())
                 else
                  some (false, ())
                else
                 some (false, ())
               else
                some (false, ())
              else
               some (false, ())
             else
              some (false, ())
            else
             some (false, ())
           else
            some (false, ())
          else
           some (false, ())
         else
          some (false, ())
        else
         some (false, ())
       else
        some (false, ())
      else
       some (false, ())
     else
      some (false, ())
    else
     some (false, ()) := zw (by kernel_rfl)
theorem V2 (a1 : zx) : zq a1 =
 bif decide (((a1.L.length : Int)) ≤ a1.At) then
  some (0, a1, ())
 else
  (idx a1.L (w64 ((w64 (a1.At + 1)) - 1))).bind fun x1 =>
  some ((x1.toNat : Int), { a1 with At := w64 (a1.At + 1) }, ()) := zw (by kernel_rfl)
theorem zat (a1 : Int) (a2 : Int) (a3 : zx) : uR a1 a2 a3 =
 (zq a3).bind fun y1 =>
 (xH ([1, 1, 2, 2, 2, 3, 4, 5] : List Int) (y1.1.tmod 8)).bind fun n2 =>
 (([1, 1, 2, 2, 2, 3, 4, 5] : List Int)[n2]?).bind fun x3 =>
 (zq y1.2.1).bind fun y4 =>
 bif decide (a1 = 0) then
  none
 else
  bif decide (x3 = 1) then
   (zq y4.2.1).bind fun y5 =>
   bif decide (a1 = 0) then
    none
   else
    bif decide (x3 < 3) then
     (zq y5.2.1).bind fun y6 =>
     bif decide (a2 = 0) then
      none
     else
      some (zj.mk x3 (y4.1.tmod a1) (y5.1.tmod a1) (y6.1.tmod a2), y6.2.1, ())
    else
     some (zj.mk x3 (y4.1.tmod a1) (y5.1.tmod a1) 0, y5.2.1, ())
  else
   bif decide (x3 = 2) then
    (zq y4.2.1).bind fun y7 =>
    bif decide (a1 = 0) then
     none
    else
     bif decide (x3 < 3) then
      (zq y7.2.1).bind fun y8 =>
      bif decide (a2 = 0) then
       none
      else
       some (zj.mk x3 (y4.1.tmod a1) (y7.1.tmod a1) (y8.1.tmod a2), y8.2.1, ())
     else
      some (zj.mk x3 (y4.1.tmod a1) (y7.1.tmod a1) 0, y7.2.1, ())
   else
    bif decide (x3 = 4) then
     (zq y4.2.1).bind fun y9 =>
     bif decide (a1 = 0) then
      none
     else
      bif decide (x3 < 3) then
       (zq y9.2.1).bind fun y10 =>
       bif decide (a2 = 0) then
        none
       else
        some (zj.mk x3 (y4.1.tmod a1) (y9.1.tmod a1) (y10.1.tmod a2), y10.2.1, ())
      else
       some (zj.mk x3 (y4.1.tmod a1) (y9.1.tmod a1) 0, y9.2.1, ())
    else
     bif decide (x3 < 3) then
      (zq y4.2.1).bind fun y11 =>
      bif decide (a2 = 0) then
       none
      else
       some (zj.mk x3 (y4.1.tmod a1) 0 (y11.1.tmod a2), y11.2.1, ())
     else
      some (zj.mk x3 (y4.1.tmod a1) 0 0, y4.2.1, ()) := zw (by kernel_rfl)
end Go.Pe.G
namespace Go.Pe.G
open Go.Pe
theorem zcR (s1 : Int) (s2 : Int) (s3 : Int) (s4 : Int) (s5 : Int) (s6 : Int) (s7 : Int) (s8 : Int) (s9 : Int) (s10 : Int) (s11 : Int) (s12 : BitVec 64) (s13 : zx) (s14 : Int) (s15 : Int) (s16 : Int) (s17 : Int) (s18 : Int) (s19 : Int) (s20 : Int) (s21 : Int) (s22 : Int) (s23 : BitVec 64) (s24 : List (List Int)) (s25 : List (List Int)) (s26 : List (List zj)) (s27 : List zk) (s28 : List (List Int)) (s29 : List (List Int)) (s30 : List (List zj)) (s31 : List zk) : uB (s1, s2, s3, s4, s5, s6, s7, s8, s9, s10, s11, s12, s13, s14, s15, s16, s17, s18, s19, s20, s21, s22, s23, s24, s25, s26, s27, s28, s29, s30, s31, ()) =
 bif decide (s2 < s1) then
  (yf vT (s1, s2, 0, s3, s4, s5, s6, s7, s8, s9, s10, s11, s12, s13, s14, s15, s16, s17, s18, s19, s20, s21, s22, s23, ([] : List Int), s24, s25, s26, s27, s28, s29, s30, s31, ())).bind fun st => match st with
    | .again _ => none
    | .brk y1 =>
    (xE (y1.2.2.2.2.2.2.2.2.2.2.2.2.2.2.2.2.2.2.2.2.2.2.2.2.2.2.2.2.1 ++ (([y1.2.2.2.2.2.2.2.2.2.2.2.2.2.2.2.2.2.2.2.2.2.2.2.1] : List (List Int))))).bind fun l2 =>
    some (.again (y1.1, w64 (y1.2.1 + 1), y1.2.2.1, y1.2.2.2.1, y1.2.2.2.2.1, y1.2.2.2.2.2.1, y1.2.2.2.2.2.2.1, y1.2.2.2.2.2.2.2.1, y1.2.2.2.2.2.2.2.2.1, y1.2.2.2.2.2.2.2.2.2.1, y1.2.2.2.2.2.2.2.2.2.2.1, y1.2.2.2.2.2.2.2.2.2.2.2.1, y1.2.2.2.2.2.2.2.2.2.2.2.2.1, y1.2.2.2.2.2.2.2.2.2.2.2.2.2.1, y1.2.2.2.2.2.2.2.2.2.2.2.2.2.2.1, y1.2.2.2.2.2.2.2.2.2.2.2.2.2.2.2.1, y1.2.2.2.2.2.2.2.2.2.2.2.2.2.2.2.2.1, y1.2.2.2.2.2.2.2.2.2.2.2.2.2.2.2.2.2.1, y1.2.2.2.2.2.2.2.2.2.2.2.2.2.2.2.2.2.2.1, y1.2.2.2.2.2.2.2.2.2.2.2.2.2.2.2.2.2.2.2.1, y1.2.2.2.2.2.2.2.2.2.2.2.2.2.2.2.2.2.2.2.2.1, y1.2.2.2.2.2.2.2.2.2.2.2.2.2.2.2.2.2.2.2.2.2.1, y1.2.2.2.2.2.2.2.2.2.2.2.2.2.2.2.2.2.2.2.2.2.2.1, y1.2.2.2.2.2.2.2.2.2.2.2.2.2.2.2.2.2.2.2.2.2.2.2.2.1, y1.2.2.2.2.2.2.2.2.2.2.2.2.2.2.2.2.2.2.2.2.2.2.2.2.2.1, y1.2.2.2.2.2.2.2.2.2.2.2.2.2.2.2.2.2.2.2.2.2.2.2.2.2.2.1, y1.2.2.2.2.2.2.2.2.2.2.2.2.2.2.2.2.2.2.2.2.2.2.2.2.2.2.2.1, l2, y1.2.2.2.2.2.2.2.2.2.2.2.2.2.2.2.2.2.2.2.2.2.2.2.2.2.2.2.2.2.1, y1.2.2.2.2.2.2.2.2.2.2.2.2.2.2.2.2.2.2.2.2.2.2.2.2.2.2.2.2.2.2.1, y1.2.2.2.2.2.2.2.2.2.2.2.2.2.2.2.2.2.2.2.2.2.2.2.2.2.2.2.2.2.2.2.1, ()))
    | .ret y1 =>
    some (.ret (()))
 else
  some (.brk (s1, s3, s4, s5, s6, s7, s8, s9, s10, s11, s12, s13, s14, s15, s16, s17, s18, s19, s20, s21, s22, s23, s24, s25, s26, s27, s28, s29, s30, s31, ())) := by kernel_rfl
theorem zch (s1 : Int) (s2 : Int) (s3 : Int) (s4 : Int) (s5 : Int) (s6 : Int) (s7 : Int) (s8 : Int) (s9 : Int) (s10 : Int) (s11 : Int) (s12 : Int) (s13 : BitVec 64) (s14 : zx) (s15 : Int) (s16 : Int) (s17 : Int) (s18 : Int) (s19 : Int) (s20 : Int) (s21 : Int) (s22 : Int) (s23 : Int) (s24 : BitVec 64) (s25 : List Int) (s26 : List (List Int)) (s27 : List (List Int)) (s28 : List (List zj)) (s29 : List zk) (s30 : List (List Int)) (s31 : List (List Int)) (s32 : List (List zj)) (s33 : List zk) : vT (s1, s2, s3, s4, s5, s6, s7, s8, s9, s10, s11, s12, s13, s14, s15, s16, s17, s18, s19, s20, s21, s22, s23, s24, s25, s26, s27, s28, s29, s30, s31, s32, s33, ()) =
 bif decide (s3 < s23) then
  (zq s14).bind fun y1 =>
  bif decide ((w64 (s1 + 1)) = 0) then
   none
  else
   (xE (s25 ++ (([(y1.1.tmod (w64 (s1 + 1)))] : List Int)))).bind fun l2 =>
   some (.again (s1, s2, w64 (s3 + 1), s4, s5, s6, s7, s8, s9, s10, s11, s12, s13, y1.2.1, s15, s16, s17, s18, s19, s20, s21, s22, s23, s24, l2, s26, s27, s28, s29, s30, s31, s32, s33, ()))
 else
  some (.brk (s1, s2, s4, s5, s6, s7, s8, s9, s10, s11, s12, s13, s14, s15, s16, s17, s18, s19, s20, s21, s22, s23, s24, s25, s26, s27, s28, s29, s30, s31, s32, s33, ())) := by kernel_rfl
theorem zcD (s1 : Int) (s2 : Int) (s3 : Int) (s4 : Int) (s5 : Int) (s6 : Int) (s7 : Int) (s8 : Int) (s9 : Int) (s10 : Int) (s11 : Int) (s12 : BitVec 64) (s13 : zx) (s14 : Int) (s15 : Int) (s16 : Int) (s17 : Int) (s18 : Int) (s19 : Int) (s20 : Int) (s21 : Int) (s22 : Int) (s23 : BitVec 64) (s24 : List (List Int)) (s25 : List (List Int)) (s26 : List (List zj)) (s27 : List zk) (s28 : List (List Int)) (s29 : List (List Int)) (s30 : List (List zj)) (s31 : List zk) : vS (s1, s2, s3, s4, s5, s6, s7, s8, s9, s10, s11, s12, s13, s14, s15, s16, s17, s18, s19, s20, s21, s22, s23, s24, s25, s26, s27, s28, s29, s30, s31, ()) =
 bif decide (s2 < s15) then
  (yf vX (s1, s2, 0, s3, s4, s5, s6, s7, s8, s9, s10, s11, s12, s13, s14, s15, s16, s17, s18, s19, s20, s21, s22, s23, ([] : List Int), s24, s25, s26, s27, s28, s29, s30, s31, ())).bind fun st => match st with
    | .again _ => none
    | .brk y1 =>
    bif decide (((y1.2.2.2.2.2.2.2.2.2.2.2.2.2.2.2.2.2.2.2.2.2.2.2.1.length : Int)) = 0) then
     (zq y1.2.2.2.2.2.2.2.2.2.2.2.2.1).bind fun y2 =>
     (yf wB (y1.1, y1.2.1, y2.1.tmod 8, y1.2.2.1, y1.2.2.2.1, y1.2.2.2.2.1, y1.2.2.2.2.2.1, y1.2.2.2.2.2.2.1, y1.2.2.2.2.2.2.2.1, y1.2.2.2.2.2.2.2.2.1, y1.2.2.2.2.2.2.2.2.2.1, y1.2.2.2.2.2.2.2.2.2.2.1, y1.2.2.2.2.2.2.2.2.2.2.2.1, y2.2.1, y1.2.2.2.2.2.2.2.2.2.2.2.2.2.1, y1.2.2.2.2.2.2.2.2.2.2.2.2.2.2.1, y1.2.2.2.2.2.2.2.2.2.2.2.2.2.2.2.1, y1.2.2.2.2.2.2.2.2.2.2.2.2.2.2.2.2.1, y1.2.2.2.2.2.2.2.2.2.2.2.2.2.2.2.2.2.1, y1.2.2.2.2.2.2.2.2.2.2.2.2.2.2.2.2.2.2.1, y1.2.2.2.2.2.2.2.2.2.2.2.2.2.2.2.2.2.2.2.1, y1.2.2.2.2.2.2.2.2.2.2.2.2.2.2.2.2.2.2.2.2.1, y1.2.2.2.2.2.2.2.2.2.2.2.2.2.2.2.2.2.2.2.2.2.1, y1.2.2.2.2.2.2.2.2.2.2.2.2.2.2.2.2.2.2.2.2.2.2.1, ([0] : List Int), ([] : List zj), y1.2.2.2.2.2.2.2.2.2.2.2.2.2.2.2.2.2.2.2.2.2.2.2.2.1, y1.2.2.2.2.2.2.2.2.2.2.2.2.2.2.2.2.2.2.2.2.2.2.2.2.2.1, y1.2.2.2.2.2.2.2.2.2.2.2.2.2.2.2.2.2.2.2.2.2.2.2.2.2.2.1, y1.2.2.2.2.2.2.2.2.2.2.2.2.2.2.2.2.2.2.2.2.2.2.2.2.2.2.2.1, y1.2.2.2.2.2.2.2.2.2.2.2.2.2.2.2.2.2.2.2.2.2.2.2.2.2.2.2.2.1, y1.2.2.2.2.2.2.2.2.2.2.2.2.2.2.2.2.2.2.2.2.2.2.2.2.2.2.2.2.2.1, y1.2.2.2.2.2.2.2.2.2.2.2.2.2.2.2.2.2.2.2.2.2.2.2.2.2.2.2.2.2.2.1, y1.2.2.2.2.2.2.2.2.2.2.2.2.2.2.2.2.2.2.2.2.2.2.2.2.2.2.2.2.2.2.2.1, ())).bind fun st => match st with
       | .again _ => none
       | .brk y3 =>
       (xE (y3.2.2.2.2.2.2.2.2.2.2.2.2.2.2.2.2.2.2.2.2.2.2.2.2.2.2.2.2.2.2.1 ++ (([y3.2.2.2.2.2.2.2.2.2.2.2.2.2.2.2.2.2.2.2.2.2.2.2.1] : List (List Int))))).bind fun l4 =>
       (xE (y3.2.2.2.2.2.2.2.2.2.2.2.2.2.2.2.2.2.2.2.2.2.2.2.2.2.2.2.2.2.2.2.1 ++ (([y3.2.2.2.2.2.2.2.2.2.2.2.2.2.2.2.2.2.2.2.2.2.2.2.2.1] : List (List zj))))).bind fun l5 =>
       some (.again (y3.1, w64 (y3.2.1 + 1), y3.2.2.1, y3.2.2.2.1, y3.2.2.2.2.1, y3.2.2.2.2.2.1, y3.2.2.2.2.2.2.1, y3.2.2.2.2.2.2.2.1, y3.2.2.2.2.2.2.2.2.1, y3.2.2.2.2.2.2.2.2.2.1, y3.2.2.2.2.2.2.2.2.2.2.1, y3.2.2.2.2.2.2.2.2.2.2.2.1, y3.2.2.2.2.2.2.2.2.2.2.2.2.1, y3.2.2.2.2.2.2.2.2.2.2.2.2.2.1, y3.2.2.2.2.2.2.2.2.2.2.2.2.2.2.1, y3.2.2.2.2.2.2.2.2.2.2.2.2.2.2.2.1, y3.2.2.2.2.2.2.2.2.2.2.2.2.2.2.2.2.1, y3.2.2.2.2.2.2.2.2.2.2.2.2.2.2.2.2.2.1, y3.2.2.2.2.2.2.2.2.2.2.2.2.2.2.2.2.2.2.1, y3.2.2.2.2.2.2.2.2.2.2.2.2.2.2.2.2.2.2.2.1, y3.2.2.2.2.2.2.2.2.2.2.2.2.2.2.2.2.2.2.2.2.1, y3.2.2.2.2.2.2.2.2.2.2.2.2.2.2.2.2.2.2.2.2.2.1, y3.2.2.2.2.2.2.2.2.2.2.2.2.2.2.2.2.2.2.2.2.2.2.1, y3.2.2.2.2.2.2.2.2.2.2.2.2.2.2.2.2.2.2.2.2.2.2.2.2.2.1, y3.2.2.2.2.2.2.2.2.2.2.2.2.2.2.2.2.2.2.2.2.2.2.2.2.2.2.1, y3.2.2.2.2.2.2.2.2.2.2.2.2.2.2.2.2.2.2.2.2.2.2.2.2.2.2.2.1, y3.2.2.2.2.2.2.2.2.2.2.2.2.2.2.2.2.2.2.2.2.2.2.2.2.2.2.2.2.1, y3.2.2.2.2.2.2.2.2.2.2.2.2.2.2.2.2.2.2.2.2.2.2.2.2.2.2.2.2.2.1, l4, l5, y3.2.2.2.2.2.2.2.2.2.2.2.2.2.2.2.2.2.2.2.2.2.2.2.2.2.2.2.2.2.2.2.2.1, ()))
       | .ret y3 =>
       some (.ret (()))
    else
     (zq y1.2.2.2.2.2.2.2.2.2.2.2.2.1).bind fun y6 =>
     (yf wB (y1.1, y1.2.1, y6.1.tmod 8, y1.2.2.1, y1.2.2.2.1, y1.2.2.2.2.1, y1.2.2.2.2.2.1, y1.2.2.2.2.2.2.1, y1.2.2.2.2.2.2.2.1, y1.2.2.2.2.2.2.2.2.1, y1.2.2.2.2.2.2.2.2.2.1, y1.2.2.2.2.2.2.2.2.2.2.1, y1.2.2.2.2.2.2.2.2.2.2.2.1, y6.2.1, y1.2.2.2.2.2.2.2.2.2.2.2.2.2.1, y1.2.2.2.2.2.2.2.2.2.2.2.2.2.2.1, y1.2.2.2.2.2.2.2.2.2.2.2.2.2.2.2.1, y1.2.2.2.2.2.2.2.2.2.2.2.2.2.2.2.2.1, y1.2.2.2.2.2.2.2.2.2.2.2.2.2.2.2.2.2.1, y1.2.2.2.2.2.2.2.2.2.2.2.2.2.2.2.2.2.2.1, y1.2.2.2.2.2.2.2.2.2.2.2.2.2.2.2.2.2.2.2.1, y1.2.2.2.2.2.2.2.2.2.2.2.2.2.2.2.2.2.2.2.2.1, y1.2.2.2.2.2.2.2.2.2.2.2.2.2.2.2.2.2.2.2.2.2.1, y1.2.2.2.2.2.2.2.2.2.2.2.2.2.2.2.2.2.2.2.2.2.2.1, y1.2.2.2.2.2.2.2.2.2.2.2.2.2.2.2.2.2.2.2.2.2.2.2.1, ([] : List zj), y1.2.2.2.2.2.2.2.2.2.2.2.2.2.2.2.2.2.2.2.2.2.2.2.2.1, y1.2.2.2.2.2.2.2.2.2.2.2.2.2.2.2.2.2.2.2.2.2.2.2.2.2.1, y1.2.2.2.2.2.2.2.2.2.2.2.2.2.2.2.2.2.2.2.2.2.2.2.2.2.2.1, y1.2.2.2.2.2.2.2.2.2.2.2.2.2.2.2.2.2.2.2.2.2.2.2.2.2.2.2.1, y1.2.2.2.2.2.2.2.2.2.2.2.2.2.2.2.2.2.2.2.2.2.2.2.2.2.2.2.2.1, y1.2.2.2.2.2.2.2.2.2.2.2.2.2.2.2.2.2.2.2.2.2.2.2.2.2.2.2.2.2.1, y1.2.2.2.2.2.2.2.2.2.2.2.2.2.2.2.2.2.2.2.2.2.2.2.2.2.2.2.2.2.2.1, y1.2.2.2.2.2.2.2.2.2.2.2.2.2.2.2.2.2.2.2.2.2.2.2.2.2.2.2.2.2.2.2.1, ())).bind fun st => match st with
       | .again _ => none
       | .brk y7 =>
       (xE (y7.2.2.2.2.2.2.2.2.2.2.2.2.2.2.2.2.2.2.2.2.2.2.2.2.2.2.2.2.2.2.1 ++ (([y7.2.2.2.2.2.2.2.2.2.2.2.2.2.2.2.2.2.2.2.2.2.2.2.1] : List (List Int))))).bind fun l8 =>
       (xE (y7.2.2.2.2.2.2.2.2.2.2.2.2.2.2.2.2.2.2.2.2.2.2.2.2.2.2.2.2.2.2.2.1 ++ (([y7.2.2.2.2.2.2.2.2.2.2.2.2.2.2.2.2.2.2.2.2.2.2.2.2.1] : List (List zj))))).bind fun l9 =>
       some (.again (y7.1, w64 (y7.2.1 + 1), y7.2.2.1, y7.2.2.2.1, y7.2.2.2.2.1, y7.2.2.2.2.2.1, y7.2.2.2.2.2.2.1, y7.2.2.2.2.2.2.2.1, y7.2.2.2.2.2.2.2.2.1, y7.2.2.2.2.2.2.2.2.2.1, y7.2.2.2.2.2.2.2.2.2.2.1, y7.2.2.2.2.2.2.2.2.2.2.2.1, y7.2.2.2.2.2.2.2.2.2.2.2.2.1, y7.2.2.2.2.2.2.2.2.2.2.2.2.2.1, y7.2.2.2.2.2.2.2.2.2.2.2.2.2.2.1, y7.2.2.2.2.2.2.2.2.2.2.2.2.2.2.2.1, y7.2.2.2.2.2.2.2.2.2.2.2.2.2.2.2.2.1, y7.2.2.2.2.2.2.2.2.2.2.2.2.2.2.2.2.2.1, y7.2.2.2.2.2.2.2.2.2.2.2.2.2.2.2.2.2.2.1, y7.2.2.2.2.2.2.2.2.2.2.2.2.2.2.2.2.2.2.2.1, y7.2.2.2.2.2.2.2.2.2.2.2.2.2.2.2.2.2.2.2.2.1, y7.2.2.2.2.2.2.2.2.2.2.2.2.2.2.2.2.2.2.2.2.2.1, y7.2.2.2.2.2.2.2.2.2.2.2.2.2.2.2.2.2.2.2.2.2.2.1, y7.2.2.2.2.2.2.2.2.2.2.2.2.2.2.2.2.2.2.2.2.2.2.2.2.2.1, y7.2.2.2.2.2.2.2.2.2.2.2.2.2.2.2.2.2.2.2.2.2.2.2.2.2.2.1, y7.2.2.2.2.2.2.2.2.2.2.2.2.2.2.2.2.2.2.2.2.2.2.2.2.2.2.2.1, y7.2.2.2.2.2.2.2.2.2.2.2.2.2.2.2.2.2.2.2.2.2.2.2.2.2.2.2.2.1, y7.2.2.2.2.2.2.2.2.2.2.2.2.2.2.2.2.2.2.2.2.2.2.2.2.2.2.2.2.2.1, l8, l9, y7.2.2.2.2.2.2.2.2.2.2.2.2.2.2.2.2.2.2.2.2.2.2.2.2.2.2.2.2.2.2.2.2.1, ()))
       | .ret y7 =>
       some (.ret (()))
    | .ret y1 =>
    some (.ret (()))
 else
  some (.brk (s3, s4, s5, s6, s7, s8, s9, s10, s11, s12, s14, s15, s16, s17, s18, s19, s20, s21, s22, s23, s24, s25, s26, s27, s28, s29, s30, s31, ())) := by kernel_rfl
theorem zbX (s1 : Int) (s2 : Int) (s3 : Int) (s4 : Int) (s5 : Int) (s6 : Int) (s7 : Int) (s8 : Int) (s9 : Int) (s10 : Int) (s11 : Int) (s12 : Int) (s13 : BitVec 64) (s14 : zx) (s15 : Int) (s16 : Int) (s17 : Int) (s18 : Int) (s19 : Int) (s20 : Int) (s21 : Int) (s22 : Int) (s23 : Int) (s24 : BitVec 64) (s25 : List Int) (s26 : List (List Int)) (s27 : List (List Int)) (s28 : List (List zj)) (s29 : List zk) (s30 : List (List Int)) (s31 : List (List Int)) (s32 : List (List zj)) (s33 : List zk) : vX (s1, s2, s3, s4, s5, s6, s7, s8, s9, s10, s11, s12, s13, s14, s15, s16, s17, s18, s19, s20, s21, s22, s23, s24, s25, s26, s27, s28, s29, s30, s31, s32, s33, ()) =
 (zq s14).bind fun y1 =>
 bif decide (s3 < (w64 (1 + (y1.1.tmod 3)))) then
  (zq y1.2.1).bind fun y2 =>
  bif decide ((w64 (s1 + 1)) = 0) then
   none
  else
   (xE (s25 ++ (([(y2.1.tmod (w64 (s1 + 1)))] : List Int)))).bind fun l3 =>
   some (.again (s1, s2, w64 (s3 + 1), s4, s5, s6, s7, s8, s9, s10, s11, s12, s13, y2.2.1, s15, s16, s17, s18, s19, s20, s21, s22, s23, s24, l3, s26, s27, s28, s29, s30, s31, s32, s33, ()))
 else
  some (.brk (s1, s2, s4, s5, s6, s7, s8, s9, s10, s11, s12, s13, y1.2.1, s15, s16, s17, s18, s19, s20, s21, s22, s23, s24, s25, s26, s27, s28, s29, s30, s31, s32, s33, ())) := by kernel_rfl
theorem zcr (s1 : Int) (s2 : Int) (s3 : Int) (s4 : Int) (s5 : Int) (s6 : Int) (s7 : Int) (s8 : Int) (s9 : Int) (s10 : Int) (s11 : Int) (s12 : Int) (s13 : BitVec 64) (s14 : zx) (s15 : Int) (s16 : Int) (s17 : Int) (s18 : Int) (s19 : Int) (s20 : Int) (s21 : Int) (s22 : Int) (s23 : Int) (s24 : BitVec 64) (s25 : List Int) (s26 : List zj) (s27 : List (List Int)) (s28 : List (List Int)) (s29 : List (List zj)) (s30 : List zk) (s31 : List (List Int)) (s32 : List (List Int)) (s33 : List (List zj)) (s34 : List zk) : wB (s1, s2, s3, s4, s5, s6, s7, s8, s9, s10, s11, s12, s13, s14, s15, s16, s17, s18, s19, s20, s21, s22, s23, s24, s25, s26, s27, s28, s29, s30, s31, s32, s33, s34, ()) =
 bif decide (0 < s3) then
  (uR ((s25.length : Int)) s23 s14).bind fun y1 =>
  (xE (s26 ++ ([y1.1] : List zj))).bind fun l2 =>
  some (.again (s1, s2, w64 (s3 - 1), s4, s5, s6, s7, s8, s9, s10, s11, s12, s13, y1.2.1, s15, s16, s17, s18, s19, s20, s21, s22, s23, s24, s25, l2, s27, s28, s29, s30, s31, s32, s33, s34, ()))
 else
  some (.brk (s1, s2, s4, s5, s6, s7, s8, s9, s10, s11, s12, s13, s14, s15, s16, s17, s18, s19, s20, s21, s22, s23, s24, s25, s26, s27, s28, s29, s30, s31, s32, s33, s34, ())) := by kernel_rfl
theorem zeK (a1 : List (BitVec 8)) : ul a1 =
 (cut a1 0 (bif decide (90 < ((a1.length : Int))) then 90 else ((a1.length : Int)))).bind fun l1 =>
 (zq (zx.mk l1 0)).bind fun y2 =>
 (zq y2.2.1).bind fun y3 =>
 (zq y3.2.1).bind fun y4 =>
 (zq y4.2.1).bind fun y5 =>
 (zq y5.2.1).bind fun y6 =>
 (zq y6.2.1).bind fun y7 =>
 (zq y7.2.1).bind fun y8 =>
 (zq y8.2.1).bind fun y9 =>
 (zq y9.2.1).bind fun y10 =>
 (zq y10.2.1).bind fun y11 =>
 (yf uB (w64 (1 + (y10.1.tmod 6)), 0, 0, 0, 0, 0, 0, 0, 0, 0, 0, 0#64, y11.2.1, w64 (1 + (y2.1.tmod 3)), y3.1.tmod 3, w64 (1 + (y4.1.tmod 3)), w64 (1 + (y5.1.tmod 2)), w64 (1 + (y6.1.tmod 3)), w64 ((w64 (1 + (y10.1.tmod 6))) + (y11.1.tmod 4)), y7.1.tmod 4, y8.1.tmod 4, w64 (1 + (y9.1.tmod 2)), 0#64, ([] : List (List Int)), ([] : List (List Int)), ([] : List (List zj)), ([] : List zk), ([] : List (List Int)), ([] : List (List Int)), ([] : List (List zj)), ([] : List zk), ())).bind fun st => match st with
   | .again _ => none
   | .brk y12 =>
   (zq y12.2.2.2.2.2.2.2.2.2.2.2.1).bind fun y13 =>
   bif decide ((w64 (y12.1 + 1)) = 0) then
    none
   else
    (Xu 0#64 (y13.1.tmod (w64 (y12.1 + 1)))).bind fun y14 =>
    (yf vS (y12.1, 0, y12.2.1, y12.2.2.1, y12.2.2.2.1, y12.2.2.2.2.1, y12.2.2.2.2.2.1, y12.2.2.2.2.2.2.1, y12.2.2.2.2.2.2.2.1, y12.2.2.2.2.2.2.2.2.1, y12.2.2.2.2.2.2.2.2.2.1, y12.2.2.2.2.2.2.2.2.2.2.1, y13.2.1, y12.2.2.2.2.2.2.2.2.2.2.2.2.1, y12.2.2.2.2.2.2.2.2.2.2.2.2.2.1, y12.2.2.2.2.2.2.2.2.2.2.2.2.2.2.1, y12.2.2.2.2.2.2.2.2.2.2.2.2.2.2.2.1, y12.2.2.2.2.2.2.2.2.2.2.2.2.2.2.2.2.1, y12.2.2.2.2.2.2.2.2.2.2.2.2.2.2.2.2.2.1, y12.2.2.2.2.2.2.2.2.2.2.2.2.2.2.2.2.2.2.1, y12.2.2.2.2.2.2.2.2.2.2.2.2.2.2.2.2.2.2.2.1, y12.2.2.2.2.2.2.2.2.2.2.2.2.2.2.2.2.2.2.2.2.1, y14.1, y12.2.2.2.2.2.2.2.2.2.2.2.2.2.2.2.2.2.2.2.2.2.2.1, y12.2.2.2.2.2.2.2.2.2.2.2.2.2.2.2.2.2.2.2.2.2.2.2.1, y12.2.2.2.2.2.2.2.2.2.2.2.2.2.2.2.2.2.2.2.2.2.2.2.2.1, y12.2.2.2.2.2.2.2.2.2.2.2.2.2.2.2.2.2.2.2.2.2.2.2.2.2.1, y12.2.2.2.2.2.2.2.2.2.2.2.2.2.2.2.2.2.2.2.2.2.2.2.2.2.2.1, y12.2.2.2.2.2.2.2.2.2.2.2.2.2.2.2.2.2.2.2.2.2.2.2.2.2.2.2.1, y12.2.2.2.2.2.2.2.2.2.2.2.2.2.2.2.2.2.2.2.2.2.2.2.2.2.2.2.2.1, y12.2.2.2.2.2.2.2.2.2.2.2.2.2.2.2.2.2.2.2.2.2.2.2.2.2.2.2.2.2.1, ())).bind fun st => match st with
      | .again _ => none
      | .brk y15 =>
      some (zb.mk y15.2.2.2.2.2.2.2.2.2.2.1 y15.2.2.2.2.2.2.2.2.2.2.2.1 y15.2.2.2.2.2.2.2.2.2.2.2.2.1 y15.2.2.2.2.2.2.2.2.2.2.2.2.2.1 y15.2.2.2.2.2.2.2.2.2.2.2.2.2.2.1 y15.2.2.2.2.2.2.2.2.2.2.2.2.2.2.2.1 y15.2.2.2.2.2.2.2.2.2.2.2.2.2.2.2.2.1 y15.2.2.2.2.2.2.2.2.2.2.2.2.2.2.2.2.2.1 (zG.mk y15.2.2.2.2.2.2.2.2.2.2.2.2.2.2.2.2.2.2.1 y15.2.2.2.2.2.2.2.2.2.2.2.2.2.2.2.2.2.2.2.2.2.2.2.2.1) y15.2.2.2.2.2.2.2.2.2.2.2.2.2.2.2.2.2.2.2.1 y15.2.2.2.2.2.2.2.2.2.2.2.2.2.2.2.2.2.2.2.2.2.2.2.2.2.1 y15.2.2.2.2.2.2.2.2.2.2.2.2.2.2.2.2.2.2.2.2.2.2.2.2.2.2.1 y15.2.2.2.2.2.2.2.2.2.2.2.2.2.2.2.2.2.2.2.2.2.2.2.2.2.2.2.1, ())
      | .ret y15 =>
      none
   | .ret y12 =>
   none := zw (by kernel_rfl)
theorem zaY (a1 : ya) (a2 : zb) : xV a1 a2 =
 bif decide (((a2.H.Objs.length : Int)) = 0) then
  none
 else
  bif decide (a2.Workers = 0) then
   none
  else
   (w8 (w64 (1 + (((a1.Mode % 3#8).toNat : Int)))) (w64 (1 + (((a1.Obj.toNat : Int)).tmod ((a2.H.Objs.length : Int))))) (w64 (1 + (((a1.Who.toNat : Int)).tmod a2.Workers)))).bind fun y1 =>
   some (y1.1, ()) := zw (by kernel_rfl)
theorem Wo (s1 : List (BitVec 8)) (s2 : Int) (s3 : Int) (s4 : Int) (s5 : Int) (s6 : Int) (s7 : Int) (s8 : Int) (s9 : Int) (s10 : Int) (s11 : Int) (s12 : BitVec 64) (s13 : Int) (s14 : zo) (s15 : Int) (s16 : Int) (s17 : Bool) (s18 : Bool) (s19 : Int) (s20 : Int) (s21 : Int) (s22 : Int) (s23 : zn) (s24 : za) (s25 : List zd) (s26 : List (List Int)) (s27 : List (List Int)) (s28 : List (List zj)) (s29 : List zk) (s30 : List (List Int)) (s31 : List (BitVec 64)) (s32 : List (List Int)) (s33 : List Int) (s34 : List Int) (s35 : List zi) (s36 : List ze) : yJ (s1, s2, s3, s4, s5, s6, s7, s8, s9, s10, s11, s12, s13, s14, s15, s16, s17, s18, s19, s20, s21, s22, s23, s24, s25, s26, s27, s28, s29, s30, s31, s32, s33, s34, s35, s36, ()) =
 bif decide (s2 < ((s1.length : Int))) then
  bif decide (s2 < 60) then
   (idx s1 s2).bind fun x1 =>
   (xH s25 (((x1 % 2#8).toNat : Int))).bind fun n2 =>
   (s25[n2]?).bind fun x3 =>
   (YM s24 x3).bind fun y4 =>
   (xH s25 (((x1 % 2#8).toNat : Int))).bind fun n5 =>
   some (.again (s1, w64 (s2 + 1), s3, s4, s5, s6, s7, s8, s9, s10, s11, s12, s13, s14, s15, s16, s17, s18, s19, s20, s21, s22, s23, y4.1, s25.set n5 y4.2.1, s26, s27, s28, s29, s30, s31, s32, s33, s34, s35, s36, ()))
  else
   some (.brk (s3, s4, s5, s6, s7, s8, s9, s10, s11, s12, s13, s14, s15, s16, s17, s18, s19, s20, s21, s22, s23, s24, s25, s26, s27, s28, s29, s30, s31, s32, s33, s34, s35, s36, ()))
 else
  some (.brk (s3, s4, s5, s6, s7, s8, s9, s10, s11, s12, s13, s14, s15, s16, s17, s18, s19, s20, s21, s22, s23, s24, s25, s26, s27, s28, s29, s30, s31, s32, s33, s34, s35, s36, ())) := by kernel_rfl
theorem V8 (a1 : List (BitVec 8)) (a2 : ya) (a3 : ya) (a4 : List (BitVec 8)) : WY a1 a2 a3 a4 =
 (ul a1).bind fun y1 =>
 (WB y1.1).bind fun y2 =>
 (xV a2 y1.1).bind fun y3 =>
 (xV a3 y1.1).bind fun y4 =>
 bif decide ((a2.Mode % 3#8) = 0#8) then
  bif decide ((a3.Mode % 3#8) = 0#8) then
   (xH ([y3.1, y4.1] : List zd) 0).bind fun n5 =>
   (([y3.1, y4.1] : List zd)[n5]?).bind fun x6 =>
   (xH ([y3.1, y4.1] : List zd) 1).bind fun n7 =>
   (([y3.1, y4.1] : List zd)[n7]?).bind fun x8 =>
   bif decide (x6.Who = x8.Who) then
    (xH ([y3.1, y4.1] : List zd) 1).bind fun n9 =>
    (([y3.1, y4.1] : List zd)[n9]?).bind fun x10 =>
    (w8 3 x10.Obj 1).bind fun y11 =>
    (xH ([y3.1, y4.1] : List zd) 1).bind fun n12 =>
    (yf yJ (a4, 0, 0, 0, 0, 0, 0, 0, 0, 0, 0, 0#64, 0, zo.mk 0#64 0#64, 0, 0, false, false, 0, 0, 0, 0, zn.mk 0 0, y2.1, ([y3.1, y4.1] : List zd).set n12 y11.1, ([] : List (List Int)), ([] : List (List Int)), ([] : List (List zj)), ([] : List zk), ([] : List (List Int)), ([] : List (BitVec 64)), ([] : List (List Int)), ([] : List Int), ([] : List Int), ([] : List zi), ([] : List ze), ())).bind fun st => match st with
      | .again _ => none
      | .brk y13 =>
      some (y13.2.2.2.2.2.2.2.2.2.2.2.2.2.2.2.2.2.2.2.2.2.1, y13.2.2.2.2.2.2.2.2.2.2.2.2.2.2.2.2.2.2.2.2.2.2.1, ())
      | .ret y13 =>
      none
   else
    (yf yJ (a4, 0, 0, 0, 0, 0, 0, 0, 0, 0, 0, 0#64, 0, zo.mk 0#64 0#64, 0, 0, false, false, 0, 0, 0, 0, zn.mk 0 0, y2.1, ([y3.1, y4.1] : List zd), ([] : List (List Int)), ([] : List (List Int)), ([] : List (List zj)), ([] : List zk), ([] : List (List Int)), ([] : List (BitVec 64)), ([] : List (List Int)), ([] : List Int), ([] : List Int), ([] : List zi), ([] : List ze), ())).bind fun st => match st with
      | .again _ => none
      | .brk y14 =>
      some (y14.2.2.2.2.2.2.2.2.2.2.2.2.2.2.2.2.2.2.2.2.2.1, y14.2.2.2.2.2.2.2.2.2.2.2.2.2.2.2.2.2.2.2.2.2.2.1, ())
      | .ret y14 =>
      none
  else
   (yf yJ (a4, 0, 0, 0, 0, 0, 0, 0, 0, 0, 0, 0#64, 0, zo.mk 0#64 0#64, 0, 0, false, false, 0, 0, 0, 0, zn.mk 0 0, y2.1, ([y3.1, y4.1] : List zd), ([] : List (List Int)), ([] : List (List Int)), ([] : List (List zj)), ([] : List zk), ([] : List (List Int)), ([] : List (BitVec 64)), ([] : List (List Int)), ([] : List Int), ([] : List Int), ([] : List zi), ([] : List ze), ())).bind fun st => match st with
     | .again _ => none
     | .brk y15 =>
     some (y15.2.2.2.2.2.2.2.2.2.2.2.2.2.2.2.2.2.2.2.2.2.1, y15.2.2.2.2.2.2.2.2.2.2.2.2.2.2.2.2.2.2.2.2.2.2.1, ())
     | .ret y15 =>
     none
 else
  (yf yJ (a4, 0, 0, 0, 0, 0, 0, 0, 0, 0, 0, 0#64, 0, zo.mk 0#64 0#64, 0, 0, false, false, 0, 0, 0, 0, zn.mk 0 0, y2.1, ([y3.1, y4.1] : List zd), ([] : List (List Int)), ([] : List (List Int)), ([] : List (List zj)), ([] : List zk), ([] : List (List Int)), ([] : List (BitVec 64)), ([] : List (List Int)), ([] : List Int), ([] : List Int), ([] : List zi), ([] : List ze), ())).bind fun st => match st with
    | .again _ => none
    | .brk y16 =>
    some (y16.2.2.2.2.2.2.2.2.2.2.2.2.2.2.2.2.2.2.2.2.2.1, y16.2.2.2.2.2.2.2.2.2.2.2.2.2.2.2.2.2.2.2.2.2.2.1, ())
    | .ret y16 =>
    none := zw (by kernel_rfl)
theorem zma (a1 : zo) (a2 : Int) : zaB a1 a2 =
 (zab (a1.Marks &&& a1.Black) a2).bind fun y1 =>
 bif y1.1 then
  some (2, ())
 else
  (zab a1.Marks a2).bind fun y2 =>
  bif y2.1 then
   some (1, ())
  else
   some (0, ()) := zw (by kernel_rfl)
theorem zcK (a1 : za) (a2 : zd) (a3 : zd) : Yw a1 a2 a3 =
 bif decide (a2.Mode = 2) then
  (zaB a1.T a2.Obj).bind fun y1 =>
  bif decide (a3.Mode = 2) then
   (zaB a1.T a3.Obj).bind fun y2 =>
   bif decide (y1.1 = 0) then
    bif !(decide (a2.Obj = a3.Obj)) then
     some (true, ())
    else
     bif decide (y2.1 = 0) then
      some (true, ())
     else
      bif decide (y2.1 = 0) then
       bif !(decide (a2.Obj = a3.Obj)) then
        some (true, ())
       else
        some (decide (y1.1 = 0), ())
      else
       some (false, ())
   else
    bif decide (y2.1 = 0) then
     bif !(decide (a2.Obj = a3.Obj)) then
      some (true, ())
     else
      some (decide (y1.1 = 0), ())
    else
     some (false, ())
  else
   bif decide (y1.1 = 0) then
    bif !(decide (a2.Obj = a3.Obj)) then
     some (true, ())
    else
     some (false, ())
   else
    some (false, ())
 else
  bif decide (a3.Mode = 2) then
   (zaB a1.T a3.Obj).bind fun y3 =>
   bif decide (y3.1 = 0) then
    bif !(decide (a2.Obj = a3.Obj)) then
     some (true, ())
    else
     some (false, ())
   else
    some (false, ())
  else
   some (false, ()) := zw (by kernel_rfl)
theorem zcW (a1 : List zd) : VP a1 =
 (idx a1 0).bind fun x1 =>
 bif decide (x1.Mode = 2) then
  some (true, ())
 else
  (idx a1 1).bind fun x2 =>
  some (decide (x2.Mode = 2), ()) := zw (by kernel_rfl)
theorem vR (s1 : Bool) (s2 : Int) (s3 : za) (s4 : za) (s5 : List zd) : uS (s1, s2, s3, s4, s5, ()) =
 bif decide (s2 < ((s5.length : Int))) then
  (xH s5 s2).bind fun n1 =>
  (s5[n1]?).bind fun x2 =>
  (yU s4 x2 60).bind fun y3 =>
  (xH s5 s2).bind fun n4 =>
  some (.again (s1, w64 (s2 + 1), s3, y3.1, s5.set n4 y3.2.1, ()))
 else
  some (.brk (s1, s3, s4, s5, ())) := by kernel_rfl
theorem zb1 (a1 : List (BitVec 8)) (a2 : ya) (a3 : ya) (a4 : List (BitVec 8)) : wz a1 a2 a3 a4 =
 (Yf).bind fun y1 =>
 bif !y1.1 then
  some (false, ())
 else
  (ul a1).bind fun y2 =>
  (WB y2.1).bind fun y3 =>
  (WY a1 a2 a3 a4).bind fun y4 =>
  (yf uS (y1.1, 0, y3.1, y4.1, y4.2.1, ())).bind fun st => match st with
    | .again _ => none
    | .brk y5 =>
    bif !(decide (((y5.2.2.2.1.length : Int)) = 2)) then
     some (false, ())
    else
     (xH y5.2.2.2.1 0).bind fun n6 =>
     (y5.2.2.2.1[n6]?).bind fun x7 =>
     bif !(decide (x7.Out = 1)) then
      some (false, ())
     else
      (xH y5.2.2.2.1 1).bind fun n8 =>
      (y5.2.2.2.1[n8]?).bind fun x9 =>
      bif !(decide (x9.Out = 1)) then
       some (false, ())
      else
       (xH y5.2.2.2.1 0).bind fun n10 =>
       (y5.2.2.2.1[n10]?).bind fun x11 =>
       (Xu y5.2.1.T.Marks x11.Obj).bind fun y12 =>
       (xH y5.2.2.2.1 1).bind fun n13 =>
       (y5.2.2.2.1[n13]?).bind fun x14 =>
       (Xu y12.1 x14.Obj).bind fun y15 =>
       bif y5.1 then
        bif decide (y5.2.2.1.T.Marks = y15.1) then
         bif decide (y5.2.2.1.T.Black = y5.2.1.T.Black) then
          (UV y15.1).bind fun y16 =>
          bif decide (y5.2.2.1.Work = y16.1) then
           (xH y5.2.2.2.1 0).bind fun n17 =>
           (y5.2.2.2.1[n17]?).bind fun x18 =>
           (xH y5.2.2.2.1 1).bind fun n19 =>
           (y5.2.2.2.1[n19]?).bind fun x20 =>
           (Yw y5.2.1 x18 x20).bind fun y21 =>
           bif y21.1 then
            some (decide (y5.2.2.1.Flag = true), ())
           else
            bif y5.2.2.1.Flag then
             (VP y5.2.2.2.1).bind fun y22 =>
             some (decide (y5.2.2.1.Flag = y22.1), ())
            else
             some (decide (y5.2.2.1.Flag = false), ())
          else
           some (false, ())
         else
          some (false, ())
        else
         some (false, ())
       else
        some (false, ())
    | .ret y5 =>
    none := zw (by kernel_rfl)
end Go.Pe.G

namespace Go.Pe.G
open Go.Pe
theorem zts : Go.Proofs.Tryz.prog.funcs[62]? = some Go.Proofs.Tryz.f62 := by kernel_rfl
theorem zsk : Go.Proofs.Tryz.f62.body.isSome = true := by kernel_rfl
theorem zsE : ub Go.Proofs.Tryz.prog 62 = true := by kernel_rfl
theorem ztt : Go.Proofs.Tryz.prog.funcs[84]? = some Go.Proofs.Tryz.f84 := by kernel_rfl
theorem zr3 : Go.Proofs.Tryz.f84.body.isSome = true := by kernel_rfl
theorem zsf : ub Go.Proofs.Tryz.prog 84 = true := by kernel_rfl
theorem zfO (ys : List Int) (s1 : Int) (s2 : Int) (s3 : BitVec 64) : Y7 ys (s1, s2, s3, ()) =
 bif !(decide (s3 = 0#64)) then
  (qTZ s3).bind fun y1 =>
  (Wv ys s2 (w64 (y1.1 + 1))).bind fun _ =>
  some (.again (s1, s2 + 1, s3 &&& (s3 - 1#64), ()))
 else
  some (.brk (s1, s2, ())) := by kernel_rfl
theorem zh4 (n : Int) (ys : List Int) (a1 : BitVec 64) : zjh (XQ ys) Go.Proofs.Tryz.f84 zea n ((a1, ()) : (BitVec 64) × Unit) =
 (yf (Y7 ys) (n, 0, a1, ())).bind fun st => match st with
   | .again _ => none
   | .brk y1 =>
   some y1.2.1
   | .ret y1 =>
   some y1.2.1 := by kernel_rfl
theorem uZ (ys : List (List Int)) (s1 : Int) (s2 : Int) (s3 : Int) (s4 : List Int) (s5 : Int) : xM ys (s1, s2, s3, s4, s5, ()) =
 bif decide (s3 < ((s4.length : Int))) then
  (cut s4 s3 ((s4.length : Int))).bind fun l1 =>
  bif decide (s3 = 0) && decide ((w64 (s3 + (bif decide (((l1.length : Int)) < s5) then ((l1.length : Int)) else s5))) = 0) && decide ((w64 (s3 + (bif decide (((l1.length : Int)) < s5) then ((l1.length : Int)) else s5))) = 0) then
   (Wv ys s2 ([] : List Int)).bind fun _ =>
   some (.again (s1, s2 + 1, w64 (s3 + s5), s4, s5, ()))
  else
   bif decide (s3 = 0) && decide ((w64 (s3 + (bif decide (((l1.length : Int)) < s5) then ((l1.length : Int)) else s5))) = ((s4.length : Int))) && decide ((w64 (s3 + (bif decide (((l1.length : Int)) < s5) then ((l1.length : Int)) else s5))) = ((s4.length : Int))) then
    (Wv ys s2 s4).bind fun _ =>
    some (.again (s1, s2 + 1, w64 (s3 + s5), s4, s5, ()))
   else
    bif decide ((w64 (s3 + (bif decide (((l1.length : Int)) < s5) then ((l1.length : Int)) else s5))) = (w64 (s3 + (bif decide (((l1.length : Int)) < s5) then ((l1.length : Int)) else s5)))) then
     (cut s4 s3 (w64 (s3 + (bif decide (((l1.length : Int)) < s5) then ((l1.length : Int)) else s5)))).bind fun l2 =>
     (Wv ys s2 l2).bind fun _ =>
     some (.again (s1, s2 + 1, w64 (s3 + s5), s4, s5, ()))
    else
     none
 else
  some (.brk (s1, s2, ())) := by kernel_rfl
theorem VV (n : Int) (ys : List (List Int)) (a1 : List Int) (a2 : Int) : zjh (xT ys) Go.Proofs.Tryz.f62 Z0 n ((a1, a2, ()) : (List Int) × Int × Unit) =
 (yf (xM ys) (n, 0, 0, a1, a2, ())).bind fun st => match st with
   | .again _ => none
   | .brk y1 =>
   some y1.2.1
   | .ret y1 =>
   some y1.2.1 := by kernel_rfl
end Go.Pe.G
namespace Go.Pe.G
open Go.Pe
theorem zf6 {A B D : Type} (g : A → Option (xm A B D)) {o : xm Unit B D} : ∀ (k m : Nat) (x : A), xl g k x = some o → k ≤ m → xl g m x = some o
  | 0, m, x, h, _ => by cases h
  | k + 1, 0, x, h, hm => by omega
  | k + 1, m + 1, x, h, hm => by
    simp only [xl, Option.bind_eq_some_iff] at h ⊢
    obtain ⟨s, h1, h2⟩ := h
    refine ⟨s, h1, ?_⟩
    cases s with
    | again y => exact zf6 g k m y h2 (by omega)
    | brk b => exact h2
    | ret c => exact h2
theorem zkD {α : Type} (pre post : List α) (z : α) : Wv (pre ++ z :: post) (pre.length : Int) z = some () := by
  unfold Wv
  rw [if_pos]
  refine ⟨by omega, ?_⟩
  simp
theorem za2 (n : Int) (ys : List Int) : ∀ (f : Nat) (s : BitVec 64) (l pre : List Int), W1 f s = some l → ys = pre ++ l → xl (Y7 ys) f (n, (pre.length : Int), s, ()) = some (.brk (n, (ys.length : Int), ()))
  | 0, s, l, pre, h, _ => by cases h
  | f + 1, s, l, pre, h, e => by
    simp only [W1] at h
    simp only [xl, zfO]
    cases hz : decide (s = 0#64) with
    | true =>
      simp only [hz, cond_true, Option.some.injEq] at h
      subst h
      simp only [List.append_nil] at e
      subst e
      rfl
    | false =>
      simp only [hz, cond_false, Option.map_eq_some_iff] at h
      obtain ⟨l', h1, rfl⟩ := h
      have hn : Wv ys (pre.length : Int) (w64 (tz s + 1)) = some () := by rw [e]; exact zkD pre l' _
      simp only [Bool.not_false, cond_true, zsH, Option.bind_some, hn]
      have := za2 n ys f (s &&& (s - 1#64)) l' (pre ++ [w64 (tz s + 1)]) h1 (by rw [e]; simp)
      simpa using this
theorem zhM (G : Nat → Prop) (W0 : World) (hG : zoH G W0) : ui Go.Proofs.Tryz.prog G W0 84 Xh := by
  obtain ⟨c, hc⟩ := Option.isSome_iff_exists.1 zr3
  refine zig (Cg := XQ []) rfl zlB (fun f s hs => Oks.at (.cons _ _ _ _ zse (zpI hG) (.skip _ _ .nil)) f s hs) rfl zoh (fun g it h => by cases h) zsf ztt hc Xh (Nat.le_of_ble_eq_true (by kernel_rfl)) rfl ?_
  rintro n ⟨a, ⟨⟩⟩ ys h
  have h : W1 66 a = some ys := h
  have e := zh4 n ys a
  have k := zf6 _ 66 uj _ (za2 n ys 66 a ys [] h rfl) (by decide)
  refine Eq.trans e ?_
  have k' : xl (Y7 ys) uj (n, 0, a, ()) = some (.brk (n, (ys.length : Int), ())) := k
  rw [ZE, k']
  rfl
theorem zqf {a : Int} (h : -9223372036854775808 ≤ a) (h2 : a < 9223372036854775808) : w64 a = a := by
  rw [zd7]
  omega
theorem Vi (n : Int) (ys : List (List Int)) (l : List Int) (sz : Nat) (h1 : 1 ≤ sz) (h2 : sz < 1000000) (h3 : l.length < 1000000) : ∀ (f p : Nat) (pre : List (List Int)), (l.drop p).length ≤ f → ys = pre ++ xw sz f (l.drop p) → p < 2000000 →
    xl (xM ys) (f + 1) (n, (pre.length : Int), (p : Int), l, (sz : Int), ()) = some (.brk (n, (ys.length : Int), ())) := by
  intro f
  induction f with
  | zero =>
    intro p pre hf e hp
    simp only [xl, uZ]
    simp only [List.length_drop] at hf
    have : ¬ (p : Int) < (l.length : Int) := by omega
    simp only [this, decide_false, cond_false, Option.bind_some]
    simp only [xw, List.append_nil] at e
    rw [e]
  | succ f ih =>
    intro p pre hf e hp
    rw [xl, uZ]
    by_cases hlt : p < l.length
    · have hlt' : (p : Int) < (l.length : Int) := by omega
      have hcut : cut l (p : Int) (l.length : Int) = some (l.drop p) := by
        unfold cut
        have : (decide (0 ≤ (p : Int)) && decide ((p : Int) ≤ (l.length : Int)) && decide ((l.length : Int) ≤ (l.length : Int))) = true := by simp; omega
        simp only [this, cond_true]
        simp
      obtain ⟨x, r, hxr⟩ : ∃ x r, l.drop p = x :: r := by
        cases hd : l.drop p with
        | nil => have := congrArg List.length hd; simp at this; omega
        | cons x r => exact ⟨x, r, rfl⟩
      have hch : xw sz (f + 1) (l.drop p) = (l.drop p).take sz :: xw sz f (l.drop (p + sz)) := by
        rw [hxr]; simp only [xw]; rw [← hxr, List.drop_drop]
      have hm : ∃ m : Nat, (bif decide (((l.drop p).length : Int) < (sz : Int)) then (((l.drop p).length : Int)) else (sz : Int)) = (m : Int) ∧ m = min sz (l.length - p) := by
        simp only [List.length_drop]
        by_cases hs : ((l.length - p : Nat) : Int) < (sz : Int)
        · exact ⟨l.length - p, by simp only [hs, decide_true, cond_true], by omega⟩
        · exact ⟨sz, by simp only [hs, decide_false, cond_false], by omega⟩
      obtain ⟨m, hm1, hm2⟩ := hm
      have hw : w64 ((p : Int) + (m : Int)) = ((p + m : Nat) : Int) := by rw [zqf (by omega) (by omega)]; omega
      have hw2 : w64 ((p : Int) + (sz : Int)) = ((p + sz : Nat) : Int) := by rw [zqf (by omega) (by omega)]; omega
      have hne : ¬ ((p + m : Nat) : Int) = 0 := by omega
      simp only [hlt', decide_true, cond_true, hcut, Option.bind_some, hm1, hw, hw2, hne, decide_false, Bool.and_false, cond_false]
      have hn : Wv ys (pre.length : Int) ((l.drop p).take sz) = some () := by rw [e, hch]; exact zkD pre _ _
      have hcut2 : cut l (p : Int) ((p + m : Nat) : Int) = some ((l.drop p).take sz) := by
        unfold cut
        have : (decide (0 ≤ (p : Int)) && decide ((p : Int) ≤ ((p + m : Nat) : Int)) && decide (((p + m : Nat) : Int) ≤ (l.length : Int))) = true := by simp; omega
        simp only [this, cond_true]
        refine congrArg some ?_
        simp only [Int.toNat_natCast]
        rw [List.drop_take, Nat.add_sub_cancel_left, hm2]
        by_cases hs : sz ≤ l.length - p
        · rw [Nat.min_eq_left hs]
        · rw [Nat.min_eq_right (by omega), List.take_of_length_le (l := l.drop p) (by simp), List.take_of_length_le (l := l.drop p) (by simp; omega)]
      have hnext := ih (p + sz) (pre ++ [(l.drop p).take sz]) (by simp only [List.length_drop] at hf ⊢; omega) (by rw [e, hch]; simp) (by omega)
      have hlen : ((pre ++ [(l.drop p).take sz]).length : Int) = (pre.length : Int) + 1 := by simp
      rw [hlen] at hnext
      cases hfull : (decide ((p : Int) = 0) && decide (((p + m : Nat) : Int) = (l.length : Int)) && decide (((p + m : Nat) : Int) = (l.length : Int))) with
      | true =>
        simp only [cond_true]
        have hl : l = (l.drop p).take sz := ?_
        · rw [← hl] at hn
          rw [hn]
          exact hnext
        simp only [Bool.and_eq_true, decide_eq_true_eq] at hfull
        obtain ⟨⟨hp0, hpl⟩, _⟩ := hfull
        have hp00 : p = 0 := by omega
        rw [hp00, List.drop_zero, List.take_of_length_le (by omega)]
      | false =>
        simp only [cond_false, hcut2, Option.bind_some, decide_true, cond_true]
        rw [hn]
        exact hnext
    · have hnl : ¬ (p : Int) < (l.length : Int) := by omega
      have hd : l.drop p = [] := List.drop_eq_nil_of_le (by omega)
      simp only [hnl, decide_false, cond_false, Option.bind_some]
      rw [hd] at e
      simp only [xw, List.append_nil] at e
      rw [e]
theorem Vu (n : Int) (ys : List (List Int)) (l : List Int) (sz : Int) (h : zbT l sz = some ys) : xl (xM ys) uj (n, 0, 0, l, sz, ()) = some (.brk (n, (ys.length : Int), ())) := by
  unfold zbT at h
  cases hc : (decide (1 ≤ sz) && decide (sz < 1000000) && decide ((l.length : Int) < 1000000)) with
  | false => simp [hc] at h
  | true =>
    simp only [hc, cond_true] at h
    injection h with h
    simp only [Bool.and_eq_true, decide_eq_true_eq] at hc
    obtain ⟨⟨c1, c2⟩, c3⟩ := hc
    have k := zf6 _ (l.length + 1) uj _ (Vi n ys l sz.toNat (by omega) (by omega) (by omega) l.length 0 [] (by simp) (by simpa using h.symm) (by omega)) (by unfold uj; omega)
    have hs : ((sz.toNat : Nat) : Int) = sz := by omega
    rw [hs] at k
    exact k
theorem Vv (G : Nat → Prop) (W0 : World) (hG : zoH G W0) : ui Go.Proofs.Tryz.prog G W0 62 xq := by
  obtain ⟨c, hc⟩ := Option.isSome_iff_exists.1 zsk
  refine zig (Cg := xT []) rfl zlB (fun f s hs => Oks.at .nil f s hs) rfl zoh (fun g it h => by cases h) zsE zts hc xq (Nat.le_of_ble_eq_true (by kernel_rfl)) rfl (fun n x ys h => ?_)
  refine Eq.trans (VV n ys x.1 x.2.1) ?_
  rw [ZE, Vu n ys x.1 x.2.1 h]
  rfl
end Go.Pe.G
namespace Go.Pe.G
open Go.Pe
theorem k2 {G : Nat → Prop} {W0 : World} {f : Nat} {s : zy E} {ss r} (hs : Yq Go.Proofs.Tryz.prog G W0 f s) (h : Oks Go.Proofs.Tryz.prog G W0 ((f, ss) :: r)) (hc : ub Go.Proofs.Tryz.prog f = true := by kernel_rfl) : Oks Go.Proofs.Tryz.prog G W0 ((f, s :: ss) :: r) := .cons _ _ _ _ hc hs h
theorem k1 {G : Nat → Prop} {W0 : World} {f : Nat} {s : zy E} {r} (hs : Yq Go.Proofs.Tryz.prog G W0 f s) (h : Oks Go.Proofs.Tryz.prog G W0 r) (hc : ub Go.Proofs.Tryz.prog f = true := by kernel_rfl) : Oks Go.Proofs.Tryz.prog G W0 ((f, [s]) :: r) := .cons _ _ _ _ hc hs (.skip _ _ h)
abbrev Sd (G : Nat → Prop) (W0 : World) := Yq (E := E) Go.Proofs.Tryz.prog G W0
theorem gs {G : Nat → Prop} {W0 : World} {l : List (Nat × List (zy E))} {loops mv kept pk its} {f : FuncId} {fn : Func} {inn out : yB} {gi go : List Grp} {hi : wK E gi = inn.holes} {ho : wK E go = out.holes} (h : Oks Go.Proofs.Tryz.prog G W0 l) (h2 : Its Go.Proofs.Tryz.prog G W0 its) (hf : Go.Proofs.Tryz.prog.funcs[f]? = some fn := by kernel_rfl) (hb : fn.body.isSome = true := by kernel_rfl)
    (hk : (cf l loops mv kept pk its).kept = zbc inn.blks 0 := by kernel_rfl) (hn : Nat.ble inn.vals.length fn.ntmps = true := by kernel_rfl) : Yq Go.Proofs.Tryz.prog G W0 f (sp (cf l loops mv kept pk its) fn inn out gi go hi ho) := zpk (C := cf l loops mv kept pk its) zlB (zos h) rfl (zqF h2) zoh hf hb hk hn
variable {G : Nat → Prop} {W0 : World} (hG : zoH G W0)
include hG
theorem zcv : Sd G W0 39 Xw := gs .nil .nil
theorem za0 : Sd G W0 10 UZ := gs (k1 (zcv hG) .nil) .nil
theorem Zz : Sd G W0 17 Z5 := gs .nil .nil
theorem Y3 : Sd G W0 34 YG := gs (k1 (Zz hG) .nil) .nil
theorem Zs : Sd G W0 18 Ye := gs (k1 (Y3 hG) .nil) .nil
theorem Y0 : Sd G W0 54 YH := gs .nil .nil
theorem zcO : Sd G W0 52 X2 := gs (k1 (Y0 hG) .nil) .nil
theorem zdz : Sd G W0 75 WT := gs .nil .nil
theorem Wu : Sd G W0 77 vQ := gs (k1 (zdz hG) .nil) .nil
theorem Xn : Sd G W0 57 wX := gs (k1 (Wu hG) .nil) .nil
theorem zeE : Sd G W0 74 Uu := gs (k1 (Xn hG) .nil) .nil
theorem XE : Sd G W0 96 vg := gs (k1 (zeE hG) .nil) .nil
theorem YU : Sd G W0 76 wp := gs (k1 (XE hG) .nil) .nil
theorem zfL : Sd G W0 53 zbY := gs (k1 (YU hG) .nil) .nil
theorem zg2 : Sd G W0 55 zdT := gs .nil .nil
theorem zgR : Sd G W0 56 zdB := gs .nil .nil
theorem zeG : Sd G W0 58 UA := gs (k1 (Y0 hG) .nil) .nil
theorem Xq : Sd G W0 77 wV := gs (k1 (zeG hG) .nil) .nil
theorem YE : Sd G W0 57 wh := gs (k1 (Xq hG) .nil) .nil
theorem zeM : Sd G W0 98 Ut := gs .nil .nil
theorem zgb : Sd G W0 80 zcx := gs (k1 (zeM hG) .nil) .nil
theorem zfx : Sd G W0 79 zaP := gs (k1 (zgb hG) .nil) .nil
theorem Yh : Sd G W0 97 xS := gs (k1 (zfx hG) .nil) .nil
theorem ZQ : Sd G W0 78 xD := gs (k1 (Yh hG) .nil) .nil
theorem zgV : Sd G W0 59 zdS := gs (k1 (ZQ hG) .nil) .nil
theorem zgo : Sd G W0 83 zcq := gs .nil .nil
theorem zfm : Sd G W0 82 UD := gs (k1 (zgo hG) .nil) .nil
theorem Zx : Sd G W0 99 xu := gs (k1 (zfm hG) .nil) .nil
theorem uX : Sd G W0 81 xe := gs (k1 (Zx hG) .nil) .nil
theorem zgp : Sd G W0 60 zb7 := gs (k1 (uX hG) .nil) .nil
theorem zgf : Sd G W0 22 zb9 := gs (k1 (zcO hG) (k1 (zfL hG) (k1 (Y0 hG) (k1 (zg2 hG) (k1 (zgR hG) (k1 (YE hG) (k1 (zgV hG) (k1 (zgp hG) .nil)))))))) .nil
theorem zc0 : Sd G W0 38 zdj := gs .nil .nil
theorem Y8 : Sd G W0 9 Vf := gs (k1 (zc0 hG) .nil) .nil
theorem zjB : Sd G W0 61 zhV := gs (k1 (Y8 hG) .nil) .nil
theorem zfF : Sd G W0 23 zbV := gs (k1 (zjB hG) .nil) .nil
theorem zgn : Sd G W0 24 zb5 := gs .nil .nil
theorem ZW : Sd G W0 26 vk := gs .nil .nil
theorem zcQ : Sd G W0 25 X5 := gs (k1 (ZW hG) .nil) .nil
theorem zfA : Sd G W0 27 zaJ := gs .nil .nil
theorem V7 : Sd G W0 28 WE := gs .nil .nil
theorem Ue : Sd G W0 29 WH := gs .nil .nil
theorem zgY : Sd G W0 30 zdN := gs .nil .nil
theorem V4 : Sd G W0 31 Zc := gs .nil .nil
theorem zhx : Sd G W0 63 zeS := gs .nil .nil
theorem zi8 : ui Go.Proofs.Tryz.prog G W0 84 Xh := zhM G W0 hG
theorem zhO : Sd G W0 32 zeB := gs (k1 (zhx hG) .nil) (.cons _ _ _ (zi8 hG) (.nil))
theorem zhp : Sd G W0 91 zfk := gs .nil .nil
theorem zhD : Sd G W0 92 ze5 := gs .nil .nil
theorem zht : Sd G W0 93 zfn := gs .nil .nil
theorem zhl : Sd G W0 94 zeA := gs .nil .nil
theorem XM : Sd G W0 95 vh := gs .nil .nil
theorem uH : Sd G W0 73 Xl := gs (k1 (zhp hG) (k1 (zhD hG) (k1 (zht hG) (k1 (zhl hG) (k1 (XM hG) .nil))))) .nil
theorem Ud : Sd G W0 64 WD := gs (k1 (uH hG) .nil) .nil
theorem zai : Sd G W0 65 VQ := gs .nil .nil
theorem zgX : Sd G W0 33 zdF := gs (k1 (Ud hG) (k1 (zai hG) .nil)) .nil
theorem V1 : ui Go.Proofs.Tryz.prog G W0 62 xq := Vv G W0 hG
theorem X4 : Sd G W0 5 We := gs (k1 (za0 hG) (k1 (Zz hG) (k1 (Zs hG) (k1 (zgf hG) (k1 (zfF hG) (k1 (zgn hG) (k1 (zcQ hG) (k1 (ZW hG) (k1 (zfA hG) (k1 (V7 hG) (k1 (Ue hG) (k1 (zgY hG) (k1 (V4 hG) (k1 (zhO hG) (k1 (zgX hG) (k1 (Y3 hG) .nil)))))))))))))))) (.cons _ _ _ (V1 hG) (.nil))
theorem Vm : Sd G W0 41 uD := gs .nil .nil
theorem zc3 : Sd G W0 66 zc2 := gs (k1 (zc0 hG) .nil) .nil
theorem zf1 : Sd G W0 67 zb4 := gs (k1 (Y8 hG) (k1 (zc3 hG) .nil)) .nil
theorem Ub : Sd G W0 72 WL := gs .nil .nil
theorem xX : Sd G W0 68 xL := gs (k1 (Zs hG) (k1 (Y3 hG) (k1 (Ub hG) .nil))) .nil
theorem Uz : Sd G W0 42 ZH := gs (k1 (V7 hG) (k1 (Ue hG) (k1 (zf1 hG) (k1 (xX hG) .nil)))) .nil
theorem Un : Sd G W0 43 ZO := gs .nil .nil
theorem zeO : Sd G W0 86 UI := gs .nil .nil
theorem zfi : Sd G W0 86 UQ := gs .nil .nil
theorem zfh : Sd G W0 86 UK := gs .nil .nil
theorem zfl : Sd G W0 86 Uw := gs .nil .nil
theorem xN : Sd G W0 114 wT := gs (k1 (uH hG) .nil) .nil
theorem yF : Sd G W0 115 yD := gs .nil .nil
theorem X7 : Sd G W0 100 vv := gs (k1 (xN hG) (k1 (yF hG) .nil)) .nil
theorem wJ : Sd G W0 116 xZ := gs .nil .nil
theorem YB : Sd G W0 117 uC := gs .nil .nil
theorem yH : Sd G W0 118 yE := gs .nil .nil
theorem V3 : Sd G W0 101 Zi := gs (k1 (xN hG) (k1 (wJ hG) (k1 (YB hG) (k1 (yH hG) .nil)))) .nil
theorem vo : Sd G W0 119 ua := gs (k1 (uH hG) .nil) .nil
theorem vE : Sd G W0 120 wA := gs (k1 (YB hG) .nil) .nil
theorem za4 : Sd G W0 102 YY := gs (k1 (vo hG) (k1 (vE hG) .nil)) .nil
theorem WO : Sd G W0 103 uf := gs (k1 (yF hG) (k1 (yH hG) (k1 (vo hG) .nil))) .nil
theorem zax : Sd G W0 104 Z8 := gs (k1 (yF hG) (k1 (vo hG) .nil)) .nil
theorem Uc : Sd G W0 121 WC := gs .nil .nil
theorem Vj : Sd G W0 105 uy := gs (k1 (xN hG) (k1 (wJ hG) (k1 (Uc hG) .nil))) .nil
theorem UJ : Sd G W0 106 ZL := gs (k1 (xN hG) (k1 (yH hG) (k1 (vE hG) .nil))) .nil
theorem YC : Sd G W0 122 um := gs (k1 (uH hG) (k1 (wJ hG) .nil)) .nil
theorem VZ : Sd G W0 107 Zd := gs (k1 (YC hG) .nil) .nil
theorem VW : Sd G W0 108 Zg := gs (k1 (yF hG) (k1 (yH hG) (k1 (vo hG) .nil))) .nil
theorem UM : Sd G W0 109 ZK := gs (k1 (yF hG) (k1 (yH hG) (k1 (vo hG) .nil))) .nil
theorem UG : Sd G W0 110 ZM := gs (k1 (xN hG) (k1 (wJ hG) .nil)) .nil
theorem Uv : Sd G W0 111 ZJ := gs (k1 (xN hG) (k1 (yF hG) (k1 (Uc hG) .nil))) .nil
theorem V0 : Sd G W0 112 Ze := gs (k1 (xN hG) (k1 (vE hG) .nil)) .nil
theorem Vl : Sd G W0 113 uA := gs (k1 (yH hG) (k1 (YC hG) .nil)) .nil
theorem zf0 : Sd G W0 69 zcJ := gs (k2 (zeO hG) (k2 (zfi hG) (k2 (zfh hG) (k2 (zfl hG) (.skip _ _ (k1 (X7 hG) (k1 (V3 hG) (k1 (za4 hG) (k1 (WO hG) (k1 (zax hG) (k1 (Vj hG) (k1 (UJ hG) (k1 (VZ hG) (k1 (VW hG) (k1 (UM hG) (k1 (UG hG) (k1 (Uv hG) (k1 (V0 hG) (k1 (Vl hG) .nil))))))))))))))))))) .nil
theorem UH : Sd G W0 44 ZD := gs (k1 (xX hG) (k1 (zf0 hG) .nil)) .nil
theorem Ur : Sd G W0 45 ZS := gs (k1 (xX hG) .nil) .nil
theorem vF : Sd G W0 49 uN := gs .nil .nil
theorem Xi : Sd G W0 50 Xf := gs (k1 (uH hG) .nil) .nil
theorem Uo : Sd G W0 87 ZR := gs (k1 (vF hG) (k1 (Xi hG) .nil)) .nil
theorem zaO : Sd G W0 88 Yn := gs (k1 (vF hG) (k1 (Ud hG) .nil)) .nil
theorem V6 : Sd G W0 89 Zn := gs (k1 (vF hG) (k1 (zai hG) (k1 (uH hG) .nil))) .nil
theorem Vo : Sd G W0 90 uu := gs (k1 (vF hG) (k1 (Xi hG) .nil)) .nil
theorem zad : Sd G W0 70 VC := gs (k1 (Uo hG) (k1 (zaO hG) (k1 (V6 hG) (k1 (Vo hG) .nil)))) .nil
theorem Uy : Sd G W0 46 ZT := gs (k1 (xX hG) (k1 (zad hG) .nil)) .nil
theorem Vk : Sd G W0 71 un := gs .nil .nil
theorem UB : Sd G W0 47 ZP := gs (k1 (Zz hG) (k1 (Zs hG) (k1 (Vk hG) (k1 (Ub hG) .nil)))) .nil
theorem Vh : Sd G W0 48 ux := gs (k1 (zad hG) .nil) .nil
theorem Wa : Sd G W0 15 Wk := gs (k1 (Vm hG) (k1 (Uz hG) (k1 (Un hG) (k1 (UH hG) (k1 (Ur hG) (k1 (Uy hG) (k1 (UB hG) (k1 (Vh hG) .nil)))))))) .nil
theorem Wy : Sd G W0 8 YA := gs (k1 (Wa hG) .nil) .nil
theorem zcp : Sd G W0 13 Xr := gs .nil .nil
theorem Xs : Sd G W0 14 Xm := gs .nil .nil
theorem zgl : Sd G W0 16 zbN := gs (k1 (vF hG) (k1 (Xi hG) .nil)) .nil
theorem VG : Sd G W0 51 zaz := gs .nil .nil
theorem zgQ : Sd G W0 19 zdG := gs (k1 (VG hG) .nil) .nil
theorem zg0 : Sd G W0 20 zdJ := gs (k1 (VG hG) .nil) .nil
theorem zgx : Sd G W0 21 zcH := gs (k1 (VG hG) .nil) .nil
theorem zaA : Sd G W0 4 Yb := gs (k1 (X4 hG) (k1 (Wy hG) (k1 (zcp hG) (k1 (Xs hG) (k1 (Wa hG) (k1 (zgl hG) (k1 (Zz hG) (k1 (Zs hG) (k1 (zgQ hG) (k1 (zg0 hG) (k1 (zgx hG) .nil))))))))))) .nil
theorem uV : Sd G W0 35 wn := gs .nil .nil
theorem VJ : Sd G W0 36 uY := gs (k1 (uV hG) .nil) .nil
theorem XY : Sd G W0 6 ZX := gs (k1 (Y8 hG) (k1 (uV hG) (k1 (VJ hG) .nil))) .nil
theorem VX : Sd G W0 37 Zo := gs (k1 (Xs hG) .nil) .nil
theorem zdt : Sd G W0 7 WZ := gs (k1 (X4 hG) (k1 (XY hG) (k1 (Xs hG) (k1 (Wa hG) (k1 (VX hG) .nil))))) .nil
theorem zie : Sd G W0 40 zfJ := gs (k1 (zc3 hG) .nil) .nil
theorem zaR : Sd G W0 11 Yz := gs (k1 (zie hG) .nil) .nil
theorem zaT : Sd G W0 12 Yt := gs .nil .nil
theorem zak : Sd G W0 3 Ya := gs (k1 (zaA hG) (k1 (X4 hG) (k1 (XY hG) (k1 (zdt hG) (k1 (Wy hG) (k1 (Y8 hG) (k1 (za0 hG) (k1 (zaR hG) (k1 (zaT hG) .nil))))))))) .nil
end Go.Pe.G
