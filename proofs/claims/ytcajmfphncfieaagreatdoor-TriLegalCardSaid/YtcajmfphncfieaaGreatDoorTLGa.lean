/- Own work of this seat: G1, Tz, G0, GO, GP, G2, G4a, G4b, G4c, G4d, G4e, G4f, G4g, EQ. -/
import Derived.Test.YtcajmfphncfieaaGreatDoorTLCb
import Derived.Test.YtcajmfphncfieaaGreatDoorProg
import Derived.Shelf.Spec.TrailingZeros
import Derived.Sort.EveryDepth
import Derived.Shelf.Sort.AssemblyIn
import Derived.Shelf.Slices.In.SortNone
set_option linter.unusedVariables false
set_option linter.unusedSimpArgs false
set_option linter.unnecessarySimpa false
set_option linter.unusedSectionVars false
set_option linter.deprecated false
set_option maxRecDepth 100000
open Array renaming toArray_toList → zMl
open Bool renaming and_eq_true → zKF
open Int renaming toNat_natCast → zLn
open List renaming getElem?_eq_getElem → zKG, getD_eq_getElem?_getD → zKH
open Nat renaming le_refl → zKJ, lt_of_lt_of_le → zK0, add_zero → zLp, mul_one → zLz, zero_le → zLI
open Option renaming map_some → zLH
namespace Go.Pe.G
open Go.Pe Go.Proofs
abbrev zo:Ty:= .int .i64
abbrev z7:Ty:= .slice (.int .i64)
abbrev zQ:Ty:= .slice (.slice (.int .i64))
abbrev zB:=BitVec 64
abbrev zy:=List Int
abbrev zD:=List (List Int)
structure zE where
 Kind:Int
 R:Int
 A:Int
 S:Int
structure zk where
 Kind:Int
 N:Int
structure zr where
 Slots:Int
 Objs:List zy
structure zd where
 Workers:Int
 Mutators:Int
 Cap:Int
 Buf:Int
 Bin:Int
 Most:Int
 Price:Int
 Limit:Int
 H:zr
 Roots:BitVec 64
 Regs:List zy
 Progs:List (List zE)
 Picks:List zk
structure zg where
 Kind:Int
 PC:Int
 Base:Int
 Cap:Int
 B:BitVec 64
 T:BitVec 64
 X:Int
 Out:Int
structure zV where
 Kind:Int
 PC:Int
 Head:Int
 Next:Int
 H:BitVec 64
 X:Int
 Y:Int
 Out:Int
structure zJ where
 PC:Int
 Mode:Int
 Obj:Int
 Who:Int
 D:zg
 C:zV
 Bin:Int
 Out:Int
structure zj where
 PC:Int
 Obj:Int
 Slot:Int
 Victim:Int
 Bin:Int
 Batch:List Int
 D:zg
 C:zV
 G:zJ
structure ze where
 PC:Int
 IP:Int
 Ret:Int
 Want:Int
 Old:Int
 Obj:Int
 Slot:Int
 Bin:Int
 Regs:List Int
 Buf:List Int
 Batch:List Int
 C:zV
 G:zJ
structure zn where
 Marks:BitVec 64
 Black:BitVec 64
structure zx where
 Scanned:Int
 Spent:Int
 Pool:Int
 Bal:List Int
structure zN where
 PC:Int
 I:Int
structure za where
 P:zd
 H:zr
 M:List zB
 Bins:List zy
 T:zn
 Work:Int
 Epoch:Int
 Flag:Bool
 Done:Bool
 Restarts:Int
 Acks:List Int
 L:zx
 Ws:List zj
 Ms:List ze
 D:zN
structure Yf where
 Kind:Int
 At:Int
 A:BitVec 64
 B:BitVec 64
structure z3 where
 Worker:zj
 s:za
 w:Int
structure zX where
 Grey:zJ
 s:za
structure zH where
 Mutator:ze
 s:za
 m:Int
structure zY where
 L:List (BitVec 8)
 At:Int
@[reducible] def TT:Nat->Type
 | 0=>zE
 | 1=>zk
 | 2=>zr
 | 3=>zd
 | 4=>zg
 | 5=>zV
 | 6=>zJ
 | 7=>zj
 | 8=>ze
 | 9=>zn
 | 10=>zx
 | 11=>zN
 | 12=>za
 | 13=>Yf
 | 14=>z3
 | 15=>zX
 | 16=>zH
 | 17=>zY
 | _=>Unit
@[reducible] def lvs:Nat->List Ty
 | 0=>[zo,zo,zo,zo]
 | 1=>[zo,zo]
 | 2=>[zo,zQ]
 | 3=>[zo,zo,zo,zo,zo,zo,zo,zo,zo,zQ,(.int .u64),zQ,(.slice (.slice (.named 0))),(.slice (.named 1))]
 | 4=>[zo,zo,zo,zo,(.int .u64),(.int .u64),zo,zo]
 | 5=>[zo,zo,zo,zo,(.int .u64),zo,zo,zo]
 | 6=>[zo,zo,zo,zo,zo,zo,zo,zo,(.int .u64),(.int .u64),zo,zo,zo,zo,zo,zo,(.int .u64),zo,zo,zo,zo,zo]
 | 7=>[zo,zo,zo,zo,zo,z7,zo,zo,zo,zo,(.int .u64),(.int .u64),zo,zo,zo,zo,zo,zo,(.int .u64),zo,zo,zo,zo,zo,zo,zo,zo,zo,zo,zo,(.int .u64),(.int .u64),zo,zo,zo,zo,zo,zo,(.int .u64),zo,zo,zo,zo,zo]
 | 8=>[zo,zo,zo,zo,zo,zo,zo,zo,z7,z7,z7,zo,zo,zo,zo,(.int .u64),zo,zo,zo,zo,zo,zo,zo,zo,zo,zo,zo,(.int .u64),(.int .u64),zo,zo,zo,zo,zo,zo,(.int .u64),zo,zo,zo,zo,zo]
 | 9=>[(.int .u64),(.int .u64)]
 | 10=>[zo,zo,zo,z7]
 | 11=>[zo,zo]
 | 12=>[zo,zo,zo,zo,zo,zo,zo,zo,zo,zQ,(.int .u64),zQ,(.slice (.slice (.named 0))),(.slice (.named 1)),zo,zQ,(.slice (.int .u64)),zQ,(.int .u64),(.int .u64),zo,zo,.bool,.bool,zo,z7,zo,zo,zo,z7,(.slice (.named 7)),(.slice (.named 8)),zo,zo]
 | 13=>[zo,zo,(.int .u64),(.int .u64)]
 | 14=>[zo,zo,zo,zo,zo,z7,zo,zo,zo,zo,(.int .u64),(.int .u64),zo,zo,zo,zo,zo,zo,(.int .u64),zo,zo,zo,zo,zo,zo,zo,zo,zo,zo,zo,(.int .u64),(.int .u64),zo,zo,zo,zo,zo,zo,(.int .u64),zo,zo,zo,zo,zo,zo,zo,zo,zo,zo,zo,zo,zo,zo,zQ,(.int .u64),zQ,(.slice (.slice (.named 0))),(.slice (.named 1)),zo,zQ,(.slice (.int .u64)),zQ,(.int .u64),(.int .u64),zo,zo,.bool,.bool,zo,z7,zo,zo,zo,z7,(.slice (.named 7)),(.slice (.named 8)),zo,zo,zo]
 | 15=>[zo,zo,zo,zo,zo,zo,zo,zo,(.int .u64),(.int .u64),zo,zo,zo,zo,zo,zo,(.int .u64),zo,zo,zo,zo,zo,zo,zo,zo,zo,zo,zo,zo,zo,zo,zQ,(.int .u64),zQ,(.slice (.slice (.named 0))),(.slice (.named 1)),zo,zQ,(.slice (.int .u64)),zQ,(.int .u64),(.int .u64),zo,zo,.bool,.bool,zo,z7,zo,zo,zo,z7,(.slice (.named 7)),(.slice (.named 8)),zo,zo]
 | 16=>[zo,zo,zo,zo,zo,zo,zo,zo,z7,z7,z7,zo,zo,zo,zo,(.int .u64),zo,zo,zo,zo,zo,zo,zo,zo,zo,zo,zo,(.int .u64),(.int .u64),zo,zo,zo,zo,zo,zo,(.int .u64),zo,zo,zo,zo,zo,zo,zo,zo,zo,zo,zo,zo,zo,zo,zQ,(.int .u64),zQ,(.slice (.slice (.named 0))),(.slice (.named 1)),zo,zQ,(.slice (.int .u64)),zQ,(.int .u64),(.int .u64),zo,zo,.bool,.bool,zo,z7,zo,zo,zo,z7,(.slice (.named 7)),(.slice (.named 8)),zo,zo,zo]
 | 17=>[(.slice (.int .u8)),zo]
 | _=>[]
@[reducible] def unp:(n:Nat)->TT n->HL TT (lvs n)
 | 0=>fun x=>(x.Kind,x.R,x.A,x.S,())
 | 1=>fun x=>(x.Kind,x.N,())
 | 2=>fun x=>(x.Slots,x.Objs,())
 | 3=>fun x=>(x.Workers,x.Mutators,x.Cap,x.Buf,x.Bin,x.Most,x.Price,x.Limit,x.H.Slots,x.H.Objs,x.Roots,x.Regs,x.Progs,x.Picks,())
 | 4=>fun x=>(x.Kind,x.PC,x.Base,x.Cap,x.B,x.T,x.X,x.Out,())
 | 5=>fun x=>(x.Kind,x.PC,x.Head,x.Next,x.H,x.X,x.Y,x.Out,())
 | 6=>fun x=>(x.PC,x.Mode,x.Obj,x.Who,x.D.Kind,x.D.PC,x.D.Base,x.D.Cap,x.D.B,x.D.T,x.D.X,x.D.Out,x.C.Kind,x.C.PC,x.C.Head,x.C.Next,x.C.H,x.C.X,x.C.Y,x.C.Out,x.Bin,x.Out,())
 | 7=>fun x=>(x.PC,x.Obj,x.Slot,x.Victim,x.Bin,x.Batch,x.D.Kind,x.D.PC,x.D.Base,x.D.Cap,x.D.B,x.D.T,x.D.X,x.D.Out,x.C.Kind,x.C.PC,x.C.Head,x.C.Next,x.C.H,x.C.X,x.C.Y,x.C.Out,x.G.PC,x.G.Mode,x.G.Obj,x.G.Who,x.G.D.Kind,x.G.D.PC,x.G.D.Base,x.G.D.Cap,x.G.D.B,x.G.D.T,x.G.D.X,x.G.D.Out,x.G.C.Kind,x.G.C.PC,x.G.C.Head,x.G.C.Next,x.G.C.H,x.G.C.X,x.G.C.Y,x.G.C.Out,x.G.Bin,x.G.Out,())
 | 8=>fun x=>(x.PC,x.IP,x.Ret,x.Want,x.Old,x.Obj,x.Slot,x.Bin,x.Regs,x.Buf,x.Batch,x.C.Kind,x.C.PC,x.C.Head,x.C.Next,x.C.H,x.C.X,x.C.Y,x.C.Out,x.G.PC,x.G.Mode,x.G.Obj,x.G.Who,x.G.D.Kind,x.G.D.PC,x.G.D.Base,x.G.D.Cap,x.G.D.B,x.G.D.T,x.G.D.X,x.G.D.Out,x.G.C.Kind,x.G.C.PC,x.G.C.Head,x.G.C.Next,x.G.C.H,x.G.C.X,x.G.C.Y,x.G.C.Out,x.G.Bin,x.G.Out,())
 | 9=>fun x=>(x.Marks,x.Black,())
 | 10=>fun x=>(x.Scanned,x.Spent,x.Pool,x.Bal,())
 | 11=>fun x=>(x.PC,x.I,())
 | 12=>fun x=>(x.P.Workers,x.P.Mutators,x.P.Cap,x.P.Buf,x.P.Bin,x.P.Most,x.P.Price,x.P.Limit,x.P.H.Slots,x.P.H.Objs,x.P.Roots,x.P.Regs,x.P.Progs,x.P.Picks,x.H.Slots,x.H.Objs,x.M,x.Bins,x.T.Marks,x.T.Black,x.Work,x.Epoch,x.Flag,x.Done,x.Restarts,x.Acks,x.L.Scanned,x.L.Spent,x.L.Pool,x.L.Bal,x.Ws,x.Ms,x.D.PC,x.D.I,())
 | 13=>fun x=>(x.Kind,x.At,x.A,x.B,())
 | 14=>fun x=>(x.Worker.PC,x.Worker.Obj,x.Worker.Slot,x.Worker.Victim,x.Worker.Bin,x.Worker.Batch,x.Worker.D.Kind,x.Worker.D.PC,x.Worker.D.Base,x.Worker.D.Cap,x.Worker.D.B,x.Worker.D.T,x.Worker.D.X,x.Worker.D.Out,x.Worker.C.Kind,x.Worker.C.PC,x.Worker.C.Head,x.Worker.C.Next,x.Worker.C.H,x.Worker.C.X,x.Worker.C.Y,x.Worker.C.Out,x.Worker.G.PC,x.Worker.G.Mode,x.Worker.G.Obj,x.Worker.G.Who,x.Worker.G.D.Kind,x.Worker.G.D.PC,x.Worker.G.D.Base,x.Worker.G.D.Cap,x.Worker.G.D.B,x.Worker.G.D.T,x.Worker.G.D.X,x.Worker.G.D.Out,x.Worker.G.C.Kind,x.Worker.G.C.PC,x.Worker.G.C.Head,x.Worker.G.C.Next,x.Worker.G.C.H,x.Worker.G.C.X,x.Worker.G.C.Y,x.Worker.G.C.Out,x.Worker.G.Bin,x.Worker.G.Out,x.s.P.Workers,x.s.P.Mutators,x.s.P.Cap,x.s.P.Buf,x.s.P.Bin,x.s.P.Most,x.s.P.Price,x.s.P.Limit,x.s.P.H.Slots,x.s.P.H.Objs,x.s.P.Roots,x.s.P.Regs,x.s.P.Progs,x.s.P.Picks,x.s.H.Slots,x.s.H.Objs,x.s.M,x.s.Bins,x.s.T.Marks,x.s.T.Black,x.s.Work,x.s.Epoch,x.s.Flag,x.s.Done,x.s.Restarts,x.s.Acks,x.s.L.Scanned,x.s.L.Spent,x.s.L.Pool,x.s.L.Bal,x.s.Ws,x.s.Ms,x.s.D.PC,x.s.D.I,x.w,())
 | 15=>fun x=>(x.Grey.PC,x.Grey.Mode,x.Grey.Obj,x.Grey.Who,x.Grey.D.Kind,x.Grey.D.PC,x.Grey.D.Base,x.Grey.D.Cap,x.Grey.D.B,x.Grey.D.T,x.Grey.D.X,x.Grey.D.Out,x.Grey.C.Kind,x.Grey.C.PC,x.Grey.C.Head,x.Grey.C.Next,x.Grey.C.H,x.Grey.C.X,x.Grey.C.Y,x.Grey.C.Out,x.Grey.Bin,x.Grey.Out,x.s.P.Workers,x.s.P.Mutators,x.s.P.Cap,x.s.P.Buf,x.s.P.Bin,x.s.P.Most,x.s.P.Price,x.s.P.Limit,x.s.P.H.Slots,x.s.P.H.Objs,x.s.P.Roots,x.s.P.Regs,x.s.P.Progs,x.s.P.Picks,x.s.H.Slots,x.s.H.Objs,x.s.M,x.s.Bins,x.s.T.Marks,x.s.T.Black,x.s.Work,x.s.Epoch,x.s.Flag,x.s.Done,x.s.Restarts,x.s.Acks,x.s.L.Scanned,x.s.L.Spent,x.s.L.Pool,x.s.L.Bal,x.s.Ws,x.s.Ms,x.s.D.PC,x.s.D.I,())
 | 16=>fun x=>(x.Mutator.PC,x.Mutator.IP,x.Mutator.Ret,x.Mutator.Want,x.Mutator.Old,x.Mutator.Obj,x.Mutator.Slot,x.Mutator.Bin,x.Mutator.Regs,x.Mutator.Buf,x.Mutator.Batch,x.Mutator.C.Kind,x.Mutator.C.PC,x.Mutator.C.Head,x.Mutator.C.Next,x.Mutator.C.H,x.Mutator.C.X,x.Mutator.C.Y,x.Mutator.C.Out,x.Mutator.G.PC,x.Mutator.G.Mode,x.Mutator.G.Obj,x.Mutator.G.Who,x.Mutator.G.D.Kind,x.Mutator.G.D.PC,x.Mutator.G.D.Base,x.Mutator.G.D.Cap,x.Mutator.G.D.B,x.Mutator.G.D.T,x.Mutator.G.D.X,x.Mutator.G.D.Out,x.Mutator.G.C.Kind,x.Mutator.G.C.PC,x.Mutator.G.C.Head,x.Mutator.G.C.Next,x.Mutator.G.C.H,x.Mutator.G.C.X,x.Mutator.G.C.Y,x.Mutator.G.C.Out,x.Mutator.G.Bin,x.Mutator.G.Out,x.s.P.Workers,x.s.P.Mutators,x.s.P.Cap,x.s.P.Buf,x.s.P.Bin,x.s.P.Most,x.s.P.Price,x.s.P.Limit,x.s.P.H.Slots,x.s.P.H.Objs,x.s.P.Roots,x.s.P.Regs,x.s.P.Progs,x.s.P.Picks,x.s.H.Slots,x.s.H.Objs,x.s.M,x.s.Bins,x.s.T.Marks,x.s.T.Black,x.s.Work,x.s.Epoch,x.s.Flag,x.s.Done,x.s.Restarts,x.s.Acks,x.s.L.Scanned,x.s.L.Spent,x.s.L.Pool,x.s.L.Bal,x.s.Ws,x.s.Ms,x.s.D.PC,x.s.D.I,x.m,())
 | 17=>fun x=>(x.L,x.At,())
 | _+18=>fun _=>()
@[reducible] def pck:(n:Nat)->HL TT (lvs n)->TT n
 | 0=>fun x=>⟨x.1,x.2.1,x.2.2.1,x.2.2.2.1⟩
 | 1=>fun x=>⟨x.1,x.2.1⟩
 | 2=>fun x=>⟨x.1,x.2.1⟩
 | 3=>fun x=>let xa:=x.2.2.2.2.2.2.2.2;⟨x.1,x.2.1,x.2.2.1,x.2.2.2.1,x.2.2.2.2.1,x.2.2.2.2.2.1,x.2.2.2.2.2.2.1,x.2.2.2.2.2.2.2.1,⟨xa.1,xa.2.1⟩,xa.2.2.1,xa.2.2.2.1,xa.2.2.2.2.1,xa.2.2.2.2.2.1⟩
 | 4=>fun x=>⟨x.1,x.2.1,x.2.2.1,x.2.2.2.1,x.2.2.2.2.1,x.2.2.2.2.2.1,x.2.2.2.2.2.2.1,x.2.2.2.2.2.2.2.1⟩
 | 5=>fun x=>⟨x.1,x.2.1,x.2.2.1,x.2.2.2.1,x.2.2.2.2.1,x.2.2.2.2.2.1,x.2.2.2.2.2.2.1,x.2.2.2.2.2.2.2.1⟩
 | 6=>fun x=>let xa:=x.2.2.2.2.2.2.2.2;let xb:=xa.2.2.2.2.2.2.2.2;⟨x.1,x.2.1,x.2.2.1,x.2.2.2.1,⟨x.2.2.2.2.1,x.2.2.2.2.2.1,x.2.2.2.2.2.2.1,x.2.2.2.2.2.2.2.1,xa.1,xa.2.1,xa.2.2.1,xa.2.2.2.1⟩,⟨xa.2.2.2.2.1,xa.2.2.2.2.2.1,xa.2.2.2.2.2.2.1,xa.2.2.2.2.2.2.2.1,xb.1,xb.2.1,xb.2.2.1,xb.2.2.2.1⟩,xb.2.2.2.2.1,xb.2.2.2.2.2.1⟩
 | 7=>fun x=>let xa:=x.2.2.2.2.2.2.2.2;let xb:=xa.2.2.2.2.2.2.2.2;let xc:=xb.2.2.2.2.2.2.2.2;let xd:=xc.2.2.2.2.2.2.2.2;let xe:=xd.2.2.2.2.2.2.2.2;⟨x.1,x.2.1,x.2.2.1,x.2.2.2.1,x.2.2.2.2.1,x.2.2.2.2.2.1,⟨x.2.2.2.2.2.2.1,x.2.2.2.2.2.2.2.1,xa.1,xa.2.1,xa.2.2.1,xa.2.2.2.1,xa.2.2.2.2.1,xa.2.2.2.2.2.1⟩,⟨xa.2.2.2.2.2.2.1,xa.2.2.2.2.2.2.2.1,xb.1,xb.2.1,xb.2.2.1,xb.2.2.2.1,xb.2.2.2.2.1,xb.2.2.2.2.2.1⟩,⟨xb.2.2.2.2.2.2.1,xb.2.2.2.2.2.2.2.1,xc.1,xc.2.1,⟨xc.2.2.1,xc.2.2.2.1,xc.2.2.2.2.1,xc.2.2.2.2.2.1,xc.2.2.2.2.2.2.1,xc.2.2.2.2.2.2.2.1,xd.1,xd.2.1⟩,⟨xd.2.2.1,xd.2.2.2.1,xd.2.2.2.2.1,xd.2.2.2.2.2.1,xd.2.2.2.2.2.2.1,xd.2.2.2.2.2.2.2.1,xe.1,xe.2.1⟩,xe.2.2.1,xe.2.2.2.1⟩⟩
 | 8=>fun x=>let xa:=x.2.2.2.2.2.2.2.2;let xb:=xa.2.2.2.2.2.2.2.2;let xc:=xb.2.2.2.2.2.2.2.2;let xd:=xc.2.2.2.2.2.2.2.2;let xe:=xd.2.2.2.2.2.2.2.2;⟨x.1,x.2.1,x.2.2.1,x.2.2.2.1,x.2.2.2.2.1,x.2.2.2.2.2.1,x.2.2.2.2.2.2.1,x.2.2.2.2.2.2.2.1,xa.1,xa.2.1,xa.2.2.1,⟨xa.2.2.2.1,xa.2.2.2.2.1,xa.2.2.2.2.2.1,xa.2.2.2.2.2.2.1,xa.2.2.2.2.2.2.2.1,xb.1,xb.2.1,xb.2.2.1⟩,⟨xb.2.2.2.1,xb.2.2.2.2.1,xb.2.2.2.2.2.1,xb.2.2.2.2.2.2.1,⟨xb.2.2.2.2.2.2.2.1,xc.1,xc.2.1,xc.2.2.1,xc.2.2.2.1,xc.2.2.2.2.1,xc.2.2.2.2.2.1,xc.2.2.2.2.2.2.1⟩,⟨xc.2.2.2.2.2.2.2.1,xd.1,xd.2.1,xd.2.2.1,xd.2.2.2.1,xd.2.2.2.2.1,xd.2.2.2.2.2.1,xd.2.2.2.2.2.2.1⟩,xd.2.2.2.2.2.2.2.1,xe.1⟩⟩
 | 9=>fun x=>⟨x.1,x.2.1⟩
 | 10=>fun x=>⟨x.1,x.2.1,x.2.2.1,x.2.2.2.1⟩
 | 11=>fun x=>⟨x.1,x.2.1⟩
 | 12=>fun x=>let xa:=x.2.2.2.2.2.2.2.2;let xb:=xa.2.2.2.2.2.2.2.2;let xc:=xb.2.2.2.2.2.2.2.2;let xd:=xc.2.2.2.2.2.2.2.2;⟨⟨x.1,x.2.1,x.2.2.1,x.2.2.2.1,x.2.2.2.2.1,x.2.2.2.2.2.1,x.2.2.2.2.2.2.1,x.2.2.2.2.2.2.2.1,⟨xa.1,xa.2.1⟩,xa.2.2.1,xa.2.2.2.1,xa.2.2.2.2.1,xa.2.2.2.2.2.1⟩,⟨xa.2.2.2.2.2.2.1,xa.2.2.2.2.2.2.2.1⟩,xb.1,xb.2.1,⟨xb.2.2.1,xb.2.2.2.1⟩,xb.2.2.2.2.1,xb.2.2.2.2.2.1,xb.2.2.2.2.2.2.1,xb.2.2.2.2.2.2.2.1,xc.1,xc.2.1,⟨xc.2.2.1,xc.2.2.2.1,xc.2.2.2.2.1,xc.2.2.2.2.2.1⟩,xc.2.2.2.2.2.2.1,xc.2.2.2.2.2.2.2.1,⟨xd.1,xd.2.1⟩⟩
 | 13=>fun x=>⟨x.1,x.2.1,x.2.2.1,x.2.2.2.1⟩
 | 14=>fun x=>let xa:=x.2.2.2.2.2.2.2.2;let xb:=xa.2.2.2.2.2.2.2.2;let xc:=xb.2.2.2.2.2.2.2.2;let xd:=xc.2.2.2.2.2.2.2.2;let xe:=xd.2.2.2.2.2.2.2.2;let xf:=xe.2.2.2.2.2.2.2.2;let xg:=xf.2.2.2.2.2.2.2.2;let xh:=xg.2.2.2.2.2.2.2.2;let xi:=xh.2.2.2.2.2.2.2.2;⟨⟨x.1,x.2.1,x.2.2.1,x.2.2.2.1,x.2.2.2.2.1,x.2.2.2.2.2.1,⟨x.2.2.2.2.2.2.1,x.2.2.2.2.2.2.2.1,xa.1,xa.2.1,xa.2.2.1,xa.2.2.2.1,xa.2.2.2.2.1,xa.2.2.2.2.2.1⟩,⟨xa.2.2.2.2.2.2.1,xa.2.2.2.2.2.2.2.1,xb.1,xb.2.1,xb.2.2.1,xb.2.2.2.1,xb.2.2.2.2.1,xb.2.2.2.2.2.1⟩,⟨xb.2.2.2.2.2.2.1,xb.2.2.2.2.2.2.2.1,xc.1,xc.2.1,⟨xc.2.2.1,xc.2.2.2.1,xc.2.2.2.2.1,xc.2.2.2.2.2.1,xc.2.2.2.2.2.2.1,xc.2.2.2.2.2.2.2.1,xd.1,xd.2.1⟩,⟨xd.2.2.1,xd.2.2.2.1,xd.2.2.2.2.1,xd.2.2.2.2.2.1,xd.2.2.2.2.2.2.1,xd.2.2.2.2.2.2.2.1,xe.1,xe.2.1⟩,xe.2.2.1,xe.2.2.2.1⟩⟩,⟨⟨xe.2.2.2.2.1,xe.2.2.2.2.2.1,xe.2.2.2.2.2.2.1,xe.2.2.2.2.2.2.2.1,xf.1,xf.2.1,xf.2.2.1,xf.2.2.2.1,⟨xf.2.2.2.2.1,xf.2.2.2.2.2.1⟩,xf.2.2.2.2.2.2.1,xf.2.2.2.2.2.2.2.1,xg.1,xg.2.1⟩,⟨xg.2.2.1,xg.2.2.2.1⟩,xg.2.2.2.2.1,xg.2.2.2.2.2.1,⟨xg.2.2.2.2.2.2.1,xg.2.2.2.2.2.2.2.1⟩,xh.1,xh.2.1,xh.2.2.1,xh.2.2.2.1,xh.2.2.2.2.1,xh.2.2.2.2.2.1,⟨xh.2.2.2.2.2.2.1,xh.2.2.2.2.2.2.2.1,xi.1,xi.2.1⟩,xi.2.2.1,xi.2.2.2.1,⟨xi.2.2.2.2.1,xi.2.2.2.2.2.1⟩⟩,xi.2.2.2.2.2.2.1⟩
 | 15=>fun x=>let xa:=x.2.2.2.2.2.2.2.2;let xb:=xa.2.2.2.2.2.2.2.2;let xc:=xb.2.2.2.2.2.2.2.2;let xd:=xc.2.2.2.2.2.2.2.2;let xe:=xd.2.2.2.2.2.2.2.2;let xf:=xe.2.2.2.2.2.2.2.2;⟨⟨x.1,x.2.1,x.2.2.1,x.2.2.2.1,⟨x.2.2.2.2.1,x.2.2.2.2.2.1,x.2.2.2.2.2.2.1,x.2.2.2.2.2.2.2.1,xa.1,xa.2.1,xa.2.2.1,xa.2.2.2.1⟩,⟨xa.2.2.2.2.1,xa.2.2.2.2.2.1,xa.2.2.2.2.2.2.1,xa.2.2.2.2.2.2.2.1,xb.1,xb.2.1,xb.2.2.1,xb.2.2.2.1⟩,xb.2.2.2.2.1,xb.2.2.2.2.2.1⟩,⟨⟨xb.2.2.2.2.2.2.1,xb.2.2.2.2.2.2.2.1,xc.1,xc.2.1,xc.2.2.1,xc.2.2.2.1,xc.2.2.2.2.1,xc.2.2.2.2.2.1,⟨xc.2.2.2.2.2.2.1,xc.2.2.2.2.2.2.2.1⟩,xd.1,xd.2.1,xd.2.2.1,xd.2.2.2.1⟩,⟨xd.2.2.2.2.1,xd.2.2.2.2.2.1⟩,xd.2.2.2.2.2.2.1,xd.2.2.2.2.2.2.2.1,⟨xe.1,xe.2.1⟩,xe.2.2.1,xe.2.2.2.1,xe.2.2.2.2.1,xe.2.2.2.2.2.1,xe.2.2.2.2.2.2.1,xe.2.2.2.2.2.2.2.1,⟨xf.1,xf.2.1,xf.2.2.1,xf.2.2.2.1⟩,xf.2.2.2.2.1,xf.2.2.2.2.2.1,⟨xf.2.2.2.2.2.2.1,xf.2.2.2.2.2.2.2.1⟩⟩⟩
 | 16=>fun x=>let xa:=x.2.2.2.2.2.2.2.2;let xb:=xa.2.2.2.2.2.2.2.2;let xc:=xb.2.2.2.2.2.2.2.2;let xd:=xc.2.2.2.2.2.2.2.2;let xe:=xd.2.2.2.2.2.2.2.2;let xf:=xe.2.2.2.2.2.2.2.2;let xg:=xf.2.2.2.2.2.2.2.2;let xh:=xg.2.2.2.2.2.2.2.2;let xi:=xh.2.2.2.2.2.2.2.2;⟨⟨x.1,x.2.1,x.2.2.1,x.2.2.2.1,x.2.2.2.2.1,x.2.2.2.2.2.1,x.2.2.2.2.2.2.1,x.2.2.2.2.2.2.2.1,xa.1,xa.2.1,xa.2.2.1,⟨xa.2.2.2.1,xa.2.2.2.2.1,xa.2.2.2.2.2.1,xa.2.2.2.2.2.2.1,xa.2.2.2.2.2.2.2.1,xb.1,xb.2.1,xb.2.2.1⟩,⟨xb.2.2.2.1,xb.2.2.2.2.1,xb.2.2.2.2.2.1,xb.2.2.2.2.2.2.1,⟨xb.2.2.2.2.2.2.2.1,xc.1,xc.2.1,xc.2.2.1,xc.2.2.2.1,xc.2.2.2.2.1,xc.2.2.2.2.2.1,xc.2.2.2.2.2.2.1⟩,⟨xc.2.2.2.2.2.2.2.1,xd.1,xd.2.1,xd.2.2.1,xd.2.2.2.1,xd.2.2.2.2.1,xd.2.2.2.2.2.1,xd.2.2.2.2.2.2.1⟩,xd.2.2.2.2.2.2.2.1,xe.1⟩⟩,⟨⟨xe.2.1,xe.2.2.1,xe.2.2.2.1,xe.2.2.2.2.1,xe.2.2.2.2.2.1,xe.2.2.2.2.2.2.1,xe.2.2.2.2.2.2.2.1,xf.1,⟨xf.2.1,xf.2.2.1⟩,xf.2.2.2.1,xf.2.2.2.2.1,xf.2.2.2.2.2.1,xf.2.2.2.2.2.2.1⟩,⟨xf.2.2.2.2.2.2.2.1,xg.1⟩,xg.2.1,xg.2.2.1,⟨xg.2.2.2.1,xg.2.2.2.2.1⟩,xg.2.2.2.2.2.1,xg.2.2.2.2.2.2.1,xg.2.2.2.2.2.2.2.1,xh.1,xh.2.1,xh.2.2.1,⟨xh.2.2.2.1,xh.2.2.2.2.1,xh.2.2.2.2.2.1,xh.2.2.2.2.2.2.1⟩,xh.2.2.2.2.2.2.2.1,xi.1,⟨xi.2.1,xi.2.2.1⟩⟩,xi.2.2.2.1⟩
 | 17=>fun x=>⟨x.1,x.2.1⟩
 | _+18=>fun _=>()
theorem zIx:∀n x,pck n (unp n x)=x
 | 0=>fun _=>rfl
 | 1=>fun _=>rfl
 | 2=>fun _=>rfl
 | 3=>fun _=>rfl
 | 4=>fun _=>rfl
 | 5=>fun _=>rfl
 | 6=>fun _=>rfl
 | 7=>fun _=>rfl
 | 8=>fun _=>rfl
 | 9=>fun _=>rfl
 | 10=>fun _=>rfl
 | 11=>fun _=>rfl
 | 12=>fun _=>rfl
 | 13=>fun _=>rfl
 | 14=>fun _=>rfl
 | 15=>fun _=>rfl
 | 16=>fun _=>rfl
 | 17=>fun _=>rfl
 | _+18=>fun _=>rfl
theorem zIk:∀n h,unp n (pck n h)=h
 | 0=>fun _=>rfl
 | 1=>fun _=>rfl
 | 2=>fun _=>rfl
 | 3=>fun _=>rfl
 | 4=>fun _=>rfl
 | 5=>fun _=>rfl
 | 6=>fun _=>rfl
 | 7=>fun _=>rfl
 | 8=>fun _=>rfl
 | 9=>fun _=>rfl
 | 10=>fun _=>rfl
 | 11=>fun _=>rfl
 | 12=>fun _=>rfl
 | 13=>fun _=>rfl
 | 14=>fun _=>rfl
 | 15=>fun _=>rfl
 | 16=>fun _=>rfl
 | 17=>fun _=>rfl
 | _+18=>fun _=>rfl
theorem zGL:∀n,(lvs n).all (fun t=>match t with | .named _=>false | .arr _ _=>false | _=>true)=true
 | 0=>rfl
 | 1=>rfl
 | 2=>rfl
 | 3=>rfl
 | 4=>rfl
 | 5=>rfl
 | 6=>rfl
 | 7=>rfl
 | 8=>rfl
 | 9=>rfl
 | 10=>rfl
 | 11=>rfl
 | 12=>rfl
 | 13=>rfl
 | 14=>rfl
 | 15=>rfl
 | 16=>rfl
 | 17=>rfl
 | _+18=>rfl
def E:yF where
 T:=TT
 leaves:=lvs
 unpack:=unp
 pack:=pck
 pu:=zIx
 up:=zIk
 lf:=zGL
def tab:List (Nat×TI):=[
 (2,{size:=1,agg:=false,fields:=[],elem:=0,alen:=0,ty:=some zo,zero:=[.int .i64],bytes:=8,sl:=false,fk:=false,cmp:=false,mp:=false}),
 (3,{size:=1,agg:=false,fields:=[],elem:=0,alen:=0,ty:=some zo,zero:=[.int .i64],bytes:=8,sl:=false,fk:=false,cmp:=false,mp:=false}),
 (4,{size:=1,agg:=false,fields:=[],elem:=0,alen:=0,ty:=some .bool,zero:=[.bool],bytes:=1,sl:=false,fk:=false,cmp:=false,mp:=false}),
 (5,{size:=1,agg:=false,fields:=[],elem:=0,alen:=0,ty:=some (.int .u8),zero:=[.int .u8],bytes:=1,sl:=false,fk:=false,cmp:=false,mp:=false}),
 (22,{size:=1,agg:=false,fields:=[],elem:=5,alen:=0,ty:=some (.slice (.int .u8)),zero:=[.slice],bytes:=24,sl:=true,fk:=false,cmp:=false,mp:=false}),
 (24,{size:=1,agg:=false,fields:=[],elem:=38,alen:=0,ty:=some zQ,zero:=[.slice],bytes:=24,sl:=true,fk:=false,cmp:=false,mp:=false}),
 (26,{size:=2,agg:=true,fields:=[(0,3),(1,24)],elem:=0,alen:=0,ty:=some (.named 2),zero:=[.int .i64,.slice],bytes:=32,sl:=false,fk:=false,cmp:=false,mp:=false}),
 (27,{size:=1,agg:=false,fields:=[],elem:=0,alen:=0,ty:=some (.int .u64),zero:=[.int .u64],bytes:=8,sl:=false,fk:=false,cmp:=false,mp:=false}),
 (28,{size:=1,agg:=false,fields:=[],elem:=0,alen:=0,ty:=some (.int .u64),zero:=[.int .u64],bytes:=8,sl:=false,fk:=false,cmp:=false,mp:=false}),
 (29,{size:=1,agg:=false,fields:=[],elem:=60,alen:=0,ty:=some (.slice (.slice (.named 0))),zero:=[.slice],bytes:=24,sl:=true,fk:=false,cmp:=false,mp:=false}),
 (30,{size:=1,agg:=false,fields:=[],elem:=51,alen:=0,ty:=some (.slice (.named 1)),zero:=[.slice],bytes:=24,sl:=true,fk:=false,cmp:=false,mp:=false}),
 (32,{size:=14,agg:=true,fields:=[(0,3),(1,3),(2,3),(3,3),(4,3),(5,3),(6,2),(7,2),(8,26),(10,28),(11,24),(12,29),(13,30)],elem:=0,alen:=0,ty:=some (.named 3),zero:=[.int .i64,.int .i64,.int .i64,.int .i64,.int .i64,.int .i64,.int .i64,.int .i64,.int .i64,.slice,.int .u64,.slice,.slice,.slice],bytes:=176,sl:=false,fk:=false,cmp:=false,mp:=false}),
 (35,{size:=1,agg:=false,fields:=[],elem:=27,alen:=0,ty:=some (.slice (.int .u64)),zero:=[.slice],bytes:=24,sl:=true,fk:=false,cmp:=false,mp:=false}),
 (37,{size:=2,agg:=true,fields:=[(0,28),(1,28)],elem:=0,alen:=0,ty:=some (.named 9),zero:=[.int .u64,.int .u64],bytes:=16,sl:=false,fk:=false,cmp:=true,mp:=false}),
 (38,{size:=1,agg:=false,fields:=[],elem:=3,alen:=0,ty:=some z7,zero:=[.slice],bytes:=24,sl:=true,fk:=false,cmp:=false,mp:=false}),
 (39,{size:=1,agg:=false,fields:=[],elem:=2,alen:=0,ty:=some z7,zero:=[.slice],bytes:=24,sl:=true,fk:=false,cmp:=false,mp:=false}),
 (41,{size:=4,agg:=true,fields:=[(0,2),(1,2),(2,2),(3,39)],elem:=0,alen:=0,ty:=some (.named 10),zero:=[.int .i64,.int .i64,.int .i64,.slice],bytes:=48,sl:=false,fk:=false,cmp:=false,mp:=false}),
 (42,{size:=1,agg:=false,fields:=[],elem:=87,alen:=0,ty:=some (.slice (.named 7)),zero:=[.slice],bytes:=24,sl:=true,fk:=false,cmp:=false,mp:=false}),
 (43,{size:=1,agg:=false,fields:=[],elem:=95,alen:=0,ty:=some (.slice (.named 8)),zero:=[.slice],bytes:=24,sl:=true,fk:=false,cmp:=false,mp:=false}),
 (45,{size:=2,agg:=true,fields:=[(0,3),(1,3)],elem:=0,alen:=0,ty:=some (.named 11),zero:=[.int .i64,.int .i64],bytes:=16,sl:=false,fk:=false,cmp:=true,mp:=false}),
 (47,{size:=34,agg:=true,fields:=[(0,32),(14,26),(16,35),(17,24),(18,37),(20,3),(21,3),(22,4),(23,4),(24,3),(25,38),(26,41),(30,42),(31,43),(32,45)],elem:=0,alen:=0,ty:=some (.named 12),zero:=[.int .i64,.int .i64,.int .i64,.int .i64,.int .i64,.int .i64,.int .i64,.int .i64,.int .i64,.slice,.int .u64,.slice,.slice,.slice,.int .i64,.slice,.slice,.slice,.int .u64,.int .u64,.int .i64,.int .i64,.bool,.bool,.int .i64,.slice,.int .i64,.int .i64,.int .i64,.slice,.slice,.slice,.int .i64,.int .i64],bytes:=440,sl:=false,fk:=false,cmp:=false,mp:=false}),
 (51,{size:=2,agg:=true,fields:=[(0,3),(1,3)],elem:=0,alen:=0,ty:=some (.named 1),zero:=[.int .i64,.int .i64],bytes:=16,sl:=false,fk:=false,cmp:=true,mp:=false}),
 (59,{size:=4,agg:=true,fields:=[(0,3),(1,3),(2,3),(3,3)],elem:=0,alen:=0,ty:=some (.named 0),zero:=[.int .i64,.int .i64,.int .i64,.int .i64],bytes:=32,sl:=false,fk:=false,cmp:=true,mp:=false}),
 (60,{size:=1,agg:=false,fields:=[],elem:=59,alen:=0,ty:=some (.slice (.named 0)),zero:=[.slice],bytes:=24,sl:=true,fk:=false,cmp:=false,mp:=false}),
 (63,{size:=1,agg:=false,fields:=[],elem:=0,alen:=0,ty:=none,zero:=[.func],bytes:=8,sl:=false,fk:=true,cmp:=false,mp:=false}),
 (67,{size:=2,agg:=true,fields:=[(0,22),(1,3)],elem:=0,alen:=0,ty:=some (.named 17),zero:=[.slice,.int .i64],bytes:=32,sl:=false,fk:=false,cmp:=false,mp:=false}),
 (79,{size:=8,agg:=true,fields:=[(0,3),(1,3),(2,3),(3,3),(4,27),(5,27),(6,3),(7,3)],elem:=0,alen:=0,ty:=some (.named 4),zero:=[.int .i64,.int .i64,.int .i64,.int .i64,.int .u64,.int .u64,.int .i64,.int .i64],bytes:=64,sl:=false,fk:=false,cmp:=true,mp:=false}),
 (83,{size:=8,agg:=true,fields:=[(0,3),(1,3),(2,3),(3,3),(4,27),(5,3),(6,3),(7,3)],elem:=0,alen:=0,ty:=some (.named 5),zero:=[.int .i64,.int .i64,.int .i64,.int .i64,.int .u64,.int .i64,.int .i64,.int .i64],bytes:=64,sl:=false,fk:=false,cmp:=true,mp:=false}),
 (85,{size:=22,agg:=true,fields:=[(0,3),(1,3),(2,3),(3,3),(4,79),(12,83),(20,3),(21,3)],elem:=0,alen:=0,ty:=some (.named 6),zero:=[.int .i64,.int .i64,.int .i64,.int .i64,.int .i64,.int .i64,.int .i64,.int .i64,.int .u64,.int .u64,.int .i64,.int .i64,.int .i64,.int .i64,.int .i64,.int .i64,.int .u64,.int .i64,.int .i64,.int .i64,.int .i64,.int .i64],bytes:=176,sl:=false,fk:=false,cmp:=true,mp:=false}),
 (87,{size:=44,agg:=true,fields:=[(0,3),(1,3),(2,3),(3,3),(4,3),(5,38),(6,79),(14,83),(22,85)],elem:=0,alen:=0,ty:=some (.named 7),zero:=[.int .i64,.int .i64,.int .i64,.int .i64,.int .i64,.slice,.int .i64,.int .i64,.int .i64,.int .i64,.int .u64,.int .u64,.int .i64,.int .i64,.int .i64,.int .i64,.int .i64,.int .i64,.int .u64,.int .i64,.int .i64,.int .i64,.int .i64,.int .i64,.int .i64,.int .i64,.int .i64,.int .i64,.int .i64,.int .i64,.int .u64,.int .u64,.int .i64,.int .i64,.int .i64,.int .i64,.int .i64,.int .i64,.int .u64,.int .i64,.int .i64,.int .i64,.int .i64,.int .i64],bytes:=368,sl:=false,fk:=false,cmp:=false,mp:=false}),
 (95,{size:=41,agg:=true,fields:=[(0,3),(1,3),(2,3),(3,3),(4,3),(5,3),(6,3),(7,3),(8,38),(9,38),(10,38),(11,83),(19,85)],elem:=0,alen:=0,ty:=some (.named 8),zero:=[.int .i64,.int .i64,.int .i64,.int .i64,.int .i64,.int .i64,.int .i64,.int .i64,.slice,.slice,.slice,.int .i64,.int .i64,.int .i64,.int .i64,.int .u64,.int .i64,.int .i64,.int .i64,.int .i64,.int .i64,.int .i64,.int .i64,.int .i64,.int .i64,.int .i64,.int .i64,.int .u64,.int .u64,.int .i64,.int .i64,.int .i64,.int .i64,.int .i64,.int .i64,.int .u64,.int .i64,.int .i64,.int .i64,.int .i64,.int .i64],bytes:=376,sl:=false,fk:=false,cmp:=false,mp:=false}),
 (97,{size:=1,agg:=false,fields:=[],elem:=0,alen:=0,ty:=none,zero:=[.func],bytes:=8,sl:=false,fk:=true,cmp:=false,mp:=false}),
 (98,{size:=1,agg:=false,fields:=[],elem:=97,alen:=0,ty:=none,zero:=[.map],bytes:=8,sl:=false,fk:=false,cmp:=false,mp:=true}),
 (102,{size:=1,agg:=false,fields:=[],elem:=0,alen:=0,ty:=some zo,zero:=[.int .i64],bytes:=8,sl:=false,fk:=false,cmp:=false,mp:=false}),
 (109,{size:=6,agg:=true,fields:=[],elem:=63,alen:=6,ty:=none,zero:=[.func,.func,.func,.func,.func,.func],bytes:=48,sl:=false,fk:=false,cmp:=false,mp:=false}),
 (114,{size:=1,agg:=false,fields:=[],elem:=3,alen:=0,ty:=some z7,zero:=[.slice],bytes:=24,sl:=true,fk:=false,cmp:=false,mp:=false}),
 (140,{size:=79,agg:=true,fields:=[(0,87),(44,47),(78,3)],elem:=0,alen:=0,ty:=some (.named 14),zero:=[.int .i64,.int .i64,.int .i64,.int .i64,.int .i64,.slice,.int .i64,.int .i64,.int .i64,.int .i64,.int .u64,.int .u64,.int .i64,.int .i64,.int .i64,.int .i64,.int .i64,.int .i64,.int .u64,.int .i64,.int .i64,.int .i64,.int .i64,.int .i64,.int .i64,.int .i64,.int .i64,.int .i64,.int .i64,.int .i64,.int .u64,.int .u64,.int .i64,.int .i64,.int .i64,.int .i64,.int .i64,.int .i64,.int .u64,.int .i64,.int .i64,.int .i64,.int .i64,.int .i64,.int .i64,.int .i64,.int .i64,.int .i64,.int .i64,.int .i64,.int .i64,.int .i64,.int .i64,.slice,.int .u64,.slice,.slice,.slice,.int .i64,.slice,.slice,.slice,.int .u64,.int .u64,.int .i64,.int .i64,.bool,.bool,.int .i64,.slice,.int .i64,.int .i64,.int .i64,.slice,.slice,.slice,.int .i64,.int .i64,.int .i64],bytes:=816,sl:=false,fk:=false,cmp:=false,mp:=false}),
 (144,{size:=76,agg:=true,fields:=[(0,95),(41,47),(75,3)],elem:=0,alen:=0,ty:=some (.named 16),zero:=[.int .i64,.int .i64,.int .i64,.int .i64,.int .i64,.int .i64,.int .i64,.int .i64,.slice,.slice,.slice,.int .i64,.int .i64,.int .i64,.int .i64,.int .u64,.int .i64,.int .i64,.int .i64,.int .i64,.int .i64,.int .i64,.int .i64,.int .i64,.int .i64,.int .i64,.int .i64,.int .u64,.int .u64,.int .i64,.int .i64,.int .i64,.int .i64,.int .i64,.int .i64,.int .u64,.int .i64,.int .i64,.int .i64,.int .i64,.int .i64,.int .i64,.int .i64,.int .i64,.int .i64,.int .i64,.int .i64,.int .i64,.int .i64,.int .i64,.slice,.int .u64,.slice,.slice,.slice,.int .i64,.slice,.slice,.slice,.int .u64,.int .u64,.int .i64,.int .i64,.bool,.bool,.int .i64,.slice,.int .i64,.int .i64,.int .i64,.slice,.slice,.slice,.int .i64,.int .i64,.int .i64],bytes:=824,sl:=false,fk:=false,cmp:=false,mp:=false}),
 (146,{size:=1,agg:=false,fields:=[],elem:=0,alen:=0,ty:=none,zero:=[.func],bytes:=8,sl:=false,fk:=true,cmp:=false,mp:=false}),
 (147,{size:=4,agg:=true,fields:=[],elem:=146,alen:=4,ty:=none,zero:=[.func,.func,.func,.func],bytes:=32,sl:=false,fk:=false,cmp:=false,mp:=false}),
 (152,{size:=1,agg:=false,fields:=[],elem:=85,alen:=0,ty:=some (.slice (.named 6)),zero:=[.slice],bytes:=24,sl:=true,fk:=false,cmp:=false,mp:=false}),
 (161,{size:=64,agg:=true,fields:=[],elem:=3,alen:=64,ty:=some (.arr 64 zo),zero:=[.int .i64,.int .i64,.int .i64,.int .i64,.int .i64,.int .i64,.int .i64,.int .i64,.int .i64,.int .i64,.int .i64,.int .i64,.int .i64,.int .i64,.int .i64,.int .i64,.int .i64,.int .i64,.int .i64,.int .i64,.int .i64,.int .i64,.int .i64,.int .i64,.int .i64,.int .i64,.int .i64,.int .i64,.int .i64,.int .i64,.int .i64,.int .i64,.int .i64,.int .i64,.int .i64,.int .i64,.int .i64,.int .i64,.int .i64,.int .i64,.int .i64,.int .i64,.int .i64,.int .i64,.int .i64,.int .i64,.int .i64,.int .i64,.int .i64,.int .i64,.int .i64,.int .i64,.int .i64,.int .i64,.int .i64,.int .i64,.int .i64,.int .i64,.int .i64,.int .i64,.int .i64,.int .i64,.int .i64,.int .i64],bytes:=512,sl:=false,fk:=false,cmp:=true,mp:=false}),
 (172,{size:=1,agg:=false,fields:=[],elem:=3,alen:=0,ty:=none,zero:=[.map],bytes:=8,sl:=false,fk:=false,cmp:=false,mp:=true}),
 (178,{size:=4,agg:=true,fields:=[(0,3),(1,3),(2,27),(3,27)],elem:=0,alen:=0,ty:=some (.named 13),zero:=[.int .i64,.int .i64,.int .u64,.int .u64],bytes:=32,sl:=false,fk:=false,cmp:=true,mp:=false}),
 (183,{size:=1,agg:=false,fields:=[],elem:=0,alen:=0,ty:=none,zero:=[.func],bytes:=8,sl:=false,fk:=true,cmp:=false,mp:=false}),
 (184,{size:=1,agg:=false,fields:=[],elem:=183,alen:=0,ty:=none,zero:=[.map],bytes:=8,sl:=false,fk:=false,cmp:=false,mp:=true}),
 (197,{size:=1,agg:=false,fields:=[],elem:=0,alen:=0,ty:=none,zero:=[.func],bytes:=8,sl:=false,fk:=true,cmp:=false,mp:=false}),
 (198,{size:=1,agg:=false,fields:=[],elem:=197,alen:=0,ty:=none,zero:=[.map],bytes:=8,sl:=false,fk:=false,cmp:=false,mp:=true}),
 (200,{size:=1,agg:=false,fields:=[],elem:=0,alen:=0,ty:=none,zero:=[.func],bytes:=8,sl:=false,fk:=true,cmp:=false,mp:=false}),
 (210,{size:=1,agg:=false,fields:=[],elem:=0,alen:=0,ty:=none,zero:=[.func],bytes:=8,sl:=false,fk:=true,cmp:=false,mp:=false}),
 (212,{size:=8,agg:=true,fields:=[],elem:=210,alen:=8,ty:=none,zero:=[.func,.func,.func,.func,.func,.func,.func,.func],bytes:=64,sl:=false,fk:=false,cmp:=false,mp:=false}),
 (214,{size:=56,agg:=true,fields:=[(0,85),(22,47)],elem:=0,alen:=0,ty:=some (.named 15),zero:=[.int .i64,.int .i64,.int .i64,.int .i64,.int .i64,.int .i64,.int .i64,.int .i64,.int .u64,.int .u64,.int .i64,.int .i64,.int .i64,.int .i64,.int .i64,.int .i64,.int .u64,.int .i64,.int .i64,.int .i64,.int .i64,.int .i64,.int .i64,.int .i64,.int .i64,.int .i64,.int .i64,.int .i64,.int .i64,.int .i64,.int .i64,.slice,.int .u64,.slice,.slice,.slice,.int .i64,.slice,.slice,.slice,.int .u64,.int .u64,.int .i64,.int .i64,.bool,.bool,.int .i64,.slice,.int .i64,.int .i64,.int .i64,.slice,.slice,.slice,.int .i64,.int .i64],bytes:=616,sl:=false,fk:=false,cmp:=false,mp:=false}),
 (232,{size:=1,agg:=false,fields:=[],elem:=114,alen:=0,ty:=some zQ,zero:=[.slice],bytes:=24,sl:=true,fk:=false,cmp:=false,mp:=false}),
 (234,{size:=3,agg:=true,fields:=[],elem:=200,alen:=3,ty:=none,zero:=[.func,.func,.func],bytes:=24,sl:=false,fk:=false,cmp:=false,mp:=false}),
 (235,{size:=1,agg:=false,fields:=[],elem:=237,alen:=0,ty:=none,zero:=[.slice],bytes:=24,sl:=true,fk:=false,cmp:=false,mp:=false}),
 (237,{size:=1,agg:=false,fields:=[],elem:=0,alen:=0,ty:=none,zero:=[.func],bytes:=8,sl:=false,fk:=true,cmp:=false,mp:=false})]
theorem zrR:yS E.leaves Tryz.prog tab=true:=by kernel_rfl
theorem zwy:(Tryz.prog).follows .mixedOrders=true:=by kernel_rfl
abbrev L (n:Nat):List SK:=(lvs n).map .val
abbrev vI:SK:= .val zo
abbrev vU:SK:= .val (.int .u64)
abbrev vB:SK:= .val .bool
abbrev vL:SK:= .val z7
abbrev vM:SK:= .val (.slice (.int .u64))
abbrev oI:Grp:= .one zo
abbrev oU:Grp:= .one (.int .u64)
abbrev oB:Grp:= .one .bool
abbrev oL:Grp:= .one z7
abbrev oM:Grp:= .one (.slice (.int .u64))
noncomputable abbrev cf:=zEv (E:=E) Tryz.prog tab
noncomputable abbrev cf1 a:=cf a [] [] [] [] []
noncomputable abbrev sp (C:Cfg E) (fn:Func) (i o:wo) (gi go:List Grp) (hi:Yl E gi=i.holes:=by kernel_rfl) (ho:Yl E go=o.holes:=by kernel_rfl):zK E:=zr1 C fn i o gi go hi ho
noncomputable abbrev lo (sl:List Nat) (i:wo) (b:Nat) (bs:List Nat) (bk:wo) (rs:List Nat) (r:wo) (gi gb gr:List Grp) (hi:Yl E gi=i.holes:=by kernel_rfl) (hb:Yl E gb=bk.holes:=by kernel_rfl) (hr:Yl E gr=r.holes:=by kernel_rfl):zZ E:={slots:=sl,inn:=i,brkId:=b,bslots:=bs,brk:=bk,rslots:=rs,ret:=r,gi:=grp gi hi,gb:=grp gb hb,gr:=grp gr hr}
end Go.Pe.G
namespace Go.Proofs
open Go.Shelf
def rhoTz:Go.Shelf.Ren:={f:=fun k=>if k=29 then 116 else k,t:=fun k=>if k=22 then 27 else if k=25 then 174 else if k=54 then 196 else k,g:=fun k=>if k=1 then 0 else k}
theorem laysTz:Lays7.n29 Tryz.prog rhoTz:=by
 constructor<;>first | kernel_rfl | (intro w;kernel_rfl)
end Go.Proofs
namespace Go.Pe.G
open Go.Pe Go.Proofs
def zoA (G:Nat->Prop) (W0:World):Prop:=G 0/\Go.Proofs.TabAt 0 Go.Lib.deBruijn64tab W0
noncomputable def tz (x:zB):Int:=((Go.Lib.ctz 64 x.toNat:Nat):Int)
noncomputable def pTZ:zK E:={inn:=⟨[.val (.int .u64)],[]⟩,out:=⟨[.val zo],[]⟩,gi:=grp [.one (.int .u64)] rfl,go:=grp [.one zo] rfl,F:=fun x=>some (tz x.1,())}
noncomputable def qTZ (a:zB):Option (Int×Unit):=pTZ.F (a,())
theorem zJa (a:zB):qTZ a=some (tz a,()):=rfl
theorem zI4:Zf Tryz.prog 116=true:=by kernel_rfl
theorem zE8 {G:Nat->Prop}{W0:World}(hG:zoA G W0):Xj Tryz.prog G W0 116 pTZ:=by
 intro A0 μ w args x y wd S hr hy;obtain ⟨hg,hT⟩:=hG;have hw:w.heap[0]? =W0.heap[0]? :=(wd.glob 0 hg).2;have hx:∃v,args= #[v]/\yt E w (Av A0 μ ([]:List (Blk E))) (.int .u64) v x.1:=by
  have hl:=hr.1;have hl:1=args.toList.length:=hl
  match ha:args.toList,hl with
  | [v],_ =>
   have h1:=hr.2 0 (.v (.int .u64) x.1) v rfl (by rw [ha];rfl);refine ⟨v,?_,?_⟩
   .rw [<-zMl (xs:=args),ha]
   .cases h1 with
    | v _ _ _ h=>exact h
 obtain ⟨v,rfl,hv⟩:=hx;cases hv with
 | int k z =>
 have hz:x.1.toNat<18446744073709551616:=x.1.isLt;have hk:=Go.Proofs.Any7.bits_TrailingZeros64 Go.Proofs.laysTz x.1.toNat hz w (fun _ j hj=>by
  have:=hT j hj;unfold World.cell? at this ⊢;show _=_;have e0:Go.Proofs.rhoTz.g 1=0:=rfl;rw [e0];simp only [hw];exact this)
 have hy:some (tz x.1,())=some y:=hy;injection hy with hy;subst hy;refine hk.mono ?_;rintro e w' ⟨rfl,rfl⟩;refine ⟨[.int .i64 (tz x.1)],A0,μ,rfl,S,?_,Adv.refl _ _,fun _ h=>h,wd.low,fun j ws h=>by simp [pTZ] at h⟩;exact RL.cons (.v _ _ _ (.int .i64 (tz x.1))) RL.nil
noncomputable def zal:Nat->BitVec 64->Option zy
 | 0,_=>none
 | f+1,s=>bif decide (s=0#64) then some [] else (zal f (s&&&(s-1#64))).map fun l=>w64 (tz s+1)::l
def um (n:Nat):Nat->List Int->List zy
 | 0,_=>[]
 | _+1,[]=>[]
 | f+1,x::l=>(x::l).take n::um n f ((x::l).drop n)
def zlu (l:zy) (n:Int):Option zD:=bif decide (1<=n)&&decide (n<1000000)&&decide ((l.length:Int)<1000000) then some (um n.toNat l.length l) else none
end Go.Pe.G
namespace Go.Proofs
open Go.Shelf
def zJ7:Go.Shelf.Ren:={f:=fun k=>if k=125 then 228 else if k=128 then 252 else if k=129 then 253 else if k=215 then 262 else if k=216 then 249 else if k=257 then 227 else if k=294 then 243 else if k=295 then 244 else if k=296 then 245 else if k=297 then 246 else if k=298 then 247 else if k=299 then 248 else if k=300 then 250 else if k=301 then 251 else if k=328 then 257 else if k=329 then 258 else if k=330 then 259 else if k=331 then 260 else if k=332 then 261 else if k=343 then 263 else k,t:=fun k=>if k=0 then 0 else if k=3 then 3 else if k=4 then 4 else if k=5 then 5 else if k=9 then 9 else if k=28 then 38 else if k=46 then 174 else if k=51 then 258 else if k=53 then 27 else if k=131 then 207 else if k=182 then 251 else if k=183 then 252 else if k=218 then 261 else if k=222 then 264 else if k=228 then 266 else if k=229 then 53 else k,g:=fun k=>k}
theorem laysPd:Lays.n257 Tryz.prog zJ7:=by
 constructor<;>first | kernel_rfl | (intro w;kernel_rfl)
def zJS:Go.Shelf.Ren:={f:=fun k=>if k=125 then 228 else if k=128 then 252 else if k=129 then 253 else k,t:=fun k=>if k=3 then 3 else if k=4 then 4 else if k=5 then 5 else if k=9 then 9 else if k=46 then 174 else if k=51 then 258 else if k=53 then 27 else k,g:=fun k=>k}
theorem laysLn:Lays.n125 Tryz.prog zJS:=by
 constructor<;>first | kernel_rfl | (intro w;kernel_rfl)
end Go.Proofs
namespace Go.Pe.G
open Go.Pe Go.Proofs
noncomputable def zBF (x:BitVec 64):Int:=((Go.Lib.bitLen x.toNat:Nat):Int)
noncomputable def zGZ:zK E:={inn:=⟨[.val (.int .u64)],[]⟩,out:=⟨[.val (.int .i64)],[]⟩,gi:=grp [.one (.int .u64)] rfl,go:=grp [.one (.int .i64)] rfl,F:=fun x=>some (zBF x.1,())}
noncomputable def zKp (a:BitVec 64):Option (Int×Unit):=zGZ.F (a,())
theorem zKz (a:BitVec 64):zKp a=some (zBF a,()):=rfl
theorem zKw:Zf Tryz.prog 228=true:=by kernel_rfl
noncomputable def wJ (l:List Int):List Int:=l.mergeSort fun x y=>decide (x<=y)
noncomputable def zDR (a b c:Int) (l:List Int):Option (List Int×Unit):=bif decide (a=0)&&decide (b=(l.length:Int))&&decide (c=((Go.Sort.bitsLen l.length:Nat):Int))&&decide (l.length<4294967296) then some (wJ l,()) else none
noncomputable def zD2:zK E:={inn:=⟨[.own 0,.val (.int .i64),.val (.int .i64),.val (.int .i64)],[.row true (.int .i64)]⟩,out:=⟨[],[.row true (.int .i64)]⟩,gi:=grp [.one (.int .i64),.one (.int .i64),.one (.int .i64),.one (.slice (.int .i64))] rfl,go:=grp [.one (.slice (.int .i64))] rfl,F:=fun x=>zDR x.1 x.2.1 x.2.2.1 x.2.2.2.1}
noncomputable def zKs (a b c:Int) (l:List Int):Option (List Int×Unit):=zD2.F (a,b,c,l,())
theorem zKB (a b c:Int) (l:List Int):zKs a b c l=zDR a b c l:=rfl
theorem zKA:Zf Tryz.prog 227=true:=by kernel_rfl
theorem zKf {G:Nat->Prop}{W0:World}(hG:zoA G W0):Xj Tryz.prog G W0 228 zGZ:=by
 intro A0 μ w args x y wd S hr hy;have hx:∃v,args= #[v]/\yt E w (Av A0 μ ([]:List (Blk E))) (.int .u64) v x.1:=by
  have hl:=hr.1;have hl:1=args.toList.length:=hl
  match ha:args.toList,hl with
  | [v],_ =>
   have h1:=hr.2 0 (.v (.int .u64) x.1) v rfl (by rw [ha];rfl);refine ⟨v,?_,?_⟩
   .rw [<-zMl (xs:=args),ha]
   .cases h1 with
    | v _ _ _ h=>exact h
 obtain ⟨v,rfl,hv⟩:=hx;cases hv with
 | int k z =>
 have hz:x.1.toNat<18446744073709551616:=x.1.isLt;have hk:=Go.calls_of_every_depth fun D=>Go.Proofs.AnyS.bits_LenIn Go.Proofs.laysLn D (x.1.toNat:Int) w (by omega) (by omega);rw [zLn] at hk;have hy:some (zBF x.1,())=some y:=hy;injection hy with hy;subst hy;refine hk.mono ?_;rintro e w' ⟨rfl,rfl⟩;refine ⟨[.int .i64 (zBF x.1)],A0,μ,rfl,S,?_,Adv.refl _ _,fun _ h=>h,wd.low,fun j ws h=>by simp [zGZ] at h⟩;exact RL.cons (.v _ _ _ (.int .i64 (zBF x.1))) RL.nil
noncomputable def zo1 (l:List Int):Option (List Int×Unit):=bif decide (l.length<4294967296) then some (wJ l,()) else none
noncomputable def zsY:zK E:={inn:=⟨[.val (.slice (.int .i64))],[]⟩,out:=⟨[.own 0],[.row true (.int .i64)]⟩,gi:=grp [.one (.slice (.int .i64))] rfl,go:=grp [.one (.slice (.int .i64))] rfl,F:=fun x=>zo1 x.1}
noncomputable def zs6 (l:List Int):Option (List Int×Unit):=zsY.F (l,())
theorem zEE (l:List Int):zs6 l=zo1 l:=rfl
theorem zv1 {A0:Nat->Prop}{μ:Nat->Loc}{l:List Int}{w:World}{bk off cap:Nat}{cc:Array Value}{t:TypeId}(S:z9 A0 μ [Blk.row (E:=E) true (.int .i64) l] w) (hμ:μ 0= .blk bk off l.length cap) (hb:bk<w.heap.size) (e2:w.heap[bk]? =some (.cells cc t (0,0))) (h1:l.length<=cap) (h2:off+cap*1<=cc.size)
  (hcell:∀(j:Nat) (h:j<l.length),cc[off+j]? =some (.int .i64 l[j])) (n:Nat) (os:Array Obj) :
  z9 A0 μ [Blk.row (E:=E) true (.int .i64) (wJ l)] (Go.Sort.grow (Go.Sort.putRow (Value.int .i64) (Go.Sort.ahead w n) bk off (wJ l).toArray) os)/\Adv (Lv μ [Blk.row (E:=E) true (.int .i64) l]) w (Lv μ [Blk.row (E:=E) true (.int .i64) (wJ l)]) (Go.Sort.grow (Go.Sort.putRow (Value.int .i64) (Go.Sort.ahead w n) bk off (wJ l).toArray) os):=by
 have hlen':(wJ l).length=l.length:=List.length_mergeSort l;have hheap:∀k,k<w.heap.size->(Go.Sort.grow (Go.Sort.putRow (Value.int .i64) (Go.Sort.ahead w n) bk off (wJ l).toArray) os).heap[k]? =if bk=k then some (.cells (Go.Sort.putCells (Value.int .i64) off (wJ l).toArray cc) t (0,0)) else w.heap[k]? :=fun k hk=>by
  rw [Go.Sort.heap_grow_old _ _ (by unfold Go.Sort.putRow Go.Sort.mapBlock Go.Sort.ahead;simpa using hk)];unfold Go.Sort.putRow Go.Sort.mapBlock Go.Sort.ahead;dsimp only;rw [Array.getElem?_modify];split
  .rename_i h;subst h;rw [e2];rfl
  .rfl
 have hsize:w.heap.size<=(Go.Sort.grow (Go.Sort.putRow (Value.int .i64) (Go.Sort.ahead w n) bk off (wJ l).toArray) os).heap.size:=by
  unfold Go.Sort.grow Go.Sort.putRow Go.Sort.mapBlock Go.Sort.ahead;simp
 have hput:∀(i:Nat) (h:i<(wJ l).length),(Go.Sort.putCells (Value.int .i64) off (wJ l).toArray cc)[off+i]? =some (.int .i64 (wJ l)[i]):=fun i h=>by
  unfold Go.Sort.putCells;rw [Array.getElem?_mapIdx,hcell i (by omega),zLH,zb ⟨by omega,by simp;omega⟩,show off+i-off=i by omega,getElem!_pos (wJ l).toArray i (by simpa using h)];rfl
 refine ⟨⟨fun id=>?_,fun i j b o l c b' o' l' c' ne hi hj=>?_,fun id b o l c ho hm=>?_⟩,⟨rfl,rfl,rfl,hsize,fun b hb2 hn=>?_,fun b _ h=>?_⟩⟩
 .match id with
  | 0 =>
   refine .inl ⟨bk,off,cap,_,fun i=>.int .i64 ((wJ l).getD i 0),?_,⟨t,(0,0),by rw [hheap bk hb,zb rfl],fun _=>rfl⟩,?_,?_,fun i hi j u hu=>?_,fun i hi=>?_⟩
   .rw [hμ];show Loc.blk bk off l.length cap=Loc.blk bk off (wJ l).length cap;rw [hlen']
   .show (wJ l).length<=cap;omega
   .show off+cap*1<=(Go.Sort.putCells (Value.int .i64) off (wJ l).toArray cc).size;unfold Go.Sort.putCells;rw [Array.size_mapIdx];exact h2
   .have hi:i<(wJ l).length:=hi
    match j,hu with
    | 0,hu =>
     have hu:some (Value.int .i64 ((wJ l).getD i 0))=some u:=hu;injection hu with hu;subst hu;show (Go.Sort.putCells (Value.int .i64) off (wJ l).toArray cc)[off+i*1+0]? =_;rw [zLz,zLp,hput i hi,zKH,zKG hi];rfl
    | j+1,hu=>cases hu
   .have hi:i<(wJ l).length:=hi;have e:(wJ l).getD i 0=(wJ l)[i]:=by rw [zKH,zKG hi];rfl
    show yt E _ _ (.int .i64) (.int .i64 ((wJ l).getD i 0)) (wJ l)[i];rw [e];exact .int .i64 _
  | id+1=>exact trivial
 .match i,j with
  | 0,0=>exact zm rfl ne
  | 0,j+1=>cases hj
  | i+1,_=>cases hi
 .match id with
  | 0 =>
   have hm:μ 0=Loc.blk b o l c:=hm;have:=S.out 0 b o l c rfl hm;exact ⟨this.1,zK0 this.2 hsize⟩
  | id+1=>cases ho
 .rw [hheap b hb2,zc];rintro rfl;exact hn ⟨0,off,l.length,cap,rfl,hμ⟩
 .obtain ⟨id,off2,len2,cap2,hl,hm⟩:=h
  match id with
  | 0=>exact ⟨0,off2,len2,cap2,rfl,hm⟩
  | id+1=>cases hl
theorem zJ9 {G:Nat->Prop}{W0:World}(hG:zoA G W0):Xj Tryz.prog G W0 227 zD2:=by
 intro A0 μ w args x y wd S hr hy;obtain ⟨a,b,c,l,⟨⟩⟩:=x;have hx:∃v0 v1 v2 v3,args= #[v0,v1,v2,v3]/\ym E w (Av A0 μ [Blk.row true (.int .i64) l]) (Us [Blk.row true (.int .i64) l]) μ (.own 0) v0/\v1= .int .i64 a/\v2= .int .i64 b/\v3= .int .i64 c:=by
  have hl:=hr.1;have hl:4=args.toList.length:=hl;have num:∀ {v:Value}{z:Int},ym E w (Av A0 μ [Blk.row true (.int .i64) l]) (Us [Blk.row true (.int .i64) l]) μ (.v (.int .i64) z) v->v= .int .i64 z:=fun h=>by
   cases h with
   | v _ _ _ h=>cases h with
    | int k z=>rfl
  match ha:args.toList,hl with
  | [v0,v1,v2,v3],_ =>
   have h0:=hr.2 0 (.own 0) v0 rfl (by rw [ha];rfl);have h1:=hr.2 1 (.v (.int .i64) a) v1 rfl (by rw [ha];rfl);have h2:=hr.2 2 (.v (.int .i64) b) v2 rfl (by rw [ha];rfl);have h3:=hr.2 3 (.v (.int .i64) c) v3 rfl (by rw [ha];rfl);refine ⟨v0,v1,v2,v3,?_,h0,num h1,num h2,num h3⟩;rw [<-zMl (xs:=args),ha]
 obtain ⟨v0,_,_,_,rfl,h0,rfl,rfl,rfl⟩:=hx;have hy:zDR a b c l=some y:=hy;unfold zDR at hy;cases hc:(decide (a=0)&&decide (b=(l.length:Int))&&decide (c=((Go.Sort.bitsLen l.length:Nat):Int))&&decide (l.length<4294967296)) with
 | false=>rw [hc] at hy;cases hy
 | true =>
 rw [hc] at hy;injection hy with hy;subst hy;simp only [zKF,decide_eq_true_eq] at hc;obtain ⟨⟨⟨rfl,rfl⟩,rfl⟩,hlen⟩:=hc;have S:z9 A0 μ [Blk.row true (.int .i64) l] w:=S;have hok:=S.ok 0;cases h0 with
 | own0 _ a1 a2 hU hμ =>
  have hl:l=[]:=by
   rcases hok with ⟨_,_,_,_,_,e1,_⟩ | ⟨e,_⟩
   .have e1:μ 0=_:=e1;rw [hμ] at e1;cases e1
   .exact e
  subst hl;have hk:=Go.calls_of_every_depth fun D=>Go.Proofs.AnyS.pdqsort_int_none_in Go.Proofs.laysPd D a1 0 w;refine hk.mono ?_;rintro e w' ⟨rfl,rfl⟩;have e0:wJ []=[]:=by unfold wJ;simp
  refine ⟨[],A0,μ,rfl,?_⟩;show zA0 A0 μ _ _ zD2 (zD2.go.to (wJ [],())) _ _ _ _;rw [e0];exact ⟨S,RL.nil,Adv.refl _ _,fun _ h=>h,wd.low,fun j ws h=>by
   cases j with
   | zero=>cases h
   | succ j=>cases h⟩
 | own _ bk off len cap hU hμ =>
  obtain ⟨hA,hb⟩:=S.out 0 bk off len cap rfl hμ;obtain ⟨cc,vs,t,rfl,e2,h1,h2,h3,h4⟩:∃(cc:Array Value) (vs:Nat->Value) (t:TypeId),len=l.length/\w.heap[bk]? =some (.cells cc t (0,0))/\l.length<=cap/\off+cap*1<=cc.size /\
    (∀i,i<l.length->∀j u,(vs i).cells[j]? =some u->cc[off+i*1+j]? =some u)/\∀i (h:i<l.length),yt E w (Av A0 μ [Blk.row true (.int .i64) l]) (.int .i64) (vs i) l[i]:=by
   rcases hok with ⟨b',off',cap',cc,vs,e1,⟨t,f,e2,e3⟩,h1,h2,h3,h4⟩ | ⟨_,a,e⟩
   .have e1:μ 0=_:=e1;rw [hμ] at e1;injection e1 with q1 q2 q3 q4;subst q1;subst q2;subst q4;have e3:=e3 rfl;subst e3;exact ⟨cc,vs,t,q3,e2,h1,h2,h3,h4⟩
   .have e:μ 0=_:=e;rw [hμ] at e;cases e
  have hcell:∀(j:Nat) (h:j<l.length),cc[off+j]? =some (.int .i64 l[j]):=fun j h=>by
   have r:=h4 j h;have q:=h3 j h 0;obtain ⟨z,hz⟩:∃z:Int,z=l[j]:=⟨_,rfl⟩
   rw [<-hz] at r ⊢;generalize vs j=vj at r q;cases r with
   | int k z =>
    have:=q _ rfl;rw [zLz,zLp] at this;exact this
  have hsz:l.toArray.size=l.length:=by simp
  have hH:Go.Sort.Holds (Value.int .i64) w bk off l.toArray:=fun j hj=>by
   have hj:j<l.length:=by rw [<-hsz];exact hj
   refine ⟨?_,?_⟩
   .unfold World.cell?;rw [e2];show cc[off+j]? =some (Value.int .i64 l.toArray[j]!);rw [hcell j hj,getElem!_pos l.toArray j (by rw [hsz];exact hj)];rfl
   .unfold World.frozen?;rw [e2];simp
  have hlog:Go.Sort.bitsLen l.toArray.size<4611686018427387904:=by
   rw [hsz];unfold Go.Sort.bitsLen;split
   .omega
   .rename_i h0;have:=(Nat.log2_lt h0 (k:=32)).2 (by omega);omega
  have hdep:=Go.Sort.pdqDepth_le_59 Go.Sort.ltInt l.toArray 0 l.toArray.size (Go.Sort.bitsLen l.toArray.size) true true (by rw [hsz];omega);have hk:=Go.calls_of_every_depth fun D=>Go.Proofs.Any.pdqWalkInInt Go.Proofs.laysPd D 65 bk off cap 0 l.toArray.size (Go.Sort.bitsLen l.toArray.size) l.toArray w (by omega) hH hb (zLI _) (zKJ _) (by rw [hsz];omega) hlog (Or.inl rfl);have hs:Go.Sort.pdq Go.Sort.ltInt l.toArray 0 l.toArray.size (Go.Sort.bitsLen l.toArray.size) true true=(wJ l).toArray:=Go.Proofs.Any.sort_int_eqD l;rw [hs,hsz] at hk;refine hk.mono ?_;rintro e w' ⟨rfl,n,os,rfl⟩;obtain ⟨hS,hAd⟩:=zv1 S hμ hb e2 h1 h2 hcell n os;exact ⟨[],A0,μ,rfl,hS,RL.nil,hAd,fun _ h=>h,fun b h=>zK0 (wd.low b h) hAd.size,fun j ws h=>by
   cases j with
   | zero=>cases h
   | succ j=>cases h⟩
end Go.Pe.G
namespace Go.Pe.G
open Go.Pe Go.Proofs
noncomputable def zwD (l:List Int):Option (List Int×Unit):=bif decide (0<l.length)&&decide (l.length<4294967296) then some (l.filter (fun x=> !decide (x=0)),()) else none
noncomputable def zAc:zK E:={inn:=⟨[.own 0],[.row true (.int .i64)]⟩,out:=⟨[.own 1],[.gone,.row true (.int .i64)]⟩,gi:=grp [.one (.slice (.int .i64))] rfl,go:=grp [.one (.slice (.int .i64))] rfl,F:=fun x=>zwD x.1}
noncomputable def zfV (l:List Int):Option (List Int×Unit):=zAc.F (l,())
theorem zA2 (l:List Int):zfV l=zwD l:=rfl
noncomputable def zwb (n:Int):Option (List Int×Unit):=bif decide (0<=n)&&decide (n<4294967296) then some ([],()) else none
noncomputable def zDU:zK E:={inn:=⟨[.nils,.val (.int .i64)],[]⟩,out:=⟨[.own 0],[.row true (.int .i64)]⟩,gi:=grp [.one (.int .i64)] rfl,go:=grp [.one (.slice (.int .i64))] rfl,F:=fun x=>zwb x.1}
noncomputable def zDV (n:Int):Option (List Int×Unit):=zDU.F (n,())
theorem zGW (n:Int):zDV n=zwb n:=rfl
theorem zKx:Zf Tryz.prog 199=true:=by kernel_rfl
theorem zKy:Zf Tryz.prog 204=true:=by kernel_rfl
end Go.Pe.G
namespace Go.Pe.G
open Go.Pe Go.Proofs
noncomputable section
def zrS:Cfg E:=cf1 []
def zex:zK E:=sp zrS Tryz.f95 ⟨[vI,.ptr 0],[.box false [vI,.val zQ]]⟩ ⟨[vB],[.gone]⟩ [oI,.str 2] [oB]
def zmj (a1:Int) (a2:zr):Option (Bool×Unit):=zex.F (a1,a2,())
def Ze:zZ E:=lo [0,1,7,8] ⟨[vL,.fn 95 [.ptr 1],vI,vI],[.gone,.box false [vI,.val zQ]]⟩ 0 [] ⟨[],[.gone]⟩ [4] ⟨[vI],[.gone]⟩ [oL,oI,oI,.str 2] [] [oI]
def wY:Cfg E:=cf [(95,[zex])] [(2,Ze)] [] [] [] []
def vh:zK E:=sp wY Tryz.f109 ⟨[vL,.fn 95 [.ptr 0]],[.box false [vI,.val zQ]]⟩ ⟨[vI],[.gone]⟩ [oL,.str 2] [oI]
def ZC (a1:zy) (a2:zr):Option (Int×Unit):=vh.F (a1,a2,())
def u0 (x:zy×Int×Int×zr×Unit):Option (yM (zy×Int×Int×zr×Unit) (Unit) (Int×Unit)):=yo wY (exec wY (yC Tryz.f109 2)) 19 Ze x
def Wo:Cfg E:=cf1 [(109,[vh])]
def wN:zK E:=sp Wo Tryz.f71 ⟨[vL,.fn 95 [.ptr 0]],[.box false [vI,.val zQ]]⟩ ⟨[vB],[.gone]⟩ [oL,.str 2] [oB]
def wQ (a1:zy) (a2:zr):Option (Bool×Unit):=wN.F (a1,a2,())
def zu0:Cfg E:=cf1 [(71,[wN])]
def zhh:zK E:=sp zu0 Tryz.f94 ⟨[vL,.ptr 0],[.box false [vI,.val zQ]]⟩ ⟨[vB],[.gone]⟩ [oL,.str 2] [oB]
def zps (a1:zy) (a2:zr):Option (Bool×Unit):=zhh.F (a1,a2,())
def Za:zZ E:=lo [0,1,7,8] ⟨[.val zQ,.fn 94 [.ptr 1],vI,vI],[.gone,.box false [vI,.val zQ]]⟩ 0 [] ⟨[],[.gone]⟩ [4] ⟨[vI],[.gone]⟩ [.one zQ,oI,oI,.str 2] [] [oI]
def wZ:Cfg E:=cf [(94,[zhh])] [(2,Za)] [] [] [] []
def vi:zK E:=sp wZ Tryz.f149 ⟨[.val zQ,.fn 94 [.ptr 0]],[.box false [vI,.val zQ]]⟩ ⟨[vI],[.gone]⟩ [.one zQ,.str 2] [oI]
def ZG (a1:zD) (a2:zr):Option (Int×Unit):=vi.F (a1,a2,())
def u9 (x:zD×Int×Int×zr×Unit):Option (yM (zD×Int×Int×zr×Unit) (Unit) (Int×Unit)):=yo wZ (exec wZ (yC Tryz.f149 2)) 19 Za x
def Wy:Cfg E:=cf1 [(149,[vi])]
def wL:zK E:=sp Wy Tryz.f96 ⟨[.val zQ,.fn 94 [.ptr 0]],[.box false [vI,.val zQ]]⟩ ⟨[vB],[.gone]⟩ [.one zQ,.str 2] [oB]
def wK (a1:zD) (a2:zr):Option (Bool×Unit):=wL.F (a1,a2,())
def zx1:Cfg E:=cf1 [(96,[wL])]
def zck:zK E:=sp zx1 Tryz.f53 ⟨[.val (.named 2)],[]⟩ ⟨[vB],[]⟩ [.one (.named 2)] [oB]
def Xq (a1:zr):Option (Bool×Unit):=zck.F (a1,())
def zzL:Cfg E:=cf1 []
def UF:zK E:=sp zzL Tryz.f54 ⟨[vI],[]⟩ ⟨[vU],[]⟩ [oI] [oU]
def Ut (a1:Int):Option (zB×Unit):=UF.F (a1,())
def zz5:Cfg E:=cf1 []
def UI:zK E:=sp zz5 Tryz.f60 ⟨[vU,vU],[]⟩ ⟨[vB],[]⟩ [oU,oU] [oB]
def WK (a1:zB) (a2:zB):Option (Bool×Unit):=UI.F (a1,a2,())
def zwW:Cfg E:=cf1 []
def zbk:zK E:=sp zwW Tryz.f70 ⟨[vI,vI,vI],[]⟩ ⟨[vB],[]⟩ [oI,oI,oI] [oB]
def Zh (a1:Int) (a2:Int) (a3:Int):Option (Bool×Unit):=zbk.F (a1,a2,a3,())
def zrn:Cfg E:=cf1 [(70,[zbk])]
def zdl:zK E:=sp zrn Tryz.f69 ⟨[.val (.named 3)],[]⟩ ⟨[vB],[]⟩ [.one (.named 3)] [oB]
def zdj (a1:zd):Option (Bool×Unit):=zdl.F (a1,())
def zuW:Cfg E:=cf1 [(70,[zbk])]
def zgP:zK E:=sp zuW Tryz.f72 ⟨[vI,.ptr 0],[.box false [vI]]⟩ ⟨[vB],[.gone]⟩ [oI,oI] [oB]
def zo5 (a1:Int) (a2:Int):Option (Bool×Unit):=zgP.F (a1,a2,())
def Zt:zZ E:=lo [0,1,7,8] ⟨[vL,.fn 72 [.ptr 1],vI,vI],[.gone,.box false [vI]]⟩ 0 [] ⟨[],[.gone]⟩ [4] ⟨[vI],[.gone]⟩ [oL,oI,oI,oI] [] [oI]
def vl:Cfg E:=cf [(72,[zgP])] [(2,Zt)] [] [] [] []
def vE:zK E:=sp vl Tryz.f109 ⟨[vL,.fn 72 [.ptr 0]],[.box false [vI]]⟩ ⟨[vI],[.gone]⟩ [oL,oI] [oI]
def ZZ (a1:zy) (a2:Int):Option (Int×Unit):=vE.F (a1,a2,())
def Zv (x:zy×Int×Int×Int×Unit):Option (yM (zy×Int×Int×Int×Unit) (Unit) (Int×Unit)):=yo vl (exec vl (yC Tryz.f109 2)) 19 Zt x
def WT:Cfg E:=cf1 [(109,[vE])]
def vb:zK E:=sp WT Tryz.f71 ⟨[vL,.fn 72 [.ptr 0]],[.box false [vI]]⟩ ⟨[vB],[.gone]⟩ [oL,oI] [oB]
def va (a1:zy) (a2:Int):Option (Bool×Unit):=vb.F (a1,a2,())
def zug:Cfg E:=cf1 []
def zhw:zK E:=sp zug Tryz.f159 ⟨[vI,.ptr 0],[.box false [vI]]⟩ ⟨[vB],[.gone]⟩ [oI,oI] [oB]
def yv (a1:Int) (a2:Int):Option (Bool×Unit):=zhw.F (a1,a2,())
def zxk:Cfg E:=cf1 [(159,[zhw])]
def zmb:zK E:=sp zxk Tryz.f112 ⟨[.val (.named 0),vI,vI],[]⟩ ⟨[vB],[]⟩ [.one (.named 0),oI,oI] [oB]
def zlw (a1:zE) (a2:Int) (a3:Int):Option (Bool×Unit):=zmb.F (a1,a2,a3,())
def zxa:Cfg E:=cf1 [(112,[zmb])]
def zj4:zK E:=sp zxa Tryz.f111 ⟨[.val (.named 0),.ptr 0,.ptr 1],[.box false [vI],.box false [vI]]⟩ ⟨[vB],[.gone,.gone]⟩ [.one (.named 0),oI,oI] [oB]
def zqY (a1:zE) (a2:Int) (a3:Int):Option (Bool×Unit):=zj4.F (a1,a2,a3,())
def uh:zZ E:=lo [0,1,7,8] ⟨[.val (.slice (.named 0)),.fn 111 [.ptr 2,.ptr 3],vI,vI],[.gone,.gone,.box false [vI],.box false [vI]]⟩ 0 [] ⟨[],[.gone,.gone]⟩ [4] ⟨[vI],[.gone,.gone]⟩ [.one (.slice (.named 0)),oI,oI,oI,oI] [] [oI]
def wn:Cfg E:=cf [(111,[zj4])] [(2,uh)] [] [] [] []
def wy:zK E:=sp wn Tryz.f158 ⟨[.val (.slice (.named 0)),.fn 111 [.ptr 0,.ptr 1]],[.box false [vI],.box false [vI]]⟩ ⟨[vI],[.gone,.gone]⟩ [.one (.slice (.named 0)),oI,oI] [oI]
def uL (a1:List zE) (a2:Int) (a3:Int):Option (Int×Unit):=wy.F (a1,a2,a3,())
def uj (x:(List zE)×Int×Int×Int×Int×Unit):Option (yM ((List zE)×Int×Int×Int×Int×Unit) (Unit) (Int×Unit)):=yo wn (exec wn (yC Tryz.f158 2)) 19 uh x
def Xh:Cfg E:=cf1 [(158,[wy])]
def wh:zK E:=sp Xh Tryz.f110 ⟨[.val (.slice (.named 0)),.fn 111 [.ptr 0,.ptr 1]],[.box false [vI],.box false [vI]]⟩ ⟨[vB],[.gone,.gone]⟩ [.one (.slice (.named 0)),oI,oI] [oB]
def ui (a1:List zE) (a2:Int) (a3:Int):Option (Bool×Unit):=wh.F (a1,a2,a3,())
def zzP:Cfg E:=cf1 [(110,[wh])]
def zot:zK E:=sp zzP Tryz.f73 ⟨[.val (.slice (.named 0)),vI,vI],[]⟩ ⟨[vB],[]⟩ [.one (.slice (.named 0)),oI,oI] [oB]
def zod (a1:List zE) (a2:Int) (a3:Int):Option (Bool×Unit):=zot.F (a1,a2,a3,())
def zxW:Cfg E:=cf1 []
def zgg:zK E:=sp zxW Tryz.f44 ⟨[.val (.named 1)],[]⟩ ⟨[vB],[]⟩ [.one (.named 1)] [oB]
def zl7 (a1:zk):Option (Bool×Unit):=zgg.F (a1,())
def zuh:Cfg E:=cf1 [(44,[zgg])]
def zhN:zK E:=sp zuh Tryz.f114 ⟨[.val (.named 1),.ptr 0],[.box false [.map 1],.map [(1,vI),(2,vI)]]⟩ ⟨[vB],[.gone,.gone]⟩ [.one (.named 1),oI,oI] [oB]
def zo8 (a1:zk) (a2:Int) (a3:Int):Option (Bool×Unit):=zhN.F (a1,a2,a3,())
def vC:zZ E:=lo [0,1,7,8] ⟨[.val (.slice (.named 1)),.fn 114 [.ptr 2],vI,vI],[.gone,.gone,.box false [.map 3],.map [(1,vI),(2,vI)]]⟩ 0 [] ⟨[],[.gone,.gone]⟩ [4] ⟨[vI],[.gone,.gone]⟩ [.one (.slice (.named 1)),oI,oI,oI,oI] [] [oI]
def xU:Cfg E:=cf [(114,[zhN])] [(2,vC)] [] [] [] []
def wb:zK E:=sp xU Tryz.f160 ⟨[.val (.slice (.named 1)),.fn 114 [.ptr 0]],[.box false [.map 1],.map [(1,vI),(2,vI)]]⟩ ⟨[vI],[.gone,.gone]⟩ [.one (.slice (.named 1)),oI,oI] [oI]
def vS (a1:List zk) (a2:Int) (a3:Int):Option (Int×Unit):=wb.F (a1,a2,a3,())
def vA (x:(List zk)×Int×Int×Int×Int×Unit):Option (yM ((List zk)×Int×Int×Int×Int×Unit) (Unit) (Int×Unit)):=yo xU (exec xU (yC Tryz.f160 2)) 19 vC x
def Yw:Cfg E:=cf1 [(160,[wb])]
def xQ:zK E:=sp Yw Tryz.f113 ⟨[.val (.slice (.named 1)),.fn 114 [.ptr 0]],[.box false [.map 1],.map [(1,vI),(2,vI)]]⟩ ⟨[vB],[.gone,.gone]⟩ [.one (.slice (.named 1)),oI,oI] [oB]
def vy (a1:List zk) (a2:Int) (a3:Int):Option (Bool×Unit):=xQ.F (a1,a2,a3,())
def zxY:Cfg E:=cf1 [(113,[xQ])]
def zlK:zK E:=sp zxY Tryz.f74 ⟨[.val (.slice (.named 1)),vI,vI],[]⟩ ⟨[vB],[]⟩ [.one (.slice (.named 1)),oI,oI] [oB]
def zlx (a1:List zk) (a2:Int) (a3:Int):Option (Bool×Unit):=zlK.F (a1,a2,a3,())
def znL:zZ E:=lo [1,3,51,52,53] ⟨[.ptr 0,.ptr 1,.val zQ,vI,vI],[.box true (L 3),.box true [vI]]⟩ 0 [1] ⟨[.ptr 0],[.box true (L 3)]⟩ [2] ⟨[vB],[]⟩ [.one zQ,oI,oI,.str 3,oI] [.str 3] [oB]
def zgL:Cfg E:=cf [(53,[zck]),(54,[UF]),(60,[UI]),(69,[zdl]),(70,[zbk]),(71,[vb]),(73,[zot]),(74,[zlK])] [(5,znL)] [] [] [] []
def zmC:zK E:=sp zgL Tryz.f24 ⟨[.val (.named 3)],[]⟩ ⟨[vB],[]⟩ [.one (.named 3)] [oB]
def zlD (a1:zd):Option (Bool×Unit):=zmC.F (a1,())
def znj (x:zD×Int×Int×zd×Int×Unit):Option (yM (zD×Int×Int×zd×Int×Unit) (zd×Unit) (Bool×Unit)):=yo zgL (exec zgL (yC Tryz.f24 5)) 95 znL x
def zCI:Cfg E:=cf1 []
def znm:zK E:=sp zCI Tryz.f68 ⟨[vI],[]⟩ ⟨[vU],[]⟩ [oI] [oU]
def zny (a1:Int):Option (zB×Unit):=znm.F (a1,())
def zCP:Cfg E:=cf1 [(68,[znm])]
def zaI:zK E:=sp zCP Tryz.f22 ⟨[vU,vI],[]⟩ ⟨[vU],[]⟩ [oU,oI] [oU]
def YQ (a1:zB) (a2:Int):Option (zB×Unit):=zaI.F (a1,a2,())
def zt8:zZ E:=lo [3,6,7,8] ⟨[vU,vL,vI,vI],[]⟩ 0 [3] ⟨[vU],[]⟩ [] ⟨[],[]⟩ [oU,oL,oI,oI] [oU] []
def zqG:Cfg E:=cf [(22,[zaI])] [(3,zt8)] [] [] [] []
def zho:zK E:=sp zqG Tryz.f75 ⟨[vL],[]⟩ ⟨[vU],[]⟩ [oL] [oU]
def zhx (a1:zy):Option (zB×Unit):=zho.F (a1,())
def zoh (x:zB×zy×Int×Int×Unit):Option (yM (zB×zy×Int×Int×Unit) (zB×Unit) (Unit)):=yo zqG (exec zqG (yC Tryz.f75 3)) 17 zt8 x
def zno:zZ E:=lo [3,9,10,11] ⟨[vU,.val zQ,vI,vI],[]⟩ 0 [3] ⟨[vU],[]⟩ [] ⟨[],[]⟩ [oU,.one zQ,oI,oI] [oU] []
def zhJ:Cfg E:=cf [(75,[zho])] [(3,zno)] [] [] [] []
def zf2:zK E:=sp zhJ Tryz.f25 ⟨[.val (.named 3)],[]⟩ ⟨[vU],[]⟩ [.one (.named 3)] [oU]
def zfO (a1:zd):Option (zB×Unit):=zf2.F (a1,())
def zfx (x:zB×zD×Int×Int×Unit):Option (yM (zB×zD×Int×Int×Unit) (zB×Unit) (Unit)):=yo zhJ (exec zhJ (yC Tryz.f25 3)) 21 zno x
def zqg:Cfg E:=cf1 []
def zb9:zK E:=sp zqg Tryz.f76 ⟨[vU],[]⟩ ⟨[vI],[]⟩ [oU] [oI]
def ziD (a1:zB):Option (Int×Unit):=zb9.F (a1,())
def zzE:Cfg E:=cf1 [(76,[zb9])]
def zdH:zK E:=sp zzE Tryz.f26 ⟨[vU],[]⟩ ⟨[vI],[]⟩ [oU] [oI]
def zbv (a1:zB):Option (Int×Unit):=zdH.F (a1,())
def zyp:Cfg E:=cf1 []
def zlp:zK E:=sp zyp Tryz.f27 ⟨[vI],[]⟩ ⟨[.val (.named 10)],[]⟩ [oI] [.one (.named 10)]
def zlT (a1:Int):Option (zx×Unit):=zlp.F (a1,())
def zkI:Cfg E:=cf1 []
def xC:zK E:=sp zkI Tryz.f29 ⟨[vL],[]⟩ ⟨[.own 0],[.row true zo]⟩ [oL] [oL]
def yZ (a1:zy):Option (zy×Unit):=xC.F (a1,())
def ZJ:zZ E:=lo [1,5,14,15] ⟨[.fn 29 [],.own 0,vI,vI],[.row true z7]⟩ 0 [5] ⟨[.own 0],[.row true z7]⟩ [] ⟨[],[]⟩ [oI,oI,.one zQ] [.one zQ] []
def vn:Cfg E:=cf [(29,[xC])] [(4,ZJ)] [] [] [] []
def vG:zK E:=sp vn Tryz.f28 ⟨[.val zQ,.fn 29 []],[]⟩ ⟨[.own 0],[.row true z7]⟩ [.one zQ] [.one zQ]
def vQ (a1:zD):Option (zD×Unit):=vG.F (a1,())
def xm (x:Int×Int×zD×Unit):Option (yM (Int×Int×zD×Unit) (zD×Unit) (Unit)):=yo vn (exec vn (yC Tryz.f28 4)) 29 ZJ x
def zvO:Cfg E:=cf1 []
def zjK:zK E:=sp zvO Tryz.f30 ⟨[vI],[]⟩ ⟨[.own 0],[.row true (.int .u64)]⟩ [oI] [oM]
def zjq (a1:Int):Option ((List zB)×Unit):=zjK.F (a1,())
def zwi:Cfg E:=cf1 []
def zbg:zK E:=sp zwi Tryz.f31 ⟨L 0,[]⟩ ⟨[.val (.named 4)],[]⟩ [oI,oI,oI,oI] [.one (.named 4)]
def zd9 (a1:Int) (a2:Int) (a3:Int) (a4:Int):Option (zg×Unit):=zbg.F (a1,a2,a3,a4,())
def zvZ:Cfg E:=cf1 []
def XO:zK E:=sp zvZ Tryz.f32 ⟨[.val (.named 3),vI],[]⟩ ⟨[vI],[]⟩ [.one (.named 3),oI] [oI]
def xG (a1:zd) (a2:Int):Option (Int×Unit):=XO.F (a1,a2,())
def zzw:Cfg E:=cf1 []
def zoD:zK E:=sp zzw Tryz.f33 ⟨[.val (.named 3)],[]⟩ ⟨[vI],[]⟩ [.one (.named 3)] [oI]
def zig (a1:zd):Option (Int×Unit):=zoD.F (a1,())
def zkC:Cfg E:=cf1 []
def VC:zK E:=sp zkC Tryz.f34 ⟨[vL,vI],[]⟩ ⟨[.fn 77 [.ptr 0,.ptr 1]],[.box true [vL],.box true [vI]]⟩ [oL,oI] [oL,oI]
def zde (a1:zy) (a2:Int):Option (zy×Int×Unit):=VC.F (a1,a2,())
def zAp:Cfg E:=cf1 []
def zqd:zK E:=sp zAp Tryz.f78 ⟨[vU],[]⟩ ⟨[.fn 115 [.ptr 0]],[.box true [vU]]⟩ [oU] [oU]
def zwa (a1:zB):Option (zB×Unit):=zqd.F (a1,())
def znH:zZ E:=lo [0,1] ⟨[.yld,.ptr 0],[.box true [vU]]⟩ 0 [0] ⟨[.yld],[]⟩ [0] ⟨[.yld],[]⟩ [oI,oI,oU] [oI,oI] [oI,oI]
def zwX:Cfg E:=cf [(116,[pTZ])] [(0,znH)] [] [] [] []
def zcI (ys:zy):Cfg E:={zwX with yl:=true,ye:=zo,yd:=ys}
def zpm:wo:=⟨[.ptr 0],[.box true [vU]]⟩
def zcn:Z2 E:={inn:=zpm,e:=zo,F:=fun x=>zal 66 x.1}
def zmE (a1:zB):Option zy:=zcn.F (a1,())
def zbU (ys:zy) (x:Int×Int×zB×Unit):Option (yM (Int×Int×zB×Unit) (Int×Int×Unit) (Int×Int×Unit)):=yo (zcI ys) (exec (zcI ys) (yC Tryz.f115 0)) 15 znH x
def zq4:zZ E:=lo [3] ⟨[.ptr 0],[.box true [.own 1],.row true zo]⟩ 0 [] ⟨[],[]⟩ [] ⟨[],[]⟩ [oL] [] []
def zga:Cfg E:=cf [(78,[zqd])] [(3,zq4)] [] [] [] [(115,zcn)]
def zk5:zK E:=sp zga Tryz.f35 ⟨[vU],[]⟩ ⟨[.own 0],[.row true zo]⟩ [oU] [oL]
def zfE (a1:zB):Option (zy×Unit):=zk5.F (a1,())
def zjB (y:Int) (x:zy×Unit):Option (zy×Unit):=zl9 zga (exec zga (zGY Tryz.f35 3)) (exec zga (zA6 Tryz.f35 3)) 13 zq4 7 zo y x
def zBW:Cfg E:=cf1 []
def zqC:zK E:=sp zBW Tryz.f161 ⟨[vU],[]⟩ ⟨[vU,vB],[]⟩ [oU] [oU,oB]
def zw6 (a1:zB):Option (zB×Bool×Unit):=zqC.F (a1,())
def zB1:Cfg E:=cf1 []
def zqL:zK E:=sp zB1 Tryz.f162 ⟨[vU,.ptr 0],[.box false (L 13)]⟩ ⟨[vU,vB],[.gone]⟩ [oU,.str 13] [oU,oB]
def zwO (a1:zB) (a2:Yf):Option (zB×Bool×Unit):=zqL.F (a1,a2,())
def zBs:Cfg E:=cf1 []
def zqb:zK E:=sp zBs Tryz.f163 ⟨[vU,.ptr 0],[.box false (L 13)]⟩ ⟨[vU,vB],[.gone]⟩ [oU,.str 13] [oU,oB]
def zvK (a1:zB) (a2:Yf):Option (zB×Bool×Unit):=zqb.F (a1,a2,())
def zBe:Cfg E:=cf1 []
def zqE:zK E:=sp zBe Tryz.f164 ⟨[vU,.ptr 0],[.box false (L 13)]⟩ ⟨[vU,vB],[.gone]⟩ [oU,.str 13] [oU,oB]
def zvy (a1:zB) (a2:Yf):Option (zB×Bool×Unit):=zqE.F (a1,a2,())
def ze8:Cfg E:=cf1 []
def YV:zK E:=sp ze8 Tryz.f165 ⟨[vM],[]⟩ ⟨[.own 0],[.row true (.int .u64)]⟩ [oM] [oM]
def wv (a1:List zB):Option ((List zB)×Unit):=YV.F (a1,())
def zEP:Cfg E:=cf1 [(161,[zqC]),(162,[zqL]),(163,[zqb]),(164,[zqE]),(165,[YV])]
def zaZ:zK E:=sp zEP Tryz.f117 ⟨[vM,.val (.named 13)],[]⟩ ⟨[vM,vU,vB],[]⟩ [oM,.one (.named 13)] [oM,oU,oB]
def XW (a1:List zB) (a2:Yf):Option ((List zB)×zB×Bool×Unit):=zaZ.F (a1,a2,())
def zv6:Cfg E:=cf1 [(117,[zaZ])]
def zea:zK E:=sp zv6 Tryz.f79 ⟨[vM,vI,vU],[]⟩ ⟨[vM],[]⟩ [oM,oI,oU] [oM]
def XZ (a1:List zB) (a2:Int) (a3:zB):Option ((List zB)×Unit):=zea.F (a1,a2,a3,())
def zxL:Cfg E:=cf1 []
def zfu:zK E:=sp zxL Tryz.f80 ⟨[vU,vI],[]⟩ ⟨[vU],[]⟩ [oU,oI] [oU]
def zaB (a1:zB) (a2:Int):Option (zB×Unit):=zfu.F (a1,a2,())
def zpt:zZ E:=lo [0,1,2,3,13,14] ⟨[vM,vI,vI,vL,vI,vI],[]⟩ 0 [0,1,3] ⟨[vM,vI,vL],[]⟩ [] ⟨[],[]⟩ [oM,oI,oI,oL,oI,oI] [oM,oI,oL] []
def zj0:Cfg E:=cf [(79,[zea]),(80,[zfu])] [(2,zpt)] [] [] [] []
def zoe:zK E:=sp zj0 Tryz.f36 ⟨[vM,vI,vI,vL],[]⟩ ⟨[vM],[]⟩ [oM,oI,oI,oL] [oM]
def zie (a1:List zB) (a2:Int) (a3:Int) (a4:zy):Option ((List zB)×Unit):=zoe.F (a1,a2,a3,a4,())
def zhc (x:(List zB)×Int×Int×zy×Int×Int×Unit):Option (yM ((List zB)×Int×Int×zy×Int×Int×Unit) ((List zB)×Int×zy×Unit) (Unit)):=yo zj0 (exec zj0 (yC Tryz.f36 2)) 49 zpt x
def zyx:Cfg E:=cf1 []
def Xk:zK E:=sp zyx Tryz.f37 ⟨[.val (.named 3)],[]⟩ ⟨[vI],[]⟩ [.one (.named 3)] [oI]
def XA (a1:zd):Option (Int×Unit):=Xk.F (a1,())
def zvS:Cfg E:=cf1 [(37,[Xk])]
def XX:zK E:=sp zvS Tryz.f39 ⟨[.val (.named 3)],[]⟩ ⟨[vI],[]⟩ [.one (.named 3)] [oI]
def XQ (a1:zd):Option (Int×Unit):=XX.F (a1,())
def zx7:Cfg E:=cf1 [(39,[XX])]
def Xz:zK E:=sp zx7 Tryz.f38 ⟨[.val (.named 3)],[]⟩ ⟨[vI],[]⟩ [.one (.named 3)] [oI]
def YM (a1:zd):Option (Int×Unit):=Xz.F (a1,())
def UP:zZ E:=lo [0,1,2,4] ⟨[.yld,.ptr 0,.ptr 1,vI],[.box true [vL],.box true [vI]]⟩ 0 [0] ⟨[.yld],[]⟩ [0] ⟨[.yld],[]⟩ [oI,oI,oI,oL,oI] [oI,oI] [oI,oI]
def zgs:Cfg E:=cf [] [(1,UP)] [] [] [] []
def Zm (ys:zD):Cfg E:={zgs with yl:=true,ye:=z7,yd:=ys}
def zah:wo:=⟨[.ptr 0,.ptr 1],[.box true [vL],.box true [vI]]⟩
def uo:Z2 E:={inn:=zah,e:=z7,F:=fun x=>zlu x.1 x.2.1}
def zbi (a1:zy) (a2:Int):Option zD:=uo.F (a1,a2,())
def uX (ys:zD) (x:Int×Int×Int×zy×Int×Unit):Option (yM (Int×Int×Int×zy×Int×Unit) (Int×Int×Unit) (Int×Int×Unit)):=yo (Zm ys) (exec (Zm ys) (yC Tryz.f77 1)) 31 UP x
def zpd:zZ E:=lo [1,2,3,4,37,38] ⟨[.ptr 0,.ptr 1,vU,.ptr 2,vI,vI],[.box true (L 3),.box true (L 0++L 0++[vI,.own 3,vU,.own 4,.own 5,.own 6,vI,.own 7,.own 8,.own 9,vU,vU,vI,vI,vB,vB,vI,.own 10,vI,vI,vI,.own 11,.own 12,.own 13,vI,vI]),.box true (L 3++[vI,.own 14,.own 15,.own 16,vU,vU,vI,vI,vB,vB,vI,.own 17]++L 10++[.own 18,.own 19,vI,vI]),.row true z7,.row true z7,.row true (.slice (.named 0)),.row true (.named 1),.row true z7,.row true (.int .u64),.row true z7,.row true zo,.row true zo,.row true (.named 7),.row true (.named 8),.row true z7,.row true (.int .u64),.row true z7,.row true zo,.row true (.named 7),.row true (.named 8)]⟩ 0 [1,2,3,4] ⟨[.ptr 0,.ptr 1,vU,.ptr 2],[.box true (L 3),.box true (L 0++L 0++[vI,.own 3,vU,.own 4,.own 5,.own 6,vI,.own 7,.own 8,.own 9,vU,vU,vI,vI,vB,vB,vI,.own 10,vI,vI,vI,.own 11,.own 12,.own 13,vI,vI]),.box true (L 3++[vI,.own 14,.own 15,.own 16,vU,vU,vI,vI,vB,vB,vI,.own 17]++L 10++[.own 18,.own 19,vI,vI]),.row true z7,.row true z7,.row true (.slice (.named 0)),.row true (.named 1),.row true z7,.row true (.int .u64),.row true z7,.row true zo,.row true zo,.row true (.named 7),.row true (.named 8),.row true z7,.row true (.int .u64),.row true z7,.row true zo,.row true (.named 7),.row true (.named 8)]⟩ [] ⟨[],[]⟩ [oU,oI,oI,.str 3,oI,oI,oI,oI,oI,oI,oI,oI,oI,oU,oI,.str 9,oI,oI,oB,oB,oI,oI,oI,oI,.str 11,.str 3,oI,.str 9,oI,oI,oB,oB,oI,.str 10,.str 11,.one zQ,.one zQ,.one (.slice (.slice (.named 0))),.one (.slice (.named 1)),.one zQ,oM,.one zQ,oL,oL,.one (.slice (.named 7)),.one (.slice (.named 8)),.one zQ,oM,.one zQ,oL,.one (.slice (.named 7)),.one (.slice (.named 8))] [oU,.str 3,oI,oI,oI,oI,oI,oI,oI,oI,oI,oU,oI,.str 9,oI,oI,oB,oB,oI,oI,oI,oI,.str 11,.str 3,oI,.str 9,oI,oI,oB,oB,oI,.str 10,.str 11,.one zQ,.one zQ,.one (.slice (.slice (.named 0))),.one (.slice (.named 1)),.one zQ,oM,.one zQ,oL,oL,.one (.slice (.named 7)),.one (.slice (.named 8)),.one zQ,oM,.one zQ,oL,.one (.slice (.named 7)),.one (.slice (.named 8))] []
def zn5:zZ E:=lo [1,2,3,4,6,72,73] ⟨[.ptr 0,.ptr 1,vU,.ptr 2,.own 3,vI,vI],[.box true (L 3),.box true (L 0++L 0++[vI,.own 4,vU,.own 5,.own 6,.own 7,vI,.own 8,.own 9,.own 10,vU,vU,vI,vI,vB,vB,vI,.own 11,vI,vI,vI,.own 12,.own 13,.own 14,vI,vI]),.box true (L 3++[vI,.own 15,.own 16,.own 17,vU,vU,vI,vI,vB,vB,vI,.own 18]++L 10++[.own 19,.own 20,vI,vI]),.row true zo,.row true z7,.row true z7,.row true (.slice (.named 0)),.row true (.named 1),.row true z7,.row true (.int .u64),.row true z7,.row true zo,.row true zo,.row true (.named 7),.row true (.named 8),.row true z7,.row true (.int .u64),.row true z7,.row true zo,.row true (.named 7),.row true (.named 8)]⟩ 2 [1,2,3,4,6] ⟨[.ptr 0,.ptr 1,vU,.ptr 2,.own 3],[.box true (L 3),.box true (L 0++L 0++[vI,.own 4,vU,.own 5,.own 6,.own 7,vI,.own 8,.own 9,.own 10,vU,vU,vI,vI,vB,vB,vI,.own 11,vI,vI,vI,.own 12,.own 13,.own 14,vI,vI]),.box true (L 3++[vI,.own 15,.own 16,.own 17,vU,vU,vI,vI,vB,vB,vI,.own 18]++L 10++[.own 19,.own 20,vI,vI]),.row true zo,.row true z7,.row true z7,.row true (.slice (.named 0)),.row true (.named 1),.row true z7,.row true (.int .u64),.row true z7,.row true zo,.row true zo,.row true (.named 7),.row true (.named 8),.row true z7,.row true (.int .u64),.row true z7,.row true zo,.row true (.named 7),.row true (.named 8)]⟩ [] ⟨[],[]⟩ [oU,oI,oI,.str 3,oI,oI,oI,oI,oI,oI,oI,oI,oI,oU,oI,.str 9,oI,oI,oB,oB,oI,oI,oI,oI,.str 11,.str 3,oI,.str 9,oI,oI,oB,oB,oI,.str 10,.str 11,oL,.one zQ,.one zQ,.one (.slice (.slice (.named 0))),.one (.slice (.named 1)),.one zQ,oM,.one zQ,oL,oL,.one (.slice (.named 7)),.one (.slice (.named 8)),.one zQ,oM,.one zQ,oL,.one (.slice (.named 7)),.one (.slice (.named 8))] [oU,.str 3,oI,oI,oI,oI,oI,oI,oI,oI,oI,oU,oI,.str 9,oI,oI,oB,oB,oI,oI,oI,oI,.str 11,.str 3,oI,.str 9,oI,oI,oB,oB,oI,.str 10,.str 11,oL,.one zQ,.one zQ,.one (.slice (.slice (.named 0))),.one (.slice (.named 1)),.one zQ,oM,.one zQ,oL,oL,.one (.slice (.named 7)),.one (.slice (.named 8)),.one zQ,oM,.one zQ,oL,.one (.slice (.named 7)),.one (.slice (.named 8))] []
def znv:zZ E:=lo [1,2,4,6] ⟨[.ptr 0,.ptr 1,.ptr 2,.own 3],[.box true (L 3),.box true (L 0++L 0++[vI,.own 4,vU,.own 5,.own 6,.own 7,vI,.own 8,.own 9,.own 10,vU,vU,vI,vI,vB,vB,vI,.own 11,vI,vI,vI,.own 12,.own 13,.own 14,vI,vI]),.box true (L 3++[vI,.own 15,.own 16,.own 17,vU,vU,vI,vI,vB,vB,vI,.own 18]++L 10++[.own 19,.own 20,vI,vI]),.row true zo,.row true z7,.row true z7,.row true (.slice (.named 0)),.row true (.named 1),.row true z7,.row true (.int .u64),.row true z7,.row true zo,.row true zo,.row true (.named 7),.row true (.named 8),.row true z7,.row true (.int .u64),.row true z7,.row true zo,.row true (.named 7),.row true (.named 8)]⟩ 0 [] ⟨[],[]⟩ [] ⟨[],[]⟩ [.str 3,oI,oI,oI,oI,oI,oI,oI,oI,oI,oU,oI,.str 9,oI,oI,oB,oB,oI,oI,oI,oI,.str 11,.str 3,oI,.str 9,oI,oI,oB,oB,oI,.str 10,.str 11,oL,.one zQ,.one zQ,.one (.slice (.slice (.named 0))),.one (.slice (.named 1)),.one zQ,oM,.one zQ,oL,oL,.one (.slice (.named 7)),.one (.slice (.named 8)),.one zQ,oM,.one zQ,oL,.one (.slice (.named 7)),.one (.slice (.named 8))] [] []
def znY:zZ E:=lo [2,4,134,135,136] ⟨[.ptr 0,.ptr 1,.val zQ,vI,vI],[.box true (L 0++L 0++[vI,.own 2,vU,.own 3,.own 4,.own 5,vI,.own 6,.own 7,.own 8,vU,vU,vI,vI,vB,vB,vI,.own 9,vI,vI,vI,.own 10,.own 11,.own 12,vI,vI]),.box true (L 3++[vI,.own 13,vM,.own 14,vU,vU,vI,vI,vB,vB,vI,.own 15]++L 10++[.own 16,.own 17,vI,vI]),.row true z7,.row true z7,.row true (.slice (.named 0)),.row true (.named 1),.row true z7,.row true (.int .u64),.row true z7,.row true zo,.row true zo,.row true (.named 7),.row true (.named 8),.row true z7,.row true z7,.row true zo,.row true (.named 7),.row true (.named 8)]⟩ 6 [2,4] ⟨[.ptr 0,.ptr 1],[.box true (L 0++L 0++[vI,.own 2,vU,.own 3,.own 4,.own 5,vI,.own 6,.own 7,.own 8,vU,vU,vI,vI,vB,vB,vI,.own 9,vI,vI,vI,.own 10,.own 11,.own 12,vI,vI]),.box true (L 3++[vI,.own 13,vM,.own 14,vU,vU,vI,vI,vB,vB,vI,.own 15]++L 10++[.own 16,.own 17,vI,vI]),.row true z7,.row true z7,.row true (.slice (.named 0)),.row true (.named 1),.row true z7,.row true (.int .u64),.row true z7,.row true zo,.row true zo,.row true (.named 7),.row true (.named 8),.row true z7,.row true z7,.row true zo,.row true (.named 7),.row true (.named 8)]⟩ [] ⟨[],[]⟩ [.one zQ,oI,oI,oI,oI,oI,oI,oI,oI,oI,oI,oI,oU,oI,.str 9,oI,oI,oB,oB,oI,oI,oI,oI,.str 11,.str 3,oI,oM,.str 9,oI,oI,oB,oB,oI,.str 10,.str 11,.one zQ,.one zQ,.one (.slice (.slice (.named 0))),.one (.slice (.named 1)),.one zQ,oM,.one zQ,oL,oL,.one (.slice (.named 7)),.one (.slice (.named 8)),.one zQ,.one zQ,oL,.one (.slice (.named 7)),.one (.slice (.named 8))] [oI,oI,oI,oI,oI,oI,oI,oI,oI,oU,oI,.str 9,oI,oI,oB,oB,oI,oI,oI,oI,.str 11,.str 3,oI,oM,.str 9,oI,oI,oB,oB,oI,.str 10,.str 11,.one zQ,.one zQ,.one (.slice (.slice (.named 0))),.one (.slice (.named 1)),.one zQ,oM,.one zQ,oL,oL,.one (.slice (.named 7)),.one (.slice (.named 8)),.one zQ,.one zQ,oL,.one (.slice (.named 7)),.one (.slice (.named 8))] []
def Zi:Cfg E:=cf [(24,[zmC]),(25,[zf2]),(26,[zdH]),(27,[zlp]),(28,[vG]),(29,[xC]),(30,[zjK]),(31,[zbg]),(32,[XO]),(33,[zoD]),(34,[VC]),(35,[zk5]),(36,[zoe]),(37,[Xk]),(38,[Xz]),(39,[XX])] [(7,zpd),(15,zn5),(20,znv),(28,znY)] [] [] [] [(77,uo)]
def zhZ:zK E:=sp Zi Tryz.f6 ⟨[.val (.named 3)],[]⟩ ⟨[.val (.named 12)],[]⟩ [.one (.named 3)] [.one (.named 12)]
def zii (a1:zd):Option (za×Unit):=zhZ.F (a1,())
def zcO (x:zB×Int×Int×zd×Int×Int×Int×Int×Int×Int×Int×Int×Int×zB×Int×zn×Int×Int×Bool×Bool×Int×Int×Int×Int×zN×zd×Int×zn×Int×Int×Bool×Bool×Int×zx×zN×zD×zD×(List (List zE))×(List zk)×zD×(List zB)×zD×zy×zy×(List zj)×(List ze)×zD×(List zB)×zD×zy×(List zj)×(List ze)×Unit):Option (yM (zB×Int×Int×zd×Int×Int×Int×Int×Int×Int×Int×Int×Int×zB×Int×zn×Int×Int×Bool×Bool×Int×Int×Int×Int×zN×zd×Int×zn×Int×Int×Bool×Bool×Int×zx×zN×zD×zD×(List (List zE))×(List zk)×zD×(List zB)×zD×zy×zy×(List zj)×(List ze)×zD×(List zB)×zD×zy×(List zj)×(List ze)×Unit) (zB×zd×Int×Int×Int×Int×Int×Int×Int×Int×Int×zB×Int×zn×Int×Int×Bool×Bool×Int×Int×Int×Int×zN×zd×Int×zn×Int×Int×Bool×Bool×Int×zx×zN×zD×zD×(List (List zE))×(List zk)×zD×(List zB)×zD×zy×zy×(List zj)×(List ze)×zD×(List zB)×zD×zy×(List zj)×(List ze)×Unit) (Unit)):=yo Zi (exec Zi (yC Tryz.f6 7)) 150 zpd x
def zbY (x:zB×Int×Int×zd×Int×Int×Int×Int×Int×Int×Int×Int×Int×zB×Int×zn×Int×Int×Bool×Bool×Int×Int×Int×Int×zN×zd×Int×zn×Int×Int×Bool×Bool×Int×zx×zN×zy×zD×zD×(List (List zE))×(List zk)×zD×(List zB)×zD×zy×zy×(List zj)×(List ze)×zD×(List zB)×zD×zy×(List zj)×(List ze)×Unit):Option (yM (zB×Int×Int×zd×Int×Int×Int×Int×Int×Int×Int×Int×Int×zB×Int×zn×Int×Int×Bool×Bool×Int×Int×Int×Int×zN×zd×Int×zn×Int×Int×Bool×Bool×Int×zx×zN×zy×zD×zD×(List (List zE))×(List zk)×zD×(List zB)×zD×zy×zy×(List zj)×(List ze)×zD×(List zB)×zD×zy×(List zj)×(List ze)×Unit) (zB×zd×Int×Int×Int×Int×Int×Int×Int×Int×Int×zB×Int×zn×Int×Int×Bool×Bool×Int×Int×Int×Int×zN×zd×Int×zn×Int×Int×Bool×Bool×Int×zx×zN×zy×zD×zD×(List (List zE))×(List zk)×zD×(List zB)×zD×zy×zy×(List zj)×(List ze)×zD×(List zB)×zD×zy×(List zj)×(List ze)×Unit) (Unit)):=yo Zi (exec Zi (yC Tryz.f6 15)) 150 zn5 x
def zfL (y:zy) (x:zd×Int×Int×Int×Int×Int×Int×Int×Int×Int×zB×Int×zn×Int×Int×Bool×Bool×Int×Int×Int×Int×zN×zd×Int×zn×Int×Int×Bool×Bool×Int×zx×zN×zy×zD×zD×(List (List zE))×(List zk)×zD×(List zB)×zD×zy×zy×(List zj)×(List ze)×zD×(List zB)×zD×zy×(List zj)×(List ze)×Unit):Option (zd×Int×Int×Int×Int×Int×Int×Int×Int×Int×zB×Int×zn×Int×Int×Bool×Bool×Int×Int×Int×Int×zN×zd×Int×zn×Int×Int×Bool×Bool×Int×zx×zN×zy×zD×zD×(List (List zE))×(List zk)×zD×(List zB)×zD×zy×zy×(List zj)×(List ze)×zD×(List zB)×zD×zy×(List zj)×(List ze)×Unit):=zl9 Zi (exec Zi (zGY Tryz.f6 20)) (exec Zi (zA6 Tryz.f6 20)) 150 znv 87 z7 y x
def zb2 (x:zD×Int×Int×Int×Int×Int×Int×Int×Int×Int×Int×Int×zB×Int×zn×Int×Int×Bool×Bool×Int×Int×Int×Int×zN×zd×Int×(List zB)×zn×Int×Int×Bool×Bool×Int×zx×zN×zD×zD×(List (List zE))×(List zk)×zD×(List zB)×zD×zy×zy×(List zj)×(List ze)×zD×zD×zy×(List zj)×(List ze)×Unit):Option (yM (zD×Int×Int×Int×Int×Int×Int×Int×Int×Int×Int×Int×zB×Int×zn×Int×Int×Bool×Bool×Int×Int×Int×Int×zN×zd×Int×(List zB)×zn×Int×Int×Bool×Bool×Int×zx×zN×zD×zD×(List (List zE))×(List zk)×zD×(List zB)×zD×zy×zy×(List zj)×(List ze)×zD×zD×zy×(List zj)×(List ze)×Unit) (Int×Int×Int×Int×Int×Int×Int×Int×Int×zB×Int×zn×Int×Int×Bool×Bool×Int×Int×Int×Int×zN×zd×Int×(List zB)×zn×Int×Int×Bool×Bool×Int×zx×zN×zD×zD×(List (List zE))×(List zk)×zD×(List zB)×zD×zy×zy×(List zj)×(List ze)×zD×zD×zy×(List zj)×(List ze)×Unit) (Unit)):=yo Zi (exec Zi (yC Tryz.f6 28)) 150 znY x
def zDa:Cfg E:=cf1 [(68,[znm])]
def zeT:zK E:=sp zDa Tryz.f50 ⟨[vU,vI],[]⟩ ⟨[vB],[]⟩ [oU,oI] [oB]
def zcm (a1:zB) (a2:Int):Option (Bool×Unit):=zeT.F (a1,a2,())
def zyl:Cfg E:=cf1 [(22,[zaI]),(50,[zeT])]
def zcs:zK E:=sp zyl Tryz.f86 ⟨[.val (.named 9),vI],[]⟩ ⟨[.val (.named 9),vB],[]⟩ [.one (.named 9),oI] [.one (.named 9),oB]
def zcq (a1:zn) (a2:Int):Option (zn×Bool×Unit):=zcs.F (a1,a2,())
def zCN:Cfg E:=cf1 [(50,[zeT])]
def znn:zK E:=sp zCN Tryz.f146 ⟨[.val (.named 9),vI],[]⟩ ⟨[vI],[]⟩ [.one (.named 9),oI] [oI]
def znr (a1:zn) (a2:Int):Option (Int×Unit):=znn.F (a1,a2,())
def zzI:Cfg E:=cf1 [(22,[zaI]),(146,[znn])]
def zbC:zK E:=sp zzI Tryz.f87 ⟨[.val (.named 9),vI],[]⟩ ⟨[.val (.named 9),vB],[]⟩ [.one (.named 9),oI] [.one (.named 9),oB]
def Uo (a1:zn) (a2:Int):Option (zn×Bool×Unit):=zbC.F (a1,a2,())
def zxq:Cfg E:=cf1 [(86,[zcs]),(87,[zbC])]
def zfe:zK E:=sp zxq Tryz.f88 ⟨[.val (.named 9),vI],[]⟩ ⟨[.val (.named 9),vB],[]⟩ [.one (.named 9),oI] [.one (.named 9),oB]
def zcg (a1:zn) (a2:Int):Option (zn×Bool×Unit):=zfe.F (a1,a2,())
def zkg:zZ E:=lo [2,3,6,15] ⟨[.ptr 0,.ptr 1,.ptr 2,vI],[.box true [vU,vU],.box true [vU,vU],.box true [.nilfn,.fn 86 [],.fn 87 [],.fn 88 []]]⟩ 0 [] ⟨[],[]⟩ [4,5] ⟨[vI,vI],[]⟩ [oI,.str 9,.str 9] [] [oI,oI]
def zko:zZ E:=lo [2,3,6,7,8,15] ⟨[.ptr 0,.ptr 1,.ptr 2,vI,vI,vI],[.box true [vU,vU],.box true [vU,vU],.box true [.nilfn,.fn 86 [],.fn 87 [],.fn 88 []]]⟩ 2 [2,3,6,15] ⟨[.ptr 0,.ptr 1,.ptr 2,vI],[.box true [vU,vU],.box true [vU,vU],.box true [.nilfn,.fn 86 [],.fn 87 [],.fn 88 []]]⟩ [4,5] ⟨[vI,vI],[]⟩ [oI,oI,oI,.str 9,.str 9] [oI,.str 9,.str 9] [oI,oI]
def Vk:Cfg E:=cf [(86,[zcs]),(87,[zbC]),(88,[zfe])] [(5,zkg),(8,zko)] [] [] [] []
def zg9:zK E:=sp Vk Tryz.f45 ⟨[.val (.named 9),.val (.named 9)],[]⟩ ⟨[vI,vI],[]⟩ [.one (.named 9),.one (.named 9)] [oI,oI]
def zhU (a1:zn) (a2:zn):Option (Int×Int×Unit):=zg9.F (a1,a2,())
def zdr (x:Int×zn×zn×Unit):Option (yM (Int×zn×zn×Unit) (Unit) (Int×Int×Unit)):=yo Vk (exec Vk (yC Tryz.f45 5)) 42 zkg x
def uD (x:Int×Int×Int×zn×zn×Unit):Option (yM (Int×Int×Int×zn×zn×Unit) (Int×zn×zn×Unit) (Int×Int×Unit)):=yo Vk (exec Vk (yC Tryz.f45 8)) 42 zko x
def zbn:zZ E:=lo [0,1,12,13] ⟨[vL,vL,vI,vI],[]⟩ 0 [] ⟨[],[]⟩ [4] ⟨[vB],[]⟩ [oL,oL,oI,oI] [] [oB]
def Wv:Cfg E:=cf [] [(4,zbn)] [] [] [] []
def VQ:zK E:=sp Wv Tryz.f90 ⟨[vL,vL],[]⟩ ⟨[vB],[]⟩ [oL,oL] [oB]
def VA (a1:zy) (a2:zy):Option (Bool×Unit):=VQ.F (a1,a2,())
def X2 (x:zy×zy×Int×Int×Unit):Option (yM (zy×zy×Int×Int×Unit) (Unit) (Bool×Unit)):=yo Wv (exec Wv (yC Tryz.f90 4)) 26 zbn x
def wu:zZ E:=lo [1,2,15,16,17] ⟨[.val zQ,.fn 90 [],.val zQ,vI,vI],[]⟩ 0 [] ⟨[],[]⟩ [6] ⟨[vB],[]⟩ [.one zQ,.one zQ,oI,oI] [] [oB]
def xp:Cfg E:=cf [(90,[VQ])] [(4,wu)] [] [] [] []
def xy:zK E:=sp xp Tryz.f89 ⟨[.val zQ,.val zQ,.fn 90 []],[]⟩ ⟨[vB],[]⟩ [.one zQ,.one zQ] [oB]
def xx (a1:zD) (a2:zD):Option (Bool×Unit):=xy.F (a1,a2,())
def xk (x:zD×zD×Int×Int×Unit):Option (yM (zD×zD×Int×Int×Unit) (Unit) (Bool×Unit)):=yo xp (exec xp (yC Tryz.f89 4)) 32 wu x
def zzR:Cfg E:=cf1 [(89,[xy])]
def zoF:zK E:=sp zzR Tryz.f46 ⟨[.val (.named 2),.val (.named 2)],[]⟩ ⟨[vB],[]⟩ [.one (.named 2),.one (.named 2)] [oB]
def zh8 (a1:zr) (a2:zr):Option (Bool×Unit):=zoF.F (a1,a2,())
def zjF:Cfg E:=cf1 []
def W5:zK E:=sp zjF Tryz.f91 ⟨[.val zQ],[]⟩ ⟨[.full z7],[]⟩ [.one zQ] [.one zQ]
def Vm (a1:zD):Option (zD×Unit):=W5.F (a1,())
def zyc:Cfg E:=cf1 [(53,[zck]),(91,[W5])]
def zfv:zK E:=sp zyc Tryz.f47 ⟨[.val (.named 2),vI],[]⟩ ⟨[.val (.named 2),vI,vI],[]⟩ [.one (.named 2),oI] [.one (.named 2),oI,oI]
def zfs (a1:zr) (a2:Int):Option (zr×Int×Int×Unit):=zfv.F (a1,a2,())
def zmi:zZ E:=lo [3,5,6,26,27,28] ⟨[.ptr 0,vI,vI,.val zQ,vI,vI],[.box true [vI,.val zQ]]⟩ 0 [5,6] ⟨[vI,vI],[]⟩ [4] ⟨[vI],[]⟩ [oI,oI,.one zQ,oI,oI,.str 2] [oI,oI] [oI]
def zki:zZ E:=lo [3,5,6,7,26,27,28,42,43,44] ⟨[.ptr 0,vI,vI,vI,.val zQ,vI,vI,vL,vI,vI],[.box true [vI,.val zQ]]⟩ 2 [3,5,6,26,27,28] ⟨[.ptr 0,vI,vI,.val zQ,vI,vI],[.box true [vI,.val zQ]]⟩ [] ⟨[],[]⟩ [oI,oI,oI,.one zQ,oI,oI,oL,oI,oI,.str 2] [oI,oI,.one zQ,oI,oI,.str 2] []
def Uc:Cfg E:=cf [] [(5,zmi),(10,zki)] [] [] [] []
def zjC:zK E:=sp Uc Tryz.f48 ⟨[.val (.named 2),.val (.named 2)],[]⟩ ⟨[vI],[]⟩ [.one (.named 2),.one (.named 2)] [oI]
def VW (a1:zr) (a2:zr):Option (Int×Unit):=zjC.F (a1,a2,())
def zek (x:Int×Int×zD×Int×Int×zr×Unit):Option (yM (Int×Int×zD×Int×Int×zr×Unit) (Int×Int×Unit) (Int×Unit)):=yo Uc (exec Uc (yC Tryz.f48 5)) 68 zmi x
def UW (x:Int×Int×Int×zD×Int×Int×zy×Int×Int×zr×Unit):Option (yM (Int×Int×Int×zD×Int×Int×zy×Int×Int×zr×Unit) (Int×Int×zD×Int×Int×zr×Unit) (Unit)):=yo Uc (exec Uc (yC Tryz.f48 10)) 68 zki x
def zAr:Cfg E:=cf1 [(45,[zg9]),(46,[zoF]),(47,[zfv]),(48,[zjC])]
def zfH:zK E:=sp zAr Tryz.f9 ⟨[.val (.named 12),.val (.named 12)],[]⟩ ⟨[vI,vI],[]⟩ [.one (.named 12),.one (.named 12)] [oI,oI]
def Ub (a1:za) (a2:za):Option (Int×Int×Unit):=zfH.F (a1,a2,())
def zvC:Cfg E:=cf1 [(50,[zeT])]
def zjU:zK E:=sp zvC Tryz.f49 ⟨[vU,.ptr 0],[.box false [vI]]⟩ ⟨[vB],[.gone]⟩ [oU,oI] [oB]
def zj7 (a1:zB) (a2:Int):Option (Bool×Unit):=zjU.F (a1,a2,())
def zx2:Cfg E:=cf1 []
def zfZ:zK E:=sp zx2 Tryz.f147 ⟨[.val (.named 8)],[]⟩ ⟨[vB],[]⟩ [.one (.named 8)] [oB]
def Zc (a1:ze):Option (Bool×Unit):=zfZ.F (a1,())
def ziK:zZ E:=lo [1,3,9,10,11] ⟨[.ptr 0,.own 1,.val (.slice (.named 7)),vI,vI],[.box true (L 12),.row true (.named 6)]⟩ 0 [1,3] ⟨[.ptr 0,.own 1],[.box true (L 12),.row true (.named 6)]⟩ [] ⟨[],[]⟩ [.one (.slice (.named 7)),oI,oI,.str 12,.one (.slice (.named 6))] [.str 12,.one (.slice (.named 6))] []
def zje:zZ E:=lo [3,25,26,27] ⟨[.own 0,.val (.slice (.named 8)),vI,vI],[.row true (.named 6)]⟩ 2 [3] ⟨[.own 0],[.row true (.named 6)]⟩ [] ⟨[],[]⟩ [.one (.slice (.named 8)),oI,oI,.one (.slice (.named 6))] [.one (.slice (.named 6))] []
def Wk:Cfg E:=cf [(147,[zfZ])] [(3,ziK),(9,zje)] [] [] [] []
def zbT:zK E:=sp Wk Tryz.f92 ⟨[.val (.named 12)],[]⟩ ⟨[.own 0],[.row true (.named 6)]⟩ [.one (.named 12)] [.one (.slice (.named 6))]
def zb6 (a1:za):Option ((List zJ)×Unit):=zbT.F (a1,())
def Xu (x:(List zj)×Int×Int×za×(List zJ)×Unit):Option (yM ((List zj)×Int×Int×za×(List zJ)×Unit) (za×(List zJ)×Unit) (Unit)):=yo Wk (exec Wk (yC Tryz.f92 3)) 40 ziK x
def Xp (x:(List ze)×Int×Int×(List zJ)×Unit):Option (yM ((List ze)×Int×Int×(List zJ)×Unit) ((List zJ)×Unit) (Unit)):=yo Wk (exec Wk (yC Tryz.f92 9)) 40 zje x
def zCF:Cfg E:=cf1 []
def zjj:zK E:=sp zCF Tryz.f148 ⟨[.val (.named 6),vI,vI,vI],[]⟩ ⟨[vI],[]⟩ [.one (.named 6),oI,oI,oI] [oI]
def znA (a1:zJ) (a2:Int) (a3:Int) (a4:Int):Option (Int×Unit):=zjj.F (a1,a2,a3,a4,())
def zz7:Cfg E:=cf1 [(148,[zjj])]
def zoM:zK E:=sp zz7 Tryz.f93 ⟨[.val (.named 6)],[]⟩ ⟨[vI],[]⟩ [.one (.named 6)] [oI]
def zoR (a1:zJ):Option (Int×Unit):=zoM.F (a1,())
def zkj:zZ E:=lo [1,3,9,10,11] ⟨[.ptr 0,vU,.own 1,vI,vI],[.box true (L 12),.row true (.named 6)]⟩ 0 [1,3] ⟨[.ptr 0,vU],[.box true (L 12)]⟩ [] ⟨[],[]⟩ [oU,oI,oI,.str 12,.one (.slice (.named 6))] [oU,.str 12] []
def zke:zZ E:=lo [3,21,22,23] ⟨[vU,.val (.slice (.named 8)),vI,vI],[]⟩ 2 [3] ⟨[vU],[]⟩ [] ⟨[],[]⟩ [oU,.one (.slice (.named 8)),oI,oI] [oU] []
def Vl:Cfg E:=cf [(22,[zaI]),(75,[zho]),(92,[zbT]),(93,[zoM])] [(3,zkj),(8,zke)] [] [] [] []
def zam:zK E:=sp Vl Tryz.f51 ⟨[.val (.named 12)],[]⟩ ⟨[vU],[]⟩ [.one (.named 12)] [oU]
def zae (a1:za):Option (zB×Unit):=zam.F (a1,())
def Wf (x:zB×Int×Int×za×(List zJ)×Unit):Option (yM (zB×Int×Int×za×(List zJ)×Unit) (zB×za×Unit) (Unit)):=yo Vl (exec Vl (yC Tryz.f51 3)) 61 zkj x
def X6 (x:zB×(List ze)×Int×Int×Unit):Option (yM (zB×(List ze)×Int×Int×Unit) (zB×Unit) (Unit)):=yo Vl (exec Vl (yC Tryz.f51 8)) 61 zke x
def zxu:Cfg E:=cf1 []
def zcA:zK E:=sp zxu Tryz.f52 ⟨[.val (.named 9)],[]⟩ ⟨[vU],[]⟩ [.one (.named 9)] [oU]
def zfm (a1:zn):Option (zB×Unit):=zcA.F (a1,())
def zzN:Cfg E:=cf1 [(9,[zfH]),(49,[zjU]),(51,[zam]),(52,[zcA])]
def zib:zK E:=sp zzN Tryz.f10 ⟨[.val (.named 12),.val (.named 12)],[]⟩ ⟨[vB],[]⟩ [.one (.named 12),.one (.named 12)] [oB]
def zbr (a1:za) (a2:za):Option (Bool×Unit):=zib.F (a1,a2,())
def zeR:zZ E:=lo [0,2,3,4] ⟨[.val (.slice (.slice (.named 0))),.ptr 0,.ptr 1,vI],[.box true (L 0++L 0++[vI,.own 2,vU,.own 3,.own 4,.own 5]),.box true (L 0++L 0++[vI,.own 6,vU,.own 7,.own 8,.own 9]),.row true z7,.row true z7,.row true (.slice (.named 0)),.row true (.named 1),.row true z7,.row true z7,.row true (.slice (.named 0)),.row true (.named 1)]⟩ 0 [2,3] ⟨[.ptr 0,.ptr 1],[.box true (L 0++L 0++[vI,.own 2,vU,.own 3,.own 4,.own 5]),.box true (L 0++L 0++[vI,.own 6,vU,.own 7,.own 8,.own 9]),.row true z7,.row true z7,.row true (.slice (.named 0)),.row true (.named 1),.row true z7,.row true z7,.row true (.slice (.named 0)),.row true (.named 1)]⟩ [] ⟨[],[]⟩ [.one (.slice (.slice (.named 0))),oI,oI,oI,oI,oI,oI,oI,oI,oI,oI,oU,oI,oI,oI,oI,oI,oI,oI,oI,oI,oU,.one zQ,.one zQ,.one (.slice (.slice (.named 0))),.one (.slice (.named 1)),.one zQ,.one zQ,.one (.slice (.slice (.named 0))),.one (.slice (.named 1))] [oI,oI,oI,oI,oI,oI,oI,oI,oI,oU,oI,oI,oI,oI,oI,oI,oI,oI,oI,oU,.one zQ,.one zQ,.one (.slice (.slice (.named 0))),.one (.slice (.named 1)),.one zQ,.one zQ,.one (.slice (.slice (.named 0))),.one (.slice (.named 1))] []
def zbe:Cfg E:=cf [] [(3,zeR)] [] [] [] []
def zb7:zK E:=sp zbe Tryz.f11 ⟨[.val (.slice (.slice (.named 0)))],[]⟩ ⟨[.val (.named 3)],[]⟩ [.one (.slice (.slice (.named 0)))] [.one (.named 3)]
def zcu (a1:List (List zE)):Option (zd×Unit):=zb7.F (a1,())
def zeS (x:(List (List zE))×Int×Int×Int×Int×Int×Int×Int×Int×Int×Int×zB×Int×Int×Int×Int×Int×Int×Int×Int×Int×zB×zD×zD×(List (List zE))×(List zk)×zD×zD×(List (List zE))×(List zk)×Unit):Option (yM ((List (List zE))×Int×Int×Int×Int×Int×Int×Int×Int×Int×Int×zB×Int×Int×Int×Int×Int×Int×Int×Int×Int×zB×zD×zD×(List (List zE))×(List zk)×zD×zD×(List (List zE))×(List zk)×Unit) (Int×Int×Int×Int×Int×Int×Int×Int×Int×zB×Int×Int×Int×Int×Int×Int×Int×Int×Int×zB×zD×zD×(List (List zE))×(List zk)×zD×zD×(List (List zE))×(List zk)×Unit) (Unit)):=yo zbe (exec zbe (yC Tryz.f11 3)) 35 zeR x
def zrf:Cfg E:=cf [] [] [] [(0,some 0)] [] []
def zdo:zK E:=sp zrf Tryz.f81 ⟨[.ptr 0],[.box true (L 12)]⟩ ⟨[],[.box true (L 12)]⟩ [.str 12] [.str 12]
def U4 (a1:za):Option (za×Unit):=zdo.F (a1,())
def zvP:Cfg E:=cf1 [(81,[zdo])]
def zjy:zK E:=sp zvP Tryz.f41 ⟨[.val (.named 12)],[]⟩ ⟨[.val (.named 12)],[]⟩ [.one (.named 12)] [.one (.named 12)]
def zj3 (a1:za):Option (za×Unit):=zjy.F (a1,())
def ztx:Cfg E:=cf1 [(41,[zjy])]
def zfr:zK E:=sp ztx Tryz.f40 ⟨[.val (.named 12),vI],[]⟩ ⟨[.val (.named 12)],[]⟩ [.one (.named 12),oI] [.one (.named 12)]
def znM (a1:za) (a2:Int):Option (za×Unit):=zfr.F (a1,a2,())
def zxN:Cfg E:=cf1 []
def Vi:zK E:=sp zxN Tryz.f217 ⟨[vU],[]⟩ ⟨[vI],[]⟩ [oU] [oI]
def Xn (a1:zB):Option (Int×Unit):=Vi.F (a1,())
def zyz:Cfg E:=cf1 [(117,[zaZ])]
def zce:zK E:=sp zyz Tryz.f218 ⟨[vM,vI],[]⟩ ⟨[vU],[]⟩ [oM,oI] [oU]
def zav (a1:List zB) (a2:Int):Option (zB×Unit):=zce.F (a1,a2,())
def zlV:Cfg E:=cf [(217,[Vi]),(218,[zce])] [] [] [(0,some 0)] [] []
def UB:zK E:=sp zlV Tryz.f205 ⟨[.ptr 0,vM],[.box true (L 5)]⟩ ⟨[vM],[.box true (L 5)]⟩ [oM,.str 5] [oM,.str 5]
def uu (a1:List zB) (a2:zV):Option ((List zB)×zV×Unit):=UB.F (a1,a2,())
def zoY:Cfg E:=cf1 [(79,[zea]),(217,[Vi])]
def za3:zK E:=sp zoY Tryz.f206 ⟨[.ptr 0,vM],[.box false (L 5)]⟩ ⟨[vM],[.gone]⟩ [oM,.str 5] [oM]
def WE (a1:List zB) (a2:zV):Option ((List zB)×Unit):=za3.F (a1,a2,())
def zle:Cfg E:=cf [(80,[zfu]),(117,[zaZ]),(217,[Vi])] [] [] [(0,some 0)] [] []
def VH:zK E:=sp zle Tryz.f207 ⟨[.ptr 0,vM],[.box true (L 5)]⟩ ⟨[vM],[.box true (L 5)]⟩ [oM,.str 5] [oM,.str 5]
def vZ (a1:List zB) (a2:zV):Option ((List zB)×zV×Unit):=VH.F (a1,a2,())
def ziR:Cfg E:=cf [(217,[Vi]),(218,[zce])] [] [] [(0,some 0)] [] []
def WJ:zK E:=sp ziR Tryz.f208 ⟨[.ptr 0,vM],[.box true (L 5)]⟩ ⟨[vM],[.box true (L 5)]⟩ [oM,.str 5] [oM,.str 5]
def Ym (a1:List zB) (a2:zV):Option ((List zB)×zV×Unit):=WJ.F (a1,a2,())
def zyq:Cfg E:=cf1 [(205,[UB]),(206,[za3]),(207,[VH]),(208,[WJ])]
def WQ:zK E:=sp zyq Tryz.f166 ⟨[vM,.val (.named 5)],[]⟩ ⟨[vM,.val (.named 5)],[]⟩ [oM,.one (.named 5)] [oM,.one (.named 5)]
def W7 (a1:List zB) (a2:zV):Option ((List zB)×zV×Unit):=WQ.F (a1,a2,())
def zoX:Cfg E:=cf [(166,[WQ])] [] [] [(0,some 0)] [] []
def zaP:zK E:=sp zoX Tryz.f118 ⟨[.ptr 0],[.box true (L 14)]⟩ ⟨[vI],[.box true (L 14)]⟩ [.str 14] [oI,.str 14]
def Zq (a1:z3):Option (Int×z3×Unit):=zaP.F (a1,())
def zoj:Cfg E:=cf [] [] [] [(0,some 0)] [] []
def WF:zK E:=sp zoj Tryz.f125 ⟨[.ptr 0,vI],[.box true (L 14)]⟩ ⟨[],[.box true (L 14)]⟩ [oI,.str 14] [.str 14]
def WH (a1:Int) (a2:z3):Option (z3×Unit):=WF.F (a1,a2,())
def zbW:Cfg E:=cf1 []
def zhn:zK E:=sp zbW Tryz.f209 ⟨[vI],[]⟩ ⟨[.bsl 0 4],[.box true [.fn 229 [],.fn 230 [],.fn 231 [],.fn 232 []]]⟩ [oI] []
def zpg (a1:Int):Option (Unit):=zhn.F (a1,())
def zhp:zK E:=sp zbW Tryz.f209 ⟨[vI],[]⟩ ⟨[.bsl 0 7],[.box true [.fn 229 [],.fn 233 [],.fn 234 [],.fn 235 [],.fn 236 [],.fn 237 [],.fn 238 []]]⟩ [oI] []
def zpL (a1:Int):Option (Unit):=zhp.F (a1,())
def zhG:zK E:=sp zbW Tryz.f209 ⟨[vI],[]⟩ ⟨[.bsl 0 4],[.box true [.fn 239 [],.fn 240 [],.fn 241 [],.fn 242 []]]⟩ [oI] []
def zpf (a1:Int):Option (Unit):=zhG.F (a1,())
def zhL:zK E:=sp zbW Tryz.f209 ⟨[vI],[]⟩ ⟨[.own 0],[.row true .bool]⟩ [oI] [.one (.slice .bool)]
def zo9 (a1:Int):Option ((List Bool)×Unit):=zhL.F (a1,())
def zyn:Cfg E:=cf1 [(117,[zaZ])]
def ZT:zK E:=sp zyn Tryz.f221 ⟨[vM,vI],[]⟩ ⟨[vU],[]⟩ [oM,oI] [oU]
def uk (a1:List zB) (a2:Int):Option (zB×Unit):=ZT.F (a1,a2,())
def zmq:Cfg E:=cf1 []
def x8:zK E:=sp zmq Tryz.f223 ⟨[.ptr 0],[.box false (L 4)]⟩ ⟨[vI],[.gone]⟩ [.str 4] [oI]
def wD (a1:zg):Option (Int×Unit):=x8.F (a1,())
def zgr:Cfg E:=cf [(221,[ZT]),(223,[x8])] [] [] [(0,some 0)] [] []
def Y5:zK E:=sp zgr Tryz.f229 ⟨[.ptr 0,vM],[.box true (L 4)]⟩ ⟨[vM],[.box true (L 4)]⟩ [oM,.str 4] [oM,.str 4]
def vP (a1:List zB) (a2:zg):Option ((List zB)×zg×Unit):=Y5.F (a1,a2,())
def zpC:Cfg E:=cf1 []
def uG:zK E:=sp zpC Tryz.f222 ⟨[.ptr 0],[.box false (L 4)]⟩ ⟨[vI],[.gone]⟩ [.str 4] [oI]
def ZP (a1:zg):Option (Int×Unit):=uG.F (a1,())
def zoO:Cfg E:=cf1 []
def Yx:zK E:=sp zoO Tryz.f225 ⟨[.ptr 0],[.box false (L 4)]⟩ ⟨[vU],[.gone]⟩ [.str 4] [oU]
def yu (a1:zg):Option (zB×Unit):=Yx.F (a1,())
def zlt:Cfg E:=cf [] [] [] [(0,some 0)] [] []
def wF:zK E:=sp zlt Tryz.f254 ⟨[.ptr 0,vI],[.box true (L 4)]⟩ ⟨[],[.box true (L 4)]⟩ [oI,.str 4] [.str 4]
def wz (a1:Int) (a2:zg):Option (zg×Unit):=wF.F (a1,a2,())
def zk9:Cfg E:=cf [(221,[ZT]),(222,[uG]),(225,[Yx]),(254,[wF])] [] [] [(0,some 0)] [] []
def VK:zK E:=sp zk9 Tryz.f230 ⟨[.ptr 0,vM],[.box true (L 4)]⟩ ⟨[vM],[.box true (L 4)]⟩ [oM,.str 4] [oM,.str 4]
def VJ (a1:List zB) (a2:zg):Option ((List zB)×zg×Unit):=VK.F (a1,a2,())
def zm4:Cfg E:=cf1 [(225,[Yx])]
def uU:zK E:=sp zm4 Tryz.f226 ⟨[.ptr 0,vU],[.box false (L 4)]⟩ ⟨[vI],[.gone]⟩ [oU,.str 4] [oI]
def uT (a1:zB) (a2:zg):Option (Int×Unit):=uU.F (a1,a2,())
def zwv:Cfg E:=cf1 [(117,[zaZ])]
def XP:zK E:=sp zwv Tryz.f255 ⟨[vM,vI,vU],[]⟩ ⟨[vM],[]⟩ [oM,oI,oU] [oM]
def XS (a1:List zB) (a2:Int) (a3:zB):Option ((List zB)×Unit):=XP.F (a1,a2,a3,())
def zpz:Cfg E:=cf1 [(226,[uU]),(255,[XP])]
def zbN:zK E:=sp zpz Tryz.f231 ⟨[.ptr 0,vM],[.box false (L 4)]⟩ ⟨[vM],[.gone]⟩ [oM,.str 4] [oM]
def zbH (a1:List zB) (a2:zg):Option ((List zB)×Unit):=zbN.F (a1,a2,())
def zgQ:Cfg E:=cf [(223,[x8]),(254,[wF]),(255,[XP])] [] [] [(0,some 0)] [] []
def XY:zK E:=sp zgQ Tryz.f232 ⟨[.ptr 0,vM],[.box true (L 4)]⟩ ⟨[vM],[.box true (L 4)]⟩ [oM,.str 4] [oM,.str 4]
def XR (a1:List zB) (a2:zg):Option ((List zB)×zg×Unit):=XY.F (a1,a2,())
def zm1:Cfg E:=cf1 [(223,[x8]),(255,[XP])]
def zau:zK E:=sp zm1 Tryz.f233 ⟨[.ptr 0,vM],[.box false (L 4)]⟩ ⟨[vM],[.gone]⟩ [oM,.str 4] [oM]
def zeA (a1:List zB) (a2:zg):Option ((List zB)×Unit):=zau.F (a1,a2,())
def zwk:Cfg E:=cf1 []
def zbo:zK E:=sp zwk Tryz.f224 ⟨[vU,vU],[]⟩ ⟨[vB],[]⟩ [oU,oU] [oB]
def xO (a1:zB) (a2:zB):Option (Bool×Unit):=zbo.F (a1,a2,())
def ziU:Cfg E:=cf [(221,[ZT]),(222,[uG]),(224,[zbo])] [] [] [(0,some 0)] [] []
def Wx:zK E:=sp ziU Tryz.f234 ⟨[.ptr 0,vM],[.box true (L 4)]⟩ ⟨[vM],[.box true (L 4)]⟩ [oM,.str 4] [oM,.str 4]
def zbR (a1:List zB) (a2:zg):Option ((List zB)×zg×Unit):=Wx.F (a1,a2,())
def zmz:Cfg E:=cf [(221,[ZT]),(226,[uU]),(254,[wF])] [] [] [(0,some 0)] [] []
def Uz:zK E:=sp zmz Tryz.f235 ⟨[.ptr 0,vM],[.box true (L 4)]⟩ ⟨[vM],[.box true (L 4)]⟩ [oM,.str 4] [oM,.str 4]
def zdU (a1:List zB) (a2:zg):Option ((List zB)×zg×Unit):=Uz.F (a1,a2,())
def zoB:Cfg E:=cf1 [(117,[zaZ]),(222,[uG])]
def Wr:zK E:=sp zoB Tryz.f256 ⟨[.ptr 0,vM],[.box false (L 4)]⟩ ⟨[vM,vB],[.gone]⟩ [oM,.str 4] [oM,oB]
def Wq (a1:List zB) (a2:zg):Option ((List zB)×Bool×Unit):=Wr.F (a1,a2,())
def zld:Cfg E:=cf [(256,[Wr])] [] [] [(0,some 0)] [] []
def VM:zK E:=sp zld Tryz.f236 ⟨[.ptr 0,vM],[.box true (L 4)]⟩ ⟨[vM],[.box true (L 4)]⟩ [oM,.str 4] [oM,.str 4]
def zc9 (a1:List zB) (a2:zg):Option ((List zB)×zg×Unit):=VM.F (a1,a2,())
def zkN:Cfg E:=cf [(223,[x8]),(254,[wF]),(255,[XP])] [] [] [(0,some 0)] [] []
def VL:zK E:=sp zkN Tryz.f237 ⟨[.ptr 0,vM],[.box true (L 4)]⟩ ⟨[vM],[.box true (L 4)]⟩ [oM,.str 4] [oM,.str 4]
def zdb (a1:List zB) (a2:zg):Option ((List zB)×zg×Unit):=VL.F (a1,a2,())
def zlR:Cfg E:=cf [(223,[x8]),(254,[wF]),(255,[XP])] [] [] [(0,some 0)] [] []
def Uk:zK E:=sp zlR Tryz.f238 ⟨[.ptr 0,vM],[.box true (L 4)]⟩ ⟨[vM],[.box true (L 4)]⟩ [oM,.str 4] [oM,.str 4]
def zdR (a1:List zB) (a2:zg):Option ((List zB)×zg×Unit):=Uk.F (a1,a2,())
def zmw:Cfg E:=cf [(221,[ZT]),(222,[uG])] [] [] [(0,some 0)] [] []
def Uy:zK E:=sp zmw Tryz.f239 ⟨[.ptr 0,vM],[.box true (L 4)]⟩ ⟨[vM],[.box true (L 4)]⟩ [oM,.str 4] [oM,.str 4]
def zdN (a1:List zB) (a2:zg):Option ((List zB)×zg×Unit):=Uy.F (a1,a2,())
def zlE:Cfg E:=cf [(221,[ZT]),(223,[x8]),(224,[zbo])] [] [] [(0,some 0)] [] []
def Uq:zK E:=sp zlE Tryz.f240 ⟨[.ptr 0,vM],[.box true (L 4)]⟩ ⟨[vM],[.box true (L 4)]⟩ [oM,.str 4] [oM,.str 4]
def zdD (a1:List zB) (a2:zg):Option ((List zB)×zg×Unit):=Uq.F (a1,a2,())
def zk6:Cfg E:=cf [(221,[ZT]),(226,[uU])] [] [] [(0,some 0)] [] []
def VO:zK E:=sp zk6 Tryz.f241 ⟨[.ptr 0,vM],[.box true (L 4)]⟩ ⟨[vM],[.box true (L 4)]⟩ [oM,.str 4] [oM,.str 4]
def zdd (a1:List zB) (a2:zg):Option ((List zB)×zg×Unit):=VO.F (a1,a2,())
def zi3:Cfg E:=cf [(254,[wF]),(256,[Wr])] [] [] [(0,some 0)] [] []
def Wn:zK E:=sp zi3 Tryz.f242 ⟨[.ptr 0,vM],[.box true (L 4)]⟩ ⟨[vM],[.box true (L 4)]⟩ [oM,.str 4] [oM,.str 4]
def zb4 (a1:List zB) (a2:zg):Option ((List zB)×zg×Unit):=Wn.F (a1,a2,())
def zx8:Cfg E:=cf [(209,[zhn,zhp,zhG,zhL]),(229,[Y5]),(230,[VK]),(231,[zbN]),(232,[XY]),(233,[zau]),(234,[Wx]),(235,[Uz]),(236,[VM]),(237,[VL]),(238,[Uk]),(239,[Uy]),(240,[Uq]),(241,[VO]),(242,[Wn])] [] [] [] [(1,2,[0,1,2,3])] []
def zgn:zK E:=sp zx8 Tryz.f167 ⟨[vM,.val (.named 4)],[]⟩ ⟨[vM,.val (.named 4)],[]⟩ [oM,.one (.named 4)] [oM,.one (.named 4)]
def zcF (a1:List zB) (a2:zg):Option ((List zB)×zg×Unit):=zgn.F (a1,a2,())
def ztM:Cfg E:=cf1 [(31,[zbg]),(32,[XO])]
def zbO:zK E:=sp ztM Tryz.f169 ⟨[.ptr 0,vI,vI],[.box false (L 14)]⟩ ⟨[.val (.named 4)],[.gone]⟩ [oI,oI,.str 14] [.one (.named 4)]
def zfY (a1:Int) (a2:Int) (a3:z3):Option (zg×Unit):=zbO.F (a1,a2,a3,())
def zwI:Cfg E:=cf1 []
def VX:zK E:=sp zwI Tryz.f210 ⟨L 0,[]⟩ ⟨[.val (.named 5)],[]⟩ [oI,oI,oI,oI] [.one (.named 5)]
def zbh (a1:Int) (a2:Int) (a3:Int) (a4:Int):Option (zV×Unit):=VX.F (a1,a2,a3,a4,())
def zru:Cfg E:=cf1 [(38,[Xz]),(210,[VX])]
def U0:zK E:=sp zru Tryz.f171 ⟨[.ptr 0,vI,vI,vI],[.box false (L 14)]⟩ ⟨[.val (.named 5)],[.gone]⟩ [oI,oI,oI,.str 14] [.one (.named 5)]
def zdn (a1:Int) (a2:Int) (a3:Int) (a4:z3):Option (zV×Unit):=U0.F (a1,a2,a3,a4,())
def zoV:Cfg E:=cf [(37,[Xk]),(169,[zbO]),(171,[U0])] [] [] [(0,some 0)] [] []
def za7:zK E:=sp zoV Tryz.f168 ⟨[.ptr 0],[.box true (L 14)]⟩ ⟨[],[.box true (L 14)]⟩ [.str 14] [.str 14]
def Wp (a1:z3):Option (z3×Unit):=za7.F (a1,())
def zo3:Cfg E:=cf [(125,[WF]),(167,[zgn]),(168,[za7])] [] [] [(0,some 0)] [] []
def zbL:zK E:=sp zo3 Tryz.f119 ⟨[.ptr 0],[.box true (L 14)]⟩ ⟨[],[.box true (L 14)]⟩ [.str 14] [.str 14]
def Vt (a1:z3):Option (z3×Unit):=zbL.F (a1,())
def zmT:Cfg E:=cf [(169,[zbO])] [] [] [(0,some 0)] [] []
def zag:zK E:=sp zmT Tryz.f120 ⟨[.ptr 0],[.box true (L 14)]⟩ ⟨[],[.box true (L 14)]⟩ [.str 14] [.str 14]
def uV (a1:z3):Option (z3×Unit):=zag.F (a1,())
def zja:Cfg E:=cf1 []
def vu:zK E:=sp zja Tryz.f170 ⟨[.val zQ],[]⟩ ⟨[.own 0],[.row true z7]⟩ [.one zQ] [.one zQ]
def vv (a1:zD):Option (zD×Unit):=vu.F (a1,())
def zoH:Cfg E:=cf [(39,[XX]),(170,[vu]),(171,[U0])] [] [] [(0,some 0)] [] []
def zaV:zK E:=sp zoH Tryz.f121 ⟨[.ptr 0],[.box true (L 14)]⟩ ⟨[],[.box true (L 14)]⟩ [.str 14] [.str 14]
def zaO (a1:z3):Option (z3×Unit):=zaV.F (a1,())
def ztK:Cfg E:=cf1 []
def zb5:zK E:=sp ztK Tryz.f124 ⟨[.ptr 0],[.box false (L 14)]⟩ ⟨[vI],[.gone]⟩ [.str 14] [oI]
def Uj (a1:z3):Option (Int×Unit):=zb5.F (a1,())
def zrr:Cfg E:=cf1 []
def UZ:zK E:=sp zrr Tryz.f211 ⟨[.val (.named 2),vI,vI],[]⟩ ⟨[vB],[]⟩ [.one (.named 2),oI,oI] [oB]
def UX (a1:zr) (a2:Int) (a3:Int):Option (Bool×Unit):=UZ.F (a1,a2,a3,())
def zCp:Cfg E:=cf1 [(211,[UZ])]
def zgl:zK E:=sp zCp Tryz.f172 ⟨[.val (.named 2),vI,vI],[]⟩ ⟨[vI,vB],[]⟩ [.one (.named 2),oI,oI] [oI,oB]
def zf0 (a1:zr) (a2:Int) (a3:Int):Option (Int×Bool×Unit):=zgl.F (a1,a2,a3,())
def zya:Cfg E:=cf1 []
def zca:zK E:=sp zya Tryz.f173 ⟨[vI,vI,vI],[]⟩ ⟨[.val (.named 6)],[]⟩ [oI,oI,oI] [.one (.named 6)]
def zcw (a1:Int) (a2:Int) (a3:Int):Option (zJ×Unit):=zca.F (a1,a2,a3,())
def zoy:Cfg E:=cf [(124,[zb5]),(172,[zgl]),(173,[zca])] [] [] [(0,some 0)] [] []
def zaR:zK E:=sp zoy Tryz.f122 ⟨[.ptr 0],[.box true (L 14)]⟩ ⟨[],[.box true (L 14)]⟩ [.str 14] [.str 14]
def zba (a1:z3):Option (z3×Unit):=zaR.F (a1,())
def ziu:Cfg E:=cf [] [] [] [(0,some 0)] [] []
def Ww:zK E:=sp ziu Tryz.f174 ⟨[.ptr 0],[.box true (L 15)]⟩ ⟨[],[.box true (L 15)]⟩ [.str 15] [.str 15]
def zbP (a1:zX):Option (zX×Unit):=Ww.F (a1,())
def zmX:Cfg E:=cf [(38,[Xz]),(39,[XX]),(210,[VX])] [] [] [(0,some 0)] [] []
def uQ:zK E:=sp zmX Tryz.f212 ⟨[.ptr 0],[.box true (L 15)]⟩ ⟨[],[.box true (L 15)]⟩ [.str 15] [.str 15]
def uS (a1:zX):Option (zX×Unit):=uQ.F (a1,())
def zls:Cfg E:=cf [(31,[zbg]),(32,[XO]),(86,[zcs]),(212,[uQ])] [] [] [(0,some 0)] [] []
def Um:zK E:=sp zls Tryz.f175 ⟨[.ptr 0],[.box true (L 15)]⟩ ⟨[],[.box true (L 15)]⟩ [.str 15] [.str 15]
def zdY (a1:zX):Option (zX×Unit):=Um.F (a1,())
def zl1:Cfg E:=cf [] [] [] [(0,some 0)] [] []
def Up:zK E:=sp zl1 Tryz.f176 ⟨[.ptr 0],[.box true (L 15)]⟩ ⟨[],[.box true (L 15)]⟩ [.str 15] [.str 15]
def zdF (a1:zX):Option (zX×Unit):=Up.F (a1,())
def zml:Cfg E:=cf [(167,[zgn]),(212,[uQ])] [] [] [(0,some 0)] [] []
def UK:zK E:=sp zml Tryz.f177 ⟨[.ptr 0],[.box true (L 15)]⟩ ⟨[],[.box true (L 15)]⟩ [.str 15] [.str 15]
def zdQ (a1:zX):Option (zX×Unit):=UK.F (a1,())
def zmN:Cfg E:=cf [(212,[uQ])] [] [] [(0,some 0)] [] []
def Un:zK E:=sp zmN Tryz.f178 ⟨[.ptr 0],[.box true (L 15)]⟩ ⟨[],[.box true (L 15)]⟩ [.str 15] [.str 15]
def zdT (a1:zX):Option (zX×Unit):=Un.F (a1,())
def zmx:Cfg E:=cf [(166,[WQ]),(212,[uQ])] [] [] [(0,some 0)] [] []
def Ul:zK E:=sp zmx Tryz.f179 ⟨[.ptr 0],[.box true (L 15)]⟩ ⟨[],[.box true (L 15)]⟩ [.str 15] [.str 15]
def zdC (a1:zX):Option (zX×Unit):=Ul.F (a1,())
def zlv:Cfg E:=cf [(37,[Xk]),(38,[Xz]),(170,[vu]),(210,[VX])] [] [] [(0,some 0)] [] []
def UM:zK E:=sp zlv Tryz.f180 ⟨[.ptr 0],[.box true (L 15)]⟩ ⟨[],[.box true (L 6++L 3++[vI,.val zQ,vM,.own 1,vU,vU,vI,vI,vB,vB,vI,vL]++L 10++[.val (.slice (.named 7)),.val (.slice (.named 8)),vI,vI]),.row true z7]⟩ [.str 15] [.str 6,.str 3,.str 2,oM,.str 9,oI,oI,oB,oB,oI,oL,.str 10,.one (.slice (.named 7)),.one (.slice (.named 8)),.str 11,.one zQ]
def zdE (a1:zX):Option (zJ×zd×zr×(List zB)×zn×Int×Int×Bool×Bool×Int×zy×zx×(List zj)×(List ze)×zN×zD×Unit):=UM.F (a1,())
def ziS:Cfg E:=cf [(166,[WQ])] [] [] [(0,some 0)] [] []
def Wm:zK E:=sp ziS Tryz.f181 ⟨[.ptr 0],[.box true (L 15)]⟩ ⟨[],[.box true (L 15)]⟩ [.str 15] [.str 15]
def zb3 (a1:zX):Option (zX×Unit):=Wm.F (a1,())
def zzC:Cfg E:=cf1 [(174,[Ww]),(175,[Um]),(176,[Up]),(177,[UK]),(178,[Un]),(179,[Ul]),(180,[UM]),(181,[Wm])]
def zif:zK E:=sp zzC Tryz.f123 ⟨[.val (.named 12),.val (.named 6)],[]⟩ ⟨[.val (.named 12),.val (.named 6)],[]⟩ [.one (.named 12),.one (.named 6)] [.one (.named 12),.one (.named 6)]
def zdS (a1:za) (a2:zJ):Option (za×zJ×Unit):=zif.F (a1,a2,())
def zmQ:Cfg E:=cf1 []
def Yh:zK E:=sp zmQ Tryz.f182 ⟨[.val (.named 10),vI],[]⟩ ⟨[vB],[]⟩ [.one (.named 10),oI] [oB]
def Yb (a1:zx) (a2:Int):Option (Bool×Unit):=Yh.F (a1,a2,())
def ztp:Cfg E:=cf1 []
def zf8:zK E:=sp ztp Tryz.f184 ⟨[vI],[]⟩ ⟨[vI],[]⟩ [oI] [oI]
def zfd (a1:Int):Option (Int×Unit):=zf8.F (a1,())
def zaG:Cfg E:=cf1 [(184,[zf8])]
def un:zK E:=sp zaG Tryz.f183 ⟨[.val (.named 10),vI,.fn 184 []],[]⟩ ⟨[.val (.named 10)],[]⟩ [.one (.named 10),oI] [.one (.named 10)]
def YS (a1:zx) (a2:Int):Option (zx×Unit):=un.F (a1,a2,())
def zw8:Cfg E:=cf1 [(182,[Yh]),(183,[un])]
def zee:zK E:=sp zw8 Tryz.f126 ⟨[.val (.named 10),vI],[]⟩ ⟨[.val (.named 10)],[]⟩ [.one (.named 10),oI] [.one (.named 10)]
def zbm (a1:zx) (a2:Int):Option (zx×Unit):=zee.F (a1,a2,())
def zoC:Cfg E:=cf [(87,[zbC]),(118,[zaP]),(119,[zbL]),(120,[zag]),(121,[zaV]),(122,[zaR]),(123,[zif]),(124,[zb5]),(125,[WF]),(126,[zee])] [] [] [(0,some 0)] [] []
def zaU:zK E:=sp zoC Tryz.f82 ⟨[.ptr 0],[.box true (L 14)]⟩ ⟨[],[.box true (L 14)]⟩ [.str 14] [.str 14]
def za4 (a1:z3):Option (z3×Unit):=zaU.F (a1,())
def UQ:Cfg E:=cf1 []
def vT:zK E:=sp UQ Tryz.f83 ⟨[.val (.slice (.named 7))],[]⟩ ⟨[.own 0],[.row true (.named 7)]⟩ [.one (.slice (.named 7))] [.one (.slice (.named 7))]
def vV (a1:List zj):Option ((List zj)×Unit):=vT.F (a1,())
def zwm:Cfg E:=cf1 [(82,[zaU]),(83,[vT])]
def zjQ:zK E:=sp zwm Tryz.f42 ⟨[.val (.named 12),vI],[]⟩ ⟨[.val (.named 12)],[]⟩ [.one (.named 12),oI] [.one (.named 12)]
def zjJ (a1:za) (a2:Int):Option (za×Unit):=zjQ.F (a1,a2,())
def zrK:Cfg E:=cf1 []
def u4:zK E:=sp zrK Tryz.f185 ⟨[.ptr 0],[.box false (L 16)]⟩ ⟨[.val (.named 0)],[.gone]⟩ [.str 16] [.one (.named 0)]
def ua (a1:zH):Option (zE×Unit):=u4.F (a1,())
def zm5:Cfg E:=cf [] [] [] [(0,some 0)] [] []
def uR:zK E:=sp zm5 Tryz.f189 ⟨[.ptr 0],[.box true (L 16)]⟩ ⟨[],[.box true (L 16)]⟩ [.str 16] [.str 16]
def Yi (a1:zH):Option (zH×Unit):=uR.F (a1,())
def zoN:Cfg E:=cf [(29,[xC]),(189,[uR])] [] [] [(0,some 0)] [] []
def YC:zK E:=sp zoN Tryz.f186 ⟨[.ptr 0,vI,vI],[.box true (L 16)]⟩ ⟨[],[.box true (L 16)]⟩ [oI,oI,.str 16] [.str 16]
def Zl (a1:Int) (a2:Int) (a3:zH):Option (zH×Unit):=YC.F (a1,a2,a3,())
def zms:Cfg E:=cf [(185,[u4]),(186,[YC])] [] [] [(0,some 0)] [] []
def UD:zK E:=sp zms Tryz.f127 ⟨[.ptr 0],[.box true (L 16)]⟩ ⟨[],[.box true (L 16)]⟩ [.str 16] [.str 16]
def UE (a1:zH):Option (zH×Unit):=UD.F (a1,())
def zmc:Cfg E:=cf [(173,[zca])] [] [] [(0,some 0)] [] []
def Ur:zK E:=sp zmc Tryz.f128 ⟨[.ptr 0],[.box true (L 16)]⟩ ⟨[],[.box true (L 16)]⟩ [.str 16] [.str 16]
def zdx (a1:zH):Option (zH×Unit):=Ur.F (a1,())
def zoc:Cfg E:=cf [(29,[xC])] [] [] [(0,some 0)] [] []
def zaM:zK E:=sp zoc Tryz.f129 ⟨[.ptr 0],[.box true (L 16)]⟩ ⟨[],[.box true (L 8++L 3++[vI,.val zQ,vM,.val zQ,vU,vU,vI,vI,vB,vB,vI,.own 1]++L 10++[.val (.slice (.named 7)),.val (.slice (.named 8)),vI,vI,vI]),.row true zo]⟩ [.str 16] [.str 8,.str 3,.str 2,oM,.one zQ,.str 9,oI,oI,oB,oB,oI,.str 10,.one (.slice (.named 7)),.one (.slice (.named 8)),.str 11,oI,oL]
def zfl (a1:zH):Option (ze×zd×zr×(List zB)×zD×zn×Int×Int×Bool×Bool×Int×zx×(List zj)×(List ze)×zN×Int×zy×Unit):=zaM.F (a1,())
def zkM:Cfg E:=cf [(123,[zif])] [] [] [(0,some 0)] [] []
def YW:zK E:=sp zkM Tryz.f187 ⟨[.ptr 0,vI],[.box true (L 16)]⟩ ⟨[],[.box true (L 16)]⟩ [oI,.str 16] [.str 16]
def YX (a1:Int) (a2:zH):Option (zH×Unit):=YW.F (a1,a2,())
def zmD:Cfg E:=cf [(187,[YW])] [] [] [(0,some 0)] [] []
def UG:zK E:=sp zmD Tryz.f130 ⟨[.ptr 0],[.box true (L 16)]⟩ ⟨[],[.box true (L 16)]⟩ [.str 16] [.str 16]
def zdA (a1:zH):Option (zH×Unit):=UG.F (a1,())
def zqB:Cfg E:=cf1 [(172,[zgl]),(185,[u4])]
def VY:zK E:=sp zqB Tryz.f188 ⟨[.ptr 0],[.box false (L 16)]⟩ ⟨[vI],[.gone]⟩ [.str 16] [oI]
def V2 (a1:zH):Option (Int×Unit):=VY.F (a1,())
def zm2:Cfg E:=cf [(185,[u4]),(186,[YC]),(188,[VY])] [] [] [(0,some 0)] [] []
def U6:zK E:=sp zm2 Tryz.f131 ⟨[.ptr 0],[.box true (L 16)]⟩ ⟨[],[.box true (L 16)]⟩ [.str 16] [.str 16]
def zeV (a1:zH):Option (zH×Unit):=U6.F (a1,())
def zoS:Cfg E:=cf [(185,[u4]),(188,[VY]),(189,[uR])] [] [] [(0,some 0)] [] []
def zaY:zK E:=sp zoS Tryz.f132 ⟨[.ptr 0],[.box true (L 16)]⟩ ⟨[],[.box true (L 16)]⟩ [.str 16] [.str 16]
def zfp (a1:zH):Option (zH×Unit):=zaY.F (a1,())
def zmB:Cfg E:=cf [(146,[znn])] [] [] [(0,some 0)] [] []
def Uw:zK E:=sp zmB Tryz.f133 ⟨[.ptr 0],[.box true (L 16)]⟩ ⟨[],[.box true (L 16)]⟩ [.str 16] [.str 16]
def zdv (a1:zH):Option (zH×Unit):=Uw.F (a1,())
def zi6:Cfg E:=cf [(29,[xC])] [] [] [(0,some 0)] [] []
def WA:zK E:=sp zi6 Tryz.f134 ⟨[.ptr 0],[.box true (L 16)]⟩ ⟨[],[.box true (L 16)]⟩ [.str 16] [.str 16]
def zbV (a1:zH):Option (zH×Unit):=WA.F (a1,())
def zBC:Cfg E:=cf [(29,[xC]),(170,[vu]),(211,[UZ])] [] [(4,12),(6,0)] [] [] []
def zpW:zK E:=sp zBC Tryz.f190 ⟨[.val (.named 2),vI,vI,vI],[]⟩ ⟨[.val (.named 2),vB],[]⟩ [.one (.named 2),oI,oI,oI] [.one (.named 2),oB]
def zqk (a1:zr) (a2:Int) (a3:Int) (a4:Int):Option (zr×Bool×Unit):=zpW.F (a1,a2,a3,a4,())
def zlQ:Cfg E:=cf [(185,[u4]),(189,[uR]),(190,[zpW])] [] [] [(0,some 0)] [] []
def UA:zK E:=sp zlQ Tryz.f135 ⟨[.ptr 0],[.box true (L 16)]⟩ ⟨[],[.box true (L 16)]⟩ [.str 16] [.str 16]
def zdG (a1:zH):Option (zH×Unit):=UA.F (a1,())
def zsm:Cfg E:=cf1 []
def zeu:zK E:=sp zsm Tryz.f214 ⟨[vI,.ptr 0],[.box false [vI]]⟩ ⟨[vI],[.gone]⟩ [oI,oI] [oI]
def zbb (a1:Int) (a2:Int):Option (Int×Unit):=zeu.F (a1,a2,())
def zaf:Cfg E:=cf1 [(214,[zeu])]
def ud:zK E:=sp zaf Tryz.f183 ⟨[.val (.named 10),vI,.fn 214 [.ptr 0]],[.box false [vI]]⟩ ⟨[.val (.named 10)],[.gone]⟩ [.one (.named 10),oI,oI] [.one (.named 10)]
def Yz (a1:zx) (a2:Int) (a3:Int):Option (zx×Unit):=ud.F (a1,a2,a3,())
def zlF:Cfg E:=cf1 [(182,[Yh])]
def Xf:zK E:=sp zlF Tryz.f216 ⟨[.val (.named 10),vI,vI,vI],[]⟩ ⟨[vB],[]⟩ [.one (.named 10),oI,oI,oI] [oB]
def Xg (a1:zx) (a2:Int) (a3:Int) (a4:Int):Option (Bool×Unit):=Xf.F (a1,a2,a3,a4,())
def zxy:Cfg E:=cf1 [(216,[Xf])]
def zgq:zK E:=sp zxy Tryz.f213 ⟨[.val (.named 10),vI,vI,vI],[]⟩ ⟨[vB],[]⟩ [.one (.named 10),oI,oI,oI] [oB]
def zfU (a1:zx) (a2:Int) (a3:Int) (a4:Int):Option (Bool×Unit):=zgq.F (a1,a2,a3,a4,())
def zup:Cfg E:=cf1 [(183,[ud]),(213,[zgq])]
def zgU:zK E:=sp zup Tryz.f191 ⟨[.val (.named 10),vI,vI,vI],[]⟩ ⟨[.val (.named 10),vB],[]⟩ [.one (.named 10),oI,oI,oI] [.one (.named 10),oB]
def zhi (a1:zx) (a2:Int) (a3:Int) (a4:Int):Option (zx×Bool×Unit):=zgU.F (a1,a2,a3,a4,())
def zly:Cfg E:=cf [(47,[zfv]),(88,[zfe]),(185,[u4]),(186,[YC]),(189,[uR]),(191,[zgU])] [] [] [(0,some 0)] [] []
def UC:zK E:=sp zly Tryz.f136 ⟨[.ptr 0],[.box true (L 16)]⟩ ⟨[],[.box true (L 16)]⟩ [.str 16] [.str 16]
def zdO (a1:zH):Option (zH×Unit):=UC.F (a1,())
def ztk:Cfg E:=cf1 []
def zgf:zK E:=sp ztk Tryz.f215 ⟨[vI,.ptr 0],[.box false [vI]]⟩ ⟨[vI],[.gone]⟩ [oI,oI] [oI]
def zbQ (a1:Int) (a2:Int):Option (Int×Unit):=zgf.F (a1,a2,())
def zaF:Cfg E:=cf1 [(215,[zgf])]
def ur:zK E:=sp zaF Tryz.f183 ⟨[.val (.named 10),vI,.fn 215 [.ptr 0]],[.box false [vI]]⟩ ⟨[.val (.named 10)],[.gone]⟩ [.one (.named 10),oI,oI] [.one (.named 10)]
def YR (a1:zx) (a2:Int) (a3:Int):Option (zx×Unit):=ur.F (a1,a2,a3,())
def zwK:Cfg E:=cf1 [(182,[Yh]),(183,[ur])]
def zjS:zK E:=sp zwK Tryz.f192 ⟨[.val (.named 10),vI,vI],[]⟩ ⟨[.val (.named 10),vI],[]⟩ [.one (.named 10),oI,oI] [.one (.named 10),oI]
def zj8 (a1:zx) (a2:Int) (a3:Int):Option (zx×Int×Unit):=zjS.F (a1,a2,a3,())
def zus:Cfg E:=cf1 [(213,[zgq]),(216,[Xf])]
def zhV:zK E:=sp zus Tryz.f193 ⟨[.val (.named 10),vI,vI,vI],[]⟩ ⟨[vI],[]⟩ [.one (.named 10),oI,oI,oI] [oI]
def zht (a1:zx) (a2:Int) (a3:Int) (a4:Int):Option (Int×Unit):=zhV.F (a1,a2,a3,a4,())
def zmU:Cfg E:=cf [(38,[Xz]),(210,[VX])] [] [] [(0,some 0)] [] []
def XI:zK E:=sp zmU Tryz.f194 ⟨[.ptr 0,vI,vI,vI],[.box true (L 16)]⟩ ⟨[],[.box true (L 16)]⟩ [oI,oI,oI,.str 16] [.str 16]
def XN (a1:Int) (a2:Int) (a3:Int) (a4:zH):Option (zH×Unit):=XI.F (a1,a2,a3,a4,())
def znh:Cfg E:=cf [(37,[Xk]),(192,[zjS]),(193,[zhV]),(194,[XI])] [] [] [(0,some 0)] [] []
def zaC:zK E:=sp znh Tryz.f137 ⟨[.ptr 0],[.box true (L 16)]⟩ ⟨[],[.box true (L 16)]⟩ [.str 16] [.str 16]
def zeX (a1:zH):Option (zH×Unit):=zaC.F (a1,())
def zoI:Cfg E:=cf [(166,[WQ])] [] [] [(0,some 0)] [] []
def za6:zK E:=sp zoI Tryz.f138 ⟨[.ptr 0],[.box true (L 16)]⟩ ⟨[],[.box true (L 16)]⟩ [.str 16] [.str 16]
def zf3 (a1:zH):Option (zH×Unit):=za6.F (a1,())
def zmk:Cfg E:=cf [(39,[XX]),(170,[vu]),(194,[XI])] [] [] [(0,some 0)] [] []
def UL:zK E:=sp zmk Tryz.f139 ⟨[.ptr 0],[.box true (L 16)]⟩ ⟨[],[.box true (L 16)]⟩ [.str 16] [.str 16]
def zdw (a1:zH):Option (zH×Unit):=UL.F (a1,())
def zm9:Cfg E:=cf [(166,[WQ])] [] [] [(0,some 0)] [] []
def zaz:zK E:=sp zm9 Tryz.f140 ⟨[.ptr 0],[.box true (L 16)]⟩ ⟨[],[.box true (L 16)]⟩ [.str 16] [.str 16]
def zeH (a1:zH):Option (zH×Unit):=zaz.F (a1,())
def zmy:Cfg E:=cf [] [] [] [(0,some 0)] [] []
def Uv:zK E:=sp zmy Tryz.f141 ⟨[.ptr 0],[.box true (L 16)]⟩ ⟨[],[.box true (L 16)]⟩ [.str 16] [.str 16]
def zdJ (a1:zH):Option (zH×Unit):=Uv.F (a1,())
def zsk:Cfg E:=cf1 []
def za1:zK E:=sp zsk Tryz.f195 ⟨[.ptr 0],[.box false (L 16)]⟩ ⟨[vI],[.gone]⟩ [.str 16] [oI]
def za0 (a1:zH):Option (Int×Unit):=za1.F (a1,())
def zne:Cfg E:=cf [(172,[zgl]),(173,[zca]),(195,[za1])] [] [] [(0,some 0)] [] []
def zaE:zK E:=sp zne Tryz.f142 ⟨[.ptr 0],[.box true (L 16)]⟩ ⟨[],[.box true (L 16)]⟩ [.str 16] [.str 16]
def zeU (a1:zH):Option (zH×Unit):=zaE.F (a1,())
def zoG:Cfg E:=cf [(187,[YW]),(195,[za1])] [] [] [(0,some 0)] [] []
def zaL:zK E:=sp zoG Tryz.f143 ⟨[.ptr 0],[.box true (L 16)]⟩ ⟨[],[.box true (L 16)]⟩ [.str 16] [.str 16]
def zfA (a1:zH):Option (zH×Unit):=zaL.F (a1,())
def zjP:Cfg E:=cf [(87,[zbC]),(126,[zee])] [] [] [(0,some 0)] [] []
def W9:zK E:=sp zjP Tryz.f144 ⟨[.ptr 0],[.box true (L 16)]⟩ ⟨[],[.box true (L 16)]⟩ [.str 16] [.str 16]
def zcz (a1:zH):Option (zH×Unit):=W9.F (a1,())
def zjv:Cfg E:=cf [] [] [] [(0,some 0)] [] []
def W2:zK E:=sp zjv Tryz.f145 ⟨[.ptr 0],[.box true (L 16)]⟩ ⟨[],[.box true (L 16)]⟩ [.str 16] [.str 16]
def zcH (a1:zH):Option (zH×Unit):=W2.F (a1,())
def znd:Cfg E:=cf [(127,[UD]),(128,[Ur]),(129,[zaM]),(130,[UG]),(131,[U6]),(132,[zaY]),(133,[Uw]),(134,[WA]),(135,[UA]),(136,[UC]),(137,[zaC]),(138,[za6]),(139,[UL]),(140,[zaz]),(141,[Uv]),(142,[zaE]),(143,[zaL]),(144,[W9]),(145,[W2])] [] [] [(0,some 0)] [] []
def U8:zK E:=sp znd Tryz.f84 ⟨[.ptr 0],[.box true (L 16)]⟩ ⟨[],[.box true (L 16)]⟩ [.str 16] [.str 16]
def zaq (a1:zH):Option (zH×Unit):=U8.F (a1,())
def V9:Cfg E:=cf1 []
def vD:zK E:=sp V9 Tryz.f85 ⟨[.val (.slice (.named 8))],[]⟩ ⟨[.own 0],[.row true (.named 8)]⟩ [.one (.slice (.named 8))] [.one (.slice (.named 8))]
def vF (a1:List ze):Option ((List ze)×Unit):=vD.F (a1,())
def zuX:Cfg E:=cf1 [(84,[U8]),(85,[vD])]
def zhs:zK E:=sp zuX Tryz.f43 ⟨[.val (.named 12),vI],[]⟩ ⟨[.val (.named 12)],[]⟩ [.one (.named 12),oI] [.one (.named 12)]
def zhR (a1:za) (a2:Int):Option (za×Unit):=zhs.F (a1,a2,())
def zwY:Cfg E:=cf1 [(40,[zfr]),(42,[zjQ]),(43,[zhs]),(44,[zgg])]
def zeb:zK E:=sp zwY Tryz.f8 ⟨[.val (.named 12),.val (.named 1)],[]⟩ ⟨[.val (.named 12)],[]⟩ [.one (.named 12),.one (.named 1)] [.one (.named 12)]
def zd4 (a1:za) (a2:zk):Option (za×Unit):=zeb.F (a1,a2,())
def znx:zZ E:=lo [1,2,4,8,9,10] ⟨[.val (.slice (.named 1)),.ptr 0,.ptr 1,.val (.slice (.named 1)),vI,vI],[.box true (L 12),.box true (L 0++L 0++[vI,.own 2,vU,.own 3,.own 4,.own 5,vI,.own 6,.own 7,.own 8,vU,vU,vI,vI,vB,vB,vI,.own 9,vI,vI,vI,.own 10,.own 11,.own 12,vI,vI]),.row true z7,.row true z7,.row true (.slice (.named 0)),.row true (.named 1),.row true z7,.row true (.int .u64),.row true z7,.row true zo,.row true zo,.row true (.named 7),.row true (.named 8)]⟩ 0 [1,2,4] ⟨[.val (.slice (.named 1)),.ptr 0,.ptr 1],[.box true (L 12),.box true (L 0++L 0++[vI,.own 2,vU,.own 3,.own 4,.own 5,vI,.own 6,.own 7,.own 8,vU,vU,vI,vI,vB,vB,vI,.own 9,vI,vI,vI,.own 10,.own 11,.own 12,vI,vI]),.row true z7,.row true z7,.row true (.slice (.named 0)),.row true (.named 1),.row true z7,.row true (.int .u64),.row true z7,.row true zo,.row true zo,.row true (.named 7),.row true (.named 8)]⟩ [4,5] ⟨[.ptr 0,vI],[.box true (L 12)]⟩ [.one (.slice (.named 1)),.one (.slice (.named 1)),oI,oI,.str 12,oI,oI,oI,oI,oI,oI,oI,oI,oI,oU,oI,.str 9,oI,oI,oB,oB,oI,oI,oI,oI,.str 11,.one zQ,.one zQ,.one (.slice (.slice (.named 0))),.one (.slice (.named 1)),.one zQ,oM,.one zQ,oL,oL,.one (.slice (.named 7)),.one (.slice (.named 8))] [.one (.slice (.named 1)),.str 12,oI,oI,oI,oI,oI,oI,oI,oI,oI,oU,oI,.str 9,oI,oI,oB,oB,oI,oI,oI,oI,.str 11,.one zQ,.one zQ,.one (.slice (.slice (.named 0))),.one (.slice (.named 1)),.one zQ,oM,.one zQ,oL,oL,.one (.slice (.named 7)),.one (.slice (.named 8))] [oI,.str 12]
def zhD:Cfg E:=cf [(8,[zeb])] [(2,znx)] [] [] [] []
def zlM:zK E:=sp zhD Tryz.f12 ⟨[.val (.named 12),.val (.slice (.named 1))],[]⟩ ⟨[.val (.named 12),vI],[]⟩ [.one (.named 12),.one (.slice (.named 1))] [.one (.named 12),oI]
def WY (a1:za) (a2:List zk):Option (za×Int×Unit):=zlM.F (a1,a2,())
def zfh (x:(List zk)×(List zk)×Int×Int×za×Int×Int×Int×Int×Int×Int×Int×Int×Int×zB×Int×zn×Int×Int×Bool×Bool×Int×Int×Int×Int×zN×zD×zD×(List (List zE))×(List zk)×zD×(List zB)×zD×zy×zy×(List zj)×(List ze)×Unit):Option (yM ((List zk)×(List zk)×Int×Int×za×Int×Int×Int×Int×Int×Int×Int×Int×Int×zB×Int×zn×Int×Int×Bool×Bool×Int×Int×Int×Int×zN×zD×zD×(List (List zE))×(List zk)×zD×(List zB)×zD×zy×zy×(List zj)×(List ze)×Unit) ((List zk)×za×Int×Int×Int×Int×Int×Int×Int×Int×Int×zB×Int×zn×Int×Int×Bool×Bool×Int×Int×Int×Int×zN×zD×zD×(List (List zE))×(List zk)×zD×(List zB)×zD×zy×zy×(List zj)×(List ze)×Unit) (Int×za×Unit)):=yo zhD (exec zhD (yC Tryz.f12 2)) 26 znx x
def zAD:Cfg E:=cf1 [(26,[zdH]),(75,[zho])]
def zqQ:zK E:=sp zAD Tryz.f56 ⟨[vL],[]⟩ ⟨[vU,vB],[]⟩ [oL] [oU,oB]
def zqA (a1:zy):Option (zB×Bool×Unit):=zqQ.F (a1,())
def zBb:Cfg E:=cf1 []
def zp7:zK E:=sp zBb Tryz.f97 ⟨[.val (.named 12)],[]⟩ ⟨[.fn 150 [.ptr 0]],[.box true (L 12)]⟩ [.one (.named 12)] [.str 12]
def zwZ (a1:za):Option (za×Unit):=zp7.F (a1,())
def V8:zZ E:=lo [0,3,9,10,11] ⟨[.val zQ,vI,.val zQ,vI,vI],[]⟩ 0 [0,3] ⟨[.val zQ,vI],[]⟩ [] ⟨[],[]⟩ [.one zQ,oI,.one zQ,oI,oI] [.one zQ,oI] []
def Vx:zZ E:=lo [6,25,26,27] ⟨[.own 0,.val zQ,vI,vI],[.row true zo]⟩ 2 [6] ⟨[.own 0],[.row true zo]⟩ [] ⟨[],[]⟩ [.one zQ,oI,oI,oL] [oL] []
def vz:Cfg E:=cf [(204,[zDU])] [(3,V8),(11,Vx)] [] [] [] []
def XC:zK E:=sp vz Tryz.f155 ⟨[.val zQ],[]⟩ ⟨[.own 0],[.row true zo]⟩ [.one zQ] [oL]
def Xs (a1:zD):Option (zy×Unit):=XC.F (a1,())
def wm (x:zD×Int×zD×Int×Int×Unit):Option (yM (zD×Int×zD×Int×Int×Unit) (zD×Int×Unit) (Unit)):=yo vz (exec vz (yC Tryz.f155 3)) 36 V8 x
def we (x:zD×Int×Int×zy×Unit):Option (yM (zD×Int×Int×zy×Unit) (zy×Unit) (Unit)):=yo vz (exec vz (yC Tryz.f155 11)) 36 Vx x
def zCx:Cfg E:=cf1 [(154,[zsY]),(155,[XC])]
def zr6:zK E:=sp zCx Tryz.f98 ⟨[vL,vL],[]⟩ ⟨[.own 0],[.row true zo]⟩ [oL,oL] [oL]
def zr8 (a1:zy) (a2:zy):Option (zy×Unit):=zr6.F (a1,a2,())
def zn1:zZ E:=lo [0,2,3,9,10] ⟨[vM,vI,vI,.own 0,vI],[.row true zo]⟩ 0 [9] ⟨[.own 0],[.row true zo]⟩ [] ⟨[],[]⟩ [oM,oI,oI,oI,oL] [oL] []
def zgW:Cfg E:=cf [(217,[Vi]),(218,[zce])] [(3,zn1)] [] [] [] []
def zmu:zK E:=sp zgW Tryz.f196 ⟨[vM,vI,vI,vI],[]⟩ ⟨[.own 0],[.row true zo]⟩ [oM,oI,oI,oI] [oL]
def zmr (a1:List zB) (a2:Int) (a3:Int) (a4:Int):Option (zy×Unit):=zmu.F (a1,a2,a3,a4,())
def zfb (x:(List zB)×Int×Int×Int×zy×Unit):Option (yM ((List zB)×Int×Int×Int×zy×Unit) (zy×Unit) (Unit)):=yo zgW (exec zgW (yC Tryz.f196 3)) 35 zn1 x
def zAN:Cfg E:=cf1 [(154,[zsY])]
def zfJ:zK E:=sp zAN Tryz.f197 ⟨[vL],[]⟩ ⟨[.own 0],[.row true zo]⟩ [oL] [oL]
def yX (a1:zy):Option (zy×Unit):=zfJ.F (a1,())
def znq:zZ E:=lo [1,3,17,18,19] ⟨[.ptr 0,.own 1,.own 2,vI,vI],[.box true (L 12),.row true zo,.row true zo]⟩ 0 [3] ⟨[.own 0],[.row true zo]⟩ [] ⟨[],[]⟩ [oI,oI,.str 12,oL,oL] [oL] []
def zgS:Cfg E:=cf [(37,[Xk]),(38,[Xz]),(196,[zmu]),(197,[zfJ])] [(3,znq)] [] [] [] []
def zmI:zK E:=sp zgS Tryz.f151 ⟨[.val (.named 12)],[]⟩ ⟨[.own 0],[.row true zo]⟩ [.one (.named 12)] [oL]
def zch (a1:za):Option (zy×Unit):=zmI.F (a1,())
def Ua (x:Int×Int×za×zy×zy×Unit):Option (yM (Int×Int×za×zy×zy×Unit) (zy×Unit) (Unit)):=yo zgS (exec zgS (yC Tryz.f151 3)) 38 znq x
def zwS:Cfg E:=cf1 [(32,[XO]),(117,[zaZ])]
def zj2:zK E:=sp zwS Tryz.f198 ⟨[.val (.named 12),vI,.val (.named 4)],[]⟩ ⟨[.own 0],[.row true zo]⟩ [.one (.named 12),oI,.one (.named 4)] [oL]
def zjG (a1:za) (a2:Int) (a3:zg):Option (zy×Unit):=zj2.F (a1,a2,a3,())
def zyb:Cfg E:=cf1 [(148,[zjj])]
def zgm:zK E:=sp zyb Tryz.f200 ⟨[.val (.named 6)],[]⟩ ⟨[vI],[]⟩ [.one (.named 6)] [oI]
def ZR (a1:zJ):Option (Int×Unit):=zgm.F (a1,())
def zkt:zZ E:=lo [0,9,11,12,13] ⟨[vM,.ptr 0,vU,.own 1,vU],[.box true (L 4),.row true zo]⟩ 1 [12] ⟨[.own 0],[.row true zo]⟩ [] ⟨[],[]⟩ [oM,oU,oU,.str 4,oL] [oL] []
def zgp:Cfg E:=cf [(221,[ZT]),(222,[uG]),(223,[x8]),(224,[zbo]),(225,[Yx]),(226,[uU])] [(16,zkt)] [] [] [] []
def zjs:zK E:=sp zgp Tryz.f201 ⟨[vM,vI,vI,.val (.named 4)],[]⟩ ⟨[.own 0],[.row true zo]⟩ [oM,oI,oI,.one (.named 4)] [oL]
def wI (a1:List zB) (a2:Int) (a3:Int) (a4:zg):Option (zy×Unit):=zjs.F (a1,a2,a3,a4,())
def yy (x:(List zB)×zB×zB×zg×zy×Unit):Option (yM ((List zB)×zB×zB×zg×zy×Unit) (zy×Unit) (Unit)):=yo zgp (exec zgp (yC Tryz.f201 16)) 76 zkt x
def zwH:Cfg E:=cf1 [(29,[xC]),(32,[XO]),(197,[zfJ]),(198,[zj2]),(199,[zAc]),(200,[zgm]),(201,[zjs])]
def zjD:zK E:=sp zwH Tryz.f152 ⟨[.val (.named 12),vI],[]⟩ ⟨[.own 0],[.row true zo]⟩ [.one (.named 12),oI] [oL]
def zec (a1:za) (a2:Int):Option (zy×Unit):=zjD.F (a1,a2,())
def zuG:Cfg E:=cf1 [(29,[xC]),(147,[zfZ]),(197,[zfJ]),(199,[zAc]),(200,[zgm])]
def zhz:zK E:=sp zuG Tryz.f153 ⟨[.val (.named 12),vI],[]⟩ ⟨[.own 0],[.row true zo]⟩ [.one (.named 12),oI] [oL]
def zcV (a1:za) (a2:Int):Option (zy×Unit):=zhz.F (a1,a2,())
def zyh (s:za):Nat->Int->Option zD
 | 0,_=>some []
 | n+1,i=>(zec s (i+1)).bind fun a=>(zyh s n (i+1)).bind fun l=>some (a.1::l)
def zxT (s:za):Nat->Int->Option zD
 | 0,_=>some []
 | n+1,i=>(zcV s (i+1)).bind fun a=>(zxT s n (i+1)).bind fun l=>some (a.1::l)
def zvw (s:za):Option zD:=bif decide (s.Ws.length<1000000)&&decide (s.Ms.length<1000000) then (zch s).bind fun a=>(zyh s s.Ws.length 0).bind fun b=>(zxT s s.Ms.length 0).bind fun c=>some (a.1::(b++c)) else none
def zKq (x:HL E.T (lvs 12)):Option zD:=zvw (E.pack 12 x)
def znu:zZ E:=lo [0,1,12,13] ⟨[.yld,.ptr 0,vI,vI],[.box true (L 12)]⟩ 0 [0,1] ⟨[.yld,.ptr 0],[.box true (L 12)]⟩ [0] ⟨[.yld],[]⟩ [oI,oI,oI,oI,.str 12] [oI,oI,.str 12] [oI,oI]
def znp:zZ E:=lo [0,1,26,27] ⟨[.yld,.ptr 0,vI,vI],[.box true (L 12)]⟩ 2 [0] ⟨[.yld],[]⟩ [0] ⟨[.yld],[]⟩ [oI,oI,oI,oI,.str 12] [oI,oI] [oI,oI]
def zvB:Cfg E:=cf [(151,[zmI]),(152,[zjD]),(153,[zhz])] [(2,znu),(7,znp)] [] [] [] []
def Xb (ys:zD):Cfg E:={zvB with yl:=true,ye:=z7,yd:=ys}
def zc6:wo:=⟨[.ptr 0],[.box true (L 12)]⟩
def zcr:Z2 E:={inn:=zc6,e:=z7,F:=fun x=>zKq x}
def zsG (a1:Int) (a2:Int) (a3:Int) (a4:Int) (a5:Int) (a6:Int) (a7:Int) (a8:Int) (a9:Int) (a10:zD) (a11:zB) (a12:zD) (a13:List (List zE)) (a14:List zk) (a15:Int) (a16:zD) (a17:List zB) (a18:zD) (a19:zB) (a20:zB) (a21:Int) (a22:Int) (a23:Bool) (a24:Bool) (a25:Int) (a26:zy) (a27:Int) (a28:Int) (a29:Int) (a30:zy) (a31:List zj) (a32:List ze) (a33:Int) (a34:Int):Option zD:=zcr.F (a1,a2,a3,a4,a5,a6,a7,a8,a9,a10,a11,a12,a13,a14,a15,a16,a17,a18,a19,a20,a21,a22,a23,a24,a25,a26,a27,a28,a29,a30,a31,a32,a33,a34,())
def Ue (ys:zD) (x:Int×Int×Int×Int×za×Unit):Option (yM (Int×Int×Int×Int×za×Unit) (Int×Int×za×Unit) (Int×Int×Unit)):=yo (Xb ys) (exec (Xb ys) (yC Tryz.f150 2)) 38 znu x
def zbX (ys:zD) (x:Int×Int×Int×Int×za×Unit):Option (yM (Int×Int×Int×Int×za×Unit) (Int×Int×Unit) (Int×Int×Unit)):=yo (Xb ys) (exec (Xb ys) (yC Tryz.f150 7)) 38 znp x
def zpb:zZ E:=lo [3] ⟨[.ptr 0],[.box true [.own 1],.row true zo]⟩ 0 [] ⟨[],[]⟩ [] ⟨[],[]⟩ [oL] [] []
def zd6:Cfg E:=cf [(97,[zp7]),(98,[zr6])] [(3,zpb)] [] [] [] [(150,zcr)]
def zd2:zK E:=sp zd6 Tryz.f57 ⟨[.val (.named 12)],[]⟩ ⟨[.own 0],[.row true zo]⟩ [.one (.named 12)] [oL]
def zbz (a1:za):Option (zy×Unit):=zd2.F (a1,())
def zcZ (y:zy) (x:zy×Unit):Option (zy×Unit):=zl9 zd6 (exec zd6 (zGY Tryz.f57 3)) (exec zd6 (zA6 Tryz.f57 3)) 12 zpb 7 z7 y x
def zzu:Cfg E:=cf1 [(52,[zcA]),(56,[zqQ]),(57,[zd2])]
def zic:zK E:=sp zzu Tryz.f15 ⟨[.val (.named 12)],[]⟩ ⟨[vB],[]⟩ [.one (.named 12)] [oB]
def zbu (a1:za):Option (Bool×Unit):=zic.F (a1,())
def zzG:Cfg E:=cf1 [(148,[zjj])]
def zou:zK E:=sp zzG Tryz.f99 ⟨[.val (.named 6)],[]⟩ ⟨[vI],[]⟩ [.one (.named 6)] [oI]
def zox (a1:zJ):Option (Int×Unit):=zou.F (a1,())
def zpe:zZ E:=lo [1,3,11,12,13] ⟨[.ptr 0,vI,.own 1,vI,vI],[.box true (L 12),.row true (.named 6)]⟩ 0 [1,3] ⟨[.ptr 0,vI],[.box true (L 12)]⟩ [] ⟨[],[]⟩ [oI,oI,oI,.str 12,.one (.slice (.named 6))] [oI,.str 12] []
def zpK:zZ E:=lo [1,3,23,24,25] ⟨[.ptr 0,vI,.val (.slice (.named 7)),vI,vI],[.box true (L 12)]⟩ 2 [1,3] ⟨[.ptr 0,vI],[.box true (L 12)]⟩ [] ⟨[],[]⟩ [oI,.one (.slice (.named 7)),oI,oI,.str 12] [oI,.str 12] []
def znN:zZ E:=lo [3,36,37,38] ⟨[vI,.val (.slice (.named 8)),vI,vI],[]⟩ 4 [3] ⟨[vI],[]⟩ [] ⟨[],[]⟩ [oI,.one (.slice (.named 8)),oI,oI] [oI] []
def XV:Cfg E:=cf [(92,[zbT]),(99,[zou])] [(3,zpe),(8,zpK),(14,znN)] [] [] [] []
def zop:zK E:=sp XV Tryz.f58 ⟨[.val (.named 12)],[]⟩ ⟨[vI],[]⟩ [.one (.named 12)] [oI]
def zoJ (a1:za):Option (Int×Unit):=zop.F (a1,())
def zao (x:Int×Int×Int×za×(List zJ)×Unit):Option (yM (Int×Int×Int×za×(List zJ)×Unit) (Int×za×Unit) (Unit)):=yo XV (exec XV (yC Tryz.f58 3)) 49 zpe x
def zak (x:Int×(List zj)×Int×Int×za×Unit):Option (yM (Int×(List zj)×Int×Int×za×Unit) (Int×za×Unit) (Unit)):=yo XV (exec XV (yC Tryz.f58 8)) 49 zpK x
def Uh (x:Int×(List ze)×Int×Int×Unit):Option (yM (Int×(List ze)×Int×Int×Unit) (Int×Unit) (Unit)):=yo XV (exec XV (yC Tryz.f58 14)) 49 znN x
def zvE:Cfg E:=cf1 [(57,[zd2]),(58,[zop])]
def zd8:zK E:=sp zvE Tryz.f16 ⟨[.val (.named 12)],[]⟩ ⟨[vB],[]⟩ [.one (.named 12)] [oB]
def VR (a1:za):Option (Bool×Unit):=zd8.F (a1,())
def zgH:zZ E:=lo [3,6,7] ⟨[vU,.val (.arr 64 zo),vI],[]⟩ 0 [3] ⟨[vU],[]⟩ [] ⟨[],[]⟩ [oU,.one (.arr 64 zo),oI] [oU] []
def zcj:Cfg E:=cf [(22,[zaI])] [(3,zgH)] [] [] [] []
def zet:zK E:=sp zcj Tryz.f100 ⟨[.val (.arr 64 zo)],[]⟩ ⟨[vU],[]⟩ [.one (.arr 64 zo)] [oU]
def zel (a1:zy):Option (zB×Unit):=zet.F (a1,())
def zbJ (x:zB×zy×Int×Unit):Option (yM (zB×zy×Int×Unit) (zB×Unit) (Unit)):=yo zcj (exec zcj (yC Tryz.f100 3)) 19 zgH x
def zuH:Cfg E:=cf1 []
def zgX:zK E:=sp zuH Tryz.f102 ⟨[vI],[]⟩ ⟨[vB],[]⟩ [oI] [oB]
def zpy (a1:Int):Option (Bool×Unit):=zgX.F (a1,())
def Vz:zZ E:=lo [2,3,6,7,8,9,23,24,25] ⟨[.fn 102 [],.ptr 0,.aptr zo 1,.aptr zo 2,vU,.own 3,.own 3,vI,vI],[.box true [vI,.val zQ],.row true zo,.row true zo,.row true zo]⟩ 0 [2,3,6,7,8,9] ⟨[.fn 102 [],.ptr 0,.aptr zo 1,.aptr zo 2,vU,.own 3],[.box true [vI,.val zQ],.row true zo,.row true zo,.row true zo]⟩ [] ⟨[],[]⟩ [oU,oI,oI,.str 2,oL,oL,oL] [oU,.str 2,oL,oL,oL] []
def Vy:zZ E:=lo [2,3,6,7,8,9] ⟨[.fn 102 [],.ptr 0,.aptr zo 1,.aptr zo 2,vU,.own 3],[.box true [vI,.val zQ],.row true zo,.row true zo,.row true zo]⟩ 2 [6,7] ⟨[.aptr zo 0,.aptr zo 1],[.row true zo,.row true zo]⟩ [] ⟨[],[]⟩ [oU,.str 2,oL,oL,oL] [oL,oL] []
def WZ:zZ E:=lo [2,3,6,7,8,9,12,50,51,52] ⟨[.fn 102 [],.ptr 0,.aptr zo 1,.aptr zo 2,vU,.own 3,vI,vL,vI,vI],[.box true [vI,.val zQ],.row true zo,.row true zo,.row true zo]⟩ 4 [2,3,6,7,8,9] ⟨[.fn 102 [],.ptr 0,.aptr zo 1,.aptr zo 2,vU,.own 3],[.box true [vI,.val zQ],.row true zo,.row true zo,.row true zo]⟩ [] ⟨[],[]⟩ [oU,oI,oL,oI,oI,.str 2,oL,oL,oL] [oU,.str 2,oL,oL,oL] []
def xJ:Cfg E:=cf [(35,[zk5]),(50,[zeT]),(54,[UF]),(102,[zgX])] [(5,Vz),(9,Vy),(14,WZ)] [(10,1)] [] [] []
def Xd:zK E:=sp xJ Tryz.f101 ⟨[.val (.named 2),vU,.fn 102 []],[]⟩ ⟨[.val (.arr 64 zo)],[]⟩ [.one (.named 2),oU] [.one (.arr 64 zo)]
def Y6 (a1:zr) (a2:zB):Option (zy×Unit):=Xd.F (a1,a2,())
def Yq (x:zB×Int×Int×zr×zy×zy×zy×Unit):Option (yM (zB×Int×Int×zr×zy×zy×zy×Unit) (zB×zr×zy×zy×zy×Unit) (Unit)):=yo xJ (exec xJ (yC Tryz.f101 5)) 80 Vz x
def Yp (x:zB×zr×zy×zy×zy×Unit):Option (yM (zB×zr×zy×zy×zy×Unit) (zy×zy×Unit) (Unit)):=yo xJ (exec xJ (yC Tryz.f101 9)) 80 Vy x
def ug (x:zB×Int×zy×Int×Int×zr×zy×zy×zy×Unit):Option (yM (zB×Int×zy×Int×Int×zr×zy×zy×zy×Unit) (zB×zr×zy×zy×zy×Unit) (Unit)):=yo xJ (exec xJ (yC Tryz.f101 14)) 80 WZ x
def zyA:Cfg E:=cf1 [(100,[zet]),(101,[Xd])]
def zcB:zK E:=sp zyA Tryz.f59 ⟨[.val (.named 2),vU],[]⟩ ⟨[vU],[]⟩ [.one (.named 2),oU] [oU]
def Vj (a1:zr) (a2:zB):Option (zB×Unit):=zcB.F (a1,a2,())
def zzO:Cfg E:=cf1 [(25,[zf2]),(59,[zcB])]
def zh7:zK E:=sp zzO Tryz.f61 ⟨[.val (.named 3)],[]⟩ ⟨[vU],[]⟩ [.one (.named 3)] [oU]
def zh1 (a1:zd):Option (zB×Unit):=zh7.F (a1,())
def zzW:Cfg E:=cf1 [(51,[zam]),(52,[zcA]),(59,[zcB]),(60,[UI]),(61,[zh7])]
def zh9:zK E:=sp zzW Tryz.f17 ⟨[.val (.named 12)],[]⟩ ⟨[vB],[]⟩ [.one (.named 12)] [oB]
def zbB (a1:za):Option (Bool×Unit):=zh9.F (a1,())
def zCB:Cfg E:=cf1 [(54,[UF])]
def znZ:zK E:=sp zCB Tryz.f55 ⟨[.val (.named 12)],[]⟩ ⟨[vU],[]⟩ [.one (.named 12)] [oU]
def zn3 (a1:za):Option (zB×Unit):=znZ.F (a1,())
def zzY:Cfg E:=cf1 [(54,[UF]),(55,[znZ])]
def zdP:zK E:=sp zzY Tryz.f14 ⟨[.val (.named 12)],[]⟩ ⟨[vU],[]⟩ [.one (.named 12)] [oU]
def zbA (a1:za):Option (zB×Unit):=zdP.F (a1,())
def zx3:Cfg E:=cf1 [(54,[UF]),(60,[UI])]
def zlr:zK E:=sp zx3 Tryz.f62 ⟨[.val (.named 9),vI],[]⟩ ⟨[vB],[]⟩ [.one (.named 9),oI] [oB]
def zsp (a1:zn) (a2:Int):Option (Bool×Unit):=zlr.F (a1,a2,())
def zvX:Cfg E:=cf1 [(14,[zdP]),(60,[UI]),(61,[zh7]),(62,[zlr])]
def zd5:zK E:=sp zvX Tryz.f18 ⟨[.val (.named 12)],[]⟩ ⟨[vB],[]⟩ [.one (.named 12)] [oB]
def VT (a1:za):Option (Bool×Unit):=zd5.F (a1,())
def zkp:zZ E:=lo [1,3,36,37,38] ⟨[.ptr 0,vI,vL,vI,vI],[.box true (L 10)]⟩ 0 [1,3] ⟨[.ptr 0,vI],[.box true (L 10)]⟩ [2] ⟨[vB],[]⟩ [oI,oL,oI,oI,.str 10] [oI,.str 10] [oB]
def zew:Cfg E:=cf [] [(5,zkp)] [] [] [] []
def zha:zK E:=sp zew Tryz.f64 ⟨[.val (.named 10)],[]⟩ ⟨[vB],[]⟩ [.one (.named 10)] [oB]
def zgO (a1:zx):Option (Bool×Unit):=zha.F (a1,())
def Wh (x:Int×zy×Int×Int×zx×Unit):Option (yM (Int×zy×Int×Int×zx×Unit) (Int×zx×Unit) (Bool×Unit)):=yo zew (exec zew (yC Tryz.f64 5)) 56 zkp x
def zxZ:Cfg E:=cf1 []
def zmd:zK E:=sp zxZ Tryz.f63 ⟨[vI,.ptr 0],[.box false (L 12)]⟩ ⟨[vB],[.gone]⟩ [oI,.str 12] [oB]
def zsd (a1:Int) (a2:za):Option (Bool×Unit):=zmd.F (a1,a2,())
def Zb:zZ E:=lo [0,1,7,8] ⟨[vL,.fn 63 [.ptr 1],vI,vI],[.gone,.box false (L 12)]⟩ 0 [] ⟨[],[.gone]⟩ [4] ⟨[vI],[.gone]⟩ [oL,oI,oI,.str 12] [] [oI]
def wV:Cfg E:=cf [(63,[zmd])] [(2,Zb)] [] [] [] []
def vk:zK E:=sp wV Tryz.f103 ⟨[vL,.fn 63 [.ptr 0]],[.box false (L 12)]⟩ ⟨[vI],[.gone]⟩ [oL,.str 12] [oI]
def ZH (a1:zy) (a2:za):Option (Int×Unit):=vk.F (a1,a2,())
def yU (x:zy×Int×Int×za×Unit):Option (yM (zy×Int×Int×za×Unit) (Unit) (Int×Unit)):=yo wV (exec wV (yC Tryz.f103 2)) 19 Zb x
def WD:Cfg E:=cf1 [(103,[vk])]
def wR:zK E:=sp WD Tryz.f65 ⟨[vL,.fn 63 [.ptr 0]],[.box false (L 12)]⟩ ⟨[vB],[.gone]⟩ [oL,.str 12] [oB]
def wP (a1:zy) (a2:za):Option (Bool×Unit):=wR.F (a1,a2,())
def zBc:Cfg E:=cf1 [(14,[zdP]),(26,[zdH]),(55,[znZ]),(64,[zha]),(65,[wR])]
def zk7:zK E:=sp zBc Tryz.f19 ⟨[.val (.named 12)],[]⟩ ⟨[vB],[]⟩ [.one (.named 12)] [oB]
def zcL (a1:za):Option (Bool×Unit):=zk7.F (a1,())
def zuo:Cfg E:=cf1 []
def zhO:zK E:=sp zuo Tryz.f104 ⟨[.val (.named 7)],[]⟩ ⟨[vB],[]⟩ [.one (.named 7)] [oB]
def zph (a1:zj):Option (Bool×Unit):=zhO.F (a1,())
def wM:zZ E:=lo [0,1,7,8] ⟨[.val (.slice (.named 7)),.fn 104 [],vI,vI],[]⟩ 0 [] ⟨[],[]⟩ [4] ⟨[vI],[]⟩ [.one (.slice (.named 7)),oI,oI] [] [oI]
def xE:Cfg E:=cf [(104,[zhO])] [(2,wM)] [] [] [] []
def xI:zK E:=sp xE Tryz.f156 ⟨[.val (.slice (.named 7)),.fn 104 []],[]⟩ ⟨[vI],[]⟩ [.one (.slice (.named 7))] [oI]
def vf (a1:List zj):Option (Int×Unit):=xI.F (a1,())
def wS (x:(List zj)×Int×Int×Unit):Option (yM ((List zj)×Int×Int×Unit) (Unit) (Int×Unit)):=yo xE (exec xE (yC Tryz.f156 2)) 19 wM x
def ZS:Cfg E:=cf1 [(156,[xI])]
def xA:zK E:=sp ZS Tryz.f106 ⟨[.val (.slice (.named 7)),.fn 104 []],[]⟩ ⟨[vB],[]⟩ [.one (.slice (.named 7))] [oB]
def wO (a1:List zj):Option (Bool×Unit):=xA.F (a1,())
def zuP:Cfg E:=cf1 []
def zhM:zK E:=sp zuP Tryz.f105 ⟨[.val (.named 8)],[]⟩ ⟨[vB],[]⟩ [.one (.named 8)] [oB]
def zpu (a1:ze):Option (Bool×Unit):=zhM.F (a1,())
def wA:zZ E:=lo [0,1,7,8] ⟨[.val (.slice (.named 8)),.fn 105 [],vI,vI],[]⟩ 0 [] ⟨[],[]⟩ [4] ⟨[vI],[]⟩ [.one (.slice (.named 8)),oI,oI] [] [oI]
def xw:Cfg E:=cf [(105,[zhM])] [(2,wA)] [] [] [] []
def xD:zK E:=sp xw Tryz.f157 ⟨[.val (.slice (.named 8)),.fn 105 []],[]⟩ ⟨[vI],[]⟩ [.one (.slice (.named 8))] [oI]
def wU (a1:List ze):Option (Int×Unit):=xD.F (a1,())
def wC (x:(List ze)×Int×Int×Unit):Option (yM ((List ze)×Int×Int×Unit) (Unit) (Int×Unit)):=yo xw (exec xw (yC Tryz.f157 2)) 19 wA x
def ZA:Cfg E:=cf1 [(157,[xD])]
def xt:zK E:=sp ZA Tryz.f107 ⟨[.val (.slice (.named 8)),.fn 105 []],[]⟩ ⟨[vB],[]⟩ [.one (.slice (.named 8))] [oB]
def wB (a1:List ze):Option (Bool×Unit):=xt.F (a1,())
def zxU:Cfg E:=cf1 [(57,[zd2]),(106,[xA]),(107,[xt])]
def zlz:zK E:=sp zxU Tryz.f66 ⟨[.val (.named 12)],[]⟩ ⟨[vB],[]⟩ [.one (.named 12)] [oB]
def zrv (a1:za):Option (Bool×Unit):=zlz.F (a1,())
def zpA:zZ E:=lo [3,7,8,9] ⟨[vU,.val (.slice (.named 8)),vI,vI],[]⟩ 0 [3] ⟨[vU],[]⟩ [] ⟨[],[]⟩ [oU,.one (.slice (.named 8)),oI,oI] [oU] []
def zjH:Cfg E:=cf [(75,[zho])] [(3,zpA)] [] [] [] []
def zoK:zK E:=sp zjH Tryz.f108 ⟨[.val (.named 12)],[]⟩ ⟨[vU],[]⟩ [.one (.named 12)] [oU]
def zt9 (a1:za):Option (zB×Unit):=zoK.F (a1,())
def zpc (x:zB×(List ze)×Int×Int×Unit):Option (yM (zB×(List ze)×Int×Int×Unit) (zB×Unit) (Unit)):=yo zjH (exec zjH (yC Tryz.f108 3)) 20 zpA x
def zzV:Cfg E:=cf1 [(59,[zcB]),(108,[zoK])]
def zoa:zK E:=sp zzV Tryz.f67 ⟨[.val (.named 12)],[]⟩ ⟨[vU],[]⟩ [.one (.named 12)] [oU]
def ztU (a1:za):Option (zB×Unit):=zoa.F (a1,())
def zzU:Cfg E:=cf1 [(51,[zam]),(60,[UI]),(66,[zlz]),(67,[zoa])]
def zia:zK E:=sp zzU Tryz.f20 ⟨[.val (.named 12)],[]⟩ ⟨[vB],[]⟩ [.one (.named 12)] [oB]
def zbx (a1:za):Option (Bool×Unit):=zia.F (a1,())
def zo6:zZ E:=lo [1,5,6] ⟨[.ptr 0,.fns [15,16,17,18,19,20],vI],[.box true (L 12)]⟩ 0 [1] ⟨[.ptr 0],[.box true (L 12)]⟩ [2] ⟨[vB],[]⟩ [oI,.str 12] [.str 12] [oB]
def zjM:Cfg E:=cf [(15,[zic]),(16,[zd8]),(17,[zh9]),(18,[zd5]),(19,[zk7]),(20,[zia]),(53,[zck])] [(2,zo6)] [] [] [] []
def zoz:zK E:=sp zjM Tryz.f13 ⟨[.val (.named 12)],[]⟩ ⟨[vB],[]⟩ [.one (.named 12)] [oB]
def zdB (a1:za):Option (Bool×Unit):=zoz.F (a1,())
def uv (x:Int×za×Unit):Option (yM (Int×za×Unit) (za×Unit) (Bool×Unit)):=yo zjM (exec zjM (yC Tryz.f13 2)) 17 zo6 x
def zmP:Cfg E:=cf1 [(6,[zhZ]),(9,[zfH]),(10,[zib]),(11,[zb7]),(12,[zlM]),(13,[zoz]),(14,[zdP]),(15,[zic]),(16,[zd8]),(17,[zh9]),(18,[zd5]),(19,[zk7]),(20,[zia])]
def U5:zK E:=sp zmP Tryz.f4 ⟨[],[]⟩ ⟨[vB],[]⟩ [] [oB]
def zab:Option (Bool×Unit):=U5.F (())
def zhP:Cfg E:=cf [] [] [] [(0,some 0)] [] []
def ZV:zK E:=sp zhP Tryz.f21 ⟨[.ptr 0],[.box true [.val (.slice (.int .u8)),vI]]⟩ ⟨[vI],[.box true [.val (.slice (.int .u8)),vI]]⟩ [.str 17] [oI,.str 17]
def zT (a1:zY):Option (Int×zY×Unit):=ZV.F (a1,())
def zjN:Cfg E:=cf [(21,[ZV])] [] [] [(0,some 0)] [] []
def WV:zK E:=sp zjN Tryz.f23 ⟨[.ptr 0,vI,vI],[.box true [.val (.slice (.int .u8)),vI]]⟩ ⟨[.val (.named 0)],[.box true [.val (.slice (.int .u8)),vI]]⟩ [oI,oI,.str 17] [.one (.named 0),.str 17]
def Vd (a1:Int) (a2:Int) (a3:zY):Option (zE×zY×Unit):=WV.F (a1,a2,a3,())
def zfz:zZ E:=lo [2,3,4,5,6] ⟨[.ptr 0,.ptr 1,.ptr 2,vI,vI],[.box true (L 0++L 0++[vI,.own 3,vU,.own 4,.own 5,.own 6]),.box true [.val (.slice (.int .u8)),vI],.box true (L 0++L 0++[vI,.own 7,vU,.own 8,.own 9,.own 10]),.row true z7,.row true z7,.row true (.slice (.named 0)),.row true (.named 1),.row true z7,.row true z7,.row true (.slice (.named 0)),.row true (.named 1)]⟩ 0 [2,3,4,5] ⟨[.ptr 0,.ptr 1,.ptr 2,vI],[.box true (L 0++L 0++[vI,.own 3,vU,.own 4,.own 5,.own 6]),.box true [.val (.slice (.int .u8)),vI],.box true (L 0++L 0++[vI,.own 7,vU,.own 8,.own 9,.own 10]),.row true z7,.row true z7,.row true (.slice (.named 0)),.row true (.named 1),.row true z7,.row true z7,.row true (.slice (.named 0)),.row true (.named 1)]⟩ [] ⟨[],[]⟩ [oI,oI,oI,oI,oI,oI,oI,oI,oI,oI,oI,oU,.str 17,oI,oI,oI,oI,oI,oI,oI,oI,oI,oU,.one zQ,.one zQ,.one (.slice (.slice (.named 0))),.one (.slice (.named 1)),.one zQ,.one zQ,.one (.slice (.slice (.named 0))),.one (.slice (.named 1))] [oI,oI,oI,oI,oI,oI,oI,oI,oI,oI,oU,.str 17,oI,oI,oI,oI,oI,oI,oI,oI,oI,oU,.one zQ,.one zQ,.one (.slice (.slice (.named 0))),.one (.slice (.named 1)),.one zQ,.one zQ,.one (.slice (.slice (.named 0))),.one (.slice (.named 1))] []
def zeD:zZ E:=lo [2,3,4,5,6,7,8] ⟨[.ptr 0,.ptr 1,.ptr 2,vI,vI,.own 3,vI],[.box true (L 0++L 0++[vI,.own 4,vU,.own 5,.own 6,.own 7]),.box true [.val (.slice (.int .u8)),vI],.box true (L 0++L 0++[vI,.own 8,vU,.own 9,.own 10,.own 11]),.row true zo,.row true z7,.row true z7,.row true (.slice (.named 0)),.row true (.named 1),.row true z7,.row true z7,.row true (.slice (.named 0)),.row true (.named 1)]⟩ 2 [2,3,4,5,6,7] ⟨[.ptr 0,.ptr 1,.ptr 2,vI,vI,.own 3],[.box true (L 0++L 0++[vI,.own 4,vU,.own 5,.own 6,.own 7]),.box true [.val (.slice (.int .u8)),vI],.box true (L 0++L 0++[vI,.own 8,vU,.own 9,.own 10,.own 11]),.row true zo,.row true z7,.row true z7,.row true (.slice (.named 0)),.row true (.named 1),.row true z7,.row true z7,.row true (.slice (.named 0)),.row true (.named 1)]⟩ [] ⟨[],[]⟩ [oI,oI,oI,oI,oI,oI,oI,oI,oI,oI,oI,oI,oU,.str 17,oI,oI,oI,oI,oI,oI,oI,oI,oI,oU,oL,.one zQ,.one zQ,.one (.slice (.slice (.named 0))),.one (.slice (.named 1)),.one zQ,.one zQ,.one (.slice (.slice (.named 0))),.one (.slice (.named 1))] [oI,oI,oI,oI,oI,oI,oI,oI,oI,oI,oI,oU,.str 17,oI,oI,oI,oI,oI,oI,oI,oI,oI,oU,oL,.one zQ,.one zQ,.one (.slice (.slice (.named 0))),.one (.slice (.named 1)),.one zQ,.one zQ,.one (.slice (.slice (.named 0))),.one (.slice (.named 1))] []
def zeP:zZ E:=lo [2,3,4,5,9] ⟨[.ptr 0,.ptr 1,.ptr 2,vI,vI],[.box true (L 0++L 0++[vI,.own 3,vU,.own 4,.own 5,.own 6]),.box true [.val (.slice (.int .u8)),vI],.box true (L 0++L 0++[vI,.own 7,vU,.own 8,.own 9,.own 10]),.row true z7,.row true z7,.row true (.slice (.named 0)),.row true (.named 1),.row true z7,.row true z7,.row true (.slice (.named 0)),.row true (.named 1)]⟩ 4 [2,4] ⟨[.ptr 0,.ptr 1],[.box true (L 0++L 0++[vI,.own 2,vU,.own 3,.own 4,.own 5]),.box true (L 0++L 0++[vI,.own 6,vU,.own 7,.own 8,.own 9]),.row true z7,.row true z7,.row true (.slice (.named 0)),.row true (.named 1),.row true z7,.row true z7,.row true (.slice (.named 0)),.row true (.named 1)]⟩ [] ⟨[],[]⟩ [oI,oI,oI,oI,oI,oI,oI,oI,oI,oI,oI,oU,.str 17,oI,oI,oI,oI,oI,oI,oI,oI,oI,oU,.one zQ,.one zQ,.one (.slice (.slice (.named 0))),.one (.slice (.named 1)),.one zQ,.one zQ,.one (.slice (.slice (.named 0))),.one (.slice (.named 1))] [oI,oI,oI,oI,oI,oI,oI,oI,oI,oU,oI,oI,oI,oI,oI,oI,oI,oI,oI,oU,.one zQ,.one zQ,.one (.slice (.slice (.named 0))),.one (.slice (.named 1)),.one zQ,.one zQ,.one (.slice (.slice (.named 0))),.one (.slice (.named 1))] []
def zeY:zZ E:=lo [2,3,4,5,9,10,11] ⟨[.ptr 0,.ptr 1,.ptr 2,vI,vI,.own 3,vI],[.box true (L 0++L 0++[vI,.own 4,vU,.own 5,.own 6,.own 7]),.box true [.val (.slice (.int .u8)),vI],.box true (L 0++L 0++[vI,.own 8,vU,.own 9,.own 10,.own 11]),.row true zo,.row true z7,.row true z7,.row true (.slice (.named 0)),.row true (.named 1),.row true z7,.row true z7,.row true (.slice (.named 0)),.row true (.named 1)]⟩ 6 [2,3,4,5,9,10] ⟨[.ptr 0,.ptr 1,.ptr 2,vI,vI,.own 3],[.box true (L 0++L 0++[vI,.own 4,vU,.own 5,.own 6,.own 7]),.box true [.val (.slice (.int .u8)),vI],.box true (L 0++L 0++[vI,.own 8,vU,.own 9,.own 10,.own 11]),.row true zo,.row true z7,.row true z7,.row true (.slice (.named 0)),.row true (.named 1),.row true z7,.row true z7,.row true (.slice (.named 0)),.row true (.named 1)]⟩ [] ⟨[],[]⟩ [oI,oI,oI,oI,oI,oI,oI,oI,oI,oI,oI,oI,oU,.str 17,oI,oI,oI,oI,oI,oI,oI,oI,oI,oU,oL,.one zQ,.one zQ,.one (.slice (.slice (.named 0))),.one (.slice (.named 1)),.one zQ,.one zQ,.one (.slice (.slice (.named 0))),.one (.slice (.named 1))] [oI,oI,oI,oI,oI,oI,oI,oI,oI,oI,oI,oU,.str 17,oI,oI,oI,oI,oI,oI,oI,oI,oI,oU,oL,.one zQ,.one zQ,.one (.slice (.slice (.named 0))),.one (.slice (.named 1)),.one zQ,.one zQ,.one (.slice (.slice (.named 0))),.one (.slice (.named 1))] []
def zeN:zZ E:=lo [2,3,4,5,9,10,12,13] ⟨[.ptr 0,.ptr 1,.ptr 2,vI,vI,.own 3,.own 4,vI],[.box true (L 0++L 0++[vI,.own 5,vU,.own 6,.own 7,.own 8]),.box true [.val (.slice (.int .u8)),vI],.box true (L 0++L 0++[vI,.own 9,vU,.own 10,.own 11,.own 12]),.row true zo,.row true (.named 0),.row true z7,.row true z7,.row true (.slice (.named 0)),.row true (.named 1),.row true z7,.row true z7,.row true (.slice (.named 0)),.row true (.named 1)]⟩ 8 [2,3,4,5,9,10,12] ⟨[.ptr 0,.ptr 1,.ptr 2,vI,vI,.own 3,.own 4],[.box true (L 0++L 0++[vI,.own 5,vU,.own 6,.own 7,.own 8]),.box true [.val (.slice (.int .u8)),vI],.box true (L 0++L 0++[vI,.own 9,vU,.own 10,.own 11,.own 12]),.row true zo,.row true (.named 0),.row true z7,.row true z7,.row true (.slice (.named 0)),.row true (.named 1),.row true z7,.row true z7,.row true (.slice (.named 0)),.row true (.named 1)]⟩ [] ⟨[],[]⟩ [oI,oI,oI,oI,oI,oI,oI,oI,oI,oI,oI,oI,oU,.str 17,oI,oI,oI,oI,oI,oI,oI,oI,oI,oU,oL,.one (.slice (.named 0)),.one zQ,.one zQ,.one (.slice (.slice (.named 0))),.one (.slice (.named 1)),.one zQ,.one zQ,.one (.slice (.slice (.named 0))),.one (.slice (.named 1))] [oI,oI,oI,oI,oI,oI,oI,oI,oI,oI,oI,oU,.str 17,oI,oI,oI,oI,oI,oI,oI,oI,oI,oU,oL,.one (.slice (.named 0)),.one zQ,.one zQ,.one (.slice (.slice (.named 0))),.one (.slice (.named 1)),.one zQ,.one zQ,.one (.slice (.slice (.named 0))),.one (.slice (.named 1))] []
def xS:Cfg E:=cf [(21,[ZV]),(22,[zaI]),(23,[WV])] [(7,zfz),(11,zeD),(17,zeP),(21,zeY),(28,zeN)] [] [] [] []
def zdi:zK E:=sp xS Tryz.f5 ⟨[.val (.slice (.int .u8))],[]⟩ ⟨[.val (.named 3)],[]⟩ [.one (.slice (.int .u8))] [.one (.named 3)]
def zdg (a1:List (BitVec 8)):Option (zd×Unit):=zdi.F (a1,())
def Wt (x:Int×Int×Int×Int×Int×Int×Int×Int×Int×Int×Int×zB×zY×Int×Int×Int×Int×Int×Int×Int×Int×Int×zB×zD×zD×(List (List zE))×(List zk)×zD×zD×(List (List zE))×(List zk)×Unit):Option (yM (Int×Int×Int×Int×Int×Int×Int×Int×Int×Int×Int×zB×zY×Int×Int×Int×Int×Int×Int×Int×Int×Int×zB×zD×zD×(List (List zE))×(List zk)×zD×zD×(List (List zE))×(List zk)×Unit) (Int×Int×Int×Int×Int×Int×Int×Int×Int×Int×zB×zY×Int×Int×Int×Int×Int×Int×Int×Int×Int×zB×zD×zD×(List (List zE))×(List zk)×zD×zD×(List (List zE))×(List zk)×Unit) (Unit)):=yo xS (exec xS (yC Tryz.f5 7)) 154 zfz x
def XK (x:Int×Int×Int×Int×Int×Int×Int×Int×Int×Int×Int×Int×zB×zY×Int×Int×Int×Int×Int×Int×Int×Int×Int×zB×zy×zD×zD×(List (List zE))×(List zk)×zD×zD×(List (List zE))×(List zk)×Unit):Option (yM (Int×Int×Int×Int×Int×Int×Int×Int×Int×Int×Int×Int×zB×zY×Int×Int×Int×Int×Int×Int×Int×Int×Int×zB×zy×zD×zD×(List (List zE))×(List zk)×zD×zD×(List (List zE))×(List zk)×Unit) (Int×Int×Int×Int×Int×Int×Int×Int×Int×Int×Int×zB×zY×Int×Int×Int×Int×Int×Int×Int×Int×Int×zB×zy×zD×zD×(List (List zE))×(List zk)×zD×zD×(List (List zE))×(List zk)×Unit) (Unit)):=yo xS (exec xS (yC Tryz.f5 11)) 154 zeD x
def XL (x:Int×Int×Int×Int×Int×Int×Int×Int×Int×Int×Int×zB×zY×Int×Int×Int×Int×Int×Int×Int×Int×Int×zB×zD×zD×(List (List zE))×(List zk)×zD×zD×(List (List zE))×(List zk)×Unit):Option (yM (Int×Int×Int×Int×Int×Int×Int×Int×Int×Int×Int×zB×zY×Int×Int×Int×Int×Int×Int×Int×Int×Int×zB×zD×zD×(List (List zE))×(List zk)×zD×zD×(List (List zE))×(List zk)×Unit) (Int×Int×Int×Int×Int×Int×Int×Int×Int×zB×Int×Int×Int×Int×Int×Int×Int×Int×Int×zB×zD×zD×(List (List zE))×(List zk)×zD×zD×(List (List zE))×(List zk)×Unit) (Unit)):=yo xS (exec xS (yC Tryz.f5 17)) 154 zeP x
def XF (x:Int×Int×Int×Int×Int×Int×Int×Int×Int×Int×Int×Int×zB×zY×Int×Int×Int×Int×Int×Int×Int×Int×Int×zB×zy×zD×zD×(List (List zE))×(List zk)×zD×zD×(List (List zE))×(List zk)×Unit):Option (yM (Int×Int×Int×Int×Int×Int×Int×Int×Int×Int×Int×Int×zB×zY×Int×Int×Int×Int×Int×Int×Int×Int×Int×zB×zy×zD×zD×(List (List zE))×(List zk)×zD×zD×(List (List zE))×(List zk)×Unit) (Int×Int×Int×Int×Int×Int×Int×Int×Int×Int×Int×zB×zY×Int×Int×Int×Int×Int×Int×Int×Int×Int×zB×zy×zD×zD×(List (List zE))×(List zk)×zD×zD×(List (List zE))×(List zk)×Unit) (Unit)):=yo xS (exec xS (yC Tryz.f5 21)) 154 zeY x
def Z5 (x:Int×Int×Int×Int×Int×Int×Int×Int×Int×Int×Int×Int×zB×zY×Int×Int×Int×Int×Int×Int×Int×Int×Int×zB×zy×(List zE)×zD×zD×(List (List zE))×(List zk)×zD×zD×(List (List zE))×(List zk)×Unit):Option (yM (Int×Int×Int×Int×Int×Int×Int×Int×Int×Int×Int×Int×zB×zY×Int×Int×Int×Int×Int×Int×Int×Int×Int×zB×zy×(List zE)×zD×zD×(List (List zE))×(List zk)×zD×zD×(List (List zE))×(List zk)×Unit) (Int×Int×Int×Int×Int×Int×Int×Int×Int×Int×Int×zB×zY×Int×Int×Int×Int×Int×Int×Int×Int×Int×zB×zy×(List zE)×zD×zD×(List (List zE))×(List zk)×zD×zD×(List (List zE))×(List zk)×Unit) (Unit)):=yo xS (exec xS (yC Tryz.f5 28)) 154 zeN x
def zeO:zZ E:=lo [1,2,3,7,8] ⟨[.val (.slice (.int .u8)),vI,.ptr 0,.own 1,vI],[.box true (L 3),.row true (.named 1)]⟩ 0 [7] ⟨[.own 0],[.row true (.named 1)]⟩ [] ⟨[],[]⟩ [.one (.slice (.int .u8)),oI,oI,.str 3,.one (.slice (.named 1))] [.one (.slice (.named 1))] []
def zd3:zZ E:=lo [1,2,3,7,8,10,11] ⟨[.val (.slice (.int .u8)),vI,.ptr 0,.own 1,vI,.ptr 2,vI],[.box true (L 3),.row true (.named 1),.box true [vI,vI]]⟩ 2 [1,2,3,7,8] ⟨[.val (.slice (.int .u8)),vI,.ptr 0,.own 1,vI],[.box true (L 3),.row true (.named 1)]⟩ [] ⟨[],[]⟩ [.one (.slice (.int .u8)),oI,oI,oI,.str 3,.one (.slice (.named 1)),.str 1] [.one (.slice (.int .u8)),oI,oI,.str 3,.one (.slice (.named 1))] []
def YD:Cfg E:=cf [] [(3,zeO),(12,zd3)] [] [] [] []
def zcv:zK E:=sp YD Tryz.f7 ⟨[.val (.named 3),.val (.slice (.int .u8)),vI],[]⟩ ⟨[.own 0],[.row true (.named 1)]⟩ [.one (.named 3),.one (.slice (.int .u8)),oI] [.one (.slice (.named 1))]
def V0 (a1:zd) (a2:List (BitVec 8)) (a3:Int):Option ((List zk)×Unit):=zcv.F (a1,a2,a3,())
def zax (x:(List (BitVec 8))×Int×Int×zd×(List zk)×Unit):Option (yM ((List (BitVec 8))×Int×Int×zd×(List zk)×Unit) ((List zk)×Unit) (Unit)):=yo YD (exec YD (yC Tryz.f7 3)) 71 zeO x
def uy (x:(List (BitVec 8))×Int×Int×Int×zd×(List zk)×zk×Unit):Option (yM ((List (BitVec 8))×Int×Int×Int×zd×(List zk)×zk×Unit) ((List (BitVec 8))×Int×Int×zd×(List zk)×Unit) (Unit)):=yo YD (exec YD (yC Tryz.f7 12)) 71 zd3 x
def zcG:zZ E:=lo [5,7,22,23,24] ⟨[vB,.ptr 0,.own 1,vI,vI],[.box true (L 12),.row true (.named 1)]⟩ 0 [5] ⟨[vB],[]⟩ [4] ⟨[vB],[]⟩ [oB,oI,oI,.str 12,.one (.slice (.named 1))] [oB] [oB]
def VF:Cfg E:=cf [(4,[U5]),(5,[zdi]),(6,[zhZ]),(7,[zcv]),(8,[zeb]),(9,[zfH]),(10,[zib])] [(7,zcG)] [] [] [] []
def zan:zK E:=sp VF Tryz.f3 ⟨[.val (.slice (.int .u8)),.val (.slice (.int .u8))],[]⟩ ⟨[vB],[]⟩ [.one (.slice (.int .u8)),.one (.slice (.int .u8))] [oB]
def Z6 (a1:List (BitVec 8)) (a2:List (BitVec 8)):Option (Bool×Unit):=zan.F (a1,a2,())
def Zd (x:Bool×Int×Int×za×(List zk)×Unit):Option (yM (Bool×Int×Int×za×(List zk)×Unit) (Bool×Unit) (Bool×Unit)):=yo VF (exec VF (yC Tryz.f3 7)) 94 zcG x
end
end Go.Pe.G
namespace Go.Pe.G
open Go.Pe
theorem zro (a1:Int) (a2:zr):zmj a1 a2 =
 bif decide (a1<0) then
 some (true,())
 else
 some (decide (((a2.Objs.length:Int))<a1),()):=zF
theorem uF (s1:zy) (s2:Int) (s3:Int) (s4:zr):u0 (s1,s2,s3,s4,()) =
 bif decide (s3<s2) then
 (idx s1 s3).bind fun x1 =>
 (zmj x1 s4).bind fun y2 =>
 bif y2.1 then
  some (.ret (s3,()))
 else
  some (.again (s1,s2,w64 (s3+1),s4,()))
 else
 some (.brk (())):=by kernel_rfl
theorem W4 (a1:zy) (a2:zr):ZC a1 a2 =
 (yc u0 (a1,(a1.length:Int),0,a2,())).bind fun st=>match st with
  | .again _=>none
  | .brk y1 =>
  some (-1,())
  | .ret y1 =>
  some (y1.1,()):=zF
theorem Wa (a1:zy) (a2:zr):wQ a1 a2 =
 (ZC a1 a2).bind fun y1 =>
 some (decide (0<=y1.1),()):=zF
theorem ztq (a1:zy) (a2:zr):zps a1 a2 =
 bif !(decide (((a1.length:Int))=a2.Slots)) then
 some (true,())
 else
 (wQ a1 a2).bind fun y1 =>
 some (y1.1,()):=zF
theorem uC (s1:zD) (s2:Int) (s3:Int) (s4:zr):u9 (s1,s2,s3,s4,()) =
 bif decide (s3<s2) then
 (idx s1 s3).bind fun x1 =>
 (zps x1 s4).bind fun y2 =>
 bif y2.1 then
  some (.ret (s3,()))
 else
  some (.again (s1,s2,w64 (s3+1),s4,()))
 else
 some (.brk (())):=by kernel_rfl
theorem WS (a1:zD) (a2:zr):ZG a1 a2 =
 (yc u9 (a1,(a1.length:Int),0,a2,())).bind fun st=>match st with
  | .again _=>none
  | .brk y1 =>
  some (-1,())
  | .ret y1 =>
  some (y1.1,()):=zF
theorem Wg (a1:zD) (a2:zr):wK a1 a2 =
 (ZG a1 a2).bind fun y1 =>
 some (decide (0<=y1.1),()):=zF
theorem znU (a1:zr):Xq a1 =
 bif decide (1<=a1.Slots) then
 bif decide (a1.Slots<=4) then
  bif decide (((a1.Objs.length:Int))<=64) then
  (wK a1.Objs a1).bind fun y1 =>
  some (!y1.1,())
  else
  some (false,())
 else
  some (false,())
 else
 some (false,()):=zF
theorem zxJ (a1:Int):Ut a1 =
 bif decide (a1<1) then
 some (0#64,())
 else
 bif decide ((w64 (64-(bif decide (64<a1) then 64 else a1)))<0) then
  none
 else
  some (18446744073709551615#64 >>> min (w64 (64-(bif decide (64<a1) then 64 else a1))).toNat 64,()):=zF
theorem WN (a1:zB) (a2:zB):WK a1 a2 =
 some (decide ((a1&&& ~~~a2)=0#64),()):=zF
theorem zvh (a1:Int) (a2:Int) (a3:Int):Zh a1 a2 a3 =
 bif decide (a2<=a1) then
 some (decide (a1<=a3),())
 else
 some (false,()):=zF
theorem zql (a1:zd):zdj a1 =
 (Zh a1.Workers 1 16).bind fun y1 =>
 bif y1.1 then
 (Zh a1.Mutators 0 16).bind fun y2 =>
 bif y2.1 then
  (Zh a1.Cap 1 16).bind fun y3 =>
  bif y3.1 then
  (Zh a1.Buf 1 8).bind fun y4 =>
  bif y4.1 then
   (Zh a1.Bin 1 8).bind fun y5 =>
   bif y5.1 then
   bif decide (0<=(bif decide (a1.Limit<a1.Price) then a1.Limit else a1.Price)) then
    some (decide ((bif decide (a1.Price<a1.Limit) then a1.Limit else a1.Price)<=1000000),())
   else
    some (false,())
   else
   some (false,())
  else
   some (false,())
  else
  some (false,())
 else
  some (false,())
 else
 some (false,()):=zF
theorem ztG (a1:Int) (a2:Int):zo5 a1 a2 =
 (Zh a1 0 a2).bind fun y1 =>
 some (!y1.1,()):=zF
theorem uM (s1:zy) (s2:Int) (s3:Int) (s4:Int):Zv (s1,s2,s3,s4,()) =
 bif decide (s3<s2) then
 (idx s1 s3).bind fun x1 =>
 (zo5 x1 s4).bind fun y2 =>
 bif y2.1 then
  some (.ret (s3,()))
 else
  some (.again (s1,s2,w64 (s3+1),s4,()))
 else
 some (.brk (())):=by kernel_rfl
theorem VB (a1:zy) (a2:Int):ZZ a1 a2 =
 (yc Zv (a1,(a1.length:Int),0,a2,())).bind fun st=>match st with
  | .again _=>none
  | .brk y1 =>
  some (-1,())
  | .ret y1 =>
  some (y1.1,()):=zF
theorem WP (a1:zy) (a2:Int):va a1 a2 =
 (ZZ a1 a2).bind fun y1 =>
 some (decide (0<=y1.1),()):=zF
theorem ztL (a1:Int) (a2:Int):yv a1 a2 =
 bif decide (0<=a1) then
 some (decide (a1<(bif decide (4<a2) then 4 else a2)),())
 else
 some (false,()):=zF
theorem zwo (a1:zE) (a2:Int) (a3:Int):zlw a1 a2 a3 =
 bif decide (0<=a1.S) then
 bif decide (a1.Kind=1) then
  bif decide (a1.Kind=1) then
  (yv a1.R a2).bind fun y1 =>
  bif y1.1 then
   (yv a1.A a2).bind fun y2 =>
   bif y2.1 then
   some (decide (a1.S<(bif decide (4<a3) then 4 else a3)),())
   else
   some (false,())
  else
   some (false,())
  else
  bif decide (a1.Kind=4) then
   (yv a1.R a2).bind fun y3 =>
   bif y3.1 then
   (yv a1.A a2).bind fun y4 =>
   bif y4.1 then
    some (decide (a1.S=0),())
   else
    some (false,())
   else
   some (false,())
  else
   bif decide (a1.Kind=3) then
   bif decide (a1.Kind=3) then
    (yv a1.R a2).bind fun y5 =>
    bif y5.1 then
    bif decide (a1.A=0) then
     some (decide (a1.S=0),())
    else
     some (false,())
    else
    some (false,())
   else
    some (false,())
   else
   bif decide (a1.Kind=5) then
    (yv a1.R a2).bind fun y6 =>
    bif y6.1 then
    bif decide (a1.A=0) then
     some (decide (a1.S=0),())
    else
     some (false,())
    else
    some (false,())
   else
    some (false,())
 else
  bif decide (a1.Kind=2) then
  (yv a1.R a2).bind fun y7 =>
  bif y7.1 then
   (yv a1.A a2).bind fun y8 =>
   bif y8.1 then
   some (decide (a1.S<(bif decide (4<a3) then 4 else a3)),())
   else
   some (false,())
  else
   some (false,())
  else
  bif decide (a1.Kind=4) then
   (yv a1.R a2).bind fun y9 =>
   bif y9.1 then
   (yv a1.A a2).bind fun y10 =>
   bif y10.1 then
    some (decide (a1.S=0),())
   else
    some (false,())
   else
   some (false,())
  else
   bif decide (a1.Kind=3) then
   bif decide (a1.Kind=3) then
    (yv a1.R a2).bind fun y11 =>
    bif y11.1 then
    bif decide (a1.A=0) then
     some (decide (a1.S=0),())
    else
     some (false,())
    else
    some (false,())
   else
    some (false,())
   else
   bif decide (a1.Kind=5) then
    (yv a1.R a2).bind fun y12 =>
    bif y12.1 then
    bif decide (a1.A=0) then
     some (decide (a1.S=0),())
    else
     some (false,())
    else
    some (false,())
   else
    some (false,())
 else
 bif decide (a1.Kind=1) then
  bif decide (a1.Kind=1) then
  (yv a1.R a2).bind fun y13 =>
  bif y13.1 then
   (yv a1.A a2).bind fun y14 =>
   bif y14.1 then
   some (false,())
   else
   some (false,())
  else
   some (false,())
  else
  bif decide (a1.Kind=4) then
   (yv a1.R a2).bind fun y15 =>
   bif y15.1 then
   (yv a1.A a2).bind fun y16 =>
   bif y16.1 then
    some (decide (a1.S=0),())
   else
    some (false,())
   else
   some (false,())
  else
   bif decide (a1.Kind=3) then
   bif decide (a1.Kind=3) then
    (yv a1.R a2).bind fun y17 =>
    bif y17.1 then
    bif decide (a1.A=0) then
     some (decide (a1.S=0),())
    else
     some (false,())
    else
    some (false,())
   else
    some (false,())
   else
   bif decide (a1.Kind=5) then
    (yv a1.R a2).bind fun y18 =>
    bif y18.1 then
    bif decide (a1.A=0) then
     some (decide (a1.S=0),())
    else
     some (false,())
    else
    some (false,())
   else
    some (false,())
 else
  bif decide (a1.Kind=2) then
  (yv a1.R a2).bind fun y19 =>
  bif y19.1 then
   (yv a1.A a2).bind fun y20 =>
   bif y20.1 then
   some (false,())
   else
   some (false,())
  else
   some (false,())
  else
  bif decide (a1.Kind=4) then
   (yv a1.R a2).bind fun y21 =>
   bif y21.1 then
   (yv a1.A a2).bind fun y22 =>
   bif y22.1 then
    some (decide (a1.S=0),())
   else
    some (false,())
   else
   some (false,())
  else
   bif decide (a1.Kind=3) then
   bif decide (a1.Kind=3) then
    (yv a1.R a2).bind fun y23 =>
    bif y23.1 then
    bif decide (a1.A=0) then
     some (decide (a1.S=0),())
    else
     some (false,())
    else
    some (false,())
   else
    some (false,())
   else
   bif decide (a1.Kind=5) then
    (yv a1.R a2).bind fun y24 =>
    bif y24.1 then
    bif decide (a1.A=0) then
     some (decide (a1.S=0),())
    else
     some (false,())
    else
    some (false,())
   else
    some (false,()):=zF
theorem zuC (a1:zE) (a2:Int) (a3:Int):zqY a1 a2 a3 =
 (zlw a1 a2 a3).bind fun y1 =>
 some (!y1.1,()):=zF
theorem vH (s1:List zE) (s2:Int) (s3:Int) (s4:Int) (s5:Int):uj (s1,s2,s3,s4,s5,()) =
 bif decide (s3<s2) then
 (idx s1 s3).bind fun x1 =>
 (zqY x1 s4 s5).bind fun y2 =>
 bif y2.1 then
  some (.ret (s3,()))
 else
  some (.again (s1,s2,w64 (s3+1),s4,s5,()))
 else
 some (.brk (())):=by kernel_rfl
theorem XE (a1:List zE) (a2:Int) (a3:Int):uL a1 a2 a3 =
 (yc uj (a1,(a1.length:Int),0,a2,a3,())).bind fun st=>match st with
  | .again _=>none
  | .brk y1 =>
  some (-1,())
  | .ret y1 =>
  some (y1.1,()):=zF
theorem Y4 (a1:List zE) (a2:Int) (a3:Int):ui a1 a2 a3 =
 (uL a1 a2 a3).bind fun y1 =>
 some (decide (0<=y1.1),()):=zF
theorem zxr (a1:List zE) (a2:Int) (a3:Int):zod a1 a2 a3 =
 bif decide (((a1.length:Int))<=64) then
 (ui a1 a2 a3).bind fun y1 =>
 some (!y1.1,())
 else
 some (false,()):=zF
theorem zw5 (a1:zk):zl7 a1 =
 bif decide (a1.Kind=0) then
 some (decide (a1.N=0),())
 else
 bif decide (a1.Kind=1) then
  bif decide (1<=a1.N) then
  some (decide (a1.N<=16),())
  else
  some (false,())
 else
  bif decide (a1.Kind=2) then
  bif decide (1<=a1.N) then
   some (decide (a1.N<=16),())
  else
   some (false,())
  else
  some (false,()):=zF
theorem zGH (a1:zk) (a2:Int) (a3:Int):zo8 a1 a2 a3 =
 (zl7 a1).bind fun y1 =>
 bif !y1.1 then
 some (true,())
 else
 bif decide (a1.Kind=1) then
  some (decide (a2<a1.N),())
 else
  bif decide (a1.Kind=2) then
  some (decide (a3<a1.N),())
  else
  some (decide (0<a1.N),()):=zF
theorem Yu (s1:List zk) (s2:Int) (s3:Int) (s4:Int) (s5:Int):vA (s1,s2,s3,s4,s5,()) =
 bif decide (s3<s2) then
 (idx s1 s3).bind fun x1 =>
 (zo8 x1 s4 s5).bind fun y2 =>
 bif y2.1 then
  some (.ret (s3,()))
 else
  some (.again (s1,s2,w64 (s3+1),s4,s5,()))
 else
 some (.brk (())):=by kernel_rfl
theorem YU (a1:List zk) (a2:Int) (a3:Int):vS a1 a2 a3 =
 (yc vA (a1,(a1.length:Int),0,a2,a3,())).bind fun st=>match st with
  | .again _=>none
  | .brk y1 =>
  some (-1,())
  | .ret y1 =>
  some (y1.1,()):=zF
theorem Yt (a1:List zk) (a2:Int) (a3:Int):vy a1 a2 a3 =
 (vS a1 a2 a3).bind fun y1 =>
 some (decide (0<=y1.1),()):=zF
theorem zwN (a1:List zk) (a2:Int) (a3:Int):zlx a1 a2 a3 =
 (vy a1 a2 a3).bind fun y1 =>
 some (!y1.1,()):=zF
theorem ziG (s1:zD) (s2:Int) (s3:Int) (s4:zd) (s5:Int):znj (s1,s2,s3,s4,s5,()) =
 bif decide (s3<s2) then
 (idx s1 s3).bind fun x1 =>
 (Zh ((x1.length:Int)) 1 4).bind fun y2 =>
 bif !y2.1 then
  some (.ret (false,()))
 else
  (va x1 s5).bind fun y3 =>
  bif y3.1 then
  some (.ret (false,()))
  else
  (idx s4.Progs s3).bind fun x4 =>
  (zod x4 ((x1.length:Int)) s4.H.Slots).bind fun y5 =>
  bif !y5.1 then
   some (.ret (false,()))
  else
   some (.again (s1,s2,w64 (s3+1),s4,s5,()))
 else
 some (.brk (s4,())):=by kernel_rfl
theorem zvx (a1:zd):zlD a1 =
 (zdj a1).bind fun y1 =>
 bif !y1.1 then
 some (false,())
 else
 (Xq a1.H).bind fun y2 =>
 bif !y2.1 then
  some (false,())
 else
  (Zh a1.Most ((a1.H.Objs.length:Int)) 64).bind fun y3 =>
  bif !y3.1 then
  some (false,())
  else
  (Ut ((a1.H.Objs.length:Int))).bind fun y4 =>
  (WK a1.Roots y4.1).bind fun y5 =>
  bif !y5.1 then
   some (false,())
  else
   bif !(decide (((a1.Regs.length:Int))=a1.Mutators)) then
   some (false,())
   else
   bif !(decide (((a1.Progs.length:Int))=a1.Mutators)) then
    some (false,())
   else
    (yc znj (a1.Regs,(a1.Regs.length:Int),0,a1,(a1.H.Objs.length:Int),())).bind fun st=>match st with
     | .again _=>none
     | .brk y6 =>
     bif decide (((y6.1.Picks.length:Int))<=100000) then
     (zlx y6.1.Picks y6.1.Workers y6.1.Mutators).bind fun y7 =>
     some (y7.1,())
     else
     some (false,())
     | .ret y6 =>
     some (y6.1,()):=zF
theorem zB7 (a1:Int):zny a1 =
 bif decide (a1<1) then
 some (0#64,())
 else
 bif decide (64<a1) then
  some (0#64,())
 else
  bif decide ((w64 (a1-1))<0) then
  none
  else
  some (1#64 <<< min (w64 (a1-1)).toNat 64,()):=zF
theorem zBn (a1:zB) (a2:Int):YQ a1 a2 =
 (zny a2).bind fun y1 =>
 some (a1|||y1.1,()):=zF
theorem zxm (s1:zB) (s2:zy) (s3:Int) (s4:Int):zoh (s1,s2,s3,s4,()) =
 bif decide (s4<s3) then
 (idx s2 s4).bind fun x1 =>
 (YQ s1 x1).bind fun y2 =>
 some (.again (y2.1,s2,s3,w64 (s4+1),()))
 else
 some (.brk (s1,())):=by kernel_rfl
theorem zCz (a1:zy):zhx a1 =
 (yc zoh (0#64,a1,(a1.length:Int),0,())).bind fun st=>match st with
  | .again _=>none
  | .brk y1 =>
  some (y1.1,())
  | .ret y1 =>
  none:=zF
theorem zsP (s1:zB) (s2:zD) (s3:Int) (s4:Int):zfx (s1,s2,s3,s4,()) =
 bif decide (s4<s3) then
 (idx s2 s4).bind fun x1 =>
 (zhx x1).bind fun y2 =>
 some (.again (s1|||y2.1,s2,s3,w64 (s4+1),()))
 else
 some (.brk (s1,())):=by kernel_rfl
theorem zwt (a1:zd):zfO a1 =
 (yc zfx (a1.Roots,a1.Regs,(a1.Regs.length:Int),0,())).bind fun st=>match st with
  | .again _=>none
  | .brk y1 =>
  some (y1.1,())
  | .ret y1 =>
  none:=zF
theorem zpi (a1:zB):ziD a1 =
 some (zEz (((((((((((((a1 >>> 1)&&&6148914691236517205#64)+(a1&&&6148914691236517205#64)) >>> 2)&&&3689348814741910323#64)+((((a1 >>> 1)&&&6148914691236517205#64)+(a1&&&6148914691236517205#64))&&&3689348814741910323#64)) >>> 4)+((((((a1 >>> 1)&&&6148914691236517205#64)+(a1&&&6148914691236517205#64)) >>> 2)&&&3689348814741910323#64)+((((a1 >>> 1)&&&6148914691236517205#64)+(a1&&&6148914691236517205#64))&&&3689348814741910323#64)))&&&1085102592571150095#64)+((((((((((a1 >>> 1)&&&6148914691236517205#64)+(a1&&&6148914691236517205#64)) >>> 2)&&&3689348814741910323#64)+((((a1 >>> 1)&&&6148914691236517205#64)+(a1&&&6148914691236517205#64))&&&3689348814741910323#64)) >>> 4)+((((((a1 >>> 1)&&&6148914691236517205#64)+(a1&&&6148914691236517205#64)) >>> 2)&&&3689348814741910323#64)+((((a1 >>> 1)&&&6148914691236517205#64)+(a1&&&6148914691236517205#64))&&&3689348814741910323#64)))&&&1085102592571150095#64) >>> 8))+(((((((((((a1 >>> 1)&&&6148914691236517205#64)+(a1&&&6148914691236517205#64)) >>> 2)&&&3689348814741910323#64)+((((a1 >>> 1)&&&6148914691236517205#64)+(a1&&&6148914691236517205#64))&&&3689348814741910323#64)) >>> 4)+((((((a1 >>> 1)&&&6148914691236517205#64)+(a1&&&6148914691236517205#64)) >>> 2)&&&3689348814741910323#64)+((((a1 >>> 1)&&&6148914691236517205#64)+(a1&&&6148914691236517205#64))&&&3689348814741910323#64)))&&&1085102592571150095#64)+((((((((((a1 >>> 1)&&&6148914691236517205#64)+(a1&&&6148914691236517205#64)) >>> 2)&&&3689348814741910323#64)+((((a1 >>> 1)&&&6148914691236517205#64)+(a1&&&6148914691236517205#64))&&&3689348814741910323#64)) >>> 4)+((((((a1 >>> 1)&&&6148914691236517205#64)+(a1&&&6148914691236517205#64)) >>> 2)&&&3689348814741910323#64)+((((a1 >>> 1)&&&6148914691236517205#64)+(a1&&&6148914691236517205#64))&&&3689348814741910323#64)))&&&1085102592571150095#64) >>> 8)) >>> 16))+((((((((((((a1 >>> 1)&&&6148914691236517205#64)+(a1&&&6148914691236517205#64)) >>> 2)&&&3689348814741910323#64)+((((a1 >>> 1)&&&6148914691236517205#64)+(a1&&&6148914691236517205#64))&&&3689348814741910323#64)) >>> 4)+((((((a1 >>> 1)&&&6148914691236517205#64)+(a1&&&6148914691236517205#64)) >>> 2)&&&3689348814741910323#64)+((((a1 >>> 1)&&&6148914691236517205#64)+(a1&&&6148914691236517205#64))&&&3689348814741910323#64)))&&&1085102592571150095#64)+((((((((((a1 >>> 1)&&&6148914691236517205#64)+(a1&&&6148914691236517205#64)) >>> 2)&&&3689348814741910323#64)+((((a1 >>> 1)&&&6148914691236517205#64)+(a1&&&6148914691236517205#64))&&&3689348814741910323#64)) >>> 4)+((((((a1 >>> 1)&&&6148914691236517205#64)+(a1&&&6148914691236517205#64)) >>> 2)&&&3689348814741910323#64)+((((a1 >>> 1)&&&6148914691236517205#64)+(a1&&&6148914691236517205#64))&&&3689348814741910323#64)))&&&1085102592571150095#64) >>> 8))+(((((((((((a1 >>> 1)&&&6148914691236517205#64)+(a1&&&6148914691236517205#64)) >>> 2)&&&3689348814741910323#64)+((((a1 >>> 1)&&&6148914691236517205#64)+(a1&&&6148914691236517205#64))&&&3689348814741910323#64)) >>> 4)+((((((a1 >>> 1)&&&6148914691236517205#64)+(a1&&&6148914691236517205#64)) >>> 2)&&&3689348814741910323#64)+((((a1 >>> 1)&&&6148914691236517205#64)+(a1&&&6148914691236517205#64))&&&3689348814741910323#64)))&&&1085102592571150095#64)+((((((((((a1 >>> 1)&&&6148914691236517205#64)+(a1&&&6148914691236517205#64)) >>> 2)&&&3689348814741910323#64)+((((a1 >>> 1)&&&6148914691236517205#64)+(a1&&&6148914691236517205#64))&&&3689348814741910323#64)) >>> 4)+((((((a1 >>> 1)&&&6148914691236517205#64)+(a1&&&6148914691236517205#64)) >>> 2)&&&3689348814741910323#64)+((((a1 >>> 1)&&&6148914691236517205#64)+(a1&&&6148914691236517205#64))&&&3689348814741910323#64)))&&&1085102592571150095#64) >>> 8)) >>> 16)) >>> 32)).toInt) 127,()):=zF
theorem zxp (a1:zB):zbv a1 =
 (ziD a1).bind fun y1 =>
 some (y1.1,()):=zF
theorem zwU (a1:Int):zlT a1 =
 bif decide ((bif decide ((bif decide (16<a1) then 16 else a1)<0) then 0 else (bif decide (16<a1) then 16 else a1))=(bif decide ((bif decide (16<a1) then 16 else a1)<0) then 0 else (bif decide (16<a1) then 16 else a1))) then
 (Vn (bif decide ((bif decide (16<a1) then 16 else a1)<0) then 0 else (bif decide (16<a1) then 16 else a1))).bind fun n1 =>
 some (zx.mk 0 0 0 (List.replicate n1 ((0:Int))),())
 else
 none:=zF
theorem zjO (a1:zy):yZ a1 =
 bif a1.isEmpty then
 zlG (
  some (([]:zy),())) (
  (yD (([]:zy)++a1)).bind fun l1 =>
  some (l1,()))
 else
 (yD (([]:zy)++a1)).bind fun l2 =>
 some (l2,()):=zF
theorem Vc (s1:Int) (s2:Int) (s3:zD):xm (s1,s2,s3,()) =
 bif decide (s2<s1) then
 (wg s3 s2).bind fun n1 =>
 (s3[n1]?).bind fun x2 =>
 (yZ x2).bind fun y3 =>
 (wg s3 s2).bind fun n4 =>
 some (.again (s1,w64 (s2+1),s3.set n4 y3.1,()))
 else
 some (.brk (s3,())):=by kernel_rfl
theorem V6 (a1:zD):vQ a1 =
 bif decide (((a1.length:Int))=((a1.length:Int))) then
 (Vn ((a1.length:Int))).bind fun n1 =>
 bif decide (a1.length=((List.replicate n1 ([]:zy)).length)) then
  bif a1.isEmpty then
  (yc xm (((List.replicate n1 ([]:zy)).length:Int),0,List.replicate n1 ([]:zy),())).bind fun st=>match st with
   | .again _=>none
   | .brk y2 =>
   some (y2.1,())
   | .ret y2 =>
   none
  else
  (yc xm ((a1.length:Int),0,a1,())).bind fun st=>match st with
   | .again _=>none
   | .brk y3 =>
   some (y3.1,())
   | .ret y3 =>
   none
 else
  none
 else
 none:=zF
theorem zuD (a1:Int):zjq a1 =
 bif decide ((w64 (2+(bif decide (64<(bif decide (a1<1) then 1 else a1)) then 64 else (bif decide (a1<1) then 1 else a1))))=(w64 (2+(bif decide (64<(bif decide (a1<1) then 1 else a1)) then 64 else (bif decide (a1<1) then 1 else a1))))) then
 (Vn (w64 (2+(bif decide (64<(bif decide (a1<1) then 1 else a1)) then 64 else (bif decide (a1<1) then 1 else a1))))).bind fun n1 =>
 (wg (List.replicate n1 0#64) 0).bind fun n2 =>
 (wg ((List.replicate n1 0#64).set n2 1#64) 1).bind fun n3 =>
 some (((List.replicate n1 0#64).set n2 1#64).set n3 1#64,())
 else
 none:=zF
theorem zaN (a1:Int) (a2:Int) (a3:Int) (a4:Int):zd9 a1 a2 a3 a4 =
 some (zg.mk a1 0 a2 a3 0#64 0#64 a4 0,()):=zF
theorem zu1 (a1:zd) (a2:Int):xG a1 a2 =
 some (w64 ((w64 (a2-1))*(w64 (a1.Cap+2))),()):=zF
theorem zxn (a1:zd):zig a1 =
 some (w64 ((w64 (a1.Most+a1.Workers))+a1.Mutators),()):=zF
theorem zj5 (a1:zy) (a2:Int):zde a1 a2 =
 bif decide (a2<1) then
 none
 else
 some (a1,a2,()):=zF
theorem zra (a1:zB):zwa a1 =
 some (a1,()):=zF
theorem zuu (y:Int) (s1:zy):zjB y (s1,()) =
 (yD (s1++([y]:zy))).bind fun l1 =>
 some (l1,()):=by kernel_rfl
theorem zqZ (a1:zB):zfE a1 =
 (zwa a1).bind fun y1 =>
 (zmE y1.1).bind fun (ys2:zy) =>
 (ZX zjB ys2 (([]:zy),())).bind fun (y3:zy×Unit) =>
 some (y3.1,()):=zF
theorem zzM (a1:zB):zw6 a1 =
 some (a1,true,()):=zF
theorem zzD (a1:zB) (a2:Yf):zwO a1 a2 =
 some (a2.A,true,()):=zF
theorem zzH (a1:zB) (a2:Yf):zvK a1 a2 =
 some (a2.B,decide (a1=a2.A),()):=zF
theorem zI7 (a1:zB) (a2:Yf):zvy a1 a2 =
 some (a1+a2.A,true,()):=zF
theorem zey (a1:List zB):wv a1 =
 bif a1.isEmpty then
 zlG (
  some (([]:List zB),())) (
  (yD ((([]:List zB))++a1)).bind fun l1 =>
  some (l1,()))
 else
 (yD ((([]:List zB))++a1)).bind fun l2 =>
 some (l2,()):=zF
theorem zoP (a1:List zB) (a2:Yf):XW a1 a2 =
 bif decide (a2.Kind=1) then
 bif decide (a2.At<0) then
  some (a1,0#64,false,())
 else
  bif decide (((a1.length:Int))<=a2.At) then
  some (a1,0#64,false,())
  else
  (idx a1 a2.At).bind fun x1 =>
  (zw6 x1).bind fun y2 =>
  bif y2.2.1 then
   bif !(decide (x1=y2.1)) then
   (wv a1).bind fun y3 =>
   (wg y3.1 a2.At).bind fun n4 =>
   some (y3.1.set n4 y2.1,x1,y2.2.1,())
   else
   some (a1,x1,y2.2.1,())
  else
   some (a1,x1,y2.2.1,())
 else
 bif decide (a2.Kind=2) then
  bif decide (a2.At<0) then
  some (a1,0#64,false,())
  else
  bif decide (((a1.length:Int))<=a2.At) then
   some (a1,0#64,false,())
  else
   (idx a1 a2.At).bind fun x5 =>
   (zwO x5 a2).bind fun y6 =>
   bif y6.2.1 then
   bif !(decide (x5=y6.1)) then
    (wv a1).bind fun y7 =>
    (wg y7.1 a2.At).bind fun n8 =>
    some (y7.1.set n8 y6.1,x5,y6.2.1,())
   else
    some (a1,x5,y6.2.1,())
   else
   some (a1,x5,y6.2.1,())
 else
  bif decide (a2.Kind=3) then
  bif decide (a2.At<0) then
   some (a1,0#64,false,())
  else
   bif decide (((a1.length:Int))<=a2.At) then
   some (a1,0#64,false,())
   else
   (idx a1 a2.At).bind fun x9 =>
   (zvK x9 a2).bind fun y10 =>
   bif y10.2.1 then
    bif !(decide (x9=y10.1)) then
    (wv a1).bind fun y11 =>
    (wg y11.1 a2.At).bind fun n12 =>
    some (y11.1.set n12 y10.1,x9,y10.2.1,())
    else
    some (a1,x9,y10.2.1,())
   else
    some (a1,x9,y10.2.1,())
  else
  bif decide (a2.Kind=4) then
   bif decide (a2.At<0) then
   some (a1,0#64,false,())
   else
   bif decide (((a1.length:Int))<=a2.At) then
    some (a1,0#64,false,())
   else
    (idx a1 a2.At).bind fun x13 =>
    (zvy x13 a2).bind fun y14 =>
    bif y14.2.1 then
    bif !(decide (x13=y14.1)) then
     (wv a1).bind fun y15 =>
     (wg y15.1 a2.At).bind fun n16 =>
     some (y15.1.set n16 y14.1,x13,y14.2.1,())
    else
     some (a1,x13,y14.2.1,())
    else
    some (a1,x13,y14.2.1,())
  else
   bif decide (a2.At<0) then
   some (a1,0#64,false,())
   else
   bif decide (((a1.length:Int))<=a2.At) then
    some (a1,0#64,false,())
   else
    some (a1,0#64,false,()):=zF
theorem zuF (a1:List zB) (a2:Int) (a3:zB):XZ a1 a2 a3 =
 (XW a1 (Yf.mk 2 a2 a3 0#64)).bind fun y1 =>
 some (y1.1,()):=zF
theorem zwj (a1:zB) (a2:Int):zaB a1 a2 =
 some ((a1 <<< 32)|||((BitVec.ofInt 64 a2)&&&4294967295#64),()):=zF
theorem zkd (s1:List zB) (s2:Int) (s3:Int) (s4:zy) (s5:Int) (s6:Int):zhc (s1,s2,s3,s4,s5,s6,()) =
 bif decide (s6<s5) then
 bif decide ((w64 (s6+1))<((s4.length:Int))) then
  (idx s4 (w64 (s6+1))).bind fun x1 =>
  (idx s4 s6).bind fun x2 =>
  (XZ s1 (w64 (s3+x2)) (BitVec.ofInt 64 x1)).bind fun y3 =>
  some (.again (y3.1,s2,s3,s4,s5,w64 (s6+1),()))
 else
  (idx s4 s6).bind fun x4 =>
  (XZ s1 (w64 (s3+x4)) 0#64).bind fun y5 =>
  some (.again (y5.1,s2,s3,s4,s5,w64 (s6+1),()))
 else
 some (.brk (s1,s2,s4,())):=by kernel_rfl
theorem zyv (a1:List zB) (a2:Int) (a3:Int) (a4:zy):zie a1 a2 a3 a4 =
 (yc zhc (a1,a2,a3,a4,(a4.length:Int),0,())).bind fun st=>match st with
  | .again _=>none
  | .brk y1 =>
  bif decide (0<((y1.2.2.1.length:Int))) then
  (idx y1.2.2.1 0).bind fun x2 =>
  (zaB 0#64 x2).bind fun y3 =>
  (XZ y1.1 y1.2.1 y3.1).bind fun y4 =>
  some (y4.1,())
  else
  (zaB 0#64 0).bind fun y5 =>
  (XZ y1.1 y1.2.1 y5.1).bind fun y6 =>
  some (y6.1,())
  | .ret y1 =>
  none:=zF
theorem zww (a1:zd):XA a1 =
 some (w64 (a1.Workers*(w64 (a1.Cap+2))),()):=zF
theorem zuV (a1:zd):XQ a1 =
 (XA a1).bind fun y1 =>
 some (w64 (y1.1+1),()):=zF
theorem zwQ (a1:zd):YM a1 =
 (XQ a1).bind fun y1 =>
 some (y1.1,()):=zF
end Go.Pe.G
namespace Go.Pe.G
open Go.Pe
theorem ztC (s1:zB) (s2:Int) (s3:Int) (s4:zd) (s5:Int) (s6:Int) (s7:Int) (s8:Int) (s9:Int) (s10:Int) (s11:Int) (s12:Int) (s13:Int) (s14:zB) (s15:Int) (s16:zn) (s17:Int) (s18:Int) (s19:Bool) (s20:Bool) (s21:Int) (s22:Int) (s23:Int) (s24:Int) (s25:zN) (s26:zd) (s27:Int) (s28:zn) (s29:Int) (s30:Int) (s31:Bool) (s32:Bool) (s33:Int) (s34:zx) (s35:zN) (s36:zD) (s37:zD) (s38:List (List zE)) (s39:List zk) (s40:zD) (s41:List zB) (s42:zD) (s43:zy) (s44:zy) (s45:List zj) (s46:List ze) (s47:zD) (s48:List zB) (s49:zD) (s50:zy) (s51:List zj) (s52:List ze):zcO (s1,s2,s3,s4,s5,s6,s7,s8,s9,s10,s11,s12,s13,s14,s15,s16,s17,s18,s19,s20,s21,s22,s23,s24,s25,s26,s27,s28,s29,s30,s31,s32,s33,s34,s35,s36,s37,s38,s39,s40,s41,s42,s43,s44,s45,s46,s47,s48,s49,s50,s51,s52,()) =
 bif decide (s3<s2) then
 (zjq s4.Cap).bind fun y1 =>
 (yD (s48++y1.1)).bind fun l2 =>
 (xG s4 (w64 (s3+1))).bind fun y3 =>
 (zd9 2 y3.1 s4.Cap 0).bind fun y4 =>
 (yD (s51++(([(zj.mk 0 0 0 (w64 (s3+1)) 0 (([]:zy)) y4.1 (zV.mk 0 0 0 0 0#64 0 0 0) (zJ.mk 0 0 0 0 (zg.mk 0 0 0 0 0#64 0#64 0 0) (zV.mk 0 0 0 0 0#64 0 0 0) 0 0))]:List zj)))).bind fun l5 =>
 some (.again (s1,s2,w64 (s3+1),s4,s5,s6,s7,s8,s9,s10,s11,s12,s13,s14,s15,s16,s17,s18,s19,s20,s21,s22,s23,s24,s25,s26,s27,s28,s29,s30,s31,s32,s33,s34,s35,s36,s37,s38,s39,s40,s41,s42,s43,s44,s45,s46,s47,l2,s49,s50,l5,s52,()))
 else
 some (.brk (s1,s4,s5,s6,s7,s8,s9,s10,s11,s12,s13,s14,s15,s16,s17,s18,s19,s20,s21,s22,s23,s24,s25,s26,s27,s28,s29,s30,s31,s32,s33,s34,s35,s36,s37,s38,s39,s40,s41,s42,s43,s44,s45,s46,s47,s48,s49,s50,s51,s52,())):=by kernel_rfl
theorem zsb (s1:zB) (s2:Int) (s3:Int) (s4:zd) (s5:Int) (s6:Int) (s7:Int) (s8:Int) (s9:Int) (s10:Int) (s11:Int) (s12:Int) (s13:Int) (s14:zB) (s15:Int) (s16:zn) (s17:Int) (s18:Int) (s19:Bool) (s20:Bool) (s21:Int) (s22:Int) (s23:Int) (s24:Int) (s25:zN) (s26:zd) (s27:Int) (s28:zn) (s29:Int) (s30:Int) (s31:Bool) (s32:Bool) (s33:Int) (s34:zx) (s35:zN) (s36:zy) (s37:zD) (s38:zD) (s39:List (List zE)) (s40:List zk) (s41:zD) (s42:List zB) (s43:zD) (s44:zy) (s45:zy) (s46:List zj) (s47:List ze) (s48:zD) (s49:List zB) (s50:zD) (s51:zy) (s52:List zj) (s53:List ze):zbY (s1,s2,s3,s4,s5,s6,s7,s8,s9,s10,s11,s12,s13,s14,s15,s16,s17,s18,s19,s20,s21,s22,s23,s24,s25,s26,s27,s28,s29,s30,s31,s32,s33,s34,s35,s36,s37,s38,s39,s40,s41,s42,s43,s44,s45,s46,s47,s48,s49,s50,s51,s52,s53,()) =
 bif decide (s3<s2) then
 (yD (s36++(([(w64 (s3+1))]:zy)))).bind fun l1 =>
 some (.again (s1,s2,w64 (s3+1),s4,s5,s6,s7,s8,s9,s10,s11,s12,s13,s14,s15,s16,s17,s18,s19,s20,s21,s22,s23,s24,s25,s26,s27,s28,s29,s30,s31,s32,s33,s34,s35,l1,s37,s38,s39,s40,s41,s42,s43,s44,s45,s46,s47,s48,s49,s50,s51,s52,s53,()))
 else
 some (.brk (s1,s4,s5,s6,s7,s8,s9,s10,s11,s12,s13,s14,s15,s16,s17,s18,s19,s20,s21,s22,s23,s24,s25,s26,s27,s28,s29,s30,s31,s32,s33,s34,s35,s36,s37,s38,s39,s40,s41,s42,s43,s44,s45,s46,s47,s48,s49,s50,s51,s52,s53,())):=by kernel_rfl
theorem zrW (y:zy) (s1:zd) (s2:Int) (s3:Int) (s4:Int) (s5:Int) (s6:Int) (s7:Int) (s8:Int) (s9:Int) (s10:Int) (s11:zB) (s12:Int) (s13:zn) (s14:Int) (s15:Int) (s16:Bool) (s17:Bool) (s18:Int) (s19:Int) (s20:Int) (s21:Int) (s22:zN) (s23:zd) (s24:Int) (s25:zn) (s26:Int) (s27:Int) (s28:Bool) (s29:Bool) (s30:Int) (s31:zx) (s32:zN) (s33:zy) (s34:zD) (s35:zD) (s36:List (List zE)) (s37:List zk) (s38:zD) (s39:List zB) (s40:zD) (s41:zy) (s42:zy) (s43:List zj) (s44:List ze) (s45:zD) (s46:List zB) (s47:zD) (s48:zy) (s49:List zj) (s50:List ze):zfL y (s1,s2,s3,s4,s5,s6,s7,s8,s9,s10,s11,s12,s13,s14,s15,s16,s17,s18,s19,s20,s21,s22,s23,s24,s25,s26,s27,s28,s29,s30,s31,s32,s33,s34,s35,s36,s37,s38,s39,s40,s41,s42,s43,s44,s45,s46,s47,s48,s49,s50,()) =
 (yZ y).bind fun y1 =>
 (yD (s47++(([y1.1]:zD)))).bind fun l2 =>
 some (s1,s2,s3,s4,s5,s6,s7,s8,s9,s10,s11,s12,s13,s14,s15,s16,s17,s18,s19,s20,s21,s22,s23,s24,s25,s26,s27,s28,s29,s30,s31,s32,s33,s34,s35,s36,s37,s38,s39,s40,s41,s42,s43,s44,s45,s46,l2,s48,s49,s50,()):=by kernel_rfl
theorem zsS (s1:zD) (s2:Int) (s3:Int) (s4:Int) (s5:Int) (s6:Int) (s7:Int) (s8:Int) (s9:Int) (s10:Int) (s11:Int) (s12:Int) (s13:zB) (s14:Int) (s15:zn) (s16:Int) (s17:Int) (s18:Bool) (s19:Bool) (s20:Int) (s21:Int) (s22:Int) (s23:Int) (s24:zN) (s25:zd) (s26:Int) (s27:List zB) (s28:zn) (s29:Int) (s30:Int) (s31:Bool) (s32:Bool) (s33:Int) (s34:zx) (s35:zN) (s36:zD) (s37:zD) (s38:List (List zE)) (s39:List zk) (s40:zD) (s41:List zB) (s42:zD) (s43:zy) (s44:zy) (s45:List zj) (s46:List ze) (s47:zD) (s48:zD) (s49:zy) (s50:List zj) (s51:List ze):zb2 (s1,s2,s3,s4,s5,s6,s7,s8,s9,s10,s11,s12,s13,s14,s15,s16,s17,s18,s19,s20,s21,s22,s23,s24,s25,s26,s27,s28,s29,s30,s31,s32,s33,s34,s35,s36,s37,s38,s39,s40,s41,s42,s43,s44,s45,s46,s47,s48,s49,s50,s51,()) =
 bif decide (s3<s2) then
 (idx s1 s3).bind fun x1 =>
 (yZ x1).bind fun y2 =>
 (yD (s51++(([(ze.mk 0 0 0 0 0 0 0 0 y2.1 (([]:zy)) (([]:zy)) (zV.mk 0 0 0 0 0#64 0 0 0) (zJ.mk 0 0 0 0 (zg.mk 0 0 0 0 0#64 0#64 0 0) (zV.mk 0 0 0 0 0#64 0 0 0) 0 0))]:List ze)))).bind fun l3 =>
 some (.again (s1,s2,w64 (s3+1),s4,s5,s6,s7,s8,s9,s10,s11,s12,s13,s14,s15,s16,s17,s18,s19,s20,s21,s22,s23,s24,s25,s26,s27,s28,s29,s30,s31,s32,s33,s34,s35,s36,s37,s38,s39,s40,s41,s42,s43,s44,s45,s46,s47,s48,s49,s50,l3,()))
 else
 some (.brk (s4,s5,s6,s7,s8,s9,s10,s11,s12,s13,s14,s15,s16,s17,s18,s19,s20,s21,s22,s23,s24,s25,s26,s27,s28,s29,s30,s31,s32,s33,s34,s35,s36,s37,s38,s39,s40,s41,s42,s43,s44,s45,s46,s47,s48,s49,s50,s51,())):=by kernel_rfl
theorem zx5 (a1:zd):zii a1 =
 (zlD a1).bind fun y1 =>
 bif !y1.1 then
 some (za.mk (zd.mk 0 0 0 0 0 0 0 0 (zr.mk 0 (([]:zD))) 0#64 (([]:zD)) (([]:List (List zE))) (([]:List zk))) (zr.mk 0 (([]:zD))) (([]:List zB)) (([]:zD)) (zn.mk 0#64 0#64) 0 0 false false 0 (([]:zy)) (zx.mk 0 0 0 (([]:zy))) (([]:List zj)) (([]:List ze)) (zN.mk 0 0),())
 else
 (zfO a1).bind fun y2 =>
 (zbv y2.1).bind fun y3 =>
 (zlT a1.Mutators).bind fun y4 =>
 (vQ a1.H.Objs).bind fun y5 =>
 (yc zcO (y2.1,a1.Workers,0,a1,0,0,0,0,0,0,0,0,0,0#64,0,zn.mk 0#64 0#64,0,0,false,false,0,0,0,0,zN.mk 0 0,a1,a1.H.Slots,zn.mk y2.1 0#64,y3.1,0,false,false,0,y4.1,zN.mk 0 0,([]:zD),([]:zD),([]:List (List zE)),([]:List zk),([]:zD),([]:List zB),([]:zD),([]:zy),([]:zy),([]:List zj),([]:List ze),y5.1,([]:List zB),([([]:zy)]:zD),([]:zy),([]:List zj),([]:List ze),())).bind fun st=>match st with
  | .again _=>none
  | .brk y6 =>
  let y6a:=y6.2.2.2.2.2.2.2.2;let y6b:=y6a.2.2.2.2.2.2.2.2;let y6c:=y6b.2.2.2.2.2.2.2.2;let y6d:=y6c.2.2.2.2.2.2.2.2;let y6e:=y6d.2.2.2.2.2.2.2.2;let y6f:=y6e.2.2.2.2.2.2.2.2
  (zig y6.2.1).bind fun y7 =>
  (ziY (w64 (2+y7.1))).bind fun n8 =>
  (yD (y6e.2.2.2.2.2.1++(List.replicate n8 0#64))).bind fun l9 =>
  (zig y6.2.1).bind fun y10 =>
  (yc zbY (y6.1,y10.1,0,y6.2.1,y6.2.2.1,y6.2.2.2.1,y6.2.2.2.2.1,y6.2.2.2.2.2.1,y6.2.2.2.2.2.2.1,y6.2.2.2.2.2.2.2.1,y6a.1,y6a.2.1,y6a.2.2.1,y6a.2.2.2.1,y6a.2.2.2.2.1,y6a.2.2.2.2.2.1,y6a.2.2.2.2.2.2.1,y6a.2.2.2.2.2.2.2.1,y6b.1,y6b.2.1,y6b.2.2.1,y6b.2.2.2.1,y6b.2.2.2.2.1,y6b.2.2.2.2.2.1,y6b.2.2.2.2.2.2.1,y6b.2.2.2.2.2.2.2.1,y6c.1,y6c.2.1,y6c.2.2.1,y6c.2.2.2.1,y6c.2.2.2.2.1,y6c.2.2.2.2.2.1,y6c.2.2.2.2.2.2.1,y6c.2.2.2.2.2.2.2.1,y6d.1,([]:zy),y6d.2.1,y6d.2.2.1,y6d.2.2.2.1,y6d.2.2.2.2.1,y6d.2.2.2.2.2.1,y6d.2.2.2.2.2.2.1,y6d.2.2.2.2.2.2.2.1,y6e.1,y6e.2.1,y6e.2.2.1,y6e.2.2.2.1,y6e.2.2.2.2.1,l9,y6e.2.2.2.2.2.2.1,y6e.2.2.2.2.2.2.2.1,y6f.1,y6f.2.1,())).bind fun st=>match st with
   | .again _=>none
   | .brk y11 =>
   let y11a:=y11.2.2.2.2.2.2.2.2;let y11b:=y11a.2.2.2.2.2.2.2.2;let y11c:=y11b.2.2.2.2.2.2.2.2;let y11d:=y11c.2.2.2.2.2.2.2.2;let y11e:=y11d.2.2.2.2.2.2.2.2;let y11f:=y11e.2.2.2.2.2.2.2.2
   (zfE y11.1).bind fun y12 =>
   (zde y12.1 y11.2.1.Bin).bind fun y13 =>
   (zbi y13.1 y13.2.1).bind fun (ys14:zD) =>
   (ZX zfL ys14 (y11.2.1,y11.2.2.1,y11.2.2.2.1,y11.2.2.2.2.1,y11.2.2.2.2.2.1,y11.2.2.2.2.2.2.1,y11.2.2.2.2.2.2.2.1,y11a.1,y11a.2.1,y11a.2.2.1,y11a.2.2.2.1,y11a.2.2.2.2.1,y11a.2.2.2.2.2.1,y11a.2.2.2.2.2.2.1,y11a.2.2.2.2.2.2.2.1,y11b.1,y11b.2.1,y11b.2.2.1,y11b.2.2.2.1,y11b.2.2.2.2.1,y11b.2.2.2.2.2.1,y11b.2.2.2.2.2.2.1,y11b.2.2.2.2.2.2.2.1,y11c.1,y11c.2.1,y11c.2.2.1,y11c.2.2.2.1,y11c.2.2.2.2.1,y11c.2.2.2.2.2.1,y11c.2.2.2.2.2.2.1,y11c.2.2.2.2.2.2.2.1,y11d.1,y11d.2.1,y11d.2.2.1,y11d.2.2.2.1,y11d.2.2.2.2.1,y11d.2.2.2.2.2.1,y11d.2.2.2.2.2.2.1,y11d.2.2.2.2.2.2.2.1,y11e.1,y11e.2.1,y11e.2.2.1,y11e.2.2.2.1,y11e.2.2.2.2.1,y11e.2.2.2.2.2.1,y11e.2.2.2.2.2.2.1,y11e.2.2.2.2.2.2.2.1,y11f.1,y11f.2.1,y11f.2.2.1,())).bind fun (y15:zd×Int×Int×Int×Int×Int×Int×Int×Int×Int×zB×Int×zn×Int×Int×Bool×Bool×Int×Int×Int×Int×zN×zd×Int×zn×Int×Int×Bool×Bool×Int×zx×zN×zy×zD×zD×(List (List zE))×(List zk)×zD×(List zB)×zD×zy×zy×(List zj)×(List ze)×zD×(List zB)×zD×zy×(List zj)×(List ze)×Unit) =>
   let y15a:=y15.2.2.2.2.2.2.2.2;let y15b:=y15a.2.2.2.2.2.2.2.2;let y15c:=y15b.2.2.2.2.2.2.2.2;let y15d:=y15c.2.2.2.2.2.2.2.2;let y15e:=y15d.2.2.2.2.2.2.2.2;let y15f:=y15e.2.2.2.2.2.2.2.2
   (ziY (w64 (((y15d.1.length:Int))-(w64 (((y15e.2.2.2.2.2.2.1.length:Int))-1))))).bind fun n16 =>
   (yD (y15e.2.2.2.2.2.2.1++(List.replicate n16 ([]:zy)))).bind fun l17 =>
   (XA y15.1).bind fun y18 =>
   (YM y15.1).bind fun y19 =>
   (cut y15d.1 0 (w64 (((y15e.2.2.2.2.2.2.1.length:Int))-1))).bind fun l20 =>
   (zie y15e.2.2.2.2.2.1 y18.1 y19.1 l20).bind fun y21 =>
   (XQ y15.1).bind fun y22 =>
   (YM y15.1).bind fun y23 =>
   (cut y15d.1 (w64 (((y15e.2.2.2.2.2.2.1.length:Int))-1)) ((y15d.1.length:Int))).bind fun l24 =>
   (zie y21.1 y22.1 y23.1 l24).bind fun y25 =>
   bif decide (y15.1.Mutators=y15.1.Mutators) then
    (Vn y15.1.Mutators).bind fun n26 =>
    (yc zb2 (y15.1.Regs,(y15.1.Regs.length:Int),0,y15.2.1,y15.2.2.1,y15.2.2.2.1,y15.2.2.2.2.1,y15.2.2.2.2.2.1,y15.2.2.2.2.2.2.1,y15.2.2.2.2.2.2.2.1,y15a.1,y15a.2.1,y15a.2.2.1,y15a.2.2.2.1,y15a.2.2.2.2.1,y15a.2.2.2.2.2.1,y15a.2.2.2.2.2.2.1,y15a.2.2.2.2.2.2.2.1,y15b.1,y15b.2.1,y15b.2.2.1,y15b.2.2.2.1,y15b.2.2.2.2.1,y15b.2.2.2.2.2.1,y15b.2.2.2.2.2.2.1,y15b.2.2.2.2.2.2.2.1,y25.1,y15c.1,y15c.2.1,y15c.2.2.1,y15c.2.2.2.1,y15c.2.2.2.2.1,y15c.2.2.2.2.2.1,y15c.2.2.2.2.2.2.1,y15c.2.2.2.2.2.2.2.1,y15d.2.1,y15d.2.2.1,y15d.2.2.2.1,y15d.2.2.2.2.1,y15d.2.2.2.2.2.1,y15d.2.2.2.2.2.2.1,y15d.2.2.2.2.2.2.2.1,y15e.1,y15e.2.1,y15e.2.2.1,y15e.2.2.2.1,y15e.2.2.2.2.1,l17,List.replicate n26 ((0:Int)),y15f.1,y15f.2.1,())).bind fun st=>match st with
     | .again _=>none
     | .brk y27 =>
     let y27a:=y27.2.2.2.2.2.2.2.2;let y27b:=y27a.2.2.2.2.2.2.2.2;let y27c:=y27b.2.2.2.2.2.2.2.2;let y27d:=y27c.2.2.2.2.2.2.2.2;let y27e:=y27d.2.2.2.2.2.2.2.2
     some (za.mk y27b.2.2.2.2.2.1 (zr.mk y27b.2.2.2.2.2.2.1 y27e.2.2.2.1) y27b.2.2.2.2.2.2.2.1 y27e.2.2.2.2.1 y27c.1 y27c.2.1 y27c.2.2.1 y27c.2.2.2.1 y27c.2.2.2.2.1 y27c.2.2.2.2.2.1 y27e.2.2.2.2.2.1 y27c.2.2.2.2.2.2.1 y27e.2.2.2.2.2.2.1 y27e.2.2.2.2.2.2.2.1 y27c.2.2.2.2.2.2.2.1,())
     | .ret y27 =>
     none
   else
    none
   | .ret y11 =>
   none
  | .ret y6 =>
  none:=zF
theorem zA5 (a1:zB) (a2:Int):zcm a1 a2 =
 (zny a2).bind fun y1 =>
 some (!(decide ((a1&&&y1.1)=0#64)),()):=zF
theorem zwA (a1:zn) (a2:Int):zcq a1 a2 =
 (YQ a1.Marks a2).bind fun y1 =>
 bif decide (y1.1=a1.Marks) then
 some (a1,false,())
 else
 (zcm a1.Black a2).bind fun y2 =>
 bif y2.1 then
  some (a1,false,())
 else
  some ({a1 with Marks:=y1.1},true,()):=zF
theorem zBx (a1:zn) (a2:Int):znr a1 a2 =
 (zcm (a1.Marks&&&a1.Black) a2).bind fun y1 =>
 bif y1.1 then
 some (2,())
 else
 (zcm a1.Marks a2).bind fun y2 =>
 bif y2.1 then
  some (1,())
 else
  some (0,()):=zF
theorem zyw (a1:zn) (a2:Int):Uo a1 a2 =
 (znr a1 a2).bind fun y1 =>
 bif !(decide (y1.1=1)) then
 some (a1,false,())
 else
 (YQ a1.Black a2).bind fun y2 =>
 some ({a1 with Black:=y2.1},true,()):=zF
theorem zn9 (a1:zn) (a2:Int):zcg a1 a2 =
 (zcq a1 a2).bind fun y1 =>
 bif !y1.2.1 then
 some (a1,false,())
 else
 (Uo y1.1 a2).bind fun y2 =>
 some (y2.1,y2.2.1,()):=zF
theorem zfP (s1:Int) (s2:zn) (s3:zn):zdr (s1,s2,s3,()) =
 bif decide (s1<64) then
 (yc uD (s1,1,s1,s2,s3,())).bind fun st=>match st with
  | .again _=>none
  | .brk y1 =>
  some (.again (w64 (y1.1+1),y1.2.1,y1.2.2.1,()))
  | .ret y1 =>
  some (.ret (y1.1,y1.2.1,()))
 else
 some (.brk (())):=by kernel_rfl
theorem WC (s1:Int) (s2:Int) (s3:Int) (s4:zn) (s5:zn):uD (s1,s2,s3,s4,s5,()) =
 bif decide (s2<=3) then
 bif decide (s2=3) then
  (zcg s4 (w64 (s1+1))).bind fun y1 =>
  bif y1.2.1 then
  bif (decide (y1.1.Marks=s5.Marks))&&(decide (y1.1.Black=s5.Black)) then
   some (.ret (s2,w64 (s1+1),()))
  else
   some (.again (s1,w64 (s2+1),s3,s4,s5,()))
  else
  some (.again (s1,w64 (s2+1),s3,s4,s5,()))
 else
  bif decide (s2=2) then
  (Uo s4 (w64 (s1+1))).bind fun y2 =>
  bif y2.2.1 then
   bif (decide (y2.1.Marks=s5.Marks))&&(decide (y2.1.Black=s5.Black)) then
   some (.ret (s2,w64 (s1+1),()))
   else
   some (.again (s1,w64 (s2+1),s3,s4,s5,()))
  else
   some (.again (s1,w64 (s2+1),s3,s4,s5,()))
  else
  bif decide (s2=1) then
   (zcq s4 (w64 (s1+1))).bind fun y3 =>
   bif y3.2.1 then
   bif (decide (y3.1.Marks=s5.Marks))&&(decide (y3.1.Black=s5.Black)) then
    some (.ret (s2,w64 (s1+1),()))
   else
    some (.again (s1,w64 (s2+1),s3,s4,s5,()))
   else
   some (.again (s1,w64 (s2+1),s3,s4,s5,()))
  else
   bif decide (s2=0) then
   none
   else
   none
 else
 some (.brk (s3,s4,s5,())):=by kernel_rfl
theorem ztl (a1:zn) (a2:zn):zhU a1 a2 =
 bif (decide (a1.Marks=a2.Marks))&&(decide (a1.Black=a2.Black)) then
 some (0,0,())
 else
 (yc zdr (0,a1,a2,())).bind fun st=>match st with
  | .again _=>none
  | .brk y1 =>
  some (-1,0,())
  | .ret y1 =>
  some (y1.1,y1.2.1,()):=zF
theorem zgt (s1:zy) (s2:zy) (s3:Int) (s4:Int):X2 (s1,s2,s3,s4,()) =
 bif decide (s4<s3) then
 (idx s1 s4).bind fun x1 =>
 (idx s2 s4).bind fun x2 =>
 bif !(decide (x1=x2)) then
  some (.ret (false,()))
 else
  some (.again (s1,s2,s3,w64 (s4+1),()))
 else
 some (.brk (())):=by kernel_rfl
theorem zjL (a1:zy) (a2:zy):VA a1 a2 =
 bif !(decide (((a1.length:Int))=((a2.length:Int)))) then
 some (false,())
 else
 (yc X2 (a1,a2,(a1.length:Int),0,())).bind fun st=>match st with
  | .again _=>none
  | .brk y1 =>
  some (true,())
  | .ret y1 =>
  some (y1.1,()):=zF
theorem Zk (s1:zD) (s2:zD) (s3:Int) (s4:Int):xk (s1,s2,s3,s4,()) =
 bif decide (s4<s3) then
 (idx s2 s4).bind fun x1 =>
 (idx s1 s4).bind fun x2 =>
 (VA x1 x2).bind fun y3 =>
 bif !y3.1 then
  some (.ret (false,()))
 else
  some (.again (s1,s2,s3,w64 (s4+1),()))
 else
 some (.brk (())):=by kernel_rfl
theorem Zx (a1:zD) (a2:zD):xx a1 a2 =
 bif !(decide (((a1.length:Int))=((a2.length:Int)))) then
 some (false,())
 else
 (yc xk (a2,a1,(a1.length:Int),0,())).bind fun st=>match st with
  | .again _=>none
  | .brk y1 =>
  some (true,())
  | .ret y1 =>
  some (y1.1,()):=zF
theorem zxS (a1:zr) (a2:zr):zh8 a1 a2 =
 bif decide (a1.Slots=a2.Slots) then
 (xx a1.Objs a2.Objs).bind fun y1 =>
 some (y1.1,())
 else
 some (false,()):=zF
theorem zi8 (a1:zD):Vm a1 =
 bif decide (0=0)&&decide (((a1.length:Int))=0)&&decide (((a1.length:Int))=0) then
 none
 else
 bif decide (0=0)&&decide (((a1.length:Int))=((a1.length:Int)))&&decide (((a1.length:Int))=((a1.length:Int))) then
  some (a1,())
 else
  bif decide (((a1.length:Int))=((a1.length:Int))) then
  (cut a1 0 ((a1.length:Int))).bind fun l1 =>
  none
  else
  none:=zF
theorem zwP (a1:zr) (a2:Int):zfs a1 a2 =
 (Xq a1).bind fun y1 =>
 bif !y1.1 then
 some (a1,0,1,())
 else
 bif decide ((bif decide (64<a2) then 64 else a2)<=((a1.Objs.length:Int))) then
  some (a1,0,4,())
 else
  (Vm a1.Objs).bind fun y2 =>
  bif decide (a1.Slots=a1.Slots) then
  (Vn a1.Slots).bind fun n3 =>
  (yD (y2.1++(([(List.replicate n3 ((0:Int)))]:zD)))).bind fun l4 =>
  some ({a1 with Objs:=l4},(l4.length:Int),0,())
  else
  none:=zF
theorem zre (s1:Int) (s2:Int) (s3:zD) (s4:Int) (s5:Int) (s6:zr):zek (s1,s2,s3,s4,s5,s6,()) =
 bif decide (s5<s4) then
 (idx s3 s5).bind fun x1 =>
 (idx s6.Objs s5).bind fun x2 =>
 bif !(decide (((x1.length:Int))=((x2.length:Int)))) then
  some (.ret (0,()))
 else
  (yc UW (s1,s2,s5,s3,s4,s5,x1,(x1.length:Int),0,s6,())).bind fun st=>match st with
   | .again _=>none
   | .brk y3 =>
   some (.again (y3.1,y3.2.1,y3.2.2.1,y3.2.2.2.1,w64 (y3.2.2.2.2.1+1),y3.2.2.2.2.2.1,()))
   | .ret y3 =>
   none
 else
 some (.brk (s1,s2,())):=by kernel_rfl
theorem zpT (s1:Int) (s2:Int) (s3:Int) (s4:zD) (s5:Int) (s6:Int) (s7:zy) (s8:Int) (s9:Int) (s10:zr):UW (s1,s2,s3,s4,s5,s6,s7,s8,s9,s10,()) =
 bif decide (s9<s8) then
 (idx s7 s9).bind fun x1 =>
 (idx s10.Objs s3).bind fun x2 =>
 (idx x2 s9).bind fun x3 =>
 bif !(decide (x1=x3)) then
  some (.again (w64 (s3+1),w64 (s2+1),s3,s4,s5,s6,s7,s8,w64 (s9+1),s10,()))
 else
  some (.again (s1,s2,s3,s4,s5,s6,s7,s8,w64 (s9+1),s10,()))
 else
 some (.brk (s1,s2,s4,s5,s6,s10,())):=by kernel_rfl
theorem zvd (a1:zr) (a2:zr):VW a1 a2 =
 bif !(decide (a1.Slots=a2.Slots)) then
 some (0,())
 else
 bif !(decide (((a1.Objs.length:Int))=((a2.Objs.length:Int)))) then
  some (0,())
 else
  (yc zek (0,0,a1.Objs,(a1.Objs.length:Int),0,a2,())).bind fun st=>match st with
   | .again _=>none
   | .brk y1 =>
   bif !(decide (y1.2.1=1)) then
   some (0,())
   else
   some (y1.1,())
   | .ret y1 =>
   some (y1.1,()):=zF
theorem zzT (a1:za) (a2:za):Ub a1 a2 =
 (zhU a1.T a2.T).bind fun y1 =>
 (zh8 a1.H a2.H).bind fun y2 =>
 bif y2.1 then
 bif decide (y1.1<0) then
  some (-1,0,())
 else
  bif decide (2<y1.1) then
  some (-1,0,())
  else
  some (y1.1,y1.2.1,())
 else
 (zfs a1.H 64).bind fun y3 =>
 bif decide (y3.2.2.1=0) then
  bif decide (y1.1=3) then
  bif decide (y1.2.1=y3.2.1) then
   (zh8 y3.1 a2.H).bind fun y4 =>
   bif y4.1 then
   some (3,y1.2.1,())
   else
   (VW a1.H a2.H).bind fun y5 =>
   bif decide (y1.1=0) then
    bif decide (0<y5.1) then
    some (4,y5.1,())
    else
    some (-1,0,())
   else
    some (-1,0,())
  else
   (VW a1.H a2.H).bind fun y6 =>
   bif decide (y1.1=0) then
   bif decide (0<y6.1) then
    some (4,y6.1,())
   else
    some (-1,0,())
   else
   some (-1,0,())
  else
  (VW a1.H a2.H).bind fun y7 =>
  bif decide (y1.1=0) then
   bif decide (0<y7.1) then
   some (4,y7.1,())
   else
   some (-1,0,())
  else
   some (-1,0,())
 else
  (VW a1.H a2.H).bind fun y8 =>
  bif decide (y1.1=0) then
  bif decide (0<y8.1) then
   some (4,y8.1,())
  else
   some (-1,0,())
  else
  some (-1,0,()):=zF
theorem zl0 (a1:zB) (a2:Int):zj7 a1 a2 =
 (zcm a1 a2).bind fun y1 =>
 some (y1.1,()):=zF
theorem ze9 (a1:ze):Zc a1 =
 bif decide (a1.PC=3) then
 some (true,())
 else
 some (decide (a1.PC=37),()):=zF
end Go.Pe.G
namespace Go.Pe.G
open Go.Pe
theorem zeI (s1:List zj) (s2:Int) (s3:Int) (s4:za) (s5:List zJ):Xu (s1,s2,s3,s4,s5,()) =
 bif decide (s3<s2) then
 (idx s1 s3).bind fun x1 =>
 bif decide (x1.PC=6) then
  (yD (s5++([x1.G]:List zJ))).bind fun l2 =>
  some (.again (s1,s2,w64 (s3+1),s4,l2,()))
 else
  some (.again (s1,s2,w64 (s3+1),s4,s5,()))
 else
 some (.brk (s4,s5,())):=by kernel_rfl
theorem zeM (s1:List ze) (s2:Int) (s3:Int) (s4:List zJ):Xp (s1,s2,s3,s4,()) =
 bif decide (s3<s2) then
 (idx s1 s3).bind fun x1 =>
 (Zc x1).bind fun y2 =>
 bif y2.1 then
  (yD (s4++([x1.G]:List zJ))).bind fun l3 =>
  some (.again (s1,s2,w64 (s3+1),l3,()))
 else
  some (.again (s1,s2,w64 (s3+1),s4,()))
 else
 some (.brk (s4,())):=by kernel_rfl
theorem zsu (a1:za):zb6 a1 =
 (yc Xu (a1.Ws,(a1.Ws.length:Int),0,a1,([]:List zJ),())).bind fun st=>match st with
  | .again _=>none
  | .brk y1 =>
  (yc Xp (y1.1.Ms,(y1.1.Ms.length:Int),0,y1.2.1,())).bind fun st=>match st with
   | .again _=>none
   | .brk y2 =>
   some (y2.1,())
   | .ret y2 =>
   none
  | .ret y1 =>
  none:=zF
theorem zlL (a1:zJ) (a2:Int) (a3:Int) (a4:Int):znA a1 a2 a3 a4 =
 bif decide (a1.Out=0) then
 bif decide (a2<=a1.PC) then
  bif decide (a1.PC<=a3) then
  some (a4,())
  else
  some (0,())
 else
  some (0,())
 else
 some (0,()):=zF
theorem zxx (a1:zJ):zoR a1 =
 (znA a1 0 1 a1.Obj).bind fun y1 =>
 some (y1.1,()):=zF
theorem zf4 (s1:zB) (s2:Int) (s3:Int) (s4:za) (s5:List zJ):Wf (s1,s2,s3,s4,s5,()) =
 bif decide (s3<s2) then
 (wg s5 s3).bind fun n1 =>
 (s5[n1]?).bind fun x2 =>
 (zoR x2).bind fun y3 =>
 (YQ s1 y3.1).bind fun y4 =>
 some (.again (y4.1,s2,w64 (s3+1),s4,s5,()))
 else
 some (.brk (s1,s4,())):=by kernel_rfl
theorem zf6 (s1:zB) (s2:List ze) (s3:Int) (s4:Int):X6 (s1,s2,s3,s4,()) =
 bif decide (s4<s3) then
 (idx s2 s4).bind fun x1 =>
 (zhx x1.Buf).bind fun y2 =>
 bif decide (x1.PC=21) then
  (YQ (s1|||y2.1) x1.Old).bind fun y3 =>
  some (.again (y3.1,s2,s3,w64 (s4+1),()))
 else
  bif decide (x1.PC=22) then
  (YQ (s1|||y2.1) x1.Old).bind fun y4 =>
  some (.again (y4.1,s2,s3,w64 (s4+1),()))
  else
  bif decide (x1.Ret=22) then
   bif decide (x1.PC=1) then
   (YQ (s1|||y2.1) x1.Old).bind fun y5 =>
   some (.again (y5.1,s2,s3,w64 (s4+1),()))
   else
   bif decide (x1.PC=3) then
    (YQ (s1|||y2.1) x1.Old).bind fun y6 =>
    some (.again (y6.1,s2,s3,w64 (s4+1),()))
   else
    some (.again (s1|||y2.1,s2,s3,w64 (s4+1),()))
  else
   some (.again (s1|||y2.1,s2,s3,w64 (s4+1),()))
 else
 some (.brk (s1,())):=by kernel_rfl
theorem ztP (a1:za):zae a1 =
 (zb6 a1).bind fun y1 =>
 (yc Wf (0#64,(y1.1.length:Int),0,a1,y1.1,())).bind fun st=>match st with
  | .again _=>none
  | .brk y2 =>
  (yc X6 (y2.1,y2.2.1.Ms,(y2.2.1.Ms.length:Int),0,())).bind fun st=>match st with
   | .again _=>none
   | .brk y3 =>
   some (y3.1,())
   | .ret y3 =>
   none
  | .ret y2 =>
  none:=zF
theorem zge (a1:zn):zfm a1 =
 some (a1.Marks&&& ~~~a1.Black,()):=zF
theorem zxG (a1:za) (a2:za):zbr a1 a2 =
 (Ub a1 a2).bind fun y1 =>
 bif decide (a2.L.Scanned<a1.L.Scanned) then
 some (false,())
 else
 bif decide (a2.Epoch<a1.Epoch) then
  some (false,())
 else
  bif decide (y1.1=1) then
  (zae a1).bind fun y2 =>
  (zj7 y2.1 y1.2.1).bind fun y3 =>
  some (y3.1,())
  else
  bif decide (y1.1=2) then
   (zfm a1.T).bind fun y4 =>
   (zj7 y4.1 y1.2.1).bind fun y5 =>
   some (y5.1,())
  else
   some (!(decide (y1.1=(-1))),()):=zF
theorem zcd (s1:List (List zE)) (s2:Int) (s3:Int) (s4:Int) (s5:Int) (s6:Int) (s7:Int) (s8:Int) (s9:Int) (s10:Int) (s11:Int) (s12:zB) (s13:Int) (s14:Int) (s15:Int) (s16:Int) (s17:Int) (s18:Int) (s19:Int) (s20:Int) (s21:Int) (s22:zB) (s23:zD) (s24:zD) (s25:List (List zE)) (s26:List zk) (s27:zD) (s28:zD) (s29:List (List zE)) (s30:List zk):zeS (s1,s2,s3,s4,s5,s6,s7,s8,s9,s10,s11,s12,s13,s14,s15,s16,s17,s18,s19,s20,s21,s22,s23,s24,s25,s26,s27,s28,s29,s30,()) =
 bif decide (s2<((s1.length:Int))) then
 (yD (s28++(([([1,0]:zy)]:zD)))).bind fun l1 =>
 (idx s1 s2).bind fun x2 =>
 (yD (s29++(([x2]:List (List zE))))).bind fun l3 =>
 some (.again (s1,w64 (s2+1),s3,s4,s5,s6,s7,s8,s9,s10,s11,s12,s13,s14,s15,s16,s17,s18,s19,s20,s21,s22,s23,s24,s25,s26,s27,l1,l3,s30,()))
 else
 some (.brk (s3,s4,s5,s6,s7,s8,s9,s10,s11,s12,s13,s14,s15,s16,s17,s18,s19,s20,s21,s22,s23,s24,s25,s26,s27,s28,s29,s30,())):=by kernel_rfl
theorem zpr (a1:List (List zE)):zcu a1 =
 (yc zeS (a1,0,0,0,0,0,0,0,0,0,0,0#64,1,(a1.length:Int),2,1,1,4,2,2,1,1#64,([]:zD),([]:zD),([]:List (List zE)),([]:List zk),([([2]:zy),([0]:zy),([0]:zy)]:zD),([]:zD),([]:List (List zE)),([]:List zk),())).bind fun st=>match st with
  | .again _=>none
  | .brk y1 =>
  let y1a:=y1.2.2.2.2.2.2.2.2;let y1b:=y1a.2.2.2.2.2.2.2.2;let y1c:=y1b.2.2.2.2.2.2.2.2
  some (zd.mk y1a.2.2.1 y1a.2.2.2.1 y1a.2.2.2.2.1 y1a.2.2.2.2.2.1 y1a.2.2.2.2.2.2.1 y1a.2.2.2.2.2.2.2.1 y1b.1 y1b.2.1 (zr.mk y1b.2.2.1 y1c.1) y1b.2.2.2.1 y1c.2.1 y1c.2.2.1 y1c.2.2.2.1,())
  | .ret y1 =>
  none:=zF
theorem zqH (a1:za):U4 a1 =
 some ({a1 with Restarts:=w64 (a1.Restarts+1),D:={a1.D with PC:=0}},()):=zF
theorem zuU (a1:za):zj3 a1 =
 bif a1.Done then
 some (a1,())
 else
 bif decide (a1.D.PC=0) then
  some ({a1 with Flag:=false,D:={a1.D with PC:=1}},())
 else
  bif decide (a1.D.PC=1) then
  bif !(decide (a1.Work=0)) then
   some (a1,())
  else
   some ({a1 with D:={a1.D with PC:=2}},())
  else
  bif decide (a1.D.PC=2) then
   bif decide (((a1.Ms.length:Int))=0) then
   some ({a1 with Epoch:=w64 (a1.Epoch+1),D:=zN.mk 4 0},())
   else
   some ({a1 with Epoch:=w64 (a1.Epoch+1),D:=zN.mk 3 0},())
  else
   bif decide (a1.D.PC=3) then
   (idx a1.Acks a1.D.I).bind fun x1 =>
   bif decide (x1<a1.Epoch) then
    some (a1,())
   else
    bif decide ((w64 (a1.D.I+1))=((a1.Ms.length:Int))) then
    some ({a1 with D:=zN.mk 4 (w64 (a1.D.I+1))},())
    else
    some ({a1 with D:={a1.D with I:=w64 (a1.D.I+1)}},())
   else
   bif decide (a1.D.PC=4) then
    bif !(decide (a1.Work=0)) then
    (U4 a1).bind fun y2 =>
    some (y2.1,())
    else
    some ({a1 with D:={a1.D with PC:=5}},())
   else
    bif decide (a1.D.PC=5) then
    bif a1.Flag then
     (U4 a1).bind fun y3 =>
     some (y3.1,())
    else
     some ({a1 with D:={a1.D with PC:=6}},())
    else
    bif decide (a1.D.PC=6) then
     some ({a1 with Done:=true},())
    else
     some (a1,()):=zF
theorem zso (a1:za) (a2:Int):znM a1 a2 =
 (zj3 a1).bind fun y1 =>
 some (y1.1,()):=zF
theorem zv3 (a1:zB):Xn a1 =
 some ((a1&&&4294967295#64).toInt,()):=zF
theorem zwe (a1:List zB) (a2:Int):zav a1 a2 =
 (XW a1 (Yf.mk 1 a2 0#64 0#64)).bind fun y1 =>
 some (y1.2.1,()):=zF
theorem zk3 (a1:List zB) (a2:zV):uu a1 a2 =
 (zav a1 a2.Head).bind fun y1 =>
 bif decide (a2.Kind=2) then
 (Xn y1.1).bind fun y2 =>
 bif decide (y2.1=0) then
  some (a1,{a2 with H:=y1.1,Out:=2},())
 else
  some (a1,{a2 with H:=y1.1},())
 else
 some (a1,{a2 with H:=y1.1},()):=zF
theorem zng (a1:List zB) (a2:zV):WE a1 a2 =
 (Xn a2.H).bind fun y1 =>
 (XZ a1 (w64 (a2.Next+a2.X)) (BitVec.ofInt 64 y1.1)).bind fun y2 =>
 some (y2.1,()):=zF
theorem zjZ (a1:List zB) (a2:zV):vZ a1 a2 =
 bif decide (a2.Kind=2) then
 (zaB ((a2.H >>> 32)+1#64) a2.Y).bind fun y1 =>
 (XW a1 (Yf.mk 3 a2.Head a2.H y1.1)).bind fun y2 =>
 bif !y2.2.2.1 then
  some (y2.1,{a2 with PC:= -1},())
 else
  bif decide (a2.Kind=2) then
  (Xn a2.H).bind fun y3 =>
  some (y2.1,{a2 with X:=y3.1,Out:=1},())
  else
  some (y2.1,{a2 with Out:=1},())
 else
 (zaB ((a2.H >>> 32)+1#64) a2.X).bind fun y4 =>
 (XW a1 (Yf.mk 3 a2.Head a2.H y4.1)).bind fun y5 =>
 bif !y5.2.2.1 then
  some (y5.1,{a2 with PC:= -1},())
 else
  bif decide (a2.Kind=2) then
  (Xn a2.H).bind fun y6 =>
  some (y5.1,{a2 with X:=y6.1,Out:=1},())
  else
  some (y5.1,{a2 with Out:=1},()):=zF
theorem zhH (a1:List zB) (a2:zV):Ym a1 a2 =
 (Xn a2.H).bind fun y1 =>
 (zav a1 (w64 (a2.Next+y1.1))).bind fun y2 =>
 some (a1,{a2 with Y:=y2.1.toInt},()):=zF
theorem zvW (a1:List zB) (a2:zV):W7 a1 a2 =
 bif decide (a2.Kind=2) then
 bif !(decide (a2.Out=0)) then
  some (a1,a2,())
 else
  bif !(decide (a2.Kind=1)) then
  bif !(decide (a2.Kind=2)) then
   some (a1,a2,())
  else
   bif decide (a2.PC<0) then
   some (a1,a2,())
   else
   bif decide (3<=a2.PC) then
    some (a1,a2,())
   else
    bif decide (a2.PC=2) then
    (vZ a1 a2).bind fun y1 =>
    some (y1.1,{y1.2.1 with PC:=w64 (y1.2.1.PC+1)},())
    else
    bif decide (a2.PC=1) then
     (Ym a1 a2).bind fun y2 =>
     some (y2.1,{y2.2.1 with PC:=w64 (y2.2.1.PC+1)},())
    else
     bif decide (a2.PC=0) then
     (uu a1 a2).bind fun y3 =>
     some (y3.1,{y3.2.1 with PC:=w64 (y3.2.1.PC+1)},())
     else
     none
  else
  bif decide (a2.PC<0) then
   some (a1,a2,())
  else
   bif decide (3<=a2.PC) then
   some (a1,a2,())
   else
   bif decide (a2.PC=2) then
    (vZ a1 a2).bind fun y4 =>
    some (y4.1,{y4.2.1 with PC:=w64 (y4.2.1.PC+1)},())
   else
    bif decide (a2.PC=1) then
    (Ym a1 a2).bind fun y5 =>
    some (y5.1,{y5.2.1 with PC:=w64 (y5.2.1.PC+1)},())
    else
    bif decide (a2.PC=0) then
     (uu a1 a2).bind fun y6 =>
     some (y6.1,{y6.2.1 with PC:=w64 (y6.2.1.PC+1)},())
    else
     none
 else
 bif !(decide (a2.Out=0)) then
  some (a1,a2,())
 else
  bif !(decide (a2.Kind=1)) then
  bif !(decide (a2.Kind=2)) then
   some (a1,a2,())
  else
   bif decide (a2.PC<0) then
   some (a1,a2,())
   else
   bif decide (3<=a2.PC) then
    some (a1,a2,())
   else
    bif decide (a2.PC=2) then
    (vZ a1 a2).bind fun y7 =>
    some (y7.1,{y7.2.1 with PC:=w64 (y7.2.1.PC+1)},())
    else
    bif decide (a2.PC=1) then
     (WE a1 a2).bind fun y8 =>
     some (y8.1,{a2 with PC:=w64 (a2.PC+1)},())
    else
     bif decide (a2.PC=0) then
     (uu a1 a2).bind fun y9 =>
     some (y9.1,{y9.2.1 with PC:=w64 (y9.2.1.PC+1)},())
     else
     none
  else
  bif decide (a2.PC<0) then
   some (a1,a2,())
  else
   bif decide (3<=a2.PC) then
   some (a1,a2,())
   else
   bif decide (a2.PC=2) then
    (vZ a1 a2).bind fun y10 =>
    some (y10.1,{y10.2.1 with PC:=w64 (y10.2.1.PC+1)},())
   else
    bif decide (a2.PC=1) then
    (WE a1 a2).bind fun y11 =>
    some (y11.1,{a2 with PC:=w64 (a2.PC+1)},())
    else
    bif decide (a2.PC=0) then
     (uu a1 a2).bind fun y12 =>
     some (y12.1,{y12.2.1 with PC:=w64 (y12.2.1.PC+1)},())
    else
     none:=zF
theorem znb (a1:z3):Zq a1 =
 (W7 a1.s.M a1.Worker.C).bind fun y1 =>
 some (y1.2.1.Out,z3.mk {a1.Worker with C:=y1.2.1} {a1.s with M:=y1.1} a1.w,()):=zF
theorem zdc (a1:Int) (a2:z3):WH a1 a2 =
 some ({a2 with Worker:={a2.Worker with PC:=5,Obj:=a1,Slot:=0}},()):=zF
theorem zkk (a1:Int):zpg a1 =
 bif decide (a1=1) then
 some (())
 else
 bif decide (a1=2) then
  none
 else
  bif decide (a1=3) then
  none
  else
  none:=zF
theorem ztO (a1:Int):zpL a1 =
 bif decide (a1=1) then
 none
 else
 bif decide (a1=2) then
  some (())
 else
  bif decide (a1=3) then
  none
  else
  none:=zF
theorem ztu (a1:Int):zpf a1 =
 bif decide (a1=1) then
 none
 else
 bif decide (a1=2) then
  none
 else
  bif decide (a1=3) then
  some (())
  else
  none:=zF
theorem ztz (a1:Int):zo9 a1 =
 bif decide (a1=1) then
 none
 else
 bif decide (a1=2) then
  none
 else
  bif decide (a1=3) then
  none
  else
  some (([]:List Bool),()):=zF
theorem zvr (a1:List zB) (a2:Int):uk a1 a2 =
 (XW a1 (Yf.mk 1 a2 0#64 0#64)).bind fun y1 =>
 some (y1.2.1,()):=zF
theorem xV (a1:zg):wD a1 =
 some (w64 (a1.Base+1),()):=zF
theorem Vw (a1:List zB) (a2:zg):vP a1 a2 =
 (wD a2).bind fun y1 =>
 (uk a1 y1.1).bind fun y2 =>
 some (a1,{a2 with B:=y2.1},()):=zF
theorem ZQ (a1:zg):ZP a1 =
 some (a1.Base,()):=zF
theorem zmR (a1:zg):yu a1 =
 some (BitVec.ofInt 64 (bif decide (a1.Cap<1) then 1 else a1.Cap),()):=zF
theorem vw (a1:Int) (a2:zg):wz a1 a2 =
 bif !(decide (a1=1)) then
 bif !(decide (a2.Kind=1)) then
  some ({a2 with X:=0,Out:=a1},())
 else
  some ({a2 with Out:=a1},())
 else
 some ({a2 with Out:=a1},()):=zF
theorem zjW (a1:List zB) (a2:zg):VJ a1 a2 =
 (ZP a2).bind fun y1 =>
 (uk a1 y1.1).bind fun y2 =>
 (yu ({a2 with T:=y2.1})).bind fun y3 =>
 bif decide (y3.1<=(a2.B-y2.1)) then
 (wz 3 ({a2 with T:=y2.1})).bind fun y4 =>
 some (a1,y4.1,())
 else
 some (a1,{a2 with T:=y2.1},()):=zF
theorem zmg (a1:zB) (a2:zg):uT a1 a2 =
 (yu a2).bind fun y1 =>
 bif decide (y1.1=0#64) then
 none
 else
 some (w64 ((w64 (a2.Base+2))+((a1%y1.1).toInt)),()):=zF
theorem zuQ (a1:List zB) (a2:Int) (a3:zB):XS a1 a2 a3 =
 (XW a1 (Yf.mk 2 a2 a3 0#64)).bind fun y1 =>
 some (y1.1,()):=zF
theorem zoT (a1:List zB) (a2:zg):zbH a1 a2 =
 (uT a2.B a2).bind fun y1 =>
 (XS a1 y1.1 (BitVec.ofInt 64 a2.X)).bind fun y2 =>
 some (y2.1,()):=zF
theorem zgy (a1:List zB) (a2:zg):XR a1 a2 =
 (wz 1 a2).bind fun y1 =>
 (wD y1.1).bind fun y2 =>
 (XS a1 y2.1 (y1.1.B+1#64)).bind fun y3 =>
 some (y3.1,y1.1,()):=zF
theorem zl4 (a1:List zB) (a2:zg):zeA a1 a2 =
 (wD a2).bind fun y1 =>
 (XS a1 y1.1 (a2.B-1#64)).bind fun y2 =>
 some (y2.1,()):=zF
theorem zei (a1:zB) (a2:zB):xO a1 a2 =
 some (decide (0<((a1-a2).toInt)),()):=zF
theorem zgY (a1:List zB) (a2:zg):zbR a1 a2 =
 (ZP a2).bind fun y1 =>
 (uk a1 y1.1).bind fun y2 =>
 (xO y2.1 (a2.B-1#64)).bind fun y3 =>
 bif y3.1 then
 some (a1,{a2 with PC:=4,T:=y2.1},())
 else
 some (a1,{a2 with T:=y2.1},()):=zF
theorem zlh (a1:List zB) (a2:zg):zdU a1 a2 =
 (uT (a2.B-1#64) a2).bind fun y1 =>
 (uk a1 y1.1).bind fun y2 =>
 bif !(decide (a2.T=(a2.B-1#64))) then
 (wz 1 ({a2 with X:=y2.1.toInt})).bind fun y3 =>
 some (a1,y3.1,())
 else
 some (a1,{a2 with X:=y2.1.toInt},()):=zF
theorem zm7 (a1:List zB) (a2:zg):Wq a1 a2 =
 (ZP a2).bind fun y1 =>
 (XW a1 (Yf.mk 3 y1.1 a2.T (a2.T+1#64))).bind fun y2 =>
 some (y2.1,y2.2.2.1,()):=zF
theorem zjR (a1:List zB) (a2:zg):zc9 a1 a2 =
 (Wq a1 a2).bind fun y1 =>
 bif y1.2.1 then
 some (y1.1,{a2 with PC:=5},())
 else
 some (y1.1,a2,()):=zF
theorem zj1 (a1:List zB) (a2:zg):zdb a1 a2 =
 (wz 2 a2).bind fun y1 =>
 (wD y1.1).bind fun y2 =>
 (XS a1 y2.1 y1.1.B).bind fun y3 =>
 some (y3.1,y1.1,()):=zF
theorem zk0 (a1:List zB) (a2:zg):zdR a1 a2 =
 (wz 1 a2).bind fun y1 =>
 (wD y1.1).bind fun y2 =>
 (XS a1 y2.1 y1.1.B).bind fun y3 =>
 some (y3.1,y1.1,()):=zF
theorem zkQ (a1:List zB) (a2:zg):zdN a1 a2 =
 (ZP a2).bind fun y1 =>
 (uk a1 y1.1).bind fun y2 =>
 some (a1,{a2 with T:=y2.1},()):=zF
theorem zkB (a1:List zB) (a2:zg):zdD a1 a2 =
 (wD a2).bind fun y1 =>
 (uk a1 y1.1).bind fun y2 =>
 (xO y2.1 a2.T).bind fun y3 =>
 bif !y3.1 then
 some (a1,{a2 with B:=y2.1,Out:=2},())
 else
 some (a1,{a2 with B:=y2.1},()):=zF
theorem zjz (a1:List zB) (a2:zg):zdd a1 a2 =
 (uT a2.T a2).bind fun y1 =>
 (uk a1 y1.1).bind fun y2 =>
 some (a1,{a2 with X:=y2.1.toInt},()):=zF
theorem zg0 (a1:List zB) (a2:zg):zb4 a1 a2 =
 (Wq a1 a2).bind fun y1 =>
 bif y1.2.1 then
 (wz 1 a2).bind fun y2 =>
 some (y1.1,y2.1,())
 else
 (wz 4 a2).bind fun y3 =>
 some (y1.1,y3.1,()):=zF
theorem znI (a1:List zB) (a2:zg):zcF a1 a2 =
 Option.or (
 (zpg a2.Kind).bind fun y1 =>
 bif !(decide (a2.Out=0)) then
  some (a1,a2,())
 else
  bif decide (a2.PC<0) then
  some (a1,a2,())
  else
  bif decide (4<=a2.PC) then
   some (a1,a2,())
  else
   bif decide (a2.PC=3) then
   (XR a1 a2).bind fun y2 =>
   some (y2.1,{y2.2.1 with PC:=w64 (y2.2.1.PC+1)},())
   else
   bif decide (a2.PC=2) then
    (zbH a1 a2).bind fun y3 =>
    some (y3.1,{a2 with PC:=w64 (a2.PC+1)},())
   else
    bif decide (a2.PC=1) then
    (VJ a1 a2).bind fun y4 =>
    some (y4.1,{y4.2.1 with PC:=w64 (y4.2.1.PC+1)},())
    else
    bif decide (a2.PC=0) then
     (vP a1 a2).bind fun y5 =>
     some (y5.1,{y5.2.1 with PC:=w64 (y5.2.1.PC+1)},())
    else
     none) (
 Option.or (
  (zpL a2.Kind).bind fun y6 =>
  bif !(decide (a2.Out=0)) then
  some (a1,a2,())
  else
  bif decide (a2.PC<0) then
   some (a1,a2,())
  else
   bif decide (7<=a2.PC) then
   some (a1,a2,())
   else
   bif decide (a2.PC=6) then
    (zdR a1 a2).bind fun y7 =>
    some (y7.1,{y7.2.1 with PC:=w64 (y7.2.1.PC+1)},())
   else
    bif decide (a2.PC=5) then
    (zdb a1 a2).bind fun y8 =>
    some (y8.1,{y8.2.1 with PC:=w64 (y8.2.1.PC+1)},())
    else
    bif decide (a2.PC=4) then
     (zc9 a1 a2).bind fun y9 =>
     some (y9.1,{y9.2.1 with PC:=w64 (y9.2.1.PC+1)},())
    else
     bif decide (a2.PC=3) then
     (zdU a1 a2).bind fun y10 =>
     some (y10.1,{y10.2.1 with PC:=w64 (y10.2.1.PC+1)},())
     else
     bif decide (a2.PC=2) then
      (zbR a1 a2).bind fun y11 =>
      some (y11.1,{y11.2.1 with PC:=w64 (y11.2.1.PC+1)},())
     else
      bif decide (a2.PC=1) then
      (zeA a1 a2).bind fun y12 =>
      some (y12.1,{a2 with PC:=w64 (a2.PC+1)},())
      else
      bif decide (a2.PC=0) then
       (vP a1 a2).bind fun y13 =>
       some (y13.1,{y13.2.1 with PC:=w64 (y13.2.1.PC+1)},())
      else
       none) (
  Option.or (
  (zpf a2.Kind).bind fun y14 =>
  bif !(decide (a2.Out=0)) then
   some (a1,a2,())
  else
   bif decide (a2.PC<0) then
   some (a1,a2,())
   else
   bif decide (4<=a2.PC) then
    some (a1,a2,())
   else
    bif decide (a2.PC=3) then
    (zb4 a1 a2).bind fun y15 =>
    some (y15.1,{y15.2.1 with PC:=w64 (y15.2.1.PC+1)},())
    else
    bif decide (a2.PC=2) then
     (zdd a1 a2).bind fun y16 =>
     some (y16.1,{y16.2.1 with PC:=w64 (y16.2.1.PC+1)},())
    else
     bif decide (a2.PC=1) then
     (zdD a1 a2).bind fun y17 =>
     some (y17.1,{y17.2.1 with PC:=w64 (y17.2.1.PC+1)},())
     else
     bif decide (a2.PC=0) then
      (zdN a1 a2).bind fun y18 =>
      some (y18.1,{y18.2.1 with PC:=w64 (y18.2.1.PC+1)},())
     else
      none) (
  (zo9 a2.Kind).bind fun y19 =>
  bif !(decide (a2.Out=0)) then
   some (a1,a2,())
  else
   bif decide (a2.PC<0) then
   some (a1,a2,())
   else
   bif decide (((y19.1.length:Int))<=a2.PC) then
    some (a1,a2,())
   else
    none))):=zF
theorem zji (a1:Int) (a2:Int) (a3:z3):zfY a1 a2 a3 =
 (xG a3.s.P a2).bind fun y1 =>
 (zd9 a1 y1.1 a3.s.P.Cap 0).bind fun y2 =>
 some (y2.1,()):=zF
theorem Vg (a1:Int) (a2:Int) (a3:Int) (a4:Int):zbh a1 a2 a3 a4 =
 some (zV.mk a1 0 a2 a3 0#64 a4 0 0,()):=zF
theorem zfj (a1:Int) (a2:Int) (a3:Int) (a4:z3):zdn a1 a2 a3 a4 =
 (YM a4.s.P).bind fun y1 =>
 (zbh a1 a2 y1.1 a3).bind fun y2 =>
 some (y2.1,()):=zF
theorem zmV (a1:z3):Wp a1 =
 bif decide (((a1.s.Ws.length:Int))=0) then
 none
 else
 bif decide ((w64 ((a1.Worker.Victim.tmod ((a1.s.Ws.length:Int)))+1))=a1.w) then
  (XA a1.s.P).bind fun y1 =>
  (zdn 2 y1.1 0 ({a1 with Worker:={a1.Worker with Victim:=w64 ((a1.Worker.Victim.tmod ((a1.s.Ws.length:Int)))+1)}})).bind fun y2 =>
  some ({a1 with Worker:={a1.Worker with PC:=2,Victim:=w64 ((a1.Worker.Victim.tmod ((a1.s.Ws.length:Int)))+1),C:=y2.1}},())
 else
  (zfY 3 (w64 ((a1.Worker.Victim.tmod ((a1.s.Ws.length:Int)))+1)) ({a1 with Worker:={a1.Worker with Victim:=w64 ((a1.Worker.Victim.tmod ((a1.s.Ws.length:Int)))+1)}})).bind fun y3 =>
  some ({a1 with Worker:={a1.Worker with PC:=1,Victim:=w64 ((a1.Worker.Victim.tmod ((a1.s.Ws.length:Int)))+1),D:=y3.1}},()):=zF
theorem zof (a1:z3):Vt a1 =
 (zcF a1.s.M a1.Worker.D).bind fun y1 =>
 bif decide (y1.2.1.Out=1) then
 (WH y1.2.1.X (z3.mk {a1.Worker with Victim:=a1.w,D:=y1.2.1} {a1.s with M:=y1.1} a1.w)).bind fun y2 =>
 some (y2.1,())
 else
 bif decide (y1.2.1.Out=4) then
  (Wp (z3.mk {a1.Worker with D:=y1.2.1} {a1.s with M:=y1.1} a1.w)).bind fun y3 =>
  some (y3.1,())
 else
  bif decide (y1.2.1.Out=2) then
  (Wp (z3.mk {a1.Worker with D:=y1.2.1} {a1.s with M:=y1.1} a1.w)).bind fun y4 =>
  some (y4.1,())
  else
  some (z3.mk {a1.Worker with D:=y1.2.1} {a1.s with M:=y1.1} a1.w,()):=zF
theorem zlq (a1:z3):uV a1 =
 (zfY 2 a1.w a1).bind fun y1 =>
 some ({a1 with Worker:={a1.Worker with PC:=0,Victim:=a1.w,D:=y1.1}},()):=zF
theorem zhF (a1:zD):vv a1 =
 bif a1.isEmpty then
 zlG (
  some (([]:zD),())) (
  (yD ((([]:zD))++a1)).bind fun l1 =>
  some (l1,()))
 else
 (yD ((([]:zD))++a1)).bind fun l2 =>
 some (l2,()):=zF
theorem zmS (a1:z3):zaO a1 =
 (idx a1.s.Bins a1.Worker.Bin).bind fun x1 =>
 (vv a1.s.Bins).bind fun y2 =>
 (wg y2.1 a1.Worker.Bin).bind fun n3 =>
 (XQ a1.s.P).bind fun y4 =>
 (zdn 1 y4.1 a1.Worker.Bin (z3.mk {a1.Worker with Batch:=x1} {a1.s with Bins:=y2.1.set n3 ([]:zy)} a1.w)).bind fun y5 =>
 some (z3.mk {a1.Worker with PC:=4,Batch:=x1,C:=y5.1} {a1.s with Bins:=y2.1.set n3 ([]:zy)} a1.w,()):=zF
theorem zrC (a1:z3):Uj a1 =
 bif decide (a1.Worker.Slot=a1.s.H.Slots) then
 some (8,())
 else
 some (5,()):=zF
theorem zqK (a1:zr) (a2:Int) (a3:Int):UX a1 a2 a3 =
 bif decide (1<=a2) then
 bif decide (a2<=((a1.Objs.length:Int))) then
  bif decide (0<=a3) then
  (idx a1.Objs (w64 (a2-1))).bind fun x1 =>
  some (decide (a3<((x1.length:Int))),())
  else
  some (false,())
 else
  some (false,())
 else
 some (false,()):=zF
theorem zz4 (a1:zr) (a2:Int) (a3:Int):zf0 a1 a2 a3 =
 (UX a1 a2 a3).bind fun y1 =>
 bif !y1.1 then
 some (0,false,())
 else
 (idx a1.Objs (w64 (a2-1))).bind fun x2 =>
 (idx x2 a3).bind fun x3 =>
 some (x3,true,()):=zF
theorem zwu (a1:Int) (a2:Int) (a3:Int):zcw a1 a2 a3 =
 some (zJ.mk 0 a1 a2 a3 (zg.mk 0 0 0 0 0#64 0#64 0 0) (zV.mk 0 0 0 0 0#64 0 0 0) 0 0,()):=zF
theorem zmZ (a1:z3):zba a1 =
 (zf0 a1.s.H a1.Worker.Obj a1.Worker.Slot).bind fun y1 =>
 bif decide (y1.1=0) then
 (Uj ({a1 with Worker:={a1.Worker with Slot:=w64 (a1.Worker.Slot+1)}})).bind fun y2 =>
 some ({a1 with Worker:={a1.Worker with PC:=y2.1,Slot:=w64 (a1.Worker.Slot+1)}},())
 else
 (zcw 1 y1.1 a1.w).bind fun y3 =>
 some ({a1 with Worker:={a1.Worker with PC:=6,Slot:=w64 (a1.Worker.Slot+1),G:=y3.1}},()):=zF
theorem zhX (a1:zX):zbP a1 =
 some (zX.mk {a1.Grey with PC:=1} {a1.s with Work:=w64 (a1.s.Work+1)},()):=zF
theorem zmH (a1:zX):uS a1 =
 (XQ a1.s.P).bind fun y1 =>
 (YM a1.s.P).bind fun y2 =>
 (zbh 2 y1.1 y2.1 0).bind fun y3 =>
 some ({a1 with Grey:={a1.Grey with PC:=5,C:=y3.1}},()):=zF
end Go.Pe.G
namespace Go.Pe.G
open Go.Pe
theorem zkR (a1:zX):zdY a1 =
 (zcq a1.s.T a1.Grey.Obj).bind fun y1 =>
 bif !y1.2.1 then
 some (zX.mk {a1.Grey with PC:=2} {a1.s with T:=y1.1},())
 else
 bif decide (a1.Grey.Mode=1) then
  (xG a1.s.P a1.Grey.Who).bind fun y2 =>
  (zd9 1 y2.1 a1.s.P.Cap a1.Grey.Obj).bind fun y3 =>
  some (zX.mk {a1.Grey with PC:=3,D:=y3.1} {a1.s with T:=y1.1},())
 else
  bif decide (a1.Grey.Mode=2) then
  some (zX.mk {a1.Grey with PC:=4} {a1.s with T:=y1.1},())
  else
  (uS ({a1 with s:={a1.s with T:=y1.1}})).bind fun y4 =>
  some (y4.1,()):=zF
theorem zlc (a1:zX):zdF a1 =
 some (zX.mk {a1.Grey with Out:=1} {a1.s with Work:=w64 (a1.s.Work-1)},()):=zF
theorem zk1 (a1:zX):zdQ a1 =
 (zcF a1.s.M a1.Grey.D).bind fun y1 =>
 bif decide (y1.2.1.Out=1) then
 some (zX.mk {a1.Grey with D:=y1.2.1,Out:=1} {a1.s with M:=y1.1},())
 else
 bif decide (y1.2.1.Out=3) then
  (uS (zX.mk {a1.Grey with D:=y1.2.1} {a1.s with M:=y1.1})).bind fun y2 =>
  some (y2.1,())
 else
  some (zX.mk {a1.Grey with D:=y1.2.1} {a1.s with M:=y1.1},()):=zF
theorem zkV (a1:zX):zdT a1 =
 (uS ({a1 with s:={a1.s with Flag:=true}})).bind fun y1 =>
 some (y1.1,()):=zF
theorem zlg (a1:zX):zdC a1 =
 (W7 a1.s.M a1.Grey.C).bind fun y1 =>
 bif decide (y1.2.1.Out=1) then
 some (zX.mk {a1.Grey with PC:=6,C:=y1.2.1,Bin:=y1.2.1.X} {a1.s with M:=y1.1},())
 else
 bif decide (y1.2.1.Out=2) then
  (uS (zX.mk {a1.Grey with C:=y1.2.1} {a1.s with M:=y1.1})).bind fun y2 =>
  some (y2.1,())
 else
  some (zX.mk {a1.Grey with C:=y1.2.1} {a1.s with M:=y1.1},()):=zF
theorem zk8 (a1:zX):zdE a1 =
 (vv a1.s.Bins).bind fun y1 =>
 (wg y1.1 a1.Grey.Bin).bind fun n2 =>
 (XA a1.s.P).bind fun y3 =>
 (YM a1.s.P).bind fun y4 =>
 (zbh 1 y3.1 y4.1 a1.Grey.Bin).bind fun y5 =>
 some ({a1.Grey with PC:=7,C:=y5.1},a1.s.P,a1.s.H,a1.s.M,a1.s.T,a1.s.Work,a1.s.Epoch,a1.s.Flag,a1.s.Done,a1.s.Restarts,a1.s.Acks,a1.s.L,a1.s.Ws,a1.s.Ms,a1.s.D,y1.1.set n2 ([a1.Grey.Obj]:zy),()):=zF
theorem zhm (a1:zX):zb3 a1 =
 (W7 a1.s.M a1.Grey.C).bind fun y1 =>
 bif decide (y1.2.1.Out=1) then
 some (zX.mk {a1.Grey with C:=y1.2.1,Out:=1} {a1.s with M:=y1.1},())
 else
 some (zX.mk {a1.Grey with C:=y1.2.1} {a1.s with M:=y1.1},()):=zF
theorem zxP (a1:za) (a2:zJ):zdS a1 a2 =
 bif !(decide (a2.Out=0)) then
 some (a1,a2,())
 else
 bif decide (a2.Mode<1) then
  some (a1,a2,())
 else
  bif decide (3<a2.Mode) then
  some (a1,a2,())
  else
  bif decide (a2.PC<0) then
   some (a1,a2,())
  else
   bif decide (8<=a2.PC) then
   some (a1,a2,())
   else
   bif decide (a2.PC=7) then
    (zb3 (zX.mk a2 a1)).bind fun y1 =>
    some (y1.1.s,y1.1.Grey,())
   else
    bif decide (a2.PC=6) then
    (zdE (zX.mk a2 a1)).bind fun y2 =>
    let y2a:=y2.2.2.2.2.2.2.2.2
    some (za.mk y2.2.1 y2.2.2.1 y2.2.2.2.1 y2a.2.2.2.2.2.2.2.1 y2.2.2.2.2.1 y2.2.2.2.2.2.1 y2.2.2.2.2.2.2.1 y2.2.2.2.2.2.2.2.1 y2a.1 y2a.2.1 y2a.2.2.1 y2a.2.2.2.1 y2a.2.2.2.2.1 y2a.2.2.2.2.2.1 y2a.2.2.2.2.2.2.1,y2.1,())
    else
    bif decide (a2.PC=5) then
     (zdC (zX.mk a2 a1)).bind fun y3 =>
     some (y3.1.s,y3.1.Grey,())
    else
     bif decide (a2.PC=4) then
     (zdT (zX.mk a2 a1)).bind fun y4 =>
     some (y4.1.s,y4.1.Grey,())
     else
     bif decide (a2.PC=3) then
      (zdQ (zX.mk a2 a1)).bind fun y5 =>
      some (y5.1.s,y5.1.Grey,())
     else
      bif decide (a2.PC=2) then
      (zdF (zX.mk a2 a1)).bind fun y6 =>
      some (y6.1.s,y6.1.Grey,())
      else
      bif decide (a2.PC=1) then
       (zdY (zX.mk a2 a1)).bind fun y7 =>
       some (y7.1.s,y7.1.Grey,())
      else
       bif decide (a2.PC=0) then
       (zbP (zX.mk a2 a1)).bind fun y8 =>
       some (y8.1.s,y8.1.Grey,())
       else
       none:=zF
theorem zlX (a1:zx) (a2:Int):Yb a1 a2 =
 bif decide (1<=a2) then
 some (decide (a2<=((a1.Bal.length:Int))),())
 else
 some (false,()):=zF
theorem zrN (a1:Int):zfd a1 =
 some (w64 (a1+1),()):=zF
theorem zaa (a1:zx) (a2:Int):YS a1 a2 =
 bif decide (((a1.Bal.length:Int))=((a1.Bal.length:Int))) then
 (Vn ((a1.Bal.length:Int))).bind fun n1 =>
 bif decide (a1.Bal.length=((List.replicate n1 ((0:Int))).length)) then
  bif a1.Bal.isEmpty then
  (wg (List.replicate n1 ((0:Int))) (w64 (a2-1))).bind fun n2 =>
  ((List.replicate n1 ((0:Int)))[n2]?).bind fun x3 =>
  (zfd x3).bind fun y4 =>
  (wg (List.replicate n1 ((0:Int))) (w64 (a2-1))).bind fun n5 =>
  some ({a1 with Bal:=(List.replicate n1 ((0:Int))).set n5 y4.1},())
  else
  (wg a1.Bal (w64 (a2-1))).bind fun n6 =>
  (a1.Bal[n6]?).bind fun x7 =>
  (zfd x7).bind fun y8 =>
  (wg a1.Bal (w64 (a2-1))).bind fun n9 =>
  some ({a1 with Bal:=a1.Bal.set n9 y8.1},())
 else
  none
 else
 none:=zF
theorem zun (a1:zx) (a2:Int):zbm a1 a2 =
 (Yb ({a1 with Scanned:=w64 (a1.Scanned+1)}) a2).bind fun y1 =>
 bif !y1.1 then
 some ({a1 with Scanned:=w64 (a1.Scanned+1),Pool:=w64 (a1.Pool+1)},())
 else
 (YS ({a1 with Scanned:=w64 (a1.Scanned+1)}) a2).bind fun y2 =>
 some (y2.1,()):=zF
theorem zm0 (a1:z3):za4 a1 =
 bif decide (a1.Worker.PC=0) then
 bif decide (a1.Worker.PC=0) then
  (Vt a1).bind fun y1 =>
  some (y1.1,())
 else
  bif decide (a1.Worker.PC=2) then
  (Zq a1).bind fun y2 =>
  bif decide (y2.1=1) then
   some ({y2.2.1 with Worker:={y2.2.1.Worker with PC:=3,Bin:=y2.2.1.Worker.C.X}},())
  else
   bif decide (y2.1=2) then
   (uV y2.2.1).bind fun y3 =>
   some (y3.1,())
   else
   some (y2.2.1,())
  else
  bif decide (a1.Worker.PC=3) then
   (zaO a1).bind fun y4 =>
   some (y4.1,())
  else
   bif decide (a1.Worker.PC=4) then
   (Zq a1).bind fun y5 =>
   bif decide (y5.1=1) then
    some ({y5.2.1 with Worker:={y5.2.1.Worker with PC:=7,Bin:=0}},())
   else
    some (y5.2.1,())
   else
   bif decide (a1.Worker.PC=5) then
    (zba a1).bind fun y6 =>
    some (y6.1,())
   else
    bif decide (a1.Worker.PC=6) then
    (zdS a1.s a1.Worker.G).bind fun y7 =>
    bif decide (y7.2.1.Out=1) then
     (Uj (z3.mk {a1.Worker with G:=y7.2.1} y7.1 a1.w)).bind fun y8 =>
     some (z3.mk {a1.Worker with PC:=y8.1,G:=y7.2.1} y7.1 a1.w,())
    else
     some (z3.mk {a1.Worker with G:=y7.2.1} y7.1 a1.w,())
    else
    bif decide (a1.Worker.PC=7) then
     bif decide (((a1.Worker.Batch.length:Int))=0) then
     (uV a1).bind fun y9 =>
     some (y9.1,())
     else
     (idx a1.Worker.Batch 0).bind fun x10 =>
     (WH x10 a1).bind fun y11 =>
     (cut y11.1.Worker.Batch 1 ((y11.1.Worker.Batch.length:Int))).bind fun l12 =>
     some ({y11.1 with Worker:={y11.1.Worker with Batch:=l12}},())
    else
     bif decide (a1.Worker.PC=8) then
     (Uo a1.s.T a1.Worker.Obj).bind fun y13 =>
     (zbm a1.s.L 0).bind fun y14 =>
     some (z3.mk {a1.Worker with PC:=9} {a1.s with T:=y13.1,L:=y14.1} a1.w,())
     else
     bif decide (a1.Worker.PC=9) then
      some (z3.mk {a1.Worker with PC:=7,Obj:=0} {a1.s with Work:=w64 (a1.s.Work-1)} a1.w,())
     else
      some (a1,())
 else
 bif decide (a1.Worker.PC=1) then
  (Vt a1).bind fun y15 =>
  some (y15.1,())
 else
  bif decide (a1.Worker.PC=2) then
  (Zq a1).bind fun y16 =>
  bif decide (y16.1=1) then
   some ({y16.2.1 with Worker:={y16.2.1.Worker with PC:=3,Bin:=y16.2.1.Worker.C.X}},())
  else
   bif decide (y16.1=2) then
   (uV y16.2.1).bind fun y17 =>
   some (y17.1,())
   else
   some (y16.2.1,())
  else
  bif decide (a1.Worker.PC=3) then
   (zaO a1).bind fun y18 =>
   some (y18.1,())
  else
   bif decide (a1.Worker.PC=4) then
   (Zq a1).bind fun y19 =>
   bif decide (y19.1=1) then
    some ({y19.2.1 with Worker:={y19.2.1.Worker with PC:=7,Bin:=0}},())
   else
    some (y19.2.1,())
   else
   bif decide (a1.Worker.PC=5) then
    (zba a1).bind fun y20 =>
    some (y20.1,())
   else
    bif decide (a1.Worker.PC=6) then
    (zdS a1.s a1.Worker.G).bind fun y21 =>
    bif decide (y21.2.1.Out=1) then
     (Uj (z3.mk {a1.Worker with G:=y21.2.1} y21.1 a1.w)).bind fun y22 =>
     some (z3.mk {a1.Worker with PC:=y22.1,G:=y21.2.1} y21.1 a1.w,())
    else
     some (z3.mk {a1.Worker with G:=y21.2.1} y21.1 a1.w,())
    else
    bif decide (a1.Worker.PC=7) then
     bif decide (((a1.Worker.Batch.length:Int))=0) then
     (uV a1).bind fun y23 =>
     some (y23.1,())
     else
     (idx a1.Worker.Batch 0).bind fun x24 =>
     (WH x24 a1).bind fun y25 =>
     (cut y25.1.Worker.Batch 1 ((y25.1.Worker.Batch.length:Int))).bind fun l26 =>
     some ({y25.1 with Worker:={y25.1.Worker with Batch:=l26}},())
    else
     bif decide (a1.Worker.PC=8) then
     (Uo a1.s.T a1.Worker.Obj).bind fun y27 =>
     (zbm a1.s.L 0).bind fun y28 =>
     some (z3.mk {a1.Worker with PC:=9} {a1.s with T:=y27.1,L:=y28.1} a1.w,())
     else
     bif decide (a1.Worker.PC=9) then
      some (z3.mk {a1.Worker with PC:=7,Obj:=0} {a1.s with Work:=w64 (a1.s.Work-1)} a1.w,())
     else
      some (a1,()):=zF
theorem Ux (a1:List zj):vV a1 =
 bif a1.isEmpty then
 zlG (
  some (([]:List zj),())) (
  (yD (([]:List zj)++a1)).bind fun l1 =>
  some (l1,()))
 else
 (yD (([]:List zj)++a1)).bind fun l2 =>
 some (l2,()):=zF
theorem zuz (a1:za) (a2:Int):zjJ a1 a2 =
 bif a1.Done then
 some (a1,())
 else
 bif decide (a2<1) then
  some (a1,())
 else
  bif decide (((a1.Ws.length:Int))<a2) then
  some (a1,())
  else
  (idx a1.Ws (w64 (a2-1))).bind fun x1 =>
  (za4 (z3.mk x1 a1 a2)).bind fun y2 =>
  (vV y2.1.s.Ws).bind fun y3 =>
  (wg y3.1 (w64 (a2-1))).bind fun n4 =>
  some ({y2.1.s with Ws:=y3.1.set n4 y2.1.Worker},()):=zF
theorem zrb (a1:zH):ua a1 =
 (idx a1.s.P.Progs (w64 (a1.m-1))).bind fun x1 =>
 (idx x1 a1.Mutator.IP).bind fun x2 =>
 some (x2,()):=zF
theorem YI (a1:zH):Yi a1 =
 some ({a1 with Mutator:={a1.Mutator with PC:=0,IP:=w64 (a1.Mutator.IP+1)}},()):=zF
theorem zmY (a1:Int) (a2:Int) (a3:zH):Zl a1 a2 a3 =
 (yZ a3.Mutator.Regs).bind fun y1 =>
 (wg y1.1 a1).bind fun n2 =>
 (Yi ({a3 with Mutator:={a3.Mutator with Regs:=y1.1.set n2 a2}})).bind fun y3 =>
 some (y3.1,()):=zF
theorem zkS (a1:zH):UE a1 =
 (idx a1.s.Acks (w64 (a1.m-1))).bind fun x1 =>
 bif decide (x1<a1.s.Epoch) then
 some ({a1 with Mutator:={a1.Mutator with PC:=1,Ret:=2,Want:=a1.s.Epoch}},())
 else
 (idx a1.s.P.Progs (w64 (a1.m-1))).bind fun x2 =>
 bif decide (((x2.length:Int))<=a1.Mutator.IP) then
  some (a1,())
 else
  (ua a1).bind fun y3 =>
  bif decide (y3.1.Kind=1) then
  some ({a1 with Mutator:={a1.Mutator with PC:=10}},())
  else
  bif decide (y3.1.Kind=2) then
   some ({a1 with Mutator:={a1.Mutator with PC:=20}},())
  else
   bif decide (y3.1.Kind=3) then
   some ({a1 with Mutator:={a1.Mutator with PC:=30}},())
   else
   bif decide (y3.1.Kind=4) then
    (idx a1.Mutator.Regs y3.1.A).bind fun x4 =>
    (Zl y3.1.R x4 a1).bind fun y5 =>
    some (y5.1,())
   else
    (Zl y3.1.R 0 a1).bind fun y6 =>
    some (y6.1,()):=zF
theorem zk4 (a1:zH):zdx a1 =
 bif decide ((w64 (((a1.Mutator.Buf.length:Int))-1))<0) then
 some ({a1 with Mutator:={a1.Mutator with PC:=a1.Mutator.Ret}},())
 else
 (idx a1.Mutator.Buf (w64 (((a1.Mutator.Buf.length:Int))-1))).bind fun x1 =>
 (zcw 2 x1 a1.m).bind fun y2 =>
 (cut a1.Mutator.Buf 0 (w64 (((a1.Mutator.Buf.length:Int))-1))).bind fun l3 =>
 some ({a1 with Mutator:={a1.Mutator with PC:=3,Buf:=l3,G:=y2.1}},()):=zF
theorem zna (a1:zH):zfl a1 =
 (yZ a1.s.Acks).bind fun y1 =>
 (wg y1.1 (w64 (a1.m-1))).bind fun n2 =>
 some ({a1.Mutator with PC:=0},a1.s.P,a1.s.H,a1.s.M,a1.s.Bins,a1.s.T,a1.s.Work,a1.s.Epoch,a1.s.Flag,a1.s.Done,a1.s.Restarts,a1.s.L,a1.s.Ws,a1.s.Ms,a1.s.D,a1.m,y1.1.set n2 a1.Mutator.Want,()):=zF
theorem zjp (a1:Int) (a2:zH):YX a1 a2 =
 (zdS a2.s a2.Mutator.G).bind fun y1 =>
 bif decide (y1.2.1.Out=1) then
 some (zH.mk {a2.Mutator with PC:=a1,G:=y1.2.1} y1.1 a2.m,())
 else
 some (zH.mk {a2.Mutator with G:=y1.2.1} y1.1 a2.m,()):=zF
theorem zkz (a1:zH):zdA a1 =
 (YX 1 a1).bind fun y1 =>
 some (y1.1,()):=zF
theorem zpM (a1:zH):V2 a1 =
 (ua a1).bind fun y1 =>
 (idx a1.Mutator.Regs y1.1.A).bind fun x2 =>
 (ua a1).bind fun y3 =>
 (zf0 a1.s.H x2 y3.1.S).bind fun y4 =>
 some (y4.1,()):=zF
theorem zlO (a1:zH):zeV a1 =
 (ua a1).bind fun y1 =>
 (V2 a1).bind fun y2 =>
 (Zl y1.1.R y2.1 a1).bind fun y3 =>
 some (y3.1,()):=zF
theorem zmO (a1:zH):zfp a1 =
 (ua a1).bind fun y1 =>
 (idx a1.Mutator.Regs y1.1.A).bind fun x2 =>
 bif decide (x2=0) then
 (Yi a1).bind fun y3 =>
 some (y3.1,())
 else
 (V2 a1).bind fun y4 =>
 some ({a1 with Mutator:={a1.Mutator with PC:=21,Old:=y4.1}},()):=zF
theorem zlf (a1:zH):zdv a1 =
 bif decide (a1.Mutator.Old=0) then
 some ({a1 with Mutator:={a1.Mutator with PC:=23,Old:=0}},())
 else
 (znr a1.s.T a1.Mutator.Old).bind fun y1 =>
 bif !(decide (y1.1=0)) then
  some ({a1 with Mutator:={a1.Mutator with PC:=23,Old:=0}},())
 else
  some ({a1 with Mutator:={a1.Mutator with PC:=22}},()):=zF
theorem zhl (a1:zH):zbV a1 =
 bif decide (a1.s.P.Buf<=((a1.Mutator.Buf.length:Int))) then
 some ({a1 with Mutator:={a1.Mutator with PC:=1,Ret:=22}},())
 else
 (yZ a1.Mutator.Buf).bind fun y1 =>
 (yD (y1.1++([a1.Mutator.Old]:zy))).bind fun l2 =>
 some ({a1 with Mutator:={a1.Mutator with PC:=23,Old:=0,Buf:=l2}},()):=zF
theorem zzX (a1:zr) (a2:Int) (a3:Int) (a4:Int):zqk a1 a2 a3 a4 =
 (UX a1 a2 a3).bind fun y1 =>
 bif !y1.1 then
 some (a1,false,())
 else
 bif decide (a4<0) then
  some (a1,false,())
 else
  bif decide (((a1.Objs.length:Int))<a4) then
  some (a1,false,())
  else
  (vv a1.Objs).bind fun y2 =>
  (wg y2.1 (w64 (a2-1))).bind fun n3 =>
  (y2.1[n3]?).bind fun x4 =>
  (yZ x4).bind fun y5 =>
  (wg y2.1 (w64 (a2-1))).bind fun n6 =>
  (wg y2.1 (w64 (a2-1))).bind fun n7 =>
  bif decide (n7=n6) then
   (wg y5.1 a3).bind fun n8 =>
   some ({a1 with Objs:=y2.1.set n6 (y5.1.set n8 a4)},true,())
  else
   none:=zF
theorem zkX (a1:zH):zdG a1 =
 (ua a1).bind fun y1 =>
 (idx a1.Mutator.Regs y1.1.A).bind fun x2 =>
 (idx a1.Mutator.Regs y1.1.R).bind fun x3 =>
 (zqk a1.s.H x2 y1.1.S x3).bind fun y4 =>
 (Yi ({a1 with s:={a1.s with H:=y4.1}})).bind fun y5 =>
 some (y5.1,()):=zF
theorem zrq (a1:Int) (a2:Int):zbb a1 a2 =
 some (w64 (a1-a2),()):=zF
theorem UR (a1:zx) (a2:Int) (a3:Int):Yz a1 a2 a3 =
 bif decide (((a1.Bal.length:Int))=((a1.Bal.length:Int))) then
 (Vn ((a1.Bal.length:Int))).bind fun n1 =>
 bif decide (a1.Bal.length=((List.replicate n1 ((0:Int))).length)) then
  bif a1.Bal.isEmpty then
  (wg (List.replicate n1 ((0:Int))) (w64 (a2-1))).bind fun n2 =>
  ((List.replicate n1 ((0:Int)))[n2]?).bind fun x3 =>
  (zbb x3 a3).bind fun y4 =>
  (wg (List.replicate n1 ((0:Int))) (w64 (a2-1))).bind fun n5 =>
  some ({a1 with Bal:=(List.replicate n1 ((0:Int))).set n5 y4.1},())
  else
  (wg a1.Bal (w64 (a2-1))).bind fun n6 =>
  (a1.Bal[n6]?).bind fun x7 =>
  (zbb x7 a3).bind fun y8 =>
  (wg a1.Bal (w64 (a2-1))).bind fun n9 =>
  some ({a1 with Bal:=a1.Bal.set n9 y8.1},())
 else
  none
 else
 none:=zF
theorem zlb (a1:zx) (a2:Int) (a3:Int) (a4:Int):Xg a1 a2 a3 a4 =
 (Yb a1 a2).bind fun y1 =>
 bif y1.1 then
 bif decide (0<=(bif decide (a4<a3) then a4 else a3)) then
  some (decide ((bif decide (a3<a4) then a4 else a3)<=1000000),())
 else
  some (false,())
 else
 some (false,()):=zF
theorem zxb (a1:zx) (a2:Int) (a3:Int) (a4:Int):zfU a1 a2 a3 a4 =
 (Xg a1 a2 a3 a4).bind fun y1 =>
 bif y1.1 then
 (idx a1.Bal (w64 (a2-1))).bind fun x2 =>
 some (decide ((w64 (0-a4))<=(w64 (x2-a3))),())
 else
 some (false,()):=zF
theorem zth (a1:zx) (a2:Int) (a3:Int) (a4:Int):zhi a1 a2 a3 a4 =
 (zfU a1 a2 a3 a4).bind fun y1 =>
 bif !y1.1 then
 some (a1,false,())
 else
 (Yz ({a1 with Spent:=w64 (a1.Spent+a3)}) a2 a3).bind fun y2 =>
 some (y2.1,true,()):=zF
theorem zkF (a1:zH):zdO a1 =
 (zhi a1.s.L a1.m a1.s.P.Price a1.s.P.Limit).bind fun y1 =>
 bif !y1.2.1 then
 some ({a1 with Mutator:={a1.Mutator with PC:=31}},())
 else
 (zfs a1.s.H a1.s.P.Most).bind fun y2 =>
 bif !(decide (y2.2.2.1=0)) then
  (Yi a1).bind fun y3 =>
  some (y3.1,())
 else
  (zcg a1.s.T y2.2.1).bind fun y4 =>
  (ua ({a1 with s:={a1.s with H:=y2.1,T:=y4.1,L:=y1.1}})).bind fun y5 =>
  (Zl y5.1.R y2.2.1 ({a1 with s:={a1.s with H:=y2.1,T:=y4.1,L:=y1.1}})).bind fun y6 =>
  some (y6.1,()):=zF
theorem zsa (a1:Int) (a2:Int):zbQ a1 a2 =
 some (w64 (a1+a2),()):=zF
theorem U9 (a1:zx) (a2:Int) (a3:Int):YR a1 a2 a3 =
 bif decide (((a1.Bal.length:Int))=((a1.Bal.length:Int))) then
 (Vn ((a1.Bal.length:Int))).bind fun n1 =>
 bif decide (a1.Bal.length=((List.replicate n1 ((0:Int))).length)) then
  bif a1.Bal.isEmpty then
  (wg (List.replicate n1 ((0:Int))) (w64 (a2-1))).bind fun n2 =>
  ((List.replicate n1 ((0:Int)))[n2]?).bind fun x3 =>
  (zbQ x3 a3).bind fun y4 =>
  (wg (List.replicate n1 ((0:Int))) (w64 (a2-1))).bind fun n5 =>
  some ({a1 with Bal:=(List.replicate n1 ((0:Int))).set n5 y4.1},())
  else
  (wg a1.Bal (w64 (a2-1))).bind fun n6 =>
  (a1.Bal[n6]?).bind fun x7 =>
  (zbQ x7 a3).bind fun y8 =>
  (wg a1.Bal (w64 (a2-1))).bind fun n9 =>
  some ({a1 with Bal:=a1.Bal.set n9 y8.1},())
 else
  none
 else
 none:=zF
theorem zuy (a1:zx) (a2:Int) (a3:Int):zj8 a1 a2 a3 =
 (Yb a1 a2).bind fun y1 =>
 bif !y1.1 then
 some (a1,0,())
 else
 bif decide ((bif decide (a1.Pool<a3) then a1.Pool else a3)<=0) then
  some (a1,0,())
 else
  (YR ({a1 with Pool:=w64 (a1.Pool-(bif decide (a1.Pool<a3) then a1.Pool else a3))}) a2 (bif decide (a1.Pool<a3) then a1.Pool else a3)).bind fun y2 =>
  some (y2.1,bif decide (a1.Pool<a3) then a1.Pool else a3,()):=zF
theorem ztE (a1:zx) (a2:Int) (a3:Int) (a4:Int):zht a1 a2 a3 a4 =
 (Xg a1 a2 a3 a4).bind fun y1 =>
 bif !y1.1 then
 some (-1,())
 else
 (zfU a1 a2 a3 a4).bind fun y2 =>
 bif y2.1 then
  some (0,())
 else
  (idx a1.Bal (w64 (a2-1))).bind fun x3 =>
  some (w64 ((w64 (a3-a4))-x3),()):=zF
theorem zlB (a1:Int) (a2:Int) (a3:Int) (a4:zH):XN a1 a2 a3 a4 =
 (YM a4.s.P).bind fun y1 =>
 (zbh a1 a2 y1.1 a4.Mutator.Bin).bind fun y2 =>
 some ({a4 with Mutator:={a4.Mutator with PC:=a3,C:=y2.1}},()):=zF
theorem zma (a1:zH):zeX a1 =
 (zht a1.s.L a1.m a1.s.P.Price a1.s.P.Limit).bind fun y1 =>
 (zj8 a1.s.L a1.m y1.1).bind fun y2 =>
 bif decide (y2.2.1=0) then
 (XA a1.s.P).bind fun y3 =>
 (XN 2 y3.1 32 (zH.mk {a1.Mutator with PC:=0} {a1.s with L:=y2.1} a1.m)).bind fun y4 =>
 some (y4.1,())
 else
 some (zH.mk {a1.Mutator with PC:=0} {a1.s with L:=y2.1} a1.m,()):=zF
theorem zm6 (a1:zH):zf3 a1 =
 (W7 a1.s.M a1.Mutator.C).bind fun y1 =>
 bif decide (y1.2.1.Out=1) then
 some (zH.mk {a1.Mutator with PC:=33,Bin:=y1.2.1.X,C:=y1.2.1} {a1.s with M:=y1.1} a1.m,())
 else
 bif decide (y1.2.1.Out=2) then
  some (zH.mk {a1.Mutator with PC:=0,C:=y1.2.1} {a1.s with M:=y1.1} a1.m,())
 else
  some (zH.mk {a1.Mutator with C:=y1.2.1} {a1.s with M:=y1.1} a1.m,()):=zF
theorem zkw (a1:zH):zdw a1 =
 (idx a1.s.Bins a1.Mutator.Bin).bind fun x1 =>
 (vv a1.s.Bins).bind fun y2 =>
 (wg y2.1 a1.Mutator.Bin).bind fun n3 =>
 (XQ a1.s.P).bind fun y4 =>
 (XN 1 y4.1 34 (zH.mk {a1.Mutator with Batch:=x1} {a1.s with Bins:=y2.1.set n3 ([]:zy)} a1.m)).bind fun y5 =>
 some (y5.1,()):=zF
theorem zlU (a1:zH):zeH a1 =
 (W7 a1.s.M a1.Mutator.C).bind fun y1 =>
 bif decide (y1.2.1.Out=1) then
 some (zH.mk {a1.Mutator with PC:=35,Bin:=0,C:=y1.2.1} {a1.s with M:=y1.1} a1.m,())
 else
 some (zH.mk {a1.Mutator with C:=y1.2.1} {a1.s with M:=y1.1} a1.m,()):=zF
theorem zk2 (a1:zH):zdJ a1 =
 bif decide (0<((a1.Mutator.Batch.length:Int))) then
 (idx a1.Mutator.Batch 0).bind fun x1 =>
 (cut a1.Mutator.Batch 1 ((a1.Mutator.Batch.length:Int))).bind fun l2 =>
 some ({a1 with Mutator:={a1.Mutator with PC:=36,Obj:=x1,Slot:=0,Batch:=l2}},())
 else
 some ({a1 with Mutator:={a1.Mutator with PC:=0}},()):=zF
theorem zrt (a1:zH):za0 a1 =
 bif decide (a1.Mutator.Slot=a1.s.H.Slots) then
 some (38,())
 else
 some (36,()):=zF
theorem zmp (a1:zH):zeU a1 =
 (zf0 a1.s.H a1.Mutator.Obj a1.Mutator.Slot).bind fun y1 =>
 (za0 ({a1 with Mutator:={a1.Mutator with Slot:=w64 (a1.Mutator.Slot+1)}})).bind fun y2 =>
 bif !(decide (y1.1=0)) then
 (zcw 3 y1.1 a1.m).bind fun y3 =>
 some ({a1 with Mutator:={a1.Mutator with PC:=37,Slot:=w64 (a1.Mutator.Slot+1),G:=y3.1}},())
 else
 some ({a1 with Mutator:={a1.Mutator with PC:=y2.1,Slot:=w64 (a1.Mutator.Slot+1)}},()):=zF
theorem zm8 (a1:zH):zfA a1 =
 (za0 a1).bind fun y1 =>
 (YX y1.1 a1).bind fun y2 =>
 some (y2.1,()):=zF
theorem zi1 (a1:zH):zcz a1 =
 (Uo a1.s.T a1.Mutator.Obj).bind fun y1 =>
 (zbm a1.s.L a1.m).bind fun y2 =>
 some (zH.mk {a1.Mutator with PC:=39} {a1.s with T:=y1.1,L:=y2.1} a1.m,()):=zF
theorem ziy (a1:zH):zcH a1 =
 some (zH.mk {a1.Mutator with PC:=35,Obj:=0} {a1.s with Work:=w64 (a1.s.Work-1)} a1.m,()):=zF
theorem zlP (a1:zH):zaq a1 =
 bif decide (a1.Mutator.PC=0) then
 (UE a1).bind fun y1 =>
 some (y1.1,())
 else
 bif decide (a1.Mutator.PC=1) then
  (zdx a1).bind fun y2 =>
  some (y2.1,())
 else
  bif decide (a1.Mutator.PC=2) then
  (zfl a1).bind fun y3 =>
  let y3a:=y3.2.2.2.2.2.2.2.2;let y3b:=y3a.2.2.2.2.2.2.2.2
  some (zH.mk y3.1 (za.mk y3.2.1 y3.2.2.1 y3.2.2.2.1 y3.2.2.2.2.1 y3.2.2.2.2.2.1 y3.2.2.2.2.2.2.1 y3.2.2.2.2.2.2.2.1 y3a.1 y3a.2.1 y3a.2.2.1 y3b.1 y3a.2.2.2.1 y3a.2.2.2.2.1 y3a.2.2.2.2.2.1 y3a.2.2.2.2.2.2.1) y3a.2.2.2.2.2.2.2.1,())
  else
  bif decide (a1.Mutator.PC=3) then
   (zdA a1).bind fun y4 =>
   some (y4.1,())
  else
   bif decide (a1.Mutator.PC=10) then
   (zeV a1).bind fun y5 =>
   some (y5.1,())
   else
   bif decide (a1.Mutator.PC=20) then
    (zfp a1).bind fun y6 =>
    some (y6.1,())
   else
    bif decide (a1.Mutator.PC=21) then
    (zdv a1).bind fun y7 =>
    some (y7.1,())
    else
    bif decide (a1.Mutator.PC=22) then
     (zbV a1).bind fun y8 =>
     some (y8.1,())
    else
     bif decide (a1.Mutator.PC=23) then
     (zdG a1).bind fun y9 =>
     some (y9.1,())
     else
     bif decide (a1.Mutator.PC=30) then
      (zdO a1).bind fun y10 =>
      some (y10.1,())
     else
      bif decide (a1.Mutator.PC=31) then
      (zeX a1).bind fun y11 =>
      some (y11.1,())
      else
      bif decide (a1.Mutator.PC=32) then
       (zf3 a1).bind fun y12 =>
       some (y12.1,())
      else
       bif decide (a1.Mutator.PC=33) then
       (zdw a1).bind fun y13 =>
       some (y13.1,())
       else
       bif decide (a1.Mutator.PC=34) then
        (zeH a1).bind fun y14 =>
        some (y14.1,())
       else
        bif decide (a1.Mutator.PC=35) then
        (zdJ a1).bind fun y15 =>
        some (y15.1,())
        else
        bif decide (a1.Mutator.PC=36) then
         (zeU a1).bind fun y16 =>
         some (y16.1,())
        else
         bif decide (a1.Mutator.PC=37) then
         (zfA a1).bind fun y17 =>
         some (y17.1,())
         else
         bif decide (a1.Mutator.PC=38) then
          (zcz a1).bind fun y18 =>
          some (y18.1,())
         else
          bif decide (a1.Mutator.PC=39) then
          (zcH a1).bind fun y19 =>
          some (y19.1,())
          else
          some (a1,()):=zF
end Go.Pe.G
namespace Go.Pe.G
open Go.Pe
theorem VP (a1:List ze):vF a1 =
 bif a1.isEmpty then
 zlG (
  some (([]:List ze),())) (
  (yD (([]:List ze)++a1)).bind fun l1 =>
  some (l1,()))
 else
 (yD (([]:List ze)++a1)).bind fun l2 =>
 some (l2,()):=zF
theorem ztw (a1:za) (a2:Int):zhR a1 a2 =
 bif a1.Done then
 some (a1,())
 else
 bif decide (a2<1) then
  some (a1,())
 else
  bif decide (((a1.Ms.length:Int))<a2) then
  some (a1,())
  else
  (idx a1.Ms (w64 (a2-1))).bind fun x1 =>
  (zaq (zH.mk x1 a1 a2)).bind fun y2 =>
  (vF y2.1.s.Ms).bind fun y3 =>
  (wg y3.1 (w64 (a2-1))).bind fun n4 =>
  some ({y2.1.s with Ms:=y3.1.set n4 y2.1.Mutator},()):=zF
theorem zuE (a1:za) (a2:zk):zd4 a1 a2 =
 (zl7 a2).bind fun y1 =>
 bif !y1.1 then
 some (a1,())
 else
 bif decide (a2.Kind=0) then
  (znM a1 a2.N).bind fun y2 =>
  some (y2.1,())
 else
  bif decide (a2.Kind=1) then
  (zjJ a1 a2.N).bind fun y3 =>
  some (y3.1,())
  else
  bif decide (a2.Kind=2) then
   (zhR a1 a2.N).bind fun y4 =>
   some (y4.1,())
  else
   none:=zF
theorem zsx (s1:List zk) (s2:List zk) (s3:Int) (s4:Int) (s5:za) (s6:Int) (s7:Int) (s8:Int) (s9:Int) (s10:Int) (s11:Int) (s12:Int) (s13:Int) (s14:Int) (s15:zB) (s16:Int) (s17:zn) (s18:Int) (s19:Int) (s20:Bool) (s21:Bool) (s22:Int) (s23:Int) (s24:Int) (s25:Int) (s26:zN) (s27:zD) (s28:zD) (s29:List (List zE)) (s30:List zk) (s31:zD) (s32:List zB) (s33:zD) (s34:zy) (s35:zy) (s36:List zj) (s37:List ze):zfh (s1,s2,s3,s4,s5,s6,s7,s8,s9,s10,s11,s12,s13,s14,s15,s16,s17,s18,s19,s20,s21,s22,s23,s24,s25,s26,s27,s28,s29,s30,s31,s32,s33,s34,s35,s36,s37,()) =
 bif decide (s4<s3) then
 (idx s2 s4).bind fun x1 =>
 bif s5.Done then
  some (.ret (s4,s5,()))
 else
  (zd4 s5 x1).bind fun y2 =>
  some (.again (s1,s2,s3,w64 (s4+1),y2.1,s6,s7,s8,s9,s10,s11,s12,s13,s14,s15,s16,s17,s18,s19,s20,s21,s22,s23,s24,s25,s26,s27,s28,s29,s30,s31,s32,s33,s34,s35,s36,s37,()))
 else
 some (.brk (s1,s5,s6,s7,s8,s9,s10,s11,s12,s13,s14,s15,s16,s17,s18,s19,s20,s21,s22,s23,s24,s25,s26,s27,s28,s29,s30,s31,s32,s33,s34,s35,s36,s37,())):=by kernel_rfl
theorem zvT (a1:za) (a2:List zk):WY a1 a2 =
 (yc zfh (a2,a2,(a2.length:Int),0,a1,0,0,0,0,0,0,0,0,0,0#64,0,zn.mk 0#64 0#64,0,0,false,false,0,0,0,0,zN.mk 0 0,([]:zD),([]:zD),([]:List (List zE)),([]:List zk),([]:zD),([]:List zB),([]:zD),([]:zy),([]:zy),([]:List zj),([]:List ze),())).bind fun st=>match st with
  | .again _=>none
  | .brk y1 =>
  some (y1.2.1,(y1.1.length:Int),())
  | .ret y1 =>
  some (y1.2.1,y1.1,()):=zF
theorem zz0 (a1:zy):zqA a1 =
 (zhx a1).bind fun y1 =>
 (zbv y1.1).bind fun y2 =>
 bif !(decide (y2.1=((a1.length:Int)))) then
 some (0#64,false,())
 else
 some (y1.1,true,()):=zF
theorem zzZ (a1:za):zwZ a1 =
 some (a1,()):=zF
theorem WL (s1:zD) (s2:Int) (s3:zD) (s4:Int) (s5:Int):wm (s1,s2,s3,s4,s5,()) =
 bif decide (s5<s4) then
 (idx s3 s5).bind fun x1 =>
 bif decide ((w64 (s2+((x1.length:Int))))<0) then
  none
 else
  some (.again (s1,w64 (s2+((x1.length:Int))),s3,s4,w64 (s5+1),()))
 else
 some (.brk (s1,s2,())):=by kernel_rfl
theorem X9 (s1:zD) (s2:Int) (s3:Int) (s4:zy):we (s1,s2,s3,s4,()) =
 bif decide (s3<s2) then
 (idx s1 s3).bind fun x1 =>
 (yD (s4++x1)).bind fun l2 =>
 some (.again (s1,s2,w64 (s3+1),l2,()))
 else
 some (.brk (s4,())):=by kernel_rfl
theorem zf7 (a1:zD):Xs a1 =
 (yc wm (a1,0,a1,(a1.length:Int),0,())).bind fun st=>match st with
  | .again _=>none
  | .brk y1 =>
  (zDV y1.2.1).bind fun y2 =>
  (yc we (y1.1,(y1.1.length:Int),0,y2.1,())).bind fun st=>match st with
   | .again _=>none
   | .brk y3 =>
   some (y3.1,())
   | .ret y3 =>
   none
  | .ret y1 =>
  none:=zF
theorem zAj (a1:zy) (a2:zy):zr8 a1 a2 =
 (Xs (([a1,a2]:zD))).bind fun y1 =>
 (zs6 y1.1).bind fun y2 =>
 some (y2.1,()):=zF
theorem zrw (s1:List zB) (s2:Int) (s3:Int) (s4:Int) (s5:zy):zfb (s1,s2,s3,s4,s5,()) =
 bif !(decide (s4=0)) then
 bif decide (((s5.length:Int))<(bif decide (1000<s3) then 1000 else s3)) then
  (yD (s5++([s4]:zy))).bind fun l1 =>
  (zav s1 (w64 (s2+s4))).bind fun y2 =>
  some (.again (s1,s2,s3,y2.1.toInt,l1,()))
 else
  some (.brk (s5,()))
 else
 some (.brk (s5,())):=by kernel_rfl
theorem zv7 (a1:List zB) (a2:Int) (a3:Int) (a4:Int):zmr a1 a2 a3 a4 =
 (zav a1 a2).bind fun y1 =>
 (Xn y1.1).bind fun y2 =>
 (yc zfb (a1,a3,a4,y2.1,([]:zy),())).bind fun st=>match st with
  | .again _=>none
  | .brk y3 =>
  some (y3.1,())
  | .ret y3 =>
  none:=zF
theorem zzv (a1:zy):yX a1 =
 (zs6 a1).bind fun y1 =>
 some (y1.1,()):=zF
theorem ziM (s1:Int) (s2:Int) (s3:za) (s4:zy) (s5:zy):Ua (s1,s2,s3,s4,s5,()) =
 bif decide (s2<s1) then
 (wg s5 s2).bind fun n1 =>
 (s5[n1]?).bind fun x2 =>
 bif decide (x2<((s3.Bins.length:Int))) then
  (idx s3.Bins x2).bind fun x3 =>
  (yD (s4++x3)).bind fun l4 =>
  some (.again (s1,w64 (s2+1),s3,l4,s5,()))
 else
  some (.again (s1,w64 (s2+1),s3,s4,s5,()))
 else
 some (.brk (s4,())):=by kernel_rfl
theorem zxc (a1:za):zch a1 =
 (XA a1.P).bind fun y1 =>
 (YM a1.P).bind fun y2 =>
 (zmr a1.M y1.1 y2.1 ((a1.Bins.length:Int))).bind fun y3 =>
 (yc Ua ((y3.1.length:Int),0,a1,([]:zy),y3.1,())).bind fun st=>match st with
  | .again _=>none
  | .brk y4 =>
  (yX y4.1).bind fun y5 =>
  some (y5.1,())
  | .ret y4 =>
  none:=zF
theorem zud (a1:za) (a2:Int) (a3:zg):zjG a1 a2 a3 =
 bif decide (a3.PC=3) then
 bif !(decide (a3.T=(a3.B-1#64))) then
  (xG a1.P a2).bind fun y1 =>
  bif decide ((BitVec.ofInt 64 a1.P.Cap)=0#64) then
  none
  else
  (XW a1.M (Yf.mk 1 (w64 ((w64 (y1.1+2))+(((a3.B-1#64)%(BitVec.ofInt 64 a1.P.Cap)).toInt))) 0#64 0#64)).bind fun y2 =>
  some (([y2.2.1.toInt]:zy),())
 else
  bif decide (a3.PC=6) then
  some (([a3.X]:zy),())
  else
  some (([]:zy),())
 else
 bif decide (a3.PC=6) then
  some (([a3.X]:zy),())
 else
  some (([]:zy),()):=zF
theorem zwq (a1:zJ):ZR a1 =
 (znA a1 3 7 a1.Obj).bind fun y1 =>
 some (y1.1,()):=zF
theorem zgi (s1:List zB) (s2:zB) (s3:zB) (s4:zg) (s5:zy):yy (s1,s2,s3,s4,s5,()) =
 bif !(decide (s3=s2)) then
 (uT s3 s4).bind fun y1 =>
 (uk s1 y1.1).bind fun y2 =>
 (yD (s5++([y2.1.toInt]:zy))).bind fun l3 =>
 some (.again (s1,s2,s3+1#64,s4,l3,()))
 else
 some (.brk (s5,())):=by kernel_rfl
theorem zuZ (a1:List zB) (a2:Int) (a3:Int) (a4:zg):wI a1 a2 a3 a4 =
 (ZP (zg.mk 0 0 a2 a3 0#64 0#64 0 0)).bind fun y1 =>
 (uk a1 y1.1).bind fun y2 =>
 (wD (zg.mk 0 0 a2 a3 0#64 0#64 0 0)).bind fun y3 =>
 (uk a1 y3.1).bind fun y4 =>
 bif decide (a4.Kind=2) then
 bif decide (a4.Out=0) then
  bif decide (a4.PC=2) then
  bif decide (a4.PC=2) then
   (xO (y4.1+1#64) y2.1).bind fun y5 =>
   bif !y5.1 then
   some (([]:zy),())
   else
   (yu (zg.mk 0 0 a2 a3 0#64 0#64 0 0)).bind fun y6 =>
   bif decide ((bif decide (64#64<y6.1) then 64#64 else y6.1)<((y4.1+1#64)-y2.1)) then
    some (([]:zy),())
   else
    (yc yy (a1,y4.1+1#64,y2.1,zg.mk 0 0 a2 a3 0#64 0#64 0 0,([]:zy),())).bind fun st=>match st with
     | .again _=>none
     | .brk y7 =>
     some (y7.1,())
     | .ret y7 =>
     none
  else
   bif decide (a4.PC=3) then
   bif decide (a4.T=(a4.B-1#64)) then
    (xO (y4.1+1#64) y2.1).bind fun y8 =>
    bif !y8.1 then
    some (([]:zy),())
    else
    (yu (zg.mk 0 0 a2 a3 0#64 0#64 0 0)).bind fun y9 =>
    bif decide ((bif decide (64#64<y9.1) then 64#64 else y9.1)<((y4.1+1#64)-y2.1)) then
     some (([]:zy),())
    else
     (yc yy (a1,y4.1+1#64,y2.1,zg.mk 0 0 a2 a3 0#64 0#64 0 0,([]:zy),())).bind fun st=>match st with
      | .again _=>none
      | .brk y10 =>
      some (y10.1,())
      | .ret y10 =>
      none
   else
    (xO y4.1 y2.1).bind fun y11 =>
    bif !y11.1 then
    some (([]:zy),())
    else
    (yu (zg.mk 0 0 a2 a3 0#64 0#64 0 0)).bind fun y12 =>
    bif decide ((bif decide (64#64<y12.1) then 64#64 else y12.1)<(y4.1-y2.1)) then
     some (([]:zy),())
    else
     (yc yy (a1,y4.1,y2.1,zg.mk 0 0 a2 a3 0#64 0#64 0 0,([]:zy),())).bind fun st=>match st with
      | .again _=>none
      | .brk y13 =>
      some (y13.1,())
      | .ret y13 =>
      none
   else
   (xO y4.1 y2.1).bind fun y14 =>
   bif !y14.1 then
    some (([]:zy),())
   else
    (yu (zg.mk 0 0 a2 a3 0#64 0#64 0 0)).bind fun y15 =>
    bif decide ((bif decide (64#64<y15.1) then 64#64 else y15.1)<(y4.1-y2.1)) then
    some (([]:zy),())
    else
    (yc yy (a1,y4.1,y2.1,zg.mk 0 0 a2 a3 0#64 0#64 0 0,([]:zy),())).bind fun st=>match st with
     | .again _=>none
     | .brk y16 =>
     some (y16.1,())
     | .ret y16 =>
     none
  else
  bif decide (a4.PC=4) then
   bif decide (a4.PC=4) then
   (xO (y4.1+1#64) y2.1).bind fun y17 =>
   bif !y17.1 then
    some (([]:zy),())
   else
    (yu (zg.mk 0 0 a2 a3 0#64 0#64 0 0)).bind fun y18 =>
    bif decide ((bif decide (64#64<y18.1) then 64#64 else y18.1)<((y4.1+1#64)-y2.1)) then
    some (([]:zy),())
    else
    (yc yy (a1,y4.1+1#64,y2.1,zg.mk 0 0 a2 a3 0#64 0#64 0 0,([]:zy),())).bind fun st=>match st with
     | .again _=>none
     | .brk y19 =>
     some (y19.1,())
     | .ret y19 =>
     none
   else
   bif decide (a4.PC=3) then
    bif decide (a4.T=(a4.B-1#64)) then
    (xO (y4.1+1#64) y2.1).bind fun y20 =>
    bif !y20.1 then
     some (([]:zy),())
    else
     (yu (zg.mk 0 0 a2 a3 0#64 0#64 0 0)).bind fun y21 =>
     bif decide ((bif decide (64#64<y21.1) then 64#64 else y21.1)<((y4.1+1#64)-y2.1)) then
     some (([]:zy),())
     else
     (yc yy (a1,y4.1+1#64,y2.1,zg.mk 0 0 a2 a3 0#64 0#64 0 0,([]:zy),())).bind fun st=>match st with
      | .again _=>none
      | .brk y22 =>
      some (y22.1,())
      | .ret y22 =>
      none
    else
    (xO y4.1 y2.1).bind fun y23 =>
    bif !y23.1 then
     some (([]:zy),())
    else
     (yu (zg.mk 0 0 a2 a3 0#64 0#64 0 0)).bind fun y24 =>
     bif decide ((bif decide (64#64<y24.1) then 64#64 else y24.1)<(y4.1-y2.1)) then
     some (([]:zy),())
     else
     (yc yy (a1,y4.1,y2.1,zg.mk 0 0 a2 a3 0#64 0#64 0 0,([]:zy),())).bind fun st=>match st with
      | .again _=>none
      | .brk y25 =>
      some (y25.1,())
      | .ret y25 =>
      none
   else
    (xO y4.1 y2.1).bind fun y26 =>
    bif !y26.1 then
    some (([]:zy),())
    else
    (yu (zg.mk 0 0 a2 a3 0#64 0#64 0 0)).bind fun y27 =>
    bif decide ((bif decide (64#64<y27.1) then 64#64 else y27.1)<(y4.1-y2.1)) then
     some (([]:zy),())
    else
     (yc yy (a1,y4.1,y2.1,zg.mk 0 0 a2 a3 0#64 0#64 0 0,([]:zy),())).bind fun st=>match st with
      | .again _=>none
      | .brk y28 =>
      some (y28.1,())
      | .ret y28 =>
      none
  else
   bif decide (a4.PC=5) then
   (xO (y4.1+1#64) y2.1).bind fun y29 =>
   bif !y29.1 then
    some (([]:zy),())
   else
    (yu (zg.mk 0 0 a2 a3 0#64 0#64 0 0)).bind fun y30 =>
    bif decide ((bif decide (64#64<y30.1) then 64#64 else y30.1)<((y4.1+1#64)-y2.1)) then
    some (([]:zy),())
    else
    (yc yy (a1,y4.1+1#64,y2.1,zg.mk 0 0 a2 a3 0#64 0#64 0 0,([]:zy),())).bind fun st=>match st with
     | .again _=>none
     | .brk y31 =>
     some (y31.1,())
     | .ret y31 =>
     none
   else
   bif decide (a4.PC=3) then
    bif decide (a4.T=(a4.B-1#64)) then
    (xO (y4.1+1#64) y2.1).bind fun y32 =>
    bif !y32.1 then
     some (([]:zy),())
    else
     (yu (zg.mk 0 0 a2 a3 0#64 0#64 0 0)).bind fun y33 =>
     bif decide ((bif decide (64#64<y33.1) then 64#64 else y33.1)<((y4.1+1#64)-y2.1)) then
     some (([]:zy),())
     else
     (yc yy (a1,y4.1+1#64,y2.1,zg.mk 0 0 a2 a3 0#64 0#64 0 0,([]:zy),())).bind fun st=>match st with
      | .again _=>none
      | .brk y34 =>
      some (y34.1,())
      | .ret y34 =>
      none
    else
    (xO y4.1 y2.1).bind fun y35 =>
    bif !y35.1 then
     some (([]:zy),())
    else
     (yu (zg.mk 0 0 a2 a3 0#64 0#64 0 0)).bind fun y36 =>
     bif decide ((bif decide (64#64<y36.1) then 64#64 else y36.1)<(y4.1-y2.1)) then
     some (([]:zy),())
     else
     (yc yy (a1,y4.1,y2.1,zg.mk 0 0 a2 a3 0#64 0#64 0 0,([]:zy),())).bind fun st=>match st with
      | .again _=>none
      | .brk y37 =>
      some (y37.1,())
      | .ret y37 =>
      none
   else
    (xO y4.1 y2.1).bind fun y38 =>
    bif !y38.1 then
    some (([]:zy),())
    else
    (yu (zg.mk 0 0 a2 a3 0#64 0#64 0 0)).bind fun y39 =>
    bif decide ((bif decide (64#64<y39.1) then 64#64 else y39.1)<(y4.1-y2.1)) then
     some (([]:zy),())
    else
     (yc yy (a1,y4.1,y2.1,zg.mk 0 0 a2 a3 0#64 0#64 0 0,([]:zy),())).bind fun st=>match st with
      | .again _=>none
      | .brk y40 =>
      some (y40.1,())
      | .ret y40 =>
      none
 else
  (xO y4.1 y2.1).bind fun y41 =>
  bif !y41.1 then
  some (([]:zy),())
  else
  (yu (zg.mk 0 0 a2 a3 0#64 0#64 0 0)).bind fun y42 =>
  bif decide ((bif decide (64#64<y42.1) then 64#64 else y42.1)<(y4.1-y2.1)) then
   some (([]:zy),())
  else
   (yc yy (a1,y4.1,y2.1,zg.mk 0 0 a2 a3 0#64 0#64 0 0,([]:zy),())).bind fun st=>match st with
    | .again _=>none
    | .brk y43 =>
    some (y43.1,())
    | .ret y43 =>
    none
 else
 (xO y4.1 y2.1).bind fun y44 =>
 bif !y44.1 then
  some (([]:zy),())
 else
  (yu (zg.mk 0 0 a2 a3 0#64 0#64 0 0)).bind fun y45 =>
  bif decide ((bif decide (64#64<y45.1) then 64#64 else y45.1)<(y4.1-y2.1)) then
  some (([]:zy),())
  else
  (yc yy (a1,y4.1,y2.1,zg.mk 0 0 a2 a3 0#64 0#64 0 0,([]:zy),())).bind fun st=>match st with
   | .again _=>none
   | .brk y46 =>
   some (y46.1,())
   | .ret y46 =>
   none:=zF
theorem zum (a1:za) (a2:Int):zec a1 a2 =
 bif decide (a2<1) then
 some (([]:zy),())
 else
 bif decide (((a1.Ws.length:Int))<a2) then
  some (([]:zy),())
 else
  (idx a1.Ws (w64 (a2-1))).bind fun x1 =>
  (yZ x1.Batch).bind fun y2 =>
  bif decide (x1.PC=0) then
  (zjG a1 a2 x1.D).bind fun y3 =>
  (yD (y2.1++y3.1)).bind fun l4 =>
  (xG a1.P a2).bind fun y5 =>
  (wI a1.M y5.1 a1.P.Cap x1.D).bind fun y6 =>
  (yD (l4++y6.1)).bind fun l7 =>
  (yX l7).bind fun y8 =>
  some (y8.1,())
  else
  bif decide (x1.PC=3) then
   (idx a1.Bins x1.Bin).bind fun x9 =>
   (yD (y2.1++x9)).bind fun l10 =>
   (xG a1.P a2).bind fun y11 =>
   (wI a1.M y11.1 a1.P.Cap (zg.mk 0 0 0 0 0#64 0#64 0 0)).bind fun y12 =>
   (yD (l10++y12.1)).bind fun l13 =>
   (yX l13).bind fun y14 =>
   some (y14.1,())
  else
   bif decide (x1.PC=5) then
   bif decide (x1.PC=5) then
    (yD (y2.1++([x1.Obj]:zy))).bind fun l15 =>
    (xG a1.P a2).bind fun y16 =>
    (wI a1.M y16.1 a1.P.Cap (zg.mk 0 0 0 0 0#64 0#64 0 0)).bind fun y17 =>
    (yD (l15++y17.1)).bind fun l18 =>
    (yX l18).bind fun y19 =>
    some (y19.1,())
   else
    bif decide (x1.PC=6) then
    (yD (y2.1++([x1.Obj]:zy))).bind fun l20 =>
    (ZR x1.G).bind fun y21 =>
    (zfV ([y21.1]:zy)).bind fun y22 =>
    (yD (l20++y22.1)).bind fun l23 =>
    bif decide (x1.G.PC=3) then
     (xG a1.P a2).bind fun y24 =>
     (wI a1.M y24.1 a1.P.Cap x1.G.D).bind fun y25 =>
     (yD (l23++y25.1)).bind fun l26 =>
     (yX l26).bind fun y27 =>
     some (y27.1,())
    else
     (xG a1.P a2).bind fun y28 =>
     (wI a1.M y28.1 a1.P.Cap (zg.mk 0 0 0 0 0#64 0#64 0 0)).bind fun y29 =>
     (yD (l23++y29.1)).bind fun l30 =>
     (yX l30).bind fun y31 =>
     some (y31.1,())
    else
    (xG a1.P a2).bind fun y32 =>
    (wI a1.M y32.1 a1.P.Cap (zg.mk 0 0 0 0 0#64 0#64 0 0)).bind fun y33 =>
    (yD (y2.1++y33.1)).bind fun l34 =>
    (yX l34).bind fun y35 =>
    some (y35.1,())
   else
   bif decide (x1.PC=8) then
    (yD (y2.1++([x1.Obj]:zy))).bind fun l36 =>
    (xG a1.P a2).bind fun y37 =>
    (wI a1.M y37.1 a1.P.Cap (zg.mk 0 0 0 0 0#64 0#64 0 0)).bind fun y38 =>
    (yD (l36++y38.1)).bind fun l39 =>
    (yX l39).bind fun y40 =>
    some (y40.1,())
   else
    bif decide (x1.PC=6) then
    (yD (y2.1++([x1.Obj]:zy))).bind fun l41 =>
    (ZR x1.G).bind fun y42 =>
    (zfV ([y42.1]:zy)).bind fun y43 =>
    (yD (l41++y43.1)).bind fun l44 =>
    bif decide (x1.G.PC=3) then
     (xG a1.P a2).bind fun y45 =>
     (wI a1.M y45.1 a1.P.Cap x1.G.D).bind fun y46 =>
     (yD (l44++y46.1)).bind fun l47 =>
     (yX l47).bind fun y48 =>
     some (y48.1,())
    else
     (xG a1.P a2).bind fun y49 =>
     (wI a1.M y49.1 a1.P.Cap (zg.mk 0 0 0 0 0#64 0#64 0 0)).bind fun y50 =>
     (yD (l44++y50.1)).bind fun l51 =>
     (yX l51).bind fun y52 =>
     some (y52.1,())
    else
    (xG a1.P a2).bind fun y53 =>
    (wI a1.M y53.1 a1.P.Cap (zg.mk 0 0 0 0 0#64 0#64 0 0)).bind fun y54 =>
    (yD (y2.1++y54.1)).bind fun l55 =>
    (yX l55).bind fun y56 =>
    some (y56.1,()):=zF
theorem ztI (a1:za) (a2:Int):zcV a1 a2 =
 bif decide (a2<1) then
 some (([]:zy),())
 else
 bif decide (((a1.Ms.length:Int))<a2) then
  some (([]:zy),())
 else
  (idx a1.Ms (w64 (a2-1))).bind fun x1 =>
  (yZ x1.Batch).bind fun y2 =>
  bif decide (x1.PC=33) then
  (idx a1.Bins x1.Bin).bind fun x3 =>
  (yD (y2.1++x3)).bind fun l4 =>
  bif decide (36<=x1.PC) then
   bif decide (x1.PC<=38) then
   (yD (l4++([x1.Obj]:zy))).bind fun l5 =>
   (Zc x1).bind fun y6 =>
   bif y6.1 then
    (ZR x1.G).bind fun y7 =>
    (zfV ([y7.1]:zy)).bind fun y8 =>
    (yD (l5++y8.1)).bind fun l9 =>
    (yX l9).bind fun y10 =>
    some (y10.1,())
   else
    (yX l5).bind fun y11 =>
    some (y11.1,())
   else
   (Zc x1).bind fun y12 =>
   bif y12.1 then
    (ZR x1.G).bind fun y13 =>
    (zfV ([y13.1]:zy)).bind fun y14 =>
    (yD (l4++y14.1)).bind fun l15 =>
    (yX l15).bind fun y16 =>
    some (y16.1,())
   else
    (yX l4).bind fun y17 =>
    some (y17.1,())
  else
   (Zc x1).bind fun y18 =>
   bif y18.1 then
   (ZR x1.G).bind fun y19 =>
   (zfV ([y19.1]:zy)).bind fun y20 =>
   (yD (l4++y20.1)).bind fun l21 =>
   (yX l21).bind fun y22 =>
   some (y22.1,())
   else
   (yX l4).bind fun y23 =>
   some (y23.1,())
  else
  bif decide (36<=x1.PC) then
   bif decide (x1.PC<=38) then
   (yD (y2.1++([x1.Obj]:zy))).bind fun l24 =>
   (Zc x1).bind fun y25 =>
   bif y25.1 then
    (ZR x1.G).bind fun y26 =>
    (zfV ([y26.1]:zy)).bind fun y27 =>
    (yD (l24++y27.1)).bind fun l28 =>
    (yX l28).bind fun y29 =>
    some (y29.1,())
   else
    (yX l24).bind fun y30 =>
    some (y30.1,())
   else
   (Zc x1).bind fun y31 =>
   bif y31.1 then
    (ZR x1.G).bind fun y32 =>
    (zfV ([y32.1]:zy)).bind fun y33 =>
    (yD (y2.1++y33.1)).bind fun l34 =>
    (yX l34).bind fun y35 =>
    some (y35.1,())
   else
    (yX y2.1).bind fun y36 =>
    some (y36.1,())
  else
   (Zc x1).bind fun y37 =>
   bif y37.1 then
   (ZR x1.G).bind fun y38 =>
   (zfV ([y38.1]:zy)).bind fun y39 =>
   (yD (y2.1++y39.1)).bind fun l40 =>
   (yX l40).bind fun y41 =>
   some (y41.1,())
   else
   (yX y2.1).bind fun y42 =>
   some (y42.1,()):=zF
theorem ztj (y:zy) (s1:zy):zcZ y (s1,()) =
 (zr8 s1 y).bind fun y1 =>
 some (y1.1,()):=by kernel_rfl
theorem zxi (a1:za):zbz a1 =
 (zwZ a1).bind fun y1 =>
 (zsG y1.1.P.Workers y1.1.P.Mutators y1.1.P.Cap y1.1.P.Buf y1.1.P.Bin y1.1.P.Most y1.1.P.Price y1.1.P.Limit y1.1.P.H.Slots y1.1.P.H.Objs y1.1.P.Roots y1.1.P.Regs y1.1.P.Progs y1.1.P.Picks y1.1.H.Slots y1.1.H.Objs y1.1.M y1.1.Bins y1.1.T.Marks y1.1.T.Black y1.1.Work y1.1.Epoch y1.1.Flag y1.1.Done y1.1.Restarts y1.1.Acks y1.1.L.Scanned y1.1.L.Spent y1.1.L.Pool y1.1.L.Bal y1.1.Ws y1.1.Ms y1.1.D.PC y1.1.D.I).bind fun (ys2:zD) =>
 (ZX zcZ ys2 (([]:zy),())).bind fun (y3:zy×Unit) =>
 some (y3.1,()):=zF
theorem zxl (a1:za):zbu a1 =
 (zbz a1).bind fun y1 =>
 (zqA y1.1).bind fun y2 =>
 bif y2.2.1 then
 (zfm a1.T).bind fun y3 =>
 some (decide (y2.1=y3.1),())
 else
 some (false,()):=zF
theorem zye (a1:zJ):zox a1 =
 (znA a1 1 2 1).bind fun y1 =>
 some (y1.1,()):=zF
theorem zku (s1:Int) (s2:Int) (s3:Int) (s4:za) (s5:List zJ):zao (s1,s2,s3,s4,s5,()) =
 bif decide (s3<s2) then
 (wg s5 s3).bind fun n1 =>
 (s5[n1]?).bind fun x2 =>
 (zox x2).bind fun y3 =>
 some (.again (w64 (s1+y3.1),s2,w64 (s3+1),s4,s5,()))
 else
 some (.brk (s1,s4,())):=by kernel_rfl
theorem zkh (s1:Int) (s2:List zj) (s3:Int) (s4:Int) (s5:za):zak (s1,s2,s3,s4,s5,()) =
 bif decide (s4<s3) then
 (idx s2 s4).bind fun x1 =>
 bif decide (x1.PC=9) then
  some (.again (w64 (s1+1),s2,s3,w64 (s4+1),s5,()))
 else
  some (.again (s1,s2,s3,w64 (s4+1),s5,()))
 else
 some (.brk (s1,s5,())):=by kernel_rfl
theorem ziH (s1:Int) (s2:List ze) (s3:Int) (s4:Int):Uh (s1,s2,s3,s4,()) =
 bif decide (s4<s3) then
 (idx s2 s4).bind fun x1 =>
 bif decide (x1.PC=39) then
  some (.again (w64 (s1+1),s2,s3,w64 (s4+1),()))
 else
  some (.again (s1,s2,s3,w64 (s4+1),()))
 else
 some (.brk (s1,())):=by kernel_rfl
theorem zx4 (a1:za):zoJ a1 =
 (zb6 a1).bind fun y1 =>
 (yc zao (0,(y1.1.length:Int),0,a1,y1.1,())).bind fun st=>match st with
  | .again _=>none
  | .brk y2 =>
  (yc zak (y2.1,y2.2.1.Ws,(y2.2.1.Ws.length:Int),0,y2.2.1,())).bind fun st=>match st with
   | .again _=>none
   | .brk y3 =>
   (yc Uh (y3.1,y3.2.1.Ms,(y3.2.1.Ms.length:Int),0,())).bind fun st=>match st with
    | .again _=>none
    | .brk y4 =>
    some (y4.1,())
    | .ret y4 =>
    none
   | .ret y3 =>
   none
  | .ret y2 =>
  none:=zF
theorem zuk (a1:za):VR a1 =
 (zbz a1).bind fun y1 =>
 (zoJ a1).bind fun y2 =>
 some (decide (a1.Work=(w64 (((y1.1.length:Int))+y2.1))),()):=zF
theorem zol (s1:zB) (s2:zy) (s3:Int):zbJ (s1,s2,s3,()) =
 bif decide (s3<64) then
 (zg2 s2 64 s3).bind fun n1 =>
 (s2[n1]?).bind fun x2 =>
 bif decide (0<x2) then
  (YQ s1 (w64 (s3+1))).bind fun y3 =>
  some (.again (y3.1,s2,w64 (s3+1),()))
 else
  some (.again (s1,s2,w64 (s3+1),()))
 else
 some (.brk (s1,())):=by kernel_rfl
theorem zrj (a1:zy):zel a1 =
 bif decide (a1.length=64) then
 (yc zbJ (0#64,a1,0,())).bind fun st=>match st with
  | .again _=>none
  | .brk y1 =>
  some (y1.1,())
  | .ret y1 =>
  none
 else
 none:=zF
theorem ztm (a1:Int):zpy a1 =
 some (true,()):=zF
end Go.Pe.G
namespace Go.Pe.G
open Go.Pe
theorem X8 (s1:zB) (s2:Int) (s3:Int) (s4:zr) (s5:zy) (s6:zy) (s7:zy):Yq (s1,s2,s3,s4,s5,s6,s7,()) =
 bif decide (s3<s2) then
 (wg s7 s3).bind fun n1 =>
 (s7[n1]?).bind fun x2 =>
 (zg2 s6 64 (w64 (x2-1))).bind fun n3 =>
 some (.again (s1,s2,w64 (s3+1),s4,s5,s6.set n3 1,s7,()))
 else
 some (.brk (s1,s4,s5,s6,s7,())):=by kernel_rfl
theorem Zy (s1:zB) (s2:zr) (s3:zy) (s4:zy) (s5:zy):Yp (s1,s2,s3,s4,s5,()) =
 bif decide (0<((s5.length:Int))) then
 (wg s5 0).bind fun n1 =>
 (s5[n1]?).bind fun x2 =>
 (zpy x2).bind fun y3 =>
 bif !y3.1 then
  (cut s5 1 ((s5.length:Int))).bind fun l4 =>
  some (.again (s1,s2,s3,s4,l4,()))
 else
  (idx s2.Objs (w64 (x2-1))).bind fun x5 =>
  (yc ug (s1,x2,x5,(x5.length:Int),0,s2,s3,s4,s5,())).bind fun st=>match st with
   | .again _=>none
   | .brk y6 =>
   (cut y6.2.2.2.2.1 1 ((y6.2.2.2.2.1.length:Int))).bind fun l7 =>
   some (.again (y6.1,y6.2.1,y6.2.2.1,y6.2.2.2.1,l7,()))
   | .ret y6 =>
   some (.ret (()))
 else
 some (.brk (s3,s4,())):=by kernel_rfl
theorem XM (s1:zB) (s2:Int) (s3:zy) (s4:Int) (s5:Int) (s6:zr) (s7:zy) (s8:zy) (s9:zy):ug (s1,s2,s3,s4,s5,s6,s7,s8,s9,()) =
 bif decide (s5<s4) then
 (idx s3 s5).bind fun x1 =>
 (zcm s1 x1).bind fun y2 =>
 bif y2.1 then
  (zg2 s8 64 (w64 (x1-1))).bind fun n3 =>
  (s8[n3]?).bind fun x4 =>
  bif decide (x4=0) then
  (zg2 s8 64 (w64 (s2-1))).bind fun n5 =>
  (s8[n5]?).bind fun x6 =>
  (zg2 s8 64 (w64 (x1-1))).bind fun n7 =>
  (yD (s9++([x1]:zy))).bind fun l8 =>
  some (.again (s1,s2,s3,s4,w64 (s5+1),s6,s7,s8.set n7 (w64 (x6+1)),l8,()))
  else
  some (.again (s1,s2,s3,s4,w64 (s5+1),s6,s7,s8,s9,()))
 else
  some (.again (s1,s2,s3,s4,w64 (s5+1),s6,s7,s8,s9,()))
 else
 some (.brk (s1,s6,s7,s8,s9,())):=by kernel_rfl
theorem ze3 (a1:zr) (a2:zB):Y6 a1 a2 =
 (Ut ((a1.Objs.length:Int))).bind fun y1 =>
 (zfE (a2&&&y1.1)).bind fun y2 =>
 (yc Yq (y1.1,(y2.1.length:Int),0,a1,List.replicate 64 ((0:Int)),List.replicate 64 ((0:Int)),y2.1,())).bind fun st=>match st with
  | .again _=>none
  | .brk y3 =>
  (yc Yp (y3.1,y3.2.1,y3.2.2.1,y3.2.2.2.1,y3.2.2.2.2.1,())).bind fun st=>match st with
   | .again _=>none
   | .brk y4 =>
   bif decide (y4.2.1.length=64) then
   bif decide (y4.1.length=64) then
    bif decide (y4.2.1.length=64) then
    some (y4.2.1,())
    else
    none
   else
    none
   else
   none
   | .ret y4 =>
   none
  | .ret y3 =>
  none:=zF
theorem zvv (a1:zr) (a2:zB):Vj a1 a2 =
 (Y6 a1 a2).bind fun y1 =>
 (zel y1.1).bind fun y2 =>
 some (y2.1,()):=zF
theorem zyj (a1:zd):zh1 a1 =
 (zfO a1).bind fun y1 =>
 (Vj a1.H y1.1).bind fun y2 =>
 some (y2.1,()):=zF
theorem zxK (a1:za):zbB a1 =
 (zfm a1.T).bind fun y1 =>
 (zae a1).bind fun y2 =>
 (Vj a1.H (y1.1|||y2.1)).bind fun y3 =>
 (zh1 a1.P).bind fun y4 =>
 (WK y4.1 (a1.T.Marks|||y3.1)).bind fun y5 =>
 some (y5.1,()):=zF
theorem zry (a1:za):zn3 a1 =
 (Ut ((a1.P.H.Objs.length:Int))).bind fun y1 =>
 some (y1.1,()):=zF
theorem zyg (a1:za):zbA a1 =
 (Ut ((a1.H.Objs.length:Int))).bind fun y1 =>
 (zn3 a1).bind fun y2 =>
 some (y1.1&&& ~~~y2.1,()):=zF
theorem zwx (a1:zn) (a2:Int):zsp a1 a2 =
 (WK a1.Black a1.Marks).bind fun y1 =>
 bif y1.1 then
 (Ut a2).bind fun y2 =>
 (WK a1.Marks y2.1).bind fun y3 =>
 some (y3.1,())
 else
 some (false,()):=zF
theorem zuJ (a1:za):VT a1 =
 (zbA a1).bind fun y1 =>
 (zh1 a1.P).bind fun y2 =>
 (WK a1.T.Marks (y2.1|||y1.1)).bind fun y3 =>
 bif y3.1 then
 (WK y1.1 a1.T.Black).bind fun y4 =>
 bif y4.1 then
  (zsp a1.T ((a1.H.Objs.length:Int))).bind fun y5 =>
  some (y5.1,())
 else
  some (false,())
 else
 some (false,()):=zF
theorem zfg (s1:Int) (s2:zy) (s3:Int) (s4:Int) (s5:zx):Wh (s1,s2,s3,s4,s5,()) =
 bif decide (s4<s3) then
 (idx s2 s4).bind fun x1 =>
 bif decide (x1<(-1099511627776)) then
  some (.ret (false,()))
 else
  bif decide (1099511627776<x1) then
  some (.ret (false,()))
  else
  some (.again (w64 (s1+x1),s2,s3,w64 (s4+1),s5,()))
 else
 some (.brk (s1,s5,())):=by kernel_rfl
theorem zti (a1:zx):zgO a1 =
 bif decide (16<((a1.Bal.length:Int))) then
 some (false,())
 else
 bif decide ((bif decide (a1.Pool<(bif decide (a1.Spent<a1.Scanned) then a1.Spent else a1.Scanned)) then a1.Pool else (bif decide (a1.Spent<a1.Scanned) then a1.Spent else a1.Scanned))<0) then
  some (false,())
 else
  bif decide (1099511627776<(bif decide ((bif decide (a1.Scanned<a1.Spent) then a1.Spent else a1.Scanned)<a1.Pool) then a1.Pool else (bif decide (a1.Scanned<a1.Spent) then a1.Spent else a1.Scanned))) then
  some (false,())
  else
  (yc Wh (w64 (a1.Spent+a1.Pool),a1.Bal,(a1.Bal.length:Int),0,a1,())).bind fun st=>match st with
   | .again _=>none
   | .brk y1 =>
   some (decide (y1.1=y1.2.1.Scanned),())
   | .ret y1 =>
   some (y1.1,()):=zF
theorem zw3 (a1:Int) (a2:za):zsd a1 a2 =
 some (decide (a1<(w64 (0-a2.P.Limit))),()):=zF
theorem uB (s1:zy) (s2:Int) (s3:Int) (s4:za):yU (s1,s2,s3,s4,()) =
 bif decide (s3<s2) then
 (idx s1 s3).bind fun x1 =>
 (zsd x1 s4).bind fun y2 =>
 bif y2.1 then
  some (.ret (s3,()))
 else
  some (.again (s1,s2,w64 (s3+1),s4,()))
 else
 some (.brk (())):=by kernel_rfl
theorem W8 (a1:zy) (a2:za):ZH a1 a2 =
 (yc yU (a1,(a1.length:Int),0,a2,())).bind fun st=>match st with
  | .again _=>none
  | .brk y1 =>
  some (-1,())
  | .ret y1 =>
  some (y1.1,()):=zF
theorem Wj (a1:zy) (a2:za):wP a1 a2 =
 (ZH a1 a2).bind fun y1 =>
 some (decide (0<=y1.1),()):=zF
theorem zzK (a1:za):zcL a1 =
 (zbA a1).bind fun y1 =>
 (zbv y1.1).bind fun y2 =>
 (zn3 a1).bind fun y3 =>
 (zbv (a1.T.Black&&&y3.1)).bind fun y4 =>
 (zgO a1.L).bind fun y5 =>
 bif y5.1 then
 (wP a1.L.Bal a1).bind fun y6 =>
 bif !y6.1 then
  bif decide (a1.L.Spent=(w64 (a1.P.Price*y2.1))) then
  some (decide (a1.L.Scanned=y4.1),())
  else
  some (false,())
 else
  some (false,())
 else
 some (false,()):=zF
theorem zGG (a1:zj):zph a1 =
 bif !(decide (a1.Obj=0)) then
 some (true,())
 else
 some (decide (0<((a1.Batch.length:Int))),()):=zF
theorem zdt (s1:List zj) (s2:Int) (s3:Int):wS (s1,s2,s3,()) =
 bif decide (s3<s2) then
 (idx s1 s3).bind fun x1 =>
 (zph x1).bind fun y2 =>
 bif y2.1 then
  some (.ret (s3,()))
 else
  some (.again (s1,s2,w64 (s3+1),()))
 else
 some (.brk (())):=by kernel_rfl
theorem zen (a1:List zj):vf a1 =
 (yc wS (a1,(a1.length:Int),0,())).bind fun st=>match st with
  | .again _=>none
  | .brk y1 =>
  some (-1,())
  | .ret y1 =>
  some (y1.1,()):=zF
theorem zdu (a1:List zj):wO a1 =
 (vf a1).bind fun y1 =>
 some (decide (0<=y1.1),()):=zF
theorem zGI (a1:ze):zpu a1 =
 bif !(decide (a1.Obj=0)) then
 some (true,())
 else
 some (decide (0<(w64 (((a1.Batch.length:Int))+((a1.Buf.length:Int))))),()):=zF
theorem zc8 (s1:List ze) (s2:Int) (s3:Int):wC (s1,s2,s3,()) =
 bif decide (s3<s2) then
 (idx s1 s3).bind fun x1 =>
 (zpu x1).bind fun y2 =>
 bif y2.1 then
  some (.ret (s3,()))
 else
  some (.again (s1,s2,w64 (s3+1),()))
 else
 some (.brk (())):=by kernel_rfl
theorem zdK (a1:List ze):wU a1 =
 (yc wC (a1,(a1.length:Int),0,())).bind fun st=>match st with
  | .again _=>none
  | .brk y1 =>
  some (-1,())
  | .ret y1 =>
  some (y1.1,()):=zF
theorem zc7 (a1:List ze):wB a1 =
 (wU a1).bind fun y1 =>
 some (decide (0<=y1.1),()):=zF
theorem zH8 (a1:za):zrv a1 =
 (zbz a1).bind fun y1 =>
 bif decide (((y1.1.length:Int))=0) then
 (wO a1.Ws).bind fun y2 =>
 bif !y2.1 then
  (wB a1.Ms).bind fun y3 =>
  some (!y3.1,())
 else
  some (false,())
 else
 some (false,()):=zF
theorem zGJ (s1:zB) (s2:List ze) (s3:Int) (s4:Int):zpc (s1,s2,s3,s4,()) =
 bif decide (s4<s3) then
 (idx s2 s4).bind fun x1 =>
 (zhx x1.Regs).bind fun y2 =>
 some (.again (s1|||y2.1,s2,s3,w64 (s4+1),()))
 else
 some (.brk (s1,())):=by kernel_rfl
theorem zI3 (a1:za):zt9 a1 =
 (yc zpc (0#64,a1.Ms,(a1.Ms.length:Int),0,())).bind fun st=>match st with
  | .again _=>none
  | .brk y1 =>
  some (y1.1,())
  | .ret y1 =>
  none:=zF
theorem zIy (a1:za):ztU a1 =
 (zt9 a1).bind fun y1 =>
 (Vj a1.H (a1.P.Roots|||y1.1)).bind fun y2 =>
 some (y2.1,()):=zF
theorem zx0 (a1:za):zbx a1 =
 bif !a1.Done then
 some (true,())
 else
 (zrv a1).bind fun y1 =>
 bif y1.1 then
  (ztU a1).bind fun y2 =>
  (zae a1).bind fun y3 =>
  (WK (y2.1|||y3.1) a1.T.Marks).bind fun y4 =>
  bif y4.1 then
  some (decide (a1.Work=0),())
  else
  some (false,())
 else
  some (false,()):=zF
theorem Zz (s1:Int) (s2:za):uv (s1,s2,()) =
 bif decide (s1<6) then
 bif decide (s1=5) then
  (zbx s2).bind fun y1 =>
  bif !y1.1 then
  some (.ret (false,()))
  else
  some (.again (w64 (s1+1),s2,()))
 else
  bif decide (s1=4) then
  (zcL s2).bind fun y2 =>
  bif !y2.1 then
   some (.ret (false,()))
  else
   some (.again (w64 (s1+1),s2,()))
  else
  bif decide (s1=3) then
   (VT s2).bind fun y3 =>
   bif !y3.1 then
   some (.ret (false,()))
   else
   some (.again (w64 (s1+1),s2,()))
  else
   bif decide (s1=2) then
   (zbB s2).bind fun y4 =>
   bif !y4.1 then
    some (.ret (false,()))
   else
    some (.again (w64 (s1+1),s2,()))
   else
   bif decide (s1=1) then
    (VR s2).bind fun y5 =>
    bif !y5.1 then
    some (.ret (false,()))
    else
    some (.again (w64 (s1+1),s2,()))
   else
    bif decide (s1=0) then
    (zbu s2).bind fun y6 =>
    bif !y6.1 then
     some (.ret (false,()))
    else
     some (.again (w64 (s1+1),s2,()))
    else
    none
 else
 some (.brk (s2,())):=by kernel_rfl
theorem zyi (a1:za):zdB a1 =
 (yc uv (0,a1,())).bind fun st=>match st with
  | .again _=>none
  | .brk y1 =>
  (Xq y1.1.H).bind fun y2 =>
  some (y2.1,())
  | .ret y1 =>
  some (y1.1,()):=zF
theorem zmo:zab =
 (zcu (([(([(zE.mk 5 1 0 0),(zE.mk 2 1 0 0),(zE.mk 3 1 0 0)]:List zE))]:List (List zE)))).bind fun y1 =>
 (zii y1.1).bind fun y2 =>
 (cut (([(zk.mk 2 1),(zk.mk 2 1),(zk.mk 2 1),(zk.mk 2 1),(zk.mk 2 1),(zk.mk 2 1),(zk.mk 2 1),(zk.mk 2 1)]:List zk)) 0 5).bind fun l3 =>
 (WY y2.1 l3).bind fun y4 =>
 (cut (([(zk.mk 2 1),(zk.mk 2 1),(zk.mk 2 1),(zk.mk 2 1),(zk.mk 2 1),(zk.mk 2 1),(zk.mk 2 1),(zk.mk 2 1)]:List zk)) 0 6).bind fun l5 =>
 (WY y2.1 l5).bind fun y6 =>
 (cut (([(zk.mk 2 1),(zk.mk 2 1),(zk.mk 2 1),(zk.mk 2 1),(zk.mk 2 1),(zk.mk 2 1),(zk.mk 2 1),(zk.mk 2 1)]:List zk)) 0 7).bind fun l7 =>
 (WY y2.1 l7).bind fun y8 =>
 (cut (([(zk.mk 2 1),(zk.mk 2 1),(zk.mk 2 1),(zk.mk 2 1),(zk.mk 2 1),(zk.mk 2 1),(zk.mk 2 1),(zk.mk 2 1)]:List zk)) 0 8).bind fun l9 =>
 (WY y2.1 l9).bind fun y10 =>
 (Ub y4.1 y6.1).bind fun y11 =>
 (Ub y8.1 y10.1).bind fun y12 =>
 (Ub y10.1 y8.1).bind fun y13 =>
 (Ub y2.1 y2.1).bind fun y14 =>
 (zdB y2.1).bind fun y15 =>
 bif y15.1 then
 (zdB y10.1).bind fun y16 =>
 bif y16.1 then
  bif decide (y11.1=4) then
  bif decide (y11.2.1=1) then
   bif decide (y12.1=3) then
   bif decide (y12.2.1=4) then
    bif decide (y13.1=(-1)) then
    bif decide (y14.1=0) then
     (zbA y10.1).bind fun y17 =>
     bif decide (y17.1=8#64) then
     (zbA y2.1).bind fun y18 =>
     bif decide (y18.1=0#64) then
      (zbr y4.1 y6.1).bind fun y19 =>
      bif y19.1 then
      (zbr y8.1 y10.1).bind fun y20 =>
      bif y20.1 then
       (zbr y10.1 y8.1).bind fun y21 =>
       bif !y21.1 then
       (zbu y2.1).bind fun y22 =>
       bif y22.1 then
        (VR y2.1).bind fun y23 =>
        bif y23.1 then
        (zbB y2.1).bind fun y24 =>
        bif y24.1 then
         (VT y2.1).bind fun y25 =>
         bif y25.1 then
         (zcL y10.1).bind fun y26 =>
         bif y26.1 then
          (zbx y2.1).bind fun y27 =>
          some (y27.1,())
         else
          some (false,())
         else
         some (false,())
        else
         some (false,())
        else
        some (false,())
       else
        some (false,())
       else
       some (false,())
      else
       some (false,())
      else
      some (false,())
     else
      some (false,())
     else
     some (false,())
    else
     some (false,())
    else
    some (false,())
   else
    some (false,())
   else
   some (false,())
  else
   some (false,())
  else
  some (false,())
 else
  some (false,())
 else
 some (false,()):=zF
theorem zgD (a1:zY):zT a1 =
 bif decide (((a1.L.length:Int))<=a1.At) then
 some (0,a1,())
 else
 (idx a1.L (w64 ((w64 (a1.At+1))-1))).bind fun x1 =>
 some ((x1.toNat:Int),{a1 with At:=w64 (a1.At+1)},()):=zF
theorem zix (a1:Int) (a2:Int) (a3:zY):Vd a1 a2 a3 =
 (zT a3).bind fun y1 =>
 (wg ([1,1,2,2,2,3,4,5]:zy) (y1.1.tmod 8)).bind fun n2 =>
 (([1,1,2,2,2,3,4,5]:zy)[n2]?).bind fun x3 =>
 (zT y1.2.1).bind fun y4 =>
 bif decide (a1=0) then
 none
 else
 bif decide (x3=1) then
  (zT y4.2.1).bind fun y5 =>
  bif decide (a1=0) then
  none
  else
  bif decide (x3<3) then
   (zT y5.2.1).bind fun y6 =>
   bif decide (a2=0) then
   none
   else
   some (zE.mk x3 (y4.1.tmod a1) (y5.1.tmod a1) (y6.1.tmod a2),y6.2.1,())
  else
   some (zE.mk x3 (y4.1.tmod a1) (y5.1.tmod a1) 0,y5.2.1,())
 else
  bif decide (x3=2) then
  (zT y4.2.1).bind fun y7 =>
  bif decide (a1=0) then
   none
  else
   bif decide (x3<3) then
   (zT y7.2.1).bind fun y8 =>
   bif decide (a2=0) then
    none
   else
    some (zE.mk x3 (y4.1.tmod a1) (y7.1.tmod a1) (y8.1.tmod a2),y8.2.1,())
   else
   some (zE.mk x3 (y4.1.tmod a1) (y7.1.tmod a1) 0,y7.2.1,())
  else
  bif decide (x3=4) then
   (zT y4.2.1).bind fun y9 =>
   bif decide (a1=0) then
   none
   else
   bif decide (x3<3) then
    (zT y9.2.1).bind fun y10 =>
    bif decide (a2=0) then
    none
    else
    some (zE.mk x3 (y4.1.tmod a1) (y9.1.tmod a1) (y10.1.tmod a2),y10.2.1,())
   else
    some (zE.mk x3 (y4.1.tmod a1) (y9.1.tmod a1) 0,y9.2.1,())
  else
   bif decide (x3<3) then
   (zT y4.2.1).bind fun y11 =>
   bif decide (a2=0) then
    none
   else
    some (zE.mk x3 (y4.1.tmod a1) 0 (y11.1.tmod a2),y11.2.1,())
   else
   some (zE.mk x3 (y4.1.tmod a1) 0 0,y4.2.1,()):=zF
end Go.Pe.G
namespace Go.Pe.G
open Go.Pe
theorem zmW (s1:Int) (s2:Int) (s3:Int) (s4:Int) (s5:Int) (s6:Int) (s7:Int) (s8:Int) (s9:Int) (s10:Int) (s11:Int) (s12:zB) (s13:zY) (s14:Int) (s15:Int) (s16:Int) (s17:Int) (s18:Int) (s19:Int) (s20:Int) (s21:Int) (s22:Int) (s23:zB) (s24:zD) (s25:zD) (s26:List (List zE)) (s27:List zk) (s28:zD) (s29:zD) (s30:List (List zE)) (s31:List zk):Wt (s1,s2,s3,s4,s5,s6,s7,s8,s9,s10,s11,s12,s13,s14,s15,s16,s17,s18,s19,s20,s21,s22,s23,s24,s25,s26,s27,s28,s29,s30,s31,()) =
 bif decide (s2<s1) then
 (yc XK (s1,s2,0,s3,s4,s5,s6,s7,s8,s9,s10,s11,s12,s13,s14,s15,s16,s17,s18,s19,s20,s21,s22,s23,([]:zy),s24,s25,s26,s27,s28,s29,s30,s31,())).bind fun st=>match st with
  | .again _=>none
  | .brk y1 =>
  let y1a:=y1.2.2.2.2.2.2.2.2;let y1b:=y1a.2.2.2.2.2.2.2.2;let y1c:=y1b.2.2.2.2.2.2.2.2
  (yD (y1c.2.2.2.2.1++(([y1b.2.2.2.2.2.2.2.1]:zD)))).bind fun l2 =>
  some (.again (y1.1,w64 (y1.2.1+1),y1.2.2.1,y1.2.2.2.1,y1.2.2.2.2.1,y1.2.2.2.2.2.1,y1.2.2.2.2.2.2.1,y1.2.2.2.2.2.2.2.1,y1a.1,y1a.2.1,y1a.2.2.1,y1a.2.2.2.1,y1a.2.2.2.2.1,y1a.2.2.2.2.2.1,y1a.2.2.2.2.2.2.1,y1a.2.2.2.2.2.2.2.1,y1b.1,y1b.2.1,y1b.2.2.1,y1b.2.2.2.1,y1b.2.2.2.2.1,y1b.2.2.2.2.2.1,y1b.2.2.2.2.2.2.1,y1c.1,y1c.2.1,y1c.2.2.1,y1c.2.2.2.1,l2,y1c.2.2.2.2.2.1,y1c.2.2.2.2.2.2.1,y1c.2.2.2.2.2.2.2.1,()))
  | .ret y1 =>
  some (.ret (()))
 else
 some (.brk (s1,s3,s4,s5,s6,s7,s8,s9,s10,s11,s12,s13,s14,s15,s16,s17,s18,s19,s20,s21,s22,s23,s24,s25,s26,s27,s28,s29,s30,s31,())):=by kernel_rfl
theorem zl2 (s1:Int) (s2:Int) (s3:Int) (s4:Int) (s5:Int) (s6:Int) (s7:Int) (s8:Int) (s9:Int) (s10:Int) (s11:Int) (s12:Int) (s13:zB) (s14:zY) (s15:Int) (s16:Int) (s17:Int) (s18:Int) (s19:Int) (s20:Int) (s21:Int) (s22:Int) (s23:Int) (s24:zB) (s25:zy) (s26:zD) (s27:zD) (s28:List (List zE)) (s29:List zk) (s30:zD) (s31:zD) (s32:List (List zE)) (s33:List zk):XK (s1,s2,s3,s4,s5,s6,s7,s8,s9,s10,s11,s12,s13,s14,s15,s16,s17,s18,s19,s20,s21,s22,s23,s24,s25,s26,s27,s28,s29,s30,s31,s32,s33,()) =
 bif decide (s3<s23) then
 (zT s14).bind fun y1 =>
 bif decide ((w64 (s1+1))=0) then
  none
 else
  (yD (s25++(([(y1.1.tmod (w64 (s1+1)))]:zy)))).bind fun l2 =>
  some (.again (s1,s2,w64 (s3+1),s4,s5,s6,s7,s8,s9,s10,s11,s12,s13,y1.2.1,s15,s16,s17,s18,s19,s20,s21,s22,s23,s24,l2,s26,s27,s28,s29,s30,s31,s32,s33,()))
 else
 some (.brk (s1,s2,s4,s5,s6,s7,s8,s9,s10,s11,s12,s13,s14,s15,s16,s17,s18,s19,s20,s21,s22,s23,s24,s25,s26,s27,s28,s29,s30,s31,s32,s33,())):=by kernel_rfl
theorem zl6 (s1:Int) (s2:Int) (s3:Int) (s4:Int) (s5:Int) (s6:Int) (s7:Int) (s8:Int) (s9:Int) (s10:Int) (s11:Int) (s12:zB) (s13:zY) (s14:Int) (s15:Int) (s16:Int) (s17:Int) (s18:Int) (s19:Int) (s20:Int) (s21:Int) (s22:Int) (s23:zB) (s24:zD) (s25:zD) (s26:List (List zE)) (s27:List zk) (s28:zD) (s29:zD) (s30:List (List zE)) (s31:List zk):XL (s1,s2,s3,s4,s5,s6,s7,s8,s9,s10,s11,s12,s13,s14,s15,s16,s17,s18,s19,s20,s21,s22,s23,s24,s25,s26,s27,s28,s29,s30,s31,()) =
 bif decide (s2<s15) then
 (yc XF (s1,s2,0,s3,s4,s5,s6,s7,s8,s9,s10,s11,s12,s13,s14,s15,s16,s17,s18,s19,s20,s21,s22,s23,([]:zy),s24,s25,s26,s27,s28,s29,s30,s31,())).bind fun st=>match st with
  | .again _=>none
  | .brk y1 =>
  let y1a:=y1.2.2.2.2.2.2.2.2;let y1b:=y1a.2.2.2.2.2.2.2.2;let y1c:=y1b.2.2.2.2.2.2.2.2
  bif decide (((y1b.2.2.2.2.2.2.2.1.length:Int))=0) then
   (zT y1a.2.2.2.2.1).bind fun y2 =>
   (yc Z5 (y1.1,y1.2.1,y2.1.tmod 8,y1.2.2.1,y1.2.2.2.1,y1.2.2.2.2.1,y1.2.2.2.2.2.1,y1.2.2.2.2.2.2.1,y1.2.2.2.2.2.2.2.1,y1a.1,y1a.2.1,y1a.2.2.1,y1a.2.2.2.1,y2.2.1,y1a.2.2.2.2.2.1,y1a.2.2.2.2.2.2.1,y1a.2.2.2.2.2.2.2.1,y1b.1,y1b.2.1,y1b.2.2.1,y1b.2.2.2.1,y1b.2.2.2.2.1,y1b.2.2.2.2.2.1,y1b.2.2.2.2.2.2.1,([0]:zy),([]:List zE),y1c.1,y1c.2.1,y1c.2.2.1,y1c.2.2.2.1,y1c.2.2.2.2.1,y1c.2.2.2.2.2.1,y1c.2.2.2.2.2.2.1,y1c.2.2.2.2.2.2.2.1,())).bind fun st=>match st with
    | .again _=>none
    | .brk y3 =>
    let y3a:=y3.2.2.2.2.2.2.2.2;let y3b:=y3a.2.2.2.2.2.2.2.2;let y3c:=y3b.2.2.2.2.2.2.2.2;let y3d:=y3c.2.2.2.2.2.2.2.2
    (yD (y3c.2.2.2.2.2.2.1++(([y3b.2.2.2.2.2.2.2.1]:zD)))).bind fun l4 =>
    (yD (y3c.2.2.2.2.2.2.2.1++(([y3c.1]:List (List zE))))).bind fun l5 =>
    some (.again (y3.1,w64 (y3.2.1+1),y3.2.2.1,y3.2.2.2.1,y3.2.2.2.2.1,y3.2.2.2.2.2.1,y3.2.2.2.2.2.2.1,y3.2.2.2.2.2.2.2.1,y3a.1,y3a.2.1,y3a.2.2.1,y3a.2.2.2.1,y3a.2.2.2.2.1,y3a.2.2.2.2.2.1,y3a.2.2.2.2.2.2.1,y3a.2.2.2.2.2.2.2.1,y3b.1,y3b.2.1,y3b.2.2.1,y3b.2.2.2.1,y3b.2.2.2.2.1,y3b.2.2.2.2.2.1,y3b.2.2.2.2.2.2.1,y3c.2.1,y3c.2.2.1,y3c.2.2.2.1,y3c.2.2.2.2.1,y3c.2.2.2.2.2.1,l4,l5,y3d.1,()))
    | .ret y3 =>
    some (.ret (()))
  else
   (zT y1a.2.2.2.2.1).bind fun y6 =>
   (yc Z5 (y1.1,y1.2.1,y6.1.tmod 8,y1.2.2.1,y1.2.2.2.1,y1.2.2.2.2.1,y1.2.2.2.2.2.1,y1.2.2.2.2.2.2.1,y1.2.2.2.2.2.2.2.1,y1a.1,y1a.2.1,y1a.2.2.1,y1a.2.2.2.1,y6.2.1,y1a.2.2.2.2.2.1,y1a.2.2.2.2.2.2.1,y1a.2.2.2.2.2.2.2.1,y1b.1,y1b.2.1,y1b.2.2.1,y1b.2.2.2.1,y1b.2.2.2.2.1,y1b.2.2.2.2.2.1,y1b.2.2.2.2.2.2.1,y1b.2.2.2.2.2.2.2.1,([]:List zE),y1c.1,y1c.2.1,y1c.2.2.1,y1c.2.2.2.1,y1c.2.2.2.2.1,y1c.2.2.2.2.2.1,y1c.2.2.2.2.2.2.1,y1c.2.2.2.2.2.2.2.1,())).bind fun st=>match st with
    | .again _=>none
    | .brk y7 =>
    let y7a:=y7.2.2.2.2.2.2.2.2;let y7b:=y7a.2.2.2.2.2.2.2.2;let y7c:=y7b.2.2.2.2.2.2.2.2;let y7d:=y7c.2.2.2.2.2.2.2.2
    (yD (y7c.2.2.2.2.2.2.1++(([y7b.2.2.2.2.2.2.2.1]:zD)))).bind fun l8 =>
    (yD (y7c.2.2.2.2.2.2.2.1++(([y7c.1]:List (List zE))))).bind fun l9 =>
    some (.again (y7.1,w64 (y7.2.1+1),y7.2.2.1,y7.2.2.2.1,y7.2.2.2.2.1,y7.2.2.2.2.2.1,y7.2.2.2.2.2.2.1,y7.2.2.2.2.2.2.2.1,y7a.1,y7a.2.1,y7a.2.2.1,y7a.2.2.2.1,y7a.2.2.2.2.1,y7a.2.2.2.2.2.1,y7a.2.2.2.2.2.2.1,y7a.2.2.2.2.2.2.2.1,y7b.1,y7b.2.1,y7b.2.2.1,y7b.2.2.2.1,y7b.2.2.2.2.1,y7b.2.2.2.2.2.1,y7b.2.2.2.2.2.2.1,y7c.2.1,y7c.2.2.1,y7c.2.2.2.1,y7c.2.2.2.2.1,y7c.2.2.2.2.2.1,l8,l9,y7d.1,()))
    | .ret y7 =>
    some (.ret (()))
  | .ret y1 =>
  some (.ret (()))
 else
 some (.brk (s3,s4,s5,s6,s7,s8,s9,s10,s11,s12,s14,s15,s16,s17,s18,s19,s20,s21,s22,s23,s24,s25,s26,s27,s28,s29,s30,s31,())):=by kernel_rfl
theorem zmG (s1:Int) (s2:Int) (s3:Int) (s4:Int) (s5:Int) (s6:Int) (s7:Int) (s8:Int) (s9:Int) (s10:Int) (s11:Int) (s12:Int) (s13:zB) (s14:zY) (s15:Int) (s16:Int) (s17:Int) (s18:Int) (s19:Int) (s20:Int) (s21:Int) (s22:Int) (s23:Int) (s24:zB) (s25:zy) (s26:zD) (s27:zD) (s28:List (List zE)) (s29:List zk) (s30:zD) (s31:zD) (s32:List (List zE)) (s33:List zk):XF (s1,s2,s3,s4,s5,s6,s7,s8,s9,s10,s11,s12,s13,s14,s15,s16,s17,s18,s19,s20,s21,s22,s23,s24,s25,s26,s27,s28,s29,s30,s31,s32,s33,()) =
 (zT s14).bind fun y1 =>
 bif decide (s3<(w64 (1+(y1.1.tmod 3)))) then
 (zT y1.2.1).bind fun y2 =>
 bif decide ((w64 (s1+1))=0) then
  none
 else
  (yD (s25++(([(y2.1.tmod (w64 (s1+1)))]:zy)))).bind fun l3 =>
  some (.again (s1,s2,w64 (s3+1),s4,s5,s6,s7,s8,s9,s10,s11,s12,s13,y2.2.1,s15,s16,s17,s18,s19,s20,s21,s22,s23,s24,l3,s26,s27,s28,s29,s30,s31,s32,s33,()))
 else
 some (.brk (s1,s2,s4,s5,s6,s7,s8,s9,s10,s11,s12,s13,y1.2.1,s15,s16,s17,s18,s19,s20,s21,s22,s23,s24,s25,s26,s27,s28,s29,s30,s31,s32,s33,())):=by kernel_rfl
theorem zmn (s1:Int) (s2:Int) (s3:Int) (s4:Int) (s5:Int) (s6:Int) (s7:Int) (s8:Int) (s9:Int) (s10:Int) (s11:Int) (s12:Int) (s13:zB) (s14:zY) (s15:Int) (s16:Int) (s17:Int) (s18:Int) (s19:Int) (s20:Int) (s21:Int) (s22:Int) (s23:Int) (s24:zB) (s25:zy) (s26:List zE) (s27:zD) (s28:zD) (s29:List (List zE)) (s30:List zk) (s31:zD) (s32:zD) (s33:List (List zE)) (s34:List zk):Z5 (s1,s2,s3,s4,s5,s6,s7,s8,s9,s10,s11,s12,s13,s14,s15,s16,s17,s18,s19,s20,s21,s22,s23,s24,s25,s26,s27,s28,s29,s30,s31,s32,s33,s34,()) =
 bif decide (0<s3) then
 (Vd ((s25.length:Int)) s23 s14).bind fun y1 =>
 (yD (s26++([y1.1]:List zE))).bind fun l2 =>
 some (.again (s1,s2,w64 (s3-1),s4,s5,s6,s7,s8,s9,s10,s11,s12,s13,y1.2.1,s15,s16,s17,s18,s19,s20,s21,s22,s23,s24,s25,l2,s27,s28,s29,s30,s31,s32,s33,s34,()))
 else
 some (.brk (s1,s2,s4,s5,s6,s7,s8,s9,s10,s11,s12,s13,s14,s15,s16,s17,s18,s19,s20,s21,s22,s23,s24,s25,s26,s27,s28,s29,s30,s31,s32,s33,s34,())):=by kernel_rfl
theorem zpV (a1:List (BitVec 8)):zdg a1 =
 (cut a1 0 (bif decide (90<((a1.length:Int))) then 90 else ((a1.length:Int)))).bind fun l1 =>
 (zT (zY.mk l1 0)).bind fun y2 =>
 (zT y2.2.1).bind fun y3 =>
 (zT y3.2.1).bind fun y4 =>
 (zT y4.2.1).bind fun y5 =>
 (zT y5.2.1).bind fun y6 =>
 (zT y6.2.1).bind fun y7 =>
 (zT y7.2.1).bind fun y8 =>
 (zT y8.2.1).bind fun y9 =>
 (zT y9.2.1).bind fun y10 =>
 (zT y10.2.1).bind fun y11 =>
 (yc Wt (w64 (1+(y10.1.tmod 6)),0,0,0,0,0,0,0,0,0,0,0#64,y11.2.1,w64 (1+(y2.1.tmod 3)),y3.1.tmod 3,w64 (1+(y4.1.tmod 3)),w64 (1+(y5.1.tmod 2)),w64 (1+(y6.1.tmod 3)),w64 ((w64 (1+(y10.1.tmod 6)))+(y11.1.tmod 4)),y7.1.tmod 4,y8.1.tmod 4,w64 (1+(y9.1.tmod 2)),0#64,([]:zD),([]:zD),([]:List (List zE)),([]:List zk),([]:zD),([]:zD),([]:List (List zE)),([]:List zk),())).bind fun st=>match st with
  | .again _=>none
  | .brk y12 =>
  let y12a:=y12.2.2.2.2.2.2.2.2;let y12b:=y12a.2.2.2.2.2.2.2.2;let y12c:=y12b.2.2.2.2.2.2.2.2
  (zT y12a.2.2.2.1).bind fun y13 =>
  bif decide ((w64 (y12.1+1))=0) then
  none
  else
  (YQ 0#64 (y13.1.tmod (w64 (y12.1+1)))).bind fun y14 =>
  (yc XL (y12.1,0,y12.2.1,y12.2.2.1,y12.2.2.2.1,y12.2.2.2.2.1,y12.2.2.2.2.2.1,y12.2.2.2.2.2.2.1,y12.2.2.2.2.2.2.2.1,y12a.1,y12a.2.1,y12a.2.2.1,y13.2.1,y12a.2.2.2.2.1,y12a.2.2.2.2.2.1,y12a.2.2.2.2.2.2.1,y12a.2.2.2.2.2.2.2.1,y12b.1,y12b.2.1,y12b.2.2.1,y12b.2.2.2.1,y12b.2.2.2.2.1,y14.1,y12b.2.2.2.2.2.2.1,y12b.2.2.2.2.2.2.2.1,y12c.1,y12c.2.1,y12c.2.2.1,y12c.2.2.2.1,y12c.2.2.2.2.1,y12c.2.2.2.2.2.1,())).bind fun st=>match st with
   | .again _=>none
   | .brk y15 =>
   let y15a:=y15.2.2.2.2.2.2.2.2;let y15b:=y15a.2.2.2.2.2.2.2.2;let y15c:=y15b.2.2.2.2.2.2.2.2
   some (zd.mk y15a.2.2.1 y15a.2.2.2.1 y15a.2.2.2.2.1 y15a.2.2.2.2.2.1 y15a.2.2.2.2.2.2.1 y15a.2.2.2.2.2.2.2.1 y15b.1 y15b.2.1 (zr.mk y15b.2.2.1 y15c.1) y15b.2.2.2.1 y15c.2.1 y15c.2.2.1 y15c.2.2.2.1,())
   | .ret y15 =>
   none
  | .ret y12 =>
  none:=zF
theorem zlI (s1:List (BitVec 8)) (s2:Int) (s3:Int) (s4:zd) (s5:List zk):zax (s1,s2,s3,s4,s5,()) =
 bif decide (s3<((s1.length:Int))) then
 bif decide (((s5.length:Int))<s2) then
  (idx s1 s3).bind fun x1 =>
  bif decide ((w64 ((w64 (1+s4.Workers))+s4.Mutators))=0) then
  none
  else
  bif decide (s4.Workers<(((x1.toNat:Int)).tmod (w64 ((w64 (1+s4.Workers))+s4.Mutators)))) then
   (yc uy (s1,s2,s3,0,s4,s5,zk.mk 2 (w64 ((((x1.toNat:Int)).tmod (w64 ((w64 (1+s4.Workers))+s4.Mutators)))-s4.Workers)),())).bind fun st=>match st with
    | .again _=>none
    | .brk y2 =>
    some (.again (y2.1,y2.2.1,w64 (y2.2.2.1+1),y2.2.2.2.1,y2.2.2.2.2.1,()))
    | .ret y2 =>
    some (.ret (()))
  else
   bif decide (0<(((x1.toNat:Int)).tmod (w64 ((w64 (1+s4.Workers))+s4.Mutators)))) then
   (yc uy (s1,s2,s3,0,s4,s5,zk.mk 1 (((x1.toNat:Int)).tmod (w64 ((w64 (1+s4.Workers))+s4.Mutators))),())).bind fun st=>match st with
    | .again _=>none
    | .brk y3 =>
    some (.again (y3.1,y3.2.1,w64 (y3.2.2.1+1),y3.2.2.2.1,y3.2.2.2.2.1,()))
    | .ret y3 =>
    some (.ret (()))
   else
   (yc uy (s1,s2,s3,0,s4,s5,zk.mk 0 0,())).bind fun st=>match st with
    | .again _=>none
    | .brk y4 =>
    some (.again (y4.1,y4.2.1,w64 (y4.2.2.1+1),y4.2.2.2.1,y4.2.2.2.2.1,()))
    | .ret y4 =>
    some (.ret (()))
 else
  some (.brk (s5,()))
 else
 some (.brk (s5,())):=by kernel_rfl
theorem zkU (s1:List (BitVec 8)) (s2:Int) (s3:Int) (s4:Int) (s5:zd) (s6:List zk) (s7:zk):uy (s1,s2,s3,s4,s5,s6,s7,()) =
 (idx s1 s3).bind fun x1 =>
 bif decide (s4<=(w64 (((x1.toNat:Int)).tdiv 64))) then
 bif decide (((s6.length:Int))<s2) then
  (yD (s6++([s7]:List zk))).bind fun l2 =>
  some (.again (s1,s2,s3,w64 (s4+1),s5,l2,s7,()))
 else
  some (.brk (s1,s2,s3,s5,s6,()))
 else
 some (.brk (s1,s2,s3,s5,s6,())):=by kernel_rfl
theorem zpn (a1:zd) (a2:List (BitVec 8)) (a3:Int):V0 a1 a2 a3 =
 (yc zax (a2,a3,0,a1,([]:List zk),())).bind fun st=>match st with
  | .again _=>none
  | .brk y1 =>
  some (y1.1,())
  | .ret y1 =>
  none:=zF
theorem zaJ (s1:Bool) (s2:Int) (s3:Int) (s4:za) (s5:List zk):Zd (s1,s2,s3,s4,s5,()) =
 bif decide (s3<s2) then
 (wg s5 s3).bind fun n1 =>
 (s5[n1]?).bind fun x2 =>
 (zd4 s4 x2).bind fun y3 =>
 (Ub s4 y3.1).bind fun y4 =>
 (zbr s4 y3.1).bind fun y5 =>
 bif !y5.1 then
  some (.ret (false,()))
 else
  bif decide (y4.1<0) then
  some (.ret (false,()))
  else
  bif !(decide ((decide (y4.1=0))=(decide (y4.2.1=0)))) then
   some (.ret (false,()))
  else
   bif decide (y4.1=3) then
   bif !(decide (y4.2.1=((y3.1.H.Objs.length:Int)))) then
    some (.ret (false,()))
   else
    bif decide (y4.1=4) then
    bif !(decide (x2.Kind=2)) then
     some (.ret (false,()))
    else
     bif decide (y4.1=3) then
     bif !(decide (x2.Kind=2)) then
      some (.ret (false,()))
     else
      bif decide (y4.1=2) then
      bif decide (x2.Kind=0) then
       some (.ret (false,()))
      else
       some (.again (s1,s2,w64 (s3+1),y3.1,s5,()))
      else
      some (.again (s1,s2,w64 (s3+1),y3.1,s5,()))
     else
     bif decide (y4.1=2) then
      bif decide (x2.Kind=0) then
      some (.ret (false,()))
      else
      some (.again (s1,s2,w64 (s3+1),y3.1,s5,()))
     else
      some (.again (s1,s2,w64 (s3+1),y3.1,s5,()))
    else
    bif decide (y4.1=3) then
     bif !(decide (x2.Kind=2)) then
     some (.ret (false,()))
     else
     bif decide (y4.1=2) then
      bif decide (x2.Kind=0) then
      some (.ret (false,()))
      else
      some (.again (s1,s2,w64 (s3+1),y3.1,s5,()))
     else
      some (.again (s1,s2,w64 (s3+1),y3.1,s5,()))
    else
     bif decide (y4.1=2) then
     bif decide (x2.Kind=0) then
      some (.ret (false,()))
     else
      some (.again (s1,s2,w64 (s3+1),y3.1,s5,()))
     else
     some (.again (s1,s2,w64 (s3+1),y3.1,s5,()))
   else
   bif decide (y4.1=4) then
    bif !(decide (x2.Kind=2)) then
    some (.ret (false,()))
    else
    bif decide (y4.1=3) then
     bif !(decide (x2.Kind=2)) then
     some (.ret (false,()))
     else
     bif decide (y4.1=2) then
      bif decide (x2.Kind=0) then
      some (.ret (false,()))
      else
      some (.again (s1,s2,w64 (s3+1),y3.1,s5,()))
     else
      some (.again (s1,s2,w64 (s3+1),y3.1,s5,()))
    else
     bif decide (y4.1=2) then
     bif decide (x2.Kind=0) then
      some (.ret (false,()))
     else
      some (.again (s1,s2,w64 (s3+1),y3.1,s5,()))
     else
     some (.again (s1,s2,w64 (s3+1),y3.1,s5,()))
   else
    bif decide (y4.1=3) then
    bif !(decide (x2.Kind=2)) then
     some (.ret (false,()))
    else
     bif decide (y4.1=2) then
     bif decide (x2.Kind=0) then
      some (.ret (false,()))
     else
      some (.again (s1,s2,w64 (s3+1),y3.1,s5,()))
     else
     some (.again (s1,s2,w64 (s3+1),y3.1,s5,()))
    else
    bif decide (y4.1=2) then
     bif decide (x2.Kind=0) then
     some (.ret (false,()))
     else
     some (.again (s1,s2,w64 (s3+1),y3.1,s5,()))
    else
     some (.again (s1,s2,w64 (s3+1),y3.1,s5,()))
 else
 some (.brk (s1,())):=by kernel_rfl
theorem zlC (a1:List (BitVec 8)) (a2:List (BitVec 8)):Z6 a1 a2 =
 (zab).bind fun y1 =>
 bif !y1.1 then
 some (false,())
 else
 (zdg a1).bind fun y2 =>
 (zii y2.1).bind fun y3 =>
 (V0 y2.1 a2 300).bind fun y4 =>
 (yc Zd (y1.1,(y4.1.length:Int),0,y3.1,y4.1,())).bind fun st=>match st with
  | .again _=>none
  | .brk y5 =>
  some (y5.1,())
  | .ret y5 =>
  some (y5.1,()):=zF
end Go.Pe.G
