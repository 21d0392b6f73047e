/- Own work of this seat: G1, Tz, G0, GO, GP, G2, G4a, G4b, G4c, G4d, G4e, G4f, G4g, EQ, G2i. -/
import Derived.Test.YtijbahhphbkdiaaGreatDoorTRCb
import Derived.Test.YtijbahhphbkdiaaGreatDoorProg
import Derived.Shelf.Spec.TrailingZeros
import Derived.Sort.EveryDepth
import Derived.Shelf.Sort.AssemblyIn
import Derived.Shelf.Slices.In.SortNone
set_option linter.unusedVariables false
set_option linter.unusedSimpArgs false
set_option linter.unnecessarySimpa false
set_option linter.unusedSectionVars false
set_option linter.deprecated false
set_option maxRecDepth 100000
open List renaming getElem?_eq_getElem → zKv, getD_eq_getElem?_getD → zKw
open Nat renaming lt_of_lt_of_le → zKT, add_zero → zLe, mul_one → zLs
open Option renaming map_some → zLx
namespace Go.Pe.G
open Go.Pe Go.Proofs
abbrev zo:Ty:= .int .i64
abbrev z7:Ty:= .slice (.int .i64)
abbrev zQ:Ty:= .slice (.slice (.int .i64))
abbrev zA:=BitVec 64
abbrev zw:=List Int
abbrev zD:=List (List Int)
structure zE where
 Kind:Int
 R:Int
 A:Int
 S:Int
structure zm where
 Kind:Int
 N:Int
structure zt where
 Slots:Int
 Objs:List zw
structure zd where
 Workers:Int
 Mutators:Int
 Cap:Int
 Buf:Int
 Bin:Int
 Most:Int
 Price:Int
 Limit:Int
 H:zt
 Roots:BitVec 64
 Regs:List zw
 Progs:List (List zE)
 Picks:List zm
structure zg where
 Kind:Int
 PC:Int
 Base:Int
 Cap:Int
 B:BitVec 64
 T:BitVec 64
 X:Int
 Out:Int
structure zU where
 Kind:Int
 PC:Int
 Head:Int
 Next:Int
 H:BitVec 64
 X:Int
 Y:Int
 Out:Int
structure zI where
 PC:Int
 Mode:Int
 Obj:Int
 Who:Int
 D:zg
 C:zU
 Bin:Int
 Out:Int
structure zi where
 PC:Int
 Obj:Int
 Slot:Int
 Victim:Int
 Bin:Int
 Batch:List Int
 D:zg
 C:zU
 G:zI
structure ze where
 PC:Int
 IP:Int
 Ret:Int
 Want:Int
 Old:Int
 Obj:Int
 Slot:Int
 Bin:Int
 Regs:List Int
 Buf:List Int
 Batch:List Int
 C:zU
 G:zI
structure zx where
 Marks:BitVec 64
 Black:BitVec 64
structure zy where
 Scanned:Int
 Spent:Int
 Pool:Int
 Bal:List Int
structure zO where
 PC:Int
 I:Int
structure za where
 P:zd
 H:zt
 M:List zA
 Bins:List zw
 T:zx
 Work:Int
 Epoch:Int
 Flag:Bool
 Done:Bool
 Restarts:Int
 Acks:List Int
 L:zy
 Ws:List zi
 Ms:List ze
 D:zO
structure YP where
 Kind:Int
 At:Int
 A:BitVec 64
 B:BitVec 64
structure z5 where
 Worker:zi
 s:za
 w:Int
structure zW where
 Grey:zI
 s:za
structure zK where
 Mutator:ze
 s:za
 m:Int
structure zY where
 L:List (BitVec 8)
 At:Int
@[reducible] def TT:Nat->Type
 | 0=>zE
 | 1=>zm
 | 2=>zt
 | 3=>zd
 | 4=>zg
 | 5=>zU
 | 6=>zI
 | 7=>zi
 | 8=>ze
 | 9=>zx
 | 10=>zy
 | 11=>zO
 | 12=>za
 | 13=>YP
 | 14=>z5
 | 15=>zW
 | 16=>zK
 | 17=>zY
 | _=>Unit
@[reducible] def lvs:Nat->List Ty
 | 0=>[zo,zo,zo,zo]
 | 1=>[zo,zo]
 | 2=>[zo,zQ]
 | 3=>[zo,zo,zo,zo,zo,zo,zo,zo,zo,zQ,(.int .u64),zQ,(.slice (.slice (.named 0))),(.slice (.named 1))]
 | 4=>[zo,zo,zo,zo,(.int .u64),(.int .u64),zo,zo]
 | 5=>[zo,zo,zo,zo,(.int .u64),zo,zo,zo]
 | 6=>[zo,zo,zo,zo,zo,zo,zo,zo,(.int .u64),(.int .u64),zo,zo,zo,zo,zo,zo,(.int .u64),zo,zo,zo,zo,zo]
 | 7=>[zo,zo,zo,zo,zo,z7,zo,zo,zo,zo,(.int .u64),(.int .u64),zo,zo,zo,zo,zo,zo,(.int .u64),zo,zo,zo,zo,zo,zo,zo,zo,zo,zo,zo,(.int .u64),(.int .u64),zo,zo,zo,zo,zo,zo,(.int .u64),zo,zo,zo,zo,zo]
 | 8=>[zo,zo,zo,zo,zo,zo,zo,zo,z7,z7,z7,zo,zo,zo,zo,(.int .u64),zo,zo,zo,zo,zo,zo,zo,zo,zo,zo,zo,(.int .u64),(.int .u64),zo,zo,zo,zo,zo,zo,(.int .u64),zo,zo,zo,zo,zo]
 | 9=>[(.int .u64),(.int .u64)]
 | 10=>[zo,zo,zo,z7]
 | 11=>[zo,zo]
 | 12=>[zo,zo,zo,zo,zo,zo,zo,zo,zo,zQ,(.int .u64),zQ,(.slice (.slice (.named 0))),(.slice (.named 1)),zo,zQ,(.slice (.int .u64)),zQ,(.int .u64),(.int .u64),zo,zo,.bool,.bool,zo,z7,zo,zo,zo,z7,(.slice (.named 7)),(.slice (.named 8)),zo,zo]
 | 13=>[zo,zo,(.int .u64),(.int .u64)]
 | 14=>[zo,zo,zo,zo,zo,z7,zo,zo,zo,zo,(.int .u64),(.int .u64),zo,zo,zo,zo,zo,zo,(.int .u64),zo,zo,zo,zo,zo,zo,zo,zo,zo,zo,zo,(.int .u64),(.int .u64),zo,zo,zo,zo,zo,zo,(.int .u64),zo,zo,zo,zo,zo,zo,zo,zo,zo,zo,zo,zo,zo,zo,zQ,(.int .u64),zQ,(.slice (.slice (.named 0))),(.slice (.named 1)),zo,zQ,(.slice (.int .u64)),zQ,(.int .u64),(.int .u64),zo,zo,.bool,.bool,zo,z7,zo,zo,zo,z7,(.slice (.named 7)),(.slice (.named 8)),zo,zo,zo]
 | 15=>[zo,zo,zo,zo,zo,zo,zo,zo,(.int .u64),(.int .u64),zo,zo,zo,zo,zo,zo,(.int .u64),zo,zo,zo,zo,zo,zo,zo,zo,zo,zo,zo,zo,zo,zo,zQ,(.int .u64),zQ,(.slice (.slice (.named 0))),(.slice (.named 1)),zo,zQ,(.slice (.int .u64)),zQ,(.int .u64),(.int .u64),zo,zo,.bool,.bool,zo,z7,zo,zo,zo,z7,(.slice (.named 7)),(.slice (.named 8)),zo,zo]
 | 16=>[zo,zo,zo,zo,zo,zo,zo,zo,z7,z7,z7,zo,zo,zo,zo,(.int .u64),zo,zo,zo,zo,zo,zo,zo,zo,zo,zo,zo,(.int .u64),(.int .u64),zo,zo,zo,zo,zo,zo,(.int .u64),zo,zo,zo,zo,zo,zo,zo,zo,zo,zo,zo,zo,zo,zo,zQ,(.int .u64),zQ,(.slice (.slice (.named 0))),(.slice (.named 1)),zo,zQ,(.slice (.int .u64)),zQ,(.int .u64),(.int .u64),zo,zo,.bool,.bool,zo,z7,zo,zo,zo,z7,(.slice (.named 7)),(.slice (.named 8)),zo,zo,zo]
 | 17=>[(.slice (.int .u8)),zo]
 | _=>[]
@[reducible] def unp:(n:Nat)->TT n->HL TT (lvs n)
 | 0=>fun x=>(x.Kind,x.R,x.A,x.S,())
 | 1=>fun x=>(x.Kind,x.N,())
 | 2=>fun x=>(x.Slots,x.Objs,())
 | 3=>fun x=>(x.Workers,x.Mutators,x.Cap,x.Buf,x.Bin,x.Most,x.Price,x.Limit,x.H.Slots,x.H.Objs,x.Roots,x.Regs,x.Progs,x.Picks,())
 | 4=>fun x=>(x.Kind,x.PC,x.Base,x.Cap,x.B,x.T,x.X,x.Out,())
 | 5=>fun x=>(x.Kind,x.PC,x.Head,x.Next,x.H,x.X,x.Y,x.Out,())
 | 6=>fun x=>(x.PC,x.Mode,x.Obj,x.Who,x.D.Kind,x.D.PC,x.D.Base,x.D.Cap,x.D.B,x.D.T,x.D.X,x.D.Out,x.C.Kind,x.C.PC,x.C.Head,x.C.Next,x.C.H,x.C.X,x.C.Y,x.C.Out,x.Bin,x.Out,())
 | 7=>fun x=>(x.PC,x.Obj,x.Slot,x.Victim,x.Bin,x.Batch,x.D.Kind,x.D.PC,x.D.Base,x.D.Cap,x.D.B,x.D.T,x.D.X,x.D.Out,x.C.Kind,x.C.PC,x.C.Head,x.C.Next,x.C.H,x.C.X,x.C.Y,x.C.Out,x.G.PC,x.G.Mode,x.G.Obj,x.G.Who,x.G.D.Kind,x.G.D.PC,x.G.D.Base,x.G.D.Cap,x.G.D.B,x.G.D.T,x.G.D.X,x.G.D.Out,x.G.C.Kind,x.G.C.PC,x.G.C.Head,x.G.C.Next,x.G.C.H,x.G.C.X,x.G.C.Y,x.G.C.Out,x.G.Bin,x.G.Out,())
 | 8=>fun x=>(x.PC,x.IP,x.Ret,x.Want,x.Old,x.Obj,x.Slot,x.Bin,x.Regs,x.Buf,x.Batch,x.C.Kind,x.C.PC,x.C.Head,x.C.Next,x.C.H,x.C.X,x.C.Y,x.C.Out,x.G.PC,x.G.Mode,x.G.Obj,x.G.Who,x.G.D.Kind,x.G.D.PC,x.G.D.Base,x.G.D.Cap,x.G.D.B,x.G.D.T,x.G.D.X,x.G.D.Out,x.G.C.Kind,x.G.C.PC,x.G.C.Head,x.G.C.Next,x.G.C.H,x.G.C.X,x.G.C.Y,x.G.C.Out,x.G.Bin,x.G.Out,())
 | 9=>fun x=>(x.Marks,x.Black,())
 | 10=>fun x=>(x.Scanned,x.Spent,x.Pool,x.Bal,())
 | 11=>fun x=>(x.PC,x.I,())
 | 12=>fun x=>(x.P.Workers,x.P.Mutators,x.P.Cap,x.P.Buf,x.P.Bin,x.P.Most,x.P.Price,x.P.Limit,x.P.H.Slots,x.P.H.Objs,x.P.Roots,x.P.Regs,x.P.Progs,x.P.Picks,x.H.Slots,x.H.Objs,x.M,x.Bins,x.T.Marks,x.T.Black,x.Work,x.Epoch,x.Flag,x.Done,x.Restarts,x.Acks,x.L.Scanned,x.L.Spent,x.L.Pool,x.L.Bal,x.Ws,x.Ms,x.D.PC,x.D.I,())
 | 13=>fun x=>(x.Kind,x.At,x.A,x.B,())
 | 14=>fun x=>(x.Worker.PC,x.Worker.Obj,x.Worker.Slot,x.Worker.Victim,x.Worker.Bin,x.Worker.Batch,x.Worker.D.Kind,x.Worker.D.PC,x.Worker.D.Base,x.Worker.D.Cap,x.Worker.D.B,x.Worker.D.T,x.Worker.D.X,x.Worker.D.Out,x.Worker.C.Kind,x.Worker.C.PC,x.Worker.C.Head,x.Worker.C.Next,x.Worker.C.H,x.Worker.C.X,x.Worker.C.Y,x.Worker.C.Out,x.Worker.G.PC,x.Worker.G.Mode,x.Worker.G.Obj,x.Worker.G.Who,x.Worker.G.D.Kind,x.Worker.G.D.PC,x.Worker.G.D.Base,x.Worker.G.D.Cap,x.Worker.G.D.B,x.Worker.G.D.T,x.Worker.G.D.X,x.Worker.G.D.Out,x.Worker.G.C.Kind,x.Worker.G.C.PC,x.Worker.G.C.Head,x.Worker.G.C.Next,x.Worker.G.C.H,x.Worker.G.C.X,x.Worker.G.C.Y,x.Worker.G.C.Out,x.Worker.G.Bin,x.Worker.G.Out,x.s.P.Workers,x.s.P.Mutators,x.s.P.Cap,x.s.P.Buf,x.s.P.Bin,x.s.P.Most,x.s.P.Price,x.s.P.Limit,x.s.P.H.Slots,x.s.P.H.Objs,x.s.P.Roots,x.s.P.Regs,x.s.P.Progs,x.s.P.Picks,x.s.H.Slots,x.s.H.Objs,x.s.M,x.s.Bins,x.s.T.Marks,x.s.T.Black,x.s.Work,x.s.Epoch,x.s.Flag,x.s.Done,x.s.Restarts,x.s.Acks,x.s.L.Scanned,x.s.L.Spent,x.s.L.Pool,x.s.L.Bal,x.s.Ws,x.s.Ms,x.s.D.PC,x.s.D.I,x.w,())
 | 15=>fun x=>(x.Grey.PC,x.Grey.Mode,x.Grey.Obj,x.Grey.Who,x.Grey.D.Kind,x.Grey.D.PC,x.Grey.D.Base,x.Grey.D.Cap,x.Grey.D.B,x.Grey.D.T,x.Grey.D.X,x.Grey.D.Out,x.Grey.C.Kind,x.Grey.C.PC,x.Grey.C.Head,x.Grey.C.Next,x.Grey.C.H,x.Grey.C.X,x.Grey.C.Y,x.Grey.C.Out,x.Grey.Bin,x.Grey.Out,x.s.P.Workers,x.s.P.Mutators,x.s.P.Cap,x.s.P.Buf,x.s.P.Bin,x.s.P.Most,x.s.P.Price,x.s.P.Limit,x.s.P.H.Slots,x.s.P.H.Objs,x.s.P.Roots,x.s.P.Regs,x.s.P.Progs,x.s.P.Picks,x.s.H.Slots,x.s.H.Objs,x.s.M,x.s.Bins,x.s.T.Marks,x.s.T.Black,x.s.Work,x.s.Epoch,x.s.Flag,x.s.Done,x.s.Restarts,x.s.Acks,x.s.L.Scanned,x.s.L.Spent,x.s.L.Pool,x.s.L.Bal,x.s.Ws,x.s.Ms,x.s.D.PC,x.s.D.I,())
 | 16=>fun x=>(x.Mutator.PC,x.Mutator.IP,x.Mutator.Ret,x.Mutator.Want,x.Mutator.Old,x.Mutator.Obj,x.Mutator.Slot,x.Mutator.Bin,x.Mutator.Regs,x.Mutator.Buf,x.Mutator.Batch,x.Mutator.C.Kind,x.Mutator.C.PC,x.Mutator.C.Head,x.Mutator.C.Next,x.Mutator.C.H,x.Mutator.C.X,x.Mutator.C.Y,x.Mutator.C.Out,x.Mutator.G.PC,x.Mutator.G.Mode,x.Mutator.G.Obj,x.Mutator.G.Who,x.Mutator.G.D.Kind,x.Mutator.G.D.PC,x.Mutator.G.D.Base,x.Mutator.G.D.Cap,x.Mutator.G.D.B,x.Mutator.G.D.T,x.Mutator.G.D.X,x.Mutator.G.D.Out,x.Mutator.G.C.Kind,x.Mutator.G.C.PC,x.Mutator.G.C.Head,x.Mutator.G.C.Next,x.Mutator.G.C.H,x.Mutator.G.C.X,x.Mutator.G.C.Y,x.Mutator.G.C.Out,x.Mutator.G.Bin,x.Mutator.G.Out,x.s.P.Workers,x.s.P.Mutators,x.s.P.Cap,x.s.P.Buf,x.s.P.Bin,x.s.P.Most,x.s.P.Price,x.s.P.Limit,x.s.P.H.Slots,x.s.P.H.Objs,x.s.P.Roots,x.s.P.Regs,x.s.P.Progs,x.s.P.Picks,x.s.H.Slots,x.s.H.Objs,x.s.M,x.s.Bins,x.s.T.Marks,x.s.T.Black,x.s.Work,x.s.Epoch,x.s.Flag,x.s.Done,x.s.Restarts,x.s.Acks,x.s.L.Scanned,x.s.L.Spent,x.s.L.Pool,x.s.L.Bal,x.s.Ws,x.s.Ms,x.s.D.PC,x.s.D.I,x.m,())
 | 17=>fun x=>(x.L,x.At,())
 | _+18=>fun _=>()
@[reducible] def pck:(n:Nat)->HL TT (lvs n)->TT n
 | 0=>fun x=>⟨x.1,x.2.1,x.2.2.1,x.2.2.2.1⟩
 | 1=>fun x=>⟨x.1,x.2.1⟩
 | 2=>fun x=>⟨x.1,x.2.1⟩
 | 3=>fun x=>let xa:=x.2.2.2.2.2.2.2.2;⟨x.1,x.2.1,x.2.2.1,x.2.2.2.1,x.2.2.2.2.1,x.2.2.2.2.2.1,x.2.2.2.2.2.2.1,x.2.2.2.2.2.2.2.1,⟨xa.1,xa.2.1⟩,xa.2.2.1,xa.2.2.2.1,xa.2.2.2.2.1,xa.2.2.2.2.2.1⟩
 | 4=>fun x=>⟨x.1,x.2.1,x.2.2.1,x.2.2.2.1,x.2.2.2.2.1,x.2.2.2.2.2.1,x.2.2.2.2.2.2.1,x.2.2.2.2.2.2.2.1⟩
 | 5=>fun x=>⟨x.1,x.2.1,x.2.2.1,x.2.2.2.1,x.2.2.2.2.1,x.2.2.2.2.2.1,x.2.2.2.2.2.2.1,x.2.2.2.2.2.2.2.1⟩
 | 6=>fun x=>let xa:=x.2.2.2.2.2.2.2.2;let xb:=xa.2.2.2.2.2.2.2.2;⟨x.1,x.2.1,x.2.2.1,x.2.2.2.1,⟨x.2.2.2.2.1,x.2.2.2.2.2.1,x.2.2.2.2.2.2.1,x.2.2.2.2.2.2.2.1,xa.1,xa.2.1,xa.2.2.1,xa.2.2.2.1⟩,⟨xa.2.2.2.2.1,xa.2.2.2.2.2.1,xa.2.2.2.2.2.2.1,xa.2.2.2.2.2.2.2.1,xb.1,xb.2.1,xb.2.2.1,xb.2.2.2.1⟩,xb.2.2.2.2.1,xb.2.2.2.2.2.1⟩
 | 7=>fun x=>let xa:=x.2.2.2.2.2.2.2.2;let xb:=xa.2.2.2.2.2.2.2.2;let xc:=xb.2.2.2.2.2.2.2.2;let xd:=xc.2.2.2.2.2.2.2.2;let xe:=xd.2.2.2.2.2.2.2.2;⟨x.1,x.2.1,x.2.2.1,x.2.2.2.1,x.2.2.2.2.1,x.2.2.2.2.2.1,⟨x.2.2.2.2.2.2.1,x.2.2.2.2.2.2.2.1,xa.1,xa.2.1,xa.2.2.1,xa.2.2.2.1,xa.2.2.2.2.1,xa.2.2.2.2.2.1⟩,⟨xa.2.2.2.2.2.2.1,xa.2.2.2.2.2.2.2.1,xb.1,xb.2.1,xb.2.2.1,xb.2.2.2.1,xb.2.2.2.2.1,xb.2.2.2.2.2.1⟩,⟨xb.2.2.2.2.2.2.1,xb.2.2.2.2.2.2.2.1,xc.1,xc.2.1,⟨xc.2.2.1,xc.2.2.2.1,xc.2.2.2.2.1,xc.2.2.2.2.2.1,xc.2.2.2.2.2.2.1,xc.2.2.2.2.2.2.2.1,xd.1,xd.2.1⟩,⟨xd.2.2.1,xd.2.2.2.1,xd.2.2.2.2.1,xd.2.2.2.2.2.1,xd.2.2.2.2.2.2.1,xd.2.2.2.2.2.2.2.1,xe.1,xe.2.1⟩,xe.2.2.1,xe.2.2.2.1⟩⟩
 | 8=>fun x=>let xa:=x.2.2.2.2.2.2.2.2;let xb:=xa.2.2.2.2.2.2.2.2;let xc:=xb.2.2.2.2.2.2.2.2;let xd:=xc.2.2.2.2.2.2.2.2;let xe:=xd.2.2.2.2.2.2.2.2;⟨x.1,x.2.1,x.2.2.1,x.2.2.2.1,x.2.2.2.2.1,x.2.2.2.2.2.1,x.2.2.2.2.2.2.1,x.2.2.2.2.2.2.2.1,xa.1,xa.2.1,xa.2.2.1,⟨xa.2.2.2.1,xa.2.2.2.2.1,xa.2.2.2.2.2.1,xa.2.2.2.2.2.2.1,xa.2.2.2.2.2.2.2.1,xb.1,xb.2.1,xb.2.2.1⟩,⟨xb.2.2.2.1,xb.2.2.2.2.1,xb.2.2.2.2.2.1,xb.2.2.2.2.2.2.1,⟨xb.2.2.2.2.2.2.2.1,xc.1,xc.2.1,xc.2.2.1,xc.2.2.2.1,xc.2.2.2.2.1,xc.2.2.2.2.2.1,xc.2.2.2.2.2.2.1⟩,⟨xc.2.2.2.2.2.2.2.1,xd.1,xd.2.1,xd.2.2.1,xd.2.2.2.1,xd.2.2.2.2.1,xd.2.2.2.2.2.1,xd.2.2.2.2.2.2.1⟩,xd.2.2.2.2.2.2.2.1,xe.1⟩⟩
 | 9=>fun x=>⟨x.1,x.2.1⟩
 | 10=>fun x=>⟨x.1,x.2.1,x.2.2.1,x.2.2.2.1⟩
 | 11=>fun x=>⟨x.1,x.2.1⟩
 | 12=>fun x=>let xa:=x.2.2.2.2.2.2.2.2;let xb:=xa.2.2.2.2.2.2.2.2;let xc:=xb.2.2.2.2.2.2.2.2;let xd:=xc.2.2.2.2.2.2.2.2;⟨⟨x.1,x.2.1,x.2.2.1,x.2.2.2.1,x.2.2.2.2.1,x.2.2.2.2.2.1,x.2.2.2.2.2.2.1,x.2.2.2.2.2.2.2.1,⟨xa.1,xa.2.1⟩,xa.2.2.1,xa.2.2.2.1,xa.2.2.2.2.1,xa.2.2.2.2.2.1⟩,⟨xa.2.2.2.2.2.2.1,xa.2.2.2.2.2.2.2.1⟩,xb.1,xb.2.1,⟨xb.2.2.1,xb.2.2.2.1⟩,xb.2.2.2.2.1,xb.2.2.2.2.2.1,xb.2.2.2.2.2.2.1,xb.2.2.2.2.2.2.2.1,xc.1,xc.2.1,⟨xc.2.2.1,xc.2.2.2.1,xc.2.2.2.2.1,xc.2.2.2.2.2.1⟩,xc.2.2.2.2.2.2.1,xc.2.2.2.2.2.2.2.1,⟨xd.1,xd.2.1⟩⟩
 | 13=>fun x=>⟨x.1,x.2.1,x.2.2.1,x.2.2.2.1⟩
 | 14=>fun x=>let xa:=x.2.2.2.2.2.2.2.2;let xb:=xa.2.2.2.2.2.2.2.2;let xc:=xb.2.2.2.2.2.2.2.2;let xd:=xc.2.2.2.2.2.2.2.2;let xe:=xd.2.2.2.2.2.2.2.2;let xf:=xe.2.2.2.2.2.2.2.2;let xg:=xf.2.2.2.2.2.2.2.2;let xh:=xg.2.2.2.2.2.2.2.2;let xi:=xh.2.2.2.2.2.2.2.2;⟨⟨x.1,x.2.1,x.2.2.1,x.2.2.2.1,x.2.2.2.2.1,x.2.2.2.2.2.1,⟨x.2.2.2.2.2.2.1,x.2.2.2.2.2.2.2.1,xa.1,xa.2.1,xa.2.2.1,xa.2.2.2.1,xa.2.2.2.2.1,xa.2.2.2.2.2.1⟩,⟨xa.2.2.2.2.2.2.1,xa.2.2.2.2.2.2.2.1,xb.1,xb.2.1,xb.2.2.1,xb.2.2.2.1,xb.2.2.2.2.1,xb.2.2.2.2.2.1⟩,⟨xb.2.2.2.2.2.2.1,xb.2.2.2.2.2.2.2.1,xc.1,xc.2.1,⟨xc.2.2.1,xc.2.2.2.1,xc.2.2.2.2.1,xc.2.2.2.2.2.1,xc.2.2.2.2.2.2.1,xc.2.2.2.2.2.2.2.1,xd.1,xd.2.1⟩,⟨xd.2.2.1,xd.2.2.2.1,xd.2.2.2.2.1,xd.2.2.2.2.2.1,xd.2.2.2.2.2.2.1,xd.2.2.2.2.2.2.2.1,xe.1,xe.2.1⟩,xe.2.2.1,xe.2.2.2.1⟩⟩,⟨⟨xe.2.2.2.2.1,xe.2.2.2.2.2.1,xe.2.2.2.2.2.2.1,xe.2.2.2.2.2.2.2.1,xf.1,xf.2.1,xf.2.2.1,xf.2.2.2.1,⟨xf.2.2.2.2.1,xf.2.2.2.2.2.1⟩,xf.2.2.2.2.2.2.1,xf.2.2.2.2.2.2.2.1,xg.1,xg.2.1⟩,⟨xg.2.2.1,xg.2.2.2.1⟩,xg.2.2.2.2.1,xg.2.2.2.2.2.1,⟨xg.2.2.2.2.2.2.1,xg.2.2.2.2.2.2.2.1⟩,xh.1,xh.2.1,xh.2.2.1,xh.2.2.2.1,xh.2.2.2.2.1,xh.2.2.2.2.2.1,⟨xh.2.2.2.2.2.2.1,xh.2.2.2.2.2.2.2.1,xi.1,xi.2.1⟩,xi.2.2.1,xi.2.2.2.1,⟨xi.2.2.2.2.1,xi.2.2.2.2.2.1⟩⟩,xi.2.2.2.2.2.2.1⟩
 | 15=>fun x=>let xa:=x.2.2.2.2.2.2.2.2;let xb:=xa.2.2.2.2.2.2.2.2;let xc:=xb.2.2.2.2.2.2.2.2;let xd:=xc.2.2.2.2.2.2.2.2;let xe:=xd.2.2.2.2.2.2.2.2;let xf:=xe.2.2.2.2.2.2.2.2;⟨⟨x.1,x.2.1,x.2.2.1,x.2.2.2.1,⟨x.2.2.2.2.1,x.2.2.2.2.2.1,x.2.2.2.2.2.2.1,x.2.2.2.2.2.2.2.1,xa.1,xa.2.1,xa.2.2.1,xa.2.2.2.1⟩,⟨xa.2.2.2.2.1,xa.2.2.2.2.2.1,xa.2.2.2.2.2.2.1,xa.2.2.2.2.2.2.2.1,xb.1,xb.2.1,xb.2.2.1,xb.2.2.2.1⟩,xb.2.2.2.2.1,xb.2.2.2.2.2.1⟩,⟨⟨xb.2.2.2.2.2.2.1,xb.2.2.2.2.2.2.2.1,xc.1,xc.2.1,xc.2.2.1,xc.2.2.2.1,xc.2.2.2.2.1,xc.2.2.2.2.2.1,⟨xc.2.2.2.2.2.2.1,xc.2.2.2.2.2.2.2.1⟩,xd.1,xd.2.1,xd.2.2.1,xd.2.2.2.1⟩,⟨xd.2.2.2.2.1,xd.2.2.2.2.2.1⟩,xd.2.2.2.2.2.2.1,xd.2.2.2.2.2.2.2.1,⟨xe.1,xe.2.1⟩,xe.2.2.1,xe.2.2.2.1,xe.2.2.2.2.1,xe.2.2.2.2.2.1,xe.2.2.2.2.2.2.1,xe.2.2.2.2.2.2.2.1,⟨xf.1,xf.2.1,xf.2.2.1,xf.2.2.2.1⟩,xf.2.2.2.2.1,xf.2.2.2.2.2.1,⟨xf.2.2.2.2.2.2.1,xf.2.2.2.2.2.2.2.1⟩⟩⟩
 | 16=>fun x=>let xa:=x.2.2.2.2.2.2.2.2;let xb:=xa.2.2.2.2.2.2.2.2;let xc:=xb.2.2.2.2.2.2.2.2;let xd:=xc.2.2.2.2.2.2.2.2;let xe:=xd.2.2.2.2.2.2.2.2;let xf:=xe.2.2.2.2.2.2.2.2;let xg:=xf.2.2.2.2.2.2.2.2;let xh:=xg.2.2.2.2.2.2.2.2;let xi:=xh.2.2.2.2.2.2.2.2;⟨⟨x.1,x.2.1,x.2.2.1,x.2.2.2.1,x.2.2.2.2.1,x.2.2.2.2.2.1,x.2.2.2.2.2.2.1,x.2.2.2.2.2.2.2.1,xa.1,xa.2.1,xa.2.2.1,⟨xa.2.2.2.1,xa.2.2.2.2.1,xa.2.2.2.2.2.1,xa.2.2.2.2.2.2.1,xa.2.2.2.2.2.2.2.1,xb.1,xb.2.1,xb.2.2.1⟩,⟨xb.2.2.2.1,xb.2.2.2.2.1,xb.2.2.2.2.2.1,xb.2.2.2.2.2.2.1,⟨xb.2.2.2.2.2.2.2.1,xc.1,xc.2.1,xc.2.2.1,xc.2.2.2.1,xc.2.2.2.2.1,xc.2.2.2.2.2.1,xc.2.2.2.2.2.2.1⟩,⟨xc.2.2.2.2.2.2.2.1,xd.1,xd.2.1,xd.2.2.1,xd.2.2.2.1,xd.2.2.2.2.1,xd.2.2.2.2.2.1,xd.2.2.2.2.2.2.1⟩,xd.2.2.2.2.2.2.2.1,xe.1⟩⟩,⟨⟨xe.2.1,xe.2.2.1,xe.2.2.2.1,xe.2.2.2.2.1,xe.2.2.2.2.2.1,xe.2.2.2.2.2.2.1,xe.2.2.2.2.2.2.2.1,xf.1,⟨xf.2.1,xf.2.2.1⟩,xf.2.2.2.1,xf.2.2.2.2.1,xf.2.2.2.2.2.1,xf.2.2.2.2.2.2.1⟩,⟨xf.2.2.2.2.2.2.2.1,xg.1⟩,xg.2.1,xg.2.2.1,⟨xg.2.2.2.1,xg.2.2.2.2.1⟩,xg.2.2.2.2.2.1,xg.2.2.2.2.2.2.1,xg.2.2.2.2.2.2.2.1,xh.1,xh.2.1,xh.2.2.1,⟨xh.2.2.2.1,xh.2.2.2.2.1,xh.2.2.2.2.2.1,xh.2.2.2.2.2.2.1⟩,xh.2.2.2.2.2.2.2.1,xi.1,⟨xi.2.1,xi.2.2.1⟩⟩,xi.2.2.2.1⟩
 | 17=>fun x=>⟨x.1,x.2.1⟩
 | _+18=>fun _=>()
theorem zIJ:∀n x,pck n (unp n x)=x
 | 0=>fun _=>rfl
 | 1=>fun _=>rfl
 | 2=>fun _=>rfl
 | 3=>fun _=>rfl
 | 4=>fun _=>rfl
 | 5=>fun _=>rfl
 | 6=>fun _=>rfl
 | 7=>fun _=>rfl
 | 8=>fun _=>rfl
 | 9=>fun _=>rfl
 | 10=>fun _=>rfl
 | 11=>fun _=>rfl
 | 12=>fun _=>rfl
 | 13=>fun _=>rfl
 | 14=>fun _=>rfl
 | 15=>fun _=>rfl
 | 16=>fun _=>rfl
 | 17=>fun _=>rfl
 | _+18=>fun _=>rfl
theorem zIt:∀n h,unp n (pck n h)=h
 | 0=>fun _=>rfl
 | 1=>fun _=>rfl
 | 2=>fun _=>rfl
 | 3=>fun _=>rfl
 | 4=>fun _=>rfl
 | 5=>fun _=>rfl
 | 6=>fun _=>rfl
 | 7=>fun _=>rfl
 | 8=>fun _=>rfl
 | 9=>fun _=>rfl
 | 10=>fun _=>rfl
 | 11=>fun _=>rfl
 | 12=>fun _=>rfl
 | 13=>fun _=>rfl
 | 14=>fun _=>rfl
 | 15=>fun _=>rfl
 | 16=>fun _=>rfl
 | 17=>fun _=>rfl
 | _+18=>fun _=>rfl
theorem zHw:∀n,(lvs n).all (fun t=>match t with | .named _=>false | .arr _ _=>false | _=>true)=true
 | 0=>rfl
 | 1=>rfl
 | 2=>rfl
 | 3=>rfl
 | 4=>rfl
 | 5=>rfl
 | 6=>rfl
 | 7=>rfl
 | 8=>rfl
 | 9=>rfl
 | 10=>rfl
 | 11=>rfl
 | 12=>rfl
 | 13=>rfl
 | 14=>rfl
 | 15=>rfl
 | 16=>rfl
 | 17=>rfl
 | _+18=>rfl
def E:yI where
 T:=TT
 leaves:=lvs
 unpack:=unp
 pack:=pck
 pu:=zIJ
 up:=zIt
 lf:=zHw
def tab:List (Nat×TI):=[
 (2,{size:=1,agg:=false,fields:=[],elem:=0,alen:=0,ty:=some zo,zero:=[.int .i64],bytes:=8,sl:=false,fk:=false,cmp:=false,mp:=false}),
 (3,{size:=1,agg:=false,fields:=[],elem:=0,alen:=0,ty:=some zo,zero:=[.int .i64],bytes:=8,sl:=false,fk:=false,cmp:=false,mp:=false}),
 (4,{size:=1,agg:=false,fields:=[],elem:=0,alen:=0,ty:=some .bool,zero:=[.bool],bytes:=1,sl:=false,fk:=false,cmp:=false,mp:=false}),
 (5,{size:=1,agg:=false,fields:=[],elem:=0,alen:=0,ty:=some (.int .u8),zero:=[.int .u8],bytes:=1,sl:=false,fk:=false,cmp:=false,mp:=false}),
 (22,{size:=1,agg:=false,fields:=[],elem:=5,alen:=0,ty:=some (.slice (.int .u8)),zero:=[.slice],bytes:=24,sl:=true,fk:=false,cmp:=false,mp:=false}),
 (24,{size:=1,agg:=false,fields:=[],elem:=38,alen:=0,ty:=some zQ,zero:=[.slice],bytes:=24,sl:=true,fk:=false,cmp:=false,mp:=false}),
 (26,{size:=2,agg:=true,fields:=[(0,3),(1,24)],elem:=0,alen:=0,ty:=some (.named 2),zero:=[.int .i64,.slice],bytes:=32,sl:=false,fk:=false,cmp:=false,mp:=false}),
 (27,{size:=1,agg:=false,fields:=[],elem:=0,alen:=0,ty:=some (.int .u64),zero:=[.int .u64],bytes:=8,sl:=false,fk:=false,cmp:=false,mp:=false}),
 (28,{size:=1,agg:=false,fields:=[],elem:=0,alen:=0,ty:=some (.int .u64),zero:=[.int .u64],bytes:=8,sl:=false,fk:=false,cmp:=false,mp:=false}),
 (29,{size:=1,agg:=false,fields:=[],elem:=58,alen:=0,ty:=some (.slice (.slice (.named 0))),zero:=[.slice],bytes:=24,sl:=true,fk:=false,cmp:=false,mp:=false}),
 (30,{size:=1,agg:=false,fields:=[],elem:=51,alen:=0,ty:=some (.slice (.named 1)),zero:=[.slice],bytes:=24,sl:=true,fk:=false,cmp:=false,mp:=false}),
 (32,{size:=14,agg:=true,fields:=[(0,3),(1,3),(2,3),(3,3),(4,3),(5,3),(6,2),(7,2),(8,26),(10,28),(11,24),(12,29),(13,30)],elem:=0,alen:=0,ty:=some (.named 3),zero:=[.int .i64,.int .i64,.int .i64,.int .i64,.int .i64,.int .i64,.int .i64,.int .i64,.int .i64,.slice,.int .u64,.slice,.slice,.slice],bytes:=176,sl:=false,fk:=false,cmp:=false,mp:=false}),
 (35,{size:=1,agg:=false,fields:=[],elem:=27,alen:=0,ty:=some (.slice (.int .u64)),zero:=[.slice],bytes:=24,sl:=true,fk:=false,cmp:=false,mp:=false}),
 (37,{size:=2,agg:=true,fields:=[(0,28),(1,28)],elem:=0,alen:=0,ty:=some (.named 9),zero:=[.int .u64,.int .u64],bytes:=16,sl:=false,fk:=false,cmp:=true,mp:=false}),
 (38,{size:=1,agg:=false,fields:=[],elem:=3,alen:=0,ty:=some z7,zero:=[.slice],bytes:=24,sl:=true,fk:=false,cmp:=false,mp:=false}),
 (39,{size:=1,agg:=false,fields:=[],elem:=2,alen:=0,ty:=some z7,zero:=[.slice],bytes:=24,sl:=true,fk:=false,cmp:=false,mp:=false}),
 (41,{size:=4,agg:=true,fields:=[(0,2),(1,2),(2,2),(3,39)],elem:=0,alen:=0,ty:=some (.named 10),zero:=[.int .i64,.int .i64,.int .i64,.slice],bytes:=48,sl:=false,fk:=false,cmp:=false,mp:=false}),
 (42,{size:=1,agg:=false,fields:=[],elem:=87,alen:=0,ty:=some (.slice (.named 7)),zero:=[.slice],bytes:=24,sl:=true,fk:=false,cmp:=false,mp:=false}),
 (43,{size:=1,agg:=false,fields:=[],elem:=95,alen:=0,ty:=some (.slice (.named 8)),zero:=[.slice],bytes:=24,sl:=true,fk:=false,cmp:=false,mp:=false}),
 (45,{size:=2,agg:=true,fields:=[(0,3),(1,3)],elem:=0,alen:=0,ty:=some (.named 11),zero:=[.int .i64,.int .i64],bytes:=16,sl:=false,fk:=false,cmp:=true,mp:=false}),
 (47,{size:=34,agg:=true,fields:=[(0,32),(14,26),(16,35),(17,24),(18,37),(20,3),(21,3),(22,4),(23,4),(24,3),(25,38),(26,41),(30,42),(31,43),(32,45)],elem:=0,alen:=0,ty:=some (.named 12),zero:=[.int .i64,.int .i64,.int .i64,.int .i64,.int .i64,.int .i64,.int .i64,.int .i64,.int .i64,.slice,.int .u64,.slice,.slice,.slice,.int .i64,.slice,.slice,.slice,.int .u64,.int .u64,.int .i64,.int .i64,.bool,.bool,.int .i64,.slice,.int .i64,.int .i64,.int .i64,.slice,.slice,.slice,.int .i64,.int .i64],bytes:=440,sl:=false,fk:=false,cmp:=false,mp:=false}),
 (51,{size:=2,agg:=true,fields:=[(0,3),(1,3)],elem:=0,alen:=0,ty:=some (.named 1),zero:=[.int .i64,.int .i64],bytes:=16,sl:=false,fk:=false,cmp:=true,mp:=false}),
 (53,{size:=1,agg:=false,fields:=[],elem:=0,alen:=0,ty:=none,zero:=[.func],bytes:=8,sl:=false,fk:=true,cmp:=false,mp:=false}),
 (57,{size:=4,agg:=true,fields:=[(0,3),(1,3),(2,3),(3,3)],elem:=0,alen:=0,ty:=some (.named 0),zero:=[.int .i64,.int .i64,.int .i64,.int .i64],bytes:=32,sl:=false,fk:=false,cmp:=true,mp:=false}),
 (58,{size:=1,agg:=false,fields:=[],elem:=57,alen:=0,ty:=some (.slice (.named 0)),zero:=[.slice],bytes:=24,sl:=true,fk:=false,cmp:=false,mp:=false}),
 (67,{size:=2,agg:=true,fields:=[(0,22),(1,3)],elem:=0,alen:=0,ty:=some (.named 17),zero:=[.slice,.int .i64],bytes:=32,sl:=false,fk:=false,cmp:=false,mp:=false}),
 (79,{size:=8,agg:=true,fields:=[(0,3),(1,3),(2,3),(3,3),(4,27),(5,27),(6,3),(7,3)],elem:=0,alen:=0,ty:=some (.named 4),zero:=[.int .i64,.int .i64,.int .i64,.int .i64,.int .u64,.int .u64,.int .i64,.int .i64],bytes:=64,sl:=false,fk:=false,cmp:=true,mp:=false}),
 (83,{size:=8,agg:=true,fields:=[(0,3),(1,3),(2,3),(3,3),(4,27),(5,3),(6,3),(7,3)],elem:=0,alen:=0,ty:=some (.named 5),zero:=[.int .i64,.int .i64,.int .i64,.int .i64,.int .u64,.int .i64,.int .i64,.int .i64],bytes:=64,sl:=false,fk:=false,cmp:=true,mp:=false}),
 (85,{size:=22,agg:=true,fields:=[(0,3),(1,3),(2,3),(3,3),(4,79),(12,83),(20,3),(21,3)],elem:=0,alen:=0,ty:=some (.named 6),zero:=[.int .i64,.int .i64,.int .i64,.int .i64,.int .i64,.int .i64,.int .i64,.int .i64,.int .u64,.int .u64,.int .i64,.int .i64,.int .i64,.int .i64,.int .i64,.int .i64,.int .u64,.int .i64,.int .i64,.int .i64,.int .i64,.int .i64],bytes:=176,sl:=false,fk:=false,cmp:=true,mp:=false}),
 (87,{size:=44,agg:=true,fields:=[(0,3),(1,3),(2,3),(3,3),(4,3),(5,38),(6,79),(14,83),(22,85)],elem:=0,alen:=0,ty:=some (.named 7),zero:=[.int .i64,.int .i64,.int .i64,.int .i64,.int .i64,.slice,.int .i64,.int .i64,.int .i64,.int .i64,.int .u64,.int .u64,.int .i64,.int .i64,.int .i64,.int .i64,.int .i64,.int .i64,.int .u64,.int .i64,.int .i64,.int .i64,.int .i64,.int .i64,.int .i64,.int .i64,.int .i64,.int .i64,.int .i64,.int .i64,.int .u64,.int .u64,.int .i64,.int .i64,.int .i64,.int .i64,.int .i64,.int .i64,.int .u64,.int .i64,.int .i64,.int .i64,.int .i64,.int .i64],bytes:=368,sl:=false,fk:=false,cmp:=false,mp:=false}),
 (95,{size:=41,agg:=true,fields:=[(0,3),(1,3),(2,3),(3,3),(4,3),(5,3),(6,3),(7,3),(8,38),(9,38),(10,38),(11,83),(19,85)],elem:=0,alen:=0,ty:=some (.named 8),zero:=[.int .i64,.int .i64,.int .i64,.int .i64,.int .i64,.int .i64,.int .i64,.int .i64,.slice,.slice,.slice,.int .i64,.int .i64,.int .i64,.int .i64,.int .u64,.int .i64,.int .i64,.int .i64,.int .i64,.int .i64,.int .i64,.int .i64,.int .i64,.int .i64,.int .i64,.int .i64,.int .u64,.int .u64,.int .i64,.int .i64,.int .i64,.int .i64,.int .i64,.int .i64,.int .u64,.int .i64,.int .i64,.int .i64,.int .i64,.int .i64],bytes:=376,sl:=false,fk:=false,cmp:=false,mp:=false}),
 (97,{size:=1,agg:=false,fields:=[],elem:=0,alen:=0,ty:=none,zero:=[.func],bytes:=8,sl:=false,fk:=true,cmp:=false,mp:=false}),
 (98,{size:=1,agg:=false,fields:=[],elem:=97,alen:=0,ty:=none,zero:=[.map],bytes:=8,sl:=false,fk:=false,cmp:=false,mp:=true}),
 (102,{size:=1,agg:=false,fields:=[],elem:=3,alen:=0,ty:=some z7,zero:=[.slice],bytes:=24,sl:=true,fk:=false,cmp:=false,mp:=false}),
 (112,{size:=6,agg:=true,fields:=[],elem:=53,alen:=6,ty:=none,zero:=[.func,.func,.func,.func,.func,.func],bytes:=48,sl:=false,fk:=false,cmp:=false,mp:=false}),
 (116,{size:=1,agg:=false,fields:=[],elem:=0,alen:=0,ty:=some zo,zero:=[.int .i64],bytes:=8,sl:=false,fk:=false,cmp:=false,mp:=false}),
 (140,{size:=79,agg:=true,fields:=[(0,87),(44,47),(78,3)],elem:=0,alen:=0,ty:=some (.named 14),zero:=[.int .i64,.int .i64,.int .i64,.int .i64,.int .i64,.slice,.int .i64,.int .i64,.int .i64,.int .i64,.int .u64,.int .u64,.int .i64,.int .i64,.int .i64,.int .i64,.int .i64,.int .i64,.int .u64,.int .i64,.int .i64,.int .i64,.int .i64,.int .i64,.int .i64,.int .i64,.int .i64,.int .i64,.int .i64,.int .i64,.int .u64,.int .u64,.int .i64,.int .i64,.int .i64,.int .i64,.int .i64,.int .i64,.int .u64,.int .i64,.int .i64,.int .i64,.int .i64,.int .i64,.int .i64,.int .i64,.int .i64,.int .i64,.int .i64,.int .i64,.int .i64,.int .i64,.int .i64,.slice,.int .u64,.slice,.slice,.slice,.int .i64,.slice,.slice,.slice,.int .u64,.int .u64,.int .i64,.int .i64,.bool,.bool,.int .i64,.slice,.int .i64,.int .i64,.int .i64,.slice,.slice,.slice,.int .i64,.int .i64,.int .i64],bytes:=816,sl:=false,fk:=false,cmp:=false,mp:=false}),
 (144,{size:=76,agg:=true,fields:=[(0,95),(41,47),(75,3)],elem:=0,alen:=0,ty:=some (.named 16),zero:=[.int .i64,.int .i64,.int .i64,.int .i64,.int .i64,.int .i64,.int .i64,.int .i64,.slice,.slice,.slice,.int .i64,.int .i64,.int .i64,.int .i64,.int .u64,.int .i64,.int .i64,.int .i64,.int .i64,.int .i64,.int .i64,.int .i64,.int .i64,.int .i64,.int .i64,.int .i64,.int .u64,.int .u64,.int .i64,.int .i64,.int .i64,.int .i64,.int .i64,.int .i64,.int .u64,.int .i64,.int .i64,.int .i64,.int .i64,.int .i64,.int .i64,.int .i64,.int .i64,.int .i64,.int .i64,.int .i64,.int .i64,.int .i64,.int .i64,.slice,.int .u64,.slice,.slice,.slice,.int .i64,.slice,.slice,.slice,.int .u64,.int .u64,.int .i64,.int .i64,.bool,.bool,.int .i64,.slice,.int .i64,.int .i64,.int .i64,.slice,.slice,.slice,.int .i64,.int .i64,.int .i64],bytes:=824,sl:=false,fk:=false,cmp:=false,mp:=false}),
 (150,{size:=1,agg:=false,fields:=[],elem:=85,alen:=0,ty:=some (.slice (.named 6)),zero:=[.slice],bytes:=24,sl:=true,fk:=false,cmp:=false,mp:=false}),
 (154,{size:=64,agg:=true,fields:=[],elem:=3,alen:=64,ty:=some (.arr 64 zo),zero:=[.int .i64,.int .i64,.int .i64,.int .i64,.int .i64,.int .i64,.int .i64,.int .i64,.int .i64,.int .i64,.int .i64,.int .i64,.int .i64,.int .i64,.int .i64,.int .i64,.int .i64,.int .i64,.int .i64,.int .i64,.int .i64,.int .i64,.int .i64,.int .i64,.int .i64,.int .i64,.int .i64,.int .i64,.int .i64,.int .i64,.int .i64,.int .i64,.int .i64,.int .i64,.int .i64,.int .i64,.int .i64,.int .i64,.int .i64,.int .i64,.int .i64,.int .i64,.int .i64,.int .i64,.int .i64,.int .i64,.int .i64,.int .i64,.int .i64,.int .i64,.int .i64,.int .i64,.int .i64,.int .i64,.int .i64,.int .i64,.int .i64,.int .i64,.int .i64,.int .i64,.int .i64,.int .i64,.int .i64,.int .i64],bytes:=512,sl:=false,fk:=false,cmp:=true,mp:=false}),
 (162,{size:=1,agg:=false,fields:=[],elem:=0,alen:=0,ty:=none,zero:=[.func],bytes:=8,sl:=false,fk:=true,cmp:=false,mp:=false}),
 (163,{size:=4,agg:=true,fields:=[],elem:=162,alen:=4,ty:=none,zero:=[.func,.func,.func,.func],bytes:=32,sl:=false,fk:=false,cmp:=false,mp:=false}),
 (172,{size:=1,agg:=false,fields:=[],elem:=3,alen:=0,ty:=none,zero:=[.map],bytes:=8,sl:=false,fk:=false,cmp:=false,mp:=true}),
 (178,{size:=4,agg:=true,fields:=[(0,3),(1,3),(2,27),(3,27)],elem:=0,alen:=0,ty:=some (.named 13),zero:=[.int .i64,.int .i64,.int .u64,.int .u64],bytes:=32,sl:=false,fk:=false,cmp:=true,mp:=false}),
 (183,{size:=1,agg:=false,fields:=[],elem:=0,alen:=0,ty:=none,zero:=[.func],bytes:=8,sl:=false,fk:=true,cmp:=false,mp:=false}),
 (184,{size:=1,agg:=false,fields:=[],elem:=183,alen:=0,ty:=none,zero:=[.map],bytes:=8,sl:=false,fk:=false,cmp:=false,mp:=true}),
 (197,{size:=1,agg:=false,fields:=[],elem:=0,alen:=0,ty:=none,zero:=[.func],bytes:=8,sl:=false,fk:=true,cmp:=false,mp:=false}),
 (198,{size:=1,agg:=false,fields:=[],elem:=197,alen:=0,ty:=none,zero:=[.map],bytes:=8,sl:=false,fk:=false,cmp:=false,mp:=true}),
 (200,{size:=1,agg:=false,fields:=[],elem:=0,alen:=0,ty:=none,zero:=[.func],bytes:=8,sl:=false,fk:=true,cmp:=false,mp:=false}),
 (210,{size:=1,agg:=false,fields:=[],elem:=0,alen:=0,ty:=none,zero:=[.func],bytes:=8,sl:=false,fk:=true,cmp:=false,mp:=false}),
 (212,{size:=8,agg:=true,fields:=[],elem:=210,alen:=8,ty:=none,zero:=[.func,.func,.func,.func,.func,.func,.func,.func],bytes:=64,sl:=false,fk:=false,cmp:=false,mp:=false}),
 (214,{size:=56,agg:=true,fields:=[(0,85),(22,47)],elem:=0,alen:=0,ty:=some (.named 15),zero:=[.int .i64,.int .i64,.int .i64,.int .i64,.int .i64,.int .i64,.int .i64,.int .i64,.int .u64,.int .u64,.int .i64,.int .i64,.int .i64,.int .i64,.int .i64,.int .i64,.int .u64,.int .i64,.int .i64,.int .i64,.int .i64,.int .i64,.int .i64,.int .i64,.int .i64,.int .i64,.int .i64,.int .i64,.int .i64,.int .i64,.int .i64,.slice,.int .u64,.slice,.slice,.slice,.int .i64,.slice,.slice,.slice,.int .u64,.int .u64,.int .i64,.int .i64,.bool,.bool,.int .i64,.slice,.int .i64,.int .i64,.int .i64,.slice,.slice,.slice,.int .i64,.int .i64],bytes:=616,sl:=false,fk:=false,cmp:=false,mp:=false}),
 (232,{size:=1,agg:=false,fields:=[],elem:=102,alen:=0,ty:=some zQ,zero:=[.slice],bytes:=24,sl:=true,fk:=false,cmp:=false,mp:=false}),
 (234,{size:=3,agg:=true,fields:=[],elem:=200,alen:=3,ty:=none,zero:=[.func,.func,.func],bytes:=24,sl:=false,fk:=false,cmp:=false,mp:=false}),
 (235,{size:=1,agg:=false,fields:=[],elem:=237,alen:=0,ty:=none,zero:=[.slice],bytes:=24,sl:=true,fk:=false,cmp:=false,mp:=false}),
 (237,{size:=1,agg:=false,fields:=[],elem:=0,alen:=0,ty:=none,zero:=[.func],bytes:=8,sl:=false,fk:=true,cmp:=false,mp:=false})]
theorem zsm:yT E.leaves Tryz.prog tab=true:=by kernel_rfl
theorem zxe:(Tryz.prog).follows .mixedOrders=true:=by kernel_rfl
abbrev L (n:Nat):List SK:=(lvs n).map .val
abbrev vI:SK:= .val zo
abbrev vU:SK:= .val (.int .u64)
abbrev vB:SK:= .val .bool
abbrev vL:SK:= .val z7
abbrev vM:SK:= .val (.slice (.int .u64))
abbrev oI:Grp:= .one zo
abbrev oU:Grp:= .one (.int .u64)
abbrev oB:Grp:= .one .bool
abbrev oL:Grp:= .one z7
abbrev oM:Grp:= .one (.slice (.int .u64))
noncomputable abbrev cf:=zEz (E:=E) Tryz.prog tab
noncomputable abbrev cf1 a:=cf a [] [] [] [] []
noncomputable abbrev sp (C:Cfg E) (fn:Func) (i o:wx) (gi go:List Grp) (hi:Yo E gi=i.holes:=by kernel_rfl) (ho:Yo E go=o.holes:=by kernel_rfl):zL E:=zs0 C fn i o gi go hi ho
noncomputable abbrev lo (sl:List Nat) (i:wx) (b:Nat) (bs:List Nat) (bk:wx) (rs:List Nat) (r:wx) (gi gb gr:List Grp) (hi:Yo E gi=i.holes:=by kernel_rfl) (hb:Yo E gb=bk.holes:=by kernel_rfl) (hr:Yo E gr=r.holes:=by kernel_rfl):z3 E:={slots:=sl,inn:=i,brkId:=b,bslots:=bs,brk:=bk,rslots:=rs,ret:=r,gi:=grp gi hi,gb:=grp gb hb,gr:=grp gr hr}
end Go.Pe.G
namespace Go.Proofs
open Go.Shelf
def rhoTz:Go.Shelf.Ren:={f:=fun k=>if k=29 then 116 else k,t:=fun k=>if k=22 then 27 else if k=25 then 174 else if k=54 then 196 else k,g:=fun k=>if k=1 then 0 else k}
theorem laysTz:Lays7.n29 Tryz.prog rhoTz:=by
 constructor<;>first | kernel_rfl | (intro w;kernel_rfl)
end Go.Proofs
namespace Go.Pe.G
open Go.Pe Go.Proofs
def zr1 (G:Nat->Prop) (W0:World):Prop:=G 0/\Go.Proofs.TabAt 0 Go.Lib.deBruijn64tab W0
noncomputable def tz (x:zA):Int:=((Go.Lib.ctz 64 x.toNat:Nat):Int)
noncomputable def pTZ:zL E:={inn:=⟨[.val (.int .u64)],[]⟩,out:=⟨[.val zo],[]⟩,gi:=grp [.one (.int .u64)] rfl,go:=grp [.one zo] rfl,F:=fun x=>some (tz x.1,())}
noncomputable def qTZ (a:zA):Option (Int×Unit):=pTZ.F (a,())
theorem zJu (a:zA):qTZ a=some (tz a,()):=rfl
theorem zIP:Xg Tryz.prog 116=true:=by kernel_rfl
theorem zFO {G:Nat->Prop}{W0:World}(hG:zr1 G W0):WC Tryz.prog G W0 116 pTZ:=by
 intro A0 μ w args x y wd S hr hy;obtain ⟨hg,hT⟩:=hG;have hw:w.heap[0]? =W0.heap[0]? :=(wd.glob 0 hg).2;have hx:∃v,args= #[v]/\yy E w (Av A0 μ ([]:List (Blk E))) (.int .u64) v x.1:=by
  have hl:=hr.1;have hl:1=args.toList.length:=hl
  match ha:args.toList,hl with
  | [v],_ =>
   have h1:=hr.2 0 (.v (.int .u64) x.1) v rfl (by rw [ha];rfl);refine ⟨v,?_,?_⟩
   .rw [<-Array.toArray_toList (xs:=args),ha]
   .cases h1 with
    | v _ _ _ h=>exact h
 obtain ⟨v,rfl,hv⟩:=hx;cases hv with
 | int k z =>
 have hz:x.1.toNat<18446744073709551616:=x.1.isLt;have hk:=Go.Proofs.Any7.bits_TrailingZeros64 Go.Proofs.laysTz x.1.toNat hz w (fun _ j hj=>by
  have:=hT j hj;unfold World.cell? at this ⊢;show _=_;have e0:Go.Proofs.rhoTz.g 1=0:=rfl;rw [e0];simp only [hw];exact this)
 have hy:some (tz x.1,())=some y:=hy;injection hy with hy;subst hy;refine hk.mono ?_;rintro e w' ⟨rfl,rfl⟩;refine ⟨[.int .i64 (tz x.1)],A0,μ,rfl,S,?_,Adv.refl _ _,fun _ h=>h,wd.low,fun j ws h=>by simp [pTZ] at h⟩;exact RL.cons (.v _ _ _ (.int .i64 (tz x.1))) RL.nil
noncomputable def zan:Nat->BitVec 64->Option zw
 | 0,_=>none
 | f+1,s=>bif decide (s=0#64) then some [] else (zan f (s&&&(s-1#64))).map fun l=>w64 (tz s+1)::l
def un (n:Nat):Nat->List Int->List zw
 | 0,_=>[]
 | _+1,[]=>[]
 | f+1,x::l=>(x::l).take n::un n f ((x::l).drop n)
def zmo (l:zw) (n:Int):Option zD:=bif decide (1<=n)&&decide (n<1000000)&&decide ((l.length:Int)<1000000) then some (un n.toNat l.length l) else none
end Go.Pe.G
namespace Go.Proofs
open Go.Shelf
def zKi:Go.Shelf.Ren:={f:=fun k=>if k=125 then 228 else if k=128 then 252 else if k=129 then 253 else if k=215 then 262 else if k=216 then 249 else if k=257 then 227 else if k=294 then 243 else if k=295 then 244 else if k=296 then 245 else if k=297 then 246 else if k=298 then 247 else if k=299 then 248 else if k=300 then 250 else if k=301 then 251 else if k=328 then 257 else if k=329 then 258 else if k=330 then 259 else if k=331 then 260 else if k=332 then 261 else if k=343 then 263 else k,t:=fun k=>if k=0 then 0 else if k=3 then 3 else if k=4 then 4 else if k=5 then 5 else if k=9 then 9 else if k=28 then 38 else if k=46 then 174 else if k=51 then 258 else if k=53 then 27 else if k=131 then 207 else if k=182 then 251 else if k=183 then 252 else if k=218 then 261 else if k=222 then 264 else if k=228 then 266 else if k=229 then 61 else k,g:=fun k=>k}
theorem laysPd:Lays.n257 Tryz.prog zKi:=by
 constructor<;>first | kernel_rfl | (intro w;kernel_rfl)
def zJ0:Go.Shelf.Ren:={f:=fun k=>if k=125 then 228 else if k=128 then 252 else if k=129 then 253 else k,t:=fun k=>if k=3 then 3 else if k=4 then 4 else if k=5 then 5 else if k=9 then 9 else if k=46 then 174 else if k=51 then 258 else if k=53 then 27 else k,g:=fun k=>k}
theorem laysLn:Lays.n125 Tryz.prog zJ0:=by
 constructor<;>first | kernel_rfl | (intro w;kernel_rfl)
end Go.Proofs
namespace Go.Pe.G
open Go.Pe
noncomputable def vr (l:List Int):List Int:=l.mergeSort fun x y=>decide (x<=y)
noncomputable def zKl (a b c:Int) (l:List Int):Option (List Int×Unit):=bif decide (a=0)&&decide (b=(l.length:Int))&&decide (c=((Go.Sort.bitsLen l.length:Nat):Int))&&decide (l.length<4294967296) then some (vr l,()) else none
noncomputable def zKs:zL E:={inn:=⟨[.own 0,.val (.int .i64),.val (.int .i64),.val (.int .i64)],[.row true (.int .i64)]⟩,out:=⟨[],[.row true (.int .i64)]⟩,gi:=grp [.one (.int .i64),.one (.int .i64),.one (.int .i64),.one (.slice (.int .i64))] rfl,go:=grp [.one (.slice (.int .i64))] rfl,F:=fun x=>zKl x.1 x.2.1 x.2.2.1 x.2.2.2.1}
noncomputable def zpG (l:List Int):Option (List Int×Unit):=bif decide (l.length<4294967296) then some (vr l,()) else none
noncomputable def ztb:zL E:={inn:=⟨[.val (.slice (.int .i64))],[]⟩,out:=⟨[.own 0],[.row true (.int .i64)]⟩,gi:=grp [.one (.slice (.int .i64))] rfl,go:=grp [.one (.slice (.int .i64))] rfl,F:=fun x=>zpG x.1}
noncomputable def ztm (l:List Int):Option (List Int×Unit):=ztb.F (l,())
theorem zEw (l:List Int):ztm l=zpG l:=rfl
theorem zDU {A0:Nat->Prop}{μ:Nat->Loc}{l:List Int}{w:World}{bk off cap:Nat}{cc:Array Value}{t:TypeId}(S:z9 A0 μ [Blk.row (E:=E) true (.int .i64) l] w) (hμ:μ 0= .blk bk off l.length cap) (hb:bk<w.heap.size) (e2:w.heap[bk]? =some (.cells cc t (0,0))) (h1:l.length<=cap) (h2:off+cap*1<=cc.size)
  (hcell:∀(j:Nat) (h:j<l.length),cc[off+j]? =some (.int .i64 l[j])) (n:Nat) (os:Array Obj) :
  z9 A0 μ [Blk.row (E:=E) true (.int .i64) (vr l)] (Go.Sort.grow (Go.Sort.putRow (Value.int .i64) (Go.Sort.ahead w n) bk off (vr l).toArray) os)/\Adv (Lv μ [Blk.row (E:=E) true (.int .i64) l]) w (Lv μ [Blk.row (E:=E) true (.int .i64) (vr l)]) (Go.Sort.grow (Go.Sort.putRow (Value.int .i64) (Go.Sort.ahead w n) bk off (vr l).toArray) os):=by
 have hlen':(vr l).length=l.length:=List.length_mergeSort l;have hheap:∀k,k<w.heap.size->(Go.Sort.grow (Go.Sort.putRow (Value.int .i64) (Go.Sort.ahead w n) bk off (vr l).toArray) os).heap[k]? =if bk=k then some (.cells (Go.Sort.putCells (Value.int .i64) off (vr l).toArray cc) t (0,0)) else w.heap[k]? :=fun k hk=>by
  rw [Go.Sort.heap_grow_old _ _ (by unfold Go.Sort.putRow Go.Sort.mapBlock Go.Sort.ahead;simpa using hk)];unfold Go.Sort.putRow Go.Sort.mapBlock Go.Sort.ahead;dsimp only;rw [Array.getElem?_modify];split
  .rename_i h;subst h;rw [e2];rfl
  .rfl
 have hsize:w.heap.size<=(Go.Sort.grow (Go.Sort.putRow (Value.int .i64) (Go.Sort.ahead w n) bk off (vr l).toArray) os).heap.size:=by
  unfold Go.Sort.grow Go.Sort.putRow Go.Sort.mapBlock Go.Sort.ahead;simp
 have hput:∀(i:Nat) (h:i<(vr l).length),(Go.Sort.putCells (Value.int .i64) off (vr l).toArray cc)[off+i]? =some (.int .i64 (vr l)[i]):=fun i h=>by
  unfold Go.Sort.putCells;rw [Array.getElem?_mapIdx,hcell i (by omega),zLx,zb ⟨by omega,by simp;omega⟩,show off+i-off=i by omega,getElem!_pos (vr l).toArray i (by simpa using h)];rfl
 refine ⟨⟨fun id=>?_,fun i j b o l c b' o' l' c' ne hi hj=>?_,fun id b o l c ho hm=>?_⟩,⟨rfl,rfl,rfl,hsize,fun b hb2 hn=>?_,fun b _ h=>?_⟩⟩
 .match id with
  | 0 =>
   refine .inl ⟨bk,off,cap,_,fun i=>.int .i64 ((vr l).getD i 0),?_,⟨t,(0,0),by rw [hheap bk hb,zb rfl],fun _=>rfl⟩,?_,?_,fun i hi j u hu=>?_,fun i hi=>?_⟩
   .rw [hμ];show Loc.blk bk off l.length cap=Loc.blk bk off (vr l).length cap;rw [hlen']
   .show (vr l).length<=cap;omega
   .show off+cap*1<=(Go.Sort.putCells (Value.int .i64) off (vr l).toArray cc).size;unfold Go.Sort.putCells;rw [Array.size_mapIdx];exact h2
   .have hi:i<(vr l).length:=hi
    match j,hu with
    | 0,hu =>
     have hu:some (Value.int .i64 ((vr l).getD i 0))=some u:=hu;injection hu with hu;subst hu;show (Go.Sort.putCells (Value.int .i64) off (vr l).toArray cc)[off+i*1+0]? =_;rw [zLs,zLe,hput i hi,zKw,zKv hi];rfl
    | j+1,hu=>cases hu
   .have hi:i<(vr l).length:=hi;have e:(vr l).getD i 0=(vr l)[i]:=by rw [zKw,zKv hi];rfl
    show yy E _ _ (.int .i64) (.int .i64 ((vr l).getD i 0)) (vr l)[i];rw [e];exact .int .i64 _
  | id+1=>exact trivial
 .match i,j with
  | 0,0=>exact zj rfl ne
  | 0,j+1=>cases hj
  | i+1,_=>cases hi
 .match id with
  | 0 =>
   have hm:μ 0=Loc.blk b o l c:=hm;have:=S.out 0 b o l c rfl hm;exact ⟨this.1,zKT this.2 hsize⟩
  | id+1=>cases ho
 .rw [hheap b hb2,zc];rintro rfl;exact hn ⟨0,off,l.length,cap,rfl,hμ⟩
 .obtain ⟨id,off2,len2,cap2,hl,hm⟩:=h
  match id with
  | 0=>exact ⟨0,off2,len2,cap2,rfl,hm⟩
  | id+1=>cases hl
end Go.Pe.G
namespace Go.Pe.G
open Go.Pe
noncomputable def zw8 (l:List Int):Option (List Int×Unit):=bif decide (0<l.length)&&decide (l.length<4294967296) then some (l.filter (fun x=> !decide (x=0)),()) else none
noncomputable def zAh:zL E:={inn:=⟨[.own 0],[.row true (.int .i64)]⟩,out:=⟨[.own 1],[.gone,.row true (.int .i64)]⟩,gi:=grp [.one (.slice (.int .i64))] rfl,go:=grp [.one (.slice (.int .i64))] rfl,F:=fun x=>zw8 x.1}
noncomputable def zfF (l:List Int):Option (List Int×Unit):=zAh.F (l,())
theorem zBv (l:List Int):zfF l=zw8 l:=rfl
noncomputable def zv3 (n:Int):Option (List Int×Unit):=bif decide (0<=n)&&decide (n<4294967296) then some ([],()) else none
noncomputable def zD0:zL E:={inn:=⟨[.nils,.val (.int .i64)],[]⟩,out:=⟨[.own 0],[.row true (.int .i64)]⟩,gi:=grp [.one (.int .i64)] rfl,go:=grp [.one (.slice (.int .i64))] rfl,F:=fun x=>zv3 x.1}
noncomputable def zD6 (n:Int):Option (List Int×Unit):=zD0.F (n,())
theorem zHa (n:Int):zD6 n=zv3 n:=rfl
end Go.Pe.G
namespace Go.Pe.G
open Go.Pe Go.Proofs
noncomputable section
def zz4:Cfg E:=cf1 []
def UY:zL E:=sp zz4 Tryz.f51 ⟨[vU,vU],[]⟩ ⟨[vB],[]⟩ [oU,oU] [oB]
def WZ (a1:zA) (a2:zA):Option (Bool×Unit):=UY.F (a1,a2,())
def zsJ:Cfg E:=cf1 []
def zeS:zL E:=sp zsJ Tryz.f101 ⟨[vI,.ptr 0],[.box false [vI,.val zQ]]⟩ ⟨[vB],[.gone]⟩ [oI,.str 2] [oB]
def zmU (a1:Int) (a2:zt):Option (Bool×Unit):=zeS.F (a1,a2,())
def Zd:z3 E:=lo [0,1,7,8] ⟨[vL,.fn 101 [.ptr 1],vI,vI],[.gone,.box false [vI,.val zQ]]⟩ 0 [] ⟨[],[.gone]⟩ [4] ⟨[vI],[.gone]⟩ [oL,oI,oI,.str 2] [] [oI]
def w8:Cfg E:=cf [(101,[zeS])] [(2,Zd)] [] [] [] []
def vm:zL E:=sp w8 Tryz.f109 ⟨[vL,.fn 101 [.ptr 0]],[.box false [vI,.val zQ]]⟩ ⟨[vI],[.gone]⟩ [oL,.str 2] [oI]
def ZH (a1:zw) (a2:zt):Option (Int×Unit):=vm.F (a1,a2,())
def u7 (x:zw×Int×Int×zt×Unit):Option (yL (zw×Int×Int×zt×Unit) (Unit) (Int×Unit)):=yp w8 (exec w8 (yC Tryz.f109 2)) 19 Zd x
def WU:Cfg E:=cf1 [(109,[vm])]
def wS:zL E:=sp WU Tryz.f71 ⟨[vL,.fn 101 [.ptr 0]],[.box false [vI,.val zQ]]⟩ ⟨[vB],[.gone]⟩ [oL,.str 2] [oB]
def wO (a1:zw) (a2:zt):Option (Bool×Unit):=wS.F (a1,a2,())
def zvl:Cfg E:=cf1 [(71,[wS])]
def zh3:zL E:=sp zvl Tryz.f100 ⟨[vL,.ptr 0],[.box false [vI,.val zQ]]⟩ ⟨[vB],[.gone]⟩ [oL,.str 2] [oB]
def zpJ (a1:zw) (a2:zt):Option (Bool×Unit):=zh3.F (a1,a2,())
def u0:z3 E:=lo [0,1,7,8] ⟨[.val zQ,.fn 100 [.ptr 1],vI,vI],[.gone,.box false [vI,.val zQ]]⟩ 0 [] ⟨[],[.gone]⟩ [4] ⟨[vI],[.gone]⟩ [.one zQ,oI,oI,.str 2] [] [oI]
def wY:Cfg E:=cf [(100,[zh3])] [(2,u0)] [] [] [] []
def vk:zL E:=sp wY Tryz.f156 ⟨[.val zQ,.fn 100 [.ptr 0]],[.box false [vI,.val zQ]]⟩ ⟨[vI],[.gone]⟩ [.one zQ,.str 2] [oI]
def ZF (a1:zD) (a2:zt):Option (Int×Unit):=vk.F (a1,a2,())
def Za (x:zD×Int×Int×zt×Unit):Option (yL (zD×Int×Int×zt×Unit) (Unit) (Int×Unit)):=yp wY (exec wY (yC Tryz.f156 2)) 19 u0 x
def WM:Cfg E:=cf1 [(156,[vk])]
def wT:zL E:=sp WM Tryz.f102 ⟨[.val zQ,.fn 100 [.ptr 0]],[.box false [vI,.val zQ]]⟩ ⟨[vB],[.gone]⟩ [.one zQ,.str 2] [oB]
def wP (a1:zD) (a2:zt):Option (Bool×Unit):=wT.F (a1,a2,())
def zyw:Cfg E:=cf1 [(102,[wT])]
def zcU:zL E:=sp zyw Tryz.f60 ⟨[.val (.named 2)],[]⟩ ⟨[vB],[]⟩ [.one (.named 2)] [oB]
def XK (a1:zt):Option (Bool×Unit):=zcU.F (a1,())
def zzL:Cfg E:=cf1 []
def UG:zL E:=sp zzL Tryz.f65 ⟨[vI],[]⟩ ⟨[vU],[]⟩ [oI] [oU]
def UE (a1:Int):Option (zA×Unit):=UG.F (a1,())
def zwh:Cfg E:=cf1 []
def zbJ:zL E:=sp zwh Tryz.f70 ⟨[vI,vI,vI],[]⟩ ⟨[vB],[]⟩ [oI,oI,oI] [oB]
def Zh (a1:Int) (a2:Int) (a3:Int):Option (Bool×Unit):=zbJ.F (a1,a2,a3,())
def zru:Cfg E:=cf1 [(70,[zbJ])]
def zdH:zL E:=sp zru Tryz.f69 ⟨[.val (.named 3)],[]⟩ ⟨[vB],[]⟩ [.one (.named 3)] [oB]
def zdR (a1:zd):Option (Bool×Unit):=zdH.F (a1,())
def zum:Cfg E:=cf1 [(70,[zbJ])]
def zhn:zL E:=sp zum Tryz.f72 ⟨[vI,.ptr 0],[.box false [vI]]⟩ ⟨[vB],[.gone]⟩ [oI,oI] [oB]
def zpA (a1:Int) (a2:Int):Option (Bool×Unit):=zhn.F (a1,a2,())
def Zt:z3 E:=lo [0,1,7,8] ⟨[vL,.fn 72 [.ptr 1],vI,vI],[.gone,.box false [vI]]⟩ 0 [] ⟨[],[.gone]⟩ [4] ⟨[vI],[.gone]⟩ [oL,oI,oI,oI] [] [oI]
def vl:Cfg E:=cf [(72,[zhn])] [(2,Zt)] [] [] [] []
def vD:zL E:=sp vl Tryz.f109 ⟨[vL,.fn 72 [.ptr 0]],[.box false [vI]]⟩ ⟨[vI],[.gone]⟩ [oL,oI] [oI]
def Z4 (a1:zw) (a2:Int):Option (Int×Unit):=vD.F (a1,a2,())
def Zv (x:zw×Int×Int×Int×Unit):Option (yL (zw×Int×Int×Int×Unit) (Unit) (Int×Unit)):=yp vl (exec vl (yC Tryz.f109 2)) 19 Zt x
def Vz:Cfg E:=cf1 [(109,[vD])]
def vb:zL E:=sp Vz Tryz.f71 ⟨[vL,.fn 72 [.ptr 0]],[.box false [vI]]⟩ ⟨[vB],[.gone]⟩ [oL,oI] [oB]
def vg (a1:zw) (a2:Int):Option (Bool×Unit):=vb.F (a1,a2,())
def zuF:Cfg E:=cf1 []
def zhC:zL E:=sp zuF Tryz.f159 ⟨[vI,.ptr 0],[.box false [vI]]⟩ ⟨[vB],[.gone]⟩ [oI,oI] [oB]
def yu (a1:Int) (a2:Int):Option (Bool×Unit):=zhC.F (a1,a2,())
def zyr:Cfg E:=cf1 [(159,[zhC])]
def zmi:zL E:=sp zyr Tryz.f112 ⟨[.val (.named 0),vI,vI],[]⟩ ⟨[vB],[]⟩ [.one (.named 0),oI,oI] [oB]
def zmq (a1:zE) (a2:Int) (a3:Int):Option (Bool×Unit):=zmi.F (a1,a2,a3,())
def zwz:Cfg E:=cf1 [(112,[zmi])]
def zkf:zL E:=sp zwz Tryz.f111 ⟨[.val (.named 0),.ptr 0,.ptr 1],[.box false [vI],.box false [vI]]⟩ ⟨[vB],[.gone,.gone]⟩ [.one (.named 0),oI,oI] [oB]
def zq9 (a1:zE) (a2:Int) (a3:Int):Option (Bool×Unit):=zkf.F (a1,a2,a3,())
def ul:z3 E:=lo [0,1,7,8] ⟨[.val (.slice (.named 0)),.fn 111 [.ptr 2,.ptr 3],vI,vI],[.gone,.gone,.box false [vI],.box false [vI]]⟩ 0 [] ⟨[],[.gone,.gone]⟩ [4] ⟨[vI],[.gone,.gone]⟩ [.one (.slice (.named 0)),oI,oI,oI,oI] [] [oI]
def wq:Cfg E:=cf [(111,[zkf])] [(2,ul)] [] [] [] []
def wB:zL E:=sp wq Tryz.f158 ⟨[.val (.slice (.named 0)),.fn 111 [.ptr 0,.ptr 1]],[.box false [vI],.box false [vI]]⟩ ⟨[vI],[.gone,.gone]⟩ [.one (.slice (.named 0)),oI,oI] [oI]
def uL (a1:List zE) (a2:Int) (a3:Int):Option (Int×Unit):=wB.F (a1,a2,a3,())
def uk (x:(List zE)×Int×Int×Int×Int×Unit):Option (yL ((List zE)×Int×Int×Int×Int×Unit) (Unit) (Int×Unit)):=yp wq (exec wq (yC Tryz.f158 2)) 19 ul x
def Xk:Cfg E:=cf1 [(158,[wB])]
def wm:zL E:=sp Xk Tryz.f110 ⟨[.val (.slice (.named 0)),.fn 111 [.ptr 0,.ptr 1]],[.box false [vI],.box false [vI]]⟩ ⟨[vB],[.gone,.gone]⟩ [.one (.slice (.named 0)),oI,oI] [oB]
def uj (a1:List zE) (a2:Int) (a3:Int):Option (Bool×Unit):=wm.F (a1,a2,a3,())
def zAb:Cfg E:=cf1 [(110,[wm])]
def zoT:zL E:=sp zAb Tryz.f73 ⟨[.val (.slice (.named 0)),vI,vI],[]⟩ ⟨[vB],[]⟩ [.one (.slice (.named 0)),oI,oI] [oB]
def zoX (a1:List zE) (a2:Int) (a3:Int):Option (Bool×Unit):=zoT.F (a1,a2,a3,())
def zxB:Cfg E:=cf1 []
def zf1:zL E:=sp zxB Tryz.f44 ⟨[.val (.named 1)],[]⟩ ⟨[vB],[]⟩ [.one (.named 1)] [oB]
def zsj (a1:zm):Option (Bool×Unit):=zf1.F (a1,())
def zu0:Cfg E:=cf1 [(44,[zf1])]
def zia:zL E:=sp zu0 Tryz.f114 ⟨[.val (.named 1),.ptr 0],[.box false [.map 1],.map [(1,vI),(2,vI)]]⟩ ⟨[vB],[.gone,.gone]⟩ [.one (.named 1),oI,oI] [oB]
def zyu (a1:zm) (a2:Int) (a3:Int):Option (Bool×Unit):=zia.F (a1,a2,a3,())
def vy:z3 E:=lo [0,1,7,8] ⟨[.val (.slice (.named 1)),.fn 114 [.ptr 2],vI,vI],[.gone,.gone,.box false [.map 3],.map [(1,vI),(2,vI)]]⟩ 0 [] ⟨[],[.gone,.gone]⟩ [4] ⟨[vI],[.gone,.gone]⟩ [.one (.slice (.named 1)),oI,oI,oI,oI] [] [oI]
def xX:Cfg E:=cf [(114,[zia])] [(2,vy)] [] [] [] []
def wb:zL E:=sp xX Tryz.f160 ⟨[.val (.slice (.named 1)),.fn 114 [.ptr 0]],[.box false [.map 1],.map [(1,vI),(2,vI)]]⟩ ⟨[vI],[.gone,.gone]⟩ [.one (.slice (.named 1)),oI,oI] [oI]
def vT (a1:List zm) (a2:Int) (a3:Int):Option (Int×Unit):=wb.F (a1,a2,a3,())
def vC (x:(List zm)×Int×Int×Int×Int×Unit):Option (yL ((List zm)×Int×Int×Int×Int×Unit) (Unit) (Int×Unit)):=yp xX (exec xX (yC Tryz.f160 2)) 19 vy x
def YJ:Cfg E:=cf1 [(160,[wb])]
def xT:zL E:=sp YJ Tryz.f113 ⟨[.val (.slice (.named 1)),.fn 114 [.ptr 0]],[.box false [.map 1],.map [(1,vI),(2,vI)]]⟩ ⟨[vB],[.gone,.gone]⟩ [.one (.slice (.named 1)),oI,oI] [oB]
def vA (a1:List zm) (a2:Int) (a3:Int):Option (Bool×Unit):=xT.F (a1,a2,a3,())
def zye:Cfg E:=cf1 [(113,[xT])]
def zmD:zL E:=sp zye Tryz.f74 ⟨[.val (.slice (.named 1)),vI,vI],[]⟩ ⟨[vB],[]⟩ [.one (.slice (.named 1)),oI,oI] [oB]
def zmc (a1:List zm) (a2:Int) (a3:Int):Option (Bool×Unit):=zmD.F (a1,a2,a3,())
def zoe:z3 E:=lo [1,3,51,52,53] ⟨[.ptr 0,.ptr 1,.val zQ,vI,vI],[.box true (L 3),.box true [vI]]⟩ 0 [1] ⟨[.ptr 0],[.box true (L 3)]⟩ [2] ⟨[vB],[]⟩ [.one zQ,oI,oI,.str 3,oI] [.str 3] [oB]
def zhV:Cfg E:=cf [(51,[UY]),(60,[zcU]),(65,[UG]),(69,[zdH]),(70,[zbJ]),(71,[vb]),(73,[zoT]),(74,[zmD])] [(5,zoe)] [] [] [] []
def zmk:zL E:=sp zhV Tryz.f24 ⟨[.val (.named 3)],[]⟩ ⟨[vB],[]⟩ [.one (.named 3)] [oB]
def zlP (a1:zd):Option (Bool×Unit):=zmk.F (a1,())
def znQ (x:zD×Int×Int×zd×Int×Unit):Option (yL (zD×Int×Int×zd×Int×Unit) (zd×Unit) (Bool×Unit)):=yp zhV (exec zhV (yC Tryz.f24 5)) 95 zoe x
def zCL:Cfg E:=cf1 []
def znJ:zL E:=sp zCL Tryz.f68 ⟨[vI],[]⟩ ⟨[vU],[]⟩ [oI] [oU]
def zn6 (a1:Int):Option (zA×Unit):=znJ.F (a1,())
def zDh:Cfg E:=cf1 [(68,[znJ])]
def zaX:zL E:=sp zDh Tryz.f22 ⟨[vU,vI],[]⟩ ⟨[vU],[]⟩ [oU,oI] [oU]
def YS (a1:zA) (a2:Int):Option (zA×Unit):=zaX.F (a1,a2,())
def zuk:z3 E:=lo [3,6,7,8] ⟨[vU,vL,vI,vI],[]⟩ 0 [3] ⟨[vU],[]⟩ [] ⟨[],[]⟩ [oU,oL,oI,oI] [oU] []
def zqT:Cfg E:=cf [(22,[zaX])] [(3,zuk)] [] [] [] []
def zh2:zL E:=sp zqT Tryz.f75 ⟨[vL],[]⟩ ⟨[vU],[]⟩ [oL] [oU]
def zhF (a1:zw):Option (zA×Unit):=zh2.F (a1,())
def zoh (x:zA×zw×Int×Int×Unit):Option (yL (zA×zw×Int×Int×Unit) (zA×Unit) (Unit)):=yp zqT (exec zqT (yC Tryz.f75 3)) 17 zuk x
def zoc:z3 E:=lo [3,9,10,11] ⟨[vU,.val zQ,vI,vI],[]⟩ 0 [3] ⟨[vU],[]⟩ [] ⟨[],[]⟩ [oU,.one zQ,oI,oI] [oU] []
def zhK:Cfg E:=cf [(75,[zh2])] [(3,zoc)] [] [] [] []
def zgA:zL E:=sp zhK Tryz.f25 ⟨[.val (.named 3)],[]⟩ ⟨[vU],[]⟩ [.one (.named 3)] [oU]
def zf2 (a1:zd):Option (zA×Unit):=zgA.F (a1,())
def zgl (x:zA×zD×Int×Int×Unit):Option (yL (zA×zD×Int×Int×Unit) (zA×Unit) (Unit)):=yp zhK (exec zhK (yC Tryz.f25 3)) 21 zoc x
def zqg:Cfg E:=cf1 []
def zcH:zL E:=sp zqg Tryz.f76 ⟨[vU],[]⟩ ⟨[vI],[]⟩ [oU] [oI]
def ziV (a1:zA):Option (Int×Unit):=zcH.F (a1,())
def zzI:Cfg E:=cf1 [(76,[zcH])]
def zdW:zL E:=sp zzI Tryz.f26 ⟨[vU],[]⟩ ⟨[vI],[]⟩ [oU] [oI]
def zbR (a1:zA):Option (Int×Unit):=zdW.F (a1,())
def zyN:Cfg E:=cf1 []
def zmR:zL E:=sp zyN Tryz.f27 ⟨[vI],[]⟩ ⟨[.val (.named 10)],[]⟩ [oI] [.one (.named 10)]
def zmV (a1:Int):Option (zy×Unit):=zmR.F (a1,())
def zk6:Cfg E:=cf1 []
def xI:zL E:=sp zk6 Tryz.f29 ⟨[vL],[]⟩ ⟨[.own 0],[.row true zo]⟩ [oL] [oL]
def xj (a1:zw):Option (zw×Unit):=xI.F (a1,())
def ZL:z3 E:=lo [1,5,14,15] ⟨[.fn 29 [],.own 0,vI,vI],[.row true z7]⟩ 0 [5] ⟨[.own 0],[.row true z7]⟩ [] ⟨[],[]⟩ [oI,oI,.one zQ] [.one zQ] []
def vo:Cfg E:=cf [(29,[xI])] [(4,ZL)] [] [] [] []
def vN:zL E:=sp vo Tryz.f28 ⟨[.val zQ,.fn 29 []],[]⟩ ⟨[.own 0],[.row true z7]⟩ [.one zQ] [.one zQ]
def vP (a1:zD):Option (zD×Unit):=vN.F (a1,())
def xn (x:Int×Int×zD×Unit):Option (yL (Int×Int×zD×Unit) (zD×Unit) (Unit)):=yp vo (exec vo (yC Tryz.f28 4)) 29 ZL x
def zw2:Cfg E:=cf1 []
def zjz:zL E:=sp zw2 Tryz.f30 ⟨[vI],[]⟩ ⟨[.own 0],[.row true (.int .u64)]⟩ [oI] [oM]
def zj1 (a1:Int):Option ((List zA)×Unit):=zjz.F (a1,())
def zwi:Cfg E:=cf1 []
def zbD:zL E:=sp zwi Tryz.f31 ⟨L 0,[]⟩ ⟨[.val (.named 4)],[]⟩ [oI,oI,oI,oI] [.one (.named 4)]
def zeB (a1:Int) (a2:Int) (a3:Int) (a4:Int):Option (zg×Unit):=zbD.F (a1,a2,a3,a4,())
def zv6:Cfg E:=cf1 []
def X1:zL E:=sp zv6 Tryz.f32 ⟨[.val (.named 3),vI],[]⟩ ⟨[vI],[]⟩ [.one (.named 3),oI] [oI]
def xL (a1:zd) (a2:Int):Option (Int×Unit):=X1.F (a1,a2,())
def zz1:Cfg E:=cf1 []
def zop:zL E:=sp zz1 Tryz.f33 ⟨[.val (.named 3)],[]⟩ ⟨[vI],[]⟩ [.one (.named 3)] [oI]
def zit (a1:zd):Option (Int×Unit):=zop.F (a1,())
def zkG:Cfg E:=cf1 []
def VS:zL E:=sp zkG Tryz.f34 ⟨[vL,vI],[]⟩ ⟨[.fn 77 [.ptr 0,.ptr 1]],[.box true [vL],.box true [vI]]⟩ [oL,oI] [oL,oI]
def zdy (a1:zw) (a2:Int):Option (zw×Int×Unit):=VS.F (a1,a2,())
def zA2:Cfg E:=cf1 []
def zqf:zL E:=sp zA2 Tryz.f78 ⟨[vU],[]⟩ ⟨[.fn 115 [.ptr 0]],[.box true [vU]]⟩ [oU] [oU]
def zvy (a1:zA):Option (zA×Unit):=zqf.F (a1,())
def znG:z3 E:=lo [0,1] ⟨[.yld,.ptr 0],[.box true [vU]]⟩ 0 [0] ⟨[.yld],[]⟩ [0] ⟨[.yld],[]⟩ [oI,oI,oU] [oI,oI] [oI,oI]
def zxc:Cfg E:=cf [(116,[pTZ])] [(0,znG)] [] [] [] []
def zc7 (ys:zw):Cfg E:={zxc with yl:=true,ye:=zo,yd:=ys}
def zpa:wx:=⟨[.ptr 0],[.box true [vU]]⟩
def zcO:Z7 E:={inn:=zpa,e:=zo,F:=fun x=>zan 66 x.1}
def zlA (a1:zA):Option zw:=zcO.F (a1,())
def zca (ys:zw) (x:Int×Int×zA×Unit):Option (yL (Int×Int×zA×Unit) (Int×Int×Unit) (Int×Int×Unit)):=yp (zc7 ys) (exec (zc7 ys) (yC Tryz.f115 0)) 15 znG x
def zrc:z3 E:=lo [3] ⟨[.ptr 0],[.box true [.own 1],.row true zo]⟩ 0 [] ⟨[],[]⟩ [] ⟨[],[]⟩ [oL] [] []
def zgC:Cfg E:=cf [(78,[zqf])] [(3,zrc)] [] [] [] [(115,zcO)]
def zlb:zL E:=sp zgC Tryz.f35 ⟨[vU],[]⟩ ⟨[.own 0],[.row true zo]⟩ [oU] [oL]
def zf7 (a1:zA):Option (zw×Unit):=zlb.F (a1,())
def zjL (y:Int) (x:zw×Unit):Option (zw×Unit):=zl8 zgC (exec zgC (zH6 Tryz.f35 3)) (exec zgC (zAJ Tryz.f35 3)) 13 zrc 7 zo y x
def zBH:Cfg E:=cf1 []
def zqV:zL E:=sp zBH Tryz.f161 ⟨[vU],[]⟩ ⟨[vU,vB],[]⟩ [oU] [oU,oB]
def zvR (a1:zA):Option (zA×Bool×Unit):=zqV.F (a1,())
def zAV:Cfg E:=cf1 []
def zqG:zL E:=sp zAV Tryz.f162 ⟨[vU,.ptr 0],[.box false (L 13)]⟩ ⟨[vU,vB],[.gone]⟩ [oU,.str 13] [oU,oB]
def zwV (a1:zA) (a2:YP):Option (zA×Bool×Unit):=zqG.F (a1,a2,())
def zBS:Cfg E:=cf1 []
def zqX:zL E:=sp zBS Tryz.f163 ⟨[vU,.ptr 0],[.box false (L 13)]⟩ ⟨[vU,vB],[.gone]⟩ [oU,.str 13] [oU,oB]
def zvF (a1:zA) (a2:YP):Option (zA×Bool×Unit):=zqX.F (a1,a2,())
def zCv:Cfg E:=cf1 []
def zqd:zL E:=sp zCv Tryz.f164 ⟨[vU,.ptr 0],[.box false (L 13)]⟩ ⟨[vU,vB],[.gone]⟩ [oU,.str 13] [oU,oB]
def zD3 (a1:zA) (a2:YP):Option (zA×Bool×Unit):=zqd.F (a1,a2,())
def zfu:Cfg E:=cf1 []
def YV:zL E:=sp zfu Tryz.f165 ⟨[vM],[]⟩ ⟨[.own 0],[.row true (.int .u64)]⟩ [oM] [oM]
def wA (a1:List zA):Option ((List zA)×Unit):=YV.F (a1,())
def zEu:Cfg E:=cf1 [(161,[zqV]),(162,[zqG]),(163,[zqX]),(164,[zqd]),(165,[YV])]
def zbo:zL E:=sp zEu Tryz.f117 ⟨[vM,.val (.named 13)],[]⟩ ⟨[vM,vU,vB],[]⟩ [oM,.one (.named 13)] [oM,oU,oB]
def Wg (a1:List zA) (a2:YP):Option ((List zA)×zA×Bool×Unit):=zbo.F (a1,a2,())
def zwD:Cfg E:=cf1 [(117,[zbo])]
def zeC:zL E:=sp zwD Tryz.f79 ⟨[vM,vI,vU],[]⟩ ⟨[vM],[]⟩ [oM,oI,oU] [oM]
def X7 (a1:List zA) (a2:Int) (a3:zA):Option ((List zA)×Unit):=zeC.F (a1,a2,a3,())
def zxY:Cfg E:=cf1 []
def zfA:zL E:=sp zxY Tryz.f80 ⟨[vU,vI],[]⟩ ⟨[vU],[]⟩ [oU,oI] [oU]
def zaQ (a1:zA) (a2:Int):Option (zA×Unit):=zfA.F (a1,a2,())
def zpD:z3 E:=lo [0,1,2,3,13,14] ⟨[vM,vI,vI,vL,vI,vI],[]⟩ 0 [0,1,3] ⟨[vM,vI,vL],[]⟩ [] ⟨[],[]⟩ [oM,oI,oI,oL,oI,oI] [oM,oI,oL] []
def zjJ:Cfg E:=cf [(79,[zeC]),(80,[zfA])] [(2,zpD)] [] [] [] []
def zon:zL E:=sp zjJ Tryz.f36 ⟨[vM,vI,vI,vL],[]⟩ ⟨[vM],[]⟩ [oM,oI,oI,oL] [oM]
def zif (a1:List zA) (a2:Int) (a3:Int) (a4:zw):Option ((List zA)×Unit):=zon.F (a1,a2,a3,a4,())
def zhr (x:(List zA)×Int×Int×zw×Int×Int×Unit):Option (yL ((List zA)×Int×Int×zw×Int×Int×Unit) ((List zA)×Int×zw×Unit) (Unit)):=yp zjJ (exec zjJ (yC Tryz.f36 2)) 49 zpD x
def zyn:Cfg E:=cf1 []
def Xv:zL E:=sp zyn Tryz.f37 ⟨[.val (.named 3)],[]⟩ ⟨[vI],[]⟩ [.one (.named 3)] [oI]
def Xw (a1:zd):Option (Int×Unit):=Xv.F (a1,())
def zxh:Cfg E:=cf1 [(37,[Xv])]
def X2:zL E:=sp zxh Tryz.f39 ⟨[.val (.named 3)],[]⟩ ⟨[vI],[]⟩ [.one (.named 3)] [oI]
def Wf (a1:zd):Option (Int×Unit):=X2.F (a1,())
def zxI:Cfg E:=cf1 [(39,[X2])]
def Xz:zL E:=sp zxI Tryz.f38 ⟨[.val (.named 3)],[]⟩ ⟨[vI],[]⟩ [.one (.named 3)] [oI]
def YG (a1:zd):Option (Int×Unit):=Xz.F (a1,())
def U3:z3 E:=lo [0,1,2,4] ⟨[.yld,.ptr 0,.ptr 1,vI],[.box true [vL],.box true [vI]]⟩ 0 [0] ⟨[.yld],[]⟩ [0] ⟨[.yld],[]⟩ [oI,oI,oI,oL,oI] [oI,oI] [oI,oI]
def zgV:Cfg E:=cf [] [(1,U3)] [] [] [] []
def Zm (ys:zD):Cfg E:={zgV with yl:=true,ye:=z7,yd:=ys}
def zai:wx:=⟨[.ptr 0,.ptr 1],[.box true [vL],.box true [vI]]⟩
def uu:Z7 E:={inn:=zai,e:=z7,F:=fun x=>zmo x.1 x.2.1}
def zbC (a1:zw) (a2:Int):Option zD:=uu.F (a1,a2,())
def uW (ys:zD) (x:Int×Int×Int×zw×Int×Unit):Option (yL (Int×Int×Int×zw×Int×Unit) (Int×Int×Unit) (Int×Int×Unit)):=yp (Zm ys) (exec (Zm ys) (yC Tryz.f77 1)) 31 U3 x
def zpu:z3 E:=lo [1,2,3,4,37,38] ⟨[.ptr 0,.ptr 1,vU,.ptr 2,vI,vI],[.box true (L 3),.box true (L 0++L 0++[vI,.own 3,vU,.own 4,.own 5,.own 6,vI,.own 7,.own 8,.own 9,vU,vU,vI,vI,vB,vB,vI,.own 10,vI,vI,vI,.own 11,.own 12,.own 13,vI,vI]),.box true (L 3++[vI,.own 14,.own 15,.own 16,vU,vU,vI,vI,vB,vB,vI,.own 17]++L 10++[.own 18,.own 19,vI,vI]),.row true z7,.row true z7,.row true (.slice (.named 0)),.row true (.named 1),.row true z7,.row true (.int .u64),.row true z7,.row true zo,.row true zo,.row true (.named 7),.row true (.named 8),.row true z7,.row true (.int .u64),.row true z7,.row true zo,.row true (.named 7),.row true (.named 8)]⟩ 0 [1,2,3,4] ⟨[.ptr 0,.ptr 1,vU,.ptr 2],[.box true (L 3),.box true (L 0++L 0++[vI,.own 3,vU,.own 4,.own 5,.own 6,vI,.own 7,.own 8,.own 9,vU,vU,vI,vI,vB,vB,vI,.own 10,vI,vI,vI,.own 11,.own 12,.own 13,vI,vI]),.box true (L 3++[vI,.own 14,.own 15,.own 16,vU,vU,vI,vI,vB,vB,vI,.own 17]++L 10++[.own 18,.own 19,vI,vI]),.row true z7,.row true z7,.row true (.slice (.named 0)),.row true (.named 1),.row true z7,.row true (.int .u64),.row true z7,.row true zo,.row true zo,.row true (.named 7),.row true (.named 8),.row true z7,.row true (.int .u64),.row true z7,.row true zo,.row true (.named 7),.row true (.named 8)]⟩ [] ⟨[],[]⟩ [oU,oI,oI,.str 3,oI,oI,oI,oI,oI,oI,oI,oI,oI,oU,oI,.str 9,oI,oI,oB,oB,oI,oI,oI,oI,.str 11,.str 3,oI,.str 9,oI,oI,oB,oB,oI,.str 10,.str 11,.one zQ,.one zQ,.one (.slice (.slice (.named 0))),.one (.slice (.named 1)),.one zQ,oM,.one zQ,oL,oL,.one (.slice (.named 7)),.one (.slice (.named 8)),.one zQ,oM,.one zQ,oL,.one (.slice (.named 7)),.one (.slice (.named 8))] [oU,.str 3,oI,oI,oI,oI,oI,oI,oI,oI,oI,oU,oI,.str 9,oI,oI,oB,oB,oI,oI,oI,oI,.str 11,.str 3,oI,.str 9,oI,oI,oB,oB,oI,.str 10,.str 11,.one zQ,.one zQ,.one (.slice (.slice (.named 0))),.one (.slice (.named 1)),.one zQ,oM,.one zQ,oL,oL,.one (.slice (.named 7)),.one (.slice (.named 8)),.one zQ,oM,.one zQ,oL,.one (.slice (.named 7)),.one (.slice (.named 8))] []
def zn7:z3 E:=lo [1,2,3,4,6,72,73] ⟨[.ptr 0,.ptr 1,vU,.ptr 2,.own 3,vI,vI],[.box true (L 3),.box true (L 0++L 0++[vI,.own 4,vU,.own 5,.own 6,.own 7,vI,.own 8,.own 9,.own 10,vU,vU,vI,vI,vB,vB,vI,.own 11,vI,vI,vI,.own 12,.own 13,.own 14,vI,vI]),.box true (L 3++[vI,.own 15,.own 16,.own 17,vU,vU,vI,vI,vB,vB,vI,.own 18]++L 10++[.own 19,.own 20,vI,vI]),.row true zo,.row true z7,.row true z7,.row true (.slice (.named 0)),.row true (.named 1),.row true z7,.row true (.int .u64),.row true z7,.row true zo,.row true zo,.row true (.named 7),.row true (.named 8),.row true z7,.row true (.int .u64),.row true z7,.row true zo,.row true (.named 7),.row true (.named 8)]⟩ 2 [1,2,3,4,6] ⟨[.ptr 0,.ptr 1,vU,.ptr 2,.own 3],[.box true (L 3),.box true (L 0++L 0++[vI,.own 4,vU,.own 5,.own 6,.own 7,vI,.own 8,.own 9,.own 10,vU,vU,vI,vI,vB,vB,vI,.own 11,vI,vI,vI,.own 12,.own 13,.own 14,vI,vI]),.box true (L 3++[vI,.own 15,.own 16,.own 17,vU,vU,vI,vI,vB,vB,vI,.own 18]++L 10++[.own 19,.own 20,vI,vI]),.row true zo,.row true z7,.row true z7,.row true (.slice (.named 0)),.row true (.named 1),.row true z7,.row true (.int .u64),.row true z7,.row true zo,.row true zo,.row true (.named 7),.row true (.named 8),.row true z7,.row true (.int .u64),.row true z7,.row true zo,.row true (.named 7),.row true (.named 8)]⟩ [] ⟨[],[]⟩ [oU,oI,oI,.str 3,oI,oI,oI,oI,oI,oI,oI,oI,oI,oU,oI,.str 9,oI,oI,oB,oB,oI,oI,oI,oI,.str 11,.str 3,oI,.str 9,oI,oI,oB,oB,oI,.str 10,.str 11,oL,.one zQ,.one zQ,.one (.slice (.slice (.named 0))),.one (.slice (.named 1)),.one zQ,oM,.one zQ,oL,oL,.one (.slice (.named 7)),.one (.slice (.named 8)),.one zQ,oM,.one zQ,oL,.one (.slice (.named 7)),.one (.slice (.named 8))] [oU,.str 3,oI,oI,oI,oI,oI,oI,oI,oI,oI,oU,oI,.str 9,oI,oI,oB,oB,oI,oI,oI,oI,.str 11,.str 3,oI,.str 9,oI,oI,oB,oB,oI,.str 10,.str 11,oL,.one zQ,.one zQ,.one (.slice (.slice (.named 0))),.one (.slice (.named 1)),.one zQ,oM,.one zQ,oL,oL,.one (.slice (.named 7)),.one (.slice (.named 8)),.one zQ,oM,.one zQ,oL,.one (.slice (.named 7)),.one (.slice (.named 8))] []
def znR:z3 E:=lo [1,2,4,6] ⟨[.ptr 0,.ptr 1,.ptr 2,.own 3],[.box true (L 3),.box true (L 0++L 0++[vI,.own 4,vU,.own 5,.own 6,.own 7,vI,.own 8,.own 9,.own 10,vU,vU,vI,vI,vB,vB,vI,.own 11,vI,vI,vI,.own 12,.own 13,.own 14,vI,vI]),.box true (L 3++[vI,.own 15,.own 16,.own 17,vU,vU,vI,vI,vB,vB,vI,.own 18]++L 10++[.own 19,.own 20,vI,vI]),.row true zo,.row true z7,.row true z7,.row true (.slice (.named 0)),.row true (.named 1),.row true z7,.row true (.int .u64),.row true z7,.row true zo,.row true zo,.row true (.named 7),.row true (.named 8),.row true z7,.row true (.int .u64),.row true z7,.row true zo,.row true (.named 7),.row true (.named 8)]⟩ 0 [] ⟨[],[]⟩ [] ⟨[],[]⟩ [.str 3,oI,oI,oI,oI,oI,oI,oI,oI,oI,oU,oI,.str 9,oI,oI,oB,oB,oI,oI,oI,oI,.str 11,.str 3,oI,.str 9,oI,oI,oB,oB,oI,.str 10,.str 11,oL,.one zQ,.one zQ,.one (.slice (.slice (.named 0))),.one (.slice (.named 1)),.one zQ,oM,.one zQ,oL,oL,.one (.slice (.named 7)),.one (.slice (.named 8)),.one zQ,oM,.one zQ,oL,.one (.slice (.named 7)),.one (.slice (.named 8))] [] []
def zn2:z3 E:=lo [2,4,134,135,136] ⟨[.ptr 0,.ptr 1,.val zQ,vI,vI],[.box true (L 0++L 0++[vI,.own 2,vU,.own 3,.own 4,.own 5,vI,.own 6,.own 7,.own 8,vU,vU,vI,vI,vB,vB,vI,.own 9,vI,vI,vI,.own 10,.own 11,.own 12,vI,vI]),.box true (L 3++[vI,.own 13,vM,.own 14,vU,vU,vI,vI,vB,vB,vI,.own 15]++L 10++[.own 16,.own 17,vI,vI]),.row true z7,.row true z7,.row true (.slice (.named 0)),.row true (.named 1),.row true z7,.row true (.int .u64),.row true z7,.row true zo,.row true zo,.row true (.named 7),.row true (.named 8),.row true z7,.row true z7,.row true zo,.row true (.named 7),.row true (.named 8)]⟩ 6 [2,4] ⟨[.ptr 0,.ptr 1],[.box true (L 0++L 0++[vI,.own 2,vU,.own 3,.own 4,.own 5,vI,.own 6,.own 7,.own 8,vU,vU,vI,vI,vB,vB,vI,.own 9,vI,vI,vI,.own 10,.own 11,.own 12,vI,vI]),.box true (L 3++[vI,.own 13,vM,.own 14,vU,vU,vI,vI,vB,vB,vI,.own 15]++L 10++[.own 16,.own 17,vI,vI]),.row true z7,.row true z7,.row true (.slice (.named 0)),.row true (.named 1),.row true z7,.row true (.int .u64),.row true z7,.row true zo,.row true zo,.row true (.named 7),.row true (.named 8),.row true z7,.row true z7,.row true zo,.row true (.named 7),.row true (.named 8)]⟩ [] ⟨[],[]⟩ [.one zQ,oI,oI,oI,oI,oI,oI,oI,oI,oI,oI,oI,oU,oI,.str 9,oI,oI,oB,oB,oI,oI,oI,oI,.str 11,.str 3,oI,oM,.str 9,oI,oI,oB,oB,oI,.str 10,.str 11,.one zQ,.one zQ,.one (.slice (.slice (.named 0))),.one (.slice (.named 1)),.one zQ,oM,.one zQ,oL,oL,.one (.slice (.named 7)),.one (.slice (.named 8)),.one zQ,.one zQ,oL,.one (.slice (.named 7)),.one (.slice (.named 8))] [oI,oI,oI,oI,oI,oI,oI,oI,oI,oU,oI,.str 9,oI,oI,oB,oB,oI,oI,oI,oI,.str 11,.str 3,oI,oM,.str 9,oI,oI,oB,oB,oI,.str 10,.str 11,.one zQ,.one zQ,.one (.slice (.slice (.named 0))),.one (.slice (.named 1)),.one zQ,oM,.one zQ,oL,oL,.one (.slice (.named 7)),.one (.slice (.named 8)),.one zQ,.one zQ,oL,.one (.slice (.named 7)),.one (.slice (.named 8))] []
def Zg:Cfg E:=cf [(24,[zmk]),(25,[zgA]),(26,[zdW]),(27,[zmR]),(28,[vN]),(29,[xI]),(30,[zjz]),(31,[zbD]),(32,[X1]),(33,[zop]),(34,[VS]),(35,[zlb]),(36,[zon]),(37,[Xv]),(38,[Xz]),(39,[X2])] [(7,zpu),(15,zn7),(20,znR),(28,zn2)] [] [] [] [(77,uu)]
def ziC:zL E:=sp Zg Tryz.f6 ⟨[.val (.named 3)],[]⟩ ⟨[.val (.named 12)],[]⟩ [.one (.named 3)] [.one (.named 12)]
def ziy (a1:zd):Option (za×Unit):=ziC.F (a1,())
def zdo (x:zA×Int×Int×zd×Int×Int×Int×Int×Int×Int×Int×Int×Int×zA×Int×zx×Int×Int×Bool×Bool×Int×Int×Int×Int×zO×zd×Int×zx×Int×Int×Bool×Bool×Int×zy×zO×zD×zD×(List (List zE))×(List zm)×zD×(List zA)×zD×zw×zw×(List zi)×(List ze)×zD×(List zA)×zD×zw×(List zi)×(List ze)×Unit):Option (yL (zA×Int×Int×zd×Int×Int×Int×Int×Int×Int×Int×Int×Int×zA×Int×zx×Int×Int×Bool×Bool×Int×Int×Int×Int×zO×zd×Int×zx×Int×Int×Bool×Bool×Int×zy×zO×zD×zD×(List (List zE))×(List zm)×zD×(List zA)×zD×zw×zw×(List zi)×(List ze)×zD×(List zA)×zD×zw×(List zi)×(List ze)×Unit) (zA×zd×Int×Int×Int×Int×Int×Int×Int×Int×Int×zA×Int×zx×Int×Int×Bool×Bool×Int×Int×Int×Int×zO×zd×Int×zx×Int×Int×Bool×Bool×Int×zy×zO×zD×zD×(List (List zE))×(List zm)×zD×(List zA)×zD×zw×zw×(List zi)×(List ze)×zD×(List zA)×zD×zw×(List zi)×(List ze)×Unit) (Unit)):=yp Zg (exec Zg (yC Tryz.f6 7)) 150 zpu x
def zcn (x:zA×Int×Int×zd×Int×Int×Int×Int×Int×Int×Int×Int×Int×zA×Int×zx×Int×Int×Bool×Bool×Int×Int×Int×Int×zO×zd×Int×zx×Int×Int×Bool×Bool×Int×zy×zO×zw×zD×zD×(List (List zE))×(List zm)×zD×(List zA)×zD×zw×zw×(List zi)×(List ze)×zD×(List zA)×zD×zw×(List zi)×(List ze)×Unit):Option (yL (zA×Int×Int×zd×Int×Int×Int×Int×Int×Int×Int×Int×Int×zA×Int×zx×Int×Int×Bool×Bool×Int×Int×Int×Int×zO×zd×Int×zx×Int×Int×Bool×Bool×Int×zy×zO×zw×zD×zD×(List (List zE))×(List zm)×zD×(List zA)×zD×zw×zw×(List zi)×(List ze)×zD×(List zA)×zD×zw×(List zi)×(List ze)×Unit) (zA×zd×Int×Int×Int×Int×Int×Int×Int×Int×Int×zA×Int×zx×Int×Int×Bool×Bool×Int×Int×Int×Int×zO×zd×Int×zx×Int×Int×Bool×Bool×Int×zy×zO×zw×zD×zD×(List (List zE))×(List zm)×zD×(List zA)×zD×zw×zw×(List zi)×(List ze)×zD×(List zA)×zD×zw×(List zi)×(List ze)×Unit) (Unit)):=yp Zg (exec Zg (yC Tryz.f6 15)) 150 zn7 x
def zfD (y:zw) (x:zd×Int×Int×Int×Int×Int×Int×Int×Int×Int×zA×Int×zx×Int×Int×Bool×Bool×Int×Int×Int×Int×zO×zd×Int×zx×Int×Int×Bool×Bool×Int×zy×zO×zw×zD×zD×(List (List zE))×(List zm)×zD×(List zA)×zD×zw×zw×(List zi)×(List ze)×zD×(List zA)×zD×zw×(List zi)×(List ze)×Unit):Option (zd×Int×Int×Int×Int×Int×Int×Int×Int×Int×zA×Int×zx×Int×Int×Bool×Bool×Int×Int×Int×Int×zO×zd×Int×zx×Int×Int×Bool×Bool×Int×zy×zO×zw×zD×zD×(List (List zE))×(List zm)×zD×(List zA)×zD×zw×zw×(List zi)×(List ze)×zD×(List zA)×zD×zw×(List zi)×(List ze)×Unit):=zl8 Zg (exec Zg (zH6 Tryz.f6 20)) (exec Zg (zAJ Tryz.f6 20)) 150 znR 87 z7 y x
def zcr (x:zD×Int×Int×Int×Int×Int×Int×Int×Int×Int×Int×Int×zA×Int×zx×Int×Int×Bool×Bool×Int×Int×Int×Int×zO×zd×Int×(List zA)×zx×Int×Int×Bool×Bool×Int×zy×zO×zD×zD×(List (List zE))×(List zm)×zD×(List zA)×zD×zw×zw×(List zi)×(List ze)×zD×zD×zw×(List zi)×(List ze)×Unit):Option (yL (zD×Int×Int×Int×Int×Int×Int×Int×Int×Int×Int×Int×zA×Int×zx×Int×Int×Bool×Bool×Int×Int×Int×Int×zO×zd×Int×(List zA)×zx×Int×Int×Bool×Bool×Int×zy×zO×zD×zD×(List (List zE))×(List zm)×zD×(List zA)×zD×zw×zw×(List zi)×(List ze)×zD×zD×zw×(List zi)×(List ze)×Unit) (Int×Int×Int×Int×Int×Int×Int×Int×Int×zA×Int×zx×Int×Int×Bool×Bool×Int×Int×Int×Int×zO×zd×Int×(List zA)×zx×Int×Int×Bool×Bool×Int×zy×zO×zD×zD×(List (List zE))×(List zm)×zD×(List zA)×zD×zw×zw×(List zi)×(List ze)×zD×zD×zw×(List zi)×(List ze)×Unit) (Unit)):=yp Zg (exec Zg (yC Tryz.f6 28)) 150 zn2 x
def zA3:Cfg E:=cf1 [(26,[zdW]),(75,[zh2])]
def zq2:zL E:=sp zA3 Tryz.f45 ⟨[vL],[]⟩ ⟨[vU,vB],[]⟩ [oL] [oU,oB]
def zq0 (a1:zw):Option (zA×Bool×Unit):=zq2.F (a1,())
def zBB:Cfg E:=cf1 []
def zqF:zL E:=sp zBB Tryz.f86 ⟨[.val (.named 12)],[]⟩ ⟨[.fn 146 [.ptr 0]],[.box true (L 12)]⟩ [.one (.named 12)] [.str 12]
def zvD (a1:za):Option (za×Unit):=zqF.F (a1,())
def Uc:z3 E:=lo [0,3,9,10,11] ⟨[.val zQ,vI,.val zQ,vI,vI],[]⟩ 0 [0,3] ⟨[.val zQ,vI],[]⟩ [] ⟨[],[]⟩ [.one zQ,oI,.one zQ,oI,oI] [.one zQ,oI] []
def VM:z3 E:=lo [6,25,26,27] ⟨[.own 0,.val zQ,vI,vI],[.row true zo]⟩ 2 [6] ⟨[.own 0],[.row true zo]⟩ [] ⟨[],[]⟩ [.one zQ,oI,oI,oL] [oL] []
def vz:Cfg E:=cf [(204,[zD0])] [(3,Uc),(11,VM)] [] [] [] []
def Xs:zL E:=sp vz Tryz.f151 ⟨[.val zQ],[]⟩ ⟨[.own 0],[.row true zo]⟩ [.one zQ] [oL]
def XC (a1:zD):Option (zw×Unit):=Xs.F (a1,())
def wo (x:zD×Int×zD×Int×Int×Unit):Option (yL (zD×Int×zD×Int×Int×Unit) (zD×Int×Unit) (Unit)):=yp vz (exec vz (yC Tryz.f151 3)) 36 Uc x
def wi (x:zD×Int×Int×zw×Unit):Option (yL (zD×Int×Int×zw×Unit) (zw×Unit) (Unit)):=yp vz (exec vz (yC Tryz.f151 11)) 36 VM x
def zC0:Cfg E:=cf1 [(150,[ztb]),(151,[Xs])]
def zr5:zL E:=sp zC0 Tryz.f87 ⟨[vL,vL],[]⟩ ⟨[.own 0],[.row true zo]⟩ [oL,oL] [oL]
def zsQ (a1:zw) (a2:zw):Option (zw×Unit):=zr5.F (a1,a2,())
def zyz:Cfg E:=cf1 []
def Vc:zL E:=sp zyz Tryz.f217 ⟨[vU],[]⟩ ⟨[vI],[]⟩ [oU] [oI]
def Xq (a1:zA):Option (Int×Unit):=Vc.F (a1,())
def zyp:Cfg E:=cf1 [(117,[zbo])]
def zc3:zL E:=sp zyp Tryz.f218 ⟨[vM,vI],[]⟩ ⟨[vU],[]⟩ [oM,oI] [oU]
def zaM (a1:List zA) (a2:Int):Option (zA×Unit):=zc3.F (a1,a2,())
def zn9:z3 E:=lo [0,2,3,9,10] ⟨[vM,vI,vI,.own 0,vI],[.row true zo]⟩ 0 [9] ⟨[.own 0],[.row true zo]⟩ [] ⟨[],[]⟩ [oM,oI,oI,oI,oL] [oL] []
def zhS:Cfg E:=cf [(217,[Vc]),(218,[zc3])] [(3,zn9)] [] [] [] []
def zmv:zL E:=sp zhS Tryz.f196 ⟨[vM,vI,vI,vI],[]⟩ ⟨[.own 0],[.row true zo]⟩ [oM,oI,oI,oI] [oL]
def zly (a1:List zA) (a2:Int) (a3:Int) (a4:Int):Option (zw×Unit):=zmv.F (a1,a2,a3,a4,())
def zfB (x:(List zA)×Int×Int×Int×zw×Unit):Option (yL ((List zA)×Int×Int×Int×zw×Unit) (zw×Unit) (Unit)):=yp zhS (exec zhS (yC Tryz.f196 3)) 35 zn9 x
def zBl:Cfg E:=cf1 [(150,[ztb])]
def zf6:zL E:=sp zBl Tryz.f197 ⟨[vL],[]⟩ ⟨[.own 0],[.row true zo]⟩ [oL] [oL]
def yX (a1:zw):Option (zw×Unit):=zf6.F (a1,())
def znC:z3 E:=lo [1,3,17,18,19] ⟨[.ptr 0,.own 1,.own 2,vI,vI],[.box true (L 12),.row true zo,.row true zo]⟩ 0 [3] ⟨[.own 0],[.row true zo]⟩ [] ⟨[],[]⟩ [oI,oI,.str 12,oL,oL] [oL] []
def zhs:Cfg E:=cf [(37,[Xv]),(38,[Xz]),(196,[zmv]),(197,[zf6])] [(3,znC)] [] [] [] []
def zlB:zL E:=sp zhs Tryz.f147 ⟨[.val (.named 12)],[]⟩ ⟨[.own 0],[.row true zo]⟩ [.one (.named 12)] [oL]
def zcI (a1:za):Option (zw×Unit):=zlB.F (a1,())
def Um (x:Int×Int×za×zw×zw×Unit):Option (yL (Int×Int×za×zw×zw×Unit) (zw×Unit) (Unit)):=yp zhs (exec zhs (yC Tryz.f147 3)) 38 znC x
def zwI:Cfg E:=cf1 [(32,[X1]),(117,[zbo])]
def zjA:zL E:=sp zwI Tryz.f198 ⟨[.val (.named 12),vI,.val (.named 4)],[]⟩ ⟨[.own 0],[.row true zo]⟩ [.one (.named 12),oI,.one (.named 4)] [oL]
def zj8 (a1:za) (a2:Int) (a3:zg):Option (zw×Unit):=zjA.F (a1,a2,a3,())
def zDe:Cfg E:=cf1 []
def ziH:zL E:=sp zDe Tryz.f153 ⟨[.val (.named 6),vI,vI,vI],[]⟩ ⟨[vI],[]⟩ [.one (.named 6),oI,oI,oI] [oI]
def znF (a1:zI) (a2:Int) (a3:Int) (a4:Int):Option (Int×Unit):=ziH.F (a1,a2,a3,a4,())
def zxJ:Cfg E:=cf1 [(153,[ziH])]
def zfG:zL E:=sp zxJ Tryz.f200 ⟨[.val (.named 6)],[]⟩ ⟨[vI],[]⟩ [.one (.named 6)] [oI]
def ZY (a1:zI):Option (Int×Unit):=zfG.F (a1,())
def zxN:Cfg E:=cf1 [(117,[zbo])]
def ZZ:zL E:=sp zxN Tryz.f221 ⟨[vM,vI],[]⟩ ⟨[vU],[]⟩ [oM,oI] [oU]
def um (a1:List zA) (a2:Int):Option (zA×Unit):=ZZ.F (a1,a2,())
def zpk:Cfg E:=cf1 []
def uJ:zL E:=sp zpk Tryz.f222 ⟨[.ptr 0],[.box false (L 4)]⟩ ⟨[vI],[.gone]⟩ [.str 4] [oI]
def ZU (a1:zg):Option (Int×Unit):=uJ.F (a1,())
def zmW:Cfg E:=cf1 []
def wg:zL E:=sp zmW Tryz.f223 ⟨[.ptr 0],[.box false (L 4)]⟩ ⟨[vI],[.gone]⟩ [.str 4] [oI]
def wF (a1:zg):Option (Int×Unit):=wg.F (a1,())
def zwn:Cfg E:=cf1 []
def zbG:zL E:=sp zwn Tryz.f224 ⟨[vU,vU],[]⟩ ⟨[vB],[]⟩ [oU,oU] [oB]
def xS (a1:zA) (a2:zA):Option (Bool×Unit):=zbG.F (a1,a2,())
def zoR:Cfg E:=cf1 []
def YE:zL E:=sp zoR Tryz.f225 ⟨[.ptr 0],[.box false (L 4)]⟩ ⟨[vU],[.gone]⟩ [.str 4] [oU]
def yr (a1:zg):Option (zA×Unit):=YE.F (a1,())
def zno:Cfg E:=cf1 [(225,[YE])]
def uO:zL E:=sp zno Tryz.f226 ⟨[.ptr 0,vU],[.box false (L 4)]⟩ ⟨[vI],[.gone]⟩ [oU,.str 4] [oI]
def uR (a1:zA) (a2:zg):Option (Int×Unit):=uO.F (a1,a2,())
def zkk:z3 E:=lo [0,9,11,12,13] ⟨[vM,.ptr 0,vU,.own 1,vU],[.box true (L 4),.row true zo]⟩ 1 [12] ⟨[.own 0],[.row true zo]⟩ [] ⟨[],[]⟩ [oM,oU,oU,.str 4,oL] [oL] []
def zge:Cfg E:=cf [(221,[ZZ]),(222,[uJ]),(223,[wg]),(224,[zbG]),(225,[YE]),(226,[uO])] [(16,zkk)] [] [] [] []
def zjU:zL E:=sp zge Tryz.f201 ⟨[vM,vI,vI,.val (.named 4)],[]⟩ ⟨[.own 0],[.row true zo]⟩ [oM,oI,oI,.one (.named 4)] [oL]
def wM (a1:List zA) (a2:Int) (a3:Int) (a4:zg):Option (zw×Unit):=zjU.F (a1,a2,a3,a4,())
def yx (x:(List zA)×zA×zA×zg×zw×Unit):Option (yL ((List zA)×zA×zA×zg×zw×Unit) (zw×Unit) (Unit)):=yp zge (exec zge (yC Tryz.f201 16)) 76 zkk x
def zwy:Cfg E:=cf1 [(29,[xI]),(32,[X1]),(197,[zf6]),(198,[zjA]),(199,[zAh]),(200,[zfG]),(201,[zjU])]
def zj5:zL E:=sp zwy Tryz.f148 ⟨[.val (.named 12),vI],[]⟩ ⟨[.own 0],[.row true zo]⟩ [.one (.named 12),oI] [oL]
def zex (a1:za) (a2:Int):Option (zw×Unit):=zj5.F (a1,a2,())
def zxU:Cfg E:=cf1 []
def zfJ:zL E:=sp zxU Tryz.f152 ⟨[.val (.named 8)],[]⟩ ⟨[vB],[]⟩ [.one (.named 8)] [oB]
def Zc (a1:ze):Option (Bool×Unit):=zfJ.F (a1,())
def zu5:Cfg E:=cf1 [(29,[xI]),(152,[zfJ]),(197,[zf6]),(199,[zAh]),(200,[zfG])]
def zg9:zL E:=sp zu5 Tryz.f149 ⟨[.val (.named 12),vI],[]⟩ ⟨[.own 0],[.row true zo]⟩ [.one (.named 12),oI] [oL]
def zc6 (a1:za) (a2:Int):Option (zw×Unit):=zg9.F (a1,a2,())
def zyt (s:za):Nat->Int->Option zD
 | 0,_=>some []
 | n+1,i=>(zex s (i+1)).bind fun a=>(zyt s n (i+1)).bind fun l=>some (a.1::l)
def zx1 (s:za):Nat->Int->Option zD
 | 0,_=>some []
 | n+1,i=>(zc6 s (i+1)).bind fun a=>(zx1 s n (i+1)).bind fun l=>some (a.1::l)
def zwc (s:za):Option zD:=bif decide (s.Ws.length<1000000)&&decide (s.Ms.length<1000000) then (zcI s).bind fun a=>(zyt s s.Ws.length 0).bind fun b=>(zx1 s s.Ms.length 0).bind fun c=>some (a.1::(b++c)) else none
def zKn (x:HL E.T (lvs 12)):Option zD:=zwc (E.pack 12 x)
def zod:z3 E:=lo [0,1,12,13] ⟨[.yld,.ptr 0,vI,vI],[.box true (L 12)]⟩ 0 [0,1] ⟨[.yld,.ptr 0],[.box true (L 12)]⟩ [0] ⟨[.yld],[]⟩ [oI,oI,oI,oI,.str 12] [oI,oI,.str 12] [oI,oI]
def znt:z3 E:=lo [0,1,26,27] ⟨[.yld,.ptr 0,vI,vI],[.box true (L 12)]⟩ 2 [0] ⟨[.yld],[]⟩ [0] ⟨[.yld],[]⟩ [oI,oI,oI,oI,.str 12] [oI,oI] [oI,oI]
def zwu:Cfg E:=cf [(147,[zlB]),(148,[zj5]),(149,[zg9])] [(2,zod),(7,znt)] [] [] [] []
def Xi (ys:zD):Cfg E:={zwu with yl:=true,ye:=z7,yd:=ys}
def zdk:wx:=⟨[.ptr 0],[.box true (L 12)]⟩
def zc2:Z7 E:={inn:=zdk,e:=z7,F:=fun x=>zKn x}
def zrF (a1:Int) (a2:Int) (a3:Int) (a4:Int) (a5:Int) (a6:Int) (a7:Int) (a8:Int) (a9:Int) (a10:zD) (a11:zA) (a12:zD) (a13:List (List zE)) (a14:List zm) (a15:Int) (a16:zD) (a17:List zA) (a18:zD) (a19:zA) (a20:zA) (a21:Int) (a22:Int) (a23:Bool) (a24:Bool) (a25:Int) (a26:zw) (a27:Int) (a28:Int) (a29:Int) (a30:zw) (a31:List zi) (a32:List ze) (a33:Int) (a34:Int):Option zD:=zc2.F (a1,a2,a3,a4,a5,a6,a7,a8,a9,a10,a11,a12,a13,a14,a15,a16,a17,a18,a19,a20,a21,a22,a23,a24,a25,a26,a27,a28,a29,a30,a31,a32,a33,a34,())
def Ui (ys:zD) (x:Int×Int×Int×Int×za×Unit):Option (yL (Int×Int×Int×Int×za×Unit) (Int×Int×za×Unit) (Int×Int×Unit)):=yp (Xi ys) (exec (Xi ys) (yC Tryz.f146 2)) 38 zod x
def zco (ys:zD) (x:Int×Int×Int×Int×za×Unit):Option (yL (Int×Int×Int×Int×za×Unit) (Int×Int×Unit) (Int×Int×Unit)):=yp (Xi ys) (exec (Xi ys) (yC Tryz.f146 7)) 38 znt x
def zpx:z3 E:=lo [3] ⟨[.ptr 0],[.box true [.own 1],.row true zo]⟩ 0 [] ⟨[],[]⟩ [] ⟨[],[]⟩ [oL] [] []
def zez:Cfg E:=cf [(86,[zqF]),(87,[zr5])] [(3,zpx)] [] [] [] [(146,zc2)]
def zdV:zL E:=sp zez Tryz.f46 ⟨[.val (.named 12)],[]⟩ ⟨[.own 0],[.row true zo]⟩ [.one (.named 12)] [oL]
def zbQ (a1:za):Option (zw×Unit):=zdV.F (a1,())
def zdf (y:zw) (x:zw×Unit):Option (zw×Unit):=zl8 zez (exec zez (zH6 Tryz.f46 3)) (exec zez (zAJ Tryz.f46 3)) 12 zpx 7 z7 y x
def zyj:Cfg E:=cf1 []
def zcT:zL E:=sp zyj Tryz.f47 ⟨[.val (.named 9)],[]⟩ ⟨[vU],[]⟩ [.one (.named 9)] [oU]
def zfV (a1:zx):Option (zA×Unit):=zcT.F (a1,())
def zzX:Cfg E:=cf1 [(45,[zq2]),(46,[zdV]),(47,[zcT])]
def zeo:zL E:=sp zzX Tryz.f9 ⟨[.val (.named 12)],[]⟩ ⟨[vB],[]⟩ [.one (.named 12)] [oB]
def UI (a1:za):Option (Bool×Unit):=zeo.F (a1,())
def zjg:z3 E:=lo [1,3,9,10,11] ⟨[.ptr 0,.own 1,.val (.slice (.named 7)),vI,vI],[.box true (L 12),.row true (.named 6)]⟩ 0 [1,3] ⟨[.ptr 0,.own 1],[.box true (L 12),.row true (.named 6)]⟩ [] ⟨[],[]⟩ [.one (.slice (.named 7)),oI,oI,.str 12,.one (.slice (.named 6))] [.str 12,.one (.slice (.named 6))] []
def zi1:z3 E:=lo [3,25,26,27] ⟨[.own 0,.val (.slice (.named 8)),vI,vI],[.row true (.named 6)]⟩ 2 [3] ⟨[.own 0],[.row true (.named 6)]⟩ [] ⟨[],[]⟩ [.one (.slice (.named 8)),oI,oI,.one (.slice (.named 6))] [.one (.slice (.named 6))] []
def Wj:Cfg E:=cf [(152,[zfJ])] [(3,zjg),(9,zi1)] [] [] [] []
def zb9:zL E:=sp Wj Tryz.f88 ⟨[.val (.named 12)],[]⟩ ⟨[.own 0],[.row true (.named 6)]⟩ [.one (.named 12)] [.one (.slice (.named 6))]
def zcj (a1:za):Option ((List zI)×Unit):=zb9.F (a1,())
def XJ (x:(List zi)×Int×Int×za×(List zI)×Unit):Option (yL ((List zi)×Int×Int×za×(List zI)×Unit) (za×(List zI)×Unit) (Unit)):=yp Wj (exec Wj (yC Tryz.f88 3)) 40 zjg x
def Xu (x:(List ze)×Int×Int×(List zI)×Unit):Option (yL ((List ze)×Int×Int×(List zI)×Unit) ((List zI)×Unit) (Unit)):=yp Wj (exec Wj (yC Tryz.f88 9)) 40 zi1 x
def zzR:Cfg E:=cf1 [(153,[ziH])]
def zos:zL E:=sp zzR Tryz.f89 ⟨[.val (.named 6)],[]⟩ ⟨[vI],[]⟩ [.one (.named 6)] [oI]
def zoV (a1:zI):Option (Int×Unit):=zos.F (a1,())
def zpC:z3 E:=lo [1,3,11,12,13] ⟨[.ptr 0,vI,.own 1,vI,vI],[.box true (L 12),.row true (.named 6)]⟩ 0 [1,3] ⟨[.ptr 0,vI],[.box true (L 12)]⟩ [] ⟨[],[]⟩ [oI,oI,oI,.str 12,.one (.slice (.named 6))] [oI,.str 12] []
def zpl:z3 E:=lo [1,3,23,24,25] ⟨[.ptr 0,vI,.val (.slice (.named 7)),vI,vI],[.box true (L 12)]⟩ 2 [1,3] ⟨[.ptr 0,vI],[.box true (L 12)]⟩ [] ⟨[],[]⟩ [oI,.one (.slice (.named 7)),oI,oI,.str 12] [oI,.str 12] []
def zob:z3 E:=lo [3,36,37,38] ⟨[vI,.val (.slice (.named 8)),vI,vI],[]⟩ 4 [3] ⟨[vI],[]⟩ [] ⟨[],[]⟩ [oI,.one (.slice (.named 8)),oI,oI] [oI] []
def X5:Cfg E:=cf [(88,[zb9]),(89,[zos])] [(3,zpC),(8,zpl),(14,zob)] [] [] [] []
def zoK:zL E:=sp X5 Tryz.f48 ⟨[.val (.named 12)],[]⟩ ⟨[vI],[]⟩ [.one (.named 12)] [oI]
def zoE (a1:za):Option (Int×Unit):=zoK.F (a1,())
def zal (x:Int×Int×Int×za×(List zI)×Unit):Option (yL (Int×Int×Int×za×(List zI)×Unit) (Int×za×Unit) (Unit)):=yp X5 (exec X5 (yC Tryz.f48 3)) 49 zpC x
def zaC (x:Int×(List zi)×Int×Int×za×Unit):Option (yL (Int×(List zi)×Int×Int×za×Unit) (Int×za×Unit) (Unit)):=yp X5 (exec X5 (yC Tryz.f48 8)) 49 zpl x
def Ud (x:Int×(List ze)×Int×Int×Unit):Option (yL (Int×(List ze)×Int×Int×Unit) (Int×Unit) (Unit)):=yp X5 (exec X5 (yC Tryz.f48 14)) 49 zob x
def zwl:Cfg E:=cf1 [(46,[zdV]),(48,[zoK])]
def zbF:zL E:=sp zwl Tryz.f10 ⟨[.val (.named 12)],[]⟩ ⟨[vB],[]⟩ [.one (.named 12)] [oB]
def X4 (a1:za):Option (Bool×Unit):=zbF.F (a1,())
def zgZ:z3 E:=lo [3,6,7] ⟨[vU,.val (.arr 64 zo),vI],[]⟩ 0 [3] ⟨[vU],[]⟩ [] ⟨[],[]⟩ [oU,.one (.arr 64 zo),oI] [oU] []
def zcB:Cfg E:=cf [(22,[zaX])] [(3,zgZ)] [] [] [] []
def zeH:zL E:=sp zcB Tryz.f90 ⟨[.val (.arr 64 zo)],[]⟩ ⟨[vU],[]⟩ [.one (.arr 64 zo)] [oU]
def zeL (a1:zw):Option (zA×Unit):=zeH.F (a1,())
def zb5 (x:zA×zw×Int×Unit):Option (yL (zA×zw×Int×Unit) (zA×Unit) (Unit)):=yp zcB (exec zcB (yC Tryz.f90 3)) 19 zgZ x
def zC2:Cfg E:=cf1 [(68,[znJ])]
def zfl:zL E:=sp zC2 Tryz.f67 ⟨[vU,vI],[]⟩ ⟨[vB],[]⟩ [oU,oI] [oB]
def zcw (a1:zA) (a2:Int):Option (Bool×Unit):=zfl.F (a1,a2,())
def zvm:Cfg E:=cf1 []
def zhd:zL E:=sp zvm Tryz.f92 ⟨[vI],[]⟩ ⟨[vB],[]⟩ [oI] [oB]
def zpF (a1:Int):Option (Bool×Unit):=zhd.F (a1,())
def VL:z3 E:=lo [2,3,6,7,8,9,23,24,25] ⟨[.fn 92 [],.ptr 0,.aptr zo 1,.aptr zo 2,vU,.own 3,.own 3,vI,vI],[.box true [vI,.val zQ],.row true zo,.row true zo,.row true zo]⟩ 0 [2,3,6,7,8,9] ⟨[.fn 92 [],.ptr 0,.aptr zo 1,.aptr zo 2,vU,.own 3],[.box true [vI,.val zQ],.row true zo,.row true zo,.row true zo]⟩ [] ⟨[],[]⟩ [oU,oI,oI,.str 2,oL,oL,oL] [oU,.str 2,oL,oL,oL] []
def VO:z3 E:=lo [2,3,6,7,8,9] ⟨[.fn 92 [],.ptr 0,.aptr zo 1,.aptr zo 2,vU,.own 3],[.box true [vI,.val zQ],.row true zo,.row true zo,.row true zo]⟩ 2 [6,7] ⟨[.aptr zo 0,.aptr zo 1],[.row true zo,.row true zo]⟩ [] ⟨[],[]⟩ [oU,.str 2,oL,oL,oL] [oL,oL] []
def Vy:z3 E:=lo [2,3,6,7,8,9,12,50,51,52] ⟨[.fn 92 [],.ptr 0,.aptr zo 1,.aptr zo 2,vU,.own 3,vI,vL,vI,vI],[.box true [vI,.val zQ],.row true zo,.row true zo,.row true zo]⟩ 4 [2,3,6,7,8,9] ⟨[.fn 92 [],.ptr 0,.aptr zo 1,.aptr zo 2,vU,.own 3],[.box true [vI,.val zQ],.row true zo,.row true zo,.row true zo]⟩ [] ⟨[],[]⟩ [oU,oI,oL,oI,oI,.str 2,oL,oL,oL] [oU,.str 2,oL,oL,oL] []
def xP:Cfg E:=cf [(35,[zlb]),(65,[UG]),(67,[zfl]),(92,[zhd])] [(5,VL),(9,VO),(14,Vy)] [(10,1)] [] [] []
def Xc:zL E:=sp xP Tryz.f91 ⟨[.val (.named 2),vU,.fn 92 []],[]⟩ ⟨[.val (.arr 64 zo)],[]⟩ [.one (.named 2),oU] [.one (.arr 64 zo)]
def Xb (a1:zt) (a2:zA):Option (zw×Unit):=Xc.F (a1,a2,())
def Yu (x:zA×Int×Int×zt×zw×zw×zw×Unit):Option (yL (zA×Int×Int×zt×zw×zw×zw×Unit) (zA×zt×zw×zw×zw×Unit) (Unit)):=yp xP (exec xP (yC Tryz.f91 5)) 80 VL x
def Yv (x:zA×zt×zw×zw×zw×Unit):Option (yL (zA×zt×zw×zw×zw×Unit) (zw×zw×Unit) (Unit)):=yp xP (exec xP (yC Tryz.f91 9)) 80 VO x
def ue (x:zA×Int×zw×Int×Int×zt×zw×zw×zw×Unit):Option (yL (zA×Int×zw×Int×Int×zt×zw×zw×zw×Unit) (zA×zt×zw×zw×zw×Unit) (Unit)):=yp xP (exec xP (yC Tryz.f91 14)) 80 Vy x
def zyc:Cfg E:=cf1 [(90,[zeH]),(91,[Xc])]
def zct:zL E:=sp zyc Tryz.f49 ⟨[.val (.named 2),vU],[]⟩ ⟨[vU],[]⟩ [.one (.named 2),oU] [oU]
def Vf (a1:zt) (a2:zA):Option (zA×Unit):=zct.F (a1,a2,())
def zzQ:Cfg E:=cf1 [(153,[ziH])]
def zoQ:zL E:=sp zzQ Tryz.f93 ⟨[.val (.named 6)],[]⟩ ⟨[vI],[]⟩ [.one (.named 6)] [oI]
def zog (a1:zI):Option (Int×Unit):=zoQ.F (a1,())
def zks:z3 E:=lo [1,3,9,10,11] ⟨[.ptr 0,vU,.own 1,vI,vI],[.box true (L 12),.row true (.named 6)]⟩ 0 [1,3] ⟨[.ptr 0,vU],[.box true (L 12)]⟩ [] ⟨[],[]⟩ [oU,oI,oI,.str 12,.one (.slice (.named 6))] [oU,.str 12] []
def zko:z3 E:=lo [3,21,22,23] ⟨[vU,.val (.slice (.named 8)),vI,vI],[]⟩ 2 [3] ⟨[vU],[]⟩ [] ⟨[],[]⟩ [oU,.one (.slice (.named 8)),oI,oI] [oU] []
def Vt:Cfg E:=cf [(22,[zaX]),(75,[zh2]),(88,[zb9]),(93,[zoQ])] [(3,zks),(8,zko)] [] [] [] []
def zaD:zL E:=sp Vt Tryz.f50 ⟨[.val (.named 12)],[]⟩ ⟨[vU],[]⟩ [.one (.named 12)] [oU]
def zaP (a1:za):Option (zA×Unit):=zaD.F (a1,())
def Wu (x:zA×Int×Int×za×(List zI)×Unit):Option (yL (zA×Int×Int×za×(List zI)×Unit) (zA×za×Unit) (Unit)):=yp Vt (exec Vt (yC Tryz.f50 3)) 61 zks x
def Wk (x:zA×(List ze)×Int×Int×Unit):Option (yL (zA×(List ze)×Int×Int×Unit) (zA×Unit) (Unit)):=yp Vt (exec Vt (yC Tryz.f50 8)) 61 zko x
def zz2:Cfg E:=cf1 [(25,[zgA]),(49,[zct])]
def ziA:zL E:=sp zz2 Tryz.f52 ⟨[.val (.named 3)],[]⟩ ⟨[vU],[]⟩ [.one (.named 3)] [oU]
def zil (a1:zd):Option (zA×Unit):=ziA.F (a1,())
def zzH:Cfg E:=cf1 [(47,[zcT]),(49,[zct]),(50,[zaD]),(51,[UY]),(52,[ziA])]
def zd7:zL E:=sp zzH Tryz.f11 ⟨[.val (.named 12)],[]⟩ ⟨[vB],[]⟩ [.one (.named 12)] [oB]
def UD (a1:za):Option (Bool×Unit):=zd7.F (a1,())
def zCZ:Cfg E:=cf1 [(65,[UG])]
def znP:zL E:=sp zCZ Tryz.f55 ⟨[.val (.named 12)],[]⟩ ⟨[vU],[]⟩ [.one (.named 12)] [oU]
def znV (a1:za):Option (zA×Unit):=znP.F (a1,())
def zzV:Cfg E:=cf1 [(55,[znP]),(65,[UG])]
def zel:zL E:=sp zzV Tryz.f19 ⟨[.val (.named 12)],[]⟩ ⟨[vU],[]⟩ [.one (.named 12)] [oU]
def zbS (a1:za):Option (zA×Unit):=zel.F (a1,())
def zyH:Cfg E:=cf1 [(51,[UY]),(65,[UG])]
def zl0:zL E:=sp zyH Tryz.f53 ⟨[.val (.named 9),vI],[]⟩ ⟨[vB],[]⟩ [.one (.named 9),oI] [oB]
def zsi (a1:zx) (a2:Int):Option (Bool×Unit):=zl0.F (a1,a2,())
def zwK:Cfg E:=cf1 [(19,[zel]),(51,[UY]),(52,[ziA]),(53,[zl0])]
def zbH:zL E:=sp zwK Tryz.f12 ⟨[.val (.named 12)],[]⟩ ⟨[vB],[]⟩ [.one (.named 12)] [oB]
def Wb (a1:za):Option (Bool×Unit):=zbH.F (a1,())
def zkq:z3 E:=lo [1,3,36,37,38] ⟨[.ptr 0,vI,vL,vI,vI],[.box true (L 10)]⟩ 0 [1,3] ⟨[.ptr 0,vI],[.box true (L 10)]⟩ [2] ⟨[vB],[]⟩ [oI,oL,oI,oI,.str 10] [oI,.str 10] [oB]
def zeJ:Cfg E:=cf [] [(5,zkq)] [] [] [] []
def zhx:zL E:=sp zeJ Tryz.f56 ⟨[.val (.named 10)],[]⟩ ⟨[vB],[]⟩ [.one (.named 10)] [oB]
def zhj (a1:zy):Option (Bool×Unit):=zhx.F (a1,())
def Wr (x:Int×zw×Int×Int×zy×Unit):Option (yL (Int×zw×Int×Int×zy×Unit) (Int×zy×Unit) (Bool×Unit)):=yp zeJ (exec zeJ (yC Tryz.f56 5)) 56 zkq x
def zxK:Cfg E:=cf1 []
def zlR:zL E:=sp zxK Tryz.f54 ⟨[vI,.ptr 0],[.box false (L 12)]⟩ ⟨[vB],[.gone]⟩ [oI,.str 12] [oB]
def zrJ (a1:Int) (a2:za):Option (Bool×Unit):=zlR.F (a1,a2,())
def Zb:z3 E:=lo [0,1,7,8] ⟨[vL,.fn 54 [.ptr 1],vI,vI],[.gone,.box false (L 12)]⟩ 0 [] ⟨[],[.gone]⟩ [4] ⟨[vI],[.gone]⟩ [oL,oI,oI,.str 12] [] [oI]
def wZ:Cfg E:=cf [(54,[zlR])] [(2,Zb)] [] [] [] []
def vn:zL E:=sp wZ Tryz.f94 ⟨[vL,.fn 54 [.ptr 0]],[.box false (L 12)]⟩ ⟨[vI],[.gone]⟩ [oL,.str 12] [oI]
def ZP (a1:zw) (a2:za):Option (Int×Unit):=vn.F (a1,a2,())
def yV (x:zw×Int×Int×za×Unit):Option (yL (zw×Int×Int×za×Unit) (Unit) (Int×Unit)):=yp wZ (exec wZ (yC Tryz.f94 2)) 19 Zb x
def WY:Cfg E:=cf1 [(94,[vn])]
def wR:zL E:=sp WY Tryz.f57 ⟨[vL,.fn 54 [.ptr 0]],[.box false (L 12)]⟩ ⟨[vB],[.gone]⟩ [oL,.str 12] [oB]
def wQ (a1:zw) (a2:za):Option (Bool×Unit):=wR.F (a1,a2,())
def zCr:Cfg E:=cf1 [(19,[zel]),(26,[zdW]),(55,[znP]),(56,[zhx]),(57,[wR])]
def zgD:zL E:=sp zCr Tryz.f13 ⟨[.val (.named 12)],[]⟩ ⟨[vB],[]⟩ [.one (.named 12)] [oB]
def zbp (a1:za):Option (Bool×Unit):=zgD.F (a1,())
def zuP:Cfg E:=cf1 []
def zh4:zL E:=sp zuP Tryz.f95 ⟨[.val (.named 7)],[]⟩ ⟨[vB],[]⟩ [.one (.named 7)] [oB]
def zhD (a1:zi):Option (Bool×Unit):=zh4.F (a1,())
def wU:z3 E:=lo [0,1,7,8] ⟨[.val (.slice (.named 7)),.fn 95 [],vI,vI],[]⟩ 0 [] ⟨[],[]⟩ [4] ⟨[vI],[]⟩ [.one (.slice (.named 7)),oI,oI] [] [oI]
def xJ:Cfg E:=cf [(95,[zh4])] [(2,wU)] [] [] [] []
def xN:zL E:=sp xJ Tryz.f154 ⟨[.val (.slice (.named 7)),.fn 95 []],[]⟩ ⟨[vI],[]⟩ [.one (.slice (.named 7))] [oI]
def vh (a1:List zi):Option (Int×Unit):=xN.F (a1,())
def xF (x:(List zi)×Int×Int×Unit):Option (yL ((List zi)×Int×Int×Unit) (Unit) (Int×Unit)):=yp xJ (exec xJ (yC Tryz.f154 2)) 19 wU x
def ZW:Cfg E:=cf1 [(154,[xN])]
def xE:zL E:=sp ZW Tryz.f97 ⟨[.val (.slice (.named 7)),.fn 95 []],[]⟩ ⟨[vB],[]⟩ [.one (.slice (.named 7))] [oB]
def xD (a1:List zi):Option (Bool×Unit):=xE.F (a1,())
def zvn:Cfg E:=cf1 []
def zh1:zL E:=sp zvn Tryz.f96 ⟨[.val (.named 8)],[]⟩ ⟨[vB],[]⟩ [.one (.named 8)] [oB]
def zhc (a1:ze):Option (Bool×Unit):=zh1.F (a1,())
def wD:z3 E:=lo [0,1,7,8] ⟨[.val (.slice (.named 8)),.fn 96 [],vI,vI],[]⟩ 0 [] ⟨[],[]⟩ [4] ⟨[vI],[]⟩ [.one (.slice (.named 8)),oI,oI] [] [oI]
def xB:Cfg E:=cf [(96,[zh1])] [(2,wD)] [] [] [] []
def xK:zL E:=sp xB Tryz.f155 ⟨[.val (.slice (.named 8)),.fn 96 []],[]⟩ ⟨[vI],[]⟩ [.one (.slice (.named 8))] [oI]
def wX (a1:List ze):Option (Int×Unit):=xK.F (a1,())
def xu (x:(List ze)×Int×Int×Unit):Option (yL ((List ze)×Int×Int×Unit) (Unit) (Int×Unit)):=yp xB (exec xB (yC Tryz.f155 2)) 19 wD x
def ZD:Cfg E:=cf1 [(155,[xK])]
def xx:zL E:=sp ZD Tryz.f98 ⟨[.val (.slice (.named 8)),.fn 96 []],[]⟩ ⟨[vB],[]⟩ [.one (.slice (.named 8))] [oB]
def xy (a1:List ze):Option (Bool×Unit):=xx.F (a1,())
def zyy:Cfg E:=cf1 [(46,[zdV]),(97,[xE]),(98,[xx])]
def zmu:zL E:=sp zyy Tryz.f58 ⟨[.val (.named 12)],[]⟩ ⟨[vB],[]⟩ [.one (.named 12)] [oB]
def zms (a1:za):Option (Bool×Unit):=zmu.F (a1,())
def zpi:z3 E:=lo [3,7,8,9] ⟨[vU,.val (.slice (.named 8)),vI,vI],[]⟩ 0 [3] ⟨[vU],[]⟩ [] ⟨[],[]⟩ [oU,.one (.slice (.named 8)),oI,oI] [oU] []
def zjH:Cfg E:=cf [(75,[zh2])] [(3,zpi)] [] [] [] []
def zoy:zL E:=sp zjH Tryz.f99 ⟨[.val (.named 12)],[]⟩ ⟨[vU],[]⟩ [.one (.named 12)] [oU]
def zof (a1:za):Option (zA×Unit):=zoy.F (a1,())
def zak (x:zA×(List ze)×Int×Int×Unit):Option (yL (zA×(List ze)×Int×Int×Unit) (zA×Unit) (Unit)):=yp zjH (exec zjH (yC Tryz.f99 3)) 20 zpi x
def zAa:Cfg E:=cf1 [(49,[zct]),(99,[zoy])]
def zoZ:zL E:=sp zAa Tryz.f59 ⟨[.val (.named 12)],[]⟩ ⟨[vU],[]⟩ [.one (.named 12)] [oU]
def zoj (a1:za):Option (zA×Unit):=zoZ.F (a1,())
def zzF:Cfg E:=cf1 [(50,[zaD]),(51,[UY]),(58,[zmu]),(59,[zoZ])]
def zes:zL E:=sp zzF Tryz.f14 ⟨[.val (.named 12)],[]⟩ ⟨[vB],[]⟩ [.one (.named 12)] [oB]
def W2 (a1:za):Option (Bool×Unit):=zes.F (a1,())
def zpm:z3 E:=lo [1,5,6] ⟨[.ptr 0,.fns [9,10,11,12,13,14],vI],[.box true (L 12)]⟩ 0 [1] ⟨[.ptr 0],[.box true (L 12)]⟩ [2] ⟨[vB],[]⟩ [oI,.str 12] [.str 12] [oB]
def zkh:Cfg E:=cf [(9,[zeo]),(10,[zbF]),(11,[zd7]),(12,[zbH]),(13,[zgD]),(14,[zes]),(60,[zcU])] [(2,zpm)] [] [] [] []
def zis:zL E:=sp zkh Tryz.f15 ⟨[.val (.named 12)],[]⟩ ⟨[vB],[]⟩ [.one (.named 12)] [oB]
def zbL (a1:za):Option (Bool×Unit):=zis.F (a1,())
def ux (x:Int×za×Unit):Option (yL (Int×za×Unit) (za×Unit) (Bool×Unit)):=yp zkh (exec zkh (yC Tryz.f15 2)) 17 zpm x
def ze2:z3 E:=lo [0,2,3,4] ⟨[.val (.slice (.slice (.named 0))),.ptr 0,.ptr 1,vI],[.box true (L 0++L 0++[vI,.own 2,vU,.own 3,.own 4,.own 5]),.box true (L 0++L 0++[vI,.own 6,vU,.own 7,.own 8,.own 9]),.row true z7,.row true z7,.row true (.slice (.named 0)),.row true (.named 1),.row true z7,.row true z7,.row true (.slice (.named 0)),.row true (.named 1)]⟩ 0 [2,3] ⟨[.ptr 0,.ptr 1],[.box true (L 0++L 0++[vI,.own 2,vU,.own 3,.own 4,.own 5]),.box true (L 0++L 0++[vI,.own 6,vU,.own 7,.own 8,.own 9]),.row true z7,.row true z7,.row true (.slice (.named 0)),.row true (.named 1),.row true z7,.row true z7,.row true (.slice (.named 0)),.row true (.named 1)]⟩ [] ⟨[],[]⟩ [.one (.slice (.slice (.named 0))),oI,oI,oI,oI,oI,oI,oI,oI,oI,oI,oU,oI,oI,oI,oI,oI,oI,oI,oI,oI,oU,.one zQ,.one zQ,.one (.slice (.slice (.named 0))),.one (.slice (.named 1)),.one zQ,.one zQ,.one (.slice (.slice (.named 0))),.one (.slice (.named 1))] [oI,oI,oI,oI,oI,oI,oI,oI,oI,oU,oI,oI,oI,oI,oI,oI,oI,oI,oI,oU,.one zQ,.one zQ,.one (.slice (.slice (.named 0))),.one (.slice (.named 1)),.one zQ,.one zQ,.one (.slice (.slice (.named 0))),.one (.slice (.named 1))] []
def zbw:Cfg E:=cf [] [(3,ze2)] [] [] [] []
def zcz:zL E:=sp zbw Tryz.f16 ⟨[.val (.slice (.slice (.named 0)))],[]⟩ ⟨[.val (.named 3)],[]⟩ [.one (.slice (.slice (.named 0)))] [.one (.named 3)]
def zcP (a1:List (List zE)):Option (zd×Unit):=zcz.F (a1,())
def ze7 (x:(List (List zE))×Int×Int×Int×Int×Int×Int×Int×Int×Int×Int×zA×Int×Int×Int×Int×Int×Int×Int×Int×Int×zA×zD×zD×(List (List zE))×(List zm)×zD×zD×(List (List zE))×(List zm)×Unit):Option (yL ((List (List zE))×Int×Int×Int×Int×Int×Int×Int×Int×Int×Int×zA×Int×Int×Int×Int×Int×Int×Int×Int×Int×zA×zD×zD×(List (List zE))×(List zm)×zD×zD×(List (List zE))×(List zm)×Unit) (Int×Int×Int×Int×Int×Int×Int×Int×Int×zA×Int×Int×Int×Int×Int×Int×Int×Int×Int×zA×zD×zD×(List (List zE))×(List zm)×zD×zD×(List (List zE))×(List zm)×Unit) (Unit)):=yp zbw (exec zbw (yC Tryz.f16 3)) 35 ze2 x
def zrs:Cfg E:=cf [] [] [] [(0,some 0)] [] []
def zdO:zL E:=sp zrs Tryz.f81 ⟨[.ptr 0],[.box true (L 12)]⟩ ⟨[],[.box true (L 12)]⟩ [.str 12] [.str 12]
def U8 (a1:za):Option (za×Unit):=zdO.F (a1,())
def zwd:Cfg E:=cf1 [(81,[zdO])]
def zj9:zL E:=sp zwd Tryz.f41 ⟨[.val (.named 12)],[]⟩ ⟨[.val (.named 12)],[]⟩ [.one (.named 12)] [.one (.named 12)]
def zjB (a1:za):Option (za×Unit):=zj9.F (a1,())
def ztU:Cfg E:=cf1 [(41,[zj9])]
def zfM:zL E:=sp ztU Tryz.f40 ⟨[.val (.named 12),vI],[]⟩ ⟨[.val (.named 12)],[]⟩ [.one (.named 12),oI] [.one (.named 12)]
def znE (a1:za) (a2:Int):Option (za×Unit):=zfM.F (a1,a2,())
def zCI:Cfg E:=cf1 [(67,[zfl])]
def znS:zL E:=sp zCI Tryz.f157 ⟨[.val (.named 9),vI],[]⟩ ⟨[vI],[]⟩ [.one (.named 9),oI] [oI]
def zn0 (a1:zx) (a2:Int):Option (Int×Unit):=znS.F (a1,a2,())
def zAg:Cfg E:=cf1 [(22,[zaX]),(157,[znS])]
def zbP:zL E:=sp zAg Tryz.f104 ⟨[.val (.named 9),vI],[]⟩ ⟨[.val (.named 9),vB],[]⟩ [.one (.named 9),oI] [.one (.named 9),oB]
def Uy (a1:zx) (a2:Int):Option (zx×Bool×Unit):=zbP.F (a1,a2,())
def zmr:Cfg E:=cf [(217,[Vc]),(218,[zc3])] [] [] [(0,some 0)] [] []
def UH:zL E:=sp zmr Tryz.f205 ⟨[.ptr 0,vM],[.box true (L 5)]⟩ ⟨[vM],[.box true (L 5)]⟩ [oM,.str 5] [oM,.str 5]
def uy (a1:List zA) (a2:zU):Option ((List zA)×zU×Unit):=UH.F (a1,a2,())
def zoG:Cfg E:=cf1 [(79,[zeC]),(217,[Vc])]
def zbd:zL E:=sp zoG Tryz.f206 ⟨[.ptr 0,vM],[.box false (L 5)]⟩ ⟨[vM],[.gone]⟩ [oM,.str 5] [oM]
def WO (a1:List zA) (a2:zU):Option ((List zA)×Unit):=zbd.F (a1,a2,())
def zk9:Cfg E:=cf [(80,[zfA]),(117,[zbo]),(217,[Vc])] [] [] [(0,some 0)] [] []
def V1:zL E:=sp zk9 Tryz.f207 ⟨[.ptr 0,vM],[.box true (L 5)]⟩ ⟨[vM],[.box true (L 5)]⟩ [oM,.str 5] [oM,.str 5]
def uc (a1:List zA) (a2:zU):Option ((List zA)×zU×Unit):=V1.F (a1,a2,())
def zjw:Cfg E:=cf [(217,[Vc]),(218,[zc3])] [] [] [(0,some 0)] [] []
def WB:zL E:=sp zjw Tryz.f208 ⟨[.ptr 0,vM],[.box true (L 5)]⟩ ⟨[vM],[.box true (L 5)]⟩ [oM,.str 5] [oM,.str 5]
def Yt (a1:List zA) (a2:zU):Option ((List zA)×zU×Unit):=WB.F (a1,a2,())
def zxS:Cfg E:=cf1 [(205,[UH]),(206,[zbd]),(207,[V1]),(208,[WB])]
def Vr:zL E:=sp zxS Tryz.f166 ⟨[vM,.val (.named 5)],[]⟩ ⟨[vM,.val (.named 5)],[]⟩ [oM,.one (.named 5)] [oM,.one (.named 5)]
def Va (a1:List zA) (a2:zU):Option ((List zA)×zU×Unit):=Vr.F (a1,a2,())
def zoF:Cfg E:=cf [(166,[Vr])] [] [] [(0,some 0)] [] []
def zbg:zL E:=sp zoF Tryz.f118 ⟨[.ptr 0],[.box true (L 14)]⟩ ⟨[vI],[.box true (L 14)]⟩ [.str 14] [oI,.str 14]
def Zp (a1:z5):Option (Int×z5×Unit):=zbg.F (a1,())
def zo6:Cfg E:=cf [] [] [] [(0,some 0)] [] []
def WQ:zL E:=sp zo6 Tryz.f125 ⟨[.ptr 0,vI],[.box true (L 14)]⟩ ⟨[],[.box true (L 14)]⟩ [oI,.str 14] [.str 14]
def WT (a1:Int) (a2:z5):Option (z5×Unit):=WQ.F (a1,a2,())
def zcl:Cfg E:=cf1 []
def zg3:zL E:=sp zcl Tryz.f209 ⟨[vI],[]⟩ ⟨[.bsl 0 4],[.box true [.fn 229 [],.fn 230 [],.fn 231 [],.fn 232 []]]⟩ [oI] []
def zpn (a1:Int):Option (Unit):=zg3.F (a1,())
def zhH:zL E:=sp zcl Tryz.f209 ⟨[vI],[]⟩ ⟨[.bsl 0 7],[.box true [.fn 229 [],.fn 233 [],.fn 234 [],.fn 235 [],.fn 236 [],.fn 237 [],.fn 238 []]]⟩ [oI] []
def zpd (a1:Int):Option (Unit):=zhH.F (a1,())
def zhO:zL E:=sp zcl Tryz.f209 ⟨[vI],[]⟩ ⟨[.bsl 0 4],[.box true [.fn 239 [],.fn 240 [],.fn 241 [],.fn 242 []]]⟩ [oI] []
def zo9 (a1:Int):Option (Unit):=zhO.F (a1,())
def zg8:zL E:=sp zcl Tryz.f209 ⟨[vI],[]⟩ ⟨[.own 0],[.row true .bool]⟩ [oI] [.one (.slice .bool)]
def zpM (a1:Int):Option ((List Bool)×Unit):=zg8.F (a1,())
def zgE:Cfg E:=cf [(221,[ZZ]),(223,[wg])] [] [] [(0,some 0)] [] []
def Y4:zL E:=sp zgE Tryz.f229 ⟨[.ptr 0,vM],[.box true (L 4)]⟩ ⟨[vM],[.box true (L 4)]⟩ [oM,.str 4] [oM,.str 4]
def vQ (a1:List zA) (a2:zg):Option ((List zA)×zg×Unit):=Y4.F (a1,a2,())
def zlT:Cfg E:=cf [] [] [] [(0,some 0)] [] []
def wG:zL E:=sp zlT Tryz.f254 ⟨[.ptr 0,vI],[.box true (L 4)]⟩ ⟨[],[.box true (L 4)]⟩ [oI,.str 4] [.str 4]
def wH (a1:Int) (a2:zg):Option (zg×Unit):=wG.F (a1,a2,())
def zkO:Cfg E:=cf [(221,[ZZ]),(222,[uJ]),(225,[YE]),(254,[wG])] [] [] [(0,some 0)] [] []
def V4:zL E:=sp zkO Tryz.f230 ⟨[.ptr 0,vM],[.box true (L 4)]⟩ ⟨[vM],[.box true (L 4)]⟩ [oM,.str 4] [oM,.str 4]
def VV (a1:List zA) (a2:zg):Option ((List zA)×zg×Unit):=V4.F (a1,a2,())
def zxf:Cfg E:=cf1 [(117,[zbo])]
def XZ:zL E:=sp zxf Tryz.f255 ⟨[vM,vI,vU],[]⟩ ⟨[vM],[]⟩ [oM,oI,oU] [oM]
def We (a1:List zA) (a2:Int) (a3:zA):Option ((List zA)×Unit):=XZ.F (a1,a2,a3,())
def zpq:Cfg E:=cf1 [(226,[uO]),(255,[XZ])]
def zbW:zL E:=sp zpq Tryz.f231 ⟨[.ptr 0,vM],[.box false (L 4)]⟩ ⟨[vM],[.gone]⟩ [oM,.str 4] [oM]
def zb1 (a1:List zA) (a2:zg):Option ((List zA)×Unit):=zbW.F (a1,a2,())
def zhf:Cfg E:=cf [(223,[wg]),(254,[wG]),(255,[XZ])] [] [] [(0,some 0)] [] []
def Wi:zL E:=sp zhf Tryz.f232 ⟨[.ptr 0,vM],[.box true (L 4)]⟩ ⟨[vM],[.box true (L 4)]⟩ [oM,.str 4] [oM,.str 4]
def Wa (a1:List zA) (a2:zg):Option ((List zA)×zg×Unit):=Wi.F (a1,a2,())
def znc:Cfg E:=cf1 [(223,[wg]),(255,[XZ])]
def zaS:zL E:=sp znc Tryz.f233 ⟨[.ptr 0,vM],[.box false (L 4)]⟩ ⟨[vM],[.gone]⟩ [oM,.str 4] [oM]
def zfc (a1:List zA) (a2:zg):Option ((List zA)×Unit):=zaS.F (a1,a2,())
def ziX:Cfg E:=cf [(221,[ZZ]),(222,[uJ]),(224,[zbG])] [] [] [(0,some 0)] [] []
def WR:zL E:=sp ziX Tryz.f234 ⟨[.ptr 0,vM],[.box true (L 4)]⟩ ⟨[vM],[.box true (L 4)]⟩ [oM,.str 4] [oM,.str 4]
def zcg (a1:List zA) (a2:zg):Option ((List zA)×zg×Unit):=WR.F (a1,a2,())
def zmn:Cfg E:=cf [(221,[ZZ]),(226,[uO]),(254,[wG])] [] [] [(0,some 0)] [] []
def UU:zL E:=sp zmn Tryz.f235 ⟨[.ptr 0,vM],[.box true (L 4)]⟩ ⟨[vM],[.box true (L 4)]⟩ [oM,.str 4] [oM,.str 4]
def zee (a1:List zA) (a2:zg):Option ((List zA)×zg×Unit):=UU.F (a1,a2,())
def zo2:Cfg E:=cf1 [(117,[zbo]),(222,[uJ])]
def WK:zL E:=sp zo2 Tryz.f256 ⟨[.ptr 0,vM],[.box false (L 4)]⟩ ⟨[vM,vB],[.gone]⟩ [oM,.str 4] [oM,oB]
def WS (a1:List zA) (a2:zg):Option ((List zA)×Bool×Unit):=WK.F (a1,a2,())
def zk4:Cfg E:=cf [(256,[WK])] [] [] [(0,some 0)] [] []
def V0:zL E:=sp zk4 Tryz.f236 ⟨[.ptr 0,vM],[.box true (L 4)]⟩ ⟨[vM],[.box true (L 4)]⟩ [oM,.str 4] [oM,.str 4]
def zdw (a1:List zA) (a2:zg):Option ((List zA)×zg×Unit):=V0.F (a1,a2,())
def zkD:Cfg E:=cf [(223,[wg]),(254,[wG]),(255,[XZ])] [] [] [(0,some 0)] [] []
def VW:zL E:=sp zkD Tryz.f237 ⟨[.ptr 0,vM],[.box true (L 4)]⟩ ⟨[vM],[.box true (L 4)]⟩ [oM,.str 4] [oM,.str 4]
def zdA (a1:List zA) (a2:zg):Option ((List zA)×zg×Unit):=VW.F (a1,a2,())
def zlE:Cfg E:=cf [(223,[wg]),(254,[wG]),(255,[XZ])] [] [] [(0,some 0)] [] []
def UM:zL E:=sp zlE Tryz.f238 ⟨[.ptr 0,vM],[.box true (L 4)]⟩ ⟨[vM],[.box true (L 4)]⟩ [oM,.str 4] [oM,.str 4]
def zej (a1:List zA) (a2:zg):Option ((List zA)×zg×Unit):=UM.F (a1,a2,())
def zmH:Cfg E:=cf [(221,[ZZ]),(222,[uJ])] [] [] [(0,some 0)] [] []
def Ux:zL E:=sp zmH Tryz.f239 ⟨[.ptr 0,vM],[.box true (L 4)]⟩ ⟨[vM],[.box true (L 4)]⟩ [oM,.str 4] [oM,.str 4]
def zdY (a1:List zA) (a2:zg):Option ((List zA)×zg×Unit):=Ux.F (a1,a2,())
def zlO:Cfg E:=cf [(221,[ZZ]),(223,[wg]),(224,[zbG])] [] [] [(0,some 0)] [] []
def UC:zL E:=sp zlO Tryz.f240 ⟨[.ptr 0,vM],[.box true (L 4)]⟩ ⟨[vM],[.box true (L 4)]⟩ [oM,.str 4] [oM,.str 4]
def zem (a1:List zA) (a2:zg):Option ((List zA)×zg×Unit):=UC.F (a1,a2,())
def zkQ:Cfg E:=cf [(221,[ZZ]),(226,[uO])] [] [] [(0,some 0)] [] []
def VZ:zL E:=sp zkQ Tryz.f241 ⟨[.ptr 0,vM],[.box true (L 4)]⟩ ⟨[vM],[.box true (L 4)]⟩ [oM,.str 4] [oM,.str 4]
def zdx (a1:List zA) (a2:zg):Option ((List zA)×zg×Unit):=VZ.F (a1,a2,())
def ziE:Cfg E:=cf [(254,[wG]),(256,[WK])] [] [] [(0,some 0)] [] []
def WI:zL E:=sp ziE Tryz.f242 ⟨[.ptr 0,vM],[.box true (L 4)]⟩ ⟨[vM],[.box true (L 4)]⟩ [oM,.str 4] [oM,.str 4]
def zcb (a1:List zA) (a2:zg):Option ((List zA)×zg×Unit):=WI.F (a1,a2,())
def zyM:Cfg E:=cf [(209,[zg3,zhH,zhO,zg8]),(229,[Y4]),(230,[V4]),(231,[zbW]),(232,[Wi]),(233,[zaS]),(234,[WR]),(235,[UU]),(236,[V0]),(237,[VW]),(238,[UM]),(239,[Ux]),(240,[UC]),(241,[VZ]),(242,[WI])] [] [] [] [(1,2,[0,1,2,3])] []
def zf3:zL E:=sp zyM Tryz.f167 ⟨[vM,.val (.named 4)],[]⟩ ⟨[vM,.val (.named 4)],[]⟩ [oM,.one (.named 4)] [oM,.one (.named 4)]
def zc1 (a1:List zA) (a2:zg):Option ((List zA)×zg×Unit):=zf3.F (a1,a2,())
def ztL:Cfg E:=cf1 [(31,[zbD]),(32,[X1])]
def zch:zL E:=sp ztL Tryz.f169 ⟨[.ptr 0,vI,vI],[.box false (L 14)]⟩ ⟨[.val (.named 4)],[.gone]⟩ [oI,oI,.str 14] [.one (.named 4)]
def zgJ (a1:Int) (a2:Int) (a3:z5):Option (zg×Unit):=zch.F (a1,a2,a3,())
def zwa:Cfg E:=cf1 []
def Ua:zL E:=sp zwa Tryz.f210 ⟨L 0,[]⟩ ⟨[.val (.named 5)],[]⟩ [oI,oI,oI,oI] [.one (.named 5)]
def zbI (a1:Int) (a2:Int) (a3:Int) (a4:Int):Option (zU×Unit):=Ua.F (a1,a2,a3,a4,())
def zrj:Cfg E:=cf1 [(38,[Xz]),(210,[Ua])]
def U7:zL E:=sp zrj Tryz.f171 ⟨[.ptr 0,vI,vI,vI],[.box false (L 14)]⟩ ⟨[.val (.named 5)],[.gone]⟩ [oI,oI,oI,.str 14] [.one (.named 5)]
def zdG (a1:Int) (a2:Int) (a3:Int) (a4:z5):Option (zU×Unit):=U7.F (a1,a2,a3,a4,())
def zoI:Cfg E:=cf [(37,[Xv]),(169,[zch]),(171,[U7])] [] [] [(0,some 0)] [] []
def zbn:zL E:=sp zoI Tryz.f168 ⟨[.ptr 0],[.box true (L 14)]⟩ ⟨[],[.box true (L 14)]⟩ [.str 14] [.str 14]
def WN (a1:z5):Option (z5×Unit):=zbn.F (a1,())
def zpc:Cfg E:=cf [(125,[WQ]),(167,[zf3]),(168,[zbn])] [] [] [(0,some 0)] [] []
def zb7:zL E:=sp zpc Tryz.f119 ⟨[.ptr 0],[.box true (L 14)]⟩ ⟨[],[.box true (L 14)]⟩ [.str 14] [.str 14]
def VF (a1:z5):Option (z5×Unit):=zb7.F (a1,())
def zm2:Cfg E:=cf [(169,[zch])] [] [] [(0,some 0)] [] []
def zav:zL E:=sp zm2 Tryz.f120 ⟨[.ptr 0],[.box true (L 14)]⟩ ⟨[],[.box true (L 14)]⟩ [.str 14] [.str 14]
def uS (a1:z5):Option (z5×Unit):=zav.F (a1,())
def zjr:Cfg E:=cf1 []
def vu:zL E:=sp zjr Tryz.f170 ⟨[.val zQ],[]⟩ ⟨[.own 0],[.row true z7]⟩ [.one zQ] [.one zQ]
def vv (a1:zD):Option (zD×Unit):=vu.F (a1,())
def zoU:Cfg E:=cf [(39,[X2]),(170,[vu]),(171,[U7])] [] [] [(0,some 0)] [] []
def zbc:zL E:=sp zoU Tryz.f121 ⟨[.ptr 0],[.box true (L 14)]⟩ ⟨[],[.box true (L 14)]⟩ [.str 14] [.str 14]
def zbl (a1:z5):Option (z5×Unit):=zbc.F (a1,())
def zt0:Cfg E:=cf1 []
def zcq:zL E:=sp zt0 Tryz.f124 ⟨[.ptr 0],[.box false (L 14)]⟩ ⟨[vI],[.gone]⟩ [.str 14] [oI]
def Ub (a1:z5):Option (Int×Unit):=zcq.F (a1,())
def zrp:Cfg E:=cf1 []
def zab:zL E:=sp zrp Tryz.f211 ⟨[.val (.named 2),vI,vI],[]⟩ ⟨[vB],[]⟩ [.one (.named 2),oI,oI] [oB]
def U9 (a1:zt) (a2:Int) (a3:Int):Option (Bool×Unit):=zab.F (a1,a2,a3,())
def zCg:Cfg E:=cf1 [(211,[zab])]
def zfH:zL E:=sp zCg Tryz.f172 ⟨[.val (.named 2),vI,vI],[]⟩ ⟨[vI,vB],[]⟩ [.one (.named 2),oI,oI] [oI,oB]
def zf8 (a1:zt) (a2:Int) (a3:Int):Option (Int×Bool×Unit):=zfH.F (a1,a2,a3,())
def zyl:Cfg E:=cf1 []
def zcE:zL E:=sp zyl Tryz.f173 ⟨[vI,vI,vI],[]⟩ ⟨[.val (.named 6)],[]⟩ [oI,oI,oI] [.one (.named 6)]
def zcu (a1:Int) (a2:Int) (a3:Int):Option (zI×Unit):=zcE.F (a1,a2,a3,())
def zoJ:Cfg E:=cf [(124,[zcq]),(172,[zfH]),(173,[zcE])] [] [] [(0,some 0)] [] []
def zbe:zL E:=sp zoJ Tryz.f122 ⟨[.ptr 0],[.box true (L 14)]⟩ ⟨[],[.box true (L 14)]⟩ [.str 14] [.str 14]
def za4 (a1:z5):Option (z5×Unit):=zbe.F (a1,())
def zi0:Cfg E:=cf [] [] [] [(0,some 0)] [] []
def WF:zL E:=sp zi0 Tryz.f174 ⟨[.ptr 0],[.box true (L 15)]⟩ ⟨[],[.box true (L 15)]⟩ [.str 15] [.str 15]
def zcc (a1:zW):Option (zW×Unit):=WF.F (a1,())
def zxH:Cfg E:=cf1 [(22,[zaX]),(67,[zfl])]
def zcM:zL E:=sp zxH Tryz.f103 ⟨[.val (.named 9),vI],[]⟩ ⟨[.val (.named 9),vB],[]⟩ [.one (.named 9),oI] [.one (.named 9),oB]
def zcJ (a1:zx) (a2:Int):Option (zx×Bool×Unit):=zcM.F (a1,a2,())
def zne:Cfg E:=cf [(38,[Xz]),(39,[X2]),(210,[Ua])] [] [] [(0,some 0)] [] []
def uV:zL E:=sp zne Tryz.f212 ⟨[.ptr 0],[.box true (L 15)]⟩ ⟨[],[.box true (L 15)]⟩ [.str 15] [.str 15]
def uU (a1:zW):Option (zW×Unit):=uV.F (a1,())
def zl3:Cfg E:=cf [(31,[zbD]),(32,[X1]),(103,[zcM]),(212,[uV])] [] [] [(0,some 0)] [] []
def UZ:zL E:=sp zl3 Tryz.f175 ⟨[.ptr 0],[.box true (L 15)]⟩ ⟨[],[.box true (L 15)]⟩ [.str 15] [.str 15]
def zd3 (a1:zW):Option (zW×Unit):=UZ.F (a1,())
def zmd:Cfg E:=cf [] [] [] [(0,some 0)] [] []
def U0:zL E:=sp zmd Tryz.f176 ⟨[.ptr 0],[.box true (L 15)]⟩ ⟨[],[.box true (L 15)]⟩ [.str 15] [.str 15]
def zd6 (a1:zW):Option (zW×Unit):=U0.F (a1,())
def zmM:Cfg E:=cf [(167,[zf3]),(212,[uV])] [] [] [(0,some 0)] [] []
def UV:zL E:=sp zmM Tryz.f177 ⟨[.ptr 0],[.box true (L 15)]⟩ ⟨[],[.box true (L 15)]⟩ [.str 15] [.str 15]
def zdX (a1:zW):Option (zW×Unit):=UV.F (a1,())
def zmQ:Cfg E:=cf [(212,[uV])] [] [] [(0,some 0)] [] []
def Uw:zL E:=sp zmQ Tryz.f178 ⟨[.ptr 0],[.box true (L 15)]⟩ ⟨[],[.box true (L 15)]⟩ [.str 15] [.str 15]
def zd1 (a1:zW):Option (zW×Unit):=Uw.F (a1,())
def zlC:Cfg E:=cf [(166,[Vr]),(212,[uV])] [] [] [(0,some 0)] [] []
def UA:zL E:=sp zlC Tryz.f179 ⟨[.ptr 0],[.box true (L 15)]⟩ ⟨[],[.box true (L 15)]⟩ [.str 15] [.str 15]
def zea (a1:zW):Option (zW×Unit):=UA.F (a1,())
def zlJ:Cfg E:=cf [(37,[Xv]),(38,[Xz]),(170,[vu]),(210,[Ua])] [] [] [(0,some 0)] [] []
def UK:zL E:=sp zlJ Tryz.f180 ⟨[.ptr 0],[.box true (L 15)]⟩ ⟨[],[.box true (L 6++L 3++[vI,.val zQ,vM,.own 1,vU,vU,vI,vI,vB,vB,vI,vL]++L 10++[.val (.slice (.named 7)),.val (.slice (.named 8)),vI,vI]),.row true z7]⟩ [.str 15] [.str 6,.str 3,.str 2,oM,.str 9,oI,oI,oB,oB,oI,oL,.str 10,.one (.slice (.named 7)),.one (.slice (.named 8)),.str 11,.one zQ]
def zef (a1:zW):Option (zI×zd×zt×(List zA)×zx×Int×Int×Bool×Bool×Int×zw×zy×(List zi)×(List ze)×zO×zD×Unit):=UK.F (a1,())
def ziJ:Cfg E:=cf [(166,[Vr])] [] [] [(0,some 0)] [] []
def Wz:zL E:=sp ziJ Tryz.f181 ⟨[.ptr 0],[.box true (L 15)]⟩ ⟨[],[.box true (L 15)]⟩ [.str 15] [.str 15]
def zcf (a1:zW):Option (zW×Unit):=Wz.F (a1,())
def zz8:Cfg E:=cf1 [(174,[WF]),(175,[UZ]),(176,[U0]),(177,[UV]),(178,[Uw]),(179,[UA]),(180,[UK]),(181,[Wz])]
def ziq:zL E:=sp zz8 Tryz.f123 ⟨[.val (.named 12),.val (.named 6)],[]⟩ ⟨[.val (.named 12),.val (.named 6)],[]⟩ [.one (.named 12),.one (.named 6)] [.one (.named 12),.one (.named 6)]
def zen (a1:za) (a2:zI):Option (za×zI×Unit):=ziq.F (a1,a2,())
def zm4:Cfg E:=cf1 []
def Yb:zL E:=sp zm4 Tryz.f182 ⟨[.val (.named 10),vI],[]⟩ ⟨[vB],[]⟩ [.one (.named 10),oI] [oB]
def Yk (a1:zy) (a2:Int):Option (Bool×Unit):=Yb.F (a1,a2,())
def ztN:Cfg E:=cf1 []
def zgh:zL E:=sp ztN Tryz.f184 ⟨[vI],[]⟩ ⟨[vI],[]⟩ [oI] [oI]
def zgI (a1:Int):Option (Int×Unit):=zgh.F (a1,())
def zaV:Cfg E:=cf1 [(184,[zgh])]
def ur:zL E:=sp zaV Tryz.f183 ⟨[.val (.named 10),vI,.fn 184 []],[]⟩ ⟨[.val (.named 10)],[]⟩ [.one (.named 10),oI] [.one (.named 10)]
def YU (a1:zy) (a2:Int):Option (zy×Unit):=ur.F (a1,a2,())
def zvS:Cfg E:=cf1 [(182,[Yb]),(183,[ur])]
def zey:zL E:=sp zvS Tryz.f126 ⟨[.val (.named 10),vI],[]⟩ ⟨[.val (.named 10)],[]⟩ [.one (.named 10),oI] [.one (.named 10)]
def zbE (a1:zy) (a2:Int):Option (zy×Unit):=zey.F (a1,a2,())
def zoi:Cfg E:=cf [(104,[zbP]),(118,[zbg]),(119,[zb7]),(120,[zav]),(121,[zbc]),(122,[zbe]),(123,[ziq]),(124,[zcq]),(125,[WQ]),(126,[zey])] [] [] [(0,some 0)] [] []
def zbq:zL E:=sp zoi Tryz.f82 ⟨[.ptr 0],[.box true (L 14)]⟩ ⟨[],[.box true (L 14)]⟩ [.str 14] [.str 14]
def zbr (a1:z5):Option (z5×Unit):=zbq.F (a1,())
def U6:Cfg E:=cf1 []
def vV:zL E:=sp U6 Tryz.f83 ⟨[.val (.slice (.named 7))],[]⟩ ⟨[.own 0],[.row true (.named 7)]⟩ [.one (.slice (.named 7))] [.one (.slice (.named 7))]
def vW (a1:List zi):Option ((List zi)×Unit):=vV.F (a1,())
def zwr:Cfg E:=cf1 [(82,[zbq]),(83,[vV])]
def zj0:zL E:=sp zwr Tryz.f42 ⟨[.val (.named 12),vI],[]⟩ ⟨[.val (.named 12)],[]⟩ [.one (.named 12),oI] [.one (.named 12)]
def zjK (a1:za) (a2:Int):Option (za×Unit):=zj0.F (a1,a2,())
def zsl:Cfg E:=cf1 []
def Ze:zL E:=sp zsl Tryz.f185 ⟨[.ptr 0],[.box false (L 16)]⟩ ⟨[.val (.named 0)],[.gone]⟩ [.str 16] [.one (.named 0)]
def ug (a1:zK):Option (zE×Unit):=Ze.F (a1,())
def znp:Cfg E:=cf [] [] [] [(0,some 0)] [] []
def uP:zL E:=sp znp Tryz.f189 ⟨[.ptr 0],[.box true (L 16)]⟩ ⟨[],[.box true (L 16)]⟩ [.str 16] [.str 16]
def Yf (a1:zK):Option (zK×Unit):=uP.F (a1,())
def zoL:Cfg E:=cf [(29,[xI]),(189,[uP])] [] [] [(0,some 0)] [] []
def YN:zL E:=sp zoL Tryz.f186 ⟨[.ptr 0,vI,vI],[.box true (L 16)]⟩ ⟨[],[.box true (L 16)]⟩ [oI,oI,.str 16] [.str 16]
def Zl (a1:Int) (a2:Int) (a3:zK):Option (zK×Unit):=YN.F (a1,a2,a3,())
def zmI:Cfg E:=cf [(185,[Ze]),(186,[YN])] [] [] [(0,some 0)] [] []
def UF:zL E:=sp zmI Tryz.f127 ⟨[.ptr 0],[.box true (L 16)]⟩ ⟨[],[.box true (L 16)]⟩ [.str 16] [.str 16]
def UN (a1:zK):Option (zK×Unit):=UF.F (a1,())
def zmj:Cfg E:=cf [(173,[zcE])] [] [] [(0,some 0)] [] []
def UT:zL E:=sp zmj Tryz.f128 ⟨[.ptr 0],[.box true (L 16)]⟩ ⟨[],[.box true (L 16)]⟩ [.str 16] [.str 16]
def zeh (a1:zK):Option (zK×Unit):=UT.F (a1,())
def zoA:Cfg E:=cf [(29,[xI])] [] [] [(0,some 0)] [] []
def za2:zL E:=sp zoA Tryz.f129 ⟨[.ptr 0],[.box true (L 16)]⟩ ⟨[],[.box true (L 8++L 3++[vI,.val zQ,vM,.val zQ,vU,vU,vI,vI,vB,vB,vI,.own 1]++L 10++[.val (.slice (.named 7)),.val (.slice (.named 8)),vI,vI,vI]),.row true zo]⟩ [.str 16] [.str 8,.str 3,.str 2,oM,.one zQ,.str 9,oI,oI,oB,oB,oI,.str 10,.one (.slice (.named 7)),.one (.slice (.named 8)),.str 11,oI,oL]
def zgz (a1:zK):Option (ze×zd×zt×(List zA)×zD×zx×Int×Int×Bool×Bool×Int×zy×(List zi)×(List ze)×zO×Int×zw×Unit):=za2.F (a1,())
def zkL:Cfg E:=cf [(123,[ziq])] [] [] [(0,some 0)] [] []
def YZ:zL E:=sp zkL Tryz.f187 ⟨[.ptr 0,vI],[.box true (L 16)]⟩ ⟨[],[.box true (L 16)]⟩ [oI,.str 16] [.str 16]
def YX (a1:Int) (a2:zK):Option (zK×Unit):=YZ.F (a1,a2,())
def zmt:Cfg E:=cf [(187,[YZ])] [] [] [(0,some 0)] [] []
def Uu:zL E:=sp zmt Tryz.f130 ⟨[.ptr 0],[.box true (L 16)]⟩ ⟨[],[.box true (L 16)]⟩ [.str 16] [.str 16]
def zeq (a1:zK):Option (zK×Unit):=Uu.F (a1,())
def zqC:Cfg E:=cf1 [(172,[zfH]),(185,[Ze])]
def Un:zL E:=sp zqC Tryz.f188 ⟨[.ptr 0],[.box false (L 16)]⟩ ⟨[vI],[.gone]⟩ [.str 16] [oI]
def Ug (a1:zK):Option (Int×Unit):=Un.F (a1,())
def znq:Cfg E:=cf [(185,[Ze]),(186,[YN]),(188,[Un])] [] [] [(0,some 0)] [] []
def zaF:zL E:=sp znq Tryz.f131 ⟨[.ptr 0],[.box true (L 16)]⟩ ⟨[],[.box true (L 16)]⟩ [.str 16] [.str 16]
def zfe (a1:zK):Option (zK×Unit):=zaF.F (a1,())
def zoC:Cfg E:=cf [(185,[Ze]),(188,[Un]),(189,[uP])] [] [] [(0,some 0)] [] []
def za3:zL E:=sp zoC Tryz.f132 ⟨[.ptr 0],[.box true (L 16)]⟩ ⟨[],[.box true (L 16)]⟩ [.str 16] [.str 16]
def zgq (a1:zK):Option (zK×Unit):=za3.F (a1,())
def zlZ:Cfg E:=cf [(157,[znS])] [] [] [(0,some 0)] [] []
def Uz:zL E:=sp zlZ Tryz.f133 ⟨[.ptr 0],[.box true (L 16)]⟩ ⟨[],[.box true (L 16)]⟩ [.str 16] [.str 16]
def zdT (a1:zK):Option (zK×Unit):=Uz.F (a1,())
def zjs:Cfg E:=cf [(29,[xI])] [] [] [(0,some 0)] [] []
def WE:zL E:=sp zjs Tryz.f134 ⟨[.ptr 0],[.box true (L 16)]⟩ ⟨[],[.box true (L 16)]⟩ [.str 16] [.str 16]
def zck (a1:zK):Option (zK×Unit):=WE.F (a1,())
def zBu:Cfg E:=cf [(29,[xI]),(170,[vu]),(211,[zab])] [] [(4,12),(6,0)] [] [] []
def zp6:zL E:=sp zBu Tryz.f190 ⟨[.val (.named 2),vI,vI,vI],[]⟩ ⟨[.val (.named 2),vB],[]⟩ [.one (.named 2),oI,oI,oI] [.one (.named 2),oB]
def zp3 (a1:zt) (a2:Int) (a3:Int) (a4:Int):Option (zt×Bool×Unit):=zp6.F (a1,a2,a3,a4,())
def zlH:Cfg E:=cf [(185,[Ze]),(189,[uP]),(190,[zp6])] [] [] [(0,some 0)] [] []
def UJ:zL E:=sp zlH Tryz.f135 ⟨[.ptr 0],[.box true (L 16)]⟩ ⟨[],[.box true (L 16)]⟩ [.str 16] [.str 16]
def zd8 (a1:zK):Option (zK×Unit):=UJ.F (a1,())
def zkd:Cfg E:=cf1 []
def Vh:zL E:=sp zkd Tryz.f108 ⟨[.val zQ],[]⟩ ⟨[.full z7],[]⟩ [.one zQ] [.one zQ]
def W7 (a1:zD):Option (zD×Unit):=Vh.F (a1,())
def zxR:Cfg E:=cf1 [(60,[zcU]),(108,[Vh])]
def zgp:zL E:=sp zxR Tryz.f63 ⟨[.val (.named 2),vI],[]⟩ ⟨[.val (.named 2),vI,vI],[]⟩ [.one (.named 2),oI] [.one (.named 2),oI,oI]
def zgi (a1:zt) (a2:Int):Option (zt×Int×Int×Unit):=zgp.F (a1,a2,())
def zyE:Cfg E:=cf1 [(103,[zcM]),(104,[zbP])]
def zgu:zL E:=sp zyE Tryz.f105 ⟨[.val (.named 9),vI],[]⟩ ⟨[.val (.named 9),vB],[]⟩ [.one (.named 9),oI] [.one (.named 9),oB]
def zcR (a1:zx) (a2:Int):Option (zx×Bool×Unit):=zgu.F (a1,a2,())
def zsZ:Cfg E:=cf1 []
def zeQ:zL E:=sp zsZ Tryz.f214 ⟨[vI,.ptr 0],[.box false [vI]]⟩ ⟨[vI],[.gone]⟩ [oI,oI] [oI]
def za8 (a1:Int) (a2:Int):Option (Int×Unit):=zeQ.F (a1,a2,())
def zaO:Cfg E:=cf1 [(214,[zeQ])]
def uf:zL E:=sp zaO Tryz.f183 ⟨[.val (.named 10),vI,.fn 214 [.ptr 0]],[.box false [vI]]⟩ ⟨[.val (.named 10)],[.gone]⟩ [.one (.named 10),oI,oI] [.one (.named 10)]
def YI (a1:zy) (a2:Int) (a3:Int):Option (zy×Unit):=uf.F (a1,a2,a3,())
def zmm:Cfg E:=cf1 [(182,[Yb])]
def Xn:zL E:=sp zmm Tryz.f216 ⟨[.val (.named 10),vI,vI,vI],[]⟩ ⟨[vB],[]⟩ [.one (.named 10),oI,oI,oI] [oB]
def Xl (a1:zy) (a2:Int) (a3:Int) (a4:Int):Option (Bool×Unit):=Xn.F (a1,a2,a3,a4,())
def zxw:Cfg E:=cf1 [(216,[Xn])]
def zfL:zL E:=sp zxw Tryz.f213 ⟨[.val (.named 10),vI,vI,vI],[]⟩ ⟨[vB],[]⟩ [.one (.named 10),oI,oI,oI] [oB]
def zfK (a1:zy) (a2:Int) (a3:Int) (a4:Int):Option (Bool×Unit):=zfL.F (a1,a2,a3,a4,())
def zuT:Cfg E:=cf1 [(183,[uf]),(213,[zfL])]
def zg4:zL E:=sp zuT Tryz.f191 ⟨[.val (.named 10),vI,vI,vI],[]⟩ ⟨[.val (.named 10),vB],[]⟩ [.one (.named 10),oI,oI,oI] [.one (.named 10),oB]
def zhm (a1:zy) (a2:Int) (a3:Int) (a4:Int):Option (zy×Bool×Unit):=zg4.F (a1,a2,a3,a4,())
def zme:Cfg E:=cf [(63,[zgp]),(105,[zgu]),(185,[Ze]),(186,[YN]),(189,[uP]),(191,[zg4])] [] [] [(0,some 0)] [] []
def UW:zL E:=sp zme Tryz.f136 ⟨[.ptr 0],[.box true (L 16)]⟩ ⟨[],[.box true (L 16)]⟩ [.str 16] [.str 16]
def zet (a1:zK):Option (zK×Unit):=UW.F (a1,())
def ztt:Cfg E:=cf1 []
def zfP:zL E:=sp ztt Tryz.f215 ⟨[vI,.ptr 0],[.box false [vI]]⟩ ⟨[vI],[.gone]⟩ [oI,oI] [oI]
def zcd (a1:Int) (a2:Int):Option (Int×Unit):=zfP.F (a1,a2,())
def zaU:Cfg E:=cf1 [(215,[zfP])]
def uo:zL E:=sp zaU Tryz.f183 ⟨[.val (.named 10),vI,.fn 215 [.ptr 0]],[.box false [vI]]⟩ ⟨[.val (.named 10)],[.gone]⟩ [.one (.named 10),oI,oI] [.one (.named 10)]
def YT (a1:zy) (a2:Int) (a3:Int):Option (zy×Unit):=uo.F (a1,a2,a3,())
def zxj:Cfg E:=cf1 [(182,[Yb]),(183,[uo])]
def zkc:zL E:=sp zxj Tryz.f192 ⟨[.val (.named 10),vI,vI],[]⟩ ⟨[.val (.named 10),vI],[]⟩ [.one (.named 10),oI,oI] [.one (.named 10),oI]
def zkg (a1:zy) (a2:Int) (a3:Int):Option (zy×Int×Unit):=zkc.F (a1,a2,a3,())
def zvi:Cfg E:=cf1 [(213,[zfL]),(216,[Xn])]
def zhy:zL E:=sp zvi Tryz.f193 ⟨[.val (.named 10),vI,vI,vI],[]⟩ ⟨[vI],[]⟩ [.one (.named 10),oI,oI,oI] [oI]
def zg5 (a1:zy) (a2:Int) (a3:Int) (a4:Int):Option (Int×Unit):=zhy.F (a1,a2,a3,a4,())
def zm9:Cfg E:=cf [(38,[Xz]),(210,[Ua])] [] [] [(0,some 0)] [] []
def XV:zL E:=sp zm9 Tryz.f194 ⟨[.ptr 0,vI,vI,vI],[.box true (L 16)]⟩ ⟨[],[.box true (L 16)]⟩ [oI,oI,oI,.str 16] [.str 16]
def XP (a1:Int) (a2:Int) (a3:Int) (a4:zK):Option (zK×Unit):=XV.F (a1,a2,a3,a4,())
def znf:Cfg E:=cf [(37,[Xv]),(192,[zkc]),(193,[zhy]),(194,[XV])] [] [] [(0,some 0)] [] []
def zau:zL E:=sp znf Tryz.f137 ⟨[.ptr 0],[.box true (L 16)]⟩ ⟨[],[.box true (L 16)]⟩ [.str 16] [.str 16]
def zfq (a1:zK):Option (zK×Unit):=zau.F (a1,())
def zoW:Cfg E:=cf [(166,[Vr])] [] [] [(0,some 0)] [] []
def zbt:zL E:=sp zoW Tryz.f138 ⟨[.ptr 0],[.box true (L 16)]⟩ ⟨[],[.box true (L 16)]⟩ [.str 16] [.str 16]
def zf0 (a1:zK):Option (zK×Unit):=zbt.F (a1,())
def zlz:Cfg E:=cf [(39,[X2]),(170,[vu]),(194,[XV])] [] [] [(0,some 0)] [] []
def UQ:zL E:=sp zlz Tryz.f139 ⟨[.ptr 0],[.box true (L 16)]⟩ ⟨[],[.box true (L 16)]⟩ [.str 16] [.str 16]
def zeg (a1:zK):Option (zK×Unit):=UQ.F (a1,())
def zmZ:Cfg E:=cf [(166,[Vr])] [] [] [(0,some 0)] [] []
def zaR:zL E:=sp zmZ Tryz.f140 ⟨[.ptr 0],[.box true (L 16)]⟩ ⟨[],[.box true (L 16)]⟩ [.str 16] [.str 16]
def zfb (a1:zK):Option (zK×Unit):=zaR.F (a1,())
def zlV:Cfg E:=cf [] [] [] [(0,some 0)] [] []
def UL:zL E:=sp zlV Tryz.f141 ⟨[.ptr 0],[.box true (L 16)]⟩ ⟨[],[.box true (L 16)]⟩ [.str 16] [.str 16]
def zep (a1:zK):Option (zK×Unit):=UL.F (a1,())
def zs6:Cfg E:=cf1 []
def zbv:zL E:=sp zs6 Tryz.f195 ⟨[.ptr 0],[.box false (L 16)]⟩ ⟨[vI],[.gone]⟩ [.str 16] [oI]
def zbs (a1:zK):Option (Int×Unit):=zbv.F (a1,())
def zm8:Cfg E:=cf [(172,[zfH]),(173,[zcE]),(195,[zbv])] [] [] [(0,some 0)] [] []
def zah:zL E:=sp zm8 Tryz.f142 ⟨[.ptr 0],[.box true (L 16)]⟩ ⟨[],[.box true (L 16)]⟩ [.str 16] [.str 16]
def zfi (a1:zK):Option (zK×Unit):=zah.F (a1,())
def zom:Cfg E:=cf [(187,[YZ]),(195,[zbv])] [] [] [(0,some 0)] [] []
def zba:zL E:=sp zom Tryz.f143 ⟨[.ptr 0],[.box true (L 16)]⟩ ⟨[],[.box true (L 16)]⟩ [.str 16] [.str 16]
def zfR (a1:zK):Option (zK×Unit):=zba.F (a1,())
def zjT:Cfg E:=cf [(104,[zbP]),(126,[zey])] [] [] [(0,some 0)] [] []
def Vx:zL E:=sp zjT Tryz.f144 ⟨[.ptr 0],[.box true (L 16)]⟩ ⟨[],[.box true (L 16)]⟩ [.str 16] [.str 16]
def zc0 (a1:zK):Option (zK×Unit):=Vx.F (a1,())
def zjF:Cfg E:=cf [] [] [] [(0,some 0)] [] []
def Vn:zL E:=sp zjF Tryz.f145 ⟨[.ptr 0],[.box true (L 16)]⟩ ⟨[],[.box true (L 16)]⟩ [.str 16] [.str 16]
def zcs (a1:zK):Option (zK×Unit):=Vn.F (a1,())
def znk:Cfg E:=cf [(127,[UF]),(128,[UT]),(129,[za2]),(130,[Uu]),(131,[zaF]),(132,[za3]),(133,[Uz]),(134,[WE]),(135,[UJ]),(136,[UW]),(137,[zau]),(138,[zbt]),(139,[UQ]),(140,[zaR]),(141,[UL]),(142,[zah]),(143,[zba]),(144,[Vx]),(145,[Vn])] [] [] [(0,some 0)] [] []
def zao:zL E:=sp znk Tryz.f84 ⟨[.ptr 0],[.box true (L 16)]⟩ ⟨[],[.box true (L 16)]⟩ [.str 16] [.str 16]
def zax (a1:zK):Option (zK×Unit):=zao.F (a1,())
def Up:Cfg E:=cf1 []
def vE:zL E:=sp Up Tryz.f85 ⟨[.val (.slice (.named 8))],[]⟩ ⟨[.own 0],[.row true (.named 8)]⟩ [.one (.slice (.named 8))] [.one (.slice (.named 8))]
def vF (a1:List ze):Option ((List ze)×Unit):=vE.F (a1,())
def zu2:Cfg E:=cf1 [(84,[zao]),(85,[vE])]
def zhW:zL E:=sp zu2 Tryz.f43 ⟨[.val (.named 12),vI],[]⟩ ⟨[.val (.named 12)],[]⟩ [.one (.named 12),oI] [.one (.named 12)]
def zhw (a1:za) (a2:Int):Option (za×Unit):=zhW.F (a1,a2,())
def zwS:Cfg E:=cf1 [(40,[zfM]),(42,[zj0]),(43,[zhW]),(44,[zf1])]
def zeA:zL E:=sp zwS Tryz.f8 ⟨[.val (.named 12),.val (.named 1)],[]⟩ ⟨[.val (.named 12)],[]⟩ [.one (.named 12),.one (.named 1)] [.one (.named 12)]
def zev (a1:za) (a2:zm):Option (za×Unit):=zeA.F (a1,a2,())
def zoa:z3 E:=lo [1,2,4,8,9,10] ⟨[.val (.slice (.named 1)),.ptr 0,.ptr 1,.val (.slice (.named 1)),vI,vI],[.box true (L 12),.box true (L 0++L 0++[vI,.own 2,vU,.own 3,.own 4,.own 5,vI,.own 6,.own 7,.own 8,vU,vU,vI,vI,vB,vB,vI,.own 9,vI,vI,vI,.own 10,.own 11,.own 12,vI,vI]),.row true z7,.row true z7,.row true (.slice (.named 0)),.row true (.named 1),.row true z7,.row true (.int .u64),.row true z7,.row true zo,.row true zo,.row true (.named 7),.row true (.named 8)]⟩ 0 [1,2,4] ⟨[.val (.slice (.named 1)),.ptr 0,.ptr 1],[.box true (L 12),.box true (L 0++L 0++[vI,.own 2,vU,.own 3,.own 4,.own 5,vI,.own 6,.own 7,.own 8,vU,vU,vI,vI,vB,vB,vI,.own 9,vI,vI,vI,.own 10,.own 11,.own 12,vI,vI]),.row true z7,.row true z7,.row true (.slice (.named 0)),.row true (.named 1),.row true z7,.row true (.int .u64),.row true z7,.row true zo,.row true zo,.row true (.named 7),.row true (.named 8)]⟩ [4,5] ⟨[.ptr 0,vI],[.box true (L 12)]⟩ [.one (.slice (.named 1)),.one (.slice (.named 1)),oI,oI,.str 12,oI,oI,oI,oI,oI,oI,oI,oI,oI,oU,oI,.str 9,oI,oI,oB,oB,oI,oI,oI,oI,.str 11,.one zQ,.one zQ,.one (.slice (.slice (.named 0))),.one (.slice (.named 1)),.one zQ,oM,.one zQ,oL,oL,.one (.slice (.named 7)),.one (.slice (.named 8))] [.one (.slice (.named 1)),.str 12,oI,oI,oI,oI,oI,oI,oI,oI,oI,oU,oI,.str 9,oI,oI,oB,oB,oI,oI,oI,oI,.str 11,.one zQ,.one zQ,.one (.slice (.slice (.named 0))),.one (.slice (.named 1)),.one zQ,oM,.one zQ,oL,oL,.one (.slice (.named 7)),.one (.slice (.named 8))] [oI,.str 12]
def zhu:Cfg E:=cf [(8,[zeA])] [(2,zoa)] [] [] [] []
def zl2:zL E:=sp zhu Tryz.f17 ⟨[.val (.named 12),.val (.slice (.named 1))],[]⟩ ⟨[.val (.named 12),vI],[]⟩ [.one (.named 12),.one (.slice (.named 1))] [.one (.named 12),oI]
def Vd (a1:za) (a2:List zm):Option (za×Int×Unit):=zl2.F (a1,a2,())
def zf9 (x:(List zm)×(List zm)×Int×Int×za×Int×Int×Int×Int×Int×Int×Int×Int×Int×zA×Int×zx×Int×Int×Bool×Bool×Int×Int×Int×Int×zO×zD×zD×(List (List zE))×(List zm)×zD×(List zA)×zD×zw×zw×(List zi)×(List ze)×Unit):Option (yL ((List zm)×(List zm)×Int×Int×za×Int×Int×Int×Int×Int×Int×Int×Int×Int×zA×Int×zx×Int×Int×Bool×Bool×Int×Int×Int×Int×zO×zD×zD×(List (List zE))×(List zm)×zD×(List zA)×zD×zw×zw×(List zi)×(List ze)×Unit) ((List zm)×za×Int×Int×Int×Int×Int×Int×Int×Int×Int×zA×Int×zx×Int×Int×Bool×Bool×Int×Int×Int×Int×zO×zD×zD×(List (List zE))×(List zm)×zD×(List zA)×zD×zw×zw×(List zi)×(List ze)×Unit) (Int×za×Unit)):=yp zhu (exec zhu (yC Tryz.f17 2)) 26 zoa x
def zkm:z3 E:=lo [2,3,6,15] ⟨[.ptr 0,.ptr 1,.ptr 2,vI],[.box true [vU,vU],.box true [vU,vU],.box true [.nilfn,.fn 103 [],.fn 104 [],.fn 105 []]]⟩ 0 [] ⟨[],[]⟩ [4,5] ⟨[vI,vI],[]⟩ [oI,.str 9,.str 9] [] [oI,oI]
def zky:z3 E:=lo [2,3,6,7,8,15] ⟨[.ptr 0,.ptr 1,.ptr 2,vI,vI,vI],[.box true [vU,vU],.box true [vU,vU],.box true [.nilfn,.fn 103 [],.fn 104 [],.fn 105 []]]⟩ 2 [2,3,6,15] ⟨[.ptr 0,.ptr 1,.ptr 2,vI],[.box true [vU,vU],.box true [vU,vU],.box true [.nilfn,.fn 103 [],.fn 104 [],.fn 105 []]]⟩ [4,5] ⟨[vI,vI],[]⟩ [oI,oI,oI,.str 9,.str 9] [oI,.str 9,.str 9] [oI,oI]
def Vs:Cfg E:=cf [(103,[zcM]),(104,[zbP]),(105,[zgu])] [(5,zkm),(8,zky)] [] [] [] []
def zht:zL E:=sp Vs Tryz.f61 ⟨[.val (.named 9),.val (.named 9)],[]⟩ ⟨[vI,vI],[]⟩ [.one (.named 9),.one (.named 9)] [oI,oI]
def zh0 (a1:zx) (a2:zx):Option (Int×Int×Unit):=zht.F (a1,a2,())
def zdP (x:Int×zx×zx×Unit):Option (yL (Int×zx×zx×Unit) (Unit) (Int×Int×Unit)):=yp Vs (exec Vs (yC Tryz.f61 5)) 42 zkm x
def uF (x:Int×Int×Int×zx×zx×Unit):Option (yL (Int×Int×Int×zx×zx×Unit) (Int×zx×zx×Unit) (Int×Int×Unit)):=yp Vs (exec Vs (yC Tryz.f61 8)) 42 zky x
def zby:z3 E:=lo [0,1,12,13] ⟨[vL,vL,vI,vI],[]⟩ 0 [] ⟨[],[]⟩ [4] ⟨[vB],[]⟩ [oL,oL,oI,oI] [] [oB]
def WL:Cfg E:=cf [] [(4,zby)] [] [] [] []
def V2:zL E:=sp WL Tryz.f107 ⟨[vL,vL],[]⟩ ⟨[vB],[]⟩ [oL,oL] [oB]
def VT (a1:zw) (a2:zw):Option (Bool×Unit):=V2.F (a1,a2,())
def X6 (x:zw×zw×Int×Int×Unit):Option (yL (zw×zw×Int×Int×Unit) (Unit) (Bool×Unit)):=yp WL (exec WL (yC Tryz.f107 4)) 26 zby x
def wz:z3 E:=lo [1,2,15,16,17] ⟨[.val zQ,.fn 107 [],.val zQ,vI,vI],[]⟩ 0 [] ⟨[],[]⟩ [6] ⟨[vB],[]⟩ [.one zQ,.one zQ,oI,oI] [] [oB]
def xr:Cfg E:=cf [(107,[V2])] [(4,wz)] [] [] [] []
def xA:zL E:=sp xr Tryz.f106 ⟨[.val zQ,.val zQ,.fn 107 []],[]⟩ ⟨[vB],[]⟩ [.one zQ,.one zQ] [oB]
def xC (a1:zD) (a2:zD):Option (Bool×Unit):=xA.F (a1,a2,())
def xl (x:zD×zD×Int×Int×Unit):Option (yL (zD×zD×Int×Int×Unit) (Unit) (Bool×Unit)):=yp xr (exec xr (yC Tryz.f106 4)) 32 wz x
def zzZ:Cfg E:=cf1 [(106,[xA])]
def zo7:zL E:=sp zzZ Tryz.f62 ⟨[.val (.named 2),.val (.named 2)],[]⟩ ⟨[vB],[]⟩ [.one (.named 2),.one (.named 2)] [oB]
def ziB (a1:zt) (a2:zt):Option (Bool×Unit):=zo7.F (a1,a2,())
def zlQ:z3 E:=lo [3,5,6,26,27,28] ⟨[.ptr 0,vI,vI,.val zQ,vI,vI],[.box true [vI,.val zQ]]⟩ 0 [5,6] ⟨[vI,vI],[]⟩ [4] ⟨[vI],[]⟩ [oI,oI,.one zQ,oI,oI,.str 2] [oI,oI] [oI]
def zkv:z3 E:=lo [3,5,6,7,26,27,28,42,43,44] ⟨[.ptr 0,vI,vI,vI,.val zQ,vI,vI,vL,vI,vI],[.box true [vI,.val zQ]]⟩ 2 [3,5,6,26,27,28] ⟨[.ptr 0,vI,vI,.val zQ,vI,vI],[.box true [vI,.val zQ]]⟩ [] ⟨[],[]⟩ [oI,oI,oI,.one zQ,oI,oI,oL,oI,oI,.str 2] [oI,oI,.one zQ,oI,oI,.str 2] []
def Ul:Cfg E:=cf [] [(5,zlQ),(10,zkv)] [] [] [] []
def zjO:zL E:=sp Ul Tryz.f64 ⟨[.val (.named 2),.val (.named 2)],[]⟩ ⟨[vI],[]⟩ [.one (.named 2),.one (.named 2)] [oI]
def V8 (a1:zt) (a2:zt):Option (Int×Unit):=zjO.F (a1,a2,())
def zeX (x:Int×Int×zD×Int×Int×zt×Unit):Option (yL (Int×Int×zD×Int×Int×zt×Unit) (Int×Int×Unit) (Int×Unit)):=yp Ul (exec Ul (yC Tryz.f64 5)) 68 zlQ x
def zad (x:Int×Int×Int×zD×Int×Int×zw×Int×Int×zt×Unit):Option (yL (Int×Int×Int×zD×Int×Int×zw×Int×Int×zt×Unit) (Int×Int×zD×Int×Int×zt×Unit) (Unit)):=yp Ul (exec Ul (yC Tryz.f64 10)) 68 zkv x
def zB3:Cfg E:=cf1 [(61,[zht]),(62,[zo7]),(63,[zgp]),(64,[zjO])]
def zkV:zL E:=sp zB3 Tryz.f18 ⟨[.val (.named 12),.val (.named 12)],[]⟩ ⟨[vI,vI],[]⟩ [.one (.named 12),.one (.named 12)] [oI,oI]
def za9 (a1:za) (a2:za):Option (Int×Int×Unit):=zkV.F (a1,a2,())
def zws:Cfg E:=cf1 [(67,[zfl])]
def zjP:zL E:=sp zws Tryz.f66 ⟨[vU,.ptr 0],[.box false [vI]]⟩ ⟨[vB],[.gone]⟩ [oU,oI] [oB]
def zka (a1:zA) (a2:Int):Option (Bool×Unit):=zjP.F (a1,a2,())
def zz9:Cfg E:=cf1 [(18,[zkV]),(47,[zcT]),(50,[zaD]),(66,[zjP])]
def zol:zL E:=sp zz9 Tryz.f20 ⟨[.val (.named 12),.val (.named 12)],[]⟩ ⟨[vB],[]⟩ [.one (.named 12),.one (.named 12)] [oB]
def zdZ (a1:za) (a2:za):Option (Bool×Unit):=zol.F (a1,a2,())
def zm3:Cfg E:=cf1 [(6,[ziC]),(9,[zeo]),(10,[zbF]),(11,[zd7]),(12,[zbH]),(13,[zgD]),(14,[zes]),(15,[zis]),(16,[zcz]),(17,[zl2]),(18,[zkV]),(19,[zel]),(20,[zol])]
def zam:zL E:=sp zm3 Tryz.f4 ⟨[],[]⟩ ⟨[vB],[]⟩ [] [oB]
def zaN:Option (Bool×Unit):=zam.F (())
def zhE:Cfg E:=cf [] [] [] [(0,some 0)] [] []
def Z2:zL E:=sp zhE Tryz.f21 ⟨[.ptr 0],[.box true [.val (.slice (.int .u8)),vI]]⟩ ⟨[vI],[.box true [.val (.slice (.int .u8)),vI]]⟩ [.str 17] [oI,.str 17]
def zS (a1:zY):Option (Int×zY×Unit):=Z2.F (a1,())
def zjG:Cfg E:=cf [(21,[Z2])] [] [] [(0,some 0)] [] []
def Vo:zL E:=sp zjG Tryz.f23 ⟨[.ptr 0,vI,vI],[.box true [.val (.slice (.int .u8)),vI]]⟩ ⟨[.val (.named 0)],[.box true [.val (.slice (.int .u8)),vI]]⟩ [oI,oI,.str 17] [.one (.named 0),.str 17]
def W9 (a1:Int) (a2:Int) (a3:zY):Option (zE×zY×Unit):=Vo.F (a1,a2,a3,())
def zfW:z3 E:=lo [2,3,4,5,6] ⟨[.ptr 0,.ptr 1,.ptr 2,vI,vI],[.box true (L 0++L 0++[vI,.own 3,vU,.own 4,.own 5,.own 6]),.box true [.val (.slice (.int .u8)),vI],.box true (L 0++L 0++[vI,.own 7,vU,.own 8,.own 9,.own 10]),.row true z7,.row true z7,.row true (.slice (.named 0)),.row true (.named 1),.row true z7,.row true z7,.row true (.slice (.named 0)),.row true (.named 1)]⟩ 0 [2,3,4,5] ⟨[.ptr 0,.ptr 1,.ptr 2,vI],[.box true (L 0++L 0++[vI,.own 3,vU,.own 4,.own 5,.own 6]),.box true [.val (.slice (.int .u8)),vI],.box true (L 0++L 0++[vI,.own 7,vU,.own 8,.own 9,.own 10]),.row true z7,.row true z7,.row true (.slice (.named 0)),.row true (.named 1),.row true z7,.row true z7,.row true (.slice (.named 0)),.row true (.named 1)]⟩ [] ⟨[],[]⟩ [oI,oI,oI,oI,oI,oI,oI,oI,oI,oI,oI,oU,.str 17,oI,oI,oI,oI,oI,oI,oI,oI,oI,oU,.one zQ,.one zQ,.one (.slice (.slice (.named 0))),.one (.slice (.named 1)),.one zQ,.one zQ,.one (.slice (.slice (.named 0))),.one (.slice (.named 1))] [oI,oI,oI,oI,oI,oI,oI,oI,oI,oI,oU,.str 17,oI,oI,oI,oI,oI,oI,oI,oI,oI,oU,.one zQ,.one zQ,.one (.slice (.slice (.named 0))),.one (.slice (.named 1)),.one zQ,.one zQ,.one (.slice (.slice (.named 0))),.one (.slice (.named 1))] []
def ze4:z3 E:=lo [2,3,4,5,6,7,8] ⟨[.ptr 0,.ptr 1,.ptr 2,vI,vI,.own 3,vI],[.box true (L 0++L 0++[vI,.own 4,vU,.own 5,.own 6,.own 7]),.box true [.val (.slice (.int .u8)),vI],.box true (L 0++L 0++[vI,.own 8,vU,.own 9,.own 10,.own 11]),.row true zo,.row true z7,.row true z7,.row true (.slice (.named 0)),.row true (.named 1),.row true z7,.row true z7,.row true (.slice (.named 0)),.row true (.named 1)]⟩ 2 [2,3,4,5,6,7] ⟨[.ptr 0,.ptr 1,.ptr 2,vI,vI,.own 3],[.box true (L 0++L 0++[vI,.own 4,vU,.own 5,.own 6,.own 7]),.box true [.val (.slice (.int .u8)),vI],.box true (L 0++L 0++[vI,.own 8,vU,.own 9,.own 10,.own 11]),.row true zo,.row true z7,.row true z7,.row true (.slice (.named 0)),.row true (.named 1),.row true z7,.row true z7,.row true (.slice (.named 0)),.row true (.named 1)]⟩ [] ⟨[],[]⟩ [oI,oI,oI,oI,oI,oI,oI,oI,oI,oI,oI,oI,oU,.str 17,oI,oI,oI,oI,oI,oI,oI,oI,oI,oU,oL,.one zQ,.one zQ,.one (.slice (.slice (.named 0))),.one (.slice (.named 1)),.one zQ,.one zQ,.one (.slice (.slice (.named 0))),.one (.slice (.named 1))] [oI,oI,oI,oI,oI,oI,oI,oI,oI,oI,oI,oU,.str 17,oI,oI,oI,oI,oI,oI,oI,oI,oI,oU,oL,.one zQ,.one zQ,.one (.slice (.slice (.named 0))),.one (.slice (.named 1)),.one zQ,.one zQ,.one (.slice (.slice (.named 0))),.one (.slice (.named 1))] []
def ze6:z3 E:=lo [2,3,4,5,9] ⟨[.ptr 0,.ptr 1,.ptr 2,vI,vI],[.box true (L 0++L 0++[vI,.own 3,vU,.own 4,.own 5,.own 6]),.box true [.val (.slice (.int .u8)),vI],.box true (L 0++L 0++[vI,.own 7,vU,.own 8,.own 9,.own 10]),.row true z7,.row true z7,.row true (.slice (.named 0)),.row true (.named 1),.row true z7,.row true z7,.row true (.slice (.named 0)),.row true (.named 1)]⟩ 4 [2,4] ⟨[.ptr 0,.ptr 1],[.box true (L 0++L 0++[vI,.own 2,vU,.own 3,.own 4,.own 5]),.box true (L 0++L 0++[vI,.own 6,vU,.own 7,.own 8,.own 9]),.row true z7,.row true z7,.row true (.slice (.named 0)),.row true (.named 1),.row true z7,.row true z7,.row true (.slice (.named 0)),.row true (.named 1)]⟩ [] ⟨[],[]⟩ [oI,oI,oI,oI,oI,oI,oI,oI,oI,oI,oI,oU,.str 17,oI,oI,oI,oI,oI,oI,oI,oI,oI,oU,.one zQ,.one zQ,.one (.slice (.slice (.named 0))),.one (.slice (.named 1)),.one zQ,.one zQ,.one (.slice (.slice (.named 0))),.one (.slice (.named 1))] [oI,oI,oI,oI,oI,oI,oI,oI,oI,oU,oI,oI,oI,oI,oI,oI,oI,oI,oI,oU,.one zQ,.one zQ,.one (.slice (.slice (.named 0))),.one (.slice (.named 1)),.one zQ,.one zQ,.one (.slice (.slice (.named 0))),.one (.slice (.named 1))] []
def zfn:z3 E:=lo [2,3,4,5,9,10,11] ⟨[.ptr 0,.ptr 1,.ptr 2,vI,vI,.own 3,vI],[.box true (L 0++L 0++[vI,.own 4,vU,.own 5,.own 6,.own 7]),.box true [.val (.slice (.int .u8)),vI],.box true (L 0++L 0++[vI,.own 8,vU,.own 9,.own 10,.own 11]),.row true zo,.row true z7,.row true z7,.row true (.slice (.named 0)),.row true (.named 1),.row true z7,.row true z7,.row true (.slice (.named 0)),.row true (.named 1)]⟩ 6 [2,3,4,5,9,10] ⟨[.ptr 0,.ptr 1,.ptr 2,vI,vI,.own 3],[.box true (L 0++L 0++[vI,.own 4,vU,.own 5,.own 6,.own 7]),.box true [.val (.slice (.int .u8)),vI],.box true (L 0++L 0++[vI,.own 8,vU,.own 9,.own 10,.own 11]),.row true zo,.row true z7,.row true z7,.row true (.slice (.named 0)),.row true (.named 1),.row true z7,.row true z7,.row true (.slice (.named 0)),.row true (.named 1)]⟩ [] ⟨[],[]⟩ [oI,oI,oI,oI,oI,oI,oI,oI,oI,oI,oI,oI,oU,.str 17,oI,oI,oI,oI,oI,oI,oI,oI,oI,oU,oL,.one zQ,.one zQ,.one (.slice (.slice (.named 0))),.one (.slice (.named 1)),.one zQ,.one zQ,.one (.slice (.slice (.named 0))),.one (.slice (.named 1))] [oI,oI,oI,oI,oI,oI,oI,oI,oI,oI,oI,oU,.str 17,oI,oI,oI,oI,oI,oI,oI,oI,oI,oU,oL,.one zQ,.one zQ,.one (.slice (.slice (.named 0))),.one (.slice (.named 1)),.one zQ,.one zQ,.one (.slice (.slice (.named 0))),.one (.slice (.named 1))] []
def zfj:z3 E:=lo [2,3,4,5,9,10,12,13] ⟨[.ptr 0,.ptr 1,.ptr 2,vI,vI,.own 3,.own 4,vI],[.box true (L 0++L 0++[vI,.own 5,vU,.own 6,.own 7,.own 8]),.box true [.val (.slice (.int .u8)),vI],.box true (L 0++L 0++[vI,.own 9,vU,.own 10,.own 11,.own 12]),.row true zo,.row true (.named 0),.row true z7,.row true z7,.row true (.slice (.named 0)),.row true (.named 1),.row true z7,.row true z7,.row true (.slice (.named 0)),.row true (.named 1)]⟩ 8 [2,3,4,5,9,10,12] ⟨[.ptr 0,.ptr 1,.ptr 2,vI,vI,.own 3,.own 4],[.box true (L 0++L 0++[vI,.own 5,vU,.own 6,.own 7,.own 8]),.box true [.val (.slice (.int .u8)),vI],.box true (L 0++L 0++[vI,.own 9,vU,.own 10,.own 11,.own 12]),.row true zo,.row true (.named 0),.row true z7,.row true z7,.row true (.slice (.named 0)),.row true (.named 1),.row true z7,.row true z7,.row true (.slice (.named 0)),.row true (.named 1)]⟩ [] ⟨[],[]⟩ [oI,oI,oI,oI,oI,oI,oI,oI,oI,oI,oI,oI,oU,.str 17,oI,oI,oI,oI,oI,oI,oI,oI,oI,oU,oL,.one (.slice (.named 0)),.one zQ,.one zQ,.one (.slice (.slice (.named 0))),.one (.slice (.named 1)),.one zQ,.one zQ,.one (.slice (.slice (.named 0))),.one (.slice (.named 1))] [oI,oI,oI,oI,oI,oI,oI,oI,oI,oI,oI,oU,.str 17,oI,oI,oI,oI,oI,oI,oI,oI,oI,oU,oL,.one (.slice (.named 0)),.one zQ,.one zQ,.one (.slice (.slice (.named 0))),.one (.slice (.named 1)),.one zQ,.one zQ,.one (.slice (.slice (.named 0))),.one (.slice (.named 1))] []
def xY:Cfg E:=cf [(21,[Z2]),(22,[zaX]),(23,[Vo])] [(7,zfW),(11,ze4),(17,ze6),(21,zfn),(28,zfj)] [] [] [] []
def zdD:zL E:=sp xY Tryz.f5 ⟨[.val (.slice (.int .u8))],[]⟩ ⟨[.val (.named 3)],[]⟩ [.one (.slice (.int .u8))] [.one (.named 3)]
def zdI (a1:List (BitVec 8)):Option (zd×Unit):=zdD.F (a1,())
def WD (x:Int×Int×Int×Int×Int×Int×Int×Int×Int×Int×Int×zA×zY×Int×Int×Int×Int×Int×Int×Int×Int×Int×zA×zD×zD×(List (List zE))×(List zm)×zD×zD×(List (List zE))×(List zm)×Unit):Option (yL (Int×Int×Int×Int×Int×Int×Int×Int×Int×Int×Int×zA×zY×Int×Int×Int×Int×Int×Int×Int×Int×Int×zA×zD×zD×(List (List zE))×(List zm)×zD×zD×(List (List zE))×(List zm)×Unit) (Int×Int×Int×Int×Int×Int×Int×Int×Int×Int×zA×zY×Int×Int×Int×Int×Int×Int×Int×Int×Int×zA×zD×zD×(List (List zE))×(List zm)×zD×zD×(List (List zE))×(List zm)×Unit) (Unit)):=yp xY (exec xY (yC Tryz.f5 7)) 154 zfW x
def XQ (x:Int×Int×Int×Int×Int×Int×Int×Int×Int×Int×Int×Int×zA×zY×Int×Int×Int×Int×Int×Int×Int×Int×Int×zA×zw×zD×zD×(List (List zE))×(List zm)×zD×zD×(List (List zE))×(List zm)×Unit):Option (yL (Int×Int×Int×Int×Int×Int×Int×Int×Int×Int×Int×Int×zA×zY×Int×Int×Int×Int×Int×Int×Int×Int×Int×zA×zw×zD×zD×(List (List zE))×(List zm)×zD×zD×(List (List zE))×(List zm)×Unit) (Int×Int×Int×Int×Int×Int×Int×Int×Int×Int×Int×zA×zY×Int×Int×Int×Int×Int×Int×Int×Int×Int×zA×zw×zD×zD×(List (List zE))×(List zm)×zD×zD×(List (List zE))×(List zm)×Unit) (Unit)):=yp xY (exec xY (yC Tryz.f5 11)) 154 ze4 x
def XX (x:Int×Int×Int×Int×Int×Int×Int×Int×Int×Int×Int×zA×zY×Int×Int×Int×Int×Int×Int×Int×Int×Int×zA×zD×zD×(List (List zE))×(List zm)×zD×zD×(List (List zE))×(List zm)×Unit):Option (yL (Int×Int×Int×Int×Int×Int×Int×Int×Int×Int×Int×zA×zY×Int×Int×Int×Int×Int×Int×Int×Int×Int×zA×zD×zD×(List (List zE))×(List zm)×zD×zD×(List (List zE))×(List zm)×Unit) (Int×Int×Int×Int×Int×Int×Int×Int×Int×zA×Int×Int×Int×Int×Int×Int×Int×Int×Int×zA×zD×zD×(List (List zE))×(List zm)×zD×zD×(List (List zE))×(List zm)×Unit) (Unit)):=yp xY (exec xY (yC Tryz.f5 17)) 154 ze6 x
def XS (x:Int×Int×Int×Int×Int×Int×Int×Int×Int×Int×Int×Int×zA×zY×Int×Int×Int×Int×Int×Int×Int×Int×Int×zA×zw×zD×zD×(List (List zE))×(List zm)×zD×zD×(List (List zE))×(List zm)×Unit):Option (yL (Int×Int×Int×Int×Int×Int×Int×Int×Int×Int×Int×Int×zA×zY×Int×Int×Int×Int×Int×Int×Int×Int×Int×zA×zw×zD×zD×(List (List zE))×(List zm)×zD×zD×(List (List zE))×(List zm)×Unit) (Int×Int×Int×Int×Int×Int×Int×Int×Int×Int×Int×zA×zY×Int×Int×Int×Int×Int×Int×Int×Int×Int×zA×zw×zD×zD×(List (List zE))×(List zm)×zD×zD×(List (List zE))×(List zm)×Unit) (Unit)):=yp xY (exec xY (yC Tryz.f5 21)) 154 zfn x
def Yh (x:Int×Int×Int×Int×Int×Int×Int×Int×Int×Int×Int×Int×zA×zY×Int×Int×Int×Int×Int×Int×Int×Int×Int×zA×zw×(List zE)×zD×zD×(List (List zE))×(List zm)×zD×zD×(List (List zE))×(List zm)×Unit):Option (yL (Int×Int×Int×Int×Int×Int×Int×Int×Int×Int×Int×Int×zA×zY×Int×Int×Int×Int×Int×Int×Int×Int×Int×zA×zw×(List zE)×zD×zD×(List (List zE))×(List zm)×zD×zD×(List (List zE))×(List zm)×Unit) (Int×Int×Int×Int×Int×Int×Int×Int×Int×Int×Int×zA×zY×Int×Int×Int×Int×Int×Int×Int×Int×Int×zA×zw×(List zE)×zD×zD×(List (List zE))×(List zm)×zD×zD×(List (List zE))×(List zm)×Unit) (Unit)):=yp xY (exec xY (yC Tryz.f5 28)) 154 zfj x
def ze5:z3 E:=lo [1,2,3,7,8] ⟨[.val (.slice (.int .u8)),vI,.ptr 0,.own 1,vI],[.box true (L 3),.row true (.named 1)]⟩ 0 [7] ⟨[.own 0],[.row true (.named 1)]⟩ [] ⟨[],[]⟩ [.one (.slice (.int .u8)),oI,oI,.str 3,.one (.slice (.named 1))] [.one (.slice (.named 1))] []
def zd2:z3 E:=lo [1,2,3,7,8,10,11] ⟨[.val (.slice (.int .u8)),vI,.ptr 0,.own 1,vI,.ptr 2,vI],[.box true (L 3),.row true (.named 1),.box true [vI,vI]]⟩ 2 [1,2,3,7,8] ⟨[.val (.slice (.int .u8)),vI,.ptr 0,.own 1,vI],[.box true (L 3),.row true (.named 1)]⟩ [] ⟨[],[]⟩ [.one (.slice (.int .u8)),oI,oI,oI,.str 3,.one (.slice (.named 1)),.str 1] [.one (.slice (.int .u8)),oI,oI,.str 3,.one (.slice (.named 1))] []
def Yz:Cfg E:=cf [] [(3,ze5),(12,zd2)] [] [] [] []
def zcQ:zL E:=sp Yz Tryz.f7 ⟨[.val (.named 3),.val (.slice (.int .u8)),vI],[]⟩ ⟨[.own 0],[.row true (.named 1)]⟩ [.one (.named 3),.one (.slice (.int .u8)),oI] [.one (.slice (.named 1))]
def Ue (a1:zd) (a2:List (BitVec 8)) (a3:Int):Option ((List zm)×Unit):=zcQ.F (a1,a2,a3,())
def zap (x:(List (BitVec 8))×Int×Int×zd×(List zm)×Unit):Option (yL ((List (BitVec 8))×Int×Int×zd×(List zm)×Unit) ((List zm)×Unit) (Unit)):=yp Yz (exec Yz (yC Tryz.f7 3)) 71 ze5 x
def uC (x:(List (BitVec 8))×Int×Int×Int×zd×(List zm)×zm×Unit):Option (yL ((List (BitVec 8))×Int×Int×Int×zd×(List zm)×zm×Unit) ((List (BitVec 8))×Int×Int×zd×(List zm)×Unit) (Unit)):=yp Yz (exec Yz (yC Tryz.f7 12)) 71 zd2 x
def zcy:z3 E:=lo [5,7,19,20,21] ⟨[vB,.ptr 0,.own 1,vI,vI],[.box true (L 12),.row true (.named 1)]⟩ 0 [5] ⟨[vB],[]⟩ [4] ⟨[vB],[]⟩ [oB,oI,oI,.str 12,.one (.slice (.named 1))] [oB] [oB]
def V5:Cfg E:=cf [(4,[zam]),(5,[zdD]),(6,[ziC]),(7,[zcQ]),(8,[zeA]),(9,[zeo]),(10,[zbF]),(11,[zd7]),(12,[zbH]),(13,[zgD]),(14,[zes]),(15,[zis])] [(7,zcy)] [] [] [] []
def zaw:zL E:=sp V5 Tryz.f3 ⟨[.val (.slice (.int .u8)),.val (.slice (.int .u8))],[]⟩ ⟨[vB],[]⟩ [.one (.slice (.int .u8)),.one (.slice (.int .u8))] [oB]
def Ye (a1:List (BitVec 8)) (a2:List (BitVec 8)):Option (Bool×Unit):=zaw.F (a1,a2,())
def Zf (x:Bool×Int×Int×za×(List zm)×Unit):Option (yL (Bool×Int×Int×za×(List zm)×Unit) (Bool×Unit) (Bool×Unit)):=yp V5 (exec V5 (yC Tryz.f3 7)) 63 zcy x
end
end Go.Pe.G
namespace Go.Pe.G
open Go.Pe
theorem Y7 (a1:zA) (a2:zA):WZ a1 a2 =
 some (decide ((a1&&& ~~~a2)=0#64),()):=zH
theorem zrm (a1:Int) (a2:zt):zmU a1 a2 =
 bif decide (a1<0) then
 some (true,())
 else
 some (decide (((a2.Objs.length:Int))<a1),()):=zH
theorem uH (s1:zw) (s2:Int) (s3:Int) (s4:zt):u7 (s1,s2,s3,s4,()) =
 bif decide (s3<s2) then
 (idx s1 s3).bind fun x1 =>
 (zmU x1 s4).bind fun y2 =>
 bif y2.1 then
  some (.ret (s3,()))
 else
  some (.again (s1,s2,w64 (s3+1),s4,()))
 else
 some (.brk (())):=by kernel_rfl
theorem Vj (a1:zw) (a2:zt):ZH a1 a2 =
 (yf u7 (a1,(a1.length:Int),0,a2,())).bind fun st=>match st with
  | .again _=>none
  | .brk y1 =>
  some (-1,())
  | .ret y1 =>
  some (y1.1,()):=zH
theorem Wn (a1:zw) (a2:zt):wO a1 a2 =
 (ZH a1 a2).bind fun y1 =>
 some (decide (0<=y1.1),()):=zH
theorem ztM (a1:zw) (a2:zt):zpJ a1 a2 =
 bif !(decide (((a1.length:Int))=a2.Slots)) then
 some (true,())
 else
 (wO a1 a2).bind fun y1 =>
 some (y1.1,()):=zH
theorem uG (s1:zD) (s2:Int) (s3:Int) (s4:zt):Za (s1,s2,s3,s4,()) =
 bif decide (s3<s2) then
 (idx s1 s3).bind fun x1 =>
 (zpJ x1 s4).bind fun y2 =>
 bif y2.1 then
  some (.ret (s3,()))
 else
  some (.again (s1,s2,w64 (s3+1),s4,()))
 else
 some (.brk (())):=by kernel_rfl
theorem Vu (a1:zD) (a2:zt):ZF a1 a2 =
 (yf Za (a1,(a1.length:Int),0,a2,())).bind fun st=>match st with
  | .again _=>none
  | .brk y1 =>
  some (-1,())
  | .ret y1 =>
  some (y1.1,()):=zH
theorem Wm (a1:zD) (a2:zt):wP a1 a2 =
 (ZF a1 a2).bind fun y1 =>
 some (decide (0<=y1.1),()):=zH
theorem znY (a1:zt):XK a1 =
 bif decide (1<=a1.Slots) then
 bif decide (a1.Slots<=4) then
  bif decide (((a1.Objs.length:Int))<=64) then
  (wP a1.Objs a1).bind fun y1 =>
  some (!y1.1,())
  else
  some (false,())
 else
  some (false,())
 else
 some (false,()):=zH
theorem zxX (a1:Int):UE a1 =
 bif decide (a1<1) then
 some (0#64,())
 else
 bif decide ((w64 (64-(bif decide (64<a1) then 64 else a1)))<0) then
  none
 else
  some (18446744073709551615#64 >>> min (w64 (64-(bif decide (64<a1) then 64 else a1))).toNat 64,()):=zH
theorem zu3 (a1:Int) (a2:Int) (a3:Int):Zh a1 a2 a3 =
 bif decide (a2<=a1) then
 some (decide (a1<=a3),())
 else
 some (false,()):=zH
theorem zqY (a1:zd):zdR a1 =
 (Zh a1.Workers 1 16).bind fun y1 =>
 bif y1.1 then
 (Zh a1.Mutators 0 16).bind fun y2 =>
 bif y2.1 then
  (Zh a1.Cap 1 16).bind fun y3 =>
  bif y3.1 then
  (Zh a1.Buf 1 8).bind fun y4 =>
  bif y4.1 then
   (Zh a1.Bin 1 8).bind fun y5 =>
   bif y5.1 then
   bif decide (0<=(bif decide (a1.Limit<a1.Price) then a1.Limit else a1.Price)) then
    some (decide ((bif decide (a1.Price<a1.Limit) then a1.Limit else a1.Price)<=1000000),())
   else
    some (false,())
   else
   some (false,())
  else
   some (false,())
  else
  some (false,())
 else
  some (false,())
 else
 some (false,()):=zH
theorem ztx (a1:Int) (a2:Int):zpA a1 a2 =
 (Zh a1 0 a2).bind fun y1 =>
 some (!y1.1,()):=zH
theorem uT (s1:zw) (s2:Int) (s3:Int) (s4:Int):Zv (s1,s2,s3,s4,()) =
 bif decide (s3<s2) then
 (idx s1 s3).bind fun x1 =>
 (zpA x1 s4).bind fun y2 =>
 bif y2.1 then
  some (.ret (s3,()))
 else
  some (.again (s1,s2,w64 (s3+1),s4,()))
 else
 some (.brk (())):=by kernel_rfl
theorem V7 (a1:zw) (a2:Int):Z4 a1 a2 =
 (yf Zv (a1,(a1.length:Int),0,a2,())).bind fun st=>match st with
  | .again _=>none
  | .brk y1 =>
  some (-1,())
  | .ret y1 =>
  some (y1.1,()):=zH
theorem W4 (a1:zw) (a2:Int):vg a1 a2 =
 (Z4 a1 a2).bind fun y1 =>
 some (decide (0<=y1.1),()):=zH
theorem zts (a1:Int) (a2:Int):yu a1 a2 =
 bif decide (0<=a1) then
 some (decide (a1<(bif decide (4<a2) then 4 else a2)),())
 else
 some (false,()):=zH
theorem zwv (a1:zE) (a2:Int) (a3:Int):zmq a1 a2 a3 =
 bif decide (0<=a1.S) then
 bif decide (a1.Kind=1) then
  bif decide (a1.Kind=1) then
  (yu a1.R a2).bind fun y1 =>
  bif y1.1 then
   (yu a1.A a2).bind fun y2 =>
   bif y2.1 then
   some (decide (a1.S<(bif decide (4<a3) then 4 else a3)),())
   else
   some (false,())
  else
   some (false,())
  else
  bif decide (a1.Kind=4) then
   (yu a1.R a2).bind fun y3 =>
   bif y3.1 then
   (yu a1.A a2).bind fun y4 =>
   bif y4.1 then
    some (decide (a1.S=0),())
   else
    some (false,())
   else
   some (false,())
  else
   bif decide (a1.Kind=3) then
   bif decide (a1.Kind=3) then
    (yu a1.R a2).bind fun y5 =>
    bif y5.1 then
    bif decide (a1.A=0) then
     some (decide (a1.S=0),())
    else
     some (false,())
    else
    some (false,())
   else
    some (false,())
   else
   bif decide (a1.Kind=5) then
    (yu a1.R a2).bind fun y6 =>
    bif y6.1 then
    bif decide (a1.A=0) then
     some (decide (a1.S=0),())
    else
     some (false,())
    else
    some (false,())
   else
    some (false,())
 else
  bif decide (a1.Kind=2) then
  (yu a1.R a2).bind fun y7 =>
  bif y7.1 then
   (yu a1.A a2).bind fun y8 =>
   bif y8.1 then
   some (decide (a1.S<(bif decide (4<a3) then 4 else a3)),())
   else
   some (false,())
  else
   some (false,())
  else
  bif decide (a1.Kind=4) then
   (yu a1.R a2).bind fun y9 =>
   bif y9.1 then
   (yu a1.A a2).bind fun y10 =>
   bif y10.1 then
    some (decide (a1.S=0),())
   else
    some (false,())
   else
   some (false,())
  else
   bif decide (a1.Kind=3) then
   bif decide (a1.Kind=3) then
    (yu a1.R a2).bind fun y11 =>
    bif y11.1 then
    bif decide (a1.A=0) then
     some (decide (a1.S=0),())
    else
     some (false,())
    else
    some (false,())
   else
    some (false,())
   else
   bif decide (a1.Kind=5) then
    (yu a1.R a2).bind fun y12 =>
    bif y12.1 then
    bif decide (a1.A=0) then
     some (decide (a1.S=0),())
    else
     some (false,())
    else
    some (false,())
   else
    some (false,())
 else
 bif decide (a1.Kind=1) then
  bif decide (a1.Kind=1) then
  (yu a1.R a2).bind fun y13 =>
  bif y13.1 then
   (yu a1.A a2).bind fun y14 =>
   bif y14.1 then
   some (false,())
   else
   some (false,())
  else
   some (false,())
  else
  bif decide (a1.Kind=4) then
   (yu a1.R a2).bind fun y15 =>
   bif y15.1 then
   (yu a1.A a2).bind fun y16 =>
   bif y16.1 then
    some (decide (a1.S=0),())
   else
    some (false,())
   else
   some (false,())
  else
   bif decide (a1.Kind=3) then
   bif decide (a1.Kind=3) then
    (yu a1.R a2).bind fun y17 =>
    bif y17.1 then
    bif decide (a1.A=0) then
     some (decide (a1.S=0),())
    else
     some (false,())
    else
    some (false,())
   else
    some (false,())
   else
   bif decide (a1.Kind=5) then
    (yu a1.R a2).bind fun y18 =>
    bif y18.1 then
    bif decide (a1.A=0) then
     some (decide (a1.S=0),())
    else
     some (false,())
    else
    some (false,())
   else
    some (false,())
 else
  bif decide (a1.Kind=2) then
  (yu a1.R a2).bind fun y19 =>
  bif y19.1 then
   (yu a1.A a2).bind fun y20 =>
   bif y20.1 then
   some (false,())
   else
   some (false,())
  else
   some (false,())
  else
  bif decide (a1.Kind=4) then
   (yu a1.R a2).bind fun y21 =>
   bif y21.1 then
   (yu a1.A a2).bind fun y22 =>
   bif y22.1 then
    some (decide (a1.S=0),())
   else
    some (false,())
   else
   some (false,())
  else
   bif decide (a1.Kind=3) then
   bif decide (a1.Kind=3) then
    (yu a1.R a2).bind fun y23 =>
    bif y23.1 then
    bif decide (a1.A=0) then
     some (decide (a1.S=0),())
    else
     some (false,())
    else
    some (false,())
   else
    some (false,())
   else
   bif decide (a1.Kind=5) then
    (yu a1.R a2).bind fun y24 =>
    bif y24.1 then
    bif decide (a1.A=0) then
     some (decide (a1.S=0),())
    else
     some (false,())
    else
    some (false,())
   else
    some (false,()):=zH
theorem zul (a1:zE) (a2:Int) (a3:Int):zq9 a1 a2 a3 =
 (zmq a1 a2 a3).bind fun y1 =>
 some (!y1.1,()):=zH
theorem vK (s1:List zE) (s2:Int) (s3:Int) (s4:Int) (s5:Int):uk (s1,s2,s3,s4,s5,()) =
 bif decide (s3<s2) then
 (idx s1 s3).bind fun x1 =>
 (zq9 x1 s4 s5).bind fun y2 =>
 bif y2.1 then
  some (.ret (s3,()))
 else
  some (.again (s1,s2,w64 (s3+1),s4,s5,()))
 else
 some (.brk (())):=by kernel_rfl
theorem XO (a1:List zE) (a2:Int) (a3:Int):uL a1 a2 a3 =
 (yf uk (a1,(a1.length:Int),0,a2,a3,())).bind fun st=>match st with
  | .again _=>none
  | .brk y1 =>
  some (-1,())
  | .ret y1 =>
  some (y1.1,()):=zH
theorem Y9 (a1:List zE) (a2:Int) (a3:Int):uj a1 a2 a3 =
 (uL a1 a2 a3).bind fun y1 =>
 some (decide (0<=y1.1),()):=zH
theorem zxM (a1:List zE) (a2:Int) (a3:Int):zoX a1 a2 a3 =
 bif decide (((a1.length:Int))<=64) then
 (uj a1 a2 a3).bind fun y1 =>
 some (!y1.1,())
 else
 some (false,()):=zH
theorem zwB (a1:zm):zsj a1 =
 bif decide (a1.Kind=0) then
 some (decide (a1.N=0),())
 else
 bif decide (a1.Kind=1) then
  bif decide (1<=a1.N) then
  some (decide (a1.N<=16),())
  else
  some (false,())
 else
  bif decide (a1.Kind=2) then
  bif decide (1<=a1.N) then
   some (decide (a1.N<=16),())
  else
   some (false,())
  else
  some (false,()):=zH
theorem Yy (s1:List zm) (s2:Int) (s3:Int) (s4:Int) (s5:Int):vC (s1,s2,s3,s4,s5,()) =
 bif decide (s3<s2) then
 (idx s1 s3).bind fun x1 =>
 (zyu x1 s4 s5).bind fun y2 =>
 bif y2.1 then
  some (.ret (s3,()))
 else
  some (.again (s1,s2,w64 (s3+1),s4,s5,()))
 else
 some (.brk (())):=by kernel_rfl
theorem YW (a1:List zm) (a2:Int) (a3:Int):vT a1 a2 a3 =
 (yf vC (a1,(a1.length:Int),0,a2,a3,())).bind fun st=>match st with
  | .again _=>none
  | .brk y1 =>
  some (-1,())
  | .ret y1 =>
  some (y1.1,()):=zH
theorem Yx (a1:List zm) (a2:Int) (a3:Int):vA a1 a2 a3 =
 (vT a1 a2 a3).bind fun y1 =>
 some (decide (0<=y1.1),()):=zH
theorem zxb (a1:List zm) (a2:Int) (a3:Int):zmc a1 a2 a3 =
 (vA a1 a2 a3).bind fun y1 =>
 some (!y1.1,()):=zH
theorem ziK (s1:zD) (s2:Int) (s3:Int) (s4:zd) (s5:Int):znQ (s1,s2,s3,s4,s5,()) =
 bif decide (s3<s2) then
 (idx s1 s3).bind fun x1 =>
 (Zh ((x1.length:Int)) 1 4).bind fun y2 =>
 bif !y2.1 then
  some (.ret (false,()))
 else
  (vg x1 s5).bind fun y3 =>
  bif y3.1 then
  some (.ret (false,()))
  else
  (idx s4.Progs s3).bind fun x4 =>
  (zoX x4 ((x1.length:Int)) s4.H.Slots).bind fun y5 =>
  bif !y5.1 then
   some (.ret (false,()))
  else
   some (.again (s1,s2,w64 (s3+1),s4,s5,()))
 else
 some (.brk (s4,())):=by kernel_rfl
theorem zvJ (a1:zd):zlP a1 =
 (zdR a1).bind fun y1 =>
 bif !y1.1 then
 some (false,())
 else
 (XK a1.H).bind fun y2 =>
 bif !y2.1 then
  some (false,())
 else
  (Zh a1.Most ((a1.H.Objs.length:Int)) 64).bind fun y3 =>
  bif !y3.1 then
  some (false,())
  else
  (UE ((a1.H.Objs.length:Int))).bind fun y4 =>
  (WZ a1.Roots y4.1).bind fun y5 =>
  bif !y5.1 then
   some (false,())
  else
   bif !(decide (((a1.Regs.length:Int))=a1.Mutators)) then
   some (false,())
   else
   bif !(decide (((a1.Progs.length:Int))=a1.Mutators)) then
    some (false,())
   else
    (yf znQ (a1.Regs,(a1.Regs.length:Int),0,a1,(a1.H.Objs.length:Int),())).bind fun st=>match st with
     | .again _=>none
     | .brk y6 =>
     bif decide (((y6.1.Picks.length:Int))<=100000) then
     (zmc y6.1.Picks y6.1.Workers y6.1.Mutators).bind fun y7 =>
     some (y7.1,())
     else
     some (false,())
     | .ret y6 =>
     some (y6.1,()):=zH
theorem zBh (a1:Int):zn6 a1 =
 bif decide (a1<1) then
 some (0#64,())
 else
 bif decide (64<a1) then
  some (0#64,())
 else
  bif decide ((w64 (a1-1))<0) then
  none
  else
  some (1#64 <<< min (w64 (a1-1)).toNat 64,()):=zH
theorem zA8 (a1:zA) (a2:Int):YS a1 a2 =
 (zn6 a2).bind fun y1 =>
 some (a1|||y1.1,()):=zH
theorem zyC (s1:zA) (s2:zw) (s3:Int) (s4:Int):zoh (s1,s2,s3,s4,()) =
 bif decide (s4<s3) then
 (idx s2 s4).bind fun x1 =>
 (YS s1 x1).bind fun y2 =>
 some (.again (y2.1,s2,s3,w64 (s4+1),()))
 else
 some (.brk (s1,())):=by kernel_rfl
theorem zCN (a1:zw):zhF a1 =
 (yf zoh (0#64,a1,(a1.length:Int),0,())).bind fun st=>match st with
  | .again _=>none
  | .brk y1 =>
  some (y1.1,())
  | .ret y1 =>
  none:=zH
theorem zr7 (s1:zA) (s2:zD) (s3:Int) (s4:Int):zgl (s1,s2,s3,s4,()) =
 bif decide (s4<s3) then
 (idx s2 s4).bind fun x1 =>
 (zhF x1).bind fun y2 =>
 some (.again (s1|||y2.1,s2,s3,w64 (s4+1),()))
 else
 some (.brk (s1,())):=by kernel_rfl
theorem zwY (a1:zd):zf2 a1 =
 (yf zgl (a1.Roots,a1.Regs,(a1.Regs.length:Int),0,())).bind fun st=>match st with
  | .again _=>none
  | .brk y1 =>
  some (y1.1,())
  | .ret y1 =>
  none:=zH
theorem zpg (a1:zA):ziV a1 =
 some (zD4 (((((((((((((a1 >>> 1)&&&6148914691236517205#64)+(a1&&&6148914691236517205#64)) >>> 2)&&&3689348814741910323#64)+((((a1 >>> 1)&&&6148914691236517205#64)+(a1&&&6148914691236517205#64))&&&3689348814741910323#64)) >>> 4)+((((((a1 >>> 1)&&&6148914691236517205#64)+(a1&&&6148914691236517205#64)) >>> 2)&&&3689348814741910323#64)+((((a1 >>> 1)&&&6148914691236517205#64)+(a1&&&6148914691236517205#64))&&&3689348814741910323#64)))&&&1085102592571150095#64)+((((((((((a1 >>> 1)&&&6148914691236517205#64)+(a1&&&6148914691236517205#64)) >>> 2)&&&3689348814741910323#64)+((((a1 >>> 1)&&&6148914691236517205#64)+(a1&&&6148914691236517205#64))&&&3689348814741910323#64)) >>> 4)+((((((a1 >>> 1)&&&6148914691236517205#64)+(a1&&&6148914691236517205#64)) >>> 2)&&&3689348814741910323#64)+((((a1 >>> 1)&&&6148914691236517205#64)+(a1&&&6148914691236517205#64))&&&3689348814741910323#64)))&&&1085102592571150095#64) >>> 8))+(((((((((((a1 >>> 1)&&&6148914691236517205#64)+(a1&&&6148914691236517205#64)) >>> 2)&&&3689348814741910323#64)+((((a1 >>> 1)&&&6148914691236517205#64)+(a1&&&6148914691236517205#64))&&&3689348814741910323#64)) >>> 4)+((((((a1 >>> 1)&&&6148914691236517205#64)+(a1&&&6148914691236517205#64)) >>> 2)&&&3689348814741910323#64)+((((a1 >>> 1)&&&6148914691236517205#64)+(a1&&&6148914691236517205#64))&&&3689348814741910323#64)))&&&1085102592571150095#64)+((((((((((a1 >>> 1)&&&6148914691236517205#64)+(a1&&&6148914691236517205#64)) >>> 2)&&&3689348814741910323#64)+((((a1 >>> 1)&&&6148914691236517205#64)+(a1&&&6148914691236517205#64))&&&3689348814741910323#64)) >>> 4)+((((((a1 >>> 1)&&&6148914691236517205#64)+(a1&&&6148914691236517205#64)) >>> 2)&&&3689348814741910323#64)+((((a1 >>> 1)&&&6148914691236517205#64)+(a1&&&6148914691236517205#64))&&&3689348814741910323#64)))&&&1085102592571150095#64) >>> 8)) >>> 16))+((((((((((((a1 >>> 1)&&&6148914691236517205#64)+(a1&&&6148914691236517205#64)) >>> 2)&&&3689348814741910323#64)+((((a1 >>> 1)&&&6148914691236517205#64)+(a1&&&6148914691236517205#64))&&&3689348814741910323#64)) >>> 4)+((((((a1 >>> 1)&&&6148914691236517205#64)+(a1&&&6148914691236517205#64)) >>> 2)&&&3689348814741910323#64)+((((a1 >>> 1)&&&6148914691236517205#64)+(a1&&&6148914691236517205#64))&&&3689348814741910323#64)))&&&1085102592571150095#64)+((((((((((a1 >>> 1)&&&6148914691236517205#64)+(a1&&&6148914691236517205#64)) >>> 2)&&&3689348814741910323#64)+((((a1 >>> 1)&&&6148914691236517205#64)+(a1&&&6148914691236517205#64))&&&3689348814741910323#64)) >>> 4)+((((((a1 >>> 1)&&&6148914691236517205#64)+(a1&&&6148914691236517205#64)) >>> 2)&&&3689348814741910323#64)+((((a1 >>> 1)&&&6148914691236517205#64)+(a1&&&6148914691236517205#64))&&&3689348814741910323#64)))&&&1085102592571150095#64) >>> 8))+(((((((((((a1 >>> 1)&&&6148914691236517205#64)+(a1&&&6148914691236517205#64)) >>> 2)&&&3689348814741910323#64)+((((a1 >>> 1)&&&6148914691236517205#64)+(a1&&&6148914691236517205#64))&&&3689348814741910323#64)) >>> 4)+((((((a1 >>> 1)&&&6148914691236517205#64)+(a1&&&6148914691236517205#64)) >>> 2)&&&3689348814741910323#64)+((((a1 >>> 1)&&&6148914691236517205#64)+(a1&&&6148914691236517205#64))&&&3689348814741910323#64)))&&&1085102592571150095#64)+((((((((((a1 >>> 1)&&&6148914691236517205#64)+(a1&&&6148914691236517205#64)) >>> 2)&&&3689348814741910323#64)+((((a1 >>> 1)&&&6148914691236517205#64)+(a1&&&6148914691236517205#64))&&&3689348814741910323#64)) >>> 4)+((((((a1 >>> 1)&&&6148914691236517205#64)+(a1&&&6148914691236517205#64)) >>> 2)&&&3689348814741910323#64)+((((a1 >>> 1)&&&6148914691236517205#64)+(a1&&&6148914691236517205#64))&&&3689348814741910323#64)))&&&1085102592571150095#64) >>> 8)) >>> 16)) >>> 32)).toInt) 127,()):=zH
theorem zya (a1:zA):zbR a1 =
 (ziV a1).bind fun y1 =>
 some (y1.1,()):=zH
theorem zwo (a1:Int):zmV a1 =
 bif decide ((bif decide ((bif decide (16<a1) then 16 else a1)<0) then 0 else (bif decide (16<a1) then 16 else a1))=(bif decide ((bif decide (16<a1) then 16 else a1)<0) then 0 else (bif decide (16<a1) then 16 else a1))) then
 (VE (bif decide ((bif decide (16<a1) then 16 else a1)<0) then 0 else (bif decide (16<a1) then 16 else a1))).bind fun n1 =>
 some (zy.mk 0 0 0 (List.replicate n1 ((0:Int))),())
 else
 none:=zH
theorem zjE (a1:zw):xj a1 =
 bif a1.isEmpty then
 zmS (
  some (([]:zw),())) (
  (yD (([]:zw)++a1)).bind fun l1 =>
  some (l1,()))
 else
 (yD (([]:zw)++a1)).bind fun l2 =>
 some (l2,()):=zH
theorem Vq (s1:Int) (s2:Int) (s3:zD):xn (s1,s2,s3,()) =
 bif decide (s2<s1) then
 (wj s3 s2).bind fun n1 =>
 (s3[n1]?).bind fun x2 =>
 (xj x2).bind fun y3 =>
 (wj s3 s2).bind fun n4 =>
 some (.again (s1,w64 (s2+1),s3.set n4 y3.1,()))
 else
 some (.brk (s3,())):=by kernel_rfl
theorem Ur (a1:zD):vP a1 =
 bif decide (((a1.length:Int))=((a1.length:Int))) then
 (VE ((a1.length:Int))).bind fun n1 =>
 bif decide (a1.length=((List.replicate n1 ([]:zw)).length)) then
  bif a1.isEmpty then
  (yf xn (((List.replicate n1 ([]:zw)).length:Int),0,List.replicate n1 ([]:zw),())).bind fun st=>match st with
   | .again _=>none
   | .brk y2 =>
   some (y2.1,())
   | .ret y2 =>
   none
  else
  (yf xn ((a1.length:Int),0,a1,())).bind fun st=>match st with
   | .again _=>none
   | .brk y3 =>
   some (y3.1,())
   | .ret y3 =>
   none
 else
  none
 else
 none:=zH
theorem zuQ (a1:Int):zj1 a1 =
 bif decide ((w64 (2+(bif decide (64<(bif decide (a1<1) then 1 else a1)) then 64 else (bif decide (a1<1) then 1 else a1))))=(w64 (2+(bif decide (64<(bif decide (a1<1) then 1 else a1)) then 64 else (bif decide (a1<1) then 1 else a1))))) then
 (VE (w64 (2+(bif decide (64<(bif decide (a1<1) then 1 else a1)) then 64 else (bif decide (a1<1) then 1 else a1))))).bind fun n1 =>
 (wj (List.replicate n1 0#64) 0).bind fun n2 =>
 (wj ((List.replicate n1 0#64).set n2 1#64) 1).bind fun n3 =>
 some (((List.replicate n1 0#64).set n2 1#64).set n3 1#64,())
 else
 none:=zH
theorem zbf (a1:Int) (a2:Int) (a3:Int) (a4:Int):zeB a1 a2 a3 a4 =
 some (zg.mk a1 0 a2 a3 0#64 0#64 a4 0,()):=zH
theorem zvs (a1:zd) (a2:Int):xL a1 a2 =
 some (w64 ((w64 (a2-1))*(w64 (a1.Cap+2))),()):=zH
theorem zyx (a1:zd):zit a1 =
 some (w64 ((w64 (a1.Most+a1.Workers))+a1.Mutators),()):=zH
theorem zjC (a1:zw) (a2:Int):zdy a1 a2 =
 bif decide (a2<1) then
 none
 else
 some (a1,a2,()):=zH
theorem zrh (a1:zA):zvy a1 =
 some (a1,()):=zH
theorem zuA (y:Int) (s1:zw):zjL y (s1,()) =
 (yD (s1++([y]:zw))).bind fun l1 =>
 some (l1,()):=by kernel_rfl
theorem zri (a1:zA):zf7 a1 =
 (zvy a1).bind fun y1 =>
 (zlA y1.1).bind fun (ys2:zw) =>
 (Z3 zjL ys2 (([]:zw),())).bind fun (y3:zw×Unit) =>
 some (y3.1,()):=zH
theorem zzP (a1:zA):zvR a1 =
 some (a1,true,()):=zH
theorem zAc (a1:zA) (a2:YP):zwV a1 a2 =
 some (a2.A,true,()):=zH
theorem zzS (a1:zA) (a2:YP):zvF a1 a2 =
 some (a2.B,decide (a1=a2.A),()):=zH
theorem zeP (a1:List zA):wA a1 =
 bif a1.isEmpty then
 zmS (
  some (([]:List zA),())) (
  (yD ((([]:List zA))++a1)).bind fun l1 =>
  some (l1,()))
 else
 (yD ((([]:List zA))++a1)).bind fun l2 =>
 some (l2,()):=zH
theorem zoY (a1:List zA) (a2:YP):Wg a1 a2 =
 bif decide (a2.Kind=1) then
 bif decide (a2.At<0) then
  some (a1,0#64,false,())
 else
  bif decide (((a1.length:Int))<=a2.At) then
  some (a1,0#64,false,())
  else
  (idx a1 a2.At).bind fun x1 =>
  (zvR x1).bind fun y2 =>
  bif y2.2.1 then
   bif !(decide (x1=y2.1)) then
   (wA a1).bind fun y3 =>
   (wj y3.1 a2.At).bind fun n4 =>
   some (y3.1.set n4 y2.1,x1,y2.2.1,())
   else
   some (a1,x1,y2.2.1,())
  else
   some (a1,x1,y2.2.1,())
 else
 bif decide (a2.Kind=2) then
  bif decide (a2.At<0) then
  some (a1,0#64,false,())
  else
  bif decide (((a1.length:Int))<=a2.At) then
   some (a1,0#64,false,())
  else
   (idx a1 a2.At).bind fun x5 =>
   (zwV x5 a2).bind fun y6 =>
   bif y6.2.1 then
   bif !(decide (x5=y6.1)) then
    (wA a1).bind fun y7 =>
    (wj y7.1 a2.At).bind fun n8 =>
    some (y7.1.set n8 y6.1,x5,y6.2.1,())
   else
    some (a1,x5,y6.2.1,())
   else
   some (a1,x5,y6.2.1,())
 else
  bif decide (a2.Kind=3) then
  bif decide (a2.At<0) then
   some (a1,0#64,false,())
  else
   bif decide (((a1.length:Int))<=a2.At) then
   some (a1,0#64,false,())
   else
   (idx a1 a2.At).bind fun x9 =>
   (zvF x9 a2).bind fun y10 =>
   bif y10.2.1 then
    bif !(decide (x9=y10.1)) then
    (wA a1).bind fun y11 =>
    (wj y11.1 a2.At).bind fun n12 =>
    some (y11.1.set n12 y10.1,x9,y10.2.1,())
    else
    some (a1,x9,y10.2.1,())
   else
    some (a1,x9,y10.2.1,())
  else
  bif decide (a2.Kind=4) then
   bif decide (a2.At<0) then
   some (a1,0#64,false,())
   else
   bif decide (((a1.length:Int))<=a2.At) then
    some (a1,0#64,false,())
   else
    (idx a1 a2.At).bind fun x13 =>
    (zD3 x13 a2).bind fun y14 =>
    bif y14.2.1 then
    bif !(decide (x13=y14.1)) then
     (wA a1).bind fun y15 =>
     (wj y15.1 a2.At).bind fun n16 =>
     some (y15.1.set n16 y14.1,x13,y14.2.1,())
    else
     some (a1,x13,y14.2.1,())
    else
    some (a1,x13,y14.2.1,())
  else
   bif decide (a2.At<0) then
   some (a1,0#64,false,())
   else
   bif decide (((a1.length:Int))<=a2.At) then
    some (a1,0#64,false,())
   else
    some (a1,0#64,false,()):=zH
theorem zuu (a1:List zA) (a2:Int) (a3:zA):X7 a1 a2 a3 =
 (Wg a1 (YP.mk 2 a2 a3 0#64)).bind fun y1 =>
 some (y1.1,()):=zH
theorem zvP (a1:zA) (a2:Int):zaQ a1 a2 =
 some ((a1 <<< 32)|||((BitVec.ofInt 64 a2)&&&4294967295#64),()):=zH
theorem zkr (s1:List zA) (s2:Int) (s3:Int) (s4:zw) (s5:Int) (s6:Int):zhr (s1,s2,s3,s4,s5,s6,()) =
 bif decide (s6<s5) then
 bif decide ((w64 (s6+1))<((s4.length:Int))) then
  (idx s4 (w64 (s6+1))).bind fun x1 =>
  (idx s4 s6).bind fun x2 =>
  (X7 s1 (w64 (s3+x2)) (BitVec.ofInt 64 x1)).bind fun y3 =>
  some (.again (y3.1,s2,s3,s4,s5,w64 (s6+1),()))
 else
  (idx s4 s6).bind fun x4 =>
  (X7 s1 (w64 (s3+x4)) 0#64).bind fun y5 =>
  some (.again (y5.1,s2,s3,s4,s5,w64 (s6+1),()))
 else
 some (.brk (s1,s2,s4,())):=by kernel_rfl
theorem zxV (a1:List zA) (a2:Int) (a3:Int) (a4:zw):zif a1 a2 a3 a4 =
 (yf zhr (a1,a2,a3,a4,(a4.length:Int),0,())).bind fun st=>match st with
  | .again _=>none
  | .brk y1 =>
  bif decide (0<((y1.2.2.1.length:Int))) then
  (idx y1.2.2.1 0).bind fun x2 =>
  (zaQ 0#64 x2).bind fun y3 =>
  (X7 y1.1 y1.2.1 y3.1).bind fun y4 =>
  some (y4.1,())
  else
  (zaQ 0#64 0).bind fun y5 =>
  (X7 y1.1 y1.2.1 y5.1).bind fun y6 =>
  some (y6.1,())
  | .ret y1 =>
  none:=zH
theorem zxd (a1:zd):Xw a1 =
 some (w64 (a1.Workers*(w64 (a1.Cap+2))),()):=zH
theorem zuS (a1:zd):Wf a1 =
 (Xw a1).bind fun y1 =>
 some (w64 (y1.1+1),()):=zH
theorem zw5 (a1:zd):YG a1 =
 (Wf a1).bind fun y1 =>
 some (y1.1,()):=zH
end Go.Pe.G
namespace Go.Pe.G
open Go.Pe
theorem ztD (s1:zA) (s2:Int) (s3:Int) (s4:zd) (s5:Int) (s6:Int) (s7:Int) (s8:Int) (s9:Int) (s10:Int) (s11:Int) (s12:Int) (s13:Int) (s14:zA) (s15:Int) (s16:zx) (s17:Int) (s18:Int) (s19:Bool) (s20:Bool) (s21:Int) (s22:Int) (s23:Int) (s24:Int) (s25:zO) (s26:zd) (s27:Int) (s28:zx) (s29:Int) (s30:Int) (s31:Bool) (s32:Bool) (s33:Int) (s34:zy) (s35:zO) (s36:zD) (s37:zD) (s38:List (List zE)) (s39:List zm) (s40:zD) (s41:List zA) (s42:zD) (s43:zw) (s44:zw) (s45:List zi) (s46:List ze) (s47:zD) (s48:List zA) (s49:zD) (s50:zw) (s51:List zi) (s52:List ze):zdo (s1,s2,s3,s4,s5,s6,s7,s8,s9,s10,s11,s12,s13,s14,s15,s16,s17,s18,s19,s20,s21,s22,s23,s24,s25,s26,s27,s28,s29,s30,s31,s32,s33,s34,s35,s36,s37,s38,s39,s40,s41,s42,s43,s44,s45,s46,s47,s48,s49,s50,s51,s52,()) =
 bif decide (s3<s2) then
 (zj1 s4.Cap).bind fun y1 =>
 (yD (s48++y1.1)).bind fun l2 =>
 (xL s4 (w64 (s3+1))).bind fun y3 =>
 (zeB 2 y3.1 s4.Cap 0).bind fun y4 =>
 (yD (s51++(([(zi.mk 0 0 0 (w64 (s3+1)) 0 (([]:zw)) y4.1 (zU.mk 0 0 0 0 0#64 0 0 0) (zI.mk 0 0 0 0 (zg.mk 0 0 0 0 0#64 0#64 0 0) (zU.mk 0 0 0 0 0#64 0 0 0) 0 0))]:List zi)))).bind fun l5 =>
 some (.again (s1,s2,w64 (s3+1),s4,s5,s6,s7,s8,s9,s10,s11,s12,s13,s14,s15,s16,s17,s18,s19,s20,s21,s22,s23,s24,s25,s26,s27,s28,s29,s30,s31,s32,s33,s34,s35,s36,s37,s38,s39,s40,s41,s42,s43,s44,s45,s46,s47,l2,s49,s50,l5,s52,()))
 else
 some (.brk (s1,s4,s5,s6,s7,s8,s9,s10,s11,s12,s13,s14,s15,s16,s17,s18,s19,s20,s21,s22,s23,s24,s25,s26,s27,s28,s29,s30,s31,s32,s33,s34,s35,s36,s37,s38,s39,s40,s41,s42,s43,s44,s45,s46,s47,s48,s49,s50,s51,s52,())):=by kernel_rfl
theorem zso (s1:zA) (s2:Int) (s3:Int) (s4:zd) (s5:Int) (s6:Int) (s7:Int) (s8:Int) (s9:Int) (s10:Int) (s11:Int) (s12:Int) (s13:Int) (s14:zA) (s15:Int) (s16:zx) (s17:Int) (s18:Int) (s19:Bool) (s20:Bool) (s21:Int) (s22:Int) (s23:Int) (s24:Int) (s25:zO) (s26:zd) (s27:Int) (s28:zx) (s29:Int) (s30:Int) (s31:Bool) (s32:Bool) (s33:Int) (s34:zy) (s35:zO) (s36:zw) (s37:zD) (s38:zD) (s39:List (List zE)) (s40:List zm) (s41:zD) (s42:List zA) (s43:zD) (s44:zw) (s45:zw) (s46:List zi) (s47:List ze) (s48:zD) (s49:List zA) (s50:zD) (s51:zw) (s52:List zi) (s53:List ze):zcn (s1,s2,s3,s4,s5,s6,s7,s8,s9,s10,s11,s12,s13,s14,s15,s16,s17,s18,s19,s20,s21,s22,s23,s24,s25,s26,s27,s28,s29,s30,s31,s32,s33,s34,s35,s36,s37,s38,s39,s40,s41,s42,s43,s44,s45,s46,s47,s48,s49,s50,s51,s52,s53,()) =
 bif decide (s3<s2) then
 (yD (s36++(([(w64 (s3+1))]:zw)))).bind fun l1 =>
 some (.again (s1,s2,w64 (s3+1),s4,s5,s6,s7,s8,s9,s10,s11,s12,s13,s14,s15,s16,s17,s18,s19,s20,s21,s22,s23,s24,s25,s26,s27,s28,s29,s30,s31,s32,s33,s34,s35,l1,s37,s38,s39,s40,s41,s42,s43,s44,s45,s46,s47,s48,s49,s50,s51,s52,s53,()))
 else
 some (.brk (s1,s4,s5,s6,s7,s8,s9,s10,s11,s12,s13,s14,s15,s16,s17,s18,s19,s20,s21,s22,s23,s24,s25,s26,s27,s28,s29,s30,s31,s32,s33,s34,s35,s36,s37,s38,s39,s40,s41,s42,s43,s44,s45,s46,s47,s48,s49,s50,s51,s52,s53,())):=by kernel_rfl
theorem zr0 (y:zw) (s1:zd) (s2:Int) (s3:Int) (s4:Int) (s5:Int) (s6:Int) (s7:Int) (s8:Int) (s9:Int) (s10:Int) (s11:zA) (s12:Int) (s13:zx) (s14:Int) (s15:Int) (s16:Bool) (s17:Bool) (s18:Int) (s19:Int) (s20:Int) (s21:Int) (s22:zO) (s23:zd) (s24:Int) (s25:zx) (s26:Int) (s27:Int) (s28:Bool) (s29:Bool) (s30:Int) (s31:zy) (s32:zO) (s33:zw) (s34:zD) (s35:zD) (s36:List (List zE)) (s37:List zm) (s38:zD) (s39:List zA) (s40:zD) (s41:zw) (s42:zw) (s43:List zi) (s44:List ze) (s45:zD) (s46:List zA) (s47:zD) (s48:zw) (s49:List zi) (s50:List ze):zfD y (s1,s2,s3,s4,s5,s6,s7,s8,s9,s10,s11,s12,s13,s14,s15,s16,s17,s18,s19,s20,s21,s22,s23,s24,s25,s26,s27,s28,s29,s30,s31,s32,s33,s34,s35,s36,s37,s38,s39,s40,s41,s42,s43,s44,s45,s46,s47,s48,s49,s50,()) =
 (xj y).bind fun y1 =>
 (yD (s47++(([y1.1]:zD)))).bind fun l2 =>
 some (s1,s2,s3,s4,s5,s6,s7,s8,s9,s10,s11,s12,s13,s14,s15,s16,s17,s18,s19,s20,s21,s22,s23,s24,s25,s26,s27,s28,s29,s30,s31,s32,s33,s34,s35,s36,s37,s38,s39,s40,s41,s42,s43,s44,s45,s46,l2,s48,s49,s50,()):=by kernel_rfl
theorem zsL (s1:zD) (s2:Int) (s3:Int) (s4:Int) (s5:Int) (s6:Int) (s7:Int) (s8:Int) (s9:Int) (s10:Int) (s11:Int) (s12:Int) (s13:zA) (s14:Int) (s15:zx) (s16:Int) (s17:Int) (s18:Bool) (s19:Bool) (s20:Int) (s21:Int) (s22:Int) (s23:Int) (s24:zO) (s25:zd) (s26:Int) (s27:List zA) (s28:zx) (s29:Int) (s30:Int) (s31:Bool) (s32:Bool) (s33:Int) (s34:zy) (s35:zO) (s36:zD) (s37:zD) (s38:List (List zE)) (s39:List zm) (s40:zD) (s41:List zA) (s42:zD) (s43:zw) (s44:zw) (s45:List zi) (s46:List ze) (s47:zD) (s48:zD) (s49:zw) (s50:List zi) (s51:List ze):zcr (s1,s2,s3,s4,s5,s6,s7,s8,s9,s10,s11,s12,s13,s14,s15,s16,s17,s18,s19,s20,s21,s22,s23,s24,s25,s26,s27,s28,s29,s30,s31,s32,s33,s34,s35,s36,s37,s38,s39,s40,s41,s42,s43,s44,s45,s46,s47,s48,s49,s50,s51,()) =
 bif decide (s3<s2) then
 (idx s1 s3).bind fun x1 =>
 (xj x1).bind fun y2 =>
 (yD (s51++(([(ze.mk 0 0 0 0 0 0 0 0 y2.1 (([]:zw)) (([]:zw)) (zU.mk 0 0 0 0 0#64 0 0 0) (zI.mk 0 0 0 0 (zg.mk 0 0 0 0 0#64 0#64 0 0) (zU.mk 0 0 0 0 0#64 0 0 0) 0 0))]:List ze)))).bind fun l3 =>
 some (.again (s1,s2,w64 (s3+1),s4,s5,s6,s7,s8,s9,s10,s11,s12,s13,s14,s15,s16,s17,s18,s19,s20,s21,s22,s23,s24,s25,s26,s27,s28,s29,s30,s31,s32,s33,s34,s35,s36,s37,s38,s39,s40,s41,s42,s43,s44,s45,s46,s47,s48,s49,s50,l3,()))
 else
 some (.brk (s4,s5,s6,s7,s8,s9,s10,s11,s12,s13,s14,s15,s16,s17,s18,s19,s20,s21,s22,s23,s24,s25,s26,s27,s28,s29,s30,s31,s32,s33,s34,s35,s36,s37,s38,s39,s40,s41,s42,s43,s44,s45,s46,s47,s48,s49,s50,s51,())):=by kernel_rfl
theorem zx7 (a1:zd):ziy a1 =
 (zlP a1).bind fun y1 =>
 bif !y1.1 then
 some (za.mk (zd.mk 0 0 0 0 0 0 0 0 (zt.mk 0 (([]:zD))) 0#64 (([]:zD)) (([]:List (List zE))) (([]:List zm))) (zt.mk 0 (([]:zD))) (([]:List zA)) (([]:zD)) (zx.mk 0#64 0#64) 0 0 false false 0 (([]:zw)) (zy.mk 0 0 0 (([]:zw))) (([]:List zi)) (([]:List ze)) (zO.mk 0 0),())
 else
 (zf2 a1).bind fun y2 =>
 (zbR y2.1).bind fun y3 =>
 (zmV a1.Mutators).bind fun y4 =>
 (vP a1.H.Objs).bind fun y5 =>
 (yf zdo (y2.1,a1.Workers,0,a1,0,0,0,0,0,0,0,0,0,0#64,0,zx.mk 0#64 0#64,0,0,false,false,0,0,0,0,zO.mk 0 0,a1,a1.H.Slots,zx.mk y2.1 0#64,y3.1,0,false,false,0,y4.1,zO.mk 0 0,([]:zD),([]:zD),([]:List (List zE)),([]:List zm),([]:zD),([]:List zA),([]:zD),([]:zw),([]:zw),([]:List zi),([]:List ze),y5.1,([]:List zA),([([]:zw)]:zD),([]:zw),([]:List zi),([]:List ze),())).bind fun st=>match st with
  | .again _=>none
  | .brk y6 =>
  let y6a:=y6.2.2.2.2.2.2.2.2;let y6b:=y6a.2.2.2.2.2.2.2.2;let y6c:=y6b.2.2.2.2.2.2.2.2;let y6d:=y6c.2.2.2.2.2.2.2.2;let y6e:=y6d.2.2.2.2.2.2.2.2;let y6f:=y6e.2.2.2.2.2.2.2.2
  (zit y6.2.1).bind fun y7 =>
  (zjp (w64 (2+y7.1))).bind fun n8 =>
  (yD (y6e.2.2.2.2.2.1++(List.replicate n8 0#64))).bind fun l9 =>
  (zit y6.2.1).bind fun y10 =>
  (yf zcn (y6.1,y10.1,0,y6.2.1,y6.2.2.1,y6.2.2.2.1,y6.2.2.2.2.1,y6.2.2.2.2.2.1,y6.2.2.2.2.2.2.1,y6.2.2.2.2.2.2.2.1,y6a.1,y6a.2.1,y6a.2.2.1,y6a.2.2.2.1,y6a.2.2.2.2.1,y6a.2.2.2.2.2.1,y6a.2.2.2.2.2.2.1,y6a.2.2.2.2.2.2.2.1,y6b.1,y6b.2.1,y6b.2.2.1,y6b.2.2.2.1,y6b.2.2.2.2.1,y6b.2.2.2.2.2.1,y6b.2.2.2.2.2.2.1,y6b.2.2.2.2.2.2.2.1,y6c.1,y6c.2.1,y6c.2.2.1,y6c.2.2.2.1,y6c.2.2.2.2.1,y6c.2.2.2.2.2.1,y6c.2.2.2.2.2.2.1,y6c.2.2.2.2.2.2.2.1,y6d.1,([]:zw),y6d.2.1,y6d.2.2.1,y6d.2.2.2.1,y6d.2.2.2.2.1,y6d.2.2.2.2.2.1,y6d.2.2.2.2.2.2.1,y6d.2.2.2.2.2.2.2.1,y6e.1,y6e.2.1,y6e.2.2.1,y6e.2.2.2.1,y6e.2.2.2.2.1,l9,y6e.2.2.2.2.2.2.1,y6e.2.2.2.2.2.2.2.1,y6f.1,y6f.2.1,())).bind fun st=>match st with
   | .again _=>none
   | .brk y11 =>
   let y11a:=y11.2.2.2.2.2.2.2.2;let y11b:=y11a.2.2.2.2.2.2.2.2;let y11c:=y11b.2.2.2.2.2.2.2.2;let y11d:=y11c.2.2.2.2.2.2.2.2;let y11e:=y11d.2.2.2.2.2.2.2.2;let y11f:=y11e.2.2.2.2.2.2.2.2
   (zf7 y11.1).bind fun y12 =>
   (zdy y12.1 y11.2.1.Bin).bind fun y13 =>
   (zbC y13.1 y13.2.1).bind fun (ys14:zD) =>
   (Z3 zfD ys14 (y11.2.1,y11.2.2.1,y11.2.2.2.1,y11.2.2.2.2.1,y11.2.2.2.2.2.1,y11.2.2.2.2.2.2.1,y11.2.2.2.2.2.2.2.1,y11a.1,y11a.2.1,y11a.2.2.1,y11a.2.2.2.1,y11a.2.2.2.2.1,y11a.2.2.2.2.2.1,y11a.2.2.2.2.2.2.1,y11a.2.2.2.2.2.2.2.1,y11b.1,y11b.2.1,y11b.2.2.1,y11b.2.2.2.1,y11b.2.2.2.2.1,y11b.2.2.2.2.2.1,y11b.2.2.2.2.2.2.1,y11b.2.2.2.2.2.2.2.1,y11c.1,y11c.2.1,y11c.2.2.1,y11c.2.2.2.1,y11c.2.2.2.2.1,y11c.2.2.2.2.2.1,y11c.2.2.2.2.2.2.1,y11c.2.2.2.2.2.2.2.1,y11d.1,y11d.2.1,y11d.2.2.1,y11d.2.2.2.1,y11d.2.2.2.2.1,y11d.2.2.2.2.2.1,y11d.2.2.2.2.2.2.1,y11d.2.2.2.2.2.2.2.1,y11e.1,y11e.2.1,y11e.2.2.1,y11e.2.2.2.1,y11e.2.2.2.2.1,y11e.2.2.2.2.2.1,y11e.2.2.2.2.2.2.1,y11e.2.2.2.2.2.2.2.1,y11f.1,y11f.2.1,y11f.2.2.1,())).bind fun (y15:zd×Int×Int×Int×Int×Int×Int×Int×Int×Int×zA×Int×zx×Int×Int×Bool×Bool×Int×Int×Int×Int×zO×zd×Int×zx×Int×Int×Bool×Bool×Int×zy×zO×zw×zD×zD×(List (List zE))×(List zm)×zD×(List zA)×zD×zw×zw×(List zi)×(List ze)×zD×(List zA)×zD×zw×(List zi)×(List ze)×Unit) =>
   let y15a:=y15.2.2.2.2.2.2.2.2;let y15b:=y15a.2.2.2.2.2.2.2.2;let y15c:=y15b.2.2.2.2.2.2.2.2;let y15d:=y15c.2.2.2.2.2.2.2.2;let y15e:=y15d.2.2.2.2.2.2.2.2;let y15f:=y15e.2.2.2.2.2.2.2.2
   (zjp (w64 (((y15d.1.length:Int))-(w64 (((y15e.2.2.2.2.2.2.1.length:Int))-1))))).bind fun n16 =>
   (yD (y15e.2.2.2.2.2.2.1++(List.replicate n16 ([]:zw)))).bind fun l17 =>
   (Xw y15.1).bind fun y18 =>
   (YG y15.1).bind fun y19 =>
   (cut y15d.1 0 (w64 (((y15e.2.2.2.2.2.2.1.length:Int))-1))).bind fun l20 =>
   (zif y15e.2.2.2.2.2.1 y18.1 y19.1 l20).bind fun y21 =>
   (Wf y15.1).bind fun y22 =>
   (YG y15.1).bind fun y23 =>
   (cut y15d.1 (w64 (((y15e.2.2.2.2.2.2.1.length:Int))-1)) ((y15d.1.length:Int))).bind fun l24 =>
   (zif y21.1 y22.1 y23.1 l24).bind fun y25 =>
   bif decide (y15.1.Mutators=y15.1.Mutators) then
    (VE y15.1.Mutators).bind fun n26 =>
    (yf zcr (y15.1.Regs,(y15.1.Regs.length:Int),0,y15.2.1,y15.2.2.1,y15.2.2.2.1,y15.2.2.2.2.1,y15.2.2.2.2.2.1,y15.2.2.2.2.2.2.1,y15.2.2.2.2.2.2.2.1,y15a.1,y15a.2.1,y15a.2.2.1,y15a.2.2.2.1,y15a.2.2.2.2.1,y15a.2.2.2.2.2.1,y15a.2.2.2.2.2.2.1,y15a.2.2.2.2.2.2.2.1,y15b.1,y15b.2.1,y15b.2.2.1,y15b.2.2.2.1,y15b.2.2.2.2.1,y15b.2.2.2.2.2.1,y15b.2.2.2.2.2.2.1,y15b.2.2.2.2.2.2.2.1,y25.1,y15c.1,y15c.2.1,y15c.2.2.1,y15c.2.2.2.1,y15c.2.2.2.2.1,y15c.2.2.2.2.2.1,y15c.2.2.2.2.2.2.1,y15c.2.2.2.2.2.2.2.1,y15d.2.1,y15d.2.2.1,y15d.2.2.2.1,y15d.2.2.2.2.1,y15d.2.2.2.2.2.1,y15d.2.2.2.2.2.2.1,y15d.2.2.2.2.2.2.2.1,y15e.1,y15e.2.1,y15e.2.2.1,y15e.2.2.2.1,y15e.2.2.2.2.1,l17,List.replicate n26 ((0:Int)),y15f.1,y15f.2.1,())).bind fun st=>match st with
     | .again _=>none
     | .brk y27 =>
     let y27a:=y27.2.2.2.2.2.2.2.2;let y27b:=y27a.2.2.2.2.2.2.2.2;let y27c:=y27b.2.2.2.2.2.2.2.2;let y27d:=y27c.2.2.2.2.2.2.2.2;let y27e:=y27d.2.2.2.2.2.2.2.2
     some (za.mk y27b.2.2.2.2.2.1 (zt.mk y27b.2.2.2.2.2.2.1 y27e.2.2.2.1) y27b.2.2.2.2.2.2.2.1 y27e.2.2.2.2.1 y27c.1 y27c.2.1 y27c.2.2.1 y27c.2.2.2.1 y27c.2.2.2.2.1 y27c.2.2.2.2.2.1 y27e.2.2.2.2.2.1 y27c.2.2.2.2.2.2.1 y27e.2.2.2.2.2.2.1 y27e.2.2.2.2.2.2.2.1 y27c.2.2.2.2.2.2.2.1,())
     | .ret y27 =>
     none
   else
    none
   | .ret y11 =>
   none
  | .ret y6 =>
  none:=zH
theorem zzN (a1:zw):zq0 a1 =
 (zhF a1).bind fun y1 =>
 (zbR y1.1).bind fun y2 =>
 bif !(decide (y2.1=((a1.length:Int)))) then
 some (0#64,false,())
 else
 some (y1.1,true,()):=zH
theorem zzT (a1:za):zvD a1 =
 some (a1,()):=zH
theorem W1 (s1:zD) (s2:Int) (s3:zD) (s4:Int) (s5:Int):wo (s1,s2,s3,s4,s5,()) =
 bif decide (s5<s4) then
 (idx s3 s5).bind fun x1 =>
 bif decide ((w64 (s2+((x1.length:Int))))<0) then
  none
 else
  some (.again (s1,w64 (s2+((x1.length:Int))),s3,s4,w64 (s5+1),()))
 else
 some (.brk (s1,s2,())):=by kernel_rfl
theorem Ww (s1:zD) (s2:Int) (s3:Int) (s4:zw):wi (s1,s2,s3,s4,()) =
 bif decide (s3<s2) then
 (idx s1 s3).bind fun x1 =>
 (yD (s4++x1)).bind fun l2 =>
 some (.again (s1,s2,w64 (s3+1),l2,()))
 else
 some (.brk (s4,())):=by kernel_rfl
theorem zgw (a1:zD):XC a1 =
 (yf wo (a1,0,a1,(a1.length:Int),0,())).bind fun st=>match st with
  | .again _=>none
  | .brk y1 =>
  (zD6 y1.2.1).bind fun y2 =>
  (yf wi (y1.1,(y1.1.length:Int),0,y2.1,())).bind fun st=>match st with
   | .again _=>none
   | .brk y3 =>
   some (y3.1,())
   | .ret y3 =>
   none
  | .ret y1 =>
  none:=zH
theorem zBe (a1:zw) (a2:zw):zsQ a1 a2 =
 (XC (([a1,a2]:zD))).bind fun y1 =>
 (ztm y1.1).bind fun y2 =>
 some (y2.1,()):=zH
theorem zvX (a1:zA):Xq a1 =
 some ((a1&&&4294967295#64).toInt,()):=zH
theorem zw1 (a1:List zA) (a2:Int):zaM a1 a2 =
 (Wg a1 (YP.mk 1 a2 0#64 0#64)).bind fun y1 =>
 some (y1.2.1,()):=zH
theorem zrX (s1:List zA) (s2:Int) (s3:Int) (s4:Int) (s5:zw):zfB (s1,s2,s3,s4,s5,()) =
 bif !(decide (s4=0)) then
 bif decide (((s5.length:Int))<(bif decide (1000<s3) then 1000 else s3)) then
  (yD (s5++([s4]:zw))).bind fun l1 =>
  (zaM s1 (w64 (s2+s4))).bind fun y2 =>
  some (.again (s1,s2,s3,y2.1.toInt,l1,()))
 else
  some (.brk (s5,()))
 else
 some (.brk (s5,())):=by kernel_rfl
theorem zvG (a1:List zA) (a2:Int) (a3:Int) (a4:Int):zly a1 a2 a3 a4 =
 (zaM a1 a2).bind fun y1 =>
 (Xq y1.1).bind fun y2 =>
 (yf zfB (a1,a3,a4,y2.1,([]:zw),())).bind fun st=>match st with
  | .again _=>none
  | .brk y3 =>
  some (y3.1,())
  | .ret y3 =>
  none:=zH
theorem zz6 (a1:zw):yX a1 =
 (ztm a1).bind fun y1 =>
 some (y1.1,()):=zH
theorem zjj (s1:Int) (s2:Int) (s3:za) (s4:zw) (s5:zw):Um (s1,s2,s3,s4,s5,()) =
 bif decide (s2<s1) then
 (wj s5 s2).bind fun n1 =>
 (s5[n1]?).bind fun x2 =>
 bif decide (x2<((s3.Bins.length:Int))) then
  (idx s3.Bins x2).bind fun x3 =>
  (yD (s4++x3)).bind fun l4 =>
  some (.again (s1,w64 (s2+1),s3,l4,s5,()))
 else
  some (.again (s1,w64 (s2+1),s3,s4,s5,()))
 else
 some (.brk (s4,())):=by kernel_rfl
theorem zwk (a1:za):zcI a1 =
 (Xw a1.P).bind fun y1 =>
 (YG a1.P).bind fun y2 =>
 (zly a1.M y1.1 y2.1 ((a1.Bins.length:Int))).bind fun y3 =>
 (yf Um ((y3.1.length:Int),0,a1,([]:zw),y3.1,())).bind fun st=>match st with
  | .again _=>none
  | .brk y4 =>
  (yX y4.1).bind fun y5 =>
  some (y5.1,())
  | .ret y4 =>
  none:=zH
theorem zvj (a1:za) (a2:Int) (a3:zg):zj8 a1 a2 a3 =
 bif decide (a3.PC=3) then
 bif !(decide (a3.T=(a3.B-1#64))) then
  (xL a1.P a2).bind fun y1 =>
  bif decide ((BitVec.ofInt 64 a1.P.Cap)=0#64) then
  none
  else
  (Wg a1.M (YP.mk 1 (w64 ((w64 (y1.1+2))+(((a3.B-1#64)%(BitVec.ofInt 64 a1.P.Cap)).toInt))) 0#64 0#64)).bind fun y2 =>
  some (([y2.2.1.toInt]:zw),())
 else
  bif decide (a3.PC=6) then
  some (([a3.X]:zw),())
  else
  some (([]:zw),())
 else
 bif decide (a3.PC=6) then
  some (([a3.X]:zw),())
 else
  some (([]:zw),()):=zH
theorem zlX (a1:zI) (a2:Int) (a3:Int) (a4:Int):znF a1 a2 a3 a4 =
 bif decide (a1.Out=0) then
 bif decide (a2<=a1.PC) then
  bif decide (a1.PC<=a3) then
  some (a4,())
  else
  some (0,())
 else
  some (0,())
 else
 some (0,()):=zH
theorem zv9 (a1:zI):ZY a1 =
 (znF a1 3 7 a1.Obj).bind fun y1 =>
 some (y1.1,()):=zH
theorem zwE (a1:List zA) (a2:Int):um a1 a2 =
 (Wg a1 (YP.mk 1 a2 0#64 0#64)).bind fun y1 =>
 some (y1.2.1,()):=zH
theorem ZX (a1:zg):ZU a1 =
 some (a1.Base,()):=zH
theorem x8 (a1:zg):wF a1 =
 some (w64 (a1.Base+1),()):=zH
theorem zeE (a1:zA) (a2:zA):xS a1 a2 =
 some (decide (0<((a1-a2).toInt)),()):=zH
theorem znd (a1:zg):yr a1 =
 some (BitVec.ofInt 64 (bif decide (a1.Cap<1) then 1 else a1.Cap),()):=zH
theorem zmB (a1:zA) (a2:zg):uR a1 a2 =
 (yr a2).bind fun y1 =>
 bif decide (y1.1=0#64) then
 none
 else
 some (w64 ((w64 (a2.Base+2))+((a1%y1.1).toInt)),()):=zH
end Go.Pe.G
namespace Go.Pe.G
open Go.Pe
theorem zfE (s1:List zA) (s2:zA) (s3:zA) (s4:zg) (s5:zw):yx (s1,s2,s3,s4,s5,()) =
 bif !(decide (s3=s2)) then
 (uR s3 s4).bind fun y1 =>
 (um s1 y1.1).bind fun y2 =>
 (yD (s5++([y2.1.toInt]:zw))).bind fun l3 =>
 some (.again (s1,s2,s3+1#64,s4,l3,()))
 else
 some (.brk (s5,())):=by kernel_rfl
theorem zvx (a1:List zA) (a2:Int) (a3:Int) (a4:zg):wM a1 a2 a3 a4 =
 (ZU (zg.mk 0 0 a2 a3 0#64 0#64 0 0)).bind fun y1 =>
 (um a1 y1.1).bind fun y2 =>
 (wF (zg.mk 0 0 a2 a3 0#64 0#64 0 0)).bind fun y3 =>
 (um a1 y3.1).bind fun y4 =>
 bif decide (a4.Kind=2) then
 bif decide (a4.Out=0) then
  bif decide (a4.PC=2) then
  bif decide (a4.PC=2) then
   (xS (y4.1+1#64) y2.1).bind fun y5 =>
   bif !y5.1 then
   some (([]:zw),())
   else
   (yr (zg.mk 0 0 a2 a3 0#64 0#64 0 0)).bind fun y6 =>
   bif decide ((bif decide (64#64<y6.1) then 64#64 else y6.1)<((y4.1+1#64)-y2.1)) then
    some (([]:zw),())
   else
    (yf yx (a1,y4.1+1#64,y2.1,zg.mk 0 0 a2 a3 0#64 0#64 0 0,([]:zw),())).bind fun st=>match st with
     | .again _=>none
     | .brk y7 =>
     some (y7.1,())
     | .ret y7 =>
     none
  else
   bif decide (a4.PC=3) then
   bif decide (a4.T=(a4.B-1#64)) then
    (xS (y4.1+1#64) y2.1).bind fun y8 =>
    bif !y8.1 then
    some (([]:zw),())
    else
    (yr (zg.mk 0 0 a2 a3 0#64 0#64 0 0)).bind fun y9 =>
    bif decide ((bif decide (64#64<y9.1) then 64#64 else y9.1)<((y4.1+1#64)-y2.1)) then
     some (([]:zw),())
    else
     (yf yx (a1,y4.1+1#64,y2.1,zg.mk 0 0 a2 a3 0#64 0#64 0 0,([]:zw),())).bind fun st=>match st with
      | .again _=>none
      | .brk y10 =>
      some (y10.1,())
      | .ret y10 =>
      none
   else
    (xS y4.1 y2.1).bind fun y11 =>
    bif !y11.1 then
    some (([]:zw),())
    else
    (yr (zg.mk 0 0 a2 a3 0#64 0#64 0 0)).bind fun y12 =>
    bif decide ((bif decide (64#64<y12.1) then 64#64 else y12.1)<(y4.1-y2.1)) then
     some (([]:zw),())
    else
     (yf yx (a1,y4.1,y2.1,zg.mk 0 0 a2 a3 0#64 0#64 0 0,([]:zw),())).bind fun st=>match st with
      | .again _=>none
      | .brk y13 =>
      some (y13.1,())
      | .ret y13 =>
      none
   else
   (xS y4.1 y2.1).bind fun y14 =>
   bif !y14.1 then
    some (([]:zw),())
   else
    (yr (zg.mk 0 0 a2 a3 0#64 0#64 0 0)).bind fun y15 =>
    bif decide ((bif decide (64#64<y15.1) then 64#64 else y15.1)<(y4.1-y2.1)) then
    some (([]:zw),())
    else
    (yf yx (a1,y4.1,y2.1,zg.mk 0 0 a2 a3 0#64 0#64 0 0,([]:zw),())).bind fun st=>match st with
     | .again _=>none
     | .brk y16 =>
     some (y16.1,())
     | .ret y16 =>
     none
  else
  bif decide (a4.PC=4) then
   bif decide (a4.PC=4) then
   (xS (y4.1+1#64) y2.1).bind fun y17 =>
   bif !y17.1 then
    some (([]:zw),())
   else
    (yr (zg.mk 0 0 a2 a3 0#64 0#64 0 0)).bind fun y18 =>
    bif decide ((bif decide (64#64<y18.1) then 64#64 else y18.1)<((y4.1+1#64)-y2.1)) then
    some (([]:zw),())
    else
    (yf yx (a1,y4.1+1#64,y2.1,zg.mk 0 0 a2 a3 0#64 0#64 0 0,([]:zw),())).bind fun st=>match st with
     | .again _=>none
     | .brk y19 =>
     some (y19.1,())
     | .ret y19 =>
     none
   else
   bif decide (a4.PC=3) then
    bif decide (a4.T=(a4.B-1#64)) then
    (xS (y4.1+1#64) y2.1).bind fun y20 =>
    bif !y20.1 then
     some (([]:zw),())
    else
     (yr (zg.mk 0 0 a2 a3 0#64 0#64 0 0)).bind fun y21 =>
     bif decide ((bif decide (64#64<y21.1) then 64#64 else y21.1)<((y4.1+1#64)-y2.1)) then
     some (([]:zw),())
     else
     (yf yx (a1,y4.1+1#64,y2.1,zg.mk 0 0 a2 a3 0#64 0#64 0 0,([]:zw),())).bind fun st=>match st with
      | .again _=>none
      | .brk y22 =>
      some (y22.1,())
      | .ret y22 =>
      none
    else
    (xS y4.1 y2.1).bind fun y23 =>
    bif !y23.1 then
     some (([]:zw),())
    else
     (yr (zg.mk 0 0 a2 a3 0#64 0#64 0 0)).bind fun y24 =>
     bif decide ((bif decide (64#64<y24.1) then 64#64 else y24.1)<(y4.1-y2.1)) then
     some (([]:zw),())
     else
     (yf yx (a1,y4.1,y2.1,zg.mk 0 0 a2 a3 0#64 0#64 0 0,([]:zw),())).bind fun st=>match st with
      | .again _=>none
      | .brk y25 =>
      some (y25.1,())
      | .ret y25 =>
      none
   else
    (xS y4.1 y2.1).bind fun y26 =>
    bif !y26.1 then
    some (([]:zw),())
    else
    (yr (zg.mk 0 0 a2 a3 0#64 0#64 0 0)).bind fun y27 =>
    bif decide ((bif decide (64#64<y27.1) then 64#64 else y27.1)<(y4.1-y2.1)) then
     some (([]:zw),())
    else
     (yf yx (a1,y4.1,y2.1,zg.mk 0 0 a2 a3 0#64 0#64 0 0,([]:zw),())).bind fun st=>match st with
      | .again _=>none
      | .brk y28 =>
      some (y28.1,())
      | .ret y28 =>
      none
  else
   bif decide (a4.PC=5) then
   (xS (y4.1+1#64) y2.1).bind fun y29 =>
   bif !y29.1 then
    some (([]:zw),())
   else
    (yr (zg.mk 0 0 a2 a3 0#64 0#64 0 0)).bind fun y30 =>
    bif decide ((bif decide (64#64<y30.1) then 64#64 else y30.1)<((y4.1+1#64)-y2.1)) then
    some (([]:zw),())
    else
    (yf yx (a1,y4.1+1#64,y2.1,zg.mk 0 0 a2 a3 0#64 0#64 0 0,([]:zw),())).bind fun st=>match st with
     | .again _=>none
     | .brk y31 =>
     some (y31.1,())
     | .ret y31 =>
     none
   else
   bif decide (a4.PC=3) then
    bif decide (a4.T=(a4.B-1#64)) then
    (xS (y4.1+1#64) y2.1).bind fun y32 =>
    bif !y32.1 then
     some (([]:zw),())
    else
     (yr (zg.mk 0 0 a2 a3 0#64 0#64 0 0)).bind fun y33 =>
     bif decide ((bif decide (64#64<y33.1) then 64#64 else y33.1)<((y4.1+1#64)-y2.1)) then
     some (([]:zw),())
     else
     (yf yx (a1,y4.1+1#64,y2.1,zg.mk 0 0 a2 a3 0#64 0#64 0 0,([]:zw),())).bind fun st=>match st with
      | .again _=>none
      | .brk y34 =>
      some (y34.1,())
      | .ret y34 =>
      none
    else
    (xS y4.1 y2.1).bind fun y35 =>
    bif !y35.1 then
     some (([]:zw),())
    else
     (yr (zg.mk 0 0 a2 a3 0#64 0#64 0 0)).bind fun y36 =>
     bif decide ((bif decide (64#64<y36.1) then 64#64 else y36.1)<(y4.1-y2.1)) then
     some (([]:zw),())
     else
     (yf yx (a1,y4.1,y2.1,zg.mk 0 0 a2 a3 0#64 0#64 0 0,([]:zw),())).bind fun st=>match st with
      | .again _=>none
      | .brk y37 =>
      some (y37.1,())
      | .ret y37 =>
      none
   else
    (xS y4.1 y2.1).bind fun y38 =>
    bif !y38.1 then
    some (([]:zw),())
    else
    (yr (zg.mk 0 0 a2 a3 0#64 0#64 0 0)).bind fun y39 =>
    bif decide ((bif decide (64#64<y39.1) then 64#64 else y39.1)<(y4.1-y2.1)) then
     some (([]:zw),())
    else
     (yf yx (a1,y4.1,y2.1,zg.mk 0 0 a2 a3 0#64 0#64 0 0,([]:zw),())).bind fun st=>match st with
      | .again _=>none
      | .brk y40 =>
      some (y40.1,())
      | .ret y40 =>
      none
 else
  (xS y4.1 y2.1).bind fun y41 =>
  bif !y41.1 then
  some (([]:zw),())
  else
  (yr (zg.mk 0 0 a2 a3 0#64 0#64 0 0)).bind fun y42 =>
  bif decide ((bif decide (64#64<y42.1) then 64#64 else y42.1)<(y4.1-y2.1)) then
   some (([]:zw),())
  else
   (yf yx (a1,y4.1,y2.1,zg.mk 0 0 a2 a3 0#64 0#64 0 0,([]:zw),())).bind fun st=>match st with
    | .again _=>none
    | .brk y43 =>
    some (y43.1,())
    | .ret y43 =>
    none
 else
 (xS y4.1 y2.1).bind fun y44 =>
 bif !y44.1 then
  some (([]:zw),())
 else
  (yr (zg.mk 0 0 a2 a3 0#64 0#64 0 0)).bind fun y45 =>
  bif decide ((bif decide (64#64<y45.1) then 64#64 else y45.1)<(y4.1-y2.1)) then
  some (([]:zw),())
  else
  (yf yx (a1,y4.1,y2.1,zg.mk 0 0 a2 a3 0#64 0#64 0 0,([]:zw),())).bind fun st=>match st with
   | .again _=>none
   | .brk y46 =>
   some (y46.1,())
   | .ret y46 =>
   none:=zH
theorem zuC (a1:za) (a2:Int):zex a1 a2 =
 bif decide (a2<1) then
 some (([]:zw),())
 else
 bif decide (((a1.Ws.length:Int))<a2) then
  some (([]:zw),())
 else
  (idx a1.Ws (w64 (a2-1))).bind fun x1 =>
  (xj x1.Batch).bind fun y2 =>
  bif decide (x1.PC=0) then
  (zj8 a1 a2 x1.D).bind fun y3 =>
  (yD (y2.1++y3.1)).bind fun l4 =>
  (xL a1.P a2).bind fun y5 =>
  (wM a1.M y5.1 a1.P.Cap x1.D).bind fun y6 =>
  (yD (l4++y6.1)).bind fun l7 =>
  (yX l7).bind fun y8 =>
  some (y8.1,())
  else
  bif decide (x1.PC=3) then
   (idx a1.Bins x1.Bin).bind fun x9 =>
   (yD (y2.1++x9)).bind fun l10 =>
   (xL a1.P a2).bind fun y11 =>
   (wM a1.M y11.1 a1.P.Cap (zg.mk 0 0 0 0 0#64 0#64 0 0)).bind fun y12 =>
   (yD (l10++y12.1)).bind fun l13 =>
   (yX l13).bind fun y14 =>
   some (y14.1,())
  else
   bif decide (x1.PC=5) then
   bif decide (x1.PC=5) then
    (yD (y2.1++([x1.Obj]:zw))).bind fun l15 =>
    (xL a1.P a2).bind fun y16 =>
    (wM a1.M y16.1 a1.P.Cap (zg.mk 0 0 0 0 0#64 0#64 0 0)).bind fun y17 =>
    (yD (l15++y17.1)).bind fun l18 =>
    (yX l18).bind fun y19 =>
    some (y19.1,())
   else
    bif decide (x1.PC=6) then
    (yD (y2.1++([x1.Obj]:zw))).bind fun l20 =>
    (ZY x1.G).bind fun y21 =>
    (zfF ([y21.1]:zw)).bind fun y22 =>
    (yD (l20++y22.1)).bind fun l23 =>
    bif decide (x1.G.PC=3) then
     (xL a1.P a2).bind fun y24 =>
     (wM a1.M y24.1 a1.P.Cap x1.G.D).bind fun y25 =>
     (yD (l23++y25.1)).bind fun l26 =>
     (yX l26).bind fun y27 =>
     some (y27.1,())
    else
     (xL a1.P a2).bind fun y28 =>
     (wM a1.M y28.1 a1.P.Cap (zg.mk 0 0 0 0 0#64 0#64 0 0)).bind fun y29 =>
     (yD (l23++y29.1)).bind fun l30 =>
     (yX l30).bind fun y31 =>
     some (y31.1,())
    else
    (xL a1.P a2).bind fun y32 =>
    (wM a1.M y32.1 a1.P.Cap (zg.mk 0 0 0 0 0#64 0#64 0 0)).bind fun y33 =>
    (yD (y2.1++y33.1)).bind fun l34 =>
    (yX l34).bind fun y35 =>
    some (y35.1,())
   else
   bif decide (x1.PC=8) then
    (yD (y2.1++([x1.Obj]:zw))).bind fun l36 =>
    (xL a1.P a2).bind fun y37 =>
    (wM a1.M y37.1 a1.P.Cap (zg.mk 0 0 0 0 0#64 0#64 0 0)).bind fun y38 =>
    (yD (l36++y38.1)).bind fun l39 =>
    (yX l39).bind fun y40 =>
    some (y40.1,())
   else
    bif decide (x1.PC=6) then
    (yD (y2.1++([x1.Obj]:zw))).bind fun l41 =>
    (ZY x1.G).bind fun y42 =>
    (zfF ([y42.1]:zw)).bind fun y43 =>
    (yD (l41++y43.1)).bind fun l44 =>
    bif decide (x1.G.PC=3) then
     (xL a1.P a2).bind fun y45 =>
     (wM a1.M y45.1 a1.P.Cap x1.G.D).bind fun y46 =>
     (yD (l44++y46.1)).bind fun l47 =>
     (yX l47).bind fun y48 =>
     some (y48.1,())
    else
     (xL a1.P a2).bind fun y49 =>
     (wM a1.M y49.1 a1.P.Cap (zg.mk 0 0 0 0 0#64 0#64 0 0)).bind fun y50 =>
     (yD (l44++y50.1)).bind fun l51 =>
     (yX l51).bind fun y52 =>
     some (y52.1,())
    else
    (xL a1.P a2).bind fun y53 =>
    (wM a1.M y53.1 a1.P.Cap (zg.mk 0 0 0 0 0#64 0#64 0 0)).bind fun y54 =>
    (yD (y2.1++y54.1)).bind fun l55 =>
    (yX l55).bind fun y56 =>
    some (y56.1,()):=zH
theorem zfS (a1:ze):Zc a1 =
 bif decide (a1.PC=3) then
 some (true,())
 else
 some (decide (a1.PC=37),()):=zH
theorem ztP (a1:za) (a2:Int):zc6 a1 a2 =
 bif decide (a2<1) then
 some (([]:zw),())
 else
 bif decide (((a1.Ms.length:Int))<a2) then
  some (([]:zw),())
 else
  (idx a1.Ms (w64 (a2-1))).bind fun x1 =>
  (xj x1.Batch).bind fun y2 =>
  bif decide (x1.PC=33) then
  (idx a1.Bins x1.Bin).bind fun x3 =>
  (yD (y2.1++x3)).bind fun l4 =>
  bif decide (36<=x1.PC) then
   bif decide (x1.PC<=38) then
   (yD (l4++([x1.Obj]:zw))).bind fun l5 =>
   (Zc x1).bind fun y6 =>
   bif y6.1 then
    (ZY x1.G).bind fun y7 =>
    (zfF ([y7.1]:zw)).bind fun y8 =>
    (yD (l5++y8.1)).bind fun l9 =>
    (yX l9).bind fun y10 =>
    some (y10.1,())
   else
    (yX l5).bind fun y11 =>
    some (y11.1,())
   else
   (Zc x1).bind fun y12 =>
   bif y12.1 then
    (ZY x1.G).bind fun y13 =>
    (zfF ([y13.1]:zw)).bind fun y14 =>
    (yD (l4++y14.1)).bind fun l15 =>
    (yX l15).bind fun y16 =>
    some (y16.1,())
   else
    (yX l4).bind fun y17 =>
    some (y17.1,())
  else
   (Zc x1).bind fun y18 =>
   bif y18.1 then
   (ZY x1.G).bind fun y19 =>
   (zfF ([y19.1]:zw)).bind fun y20 =>
   (yD (l4++y20.1)).bind fun l21 =>
   (yX l21).bind fun y22 =>
   some (y22.1,())
   else
   (yX l4).bind fun y23 =>
   some (y23.1,())
  else
  bif decide (36<=x1.PC) then
   bif decide (x1.PC<=38) then
   (yD (y2.1++([x1.Obj]:zw))).bind fun l24 =>
   (Zc x1).bind fun y25 =>
   bif y25.1 then
    (ZY x1.G).bind fun y26 =>
    (zfF ([y26.1]:zw)).bind fun y27 =>
    (yD (l24++y27.1)).bind fun l28 =>
    (yX l28).bind fun y29 =>
    some (y29.1,())
   else
    (yX l24).bind fun y30 =>
    some (y30.1,())
   else
   (Zc x1).bind fun y31 =>
   bif y31.1 then
    (ZY x1.G).bind fun y32 =>
    (zfF ([y32.1]:zw)).bind fun y33 =>
    (yD (y2.1++y33.1)).bind fun l34 =>
    (yX l34).bind fun y35 =>
    some (y35.1,())
   else
    (yX y2.1).bind fun y36 =>
    some (y36.1,())
  else
   (Zc x1).bind fun y37 =>
   bif y37.1 then
   (ZY x1.G).bind fun y38 =>
   (zfF ([y38.1]:zw)).bind fun y39 =>
   (yD (y2.1++y39.1)).bind fun l40 =>
   (yX l40).bind fun y41 =>
   some (y41.1,())
   else
   (yX y2.1).bind fun y42 =>
   some (y42.1,()):=zH
theorem ztT (y:zw) (s1:zw):zdf y (s1,()) =
 (zsQ s1 y).bind fun y1 =>
 some (y1.1,()):=by kernel_rfl
theorem zxu (a1:za):zbQ a1 =
 (zvD a1).bind fun y1 =>
 (zrF y1.1.P.Workers y1.1.P.Mutators y1.1.P.Cap y1.1.P.Buf y1.1.P.Bin y1.1.P.Most y1.1.P.Price y1.1.P.Limit y1.1.P.H.Slots y1.1.P.H.Objs y1.1.P.Roots y1.1.P.Regs y1.1.P.Progs y1.1.P.Picks y1.1.H.Slots y1.1.H.Objs y1.1.M y1.1.Bins y1.1.T.Marks y1.1.T.Black y1.1.Work y1.1.Epoch y1.1.Flag y1.1.Done y1.1.Restarts y1.1.Acks y1.1.L.Scanned y1.1.L.Spent y1.1.L.Pool y1.1.L.Bal y1.1.Ws y1.1.Ms y1.1.D.PC y1.1.D.I).bind fun (ys2:zD) =>
 (Z3 zdf ys2 (([]:zw),())).bind fun (y3:zw×Unit) =>
 some (y3.1,()):=zH
theorem zgr (a1:zx):zfV a1 =
 some (a1.Marks&&& ~~~a1.Black,()):=zH
theorem zx2 (a1:za):UI a1 =
 (zbQ a1).bind fun y1 =>
 (zq0 y1.1).bind fun y2 =>
 bif y2.2.1 then
 (zfV a1.T).bind fun y3 =>
 some (decide (y2.1=y3.1),())
 else
 some (false,()):=zH
theorem zfo (s1:List zi) (s2:Int) (s3:Int) (s4:za) (s5:List zI):XJ (s1,s2,s3,s4,s5,()) =
 bif decide (s3<s2) then
 (idx s1 s3).bind fun x1 =>
 bif decide (x1.PC=6) then
  (yD (s5++([x1.G]:List zI))).bind fun l2 =>
  some (.again (s1,s2,w64 (s3+1),s4,l2,()))
 else
  some (.again (s1,s2,w64 (s3+1),s4,s5,()))
 else
 some (.brk (s4,s5,())):=by kernel_rfl
theorem zfk (s1:List ze) (s2:Int) (s3:Int) (s4:List zI):Xu (s1,s2,s3,s4,()) =
 bif decide (s3<s2) then
 (idx s1 s3).bind fun x1 =>
 (Zc x1).bind fun y2 =>
 bif y2.1 then
  (yD (s4++([x1.G]:List zI))).bind fun l3 =>
  some (.again (s1,s2,w64 (s3+1),l3,()))
 else
  some (.again (s1,s2,w64 (s3+1),s4,()))
 else
 some (.brk (s4,())):=by kernel_rfl
theorem zsf (a1:za):zcj a1 =
 (yf XJ (a1.Ws,(a1.Ws.length:Int),0,a1,([]:List zI),())).bind fun st=>match st with
  | .again _=>none
  | .brk y1 =>
  (yf Xu (y1.1.Ms,(y1.1.Ms.length:Int),0,y1.2.1,())).bind fun st=>match st with
   | .again _=>none
   | .brk y2 =>
   some (y2.1,())
   | .ret y2 =>
   none
  | .ret y1 =>
  none:=zH
theorem zyb (a1:zI):zoV a1 =
 (znF a1 1 2 1).bind fun y1 =>
 some (y1.1,()):=zH
theorem zkn (s1:Int) (s2:Int) (s3:Int) (s4:za) (s5:List zI):zal (s1,s2,s3,s4,s5,()) =
 bif decide (s3<s2) then
 (wj s5 s3).bind fun n1 =>
 (s5[n1]?).bind fun x2 =>
 (zoV x2).bind fun y3 =>
 some (.again (w64 (s1+y3.1),s2,w64 (s3+1),s4,s5,()))
 else
 some (.brk (s1,s4,())):=by kernel_rfl
theorem zkz (s1:Int) (s2:List zi) (s3:Int) (s4:Int) (s5:za):zaC (s1,s2,s3,s4,s5,()) =
 bif decide (s4<s3) then
 (idx s2 s4).bind fun x1 =>
 bif decide (x1.PC=9) then
  some (.again (w64 (s1+1),s2,s3,w64 (s4+1),s5,()))
 else
  some (.again (s1,s2,s3,w64 (s4+1),s5,()))
 else
 some (.brk (s1,s5,())):=by kernel_rfl
theorem ziY (s1:Int) (s2:List ze) (s3:Int) (s4:Int):Ud (s1,s2,s3,s4,()) =
 bif decide (s4<s3) then
 (idx s2 s4).bind fun x1 =>
 bif decide (x1.PC=39) then
  some (.again (w64 (s1+1),s2,s3,w64 (s4+1),()))
 else
  some (.again (s1,s2,s3,w64 (s4+1),()))
 else
 some (.brk (s1,())):=by kernel_rfl
theorem zx5 (a1:za):zoE a1 =
 (zcj a1).bind fun y1 =>
 (yf zal (0,(y1.1.length:Int),0,a1,y1.1,())).bind fun st=>match st with
  | .again _=>none
  | .brk y2 =>
  (yf zaC (y2.1,y2.2.1.Ws,(y2.2.1.Ws.length:Int),0,y2.2.1,())).bind fun st=>match st with
   | .again _=>none
   | .brk y3 =>
   (yf Ud (y3.1,y3.2.1.Ms,(y3.2.1.Ms.length:Int),0,())).bind fun st=>match st with
    | .again _=>none
    | .brk y4 =>
    some (y4.1,())
    | .ret y4 =>
    none
   | .ret y3 =>
   none
  | .ret y2 =>
  none:=zH
theorem zuB (a1:za):X4 a1 =
 (zbQ a1).bind fun y1 =>
 (zoE a1).bind fun y2 =>
 some (decide (a1.Work=(w64 (((y1.1.length:Int))+y2.1))),()):=zH
theorem zow (s1:zA) (s2:zw) (s3:Int):zb5 (s1,s2,s3,()) =
 bif decide (s3<64) then
 (zhe s2 64 s3).bind fun n1 =>
 (s2[n1]?).bind fun x2 =>
 bif decide (0<x2) then
  (YS s1 (w64 (s3+1))).bind fun y3 =>
  some (.again (y3.1,s2,w64 (s3+1),()))
 else
  some (.again (s1,s2,w64 (s3+1),()))
 else
 some (.brk (s1,())):=by kernel_rfl
theorem zrB (a1:zw):zeL a1 =
 bif decide (a1.length=64) then
 (yf zb5 (0#64,a1,0,())).bind fun st=>match st with
  | .again _=>none
  | .brk y1 =>
  some (y1.1,())
  | .ret y1 =>
  none
 else
 none:=zH
theorem zCu (a1:zA) (a2:Int):zcw a1 a2 =
 (zn6 a2).bind fun y1 =>
 some (!(decide ((a1&&&y1.1)=0#64)),()):=zH
theorem zty (a1:Int):zpF a1 =
 some (true,()):=zH
theorem Wx (s1:zA) (s2:Int) (s3:Int) (s4:zt) (s5:zw) (s6:zw) (s7:zw):Yu (s1,s2,s3,s4,s5,s6,s7,()) =
 bif decide (s3<s2) then
 (wj s7 s3).bind fun n1 =>
 (s7[n1]?).bind fun x2 =>
 (zhe s6 64 (w64 (x2-1))).bind fun n3 =>
 some (.again (s1,s2,w64 (s3+1),s4,s5,s6.set n3 1,s7,()))
 else
 some (.brk (s1,s4,s5,s6,s7,())):=by kernel_rfl
theorem ZB (s1:zA) (s2:zt) (s3:zw) (s4:zw) (s5:zw):Yv (s1,s2,s3,s4,s5,()) =
 bif decide (0<((s5.length:Int))) then
 (wj s5 0).bind fun n1 =>
 (s5[n1]?).bind fun x2 =>
 (zpF x2).bind fun y3 =>
 bif !y3.1 then
  (cut s5 1 ((s5.length:Int))).bind fun l4 =>
  some (.again (s1,s2,s3,s4,l4,()))
 else
  (idx s2.Objs (w64 (x2-1))).bind fun x5 =>
  (yf ue (s1,x2,x5,(x5.length:Int),0,s2,s3,s4,s5,())).bind fun st=>match st with
   | .again _=>none
   | .brk y6 =>
   (cut y6.2.2.2.2.1 1 ((y6.2.2.2.2.1.length:Int))).bind fun l7 =>
   some (.again (y6.1,y6.2.1,y6.2.2.1,y6.2.2.2.1,l7,()))
   | .ret y6 =>
   some (.ret (()))
 else
 some (.brk (s3,s4,())):=by kernel_rfl
theorem XU (s1:zA) (s2:Int) (s3:zw) (s4:Int) (s5:Int) (s6:zt) (s7:zw) (s8:zw) (s9:zw):ue (s1,s2,s3,s4,s5,s6,s7,s8,s9,()) =
 bif decide (s5<s4) then
 (idx s3 s5).bind fun x1 =>
 (zcw s1 x1).bind fun y2 =>
 bif y2.1 then
  (zhe s8 64 (w64 (x1-1))).bind fun n3 =>
  (s8[n3]?).bind fun x4 =>
  bif decide (x4=0) then
  (zhe s8 64 (w64 (s2-1))).bind fun n5 =>
  (s8[n5]?).bind fun x6 =>
  (zhe s8 64 (w64 (x1-1))).bind fun n7 =>
  (yD (s9++([x1]:zw))).bind fun l8 =>
  some (.again (s1,s2,s3,s4,w64 (s5+1),s6,s7,s8.set n7 (w64 (x6+1)),l8,()))
  else
  some (.again (s1,s2,s3,s4,w64 (s5+1),s6,s7,s8,s9,()))
 else
  some (.again (s1,s2,s3,s4,w64 (s5+1),s6,s7,s8,s9,()))
 else
 some (.brk (s1,s6,s7,s8,s9,())):=by kernel_rfl
theorem zfr (a1:zt) (a2:zA):Xb a1 a2 =
 (UE ((a1.Objs.length:Int))).bind fun y1 =>
 (zf7 (a2&&&y1.1)).bind fun y2 =>
 (yf Yu (y1.1,(y2.1.length:Int),0,a1,List.replicate 64 ((0:Int)),List.replicate 64 ((0:Int)),y2.1,())).bind fun st=>match st with
  | .again _=>none
  | .brk y3 =>
  (yf Yv (y3.1,y3.2.1,y3.2.2.1,y3.2.2.2.1,y3.2.2.2.2.1,())).bind fun st=>match st with
   | .again _=>none
   | .brk y4 =>
   bif decide (y4.2.1.length=64) then
   bif decide (y4.1.length=64) then
    bif decide (y4.2.1.length=64) then
    some (y4.2.1,())
    else
    none
   else
    none
   else
   none
   | .ret y4 =>
   none
  | .ret y3 =>
  none:=zH
theorem zv2 (a1:zt) (a2:zA):Vf a1 a2 =
 (Xb a1 a2).bind fun y1 =>
 (zeL y1.1).bind fun y2 =>
 some (y2.1,()):=zH
theorem zyh (a1:zI):zog a1 =
 (znF a1 0 1 a1.Obj).bind fun y1 =>
 some (y1.1,()):=zH
theorem zgv (s1:zA) (s2:Int) (s3:Int) (s4:za) (s5:List zI):Wu (s1,s2,s3,s4,s5,()) =
 bif decide (s3<s2) then
 (wj s5 s3).bind fun n1 =>
 (s5[n1]?).bind fun x2 =>
 (zog x2).bind fun y3 =>
 (YS s1 y3.1).bind fun y4 =>
 some (.again (y4.1,s2,w64 (s3+1),s4,s5,()))
 else
 some (.brk (s1,s4,())):=by kernel_rfl
theorem zgx (s1:zA) (s2:List ze) (s3:Int) (s4:Int):Wk (s1,s2,s3,s4,()) =
 bif decide (s4<s3) then
 (idx s2 s4).bind fun x1 =>
 (zhF x1.Buf).bind fun y2 =>
 bif decide (x1.PC=21) then
  (YS (s1|||y2.1) x1.Old).bind fun y3 =>
  some (.again (y3.1,s2,s3,w64 (s4+1),()))
 else
  bif decide (x1.PC=22) then
  (YS (s1|||y2.1) x1.Old).bind fun y4 =>
  some (.again (y4.1,s2,s3,w64 (s4+1),()))
  else
  bif decide (x1.Ret=22) then
   bif decide (x1.PC=1) then
   (YS (s1|||y2.1) x1.Old).bind fun y5 =>
   some (.again (y5.1,s2,s3,w64 (s4+1),()))
   else
   bif decide (x1.PC=3) then
    (YS (s1|||y2.1) x1.Old).bind fun y6 =>
    some (.again (y6.1,s2,s3,w64 (s4+1),()))
   else
    some (.again (s1|||y2.1,s2,s3,w64 (s4+1),()))
  else
   some (.again (s1|||y2.1,s2,s3,w64 (s4+1),()))
 else
 some (.brk (s1,())):=by kernel_rfl
theorem ztC (a1:za):zaP a1 =
 (zcj a1).bind fun y1 =>
 (yf Wu (0#64,(y1.1.length:Int),0,a1,y1.1,())).bind fun st=>match st with
  | .again _=>none
  | .brk y2 =>
  (yf Wk (y2.1,y2.2.1.Ms,(y2.2.1.Ms.length:Int),0,())).bind fun st=>match st with
   | .again _=>none
   | .brk y3 =>
   some (y3.1,())
   | .ret y3 =>
   none
  | .ret y2 =>
  none:=zH
theorem zyo (a1:zd):zil a1 =
 (zf2 a1).bind fun y1 =>
 (Vf a1.H y1.1).bind fun y2 =>
 some (y2.1,()):=zH
theorem zxs (a1:za):UD a1 =
 (zfV a1.T).bind fun y1 =>
 (zaP a1).bind fun y2 =>
 (Vf a1.H (y1.1|||y2.1)).bind fun y3 =>
 (zil a1.P).bind fun y4 =>
 (WZ y4.1 (a1.T.Marks|||y3.1)).bind fun y5 =>
 some (y5.1,()):=zH
theorem zsR (a1:za):znV a1 =
 (UE ((a1.P.H.Objs.length:Int))).bind fun y1 =>
 some (y1.1,()):=zH
theorem zyi (a1:za):zbS a1 =
 (UE ((a1.H.Objs.length:Int))).bind fun y1 =>
 (znV a1).bind fun y2 =>
 some (y1.1&&& ~~~y2.1,()):=zH
theorem zw0 (a1:zx) (a2:Int):zsi a1 a2 =
 (WZ a1.Black a1.Marks).bind fun y1 =>
 bif y1.1 then
 (UE a2).bind fun y2 =>
 (WZ a1.Marks y2.1).bind fun y3 =>
 some (y3.1,())
 else
 some (false,()):=zH
theorem zu6 (a1:za):Wb a1 =
 (zbS a1).bind fun y1 =>
 (zil a1.P).bind fun y2 =>
 (WZ a1.T.Marks (y2.1|||y1.1)).bind fun y3 =>
 bif y3.1 then
 (WZ y1.1 a1.T.Black).bind fun y4 =>
 bif y4.1 then
  (zsi a1.T ((a1.H.Objs.length:Int))).bind fun y5 =>
  some (y5.1,())
 else
  some (false,())
 else
 some (false,()):=zH
theorem zgb (s1:Int) (s2:zw) (s3:Int) (s4:Int) (s5:zy):Wr (s1,s2,s3,s4,s5,()) =
 bif decide (s4<s3) then
 (idx s2 s4).bind fun x1 =>
 bif decide (x1<(-1099511627776)) then
  some (.ret (false,()))
 else
  bif decide (1099511627776<x1) then
  some (.ret (false,()))
  else
  some (.again (w64 (s1+x1),s2,s3,w64 (s4+1),s5,()))
 else
 some (.brk (s1,s5,())):=by kernel_rfl
theorem ztz (a1:zy):zhj a1 =
 bif decide (16<((a1.Bal.length:Int))) then
 some (false,())
 else
 bif decide ((bif decide (a1.Pool<(bif decide (a1.Spent<a1.Scanned) then a1.Spent else a1.Scanned)) then a1.Pool else (bif decide (a1.Spent<a1.Scanned) then a1.Spent else a1.Scanned))<0) then
  some (false,())
 else
  bif decide (1099511627776<(bif decide ((bif decide (a1.Scanned<a1.Spent) then a1.Spent else a1.Scanned)<a1.Pool) then a1.Pool else (bif decide (a1.Scanned<a1.Spent) then a1.Spent else a1.Scanned))) then
  some (false,())
  else
  (yf Wr (w64 (a1.Spent+a1.Pool),a1.Bal,(a1.Bal.length:Int),0,a1,())).bind fun st=>match st with
   | .again _=>none
   | .brk y1 =>
   some (decide (y1.1=y1.2.1.Scanned),())
   | .ret y1 =>
   some (y1.1,()):=zH
theorem zv1 (a1:Int) (a2:za):zrJ a1 a2 =
 some (decide (a1<(w64 (0-a2.P.Limit))),()):=zH
end Go.Pe.G
namespace Go.Pe.G
open Go.Pe
theorem uE (s1:zw) (s2:Int) (s3:Int) (s4:za):yV (s1,s2,s3,s4,()) =
 bif decide (s3<s2) then
 (idx s1 s3).bind fun x1 =>
 (zrJ x1 s4).bind fun y2 =>
 bif y2.1 then
  some (.ret (s3,()))
 else
  some (.again (s1,s2,w64 (s3+1),s4,()))
 else
 some (.brk (())):=by kernel_rfl
theorem W8 (a1:zw) (a2:za):ZP a1 a2 =
 (yf yV (a1,(a1.length:Int),0,a2,())).bind fun st=>match st with
  | .again _=>none
  | .brk y1 =>
  some (-1,())
  | .ret y1 =>
  some (y1.1,()):=zH
theorem Wq (a1:zw) (a2:za):wQ a1 a2 =
 (ZP a1 a2).bind fun y1 =>
 some (decide (0<=y1.1),()):=zH
theorem zzK (a1:za):zbp a1 =
 (zbS a1).bind fun y1 =>
 (zbR y1.1).bind fun y2 =>
 (znV a1).bind fun y3 =>
 (zbR (a1.T.Black&&&y3.1)).bind fun y4 =>
 (zhj a1.L).bind fun y5 =>
 bif y5.1 then
 (wQ a1.L.Bal a1).bind fun y6 =>
 bif !y6.1 then
  bif decide (a1.L.Spent=(w64 (a1.P.Price*y2.1))) then
  some (decide (a1.L.Scanned=y4.1),())
  else
  some (false,())
 else
  some (false,())
 else
 some (false,()):=zH
theorem ztE (a1:zi):zhD a1 =
 bif !(decide (a1.Obj=0)) then
 some (true,())
 else
 some (decide (0<((a1.Batch.length:Int))),()):=zH
theorem ZR (s1:List zi) (s2:Int) (s3:Int):xF (s1,s2,s3,()) =
 bif decide (s3<s2) then
 (idx s1 s3).bind fun x1 =>
 (zhD x1).bind fun y2 =>
 bif y2.1 then
  some (.ret (s3,()))
 else
  some (.again (s1,s2,w64 (s3+1),()))
 else
 some (.brk (())):=by kernel_rfl
theorem Z6 (a1:List zi):vh a1 =
 (yf xF (a1,(a1.length:Int),0,())).bind fun st=>match st with
  | .again _=>none
  | .brk y1 =>
  some (-1,())
  | .ret y1 =>
  some (y1.1,()):=zH
theorem ZT (a1:List zi):xD a1 =
 (vh a1).bind fun y1 =>
 some (decide (0<=y1.1),()):=zH
theorem ztA (a1:ze):zhc a1 =
 bif !(decide (a1.Obj=0)) then
 some (true,())
 else
 some (decide (0<(w64 (((a1.Batch.length:Int))+((a1.Buf.length:Int))))),()):=zH
theorem Zx (s1:List ze) (s2:Int) (s3:Int):xu (s1,s2,s3,()) =
 bif decide (s3<s2) then
 (idx s1 s3).bind fun x1 =>
 (zhc x1).bind fun y2 =>
 bif y2.1 then
  some (.ret (s3,()))
 else
  some (.again (s1,s2,w64 (s3+1),()))
 else
 some (.brk (())):=by kernel_rfl
theorem Z0 (a1:List ze):wX a1 =
 (yf xu (a1,(a1.length:Int),0,())).bind fun st=>match st with
  | .again _=>none
  | .brk y1 =>
  some (-1,())
  | .ret y1 =>
  some (y1.1,()):=zH
theorem Zw (a1:List ze):xy a1 =
 (wX a1).bind fun y1 =>
 some (decide (0<=y1.1),()):=zH
theorem zwT (a1:za):zms a1 =
 (zbQ a1).bind fun y1 =>
 bif decide (((y1.1.length:Int))=0) then
 (xD a1.Ws).bind fun y2 =>
 bif !y2.1 then
  (xy a1.Ms).bind fun y3 =>
  some (!y3.1,())
 else
  some (false,())
 else
 some (false,()):=zH
theorem zku (s1:zA) (s2:List ze) (s3:Int) (s4:Int):zak (s1,s2,s3,s4,()) =
 bif decide (s4<s3) then
 (idx s2 s4).bind fun x1 =>
 (zhF x1.Regs).bind fun y2 =>
 some (.again (s1|||y2.1,s2,s3,w64 (s4+1),()))
 else
 some (.brk (s1,())):=by kernel_rfl
theorem zyv (a1:za):zof a1 =
 (yf zak (0#64,a1.Ms,(a1.Ms.length:Int),0,())).bind fun st=>match st with
  | .again _=>none
  | .brk y1 =>
  some (y1.1,())
  | .ret y1 =>
  none:=zH
theorem zxy (a1:za):zoj a1 =
 (zof a1).bind fun y1 =>
 (Vf a1.H (a1.P.Roots|||y1.1)).bind fun y2 =>
 some (y2.1,()):=zH
theorem zpp (a1:za):W2 a1 =
 bif !a1.Done then
 some (true,())
 else
 (zms a1).bind fun y1 =>
 bif y1.1 then
  (zoj a1).bind fun y2 =>
  (zaP a1).bind fun y3 =>
  (WZ (y2.1|||y3.1) a1.T.Marks).bind fun y4 =>
  bif y4.1 then
  some (decide (a1.Work=0),())
  else
  some (false,())
 else
  some (false,()):=zH
theorem Zz (s1:Int) (s2:za):ux (s1,s2,()) =
 bif decide (s1<6) then
 bif decide (s1=5) then
  (W2 s2).bind fun y1 =>
  bif !y1.1 then
  some (.ret (false,()))
  else
  some (.again (w64 (s1+1),s2,()))
 else
  bif decide (s1=4) then
  (zbp s2).bind fun y2 =>
  bif !y2.1 then
   some (.ret (false,()))
  else
   some (.again (w64 (s1+1),s2,()))
  else
  bif decide (s1=3) then
   (Wb s2).bind fun y3 =>
   bif !y3.1 then
   some (.ret (false,()))
   else
   some (.again (w64 (s1+1),s2,()))
  else
   bif decide (s1=2) then
   (UD s2).bind fun y4 =>
   bif !y4.1 then
    some (.ret (false,()))
   else
    some (.again (w64 (s1+1),s2,()))
   else
   bif decide (s1=1) then
    (X4 s2).bind fun y5 =>
    bif !y5.1 then
    some (.ret (false,()))
    else
    some (.again (w64 (s1+1),s2,()))
   else
    bif decide (s1=0) then
    (UI s2).bind fun y6 =>
    bif !y6.1 then
     some (.ret (false,()))
    else
     some (.again (w64 (s1+1),s2,()))
    else
    none
 else
 some (.brk (s2,())):=by kernel_rfl
theorem zxx (a1:za):zbL a1 =
 (yf ux (0,a1,())).bind fun st=>match st with
  | .again _=>none
  | .brk y1 =>
  (XK y1.1.H).bind fun y2 =>
  some (y2.1,())
  | .ret y1 =>
  some (y1.1,()):=zH
theorem zcK (s1:List (List zE)) (s2:Int) (s3:Int) (s4:Int) (s5:Int) (s6:Int) (s7:Int) (s8:Int) (s9:Int) (s10:Int) (s11:Int) (s12:zA) (s13:Int) (s14:Int) (s15:Int) (s16:Int) (s17:Int) (s18:Int) (s19:Int) (s20:Int) (s21:Int) (s22:zA) (s23:zD) (s24:zD) (s25:List (List zE)) (s26:List zm) (s27:zD) (s28:zD) (s29:List (List zE)) (s30:List zm):ze7 (s1,s2,s3,s4,s5,s6,s7,s8,s9,s10,s11,s12,s13,s14,s15,s16,s17,s18,s19,s20,s21,s22,s23,s24,s25,s26,s27,s28,s29,s30,()) =
 bif decide (s2<((s1.length:Int))) then
 (yD (s28++(([([1,0]:zw)]:zD)))).bind fun l1 =>
 (idx s1 s2).bind fun x2 =>
 (yD (s29++(([x2]:List (List zE))))).bind fun l3 =>
 some (.again (s1,w64 (s2+1),s3,s4,s5,s6,s7,s8,s9,s10,s11,s12,s13,s14,s15,s16,s17,s18,s19,s20,s21,s22,s23,s24,s25,s26,s27,l1,l3,s30,()))
 else
 some (.brk (s3,s4,s5,s6,s7,s8,s9,s10,s11,s12,s13,s14,s15,s16,s17,s18,s19,s20,s21,s22,s23,s24,s25,s26,s27,s28,s29,s30,())):=by kernel_rfl
theorem zpb (a1:List (List zE)):zcP a1 =
 (yf ze7 (a1,0,0,0,0,0,0,0,0,0,0,0#64,1,(a1.length:Int),2,1,1,4,2,2,1,1#64,([]:zD),([]:zD),([]:List (List zE)),([]:List zm),([([2]:zw),([0]:zw),([0]:zw)]:zD),([]:zD),([]:List (List zE)),([]:List zm),())).bind fun st=>match st with
  | .again _=>none
  | .brk y1 =>
  let y1a:=y1.2.2.2.2.2.2.2.2;let y1b:=y1a.2.2.2.2.2.2.2.2;let y1c:=y1b.2.2.2.2.2.2.2.2
  some (zd.mk y1a.2.2.1 y1a.2.2.2.1 y1a.2.2.2.2.1 y1a.2.2.2.2.2.1 y1a.2.2.2.2.2.2.1 y1a.2.2.2.2.2.2.2.1 y1b.1 y1b.2.1 (zt.mk y1b.2.2.1 y1c.1) y1b.2.2.2.1 y1c.2.1 y1c.2.2.1 y1c.2.2.2.1,())
  | .ret y1 =>
  none:=zH
theorem zqc (a1:za):U8 a1 =
 some ({a1 with Restarts:=w64 (a1.Restarts+1),D:={a1.D with PC:=0}},()):=zH
theorem zuy (a1:za):zjB a1 =
 bif a1.Done then
 some (a1,())
 else
 bif decide (a1.D.PC=0) then
  some ({a1 with Flag:=false,D:={a1.D with PC:=1}},())
 else
  bif decide (a1.D.PC=1) then
  bif !(decide (a1.Work=0)) then
   some (a1,())
  else
   some ({a1 with D:={a1.D with PC:=2}},())
  else
  bif decide (a1.D.PC=2) then
   bif decide (((a1.Ms.length:Int))=0) then
   some ({a1 with Epoch:=w64 (a1.Epoch+1),D:=zO.mk 4 0},())
   else
   some ({a1 with Epoch:=w64 (a1.Epoch+1),D:=zO.mk 3 0},())
  else
   bif decide (a1.D.PC=3) then
   (idx a1.Acks a1.D.I).bind fun x1 =>
   bif decide (x1<a1.Epoch) then
    some (a1,())
   else
    bif decide ((w64 (a1.D.I+1))=((a1.Ms.length:Int))) then
    some ({a1 with D:=zO.mk 4 (w64 (a1.D.I+1))},())
    else
    some ({a1 with D:={a1.D with I:=w64 (a1.D.I+1)}},())
   else
   bif decide (a1.D.PC=4) then
    bif !(decide (a1.Work=0)) then
    (U8 a1).bind fun y2 =>
    some (y2.1,())
    else
    some ({a1 with D:={a1.D with PC:=5}},())
   else
    bif decide (a1.D.PC=5) then
    bif a1.Flag then
     (U8 a1).bind fun y3 =>
     some (y3.1,())
    else
     some ({a1 with D:={a1.D with PC:=6}},())
    else
    bif decide (a1.D.PC=6) then
     some ({a1 with Done:=true},())
    else
     some (a1,()):=zH
theorem zrO (a1:za) (a2:Int):znE a1 a2 =
 (zjB a1).bind fun y1 =>
 some (y1.1,()):=zH
theorem zAy (a1:zx) (a2:Int):zn0 a1 a2 =
 (zcw (a1.Marks&&&a1.Black) a2).bind fun y1 =>
 bif y1.1 then
 some (2,())
 else
 (zcw a1.Marks a2).bind fun y2 =>
 bif y2.1 then
  some (1,())
 else
  some (0,()):=zH
theorem zyD (a1:zx) (a2:Int):Uy a1 a2 =
 (zn0 a1 a2).bind fun y1 =>
 bif !(decide (y1.1=1)) then
 some (a1,false,())
 else
 (YS a1.Black a2).bind fun y2 =>
 some ({a1 with Black:=y2.1},true,()):=zH
theorem zk0 (a1:List zA) (a2:zU):uy a1 a2 =
 (zaM a1 a2.Head).bind fun y1 =>
 bif decide (a2.Kind=2) then
 (Xq y1.1).bind fun y2 =>
 bif decide (y2.1=0) then
  some (a1,{a2 with H:=y1.1,Out:=2},())
 else
  some (a1,{a2 with H:=y1.1},())
 else
 some (a1,{a2 with H:=y1.1},()):=zH
theorem zni (a1:List zA) (a2:zU):WO a1 a2 =
 (Xq a2.H).bind fun y1 =>
 (X7 a1 (w64 (a2.Next+a2.X)) (BitVec.ofInt 64 y1.1)).bind fun y2 =>
 some (y2.1,()):=zH
theorem zjR (a1:List zA) (a2:zU):uc a1 a2 =
 bif decide (a2.Kind=2) then
 (zaQ ((a2.H >>> 32)+1#64) a2.Y).bind fun y1 =>
 (Wg a1 (YP.mk 3 a2.Head a2.H y1.1)).bind fun y2 =>
 bif !y2.2.2.1 then
  some (y2.1,{a2 with PC:= -1},())
 else
  bif decide (a2.Kind=2) then
  (Xq a2.H).bind fun y3 =>
  some (y2.1,{a2 with X:=y3.1,Out:=1},())
  else
  some (y2.1,{a2 with Out:=1},())
 else
 (zaQ ((a2.H >>> 32)+1#64) a2.X).bind fun y4 =>
 (Wg a1 (YP.mk 3 a2.Head a2.H y4.1)).bind fun y5 =>
 bif !y5.2.2.1 then
  some (y5.1,{a2 with PC:= -1},())
 else
  bif decide (a2.Kind=2) then
  (Xq a2.H).bind fun y6 =>
  some (y5.1,{a2 with X:=y6.1,Out:=1},())
  else
  some (y5.1,{a2 with Out:=1},()):=zH
theorem zhP (a1:List zA) (a2:zU):Yt a1 a2 =
 (Xq a2.H).bind fun y1 =>
 (zaM a1 (w64 (a2.Next+y1.1))).bind fun y2 =>
 some (a1,{a2 with Y:=y2.1.toInt},()):=zH
theorem zwO (a1:List zA) (a2:zU):Va a1 a2 =
 bif decide (a2.Kind=2) then
 bif !(decide (a2.Out=0)) then
  some (a1,a2,())
 else
  bif !(decide (a2.Kind=1)) then
  bif !(decide (a2.Kind=2)) then
   some (a1,a2,())
  else
   bif decide (a2.PC<0) then
   some (a1,a2,())
   else
   bif decide (3<=a2.PC) then
    some (a1,a2,())
   else
    bif decide (a2.PC=2) then
    (uc a1 a2).bind fun y1 =>
    some (y1.1,{y1.2.1 with PC:=w64 (y1.2.1.PC+1)},())
    else
    bif decide (a2.PC=1) then
     (Yt a1 a2).bind fun y2 =>
     some (y2.1,{y2.2.1 with PC:=w64 (y2.2.1.PC+1)},())
    else
     bif decide (a2.PC=0) then
     (uy a1 a2).bind fun y3 =>
     some (y3.1,{y3.2.1 with PC:=w64 (y3.2.1.PC+1)},())
     else
     none
  else
  bif decide (a2.PC<0) then
   some (a1,a2,())
  else
   bif decide (3<=a2.PC) then
   some (a1,a2,())
   else
   bif decide (a2.PC=2) then
    (uc a1 a2).bind fun y4 =>
    some (y4.1,{y4.2.1 with PC:=w64 (y4.2.1.PC+1)},())
   else
    bif decide (a2.PC=1) then
    (Yt a1 a2).bind fun y5 =>
    some (y5.1,{y5.2.1 with PC:=w64 (y5.2.1.PC+1)},())
    else
    bif decide (a2.PC=0) then
     (uy a1 a2).bind fun y6 =>
     some (y6.1,{y6.2.1 with PC:=w64 (y6.2.1.PC+1)},())
    else
     none
 else
 bif !(decide (a2.Out=0)) then
  some (a1,a2,())
 else
  bif !(decide (a2.Kind=1)) then
  bif !(decide (a2.Kind=2)) then
   some (a1,a2,())
  else
   bif decide (a2.PC<0) then
   some (a1,a2,())
   else
   bif decide (3<=a2.PC) then
    some (a1,a2,())
   else
    bif decide (a2.PC=2) then
    (uc a1 a2).bind fun y7 =>
    some (y7.1,{y7.2.1 with PC:=w64 (y7.2.1.PC+1)},())
    else
    bif decide (a2.PC=1) then
     (WO a1 a2).bind fun y8 =>
     some (y8.1,{a2 with PC:=w64 (a2.PC+1)},())
    else
     bif decide (a2.PC=0) then
     (uy a1 a2).bind fun y9 =>
     some (y9.1,{y9.2.1 with PC:=w64 (y9.2.1.PC+1)},())
     else
     none
  else
  bif decide (a2.PC<0) then
   some (a1,a2,())
  else
   bif decide (3<=a2.PC) then
   some (a1,a2,())
   else
   bif decide (a2.PC=2) then
    (uc a1 a2).bind fun y10 =>
    some (y10.1,{y10.2.1 with PC:=w64 (y10.2.1.PC+1)},())
   else
    bif decide (a2.PC=1) then
    (WO a1 a2).bind fun y11 =>
    some (y11.1,{a2 with PC:=w64 (a2.PC+1)},())
    else
    bif decide (a2.PC=0) then
     (uy a1 a2).bind fun y12 =>
     some (y12.1,{y12.2.1 with PC:=w64 (y12.2.1.PC+1)},())
    else
     none:=zH
theorem znb (a1:z5):Zp a1 =
 (Va a1.s.M a1.Worker.C).bind fun y1 =>
 some (y1.2.1.Out,z5.mk {a1.Worker with C:=y1.2.1} {a1.s with M:=y1.1} a1.w,()):=zH
theorem zdv (a1:Int) (a2:z5):WT a1 a2 =
 some ({a2 with Worker:={a2.Worker with PC:=5,Obj:=a1,Slot:=0}},()):=zH
theorem zkx (a1:Int):zpn a1 =
 bif decide (a1=1) then
 some (())
 else
 bif decide (a1=2) then
  none
 else
  bif decide (a1=3) then
  none
  else
  none:=zH
theorem ztI (a1:Int):zpd a1 =
 bif decide (a1=1) then
 none
 else
 bif decide (a1=2) then
  some (())
 else
  bif decide (a1=3) then
  none
  else
  none:=zH
theorem ztV (a1:Int):zo9 a1 =
 bif decide (a1=1) then
 none
 else
 bif decide (a1=2) then
  none
 else
  bif decide (a1=3) then
  some (())
  else
  none:=zH
theorem ztH (a1:Int):zpM a1 =
 bif decide (a1=1) then
 none
 else
 bif decide (a1=2) then
  none
 else
  bif decide (a1=3) then
  none
  else
  some (([]:List Bool),()):=zH
theorem VN (a1:List zA) (a2:zg):vQ a1 a2 =
 (wF a2).bind fun y1 =>
 (um a1 y1.1).bind fun y2 =>
 some (a1,{a2 with B:=y2.1},()):=zH
theorem vw (a1:Int) (a2:zg):wH a1 a2 =
 bif !(decide (a1=1)) then
 bif !(decide (a2.Kind=1)) then
  some ({a2 with X:=0,Out:=a1},())
 else
  some ({a2 with Out:=a1},())
 else
 some ({a2 with Out:=a1},()):=zH
theorem zjN (a1:List zA) (a2:zg):VV a1 a2 =
 (ZU a2).bind fun y1 =>
 (um a1 y1.1).bind fun y2 =>
 (yr ({a2 with T:=y2.1})).bind fun y3 =>
 bif decide (y3.1<=(a2.B-y2.1)) then
 (wH 3 ({a2 with T:=y2.1})).bind fun y4 =>
 some (a1,y4.1,())
 else
 some (a1,{a2 with T:=y2.1},()):=zH
theorem zu1 (a1:List zA) (a2:Int) (a3:zA):We a1 a2 a3 =
 (Wg a1 (YP.mk 2 a2 a3 0#64)).bind fun y1 =>
 some (y1.1,()):=zH
theorem zoP (a1:List zA) (a2:zg):zb1 a1 a2 =
 (uR a2.B a2).bind fun y1 =>
 (We a1 y1.1 (BitVec.ofInt 64 a2.X)).bind fun y2 =>
 some (y2.1,()):=zH
theorem zgO (a1:List zA) (a2:zg):Wa a1 a2 =
 (wH 1 a2).bind fun y1 =>
 (wF y1.1).bind fun y2 =>
 (We a1 y2.1 (y1.1.B+1#64)).bind fun y3 =>
 some (y3.1,y1.1,()):=zH
theorem zmx (a1:List zA) (a2:zg):zfc a1 a2 =
 (wF a2).bind fun y1 =>
 (We a1 y1.1 (a2.B-1#64)).bind fun y2 =>
 some (y2.1,()):=zH
theorem zhT (a1:List zA) (a2:zg):zcg a1 a2 =
 (ZU a2).bind fun y1 =>
 (um a1 y1.1).bind fun y2 =>
 (xS y2.1 (a2.B-1#64)).bind fun y3 =>
 bif y3.1 then
 some (a1,{a2 with PC:=4,T:=y2.1},())
 else
 some (a1,{a2 with T:=y2.1},()):=zH
theorem zk2 (a1:List zA) (a2:zg):zee a1 a2 =
 (uR (a2.B-1#64) a2).bind fun y1 =>
 (um a1 y1.1).bind fun y2 =>
 bif !(decide (a2.T=(a2.B-1#64))) then
 (wH 1 ({a2 with X:=y2.1.toInt})).bind fun y3 =>
 some (a1,y3.1,())
 else
 some (a1,{a2 with X:=y2.1.toInt},()):=zH
theorem zng (a1:List zA) (a2:zg):WS a1 a2 =
 (ZU a2).bind fun y1 =>
 (Wg a1 (YP.mk 3 y1.1 a2.T (a2.T+1#64))).bind fun y2 =>
 some (y2.1,y2.2.2.1,()):=zH
theorem zjW (a1:List zA) (a2:zg):zdw a1 a2 =
 (WS a1 a2).bind fun y1 =>
 bif y1.2.1 then
 some (y1.1,{a2 with PC:=5},())
 else
 some (y1.1,a2,()):=zH
theorem zjM (a1:List zA) (a2:zg):zdA a1 a2 =
 (wH 2 a2).bind fun y1 =>
 (wF y1.1).bind fun y2 =>
 (We a1 y2.1 y1.1.B).bind fun y3 =>
 some (y3.1,y1.1,()):=zH
theorem zlg (a1:List zA) (a2:zg):zej a1 a2 =
 (wH 1 a2).bind fun y1 =>
 (wF y1.1).bind fun y2 =>
 (We a1 y2.1 y1.1.B).bind fun y3 =>
 some (y3.1,y1.1,()):=zH
theorem zkP (a1:List zA) (a2:zg):zdY a1 a2 =
 (ZU a2).bind fun y1 =>
 (um a1 y1.1).bind fun y2 =>
 some (a1,{a2 with T:=y2.1},()):=zH
theorem zln (a1:List zA) (a2:zg):zem a1 a2 =
 (wF a2).bind fun y1 =>
 (um a1 y1.1).bind fun y2 =>
 (xS y2.1 a2.T).bind fun y3 =>
 bif !y3.1 then
 some (a1,{a2 with B:=y2.1,Out:=2},())
 else
 some (a1,{a2 with B:=y2.1},()):=zH
theorem zjS (a1:List zA) (a2:zg):zdx a1 a2 =
 (uR a2.T a2).bind fun y1 =>
 (um a1 y1.1).bind fun y2 =>
 some (a1,{a2 with X:=y2.1.toInt},()):=zH
theorem zhZ (a1:List zA) (a2:zg):zcb a1 a2 =
 (WS a1 a2).bind fun y1 =>
 bif y1.2.1 then
 (wH 1 a2).bind fun y2 =>
 some (y1.1,y2.1,())
 else
 (wH 4 a2).bind fun y3 =>
 some (y1.1,y3.1,()):=zH
theorem znU (a1:List zA) (a2:zg):zc1 a1 a2 =
 Option.or (
 (zpn a2.Kind).bind fun y1 =>
 bif !(decide (a2.Out=0)) then
  some (a1,a2,())
 else
  bif decide (a2.PC<0) then
  some (a1,a2,())
  else
  bif decide (4<=a2.PC) then
   some (a1,a2,())
  else
   bif decide (a2.PC=3) then
   (Wa a1 a2).bind fun y2 =>
   some (y2.1,{y2.2.1 with PC:=w64 (y2.2.1.PC+1)},())
   else
   bif decide (a2.PC=2) then
    (zb1 a1 a2).bind fun y3 =>
    some (y3.1,{a2 with PC:=w64 (a2.PC+1)},())
   else
    bif decide (a2.PC=1) then
    (VV a1 a2).bind fun y4 =>
    some (y4.1,{y4.2.1 with PC:=w64 (y4.2.1.PC+1)},())
    else
    bif decide (a2.PC=0) then
     (vQ a1 a2).bind fun y5 =>
     some (y5.1,{y5.2.1 with PC:=w64 (y5.2.1.PC+1)},())
    else
     none) (
 Option.or (
  (zpd a2.Kind).bind fun y6 =>
  bif !(decide (a2.Out=0)) then
  some (a1,a2,())
  else
  bif decide (a2.PC<0) then
   some (a1,a2,())
  else
   bif decide (7<=a2.PC) then
   some (a1,a2,())
   else
   bif decide (a2.PC=6) then
    (zej a1 a2).bind fun y7 =>
    some (y7.1,{y7.2.1 with PC:=w64 (y7.2.1.PC+1)},())
   else
    bif decide (a2.PC=5) then
    (zdA a1 a2).bind fun y8 =>
    some (y8.1,{y8.2.1 with PC:=w64 (y8.2.1.PC+1)},())
    else
    bif decide (a2.PC=4) then
     (zdw a1 a2).bind fun y9 =>
     some (y9.1,{y9.2.1 with PC:=w64 (y9.2.1.PC+1)},())
    else
     bif decide (a2.PC=3) then
     (zee a1 a2).bind fun y10 =>
     some (y10.1,{y10.2.1 with PC:=w64 (y10.2.1.PC+1)},())
     else
     bif decide (a2.PC=2) then
      (zcg a1 a2).bind fun y11 =>
      some (y11.1,{y11.2.1 with PC:=w64 (y11.2.1.PC+1)},())
     else
      bif decide (a2.PC=1) then
      (zfc a1 a2).bind fun y12 =>
      some (y12.1,{a2 with PC:=w64 (a2.PC+1)},())
      else
      bif decide (a2.PC=0) then
       (vQ a1 a2).bind fun y13 =>
       some (y13.1,{y13.2.1 with PC:=w64 (y13.2.1.PC+1)},())
      else
       none) (
  Option.or (
  (zo9 a2.Kind).bind fun y14 =>
  bif !(decide (a2.Out=0)) then
   some (a1,a2,())
  else
   bif decide (a2.PC<0) then
   some (a1,a2,())
   else
   bif decide (4<=a2.PC) then
    some (a1,a2,())
   else
    bif decide (a2.PC=3) then
    (zcb a1 a2).bind fun y15 =>
    some (y15.1,{y15.2.1 with PC:=w64 (y15.2.1.PC+1)},())
    else
    bif decide (a2.PC=2) then
     (zdx a1 a2).bind fun y16 =>
     some (y16.1,{y16.2.1 with PC:=w64 (y16.2.1.PC+1)},())
    else
     bif decide (a2.PC=1) then
     (zem a1 a2).bind fun y17 =>
     some (y17.1,{y17.2.1 with PC:=w64 (y17.2.1.PC+1)},())
     else
     bif decide (a2.PC=0) then
      (zdY a1 a2).bind fun y18 =>
      some (y18.1,{y18.2.1 with PC:=w64 (y18.2.1.PC+1)},())
     else
      none) (
  (zpM a2.Kind).bind fun y19 =>
  bif !(decide (a2.Out=0)) then
   some (a1,a2,())
  else
   bif decide (a2.PC<0) then
   some (a1,a2,())
   else
   bif decide (((y19.1.length:Int))<=a2.PC) then
    some (a1,a2,())
   else
    none))):=zH
theorem ziM (a1:Int) (a2:Int) (a3:z5):zgJ a1 a2 a3 =
 (xL a3.s.P a2).bind fun y1 =>
 (zeB a1 y1.1 a3.s.P.Cap 0).bind fun y2 =>
 some (y2.1,()):=zH
theorem Vm (a1:Int) (a2:Int) (a3:Int) (a4:Int):zbI a1 a2 a3 a4 =
 some (zU.mk a1 0 a2 a3 0#64 a4 0 0,()):=zH
theorem zfT (a1:Int) (a2:Int) (a3:Int) (a4:z5):zdG a1 a2 a3 a4 =
 (YG a4.s.P).bind fun y1 =>
 (zbI a1 a2 y1.1 a3).bind fun y2 =>
 some (y2.1,()):=zH
theorem zns (a1:z5):WN a1 =
 bif decide (((a1.s.Ws.length:Int))=0) then
 none
 else
 bif decide ((w64 ((a1.Worker.Victim.tmod ((a1.s.Ws.length:Int)))+1))=a1.w) then
  (Xw a1.s.P).bind fun y1 =>
  (zdG 2 y1.1 0 ({a1 with Worker:={a1.Worker with Victim:=w64 ((a1.Worker.Victim.tmod ((a1.s.Ws.length:Int)))+1)}})).bind fun y2 =>
  some ({a1 with Worker:={a1.Worker with PC:=2,Victim:=w64 ((a1.Worker.Victim.tmod ((a1.s.Ws.length:Int)))+1),C:=y2.1}},())
 else
  (zgJ 3 (w64 ((a1.Worker.Victim.tmod ((a1.s.Ws.length:Int)))+1)) ({a1 with Worker:={a1.Worker with Victim:=w64 ((a1.Worker.Victim.tmod ((a1.s.Ws.length:Int)))+1)}})).bind fun y3 =>
  some ({a1 with Worker:={a1.Worker with PC:=1,Victim:=w64 ((a1.Worker.Victim.tmod ((a1.s.Ws.length:Int)))+1),D:=y3.1}},()):=zH
theorem zo1 (a1:z5):VF a1 =
 (zc1 a1.s.M a1.Worker.D).bind fun y1 =>
 bif decide (y1.2.1.Out=1) then
 (WT y1.2.1.X (z5.mk {a1.Worker with Victim:=a1.w,D:=y1.2.1} {a1.s with M:=y1.1} a1.w)).bind fun y2 =>
 some (y2.1,())
 else
 bif decide (y1.2.1.Out=4) then
  (WN (z5.mk {a1.Worker with D:=y1.2.1} {a1.s with M:=y1.1} a1.w)).bind fun y3 =>
  some (y3.1,())
 else
  bif decide (y1.2.1.Out=2) then
  (WN (z5.mk {a1.Worker with D:=y1.2.1} {a1.s with M:=y1.1} a1.w)).bind fun y4 =>
  some (y4.1,())
  else
  some (z5.mk {a1.Worker with D:=y1.2.1} {a1.s with M:=y1.1} a1.w,()):=zH
theorem zmJ (a1:z5):uS a1 =
 (zgJ 2 a1.w a1).bind fun y1 =>
 some ({a1 with Worker:={a1.Worker with PC:=0,Victim:=a1.w,D:=y1.1}},()):=zH
theorem zhz (a1:zD):vv a1 =
 bif a1.isEmpty then
 zmS (
  some (([]:zD),())) (
  (yD ((([]:zD))++a1)).bind fun l1 =>
  some (l1,()))
 else
 (yD ((([]:zD))++a1)).bind fun l2 =>
 some (l2,()):=zH
theorem znh (a1:z5):zbl a1 =
 (idx a1.s.Bins a1.Worker.Bin).bind fun x1 =>
 (vv a1.s.Bins).bind fun y2 =>
 (wj y2.1 a1.Worker.Bin).bind fun n3 =>
 (Wf a1.s.P).bind fun y4 =>
 (zdG 1 y4.1 a1.Worker.Bin (z5.mk {a1.Worker with Batch:=x1} {a1.s with Bins:=y2.1.set n3 ([]:zw)} a1.w)).bind fun y5 =>
 some (z5.mk {a1.Worker with PC:=4,Batch:=x1,C:=y5.1} {a1.s with Bins:=y2.1.set n3 ([]:zw)} a1.w,()):=zH
theorem zsk (a1:z5):Ub a1 =
 bif decide (a1.Worker.Slot=a1.s.H.Slots) then
 some (8,())
 else
 some (5,()):=zH
end Go.Pe.G
namespace Go.Pe.G
open Go.Pe
theorem zqI (a1:zt) (a2:Int) (a3:Int):U9 a1 a2 a3 =
 bif decide (1<=a2) then
 bif decide (a2<=((a1.Objs.length:Int))) then
  bif decide (0<=a3) then
  (idx a1.Objs (w64 (a2-1))).bind fun x1 =>
  some (decide (a3<((x1.length:Int))),())
  else
  some (false,())
 else
  some (false,())
 else
 some (false,()):=zH
theorem zzY (a1:zt) (a2:Int) (a3:Int):zf8 a1 a2 a3 =
 (U9 a1 a2 a3).bind fun y1 =>
 bif !y1.1 then
 some (0,false,())
 else
 (idx a1.Objs (w64 (a2-1))).bind fun x2 =>
 (idx x2 a3).bind fun x3 =>
 some (x3,true,()):=zH
theorem zxq (a1:Int) (a2:Int) (a3:Int):zcu a1 a2 a3 =
 some (zI.mk 0 a1 a2 a3 (zg.mk 0 0 0 0 0#64 0#64 0 0) (zU.mk 0 0 0 0 0#64 0 0 0) 0 0,()):=zH
theorem znn (a1:z5):za4 a1 =
 (zf8 a1.s.H a1.Worker.Obj a1.Worker.Slot).bind fun y1 =>
 bif decide (y1.1=0) then
 (Ub ({a1 with Worker:={a1.Worker with Slot:=w64 (a1.Worker.Slot+1)}})).bind fun y2 =>
 some ({a1 with Worker:={a1.Worker with PC:=y2.1,Slot:=w64 (a1.Worker.Slot+1)}},())
 else
 (zcu 1 y1.1 a1.w).bind fun y3 =>
 some ({a1 with Worker:={a1.Worker with PC:=6,Slot:=w64 (a1.Worker.Slot+1),G:=y3.1}},()):=zH
theorem zhv (a1:zW):zcc a1 =
 some (zW.mk {a1.Grey with PC:=1} {a1.s with Work:=w64 (a1.s.Work+1)},()):=zH
theorem zvM (a1:zx) (a2:Int):zcJ a1 a2 =
 (YS a1.Marks a2).bind fun y1 =>
 bif decide (y1.1=a1.Marks) then
 some (a1,false,())
 else
 (zcw a1.Black a2).bind fun y2 =>
 bif y2.1 then
  some (a1,false,())
 else
  some ({a1 with Marks:=y1.1},true,()):=zH
theorem zl6 (a1:zW):uU a1 =
 (Wf a1.s.P).bind fun y1 =>
 (YG a1.s.P).bind fun y2 =>
 (zbI 2 y1.1 y2.1 0).bind fun y3 =>
 some ({a1 with Grey:={a1.Grey with PC:=5,C:=y3.1}},()):=zH
theorem zk7 (a1:zW):zd3 a1 =
 (zcJ a1.s.T a1.Grey.Obj).bind fun y1 =>
 bif !y1.2.1 then
 some (zW.mk {a1.Grey with PC:=2} {a1.s with T:=y1.1},())
 else
 bif decide (a1.Grey.Mode=1) then
  (xL a1.s.P a1.Grey.Who).bind fun y2 =>
  (zeB 1 y2.1 a1.s.P.Cap a1.Grey.Obj).bind fun y3 =>
  some (zW.mk {a1.Grey with PC:=3,D:=y3.1} {a1.s with T:=y1.1},())
 else
  bif decide (a1.Grey.Mode=2) then
  some (zW.mk {a1.Grey with PC:=4} {a1.s with T:=y1.1},())
  else
  (uU ({a1 with s:={a1.s with T:=y1.1}})).bind fun y4 =>
  some (y4.1,()):=zH
theorem zkX (a1:zW):zd6 a1 =
 some (zW.mk {a1.Grey with Out:=1} {a1.s with Work:=w64 (a1.s.Work-1)},()):=zH
theorem zkU (a1:zW):zdX a1 =
 (zc1 a1.s.M a1.Grey.D).bind fun y1 =>
 bif decide (y1.2.1.Out=1) then
 some (zW.mk {a1.Grey with D:=y1.2.1,Out:=1} {a1.s with M:=y1.1},())
 else
 bif decide (y1.2.1.Out=3) then
  (uU (zW.mk {a1.Grey with D:=y1.2.1} {a1.s with M:=y1.1})).bind fun y2 =>
  some (y2.1,())
 else
  some (zW.mk {a1.Grey with D:=y1.2.1} {a1.s with M:=y1.1},()):=zH
theorem zk5 (a1:zW):zd1 a1 =
 (uU ({a1 with s:={a1.s with Flag:=true}})).bind fun y1 =>
 some (y1.1,()):=zH
theorem zkF (a1:zW):zea a1 =
 (Va a1.s.M a1.Grey.C).bind fun y1 =>
 bif decide (y1.2.1.Out=1) then
 some (zW.mk {a1.Grey with PC:=6,C:=y1.2.1,Bin:=y1.2.1.X} {a1.s with M:=y1.1},())
 else
 bif decide (y1.2.1.Out=2) then
  (uU (zW.mk {a1.Grey with C:=y1.2.1} {a1.s with M:=y1.1})).bind fun y2 =>
  some (y2.1,())
 else
  some (zW.mk {a1.Grey with C:=y1.2.1} {a1.s with M:=y1.1},()):=zH
theorem zlo (a1:zW):zef a1 =
 (vv a1.s.Bins).bind fun y1 =>
 (wj y1.1 a1.Grey.Bin).bind fun n2 =>
 (Xw a1.s.P).bind fun y3 =>
 (YG a1.s.P).bind fun y4 =>
 (zbI 1 y3.1 y4.1 a1.Grey.Bin).bind fun y5 =>
 some ({a1.Grey with PC:=7,C:=y5.1},a1.s.P,a1.s.H,a1.s.M,a1.s.T,a1.s.Work,a1.s.Epoch,a1.s.Flag,a1.s.Done,a1.s.Restarts,a1.s.Acks,a1.s.L,a1.s.Ws,a1.s.Ms,a1.s.D,y1.1.set n2 ([a1.Grey.Obj]:zw),()):=zH
theorem zhN (a1:zW):zcf a1 =
 (Va a1.s.M a1.Grey.C).bind fun y1 =>
 bif decide (y1.2.1.Out=1) then
 some (zW.mk {a1.Grey with C:=y1.2.1,Out:=1} {a1.s with M:=y1.1},())
 else
 some (zW.mk {a1.Grey with C:=y1.2.1} {a1.s with M:=y1.1},()):=zH
theorem zx9 (a1:za) (a2:zI):zen a1 a2 =
 bif !(decide (a2.Out=0)) then
 some (a1,a2,())
 else
 bif decide (a2.Mode<1) then
  some (a1,a2,())
 else
  bif decide (3<a2.Mode) then
  some (a1,a2,())
  else
  bif decide (a2.PC<0) then
   some (a1,a2,())
  else
   bif decide (8<=a2.PC) then
   some (a1,a2,())
   else
   bif decide (a2.PC=7) then
    (zcf (zW.mk a2 a1)).bind fun y1 =>
    some (y1.1.s,y1.1.Grey,())
   else
    bif decide (a2.PC=6) then
    (zef (zW.mk a2 a1)).bind fun y2 =>
    let y2a:=y2.2.2.2.2.2.2.2.2
    some (za.mk y2.2.1 y2.2.2.1 y2.2.2.2.1 y2a.2.2.2.2.2.2.2.1 y2.2.2.2.2.1 y2.2.2.2.2.2.1 y2.2.2.2.2.2.2.1 y2.2.2.2.2.2.2.2.1 y2a.1 y2a.2.1 y2a.2.2.1 y2a.2.2.2.1 y2a.2.2.2.2.1 y2a.2.2.2.2.2.1 y2a.2.2.2.2.2.2.1,y2.1,())
    else
    bif decide (a2.PC=5) then
     (zea (zW.mk a2 a1)).bind fun y3 =>
     some (y3.1.s,y3.1.Grey,())
    else
     bif decide (a2.PC=4) then
     (zd1 (zW.mk a2 a1)).bind fun y4 =>
     some (y4.1.s,y4.1.Grey,())
     else
     bif decide (a2.PC=3) then
      (zdX (zW.mk a2 a1)).bind fun y5 =>
      some (y5.1.s,y5.1.Grey,())
     else
      bif decide (a2.PC=2) then
      (zd6 (zW.mk a2 a1)).bind fun y6 =>
      some (y6.1.s,y6.1.Grey,())
      else
      bif decide (a2.PC=1) then
       (zd3 (zW.mk a2 a1)).bind fun y7 =>
       some (y7.1.s,y7.1.Grey,())
      else
       bif decide (a2.PC=0) then
       (zcc (zW.mk a2 a1)).bind fun y8 =>
       some (y8.1.s,y8.1.Grey,())
       else
       none:=zH
theorem zmh (a1:zy) (a2:Int):Yk a1 a2 =
 bif decide (1<=a2) then
 some (decide (a2<=((a1.Bal.length:Int))),())
 else
 some (false,()):=zH
theorem zsI (a1:Int):zgI a1 =
 some (w64 (a1+1),()):=zH
theorem zay (a1:zy) (a2:Int):YU a1 a2 =
 bif decide (((a1.Bal.length:Int))=((a1.Bal.length:Int))) then
 (VE ((a1.Bal.length:Int))).bind fun n1 =>
 bif decide (a1.Bal.length=((List.replicate n1 ((0:Int))).length)) then
  bif a1.Bal.isEmpty then
  (wj (List.replicate n1 ((0:Int))) (w64 (a2-1))).bind fun n2 =>
  ((List.replicate n1 ((0:Int)))[n2]?).bind fun x3 =>
  (zgI x3).bind fun y4 =>
  (wj (List.replicate n1 ((0:Int))) (w64 (a2-1))).bind fun n5 =>
  some ({a1 with Bal:=(List.replicate n1 ((0:Int))).set n5 y4.1},())
  else
  (wj a1.Bal (w64 (a2-1))).bind fun n6 =>
  (a1.Bal[n6]?).bind fun x7 =>
  (zgI x7).bind fun y8 =>
  (wj a1.Bal (w64 (a2-1))).bind fun n9 =>
  some ({a1 with Bal:=a1.Bal.set n9 y8.1},())
 else
  none
 else
 none:=zH
theorem zuM (a1:zy) (a2:Int):zbE a1 a2 =
 (Yk ({a1 with Scanned:=w64 (a1.Scanned+1)}) a2).bind fun y1 =>
 bif !y1.1 then
 some ({a1 with Scanned:=w64 (a1.Scanned+1),Pool:=w64 (a1.Pool+1)},())
 else
 (YU ({a1 with Scanned:=w64 (a1.Scanned+1)}) a2).bind fun y2 =>
 some (y2.1,()):=zH
theorem znm (a1:z5):zbr a1 =
 bif decide (a1.Worker.PC=0) then
 bif decide (a1.Worker.PC=0) then
  (VF a1).bind fun y1 =>
  some (y1.1,())
 else
  bif decide (a1.Worker.PC=2) then
  (Zp a1).bind fun y2 =>
  bif decide (y2.1=1) then
   some ({y2.2.1 with Worker:={y2.2.1.Worker with PC:=3,Bin:=y2.2.1.Worker.C.X}},())
  else
   bif decide (y2.1=2) then
   (uS y2.2.1).bind fun y3 =>
   some (y3.1,())
   else
   some (y2.2.1,())
  else
  bif decide (a1.Worker.PC=3) then
   (zbl a1).bind fun y4 =>
   some (y4.1,())
  else
   bif decide (a1.Worker.PC=4) then
   (Zp a1).bind fun y5 =>
   bif decide (y5.1=1) then
    some ({y5.2.1 with Worker:={y5.2.1.Worker with PC:=7,Bin:=0}},())
   else
    some (y5.2.1,())
   else
   bif decide (a1.Worker.PC=5) then
    (za4 a1).bind fun y6 =>
    some (y6.1,())
   else
    bif decide (a1.Worker.PC=6) then
    (zen a1.s a1.Worker.G).bind fun y7 =>
    bif decide (y7.2.1.Out=1) then
     (Ub (z5.mk {a1.Worker with G:=y7.2.1} y7.1 a1.w)).bind fun y8 =>
     some (z5.mk {a1.Worker with PC:=y8.1,G:=y7.2.1} y7.1 a1.w,())
    else
     some (z5.mk {a1.Worker with G:=y7.2.1} y7.1 a1.w,())
    else
    bif decide (a1.Worker.PC=7) then
     bif decide (((a1.Worker.Batch.length:Int))=0) then
     (uS a1).bind fun y9 =>
     some (y9.1,())
     else
     (idx a1.Worker.Batch 0).bind fun x10 =>
     (WT x10 a1).bind fun y11 =>
     (cut y11.1.Worker.Batch 1 ((y11.1.Worker.Batch.length:Int))).bind fun l12 =>
     some ({y11.1 with Worker:={y11.1.Worker with Batch:=l12}},())
    else
     bif decide (a1.Worker.PC=8) then
     (Uy a1.s.T a1.Worker.Obj).bind fun y13 =>
     (zbE a1.s.L 0).bind fun y14 =>
     some (z5.mk {a1.Worker with PC:=9} {a1.s with T:=y13.1,L:=y14.1} a1.w,())
     else
     bif decide (a1.Worker.PC=9) then
      some (z5.mk {a1.Worker with PC:=7,Obj:=0} {a1.s with Work:=w64 (a1.s.Work-1)} a1.w,())
     else
      some (a1,())
 else
 bif decide (a1.Worker.PC=1) then
  (VF a1).bind fun y15 =>
  some (y15.1,())
 else
  bif decide (a1.Worker.PC=2) then
  (Zp a1).bind fun y16 =>
  bif decide (y16.1=1) then
   some ({y16.2.1 with Worker:={y16.2.1.Worker with PC:=3,Bin:=y16.2.1.Worker.C.X}},())
  else
   bif decide (y16.1=2) then
   (uS y16.2.1).bind fun y17 =>
   some (y17.1,())
   else
   some (y16.2.1,())
  else
  bif decide (a1.Worker.PC=3) then
   (zbl a1).bind fun y18 =>
   some (y18.1,())
  else
   bif decide (a1.Worker.PC=4) then
   (Zp a1).bind fun y19 =>
   bif decide (y19.1=1) then
    some ({y19.2.1 with Worker:={y19.2.1.Worker with PC:=7,Bin:=0}},())
   else
    some (y19.2.1,())
   else
   bif decide (a1.Worker.PC=5) then
    (za4 a1).bind fun y20 =>
    some (y20.1,())
   else
    bif decide (a1.Worker.PC=6) then
    (zen a1.s a1.Worker.G).bind fun y21 =>
    bif decide (y21.2.1.Out=1) then
     (Ub (z5.mk {a1.Worker with G:=y21.2.1} y21.1 a1.w)).bind fun y22 =>
     some (z5.mk {a1.Worker with PC:=y22.1,G:=y21.2.1} y21.1 a1.w,())
    else
     some (z5.mk {a1.Worker with G:=y21.2.1} y21.1 a1.w,())
    else
    bif decide (a1.Worker.PC=7) then
     bif decide (((a1.Worker.Batch.length:Int))=0) then
     (uS a1).bind fun y23 =>
     some (y23.1,())
     else
     (idx a1.Worker.Batch 0).bind fun x24 =>
     (WT x24 a1).bind fun y25 =>
     (cut y25.1.Worker.Batch 1 ((y25.1.Worker.Batch.length:Int))).bind fun l26 =>
     some ({y25.1 with Worker:={y25.1.Worker with Batch:=l26}},())
    else
     bif decide (a1.Worker.PC=8) then
     (Uy a1.s.T a1.Worker.Obj).bind fun y27 =>
     (zbE a1.s.L 0).bind fun y28 =>
     some (z5.mk {a1.Worker with PC:=9} {a1.s with T:=y27.1,L:=y28.1} a1.w,())
     else
     bif decide (a1.Worker.PC=9) then
      some (z5.mk {a1.Worker with PC:=7,Obj:=0} {a1.s with Work:=w64 (a1.s.Work-1)} a1.w,())
     else
      some (a1,()):=zH
theorem UR (a1:List zi):vW a1 =
 bif a1.isEmpty then
 zmS (
  some (([]:List zi),())) (
  (yD (([]:List zi)++a1)).bind fun l1 =>
  some (l1,()))
 else
 (yD (([]:List zi)++a1)).bind fun l2 =>
 some (l2,()):=zH
theorem zun (a1:za) (a2:Int):zjK a1 a2 =
 bif a1.Done then
 some (a1,())
 else
 bif decide (a2<1) then
  some (a1,())
 else
  bif decide (((a1.Ws.length:Int))<a2) then
  some (a1,())
  else
  (idx a1.Ws (w64 (a2-1))).bind fun x1 =>
  (zbr (z5.mk x1 a1 a2)).bind fun y2 =>
  (vW y2.1.s.Ws).bind fun y3 =>
  (wj y3.1 (w64 (a2-1))).bind fun n4 =>
  some ({y2.1.s with Ws:=y3.1.set n4 y2.1.Worker},()):=zH
theorem zro (a1:zK):ug a1 =
 (idx a1.s.P.Progs (w64 (a1.m-1))).bind fun x1 =>
 (idx x1 a1.Mutator.IP).bind fun x2 =>
 some (x2,()):=zH
theorem YC (a1:zK):Yf a1 =
 some ({a1 with Mutator:={a1.Mutator with PC:=0,IP:=w64 (a1.Mutator.IP+1)}},()):=zH
theorem zm6 (a1:Int) (a2:Int) (a3:zK):Zl a1 a2 a3 =
 (xj a3.Mutator.Regs).bind fun y1 =>
 (wj y1.1 a1).bind fun n2 =>
 (Yf ({a3 with Mutator:={a3.Mutator with Regs:=y1.1.set n2 a2}})).bind fun y3 =>
 some (y3.1,()):=zH
theorem zlc (a1:zK):UN a1 =
 (idx a1.s.Acks (w64 (a1.m-1))).bind fun x1 =>
 bif decide (x1<a1.s.Epoch) then
 some ({a1 with Mutator:={a1.Mutator with PC:=1,Ret:=2,Want:=a1.s.Epoch}},())
 else
 (idx a1.s.P.Progs (w64 (a1.m-1))).bind fun x2 =>
 bif decide (((x2.length:Int))<=a1.Mutator.IP) then
  some (a1,())
 else
  (ug a1).bind fun y3 =>
  bif decide (y3.1.Kind=1) then
  some ({a1 with Mutator:={a1.Mutator with PC:=10}},())
  else
  bif decide (y3.1.Kind=2) then
   some ({a1 with Mutator:={a1.Mutator with PC:=20}},())
  else
   bif decide (y3.1.Kind=3) then
   some ({a1 with Mutator:={a1.Mutator with PC:=30}},())
   else
   bif decide (y3.1.Kind=4) then
    (idx a1.Mutator.Regs y3.1.A).bind fun x4 =>
    (Zl y3.1.R x4 a1).bind fun y5 =>
    some (y5.1,())
   else
    (Zl y3.1.R 0 a1).bind fun y6 =>
    some (y6.1,()):=zH
theorem zk8 (a1:zK):zeh a1 =
 bif decide ((w64 (((a1.Mutator.Buf.length:Int))-1))<0) then
 some ({a1 with Mutator:={a1.Mutator with PC:=a1.Mutator.Ret}},())
 else
 (idx a1.Mutator.Buf (w64 (((a1.Mutator.Buf.length:Int))-1))).bind fun x1 =>
 (zcu 2 x1 a1.m).bind fun y2 =>
 (cut a1.Mutator.Buf 0 (w64 (((a1.Mutator.Buf.length:Int))-1))).bind fun l3 =>
 some ({a1 with Mutator:={a1.Mutator with PC:=3,Buf:=l3,G:=y2.1}},()):=zH
theorem znr (a1:zK):zgz a1 =
 (xj a1.s.Acks).bind fun y1 =>
 (wj y1.1 (w64 (a1.m-1))).bind fun n2 =>
 some ({a1.Mutator with PC:=0},a1.s.P,a1.s.H,a1.s.M,a1.s.Bins,a1.s.T,a1.s.Work,a1.s.Epoch,a1.s.Flag,a1.s.Done,a1.s.Restarts,a1.s.L,a1.s.Ws,a1.s.Ms,a1.s.D,a1.m,y1.1.set n2 a1.Mutator.Want,()):=zH
theorem zjZ (a1:Int) (a2:zK):YX a1 a2 =
 (zen a2.s a2.Mutator.G).bind fun y1 =>
 bif decide (y1.2.1.Out=1) then
 some (zK.mk {a2.Mutator with PC:=a1,G:=y1.2.1} y1.1 a2.m,())
 else
 some (zK.mk {a2.Mutator with G:=y1.2.1} y1.1 a2.m,()):=zH
theorem zkM (a1:zK):zeq a1 =
 (YX 1 a1).bind fun y1 =>
 some (y1.1,()):=zH
theorem zpf (a1:zK):Ug a1 =
 (ug a1).bind fun y1 =>
 (idx a1.Mutator.Regs y1.1.A).bind fun x2 =>
 (ug a1).bind fun y3 =>
 (zf8 a1.s.H x2 y3.1.S).bind fun y4 =>
 some (y4.1,()):=zH
theorem zlY (a1:zK):zfe a1 =
 (ug a1).bind fun y1 =>
 (Ug a1).bind fun y2 =>
 (Zl y1.1.R y2.1 a1).bind fun y3 =>
 some (y3.1,()):=zH
theorem zm5 (a1:zK):zgq a1 =
 (ug a1).bind fun y1 =>
 (idx a1.Mutator.Regs y1.1.A).bind fun x2 =>
 bif decide (x2=0) then
 (Yf a1).bind fun y3 =>
 some (y3.1,())
 else
 (Ug a1).bind fun y4 =>
 some ({a1 with Mutator:={a1.Mutator with PC:=21,Old:=y4.1}},()):=zH
theorem zle (a1:zK):zdT a1 =
 bif decide (a1.Mutator.Old=0) then
 some ({a1 with Mutator:={a1.Mutator with PC:=23,Old:=0}},())
 else
 (zn0 a1.s.T a1.Mutator.Old).bind fun y1 =>
 bif !(decide (y1.1=0)) then
  some ({a1 with Mutator:={a1.Mutator with PC:=23,Old:=0}},())
 else
  some ({a1 with Mutator:={a1.Mutator with PC:=22}},()):=zH
theorem zg7 (a1:zK):zck a1 =
 bif decide (a1.s.P.Buf<=((a1.Mutator.Buf.length:Int))) then
 some ({a1 with Mutator:={a1.Mutator with PC:=1,Ret:=22}},())
 else
 (xj a1.Mutator.Buf).bind fun y1 =>
 (yD (y1.1++([a1.Mutator.Old]:zw))).bind fun l2 =>
 some ({a1 with Mutator:={a1.Mutator with PC:=23,Old:=0,Buf:=l2}},()):=zH
theorem zAd (a1:zt) (a2:Int) (a3:Int) (a4:Int):zp3 a1 a2 a3 a4 =
 (U9 a1 a2 a3).bind fun y1 =>
 bif !y1.1 then
 some (a1,false,())
 else
 bif decide (a4<0) then
  some (a1,false,())
 else
  bif decide (((a1.Objs.length:Int))<a4) then
  some (a1,false,())
  else
  (vv a1.Objs).bind fun y2 =>
  (wj y2.1 (w64 (a2-1))).bind fun n3 =>
  (y2.1[n3]?).bind fun x4 =>
  (xj x4).bind fun y5 =>
  (wj y2.1 (w64 (a2-1))).bind fun n6 =>
  (wj y2.1 (w64 (a2-1))).bind fun n7 =>
  bif decide (n7=n6) then
   (wj y5.1 a3).bind fun n8 =>
   some ({a1 with Objs:=y2.1.set n6 (y5.1.set n8 a4)},true,())
  else
   none:=zH
theorem zkK (a1:zK):zd8 a1 =
 (ug a1).bind fun y1 =>
 (idx a1.Mutator.Regs y1.1.A).bind fun x2 =>
 (idx a1.Mutator.Regs y1.1.R).bind fun x3 =>
 (zp3 a1.s.H x2 y1.1.S x3).bind fun y4 =>
 (Yf ({a1 with s:={a1.s with H:=y4.1}})).bind fun y5 =>
 some (y5.1,()):=zH
theorem zjk (a1:zD):W7 a1 =
 bif decide (0=0)&&decide (((a1.length:Int))=0)&&decide (((a1.length:Int))=0) then
 none
 else
 bif decide (0=0)&&decide (((a1.length:Int))=((a1.length:Int)))&&decide (((a1.length:Int))=((a1.length:Int))) then
  some (a1,())
 else
  bif decide (((a1.length:Int))=((a1.length:Int))) then
  (cut a1 0 ((a1.length:Int))).bind fun l1 =>
  none
  else
  none:=zH
theorem zwx (a1:zt) (a2:Int):zgi a1 a2 =
 (XK a1).bind fun y1 =>
 bif !y1.1 then
 some (a1,0,1,())
 else
 bif decide ((bif decide (64<a2) then 64 else a2)<=((a1.Objs.length:Int))) then
  some (a1,0,4,())
 else
  (W7 a1.Objs).bind fun y2 =>
  bif decide (a1.Slots=a1.Slots) then
  (VE a1.Slots).bind fun n3 =>
  (yD (y2.1++(([(List.replicate n3 ((0:Int)))]:zD)))).bind fun l4 =>
  some ({a1 with Objs:=l4},(l4.length:Int),0,())
  else
  none:=zH
theorem znH (a1:zx) (a2:Int):zcR a1 a2 =
 (zcJ a1 a2).bind fun y1 =>
 bif !y1.2.1 then
 some (a1,false,())
 else
 (Uy y1.1 a2).bind fun y2 =>
 some (y2.1,y2.2.1,()):=zH
theorem zrq (a1:Int) (a2:Int):za8 a1 a2 =
 some (w64 (a1-a2),()):=zH
theorem U5 (a1:zy) (a2:Int) (a3:Int):YI a1 a2 a3 =
 bif decide (((a1.Bal.length:Int))=((a1.Bal.length:Int))) then
 (VE ((a1.Bal.length:Int))).bind fun n1 =>
 bif decide (a1.Bal.length=((List.replicate n1 ((0:Int))).length)) then
  bif a1.Bal.isEmpty then
  (wj (List.replicate n1 ((0:Int))) (w64 (a2-1))).bind fun n2 =>
  ((List.replicate n1 ((0:Int)))[n2]?).bind fun x3 =>
  (za8 x3 a3).bind fun y4 =>
  (wj (List.replicate n1 ((0:Int))) (w64 (a2-1))).bind fun n5 =>
  some ({a1 with Bal:=(List.replicate n1 ((0:Int))).set n5 y4.1},())
  else
  (wj a1.Bal (w64 (a2-1))).bind fun n6 =>
  (a1.Bal[n6]?).bind fun x7 =>
  (za8 x7 a3).bind fun y8 =>
  (wj a1.Bal (w64 (a2-1))).bind fun n9 =>
  some ({a1 with Bal:=a1.Bal.set n9 y8.1},())
 else
  none
 else
 none:=zH
theorem zld (a1:zy) (a2:Int) (a3:Int) (a4:Int):Xl a1 a2 a3 a4 =
 (Yk a1 a2).bind fun y1 =>
 bif y1.1 then
 bif decide (0<=(bif decide (a4<a3) then a4 else a3)) then
  some (decide ((bif decide (a3<a4) then a4 else a3)<=1000000),())
 else
  some (false,())
 else
 some (false,()):=zH
theorem zw3 (a1:zy) (a2:Int) (a3:Int) (a4:Int):zfK a1 a2 a3 a4 =
 (Xl a1 a2 a3 a4).bind fun y1 =>
 bif y1.1 then
 (idx a1.Bal (w64 (a2-1))).bind fun x2 =>
 some (decide ((w64 (0-a4))<=(w64 (x2-a3))),())
 else
 some (false,()):=zH
theorem ztu (a1:zy) (a2:Int) (a3:Int) (a4:Int):zhm a1 a2 a3 a4 =
 (zfK a1 a2 a3 a4).bind fun y1 =>
 bif !y1.1 then
 some (a1,false,())
 else
 (YI ({a1 with Spent:=w64 (a1.Spent+a3)}) a2 a3).bind fun y2 =>
 some (y2.1,true,()):=zH
theorem zkS (a1:zK):zet a1 =
 (zhm a1.s.L a1.m a1.s.P.Price a1.s.P.Limit).bind fun y1 =>
 bif !y1.2.1 then
 some ({a1 with Mutator:={a1.Mutator with PC:=31}},())
 else
 (zgi a1.s.H a1.s.P.Most).bind fun y2 =>
 bif !(decide (y2.2.2.1=0)) then
  (Yf a1).bind fun y3 =>
  some (y3.1,())
 else
  (zcR a1.s.T y2.2.1).bind fun y4 =>
  (ug ({a1 with s:={a1.s with H:=y2.1,T:=y4.1,L:=y1.1}})).bind fun y5 =>
  (Zl y5.1.R y2.2.1 ({a1 with s:={a1.s with H:=y2.1,T:=y4.1,L:=y1.1}})).bind fun y6 =>
  some (y6.1,()):=zH
theorem zsT (a1:Int) (a2:Int):zcd a1 a2 =
 some (w64 (a1+a2),()):=zH
theorem zaL (a1:zy) (a2:Int) (a3:Int):YT a1 a2 a3 =
 bif decide (((a1.Bal.length:Int))=((a1.Bal.length:Int))) then
 (VE ((a1.Bal.length:Int))).bind fun n1 =>
 bif decide (a1.Bal.length=((List.replicate n1 ((0:Int))).length)) then
  bif a1.Bal.isEmpty then
  (wj (List.replicate n1 ((0:Int))) (w64 (a2-1))).bind fun n2 =>
  ((List.replicate n1 ((0:Int)))[n2]?).bind fun x3 =>
  (zcd x3 a3).bind fun y4 =>
  (wj (List.replicate n1 ((0:Int))) (w64 (a2-1))).bind fun n5 =>
  some ({a1 with Bal:=(List.replicate n1 ((0:Int))).set n5 y4.1},())
  else
  (wj a1.Bal (w64 (a2-1))).bind fun n6 =>
  (a1.Bal[n6]?).bind fun x7 =>
  (zcd x7 a3).bind fun y8 =>
  (wj a1.Bal (w64 (a2-1))).bind fun n9 =>
  some ({a1 with Bal:=a1.Bal.set n9 y8.1},())
 else
  none
 else
 none:=zH
theorem zvh (a1:zy) (a2:Int) (a3:Int):zkg a1 a2 a3 =
 (Yk a1 a2).bind fun y1 =>
 bif !y1.1 then
 some (a1,0,())
 else
 bif decide ((bif decide (a1.Pool<a3) then a1.Pool else a3)<=0) then
  some (a1,0,())
 else
  (YT ({a1 with Pool:=w64 (a1.Pool-(bif decide (a1.Pool<a3) then a1.Pool else a3))}) a2 (bif decide (a1.Pool<a3) then a1.Pool else a3)).bind fun y2 =>
  some (y2.1,bif decide (a1.Pool<a3) then a1.Pool else a3,()):=zH
theorem ztJ (a1:zy) (a2:Int) (a3:Int) (a4:Int):zg5 a1 a2 a3 a4 =
 (Xl a1 a2 a3 a4).bind fun y1 =>
 bif !y1.1 then
 some (-1,())
 else
 (zfK a1 a2 a3 a4).bind fun y2 =>
 bif y2.1 then
  some (0,())
 else
  (idx a1.Bal (w64 (a2-1))).bind fun x3 =>
  some (w64 ((w64 (a3-a4))-x3),()):=zH
theorem zmN (a1:Int) (a2:Int) (a3:Int) (a4:zK):XP a1 a2 a3 a4 =
 (YG a4.s.P).bind fun y1 =>
 (zbI a1 a2 y1.1 a4.Mutator.Bin).bind fun y2 =>
 some ({a4 with Mutator:={a4.Mutator with PC:=a3,C:=y2.1}},()):=zH
theorem zlx (a1:zK):zfq a1 =
 (zg5 a1.s.L a1.m a1.s.P.Price a1.s.P.Limit).bind fun y1 =>
 (zkg a1.s.L a1.m y1.1).bind fun y2 =>
 bif decide (y2.2.1=0) then
 (Xw a1.s.P).bind fun y3 =>
 (XP 2 y3.1 32 (zK.mk {a1.Mutator with PC:=0} {a1.s with L:=y2.1} a1.m)).bind fun y4 =>
 some (y4.1,())
 else
 some (zK.mk {a1.Mutator with PC:=0} {a1.s with L:=y2.1} a1.m,()):=zH
theorem zm1 (a1:zK):zf0 a1 =
 (Va a1.s.M a1.Mutator.C).bind fun y1 =>
 bif decide (y1.2.1.Out=1) then
 some (zK.mk {a1.Mutator with PC:=33,Bin:=y1.2.1.X,C:=y1.2.1} {a1.s with M:=y1.1} a1.m,())
 else
 bif decide (y1.2.1.Out=2) then
  some (zK.mk {a1.Mutator with PC:=0,C:=y1.2.1} {a1.s with M:=y1.1} a1.m,())
 else
  some (zK.mk {a1.Mutator with C:=y1.2.1} {a1.s with M:=y1.1} a1.m,()):=zH
theorem zll (a1:zK):zeg a1 =
 (idx a1.s.Bins a1.Mutator.Bin).bind fun x1 =>
 (vv a1.s.Bins).bind fun y2 =>
 (wj y2.1 a1.Mutator.Bin).bind fun n3 =>
 (Wf a1.s.P).bind fun y4 =>
 (XP 1 y4.1 34 (zK.mk {a1.Mutator with Batch:=x1} {a1.s with Bins:=y2.1.set n3 ([]:zw)} a1.m)).bind fun y5 =>
 some (y5.1,()):=zH
theorem zlL (a1:zK):zfb a1 =
 (Va a1.s.M a1.Mutator.C).bind fun y1 =>
 bif decide (y1.2.1.Out=1) then
 some (zK.mk {a1.Mutator with PC:=35,Bin:=0,C:=y1.2.1} {a1.s with M:=y1.1} a1.m,())
 else
 some (zK.mk {a1.Mutator with C:=y1.2.1} {a1.s with M:=y1.1} a1.m,()):=zH
theorem zlm (a1:zK):zep a1 =
 bif decide (0<((a1.Mutator.Batch.length:Int))) then
 (idx a1.Mutator.Batch 0).bind fun x1 =>
 (cut a1.Mutator.Batch 1 ((a1.Mutator.Batch.length:Int))).bind fun l2 =>
 some ({a1 with Mutator:={a1.Mutator with PC:=36,Obj:=x1,Slot:=0,Batch:=l2}},())
 else
 some ({a1 with Mutator:={a1.Mutator with PC:=0}},()):=zH
theorem zrr (a1:zK):zbs a1 =
 bif decide (a1.Mutator.Slot=a1.s.H.Slots) then
 some (38,())
 else
 some (36,()):=zH
theorem zlI (a1:zK):zfi a1 =
 (zf8 a1.s.H a1.Mutator.Obj a1.Mutator.Slot).bind fun y1 =>
 (zbs ({a1 with Mutator:={a1.Mutator with Slot:=w64 (a1.Mutator.Slot+1)}})).bind fun y2 =>
 bif !(decide (y1.1=0)) then
 (zcu 3 y1.1 a1.m).bind fun y3 =>
 some ({a1 with Mutator:={a1.Mutator with PC:=37,Slot:=w64 (a1.Mutator.Slot+1),G:=y3.1}},())
 else
 some ({a1 with Mutator:={a1.Mutator with PC:=y2.1,Slot:=w64 (a1.Mutator.Slot+1)}},()):=zH
theorem znj (a1:zK):zfR a1 =
 (zbs a1).bind fun y1 =>
 (YX y1.1 a1).bind fun y2 =>
 some (y2.1,()):=zH
theorem zjb (a1:zK):zc0 a1 =
 (Uy a1.s.T a1.Mutator.Obj).bind fun y1 =>
 (zbE a1.s.L a1.m).bind fun y2 =>
 some (zK.mk {a1.Mutator with PC:=39} {a1.s with T:=y1.1,L:=y2.1} a1.m,()):=zH
end Go.Pe.G
namespace Go.Pe.G
open Go.Pe
theorem zi3 (a1:zK):zcs a1 =
 some (zK.mk {a1.Mutator with PC:=35,Obj:=0} {a1.s with Work:=w64 (a1.s.Work-1)} a1.m,()):=zH
theorem zmX (a1:zK):zax a1 =
 bif decide (a1.Mutator.PC=0) then
 (UN a1).bind fun y1 =>
 some (y1.1,())
 else
 bif decide (a1.Mutator.PC=1) then
  (zeh a1).bind fun y2 =>
  some (y2.1,())
 else
  bif decide (a1.Mutator.PC=2) then
  (zgz a1).bind fun y3 =>
  let y3a:=y3.2.2.2.2.2.2.2.2;let y3b:=y3a.2.2.2.2.2.2.2.2
  some (zK.mk y3.1 (za.mk y3.2.1 y3.2.2.1 y3.2.2.2.1 y3.2.2.2.2.1 y3.2.2.2.2.2.1 y3.2.2.2.2.2.2.1 y3.2.2.2.2.2.2.2.1 y3a.1 y3a.2.1 y3a.2.2.1 y3b.1 y3a.2.2.2.1 y3a.2.2.2.2.1 y3a.2.2.2.2.2.1 y3a.2.2.2.2.2.2.1) y3a.2.2.2.2.2.2.2.1,())
  else
  bif decide (a1.Mutator.PC=3) then
   (zeq a1).bind fun y4 =>
   some (y4.1,())
  else
   bif decide (a1.Mutator.PC=10) then
   (zfe a1).bind fun y5 =>
   some (y5.1,())
   else
   bif decide (a1.Mutator.PC=20) then
    (zgq a1).bind fun y6 =>
    some (y6.1,())
   else
    bif decide (a1.Mutator.PC=21) then
    (zdT a1).bind fun y7 =>
    some (y7.1,())
    else
    bif decide (a1.Mutator.PC=22) then
     (zck a1).bind fun y8 =>
     some (y8.1,())
    else
     bif decide (a1.Mutator.PC=23) then
     (zd8 a1).bind fun y9 =>
     some (y9.1,())
     else
     bif decide (a1.Mutator.PC=30) then
      (zet a1).bind fun y10 =>
      some (y10.1,())
     else
      bif decide (a1.Mutator.PC=31) then
      (zfq a1).bind fun y11 =>
      some (y11.1,())
      else
      bif decide (a1.Mutator.PC=32) then
       (zf0 a1).bind fun y12 =>
       some (y12.1,())
      else
       bif decide (a1.Mutator.PC=33) then
       (zeg a1).bind fun y13 =>
       some (y13.1,())
       else
       bif decide (a1.Mutator.PC=34) then
        (zfb a1).bind fun y14 =>
        some (y14.1,())
       else
        bif decide (a1.Mutator.PC=35) then
        (zep a1).bind fun y15 =>
        some (y15.1,())
        else
        bif decide (a1.Mutator.PC=36) then
         (zfi a1).bind fun y16 =>
         some (y16.1,())
        else
         bif decide (a1.Mutator.PC=37) then
         (zfR a1).bind fun y17 =>
         some (y17.1,())
         else
         bif decide (a1.Mutator.PC=38) then
          (zc0 a1).bind fun y18 =>
          some (y18.1,())
         else
          bif decide (a1.Mutator.PC=39) then
          (zcs a1).bind fun y19 =>
          some (y19.1,())
          else
          some (a1,()):=zH
theorem VP (a1:List ze):vF a1 =
 bif a1.isEmpty then
 zmS (
  some (([]:List ze),())) (
  (yD (([]:List ze)++a1)).bind fun l1 =>
  some (l1,()))
 else
 (yD (([]:List ze)++a1)).bind fun l2 =>
 some (l2,()):=zH
theorem ztG (a1:za) (a2:Int):zhw a1 a2 =
 bif a1.Done then
 some (a1,())
 else
 bif decide (a2<1) then
  some (a1,())
 else
  bif decide (((a1.Ms.length:Int))<a2) then
  some (a1,())
  else
  (idx a1.Ms (w64 (a2-1))).bind fun x1 =>
  (zax (zK.mk x1 a1 a2)).bind fun y2 =>
  (vF y2.1.s.Ms).bind fun y3 =>
  (wj y3.1 (w64 (a2-1))).bind fun n4 =>
  some ({y2.1.s with Ms:=y3.1.set n4 y2.1.Mutator},()):=zH
theorem zvg (a1:za) (a2:zm):zev a1 a2 =
 (zsj a2).bind fun y1 =>
 bif !y1.1 then
 some (a1,())
 else
 bif decide (a2.Kind=0) then
  (znE a1 a2.N).bind fun y2 =>
  some (y2.1,())
 else
  bif decide (a2.Kind=1) then
  (zjK a1 a2.N).bind fun y3 =>
  some (y3.1,())
  else
  bif decide (a2.Kind=2) then
   (zhw a1 a2.N).bind fun y4 =>
   some (y4.1,())
  else
   none:=zH
theorem zsc (s1:List zm) (s2:List zm) (s3:Int) (s4:Int) (s5:za) (s6:Int) (s7:Int) (s8:Int) (s9:Int) (s10:Int) (s11:Int) (s12:Int) (s13:Int) (s14:Int) (s15:zA) (s16:Int) (s17:zx) (s18:Int) (s19:Int) (s20:Bool) (s21:Bool) (s22:Int) (s23:Int) (s24:Int) (s25:Int) (s26:zO) (s27:zD) (s28:zD) (s29:List (List zE)) (s30:List zm) (s31:zD) (s32:List zA) (s33:zD) (s34:zw) (s35:zw) (s36:List zi) (s37:List ze):zf9 (s1,s2,s3,s4,s5,s6,s7,s8,s9,s10,s11,s12,s13,s14,s15,s16,s17,s18,s19,s20,s21,s22,s23,s24,s25,s26,s27,s28,s29,s30,s31,s32,s33,s34,s35,s36,s37,()) =
 bif decide (s4<s3) then
 (idx s2 s4).bind fun x1 =>
 bif s5.Done then
  some (.ret (s4,s5,()))
 else
  (zev s5 x1).bind fun y2 =>
  some (.again (s1,s2,s3,w64 (s4+1),y2.1,s6,s7,s8,s9,s10,s11,s12,s13,s14,s15,s16,s17,s18,s19,s20,s21,s22,s23,s24,s25,s26,s27,s28,s29,s30,s31,s32,s33,s34,s35,s36,s37,()))
 else
 some (.brk (s1,s5,s6,s7,s8,s9,s10,s11,s12,s13,s14,s15,s16,s17,s18,s19,s20,s21,s22,s23,s24,s25,s26,s27,s28,s29,s30,s31,s32,s33,s34,s35,s36,s37,())):=by kernel_rfl
theorem zw9 (a1:za) (a2:List zm):Vd a1 a2 =
 (yf zf9 (a2,a2,(a2.length:Int),0,a1,0,0,0,0,0,0,0,0,0,0#64,0,zx.mk 0#64 0#64,0,0,false,false,0,0,0,0,zO.mk 0 0,([]:zD),([]:zD),([]:List (List zE)),([]:List zm),([]:zD),([]:List zA),([]:zD),([]:zw),([]:zw),([]:List zi),([]:List ze),())).bind fun st=>match st with
  | .again _=>none
  | .brk y1 =>
  some (y1.2.1,(y1.1.length:Int),())
  | .ret y1 =>
  some (y1.2.1,y1.1,()):=zH
theorem zgt (s1:Int) (s2:zx) (s3:zx):zdP (s1,s2,s3,()) =
 bif decide (s1<64) then
 (yf uF (s1,1,s1,s2,s3,())).bind fun st=>match st with
  | .again _=>none
  | .brk y1 =>
  some (.again (w64 (y1.1+1),y1.2.1,y1.2.2.1,()))
  | .ret y1 =>
  some (.ret (y1.1,y1.2.1,()))
 else
 some (.brk (())):=by kernel_rfl
theorem WA (s1:Int) (s2:Int) (s3:Int) (s4:zx) (s5:zx):uF (s1,s2,s3,s4,s5,()) =
 bif decide (s2<=3) then
 bif decide (s2=3) then
  (zcR s4 (w64 (s1+1))).bind fun y1 =>
  bif y1.2.1 then
  bif (decide (y1.1.Marks=s5.Marks))&&(decide (y1.1.Black=s5.Black)) then
   some (.ret (s2,w64 (s1+1),()))
  else
   some (.again (s1,w64 (s2+1),s3,s4,s5,()))
  else
  some (.again (s1,w64 (s2+1),s3,s4,s5,()))
 else
  bif decide (s2=2) then
  (Uy s4 (w64 (s1+1))).bind fun y2 =>
  bif y2.2.1 then
   bif (decide (y2.1.Marks=s5.Marks))&&(decide (y2.1.Black=s5.Black)) then
   some (.ret (s2,w64 (s1+1),()))
   else
   some (.again (s1,w64 (s2+1),s3,s4,s5,()))
  else
   some (.again (s1,w64 (s2+1),s3,s4,s5,()))
  else
  bif decide (s2=1) then
   (zcJ s4 (w64 (s1+1))).bind fun y3 =>
   bif y3.2.1 then
   bif (decide (y3.1.Marks=s5.Marks))&&(decide (y3.1.Black=s5.Black)) then
    some (.ret (s2,w64 (s1+1),()))
   else
    some (.again (s1,w64 (s2+1),s3,s4,s5,()))
   else
   some (.again (s1,w64 (s2+1),s3,s4,s5,()))
  else
   bif decide (s2=0) then
   none
   else
   none
 else
 some (.brk (s3,s4,s5,())):=by kernel_rfl
theorem ztw (a1:zx) (a2:zx):zh0 a1 a2 =
 bif (decide (a1.Marks=a2.Marks))&&(decide (a1.Black=a2.Black)) then
 some (0,0,())
 else
 (yf zdP (0,a1,a2,())).bind fun st=>match st with
  | .again _=>none
  | .brk y1 =>
  some (-1,0,())
  | .ret y1 =>
  some (y1.1,y1.2.1,()):=zH
theorem zgW (s1:zw) (s2:zw) (s3:Int) (s4:Int):X6 (s1,s2,s3,s4,()) =
 bif decide (s4<s3) then
 (idx s1 s4).bind fun x1 =>
 (idx s2 s4).bind fun x2 =>
 bif !(decide (x1=x2)) then
  some (.ret (false,()))
 else
  some (.again (s1,s2,s3,w64 (s4+1),()))
 else
 some (.brk (())):=by kernel_rfl
theorem zkb (a1:zw) (a2:zw):VT a1 a2 =
 bif !(decide (((a1.length:Int))=((a2.length:Int)))) then
 some (false,())
 else
 (yf X6 (a1,a2,(a1.length:Int),0,())).bind fun st=>match st with
  | .again _=>none
  | .brk y1 =>
  some (true,())
  | .ret y1 =>
  some (y1.1,()):=zH
theorem Zj (s1:zD) (s2:zD) (s3:Int) (s4:Int):xl (s1,s2,s3,s4,()) =
 bif decide (s4<s3) then
 (idx s2 s4).bind fun x1 =>
 (idx s1 s4).bind fun x2 =>
 (VT x1 x2).bind fun y3 =>
 bif !y3.1 then
  some (.ret (false,()))
 else
  some (.again (s1,s2,s3,w64 (s4+1),()))
 else
 some (.brk (())):=by kernel_rfl
theorem ZA (a1:zD) (a2:zD):xC a1 a2 =
 bif !(decide (((a1.length:Int))=((a2.length:Int)))) then
 some (false,())
 else
 (yf xl (a2,a1,(a1.length:Int),0,())).bind fun st=>match st with
  | .again _=>none
  | .brk y1 =>
  some (true,())
  | .ret y1 =>
  some (y1.1,()):=zH
theorem zx8 (a1:zt) (a2:zt):ziB a1 a2 =
 bif decide (a1.Slots=a2.Slots) then
 (xC a1.Objs a2.Objs).bind fun y1 =>
 some (y1.1,())
 else
 some (false,()):=zH
theorem zry (s1:Int) (s2:Int) (s3:zD) (s4:Int) (s5:Int) (s6:zt):zeX (s1,s2,s3,s4,s5,s6,()) =
 bif decide (s5<s4) then
 (idx s3 s5).bind fun x1 =>
 (idx s6.Objs s5).bind fun x2 =>
 bif !(decide (((x1.length:Int))=((x2.length:Int)))) then
  some (.ret (0,()))
 else
  (yf zad (s1,s2,s5,s3,s4,s5,x1,(x1.length:Int),0,s6,())).bind fun st=>match st with
   | .again _=>none
   | .brk y3 =>
   some (.again (y3.1,y3.2.1,y3.2.2.1,y3.2.2.2.1,w64 (y3.2.2.2.2.1+1),y3.2.2.2.2.2.1,()))
   | .ret y3 =>
   none
 else
 some (.brk (s1,s2,())):=by kernel_rfl
theorem zqL (s1:Int) (s2:Int) (s3:Int) (s4:zD) (s5:Int) (s6:Int) (s7:zw) (s8:Int) (s9:Int) (s10:zt):zad (s1,s2,s3,s4,s5,s6,s7,s8,s9,s10,()) =
 bif decide (s9<s8) then
 (idx s7 s9).bind fun x1 =>
 (idx s10.Objs s3).bind fun x2 =>
 (idx x2 s9).bind fun x3 =>
 bif !(decide (x1=x3)) then
  some (.again (w64 (s3+1),w64 (s2+1),s3,s4,s5,s6,s7,s8,w64 (s9+1),s10,()))
 else
  some (.again (s1,s2,s3,s4,s5,s6,s7,s8,w64 (s9+1),s10,()))
 else
 some (.brk (s1,s2,s4,s5,s6,s10,())):=by kernel_rfl
theorem zuZ (a1:zt) (a2:zt):V8 a1 a2 =
 bif !(decide (a1.Slots=a2.Slots)) then
 some (0,())
 else
 bif !(decide (((a1.Objs.length:Int))=((a2.Objs.length:Int)))) then
  some (0,())
 else
  (yf zeX (0,0,a1.Objs,(a1.Objs.length:Int),0,a2,())).bind fun st=>match st with
   | .again _=>none
   | .brk y1 =>
   bif !(decide (y1.2.1=1)) then
   some (0,())
   else
   some (y1.1,())
   | .ret y1 =>
   some (y1.1,()):=zH
theorem zAf (a1:za) (a2:za):za9 a1 a2 =
 (zh0 a1.T a2.T).bind fun y1 =>
 (ziB a1.H a2.H).bind fun y2 =>
 bif y2.1 then
 bif decide (y1.1<0) then
  some (-1,0,())
 else
  bif decide (2<y1.1) then
  some (-1,0,())
  else
  some (y1.1,y1.2.1,())
 else
 (zgi a1.H 64).bind fun y3 =>
 bif decide (y3.2.2.1=0) then
  bif decide (y1.1=3) then
  bif decide (y1.2.1=y3.2.1) then
   (ziB y3.1 a2.H).bind fun y4 =>
   bif y4.1 then
   some (3,y1.2.1,())
   else
   (V8 a1.H a2.H).bind fun y5 =>
   bif decide (y1.1=0) then
    bif decide (0<y5.1) then
    some (4,y5.1,())
    else
    some (-1,0,())
   else
    some (-1,0,())
  else
   (V8 a1.H a2.H).bind fun y6 =>
   bif decide (y1.1=0) then
   bif decide (0<y6.1) then
    some (4,y6.1,())
   else
    some (-1,0,())
   else
   some (-1,0,())
  else
  (V8 a1.H a2.H).bind fun y7 =>
  bif decide (y1.1=0) then
   bif decide (0<y7.1) then
   some (4,y7.1,())
   else
   some (-1,0,())
  else
   some (-1,0,())
 else
  (V8 a1.H a2.H).bind fun y8 =>
  bif decide (y1.1=0) then
  bif decide (0<y8.1) then
   some (4,y8.1,())
  else
   some (-1,0,())
  else
  some (-1,0,()):=zH
theorem zl9 (a1:zA) (a2:Int):zka a1 a2 =
 (zcw a1 a2).bind fun y1 =>
 some (y1.1,()):=zH
theorem zyG (a1:za) (a2:za):zdZ a1 a2 =
 (za9 a1 a2).bind fun y1 =>
 bif decide (a2.L.Scanned<a1.L.Scanned) then
 some (false,())
 else
 bif decide (a2.Epoch<a1.Epoch) then
  some (false,())
 else
  bif decide (y1.1=1) then
  (zaP a1).bind fun y2 =>
  (zka y2.1 y1.2.1).bind fun y3 =>
  some (y3.1,())
  else
  bif decide (y1.1=2) then
   (zfV a1.T).bind fun y4 =>
   (zka y4.1 y1.2.1).bind fun y5 =>
   some (y5.1,())
  else
   some (!(decide (y1.1=(-1))),()):=zH
theorem zlW:zaN =
 (zcP (([(([(zE.mk 5 1 0 0),(zE.mk 2 1 0 0),(zE.mk 3 1 0 0)]:List zE))]:List (List zE)))).bind fun y1 =>
 (ziy y1.1).bind fun y2 =>
 (cut (([(zm.mk 2 1),(zm.mk 2 1),(zm.mk 2 1),(zm.mk 2 1),(zm.mk 2 1),(zm.mk 2 1),(zm.mk 2 1),(zm.mk 2 1)]:List zm)) 0 5).bind fun l3 =>
 (Vd y2.1 l3).bind fun y4 =>
 (cut (([(zm.mk 2 1),(zm.mk 2 1),(zm.mk 2 1),(zm.mk 2 1),(zm.mk 2 1),(zm.mk 2 1),(zm.mk 2 1),(zm.mk 2 1)]:List zm)) 0 6).bind fun l5 =>
 (Vd y2.1 l5).bind fun y6 =>
 (cut (([(zm.mk 2 1),(zm.mk 2 1),(zm.mk 2 1),(zm.mk 2 1),(zm.mk 2 1),(zm.mk 2 1),(zm.mk 2 1),(zm.mk 2 1)]:List zm)) 0 7).bind fun l7 =>
 (Vd y2.1 l7).bind fun y8 =>
 (cut (([(zm.mk 2 1),(zm.mk 2 1),(zm.mk 2 1),(zm.mk 2 1),(zm.mk 2 1),(zm.mk 2 1),(zm.mk 2 1),(zm.mk 2 1)]:List zm)) 0 8).bind fun l9 =>
 (Vd y2.1 l9).bind fun y10 =>
 (za9 y4.1 y6.1).bind fun y11 =>
 (za9 y8.1 y10.1).bind fun y12 =>
 (za9 y10.1 y8.1).bind fun y13 =>
 (za9 y2.1 y2.1).bind fun y14 =>
 (zbL y2.1).bind fun y15 =>
 bif y15.1 then
 (zbL y10.1).bind fun y16 =>
 bif y16.1 then
  bif decide (y11.1=4) then
  bif decide (y11.2.1=1) then
   bif decide (y12.1=3) then
   bif decide (y12.2.1=4) then
    bif decide (y13.1=(-1)) then
    bif decide (y14.1=0) then
     (zbS y10.1).bind fun y17 =>
     bif decide (y17.1=8#64) then
     (zbS y2.1).bind fun y18 =>
     bif decide (y18.1=0#64) then
      (zdZ y4.1 y6.1).bind fun y19 =>
      bif y19.1 then
      (zdZ y8.1 y10.1).bind fun y20 =>
      bif y20.1 then
       (zdZ y10.1 y8.1).bind fun y21 =>
       bif !y21.1 then
       (UI y2.1).bind fun y22 =>
       bif y22.1 then
        (X4 y2.1).bind fun y23 =>
        bif y23.1 then
        (UD y2.1).bind fun y24 =>
        bif y24.1 then
         (Wb y2.1).bind fun y25 =>
         bif y25.1 then
         (zbp y10.1).bind fun y26 =>
         bif y26.1 then
          (W2 y2.1).bind fun y27 =>
          some (y27.1,())
         else
          some (false,())
         else
         some (false,())
        else
         some (false,())
        else
        some (false,())
       else
        some (false,())
       else
       some (false,())
      else
       some (false,())
      else
      some (false,())
     else
      some (false,())
     else
     some (false,())
    else
     some (false,())
    else
    some (false,())
   else
    some (false,())
   else
   some (false,())
  else
   some (false,())
  else
  some (false,())
 else
  some (false,())
 else
 some (false,()):=zH
theorem zgP (a1:zY):zS a1 =
 bif decide (((a1.L.length:Int))<=a1.At) then
 some (0,a1,())
 else
 (idx a1.L (w64 ((w64 (a1.At+1))-1))).bind fun x1 =>
 some ((x1.toNat:Int),{a1 with At:=w64 (a1.At+1)},()):=zH
theorem zi7 (a1:Int) (a2:Int) (a3:zY):W9 a1 a2 a3 =
 (zS a3).bind fun y1 =>
 (wj ([1,1,2,2,2,3,4,5]:zw) (y1.1.tmod 8)).bind fun n2 =>
 (([1,1,2,2,2,3,4,5]:zw)[n2]?).bind fun x3 =>
 (zS y1.2.1).bind fun y4 =>
 bif decide (a1=0) then
 none
 else
 bif decide (x3=1) then
  (zS y4.2.1).bind fun y5 =>
  bif decide (a1=0) then
  none
  else
  bif decide (x3<3) then
   (zS y5.2.1).bind fun y6 =>
   bif decide (a2=0) then
   none
   else
   some (zE.mk x3 (y4.1.tmod a1) (y5.1.tmod a1) (y6.1.tmod a2),y6.2.1,())
  else
   some (zE.mk x3 (y4.1.tmod a1) (y5.1.tmod a1) 0,y5.2.1,())
 else
  bif decide (x3=2) then
  (zS y4.2.1).bind fun y7 =>
  bif decide (a1=0) then
   none
  else
   bif decide (x3<3) then
   (zS y7.2.1).bind fun y8 =>
   bif decide (a2=0) then
    none
   else
    some (zE.mk x3 (y4.1.tmod a1) (y7.1.tmod a1) (y8.1.tmod a2),y8.2.1,())
   else
   some (zE.mk x3 (y4.1.tmod a1) (y7.1.tmod a1) 0,y7.2.1,())
  else
  bif decide (x3=4) then
   (zS y4.2.1).bind fun y9 =>
   bif decide (a1=0) then
   none
   else
   bif decide (x3<3) then
    (zS y9.2.1).bind fun y10 =>
    bif decide (a2=0) then
    none
    else
    some (zE.mk x3 (y4.1.tmod a1) (y9.1.tmod a1) (y10.1.tmod a2),y10.2.1,())
   else
    some (zE.mk x3 (y4.1.tmod a1) (y9.1.tmod a1) 0,y9.2.1,())
  else
   bif decide (x3<3) then
   (zS y4.2.1).bind fun y11 =>
   bif decide (a2=0) then
    none
   else
    some (zE.mk x3 (y4.1.tmod a1) 0 (y11.1.tmod a2),y11.2.1,())
   else
   some (zE.mk x3 (y4.1.tmod a1) 0 0,y4.2.1,()):=zH
end Go.Pe.G
namespace Go.Pe.G
open Go.Pe
theorem zm0 (s1:Int) (s2:Int) (s3:Int) (s4:Int) (s5:Int) (s6:Int) (s7:Int) (s8:Int) (s9:Int) (s10:Int) (s11:Int) (s12:zA) (s13:zY) (s14:Int) (s15:Int) (s16:Int) (s17:Int) (s18:Int) (s19:Int) (s20:Int) (s21:Int) (s22:Int) (s23:zA) (s24:zD) (s25:zD) (s26:List (List zE)) (s27:List zm) (s28:zD) (s29:zD) (s30:List (List zE)) (s31:List zm):WD (s1,s2,s3,s4,s5,s6,s7,s8,s9,s10,s11,s12,s13,s14,s15,s16,s17,s18,s19,s20,s21,s22,s23,s24,s25,s26,s27,s28,s29,s30,s31,()) =
 bif decide (s2<s1) then
 (yf XQ (s1,s2,0,s3,s4,s5,s6,s7,s8,s9,s10,s11,s12,s13,s14,s15,s16,s17,s18,s19,s20,s21,s22,s23,([]:zw),s24,s25,s26,s27,s28,s29,s30,s31,())).bind fun st=>match st with
  | .again _=>none
  | .brk y1 =>
  let y1a:=y1.2.2.2.2.2.2.2.2;let y1b:=y1a.2.2.2.2.2.2.2.2;let y1c:=y1b.2.2.2.2.2.2.2.2
  (yD (y1c.2.2.2.2.1++(([y1b.2.2.2.2.2.2.2.1]:zD)))).bind fun l2 =>
  some (.again (y1.1,w64 (y1.2.1+1),y1.2.2.1,y1.2.2.2.1,y1.2.2.2.2.1,y1.2.2.2.2.2.1,y1.2.2.2.2.2.2.1,y1.2.2.2.2.2.2.2.1,y1a.1,y1a.2.1,y1a.2.2.1,y1a.2.2.2.1,y1a.2.2.2.2.1,y1a.2.2.2.2.2.1,y1a.2.2.2.2.2.2.1,y1a.2.2.2.2.2.2.2.1,y1b.1,y1b.2.1,y1b.2.2.1,y1b.2.2.2.1,y1b.2.2.2.2.1,y1b.2.2.2.2.2.1,y1b.2.2.2.2.2.2.1,y1c.1,y1c.2.1,y1c.2.2.1,y1c.2.2.2.1,l2,y1c.2.2.2.2.2.1,y1c.2.2.2.2.2.2.1,y1c.2.2.2.2.2.2.2.1,()))
  | .ret y1 =>
  some (.ret (()))
 else
 some (.brk (s1,s3,s4,s5,s6,s7,s8,s9,s10,s11,s12,s13,s14,s15,s16,s17,s18,s19,s20,s21,s22,s23,s24,s25,s26,s27,s28,s29,s30,s31,())):=by kernel_rfl
theorem zlS (s1:Int) (s2:Int) (s3:Int) (s4:Int) (s5:Int) (s6:Int) (s7:Int) (s8:Int) (s9:Int) (s10:Int) (s11:Int) (s12:Int) (s13:zA) (s14:zY) (s15:Int) (s16:Int) (s17:Int) (s18:Int) (s19:Int) (s20:Int) (s21:Int) (s22:Int) (s23:Int) (s24:zA) (s25:zw) (s26:zD) (s27:zD) (s28:List (List zE)) (s29:List zm) (s30:zD) (s31:zD) (s32:List (List zE)) (s33:List zm):XQ (s1,s2,s3,s4,s5,s6,s7,s8,s9,s10,s11,s12,s13,s14,s15,s16,s17,s18,s19,s20,s21,s22,s23,s24,s25,s26,s27,s28,s29,s30,s31,s32,s33,()) =
 bif decide (s3<s23) then
 (zS s14).bind fun y1 =>
 bif decide ((w64 (s1+1))=0) then
  none
 else
  (yD (s25++(([(y1.1.tmod (w64 (s1+1)))]:zw)))).bind fun l2 =>
  some (.again (s1,s2,w64 (s3+1),s4,s5,s6,s7,s8,s9,s10,s11,s12,s13,y1.2.1,s15,s16,s17,s18,s19,s20,s21,s22,s23,s24,l2,s26,s27,s28,s29,s30,s31,s32,s33,()))
 else
 some (.brk (s1,s2,s4,s5,s6,s7,s8,s9,s10,s11,s12,s13,s14,s15,s16,s17,s18,s19,s20,s21,s22,s23,s24,s25,s26,s27,s28,s29,s30,s31,s32,s33,())):=by kernel_rfl
theorem zlU (s1:Int) (s2:Int) (s3:Int) (s4:Int) (s5:Int) (s6:Int) (s7:Int) (s8:Int) (s9:Int) (s10:Int) (s11:Int) (s12:zA) (s13:zY) (s14:Int) (s15:Int) (s16:Int) (s17:Int) (s18:Int) (s19:Int) (s20:Int) (s21:Int) (s22:Int) (s23:zA) (s24:zD) (s25:zD) (s26:List (List zE)) (s27:List zm) (s28:zD) (s29:zD) (s30:List (List zE)) (s31:List zm):XX (s1,s2,s3,s4,s5,s6,s7,s8,s9,s10,s11,s12,s13,s14,s15,s16,s17,s18,s19,s20,s21,s22,s23,s24,s25,s26,s27,s28,s29,s30,s31,()) =
 bif decide (s2<s15) then
 (yf XS (s1,s2,0,s3,s4,s5,s6,s7,s8,s9,s10,s11,s12,s13,s14,s15,s16,s17,s18,s19,s20,s21,s22,s23,([]:zw),s24,s25,s26,s27,s28,s29,s30,s31,())).bind fun st=>match st with
  | .again _=>none
  | .brk y1 =>
  let y1a:=y1.2.2.2.2.2.2.2.2;let y1b:=y1a.2.2.2.2.2.2.2.2;let y1c:=y1b.2.2.2.2.2.2.2.2
  bif decide (((y1b.2.2.2.2.2.2.2.1.length:Int))=0) then
   (zS y1a.2.2.2.2.1).bind fun y2 =>
   (yf Yh (y1.1,y1.2.1,y2.1.tmod 8,y1.2.2.1,y1.2.2.2.1,y1.2.2.2.2.1,y1.2.2.2.2.2.1,y1.2.2.2.2.2.2.1,y1.2.2.2.2.2.2.2.1,y1a.1,y1a.2.1,y1a.2.2.1,y1a.2.2.2.1,y2.2.1,y1a.2.2.2.2.2.1,y1a.2.2.2.2.2.2.1,y1a.2.2.2.2.2.2.2.1,y1b.1,y1b.2.1,y1b.2.2.1,y1b.2.2.2.1,y1b.2.2.2.2.1,y1b.2.2.2.2.2.1,y1b.2.2.2.2.2.2.1,([0]:zw),([]:List zE),y1c.1,y1c.2.1,y1c.2.2.1,y1c.2.2.2.1,y1c.2.2.2.2.1,y1c.2.2.2.2.2.1,y1c.2.2.2.2.2.2.1,y1c.2.2.2.2.2.2.2.1,())).bind fun st=>match st with
    | .again _=>none
    | .brk y3 =>
    let y3a:=y3.2.2.2.2.2.2.2.2;let y3b:=y3a.2.2.2.2.2.2.2.2;let y3c:=y3b.2.2.2.2.2.2.2.2;let y3d:=y3c.2.2.2.2.2.2.2.2
    (yD (y3c.2.2.2.2.2.2.1++(([y3b.2.2.2.2.2.2.2.1]:zD)))).bind fun l4 =>
    (yD (y3c.2.2.2.2.2.2.2.1++(([y3c.1]:List (List zE))))).bind fun l5 =>
    some (.again (y3.1,w64 (y3.2.1+1),y3.2.2.1,y3.2.2.2.1,y3.2.2.2.2.1,y3.2.2.2.2.2.1,y3.2.2.2.2.2.2.1,y3.2.2.2.2.2.2.2.1,y3a.1,y3a.2.1,y3a.2.2.1,y3a.2.2.2.1,y3a.2.2.2.2.1,y3a.2.2.2.2.2.1,y3a.2.2.2.2.2.2.1,y3a.2.2.2.2.2.2.2.1,y3b.1,y3b.2.1,y3b.2.2.1,y3b.2.2.2.1,y3b.2.2.2.2.1,y3b.2.2.2.2.2.1,y3b.2.2.2.2.2.2.1,y3c.2.1,y3c.2.2.1,y3c.2.2.2.1,y3c.2.2.2.2.1,y3c.2.2.2.2.2.1,l4,l5,y3d.1,()))
    | .ret y3 =>
    some (.ret (()))
  else
   (zS y1a.2.2.2.2.1).bind fun y6 =>
   (yf Yh (y1.1,y1.2.1,y6.1.tmod 8,y1.2.2.1,y1.2.2.2.1,y1.2.2.2.2.1,y1.2.2.2.2.2.1,y1.2.2.2.2.2.2.1,y1.2.2.2.2.2.2.2.1,y1a.1,y1a.2.1,y1a.2.2.1,y1a.2.2.2.1,y6.2.1,y1a.2.2.2.2.2.1,y1a.2.2.2.2.2.2.1,y1a.2.2.2.2.2.2.2.1,y1b.1,y1b.2.1,y1b.2.2.1,y1b.2.2.2.1,y1b.2.2.2.2.1,y1b.2.2.2.2.2.1,y1b.2.2.2.2.2.2.1,y1b.2.2.2.2.2.2.2.1,([]:List zE),y1c.1,y1c.2.1,y1c.2.2.1,y1c.2.2.2.1,y1c.2.2.2.2.1,y1c.2.2.2.2.2.1,y1c.2.2.2.2.2.2.1,y1c.2.2.2.2.2.2.2.1,())).bind fun st=>match st with
    | .again _=>none
    | .brk y7 =>
    let y7a:=y7.2.2.2.2.2.2.2.2;let y7b:=y7a.2.2.2.2.2.2.2.2;let y7c:=y7b.2.2.2.2.2.2.2.2;let y7d:=y7c.2.2.2.2.2.2.2.2
    (yD (y7c.2.2.2.2.2.2.1++(([y7b.2.2.2.2.2.2.2.1]:zD)))).bind fun l8 =>
    (yD (y7c.2.2.2.2.2.2.2.1++(([y7c.1]:List (List zE))))).bind fun l9 =>
    some (.again (y7.1,w64 (y7.2.1+1),y7.2.2.1,y7.2.2.2.1,y7.2.2.2.2.1,y7.2.2.2.2.2.1,y7.2.2.2.2.2.2.1,y7.2.2.2.2.2.2.2.1,y7a.1,y7a.2.1,y7a.2.2.1,y7a.2.2.2.1,y7a.2.2.2.2.1,y7a.2.2.2.2.2.1,y7a.2.2.2.2.2.2.1,y7a.2.2.2.2.2.2.2.1,y7b.1,y7b.2.1,y7b.2.2.1,y7b.2.2.2.1,y7b.2.2.2.2.1,y7b.2.2.2.2.2.1,y7b.2.2.2.2.2.2.1,y7c.2.1,y7c.2.2.1,y7c.2.2.2.1,y7c.2.2.2.2.1,y7c.2.2.2.2.2.1,l8,l9,y7d.1,()))
    | .ret y7 =>
    some (.ret (()))
  | .ret y1 =>
  some (.ret (()))
 else
 some (.brk (s3,s4,s5,s6,s7,s8,s9,s10,s11,s12,s14,s15,s16,s17,s18,s19,s20,s21,s22,s23,s24,s25,s26,s27,s28,s29,s30,s31,())):=by kernel_rfl
theorem zl4 (s1:Int) (s2:Int) (s3:Int) (s4:Int) (s5:Int) (s6:Int) (s7:Int) (s8:Int) (s9:Int) (s10:Int) (s11:Int) (s12:Int) (s13:zA) (s14:zY) (s15:Int) (s16:Int) (s17:Int) (s18:Int) (s19:Int) (s20:Int) (s21:Int) (s22:Int) (s23:Int) (s24:zA) (s25:zw) (s26:zD) (s27:zD) (s28:List (List zE)) (s29:List zm) (s30:zD) (s31:zD) (s32:List (List zE)) (s33:List zm):XS (s1,s2,s3,s4,s5,s6,s7,s8,s9,s10,s11,s12,s13,s14,s15,s16,s17,s18,s19,s20,s21,s22,s23,s24,s25,s26,s27,s28,s29,s30,s31,s32,s33,()) =
 (zS s14).bind fun y1 =>
 bif decide (s3<(w64 (1+(y1.1.tmod 3)))) then
 (zS y1.2.1).bind fun y2 =>
 bif decide ((w64 (s1+1))=0) then
  none
 else
  (yD (s25++(([(y2.1.tmod (w64 (s1+1)))]:zw)))).bind fun l3 =>
  some (.again (s1,s2,w64 (s3+1),s4,s5,s6,s7,s8,s9,s10,s11,s12,s13,y2.2.1,s15,s16,s17,s18,s19,s20,s21,s22,s23,s24,l3,s26,s27,s28,s29,s30,s31,s32,s33,()))
 else
 some (.brk (s1,s2,s4,s5,s6,s7,s8,s9,s10,s11,s12,s13,y1.2.1,s15,s16,s17,s18,s19,s20,s21,s22,s23,s24,s25,s26,s27,s28,s29,s30,s31,s32,s33,())):=by kernel_rfl
theorem zmG (s1:Int) (s2:Int) (s3:Int) (s4:Int) (s5:Int) (s6:Int) (s7:Int) (s8:Int) (s9:Int) (s10:Int) (s11:Int) (s12:Int) (s13:zA) (s14:zY) (s15:Int) (s16:Int) (s17:Int) (s18:Int) (s19:Int) (s20:Int) (s21:Int) (s22:Int) (s23:Int) (s24:zA) (s25:zw) (s26:List zE) (s27:zD) (s28:zD) (s29:List (List zE)) (s30:List zm) (s31:zD) (s32:zD) (s33:List (List zE)) (s34:List zm):Yh (s1,s2,s3,s4,s5,s6,s7,s8,s9,s10,s11,s12,s13,s14,s15,s16,s17,s18,s19,s20,s21,s22,s23,s24,s25,s26,s27,s28,s29,s30,s31,s32,s33,s34,()) =
 bif decide (0<s3) then
 (W9 ((s25.length:Int)) s23 s14).bind fun y1 =>
 (yD (s26++([y1.1]:List zE))).bind fun l2 =>
 some (.again (s1,s2,w64 (s3-1),s4,s5,s6,s7,s8,s9,s10,s11,s12,s13,y1.2.1,s15,s16,s17,s18,s19,s20,s21,s22,s23,s24,s25,l2,s27,s28,s29,s30,s31,s32,s33,s34,()))
 else
 some (.brk (s1,s2,s4,s5,s6,s7,s8,s9,s10,s11,s12,s13,s14,s15,s16,s17,s18,s19,s20,s21,s22,s23,s24,s25,s26,s27,s28,s29,s30,s31,s32,s33,s34,())):=by kernel_rfl
theorem zqx (a1:List (BitVec 8)):zdI a1 =
 (cut a1 0 (bif decide (90<((a1.length:Int))) then 90 else ((a1.length:Int)))).bind fun l1 =>
 (zS (zY.mk l1 0)).bind fun y2 =>
 (zS y2.2.1).bind fun y3 =>
 (zS y3.2.1).bind fun y4 =>
 (zS y4.2.1).bind fun y5 =>
 (zS y5.2.1).bind fun y6 =>
 (zS y6.2.1).bind fun y7 =>
 (zS y7.2.1).bind fun y8 =>
 (zS y8.2.1).bind fun y9 =>
 (zS y9.2.1).bind fun y10 =>
 (zS y10.2.1).bind fun y11 =>
 (yf WD (w64 (1+(y10.1.tmod 6)),0,0,0,0,0,0,0,0,0,0,0#64,y11.2.1,w64 (1+(y2.1.tmod 3)),y3.1.tmod 3,w64 (1+(y4.1.tmod 3)),w64 (1+(y5.1.tmod 2)),w64 (1+(y6.1.tmod 3)),w64 ((w64 (1+(y10.1.tmod 6)))+(y11.1.tmod 4)),y7.1.tmod 4,y8.1.tmod 4,w64 (1+(y9.1.tmod 2)),0#64,([]:zD),([]:zD),([]:List (List zE)),([]:List zm),([]:zD),([]:zD),([]:List (List zE)),([]:List zm),())).bind fun st=>match st with
  | .again _=>none
  | .brk y12 =>
  let y12a:=y12.2.2.2.2.2.2.2.2;let y12b:=y12a.2.2.2.2.2.2.2.2;let y12c:=y12b.2.2.2.2.2.2.2.2
  (zS y12a.2.2.2.1).bind fun y13 =>
  bif decide ((w64 (y12.1+1))=0) then
  none
  else
  (YS 0#64 (y13.1.tmod (w64 (y12.1+1)))).bind fun y14 =>
  (yf XX (y12.1,0,y12.2.1,y12.2.2.1,y12.2.2.2.1,y12.2.2.2.2.1,y12.2.2.2.2.2.1,y12.2.2.2.2.2.2.1,y12.2.2.2.2.2.2.2.1,y12a.1,y12a.2.1,y12a.2.2.1,y13.2.1,y12a.2.2.2.2.1,y12a.2.2.2.2.2.1,y12a.2.2.2.2.2.2.1,y12a.2.2.2.2.2.2.2.1,y12b.1,y12b.2.1,y12b.2.2.1,y12b.2.2.2.1,y12b.2.2.2.2.1,y14.1,y12b.2.2.2.2.2.2.1,y12b.2.2.2.2.2.2.2.1,y12c.1,y12c.2.1,y12c.2.2.1,y12c.2.2.2.1,y12c.2.2.2.2.1,y12c.2.2.2.2.2.1,())).bind fun st=>match st with
   | .again _=>none
   | .brk y15 =>
   let y15a:=y15.2.2.2.2.2.2.2.2;let y15b:=y15a.2.2.2.2.2.2.2.2;let y15c:=y15b.2.2.2.2.2.2.2.2
   some (zd.mk y15a.2.2.1 y15a.2.2.2.1 y15a.2.2.2.2.1 y15a.2.2.2.2.2.1 y15a.2.2.2.2.2.2.1 y15a.2.2.2.2.2.2.2.1 y15b.1 y15b.2.1 (zt.mk y15b.2.2.1 y15c.1) y15b.2.2.2.1 y15c.2.1 y15c.2.2.1 y15c.2.2.2.1,())
   | .ret y15 =>
   none
  | .ret y12 =>
  none:=zH
theorem zmY (s1:List (BitVec 8)) (s2:Int) (s3:Int) (s4:zd) (s5:List zm):zap (s1,s2,s3,s4,s5,()) =
 bif decide (s3<((s1.length:Int))) then
 bif decide (((s5.length:Int))<s2) then
  (idx s1 s3).bind fun x1 =>
  bif decide ((w64 ((w64 (1+s4.Workers))+s4.Mutators))=0) then
  none
  else
  bif decide (s4.Workers<(((x1.toNat:Int)).tmod (w64 ((w64 (1+s4.Workers))+s4.Mutators)))) then
   (yf uC (s1,s2,s3,0,s4,s5,zm.mk 2 (w64 ((((x1.toNat:Int)).tmod (w64 ((w64 (1+s4.Workers))+s4.Mutators)))-s4.Workers)),())).bind fun st=>match st with
    | .again _=>none
    | .brk y2 =>
    some (.again (y2.1,y2.2.1,w64 (y2.2.2.1+1),y2.2.2.2.1,y2.2.2.2.2.1,()))
    | .ret y2 =>
    some (.ret (()))
  else
   bif decide (0<(((x1.toNat:Int)).tmod (w64 ((w64 (1+s4.Workers))+s4.Mutators)))) then
   (yf uC (s1,s2,s3,0,s4,s5,zm.mk 1 (((x1.toNat:Int)).tmod (w64 ((w64 (1+s4.Workers))+s4.Mutators))),())).bind fun st=>match st with
    | .again _=>none
    | .brk y3 =>
    some (.again (y3.1,y3.2.1,w64 (y3.2.2.1+1),y3.2.2.2.1,y3.2.2.2.2.1,()))
    | .ret y3 =>
    some (.ret (()))
   else
   (yf uC (s1,s2,s3,0,s4,s5,zm.mk 0 0,())).bind fun st=>match st with
    | .again _=>none
    | .brk y4 =>
    some (.again (y4.1,y4.2.1,w64 (y4.2.2.1+1),y4.2.2.2.1,y4.2.2.2.2.1,()))
    | .ret y4 =>
    some (.ret (()))
 else
  some (.brk (s5,()))
 else
 some (.brk (s5,())):=by kernel_rfl
theorem zk3 (s1:List (BitVec 8)) (s2:Int) (s3:Int) (s4:Int) (s5:zd) (s6:List zm) (s7:zm):uC (s1,s2,s3,s4,s5,s6,s7,()) =
 (idx s1 s3).bind fun x1 =>
 bif decide (s4<=(w64 (((x1.toNat:Int)).tdiv 64))) then
 bif decide (((s6.length:Int))<s2) then
  (yD (s6++([s7]:List zm))).bind fun l2 =>
  some (.again (s1,s2,s3,w64 (s4+1),s5,l2,s7,()))
 else
  some (.brk (s1,s2,s3,s5,s6,()))
 else
 some (.brk (s1,s2,s3,s5,s6,())):=by kernel_rfl
theorem zo8 (a1:zd) (a2:List (BitVec 8)) (a3:Int):Ue a1 a2 a3 =
 (yf zap (a2,a3,0,a1,([]:List zm),())).bind fun st=>match st with
  | .again _=>none
  | .brk y1 =>
  some (y1.1,())
  | .ret y1 =>
  none:=zH
theorem zaW (s1:Bool) (s2:Int) (s3:Int) (s4:za) (s5:List zm):Zf (s1,s2,s3,s4,s5,()) =
 bif decide (s3<s2) then
 (wj s5 s3).bind fun n1 =>
 (s5[n1]?).bind fun x2 =>
 (zev s4 x2).bind fun y3 =>
 (UI y3.1).bind fun y4 =>
 bif !y4.1 then
  some (.ret (false,()))
 else
  (X4 y3.1).bind fun y5 =>
  bif !y5.1 then
  some (.ret (false,()))
  else
  (UD y3.1).bind fun y6 =>
  bif !y6.1 then
   some (.ret (false,()))
  else
   (Wb y3.1).bind fun y7 =>
   bif !y7.1 then
   some (.ret (false,()))
   else
   (zbp y3.1).bind fun y8 =>
   bif !y8.1 then
    some (.ret (false,()))
   else
    (W2 y3.1).bind fun y9 =>
    bif !y9.1 then
    some (.ret (false,()))
    else
    (zbL y3.1).bind fun y10 =>
    bif !y10.1 then
     some (.ret (false,()))
    else
     some (.again (s1,s2,w64 (s3+1),y3.1,s5,()))
 else
 some (.brk (s1,())):=by kernel_rfl
theorem zmL (a1:List (BitVec 8)) (a2:List (BitVec 8)):Ye a1 a2 =
 (zaN).bind fun y1 =>
 bif !y1.1 then
 some (false,())
 else
 (zdI a1).bind fun y2 =>
 (ziy y2.1).bind fun y3 =>
 (Ue y2.1 a2 300).bind fun y4 =>
 (yf Zf (y1.1,(y4.1.length:Int),0,y3.1,y4.1,())).bind fun st=>match st with
  | .again _=>none
  | .brk y5 =>
  some (y5.1,())
  | .ret y5 =>
  some (y5.1,()):=zH
end Go.Pe.G
namespace Go.Pe.G
open Go.Pe Go.Proofs
theorem zKo:Tryz.prog.funcs[77]? =some Tryz.f77:=by kernel_rfl
theorem zJq:Tryz.f77.body.isSome=true:=by kernel_rfl
theorem zJf:Xg Tryz.prog 77=true:=by kernel_rfl
theorem zJU:Tryz.prog.funcs[115]? =some Tryz.f115:=by kernel_rfl
theorem zJb:Tryz.f115.body.isSome=true:=by kernel_rfl
theorem zI2:Xg Tryz.prog 115=true:=by kernel_rfl
theorem zJ7:Tryz.prog.funcs[146]? =some Tryz.f146:=by kernel_rfl
theorem zJa:Tryz.f146.body.isSome=true:=by kernel_rfl
theorem zI3:Xg Tryz.prog 146=true:=by kernel_rfl
theorem zr2 (ys:List Int) (s1:Int) (s2:Int) (s3:BitVec 64):zca ys (s1,s2,s3,()) =
 bif !(decide (s3=0#64)) then
 (qTZ s3).bind fun y1 =>
 (XL ys s2 (w64 (y1.1+1))).bind fun _ =>
 some (.again (s1,s2+1,s3&&&(s3-1#64),()))
 else
 some (.brk (s1,s2,())):=by kernel_rfl
theorem zwj (n:Int) (ys:List Int) (a1:BitVec 64):zpr (zc7 ys) Tryz.f115 zpa n ((a1,()):(BitVec 64)×Unit) =
 (yf (zca ys) (n,0,a1,())).bind fun st=>match st with
  | .again _=>none
  | .brk y1 =>
  some y1.2.1
  | .ret y1 =>
  some y1.2.1:=by kernel_rfl
theorem Ve (ys:List (List Int)) (s1:Int) (s2:Int) (s3:Int) (s4:List Int) (s5:Int):uW ys (s1,s2,s3,s4,s5,()) =
 bif decide (s3<((s4.length:Int))) then
 (cut s4 s3 ((s4.length:Int))).bind fun l1 =>
 bif decide (s3=0)&&decide ((w64 (s3+(bif decide (((l1.length:Int))<s5) then ((l1.length:Int)) else s5)))=0)&&decide ((w64 (s3+(bif decide (((l1.length:Int))<s5) then ((l1.length:Int)) else s5)))=0) then
  (XL ys s2 ([]:List Int)).bind fun _ =>
  some (.again (s1,s2+1,w64 (s3+s5),s4,s5,()))
 else
  bif decide (s3=0)&&decide ((w64 (s3+(bif decide (((l1.length:Int))<s5) then ((l1.length:Int)) else s5)))=((s4.length:Int)))&&decide ((w64 (s3+(bif decide (((l1.length:Int))<s5) then ((l1.length:Int)) else s5)))=((s4.length:Int))) then
  (XL ys s2 s4).bind fun _ =>
  some (.again (s1,s2+1,w64 (s3+s5),s4,s5,()))
  else
  bif decide ((w64 (s3+(bif decide (((l1.length:Int))<s5) then ((l1.length:Int)) else s5)))=(w64 (s3+(bif decide (((l1.length:Int))<s5) then ((l1.length:Int)) else s5)))) then
   (cut s4 s3 (w64 (s3+(bif decide (((l1.length:Int))<s5) then ((l1.length:Int)) else s5)))).bind fun l2 =>
   (XL ys s2 l2).bind fun _ =>
   some (.again (s1,s2+1,w64 (s3+s5),s4,s5,()))
  else
   none
 else
 some (.brk (s1,s2,())):=by kernel_rfl
theorem zgX (n:Int) (ys:List (List Int)) (a1:List Int) (a2:Int):zpr (Zm ys) Tryz.f77 zai n ((a1,a2,()):(List Int)×Int×Unit) =
 (yf (uW ys) (n,0,0,a1,a2,())).bind fun st=>match st with
  | .again _=>none
  | .brk y1 =>
  some y1.2.1
  | .ret y1 =>
  some y1.2.1:=by kernel_rfl
theorem zjm (ys:List (List Int)) (s1:Int) (s2:Int) (s3:Int) (s4:Int) (s5:za):Ui ys (s1,s2,s3,s4,s5,()) =
 bif decide (s4<s3) then
 (zex s5 (w64 (s4+1))).bind fun y1 =>
 (XL ys s2 y1.1).bind fun _ =>
 some (.again (s1,s2+1,s3,w64 (s4+1),s5,()))
 else
 some (.brk (s1,s2,s5,())):=by kernel_rfl
theorem zjl (ys:List (List Int)) (s1:Int) (s2:Int) (s3:Int) (s4:Int) (s5:za):zco ys (s1,s2,s3,s4,s5,()) =
 bif decide (s4<s3) then
 (zc6 s5 (w64 (s4+1))).bind fun y1 =>
 (XL ys s2 y1.1).bind fun _ =>
 some (.again (s1,s2+1,s3,w64 (s4+1),s5,()))
 else
 some (.brk (s1,s2,())):=by kernel_rfl
theorem zwH (n:Int) (ys:List (List Int)) (a1:Int) (a2:Int) (a3:Int) (a4:Int) (a5:Int) (a6:Int) (a7:Int) (a8:Int) (a9:Int) (a10:List (List Int)) (a11:BitVec 64) (a12:List (List Int)) (a13:List (List zE)) (a14:List zm) (a15:Int) (a16:List (List Int)) (a17:List (BitVec 64)) (a18:List (List Int)) (a19:BitVec 64) (a20:BitVec 64) (a21:Int) (a22:Int) (a23:Bool) (a24:Bool) (a25:Int) (a26:List Int) (a27:Int) (a28:Int) (a29:Int) (a30:List Int) (a31:List zi) (a32:List ze) (a33:Int) (a34:Int):zpr (Xi ys) Tryz.f146 zdk n ((a1,a2,a3,a4,a5,a6,a7,a8,a9,a10,a11,a12,a13,a14,a15,a16,a17,a18,a19,a20,a21,a22,a23,a24,a25,a26,a27,a28,a29,a30,a31,a32,a33,a34,()):Int×Int×Int×Int×Int×Int×Int×Int×Int×(List (List Int))×(BitVec 64)×(List (List Int))×(List (List zE))×(List zm)×Int×(List (List Int))×(List (BitVec 64))×(List (List Int))×(BitVec 64)×(BitVec 64)×Int×Int×Bool×Bool×Int×(List Int)×Int×Int×Int×(List Int)×(List zi)×(List ze)×Int×Int×Unit) =
 (zcI (za.mk (zd.mk a1 a2 a3 a4 a5 a6 a7 a8 (zt.mk a9 a10) a11 a12 a13 a14) (zt.mk a15 a16) a17 a18 (zx.mk a19 a20) a21 a22 a23 a24 a25 a26 (zy.mk a27 a28 a29 a30) a31 a32 (zO.mk a33 a34))).bind fun y1 =>
 (XL ys 0 y1.1).bind fun _ =>
 (yf (Ui ys) (n,0+1,(a31.length:Int),0,za.mk (zd.mk a1 a2 a3 a4 a5 a6 a7 a8 (zt.mk a9 a10) a11 a12 a13 a14) (zt.mk a15 a16) a17 a18 (zx.mk a19 a20) a21 a22 a23 a24 a25 a26 (zy.mk a27 a28 a29 a30) a31 a32 (zO.mk a33 a34),())).bind fun st=>match st with
  | .again _=>none
  | .brk y2 =>
  (yf (zco ys) (y2.1,y2.2.1,(y2.2.2.1.Ms.length:Int),0,y2.2.2.1,())).bind fun st=>match st with
   | .again _=>none
   | .brk y3 =>
   some y3.2.1
   | .ret y3 =>
   some y3.2.1
  | .ret y2 =>
  some y2.2.1:=by kernel_rfl
end Go.Pe.G
