/- Own work of this seat: G1, Tz, G0, GO, GP, G2, G4a, G4b, G4c, G4d, G4e. -/
import Derived.Test.YtohmajcohogajaaGreatDoorTFCb
import Derived.Test.YtohmajcohogajaaGreatDoorProg
import Derived.Shelf.Spec.TrailingZeros
import Derived.Sort.EveryDepth
import Derived.Shelf.Sort.AssemblyIn
import Derived.Shelf.Slices.In.SortNone
set_option linter.unusedVariables false
set_option linter.unusedSimpArgs false
set_option linter.unnecessarySimpa false
set_option linter.unusedSectionVars false
set_option linter.deprecated false
set_option maxRecDepth 100000
open List renaming getElem?_eq_getElem → zJC, getD_eq_getElem?_getD → zJD
open Nat renaming lt_of_lt_of_le → zJX, add_zero → zKj, mul_one → zKx
open Option renaming map_some → zKD
namespace Go.Pe.G
open Go.Pe
structure zw where
 Kind:Int
 R:Int
 A:Int
 S:Int
structure zj where
 Kind:Int
 N:Int
structure zq where
 Slots:Int
 Objs:List (List Int)
structure zd where
 Workers:Int
 Mutators:Int
 Cap:Int
 Buf:Int
 Bin:Int
 Most:Int
 Price:Int
 Limit:Int
 H:zq
 Roots:BitVec 64
 Regs:List (List Int)
 Progs:List (List zw)
 Picks:List zj
structure zg where
 Kind:Int
 PC:Int
 Base:Int
 Cap:Int
 B:BitVec 64
 T:BitVec 64
 X:Int
 Out:Int
structure zL where
 Kind:Int
 PC:Int
 Head:Int
 Next:Int
 H:BitVec 64
 X:Int
 Y:Int
 Out:Int
structure zB where
 PC:Int
 Mode:Int
 Obj:Int
 Who:Int
 D:zg
 C:zL
 Bin:Int
 Out:Int
structure zk where
 PC:Int
 Obj:Int
 Slot:Int
 Victim:Int
 Bin:Int
 Batch:List Int
 D:zg
 C:zL
 G:zB
structure ze where
 PC:Int
 IP:Int
 Ret:Int
 Want:Int
 Old:Int
 Obj:Int
 Slot:Int
 Bin:Int
 Regs:List Int
 Buf:List Int
 Batch:List Int
 C:zL
 G:zB
structure zm where
 Marks:BitVec 64
 Black:BitVec 64
structure zr where
 Scanned:Int
 Spent:Int
 Pool:Int
 Bal:List Int
structure zE where
 PC:Int
 I:Int
structure za where
 P:zd
 H:zq
 M:List (BitVec 64)
 Bins:List (List Int)
 T:zm
 Work:Int
 Epoch:Int
 Flag:Bool
 Done:Bool
 Restarts:Int
 Acks:List Int
 L:zr
 Ws:List zk
 Ms:List ze
 D:zE
structure Yr where
 Kind:Int
 At:Int
 A:BitVec 64
 B:BitVec 64
structure zQ where
 Worker:zk
 s:za
 w:Int
structure zM where
 Grey:zB
 s:za
structure zA where
 Mutator:ze
 s:za
 m:Int
structure zO where
 L:List (BitVec 8)
 At:Int
@[reducible] def TT:Nat->Type
 | 0=>zw
 | 1=>zj
 | 2=>zq
 | 3=>zd
 | 4=>zg
 | 5=>zL
 | 6=>zB
 | 7=>zk
 | 8=>ze
 | 9=>zm
 | 10=>zr
 | 11=>zE
 | 12=>za
 | 13=>Yr
 | 14=>zQ
 | 15=>zM
 | 16=>zA
 | 17=>zO
 | _=>Unit
@[reducible] def lvs:Nat->List Ty
 | 0=>[(.int .i64),(.int .i64),(.int .i64),(.int .i64)]
 | 1=>[(.int .i64),(.int .i64)]
 | 2=>[(.int .i64),(.slice (.slice (.int .i64)))]
 | 3=>[(.int .i64),(.int .i64),(.int .i64),(.int .i64),(.int .i64),(.int .i64),(.int .i64),(.int .i64),(.int .i64),(.slice (.slice (.int .i64))),(.int .u64),(.slice (.slice (.int .i64))),(.slice (.slice (.named 0))),(.slice (.named 1))]
 | 4=>[(.int .i64),(.int .i64),(.int .i64),(.int .i64),(.int .u64),(.int .u64),(.int .i64),(.int .i64)]
 | 5=>[(.int .i64),(.int .i64),(.int .i64),(.int .i64),(.int .u64),(.int .i64),(.int .i64),(.int .i64)]
 | 6=>[(.int .i64),(.int .i64),(.int .i64),(.int .i64),(.int .i64),(.int .i64),(.int .i64),(.int .i64),(.int .u64),(.int .u64),(.int .i64),(.int .i64),(.int .i64),(.int .i64),(.int .i64),(.int .i64),(.int .u64),(.int .i64),(.int .i64),(.int .i64),(.int .i64),(.int .i64)]
 | 7=>[(.int .i64),(.int .i64),(.int .i64),(.int .i64),(.int .i64),(.slice (.int .i64)),(.int .i64),(.int .i64),(.int .i64),(.int .i64),(.int .u64),(.int .u64),(.int .i64),(.int .i64),(.int .i64),(.int .i64),(.int .i64),(.int .i64),(.int .u64),(.int .i64),(.int .i64),(.int .i64),(.int .i64),(.int .i64),(.int .i64),(.int .i64),(.int .i64),(.int .i64),(.int .i64),(.int .i64),(.int .u64),(.int .u64),(.int .i64),(.int .i64),(.int .i64),(.int .i64),(.int .i64),(.int .i64),(.int .u64),(.int .i64),(.int .i64),(.int .i64),(.int .i64),(.int .i64)]
 | 8=>[(.int .i64),(.int .i64),(.int .i64),(.int .i64),(.int .i64),(.int .i64),(.int .i64),(.int .i64),(.slice (.int .i64)),(.slice (.int .i64)),(.slice (.int .i64)),(.int .i64),(.int .i64),(.int .i64),(.int .i64),(.int .u64),(.int .i64),(.int .i64),(.int .i64),(.int .i64),(.int .i64),(.int .i64),(.int .i64),(.int .i64),(.int .i64),(.int .i64),(.int .i64),(.int .u64),(.int .u64),(.int .i64),(.int .i64),(.int .i64),(.int .i64),(.int .i64),(.int .i64),(.int .u64),(.int .i64),(.int .i64),(.int .i64),(.int .i64),(.int .i64)]
 | 9=>[(.int .u64),(.int .u64)]
 | 10=>[(.int .i64),(.int .i64),(.int .i64),(.slice (.int .i64))]
 | 11=>[(.int .i64),(.int .i64)]
 | 12=>[(.int .i64),(.int .i64),(.int .i64),(.int .i64),(.int .i64),(.int .i64),(.int .i64),(.int .i64),(.int .i64),(.slice (.slice (.int .i64))),(.int .u64),(.slice (.slice (.int .i64))),(.slice (.slice (.named 0))),(.slice (.named 1)),(.int .i64),(.slice (.slice (.int .i64))),(.slice (.int .u64)),(.slice (.slice (.int .i64))),(.int .u64),(.int .u64),(.int .i64),(.int .i64),.bool,.bool,(.int .i64),(.slice (.int .i64)),(.int .i64),(.int .i64),(.int .i64),(.slice (.int .i64)),(.slice (.named 7)),(.slice (.named 8)),(.int .i64),(.int .i64)]
 | 13=>[(.int .i64),(.int .i64),(.int .u64),(.int .u64)]
 | 14=>[(.int .i64),(.int .i64),(.int .i64),(.int .i64),(.int .i64),(.slice (.int .i64)),(.int .i64),(.int .i64),(.int .i64),(.int .i64),(.int .u64),(.int .u64),(.int .i64),(.int .i64),(.int .i64),(.int .i64),(.int .i64),(.int .i64),(.int .u64),(.int .i64),(.int .i64),(.int .i64),(.int .i64),(.int .i64),(.int .i64),(.int .i64),(.int .i64),(.int .i64),(.int .i64),(.int .i64),(.int .u64),(.int .u64),(.int .i64),(.int .i64),(.int .i64),(.int .i64),(.int .i64),(.int .i64),(.int .u64),(.int .i64),(.int .i64),(.int .i64),(.int .i64),(.int .i64),(.int .i64),(.int .i64),(.int .i64),(.int .i64),(.int .i64),(.int .i64),(.int .i64),(.int .i64),(.int .i64),(.slice (.slice (.int .i64))),(.int .u64),(.slice (.slice (.int .i64))),(.slice (.slice (.named 0))),(.slice (.named 1)),(.int .i64),(.slice (.slice (.int .i64))),(.slice (.int .u64)),(.slice (.slice (.int .i64))),(.int .u64),(.int .u64),(.int .i64),(.int .i64),.bool,.bool,(.int .i64),(.slice (.int .i64)),(.int .i64),(.int .i64),(.int .i64),(.slice (.int .i64)),(.slice (.named 7)),(.slice (.named 8)),(.int .i64),(.int .i64),(.int .i64)]
 | 15=>[(.int .i64),(.int .i64),(.int .i64),(.int .i64),(.int .i64),(.int .i64),(.int .i64),(.int .i64),(.int .u64),(.int .u64),(.int .i64),(.int .i64),(.int .i64),(.int .i64),(.int .i64),(.int .i64),(.int .u64),(.int .i64),(.int .i64),(.int .i64),(.int .i64),(.int .i64),(.int .i64),(.int .i64),(.int .i64),(.int .i64),(.int .i64),(.int .i64),(.int .i64),(.int .i64),(.int .i64),(.slice (.slice (.int .i64))),(.int .u64),(.slice (.slice (.int .i64))),(.slice (.slice (.named 0))),(.slice (.named 1)),(.int .i64),(.slice (.slice (.int .i64))),(.slice (.int .u64)),(.slice (.slice (.int .i64))),(.int .u64),(.int .u64),(.int .i64),(.int .i64),.bool,.bool,(.int .i64),(.slice (.int .i64)),(.int .i64),(.int .i64),(.int .i64),(.slice (.int .i64)),(.slice (.named 7)),(.slice (.named 8)),(.int .i64),(.int .i64)]
 | 16=>[(.int .i64),(.int .i64),(.int .i64),(.int .i64),(.int .i64),(.int .i64),(.int .i64),(.int .i64),(.slice (.int .i64)),(.slice (.int .i64)),(.slice (.int .i64)),(.int .i64),(.int .i64),(.int .i64),(.int .i64),(.int .u64),(.int .i64),(.int .i64),(.int .i64),(.int .i64),(.int .i64),(.int .i64),(.int .i64),(.int .i64),(.int .i64),(.int .i64),(.int .i64),(.int .u64),(.int .u64),(.int .i64),(.int .i64),(.int .i64),(.int .i64),(.int .i64),(.int .i64),(.int .u64),(.int .i64),(.int .i64),(.int .i64),(.int .i64),(.int .i64),(.int .i64),(.int .i64),(.int .i64),(.int .i64),(.int .i64),(.int .i64),(.int .i64),(.int .i64),(.int .i64),(.slice (.slice (.int .i64))),(.int .u64),(.slice (.slice (.int .i64))),(.slice (.slice (.named 0))),(.slice (.named 1)),(.int .i64),(.slice (.slice (.int .i64))),(.slice (.int .u64)),(.slice (.slice (.int .i64))),(.int .u64),(.int .u64),(.int .i64),(.int .i64),.bool,.bool,(.int .i64),(.slice (.int .i64)),(.int .i64),(.int .i64),(.int .i64),(.slice (.int .i64)),(.slice (.named 7)),(.slice (.named 8)),(.int .i64),(.int .i64),(.int .i64)]
 | 17=>[(.slice (.int .u8)),(.int .i64)]
 | _=>[]
@[reducible] def unp:(n:Nat)->TT n->HL TT (lvs n)
 | 0=>fun x=>(x.Kind,x.R,x.A,x.S,())
 | 1=>fun x=>(x.Kind,x.N,())
 | 2=>fun x=>(x.Slots,x.Objs,())
 | 3=>fun x=>(x.Workers,x.Mutators,x.Cap,x.Buf,x.Bin,x.Most,x.Price,x.Limit,x.H.Slots,x.H.Objs,x.Roots,x.Regs,x.Progs,x.Picks,())
 | 4=>fun x=>(x.Kind,x.PC,x.Base,x.Cap,x.B,x.T,x.X,x.Out,())
 | 5=>fun x=>(x.Kind,x.PC,x.Head,x.Next,x.H,x.X,x.Y,x.Out,())
 | 6=>fun x=>(x.PC,x.Mode,x.Obj,x.Who,x.D.Kind,x.D.PC,x.D.Base,x.D.Cap,x.D.B,x.D.T,x.D.X,x.D.Out,x.C.Kind,x.C.PC,x.C.Head,x.C.Next,x.C.H,x.C.X,x.C.Y,x.C.Out,x.Bin,x.Out,())
 | 7=>fun x=>(x.PC,x.Obj,x.Slot,x.Victim,x.Bin,x.Batch,x.D.Kind,x.D.PC,x.D.Base,x.D.Cap,x.D.B,x.D.T,x.D.X,x.D.Out,x.C.Kind,x.C.PC,x.C.Head,x.C.Next,x.C.H,x.C.X,x.C.Y,x.C.Out,x.G.PC,x.G.Mode,x.G.Obj,x.G.Who,x.G.D.Kind,x.G.D.PC,x.G.D.Base,x.G.D.Cap,x.G.D.B,x.G.D.T,x.G.D.X,x.G.D.Out,x.G.C.Kind,x.G.C.PC,x.G.C.Head,x.G.C.Next,x.G.C.H,x.G.C.X,x.G.C.Y,x.G.C.Out,x.G.Bin,x.G.Out,())
 | 8=>fun x=>(x.PC,x.IP,x.Ret,x.Want,x.Old,x.Obj,x.Slot,x.Bin,x.Regs,x.Buf,x.Batch,x.C.Kind,x.C.PC,x.C.Head,x.C.Next,x.C.H,x.C.X,x.C.Y,x.C.Out,x.G.PC,x.G.Mode,x.G.Obj,x.G.Who,x.G.D.Kind,x.G.D.PC,x.G.D.Base,x.G.D.Cap,x.G.D.B,x.G.D.T,x.G.D.X,x.G.D.Out,x.G.C.Kind,x.G.C.PC,x.G.C.Head,x.G.C.Next,x.G.C.H,x.G.C.X,x.G.C.Y,x.G.C.Out,x.G.Bin,x.G.Out,())
 | 9=>fun x=>(x.Marks,x.Black,())
 | 10=>fun x=>(x.Scanned,x.Spent,x.Pool,x.Bal,())
 | 11=>fun x=>(x.PC,x.I,())
 | 12=>fun x=>(x.P.Workers,x.P.Mutators,x.P.Cap,x.P.Buf,x.P.Bin,x.P.Most,x.P.Price,x.P.Limit,x.P.H.Slots,x.P.H.Objs,x.P.Roots,x.P.Regs,x.P.Progs,x.P.Picks,x.H.Slots,x.H.Objs,x.M,x.Bins,x.T.Marks,x.T.Black,x.Work,x.Epoch,x.Flag,x.Done,x.Restarts,x.Acks,x.L.Scanned,x.L.Spent,x.L.Pool,x.L.Bal,x.Ws,x.Ms,x.D.PC,x.D.I,())
 | 13=>fun x=>(x.Kind,x.At,x.A,x.B,())
 | 14=>fun x=>(x.Worker.PC,x.Worker.Obj,x.Worker.Slot,x.Worker.Victim,x.Worker.Bin,x.Worker.Batch,x.Worker.D.Kind,x.Worker.D.PC,x.Worker.D.Base,x.Worker.D.Cap,x.Worker.D.B,x.Worker.D.T,x.Worker.D.X,x.Worker.D.Out,x.Worker.C.Kind,x.Worker.C.PC,x.Worker.C.Head,x.Worker.C.Next,x.Worker.C.H,x.Worker.C.X,x.Worker.C.Y,x.Worker.C.Out,x.Worker.G.PC,x.Worker.G.Mode,x.Worker.G.Obj,x.Worker.G.Who,x.Worker.G.D.Kind,x.Worker.G.D.PC,x.Worker.G.D.Base,x.Worker.G.D.Cap,x.Worker.G.D.B,x.Worker.G.D.T,x.Worker.G.D.X,x.Worker.G.D.Out,x.Worker.G.C.Kind,x.Worker.G.C.PC,x.Worker.G.C.Head,x.Worker.G.C.Next,x.Worker.G.C.H,x.Worker.G.C.X,x.Worker.G.C.Y,x.Worker.G.C.Out,x.Worker.G.Bin,x.Worker.G.Out,x.s.P.Workers,x.s.P.Mutators,x.s.P.Cap,x.s.P.Buf,x.s.P.Bin,x.s.P.Most,x.s.P.Price,x.s.P.Limit,x.s.P.H.Slots,x.s.P.H.Objs,x.s.P.Roots,x.s.P.Regs,x.s.P.Progs,x.s.P.Picks,x.s.H.Slots,x.s.H.Objs,x.s.M,x.s.Bins,x.s.T.Marks,x.s.T.Black,x.s.Work,x.s.Epoch,x.s.Flag,x.s.Done,x.s.Restarts,x.s.Acks,x.s.L.Scanned,x.s.L.Spent,x.s.L.Pool,x.s.L.Bal,x.s.Ws,x.s.Ms,x.s.D.PC,x.s.D.I,x.w,())
 | 15=>fun x=>(x.Grey.PC,x.Grey.Mode,x.Grey.Obj,x.Grey.Who,x.Grey.D.Kind,x.Grey.D.PC,x.Grey.D.Base,x.Grey.D.Cap,x.Grey.D.B,x.Grey.D.T,x.Grey.D.X,x.Grey.D.Out,x.Grey.C.Kind,x.Grey.C.PC,x.Grey.C.Head,x.Grey.C.Next,x.Grey.C.H,x.Grey.C.X,x.Grey.C.Y,x.Grey.C.Out,x.Grey.Bin,x.Grey.Out,x.s.P.Workers,x.s.P.Mutators,x.s.P.Cap,x.s.P.Buf,x.s.P.Bin,x.s.P.Most,x.s.P.Price,x.s.P.Limit,x.s.P.H.Slots,x.s.P.H.Objs,x.s.P.Roots,x.s.P.Regs,x.s.P.Progs,x.s.P.Picks,x.s.H.Slots,x.s.H.Objs,x.s.M,x.s.Bins,x.s.T.Marks,x.s.T.Black,x.s.Work,x.s.Epoch,x.s.Flag,x.s.Done,x.s.Restarts,x.s.Acks,x.s.L.Scanned,x.s.L.Spent,x.s.L.Pool,x.s.L.Bal,x.s.Ws,x.s.Ms,x.s.D.PC,x.s.D.I,())
 | 16=>fun x=>(x.Mutator.PC,x.Mutator.IP,x.Mutator.Ret,x.Mutator.Want,x.Mutator.Old,x.Mutator.Obj,x.Mutator.Slot,x.Mutator.Bin,x.Mutator.Regs,x.Mutator.Buf,x.Mutator.Batch,x.Mutator.C.Kind,x.Mutator.C.PC,x.Mutator.C.Head,x.Mutator.C.Next,x.Mutator.C.H,x.Mutator.C.X,x.Mutator.C.Y,x.Mutator.C.Out,x.Mutator.G.PC,x.Mutator.G.Mode,x.Mutator.G.Obj,x.Mutator.G.Who,x.Mutator.G.D.Kind,x.Mutator.G.D.PC,x.Mutator.G.D.Base,x.Mutator.G.D.Cap,x.Mutator.G.D.B,x.Mutator.G.D.T,x.Mutator.G.D.X,x.Mutator.G.D.Out,x.Mutator.G.C.Kind,x.Mutator.G.C.PC,x.Mutator.G.C.Head,x.Mutator.G.C.Next,x.Mutator.G.C.H,x.Mutator.G.C.X,x.Mutator.G.C.Y,x.Mutator.G.C.Out,x.Mutator.G.Bin,x.Mutator.G.Out,x.s.P.Workers,x.s.P.Mutators,x.s.P.Cap,x.s.P.Buf,x.s.P.Bin,x.s.P.Most,x.s.P.Price,x.s.P.Limit,x.s.P.H.Slots,x.s.P.H.Objs,x.s.P.Roots,x.s.P.Regs,x.s.P.Progs,x.s.P.Picks,x.s.H.Slots,x.s.H.Objs,x.s.M,x.s.Bins,x.s.T.Marks,x.s.T.Black,x.s.Work,x.s.Epoch,x.s.Flag,x.s.Done,x.s.Restarts,x.s.Acks,x.s.L.Scanned,x.s.L.Spent,x.s.L.Pool,x.s.L.Bal,x.s.Ws,x.s.Ms,x.s.D.PC,x.s.D.I,x.m,())
 | 17=>fun x=>(x.L,x.At,())
 | _+18=>fun _=>()
@[reducible] def pck:(n:Nat)->HL TT (lvs n)->TT n
 | 0=>fun x=>⟨x.1,x.2.1,x.2.2.1,x.2.2.2.1⟩
 | 1=>fun x=>⟨x.1,x.2.1⟩
 | 2=>fun x=>⟨x.1,x.2.1⟩
 | 3=>fun x=>let xa:=x.2.2.2.2.2.2.2.2;⟨x.1,x.2.1,x.2.2.1,x.2.2.2.1,x.2.2.2.2.1,x.2.2.2.2.2.1,x.2.2.2.2.2.2.1,x.2.2.2.2.2.2.2.1,⟨xa.1,xa.2.1⟩,xa.2.2.1,xa.2.2.2.1,xa.2.2.2.2.1,xa.2.2.2.2.2.1⟩
 | 4=>fun x=>⟨x.1,x.2.1,x.2.2.1,x.2.2.2.1,x.2.2.2.2.1,x.2.2.2.2.2.1,x.2.2.2.2.2.2.1,x.2.2.2.2.2.2.2.1⟩
 | 5=>fun x=>⟨x.1,x.2.1,x.2.2.1,x.2.2.2.1,x.2.2.2.2.1,x.2.2.2.2.2.1,x.2.2.2.2.2.2.1,x.2.2.2.2.2.2.2.1⟩
 | 6=>fun x=>let xa:=x.2.2.2.2.2.2.2.2;let xb:=xa.2.2.2.2.2.2.2.2;⟨x.1,x.2.1,x.2.2.1,x.2.2.2.1,⟨x.2.2.2.2.1,x.2.2.2.2.2.1,x.2.2.2.2.2.2.1,x.2.2.2.2.2.2.2.1,xa.1,xa.2.1,xa.2.2.1,xa.2.2.2.1⟩,⟨xa.2.2.2.2.1,xa.2.2.2.2.2.1,xa.2.2.2.2.2.2.1,xa.2.2.2.2.2.2.2.1,xb.1,xb.2.1,xb.2.2.1,xb.2.2.2.1⟩,xb.2.2.2.2.1,xb.2.2.2.2.2.1⟩
 | 7=>fun x=>let xa:=x.2.2.2.2.2.2.2.2;let xb:=xa.2.2.2.2.2.2.2.2;let xc:=xb.2.2.2.2.2.2.2.2;let xd:=xc.2.2.2.2.2.2.2.2;let xe:=xd.2.2.2.2.2.2.2.2;⟨x.1,x.2.1,x.2.2.1,x.2.2.2.1,x.2.2.2.2.1,x.2.2.2.2.2.1,⟨x.2.2.2.2.2.2.1,x.2.2.2.2.2.2.2.1,xa.1,xa.2.1,xa.2.2.1,xa.2.2.2.1,xa.2.2.2.2.1,xa.2.2.2.2.2.1⟩,⟨xa.2.2.2.2.2.2.1,xa.2.2.2.2.2.2.2.1,xb.1,xb.2.1,xb.2.2.1,xb.2.2.2.1,xb.2.2.2.2.1,xb.2.2.2.2.2.1⟩,⟨xb.2.2.2.2.2.2.1,xb.2.2.2.2.2.2.2.1,xc.1,xc.2.1,⟨xc.2.2.1,xc.2.2.2.1,xc.2.2.2.2.1,xc.2.2.2.2.2.1,xc.2.2.2.2.2.2.1,xc.2.2.2.2.2.2.2.1,xd.1,xd.2.1⟩,⟨xd.2.2.1,xd.2.2.2.1,xd.2.2.2.2.1,xd.2.2.2.2.2.1,xd.2.2.2.2.2.2.1,xd.2.2.2.2.2.2.2.1,xe.1,xe.2.1⟩,xe.2.2.1,xe.2.2.2.1⟩⟩
 | 8=>fun x=>let xa:=x.2.2.2.2.2.2.2.2;let xb:=xa.2.2.2.2.2.2.2.2;let xc:=xb.2.2.2.2.2.2.2.2;let xd:=xc.2.2.2.2.2.2.2.2;let xe:=xd.2.2.2.2.2.2.2.2;⟨x.1,x.2.1,x.2.2.1,x.2.2.2.1,x.2.2.2.2.1,x.2.2.2.2.2.1,x.2.2.2.2.2.2.1,x.2.2.2.2.2.2.2.1,xa.1,xa.2.1,xa.2.2.1,⟨xa.2.2.2.1,xa.2.2.2.2.1,xa.2.2.2.2.2.1,xa.2.2.2.2.2.2.1,xa.2.2.2.2.2.2.2.1,xb.1,xb.2.1,xb.2.2.1⟩,⟨xb.2.2.2.1,xb.2.2.2.2.1,xb.2.2.2.2.2.1,xb.2.2.2.2.2.2.1,⟨xb.2.2.2.2.2.2.2.1,xc.1,xc.2.1,xc.2.2.1,xc.2.2.2.1,xc.2.2.2.2.1,xc.2.2.2.2.2.1,xc.2.2.2.2.2.2.1⟩,⟨xc.2.2.2.2.2.2.2.1,xd.1,xd.2.1,xd.2.2.1,xd.2.2.2.1,xd.2.2.2.2.1,xd.2.2.2.2.2.1,xd.2.2.2.2.2.2.1⟩,xd.2.2.2.2.2.2.2.1,xe.1⟩⟩
 | 9=>fun x=>⟨x.1,x.2.1⟩
 | 10=>fun x=>⟨x.1,x.2.1,x.2.2.1,x.2.2.2.1⟩
 | 11=>fun x=>⟨x.1,x.2.1⟩
 | 12=>fun x=>let xa:=x.2.2.2.2.2.2.2.2;let xb:=xa.2.2.2.2.2.2.2.2;let xc:=xb.2.2.2.2.2.2.2.2;let xd:=xc.2.2.2.2.2.2.2.2;⟨⟨x.1,x.2.1,x.2.2.1,x.2.2.2.1,x.2.2.2.2.1,x.2.2.2.2.2.1,x.2.2.2.2.2.2.1,x.2.2.2.2.2.2.2.1,⟨xa.1,xa.2.1⟩,xa.2.2.1,xa.2.2.2.1,xa.2.2.2.2.1,xa.2.2.2.2.2.1⟩,⟨xa.2.2.2.2.2.2.1,xa.2.2.2.2.2.2.2.1⟩,xb.1,xb.2.1,⟨xb.2.2.1,xb.2.2.2.1⟩,xb.2.2.2.2.1,xb.2.2.2.2.2.1,xb.2.2.2.2.2.2.1,xb.2.2.2.2.2.2.2.1,xc.1,xc.2.1,⟨xc.2.2.1,xc.2.2.2.1,xc.2.2.2.2.1,xc.2.2.2.2.2.1⟩,xc.2.2.2.2.2.2.1,xc.2.2.2.2.2.2.2.1,⟨xd.1,xd.2.1⟩⟩
 | 13=>fun x=>⟨x.1,x.2.1,x.2.2.1,x.2.2.2.1⟩
 | 14=>fun x=>let xa:=x.2.2.2.2.2.2.2.2;let xb:=xa.2.2.2.2.2.2.2.2;let xc:=xb.2.2.2.2.2.2.2.2;let xd:=xc.2.2.2.2.2.2.2.2;let xe:=xd.2.2.2.2.2.2.2.2;let xf:=xe.2.2.2.2.2.2.2.2;let xg:=xf.2.2.2.2.2.2.2.2;let xh:=xg.2.2.2.2.2.2.2.2;let xi:=xh.2.2.2.2.2.2.2.2;⟨⟨x.1,x.2.1,x.2.2.1,x.2.2.2.1,x.2.2.2.2.1,x.2.2.2.2.2.1,⟨x.2.2.2.2.2.2.1,x.2.2.2.2.2.2.2.1,xa.1,xa.2.1,xa.2.2.1,xa.2.2.2.1,xa.2.2.2.2.1,xa.2.2.2.2.2.1⟩,⟨xa.2.2.2.2.2.2.1,xa.2.2.2.2.2.2.2.1,xb.1,xb.2.1,xb.2.2.1,xb.2.2.2.1,xb.2.2.2.2.1,xb.2.2.2.2.2.1⟩,⟨xb.2.2.2.2.2.2.1,xb.2.2.2.2.2.2.2.1,xc.1,xc.2.1,⟨xc.2.2.1,xc.2.2.2.1,xc.2.2.2.2.1,xc.2.2.2.2.2.1,xc.2.2.2.2.2.2.1,xc.2.2.2.2.2.2.2.1,xd.1,xd.2.1⟩,⟨xd.2.2.1,xd.2.2.2.1,xd.2.2.2.2.1,xd.2.2.2.2.2.1,xd.2.2.2.2.2.2.1,xd.2.2.2.2.2.2.2.1,xe.1,xe.2.1⟩,xe.2.2.1,xe.2.2.2.1⟩⟩,⟨⟨xe.2.2.2.2.1,xe.2.2.2.2.2.1,xe.2.2.2.2.2.2.1,xe.2.2.2.2.2.2.2.1,xf.1,xf.2.1,xf.2.2.1,xf.2.2.2.1,⟨xf.2.2.2.2.1,xf.2.2.2.2.2.1⟩,xf.2.2.2.2.2.2.1,xf.2.2.2.2.2.2.2.1,xg.1,xg.2.1⟩,⟨xg.2.2.1,xg.2.2.2.1⟩,xg.2.2.2.2.1,xg.2.2.2.2.2.1,⟨xg.2.2.2.2.2.2.1,xg.2.2.2.2.2.2.2.1⟩,xh.1,xh.2.1,xh.2.2.1,xh.2.2.2.1,xh.2.2.2.2.1,xh.2.2.2.2.2.1,⟨xh.2.2.2.2.2.2.1,xh.2.2.2.2.2.2.2.1,xi.1,xi.2.1⟩,xi.2.2.1,xi.2.2.2.1,⟨xi.2.2.2.2.1,xi.2.2.2.2.2.1⟩⟩,xi.2.2.2.2.2.2.1⟩
 | 15=>fun x=>let xa:=x.2.2.2.2.2.2.2.2;let xb:=xa.2.2.2.2.2.2.2.2;let xc:=xb.2.2.2.2.2.2.2.2;let xd:=xc.2.2.2.2.2.2.2.2;let xe:=xd.2.2.2.2.2.2.2.2;let xf:=xe.2.2.2.2.2.2.2.2;⟨⟨x.1,x.2.1,x.2.2.1,x.2.2.2.1,⟨x.2.2.2.2.1,x.2.2.2.2.2.1,x.2.2.2.2.2.2.1,x.2.2.2.2.2.2.2.1,xa.1,xa.2.1,xa.2.2.1,xa.2.2.2.1⟩,⟨xa.2.2.2.2.1,xa.2.2.2.2.2.1,xa.2.2.2.2.2.2.1,xa.2.2.2.2.2.2.2.1,xb.1,xb.2.1,xb.2.2.1,xb.2.2.2.1⟩,xb.2.2.2.2.1,xb.2.2.2.2.2.1⟩,⟨⟨xb.2.2.2.2.2.2.1,xb.2.2.2.2.2.2.2.1,xc.1,xc.2.1,xc.2.2.1,xc.2.2.2.1,xc.2.2.2.2.1,xc.2.2.2.2.2.1,⟨xc.2.2.2.2.2.2.1,xc.2.2.2.2.2.2.2.1⟩,xd.1,xd.2.1,xd.2.2.1,xd.2.2.2.1⟩,⟨xd.2.2.2.2.1,xd.2.2.2.2.2.1⟩,xd.2.2.2.2.2.2.1,xd.2.2.2.2.2.2.2.1,⟨xe.1,xe.2.1⟩,xe.2.2.1,xe.2.2.2.1,xe.2.2.2.2.1,xe.2.2.2.2.2.1,xe.2.2.2.2.2.2.1,xe.2.2.2.2.2.2.2.1,⟨xf.1,xf.2.1,xf.2.2.1,xf.2.2.2.1⟩,xf.2.2.2.2.1,xf.2.2.2.2.2.1,⟨xf.2.2.2.2.2.2.1,xf.2.2.2.2.2.2.2.1⟩⟩⟩
 | 16=>fun x=>let xa:=x.2.2.2.2.2.2.2.2;let xb:=xa.2.2.2.2.2.2.2.2;let xc:=xb.2.2.2.2.2.2.2.2;let xd:=xc.2.2.2.2.2.2.2.2;let xe:=xd.2.2.2.2.2.2.2.2;let xf:=xe.2.2.2.2.2.2.2.2;let xg:=xf.2.2.2.2.2.2.2.2;let xh:=xg.2.2.2.2.2.2.2.2;let xi:=xh.2.2.2.2.2.2.2.2;⟨⟨x.1,x.2.1,x.2.2.1,x.2.2.2.1,x.2.2.2.2.1,x.2.2.2.2.2.1,x.2.2.2.2.2.2.1,x.2.2.2.2.2.2.2.1,xa.1,xa.2.1,xa.2.2.1,⟨xa.2.2.2.1,xa.2.2.2.2.1,xa.2.2.2.2.2.1,xa.2.2.2.2.2.2.1,xa.2.2.2.2.2.2.2.1,xb.1,xb.2.1,xb.2.2.1⟩,⟨xb.2.2.2.1,xb.2.2.2.2.1,xb.2.2.2.2.2.1,xb.2.2.2.2.2.2.1,⟨xb.2.2.2.2.2.2.2.1,xc.1,xc.2.1,xc.2.2.1,xc.2.2.2.1,xc.2.2.2.2.1,xc.2.2.2.2.2.1,xc.2.2.2.2.2.2.1⟩,⟨xc.2.2.2.2.2.2.2.1,xd.1,xd.2.1,xd.2.2.1,xd.2.2.2.1,xd.2.2.2.2.1,xd.2.2.2.2.2.1,xd.2.2.2.2.2.2.1⟩,xd.2.2.2.2.2.2.2.1,xe.1⟩⟩,⟨⟨xe.2.1,xe.2.2.1,xe.2.2.2.1,xe.2.2.2.2.1,xe.2.2.2.2.2.1,xe.2.2.2.2.2.2.1,xe.2.2.2.2.2.2.2.1,xf.1,⟨xf.2.1,xf.2.2.1⟩,xf.2.2.2.1,xf.2.2.2.2.1,xf.2.2.2.2.2.1,xf.2.2.2.2.2.2.1⟩,⟨xf.2.2.2.2.2.2.2.1,xg.1⟩,xg.2.1,xg.2.2.1,⟨xg.2.2.2.1,xg.2.2.2.2.1⟩,xg.2.2.2.2.2.1,xg.2.2.2.2.2.2.1,xg.2.2.2.2.2.2.2.1,xh.1,xh.2.1,xh.2.2.1,⟨xh.2.2.2.1,xh.2.2.2.2.1,xh.2.2.2.2.2.1,xh.2.2.2.2.2.2.1⟩,xh.2.2.2.2.2.2.2.1,xi.1,⟨xi.2.1,xi.2.2.1⟩⟩,xi.2.2.2.1⟩
 | 17=>fun x=>⟨x.1,x.2.1⟩
 | _+18=>fun _=>()
theorem zIg:∀n x,pck n (unp n x)=x
 | 0=>fun _=>rfl
 | 1=>fun _=>rfl
 | 2=>fun _=>rfl
 | 3=>fun _=>rfl
 | 4=>fun _=>rfl
 | 5=>fun _=>rfl
 | 6=>fun _=>rfl
 | 7=>fun _=>rfl
 | 8=>fun _=>rfl
 | 9=>fun _=>rfl
 | 10=>fun _=>rfl
 | 11=>fun _=>rfl
 | 12=>fun _=>rfl
 | 13=>fun _=>rfl
 | 14=>fun _=>rfl
 | 15=>fun _=>rfl
 | 16=>fun _=>rfl
 | 17=>fun _=>rfl
 | _+18=>fun _=>rfl
theorem zHC:∀n h,unp n (pck n h)=h
 | 0=>fun _=>rfl
 | 1=>fun _=>rfl
 | 2=>fun _=>rfl
 | 3=>fun _=>rfl
 | 4=>fun _=>rfl
 | 5=>fun _=>rfl
 | 6=>fun _=>rfl
 | 7=>fun _=>rfl
 | 8=>fun _=>rfl
 | 9=>fun _=>rfl
 | 10=>fun _=>rfl
 | 11=>fun _=>rfl
 | 12=>fun _=>rfl
 | 13=>fun _=>rfl
 | 14=>fun _=>rfl
 | 15=>fun _=>rfl
 | 16=>fun _=>rfl
 | 17=>fun _=>rfl
 | _+18=>fun _=>rfl
theorem zG7:∀n,(lvs n).all (fun t=>match t with | .named _=>false | .arr _ _=>false | _=>true)=true
 | 0=>rfl
 | 1=>rfl
 | 2=>rfl
 | 3=>rfl
 | 4=>rfl
 | 5=>rfl
 | 6=>rfl
 | 7=>rfl
 | 8=>rfl
 | 9=>rfl
 | 10=>rfl
 | 11=>rfl
 | 12=>rfl
 | 13=>rfl
 | 14=>rfl
 | 15=>rfl
 | 16=>rfl
 | 17=>rfl
 | _+18=>rfl
def E:yw where
 T:=TT
 leaves:=lvs
 unpack:=unp
 pack:=pck
 pu:=zIg
 up:=zHC
 lf:=zG7
def tab:List (Nat×TI):=[
 (2,{size:=1,agg:=false,fields:=[],elem:=0,alen:=0,ty:=some (.int .i64),zero:=[.int .i64],bytes:=8,sl:=false,fk:=false,cmp:=false,mp:=false}),
 (3,{size:=1,agg:=false,fields:=[],elem:=0,alen:=0,ty:=some (.int .i64),zero:=[.int .i64],bytes:=8,sl:=false,fk:=false,cmp:=false,mp:=false}),
 (4,{size:=1,agg:=false,fields:=[],elem:=0,alen:=0,ty:=some .bool,zero:=[.bool],bytes:=1,sl:=false,fk:=false,cmp:=false,mp:=false}),
 (5,{size:=1,agg:=false,fields:=[],elem:=0,alen:=0,ty:=some (.int .u8),zero:=[.int .u8],bytes:=1,sl:=false,fk:=false,cmp:=false,mp:=false}),
 (22,{size:=1,agg:=false,fields:=[],elem:=5,alen:=0,ty:=some (.slice (.int .u8)),zero:=[.slice],bytes:=24,sl:=true,fk:=false,cmp:=false,mp:=false}),
 (24,{size:=1,agg:=false,fields:=[],elem:=38,alen:=0,ty:=some (.slice (.slice (.int .i64))),zero:=[.slice],bytes:=24,sl:=true,fk:=false,cmp:=false,mp:=false}),
 (26,{size:=2,agg:=true,fields:=[(0,3),(1,24)],elem:=0,alen:=0,ty:=some (.named 2),zero:=[.int .i64,.slice],bytes:=32,sl:=false,fk:=false,cmp:=false,mp:=false}),
 (27,{size:=1,agg:=false,fields:=[],elem:=0,alen:=0,ty:=some (.int .u64),zero:=[.int .u64],bytes:=8,sl:=false,fk:=false,cmp:=false,mp:=false}),
 (28,{size:=1,agg:=false,fields:=[],elem:=0,alen:=0,ty:=some (.int .u64),zero:=[.int .u64],bytes:=8,sl:=false,fk:=false,cmp:=false,mp:=false}),
 (29,{size:=1,agg:=false,fields:=[],elem:=60,alen:=0,ty:=some (.slice (.slice (.named 0))),zero:=[.slice],bytes:=24,sl:=true,fk:=false,cmp:=false,mp:=false}),
 (30,{size:=1,agg:=false,fields:=[],elem:=51,alen:=0,ty:=some (.slice (.named 1)),zero:=[.slice],bytes:=24,sl:=true,fk:=false,cmp:=false,mp:=false}),
 (32,{size:=14,agg:=true,fields:=[(0,3),(1,3),(2,3),(3,3),(4,3),(5,3),(6,2),(7,2),(8,26),(10,28),(11,24),(12,29),(13,30)],elem:=0,alen:=0,ty:=some (.named 3),zero:=[.int .i64,.int .i64,.int .i64,.int .i64,.int .i64,.int .i64,.int .i64,.int .i64,.int .i64,.slice,.int .u64,.slice,.slice,.slice],bytes:=176,sl:=false,fk:=false,cmp:=false,mp:=false}),
 (35,{size:=1,agg:=false,fields:=[],elem:=27,alen:=0,ty:=some (.slice (.int .u64)),zero:=[.slice],bytes:=24,sl:=true,fk:=false,cmp:=false,mp:=false}),
 (37,{size:=2,agg:=true,fields:=[(0,28),(1,28)],elem:=0,alen:=0,ty:=some (.named 9),zero:=[.int .u64,.int .u64],bytes:=16,sl:=false,fk:=false,cmp:=true,mp:=false}),
 (38,{size:=1,agg:=false,fields:=[],elem:=3,alen:=0,ty:=some (.slice (.int .i64)),zero:=[.slice],bytes:=24,sl:=true,fk:=false,cmp:=false,mp:=false}),
 (39,{size:=1,agg:=false,fields:=[],elem:=2,alen:=0,ty:=some (.slice (.int .i64)),zero:=[.slice],bytes:=24,sl:=true,fk:=false,cmp:=false,mp:=false}),
 (41,{size:=4,agg:=true,fields:=[(0,2),(1,2),(2,2),(3,39)],elem:=0,alen:=0,ty:=some (.named 10),zero:=[.int .i64,.int .i64,.int .i64,.slice],bytes:=48,sl:=false,fk:=false,cmp:=false,mp:=false}),
 (42,{size:=1,agg:=false,fields:=[],elem:=88,alen:=0,ty:=some (.slice (.named 7)),zero:=[.slice],bytes:=24,sl:=true,fk:=false,cmp:=false,mp:=false}),
 (43,{size:=1,agg:=false,fields:=[],elem:=96,alen:=0,ty:=some (.slice (.named 8)),zero:=[.slice],bytes:=24,sl:=true,fk:=false,cmp:=false,mp:=false}),
 (45,{size:=2,agg:=true,fields:=[(0,3),(1,3)],elem:=0,alen:=0,ty:=some (.named 11),zero:=[.int .i64,.int .i64],bytes:=16,sl:=false,fk:=false,cmp:=true,mp:=false}),
 (47,{size:=34,agg:=true,fields:=[(0,32),(14,26),(16,35),(17,24),(18,37),(20,3),(21,3),(22,4),(23,4),(24,3),(25,38),(26,41),(30,42),(31,43),(32,45)],elem:=0,alen:=0,ty:=some (.named 12),zero:=[.int .i64,.int .i64,.int .i64,.int .i64,.int .i64,.int .i64,.int .i64,.int .i64,.int .i64,.slice,.int .u64,.slice,.slice,.slice,.int .i64,.slice,.slice,.slice,.int .u64,.int .u64,.int .i64,.int .i64,.bool,.bool,.int .i64,.slice,.int .i64,.int .i64,.int .i64,.slice,.slice,.slice,.int .i64,.int .i64],bytes:=440,sl:=false,fk:=false,cmp:=false,mp:=false}),
 (51,{size:=2,agg:=true,fields:=[(0,3),(1,3)],elem:=0,alen:=0,ty:=some (.named 1),zero:=[.int .i64,.int .i64],bytes:=16,sl:=false,fk:=false,cmp:=true,mp:=false}),
 (59,{size:=4,agg:=true,fields:=[(0,3),(1,3),(2,3),(3,3)],elem:=0,alen:=0,ty:=some (.named 0),zero:=[.int .i64,.int .i64,.int .i64,.int .i64],bytes:=32,sl:=false,fk:=false,cmp:=true,mp:=false}),
 (60,{size:=1,agg:=false,fields:=[],elem:=59,alen:=0,ty:=some (.slice (.named 0)),zero:=[.slice],bytes:=24,sl:=true,fk:=false,cmp:=false,mp:=false}),
 (65,{size:=1,agg:=false,fields:=[],elem:=0,alen:=0,ty:=none,zero:=[.func],bytes:=8,sl:=false,fk:=true,cmp:=false,mp:=false}),
 (69,{size:=2,agg:=true,fields:=[(0,22),(1,3)],elem:=0,alen:=0,ty:=some (.named 17),zero:=[.slice,.int .i64],bytes:=32,sl:=false,fk:=false,cmp:=false,mp:=false}),
 (80,{size:=8,agg:=true,fields:=[(0,3),(1,3),(2,3),(3,3),(4,27),(5,27),(6,3),(7,3)],elem:=0,alen:=0,ty:=some (.named 4),zero:=[.int .i64,.int .i64,.int .i64,.int .i64,.int .u64,.int .u64,.int .i64,.int .i64],bytes:=64,sl:=false,fk:=false,cmp:=true,mp:=false}),
 (84,{size:=8,agg:=true,fields:=[(0,3),(1,3),(2,3),(3,3),(4,27),(5,3),(6,3),(7,3)],elem:=0,alen:=0,ty:=some (.named 5),zero:=[.int .i64,.int .i64,.int .i64,.int .i64,.int .u64,.int .i64,.int .i64,.int .i64],bytes:=64,sl:=false,fk:=false,cmp:=true,mp:=false}),
 (86,{size:=22,agg:=true,fields:=[(0,3),(1,3),(2,3),(3,3),(4,80),(12,84),(20,3),(21,3)],elem:=0,alen:=0,ty:=some (.named 6),zero:=[.int .i64,.int .i64,.int .i64,.int .i64,.int .i64,.int .i64,.int .i64,.int .i64,.int .u64,.int .u64,.int .i64,.int .i64,.int .i64,.int .i64,.int .i64,.int .i64,.int .u64,.int .i64,.int .i64,.int .i64,.int .i64,.int .i64],bytes:=176,sl:=false,fk:=false,cmp:=true,mp:=false}),
 (88,{size:=44,agg:=true,fields:=[(0,3),(1,3),(2,3),(3,3),(4,3),(5,38),(6,80),(14,84),(22,86)],elem:=0,alen:=0,ty:=some (.named 7),zero:=[.int .i64,.int .i64,.int .i64,.int .i64,.int .i64,.slice,.int .i64,.int .i64,.int .i64,.int .i64,.int .u64,.int .u64,.int .i64,.int .i64,.int .i64,.int .i64,.int .i64,.int .i64,.int .u64,.int .i64,.int .i64,.int .i64,.int .i64,.int .i64,.int .i64,.int .i64,.int .i64,.int .i64,.int .i64,.int .i64,.int .u64,.int .u64,.int .i64,.int .i64,.int .i64,.int .i64,.int .i64,.int .i64,.int .u64,.int .i64,.int .i64,.int .i64,.int .i64,.int .i64],bytes:=368,sl:=false,fk:=false,cmp:=false,mp:=false}),
 (96,{size:=41,agg:=true,fields:=[(0,3),(1,3),(2,3),(3,3),(4,3),(5,3),(6,3),(7,3),(8,38),(9,38),(10,38),(11,84),(19,86)],elem:=0,alen:=0,ty:=some (.named 8),zero:=[.int .i64,.int .i64,.int .i64,.int .i64,.int .i64,.int .i64,.int .i64,.int .i64,.slice,.slice,.slice,.int .i64,.int .i64,.int .i64,.int .i64,.int .u64,.int .i64,.int .i64,.int .i64,.int .i64,.int .i64,.int .i64,.int .i64,.int .i64,.int .i64,.int .i64,.int .i64,.int .u64,.int .u64,.int .i64,.int .i64,.int .i64,.int .i64,.int .i64,.int .i64,.int .u64,.int .i64,.int .i64,.int .i64,.int .i64,.int .i64],bytes:=376,sl:=false,fk:=false,cmp:=false,mp:=false}),
 (98,{size:=1,agg:=false,fields:=[],elem:=0,alen:=0,ty:=none,zero:=[.func],bytes:=8,sl:=false,fk:=true,cmp:=false,mp:=false}),
 (99,{size:=1,agg:=false,fields:=[],elem:=98,alen:=0,ty:=none,zero:=[.map],bytes:=8,sl:=false,fk:=false,cmp:=false,mp:=true}),
 (105,{size:=1,agg:=false,fields:=[],elem:=0,alen:=0,ty:=some (.int .i64),zero:=[.int .i64],bytes:=8,sl:=false,fk:=false,cmp:=false,mp:=false}),
 (109,{size:=6,agg:=true,fields:=[],elem:=65,alen:=6,ty:=none,zero:=[.func,.func,.func,.func,.func,.func],bytes:=48,sl:=false,fk:=false,cmp:=false,mp:=false}),
 (116,{size:=1,agg:=false,fields:=[],elem:=3,alen:=0,ty:=some (.slice (.int .i64)),zero:=[.slice],bytes:=24,sl:=true,fk:=false,cmp:=false,mp:=false}),
 (140,{size:=79,agg:=true,fields:=[(0,88),(44,47),(78,3)],elem:=0,alen:=0,ty:=some (.named 14),zero:=[.int .i64,.int .i64,.int .i64,.int .i64,.int .i64,.slice,.int .i64,.int .i64,.int .i64,.int .i64,.int .u64,.int .u64,.int .i64,.int .i64,.int .i64,.int .i64,.int .i64,.int .i64,.int .u64,.int .i64,.int .i64,.int .i64,.int .i64,.int .i64,.int .i64,.int .i64,.int .i64,.int .i64,.int .i64,.int .i64,.int .u64,.int .u64,.int .i64,.int .i64,.int .i64,.int .i64,.int .i64,.int .i64,.int .u64,.int .i64,.int .i64,.int .i64,.int .i64,.int .i64,.int .i64,.int .i64,.int .i64,.int .i64,.int .i64,.int .i64,.int .i64,.int .i64,.int .i64,.slice,.int .u64,.slice,.slice,.slice,.int .i64,.slice,.slice,.slice,.int .u64,.int .u64,.int .i64,.int .i64,.bool,.bool,.int .i64,.slice,.int .i64,.int .i64,.int .i64,.slice,.slice,.slice,.int .i64,.int .i64,.int .i64],bytes:=816,sl:=false,fk:=false,cmp:=false,mp:=false}),
 (144,{size:=76,agg:=true,fields:=[(0,96),(41,47),(75,3)],elem:=0,alen:=0,ty:=some (.named 16),zero:=[.int .i64,.int .i64,.int .i64,.int .i64,.int .i64,.int .i64,.int .i64,.int .i64,.slice,.slice,.slice,.int .i64,.int .i64,.int .i64,.int .i64,.int .u64,.int .i64,.int .i64,.int .i64,.int .i64,.int .i64,.int .i64,.int .i64,.int .i64,.int .i64,.int .i64,.int .i64,.int .u64,.int .u64,.int .i64,.int .i64,.int .i64,.int .i64,.int .i64,.int .i64,.int .u64,.int .i64,.int .i64,.int .i64,.int .i64,.int .i64,.int .i64,.int .i64,.int .i64,.int .i64,.int .i64,.int .i64,.int .i64,.int .i64,.int .i64,.slice,.int .u64,.slice,.slice,.slice,.int .i64,.slice,.slice,.slice,.int .u64,.int .u64,.int .i64,.int .i64,.bool,.bool,.int .i64,.slice,.int .i64,.int .i64,.int .i64,.slice,.slice,.slice,.int .i64,.int .i64,.int .i64],bytes:=824,sl:=false,fk:=false,cmp:=false,mp:=false}),
 (147,{size:=1,agg:=false,fields:=[],elem:=0,alen:=0,ty:=none,zero:=[.func],bytes:=8,sl:=false,fk:=true,cmp:=false,mp:=false}),
 (148,{size:=4,agg:=true,fields:=[],elem:=147,alen:=4,ty:=none,zero:=[.func,.func,.func,.func],bytes:=32,sl:=false,fk:=false,cmp:=false,mp:=false}),
 (154,{size:=1,agg:=false,fields:=[],elem:=86,alen:=0,ty:=some (.slice (.named 6)),zero:=[.slice],bytes:=24,sl:=true,fk:=false,cmp:=false,mp:=false}),
 (162,{size:=64,agg:=true,fields:=[],elem:=3,alen:=64,ty:=some (.arr 64 (.int .i64)),zero:=[.int .i64,.int .i64,.int .i64,.int .i64,.int .i64,.int .i64,.int .i64,.int .i64,.int .i64,.int .i64,.int .i64,.int .i64,.int .i64,.int .i64,.int .i64,.int .i64,.int .i64,.int .i64,.int .i64,.int .i64,.int .i64,.int .i64,.int .i64,.int .i64,.int .i64,.int .i64,.int .i64,.int .i64,.int .i64,.int .i64,.int .i64,.int .i64,.int .i64,.int .i64,.int .i64,.int .i64,.int .i64,.int .i64,.int .i64,.int .i64,.int .i64,.int .i64,.int .i64,.int .i64,.int .i64,.int .i64,.int .i64,.int .i64,.int .i64,.int .i64,.int .i64,.int .i64,.int .i64,.int .i64,.int .i64,.int .i64,.int .i64,.int .i64,.int .i64,.int .i64,.int .i64,.int .i64,.int .i64,.int .i64],bytes:=512,sl:=false,fk:=false,cmp:=true,mp:=false}),
 (173,{size:=1,agg:=false,fields:=[],elem:=3,alen:=0,ty:=none,zero:=[.map],bytes:=8,sl:=false,fk:=false,cmp:=false,mp:=true}),
 (178,{size:=4,agg:=true,fields:=[(0,3),(1,3),(2,27),(3,27)],elem:=0,alen:=0,ty:=some (.named 13),zero:=[.int .i64,.int .i64,.int .u64,.int .u64],bytes:=32,sl:=false,fk:=false,cmp:=true,mp:=false}),
 (183,{size:=1,agg:=false,fields:=[],elem:=0,alen:=0,ty:=none,zero:=[.func],bytes:=8,sl:=false,fk:=true,cmp:=false,mp:=false}),
 (184,{size:=1,agg:=false,fields:=[],elem:=183,alen:=0,ty:=none,zero:=[.map],bytes:=8,sl:=false,fk:=false,cmp:=false,mp:=true}),
 (197,{size:=1,agg:=false,fields:=[],elem:=0,alen:=0,ty:=none,zero:=[.func],bytes:=8,sl:=false,fk:=true,cmp:=false,mp:=false}),
 (198,{size:=1,agg:=false,fields:=[],elem:=197,alen:=0,ty:=none,zero:=[.map],bytes:=8,sl:=false,fk:=false,cmp:=false,mp:=true}),
 (200,{size:=1,agg:=false,fields:=[],elem:=0,alen:=0,ty:=none,zero:=[.func],bytes:=8,sl:=false,fk:=true,cmp:=false,mp:=false}),
 (210,{size:=1,agg:=false,fields:=[],elem:=0,alen:=0,ty:=none,zero:=[.func],bytes:=8,sl:=false,fk:=true,cmp:=false,mp:=false}),
 (212,{size:=8,agg:=true,fields:=[],elem:=210,alen:=8,ty:=none,zero:=[.func,.func,.func,.func,.func,.func,.func,.func],bytes:=64,sl:=false,fk:=false,cmp:=false,mp:=false}),
 (214,{size:=56,agg:=true,fields:=[(0,86),(22,47)],elem:=0,alen:=0,ty:=some (.named 15),zero:=[.int .i64,.int .i64,.int .i64,.int .i64,.int .i64,.int .i64,.int .i64,.int .i64,.int .u64,.int .u64,.int .i64,.int .i64,.int .i64,.int .i64,.int .i64,.int .i64,.int .u64,.int .i64,.int .i64,.int .i64,.int .i64,.int .i64,.int .i64,.int .i64,.int .i64,.int .i64,.int .i64,.int .i64,.int .i64,.int .i64,.int .i64,.slice,.int .u64,.slice,.slice,.slice,.int .i64,.slice,.slice,.slice,.int .u64,.int .u64,.int .i64,.int .i64,.bool,.bool,.int .i64,.slice,.int .i64,.int .i64,.int .i64,.slice,.slice,.slice,.int .i64,.int .i64],bytes:=616,sl:=false,fk:=false,cmp:=false,mp:=false}),
 (232,{size:=1,agg:=false,fields:=[],elem:=116,alen:=0,ty:=some (.slice (.slice (.int .i64))),zero:=[.slice],bytes:=24,sl:=true,fk:=false,cmp:=false,mp:=false}),
 (234,{size:=3,agg:=true,fields:=[],elem:=200,alen:=3,ty:=none,zero:=[.func,.func,.func],bytes:=24,sl:=false,fk:=false,cmp:=false,mp:=false}),
 (235,{size:=1,agg:=false,fields:=[],elem:=237,alen:=0,ty:=none,zero:=[.slice],bytes:=24,sl:=true,fk:=false,cmp:=false,mp:=false}),
 (237,{size:=1,agg:=false,fields:=[],elem:=0,alen:=0,ty:=none,zero:=[.func],bytes:=8,sl:=false,fk:=true,cmp:=false,mp:=false})]
theorem zsa:yG E.leaves Go.Proofs.Tryz.prog tab=true:=by kernel_rfl
theorem zwe:(Go.Proofs.Tryz.prog).follows .mixedOrders=true:=by kernel_rfl
abbrev L (n:Nat):List SK:=(lvs n).map .val
abbrev vI:SK:= .val (.int .i64)
abbrev vU:SK:= .val (.int .u64)
abbrev vB:SK:= .val .bool
abbrev vL:SK:= .val (.slice (.int .i64))
abbrev vM:SK:= .val (.slice (.int .u64))
abbrev oI:Grp:= .one (.int .i64)
abbrev oU:Grp:= .one (.int .u64)
abbrev oB:Grp:= .one .bool
abbrev oL:Grp:= .one (.slice (.int .i64))
abbrev oM:Grp:= .one (.slice (.int .u64))
noncomputable abbrev cf:=zDL (E:=E) Go.Proofs.Tryz.prog tab
noncomputable abbrev sp (C:Cfg E) (fn:Func) (i o:xS) (gi go:List Grp) (hi:Z0 E gi=i.holes:=by kernel_rfl) (ho:Z0 E go=o.holes:=by kernel_rfl):zC E:=zrR C fn i o gi go hi ho
noncomputable abbrev lo (sl:List Nat) (i:xS) (b:Nat) (bs:List Nat) (bk:xS) (rs:List Nat) (r:xS) (gi gb gr:List Grp) (hi:Z0 E gi=i.holes:=by kernel_rfl) (hb:Z0 E gb=bk.holes:=by kernel_rfl) (hr:Z0 E gr=r.holes:=by kernel_rfl):zP E:={slots:=sl,inn:=i,brkId:=b,bslots:=bs,brk:=bk,rslots:=rs,ret:=r,gi:=grp gi hi,gb:=grp gb hb,gr:=grp gr hr}
end Go.Pe.G
namespace Go.Proofs
open Go.Shelf
def rhoTz:Go.Shelf.Ren:={f:=fun k=>if k=29 then 116 else k,t:=fun k=>if k=22 then 27 else if k=25 then 146 else if k=54 then 196 else k,g:=fun k=>if k=1 then 0 else k}
theorem laysTz:Lays7.n29 Tryz.prog rhoTz:=by
 constructor<;>first | kernel_rfl | (intro w;kernel_rfl)
end Go.Proofs
namespace Go.Pe.G
open Go.Pe
def zqV (G:Nat->Prop) (W0:World):Prop:=G 0/\Go.Proofs.TabAt 0 Go.Lib.deBruijn64tab W0
noncomputable def tz (x:BitVec 64):Int:=((Go.Lib.ctz 64 x.toNat:Nat):Int)
noncomputable def pTZ:zC E:={inn:=⟨[.val (.int .u64)],[]⟩,out:=⟨[.val (.int .i64)],[]⟩,gi:=grp [.one (.int .u64)] rfl,go:=grp [.one (.int .i64)] rfl,F:=fun x=>some (tz x.1,())}
noncomputable def qTZ (a:BitVec 64):Option (Int×Unit):=pTZ.F (a,())
theorem zIB (a:BitVec 64):qTZ a=some (tz a,()):=rfl
theorem zH1:YJ Go.Proofs.Tryz.prog 116=true:=by kernel_rfl
theorem zFx {G:Nat->Prop}{W0:World}(hG:zqV G W0):Wm Go.Proofs.Tryz.prog G W0 116 pTZ:=by
 intro A0 μ w args x y wd S hr hy;obtain ⟨hg,hT⟩:=hG;have hw:w.heap[0]? =W0.heap[0]? :=(wd.glob 0 hg).2;have hx:∃v,args= #[v]/\yn E w (Av A0 μ ([]:List (Blk E))) (.int .u64) v x.1:=by
  have hl:=hr.1;have hl:1=args.toList.length:=hl
  match ha:args.toList,hl with
  | [v],_ =>
   have h1:=hr.2 0 (.v (.int .u64) x.1) v rfl (by rw [ha];rfl);refine ⟨v,?_,?_⟩
   .rw [<-Array.toArray_toList (xs:=args),ha]
   .cases h1 with
    | v _ _ _ h=>exact h
 obtain ⟨v,rfl,hv⟩:=hx;cases hv with
 | int k z =>
 have hz:x.1.toNat<18446744073709551616:=x.1.isLt;have hk:=Go.Proofs.Any7.bits_TrailingZeros64 Go.Proofs.laysTz x.1.toNat hz w (fun _ j hj=>by
  have:=hT j hj;unfold World.cell? at this ⊢;show _=_;have e0:Go.Proofs.rhoTz.g 1=0:=rfl;rw [e0];simp only [hw];exact this)
 have hy:some (tz x.1,())=some y:=hy;injection hy with hy;subst hy;refine hk.mono ?_;rintro e w' ⟨rfl,rfl⟩;refine ⟨[.int .i64 (tz x.1)],A0,μ,rfl,S,?_,Adv.refl _ _,fun _ h=>h,wd.low,fun j ws h=>by simp [pTZ] at h⟩;exact RL.cons (.v _ _ _ (.int .i64 (tz x.1))) RL.nil
noncomputable def zag:Nat->BitVec 64->Option (List Int)
 | 0,_=>none
 | f+1,s=>bif decide (s=0#64) then some [] else (zag f (s&&&(s-1#64))).map fun l=>w64 (tz s+1)::l
def vQ (n:Nat):Nat->List Int->List (List Int)
 | 0,_=>[]
 | _+1,[]=>[]
 | f+1,x::l=>(x::l).take n::vQ n f ((x::l).drop n)
def zla (l:List Int) (n:Int):Option (List (List Int)):=bif decide (1<=n)&&decide (n<1000000)&&decide ((l.length:Int)<1000000) then some (vQ n.toNat l.length l) else none
end Go.Pe.G
namespace Go.Proofs
open Go.Shelf
def zJc:Go.Shelf.Ren:={f:=fun k=>if k=125 then 228 else if k=128 then 252 else if k=129 then 253 else if k=215 then 262 else if k=216 then 249 else if k=257 then 227 else if k=294 then 243 else if k=295 then 244 else if k=296 then 245 else if k=297 then 246 else if k=298 then 247 else if k=299 then 248 else if k=300 then 250 else if k=301 then 251 else if k=328 then 257 else if k=329 then 258 else if k=330 then 259 else if k=331 then 260 else if k=332 then 261 else if k=343 then 263 else k,t:=fun k=>if k=0 then 0 else if k=3 then 3 else if k=4 then 4 else if k=5 then 5 else if k=9 then 9 else if k=28 then 38 else if k=46 then 146 else if k=51 then 258 else if k=53 then 27 else if k=131 then 207 else if k=182 then 251 else if k=183 then 252 else if k=218 then 261 else if k=222 then 264 else if k=228 then 266 else if k=229 then 63 else k,g:=fun k=>k}
theorem laysPd:Lays.n257 Tryz.prog zJc:=by
 constructor<;>first | kernel_rfl | (intro w;kernel_rfl)
def zJg:Go.Shelf.Ren:={f:=fun k=>if k=125 then 228 else if k=128 then 252 else if k=129 then 253 else k,t:=fun k=>if k=3 then 3 else if k=4 then 4 else if k=5 then 5 else if k=9 then 9 else if k=46 then 146 else if k=51 then 258 else if k=53 then 27 else k,g:=fun k=>k}
theorem laysLn:Lays.n125 Tryz.prog zJg:=by
 constructor<;>first | kernel_rfl | (intro w;kernel_rfl)
end Go.Proofs
namespace Go.Pe.G
open Go.Pe
noncomputable def wV (l:List Int):List Int:=l.mergeSort fun x y=>decide (x<=y)
noncomputable def zJy (a b c:Int) (l:List Int):Option (List Int×Unit):=bif decide (a=0)&&decide (b=(l.length:Int))&&decide (c=((Go.Sort.bitsLen l.length:Nat):Int))&&decide (l.length<4294967296) then some (wV l,()) else none
noncomputable def zJz:zC E:={inn:=⟨[.own 0,.val (.int .i64),.val (.int .i64),.val (.int .i64)],[.row true (.int .i64)]⟩,out:=⟨[],[.row true (.int .i64)]⟩,gi:=grp [.one (.int .i64),.one (.int .i64),.one (.int .i64),.one (.slice (.int .i64))] rfl,go:=grp [.one (.slice (.int .i64))] rfl,F:=fun x=>zJy x.1 x.2.1 x.2.2.1 x.2.2.2.1}
noncomputable def zo2 (l:List Int):Option (List Int×Unit):=bif decide (l.length<4294967296) then some (wV l,()) else none
noncomputable def zsm:zC E:={inn:=⟨[.val (.slice (.int .i64))],[]⟩,out:=⟨[.own 0],[.row true (.int .i64)]⟩,gi:=grp [.one (.slice (.int .i64))] rfl,go:=grp [.one (.slice (.int .i64))] rfl,F:=fun x=>zo2 x.1}
noncomputable def zsB (l:List Int):Option (List Int×Unit):=zsm.F (l,())
theorem zDm (l:List Int):zsB l=zo2 l:=rfl
theorem zDC {A0:Nat->Prop}{μ:Nat->Loc}{l:List Int}{w:World}{bk off cap:Nat}{cc:Array Value}{t:TypeId}(S:zT A0 μ [Blk.row (E:=E) true (.int .i64) l] w) (hμ:μ 0= .blk bk off l.length cap) (hb:bk<w.heap.size) (e2:w.heap[bk]? =some (.cells cc t (0,0))) (h1:l.length<=cap) (h2:off+cap*1<=cc.size)
  (hcell:∀(j:Nat) (h:j<l.length),cc[off+j]? =some (.int .i64 l[j])) (n:Nat) (os:Array Obj) :
  zT A0 μ [Blk.row (E:=E) true (.int .i64) (wV l)] (Go.Sort.grow (Go.Sort.putRow (Value.int .i64) (Go.Sort.ahead w n) bk off (wV l).toArray) os)/\Adv (Lv μ [Blk.row (E:=E) true (.int .i64) l]) w (Lv μ [Blk.row (E:=E) true (.int .i64) (wV l)]) (Go.Sort.grow (Go.Sort.putRow (Value.int .i64) (Go.Sort.ahead w n) bk off (wV l).toArray) os):=by
 have hlen':(wV l).length=l.length:=List.length_mergeSort l;have hheap:∀k,k<w.heap.size->(Go.Sort.grow (Go.Sort.putRow (Value.int .i64) (Go.Sort.ahead w n) bk off (wV l).toArray) os).heap[k]? =if bk=k then some (.cells (Go.Sort.putCells (Value.int .i64) off (wV l).toArray cc) t (0,0)) else w.heap[k]? :=fun k hk=>by
  rw [Go.Sort.heap_grow_old _ _ (by unfold Go.Sort.putRow Go.Sort.mapBlock Go.Sort.ahead;simpa using hk)];unfold Go.Sort.putRow Go.Sort.mapBlock Go.Sort.ahead;dsimp only;rw [Array.getElem?_modify];split
  .rename_i h;subst h;rw [e2];rfl
  .rfl
 have hsize:w.heap.size<=(Go.Sort.grow (Go.Sort.putRow (Value.int .i64) (Go.Sort.ahead w n) bk off (wV l).toArray) os).heap.size:=by
  unfold Go.Sort.grow Go.Sort.putRow Go.Sort.mapBlock Go.Sort.ahead;simp
 have hput:∀(i:Nat) (h:i<(wV l).length),(Go.Sort.putCells (Value.int .i64) off (wV l).toArray cc)[off+i]? =some (.int .i64 (wV l)[i]):=fun i h=>by
  unfold Go.Sort.putCells;rw [Array.getElem?_mapIdx,hcell i (by omega),zKD,zb ⟨by omega,by simp;omega⟩,show off+i-off=i by omega,getElem!_pos (wV l).toArray i (by simpa using h)];rfl
 refine ⟨⟨fun id=>?_,fun i j b o l c b' o' l' c' ne hi hj=>?_,fun id b o l c ho hm=>?_⟩,⟨rfl,rfl,rfl,hsize,fun b hb2 hn=>?_,fun b _ h=>?_⟩⟩
 .match id with
  | 0 =>
   refine .inl ⟨bk,off,cap,_,fun i=>.int .i64 ((wV l).getD i 0),?_,⟨t,(0,0),by rw [hheap bk hb,zb rfl],fun _=>rfl⟩,?_,?_,fun i hi j u hu=>?_,fun i hi=>?_⟩
   .rw [hμ];show Loc.blk bk off l.length cap=Loc.blk bk off (wV l).length cap;rw [hlen']
   .show (wV l).length<=cap;omega
   .show off+cap*1<=(Go.Sort.putCells (Value.int .i64) off (wV l).toArray cc).size;unfold Go.Sort.putCells;rw [Array.size_mapIdx];exact h2
   .have hi:i<(wV l).length:=hi
    match j,hu with
    | 0,hu =>
     have hu:some (Value.int .i64 ((wV l).getD i 0))=some u:=hu;injection hu with hu;subst hu;show (Go.Sort.putCells (Value.int .i64) off (wV l).toArray cc)[off+i*1+0]? =_;rw [zKx,zKj,hput i hi,zJD,zJC hi];rfl
    | j+1,hu=>cases hu
   .have hi:i<(wV l).length:=hi;have e:(wV l).getD i 0=(wV l)[i]:=by rw [zJD,zJC hi];rfl
    show yn E _ _ (.int .i64) (.int .i64 ((wV l).getD i 0)) (wV l)[i];rw [e];exact .int .i64 _
  | id+1=>exact trivial
 .match i,j with
  | 0,0=>exact absurd rfl ne
  | 0,j+1=>cases hj
  | i+1,_=>cases hi
 .match id with
  | 0 =>
   have hm:μ 0=Loc.blk b o l c:=hm;have:=S.out 0 b o l c rfl hm;exact ⟨this.1,zJX this.2 hsize⟩
  | id+1=>cases ho
 .rw [hheap b hb2,zc];rintro rfl;exact hn ⟨0,off,l.length,cap,rfl,hμ⟩
 .obtain ⟨id,off2,len2,cap2,hl,hm⟩:=h
  match id with
  | 0=>exact ⟨0,off2,len2,cap2,rfl,hm⟩
  | id+1=>cases hl
end Go.Pe.G
namespace Go.Pe.G
open Go.Pe
noncomputable def zvc (l:List Int):Option (List Int×Unit):=bif decide (0<l.length)&&decide (l.length<4294967296) then some (l.filter (fun x=> !decide (x=0)),()) else none
noncomputable def zzv:zC E:={inn:=⟨[.own 0],[.row true (.int .i64)]⟩,out:=⟨[.own 1],[.gone,.row true (.int .i64)]⟩,gi:=grp [.one (.slice (.int .i64))] rfl,go:=grp [.one (.slice (.int .i64))] rfl,F:=fun x=>zvc x.1}
noncomputable def ze3 (l:List Int):Option (List Int×Unit):=zzv.F (l,())
theorem zzU (l:List Int):ze3 l=zvc l:=rfl
noncomputable def zvo (n:Int):Option (List Int×Unit):=bif decide (0<=n)&&decide (n<4294967296) then some ([],()) else none
noncomputable def zEk:zC E:={inn:=⟨[.nils,.val (.int .i64)],[]⟩,out:=⟨[.own 0],[.row true (.int .i64)]⟩,gi:=grp [.one (.int .i64)] rfl,go:=grp [.one (.slice (.int .i64))] rfl,F:=fun x=>zvo x.1}
noncomputable def zDU (n:Int):Option (List Int×Unit):=zEk.F (n,())
theorem zGL (n:Int):zDU n=zvo n:=rfl
end Go.Pe.G
namespace Go.Pe.G
open Go.Pe
noncomputable section
def zpK:Cfg E:=cf [] [] [] [] [] []
def zbL:zC E:=sp zpK Go.Proofs.Tryz.f48 ⟨[vU],[]⟩ ⟨[vI],[]⟩ [oU] [oI]
def zih (a1:BitVec 64):Option (Int×Unit):=zbL.F (a1,())
def zzn:Cfg E:=cf [(48,[zbL])] [] [] [] [] []
def za9:zC E:=sp zzn Go.Proofs.Tryz.f11 ⟨[vU],[]⟩ ⟨[vI],[]⟩ [oU] [oI]
def Wt (a1:BitVec 64):Option (Int×Unit):=za9.F (a1,())
def zy4:Cfg E:=cf [] [] [] [] [] []
def Wq:zC E:=sp zy4 Go.Proofs.Tryz.f10 ⟨[vU,vU],[]⟩ ⟨[vB],[]⟩ [oU,oU] [oB]
def Z9 (a1:BitVec 64) (a2:BitVec 64):Option (Bool×Unit):=Wq.F (a1,a2,())
def zzs:Cfg E:=cf [] [] [] [] [] []
def Um:zC E:=sp zzs Go.Proofs.Tryz.f46 ⟨[vI],[]⟩ ⟨[vU],[]⟩ [oI] [oU]
def Ug (a1:Int):Option ((BitVec 64)×Unit):=Um.F (a1,())
def zrz:Cfg E:=cf [] [] [] [] [] []
def zd8:zC E:=sp zrz Go.Proofs.Tryz.f93 ⟨[vI,.ptr 0],[.box false [vI,.val (.slice (.slice (.int .i64)))]]⟩ ⟨[vB],[.gone]⟩ [oI,.str 2] [oB]
def zld (a1:Int) (a2:zq):Option (Bool×Unit):=zd8.F (a1,a2,())
def uI:zP E:=lo [0,1,7,8] ⟨[vL,.fn 93 [.ptr 1],vI,vI],[.gone,.box false [vI,.val (.slice (.slice (.int .i64)))]]⟩ 0 [] ⟨[],[.gone]⟩ [4] ⟨[vI],[.gone]⟩ [oL,oI,oI,.str 2] [] [oI]
def wz:Cfg E:=cf [(93,[zd8])] [(2,uI)] [] [] [] []
def wL:zC E:=sp wz Go.Proofs.Tryz.f109 ⟨[vL,.fn 93 [.ptr 0]],[.box false [vI,.val (.slice (.slice (.int .i64)))]]⟩ ⟨[vI],[.gone]⟩ [oL,.str 2] [oI]
def Zl (a1:List Int) (a2:zq):Option (Int×Unit):=wL.F (a1,a2,())
def uD (x:(List Int)×Int×Int×zq×Unit):Option (yD ((List Int)×Int×Int×zq×Unit) (Unit) (Int×Unit)):=z9 wz (exec wz (yz Go.Proofs.Tryz.f109 2)) 19 uI x
def Wb:Cfg E:=cf [(109,[wL])] [] [] [] [] []
def wp:zC E:=sp Wb Go.Proofs.Tryz.f72 ⟨[vL,.fn 93 [.ptr 0]],[.box false [vI,.val (.slice (.slice (.int .i64)))]]⟩ ⟨[vB],[.gone]⟩ [oL,.str 2] [oB]
def wj (a1:List Int) (a2:zq):Option (Bool×Unit):=wp.F (a1,a2,())
def zui:Cfg E:=cf [(72,[wp])] [] [] [] [] []
def zgQ:zC E:=sp zui Go.Proofs.Tryz.f92 ⟨[vL,.ptr 0],[.box false [vI,.val (.slice (.slice (.int .i64)))]]⟩ ⟨[vB],[.gone]⟩ [oL,.str 2] [oB]
def zop (a1:List Int) (a2:zq):Option (Bool×Unit):=zgQ.F (a1,a2,())
def uB:zP E:=lo [0,1,7,8] ⟨[.val (.slice (.slice (.int .i64))),.fn 92 [.ptr 1],vI,vI],[.gone,.box false [vI,.val (.slice (.slice (.int .i64)))]]⟩ 0 [] ⟨[],[.gone]⟩ [4] ⟨[vI],[.gone]⟩ [.one (.slice (.slice (.int .i64))),oI,oI,.str 2] [] [oI]
def wA:Cfg E:=cf [(92,[zgQ])] [(2,uB)] [] [] [] []
def wN:zC E:=sp wA Go.Proofs.Tryz.f147 ⟨[.val (.slice (.slice (.int .i64))),.fn 92 [.ptr 0]],[.box false [vI,.val (.slice (.slice (.int .i64)))]]⟩ ⟨[vI],[.gone]⟩ [.one (.slice (.slice (.int .i64))),.str 2] [oI]
def Zn (a1:List (List Int)) (a2:zq):Option (Int×Unit):=wN.F (a1,a2,())
def uF (x:(List (List Int))×Int×Int×zq×Unit):Option (yD ((List (List Int))×Int×Int×zq×Unit) (Unit) (Int×Unit)):=z9 wA (exec wA (yz Go.Proofs.Tryz.f147 2)) 19 uB x
def X6:Cfg E:=cf [(147,[wN])] [] [] [] [] []
def wn:zC E:=sp X6 Go.Proofs.Tryz.f94 ⟨[.val (.slice (.slice (.int .i64))),.fn 92 [.ptr 0]],[.box false [vI,.val (.slice (.slice (.int .i64)))]]⟩ ⟨[vB],[.gone]⟩ [.one (.slice (.slice (.int .i64))),.str 2] [oB]
def wo (a1:List (List Int)) (a2:zq):Option (Bool×Unit):=wn.F (a1,a2,())
def zxD:Cfg E:=cf [(94,[wn])] [] [] [] [] []
def zcc:zC E:=sp zxD Go.Proofs.Tryz.f53 ⟨[.val (.named 2)],[]⟩ ⟨[vB],[]⟩ [.one (.named 2)] [oB]
def Xj (a1:zq):Option (Bool×Unit):=zcc.F (a1,())
def zwi:Cfg E:=cf [] [] [] [] [] []
def za1:zC E:=sp zwi Go.Proofs.Tryz.f71 ⟨[vI,vI,vI],[]⟩ ⟨[vB],[]⟩ [oI,oI,oI] [oB]
def uM (a1:Int) (a2:Int) (a3:Int):Option (Bool×Unit):=za1.F (a1,a2,a3,())
def zqT:Cfg E:=cf [(71,[za1])] [] [] [] [] []
def zcZ:zC E:=sp zqT Go.Proofs.Tryz.f70 ⟨[.val (.named 3)],[]⟩ ⟨[vB],[]⟩ [.one (.named 3)] [oB]
def zcY (a1:zd):Option (Bool×Unit):=zcZ.F (a1,())
def ztC:Cfg E:=cf [(71,[za1])] [] [] [] [] []
def zgw:zC E:=sp ztC Go.Proofs.Tryz.f73 ⟨[vI,.ptr 0],[.box false [vI]]⟩ ⟨[vB],[.gone]⟩ [oI,oI] [oB]
def zow (a1:Int) (a2:Int):Option (Bool×Unit):=zgw.F (a1,a2,())
def uY:zP E:=lo [0,1,7,8] ⟨[vL,.fn 73 [.ptr 1],vI,vI],[.gone,.box false [vI]]⟩ 0 [] ⟨[],[.gone]⟩ [4] ⟨[vI],[.gone]⟩ [oL,oI,oI,oI] [] [oI]
def wM:Cfg E:=cf [(73,[zgw])] [(2,uY)] [] [] [] []
def vb:zC E:=sp wM Go.Proofs.Tryz.f109 ⟨[vL,.fn 73 [.ptr 0]],[.box false [vI]]⟩ ⟨[vI],[.gone]⟩ [oL,oI] [oI]
def ZB (a1:List Int) (a2:Int):Option (Int×Unit):=vb.F (a1,a2,())
def u0 (x:(List Int)×Int×Int×Int×Unit):Option (yD ((List Int)×Int×Int×Int×Unit) (Unit) (Int×Unit)):=z9 wM (exec wM (yz Go.Proofs.Tryz.f109 2)) 19 uY x
def WF:Cfg E:=cf [(109,[vb])] [] [] [] [] []
def wF:zC E:=sp WF Go.Proofs.Tryz.f72 ⟨[vL,.fn 73 [.ptr 0]],[.box false [vI]]⟩ ⟨[vB],[.gone]⟩ [oL,oI] [oB]
def wI (a1:List Int) (a2:Int):Option (Bool×Unit):=wF.F (a1,a2,())
def zuF:Cfg E:=cf [] [] [] [] [] []
def zhl:zC E:=sp zuF Go.Proofs.Tryz.f159 ⟨[vI,.ptr 0],[.box false [vI]]⟩ ⟨[vB],[.gone]⟩ [oI,oI] [oB]
def yf (a1:Int) (a2:Int):Option (Bool×Unit):=zhl.F (a1,a2,())
def zw9:Cfg E:=cf [(159,[zhl])] [] [] [] [] []
def zlT:zC E:=sp zw9 Go.Proofs.Tryz.f112 ⟨[.val (.named 0),vI,vI],[]⟩ ⟨[vB],[]⟩ [.one (.named 0),oI,oI] [oB]
def zlr (a1:zw) (a2:Int) (a3:Int):Option (Bool×Unit):=zlT.F (a1,a2,a3,())
def zvn:Cfg E:=cf [(112,[zlT])] [] [] [] [] []
def zjA:zC E:=sp zvn Go.Proofs.Tryz.f111 ⟨[.val (.named 0),.ptr 0,.ptr 1],[.box false [vI],.box false [vI]]⟩ ⟨[vB],[.gone,.gone]⟩ [.one (.named 0),oI,oI] [oB]
def zqw (a1:zw) (a2:Int) (a3:Int):Option (Bool×Unit):=zjA.F (a1,a2,a3,())
def vO:zP E:=lo [0,1,7,8] ⟨[.val (.slice (.named 0)),.fn 111 [.ptr 2,.ptr 3],vI,vI],[.gone,.gone,.box false [vI],.box false [vI]]⟩ 0 [] ⟨[],[.gone,.gone]⟩ [4] ⟨[vI],[.gone,.gone]⟩ [.one (.slice (.named 0)),oI,oI,oI,oI] [] [oI]
def xR:Cfg E:=cf [(111,[zjA])] [(2,vO)] [] [] [] []
def xX:zC E:=sp xR Go.Proofs.Tryz.f158 ⟨[.val (.slice (.named 0)),.fn 111 [.ptr 0,.ptr 1]],[.box false [vI],.box false [vI]]⟩ ⟨[vI],[.gone,.gone]⟩ [.one (.slice (.named 0)),oI,oI] [oI]
def uj (a1:List zw) (a2:Int) (a3:Int):Option (Int×Unit):=xX.F (a1,a2,a3,())
def vK (x:(List zw)×Int×Int×Int×Int×Unit):Option (yD ((List zw)×Int×Int×Int×Int×Unit) (Unit) (Int×Unit)):=z9 xR (exec xR (yz Go.Proofs.Tryz.f158 2)) 19 vO x
def YV:Cfg E:=cf [(158,[xX])] [] [] [] [] []
def xN:zC E:=sp YV Go.Proofs.Tryz.f110 ⟨[.val (.slice (.named 0)),.fn 111 [.ptr 0,.ptr 1]],[.box false [vI],.box false [vI]]⟩ ⟨[vB],[.gone,.gone]⟩ [.one (.slice (.named 0)),oI,oI] [oB]
def vN (a1:List zw) (a2:Int) (a3:Int):Option (Bool×Unit):=xN.F (a1,a2,a3,())
def zyX:Cfg E:=cf [(110,[xN])] [] [] [] [] []
def znQ:zC E:=sp zyX Go.Proofs.Tryz.f74 ⟨[.val (.slice (.named 0)),vI,vI],[]⟩ ⟨[vB],[]⟩ [.one (.slice (.named 0)),oI,oI] [oB]
def zol (a1:List zw) (a2:Int) (a3:Int):Option (Bool×Unit):=znQ.F (a1,a2,a3,())
def zwP:Cfg E:=cf [] [] [] [] [] []
def zfs:zC E:=sp zwP Go.Proofs.Tryz.f45 ⟨[.val (.named 1)],[]⟩ ⟨[vB],[]⟩ [.one (.named 1)] [oB]
def zrV (a1:zj):Option (Bool×Unit):=zfs.F (a1,())
def zuG:Cfg E:=cf [(45,[zfs])] [] [] [] [] []
def zhg:zC E:=sp zuG Go.Proofs.Tryz.f114 ⟨[.val (.named 1),.ptr 0],[.box false [.map 1],.map [(1,vI),(2,vI)]]⟩ ⟨[vB],[.gone,.gone]⟩ [.one (.named 1),oI,oI] [oB]
def zwX (a1:zj) (a2:Int) (a3:Int):Option (Bool×Unit):=zhg.F (a1,a2,a3,())
def w8:zP E:=lo [0,1,7,8] ⟨[.val (.slice (.named 1)),.fn 114 [.ptr 2],vI,vI],[.gone,.gone,.box false [.map 3],.map [(1,vI),(2,vI)]]⟩ 0 [] ⟨[],[.gone,.gone]⟩ [4] ⟨[vI],[.gone,.gone]⟩ [.one (.slice (.named 1)),oI,oI,oI,oI] [] [oI]
def xA:Cfg E:=cf [(114,[zhg])] [(2,w8)] [] [] [] []
def xH:zC E:=sp xA Go.Proofs.Tryz.f160 ⟨[.val (.slice (.named 1)),.fn 114 [.ptr 0]],[.box false [.map 1],.map [(1,vI),(2,vI)]]⟩ ⟨[vI],[.gone,.gone]⟩ [.one (.slice (.named 1)),oI,oI] [oI]
def vo (a1:List zj) (a2:Int) (a3:Int):Option (Int×Unit):=xH.F (a1,a2,a3,())
def w9 (x:(List zj)×Int×Int×Int×Int×Unit):Option (yD ((List zj)×Int×Int×Int×Int×Unit) (Unit) (Int×Unit)):=z9 xA (exec xA (yz Go.Proofs.Tryz.f160 2)) 19 w8 x
def Yn:Cfg E:=cf [(160,[xH])] [] [] [] [] []
def xx:zC E:=sp Yn Go.Proofs.Tryz.f113 ⟨[.val (.slice (.named 1)),.fn 114 [.ptr 0]],[.box false [.map 1],.map [(1,vI),(2,vI)]]⟩ ⟨[vB],[.gone,.gone]⟩ [.one (.slice (.named 1)),oI,oI] [oB]
def va (a1:List zj) (a2:Int) (a3:Int):Option (Bool×Unit):=xx.F (a1,a2,a3,())
def zxQ:Cfg E:=cf [(113,[xx])] [] [] [] [] []
def zlv:zC E:=sp zxQ Go.Proofs.Tryz.f75 ⟨[.val (.slice (.named 1)),vI,vI],[]⟩ ⟨[vB],[]⟩ [.one (.slice (.named 1)),oI,oI] [oB]
def zlf (a1:List zj) (a2:Int) (a3:Int):Option (Bool×Unit):=zlv.F (a1,a2,a3,())
def zmM:zP E:=lo [1,3,51,52,53] ⟨[.ptr 0,.ptr 1,.val (.slice (.slice (.int .i64))),vI,vI],[.box true (L 3),.box true [vI]]⟩ 0 [1] ⟨[.ptr 0],[.box true (L 3)]⟩ [2] ⟨[vB],[]⟩ [.one (.slice (.slice (.int .i64))),oI,oI,.str 3,oI] [.str 3] [oB]
def zgi:Cfg E:=cf [(10,[Wq]),(46,[Um]),(53,[zcc]),(70,[zcZ]),(71,[za1]),(72,[wF]),(74,[znQ]),(75,[zlv])] [(5,zmM)] [] [] [] []
def zl3:zC E:=sp zgi Go.Proofs.Tryz.f26 ⟨[.val (.named 3)],[]⟩ ⟨[vB],[]⟩ [.one (.named 3)] [oB]
def zme (a1:zd):Option (Bool×Unit):=zl3.F (a1,())
def znn (x:(List (List Int))×Int×Int×zd×Int×Unit):Option (yD ((List (List Int))×Int×Int×zd×Int×Unit) (zd×Unit) (Bool×Unit)):=z9 zgi (exec zgi (yz Go.Proofs.Tryz.f26 5)) 95 zmM x
def zBW:Cfg E:=cf [] [] [] [] [] []
def znm:zC E:=sp zBW Go.Proofs.Tryz.f69 ⟨[vI],[]⟩ ⟨[vU],[]⟩ [oI] [oU]
def zns (a1:Int):Option ((BitVec 64)×Unit):=znm.F (a1,())
def zCp:Cfg E:=cf [(69,[znm])] [] [] [] [] []
def zam:zC E:=sp zCp Go.Proofs.Tryz.f24 ⟨[vU,vI],[]⟩ ⟨[vU],[]⟩ [oU,oI] [oU]
def Yw (a1:BitVec 64) (a2:Int):Option ((BitVec 64)×Unit):=zam.F (a1,a2,())
def ztt:zP E:=lo [3,6,7,8] ⟨[vU,vL,vI,vI],[]⟩ 0 [3] ⟨[vU],[]⟩ [] ⟨[],[]⟩ [oU,oL,oI,oI] [oU] []
def zqd:Cfg E:=cf [(24,[zam])] [(3,ztt)] [] [] [] []
def zgN:zC E:=sp zqd Go.Proofs.Tryz.f76 ⟨[vL],[]⟩ ⟨[vU],[]⟩ [oL] [oU]
def zkY (a1:List Int):Option ((BitVec 64)×Unit):=zgN.F (a1,())
def znZ (x:(BitVec 64)×(List Int)×Int×Int×Unit):Option (yD ((BitVec 64)×(List Int)×Int×Int×Unit) ((BitVec 64)×Unit) (Unit)):=z9 zqd (exec zqd (yz Go.Proofs.Tryz.f76 3)) 17 ztt x
def zni:zP E:=lo [3,9,10,11] ⟨[vU,.val (.slice (.slice (.int .i64))),vI,vI],[]⟩ 0 [3] ⟨[vU],[]⟩ [] ⟨[],[]⟩ [oU,.one (.slice (.slice (.int .i64))),oI,oI] [oU] []
def zhc:Cfg E:=cf [(76,[zgN])] [(3,zni)] [] [] [] []
def zfI:zC E:=sp zhc Go.Proofs.Tryz.f27 ⟨[.val (.named 3)],[]⟩ ⟨[vU],[]⟩ [.one (.named 3)] [oU]
def zeO (a1:zd):Option ((BitVec 64)×Unit):=zfI.F (a1,())
def zfb (x:(BitVec 64)×(List (List Int))×Int×Int×Unit):Option (yD ((BitVec 64)×(List (List Int))×Int×Int×Unit) ((BitVec 64)×Unit) (Unit)):=z9 zhc (exec zhc (yz Go.Proofs.Tryz.f27 3)) 21 zni x
def zxg:Cfg E:=cf [] [] [] [] [] []
def zk0:zC E:=sp zxg Go.Proofs.Tryz.f28 ⟨[vI],[]⟩ ⟨[.val (.named 10)],[]⟩ [oI] [.one (.named 10)]
def zlP (a1:Int):Option (zr×Unit):=zk0.F (a1,())
def zko:Cfg E:=cf [] [] [] [] [] []
def xk:zC E:=sp zko Go.Proofs.Tryz.f30 ⟨[vL],[]⟩ ⟨[.own 0],[.row true (.int .i64)]⟩ [oL] [oL]
def yM (a1:List Int):Option ((List Int)×Unit):=xk.F (a1,())
def Zm:zP E:=lo [1,5,14,15] ⟨[.fn 30 [],.own 0,vI,vI],[.row true (.slice (.int .i64))]⟩ 0 [5] ⟨[.own 0],[.row true (.slice (.int .i64))]⟩ [] ⟨[],[]⟩ [oI,oI,.one (.slice (.slice (.int .i64)))] [.one (.slice (.slice (.int .i64)))] []
def wP:Cfg E:=cf [(30,[xk])] [(4,Zm)] [] [] [] []
def vn:zC E:=sp wP Go.Proofs.Tryz.f29 ⟨[.val (.slice (.slice (.int .i64))),.fn 30 []],[]⟩ ⟨[.own 0],[.row true (.slice (.int .i64))]⟩ [.one (.slice (.slice (.int .i64)))] [.one (.slice (.slice (.int .i64)))]
def vi (a1:List (List Int)):Option ((List (List Int))×Unit):=vn.F (a1,())
def yR (x:Int×Int×(List (List Int))×Unit):Option (yD (Int×Int×(List (List Int))×Unit) ((List (List Int))×Unit) (Unit)):=z9 wP (exec wP (yz Go.Proofs.Tryz.f29 4)) 29 Zm x
def zuV:Cfg E:=cf [] [] [] [] [] []
def ziS:zC E:=sp zuV Go.Proofs.Tryz.f31 ⟨[vI],[]⟩ ⟨[.own 0],[.row true (.int .u64)]⟩ [oI] [oM]
def zi7 (a1:Int):Option ((List (BitVec 64))×Unit):=ziS.F (a1,())
def zww:Cfg E:=cf [] [] [] [] [] []
def za2:zC E:=sp zww Go.Proofs.Tryz.f32 ⟨L 0,[]⟩ ⟨[.val (.named 4)],[]⟩ [oI,oI,oI,oI] [.one (.named 4)]
def zdE (a1:Int) (a2:Int) (a3:Int) (a4:Int):Option (zg×Unit):=za2.F (a1,a2,a3,a4,())
def zwa:Cfg E:=cf [] [] [] [] [] []
def Xz:zC E:=sp zwa Go.Proofs.Tryz.f33 ⟨[.val (.named 3),vI],[]⟩ ⟨[vI],[]⟩ [.one (.named 3),oI] [oI]
def xm (a1:zd) (a2:Int):Option (Int×Unit):=Xz.F (a1,a2,())
def zy8:Cfg E:=cf [] [] [] [] [] []
def znO:zC E:=sp zy8 Go.Proofs.Tryz.f34 ⟨[.val (.named 3)],[]⟩ ⟨[vI],[]⟩ [.one (.named 3)] [oI]
def zhq (a1:zd):Option (Int×Unit):=znO.F (a1,())
def zj4:Cfg E:=cf [] [] [] [] [] []
def Vk:zC E:=sp zj4 Go.Proofs.Tryz.f35 ⟨[vL,vI],[]⟩ ⟨[.fn 77 [.ptr 0,.ptr 1]],[.box true [vL],.box true [vI]]⟩ [oL,oI] [oL,oI]
def zcP (a1:List Int) (a2:Int):Option ((List Int)×Int×Unit):=Vk.F (a1,a2,())
def zAS:Cfg E:=cf [] [] [] [] [] []
def zpy:zC E:=sp zAS Go.Proofs.Tryz.f78 ⟨[vU],[]⟩ ⟨[.fn 115 [.ptr 0]],[.box true [vU]]⟩ [oU] [oU]
def zv9 (a1:BitVec 64):Option ((BitVec 64)×Unit):=zpy.F (a1,())
def zmU:zP E:=lo [0,1] ⟨[.yld,.ptr 0],[.box true [vU]]⟩ 0 [0] ⟨[.yld],[]⟩ [0] ⟨[.yld],[]⟩ [oI,oI,oU] [oI,oI] [oI,oI]
def zuT:Cfg E:=cf [(116,[pTZ])] [(0,zmU)] [] [] [] []
def zcC (ys:List Int):Cfg E:={zuT with yl:=true,ye:=(.int .i64),yd:=ys}
def zoI:xS:=⟨[.ptr 0],[.box true [vU]]⟩
def zbW:ZG E:={inn:=zoI,e:=(.int .i64),F:=fun x=>zag 66 x.1}
def zkT (a1:BitVec 64):Option (List Int):=zbW.F (a1,())
def zbr (ys:List Int) (x:Int×Int×(BitVec 64)×Unit):Option (yD (Int×Int×(BitVec 64)×Unit) (Int×Int×Unit) (Int×Int×Unit)):=z9 (zcC ys) (exec (zcC ys) (yz Go.Proofs.Tryz.f115 0)) 15 zmU x
def zqu:zP E:=lo [3] ⟨[.ptr 0],[.box true [.own 1],.row true (.int .i64)]⟩ 0 [] ⟨[],[]⟩ [] ⟨[],[]⟩ [oL] [] []
def zeR:Cfg E:=cf [(78,[zpy])] [(3,zqu)] [] [] [] [(115,zbW)]
def zjZ:zC E:=sp zeR Go.Proofs.Tryz.f36 ⟨[vU],[]⟩ ⟨[.own 0],[.row true (.int .i64)]⟩ [oU] [oL]
def zfh (a1:BitVec 64):Option ((List Int)×Unit):=zjZ.F (a1,())
def zjv (y:Int) (x:(List Int)×Unit):Option ((List Int)×Unit):=zkU zeR (exec zeR (zGq Go.Proofs.Tryz.f36 3)) (exec zeR (zzR Go.Proofs.Tryz.f36 3)) 13 zqu 7 (.int .i64) y x
def zAA:Cfg E:=cf [] [] [] [] [] []
def zpn:zC E:=sp zAA Go.Proofs.Tryz.f161 ⟨[vU],[]⟩ ⟨[vU,vB],[]⟩ [oU] [oU,oB]
def zva (a1:BitVec 64):Option ((BitVec 64)×Bool×Unit):=zpn.F (a1,())
def zz7:Cfg E:=cf [] [] [] [] [] []
def zpp:zC E:=sp zz7 Go.Proofs.Tryz.f162 ⟨[vU,.ptr 0],[.box false (L 13)]⟩ ⟨[vU,vB],[.gone]⟩ [oU,.str 13] [oU,oB]
def zvh (a1:BitVec 64) (a2:Yr):Option ((BitVec 64)×Bool×Unit):=zpp.F (a1,a2,())
def zBd:Cfg E:=cf [] [] [] [] [] []
def zpw:zC E:=sp zBd Go.Proofs.Tryz.f163 ⟨[vU,.ptr 0],[.box false (L 13)]⟩ ⟨[vU,vB],[.gone]⟩ [oU,.str 13] [oU,oB]
def zvw (a1:BitVec 64) (a2:Yr):Option ((BitVec 64)×Bool×Unit):=zpw.F (a1,a2,())
def zz9:Cfg E:=cf [] [] [] [] [] []
def zqi:zC E:=sp zz9 Go.Proofs.Tryz.f164 ⟨[vU,.ptr 0],[.box false (L 13)]⟩ ⟨[vU,vB],[.gone]⟩ [oU,.str 13] [oU,oB]
def zDz (a1:BitVec 64) (a2:Yr):Option ((BitVec 64)×Bool×Unit):=zqi.F (a1,a2,())
def zeC:Cfg E:=cf [] [] [] [] [] []
def Yy:zC E:=sp zeC Go.Proofs.Tryz.f165 ⟨[vM],[]⟩ ⟨[.own 0],[.row true (.int .u64)]⟩ [oM] [oM]
def xW (a1:List (BitVec 64)):Option ((List (BitVec 64))×Unit):=Yy.F (a1,())
def zEi:Cfg E:=cf [(161,[zpn]),(162,[zpp]),(163,[zpw]),(164,[zqi]),(165,[Yy])] [] [] [] [] []
def zau:zC E:=sp zEi Go.Proofs.Tryz.f117 ⟨[vM,.val (.named 13)],[]⟩ ⟨[vM,vU,vB],[]⟩ [oM,.one (.named 13)] [oM,oU,oB]
def XC (a1:List (BitVec 64)) (a2:Yr):Option ((List (BitVec 64))×(BitVec 64)×Bool×Unit):=zau.F (a1,a2,())
def zvD:Cfg E:=cf [(117,[zau])] [] [] [] [] []
def zdI:zC E:=sp zvD Go.Proofs.Tryz.f79 ⟨[vM,vI,vU],[]⟩ ⟨[vM],[]⟩ [oM,oI,oU] [oM]
def XL (a1:List (BitVec 64)) (a2:Int) (a3:BitVec 64):Option ((List (BitVec 64))×Unit):=zdI.F (a1,a2,a3,())
def zxo:Cfg E:=cf [] [] [] [] [] []
def zfr:zC E:=sp zxo Go.Proofs.Tryz.f80 ⟨[vU,vI],[]⟩ ⟨[vU],[]⟩ [oU,oI] [oU]
def UL (a1:BitVec 64) (a2:Int):Option ((BitVec 64)×Unit):=zfr.F (a1,a2,())
def zoN:zP E:=lo [0,1,2,3,13,14] ⟨[vM,vI,vI,vL,vI,vI],[]⟩ 0 [0,1,3] ⟨[vM,vI,vL],[]⟩ [] ⟨[],[]⟩ [oM,oI,oI,oL,oI,oI] [oM,oI,oL] []
def zjy:Cfg E:=cf [(79,[zdI]),(80,[zfr])] [(2,zoN)] [] [] [] []
def znC:zC E:=sp zjy Go.Proofs.Tryz.f37 ⟨[vM,vI,vI,vL],[]⟩ ⟨[vM],[]⟩ [oM,oI,oI,oL] [oM]
def zhD (a1:List (BitVec 64)) (a2:Int) (a3:Int) (a4:List Int):Option ((List (BitVec 64))×Unit):=znC.F (a1,a2,a3,a4,())
def zgX (x:(List (BitVec 64))×Int×Int×(List Int)×Int×Int×Unit):Option (yD ((List (BitVec 64))×Int×Int×(List Int)×Int×Int×Unit) ((List (BitVec 64))×Int×(List Int)×Unit) (Unit)):=z9 zjy (exec zjy (yz Go.Proofs.Tryz.f37 2)) 49 zoN x
def zxE:Cfg E:=cf [] [] [] [] [] []
def Y6:zC E:=sp zxE Go.Proofs.Tryz.f38 ⟨[.val (.named 3)],[]⟩ ⟨[vI],[]⟩ [.one (.named 3)] [oI]
def Y3 (a1:zd):Option (Int×Unit):=Y6.F (a1,())
def zvs:Cfg E:=cf [(38,[Y6])] [] [] [] [] []
def XA:zC E:=sp zvs Go.Proofs.Tryz.f40 ⟨[.val (.named 3)],[]⟩ ⟨[vI],[]⟩ [.one (.named 3)] [oI]
def Xx (a1:zd):Option (Int×Unit):=XA.F (a1,())
def zwB:Cfg E:=cf [(40,[XA])] [] [] [] [] []
def Xk:zC E:=sp zwB Go.Proofs.Tryz.f39 ⟨[.val (.named 3)],[]⟩ ⟨[vI],[]⟩ [.one (.named 3)] [oI]
def Yc (a1:zd):Option (Int×Unit):=Xk.F (a1,())
def Ur:zP E:=lo [0,1,2,4] ⟨[.yld,.ptr 0,.ptr 1,vI],[.box true [vL],.box true [vI]]⟩ 0 [0] ⟨[.yld],[]⟩ [0] ⟨[.yld],[]⟩ [oI,oI,oI,oL,oI] [oI,oI] [oI,oI]
def zf1:Cfg E:=cf [] [(1,Ur)] [] [] [] []
def uT (ys:List (List Int)):Cfg E:={zf1 with yl:=true,ye:=(.slice (.int .i64)),yd:=ys}
def U7:xS:=⟨[.ptr 0,.ptr 1],[.box true [vL],.box true [vI]]⟩
def vP:ZG E:={inn:=U7,e:=(.slice (.int .i64)),F:=fun x=>zla x.1 x.2.1}
def zaX (a1:List Int) (a2:Int):Option (List (List Int)):=vP.F (a1,a2,())
def uz (ys:List (List Int)) (x:Int×Int×Int×(List Int)×Int×Unit):Option (yD (Int×Int×Int×(List Int)×Int×Unit) (Int×Int×Unit) (Int×Int×Unit)):=z9 (uT ys) (exec (uT ys) (yz Go.Proofs.Tryz.f77 1)) 31 Ur x
def zo8:zP E:=lo [1,2,3,4,37,38] ⟨[.ptr 0,.ptr 1,vU,.ptr 2,vI,vI],[.box true (L 3),.box true (L 0++L 0++[vI,.own 3,vU,.own 4,.own 5,.own 6,vI,.own 7,.own 8,.own 9,vU,vU,vI,vI,vB,vB,vI,.own 10,vI,vI,vI,.own 11,.own 12,.own 13,vI,vI]),.box true (L 3++[vI,.own 14,.own 15,.own 16,vU,vU,vI,vI,vB,vB,vI,.own 17]++L 10++[.own 18,.own 19,vI,vI]),.row true (.slice (.int .i64)),.row true (.slice (.int .i64)),.row true (.slice (.named 0)),.row true (.named 1),.row true (.slice (.int .i64)),.row true (.int .u64),.row true (.slice (.int .i64)),.row true (.int .i64),.row true (.int .i64),.row true (.named 7),.row true (.named 8),.row true (.slice (.int .i64)),.row true (.int .u64),.row true (.slice (.int .i64)),.row true (.int .i64),.row true (.named 7),.row true (.named 8)]⟩ 0 [1,2,3,4] ⟨[.ptr 0,.ptr 1,vU,.ptr 2],[.box true (L 3),.box true (L 0++L 0++[vI,.own 3,vU,.own 4,.own 5,.own 6,vI,.own 7,.own 8,.own 9,vU,vU,vI,vI,vB,vB,vI,.own 10,vI,vI,vI,.own 11,.own 12,.own 13,vI,vI]),.box true (L 3++[vI,.own 14,.own 15,.own 16,vU,vU,vI,vI,vB,vB,vI,.own 17]++L 10++[.own 18,.own 19,vI,vI]),.row true (.slice (.int .i64)),.row true (.slice (.int .i64)),.row true (.slice (.named 0)),.row true (.named 1),.row true (.slice (.int .i64)),.row true (.int .u64),.row true (.slice (.int .i64)),.row true (.int .i64),.row true (.int .i64),.row true (.named 7),.row true (.named 8),.row true (.slice (.int .i64)),.row true (.int .u64),.row true (.slice (.int .i64)),.row true (.int .i64),.row true (.named 7),.row true (.named 8)]⟩ [] ⟨[],[]⟩ [oU,oI,oI,.str 3,oI,oI,oI,oI,oI,oI,oI,oI,oI,oU,oI,.str 9,oI,oI,oB,oB,oI,oI,oI,oI,.str 11,.str 3,oI,.str 9,oI,oI,oB,oB,oI,.str 10,.str 11,.one (.slice (.slice (.int .i64))),.one (.slice (.slice (.int .i64))),.one (.slice (.slice (.named 0))),.one (.slice (.named 1)),.one (.slice (.slice (.int .i64))),oM,.one (.slice (.slice (.int .i64))),oL,oL,.one (.slice (.named 7)),.one (.slice (.named 8)),.one (.slice (.slice (.int .i64))),oM,.one (.slice (.slice (.int .i64))),oL,.one (.slice (.named 7)),.one (.slice (.named 8))] [oU,.str 3,oI,oI,oI,oI,oI,oI,oI,oI,oI,oU,oI,.str 9,oI,oI,oB,oB,oI,oI,oI,oI,.str 11,.str 3,oI,.str 9,oI,oI,oB,oB,oI,.str 10,.str 11,.one (.slice (.slice (.int .i64))),.one (.slice (.slice (.int .i64))),.one (.slice (.slice (.named 0))),.one (.slice (.named 1)),.one (.slice (.slice (.int .i64))),oM,.one (.slice (.slice (.int .i64))),oL,oL,.one (.slice (.named 7)),.one (.slice (.named 8)),.one (.slice (.slice (.int .i64))),oM,.one (.slice (.slice (.int .i64))),oL,.one (.slice (.named 7)),.one (.slice (.named 8))] []
def znh:zP E:=lo [1,2,3,4,6,72,73] ⟨[.ptr 0,.ptr 1,vU,.ptr 2,.own 3,vI,vI],[.box true (L 3),.box true (L 0++L 0++[vI,.own 4,vU,.own 5,.own 6,.own 7,vI,.own 8,.own 9,.own 10,vU,vU,vI,vI,vB,vB,vI,.own 11,vI,vI,vI,.own 12,.own 13,.own 14,vI,vI]),.box true (L 3++[vI,.own 15,.own 16,.own 17,vU,vU,vI,vI,vB,vB,vI,.own 18]++L 10++[.own 19,.own 20,vI,vI]),.row true (.int .i64),.row true (.slice (.int .i64)),.row true (.slice (.int .i64)),.row true (.slice (.named 0)),.row true (.named 1),.row true (.slice (.int .i64)),.row true (.int .u64),.row true (.slice (.int .i64)),.row true (.int .i64),.row true (.int .i64),.row true (.named 7),.row true (.named 8),.row true (.slice (.int .i64)),.row true (.int .u64),.row true (.slice (.int .i64)),.row true (.int .i64),.row true (.named 7),.row true (.named 8)]⟩ 2 [1,2,3,4,6] ⟨[.ptr 0,.ptr 1,vU,.ptr 2,.own 3],[.box true (L 3),.box true (L 0++L 0++[vI,.own 4,vU,.own 5,.own 6,.own 7,vI,.own 8,.own 9,.own 10,vU,vU,vI,vI,vB,vB,vI,.own 11,vI,vI,vI,.own 12,.own 13,.own 14,vI,vI]),.box true (L 3++[vI,.own 15,.own 16,.own 17,vU,vU,vI,vI,vB,vB,vI,.own 18]++L 10++[.own 19,.own 20,vI,vI]),.row true (.int .i64),.row true (.slice (.int .i64)),.row true (.slice (.int .i64)),.row true (.slice (.named 0)),.row true (.named 1),.row true (.slice (.int .i64)),.row true (.int .u64),.row true (.slice (.int .i64)),.row true (.int .i64),.row true (.int .i64),.row true (.named 7),.row true (.named 8),.row true (.slice (.int .i64)),.row true (.int .u64),.row true (.slice (.int .i64)),.row true (.int .i64),.row true (.named 7),.row true (.named 8)]⟩ [] ⟨[],[]⟩ [oU,oI,oI,.str 3,oI,oI,oI,oI,oI,oI,oI,oI,oI,oU,oI,.str 9,oI,oI,oB,oB,oI,oI,oI,oI,.str 11,.str 3,oI,.str 9,oI,oI,oB,oB,oI,.str 10,.str 11,oL,.one (.slice (.slice (.int .i64))),.one (.slice (.slice (.int .i64))),.one (.slice (.slice (.named 0))),.one (.slice (.named 1)),.one (.slice (.slice (.int .i64))),oM,.one (.slice (.slice (.int .i64))),oL,oL,.one (.slice (.named 7)),.one (.slice (.named 8)),.one (.slice (.slice (.int .i64))),oM,.one (.slice (.slice (.int .i64))),oL,.one (.slice (.named 7)),.one (.slice (.named 8))] [oU,.str 3,oI,oI,oI,oI,oI,oI,oI,oI,oI,oU,oI,.str 9,oI,oI,oB,oB,oI,oI,oI,oI,.str 11,.str 3,oI,.str 9,oI,oI,oB,oB,oI,.str 10,.str 11,oL,.one (.slice (.slice (.int .i64))),.one (.slice (.slice (.int .i64))),.one (.slice (.slice (.named 0))),.one (.slice (.named 1)),.one (.slice (.slice (.int .i64))),oM,.one (.slice (.slice (.int .i64))),oL,oL,.one (.slice (.named 7)),.one (.slice (.named 8)),.one (.slice (.slice (.int .i64))),oM,.one (.slice (.slice (.int .i64))),oL,.one (.slice (.named 7)),.one (.slice (.named 8))] []
def znz:zP E:=lo [1,2,4,6] ⟨[.ptr 0,.ptr 1,.ptr 2,.own 3],[.box true (L 3),.box true (L 0++L 0++[vI,.own 4,vU,.own 5,.own 6,.own 7,vI,.own 8,.own 9,.own 10,vU,vU,vI,vI,vB,vB,vI,.own 11,vI,vI,vI,.own 12,.own 13,.own 14,vI,vI]),.box true (L 3++[vI,.own 15,.own 16,.own 17,vU,vU,vI,vI,vB,vB,vI,.own 18]++L 10++[.own 19,.own 20,vI,vI]),.row true (.int .i64),.row true (.slice (.int .i64)),.row true (.slice (.int .i64)),.row true (.slice (.named 0)),.row true (.named 1),.row true (.slice (.int .i64)),.row true (.int .u64),.row true (.slice (.int .i64)),.row true (.int .i64),.row true (.int .i64),.row true (.named 7),.row true (.named 8),.row true (.slice (.int .i64)),.row true (.int .u64),.row true (.slice (.int .i64)),.row true (.int .i64),.row true (.named 7),.row true (.named 8)]⟩ 0 [] ⟨[],[]⟩ [] ⟨[],[]⟩ [.str 3,oI,oI,oI,oI,oI,oI,oI,oI,oI,oU,oI,.str 9,oI,oI,oB,oB,oI,oI,oI,oI,.str 11,.str 3,oI,.str 9,oI,oI,oB,oB,oI,.str 10,.str 11,oL,.one (.slice (.slice (.int .i64))),.one (.slice (.slice (.int .i64))),.one (.slice (.slice (.named 0))),.one (.slice (.named 1)),.one (.slice (.slice (.int .i64))),oM,.one (.slice (.slice (.int .i64))),oL,oL,.one (.slice (.named 7)),.one (.slice (.named 8)),.one (.slice (.slice (.int .i64))),oM,.one (.slice (.slice (.int .i64))),oL,.one (.slice (.named 7)),.one (.slice (.named 8))] [] []
def zm2:zP E:=lo [2,4,134,135,136] ⟨[.ptr 0,.ptr 1,.val (.slice (.slice (.int .i64))),vI,vI],[.box true (L 0++L 0++[vI,.own 2,vU,.own 3,.own 4,.own 5,vI,.own 6,.own 7,.own 8,vU,vU,vI,vI,vB,vB,vI,.own 9,vI,vI,vI,.own 10,.own 11,.own 12,vI,vI]),.box true (L 3++[vI,.own 13,vM,.own 14,vU,vU,vI,vI,vB,vB,vI,.own 15]++L 10++[.own 16,.own 17,vI,vI]),.row true (.slice (.int .i64)),.row true (.slice (.int .i64)),.row true (.slice (.named 0)),.row true (.named 1),.row true (.slice (.int .i64)),.row true (.int .u64),.row true (.slice (.int .i64)),.row true (.int .i64),.row true (.int .i64),.row true (.named 7),.row true (.named 8),.row true (.slice (.int .i64)),.row true (.slice (.int .i64)),.row true (.int .i64),.row true (.named 7),.row true (.named 8)]⟩ 6 [2,4] ⟨[.ptr 0,.ptr 1],[.box true (L 0++L 0++[vI,.own 2,vU,.own 3,.own 4,.own 5,vI,.own 6,.own 7,.own 8,vU,vU,vI,vI,vB,vB,vI,.own 9,vI,vI,vI,.own 10,.own 11,.own 12,vI,vI]),.box true (L 3++[vI,.own 13,vM,.own 14,vU,vU,vI,vI,vB,vB,vI,.own 15]++L 10++[.own 16,.own 17,vI,vI]),.row true (.slice (.int .i64)),.row true (.slice (.int .i64)),.row true (.slice (.named 0)),.row true (.named 1),.row true (.slice (.int .i64)),.row true (.int .u64),.row true (.slice (.int .i64)),.row true (.int .i64),.row true (.int .i64),.row true (.named 7),.row true (.named 8),.row true (.slice (.int .i64)),.row true (.slice (.int .i64)),.row true (.int .i64),.row true (.named 7),.row true (.named 8)]⟩ [] ⟨[],[]⟩ [.one (.slice (.slice (.int .i64))),oI,oI,oI,oI,oI,oI,oI,oI,oI,oI,oI,oU,oI,.str 9,oI,oI,oB,oB,oI,oI,oI,oI,.str 11,.str 3,oI,oM,.str 9,oI,oI,oB,oB,oI,.str 10,.str 11,.one (.slice (.slice (.int .i64))),.one (.slice (.slice (.int .i64))),.one (.slice (.slice (.named 0))),.one (.slice (.named 1)),.one (.slice (.slice (.int .i64))),oM,.one (.slice (.slice (.int .i64))),oL,oL,.one (.slice (.named 7)),.one (.slice (.named 8)),.one (.slice (.slice (.int .i64))),.one (.slice (.slice (.int .i64))),oL,.one (.slice (.named 7)),.one (.slice (.named 8))] [oI,oI,oI,oI,oI,oI,oI,oI,oI,oU,oI,.str 9,oI,oI,oB,oB,oI,oI,oI,oI,.str 11,.str 3,oI,oM,.str 9,oI,oI,oB,oB,oI,.str 10,.str 11,.one (.slice (.slice (.int .i64))),.one (.slice (.slice (.int .i64))),.one (.slice (.slice (.named 0))),.one (.slice (.named 1)),.one (.slice (.slice (.int .i64))),oM,.one (.slice (.slice (.int .i64))),oL,oL,.one (.slice (.named 7)),.one (.slice (.named 8)),.one (.slice (.slice (.int .i64))),.one (.slice (.slice (.int .i64))),oL,.one (.slice (.named 7)),.one (.slice (.named 8))] []
def uL:Cfg E:=cf [(11,[za9]),(26,[zl3]),(27,[zfI]),(28,[zk0]),(29,[vn]),(30,[xk]),(31,[ziS]),(32,[za2]),(33,[Xz]),(34,[znO]),(35,[Vk]),(36,[zjZ]),(37,[znC]),(38,[Y6]),(39,[Xk]),(40,[XA])] [(7,zo8),(15,znh),(20,znz),(28,zm2)] [] [] [] [(77,vP)]
def zht:zC E:=sp uL Go.Proofs.Tryz.f6 ⟨[.val (.named 3)],[]⟩ ⟨[.val (.named 12)],[]⟩ [.one (.named 3)] [.one (.named 12)]
def zhz (a1:zd):Option (za×Unit):=zht.F (a1,())
def zcE (x:(BitVec 64)×Int×Int×zd×Int×Int×Int×Int×Int×Int×Int×Int×Int×(BitVec 64)×Int×zm×Int×Int×Bool×Bool×Int×Int×Int×Int×zE×zd×Int×zm×Int×Int×Bool×Bool×Int×zr×zE×(List (List Int))×(List (List Int))×(List (List zw))×(List zj)×(List (List Int))×(List (BitVec 64))×(List (List Int))×(List Int)×(List Int)×(List zk)×(List ze)×(List (List Int))×(List (BitVec 64))×(List (List Int))×(List Int)×(List zk)×(List ze)×Unit):Option (yD ((BitVec 64)×Int×Int×zd×Int×Int×Int×Int×Int×Int×Int×Int×Int×(BitVec 64)×Int×zm×Int×Int×Bool×Bool×Int×Int×Int×Int×zE×zd×Int×zm×Int×Int×Bool×Bool×Int×zr×zE×(List (List Int))×(List (List Int))×(List (List zw))×(List zj)×(List (List Int))×(List (BitVec 64))×(List (List Int))×(List Int)×(List Int)×(List zk)×(List ze)×(List (List Int))×(List (BitVec 64))×(List (List Int))×(List Int)×(List zk)×(List ze)×Unit) ((BitVec 64)×zd×Int×Int×Int×Int×Int×Int×Int×Int×Int×(BitVec 64)×Int×zm×Int×Int×Bool×Bool×Int×Int×Int×Int×zE×zd×Int×zm×Int×Int×Bool×Bool×Int×zr×zE×(List (List Int))×(List (List Int))×(List (List zw))×(List zj)×(List (List Int))×(List (BitVec 64))×(List (List Int))×(List Int)×(List Int)×(List zk)×(List ze)×(List (List Int))×(List (BitVec 64))×(List (List Int))×(List Int)×(List zk)×(List ze)×Unit) (Unit)):=z9 uL (exec uL (yz Go.Proofs.Tryz.f6 7)) 150 zo8 x
def zbG (x:(BitVec 64)×Int×Int×zd×Int×Int×Int×Int×Int×Int×Int×Int×Int×(BitVec 64)×Int×zm×Int×Int×Bool×Bool×Int×Int×Int×Int×zE×zd×Int×zm×Int×Int×Bool×Bool×Int×zr×zE×(List Int)×(List (List Int))×(List (List Int))×(List (List zw))×(List zj)×(List (List Int))×(List (BitVec 64))×(List (List Int))×(List Int)×(List Int)×(List zk)×(List ze)×(List (List Int))×(List (BitVec 64))×(List (List Int))×(List Int)×(List zk)×(List ze)×Unit):Option (yD ((BitVec 64)×Int×Int×zd×Int×Int×Int×Int×Int×Int×Int×Int×Int×(BitVec 64)×Int×zm×Int×Int×Bool×Bool×Int×Int×Int×Int×zE×zd×Int×zm×Int×Int×Bool×Bool×Int×zr×zE×(List Int)×(List (List Int))×(List (List Int))×(List (List zw))×(List zj)×(List (List Int))×(List (BitVec 64))×(List (List Int))×(List Int)×(List Int)×(List zk)×(List ze)×(List (List Int))×(List (BitVec 64))×(List (List Int))×(List Int)×(List zk)×(List ze)×Unit) ((BitVec 64)×zd×Int×Int×Int×Int×Int×Int×Int×Int×Int×(BitVec 64)×Int×zm×Int×Int×Bool×Bool×Int×Int×Int×Int×zE×zd×Int×zm×Int×Int×Bool×Bool×Int×zr×zE×(List Int)×(List (List Int))×(List (List Int))×(List (List zw))×(List zj)×(List (List Int))×(List (BitVec 64))×(List (List Int))×(List Int)×(List Int)×(List zk)×(List ze)×(List (List Int))×(List (BitVec 64))×(List (List Int))×(List Int)×(List zk)×(List ze)×Unit) (Unit)):=z9 uL (exec uL (yz Go.Proofs.Tryz.f6 15)) 150 znh x
def ze5 (y:List Int) (x:zd×Int×Int×Int×Int×Int×Int×Int×Int×Int×(BitVec 64)×Int×zm×Int×Int×Bool×Bool×Int×Int×Int×Int×zE×zd×Int×zm×Int×Int×Bool×Bool×Int×zr×zE×(List Int)×(List (List Int))×(List (List Int))×(List (List zw))×(List zj)×(List (List Int))×(List (BitVec 64))×(List (List Int))×(List Int)×(List Int)×(List zk)×(List ze)×(List (List Int))×(List (BitVec 64))×(List (List Int))×(List Int)×(List zk)×(List ze)×Unit):Option (zd×Int×Int×Int×Int×Int×Int×Int×Int×Int×(BitVec 64)×Int×zm×Int×Int×Bool×Bool×Int×Int×Int×Int×zE×zd×Int×zm×Int×Int×Bool×Bool×Int×zr×zE×(List Int)×(List (List Int))×(List (List Int))×(List (List zw))×(List zj)×(List (List Int))×(List (BitVec 64))×(List (List Int))×(List Int)×(List Int)×(List zk)×(List ze)×(List (List Int))×(List (BitVec 64))×(List (List Int))×(List Int)×(List zk)×(List ze)×Unit):=zkU uL (exec uL (zGq Go.Proofs.Tryz.f6 20)) (exec uL (zzR Go.Proofs.Tryz.f6 20)) 150 znz 87 (.slice (.int .i64)) y x
def zbt (x:(List (List Int))×Int×Int×Int×Int×Int×Int×Int×Int×Int×Int×Int×(BitVec 64)×Int×zm×Int×Int×Bool×Bool×Int×Int×Int×Int×zE×zd×Int×(List (BitVec 64))×zm×Int×Int×Bool×Bool×Int×zr×zE×(List (List Int))×(List (List Int))×(List (List zw))×(List zj)×(List (List Int))×(List (BitVec 64))×(List (List Int))×(List Int)×(List Int)×(List zk)×(List ze)×(List (List Int))×(List (List Int))×(List Int)×(List zk)×(List ze)×Unit):Option (yD ((List (List Int))×Int×Int×Int×Int×Int×Int×Int×Int×Int×Int×Int×(BitVec 64)×Int×zm×Int×Int×Bool×Bool×Int×Int×Int×Int×zE×zd×Int×(List (BitVec 64))×zm×Int×Int×Bool×Bool×Int×zr×zE×(List (List Int))×(List (List Int))×(List (List zw))×(List zj)×(List (List Int))×(List (BitVec 64))×(List (List Int))×(List Int)×(List Int)×(List zk)×(List ze)×(List (List Int))×(List (List Int))×(List Int)×(List zk)×(List ze)×Unit) (Int×Int×Int×Int×Int×Int×Int×Int×Int×(BitVec 64)×Int×zm×Int×Int×Bool×Bool×Int×Int×Int×Int×zE×zd×Int×(List (BitVec 64))×zm×Int×Int×Bool×Bool×Int×zr×zE×(List (List Int))×(List (List Int))×(List (List zw))×(List zj)×(List (List Int))×(List (BitVec 64))×(List (List Int))×(List Int)×(List Int)×(List zk)×(List ze)×(List (List Int))×(List (List Int))×(List Int)×(List zk)×(List ze)×Unit) (Unit)):=z9 uL (exec uL (yz Go.Proofs.Tryz.f6 28)) 150 zm2 x
def zCf:Cfg E:=cf [(46,[Um])] [] [] [] [] []
def zmX:zC E:=sp zCf Go.Proofs.Tryz.f47 ⟨[.val (.named 12)],[]⟩ ⟨[vU],[]⟩ [.one (.named 12)] [oU]
def zmY (a1:za):Option ((BitVec 64)×Unit):=zmX.F (a1,())
def zzr:Cfg E:=cf [(46,[Um]),(47,[zmX])] [] [] [] [] []
def zba:zC E:=sp zzr Go.Proofs.Tryz.f9 ⟨[.val (.named 12)],[]⟩ ⟨[vU],[]⟩ [.one (.named 12)] [oU]
def Wu (a1:za):Option ((BitVec 64)×Unit):=zba.F (a1,())
def zeg:zP E:=lo [0,2,3,4] ⟨[.val (.slice (.slice (.named 0))),.ptr 0,.ptr 1,vI],[.box true (L 0++L 0++[vI,.own 2,vU,.own 3,.own 4,.own 5]),.box true (L 0++L 0++[vI,.own 6,vU,.own 7,.own 8,.own 9]),.row true (.slice (.int .i64)),.row true (.slice (.int .i64)),.row true (.slice (.named 0)),.row true (.named 1),.row true (.slice (.int .i64)),.row true (.slice (.int .i64)),.row true (.slice (.named 0)),.row true (.named 1)]⟩ 0 [2,3] ⟨[.ptr 0,.ptr 1],[.box true (L 0++L 0++[vI,.own 2,vU,.own 3,.own 4,.own 5]),.box true (L 0++L 0++[vI,.own 6,vU,.own 7,.own 8,.own 9]),.row true (.slice (.int .i64)),.row true (.slice (.int .i64)),.row true (.slice (.named 0)),.row true (.named 1),.row true (.slice (.int .i64)),.row true (.slice (.int .i64)),.row true (.slice (.named 0)),.row true (.named 1)]⟩ [] ⟨[],[]⟩ [.one (.slice (.slice (.named 0))),oI,oI,oI,oI,oI,oI,oI,oI,oI,oI,oU,oI,oI,oI,oI,oI,oI,oI,oI,oI,oU,.one (.slice (.slice (.int .i64))),.one (.slice (.slice (.int .i64))),.one (.slice (.slice (.named 0))),.one (.slice (.named 1)),.one (.slice (.slice (.int .i64))),.one (.slice (.slice (.int .i64))),.one (.slice (.slice (.named 0))),.one (.slice (.named 1))] [oI,oI,oI,oI,oI,oI,oI,oI,oI,oU,oI,oI,oI,oI,oI,oI,oI,oI,oI,oU,.one (.slice (.slice (.int .i64))),.one (.slice (.slice (.int .i64))),.one (.slice (.slice (.named 0))),.one (.slice (.named 1)),.one (.slice (.slice (.int .i64))),.one (.slice (.slice (.int .i64))),.one (.slice (.slice (.named 0))),.one (.slice (.named 1))] []
def zas:Cfg E:=cf [] [(3,zeg)] [] [] [] []
def zch:zC E:=sp zas Go.Proofs.Tryz.f12 ⟨[.val (.slice (.slice (.named 0)))],[]⟩ ⟨[.val (.named 3)],[]⟩ [.one (.slice (.slice (.named 0)))] [.one (.named 3)]
def zcg (a1:List (List zw)):Option (zd×Unit):=zch.F (a1,())
def zef (x:(List (List zw))×Int×Int×Int×Int×Int×Int×Int×Int×Int×Int×(BitVec 64)×Int×Int×Int×Int×Int×Int×Int×Int×Int×(BitVec 64)×(List (List Int))×(List (List Int))×(List (List zw))×(List zj)×(List (List Int))×(List (List Int))×(List (List zw))×(List zj)×Unit):Option (yD ((List (List zw))×Int×Int×Int×Int×Int×Int×Int×Int×Int×Int×(BitVec 64)×Int×Int×Int×Int×Int×Int×Int×Int×Int×(BitVec 64)×(List (List Int))×(List (List Int))×(List (List zw))×(List zj)×(List (List Int))×(List (List Int))×(List (List zw))×(List zj)×Unit) (Int×Int×Int×Int×Int×Int×Int×Int×Int×(BitVec 64)×Int×Int×Int×Int×Int×Int×Int×Int×Int×(BitVec 64)×(List (List Int))×(List (List Int))×(List (List zw))×(List zj)×(List (List Int))×(List (List Int))×(List (List zw))×(List zj)×Unit) (Unit)):=z9 zas (exec zas (yz Go.Proofs.Tryz.f12 3)) 35 zeg x
def zqB:Cfg E:=cf [] [] [] [(0,some 0)] [] []
def zc2:zC E:=sp zqB Go.Proofs.Tryz.f81 ⟨[.ptr 0],[.box true (L 12)]⟩ ⟨[],[.box true (L 12)]⟩ [.str 12] [.str 12]
def Uy (a1:za):Option (za×Unit):=zc2.F (a1,())
def zu0:Cfg E:=cf [(81,[zc2])] [] [] [] [] []
def ziO:zC E:=sp zu0 Go.Proofs.Tryz.f42 ⟨[.val (.named 12)],[]⟩ ⟨[.val (.named 12)],[]⟩ [.one (.named 12)] [.one (.named 12)]
def ziQ (a1:za):Option (za×Unit):=ziO.F (a1,())
def zsP:Cfg E:=cf [(42,[ziO])] [] [] [] [] []
def zfa:zC E:=sp zsP Go.Proofs.Tryz.f41 ⟨[.val (.named 12),vI],[]⟩ ⟨[.val (.named 12)],[]⟩ [.one (.named 12),oI] [.one (.named 12)]
def znb (a1:za) (a2:Int):Option (za×Unit):=zfa.F (a1,a2,())
def zCw:Cfg E:=cf [(69,[znm])] [] [] [] [] []
def zen:zC E:=sp zCw Go.Proofs.Tryz.f55 ⟨[vU,vI],[]⟩ ⟨[vB],[]⟩ [oU,oI] [oB]
def zb9 (a1:BitVec 64) (a2:Int):Option (Bool×Unit):=zen.F (a1,a2,())
def zCd:Cfg E:=cf [(55,[zen])] [] [] [] [] []
def zmV:zC E:=sp zCd Go.Proofs.Tryz.f146 ⟨[.val (.named 9),vI],[]⟩ ⟨[vI],[]⟩ [.one (.named 9),oI] [oI]
def zm8 (a1:zm) (a2:Int):Option (Int×Unit):=zmV.F (a1,a2,())
def zzd:Cfg E:=cf [(24,[zam]),(146,[zmV])] [] [] [] [] []
def za4:zC E:=sp zzd Go.Proofs.Tryz.f87 ⟨[.val (.named 9),vI],[]⟩ ⟨[.val (.named 9),vB],[]⟩ [.one (.named 9),oI] [.one (.named 9),oB]
def Uf (a1:zm) (a2:Int):Option (zm×Bool×Unit):=za4.F (a1,a2,())
def zw2:Cfg E:=cf [] [] [] [] [] []
def WT:zC E:=sp zw2 Go.Proofs.Tryz.f217 ⟨[vU],[]⟩ ⟨[vI],[]⟩ [oU] [oI]
def Xl (a1:BitVec 64):Option (Int×Unit):=WT.F (a1,())
def zwS:Cfg E:=cf [(117,[zau])] [] [] [] [] []
def zce:zC E:=sp zwS Go.Proofs.Tryz.f218 ⟨[vM,vI],[]⟩ ⟨[vU],[]⟩ [oM,oI] [oU]
def UX (a1:List (BitVec 64)) (a2:Int):Option ((BitVec 64)×Unit):=zce.F (a1,a2,())
def zma:Cfg E:=cf [(217,[WT]),(218,[zce])] [] [] [(0,some 0)] [] []
def V7:zC E:=sp zma Go.Proofs.Tryz.f205 ⟨[.ptr 0,vM],[.box true (L 5)]⟩ ⟨[vM],[.box true (L 5)]⟩ [oM,.str 5] [oM,.str 5]
def vY (a1:List (BitVec 64)) (a2:zL):Option ((List (BitVec 64))×zL×Unit):=V7.F (a1,a2,())
def zn8:Cfg E:=cf [(79,[zdI]),(217,[WT])] [] [] [] [] []
def zaL:zC E:=sp zn8 Go.Proofs.Tryz.f206 ⟨[.ptr 0,vM],[.box false (L 5)]⟩ ⟨[vM],[.gone]⟩ [oM,.str 5] [oM]
def Wh (a1:List (BitVec 64)) (a2:zL):Option ((List (BitVec 64))×Unit):=zaL.F (a1,a2,())
def zks:Cfg E:=cf [(80,[zfr]),(117,[zau]),(217,[WT])] [] [] [(0,some 0)] [] []
def Vj:zC E:=sp zks Go.Proofs.Tryz.f207 ⟨[.ptr 0,vM],[.box true (L 5)]⟩ ⟨[vM],[.box true (L 5)]⟩ [oM,.str 5] [oM,.str 5]
def vy (a1:List (BitVec 64)) (a2:zL):Option ((List (BitVec 64))×zL×Unit):=Vj.F (a1,a2,())
def zia:Cfg E:=cf [(217,[WT]),(218,[zce])] [] [] [(0,some 0)] [] []
def Wn:zC E:=sp zia Go.Proofs.Tryz.f208 ⟨[.ptr 0,vM],[.box true (L 5)]⟩ ⟨[vM],[.box true (L 5)]⟩ [oM,.str 5] [oM,.str 5]
def Z1 (a1:List (BitVec 64)) (a2:zL):Option ((List (BitVec 64))×zL×Unit):=Wn.F (a1,a2,())
def zwF:Cfg E:=cf [(205,[V7]),(206,[zaL]),(207,[Vj]),(208,[Wn])] [] [] [] [] []
def WP:zC E:=sp zwF Go.Proofs.Tryz.f166 ⟨[vM,.val (.named 5)],[]⟩ ⟨[vM,.val (.named 5)],[]⟩ [oM,.one (.named 5)] [oM,.one (.named 5)]
def WV (a1:List (BitVec 64)) (a2:zL):Option ((List (BitVec 64))×zL×Unit):=WP.F (a1,a2,())
def zoc:Cfg E:=cf [(166,[WP])] [] [] [(0,some 0)] [] []
def zat:zC E:=sp zoc Go.Proofs.Tryz.f118 ⟨[.ptr 0],[.box true (L 14)]⟩ ⟨[vI],[.box true (L 14)]⟩ [.str 14] [oI,.str 14]
def uR (a1:zQ):Option (Int×zQ×Unit):=zat.F (a1,())
def zoi:Cfg E:=cf [] [] [] [(0,some 0)] [] []
def Wl:zC E:=sp zoi Go.Proofs.Tryz.f125 ⟨[.ptr 0,vI],[.box true (L 14)]⟩ ⟨[],[.box true (L 14)]⟩ [oI,.str 14] [.str 14]
def Wj (a1:Int) (a2:zQ):Option (zQ×Unit):=Wl.F (a1,a2,())
def zbx:Cfg E:=cf [] [] [] [] [] []
def zgt:zC E:=sp zbx Go.Proofs.Tryz.f209 ⟨[vI],[]⟩ ⟨[.bsl 0 4],[.box true [.fn 229 [],.fn 230 [],.fn 231 [],.fn 232 []]]⟩ [oI] []
def zoL (a1:Int):Option (Unit):=zgt.F (a1,())
def zha:zC E:=sp zbx Go.Proofs.Tryz.f209 ⟨[vI],[]⟩ ⟨[.bsl 0 7],[.box true [.fn 229 [],.fn 233 [],.fn 234 [],.fn 235 [],.fn 236 [],.fn 237 [],.fn 238 []]]⟩ [oI] []
def zoz (a1:Int):Option (Unit):=zha.F (a1,())
def zgq:zC E:=sp zbx Go.Proofs.Tryz.f209 ⟨[vI],[]⟩ ⟨[.bsl 0 4],[.box true [.fn 239 [],.fn 240 [],.fn 241 [],.fn 242 []]]⟩ [oI] []
def zoS (a1:Int):Option (Unit):=zgq.F (a1,())
def zgl:zC E:=sp zbx Go.Proofs.Tryz.f209 ⟨[vI],[]⟩ ⟨[.own 0],[.row true .bool]⟩ [oI] [.one (.slice .bool)]
def zoY (a1:Int):Option ((List Bool)×Unit):=zgl.F (a1,())
def zxh:Cfg E:=cf [(117,[zau])] [] [] [] [] []
def Zu:zC E:=sp zxh Go.Proofs.Tryz.f221 ⟨[vM,vI],[]⟩ ⟨[vU],[]⟩ [oM,oI] [oU]
def vT (a1:List (BitVec 64)) (a2:Int):Option ((BitVec 64)×Unit):=Zu.F (a1,a2,())
def zlQ:Cfg E:=cf [] [] [] [] [] []
def xJ:zC E:=sp zlQ Go.Proofs.Tryz.f223 ⟨[.ptr 0],[.box false (L 4)]⟩ ⟨[vI],[.gone]⟩ [.str 4] [oI]
def we (a1:zg):Option (Int×Unit):=xJ.F (a1,())
def zfA:Cfg E:=cf [(221,[Zu]),(223,[xJ])] [] [] [(0,some 0)] [] []
def YM:zC E:=sp zfA Go.Proofs.Tryz.f229 ⟨[.ptr 0,vM],[.box true (L 4)]⟩ ⟨[vM],[.box true (L 4)]⟩ [oM,.str 4] [oM,.str 4]
def vg (a1:List (BitVec 64)) (a2:zg):Option ((List (BitVec 64))×zg×Unit):=YM.F (a1,a2,())
def zo0:Cfg E:=cf [] [] [] [] [] []
def uh:zC E:=sp zo0 Go.Proofs.Tryz.f222 ⟨[.ptr 0],[.box false (L 4)]⟩ ⟨[vI],[.gone]⟩ [.str 4] [oI]
def Zp (a1:zg):Option (Int×Unit):=uh.F (a1,())
def znJ:Cfg E:=cf [] [] [] [] [] []
def Yg:zC E:=sp znJ Go.Proofs.Tryz.f225 ⟨[.ptr 0],[.box false (L 4)]⟩ ⟨[vU],[.gone]⟩ [.str 4] [oU]
def yb (a1:zg):Option ((BitVec 64)×Unit):=Yg.F (a1,())
def zlY:Cfg E:=cf [] [] [] [(0,some 0)] [] []
def x8:zC E:=sp zlY Go.Proofs.Tryz.f254 ⟨[.ptr 0,vI],[.box true (L 4)]⟩ ⟨[],[.box true (L 4)]⟩ [oI,.str 4] [.str 4]
def wb (a1:Int) (a2:zg):Option (zg×Unit):=x8.F (a1,a2,())
def zkG:Cfg E:=cf [(221,[Zu]),(222,[uh]),(225,[Yg]),(254,[x8])] [] [] [(0,some 0)] [] []
def Vl:zC E:=sp zkG Go.Proofs.Tryz.f230 ⟨[.ptr 0,vM],[.box true (L 4)]⟩ ⟨[vM],[.box true (L 4)]⟩ [oM,.str 4] [oM,.str 4]
def Vv (a1:List (BitVec 64)) (a2:zg):Option ((List (BitVec 64))×zg×Unit):=Vl.F (a1,a2,())
def zmJ:Cfg E:=cf [(225,[Yg])] [] [] [] [] []
def ut:zC E:=sp zmJ Go.Proofs.Tryz.f226 ⟨[.ptr 0,vU],[.box false (L 4)]⟩ ⟨[vI],[.gone]⟩ [oU,.str 4] [oI]
def un (a1:BitVec 64) (a2:zg):Option (Int×Unit):=ut.F (a1,a2,())
def zv1:Cfg E:=cf [(117,[zau])] [] [] [] [] []
def XJ:zC E:=sp zv1 Go.Proofs.Tryz.f255 ⟨[vM,vI,vU],[]⟩ ⟨[vM],[]⟩ [oM,oI,oU] [oM]
def XM (a1:List (BitVec 64)) (a2:Int) (a3:BitVec 64):Option ((List (BitVec 64))×Unit):=XJ.F (a1,a2,a3,())
def zou:Cfg E:=cf [(226,[ut]),(255,[XJ])] [] [] [] [] []
def zbi:zC E:=sp zou Go.Proofs.Tryz.f231 ⟨[.ptr 0,vM],[.box false (L 4)]⟩ ⟨[vM],[.gone]⟩ [oM,.str 4] [oM]
def zbp (a1:List (BitVec 64)) (a2:zg):Option ((List (BitVec 64))×Unit):=zbi.F (a1,a2,())
def zgI:Cfg E:=cf [(223,[xJ]),(254,[x8]),(255,[XJ])] [] [] [(0,some 0)] [] []
def XK:zC E:=sp zgI Go.Proofs.Tryz.f232 ⟨[.ptr 0,vM],[.box true (L 4)]⟩ ⟨[vM],[.box true (L 4)]⟩ [oM,.str 4] [oM,.str 4]
def XD (a1:List (BitVec 64)) (a2:zg):Option ((List (BitVec 64))×zg×Unit):=XK.F (a1,a2,())
def zmC:Cfg E:=cf [(223,[xJ]),(255,[XJ])] [] [] [] [] []
def UO:zC E:=sp zmC Go.Proofs.Tryz.f233 ⟨[.ptr 0,vM],[.box false (L 4)]⟩ ⟨[vM],[.gone]⟩ [oM,.str 4] [oM]
def zeu (a1:List (BitVec 64)) (a2:zg):Option ((List (BitVec 64))×Unit):=UO.F (a1,a2,())
def zvj:Cfg E:=cf [] [] [] [] [] []
def zaW:zC E:=sp zvj Go.Proofs.Tryz.f224 ⟨[vU,vU],[]⟩ ⟨[vB],[]⟩ [oU,oU] [oB]
def xu (a1:BitVec 64) (a2:BitVec 64):Option (Bool×Unit):=zaW.F (a1,a2,())
def zh2:Cfg E:=cf [(221,[Zu]),(222,[uh]),(224,[zaW])] [] [] [(0,some 0)] [] []
def X3:zC E:=sp zh2 Go.Proofs.Tryz.f234 ⟨[.ptr 0,vM],[.box true (L 4)]⟩ ⟨[vM],[.box true (L 4)]⟩ [oM,.str 4] [oM,.str 4]
def zbC (a1:List (BitVec 64)) (a2:zg):Option ((List (BitVec 64))×zg×Unit):=X3.F (a1,a2,())
def zls:Cfg E:=cf [(221,[Zu]),(226,[ut]),(254,[x8])] [] [] [(0,some 0)] [] []
def Uh:zC E:=sp zls Go.Proofs.Tryz.f235 ⟨[.ptr 0,vM],[.box true (L 4)]⟩ ⟨[vM],[.box true (L 4)]⟩ [oM,.str 4] [oM,.str 4]
def zc8 (a1:List (BitVec 64)) (a2:zg):Option ((List (BitVec 64))×zg×Unit):=Uh.F (a1,a2,())
def zob:Cfg E:=cf [(117,[zau]),(222,[uh])] [] [] [] [] []
def X5:zC E:=sp zob Go.Proofs.Tryz.f256 ⟨[.ptr 0,vM],[.box false (L 4)]⟩ ⟨[vM,vB],[.gone]⟩ [oM,.str 4] [oM,oB]
def Wg (a1:List (BitVec 64)) (a2:zg):Option ((List (BitVec 64))×Bool×Unit):=X5.F (a1,a2,())
def zke:Cfg E:=cf [(256,[X5])] [] [] [(0,some 0)] [] []
def Vw:zC E:=sp zke Go.Proofs.Tryz.f236 ⟨[.ptr 0,vM],[.box true (L 4)]⟩ ⟨[vM],[.box true (L 4)]⟩ [oM,.str 4] [oM,.str 4]
def zcN (a1:List (BitVec 64)) (a2:zg):Option ((List (BitVec 64))×zg×Unit):=Vw.F (a1,a2,())
def zj0:Cfg E:=cf [(223,[xJ]),(254,[x8]),(255,[XJ])] [] [] [(0,some 0)] [] []
def Vq:zC E:=sp zj0 Go.Proofs.Tryz.f237 ⟨[.ptr 0,vM],[.box true (L 4)]⟩ ⟨[vM],[.box true (L 4)]⟩ [oM,.str 4] [oM,.str 4]
def zcS (a1:List (BitVec 64)) (a2:zg):Option ((List (BitVec 64))×zg×Unit):=Vq.F (a1,a2,())
def zly:Cfg E:=cf [(223,[xJ]),(254,[x8]),(255,[XJ])] [] [] [(0,some 0)] [] []
def V3:zC E:=sp zly Go.Proofs.Tryz.f238 ⟨[.ptr 0,vM],[.box true (L 4)]⟩ ⟨[vM],[.box true (L 4)]⟩ [oM,.str 4] [oM,.str 4]
def zdc (a1:List (BitVec 64)) (a2:zg):Option ((List (BitVec 64))×zg×Unit):=V3.F (a1,a2,())
def zlR:Cfg E:=cf [(221,[Zu]),(222,[uh])] [] [] [(0,some 0)] [] []
def V4:zC E:=sp zlR Go.Proofs.Tryz.f239 ⟨[.ptr 0,vM],[.box true (L 4)]⟩ ⟨[vM],[.box true (L 4)]⟩ [oM,.str 4] [oM,.str 4]
def zdp (a1:List (BitVec 64)) (a2:zg):Option ((List (BitVec 64))×zg×Unit):=V4.F (a1,a2,())
def zlU:Cfg E:=cf [(221,[Zu]),(223,[xJ]),(224,[zaW])] [] [] [(0,some 0)] [] []
def V9:zC E:=sp zlU Go.Proofs.Tryz.f240 ⟨[.ptr 0,vM],[.box true (L 4)]⟩ ⟨[vM],[.box true (L 4)]⟩ [oM,.str 4] [oM,.str 4]
def zda (a1:List (BitVec 64)) (a2:zg):Option ((List (BitVec 64))×zg×Unit):=V9.F (a1,a2,())
def zkt:Cfg E:=cf [(221,[Zu]),(226,[ut])] [] [] [(0,some 0)] [] []
def Vn:zC E:=sp zkt Go.Proofs.Tryz.f241 ⟨[.ptr 0,vM],[.box true (L 4)]⟩ ⟨[vM],[.box true (L 4)]⟩ [oM,.str 4] [oM,.str 4]
def zcQ (a1:List (BitVec 64)) (a2:zg):Option ((List (BitVec 64))×zg×Unit):=Vn.F (a1,a2,())
def zib:Cfg E:=cf [(254,[x8]),(256,[X5])] [] [] [(0,some 0)] [] []
def X9:zC E:=sp zib Go.Proofs.Tryz.f242 ⟨[.ptr 0,vM],[.box true (L 4)]⟩ ⟨[vM],[.box true (L 4)]⟩ [oM,.str 4] [oM,.str 4]
def zbF (a1:List (BitVec 64)) (a2:zg):Option ((List (BitVec 64))×zg×Unit):=X9.F (a1,a2,())
def zxw:Cfg E:=cf [(209,[zgt,zha,zgq,zgl]),(229,[YM]),(230,[Vl]),(231,[zbi]),(232,[XK]),(233,[UO]),(234,[X3]),(235,[Uh]),(236,[Vw]),(237,[Vq]),(238,[V3]),(239,[V4]),(240,[V9]),(241,[Vn]),(242,[X9])] [] [] [] [(1,2,[0,1,2,3])] []
def zfd:zC E:=sp zxw Go.Proofs.Tryz.f167 ⟨[vM,.val (.named 4)],[]⟩ ⟨[vM,.val (.named 4)],[]⟩ [oM,.one (.named 4)] [oM,.one (.named 4)]
def zbN (a1:List (BitVec 64)) (a2:zg):Option ((List (BitVec 64))×zg×Unit):=zfd.F (a1,a2,())
def zsS:Cfg E:=cf [(32,[za2]),(33,[Xz])] [] [] [] [] []
def zbw:zC E:=sp zsS Go.Proofs.Tryz.f169 ⟨[.ptr 0,vI,vI],[.box false (L 14)]⟩ ⟨[.val (.named 4)],[.gone]⟩ [oI,oI,.str 14] [.one (.named 4)]
def zfj (a1:Int) (a2:Int) (a3:zQ):Option (zg×Unit):=zbw.F (a1,a2,a3,())
def zuN:Cfg E:=cf [] [] [] [] [] []
def VD:zC E:=sp zuN Go.Proofs.Tryz.f210 ⟨L 0,[]⟩ ⟨[.val (.named 5)],[]⟩ [oI,oI,oI,oI] [.one (.named 5)]
def zaY (a1:Int) (a2:Int) (a3:Int) (a4:Int):Option (zL×Unit):=VD.F (a1,a2,a3,a4,())
def zqD:Cfg E:=cf [(39,[Xk]),(210,[VD])] [] [] [] [] []
def Ux:zC E:=sp zqD Go.Proofs.Tryz.f171 ⟨[.ptr 0,vI,vI,vI],[.box false (L 14)]⟩ ⟨[.val (.named 5)],[.gone]⟩ [oI,oI,oI,.str 14] [.one (.named 5)]
def zc1 (a1:Int) (a2:Int) (a3:Int) (a4:zQ):Option (zL×Unit):=Ux.F (a1,a2,a3,a4,())
def znD:Cfg E:=cf [(38,[Y6]),(169,[zbw]),(171,[Ux])] [] [] [(0,some 0)] [] []
def zax:zC E:=sp znD Go.Proofs.Tryz.f168 ⟨[.ptr 0],[.box true (L 14)]⟩ ⟨[],[.box true (L 14)]⟩ [.str 14] [.str 14]
def Wa (a1:zQ):Option (zQ×Unit):=zax.F (a1,())
def zos:Cfg E:=cf [(125,[Wl]),(167,[zfd]),(168,[zax])] [] [] [(0,some 0)] [] []
def zbn:zC E:=sp zos Go.Proofs.Tryz.f119 ⟨[.ptr 0],[.box true (L 14)]⟩ ⟨[],[.box true (L 14)]⟩ [.str 14] [.str 14]
def W8 (a1:zQ):Option (zQ×Unit):=zbn.F (a1,())
def zmx:Cfg E:=cf [(169,[zbw])] [] [] [(0,some 0)] [] []
def UT:zC E:=sp zmx Go.Proofs.Tryz.f120 ⟨[.ptr 0],[.box true (L 14)]⟩ ⟨[],[.box true (L 14)]⟩ [.str 14] [.str 14]
def um (a1:zQ):Option (zQ×Unit):=UT.F (a1,())
def zif:Cfg E:=cf [] [] [] [] [] []
def wX:zC E:=sp zif Go.Proofs.Tryz.f170 ⟨[.val (.slice (.slice (.int .i64)))],[]⟩ ⟨[.own 0],[.row true (.slice (.int .i64))]⟩ [.one (.slice (.slice (.int .i64)))] [.one (.slice (.slice (.int .i64)))]
def wW (a1:List (List Int)):Option ((List (List Int))×Unit):=wX.F (a1,())
def zn2:Cfg E:=cf [(40,[XA]),(170,[wX]),(171,[Ux])] [] [] [(0,some 0)] [] []
def zaP:zC E:=sp zn2 Go.Proofs.Tryz.f121 ⟨[.ptr 0],[.box true (L 14)]⟩ ⟨[],[.box true (L 14)]⟩ [.str 14] [.str 14]
def zaQ (a1:zQ):Option (zQ×Unit):=zaP.F (a1,())
def zsN:Cfg E:=cf [] [] [] [] [] []
def zbv:zC E:=sp zsN Go.Proofs.Tryz.f124 ⟨[.ptr 0],[.box false (L 14)]⟩ ⟨[vI],[.gone]⟩ [.str 14] [oI]
def VX (a1:zQ):Option (Int×Unit):=zbv.F (a1,())
def zqJ:Cfg E:=cf [] [] [] [] [] []
def UB:zC E:=sp zqJ Go.Proofs.Tryz.f211 ⟨[.val (.named 2),vI,vI],[]⟩ ⟨[vB],[]⟩ [.one (.named 2),oI,oI] [oB]
def UE (a1:zq) (a2:Int) (a3:Int):Option (Bool×Unit):=UB.F (a1,a2,a3,())
def zBK:Cfg E:=cf [(211,[UB])] [] [] [] [] []
def zfm:zC E:=sp zBK Go.Proofs.Tryz.f172 ⟨[.val (.named 2),vI,vI],[]⟩ ⟨[vI,vB],[]⟩ [.one (.named 2),oI,oI] [oI,oB]
def zfi (a1:zq) (a2:Int) (a3:Int):Option (Int×Bool×Unit):=zfm.F (a1,a2,a3,())
def zxf:Cfg E:=cf [] [] [] [] [] []
def zbZ:zC E:=sp zxf Go.Proofs.Tryz.f173 ⟨[vI,vI,vI],[]⟩ ⟨[.val (.named 6)],[]⟩ [oI,oI,oI] [.one (.named 6)]
def zbP (a1:Int) (a2:Int) (a3:Int):Option (zB×Unit):=zbZ.F (a1,a2,a3,())
def znF:Cfg E:=cf [(124,[zbv]),(172,[zfm]),(173,[zbZ])] [] [] [(0,some 0)] [] []
def zaG:zC E:=sp znF Go.Proofs.Tryz.f122 ⟨[.ptr 0],[.box true (L 14)]⟩ ⟨[],[.box true (L 14)]⟩ [.str 14] [.str 14]
def zaF (a1:zQ):Option (zQ×Unit):=zaG.F (a1,())
def ziv:Cfg E:=cf [] [] [] [(0,some 0)] [] []
def Wo:zC E:=sp ziv Go.Proofs.Tryz.f174 ⟨[.ptr 0],[.box true (L 15)]⟩ ⟨[],[.box true (L 15)]⟩ [.str 15] [.str 15]
def zbE (a1:zM):Option (zM×Unit):=Wo.F (a1,())
def zxT:Cfg E:=cf [(24,[zam]),(55,[zen])] [] [] [] [] []
def zb6:zC E:=sp zxT Go.Proofs.Tryz.f86 ⟨[.val (.named 9),vI],[]⟩ ⟨[.val (.named 9),vB],[]⟩ [.one (.named 9),oI] [.one (.named 9),oB]
def zci (a1:zm) (a2:Int):Option (zm×Bool×Unit):=zb6.F (a1,a2,())
def zmj:Cfg E:=cf [(39,[Xk]),(40,[XA]),(210,[VD])] [] [] [(0,some 0)] [] []
def ux:zC E:=sp zmj Go.Proofs.Tryz.f212 ⟨[.ptr 0],[.box true (L 15)]⟩ ⟨[],[.box true (L 15)]⟩ [.str 15] [.str 15]
def uw (a1:zM):Option (zM×Unit):=ux.F (a1,())
def zl8:Cfg E:=cf [(32,[za2]),(33,[Xz]),(86,[zb6]),(212,[ux])] [] [] [(0,some 0)] [] []
def VZ:zC E:=sp zl8 Go.Proofs.Tryz.f175 ⟨[.ptr 0],[.box true (L 15)]⟩ ⟨[],[.box true (L 15)]⟩ [.str 15] [.str 15]
def zdd (a1:zM):Option (zM×Unit):=VZ.F (a1,())
def zl7:Cfg E:=cf [] [] [] [(0,some 0)] [] []
def Ui:zC E:=sp zl7 Go.Proofs.Tryz.f176 ⟨[.ptr 0],[.box true (L 15)]⟩ ⟨[],[.box true (L 15)]⟩ [.str 15] [.str 15]
def zdo (a1:zM):Option (zM×Unit):=Ui.F (a1,())
def zlZ:Cfg E:=cf [(167,[zfd]),(212,[ux])] [] [] [(0,some 0)] [] []
def V0:zC E:=sp zlZ Go.Proofs.Tryz.f177 ⟨[.ptr 0],[.box true (L 15)]⟩ ⟨[],[.box true (L 15)]⟩ [.str 15] [.str 15]
def zdB (a1:zM):Option (zM×Unit):=V0.F (a1,())
def zmh:Cfg E:=cf [(212,[ux])] [] [] [(0,some 0)] [] []
def Uc:zC E:=sp zmh Go.Proofs.Tryz.f178 ⟨[.ptr 0],[.box true (L 15)]⟩ ⟨[],[.box true (L 15)]⟩ [.str 15] [.str 15]
def zc7 (a1:zM):Option (zM×Unit):=Uc.F (a1,())
def zkX:Cfg E:=cf [(166,[WP]),(212,[ux])] [] [] [(0,some 0)] [] []
def V6:zC E:=sp zkX Go.Proofs.Tryz.f179 ⟨[.ptr 0],[.box true (L 15)]⟩ ⟨[],[.box true (L 15)]⟩ [.str 15] [.str 15]
def zdn (a1:zM):Option (zM×Unit):=V6.F (a1,())
def zll:Cfg E:=cf [(38,[Y6]),(39,[Xk]),(170,[wX]),(210,[VD])] [] [] [(0,some 0)] [] []
def VY:zC E:=sp zll Go.Proofs.Tryz.f180 ⟨[.ptr 0],[.box true (L 15)]⟩ ⟨[],[.box true (L 6++L 3++[vI,.val (.slice (.slice (.int .i64))),vM,.own 1,vU,vU,vI,vI,vB,vB,vI,vL]++L 10++[.val (.slice (.named 7)),.val (.slice (.named 8)),vI,vI]),.row true (.slice (.int .i64))]⟩ [.str 15] [.str 6,.str 3,.str 2,oM,.str 9,oI,oI,oB,oB,oI,oL,.str 10,.one (.slice (.named 7)),.one (.slice (.named 8)),.str 11,.one (.slice (.slice (.int .i64)))]
def zdv (a1:zM):Option (zB×zd×zq×(List (BitVec 64))×zm×Int×Int×Bool×Bool×Int×(List Int)×zr×(List zk)×(List ze)×zE×(List (List Int))×Unit):=VY.F (a1,())
def zis:Cfg E:=cf [(166,[WP])] [] [] [(0,some 0)] [] []
def Wp:zC E:=sp zis Go.Proofs.Tryz.f181 ⟨[.ptr 0],[.box true (L 15)]⟩ ⟨[],[.box true (L 15)]⟩ [.str 15] [.str 15]
def zbu (a1:zM):Option (zM×Unit):=Wp.F (a1,())
def zy6:Cfg E:=cf [(174,[Wo]),(175,[VZ]),(176,[Ui]),(177,[V0]),(178,[Uc]),(179,[V6]),(180,[VY]),(181,[Wp])] [] [] [] [] []
def zhy:zC E:=sp zy6 Go.Proofs.Tryz.f123 ⟨[.val (.named 12),.val (.named 6)],[]⟩ ⟨[.val (.named 12),.val (.named 6)],[]⟩ [.one (.named 12),.one (.named 6)] [.one (.named 12),.one (.named 6)]
def zdy (a1:za) (a2:zB):Option (za×zB×Unit):=zhy.F (a1,a2,())
def zmi:Cfg E:=cf [] [] [] [] [] []
def ZV:zC E:=sp zmi Go.Proofs.Tryz.f182 ⟨[.val (.named 10),vI],[]⟩ ⟨[vB],[]⟩ [.one (.named 10),oI] [oB]
def ZS (a1:zr) (a2:Int):Option (Bool×Unit):=ZV.F (a1,a2,())
def zs9:Cfg E:=cf [] [] [] [] [] []
def zfP:zC E:=sp zs9 Go.Proofs.Tryz.f184 ⟨[vI],[]⟩ ⟨[vI],[]⟩ [oI] [oI]
def zfK (a1:Int):Option (Int×Unit):=zfP.F (a1,())
def zak:Cfg E:=cf [(184,[zfP])] [] [] [] [] []
def vV:zC E:=sp zak Go.Proofs.Tryz.f183 ⟨[.val (.named 10),vI,.fn 184 []],[]⟩ ⟨[.val (.named 10)],[]⟩ [.one (.named 10),oI] [.one (.named 10)]
def Yx (a1:zr) (a2:Int):Option (zr×Unit):=vV.F (a1,a2,())
def zwu:Cfg E:=cf [(182,[ZV]),(183,[vV])] [] [] [] [] []
def zdF:zC E:=sp zwu Go.Proofs.Tryz.f126 ⟨[.val (.named 10),vI],[]⟩ ⟨[.val (.named 10)],[]⟩ [.one (.named 10),oI] [.one (.named 10)]
def zaT (a1:zr) (a2:Int):Option (zr×Unit):=zdF.F (a1,a2,())
def zoe:Cfg E:=cf [(87,[za4]),(118,[zat]),(119,[zbn]),(120,[UT]),(121,[zaP]),(122,[zaG]),(123,[zhy]),(124,[zbv]),(125,[Wl]),(126,[zdF])] [] [] [(0,some 0)] [] []
def zaB:zC E:=sp zoe Go.Proofs.Tryz.f82 ⟨[.ptr 0],[.box true (L 14)]⟩ ⟨[],[.box true (L 14)]⟩ [.str 14] [.str 14]
def zaM (a1:zQ):Option (zQ×Unit):=zaB.F (a1,())
def Ut:Cfg E:=cf [] [] [] [] [] []
def vq:zC E:=sp Ut Go.Proofs.Tryz.f83 ⟨[.val (.slice (.named 7))],[]⟩ ⟨[.own 0],[.row true (.named 7)]⟩ [.one (.slice (.named 7))] [.one (.slice (.named 7))]
def vr (a1:List zk):Option ((List zk)×Unit):=vq.F (a1,())
def zvA:Cfg E:=cf [(82,[zaB]),(83,[vq])] [] [] [] [] []
def zjr:zC E:=sp zvA Go.Proofs.Tryz.f43 ⟨[.val (.named 12),vI],[]⟩ ⟨[.val (.named 12)],[]⟩ [.one (.named 12),oI] [.one (.named 12)]
def zjk (a1:za) (a2:Int):Option (za×Unit):=zjr.F (a1,a2,())
def zrk:Cfg E:=cf [] [] [] [] [] []
def uG:zC E:=sp zrk Go.Proofs.Tryz.f185 ⟨[.ptr 0],[.box false (L 16)]⟩ ⟨[.val (.named 0)],[.gone]⟩ [.str 16] [.one (.named 0)]
def vE (a1:zA):Option (zw×Unit):=uG.F (a1,())
def zmt:Cfg E:=cf [] [] [] [(0,some 0)] [] []
def uv:zC E:=sp zmt Go.Proofs.Tryz.f189 ⟨[.ptr 0],[.box true (L 16)]⟩ ⟨[],[.box true (L 16)]⟩ [.str 16] [.str 16]
def ZH (a1:zA):Option (zA×Unit):=uv.F (a1,())
def znM:Cfg E:=cf [(30,[xk]),(189,[uv])] [] [] [(0,some 0)] [] []
def Ya:zC E:=sp znM Go.Proofs.Tryz.f186 ⟨[.ptr 0,vI,vI],[.box true (L 16)]⟩ ⟨[],[.box true (L 16)]⟩ [oI,oI,.str 16] [.str 16]
def uQ (a1:Int) (a2:Int) (a3:zA):Option (zA×Unit):=Ya.F (a1,a2,a3,())
def zk9:Cfg E:=cf [(185,[uG]),(186,[Ya])] [] [] [(0,some 0)] [] []
def Un:zC E:=sp zk9 Go.Proofs.Tryz.f127 ⟨[.ptr 0],[.box true (L 16)]⟩ ⟨[],[.box true (L 16)]⟩ [.str 16] [.str 16]
def V5 (a1:zA):Option (zA×Unit):=Un.F (a1,())
def zlc:Cfg E:=cf [(173,[zbZ])] [] [] [(0,some 0)] [] []
def Ue:zC E:=sp zlc Go.Proofs.Tryz.f128 ⟨[.ptr 0],[.box true (L 16)]⟩ ⟨[],[.box true (L 16)]⟩ [.str 16] [.str 16]
def zdh (a1:zA):Option (zA×Unit):=Ue.F (a1,())
def zn6:Cfg E:=cf [(30,[xk])] [] [] [(0,some 0)] [] []
def zaE:zC E:=sp zn6 Go.Proofs.Tryz.f129 ⟨[.ptr 0],[.box true (L 16)]⟩ ⟨[],[.box true (L 8++L 3++[vI,.val (.slice (.slice (.int .i64))),vM,.val (.slice (.slice (.int .i64))),vU,vU,vI,vI,vB,vB,vI,.own 1]++L 10++[.val (.slice (.named 7)),.val (.slice (.named 8)),vI,vI,vI]),.row true (.int .i64)]⟩ [.str 16] [.str 8,.str 3,.str 2,oM,.one (.slice (.slice (.int .i64))),.str 9,oI,oI,oB,oB,oI,.str 10,.one (.slice (.named 7)),.one (.slice (.named 8)),.str 11,oI,oL]
def zfC (a1:zA):Option (ze×zd×zq×(List (BitVec 64))×(List (List Int))×zm×Int×Int×Bool×Bool×Int×zr×(List zk)×(List ze)×zE×Int×(List Int)×Unit):=zaE.F (a1,())
def zka:Cfg E:=cf [(123,[zhy])] [] [] [(0,some 0)] [] []
def YB:zC E:=sp zka Go.Proofs.Tryz.f187 ⟨[.ptr 0,vI],[.box true (L 16)]⟩ ⟨[],[.box true (L 16)]⟩ [oI,.str 16] [.str 16]
def YD (a1:Int) (a2:zA):Option (zA×Unit):=YB.F (a1,a2,())
def zli:Cfg E:=cf [(187,[YB])] [] [] [(0,some 0)] [] []
def V8:zC E:=sp zli Go.Proofs.Tryz.f130 ⟨[.ptr 0],[.box true (L 16)]⟩ ⟨[],[.box true (L 16)]⟩ [.str 16] [.str 16]
def zdj (a1:zA):Option (zA×Unit):=V8.F (a1,())
def zpc:Cfg E:=cf [(172,[zfm]),(185,[uG])] [] [] [] [] []
def VQ:zC E:=sp zpc Go.Proofs.Tryz.f188 ⟨[.ptr 0],[.box false (L 16)]⟩ ⟨[vI],[.gone]⟩ [.str 16] [oI]
def VU (a1:zA):Option (Int×Unit):=VQ.F (a1,())
def zmE:Cfg E:=cf [(185,[uG]),(186,[Ya]),(188,[VQ])] [] [] [(0,some 0)] [] []
def U6:zC E:=sp zmE Go.Proofs.Tryz.f131 ⟨[.ptr 0],[.box true (L 16)]⟩ ⟨[],[.box true (L 16)]⟩ [.str 16] [.str 16]
def zeb (a1:zA):Option (zA×Unit):=U6.F (a1,())
def zok:Cfg E:=cf [(185,[uG]),(188,[VQ]),(189,[uv])] [] [] [(0,some 0)] [] []
def zaC:zC E:=sp zok Go.Proofs.Tryz.f132 ⟨[.ptr 0],[.box true (L 16)]⟩ ⟨[],[.box true (L 16)]⟩ [.str 16] [.str 16]
def zeX (a1:zA):Option (zA×Unit):=zaC.F (a1,())
def zk2:Cfg E:=cf [(146,[zmV])] [] [] [(0,some 0)] [] []
def Ul:zC E:=sp zk2 Go.Proofs.Tryz.f133 ⟨[.ptr 0],[.box true (L 16)]⟩ ⟨[],[.box true (L 16)]⟩ [.str 16] [.str 16]
def zc6 (a1:zA):Option (zA×Unit):=Ul.F (a1,())
def zhW:Cfg E:=cf [(30,[xk])] [] [] [(0,some 0)] [] []
def Wc:zC E:=sp zhW Go.Proofs.Tryz.f134 ⟨[.ptr 0],[.box true (L 16)]⟩ ⟨[],[.box true (L 16)]⟩ [.str 16] [.str 16]
def zbK (a1:zA):Option (zA×Unit):=Wc.F (a1,())
def zzL:Cfg E:=cf [(30,[xk]),(170,[wX]),(211,[UB])] [] [(4,12),(6,0)] [] [] []
def zpr:zC E:=sp zzL Go.Proofs.Tryz.f190 ⟨[.val (.named 2),vI,vI,vI],[]⟩ ⟨[.val (.named 2),vB],[]⟩ [.one (.named 2),oI,oI,oI] [.one (.named 2),oB]
def zpj (a1:zq) (a2:Int) (a3:Int) (a4:Int):Option (zq×Bool×Unit):=zpr.F (a1,a2,a3,a4,())
def zlz:Cfg E:=cf [(185,[uG]),(189,[uv]),(190,[zpr])] [] [] [(0,some 0)] [] []
def Ud:zC E:=sp zlz Go.Proofs.Tryz.f135 ⟨[.ptr 0],[.box true (L 16)]⟩ ⟨[],[.box true (L 16)]⟩ [.str 16] [.str 16]
def zdi (a1:zA):Option (zA×Unit):=Ud.F (a1,())
def ziT:Cfg E:=cf [] [] [] [] [] []
def WH:zC E:=sp ziT Go.Proofs.Tryz.f91 ⟨[.val (.slice (.slice (.int .i64)))],[]⟩ ⟨[.full (.slice (.int .i64))],[]⟩ [.one (.slice (.slice (.int .i64)))] [.one (.slice (.slice (.int .i64)))]
def WA (a1:List (List Int)):Option ((List (List Int))×Unit):=WH.F (a1,())
def zxt:Cfg E:=cf [(53,[zcc]),(91,[WH])] [] [] [] [] []
def zeV:zC E:=sp zxt Go.Proofs.Tryz.f51 ⟨[.val (.named 2),vI],[]⟩ ⟨[.val (.named 2),vI,vI],[]⟩ [.one (.named 2),oI] [.one (.named 2),oI,oI]
def zfT (a1:zq) (a2:Int):Option (zq×Int×Int×Unit):=zeV.F (a1,a2,())
def zwW:Cfg E:=cf [(86,[zb6]),(87,[za4])] [] [] [] [] []
def ze7:zC E:=sp zwW Go.Proofs.Tryz.f88 ⟨[.val (.named 9),vI],[]⟩ ⟨[.val (.named 9),vB],[]⟩ [.one (.named 9),oI] [.one (.named 9),oB]
def zb5 (a1:zm) (a2:Int):Option (zm×Bool×Unit):=ze7.F (a1,a2,())
def zsh:Cfg E:=cf [] [] [] [] [] []
def zd6:zC E:=sp zsh Go.Proofs.Tryz.f214 ⟨[vI,.ptr 0],[.box false [vI]]⟩ ⟨[vI],[.gone]⟩ [oI,oI] [oI]
def zaz (a1:Int) (a2:Int):Option (Int×Unit):=zd6.F (a1,a2,())
def UH:Cfg E:=cf [(214,[zd6])] [] [] [] [] []
def vz:zC E:=sp UH Go.Proofs.Tryz.f183 ⟨[.val (.named 10),vI,.fn 214 [.ptr 0]],[.box false [vI]]⟩ ⟨[.val (.named 10)],[.gone]⟩ [.one (.named 10),oI,oI] [.one (.named 10)]
def Yp (a1:zr) (a2:Int) (a3:Int):Option (zr×Unit):=vz.F (a1,a2,a3,())
def zlO:Cfg E:=cf [(182,[ZV])] [] [] [] [] []
def YX:zC E:=sp zlO Go.Proofs.Tryz.f216 ⟨[.val (.named 10),vI,vI,vI],[]⟩ ⟨[vB],[]⟩ [.one (.named 10),oI,oI,oI] [oB]
def YW (a1:zr) (a2:Int) (a3:Int) (a4:Int):Option (Bool×Unit):=YX.F (a1,a2,a3,a4,())
def zxM:Cfg E:=cf [(216,[YX])] [] [] [] [] []
def zfE:zC E:=sp zxM Go.Proofs.Tryz.f213 ⟨[.val (.named 10),vI,vI,vI],[]⟩ ⟨[vB],[]⟩ [.one (.named 10),oI,oI,oI] [oB]
def zfo (a1:zr) (a2:Int) (a3:Int) (a4:Int):Option (Bool×Unit):=zfE.F (a1,a2,a3,a4,())
def zul:Cfg E:=cf [(183,[vz]),(213,[zfE])] [] [] [] [] []
def zgm:zC E:=sp zul Go.Proofs.Tryz.f191 ⟨[.val (.named 10),vI,vI,vI],[]⟩ ⟨[.val (.named 10),vB],[]⟩ [.one (.named 10),oI,oI,oI] [.one (.named 10),oB]
def zgp (a1:zr) (a2:Int) (a3:Int) (a4:Int):Option (zr×Bool×Unit):=zgm.F (a1,a2,a3,a4,())
def zmd:Cfg E:=cf [(51,[zeV]),(88,[ze7]),(185,[uG]),(186,[Ya]),(189,[uv]),(191,[zgm])] [] [] [(0,some 0)] [] []
def Uj:zC E:=sp zmd Go.Proofs.Tryz.f136 ⟨[.ptr 0],[.box true (L 16)]⟩ ⟨[],[.box true (L 16)]⟩ [.str 16] [.str 16]
def zdt (a1:zA):Option (zA×Unit):=Uj.F (a1,())
def zs7:Cfg E:=cf [] [] [] [] [] []
def zfX:zC E:=sp zs7 Go.Proofs.Tryz.f215 ⟨[vI,.ptr 0],[.box false [vI]]⟩ ⟨[vI],[.gone]⟩ [oI,oI] [oI]
def zbJ (a1:Int) (a2:Int):Option (Int×Unit):=zfX.F (a1,a2,())
def zaj:Cfg E:=cf [(215,[zfX])] [] [] [] [] []
def vR:zC E:=sp zaj Go.Proofs.Tryz.f183 ⟨[.val (.named 10),vI,.fn 215 [.ptr 0]],[.box false [vI]]⟩ ⟨[.val (.named 10)],[.gone]⟩ [.one (.named 10),oI,oI] [.one (.named 10)]
def Yv (a1:zr) (a2:Int) (a3:Int):Option (zr×Unit):=vR.F (a1,a2,a3,())
def zvX:Cfg E:=cf [(182,[ZV]),(183,[vR])] [] [] [] [] []
def zi6:zC E:=sp zvX Go.Proofs.Tryz.f192 ⟨[.val (.named 10),vI,vI],[]⟩ ⟨[.val (.named 10),vI],[]⟩ [.one (.named 10),oI,oI] [.one (.named 10),oI]
def ziZ (a1:zr) (a2:Int) (a3:Int):Option (zr×Int×Unit):=zi6.F (a1,a2,a3,())
def zuw:Cfg E:=cf [(213,[zfE]),(216,[YX])] [] [] [] [] []
def zg1:zC E:=sp zuw Go.Proofs.Tryz.f193 ⟨[.val (.named 10),vI,vI,vI],[]⟩ ⟨[vI],[]⟩ [.one (.named 10),oI,oI,oI] [oI]
def zgz (a1:zr) (a2:Int) (a3:Int) (a4:Int):Option (Int×Unit):=zg1.F (a1,a2,a3,a4,())
def zmq:Cfg E:=cf [(39,[Xk]),(210,[VD])] [] [] [(0,some 0)] [] []
def Xt:zC E:=sp zmq Go.Proofs.Tryz.f194 ⟨[.ptr 0,vI,vI,vI],[.box true (L 16)]⟩ ⟨[],[.box true (L 16)]⟩ [oI,oI,oI,.str 16] [.str 16]
def Xp (a1:Int) (a2:Int) (a3:Int) (a4:zA):Option (zA×Unit):=Xt.F (a1,a2,a3,a4,())
def zms:Cfg E:=cf [(38,[Y6]),(192,[zi6]),(193,[zg1]),(194,[Xt])] [] [] [(0,some 0)] [] []
def zaf:zC E:=sp zms Go.Proofs.Tryz.f137 ⟨[.ptr 0],[.box true (L 16)]⟩ ⟨[],[.box true (L 16)]⟩ [.str 16] [.str 16]
def zer (a1:zA):Option (zA×Unit):=zaf.F (a1,())
def zn4:Cfg E:=cf [(166,[WP])] [] [] [(0,some 0)] [] []
def zaq:zC E:=sp zn4 Go.Proofs.Tryz.f138 ⟨[.ptr 0],[.box true (L 16)]⟩ ⟨[],[.box true (L 16)]⟩ [.str 16] [.str 16]
def zfO (a1:zA):Option (zA×Unit):=zaq.F (a1,())
def zl9:Cfg E:=cf [(40,[XA]),(170,[wX]),(194,[Xt])] [] [] [(0,some 0)] [] []
def Up:zC E:=sp zl9 Go.Proofs.Tryz.f139 ⟨[.ptr 0],[.box true (L 16)]⟩ ⟨[],[.box true (L 16)]⟩ [.str 16] [.str 16]
def zdu (a1:zA):Option (zA×Unit):=Up.F (a1,())
def zmo:Cfg E:=cf [(166,[WP])] [] [] [(0,some 0)] [] []
def zae:zC E:=sp zmo Go.Proofs.Tryz.f140 ⟨[.ptr 0],[.box true (L 16)]⟩ ⟨[],[.box true (L 16)]⟩ [.str 16] [.str 16]
def zec (a1:zA):Option (zA×Unit):=zae.F (a1,())
def zlJ:Cfg E:=cf [] [] [] [(0,some 0)] [] []
def Uk:zC E:=sp zlJ Go.Proofs.Tryz.f141 ⟨[.ptr 0],[.box true (L 16)]⟩ ⟨[],[.box true (L 16)]⟩ [.str 16] [.str 16]
def zdw (a1:zA):Option (zA×Unit):=Uk.F (a1,())
def zrE:Cfg E:=cf [] [] [] [] [] []
def zaS:zC E:=sp zrE Go.Proofs.Tryz.f195 ⟨[.ptr 0],[.box false (L 16)]⟩ ⟨[vI],[.gone]⟩ [.str 16] [oI]
def zaK (a1:zA):Option (Int×Unit):=zaS.F (a1,())
def zmu:Cfg E:=cf [(172,[zfm]),(173,[zbZ]),(195,[zaS])] [] [] [(0,some 0)] [] []
def UK:zC E:=sp zmu Go.Proofs.Tryz.f142 ⟨[.ptr 0],[.box true (L 16)]⟩ ⟨[],[.box true (L 16)]⟩ [.str 16] [.str 16]
def zei (a1:zA):Option (zA×Unit):=UK.F (a1,())
def znY:Cfg E:=cf [(187,[YB]),(195,[zaS])] [] [] [(0,some 0)] [] []
def zaH:zC E:=sp znY Go.Proofs.Tryz.f143 ⟨[.ptr 0],[.box true (L 16)]⟩ ⟨[],[.box true (L 16)]⟩ [.str 16] [.str 16]
def zfk (a1:zA):Option (zA×Unit):=zaH.F (a1,())
def zi1:Cfg E:=cf [(87,[za4]),(126,[zdF])] [] [] [(0,some 0)] [] []
def WW:zC E:=sp zi1 Go.Proofs.Tryz.f144 ⟨[.ptr 0],[.box true (L 16)]⟩ ⟨[],[.box true (L 16)]⟩ [.str 16] [.str 16]
def zbY (a1:zA):Option (zA×Unit):=WW.F (a1,())
def zja:Cfg E:=cf [] [] [] [(0,some 0)] [] []
def WQ:zC E:=sp zja Go.Proofs.Tryz.f145 ⟨[.ptr 0],[.box true (L 16)]⟩ ⟨[],[.box true (L 16)]⟩ [.str 16] [.str 16]
def zbV (a1:zA):Option (zA×Unit):=WQ.F (a1,())
def zmw:Cfg E:=cf [(127,[Un]),(128,[Ue]),(129,[zaE]),(130,[V8]),(131,[U6]),(132,[zaC]),(133,[Ul]),(134,[Wc]),(135,[Ud]),(136,[Uj]),(137,[zaf]),(138,[zaq]),(139,[Up]),(140,[zae]),(141,[Uk]),(142,[UK]),(143,[zaH]),(144,[WW]),(145,[WQ])] [] [] [(0,some 0)] [] []
def U4:zC E:=sp zmw Go.Proofs.Tryz.f84 ⟨[.ptr 0],[.box true (L 16)]⟩ ⟨[],[.box true (L 16)]⟩ [.str 16] [.str 16]
def UY (a1:zA):Option (zA×Unit):=U4.F (a1,())
def VV:Cfg E:=cf [] [] [] [] [] []
def vc:zC E:=sp VV Go.Proofs.Tryz.f85 ⟨[.val (.slice (.named 8))],[]⟩ ⟨[.own 0],[.row true (.named 8)]⟩ [.one (.slice (.named 8))] [.one (.slice (.named 8))]
def vd (a1:List ze):Option ((List ze)×Unit):=vc.F (a1,())
def zun:Cfg E:=cf [(84,[U4]),(85,[vc])] [] [] [] [] []
def zgy:zC E:=sp zun Go.Proofs.Tryz.f44 ⟨[.val (.named 12),vI],[]⟩ ⟨[.val (.named 12)],[]⟩ [.one (.named 12),oI] [.one (.named 12)]
def zg6 (a1:za) (a2:Int):Option (za×Unit):=zgy.F (a1,a2,())
def zu4:Cfg E:=cf [(41,[zfa]),(43,[zjr]),(44,[zgy]),(45,[zfs])] [] [] [] [] []
def zdC:zC E:=sp zu4 Go.Proofs.Tryz.f8 ⟨[.val (.named 12),.val (.named 1)],[]⟩ ⟨[.val (.named 12)],[]⟩ [.one (.named 12),.one (.named 1)] [.one (.named 12)]
def zdG (a1:za) (a2:zj):Option (za×Unit):=zdC.F (a1,a2,())
def znr:zP E:=lo [1,2,4,8,9,10] ⟨[.val (.slice (.named 1)),.ptr 0,.ptr 1,.val (.slice (.named 1)),vI,vI],[.box true (L 12),.box true (L 0++L 0++[vI,.own 2,vU,.own 3,.own 4,.own 5,vI,.own 6,.own 7,.own 8,vU,vU,vI,vI,vB,vB,vI,.own 9,vI,vI,vI,.own 10,.own 11,.own 12,vI,vI]),.row true (.slice (.int .i64)),.row true (.slice (.int .i64)),.row true (.slice (.named 0)),.row true (.named 1),.row true (.slice (.int .i64)),.row true (.int .u64),.row true (.slice (.int .i64)),.row true (.int .i64),.row true (.int .i64),.row true (.named 7),.row true (.named 8)]⟩ 0 [1,2,4] ⟨[.val (.slice (.named 1)),.ptr 0,.ptr 1],[.box true (L 12),.box true (L 0++L 0++[vI,.own 2,vU,.own 3,.own 4,.own 5,vI,.own 6,.own 7,.own 8,vU,vU,vI,vI,vB,vB,vI,.own 9,vI,vI,vI,.own 10,.own 11,.own 12,vI,vI]),.row true (.slice (.int .i64)),.row true (.slice (.int .i64)),.row true (.slice (.named 0)),.row true (.named 1),.row true (.slice (.int .i64)),.row true (.int .u64),.row true (.slice (.int .i64)),.row true (.int .i64),.row true (.int .i64),.row true (.named 7),.row true (.named 8)]⟩ [4,5] ⟨[.ptr 0,vI],[.box true (L 12)]⟩ [.one (.slice (.named 1)),.one (.slice (.named 1)),oI,oI,.str 12,oI,oI,oI,oI,oI,oI,oI,oI,oI,oU,oI,.str 9,oI,oI,oB,oB,oI,oI,oI,oI,.str 11,.one (.slice (.slice (.int .i64))),.one (.slice (.slice (.int .i64))),.one (.slice (.slice (.named 0))),.one (.slice (.named 1)),.one (.slice (.slice (.int .i64))),oM,.one (.slice (.slice (.int .i64))),oL,oL,.one (.slice (.named 7)),.one (.slice (.named 8))] [.one (.slice (.named 1)),.str 12,oI,oI,oI,oI,oI,oI,oI,oI,oI,oU,oI,.str 9,oI,oI,oB,oB,oI,oI,oI,oI,.str 11,.one (.slice (.slice (.int .i64))),.one (.slice (.slice (.int .i64))),.one (.slice (.slice (.named 0))),.one (.slice (.named 1)),.one (.slice (.slice (.int .i64))),oM,.one (.slice (.slice (.int .i64))),oL,oL,.one (.slice (.named 7)),.one (.slice (.named 8))] [oI,.str 12]
def zgD:Cfg E:=cf [(8,[zdC])] [(2,znr)] [] [] [] []
def zlm:zC E:=sp zgD Go.Proofs.Tryz.f13 ⟨[.val (.named 12),.val (.slice (.named 1))],[]⟩ ⟨[.val (.named 12),vI],[]⟩ [.one (.named 12),.one (.slice (.named 1))] [.one (.named 12),oI]
def WJ (a1:za) (a2:List zj):Option (za×Int×Unit):=zlm.F (a1,a2,())
def zfS (x:(List zj)×(List zj)×Int×Int×za×Int×Int×Int×Int×Int×Int×Int×Int×Int×(BitVec 64)×Int×zm×Int×Int×Bool×Bool×Int×Int×Int×Int×zE×(List (List Int))×(List (List Int))×(List (List zw))×(List zj)×(List (List Int))×(List (BitVec 64))×(List (List Int))×(List Int)×(List Int)×(List zk)×(List ze)×Unit):Option (yD ((List zj)×(List zj)×Int×Int×za×Int×Int×Int×Int×Int×Int×Int×Int×Int×(BitVec 64)×Int×zm×Int×Int×Bool×Bool×Int×Int×Int×Int×zE×(List (List Int))×(List (List Int))×(List (List zw))×(List zj)×(List (List Int))×(List (BitVec 64))×(List (List Int))×(List Int)×(List Int)×(List zk)×(List ze)×Unit) ((List zj)×za×Int×Int×Int×Int×Int×Int×Int×Int×Int×(BitVec 64)×Int×zm×Int×Int×Bool×Bool×Int×Int×Int×Int×zE×(List (List Int))×(List (List Int))×(List (List zw))×(List zj)×(List (List Int))×(List (BitVec 64))×(List (List Int))×(List Int)×(List Int)×(List zk)×(List ze)×Unit) (Int×za×Unit)):=z9 zgD (exec zgD (yz Go.Proofs.Tryz.f13 2)) 26 znr x
def zjD:zP E:=lo [2,3,6,15] ⟨[.ptr 0,.ptr 1,.ptr 2,vI],[.box true [vU,vU],.box true [vU,vU],.box true [.nilfn,.fn 86 [],.fn 87 [],.fn 88 []]]⟩ 0 [] ⟨[],[]⟩ [4,5] ⟨[vI,vI],[]⟩ [oI,.str 9,.str 9] [] [oI,oI]
def zjB:zP E:=lo [2,3,6,7,8,15] ⟨[.ptr 0,.ptr 1,.ptr 2,vI,vI,vI],[.box true [vU,vU],.box true [vU,vU],.box true [.nilfn,.fn 86 [],.fn 87 [],.fn 88 []]]⟩ 2 [2,3,6,15] ⟨[.ptr 0,.ptr 1,.ptr 2,vI],[.box true [vU,vU],.box true [vU,vU],.box true [.nilfn,.fn 86 [],.fn 87 [],.fn 88 []]]⟩ [4,5] ⟨[vI,vI],[]⟩ [oI,oI,oI,.str 9,.str 9] [oI,.str 9,.str 9] [oI,oI]
def WE:Cfg E:=cf [(86,[zb6]),(87,[za4]),(88,[ze7])] [(5,zjD),(8,zjB)] [] [] [] []
def zhk:zC E:=sp WE Go.Proofs.Tryz.f49 ⟨[.val (.named 9),.val (.named 9)],[]⟩ ⟨[vI,vI],[]⟩ [.one (.named 9),.one (.named 9)] [oI,oI]
def zhh (a1:zm) (a2:zm):Option (Int×Int×Unit):=zhk.F (a1,a2,())
def zc0 (x:Int×zm×zm×Unit):Option (yD (Int×zm×zm×Unit) (Unit) (Int×Int×Unit)):=z9 WE (exec WE (yz Go.Proofs.Tryz.f49 5)) 42 zjD x
def ud (x:Int×Int×Int×zm×zm×Unit):Option (yD (Int×Int×Int×zm×zm×Unit) (Int×zm×zm×Unit) (Int×Int×Unit)):=z9 WE (exec WE (yz Go.Proofs.Tryz.f49 8)) 42 zjB x
def zaU:zP E:=lo [0,1,12,13] ⟨[vL,vL,vI,vI],[]⟩ 0 [] ⟨[],[]⟩ [4] ⟨[vB],[]⟩ [oL,oL,oI,oI] [] [oB]
def We:Cfg E:=cf [] [(4,zaU)] [] [] [] []
def Vx:zC E:=sp We Go.Proofs.Tryz.f90 ⟨[vL,vL],[]⟩ ⟨[vB],[]⟩ [oL,oL] [oB]
def Vr (a1:List Int) (a2:List Int):Option (Bool×Unit):=Vx.F (a1,a2,())
def XH (x:(List Int)×(List Int)×Int×Int×Unit):Option (yD ((List Int)×(List Int)×Int×Int×Unit) (Unit) (Bool×Unit)):=z9 We (exec We (yz Go.Proofs.Tryz.f90 4)) 26 zaU x
def xV:zP E:=lo [1,2,15,16,17] ⟨[.val (.slice (.slice (.int .i64))),.fn 90 [],.val (.slice (.slice (.int .i64))),vI,vI],[]⟩ 0 [] ⟨[],[]⟩ [6] ⟨[vB],[]⟩ [.one (.slice (.slice (.int .i64))),.one (.slice (.slice (.int .i64))),oI,oI] [] [oB]
def yS:Cfg E:=cf [(90,[Vx])] [(4,xV)] [] [] [] []
def yW:zC E:=sp yS Go.Proofs.Tryz.f89 ⟨[.val (.slice (.slice (.int .i64))),.val (.slice (.slice (.int .i64))),.fn 90 []],[]⟩ ⟨[vB],[]⟩ [.one (.slice (.slice (.int .i64))),.one (.slice (.slice (.int .i64)))] [oB]
def yY (a1:List (List Int)) (a2:List (List Int)):Option (Bool×Unit):=yW.F (a1,a2,())
def yO (x:(List (List Int))×(List (List Int))×Int×Int×Unit):Option (yD ((List (List Int))×(List (List Int))×Int×Int×Unit) (Unit) (Bool×Unit)):=z9 yS (exec yS (yz Go.Proofs.Tryz.f89 4)) 32 xV x
def zzi:Cfg E:=cf [(89,[yW])] [] [] [] [] []
def zn5:zC E:=sp zzi Go.Proofs.Tryz.f50 ⟨[.val (.named 2),.val (.named 2)],[]⟩ ⟨[vB],[]⟩ [.one (.named 2),.one (.named 2)] [oB]
def zhu (a1:zq) (a2:zq):Option (Bool×Unit):=zn5.F (a1,a2,())
def zkV:zP E:=lo [3,5,6,26,27,28] ⟨[.ptr 0,vI,vI,.val (.slice (.slice (.int .i64))),vI,vI],[.box true [vI,.val (.slice (.slice (.int .i64)))]]⟩ 0 [5,6] ⟨[vI,vI],[]⟩ [4] ⟨[vI],[]⟩ [oI,oI,.one (.slice (.slice (.int .i64))),oI,oI,.str 2] [oI,oI] [oI]
def zjI:zP E:=lo [3,5,6,7,26,27,28,42,43,44] ⟨[.ptr 0,vI,vI,vI,.val (.slice (.slice (.int .i64))),vI,vI,vL,vI,vI],[.box true [vI,.val (.slice (.slice (.int .i64)))]]⟩ 2 [3,5,6,26,27,28] ⟨[.ptr 0,vI,vI,.val (.slice (.slice (.int .i64))),vI,vI],[.box true [vI,.val (.slice (.slice (.int .i64)))]]⟩ [] ⟨[],[]⟩ [oI,oI,oI,.one (.slice (.slice (.int .i64))),oI,oI,oL,oI,oI,.str 2] [oI,oI,.one (.slice (.slice (.int .i64))),oI,oI,.str 2] []
def VJ:Cfg E:=cf [] [(5,zkV),(10,zjI)] [] [] [] []
def ziV:zC E:=sp VJ Go.Proofs.Tryz.f52 ⟨[.val (.named 2),.val (.named 2)],[]⟩ ⟨[vI],[]⟩ [.one (.named 2),.one (.named 2)] [oI]
def VC (a1:zq) (a2:zq):Option (Int×Unit):=ziV.F (a1,a2,())
def zdS (x:Int×Int×(List (List Int))×Int×Int×zq×Unit):Option (yD (Int×Int×(List (List Int))×Int×Int×zq×Unit) (Int×Int×Unit) (Int×Unit)):=z9 VJ (exec VJ (yz Go.Proofs.Tryz.f52 5)) 68 zkV x
def Uv (x:Int×Int×Int×(List (List Int))×Int×Int×(List Int)×Int×Int×zq×Unit):Option (yD (Int×Int×Int×(List (List Int))×Int×Int×(List Int)×Int×Int×zq×Unit) (Int×Int×(List (List Int))×Int×Int×zq×Unit) (Unit)):=z9 VJ (exec VJ (yz Go.Proofs.Tryz.f52 10)) 68 zjI x
def zzT:Cfg E:=cf [(49,[zhk]),(50,[zn5]),(51,[zeV]),(52,[ziV])] [] [] [] [] []
def zkd:zC E:=sp zzT Go.Proofs.Tryz.f14 ⟨[.val (.named 12),.val (.named 12)],[]⟩ ⟨[vI,vI],[]⟩ [.one (.named 12),.one (.named 12)] [oI,oI]
def zaA (a1:za) (a2:za):Option (Int×Int×Unit):=zkd.F (a1,a2,())
def zxN:Cfg E:=cf [] [] [] [] [] []
def zb1:zC E:=sp zxN Go.Proofs.Tryz.f57 ⟨[.val (.named 9)],[]⟩ ⟨[vU],[]⟩ [.one (.named 9)] [oU]
def zfD (a1:zm):Option ((BitVec 64)×Unit):=zb1.F (a1,())
def zBG:Cfg E:=cf [(11,[za9]),(76,[zgN])] [] [] [] [] []
def zpx:zC E:=sp zBG Go.Proofs.Tryz.f58 ⟨[vL],[]⟩ ⟨[vU,vB],[]⟩ [oL] [oU,oB]
def zpA (a1:List Int):Option ((BitVec 64)×Bool×Unit):=zpx.F (a1,())
def zA4:Cfg E:=cf [] [] [] [] [] []
def zqc:zC E:=sp zA4 Go.Proofs.Tryz.f97 ⟨[.val (.named 12)],[]⟩ ⟨[.fn 150 [.ptr 0]],[.box true (L 12)]⟩ [.one (.named 12)] [.str 12]
def zu3 (a1:za):Option (za×Unit):=zqc.F (a1,())
def VH:zP E:=lo [0,3,9,10,11] ⟨[.val (.slice (.slice (.int .i64))),vI,.val (.slice (.slice (.int .i64))),vI,vI],[]⟩ 0 [0,3] ⟨[.val (.slice (.slice (.int .i64))),vI],[]⟩ [] ⟨[],[]⟩ [.one (.slice (.slice (.int .i64))),oI,.one (.slice (.slice (.int .i64))),oI,oI] [.one (.slice (.slice (.int .i64))),oI] []
def Vg:zP E:=lo [6,25,26,27] ⟨[.own 0,.val (.slice (.slice (.int .i64))),vI,vI],[.row true (.int .i64)]⟩ 2 [6] ⟨[.own 0],[.row true (.int .i64)]⟩ [] ⟨[],[]⟩ [.one (.slice (.slice (.int .i64))),oI,oI,oL] [oL] []
def wZ:Cfg E:=cf [(204,[zEk])] [(3,VH),(11,Vg)] [] [] [] []
def Xe:zC E:=sp wZ Go.Proofs.Tryz.f155 ⟨[.val (.slice (.slice (.int .i64)))],[]⟩ ⟨[.own 0],[.row true (.int .i64)]⟩ [.one (.slice (.slice (.int .i64)))] [oL]
def Xd (a1:List (List Int)):Option ((List Int)×Unit):=Xe.F (a1,())
def xO (x:(List (List Int))×Int×(List (List Int))×Int×Int×Unit):Option (yD ((List (List Int))×Int×(List (List Int))×Int×Int×Unit) ((List (List Int))×Int×Unit) (Unit)):=z9 wZ (exec wZ (yz Go.Proofs.Tryz.f155 3)) 36 VH x
def xK (x:(List (List Int))×Int×Int×(List Int)×Unit):Option (yD ((List (List Int))×Int×Int×(List Int)×Unit) ((List Int)×Unit) (Unit)):=z9 wZ (exec wZ (yz Go.Proofs.Tryz.f155 11)) 36 Vg x
def zB9:Cfg E:=cf [(154,[zsm]),(155,[Xe])] [] [] [] [] []
def zqW:zC E:=sp zB9 Go.Proofs.Tryz.f98 ⟨[vL,vL],[]⟩ ⟨[.own 0],[.row true (.int .i64)]⟩ [oL,oL] [oL]
def zrI (a1:List Int) (a2:List Int):Option ((List Int)×Unit):=zqW.F (a1,a2,())
def znk:zP E:=lo [0,2,3,9,10] ⟨[vM,vI,vI,.own 0,vI],[.row true (.int .i64)]⟩ 0 [9] ⟨[.own 0],[.row true (.int .i64)]⟩ [] ⟨[],[]⟩ [oM,oI,oI,oI,oL] [oL] []
def zgV:Cfg E:=cf [(217,[WT]),(218,[zce])] [(3,znk)] [] [] [] []
def zlt:zC E:=sp zgV Go.Proofs.Tryz.f196 ⟨[vM,vI,vI,vI],[]⟩ ⟨[.own 0],[.row true (.int .i64)]⟩ [oM,oI,oI,oI] [oL]
def zk8 (a1:List (BitVec 64)) (a2:Int) (a3:Int) (a4:Int):Option ((List Int)×Unit):=zlt.F (a1,a2,a3,a4,())
def ze8 (x:(List (BitVec 64))×Int×Int×Int×(List Int)×Unit):Option (yD ((List (BitVec 64))×Int×Int×Int×(List Int)×Unit) ((List Int)×Unit) (Unit)):=z9 zgV (exec zgV (yz Go.Proofs.Tryz.f196 3)) 35 znk x
def zAk:Cfg E:=cf [(154,[zsm])] [] [] [] [] []
def zfF:zC E:=sp zAk Go.Proofs.Tryz.f197 ⟨[vL],[]⟩ ⟨[.own 0],[.row true (.int .i64)]⟩ [oL] [oL]
def yL (a1:List Int):Option ((List Int)×Unit):=zfF.F (a1,())
def zna:zP E:=lo [1,3,17,18,19] ⟨[.ptr 0,.own 1,.own 2,vI,vI],[.box true (L 12),.row true (.int .i64),.row true (.int .i64)]⟩ 0 [3] ⟨[.own 0],[.row true (.int .i64)]⟩ [] ⟨[],[]⟩ [oI,oI,.str 12,oL,oL] [oL] []
def zgK:Cfg E:=cf [(38,[Y6]),(39,[Xk]),(196,[zlt]),(197,[zfF])] [(3,zna)] [] [] [] []
def zlk:zC E:=sp zgK Go.Proofs.Tryz.f151 ⟨[.val (.named 12)],[]⟩ ⟨[.own 0],[.row true (.int .i64)]⟩ [.one (.named 12)] [oL]
def zb8 (a1:za):Option ((List Int)×Unit):=zlk.F (a1,())
def VS (x:Int×Int×za×(List Int)×(List Int)×Unit):Option (yD (Int×Int×za×(List Int)×(List Int)×Unit) ((List Int)×Unit) (Unit)):=z9 zgK (exec zgK (yz Go.Proofs.Tryz.f151 3)) 38 zna x
def zwg:Cfg E:=cf [(33,[Xz]),(117,[zau])] [] [] [] [] []
def zji:zC E:=sp zwg Go.Proofs.Tryz.f198 ⟨[.val (.named 12),vI,.val (.named 4)],[]⟩ ⟨[.own 0],[.row true (.int .i64)]⟩ [.one (.named 12),oI,.one (.named 4)] [oL]
def ziY (a1:za) (a2:Int) (a3:zg):Option ((List Int)×Unit):=zji.F (a1,a2,a3,())
def zB8:Cfg E:=cf [] [] [] [] [] []
def zh0:zC E:=sp zB8 Go.Proofs.Tryz.f149 ⟨[.val (.named 6),vI,vI,vI],[]⟩ ⟨[vI],[]⟩ [.one (.named 6),oI,oI,oI] [oI]
def zny (a1:zB) (a2:Int) (a3:Int) (a4:Int):Option (Int×Unit):=zh0.F (a1,a2,a3,a4,())
def zxn:Cfg E:=cf [(149,[zh0])] [] [] [] [] []
def zeU:zC E:=sp zxn Go.Proofs.Tryz.f200 ⟨[.val (.named 6)],[]⟩ ⟨[vI],[]⟩ [.one (.named 6)] [oI]
def Zq (a1:zB):Option (Int×Unit):=zeU.F (a1,())
def zjG:zP E:=lo [0,9,11,12,13] ⟨[vM,.ptr 0,vU,.own 1,vU],[.box true (L 4),.row true (.int .i64)]⟩ 1 [12] ⟨[.own 0],[.row true (.int .i64)]⟩ [] ⟨[],[]⟩ [oM,oU,oU,.str 4,oL] [oL] []
def ze2:Cfg E:=cf [(221,[Zu]),(222,[uh]),(223,[xJ]),(224,[zaW]),(225,[Yg]),(226,[ut])] [(16,zjG)] [] [] [] []
def zjl:zC E:=sp ze2 Go.Proofs.Tryz.f201 ⟨[vM,vI,vI,.val (.named 4)],[]⟩ ⟨[.own 0],[.row true (.int .i64)]⟩ [oM,oI,oI,.one (.named 4)] [oL]
def wi (a1:List (BitVec 64)) (a2:Int) (a3:Int) (a4:zg):Option ((List Int)×Unit):=zjl.F (a1,a2,a3,a4,())
def ym (x:(List (BitVec 64))×(BitVec 64)×(BitVec 64)×zg×(List Int)×Unit):Option (yD ((List (BitVec 64))×(BitVec 64)×(BitVec 64)×zg×(List Int)×Unit) ((List Int)×Unit) (Unit)):=z9 ze2 (exec ze2 (yz Go.Proofs.Tryz.f201 16)) 76 zjG x
def zuS:Cfg E:=cf [(30,[xk]),(33,[Xz]),(197,[zfF]),(198,[zji]),(199,[zzv]),(200,[zeU]),(201,[zjl])] [] [] [] [] []
def zjq:zC E:=sp zuS Go.Proofs.Tryz.f152 ⟨[.val (.named 12),vI],[]⟩ ⟨[.own 0],[.row true (.int .i64)]⟩ [.one (.named 12),oI] [oL]
def zdJ (a1:za) (a2:Int):Option ((List Int)×Unit):=zjq.F (a1,a2,())
def zw5:Cfg E:=cf [] [] [] [] [] []
def zfy:zC E:=sp zw5 Go.Proofs.Tryz.f148 ⟨[.val (.named 8)],[]⟩ ⟨[vB],[]⟩ [.one (.named 8)] [oB]
def uH (a1:ze):Option (Bool×Unit):=zfy.F (a1,())
def zt7:Cfg E:=cf [(30,[xk]),(148,[zfy]),(197,[zfF]),(199,[zzv]),(200,[zeU])] [] [] [] [] []
def zgG:zC E:=sp zt7 Go.Proofs.Tryz.f153 ⟨[.val (.named 12),vI],[]⟩ ⟨[.own 0],[.row true (.int .i64)]⟩ [.one (.named 12),oI] [oL]
def zcu (a1:za) (a2:Int):Option ((List Int)×Unit):=zgG.F (a1,a2,())
def zxI (s:za):Nat->Int->Option (List (List Int))
 | 0,_=>some []
 | n+1,i=>(zdJ s (i+1)).bind fun a=>(zxI s n (i+1)).bind fun l=>some (a.1::l)
def zw1 (s:za):Nat->Int->Option (List (List Int))
 | 0,_=>some []
 | n+1,i=>(zcu s (i+1)).bind fun a=>(zw1 s n (i+1)).bind fun l=>some (a.1::l)
def zvC (s:za):Option (List (List Int)):=bif decide (s.Ws.length<1000000)&&decide (s.Ms.length<1000000) then (zb8 s).bind fun a=>(zxI s s.Ws.length 0).bind fun b=>(zw1 s s.Ms.length 0).bind fun c=>some (a.1::(b++c)) else none
def zJs (x:HL E.T (lvs 12)):Option (List (List Int)):=zvC (E.pack 12 x)
def zne:zP E:=lo [0,1,12,13] ⟨[.yld,.ptr 0,vI,vI],[.box true (L 12)]⟩ 0 [0,1] ⟨[.yld,.ptr 0],[.box true (L 12)]⟩ [0] ⟨[.yld],[]⟩ [oI,oI,oI,oI,.str 12] [oI,oI,.str 12] [oI,oI]
def znl:zP E:=lo [0,1,26,27] ⟨[.yld,.ptr 0,vI,vI],[.box true (L 12)]⟩ 2 [0] ⟨[.yld],[]⟩ [0] ⟨[.yld],[]⟩ [oI,oI,oI,oI,.str 12] [oI,oI] [oI,oI]
def zws:Cfg E:=cf [(151,[zlk]),(152,[zjq]),(153,[zgG])] [(2,zne),(7,znl)] [] [] [] []
def YN (ys:List (List Int)):Cfg E:={zws with yl:=true,ye:=(.slice (.int .i64)),yd:=ys}
def zcr:xS:=⟨[.ptr 0],[.box true (L 12)]⟩
def zbR:ZG E:={inn:=zcr,e:=(.slice (.int .i64)),F:=fun x=>zJs x}
def zr6 (a1:Int) (a2:Int) (a3:Int) (a4:Int) (a5:Int) (a6:Int) (a7:Int) (a8:Int) (a9:Int) (a10:List (List Int)) (a11:BitVec 64) (a12:List (List Int)) (a13:List (List zw)) (a14:List zj) (a15:Int) (a16:List (List Int)) (a17:List (BitVec 64)) (a18:List (List Int)) (a19:BitVec 64) (a20:BitVec 64) (a21:Int) (a22:Int) (a23:Bool) (a24:Bool) (a25:Int) (a26:List Int) (a27:Int) (a28:Int) (a29:Int) (a30:List Int) (a31:List zk) (a32:List ze) (a33:Int) (a34:Int):Option (List (List Int)):=zbR.F (a1,a2,a3,a4,a5,a6,a7,a8,a9,a10,a11,a12,a13,a14,a15,a16,a17,a18,a19,a20,a21,a22,a23,a24,a25,a26,a27,a28,a29,a30,a31,a32,a33,a34,())
def VM (ys:List (List Int)) (x:Int×Int×Int×Int×za×Unit):Option (yD (Int×Int×Int×Int×za×Unit) (Int×Int×za×Unit) (Int×Int×Unit)):=z9 (YN ys) (exec (YN ys) (yz Go.Proofs.Tryz.f150 2)) 38 zne x
def zbA (ys:List (List Int)) (x:Int×Int×Int×Int×za×Unit):Option (yD (Int×Int×Int×Int×za×Unit) (Int×Int×Unit) (Int×Int×Unit)):=z9 (YN ys) (exec (YN ys) (yz Go.Proofs.Tryz.f150 7)) 38 znl x
def zo9:zP E:=lo [3] ⟨[.ptr 0],[.box true [.own 1],.row true (.int .i64)]⟩ 0 [] ⟨[],[]⟩ [] ⟨[],[]⟩ [oL] [] []
def zdK:Cfg E:=cf [(97,[zqc]),(98,[zqW])] [(3,zo9)] [] [] [] [(150,zbR)]
def zdg:zC E:=sp zdK Go.Proofs.Tryz.f59 ⟨[.val (.named 12)],[]⟩ ⟨[.own 0],[.row true (.int .i64)]⟩ [.one (.named 12)] [oL]
def zds (a1:za):Option ((List Int)×Unit):=zdg.F (a1,())
def zco (y:List Int) (x:(List Int)×Unit):Option ((List Int)×Unit):=zkU zdK (exec zdK (zGq Go.Proofs.Tryz.f59 3)) (exec zdK (zzR Go.Proofs.Tryz.f59 3)) 12 zo9 7 (.slice (.int .i64)) y x
def zyY:Cfg E:=cf [(57,[zb1]),(58,[zpx]),(59,[zdg])] [] [] [] [] []
def zhG:zC E:=sp zyY Go.Proofs.Tryz.f17 ⟨[.val (.named 12)],[]⟩ ⟨[vB],[]⟩ [.one (.named 12)] [oB]
def zbc (a1:za):Option (Bool×Unit):=zhG.F (a1,())
def ziy:zP E:=lo [1,3,9,10,11] ⟨[.ptr 0,.own 1,.val (.slice (.named 7)),vI,vI],[.box true (L 12),.row true (.named 6)]⟩ 0 [1,3] ⟨[.ptr 0,.own 1],[.box true (L 12),.row true (.named 6)]⟩ [] ⟨[],[]⟩ [.one (.slice (.named 7)),oI,oI,.str 12,.one (.slice (.named 6))] [.str 12,.one (.slice (.named 6))] []
def ziL:zP E:=lo [3,25,26,27] ⟨[.own 0,.val (.slice (.named 8)),vI,vI],[.row true (.named 6)]⟩ 2 [3] ⟨[.own 0],[.row true (.named 6)]⟩ [] ⟨[],[]⟩ [.one (.slice (.named 8)),oI,oI,.one (.slice (.named 6))] [.one (.slice (.named 6))] []
def XX:Cfg E:=cf [(148,[zfy])] [(3,ziy),(9,ziL)] [] [] [] []
def zbH:zC E:=sp XX Go.Proofs.Tryz.f95 ⟨[.val (.named 12)],[]⟩ ⟨[.own 0],[.row true (.named 6)]⟩ [.one (.named 12)] [.one (.slice (.named 6))]
def zbq (a1:za):Option ((List zB)×Unit):=zbH.F (a1,())
def Y1 (x:(List zk)×Int×Int×za×(List zB)×Unit):Option (yD ((List zk)×Int×Int×za×(List zB)×Unit) (za×(List zB)×Unit) (Unit)):=z9 XX (exec XX (yz Go.Proofs.Tryz.f95 3)) 40 ziy x
def Y9 (x:(List ze)×Int×Int×(List zB)×Unit):Option (yD ((List ze)×Int×Int×(List zB)×Unit) ((List zB)×Unit) (Unit)):=z9 XX (exec XX (yz Go.Proofs.Tryz.f95 9)) 40 ziL x
def zyT:Cfg E:=cf [(149,[zh0])] [] [] [] [] []
def znT:zC E:=sp zyT Go.Proofs.Tryz.f99 ⟨[.val (.named 6)],[]⟩ ⟨[vI],[]⟩ [.one (.named 6)] [oI]
def zn0 (a1:zB):Option (Int×Unit):=znT.F (a1,())
def zov:zP E:=lo [1,3,11,12,13] ⟨[.ptr 0,vI,.own 1,vI,vI],[.box true (L 12),.row true (.named 6)]⟩ 0 [1,3] ⟨[.ptr 0,vI],[.box true (L 12)]⟩ [] ⟨[],[]⟩ [oI,oI,oI,.str 12,.one (.slice (.named 6))] [oI,.str 12] []
def zoB:zP E:=lo [1,3,23,24,25] ⟨[.ptr 0,vI,.val (.slice (.named 7)),vI,vI],[.box true (L 12)]⟩ 2 [1,3] ⟨[.ptr 0,vI],[.box true (L 12)]⟩ [] ⟨[],[]⟩ [oI,.one (.slice (.named 7)),oI,oI,.str 12] [oI,.str 12] []
def zmW:zP E:=lo [3,36,37,38] ⟨[vI,.val (.slice (.named 8)),vI,vI],[]⟩ 4 [3] ⟨[vI],[]⟩ [] ⟨[],[]⟩ [oI,.one (.slice (.named 8)),oI,oI] [oI] []
def XF:Cfg E:=cf [(95,[zbH]),(99,[znT])] [(3,zov),(8,zoB),(14,zmW)] [] [] [] []
def zoo:zC E:=sp XF Go.Proofs.Tryz.f60 ⟨[.val (.named 12)],[]⟩ ⟨[vI],[]⟩ [.one (.named 12)] [oI]
def zn7 (a1:za):Option (Int×Unit):=zoo.F (a1,())
def UR (x:Int×Int×Int×za×(List zB)×Unit):Option (yD (Int×Int×Int×za×(List zB)×Unit) (Int×za×Unit) (Unit)):=z9 XF (exec XF (yz Go.Proofs.Tryz.f60 3)) 49 zov x
def UG (x:Int×(List zk)×Int×Int×za×Unit):Option (yD (Int×(List zk)×Int×Int×za×Unit) (Int×za×Unit) (Unit)):=z9 XF (exec XF (yz Go.Proofs.Tryz.f60 8)) 49 zoB x
def VI (x:Int×(List ze)×Int×Int×Unit):Option (yD (Int×(List ze)×Int×Int×Unit) (Int×Unit) (Unit)):=z9 XF (exec XF (yz Go.Proofs.Tryz.f60 14)) 49 zmW x
def zwo:Cfg E:=cf [(59,[zdg]),(60,[zoo])] [] [] [] [] []
def zdM:zC E:=sp zwo Go.Proofs.Tryz.f18 ⟨[.val (.named 12)],[]⟩ ⟨[vB],[]⟩ [.one (.named 12)] [oB]
def VB (a1:za):Option (Bool×Unit):=zdM.F (a1,())
def zzc:Cfg E:=cf [(149,[zh0])] [] [] [] [] []
def znP:zC E:=sp zzc Go.Proofs.Tryz.f96 ⟨[.val (.named 6)],[]⟩ ⟨[vI],[]⟩ [.one (.named 6)] [oI]
def zn3 (a1:zB):Option (Int×Unit):=znP.F (a1,())
def zjE:zP E:=lo [1,3,9,10,11] ⟨[.ptr 0,vU,.own 1,vI,vI],[.box true (L 12),.row true (.named 6)]⟩ 0 [1,3] ⟨[.ptr 0,vU],[.box true (L 12)]⟩ [] ⟨[],[]⟩ [oU,oI,oI,.str 12,.one (.slice (.named 6))] [oU,.str 12] []
def zjP:zP E:=lo [3,21,22,23] ⟨[vU,.val (.slice (.named 8)),vI,vI],[]⟩ 2 [3] ⟨[vU],[]⟩ [] ⟨[],[]⟩ [oU,.one (.slice (.named 8)),oI,oI] [oU] []
def WL:Cfg E:=cf [(24,[zam]),(76,[zgN]),(95,[zbH]),(96,[znP])] [(3,zjE),(8,zjP)] [] [] [] []
def U3:zC E:=sp WL Go.Proofs.Tryz.f56 ⟨[.val (.named 12)],[]⟩ ⟨[vU],[]⟩ [.one (.named 12)] [oU]
def UQ (a1:za):Option ((BitVec 64)×Unit):=U3.F (a1,())
def XV (x:(BitVec 64)×Int×Int×za×(List zB)×Unit):Option (yD ((BitVec 64)×Int×Int×za×(List zB)×Unit) ((BitVec 64)×za×Unit) (Unit)):=z9 WL (exec WL (yz Go.Proofs.Tryz.f56 3)) 61 zjE x
def XN (x:(BitVec 64)×(List ze)×Int×Int×Unit):Option (yD ((BitVec 64)×(List ze)×Int×Int×Unit) ((BitVec 64)×Unit) (Unit)):=z9 WL (exec WL (yz Go.Proofs.Tryz.f56 8)) 61 zjP x
def zgh:zP E:=lo [3,6,7] ⟨[vU,.val (.arr 64 (.int .i64)),vI],[]⟩ 0 [3] ⟨[vU],[]⟩ [] ⟨[],[]⟩ [oU,.one (.arr 64 (.int .i64)),oI] [oU] []
def zck:Cfg E:=cf [(24,[zam])] [(3,zgh)] [] [] [] []
def zd4:zC E:=sp zck Go.Proofs.Tryz.f100 ⟨[.val (.arr 64 (.int .i64))],[]⟩ ⟨[vU],[]⟩ [.one (.arr 64 (.int .i64))] [oU]
def zdQ (a1:List Int):Option ((BitVec 64)×Unit):=zd4.F (a1,())
def zbl (x:(BitVec 64)×(List Int)×Int×Unit):Option (yD ((BitVec 64)×(List Int)×Int×Unit) ((BitVec 64)×Unit) (Unit)):=z9 zck (exec zck (yz Go.Proofs.Tryz.f100 3)) 19 zgh x
def zt5:Cfg E:=cf [] [] [] [] [] []
def zgW:zC E:=sp zt5 Go.Proofs.Tryz.f102 ⟨[vI],[]⟩ ⟨[vB],[]⟩ [oI] [oB]
def zo7 (a1:Int):Option (Bool×Unit):=zgW.F (a1,())
def Ve:zP E:=lo [2,3,6,7,8,9,23,24,25] ⟨[.fn 102 [],.ptr 0,.aptr (.int .i64) 1,.aptr (.int .i64) 2,vU,.own 3,.own 3,vI,vI],[.box true [vI,.val (.slice (.slice (.int .i64)))],.row true (.int .i64),.row true (.int .i64),.row true (.int .i64)]⟩ 0 [2,3,6,7,8,9] ⟨[.fn 102 [],.ptr 0,.aptr (.int .i64) 1,.aptr (.int .i64) 2,vU,.own 3],[.box true [vI,.val (.slice (.slice (.int .i64)))],.row true (.int .i64),.row true (.int .i64),.row true (.int .i64)]⟩ [] ⟨[],[]⟩ [oU,oI,oI,.str 2,oL,oL,oL] [oU,.str 2,oL,oL,oL] []
def Vf:zP E:=lo [2,3,6,7,8,9] ⟨[.fn 102 [],.ptr 0,.aptr (.int .i64) 1,.aptr (.int .i64) 2,vU,.own 3],[.box true [vI,.val (.slice (.slice (.int .i64)))],.row true (.int .i64),.row true (.int .i64),.row true (.int .i64)]⟩ 2 [6,7] ⟨[.aptr (.int .i64) 0,.aptr (.int .i64) 1],[.row true (.int .i64),.row true (.int .i64)]⟩ [] ⟨[],[]⟩ [oU,.str 2,oL,oL,oL] [oL,oL] []
def WC:zP E:=lo [2,3,6,7,8,9,12,50,51,52] ⟨[.fn 102 [],.ptr 0,.aptr (.int .i64) 1,.aptr (.int .i64) 2,vU,.own 3,vI,vL,vI,vI],[.box true [vI,.val (.slice (.slice (.int .i64)))],.row true (.int .i64),.row true (.int .i64),.row true (.int .i64)]⟩ 4 [2,3,6,7,8,9] ⟨[.fn 102 [],.ptr 0,.aptr (.int .i64) 1,.aptr (.int .i64) 2,vU,.own 3],[.box true [vI,.val (.slice (.slice (.int .i64)))],.row true (.int .i64),.row true (.int .i64),.row true (.int .i64)]⟩ [] ⟨[],[]⟩ [oU,oI,oL,oI,oI,.str 2,oL,oL,oL] [oU,.str 2,oL,oL,oL] []
def xq:Cfg E:=cf [(36,[zjZ]),(46,[Um]),(55,[zen]),(102,[zgW])] [(5,Ve),(9,Vf),(14,WC)] [(10,1)] [] [] []
def YS:zC E:=sp xq Go.Proofs.Tryz.f101 ⟨[.val (.named 2),vU,.fn 102 []],[]⟩ ⟨[.val (.arr 64 (.int .i64))],[]⟩ [.one (.named 2),oU] [.one (.arr 64 (.int .i64))]
def YL (a1:zq) (a2:BitVec 64):Option ((List Int)×Unit):=YS.F (a1,a2,())
def Z5 (x:(BitVec 64)×Int×Int×zq×(List Int)×(List Int)×(List Int)×Unit):Option (yD ((BitVec 64)×Int×Int×zq×(List Int)×(List Int)×(List Int)×Unit) ((BitVec 64)×zq×(List Int)×(List Int)×(List Int)×Unit) (Unit)):=z9 xq (exec xq (yz Go.Proofs.Tryz.f101 5)) 80 Ve x
def Z4 (x:(BitVec 64)×zq×(List Int)×(List Int)×(List Int)×Unit):Option (yD ((BitVec 64)×zq×(List Int)×(List Int)×(List Int)×Unit) ((List Int)×(List Int)×Unit) (Unit)):=z9 xq (exec xq (yz Go.Proofs.Tryz.f101 9)) 80 Vf x
def vD (x:(BitVec 64)×Int×(List Int)×Int×Int×zq×(List Int)×(List Int)×(List Int)×Unit):Option (yD ((BitVec 64)×Int×(List Int)×Int×Int×zq×(List Int)×(List Int)×(List Int)×Unit) ((BitVec 64)×zq×(List Int)×(List Int)×(List Int)×Unit) (Unit)):=z9 xq (exec xq (yz Go.Proofs.Tryz.f101 14)) 80 WC x
def zxu:Cfg E:=cf [(100,[zd4]),(101,[YS])] [] [] [] [] []
def zb0:zC E:=sp zxu Go.Proofs.Tryz.f61 ⟨[.val (.named 2),vU],[]⟩ ⟨[vU],[]⟩ [.one (.named 2),oU] [oU]
def UJ (a1:zq) (a2:BitVec 64):Option ((BitVec 64)×Unit):=zb0.F (a1,a2,())
def zzl:Cfg E:=cf [(27,[zfI]),(61,[zb0])] [] [] [] [] []
def zhp:zC E:=sp zzl Go.Proofs.Tryz.f62 ⟨[.val (.named 3)],[]⟩ ⟨[vU],[]⟩ [.one (.named 3)] [oU]
def zhv (a1:zd):Option ((BitVec 64)×Unit):=zhp.F (a1,())
def zzk:Cfg E:=cf [(10,[Wq]),(56,[U3]),(57,[zb1]),(61,[zb0]),(62,[zhp])] [] [] [] [] []
def zho:zC E:=sp zzk Go.Proofs.Tryz.f19 ⟨[.val (.named 12)],[]⟩ ⟨[vB],[]⟩ [.one (.named 12)] [oB]
def zbe (a1:za):Option (Bool×Unit):=zho.F (a1,())
def zxp:Cfg E:=cf [(10,[Wq]),(46,[Um])] [] [] [] [] []
def zlb:zC E:=sp zxp Go.Proofs.Tryz.f63 ⟨[.val (.named 9),vI],[]⟩ ⟨[vB],[]⟩ [.one (.named 9),oI] [oB]
def zre (a1:zm) (a2:Int):Option (Bool×Unit):=zlb.F (a1,a2,())
def zvg:Cfg E:=cf [(9,[zba]),(10,[Wq]),(62,[zhp]),(63,[zlb])] [] [] [] [] []
def zdD:zC E:=sp zvg Go.Proofs.Tryz.f20 ⟨[.val (.named 12)],[]⟩ ⟨[vB],[]⟩ [.one (.named 12)] [oB]
def Vz (a1:za):Option (Bool×Unit):=zdD.F (a1,())
def zjR:zP E:=lo [1,3,36,37,38] ⟨[.ptr 0,vI,vL,vI,vI],[.box true (L 10)]⟩ 0 [1,3] ⟨[.ptr 0,vI],[.box true (L 10)]⟩ [2] ⟨[vB],[]⟩ [oI,oL,oI,oI,.str 10] [oI,.str 10] [oB]
def zd1:Cfg E:=cf [] [(5,zjR)] [] [] [] []
def zgu:zC E:=sp zd1 Go.Proofs.Tryz.f65 ⟨[.val (.named 10)],[]⟩ ⟨[vB],[]⟩ [.one (.named 10)] [oB]
def zg5 (a1:zr):Option (Bool×Unit):=zgu.F (a1,())
def XP (x:Int×(List Int)×Int×Int×zr×Unit):Option (yD (Int×(List Int)×Int×Int×zr×Unit) (Int×zr×Unit) (Bool×Unit)):=z9 zd1 (exec zd1 (yz Go.Proofs.Tryz.f65 5)) 56 zjR x
def zxi:Cfg E:=cf [] [] [] [] [] []
def zlu:zC E:=sp zxi Go.Proofs.Tryz.f64 ⟨[vI,.ptr 0],[.box false (L 12)]⟩ ⟨[vB],[.gone]⟩ [oI,.str 12] [oB]
def zrB (a1:Int) (a2:za):Option (Bool×Unit):=zlu.F (a1,a2,())
def uE:zP E:=lo [0,1,7,8] ⟨[vL,.fn 64 [.ptr 1],vI,vI],[.gone,.box false (L 12)]⟩ 0 [] ⟨[],[.gone]⟩ [4] ⟨[vI],[.gone]⟩ [oL,oI,oI,.str 12] [] [oI]
def wB:Cfg E:=cf [(64,[zlu])] [(2,uE)] [] [] [] []
def wO:zC E:=sp wB Go.Proofs.Tryz.f103 ⟨[vL,.fn 64 [.ptr 0]],[.box false (L 12)]⟩ ⟨[vI],[.gone]⟩ [oL,.str 12] [oI]
def Zc (a1:List Int) (a2:za):Option (Int×Unit):=wO.F (a1,a2,())
def yI (x:(List Int)×Int×Int×za×Unit):Option (yD ((List Int)×Int×Int×za×Unit) (Unit) (Int×Unit)):=z9 wB (exec wB (yz Go.Proofs.Tryz.f103 2)) 19 uE x
def X7:Cfg E:=cf [(103,[wO])] [] [] [] [] []
def wu:zC E:=sp X7 Go.Proofs.Tryz.f66 ⟨[vL,.fn 64 [.ptr 0]],[.box false (L 12)]⟩ ⟨[vB],[.gone]⟩ [oL,.str 12] [oB]
def wm (a1:List Int) (a2:za):Option (Bool×Unit):=wu.F (a1,a2,())
def zAl:Cfg E:=cf [(9,[zba]),(11,[za9]),(47,[zmX]),(65,[zgu]),(66,[wu])] [] [] [] [] []
def zkv:zC E:=sp zAl Go.Proofs.Tryz.f21 ⟨[.val (.named 12)],[]⟩ ⟨[vB],[]⟩ [.one (.named 12)] [oB]
def zcL (a1:za):Option (Bool×Unit):=zkv.F (a1,())
def zuD:Cfg E:=cf [] [] [] [] [] []
def zoK:zC E:=sp zuD Go.Proofs.Tryz.f104 ⟨[.val (.named 7)],[]⟩ ⟨[vB],[]⟩ [.one (.named 7)] [oB]
def ZE:zP E:=lo [0,1,7,8] ⟨[.val (.slice (.named 7)),.fn 104 [],vI,vI],[]⟩ 0 [] ⟨[],[]⟩ [4] ⟨[vI],[]⟩ [.one (.slice (.named 7)),oI,oI] [] [oI]
def ZQ:Cfg E:=cf [(104,[zoK])] [(2,ZE)] [] [] [] []
def wJ:zC E:=sp ZQ Go.Proofs.Tryz.f156 ⟨[.val (.slice (.named 7)),.fn 104 []],[]⟩ ⟨[vI],[]⟩ [.one (.slice (.named 7))] [oI]
def Zt:Cfg E:=cf [(156,[wJ])] [] [] [] [] []
def wq:zC E:=sp Zt Go.Proofs.Tryz.f106 ⟨[.val (.slice (.named 7)),.fn 104 []],[]⟩ ⟨[vB],[]⟩ [.one (.slice (.named 7))] [oB]
def ztT:Cfg E:=cf [] [] [] [] [] []
def zoU:zC E:=sp ztT Go.Proofs.Tryz.f105 ⟨[.val (.named 8)],[]⟩ ⟨[vB],[]⟩ [.one (.named 8)] [oB]
def Zs:zP E:=lo [0,1,7,8] ⟨[.val (.slice (.named 8)),.fn 105 [],vI,vI],[]⟩ 0 [] ⟨[],[]⟩ [4] ⟨[vI],[]⟩ [.one (.slice (.named 8)),oI,oI] [] [oI]
def Zy:Cfg E:=cf [(105,[zoU])] [(2,Zs)] [] [] [] []
def wy:zC E:=sp Zy Go.Proofs.Tryz.f157 ⟨[.val (.slice (.named 8)),.fn 105 []],[]⟩ ⟨[vI],[]⟩ [.one (.slice (.named 8))] [oI]
def u9:Cfg E:=cf [(157,[wy])] [] [] [] [] []
def wa:zC E:=sp u9 Go.Proofs.Tryz.f107 ⟨[.val (.slice (.named 8)),.fn 105 []],[]⟩ ⟨[vB],[]⟩ [.one (.slice (.named 8))] [oB]
def zxP:Cfg E:=cf [(59,[zdg]),(106,[wq]),(107,[wa])] [] [] [] [] []
def zlX:zC E:=sp zxP Go.Proofs.Tryz.f67 ⟨[.val (.named 12)],[]⟩ ⟨[vB],[]⟩ [.one (.named 12)] [oB]
def zz5 (a1:za):Option (Bool×Unit):=zlX.F (a1,())
def zxA:zP E:=lo [3,7,8,9] ⟨[vU,.val (.slice (.named 8)),vI,vI],[]⟩ 0 [3] ⟨[vU],[]⟩ [] ⟨[],[]⟩ [oU,.one (.slice (.named 8)),oI,oI] [oU] []
def zy7:Cfg E:=cf [(76,[zgN])] [(3,zxA)] [] [] [] []
def ztg:zC E:=sp zy7 Go.Proofs.Tryz.f108 ⟨[.val (.named 12)],[]⟩ ⟨[vU],[]⟩ [.one (.named 12)] [oU]
def zzh:Cfg E:=cf [(61,[zb0]),(108,[ztg])] [] [] [] [] []
def zog:zC E:=sp zzh Go.Proofs.Tryz.f68 ⟨[.val (.named 12)],[]⟩ ⟨[vU],[]⟩ [.one (.named 12)] [oU]
def zCg (a1:za):Option ((BitVec 64)×Unit):=zog.F (a1,())
def zzu:Cfg E:=cf [(10,[Wq]),(56,[U3]),(67,[zlX]),(68,[zog])] [] [] [] [] []
def zhw:zC E:=sp zzu Go.Proofs.Tryz.f22 ⟨[.val (.named 12)],[]⟩ ⟨[vB],[]⟩ [.one (.named 12)] [oB]
def za6 (a1:za):Option (Bool×Unit):=zhw.F (a1,())
def zoJ:zP E:=lo [1,5,6] ⟨[.ptr 0,.fns [17,18,19,20,21,22],vI],[.box true (L 12)]⟩ 0 [1] ⟨[.ptr 0],[.box true (L 12)]⟩ [2] ⟨[vB],[]⟩ [oI,.str 12] [.str 12] [oB]
def zi2:Cfg E:=cf [(17,[zhG]),(18,[zdM]),(19,[zho]),(20,[zdD]),(21,[zkv]),(22,[zhw]),(53,[zcc])] [(2,zoJ)] [] [] [] []
def zoh:zC E:=sp zi2 Go.Proofs.Tryz.f15 ⟨[.val (.named 12)],[]⟩ ⟨[vB],[]⟩ [.one (.named 12)] [oB]
def zdq (a1:za):Option (Bool×Unit):=zoh.F (a1,())
def vZ (x:Int×za×Unit):Option (yD (Int×za×Unit) (za×Unit) (Bool×Unit)):=z9 zi2 (exec zi2 (yz Go.Proofs.Tryz.f15 2)) 17 zoJ x
def zwf:Cfg E:=cf [(55,[zen])] [] [] [] [] []
def ziW:zC E:=sp zwf Go.Proofs.Tryz.f54 ⟨[vU,.ptr 0],[.box false [vI]]⟩ ⟨[vB],[.gone]⟩ [oU,oI] [oB]
def zjh (a1:BitVec 64) (a2:Int):Option (Bool×Unit):=ziW.F (a1,a2,())
def zyZ:Cfg E:=cf [(14,[zkd]),(54,[ziW]),(56,[U3]),(57,[zb1])] [] [] [] [] []
def zof:zC E:=sp zyZ Go.Proofs.Tryz.f16 ⟨[.val (.named 12),.val (.named 12)],[]⟩ ⟨[vB],[]⟩ [.one (.named 12),.one (.named 12)] [oB]
def zdz (a1:za) (a2:za):Option (Bool×Unit):=zof.F (a1,a2,())
def zmz:Cfg E:=cf [(6,[zht]),(9,[zba]),(12,[zch]),(13,[zlm]),(14,[zkd]),(15,[zoh]),(16,[zof]),(17,[zhG]),(18,[zdM]),(19,[zho]),(20,[zdD]),(21,[zkv]),(22,[zhw])] [] [] [] [] []
def U8:zC E:=sp zmz Go.Proofs.Tryz.f4 ⟨[],[]⟩ ⟨[vB],[]⟩ [] [oB]
def U5:Option (Bool×Unit):=U8.F (())
def zhj:Cfg E:=cf [] [] [] [(0,some 0)] [] []
def ZA:zC E:=sp zhj Go.Proofs.Tryz.f23 ⟨[.ptr 0],[.box true [.val (.slice (.int .u8)),vI]]⟩ ⟨[vI],[.box true [.val (.slice (.int .u8)),vI]]⟩ [.str 17] [oI,.str 17]
def zG (a1:zO):Option (Int×zO×Unit):=ZA.F (a1,())
def zju:Cfg E:=cf [(23,[ZA])] [] [] [(0,some 0)] [] []
def WB:zC E:=sp zju Go.Proofs.Tryz.f25 ⟨[.ptr 0,vI,vI],[.box true [.val (.slice (.int .u8)),vI]]⟩ ⟨[.val (.named 0)],[.box true [.val (.slice (.int .u8)),vI]]⟩ [oI,oI,.str 17] [.one (.named 0),.str 17]
def W2 (a1:Int) (a2:Int) (a3:zO):Option (zw×zO×Unit):=WB.F (a1,a2,a3,())
def zeT:zP E:=lo [2,3,4,5,6] ⟨[.ptr 0,.ptr 1,.ptr 2,vI,vI],[.box true (L 0++L 0++[vI,.own 3,vU,.own 4,.own 5,.own 6]),.box true [.val (.slice (.int .u8)),vI],.box true (L 0++L 0++[vI,.own 7,vU,.own 8,.own 9,.own 10]),.row true (.slice (.int .i64)),.row true (.slice (.int .i64)),.row true (.slice (.named 0)),.row true (.named 1),.row true (.slice (.int .i64)),.row true (.slice (.int .i64)),.row true (.slice (.named 0)),.row true (.named 1)]⟩ 0 [2,3,4,5] ⟨[.ptr 0,.ptr 1,.ptr 2,vI],[.box true (L 0++L 0++[vI,.own 3,vU,.own 4,.own 5,.own 6]),.box true [.val (.slice (.int .u8)),vI],.box true (L 0++L 0++[vI,.own 7,vU,.own 8,.own 9,.own 10]),.row true (.slice (.int .i64)),.row true (.slice (.int .i64)),.row true (.slice (.named 0)),.row true (.named 1),.row true (.slice (.int .i64)),.row true (.slice (.int .i64)),.row true (.slice (.named 0)),.row true (.named 1)]⟩ [] ⟨[],[]⟩ [oI,oI,oI,oI,oI,oI,oI,oI,oI,oI,oI,oU,.str 17,oI,oI,oI,oI,oI,oI,oI,oI,oI,oU,.one (.slice (.slice (.int .i64))),.one (.slice (.slice (.int .i64))),.one (.slice (.slice (.named 0))),.one (.slice (.named 1)),.one (.slice (.slice (.int .i64))),.one (.slice (.slice (.int .i64))),.one (.slice (.slice (.named 0))),.one (.slice (.named 1))] [oI,oI,oI,oI,oI,oI,oI,oI,oI,oI,oU,.str 17,oI,oI,oI,oI,oI,oI,oI,oI,oI,oU,.one (.slice (.slice (.int .i64))),.one (.slice (.slice (.int .i64))),.one (.slice (.slice (.named 0))),.one (.slice (.named 1)),.one (.slice (.slice (.int .i64))),.one (.slice (.slice (.int .i64))),.one (.slice (.slice (.named 0))),.one (.slice (.named 1))] []
def zej:zP E:=lo [2,3,4,5,6,7,8] ⟨[.ptr 0,.ptr 1,.ptr 2,vI,vI,.own 3,vI],[.box true (L 0++L 0++[vI,.own 4,vU,.own 5,.own 6,.own 7]),.box true [.val (.slice (.int .u8)),vI],.box true (L 0++L 0++[vI,.own 8,vU,.own 9,.own 10,.own 11]),.row true (.int .i64),.row true (.slice (.int .i64)),.row true (.slice (.int .i64)),.row true (.slice (.named 0)),.row true (.named 1),.row true (.slice (.int .i64)),.row true (.slice (.int .i64)),.row true (.slice (.named 0)),.row true (.named 1)]⟩ 2 [2,3,4,5,6,7] ⟨[.ptr 0,.ptr 1,.ptr 2,vI,vI,.own 3],[.box true (L 0++L 0++[vI,.own 4,vU,.own 5,.own 6,.own 7]),.box true [.val (.slice (.int .u8)),vI],.box true (L 0++L 0++[vI,.own 8,vU,.own 9,.own 10,.own 11]),.row true (.int .i64),.row true (.slice (.int .i64)),.row true (.slice (.int .i64)),.row true (.slice (.named 0)),.row true (.named 1),.row true (.slice (.int .i64)),.row true (.slice (.int .i64)),.row true (.slice (.named 0)),.row true (.named 1)]⟩ [] ⟨[],[]⟩ [oI,oI,oI,oI,oI,oI,oI,oI,oI,oI,oI,oI,oU,.str 17,oI,oI,oI,oI,oI,oI,oI,oI,oI,oU,oL,.one (.slice (.slice (.int .i64))),.one (.slice (.slice (.int .i64))),.one (.slice (.slice (.named 0))),.one (.slice (.named 1)),.one (.slice (.slice (.int .i64))),.one (.slice (.slice (.int .i64))),.one (.slice (.slice (.named 0))),.one (.slice (.named 1))] [oI,oI,oI,oI,oI,oI,oI,oI,oI,oI,oI,oU,.str 17,oI,oI,oI,oI,oI,oI,oI,oI,oI,oU,oL,.one (.slice (.slice (.int .i64))),.one (.slice (.slice (.int .i64))),.one (.slice (.slice (.named 0))),.one (.slice (.named 1)),.one (.slice (.slice (.int .i64))),.one (.slice (.slice (.int .i64))),.one (.slice (.slice (.named 0))),.one (.slice (.named 1))] []
def zev:zP E:=lo [2,3,4,5,9] ⟨[.ptr 0,.ptr 1,.ptr 2,vI,vI],[.box true (L 0++L 0++[vI,.own 3,vU,.own 4,.own 5,.own 6]),.box true [.val (.slice (.int .u8)),vI],.box true (L 0++L 0++[vI,.own 7,vU,.own 8,.own 9,.own 10]),.row true (.slice (.int .i64)),.row true (.slice (.int .i64)),.row true (.slice (.named 0)),.row true (.named 1),.row true (.slice (.int .i64)),.row true (.slice (.int .i64)),.row true (.slice (.named 0)),.row true (.named 1)]⟩ 4 [2,4] ⟨[.ptr 0,.ptr 1],[.box true (L 0++L 0++[vI,.own 2,vU,.own 3,.own 4,.own 5]),.box true (L 0++L 0++[vI,.own 6,vU,.own 7,.own 8,.own 9]),.row true (.slice (.int .i64)),.row true (.slice (.int .i64)),.row true (.slice (.named 0)),.row true (.named 1),.row true (.slice (.int .i64)),.row true (.slice (.int .i64)),.row true (.slice (.named 0)),.row true (.named 1)]⟩ [] ⟨[],[]⟩ [oI,oI,oI,oI,oI,oI,oI,oI,oI,oI,oI,oU,.str 17,oI,oI,oI,oI,oI,oI,oI,oI,oI,oU,.one (.slice (.slice (.int .i64))),.one (.slice (.slice (.int .i64))),.one (.slice (.slice (.named 0))),.one (.slice (.named 1)),.one (.slice (.slice (.int .i64))),.one (.slice (.slice (.int .i64))),.one (.slice (.slice (.named 0))),.one (.slice (.named 1))] [oI,oI,oI,oI,oI,oI,oI,oI,oI,oU,oI,oI,oI,oI,oI,oI,oI,oI,oI,oU,.one (.slice (.slice (.int .i64))),.one (.slice (.slice (.int .i64))),.one (.slice (.slice (.named 0))),.one (.slice (.named 1)),.one (.slice (.slice (.int .i64))),.one (.slice (.slice (.int .i64))),.one (.slice (.slice (.named 0))),.one (.slice (.named 1))] []
def zea:zP E:=lo [2,3,4,5,9,10,11] ⟨[.ptr 0,.ptr 1,.ptr 2,vI,vI,.own 3,vI],[.box true (L 0++L 0++[vI,.own 4,vU,.own 5,.own 6,.own 7]),.box true [.val (.slice (.int .u8)),vI],.box true (L 0++L 0++[vI,.own 8,vU,.own 9,.own 10,.own 11]),.row true (.int .i64),.row true (.slice (.int .i64)),.row true (.slice (.int .i64)),.row true (.slice (.named 0)),.row true (.named 1),.row true (.slice (.int .i64)),.row true (.slice (.int .i64)),.row true (.slice (.named 0)),.row true (.named 1)]⟩ 6 [2,3,4,5,9,10] ⟨[.ptr 0,.ptr 1,.ptr 2,vI,vI,.own 3],[.box true (L 0++L 0++[vI,.own 4,vU,.own 5,.own 6,.own 7]),.box true [.val (.slice (.int .u8)),vI],.box true (L 0++L 0++[vI,.own 8,vU,.own 9,.own 10,.own 11]),.row true (.int .i64),.row true (.slice (.int .i64)),.row true (.slice (.int .i64)),.row true (.slice (.named 0)),.row true (.named 1),.row true (.slice (.int .i64)),.row true (.slice (.int .i64)),.row true (.slice (.named 0)),.row true (.named 1)]⟩ [] ⟨[],[]⟩ [oI,oI,oI,oI,oI,oI,oI,oI,oI,oI,oI,oI,oU,.str 17,oI,oI,oI,oI,oI,oI,oI,oI,oI,oU,oL,.one (.slice (.slice (.int .i64))),.one (.slice (.slice (.int .i64))),.one (.slice (.slice (.named 0))),.one (.slice (.named 1)),.one (.slice (.slice (.int .i64))),.one (.slice (.slice (.int .i64))),.one (.slice (.slice (.named 0))),.one (.slice (.named 1))] [oI,oI,oI,oI,oI,oI,oI,oI,oI,oI,oI,oU,.str 17,oI,oI,oI,oI,oI,oI,oI,oI,oI,oU,oL,.one (.slice (.slice (.int .i64))),.one (.slice (.slice (.int .i64))),.one (.slice (.slice (.named 0))),.one (.slice (.named 1)),.one (.slice (.slice (.int .i64))),.one (.slice (.slice (.int .i64))),.one (.slice (.slice (.named 0))),.one (.slice (.named 1))] []
def zeo:zP E:=lo [2,3,4,5,9,10,12,13] ⟨[.ptr 0,.ptr 1,.ptr 2,vI,vI,.own 3,.own 4,vI],[.box true (L 0++L 0++[vI,.own 5,vU,.own 6,.own 7,.own 8]),.box true [.val (.slice (.int .u8)),vI],.box true (L 0++L 0++[vI,.own 9,vU,.own 10,.own 11,.own 12]),.row true (.int .i64),.row true (.named 0),.row true (.slice (.int .i64)),.row true (.slice (.int .i64)),.row true (.slice (.named 0)),.row true (.named 1),.row true (.slice (.int .i64)),.row true (.slice (.int .i64)),.row true (.slice (.named 0)),.row true (.named 1)]⟩ 8 [2,3,4,5,9,10,12] ⟨[.ptr 0,.ptr 1,.ptr 2,vI,vI,.own 3,.own 4],[.box true (L 0++L 0++[vI,.own 5,vU,.own 6,.own 7,.own 8]),.box true [.val (.slice (.int .u8)),vI],.box true (L 0++L 0++[vI,.own 9,vU,.own 10,.own 11,.own 12]),.row true (.int .i64),.row true (.named 0),.row true (.slice (.int .i64)),.row true (.slice (.int .i64)),.row true (.slice (.named 0)),.row true (.named 1),.row true (.slice (.int .i64)),.row true (.slice (.int .i64)),.row true (.slice (.named 0)),.row true (.named 1)]⟩ [] ⟨[],[]⟩ [oI,oI,oI,oI,oI,oI,oI,oI,oI,oI,oI,oI,oU,.str 17,oI,oI,oI,oI,oI,oI,oI,oI,oI,oU,oL,.one (.slice (.named 0)),.one (.slice (.slice (.int .i64))),.one (.slice (.slice (.int .i64))),.one (.slice (.slice (.named 0))),.one (.slice (.named 1)),.one (.slice (.slice (.int .i64))),.one (.slice (.slice (.int .i64))),.one (.slice (.slice (.named 0))),.one (.slice (.named 1))] [oI,oI,oI,oI,oI,oI,oI,oI,oI,oI,oI,oU,.str 17,oI,oI,oI,oI,oI,oI,oI,oI,oI,oU,oL,.one (.slice (.named 0)),.one (.slice (.slice (.int .i64))),.one (.slice (.slice (.int .i64))),.one (.slice (.slice (.named 0))),.one (.slice (.named 1)),.one (.slice (.slice (.int .i64))),.one (.slice (.slice (.int .i64))),.one (.slice (.slice (.named 0))),.one (.slice (.named 1))] []
def xB:Cfg E:=cf [(23,[ZA]),(24,[zam]),(25,[WB])] [(7,zeT),(11,zej),(17,zev),(21,zea),(28,zeo)] [] [] [] []
def zc3:zC E:=sp xB Go.Proofs.Tryz.f5 ⟨[.val (.slice (.int .u8))],[]⟩ ⟨[.val (.named 3)],[]⟩ [.one (.slice (.int .u8))] [.one (.named 3)]
def zc4 (a1:List (BitVec 8)):Option (zd×Unit):=zc3.F (a1,())
def Wi (x:Int×Int×Int×Int×Int×Int×Int×Int×Int×Int×Int×(BitVec 64)×zO×Int×Int×Int×Int×Int×Int×Int×Int×Int×(BitVec 64)×(List (List Int))×(List (List Int))×(List (List zw))×(List zj)×(List (List Int))×(List (List Int))×(List (List zw))×(List zj)×Unit):Option (yD (Int×Int×Int×Int×Int×Int×Int×Int×Int×Int×Int×(BitVec 64)×zO×Int×Int×Int×Int×Int×Int×Int×Int×Int×(BitVec 64)×(List (List Int))×(List (List Int))×(List (List zw))×(List zj)×(List (List Int))×(List (List Int))×(List (List zw))×(List zj)×Unit) (Int×Int×Int×Int×Int×Int×Int×Int×Int×Int×(BitVec 64)×zO×Int×Int×Int×Int×Int×Int×Int×Int×Int×(BitVec 64)×(List (List Int))×(List (List Int))×(List (List zw))×(List zj)×(List (List Int))×(List (List Int))×(List (List zw))×(List zj)×Unit) (Unit)):=z9 xB (exec xB (yz Go.Proofs.Tryz.f5 7)) 154 zeT x
def Xo (x:Int×Int×Int×Int×Int×Int×Int×Int×Int×Int×Int×Int×(BitVec 64)×zO×Int×Int×Int×Int×Int×Int×Int×Int×Int×(BitVec 64)×(List Int)×(List (List Int))×(List (List Int))×(List (List zw))×(List zj)×(List (List Int))×(List (List Int))×(List (List zw))×(List zj)×Unit):Option (yD (Int×Int×Int×Int×Int×Int×Int×Int×Int×Int×Int×Int×(BitVec 64)×zO×Int×Int×Int×Int×Int×Int×Int×Int×Int×(BitVec 64)×(List Int)×(List (List Int))×(List (List Int))×(List (List zw))×(List zj)×(List (List Int))×(List (List Int))×(List (List zw))×(List zj)×Unit) (Int×Int×Int×Int×Int×Int×Int×Int×Int×Int×Int×(BitVec 64)×zO×Int×Int×Int×Int×Int×Int×Int×Int×Int×(BitVec 64)×(List Int)×(List (List Int))×(List (List Int))×(List (List zw))×(List zj)×(List (List Int))×(List (List Int))×(List (List zw))×(List zj)×Unit) (Unit)):=z9 xB (exec xB (yz Go.Proofs.Tryz.f5 11)) 154 zej x
def Xq (x:Int×Int×Int×Int×Int×Int×Int×Int×Int×Int×Int×(BitVec 64)×zO×Int×Int×Int×Int×Int×Int×Int×Int×Int×(BitVec 64)×(List (List Int))×(List (List Int))×(List (List zw))×(List zj)×(List (List Int))×(List (List Int))×(List (List zw))×(List zj)×Unit):Option (yD (Int×Int×Int×Int×Int×Int×Int×Int×Int×Int×Int×(BitVec 64)×zO×Int×Int×Int×Int×Int×Int×Int×Int×Int×(BitVec 64)×(List (List Int))×(List (List Int))×(List (List zw))×(List zj)×(List (List Int))×(List (List Int))×(List (List zw))×(List zj)×Unit) (Int×Int×Int×Int×Int×Int×Int×Int×Int×(BitVec 64)×Int×Int×Int×Int×Int×Int×Int×Int×Int×(BitVec 64)×(List (List Int))×(List (List Int))×(List (List zw))×(List zj)×(List (List Int))×(List (List Int))×(List (List zw))×(List zj)×Unit) (Unit)):=z9 xB (exec xB (yz Go.Proofs.Tryz.f5 17)) 154 zev x
def Xw (x:Int×Int×Int×Int×Int×Int×Int×Int×Int×Int×Int×Int×(BitVec 64)×zO×Int×Int×Int×Int×Int×Int×Int×Int×Int×(BitVec 64)×(List Int)×(List (List Int))×(List (List Int))×(List (List zw))×(List zj)×(List (List Int))×(List (List Int))×(List (List zw))×(List zj)×Unit):Option (yD (Int×Int×Int×Int×Int×Int×Int×Int×Int×Int×Int×Int×(BitVec 64)×zO×Int×Int×Int×Int×Int×Int×Int×Int×Int×(BitVec 64)×(List Int)×(List (List Int))×(List (List Int))×(List (List zw))×(List zj)×(List (List Int))×(List (List Int))×(List (List zw))×(List zj)×Unit) (Int×Int×Int×Int×Int×Int×Int×Int×Int×Int×Int×(BitVec 64)×zO×Int×Int×Int×Int×Int×Int×Int×Int×Int×(BitVec 64)×(List Int)×(List (List Int))×(List (List Int))×(List (List zw))×(List zj)×(List (List Int))×(List (List Int))×(List (List zw))×(List zj)×Unit) (Unit)):=z9 xB (exec xB (yz Go.Proofs.Tryz.f5 21)) 154 zea x
def ZJ (x:Int×Int×Int×Int×Int×Int×Int×Int×Int×Int×Int×Int×(BitVec 64)×zO×Int×Int×Int×Int×Int×Int×Int×Int×Int×(BitVec 64)×(List Int)×(List zw)×(List (List Int))×(List (List Int))×(List (List zw))×(List zj)×(List (List Int))×(List (List Int))×(List (List zw))×(List zj)×Unit):Option (yD (Int×Int×Int×Int×Int×Int×Int×Int×Int×Int×Int×Int×(BitVec 64)×zO×Int×Int×Int×Int×Int×Int×Int×Int×Int×(BitVec 64)×(List Int)×(List zw)×(List (List Int))×(List (List Int))×(List (List zw))×(List zj)×(List (List Int))×(List (List Int))×(List (List zw))×(List zj)×Unit) (Int×Int×Int×Int×Int×Int×Int×Int×Int×Int×Int×(BitVec 64)×zO×Int×Int×Int×Int×Int×Int×Int×Int×Int×(BitVec 64)×(List Int)×(List zw)×(List (List Int))×(List (List Int))×(List (List zw))×(List zj)×(List (List Int))×(List (List Int))×(List (List zw))×(List zj)×Unit) (Unit)):=z9 xB (exec xB (yz Go.Proofs.Tryz.f5 28)) 154 zeo x
def zd9:zP E:=lo [1,2,3,7,8] ⟨[.val (.slice (.int .u8)),vI,.ptr 0,.own 1,vI],[.box true (L 3),.row true (.named 1)]⟩ 0 [7] ⟨[.own 0],[.row true (.named 1)]⟩ [] ⟨[],[]⟩ [.one (.slice (.int .u8)),oI,oI,.str 3,.one (.slice (.named 1))] [.one (.slice (.named 1))] []
def zc9:zP E:=lo [1,2,3,7,8,10,11] ⟨[.val (.slice (.int .u8)),vI,.ptr 0,.own 1,vI,.ptr 2,vI],[.box true (L 3),.row true (.named 1),.box true [vI,vI]]⟩ 2 [1,2,3,7,8] ⟨[.val (.slice (.int .u8)),vI,.ptr 0,.own 1,vI],[.box true (L 3),.row true (.named 1)]⟩ [] ⟨[],[]⟩ [.one (.slice (.int .u8)),oI,oI,oI,.str 3,.one (.slice (.named 1)),.str 1] [.one (.slice (.int .u8)),oI,oI,.str 3,.one (.slice (.named 1))] []
def Yj:Cfg E:=cf [] [(3,zd9),(12,zc9)] [] [] [] []
def zbQ:zC E:=sp Yj Go.Proofs.Tryz.f7 ⟨[.val (.named 3),.val (.slice (.int .u8)),vI],[]⟩ ⟨[.own 0],[.row true (.named 1)]⟩ [.one (.named 3),.one (.slice (.int .u8)),oI] [.one (.slice (.named 1))]
def VG (a1:zd) (a2:List (BitVec 8)) (a3:Int):Option ((List zj)×Unit):=zbQ.F (a1,a2,a3,())
def UP (x:(List (BitVec 8))×Int×Int×zd×(List zj)×Unit):Option (yD ((List (BitVec 8))×Int×Int×zd×(List zj)×Unit) ((List zj)×Unit) (Unit)):=z9 Yj (exec Yj (yz Go.Proofs.Tryz.f7 3)) 71 zd9 x
def v8 (x:(List (BitVec 8))×Int×Int×Int×zd×(List zj)×zj×Unit):Option (yD ((List (BitVec 8))×Int×Int×Int×zd×(List zj)×zj×Unit) ((List (BitVec 8))×Int×Int×zd×(List zj)×Unit) (Unit)):=z9 Yj (exec Yj (yz Go.Proofs.Tryz.f7 12)) 71 zc9 x
def zb2:zP E:=lo [5,6,7,21,22,23] ⟨[vB,.ptr 0,.ptr 1,.own 2,vI,vI],[.box true (L 3),.box true (L 12),.row true (.named 1)]⟩ 0 [5] ⟨[vB],[]⟩ [4] ⟨[vB],[]⟩ [oB,oI,oI,.str 3,.str 12,.one (.slice (.named 1))] [oB] [oB]
def Vu:Cfg E:=cf [(4,[U8]),(5,[zc3]),(6,[zht]),(7,[zbQ]),(8,[zdC]),(9,[zba]),(10,[Wq]),(11,[za9])] [(7,zb2)] [] [] [] []
def U0:zC E:=sp Vu Go.Proofs.Tryz.f3 ⟨[.val (.slice (.int .u8)),.val (.slice (.int .u8))],[]⟩ ⟨[vB],[]⟩ [.one (.slice (.int .u8)),.one (.slice (.int .u8))] [oB]
def ZK (a1:List (BitVec 8)) (a2:List (BitVec 8)):Option (Bool×Unit):=U0.F (a1,a2,())
def uJ (x:Bool×Int×Int×zd×za×(List zj)×Unit):Option (yD (Bool×Int×Int×zd×za×(List zj)×Unit) (Bool×Unit) (Bool×Unit)):=z9 Vu (exec Vu (yz Go.Proofs.Tryz.f3 7)) 74 zb2 x
end
end Go.Pe.G
namespace Go.Pe.G
open Go.Pe
theorem zoR (a1:BitVec 64):zih a1 =
 some (zDt (((((((((((((a1 >>> 1)&&&6148914691236517205#64)+(a1&&&6148914691236517205#64)) >>> 2)&&&3689348814741910323#64)+((((a1 >>> 1)&&&6148914691236517205#64)+(a1&&&6148914691236517205#64))&&&3689348814741910323#64)) >>> 4)+((((((a1 >>> 1)&&&6148914691236517205#64)+(a1&&&6148914691236517205#64)) >>> 2)&&&3689348814741910323#64)+((((a1 >>> 1)&&&6148914691236517205#64)+(a1&&&6148914691236517205#64))&&&3689348814741910323#64)))&&&1085102592571150095#64)+((((((((((a1 >>> 1)&&&6148914691236517205#64)+(a1&&&6148914691236517205#64)) >>> 2)&&&3689348814741910323#64)+((((a1 >>> 1)&&&6148914691236517205#64)+(a1&&&6148914691236517205#64))&&&3689348814741910323#64)) >>> 4)+((((((a1 >>> 1)&&&6148914691236517205#64)+(a1&&&6148914691236517205#64)) >>> 2)&&&3689348814741910323#64)+((((a1 >>> 1)&&&6148914691236517205#64)+(a1&&&6148914691236517205#64))&&&3689348814741910323#64)))&&&1085102592571150095#64) >>> 8))+(((((((((((a1 >>> 1)&&&6148914691236517205#64)+(a1&&&6148914691236517205#64)) >>> 2)&&&3689348814741910323#64)+((((a1 >>> 1)&&&6148914691236517205#64)+(a1&&&6148914691236517205#64))&&&3689348814741910323#64)) >>> 4)+((((((a1 >>> 1)&&&6148914691236517205#64)+(a1&&&6148914691236517205#64)) >>> 2)&&&3689348814741910323#64)+((((a1 >>> 1)&&&6148914691236517205#64)+(a1&&&6148914691236517205#64))&&&3689348814741910323#64)))&&&1085102592571150095#64)+((((((((((a1 >>> 1)&&&6148914691236517205#64)+(a1&&&6148914691236517205#64)) >>> 2)&&&3689348814741910323#64)+((((a1 >>> 1)&&&6148914691236517205#64)+(a1&&&6148914691236517205#64))&&&3689348814741910323#64)) >>> 4)+((((((a1 >>> 1)&&&6148914691236517205#64)+(a1&&&6148914691236517205#64)) >>> 2)&&&3689348814741910323#64)+((((a1 >>> 1)&&&6148914691236517205#64)+(a1&&&6148914691236517205#64))&&&3689348814741910323#64)))&&&1085102592571150095#64) >>> 8)) >>> 16))+((((((((((((a1 >>> 1)&&&6148914691236517205#64)+(a1&&&6148914691236517205#64)) >>> 2)&&&3689348814741910323#64)+((((a1 >>> 1)&&&6148914691236517205#64)+(a1&&&6148914691236517205#64))&&&3689348814741910323#64)) >>> 4)+((((((a1 >>> 1)&&&6148914691236517205#64)+(a1&&&6148914691236517205#64)) >>> 2)&&&3689348814741910323#64)+((((a1 >>> 1)&&&6148914691236517205#64)+(a1&&&6148914691236517205#64))&&&3689348814741910323#64)))&&&1085102592571150095#64)+((((((((((a1 >>> 1)&&&6148914691236517205#64)+(a1&&&6148914691236517205#64)) >>> 2)&&&3689348814741910323#64)+((((a1 >>> 1)&&&6148914691236517205#64)+(a1&&&6148914691236517205#64))&&&3689348814741910323#64)) >>> 4)+((((((a1 >>> 1)&&&6148914691236517205#64)+(a1&&&6148914691236517205#64)) >>> 2)&&&3689348814741910323#64)+((((a1 >>> 1)&&&6148914691236517205#64)+(a1&&&6148914691236517205#64))&&&3689348814741910323#64)))&&&1085102592571150095#64) >>> 8))+(((((((((((a1 >>> 1)&&&6148914691236517205#64)+(a1&&&6148914691236517205#64)) >>> 2)&&&3689348814741910323#64)+((((a1 >>> 1)&&&6148914691236517205#64)+(a1&&&6148914691236517205#64))&&&3689348814741910323#64)) >>> 4)+((((((a1 >>> 1)&&&6148914691236517205#64)+(a1&&&6148914691236517205#64)) >>> 2)&&&3689348814741910323#64)+((((a1 >>> 1)&&&6148914691236517205#64)+(a1&&&6148914691236517205#64))&&&3689348814741910323#64)))&&&1085102592571150095#64)+((((((((((a1 >>> 1)&&&6148914691236517205#64)+(a1&&&6148914691236517205#64)) >>> 2)&&&3689348814741910323#64)+((((a1 >>> 1)&&&6148914691236517205#64)+(a1&&&6148914691236517205#64))&&&3689348814741910323#64)) >>> 4)+((((((a1 >>> 1)&&&6148914691236517205#64)+(a1&&&6148914691236517205#64)) >>> 2)&&&3689348814741910323#64)+((((a1 >>> 1)&&&6148914691236517205#64)+(a1&&&6148914691236517205#64))&&&3689348814741910323#64)))&&&1085102592571150095#64) >>> 8)) >>> 16)) >>> 32)).toInt) 127,()):=zx (by kernel_rfl)
theorem zxO (a1:BitVec 64):Wt a1 =
 (zih a1).bind fun y1 =>
 some (y1.1,()):=zx (by kernel_rfl)
theorem ZP (a1:BitVec 64) (a2:BitVec 64):Z9 a1 a2 =
 some (decide ((a1&&& ~~~a2)=0#64),()):=zx (by kernel_rfl)
theorem zxv (a1:Int):Ug a1 =
 bif decide (a1<1) then
 some (0#64,())
 else
 bif decide ((w64 (64-(bif decide (64<a1) then 64 else a1)))<0) then
  none
 else
  some (18446744073709551615#64 >>> min (w64 (64-(bif decide (64<a1) then 64 else a1))).toNat 64,()):=zx (by kernel_rfl)
theorem zqQ (a1:Int) (a2:zq):zld a1 a2 =
 bif decide (a1<0) then
 some (true,())
 else
 some (decide (((a2.Objs.length:Int))<a1),()):=zx (by kernel_rfl)
theorem ug (s1:List Int) (s2:Int) (s3:Int) (s4:zq):uD (s1,s2,s3,s4,()) =
 bif decide (s3<s2) then
 (idx s1 s3).bind fun x1 =>
 (zld x1 s4).bind fun y2 =>
 bif y2.1 then
  some (.ret (s3,()))
 else
  some (.again (s1,s2,w64 (s3+1),s4,()))
 else
 some (.brk (())):=by kernel_rfl
theorem WS (a1:List Int) (a2:zq):Zl a1 a2 =
 (zX uD (a1,(a1.length:Int),0,a2,())).bind fun st=>match st with
  | .again _=>none
  | .brk y1 =>
  some (-1,())
  | .ret y1 =>
  some (y1.1,()):=zx (by kernel_rfl)
theorem XU (a1:List Int) (a2:zq):wj a1 a2 =
 (Zl a1 a2).bind fun y1 =>
 some (decide (0<=y1.1),()):=zx (by kernel_rfl)
theorem zsU (a1:List Int) (a2:zq):zop a1 a2 =
 bif !(decide (((a1.length:Int))=a2.Slots)) then
 some (true,())
 else
 (wj a1 a2).bind fun y1 =>
 some (y1.1,()):=zx (by kernel_rfl)
theorem ue (s1:List (List Int)) (s2:Int) (s3:Int) (s4:zq):uF (s1,s2,s3,s4,()) =
 bif decide (s3<s2) then
 (idx s1 s3).bind fun x1 =>
 (zop x1 s4).bind fun y2 =>
 bif y2.1 then
  some (.ret (s3,()))
 else
  some (.again (s1,s2,w64 (s3+1),s4,()))
 else
 some (.brk (())):=by kernel_rfl
theorem Wy (a1:List (List Int)) (a2:zq):Zn a1 a2 =
 (zX uF (a1,(a1.length:Int),0,a2,())).bind fun st=>match st with
  | .again _=>none
  | .brk y1 =>
  some (-1,())
  | .ret y1 =>
  some (y1.1,()):=zx (by kernel_rfl)
theorem XZ (a1:List (List Int)) (a2:zq):wo a1 a2 =
 (Zn a1 a2).bind fun y1 =>
 some (decide (0<=y1.1),()):=zx (by kernel_rfl)
theorem znA (a1:zq):Xj a1 =
 bif decide (1<=a1.Slots) then
 bif decide (a1.Slots<=4) then
  bif decide (((a1.Objs.length:Int))<=64) then
  (wo a1.Objs a1).bind fun y1 =>
  some (!y1.1,())
  else
  some (false,())
 else
  some (false,())
 else
 some (false,()):=zx (by kernel_rfl)
theorem zuC (a1:Int) (a2:Int) (a3:Int):uM a1 a2 a3 =
 bif decide (a2<=a1) then
 some (decide (a1<=a3),())
 else
 some (false,()):=zx (by kernel_rfl)
theorem zpT (a1:zd):zcY a1 =
 (uM a1.Workers 1 16).bind fun y1 =>
 bif y1.1 then
 (uM a1.Mutators 0 16).bind fun y2 =>
 bif y2.1 then
  (uM a1.Cap 1 16).bind fun y3 =>
  bif y3.1 then
  (uM a1.Buf 1 8).bind fun y4 =>
  bif y4.1 then
   (uM a1.Bin 1 8).bind fun y5 =>
   bif y5.1 then
   bif decide (0<=(bif decide (a1.Limit<a1.Price) then a1.Limit else a1.Price)) then
    some (decide ((bif decide (a1.Price<a1.Limit) then a1.Limit else a1.Price)<=1000000),())
   else
    some (false,())
   else
   some (false,())
  else
   some (false,())
  else
  some (false,())
 else
  some (false,())
 else
 some (false,()):=zx (by kernel_rfl)
theorem zsV (a1:Int) (a2:Int):zow a1 a2 =
 (uM a1 0 a2).bind fun y1 =>
 some (!y1.1,()):=zx (by kernel_rfl)
theorem uu (s1:List Int) (s2:Int) (s3:Int) (s4:Int):u0 (s1,s2,s3,s4,()) =
 bif decide (s3<s2) then
 (idx s1 s3).bind fun x1 =>
 (zow x1 s4).bind fun y2 =>
 bif y2.1 then
  some (.ret (s3,()))
 else
  some (.again (s1,s2,w64 (s3+1),s4,()))
 else
 some (.brk (())):=by kernel_rfl
theorem Vi (a1:List Int) (a2:Int):ZB a1 a2 =
 (zX u0 (a1,(a1.length:Int),0,a2,())).bind fun st=>match st with
  | .again _=>none
  | .brk y1 =>
  some (-1,())
  | .ret y1 =>
  some (y1.1,()):=zx (by kernel_rfl)
theorem Wv (a1:List Int) (a2:Int):wI a1 a2 =
 (ZB a1 a2).bind fun y1 =>
 some (decide (0<=y1.1),()):=zx (by kernel_rfl)
theorem zsG (a1:Int) (a2:Int):yf a1 a2 =
 bif decide (0<=a1) then
 some (decide (a1<(bif decide (4<a2) then 4 else a2)),())
 else
 some (false,()):=zx (by kernel_rfl)
theorem zwk (a1:zw) (a2:Int) (a3:Int):zlr a1 a2 a3 =
 bif decide (0<=a1.S) then
 bif decide (a1.Kind=1) then
  bif decide (a1.Kind=1) then
  (yf a1.R a2).bind fun y1 =>
  bif y1.1 then
   (yf a1.A a2).bind fun y2 =>
   bif y2.1 then
   some (decide (a1.S<(bif decide (4<a3) then 4 else a3)),())
   else
   some (false,())
  else
   some (false,())
  else
  bif decide (a1.Kind=4) then
   (yf a1.R a2).bind fun y3 =>
   bif y3.1 then
   (yf a1.A a2).bind fun y4 =>
   bif y4.1 then
    some (decide (a1.S=0),())
   else
    some (false,())
   else
   some (false,())
  else
   bif decide (a1.Kind=3) then
   bif decide (a1.Kind=3) then
    (yf a1.R a2).bind fun y5 =>
    bif y5.1 then
    bif decide (a1.A=0) then
     some (decide (a1.S=0),())
    else
     some (false,())
    else
    some (false,())
   else
    some (false,())
   else
   bif decide (a1.Kind=5) then
    (yf a1.R a2).bind fun y6 =>
    bif y6.1 then
    bif decide (a1.A=0) then
     some (decide (a1.S=0),())
    else
     some (false,())
    else
    some (false,())
   else
    some (false,())
 else
  bif decide (a1.Kind=2) then
  (yf a1.R a2).bind fun y7 =>
  bif y7.1 then
   (yf a1.A a2).bind fun y8 =>
   bif y8.1 then
   some (decide (a1.S<(bif decide (4<a3) then 4 else a3)),())
   else
   some (false,())
  else
   some (false,())
  else
  bif decide (a1.Kind=4) then
   (yf a1.R a2).bind fun y9 =>
   bif y9.1 then
   (yf a1.A a2).bind fun y10 =>
   bif y10.1 then
    some (decide (a1.S=0),())
   else
    some (false,())
   else
   some (false,())
  else
   bif decide (a1.Kind=3) then
   bif decide (a1.Kind=3) then
    (yf a1.R a2).bind fun y11 =>
    bif y11.1 then
    bif decide (a1.A=0) then
     some (decide (a1.S=0),())
    else
     some (false,())
    else
    some (false,())
   else
    some (false,())
   else
   bif decide (a1.Kind=5) then
    (yf a1.R a2).bind fun y12 =>
    bif y12.1 then
    bif decide (a1.A=0) then
     some (decide (a1.S=0),())
    else
     some (false,())
    else
    some (false,())
   else
    some (false,())
 else
 bif decide (a1.Kind=1) then
  bif decide (a1.Kind=1) then
  (yf a1.R a2).bind fun y13 =>
  bif y13.1 then
   (yf a1.A a2).bind fun y14 =>
   bif y14.1 then
   some (false,())
   else
   some (false,())
  else
   some (false,())
  else
  bif decide (a1.Kind=4) then
   (yf a1.R a2).bind fun y15 =>
   bif y15.1 then
   (yf a1.A a2).bind fun y16 =>
   bif y16.1 then
    some (decide (a1.S=0),())
   else
    some (false,())
   else
   some (false,())
  else
   bif decide (a1.Kind=3) then
   bif decide (a1.Kind=3) then
    (yf a1.R a2).bind fun y17 =>
    bif y17.1 then
    bif decide (a1.A=0) then
     some (decide (a1.S=0),())
    else
     some (false,())
    else
    some (false,())
   else
    some (false,())
   else
   bif decide (a1.Kind=5) then
    (yf a1.R a2).bind fun y18 =>
    bif y18.1 then
    bif decide (a1.A=0) then
     some (decide (a1.S=0),())
    else
     some (false,())
    else
    some (false,())
   else
    some (false,())
 else
  bif decide (a1.Kind=2) then
  (yf a1.R a2).bind fun y19 =>
  bif y19.1 then
   (yf a1.A a2).bind fun y20 =>
   bif y20.1 then
   some (false,())
   else
   some (false,())
  else
   some (false,())
  else
  bif decide (a1.Kind=4) then
   (yf a1.R a2).bind fun y21 =>
   bif y21.1 then
   (yf a1.A a2).bind fun y22 =>
   bif y22.1 then
    some (decide (a1.S=0),())
   else
    some (false,())
   else
   some (false,())
  else
   bif decide (a1.Kind=3) then
   bif decide (a1.Kind=3) then
    (yf a1.R a2).bind fun y23 =>
    bif y23.1 then
    bif decide (a1.A=0) then
     some (decide (a1.S=0),())
    else
     some (false,())
    else
    some (false,())
   else
    some (false,())
   else
   bif decide (a1.Kind=5) then
    (yf a1.R a2).bind fun y24 =>
    bif y24.1 then
    bif decide (a1.A=0) then
     some (decide (a1.S=0),())
    else
     some (false,())
    else
    some (false,())
   else
    some (false,()):=zx (by kernel_rfl)
theorem zuB (a1:zw) (a2:Int) (a3:Int):zqw a1 a2 a3 =
 (zlr a1 a2 a3).bind fun y1 =>
 some (!y1.1,()):=zx (by kernel_rfl)
theorem vh (s1:List zw) (s2:Int) (s3:Int) (s4:Int) (s5:Int):vK (s1,s2,s3,s4,s5,()) =
 bif decide (s3<s2) then
 (idx s1 s3).bind fun x1 =>
 (zqw x1 s4 s5).bind fun y2 =>
 bif y2.1 then
  some (.ret (s3,()))
 else
  some (.again (s1,s2,w64 (s3+1),s4,s5,()))
 else
 some (.brk (())):=by kernel_rfl
theorem Xm (a1:List zw) (a2:Int) (a3:Int):uj a1 a2 a3 =
 (zX vK (a1,(a1.length:Int),0,a2,a3,())).bind fun st=>match st with
  | .again _=>none
  | .brk y1 =>
  some (-1,())
  | .ret y1 =>
  some (y1.1,()):=zx (by kernel_rfl)
theorem YT (a1:List zw) (a2:Int) (a3:Int):vN a1 a2 a3 =
 (uj a1 a2 a3).bind fun y1 =>
 some (decide (0<=y1.1),()):=zx (by kernel_rfl)
theorem zwN (a1:List zw) (a2:Int) (a3:Int):zol a1 a2 a3 =
 bif decide (((a1.length:Int))<=64) then
 (vN a1 a2 a3).bind fun y1 =>
 some (!y1.1,())
 else
 some (false,()):=zx (by kernel_rfl)
theorem zwj (a1:zj):zrV a1 =
 bif decide (a1.Kind=0) then
 some (decide (a1.N=0),())
 else
 bif decide (a1.Kind=1) then
  bif decide (1<=a1.N) then
  some (decide (a1.N<=16),())
  else
  some (false,())
 else
  bif decide (a1.Kind=2) then
  bif decide (1<=a1.N) then
   some (decide (a1.N<=16),())
  else
   some (false,())
  else
  some (false,()):=zx (by kernel_rfl)
theorem Z6 (s1:List zj) (s2:Int) (s3:Int) (s4:Int) (s5:Int):w9 (s1,s2,s3,s4,s5,()) =
 bif decide (s3<s2) then
 (idx s1 s3).bind fun x1 =>
 (zwX x1 s4 s5).bind fun y2 =>
 bif y2.1 then
  some (.ret (s3,()))
 else
  some (.again (s1,s2,w64 (s3+1),s4,s5,()))
 else
 some (.brk (())):=by kernel_rfl
theorem Yz (a1:List zj) (a2:Int) (a3:Int):vo a1 a2 a3 =
 (zX w9 (a1,(a1.length:Int),0,a2,a3,())).bind fun st=>match st with
  | .again _=>none
  | .brk y1 =>
  some (-1,())
  | .ret y1 =>
  some (y1.1,()):=zx (by kernel_rfl)
theorem Z7 (a1:List zj) (a2:Int) (a3:Int):va a1 a2 a3 =
 (vo a1 a2 a3).bind fun y1 =>
 some (decide (0<=y1.1),()):=zx (by kernel_rfl)
theorem zwc (a1:List zj) (a2:Int) (a3:Int):zlf a1 a2 a3 =
 (va a1 a2 a3).bind fun y1 =>
 some (!y1.1,()):=zx (by kernel_rfl)
theorem zh7 (s1:List (List Int)) (s2:Int) (s3:Int) (s4:zd) (s5:Int):znn (s1,s2,s3,s4,s5,()) =
 bif decide (s3<s2) then
 (idx s1 s3).bind fun x1 =>
 (uM ((x1.length:Int)) 1 4).bind fun y2 =>
 bif !y2.1 then
  some (.ret (false,()))
 else
  (wI x1 s5).bind fun y3 =>
  bif y3.1 then
  some (.ret (false,()))
  else
  (idx s4.Progs s3).bind fun x4 =>
  (zol x4 ((x1.length:Int)) s4.H.Slots).bind fun y5 =>
  bif !y5.1 then
   some (.ret (false,()))
  else
   some (.again (s1,s2,w64 (s3+1),s4,s5,()))
 else
 some (.brk (s4,())):=by kernel_rfl
theorem zu9 (a1:zd):zme a1 =
 (zcY a1).bind fun y1 =>
 bif !y1.1 then
 some (false,())
 else
 (Xj a1.H).bind fun y2 =>
 bif !y2.1 then
  some (false,())
 else
  (uM a1.Most ((a1.H.Objs.length:Int)) 64).bind fun y3 =>
  bif !y3.1 then
  some (false,())
  else
  (Ug ((a1.H.Objs.length:Int))).bind fun y4 =>
  (Z9 a1.Roots y4.1).bind fun y5 =>
  bif !y5.1 then
   some (false,())
  else
   bif !(decide (((a1.Regs.length:Int))=a1.Mutators)) then
   some (false,())
   else
   bif !(decide (((a1.Progs.length:Int))=a1.Mutators)) then
    some (false,())
   else
    (zX znn (a1.Regs,(a1.Regs.length:Int),0,a1,(a1.H.Objs.length:Int),())).bind fun st=>match st with
     | .again _=>none
     | .brk y6 =>
     bif decide (((y6.1.Picks.length:Int))<=100000) then
     (zlf y6.1.Picks y6.1.Workers y6.1.Mutators).bind fun y7 =>
     some (y7.1,())
     else
     some (false,())
     | .ret y6 =>
     some (y6.1,()):=zx (by kernel_rfl)
theorem zz2 (a1:Int):zns a1 =
 bif decide (a1<1) then
 some (0#64,())
 else
 bif decide (64<a1) then
  some (0#64,())
 else
  bif decide ((w64 (a1-1))<0) then
  none
  else
  some (1#64 <<< min (w64 (a1-1)).toNat 64,()):=zx (by kernel_rfl)
theorem zzN (a1:BitVec 64) (a2:Int):Yw a1 a2 =
 (zns a2).bind fun y1 =>
 some (a1|||y1.1,()):=zx (by kernel_rfl)
theorem zwJ (s1:BitVec 64) (s2:List Int) (s3:Int) (s4:Int):znZ (s1,s2,s3,s4,()) =
 bif decide (s4<s3) then
 (idx s2 s4).bind fun x1 =>
 (Yw s1 x1).bind fun y2 =>
 some (.again (y2.1,s2,s3,w64 (s4+1),()))
 else
 some (.brk (s1,())):=by kernel_rfl
theorem zCn (a1:List Int):zkY a1 =
 (zX znZ (0#64,a1,(a1.length:Int),0,())).bind fun st=>match st with
  | .again _=>none
  | .brk y1 =>
  some (y1.1,())
  | .ret y1 =>
  none:=zx (by kernel_rfl)
theorem zsi (s1:BitVec 64) (s2:List (List Int)) (s3:Int) (s4:Int):zfb (s1,s2,s3,s4,()) =
 bif decide (s4<s3) then
 (idx s2 s4).bind fun x1 =>
 (zkY x1).bind fun y2 =>
 some (.again (s1|||y2.1,s2,s3,w64 (s4+1),()))
 else
 some (.brk (s1,())):=by kernel_rfl
theorem zwp (a1:zd):zeO a1 =
 (zX zfb (a1.Roots,a1.Regs,(a1.Regs.length:Int),0,())).bind fun st=>match st with
  | .again _=>none
  | .brk y1 =>
  some (y1.1,())
  | .ret y1 =>
  none:=zx (by kernel_rfl)
theorem zvK (a1:Int):zlP a1 =
 bif decide ((bif decide ((bif decide (16<a1) then 16 else a1)<0) then 0 else (bif decide (16<a1) then 16 else a1))=(bif decide ((bif decide (16<a1) then 16 else a1)<0) then 0 else (bif decide (16<a1) then 16 else a1))) then
 (W4 (bif decide ((bif decide (16<a1) then 16 else a1)<0) then 0 else (bif decide (16<a1) then 16 else a1))).bind fun n1 =>
 some (zr.mk 0 0 0 (List.replicate n1 ((0:Int))),())
 else
 none:=zx (by kernel_rfl)
theorem zi9 (a1:List Int):yM a1 =
 bif a1.isEmpty then
 zlV (
  some (([]:List Int),())) (
  (yq (([]:List Int)++a1)).bind fun l1 =>
  some (l1,()))
 else
 (yq (([]:List Int)++a1)).bind fun l2 =>
 some (l2,()):=zx (by kernel_rfl)
theorem WZ (s1:Int) (s2:Int) (s3:List (List Int)):yR (s1,s2,s3,()) =
 bif decide (s2<s1) then
 (xM s3 s2).bind fun n1 =>
 (s3[n1]?).bind fun x2 =>
 (yM x2).bind fun y3 =>
 (xM s3 s2).bind fun n4 =>
 some (.again (s1,w64 (s2+1),s3.set n4 y3.1,()))
 else
 some (.brk (s3,())):=by kernel_rfl
theorem VO (a1:List (List Int)):vi a1 =
 bif decide (((a1.length:Int))=((a1.length:Int))) then
 (W4 ((a1.length:Int))).bind fun n1 =>
 bif decide (a1.length=((List.replicate n1 ([]:List Int)).length)) then
  bif a1.isEmpty then
  (zX yR (((List.replicate n1 ([]:List Int)).length:Int),0,List.replicate n1 ([]:List Int),())).bind fun st=>match st with
   | .again _=>none
   | .brk y2 =>
   some (y2.1,())
   | .ret y2 =>
   none
  else
  (zX yR ((a1.length:Int),0,a1,())).bind fun st=>match st with
   | .again _=>none
   | .brk y3 =>
   some (y3.1,())
   | .ret y3 =>
   none
 else
  none
 else
 none:=zx (by kernel_rfl)
theorem zuv (a1:Int):zi7 a1 =
 bif decide ((w64 (2+(bif decide (64<(bif decide (a1<1) then 1 else a1)) then 64 else (bif decide (a1<1) then 1 else a1))))=(w64 (2+(bif decide (64<(bif decide (a1<1) then 1 else a1)) then 64 else (bif decide (a1<1) then 1 else a1))))) then
 (W4 (w64 (2+(bif decide (64<(bif decide (a1<1) then 1 else a1)) then 64 else (bif decide (a1<1) then 1 else a1))))).bind fun n1 =>
 (xM (List.replicate n1 0#64) 0).bind fun n2 =>
 (xM ((List.replicate n1 0#64).set n2 1#64) 1).bind fun n3 =>
 some (((List.replicate n1 0#64).set n2 1#64).set n3 1#64,())
 else
 none:=zx (by kernel_rfl)
theorem zaO (a1:Int) (a2:Int) (a3:Int) (a4:Int):zdE a1 a2 a3 a4 =
 some (zg.mk a1 0 a2 a3 0#64 0#64 a4 0,()):=zx (by kernel_rfl)
theorem ztS (a1:zd) (a2:Int):xm a1 a2 =
 some (w64 ((w64 (a2-1))*(w64 (a1.Cap+2))),()):=zx (by kernel_rfl)
theorem zwz (a1:zd):zhq a1 =
 some (w64 ((w64 (a1.Most+a1.Workers))+a1.Mutators),()):=zx (by kernel_rfl)
theorem zjn (a1:List Int) (a2:Int):zcP a1 a2 =
 bif decide (a2<1) then
 none
 else
 some (a1,a2,()):=zx (by kernel_rfl)
theorem zqx (a1:BitVec 64):zv9 a1 =
 some (a1,()):=zx (by kernel_rfl)
theorem zuy (y:Int) (s1:List Int):zjv y (s1,()) =
 (yq (s1++([y]:List Int))).bind fun l1 =>
 some (l1,()):=by kernel_rfl
theorem zqy (a1:BitVec 64):zfh a1 =
 (zv9 a1).bind fun y1 =>
 (zkT y1.1).bind fun (ys2:List Int) =>
 (Zw zjv ys2 (([]:List Int),())).bind fun (y3:(List Int)×Unit) =>
 some (y3.1,()):=zx (by kernel_rfl)
theorem zyQ (a1:BitVec 64):zva a1 =
 some (a1,true,()):=zx (by kernel_rfl)
theorem zy9 (a1:BitVec 64) (a2:Yr):zvh a1 a2 =
 some (a2.A,true,()):=zx (by kernel_rfl)
theorem zyR (a1:BitVec 64) (a2:Yr):zvw a1 a2 =
 some (a2.B,decide (a1=a2.A),()):=zx (by kernel_rfl)
theorem zdN (a1:List (BitVec 64)):xW a1 =
 bif a1.isEmpty then
 zlV (
  some (([]:List (BitVec 64)),())) (
  (yq ((([]:List (BitVec 64)))++a1)).bind fun l1 =>
  some (l1,()))
 else
 (yq ((([]:List (BitVec 64)))++a1)).bind fun l2 =>
 some (l2,()):=zx (by kernel_rfl)
theorem znE (a1:List (BitVec 64)) (a2:Yr):XC a1 a2 =
 bif decide (a2.Kind=1) then
 bif decide (a2.At<0) then
  some (a1,0#64,false,())
 else
  bif decide (((a1.length:Int))<=a2.At) then
  some (a1,0#64,false,())
  else
  (idx a1 a2.At).bind fun x1 =>
  (zva x1).bind fun y2 =>
  bif y2.2.1 then
   bif !(decide (x1=y2.1)) then
   (xW a1).bind fun y3 =>
   (xM y3.1 a2.At).bind fun n4 =>
   some (y3.1.set n4 y2.1,x1,y2.2.1,())
   else
   some (a1,x1,y2.2.1,())
  else
   some (a1,x1,y2.2.1,())
 else
 bif decide (a2.Kind=2) then
  bif decide (a2.At<0) then
  some (a1,0#64,false,())
  else
  bif decide (((a1.length:Int))<=a2.At) then
   some (a1,0#64,false,())
  else
   (idx a1 a2.At).bind fun x5 =>
   (zvh x5 a2).bind fun y6 =>
   bif y6.2.1 then
   bif !(decide (x5=y6.1)) then
    (xW a1).bind fun y7 =>
    (xM y7.1 a2.At).bind fun n8 =>
    some (y7.1.set n8 y6.1,x5,y6.2.1,())
   else
    some (a1,x5,y6.2.1,())
   else
   some (a1,x5,y6.2.1,())
 else
  bif decide (a2.Kind=3) then
  bif decide (a2.At<0) then
   some (a1,0#64,false,())
  else
   bif decide (((a1.length:Int))<=a2.At) then
   some (a1,0#64,false,())
   else
   (idx a1 a2.At).bind fun x9 =>
   (zvw x9 a2).bind fun y10 =>
   bif y10.2.1 then
    bif !(decide (x9=y10.1)) then
    (xW a1).bind fun y11 =>
    (xM y11.1 a2.At).bind fun n12 =>
    some (y11.1.set n12 y10.1,x9,y10.2.1,())
    else
    some (a1,x9,y10.2.1,())
   else
    some (a1,x9,y10.2.1,())
  else
  bif decide (a2.Kind=4) then
   bif decide (a2.At<0) then
   some (a1,0#64,false,())
   else
   bif decide (((a1.length:Int))<=a2.At) then
    some (a1,0#64,false,())
   else
    (idx a1 a2.At).bind fun x13 =>
    (zDz x13 a2).bind fun y14 =>
    bif y14.2.1 then
    bif !(decide (x13=y14.1)) then
     (xW a1).bind fun y15 =>
     (xM y15.1 a2.At).bind fun n16 =>
     some (y15.1.set n16 y14.1,x13,y14.2.1,())
    else
     some (a1,x13,y14.2.1,())
    else
    some (a1,x13,y14.2.1,())
  else
   bif decide (a2.At<0) then
   some (a1,0#64,false,())
   else
   bif decide (((a1.length:Int))<=a2.At) then
    some (a1,0#64,false,())
   else
    some (a1,0#64,false,()):=zx (by kernel_rfl)
theorem ztR (a1:List (BitVec 64)) (a2:Int) (a3:BitVec 64):XL a1 a2 a3 =
 (XC a1 (Yr.mk 2 a2 a3 0#64)).bind fun y1 =>
 some (y1.1,()):=zx (by kernel_rfl)
theorem zwq (a1:BitVec 64) (a2:Int):UL a1 a2 =
 some ((a1 <<< 32)|||((BitVec.ofInt 64 a2)&&&4294967295#64),()):=zx (by kernel_rfl)
theorem zjL (s1:List (BitVec 64)) (s2:Int) (s3:Int) (s4:List Int) (s5:Int) (s6:Int):zgX (s1,s2,s3,s4,s5,s6,()) =
 bif decide (s6<s5) then
 bif decide ((w64 (s6+1))<((s4.length:Int))) then
  (idx s4 (w64 (s6+1))).bind fun x1 =>
  (idx s4 s6).bind fun x2 =>
  (XL s1 (w64 (s3+x2)) (BitVec.ofInt 64 x1)).bind fun y3 =>
  some (.again (y3.1,s2,s3,s4,s5,w64 (s6+1),()))
 else
  (idx s4 s6).bind fun x4 =>
  (XL s1 (w64 (s3+x4)) 0#64).bind fun y5 =>
  some (.again (y5.1,s2,s3,s4,s5,w64 (s6+1),()))
 else
 some (.brk (s1,s2,s4,())):=by kernel_rfl
theorem zwO (a1:List (BitVec 64)) (a2:Int) (a3:Int) (a4:List Int):zhD a1 a2 a3 a4 =
 (zX zgX (a1,a2,a3,a4,(a4.length:Int),0,())).bind fun st=>match st with
  | .again _=>none
  | .brk y1 =>
  bif decide (0<((y1.2.2.1.length:Int))) then
  (idx y1.2.2.1 0).bind fun x2 =>
  (UL 0#64 x2).bind fun y3 =>
  (XL y1.1 y1.2.1 y3.1).bind fun y4 =>
  some (y4.1,())
  else
  (UL 0#64 0).bind fun y5 =>
  (XL y1.1 y1.2.1 y5.1).bind fun y6 =>
  some (y6.1,())
  | .ret y1 =>
  none:=zx (by kernel_rfl)
theorem zvS (a1:zd):Y3 a1 =
 some (w64 (a1.Workers*(w64 (a1.Cap+2))),()):=zx (by kernel_rfl)
theorem zum (a1:zd):Xx a1 =
 (Y3 a1).bind fun y1 =>
 some (w64 (y1.1+1),()):=zx (by kernel_rfl)
theorem zvt (a1:zd):Yc a1 =
 (Xx a1).bind fun y1 =>
 some (y1.1,()):=zx (by kernel_rfl)
end Go.Pe.G
namespace Go.Pe.G
open Go.Pe
theorem zs0 (s1:BitVec 64) (s2:Int) (s3:Int) (s4:zd) (s5:Int) (s6:Int) (s7:Int) (s8:Int) (s9:Int) (s10:Int) (s11:Int) (s12:Int) (s13:Int) (s14:BitVec 64) (s15:Int) (s16:zm) (s17:Int) (s18:Int) (s19:Bool) (s20:Bool) (s21:Int) (s22:Int) (s23:Int) (s24:Int) (s25:zE) (s26:zd) (s27:Int) (s28:zm) (s29:Int) (s30:Int) (s31:Bool) (s32:Bool) (s33:Int) (s34:zr) (s35:zE) (s36:List (List Int)) (s37:List (List Int)) (s38:List (List zw)) (s39:List zj) (s40:List (List Int)) (s41:List (BitVec 64)) (s42:List (List Int)) (s43:List Int) (s44:List Int) (s45:List zk) (s46:List ze) (s47:List (List Int)) (s48:List (BitVec 64)) (s49:List (List Int)) (s50:List Int) (s51:List zk) (s52:List ze):zcE (s1,s2,s3,s4,s5,s6,s7,s8,s9,s10,s11,s12,s13,s14,s15,s16,s17,s18,s19,s20,s21,s22,s23,s24,s25,s26,s27,s28,s29,s30,s31,s32,s33,s34,s35,s36,s37,s38,s39,s40,s41,s42,s43,s44,s45,s46,s47,s48,s49,s50,s51,s52,()) =
 bif decide (s3<s2) then
 (zi7 s4.Cap).bind fun y1 =>
 (yq (s48++y1.1)).bind fun l2 =>
 (xm s4 (w64 (s3+1))).bind fun y3 =>
 (zdE 2 y3.1 s4.Cap 0).bind fun y4 =>
 (yq (s51++(([(zk.mk 0 0 0 (w64 (s3+1)) 0 (([]:List Int)) y4.1 (zL.mk 0 0 0 0 0#64 0 0 0) (zB.mk 0 0 0 0 (zg.mk 0 0 0 0 0#64 0#64 0 0) (zL.mk 0 0 0 0 0#64 0 0 0) 0 0))]:List zk)))).bind fun l5 =>
 some (.again (s1,s2,w64 (s3+1),s4,s5,s6,s7,s8,s9,s10,s11,s12,s13,s14,s15,s16,s17,s18,s19,s20,s21,s22,s23,s24,s25,s26,s27,s28,s29,s30,s31,s32,s33,s34,s35,s36,s37,s38,s39,s40,s41,s42,s43,s44,s45,s46,s47,l2,s49,s50,l5,s52,()))
 else
 some (.brk (s1,s4,s5,s6,s7,s8,s9,s10,s11,s12,s13,s14,s15,s16,s17,s18,s19,s20,s21,s22,s23,s24,s25,s26,s27,s28,s29,s30,s31,s32,s33,s34,s35,s36,s37,s38,s39,s40,s41,s42,s43,s44,s45,s46,s47,s48,s49,s50,s51,s52,())):=by kernel_rfl
theorem zq7 (s1:BitVec 64) (s2:Int) (s3:Int) (s4:zd) (s5:Int) (s6:Int) (s7:Int) (s8:Int) (s9:Int) (s10:Int) (s11:Int) (s12:Int) (s13:Int) (s14:BitVec 64) (s15:Int) (s16:zm) (s17:Int) (s18:Int) (s19:Bool) (s20:Bool) (s21:Int) (s22:Int) (s23:Int) (s24:Int) (s25:zE) (s26:zd) (s27:Int) (s28:zm) (s29:Int) (s30:Int) (s31:Bool) (s32:Bool) (s33:Int) (s34:zr) (s35:zE) (s36:List Int) (s37:List (List Int)) (s38:List (List Int)) (s39:List (List zw)) (s40:List zj) (s41:List (List Int)) (s42:List (BitVec 64)) (s43:List (List Int)) (s44:List Int) (s45:List Int) (s46:List zk) (s47:List ze) (s48:List (List Int)) (s49:List (BitVec 64)) (s50:List (List Int)) (s51:List Int) (s52:List zk) (s53:List ze):zbG (s1,s2,s3,s4,s5,s6,s7,s8,s9,s10,s11,s12,s13,s14,s15,s16,s17,s18,s19,s20,s21,s22,s23,s24,s25,s26,s27,s28,s29,s30,s31,s32,s33,s34,s35,s36,s37,s38,s39,s40,s41,s42,s43,s44,s45,s46,s47,s48,s49,s50,s51,s52,s53,()) =
 bif decide (s3<s2) then
 (yq (s36++(([(w64 (s3+1))]:List Int)))).bind fun l1 =>
 some (.again (s1,s2,w64 (s3+1),s4,s5,s6,s7,s8,s9,s10,s11,s12,s13,s14,s15,s16,s17,s18,s19,s20,s21,s22,s23,s24,s25,s26,s27,s28,s29,s30,s31,s32,s33,s34,s35,l1,s37,s38,s39,s40,s41,s42,s43,s44,s45,s46,s47,s48,s49,s50,s51,s52,s53,()))
 else
 some (.brk (s1,s4,s5,s6,s7,s8,s9,s10,s11,s12,s13,s14,s15,s16,s17,s18,s19,s20,s21,s22,s23,s24,s25,s26,s27,s28,s29,s30,s31,s32,s33,s34,s35,s36,s37,s38,s39,s40,s41,s42,s43,s44,s45,s46,s47,s48,s49,s50,s51,s52,s53,())):=by kernel_rfl
theorem zrU (y:List Int) (s1:zd) (s2:Int) (s3:Int) (s4:Int) (s5:Int) (s6:Int) (s7:Int) (s8:Int) (s9:Int) (s10:Int) (s11:BitVec 64) (s12:Int) (s13:zm) (s14:Int) (s15:Int) (s16:Bool) (s17:Bool) (s18:Int) (s19:Int) (s20:Int) (s21:Int) (s22:zE) (s23:zd) (s24:Int) (s25:zm) (s26:Int) (s27:Int) (s28:Bool) (s29:Bool) (s30:Int) (s31:zr) (s32:zE) (s33:List Int) (s34:List (List Int)) (s35:List (List Int)) (s36:List (List zw)) (s37:List zj) (s38:List (List Int)) (s39:List (BitVec 64)) (s40:List (List Int)) (s41:List Int) (s42:List Int) (s43:List zk) (s44:List ze) (s45:List (List Int)) (s46:List (BitVec 64)) (s47:List (List Int)) (s48:List Int) (s49:List zk) (s50:List ze):ze5 y (s1,s2,s3,s4,s5,s6,s7,s8,s9,s10,s11,s12,s13,s14,s15,s16,s17,s18,s19,s20,s21,s22,s23,s24,s25,s26,s27,s28,s29,s30,s31,s32,s33,s34,s35,s36,s37,s38,s39,s40,s41,s42,s43,s44,s45,s46,s47,s48,s49,s50,()) =
 (yM y).bind fun y1 =>
 (yq (s47++(([y1.1]:List (List Int))))).bind fun l2 =>
 some (s1,s2,s3,s4,s5,s6,s7,s8,s9,s10,s11,s12,s13,s14,s15,s16,s17,s18,s19,s20,s21,s22,s23,s24,s25,s26,s27,s28,s29,s30,s31,s32,s33,s34,s35,s36,s37,s38,s39,s40,s41,s42,s43,s44,s45,s46,l2,s48,s49,s50,()):=by kernel_rfl
theorem zrx (s1:List (List Int)) (s2:Int) (s3:Int) (s4:Int) (s5:Int) (s6:Int) (s7:Int) (s8:Int) (s9:Int) (s10:Int) (s11:Int) (s12:Int) (s13:BitVec 64) (s14:Int) (s15:zm) (s16:Int) (s17:Int) (s18:Bool) (s19:Bool) (s20:Int) (s21:Int) (s22:Int) (s23:Int) (s24:zE) (s25:zd) (s26:Int) (s27:List (BitVec 64)) (s28:zm) (s29:Int) (s30:Int) (s31:Bool) (s32:Bool) (s33:Int) (s34:zr) (s35:zE) (s36:List (List Int)) (s37:List (List Int)) (s38:List (List zw)) (s39:List zj) (s40:List (List Int)) (s41:List (BitVec 64)) (s42:List (List Int)) (s43:List Int) (s44:List Int) (s45:List zk) (s46:List ze) (s47:List (List Int)) (s48:List (List Int)) (s49:List Int) (s50:List zk) (s51:List ze):zbt (s1,s2,s3,s4,s5,s6,s7,s8,s9,s10,s11,s12,s13,s14,s15,s16,s17,s18,s19,s20,s21,s22,s23,s24,s25,s26,s27,s28,s29,s30,s31,s32,s33,s34,s35,s36,s37,s38,s39,s40,s41,s42,s43,s44,s45,s46,s47,s48,s49,s50,s51,()) =
 bif decide (s3<s2) then
 (idx s1 s3).bind fun x1 =>
 (yM x1).bind fun y2 =>
 (yq (s51++(([(ze.mk 0 0 0 0 0 0 0 0 y2.1 (([]:List Int)) (([]:List Int)) (zL.mk 0 0 0 0 0#64 0 0 0) (zB.mk 0 0 0 0 (zg.mk 0 0 0 0 0#64 0#64 0 0) (zL.mk 0 0 0 0 0#64 0 0 0) 0 0))]:List ze)))).bind fun l3 =>
 some (.again (s1,s2,w64 (s3+1),s4,s5,s6,s7,s8,s9,s10,s11,s12,s13,s14,s15,s16,s17,s18,s19,s20,s21,s22,s23,s24,s25,s26,s27,s28,s29,s30,s31,s32,s33,s34,s35,s36,s37,s38,s39,s40,s41,s42,s43,s44,s45,s46,s47,s48,s49,s50,l3,()))
 else
 some (.brk (s4,s5,s6,s7,s8,s9,s10,s11,s12,s13,s14,s15,s16,s17,s18,s19,s20,s21,s22,s23,s24,s25,s26,s27,s28,s29,s30,s31,s32,s33,s34,s35,s36,s37,s38,s39,s40,s41,s42,s43,s44,s45,s46,s47,s48,s49,s50,s51,())):=by kernel_rfl
theorem zxR (a1:zd):zhz a1 =
 (zme a1).bind fun y1 =>
 bif !y1.1 then
 some (za.mk (zd.mk 0 0 0 0 0 0 0 0 (zq.mk 0 (([]:List (List Int)))) 0#64 (([]:List (List Int))) (([]:List (List zw))) (([]:List zj))) (zq.mk 0 (([]:List (List Int)))) (([]:List (BitVec 64))) (([]:List (List Int))) (zm.mk 0#64 0#64) 0 0 false false 0 (([]:List Int)) (zr.mk 0 0 0 (([]:List Int))) (([]:List zk)) (([]:List ze)) (zE.mk 0 0),())
 else
 (zeO a1).bind fun y2 =>
 (Wt y2.1).bind fun y3 =>
 (zlP a1.Mutators).bind fun y4 =>
 (vi a1.H.Objs).bind fun y5 =>
 (zX zcE (y2.1,a1.Workers,0,a1,0,0,0,0,0,0,0,0,0,0#64,0,zm.mk 0#64 0#64,0,0,false,false,0,0,0,0,zE.mk 0 0,a1,a1.H.Slots,zm.mk y2.1 0#64,y3.1,0,false,false,0,y4.1,zE.mk 0 0,([]:List (List Int)),([]:List (List Int)),([]:List (List zw)),([]:List zj),([]:List (List Int)),([]:List (BitVec 64)),([]:List (List Int)),([]:List Int),([]:List Int),([]:List zk),([]:List ze),y5.1,([]:List (BitVec 64)),([([]:List Int)]:List (List Int)),([]:List Int),([]:List zk),([]:List ze),())).bind fun st=>match st with
  | .again _=>none
  | .brk y6 =>
  let y6a:=y6.2.2.2.2.2.2.2.2;let y6b:=y6a.2.2.2.2.2.2.2.2;let y6c:=y6b.2.2.2.2.2.2.2.2;let y6d:=y6c.2.2.2.2.2.2.2.2;let y6e:=y6d.2.2.2.2.2.2.2.2;let y6f:=y6e.2.2.2.2.2.2.2.2
  (zhq y6.2.1).bind fun y7 =>
  (zix (w64 (2+y7.1))).bind fun n8 =>
  (yq (y6e.2.2.2.2.2.1++(List.replicate n8 0#64))).bind fun l9 =>
  (zhq y6.2.1).bind fun y10 =>
  (zX zbG (y6.1,y10.1,0,y6.2.1,y6.2.2.1,y6.2.2.2.1,y6.2.2.2.2.1,y6.2.2.2.2.2.1,y6.2.2.2.2.2.2.1,y6.2.2.2.2.2.2.2.1,y6a.1,y6a.2.1,y6a.2.2.1,y6a.2.2.2.1,y6a.2.2.2.2.1,y6a.2.2.2.2.2.1,y6a.2.2.2.2.2.2.1,y6a.2.2.2.2.2.2.2.1,y6b.1,y6b.2.1,y6b.2.2.1,y6b.2.2.2.1,y6b.2.2.2.2.1,y6b.2.2.2.2.2.1,y6b.2.2.2.2.2.2.1,y6b.2.2.2.2.2.2.2.1,y6c.1,y6c.2.1,y6c.2.2.1,y6c.2.2.2.1,y6c.2.2.2.2.1,y6c.2.2.2.2.2.1,y6c.2.2.2.2.2.2.1,y6c.2.2.2.2.2.2.2.1,y6d.1,([]:List Int),y6d.2.1,y6d.2.2.1,y6d.2.2.2.1,y6d.2.2.2.2.1,y6d.2.2.2.2.2.1,y6d.2.2.2.2.2.2.1,y6d.2.2.2.2.2.2.2.1,y6e.1,y6e.2.1,y6e.2.2.1,y6e.2.2.2.1,y6e.2.2.2.2.1,l9,y6e.2.2.2.2.2.2.1,y6e.2.2.2.2.2.2.2.1,y6f.1,y6f.2.1,())).bind fun st=>match st with
   | .again _=>none
   | .brk y11 =>
   let y11a:=y11.2.2.2.2.2.2.2.2;let y11b:=y11a.2.2.2.2.2.2.2.2;let y11c:=y11b.2.2.2.2.2.2.2.2;let y11d:=y11c.2.2.2.2.2.2.2.2;let y11e:=y11d.2.2.2.2.2.2.2.2;let y11f:=y11e.2.2.2.2.2.2.2.2
   (zfh y11.1).bind fun y12 =>
   (zcP y12.1 y11.2.1.Bin).bind fun y13 =>
   (zaX y13.1 y13.2.1).bind fun (ys14:List (List Int)) =>
   (Zw ze5 ys14 (y11.2.1,y11.2.2.1,y11.2.2.2.1,y11.2.2.2.2.1,y11.2.2.2.2.2.1,y11.2.2.2.2.2.2.1,y11.2.2.2.2.2.2.2.1,y11a.1,y11a.2.1,y11a.2.2.1,y11a.2.2.2.1,y11a.2.2.2.2.1,y11a.2.2.2.2.2.1,y11a.2.2.2.2.2.2.1,y11a.2.2.2.2.2.2.2.1,y11b.1,y11b.2.1,y11b.2.2.1,y11b.2.2.2.1,y11b.2.2.2.2.1,y11b.2.2.2.2.2.1,y11b.2.2.2.2.2.2.1,y11b.2.2.2.2.2.2.2.1,y11c.1,y11c.2.1,y11c.2.2.1,y11c.2.2.2.1,y11c.2.2.2.2.1,y11c.2.2.2.2.2.1,y11c.2.2.2.2.2.2.1,y11c.2.2.2.2.2.2.2.1,y11d.1,y11d.2.1,y11d.2.2.1,y11d.2.2.2.1,y11d.2.2.2.2.1,y11d.2.2.2.2.2.1,y11d.2.2.2.2.2.2.1,y11d.2.2.2.2.2.2.2.1,y11e.1,y11e.2.1,y11e.2.2.1,y11e.2.2.2.1,y11e.2.2.2.2.1,y11e.2.2.2.2.2.1,y11e.2.2.2.2.2.2.1,y11e.2.2.2.2.2.2.2.1,y11f.1,y11f.2.1,y11f.2.2.1,())).bind fun (y15:zd×Int×Int×Int×Int×Int×Int×Int×Int×Int×(BitVec 64)×Int×zm×Int×Int×Bool×Bool×Int×Int×Int×Int×zE×zd×Int×zm×Int×Int×Bool×Bool×Int×zr×zE×(List Int)×(List (List Int))×(List (List Int))×(List (List zw))×(List zj)×(List (List Int))×(List (BitVec 64))×(List (List Int))×(List Int)×(List Int)×(List zk)×(List ze)×(List (List Int))×(List (BitVec 64))×(List (List Int))×(List Int)×(List zk)×(List ze)×Unit) =>
   (zix (w64 (((y15.2.2.2.2.2.2.2.2.2.2.2.2.2.2.2.2.2.2.2.2.2.2.2.2.2.2.2.2.2.2.2.2.1.length:Int))-(w64 (((y15.2.2.2.2.2.2.2.2.2.2.2.2.2.2.2.2.2.2.2.2.2.2.2.2.2.2.2.2.2.2.2.2.2.2.2.2.2.2.2.2.2.2.2.2.2.2.1.length:Int))-1))))).bind fun n16 =>
   (yq (y15.2.2.2.2.2.2.2.2.2.2.2.2.2.2.2.2.2.2.2.2.2.2.2.2.2.2.2.2.2.2.2.2.2.2.2.2.2.2.2.2.2.2.2.2.2.2.1++(List.replicate n16 ([]:List Int)))).bind fun l17 =>
   (Y3 y15.1).bind fun y18 =>
   (Yc y15.1).bind fun y19 =>
   (cut y15.2.2.2.2.2.2.2.2.2.2.2.2.2.2.2.2.2.2.2.2.2.2.2.2.2.2.2.2.2.2.2.2.1 0 (w64 (((y15.2.2.2.2.2.2.2.2.2.2.2.2.2.2.2.2.2.2.2.2.2.2.2.2.2.2.2.2.2.2.2.2.2.2.2.2.2.2.2.2.2.2.2.2.2.2.1.length:Int))-1))).bind fun l20 =>
   (zhD y15.2.2.2.2.2.2.2.2.2.2.2.2.2.2.2.2.2.2.2.2.2.2.2.2.2.2.2.2.2.2.2.2.2.2.2.2.2.2.2.2.2.2.2.2.2.1 y18.1 y19.1 l20).bind fun y21 =>
   (Xx y15.1).bind fun y22 =>
   (Yc y15.1).bind fun y23 =>
   (cut y15.2.2.2.2.2.2.2.2.2.2.2.2.2.2.2.2.2.2.2.2.2.2.2.2.2.2.2.2.2.2.2.2.1 (w64 (((y15.2.2.2.2.2.2.2.2.2.2.2.2.2.2.2.2.2.2.2.2.2.2.2.2.2.2.2.2.2.2.2.2.2.2.2.2.2.2.2.2.2.2.2.2.2.2.1.length:Int))-1)) ((y15.2.2.2.2.2.2.2.2.2.2.2.2.2.2.2.2.2.2.2.2.2.2.2.2.2.2.2.2.2.2.2.2.1.length:Int))).bind fun l24 =>
   (zhD y21.1 y22.1 y23.1 l24).bind fun y25 =>
   bif decide (y15.1.Mutators=y15.1.Mutators) then
    (W4 y15.1.Mutators).bind fun n26 =>
    (zX zbt (y15.1.Regs,(y15.1.Regs.length:Int),0,y15.2.1,y15.2.2.1,y15.2.2.2.1,y15.2.2.2.2.1,y15.2.2.2.2.2.1,y15.2.2.2.2.2.2.1,y15.2.2.2.2.2.2.2.1,y15.2.2.2.2.2.2.2.2.1,y15.2.2.2.2.2.2.2.2.2.1,y15.2.2.2.2.2.2.2.2.2.2.1,y15.2.2.2.2.2.2.2.2.2.2.2.1,y15.2.2.2.2.2.2.2.2.2.2.2.2.1,y15.2.2.2.2.2.2.2.2.2.2.2.2.2.1,y15.2.2.2.2.2.2.2.2.2.2.2.2.2.2.1,y15.2.2.2.2.2.2.2.2.2.2.2.2.2.2.2.1,y15.2.2.2.2.2.2.2.2.2.2.2.2.2.2.2.2.1,y15.2.2.2.2.2.2.2.2.2.2.2.2.2.2.2.2.2.1,y15.2.2.2.2.2.2.2.2.2.2.2.2.2.2.2.2.2.2.1,y15.2.2.2.2.2.2.2.2.2.2.2.2.2.2.2.2.2.2.2.1,y15.2.2.2.2.2.2.2.2.2.2.2.2.2.2.2.2.2.2.2.2.1,y15.2.2.2.2.2.2.2.2.2.2.2.2.2.2.2.2.2.2.2.2.2.1,y15.2.2.2.2.2.2.2.2.2.2.2.2.2.2.2.2.2.2.2.2.2.2.1,y15.2.2.2.2.2.2.2.2.2.2.2.2.2.2.2.2.2.2.2.2.2.2.2.1,y25.1,y15.2.2.2.2.2.2.2.2.2.2.2.2.2.2.2.2.2.2.2.2.2.2.2.2.1,y15.2.2.2.2.2.2.2.2.2.2.2.2.2.2.2.2.2.2.2.2.2.2.2.2.2.1,y15.2.2.2.2.2.2.2.2.2.2.2.2.2.2.2.2.2.2.2.2.2.2.2.2.2.2.1,y15.2.2.2.2.2.2.2.2.2.2.2.2.2.2.2.2.2.2.2.2.2.2.2.2.2.2.2.1,y15.2.2.2.2.2.2.2.2.2.2.2.2.2.2.2.2.2.2.2.2.2.2.2.2.2.2.2.2.1,y15.2.2.2.2.2.2.2.2.2.2.2.2.2.2.2.2.2.2.2.2.2.2.2.2.2.2.2.2.2.1,y15.2.2.2.2.2.2.2.2.2.2.2.2.2.2.2.2.2.2.2.2.2.2.2.2.2.2.2.2.2.2.1,y15.2.2.2.2.2.2.2.2.2.2.2.2.2.2.2.2.2.2.2.2.2.2.2.2.2.2.2.2.2.2.2.1,y15.2.2.2.2.2.2.2.2.2.2.2.2.2.2.2.2.2.2.2.2.2.2.2.2.2.2.2.2.2.2.2.2.2.1,y15.2.2.2.2.2.2.2.2.2.2.2.2.2.2.2.2.2.2.2.2.2.2.2.2.2.2.2.2.2.2.2.2.2.2.1,y15.2.2.2.2.2.2.2.2.2.2.2.2.2.2.2.2.2.2.2.2.2.2.2.2.2.2.2.2.2.2.2.2.2.2.2.1,y15.2.2.2.2.2.2.2.2.2.2.2.2.2.2.2.2.2.2.2.2.2.2.2.2.2.2.2.2.2.2.2.2.2.2.2.2.1,y15.2.2.2.2.2.2.2.2.2.2.2.2.2.2.2.2.2.2.2.2.2.2.2.2.2.2.2.2.2.2.2.2.2.2.2.2.2.1,y15.2.2.2.2.2.2.2.2.2.2.2.2.2.2.2.2.2.2.2.2.2.2.2.2.2.2.2.2.2.2.2.2.2.2.2.2.2.2.1,y15.2.2.2.2.2.2.2.2.2.2.2.2.2.2.2.2.2.2.2.2.2.2.2.2.2.2.2.2.2.2.2.2.2.2.2.2.2.2.2.1,y15.2.2.2.2.2.2.2.2.2.2.2.2.2.2.2.2.2.2.2.2.2.2.2.2.2.2.2.2.2.2.2.2.2.2.2.2.2.2.2.2.1,y15.2.2.2.2.2.2.2.2.2.2.2.2.2.2.2.2.2.2.2.2.2.2.2.2.2.2.2.2.2.2.2.2.2.2.2.2.2.2.2.2.2.1,y15.2.2.2.2.2.2.2.2.2.2.2.2.2.2.2.2.2.2.2.2.2.2.2.2.2.2.2.2.2.2.2.2.2.2.2.2.2.2.2.2.2.2.1,y15.2.2.2.2.2.2.2.2.2.2.2.2.2.2.2.2.2.2.2.2.2.2.2.2.2.2.2.2.2.2.2.2.2.2.2.2.2.2.2.2.2.2.2.1,y15.2.2.2.2.2.2.2.2.2.2.2.2.2.2.2.2.2.2.2.2.2.2.2.2.2.2.2.2.2.2.2.2.2.2.2.2.2.2.2.2.2.2.2.2.1,l17,List.replicate n26 ((0:Int)),y15.2.2.2.2.2.2.2.2.2.2.2.2.2.2.2.2.2.2.2.2.2.2.2.2.2.2.2.2.2.2.2.2.2.2.2.2.2.2.2.2.2.2.2.2.2.2.2.2.1,y15.2.2.2.2.2.2.2.2.2.2.2.2.2.2.2.2.2.2.2.2.2.2.2.2.2.2.2.2.2.2.2.2.2.2.2.2.2.2.2.2.2.2.2.2.2.2.2.2.2.1,())).bind fun st=>match st with
     | .again _=>none
     | .brk y27 =>
     let y27a:=y27.2.2.2.2.2.2.2.2;let y27b:=y27a.2.2.2.2.2.2.2.2;let y27c:=y27b.2.2.2.2.2.2.2.2;let y27d:=y27c.2.2.2.2.2.2.2.2;let y27e:=y27d.2.2.2.2.2.2.2.2
     some (za.mk y27b.2.2.2.2.2.1 (zq.mk y27b.2.2.2.2.2.2.1 y27e.2.2.2.1) y27b.2.2.2.2.2.2.2.1 y27e.2.2.2.2.1 y27c.1 y27c.2.1 y27c.2.2.1 y27c.2.2.2.1 y27c.2.2.2.2.1 y27c.2.2.2.2.2.1 y27e.2.2.2.2.2.1 y27c.2.2.2.2.2.2.1 y27e.2.2.2.2.2.2.1 y27e.2.2.2.2.2.2.2.1 y27c.2.2.2.2.2.2.2.1,())
     | .ret y27 =>
     none
   else
    none
   | .ret y11 =>
   none
  | .ret y6 =>
  none:=zx (by kernel_rfl)
theorem zr7 (a1:za):zmY a1 =
 (Ug ((a1.P.H.Objs.length:Int))).bind fun y1 =>
 some (y1.1,()):=zx (by kernel_rfl)
theorem zwC (a1:za):Wu a1 =
 (Ug ((a1.H.Objs.length:Int))).bind fun y1 =>
 (zmY a1).bind fun y2 =>
 some (y1.1&&& ~~~y2.1,()):=zx (by kernel_rfl)
theorem zca (s1:List (List zw)) (s2:Int) (s3:Int) (s4:Int) (s5:Int) (s6:Int) (s7:Int) (s8:Int) (s9:Int) (s10:Int) (s11:Int) (s12:BitVec 64) (s13:Int) (s14:Int) (s15:Int) (s16:Int) (s17:Int) (s18:Int) (s19:Int) (s20:Int) (s21:Int) (s22:BitVec 64) (s23:List (List Int)) (s24:List (List Int)) (s25:List (List zw)) (s26:List zj) (s27:List (List Int)) (s28:List (List Int)) (s29:List (List zw)) (s30:List zj):zef (s1,s2,s3,s4,s5,s6,s7,s8,s9,s10,s11,s12,s13,s14,s15,s16,s17,s18,s19,s20,s21,s22,s23,s24,s25,s26,s27,s28,s29,s30,()) =
 bif decide (s2<((s1.length:Int))) then
 (yq (s28++(([([1,0]:List Int)]:List (List Int))))).bind fun l1 =>
 (idx s1 s2).bind fun x2 =>
 (yq (s29++(([x2]:List (List zw))))).bind fun l3 =>
 some (.again (s1,w64 (s2+1),s3,s4,s5,s6,s7,s8,s9,s10,s11,s12,s13,s14,s15,s16,s17,s18,s19,s20,s21,s22,s23,s24,s25,s26,s27,l1,l3,s30,()))
 else
 some (.brk (s3,s4,s5,s6,s7,s8,s9,s10,s11,s12,s13,s14,s15,s16,s17,s18,s19,s20,s21,s22,s23,s24,s25,s26,s27,s28,s29,s30,())):=by kernel_rfl
theorem zo3 (a1:List (List zw)):zcg a1 =
 (zX zef (a1,0,0,0,0,0,0,0,0,0,0,0#64,1,(a1.length:Int),2,1,1,4,2,2,1,1#64,([]:List (List Int)),([]:List (List Int)),([]:List (List zw)),([]:List zj),([([2]:List Int),([0]:List Int),([0]:List Int)]:List (List Int)),([]:List (List Int)),([]:List (List zw)),([]:List zj),())).bind fun st=>match st with
  | .again _=>none
  | .brk y1 =>
  let y1a:=y1.2.2.2.2.2.2.2.2;let y1b:=y1a.2.2.2.2.2.2.2.2;let y1c:=y1b.2.2.2.2.2.2.2.2
  some (zd.mk y1a.2.2.1 y1a.2.2.2.1 y1a.2.2.2.2.1 y1a.2.2.2.2.2.1 y1a.2.2.2.2.2.2.1 y1a.2.2.2.2.2.2.2.1 y1b.1 y1b.2.1 (zq.mk y1b.2.2.1 y1c.1) y1b.2.2.2.1 y1c.2.1 y1c.2.2.1 y1c.2.2.2.1,())
  | .ret y1 =>
  none:=zx (by kernel_rfl)
theorem zpW (a1:za):Uy a1 =
 some ({a1 with Restarts:=w64 (a1.Restarts+1),D:={a1.D with PC:=0}},()):=zx (by kernel_rfl)
theorem zux (a1:za):ziQ a1 =
 bif a1.Done then
 some (a1,())
 else
 bif decide (a1.D.PC=0) then
  some ({a1 with Flag:=false,D:={a1.D with PC:=1}},())
 else
  bif decide (a1.D.PC=1) then
  bif !(decide (a1.Work=0)) then
   some (a1,())
  else
   some ({a1 with D:={a1.D with PC:=2}},())
  else
  bif decide (a1.D.PC=2) then
   bif decide (((a1.Ms.length:Int))=0) then
   some ({a1 with Epoch:=w64 (a1.Epoch+1),D:=zE.mk 4 0},())
   else
   some ({a1 with Epoch:=w64 (a1.Epoch+1),D:=zE.mk 3 0},())
  else
   bif decide (a1.D.PC=3) then
   (idx a1.Acks a1.D.I).bind fun x1 =>
   bif decide (x1<a1.Epoch) then
    some (a1,())
   else
    bif decide ((w64 (a1.D.I+1))=((a1.Ms.length:Int))) then
    some ({a1 with D:=zE.mk 4 (w64 (a1.D.I+1))},())
    else
    some ({a1 with D:={a1.D with I:=w64 (a1.D.I+1)}},())
   else
   bif decide (a1.D.PC=4) then
    bif !(decide (a1.Work=0)) then
    (Uy a1).bind fun y2 =>
    some (y2.1,())
    else
    some ({a1 with D:={a1.D with PC:=5}},())
   else
    bif decide (a1.D.PC=5) then
    bif a1.Flag then
     (Uy a1).bind fun y3 =>
     some (y3.1,())
    else
     some ({a1 with D:={a1.D with PC:=6}},())
    else
    bif decide (a1.D.PC=6) then
     some ({a1 with Done:=true},())
    else
     some (a1,()):=zx (by kernel_rfl)
theorem zrC (a1:za) (a2:Int):znb a1 a2 =
 (ziQ a1).bind fun y1 =>
 some (y1.1,()):=zx (by kernel_rfl)
theorem zBt (a1:BitVec 64) (a2:Int):zb9 a1 a2 =
 (zns a2).bind fun y1 =>
 some (!(decide ((a1&&&y1.1)=0#64)),()):=zx (by kernel_rfl)
theorem zBu (a1:zm) (a2:Int):zm8 a1 a2 =
 (zb9 (a1.Marks&&&a1.Black) a2).bind fun y1 =>
 bif y1.1 then
 some (2,())
 else
 (zb9 a1.Marks a2).bind fun y2 =>
 bif y2.1 then
  some (1,())
 else
  some (0,()):=zx (by kernel_rfl)
theorem zxb (a1:zm) (a2:Int):Uf a1 a2 =
 (zm8 a1 a2).bind fun y1 =>
 bif !(decide (y1.1=1)) then
 some (a1,false,())
 else
 (Yw a1.Black a2).bind fun y2 =>
 some ({a1 with Black:=y2.1},true,()):=zx (by kernel_rfl)
theorem zuQ (a1:BitVec 64):Xl a1 =
 some ((a1&&&4294967295#64).toInt,()):=zx (by kernel_rfl)
theorem zv8 (a1:List (BitVec 64)) (a2:Int):UX a1 a2 =
 (XC a1 (Yr.mk 1 a2 0#64 0#64)).bind fun y1 =>
 some (y1.2.1,()):=zx (by kernel_rfl)
theorem zkl (a1:List (BitVec 64)) (a2:zL):vY a1 a2 =
 (UX a1 a2.Head).bind fun y1 =>
 bif decide (a2.Kind=2) then
 (Xl y1.1).bind fun y2 =>
 bif decide (y2.1=0) then
  some (a1,{a2 with H:=y1.1,Out:=2},())
 else
  some (a1,{a2 with H:=y1.1},())
 else
 some (a1,{a2 with H:=y1.1},()):=zx (by kernel_rfl)
theorem zmp (a1:List (BitVec 64)) (a2:zL):Wh a1 a2 =
 (Xl a2.H).bind fun y1 =>
 (XL a1 (w64 (a2.Next+a2.X)) (BitVec.ofInt 64 y1.1)).bind fun y2 =>
 some (y2.1,()):=zx (by kernel_rfl)
theorem zjg (a1:List (BitVec 64)) (a2:zL):vy a1 a2 =
 bif decide (a2.Kind=2) then
 (UL ((a2.H >>> 32)+1#64) a2.Y).bind fun y1 =>
 (XC a1 (Yr.mk 3 a2.Head a2.H y1.1)).bind fun y2 =>
 bif !y2.2.2.1 then
  some (y2.1,{a2 with PC:= -1},())
 else
  bif decide (a2.Kind=2) then
  (Xl a2.H).bind fun y3 =>
  some (y2.1,{a2 with X:=y3.1,Out:=1},())
  else
  some (y2.1,{a2 with Out:=1},())
 else
 (UL ((a2.H >>> 32)+1#64) a2.X).bind fun y4 =>
 (XC a1 (Yr.mk 3 a2.Head a2.H y4.1)).bind fun y5 =>
 bif !y5.2.2.1 then
  some (y5.1,{a2 with PC:= -1},())
 else
  bif decide (a2.Kind=2) then
  (Xl a2.H).bind fun y6 =>
  some (y5.1,{a2 with X:=y6.1,Out:=1},())
  else
  some (y5.1,{a2 with Out:=1},()):=zx (by kernel_rfl)
theorem zg2 (a1:List (BitVec 64)) (a2:zL):Z1 a1 a2 =
 (Xl a2.H).bind fun y1 =>
 (UX a1 (w64 (a2.Next+y1.1))).bind fun y2 =>
 some (a1,{a2 with Y:=y2.1.toInt},()):=zx (by kernel_rfl)
end Go.Pe.G
namespace Go.Pe.G
open Go.Pe
theorem zuZ (a1:List (BitVec 64)) (a2:zL):WV a1 a2 =
 bif decide (a2.Kind=2) then
 bif !(decide (a2.Out=0)) then
  some (a1,a2,())
 else
  bif !(decide (a2.Kind=1)) then
  bif !(decide (a2.Kind=2)) then
   some (a1,a2,())
  else
   bif decide (a2.PC<0) then
   some (a1,a2,())
   else
   bif decide (3<=a2.PC) then
    some (a1,a2,())
   else
    bif decide (a2.PC=2) then
    (vy a1 a2).bind fun y1 =>
    some (y1.1,{y1.2.1 with PC:=w64 (y1.2.1.PC+1)},())
    else
    bif decide (a2.PC=1) then
     (Z1 a1 a2).bind fun y2 =>
     some (y2.1,{y2.2.1 with PC:=w64 (y2.2.1.PC+1)},())
    else
     bif decide (a2.PC=0) then
     (vY a1 a2).bind fun y3 =>
     some (y3.1,{y3.2.1 with PC:=w64 (y3.2.1.PC+1)},())
     else
     none
  else
  bif decide (a2.PC<0) then
   some (a1,a2,())
  else
   bif decide (3<=a2.PC) then
   some (a1,a2,())
   else
   bif decide (a2.PC=2) then
    (vy a1 a2).bind fun y4 =>
    some (y4.1,{y4.2.1 with PC:=w64 (y4.2.1.PC+1)},())
   else
    bif decide (a2.PC=1) then
    (Z1 a1 a2).bind fun y5 =>
    some (y5.1,{y5.2.1 with PC:=w64 (y5.2.1.PC+1)},())
    else
    bif decide (a2.PC=0) then
     (vY a1 a2).bind fun y6 =>
     some (y6.1,{y6.2.1 with PC:=w64 (y6.2.1.PC+1)},())
    else
     none
 else
 bif !(decide (a2.Out=0)) then
  some (a1,a2,())
 else
  bif !(decide (a2.Kind=1)) then
  bif !(decide (a2.Kind=2)) then
   some (a1,a2,())
  else
   bif decide (a2.PC<0) then
   some (a1,a2,())
   else
   bif decide (3<=a2.PC) then
    some (a1,a2,())
   else
    bif decide (a2.PC=2) then
    (vy a1 a2).bind fun y7 =>
    some (y7.1,{y7.2.1 with PC:=w64 (y7.2.1.PC+1)},())
    else
    bif decide (a2.PC=1) then
     (Wh a1 a2).bind fun y8 =>
     some (y8.1,{a2 with PC:=w64 (a2.PC+1)},())
    else
     bif decide (a2.PC=0) then
     (vY a1 a2).bind fun y9 =>
     some (y9.1,{y9.2.1 with PC:=w64 (y9.2.1.PC+1)},())
     else
     none
  else
  bif decide (a2.PC<0) then
   some (a1,a2,())
  else
   bif decide (3<=a2.PC) then
   some (a1,a2,())
   else
   bif decide (a2.PC=2) then
    (vy a1 a2).bind fun y10 =>
    some (y10.1,{y10.2.1 with PC:=w64 (y10.2.1.PC+1)},())
   else
    bif decide (a2.PC=1) then
    (Wh a1 a2).bind fun y11 =>
    some (y11.1,{a2 with PC:=w64 (a2.PC+1)},())
    else
    bif decide (a2.PC=0) then
     (vY a1 a2).bind fun y12 =>
     some (y12.1,{y12.2.1 with PC:=w64 (y12.2.1.PC+1)},())
    else
     none:=zx (by kernel_rfl)
theorem zml (a1:zQ):uR a1 =
 (WV a1.s.M a1.Worker.C).bind fun y1 =>
 some (y1.2.1.Out,zQ.mk {a1.Worker with C:=y1.2.1} {a1.s with M:=y1.1} a1.w,()):=zx (by kernel_rfl)
theorem zcR (a1:Int) (a2:zQ):Wj a1 a2 =
 some ({a2 with Worker:={a2.Worker with PC:=5,Obj:=a1,Slot:=0}},()):=zx (by kernel_rfl)
theorem zjQ (a1:Int):zoL a1 =
 bif decide (a1=1) then
 some (())
 else
 bif decide (a1=2) then
  none
 else
  bif decide (a1=3) then
  none
  else
  none:=zx (by kernel_rfl)
theorem zsK (a1:Int):zoz a1 =
 bif decide (a1=1) then
 none
 else
 bif decide (a1=2) then
  some (())
 else
  bif decide (a1=3) then
  none
  else
  none:=zx (by kernel_rfl)
theorem zs1 (a1:Int):zoS a1 =
 bif decide (a1=1) then
 none
 else
 bif decide (a1=2) then
  none
 else
  bif decide (a1=3) then
  some (())
  else
  none:=zx (by kernel_rfl)
theorem zsM (a1:Int):zoY a1 =
 bif decide (a1=1) then
 none
 else
 bif decide (a1=2) then
  none
 else
  bif decide (a1=3) then
  none
  else
  some (([]:List Bool),()):=zx (by kernel_rfl)
theorem zvl (a1:List (BitVec 64)) (a2:Int):vT a1 a2 =
 (XC a1 (Yr.mk 1 a2 0#64 0#64)).bind fun y1 =>
 some (y1.2.1,()):=zx (by kernel_rfl)
theorem xD (a1:zg):we a1 =
 some (w64 (a1.Base+1),()):=zx (by kernel_rfl)
theorem Vd (a1:List (BitVec 64)) (a2:zg):vg a1 a2 =
 (we a2).bind fun y1 =>
 (vT a1 y1.1).bind fun y2 =>
 some (a1,{a2 with B:=y2.1},()):=zx (by kernel_rfl)
theorem Zr (a1:zg):Zp a1 =
 some (a1.Base,()):=zx (by kernel_rfl)
theorem zmn (a1:zg):yb a1 =
 some (BitVec.ofInt 64 (bif decide (a1.Cap<1) then 1 else a1.Cap),()):=zx (by kernel_rfl)
theorem wU (a1:Int) (a2:zg):wb a1 a2 =
 bif !(decide (a1=1)) then
 bif !(decide (a2.Kind=1)) then
  some ({a2 with X:=0,Out:=a1},())
 else
  some ({a2 with Out:=a1},())
 else
 some ({a2 with Out:=a1},()):=zx (by kernel_rfl)
theorem zjc (a1:List (BitVec 64)) (a2:zg):Vv a1 a2 =
 (Zp a2).bind fun y1 =>
 (vT a1 y1.1).bind fun y2 =>
 (yb ({a2 with T:=y2.1})).bind fun y3 =>
 bif decide (y3.1<=(a2.B-y2.1)) then
 (wb 3 ({a2 with T:=y2.1})).bind fun y4 =>
 some (a1,y4.1,())
 else
 some (a1,{a2 with T:=y2.1},()):=zx (by kernel_rfl)
theorem zlH (a1:BitVec 64) (a2:zg):un a1 a2 =
 (yb a2).bind fun y1 =>
 bif decide (y1.1=0#64) then
 none
 else
 some (w64 ((w64 (a2.Base+2))+((a1%y1.1).toInt)),()):=zx (by kernel_rfl)
theorem zt1 (a1:List (BitVec 64)) (a2:Int) (a3:BitVec 64):XM a1 a2 a3 =
 (XC a1 (Yr.mk 2 a2 a3 0#64)).bind fun y1 =>
 some (y1.1,()):=zx (by kernel_rfl)
theorem zom (a1:List (BitVec 64)) (a2:zg):zbp a1 a2 =
 (un a2.B a2).bind fun y1 =>
 (XM a1 y1.1 (BitVec.ofInt 64 a2.X)).bind fun y2 =>
 some (y2.1,()):=zx (by kernel_rfl)
theorem zf3 (a1:List (BitVec 64)) (a2:zg):XD a1 a2 =
 (wb 1 a2).bind fun y1 =>
 (we y1.1).bind fun y2 =>
 (XM a1 y2.1 (y1.1.B+1#64)).bind fun y3 =>
 some (y3.1,y1.1,()):=zx (by kernel_rfl)
theorem zl1 (a1:List (BitVec 64)) (a2:zg):zeu a1 a2 =
 (we a2).bind fun y1 =>
 (XM a1 y1.1 (a2.B-1#64)).bind fun y2 =>
 some (y2.1,()):=zx (by kernel_rfl)
theorem zd0 (a1:BitVec 64) (a2:BitVec 64):xu a1 a2 =
 some (decide (0<((a1-a2).toInt)),()):=zx (by kernel_rfl)
theorem zgY (a1:List (BitVec 64)) (a2:zg):zbC a1 a2 =
 (Zp a2).bind fun y1 =>
 (vT a1 y1.1).bind fun y2 =>
 (xu y2.1 (a2.B-1#64)).bind fun y3 =>
 bif y3.1 then
 some (a1,{a2 with PC:=4,T:=y2.1},())
 else
 some (a1,{a2 with T:=y2.1},()):=zx (by kernel_rfl)
theorem zki (a1:List (BitVec 64)) (a2:zg):zc8 a1 a2 =
 (un (a2.B-1#64) a2).bind fun y1 =>
 (vT a1 y1.1).bind fun y2 =>
 bif !(decide (a2.T=(a2.B-1#64))) then
 (wb 1 ({a2 with X:=y2.1.toInt})).bind fun y3 =>
 some (a1,y3.1,())
 else
 some (a1,{a2 with X:=y2.1.toInt},()):=zx (by kernel_rfl)
theorem zmG (a1:List (BitVec 64)) (a2:zg):Wg a1 a2 =
 (Zp a2).bind fun y1 =>
 (XC a1 (Yr.mk 3 y1.1 a2.T (a2.T+1#64))).bind fun y2 =>
 some (y2.1,y2.2.2.1,()):=zx (by kernel_rfl)
theorem zjm (a1:List (BitVec 64)) (a2:zg):zcN a1 a2 =
 (Wg a1 a2).bind fun y1 =>
 bif y1.2.1 then
 some (y1.1,{a2 with PC:=5},())
 else
 some (y1.1,a2,()):=zx (by kernel_rfl)
theorem zjz (a1:List (BitVec 64)) (a2:zg):zcS a1 a2 =
 (wb 2 a2).bind fun y1 =>
 (we y1.1).bind fun y2 =>
 (XM a1 y2.1 y1.1.B).bind fun y3 =>
 some (y3.1,y1.1,()):=zx (by kernel_rfl)
theorem zj7 (a1:List (BitVec 64)) (a2:zg):zdc a1 a2 =
 (wb 1 a2).bind fun y1 =>
 (we y1.1).bind fun y2 =>
 (XM a1 y2.1 y1.1.B).bind fun y3 =>
 some (y3.1,y1.1,()):=zx (by kernel_rfl)
theorem zkh (a1:List (BitVec 64)) (a2:zg):zdp a1 a2 =
 (Zp a2).bind fun y1 =>
 (vT a1 y1.1).bind fun y2 =>
 some (a1,{a2 with T:=y2.1},()):=zx (by kernel_rfl)
theorem zjU (a1:List (BitVec 64)) (a2:zg):zda a1 a2 =
 (we a2).bind fun y1 =>
 (vT a1 y1.1).bind fun y2 =>
 (xu y2.1 a2.T).bind fun y3 =>
 bif !y3.1 then
 some (a1,{a2 with B:=y2.1,Out:=2},())
 else
 some (a1,{a2 with B:=y2.1},()):=zx (by kernel_rfl)
theorem ziU (a1:List (BitVec 64)) (a2:zg):zcQ a1 a2 =
 (un a2.T a2).bind fun y1 =>
 (vT a1 y1.1).bind fun y2 =>
 some (a1,{a2 with X:=y2.1.toInt},()):=zx (by kernel_rfl)
theorem zgO (a1:List (BitVec 64)) (a2:zg):zbF a1 a2 =
 (Wg a1 a2).bind fun y1 =>
 bif y1.2.1 then
 (wb 1 a2).bind fun y2 =>
 some (y1.1,y2.1,())
 else
 (wb 4 a2).bind fun y3 =>
 some (y1.1,y3.1,()):=zx (by kernel_rfl)
theorem znp (a1:List (BitVec 64)) (a2:zg):zbN a1 a2 =
 Option.or (
 (zoL a2.Kind).bind fun y1 =>
 bif !(decide (a2.Out=0)) then
  some (a1,a2,())
 else
  bif decide (a2.PC<0) then
  some (a1,a2,())
  else
  bif decide (4<=a2.PC) then
   some (a1,a2,())
  else
   bif decide (a2.PC=3) then
   (XD a1 a2).bind fun y2 =>
   some (y2.1,{y2.2.1 with PC:=w64 (y2.2.1.PC+1)},())
   else
   bif decide (a2.PC=2) then
    (zbp a1 a2).bind fun y3 =>
    some (y3.1,{a2 with PC:=w64 (a2.PC+1)},())
   else
    bif decide (a2.PC=1) then
    (Vv a1 a2).bind fun y4 =>
    some (y4.1,{y4.2.1 with PC:=w64 (y4.2.1.PC+1)},())
    else
    bif decide (a2.PC=0) then
     (vg a1 a2).bind fun y5 =>
     some (y5.1,{y5.2.1 with PC:=w64 (y5.2.1.PC+1)},())
    else
     none) (
 Option.or (
  (zoz a2.Kind).bind fun y6 =>
  bif !(decide (a2.Out=0)) then
  some (a1,a2,())
  else
  bif decide (a2.PC<0) then
   some (a1,a2,())
  else
   bif decide (7<=a2.PC) then
   some (a1,a2,())
   else
   bif decide (a2.PC=6) then
    (zdc a1 a2).bind fun y7 =>
    some (y7.1,{y7.2.1 with PC:=w64 (y7.2.1.PC+1)},())
   else
    bif decide (a2.PC=5) then
    (zcS a1 a2).bind fun y8 =>
    some (y8.1,{y8.2.1 with PC:=w64 (y8.2.1.PC+1)},())
    else
    bif decide (a2.PC=4) then
     (zcN a1 a2).bind fun y9 =>
     some (y9.1,{y9.2.1 with PC:=w64 (y9.2.1.PC+1)},())
    else
     bif decide (a2.PC=3) then
     (zc8 a1 a2).bind fun y10 =>
     some (y10.1,{y10.2.1 with PC:=w64 (y10.2.1.PC+1)},())
     else
     bif decide (a2.PC=2) then
      (zbC a1 a2).bind fun y11 =>
      some (y11.1,{y11.2.1 with PC:=w64 (y11.2.1.PC+1)},())
     else
      bif decide (a2.PC=1) then
      (zeu a1 a2).bind fun y12 =>
      some (y12.1,{a2 with PC:=w64 (a2.PC+1)},())
      else
      bif decide (a2.PC=0) then
       (vg a1 a2).bind fun y13 =>
       some (y13.1,{y13.2.1 with PC:=w64 (y13.2.1.PC+1)},())
      else
       none) (
  Option.or (
  (zoS a2.Kind).bind fun y14 =>
  bif !(decide (a2.Out=0)) then
   some (a1,a2,())
  else
   bif decide (a2.PC<0) then
   some (a1,a2,())
   else
   bif decide (4<=a2.PC) then
    some (a1,a2,())
   else
    bif decide (a2.PC=3) then
    (zbF a1 a2).bind fun y15 =>
    some (y15.1,{y15.2.1 with PC:=w64 (y15.2.1.PC+1)},())
    else
    bif decide (a2.PC=2) then
     (zcQ a1 a2).bind fun y16 =>
     some (y16.1,{y16.2.1 with PC:=w64 (y16.2.1.PC+1)},())
    else
     bif decide (a2.PC=1) then
     (zda a1 a2).bind fun y17 =>
     some (y17.1,{y17.2.1 with PC:=w64 (y17.2.1.PC+1)},())
     else
     bif decide (a2.PC=0) then
      (zdp a1 a2).bind fun y18 =>
      some (y18.1,{y18.2.1 with PC:=w64 (y18.2.1.PC+1)},())
     else
      none) (
  (zoY a2.Kind).bind fun y19 =>
  bif !(decide (a2.Out=0)) then
   some (a1,a2,())
  else
   bif decide (a2.PC<0) then
   some (a1,a2,())
   else
   bif decide (((y19.1.length:Int))<=a2.PC) then
    some (a1,a2,())
   else
    none))):=zx (by kernel_rfl)
theorem zhV (a1:Int) (a2:Int) (a3:zQ):zfj a1 a2 a3 =
 (xm a3.s.P a2).bind fun y1 =>
 (zdE a1 y1.1 a3.s.P.Cap 0).bind fun y2 =>
 some (y2.1,()):=zx (by kernel_rfl)
theorem WO (a1:Int) (a2:Int) (a3:Int) (a4:Int):zaY a1 a2 a3 a4 =
 some (zL.mk a1 0 a2 a3 0#64 a4 0 0,()):=zx (by kernel_rfl)
theorem ze6 (a1:Int) (a2:Int) (a3:Int) (a4:zQ):zc1 a1 a2 a3 a4 =
 (Yc a4.s.P).bind fun y1 =>
 (zaY a1 a2 y1.1 a3).bind fun y2 =>
 some (y2.1,()):=zx (by kernel_rfl)
theorem zmy (a1:zQ):Wa a1 =
 bif decide (((a1.s.Ws.length:Int))=0) then
 none
 else
 bif decide ((w64 ((a1.Worker.Victim.tmod ((a1.s.Ws.length:Int)))+1))=a1.w) then
  (Y3 a1.s.P).bind fun y1 =>
  (zc1 2 y1.1 0 ({a1 with Worker:={a1.Worker with Victim:=w64 ((a1.Worker.Victim.tmod ((a1.s.Ws.length:Int)))+1)}})).bind fun y2 =>
  some ({a1 with Worker:={a1.Worker with PC:=2,Victim:=w64 ((a1.Worker.Victim.tmod ((a1.s.Ws.length:Int)))+1),C:=y2.1}},())
 else
  (zfj 3 (w64 ((a1.Worker.Victim.tmod ((a1.s.Ws.length:Int)))+1)) ({a1 with Worker:={a1.Worker with Victim:=w64 ((a1.Worker.Victim.tmod ((a1.s.Ws.length:Int)))+1)}})).bind fun y3 =>
  some ({a1 with Worker:={a1.Worker with PC:=1,Victim:=w64 ((a1.Worker.Victim.tmod ((a1.s.Ws.length:Int)))+1),D:=y3.1}},()):=zx (by kernel_rfl)
theorem zon (a1:zQ):W8 a1 =
 (zbN a1.s.M a1.Worker.D).bind fun y1 =>
 bif decide (y1.2.1.Out=1) then
 (Wj y1.2.1.X (zQ.mk {a1.Worker with Victim:=a1.w,D:=y1.2.1} {a1.s with M:=y1.1} a1.w)).bind fun y2 =>
 some (y2.1,())
 else
 bif decide (y1.2.1.Out=4) then
  (Wa (zQ.mk {a1.Worker with D:=y1.2.1} {a1.s with M:=y1.1} a1.w)).bind fun y3 =>
  some (y3.1,())
 else
  bif decide (y1.2.1.Out=2) then
  (Wa (zQ.mk {a1.Worker with D:=y1.2.1} {a1.s with M:=y1.1} a1.w)).bind fun y4 =>
  some (y4.1,())
  else
  some (zQ.mk {a1.Worker with D:=y1.2.1} {a1.s with M:=y1.1} a1.w,()):=zx (by kernel_rfl)
theorem zlL (a1:zQ):um a1 =
 (zfj 2 a1.w a1).bind fun y1 =>
 some ({a1 with Worker:={a1.Worker with PC:=0,Victim:=a1.w,D:=y1.1}},()):=zx (by kernel_rfl)
theorem zgS (a1:List (List Int)):wW a1 =
 bif a1.isEmpty then
 zlV (
  some (([]:List (List Int)),())) (
  (yq ((([]:List (List Int)))++a1)).bind fun l1 =>
  some (l1,()))
 else
 (yq ((([]:List (List Int)))++a1)).bind fun l2 =>
 some (l2,()):=zx (by kernel_rfl)
theorem zmI (a1:zQ):zaQ a1 =
 (idx a1.s.Bins a1.Worker.Bin).bind fun x1 =>
 (wW a1.s.Bins).bind fun y2 =>
 (xM y2.1 a1.Worker.Bin).bind fun n3 =>
 (Xx a1.s.P).bind fun y4 =>
 (zc1 1 y4.1 a1.Worker.Bin (zQ.mk {a1.Worker with Batch:=x1} {a1.s with Bins:=y2.1.set n3 ([]:List Int)} a1.w)).bind fun y5 =>
 some (zQ.mk {a1.Worker with PC:=4,Batch:=x1,C:=y5.1} {a1.s with Bins:=y2.1.set n3 ([]:List Int)} a1.w,()):=zx (by kernel_rfl)
theorem zrD (a1:zQ):VX a1 =
 bif decide (a1.Worker.Slot=a1.s.H.Slots) then
 some (8,())
 else
 some (5,()):=zx (by kernel_rfl)
theorem zp2 (a1:zq) (a2:Int) (a3:Int):UE a1 a2 a3 =
 bif decide (1<=a2) then
 bif decide (a2<=((a1.Objs.length:Int))) then
  bif decide (0<=a3) then
  (idx a1.Objs (w64 (a2-1))).bind fun x1 =>
  some (decide (a3<((x1.length:Int))),())
  else
  some (false,())
 else
  some (false,())
 else
 some (false,()):=zx (by kernel_rfl)
theorem zzg (a1:zq) (a2:Int) (a3:Int):zfi a1 a2 a3 =
 (UE a1 a2 a3).bind fun y1 =>
 bif !y1.1 then
 some (0,false,())
 else
 (idx a1.Objs (w64 (a2-1))).bind fun x2 =>
 (idx x2 a3).bind fun x3 =>
 some (x3,true,()):=zx (by kernel_rfl)
theorem zu7 (a1:Int) (a2:Int) (a3:Int):zbP a1 a2 a3 =
 some (zB.mk 0 a1 a2 a3 (zg.mk 0 0 0 0 0#64 0#64 0 0) (zL.mk 0 0 0 0 0#64 0 0 0) 0 0,()):=zx (by kernel_rfl)
theorem zmk (a1:zQ):zaF a1 =
 (zfi a1.s.H a1.Worker.Obj a1.Worker.Slot).bind fun y1 =>
 bif decide (y1.1=0) then
 (VX ({a1 with Worker:={a1.Worker with Slot:=w64 (a1.Worker.Slot+1)}})).bind fun y2 =>
 some ({a1 with Worker:={a1.Worker with PC:=y2.1,Slot:=w64 (a1.Worker.Slot+1)}},())
 else
 (zbP 1 y1.1 a1.w).bind fun y3 =>
 some ({a1 with Worker:={a1.Worker with PC:=6,Slot:=w64 (a1.Worker.Slot+1),G:=y3.1}},()):=zx (by kernel_rfl)
theorem zgo (a1:zM):zbE a1 =
 some (zM.mk {a1.Grey with PC:=1} {a1.s with Work:=w64 (a1.s.Work+1)},()):=zx (by kernel_rfl)
theorem zvv (a1:zm) (a2:Int):zci a1 a2 =
 (Yw a1.Marks a2).bind fun y1 =>
 bif decide (y1.1=a1.Marks) then
 some (a1,false,())
 else
 (zb9 a1.Black a2).bind fun y2 =>
 bif y2.1 then
  some (a1,false,())
 else
  some ({a1 with Marks:=y1.1},true,()):=zx (by kernel_rfl)
theorem zlC (a1:zM):uw a1 =
 (Xx a1.s.P).bind fun y1 =>
 (Yc a1.s.P).bind fun y2 =>
 (zaY 2 y1.1 y2.1 0).bind fun y3 =>
 some ({a1 with Grey:={a1.Grey with PC:=5,C:=y3.1}},()):=zx (by kernel_rfl)
theorem zj8 (a1:zM):zdd a1 =
 (zci a1.s.T a1.Grey.Obj).bind fun y1 =>
 bif !y1.2.1 then
 some (zM.mk {a1.Grey with PC:=2} {a1.s with T:=y1.1},())
 else
 bif decide (a1.Grey.Mode=1) then
  (xm a1.s.P a1.Grey.Who).bind fun y2 =>
  (zdE 1 y2.1 a1.s.P.Cap a1.Grey.Obj).bind fun y3 =>
  some (zM.mk {a1.Grey with PC:=3,D:=y3.1} {a1.s with T:=y1.1},())
 else
  bif decide (a1.Grey.Mode=2) then
  some (zM.mk {a1.Grey with PC:=4} {a1.s with T:=y1.1},())
  else
  (uw ({a1 with s:={a1.s with T:=y1.1}})).bind fun y4 =>
  some (y4.1,()):=zx (by kernel_rfl)
theorem zkH (a1:zM):zdo a1 =
 some (zM.mk {a1.Grey with Out:=1} {a1.s with Work:=w64 (a1.s.Work-1)},()):=zx (by kernel_rfl)
theorem zkE (a1:zM):zdB a1 =
 (zbN a1.s.M a1.Grey.D).bind fun y1 =>
 bif decide (y1.2.1.Out=1) then
 some (zM.mk {a1.Grey with D:=y1.2.1,Out:=1} {a1.s with M:=y1.1},())
 else
 bif decide (y1.2.1.Out=3) then
  (uw (zM.mk {a1.Grey with D:=y1.2.1} {a1.s with M:=y1.1})).bind fun y2 =>
  some (y2.1,())
 else
  some (zM.mk {a1.Grey with D:=y1.2.1} {a1.s with M:=y1.1},()):=zx (by kernel_rfl)
theorem zj6 (a1:zM):zc7 a1 =
 (uw ({a1 with s:={a1.s with Flag:=true}})).bind fun y1 =>
 some (y1.1,()):=zx (by kernel_rfl)
theorem zkk (a1:zM):zdn a1 =
 (WV a1.s.M a1.Grey.C).bind fun y1 =>
 bif decide (y1.2.1.Out=1) then
 some (zM.mk {a1.Grey with PC:=6,C:=y1.2.1,Bin:=y1.2.1.X} {a1.s with M:=y1.1},())
 else
 bif decide (y1.2.1.Out=2) then
  (uw (zM.mk {a1.Grey with C:=y1.2.1} {a1.s with M:=y1.1})).bind fun y2 =>
  some (y2.1,())
 else
  some (zM.mk {a1.Grey with C:=y1.2.1} {a1.s with M:=y1.1},()):=zx (by kernel_rfl)
theorem zkf (a1:zM):zdv a1 =
 (wW a1.s.Bins).bind fun y1 =>
 (xM y1.1 a1.Grey.Bin).bind fun n2 =>
 (Y3 a1.s.P).bind fun y3 =>
 (Yc a1.s.P).bind fun y4 =>
 (zaY 1 y3.1 y4.1 a1.Grey.Bin).bind fun y5 =>
 some ({a1.Grey with PC:=7,C:=y5.1},a1.s.P,a1.s.H,a1.s.M,a1.s.T,a1.s.Work,a1.s.Epoch,a1.s.Flag,a1.s.Done,a1.s.Restarts,a1.s.Acks,a1.s.L,a1.s.Ws,a1.s.Ms,a1.s.D,y1.1.set n2 ([a1.Grey.Obj]:List Int),()):=zx (by kernel_rfl)
theorem zgE (a1:zM):zbu a1 =
 (WV a1.s.M a1.Grey.C).bind fun y1 =>
 bif decide (y1.2.1.Out=1) then
 some (zM.mk {a1.Grey with C:=y1.2.1,Out:=1} {a1.s with M:=y1.1},())
 else
 some (zM.mk {a1.Grey with C:=y1.2.1} {a1.s with M:=y1.1},()):=zx (by kernel_rfl)
theorem zxG (a1:za) (a2:zB):zdy a1 a2 =
 bif !(decide (a2.Out=0)) then
 some (a1,a2,())
 else
 bif decide (a2.Mode<1) then
  some (a1,a2,())
 else
  bif decide (3<a2.Mode) then
  some (a1,a2,())
  else
  bif decide (a2.PC<0) then
   some (a1,a2,())
  else
   bif decide (8<=a2.PC) then
   some (a1,a2,())
   else
   bif decide (a2.PC=7) then
    (zbu (zM.mk a2 a1)).bind fun y1 =>
    some (y1.1.s,y1.1.Grey,())
   else
    bif decide (a2.PC=6) then
    (zdv (zM.mk a2 a1)).bind fun y2 =>
    let y2a:=y2.2.2.2.2.2.2.2.2
    some (za.mk y2.2.1 y2.2.2.1 y2.2.2.2.1 y2a.2.2.2.2.2.2.2.1 y2.2.2.2.2.1 y2.2.2.2.2.2.1 y2.2.2.2.2.2.2.1 y2.2.2.2.2.2.2.2.1 y2a.1 y2a.2.1 y2a.2.2.1 y2a.2.2.2.1 y2a.2.2.2.2.1 y2a.2.2.2.2.2.1 y2a.2.2.2.2.2.2.1,y2.1,())
    else
    bif decide (a2.PC=5) then
     (zdn (zM.mk a2 a1)).bind fun y3 =>
     some (y3.1.s,y3.1.Grey,())
    else
     bif decide (a2.PC=4) then
     (zc7 (zM.mk a2 a1)).bind fun y4 =>
     some (y4.1.s,y4.1.Grey,())
     else
     bif decide (a2.PC=3) then
      (zdB (zM.mk a2 a1)).bind fun y5 =>
      some (y5.1.s,y5.1.Grey,())
     else
      bif decide (a2.PC=2) then
      (zdo (zM.mk a2 a1)).bind fun y6 =>
      some (y6.1.s,y6.1.Grey,())
      else
      bif decide (a2.PC=1) then
       (zdd (zM.mk a2 a1)).bind fun y7 =>
       some (y7.1.s,y7.1.Grey,())
      else
       bif decide (a2.PC=0) then
       (zbE (zM.mk a2 a1)).bind fun y8 =>
       some (y8.1.s,y8.1.Grey,())
       else
       none:=zx (by kernel_rfl)
theorem zk1 (a1:zr) (a2:Int):ZS a1 a2 =
 bif decide (1<=a2) then
 some (decide (a2<=((a1.Bal.length:Int))),())
 else
 some (false,()):=zx (by kernel_rfl)
theorem zq6 (a1:Int):zfK a1 =
 some (w64 (a1+1),()):=zx (by kernel_rfl)
theorem UV (a1:zr) (a2:Int):Yx a1 a2 =
 bif decide (((a1.Bal.length:Int))=((a1.Bal.length:Int))) then
 (W4 ((a1.Bal.length:Int))).bind fun n1 =>
 bif decide (a1.Bal.length=((List.replicate n1 ((0:Int))).length)) then
  bif a1.Bal.isEmpty then
  (xM (List.replicate n1 ((0:Int))) (w64 (a2-1))).bind fun n2 =>
  ((List.replicate n1 ((0:Int)))[n2]?).bind fun x3 =>
  (zfK x3).bind fun y4 =>
  (xM (List.replicate n1 ((0:Int))) (w64 (a2-1))).bind fun n5 =>
  some ({a1 with Bal:=(List.replicate n1 ((0:Int))).set n5 y4.1},())
  else
  (xM a1.Bal (w64 (a2-1))).bind fun n6 =>
  (a1.Bal[n6]?).bind fun x7 =>
  (zfK x7).bind fun y8 =>
  (xM a1.Bal (w64 (a2-1))).bind fun n9 =>
  some ({a1 with Bal:=a1.Bal.set n9 y8.1},())
 else
  none
 else
 none:=zx (by kernel_rfl)
theorem ztO (a1:zr) (a2:Int):zaT a1 a2 =
 (ZS ({a1 with Scanned:=w64 (a1.Scanned+1)}) a2).bind fun y1 =>
 bif !y1.1 then
 some ({a1 with Scanned:=w64 (a1.Scanned+1),Pool:=w64 (a1.Pool+1)},())
 else
 (Yx ({a1 with Scanned:=w64 (a1.Scanned+1)}) a2).bind fun y2 =>
 some (y2.1,()):=zx (by kernel_rfl)
end Go.Pe.G
namespace Go.Pe.G
open Go.Pe
theorem zmv (a1:zQ):zaM a1 =
 bif decide (a1.Worker.PC=0) then
 bif decide (a1.Worker.PC=0) then
  (W8 a1).bind fun y1 =>
  some (y1.1,())
 else
  bif decide (a1.Worker.PC=2) then
  (uR a1).bind fun y2 =>
  bif decide (y2.1=1) then
   some ({y2.2.1 with Worker:={y2.2.1.Worker with PC:=3,Bin:=y2.2.1.Worker.C.X}},())
  else
   bif decide (y2.1=2) then
   (um y2.2.1).bind fun y3 =>
   some (y3.1,())
   else
   some (y2.2.1,())
  else
  bif decide (a1.Worker.PC=3) then
   (zaQ a1).bind fun y4 =>
   some (y4.1,())
  else
   bif decide (a1.Worker.PC=4) then
   (uR a1).bind fun y5 =>
   bif decide (y5.1=1) then
    some ({y5.2.1 with Worker:={y5.2.1.Worker with PC:=7,Bin:=0}},())
   else
    some (y5.2.1,())
   else
   bif decide (a1.Worker.PC=5) then
    (zaF a1).bind fun y6 =>
    some (y6.1,())
   else
    bif decide (a1.Worker.PC=6) then
    (zdy a1.s a1.Worker.G).bind fun y7 =>
    bif decide (y7.2.1.Out=1) then
     (VX (zQ.mk {a1.Worker with G:=y7.2.1} y7.1 a1.w)).bind fun y8 =>
     some (zQ.mk {a1.Worker with PC:=y8.1,G:=y7.2.1} y7.1 a1.w,())
    else
     some (zQ.mk {a1.Worker with G:=y7.2.1} y7.1 a1.w,())
    else
    bif decide (a1.Worker.PC=7) then
     bif decide (((a1.Worker.Batch.length:Int))=0) then
     (um a1).bind fun y9 =>
     some (y9.1,())
     else
     (idx a1.Worker.Batch 0).bind fun x10 =>
     (Wj x10 a1).bind fun y11 =>
     (cut y11.1.Worker.Batch 1 ((y11.1.Worker.Batch.length:Int))).bind fun l12 =>
     some ({y11.1 with Worker:={y11.1.Worker with Batch:=l12}},())
    else
     bif decide (a1.Worker.PC=8) then
     (Uf a1.s.T a1.Worker.Obj).bind fun y13 =>
     (zaT a1.s.L 0).bind fun y14 =>
     some (zQ.mk {a1.Worker with PC:=9} {a1.s with T:=y13.1,L:=y14.1} a1.w,())
     else
     bif decide (a1.Worker.PC=9) then
      some (zQ.mk {a1.Worker with PC:=7,Obj:=0} {a1.s with Work:=w64 (a1.s.Work-1)} a1.w,())
     else
      some (a1,())
 else
 bif decide (a1.Worker.PC=1) then
  (W8 a1).bind fun y15 =>
  some (y15.1,())
 else
  bif decide (a1.Worker.PC=2) then
  (uR a1).bind fun y16 =>
  bif decide (y16.1=1) then
   some ({y16.2.1 with Worker:={y16.2.1.Worker with PC:=3,Bin:=y16.2.1.Worker.C.X}},())
  else
   bif decide (y16.1=2) then
   (um y16.2.1).bind fun y17 =>
   some (y17.1,())
   else
   some (y16.2.1,())
  else
  bif decide (a1.Worker.PC=3) then
   (zaQ a1).bind fun y18 =>
   some (y18.1,())
  else
   bif decide (a1.Worker.PC=4) then
   (uR a1).bind fun y19 =>
   bif decide (y19.1=1) then
    some ({y19.2.1 with Worker:={y19.2.1.Worker with PC:=7,Bin:=0}},())
   else
    some (y19.2.1,())
   else
   bif decide (a1.Worker.PC=5) then
    (zaF a1).bind fun y20 =>
    some (y20.1,())
   else
    bif decide (a1.Worker.PC=6) then
    (zdy a1.s a1.Worker.G).bind fun y21 =>
    bif decide (y21.2.1.Out=1) then
     (VX (zQ.mk {a1.Worker with G:=y21.2.1} y21.1 a1.w)).bind fun y22 =>
     some (zQ.mk {a1.Worker with PC:=y22.1,G:=y21.2.1} y21.1 a1.w,())
    else
     some (zQ.mk {a1.Worker with G:=y21.2.1} y21.1 a1.w,())
    else
    bif decide (a1.Worker.PC=7) then
     bif decide (((a1.Worker.Batch.length:Int))=0) then
     (um a1).bind fun y23 =>
     some (y23.1,())
     else
     (idx a1.Worker.Batch 0).bind fun x24 =>
     (Wj x24 a1).bind fun y25 =>
     (cut y25.1.Worker.Batch 1 ((y25.1.Worker.Batch.length:Int))).bind fun l26 =>
     some ({y25.1 with Worker:={y25.1.Worker with Batch:=l26}},())
    else
     bif decide (a1.Worker.PC=8) then
     (Uf a1.s.T a1.Worker.Obj).bind fun y27 =>
     (zaT a1.s.L 0).bind fun y28 =>
     some (zQ.mk {a1.Worker with PC:=9} {a1.s with T:=y27.1,L:=y28.1} a1.w,())
     else
     bif decide (a1.Worker.PC=9) then
      some (zQ.mk {a1.Worker with PC:=7,Obj:=0} {a1.s with Work:=w64 (a1.s.Work-1)} a1.w,())
     else
      some (a1,()):=zx (by kernel_rfl)
theorem V1 (a1:List zk):vr a1 =
 bif a1.isEmpty then
 zlV (
  some (([]:List zk),())) (
  (yq (([]:List zk)++a1)).bind fun l1 =>
  some (l1,()))
 else
 (yq (([]:List zk)++a1)).bind fun l2 =>
 some (l2,()):=zx (by kernel_rfl)
theorem zt8 (a1:za) (a2:Int):zjk a1 a2 =
 bif a1.Done then
 some (a1,())
 else
 bif decide (a2<1) then
  some (a1,())
 else
  bif decide (((a1.Ws.length:Int))<a2) then
  some (a1,())
  else
  (idx a1.Ws (w64 (a2-1))).bind fun x1 =>
  (zaM (zQ.mk x1 a1 a2)).bind fun y2 =>
  (vr y2.1.s.Ws).bind fun y3 =>
  (xM y3.1 (w64 (a2-1))).bind fun n4 =>
  some ({y2.1.s with Ws:=y3.1.set n4 y2.1.Worker},()):=zx (by kernel_rfl)
theorem zqM (a1:zA):vE a1 =
 (idx a1.s.P.Progs (w64 (a1.m-1))).bind fun x1 =>
 (idx x1 a1.Mutator.IP).bind fun x2 =>
 some (x2,()):=zx (by kernel_rfl)
theorem Yo (a1:zA):ZH a1 =
 some ({a1 with Mutator:={a1.Mutator with PC:=0,IP:=w64 (a1.Mutator.IP+1)}},()):=zx (by kernel_rfl)
theorem zmA (a1:Int) (a2:Int) (a3:zA):uQ a1 a2 a3 =
 (yM a3.Mutator.Regs).bind fun y1 =>
 (xM y1.1 a1).bind fun n2 =>
 (ZH ({a3 with Mutator:={a3.Mutator with Regs:=y1.1.set n2 a2}})).bind fun y3 =>
 some (y3.1,()):=zx (by kernel_rfl)
theorem zjY (a1:zA):V5 a1 =
 (idx a1.s.Acks (w64 (a1.m-1))).bind fun x1 =>
 bif decide (x1<a1.s.Epoch) then
 some ({a1 with Mutator:={a1.Mutator with PC:=1,Ret:=2,Want:=a1.s.Epoch}},())
 else
 (idx a1.s.P.Progs (w64 (a1.m-1))).bind fun x2 =>
 bif decide (((x2.length:Int))<=a1.Mutator.IP) then
  some (a1,())
 else
  (vE a1).bind fun y3 =>
  bif decide (y3.1.Kind=1) then
  some ({a1 with Mutator:={a1.Mutator with PC:=10}},())
  else
  bif decide (y3.1.Kind=2) then
   some ({a1 with Mutator:={a1.Mutator with PC:=20}},())
  else
   bif decide (y3.1.Kind=3) then
   some ({a1 with Mutator:={a1.Mutator with PC:=30}},())
   else
   bif decide (y3.1.Kind=4) then
    (idx a1.Mutator.Regs y3.1.A).bind fun x4 =>
    (uQ y3.1.R x4 a1).bind fun y5 =>
    some (y5.1,())
   else
    (uQ y3.1.R 0 a1).bind fun y6 =>
    some (y6.1,()):=zx (by kernel_rfl)
theorem zkg (a1:zA):zdh a1 =
 bif decide ((w64 (((a1.Mutator.Buf.length:Int))-1))<0) then
 some ({a1 with Mutator:={a1.Mutator with PC:=a1.Mutator.Ret}},())
 else
 (idx a1.Mutator.Buf (w64 (((a1.Mutator.Buf.length:Int))-1))).bind fun x1 =>
 (zbP 2 x1 a1.m).bind fun y2 =>
 (cut a1.Mutator.Buf 0 (w64 (((a1.Mutator.Buf.length:Int))-1))).bind fun l3 =>
 some ({a1 with Mutator:={a1.Mutator with PC:=3,Buf:=l3,G:=y2.1}},()):=zx (by kernel_rfl)
theorem zmK (a1:zA):zfC a1 =
 (yM a1.s.Acks).bind fun y1 =>
 (xM y1.1 (w64 (a1.m-1))).bind fun n2 =>
 some ({a1.Mutator with PC:=0},a1.s.P,a1.s.H,a1.s.M,a1.s.Bins,a1.s.T,a1.s.Work,a1.s.Epoch,a1.s.Flag,a1.s.Done,a1.s.Restarts,a1.s.L,a1.s.Ws,a1.s.Ms,a1.s.D,a1.m,y1.1.set n2 a1.Mutator.Want,()):=zx (by kernel_rfl)
theorem zjd (a1:Int) (a2:zA):YD a1 a2 =
 (zdy a2.s a2.Mutator.G).bind fun y1 =>
 bif decide (y1.2.1.Out=1) then
 some (zA.mk {a2.Mutator with PC:=a1,G:=y1.2.1} y1.1 a2.m,())
 else
 some (zA.mk {a2.Mutator with G:=y1.2.1} y1.1 a2.m,()):=zx (by kernel_rfl)
theorem zkw (a1:zA):zdj a1 =
 (YD 1 a1).bind fun y1 =>
 some (y1.1,()):=zx (by kernel_rfl)
theorem zoZ (a1:zA):VU a1 =
 (vE a1).bind fun y1 =>
 (idx a1.Mutator.Regs y1.1.A).bind fun x2 =>
 (vE a1).bind fun y3 =>
 (zfi a1.s.H x2 y3.1.S).bind fun y4 =>
 some (y4.1,()):=zx (by kernel_rfl)
theorem zlp (a1:zA):zeb a1 =
 (vE a1).bind fun y1 =>
 (VU a1).bind fun y2 =>
 (uQ y1.1.R y2.1 a1).bind fun y3 =>
 some (y3.1,()):=zx (by kernel_rfl)
theorem zmF (a1:zA):zeX a1 =
 (vE a1).bind fun y1 =>
 (idx a1.Mutator.Regs y1.1.A).bind fun x2 =>
 bif decide (x2=0) then
 (ZH a1).bind fun y3 =>
 some (y3.1,())
 else
 (VU a1).bind fun y4 =>
 some ({a1 with Mutator:={a1.Mutator with PC:=21,Old:=y4.1}},()):=zx (by kernel_rfl)
theorem zkD (a1:zA):zc6 a1 =
 bif decide (a1.Mutator.Old=0) then
 some ({a1 with Mutator:={a1.Mutator with PC:=23,Old:=0}},())
 else
 (zm8 a1.s.T a1.Mutator.Old).bind fun y1 =>
 bif !(decide (y1.1=0)) then
  some ({a1 with Mutator:={a1.Mutator with PC:=23,Old:=0}},())
 else
  some ({a1 with Mutator:={a1.Mutator with PC:=22}},()):=zx (by kernel_rfl)
theorem zg9 (a1:zA):zbK a1 =
 bif decide (a1.s.P.Buf<=((a1.Mutator.Buf.length:Int))) then
 some ({a1 with Mutator:={a1.Mutator with PC:=1,Ret:=22}},())
 else
 (yM a1.Mutator.Buf).bind fun y1 =>
 (yq (y1.1++([a1.Mutator.Old]:List Int))).bind fun l2 =>
 some ({a1 with Mutator:={a1.Mutator with PC:=23,Old:=0,Buf:=l2}},()):=zx (by kernel_rfl)
theorem zzq (a1:zq) (a2:Int) (a3:Int) (a4:Int):zpj a1 a2 a3 a4 =
 (UE a1 a2 a3).bind fun y1 =>
 bif !y1.1 then
 some (a1,false,())
 else
 bif decide (a4<0) then
  some (a1,false,())
 else
  bif decide (((a1.Objs.length:Int))<a4) then
  some (a1,false,())
  else
  (wW a1.Objs).bind fun y2 =>
  (xM y2.1 (w64 (a2-1))).bind fun n3 =>
  (y2.1[n3]?).bind fun x4 =>
  (yM x4).bind fun y5 =>
  (xM y2.1 (w64 (a2-1))).bind fun n6 =>
  (xM y2.1 (w64 (a2-1))).bind fun n7 =>
  bif decide (n7=n6) then
   (xM y5.1 a3).bind fun n8 =>
   some ({a1 with Objs:=y2.1.set n6 (y5.1.set n8 a4)},true,())
  else
   none:=zx (by kernel_rfl)
theorem zkb (a1:zA):zdi a1 =
 (vE a1).bind fun y1 =>
 (idx a1.Mutator.Regs y1.1.A).bind fun x2 =>
 (idx a1.Mutator.Regs y1.1.R).bind fun x3 =>
 (zpj a1.s.H x2 y1.1.S x3).bind fun y4 =>
 (ZH ({a1 with s:={a1.s with H:=y4.1}})).bind fun y5 =>
 some (y5.1,()):=zx (by kernel_rfl)
theorem ziB (a1:List (List Int)):WA a1 =
 bif decide (0=0)&&decide (((a1.length:Int))=0)&&decide (((a1.length:Int))=0) then
 none
 else
 bif decide (0=0)&&decide (((a1.length:Int))=((a1.length:Int)))&&decide (((a1.length:Int))=((a1.length:Int))) then
  some (a1,())
 else
  bif decide (((a1.length:Int))=((a1.length:Int))) then
  (cut a1 0 ((a1.length:Int))).bind fun l1 =>
  none
  else
  none:=zx (by kernel_rfl)
theorem zvT (a1:zq) (a2:Int):zfT a1 a2 =
 (Xj a1).bind fun y1 =>
 bif !y1.1 then
 some (a1,0,1,())
 else
 bif decide ((bif decide (64<a2) then 64 else a2)<=((a1.Objs.length:Int))) then
  some (a1,0,4,())
 else
  (WA a1.Objs).bind fun y2 =>
  bif decide (a1.Slots=a1.Slots) then
  (W4 a1.Slots).bind fun n3 =>
  (yq (y2.1++(([(List.replicate n3 ((0:Int)))]:List (List Int))))).bind fun l4 =>
  some ({a1 with Objs:=l4},(l4.length:Int),0,())
  else
  none:=zx (by kernel_rfl)
theorem zmS (a1:zm) (a2:Int):zb5 a1 a2 =
 (zci a1 a2).bind fun y1 =>
 bif !y1.2.1 then
 some (a1,false,())
 else
 (Uf y1.1 a2).bind fun y2 =>
 some (y2.1,y2.2.1,()):=zx (by kernel_rfl)
theorem zqL (a1:Int) (a2:Int):zaz a1 a2 =
 some (w64 (a1-a2),()):=zx (by kernel_rfl)
theorem Uu (a1:zr) (a2:Int) (a3:Int):Yp a1 a2 a3 =
 bif decide (((a1.Bal.length:Int))=((a1.Bal.length:Int))) then
 (W4 ((a1.Bal.length:Int))).bind fun n1 =>
 bif decide (a1.Bal.length=((List.replicate n1 ((0:Int))).length)) then
  bif a1.Bal.isEmpty then
  (xM (List.replicate n1 ((0:Int))) (w64 (a2-1))).bind fun n2 =>
  ((List.replicate n1 ((0:Int)))[n2]?).bind fun x3 =>
  (zaz x3 a3).bind fun y4 =>
  (xM (List.replicate n1 ((0:Int))) (w64 (a2-1))).bind fun n5 =>
  some ({a1 with Bal:=(List.replicate n1 ((0:Int))).set n5 y4.1},())
  else
  (xM a1.Bal (w64 (a2-1))).bind fun n6 =>
  (a1.Bal[n6]?).bind fun x7 =>
  (zaz x7 a3).bind fun y8 =>
  (xM a1.Bal (w64 (a2-1))).bind fun n9 =>
  some ({a1 with Bal:=a1.Bal.set n9 y8.1},())
 else
  none
 else
 none:=zx (by kernel_rfl)
theorem zkj (a1:zr) (a2:Int) (a3:Int) (a4:Int):YW a1 a2 a3 a4 =
 (ZS a1 a2).bind fun y1 =>
 bif y1.1 then
 bif decide (0<=(bif decide (a4<a3) then a4 else a3)) then
  some (decide ((bif decide (a3<a4) then a4 else a3)<=1000000),())
 else
  some (false,())
 else
 some (false,()):=zx (by kernel_rfl)
theorem zvU (a1:zr) (a2:Int) (a3:Int) (a4:Int):zfo a1 a2 a3 a4 =
 (YW a1 a2 a3 a4).bind fun y1 =>
 bif y1.1 then
 (idx a1.Bal (w64 (a2-1))).bind fun x2 =>
 some (decide ((w64 (0-a4))<=(w64 (x2-a3))),())
 else
 some (false,()):=zx (by kernel_rfl)
theorem zte (a1:zr) (a2:Int) (a3:Int) (a4:Int):zgp a1 a2 a3 a4 =
 (zfo a1 a2 a3 a4).bind fun y1 =>
 bif !y1.1 then
 some (a1,false,())
 else
 (Yp ({a1 with Spent:=w64 (a1.Spent+a3)}) a2 a3).bind fun y2 =>
 some (y2.1,true,()):=zx (by kernel_rfl)
theorem zkx (a1:zA):zdt a1 =
 (zgp a1.s.L a1.m a1.s.P.Price a1.s.P.Limit).bind fun y1 =>
 bif !y1.2.1 then
 some ({a1 with Mutator:={a1.Mutator with PC:=31}},())
 else
 (zfT a1.s.H a1.s.P.Most).bind fun y2 =>
 bif !(decide (y2.2.2.1=0)) then
  (ZH a1).bind fun y3 =>
  some (y3.1,())
 else
  (zb5 a1.s.T y2.2.1).bind fun y4 =>
  (vE ({a1 with s:={a1.s with H:=y2.1,T:=y4.1,L:=y1.1}})).bind fun y5 =>
  (uQ y5.1.R y2.2.1 ({a1 with s:={a1.s with H:=y2.1,T:=y4.1,L:=y1.1}})).bind fun y6 =>
  some (y6.1,()):=zx (by kernel_rfl)
theorem zr1 (a1:Int) (a2:Int):zbJ a1 a2 =
 some (w64 (a1+a2),()):=zx (by kernel_rfl)
theorem UZ (a1:zr) (a2:Int) (a3:Int):Yv a1 a2 a3 =
 bif decide (((a1.Bal.length:Int))=((a1.Bal.length:Int))) then
 (W4 ((a1.Bal.length:Int))).bind fun n1 =>
 bif decide (a1.Bal.length=((List.replicate n1 ((0:Int))).length)) then
  bif a1.Bal.isEmpty then
  (xM (List.replicate n1 ((0:Int))) (w64 (a2-1))).bind fun n2 =>
  ((List.replicate n1 ((0:Int)))[n2]?).bind fun x3 =>
  (zbJ x3 a3).bind fun y4 =>
  (xM (List.replicate n1 ((0:Int))) (w64 (a2-1))).bind fun n5 =>
  some ({a1 with Bal:=(List.replicate n1 ((0:Int))).set n5 y4.1},())
  else
  (xM a1.Bal (w64 (a2-1))).bind fun n6 =>
  (a1.Bal[n6]?).bind fun x7 =>
  (zbJ x7 a3).bind fun y8 =>
  (xM a1.Bal (w64 (a2-1))).bind fun n9 =>
  some ({a1 with Bal:=a1.Bal.set n9 y8.1},())
 else
  none
 else
 none:=zx (by kernel_rfl)
theorem zuz (a1:zr) (a2:Int) (a3:Int):ziZ a1 a2 a3 =
 (ZS a1 a2).bind fun y1 =>
 bif !y1.1 then
 some (a1,0,())
 else
 bif decide ((bif decide (a1.Pool<a3) then a1.Pool else a3)<=0) then
  some (a1,0,())
 else
  (Yv ({a1 with Pool:=w64 (a1.Pool-(bif decide (a1.Pool<a3) then a1.Pool else a3))}) a2 (bif decide (a1.Pool<a3) then a1.Pool else a3)).bind fun y2 =>
  some (y2.1,bif decide (a1.Pool<a3) then a1.Pool else a3,()):=zx (by kernel_rfl)
theorem zs3 (a1:zr) (a2:Int) (a3:Int) (a4:Int):zgz a1 a2 a3 a4 =
 (YW a1 a2 a3 a4).bind fun y1 =>
 bif !y1.1 then
 some (-1,())
 else
 (zfo a1 a2 a3 a4).bind fun y2 =>
 bif y2.1 then
  some (0,())
 else
  (idx a1.Bal (w64 (a2-1))).bind fun x3 =>
  some (w64 ((w64 (a3-a4))-x3),()):=zx (by kernel_rfl)
theorem zlN (a1:Int) (a2:Int) (a3:Int) (a4:zA):Xp a1 a2 a3 a4 =
 (Yc a4.s.P).bind fun y1 =>
 (zaY a1 a2 y1.1 a4.Mutator.Bin).bind fun y2 =>
 some ({a4 with Mutator:={a4.Mutator with PC:=a3,C:=y2.1}},()):=zx (by kernel_rfl)
theorem zlA (a1:zA):zer a1 =
 (zgz a1.s.L a1.m a1.s.P.Price a1.s.P.Limit).bind fun y1 =>
 (ziZ a1.s.L a1.m y1.1).bind fun y2 =>
 bif decide (y2.2.1=0) then
 (Y3 a1.s.P).bind fun y3 =>
 (Xp 2 y3.1 32 (zA.mk {a1.Mutator with PC:=0} {a1.s with L:=y2.1} a1.m)).bind fun y4 =>
 some (y4.1,())
 else
 some (zA.mk {a1.Mutator with PC:=0} {a1.s with L:=y2.1} a1.m,()):=zx (by kernel_rfl)
theorem zmH (a1:zA):zfO a1 =
 (WV a1.s.M a1.Mutator.C).bind fun y1 =>
 bif decide (y1.2.1.Out=1) then
 some (zA.mk {a1.Mutator with PC:=33,Bin:=y1.2.1.X,C:=y1.2.1} {a1.s with M:=y1.1} a1.m,())
 else
 bif decide (y1.2.1.Out=2) then
  some (zA.mk {a1.Mutator with PC:=0,C:=y1.2.1} {a1.s with M:=y1.1} a1.m,())
 else
  some (zA.mk {a1.Mutator with C:=y1.2.1} {a1.s with M:=y1.1} a1.m,()):=zx (by kernel_rfl)
theorem zkn (a1:zA):zdu a1 =
 (idx a1.s.Bins a1.Mutator.Bin).bind fun x1 =>
 (wW a1.s.Bins).bind fun y2 =>
 (xM y2.1 a1.Mutator.Bin).bind fun n3 =>
 (Xx a1.s.P).bind fun y4 =>
 (Xp 1 y4.1 34 (zA.mk {a1.Mutator with Batch:=x1} {a1.s with Bins:=y2.1.set n3 ([]:List Int)} a1.m)).bind fun y5 =>
 some (y5.1,()):=zx (by kernel_rfl)
theorem zkW (a1:zA):zec a1 =
 (WV a1.s.M a1.Mutator.C).bind fun y1 =>
 bif decide (y1.2.1.Out=1) then
 some (zA.mk {a1.Mutator with PC:=35,Bin:=0,C:=y1.2.1} {a1.s with M:=y1.1} a1.m,())
 else
 some (zA.mk {a1.Mutator with C:=y1.2.1} {a1.s with M:=y1.1} a1.m,()):=zx (by kernel_rfl)
theorem zkp (a1:zA):zdw a1 =
 bif decide (0<((a1.Mutator.Batch.length:Int))) then
 (idx a1.Mutator.Batch 0).bind fun x1 =>
 (cut a1.Mutator.Batch 1 ((a1.Mutator.Batch.length:Int))).bind fun l2 =>
 some ({a1 with Mutator:={a1.Mutator with PC:=36,Obj:=x1,Slot:=0,Batch:=l2}},())
 else
 some ({a1 with Mutator:={a1.Mutator with PC:=0}},()):=zx (by kernel_rfl)
theorem zqK (a1:zA):zaK a1 =
 bif decide (a1.Mutator.Slot=a1.s.H.Slots) then
 some (38,())
 else
 some (36,()):=zx (by kernel_rfl)
theorem zlF (a1:zA):zei a1 =
 (zfi a1.s.H a1.Mutator.Obj a1.Mutator.Slot).bind fun y1 =>
 (zaK ({a1 with Mutator:={a1.Mutator with Slot:=w64 (a1.Mutator.Slot+1)}})).bind fun y2 =>
 bif !(decide (y1.1=0)) then
 (zbP 3 y1.1 a1.m).bind fun y3 =>
 some ({a1 with Mutator:={a1.Mutator with PC:=37,Slot:=w64 (a1.Mutator.Slot+1),G:=y3.1}},())
 else
 some ({a1 with Mutator:={a1.Mutator with PC:=y2.1,Slot:=w64 (a1.Mutator.Slot+1)}},()):=zx (by kernel_rfl)
theorem zmr (a1:zA):zfk a1 =
 (zaK a1).bind fun y1 =>
 (YD y1.1 a1).bind fun y2 =>
 some (y2.1,()):=zx (by kernel_rfl)
theorem zii (a1:zA):zbY a1 =
 (Uf a1.s.T a1.Mutator.Obj).bind fun y1 =>
 (zaT a1.s.L a1.m).bind fun y2 =>
 some (zA.mk {a1.Mutator with PC:=39} {a1.s with T:=y1.1,L:=y2.1} a1.m,()):=zx (by kernel_rfl)
theorem zh5 (a1:zA):zbV a1 =
 some (zA.mk {a1.Mutator with PC:=35,Obj:=0} {a1.s with Work:=w64 (a1.s.Work-1)} a1.m,()):=zx (by kernel_rfl)
theorem zlW (a1:zA):UY a1 =
 bif decide (a1.Mutator.PC=0) then
 (V5 a1).bind fun y1 =>
 some (y1.1,())
 else
 bif decide (a1.Mutator.PC=1) then
  (zdh a1).bind fun y2 =>
  some (y2.1,())
 else
  bif decide (a1.Mutator.PC=2) then
  (zfC a1).bind fun y3 =>
  let y3a:=y3.2.2.2.2.2.2.2.2;let y3b:=y3a.2.2.2.2.2.2.2.2
  some (zA.mk y3.1 (za.mk y3.2.1 y3.2.2.1 y3.2.2.2.1 y3.2.2.2.2.1 y3.2.2.2.2.2.1 y3.2.2.2.2.2.2.1 y3.2.2.2.2.2.2.2.1 y3a.1 y3a.2.1 y3a.2.2.1 y3b.1 y3a.2.2.2.1 y3a.2.2.2.2.1 y3a.2.2.2.2.2.1 y3a.2.2.2.2.2.2.1) y3a.2.2.2.2.2.2.2.1,())
  else
  bif decide (a1.Mutator.PC=3) then
   (zdj a1).bind fun y4 =>
   some (y4.1,())
  else
   bif decide (a1.Mutator.PC=10) then
   (zeb a1).bind fun y5 =>
   some (y5.1,())
   else
   bif decide (a1.Mutator.PC=20) then
    (zeX a1).bind fun y6 =>
    some (y6.1,())
   else
    bif decide (a1.Mutator.PC=21) then
    (zc6 a1).bind fun y7 =>
    some (y7.1,())
    else
    bif decide (a1.Mutator.PC=22) then
     (zbK a1).bind fun y8 =>
     some (y8.1,())
    else
     bif decide (a1.Mutator.PC=23) then
     (zdi a1).bind fun y9 =>
     some (y9.1,())
     else
     bif decide (a1.Mutator.PC=30) then
      (zdt a1).bind fun y10 =>
      some (y10.1,())
     else
      bif decide (a1.Mutator.PC=31) then
      (zer a1).bind fun y11 =>
      some (y11.1,())
      else
      bif decide (a1.Mutator.PC=32) then
       (zfO a1).bind fun y12 =>
       some (y12.1,())
      else
       bif decide (a1.Mutator.PC=33) then
       (zdu a1).bind fun y13 =>
       some (y13.1,())
       else
       bif decide (a1.Mutator.PC=34) then
        (zec a1).bind fun y14 =>
        some (y14.1,())
       else
        bif decide (a1.Mutator.PC=35) then
        (zdw a1).bind fun y15 =>
        some (y15.1,())
        else
        bif decide (a1.Mutator.PC=36) then
         (zei a1).bind fun y16 =>
         some (y16.1,())
        else
         bif decide (a1.Mutator.PC=37) then
         (zfk a1).bind fun y17 =>
         some (y17.1,())
         else
         bif decide (a1.Mutator.PC=38) then
          (zbY a1).bind fun y18 =>
          some (y18.1,())
         else
          bif decide (a1.Mutator.PC=39) then
          (zbV a1).bind fun y19 =>
          some (y19.1,())
          else
          some (a1,()):=zx (by kernel_rfl)
theorem Vm (a1:List ze):vd a1 =
 bif a1.isEmpty then
 zlV (
  some (([]:List ze),())) (
  (yq (([]:List ze)++a1)).bind fun l1 =>
  some (l1,()))
 else
 (yq (([]:List ze)++a1)).bind fun l2 =>
 some (l2,()):=zx (by kernel_rfl)
theorem zs6 (a1:za) (a2:Int):zg6 a1 a2 =
 bif a1.Done then
 some (a1,())
 else
 bif decide (a2<1) then
  some (a1,())
 else
  bif decide (((a1.Ms.length:Int))<a2) then
  some (a1,())
  else
  (idx a1.Ms (w64 (a2-1))).bind fun x1 =>
  (UY (zA.mk x1 a1 a2)).bind fun y2 =>
  (vd y2.1.s.Ms).bind fun y3 =>
  (xM y3.1 (w64 (a2-1))).bind fun n4 =>
  some ({y2.1.s with Ms:=y3.1.set n4 y2.1.Mutator},()):=zx (by kernel_rfl)
theorem ztD (a1:za) (a2:zj):zdG a1 a2 =
 (zrV a2).bind fun y1 =>
 bif !y1.1 then
 some (a1,())
 else
 bif decide (a2.Kind=0) then
  (znb a1 a2.N).bind fun y2 =>
  some (y2.1,())
 else
  bif decide (a2.Kind=1) then
  (zjk a1 a2.N).bind fun y3 =>
  some (y3.1,())
  else
  bif decide (a2.Kind=2) then
   (zg6 a1 a2.N).bind fun y4 =>
   some (y4.1,())
  else
   none:=zx (by kernel_rfl)
theorem zrn (s1:List zj) (s2:List zj) (s3:Int) (s4:Int) (s5:za) (s6:Int) (s7:Int) (s8:Int) (s9:Int) (s10:Int) (s11:Int) (s12:Int) (s13:Int) (s14:Int) (s15:BitVec 64) (s16:Int) (s17:zm) (s18:Int) (s19:Int) (s20:Bool) (s21:Bool) (s22:Int) (s23:Int) (s24:Int) (s25:Int) (s26:zE) (s27:List (List Int)) (s28:List (List Int)) (s29:List (List zw)) (s30:List zj) (s31:List (List Int)) (s32:List (BitVec 64)) (s33:List (List Int)) (s34:List Int) (s35:List Int) (s36:List zk) (s37:List ze):zfS (s1,s2,s3,s4,s5,s6,s7,s8,s9,s10,s11,s12,s13,s14,s15,s16,s17,s18,s19,s20,s21,s22,s23,s24,s25,s26,s27,s28,s29,s30,s31,s32,s33,s34,s35,s36,s37,()) =
 bif decide (s4<s3) then
 (idx s2 s4).bind fun x1 =>
 bif s5.Done then
  some (.ret (s4,s5,()))
 else
  (zdG s5 x1).bind fun y2 =>
  some (.again (s1,s2,s3,w64 (s4+1),y2.1,s6,s7,s8,s9,s10,s11,s12,s13,s14,s15,s16,s17,s18,s19,s20,s21,s22,s23,s24,s25,s26,s27,s28,s29,s30,s31,s32,s33,s34,s35,s36,s37,()))
 else
 some (.brk (s1,s5,s6,s7,s8,s9,s10,s11,s12,s13,s14,s15,s16,s17,s18,s19,s20,s21,s22,s23,s24,s25,s26,s27,s28,s29,s30,s31,s32,s33,s34,s35,s36,s37,())):=by kernel_rfl
theorem zvu (a1:za) (a2:List zj):WJ a1 a2 =
 (zX zfS (a2,a2,(a2.length:Int),0,a1,0,0,0,0,0,0,0,0,0,0#64,0,zm.mk 0#64 0#64,0,0,false,false,0,0,0,0,zE.mk 0 0,([]:List (List Int)),([]:List (List Int)),([]:List (List zw)),([]:List zj),([]:List (List Int)),([]:List (BitVec 64)),([]:List (List Int)),([]:List Int),([]:List Int),([]:List zk),([]:List ze),())).bind fun st=>match st with
  | .again _=>none
  | .brk y1 =>
  some (y1.2.1,(y1.1.length:Int),())
  | .ret y1 =>
  some (y1.2.1,y1.1,()):=zx (by kernel_rfl)
theorem zfp (s1:Int) (s2:zm) (s3:zm):zc0 (s1,s2,s3,()) =
 bif decide (s1<64) then
 (zX ud (s1,1,s1,s2,s3,())).bind fun st=>match st with
  | .again _=>none
  | .brk y1 =>
  some (.again (w64 (y1.1+1),y1.2.1,y1.2.2.1,()))
  | .ret y1 =>
  some (.ret (y1.1,y1.2.1,()))
 else
 some (.brk (())):=by kernel_rfl
theorem X8 (s1:Int) (s2:Int) (s3:Int) (s4:zm) (s5:zm):ud (s1,s2,s3,s4,s5,()) =
 bif decide (s2<=3) then
 bif decide (s2=3) then
  (zb5 s4 (w64 (s1+1))).bind fun y1 =>
  bif y1.2.1 then
  bif (decide (y1.1.Marks=s5.Marks))&&(decide (y1.1.Black=s5.Black)) then
   some (.ret (s2,w64 (s1+1),()))
  else
   some (.again (s1,w64 (s2+1),s3,s4,s5,()))
  else
  some (.again (s1,w64 (s2+1),s3,s4,s5,()))
 else
  bif decide (s2=2) then
  (Uf s4 (w64 (s1+1))).bind fun y2 =>
  bif y2.2.1 then
   bif (decide (y2.1.Marks=s5.Marks))&&(decide (y2.1.Black=s5.Black)) then
   some (.ret (s2,w64 (s1+1),()))
   else
   some (.again (s1,w64 (s2+1),s3,s4,s5,()))
  else
   some (.again (s1,w64 (s2+1),s3,s4,s5,()))
  else
  bif decide (s2=1) then
   (zci s4 (w64 (s1+1))).bind fun y3 =>
   bif y3.2.1 then
   bif (decide (y3.1.Marks=s5.Marks))&&(decide (y3.1.Black=s5.Black)) then
    some (.ret (s2,w64 (s1+1),()))
   else
    some (.again (s1,w64 (s2+1),s3,s4,s5,()))
   else
   some (.again (s1,w64 (s2+1),s3,s4,s5,()))
  else
   bif decide (s2=0) then
   none
   else
   none
 else
 some (.brk (s3,s4,s5,())):=by kernel_rfl
theorem zsO (a1:zm) (a2:zm):zhh a1 a2 =
 bif (decide (a1.Marks=a2.Marks))&&(decide (a1.Black=a2.Black)) then
 some (0,0,())
 else
 (zX zc0 (0,a1,a2,())).bind fun st=>match st with
  | .again _=>none
  | .brk y1 =>
  some (-1,0,())
  | .ret y1 =>
  some (y1.1,y1.2.1,()):=zx (by kernel_rfl)
end Go.Pe.G
namespace Go.Pe.G
open Go.Pe
theorem zgb (s1:List Int) (s2:List Int) (s3:Int) (s4:Int):XH (s1,s2,s3,s4,()) =
 bif decide (s4<s3) then
 (idx s1 s4).bind fun x1 =>
 (idx s2 s4).bind fun x2 =>
 bif !(decide (x1=x2)) then
  some (.ret (false,()))
 else
  some (.again (s1,s2,s3,w64 (s4+1),()))
 else
 some (.brk (())):=by kernel_rfl
theorem zje (a1:List Int) (a2:List Int):Vr a1 a2 =
 bif !(decide (((a1.length:Int))=((a2.length:Int)))) then
 some (false,())
 else
 (zX XH (a1,a2,(a1.length:Int),0,())).bind fun st=>match st with
  | .again _=>none
  | .brk y1 =>
  some (true,())
  | .ret y1 =>
  some (y1.1,()):=zx (by kernel_rfl)
theorem uN (s1:List (List Int)) (s2:List (List Int)) (s3:Int) (s4:Int):yO (s1,s2,s3,s4,()) =
 bif decide (s4<s3) then
 (idx s2 s4).bind fun x1 =>
 (idx s1 s4).bind fun x2 =>
 (Vr x1 x2).bind fun y3 =>
 bif !y3.1 then
  some (.ret (false,()))
 else
  some (.again (s1,s2,s3,w64 (s4+1),()))
 else
 some (.brk (())):=by kernel_rfl
theorem u7 (a1:List (List Int)) (a2:List (List Int)):yY a1 a2 =
 bif !(decide (((a1.length:Int))=((a2.length:Int)))) then
 some (false,())
 else
 (zX yO (a2,a1,(a1.length:Int),0,())).bind fun st=>match st with
  | .again _=>none
  | .brk y1 =>
  some (true,())
  | .ret y1 =>
  some (y1.1,()):=zx (by kernel_rfl)
theorem zxe (a1:zq) (a2:zq):zhu a1 a2 =
 bif decide (a1.Slots=a2.Slots) then
 (yY a1.Objs a2.Objs).bind fun y1 =>
 some (y1.1,())
 else
 some (false,()):=zx (by kernel_rfl)
theorem zqC (s1:Int) (s2:Int) (s3:List (List Int)) (s4:Int) (s5:Int) (s6:zq):zdS (s1,s2,s3,s4,s5,s6,()) =
 bif decide (s5<s4) then
 (idx s3 s5).bind fun x1 =>
 (idx s6.Objs s5).bind fun x2 =>
 bif !(decide (((x1.length:Int))=((x2.length:Int)))) then
  some (.ret (0,()))
 else
  (zX Uv (s1,s2,s5,s3,s4,s5,x1,(x1.length:Int),0,s6,())).bind fun st=>match st with
   | .again _=>none
   | .brk y3 =>
   some (.again (y3.1,y3.2.1,y3.2.2.1,y3.2.2.2.1,w64 (y3.2.2.2.2.1+1),y3.2.2.2.2.2.1,()))
   | .ret y3 =>
   none
 else
 some (.brk (s1,s2,())):=by kernel_rfl
theorem zpI (s1:Int) (s2:Int) (s3:Int) (s4:List (List Int)) (s5:Int) (s6:Int) (s7:List Int) (s8:Int) (s9:Int) (s10:zq):Uv (s1,s2,s3,s4,s5,s6,s7,s8,s9,s10,()) =
 bif decide (s9<s8) then
 (idx s7 s9).bind fun x1 =>
 (idx s10.Objs s3).bind fun x2 =>
 (idx x2 s9).bind fun x3 =>
 bif !(decide (x1=x3)) then
  some (.again (w64 (s3+1),w64 (s2+1),s3,s4,s5,s6,s7,s8,w64 (s9+1),s10,()))
 else
  some (.again (s1,s2,s3,s4,s5,s6,s7,s8,w64 (s9+1),s10,()))
 else
 some (.brk (s1,s2,s4,s5,s6,s10,())):=by kernel_rfl
theorem zuA (a1:zq) (a2:zq):VC a1 a2 =
 bif !(decide (a1.Slots=a2.Slots)) then
 some (0,())
 else
 bif !(decide (((a1.Objs.length:Int))=((a2.Objs.length:Int)))) then
  some (0,())
 else
  (zX zdS (0,0,a1.Objs,(a1.Objs.length:Int),0,a2,())).bind fun st=>match st with
   | .again _=>none
   | .brk y1 =>
   bif !(decide (y1.2.1=1)) then
   some (0,())
   else
   some (y1.1,())
   | .ret y1 =>
   some (y1.1,()):=zx (by kernel_rfl)
theorem zze (a1:za) (a2:za):zaA a1 a2 =
 (zhh a1.T a2.T).bind fun y1 =>
 (zhu a1.H a2.H).bind fun y2 =>
 bif y2.1 then
 bif decide (y1.1<0) then
  some (-1,0,())
 else
  bif decide (2<y1.1) then
  some (-1,0,())
  else
  some (y1.1,y1.2.1,())
 else
 (zfT a1.H 64).bind fun y3 =>
 bif decide (y3.2.2.1=0) then
  bif decide (y1.1=3) then
  bif decide (y1.2.1=y3.2.1) then
   (zhu y3.1 a2.H).bind fun y4 =>
   bif y4.1 then
   some (3,y1.2.1,())
   else
   (VC a1.H a2.H).bind fun y5 =>
   bif decide (y1.1=0) then
    bif decide (0<y5.1) then
    some (4,y5.1,())
    else
    some (-1,0,())
   else
    some (-1,0,())
  else
   (VC a1.H a2.H).bind fun y6 =>
   bif decide (y1.1=0) then
   bif decide (0<y6.1) then
    some (4,y6.1,())
   else
    some (-1,0,())
   else
   some (-1,0,())
  else
  (VC a1.H a2.H).bind fun y7 =>
  bif decide (y1.1=0) then
   bif decide (0<y7.1) then
   some (4,y7.1,())
   else
   some (-1,0,())
  else
   some (-1,0,())
 else
  (VC a1.H a2.H).bind fun y8 =>
  bif decide (y1.1=0) then
  bif decide (0<y8.1) then
   some (4,y8.1,())
  else
   some (-1,0,())
  else
  some (-1,0,()):=zx (by kernel_rfl)
theorem zfM (a1:zm):zfD a1 =
 some (a1.Marks&&& ~~~a1.Black,()):=zx (by kernel_rfl)
theorem zzo (a1:List Int):zpA a1 =
 (zkY a1).bind fun y1 =>
 (Wt y1.1).bind fun y2 =>
 bif !(decide (y2.1=((a1.length:Int)))) then
 some (0#64,false,())
 else
 some (y1.1,true,()):=zx (by kernel_rfl)
theorem zy5 (a1:za):zu3 a1 =
 some (a1,()):=zx (by kernel_rfl)
theorem Wr (s1:List (List Int)) (s2:Int) (s3:List (List Int)) (s4:Int) (s5:Int):xO (s1,s2,s3,s4,s5,()) =
 bif decide (s5<s4) then
 (idx s3 s5).bind fun x1 =>
 bif decide ((w64 (s2+((x1.length:Int))))<0) then
  none
 else
  some (.again (s1,w64 (s2+((x1.length:Int))),s3,s4,w64 (s5+1),()))
 else
 some (.brk (s1,s2,())):=by kernel_rfl
theorem XW (s1:List (List Int)) (s2:Int) (s3:Int) (s4:List Int):xK (s1,s2,s3,s4,()) =
 bif decide (s3<s2) then
 (idx s1 s3).bind fun x1 =>
 (yq (s4++x1)).bind fun l2 =>
 some (.again (s1,s2,w64 (s3+1),l2,()))
 else
 some (.brk (s4,())):=by kernel_rfl
theorem ze4 (a1:List (List Int)):Xd a1 =
 (zX xO (a1,0,a1,(a1.length:Int),0,())).bind fun st=>match st with
  | .again _=>none
  | .brk y1 =>
  (zDU y1.2.1).bind fun y2 =>
  (zX xK (y1.1,(y1.1.length:Int),0,y2.1,())).bind fun st=>match st with
   | .again _=>none
   | .brk y3 =>
   some (y3.1,())
   | .ret y3 =>
   none
  | .ret y1 =>
  none:=zx (by kernel_rfl)
theorem zAv (a1:List Int) (a2:List Int):zrI a1 a2 =
 (Xd (([a1,a2]:List (List Int)))).bind fun y1 =>
 (zsB y1.1).bind fun y2 =>
 some (y2.1,()):=zx (by kernel_rfl)
theorem zrZ (s1:List (BitVec 64)) (s2:Int) (s3:Int) (s4:Int) (s5:List Int):ze8 (s1,s2,s3,s4,s5,()) =
 bif !(decide (s4=0)) then
 bif decide (((s5.length:Int))<(bif decide (1000<s3) then 1000 else s3)) then
  (yq (s5++([s4]:List Int))).bind fun l1 =>
  (UX s1 (w64 (s2+s4))).bind fun y2 =>
  some (.again (s1,s2,s3,y2.1.toInt,l1,()))
 else
  some (.brk (s5,()))
 else
 some (.brk (s5,())):=by kernel_rfl
theorem zvR (a1:List (BitVec 64)) (a2:Int) (a3:Int) (a4:Int):zk8 a1 a2 a3 a4 =
 (UX a1 a2).bind fun y1 =>
 (Xl y1.1).bind fun y2 =>
 (zX ze8 (a1,a3,a4,y2.1,([]:List Int),())).bind fun st=>match st with
  | .again _=>none
  | .brk y3 =>
  some (y3.1,())
  | .ret y3 =>
  none:=zx (by kernel_rfl)
theorem zzb (a1:List Int):yL a1 =
 (zsB a1).bind fun y1 =>
 some (y1.1,()):=zx (by kernel_rfl)
theorem ziJ (s1:Int) (s2:Int) (s3:za) (s4:List Int) (s5:List Int):VS (s1,s2,s3,s4,s5,()) =
 bif decide (s2<s1) then
 (xM s5 s2).bind fun n1 =>
 (s5[n1]?).bind fun x2 =>
 bif decide (x2<((s3.Bins.length:Int))) then
  (idx s3.Bins x2).bind fun x3 =>
  (yq (s4++x3)).bind fun l4 =>
  some (.again (s1,w64 (s2+1),s3,l4,s5,()))
 else
  some (.again (s1,w64 (s2+1),s3,s4,s5,()))
 else
 some (.brk (s4,())):=by kernel_rfl
theorem zv2 (a1:za):zb8 a1 =
 (Y3 a1.P).bind fun y1 =>
 (Yc a1.P).bind fun y2 =>
 (zk8 a1.M y1.1 y2.1 ((a1.Bins.length:Int))).bind fun y3 =>
 (zX VS ((y3.1.length:Int),0,a1,([]:List Int),y3.1,())).bind fun st=>match st with
  | .again _=>none
  | .brk y4 =>
  (yL y4.1).bind fun y5 =>
  some (y5.1,())
  | .ret y4 =>
  none:=zx (by kernel_rfl)
theorem zuu (a1:za) (a2:Int) (a3:zg):ziY a1 a2 a3 =
 bif decide (a3.PC=3) then
 bif !(decide (a3.T=(a3.B-1#64))) then
  (xm a1.P a2).bind fun y1 =>
  bif decide ((BitVec.ofInt 64 a1.P.Cap)=0#64) then
  none
  else
  (XC a1.M (Yr.mk 1 (w64 ((w64 (y1.1+2))+(((a3.B-1#64)%(BitVec.ofInt 64 a1.P.Cap)).toInt))) 0#64 0#64)).bind fun y2 =>
  some (([y2.2.1.toInt]:List Int),())
 else
  bif decide (a3.PC=6) then
  some (([a3.X]:List Int),())
  else
  some (([]:List Int),())
 else
 bif decide (a3.PC=6) then
  some (([a3.X]:List Int),())
 else
  some (([]:List Int),()):=zx (by kernel_rfl)
theorem zlj (a1:zB) (a2:Int) (a3:Int) (a4:Int):zny a1 a2 a3 a4 =
 bif decide (a1.Out=0) then
 bif decide (a2<=a1.PC) then
  bif decide (a1.PC<=a3) then
  some (a4,())
  else
  some (0,())
 else
  some (0,())
 else
 some (0,()):=zx (by kernel_rfl)
theorem zuY (a1:zB):Zq a1 =
 (zny a1 3 7 a1.Obj).bind fun y1 =>
 some (y1.1,()):=zx (by kernel_rfl)
theorem zfH (s1:List (BitVec 64)) (s2:BitVec 64) (s3:BitVec 64) (s4:zg) (s5:List Int):ym (s1,s2,s3,s4,s5,()) =
 bif !(decide (s3=s2)) then
 (un s3 s4).bind fun y1 =>
 (vT s1 y1.1).bind fun y2 =>
 (yq (s5++([y2.1.toInt]:List Int))).bind fun l3 =>
 some (.again (s1,s2,s3+1#64,s4,l3,()))
 else
 some (.brk (s5,())):=by kernel_rfl
theorem zt2 (a1:List (BitVec 64)) (a2:Int) (a3:Int) (a4:zg):wi a1 a2 a3 a4 =
 (Zp (zg.mk 0 0 a2 a3 0#64 0#64 0 0)).bind fun y1 =>
 (vT a1 y1.1).bind fun y2 =>
 (we (zg.mk 0 0 a2 a3 0#64 0#64 0 0)).bind fun y3 =>
 (vT a1 y3.1).bind fun y4 =>
 bif decide (a4.Kind=2) then
 bif decide (a4.Out=0) then
  bif decide (a4.PC=2) then
  bif decide (a4.PC=2) then
   (xu (y4.1+1#64) y2.1).bind fun y5 =>
   bif !y5.1 then
   some (([]:List Int),())
   else
   (yb (zg.mk 0 0 a2 a3 0#64 0#64 0 0)).bind fun y6 =>
   bif decide ((bif decide (64#64<y6.1) then 64#64 else y6.1)<((y4.1+1#64)-y2.1)) then
    some (([]:List Int),())
   else
    (zX ym (a1,y4.1+1#64,y2.1,zg.mk 0 0 a2 a3 0#64 0#64 0 0,([]:List Int),())).bind fun st=>match st with
     | .again _=>none
     | .brk y7 =>
     some (y7.1,())
     | .ret y7 =>
     none
  else
   bif decide (a4.PC=3) then
   bif decide (a4.T=(a4.B-1#64)) then
    (xu (y4.1+1#64) y2.1).bind fun y8 =>
    bif !y8.1 then
    some (([]:List Int),())
    else
    (yb (zg.mk 0 0 a2 a3 0#64 0#64 0 0)).bind fun y9 =>
    bif decide ((bif decide (64#64<y9.1) then 64#64 else y9.1)<((y4.1+1#64)-y2.1)) then
     some (([]:List Int),())
    else
     (zX ym (a1,y4.1+1#64,y2.1,zg.mk 0 0 a2 a3 0#64 0#64 0 0,([]:List Int),())).bind fun st=>match st with
      | .again _=>none
      | .brk y10 =>
      some (y10.1,())
      | .ret y10 =>
      none
   else
    (xu y4.1 y2.1).bind fun y11 =>
    bif !y11.1 then
    some (([]:List Int),())
    else
    (yb (zg.mk 0 0 a2 a3 0#64 0#64 0 0)).bind fun y12 =>
    bif decide ((bif decide (64#64<y12.1) then 64#64 else y12.1)<(y4.1-y2.1)) then
     some (([]:List Int),())
    else
     (zX ym (a1,y4.1,y2.1,zg.mk 0 0 a2 a3 0#64 0#64 0 0,([]:List Int),())).bind fun st=>match st with
      | .again _=>none
      | .brk y13 =>
      some (y13.1,())
      | .ret y13 =>
      none
   else
   (xu y4.1 y2.1).bind fun y14 =>
   bif !y14.1 then
    some (([]:List Int),())
   else
    (yb (zg.mk 0 0 a2 a3 0#64 0#64 0 0)).bind fun y15 =>
    bif decide ((bif decide (64#64<y15.1) then 64#64 else y15.1)<(y4.1-y2.1)) then
    some (([]:List Int),())
    else
    (zX ym (a1,y4.1,y2.1,zg.mk 0 0 a2 a3 0#64 0#64 0 0,([]:List Int),())).bind fun st=>match st with
     | .again _=>none
     | .brk y16 =>
     some (y16.1,())
     | .ret y16 =>
     none
  else
  bif decide (a4.PC=4) then
   bif decide (a4.PC=4) then
   (xu (y4.1+1#64) y2.1).bind fun y17 =>
   bif !y17.1 then
    some (([]:List Int),())
   else
    (yb (zg.mk 0 0 a2 a3 0#64 0#64 0 0)).bind fun y18 =>
    bif decide ((bif decide (64#64<y18.1) then 64#64 else y18.1)<((y4.1+1#64)-y2.1)) then
    some (([]:List Int),())
    else
    (zX ym (a1,y4.1+1#64,y2.1,zg.mk 0 0 a2 a3 0#64 0#64 0 0,([]:List Int),())).bind fun st=>match st with
     | .again _=>none
     | .brk y19 =>
     some (y19.1,())
     | .ret y19 =>
     none
   else
   bif decide (a4.PC=3) then
    bif decide (a4.T=(a4.B-1#64)) then
    (xu (y4.1+1#64) y2.1).bind fun y20 =>
    bif !y20.1 then
     some (([]:List Int),())
    else
     (yb (zg.mk 0 0 a2 a3 0#64 0#64 0 0)).bind fun y21 =>
     bif decide ((bif decide (64#64<y21.1) then 64#64 else y21.1)<((y4.1+1#64)-y2.1)) then
     some (([]:List Int),())
     else
     (zX ym (a1,y4.1+1#64,y2.1,zg.mk 0 0 a2 a3 0#64 0#64 0 0,([]:List Int),())).bind fun st=>match st with
      | .again _=>none
      | .brk y22 =>
      some (y22.1,())
      | .ret y22 =>
      none
    else
    (xu y4.1 y2.1).bind fun y23 =>
    bif !y23.1 then
     some (([]:List Int),())
    else
     (yb (zg.mk 0 0 a2 a3 0#64 0#64 0 0)).bind fun y24 =>
     bif decide ((bif decide (64#64<y24.1) then 64#64 else y24.1)<(y4.1-y2.1)) then
     some (([]:List Int),())
     else
     (zX ym (a1,y4.1,y2.1,zg.mk 0 0 a2 a3 0#64 0#64 0 0,([]:List Int),())).bind fun st=>match st with
      | .again _=>none
      | .brk y25 =>
      some (y25.1,())
      | .ret y25 =>
      none
   else
    (xu y4.1 y2.1).bind fun y26 =>
    bif !y26.1 then
    some (([]:List Int),())
    else
    (yb (zg.mk 0 0 a2 a3 0#64 0#64 0 0)).bind fun y27 =>
    bif decide ((bif decide (64#64<y27.1) then 64#64 else y27.1)<(y4.1-y2.1)) then
     some (([]:List Int),())
    else
     (zX ym (a1,y4.1,y2.1,zg.mk 0 0 a2 a3 0#64 0#64 0 0,([]:List Int),())).bind fun st=>match st with
      | .again _=>none
      | .brk y28 =>
      some (y28.1,())
      | .ret y28 =>
      none
  else
   bif decide (a4.PC=5) then
   (xu (y4.1+1#64) y2.1).bind fun y29 =>
   bif !y29.1 then
    some (([]:List Int),())
   else
    (yb (zg.mk 0 0 a2 a3 0#64 0#64 0 0)).bind fun y30 =>
    bif decide ((bif decide (64#64<y30.1) then 64#64 else y30.1)<((y4.1+1#64)-y2.1)) then
    some (([]:List Int),())
    else
    (zX ym (a1,y4.1+1#64,y2.1,zg.mk 0 0 a2 a3 0#64 0#64 0 0,([]:List Int),())).bind fun st=>match st with
     | .again _=>none
     | .brk y31 =>
     some (y31.1,())
     | .ret y31 =>
     none
   else
   bif decide (a4.PC=3) then
    bif decide (a4.T=(a4.B-1#64)) then
    (xu (y4.1+1#64) y2.1).bind fun y32 =>
    bif !y32.1 then
     some (([]:List Int),())
    else
     (yb (zg.mk 0 0 a2 a3 0#64 0#64 0 0)).bind fun y33 =>
     bif decide ((bif decide (64#64<y33.1) then 64#64 else y33.1)<((y4.1+1#64)-y2.1)) then
     some (([]:List Int),())
     else
     (zX ym (a1,y4.1+1#64,y2.1,zg.mk 0 0 a2 a3 0#64 0#64 0 0,([]:List Int),())).bind fun st=>match st with
      | .again _=>none
      | .brk y34 =>
      some (y34.1,())
      | .ret y34 =>
      none
    else
    (xu y4.1 y2.1).bind fun y35 =>
    bif !y35.1 then
     some (([]:List Int),())
    else
     (yb (zg.mk 0 0 a2 a3 0#64 0#64 0 0)).bind fun y36 =>
     bif decide ((bif decide (64#64<y36.1) then 64#64 else y36.1)<(y4.1-y2.1)) then
     some (([]:List Int),())
     else
     (zX ym (a1,y4.1,y2.1,zg.mk 0 0 a2 a3 0#64 0#64 0 0,([]:List Int),())).bind fun st=>match st with
      | .again _=>none
      | .brk y37 =>
      some (y37.1,())
      | .ret y37 =>
      none
   else
    (xu y4.1 y2.1).bind fun y38 =>
    bif !y38.1 then
    some (([]:List Int),())
    else
    (yb (zg.mk 0 0 a2 a3 0#64 0#64 0 0)).bind fun y39 =>
    bif decide ((bif decide (64#64<y39.1) then 64#64 else y39.1)<(y4.1-y2.1)) then
     some (([]:List Int),())
    else
     (zX ym (a1,y4.1,y2.1,zg.mk 0 0 a2 a3 0#64 0#64 0 0,([]:List Int),())).bind fun st=>match st with
      | .again _=>none
      | .brk y40 =>
      some (y40.1,())
      | .ret y40 =>
      none
 else
  (xu y4.1 y2.1).bind fun y41 =>
  bif !y41.1 then
  some (([]:List Int),())
  else
  (yb (zg.mk 0 0 a2 a3 0#64 0#64 0 0)).bind fun y42 =>
  bif decide ((bif decide (64#64<y42.1) then 64#64 else y42.1)<(y4.1-y2.1)) then
   some (([]:List Int),())
  else
   (zX ym (a1,y4.1,y2.1,zg.mk 0 0 a2 a3 0#64 0#64 0 0,([]:List Int),())).bind fun st=>match st with
    | .again _=>none
    | .brk y43 =>
    some (y43.1,())
    | .ret y43 =>
    none
 else
 (xu y4.1 y2.1).bind fun y44 =>
 bif !y44.1 then
  some (([]:List Int),())
 else
  (yb (zg.mk 0 0 a2 a3 0#64 0#64 0 0)).bind fun y45 =>
  bif decide ((bif decide (64#64<y45.1) then 64#64 else y45.1)<(y4.1-y2.1)) then
  some (([]:List Int),())
  else
  (zX ym (a1,y4.1,y2.1,zg.mk 0 0 a2 a3 0#64 0#64 0 0,([]:List Int),())).bind fun st=>match st with
   | .again _=>none
   | .brk y46 =>
   some (y46.1,())
   | .ret y46 =>
   none:=zx (by kernel_rfl)
theorem zuE (a1:za) (a2:Int):zdJ a1 a2 =
 bif decide (a2<1) then
 some (([]:List Int),())
 else
 bif decide (((a1.Ws.length:Int))<a2) then
  some (([]:List Int),())
 else
  (idx a1.Ws (w64 (a2-1))).bind fun x1 =>
  (yM x1.Batch).bind fun y2 =>
  bif decide (x1.PC=0) then
  (ziY a1 a2 x1.D).bind fun y3 =>
  (yq (y2.1++y3.1)).bind fun l4 =>
  (xm a1.P a2).bind fun y5 =>
  (wi a1.M y5.1 a1.P.Cap x1.D).bind fun y6 =>
  (yq (l4++y6.1)).bind fun l7 =>
  (yL l7).bind fun y8 =>
  some (y8.1,())
  else
  bif decide (x1.PC=3) then
   (idx a1.Bins x1.Bin).bind fun x9 =>
   (yq (y2.1++x9)).bind fun l10 =>
   (xm a1.P a2).bind fun y11 =>
   (wi a1.M y11.1 a1.P.Cap (zg.mk 0 0 0 0 0#64 0#64 0 0)).bind fun y12 =>
   (yq (l10++y12.1)).bind fun l13 =>
   (yL l13).bind fun y14 =>
   some (y14.1,())
  else
   bif decide (x1.PC=5) then
   bif decide (x1.PC=5) then
    (yq (y2.1++([x1.Obj]:List Int))).bind fun l15 =>
    (xm a1.P a2).bind fun y16 =>
    (wi a1.M y16.1 a1.P.Cap (zg.mk 0 0 0 0 0#64 0#64 0 0)).bind fun y17 =>
    (yq (l15++y17.1)).bind fun l18 =>
    (yL l18).bind fun y19 =>
    some (y19.1,())
   else
    bif decide (x1.PC=6) then
    (yq (y2.1++([x1.Obj]:List Int))).bind fun l20 =>
    (Zq x1.G).bind fun y21 =>
    (ze3 ([y21.1]:List Int)).bind fun y22 =>
    (yq (l20++y22.1)).bind fun l23 =>
    bif decide (x1.G.PC=3) then
     (xm a1.P a2).bind fun y24 =>
     (wi a1.M y24.1 a1.P.Cap x1.G.D).bind fun y25 =>
     (yq (l23++y25.1)).bind fun l26 =>
     (yL l26).bind fun y27 =>
     some (y27.1,())
    else
     (xm a1.P a2).bind fun y28 =>
     (wi a1.M y28.1 a1.P.Cap (zg.mk 0 0 0 0 0#64 0#64 0 0)).bind fun y29 =>
     (yq (l23++y29.1)).bind fun l30 =>
     (yL l30).bind fun y31 =>
     some (y31.1,())
    else
    (xm a1.P a2).bind fun y32 =>
    (wi a1.M y32.1 a1.P.Cap (zg.mk 0 0 0 0 0#64 0#64 0 0)).bind fun y33 =>
    (yq (y2.1++y33.1)).bind fun l34 =>
    (yL l34).bind fun y35 =>
    some (y35.1,())
   else
   bif decide (x1.PC=8) then
    (yq (y2.1++([x1.Obj]:List Int))).bind fun l36 =>
    (xm a1.P a2).bind fun y37 =>
    (wi a1.M y37.1 a1.P.Cap (zg.mk 0 0 0 0 0#64 0#64 0 0)).bind fun y38 =>
    (yq (l36++y38.1)).bind fun l39 =>
    (yL l39).bind fun y40 =>
    some (y40.1,())
   else
    bif decide (x1.PC=6) then
    (yq (y2.1++([x1.Obj]:List Int))).bind fun l41 =>
    (Zq x1.G).bind fun y42 =>
    (ze3 ([y42.1]:List Int)).bind fun y43 =>
    (yq (l41++y43.1)).bind fun l44 =>
    bif decide (x1.G.PC=3) then
     (xm a1.P a2).bind fun y45 =>
     (wi a1.M y45.1 a1.P.Cap x1.G.D).bind fun y46 =>
     (yq (l44++y46.1)).bind fun l47 =>
     (yL l47).bind fun y48 =>
     some (y48.1,())
    else
     (xm a1.P a2).bind fun y49 =>
     (wi a1.M y49.1 a1.P.Cap (zg.mk 0 0 0 0 0#64 0#64 0 0)).bind fun y50 =>
     (yq (l44++y50.1)).bind fun l51 =>
     (yL l51).bind fun y52 =>
     some (y52.1,())
    else
    (xm a1.P a2).bind fun y53 =>
    (wi a1.M y53.1 a1.P.Cap (zg.mk 0 0 0 0 0#64 0#64 0 0)).bind fun y54 =>
    (yq (y2.1++y54.1)).bind fun l55 =>
    (yL l55).bind fun y56 =>
    some (y56.1,()):=zx (by kernel_rfl)
theorem zfV (a1:ze):uH a1 =
 bif decide (a1.PC=3) then
 some (true,())
 else
 some (decide (a1.PC=37),()):=zx (by kernel_rfl)
theorem zs4 (a1:za) (a2:Int):zcu a1 a2 =
 bif decide (a2<1) then
 some (([]:List Int),())
 else
 bif decide (((a1.Ms.length:Int))<a2) then
  some (([]:List Int),())
 else
  (idx a1.Ms (w64 (a2-1))).bind fun x1 =>
  (yM x1.Batch).bind fun y2 =>
  bif decide (x1.PC=33) then
  (idx a1.Bins x1.Bin).bind fun x3 =>
  (yq (y2.1++x3)).bind fun l4 =>
  bif decide (36<=x1.PC) then
   bif decide (x1.PC<=38) then
   (yq (l4++([x1.Obj]:List Int))).bind fun l5 =>
   (uH x1).bind fun y6 =>
   bif y6.1 then
    (Zq x1.G).bind fun y7 =>
    (ze3 ([y7.1]:List Int)).bind fun y8 =>
    (yq (l5++y8.1)).bind fun l9 =>
    (yL l9).bind fun y10 =>
    some (y10.1,())
   else
    (yL l5).bind fun y11 =>
    some (y11.1,())
   else
   (uH x1).bind fun y12 =>
   bif y12.1 then
    (Zq x1.G).bind fun y13 =>
    (ze3 ([y13.1]:List Int)).bind fun y14 =>
    (yq (l4++y14.1)).bind fun l15 =>
    (yL l15).bind fun y16 =>
    some (y16.1,())
   else
    (yL l4).bind fun y17 =>
    some (y17.1,())
  else
   (uH x1).bind fun y18 =>
   bif y18.1 then
   (Zq x1.G).bind fun y19 =>
   (ze3 ([y19.1]:List Int)).bind fun y20 =>
   (yq (l4++y20.1)).bind fun l21 =>
   (yL l21).bind fun y22 =>
   some (y22.1,())
   else
   (yL l4).bind fun y23 =>
   some (y23.1,())
  else
  bif decide (36<=x1.PC) then
   bif decide (x1.PC<=38) then
   (yq (y2.1++([x1.Obj]:List Int))).bind fun l24 =>
   (uH x1).bind fun y25 =>
   bif y25.1 then
    (Zq x1.G).bind fun y26 =>
    (ze3 ([y26.1]:List Int)).bind fun y27 =>
    (yq (l24++y27.1)).bind fun l28 =>
    (yL l28).bind fun y29 =>
    some (y29.1,())
   else
    (yL l24).bind fun y30 =>
    some (y30.1,())
   else
   (uH x1).bind fun y31 =>
   bif y31.1 then
    (Zq x1.G).bind fun y32 =>
    (ze3 ([y32.1]:List Int)).bind fun y33 =>
    (yq (y2.1++y33.1)).bind fun l34 =>
    (yL l34).bind fun y35 =>
    some (y35.1,())
   else
    (yL y2.1).bind fun y36 =>
    some (y36.1,())
  else
   (uH x1).bind fun y37 =>
   bif y37.1 then
   (Zq x1.G).bind fun y38 =>
   (ze3 ([y38.1]:List Int)).bind fun y39 =>
   (yq (y2.1++y39.1)).bind fun l40 =>
   (yL l40).bind fun y41 =>
   some (y41.1,())
   else
   (yL y2.1).bind fun y42 =>
   some (y42.1,()):=zx (by kernel_rfl)
theorem zs5 (y:List Int) (s1:List Int):zco y (s1,()) =
 (zrI s1 y).bind fun y1 =>
 some (y1.1,()):=by kernel_rfl
theorem zxJ (a1:za):zds a1 =
 (zu3 a1).bind fun y1 =>
 (zr6 y1.1.P.Workers y1.1.P.Mutators y1.1.P.Cap y1.1.P.Buf y1.1.P.Bin y1.1.P.Most y1.1.P.Price y1.1.P.Limit y1.1.P.H.Slots y1.1.P.H.Objs y1.1.P.Roots y1.1.P.Regs y1.1.P.Progs y1.1.P.Picks y1.1.H.Slots y1.1.H.Objs y1.1.M y1.1.Bins y1.1.T.Marks y1.1.T.Black y1.1.Work y1.1.Epoch y1.1.Flag y1.1.Done y1.1.Restarts y1.1.Acks y1.1.L.Scanned y1.1.L.Spent y1.1.L.Pool y1.1.L.Bal y1.1.Ws y1.1.Ms y1.1.D.PC y1.1.D.I).bind fun (ys2:List (List Int)) =>
 (Zw zco ys2 (([]:List Int),())).bind fun (y3:(List Int)×Unit) =>
 some (y3.1,()):=zx (by kernel_rfl)
theorem zxx (a1:za):zbc a1 =
 (zds a1).bind fun y1 =>
 (zpA y1.1).bind fun y2 =>
 bif y2.2.1 then
 (zfD a1.T).bind fun y3 =>
 some (decide (y2.1=y3.1),())
 else
 some (false,()):=zx (by kernel_rfl)
theorem zed (s1:List zk) (s2:Int) (s3:Int) (s4:za) (s5:List zB):Y1 (s1,s2,s3,s4,s5,()) =
 bif decide (s3<s2) then
 (idx s1 s3).bind fun x1 =>
 bif decide (x1.PC=6) then
  (yq (s5++([x1.G]:List zB))).bind fun l2 =>
  some (.again (s1,s2,w64 (s3+1),s4,l2,()))
 else
  some (.again (s1,s2,w64 (s3+1),s4,s5,()))
 else
 some (.brk (s4,s5,())):=by kernel_rfl
theorem zex (s1:List ze) (s2:Int) (s3:Int) (s4:List zB):Y9 (s1,s2,s3,s4,()) =
 bif decide (s3<s2) then
 (idx s1 s3).bind fun x1 =>
 (uH x1).bind fun y2 =>
 bif y2.1 then
  (yq (s4++([x1.G]:List zB))).bind fun l3 =>
  some (.again (s1,s2,w64 (s3+1),l3,()))
 else
  some (.again (s1,s2,w64 (s3+1),s4,()))
 else
 some (.brk (s4,())):=by kernel_rfl
theorem zq1 (a1:za):zbq a1 =
 (zX Y1 (a1.Ws,(a1.Ws.length:Int),0,a1,([]:List zB),())).bind fun st=>match st with
  | .again _=>none
  | .brk y1 =>
  (zX Y9 (y1.1.Ms,(y1.1.Ms.length:Int),0,y1.2.1,())).bind fun st=>match st with
   | .again _=>none
   | .brk y2 =>
   some (y2.1,())
   | .ret y2 =>
   none
  | .ret y1 =>
  none:=zx (by kernel_rfl)
theorem zxj (a1:zB):zn0 a1 =
 (zny a1 1 2 1).bind fun y1 =>
 some (y1.1,()):=zx (by kernel_rfl)
end Go.Pe.G
