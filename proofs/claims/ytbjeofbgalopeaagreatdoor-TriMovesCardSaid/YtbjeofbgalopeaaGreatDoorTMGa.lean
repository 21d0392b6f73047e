/- Own work of this seat: G1, Tz, G0, GO, GP, G2, G4a, G4b, G4c, G4d, G4e, G4f, G4g, EQ. -/
import Derived.Test.YtbjeofbgalopeaaGreatDoorTMCb
import Derived.Test.YtbjeofbgalopeaaGreatDoorProg
import Derived.Shelf.Spec.TrailingZeros
import Derived.Sort.EveryDepth
import Derived.Shelf.Sort.AssemblyIn
import Derived.Shelf.Slices.In.SortNone
set_option linter.unusedVariables false
set_option linter.unusedSimpArgs false
set_option linter.unnecessarySimpa false
set_option linter.unusedSectionVars false
set_option linter.deprecated false
set_option maxRecDepth 100000
open Array renaming toArray_toList → zMh
open Bool renaming and_eq_true → zKB
open Int renaming toNat_natCast → zLi
open List renaming getElem?_eq_getElem → zKC, getD_eq_getElem?_getD → zKD
open Nat renaming le_refl → zKF, lt_of_lt_of_le → zKW, add_zero → zLk, mul_one → zLv, zero_le → zLE
open Option renaming map_some → zLD
namespace Go.Pe.G
open Go.Pe Go.Proofs
abbrev zp:Ty:= .int .i64
abbrev z7:Ty:= .slice (.int .i64)
abbrev zP:Ty:= .slice (.slice (.int .i64))
abbrev zB:=BitVec 64
abbrev zA:=List Int
abbrev zC:=List (List Int)
structure zE where
 Kind:Int
 R:Int
 A:Int
 S:Int
structure zk where
 Kind:Int
 N:Int
structure zw where
 Slots:Int
 Objs:List zA
structure zd where
 Workers:Int
 Mutators:Int
 Cap:Int
 Buf:Int
 Bin:Int
 Most:Int
 Price:Int
 Limit:Int
 H:zw
 Roots:BitVec 64
 Regs:List zA
 Progs:List (List zE)
 Picks:List zk
structure zg where
 Kind:Int
 PC:Int
 Base:Int
 Cap:Int
 B:BitVec 64
 T:BitVec 64
 X:Int
 Out:Int
structure zV where
 Kind:Int
 PC:Int
 Head:Int
 Next:Int
 H:BitVec 64
 X:Int
 Y:Int
 Out:Int
structure zK where
 PC:Int
 Mode:Int
 Obj:Int
 Who:Int
 D:zg
 C:zV
 Bin:Int
 Out:Int
structure zj where
 PC:Int
 Obj:Int
 Slot:Int
 Victim:Int
 Bin:Int
 Batch:List Int
 D:zg
 C:zV
 G:zK
structure ze where
 PC:Int
 IP:Int
 Ret:Int
 Want:Int
 Old:Int
 Obj:Int
 Slot:Int
 Bin:Int
 Regs:List Int
 Buf:List Int
 Batch:List Int
 C:zV
 G:zK
structure zo where
 Marks:BitVec 64
 Black:BitVec 64
structure zy where
 Scanned:Int
 Spent:Int
 Pool:Int
 Bal:List Int
structure zN where
 PC:Int
 I:Int
structure za where
 P:zd
 H:zw
 M:List zB
 Bins:List zA
 T:zo
 Work:Int
 Epoch:Int
 Flag:Bool
 Done:Bool
 Restarts:Int
 Acks:List Int
 L:zy
 Ws:List zj
 Ms:List ze
 D:zN
structure Yd where
 Kind:Int
 At:Int
 A:BitVec 64
 B:BitVec 64
structure z3 where
 Worker:zj
 s:za
 w:Int
structure zX where
 Grey:zK
 s:za
structure zI where
 Mutator:ze
 s:za
 m:Int
structure zY where
 L:List (BitVec 8)
 At:Int
@[reducible] def TT:Nat->Type
 | 0=>zE
 | 1=>zk
 | 2=>zw
 | 3=>zd
 | 4=>zg
 | 5=>zV
 | 6=>zK
 | 7=>zj
 | 8=>ze
 | 9=>zo
 | 10=>zy
 | 11=>zN
 | 12=>za
 | 13=>Yd
 | 14=>z3
 | 15=>zX
 | 16=>zI
 | 17=>zY
 | _=>Unit
@[reducible] def lvs:Nat->List Ty
 | 0=>[zp,zp,zp,zp]
 | 1=>[zp,zp]
 | 2=>[zp,zP]
 | 3=>[zp,zp,zp,zp,zp,zp,zp,zp,zp,zP,(.int .u64),zP,(.slice (.slice (.named 0))),(.slice (.named 1))]
 | 4=>[zp,zp,zp,zp,(.int .u64),(.int .u64),zp,zp]
 | 5=>[zp,zp,zp,zp,(.int .u64),zp,zp,zp]
 | 6=>[zp,zp,zp,zp,zp,zp,zp,zp,(.int .u64),(.int .u64),zp,zp,zp,zp,zp,zp,(.int .u64),zp,zp,zp,zp,zp]
 | 7=>[zp,zp,zp,zp,zp,z7,zp,zp,zp,zp,(.int .u64),(.int .u64),zp,zp,zp,zp,zp,zp,(.int .u64),zp,zp,zp,zp,zp,zp,zp,zp,zp,zp,zp,(.int .u64),(.int .u64),zp,zp,zp,zp,zp,zp,(.int .u64),zp,zp,zp,zp,zp]
 | 8=>[zp,zp,zp,zp,zp,zp,zp,zp,z7,z7,z7,zp,zp,zp,zp,(.int .u64),zp,zp,zp,zp,zp,zp,zp,zp,zp,zp,zp,(.int .u64),(.int .u64),zp,zp,zp,zp,zp,zp,(.int .u64),zp,zp,zp,zp,zp]
 | 9=>[(.int .u64),(.int .u64)]
 | 10=>[zp,zp,zp,z7]
 | 11=>[zp,zp]
 | 12=>[zp,zp,zp,zp,zp,zp,zp,zp,zp,zP,(.int .u64),zP,(.slice (.slice (.named 0))),(.slice (.named 1)),zp,zP,(.slice (.int .u64)),zP,(.int .u64),(.int .u64),zp,zp,.bool,.bool,zp,z7,zp,zp,zp,z7,(.slice (.named 7)),(.slice (.named 8)),zp,zp]
 | 13=>[zp,zp,(.int .u64),(.int .u64)]
 | 14=>[zp,zp,zp,zp,zp,z7,zp,zp,zp,zp,(.int .u64),(.int .u64),zp,zp,zp,zp,zp,zp,(.int .u64),zp,zp,zp,zp,zp,zp,zp,zp,zp,zp,zp,(.int .u64),(.int .u64),zp,zp,zp,zp,zp,zp,(.int .u64),zp,zp,zp,zp,zp,zp,zp,zp,zp,zp,zp,zp,zp,zp,zP,(.int .u64),zP,(.slice (.slice (.named 0))),(.slice (.named 1)),zp,zP,(.slice (.int .u64)),zP,(.int .u64),(.int .u64),zp,zp,.bool,.bool,zp,z7,zp,zp,zp,z7,(.slice (.named 7)),(.slice (.named 8)),zp,zp,zp]
 | 15=>[zp,zp,zp,zp,zp,zp,zp,zp,(.int .u64),(.int .u64),zp,zp,zp,zp,zp,zp,(.int .u64),zp,zp,zp,zp,zp,zp,zp,zp,zp,zp,zp,zp,zp,zp,zP,(.int .u64),zP,(.slice (.slice (.named 0))),(.slice (.named 1)),zp,zP,(.slice (.int .u64)),zP,(.int .u64),(.int .u64),zp,zp,.bool,.bool,zp,z7,zp,zp,zp,z7,(.slice (.named 7)),(.slice (.named 8)),zp,zp]
 | 16=>[zp,zp,zp,zp,zp,zp,zp,zp,z7,z7,z7,zp,zp,zp,zp,(.int .u64),zp,zp,zp,zp,zp,zp,zp,zp,zp,zp,zp,(.int .u64),(.int .u64),zp,zp,zp,zp,zp,zp,(.int .u64),zp,zp,zp,zp,zp,zp,zp,zp,zp,zp,zp,zp,zp,zp,zP,(.int .u64),zP,(.slice (.slice (.named 0))),(.slice (.named 1)),zp,zP,(.slice (.int .u64)),zP,(.int .u64),(.int .u64),zp,zp,.bool,.bool,zp,z7,zp,zp,zp,z7,(.slice (.named 7)),(.slice (.named 8)),zp,zp,zp]
 | 17=>[(.slice (.int .u8)),zp]
 | _=>[]
@[reducible] def unp:(n:Nat)->TT n->HL TT (lvs n)
 | 0=>fun x=>(x.Kind,x.R,x.A,x.S,())
 | 1=>fun x=>(x.Kind,x.N,())
 | 2=>fun x=>(x.Slots,x.Objs,())
 | 3=>fun x=>(x.Workers,x.Mutators,x.Cap,x.Buf,x.Bin,x.Most,x.Price,x.Limit,x.H.Slots,x.H.Objs,x.Roots,x.Regs,x.Progs,x.Picks,())
 | 4=>fun x=>(x.Kind,x.PC,x.Base,x.Cap,x.B,x.T,x.X,x.Out,())
 | 5=>fun x=>(x.Kind,x.PC,x.Head,x.Next,x.H,x.X,x.Y,x.Out,())
 | 6=>fun x=>(x.PC,x.Mode,x.Obj,x.Who,x.D.Kind,x.D.PC,x.D.Base,x.D.Cap,x.D.B,x.D.T,x.D.X,x.D.Out,x.C.Kind,x.C.PC,x.C.Head,x.C.Next,x.C.H,x.C.X,x.C.Y,x.C.Out,x.Bin,x.Out,())
 | 7=>fun x=>(x.PC,x.Obj,x.Slot,x.Victim,x.Bin,x.Batch,x.D.Kind,x.D.PC,x.D.Base,x.D.Cap,x.D.B,x.D.T,x.D.X,x.D.Out,x.C.Kind,x.C.PC,x.C.Head,x.C.Next,x.C.H,x.C.X,x.C.Y,x.C.Out,x.G.PC,x.G.Mode,x.G.Obj,x.G.Who,x.G.D.Kind,x.G.D.PC,x.G.D.Base,x.G.D.Cap,x.G.D.B,x.G.D.T,x.G.D.X,x.G.D.Out,x.G.C.Kind,x.G.C.PC,x.G.C.Head,x.G.C.Next,x.G.C.H,x.G.C.X,x.G.C.Y,x.G.C.Out,x.G.Bin,x.G.Out,())
 | 8=>fun x=>(x.PC,x.IP,x.Ret,x.Want,x.Old,x.Obj,x.Slot,x.Bin,x.Regs,x.Buf,x.Batch,x.C.Kind,x.C.PC,x.C.Head,x.C.Next,x.C.H,x.C.X,x.C.Y,x.C.Out,x.G.PC,x.G.Mode,x.G.Obj,x.G.Who,x.G.D.Kind,x.G.D.PC,x.G.D.Base,x.G.D.Cap,x.G.D.B,x.G.D.T,x.G.D.X,x.G.D.Out,x.G.C.Kind,x.G.C.PC,x.G.C.Head,x.G.C.Next,x.G.C.H,x.G.C.X,x.G.C.Y,x.G.C.Out,x.G.Bin,x.G.Out,())
 | 9=>fun x=>(x.Marks,x.Black,())
 | 10=>fun x=>(x.Scanned,x.Spent,x.Pool,x.Bal,())
 | 11=>fun x=>(x.PC,x.I,())
 | 12=>fun x=>(x.P.Workers,x.P.Mutators,x.P.Cap,x.P.Buf,x.P.Bin,x.P.Most,x.P.Price,x.P.Limit,x.P.H.Slots,x.P.H.Objs,x.P.Roots,x.P.Regs,x.P.Progs,x.P.Picks,x.H.Slots,x.H.Objs,x.M,x.Bins,x.T.Marks,x.T.Black,x.Work,x.Epoch,x.Flag,x.Done,x.Restarts,x.Acks,x.L.Scanned,x.L.Spent,x.L.Pool,x.L.Bal,x.Ws,x.Ms,x.D.PC,x.D.I,())
 | 13=>fun x=>(x.Kind,x.At,x.A,x.B,())
 | 14=>fun x=>(x.Worker.PC,x.Worker.Obj,x.Worker.Slot,x.Worker.Victim,x.Worker.Bin,x.Worker.Batch,x.Worker.D.Kind,x.Worker.D.PC,x.Worker.D.Base,x.Worker.D.Cap,x.Worker.D.B,x.Worker.D.T,x.Worker.D.X,x.Worker.D.Out,x.Worker.C.Kind,x.Worker.C.PC,x.Worker.C.Head,x.Worker.C.Next,x.Worker.C.H,x.Worker.C.X,x.Worker.C.Y,x.Worker.C.Out,x.Worker.G.PC,x.Worker.G.Mode,x.Worker.G.Obj,x.Worker.G.Who,x.Worker.G.D.Kind,x.Worker.G.D.PC,x.Worker.G.D.Base,x.Worker.G.D.Cap,x.Worker.G.D.B,x.Worker.G.D.T,x.Worker.G.D.X,x.Worker.G.D.Out,x.Worker.G.C.Kind,x.Worker.G.C.PC,x.Worker.G.C.Head,x.Worker.G.C.Next,x.Worker.G.C.H,x.Worker.G.C.X,x.Worker.G.C.Y,x.Worker.G.C.Out,x.Worker.G.Bin,x.Worker.G.Out,x.s.P.Workers,x.s.P.Mutators,x.s.P.Cap,x.s.P.Buf,x.s.P.Bin,x.s.P.Most,x.s.P.Price,x.s.P.Limit,x.s.P.H.Slots,x.s.P.H.Objs,x.s.P.Roots,x.s.P.Regs,x.s.P.Progs,x.s.P.Picks,x.s.H.Slots,x.s.H.Objs,x.s.M,x.s.Bins,x.s.T.Marks,x.s.T.Black,x.s.Work,x.s.Epoch,x.s.Flag,x.s.Done,x.s.Restarts,x.s.Acks,x.s.L.Scanned,x.s.L.Spent,x.s.L.Pool,x.s.L.Bal,x.s.Ws,x.s.Ms,x.s.D.PC,x.s.D.I,x.w,())
 | 15=>fun x=>(x.Grey.PC,x.Grey.Mode,x.Grey.Obj,x.Grey.Who,x.Grey.D.Kind,x.Grey.D.PC,x.Grey.D.Base,x.Grey.D.Cap,x.Grey.D.B,x.Grey.D.T,x.Grey.D.X,x.Grey.D.Out,x.Grey.C.Kind,x.Grey.C.PC,x.Grey.C.Head,x.Grey.C.Next,x.Grey.C.H,x.Grey.C.X,x.Grey.C.Y,x.Grey.C.Out,x.Grey.Bin,x.Grey.Out,x.s.P.Workers,x.s.P.Mutators,x.s.P.Cap,x.s.P.Buf,x.s.P.Bin,x.s.P.Most,x.s.P.Price,x.s.P.Limit,x.s.P.H.Slots,x.s.P.H.Objs,x.s.P.Roots,x.s.P.Regs,x.s.P.Progs,x.s.P.Picks,x.s.H.Slots,x.s.H.Objs,x.s.M,x.s.Bins,x.s.T.Marks,x.s.T.Black,x.s.Work,x.s.Epoch,x.s.Flag,x.s.Done,x.s.Restarts,x.s.Acks,x.s.L.Scanned,x.s.L.Spent,x.s.L.Pool,x.s.L.Bal,x.s.Ws,x.s.Ms,x.s.D.PC,x.s.D.I,())
 | 16=>fun x=>(x.Mutator.PC,x.Mutator.IP,x.Mutator.Ret,x.Mutator.Want,x.Mutator.Old,x.Mutator.Obj,x.Mutator.Slot,x.Mutator.Bin,x.Mutator.Regs,x.Mutator.Buf,x.Mutator.Batch,x.Mutator.C.Kind,x.Mutator.C.PC,x.Mutator.C.Head,x.Mutator.C.Next,x.Mutator.C.H,x.Mutator.C.X,x.Mutator.C.Y,x.Mutator.C.Out,x.Mutator.G.PC,x.Mutator.G.Mode,x.Mutator.G.Obj,x.Mutator.G.Who,x.Mutator.G.D.Kind,x.Mutator.G.D.PC,x.Mutator.G.D.Base,x.Mutator.G.D.Cap,x.Mutator.G.D.B,x.Mutator.G.D.T,x.Mutator.G.D.X,x.Mutator.G.D.Out,x.Mutator.G.C.Kind,x.Mutator.G.C.PC,x.Mutator.G.C.Head,x.Mutator.G.C.Next,x.Mutator.G.C.H,x.Mutator.G.C.X,x.Mutator.G.C.Y,x.Mutator.G.C.Out,x.Mutator.G.Bin,x.Mutator.G.Out,x.s.P.Workers,x.s.P.Mutators,x.s.P.Cap,x.s.P.Buf,x.s.P.Bin,x.s.P.Most,x.s.P.Price,x.s.P.Limit,x.s.P.H.Slots,x.s.P.H.Objs,x.s.P.Roots,x.s.P.Regs,x.s.P.Progs,x.s.P.Picks,x.s.H.Slots,x.s.H.Objs,x.s.M,x.s.Bins,x.s.T.Marks,x.s.T.Black,x.s.Work,x.s.Epoch,x.s.Flag,x.s.Done,x.s.Restarts,x.s.Acks,x.s.L.Scanned,x.s.L.Spent,x.s.L.Pool,x.s.L.Bal,x.s.Ws,x.s.Ms,x.s.D.PC,x.s.D.I,x.m,())
 | 17=>fun x=>(x.L,x.At,())
 | _+18=>fun _=>()
@[reducible] def pck:(n:Nat)->HL TT (lvs n)->TT n
 | 0=>fun x=>⟨x.1,x.2.1,x.2.2.1,x.2.2.2.1⟩
 | 1=>fun x=>⟨x.1,x.2.1⟩
 | 2=>fun x=>⟨x.1,x.2.1⟩
 | 3=>fun x=>let xa:=x.2.2.2.2.2.2.2.2;⟨x.1,x.2.1,x.2.2.1,x.2.2.2.1,x.2.2.2.2.1,x.2.2.2.2.2.1,x.2.2.2.2.2.2.1,x.2.2.2.2.2.2.2.1,⟨xa.1,xa.2.1⟩,xa.2.2.1,xa.2.2.2.1,xa.2.2.2.2.1,xa.2.2.2.2.2.1⟩
 | 4=>fun x=>⟨x.1,x.2.1,x.2.2.1,x.2.2.2.1,x.2.2.2.2.1,x.2.2.2.2.2.1,x.2.2.2.2.2.2.1,x.2.2.2.2.2.2.2.1⟩
 | 5=>fun x=>⟨x.1,x.2.1,x.2.2.1,x.2.2.2.1,x.2.2.2.2.1,x.2.2.2.2.2.1,x.2.2.2.2.2.2.1,x.2.2.2.2.2.2.2.1⟩
 | 6=>fun x=>let xa:=x.2.2.2.2.2.2.2.2;let xb:=xa.2.2.2.2.2.2.2.2;⟨x.1,x.2.1,x.2.2.1,x.2.2.2.1,⟨x.2.2.2.2.1,x.2.2.2.2.2.1,x.2.2.2.2.2.2.1,x.2.2.2.2.2.2.2.1,xa.1,xa.2.1,xa.2.2.1,xa.2.2.2.1⟩,⟨xa.2.2.2.2.1,xa.2.2.2.2.2.1,xa.2.2.2.2.2.2.1,xa.2.2.2.2.2.2.2.1,xb.1,xb.2.1,xb.2.2.1,xb.2.2.2.1⟩,xb.2.2.2.2.1,xb.2.2.2.2.2.1⟩
 | 7=>fun x=>let xa:=x.2.2.2.2.2.2.2.2;let xb:=xa.2.2.2.2.2.2.2.2;let xc:=xb.2.2.2.2.2.2.2.2;let xd:=xc.2.2.2.2.2.2.2.2;let xe:=xd.2.2.2.2.2.2.2.2;⟨x.1,x.2.1,x.2.2.1,x.2.2.2.1,x.2.2.2.2.1,x.2.2.2.2.2.1,⟨x.2.2.2.2.2.2.1,x.2.2.2.2.2.2.2.1,xa.1,xa.2.1,xa.2.2.1,xa.2.2.2.1,xa.2.2.2.2.1,xa.2.2.2.2.2.1⟩,⟨xa.2.2.2.2.2.2.1,xa.2.2.2.2.2.2.2.1,xb.1,xb.2.1,xb.2.2.1,xb.2.2.2.1,xb.2.2.2.2.1,xb.2.2.2.2.2.1⟩,⟨xb.2.2.2.2.2.2.1,xb.2.2.2.2.2.2.2.1,xc.1,xc.2.1,⟨xc.2.2.1,xc.2.2.2.1,xc.2.2.2.2.1,xc.2.2.2.2.2.1,xc.2.2.2.2.2.2.1,xc.2.2.2.2.2.2.2.1,xd.1,xd.2.1⟩,⟨xd.2.2.1,xd.2.2.2.1,xd.2.2.2.2.1,xd.2.2.2.2.2.1,xd.2.2.2.2.2.2.1,xd.2.2.2.2.2.2.2.1,xe.1,xe.2.1⟩,xe.2.2.1,xe.2.2.2.1⟩⟩
 | 8=>fun x=>let xa:=x.2.2.2.2.2.2.2.2;let xb:=xa.2.2.2.2.2.2.2.2;let xc:=xb.2.2.2.2.2.2.2.2;let xd:=xc.2.2.2.2.2.2.2.2;let xe:=xd.2.2.2.2.2.2.2.2;⟨x.1,x.2.1,x.2.2.1,x.2.2.2.1,x.2.2.2.2.1,x.2.2.2.2.2.1,x.2.2.2.2.2.2.1,x.2.2.2.2.2.2.2.1,xa.1,xa.2.1,xa.2.2.1,⟨xa.2.2.2.1,xa.2.2.2.2.1,xa.2.2.2.2.2.1,xa.2.2.2.2.2.2.1,xa.2.2.2.2.2.2.2.1,xb.1,xb.2.1,xb.2.2.1⟩,⟨xb.2.2.2.1,xb.2.2.2.2.1,xb.2.2.2.2.2.1,xb.2.2.2.2.2.2.1,⟨xb.2.2.2.2.2.2.2.1,xc.1,xc.2.1,xc.2.2.1,xc.2.2.2.1,xc.2.2.2.2.1,xc.2.2.2.2.2.1,xc.2.2.2.2.2.2.1⟩,⟨xc.2.2.2.2.2.2.2.1,xd.1,xd.2.1,xd.2.2.1,xd.2.2.2.1,xd.2.2.2.2.1,xd.2.2.2.2.2.1,xd.2.2.2.2.2.2.1⟩,xd.2.2.2.2.2.2.2.1,xe.1⟩⟩
 | 9=>fun x=>⟨x.1,x.2.1⟩
 | 10=>fun x=>⟨x.1,x.2.1,x.2.2.1,x.2.2.2.1⟩
 | 11=>fun x=>⟨x.1,x.2.1⟩
 | 12=>fun x=>let xa:=x.2.2.2.2.2.2.2.2;let xb:=xa.2.2.2.2.2.2.2.2;let xc:=xb.2.2.2.2.2.2.2.2;let xd:=xc.2.2.2.2.2.2.2.2;⟨⟨x.1,x.2.1,x.2.2.1,x.2.2.2.1,x.2.2.2.2.1,x.2.2.2.2.2.1,x.2.2.2.2.2.2.1,x.2.2.2.2.2.2.2.1,⟨xa.1,xa.2.1⟩,xa.2.2.1,xa.2.2.2.1,xa.2.2.2.2.1,xa.2.2.2.2.2.1⟩,⟨xa.2.2.2.2.2.2.1,xa.2.2.2.2.2.2.2.1⟩,xb.1,xb.2.1,⟨xb.2.2.1,xb.2.2.2.1⟩,xb.2.2.2.2.1,xb.2.2.2.2.2.1,xb.2.2.2.2.2.2.1,xb.2.2.2.2.2.2.2.1,xc.1,xc.2.1,⟨xc.2.2.1,xc.2.2.2.1,xc.2.2.2.2.1,xc.2.2.2.2.2.1⟩,xc.2.2.2.2.2.2.1,xc.2.2.2.2.2.2.2.1,⟨xd.1,xd.2.1⟩⟩
 | 13=>fun x=>⟨x.1,x.2.1,x.2.2.1,x.2.2.2.1⟩
 | 14=>fun x=>let xa:=x.2.2.2.2.2.2.2.2;let xb:=xa.2.2.2.2.2.2.2.2;let xc:=xb.2.2.2.2.2.2.2.2;let xd:=xc.2.2.2.2.2.2.2.2;let xe:=xd.2.2.2.2.2.2.2.2;let xf:=xe.2.2.2.2.2.2.2.2;let xg:=xf.2.2.2.2.2.2.2.2;let xh:=xg.2.2.2.2.2.2.2.2;let xi:=xh.2.2.2.2.2.2.2.2;⟨⟨x.1,x.2.1,x.2.2.1,x.2.2.2.1,x.2.2.2.2.1,x.2.2.2.2.2.1,⟨x.2.2.2.2.2.2.1,x.2.2.2.2.2.2.2.1,xa.1,xa.2.1,xa.2.2.1,xa.2.2.2.1,xa.2.2.2.2.1,xa.2.2.2.2.2.1⟩,⟨xa.2.2.2.2.2.2.1,xa.2.2.2.2.2.2.2.1,xb.1,xb.2.1,xb.2.2.1,xb.2.2.2.1,xb.2.2.2.2.1,xb.2.2.2.2.2.1⟩,⟨xb.2.2.2.2.2.2.1,xb.2.2.2.2.2.2.2.1,xc.1,xc.2.1,⟨xc.2.2.1,xc.2.2.2.1,xc.2.2.2.2.1,xc.2.2.2.2.2.1,xc.2.2.2.2.2.2.1,xc.2.2.2.2.2.2.2.1,xd.1,xd.2.1⟩,⟨xd.2.2.1,xd.2.2.2.1,xd.2.2.2.2.1,xd.2.2.2.2.2.1,xd.2.2.2.2.2.2.1,xd.2.2.2.2.2.2.2.1,xe.1,xe.2.1⟩,xe.2.2.1,xe.2.2.2.1⟩⟩,⟨⟨xe.2.2.2.2.1,xe.2.2.2.2.2.1,xe.2.2.2.2.2.2.1,xe.2.2.2.2.2.2.2.1,xf.1,xf.2.1,xf.2.2.1,xf.2.2.2.1,⟨xf.2.2.2.2.1,xf.2.2.2.2.2.1⟩,xf.2.2.2.2.2.2.1,xf.2.2.2.2.2.2.2.1,xg.1,xg.2.1⟩,⟨xg.2.2.1,xg.2.2.2.1⟩,xg.2.2.2.2.1,xg.2.2.2.2.2.1,⟨xg.2.2.2.2.2.2.1,xg.2.2.2.2.2.2.2.1⟩,xh.1,xh.2.1,xh.2.2.1,xh.2.2.2.1,xh.2.2.2.2.1,xh.2.2.2.2.2.1,⟨xh.2.2.2.2.2.2.1,xh.2.2.2.2.2.2.2.1,xi.1,xi.2.1⟩,xi.2.2.1,xi.2.2.2.1,⟨xi.2.2.2.2.1,xi.2.2.2.2.2.1⟩⟩,xi.2.2.2.2.2.2.1⟩
 | 15=>fun x=>let xa:=x.2.2.2.2.2.2.2.2;let xb:=xa.2.2.2.2.2.2.2.2;let xc:=xb.2.2.2.2.2.2.2.2;let xd:=xc.2.2.2.2.2.2.2.2;let xe:=xd.2.2.2.2.2.2.2.2;let xf:=xe.2.2.2.2.2.2.2.2;⟨⟨x.1,x.2.1,x.2.2.1,x.2.2.2.1,⟨x.2.2.2.2.1,x.2.2.2.2.2.1,x.2.2.2.2.2.2.1,x.2.2.2.2.2.2.2.1,xa.1,xa.2.1,xa.2.2.1,xa.2.2.2.1⟩,⟨xa.2.2.2.2.1,xa.2.2.2.2.2.1,xa.2.2.2.2.2.2.1,xa.2.2.2.2.2.2.2.1,xb.1,xb.2.1,xb.2.2.1,xb.2.2.2.1⟩,xb.2.2.2.2.1,xb.2.2.2.2.2.1⟩,⟨⟨xb.2.2.2.2.2.2.1,xb.2.2.2.2.2.2.2.1,xc.1,xc.2.1,xc.2.2.1,xc.2.2.2.1,xc.2.2.2.2.1,xc.2.2.2.2.2.1,⟨xc.2.2.2.2.2.2.1,xc.2.2.2.2.2.2.2.1⟩,xd.1,xd.2.1,xd.2.2.1,xd.2.2.2.1⟩,⟨xd.2.2.2.2.1,xd.2.2.2.2.2.1⟩,xd.2.2.2.2.2.2.1,xd.2.2.2.2.2.2.2.1,⟨xe.1,xe.2.1⟩,xe.2.2.1,xe.2.2.2.1,xe.2.2.2.2.1,xe.2.2.2.2.2.1,xe.2.2.2.2.2.2.1,xe.2.2.2.2.2.2.2.1,⟨xf.1,xf.2.1,xf.2.2.1,xf.2.2.2.1⟩,xf.2.2.2.2.1,xf.2.2.2.2.2.1,⟨xf.2.2.2.2.2.2.1,xf.2.2.2.2.2.2.2.1⟩⟩⟩
 | 16=>fun x=>let xa:=x.2.2.2.2.2.2.2.2;let xb:=xa.2.2.2.2.2.2.2.2;let xc:=xb.2.2.2.2.2.2.2.2;let xd:=xc.2.2.2.2.2.2.2.2;let xe:=xd.2.2.2.2.2.2.2.2;let xf:=xe.2.2.2.2.2.2.2.2;let xg:=xf.2.2.2.2.2.2.2.2;let xh:=xg.2.2.2.2.2.2.2.2;let xi:=xh.2.2.2.2.2.2.2.2;⟨⟨x.1,x.2.1,x.2.2.1,x.2.2.2.1,x.2.2.2.2.1,x.2.2.2.2.2.1,x.2.2.2.2.2.2.1,x.2.2.2.2.2.2.2.1,xa.1,xa.2.1,xa.2.2.1,⟨xa.2.2.2.1,xa.2.2.2.2.1,xa.2.2.2.2.2.1,xa.2.2.2.2.2.2.1,xa.2.2.2.2.2.2.2.1,xb.1,xb.2.1,xb.2.2.1⟩,⟨xb.2.2.2.1,xb.2.2.2.2.1,xb.2.2.2.2.2.1,xb.2.2.2.2.2.2.1,⟨xb.2.2.2.2.2.2.2.1,xc.1,xc.2.1,xc.2.2.1,xc.2.2.2.1,xc.2.2.2.2.1,xc.2.2.2.2.2.1,xc.2.2.2.2.2.2.1⟩,⟨xc.2.2.2.2.2.2.2.1,xd.1,xd.2.1,xd.2.2.1,xd.2.2.2.1,xd.2.2.2.2.1,xd.2.2.2.2.2.1,xd.2.2.2.2.2.2.1⟩,xd.2.2.2.2.2.2.2.1,xe.1⟩⟩,⟨⟨xe.2.1,xe.2.2.1,xe.2.2.2.1,xe.2.2.2.2.1,xe.2.2.2.2.2.1,xe.2.2.2.2.2.2.1,xe.2.2.2.2.2.2.2.1,xf.1,⟨xf.2.1,xf.2.2.1⟩,xf.2.2.2.1,xf.2.2.2.2.1,xf.2.2.2.2.2.1,xf.2.2.2.2.2.2.1⟩,⟨xf.2.2.2.2.2.2.2.1,xg.1⟩,xg.2.1,xg.2.2.1,⟨xg.2.2.2.1,xg.2.2.2.2.1⟩,xg.2.2.2.2.2.1,xg.2.2.2.2.2.2.1,xg.2.2.2.2.2.2.2.1,xh.1,xh.2.1,xh.2.2.1,⟨xh.2.2.2.1,xh.2.2.2.2.1,xh.2.2.2.2.2.1,xh.2.2.2.2.2.2.1⟩,xh.2.2.2.2.2.2.2.1,xi.1,⟨xi.2.1,xi.2.2.1⟩⟩,xi.2.2.2.1⟩
 | 17=>fun x=>⟨x.1,x.2.1⟩
 | _+18=>fun _=>()
theorem zIy:∀n x,pck n (unp n x)=x
 | 0=>fun _=>rfl
 | 1=>fun _=>rfl
 | 2=>fun _=>rfl
 | 3=>fun _=>rfl
 | 4=>fun _=>rfl
 | 5=>fun _=>rfl
 | 6=>fun _=>rfl
 | 7=>fun _=>rfl
 | 8=>fun _=>rfl
 | 9=>fun _=>rfl
 | 10=>fun _=>rfl
 | 11=>fun _=>rfl
 | 12=>fun _=>rfl
 | 13=>fun _=>rfl
 | 14=>fun _=>rfl
 | 15=>fun _=>rfl
 | 16=>fun _=>rfl
 | 17=>fun _=>rfl
 | _+18=>fun _=>rfl
theorem zIZ:∀n h,unp n (pck n h)=h
 | 0=>fun _=>rfl
 | 1=>fun _=>rfl
 | 2=>fun _=>rfl
 | 3=>fun _=>rfl
 | 4=>fun _=>rfl
 | 5=>fun _=>rfl
 | 6=>fun _=>rfl
 | 7=>fun _=>rfl
 | 8=>fun _=>rfl
 | 9=>fun _=>rfl
 | 10=>fun _=>rfl
 | 11=>fun _=>rfl
 | 12=>fun _=>rfl
 | 13=>fun _=>rfl
 | 14=>fun _=>rfl
 | 15=>fun _=>rfl
 | 16=>fun _=>rfl
 | 17=>fun _=>rfl
 | _+18=>fun _=>rfl
theorem zHE:∀n,(lvs n).all (fun t=>match t with | .named _=>false | .arr _ _=>false | _=>true)=true
 | 0=>rfl
 | 1=>rfl
 | 2=>rfl
 | 3=>rfl
 | 4=>rfl
 | 5=>rfl
 | 6=>rfl
 | 7=>rfl
 | 8=>rfl
 | 9=>rfl
 | 10=>rfl
 | 11=>rfl
 | 12=>rfl
 | 13=>rfl
 | 14=>rfl
 | 15=>rfl
 | 16=>rfl
 | 17=>rfl
 | _+18=>rfl
def E:yE where
 T:=TT
 leaves:=lvs
 unpack:=unp
 pack:=pck
 pu:=zIy
 up:=zIZ
 lf:=zHE
def tab:List (Nat×TI):=[
 (2,{size:=1,agg:=false,fields:=[],elem:=0,alen:=0,ty:=some zp,zero:=[.int .i64],bytes:=8,sl:=false,fk:=false,cmp:=false,mp:=false}),
 (3,{size:=1,agg:=false,fields:=[],elem:=0,alen:=0,ty:=some zp,zero:=[.int .i64],bytes:=8,sl:=false,fk:=false,cmp:=false,mp:=false}),
 (4,{size:=1,agg:=false,fields:=[],elem:=0,alen:=0,ty:=some .bool,zero:=[.bool],bytes:=1,sl:=false,fk:=false,cmp:=false,mp:=false}),
 (5,{size:=1,agg:=false,fields:=[],elem:=0,alen:=0,ty:=some (.int .u8),zero:=[.int .u8],bytes:=1,sl:=false,fk:=false,cmp:=false,mp:=false}),
 (22,{size:=1,agg:=false,fields:=[],elem:=5,alen:=0,ty:=some (.slice (.int .u8)),zero:=[.slice],bytes:=24,sl:=true,fk:=false,cmp:=false,mp:=false}),
 (24,{size:=1,agg:=false,fields:=[],elem:=38,alen:=0,ty:=some zP,zero:=[.slice],bytes:=24,sl:=true,fk:=false,cmp:=false,mp:=false}),
 (26,{size:=2,agg:=true,fields:=[(0,3),(1,24)],elem:=0,alen:=0,ty:=some (.named 2),zero:=[.int .i64,.slice],bytes:=32,sl:=false,fk:=false,cmp:=false,mp:=false}),
 (27,{size:=1,agg:=false,fields:=[],elem:=0,alen:=0,ty:=some (.int .u64),zero:=[.int .u64],bytes:=8,sl:=false,fk:=false,cmp:=false,mp:=false}),
 (28,{size:=1,agg:=false,fields:=[],elem:=0,alen:=0,ty:=some (.int .u64),zero:=[.int .u64],bytes:=8,sl:=false,fk:=false,cmp:=false,mp:=false}),
 (29,{size:=1,agg:=false,fields:=[],elem:=61,alen:=0,ty:=some (.slice (.slice (.named 0))),zero:=[.slice],bytes:=24,sl:=true,fk:=false,cmp:=false,mp:=false}),
 (30,{size:=1,agg:=false,fields:=[],elem:=51,alen:=0,ty:=some (.slice (.named 1)),zero:=[.slice],bytes:=24,sl:=true,fk:=false,cmp:=false,mp:=false}),
 (32,{size:=14,agg:=true,fields:=[(0,3),(1,3),(2,3),(3,3),(4,3),(5,3),(6,2),(7,2),(8,26),(10,28),(11,24),(12,29),(13,30)],elem:=0,alen:=0,ty:=some (.named 3),zero:=[.int .i64,.int .i64,.int .i64,.int .i64,.int .i64,.int .i64,.int .i64,.int .i64,.int .i64,.slice,.int .u64,.slice,.slice,.slice],bytes:=176,sl:=false,fk:=false,cmp:=false,mp:=false}),
 (35,{size:=1,agg:=false,fields:=[],elem:=27,alen:=0,ty:=some (.slice (.int .u64)),zero:=[.slice],bytes:=24,sl:=true,fk:=false,cmp:=false,mp:=false}),
 (37,{size:=2,agg:=true,fields:=[(0,28),(1,28)],elem:=0,alen:=0,ty:=some (.named 9),zero:=[.int .u64,.int .u64],bytes:=16,sl:=false,fk:=false,cmp:=true,mp:=false}),
 (38,{size:=1,agg:=false,fields:=[],elem:=3,alen:=0,ty:=some z7,zero:=[.slice],bytes:=24,sl:=true,fk:=false,cmp:=false,mp:=false}),
 (39,{size:=1,agg:=false,fields:=[],elem:=2,alen:=0,ty:=some z7,zero:=[.slice],bytes:=24,sl:=true,fk:=false,cmp:=false,mp:=false}),
 (41,{size:=4,agg:=true,fields:=[(0,2),(1,2),(2,2),(3,39)],elem:=0,alen:=0,ty:=some (.named 10),zero:=[.int .i64,.int .i64,.int .i64,.slice],bytes:=48,sl:=false,fk:=false,cmp:=false,mp:=false}),
 (42,{size:=1,agg:=false,fields:=[],elem:=89,alen:=0,ty:=some (.slice (.named 7)),zero:=[.slice],bytes:=24,sl:=true,fk:=false,cmp:=false,mp:=false}),
 (43,{size:=1,agg:=false,fields:=[],elem:=97,alen:=0,ty:=some (.slice (.named 8)),zero:=[.slice],bytes:=24,sl:=true,fk:=false,cmp:=false,mp:=false}),
 (45,{size:=2,agg:=true,fields:=[(0,3),(1,3)],elem:=0,alen:=0,ty:=some (.named 11),zero:=[.int .i64,.int .i64],bytes:=16,sl:=false,fk:=false,cmp:=true,mp:=false}),
 (47,{size:=34,agg:=true,fields:=[(0,32),(14,26),(16,35),(17,24),(18,37),(20,3),(21,3),(22,4),(23,4),(24,3),(25,38),(26,41),(30,42),(31,43),(32,45)],elem:=0,alen:=0,ty:=some (.named 12),zero:=[.int .i64,.int .i64,.int .i64,.int .i64,.int .i64,.int .i64,.int .i64,.int .i64,.int .i64,.slice,.int .u64,.slice,.slice,.slice,.int .i64,.slice,.slice,.slice,.int .u64,.int .u64,.int .i64,.int .i64,.bool,.bool,.int .i64,.slice,.int .i64,.int .i64,.int .i64,.slice,.slice,.slice,.int .i64,.int .i64],bytes:=440,sl:=false,fk:=false,cmp:=false,mp:=false}),
 (51,{size:=2,agg:=true,fields:=[(0,3),(1,3)],elem:=0,alen:=0,ty:=some (.named 1),zero:=[.int .i64,.int .i64],bytes:=16,sl:=false,fk:=false,cmp:=true,mp:=false}),
 (60,{size:=4,agg:=true,fields:=[(0,3),(1,3),(2,3),(3,3)],elem:=0,alen:=0,ty:=some (.named 0),zero:=[.int .i64,.int .i64,.int .i64,.int .i64],bytes:=32,sl:=false,fk:=false,cmp:=true,mp:=false}),
 (61,{size:=1,agg:=false,fields:=[],elem:=60,alen:=0,ty:=some (.slice (.named 0)),zero:=[.slice],bytes:=24,sl:=true,fk:=false,cmp:=false,mp:=false}),
 (64,{size:=1,agg:=false,fields:=[],elem:=0,alen:=0,ty:=none,zero:=[.func],bytes:=8,sl:=false,fk:=true,cmp:=false,mp:=false}),
 (69,{size:=2,agg:=true,fields:=[(0,22),(1,3)],elem:=0,alen:=0,ty:=some (.named 17),zero:=[.slice,.int .i64],bytes:=32,sl:=false,fk:=false,cmp:=false,mp:=false}),
 (81,{size:=8,agg:=true,fields:=[(0,3),(1,3),(2,3),(3,3),(4,27),(5,27),(6,3),(7,3)],elem:=0,alen:=0,ty:=some (.named 4),zero:=[.int .i64,.int .i64,.int .i64,.int .i64,.int .u64,.int .u64,.int .i64,.int .i64],bytes:=64,sl:=false,fk:=false,cmp:=true,mp:=false}),
 (85,{size:=8,agg:=true,fields:=[(0,3),(1,3),(2,3),(3,3),(4,27),(5,3),(6,3),(7,3)],elem:=0,alen:=0,ty:=some (.named 5),zero:=[.int .i64,.int .i64,.int .i64,.int .i64,.int .u64,.int .i64,.int .i64,.int .i64],bytes:=64,sl:=false,fk:=false,cmp:=true,mp:=false}),
 (87,{size:=22,agg:=true,fields:=[(0,3),(1,3),(2,3),(3,3),(4,81),(12,85),(20,3),(21,3)],elem:=0,alen:=0,ty:=some (.named 6),zero:=[.int .i64,.int .i64,.int .i64,.int .i64,.int .i64,.int .i64,.int .i64,.int .i64,.int .u64,.int .u64,.int .i64,.int .i64,.int .i64,.int .i64,.int .i64,.int .i64,.int .u64,.int .i64,.int .i64,.int .i64,.int .i64,.int .i64],bytes:=176,sl:=false,fk:=false,cmp:=true,mp:=false}),
 (89,{size:=44,agg:=true,fields:=[(0,3),(1,3),(2,3),(3,3),(4,3),(5,38),(6,81),(14,85),(22,87)],elem:=0,alen:=0,ty:=some (.named 7),zero:=[.int .i64,.int .i64,.int .i64,.int .i64,.int .i64,.slice,.int .i64,.int .i64,.int .i64,.int .i64,.int .u64,.int .u64,.int .i64,.int .i64,.int .i64,.int .i64,.int .i64,.int .i64,.int .u64,.int .i64,.int .i64,.int .i64,.int .i64,.int .i64,.int .i64,.int .i64,.int .i64,.int .i64,.int .i64,.int .i64,.int .u64,.int .u64,.int .i64,.int .i64,.int .i64,.int .i64,.int .i64,.int .i64,.int .u64,.int .i64,.int .i64,.int .i64,.int .i64,.int .i64],bytes:=368,sl:=false,fk:=false,cmp:=false,mp:=false}),
 (97,{size:=41,agg:=true,fields:=[(0,3),(1,3),(2,3),(3,3),(4,3),(5,3),(6,3),(7,3),(8,38),(9,38),(10,38),(11,85),(19,87)],elem:=0,alen:=0,ty:=some (.named 8),zero:=[.int .i64,.int .i64,.int .i64,.int .i64,.int .i64,.int .i64,.int .i64,.int .i64,.slice,.slice,.slice,.int .i64,.int .i64,.int .i64,.int .i64,.int .u64,.int .i64,.int .i64,.int .i64,.int .i64,.int .i64,.int .i64,.int .i64,.int .i64,.int .i64,.int .i64,.int .i64,.int .u64,.int .u64,.int .i64,.int .i64,.int .i64,.int .i64,.int .i64,.int .i64,.int .u64,.int .i64,.int .i64,.int .i64,.int .i64,.int .i64],bytes:=376,sl:=false,fk:=false,cmp:=false,mp:=false}),
 (99,{size:=1,agg:=false,fields:=[],elem:=0,alen:=0,ty:=none,zero:=[.func],bytes:=8,sl:=false,fk:=true,cmp:=false,mp:=false}),
 (100,{size:=1,agg:=false,fields:=[],elem:=99,alen:=0,ty:=none,zero:=[.map],bytes:=8,sl:=false,fk:=false,cmp:=false,mp:=true}),
 (103,{size:=1,agg:=false,fields:=[],elem:=0,alen:=0,ty:=some zp,zero:=[.int .i64],bytes:=8,sl:=false,fk:=false,cmp:=false,mp:=false}),
 (110,{size:=6,agg:=true,fields:=[],elem:=64,alen:=6,ty:=none,zero:=[.func,.func,.func,.func,.func,.func],bytes:=48,sl:=false,fk:=false,cmp:=false,mp:=false}),
 (117,{size:=1,agg:=false,fields:=[],elem:=3,alen:=0,ty:=some z7,zero:=[.slice],bytes:=24,sl:=true,fk:=false,cmp:=false,mp:=false}),
 (143,{size:=79,agg:=true,fields:=[(0,89),(44,47),(78,3)],elem:=0,alen:=0,ty:=some (.named 14),zero:=[.int .i64,.int .i64,.int .i64,.int .i64,.int .i64,.slice,.int .i64,.int .i64,.int .i64,.int .i64,.int .u64,.int .u64,.int .i64,.int .i64,.int .i64,.int .i64,.int .i64,.int .i64,.int .u64,.int .i64,.int .i64,.int .i64,.int .i64,.int .i64,.int .i64,.int .i64,.int .i64,.int .i64,.int .i64,.int .i64,.int .u64,.int .u64,.int .i64,.int .i64,.int .i64,.int .i64,.int .i64,.int .i64,.int .u64,.int .i64,.int .i64,.int .i64,.int .i64,.int .i64,.int .i64,.int .i64,.int .i64,.int .i64,.int .i64,.int .i64,.int .i64,.int .i64,.int .i64,.slice,.int .u64,.slice,.slice,.slice,.int .i64,.slice,.slice,.slice,.int .u64,.int .u64,.int .i64,.int .i64,.bool,.bool,.int .i64,.slice,.int .i64,.int .i64,.int .i64,.slice,.slice,.slice,.int .i64,.int .i64,.int .i64],bytes:=816,sl:=false,fk:=false,cmp:=false,mp:=false}),
 (147,{size:=76,agg:=true,fields:=[(0,97),(41,47),(75,3)],elem:=0,alen:=0,ty:=some (.named 16),zero:=[.int .i64,.int .i64,.int .i64,.int .i64,.int .i64,.int .i64,.int .i64,.int .i64,.slice,.slice,.slice,.int .i64,.int .i64,.int .i64,.int .i64,.int .u64,.int .i64,.int .i64,.int .i64,.int .i64,.int .i64,.int .i64,.int .i64,.int .i64,.int .i64,.int .i64,.int .i64,.int .u64,.int .u64,.int .i64,.int .i64,.int .i64,.int .i64,.int .i64,.int .i64,.int .u64,.int .i64,.int .i64,.int .i64,.int .i64,.int .i64,.int .i64,.int .i64,.int .i64,.int .i64,.int .i64,.int .i64,.int .i64,.int .i64,.int .i64,.slice,.int .u64,.slice,.slice,.slice,.int .i64,.slice,.slice,.slice,.int .u64,.int .u64,.int .i64,.int .i64,.bool,.bool,.int .i64,.slice,.int .i64,.int .i64,.int .i64,.slice,.slice,.slice,.int .i64,.int .i64,.int .i64],bytes:=824,sl:=false,fk:=false,cmp:=false,mp:=false}),
 (149,{size:=1,agg:=false,fields:=[],elem:=0,alen:=0,ty:=none,zero:=[.func],bytes:=8,sl:=false,fk:=true,cmp:=false,mp:=false}),
 (150,{size:=4,agg:=true,fields:=[],elem:=149,alen:=4,ty:=none,zero:=[.func,.func,.func,.func],bytes:=32,sl:=false,fk:=false,cmp:=false,mp:=false}),
 (154,{size:=1,agg:=false,fields:=[],elem:=87,alen:=0,ty:=some (.slice (.named 6)),zero:=[.slice],bytes:=24,sl:=true,fk:=false,cmp:=false,mp:=false}),
 (162,{size:=64,agg:=true,fields:=[],elem:=3,alen:=64,ty:=some (.arr 64 zp),zero:=[.int .i64,.int .i64,.int .i64,.int .i64,.int .i64,.int .i64,.int .i64,.int .i64,.int .i64,.int .i64,.int .i64,.int .i64,.int .i64,.int .i64,.int .i64,.int .i64,.int .i64,.int .i64,.int .i64,.int .i64,.int .i64,.int .i64,.int .i64,.int .i64,.int .i64,.int .i64,.int .i64,.int .i64,.int .i64,.int .i64,.int .i64,.int .i64,.int .i64,.int .i64,.int .i64,.int .i64,.int .i64,.int .i64,.int .i64,.int .i64,.int .i64,.int .i64,.int .i64,.int .i64,.int .i64,.int .i64,.int .i64,.int .i64,.int .i64,.int .i64,.int .i64,.int .i64,.int .i64,.int .i64,.int .i64,.int .i64,.int .i64,.int .i64,.int .i64,.int .i64,.int .i64,.int .i64,.int .i64,.int .i64],bytes:=512,sl:=false,fk:=false,cmp:=true,mp:=false}),
 (173,{size:=1,agg:=false,fields:=[],elem:=3,alen:=0,ty:=none,zero:=[.map],bytes:=8,sl:=false,fk:=false,cmp:=false,mp:=true}),
 (179,{size:=4,agg:=true,fields:=[(0,3),(1,3),(2,27),(3,27)],elem:=0,alen:=0,ty:=some (.named 13),zero:=[.int .i64,.int .i64,.int .u64,.int .u64],bytes:=32,sl:=false,fk:=false,cmp:=true,mp:=false}),
 (184,{size:=1,agg:=false,fields:=[],elem:=0,alen:=0,ty:=none,zero:=[.func],bytes:=8,sl:=false,fk:=true,cmp:=false,mp:=false}),
 (185,{size:=1,agg:=false,fields:=[],elem:=184,alen:=0,ty:=none,zero:=[.map],bytes:=8,sl:=false,fk:=false,cmp:=false,mp:=true}),
 (197,{size:=1,agg:=false,fields:=[],elem:=0,alen:=0,ty:=none,zero:=[.func],bytes:=8,sl:=false,fk:=true,cmp:=false,mp:=false}),
 (198,{size:=1,agg:=false,fields:=[],elem:=197,alen:=0,ty:=none,zero:=[.map],bytes:=8,sl:=false,fk:=false,cmp:=false,mp:=true}),
 (200,{size:=1,agg:=false,fields:=[],elem:=0,alen:=0,ty:=none,zero:=[.func],bytes:=8,sl:=false,fk:=true,cmp:=false,mp:=false}),
 (210,{size:=1,agg:=false,fields:=[],elem:=0,alen:=0,ty:=none,zero:=[.func],bytes:=8,sl:=false,fk:=true,cmp:=false,mp:=false}),
 (212,{size:=8,agg:=true,fields:=[],elem:=210,alen:=8,ty:=none,zero:=[.func,.func,.func,.func,.func,.func,.func,.func],bytes:=64,sl:=false,fk:=false,cmp:=false,mp:=false}),
 (214,{size:=56,agg:=true,fields:=[(0,87),(22,47)],elem:=0,alen:=0,ty:=some (.named 15),zero:=[.int .i64,.int .i64,.int .i64,.int .i64,.int .i64,.int .i64,.int .i64,.int .i64,.int .u64,.int .u64,.int .i64,.int .i64,.int .i64,.int .i64,.int .i64,.int .i64,.int .u64,.int .i64,.int .i64,.int .i64,.int .i64,.int .i64,.int .i64,.int .i64,.int .i64,.int .i64,.int .i64,.int .i64,.int .i64,.int .i64,.int .i64,.slice,.int .u64,.slice,.slice,.slice,.int .i64,.slice,.slice,.slice,.int .u64,.int .u64,.int .i64,.int .i64,.bool,.bool,.int .i64,.slice,.int .i64,.int .i64,.int .i64,.slice,.slice,.slice,.int .i64,.int .i64],bytes:=616,sl:=false,fk:=false,cmp:=false,mp:=false}),
 (232,{size:=1,agg:=false,fields:=[],elem:=117,alen:=0,ty:=some zP,zero:=[.slice],bytes:=24,sl:=true,fk:=false,cmp:=false,mp:=false}),
 (234,{size:=3,agg:=true,fields:=[],elem:=200,alen:=3,ty:=none,zero:=[.func,.func,.func],bytes:=24,sl:=false,fk:=false,cmp:=false,mp:=false}),
 (235,{size:=1,agg:=false,fields:=[],elem:=237,alen:=0,ty:=none,zero:=[.slice],bytes:=24,sl:=true,fk:=false,cmp:=false,mp:=false}),
 (237,{size:=1,agg:=false,fields:=[],elem:=0,alen:=0,ty:=none,zero:=[.func],bytes:=8,sl:=false,fk:=true,cmp:=false,mp:=false})]
theorem zsk:yT E.leaves Tryz.prog tab=true:=by kernel_rfl
theorem zwF:(Tryz.prog).follows .mixedOrders=true:=by kernel_rfl
abbrev L (n:Nat):List SK:=(lvs n).map .val
abbrev vI:SK:= .val zp
abbrev vU:SK:= .val (.int .u64)
abbrev vB:SK:= .val .bool
abbrev vL:SK:= .val z7
abbrev vM:SK:= .val (.slice (.int .u64))
abbrev oI:Grp:= .one zp
abbrev oU:Grp:= .one (.int .u64)
abbrev oB:Grp:= .one .bool
abbrev oL:Grp:= .one z7
abbrev oM:Grp:= .one (.slice (.int .u64))
noncomputable abbrev cf:=zDY (E:=E) Tryz.prog tab
noncomputable abbrev cf1 a:=cf a [] [] [] [] []
noncomputable abbrev sp (C:Cfg E) (fn:Func) (i o:wq) (gi go:List Grp) (hi:Yj E gi=i.holes:=by kernel_rfl) (ho:Yj E go=o.holes:=by kernel_rfl):zL E:=zrz C fn i o gi go hi ho
noncomputable abbrev lo (sl:List Nat) (i:wq) (b:Nat) (bs:List Nat) (bk:wq) (rs:List Nat) (r:wq) (gi gb gr:List Grp) (hi:Yj E gi=i.holes:=by kernel_rfl) (hb:Yj E gb=bk.holes:=by kernel_rfl) (hr:Yj E gr=r.holes:=by kernel_rfl):zZ E:={slots:=sl,inn:=i,brkId:=b,bslots:=bs,brk:=bk,rslots:=rs,ret:=r,gi:=grp gi hi,gb:=grp gb hb,gr:=grp gr hr}
end Go.Pe.G
namespace Go.Proofs
open Go.Shelf
def rhoTz:Go.Shelf.Ren:={f:=fun k=>if k=29 then 117 else k,t:=fun k=>if k=22 then 27 else if k=25 then 175 else if k=54 then 196 else k,g:=fun k=>if k=1 then 0 else k}
theorem laysTz:Lays7.n29 Tryz.prog rhoTz:=by
 constructor<;>first | kernel_rfl | (intro w;kernel_rfl)
end Go.Proofs
namespace Go.Pe.G
open Go.Pe Go.Proofs
def zoT (G:Nat->Prop) (W0:World):Prop:=G 0/\Go.Proofs.TabAt 0 Go.Lib.deBruijn64tab W0
noncomputable def tz (x:zB):Int:=((Go.Lib.ctz 64 x.toNat:Nat):Int)
noncomputable def pTZ:zL E:={inn:=⟨[.val (.int .u64)],[]⟩,out:=⟨[.val zp],[]⟩,gi:=grp [.one (.int .u64)] rfl,go:=grp [.one zp] rfl,F:=fun x=>some (tz x.1,())}
noncomputable def qTZ (a:zB):Option (Int×Unit):=pTZ.F (a,())
theorem zJu (a:zB):qTZ a=some (tz a,()):=rfl
theorem zIP:Zd Tryz.prog 117=true:=by kernel_rfl
theorem zFs {G:Nat->Prop}{W0:World}(hG:zoT G W0):Xi Tryz.prog G W0 117 pTZ:=by
 intro A0 μ w args x y wd S hr hy;obtain ⟨hg,hT⟩:=hG;have hw:w.heap[0]? =W0.heap[0]? :=(wd.glob 0 hg).2;have hx:∃v,args= #[v]/\yt E w (Av A0 μ ([]:List (Blk E))) (.int .u64) v x.1:=by
  have hl:=hr.1;have hl:1=args.toList.length:=hl
  match ha:args.toList,hl with
  | [v],_ =>
   have h1:=hr.2 0 (.v (.int .u64) x.1) v rfl (by rw [ha];rfl);refine ⟨v,?_,?_⟩
   .rw [<-zMh (xs:=args),ha]
   .cases h1 with
    | v _ _ _ h=>exact h
 obtain ⟨v,rfl,hv⟩:=hx;cases hv with
 | int k z =>
 have hz:x.1.toNat<18446744073709551616:=x.1.isLt;have hk:=Go.Proofs.Any7.bits_TrailingZeros64 Go.Proofs.laysTz x.1.toNat hz w (fun _ j hj=>by
  have:=hT j hj;unfold World.cell? at this ⊢;show _=_;have e0:Go.Proofs.rhoTz.g 1=0:=rfl;rw [e0];simp only [hw];exact this)
 have hy:some (tz x.1,())=some y:=hy;injection hy with hy;subst hy;refine hk.mono ?_;rintro e w' ⟨rfl,rfl⟩;refine ⟨[.int .i64 (tz x.1)],A0,μ,rfl,S,?_,Adv.refl _ _,fun _ h=>h,wd.low,fun j ws h=>by simp [pTZ] at h⟩;exact RL.cons (.v _ _ _ (.int .i64 (tz x.1))) RL.nil
noncomputable def zat:Nat->BitVec 64->Option zA
 | 0,_=>none
 | f+1,s=>bif decide (s=0#64) then some [] else (zat f (s&&&(s-1#64))).map fun l=>w64 (tz s+1)::l
def ul (n:Nat):Nat->List Int->List zA
 | 0,_=>[]
 | _+1,[]=>[]
 | f+1,x::l=>(x::l).take n::ul n f ((x::l).drop n)
def zl4 (l:zA) (n:Int):Option zC:=bif decide (1<=n)&&decide (n<1000000)&&decide ((l.length:Int)<1000000) then some (ul n.toNat l.length l) else none
end Go.Pe.G
namespace Go.Proofs
open Go.Shelf
def zJR:Go.Shelf.Ren:={f:=fun k=>if k=125 then 228 else if k=128 then 252 else if k=129 then 253 else if k=215 then 262 else if k=216 then 249 else if k=257 then 227 else if k=294 then 243 else if k=295 then 244 else if k=296 then 245 else if k=297 then 246 else if k=298 then 247 else if k=299 then 248 else if k=300 then 250 else if k=301 then 251 else if k=328 then 257 else if k=329 then 258 else if k=330 then 259 else if k=331 then 260 else if k=332 then 261 else if k=343 then 263 else k,t:=fun k=>if k=0 then 0 else if k=3 then 3 else if k=4 then 4 else if k=5 then 5 else if k=9 then 9 else if k=28 then 38 else if k=46 then 175 else if k=51 then 258 else if k=53 then 27 else if k=131 then 207 else if k=182 then 251 else if k=183 then 252 else if k=218 then 261 else if k=222 then 264 else if k=228 then 266 else if k=229 then 53 else k,g:=fun k=>k}
theorem laysPd:Lays.n257 Tryz.prog zJR:=by
 constructor<;>first | kernel_rfl | (intro w;kernel_rfl)
def zJ5:Go.Shelf.Ren:={f:=fun k=>if k=125 then 228 else if k=128 then 252 else if k=129 then 253 else k,t:=fun k=>if k=3 then 3 else if k=4 then 4 else if k=5 then 5 else if k=9 then 9 else if k=46 then 175 else if k=51 then 258 else if k=53 then 27 else k,g:=fun k=>k}
theorem laysLn:Lays.n125 Tryz.prog zJ5:=by
 constructor<;>first | kernel_rfl | (intro w;kernel_rfl)
end Go.Proofs
namespace Go.Pe.G
open Go.Pe Go.Proofs
noncomputable def zAt (x:BitVec 64):Int:=((Go.Lib.bitLen x.toNat:Nat):Int)
noncomputable def zHz:zL E:={inn:=⟨[.val (.int .u64)],[]⟩,out:=⟨[.val (.int .i64)],[]⟩,gi:=grp [.one (.int .u64)] rfl,go:=grp [.one (.int .i64)] rfl,F:=fun x=>some (zAt x.1,())}
noncomputable def zKg (a:BitVec 64):Option (Int×Unit):=zHz.F (a,())
theorem zKr (a:BitVec 64):zKg a=some (zAt a,()):=rfl
theorem zKs:Zd Tryz.prog 228=true:=by kernel_rfl
noncomputable def wI (l:List Int):List Int:=l.mergeSort fun x y=>decide (x<=y)
noncomputable def zEQ (a b c:Int) (l:List Int):Option (List Int×Unit):=bif decide (a=0)&&decide (b=(l.length:Int))&&decide (c=((Go.Sort.bitsLen l.length:Nat):Int))&&decide (l.length<4294967296) then some (wI l,()) else none
noncomputable def zEP:zL E:={inn:=⟨[.own 0,.val (.int .i64),.val (.int .i64),.val (.int .i64)],[.row true (.int .i64)]⟩,out:=⟨[],[.row true (.int .i64)]⟩,gi:=grp [.one (.int .i64),.one (.int .i64),.one (.int .i64),.one (.slice (.int .i64))] rfl,go:=grp [.one (.slice (.int .i64))] rfl,F:=fun x=>zEQ x.1 x.2.1 x.2.2.1 x.2.2.2.1}
noncomputable def zKk (a b c:Int) (l:List Int):Option (List Int×Unit):=zEP.F (a,b,c,l,())
theorem zKt (a b c:Int) (l:List Int):zKk a b c l=zEQ a b c l:=rfl
theorem zKw:Zd Tryz.prog 227=true:=by kernel_rfl
theorem zJ1 {G:Nat->Prop}{W0:World}(hG:zoT G W0):Xi Tryz.prog G W0 228 zHz:=by
 intro A0 μ w args x y wd S hr hy;have hx:∃v,args= #[v]/\yt E w (Av A0 μ ([]:List (Blk E))) (.int .u64) v x.1:=by
  have hl:=hr.1;have hl:1=args.toList.length:=hl
  match ha:args.toList,hl with
  | [v],_ =>
   have h1:=hr.2 0 (.v (.int .u64) x.1) v rfl (by rw [ha];rfl);refine ⟨v,?_,?_⟩
   .rw [<-zMh (xs:=args),ha]
   .cases h1 with
    | v _ _ _ h=>exact h
 obtain ⟨v,rfl,hv⟩:=hx;cases hv with
 | int k z =>
 have hz:x.1.toNat<18446744073709551616:=x.1.isLt;have hk:=Go.calls_of_every_depth fun D=>Go.Proofs.AnyS.bits_LenIn Go.Proofs.laysLn D (x.1.toNat:Int) w (by omega) (by omega);rw [zLi] at hk;have hy:some (zAt x.1,())=some y:=hy;injection hy with hy;subst hy;refine hk.mono ?_;rintro e w' ⟨rfl,rfl⟩;refine ⟨[.int .i64 (zAt x.1)],A0,μ,rfl,S,?_,Adv.refl _ _,fun _ h=>h,wd.low,fun j ws h=>by simp [zHz] at h⟩;exact RL.cons (.v _ _ _ (.int .i64 (zAt x.1))) RL.nil
noncomputable def zpI (l:List Int):Option (List Int×Unit):=bif decide (l.length<4294967296) then some (wI l,()) else none
noncomputable def zta:zL E:={inn:=⟨[.val (.slice (.int .i64))],[]⟩,out:=⟨[.own 0],[.row true (.int .i64)]⟩,gi:=grp [.one (.slice (.int .i64))] rfl,go:=grp [.one (.slice (.int .i64))] rfl,F:=fun x=>zpI x.1}
noncomputable def ztf (l:List Int):Option (List Int×Unit):=zta.F (l,())
theorem zEj (l:List Int):ztf l=zpI l:=rfl
theorem zw1 {A0:Nat->Prop}{μ:Nat->Loc}{l:List Int}{w:World}{bk off cap:Nat}{cc:Array Value}{t:TypeId}(S:z9 A0 μ [Blk.row (E:=E) true (.int .i64) l] w) (hμ:μ 0= .blk bk off l.length cap) (hb:bk<w.heap.size) (e2:w.heap[bk]? =some (.cells cc t (0,0))) (h1:l.length<=cap) (h2:off+cap*1<=cc.size)
  (hcell:∀(j:Nat) (h:j<l.length),cc[off+j]? =some (.int .i64 l[j])) (n:Nat) (os:Array Obj) :
  z9 A0 μ [Blk.row (E:=E) true (.int .i64) (wI l)] (Go.Sort.grow (Go.Sort.putRow (Value.int .i64) (Go.Sort.ahead w n) bk off (wI l).toArray) os)/\Adv (Lv μ [Blk.row (E:=E) true (.int .i64) l]) w (Lv μ [Blk.row (E:=E) true (.int .i64) (wI l)]) (Go.Sort.grow (Go.Sort.putRow (Value.int .i64) (Go.Sort.ahead w n) bk off (wI l).toArray) os):=by
 have hlen':(wI l).length=l.length:=List.length_mergeSort l;have hheap:∀k,k<w.heap.size->(Go.Sort.grow (Go.Sort.putRow (Value.int .i64) (Go.Sort.ahead w n) bk off (wI l).toArray) os).heap[k]? =if bk=k then some (.cells (Go.Sort.putCells (Value.int .i64) off (wI l).toArray cc) t (0,0)) else w.heap[k]? :=fun k hk=>by
  rw [Go.Sort.heap_grow_old _ _ (by unfold Go.Sort.putRow Go.Sort.mapBlock Go.Sort.ahead;simpa using hk)];unfold Go.Sort.putRow Go.Sort.mapBlock Go.Sort.ahead;dsimp only;rw [Array.getElem?_modify];split
  .rename_i h;subst h;rw [e2];rfl
  .rfl
 have hsize:w.heap.size<=(Go.Sort.grow (Go.Sort.putRow (Value.int .i64) (Go.Sort.ahead w n) bk off (wI l).toArray) os).heap.size:=by
  unfold Go.Sort.grow Go.Sort.putRow Go.Sort.mapBlock Go.Sort.ahead;simp
 have hput:∀(i:Nat) (h:i<(wI l).length),(Go.Sort.putCells (Value.int .i64) off (wI l).toArray cc)[off+i]? =some (.int .i64 (wI l)[i]):=fun i h=>by
  unfold Go.Sort.putCells;rw [Array.getElem?_mapIdx,hcell i (by omega),zLD,zb ⟨by omega,by simp;omega⟩,show off+i-off=i by omega,getElem!_pos (wI l).toArray i (by simpa using h)];rfl
 refine ⟨⟨fun id=>?_,fun i j b o l c b' o' l' c' ne hi hj=>?_,fun id b o l c ho hm=>?_⟩,⟨rfl,rfl,rfl,hsize,fun b hb2 hn=>?_,fun b _ h=>?_⟩⟩
 .match id with
  | 0 =>
   refine .inl ⟨bk,off,cap,_,fun i=>.int .i64 ((wI l).getD i 0),?_,⟨t,(0,0),by rw [hheap bk hb,zb rfl],fun _=>rfl⟩,?_,?_,fun i hi j u hu=>?_,fun i hi=>?_⟩
   .rw [hμ];show Loc.blk bk off l.length cap=Loc.blk bk off (wI l).length cap;rw [hlen']
   .show (wI l).length<=cap;omega
   .show off+cap*1<=(Go.Sort.putCells (Value.int .i64) off (wI l).toArray cc).size;unfold Go.Sort.putCells;rw [Array.size_mapIdx];exact h2
   .have hi:i<(wI l).length:=hi
    match j,hu with
    | 0,hu =>
     have hu:some (Value.int .i64 ((wI l).getD i 0))=some u:=hu;injection hu with hu;subst hu;show (Go.Sort.putCells (Value.int .i64) off (wI l).toArray cc)[off+i*1+0]? =_;rw [zLv,zLk,hput i hi,zKD,zKC hi];rfl
    | j+1,hu=>cases hu
   .have hi:i<(wI l).length:=hi;have e:(wI l).getD i 0=(wI l)[i]:=by rw [zKD,zKC hi];rfl
    show yt E _ _ (.int .i64) (.int .i64 ((wI l).getD i 0)) (wI l)[i];rw [e];exact .int .i64 _
  | id+1=>exact trivial
 .match i,j with
  | 0,0=>exact zm rfl ne
  | 0,j+1=>cases hj
  | i+1,_=>cases hi
 .match id with
  | 0 =>
   have hm:μ 0=Loc.blk b o l c:=hm;have:=S.out 0 b o l c rfl hm;exact ⟨this.1,zKW this.2 hsize⟩
  | id+1=>cases ho
 .rw [hheap b hb2,zc];rintro rfl;exact hn ⟨0,off,l.length,cap,rfl,hμ⟩
 .obtain ⟨id,off2,len2,cap2,hl,hm⟩:=h
  match id with
  | 0=>exact ⟨0,off2,len2,cap2,rfl,hm⟩
  | id+1=>cases hl
theorem zJ8 {G:Nat->Prop}{W0:World}(hG:zoT G W0):Xi Tryz.prog G W0 227 zEP:=by
 intro A0 μ w args x y wd S hr hy;obtain ⟨a,b,c,l,⟨⟩⟩:=x;have hx:∃v0 v1 v2 v3,args= #[v0,v1,v2,v3]/\ym E w (Av A0 μ [Blk.row true (.int .i64) l]) (Us [Blk.row true (.int .i64) l]) μ (.own 0) v0/\v1= .int .i64 a/\v2= .int .i64 b/\v3= .int .i64 c:=by
  have hl:=hr.1;have hl:4=args.toList.length:=hl;have num:∀ {v:Value}{z:Int},ym E w (Av A0 μ [Blk.row true (.int .i64) l]) (Us [Blk.row true (.int .i64) l]) μ (.v (.int .i64) z) v->v= .int .i64 z:=fun h=>by
   cases h with
   | v _ _ _ h=>cases h with
    | int k z=>rfl
  match ha:args.toList,hl with
  | [v0,v1,v2,v3],_ =>
   have h0:=hr.2 0 (.own 0) v0 rfl (by rw [ha];rfl);have h1:=hr.2 1 (.v (.int .i64) a) v1 rfl (by rw [ha];rfl);have h2:=hr.2 2 (.v (.int .i64) b) v2 rfl (by rw [ha];rfl);have h3:=hr.2 3 (.v (.int .i64) c) v3 rfl (by rw [ha];rfl);refine ⟨v0,v1,v2,v3,?_,h0,num h1,num h2,num h3⟩;rw [<-zMh (xs:=args),ha]
 obtain ⟨v0,_,_,_,rfl,h0,rfl,rfl,rfl⟩:=hx;have hy:zEQ a b c l=some y:=hy;unfold zEQ at hy;cases hc:(decide (a=0)&&decide (b=(l.length:Int))&&decide (c=((Go.Sort.bitsLen l.length:Nat):Int))&&decide (l.length<4294967296)) with
 | false=>rw [hc] at hy;cases hy
 | true =>
 rw [hc] at hy;injection hy with hy;subst hy;simp only [zKB,decide_eq_true_eq] at hc;obtain ⟨⟨⟨rfl,rfl⟩,rfl⟩,hlen⟩:=hc;have S:z9 A0 μ [Blk.row true (.int .i64) l] w:=S;have hok:=S.ok 0;cases h0 with
 | own0 _ a1 a2 hU hμ =>
  have hl:l=[]:=by
   rcases hok with ⟨_,_,_,_,_,e1,_⟩ | ⟨e,_⟩
   .have e1:μ 0=_:=e1;rw [hμ] at e1;cases e1
   .exact e
  subst hl;have hk:=Go.calls_of_every_depth fun D=>Go.Proofs.AnyS.pdqsort_int_none_in Go.Proofs.laysPd D a1 0 w;refine hk.mono ?_;rintro e w' ⟨rfl,rfl⟩;have e0:wI []=[]:=by unfold wI;simp
  refine ⟨[],A0,μ,rfl,?_⟩;show zBd A0 μ _ _ zEP (zEP.go.to (wI [],())) _ _ _ _;rw [e0];exact ⟨S,RL.nil,Adv.refl _ _,fun _ h=>h,wd.low,fun j ws h=>by
   cases j with
   | zero=>cases h
   | succ j=>cases h⟩
 | own _ bk off len cap hU hμ =>
  obtain ⟨hA,hb⟩:=S.out 0 bk off len cap rfl hμ;obtain ⟨cc,vs,t,rfl,e2,h1,h2,h3,h4⟩:∃(cc:Array Value) (vs:Nat->Value) (t:TypeId),len=l.length/\w.heap[bk]? =some (.cells cc t (0,0))/\l.length<=cap/\off+cap*1<=cc.size /\
    (∀i,i<l.length->∀j u,(vs i).cells[j]? =some u->cc[off+i*1+j]? =some u)/\∀i (h:i<l.length),yt E w (Av A0 μ [Blk.row true (.int .i64) l]) (.int .i64) (vs i) l[i]:=by
   rcases hok with ⟨b',off',cap',cc,vs,e1,⟨t,f,e2,e3⟩,h1,h2,h3,h4⟩ | ⟨_,a,e⟩
   .have e1:μ 0=_:=e1;rw [hμ] at e1;injection e1 with q1 q2 q3 q4;subst q1;subst q2;subst q4;have e3:=e3 rfl;subst e3;exact ⟨cc,vs,t,q3,e2,h1,h2,h3,h4⟩
   .have e:μ 0=_:=e;rw [hμ] at e;cases e
  have hcell:∀(j:Nat) (h:j<l.length),cc[off+j]? =some (.int .i64 l[j]):=fun j h=>by
   have r:=h4 j h;have q:=h3 j h 0;obtain ⟨z,hz⟩:∃z:Int,z=l[j]:=⟨_,rfl⟩
   rw [<-hz] at r ⊢;generalize vs j=vj at r q;cases r with
   | int k z =>
    have:=q _ rfl;rw [zLv,zLk] at this;exact this
  have hsz:l.toArray.size=l.length:=by simp
  have hH:Go.Sort.Holds (Value.int .i64) w bk off l.toArray:=fun j hj=>by
   have hj:j<l.length:=by rw [<-hsz];exact hj
   refine ⟨?_,?_⟩
   .unfold World.cell?;rw [e2];show cc[off+j]? =some (Value.int .i64 l.toArray[j]!);rw [hcell j hj,getElem!_pos l.toArray j (by rw [hsz];exact hj)];rfl
   .unfold World.frozen?;rw [e2];simp
  have hlog:Go.Sort.bitsLen l.toArray.size<4611686018427387904:=by
   rw [hsz];unfold Go.Sort.bitsLen;split
   .omega
   .rename_i h0;have:=(Nat.log2_lt h0 (k:=32)).2 (by omega);omega
  have hdep:=Go.Sort.pdqDepth_le_59 Go.Sort.ltInt l.toArray 0 l.toArray.size (Go.Sort.bitsLen l.toArray.size) true true (by rw [hsz];omega);have hk:=Go.calls_of_every_depth fun D=>Go.Proofs.Any.pdqWalkInInt Go.Proofs.laysPd D 65 bk off cap 0 l.toArray.size (Go.Sort.bitsLen l.toArray.size) l.toArray w (by omega) hH hb (zLE _) (zKF _) (by rw [hsz];omega) hlog (Or.inl rfl);have hs:Go.Sort.pdq Go.Sort.ltInt l.toArray 0 l.toArray.size (Go.Sort.bitsLen l.toArray.size) true true=(wI l).toArray:=Go.Proofs.Any.sort_int_eqD l;rw [hs,hsz] at hk;refine hk.mono ?_;rintro e w' ⟨rfl,n,os,rfl⟩;obtain ⟨hS,hAd⟩:=zw1 S hμ hb e2 h1 h2 hcell n os;exact ⟨[],A0,μ,rfl,hS,RL.nil,hAd,fun _ h=>h,fun b h=>zKW (wd.low b h) hAd.size,fun j ws h=>by
   cases j with
   | zero=>cases h
   | succ j=>cases h⟩
end Go.Pe.G
namespace Go.Pe.G
open Go.Pe Go.Proofs
noncomputable def zwM (l:List Int):Option (List Int×Unit):=bif decide (0<l.length)&&decide (l.length<4294967296) then some (l.filter (fun x=> !decide (x=0)),()) else none
noncomputable def zAh:zL E:={inn:=⟨[.own 0],[.row true (.int .i64)]⟩,out:=⟨[.own 1],[.gone,.row true (.int .i64)]⟩,gi:=grp [.one (.slice (.int .i64))] rfl,go:=grp [.one (.slice (.int .i64))] rfl,F:=fun x=>zwM x.1}
noncomputable def zf8 (l:List Int):Option (List Int×Unit):=zAh.F (l,())
theorem zBH (l:List Int):zf8 l=zwM l:=rfl
noncomputable def zvN (n:Int):Option (List Int×Unit):=bif decide (0<=n)&&decide (n<4294967296) then some ([],()) else none
noncomputable def zEY:zL E:={inn:=⟨[.nils,.val (.int .i64)],[]⟩,out:=⟨[.own 0],[.row true (.int .i64)]⟩,gi:=grp [.one (.int .i64)] rfl,go:=grp [.one (.slice (.int .i64))] rfl,F:=fun x=>zvN x.1}
noncomputable def zEN (n:Int):Option (List Int×Unit):=zEY.F (n,())
theorem zHV (n:Int):zEN n=zvN n:=rfl
theorem zKv:Zd Tryz.prog 199=true:=by kernel_rfl
theorem zKu:Zd Tryz.prog 204=true:=by kernel_rfl
end Go.Pe.G
namespace Go.Pe.G
open Go.Pe Go.Proofs
noncomputable section
def zrX:Cfg E:=cf1 []
def zez:zL E:=sp zrX Tryz.f94 ⟨[vI,.ptr 0],[.box false [vI,.val zP]]⟩ ⟨[vB],[.gone]⟩ [oI,.str 2] [oB]
def zlw (a1:Int) (a2:zw):Option (Bool×Unit):=zez.F (a1,a2,())
def Za:zZ E:=lo [0,1,7,8] ⟨[vL,.fn 94 [.ptr 1],vI,vI],[.gone,.box false [vI,.val zP]]⟩ 0 [] ⟨[],[.gone]⟩ [4] ⟨[vI],[.gone]⟩ [oL,oI,oI,.str 2] [] [oI]
def wX:Cfg E:=cf [(94,[zez])] [(2,Za)] [] [] [] []
def vi:zL E:=sp wX Tryz.f110 ⟨[vL,.fn 94 [.ptr 0]],[.box false [vI,.val zP]]⟩ ⟨[vI],[.gone]⟩ [oL,.str 2] [oI]
def ZI (a1:zA) (a2:zw):Option (Int×Unit):=vi.F (a1,a2,())
def uZ (x:zA×Int×Int×zw×Unit):Option (yN (zA×Int×Int×zw×Unit) (Unit) (Int×Unit)):=yn wX (exec wX (yC Tryz.f110 2)) 19 Za x
def WE:Cfg E:=cf1 [(110,[vi])]
def wQ:zL E:=sp WE Tryz.f74 ⟨[vL,.fn 94 [.ptr 0]],[.box false [vI,.val zP]]⟩ ⟨[vB],[.gone]⟩ [oL,.str 2] [oB]
def wK (a1:zA) (a2:zw):Option (Bool×Unit):=wQ.F (a1,a2,())
def zut:Cfg E:=cf1 [(74,[wQ])]
def zhK:zL E:=sp zut Tryz.f93 ⟨[vL,.ptr 0],[.box false [vI,.val zP]]⟩ ⟨[vB],[.gone]⟩ [oL,.str 2] [oB]
def zpi (a1:zA) (a2:zw):Option (Bool×Unit):=zhK.F (a1,a2,())
def Ze:zZ E:=lo [0,1,7,8] ⟨[.val zP,.fn 93 [.ptr 1],vI,vI],[.gone,.box false [vI,.val zP]]⟩ 0 [] ⟨[],[.gone]⟩ [4] ⟨[vI],[.gone]⟩ [.one zP,oI,oI,.str 2] [] [oI]
def wW:Cfg E:=cf [(93,[zhK])] [(2,Ze)] [] [] [] []
def vk:zL E:=sp wW Tryz.f147 ⟨[.val zP,.fn 93 [.ptr 0]],[.box false [vI,.val zP]]⟩ ⟨[vI],[.gone]⟩ [.one zP,.str 2] [oI]
def ZJ (a1:zC) (a2:zw):Option (Int×Unit):=vk.F (a1,a2,())
def Zc (x:zC×Int×Int×zw×Unit):Option (yN (zC×Int×Int×zw×Unit) (Unit) (Int×Unit)):=yn wW (exec wW (yC Tryz.f147 2)) 19 Ze x
def Ww:Cfg E:=cf1 [(147,[vk])]
def wL:zL E:=sp Ww Tryz.f95 ⟨[.val zP,.fn 93 [.ptr 0]],[.box false [vI,.val zP]]⟩ ⟨[vB],[.gone]⟩ [.one zP,.str 2] [oB]
def wS (a1:zC) (a2:zw):Option (Bool×Unit):=wL.F (a1,a2,())
def zyt:Cfg E:=cf1 [(95,[wL])]
def zcC:zL E:=sp zyt Tryz.f53 ⟨[.val (.named 2)],[]⟩ ⟨[vB],[]⟩ [.one (.named 2)] [oB]
def Xm (a1:zw):Option (Bool×Unit):=zcC.F (a1,())
def zzE:Cfg E:=cf1 []
def Ul:zL E:=sp zzE Tryz.f54 ⟨[vI],[]⟩ ⟨[vU],[]⟩ [oI] [oU]
def Uy (a1:Int):Option (zB×Unit):=Ul.F (a1,())
def zzA:Cfg E:=cf1 []
def Uo:zL E:=sp zzA Tryz.f63 ⟨[vU,vU],[]⟩ ⟨[vB],[]⟩ [oU,oU] [oB]
def WK (a1:zB) (a2:zB):Option (Bool×Unit):=Uo.F (a1,a2,())
def zwy:Cfg E:=cf1 []
def zbj:zL E:=sp zwy Tryz.f73 ⟨[vI,vI,vI],[]⟩ ⟨[vB],[]⟩ [oI,oI,oI] [oB]
def Zh (a1:Int) (a2:Int) (a3:Int):Option (Bool×Unit):=zbj.F (a1,a2,a3,())
def zrf:Cfg E:=cf1 [(73,[zbj])]
def zdn:zL E:=sp zrf Tryz.f72 ⟨[.val (.named 3)],[]⟩ ⟨[vB],[]⟩ [.one (.named 3)] [oB]
def zdl (a1:zd):Option (Bool×Unit):=zdn.F (a1,())
def zuc:Cfg E:=cf1 [(73,[zbj])]
def zg1:zL E:=sp zuc Tryz.f75 ⟨[vI,.ptr 0],[.box false [vI]]⟩ ⟨[vB],[.gone]⟩ [oI,oI] [oB]
def zpx (a1:Int) (a2:Int):Option (Bool×Unit):=zg1.F (a1,a2,())
def Zu:zZ E:=lo [0,1,7,8] ⟨[vL,.fn 75 [.ptr 1],vI,vI],[.gone,.box false [vI]]⟩ 0 [] ⟨[],[.gone]⟩ [4] ⟨[vI],[.gone]⟩ [oL,oI,oI,oI] [] [oI]
def vh:Cfg E:=cf [(75,[zg1])] [(2,Zu)] [] [] [] []
def vE:zL E:=sp vh Tryz.f110 ⟨[vL,.fn 75 [.ptr 0]],[.box false [vI]]⟩ ⟨[vI],[.gone]⟩ [oL,oI] [oI]
def ZX (a1:zA) (a2:Int):Option (Int×Unit):=vE.F (a1,a2,())
def Zt (x:zA×Int×Int×Int×Unit):Option (yN (zA×Int×Int×Int×Unit) (Unit) (Int×Unit)):=yn vh (exec vh (yC Tryz.f110 2)) 19 Zu x
def Vd:Cfg E:=cf1 [(110,[vE])]
def vc:zL E:=sp Vd Tryz.f74 ⟨[vL,.fn 75 [.ptr 0]],[.box false [vI]]⟩ ⟨[vB],[.gone]⟩ [oL,oI] [oB]
def va (a1:zA) (a2:Int):Option (Bool×Unit):=vc.F (a1,a2,())
def zuK:Cfg E:=cf1 []
def zgY:zL E:=sp zuK Tryz.f159 ⟨[vI,.ptr 0],[.box false [vI]]⟩ ⟨[vB],[.gone]⟩ [oI,oI] [oB]
def yv (a1:Int) (a2:Int):Option (Bool×Unit):=zgY.F (a1,a2,())
def zxL:Cfg E:=cf1 [(159,[zgY])]
def zlY:zL E:=sp zxL Tryz.f113 ⟨[.val (.named 0),vI,vI],[]⟩ ⟨[vB],[]⟩ [.one (.named 0),oI,oI] [oB]
def zlE (a1:zE) (a2:Int) (a3:Int):Option (Bool×Unit):=zlY.F (a1,a2,a3,())
def zvR:Cfg E:=cf1 [(113,[zlY])]
def zjZ:zL E:=sp zvR Tryz.f112 ⟨[.val (.named 0),.ptr 0,.ptr 1],[.box false [vI],.box false [vI]]⟩ ⟨[vB],[.gone,.gone]⟩ [.one (.named 0),oI,oI] [oB]
def zq7 (a1:zE) (a2:Int) (a3:Int):Option (Bool×Unit):=zjZ.F (a1,a2,a3,())
def ug:zZ E:=lo [0,1,7,8] ⟨[.val (.slice (.named 0)),.fn 112 [.ptr 2,.ptr 3],vI,vI],[.gone,.gone,.box false [vI],.box false [vI]]⟩ 0 [] ⟨[],[.gone,.gone]⟩ [4] ⟨[vI],[.gone,.gone]⟩ [.one (.slice (.named 0)),oI,oI,oI,oI] [] [oI]
def wn:Cfg E:=cf [(112,[zjZ])] [(2,ug)] [] [] [] []
def wx:zL E:=sp wn Tryz.f158 ⟨[.val (.slice (.named 0)),.fn 112 [.ptr 0,.ptr 1]],[.box false [vI],.box false [vI]]⟩ ⟨[vI],[.gone,.gone]⟩ [.one (.slice (.named 0)),oI,oI] [oI]
def uI (a1:List zE) (a2:Int) (a3:Int):Option (Int×Unit):=wx.F (a1,a2,a3,())
def uh (x:(List zE)×Int×Int×Int×Int×Unit):Option (yN ((List zE)×Int×Int×Int×Int×Unit) (Unit) (Int×Unit)):=yn wn (exec wn (yC Tryz.f158 2)) 19 ug x
def Xf:Cfg E:=cf1 [(158,[wx])]
def wh:zL E:=sp Xf Tryz.f111 ⟨[.val (.slice (.named 0)),.fn 112 [.ptr 0,.ptr 1]],[.box false [vI],.box false [vI]]⟩ ⟨[vB],[.gone,.gone]⟩ [.one (.slice (.named 0)),oI,oI] [oB]
def ui (a1:List zE) (a2:Int) (a3:Int):Option (Bool×Unit):=wh.F (a1,a2,a3,())
def zzY:Cfg E:=cf1 [(111,[wh])]
def zoN:zL E:=sp zzY Tryz.f76 ⟨[.val (.slice (.named 0)),vI,vI],[]⟩ ⟨[vB],[]⟩ [.one (.slice (.named 0)),oI,oI] [oB]
def zoi (a1:List zE) (a2:Int) (a3:Int):Option (Bool×Unit):=zoN.F (a1,a2,a3,())
def zxp:Cfg E:=cf1 []
def zfr:zL E:=sp zxp Tryz.f46 ⟨[.val (.named 1)],[]⟩ ⟨[vB],[]⟩ [.one (.named 1)] [oB]
def zlZ (a1:zk):Option (Bool×Unit):=zfr.F (a1,())
def zvc:Cfg E:=cf1 [(46,[zfr])]
def zhP:zL E:=sp zvc Tryz.f115 ⟨[.val (.named 1),.ptr 0],[.box false [.map 1],.map [(1,vI),(2,vI)]]⟩ ⟨[vB],[.gone,.gone]⟩ [.one (.named 1),oI,oI] [oB]
def zo3 (a1:zk) (a2:Int) (a3:Int):Option (Bool×Unit):=zhP.F (a1,a2,a3,())
def vw:zZ E:=lo [0,1,7,8] ⟨[.val (.slice (.named 1)),.fn 115 [.ptr 2],vI,vI],[.gone,.gone,.box false [.map 3],.map [(1,vI),(2,vI)]]⟩ 0 [] ⟨[],[.gone,.gone]⟩ [4] ⟨[vI],[.gone,.gone]⟩ [.one (.slice (.named 1)),oI,oI,oI,oI] [] [oI]
def xT:Cfg E:=cf [(115,[zhP])] [(2,vw)] [] [] [] []
def x8:zL E:=sp xT Tryz.f160 ⟨[.val (.slice (.named 1)),.fn 115 [.ptr 0]],[.box false [.map 1],.map [(1,vI),(2,vI)]]⟩ ⟨[vI],[.gone,.gone]⟩ [.one (.slice (.named 1)),oI,oI] [oI]
def vR (a1:List zk) (a2:Int) (a3:Int):Option (Int×Unit):=x8.F (a1,a2,a3,())
def vA (x:(List zk)×Int×Int×Int×Int×Unit):Option (yN ((List zk)×Int×Int×Int×Int×Unit) (Unit) (Int×Unit)):=yn xT (exec xT (yC Tryz.f160 2)) 19 vw x
def YA:Cfg E:=cf1 [(160,[x8])]
def xP:zL E:=sp YA Tryz.f114 ⟨[.val (.slice (.named 1)),.fn 115 [.ptr 0]],[.box false [.map 1],.map [(1,vI),(2,vI)]]⟩ ⟨[vB],[.gone,.gone]⟩ [.one (.slice (.named 1)),oI,oI] [oB]
def vz (a1:List zk) (a2:Int) (a3:Int):Option (Bool×Unit):=xP.F (a1,a2,a3,())
def zyg:Cfg E:=cf1 [(114,[xP])]
def zmm:zL E:=sp zyg Tryz.f77 ⟨[.val (.slice (.named 1)),vI,vI],[]⟩ ⟨[vB],[]⟩ [.one (.slice (.named 1)),oI,oI] [oB]
def zmB (a1:List zk) (a2:Int) (a3:Int):Option (Bool×Unit):=zmm.F (a1,a2,a3,())
def znZ:zZ E:=lo [1,3,51,52,53] ⟨[.ptr 0,.ptr 1,.val zP,vI,vI],[.box true (L 3),.box true [vI]]⟩ 0 [1] ⟨[.ptr 0],[.box true (L 3)]⟩ [2] ⟨[vB],[]⟩ [.one zP,oI,oI,.str 3,oI] [.str 3] [oB]
def zhI:Cfg E:=cf [(53,[zcC]),(54,[Ul]),(63,[Uo]),(72,[zdn]),(73,[zbj]),(74,[vc]),(76,[zoN]),(77,[zmm])] [(5,znZ)] [] [] [] []
def zmw:zL E:=sp zhI Tryz.f26 ⟨[.val (.named 3)],[]⟩ ⟨[vB],[]⟩ [.one (.named 3)] [oB]
def zmH (a1:zd):Option (Bool×Unit):=zmw.F (a1,())
def znB (x:zC×Int×Int×zd×Int×Unit):Option (yN (zC×Int×Int×zd×Int×Unit) (zd×Unit) (Bool×Unit)):=yn zhI (exec zhI (yC Tryz.f26 5)) 95 znZ x
def zCH:Cfg E:=cf1 []
def znk:zL E:=sp zCH Tryz.f71 ⟨[vI],[]⟩ ⟨[vU],[]⟩ [oI] [oU]
def znL (a1:Int):Option (zB×Unit):=znk.F (a1,())
def zC5:Cfg E:=cf1 [(71,[znk])]
def zaJ:zL E:=sp zC5 Tryz.f24 ⟨[vU,vI],[]⟩ ⟨[vU],[]⟩ [oU,oI] [oU]
def YO (a1:zB) (a2:Int):Option (zB×Unit):=zaJ.F (a1,a2,())
def ztX:zZ E:=lo [3,6,7,8] ⟨[vU,vL,vI,vI],[]⟩ 0 [3] ⟨[vU],[]⟩ [] ⟨[],[]⟩ [oU,oL,oI,oI] [oU] []
def zp1:Cfg E:=cf [(24,[zaJ])] [(3,ztX)] [] [] [] []
def zhk:zL E:=sp zp1 Tryz.f78 ⟨[vL],[]⟩ ⟨[vU],[]⟩ [oL] [oU]
def zhX (a1:zA):Option (zB×Unit):=zhk.F (a1,())
def zoX (x:zB×zA×Int×Int×Unit):Option (yN (zB×zA×Int×Int×Unit) (zB×Unit) (Unit)):=yn zp1 (exec zp1 (yC Tryz.f78 3)) 17 ztX x
def znX:zZ E:=lo [3,9,10,11] ⟨[vU,.val zP,vI,vI],[]⟩ 0 [3] ⟨[vU],[]⟩ [] ⟨[],[]⟩ [oU,.one zP,oI,oI] [oU] []
def zgO:Cfg E:=cf [(78,[zhk])] [(3,znX)] [] [] [] []
def zfI:zL E:=sp zgO Tryz.f27 ⟨[.val (.named 3)],[]⟩ ⟨[vU],[]⟩ [.one (.named 3)] [oU]
def zgi (a1:zd):Option (zB×Unit):=zfI.F (a1,())
def zfS (x:zB×zC×Int×Int×Unit):Option (yN (zB×zC×Int×Int×Unit) (zB×Unit) (Unit)):=yn zgO (exec zgO (yC Tryz.f27 3)) 21 znX x
def zqJ:Cfg E:=cf1 []
def zcD:zL E:=sp zqJ Tryz.f79 ⟨[vU],[]⟩ ⟨[vI],[]⟩ [oU] [oI]
def ziS (a1:zB):Option (Int×Unit):=zcD.F (a1,())
def zzv:Cfg E:=cf1 [(79,[zcD])]
def zdU:zL E:=sp zzv Tryz.f28 ⟨[vU],[]⟩ ⟨[vI],[]⟩ [oU] [oI]
def zbq (a1:zB):Option (Int×Unit):=zdU.F (a1,())
def zxC:Cfg E:=cf1 []
def zmp:zL E:=sp zxC Tryz.f29 ⟨[vI],[]⟩ ⟨[.val (.named 10)],[]⟩ [oI] [.one (.named 10)]
def zlv (a1:Int):Option (zy×Unit):=zmp.F (a1,())
def zlg:Cfg E:=cf1 []
def xC:zL E:=sp zlg Tryz.f31 ⟨[vL],[]⟩ ⟨[.own 0],[.row true zp]⟩ [oL] [oL]
def yZ (a1:zA):Option (zA×Unit):=xC.F (a1,())
def ZC:zZ E:=lo [1,5,14,15] ⟨[.fn 31 [],.own 0,vI,vI],[.row true z7]⟩ 0 [5] ⟨[.own 0],[.row true z7]⟩ [] ⟨[],[]⟩ [oI,oI,.one zP] [.one zP] []
def vm:Cfg E:=cf [(31,[xC])] [(4,ZC)] [] [] [] []
def vQ:zL E:=sp vm Tryz.f30 ⟨[.val zP,.fn 31 []],[]⟩ ⟨[.own 0],[.row true z7]⟩ [.one zP] [.one zP]
def vO (a1:zC):Option (zC×Unit):=vQ.F (a1,())
def xn (x:Int×Int×zC×Unit):Option (yN (Int×Int×zC×Unit) (zC×Unit) (Unit)):=yn vm (exec vm (yC Tryz.f30 4)) 29 ZC x
def zw2:Cfg E:=cf1 []
def zj7:zL E:=sp zw2 Tryz.f32 ⟨[vI],[]⟩ ⟨[.own 0],[.row true (.int .u64)]⟩ [oI] [oM]
def zjK (a1:Int):Option ((List zB)×Unit):=zj7.F (a1,())
def zwK:Cfg E:=cf1 []
def zbi:zL E:=sp zwK Tryz.f33 ⟨L 0,[]⟩ ⟨[.val (.named 4)],[]⟩ [oI,oI,oI,oI] [.one (.named 4)]
def zd5 (a1:Int) (a2:Int) (a3:Int) (a4:Int):Option (zg×Unit):=zbi.F (a1,a2,a3,a4,())
def zvJ:Cfg E:=cf1 []
def XQ:zL E:=sp zvJ Tryz.f34 ⟨[.val (.named 3),vI],[]⟩ ⟨[vI],[]⟩ [.one (.named 3),oI] [oI]
def xG (a1:zd) (a2:Int):Option (Int×Unit):=XQ.F (a1,a2,())
def zzF:Cfg E:=cf1 []
def zoS:zL E:=sp zzF Tryz.f35 ⟨[.val (.named 3)],[]⟩ ⟨[vI],[]⟩ [.one (.named 3)] [oI]
def zik (a1:zd):Option (Int×Unit):=zoS.F (a1,())
def zlf:Cfg E:=cf1 []
def VF:zL E:=sp zlf Tryz.f36 ⟨[vL,vI],[]⟩ ⟨[.fn 80 [.ptr 0,.ptr 1]],[.box true [vL],.box true [vI]]⟩ [oL,oI] [oL,oI]
def zc7 (a1:zA) (a2:Int):Option (zA×Int×Unit):=VF.F (a1,a2,())
def zCb:Cfg E:=cf1 []
def zp9:zL E:=sp zCb Tryz.f81 ⟨[vU],[]⟩ ⟨[.fn 116 [.ptr 0]],[.box true [vU]]⟩ [oU] [oU]
def zwJ (a1:zB):Option (zB×Unit):=zp9.F (a1,())
def znq:zZ E:=lo [0,1] ⟨[.yld,.ptr 0],[.box true [vU]]⟩ 0 [0] ⟨[.yld],[]⟩ [0] ⟨[.yld],[]⟩ [oI,oI,oU] [oI,oI] [oI,oI]
def zvE:Cfg E:=cf [(117,[pTZ])] [(0,znq)] [] [] [] []
def zcE (ys:zA):Cfg E:={zvE with yl:=true,ye:=zp,yd:=ys}
def zpC:wq:=⟨[.ptr 0],[.box true [vU]]⟩
def zb7:Z0 E:={inn:=zpC,e:=zp,F:=fun x=>zat 66 x.1}
def zlX (a1:zB):Option zA:=zb7.F (a1,())
def zbU (ys:zA) (x:Int×Int×zB×Unit):Option (yN (Int×Int×zB×Unit) (Int×Int×Unit) (Int×Int×Unit)):=yn (zcE ys) (exec (zcE ys) (yC Tryz.f116 0)) 15 znq x
def zqW:zZ E:=lo [3] ⟨[.ptr 0],[.box true [.own 1],.row true zp]⟩ 0 [] ⟨[],[]⟩ [] ⟨[],[]⟩ [oL] [] []
def zfj:Cfg E:=cf [(81,[zp9])] [(3,zqW)] [] [] [] [(116,zb7)]
def zk8:zL E:=sp zfj Tryz.f37 ⟨[vU],[]⟩ ⟨[.own 0],[.row true zp]⟩ [oU] [oL]
def zfm (a1:zB):Option (zA×Unit):=zk8.F (a1,())
def zjC (y:Int) (x:zA×Unit):Option (zA×Unit):=zmu zfj (exec zfj (zHG Tryz.f37 3)) (exec zfj (zAk Tryz.f37 3)) 13 zqW 7 zp y x
def zBm:Cfg E:=cf1 []
def zp0:zL E:=sp zBm Tryz.f161 ⟨[vU],[]⟩ ⟨[vU,vB],[]⟩ [oU] [oU,oB]
def zvD (a1:zB):Option (zB×Bool×Unit):=zp0.F (a1,())
def zAz:Cfg E:=cf1 []
def zpZ:zL E:=sp zAz Tryz.f162 ⟨[vU,.ptr 0],[.box false (L 13)]⟩ ⟨[vU,vB],[.gone]⟩ [oU,.str 13] [oU,oB]
def zvz (a1:zB) (a2:Yd):Option (zB×Bool×Unit):=zpZ.F (a1,a2,())
def zCk:Cfg E:=cf1 []
def zqB:zL E:=sp zCk Tryz.f163 ⟨[vU,.ptr 0],[.box false (L 13)]⟩ ⟨[vU,vB],[.gone]⟩ [oU,.str 13] [oU,oB]
def zvV (a1:zB) (a2:Yd):Option (zB×Bool×Unit):=zqB.F (a1,a2,())
def zBc:Cfg E:=cf1 []
def zpV:zL E:=sp zBc Tryz.f164 ⟨[vU,.ptr 0],[.box false (L 13)]⟩ ⟨[vU,vB],[.gone]⟩ [oU,.str 13] [oU,oB]
def zw0 (a1:zB) (a2:Yd):Option (zB×Bool×Unit):=zpV.F (a1,a2,())
def ze1:Cfg E:=cf1 []
def YS:zL E:=sp ze1 Tryz.f165 ⟨[vM],[]⟩ ⟨[.own 0],[.row true (.int .u64)]⟩ [oM] [oM]
def wv (a1:List zB):Option ((List zB)×Unit):=YS.F (a1,())
def zEB:Cfg E:=cf1 [(161,[zp0]),(162,[zpZ]),(163,[zqB]),(164,[zpV]),(165,[YS])]
def zaX:zL E:=sp zEB Tryz.f118 ⟨[vM,.val (.named 13)],[]⟩ ⟨[vM,vU,vB],[]⟩ [oM,.one (.named 13)] [oM,oU,oB]
def XX (a1:List zB) (a2:Yd):Option ((List zB)×zB×Bool×Unit):=zaX.F (a1,a2,())
def zxe:Cfg E:=cf1 [(118,[zaX])]
def zd4:zL E:=sp zxe Tryz.f82 ⟨[vM,vI,vU],[]⟩ ⟨[vM],[]⟩ [oM,oI,oU] [oM]
def XR (a1:List zB) (a2:Int) (a3:zB):Option ((List zB)×Unit):=zd4.F (a1,a2,a3,())
def zxT:Cfg E:=cf1 []
def zgq:zL E:=sp zxT Tryz.f83 ⟨[vU,vI],[]⟩ ⟨[vU],[]⟩ [oU,oI] [oU]
def zaw (a1:zB) (a2:Int):Option (zB×Unit):=zgq.F (a1,a2,())
def zoZ:zZ E:=lo [0,1,2,3,13,14] ⟨[vM,vI,vI,vL,vI,vI],[]⟩ 0 [0,1,3] ⟨[vM,vI,vL],[]⟩ [] ⟨[],[]⟩ [oM,oI,oI,oL,oI,oI] [oM,oI,oL] []
def zjI:Cfg E:=cf [(82,[zd4]),(83,[zgq])] [(2,zoZ)] [] [] [] []
def zoC:zL E:=sp zjI Tryz.f38 ⟨[vM,vI,vI,vL],[]⟩ ⟨[vM],[]⟩ [oM,oI,oI,oL] [oM]
def zib (a1:List zB) (a2:Int) (a3:Int) (a4:zA):Option ((List zB)×Unit):=zoC.F (a1,a2,a3,a4,())
def zg8 (x:(List zB)×Int×Int×zA×Int×Int×Unit):Option (yN ((List zB)×Int×Int×zA×Int×Int×Unit) ((List zB)×Int×zA×Unit) (Unit)):=yn zjI (exec zjI (yC Tryz.f38 2)) 49 zoZ x
def zyf:Cfg E:=cf1 []
def XD:zL E:=sp zyf Tryz.f39 ⟨[.val (.named 3)],[]⟩ ⟨[vI],[]⟩ [.one (.named 3)] [oI]
def Xq (a1:zd):Option (Int×Unit):=XD.F (a1,())
def zvZ:Cfg E:=cf1 [(39,[XD])]
def XO:zL E:=sp zvZ Tryz.f41 ⟨[.val (.named 3)],[]⟩ ⟨[vI],[]⟩ [.one (.named 3)] [oI]
def X2 (a1:zd):Option (Int×Unit):=XO.F (a1,())
def zxq:Cfg E:=cf1 [(41,[XO])]
def Xn:zL E:=sp zxq Tryz.f40 ⟨[.val (.named 3)],[]⟩ ⟨[vI],[]⟩ [.one (.named 3)] [oI]
def Yy (a1:zd):Option (Int×Unit):=Xn.F (a1,())
def UO:zZ E:=lo [0,1,2,4] ⟨[.yld,.ptr 0,.ptr 1,vI],[.box true [vL],.box true [vI]]⟩ 0 [0] ⟨[.yld],[]⟩ [0] ⟨[.yld],[]⟩ [oI,oI,oI,oL,oI] [oI,oI] [oI,oI]
def zgx:Cfg E:=cf [] [(1,UO)] [] [] [] []
def Zl (ys:zC):Cfg E:={zgx with yl:=true,ye:=z7,yd:=ys}
def zav:wq:=⟨[.ptr 0,.ptr 1],[.box true [vL],.box true [vI]]⟩
def uo:Z0 E:={inn:=zav,e:=z7,F:=fun x=>zl4 x.1 x.2.1}
def zbg (a1:zA) (a2:Int):Option zC:=uo.F (a1,a2,())
def uX (ys:zC) (x:Int×Int×Int×zA×Int×Unit):Option (yN (Int×Int×Int×zA×Int×Unit) (Int×Int×Unit) (Int×Int×Unit)):=yn (Zl ys) (exec (Zl ys) (yC Tryz.f80 1)) 31 UO x
def zo2:zZ E:=lo [1,2,3,4,37,38] ⟨[.ptr 0,.ptr 1,vU,.ptr 2,vI,vI],[.box true (L 3),.box true (L 0++L 0++[vI,.own 3,vU,.own 4,.own 5,.own 6,vI,.own 7,.own 8,.own 9,vU,vU,vI,vI,vB,vB,vI,.own 10,vI,vI,vI,.own 11,.own 12,.own 13,vI,vI]),.box true (L 3++[vI,.own 14,.own 15,.own 16,vU,vU,vI,vI,vB,vB,vI,.own 17]++L 10++[.own 18,.own 19,vI,vI]),.row true z7,.row true z7,.row true (.slice (.named 0)),.row true (.named 1),.row true z7,.row true (.int .u64),.row true z7,.row true zp,.row true zp,.row true (.named 7),.row true (.named 8),.row true z7,.row true (.int .u64),.row true z7,.row true zp,.row true (.named 7),.row true (.named 8)]⟩ 0 [1,2,3,4] ⟨[.ptr 0,.ptr 1,vU,.ptr 2],[.box true (L 3),.box true (L 0++L 0++[vI,.own 3,vU,.own 4,.own 5,.own 6,vI,.own 7,.own 8,.own 9,vU,vU,vI,vI,vB,vB,vI,.own 10,vI,vI,vI,.own 11,.own 12,.own 13,vI,vI]),.box true (L 3++[vI,.own 14,.own 15,.own 16,vU,vU,vI,vI,vB,vB,vI,.own 17]++L 10++[.own 18,.own 19,vI,vI]),.row true z7,.row true z7,.row true (.slice (.named 0)),.row true (.named 1),.row true z7,.row true (.int .u64),.row true z7,.row true zp,.row true zp,.row true (.named 7),.row true (.named 8),.row true z7,.row true (.int .u64),.row true z7,.row true zp,.row true (.named 7),.row true (.named 8)]⟩ [] ⟨[],[]⟩ [oU,oI,oI,.str 3,oI,oI,oI,oI,oI,oI,oI,oI,oI,oU,oI,.str 9,oI,oI,oB,oB,oI,oI,oI,oI,.str 11,.str 3,oI,.str 9,oI,oI,oB,oB,oI,.str 10,.str 11,.one zP,.one zP,.one (.slice (.slice (.named 0))),.one (.slice (.named 1)),.one zP,oM,.one zP,oL,oL,.one (.slice (.named 7)),.one (.slice (.named 8)),.one zP,oM,.one zP,oL,.one (.slice (.named 7)),.one (.slice (.named 8))] [oU,.str 3,oI,oI,oI,oI,oI,oI,oI,oI,oI,oU,oI,.str 9,oI,oI,oB,oB,oI,oI,oI,oI,.str 11,.str 3,oI,.str 9,oI,oI,oB,oB,oI,.str 10,.str 11,.one zP,.one zP,.one (.slice (.slice (.named 0))),.one (.slice (.named 1)),.one zP,oM,.one zP,oL,oL,.one (.slice (.named 7)),.one (.slice (.named 8)),.one zP,oM,.one zP,oL,.one (.slice (.named 7)),.one (.slice (.named 8))] []
def znN:zZ E:=lo [1,2,3,4,6,72,73] ⟨[.ptr 0,.ptr 1,vU,.ptr 2,.own 3,vI,vI],[.box true (L 3),.box true (L 0++L 0++[vI,.own 4,vU,.own 5,.own 6,.own 7,vI,.own 8,.own 9,.own 10,vU,vU,vI,vI,vB,vB,vI,.own 11,vI,vI,vI,.own 12,.own 13,.own 14,vI,vI]),.box true (L 3++[vI,.own 15,.own 16,.own 17,vU,vU,vI,vI,vB,vB,vI,.own 18]++L 10++[.own 19,.own 20,vI,vI]),.row true zp,.row true z7,.row true z7,.row true (.slice (.named 0)),.row true (.named 1),.row true z7,.row true (.int .u64),.row true z7,.row true zp,.row true zp,.row true (.named 7),.row true (.named 8),.row true z7,.row true (.int .u64),.row true z7,.row true zp,.row true (.named 7),.row true (.named 8)]⟩ 2 [1,2,3,4,6] ⟨[.ptr 0,.ptr 1,vU,.ptr 2,.own 3],[.box true (L 3),.box true (L 0++L 0++[vI,.own 4,vU,.own 5,.own 6,.own 7,vI,.own 8,.own 9,.own 10,vU,vU,vI,vI,vB,vB,vI,.own 11,vI,vI,vI,.own 12,.own 13,.own 14,vI,vI]),.box true (L 3++[vI,.own 15,.own 16,.own 17,vU,vU,vI,vI,vB,vB,vI,.own 18]++L 10++[.own 19,.own 20,vI,vI]),.row true zp,.row true z7,.row true z7,.row true (.slice (.named 0)),.row true (.named 1),.row true z7,.row true (.int .u64),.row true z7,.row true zp,.row true zp,.row true (.named 7),.row true (.named 8),.row true z7,.row true (.int .u64),.row true z7,.row true zp,.row true (.named 7),.row true (.named 8)]⟩ [] ⟨[],[]⟩ [oU,oI,oI,.str 3,oI,oI,oI,oI,oI,oI,oI,oI,oI,oU,oI,.str 9,oI,oI,oB,oB,oI,oI,oI,oI,.str 11,.str 3,oI,.str 9,oI,oI,oB,oB,oI,.str 10,.str 11,oL,.one zP,.one zP,.one (.slice (.slice (.named 0))),.one (.slice (.named 1)),.one zP,oM,.one zP,oL,oL,.one (.slice (.named 7)),.one (.slice (.named 8)),.one zP,oM,.one zP,oL,.one (.slice (.named 7)),.one (.slice (.named 8))] [oU,.str 3,oI,oI,oI,oI,oI,oI,oI,oI,oI,oU,oI,.str 9,oI,oI,oB,oB,oI,oI,oI,oI,.str 11,.str 3,oI,.str 9,oI,oI,oB,oB,oI,.str 10,.str 11,oL,.one zP,.one zP,.one (.slice (.slice (.named 0))),.one (.slice (.named 1)),.one zP,oM,.one zP,oL,oL,.one (.slice (.named 7)),.one (.slice (.named 8)),.one zP,oM,.one zP,oL,.one (.slice (.named 7)),.one (.slice (.named 8))] []
def znK:zZ E:=lo [1,2,4,6] ⟨[.ptr 0,.ptr 1,.ptr 2,.own 3],[.box true (L 3),.box true (L 0++L 0++[vI,.own 4,vU,.own 5,.own 6,.own 7,vI,.own 8,.own 9,.own 10,vU,vU,vI,vI,vB,vB,vI,.own 11,vI,vI,vI,.own 12,.own 13,.own 14,vI,vI]),.box true (L 3++[vI,.own 15,.own 16,.own 17,vU,vU,vI,vI,vB,vB,vI,.own 18]++L 10++[.own 19,.own 20,vI,vI]),.row true zp,.row true z7,.row true z7,.row true (.slice (.named 0)),.row true (.named 1),.row true z7,.row true (.int .u64),.row true z7,.row true zp,.row true zp,.row true (.named 7),.row true (.named 8),.row true z7,.row true (.int .u64),.row true z7,.row true zp,.row true (.named 7),.row true (.named 8)]⟩ 0 [] ⟨[],[]⟩ [] ⟨[],[]⟩ [.str 3,oI,oI,oI,oI,oI,oI,oI,oI,oI,oU,oI,.str 9,oI,oI,oB,oB,oI,oI,oI,oI,.str 11,.str 3,oI,.str 9,oI,oI,oB,oB,oI,.str 10,.str 11,oL,.one zP,.one zP,.one (.slice (.slice (.named 0))),.one (.slice (.named 1)),.one zP,oM,.one zP,oL,oL,.one (.slice (.named 7)),.one (.slice (.named 8)),.one zP,oM,.one zP,oL,.one (.slice (.named 7)),.one (.slice (.named 8))] [] []
def znl:zZ E:=lo [2,4,134,135,136] ⟨[.ptr 0,.ptr 1,.val zP,vI,vI],[.box true (L 0++L 0++[vI,.own 2,vU,.own 3,.own 4,.own 5,vI,.own 6,.own 7,.own 8,vU,vU,vI,vI,vB,vB,vI,.own 9,vI,vI,vI,.own 10,.own 11,.own 12,vI,vI]),.box true (L 3++[vI,.own 13,vM,.own 14,vU,vU,vI,vI,vB,vB,vI,.own 15]++L 10++[.own 16,.own 17,vI,vI]),.row true z7,.row true z7,.row true (.slice (.named 0)),.row true (.named 1),.row true z7,.row true (.int .u64),.row true z7,.row true zp,.row true zp,.row true (.named 7),.row true (.named 8),.row true z7,.row true z7,.row true zp,.row true (.named 7),.row true (.named 8)]⟩ 6 [2,4] ⟨[.ptr 0,.ptr 1],[.box true (L 0++L 0++[vI,.own 2,vU,.own 3,.own 4,.own 5,vI,.own 6,.own 7,.own 8,vU,vU,vI,vI,vB,vB,vI,.own 9,vI,vI,vI,.own 10,.own 11,.own 12,vI,vI]),.box true (L 3++[vI,.own 13,vM,.own 14,vU,vU,vI,vI,vB,vB,vI,.own 15]++L 10++[.own 16,.own 17,vI,vI]),.row true z7,.row true z7,.row true (.slice (.named 0)),.row true (.named 1),.row true z7,.row true (.int .u64),.row true z7,.row true zp,.row true zp,.row true (.named 7),.row true (.named 8),.row true z7,.row true z7,.row true zp,.row true (.named 7),.row true (.named 8)]⟩ [] ⟨[],[]⟩ [.one zP,oI,oI,oI,oI,oI,oI,oI,oI,oI,oI,oI,oU,oI,.str 9,oI,oI,oB,oB,oI,oI,oI,oI,.str 11,.str 3,oI,oM,.str 9,oI,oI,oB,oB,oI,.str 10,.str 11,.one zP,.one zP,.one (.slice (.slice (.named 0))),.one (.slice (.named 1)),.one zP,oM,.one zP,oL,oL,.one (.slice (.named 7)),.one (.slice (.named 8)),.one zP,.one zP,oL,.one (.slice (.named 7)),.one (.slice (.named 8))] [oI,oI,oI,oI,oI,oI,oI,oI,oI,oU,oI,.str 9,oI,oI,oB,oB,oI,oI,oI,oI,.str 11,.str 3,oI,oM,.str 9,oI,oI,oB,oB,oI,.str 10,.str 11,.one zP,.one zP,.one (.slice (.slice (.named 0))),.one (.slice (.named 1)),.one zP,oM,.one zP,oL,oL,.one (.slice (.named 7)),.one (.slice (.named 8)),.one zP,.one zP,oL,.one (.slice (.named 7)),.one (.slice (.named 8))] []
def Zg:Cfg E:=cf [(26,[zmw]),(27,[zfI]),(28,[zdU]),(29,[zmp]),(30,[vQ]),(31,[xC]),(32,[zj7]),(33,[zbi]),(34,[XQ]),(35,[zoS]),(36,[VF]),(37,[zk8]),(38,[zoC]),(39,[XD]),(40,[Xn]),(41,[XO])] [(7,zo2),(15,znN),(20,znK),(28,znl)] [] [] [] [(80,uo)]
def zio:zL E:=sp Zg Tryz.f6 ⟨[.val (.named 3)],[]⟩ ⟨[.val (.named 12)],[]⟩ [.one (.named 3)] [.one (.named 12)]
def zh5 (a1:zd):Option (za×Unit):=zio.F (a1,())
def zcN (x:zB×Int×Int×zd×Int×Int×Int×Int×Int×Int×Int×Int×Int×zB×Int×zo×Int×Int×Bool×Bool×Int×Int×Int×Int×zN×zd×Int×zo×Int×Int×Bool×Bool×Int×zy×zN×zC×zC×(List (List zE))×(List zk)×zC×(List zB)×zC×zA×zA×(List zj)×(List ze)×zC×(List zB)×zC×zA×(List zj)×(List ze)×Unit):Option (yN (zB×Int×Int×zd×Int×Int×Int×Int×Int×Int×Int×Int×Int×zB×Int×zo×Int×Int×Bool×Bool×Int×Int×Int×Int×zN×zd×Int×zo×Int×Int×Bool×Bool×Int×zy×zN×zC×zC×(List (List zE))×(List zk)×zC×(List zB)×zC×zA×zA×(List zj)×(List ze)×zC×(List zB)×zC×zA×(List zj)×(List ze)×Unit) (zB×zd×Int×Int×Int×Int×Int×Int×Int×Int×Int×zB×Int×zo×Int×Int×Bool×Bool×Int×Int×Int×Int×zN×zd×Int×zo×Int×Int×Bool×Bool×Int×zy×zN×zC×zC×(List (List zE))×(List zk)×zC×(List zB)×zC×zA×zA×(List zj)×(List ze)×zC×(List zB)×zC×zA×(List zj)×(List ze)×Unit) (Unit)):=yn Zg (exec Zg (yC Tryz.f6 7)) 150 zo2 x
def zbL (x:zB×Int×Int×zd×Int×Int×Int×Int×Int×Int×Int×Int×Int×zB×Int×zo×Int×Int×Bool×Bool×Int×Int×Int×Int×zN×zd×Int×zo×Int×Int×Bool×Bool×Int×zy×zN×zA×zC×zC×(List (List zE))×(List zk)×zC×(List zB)×zC×zA×zA×(List zj)×(List ze)×zC×(List zB)×zC×zA×(List zj)×(List ze)×Unit):Option (yN (zB×Int×Int×zd×Int×Int×Int×Int×Int×Int×Int×Int×Int×zB×Int×zo×Int×Int×Bool×Bool×Int×Int×Int×Int×zN×zd×Int×zo×Int×Int×Bool×Bool×Int×zy×zN×zA×zC×zC×(List (List zE))×(List zk)×zC×(List zB)×zC×zA×zA×(List zj)×(List ze)×zC×(List zB)×zC×zA×(List zj)×(List ze)×Unit) (zB×zd×Int×Int×Int×Int×Int×Int×Int×Int×Int×zB×Int×zo×Int×Int×Bool×Bool×Int×Int×Int×Int×zN×zd×Int×zo×Int×Int×Bool×Bool×Int×zy×zN×zA×zC×zC×(List (List zE))×(List zk)×zC×(List zB)×zC×zA×zA×(List zj)×(List ze)×zC×(List zB)×zC×zA×(List zj)×(List ze)×Unit) (Unit)):=yn Zg (exec Zg (yC Tryz.f6 15)) 150 znN x
def zgr (y:zA) (x:zd×Int×Int×Int×Int×Int×Int×Int×Int×Int×zB×Int×zo×Int×Int×Bool×Bool×Int×Int×Int×Int×zN×zd×Int×zo×Int×Int×Bool×Bool×Int×zy×zN×zA×zC×zC×(List (List zE))×(List zk)×zC×(List zB)×zC×zA×zA×(List zj)×(List ze)×zC×(List zB)×zC×zA×(List zj)×(List ze)×Unit):Option (zd×Int×Int×Int×Int×Int×Int×Int×Int×Int×zB×Int×zo×Int×Int×Bool×Bool×Int×Int×Int×Int×zN×zd×Int×zo×Int×Int×Bool×Bool×Int×zy×zN×zA×zC×zC×(List (List zE))×(List zk)×zC×(List zB)×zC×zA×zA×(List zj)×(List ze)×zC×(List zB)×zC×zA×(List zj)×(List ze)×Unit):=zmu Zg (exec Zg (zHG Tryz.f6 20)) (exec Zg (zAk Tryz.f6 20)) 150 znK 87 z7 y x
def zbS (x:zC×Int×Int×Int×Int×Int×Int×Int×Int×Int×Int×Int×zB×Int×zo×Int×Int×Bool×Bool×Int×Int×Int×Int×zN×zd×Int×(List zB)×zo×Int×Int×Bool×Bool×Int×zy×zN×zC×zC×(List (List zE))×(List zk)×zC×(List zB)×zC×zA×zA×(List zj)×(List ze)×zC×zC×zA×(List zj)×(List ze)×Unit):Option (yN (zC×Int×Int×Int×Int×Int×Int×Int×Int×Int×Int×Int×zB×Int×zo×Int×Int×Bool×Bool×Int×Int×Int×Int×zN×zd×Int×(List zB)×zo×Int×Int×Bool×Bool×Int×zy×zN×zC×zC×(List (List zE))×(List zk)×zC×(List zB)×zC×zA×zA×(List zj)×(List ze)×zC×zC×zA×(List zj)×(List ze)×Unit) (Int×Int×Int×Int×Int×Int×Int×Int×Int×zB×Int×zo×Int×Int×Bool×Bool×Int×Int×Int×Int×zN×zd×Int×(List zB)×zo×Int×Int×Bool×Bool×Int×zy×zN×zC×zC×(List (List zE))×(List zk)×zC×(List zB)×zC×zA×zA×(List zj)×(List ze)×zC×zC×zA×(List zj)×(List ze)×Unit) (Unit)):=yn Zg (exec Zg (yC Tryz.f6 28)) 150 znl x
def zbn:zZ E:=lo [0,1,12,13] ⟨[vL,vL,vI,vI],[]⟩ 0 [] ⟨[],[]⟩ [4] ⟨[vB],[]⟩ [oL,oL,oI,oI] [] [oB]
def WA:Cfg E:=cf [] [(4,zbn)] [] [] [] []
def VE:zL E:=sp WA Tryz.f51 ⟨[vL,vL],[]⟩ ⟨[vB],[]⟩ [oL,oL] [oB]
def VH (a1:zA) (a2:zA):Option (Bool×Unit):=VE.F (a1,a2,())
def XT (x:zA×zA×Int×Int×Unit):Option (yN (zA×zA×Int×Int×Unit) (Unit) (Bool×Unit)):=yn WA (exec WA (yC Tryz.f51 4)) 26 zbn x
def wu:zZ E:=lo [1,2,15,16,17] ⟨[.val zP,.fn 51 [],.val zP,vI,vI],[]⟩ 0 [] ⟨[],[]⟩ [6] ⟨[vB],[]⟩ [.one zP,.one zP,oI,oI] [] [oB]
def xp:Cfg E:=cf [(51,[VE])] [(4,wu)] [] [] [] []
def xw:zL E:=sp xp Tryz.f50 ⟨[.val zP,.val zP,.fn 51 []],[]⟩ ⟨[vB],[]⟩ [.one zP,.one zP] [oB]
def xx (a1:zC) (a2:zC):Option (Bool×Unit):=xw.F (a1,a2,())
def xj (x:zC×zC×Int×Int×Unit):Option (yN (zC×zC×Int×Int×Unit) (Unit) (Bool×Unit)):=yn xp (exec xp (yC Tryz.f50 4)) 32 wu x
def zz5:Cfg E:=cf1 [(50,[xw])]
def zih:zL E:=sp zz5 Tryz.f10 ⟨[.val (.named 2),.val (.named 2)],[]⟩ ⟨[vB],[]⟩ [.one (.named 2),.one (.named 2)] [oB]
def zdY (a1:zw) (a2:zw):Option (Bool×Unit):=zih.F (a1,a2,())
def zC2:Cfg E:=cf1 [(71,[znk])]
def zeY:zL E:=sp zC2 Tryz.f52 ⟨[vU,vI],[]⟩ ⟨[vB],[]⟩ [oU,oI] [oB]
def zb9 (a1:zB) (a2:Int):Option (Bool×Unit):=zeY.F (a1,a2,())
def zxW:Cfg E:=cf1 [(24,[zaJ]),(52,[zeY])]
def zcb:zL E:=sp zxW Tryz.f89 ⟨[.val (.named 9),vI],[]⟩ ⟨[.val (.named 9),vB],[]⟩ [.one (.named 9),oI] [.one (.named 9),oB]
def zb6 (a1:zo) (a2:Int):Option (zo×Bool×Unit):=zcb.F (a1,a2,())
def zCI:Cfg E:=cf1 [(52,[zeY])]
def zi0:zL E:=sp zCI Tryz.f11 ⟨[.val (.named 9),vI],[]⟩ ⟨[vI],[]⟩ [.one (.named 9),oI] [oI]
def V1 (a1:zo) (a2:Int):Option (Int×Unit):=zi0.F (a1,a2,())
def zzu:Cfg E:=cf1 [(11,[zi0]),(24,[zaJ])]
def zbu:zL E:=sp zzu Tryz.f90 ⟨[.val (.named 9),vI],[]⟩ ⟨[.val (.named 9),vB],[]⟩ [.one (.named 9),oI] [.one (.named 9),oB]
def Uu (a1:zo) (a2:Int):Option (zo×Bool×Unit):=zbu.F (a1,a2,())
def zyu:Cfg E:=cf1 [(89,[zcb]),(90,[zbu])]
def zfd:zL E:=sp zyu Tryz.f91 ⟨[.val (.named 9),vI],[]⟩ ⟨[.val (.named 9),vB],[]⟩ [.one (.named 9),oI] [.one (.named 9),oB]
def zct (a1:zo) (a2:Int):Option (zo×Bool×Unit):=zfd.F (a1,a2,())
def zkf:zZ E:=lo [2,3,6,15] ⟨[.ptr 0,.ptr 1,.ptr 2,vI],[.box true [vU,vU],.box true [vU,vU],.box true [.nilfn,.fn 89 [],.fn 90 [],.fn 91 []]]⟩ 0 [] ⟨[],[]⟩ [4,5] ⟨[vI,vI],[]⟩ [oI,.str 9,.str 9] [] [oI,oI]
def zki:zZ E:=lo [2,3,6,7,8,15] ⟨[.ptr 0,.ptr 1,.ptr 2,vI,vI,vI],[.box true [vU,vU],.box true [vU,vU],.box true [.nilfn,.fn 89 [],.fn 90 [],.fn 91 []]]⟩ 2 [2,3,6,15] ⟨[.ptr 0,.ptr 1,.ptr 2,vI],[.box true [vU,vU],.box true [vU,vU],.box true [.nilfn,.fn 89 [],.fn 90 [],.fn 91 []]]⟩ [4,5] ⟨[vI,vI],[]⟩ [oI,oI,oI,.str 9,.str 9] [oI,.str 9,.str 9] [oI,oI]
def WT:Cfg E:=cf [(89,[zcb]),(90,[zbu]),(91,[zfd])] [(5,zkf),(8,zki)] [] [] [] []
def zhC:zL E:=sp WT Tryz.f47 ⟨[.val (.named 9),.val (.named 9)],[]⟩ ⟨[vI,vI],[]⟩ [.one (.named 9),.one (.named 9)] [oI,oI]
def zhy (a1:zo) (a2:zo):Option (Int×Int×Unit):=zhC.F (a1,a2,())
def zdj (x:Int×zo×zo×Unit):Option (yN (Int×zo×zo×Unit) (Unit) (Int×Int×Unit)):=yn WT (exec WT (yC Tryz.f47 5)) 42 zkf x
def uD (x:Int×Int×Int×zo×zo×Unit):Option (yN (Int×Int×Int×zo×zo×Unit) (Int×zo×zo×Unit) (Int×Int×Unit)):=yn WT (exec WT (yC Tryz.f47 8)) 42 zki x
def zjD:Cfg E:=cf1 []
def WV:zL E:=sp zjD Tryz.f92 ⟨[.val zP],[]⟩ ⟨[.full z7],[]⟩ [.one zP] [.one zP]
def WY (a1:zC):Option (zC×Unit):=WV.F (a1,())
def zxU:Cfg E:=cf1 [(53,[zcC]),(92,[WV])]
def ze8:zL E:=sp zxU Tryz.f48 ⟨[.val (.named 2),vI],[]⟩ ⟨[.val (.named 2),vI,vI],[]⟩ [.one (.named 2),oI] [.one (.named 2),oI,oI]
def zgl (a1:zw) (a2:Int):Option (zw×Int×Int×Unit):=ze8.F (a1,a2,())
def zmh:zZ E:=lo [3,5,6,26,27,28] ⟨[.ptr 0,vI,vI,.val zP,vI,vI],[.box true [vI,.val zP]]⟩ 0 [5,6] ⟨[vI,vI],[]⟩ [4] ⟨[vI],[]⟩ [oI,oI,.one zP,oI,oI,.str 2] [oI,oI] [oI]
def zkd:zZ E:=lo [3,5,6,7,26,27,28,42,43,44] ⟨[.ptr 0,vI,vI,vI,.val zP,vI,vI,vL,vI,vI],[.box true [vI,.val zP]]⟩ 2 [3,5,6,26,27,28] ⟨[.ptr 0,vI,vI,.val zP,vI,vI],[.box true [vI,.val zP]]⟩ [] ⟨[],[]⟩ [oI,oI,oI,.one zP,oI,oI,oL,oI,oI,.str 2] [oI,oI,.one zP,oI,oI,.str 2] []
def VZ:Cfg E:=cf [] [(5,zmh),(10,zkd)] [] [] [] []
def zjE:zL E:=sp VZ Tryz.f49 ⟨[.val (.named 2),.val (.named 2)],[]⟩ ⟨[vI],[]⟩ [.one (.named 2),.one (.named 2)] [oI]
def VV (a1:zw) (a2:zw):Option (Int×Unit):=zjE.F (a1,a2,())
def zex (x:Int×Int×zC×Int×Int×zw×Unit):Option (yN (Int×Int×zC×Int×Int×zw×Unit) (Int×Int×Unit) (Int×Unit)):=yn VZ (exec VZ (yC Tryz.f49 5)) 68 zmh x
def UW (x:Int×Int×Int×zC×Int×Int×zA×Int×Int×zw×Unit):Option (yN (Int×Int×Int×zC×Int×Int×zA×Int×Int×zw×Unit) (Int×Int×zC×Int×Int×zw×Unit) (Unit)):=yn VZ (exec VZ (yC Tryz.f49 10)) 68 zkd x
def zAy:Cfg E:=cf1 [(10,[zih]),(47,[zhC]),(48,[ze8]),(49,[zjE])]
def zfY:zL E:=sp zAy Tryz.f9 ⟨[.val (.named 12),.val (.named 12)],[]⟩ ⟨[vI,vI],[]⟩ [.one (.named 12),.one (.named 12)] [oI,oI]
def V5 (a1:za) (a2:za):Option (Int×Int×Unit):=zfY.F (a1,a2,())
def zeL:zZ E:=lo [0,2,3,4] ⟨[.val (.slice (.slice (.named 0))),.ptr 0,.ptr 1,vI],[.box true (L 0++L 0++[vI,.own 2,vU,.own 3,.own 4,.own 5]),.box true (L 0++L 0++[vI,.own 6,vU,.own 7,.own 8,.own 9]),.row true z7,.row true z7,.row true (.slice (.named 0)),.row true (.named 1),.row true z7,.row true z7,.row true (.slice (.named 0)),.row true (.named 1)]⟩ 0 [2,3] ⟨[.ptr 0,.ptr 1],[.box true (L 0++L 0++[vI,.own 2,vU,.own 3,.own 4,.own 5]),.box true (L 0++L 0++[vI,.own 6,vU,.own 7,.own 8,.own 9]),.row true z7,.row true z7,.row true (.slice (.named 0)),.row true (.named 1),.row true z7,.row true z7,.row true (.slice (.named 0)),.row true (.named 1)]⟩ [] ⟨[],[]⟩ [.one (.slice (.slice (.named 0))),oI,oI,oI,oI,oI,oI,oI,oI,oI,oI,oU,oI,oI,oI,oI,oI,oI,oI,oI,oI,oU,.one zP,.one zP,.one (.slice (.slice (.named 0))),.one (.slice (.named 1)),.one zP,.one zP,.one (.slice (.slice (.named 0))),.one (.slice (.named 1))] [oI,oI,oI,oI,oI,oI,oI,oI,oI,oU,oI,oI,oI,oI,oI,oI,oI,oI,oI,oU,.one zP,.one zP,.one (.slice (.slice (.named 0))),.one (.slice (.named 1)),.one zP,.one zP,.one (.slice (.slice (.named 0))),.one (.slice (.named 1))] []
def zaM:Cfg E:=cf [] [(3,zeL)] [] [] [] []
def zcc:zL E:=sp zaM Tryz.f12 ⟨[.val (.slice (.slice (.named 0)))],[]⟩ ⟨[.val (.named 3)],[]⟩ [.one (.slice (.slice (.named 0)))] [.one (.named 3)]
def zcg (a1:List (List zE)):Option (zd×Unit):=zcc.F (a1,())
def zeE (x:(List (List zE))×Int×Int×Int×Int×Int×Int×Int×Int×Int×Int×zB×Int×Int×Int×Int×Int×Int×Int×Int×Int×zB×zC×zC×(List (List zE))×(List zk)×zC×zC×(List (List zE))×(List zk)×Unit):Option (yN ((List (List zE))×Int×Int×Int×Int×Int×Int×Int×Int×Int×Int×zB×Int×Int×Int×Int×Int×Int×Int×Int×Int×zB×zC×zC×(List (List zE))×(List zk)×zC×zC×(List (List zE))×(List zk)×Unit) (Int×Int×Int×Int×Int×Int×Int×Int×Int×zB×Int×Int×Int×Int×Int×Int×Int×Int×Int×zB×zC×zC×(List (List zE))×(List zk)×zC×zC×(List (List zE))×(List zk)×Unit) (Unit)):=yn zaM (exec zaM (yC Tryz.f12 3)) 35 zeL x
def zrj:Cfg E:=cf [] [] [] [(0,some 0)] [] []
def zdi:zL E:=sp zrj Tryz.f84 ⟨[.ptr 0],[.box true (L 12)]⟩ ⟨[],[.box true (L 12)]⟩ [.str 12] [.str 12]
def UU (a1:za):Option (za×Unit):=zdi.F (a1,())
def zv4:Cfg E:=cf1 [(84,[zdi])]
def zjt:zL E:=sp zv4 Tryz.f43 ⟨[.val (.named 12)],[]⟩ ⟨[.val (.named 12)],[]⟩ [.one (.named 12)] [.one (.named 12)]
def zjB (a1:za):Option (za×Unit):=zjt.F (a1,())
def zto:Cfg E:=cf1 [(43,[zjt])]
def zgs:zL E:=sp zto Tryz.f42 ⟨[.val (.named 12),vI],[]⟩ ⟨[.val (.named 12)],[]⟩ [.one (.named 12),oI] [.one (.named 12)]
def znw (a1:za) (a2:Int):Option (za×Unit):=zgs.F (a1,a2,())
def zyx:Cfg E:=cf1 []
def WU:zL E:=sp zyx Tryz.f217 ⟨[vU],[]⟩ ⟨[vI],[]⟩ [oU] [oI]
def Xy (a1:zB):Option (Int×Unit):=WU.F (a1,())
def zxX:Cfg E:=cf1 [(118,[zaX])]
def zcB:zL E:=sp zxX Tryz.f218 ⟨[vM,vI],[]⟩ ⟨[vU],[]⟩ [oM,oI] [oU]
def zaB (a1:List zB) (a2:Int):Option (zB×Unit):=zcB.F (a1,a2,())
def zmq:Cfg E:=cf [(217,[WU]),(218,[zcB])] [] [] [(0,some 0)] [] []
def Ux:zL E:=sp zmq Tryz.f205 ⟨[.ptr 0,vM],[.box true (L 5)]⟩ ⟨[vM],[.box true (L 5)]⟩ [oM,.str 5] [oM,.str 5]
def uw (a1:List zB) (a2:zV):Option ((List zB)×zV×Unit):=Ux.F (a1,a2,())
def zop:Cfg E:=cf1 [(82,[zd4]),(217,[WU])]
def za7:zL E:=sp zop Tryz.f206 ⟨[.ptr 0,vM],[.box false (L 5)]⟩ ⟨[vM],[.gone]⟩ [oM,.str 5] [oM]
def Wp (a1:List zB) (a2:zV):Option ((List zB)×Unit):=za7.F (a1,a2,())
def zkx:Cfg E:=cf [(83,[zgq]),(118,[zaX]),(217,[WU])] [] [] [(0,some 0)] [] []
def VD:zL E:=sp zkx Tryz.f207 ⟨[.ptr 0,vM],[.box true (L 5)]⟩ ⟨[vM],[.box true (L 5)]⟩ [oM,.str 5] [oM,.str 5]
def vY (a1:List zB) (a2:zV):Option ((List zB)×zV×Unit):=VD.F (a1,a2,())
def ziD:Cfg E:=cf [(217,[WU]),(218,[zcB])] [] [] [(0,some 0)] [] []
def Wv:zL E:=sp ziD Tryz.f208 ⟨[.ptr 0,vM],[.box true (L 5)]⟩ ⟨[vM],[.box true (L 5)]⟩ [oM,.str 5] [oM,.str 5]
def Ym (a1:List zB) (a2:zV):Option ((List zB)×zV×Unit):=Wv.F (a1,a2,())
def zxk:Cfg E:=cf1 [(205,[Ux]),(206,[za7]),(207,[VD]),(208,[Wv])]
def W2:zL E:=sp zxk Tryz.f166 ⟨[vM,.val (.named 5)],[]⟩ ⟨[vM,.val (.named 5)],[]⟩ [oM,.one (.named 5)] [oM,.one (.named 5)]
def W1 (a1:List zB) (a2:zV):Option ((List zB)×zV×Unit):=W2.F (a1,a2,())
def zn8:Cfg E:=cf [(166,[W2])] [] [] [(0,some 0)] [] []
def zaL:zL E:=sp zn8 Tryz.f119 ⟨[.ptr 0],[.box true (L 14)]⟩ ⟨[vI],[.box true (L 14)]⟩ [.str 14] [oI,.str 14]
def Zo (a1:z3):Option (Int×z3×Unit):=zaL.F (a1,())
def zoD:Cfg E:=cf [] [] [] [(0,some 0)] [] []
def Wx:zL E:=sp zoD Tryz.f126 ⟨[.ptr 0,vI],[.box true (L 14)]⟩ ⟨[],[.box true (L 14)]⟩ [oI,.str 14] [.str 14]
def Wq (a1:Int) (a2:z3):Option (z3×Unit):=Wx.F (a1,a2,())
def zbK:Cfg E:=cf1 []
def zhU:zL E:=sp zbK Tryz.f209 ⟨[vI],[]⟩ ⟨[.bsl 0 4],[.box true [.fn 229 [],.fn 230 [],.fn 231 [],.fn 232 []]]⟩ [oI] []
def zo0 (a1:Int):Option (Unit):=zhU.F (a1,())
def zgW:zL E:=sp zbK Tryz.f209 ⟨[vI],[]⟩ ⟨[.bsl 0 7],[.box true [.fn 229 [],.fn 233 [],.fn 234 [],.fn 235 [],.fn 236 [],.fn 237 [],.fn 238 []]]⟩ [oI] []
def zpE (a1:Int):Option (Unit):=zgW.F (a1,())
def zhq:zL E:=sp zbK Tryz.f209 ⟨[vI],[]⟩ ⟨[.bsl 0 4],[.box true [.fn 239 [],.fn 240 [],.fn 241 [],.fn 242 []]]⟩ [oI] []
def zpf (a1:Int):Option (Unit):=zhq.F (a1,())
def zhT:zL E:=sp zbK Tryz.f209 ⟨[vI],[]⟩ ⟨[.own 0],[.row true .bool]⟩ [oI] [.one (.slice .bool)]
def zo6 (a1:Int):Option ((List Bool)×Unit):=zhT.F (a1,())
def zxM:Cfg E:=cf1 [(118,[zaX])]
def ZR:zL E:=sp zxM Tryz.f221 ⟨[vM,vI],[]⟩ ⟨[vU],[]⟩ [oM,oI] [oU]
def uk (a1:List zB) (a2:Int):Option (zB×Unit):=ZR.F (a1,a2,())
def zlC:Cfg E:=cf1 []
def xZ:zL E:=sp zlC Tryz.f223 ⟨[.ptr 0],[.box false (L 4)]⟩ ⟨[vI],[.gone]⟩ [.str 4] [oI]
def wA (a1:zg):Option (Int×Unit):=xZ.F (a1,())
def zfp:Cfg E:=cf [(221,[ZR]),(223,[xZ])] [] [] [(0,some 0)] [] []
def Xc:zL E:=sp zfp Tryz.f229 ⟨[.ptr 0,vM],[.box true (L 4)]⟩ ⟨[vM],[.box true (L 4)]⟩ [oM,.str 4] [oM,.str 4]
def vK (a1:List zB) (a2:zg):Option ((List zB)×zg×Unit):=Xc.F (a1,a2,())
def zpv:Cfg E:=cf1 []
def uG:zL E:=sp zpv Tryz.f222 ⟨[.ptr 0],[.box false (L 4)]⟩ ⟨[vI],[.gone]⟩ [.str 4] [oI]
def ZN (a1:zg):Option (Int×Unit):=uG.F (a1,())
def zos:Cfg E:=cf1 []
def YF:zL E:=sp zos Tryz.f225 ⟨[.ptr 0],[.box false (L 4)]⟩ ⟨[vU],[.gone]⟩ [.str 4] [oU]
def yr (a1:zg):Option (zB×Unit):=YF.F (a1,())
def zmJ:Cfg E:=cf [] [] [] [(0,some 0)] [] []
def wD:zL E:=sp zmJ Tryz.f254 ⟨[.ptr 0,vI],[.box true (L 4)]⟩ ⟨[],[.box true (L 4)]⟩ [oI,.str 4] [.str 4]
def wB (a1:Int) (a2:zg):Option (zg×Unit):=wD.F (a1,a2,())
def zkP:Cfg E:=cf [(221,[ZR]),(222,[uG]),(225,[YF]),(254,[wD])] [] [] [(0,some 0)] [] []
def VK:zL E:=sp zkP Tryz.f230 ⟨[.ptr 0,vM],[.box true (L 4)]⟩ ⟨[vM],[.box true (L 4)]⟩ [oM,.str 4] [oM,.str 4]
def VB (a1:List zB) (a2:zg):Option ((List zB)×zg×Unit):=VK.F (a1,a2,())
def zm1:Cfg E:=cf1 [(225,[YF])]
def uR:zL E:=sp zm1 Tryz.f226 ⟨[.ptr 0,vU],[.box false (L 4)]⟩ ⟨[vI],[.gone]⟩ [oU,.str 4] [oI]
def uU (a1:zB) (a2:zg):Option (Int×Unit):=uR.F (a1,a2,())
def zv0:Cfg E:=cf1 [(118,[zaX])]
def XU:zL E:=sp zv0 Tryz.f255 ⟨[vM,vI,vU],[]⟩ ⟨[vM],[]⟩ [oM,oI,oU] [oM]
def XZ (a1:List zB) (a2:Int) (a3:zB):Option ((List zB)×Unit):=XU.F (a1,a2,a3,())
def zpw:Cfg E:=cf1 [(226,[uR]),(255,[XU])]
def zbB:zL E:=sp zpw Tryz.f231 ⟨[.ptr 0,vM],[.box false (L 4)]⟩ ⟨[vM],[.gone]⟩ [oM,.str 4] [oM]
def zbC (a1:List zB) (a2:zg):Option ((List zB)×Unit):=zbB.F (a1,a2,())
def zg0:Cfg E:=cf [(223,[xZ]),(254,[wD]),(255,[XU])] [] [] [(0,some 0)] [] []
def X4:zL E:=sp zg0 Tryz.f232 ⟨[.ptr 0,vM],[.box true (L 4)]⟩ ⟨[vM],[.box true (L 4)]⟩ [oM,.str 4] [oM,.str 4]
def XW (a1:List zB) (a2:zg):Option ((List zB)×zg×Unit):=X4.F (a1,a2,())
def znf:Cfg E:=cf1 [(223,[xZ]),(255,[XU])]
def zae:zL E:=sp znf Tryz.f233 ⟨[.ptr 0,vM],[.box false (L 4)]⟩ ⟨[vM],[.gone]⟩ [oM,.str 4] [oM]
def zeF (a1:List zB) (a2:zg):Option ((List zB)×Unit):=zae.F (a1,a2,())
def zwg:Cfg E:=cf1 []
def zbh:zL E:=sp zwg Tryz.f224 ⟨[vU,vU],[]⟩ ⟨[vB],[]⟩ [oU,oU] [oB]
def xO (a1:zB) (a2:zB):Option (Bool×Unit):=zbh.F (a1,a2,())
def zjj:Cfg E:=cf [(221,[ZR]),(222,[uG]),(224,[zbh])] [] [] [(0,some 0)] [] []
def Wm:zL E:=sp zjj Tryz.f234 ⟨[.ptr 0,vM],[.box true (L 4)]⟩ ⟨[vM],[.box true (L 4)]⟩ [oM,.str 4] [oM,.str 4]
def zbM (a1:List zB) (a2:zg):Option ((List zB)×zg×Unit):=Wm.F (a1,a2,())
def zmv:Cfg E:=cf [(221,[ZR]),(226,[uR]),(254,[wD])] [] [] [(0,some 0)] [] []
def Uq:zL E:=sp zmv Tryz.f235 ⟨[.ptr 0,vM],[.box true (L 4)]⟩ ⟨[vM],[.box true (L 4)]⟩ [oM,.str 4] [oM,.str 4]
def zdD (a1:List zB) (a2:zg):Option ((List zB)×zg×Unit):=Uq.F (a1,a2,())
def zoV:Cfg E:=cf1 [(118,[zaX]),(222,[uG])]
def WF:zL E:=sp zoV Tryz.f256 ⟨[.ptr 0,vM],[.box false (L 4)]⟩ ⟨[vM,vB],[.gone]⟩ [oM,.str 4] [oM,oB]
def Wo (a1:List zB) (a2:zg):Option ((List zB)×Bool×Unit):=WF.F (a1,a2,())
def zla:Cfg E:=cf [(256,[WF])] [] [] [(0,some 0)] [] []
def VJ:zL E:=sp zla Tryz.f236 ⟨[.ptr 0,vM],[.box true (L 4)]⟩ ⟨[vM],[.box true (L 4)]⟩ [oM,.str 4] [oM,.str 4]
def zc6 (a1:List zB) (a2:zg):Option ((List zB)×zg×Unit):=VJ.F (a1,a2,())
def zkY:Cfg E:=cf [(223,[xZ]),(254,[wD]),(255,[XU])] [] [] [(0,some 0)] [] []
def VA:zL E:=sp zkY Tryz.f237 ⟨[.ptr 0,vM],[.box true (L 4)]⟩ ⟨[vM],[.box true (L 4)]⟩ [oM,.str 4] [oM,.str 4]
def zc3 (a1:List zB) (a2:zg):Option ((List zB)×zg×Unit):=VA.F (a1,a2,())
def zmt:Cfg E:=cf [(223,[xZ]),(254,[wD]),(255,[XU])] [] [] [(0,some 0)] [] []
def UK:zL E:=sp zmt Tryz.f238 ⟨[.ptr 0,vM],[.box true (L 4)]⟩ ⟨[vM],[.box true (L 4)]⟩ [oM,.str 4] [oM,.str 4]
def zdA (a1:List zB) (a2:zg):Option ((List zB)×zg×Unit):=UK.F (a1,a2,())
def zml:Cfg E:=cf [(221,[ZR]),(222,[uG])] [] [] [(0,some 0)] [] []
def UJ:zL E:=sp zml Tryz.f239 ⟨[.ptr 0,vM],[.box true (L 4)]⟩ ⟨[vM],[.box true (L 4)]⟩ [oM,.str 4] [oM,.str 4]
def zdL (a1:List zB) (a2:zg):Option ((List zB)×zg×Unit):=UJ.F (a1,a2,())
def zmy:Cfg E:=cf [(221,[ZR]),(223,[xZ]),(224,[zbh])] [] [] [(0,some 0)] [] []
def UB:zL E:=sp zmy Tryz.f240 ⟨[.ptr 0,vM],[.box true (L 4)]⟩ ⟨[vM],[.box true (L 4)]⟩ [oM,.str 4] [oM,.str 4]
def zd1 (a1:List zB) (a2:zg):Option ((List zB)×zg×Unit):=UB.F (a1,a2,())
def zkT:Cfg E:=cf [(221,[ZR]),(226,[uR])] [] [] [(0,some 0)] [] []
def Vy:zL E:=sp zkT Tryz.f241 ⟨[.ptr 0,vM],[.box true (L 4)]⟩ ⟨[vM],[.box true (L 4)]⟩ [oM,.str 4] [oM,.str 4]
def zc8 (a1:List zB) (a2:zg):Option ((List zB)×zg×Unit):=Vy.F (a1,a2,())
def ziA:Cfg E:=cf [(254,[wD]),(256,[WF])] [] [] [(0,some 0)] [] []
def WH:zL E:=sp ziA Tryz.f242 ⟨[.ptr 0,vM],[.box true (L 4)]⟩ ⟨[vM],[.box true (L 4)]⟩ [oM,.str 4] [oM,.str 4]
def zbW (a1:List zB) (a2:zg):Option ((List zB)×zg×Unit):=WH.F (a1,a2,())
def zxr:Cfg E:=cf [(209,[zhU,zgW,zhq,zhT]),(229,[Xc]),(230,[VK]),(231,[zbB]),(232,[X4]),(233,[zae]),(234,[Wm]),(235,[Uq]),(236,[VJ]),(237,[VA]),(238,[UK]),(239,[UJ]),(240,[UB]),(241,[Vy]),(242,[WH])] [] [] [] [(1,2,[0,1,2,3])] []
def zfF:zL E:=sp zxr Tryz.f167 ⟨[vM,.val (.named 4)],[]⟩ ⟨[vM,.val (.named 4)],[]⟩ [oM,.one (.named 4)] [oM,.one (.named 4)]
def zcn (a1:List zB) (a2:zg):Option ((List zB)×zg×Unit):=zfF.F (a1,a2,())
def ztJ:Cfg E:=cf1 [(33,[zbi]),(34,[XQ])]
def zb2:zL E:=sp ztJ Tryz.f169 ⟨[.ptr 0,vI,vI],[.box false (L 14)]⟩ ⟨[.val (.named 4)],[.gone]⟩ [oI,oI,.str 14] [.one (.named 4)]
def zfJ (a1:Int) (a2:Int) (a3:z3):Option (zg×Unit):=zb2.F (a1,a2,a3,())
def zwi:Cfg E:=cf1 []
def VP:zL E:=sp zwi Tryz.f210 ⟨L 0,[]⟩ ⟨[.val (.named 5)],[]⟩ [oI,oI,oI,oI] [.one (.named 5)]
def zbl (a1:Int) (a2:Int) (a3:Int) (a4:Int):Option (zV×Unit):=VP.F (a1,a2,a3,a4,())
def zrc:Cfg E:=cf1 [(40,[Xn]),(210,[VP])]
def UX:zL E:=sp zrc Tryz.f171 ⟨[.ptr 0,vI,vI,vI],[.box false (L 14)]⟩ ⟨[.val (.named 5)],[.gone]⟩ [oI,oI,oI,.str 14] [.one (.named 5)]
def zdm (a1:Int) (a2:Int) (a3:Int) (a4:z3):Option (zV×Unit):=UX.F (a1,a2,a3,a4,())
def zoQ:Cfg E:=cf [(39,[XD]),(169,[zb2]),(171,[UX])] [] [] [(0,some 0)] [] []
def za5:zL E:=sp zoQ Tryz.f168 ⟨[.ptr 0],[.box true (L 14)]⟩ ⟨[],[.box true (L 14)]⟩ [.str 14] [.str 14]
def WB (a1:z3):Option (z3×Unit):=za5.F (a1,())
def zpb:Cfg E:=cf [(126,[Wx]),(167,[zfF]),(168,[za5])] [] [] [(0,some 0)] [] []
def zbF:zL E:=sp zpb Tryz.f120 ⟨[.ptr 0],[.box true (L 14)]⟩ ⟨[],[.box true (L 14)]⟩ [.str 14] [.str 14]
def Vr (a1:z3):Option (z3×Unit):=zbF.F (a1,())
def znj:Cfg E:=cf [(169,[zb2])] [] [] [(0,some 0)] [] []
def zax:zL E:=sp znj Tryz.f121 ⟨[.ptr 0],[.box true (L 14)]⟩ ⟨[],[.box true (L 14)]⟩ [.str 14] [.str 14]
def uM (a1:z3):Option (z3×Unit):=zax.F (a1,())
def zis:Cfg E:=cf1 []
def vv:zL E:=sp zis Tryz.f170 ⟨[.val zP],[]⟩ ⟨[.own 0],[.row true z7]⟩ [.one zP] [.one zP]
def vu (a1:zC):Option (zC×Unit):=vv.F (a1,())
def zoP:Cfg E:=cf [(41,[XO]),(170,[vv]),(171,[UX])] [] [] [(0,some 0)] [] []
def zaQ:zL E:=sp zoP Tryz.f122 ⟨[.ptr 0],[.box true (L 14)]⟩ ⟨[],[.box true (L 14)]⟩ [.str 14] [.str 14]
def za6 (a1:z3):Option (z3×Unit):=zaQ.F (a1,())
def ztz:Cfg E:=cf1 []
def zbY:zL E:=sp ztz Tryz.f125 ⟨[.ptr 0],[.box false (L 14)]⟩ ⟨[vI],[.gone]⟩ [.str 14] [oI]
def VW (a1:z3):Option (Int×Unit):=zbY.F (a1,())
def zrm:Cfg E:=cf1 []
def UZ:zL E:=sp zrm Tryz.f211 ⟨[.val (.named 2),vI,vI],[]⟩ ⟨[vB],[]⟩ [.one (.named 2),oI,oI] [oB]
def U3 (a1:zw) (a2:Int) (a3:Int):Option (Bool×Unit):=UZ.F (a1,a2,a3,())
def zB7:Cfg E:=cf1 [(211,[UZ])]
def zfo:zL E:=sp zB7 Tryz.f172 ⟨[.val (.named 2),vI,vI],[]⟩ ⟨[vI,vB],[]⟩ [.one (.named 2),oI,oI] [oI,oB]
def zfU (a1:zw) (a2:Int) (a3:Int):Option (Int×Bool×Unit):=zfo.F (a1,a2,a3,())
def zxi:Cfg E:=cf1 []
def zci:zL E:=sp zxi Tryz.f173 ⟨[vI,vI,vI],[]⟩ ⟨[.val (.named 6)],[]⟩ [oI,oI,oI] [.one (.named 6)]
def zck (a1:Int) (a2:Int) (a3:Int):Option (zK×Unit):=zci.F (a1,a2,a3,())
def zoO:Cfg E:=cf [(125,[zbY]),(172,[zfo]),(173,[zci])] [] [] [(0,some 0)] [] []
def za4:zL E:=sp zoO Tryz.f123 ⟨[.ptr 0],[.box true (L 14)]⟩ ⟨[],[.box true (L 14)]⟩ [.str 14] [.str 14]
def zaZ (a1:z3):Option (z3×Unit):=za4.F (a1,())
def zi3:Cfg E:=cf [] [] [] [(0,some 0)] [] []
def WC:zL E:=sp zi3 Tryz.f174 ⟨[.ptr 0],[.box true (L 15)]⟩ ⟨[],[.box true (L 15)]⟩ [.str 15] [.str 15]
def zb0 (a1:zX):Option (zX×Unit):=WC.F (a1,())
def znd:Cfg E:=cf [(40,[Xn]),(41,[XO]),(210,[VP])] [] [] [(0,some 0)] [] []
def uO:zL E:=sp znd Tryz.f212 ⟨[.ptr 0],[.box true (L 15)]⟩ ⟨[],[.box true (L 15)]⟩ [.str 15] [.str 15]
def uN (a1:zX):Option (zX×Unit):=uO.F (a1,())
def zlH:Cfg E:=cf [(33,[zbi]),(34,[XQ]),(89,[zcb]),(212,[uO])] [] [] [(0,some 0)] [] []
def UH:zL E:=sp zlH Tryz.f175 ⟨[.ptr 0],[.box true (L 15)]⟩ ⟨[],[.box true (L 15)]⟩ [.str 15] [.str 15]
def zdz (a1:zX):Option (zX×Unit):=UH.F (a1,())
def zl0:Cfg E:=cf [] [] [] [(0,some 0)] [] []
def Uj:zL E:=sp zl0 Tryz.f176 ⟨[.ptr 0],[.box true (L 15)]⟩ ⟨[],[.box true (L 15)]⟩ [.str 15] [.str 15]
def zdQ (a1:zX):Option (zX×Unit):=Uj.F (a1,())
def zlN:Cfg E:=cf [(167,[zfF]),(212,[uO])] [] [] [(0,some 0)] [] []
def Uv:zL E:=sp zlN Tryz.f177 ⟨[.ptr 0],[.box true (L 15)]⟩ ⟨[],[.box true (L 15)]⟩ [.str 15] [.str 15]
def zdB (a1:zX):Option (zX×Unit):=Uv.F (a1,())
def zlP:Cfg E:=cf [(212,[uO])] [] [] [(0,some 0)] [] []
def Ur:zL E:=sp zlP Tryz.f178 ⟨[.ptr 0],[.box true (L 15)]⟩ ⟨[],[.box true (L 15)]⟩ [.str 15] [.str 15]
def zdM (a1:zX):Option (zX×Unit):=Ur.F (a1,())
def zlM:Cfg E:=cf [(166,[W2]),(212,[uO])] [] [] [(0,some 0)] [] []
def Uw:zL E:=sp zlM Tryz.f179 ⟨[.ptr 0],[.box true (L 15)]⟩ ⟨[],[.box true (L 15)]⟩ [.str 15] [.str 15]
def zd0 (a1:zX):Option (zX×Unit):=Uw.F (a1,())
def zl5:Cfg E:=cf [(39,[XD]),(40,[Xn]),(170,[vv]),(210,[VP])] [] [] [(0,some 0)] [] []
def Uk:zL E:=sp zl5 Tryz.f180 ⟨[.ptr 0],[.box true (L 15)]⟩ ⟨[],[.box true (L 6++L 3++[vI,.val zP,vM,.own 1,vU,vU,vI,vI,vB,vB,vI,vL]++L 10++[.val (.slice (.named 7)),.val (.slice (.named 8)),vI,vI]),.row true z7]⟩ [.str 15] [.str 6,.str 3,.str 2,oM,.str 9,oI,oI,oB,oB,oI,oL,.str 10,.one (.slice (.named 7)),.one (.slice (.named 8)),.str 11,.one zP]
def zdS (a1:zX):Option (zK×zd×zw×(List zB)×zo×Int×Int×Bool×Bool×Int×zA×zy×(List zj)×(List ze)×zN×zC×Unit):=Uk.F (a1,())
def ziZ:Cfg E:=cf [(166,[W2])] [] [] [(0,some 0)] [] []
def Wt:zL E:=sp ziZ Tryz.f181 ⟨[.ptr 0],[.box true (L 15)]⟩ ⟨[],[.box true (L 15)]⟩ [.str 15] [.str 15]
def zbO (a1:zX):Option (zX×Unit):=Wt.F (a1,())
def zzy:Cfg E:=cf1 [(174,[WC]),(175,[UH]),(176,[Uj]),(177,[Uv]),(178,[Ur]),(179,[Uw]),(180,[Uk]),(181,[Wt])]
def zh7:zL E:=sp zzy Tryz.f124 ⟨[.val (.named 12),.val (.named 6)],[]⟩ ⟨[.val (.named 12),.val (.named 6)],[]⟩ [.one (.named 12),.one (.named 6)] [.one (.named 12),.one (.named 6)]
def zdZ (a1:za) (a2:zK):Option (za×zK×Unit):=zh7.F (a1,a2,())
def zne:Cfg E:=cf1 []
def Yf:zL E:=sp zne Tryz.f182 ⟨[.val (.named 10),vI],[]⟩ ⟨[vB],[]⟩ [.one (.named 10),oI] [oB]
def Z7 (a1:zy) (a2:Int):Option (Bool×Unit):=Yf.F (a1,a2,())
def ztA:Cfg E:=cf1 []
def zgo:zL E:=sp ztA Tryz.f184 ⟨[vI],[]⟩ ⟨[vI],[]⟩ [oI] [oI]
def zgn (a1:Int):Option (Int×Unit):=zgo.F (a1,())
def zaF:Cfg E:=cf1 [(184,[zgo])]
def uj:zL E:=sp zaF Tryz.f183 ⟨[.val (.named 10),vI,.fn 184 []],[]⟩ ⟨[.val (.named 10)],[]⟩ [.one (.named 10),oI] [.one (.named 10)]
def YQ (a1:zy) (a2:Int):Option (zy×Unit):=uj.F (a1,a2,())
def zwx:Cfg E:=cf1 [(182,[Yf]),(183,[uj])]
def zea:zL E:=sp zwx Tryz.f127 ⟨[.val (.named 10),vI],[]⟩ ⟨[.val (.named 10)],[]⟩ [.one (.named 10),oI] [.one (.named 10)]
def zbm (a1:zy) (a2:Int):Option (zy×Unit):=zea.F (a1,a2,())
def zoL:Cfg E:=cf [(90,[zbu]),(119,[zaL]),(120,[zbF]),(121,[zax]),(122,[zaQ]),(123,[za4]),(124,[zh7]),(125,[zbY]),(126,[Wx]),(127,[zea])] [] [] [(0,some 0)] [] []
def zaN:zL E:=sp zoL Tryz.f85 ⟨[.ptr 0],[.box true (L 14)]⟩ ⟨[],[.box true (L 14)]⟩ [.str 14] [.str 14]
def za3 (a1:z3):Option (z3×Unit):=zaN.F (a1,())
def UP:Cfg E:=cf1 []
def vT:zL E:=sp UP Tryz.f86 ⟨[.val (.slice (.named 7))],[]⟩ ⟨[.own 0],[.row true (.named 7)]⟩ [.one (.slice (.named 7))] [.one (.slice (.named 7))]
def vS (a1:List zj):Option ((List zj)×Unit):=vT.F (a1,())
def zwI:Cfg E:=cf1 [(85,[zaN]),(86,[vT])]
def zj8:zL E:=sp zwI Tryz.f44 ⟨[.val (.named 12),vI],[]⟩ ⟨[.val (.named 12)],[]⟩ [.one (.named 12),oI] [.one (.named 12)]
def zkc (a1:za) (a2:Int):Option (za×Unit):=zj8.F (a1,a2,())
def zsI:Cfg E:=cf1 []
def uY:zL E:=sp zsI Tryz.f185 ⟨[.ptr 0],[.box false (L 16)]⟩ ⟨[.val (.named 0)],[.gone]⟩ [.str 16] [.one (.named 0)]
def uc (a1:zI):Option (zE×Unit):=uY.F (a1,())
def zmV:Cfg E:=cf [] [] [] [(0,some 0)] [] []
def uQ:zL E:=sp zmV Tryz.f189 ⟨[.ptr 0],[.box true (L 16)]⟩ ⟨[],[.box true (L 16)]⟩ [.str 16] [.str 16]
def Yh (a1:zI):Option (zI×Unit):=uQ.F (a1,())
def zoJ:Cfg E:=cf [(31,[xC]),(189,[uQ])] [] [] [(0,some 0)] [] []
def YH:zL E:=sp zoJ Tryz.f186 ⟨[.ptr 0,vI,vI],[.box true (L 16)]⟩ ⟨[],[.box true (L 16)]⟩ [oI,oI,.str 16] [.str 16]
def Zm (a1:Int) (a2:Int) (a3:zI):Option (zI×Unit):=YH.F (a1,a2,a3,())
def zlD:Cfg E:=cf [(185,[uY]),(186,[YH])] [] [] [(0,some 0)] [] []
def Ut:zL E:=sp zlD Tryz.f128 ⟨[.ptr 0],[.box true (L 16)]⟩ ⟨[],[.box true (L 16)]⟩ [.str 16] [.str 16]
def Uz (a1:zI):Option (zI×Unit):=Ut.F (a1,())
def zlu:Cfg E:=cf [(173,[zci])] [] [] [(0,some 0)] [] []
def UA:zL E:=sp zlu Tryz.f129 ⟨[.ptr 0],[.box true (L 16)]⟩ ⟨[],[.box true (L 16)]⟩ [.str 16] [.str 16]
def zdr (a1:zI):Option (zI×Unit):=UA.F (a1,())
def zoa:Cfg E:=cf [(31,[xC])] [] [] [(0,some 0)] [] []
def za8:zL E:=sp zoa Tryz.f130 ⟨[.ptr 0],[.box true (L 16)]⟩ ⟨[],[.box true (L 8++L 3++[vI,.val zP,vM,.val zP,vU,vU,vI,vI,vB,vB,vI,.own 1]++L 10++[.val (.slice (.named 7)),.val (.slice (.named 8)),vI,vI,vI]),.row true zp]⟩ [.str 16] [.str 8,.str 3,.str 2,oM,.one zP,.str 9,oI,oI,oB,oB,oI,.str 10,.one (.slice (.named 7)),.one (.slice (.named 8)),.str 11,oI,oL]
def zgk (a1:zI):Option (ze×zd×zw×(List zB)×zC×zo×Int×Int×Bool×Bool×Int×zy×(List zj)×(List ze)×zN×Int×zA×Unit):=za8.F (a1,())
def zkR:Cfg E:=cf [(124,[zh7])] [] [] [(0,some 0)] [] []
def YV:zL E:=sp zkR Tryz.f187 ⟨[.ptr 0,vI],[.box true (L 16)]⟩ ⟨[],[.box true (L 16)]⟩ [oI,.str 16] [.str 16]
def YT (a1:Int) (a2:zI):Option (zI×Unit):=YV.F (a1,a2,())
def zl2:Cfg E:=cf [(187,[YV])] [] [] [(0,some 0)] [] []
def UC:zL E:=sp zl2 Tryz.f131 ⟨[.ptr 0],[.box true (L 16)]⟩ ⟨[],[.box true (L 16)]⟩ [.str 16] [.str 16]
def zdv (a1:zI):Option (zI×Unit):=UC.F (a1,())
def zpP:Cfg E:=cf1 [(172,[zfo]),(185,[uY])]
def Ui:zL E:=sp zpP Tryz.f188 ⟨[.ptr 0],[.box false (L 16)]⟩ ⟨[vI],[.gone]⟩ [.str 16] [oI]
def V3 (a1:zI):Option (Int×Unit):=Ui.F (a1,())
def znc:Cfg E:=cf [(185,[uY]),(186,[YH]),(188,[Ui])] [] [] [(0,some 0)] [] []
def zar:zL E:=sp znc Tryz.f132 ⟨[.ptr 0],[.box true (L 16)]⟩ ⟨[],[.box true (L 16)]⟩ [.str 16] [.str 16]
def zeN (a1:zI):Option (zI×Unit):=zar.F (a1,())
def zob:Cfg E:=cf [(185,[uY]),(188,[Ui]),(189,[uQ])] [] [] [(0,some 0)] [] []
def zaU:zL E:=sp zob Tryz.f133 ⟨[.ptr 0],[.box true (L 16)]⟩ ⟨[],[.box true (L 16)]⟩ [.str 16] [.str 16]
def zf0 (a1:zI):Option (zI×Unit):=zaU.F (a1,())
def zmO:Cfg E:=cf [(11,[zi0])] [] [] [(0,some 0)] [] []
def UI:zL E:=sp zmO Tryz.f134 ⟨[.ptr 0],[.box true (L 16)]⟩ ⟨[],[.box true (L 16)]⟩ [.str 16] [.str 16]
def zdK (a1:zI):Option (zI×Unit):=UI.F (a1,())
def ziB:Cfg E:=cf [(31,[xC])] [] [] [(0,some 0)] [] []
def WI:zL E:=sp ziB Tryz.f135 ⟨[.ptr 0],[.box true (L 16)]⟩ ⟨[],[.box true (L 16)]⟩ [.str 16] [.str 16]
def zb1 (a1:zI):Option (zI×Unit):=WI.F (a1,())
def zBx:Cfg E:=cf [(31,[xC]),(170,[vv]),(211,[UZ])] [] [(4,12),(6,0)] [] [] []
def zqT:zL E:=sp zBx Tryz.f190 ⟨[.val (.named 2),vI,vI,vI],[]⟩ ⟨[.val (.named 2),vB],[]⟩ [.one (.named 2),oI,oI,oI] [.one (.named 2),oB]
def zqj (a1:zw) (a2:Int) (a3:Int) (a4:Int):Option (zw×Bool×Unit):=zqT.F (a1,a2,a3,a4,())
def zmr:Cfg E:=cf [(185,[uY]),(189,[uQ]),(190,[zqT])] [] [] [(0,some 0)] [] []
def Um:zL E:=sp zmr Tryz.f136 ⟨[.ptr 0],[.box true (L 16)]⟩ ⟨[],[.box true (L 16)]⟩ [.str 16] [.str 16]
def zdF (a1:zI):Option (zI×Unit):=Um.F (a1,())
def zr2:Cfg E:=cf1 []
def zel:zL E:=sp zr2 Tryz.f214 ⟨[vI,.ptr 0],[.box false [vI]]⟩ ⟨[vI],[.gone]⟩ [oI,oI] [oI]
def zaS (a1:Int) (a2:Int):Option (Int×Unit):=zel.F (a1,a2,())
def zao:Cfg E:=cf1 [(214,[zel])]
def v8:zL E:=sp zao Tryz.f183 ⟨[.val (.named 10),vI,.fn 214 [.ptr 0]],[.box false [vI]]⟩ ⟨[.val (.named 10)],[.gone]⟩ [.one (.named 10),oI,oI] [.one (.named 10)]
def Yw (a1:zy) (a2:Int) (a3:Int):Option (zy×Unit):=v8.F (a1,a2,a3,())
def zma:Cfg E:=cf1 [(182,[Yf])]
def Xg:zL E:=sp zma Tryz.f216 ⟨[.val (.named 10),vI,vI,vI],[]⟩ ⟨[vB],[]⟩ [.one (.named 10),oI,oI,oI] [oB]
def Xd (a1:zy) (a2:Int) (a3:Int) (a4:Int):Option (Bool×Unit):=Xg.F (a1,a2,a3,a4,())
def zyd:Cfg E:=cf1 [(216,[Xg])]
def zgj:zL E:=sp zyd Tryz.f213 ⟨[.val (.named 10),vI,vI,vI],[]⟩ ⟨[vB],[]⟩ [.one (.named 10),oI,oI,oI] [oB]
def zgd (a1:zy) (a2:Int) (a3:Int) (a4:Int):Option (Bool×Unit):=zgj.F (a1,a2,a3,a4,())
def zvm:Cfg E:=cf1 [(183,[v8]),(213,[zgj])]
def zhA:zL E:=sp zvm Tryz.f191 ⟨[.val (.named 10),vI,vI,vI],[]⟩ ⟨[.val (.named 10),vB],[]⟩ [.one (.named 10),oI,oI,oI] [.one (.named 10),oB]
def zgX (a1:zy) (a2:Int) (a3:Int) (a4:Int):Option (zy×Bool×Unit):=zhA.F (a1,a2,a3,a4,())
def zmb:Cfg E:=cf [(48,[ze8]),(91,[zfd]),(185,[uY]),(186,[YH]),(189,[uQ]),(191,[zhA])] [] [] [(0,some 0)] [] []
def UG:zL E:=sp zmb Tryz.f137 ⟨[.ptr 0],[.box true (L 16)]⟩ ⟨[],[.box true (L 16)]⟩ [.str 16] [.str 16]
def zdw (a1:zI):Option (zI×Unit):=UG.F (a1,())
def ztn:Cfg E:=cf1 []
def zf3:zL E:=sp ztn Tryz.f215 ⟨[vI,.ptr 0],[.box false [vI]]⟩ ⟨[vI],[.gone]⟩ [oI,oI] [oI]
def zbP (a1:Int) (a2:Int):Option (Int×Unit):=zf3.F (a1,a2,())
def zaG:Cfg E:=cf1 [(215,[zf3])]
def um:zL E:=sp zaG Tryz.f183 ⟨[.val (.named 10),vI,.fn 215 [.ptr 0]],[.box false [vI]]⟩ ⟨[.val (.named 10)],[.gone]⟩ [.one (.named 10),oI,oI] [.one (.named 10)]
def YP (a1:zy) (a2:Int) (a3:Int):Option (zy×Unit):=um.F (a1,a2,a3,())
def zww:Cfg E:=cf1 [(182,[Yf]),(183,[um])]
def zj1:zL E:=sp zww Tryz.f192 ⟨[.val (.named 10),vI,vI],[]⟩ ⟨[.val (.named 10),vI],[]⟩ [.one (.named 10),oI,oI] [.one (.named 10),oI]
def zjN (a1:zy) (a2:Int) (a3:Int):Option (zy×Int×Unit):=zj1.F (a1,a2,a3,())
def zug:Cfg E:=cf1 [(213,[zgj]),(216,[Xg])]
def zgT:zL E:=sp zug Tryz.f193 ⟨[.val (.named 10),vI,vI,vI],[]⟩ ⟨[vI],[]⟩ [.one (.named 10),oI,oI,oI] [oI]
def zhb (a1:zy) (a2:Int) (a3:Int) (a4:Int):Option (Int×Unit):=zgT.F (a1,a2,a3,a4,())
def zmZ:Cfg E:=cf [(40,[Xn]),(210,[VP])] [] [] [(0,some 0)] [] []
def XJ:zL E:=sp zmZ Tryz.f194 ⟨[.ptr 0,vI,vI,vI],[.box true (L 16)]⟩ ⟨[],[.box true (L 16)]⟩ [oI,oI,oI,.str 16] [.str 16]
def XI (a1:Int) (a2:Int) (a3:Int) (a4:zI):Option (zI×Unit):=XJ.F (a1,a2,a3,a4,())
def zm8:Cfg E:=cf [(39,[XD]),(192,[zj1]),(193,[zgT]),(194,[XJ])] [] [] [(0,some 0)] [] []
def U4:zL E:=sp zm8 Tryz.f138 ⟨[.ptr 0],[.box true (L 16)]⟩ ⟨[],[.box true (L 16)]⟩ [.str 16] [.str 16]
def zeH (a1:zI):Option (zI×Unit):=U4.F (a1,())
def zox:Cfg E:=cf [(166,[W2])] [] [] [(0,some 0)] [] []
def za1:zL E:=sp zox Tryz.f139 ⟨[.ptr 0],[.box true (L 16)]⟩ ⟨[],[.box true (L 16)]⟩ [.str 16] [.str 16]
def zfb (a1:zI):Option (zI×Unit):=za1.F (a1,())
def zmf:Cfg E:=cf [(41,[XO]),(170,[vv]),(194,[XJ])] [] [] [(0,some 0)] [] []
def Un:zL E:=sp zmf Tryz.f140 ⟨[.ptr 0],[.box true (L 16)]⟩ ⟨[],[.box true (L 16)]⟩ [.str 16] [.str 16]
def zdV (a1:zI):Option (zI×Unit):=Un.F (a1,())
def zmT:Cfg E:=cf [(166,[W2])] [] [] [(0,some 0)] [] []
def zaC:zL E:=sp zmT Tryz.f141 ⟨[.ptr 0],[.box true (L 16)]⟩ ⟨[],[.box true (L 16)]⟩ [.str 16] [.str 16]
def zeW (a1:zI):Option (zI×Unit):=zaC.F (a1,())
def zme:Cfg E:=cf [] [] [] [(0,some 0)] [] []
def UE:zL E:=sp zme Tryz.f142 ⟨[.ptr 0],[.box true (L 16)]⟩ ⟨[],[.box true (L 16)]⟩ [.str 16] [.str 16]
def zdG (a1:zI):Option (zI×Unit):=UE.F (a1,())
def zrC:Cfg E:=cf1 []
def za0:zL E:=sp zrC Tryz.f195 ⟨[.ptr 0],[.box false (L 16)]⟩ ⟨[vI],[.gone]⟩ [.str 16] [oI]
def zbc (a1:zI):Option (Int×Unit):=za0.F (a1,())
def zmW:Cfg E:=cf [(172,[zfo]),(173,[zci]),(195,[za0])] [] [] [(0,some 0)] [] []
def zap:zL E:=sp zmW Tryz.f143 ⟨[.ptr 0],[.box true (L 16)]⟩ ⟨[],[.box true (L 16)]⟩ [.str 16] [.str 16]
def zeV (a1:zI):Option (zI×Unit):=zap.F (a1,())
def zoh:Cfg E:=cf [(187,[YV]),(195,[za0])] [] [] [(0,some 0)] [] []
def zaR:zL E:=sp zoh Tryz.f144 ⟨[.ptr 0],[.box true (L 16)]⟩ ⟨[],[.box true (L 16)]⟩ [.str 16] [.str 16]
def zfX (a1:zI):Option (zI×Unit):=zaR.F (a1,())
def zjq:Cfg E:=cf [(90,[zbu]),(127,[zea])] [] [] [(0,some 0)] [] []
def WW:zL E:=sp zjq Tryz.f145 ⟨[.ptr 0],[.box true (L 16)]⟩ ⟨[],[.box true (L 16)]⟩ [.str 16] [.str 16]
def zcw (a1:zI):Option (zI×Unit):=WW.F (a1,())
def zjw:Cfg E:=cf [] [] [] [(0,some 0)] [] []
def W5:zL E:=sp zjw Tryz.f146 ⟨[.ptr 0],[.box true (L 16)]⟩ ⟨[],[.box true (L 16)]⟩ [.str 16] [.str 16]
def zcr (a1:zI):Option (zI×Unit):=W5.F (a1,())
def znb:Cfg E:=cf [(128,[Ut]),(129,[UA]),(130,[za8]),(131,[UC]),(132,[zar]),(133,[zaU]),(134,[UI]),(135,[WI]),(136,[Um]),(137,[UG]),(138,[U4]),(139,[za1]),(140,[Un]),(141,[zaC]),(142,[UE]),(143,[zap]),(144,[zaR]),(145,[WW]),(146,[W5])] [] [] [(0,some 0)] [] []
def zal:zL E:=sp znb Tryz.f87 ⟨[.ptr 0],[.box true (L 16)]⟩ ⟨[],[.box true (L 16)]⟩ [.str 16] [.str 16]
def zay (a1:zI):Option (zI×Unit):=zal.F (a1,())
def V4:Cfg E:=cf1 []
def vD:zL E:=sp V4 Tryz.f88 ⟨[.val (.slice (.named 8))],[]⟩ ⟨[.own 0],[.row true (.named 8)]⟩ [.one (.slice (.named 8))] [.one (.slice (.named 8))]
def vC (a1:List ze):Option ((List ze)×Unit):=vD.F (a1,())
def zvg:Cfg E:=cf1 [(87,[zal]),(88,[vD])]
def zhc:zL E:=sp zvg Tryz.f45 ⟨[.val (.named 12),vI],[]⟩ ⟨[.val (.named 12)],[]⟩ [.one (.named 12),oI] [.one (.named 12)]
def zhg (a1:za) (a2:Int):Option (za×Unit):=zhc.F (a1,a2,())
def zxd:Cfg E:=cf1 [(42,[zgs]),(44,[zj8]),(45,[zhc]),(46,[zfr])]
def zd9:zL E:=sp zxd Tryz.f8 ⟨[.val (.named 12),.val (.named 1)],[]⟩ ⟨[.val (.named 12)],[]⟩ [.one (.named 12),.one (.named 1)] [.one (.named 12)]
def zd7 (a1:za) (a2:zk):Option (za×Unit):=zd9.F (a1,a2,())
def znS:zZ E:=lo [1,2,4,8,9,10] ⟨[.val (.slice (.named 1)),.ptr 0,.ptr 1,.val (.slice (.named 1)),vI,vI],[.box true (L 12),.box true (L 0++L 0++[vI,.own 2,vU,.own 3,.own 4,.own 5,vI,.own 6,.own 7,.own 8,vU,vU,vI,vI,vB,vB,vI,.own 9,vI,vI,vI,.own 10,.own 11,.own 12,vI,vI]),.row true z7,.row true z7,.row true (.slice (.named 0)),.row true (.named 1),.row true z7,.row true (.int .u64),.row true z7,.row true zp,.row true zp,.row true (.named 7),.row true (.named 8)]⟩ 0 [1,2,4] ⟨[.val (.slice (.named 1)),.ptr 0,.ptr 1],[.box true (L 12),.box true (L 0++L 0++[vI,.own 2,vU,.own 3,.own 4,.own 5,vI,.own 6,.own 7,.own 8,vU,vU,vI,vI,vB,vB,vI,.own 9,vI,vI,vI,.own 10,.own 11,.own 12,vI,vI]),.row true z7,.row true z7,.row true (.slice (.named 0)),.row true (.named 1),.row true z7,.row true (.int .u64),.row true z7,.row true zp,.row true zp,.row true (.named 7),.row true (.named 8)]⟩ [4,5] ⟨[.ptr 0,vI],[.box true (L 12)]⟩ [.one (.slice (.named 1)),.one (.slice (.named 1)),oI,oI,.str 12,oI,oI,oI,oI,oI,oI,oI,oI,oI,oU,oI,.str 9,oI,oI,oB,oB,oI,oI,oI,oI,.str 11,.one zP,.one zP,.one (.slice (.slice (.named 0))),.one (.slice (.named 1)),.one zP,oM,.one zP,oL,oL,.one (.slice (.named 7)),.one (.slice (.named 8))] [.one (.slice (.named 1)),.str 12,oI,oI,oI,oI,oI,oI,oI,oI,oI,oU,oI,.str 9,oI,oI,oB,oB,oI,oI,oI,oI,.str 11,.one zP,.one zP,.one (.slice (.slice (.named 0))),.one (.slice (.named 1)),.one zP,oM,.one zP,oL,oL,.one (.slice (.named 7)),.one (.slice (.named 8))] [oI,.str 12]
def zhj:Cfg E:=cf [(8,[zd9])] [(2,znS)] [] [] [] []
def zmG:zL E:=sp zhj Tryz.f13 ⟨[.val (.named 12),.val (.slice (.named 1))],[]⟩ ⟨[.val (.named 12),vI],[]⟩ [.one (.named 12),.one (.slice (.named 1))] [.one (.named 12),oI]
def Vk (a1:za) (a2:List zk):Option (za×Int×Unit):=zmG.F (a1,a2,())
def zgc (x:(List zk)×(List zk)×Int×Int×za×Int×Int×Int×Int×Int×Int×Int×Int×Int×zB×Int×zo×Int×Int×Bool×Bool×Int×Int×Int×Int×zN×zC×zC×(List (List zE))×(List zk)×zC×(List zB)×zC×zA×zA×(List zj)×(List ze)×Unit):Option (yN ((List zk)×(List zk)×Int×Int×za×Int×Int×Int×Int×Int×Int×Int×Int×Int×zB×Int×zo×Int×Int×Bool×Bool×Int×Int×Int×Int×zN×zC×zC×(List (List zE))×(List zk)×zC×(List zB)×zC×zA×zA×(List zj)×(List ze)×Unit) ((List zk)×za×Int×Int×Int×Int×Int×Int×Int×Int×Int×zB×Int×zo×Int×Int×Bool×Bool×Int×Int×Int×Int×zN×zC×zC×(List (List zE))×(List zk)×zC×(List zB)×zC×zA×zA×(List zj)×(List ze)×Unit) (Int×za×Unit)):=yn zhj (exec zhj (yC Tryz.f13 2)) 26 znS x
def zx1:Cfg E:=cf1 []
def zb5:zL E:=sp zx1 Tryz.f58 ⟨[.val (.named 9)],[]⟩ ⟨[vU],[]⟩ [.one (.named 9)] [oU]
def zgf (a1:zo):Option (zB×Unit):=zb5.F (a1,())
def zA7:Cfg E:=cf1 [(28,[zdU]),(78,[zhk])]
def zpU:zL E:=sp zA7 Tryz.f59 ⟨[vL],[]⟩ ⟨[vU,vB],[]⟩ [oL] [oU,oB]
def zqz (a1:zA):Option (zB×Bool×Unit):=zpU.F (a1,())
def zAB:Cfg E:=cf1 []
def zqR:zL E:=sp zAB Tryz.f98 ⟨[.val (.named 12)],[]⟩ ⟨[.fn 150 [.ptr 0]],[.box true (L 12)]⟩ [.one (.named 12)] [.str 12]
def zxf (a1:za):Option (za×Unit):=zqR.F (a1,())
def V7:zZ E:=lo [0,3,9,10,11] ⟨[.val zP,vI,.val zP,vI,vI],[]⟩ 0 [0,3] ⟨[.val zP,vI],[]⟩ [] ⟨[],[]⟩ [.one zP,oI,.one zP,oI,oI] [.one zP,oI] []
def Vv:zZ E:=lo [6,25,26,27] ⟨[.own 0,.val zP,vI,vI],[.row true zp]⟩ 2 [6] ⟨[.own 0],[.row true zp]⟩ [] ⟨[],[]⟩ [.one zP,oI,oI,oL] [oL] []
def vy:Cfg E:=cf [(204,[zEY])] [(3,V7),(11,Vv)] [] [] [] []
def Xx:zL E:=sp vy Tryz.f155 ⟨[.val zP],[]⟩ ⟨[.own 0],[.row true zp]⟩ [.one zP] [oL]
def Xp (a1:zC):Option (zA×Unit):=Xx.F (a1,())
def wm (x:zC×Int×zC×Int×Int×Unit):Option (yN (zC×Int×zC×Int×Int×Unit) (zC×Int×Unit) (Unit)):=yn vy (exec vy (yC Tryz.f155 3)) 36 V7 x
def we (x:zC×Int×Int×zA×Unit):Option (yN (zC×Int×Int×zA×Unit) (zA×Unit) (Unit)):=yn vy (exec vy (yC Tryz.f155 11)) 36 Vv x
def zCS:Cfg E:=cf1 [(154,[zta]),(155,[Xx])]
def zsJ:zL E:=sp zCS Tryz.f99 ⟨[vL,vL],[]⟩ ⟨[.own 0],[.row true zp]⟩ [oL,oL] [oL]
def zsD (a1:zA) (a2:zA):Option (zA×Unit):=zsJ.F (a1,a2,())
def zn7:zZ E:=lo [0,2,3,9,10] ⟨[vM,vI,vI,.own 0,vI],[.row true zp]⟩ 0 [9] ⟨[.own 0],[.row true zp]⟩ [] ⟨[],[]⟩ [oM,oI,oI,oI,oL] [oL] []
def zhm:Cfg E:=cf [(217,[WU]),(218,[zcB])] [(3,zn7)] [] [] [] []
def zmd:zL E:=sp zhm Tryz.f196 ⟨[vM,vI,vI,vI],[]⟩ ⟨[.own 0],[.row true zp]⟩ [oM,oI,oI,oI] [oL]
def zlT (a1:List zB) (a2:Int) (a3:Int) (a4:Int):Option (zA×Unit):=zmd.F (a1,a2,a3,a4,())
def zfD (x:(List zB)×Int×Int×Int×zA×Unit):Option (yN ((List zB)×Int×Int×Int×zA×Unit) (zA×Unit) (Unit)):=yn zhm (exec zhm (yC Tryz.f196 3)) 35 zn7 x
def zBD:Cfg E:=cf1 [(154,[zta])]
def zf9:zL E:=sp zBD Tryz.f197 ⟨[vL],[]⟩ ⟨[.own 0],[.row true zp]⟩ [oL] [oL]
def yX (a1:zA):Option (zA×Unit):=zf9.F (a1,())
def zn0:zZ E:=lo [1,3,17,18,19] ⟨[.ptr 0,.own 1,.own 2,vI,vI],[.box true (L 12),.row true zp,.row true zp]⟩ 0 [3] ⟨[.own 0],[.row true zp]⟩ [] ⟨[],[]⟩ [oI,oI,.str 12,oL,oL] [oL] []
def zhx:Cfg E:=cf [(39,[XD]),(40,[Xn]),(196,[zmd]),(197,[zf9])] [(3,zn0)] [] [] [] []
def zmK:zL E:=sp zhx Tryz.f151 ⟨[.val (.named 12)],[]⟩ ⟨[.own 0],[.row true zp]⟩ [.one (.named 12)] [oL]
def zcA (a1:za):Option (zA×Unit):=zmK.F (a1,())
def Ua (x:Int×Int×za×zA×zA×Unit):Option (yN (Int×Int×za×zA×zA×Unit) (zA×Unit) (Unit)):=yn zhx (exec zhx (yC Tryz.f151 3)) 38 zn0 x
def zvy:Cfg E:=cf1 [(34,[XQ]),(118,[zaX])]
def zj2:zL E:=sp zvy Tryz.f198 ⟨[.val (.named 12),vI,.val (.named 4)],[]⟩ ⟨[.own 0],[.row true zp]⟩ [.one (.named 12),oI,.one (.named 4)] [oL]
def zjV (a1:za) (a2:Int) (a3:zg):Option (zA×Unit):=zj2.F (a1,a2,a3,())
def zCE:Cfg E:=cf1 []
def ziC:zL E:=sp zCE Tryz.f149 ⟨[.val (.named 6),vI,vI,vI],[]⟩ ⟨[vI],[]⟩ [.one (.named 6),oI,oI,oI] [oI]
def zn6 (a1:zK) (a2:Int) (a3:Int) (a4:Int):Option (Int×Unit):=ziC.F (a1,a2,a3,a4,())
def zxD:Cfg E:=cf1 [(149,[ziC])]
def zfz:zL E:=sp zxD Tryz.f200 ⟨[.val (.named 6)],[]⟩ ⟨[vI],[]⟩ [.one (.named 6)] [oI]
def ZS (a1:zK):Option (Int×Unit):=zfz.F (a1,())
def zkh:zZ E:=lo [0,9,11,12,13] ⟨[vM,.ptr 0,vU,.own 1,vU],[.box true (L 4),.row true zp]⟩ 1 [12] ⟨[.own 0],[.row true zp]⟩ [] ⟨[],[]⟩ [oM,oU,oU,.str 4,oL] [oL] []
def zgm:Cfg E:=cf [(221,[ZR]),(222,[uG]),(223,[xZ]),(224,[zbh]),(225,[YF]),(226,[uR])] [(16,zkh)] [] [] [] []
def zj6:zL E:=sp zgm Tryz.f201 ⟨[vM,vI,vI,.val (.named 4)],[]⟩ ⟨[.own 0],[.row true zp]⟩ [oM,oI,oI,.one (.named 4)] [oL]
def wJ (a1:List zB) (a2:Int) (a3:Int) (a4:zg):Option (zA×Unit):=zj6.F (a1,a2,a3,a4,())
def yz (x:(List zB)×zB×zB×zg×zA×Unit):Option (yN ((List zB)×zB×zB×zg×zA×Unit) (zA×Unit) (Unit)):=yn zgm (exec zgm (yC Tryz.f201 16)) 76 zkh x
def zvA:Cfg E:=cf1 [(31,[xC]),(34,[XQ]),(197,[zf9]),(198,[zj2]),(199,[zAh]),(200,[zfz]),(201,[zj6])]
def zjH:zL E:=sp zvA Tryz.f152 ⟨[.val (.named 12),vI],[]⟩ ⟨[.own 0],[.row true zp]⟩ [.one (.named 12),oI] [oL]
def zd6 (a1:za) (a2:Int):Option (zA×Unit):=zjH.F (a1,a2,())
def zxy:Cfg E:=cf1 []
def zgb:zL E:=sp zxy Tryz.f148 ⟨[.val (.named 8)],[]⟩ ⟨[vB],[]⟩ [.one (.named 8)] [oB]
def u7 (a1:ze):Option (Bool×Unit):=zgb.F (a1,())
def zud:Cfg E:=cf1 [(31,[xC]),(148,[zgb]),(197,[zf9]),(199,[zAh]),(200,[zfz])]
def zhu:zL E:=sp zud Tryz.f153 ⟨[.val (.named 12),vI],[]⟩ ⟨[.own 0],[.row true zp]⟩ [.one (.named 12),oI] [oL]
def zcK (a1:za) (a2:Int):Option (zA×Unit):=zhu.F (a1,a2,())
def zxG (s:za):Nat->Int->Option zC
 | 0,_=>some []
 | n+1,i=>(zd6 s (i+1)).bind fun a=>(zxG s n (i+1)).bind fun l=>some (a.1::l)
def zxh (s:za):Nat->Int->Option zC
 | 0,_=>some []
 | n+1,i=>(zcK s (i+1)).bind fun a=>(zxh s n (i+1)).bind fun l=>some (a.1::l)
def zvL (s:za):Option zC:=bif decide (s.Ws.length<1000000)&&decide (s.Ms.length<1000000) then (zcA s).bind fun a=>(zxG s s.Ws.length 0).bind fun b=>(zxh s s.Ms.length 0).bind fun c=>some (a.1::(b++c)) else none
def zKn (x:HL E.T (lvs 12)):Option zC:=zvL (E.pack 12 x)
def znA:zZ E:=lo [0,1,12,13] ⟨[.yld,.ptr 0,vI,vI],[.box true (L 12)]⟩ 0 [0,1] ⟨[.yld,.ptr 0],[.box true (L 12)]⟩ [0] ⟨[.yld],[]⟩ [oI,oI,oI,oI,.str 12] [oI,oI,.str 12] [oI,oI]
def znm:zZ E:=lo [0,1,26,27] ⟨[.yld,.ptr 0,vI,vI],[.box true (L 12)]⟩ 2 [0] ⟨[.yld],[]⟩ [0] ⟨[.yld],[]⟩ [oI,oI,oI,oI,.str 12] [oI,oI] [oI,oI]
def zwS:Cfg E:=cf [(151,[zmK]),(152,[zjH]),(153,[zhu])] [(2,znA),(7,znm)] [] [] [] []
def Y1 (ys:zC):Cfg E:={zwS with yl:=true,ye:=z7,yd:=ys}
def zcL:wq:=⟨[.ptr 0],[.box true (L 12)]⟩
def zcf:Z0 E:={inn:=zcL,e:=z7,F:=fun x=>zKn x}
def zso (a1:Int) (a2:Int) (a3:Int) (a4:Int) (a5:Int) (a6:Int) (a7:Int) (a8:Int) (a9:Int) (a10:zC) (a11:zB) (a12:zC) (a13:List (List zE)) (a14:List zk) (a15:Int) (a16:zC) (a17:List zB) (a18:zC) (a19:zB) (a20:zB) (a21:Int) (a22:Int) (a23:Bool) (a24:Bool) (a25:Int) (a26:zA) (a27:Int) (a28:Int) (a29:Int) (a30:zA) (a31:List zj) (a32:List ze) (a33:Int) (a34:Int):Option zC:=zcf.F (a1,a2,a3,a4,a5,a6,a7,a8,a9,a10,a11,a12,a13,a14,a15,a16,a17,a18,a19,a20,a21,a22,a23,a24,a25,a26,a27,a28,a29,a30,a31,a32,a33,a34,())
def Uc (ys:zC) (x:Int×Int×Int×Int×za×Unit):Option (yN (Int×Int×Int×Int×za×Unit) (Int×Int×za×Unit) (Int×Int×Unit)):=yn (Y1 ys) (exec (Y1 ys) (yC Tryz.f150 2)) 38 znA x
def zbN (ys:zC) (x:Int×Int×Int×Int×za×Unit):Option (yN (Int×Int×Int×Int×za×Unit) (Int×Int×Unit) (Int×Int×Unit)):=yn (Y1 ys) (exec (Y1 ys) (yC Tryz.f150 7)) 38 znm x
def zpD:zZ E:=lo [3] ⟨[.ptr 0],[.box true [.own 1],.row true zp]⟩ 0 [] ⟨[],[]⟩ [] ⟨[],[]⟩ [oL] [] []
def zd2:Cfg E:=cf [(98,[zqR]),(99,[zsJ])] [(3,zpD)] [] [] [] [(150,zcf)]
def zdR:zL E:=sp zd2 Tryz.f60 ⟨[.val (.named 12)],[]⟩ ⟨[.own 0],[.row true zp]⟩ [.one (.named 12)] [oL]
def zby (a1:za):Option (zA×Unit):=zdR.F (a1,())
def zcM (y:zA) (x:zA×Unit):Option (zA×Unit):=zmu zd2 (exec zd2 (zHG Tryz.f60 3)) (exec zd2 (zAk Tryz.f60 3)) 12 zpD 7 z7 y x
def zzN:Cfg E:=cf1 [(58,[zb5]),(59,[zpU]),(60,[zdR])]
def zig:zL E:=sp zzN Tryz.f17 ⟨[.val (.named 12)],[]⟩ ⟨[vB],[]⟩ [.one (.named 12)] [oB]
def zbz (a1:za):Option (Bool×Unit):=zig.F (a1,())
def zjn:zZ E:=lo [1,3,9,10,11] ⟨[.ptr 0,.own 1,.val (.slice (.named 7)),vI,vI],[.box true (L 12),.row true (.named 6)]⟩ 0 [1,3] ⟨[.ptr 0,.own 1],[.box true (L 12),.row true (.named 6)]⟩ [] ⟨[],[]⟩ [.one (.slice (.named 7)),oI,oI,.str 12,.one (.slice (.named 6))] [.str 12,.one (.slice (.named 6))] []
def ziN:zZ E:=lo [3,25,26,27] ⟨[.own 0,.val (.slice (.named 8)),vI,vI],[.row true (.named 6)]⟩ 2 [3] ⟨[.own 0],[.row true (.named 6)]⟩ [] ⟨[],[]⟩ [.one (.slice (.named 8)),oI,oI,.one (.slice (.named 6))] [.one (.slice (.named 6))] []
def X6:Cfg E:=cf [(148,[zgb])] [(3,zjn),(9,ziN)] [] [] [] []
def zbR:zL E:=sp X6 Tryz.f96 ⟨[.val (.named 12)],[]⟩ ⟨[.own 0],[.row true (.named 6)]⟩ [.one (.named 12)] [.one (.slice (.named 6))]
def zbZ (a1:za):Option ((List zK)×Unit):=zbR.F (a1,())
def XC (x:(List zj)×Int×Int×za×(List zK)×Unit):Option (yN ((List zj)×Int×Int×za×(List zK)×Unit) (za×(List zK)×Unit) (Unit)):=yn X6 (exec X6 (yC Tryz.f96 3)) 40 zjn x
def Xr (x:(List ze)×Int×Int×(List zK)×Unit):Option (yN ((List ze)×Int×Int×(List zK)×Unit) ((List zK)×Unit) (Unit)):=yn X6 (exec X6 (yC Tryz.f96 9)) 40 ziN x
def zzH:Cfg E:=cf1 [(149,[ziC])]
def zoR:zL E:=sp zzH Tryz.f100 ⟨[.val (.named 6)],[]⟩ ⟨[vI],[]⟩ [.one (.named 6)] [oI]
def zot (a1:zK):Option (Int×Unit):=zoR.F (a1,())
def zpk:zZ E:=lo [1,3,11,12,13] ⟨[.ptr 0,vI,.own 1,vI,vI],[.box true (L 12),.row true (.named 6)]⟩ 0 [1,3] ⟨[.ptr 0,vI],[.box true (L 12)]⟩ [] ⟨[],[]⟩ [oI,oI,oI,.str 12,.one (.slice (.named 6))] [oI,.str 12] []
def zpl:zZ E:=lo [1,3,23,24,25] ⟨[.ptr 0,vI,.val (.slice (.named 7)),vI,vI],[.box true (L 12)]⟩ 2 [1,3] ⟨[.ptr 0,vI],[.box true (L 12)]⟩ [] ⟨[],[]⟩ [oI,.one (.slice (.named 7)),oI,oI,.str 12] [oI,.str 12] []
def znU:zZ E:=lo [3,36,37,38] ⟨[vI,.val (.slice (.named 8)),vI,vI],[]⟩ 4 [3] ⟨[vI],[]⟩ [] ⟨[],[]⟩ [oI,.one (.slice (.named 8)),oI,oI] [oI] []
def XY:Cfg E:=cf [(96,[zbR]),(100,[zoR])] [(3,zpk),(8,zpl),(14,znU)] [] [] [] []
def zol:zL E:=sp XY Tryz.f61 ⟨[.val (.named 12)],[]⟩ ⟨[vI],[]⟩ [.one (.named 12)] [oI]
def zou (a1:za):Option (Int×Unit):=zol.F (a1,())
def U9 (x:Int×Int×Int×za×(List zK)×Unit):Option (yN (Int×Int×Int×za×(List zK)×Unit) (Int×za×Unit) (Unit)):=yn XY (exec XY (yC Tryz.f61 3)) 49 zpk x
def zau (x:Int×(List zj)×Int×Int×za×Unit):Option (yN (Int×(List zj)×Int×Int×za×Unit) (Int×za×Unit) (Unit)):=yn XY (exec XY (yC Tryz.f61 8)) 49 zpl x
def Uh (x:Int×(List ze)×Int×Int×Unit):Option (yN (Int×(List ze)×Int×Int×Unit) (Int×Unit) (Unit)):=yn XY (exec XY (yC Tryz.f61 14)) 49 znU x
def zvs:Cfg E:=cf1 [(60,[zdR]),(61,[zol])]
def zeb:zL E:=sp zvs Tryz.f18 ⟨[.val (.named 12)],[]⟩ ⟨[vB],[]⟩ [.one (.named 12)] [oB]
def VR (a1:za):Option (Bool×Unit):=zeb.F (a1,())
def zzD:Cfg E:=cf1 [(149,[ziC])]
def zoq:zL E:=sp zzD Tryz.f97 ⟨[.val (.named 6)],[]⟩ ⟨[vI],[]⟩ [.one (.named 6)] [oI]
def zow (a1:zK):Option (Int×Unit):=zoq.F (a1,())
def zkn:zZ E:=lo [1,3,9,10,11] ⟨[.ptr 0,vU,.own 1,vI,vI],[.box true (L 12),.row true (.named 6)]⟩ 0 [1,3] ⟨[.ptr 0,vU],[.box true (L 12)]⟩ [] ⟨[],[]⟩ [oU,oI,oI,.str 12,.one (.slice (.named 6))] [oU,.str 12] []
def zkt:zZ E:=lo [3,21,22,23] ⟨[vU,.val (.slice (.named 8)),vI,vI],[]⟩ 2 [3] ⟨[vU],[]⟩ [] ⟨[],[]⟩ [oU,.one (.slice (.named 8)),oI,oI] [oU] []
def W3:Cfg E:=cf [(24,[zaJ]),(78,[zhk]),(96,[zbR]),(97,[zoq])] [(3,zkn),(8,zkt)] [] [] [] []
def U7:zL E:=sp W3 Tryz.f57 ⟨[.val (.named 12)],[]⟩ ⟨[vU],[]⟩ [.one (.named 12)] [oU]
def zaD (a1:za):Option (zB×Unit):=U7.F (a1,())
def Wf (x:zB×Int×Int×za×(List zK)×Unit):Option (yN (zB×Int×Int×za×(List zK)×Unit) (zB×za×Unit) (Unit)):=yn W3 (exec W3 (yC Tryz.f57 3)) 61 zkn x
def Wl (x:zB×(List ze)×Int×Int×Unit):Option (yN (zB×(List ze)×Int×Int×Unit) (zB×Unit) (Unit)):=yn W3 (exec W3 (yC Tryz.f57 8)) 61 zkt x
def zgG:zZ E:=lo [3,6,7] ⟨[vU,.val (.arr 64 zp),vI],[]⟩ 0 [3] ⟨[vU],[]⟩ [] ⟨[],[]⟩ [oU,.one (.arr 64 zp),oI] [oU] []
def zb8:Cfg E:=cf [(24,[zaJ])] [(3,zgG)] [] [] [] []
def zeo:zL E:=sp zb8 Tryz.f101 ⟨[.val (.arr 64 zp)],[]⟩ ⟨[vU],[]⟩ [.one (.arr 64 zp)] [oU]
def zev (a1:zA):Option (zB×Unit):=zeo.F (a1,())
def zbA (x:zB×zA×Int×Unit):Option (yN (zB×zA×Int×Unit) (zB×Unit) (Unit)):=yn zb8 (exec zb8 (yC Tryz.f101 3)) 19 zgG x
def zu7:Cfg E:=cf1 []
def zhL:zL E:=sp zu7 Tryz.f103 ⟨[vI],[]⟩ ⟨[vB],[]⟩ [oI] [oB]
def zpn (a1:Int):Option (Bool×Unit):=zhL.F (a1,())
def Vu:zZ E:=lo [2,3,6,7,8,9,23,24,25] ⟨[.fn 103 [],.ptr 0,.aptr zp 1,.aptr zp 2,vU,.own 3,.own 3,vI,vI],[.box true [vI,.val zP],.row true zp,.row true zp,.row true zp]⟩ 0 [2,3,6,7,8,9] ⟨[.fn 103 [],.ptr 0,.aptr zp 1,.aptr zp 2,vU,.own 3],[.box true [vI,.val zP],.row true zp,.row true zp,.row true zp]⟩ [] ⟨[],[]⟩ [oU,oI,oI,.str 2,oL,oL,oL] [oU,.str 2,oL,oL,oL] []
def Vx:zZ E:=lo [2,3,6,7,8,9] ⟨[.fn 103 [],.ptr 0,.aptr zp 1,.aptr zp 2,vU,.own 3],[.box true [vI,.val zP],.row true zp,.row true zp,.row true zp]⟩ 2 [6,7] ⟨[.aptr zp 0,.aptr zp 1],[.row true zp,.row true zp]⟩ [] ⟨[],[]⟩ [oU,.str 2,oL,oL,oL] [oL,oL] []
def Ve:zZ E:=lo [2,3,6,7,8,9,12,50,51,52] ⟨[.fn 103 [],.ptr 0,.aptr zp 1,.aptr zp 2,vU,.own 3,vI,vL,vI,vI],[.box true [vI,.val zP],.row true zp,.row true zp,.row true zp]⟩ 4 [2,3,6,7,8,9] ⟨[.fn 103 [],.ptr 0,.aptr zp 1,.aptr zp 2,vU,.own 3],[.box true [vI,.val zP],.row true zp,.row true zp,.row true zp]⟩ [] ⟨[],[]⟩ [oU,oI,oL,oI,oI,.str 2,oL,oL,oL] [oU,.str 2,oL,oL,oL] []
def xJ:Cfg E:=cf [(37,[zk8]),(52,[zeY]),(54,[Ul]),(103,[zhL])] [(5,Vu),(9,Vx),(14,Ve)] [(10,1)] [] [] []
def Y7:zL E:=sp xJ Tryz.f102 ⟨[.val (.named 2),vU,.fn 103 []],[]⟩ ⟨[.val (.arr 64 zp)],[]⟩ [.one (.named 2),oU] [.one (.arr 64 zp)]
def Y4 (a1:zw) (a2:zB):Option (zA×Unit):=Y7.F (a1,a2,())
def Yo (x:zB×Int×Int×zw×zA×zA×zA×Unit):Option (yN (zB×Int×Int×zw×zA×zA×zA×Unit) (zB×zw×zA×zA×zA×Unit) (Unit)):=yn xJ (exec xJ (yC Tryz.f102 5)) 80 Vu x
def Yn (x:zB×zw×zA×zA×zA×Unit):Option (yN (zB×zw×zA×zA×zA×Unit) (zA×zA×Unit) (Unit)):=yn xJ (exec xJ (yC Tryz.f102 9)) 80 Vx x
def ue (x:zB×Int×zA×Int×Int×zw×zA×zA×zA×Unit):Option (yN (zB×Int×zA×Int×Int×zw×zA×zA×zA×Unit) (zB×zw×zA×zA×zA×Unit) (Unit)):=yn xJ (exec xJ (yC Tryz.f102 14)) 80 Ve x
def zyp:Cfg E:=cf1 [(101,[zeo]),(102,[Y7])]
def zcv:zL E:=sp zyp Tryz.f62 ⟨[.val (.named 2),vU],[]⟩ ⟨[vU],[]⟩ [.one (.named 2),oU] [oU]
def Vg (a1:zw) (a2:zB):Option (zB×Unit):=zcv.F (a1,a2,())
def zzP:Cfg E:=cf1 [(27,[zfI]),(62,[zcv])]
def zh6:zL E:=sp zzP Tryz.f64 ⟨[.val (.named 3)],[]⟩ ⟨[vU],[]⟩ [.one (.named 3)] [oU]
def zh2 (a1:zd):Option (zB×Unit):=zh6.F (a1,())
def zz3:Cfg E:=cf1 [(57,[U7]),(58,[zb5]),(62,[zcv]),(63,[Uo]),(64,[zh6])]
def zin:zL E:=sp zz3 Tryz.f19 ⟨[.val (.named 12)],[]⟩ ⟨[vB],[]⟩ [.one (.named 12)] [oB]
def zbv (a1:za):Option (Bool×Unit):=zin.F (a1,())
def zCt:Cfg E:=cf1 [(54,[Ul])]
def zns:zL E:=sp zCt Tryz.f55 ⟨[.val (.named 12)],[]⟩ ⟨[vU],[]⟩ [.one (.named 12)] [oU]
def znI (a1:za):Option (zB×Unit):=zns.F (a1,())
def zzS:Cfg E:=cf1 [(54,[Ul]),(55,[zns])]
def zdO:zL E:=sp zzS Tryz.f15 ⟨[.val (.named 12)],[]⟩ ⟨[vU],[]⟩ [.one (.named 12)] [oU]
def zbr (a1:za):Option (zB×Unit):=zdO.F (a1,())
def zys:Cfg E:=cf1 [(54,[Ul]),(63,[Uo])]
def zlL:zL E:=sp zys Tryz.f65 ⟨[.val (.named 9),vI],[]⟩ ⟨[vB],[]⟩ [.one (.named 9),oI] [oB]
def zr3 (a1:zo) (a2:Int):Option (Bool×Unit):=zlL.F (a1,a2,())
def zxb:Cfg E:=cf1 [(15,[zdO]),(63,[Uo]),(64,[zh6]),(65,[zlL])]
def zec:zL E:=sp zxb Tryz.f20 ⟨[.val (.named 12)],[]⟩ ⟨[vB],[]⟩ [.one (.named 12)] [oB]
def VU (a1:za):Option (Bool×Unit):=zec.F (a1,())
def zks:zZ E:=lo [1,3,36,37,38] ⟨[.ptr 0,vI,vL,vI,vI],[.box true (L 10)]⟩ 0 [1,3] ⟨[.ptr 0,vI],[.box true (L 10)]⟩ [2] ⟨[vB],[]⟩ [oI,oL,oI,oI,.str 10] [oI,.str 10] [oB]
def zen:Cfg E:=cf [] [(5,zks)] [] [] [] []
def zgS:zL E:=sp zen Tryz.f67 ⟨[.val (.named 10)],[]⟩ ⟨[vB],[]⟩ [.one (.named 10)] [oB]
def zhr (a1:zy):Option (Bool×Unit):=zgS.F (a1,())
def Wj (x:Int×zA×Int×Int×zy×Unit):Option (yN (Int×zA×Int×Int×zy×Unit) (Int×zy×Unit) (Bool×Unit)):=yn zen (exec zen (yC Tryz.f67 5)) 56 zks x
def zxw:Cfg E:=cf1 []
def zlV:zL E:=sp zxw Tryz.f66 ⟨[vI,.ptr 0],[.box false (L 12)]⟩ ⟨[vB],[.gone]⟩ [oI,.str 12] [oB]
def zr8 (a1:Int) (a2:za):Option (Bool×Unit):=zlV.F (a1,a2,())
def u9:zZ E:=lo [0,1,7,8] ⟨[vL,.fn 66 [.ptr 1],vI,vI],[.gone,.box false (L 12)]⟩ 0 [] ⟨[],[.gone]⟩ [4] ⟨[vI],[.gone]⟩ [oL,oI,oI,.str 12] [] [oI]
def wZ:Cfg E:=cf [(66,[zlV])] [(2,u9)] [] [] [] []
def vg:zL E:=sp wZ Tryz.f104 ⟨[vL,.fn 66 [.ptr 0]],[.box false (L 12)]⟩ ⟨[vI],[.gone]⟩ [oL,.str 12] [oI]
def ZK (a1:zA) (a2:za):Option (Int×Unit):=vg.F (a1,a2,())
def yV (x:zA×Int×Int×za×Unit):Option (yN (zA×Int×Int×za×Unit) (Unit) (Int×Unit)):=yn wZ (exec wZ (yC Tryz.f104 2)) 19 u9 x
def Wz:Cfg E:=cf1 [(104,[vg])]
def wO:zL E:=sp Wz Tryz.f68 ⟨[vL,.fn 66 [.ptr 0]],[.box false (L 12)]⟩ ⟨[vB],[.gone]⟩ [oL,.str 12] [oB]
def wM (a1:zA) (a2:za):Option (Bool×Unit):=wO.F (a1,a2,())
def zBU:Cfg E:=cf1 [(15,[zdO]),(28,[zdU]),(55,[zns]),(67,[zgS]),(68,[wO])]
def zkW:zL E:=sp zBU Tryz.f21 ⟨[.val (.named 12)],[]⟩ ⟨[vB],[]⟩ [.one (.named 12)] [oB]
def zcX (a1:za):Option (Bool×Unit):=zkW.F (a1,())
def zu0:Cfg E:=cf1 []
def zgR:zL E:=sp zu0 Tryz.f105 ⟨[.val (.named 7)],[]⟩ ⟨[vB],[]⟩ [.one (.named 7)] [oB]
def zpF (a1:zj):Option (Bool×Unit):=zgR.F (a1,())
def wR:zZ E:=lo [0,1,7,8] ⟨[.val (.slice (.named 7)),.fn 105 [],vI,vI],[]⟩ 0 [] ⟨[],[]⟩ [4] ⟨[vI],[]⟩ [.one (.slice (.named 7)),oI,oI] [] [oI]
def xF:Cfg E:=cf [(105,[zgR])] [(2,wR)] [] [] [] []
def xI:zL E:=sp xF Tryz.f156 ⟨[.val (.slice (.named 7)),.fn 105 []],[]⟩ ⟨[vI],[]⟩ [.one (.slice (.named 7))] [oI]
def ve (a1:List zj):Option (Int×Unit):=xI.F (a1,())
def wP (x:(List zj)×Int×Int×Unit):Option (yN ((List zj)×Int×Int×Unit) (Unit) (Int×Unit)):=yn xF (exec xF (yC Tryz.f156 2)) 19 wR x
def ZQ:Cfg E:=cf1 [(156,[xI])]
def xA:zL E:=sp ZQ Tryz.f107 ⟨[.val (.slice (.named 7)),.fn 105 []],[]⟩ ⟨[vB],[]⟩ [.one (.slice (.named 7))] [oB]
def wN (a1:List zj):Option (Bool×Unit):=xA.F (a1,())
def zuj:Cfg E:=cf1 []
def zhn:zL E:=sp zuj Tryz.f106 ⟨[.val (.named 8)],[]⟩ ⟨[vB],[]⟩ [.one (.named 8)] [oB]
def zpJ (a1:ze):Option (Bool×Unit):=zhn.F (a1,())
def wC:zZ E:=lo [0,1,7,8] ⟨[.val (.slice (.named 8)),.fn 106 [],vI,vI],[]⟩ 0 [] ⟨[],[]⟩ [4] ⟨[vI],[]⟩ [.one (.slice (.named 8)),oI,oI] [] [oI]
def xy:Cfg E:=cf [(106,[zhn])] [(2,wC)] [] [] [] []
def xE:zL E:=sp xy Tryz.f157 ⟨[.val (.slice (.named 8)),.fn 106 []],[]⟩ ⟨[vI],[]⟩ [.one (.slice (.named 8))] [oI]
def wU (a1:List ze):Option (Int×Unit):=xE.F (a1,())
def wF (x:(List ze)×Int×Int×Unit):Option (yN ((List ze)×Int×Int×Unit) (Unit) (Int×Unit)):=yn xy (exec xy (yC Tryz.f157 2)) 19 wC x
def Zw:Cfg E:=cf1 [(157,[xE])]
def xr:zL E:=sp Zw Tryz.f108 ⟨[.val (.slice (.named 8)),.fn 106 []],[]⟩ ⟨[vB],[]⟩ [.one (.slice (.named 8))] [oB]
def wz (a1:List ze):Option (Bool×Unit):=xr.F (a1,())
def zyr:Cfg E:=cf1 [(60,[zdR]),(107,[xA]),(108,[xr])]
def zlU:zL E:=sp zyr Tryz.f69 ⟨[.val (.named 12)],[]⟩ ⟨[vB],[]⟩ [.one (.named 12)] [oB]
def zrF (a1:za):Option (Bool×Unit):=zlU.F (a1,())
def zo1:zZ E:=lo [3,7,8,9] ⟨[vU,.val (.slice (.named 8)),vI,vI],[]⟩ 0 [3] ⟨[vU],[]⟩ [] ⟨[],[]⟩ [oU,.one (.slice (.named 8)),oI,oI] [oU] []
def zjO:Cfg E:=cf [(78,[zhk])] [(3,zo1)] [] [] [] []
def zok:zL E:=sp zjO Tryz.f109 ⟨[.val (.named 12)],[]⟩ ⟨[vU],[]⟩ [.one (.named 12)] [oU]
def zt7 (a1:za):Option (zB×Unit):=zok.F (a1,())
def zpo (x:zB×(List ze)×Int×Int×Unit):Option (yN (zB×(List ze)×Int×Int×Unit) (zB×Unit) (Unit)):=yn zjO (exec zjO (yC Tryz.f109 3)) 20 zo1 x
def zzB:Cfg E:=cf1 [(62,[zcv]),(109,[zok])]
def zoB:zL E:=sp zzB Tryz.f70 ⟨[.val (.named 12)],[]⟩ ⟨[vU],[]⟩ [.one (.named 12)] [oU]
def ztV (a1:za):Option (zB×Unit):=zoB.F (a1,())
def zzW:Cfg E:=cf1 [(57,[U7]),(63,[Uo]),(69,[zlU]),(70,[zoB])]
def zhZ:zL E:=sp zzW Tryz.f22 ⟨[.val (.named 12)],[]⟩ ⟨[vB],[]⟩ [.one (.named 12)] [oB]
def zbx (a1:za):Option (Bool×Unit):=zhZ.F (a1,())
def zo4:zZ E:=lo [1,5,6] ⟨[.ptr 0,.fns [17,18,19,20,21,22],vI],[.box true (L 12)]⟩ 0 [1] ⟨[.ptr 0],[.box true (L 12)]⟩ [2] ⟨[vB],[]⟩ [oI,.str 12] [.str 12] [oB]
def zjG:Cfg E:=cf [(17,[zig]),(18,[zeb]),(19,[zin]),(20,[zec]),(21,[zkW]),(22,[zhZ]),(53,[zcC])] [(2,zo4)] [] [] [] []
def zoj:zL E:=sp zjG Tryz.f14 ⟨[.val (.named 12)],[]⟩ ⟨[vB],[]⟩ [.one (.named 12)] [oB]
def zdJ (a1:za):Option (Bool×Unit):=zoj.F (a1,())
def uz (x:Int×za×Unit):Option (yN (Int×za×Unit) (za×Unit) (Bool×Unit)):=yn zjG (exec zjG (yC Tryz.f14 2)) 17 zo4 x
def zwq:Cfg E:=cf1 [(52,[zeY])]
def zjz:zL E:=sp zwq Tryz.f56 ⟨[vU,.ptr 0],[.box false [vI]]⟩ ⟨[vB],[.gone]⟩ [oU,oI] [oB]
def zjx (a1:zB) (a2:Int):Option (Bool×Unit):=zjz.F (a1,a2,())
def zzL:Cfg E:=cf1 [(9,[zfY]),(56,[zjz]),(57,[U7]),(58,[zb5])]
def zoH:zL E:=sp zzL Tryz.f16 ⟨[.val (.named 12),.val (.named 12)],[]⟩ ⟨[vB],[]⟩ [.one (.named 12),.one (.named 12)] [oB]
def zdN (a1:za) (a2:za):Option (Bool×Unit):=zoH.F (a1,a2,())
def zmU:Cfg E:=cf1 [(6,[zio]),(9,[zfY]),(12,[zcc]),(13,[zmG]),(14,[zoj]),(15,[zdO]),(16,[zoH]),(17,[zig]),(18,[zeb]),(19,[zin]),(20,[zec]),(21,[zkW]),(22,[zhZ])]
def zaa:zL E:=sp zmU Tryz.f4 ⟨[],[]⟩ ⟨[vB],[]⟩ [] [oB]
def zaf:Option (Bool×Unit):=zaa.F (())
def zhs:Cfg E:=cf [] [] [] [(0,some 0)] [] []
def ZV:zL E:=sp zhs Tryz.f23 ⟨[.ptr 0],[.box true [.val (.slice (.int .u8)),vI]]⟩ ⟨[vI],[.box true [.val (.slice (.int .u8)),vI]]⟩ [.str 17] [oI,.str 17]
def zT (a1:zY):Option (Int×zY×Unit):=ZV.F (a1,())
def zjA:Cfg E:=cf [(23,[ZV])] [] [] [(0,some 0)] [] []
def W6:zL E:=sp zjA Tryz.f25 ⟨[.ptr 0,vI,vI],[.box true [.val (.slice (.int .u8)),vI]]⟩ ⟨[.val (.named 0)],[.box true [.val (.slice (.int .u8)),vI]]⟩ [oI,oI,.str 17] [.one (.named 0),.str 17]
def Vf (a1:Int) (a2:Int) (a3:zY):Option (zE×zY×Unit):=W6.F (a1,a2,a3,())
def zfw:zZ E:=lo [2,3,4,5,6] ⟨[.ptr 0,.ptr 1,.ptr 2,vI,vI],[.box true (L 0++L 0++[vI,.own 3,vU,.own 4,.own 5,.own 6]),.box true [.val (.slice (.int .u8)),vI],.box true (L 0++L 0++[vI,.own 7,vU,.own 8,.own 9,.own 10]),.row true z7,.row true z7,.row true (.slice (.named 0)),.row true (.named 1),.row true z7,.row true z7,.row true (.slice (.named 0)),.row true (.named 1)]⟩ 0 [2,3,4,5] ⟨[.ptr 0,.ptr 1,.ptr 2,vI],[.box true (L 0++L 0++[vI,.own 3,vU,.own 4,.own 5,.own 6]),.box true [.val (.slice (.int .u8)),vI],.box true (L 0++L 0++[vI,.own 7,vU,.own 8,.own 9,.own 10]),.row true z7,.row true z7,.row true (.slice (.named 0)),.row true (.named 1),.row true z7,.row true z7,.row true (.slice (.named 0)),.row true (.named 1)]⟩ [] ⟨[],[]⟩ [oI,oI,oI,oI,oI,oI,oI,oI,oI,oI,oI,oU,.str 17,oI,oI,oI,oI,oI,oI,oI,oI,oI,oU,.one zP,.one zP,.one (.slice (.slice (.named 0))),.one (.slice (.named 1)),.one zP,.one zP,.one (.slice (.slice (.named 0))),.one (.slice (.named 1))] [oI,oI,oI,oI,oI,oI,oI,oI,oI,oI,oU,.str 17,oI,oI,oI,oI,oI,oI,oI,oI,oI,oU,.one zP,.one zP,.one (.slice (.slice (.named 0))),.one (.slice (.named 1)),.one zP,.one zP,.one (.slice (.slice (.named 0))),.one (.slice (.named 1))] []
def zeU:zZ E:=lo [2,3,4,5,6,7,8] ⟨[.ptr 0,.ptr 1,.ptr 2,vI,vI,.own 3,vI],[.box true (L 0++L 0++[vI,.own 4,vU,.own 5,.own 6,.own 7]),.box true [.val (.slice (.int .u8)),vI],.box true (L 0++L 0++[vI,.own 8,vU,.own 9,.own 10,.own 11]),.row true zp,.row true z7,.row true z7,.row true (.slice (.named 0)),.row true (.named 1),.row true z7,.row true z7,.row true (.slice (.named 0)),.row true (.named 1)]⟩ 2 [2,3,4,5,6,7] ⟨[.ptr 0,.ptr 1,.ptr 2,vI,vI,.own 3],[.box true (L 0++L 0++[vI,.own 4,vU,.own 5,.own 6,.own 7]),.box true [.val (.slice (.int .u8)),vI],.box true (L 0++L 0++[vI,.own 8,vU,.own 9,.own 10,.own 11]),.row true zp,.row true z7,.row true z7,.row true (.slice (.named 0)),.row true (.named 1),.row true z7,.row true z7,.row true (.slice (.named 0)),.row true (.named 1)]⟩ [] ⟨[],[]⟩ [oI,oI,oI,oI,oI,oI,oI,oI,oI,oI,oI,oI,oU,.str 17,oI,oI,oI,oI,oI,oI,oI,oI,oI,oU,oL,.one zP,.one zP,.one (.slice (.slice (.named 0))),.one (.slice (.named 1)),.one zP,.one zP,.one (.slice (.slice (.named 0))),.one (.slice (.named 1))] [oI,oI,oI,oI,oI,oI,oI,oI,oI,oI,oI,oU,.str 17,oI,oI,oI,oI,oI,oI,oI,oI,oI,oU,oL,.one zP,.one zP,.one (.slice (.slice (.named 0))),.one (.slice (.named 1)),.one zP,.one zP,.one (.slice (.slice (.named 0))),.one (.slice (.named 1))] []
def zeK:zZ E:=lo [2,3,4,5,9] ⟨[.ptr 0,.ptr 1,.ptr 2,vI,vI],[.box true (L 0++L 0++[vI,.own 3,vU,.own 4,.own 5,.own 6]),.box true [.val (.slice (.int .u8)),vI],.box true (L 0++L 0++[vI,.own 7,vU,.own 8,.own 9,.own 10]),.row true z7,.row true z7,.row true (.slice (.named 0)),.row true (.named 1),.row true z7,.row true z7,.row true (.slice (.named 0)),.row true (.named 1)]⟩ 4 [2,4] ⟨[.ptr 0,.ptr 1],[.box true (L 0++L 0++[vI,.own 2,vU,.own 3,.own 4,.own 5]),.box true (L 0++L 0++[vI,.own 6,vU,.own 7,.own 8,.own 9]),.row true z7,.row true z7,.row true (.slice (.named 0)),.row true (.named 1),.row true z7,.row true z7,.row true (.slice (.named 0)),.row true (.named 1)]⟩ [] ⟨[],[]⟩ [oI,oI,oI,oI,oI,oI,oI,oI,oI,oI,oI,oU,.str 17,oI,oI,oI,oI,oI,oI,oI,oI,oI,oU,.one zP,.one zP,.one (.slice (.slice (.named 0))),.one (.slice (.named 1)),.one zP,.one zP,.one (.slice (.slice (.named 0))),.one (.slice (.named 1))] [oI,oI,oI,oI,oI,oI,oI,oI,oI,oU,oI,oI,oI,oI,oI,oI,oI,oI,oI,oU,.one zP,.one zP,.one (.slice (.slice (.named 0))),.one (.slice (.named 1)),.one zP,.one zP,.one (.slice (.slice (.named 0))),.one (.slice (.named 1))] []
def zeT:zZ E:=lo [2,3,4,5,9,10,11] ⟨[.ptr 0,.ptr 1,.ptr 2,vI,vI,.own 3,vI],[.box true (L 0++L 0++[vI,.own 4,vU,.own 5,.own 6,.own 7]),.box true [.val (.slice (.int .u8)),vI],.box true (L 0++L 0++[vI,.own 8,vU,.own 9,.own 10,.own 11]),.row true zp,.row true z7,.row true z7,.row true (.slice (.named 0)),.row true (.named 1),.row true z7,.row true z7,.row true (.slice (.named 0)),.row true (.named 1)]⟩ 6 [2,3,4,5,9,10] ⟨[.ptr 0,.ptr 1,.ptr 2,vI,vI,.own 3],[.box true (L 0++L 0++[vI,.own 4,vU,.own 5,.own 6,.own 7]),.box true [.val (.slice (.int .u8)),vI],.box true (L 0++L 0++[vI,.own 8,vU,.own 9,.own 10,.own 11]),.row true zp,.row true z7,.row true z7,.row true (.slice (.named 0)),.row true (.named 1),.row true z7,.row true z7,.row true (.slice (.named 0)),.row true (.named 1)]⟩ [] ⟨[],[]⟩ [oI,oI,oI,oI,oI,oI,oI,oI,oI,oI,oI,oI,oU,.str 17,oI,oI,oI,oI,oI,oI,oI,oI,oI,oU,oL,.one zP,.one zP,.one (.slice (.slice (.named 0))),.one (.slice (.named 1)),.one zP,.one zP,.one (.slice (.slice (.named 0))),.one (.slice (.named 1))] [oI,oI,oI,oI,oI,oI,oI,oI,oI,oI,oI,oU,.str 17,oI,oI,oI,oI,oI,oI,oI,oI,oI,oU,oL,.one zP,.one zP,.one (.slice (.slice (.named 0))),.one (.slice (.named 1)),.one zP,.one zP,.one (.slice (.slice (.named 0))),.one (.slice (.named 1))] []
def zeS:zZ E:=lo [2,3,4,5,9,10,12,13] ⟨[.ptr 0,.ptr 1,.ptr 2,vI,vI,.own 3,.own 4,vI],[.box true (L 0++L 0++[vI,.own 5,vU,.own 6,.own 7,.own 8]),.box true [.val (.slice (.int .u8)),vI],.box true (L 0++L 0++[vI,.own 9,vU,.own 10,.own 11,.own 12]),.row true zp,.row true (.named 0),.row true z7,.row true z7,.row true (.slice (.named 0)),.row true (.named 1),.row true z7,.row true z7,.row true (.slice (.named 0)),.row true (.named 1)]⟩ 8 [2,3,4,5,9,10,12] ⟨[.ptr 0,.ptr 1,.ptr 2,vI,vI,.own 3,.own 4],[.box true (L 0++L 0++[vI,.own 5,vU,.own 6,.own 7,.own 8]),.box true [.val (.slice (.int .u8)),vI],.box true (L 0++L 0++[vI,.own 9,vU,.own 10,.own 11,.own 12]),.row true zp,.row true (.named 0),.row true z7,.row true z7,.row true (.slice (.named 0)),.row true (.named 1),.row true z7,.row true z7,.row true (.slice (.named 0)),.row true (.named 1)]⟩ [] ⟨[],[]⟩ [oI,oI,oI,oI,oI,oI,oI,oI,oI,oI,oI,oI,oU,.str 17,oI,oI,oI,oI,oI,oI,oI,oI,oI,oU,oL,.one (.slice (.named 0)),.one zP,.one zP,.one (.slice (.slice (.named 0))),.one (.slice (.named 1)),.one zP,.one zP,.one (.slice (.slice (.named 0))),.one (.slice (.named 1))] [oI,oI,oI,oI,oI,oI,oI,oI,oI,oI,oI,oU,.str 17,oI,oI,oI,oI,oI,oI,oI,oI,oI,oU,oL,.one (.slice (.named 0)),.one zP,.one zP,.one (.slice (.slice (.named 0))),.one (.slice (.named 1)),.one zP,.one zP,.one (.slice (.slice (.named 0))),.one (.slice (.named 1))] []
def xS:Cfg E:=cf [(23,[ZV]),(24,[zaJ]),(25,[W6])] [(7,zfw),(11,zeU),(17,zeK),(21,zeT),(28,zeS)] [] [] [] []
def zdd:zL E:=sp xS Tryz.f5 ⟨[.val (.slice (.int .u8))],[]⟩ ⟨[.val (.named 3)],[]⟩ [.one (.slice (.int .u8))] [.one (.named 3)]
def zdo (a1:List (BitVec 8)):Option (zd×Unit):=zdd.F (a1,())
def Wu (x:Int×Int×Int×Int×Int×Int×Int×Int×Int×Int×Int×zB×zY×Int×Int×Int×Int×Int×Int×Int×Int×Int×zB×zC×zC×(List (List zE))×(List zk)×zC×zC×(List (List zE))×(List zk)×Unit):Option (yN (Int×Int×Int×Int×Int×Int×Int×Int×Int×Int×Int×zB×zY×Int×Int×Int×Int×Int×Int×Int×Int×Int×zB×zC×zC×(List (List zE))×(List zk)×zC×zC×(List (List zE))×(List zk)×Unit) (Int×Int×Int×Int×Int×Int×Int×Int×Int×Int×zB×zY×Int×Int×Int×Int×Int×Int×Int×Int×Int×zB×zC×zC×(List (List zE))×(List zk)×zC×zC×(List (List zE))×(List zk)×Unit) (Unit)):=yn xS (exec xS (yC Tryz.f5 7)) 154 zfw x
def XG (x:Int×Int×Int×Int×Int×Int×Int×Int×Int×Int×Int×Int×zB×zY×Int×Int×Int×Int×Int×Int×Int×Int×Int×zB×zA×zC×zC×(List (List zE))×(List zk)×zC×zC×(List (List zE))×(List zk)×Unit):Option (yN (Int×Int×Int×Int×Int×Int×Int×Int×Int×Int×Int×Int×zB×zY×Int×Int×Int×Int×Int×Int×Int×Int×Int×zB×zA×zC×zC×(List (List zE))×(List zk)×zC×zC×(List (List zE))×(List zk)×Unit) (Int×Int×Int×Int×Int×Int×Int×Int×Int×Int×Int×zB×zY×Int×Int×Int×Int×Int×Int×Int×Int×Int×zB×zA×zC×zC×(List (List zE))×(List zk)×zC×zC×(List (List zE))×(List zk)×Unit) (Unit)):=yn xS (exec xS (yC Tryz.f5 11)) 154 zeU x
def XH (x:Int×Int×Int×Int×Int×Int×Int×Int×Int×Int×Int×zB×zY×Int×Int×Int×Int×Int×Int×Int×Int×Int×zB×zC×zC×(List (List zE))×(List zk)×zC×zC×(List (List zE))×(List zk)×Unit):Option (yN (Int×Int×Int×Int×Int×Int×Int×Int×Int×Int×Int×zB×zY×Int×Int×Int×Int×Int×Int×Int×Int×Int×zB×zC×zC×(List (List zE))×(List zk)×zC×zC×(List (List zE))×(List zk)×Unit) (Int×Int×Int×Int×Int×Int×Int×Int×Int×zB×Int×Int×Int×Int×Int×Int×Int×Int×Int×zB×zC×zC×(List (List zE))×(List zk)×zC×zC×(List (List zE))×(List zk)×Unit) (Unit)):=yn xS (exec xS (yC Tryz.f5 17)) 154 zeK x
def XL (x:Int×Int×Int×Int×Int×Int×Int×Int×Int×Int×Int×Int×zB×zY×Int×Int×Int×Int×Int×Int×Int×Int×Int×zB×zA×zC×zC×(List (List zE))×(List zk)×zC×zC×(List (List zE))×(List zk)×Unit):Option (yN (Int×Int×Int×Int×Int×Int×Int×Int×Int×Int×Int×Int×zB×zY×Int×Int×Int×Int×Int×Int×Int×Int×Int×zB×zA×zC×zC×(List (List zE))×(List zk)×zC×zC×(List (List zE))×(List zk)×Unit) (Int×Int×Int×Int×Int×Int×Int×Int×Int×Int×Int×zB×zY×Int×Int×Int×Int×Int×Int×Int×Int×Int×zB×zA×zC×zC×(List (List zE))×(List zk)×zC×zC×(List (List zE))×(List zk)×Unit) (Unit)):=yn xS (exec xS (yC Tryz.f5 21)) 154 zeT x
def Z8 (x:Int×Int×Int×Int×Int×Int×Int×Int×Int×Int×Int×Int×zB×zY×Int×Int×Int×Int×Int×Int×Int×Int×Int×zB×zA×(List zE)×zC×zC×(List (List zE))×(List zk)×zC×zC×(List (List zE))×(List zk)×Unit):Option (yN (Int×Int×Int×Int×Int×Int×Int×Int×Int×Int×Int×Int×zB×zY×Int×Int×Int×Int×Int×Int×Int×Int×Int×zB×zA×(List zE)×zC×zC×(List (List zE))×(List zk)×zC×zC×(List (List zE))×(List zk)×Unit) (Int×Int×Int×Int×Int×Int×Int×Int×Int×Int×Int×zB×zY×Int×Int×Int×Int×Int×Int×Int×Int×Int×zB×zA×(List zE)×zC×zC×(List (List zE))×(List zk)×zC×zC×(List (List zE))×(List zk)×Unit) (Unit)):=yn xS (exec xS (yC Tryz.f5 28)) 154 zeS x
def zeQ:zZ E:=lo [1,2,3,7,8] ⟨[.val (.slice (.int .u8)),vI,.ptr 0,.own 1,vI],[.box true (L 3),.row true (.named 1)]⟩ 0 [7] ⟨[.own 0],[.row true (.named 1)]⟩ [] ⟨[],[]⟩ [.one (.slice (.int .u8)),oI,oI,.str 3,.one (.slice (.named 1))] [.one (.slice (.named 1))] []
def zdI:zZ E:=lo [1,2,3,7,8,10,11] ⟨[.val (.slice (.int .u8)),vI,.ptr 0,.own 1,vI,.ptr 2,vI],[.box true (L 3),.row true (.named 1),.box true [vI,vI]]⟩ 2 [1,2,3,7,8] ⟨[.val (.slice (.int .u8)),vI,.ptr 0,.own 1,vI],[.box true (L 3),.row true (.named 1)]⟩ [] ⟨[],[]⟩ [.one (.slice (.int .u8)),oI,oI,oI,.str 3,.one (.slice (.named 1)),.str 1] [.one (.slice (.int .u8)),oI,oI,.str 3,.one (.slice (.named 1))] []
def YD:Cfg E:=cf [] [(3,zeQ),(12,zdI)] [] [] [] []
def zcu:zL E:=sp YD Tryz.f7 ⟨[.val (.named 3),.val (.slice (.int .u8)),vI],[]⟩ ⟨[.own 0],[.row true (.named 1)]⟩ [.one (.named 3),.one (.slice (.int .u8)),oI] [.one (.slice (.named 1))]
def V9 (a1:zd) (a2:List (BitVec 8)) (a3:Int):Option ((List zk)×Unit):=zcu.F (a1,a2,a3,())
def zaA (x:(List (BitVec 8))×Int×Int×zd×(List zk)×Unit):Option (yN ((List (BitVec 8))×Int×Int×zd×(List zk)×Unit) ((List zk)×Unit) (Unit)):=yn YD (exec YD (yC Tryz.f7 3)) 71 zeQ x
def uy (x:(List (BitVec 8))×Int×Int×Int×zd×(List zk)×zk×Unit):Option (yN ((List (BitVec 8))×Int×Int×Int×zd×(List zk)×zk×Unit) ((List (BitVec 8))×Int×Int×zd×(List zk)×Unit) (Unit)):=yn YD (exec YD (yC Tryz.f7 12)) 71 zdI x
def zcd:zZ E:=lo [5,7,25,26,27] ⟨[vB,.ptr 0,.own 1,vI,vI],[.box true (L 12),.row true (.named 1)]⟩ 0 [5] ⟨[vB],[]⟩ [4] ⟨[vB],[]⟩ [oB,oI,oI,.str 12,.one (.slice (.named 1))] [oB] [oB]
def Vz:Cfg E:=cf [(4,[zaa]),(5,[zdd]),(6,[zio]),(7,[zcu]),(8,[zd9]),(9,[zfY]),(10,[zih]),(11,[zi0])] [(7,zcd)] [] [] [] []
def zaz:zL E:=sp Vz Tryz.f3 ⟨[.val (.slice (.int .u8)),.val (.slice (.int .u8))],[]⟩ ⟨[vB],[]⟩ [.one (.slice (.int .u8)),.one (.slice (.int .u8))] [oB]
def Z2 (a1:List (BitVec 8)) (a2:List (BitVec 8)):Option (Bool×Unit):=zaz.F (a1,a2,())
def u4 (x:Bool×Int×Int×za×(List zk)×Unit):Option (yN (Bool×Int×Int×za×(List zk)×Unit) (Bool×Unit) (Bool×Unit)):=yn Vz (exec Vz (yC Tryz.f3 7)) 137 zcd x
end
end Go.Pe.G
namespace Go.Pe.G
open Go.Pe
theorem zrh (a1:Int) (a2:zw):zlw a1 a2 =
 bif decide (a1<0) then
 some (true,())
 else
 some (decide (((a2.Objs.length:Int))<a1),()):=zF
theorem uB (s1:zA) (s2:Int) (s3:Int) (s4:zw):uZ (s1,s2,s3,s4,()) =
 bif decide (s3<s2) then
 (idx s1 s3).bind fun x1 =>
 (zlw x1 s4).bind fun y2 =>
 bif y2.1 then
  some (.ret (s3,()))
 else
  some (.again (s1,s2,w64 (s3+1),s4,()))
 else
 some (.brk (())):=by kernel_rfl
theorem Va (a1:zA) (a2:zw):ZI a1 a2 =
 (yc uZ (a1,(a1.length:Int),0,a2,())).bind fun st=>match st with
  | .again _=>none
  | .brk y1 =>
  some (-1,())
  | .ret y1 =>
  some (y1.1,()):=zF
theorem X8 (a1:zA) (a2:zw):wK a1 a2 =
 (ZI a1 a2).bind fun y1 =>
 some (decide (0<=y1.1),()):=zF
theorem ztO (a1:zA) (a2:zw):zpi a1 a2 =
 bif !(decide (((a1.length:Int))=a2.Slots)) then
 some (true,())
 else
 (wK a1 a2).bind fun y1 =>
 some (y1.1,()):=zF
theorem uE (s1:zC) (s2:Int) (s3:Int) (s4:zw):Zc (s1,s2,s3,s4,()) =
 bif decide (s3<s2) then
 (idx s1 s3).bind fun x1 =>
 (zpi x1 s4).bind fun y2 =>
 bif y2.1 then
  some (.ret (s3,()))
 else
  some (.again (s1,s2,w64 (s3+1),s4,()))
 else
 some (.brk (())):=by kernel_rfl
theorem WP (a1:zC) (a2:zw):ZJ a1 a2 =
 (yc Zc (a1,(a1.length:Int),0,a2,())).bind fun st=>match st with
  | .again _=>none
  | .brk y1 =>
  some (-1,())
  | .ret y1 =>
  some (y1.1,()):=zF
theorem Wb (a1:zC) (a2:zw):wS a1 a2 =
 (ZJ a1 a2).bind fun y1 =>
 some (decide (0<=y1.1),()):=zF
theorem zno (a1:zw):Xm a1 =
 bif decide (1<=a1.Slots) then
 bif decide (a1.Slots<=4) then
  bif decide (((a1.Objs.length:Int))<=64) then
  (wS a1.Objs a1).bind fun y1 =>
  some (!y1.1,())
  else
  some (false,())
 else
  some (false,())
 else
 some (false,()):=zF
theorem zx3 (a1:Int):Uy a1 =
 bif decide (a1<1) then
 some (0#64,())
 else
 bif decide ((w64 (64-(bif decide (64<a1) then 64 else a1)))<0) then
  none
 else
  some (18446744073709551615#64 >>> min (w64 (64-(bif decide (64<a1) then 64 else a1))).toNat 64,()):=zF
theorem WL (a1:zB) (a2:zB):WK a1 a2 =
 some (decide ((a1&&& ~~~a2)=0#64),()):=zF
theorem zuL (a1:Int) (a2:Int) (a3:Int):Zh a1 a2 a3 =
 bif decide (a2<=a1) then
 some (decide (a1<=a3),())
 else
 some (false,()):=zF
theorem zqf (a1:zd):zdl a1 =
 (Zh a1.Workers 1 16).bind fun y1 =>
 bif y1.1 then
 (Zh a1.Mutators 0 16).bind fun y2 =>
 bif y2.1 then
  (Zh a1.Cap 1 16).bind fun y3 =>
  bif y3.1 then
  (Zh a1.Buf 1 8).bind fun y4 =>
  bif y4.1 then
   (Zh a1.Bin 1 8).bind fun y5 =>
   bif y5.1 then
   bif decide (0<=(bif decide (a1.Limit<a1.Price) then a1.Limit else a1.Price)) then
    some (decide ((bif decide (a1.Price<a1.Limit) then a1.Limit else a1.Price)<=1000000),())
   else
    some (false,())
   else
   some (false,())
  else
   some (false,())
  else
  some (false,())
 else
  some (false,())
 else
 some (false,()):=zF
theorem ztk (a1:Int) (a2:Int):zpx a1 a2 =
 (Zh a1 0 a2).bind fun y1 =>
 some (!y1.1,()):=zF
theorem uT (s1:zA) (s2:Int) (s3:Int) (s4:Int):Zt (s1,s2,s3,s4,()) =
 bif decide (s3<s2) then
 (idx s1 s3).bind fun x1 =>
 (zpx x1 s4).bind fun y2 =>
 bif y2.1 then
  some (.ret (s3,()))
 else
  some (.again (s1,s2,w64 (s3+1),s4,()))
 else
 some (.brk (())):=by kernel_rfl
theorem VG (a1:zA) (a2:Int):ZX a1 a2 =
 (yc Zt (a1,(a1.length:Int),0,a2,())).bind fun st=>match st with
  | .again _=>none
  | .brk y1 =>
  some (-1,())
  | .ret y1 =>
  some (y1.1,()):=zF
theorem WM (a1:zA) (a2:Int):va a1 a2 =
 (ZX a1 a2).bind fun y1 =>
 some (decide (0<=y1.1),()):=zF
theorem ztC (a1:Int) (a2:Int):yv a1 a2 =
 bif decide (0<=a1) then
 some (decide (a1<(bif decide (4<a2) then 4 else a2)),())
 else
 some (false,()):=zF
theorem zwZ (a1:zE) (a2:Int) (a3:Int):zlE a1 a2 a3 =
 bif decide (0<=a1.S) then
 bif decide (a1.Kind=1) then
  bif decide (a1.Kind=1) then
  (yv a1.R a2).bind fun y1 =>
  bif y1.1 then
   (yv a1.A a2).bind fun y2 =>
   bif y2.1 then
   some (decide (a1.S<(bif decide (4<a3) then 4 else a3)),())
   else
   some (false,())
  else
   some (false,())
  else
  bif decide (a1.Kind=4) then
   (yv a1.R a2).bind fun y3 =>
   bif y3.1 then
   (yv a1.A a2).bind fun y4 =>
   bif y4.1 then
    some (decide (a1.S=0),())
   else
    some (false,())
   else
   some (false,())
  else
   bif decide (a1.Kind=3) then
   bif decide (a1.Kind=3) then
    (yv a1.R a2).bind fun y5 =>
    bif y5.1 then
    bif decide (a1.A=0) then
     some (decide (a1.S=0),())
    else
     some (false,())
    else
    some (false,())
   else
    some (false,())
   else
   bif decide (a1.Kind=5) then
    (yv a1.R a2).bind fun y6 =>
    bif y6.1 then
    bif decide (a1.A=0) then
     some (decide (a1.S=0),())
    else
     some (false,())
    else
    some (false,())
   else
    some (false,())
 else
  bif decide (a1.Kind=2) then
  (yv a1.R a2).bind fun y7 =>
  bif y7.1 then
   (yv a1.A a2).bind fun y8 =>
   bif y8.1 then
   some (decide (a1.S<(bif decide (4<a3) then 4 else a3)),())
   else
   some (false,())
  else
   some (false,())
  else
  bif decide (a1.Kind=4) then
   (yv a1.R a2).bind fun y9 =>
   bif y9.1 then
   (yv a1.A a2).bind fun y10 =>
   bif y10.1 then
    some (decide (a1.S=0),())
   else
    some (false,())
   else
   some (false,())
  else
   bif decide (a1.Kind=3) then
   bif decide (a1.Kind=3) then
    (yv a1.R a2).bind fun y11 =>
    bif y11.1 then
    bif decide (a1.A=0) then
     some (decide (a1.S=0),())
    else
     some (false,())
    else
    some (false,())
   else
    some (false,())
   else
   bif decide (a1.Kind=5) then
    (yv a1.R a2).bind fun y12 =>
    bif y12.1 then
    bif decide (a1.A=0) then
     some (decide (a1.S=0),())
    else
     some (false,())
    else
    some (false,())
   else
    some (false,())
 else
 bif decide (a1.Kind=1) then
  bif decide (a1.Kind=1) then
  (yv a1.R a2).bind fun y13 =>
  bif y13.1 then
   (yv a1.A a2).bind fun y14 =>
   bif y14.1 then
   some (false,())
   else
   some (false,())
  else
   some (false,())
  else
  bif decide (a1.Kind=4) then
   (yv a1.R a2).bind fun y15 =>
   bif y15.1 then
   (yv a1.A a2).bind fun y16 =>
   bif y16.1 then
    some (decide (a1.S=0),())
   else
    some (false,())
   else
   some (false,())
  else
   bif decide (a1.Kind=3) then
   bif decide (a1.Kind=3) then
    (yv a1.R a2).bind fun y17 =>
    bif y17.1 then
    bif decide (a1.A=0) then
     some (decide (a1.S=0),())
    else
     some (false,())
    else
    some (false,())
   else
    some (false,())
   else
   bif decide (a1.Kind=5) then
    (yv a1.R a2).bind fun y18 =>
    bif y18.1 then
    bif decide (a1.A=0) then
     some (decide (a1.S=0),())
    else
     some (false,())
    else
    some (false,())
   else
    some (false,())
 else
  bif decide (a1.Kind=2) then
  (yv a1.R a2).bind fun y19 =>
  bif y19.1 then
   (yv a1.A a2).bind fun y20 =>
   bif y20.1 then
   some (false,())
   else
   some (false,())
  else
   some (false,())
  else
  bif decide (a1.Kind=4) then
   (yv a1.R a2).bind fun y21 =>
   bif y21.1 then
   (yv a1.A a2).bind fun y22 =>
   bif y22.1 then
    some (decide (a1.S=0),())
   else
    some (false,())
   else
   some (false,())
  else
   bif decide (a1.Kind=3) then
   bif decide (a1.Kind=3) then
    (yv a1.R a2).bind fun y23 =>
    bif y23.1 then
    bif decide (a1.A=0) then
     some (decide (a1.S=0),())
    else
     some (false,())
    else
    some (false,())
   else
    some (false,())
   else
   bif decide (a1.Kind=5) then
    (yv a1.R a2).bind fun y24 =>
    bif y24.1 then
    bif decide (a1.A=0) then
     some (decide (a1.S=0),())
    else
     some (false,())
    else
    some (false,())
   else
    some (false,()):=zF
theorem zuu (a1:zE) (a2:Int) (a3:Int):zq7 a1 a2 a3 =
 (zlE a1 a2 a3).bind fun y1 =>
 some (!y1.1,()):=zF
theorem vG (s1:List zE) (s2:Int) (s3:Int) (s4:Int) (s5:Int):uh (s1,s2,s3,s4,s5,()) =
 bif decide (s3<s2) then
 (idx s1 s3).bind fun x1 =>
 (zq7 x1 s4 s5).bind fun y2 =>
 bif y2.1 then
  some (.ret (s3,()))
 else
  some (.again (s1,s2,w64 (s3+1),s4,s5,()))
 else
 some (.brk (())):=by kernel_rfl
theorem XE (a1:List zE) (a2:Int) (a3:Int):uI a1 a2 a3 =
 (yc uh (a1,(a1.length:Int),0,a2,a3,())).bind fun st=>match st with
  | .again _=>none
  | .brk y1 =>
  some (-1,())
  | .ret y1 =>
  some (y1.1,()):=zF
theorem Y5 (a1:List zE) (a2:Int) (a3:Int):ui a1 a2 a3 =
 (uI a1 a2 a3).bind fun y1 =>
 some (decide (0<=y1.1),()):=zF
theorem zxu (a1:List zE) (a2:Int) (a3:Int):zoi a1 a2 a3 =
 bif decide (((a1.length:Int))<=64) then
 (ui a1 a2 a3).bind fun y1 =>
 some (!y1.1,())
 else
 some (false,()):=zF
theorem zwe (a1:zk):zlZ a1 =
 bif decide (a1.Kind=0) then
 some (decide (a1.N=0),())
 else
 bif decide (a1.Kind=1) then
  bif decide (1<=a1.N) then
  some (decide (a1.N<=16),())
  else
  some (false,())
 else
  bif decide (a1.Kind=2) then
  bif decide (1<=a1.N) then
   some (decide (a1.N<=16),())
  else
   some (false,())
  else
  some (false,()):=zF
theorem zGF (a1:zk) (a2:Int) (a3:Int):zo3 a1 a2 a3 =
 (zlZ a1).bind fun y1 =>
 bif !y1.1 then
 some (true,())
 else
 bif decide (a1.Kind=1) then
  some (decide (a2<a1.N),())
 else
  bif decide (a1.Kind=2) then
  some (decide (a3<a1.N),())
  else
  some (decide (0<a1.N),()):=zF
theorem Yp (s1:List zk) (s2:Int) (s3:Int) (s4:Int) (s5:Int):vA (s1,s2,s3,s4,s5,()) =
 bif decide (s3<s2) then
 (idx s1 s3).bind fun x1 =>
 (zo3 x1 s4 s5).bind fun y2 =>
 bif y2.1 then
  some (.ret (s3,()))
 else
  some (.again (s1,s2,w64 (s3+1),s4,s5,()))
 else
 some (.brk (())):=by kernel_rfl
theorem YR (a1:List zk) (a2:Int) (a3:Int):vR a1 a2 a3 =
 (yc vA (a1,(a1.length:Int),0,a2,a3,())).bind fun st=>match st with
  | .again _=>none
  | .brk y1 =>
  some (-1,())
  | .ret y1 =>
  some (y1.1,()):=zF
theorem Yr (a1:List zk) (a2:Int) (a3:Int):vz a1 a2 a3 =
 (vR a1 a2 a3).bind fun y1 =>
 some (decide (0<=y1.1),()):=zF
theorem zwb (a1:List zk) (a2:Int) (a3:Int):zmB a1 a2 a3 =
 (vz a1 a2 a3).bind fun y1 =>
 some (!y1.1,()):=zF
theorem ziR (s1:zC) (s2:Int) (s3:Int) (s4:zd) (s5:Int):znB (s1,s2,s3,s4,s5,()) =
 bif decide (s3<s2) then
 (idx s1 s3).bind fun x1 =>
 (Zh ((x1.length:Int)) 1 4).bind fun y2 =>
 bif !y2.1 then
  some (.ret (false,()))
 else
  (va x1 s5).bind fun y3 =>
  bif y3.1 then
  some (.ret (false,()))
  else
  (idx s4.Progs s3).bind fun x4 =>
  (zoi x4 ((x1.length:Int)) s4.H.Slots).bind fun y5 =>
  bif !y5.1 then
   some (.ret (false,()))
  else
   some (.again (s1,s2,w64 (s3+1),s4,s5,()))
 else
 some (.brk (s4,())):=by kernel_rfl
theorem zwA (a1:zd):zmH a1 =
 (zdl a1).bind fun y1 =>
 bif !y1.1 then
 some (false,())
 else
 (Xm a1.H).bind fun y2 =>
 bif !y2.1 then
  some (false,())
 else
  (Zh a1.Most ((a1.H.Objs.length:Int)) 64).bind fun y3 =>
  bif !y3.1 then
  some (false,())
  else
  (Uy ((a1.H.Objs.length:Int))).bind fun y4 =>
  (WK a1.Roots y4.1).bind fun y5 =>
  bif !y5.1 then
   some (false,())
  else
   bif !(decide (((a1.Regs.length:Int))=a1.Mutators)) then
   some (false,())
   else
   bif !(decide (((a1.Progs.length:Int))=a1.Mutators)) then
    some (false,())
   else
    (yc znB (a1.Regs,(a1.Regs.length:Int),0,a1,(a1.H.Objs.length:Int),())).bind fun st=>match st with
     | .again _=>none
     | .brk y6 =>
     bif decide (((y6.1.Picks.length:Int))<=100000) then
     (zmB y6.1.Picks y6.1.Workers y6.1.Mutators).bind fun y7 =>
     some (y7.1,())
     else
     some (false,())
     | .ret y6 =>
     some (y6.1,()):=zF
theorem zBJ (a1:Int):znL a1 =
 bif decide (a1<1) then
 some (0#64,())
 else
 bif decide (64<a1) then
  some (0#64,())
 else
  bif decide ((w64 (a1-1))<0) then
  none
  else
  some (1#64 <<< min (w64 (a1-1)).toNat 64,()):=zF
theorem zA6 (a1:zB) (a2:Int):YO a1 a2 =
 (znL a2).bind fun y1 =>
 some (a1|||y1.1,()):=zF
theorem zxm (s1:zB) (s2:zA) (s3:Int) (s4:Int):zoX (s1,s2,s3,s4,()) =
 bif decide (s4<s3) then
 (idx s2 s4).bind fun x1 =>
 (YO s1 x1).bind fun y2 =>
 some (.again (y2.1,s2,s3,w64 (s4+1),()))
 else
 some (.brk (s1,())):=by kernel_rfl
theorem zCw (a1:zA):zhX a1 =
 (yc zoX (0#64,a1,(a1.length:Int),0,())).bind fun st=>match st with
  | .again _=>none
  | .brk y1 =>
  some (y1.1,())
  | .ret y1 =>
  none:=zF
theorem zrT (s1:zB) (s2:zC) (s3:Int) (s4:Int):zfS (s1,s2,s3,s4,()) =
 bif decide (s4<s3) then
 (idx s2 s4).bind fun x1 =>
 (zhX x1).bind fun y2 =>
 some (.again (s1|||y2.1,s2,s3,w64 (s4+1),()))
 else
 some (.brk (s1,())):=by kernel_rfl
theorem zwr (a1:zd):zgi a1 =
 (yc zfS (a1.Roots,a1.Regs,(a1.Regs.length:Int),0,())).bind fun st=>match st with
  | .again _=>none
  | .brk y1 =>
  some (y1.1,())
  | .ret y1 =>
  none:=zF
theorem zo7 (a1:zB):ziS a1 =
 some (zDV (((((((((((((a1 >>> 1)&&&6148914691236517205#64)+(a1&&&6148914691236517205#64)) >>> 2)&&&3689348814741910323#64)+((((a1 >>> 1)&&&6148914691236517205#64)+(a1&&&6148914691236517205#64))&&&3689348814741910323#64)) >>> 4)+((((((a1 >>> 1)&&&6148914691236517205#64)+(a1&&&6148914691236517205#64)) >>> 2)&&&3689348814741910323#64)+((((a1 >>> 1)&&&6148914691236517205#64)+(a1&&&6148914691236517205#64))&&&3689348814741910323#64)))&&&1085102592571150095#64)+((((((((((a1 >>> 1)&&&6148914691236517205#64)+(a1&&&6148914691236517205#64)) >>> 2)&&&3689348814741910323#64)+((((a1 >>> 1)&&&6148914691236517205#64)+(a1&&&6148914691236517205#64))&&&3689348814741910323#64)) >>> 4)+((((((a1 >>> 1)&&&6148914691236517205#64)+(a1&&&6148914691236517205#64)) >>> 2)&&&3689348814741910323#64)+((((a1 >>> 1)&&&6148914691236517205#64)+(a1&&&6148914691236517205#64))&&&3689348814741910323#64)))&&&1085102592571150095#64) >>> 8))+(((((((((((a1 >>> 1)&&&6148914691236517205#64)+(a1&&&6148914691236517205#64)) >>> 2)&&&3689348814741910323#64)+((((a1 >>> 1)&&&6148914691236517205#64)+(a1&&&6148914691236517205#64))&&&3689348814741910323#64)) >>> 4)+((((((a1 >>> 1)&&&6148914691236517205#64)+(a1&&&6148914691236517205#64)) >>> 2)&&&3689348814741910323#64)+((((a1 >>> 1)&&&6148914691236517205#64)+(a1&&&6148914691236517205#64))&&&3689348814741910323#64)))&&&1085102592571150095#64)+((((((((((a1 >>> 1)&&&6148914691236517205#64)+(a1&&&6148914691236517205#64)) >>> 2)&&&3689348814741910323#64)+((((a1 >>> 1)&&&6148914691236517205#64)+(a1&&&6148914691236517205#64))&&&3689348814741910323#64)) >>> 4)+((((((a1 >>> 1)&&&6148914691236517205#64)+(a1&&&6148914691236517205#64)) >>> 2)&&&3689348814741910323#64)+((((a1 >>> 1)&&&6148914691236517205#64)+(a1&&&6148914691236517205#64))&&&3689348814741910323#64)))&&&1085102592571150095#64) >>> 8)) >>> 16))+((((((((((((a1 >>> 1)&&&6148914691236517205#64)+(a1&&&6148914691236517205#64)) >>> 2)&&&3689348814741910323#64)+((((a1 >>> 1)&&&6148914691236517205#64)+(a1&&&6148914691236517205#64))&&&3689348814741910323#64)) >>> 4)+((((((a1 >>> 1)&&&6148914691236517205#64)+(a1&&&6148914691236517205#64)) >>> 2)&&&3689348814741910323#64)+((((a1 >>> 1)&&&6148914691236517205#64)+(a1&&&6148914691236517205#64))&&&3689348814741910323#64)))&&&1085102592571150095#64)+((((((((((a1 >>> 1)&&&6148914691236517205#64)+(a1&&&6148914691236517205#64)) >>> 2)&&&3689348814741910323#64)+((((a1 >>> 1)&&&6148914691236517205#64)+(a1&&&6148914691236517205#64))&&&3689348814741910323#64)) >>> 4)+((((((a1 >>> 1)&&&6148914691236517205#64)+(a1&&&6148914691236517205#64)) >>> 2)&&&3689348814741910323#64)+((((a1 >>> 1)&&&6148914691236517205#64)+(a1&&&6148914691236517205#64))&&&3689348814741910323#64)))&&&1085102592571150095#64) >>> 8))+(((((((((((a1 >>> 1)&&&6148914691236517205#64)+(a1&&&6148914691236517205#64)) >>> 2)&&&3689348814741910323#64)+((((a1 >>> 1)&&&6148914691236517205#64)+(a1&&&6148914691236517205#64))&&&3689348814741910323#64)) >>> 4)+((((((a1 >>> 1)&&&6148914691236517205#64)+(a1&&&6148914691236517205#64)) >>> 2)&&&3689348814741910323#64)+((((a1 >>> 1)&&&6148914691236517205#64)+(a1&&&6148914691236517205#64))&&&3689348814741910323#64)))&&&1085102592571150095#64)+((((((((((a1 >>> 1)&&&6148914691236517205#64)+(a1&&&6148914691236517205#64)) >>> 2)&&&3689348814741910323#64)+((((a1 >>> 1)&&&6148914691236517205#64)+(a1&&&6148914691236517205#64))&&&3689348814741910323#64)) >>> 4)+((((((a1 >>> 1)&&&6148914691236517205#64)+(a1&&&6148914691236517205#64)) >>> 2)&&&3689348814741910323#64)+((((a1 >>> 1)&&&6148914691236517205#64)+(a1&&&6148914691236517205#64))&&&3689348814741910323#64)))&&&1085102592571150095#64) >>> 8)) >>> 16)) >>> 32)).toInt) 127,()):=zF
theorem zx6 (a1:zB):zbq a1 =
 (ziS a1).bind fun y1 =>
 some (y1.1,()):=zF
theorem zvK (a1:Int):zlv a1 =
 bif decide ((bif decide ((bif decide (16<a1) then 16 else a1)<0) then 0 else (bif decide (16<a1) then 16 else a1))=(bif decide ((bif decide (16<a1) then 16 else a1)<0) then 0 else (bif decide (16<a1) then 16 else a1))) then
 (Vo (bif decide ((bif decide (16<a1) then 16 else a1)<0) then 0 else (bif decide (16<a1) then 16 else a1))).bind fun n1 =>
 some (zy.mk 0 0 0 (List.replicate n1 ((0:Int))),())
 else
 none:=zF
theorem zj0 (a1:zA):yZ a1 =
 bif a1.isEmpty then
 zmn (
  some (([]:zA),())) (
  (yD (([]:zA)++a1)).bind fun l1 =>
  some (l1,()))
 else
 (yD (([]:zA)++a1)).bind fun l2 =>
 some (l2,()):=zF
theorem Vb (s1:Int) (s2:Int) (s3:zC):xn (s1,s2,s3,()) =
 bif decide (s2<s1) then
 (wg s3 s2).bind fun n1 =>
 (s3[n1]?).bind fun x2 =>
 (yZ x2).bind fun y3 =>
 (wg s3 s2).bind fun n4 =>
 some (.again (s1,w64 (s2+1),s3.set n4 y3.1,()))
 else
 some (.brk (s3,())):=by kernel_rfl
theorem V8 (a1:zC):vO a1 =
 bif decide (((a1.length:Int))=((a1.length:Int))) then
 (Vo ((a1.length:Int))).bind fun n1 =>
 bif decide (a1.length=((List.replicate n1 ([]:zA)).length)) then
  bif a1.isEmpty then
  (yc xn (((List.replicate n1 ([]:zA)).length:Int),0,List.replicate n1 ([]:zA),())).bind fun st=>match st with
   | .again _=>none
   | .brk y2 =>
   some (y2.1,())
   | .ret y2 =>
   none
  else
  (yc xn ((a1.length:Int),0,a1,())).bind fun st=>match st with
   | .again _=>none
   | .brk y3 =>
   some (y3.1,())
   | .ret y3 =>
   none
 else
  none
 else
 none:=zF
theorem zva (a1:Int):zjK a1 =
 bif decide ((w64 (2+(bif decide (64<(bif decide (a1<1) then 1 else a1)) then 64 else (bif decide (a1<1) then 1 else a1))))=(w64 (2+(bif decide (64<(bif decide (a1<1) then 1 else a1)) then 64 else (bif decide (a1<1) then 1 else a1))))) then
 (Vo (w64 (2+(bif decide (64<(bif decide (a1<1) then 1 else a1)) then 64 else (bif decide (a1<1) then 1 else a1))))).bind fun n1 =>
 (wg (List.replicate n1 0#64) 0).bind fun n2 =>
 (wg ((List.replicate n1 0#64).set n2 1#64) 1).bind fun n3 =>
 some (((List.replicate n1 0#64).set n2 1#64).set n3 1#64,())
 else
 none:=zF
theorem zaY (a1:Int) (a2:Int) (a3:Int) (a4:Int):zd5 a1 a2 a3 a4 =
 some (zg.mk a1 0 a2 a3 0#64 0#64 a4 0,()):=zF
theorem zuw (a1:zd) (a2:Int):xG a1 a2 =
 some (w64 ((w64 (a2-1))*(w64 (a1.Cap+2))),()):=zF
theorem zxt (a1:zd):zik a1 =
 some (w64 ((w64 (a1.Most+a1.Workers))+a1.Mutators),()):=zF
theorem zjR (a1:zA) (a2:Int):zc7 a1 a2 =
 bif decide (a2<1) then
 none
 else
 some (a1,a2,()):=zF
theorem zq5 (a1:zB):zwJ a1 =
 some (a1,()):=zF
theorem zvj (y:Int) (s1:zA):zjC y (s1,()) =
 (yD (s1++([y]:zA))).bind fun l1 =>
 some (l1,()):=by kernel_rfl
theorem zq2 (a1:zB):zfm a1 =
 (zwJ a1).bind fun y1 =>
 (zlX y1.1).bind fun (ys2:zA) =>
 (ZT zjC ys2 (([]:zA),())).bind fun (y3:zA×Unit) =>
 some (y3.1,()):=zF
theorem zzz (a1:zB):zvD a1 =
 some (a1,true,()):=zF
theorem zzV (a1:zB) (a2:Yd):zvz a1 a2 =
 some (a2.A,true,()):=zF
theorem zzU (a1:zB) (a2:Yd):zvV a1 a2 =
 some (a2.B,decide (a1=a2.A),()):=zF
theorem zI4 (a1:zB) (a2:Yd):zw0 a1 a2 =
 some (a1+a2.A,true,()):=zF
theorem zee (a1:List zB):wv a1 =
 bif a1.isEmpty then
 zmn (
  some (([]:List zB),())) (
  (yD ((([]:List zB))++a1)).bind fun l1 =>
  some (l1,()))
 else
 (yD ((([]:List zB))++a1)).bind fun l2 =>
 some (l2,()):=zF
theorem zn9 (a1:List zB) (a2:Yd):XX a1 a2 =
 bif decide (a2.Kind=1) then
 bif decide (a2.At<0) then
  some (a1,0#64,false,())
 else
  bif decide (((a1.length:Int))<=a2.At) then
  some (a1,0#64,false,())
  else
  (idx a1 a2.At).bind fun x1 =>
  (zvD x1).bind fun y2 =>
  bif y2.2.1 then
   bif !(decide (x1=y2.1)) then
   (wv a1).bind fun y3 =>
   (wg y3.1 a2.At).bind fun n4 =>
   some (y3.1.set n4 y2.1,x1,y2.2.1,())
   else
   some (a1,x1,y2.2.1,())
  else
   some (a1,x1,y2.2.1,())
 else
 bif decide (a2.Kind=2) then
  bif decide (a2.At<0) then
  some (a1,0#64,false,())
  else
  bif decide (((a1.length:Int))<=a2.At) then
   some (a1,0#64,false,())
  else
   (idx a1 a2.At).bind fun x5 =>
   (zvz x5 a2).bind fun y6 =>
   bif y6.2.1 then
   bif !(decide (x5=y6.1)) then
    (wv a1).bind fun y7 =>
    (wg y7.1 a2.At).bind fun n8 =>
    some (y7.1.set n8 y6.1,x5,y6.2.1,())
   else
    some (a1,x5,y6.2.1,())
   else
   some (a1,x5,y6.2.1,())
 else
  bif decide (a2.Kind=3) then
  bif decide (a2.At<0) then
   some (a1,0#64,false,())
  else
   bif decide (((a1.length:Int))<=a2.At) then
   some (a1,0#64,false,())
   else
   (idx a1 a2.At).bind fun x9 =>
   (zvV x9 a2).bind fun y10 =>
   bif y10.2.1 then
    bif !(decide (x9=y10.1)) then
    (wv a1).bind fun y11 =>
    (wg y11.1 a2.At).bind fun n12 =>
    some (y11.1.set n12 y10.1,x9,y10.2.1,())
    else
    some (a1,x9,y10.2.1,())
   else
    some (a1,x9,y10.2.1,())
  else
  bif decide (a2.Kind=4) then
   bif decide (a2.At<0) then
   some (a1,0#64,false,())
   else
   bif decide (((a1.length:Int))<=a2.At) then
    some (a1,0#64,false,())
   else
    (idx a1 a2.At).bind fun x13 =>
    (zw0 x13 a2).bind fun y14 =>
    bif y14.2.1 then
    bif !(decide (x13=y14.1)) then
     (wv a1).bind fun y15 =>
     (wg y15.1 a2.At).bind fun n16 =>
     some (y15.1.set n16 y14.1,x13,y14.2.1,())
    else
     some (a1,x13,y14.2.1,())
    else
    some (a1,x13,y14.2.1,())
  else
   bif decide (a2.At<0) then
   some (a1,0#64,false,())
   else
   bif decide (((a1.length:Int))<=a2.At) then
    some (a1,0#64,false,())
   else
    some (a1,0#64,false,()):=zF
theorem zuW (a1:List zB) (a2:Int) (a3:zB):XR a1 a2 a3 =
 (XX a1 (Yd.mk 2 a2 a3 0#64)).bind fun y1 =>
 some (y1.1,()):=zF
theorem zwB (a1:zB) (a2:Int):zaw a1 a2 =
 some ((a1 <<< 32)|||((BitVec.ofInt 64 a2)&&&4294967295#64),()):=zF
theorem zkp (s1:List zB) (s2:Int) (s3:Int) (s4:zA) (s5:Int) (s6:Int):zg8 (s1,s2,s3,s4,s5,s6,()) =
 bif decide (s6<s5) then
 bif decide ((w64 (s6+1))<((s4.length:Int))) then
  (idx s4 (w64 (s6+1))).bind fun x1 =>
  (idx s4 s6).bind fun x2 =>
  (XR s1 (w64 (s3+x2)) (BitVec.ofInt 64 x1)).bind fun y3 =>
  some (.again (y3.1,s2,s3,s4,s5,w64 (s6+1),()))
 else
  (idx s4 s6).bind fun x4 =>
  (XR s1 (w64 (s3+x4)) 0#64).bind fun y5 =>
  some (.again (y5.1,s2,s3,s4,s5,w64 (s6+1),()))
 else
 some (.brk (s1,s2,s4,())):=by kernel_rfl
theorem zxF (a1:List zB) (a2:Int) (a3:Int) (a4:zA):zib a1 a2 a3 a4 =
 (yc zg8 (a1,a2,a3,a4,(a4.length:Int),0,())).bind fun st=>match st with
  | .again _=>none
  | .brk y1 =>
  bif decide (0<((y1.2.2.1.length:Int))) then
  (idx y1.2.2.1 0).bind fun x2 =>
  (zaw 0#64 x2).bind fun y3 =>
  (XR y1.1 y1.2.1 y3.1).bind fun y4 =>
  some (y4.1,())
  else
  (zaw 0#64 0).bind fun y5 =>
  (XR y1.1 y1.2.1 y5.1).bind fun y6 =>
  some (y6.1,())
  | .ret y1 =>
  none:=zF
theorem zwN (a1:zd):Xq a1 =
 some (w64 (a1.Workers*(w64 (a1.Cap+2))),()):=zF
theorem zu8 (a1:zd):X2 a1 =
 (Xq a1).bind fun y1 =>
 some (w64 (y1.1+1),()):=zF
theorem zwL (a1:zd):Yy a1 =
 (X2 a1).bind fun y1 =>
 some (y1.1,()):=zF
end Go.Pe.G
namespace Go.Pe.G
open Go.Pe
theorem ztL (s1:zB) (s2:Int) (s3:Int) (s4:zd) (s5:Int) (s6:Int) (s7:Int) (s8:Int) (s9:Int) (s10:Int) (s11:Int) (s12:Int) (s13:Int) (s14:zB) (s15:Int) (s16:zo) (s17:Int) (s18:Int) (s19:Bool) (s20:Bool) (s21:Int) (s22:Int) (s23:Int) (s24:Int) (s25:zN) (s26:zd) (s27:Int) (s28:zo) (s29:Int) (s30:Int) (s31:Bool) (s32:Bool) (s33:Int) (s34:zy) (s35:zN) (s36:zC) (s37:zC) (s38:List (List zE)) (s39:List zk) (s40:zC) (s41:List zB) (s42:zC) (s43:zA) (s44:zA) (s45:List zj) (s46:List ze) (s47:zC) (s48:List zB) (s49:zC) (s50:zA) (s51:List zj) (s52:List ze):zcN (s1,s2,s3,s4,s5,s6,s7,s8,s9,s10,s11,s12,s13,s14,s15,s16,s17,s18,s19,s20,s21,s22,s23,s24,s25,s26,s27,s28,s29,s30,s31,s32,s33,s34,s35,s36,s37,s38,s39,s40,s41,s42,s43,s44,s45,s46,s47,s48,s49,s50,s51,s52,()) =
 bif decide (s3<s2) then
 (zjK s4.Cap).bind fun y1 =>
 (yD (s48++y1.1)).bind fun l2 =>
 (xG s4 (w64 (s3+1))).bind fun y3 =>
 (zd5 2 y3.1 s4.Cap 0).bind fun y4 =>
 (yD (s51++(([(zj.mk 0 0 0 (w64 (s3+1)) 0 (([]:zA)) y4.1 (zV.mk 0 0 0 0 0#64 0 0 0) (zK.mk 0 0 0 0 (zg.mk 0 0 0 0 0#64 0#64 0 0) (zV.mk 0 0 0 0 0#64 0 0 0) 0 0))]:List zj)))).bind fun l5 =>
 some (.again (s1,s2,w64 (s3+1),s4,s5,s6,s7,s8,s9,s10,s11,s12,s13,s14,s15,s16,s17,s18,s19,s20,s21,s22,s23,s24,s25,s26,s27,s28,s29,s30,s31,s32,s33,s34,s35,s36,s37,s38,s39,s40,s41,s42,s43,s44,s45,s46,s47,l2,s49,s50,l5,s52,()))
 else
 some (.brk (s1,s4,s5,s6,s7,s8,s9,s10,s11,s12,s13,s14,s15,s16,s17,s18,s19,s20,s21,s22,s23,s24,s25,s26,s27,s28,s29,s30,s31,s32,s33,s34,s35,s36,s37,s38,s39,s40,s41,s42,s43,s44,s45,s46,s47,s48,s49,s50,s51,s52,())):=by kernel_rfl
theorem zrB (s1:zB) (s2:Int) (s3:Int) (s4:zd) (s5:Int) (s6:Int) (s7:Int) (s8:Int) (s9:Int) (s10:Int) (s11:Int) (s12:Int) (s13:Int) (s14:zB) (s15:Int) (s16:zo) (s17:Int) (s18:Int) (s19:Bool) (s20:Bool) (s21:Int) (s22:Int) (s23:Int) (s24:Int) (s25:zN) (s26:zd) (s27:Int) (s28:zo) (s29:Int) (s30:Int) (s31:Bool) (s32:Bool) (s33:Int) (s34:zy) (s35:zN) (s36:zA) (s37:zC) (s38:zC) (s39:List (List zE)) (s40:List zk) (s41:zC) (s42:List zB) (s43:zC) (s44:zA) (s45:zA) (s46:List zj) (s47:List ze) (s48:zC) (s49:List zB) (s50:zC) (s51:zA) (s52:List zj) (s53:List ze):zbL (s1,s2,s3,s4,s5,s6,s7,s8,s9,s10,s11,s12,s13,s14,s15,s16,s17,s18,s19,s20,s21,s22,s23,s24,s25,s26,s27,s28,s29,s30,s31,s32,s33,s34,s35,s36,s37,s38,s39,s40,s41,s42,s43,s44,s45,s46,s47,s48,s49,s50,s51,s52,s53,()) =
 bif decide (s3<s2) then
 (yD (s36++(([(w64 (s3+1))]:zA)))).bind fun l1 =>
 some (.again (s1,s2,w64 (s3+1),s4,s5,s6,s7,s8,s9,s10,s11,s12,s13,s14,s15,s16,s17,s18,s19,s20,s21,s22,s23,s24,s25,s26,s27,s28,s29,s30,s31,s32,s33,s34,s35,l1,s37,s38,s39,s40,s41,s42,s43,s44,s45,s46,s47,s48,s49,s50,s51,s52,s53,()))
 else
 some (.brk (s1,s4,s5,s6,s7,s8,s9,s10,s11,s12,s13,s14,s15,s16,s17,s18,s19,s20,s21,s22,s23,s24,s25,s26,s27,s28,s29,s30,s31,s32,s33,s34,s35,s36,s37,s38,s39,s40,s41,s42,s43,s44,s45,s46,s47,s48,s49,s50,s51,s52,s53,())):=by kernel_rfl
theorem zsf (y:zA) (s1:zd) (s2:Int) (s3:Int) (s4:Int) (s5:Int) (s6:Int) (s7:Int) (s8:Int) (s9:Int) (s10:Int) (s11:zB) (s12:Int) (s13:zo) (s14:Int) (s15:Int) (s16:Bool) (s17:Bool) (s18:Int) (s19:Int) (s20:Int) (s21:Int) (s22:zN) (s23:zd) (s24:Int) (s25:zo) (s26:Int) (s27:Int) (s28:Bool) (s29:Bool) (s30:Int) (s31:zy) (s32:zN) (s33:zA) (s34:zC) (s35:zC) (s36:List (List zE)) (s37:List zk) (s38:zC) (s39:List zB) (s40:zC) (s41:zA) (s42:zA) (s43:List zj) (s44:List ze) (s45:zC) (s46:List zB) (s47:zC) (s48:zA) (s49:List zj) (s50:List ze):zgr y (s1,s2,s3,s4,s5,s6,s7,s8,s9,s10,s11,s12,s13,s14,s15,s16,s17,s18,s19,s20,s21,s22,s23,s24,s25,s26,s27,s28,s29,s30,s31,s32,s33,s34,s35,s36,s37,s38,s39,s40,s41,s42,s43,s44,s45,s46,s47,s48,s49,s50,()) =
 (yZ y).bind fun y1 =>
 (yD (s47++(([y1.1]:zC)))).bind fun l2 =>
 some (s1,s2,s3,s4,s5,s6,s7,s8,s9,s10,s11,s12,s13,s14,s15,s16,s17,s18,s19,s20,s21,s22,s23,s24,s25,s26,s27,s28,s29,s30,s31,s32,s33,s34,s35,s36,s37,s38,s39,s40,s41,s42,s43,s44,s45,s46,l2,s48,s49,s50,()):=by kernel_rfl
theorem zrx (s1:zC) (s2:Int) (s3:Int) (s4:Int) (s5:Int) (s6:Int) (s7:Int) (s8:Int) (s9:Int) (s10:Int) (s11:Int) (s12:Int) (s13:zB) (s14:Int) (s15:zo) (s16:Int) (s17:Int) (s18:Bool) (s19:Bool) (s20:Int) (s21:Int) (s22:Int) (s23:Int) (s24:zN) (s25:zd) (s26:Int) (s27:List zB) (s28:zo) (s29:Int) (s30:Int) (s31:Bool) (s32:Bool) (s33:Int) (s34:zy) (s35:zN) (s36:zC) (s37:zC) (s38:List (List zE)) (s39:List zk) (s40:zC) (s41:List zB) (s42:zC) (s43:zA) (s44:zA) (s45:List zj) (s46:List ze) (s47:zC) (s48:zC) (s49:zA) (s50:List zj) (s51:List ze):zbS (s1,s2,s3,s4,s5,s6,s7,s8,s9,s10,s11,s12,s13,s14,s15,s16,s17,s18,s19,s20,s21,s22,s23,s24,s25,s26,s27,s28,s29,s30,s31,s32,s33,s34,s35,s36,s37,s38,s39,s40,s41,s42,s43,s44,s45,s46,s47,s48,s49,s50,s51,()) =
 bif decide (s3<s2) then
 (idx s1 s3).bind fun x1 =>
 (yZ x1).bind fun y2 =>
 (yD (s51++(([(ze.mk 0 0 0 0 0 0 0 0 y2.1 (([]:zA)) (([]:zA)) (zV.mk 0 0 0 0 0#64 0 0 0) (zK.mk 0 0 0 0 (zg.mk 0 0 0 0 0#64 0#64 0 0) (zV.mk 0 0 0 0 0#64 0 0 0) 0 0))]:List ze)))).bind fun l3 =>
 some (.again (s1,s2,w64 (s3+1),s4,s5,s6,s7,s8,s9,s10,s11,s12,s13,s14,s15,s16,s17,s18,s19,s20,s21,s22,s23,s24,s25,s26,s27,s28,s29,s30,s31,s32,s33,s34,s35,s36,s37,s38,s39,s40,s41,s42,s43,s44,s45,s46,s47,s48,s49,s50,l3,()))
 else
 some (.brk (s4,s5,s6,s7,s8,s9,s10,s11,s12,s13,s14,s15,s16,s17,s18,s19,s20,s21,s22,s23,s24,s25,s26,s27,s28,s29,s30,s31,s32,s33,s34,s35,s36,s37,s38,s39,s40,s41,s42,s43,s44,s45,s46,s47,s48,s49,s50,s51,())):=by kernel_rfl
theorem zyc (a1:zd):zh5 a1 =
 (zmH a1).bind fun y1 =>
 bif !y1.1 then
 some (za.mk (zd.mk 0 0 0 0 0 0 0 0 (zw.mk 0 (([]:zC))) 0#64 (([]:zC)) (([]:List (List zE))) (([]:List zk))) (zw.mk 0 (([]:zC))) (([]:List zB)) (([]:zC)) (zo.mk 0#64 0#64) 0 0 false false 0 (([]:zA)) (zy.mk 0 0 0 (([]:zA))) (([]:List zj)) (([]:List ze)) (zN.mk 0 0),())
 else
 (zgi a1).bind fun y2 =>
 (zbq y2.1).bind fun y3 =>
 (zlv a1.Mutators).bind fun y4 =>
 (vO a1.H.Objs).bind fun y5 =>
 (yc zcN (y2.1,a1.Workers,0,a1,0,0,0,0,0,0,0,0,0,0#64,0,zo.mk 0#64 0#64,0,0,false,false,0,0,0,0,zN.mk 0 0,a1,a1.H.Slots,zo.mk y2.1 0#64,y3.1,0,false,false,0,y4.1,zN.mk 0 0,([]:zC),([]:zC),([]:List (List zE)),([]:List zk),([]:zC),([]:List zB),([]:zC),([]:zA),([]:zA),([]:List zj),([]:List ze),y5.1,([]:List zB),([([]:zA)]:zC),([]:zA),([]:List zj),([]:List ze),())).bind fun st=>match st with
  | .again _=>none
  | .brk y6 =>
  let y6a:=y6.2.2.2.2.2.2.2.2;let y6b:=y6a.2.2.2.2.2.2.2.2;let y6c:=y6b.2.2.2.2.2.2.2.2;let y6d:=y6c.2.2.2.2.2.2.2.2;let y6e:=y6d.2.2.2.2.2.2.2.2;let y6f:=y6e.2.2.2.2.2.2.2.2
  (zik y6.2.1).bind fun y7 =>
  (zi7 (w64 (2+y7.1))).bind fun n8 =>
  (yD (y6e.2.2.2.2.2.1++(List.replicate n8 0#64))).bind fun l9 =>
  (zik y6.2.1).bind fun y10 =>
  (yc zbL (y6.1,y10.1,0,y6.2.1,y6.2.2.1,y6.2.2.2.1,y6.2.2.2.2.1,y6.2.2.2.2.2.1,y6.2.2.2.2.2.2.1,y6.2.2.2.2.2.2.2.1,y6a.1,y6a.2.1,y6a.2.2.1,y6a.2.2.2.1,y6a.2.2.2.2.1,y6a.2.2.2.2.2.1,y6a.2.2.2.2.2.2.1,y6a.2.2.2.2.2.2.2.1,y6b.1,y6b.2.1,y6b.2.2.1,y6b.2.2.2.1,y6b.2.2.2.2.1,y6b.2.2.2.2.2.1,y6b.2.2.2.2.2.2.1,y6b.2.2.2.2.2.2.2.1,y6c.1,y6c.2.1,y6c.2.2.1,y6c.2.2.2.1,y6c.2.2.2.2.1,y6c.2.2.2.2.2.1,y6c.2.2.2.2.2.2.1,y6c.2.2.2.2.2.2.2.1,y6d.1,([]:zA),y6d.2.1,y6d.2.2.1,y6d.2.2.2.1,y6d.2.2.2.2.1,y6d.2.2.2.2.2.1,y6d.2.2.2.2.2.2.1,y6d.2.2.2.2.2.2.2.1,y6e.1,y6e.2.1,y6e.2.2.1,y6e.2.2.2.1,y6e.2.2.2.2.1,l9,y6e.2.2.2.2.2.2.1,y6e.2.2.2.2.2.2.2.1,y6f.1,y6f.2.1,())).bind fun st=>match st with
   | .again _=>none
   | .brk y11 =>
   let y11a:=y11.2.2.2.2.2.2.2.2;let y11b:=y11a.2.2.2.2.2.2.2.2;let y11c:=y11b.2.2.2.2.2.2.2.2;let y11d:=y11c.2.2.2.2.2.2.2.2;let y11e:=y11d.2.2.2.2.2.2.2.2;let y11f:=y11e.2.2.2.2.2.2.2.2
   (zfm y11.1).bind fun y12 =>
   (zc7 y12.1 y11.2.1.Bin).bind fun y13 =>
   (zbg y13.1 y13.2.1).bind fun (ys14:zC) =>
   (ZT zgr ys14 (y11.2.1,y11.2.2.1,y11.2.2.2.1,y11.2.2.2.2.1,y11.2.2.2.2.2.1,y11.2.2.2.2.2.2.1,y11.2.2.2.2.2.2.2.1,y11a.1,y11a.2.1,y11a.2.2.1,y11a.2.2.2.1,y11a.2.2.2.2.1,y11a.2.2.2.2.2.1,y11a.2.2.2.2.2.2.1,y11a.2.2.2.2.2.2.2.1,y11b.1,y11b.2.1,y11b.2.2.1,y11b.2.2.2.1,y11b.2.2.2.2.1,y11b.2.2.2.2.2.1,y11b.2.2.2.2.2.2.1,y11b.2.2.2.2.2.2.2.1,y11c.1,y11c.2.1,y11c.2.2.1,y11c.2.2.2.1,y11c.2.2.2.2.1,y11c.2.2.2.2.2.1,y11c.2.2.2.2.2.2.1,y11c.2.2.2.2.2.2.2.1,y11d.1,y11d.2.1,y11d.2.2.1,y11d.2.2.2.1,y11d.2.2.2.2.1,y11d.2.2.2.2.2.1,y11d.2.2.2.2.2.2.1,y11d.2.2.2.2.2.2.2.1,y11e.1,y11e.2.1,y11e.2.2.1,y11e.2.2.2.1,y11e.2.2.2.2.1,y11e.2.2.2.2.2.1,y11e.2.2.2.2.2.2.1,y11e.2.2.2.2.2.2.2.1,y11f.1,y11f.2.1,y11f.2.2.1,())).bind fun (y15:zd×Int×Int×Int×Int×Int×Int×Int×Int×Int×zB×Int×zo×Int×Int×Bool×Bool×Int×Int×Int×Int×zN×zd×Int×zo×Int×Int×Bool×Bool×Int×zy×zN×zA×zC×zC×(List (List zE))×(List zk)×zC×(List zB)×zC×zA×zA×(List zj)×(List ze)×zC×(List zB)×zC×zA×(List zj)×(List ze)×Unit) =>
   let y15a:=y15.2.2.2.2.2.2.2.2;let y15b:=y15a.2.2.2.2.2.2.2.2;let y15c:=y15b.2.2.2.2.2.2.2.2;let y15d:=y15c.2.2.2.2.2.2.2.2;let y15e:=y15d.2.2.2.2.2.2.2.2;let y15f:=y15e.2.2.2.2.2.2.2.2
   (zi7 (w64 (((y15d.1.length:Int))-(w64 (((y15e.2.2.2.2.2.2.1.length:Int))-1))))).bind fun n16 =>
   (yD (y15e.2.2.2.2.2.2.1++(List.replicate n16 ([]:zA)))).bind fun l17 =>
   (Xq y15.1).bind fun y18 =>
   (Yy y15.1).bind fun y19 =>
   (cut y15d.1 0 (w64 (((y15e.2.2.2.2.2.2.1.length:Int))-1))).bind fun l20 =>
   (zib y15e.2.2.2.2.2.1 y18.1 y19.1 l20).bind fun y21 =>
   (X2 y15.1).bind fun y22 =>
   (Yy y15.1).bind fun y23 =>
   (cut y15d.1 (w64 (((y15e.2.2.2.2.2.2.1.length:Int))-1)) ((y15d.1.length:Int))).bind fun l24 =>
   (zib y21.1 y22.1 y23.1 l24).bind fun y25 =>
   bif decide (y15.1.Mutators=y15.1.Mutators) then
    (Vo y15.1.Mutators).bind fun n26 =>
    (yc zbS (y15.1.Regs,(y15.1.Regs.length:Int),0,y15.2.1,y15.2.2.1,y15.2.2.2.1,y15.2.2.2.2.1,y15.2.2.2.2.2.1,y15.2.2.2.2.2.2.1,y15.2.2.2.2.2.2.2.1,y15a.1,y15a.2.1,y15a.2.2.1,y15a.2.2.2.1,y15a.2.2.2.2.1,y15a.2.2.2.2.2.1,y15a.2.2.2.2.2.2.1,y15a.2.2.2.2.2.2.2.1,y15b.1,y15b.2.1,y15b.2.2.1,y15b.2.2.2.1,y15b.2.2.2.2.1,y15b.2.2.2.2.2.1,y15b.2.2.2.2.2.2.1,y15b.2.2.2.2.2.2.2.1,y25.1,y15c.1,y15c.2.1,y15c.2.2.1,y15c.2.2.2.1,y15c.2.2.2.2.1,y15c.2.2.2.2.2.1,y15c.2.2.2.2.2.2.1,y15c.2.2.2.2.2.2.2.1,y15d.2.1,y15d.2.2.1,y15d.2.2.2.1,y15d.2.2.2.2.1,y15d.2.2.2.2.2.1,y15d.2.2.2.2.2.2.1,y15d.2.2.2.2.2.2.2.1,y15e.1,y15e.2.1,y15e.2.2.1,y15e.2.2.2.1,y15e.2.2.2.2.1,l17,List.replicate n26 ((0:Int)),y15f.1,y15f.2.1,())).bind fun st=>match st with
     | .again _=>none
     | .brk y27 =>
     let y27a:=y27.2.2.2.2.2.2.2.2;let y27b:=y27a.2.2.2.2.2.2.2.2;let y27c:=y27b.2.2.2.2.2.2.2.2;let y27d:=y27c.2.2.2.2.2.2.2.2;let y27e:=y27d.2.2.2.2.2.2.2.2
     some (za.mk y27b.2.2.2.2.2.1 (zw.mk y27b.2.2.2.2.2.2.1 y27e.2.2.2.1) y27b.2.2.2.2.2.2.2.1 y27e.2.2.2.2.1 y27c.1 y27c.2.1 y27c.2.2.1 y27c.2.2.2.1 y27c.2.2.2.2.1 y27c.2.2.2.2.2.1 y27e.2.2.2.2.2.1 y27c.2.2.2.2.2.2.1 y27e.2.2.2.2.2.2.1 y27e.2.2.2.2.2.2.2.1 y27c.2.2.2.2.2.2.2.1,())
     | .ret y27 =>
     none
   else
    none
   | .ret y11 =>
   none
  | .ret y6 =>
  none:=zF
theorem zgy (s1:zA) (s2:zA) (s3:Int) (s4:Int):XT (s1,s2,s3,s4,()) =
 bif decide (s4<s3) then
 (idx s1 s4).bind fun x1 =>
 (idx s2 s4).bind fun x2 =>
 bif !(decide (x1=x2)) then
  some (.ret (false,()))
 else
  some (.again (s1,s2,s3,w64 (s4+1),()))
 else
 some (.brk (())):=by kernel_rfl
theorem zjp (a1:zA) (a2:zA):VH a1 a2 =
 bif !(decide (((a1.length:Int))=((a2.length:Int)))) then
 some (false,())
 else
 (yc XT (a1,a2,(a1.length:Int),0,())).bind fun st=>match st with
  | .again _=>none
  | .brk y1 =>
  some (true,())
  | .ret y1 =>
  some (y1.1,()):=zF
theorem Zj (s1:zC) (s2:zC) (s3:Int) (s4:Int):xj (s1,s2,s3,s4,()) =
 bif decide (s4<s3) then
 (idx s2 s4).bind fun x1 =>
 (idx s1 s4).bind fun x2 =>
 (VH x1 x2).bind fun y3 =>
 bif !y3.1 then
  some (.ret (false,()))
 else
  some (.again (s1,s2,s3,w64 (s4+1),()))
 else
 some (.brk (())):=by kernel_rfl
theorem Zx (a1:zC) (a2:zC):xx a1 a2 =
 bif !(decide (((a1.length:Int))=((a2.length:Int)))) then
 some (false,())
 else
 (yc xj (a2,a1,(a1.length:Int),0,())).bind fun st=>match st with
  | .again _=>none
  | .brk y1 =>
  some (true,())
  | .ret y1 =>
  some (y1.1,()):=zF
theorem zyq (a1:zw) (a2:zw):zdY a1 a2 =
 bif decide (a1.Slots=a2.Slots) then
 (xx a1.Objs a2.Objs).bind fun y1 =>
 some (y1.1,())
 else
 some (false,()):=zF
theorem zBu (a1:zB) (a2:Int):zb9 a1 a2 =
 (znL a2).bind fun y1 =>
 some (!(decide ((a1&&&y1.1)=0#64)),()):=zF
theorem zw8 (a1:zo) (a2:Int):zb6 a1 a2 =
 (YO a1.Marks a2).bind fun y1 =>
 bif decide (y1.1=a1.Marks) then
 some (a1,false,())
 else
 (zb9 a1.Black a2).bind fun y2 =>
 bif y2.1 then
  some (a1,false,())
 else
  some ({a1 with Marks:=y1.1},true,()):=zF
theorem zCe (a1:zo) (a2:Int):V1 a1 a2 =
 (zb9 (a1.Marks&&&a1.Black) a2).bind fun y1 =>
 bif y1.1 then
 some (2,())
 else
 (zb9 a1.Marks a2).bind fun y2 =>
 bif y2.1 then
  some (1,())
 else
  some (0,()):=zF
theorem zxn (a1:zo) (a2:Int):Uu a1 a2 =
 (V1 a1 a2).bind fun y1 =>
 bif !(decide (y1.1=1)) then
 some (a1,false,())
 else
 (YO a1.Black a2).bind fun y2 =>
 some ({a1 with Black:=y2.1},true,()):=zF
theorem znP (a1:zo) (a2:Int):zct a1 a2 =
 (zb6 a1 a2).bind fun y1 =>
 bif !y1.2.1 then
 some (a1,false,())
 else
 (Uu y1.1 a2).bind fun y2 =>
 some (y2.1,y2.2.1,()):=zF
theorem zf6 (s1:Int) (s2:zo) (s3:zo):zdj (s1,s2,s3,()) =
 bif decide (s1<64) then
 (yc uD (s1,1,s1,s2,s3,())).bind fun st=>match st with
  | .again _=>none
  | .brk y1 =>
  some (.again (w64 (y1.1+1),y1.2.1,y1.2.2.1,()))
  | .ret y1 =>
  some (.ret (y1.1,y1.2.1,()))
 else
 some (.brk (())):=by kernel_rfl
theorem Wn (s1:Int) (s2:Int) (s3:Int) (s4:zo) (s5:zo):uD (s1,s2,s3,s4,s5,()) =
 bif decide (s2<=3) then
 bif decide (s2=3) then
  (zct s4 (w64 (s1+1))).bind fun y1 =>
  bif y1.2.1 then
  bif (decide (y1.1.Marks=s5.Marks))&&(decide (y1.1.Black=s5.Black)) then
   some (.ret (s2,w64 (s1+1),()))
  else
   some (.again (s1,w64 (s2+1),s3,s4,s5,()))
  else
  some (.again (s1,w64 (s2+1),s3,s4,s5,()))
 else
  bif decide (s2=2) then
  (Uu s4 (w64 (s1+1))).bind fun y2 =>
  bif y2.2.1 then
   bif (decide (y2.1.Marks=s5.Marks))&&(decide (y2.1.Black=s5.Black)) then
   some (.ret (s2,w64 (s1+1),()))
   else
   some (.again (s1,w64 (s2+1),s3,s4,s5,()))
  else
   some (.again (s1,w64 (s2+1),s3,s4,s5,()))
  else
  bif decide (s2=1) then
   (zb6 s4 (w64 (s1+1))).bind fun y3 =>
   bif y3.2.1 then
   bif (decide (y3.1.Marks=s5.Marks))&&(decide (y3.1.Black=s5.Black)) then
    some (.ret (s2,w64 (s1+1),()))
   else
    some (.again (s1,w64 (s2+1),s3,s4,s5,()))
   else
   some (.again (s1,w64 (s2+1),s3,s4,s5,()))
  else
   bif decide (s2=0) then
   none
   else
   none
 else
 some (.brk (s3,s4,s5,())):=by kernel_rfl
theorem ztD (a1:zo) (a2:zo):zhy a1 a2 =
 bif (decide (a1.Marks=a2.Marks))&&(decide (a1.Black=a2.Black)) then
 some (0,0,())
 else
 (yc zdj (0,a1,a2,())).bind fun st=>match st with
  | .again _=>none
  | .brk y1 =>
  some (-1,0,())
  | .ret y1 =>
  some (y1.1,y1.2.1,()):=zF
theorem ziI (a1:zC):WY a1 =
 bif decide (0=0)&&decide (((a1.length:Int))=0)&&decide (((a1.length:Int))=0) then
 none
 else
 bif decide (0=0)&&decide (((a1.length:Int))=((a1.length:Int)))&&decide (((a1.length:Int))=((a1.length:Int))) then
  some (a1,())
 else
  bif decide (((a1.length:Int))=((a1.length:Int))) then
  (cut a1 0 ((a1.length:Int))).bind fun l1 =>
  none
  else
  none:=zF
theorem zwv (a1:zw) (a2:Int):zgl a1 a2 =
 (Xm a1).bind fun y1 =>
 bif !y1.1 then
 some (a1,0,1,())
 else
 bif decide ((bif decide (64<a2) then 64 else a2)<=((a1.Objs.length:Int))) then
  some (a1,0,4,())
 else
  (WY a1.Objs).bind fun y2 =>
  bif decide (a1.Slots=a1.Slots) then
  (Vo a1.Slots).bind fun n3 =>
  (yD (y2.1++(([(List.replicate n3 ((0:Int)))]:zC)))).bind fun l4 =>
  some ({a1 with Objs:=l4},(l4.length:Int),0,())
  else
  none:=zF
theorem zrs (s1:Int) (s2:Int) (s3:zC) (s4:Int) (s5:Int) (s6:zw):zex (s1,s2,s3,s4,s5,s6,()) =
 bif decide (s5<s4) then
 (idx s3 s5).bind fun x1 =>
 (idx s6.Objs s5).bind fun x2 =>
 bif !(decide (((x1.length:Int))=((x2.length:Int)))) then
  some (.ret (0,()))
 else
  (yc UW (s1,s2,s5,s3,s4,s5,x1,(x1.length:Int),0,s6,())).bind fun st=>match st with
   | .again _=>none
   | .brk y3 =>
   some (.again (y3.1,y3.2.1,y3.2.2.1,y3.2.2.2.1,w64 (y3.2.2.2.2.1+1),y3.2.2.2.2.2.1,()))
   | .ret y3 =>
   none
 else
 some (.brk (s1,s2,())):=by kernel_rfl
theorem zqa (s1:Int) (s2:Int) (s3:Int) (s4:zC) (s5:Int) (s6:Int) (s7:zA) (s8:Int) (s9:Int) (s10:zw):UW (s1,s2,s3,s4,s5,s6,s7,s8,s9,s10,()) =
 bif decide (s9<s8) then
 (idx s7 s9).bind fun x1 =>
 (idx s10.Objs s3).bind fun x2 =>
 (idx x2 s9).bind fun x3 =>
 bif !(decide (x1=x3)) then
  some (.again (w64 (s3+1),w64 (s2+1),s3,s4,s5,s6,s7,s8,w64 (s9+1),s10,()))
 else
  some (.again (s1,s2,s3,s4,s5,s6,s7,s8,w64 (s9+1),s10,()))
 else
 some (.brk (s1,s2,s4,s5,s6,s10,())):=by kernel_rfl
theorem zuH (a1:zw) (a2:zw):VV a1 a2 =
 bif !(decide (a1.Slots=a2.Slots)) then
 some (0,())
 else
 bif !(decide (((a1.Objs.length:Int))=((a2.Objs.length:Int)))) then
  some (0,())
 else
  (yc zex (0,0,a1.Objs,(a1.Objs.length:Int),0,a2,())).bind fun st=>match st with
   | .again _=>none
   | .brk y1 =>
   bif !(decide (y1.2.1=1)) then
   some (0,())
   else
   some (y1.1,())
   | .ret y1 =>
   some (y1.1,()):=zF
theorem zzx (a1:za) (a2:za):V5 a1 a2 =
 (zhy a1.T a2.T).bind fun y1 =>
 (zdY a1.H a2.H).bind fun y2 =>
 bif y2.1 then
 bif decide (y1.1<0) then
  some (-1,0,())
 else
  bif decide (2<y1.1) then
  some (-1,0,())
  else
  some (y1.1,y1.2.1,())
 else
 (zgl a1.H 64).bind fun y3 =>
 bif decide (y3.2.2.1=0) then
  bif decide (y1.1=3) then
  bif decide (y1.2.1=y3.2.1) then
   (zdY y3.1 a2.H).bind fun y4 =>
   bif y4.1 then
   some (3,y1.2.1,())
   else
   (VV a1.H a2.H).bind fun y5 =>
   bif decide (y1.1=0) then
    bif decide (0<y5.1) then
    some (4,y5.1,())
    else
    some (-1,0,())
   else
    some (-1,0,())
  else
   (VV a1.H a2.H).bind fun y6 =>
   bif decide (y1.1=0) then
   bif decide (0<y6.1) then
    some (4,y6.1,())
   else
    some (-1,0,())
   else
   some (-1,0,())
  else
  (VV a1.H a2.H).bind fun y7 =>
  bif decide (y1.1=0) then
   bif decide (0<y7.1) then
   some (4,y7.1,())
   else
   some (-1,0,())
  else
   some (-1,0,())
 else
  (VV a1.H a2.H).bind fun y8 =>
  bif decide (y1.1=0) then
  bif decide (0<y8.1) then
   some (4,y8.1,())
  else
   some (-1,0,())
  else
  some (-1,0,()):=zF
end Go.Pe.G
namespace Go.Pe.G
open Go.Pe
theorem zcl (s1:List (List zE)) (s2:Int) (s3:Int) (s4:Int) (s5:Int) (s6:Int) (s7:Int) (s8:Int) (s9:Int) (s10:Int) (s11:Int) (s12:zB) (s13:Int) (s14:Int) (s15:Int) (s16:Int) (s17:Int) (s18:Int) (s19:Int) (s20:Int) (s21:Int) (s22:zB) (s23:zC) (s24:zC) (s25:List (List zE)) (s26:List zk) (s27:zC) (s28:zC) (s29:List (List zE)) (s30:List zk):zeE (s1,s2,s3,s4,s5,s6,s7,s8,s9,s10,s11,s12,s13,s14,s15,s16,s17,s18,s19,s20,s21,s22,s23,s24,s25,s26,s27,s28,s29,s30,()) =
 bif decide (s2<((s1.length:Int))) then
 (yD (s28++(([([1,0]:zA)]:zC)))).bind fun l1 =>
 (idx s1 s2).bind fun x2 =>
 (yD (s29++(([x2]:List (List zE))))).bind fun l3 =>
 some (.again (s1,w64 (s2+1),s3,s4,s5,s6,s7,s8,s9,s10,s11,s12,s13,s14,s15,s16,s17,s18,s19,s20,s21,s22,s23,s24,s25,s26,s27,l1,l3,s30,()))
 else
 some (.brk (s3,s4,s5,s6,s7,s8,s9,s10,s11,s12,s13,s14,s15,s16,s17,s18,s19,s20,s21,s22,s23,s24,s25,s26,s27,s28,s29,s30,())):=by kernel_rfl
theorem zo9 (a1:List (List zE)):zcg a1 =
 (yc zeE (a1,0,0,0,0,0,0,0,0,0,0,0#64,1,(a1.length:Int),2,1,1,4,2,2,1,1#64,([]:zC),([]:zC),([]:List (List zE)),([]:List zk),([([2]:zA),([0]:zA),([0]:zA)]:zC),([]:zC),([]:List (List zE)),([]:List zk),())).bind fun st=>match st with
  | .again _=>none
  | .brk y1 =>
  let y1a:=y1.2.2.2.2.2.2.2.2;let y1b:=y1a.2.2.2.2.2.2.2.2;let y1c:=y1b.2.2.2.2.2.2.2.2
  some (zd.mk y1a.2.2.1 y1a.2.2.2.1 y1a.2.2.2.2.1 y1a.2.2.2.2.2.1 y1a.2.2.2.2.2.2.1 y1a.2.2.2.2.2.2.2.1 y1b.1 y1b.2.1 (zw.mk y1b.2.2.1 y1c.1) y1b.2.2.2.1 y1c.2.1 y1c.2.2.1 y1c.2.2.2.1,())
  | .ret y1 =>
  none:=zF
theorem zp5 (a1:za):UU a1 =
 some ({a1 with Restarts:=w64 (a1.Restarts+1),D:={a1.D with PC:=0}},()):=zF
theorem zus (a1:za):zjB a1 =
 bif a1.Done then
 some (a1,())
 else
 bif decide (a1.D.PC=0) then
  some ({a1 with Flag:=false,D:={a1.D with PC:=1}},())
 else
  bif decide (a1.D.PC=1) then
  bif !(decide (a1.Work=0)) then
   some (a1,())
  else
   some ({a1 with D:={a1.D with PC:=2}},())
  else
  bif decide (a1.D.PC=2) then
   bif decide (((a1.Ms.length:Int))=0) then
   some ({a1 with Epoch:=w64 (a1.Epoch+1),D:=zN.mk 4 0},())
   else
   some ({a1 with Epoch:=w64 (a1.Epoch+1),D:=zN.mk 3 0},())
  else
   bif decide (a1.D.PC=3) then
   (idx a1.Acks a1.D.I).bind fun x1 =>
   bif decide (x1<a1.Epoch) then
    some (a1,())
   else
    bif decide ((w64 (a1.D.I+1))=((a1.Ms.length:Int))) then
    some ({a1 with D:=zN.mk 4 (w64 (a1.D.I+1))},())
    else
    some ({a1 with D:={a1.D with I:=w64 (a1.D.I+1)}},())
   else
   bif decide (a1.D.PC=4) then
    bif !(decide (a1.Work=0)) then
    (UU a1).bind fun y2 =>
    some (y2.1,())
    else
    some ({a1 with D:={a1.D with PC:=5}},())
   else
    bif decide (a1.D.PC=5) then
    bif a1.Flag then
     (UU a1).bind fun y3 =>
     some (y3.1,())
    else
     some ({a1 with D:={a1.D with PC:=6}},())
    else
    bif decide (a1.D.PC=6) then
     some ({a1 with Done:=true},())
    else
     some (a1,()):=zF
theorem zrE (a1:za) (a2:Int):znw a1 a2 =
 (zjB a1).bind fun y1 =>
 some (y1.1,()):=zF
theorem zwX (a1:zB):Xy a1 =
 some ((a1&&&4294967295#64).toInt,()):=zF
theorem zvu (a1:List zB) (a2:Int):zaB a1 a2 =
 (XX a1 (Yd.mk 1 a2 0#64 0#64)).bind fun y1 =>
 some (y1.2.1,()):=zF
theorem zk4 (a1:List zB) (a2:zV):uw a1 a2 =
 (zaB a1 a2.Head).bind fun y1 =>
 bif decide (a2.Kind=2) then
 (Xy y1.1).bind fun y2 =>
 bif decide (y2.1=0) then
  some (a1,{a2 with H:=y1.1,Out:=2},())
 else
  some (a1,{a2 with H:=y1.1},())
 else
 some (a1,{a2 with H:=y1.1},()):=zF
theorem zm0 (a1:List zB) (a2:zV):Wp a1 a2 =
 (Xy a2.H).bind fun y1 =>
 (XR a1 (w64 (a2.Next+a2.X)) (BitVec.ofInt 64 y1.1)).bind fun y2 =>
 some (y2.1,()):=zF
theorem zjs (a1:List zB) (a2:zV):vY a1 a2 =
 bif decide (a2.Kind=2) then
 (zaw ((a2.H >>> 32)+1#64) a2.Y).bind fun y1 =>
 (XX a1 (Yd.mk 3 a2.Head a2.H y1.1)).bind fun y2 =>
 bif !y2.2.2.1 then
  some (y2.1,{a2 with PC:= -1},())
 else
  bif decide (a2.Kind=2) then
  (Xy a2.H).bind fun y3 =>
  some (y2.1,{a2 with X:=y3.1,Out:=1},())
  else
  some (y2.1,{a2 with Out:=1},())
 else
 (zaw ((a2.H >>> 32)+1#64) a2.X).bind fun y4 =>
 (XX a1 (Yd.mk 3 a2.Head a2.H y4.1)).bind fun y5 =>
 bif !y5.2.2.1 then
  some (y5.1,{a2 with PC:= -1},())
 else
  bif decide (a2.Kind=2) then
  (Xy a2.H).bind fun y6 =>
  some (y5.1,{a2 with X:=y6.1,Out:=1},())
  else
  some (y5.1,{a2 with Out:=1},()):=zF
theorem zho (a1:List zB) (a2:zV):Ym a1 a2 =
 (Xy a2.H).bind fun y1 =>
 (zaB a1 (w64 (a2.Next+y1.1))).bind fun y2 =>
 some (a1,{a2 with Y:=y2.1.toInt},()):=zF
theorem zwt (a1:List zB) (a2:zV):W1 a1 a2 =
 bif decide (a2.Kind=2) then
 bif !(decide (a2.Out=0)) then
  some (a1,a2,())
 else
  bif !(decide (a2.Kind=1)) then
  bif !(decide (a2.Kind=2)) then
   some (a1,a2,())
  else
   bif decide (a2.PC<0) then
   some (a1,a2,())
   else
   bif decide (3<=a2.PC) then
    some (a1,a2,())
   else
    bif decide (a2.PC=2) then
    (vY a1 a2).bind fun y1 =>
    some (y1.1,{y1.2.1 with PC:=w64 (y1.2.1.PC+1)},())
    else
    bif decide (a2.PC=1) then
     (Ym a1 a2).bind fun y2 =>
     some (y2.1,{y2.2.1 with PC:=w64 (y2.2.1.PC+1)},())
    else
     bif decide (a2.PC=0) then
     (uw a1 a2).bind fun y3 =>
     some (y3.1,{y3.2.1 with PC:=w64 (y3.2.1.PC+1)},())
     else
     none
  else
  bif decide (a2.PC<0) then
   some (a1,a2,())
  else
   bif decide (3<=a2.PC) then
   some (a1,a2,())
   else
   bif decide (a2.PC=2) then
    (vY a1 a2).bind fun y4 =>
    some (y4.1,{y4.2.1 with PC:=w64 (y4.2.1.PC+1)},())
   else
    bif decide (a2.PC=1) then
    (Ym a1 a2).bind fun y5 =>
    some (y5.1,{y5.2.1 with PC:=w64 (y5.2.1.PC+1)},())
    else
    bif decide (a2.PC=0) then
     (uw a1 a2).bind fun y6 =>
     some (y6.1,{y6.2.1 with PC:=w64 (y6.2.1.PC+1)},())
    else
     none
 else
 bif !(decide (a2.Out=0)) then
  some (a1,a2,())
 else
  bif !(decide (a2.Kind=1)) then
  bif !(decide (a2.Kind=2)) then
   some (a1,a2,())
  else
   bif decide (a2.PC<0) then
   some (a1,a2,())
   else
   bif decide (3<=a2.PC) then
    some (a1,a2,())
   else
    bif decide (a2.PC=2) then
    (vY a1 a2).bind fun y7 =>
    some (y7.1,{y7.2.1 with PC:=w64 (y7.2.1.PC+1)},())
    else
    bif decide (a2.PC=1) then
     (Wp a1 a2).bind fun y8 =>
     some (y8.1,{a2 with PC:=w64 (a2.PC+1)},())
    else
     bif decide (a2.PC=0) then
     (uw a1 a2).bind fun y9 =>
     some (y9.1,{y9.2.1 with PC:=w64 (y9.2.1.PC+1)},())
     else
     none
  else
  bif decide (a2.PC<0) then
   some (a1,a2,())
  else
   bif decide (3<=a2.PC) then
   some (a1,a2,())
   else
   bif decide (a2.PC=2) then
    (vY a1 a2).bind fun y10 =>
    some (y10.1,{y10.2.1 with PC:=w64 (y10.2.1.PC+1)},())
   else
    bif decide (a2.PC=1) then
    (Wp a1 a2).bind fun y11 =>
    some (y11.1,{a2 with PC:=w64 (a2.PC+1)},())
    else
    bif decide (a2.PC=0) then
     (uw a1 a2).bind fun y12 =>
     some (y12.1,{y12.2.1 with PC:=w64 (y12.2.1.PC+1)},())
    else
     none:=zF
theorem zng (a1:z3):Zo a1 =
 (W1 a1.s.M a1.Worker.C).bind fun y1 =>
 some (y1.2.1.Out,z3.mk {a1.Worker with C:=y1.2.1} {a1.s with M:=y1.1} a1.w,()):=zF
theorem zda (a1:Int) (a2:z3):Wq a1 a2 =
 some ({a2 with Worker:={a2.Worker with PC:=5,Obj:=a1,Slot:=0}},()):=zF
theorem zkk (a1:Int):zo0 a1 =
 bif decide (a1=1) then
 some (())
 else
 bif decide (a1=2) then
  none
 else
  bif decide (a1=3) then
  none
  else
  none:=zF
theorem zti (a1:Int):zpE a1 =
 bif decide (a1=1) then
 none
 else
 bif decide (a1=2) then
  some (())
 else
  bif decide (a1=3) then
  none
  else
  none:=zF
theorem ztK (a1:Int):zpf a1 =
 bif decide (a1=1) then
 none
 else
 bif decide (a1=2) then
  none
 else
  bif decide (a1=3) then
  some (())
  else
  none:=zF
theorem ztx (a1:Int):zo6 a1 =
 bif decide (a1=1) then
 none
 else
 bif decide (a1=2) then
  none
 else
  bif decide (a1=3) then
  none
  else
  some (([]:List Bool),()):=zF
theorem zv8 (a1:List zB) (a2:Int):uk a1 a2 =
 (XX a1 (Yd.mk 1 a2 0#64 0#64)).bind fun y1 =>
 some (y1.2.1,()):=zF
theorem xW (a1:zg):wA a1 =
 some (w64 (a1.Base+1),()):=zF
theorem Vw (a1:List zB) (a2:zg):vK a1 a2 =
 (wA a2).bind fun y1 =>
 (uk a1 y1.1).bind fun y2 =>
 some (a1,{a2 with B:=y2.1},()):=zF
theorem ZO (a1:zg):ZN a1 =
 some (a1.Base,()):=zF
theorem zmR (a1:zg):yr a1 =
 some (BitVec.ofInt 64 (bif decide (a1.Cap<1) then 1 else a1.Cap),()):=zF
theorem vr (a1:Int) (a2:zg):wB a1 a2 =
 bif !(decide (a1=1)) then
 bif !(decide (a2.Kind=1)) then
  some ({a2 with X:=0,Out:=a1},())
 else
  some ({a2 with Out:=a1},())
 else
 some ({a2 with Out:=a1},()):=zF
theorem zjJ (a1:List zB) (a2:zg):VB a1 a2 =
 (ZN a2).bind fun y1 =>
 (uk a1 y1.1).bind fun y2 =>
 (yr ({a2 with T:=y2.1})).bind fun y3 =>
 bif decide (y3.1<=(a2.B-y2.1)) then
 (wB 3 ({a2 with T:=y2.1})).bind fun y4 =>
 some (a1,y4.1,())
 else
 some (a1,{a2 with T:=y2.1},()):=zF
theorem zlF (a1:zB) (a2:zg):uU a1 a2 =
 (yr a2).bind fun y1 =>
 bif decide (y1.1=0#64) then
 none
 else
 some (w64 ((w64 (a2.Base+2))+((a1%y1.1).toInt)),()):=zF
theorem zuk (a1:List zB) (a2:Int) (a3:zB):XZ a1 a2 a3 =
 (XX a1 (Yd.mk 2 a2 a3 0#64)).bind fun y1 =>
 some (y1.1,()):=zF
theorem zon (a1:List zB) (a2:zg):zbC a1 a2 =
 (uU a2.B a2).bind fun y1 =>
 (XZ a1 y1.1 (BitVec.ofInt 64 a2.X)).bind fun y2 =>
 some (y2.1,()):=zF
theorem zgz (a1:List zB) (a2:zg):XW a1 a2 =
 (wB 1 a2).bind fun y1 =>
 (wA y1.1).bind fun y2 =>
 (XZ a1 y2.1 (y1.1.B+1#64)).bind fun y3 =>
 some (y3.1,y1.1,()):=zF
theorem zlK (a1:List zB) (a2:zg):zeF a1 a2 =
 (wA a2).bind fun y1 =>
 (XZ a1 y1.1 (a2.B-1#64)).bind fun y2 =>
 some (y2.1,()):=zF
theorem zem (a1:zB) (a2:zB):xO a1 a2 =
 some (decide (0<((a1-a2).toInt)),()):=zF
theorem zhF (a1:List zB) (a2:zg):zbM a1 a2 =
 (ZN a2).bind fun y1 =>
 (uk a1 y1.1).bind fun y2 =>
 (xO y2.1 (a2.B-1#64)).bind fun y3 =>
 bif y3.1 then
 some (a1,{a2 with PC:=4,T:=y2.1},())
 else
 some (a1,{a2 with T:=y2.1},()):=zF
theorem zk6 (a1:List zB) (a2:zg):zdD a1 a2 =
 (uU (a2.B-1#64) a2).bind fun y1 =>
 (uk a1 y1.1).bind fun y2 =>
 bif !(decide (a2.T=(a2.B-1#64))) then
 (wB 1 ({a2 with X:=y2.1.toInt})).bind fun y3 =>
 some (a1,y3.1,())
 else
 some (a1,{a2 with X:=y2.1.toInt},()):=zF
theorem zmQ (a1:List zB) (a2:zg):Wo a1 a2 =
 (ZN a2).bind fun y1 =>
 (XX a1 (Yd.mk 3 y1.1 a2.T (a2.T+1#64))).bind fun y2 =>
 some (y2.1,y2.2.2.1,()):=zF
theorem zjQ (a1:List zB) (a2:zg):zc6 a1 a2 =
 (Wo a1 a2).bind fun y1 =>
 bif y1.2.1 then
 some (y1.1,{a2 with PC:=5},())
 else
 some (y1.1,a2,()):=zF
theorem zj9 (a1:List zB) (a2:zg):zc3 a1 a2 =
 (wB 2 a2).bind fun y1 =>
 (wA y1.1).bind fun y2 =>
 (XZ a1 y2.1 y1.1.B).bind fun y3 =>
 some (y3.1,y1.1,()):=zF
theorem zlc (a1:List zB) (a2:zg):zdA a1 a2 =
 (wB 1 a2).bind fun y1 =>
 (wA y1.1).bind fun y2 =>
 (XZ a1 y2.1 y1.1.B).bind fun y3 =>
 some (y3.1,y1.1,()):=zF
theorem zlj (a1:List zB) (a2:zg):zdL a1 a2 =
 (ZN a2).bind fun y1 =>
 (uk a1 y1.1).bind fun y2 =>
 some (a1,{a2 with T:=y2.1},()):=zF
theorem zk3 (a1:List zB) (a2:zg):zd1 a1 a2 =
 (wA a2).bind fun y1 =>
 (uk a1 y1.1).bind fun y2 =>
 (xO y2.1 a2.T).bind fun y3 =>
 bif !y3.1 then
 some (a1,{a2 with B:=y2.1,Out:=2},())
 else
 some (a1,{a2 with B:=y2.1},()):=zF
theorem zjM (a1:List zB) (a2:zg):zc8 a1 a2 =
 (uU a2.T a2).bind fun y1 =>
 (uk a1 y1.1).bind fun y2 =>
 some (a1,{a2 with X:=y2.1.toInt},()):=zF
theorem zhw (a1:List zB) (a2:zg):zbW a1 a2 =
 (Wo a1 a2).bind fun y1 =>
 bif y1.2.1 then
 (wB 1 a2).bind fun y2 =>
 some (y1.1,y2.1,())
 else
 (wB 4 a2).bind fun y3 =>
 some (y1.1,y3.1,()):=zF
theorem znp (a1:List zB) (a2:zg):zcn a1 a2 =
 Option.or (
 (zo0 a2.Kind).bind fun y1 =>
 bif !(decide (a2.Out=0)) then
  some (a1,a2,())
 else
  bif decide (a2.PC<0) then
  some (a1,a2,())
  else
  bif decide (4<=a2.PC) then
   some (a1,a2,())
  else
   bif decide (a2.PC=3) then
   (XW a1 a2).bind fun y2 =>
   some (y2.1,{y2.2.1 with PC:=w64 (y2.2.1.PC+1)},())
   else
   bif decide (a2.PC=2) then
    (zbC a1 a2).bind fun y3 =>
    some (y3.1,{a2 with PC:=w64 (a2.PC+1)},())
   else
    bif decide (a2.PC=1) then
    (VB a1 a2).bind fun y4 =>
    some (y4.1,{y4.2.1 with PC:=w64 (y4.2.1.PC+1)},())
    else
    bif decide (a2.PC=0) then
     (vK a1 a2).bind fun y5 =>
     some (y5.1,{y5.2.1 with PC:=w64 (y5.2.1.PC+1)},())
    else
     none) (
 Option.or (
  (zpE a2.Kind).bind fun y6 =>
  bif !(decide (a2.Out=0)) then
  some (a1,a2,())
  else
  bif decide (a2.PC<0) then
   some (a1,a2,())
  else
   bif decide (7<=a2.PC) then
   some (a1,a2,())
   else
   bif decide (a2.PC=6) then
    (zdA a1 a2).bind fun y7 =>
    some (y7.1,{y7.2.1 with PC:=w64 (y7.2.1.PC+1)},())
   else
    bif decide (a2.PC=5) then
    (zc3 a1 a2).bind fun y8 =>
    some (y8.1,{y8.2.1 with PC:=w64 (y8.2.1.PC+1)},())
    else
    bif decide (a2.PC=4) then
     (zc6 a1 a2).bind fun y9 =>
     some (y9.1,{y9.2.1 with PC:=w64 (y9.2.1.PC+1)},())
    else
     bif decide (a2.PC=3) then
     (zdD a1 a2).bind fun y10 =>
     some (y10.1,{y10.2.1 with PC:=w64 (y10.2.1.PC+1)},())
     else
     bif decide (a2.PC=2) then
      (zbM a1 a2).bind fun y11 =>
      some (y11.1,{y11.2.1 with PC:=w64 (y11.2.1.PC+1)},())
     else
      bif decide (a2.PC=1) then
      (zeF a1 a2).bind fun y12 =>
      some (y12.1,{a2 with PC:=w64 (a2.PC+1)},())
      else
      bif decide (a2.PC=0) then
       (vK a1 a2).bind fun y13 =>
       some (y13.1,{y13.2.1 with PC:=w64 (y13.2.1.PC+1)},())
      else
       none) (
  Option.or (
  (zpf a2.Kind).bind fun y14 =>
  bif !(decide (a2.Out=0)) then
   some (a1,a2,())
  else
   bif decide (a2.PC<0) then
   some (a1,a2,())
   else
   bif decide (4<=a2.PC) then
    some (a1,a2,())
   else
    bif decide (a2.PC=3) then
    (zbW a1 a2).bind fun y15 =>
    some (y15.1,{y15.2.1 with PC:=w64 (y15.2.1.PC+1)},())
    else
    bif decide (a2.PC=2) then
     (zc8 a1 a2).bind fun y16 =>
     some (y16.1,{y16.2.1 with PC:=w64 (y16.2.1.PC+1)},())
    else
     bif decide (a2.PC=1) then
     (zd1 a1 a2).bind fun y17 =>
     some (y17.1,{y17.2.1 with PC:=w64 (y17.2.1.PC+1)},())
     else
     bif decide (a2.PC=0) then
      (zdL a1 a2).bind fun y18 =>
      some (y18.1,{y18.2.1 with PC:=w64 (y18.2.1.PC+1)},())
     else
      none) (
  (zo6 a2.Kind).bind fun y19 =>
  bif !(decide (a2.Out=0)) then
   some (a1,a2,())
  else
   bif decide (a2.PC<0) then
   some (a1,a2,())
   else
   bif decide (((y19.1.length:Int))<=a2.PC) then
    some (a1,a2,())
   else
    none))):=zF
theorem ziP (a1:Int) (a2:Int) (a3:z3):zfJ a1 a2 a3 =
 (xG a3.s.P a2).bind fun y1 =>
 (zd5 a1 y1.1 a3.s.P.Cap 0).bind fun y2 =>
 some (y2.1,()):=zF
theorem W7 (a1:Int) (a2:Int) (a3:Int) (a4:Int):zbl a1 a2 a3 a4 =
 some (zV.mk a1 0 a2 a3 0#64 a4 0 0,()):=zF
theorem zfT (a1:Int) (a2:Int) (a3:Int) (a4:z3):zdm a1 a2 a3 a4 =
 (Yy a4.s.P).bind fun y1 =>
 (zbl a1 a2 y1.1 a3).bind fun y2 =>
 some (y2.1,()):=zF
theorem zni (a1:z3):WB a1 =
 bif decide (((a1.s.Ws.length:Int))=0) then
 none
 else
 bif decide ((w64 ((a1.Worker.Victim.tmod ((a1.s.Ws.length:Int)))+1))=a1.w) then
  (Xq a1.s.P).bind fun y1 =>
  (zdm 2 y1.1 0 ({a1 with Worker:={a1.Worker with Victim:=w64 ((a1.Worker.Victim.tmod ((a1.s.Ws.length:Int)))+1)}})).bind fun y2 =>
  some ({a1 with Worker:={a1.Worker with PC:=2,Victim:=w64 ((a1.Worker.Victim.tmod ((a1.s.Ws.length:Int)))+1),C:=y2.1}},())
 else
  (zfJ 3 (w64 ((a1.Worker.Victim.tmod ((a1.s.Ws.length:Int)))+1)) ({a1 with Worker:={a1.Worker with Victim:=w64 ((a1.Worker.Victim.tmod ((a1.s.Ws.length:Int)))+1)}})).bind fun y3 =>
  some ({a1 with Worker:={a1.Worker with PC:=1,Victim:=w64 ((a1.Worker.Victim.tmod ((a1.s.Ws.length:Int)))+1),D:=y3.1}},()):=zF
theorem zoy (a1:z3):Vr a1 =
 (zcn a1.s.M a1.Worker.D).bind fun y1 =>
 bif decide (y1.2.1.Out=1) then
 (Wq y1.2.1.X (z3.mk {a1.Worker with Victim:=a1.w,D:=y1.2.1} {a1.s with M:=y1.1} a1.w)).bind fun y2 =>
 some (y2.1,())
 else
 bif decide (y1.2.1.Out=4) then
  (WB (z3.mk {a1.Worker with D:=y1.2.1} {a1.s with M:=y1.1} a1.w)).bind fun y3 =>
  some (y3.1,())
 else
  bif decide (y1.2.1.Out=2) then
  (WB (z3.mk {a1.Worker with D:=y1.2.1} {a1.s with M:=y1.1} a1.w)).bind fun y4 =>
  some (y4.1,())
  else
  some (z3.mk {a1.Worker with D:=y1.2.1} {a1.s with M:=y1.1} a1.w,()):=zF
theorem zmj (a1:z3):uM a1 =
 (zfJ 2 a1.w a1).bind fun y1 =>
 some ({a1 with Worker:={a1.Worker with PC:=0,Victim:=a1.w,D:=y1.1}},()):=zF
theorem zhv (a1:zC):vu a1 =
 bif a1.isEmpty then
 zmn (
  some (([]:zC),())) (
  (yD ((([]:zC))++a1)).bind fun l1 =>
  some (l1,()))
 else
 (yD ((([]:zC))++a1)).bind fun l2 =>
 some (l2,()):=zF
theorem znh (a1:z3):za6 a1 =
 (idx a1.s.Bins a1.Worker.Bin).bind fun x1 =>
 (vu a1.s.Bins).bind fun y2 =>
 (wg y2.1 a1.Worker.Bin).bind fun n3 =>
 (X2 a1.s.P).bind fun y4 =>
 (zdm 1 y4.1 a1.Worker.Bin (z3.mk {a1.Worker with Batch:=x1} {a1.s with Bins:=y2.1.set n3 ([]:zA)} a1.w)).bind fun y5 =>
 some (z3.mk {a1.Worker with PC:=4,Batch:=x1,C:=y5.1} {a1.s with Bins:=y2.1.set n3 ([]:zA)} a1.w,()):=zF
theorem zr9 (a1:z3):VW a1 =
 bif decide (a1.Worker.Slot=a1.s.H.Slots) then
 some (8,())
 else
 some (5,()):=zF
theorem zpN (a1:zw) (a2:Int) (a3:Int):U3 a1 a2 a3 =
 bif decide (1<=a2) then
 bif decide (a2<=((a1.Objs.length:Int))) then
  bif decide (0<=a3) then
  (idx a1.Objs (w64 (a2-1))).bind fun x1 =>
  some (decide (a3<((x1.length:Int))),())
  else
  some (false,())
 else
  some (false,())
 else
 some (false,()):=zF
theorem zzC (a1:zw) (a2:Int) (a3:Int):zfU a1 a2 a3 =
 (U3 a1 a2 a3).bind fun y1 =>
 bif !y1.1 then
 some (0,false,())
 else
 (idx a1.Objs (w64 (a2-1))).bind fun x2 =>
 (idx x2 a3).bind fun x3 =>
 some (x3,true,()):=zF
theorem zvG (a1:Int) (a2:Int) (a3:Int):zck a1 a2 a3 =
 some (zK.mk 0 a1 a2 a3 (zg.mk 0 0 0 0 0#64 0#64 0 0) (zV.mk 0 0 0 0 0#64 0 0 0) 0 0,()):=zF
theorem zmS (a1:z3):zaZ a1 =
 (zfU a1.s.H a1.Worker.Obj a1.Worker.Slot).bind fun y1 =>
 bif decide (y1.1=0) then
 (VW ({a1 with Worker:={a1.Worker with Slot:=w64 (a1.Worker.Slot+1)}})).bind fun y2 =>
 some ({a1 with Worker:={a1.Worker with PC:=y2.1,Slot:=w64 (a1.Worker.Slot+1)}},())
 else
 (zck 1 y1.1 a1.w).bind fun y3 =>
 some ({a1 with Worker:={a1.Worker with PC:=6,Slot:=w64 (a1.Worker.Slot+1),G:=y3.1}},()):=zF
theorem zg3 (a1:zX):zb0 a1 =
 some (zX.mk {a1.Grey with PC:=1} {a1.s with Work:=w64 (a1.s.Work+1)},()):=zF
theorem zlO (a1:zX):uN a1 =
 (X2 a1.s.P).bind fun y1 =>
 (Yy a1.s.P).bind fun y2 =>
 (zbl 2 y1.1 y2.1 0).bind fun y3 =>
 some ({a1 with Grey:={a1.Grey with PC:=5,C:=y3.1}},()):=zF
theorem zkS (a1:zX):zdz a1 =
 (zb6 a1.s.T a1.Grey.Obj).bind fun y1 =>
 bif !y1.2.1 then
 some (zX.mk {a1.Grey with PC:=2} {a1.s with T:=y1.1},())
 else
 bif decide (a1.Grey.Mode=1) then
  (xG a1.s.P a1.Grey.Who).bind fun y2 =>
  (zd5 1 y2.1 a1.s.P.Cap a1.Grey.Obj).bind fun y3 =>
  some (zX.mk {a1.Grey with PC:=3,D:=y3.1} {a1.s with T:=y1.1},())
 else
  bif decide (a1.Grey.Mode=2) then
  some (zX.mk {a1.Grey with PC:=4} {a1.s with T:=y1.1},())
  else
  (uN ({a1 with s:={a1.s with T:=y1.1}})).bind fun y4 =>
  some (y4.1,()):=zF
theorem zkG (a1:zX):zdQ a1 =
 some (zX.mk {a1.Grey with Out:=1} {a1.s with Work:=w64 (a1.s.Work-1)},()):=zF
theorem zle (a1:zX):zdB a1 =
 (zcn a1.s.M a1.Grey.D).bind fun y1 =>
 bif decide (y1.2.1.Out=1) then
 some (zX.mk {a1.Grey with D:=y1.2.1,Out:=1} {a1.s with M:=y1.1},())
 else
 bif decide (y1.2.1.Out=3) then
  (uN (zX.mk {a1.Grey with D:=y1.2.1} {a1.s with M:=y1.1})).bind fun y2 =>
  some (y2.1,())
 else
  some (zX.mk {a1.Grey with D:=y1.2.1} {a1.s with M:=y1.1},()):=zF
theorem zkF (a1:zX):zdM a1 =
 (uN ({a1 with s:={a1.s with Flag:=true}})).bind fun y1 =>
 some (y1.1,()):=zF
theorem zk5 (a1:zX):zd0 a1 =
 (W1 a1.s.M a1.Grey.C).bind fun y1 =>
 bif decide (y1.2.1.Out=1) then
 some (zX.mk {a1.Grey with PC:=6,C:=y1.2.1,Bin:=y1.2.1.X} {a1.s with M:=y1.1},())
 else
 bif decide (y1.2.1.Out=2) then
  (uN (zX.mk {a1.Grey with C:=y1.2.1} {a1.s with M:=y1.1})).bind fun y2 =>
  some (y2.1,())
 else
  some (zX.mk {a1.Grey with C:=y1.2.1} {a1.s with M:=y1.1},()):=zF
theorem zk2 (a1:zX):zdS a1 =
 (vu a1.s.Bins).bind fun y1 =>
 (wg y1.1 a1.Grey.Bin).bind fun n2 =>
 (Xq a1.s.P).bind fun y3 =>
 (Yy a1.s.P).bind fun y4 =>
 (zbl 1 y3.1 y4.1 a1.Grey.Bin).bind fun y5 =>
 some ({a1.Grey with PC:=7,C:=y5.1},a1.s.P,a1.s.H,a1.s.M,a1.s.T,a1.s.Work,a1.s.Epoch,a1.s.Flag,a1.s.Done,a1.s.Restarts,a1.s.Acks,a1.s.L,a1.s.Ws,a1.s.Ms,a1.s.D,y1.1.set n2 ([a1.Grey.Obj]:zA),()):=zF
theorem zhV (a1:zX):zbO a1 =
 (W1 a1.s.M a1.Grey.C).bind fun y1 =>
 bif decide (y1.2.1.Out=1) then
 some (zX.mk {a1.Grey with C:=y1.2.1,Out:=1} {a1.s with M:=y1.1},())
 else
 some (zX.mk {a1.Grey with C:=y1.2.1} {a1.s with M:=y1.1},()):=zF
end Go.Pe.G
namespace Go.Pe.G
open Go.Pe
theorem zxS (a1:za) (a2:zK):zdZ a1 a2 =
 bif !(decide (a2.Out=0)) then
 some (a1,a2,())
 else
 bif decide (a2.Mode<1) then
  some (a1,a2,())
 else
  bif decide (3<a2.Mode) then
  some (a1,a2,())
  else
  bif decide (a2.PC<0) then
   some (a1,a2,())
  else
   bif decide (8<=a2.PC) then
   some (a1,a2,())
   else
   bif decide (a2.PC=7) then
    (zbO (zX.mk a2 a1)).bind fun y1 =>
    some (y1.1.s,y1.1.Grey,())
   else
    bif decide (a2.PC=6) then
    (zdS (zX.mk a2 a1)).bind fun y2 =>
    let y2a:=y2.2.2.2.2.2.2.2.2
    some (za.mk y2.2.1 y2.2.2.1 y2.2.2.2.1 y2a.2.2.2.2.2.2.2.1 y2.2.2.2.2.1 y2.2.2.2.2.2.1 y2.2.2.2.2.2.2.1 y2.2.2.2.2.2.2.2.1 y2a.1 y2a.2.1 y2a.2.2.1 y2a.2.2.2.1 y2a.2.2.2.2.1 y2a.2.2.2.2.2.1 y2a.2.2.2.2.2.2.1,y2.1,())
    else
    bif decide (a2.PC=5) then
     (zd0 (zX.mk a2 a1)).bind fun y3 =>
     some (y3.1.s,y3.1.Grey,())
    else
     bif decide (a2.PC=4) then
     (zdM (zX.mk a2 a1)).bind fun y4 =>
     some (y4.1.s,y4.1.Grey,())
     else
     bif decide (a2.PC=3) then
      (zdB (zX.mk a2 a1)).bind fun y5 =>
      some (y5.1.s,y5.1.Grey,())
     else
      bif decide (a2.PC=2) then
      (zdQ (zX.mk a2 a1)).bind fun y6 =>
      some (y6.1.s,y6.1.Grey,())
      else
      bif decide (a2.PC=1) then
       (zdz (zX.mk a2 a1)).bind fun y7 =>
       some (y7.1.s,y7.1.Grey,())
      else
       bif decide (a2.PC=0) then
       (zb0 (zX.mk a2 a1)).bind fun y8 =>
       some (y8.1.s,y8.1.Grey,())
       else
       none:=zF
theorem zmL (a1:zy) (a2:Int):Z7 a1 a2 =
 bif decide (1<=a2) then
 some (decide (a2<=((a1.Bal.length:Int))),())
 else
 some (false,()):=zF
theorem zrt (a1:Int):zgn a1 =
 some (w64 (a1+1),()):=zF
theorem zab (a1:zy) (a2:Int):YQ a1 a2 =
 bif decide (((a1.Bal.length:Int))=((a1.Bal.length:Int))) then
 (Vo ((a1.Bal.length:Int))).bind fun n1 =>
 bif decide (a1.Bal.length=((List.replicate n1 ((0:Int))).length)) then
  bif a1.Bal.isEmpty then
  (wg (List.replicate n1 ((0:Int))) (w64 (a2-1))).bind fun n2 =>
  ((List.replicate n1 ((0:Int)))[n2]?).bind fun x3 =>
  (zgn x3).bind fun y4 =>
  (wg (List.replicate n1 ((0:Int))) (w64 (a2-1))).bind fun n5 =>
  some ({a1 with Bal:=(List.replicate n1 ((0:Int))).set n5 y4.1},())
  else
  (wg a1.Bal (w64 (a2-1))).bind fun n6 =>
  (a1.Bal[n6]?).bind fun x7 =>
  (zgn x7).bind fun y8 =>
  (wg a1.Bal (w64 (a2-1))).bind fun n9 =>
  some ({a1 with Bal:=a1.Bal.set n9 y8.1},())
 else
  none
 else
 none:=zF
theorem zuo (a1:zy) (a2:Int):zbm a1 a2 =
 (Z7 ({a1 with Scanned:=w64 (a1.Scanned+1)}) a2).bind fun y1 =>
 bif !y1.1 then
 some ({a1 with Scanned:=w64 (a1.Scanned+1),Pool:=w64 (a1.Pool+1)},())
 else
 (YQ ({a1 with Scanned:=w64 (a1.Scanned+1)}) a2).bind fun y2 =>
 some (y2.1,()):=zF
theorem zm9 (a1:z3):za3 a1 =
 bif decide (a1.Worker.PC=0) then
 bif decide (a1.Worker.PC=0) then
  (Vr a1).bind fun y1 =>
  some (y1.1,())
 else
  bif decide (a1.Worker.PC=2) then
  (Zo a1).bind fun y2 =>
  bif decide (y2.1=1) then
   some ({y2.2.1 with Worker:={y2.2.1.Worker with PC:=3,Bin:=y2.2.1.Worker.C.X}},())
  else
   bif decide (y2.1=2) then
   (uM y2.2.1).bind fun y3 =>
   some (y3.1,())
   else
   some (y2.2.1,())
  else
  bif decide (a1.Worker.PC=3) then
   (za6 a1).bind fun y4 =>
   some (y4.1,())
  else
   bif decide (a1.Worker.PC=4) then
   (Zo a1).bind fun y5 =>
   bif decide (y5.1=1) then
    some ({y5.2.1 with Worker:={y5.2.1.Worker with PC:=7,Bin:=0}},())
   else
    some (y5.2.1,())
   else
   bif decide (a1.Worker.PC=5) then
    (zaZ a1).bind fun y6 =>
    some (y6.1,())
   else
    bif decide (a1.Worker.PC=6) then
    (zdZ a1.s a1.Worker.G).bind fun y7 =>
    bif decide (y7.2.1.Out=1) then
     (VW (z3.mk {a1.Worker with G:=y7.2.1} y7.1 a1.w)).bind fun y8 =>
     some (z3.mk {a1.Worker with PC:=y8.1,G:=y7.2.1} y7.1 a1.w,())
    else
     some (z3.mk {a1.Worker with G:=y7.2.1} y7.1 a1.w,())
    else
    bif decide (a1.Worker.PC=7) then
     bif decide (((a1.Worker.Batch.length:Int))=0) then
     (uM a1).bind fun y9 =>
     some (y9.1,())
     else
     (idx a1.Worker.Batch 0).bind fun x10 =>
     (Wq x10 a1).bind fun y11 =>
     (cut y11.1.Worker.Batch 1 ((y11.1.Worker.Batch.length:Int))).bind fun l12 =>
     some ({y11.1 with Worker:={y11.1.Worker with Batch:=l12}},())
    else
     bif decide (a1.Worker.PC=8) then
     (Uu a1.s.T a1.Worker.Obj).bind fun y13 =>
     (zbm a1.s.L 0).bind fun y14 =>
     some (z3.mk {a1.Worker with PC:=9} {a1.s with T:=y13.1,L:=y14.1} a1.w,())
     else
     bif decide (a1.Worker.PC=9) then
      some (z3.mk {a1.Worker with PC:=7,Obj:=0} {a1.s with Work:=w64 (a1.s.Work-1)} a1.w,())
     else
      some (a1,())
 else
 bif decide (a1.Worker.PC=1) then
  (Vr a1).bind fun y15 =>
  some (y15.1,())
 else
  bif decide (a1.Worker.PC=2) then
  (Zo a1).bind fun y16 =>
  bif decide (y16.1=1) then
   some ({y16.2.1 with Worker:={y16.2.1.Worker with PC:=3,Bin:=y16.2.1.Worker.C.X}},())
  else
   bif decide (y16.1=2) then
   (uM y16.2.1).bind fun y17 =>
   some (y17.1,())
   else
   some (y16.2.1,())
  else
  bif decide (a1.Worker.PC=3) then
   (za6 a1).bind fun y18 =>
   some (y18.1,())
  else
   bif decide (a1.Worker.PC=4) then
   (Zo a1).bind fun y19 =>
   bif decide (y19.1=1) then
    some ({y19.2.1 with Worker:={y19.2.1.Worker with PC:=7,Bin:=0}},())
   else
    some (y19.2.1,())
   else
   bif decide (a1.Worker.PC=5) then
    (zaZ a1).bind fun y20 =>
    some (y20.1,())
   else
    bif decide (a1.Worker.PC=6) then
    (zdZ a1.s a1.Worker.G).bind fun y21 =>
    bif decide (y21.2.1.Out=1) then
     (VW (z3.mk {a1.Worker with G:=y21.2.1} y21.1 a1.w)).bind fun y22 =>
     some (z3.mk {a1.Worker with PC:=y22.1,G:=y21.2.1} y21.1 a1.w,())
    else
     some (z3.mk {a1.Worker with G:=y21.2.1} y21.1 a1.w,())
    else
    bif decide (a1.Worker.PC=7) then
     bif decide (((a1.Worker.Batch.length:Int))=0) then
     (uM a1).bind fun y23 =>
     some (y23.1,())
     else
     (idx a1.Worker.Batch 0).bind fun x24 =>
     (Wq x24 a1).bind fun y25 =>
     (cut y25.1.Worker.Batch 1 ((y25.1.Worker.Batch.length:Int))).bind fun l26 =>
     some ({y25.1 with Worker:={y25.1.Worker with Batch:=l26}},())
    else
     bif decide (a1.Worker.PC=8) then
     (Uu a1.s.T a1.Worker.Obj).bind fun y27 =>
     (zbm a1.s.L 0).bind fun y28 =>
     some (z3.mk {a1.Worker with PC:=9} {a1.s with T:=y27.1,L:=y28.1} a1.w,())
     else
     bif decide (a1.Worker.PC=9) then
      some (z3.mk {a1.Worker with PC:=7,Obj:=0} {a1.s with Work:=w64 (a1.s.Work-1)} a1.w,())
     else
      some (a1,()):=zF
theorem UF (a1:List zj):vS a1 =
 bif a1.isEmpty then
 zmn (
  some (([]:List zj),())) (
  (yD (([]:List zj)++a1)).bind fun l1 =>
  some (l1,()))
 else
 (yD (([]:List zj)++a1)).bind fun l2 =>
 some (l2,()):=zF
theorem zum (a1:za) (a2:Int):zkc a1 a2 =
 bif a1.Done then
 some (a1,())
 else
 bif decide (a2<1) then
  some (a1,())
 else
  bif decide (((a1.Ws.length:Int))<a2) then
  some (a1,())
  else
  (idx a1.Ws (w64 (a2-1))).bind fun x1 =>
  (za3 (z3.mk x1 a1 a2)).bind fun y2 =>
  (vS y2.1.s.Ws).bind fun y3 =>
  (wg y3.1 (w64 (a2-1))).bind fun n4 =>
  some ({y2.1.s with Ws:=y3.1.set n4 y2.1.Worker},()):=zF
theorem zq9 (a1:zI):uc a1 =
 (idx a1.s.P.Progs (w64 (a1.m-1))).bind fun x1 =>
 (idx x1 a1.Mutator.IP).bind fun x2 =>
 some (x2,()):=zF
theorem Yt (a1:zI):Yh a1 =
 some ({a1 with Mutator:={a1.Mutator with PC:=0,IP:=w64 (a1.Mutator.IP+1)}},()):=zF
theorem zna (a1:Int) (a2:Int) (a3:zI):Zm a1 a2 a3 =
 (yZ a3.Mutator.Regs).bind fun y1 =>
 (wg y1.1 a1).bind fun n2 =>
 (Yh ({a3 with Mutator:={a3.Mutator with Regs:=y1.1.set n2 a2}})).bind fun y3 =>
 some (y3.1,()):=zF
theorem zli (a1:zI):Uz a1 =
 (idx a1.s.Acks (w64 (a1.m-1))).bind fun x1 =>
 bif decide (x1<a1.s.Epoch) then
 some ({a1 with Mutator:={a1.Mutator with PC:=1,Ret:=2,Want:=a1.s.Epoch}},())
 else
 (idx a1.s.P.Progs (w64 (a1.m-1))).bind fun x2 =>
 bif decide (((x2.length:Int))<=a1.Mutator.IP) then
  some (a1,())
 else
  (uc a1).bind fun y3 =>
  bif decide (y3.1.Kind=1) then
  some ({a1 with Mutator:={a1.Mutator with PC:=10}},())
  else
  bif decide (y3.1.Kind=2) then
   some ({a1 with Mutator:={a1.Mutator with PC:=20}},())
  else
   bif decide (y3.1.Kind=3) then
   some ({a1 with Mutator:={a1.Mutator with PC:=30}},())
   else
   bif decide (y3.1.Kind=4) then
    (idx a1.Mutator.Regs y3.1.A).bind fun x4 =>
    (Zm y3.1.R x4 a1).bind fun y5 =>
    some (y5.1,())
   else
    (Zm y3.1.R 0 a1).bind fun y6 =>
    some (y6.1,()):=zF
theorem zkK (a1:zI):zdr a1 =
 bif decide ((w64 (((a1.Mutator.Buf.length:Int))-1))<0) then
 some ({a1 with Mutator:={a1.Mutator with PC:=a1.Mutator.Ret}},())
 else
 (idx a1.Mutator.Buf (w64 (((a1.Mutator.Buf.length:Int))-1))).bind fun x1 =>
 (zck 2 x1 a1.m).bind fun y2 =>
 (cut a1.Mutator.Buf 0 (w64 (((a1.Mutator.Buf.length:Int))-1))).bind fun l3 =>
 some ({a1 with Mutator:={a1.Mutator with PC:=3,Buf:=l3,G:=y2.1}},()):=zF
theorem zmY (a1:zI):zgk a1 =
 (yZ a1.s.Acks).bind fun y1 =>
 (wg y1.1 (w64 (a1.m-1))).bind fun n2 =>
 some ({a1.Mutator with PC:=0},a1.s.P,a1.s.H,a1.s.M,a1.s.Bins,a1.s.T,a1.s.Work,a1.s.Epoch,a1.s.Flag,a1.s.Done,a1.s.Restarts,a1.s.L,a1.s.Ws,a1.s.Ms,a1.s.D,a1.m,y1.1.set n2 a1.Mutator.Want,()):=zF
theorem zkb (a1:Int) (a2:zI):YT a1 a2 =
 (zdZ a2.s a2.Mutator.G).bind fun y1 =>
 bif decide (y1.2.1.Out=1) then
 some (zI.mk {a2.Mutator with PC:=a1,G:=y1.2.1} y1.1 a2.m,())
 else
 some (zI.mk {a2.Mutator with G:=y1.2.1} y1.1 a2.m,()):=zF
theorem zkI (a1:zI):zdv a1 =
 (YT 1 a1).bind fun y1 =>
 some (y1.1,()):=zF
theorem zpH (a1:zI):V3 a1 =
 (uc a1).bind fun y1 =>
 (idx a1.Mutator.Regs y1.1.A).bind fun x2 =>
 (uc a1).bind fun y3 =>
 (zfU a1.s.H x2 y3.1.S).bind fun y4 =>
 some (y4.1,()):=zF
theorem zmE (a1:zI):zeN a1 =
 (uc a1).bind fun y1 =>
 (V3 a1).bind fun y2 =>
 (Zm y1.1.R y2.1 a1).bind fun y3 =>
 some (y3.1,()):=zF
theorem zm3 (a1:zI):zf0 a1 =
 (uc a1).bind fun y1 =>
 (idx a1.Mutator.Regs y1.1.A).bind fun x2 =>
 bif decide (x2=0) then
 (Yh a1).bind fun y3 =>
 some (y3.1,())
 else
 (V3 a1).bind fun y4 =>
 some ({a1 with Mutator:={a1.Mutator with PC:=21,Old:=y4.1}},()):=zF
theorem zkC (a1:zI):zdK a1 =
 bif decide (a1.Mutator.Old=0) then
 some ({a1 with Mutator:={a1.Mutator with PC:=23,Old:=0}},())
 else
 (V1 a1.s.T a1.Mutator.Old).bind fun y1 =>
 bif !(decide (y1.1=0)) then
  some ({a1 with Mutator:={a1.Mutator with PC:=23,Old:=0}},())
 else
  some ({a1 with Mutator:={a1.Mutator with PC:=22}},()):=zF
theorem zgV (a1:zI):zb1 a1 =
 bif decide (a1.s.P.Buf<=((a1.Mutator.Buf.length:Int))) then
 some ({a1 with Mutator:={a1.Mutator with PC:=1,Ret:=22}},())
 else
 (yZ a1.Mutator.Buf).bind fun y1 =>
 (yD (y1.1++([a1.Mutator.Old]:zA))).bind fun l2 =>
 some ({a1 with Mutator:={a1.Mutator with PC:=23,Old:=0,Buf:=l2}},()):=zF
theorem zzT (a1:zw) (a2:Int) (a3:Int) (a4:Int):zqj a1 a2 a3 a4 =
 (U3 a1 a2 a3).bind fun y1 =>
 bif !y1.1 then
 some (a1,false,())
 else
 bif decide (a4<0) then
  some (a1,false,())
 else
  bif decide (((a1.Objs.length:Int))<a4) then
  some (a1,false,())
  else
  (vu a1.Objs).bind fun y2 =>
  (wg y2.1 (w64 (a2-1))).bind fun n3 =>
  (y2.1[n3]?).bind fun x4 =>
  (yZ x4).bind fun y5 =>
  (wg y2.1 (w64 (a2-1))).bind fun n6 =>
  (wg y2.1 (w64 (a2-1))).bind fun n7 =>
  bif decide (n7=n6) then
   (wg y5.1 a3).bind fun n8 =>
   some ({a1 with Objs:=y2.1.set n6 (y5.1.set n8 a4)},true,())
  else
   none:=zF
theorem zkH (a1:zI):zdF a1 =
 (uc a1).bind fun y1 =>
 (idx a1.Mutator.Regs y1.1.A).bind fun x2 =>
 (idx a1.Mutator.Regs y1.1.R).bind fun x3 =>
 (zqj a1.s.H x2 y1.1.S x3).bind fun y4 =>
 (Yh ({a1 with s:={a1.s with H:=y4.1}})).bind fun y5 =>
 some (y5.1,()):=zF
theorem zrb (a1:Int) (a2:Int):zaS a1 a2 =
 some (w64 (a1-a2),()):=zF
theorem UQ (a1:zy) (a2:Int) (a3:Int):Yw a1 a2 a3 =
 bif decide (((a1.Bal.length:Int))=((a1.Bal.length:Int))) then
 (Vo ((a1.Bal.length:Int))).bind fun n1 =>
 bif decide (a1.Bal.length=((List.replicate n1 ((0:Int))).length)) then
  bif a1.Bal.isEmpty then
  (wg (List.replicate n1 ((0:Int))) (w64 (a2-1))).bind fun n2 =>
  ((List.replicate n1 ((0:Int)))[n2]?).bind fun x3 =>
  (zaS x3 a3).bind fun y4 =>
  (wg (List.replicate n1 ((0:Int))) (w64 (a2-1))).bind fun n5 =>
  some ({a1 with Bal:=(List.replicate n1 ((0:Int))).set n5 y4.1},())
  else
  (wg a1.Bal (w64 (a2-1))).bind fun n6 =>
  (a1.Bal[n6]?).bind fun x7 =>
  (zaS x7 a3).bind fun y8 =>
  (wg a1.Bal (w64 (a2-1))).bind fun n9 =>
  some ({a1 with Bal:=a1.Bal.set n9 y8.1},())
 else
  none
 else
 none:=zF
theorem zkL (a1:zy) (a2:Int) (a3:Int) (a4:Int):Xd a1 a2 a3 a4 =
 (Z7 a1 a2).bind fun y1 =>
 bif y1.1 then
 bif decide (0<=(bif decide (a4<a3) then a4 else a3)) then
  some (decide ((bif decide (a3<a4) then a4 else a3)<=1000000),())
 else
  some (false,())
 else
 some (false,()):=zF
theorem zvw (a1:zy) (a2:Int) (a3:Int) (a4:Int):zgd a1 a2 a3 a4 =
 (Xd a1 a2 a3 a4).bind fun y1 =>
 bif y1.1 then
 (idx a1.Bal (w64 (a2-1))).bind fun x2 =>
 some (decide ((w64 (0-a4))<=(w64 (x2-a3))),())
 else
 some (false,()):=zF
theorem ztp (a1:zy) (a2:Int) (a3:Int) (a4:Int):zgX a1 a2 a3 a4 =
 (zgd a1 a2 a3 a4).bind fun y1 =>
 bif !y1.1 then
 some (a1,false,())
 else
 (Yw ({a1 with Spent:=w64 (a1.Spent+a3)}) a2 a3).bind fun y2 =>
 some (y2.1,true,()):=zF
theorem zk0 (a1:zI):zdw a1 =
 (zgX a1.s.L a1.m a1.s.P.Price a1.s.P.Limit).bind fun y1 =>
 bif !y1.2.1 then
 some ({a1 with Mutator:={a1.Mutator with PC:=31}},())
 else
 (zgl a1.s.H a1.s.P.Most).bind fun y2 =>
 bif !(decide (y2.2.2.1=0)) then
  (Yh a1).bind fun y3 =>
  some (y3.1,())
 else
  (zct a1.s.T y2.2.1).bind fun y4 =>
  (uc ({a1 with s:={a1.s with H:=y2.1,T:=y4.1,L:=y1.1}})).bind fun y5 =>
  (Zm y5.1.R y2.2.1 ({a1 with s:={a1.s with H:=y2.1,T:=y4.1,L:=y1.1}})).bind fun y6 =>
  some (y6.1,()):=zF
theorem zrA (a1:Int) (a2:Int):zbP a1 a2 =
 some (w64 (a1+a2),()):=zF
theorem U6 (a1:zy) (a2:Int) (a3:Int):YP a1 a2 a3 =
 bif decide (((a1.Bal.length:Int))=((a1.Bal.length:Int))) then
 (Vo ((a1.Bal.length:Int))).bind fun n1 =>
 bif decide (a1.Bal.length=((List.replicate n1 ((0:Int))).length)) then
  bif a1.Bal.isEmpty then
  (wg (List.replicate n1 ((0:Int))) (w64 (a2-1))).bind fun n2 =>
  ((List.replicate n1 ((0:Int)))[n2]?).bind fun x3 =>
  (zbP x3 a3).bind fun y4 =>
  (wg (List.replicate n1 ((0:Int))) (w64 (a2-1))).bind fun n5 =>
  some ({a1 with Bal:=(List.replicate n1 ((0:Int))).set n5 y4.1},())
  else
  (wg a1.Bal (w64 (a2-1))).bind fun n6 =>
  (a1.Bal[n6]?).bind fun x7 =>
  (zbP x7 a3).bind fun y8 =>
  (wg a1.Bal (w64 (a2-1))).bind fun n9 =>
  some ({a1 with Bal:=a1.Bal.set n9 y8.1},())
 else
  none
 else
 none:=zF
theorem zuG (a1:zy) (a2:Int) (a3:Int):zjN a1 a2 a3 =
 (Z7 a1 a2).bind fun y1 =>
 bif !y1.1 then
 some (a1,0,())
 else
 bif decide ((bif decide (a1.Pool<a3) then a1.Pool else a3)<=0) then
  some (a1,0,())
 else
  (YP ({a1 with Pool:=w64 (a1.Pool-(bif decide (a1.Pool<a3) then a1.Pool else a3))}) a2 (bif decide (a1.Pool<a3) then a1.Pool else a3)).bind fun y2 =>
  some (y2.1,bif decide (a1.Pool<a3) then a1.Pool else a3,()):=zF
theorem ztm (a1:zy) (a2:Int) (a3:Int) (a4:Int):zhb a1 a2 a3 a4 =
 (Xd a1 a2 a3 a4).bind fun y1 =>
 bif !y1.1 then
 some (-1,())
 else
 (zgd a1 a2 a3 a4).bind fun y2 =>
 bif y2.1 then
  some (0,())
 else
  (idx a1.Bal (w64 (a2-1))).bind fun x3 =>
  some (w64 ((w64 (a3-a4))-x3),()):=zF
theorem zlQ (a1:Int) (a2:Int) (a3:Int) (a4:zI):XI a1 a2 a3 a4 =
 (Yy a4.s.P).bind fun y1 =>
 (zbl a1 a2 y1.1 a4.Mutator.Bin).bind fun y2 =>
 some ({a4 with Mutator:={a4.Mutator with PC:=a3,C:=y2.1}},()):=zF
theorem zl7 (a1:zI):zeH a1 =
 (zhb a1.s.L a1.m a1.s.P.Price a1.s.P.Limit).bind fun y1 =>
 (zjN a1.s.L a1.m y1.1).bind fun y2 =>
 bif decide (y2.2.1=0) then
 (Xq a1.s.P).bind fun y3 =>
 (XI 2 y3.1 32 (zI.mk {a1.Mutator with PC:=0} {a1.s with L:=y2.1} a1.m)).bind fun y4 =>
 some (y4.1,())
 else
 some (zI.mk {a1.Mutator with PC:=0} {a1.s with L:=y2.1} a1.m,()):=zF
theorem zmX (a1:zI):zfb a1 =
 (W1 a1.s.M a1.Mutator.C).bind fun y1 =>
 bif decide (y1.2.1.Out=1) then
 some (zI.mk {a1.Mutator with PC:=33,Bin:=y1.2.1.X,C:=y1.2.1} {a1.s with M:=y1.1} a1.m,())
 else
 bif decide (y1.2.1.Out=2) then
  some (zI.mk {a1.Mutator with PC:=0,C:=y1.2.1} {a1.s with M:=y1.1} a1.m,())
 else
  some (zI.mk {a1.Mutator with C:=y1.2.1} {a1.s with M:=y1.1} a1.m,()):=zF
theorem zkM (a1:zI):zdV a1 =
 (idx a1.s.Bins a1.Mutator.Bin).bind fun x1 =>
 (vu a1.s.Bins).bind fun y2 =>
 (wg y2.1 a1.Mutator.Bin).bind fun n3 =>
 (X2 a1.s.P).bind fun y4 =>
 (XI 1 y4.1 34 (zI.mk {a1.Mutator with Batch:=x1} {a1.s with Bins:=y2.1.set n3 ([]:zA)} a1.m)).bind fun y5 =>
 some (y5.1,()):=zF
theorem zlI (a1:zI):zeW a1 =
 (W1 a1.s.M a1.Mutator.C).bind fun y1 =>
 bif decide (y1.2.1.Out=1) then
 some (zI.mk {a1.Mutator with PC:=35,Bin:=0,C:=y1.2.1} {a1.s with M:=y1.1} a1.m,())
 else
 some (zI.mk {a1.Mutator with C:=y1.2.1} {a1.s with M:=y1.1} a1.m,()):=zF
theorem zkz (a1:zI):zdG a1 =
 bif decide (0<((a1.Mutator.Batch.length:Int))) then
 (idx a1.Mutator.Batch 0).bind fun x1 =>
 (cut a1.Mutator.Batch 1 ((a1.Mutator.Batch.length:Int))).bind fun l2 =>
 some ({a1 with Mutator:={a1.Mutator with PC:=36,Obj:=x1,Slot:=0,Batch:=l2}},())
 else
 some ({a1 with Mutator:={a1.Mutator with PC:=0}},()):=zF
theorem zrp (a1:zI):zbc a1 =
 bif decide (a1.Mutator.Slot=a1.s.H.Slots) then
 some (38,())
 else
 some (36,()):=zF
theorem zl9 (a1:zI):zeV a1 =
 (zfU a1.s.H a1.Mutator.Obj a1.Mutator.Slot).bind fun y1 =>
 (zbc ({a1 with Mutator:={a1.Mutator with Slot:=w64 (a1.Mutator.Slot+1)}})).bind fun y2 =>
 bif !(decide (y1.1=0)) then
 (zck 3 y1.1 a1.m).bind fun y3 =>
 some ({a1 with Mutator:={a1.Mutator with PC:=37,Slot:=w64 (a1.Mutator.Slot+1),G:=y3.1}},())
 else
 some ({a1 with Mutator:={a1.Mutator with PC:=y2.1,Slot:=w64 (a1.Mutator.Slot+1)}},()):=zF
theorem zm6 (a1:zI):zfX a1 =
 (zbc a1).bind fun y1 =>
 (YT y1.1 a1).bind fun y2 =>
 some (y2.1,()):=zF
theorem ziV (a1:zI):zcw a1 =
 (Uu a1.s.T a1.Mutator.Obj).bind fun y1 =>
 (zbm a1.s.L a1.m).bind fun y2 =>
 some (zI.mk {a1.Mutator with PC:=39} {a1.s with T:=y1.1,L:=y2.1} a1.m,()):=zF
theorem zi6 (a1:zI):zcr a1 =
 some (zI.mk {a1.Mutator with PC:=35,Obj:=0} {a1.s with Work:=w64 (a1.s.Work-1)} a1.m,()):=zF
theorem zmk (a1:zI):zay a1 =
 bif decide (a1.Mutator.PC=0) then
 (Uz a1).bind fun y1 =>
 some (y1.1,())
 else
 bif decide (a1.Mutator.PC=1) then
  (zdr a1).bind fun y2 =>
  some (y2.1,())
 else
  bif decide (a1.Mutator.PC=2) then
  (zgk a1).bind fun y3 =>
  let y3a:=y3.2.2.2.2.2.2.2.2;let y3b:=y3a.2.2.2.2.2.2.2.2
  some (zI.mk y3.1 (za.mk y3.2.1 y3.2.2.1 y3.2.2.2.1 y3.2.2.2.2.1 y3.2.2.2.2.2.1 y3.2.2.2.2.2.2.1 y3.2.2.2.2.2.2.2.1 y3a.1 y3a.2.1 y3a.2.2.1 y3b.1 y3a.2.2.2.1 y3a.2.2.2.2.1 y3a.2.2.2.2.2.1 y3a.2.2.2.2.2.2.1) y3a.2.2.2.2.2.2.2.1,())
  else
  bif decide (a1.Mutator.PC=3) then
   (zdv a1).bind fun y4 =>
   some (y4.1,())
  else
   bif decide (a1.Mutator.PC=10) then
   (zeN a1).bind fun y5 =>
   some (y5.1,())
   else
   bif decide (a1.Mutator.PC=20) then
    (zf0 a1).bind fun y6 =>
    some (y6.1,())
   else
    bif decide (a1.Mutator.PC=21) then
    (zdK a1).bind fun y7 =>
    some (y7.1,())
    else
    bif decide (a1.Mutator.PC=22) then
     (zb1 a1).bind fun y8 =>
     some (y8.1,())
    else
     bif decide (a1.Mutator.PC=23) then
     (zdF a1).bind fun y9 =>
     some (y9.1,())
     else
     bif decide (a1.Mutator.PC=30) then
      (zdw a1).bind fun y10 =>
      some (y10.1,())
     else
      bif decide (a1.Mutator.PC=31) then
      (zeH a1).bind fun y11 =>
      some (y11.1,())
      else
      bif decide (a1.Mutator.PC=32) then
       (zfb a1).bind fun y12 =>
       some (y12.1,())
      else
       bif decide (a1.Mutator.PC=33) then
       (zdV a1).bind fun y13 =>
       some (y13.1,())
       else
       bif decide (a1.Mutator.PC=34) then
        (zeW a1).bind fun y14 =>
        some (y14.1,())
       else
        bif decide (a1.Mutator.PC=35) then
        (zdG a1).bind fun y15 =>
        some (y15.1,())
        else
        bif decide (a1.Mutator.PC=36) then
         (zeV a1).bind fun y16 =>
         some (y16.1,())
        else
         bif decide (a1.Mutator.PC=37) then
         (zfX a1).bind fun y17 =>
         some (y17.1,())
         else
         bif decide (a1.Mutator.PC=38) then
          (zcw a1).bind fun y18 =>
          some (y18.1,())
         else
          bif decide (a1.Mutator.PC=39) then
          (zcr a1).bind fun y19 =>
          some (y19.1,())
          else
          some (a1,()):=zF
theorem VM (a1:List ze):vC a1 =
 bif a1.isEmpty then
 zmn (
  some (([]:List ze),())) (
  (yD (([]:List ze)++a1)).bind fun l1 =>
  some (l1,()))
 else
 (yD (([]:List ze)++a1)).bind fun l2 =>
 some (l2,()):=zF
theorem ztv (a1:za) (a2:Int):zhg a1 a2 =
 bif a1.Done then
 some (a1,())
 else
 bif decide (a2<1) then
  some (a1,())
 else
  bif decide (((a1.Ms.length:Int))<a2) then
  some (a1,())
  else
  (idx a1.Ms (w64 (a2-1))).bind fun x1 =>
  (zay (zI.mk x1 a1 a2)).bind fun y2 =>
  (vC y2.1.s.Ms).bind fun y3 =>
  (wg y3.1 (w64 (a2-1))).bind fun n4 =>
  some ({y2.1.s with Ms:=y3.1.set n4 y2.1.Mutator},()):=zF
theorem zuE (a1:za) (a2:zk):zd7 a1 a2 =
 (zlZ a2).bind fun y1 =>
 bif !y1.1 then
 some (a1,())
 else
 bif decide (a2.Kind=0) then
  (znw a1 a2.N).bind fun y2 =>
  some (y2.1,())
 else
  bif decide (a2.Kind=1) then
  (zkc a1 a2.N).bind fun y3 =>
  some (y3.1,())
  else
  bif decide (a2.Kind=2) then
   (zhg a1 a2.N).bind fun y4 =>
   some (y4.1,())
  else
   none:=zF
end Go.Pe.G
namespace Go.Pe.G
open Go.Pe
theorem zr4 (s1:List zk) (s2:List zk) (s3:Int) (s4:Int) (s5:za) (s6:Int) (s7:Int) (s8:Int) (s9:Int) (s10:Int) (s11:Int) (s12:Int) (s13:Int) (s14:Int) (s15:zB) (s16:Int) (s17:zo) (s18:Int) (s19:Int) (s20:Bool) (s21:Bool) (s22:Int) (s23:Int) (s24:Int) (s25:Int) (s26:zN) (s27:zC) (s28:zC) (s29:List (List zE)) (s30:List zk) (s31:zC) (s32:List zB) (s33:zC) (s34:zA) (s35:zA) (s36:List zj) (s37:List ze):zgc (s1,s2,s3,s4,s5,s6,s7,s8,s9,s10,s11,s12,s13,s14,s15,s16,s17,s18,s19,s20,s21,s22,s23,s24,s25,s26,s27,s28,s29,s30,s31,s32,s33,s34,s35,s36,s37,()) =
 bif decide (s4<s3) then
 (idx s2 s4).bind fun x1 =>
 bif s5.Done then
  some (.ret (s4,s5,()))
 else
  (zd7 s5 x1).bind fun y2 =>
  some (.again (s1,s2,s3,w64 (s4+1),y2.1,s6,s7,s8,s9,s10,s11,s12,s13,s14,s15,s16,s17,s18,s19,s20,s21,s22,s23,s24,s25,s26,s27,s28,s29,s30,s31,s32,s33,s34,s35,s36,s37,()))
 else
 some (.brk (s1,s5,s6,s7,s8,s9,s10,s11,s12,s13,s14,s15,s16,s17,s18,s19,s20,s21,s22,s23,s24,s25,s26,s27,s28,s29,s30,s31,s32,s33,s34,s35,s36,s37,())):=by kernel_rfl
theorem zwV (a1:za) (a2:List zk):Vk a1 a2 =
 (yc zgc (a2,a2,(a2.length:Int),0,a1,0,0,0,0,0,0,0,0,0,0#64,0,zo.mk 0#64 0#64,0,0,false,false,0,0,0,0,zN.mk 0 0,([]:zC),([]:zC),([]:List (List zE)),([]:List zk),([]:zC),([]:List zB),([]:zC),([]:zA),([]:zA),([]:List zj),([]:List ze),())).bind fun st=>match st with
  | .again _=>none
  | .brk y1 =>
  some (y1.2.1,(y1.1.length:Int),())
  | .ret y1 =>
  some (y1.2.1,y1.1,()):=zF
theorem zfZ (a1:zo):zgf a1 =
 some (a1.Marks&&& ~~~a1.Black,()):=zF
theorem zzw (a1:zA):zqz a1 =
 (zhX a1).bind fun y1 =>
 (zbq y1.1).bind fun y2 =>
 bif !(decide (y2.1=((a1.length:Int)))) then
 some (0#64,false,())
 else
 some (y1.1,true,()):=zF
theorem zzM (a1:za):zxf a1 =
 some (a1,()):=zF
theorem WJ (s1:zC) (s2:Int) (s3:zC) (s4:Int) (s5:Int):wm (s1,s2,s3,s4,s5,()) =
 bif decide (s5<s4) then
 (idx s3 s5).bind fun x1 =>
 bif decide ((w64 (s2+((x1.length:Int))))<0) then
  none
 else
  some (.again (s1,w64 (s2+((x1.length:Int))),s3,s4,w64 (s5+1),()))
 else
 some (.brk (s1,s2,())):=by kernel_rfl
theorem Wg (s1:zC) (s2:Int) (s3:Int) (s4:zA):we (s1,s2,s3,s4,()) =
 bif decide (s3<s2) then
 (idx s1 s3).bind fun x1 =>
 (yD (s4++x1)).bind fun l2 =>
 some (.again (s1,s2,w64 (s3+1),l2,()))
 else
 some (.brk (s4,())):=by kernel_rfl
theorem zfV (a1:zC):Xp a1 =
 (yc wm (a1,0,a1,(a1.length:Int),0,())).bind fun st=>match st with
  | .again _=>none
  | .brk y1 =>
  (zEN y1.2.1).bind fun y2 =>
  (yc we (y1.1,(y1.1.length:Int),0,y2.1,())).bind fun st=>match st with
   | .again _=>none
   | .brk y3 =>
   some (y3.1,())
   | .ret y3 =>
   none
  | .ret y1 =>
  none:=zF
theorem zBt (a1:zA) (a2:zA):zsD a1 a2 =
 (Xp (([a1,a2]:zC))).bind fun y1 =>
 (ztf y1.1).bind fun y2 =>
 some (y2.1,()):=zF
theorem zrV (s1:List zB) (s2:Int) (s3:Int) (s4:Int) (s5:zA):zfD (s1,s2,s3,s4,s5,()) =
 bif !(decide (s4=0)) then
 bif decide (((s5.length:Int))<(bif decide (1000<s3) then 1000 else s3)) then
  (yD (s5++([s4]:zA))).bind fun l1 =>
  (zaB s1 (w64 (s2+s4))).bind fun y2 =>
  some (.again (s1,s2,s3,y2.1.toInt,l1,()))
 else
  some (.brk (s5,()))
 else
 some (.brk (s5,())):=by kernel_rfl
theorem zwn (a1:List zB) (a2:Int) (a3:Int) (a4:Int):zlT a1 a2 a3 a4 =
 (zaB a1 a2).bind fun y1 =>
 (Xy y1.1).bind fun y2 =>
 (yc zfD (a1,a3,a4,y2.1,([]:zA),())).bind fun st=>match st with
  | .again _=>none
  | .brk y3 =>
  some (y3.1,())
  | .ret y3 =>
  none:=zF
theorem zzO (a1:zA):yX a1 =
 (ztf a1).bind fun y1 =>
 some (y1.1,()):=zF
theorem ziz (s1:Int) (s2:Int) (s3:za) (s4:zA) (s5:zA):Ua (s1,s2,s3,s4,s5,()) =
 bif decide (s2<s1) then
 (wg s5 s2).bind fun n1 =>
 (s5[n1]?).bind fun x2 =>
 bif decide (x2<((s3.Bins.length:Int))) then
  (idx s3.Bins x2).bind fun x3 =>
  (yD (s4++x3)).bind fun l4 =>
  some (.again (s1,w64 (s2+1),s3,l4,s5,()))
 else
  some (.again (s1,w64 (s2+1),s3,s4,s5,()))
 else
 some (.brk (s4,())):=by kernel_rfl
theorem zwD (a1:za):zcA a1 =
 (Xq a1.P).bind fun y1 =>
 (Yy a1.P).bind fun y2 =>
 (zlT a1.M y1.1 y2.1 ((a1.Bins.length:Int))).bind fun y3 =>
 (yc Ua ((y3.1.length:Int),0,a1,([]:zA),y3.1,())).bind fun st=>match st with
  | .again _=>none
  | .brk y4 =>
  (yX y4.1).bind fun y5 =>
  some (y5.1,())
  | .ret y4 =>
  none:=zF
theorem zuB (a1:za) (a2:Int) (a3:zg):zjV a1 a2 a3 =
 bif decide (a3.PC=3) then
 bif !(decide (a3.T=(a3.B-1#64))) then
  (xG a1.P a2).bind fun y1 =>
  bif decide ((BitVec.ofInt 64 a1.P.Cap)=0#64) then
  none
  else
  (XX a1.M (Yd.mk 1 (w64 ((w64 (y1.1+2))+(((a3.B-1#64)%(BitVec.ofInt 64 a1.P.Cap)).toInt))) 0#64 0#64)).bind fun y2 =>
  some (([y2.2.1.toInt]:zA),())
 else
  bif decide (a3.PC=6) then
  some (([a3.X]:zA),())
  else
  some (([]:zA),())
 else
 bif decide (a3.PC=6) then
  some (([a3.X]:zA),())
 else
  some (([]:zA),()):=zF
theorem zl6 (a1:zK) (a2:Int) (a3:Int) (a4:Int):zn6 a1 a2 a3 a4 =
 bif decide (a1.Out=0) then
 bif decide (a2<=a1.PC) then
  bif decide (a1.PC<=a3) then
  some (a4,())
  else
  some (0,())
 else
  some (0,())
 else
 some (0,()):=zF
theorem zvP (a1:zK):ZS a1 =
 (zn6 a1 3 7 a1.Obj).bind fun y1 =>
 some (y1.1,()):=zF
theorem zf7 (s1:List zB) (s2:zB) (s3:zB) (s4:zg) (s5:zA):yz (s1,s2,s3,s4,s5,()) =
 bif !(decide (s3=s2)) then
 (uU s3 s4).bind fun y1 =>
 (uk s1 y1.1).bind fun y2 =>
 (yD (s5++([y2.1.toInt]:zA))).bind fun l3 =>
 some (.again (s1,s2,s3+1#64,s4,l3,()))
 else
 some (.brk (s5,())):=by kernel_rfl
theorem zvb (a1:List zB) (a2:Int) (a3:Int) (a4:zg):wJ a1 a2 a3 a4 =
 (ZN (zg.mk 0 0 a2 a3 0#64 0#64 0 0)).bind fun y1 =>
 (uk a1 y1.1).bind fun y2 =>
 (wA (zg.mk 0 0 a2 a3 0#64 0#64 0 0)).bind fun y3 =>
 (uk a1 y3.1).bind fun y4 =>
 bif decide (a4.Kind=2) then
 bif decide (a4.Out=0) then
  bif decide (a4.PC=2) then
  bif decide (a4.PC=2) then
   (xO (y4.1+1#64) y2.1).bind fun y5 =>
   bif !y5.1 then
   some (([]:zA),())
   else
   (yr (zg.mk 0 0 a2 a3 0#64 0#64 0 0)).bind fun y6 =>
   bif decide ((bif decide (64#64<y6.1) then 64#64 else y6.1)<((y4.1+1#64)-y2.1)) then
    some (([]:zA),())
   else
    (yc yz (a1,y4.1+1#64,y2.1,zg.mk 0 0 a2 a3 0#64 0#64 0 0,([]:zA),())).bind fun st=>match st with
     | .again _=>none
     | .brk y7 =>
     some (y7.1,())
     | .ret y7 =>
     none
  else
   bif decide (a4.PC=3) then
   bif decide (a4.T=(a4.B-1#64)) then
    (xO (y4.1+1#64) y2.1).bind fun y8 =>
    bif !y8.1 then
    some (([]:zA),())
    else
    (yr (zg.mk 0 0 a2 a3 0#64 0#64 0 0)).bind fun y9 =>
    bif decide ((bif decide (64#64<y9.1) then 64#64 else y9.1)<((y4.1+1#64)-y2.1)) then
     some (([]:zA),())
    else
     (yc yz (a1,y4.1+1#64,y2.1,zg.mk 0 0 a2 a3 0#64 0#64 0 0,([]:zA),())).bind fun st=>match st with
      | .again _=>none
      | .brk y10 =>
      some (y10.1,())
      | .ret y10 =>
      none
   else
    (xO y4.1 y2.1).bind fun y11 =>
    bif !y11.1 then
    some (([]:zA),())
    else
    (yr (zg.mk 0 0 a2 a3 0#64 0#64 0 0)).bind fun y12 =>
    bif decide ((bif decide (64#64<y12.1) then 64#64 else y12.1)<(y4.1-y2.1)) then
     some (([]:zA),())
    else
     (yc yz (a1,y4.1,y2.1,zg.mk 0 0 a2 a3 0#64 0#64 0 0,([]:zA),())).bind fun st=>match st with
      | .again _=>none
      | .brk y13 =>
      some (y13.1,())
      | .ret y13 =>
      none
   else
   (xO y4.1 y2.1).bind fun y14 =>
   bif !y14.1 then
    some (([]:zA),())
   else
    (yr (zg.mk 0 0 a2 a3 0#64 0#64 0 0)).bind fun y15 =>
    bif decide ((bif decide (64#64<y15.1) then 64#64 else y15.1)<(y4.1-y2.1)) then
    some (([]:zA),())
    else
    (yc yz (a1,y4.1,y2.1,zg.mk 0 0 a2 a3 0#64 0#64 0 0,([]:zA),())).bind fun st=>match st with
     | .again _=>none
     | .brk y16 =>
     some (y16.1,())
     | .ret y16 =>
     none
  else
  bif decide (a4.PC=4) then
   bif decide (a4.PC=4) then
   (xO (y4.1+1#64) y2.1).bind fun y17 =>
   bif !y17.1 then
    some (([]:zA),())
   else
    (yr (zg.mk 0 0 a2 a3 0#64 0#64 0 0)).bind fun y18 =>
    bif decide ((bif decide (64#64<y18.1) then 64#64 else y18.1)<((y4.1+1#64)-y2.1)) then
    some (([]:zA),())
    else
    (yc yz (a1,y4.1+1#64,y2.1,zg.mk 0 0 a2 a3 0#64 0#64 0 0,([]:zA),())).bind fun st=>match st with
     | .again _=>none
     | .brk y19 =>
     some (y19.1,())
     | .ret y19 =>
     none
   else
   bif decide (a4.PC=3) then
    bif decide (a4.T=(a4.B-1#64)) then
    (xO (y4.1+1#64) y2.1).bind fun y20 =>
    bif !y20.1 then
     some (([]:zA),())
    else
     (yr (zg.mk 0 0 a2 a3 0#64 0#64 0 0)).bind fun y21 =>
     bif decide ((bif decide (64#64<y21.1) then 64#64 else y21.1)<((y4.1+1#64)-y2.1)) then
     some (([]:zA),())
     else
     (yc yz (a1,y4.1+1#64,y2.1,zg.mk 0 0 a2 a3 0#64 0#64 0 0,([]:zA),())).bind fun st=>match st with
      | .again _=>none
      | .brk y22 =>
      some (y22.1,())
      | .ret y22 =>
      none
    else
    (xO y4.1 y2.1).bind fun y23 =>
    bif !y23.1 then
     some (([]:zA),())
    else
     (yr (zg.mk 0 0 a2 a3 0#64 0#64 0 0)).bind fun y24 =>
     bif decide ((bif decide (64#64<y24.1) then 64#64 else y24.1)<(y4.1-y2.1)) then
     some (([]:zA),())
     else
     (yc yz (a1,y4.1,y2.1,zg.mk 0 0 a2 a3 0#64 0#64 0 0,([]:zA),())).bind fun st=>match st with
      | .again _=>none
      | .brk y25 =>
      some (y25.1,())
      | .ret y25 =>
      none
   else
    (xO y4.1 y2.1).bind fun y26 =>
    bif !y26.1 then
    some (([]:zA),())
    else
    (yr (zg.mk 0 0 a2 a3 0#64 0#64 0 0)).bind fun y27 =>
    bif decide ((bif decide (64#64<y27.1) then 64#64 else y27.1)<(y4.1-y2.1)) then
     some (([]:zA),())
    else
     (yc yz (a1,y4.1,y2.1,zg.mk 0 0 a2 a3 0#64 0#64 0 0,([]:zA),())).bind fun st=>match st with
      | .again _=>none
      | .brk y28 =>
      some (y28.1,())
      | .ret y28 =>
      none
  else
   bif decide (a4.PC=5) then
   (xO (y4.1+1#64) y2.1).bind fun y29 =>
   bif !y29.1 then
    some (([]:zA),())
   else
    (yr (zg.mk 0 0 a2 a3 0#64 0#64 0 0)).bind fun y30 =>
    bif decide ((bif decide (64#64<y30.1) then 64#64 else y30.1)<((y4.1+1#64)-y2.1)) then
    some (([]:zA),())
    else
    (yc yz (a1,y4.1+1#64,y2.1,zg.mk 0 0 a2 a3 0#64 0#64 0 0,([]:zA),())).bind fun st=>match st with
     | .again _=>none
     | .brk y31 =>
     some (y31.1,())
     | .ret y31 =>
     none
   else
   bif decide (a4.PC=3) then
    bif decide (a4.T=(a4.B-1#64)) then
    (xO (y4.1+1#64) y2.1).bind fun y32 =>
    bif !y32.1 then
     some (([]:zA),())
    else
     (yr (zg.mk 0 0 a2 a3 0#64 0#64 0 0)).bind fun y33 =>
     bif decide ((bif decide (64#64<y33.1) then 64#64 else y33.1)<((y4.1+1#64)-y2.1)) then
     some (([]:zA),())
     else
     (yc yz (a1,y4.1+1#64,y2.1,zg.mk 0 0 a2 a3 0#64 0#64 0 0,([]:zA),())).bind fun st=>match st with
      | .again _=>none
      | .brk y34 =>
      some (y34.1,())
      | .ret y34 =>
      none
    else
    (xO y4.1 y2.1).bind fun y35 =>
    bif !y35.1 then
     some (([]:zA),())
    else
     (yr (zg.mk 0 0 a2 a3 0#64 0#64 0 0)).bind fun y36 =>
     bif decide ((bif decide (64#64<y36.1) then 64#64 else y36.1)<(y4.1-y2.1)) then
     some (([]:zA),())
     else
     (yc yz (a1,y4.1,y2.1,zg.mk 0 0 a2 a3 0#64 0#64 0 0,([]:zA),())).bind fun st=>match st with
      | .again _=>none
      | .brk y37 =>
      some (y37.1,())
      | .ret y37 =>
      none
   else
    (xO y4.1 y2.1).bind fun y38 =>
    bif !y38.1 then
    some (([]:zA),())
    else
    (yr (zg.mk 0 0 a2 a3 0#64 0#64 0 0)).bind fun y39 =>
    bif decide ((bif decide (64#64<y39.1) then 64#64 else y39.1)<(y4.1-y2.1)) then
     some (([]:zA),())
    else
     (yc yz (a1,y4.1,y2.1,zg.mk 0 0 a2 a3 0#64 0#64 0 0,([]:zA),())).bind fun st=>match st with
      | .again _=>none
      | .brk y40 =>
      some (y40.1,())
      | .ret y40 =>
      none
 else
  (xO y4.1 y2.1).bind fun y41 =>
  bif !y41.1 then
  some (([]:zA),())
  else
  (yr (zg.mk 0 0 a2 a3 0#64 0#64 0 0)).bind fun y42 =>
  bif decide ((bif decide (64#64<y42.1) then 64#64 else y42.1)<(y4.1-y2.1)) then
   some (([]:zA),())
  else
   (yc yz (a1,y4.1,y2.1,zg.mk 0 0 a2 a3 0#64 0#64 0 0,([]:zA),())).bind fun st=>match st with
    | .again _=>none
    | .brk y43 =>
    some (y43.1,())
    | .ret y43 =>
    none
 else
 (xO y4.1 y2.1).bind fun y44 =>
 bif !y44.1 then
  some (([]:zA),())
 else
  (yr (zg.mk 0 0 a2 a3 0#64 0#64 0 0)).bind fun y45 =>
  bif decide ((bif decide (64#64<y45.1) then 64#64 else y45.1)<(y4.1-y2.1)) then
  some (([]:zA),())
  else
  (yc yz (a1,y4.1,y2.1,zg.mk 0 0 a2 a3 0#64 0#64 0 0,([]:zA),())).bind fun st=>match st with
   | .again _=>none
   | .brk y46 =>
   some (y46.1,())
   | .ret y46 =>
   none:=zF
theorem zuS (a1:za) (a2:Int):zd6 a1 a2 =
 bif decide (a2<1) then
 some (([]:zA),())
 else
 bif decide (((a1.Ws.length:Int))<a2) then
  some (([]:zA),())
 else
  (idx a1.Ws (w64 (a2-1))).bind fun x1 =>
  (yZ x1.Batch).bind fun y2 =>
  bif decide (x1.PC=0) then
  (zjV a1 a2 x1.D).bind fun y3 =>
  (yD (y2.1++y3.1)).bind fun l4 =>
  (xG a1.P a2).bind fun y5 =>
  (wJ a1.M y5.1 a1.P.Cap x1.D).bind fun y6 =>
  (yD (l4++y6.1)).bind fun l7 =>
  (yX l7).bind fun y8 =>
  some (y8.1,())
  else
  bif decide (x1.PC=3) then
   (idx a1.Bins x1.Bin).bind fun x9 =>
   (yD (y2.1++x9)).bind fun l10 =>
   (xG a1.P a2).bind fun y11 =>
   (wJ a1.M y11.1 a1.P.Cap (zg.mk 0 0 0 0 0#64 0#64 0 0)).bind fun y12 =>
   (yD (l10++y12.1)).bind fun l13 =>
   (yX l13).bind fun y14 =>
   some (y14.1,())
  else
   bif decide (x1.PC=5) then
   bif decide (x1.PC=5) then
    (yD (y2.1++([x1.Obj]:zA))).bind fun l15 =>
    (xG a1.P a2).bind fun y16 =>
    (wJ a1.M y16.1 a1.P.Cap (zg.mk 0 0 0 0 0#64 0#64 0 0)).bind fun y17 =>
    (yD (l15++y17.1)).bind fun l18 =>
    (yX l18).bind fun y19 =>
    some (y19.1,())
   else
    bif decide (x1.PC=6) then
    (yD (y2.1++([x1.Obj]:zA))).bind fun l20 =>
    (ZS x1.G).bind fun y21 =>
    (zf8 ([y21.1]:zA)).bind fun y22 =>
    (yD (l20++y22.1)).bind fun l23 =>
    bif decide (x1.G.PC=3) then
     (xG a1.P a2).bind fun y24 =>
     (wJ a1.M y24.1 a1.P.Cap x1.G.D).bind fun y25 =>
     (yD (l23++y25.1)).bind fun l26 =>
     (yX l26).bind fun y27 =>
     some (y27.1,())
    else
     (xG a1.P a2).bind fun y28 =>
     (wJ a1.M y28.1 a1.P.Cap (zg.mk 0 0 0 0 0#64 0#64 0 0)).bind fun y29 =>
     (yD (l23++y29.1)).bind fun l30 =>
     (yX l30).bind fun y31 =>
     some (y31.1,())
    else
    (xG a1.P a2).bind fun y32 =>
    (wJ a1.M y32.1 a1.P.Cap (zg.mk 0 0 0 0 0#64 0#64 0 0)).bind fun y33 =>
    (yD (y2.1++y33.1)).bind fun l34 =>
    (yX l34).bind fun y35 =>
    some (y35.1,())
   else
   bif decide (x1.PC=8) then
    (yD (y2.1++([x1.Obj]:zA))).bind fun l36 =>
    (xG a1.P a2).bind fun y37 =>
    (wJ a1.M y37.1 a1.P.Cap (zg.mk 0 0 0 0 0#64 0#64 0 0)).bind fun y38 =>
    (yD (l36++y38.1)).bind fun l39 =>
    (yX l39).bind fun y40 =>
    some (y40.1,())
   else
    bif decide (x1.PC=6) then
    (yD (y2.1++([x1.Obj]:zA))).bind fun l41 =>
    (ZS x1.G).bind fun y42 =>
    (zf8 ([y42.1]:zA)).bind fun y43 =>
    (yD (l41++y43.1)).bind fun l44 =>
    bif decide (x1.G.PC=3) then
     (xG a1.P a2).bind fun y45 =>
     (wJ a1.M y45.1 a1.P.Cap x1.G.D).bind fun y46 =>
     (yD (l44++y46.1)).bind fun l47 =>
     (yX l47).bind fun y48 =>
     some (y48.1,())
    else
     (xG a1.P a2).bind fun y49 =>
     (wJ a1.M y49.1 a1.P.Cap (zg.mk 0 0 0 0 0#64 0#64 0 0)).bind fun y50 =>
     (yD (l44++y50.1)).bind fun l51 =>
     (yX l51).bind fun y52 =>
     some (y52.1,())
    else
    (xG a1.P a2).bind fun y53 =>
    (wJ a1.M y53.1 a1.P.Cap (zg.mk 0 0 0 0 0#64 0#64 0 0)).bind fun y54 =>
    (yD (y2.1++y54.1)).bind fun l55 =>
    (yX l55).bind fun y56 =>
    some (y56.1,()):=zF
theorem zft (a1:ze):u7 a1 =
 bif decide (a1.PC=3) then
 some (true,())
 else
 some (decide (a1.PC=37),()):=zF
theorem ztB (a1:za) (a2:Int):zcK a1 a2 =
 bif decide (a2<1) then
 some (([]:zA),())
 else
 bif decide (((a1.Ms.length:Int))<a2) then
  some (([]:zA),())
 else
  (idx a1.Ms (w64 (a2-1))).bind fun x1 =>
  (yZ x1.Batch).bind fun y2 =>
  bif decide (x1.PC=33) then
  (idx a1.Bins x1.Bin).bind fun x3 =>
  (yD (y2.1++x3)).bind fun l4 =>
  bif decide (36<=x1.PC) then
   bif decide (x1.PC<=38) then
   (yD (l4++([x1.Obj]:zA))).bind fun l5 =>
   (u7 x1).bind fun y6 =>
   bif y6.1 then
    (ZS x1.G).bind fun y7 =>
    (zf8 ([y7.1]:zA)).bind fun y8 =>
    (yD (l5++y8.1)).bind fun l9 =>
    (yX l9).bind fun y10 =>
    some (y10.1,())
   else
    (yX l5).bind fun y11 =>
    some (y11.1,())
   else
   (u7 x1).bind fun y12 =>
   bif y12.1 then
    (ZS x1.G).bind fun y13 =>
    (zf8 ([y13.1]:zA)).bind fun y14 =>
    (yD (l4++y14.1)).bind fun l15 =>
    (yX l15).bind fun y16 =>
    some (y16.1,())
   else
    (yX l4).bind fun y17 =>
    some (y17.1,())
  else
   (u7 x1).bind fun y18 =>
   bif y18.1 then
   (ZS x1.G).bind fun y19 =>
   (zf8 ([y19.1]:zA)).bind fun y20 =>
   (yD (l4++y20.1)).bind fun l21 =>
   (yX l21).bind fun y22 =>
   some (y22.1,())
   else
   (yX l4).bind fun y23 =>
   some (y23.1,())
  else
  bif decide (36<=x1.PC) then
   bif decide (x1.PC<=38) then
   (yD (y2.1++([x1.Obj]:zA))).bind fun l24 =>
   (u7 x1).bind fun y25 =>
   bif y25.1 then
    (ZS x1.G).bind fun y26 =>
    (zf8 ([y26.1]:zA)).bind fun y27 =>
    (yD (l24++y27.1)).bind fun l28 =>
    (yX l28).bind fun y29 =>
    some (y29.1,())
   else
    (yX l24).bind fun y30 =>
    some (y30.1,())
   else
   (u7 x1).bind fun y31 =>
   bif y31.1 then
    (ZS x1.G).bind fun y32 =>
    (zf8 ([y32.1]:zA)).bind fun y33 =>
    (yD (y2.1++y33.1)).bind fun l34 =>
    (yX l34).bind fun y35 =>
    some (y35.1,())
   else
    (yX y2.1).bind fun y36 =>
    some (y36.1,())
  else
   (u7 x1).bind fun y37 =>
   bif y37.1 then
   (ZS x1.G).bind fun y38 =>
   (zf8 ([y38.1]:zA)).bind fun y39 =>
   (yD (y2.1++y39.1)).bind fun l40 =>
   (yX l40).bind fun y41 =>
   some (y41.1,())
   else
   (yX y2.1).bind fun y42 =>
   some (y42.1,()):=zF
theorem ztM (y:zA) (s1:zA):zcM y (s1,()) =
 (zsD s1 y).bind fun y1 =>
 some (y1.1,()):=by kernel_rfl
theorem zya (a1:za):zby a1 =
 (zxf a1).bind fun y1 =>
 (zso y1.1.P.Workers y1.1.P.Mutators y1.1.P.Cap y1.1.P.Buf y1.1.P.Bin y1.1.P.Most y1.1.P.Price y1.1.P.Limit y1.1.P.H.Slots y1.1.P.H.Objs y1.1.P.Roots y1.1.P.Regs y1.1.P.Progs y1.1.P.Picks y1.1.H.Slots y1.1.H.Objs y1.1.M y1.1.Bins y1.1.T.Marks y1.1.T.Black y1.1.Work y1.1.Epoch y1.1.Flag y1.1.Done y1.1.Restarts y1.1.Acks y1.1.L.Scanned y1.1.L.Spent y1.1.L.Pool y1.1.L.Bal y1.1.Ws y1.1.Ms y1.1.D.PC y1.1.D.I).bind fun (ys2:zC) =>
 (ZT zcM ys2 (([]:zA),())).bind fun (y3:zA×Unit) =>
 some (y3.1,()):=zF
theorem zx2 (a1:za):zbz a1 =
 (zby a1).bind fun y1 =>
 (zqz y1.1).bind fun y2 =>
 bif y2.2.1 then
 (zgf a1.T).bind fun y3 =>
 some (decide (y2.1=y3.1),())
 else
 some (false,()):=zF
theorem zeB (s1:List zj) (s2:Int) (s3:Int) (s4:za) (s5:List zK):XC (s1,s2,s3,s4,s5,()) =
 bif decide (s3<s2) then
 (idx s1 s3).bind fun x1 =>
 bif decide (x1.PC=6) then
  (yD (s5++([x1.G]:List zK))).bind fun l2 =>
  some (.again (s1,s2,w64 (s3+1),s4,l2,()))
 else
  some (.again (s1,s2,w64 (s3+1),s4,s5,()))
 else
 some (.brk (s4,s5,())):=by kernel_rfl
theorem zeA (s1:List ze) (s2:Int) (s3:Int) (s4:List zK):Xr (s1,s2,s3,s4,()) =
 bif decide (s3<s2) then
 (idx s1 s3).bind fun x1 =>
 (u7 x1).bind fun y2 =>
 bif y2.1 then
  (yD (s4++([x1.G]:List zK))).bind fun l3 =>
  some (.again (s1,s2,w64 (s3+1),l3,()))
 else
  some (.again (s1,s2,w64 (s3+1),s4,()))
 else
 some (.brk (s4,())):=by kernel_rfl
theorem zrw (a1:za):zbZ a1 =
 (yc XC (a1.Ws,(a1.Ws.length:Int),0,a1,([]:List zK),())).bind fun st=>match st with
  | .again _=>none
  | .brk y1 =>
  (yc Xr (y1.1.Ms,(y1.1.Ms.length:Int),0,y1.2.1,())).bind fun st=>match st with
   | .again _=>none
   | .brk y2 =>
   some (y2.1,())
   | .ret y2 =>
   none
  | .ret y1 =>
  none:=zF
theorem zxI (a1:zK):zot a1 =
 (zn6 a1 1 2 1).bind fun y1 =>
 some (y1.1,()):=zF
theorem zkm (s1:Int) (s2:Int) (s3:Int) (s4:za) (s5:List zK):U9 (s1,s2,s3,s4,s5,()) =
 bif decide (s3<s2) then
 (wg s5 s3).bind fun n1 =>
 (s5[n1]?).bind fun x2 =>
 (zot x2).bind fun y3 =>
 some (.again (w64 (s1+y3.1),s2,w64 (s3+1),s4,s5,()))
 else
 some (.brk (s1,s4,())):=by kernel_rfl
theorem zkg (s1:Int) (s2:List zj) (s3:Int) (s4:Int) (s5:za):zau (s1,s2,s3,s4,s5,()) =
 bif decide (s4<s3) then
 (idx s2 s4).bind fun x1 =>
 bif decide (x1.PC=9) then
  some (.again (w64 (s1+1),s2,s3,w64 (s4+1),s5,()))
 else
  some (.again (s1,s2,s3,w64 (s4+1),s5,()))
 else
 some (.brk (s1,s5,())):=by kernel_rfl
theorem zjl (s1:Int) (s2:List ze) (s3:Int) (s4:Int):Uh (s1,s2,s3,s4,()) =
 bif decide (s4<s3) then
 (idx s2 s4).bind fun x1 =>
 bif decide (x1.PC=39) then
  some (.again (w64 (s1+1),s2,s3,w64 (s4+1),()))
 else
  some (.again (s1,s2,s3,w64 (s4+1),()))
 else
 some (.brk (s1,())):=by kernel_rfl
theorem zyk (a1:za):zou a1 =
 (zbZ a1).bind fun y1 =>
 (yc U9 (0,(y1.1.length:Int),0,a1,y1.1,())).bind fun st=>match st with
  | .again _=>none
  | .brk y2 =>
  (yc zau (y2.1,y2.2.1.Ws,(y2.2.1.Ws.length:Int),0,y2.2.1,())).bind fun st=>match st with
   | .again _=>none
   | .brk y3 =>
   (yc Uh (y3.1,y3.2.1.Ms,(y3.2.1.Ms.length:Int),0,())).bind fun st=>match st with
    | .again _=>none
    | .brk y4 =>
    some (y4.1,())
    | .ret y4 =>
    none
   | .ret y3 =>
   none
  | .ret y2 =>
  none:=zF
theorem zuV (a1:za):VR a1 =
 (zby a1).bind fun y1 =>
 (zou a1).bind fun y2 =>
 some (decide (a1.Work=(w64 (((y1.1.length:Int))+y2.1))),()):=zF
theorem zyn (a1:zK):zow a1 =
 (zn6 a1 0 1 a1.Obj).bind fun y1 =>
 some (y1.1,()):=zF
theorem zfe (s1:zB) (s2:Int) (s3:Int) (s4:za) (s5:List zK):Wf (s1,s2,s3,s4,s5,()) =
 bif decide (s3<s2) then
 (wg s5 s3).bind fun n1 =>
 (s5[n1]?).bind fun x2 =>
 (zow x2).bind fun y3 =>
 (YO s1 y3.1).bind fun y4 =>
 some (.again (y4.1,s2,w64 (s3+1),s4,s5,()))
 else
 some (.brk (s1,s4,())):=by kernel_rfl
theorem zfi (s1:zB) (s2:List ze) (s3:Int) (s4:Int):Wl (s1,s2,s3,s4,()) =
 bif decide (s4<s3) then
 (idx s2 s4).bind fun x1 =>
 (zhX x1.Buf).bind fun y2 =>
 bif decide (x1.PC=21) then
  (YO (s1|||y2.1) x1.Old).bind fun y3 =>
  some (.again (y3.1,s2,s3,w64 (s4+1),()))
 else
  bif decide (x1.PC=22) then
  (YO (s1|||y2.1) x1.Old).bind fun y4 =>
  some (.again (y4.1,s2,s3,w64 (s4+1),()))
  else
  bif decide (x1.Ret=22) then
   bif decide (x1.PC=1) then
   (YO (s1|||y2.1) x1.Old).bind fun y5 =>
   some (.again (y5.1,s2,s3,w64 (s4+1),()))
   else
   bif decide (x1.PC=3) then
    (YO (s1|||y2.1) x1.Old).bind fun y6 =>
    some (.again (y6.1,s2,s3,w64 (s4+1),()))
   else
    some (.again (s1|||y2.1,s2,s3,w64 (s4+1),()))
  else
   some (.again (s1|||y2.1,s2,s3,w64 (s4+1),()))
 else
 some (.brk (s1,())):=by kernel_rfl
theorem ztN (a1:za):zaD a1 =
 (zbZ a1).bind fun y1 =>
 (yc Wf (0#64,(y1.1.length:Int),0,a1,y1.1,())).bind fun st=>match st with
  | .again _=>none
  | .brk y2 =>
  (yc Wl (y2.1,y2.2.1.Ms,(y2.2.1.Ms.length:Int),0,())).bind fun st=>match st with
   | .again _=>none
   | .brk y3 =>
   some (y3.1,())
   | .ret y3 =>
   none
  | .ret y2 =>
  none:=zF
theorem zoA (s1:zB) (s2:zA) (s3:Int):zbA (s1,s2,s3,()) =
 bif decide (s3<64) then
 (zhe s2 64 s3).bind fun n1 =>
 (s2[n1]?).bind fun x2 =>
 bif decide (0<x2) then
  (YO s1 (w64 (s3+1))).bind fun y3 =>
  some (.again (y3.1,s2,w64 (s3+1),()))
 else
  some (.again (s1,s2,w64 (s3+1),()))
 else
 some (.brk (s1,())):=by kernel_rfl
theorem zrn (a1:zA):zev a1 =
 bif decide (a1.length=64) then
 (yc zbA (0#64,a1,0,())).bind fun st=>match st with
  | .again _=>none
  | .brk y1 =>
  some (y1.1,())
  | .ret y1 =>
  none
 else
 none:=zF
theorem ztj (a1:Int):zpn a1 =
 some (true,()):=zF
end Go.Pe.G
namespace Go.Pe.G
open Go.Pe
theorem Wh (s1:zB) (s2:Int) (s3:Int) (s4:zw) (s5:zA) (s6:zA) (s7:zA):Yo (s1,s2,s3,s4,s5,s6,s7,()) =
 bif decide (s3<s2) then
 (wg s7 s3).bind fun n1 =>
 (s7[n1]?).bind fun x2 =>
 (zhe s6 64 (w64 (x2-1))).bind fun n3 =>
 some (.again (s1,s2,w64 (s3+1),s4,s5,s6.set n3 1,s7,()))
 else
 some (.brk (s1,s4,s5,s6,s7,())):=by kernel_rfl
theorem Zz (s1:zB) (s2:zw) (s3:zA) (s4:zA) (s5:zA):Yn (s1,s2,s3,s4,s5,()) =
 bif decide (0<((s5.length:Int))) then
 (wg s5 0).bind fun n1 =>
 (s5[n1]?).bind fun x2 =>
 (zpn x2).bind fun y3 =>
 bif !y3.1 then
  (cut s5 1 ((s5.length:Int))).bind fun l4 =>
  some (.again (s1,s2,s3,s4,l4,()))
 else
  (idx s2.Objs (w64 (x2-1))).bind fun x5 =>
  (yc ue (s1,x2,x5,(x5.length:Int),0,s2,s3,s4,s5,())).bind fun st=>match st with
   | .again _=>none
   | .brk y6 =>
   (cut y6.2.2.2.2.1 1 ((y6.2.2.2.2.1.length:Int))).bind fun l7 =>
   some (.again (y6.1,y6.2.1,y6.2.2.1,y6.2.2.2.1,l7,()))
   | .ret y6 =>
   some (.ret (()))
 else
 some (.brk (s3,s4,())):=by kernel_rfl
theorem XK (s1:zB) (s2:Int) (s3:zA) (s4:Int) (s5:Int) (s6:zw) (s7:zA) (s8:zA) (s9:zA):ue (s1,s2,s3,s4,s5,s6,s7,s8,s9,()) =
 bif decide (s5<s4) then
 (idx s3 s5).bind fun x1 =>
 (zb9 s1 x1).bind fun y2 =>
 bif y2.1 then
  (zhe s8 64 (w64 (x1-1))).bind fun n3 =>
  (s8[n3]?).bind fun x4 =>
  bif decide (x4=0) then
  (zhe s8 64 (w64 (s2-1))).bind fun n5 =>
  (s8[n5]?).bind fun x6 =>
  (zhe s8 64 (w64 (x1-1))).bind fun n7 =>
  (yD (s9++([x1]:zA))).bind fun l8 =>
  some (.again (s1,s2,s3,s4,w64 (s5+1),s6,s7,s8.set n7 (w64 (x6+1)),l8,()))
  else
  some (.again (s1,s2,s3,s4,w64 (s5+1),s6,s7,s8,s9,()))
 else
  some (.again (s1,s2,s3,s4,w64 (s5+1),s6,s7,s8,s9,()))
 else
 some (.brk (s1,s6,s7,s8,s9,())):=by kernel_rfl
theorem ze0 (a1:zw) (a2:zB):Y4 a1 a2 =
 (Uy ((a1.Objs.length:Int))).bind fun y1 =>
 (zfm (a2&&&y1.1)).bind fun y2 =>
 (yc Yo (y1.1,(y2.1.length:Int),0,a1,List.replicate 64 ((0:Int)),List.replicate 64 ((0:Int)),y2.1,())).bind fun st=>match st with
  | .again _=>none
  | .brk y3 =>
  (yc Yn (y3.1,y3.2.1,y3.2.2.1,y3.2.2.2.1,y3.2.2.2.2.1,())).bind fun st=>match st with
   | .again _=>none
   | .brk y4 =>
   bif decide (y4.2.1.length=64) then
   bif decide (y4.1.length=64) then
    bif decide (y4.2.1.length=64) then
    some (y4.2.1,())
    else
    none
   else
    none
   else
   none
   | .ret y4 =>
   none
  | .ret y3 =>
  none:=zF
theorem zvY (a1:zw) (a2:zB):Vg a1 a2 =
 (Y4 a1 a2).bind fun y1 =>
 (zev y1.1).bind fun y2 =>
 some (y2.1,()):=zF
theorem zx8 (a1:zd):zh2 a1 =
 (zgi a1).bind fun y1 =>
 (Vg a1.H y1.1).bind fun y2 =>
 some (y2.1,()):=zF
theorem zxR (a1:za):zbv a1 =
 (zgf a1.T).bind fun y1 =>
 (zaD a1).bind fun y2 =>
 (Vg a1.H (y1.1|||y2.1)).bind fun y3 =>
 (zh2 a1.P).bind fun y4 =>
 (WK y4.1 (a1.T.Marks|||y3.1)).bind fun y5 =>
 some (y5.1,()):=zF
theorem zsC (a1:za):znI a1 =
 (Uy ((a1.P.H.Objs.length:Int))).bind fun y1 =>
 some (y1.1,()):=zF
theorem zx0 (a1:za):zbr a1 =
 (Uy ((a1.H.Objs.length:Int))).bind fun y1 =>
 (znI a1).bind fun y2 =>
 some (y1.1&&& ~~~y2.1,()):=zF
theorem zw4 (a1:zo) (a2:Int):zr3 a1 a2 =
 (WK a1.Black a1.Marks).bind fun y1 =>
 bif y1.1 then
 (Uy a2).bind fun y2 =>
 (WK a1.Marks y2.1).bind fun y3 =>
 some (y3.1,())
 else
 some (false,()):=zF
theorem zuN (a1:za):VU a1 =
 (zbr a1).bind fun y1 =>
 (zh2 a1.P).bind fun y2 =>
 (WK a1.T.Marks (y2.1|||y1.1)).bind fun y3 =>
 bif y3.1 then
 (WK y1.1 a1.T.Black).bind fun y4 =>
 bif y4.1 then
  (zr3 a1.T ((a1.H.Objs.length:Int))).bind fun y5 =>
  some (y5.1,())
 else
  some (false,())
 else
 some (false,()):=zF
theorem zfs (s1:Int) (s2:zA) (s3:Int) (s4:Int) (s5:zy):Wj (s1,s2,s3,s4,s5,()) =
 bif decide (s4<s3) then
 (idx s2 s4).bind fun x1 =>
 bif decide (x1<(-1099511627776)) then
  some (.ret (false,()))
 else
  bif decide (1099511627776<x1) then
  some (.ret (false,()))
  else
  some (.again (w64 (s1+x1),s2,s3,w64 (s4+1),s5,()))
 else
 some (.brk (s1,s5,())):=by kernel_rfl
theorem zty (a1:zy):zhr a1 =
 bif decide (16<((a1.Bal.length:Int))) then
 some (false,())
 else
 bif decide ((bif decide (a1.Pool<(bif decide (a1.Spent<a1.Scanned) then a1.Spent else a1.Scanned)) then a1.Pool else (bif decide (a1.Spent<a1.Scanned) then a1.Spent else a1.Scanned))<0) then
  some (false,())
 else
  bif decide (1099511627776<(bif decide ((bif decide (a1.Scanned<a1.Spent) then a1.Spent else a1.Scanned)<a1.Pool) then a1.Pool else (bif decide (a1.Scanned<a1.Spent) then a1.Spent else a1.Scanned))) then
  some (false,())
  else
  (yc Wj (w64 (a1.Spent+a1.Pool),a1.Bal,(a1.Bal.length:Int),0,a1,())).bind fun st=>match st with
   | .again _=>none
   | .brk y1 =>
   some (decide (y1.1=y1.2.1.Scanned),())
   | .ret y1 =>
   some (y1.1,()):=zF
theorem zvS (a1:Int) (a2:za):zr8 a1 a2 =
 some (decide (a1<(w64 (0-a2.P.Limit))),()):=zF
theorem uA (s1:zA) (s2:Int) (s3:Int) (s4:za):yV (s1,s2,s3,s4,()) =
 bif decide (s3<s2) then
 (idx s1 s3).bind fun x1 =>
 (zr8 x1 s4).bind fun y2 =>
 bif y2.1 then
  some (.ret (s3,()))
 else
  some (.again (s1,s2,w64 (s3+1),s4,()))
 else
 some (.brk (())):=by kernel_rfl
theorem Vh (a1:zA) (a2:za):ZK a1 a2 =
 (yc yV (a1,(a1.length:Int),0,a2,())).bind fun st=>match st with
  | .again _=>none
  | .brk y1 =>
  some (-1,())
  | .ret y1 =>
  some (y1.1,()):=zF
theorem X7 (a1:zA) (a2:za):wM a1 a2 =
 (ZK a1 a2).bind fun y1 =>
 some (decide (0<=y1.1),()):=zF
theorem zzQ (a1:za):zcX a1 =
 (zbr a1).bind fun y1 =>
 (zbq y1.1).bind fun y2 =>
 (znI a1).bind fun y3 =>
 (zbq (a1.T.Black&&&y3.1)).bind fun y4 =>
 (zhr a1.L).bind fun y5 =>
 bif y5.1 then
 (wM a1.L.Bal a1).bind fun y6 =>
 bif !y6.1 then
  bif decide (a1.L.Spent=(w64 (a1.P.Price*y2.1))) then
  some (decide (a1.L.Scanned=y4.1),())
  else
  some (false,())
 else
  some (false,())
 else
 some (false,()):=zF
theorem zGC (a1:zj):zpF a1 =
 bif !(decide (a1.Obj=0)) then
 some (true,())
 else
 some (decide (0<((a1.Batch.length:Int))),()):=zF
theorem zdp (s1:List zj) (s2:Int) (s3:Int):wP (s1,s2,s3,()) =
 bif decide (s3<s2) then
 (idx s1 s3).bind fun x1 =>
 (zpF x1).bind fun y2 =>
 bif y2.1 then
  some (.ret (s3,()))
 else
  some (.again (s1,s2,w64 (s3+1),()))
 else
 some (.brk (())):=by kernel_rfl
theorem zew (a1:List zj):ve a1 =
 (yc wP (a1,(a1.length:Int),0,())).bind fun st=>match st with
  | .again _=>none
  | .brk y1 =>
  some (-1,())
  | .ret y1 =>
  some (y1.1,()):=zF
theorem zdq (a1:List zj):wN a1 =
 (ve a1).bind fun y1 =>
 some (decide (0<=y1.1),()):=zF
theorem zGE (a1:ze):zpJ a1 =
 bif !(decide (a1.Obj=0)) then
 some (true,())
 else
 some (decide (0<(w64 (((a1.Batch.length:Int))+((a1.Buf.length:Int))))),()):=zF
theorem zc4 (s1:List ze) (s2:Int) (s3:Int):wF (s1,s2,s3,()) =
 bif decide (s3<s2) then
 (idx s1 s3).bind fun x1 =>
 (zpJ x1).bind fun y2 =>
 bif y2.1 then
  some (.ret (s3,()))
 else
  some (.again (s1,s2,w64 (s3+1),()))
 else
 some (.brk (())):=by kernel_rfl
theorem zdt (a1:List ze):wU a1 =
 (yc wF (a1,(a1.length:Int),0,())).bind fun st=>match st with
  | .again _=>none
  | .brk y1 =>
  some (-1,())
  | .ret y1 =>
  some (y1.1,()):=zF
theorem zdb (a1:List ze):wz a1 =
 (wU a1).bind fun y1 =>
 some (decide (0<=y1.1),()):=zF
theorem zH3 (a1:za):zrF a1 =
 (zby a1).bind fun y1 =>
 bif decide (((y1.1.length:Int))=0) then
 (wN a1.Ws).bind fun y2 =>
 bif !y2.1 then
  (wz a1.Ms).bind fun y3 =>
  some (!y3.1,())
 else
  some (false,())
 else
 some (false,()):=zF
theorem zGD (s1:zB) (s2:List ze) (s3:Int) (s4:Int):zpo (s1,s2,s3,s4,()) =
 bif decide (s4<s3) then
 (idx s2 s4).bind fun x1 =>
 (zhX x1.Regs).bind fun y2 =>
 some (.again (s1|||y2.1,s2,s3,w64 (s4+1),()))
 else
 some (.brk (s1,())):=by kernel_rfl
theorem zIW (a1:za):zt7 a1 =
 (yc zpo (0#64,a1.Ms,(a1.Ms.length:Int),0,())).bind fun st=>match st with
  | .again _=>none
  | .brk y1 =>
  some (y1.1,())
  | .ret y1 =>
  none:=zF
theorem zID (a1:za):ztV a1 =
 (zt7 a1).bind fun y1 =>
 (Vg a1.H (a1.P.Roots|||y1.1)).bind fun y2 =>
 some (y2.1,()):=zF
theorem zxo (a1:za):zbx a1 =
 bif !a1.Done then
 some (true,())
 else
 (zrF a1).bind fun y1 =>
 bif y1.1 then
  (ztV a1).bind fun y2 =>
  (zaD a1).bind fun y3 =>
  (WK (y2.1|||y3.1) a1.T.Marks).bind fun y4 =>
  bif y4.1 then
  some (decide (a1.Work=0),())
  else
  some (false,())
 else
  some (false,()):=zF
theorem Zy (s1:Int) (s2:za):uz (s1,s2,()) =
 bif decide (s1<6) then
 bif decide (s1=5) then
  (zbx s2).bind fun y1 =>
  bif !y1.1 then
  some (.ret (false,()))
  else
  some (.again (w64 (s1+1),s2,()))
 else
  bif decide (s1=4) then
  (zcX s2).bind fun y2 =>
  bif !y2.1 then
   some (.ret (false,()))
  else
   some (.again (w64 (s1+1),s2,()))
  else
  bif decide (s1=3) then
   (VU s2).bind fun y3 =>
   bif !y3.1 then
   some (.ret (false,()))
   else
   some (.again (w64 (s1+1),s2,()))
  else
   bif decide (s1=2) then
   (zbv s2).bind fun y4 =>
   bif !y4.1 then
    some (.ret (false,()))
   else
    some (.again (w64 (s1+1),s2,()))
   else
   bif decide (s1=1) then
    (VR s2).bind fun y5 =>
    bif !y5.1 then
    some (.ret (false,()))
    else
    some (.again (w64 (s1+1),s2,()))
   else
    bif decide (s1=0) then
    (zbz s2).bind fun y6 =>
    bif !y6.1 then
     some (.ret (false,()))
    else
     some (.again (w64 (s1+1),s2,()))
    else
    none
 else
 some (.brk (s2,())):=by kernel_rfl
theorem zxs (a1:za):zdJ a1 =
 (yc uz (0,a1,())).bind fun st=>match st with
  | .again _=>none
  | .brk y1 =>
  (Xm y1.1.H).bind fun y2 =>
  some (y2.1,())
  | .ret y1 =>
  some (y1.1,()):=zF
theorem zl3 (a1:zB) (a2:Int):zjx a1 a2 =
 (zb9 a1 a2).bind fun y1 =>
 some (y1.1,()):=zF
theorem zxN (a1:za) (a2:za):zdN a1 a2 =
 (V5 a1 a2).bind fun y1 =>
 bif decide (a2.L.Scanned<a1.L.Scanned) then
 some (false,())
 else
 bif decide (a2.Epoch<a1.Epoch) then
  some (false,())
 else
  bif decide (y1.1=1) then
  (zaD a1).bind fun y2 =>
  (zjx y2.1 y1.2.1).bind fun y3 =>
  some (y3.1,())
  else
  bif decide (y1.1=2) then
   (zgf a1.T).bind fun y4 =>
   (zjx y4.1 y1.2.1).bind fun y5 =>
   some (y5.1,())
  else
   some (!(decide (y1.1=(-1))),()):=zF
theorem zlJ:zaf =
 (zcg (([(([(zE.mk 5 1 0 0),(zE.mk 2 1 0 0),(zE.mk 3 1 0 0)]:List zE))]:List (List zE)))).bind fun y1 =>
 (zh5 y1.1).bind fun y2 =>
 (cut (([(zk.mk 2 1),(zk.mk 2 1),(zk.mk 2 1),(zk.mk 2 1),(zk.mk 2 1),(zk.mk 2 1),(zk.mk 2 1),(zk.mk 2 1)]:List zk)) 0 5).bind fun l3 =>
 (Vk y2.1 l3).bind fun y4 =>
 (cut (([(zk.mk 2 1),(zk.mk 2 1),(zk.mk 2 1),(zk.mk 2 1),(zk.mk 2 1),(zk.mk 2 1),(zk.mk 2 1),(zk.mk 2 1)]:List zk)) 0 6).bind fun l5 =>
 (Vk y2.1 l5).bind fun y6 =>
 (cut (([(zk.mk 2 1),(zk.mk 2 1),(zk.mk 2 1),(zk.mk 2 1),(zk.mk 2 1),(zk.mk 2 1),(zk.mk 2 1),(zk.mk 2 1)]:List zk)) 0 7).bind fun l7 =>
 (Vk y2.1 l7).bind fun y8 =>
 (cut (([(zk.mk 2 1),(zk.mk 2 1),(zk.mk 2 1),(zk.mk 2 1),(zk.mk 2 1),(zk.mk 2 1),(zk.mk 2 1),(zk.mk 2 1)]:List zk)) 0 8).bind fun l9 =>
 (Vk y2.1 l9).bind fun y10 =>
 (V5 y4.1 y6.1).bind fun y11 =>
 (V5 y8.1 y10.1).bind fun y12 =>
 (V5 y10.1 y8.1).bind fun y13 =>
 (V5 y2.1 y2.1).bind fun y14 =>
 (zdJ y2.1).bind fun y15 =>
 bif y15.1 then
 (zdJ y10.1).bind fun y16 =>
 bif y16.1 then
  bif decide (y11.1=4) then
  bif decide (y11.2.1=1) then
   bif decide (y12.1=3) then
   bif decide (y12.2.1=4) then
    bif decide (y13.1=(-1)) then
    bif decide (y14.1=0) then
     (zbr y10.1).bind fun y17 =>
     bif decide (y17.1=8#64) then
     (zbr y2.1).bind fun y18 =>
     bif decide (y18.1=0#64) then
      (zdN y4.1 y6.1).bind fun y19 =>
      bif y19.1 then
      (zdN y8.1 y10.1).bind fun y20 =>
      bif y20.1 then
       (zdN y10.1 y8.1).bind fun y21 =>
       bif !y21.1 then
       (zbz y2.1).bind fun y22 =>
       bif y22.1 then
        (VR y2.1).bind fun y23 =>
        bif y23.1 then
        (zbv y2.1).bind fun y24 =>
        bif y24.1 then
         (VU y2.1).bind fun y25 =>
         bif y25.1 then
         (zcX y10.1).bind fun y26 =>
         bif y26.1 then
          (zbx y2.1).bind fun y27 =>
          some (y27.1,())
         else
          some (false,())
         else
         some (false,())
        else
         some (false,())
        else
        some (false,())
       else
        some (false,())
       else
       some (false,())
      else
       some (false,())
      else
      some (false,())
     else
      some (false,())
     else
     some (false,())
    else
     some (false,())
    else
    some (false,())
   else
    some (false,())
   else
   some (false,())
  else
   some (false,())
  else
  some (false,())
 else
  some (false,())
 else
 some (false,()):=zF
theorem zgA (a1:zY):zT a1 =
 bif decide (((a1.L.length:Int))<=a1.At) then
 some (0,a1,())
 else
 (idx a1.L (w64 ((w64 (a1.At+1))-1))).bind fun x1 =>
 some ((x1.toNat:Int),{a1 with At:=w64 (a1.At+1)},()):=zF
theorem zja (a1:Int) (a2:Int) (a3:zY):Vf a1 a2 a3 =
 (zT a3).bind fun y1 =>
 (wg ([1,1,2,2,2,3,4,5]:zA) (y1.1.tmod 8)).bind fun n2 =>
 (([1,1,2,2,2,3,4,5]:zA)[n2]?).bind fun x3 =>
 (zT y1.2.1).bind fun y4 =>
 bif decide (a1=0) then
 none
 else
 bif decide (x3=1) then
  (zT y4.2.1).bind fun y5 =>
  bif decide (a1=0) then
  none
  else
  bif decide (x3<3) then
   (zT y5.2.1).bind fun y6 =>
   bif decide (a2=0) then
   none
   else
   some (zE.mk x3 (y4.1.tmod a1) (y5.1.tmod a1) (y6.1.tmod a2),y6.2.1,())
  else
   some (zE.mk x3 (y4.1.tmod a1) (y5.1.tmod a1) 0,y5.2.1,())
 else
  bif decide (x3=2) then
  (zT y4.2.1).bind fun y7 =>
  bif decide (a1=0) then
   none
  else
   bif decide (x3<3) then
   (zT y7.2.1).bind fun y8 =>
   bif decide (a2=0) then
    none
   else
    some (zE.mk x3 (y4.1.tmod a1) (y7.1.tmod a1) (y8.1.tmod a2),y8.2.1,())
   else
   some (zE.mk x3 (y4.1.tmod a1) (y7.1.tmod a1) 0,y7.2.1,())
  else
  bif decide (x3=4) then
   (zT y4.2.1).bind fun y9 =>
   bif decide (a1=0) then
   none
   else
   bif decide (x3<3) then
    (zT y9.2.1).bind fun y10 =>
    bif decide (a2=0) then
    none
    else
    some (zE.mk x3 (y4.1.tmod a1) (y9.1.tmod a1) (y10.1.tmod a2),y10.2.1,())
   else
    some (zE.mk x3 (y4.1.tmod a1) (y9.1.tmod a1) 0,y9.2.1,())
  else
   bif decide (x3<3) then
   (zT y4.2.1).bind fun y11 =>
   bif decide (a2=0) then
    none
   else
    some (zE.mk x3 (y4.1.tmod a1) 0 (y11.1.tmod a2),y11.2.1,())
   else
   some (zE.mk x3 (y4.1.tmod a1) 0 0,y4.2.1,()):=zF
end Go.Pe.G
namespace Go.Pe.G
open Go.Pe
theorem zm7 (s1:Int) (s2:Int) (s3:Int) (s4:Int) (s5:Int) (s6:Int) (s7:Int) (s8:Int) (s9:Int) (s10:Int) (s11:Int) (s12:zB) (s13:zY) (s14:Int) (s15:Int) (s16:Int) (s17:Int) (s18:Int) (s19:Int) (s20:Int) (s21:Int) (s22:Int) (s23:zB) (s24:zC) (s25:zC) (s26:List (List zE)) (s27:List zk) (s28:zC) (s29:zC) (s30:List (List zE)) (s31:List zk):Wu (s1,s2,s3,s4,s5,s6,s7,s8,s9,s10,s11,s12,s13,s14,s15,s16,s17,s18,s19,s20,s21,s22,s23,s24,s25,s26,s27,s28,s29,s30,s31,()) =
 bif decide (s2<s1) then
 (yc XG (s1,s2,0,s3,s4,s5,s6,s7,s8,s9,s10,s11,s12,s13,s14,s15,s16,s17,s18,s19,s20,s21,s22,s23,([]:zA),s24,s25,s26,s27,s28,s29,s30,s31,())).bind fun st=>match st with
  | .again _=>none
  | .brk y1 =>
  let y1a:=y1.2.2.2.2.2.2.2.2;let y1b:=y1a.2.2.2.2.2.2.2.2;let y1c:=y1b.2.2.2.2.2.2.2.2
  (yD (y1c.2.2.2.2.1++(([y1b.2.2.2.2.2.2.2.1]:zC)))).bind fun l2 =>
  some (.again (y1.1,w64 (y1.2.1+1),y1.2.2.1,y1.2.2.2.1,y1.2.2.2.2.1,y1.2.2.2.2.2.1,y1.2.2.2.2.2.2.1,y1.2.2.2.2.2.2.2.1,y1a.1,y1a.2.1,y1a.2.2.1,y1a.2.2.2.1,y1a.2.2.2.2.1,y1a.2.2.2.2.2.1,y1a.2.2.2.2.2.2.1,y1a.2.2.2.2.2.2.2.1,y1b.1,y1b.2.1,y1b.2.2.1,y1b.2.2.2.1,y1b.2.2.2.2.1,y1b.2.2.2.2.2.1,y1b.2.2.2.2.2.2.1,y1c.1,y1c.2.1,y1c.2.2.1,y1c.2.2.2.1,l2,y1c.2.2.2.2.2.1,y1c.2.2.2.2.2.2.1,y1c.2.2.2.2.2.2.2.1,()))
  | .ret y1 =>
  some (.ret (()))
 else
 some (.brk (s1,s3,s4,s5,s6,s7,s8,s9,s10,s11,s12,s13,s14,s15,s16,s17,s18,s19,s20,s21,s22,s23,s24,s25,s26,s27,s28,s29,s30,s31,())):=by kernel_rfl
theorem zmC (s1:Int) (s2:Int) (s3:Int) (s4:Int) (s5:Int) (s6:Int) (s7:Int) (s8:Int) (s9:Int) (s10:Int) (s11:Int) (s12:Int) (s13:zB) (s14:zY) (s15:Int) (s16:Int) (s17:Int) (s18:Int) (s19:Int) (s20:Int) (s21:Int) (s22:Int) (s23:Int) (s24:zB) (s25:zA) (s26:zC) (s27:zC) (s28:List (List zE)) (s29:List zk) (s30:zC) (s31:zC) (s32:List (List zE)) (s33:List zk):XG (s1,s2,s3,s4,s5,s6,s7,s8,s9,s10,s11,s12,s13,s14,s15,s16,s17,s18,s19,s20,s21,s22,s23,s24,s25,s26,s27,s28,s29,s30,s31,s32,s33,()) =
 bif decide (s3<s23) then
 (zT s14).bind fun y1 =>
 bif decide ((w64 (s1+1))=0) then
  none
 else
  (yD (s25++(([(y1.1.tmod (w64 (s1+1)))]:zA)))).bind fun l2 =>
  some (.again (s1,s2,w64 (s3+1),s4,s5,s6,s7,s8,s9,s10,s11,s12,s13,y1.2.1,s15,s16,s17,s18,s19,s20,s21,s22,s23,s24,l2,s26,s27,s28,s29,s30,s31,s32,s33,()))
 else
 some (.brk (s1,s2,s4,s5,s6,s7,s8,s9,s10,s11,s12,s13,s14,s15,s16,s17,s18,s19,s20,s21,s22,s23,s24,s25,s26,s27,s28,s29,s30,s31,s32,s33,())):=by kernel_rfl
theorem zmN (s1:Int) (s2:Int) (s3:Int) (s4:Int) (s5:Int) (s6:Int) (s7:Int) (s8:Int) (s9:Int) (s10:Int) (s11:Int) (s12:zB) (s13:zY) (s14:Int) (s15:Int) (s16:Int) (s17:Int) (s18:Int) (s19:Int) (s20:Int) (s21:Int) (s22:Int) (s23:zB) (s24:zC) (s25:zC) (s26:List (List zE)) (s27:List zk) (s28:zC) (s29:zC) (s30:List (List zE)) (s31:List zk):XH (s1,s2,s3,s4,s5,s6,s7,s8,s9,s10,s11,s12,s13,s14,s15,s16,s17,s18,s19,s20,s21,s22,s23,s24,s25,s26,s27,s28,s29,s30,s31,()) =
 bif decide (s2<s15) then
 (yc XL (s1,s2,0,s3,s4,s5,s6,s7,s8,s9,s10,s11,s12,s13,s14,s15,s16,s17,s18,s19,s20,s21,s22,s23,([]:zA),s24,s25,s26,s27,s28,s29,s30,s31,())).bind fun st=>match st with
  | .again _=>none
  | .brk y1 =>
  let y1a:=y1.2.2.2.2.2.2.2.2;let y1b:=y1a.2.2.2.2.2.2.2.2;let y1c:=y1b.2.2.2.2.2.2.2.2
  bif decide (((y1b.2.2.2.2.2.2.2.1.length:Int))=0) then
   (zT y1a.2.2.2.2.1).bind fun y2 =>
   (yc Z8 (y1.1,y1.2.1,y2.1.tmod 8,y1.2.2.1,y1.2.2.2.1,y1.2.2.2.2.1,y1.2.2.2.2.2.1,y1.2.2.2.2.2.2.1,y1.2.2.2.2.2.2.2.1,y1a.1,y1a.2.1,y1a.2.2.1,y1a.2.2.2.1,y2.2.1,y1a.2.2.2.2.2.1,y1a.2.2.2.2.2.2.1,y1a.2.2.2.2.2.2.2.1,y1b.1,y1b.2.1,y1b.2.2.1,y1b.2.2.2.1,y1b.2.2.2.2.1,y1b.2.2.2.2.2.1,y1b.2.2.2.2.2.2.1,([0]:zA),([]:List zE),y1c.1,y1c.2.1,y1c.2.2.1,y1c.2.2.2.1,y1c.2.2.2.2.1,y1c.2.2.2.2.2.1,y1c.2.2.2.2.2.2.1,y1c.2.2.2.2.2.2.2.1,())).bind fun st=>match st with
    | .again _=>none
    | .brk y3 =>
    let y3a:=y3.2.2.2.2.2.2.2.2;let y3b:=y3a.2.2.2.2.2.2.2.2;let y3c:=y3b.2.2.2.2.2.2.2.2;let y3d:=y3c.2.2.2.2.2.2.2.2
    (yD (y3c.2.2.2.2.2.2.1++(([y3b.2.2.2.2.2.2.2.1]:zC)))).bind fun l4 =>
    (yD (y3c.2.2.2.2.2.2.2.1++(([y3c.1]:List (List zE))))).bind fun l5 =>
    some (.again (y3.1,w64 (y3.2.1+1),y3.2.2.1,y3.2.2.2.1,y3.2.2.2.2.1,y3.2.2.2.2.2.1,y3.2.2.2.2.2.2.1,y3.2.2.2.2.2.2.2.1,y3a.1,y3a.2.1,y3a.2.2.1,y3a.2.2.2.1,y3a.2.2.2.2.1,y3a.2.2.2.2.2.1,y3a.2.2.2.2.2.2.1,y3a.2.2.2.2.2.2.2.1,y3b.1,y3b.2.1,y3b.2.2.1,y3b.2.2.2.1,y3b.2.2.2.2.1,y3b.2.2.2.2.2.1,y3b.2.2.2.2.2.2.1,y3c.2.1,y3c.2.2.1,y3c.2.2.2.1,y3c.2.2.2.2.1,y3c.2.2.2.2.2.1,l4,l5,y3d.1,()))
    | .ret y3 =>
    some (.ret (()))
  else
   (zT y1a.2.2.2.2.1).bind fun y6 =>
   (yc Z8 (y1.1,y1.2.1,y6.1.tmod 8,y1.2.2.1,y1.2.2.2.1,y1.2.2.2.2.1,y1.2.2.2.2.2.1,y1.2.2.2.2.2.2.1,y1.2.2.2.2.2.2.2.1,y1a.1,y1a.2.1,y1a.2.2.1,y1a.2.2.2.1,y6.2.1,y1a.2.2.2.2.2.1,y1a.2.2.2.2.2.2.1,y1a.2.2.2.2.2.2.2.1,y1b.1,y1b.2.1,y1b.2.2.1,y1b.2.2.2.1,y1b.2.2.2.2.1,y1b.2.2.2.2.2.1,y1b.2.2.2.2.2.2.1,y1b.2.2.2.2.2.2.2.1,([]:List zE),y1c.1,y1c.2.1,y1c.2.2.1,y1c.2.2.2.1,y1c.2.2.2.2.1,y1c.2.2.2.2.2.1,y1c.2.2.2.2.2.2.1,y1c.2.2.2.2.2.2.2.1,())).bind fun st=>match st with
    | .again _=>none
    | .brk y7 =>
    let y7a:=y7.2.2.2.2.2.2.2.2;let y7b:=y7a.2.2.2.2.2.2.2.2;let y7c:=y7b.2.2.2.2.2.2.2.2;let y7d:=y7c.2.2.2.2.2.2.2.2
    (yD (y7c.2.2.2.2.2.2.1++(([y7b.2.2.2.2.2.2.2.1]:zC)))).bind fun l8 =>
    (yD (y7c.2.2.2.2.2.2.2.1++(([y7c.1]:List (List zE))))).bind fun l9 =>
    some (.again (y7.1,w64 (y7.2.1+1),y7.2.2.1,y7.2.2.2.1,y7.2.2.2.2.1,y7.2.2.2.2.2.1,y7.2.2.2.2.2.2.1,y7.2.2.2.2.2.2.2.1,y7a.1,y7a.2.1,y7a.2.2.1,y7a.2.2.2.1,y7a.2.2.2.2.1,y7a.2.2.2.2.2.1,y7a.2.2.2.2.2.2.1,y7a.2.2.2.2.2.2.2.1,y7b.1,y7b.2.1,y7b.2.2.1,y7b.2.2.2.1,y7b.2.2.2.2.1,y7b.2.2.2.2.2.1,y7b.2.2.2.2.2.2.1,y7c.2.1,y7c.2.2.1,y7c.2.2.2.1,y7c.2.2.2.2.1,y7c.2.2.2.2.2.1,l8,l9,y7d.1,()))
    | .ret y7 =>
    some (.ret (()))
  | .ret y1 =>
  some (.ret (()))
 else
 some (.brk (s3,s4,s5,s6,s7,s8,s9,s10,s11,s12,s14,s15,s16,s17,s18,s19,s20,s21,s22,s23,s24,s25,s26,s27,s28,s29,s30,s31,())):=by kernel_rfl
theorem zmg (s1:Int) (s2:Int) (s3:Int) (s4:Int) (s5:Int) (s6:Int) (s7:Int) (s8:Int) (s9:Int) (s10:Int) (s11:Int) (s12:Int) (s13:zB) (s14:zY) (s15:Int) (s16:Int) (s17:Int) (s18:Int) (s19:Int) (s20:Int) (s21:Int) (s22:Int) (s23:Int) (s24:zB) (s25:zA) (s26:zC) (s27:zC) (s28:List (List zE)) (s29:List zk) (s30:zC) (s31:zC) (s32:List (List zE)) (s33:List zk):XL (s1,s2,s3,s4,s5,s6,s7,s8,s9,s10,s11,s12,s13,s14,s15,s16,s17,s18,s19,s20,s21,s22,s23,s24,s25,s26,s27,s28,s29,s30,s31,s32,s33,()) =
 (zT s14).bind fun y1 =>
 bif decide (s3<(w64 (1+(y1.1.tmod 3)))) then
 (zT y1.2.1).bind fun y2 =>
 bif decide ((w64 (s1+1))=0) then
  none
 else
  (yD (s25++(([(y2.1.tmod (w64 (s1+1)))]:zA)))).bind fun l3 =>
  some (.again (s1,s2,w64 (s3+1),s4,s5,s6,s7,s8,s9,s10,s11,s12,s13,y2.2.1,s15,s16,s17,s18,s19,s20,s21,s22,s23,s24,l3,s26,s27,s28,s29,s30,s31,s32,s33,()))
 else
 some (.brk (s1,s2,s4,s5,s6,s7,s8,s9,s10,s11,s12,s13,y1.2.1,s15,s16,s17,s18,s19,s20,s21,s22,s23,s24,s25,s26,s27,s28,s29,s30,s31,s32,s33,())):=by kernel_rfl
theorem zlG (s1:Int) (s2:Int) (s3:Int) (s4:Int) (s5:Int) (s6:Int) (s7:Int) (s8:Int) (s9:Int) (s10:Int) (s11:Int) (s12:Int) (s13:zB) (s14:zY) (s15:Int) (s16:Int) (s17:Int) (s18:Int) (s19:Int) (s20:Int) (s21:Int) (s22:Int) (s23:Int) (s24:zB) (s25:zA) (s26:List zE) (s27:zC) (s28:zC) (s29:List (List zE)) (s30:List zk) (s31:zC) (s32:zC) (s33:List (List zE)) (s34:List zk):Z8 (s1,s2,s3,s4,s5,s6,s7,s8,s9,s10,s11,s12,s13,s14,s15,s16,s17,s18,s19,s20,s21,s22,s23,s24,s25,s26,s27,s28,s29,s30,s31,s32,s33,s34,()) =
 bif decide (0<s3) then
 (Vf ((s25.length:Int)) s23 s14).bind fun y1 =>
 (yD (s26++([y1.1]:List zE))).bind fun l2 =>
 some (.again (s1,s2,w64 (s3-1),s4,s5,s6,s7,s8,s9,s10,s11,s12,s13,y1.2.1,s15,s16,s17,s18,s19,s20,s21,s22,s23,s24,s25,l2,s27,s28,s29,s30,s31,s32,s33,s34,()))
 else
 some (.brk (s1,s2,s4,s5,s6,s7,s8,s9,s10,s11,s12,s13,s14,s15,s16,s17,s18,s19,s20,s21,s22,s23,s24,s25,s26,s27,s28,s29,s30,s31,s32,s33,s34,())):=by kernel_rfl
theorem zp8 (a1:List (BitVec 8)):zdo a1 =
 (cut a1 0 (bif decide (90<((a1.length:Int))) then 90 else ((a1.length:Int)))).bind fun l1 =>
 (zT (zY.mk l1 0)).bind fun y2 =>
 (zT y2.2.1).bind fun y3 =>
 (zT y3.2.1).bind fun y4 =>
 (zT y4.2.1).bind fun y5 =>
 (zT y5.2.1).bind fun y6 =>
 (zT y6.2.1).bind fun y7 =>
 (zT y7.2.1).bind fun y8 =>
 (zT y8.2.1).bind fun y9 =>
 (zT y9.2.1).bind fun y10 =>
 (zT y10.2.1).bind fun y11 =>
 (yc Wu (w64 (1+(y10.1.tmod 6)),0,0,0,0,0,0,0,0,0,0,0#64,y11.2.1,w64 (1+(y2.1.tmod 3)),y3.1.tmod 3,w64 (1+(y4.1.tmod 3)),w64 (1+(y5.1.tmod 2)),w64 (1+(y6.1.tmod 3)),w64 ((w64 (1+(y10.1.tmod 6)))+(y11.1.tmod 4)),y7.1.tmod 4,y8.1.tmod 4,w64 (1+(y9.1.tmod 2)),0#64,([]:zC),([]:zC),([]:List (List zE)),([]:List zk),([]:zC),([]:zC),([]:List (List zE)),([]:List zk),())).bind fun st=>match st with
  | .again _=>none
  | .brk y12 =>
  let y12a:=y12.2.2.2.2.2.2.2.2;let y12b:=y12a.2.2.2.2.2.2.2.2;let y12c:=y12b.2.2.2.2.2.2.2.2
  (zT y12a.2.2.2.1).bind fun y13 =>
  bif decide ((w64 (y12.1+1))=0) then
  none
  else
  (YO 0#64 (y13.1.tmod (w64 (y12.1+1)))).bind fun y14 =>
  (yc XH (y12.1,0,y12.2.1,y12.2.2.1,y12.2.2.2.1,y12.2.2.2.2.1,y12.2.2.2.2.2.1,y12.2.2.2.2.2.2.1,y12.2.2.2.2.2.2.2.1,y12a.1,y12a.2.1,y12a.2.2.1,y13.2.1,y12a.2.2.2.2.1,y12a.2.2.2.2.2.1,y12a.2.2.2.2.2.2.1,y12a.2.2.2.2.2.2.2.1,y12b.1,y12b.2.1,y12b.2.2.1,y12b.2.2.2.1,y12b.2.2.2.2.1,y14.1,y12b.2.2.2.2.2.2.1,y12b.2.2.2.2.2.2.2.1,y12c.1,y12c.2.1,y12c.2.2.1,y12c.2.2.2.1,y12c.2.2.2.2.1,y12c.2.2.2.2.2.1,())).bind fun st=>match st with
   | .again _=>none
   | .brk y15 =>
   let y15a:=y15.2.2.2.2.2.2.2.2;let y15b:=y15a.2.2.2.2.2.2.2.2;let y15c:=y15b.2.2.2.2.2.2.2.2
   some (zd.mk y15a.2.2.1 y15a.2.2.2.1 y15a.2.2.2.2.1 y15a.2.2.2.2.2.1 y15a.2.2.2.2.2.2.1 y15a.2.2.2.2.2.2.2.1 y15b.1 y15b.2.1 (zw.mk y15b.2.2.1 y15c.1) y15b.2.2.2.1 y15c.2.1 y15c.2.2.1 y15c.2.2.2.1,())
   | .ret y15 =>
   none
  | .ret y12 =>
  none:=zF
theorem zmA (s1:List (BitVec 8)) (s2:Int) (s3:Int) (s4:zd) (s5:List zk):zaA (s1,s2,s3,s4,s5,()) =
 bif decide (s3<((s1.length:Int))) then
 bif decide (((s5.length:Int))<s2) then
  (idx s1 s3).bind fun x1 =>
  bif decide ((w64 ((w64 (1+s4.Workers))+s4.Mutators))=0) then
  none
  else
  bif decide (s4.Workers<(((x1.toNat:Int)).tmod (w64 ((w64 (1+s4.Workers))+s4.Mutators)))) then
   (yc uy (s1,s2,s3,0,s4,s5,zk.mk 2 (w64 ((((x1.toNat:Int)).tmod (w64 ((w64 (1+s4.Workers))+s4.Mutators)))-s4.Workers)),())).bind fun st=>match st with
    | .again _=>none
    | .brk y2 =>
    some (.again (y2.1,y2.2.1,w64 (y2.2.2.1+1),y2.2.2.2.1,y2.2.2.2.2.1,()))
    | .ret y2 =>
    some (.ret (()))
  else
   bif decide (0<(((x1.toNat:Int)).tmod (w64 ((w64 (1+s4.Workers))+s4.Mutators)))) then
   (yc uy (s1,s2,s3,0,s4,s5,zk.mk 1 (((x1.toNat:Int)).tmod (w64 ((w64 (1+s4.Workers))+s4.Mutators))),())).bind fun st=>match st with
    | .again _=>none
    | .brk y3 =>
    some (.again (y3.1,y3.2.1,w64 (y3.2.2.1+1),y3.2.2.2.1,y3.2.2.2.2.1,()))
    | .ret y3 =>
    some (.ret (()))
   else
   (yc uy (s1,s2,s3,0,s4,s5,zk.mk 0 0,())).bind fun st=>match st with
    | .again _=>none
    | .brk y4 =>
    some (.again (y4.1,y4.2.1,w64 (y4.2.2.1+1),y4.2.2.2.1,y4.2.2.2.2.1,()))
    | .ret y4 =>
    some (.ret (()))
 else
  some (.brk (s5,()))
 else
 some (.brk (s5,())):=by kernel_rfl
theorem zkV (s1:List (BitVec 8)) (s2:Int) (s3:Int) (s4:Int) (s5:zd) (s6:List zk) (s7:zk):uy (s1,s2,s3,s4,s5,s6,s7,()) =
 (idx s1 s3).bind fun x1 =>
 bif decide (s4<=(w64 (((x1.toNat:Int)).tdiv 64))) then
 bif decide (((s6.length:Int))<s2) then
  (yD (s6++([s7]:List zk))).bind fun l2 =>
  some (.again (s1,s2,s3,w64 (s4+1),s5,l2,s7,()))
 else
  some (.brk (s1,s2,s3,s5,s6,()))
 else
 some (.brk (s1,s2,s3,s5,s6,())):=by kernel_rfl
theorem zpq (a1:zd) (a2:List (BitVec 8)) (a3:Int):V9 a1 a2 a3 =
 (yc zaA (a2,a3,0,a1,([]:List zk),())).bind fun st=>match st with
  | .again _=>none
  | .brk y1 =>
  some (y1.1,())
  | .ret y1 =>
  none:=zF
theorem zaI (s1:Bool) (s2:Int) (s3:Int) (s4:za) (s5:List zk):u4 (s1,s2,s3,s4,s5,()) =
 bif decide (s3<s2) then
 (wg s5 s3).bind fun n1 =>
 (s5[n1]?).bind fun x2 =>
 (zd7 s4 x2).bind fun y3 =>
 (V5 s4 y3.1).bind fun y4 =>
 (zdY s4.H y3.1.H).bind fun y5 =>
 bif decide (y4.1=0) then
  bif y5.1 then
  bif !((decide (s4.T.Marks=y3.1.T.Marks))&&(decide (s4.T.Black=y3.1.T.Black))) then
   some (.ret (false,()))
  else
   some (.again (s1,s2,w64 (s3+1),y3.1,s5,()))
  else
  some (.ret (false,()))
 else
  bif decide (y4.1=1) then
  bif y5.1 then
   (V1 s4.T y4.2.1).bind fun y6 =>
   bif decide (y6.1=0) then
   (V1 y3.1.T y4.2.1).bind fun y7 =>
   bif !(decide (y7.1=1)) then
    some (.ret (false,()))
   else
    some (.again (s1,s2,w64 (s3+1),y3.1,s5,()))
   else
   some (.ret (false,()))
  else
   some (.ret (false,()))
  else
  bif decide (y4.1=2) then
   bif y5.1 then
   (V1 s4.T y4.2.1).bind fun y8 =>
   bif decide (y8.1=1) then
    (V1 y3.1.T y4.2.1).bind fun y9 =>
    bif !(decide (y9.1=2)) then
    some (.ret (false,()))
    else
    some (.again (s1,s2,w64 (s3+1),y3.1,s5,()))
   else
    some (.ret (false,()))
   else
   some (.ret (false,()))
  else
   bif decide (y4.1=3) then
   bif !y5.1 then
    bif decide (((y3.1.H.Objs.length:Int))=(w64 (((s4.H.Objs.length:Int))+1))) then
    (V1 y3.1.T y4.2.1).bind fun y10 =>
    bif !(decide (y10.1=2)) then
     some (.ret (false,()))
    else
     some (.again (s1,s2,w64 (s3+1),y3.1,s5,()))
    else
    some (.ret (false,()))
   else
    some (.ret (false,()))
   else
   bif decide (y4.1=4) then
    bif !y5.1 then
    bif (decide (s4.T.Marks=y3.1.T.Marks))&&(decide (s4.T.Black=y3.1.T.Black)) then
     bif !(decide (((y3.1.H.Objs.length:Int))=((s4.H.Objs.length:Int)))) then
     some (.ret (false,()))
     else
     some (.again (s1,s2,w64 (s3+1),y3.1,s5,()))
    else
     some (.ret (false,()))
    else
    some (.ret (false,()))
   else
    some (.ret (false,()))
 else
 some (.brk (s1,())):=by kernel_rfl
theorem zls (a1:List (BitVec 8)) (a2:List (BitVec 8)):Z2 a1 a2 =
 (zaf).bind fun y1 =>
 bif !y1.1 then
 some (false,())
 else
 (zdo a1).bind fun y2 =>
 (zh5 y2.1).bind fun y3 =>
 (V9 y2.1 a2 300).bind fun y4 =>
 (yc u4 (y1.1,(y4.1.length:Int),0,y3.1,y4.1,())).bind fun st=>match st with
  | .again _=>none
  | .brk y5 =>
  some (y5.1,())
  | .ret y5 =>
  some (y5.1,()):=zF
end Go.Pe.G
