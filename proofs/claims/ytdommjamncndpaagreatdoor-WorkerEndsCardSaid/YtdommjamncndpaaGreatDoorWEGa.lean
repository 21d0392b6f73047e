/- Own work of this seat: G1, Tz, G0, G2, G4a, G4b, G4c, G4d, G4e, EQ, G2i, GH, G3. -/
import Derived.Test.YtdommjamncndpaaGreatDoorWECb
import Derived.Test.YtdommjamncndpaaGreatDoorProg
import Derived.Shelf.Spec.TrailingZeros
set_option linter.unusedVariables false
set_option linter.unusedSectionVars false
set_option linter.unusedSimpArgs false
set_option linter.unnecessarySimpa false
set_option linter.deprecated false
set_option maxRecDepth 100000
open Bool renaming and_eq_true → zBl
open Int renaming toNat_natCast → zCh
open List renaming append_nil → zBo, length_drop → zCz, drop_eq_nil_of_le → zCM, take_of_length_le → zCV
open Nat renaming le_of_ble_eq_true → zB0
open Option renaming bind_some → zBk, bind_eq_some_iff → zBw, map_eq_some_iff → zBD
namespace Go.Pe.G
open Go.Pe Go.Proofs
abbrev zp:Ty:= .int .i64
abbrev z5:Ty:= .slice (.int .i64)
abbrev zQ:Ty:= .slice (.slice (.int .i64))
abbrev zw:=BitVec 64
abbrev zE:=List Int
abbrev zy:=List (List Int)
structure zr where
 Kind:Int
 R:Int
 A:Int
 S:Int
structure zu where
 Kind:Int
 N:Int
structure zC where
 Slots:Int
 Objs:List zE
structure zc where
 Workers:Int
 Mutators:Int
 Cap:Int
 Buf:Int
 Bin:Int
 Most:Int
 Price:Int
 Limit:Int
 H:zC
 Roots:BitVec 64
 Regs:List zE
 Progs:List (List zr)
 Picks:List zu
structure zm where
 Kind:Int
 PC:Int
 Base:Int
 Cap:Int
 B:BitVec 64
 T:BitVec 64
 X:Int
 Out:Int
structure zJ where
 Kind:Int
 PC:Int
 Head:Int
 Next:Int
 H:BitVec 64
 X:Int
 Y:Int
 Out:Int
structure zH where
 PC:Int
 Mode:Int
 Obj:Int
 Who:Int
 D:zm
 C:zJ
 Bin:Int
 Out:Int
structure zh where
 PC:Int
 Obj:Int
 Slot:Int
 Victim:Int
 Bin:Int
 Batch:List Int
 D:zm
 C:zJ
 G:zH
structure zg where
 PC:Int
 IP:Int
 Ret:Int
 Want:Int
 Old:Int
 Obj:Int
 Slot:Int
 Bin:Int
 Regs:List Int
 Buf:List Int
 Batch:List Int
 C:zJ
 G:zH
structure zA where
 Marks:BitVec 64
 Black:BitVec 64
structure zD where
 Scanned:Int
 Spent:Int
 Pool:Int
 Bal:List Int
structure zF where
 PC:Int
 I:Int
structure za where
 P:zc
 H:zC
 M:List zw
 Bins:List zE
 T:zA
 Work:Int
 Epoch:Int
 Flag:Bool
 Done:Bool
 Restarts:Int
 Acks:List Int
 L:zD
 Ws:List zh
 Ms:List zg
 D:zF
structure Z7 where
 Kind:Int
 At:Int
 A:BitVec 64
 B:BitVec 64
structure zX where
 Worker:zh
 s:za
 w:Int
structure zR where
 Grey:zH
 s:za
structure zk8 where
 a0:Int
 a1:Int
 a2:Int
 a3:Int
 a4:Int
 a5:Int
 a6:Int
 a7:Int
structure zW where
 L:List (BitVec 8)
 At:Int
structure zxi where
 a0:Int
 a1:Int
 a2:Int
 a3:Int
 a4:Int
structure zs4 where
 n:zxi
 d:zm
 c:zJ
 g:zH
@[reducible] def TT:Nat->Type
 | 0=>zr
 | 1=>zu
 | 2=>zC
 | 3=>zc
 | 4=>zm
 | 5=>zJ
 | 6=>zH
 | 7=>zh
 | 8=>zg
 | 9=>zA
 | 10=>zD
 | 11=>zF
 | 12=>za
 | 13=>Z7
 | 14=>zX
 | 15=>zR
 | 16=>zk8
 | 17=>zW
 | 18=>zxi
 | 19=>zs4
 | _=>Unit
@[reducible] def lvs:Nat->List Ty
 | 0=>[zp,zp,zp,zp]
 | 1=>[zp,zp]
 | 2=>[zp,zQ]
 | 3=>[zp,zp,zp,zp,zp,zp,zp,zp,zp,zQ,(.int .u64),zQ,(.slice (.slice (.named 0))),(.slice (.named 1))]
 | 4=>[zp,zp,zp,zp,(.int .u64),(.int .u64),zp,zp]
 | 5=>[zp,zp,zp,zp,(.int .u64),zp,zp,zp]
 | 6=>[zp,zp,zp,zp,zp,zp,zp,zp,(.int .u64),(.int .u64),zp,zp,zp,zp,zp,zp,(.int .u64),zp,zp,zp,zp,zp]
 | 7=>[zp,zp,zp,zp,zp,z5,zp,zp,zp,zp,(.int .u64),(.int .u64),zp,zp,zp,zp,zp,zp,(.int .u64),zp,zp,zp,zp,zp,zp,zp,zp,zp,zp,zp,(.int .u64),(.int .u64),zp,zp,zp,zp,zp,zp,(.int .u64),zp,zp,zp,zp,zp]
 | 8=>[zp,zp,zp,zp,zp,zp,zp,zp,z5,z5,z5,zp,zp,zp,zp,(.int .u64),zp,zp,zp,zp,zp,zp,zp,zp,zp,zp,zp,(.int .u64),(.int .u64),zp,zp,zp,zp,zp,zp,(.int .u64),zp,zp,zp,zp,zp]
 | 9=>[(.int .u64),(.int .u64)]
 | 10=>[zp,zp,zp,z5]
 | 11=>[zp,zp]
 | 12=>[zp,zp,zp,zp,zp,zp,zp,zp,zp,zQ,(.int .u64),zQ,(.slice (.slice (.named 0))),(.slice (.named 1)),zp,zQ,(.slice (.int .u64)),zQ,(.int .u64),(.int .u64),zp,zp,.bool,.bool,zp,z5,zp,zp,zp,z5,(.slice (.named 7)),(.slice (.named 8)),zp,zp]
 | 13=>[zp,zp,(.int .u64),(.int .u64)]
 | 14=>[zp,zp,zp,zp,zp,z5,zp,zp,zp,zp,(.int .u64),(.int .u64),zp,zp,zp,zp,zp,zp,(.int .u64),zp,zp,zp,zp,zp,zp,zp,zp,zp,zp,zp,(.int .u64),(.int .u64),zp,zp,zp,zp,zp,zp,(.int .u64),zp,zp,zp,zp,zp,zp,zp,zp,zp,zp,zp,zp,zp,zp,zQ,(.int .u64),zQ,(.slice (.slice (.named 0))),(.slice (.named 1)),zp,zQ,(.slice (.int .u64)),zQ,(.int .u64),(.int .u64),zp,zp,.bool,.bool,zp,z5,zp,zp,zp,z5,(.slice (.named 7)),(.slice (.named 8)),zp,zp,zp]
 | 15=>[zp,zp,zp,zp,zp,zp,zp,zp,(.int .u64),(.int .u64),zp,zp,zp,zp,zp,zp,(.int .u64),zp,zp,zp,zp,zp,zp,zp,zp,zp,zp,zp,zp,zp,zp,zQ,(.int .u64),zQ,(.slice (.slice (.named 0))),(.slice (.named 1)),zp,zQ,(.slice (.int .u64)),zQ,(.int .u64),(.int .u64),zp,zp,.bool,.bool,zp,z5,zp,zp,zp,z5,(.slice (.named 7)),(.slice (.named 8)),zp,zp]
 | 16=>[zp,zp,zp,zp,zp,zp,zp,zp]
 | 17=>[(.slice (.int .u8)),zp]
 | 18=>[zp,zp,zp,zp,zp]
 | 19=>[zp,zp,zp,zp,zp,zp,zp,zp,zp,(.int .u64),(.int .u64),zp,zp,zp,zp,zp,zp,(.int .u64),zp,zp,zp,zp,zp,zp,zp,zp,zp,zp,zp,(.int .u64),(.int .u64),zp,zp,zp,zp,zp,zp,(.int .u64),zp,zp,zp,zp,zp]
 | _=>[]
@[reducible] def unp:(n:Nat)->TT n->HL TT (lvs n)
 | 0=>fun x=>(x.Kind,x.R,x.A,x.S,())
 | 1=>fun x=>(x.Kind,x.N,())
 | 2=>fun x=>(x.Slots,x.Objs,())
 | 3=>fun x=>(x.Workers,x.Mutators,x.Cap,x.Buf,x.Bin,x.Most,x.Price,x.Limit,x.H.Slots,x.H.Objs,x.Roots,x.Regs,x.Progs,x.Picks,())
 | 4=>fun x=>(x.Kind,x.PC,x.Base,x.Cap,x.B,x.T,x.X,x.Out,())
 | 5=>fun x=>(x.Kind,x.PC,x.Head,x.Next,x.H,x.X,x.Y,x.Out,())
 | 6=>fun x=>(x.PC,x.Mode,x.Obj,x.Who,x.D.Kind,x.D.PC,x.D.Base,x.D.Cap,x.D.B,x.D.T,x.D.X,x.D.Out,x.C.Kind,x.C.PC,x.C.Head,x.C.Next,x.C.H,x.C.X,x.C.Y,x.C.Out,x.Bin,x.Out,())
 | 7=>fun x=>(x.PC,x.Obj,x.Slot,x.Victim,x.Bin,x.Batch,x.D.Kind,x.D.PC,x.D.Base,x.D.Cap,x.D.B,x.D.T,x.D.X,x.D.Out,x.C.Kind,x.C.PC,x.C.Head,x.C.Next,x.C.H,x.C.X,x.C.Y,x.C.Out,x.G.PC,x.G.Mode,x.G.Obj,x.G.Who,x.G.D.Kind,x.G.D.PC,x.G.D.Base,x.G.D.Cap,x.G.D.B,x.G.D.T,x.G.D.X,x.G.D.Out,x.G.C.Kind,x.G.C.PC,x.G.C.Head,x.G.C.Next,x.G.C.H,x.G.C.X,x.G.C.Y,x.G.C.Out,x.G.Bin,x.G.Out,())
 | 8=>fun x=>(x.PC,x.IP,x.Ret,x.Want,x.Old,x.Obj,x.Slot,x.Bin,x.Regs,x.Buf,x.Batch,x.C.Kind,x.C.PC,x.C.Head,x.C.Next,x.C.H,x.C.X,x.C.Y,x.C.Out,x.G.PC,x.G.Mode,x.G.Obj,x.G.Who,x.G.D.Kind,x.G.D.PC,x.G.D.Base,x.G.D.Cap,x.G.D.B,x.G.D.T,x.G.D.X,x.G.D.Out,x.G.C.Kind,x.G.C.PC,x.G.C.Head,x.G.C.Next,x.G.C.H,x.G.C.X,x.G.C.Y,x.G.C.Out,x.G.Bin,x.G.Out,())
 | 9=>fun x=>(x.Marks,x.Black,())
 | 10=>fun x=>(x.Scanned,x.Spent,x.Pool,x.Bal,())
 | 11=>fun x=>(x.PC,x.I,())
 | 12=>fun x=>(x.P.Workers,x.P.Mutators,x.P.Cap,x.P.Buf,x.P.Bin,x.P.Most,x.P.Price,x.P.Limit,x.P.H.Slots,x.P.H.Objs,x.P.Roots,x.P.Regs,x.P.Progs,x.P.Picks,x.H.Slots,x.H.Objs,x.M,x.Bins,x.T.Marks,x.T.Black,x.Work,x.Epoch,x.Flag,x.Done,x.Restarts,x.Acks,x.L.Scanned,x.L.Spent,x.L.Pool,x.L.Bal,x.Ws,x.Ms,x.D.PC,x.D.I,())
 | 13=>fun x=>(x.Kind,x.At,x.A,x.B,())
 | 14=>fun x=>(x.Worker.PC,x.Worker.Obj,x.Worker.Slot,x.Worker.Victim,x.Worker.Bin,x.Worker.Batch,x.Worker.D.Kind,x.Worker.D.PC,x.Worker.D.Base,x.Worker.D.Cap,x.Worker.D.B,x.Worker.D.T,x.Worker.D.X,x.Worker.D.Out,x.Worker.C.Kind,x.Worker.C.PC,x.Worker.C.Head,x.Worker.C.Next,x.Worker.C.H,x.Worker.C.X,x.Worker.C.Y,x.Worker.C.Out,x.Worker.G.PC,x.Worker.G.Mode,x.Worker.G.Obj,x.Worker.G.Who,x.Worker.G.D.Kind,x.Worker.G.D.PC,x.Worker.G.D.Base,x.Worker.G.D.Cap,x.Worker.G.D.B,x.Worker.G.D.T,x.Worker.G.D.X,x.Worker.G.D.Out,x.Worker.G.C.Kind,x.Worker.G.C.PC,x.Worker.G.C.Head,x.Worker.G.C.Next,x.Worker.G.C.H,x.Worker.G.C.X,x.Worker.G.C.Y,x.Worker.G.C.Out,x.Worker.G.Bin,x.Worker.G.Out,x.s.P.Workers,x.s.P.Mutators,x.s.P.Cap,x.s.P.Buf,x.s.P.Bin,x.s.P.Most,x.s.P.Price,x.s.P.Limit,x.s.P.H.Slots,x.s.P.H.Objs,x.s.P.Roots,x.s.P.Regs,x.s.P.Progs,x.s.P.Picks,x.s.H.Slots,x.s.H.Objs,x.s.M,x.s.Bins,x.s.T.Marks,x.s.T.Black,x.s.Work,x.s.Epoch,x.s.Flag,x.s.Done,x.s.Restarts,x.s.Acks,x.s.L.Scanned,x.s.L.Spent,x.s.L.Pool,x.s.L.Bal,x.s.Ws,x.s.Ms,x.s.D.PC,x.s.D.I,x.w,())
 | 15=>fun x=>(x.Grey.PC,x.Grey.Mode,x.Grey.Obj,x.Grey.Who,x.Grey.D.Kind,x.Grey.D.PC,x.Grey.D.Base,x.Grey.D.Cap,x.Grey.D.B,x.Grey.D.T,x.Grey.D.X,x.Grey.D.Out,x.Grey.C.Kind,x.Grey.C.PC,x.Grey.C.Head,x.Grey.C.Next,x.Grey.C.H,x.Grey.C.X,x.Grey.C.Y,x.Grey.C.Out,x.Grey.Bin,x.Grey.Out,x.s.P.Workers,x.s.P.Mutators,x.s.P.Cap,x.s.P.Buf,x.s.P.Bin,x.s.P.Most,x.s.P.Price,x.s.P.Limit,x.s.P.H.Slots,x.s.P.H.Objs,x.s.P.Roots,x.s.P.Regs,x.s.P.Progs,x.s.P.Picks,x.s.H.Slots,x.s.H.Objs,x.s.M,x.s.Bins,x.s.T.Marks,x.s.T.Black,x.s.Work,x.s.Epoch,x.s.Flag,x.s.Done,x.s.Restarts,x.s.Acks,x.s.L.Scanned,x.s.L.Spent,x.s.L.Pool,x.s.L.Bal,x.s.Ws,x.s.Ms,x.s.D.PC,x.s.D.I,())
 | 16=>fun x=>(x.a0,x.a1,x.a2,x.a3,x.a4,x.a5,x.a6,x.a7,())
 | 17=>fun x=>(x.L,x.At,())
 | 18=>fun x=>(x.a0,x.a1,x.a2,x.a3,x.a4,())
 | 19=>fun x=>(x.n.a0,x.n.a1,x.n.a2,x.n.a3,x.n.a4,x.d.Kind,x.d.PC,x.d.Base,x.d.Cap,x.d.B,x.d.T,x.d.X,x.d.Out,x.c.Kind,x.c.PC,x.c.Head,x.c.Next,x.c.H,x.c.X,x.c.Y,x.c.Out,x.g.PC,x.g.Mode,x.g.Obj,x.g.Who,x.g.D.Kind,x.g.D.PC,x.g.D.Base,x.g.D.Cap,x.g.D.B,x.g.D.T,x.g.D.X,x.g.D.Out,x.g.C.Kind,x.g.C.PC,x.g.C.Head,x.g.C.Next,x.g.C.H,x.g.C.X,x.g.C.Y,x.g.C.Out,x.g.Bin,x.g.Out,())
 | _+20=>fun _=>()
@[reducible] def pck:(n:Nat)->HL TT (lvs n)->TT n
 | 0=>fun x=>⟨x.1,x.2.1,x.2.2.1,x.2.2.2.1⟩
 | 1=>fun x=>⟨x.1,x.2.1⟩
 | 2=>fun x=>⟨x.1,x.2.1⟩
 | 3=>fun x=>let xa:=x.2.2.2.2.2.2.2.2;⟨x.1,x.2.1,x.2.2.1,x.2.2.2.1,x.2.2.2.2.1,x.2.2.2.2.2.1,x.2.2.2.2.2.2.1,x.2.2.2.2.2.2.2.1,⟨xa.1,xa.2.1⟩,xa.2.2.1,xa.2.2.2.1,xa.2.2.2.2.1,xa.2.2.2.2.2.1⟩
 | 4=>fun x=>⟨x.1,x.2.1,x.2.2.1,x.2.2.2.1,x.2.2.2.2.1,x.2.2.2.2.2.1,x.2.2.2.2.2.2.1,x.2.2.2.2.2.2.2.1⟩
 | 5=>fun x=>⟨x.1,x.2.1,x.2.2.1,x.2.2.2.1,x.2.2.2.2.1,x.2.2.2.2.2.1,x.2.2.2.2.2.2.1,x.2.2.2.2.2.2.2.1⟩
 | 6=>fun x=>let xa:=x.2.2.2.2.2.2.2.2;let xb:=xa.2.2.2.2.2.2.2.2;⟨x.1,x.2.1,x.2.2.1,x.2.2.2.1,⟨x.2.2.2.2.1,x.2.2.2.2.2.1,x.2.2.2.2.2.2.1,x.2.2.2.2.2.2.2.1,xa.1,xa.2.1,xa.2.2.1,xa.2.2.2.1⟩,⟨xa.2.2.2.2.1,xa.2.2.2.2.2.1,xa.2.2.2.2.2.2.1,xa.2.2.2.2.2.2.2.1,xb.1,xb.2.1,xb.2.2.1,xb.2.2.2.1⟩,xb.2.2.2.2.1,xb.2.2.2.2.2.1⟩
 | 7=>fun x=>let xa:=x.2.2.2.2.2.2.2.2;let xb:=xa.2.2.2.2.2.2.2.2;let xc:=xb.2.2.2.2.2.2.2.2;let xd:=xc.2.2.2.2.2.2.2.2;let xe:=xd.2.2.2.2.2.2.2.2;⟨x.1,x.2.1,x.2.2.1,x.2.2.2.1,x.2.2.2.2.1,x.2.2.2.2.2.1,⟨x.2.2.2.2.2.2.1,x.2.2.2.2.2.2.2.1,xa.1,xa.2.1,xa.2.2.1,xa.2.2.2.1,xa.2.2.2.2.1,xa.2.2.2.2.2.1⟩,⟨xa.2.2.2.2.2.2.1,xa.2.2.2.2.2.2.2.1,xb.1,xb.2.1,xb.2.2.1,xb.2.2.2.1,xb.2.2.2.2.1,xb.2.2.2.2.2.1⟩,⟨xb.2.2.2.2.2.2.1,xb.2.2.2.2.2.2.2.1,xc.1,xc.2.1,⟨xc.2.2.1,xc.2.2.2.1,xc.2.2.2.2.1,xc.2.2.2.2.2.1,xc.2.2.2.2.2.2.1,xc.2.2.2.2.2.2.2.1,xd.1,xd.2.1⟩,⟨xd.2.2.1,xd.2.2.2.1,xd.2.2.2.2.1,xd.2.2.2.2.2.1,xd.2.2.2.2.2.2.1,xd.2.2.2.2.2.2.2.1,xe.1,xe.2.1⟩,xe.2.2.1,xe.2.2.2.1⟩⟩
 | 8=>fun x=>let xa:=x.2.2.2.2.2.2.2.2;let xb:=xa.2.2.2.2.2.2.2.2;let xc:=xb.2.2.2.2.2.2.2.2;let xd:=xc.2.2.2.2.2.2.2.2;let xe:=xd.2.2.2.2.2.2.2.2;⟨x.1,x.2.1,x.2.2.1,x.2.2.2.1,x.2.2.2.2.1,x.2.2.2.2.2.1,x.2.2.2.2.2.2.1,x.2.2.2.2.2.2.2.1,xa.1,xa.2.1,xa.2.2.1,⟨xa.2.2.2.1,xa.2.2.2.2.1,xa.2.2.2.2.2.1,xa.2.2.2.2.2.2.1,xa.2.2.2.2.2.2.2.1,xb.1,xb.2.1,xb.2.2.1⟩,⟨xb.2.2.2.1,xb.2.2.2.2.1,xb.2.2.2.2.2.1,xb.2.2.2.2.2.2.1,⟨xb.2.2.2.2.2.2.2.1,xc.1,xc.2.1,xc.2.2.1,xc.2.2.2.1,xc.2.2.2.2.1,xc.2.2.2.2.2.1,xc.2.2.2.2.2.2.1⟩,⟨xc.2.2.2.2.2.2.2.1,xd.1,xd.2.1,xd.2.2.1,xd.2.2.2.1,xd.2.2.2.2.1,xd.2.2.2.2.2.1,xd.2.2.2.2.2.2.1⟩,xd.2.2.2.2.2.2.2.1,xe.1⟩⟩
 | 9=>fun x=>⟨x.1,x.2.1⟩
 | 10=>fun x=>⟨x.1,x.2.1,x.2.2.1,x.2.2.2.1⟩
 | 11=>fun x=>⟨x.1,x.2.1⟩
 | 12=>fun x=>let xa:=x.2.2.2.2.2.2.2.2;let xb:=xa.2.2.2.2.2.2.2.2;let xc:=xb.2.2.2.2.2.2.2.2;let xd:=xc.2.2.2.2.2.2.2.2;⟨⟨x.1,x.2.1,x.2.2.1,x.2.2.2.1,x.2.2.2.2.1,x.2.2.2.2.2.1,x.2.2.2.2.2.2.1,x.2.2.2.2.2.2.2.1,⟨xa.1,xa.2.1⟩,xa.2.2.1,xa.2.2.2.1,xa.2.2.2.2.1,xa.2.2.2.2.2.1⟩,⟨xa.2.2.2.2.2.2.1,xa.2.2.2.2.2.2.2.1⟩,xb.1,xb.2.1,⟨xb.2.2.1,xb.2.2.2.1⟩,xb.2.2.2.2.1,xb.2.2.2.2.2.1,xb.2.2.2.2.2.2.1,xb.2.2.2.2.2.2.2.1,xc.1,xc.2.1,⟨xc.2.2.1,xc.2.2.2.1,xc.2.2.2.2.1,xc.2.2.2.2.2.1⟩,xc.2.2.2.2.2.2.1,xc.2.2.2.2.2.2.2.1,⟨xd.1,xd.2.1⟩⟩
 | 13=>fun x=>⟨x.1,x.2.1,x.2.2.1,x.2.2.2.1⟩
 | 14=>fun x=>let xa:=x.2.2.2.2.2.2.2.2;let xb:=xa.2.2.2.2.2.2.2.2;let xc:=xb.2.2.2.2.2.2.2.2;let xd:=xc.2.2.2.2.2.2.2.2;let xe:=xd.2.2.2.2.2.2.2.2;let xf:=xe.2.2.2.2.2.2.2.2;let xg:=xf.2.2.2.2.2.2.2.2;let xh:=xg.2.2.2.2.2.2.2.2;let xi:=xh.2.2.2.2.2.2.2.2;⟨⟨x.1,x.2.1,x.2.2.1,x.2.2.2.1,x.2.2.2.2.1,x.2.2.2.2.2.1,⟨x.2.2.2.2.2.2.1,x.2.2.2.2.2.2.2.1,xa.1,xa.2.1,xa.2.2.1,xa.2.2.2.1,xa.2.2.2.2.1,xa.2.2.2.2.2.1⟩,⟨xa.2.2.2.2.2.2.1,xa.2.2.2.2.2.2.2.1,xb.1,xb.2.1,xb.2.2.1,xb.2.2.2.1,xb.2.2.2.2.1,xb.2.2.2.2.2.1⟩,⟨xb.2.2.2.2.2.2.1,xb.2.2.2.2.2.2.2.1,xc.1,xc.2.1,⟨xc.2.2.1,xc.2.2.2.1,xc.2.2.2.2.1,xc.2.2.2.2.2.1,xc.2.2.2.2.2.2.1,xc.2.2.2.2.2.2.2.1,xd.1,xd.2.1⟩,⟨xd.2.2.1,xd.2.2.2.1,xd.2.2.2.2.1,xd.2.2.2.2.2.1,xd.2.2.2.2.2.2.1,xd.2.2.2.2.2.2.2.1,xe.1,xe.2.1⟩,xe.2.2.1,xe.2.2.2.1⟩⟩,⟨⟨xe.2.2.2.2.1,xe.2.2.2.2.2.1,xe.2.2.2.2.2.2.1,xe.2.2.2.2.2.2.2.1,xf.1,xf.2.1,xf.2.2.1,xf.2.2.2.1,⟨xf.2.2.2.2.1,xf.2.2.2.2.2.1⟩,xf.2.2.2.2.2.2.1,xf.2.2.2.2.2.2.2.1,xg.1,xg.2.1⟩,⟨xg.2.2.1,xg.2.2.2.1⟩,xg.2.2.2.2.1,xg.2.2.2.2.2.1,⟨xg.2.2.2.2.2.2.1,xg.2.2.2.2.2.2.2.1⟩,xh.1,xh.2.1,xh.2.2.1,xh.2.2.2.1,xh.2.2.2.2.1,xh.2.2.2.2.2.1,⟨xh.2.2.2.2.2.2.1,xh.2.2.2.2.2.2.2.1,xi.1,xi.2.1⟩,xi.2.2.1,xi.2.2.2.1,⟨xi.2.2.2.2.1,xi.2.2.2.2.2.1⟩⟩,xi.2.2.2.2.2.2.1⟩
 | 15=>fun x=>let xa:=x.2.2.2.2.2.2.2.2;let xb:=xa.2.2.2.2.2.2.2.2;let xc:=xb.2.2.2.2.2.2.2.2;let xd:=xc.2.2.2.2.2.2.2.2;let xe:=xd.2.2.2.2.2.2.2.2;let xf:=xe.2.2.2.2.2.2.2.2;⟨⟨x.1,x.2.1,x.2.2.1,x.2.2.2.1,⟨x.2.2.2.2.1,x.2.2.2.2.2.1,x.2.2.2.2.2.2.1,x.2.2.2.2.2.2.2.1,xa.1,xa.2.1,xa.2.2.1,xa.2.2.2.1⟩,⟨xa.2.2.2.2.1,xa.2.2.2.2.2.1,xa.2.2.2.2.2.2.1,xa.2.2.2.2.2.2.2.1,xb.1,xb.2.1,xb.2.2.1,xb.2.2.2.1⟩,xb.2.2.2.2.1,xb.2.2.2.2.2.1⟩,⟨⟨xb.2.2.2.2.2.2.1,xb.2.2.2.2.2.2.2.1,xc.1,xc.2.1,xc.2.2.1,xc.2.2.2.1,xc.2.2.2.2.1,xc.2.2.2.2.2.1,⟨xc.2.2.2.2.2.2.1,xc.2.2.2.2.2.2.2.1⟩,xd.1,xd.2.1,xd.2.2.1,xd.2.2.2.1⟩,⟨xd.2.2.2.2.1,xd.2.2.2.2.2.1⟩,xd.2.2.2.2.2.2.1,xd.2.2.2.2.2.2.2.1,⟨xe.1,xe.2.1⟩,xe.2.2.1,xe.2.2.2.1,xe.2.2.2.2.1,xe.2.2.2.2.2.1,xe.2.2.2.2.2.2.1,xe.2.2.2.2.2.2.2.1,⟨xf.1,xf.2.1,xf.2.2.1,xf.2.2.2.1⟩,xf.2.2.2.2.1,xf.2.2.2.2.2.1,⟨xf.2.2.2.2.2.2.1,xf.2.2.2.2.2.2.2.1⟩⟩⟩
 | 16=>fun x=>⟨x.1,x.2.1,x.2.2.1,x.2.2.2.1,x.2.2.2.2.1,x.2.2.2.2.2.1,x.2.2.2.2.2.2.1,x.2.2.2.2.2.2.2.1⟩
 | 17=>fun x=>⟨x.1,x.2.1⟩
 | 18=>fun x=>⟨x.1,x.2.1,x.2.2.1,x.2.2.2.1,x.2.2.2.2.1⟩
 | 19=>fun x=>let xa:=x.2.2.2.2.2.2.2.2;let xb:=xa.2.2.2.2.2.2.2.2;let xc:=xb.2.2.2.2.2.2.2.2;let xd:=xc.2.2.2.2.2.2.2.2;let xe:=xd.2.2.2.2.2.2.2.2;⟨⟨x.1,x.2.1,x.2.2.1,x.2.2.2.1,x.2.2.2.2.1⟩,⟨x.2.2.2.2.2.1,x.2.2.2.2.2.2.1,x.2.2.2.2.2.2.2.1,xa.1,xa.2.1,xa.2.2.1,xa.2.2.2.1,xa.2.2.2.2.1⟩,⟨xa.2.2.2.2.2.1,xa.2.2.2.2.2.2.1,xa.2.2.2.2.2.2.2.1,xb.1,xb.2.1,xb.2.2.1,xb.2.2.2.1,xb.2.2.2.2.1⟩,⟨xb.2.2.2.2.2.1,xb.2.2.2.2.2.2.1,xb.2.2.2.2.2.2.2.1,xc.1,⟨xc.2.1,xc.2.2.1,xc.2.2.2.1,xc.2.2.2.2.1,xc.2.2.2.2.2.1,xc.2.2.2.2.2.2.1,xc.2.2.2.2.2.2.2.1,xd.1⟩,⟨xd.2.1,xd.2.2.1,xd.2.2.2.1,xd.2.2.2.2.1,xd.2.2.2.2.2.1,xd.2.2.2.2.2.2.1,xd.2.2.2.2.2.2.2.1,xe.1⟩,xe.2.1,xe.2.2.1⟩⟩
 | _+20=>fun _=>()
theorem zzU:∀n x,pck n (unp n x)=x
 | 0=>fun _=>rfl
 | 1=>fun _=>rfl
 | 2=>fun _=>rfl
 | 3=>fun _=>rfl
 | 4=>fun _=>rfl
 | 5=>fun _=>rfl
 | 6=>fun _=>rfl
 | 7=>fun _=>rfl
 | 8=>fun _=>rfl
 | 9=>fun _=>rfl
 | 10=>fun _=>rfl
 | 11=>fun _=>rfl
 | 12=>fun _=>rfl
 | 13=>fun _=>rfl
 | 14=>fun _=>rfl
 | 15=>fun _=>rfl
 | 16=>fun _=>rfl
 | 17=>fun _=>rfl
 | 18=>fun _=>rfl
 | 19=>fun _=>rfl
 | _+20=>fun _=>rfl
theorem zzD:∀n h,unp n (pck n h)=h
 | 0=>fun _=>rfl
 | 1=>fun _=>rfl
 | 2=>fun _=>rfl
 | 3=>fun _=>rfl
 | 4=>fun _=>rfl
 | 5=>fun _=>rfl
 | 6=>fun _=>rfl
 | 7=>fun _=>rfl
 | 8=>fun _=>rfl
 | 9=>fun _=>rfl
 | 10=>fun _=>rfl
 | 11=>fun _=>rfl
 | 12=>fun _=>rfl
 | 13=>fun _=>rfl
 | 14=>fun _=>rfl
 | 15=>fun _=>rfl
 | 16=>fun _=>rfl
 | 17=>fun _=>rfl
 | 18=>fun _=>rfl
 | 19=>fun _=>rfl
 | _+20=>fun _=>rfl
theorem zxR:∀n,(lvs n).all (fun t=>match t with | .named _=>false | .arr _ _=>false | _=>true)=true
 | 0=>rfl
 | 1=>rfl
 | 2=>rfl
 | 3=>rfl
 | 4=>rfl
 | 5=>rfl
 | 6=>rfl
 | 7=>rfl
 | 8=>rfl
 | 9=>rfl
 | 10=>rfl
 | 11=>rfl
 | 12=>rfl
 | 13=>rfl
 | 14=>rfl
 | 15=>rfl
 | 16=>rfl
 | 17=>rfl
 | 18=>rfl
 | 19=>rfl
 | _+20=>rfl
def E:yG where
 T:=TT
 leaves:=lvs
 unpack:=unp
 pack:=pck
 pu:=zzU
 up:=zzD
 lf:=zxR
def tab:List (Nat×TI):=[
 (2,{size:=1,agg:=false,fields:=[],elem:=0,alen:=0,ty:=some zp,zero:=[.int .i64],bytes:=8,sl:=false,fk:=false,cmp:=false,mp:=false}),
 (3,{size:=1,agg:=false,fields:=[],elem:=0,alen:=0,ty:=some zp,zero:=[.int .i64],bytes:=8,sl:=false,fk:=false,cmp:=false,mp:=false}),
 (4,{size:=1,agg:=false,fields:=[],elem:=0,alen:=0,ty:=some .bool,zero:=[.bool],bytes:=1,sl:=false,fk:=false,cmp:=false,mp:=false}),
 (5,{size:=1,agg:=false,fields:=[],elem:=0,alen:=0,ty:=some (.int .u8),zero:=[.int .u8],bytes:=1,sl:=false,fk:=false,cmp:=false,mp:=false}),
 (22,{size:=1,agg:=false,fields:=[],elem:=5,alen:=0,ty:=some (.slice (.int .u8)),zero:=[.slice],bytes:=24,sl:=true,fk:=false,cmp:=false,mp:=false}),
 (24,{size:=1,agg:=false,fields:=[],elem:=38,alen:=0,ty:=some zQ,zero:=[.slice],bytes:=24,sl:=true,fk:=false,cmp:=false,mp:=false}),
 (26,{size:=2,agg:=true,fields:=[(0,3),(1,24)],elem:=0,alen:=0,ty:=some (.named 2),zero:=[.int .i64,.slice],bytes:=32,sl:=false,fk:=false,cmp:=false,mp:=false}),
 (27,{size:=1,agg:=false,fields:=[],elem:=0,alen:=0,ty:=some (.int .u64),zero:=[.int .u64],bytes:=8,sl:=false,fk:=false,cmp:=false,mp:=false}),
 (28,{size:=1,agg:=false,fields:=[],elem:=0,alen:=0,ty:=some (.int .u64),zero:=[.int .u64],bytes:=8,sl:=false,fk:=false,cmp:=false,mp:=false}),
 (29,{size:=1,agg:=false,fields:=[],elem:=71,alen:=0,ty:=some (.slice (.slice (.named 0))),zero:=[.slice],bytes:=24,sl:=true,fk:=false,cmp:=false,mp:=false}),
 (30,{size:=1,agg:=false,fields:=[],elem:=139,alen:=0,ty:=some (.slice (.named 1)),zero:=[.slice],bytes:=24,sl:=true,fk:=false,cmp:=false,mp:=false}),
 (32,{size:=14,agg:=true,fields:=[(0,3),(1,3),(2,3),(3,3),(4,3),(5,3),(6,2),(7,2),(8,26),(10,28),(11,24),(12,29),(13,30)],elem:=0,alen:=0,ty:=some (.named 3),zero:=[.int .i64,.int .i64,.int .i64,.int .i64,.int .i64,.int .i64,.int .i64,.int .i64,.int .i64,.slice,.int .u64,.slice,.slice,.slice],bytes:=176,sl:=false,fk:=false,cmp:=false,mp:=false}),
 (35,{size:=1,agg:=false,fields:=[],elem:=27,alen:=0,ty:=some (.slice (.int .u64)),zero:=[.slice],bytes:=24,sl:=true,fk:=false,cmp:=false,mp:=false}),
 (37,{size:=2,agg:=true,fields:=[(0,28),(1,28)],elem:=0,alen:=0,ty:=some (.named 9),zero:=[.int .u64,.int .u64],bytes:=16,sl:=false,fk:=false,cmp:=true,mp:=false}),
 (38,{size:=1,agg:=false,fields:=[],elem:=3,alen:=0,ty:=some z5,zero:=[.slice],bytes:=24,sl:=true,fk:=false,cmp:=false,mp:=false}),
 (39,{size:=1,agg:=false,fields:=[],elem:=2,alen:=0,ty:=some z5,zero:=[.slice],bytes:=24,sl:=true,fk:=false,cmp:=false,mp:=false}),
 (41,{size:=4,agg:=true,fields:=[(0,2),(1,2),(2,2),(3,39)],elem:=0,alen:=0,ty:=some (.named 10),zero:=[.int .i64,.int .i64,.int .i64,.slice],bytes:=48,sl:=false,fk:=false,cmp:=false,mp:=false}),
 (42,{size:=1,agg:=false,fields:=[],elem:=64,alen:=0,ty:=some (.slice (.named 7)),zero:=[.slice],bytes:=24,sl:=true,fk:=false,cmp:=false,mp:=false}),
 (43,{size:=1,agg:=false,fields:=[],elem:=89,alen:=0,ty:=some (.slice (.named 8)),zero:=[.slice],bytes:=24,sl:=true,fk:=false,cmp:=false,mp:=false}),
 (45,{size:=2,agg:=true,fields:=[(0,3),(1,3)],elem:=0,alen:=0,ty:=some (.named 11),zero:=[.int .i64,.int .i64],bytes:=16,sl:=false,fk:=false,cmp:=true,mp:=false}),
 (47,{size:=34,agg:=true,fields:=[(0,32),(14,26),(16,35),(17,24),(18,37),(20,3),(21,3),(22,4),(23,4),(24,3),(25,38),(26,41),(30,42),(31,43),(32,45)],elem:=0,alen:=0,ty:=some (.named 12),zero:=[.int .i64,.int .i64,.int .i64,.int .i64,.int .i64,.int .i64,.int .i64,.int .i64,.int .i64,.slice,.int .u64,.slice,.slice,.slice,.int .i64,.slice,.slice,.slice,.int .u64,.int .u64,.int .i64,.int .i64,.bool,.bool,.int .i64,.slice,.int .i64,.int .i64,.int .i64,.slice,.slice,.slice,.int .i64,.int .i64],bytes:=440,sl:=false,fk:=false,cmp:=false,mp:=false}),
 (58,{size:=8,agg:=true,fields:=[(0,3),(1,3),(2,3),(3,3),(4,27),(5,27),(6,3),(7,3)],elem:=0,alen:=0,ty:=some (.named 4),zero:=[.int .i64,.int .i64,.int .i64,.int .i64,.int .u64,.int .u64,.int .i64,.int .i64],bytes:=64,sl:=false,fk:=false,cmp:=true,mp:=false}),
 (60,{size:=8,agg:=true,fields:=[(0,3),(1,3),(2,3),(3,3),(4,27),(5,3),(6,3),(7,3)],elem:=0,alen:=0,ty:=some (.named 5),zero:=[.int .i64,.int .i64,.int .i64,.int .i64,.int .u64,.int .i64,.int .i64,.int .i64],bytes:=64,sl:=false,fk:=false,cmp:=true,mp:=false}),
 (62,{size:=22,agg:=true,fields:=[(0,3),(1,3),(2,3),(3,3),(4,58),(12,60),(20,3),(21,3)],elem:=0,alen:=0,ty:=some (.named 6),zero:=[.int .i64,.int .i64,.int .i64,.int .i64,.int .i64,.int .i64,.int .i64,.int .i64,.int .u64,.int .u64,.int .i64,.int .i64,.int .i64,.int .i64,.int .i64,.int .i64,.int .u64,.int .i64,.int .i64,.int .i64,.int .i64,.int .i64],bytes:=176,sl:=false,fk:=false,cmp:=true,mp:=false}),
 (64,{size:=44,agg:=true,fields:=[(0,3),(1,3),(2,3),(3,3),(4,3),(5,38),(6,58),(14,60),(22,62)],elem:=0,alen:=0,ty:=some (.named 7),zero:=[.int .i64,.int .i64,.int .i64,.int .i64,.int .i64,.slice,.int .i64,.int .i64,.int .i64,.int .i64,.int .u64,.int .u64,.int .i64,.int .i64,.int .i64,.int .i64,.int .i64,.int .i64,.int .u64,.int .i64,.int .i64,.int .i64,.int .i64,.int .i64,.int .i64,.int .i64,.int .i64,.int .i64,.int .i64,.int .i64,.int .u64,.int .u64,.int .i64,.int .i64,.int .i64,.int .i64,.int .i64,.int .i64,.int .u64,.int .i64,.int .i64,.int .i64,.int .i64,.int .i64],bytes:=368,sl:=false,fk:=false,cmp:=false,mp:=false}),
 (68,{size:=2,agg:=true,fields:=[(0,22),(1,3)],elem:=0,alen:=0,ty:=some (.named 17),zero:=[.slice,.int .i64],bytes:=32,sl:=false,fk:=false,cmp:=false,mp:=false}),
 (71,{size:=1,agg:=false,fields:=[],elem:=73,alen:=0,ty:=some (.slice (.named 0)),zero:=[.slice],bytes:=24,sl:=true,fk:=false,cmp:=false,mp:=false}),
 (73,{size:=4,agg:=true,fields:=[(0,3),(1,3),(2,3),(3,3)],elem:=0,alen:=0,ty:=some (.named 0),zero:=[.int .i64,.int .i64,.int .i64,.int .i64],bytes:=32,sl:=false,fk:=false,cmp:=true,mp:=false}),
 (89,{size:=41,agg:=true,fields:=[(0,3),(1,3),(2,3),(3,3),(4,3),(5,3),(6,3),(7,3),(8,38),(9,38),(10,38),(11,60),(19,62)],elem:=0,alen:=0,ty:=some (.named 8),zero:=[.int .i64,.int .i64,.int .i64,.int .i64,.int .i64,.int .i64,.int .i64,.int .i64,.slice,.slice,.slice,.int .i64,.int .i64,.int .i64,.int .i64,.int .u64,.int .i64,.int .i64,.int .i64,.int .i64,.int .i64,.int .i64,.int .i64,.int .i64,.int .i64,.int .i64,.int .i64,.int .u64,.int .u64,.int .i64,.int .i64,.int .i64,.int .i64,.int .i64,.int .i64,.int .u64,.int .i64,.int .i64,.int .i64,.int .i64,.int .i64],bytes:=376,sl:=false,fk:=false,cmp:=false,mp:=false}),
 (92,{size:=79,agg:=true,fields:=[(0,64),(44,47),(78,3)],elem:=0,alen:=0,ty:=some (.named 14),zero:=[.int .i64,.int .i64,.int .i64,.int .i64,.int .i64,.slice,.int .i64,.int .i64,.int .i64,.int .i64,.int .u64,.int .u64,.int .i64,.int .i64,.int .i64,.int .i64,.int .i64,.int .i64,.int .u64,.int .i64,.int .i64,.int .i64,.int .i64,.int .i64,.int .i64,.int .i64,.int .i64,.int .i64,.int .i64,.int .i64,.int .u64,.int .u64,.int .i64,.int .i64,.int .i64,.int .i64,.int .i64,.int .i64,.int .u64,.int .i64,.int .i64,.int .i64,.int .i64,.int .i64,.int .i64,.int .i64,.int .i64,.int .i64,.int .i64,.int .i64,.int .i64,.int .i64,.int .i64,.slice,.int .u64,.slice,.slice,.slice,.int .i64,.slice,.slice,.slice,.int .u64,.int .u64,.int .i64,.int .i64,.bool,.bool,.int .i64,.slice,.int .i64,.int .i64,.int .i64,.slice,.slice,.slice,.int .i64,.int .i64,.int .i64],bytes:=816,sl:=false,fk:=false,cmp:=false,mp:=false}),
 (130,{size:=64,agg:=true,fields:=[],elem:=3,alen:=64,ty:=some (.arr 64 zp),zero:=[.int .i64,.int .i64,.int .i64,.int .i64,.int .i64,.int .i64,.int .i64,.int .i64,.int .i64,.int .i64,.int .i64,.int .i64,.int .i64,.int .i64,.int .i64,.int .i64,.int .i64,.int .i64,.int .i64,.int .i64,.int .i64,.int .i64,.int .i64,.int .i64,.int .i64,.int .i64,.int .i64,.int .i64,.int .i64,.int .i64,.int .i64,.int .i64,.int .i64,.int .i64,.int .i64,.int .i64,.int .i64,.int .i64,.int .i64,.int .i64,.int .i64,.int .i64,.int .i64,.int .i64,.int .i64,.int .i64,.int .i64,.int .i64,.int .i64,.int .i64,.int .i64,.int .i64,.int .i64,.int .i64,.int .i64,.int .i64,.int .i64,.int .i64,.int .i64,.int .i64,.int .i64,.int .i64,.int .i64,.int .i64],bytes:=512,sl:=false,fk:=false,cmp:=true,mp:=false}),
 (133,{size:=8,agg:=true,fields:=[],elem:=3,alen:=8,ty:=some (.named 16),zero:=[.int .i64,.int .i64,.int .i64,.int .i64,.int .i64,.int .i64,.int .i64,.int .i64],bytes:=64,sl:=false,fk:=false,cmp:=true,mp:=false}),
 (139,{size:=2,agg:=true,fields:=[(0,3),(1,3)],elem:=0,alen:=0,ty:=some (.named 1),zero:=[.int .i64,.int .i64],bytes:=16,sl:=false,fk:=false,cmp:=true,mp:=false}),
 (141,{size:=5,agg:=true,fields:=[],elem:=3,alen:=5,ty:=some (.named 18),zero:=[.int .i64,.int .i64,.int .i64,.int .i64,.int .i64],bytes:=40,sl:=false,fk:=false,cmp:=true,mp:=false}),
 (143,{size:=43,agg:=true,fields:=[(0,141),(5,58),(13,60),(21,62)],elem:=0,alen:=0,ty:=some (.named 19),zero:=[.int .i64,.int .i64,.int .i64,.int .i64,.int .i64,.int .i64,.int .i64,.int .i64,.int .i64,.int .u64,.int .u64,.int .i64,.int .i64,.int .i64,.int .i64,.int .i64,.int .i64,.int .u64,.int .i64,.int .i64,.int .i64,.int .i64,.int .i64,.int .i64,.int .i64,.int .i64,.int .i64,.int .i64,.int .i64,.int .u64,.int .u64,.int .i64,.int .i64,.int .i64,.int .i64,.int .i64,.int .i64,.int .u64,.int .i64,.int .i64,.int .i64,.int .i64,.int .i64],bytes:=344,sl:=false,fk:=false,cmp:=true,mp:=false}),
 (150,{size:=1,agg:=false,fields:=[],elem:=3,alen:=0,ty:=none,zero:=[.map],bytes:=8,sl:=false,fk:=false,cmp:=false,mp:=true}),
 (156,{size:=4,agg:=true,fields:=[(0,3),(1,3),(2,27),(3,27)],elem:=0,alen:=0,ty:=some (.named 13),zero:=[.int .i64,.int .i64,.int .u64,.int .u64],bytes:=32,sl:=false,fk:=false,cmp:=true,mp:=false}),
 (167,{size:=1,agg:=false,fields:=[],elem:=0,alen:=0,ty:=none,zero:=[.func],bytes:=8,sl:=false,fk:=true,cmp:=false,mp:=false}),
 (169,{size:=8,agg:=true,fields:=[],elem:=167,alen:=8,ty:=none,zero:=[.func,.func,.func,.func,.func,.func,.func,.func],bytes:=64,sl:=false,fk:=false,cmp:=false,mp:=false}),
 (171,{size:=56,agg:=true,fields:=[(0,62),(22,47)],elem:=0,alen:=0,ty:=some (.named 15),zero:=[.int .i64,.int .i64,.int .i64,.int .i64,.int .i64,.int .i64,.int .i64,.int .i64,.int .u64,.int .u64,.int .i64,.int .i64,.int .i64,.int .i64,.int .i64,.int .i64,.int .u64,.int .i64,.int .i64,.int .i64,.int .i64,.int .i64,.int .i64,.int .i64,.int .i64,.int .i64,.int .i64,.int .i64,.int .i64,.int .i64,.int .i64,.slice,.int .u64,.slice,.slice,.slice,.int .i64,.slice,.slice,.slice,.int .u64,.int .u64,.int .i64,.int .i64,.bool,.bool,.int .i64,.slice,.int .i64,.int .i64,.int .i64,.slice,.slice,.slice,.int .i64,.int .i64],bytes:=616,sl:=false,fk:=false,cmp:=false,mp:=false}),
 (180,{size:=1,agg:=false,fields:=[],elem:=0,alen:=0,ty:=none,zero:=[.func],bytes:=8,sl:=false,fk:=true,cmp:=false,mp:=false}),
 (181,{size:=1,agg:=false,fields:=[],elem:=180,alen:=0,ty:=none,zero:=[.map],bytes:=8,sl:=false,fk:=false,cmp:=false,mp:=true}),
 (183,{size:=1,agg:=false,fields:=[],elem:=0,alen:=0,ty:=none,zero:=[.func],bytes:=8,sl:=false,fk:=true,cmp:=false,mp:=false}),
 (184,{size:=3,agg:=true,fields:=[],elem:=183,alen:=3,ty:=none,zero:=[.func,.func,.func],bytes:=24,sl:=false,fk:=false,cmp:=false,mp:=false}),
 (185,{size:=1,agg:=false,fields:=[],elem:=187,alen:=0,ty:=none,zero:=[.slice],bytes:=24,sl:=true,fk:=false,cmp:=false,mp:=false}),
 (187,{size:=1,agg:=false,fields:=[],elem:=0,alen:=0,ty:=none,zero:=[.func],bytes:=8,sl:=false,fk:=true,cmp:=false,mp:=false})]
theorem zsC:yX E.leaves Tryz.prog tab=true:=by kernel_rfl
theorem zva:(Tryz.prog).follows .mixedOrders=true:=by kernel_rfl
abbrev L (n:Nat):List SK:=(lvs n).map .val
abbrev vI:SK:= .val zp
abbrev vU:SK:= .val (.int .u64)
abbrev vB:SK:= .val .bool
abbrev vL:SK:= .val z5
abbrev vM:SK:= .val (.slice (.int .u64))
abbrev oI:Grp:= .one zp
abbrev oU:Grp:= .one (.int .u64)
abbrev oB:Grp:= .one .bool
abbrev oL:Grp:= .one z5
abbrev oM:Grp:= .one (.slice (.int .u64))
noncomputable abbrev cf:=zvK (E:=E) Tryz.prog tab
noncomputable abbrev cf1 a:=cf a [] [] [] [] []
noncomputable abbrev sp (C:Cfg E) (fn:Func) (i o:wn) (gi go:List Grp) (hi:ZG E gi=i.holes:=by kernel_rfl) (ho:ZG E go=o.holes:=by kernel_rfl):zM E:=zlc C fn i o gi go hi ho
noncomputable abbrev lo (sl:List Nat) (i:wn) (b:Nat) (bs:List Nat) (bk:wn) (rs:List Nat) (r:wn) (gi gb gr:List Grp) (hi:ZG E gi=i.holes:=by kernel_rfl) (hb:ZG E gb=bk.holes:=by kernel_rfl) (hr:ZG E gr=r.holes:=by kernel_rfl):yf E:={slots:=sl,inn:=i,brkId:=b,bslots:=bs,brk:=bk,rslots:=rs,ret:=r,gi:=grp gi hi,gb:=grp gb hb,gr:=grp gr hr}
end Go.Pe.G
namespace Go.Proofs
open Go.Shelf
def rhoTz:Go.Shelf.Ren:={f:=fun k=>if k=29 then 93 else k,t:=fun k=>if k=22 then 27 else if k=25 then 132 else if k=54 then 179 else k,g:=fun k=>if k=1 then 0 else k}
theorem laysTz:Lays7.n29 Tryz.prog rhoTz:=by
 constructor<;>first | kernel_rfl | (intro w;kernel_rfl)
end Go.Proofs
namespace Go.Pe.G
open Go.Pe Go.Proofs
def zv3 (G:Nat->Prop) (W0:World):Prop:=G 0/\Go.Proofs.TabAt 0 Go.Lib.deBruijn64tab W0
noncomputable def tz (x:zw):Int:=((Go.Lib.ctz 64 x.toNat:Nat):Int)
noncomputable def pTZ:zM E:={inn:=⟨[.val (.int .u64)],[]⟩,out:=⟨[.val zp],[]⟩,gi:=grp [.one (.int .u64)] rfl,go:=grp [.one zp] rfl,F:=fun x=>some (tz x.1,())}
noncomputable def qTZ (a:zw):Option (Int×Unit):=pTZ.F (a,())
theorem zAB (a:zw):qTZ a=some (tz a,()):=rfl
theorem zAu:YV Tryz.prog 93=true:=by kernel_rfl
theorem zxy {G:Nat->Prop}{W0:World}(hG:zv3 G W0):V0 Tryz.prog G W0 93 pTZ:=by
 intro A0 μ w args x y wd S hr hy;obtain ⟨hg,hT⟩:=hG;have hw:w.heap[0]? =W0.heap[0]? :=(wd.glob 0 hg).2;have hx:∃v,args= #[v]/\yz E w (Av A0 μ ([]:List (Blk E))) (.int .u64) v x.1:=by
  have hl:=hr.1;have hl:1=args.toList.length:=hl
  match ha:args.toList,hl with
  | [v],_ =>
   have h1:=hr.2 0 (.v (.int .u64) x.1) v rfl (by rw [ha];rfl);refine ⟨v,?_,?_⟩
   .rw [<-Array.toArray_toList (xs:=args),ha]
   .cases h1 with
    | v _ _ _ h=>exact h
 obtain ⟨v,rfl,hv⟩:=hx;cases hv with
 | int k z =>
 have hz:x.1.toNat<18446744073709551616:=x.1.isLt;have hk:=Go.Proofs.Any7.bits_TrailingZeros64 Go.Proofs.laysTz x.1.toNat hz w (fun _ j hj=>by
  have:=hT j hj;unfold World.cell? at this ⊢;show _=_;have e0:Go.Proofs.rhoTz.g 1=0:=rfl;rw [e0];simp only [hw];exact this)
 have hy:some (tz x.1,())=some y:=hy;injection hy with hy;subst hy;refine hk.mono ?_;rintro e w' ⟨rfl,rfl⟩;refine ⟨[.int .i64 (tz x.1)],A0,μ,rfl,S,?_,Adv.refl _ _,fun _ h=>h,wd.low,fun j ws h=>by simp [pTZ] at h⟩;exact RL.cons (.v _ _ _ (.int .i64 (tz x.1))) RL.nil
noncomputable def VA:Nat->BitVec 64->Option zE
 | 0,_=>none
 | f+1,s=>bif decide (s=0#64) then some [] else (VA f (s&&&(s-1#64))).map fun l=>w64 (tz s+1)::l
def ua (n:Nat):Nat->List Int->List zE
 | 0,_=>[]
 | _+1,[]=>[]
 | f+1,x::l=>(x::l).take n::ua n f ((x::l).drop n)
def zhh (l:zE) (n:Int):Option zy:=bif decide (1<=n)&&decide (n<1000000)&&decide ((l.length:Int)<1000000) then some (ua n.toNat l.length l) else none
end Go.Pe.G
namespace Go.Pe.G
open Go.Pe Go.Proofs
noncomputable section
def zj6:Cfg E:=cf1 []
def zas:zM E:=sp zj6 Tryz.f36 ⟨[vU],[]⟩ ⟨[vI],[]⟩ [oU] [oI]
def zeR (a1:zw):Option (Int×Unit):=zas.F (a1,())
def zrR:Cfg E:=cf1 [(36,[zas])]
def zez:zM E:=sp zrR Tryz.f10 ⟨[vU],[]⟩ ⟨[vI],[]⟩ [oU] [oI]
def zeG (a1:zw):Option (Int×Unit):=zez.F (a1,())
def zpn:Cfg E:=cf1 []
def UE:zM E:=sp zpn Tryz.f50 ⟨[vI,vI,vI],[]⟩ ⟨[vB],[]⟩ [oI,oI,oI] [oB]
def uI (a1:Int) (a2:Int) (a3:Int):Option (Bool×Unit):=UE.F (a1,a2,a3,())
def zk2:Cfg E:=cf1 [(50,[UE])]
def za8:zM E:=sp zk2 Tryz.f48 ⟨[.val (.named 3)],[]⟩ ⟨[vB],[]⟩ [.one (.named 3)] [oB]
def zbg (a1:zc):Option (Bool×Unit):=za8.F (a1,())
def zl9:Cfg E:=cf1 []
def zbL:zM E:=sp zl9 Tryz.f83 ⟨[vI,.ptr 0],[.box false [vI,.val zQ]]⟩ ⟨[vB],[.gone]⟩ [oI,.str 2] [oB]
def zhn (a1:Int) (a2:zC):Option (Bool×Unit):=zbL.F (a1,a2,())
def uD:yf E:=lo [0,1,7,8] ⟨[vL,.fn 83 [.ptr 1],vI,vI],[.gone,.box false [vI,.val zQ]]⟩ 0 [] ⟨[],[.gone]⟩ [4] ⟨[vI],[.gone]⟩ [oL,oI,oI,.str 2] [] [oI]
def wP:Cfg E:=cf [(83,[zbL])] [(2,uD)] [] [] [] []
def vc:zM E:=sp wP Tryz.f85 ⟨[vL,.fn 83 [.ptr 0]],[.box false [vI,.val zQ]]⟩ ⟨[vI],[.gone]⟩ [oL,.str 2] [oI]
def Za (a1:zE) (a2:zC):Option (Int×Unit):=vc.F (a1,a2,())
def uG (x:zE×Int×Int×zC×Unit):Option (xJ (zE×Int×Int×zC×Unit) (Unit) (Int×Unit)):=yQ wP (exec wP (xD Tryz.f85 2)) 19 uD x
def Xm:Cfg E:=cf1 [(85,[vc])]
def wI:zM E:=sp Xm Tryz.f53 ⟨[vL,.fn 83 [.ptr 0]],[.box false [vI,.val zQ]]⟩ ⟨[vB],[.gone]⟩ [oL,.str 2] [oB]
def wJ (a1:zE) (a2:zC):Option (Bool×Unit):=wI.F (a1,a2,())
def znS:Cfg E:=cf1 [(53,[wI])]
def zeb:zM E:=sp znS Tryz.f82 ⟨[vL,.ptr 0],[.box false [vI,.val zQ]]⟩ ⟨[vB],[.gone]⟩ [oL,.str 2] [oB]
def zjH (a1:zE) (a2:zC):Option (Bool×Unit):=zeb.F (a1,a2,())
def uA:yf E:=lo [0,1,7,8] ⟨[.val zQ,.fn 82 [.ptr 1],vI,vI],[.gone,.box false [vI,.val zQ]]⟩ 0 [] ⟨[],[.gone]⟩ [4] ⟨[vI],[.gone]⟩ [.one zQ,oI,oI,.str 2] [] [oI]
def wQ:Cfg E:=cf [(82,[zeb])] [(2,uA)] [] [] [] []
def va:zM E:=sp wQ Tryz.f116 ⟨[.val zQ,.fn 82 [.ptr 0]],[.box false [vI,.val zQ]]⟩ ⟨[vI],[.gone]⟩ [.one zQ,.str 2] [oI]
def u7 (a1:zy) (a2:zC):Option (Int×Unit):=va.F (a1,a2,())
def uE (x:zy×Int×Int×zC×Unit):Option (xJ (zy×Int×Int×zC×Unit) (Unit) (Int×Unit)):=yQ wQ (exec wQ (xD Tryz.f116 2)) 19 uA x
def Xk:Cfg E:=cf1 [(116,[va])]
def wF:zM E:=sp Xk Tryz.f84 ⟨[.val zQ,.fn 82 [.ptr 0]],[.box false [vI,.val zQ]]⟩ ⟨[vB],[.gone]⟩ [.one zQ,.str 2] [oB]
def wH (a1:zy) (a2:zC):Option (Bool×Unit):=wF.F (a1,a2,())
def zp0:Cfg E:=cf1 [(84,[wF])]
def zhD:zM E:=sp zp0 Tryz.f49 ⟨[.val (.named 2)],[]⟩ ⟨[vB],[]⟩ [.one (.named 2)] [oB]
def zgw (a1:zC):Option (Bool×Unit):=zhD.F (a1,())
def zrE:Cfg E:=cf1 []
def ziT:zM E:=sp zrE Tryz.f51 ⟨[vU,vU],[]⟩ ⟨[vB],[]⟩ [oU,oU] [oB]
def zm6 (a1:zw) (a2:zw):Option (Bool×Unit):=ziT.F (a1,a2,())
def zrP:Cfg E:=cf1 []
def zel:zM E:=sp zrP Tryz.f52 ⟨[vI],[]⟩ ⟨[vU],[]⟩ [oI] [oU]
def zej (a1:Int):Option (zw×Unit):=zel.F (a1,())
def znx:Cfg E:=cf1 [(50,[UE])]
def zdV:zM E:=sp znx Tryz.f54 ⟨[vI,.ptr 0],[.box false [vI]]⟩ ⟨[vB],[.gone]⟩ [oI,oI] [oB]
def zjk (a1:Int) (a2:Int):Option (Bool×Unit):=zdV.F (a1,a2,())
def uY:yf E:=lo [0,1,7,8] ⟨[vL,.fn 54 [.ptr 1],vI,vI],[.gone,.box false [vI]]⟩ 0 [] ⟨[],[.gone]⟩ [4] ⟨[vI],[.gone]⟩ [oL,oI,oI,oI] [] [oI]
def vb:Cfg E:=cf [(54,[zdV])] [(2,uY)] [] [] [] []
def vo:zM E:=sp vb Tryz.f85 ⟨[vL,.fn 54 [.ptr 0]],[.box false [vI]]⟩ ⟨[vI],[.gone]⟩ [oL,oI] [oI]
def Zn (a1:zE) (a2:Int):Option (Int×Unit):=vo.F (a1,a2,())
def uW (x:zE×Int×Int×Int×Unit):Option (xJ (zE×Int×Int×Int×Unit) (Unit) (Int×Unit)):=yQ vb (exec vb (xD Tryz.f85 2)) 19 uY x
def XL:Cfg E:=cf1 [(85,[vo])]
def wU:zM E:=sp XL Tryz.f53 ⟨[vL,.fn 54 [.ptr 0]],[.box false [vI]]⟩ ⟨[vB],[.gone]⟩ [oL,oI] [oB]
def wT (a1:zE) (a2:Int):Option (Bool×Unit):=wU.F (a1,a2,())
def znU:Cfg E:=cf1 []
def zdW:zM E:=sp znU Tryz.f118 ⟨[vI,.ptr 0],[.box false [vI]]⟩ ⟨[vB],[.gone]⟩ [oI,oI] [oB]
def yq (a1:Int) (a2:Int):Option (Bool×Unit):=zdW.F (a1,a2,())
def zpV:Cfg E:=cf1 [(118,[zdW])]
def zgJ:zM E:=sp zpV Tryz.f88 ⟨[.val (.named 0),vI,vI],[]⟩ ⟨[vB],[]⟩ [.one (.named 0),oI,oI] [oB]
def zgK (a1:zr) (a2:Int) (a3:Int):Option (Bool×Unit):=zgJ.F (a1,a2,a3,())
def zoH:Cfg E:=cf1 [(88,[zgJ])]
def zfu:zM E:=sp zoH Tryz.f87 ⟨[.val (.named 0),.ptr 0,.ptr 1],[.box false [vI],.box false [vI]]⟩ ⟨[vB],[.gone,.gone]⟩ [.one (.named 0),oI,oI] [oB]
def zkO (a1:zr) (a2:Int) (a3:Int):Option (Bool×Unit):=zfu.F (a1,a2,a3,())
def vV:yf E:=lo [0,1,7,8] ⟨[.val (.slice (.named 0)),.fn 87 [.ptr 2,.ptr 3],vI,vI],[.gone,.gone,.box false [vI],.box false [vI]]⟩ 0 [] ⟨[],[.gone,.gone]⟩ [4] ⟨[vI],[.gone,.gone]⟩ [.one (.slice (.named 0)),oI,oI,oI,oI] [] [oI]
def xW:Cfg E:=cf [(87,[zfu])] [(2,vV)] [] [] [] []
def wo:zM E:=sp xW Tryz.f117 ⟨[.val (.slice (.named 0)),.fn 87 [.ptr 0,.ptr 1]],[.box false [vI],.box false [vI]]⟩ ⟨[vI],[.gone,.gone]⟩ [.one (.slice (.named 0)),oI,oI] [oI]
def uo (a1:List zr) (a2:Int) (a3:Int):Option (Int×Unit):=wo.F (a1,a2,a3,())
def vW (x:(List zr)×Int×Int×Int×Int×Unit):Option (xJ ((List zr)×Int×Int×Int×Int×Unit) (Unit) (Int×Unit)):=yQ xW (exec xW (xD Tryz.f117 2)) 19 vV x
def Yz:Cfg E:=cf1 [(117,[wo])]
def xR:zM E:=sp Yz Tryz.f86 ⟨[.val (.slice (.named 0)),.fn 87 [.ptr 0,.ptr 1]],[.box false [vI],.box false [vI]]⟩ ⟨[vB],[.gone,.gone]⟩ [.one (.slice (.named 0)),oI,oI] [oB]
def vX (a1:List zr) (a2:Int) (a3:Int):Option (Bool×Unit):=xR.F (a1,a2,a3,())
def zrD:Cfg E:=cf1 [(86,[xR])]
def ziN:zM E:=sp zrD Tryz.f55 ⟨[.val (.slice (.named 0)),vI,vI],[]⟩ ⟨[vB],[]⟩ [.one (.slice (.named 0)),oI,oI] [oB]
def ziR (a1:List zr) (a2:Int) (a3:Int):Option (Bool×Unit):=ziN.F (a1,a2,a3,())
def zqm:Cfg E:=cf1 []
def zhr:zM E:=sp zqm Tryz.f91 ⟨[.val (.named 1)],[]⟩ ⟨[vB],[]⟩ [.one (.named 1)] [oB]
def zlr (a1:zu):Option (Bool×Unit):=zhr.F (a1,())
def znN:Cfg E:=cf1 [(91,[zhr])]
def zdC:zM E:=sp znN Tryz.f90 ⟨[.val (.named 1),.ptr 0],[.box false [.map 1],.map [(1,vI),(2,vI)]]⟩ ⟨[vB],[.gone,.gone]⟩ [.one (.named 1),oI,oI] [oB]
def zjK (a1:zu) (a2:Int) (a3:Int):Option (Bool×Unit):=zdC.F (a1,a2,a3,())
def vm:yf E:=lo [0,1,7,8] ⟨[.val (.slice (.named 1)),.fn 90 [.ptr 2],vI,vI],[.gone,.gone,.box false [.map 3],.map [(1,vI),(2,vI)]]⟩ 0 [] ⟨[],[.gone,.gone]⟩ [4] ⟨[vI],[.gone,.gone]⟩ [.one (.slice (.named 1)),oI,oI,oI,oI] [] [oI]
def xK:Cfg E:=cf [(90,[zdC])] [(2,vm)] [] [] [] []
def xO:zM E:=sp xK Tryz.f119 ⟨[.val (.slice (.named 1)),.fn 90 [.ptr 0]],[.box false [.map 1],.map [(1,vI),(2,vI)]]⟩ ⟨[vI],[.gone,.gone]⟩ [.one (.slice (.named 1)),oI,oI] [oI]
def vG (a1:List zu) (a2:Int) (a3:Int):Option (Int×Unit):=xO.F (a1,a2,a3,())
def vl (x:(List zu)×Int×Int×Int×Int×Unit):Option (xJ ((List zu)×Int×Int×Int×Int×Unit) (Unit) (Int×Unit)):=yQ xK (exec xK (xD Tryz.f119 2)) 19 vm x
def ZW:Cfg E:=cf1 [(119,[xO])]
def xH:zM E:=sp ZW Tryz.f89 ⟨[.val (.slice (.named 1)),.fn 90 [.ptr 0]],[.box false [.map 1],.map [(1,vI),(2,vI)]]⟩ ⟨[vB],[.gone,.gone]⟩ [.one (.slice (.named 1)),oI,oI] [oB]
def vn (a1:List zu) (a2:Int) (a3:Int):Option (Bool×Unit):=xH.F (a1,a2,a3,())
def zqb:Cfg E:=cf1 [(89,[xH])]
def zgG:zM E:=sp zqb Tryz.f56 ⟨[.val (.slice (.named 1)),vI,vI],[]⟩ ⟨[vB],[]⟩ [.one (.slice (.named 1)),oI,oI] [oB]
def zhv (a1:List zu) (a2:Int) (a3:Int):Option (Bool×Unit):=zgG.F (a1,a2,a3,())
def zit:yf E:=lo [1,3,51,52,53] ⟨[.ptr 0,.ptr 1,.val zQ,vI,vI],[.box true (L 3),.box true [vI]]⟩ 0 [1] ⟨[.ptr 0],[.box true (L 3)]⟩ [2] ⟨[vB],[]⟩ [.one zQ,oI,oI,.str 3,oI] [.str 3] [oB]
def zd5:Cfg E:=cf [(48,[za8]),(49,[zhD]),(50,[UE]),(51,[ziT]),(52,[zel]),(53,[wU]),(55,[ziN]),(56,[zgG])] [(5,zit)] [] [] [] []
def zhf:zM E:=sp zd5 Tryz.f18 ⟨[.val (.named 3)],[]⟩ ⟨[vB],[]⟩ [.one (.named 3)] [oB]
def zg6 (a1:zc):Option (Bool×Unit):=zhf.F (a1,())
def zib (x:zy×Int×Int×zc×Int×Unit):Option (xJ (zy×Int×Int×zc×Int×Unit) (zc×Unit) (Bool×Unit)):=yQ zd5 (exec zd5 (xD Tryz.f18 5)) 95 zit x
def zut:Cfg E:=cf1 []
def zim:zM E:=sp zut Tryz.f47 ⟨[vI],[]⟩ ⟨[vU],[]⟩ [oI] [oU]
def zih (a1:Int):Option (zw×Unit):=zim.F (a1,())
def zt5:Cfg E:=cf1 [(47,[zim])]
def zaA:zM E:=sp zt5 Tryz.f16 ⟨[vU,vI],[]⟩ ⟨[vU],[]⟩ [oU,oI] [oU]
def zau (a1:zw) (a2:Int):Option (zw×Unit):=zaA.F (a1,a2,())
def zne:yf E:=lo [3,6,7,8] ⟨[vU,vL,vI,vI],[]⟩ 0 [3] ⟨[vU],[]⟩ [] ⟨[],[]⟩ [oU,oL,oI,oI] [oU] []
def zkD:Cfg E:=cf [(16,[zaA])] [(3,zne)] [] [] [] []
def znO:zM E:=sp zkD Tryz.f57 ⟨[vL],[]⟩ ⟨[vU],[]⟩ [oL] [oU]
def znE (a1:zE):Option (zw×Unit):=znO.F (a1,())
def ziV (x:zw×zE×Int×Int×Unit):Option (xJ (zw×zE×Int×Int×Unit) (zw×Unit) (Unit)):=yQ zkD (exec zkD (xD Tryz.f57 3)) 17 zne x
def zh5:yf E:=lo [3,9,10,11] ⟨[vU,.val zQ,vI,vI],[]⟩ 0 [3] ⟨[vU],[]⟩ [] ⟨[],[]⟩ [oU,.one zQ,oI,oI] [oU] []
def zdq:Cfg E:=cf [(57,[znO])] [(3,zh5)] [] [] [] []
def zcA:zM E:=sp zdq Tryz.f19 ⟨[.val (.named 3)],[]⟩ ⟨[vU],[]⟩ [.one (.named 3)] [oU]
def zcS (a1:zc):Option (zw×Unit):=zcA.F (a1,())
def zcJ (x:zw×zy×Int×Int×Unit):Option (xJ (zw×zy×Int×Int×Unit) (zw×Unit) (Unit)):=yQ zdq (exec zdq (xD Tryz.f19 3)) 21 zh5 x
def zqA:Cfg E:=cf1 []
def zhl:zM E:=sp zqA Tryz.f20 ⟨[vI],[]⟩ ⟨[.val (.named 10)],[]⟩ [oI] [.one (.named 10)]
def zgD (a1:Int):Option (zD×Unit):=zhl.F (a1,())
def zgk:Cfg E:=cf1 []
def Yj:zM E:=sp zgk Tryz.f22 ⟨[vL],[]⟩ ⟨[.own 0],[.row true zp]⟩ [oL] [oL]
def uX (a1:zE):Option (zE×Unit):=Yj.F (a1,())
def Zd:yf E:=lo [1,5,14,15] ⟨[.fn 22 [],.own 0,vI,vI],[.row true z5]⟩ 0 [5] ⟨[.own 0],[.row true z5]⟩ [] ⟨[],[]⟩ [oI,oI,.one zQ] [.one zQ] []
def vg:Cfg E:=cf [(22,[Yj])] [(4,Zd)] [] [] [] []
def vD:zM E:=sp vg Tryz.f21 ⟨[.val zQ,.fn 22 []],[]⟩ ⟨[.own 0],[.row true z5]⟩ [.one zQ] [.one zQ]
def vy (a1:zy):Option (zy×Unit):=vD.F (a1,())
def xr (x:Int×Int×zy×Unit):Option (xJ (Int×Int×zy×Unit) (zy×Unit) (Unit)):=yQ vg (exec vg (xD Tryz.f21 4)) 29 Zd x
def zpK:Cfg E:=cf1 []
def zfw:zM E:=sp zpK Tryz.f23 ⟨[vI],[]⟩ ⟨[.own 0],[.row true (.int .u64)]⟩ [oI] [oM]
def zfl (a1:Int):Option ((List zw)×Unit):=zfw.F (a1,())
def zpF:Cfg E:=cf1 []
def Uv:zM E:=sp zpF Tryz.f24 ⟨L 0,[]⟩ ⟨[.val (.named 4)],[]⟩ [oI,oI,oI,oI] [.one (.named 4)]
def zbH (a1:Int) (a2:Int) (a3:Int) (a4:Int):Option (zm×Unit):=Uv.F (a1,a2,a3,a4,())
def zoP:Cfg E:=cf1 []
def Uz:zM E:=sp zoP Tryz.f25 ⟨[.val (.named 3),vI],[]⟩ ⟨[vI],[]⟩ [.one (.named 3),oI] [oI]
def Uy (a1:zc) (a2:Int):Option (Int×Unit):=Uz.F (a1,a2,())
def zrF:Cfg E:=cf1 []
def zi8:zM E:=sp zrF Tryz.f26 ⟨[.val (.named 3)],[]⟩ ⟨[vI],[]⟩ [.one (.named 3)] [oI]
def zeE (a1:zc):Option (Int×Unit):=zi8.F (a1,())
def zf8:Cfg E:=cf1 []
def Wr:zM E:=sp zf8 Tryz.f27 ⟨[vL,vI],[]⟩ ⟨[.fn 58 [.ptr 0,.ptr 1]],[.box true [vL],.box true [vI]]⟩ [oL,oI] [oL,oI]
def za3 (a1:zE) (a2:Int):Option (zE×Int×Unit):=Wr.F (a1,a2,())
def zsE:Cfg E:=cf1 []
def zke:zM E:=sp zsE Tryz.f59 ⟨[vU],[]⟩ ⟨[.fn 92 [.ptr 0]],[.box true [vU]]⟩ [oU] [oU]
def zpa (a1:zw):Option (zw×Unit):=zke.F (a1,())
def zic:yf E:=lo [0,1] ⟨[.yld,.ptr 0],[.box true [vU]]⟩ 0 [0] ⟨[.yld],[]⟩ [0] ⟨[.yld],[]⟩ [oI,oI,oU] [oI,oI] [oI,oI]
def zoE:Cfg E:=cf [(93,[pTZ])] [(0,zic)] [] [] [] []
def zaV (ys:zE):Cfg E:={zoE with yl:=true,ye:=zp,yd:=ys}
def zjN:wn:=⟨[.ptr 0],[.box true [vU]]⟩
def zat:ZT E:={inn:=zjN,e:=zp,F:=fun x=>VA 66 x.1}
def zgz (a1:zw):Option zE:=zat.F (a1,())
def zac (ys:zE) (x:Int×Int×zw×Unit):Option (xJ (Int×Int×zw×Unit) (Int×Int×Unit) (Int×Int×Unit)):=yQ (zaV ys) (exec (zaV ys) (xD Tryz.f92 0)) 15 zic x
def zkT:yf E:=lo [3] ⟨[.ptr 0],[.box true [.own 1],.row true zp]⟩ 0 [] ⟨[],[]⟩ [] ⟨[],[]⟩ [oL] [] []
def zcX:Cfg E:=cf [(59,[zke])] [(3,zkT)] [] [] [] [(92,zat)]
def zgp:zM E:=sp zcX Tryz.f28 ⟨[vU],[]⟩ ⟨[.own 0],[.row true zp]⟩ [oU] [oL]
def zcV (a1:zw):Option (zE×Unit):=zgp.F (a1,())
def zfq (y:Int) (x:zE×Unit):Option (zE×Unit):=zjo zcX (exec zcX (zz8 Tryz.f28 3)) (exec zcX (zxb Tryz.f28 3)) 13 zkT 7 zp y x
def ztx:Cfg E:=cf1 []
def zjR:zM E:=sp ztx Tryz.f120 ⟨[vU],[]⟩ ⟨[vU,vB],[]⟩ [oU] [oU,oB]
def zos (a1:zw):Option (zw×Bool×Unit):=zjR.F (a1,())
def zsR:Cfg E:=cf1 []
def zj8:zM E:=sp zsR Tryz.f121 ⟨[vU,.ptr 0],[.box false (L 13)]⟩ ⟨[vU,vB],[.gone]⟩ [oU,.str 13] [oU,oB]
def zpA (a1:zw) (a2:Z7):Option (zw×Bool×Unit):=zj8.F (a1,a2,())
def zss:Cfg E:=cf1 []
def zkM:zM E:=sp zss Tryz.f122 ⟨[vU,.ptr 0],[.box false (L 13)]⟩ ⟨[vU,vB],[.gone]⟩ [oU,.str 13] [oU,oB]
def zoM (a1:zw) (a2:Z7):Option (zw×Bool×Unit):=zkM.F (a1,a2,())
def zsK:Cfg E:=cf1 []
def zj9:zM E:=sp zsK Tryz.f123 ⟨[vU,.ptr 0],[.box false (L 13)]⟩ ⟨[vU,vB],[.gone]⟩ [oU,.str 13] [oU,oB]
def zoq (a1:zw) (a2:Z7):Option (zw×Bool×Unit):=zj9.F (a1,a2,())
def zci:Cfg E:=cf1 []
def Yc:zM E:=sp zci Tryz.f124 ⟨[vM],[]⟩ ⟨[.own 0],[.row true (.int .u64)]⟩ [oM] [oM]
def we (a1:List zw):Option ((List zw)×Unit):=Yc.F (a1,())
def zvb:Cfg E:=cf1 [(120,[zjR]),(121,[zj8]),(122,[zkM]),(123,[zj9]),(124,[Yc])]
def zaF:zM E:=sp zvb Tryz.f94 ⟨[vM,.val (.named 13)],[]⟩ ⟨[vM,vU,vB],[]⟩ [oM,.one (.named 13)] [oM,oU,oB]
def XV (a1:List zw) (a2:Z7):Option ((List zw)×zw×Bool×Unit):=zaF.F (a1,a2,())
def zoz:Cfg E:=cf1 [(94,[zaF])]
def zbJ:zM E:=sp zoz Tryz.f60 ⟨[vM,vI,vU],[]⟩ ⟨[vM],[]⟩ [oM,oI,oU] [oM]
def YR (a1:List zw) (a2:Int) (a3:zw):Option ((List zw)×Unit):=zbJ.F (a1,a2,a3,())
def zp5:Cfg E:=cf1 []
def zcq:zM E:=sp zp5 Tryz.f61 ⟨[vU,vI],[]⟩ ⟨[vU],[]⟩ [oU,oI] [oU]
def VM (a1:zw) (a2:Int):Option (zw×Unit):=zcq.F (a1,a2,())
def zjB:yf E:=lo [0,1,2,3,13,14] ⟨[vM,vI,vI,vL,vI,vI],[]⟩ 0 [0,1,3] ⟨[vM,vI,vL],[]⟩ [] ⟨[],[]⟩ [oM,oI,oI,oL,oI,oI] [oM,oI,oL] []
def zfy:Cfg E:=cf [(60,[zbJ]),(61,[zcq])] [(2,zjB)] [] [] [] []
def zi2:zM E:=sp zfy Tryz.f29 ⟨[vM,vI,vI,vL],[]⟩ ⟨[vM],[]⟩ [oM,oI,oI,oL] [oM]
def zey (a1:List zw) (a2:Int) (a3:Int) (a4:zE):Option ((List zw)×Unit):=zi2.F (a1,a2,a3,a4,())
def zdJ (x:(List zw)×Int×Int×zE×Int×Int×Unit):Option (xJ ((List zw)×Int×Int×zE×Int×Int×Unit) ((List zw)×Int×zE×Unit) (Unit)):=yQ zfy (exec zfy (xD Tryz.f29 2)) 49 zjB x
def zpT:Cfg E:=cf1 []
def VK:zM E:=sp zpT Tryz.f30 ⟨[.val (.named 3)],[]⟩ ⟨[vI],[]⟩ [.one (.named 3)] [oI]
def VJ (a1:zc):Option (Int×Unit):=VK.F (a1,())
def zpr:Cfg E:=cf1 [(30,[VK])]
def WC:zM E:=sp zpr Tryz.f32 ⟨[.val (.named 3)],[]⟩ ⟨[vI],[]⟩ [.one (.named 3)] [oI]
def WL (a1:zc):Option (Int×Unit):=WC.F (a1,())
def zpZ:Cfg E:=cf1 [(32,[WC])]
def VS:zM E:=sp zpZ Tryz.f31 ⟨[.val (.named 3)],[]⟩ ⟨[vI],[]⟩ [.one (.named 3)] [oI]
def XS (a1:zc):Option (Int×Unit):=VS.F (a1,())
def Vq:yf E:=lo [0,1,2,4] ⟨[.yld,.ptr 0,.ptr 1,vI],[.box true [vL],.box true [vI]]⟩ 0 [0] ⟨[.yld],[]⟩ [0] ⟨[.yld],[]⟩ [oI,oI,oI,oL,oI] [oI,oI] [oI,oI]
def zdb:Cfg E:=cf [] [(1,Vq)] [] [] [] []
def uT (ys:zy):Cfg E:={zdb with yl:=true,ye:=z5,yd:=ys}
def Vy:wn:=⟨[.ptr 0,.ptr 1],[.box true [vL],.box true [vI]]⟩
def vZ:ZT E:={inn:=Vy,e:=z5,F:=fun x=>zhh x.1 x.2.1}
def UC (a1:zE) (a2:Int):Option zy:=vZ.F (a1,a2,())
def uz (ys:zy) (x:Int×Int×Int×zE×Int×Unit):Option (xJ (Int×Int×Int×zE×Int×Unit) (Int×Int×Unit) (Int×Int×Unit)):=yQ (uT ys) (exec (uT ys) (xD Tryz.f58 1)) 31 Vq x
def zjn:yf E:=lo [1,2,3,4,37,38] ⟨[.ptr 0,.ptr 1,vU,.ptr 2,vI,vI],[.box true (L 3),.box true (L 16++[vI,.own 3,vU,.own 4,.own 5,.own 6,vI,.own 7,.own 8,.own 9,vU,vU,vI,vI,vB,vB,vI,.own 10,vI,vI,vI,.own 11,.own 12,.own 13,vI,vI]),.box true (L 3++[vI,.own 14,.own 15,.own 16,vU,vU,vI,vI,vB,vB,vI,.own 17]++L 10++[.own 18,.own 19,vI,vI]),.row true z5,.row true z5,.row true (.slice (.named 0)),.row true (.named 1),.row true z5,.row true (.int .u64),.row true z5,.row true zp,.row true zp,.row true (.named 7),.row true (.named 8),.row true z5,.row true (.int .u64),.row true z5,.row true zp,.row true (.named 7),.row true (.named 8)]⟩ 0 [1,2,3,4] ⟨[.ptr 0,.ptr 1,vU,.ptr 2],[.box true (L 3),.box true (L 16++[vI,.own 3,vU,.own 4,.own 5,.own 6,vI,.own 7,.own 8,.own 9,vU,vU,vI,vI,vB,vB,vI,.own 10,vI,vI,vI,.own 11,.own 12,.own 13,vI,vI]),.box true (L 3++[vI,.own 14,.own 15,.own 16,vU,vU,vI,vI,vB,vB,vI,.own 17]++L 10++[.own 18,.own 19,vI,vI]),.row true z5,.row true z5,.row true (.slice (.named 0)),.row true (.named 1),.row true z5,.row true (.int .u64),.row true z5,.row true zp,.row true zp,.row true (.named 7),.row true (.named 8),.row true z5,.row true (.int .u64),.row true z5,.row true zp,.row true (.named 7),.row true (.named 8)]⟩ [] ⟨[],[]⟩ [oU,oI,oI,.str 3,oI,oI,oI,oI,oI,oI,oI,oI,oI,oU,oI,.str 9,oI,oI,oB,oB,oI,oI,oI,oI,.str 11,.str 3,oI,.str 9,oI,oI,oB,oB,oI,.str 10,.str 11,.one zQ,.one zQ,.one (.slice (.slice (.named 0))),.one (.slice (.named 1)),.one zQ,oM,.one zQ,oL,oL,.one (.slice (.named 7)),.one (.slice (.named 8)),.one zQ,oM,.one zQ,oL,.one (.slice (.named 7)),.one (.slice (.named 8))] [oU,.str 3,oI,oI,oI,oI,oI,oI,oI,oI,oI,oU,oI,.str 9,oI,oI,oB,oB,oI,oI,oI,oI,.str 11,.str 3,oI,.str 9,oI,oI,oB,oB,oI,.str 10,.str 11,.one zQ,.one zQ,.one (.slice (.slice (.named 0))),.one (.slice (.named 1)),.one zQ,oM,.one zQ,oL,oL,.one (.slice (.named 7)),.one (.slice (.named 8)),.one zQ,oM,.one zQ,oL,.one (.slice (.named 7)),.one (.slice (.named 8))] []
def zii:yf E:=lo [1,2,3,4,6,72,73] ⟨[.ptr 0,.ptr 1,vU,.ptr 2,.own 3,vI,vI],[.box true (L 3),.box true (L 16++[vI,.own 4,vU,.own 5,.own 6,.own 7,vI,.own 8,.own 9,.own 10,vU,vU,vI,vI,vB,vB,vI,.own 11,vI,vI,vI,.own 12,.own 13,.own 14,vI,vI]),.box true (L 3++[vI,.own 15,.own 16,.own 17,vU,vU,vI,vI,vB,vB,vI,.own 18]++L 10++[.own 19,.own 20,vI,vI]),.row true zp,.row true z5,.row true z5,.row true (.slice (.named 0)),.row true (.named 1),.row true z5,.row true (.int .u64),.row true z5,.row true zp,.row true zp,.row true (.named 7),.row true (.named 8),.row true z5,.row true (.int .u64),.row true z5,.row true zp,.row true (.named 7),.row true (.named 8)]⟩ 2 [1,2,3,4,6] ⟨[.ptr 0,.ptr 1,vU,.ptr 2,.own 3],[.box true (L 3),.box true (L 16++[vI,.own 4,vU,.own 5,.own 6,.own 7,vI,.own 8,.own 9,.own 10,vU,vU,vI,vI,vB,vB,vI,.own 11,vI,vI,vI,.own 12,.own 13,.own 14,vI,vI]),.box true (L 3++[vI,.own 15,.own 16,.own 17,vU,vU,vI,vI,vB,vB,vI,.own 18]++L 10++[.own 19,.own 20,vI,vI]),.row true zp,.row true z5,.row true z5,.row true (.slice (.named 0)),.row true (.named 1),.row true z5,.row true (.int .u64),.row true z5,.row true zp,.row true zp,.row true (.named 7),.row true (.named 8),.row true z5,.row true (.int .u64),.row true z5,.row true zp,.row true (.named 7),.row true (.named 8)]⟩ [] ⟨[],[]⟩ [oU,oI,oI,.str 3,oI,oI,oI,oI,oI,oI,oI,oI,oI,oU,oI,.str 9,oI,oI,oB,oB,oI,oI,oI,oI,.str 11,.str 3,oI,.str 9,oI,oI,oB,oB,oI,.str 10,.str 11,oL,.one zQ,.one zQ,.one (.slice (.slice (.named 0))),.one (.slice (.named 1)),.one zQ,oM,.one zQ,oL,oL,.one (.slice (.named 7)),.one (.slice (.named 8)),.one zQ,oM,.one zQ,oL,.one (.slice (.named 7)),.one (.slice (.named 8))] [oU,.str 3,oI,oI,oI,oI,oI,oI,oI,oI,oI,oU,oI,.str 9,oI,oI,oB,oB,oI,oI,oI,oI,.str 11,.str 3,oI,.str 9,oI,oI,oB,oB,oI,.str 10,.str 11,oL,.one zQ,.one zQ,.one (.slice (.slice (.named 0))),.one (.slice (.named 1)),.one zQ,oM,.one zQ,oL,oL,.one (.slice (.named 7)),.one (.slice (.named 8)),.one zQ,oM,.one zQ,oL,.one (.slice (.named 7)),.one (.slice (.named 8))] []
def ziv:yf E:=lo [1,2,4,6] ⟨[.ptr 0,.ptr 1,.ptr 2,.own 3],[.box true (L 3),.box true (L 16++[vI,.own 4,vU,.own 5,.own 6,.own 7,vI,.own 8,.own 9,.own 10,vU,vU,vI,vI,vB,vB,vI,.own 11,vI,vI,vI,.own 12,.own 13,.own 14,vI,vI]),.box true (L 3++[vI,.own 15,.own 16,.own 17,vU,vU,vI,vI,vB,vB,vI,.own 18]++L 10++[.own 19,.own 20,vI,vI]),.row true zp,.row true z5,.row true z5,.row true (.slice (.named 0)),.row true (.named 1),.row true z5,.row true (.int .u64),.row true z5,.row true zp,.row true zp,.row true (.named 7),.row true (.named 8),.row true z5,.row true (.int .u64),.row true z5,.row true zp,.row true (.named 7),.row true (.named 8)]⟩ 0 [] ⟨[],[]⟩ [] ⟨[],[]⟩ [.str 3,oI,oI,oI,oI,oI,oI,oI,oI,oI,oU,oI,.str 9,oI,oI,oB,oB,oI,oI,oI,oI,.str 11,.str 3,oI,.str 9,oI,oI,oB,oB,oI,.str 10,.str 11,oL,.one zQ,.one zQ,.one (.slice (.slice (.named 0))),.one (.slice (.named 1)),.one zQ,oM,.one zQ,oL,oL,.one (.slice (.named 7)),.one (.slice (.named 8)),.one zQ,oM,.one zQ,oL,.one (.slice (.named 7)),.one (.slice (.named 8))] [] []
def zin:yf E:=lo [2,4,134,135,136] ⟨[.ptr 0,.ptr 1,.val zQ,vI,vI],[.box true (L 16++[vI,.own 2,vU,.own 3,.own 4,.own 5,vI,.own 6,.own 7,.own 8,vU,vU,vI,vI,vB,vB,vI,.own 9,vI,vI,vI,.own 10,.own 11,.own 12,vI,vI]),.box true (L 3++[vI,.own 13,vM,.own 14,vU,vU,vI,vI,vB,vB,vI,.own 15]++L 10++[.own 16,.own 17,vI,vI]),.row true z5,.row true z5,.row true (.slice (.named 0)),.row true (.named 1),.row true z5,.row true (.int .u64),.row true z5,.row true zp,.row true zp,.row true (.named 7),.row true (.named 8),.row true z5,.row true z5,.row true zp,.row true (.named 7),.row true (.named 8)]⟩ 6 [2,4] ⟨[.ptr 0,.ptr 1],[.box true (L 16++[vI,.own 2,vU,.own 3,.own 4,.own 5,vI,.own 6,.own 7,.own 8,vU,vU,vI,vI,vB,vB,vI,.own 9,vI,vI,vI,.own 10,.own 11,.own 12,vI,vI]),.box true (L 3++[vI,.own 13,vM,.own 14,vU,vU,vI,vI,vB,vB,vI,.own 15]++L 10++[.own 16,.own 17,vI,vI]),.row true z5,.row true z5,.row true (.slice (.named 0)),.row true (.named 1),.row true z5,.row true (.int .u64),.row true z5,.row true zp,.row true zp,.row true (.named 7),.row true (.named 8),.row true z5,.row true z5,.row true zp,.row true (.named 7),.row true (.named 8)]⟩ [] ⟨[],[]⟩ [.one zQ,oI,oI,oI,oI,oI,oI,oI,oI,oI,oI,oI,oU,oI,.str 9,oI,oI,oB,oB,oI,oI,oI,oI,.str 11,.str 3,oI,oM,.str 9,oI,oI,oB,oB,oI,.str 10,.str 11,.one zQ,.one zQ,.one (.slice (.slice (.named 0))),.one (.slice (.named 1)),.one zQ,oM,.one zQ,oL,oL,.one (.slice (.named 7)),.one (.slice (.named 8)),.one zQ,.one zQ,oL,.one (.slice (.named 7)),.one (.slice (.named 8))] [oI,oI,oI,oI,oI,oI,oI,oI,oI,oU,oI,.str 9,oI,oI,oB,oB,oI,oI,oI,oI,.str 11,.str 3,oI,oM,.str 9,oI,oI,oB,oB,oI,.str 10,.str 11,.one zQ,.one zQ,.one (.slice (.slice (.named 0))),.one (.slice (.named 1)),.one zQ,oM,.one zQ,oL,oL,.one (.slice (.named 7)),.one (.slice (.named 8)),.one zQ,.one zQ,oL,.one (.slice (.named 7)),.one (.slice (.named 8))] []
def uH:Cfg E:=cf [(10,[zez]),(18,[zhf]),(19,[zcA]),(20,[zhl]),(21,[vD]),(22,[Yj]),(23,[zfw]),(24,[Uv]),(25,[Uz]),(26,[zi8]),(27,[Wr]),(28,[zgp]),(29,[zi2]),(30,[VK]),(31,[VS]),(32,[WC])] [(7,zjn),(15,zii),(20,ziv),(28,zin)] [] [] [] [(58,vZ)]
def zeu:zM E:=sp uH Tryz.f7 ⟨[.val (.named 3)],[]⟩ ⟨[.val (.named 12)],[]⟩ [.one (.named 3)] [.one (.named 12)]
def zeF (a1:zc):Option (za×Unit):=zeu.F (a1,())
def zaS (x:zw×Int×Int×zc×Int×Int×Int×Int×Int×Int×Int×Int×Int×zw×Int×zA×Int×Int×Bool×Bool×Int×Int×Int×Int×zF×zc×Int×zA×Int×Int×Bool×Bool×Int×zD×zF×zy×zy×(List (List zr))×(List zu)×zy×(List zw)×zy×zE×zE×(List zh)×(List zg)×zy×(List zw)×zy×zE×(List zh)×(List zg)×Unit):Option (xJ (zw×Int×Int×zc×Int×Int×Int×Int×Int×Int×Int×Int×Int×zw×Int×zA×Int×Int×Bool×Bool×Int×Int×Int×Int×zF×zc×Int×zA×Int×Int×Bool×Bool×Int×zD×zF×zy×zy×(List (List zr))×(List zu)×zy×(List zw)×zy×zE×zE×(List zh)×(List zg)×zy×(List zw)×zy×zE×(List zh)×(List zg)×Unit) (zw×zc×Int×Int×Int×Int×Int×Int×Int×Int×Int×zw×Int×zA×Int×Int×Bool×Bool×Int×Int×Int×Int×zF×zc×Int×zA×Int×Int×Bool×Bool×Int×zD×zF×zy×zy×(List (List zr))×(List zu)×zy×(List zw)×zy×zE×zE×(List zh)×(List zg)×zy×(List zw)×zy×zE×(List zh)×(List zg)×Unit) (Unit)):=yQ uH (exec uH (xD Tryz.f7 7)) 150 zjn x
def zab (x:zw×Int×Int×zc×Int×Int×Int×Int×Int×Int×Int×Int×Int×zw×Int×zA×Int×Int×Bool×Bool×Int×Int×Int×Int×zF×zc×Int×zA×Int×Int×Bool×Bool×Int×zD×zF×zE×zy×zy×(List (List zr))×(List zu)×zy×(List zw)×zy×zE×zE×(List zh)×(List zg)×zy×(List zw)×zy×zE×(List zh)×(List zg)×Unit):Option (xJ (zw×Int×Int×zc×Int×Int×Int×Int×Int×Int×Int×Int×Int×zw×Int×zA×Int×Int×Bool×Bool×Int×Int×Int×Int×zF×zc×Int×zA×Int×Int×Bool×Bool×Int×zD×zF×zE×zy×zy×(List (List zr))×(List zu)×zy×(List zw)×zy×zE×zE×(List zh)×(List zg)×zy×(List zw)×zy×zE×(List zh)×(List zg)×Unit) (zw×zc×Int×Int×Int×Int×Int×Int×Int×Int×Int×zw×Int×zA×Int×Int×Bool×Bool×Int×Int×Int×Int×zF×zc×Int×zA×Int×Int×Bool×Bool×Int×zD×zF×zE×zy×zy×(List (List zr))×(List zu)×zy×(List zw)×zy×zE×zE×(List zh)×(List zg)×zy×(List zw)×zy×zE×(List zh)×(List zg)×Unit) (Unit)):=yQ uH (exec uH (xD Tryz.f7 15)) 150 zii x
def zc9 (y:zE) (x:zc×Int×Int×Int×Int×Int×Int×Int×Int×Int×zw×Int×zA×Int×Int×Bool×Bool×Int×Int×Int×Int×zF×zc×Int×zA×Int×Int×Bool×Bool×Int×zD×zF×zE×zy×zy×(List (List zr))×(List zu)×zy×(List zw)×zy×zE×zE×(List zh)×(List zg)×zy×(List zw)×zy×zE×(List zh)×(List zg)×Unit):Option (zc×Int×Int×Int×Int×Int×Int×Int×Int×Int×zw×Int×zA×Int×Int×Bool×Bool×Int×Int×Int×Int×zF×zc×Int×zA×Int×Int×Bool×Bool×Int×zD×zF×zE×zy×zy×(List (List zr))×(List zu)×zy×(List zw)×zy×zE×zE×(List zh)×(List zg)×zy×(List zw)×zy×zE×(List zh)×(List zg)×Unit):=zjo uH (exec uH (zz8 Tryz.f7 20)) (exec uH (zxb Tryz.f7 20)) 150 ziv 87 z5 y x
def U8 (x:zy×Int×Int×Int×Int×Int×Int×Int×Int×Int×Int×Int×zw×Int×zA×Int×Int×Bool×Bool×Int×Int×Int×Int×zF×zc×Int×(List zw)×zA×Int×Int×Bool×Bool×Int×zD×zF×zy×zy×(List (List zr))×(List zu)×zy×(List zw)×zy×zE×zE×(List zh)×(List zg)×zy×zy×zE×(List zh)×(List zg)×Unit):Option (xJ (zy×Int×Int×Int×Int×Int×Int×Int×Int×Int×Int×Int×zw×Int×zA×Int×Int×Bool×Bool×Int×Int×Int×Int×zF×zc×Int×(List zw)×zA×Int×Int×Bool×Bool×Int×zD×zF×zy×zy×(List (List zr))×(List zu)×zy×(List zw)×zy×zE×zE×(List zh)×(List zg)×zy×zy×zE×(List zh)×(List zg)×Unit) (Int×Int×Int×Int×Int×Int×Int×Int×Int×zw×Int×zA×Int×Int×Bool×Bool×Int×Int×Int×Int×zF×zc×Int×(List zw)×zA×Int×Int×Bool×Bool×Int×zD×zF×zy×zy×(List (List zr))×(List zu)×zy×(List zw)×zy×zE×zE×(List zh)×(List zg)×zy×zy×zE×(List zh)×(List zg)×Unit) (Unit)):=yQ uH (exec uH (xD Tryz.f7 28)) 150 zin x
def zpL:Cfg E:=cf1 [(94,[zaF])]
def zc1:zM E:=sp zpL Tryz.f134 ⟨[vM,vI],[]⟩ ⟨[vU],[]⟩ [oM,oI] [oU]
def zcz (a1:List zw) (a2:Int):Option (zw×Unit):=zc1.F (a1,a2,())
def zpU:Cfg E:=cf1 []
def VN:zM E:=sp zpU Tryz.f135 ⟨[vU],[]⟩ ⟨[vI],[]⟩ [oU] [oI]
def XF (a1:zw):Option (Int×Unit):=VN.F (a1,())
def zgS:Cfg E:=cf [(134,[zc1]),(135,[VN])] [] [] [(0,some 0)] [] []
def Vn:zM E:=sp zgS Tryz.f125 ⟨[.ptr 0,vM],[.box true (L 5)]⟩ ⟨[vM],[.box true (L 5)]⟩ [oM,.str 5] [oM,.str 5]
def ud (a1:List zw) (a2:zJ):Option ((List zw)×zJ×Unit):=Vn.F (a1,a2,())
def ziA:Cfg E:=cf1 [(60,[zbJ]),(135,[VN])]
def Un:zM E:=sp ziA Tryz.f126 ⟨[.ptr 0,vM],[.box false (L 5)]⟩ ⟨[vM],[.gone]⟩ [oM,.str 5] [oM]
def Xg (a1:List zw) (a2:zJ):Option ((List zw)×Unit):=Un.F (a1,a2,())
def zf5:Cfg E:=cf [(61,[zcq]),(94,[zaF]),(135,[VN])] [] [] [(0,some 0)] [] []
def Wt:zM E:=sp zf5 Tryz.f127 ⟨[.ptr 0,vM],[.box true (L 5)]⟩ ⟨[vM],[.box true (L 5)]⟩ [oM,.str 5] [oM,.str 5]
def vN (a1:List zw) (a2:zJ):Option ((List zw)×zJ×Unit):=Wt.F (a1,a2,())
def zeL:Cfg E:=cf [(134,[zc1]),(135,[VN])] [] [] [(0,some 0)] [] []
def Xn:zM E:=sp zeL Tryz.f128 ⟨[.ptr 0,vM],[.box true (L 5)]⟩ ⟨[vM],[.box true (L 5)]⟩ [oM,.str 5] [oM,.str 5]
def ZE (a1:List zw) (a2:zJ):Option ((List zw)×zJ×Unit):=Xn.F (a1,a2,())
def zqM:Cfg E:=cf1 [(125,[Vn]),(126,[Un]),(127,[Wt]),(128,[Xn])]
def zaw:zM E:=sp zqM Tryz.f95 ⟨[vM,.val (.named 5)],[]⟩ ⟨[vM,.val (.named 5)],[]⟩ [oM,.one (.named 5)] [oM,.one (.named 5)]
def zak (a1:List zw) (a2:zJ):Option ((List zw)×zJ×Unit):=zaw.F (a1,a2,())
def zi9:Cfg E:=cf [(95,[zaw])] [] [] [(0,some 0)] [] []
def V2:zM E:=sp zi9 Tryz.f62 ⟨[.ptr 0],[.box true (L 14)]⟩ ⟨[vI],[.box true (L 14)]⟩ [.str 14] [oI,.str 14]
def uR (a1:zX):Option (Int×zX×Unit):=V2.F (a1,())
def zi4:Cfg E:=cf [] [] [] [(0,some 0)] [] []
def Xt:zM E:=sp zi4 Tryz.f69 ⟨[.ptr 0,vI],[.box true (L 14)]⟩ ⟨[],[.box true (L 14)]⟩ [oI,.str 14] [.str 14]
def Xz (a1:Int) (a2:zX):Option (zX×Unit):=Xt.F (a1,a2,())
def zah:Cfg E:=cf1 []
def zdP:zM E:=sp zah Tryz.f129 ⟨[vI],[]⟩ ⟨[.bsl 0 4],[.box true [.fn 136 [],.fn 137 [],.fn 138 [],.fn 139 []]]⟩ [oI] []
def zjz (a1:Int):Option (Unit):=zdP.F (a1,())
def zdT:zM E:=sp zah Tryz.f129 ⟨[vI],[]⟩ ⟨[.bsl 0 7],[.box true [.fn 136 [],.fn 140 [],.fn 141 [],.fn 142 [],.fn 143 [],.fn 144 [],.fn 145 []]]⟩ [oI] []
def zjm (a1:Int):Option (Unit):=zdT.F (a1,())
def zdY:zM E:=sp zah Tryz.f129 ⟨[vI],[]⟩ ⟨[.bsl 0 4],[.box true [.fn 146 [],.fn 147 [],.fn 148 [],.fn 149 []]]⟩ [oI] []
def zjx (a1:Int):Option (Unit):=zdY.F (a1,())
def zed:zM E:=sp zah Tryz.f129 ⟨[vI],[]⟩ ⟨[.own 0],[.row true .bool]⟩ [oI] [.one (.slice .bool)]
def zjy (a1:Int):Option ((List Bool)×Unit):=zed.F (a1,())
def zqy:Cfg E:=cf1 [(94,[zaF])]
def ZX:zM E:=sp zqy Tryz.f150 ⟨[vM,vI],[]⟩ ⟨[vU],[]⟩ [oM,oI] [oU]
def Z3 (a1:List zw) (a2:Int):Option (zw×Unit):=ZX.F (a1,a2,())
def zhu:Cfg E:=cf1 []
def wA:zM E:=sp zhu Tryz.f151 ⟨[.ptr 0],[.box false (L 4)]⟩ ⟨[vI],[.gone]⟩ [.str 4] [oI]
def vf (a1:zm):Option (Int×Unit):=wA.F (a1,())
def zcH:Cfg E:=cf [(150,[ZX]),(151,[wA])] [] [] [(0,some 0)] [] []
def Yr:zM E:=sp zcH Tryz.f136 ⟨[.ptr 0,vM],[.box true (L 4)]⟩ ⟨[vM],[.box true (L 4)]⟩ [oM,.str 4] [oM,.str 4]
def vF (a1:List zw) (a2:zm):Option ((List zw)×zm×Unit):=Yr.F (a1,a2,())
def zjt:Cfg E:=cf1 []
def Ze:zM E:=sp zjt Tryz.f152 ⟨[.ptr 0],[.box false (L 4)]⟩ ⟨[vI],[.gone]⟩ [.str 4] [oI]
def Ym (a1:zm):Option (Int×Unit):=Ze.F (a1,())
def ziM:Cfg E:=cf1 []
def Xr:zM E:=sp ziM Tryz.f153 ⟨[.ptr 0],[.box false (L 4)]⟩ ⟨[vU],[.gone]⟩ [.str 4] [oU]
def Xh (a1:zm):Option (zw×Unit):=Xr.F (a1,())
def zgV:Cfg E:=cf [] [] [] [(0,some 0)] [] []
def wy:zM E:=sp zgV Tryz.f154 ⟨[.ptr 0,vI],[.box true (L 4)]⟩ ⟨[],[.box true (L 4)]⟩ [oI,.str 4] [.str 4]
def wv (a1:Int) (a2:zm):Option (zm×Unit):=wy.F (a1,a2,())
def zf2:Cfg E:=cf [(150,[ZX]),(152,[Ze]),(153,[Xr]),(154,[wy])] [] [] [(0,some 0)] [] []
def Wp:zM E:=sp zf2 Tryz.f137 ⟨[.ptr 0,vM],[.box true (L 4)]⟩ ⟨[vM],[.box true (L 4)]⟩ [oM,.str 4] [oM,.str 4]
def Wz (a1:List zw) (a2:zm):Option ((List zw)×zm×Unit):=Wp.F (a1,a2,())
def zoh:Cfg E:=cf1 [(94,[zaF])]
def YY:zM E:=sp zoh Tryz.f155 ⟨[vM,vI,vU],[]⟩ ⟨[vM],[]⟩ [oM,oI,oU] [oM]
def YX (a1:List zw) (a2:Int) (a3:zw):Option ((List zw)×Unit):=YY.F (a1,a2,a3,())
def zhK:Cfg E:=cf1 [(153,[Xr])]
def Zz:zM E:=sp zhK Tryz.f156 ⟨[.ptr 0,vU],[.box false (L 4)]⟩ ⟨[vI],[.gone]⟩ [oU,.str 4] [oI]
def Zx (a1:zw) (a2:zm):Option (Int×Unit):=Zz.F (a1,a2,())
def zjw:Cfg E:=cf1 [(155,[YY]),(156,[Zz])]
def UV:zM E:=sp zjw Tryz.f138 ⟨[.ptr 0,vM],[.box false (L 4)]⟩ ⟨[vM],[.gone]⟩ [oM,.str 4] [oM]
def UX (a1:List zw) (a2:zm):Option ((List zw)×Unit):=UV.F (a1,a2,())
def zdE:Cfg E:=cf [(151,[wA]),(154,[wy]),(155,[YY])] [] [] [(0,some 0)] [] []
def YU:zM E:=sp zdE Tryz.f139 ⟨[.ptr 0,vM],[.box true (L 4)]⟩ ⟨[vM],[.box true (L 4)]⟩ [oM,.str 4] [oM,.str 4]
def Y1 (a1:List zw) (a2:zm):Option ((List zw)×zm×Unit):=YU.F (a1,a2,())
def zhT:Cfg E:=cf1 [(151,[wA]),(155,[YY])]
def Vz:zM E:=sp zhT Tryz.f140 ⟨[.ptr 0,vM],[.box false (L 4)]⟩ ⟨[vM],[.gone]⟩ [oM,.str 4] [oM]
def zcb (a1:List zw) (a2:zm):Option ((List zw)×Unit):=Vz.F (a1,a2,())
def zoK:Cfg E:=cf1 []
def zbE:zM E:=sp zoK Tryz.f157 ⟨[vU,vU],[]⟩ ⟨[vB],[]⟩ [oU,oU] [oB]
def zff (a1:zw) (a2:zw):Option (Bool×Unit):=zbE.F (a1,a2,())
def zeK:Cfg E:=cf [(150,[ZX]),(152,[Ze]),(157,[zbE])] [] [] [(0,some 0)] [] []
def Xe:zM E:=sp zeK Tryz.f141 ⟨[.ptr 0,vM],[.box true (L 4)]⟩ ⟨[vM],[.box true (L 4)]⟩ [oM,.str 4] [oM,.str 4]
def U6 (a1:List zw) (a2:zm):Option ((List zw)×zm×Unit):=Xe.F (a1,a2,())
def zgQ:Cfg E:=cf [(150,[ZX]),(154,[wy]),(156,[Zz])] [] [] [(0,some 0)] [] []
def Va:zM E:=sp zgQ Tryz.f142 ⟨[.ptr 0,vM],[.box true (L 4)]⟩ ⟨[vM],[.box true (L 4)]⟩ [oM,.str 4] [oM,.str 4]
def zbr (a1:List zw) (a2:zm):Option ((List zw)×zm×Unit):=Va.F (a1,a2,())
def ziX:Cfg E:=cf1 [(94,[zaF]),(152,[Ze])]
def Xj:zM E:=sp ziX Tryz.f158 ⟨[.ptr 0,vM],[.box false (L 4)]⟩ ⟨[vM,vB],[.gone]⟩ [oM,.str 4] [oM,oB]
def Xx (a1:List zw) (a2:zm):Option ((List zw)×Bool×Unit):=Xj.F (a1,a2,())
def zfT:Cfg E:=cf [(158,[Xj])] [] [] [(0,some 0)] [] []
def Wu:zM E:=sp zfT Tryz.f143 ⟨[.ptr 0,vM],[.box true (L 4)]⟩ ⟨[vM],[.box true (L 4)]⟩ [oM,.str 4] [oM,.str 4]
def zaY (a1:List zw) (a2:zm):Option ((List zw)×zm×Unit):=Wu.F (a1,a2,())
def zfR:Cfg E:=cf [(151,[wA]),(154,[wy]),(155,[YY])] [] [] [(0,some 0)] [] []
def Wy:zM E:=sp zfR Tryz.f144 ⟨[.ptr 0,vM],[.box true (L 4)]⟩ ⟨[vM],[.box true (L 4)]⟩ [oM,.str 4] [oM,.str 4]
def zaZ (a1:List zw) (a2:zm):Option ((List zw)×zm×Unit):=Wy.F (a1,a2,())
def zgY:Cfg E:=cf [(151,[wA]),(154,[wy]),(155,[YY])] [] [] [(0,some 0)] [] []
def Vm:zM E:=sp zgY Tryz.f145 ⟨[.ptr 0,vM],[.box true (L 4)]⟩ ⟨[vM],[.box true (L 4)]⟩ [oM,.str 4] [oM,.str 4]
def zbh (a1:List zw) (a2:zm):Option ((List zw)×zm×Unit):=Vm.F (a1,a2,())
def zhp:Cfg E:=cf [(150,[ZX]),(152,[Ze])] [] [] [(0,some 0)] [] []
def Vc:zM E:=sp zhp Tryz.f146 ⟨[.ptr 0,vM],[.box true (L 4)]⟩ ⟨[vM],[.box true (L 4)]⟩ [oM,.str 4] [oM,.str 4]
def zbA (a1:List zw) (a2:zm):Option ((List zw)×zm×Unit):=Vc.F (a1,a2,())
def zgy:Cfg E:=cf [(150,[ZX]),(151,[wA]),(157,[zbE])] [] [] [(0,some 0)] [] []
def W8:zM E:=sp zgy Tryz.f147 ⟨[.ptr 0,vM],[.box true (L 4)]⟩ ⟨[vM],[.box true (L 4)]⟩ [oM,.str 4] [oM,.str 4]
def zbo (a1:List zw) (a2:zm):Option ((List zw)×zm×Unit):=W8.F (a1,a2,())
def zga:Cfg E:=cf [(150,[ZX]),(156,[Zz])] [] [] [(0,some 0)] [] []
def Ww:zM E:=sp zga Tryz.f148 ⟨[.ptr 0,vM],[.box true (L 4)]⟩ ⟨[vM],[.box true (L 4)]⟩ [oM,.str 4] [oM,.str 4]
def za0 (a1:List zw) (a2:zm):Option ((List zw)×zm×Unit):=Ww.F (a1,a2,())
def ze3:Cfg E:=cf [(154,[wy]),(158,[Xj])] [] [] [(0,some 0)] [] []
def Xs:zM E:=sp ze3 Tryz.f149 ⟨[.ptr 0,vM],[.box true (L 4)]⟩ ⟨[vM],[.box true (L 4)]⟩ [oM,.str 4] [oM,.str 4]
def zae (a1:List zw) (a2:zm):Option ((List zw)×zm×Unit):=Xs.F (a1,a2,())
def zpN:Cfg E:=cf [(129,[zdP,zdT,zdY,zed]),(136,[Yr]),(137,[Wp]),(138,[UV]),(139,[YU]),(140,[Vz]),(141,[Xe]),(142,[Va]),(143,[Wu]),(144,[Wy]),(145,[Vm]),(146,[Vc]),(147,[W8]),(148,[Ww]),(149,[Xs])] [] [] [] [(1,2,[0,1,2,3])] []
def zcK:zM E:=sp zpN Tryz.f96 ⟨[vM,.val (.named 4)],[]⟩ ⟨[vM,.val (.named 4)],[]⟩ [oM,.one (.named 4)] [oM,.one (.named 4)]
def zaB (a1:List zw) (a2:zm):Option ((List zw)×zm×Unit):=zcK.F (a1,a2,())
def zmS:Cfg E:=cf1 [(24,[Uv]),(25,[Uz])]
def zaf:zM E:=sp zmS Tryz.f98 ⟨[.ptr 0,vI,vI],[.box false (L 14)]⟩ ⟨[.val (.named 4)],[.gone]⟩ [oI,oI,.str 14] [.one (.named 4)]
def zcW (a1:Int) (a2:Int) (a3:zX):Option (zm×Unit):=zaf.F (a1,a2,a3,())
def zo8:Cfg E:=cf1 []
def Uw:zM E:=sp zo8 Tryz.f130 ⟨L 0,[]⟩ ⟨[.val (.named 5)],[]⟩ [oI,oI,oI,oI] [.one (.named 5)]
def zbF (a1:Int) (a2:Int) (a3:Int) (a4:Int):Option (zJ×Unit):=Uw.F (a1,a2,a3,a4,())
def zk3:Cfg E:=cf1 [(31,[VS]),(130,[Uw])]
def Vt:zM E:=sp zk3 Tryz.f100 ⟨[.ptr 0,vI,vI,vI],[.box false (L 14)]⟩ ⟨[.val (.named 5)],[.gone]⟩ [oI,oI,oI,.str 14] [.one (.named 5)]
def za7 (a1:Int) (a2:Int) (a3:Int) (a4:zX):Option (zJ×Unit):=Vt.F (a1,a2,a3,a4,())
def zi3:Cfg E:=cf [(30,[VK]),(98,[zaf]),(100,[Vt])] [] [] [(0,some 0)] [] []
def Ub:zM E:=sp zi3 Tryz.f97 ⟨[.ptr 0],[.box true (L 14)]⟩ ⟨[],[.box true (L 14)]⟩ [.str 14] [.str 14]
def Xl (a1:zX):Option (zX×Unit):=Ub.F (a1,())
def zji:Cfg E:=cf [(69,[Xt]),(96,[zcK]),(97,[Ub])] [] [] [(0,some 0)] [] []
def UN:zM E:=sp zji Tryz.f63 ⟨[.ptr 0],[.box true (L 14)]⟩ ⟨[],[.box true (L 14)]⟩ [.str 14] [.str 14]
def X7 (a1:zX):Option (zX×Unit):=UN.F (a1,())
def zhQ:Cfg E:=cf [(98,[zaf])] [] [] [(0,some 0)] [] []
def VT:zM E:=sp zhQ Tryz.f64 ⟨[.ptr 0],[.box true (L 14)]⟩ ⟨[],[.box true (L 14)]⟩ [.str 14] [.str 14]
def uu (a1:zX):Option (zX×Unit):=VT.F (a1,())
def ze1:Cfg E:=cf1 []
def ZF:zM E:=sp ze1 Tryz.f99 ⟨[.val zQ],[]⟩ ⟨[.own 0],[.row true z5]⟩ [.one zQ] [.one zQ]
def ZD (a1:zy):Option (zy×Unit):=ZF.F (a1,())
def zja:Cfg E:=cf [(32,[WC]),(99,[ZF]),(100,[Vt])] [] [] [(0,some 0)] [] []
def V5:zM E:=sp zja Tryz.f65 ⟨[.ptr 0],[.box true (L 14)]⟩ ⟨[],[.box true (L 14)]⟩ [.str 14] [.str 14]
def Ud (a1:zX):Option (zX×Unit):=V5.F (a1,())
def zmE:Cfg E:=cf1 []
def zag:zM E:=sp zmE Tryz.f68 ⟨[.ptr 0],[.box false (L 14)]⟩ ⟨[vI],[.gone]⟩ [.str 14] [oI]
def WT (a1:zX):Option (Int×Unit):=zag.F (a1,())
def zk0:Cfg E:=cf1 []
def zba:zM E:=sp zk0 Tryz.f131 ⟨[.val (.named 2),vI,vI],[]⟩ ⟨[vB],[]⟩ [.one (.named 2),oI,oI] [oB]
def za9 (a1:zC) (a2:Int) (a3:Int):Option (Bool×Unit):=zba.F (a1,a2,a3,())
def zsM:Cfg E:=cf1 [(131,[zba])]
def zj5:zM E:=sp zsM Tryz.f101 ⟨[.val (.named 2),vI,vI],[]⟩ ⟨[vI,vB],[]⟩ [.one (.named 2),oI,oI] [oI,oB]
def zkH (a1:zC) (a2:Int) (a3:Int):Option (Int×Bool×Unit):=zj5.F (a1,a2,a3,())
def zqL:Cfg E:=cf1 []
def zha:zM E:=sp zqL Tryz.f102 ⟨[vI,vI,vI],[]⟩ ⟨[.val (.named 6)],[]⟩ [oI,oI,oI] [.one (.named 6)]
def zgB (a1:Int) (a2:Int) (a3:Int):Option (zH×Unit):=zha.F (a1,a2,a3,())
def zi6:Cfg E:=cf [(68,[zag]),(101,[zj5]),(102,[zha])] [] [] [(0,some 0)] [] []
def Ug:zM E:=sp zi6 Tryz.f66 ⟨[.ptr 0],[.box true (L 14)]⟩ ⟨[],[.box true (L 14)]⟩ [.str 14] [.str 14]
def VZ (a1:zX):Option (zX×Unit):=Ug.F (a1,())
def zeS:Cfg E:=cf [] [] [] [(0,some 0)] [] []
def Xo:zM E:=sp zeS Tryz.f103 ⟨[.ptr 0],[.box true (L 15)]⟩ ⟨[],[.box true (L 15)]⟩ [.str 15] [.str 15]
def zad (a1:zR):Option (zR×Unit):=Xo.F (a1,())
def zua:Cfg E:=cf1 [(47,[zim])]
def zeP:zM E:=sp zua Tryz.f115 ⟨[vU,vI],[]⟩ ⟨[vB],[]⟩ [oU,oI] [oB]
def zb7 (a1:zw) (a2:Int):Option (Bool×Unit):=zeP.F (a1,a2,())
def zqn:Cfg E:=cf1 [(16,[zaA]),(115,[zeP])]
def zgx:zM E:=sp zqn Tryz.f132 ⟨[.val (.named 9),vI],[]⟩ ⟨[.val (.named 9),vB],[]⟩ [.one (.named 9),oI] [.one (.named 9),oB]
def zgP (a1:zA) (a2:Int):Option (zA×Bool×Unit):=zgx.F (a1,a2,())
def zhM:Cfg E:=cf [(31,[VS]),(32,[WC]),(130,[Uw])] [] [] [(0,some 0)] [] []
def ut:zM E:=sp zhM Tryz.f133 ⟨[.ptr 0],[.box true (L 15)]⟩ ⟨[],[.box true (L 15)]⟩ [.str 15] [.str 15]
def ux (a1:zR):Option (zR×Unit):=ut.F (a1,())
def zhF:Cfg E:=cf [(24,[Uv]),(25,[Uz]),(132,[zgx]),(133,[ut])] [] [] [(0,some 0)] [] []
def W6:zM E:=sp zhF Tryz.f104 ⟨[.ptr 0],[.box true (L 15)]⟩ ⟨[],[.box true (L 15)]⟩ [.str 15] [.str 15]
def zbw (a1:zR):Option (zR×Unit):=W6.F (a1,())
def zg1:Cfg E:=cf [] [] [] [(0,some 0)] [] []
def W9:zM E:=sp zg1 Tryz.f105 ⟨[.ptr 0],[.box true (L 15)]⟩ ⟨[],[.box true (L 15)]⟩ [.str 15] [.str 15]
def zbx (a1:zR):Option (zR×Unit):=W9.F (a1,())
def zg7:Cfg E:=cf [(96,[zcK]),(133,[ut])] [] [] [(0,some 0)] [] []
def Vj:zM E:=sp zg7 Tryz.f106 ⟨[.ptr 0],[.box true (L 15)]⟩ ⟨[],[.box true (L 15)]⟩ [.str 15] [.str 15]
def zbv (a1:zR):Option (zR×Unit):=Vj.F (a1,())
def zhm:Cfg E:=cf [(133,[ut])] [] [] [(0,some 0)] [] []
def Vd:zM E:=sp zhm Tryz.f107 ⟨[.ptr 0],[.box true (L 15)]⟩ ⟨[],[.box true (L 15)]⟩ [.str 15] [.str 15]
def zbu (a1:zR):Option (zR×Unit):=Vd.F (a1,())
def zhg:Cfg E:=cf [(95,[zaw]),(133,[ut])] [] [] [(0,some 0)] [] []
def Vk:zM E:=sp zhg Tryz.f108 ⟨[.ptr 0],[.box true (L 15)]⟩ ⟨[],[.box true (L 15)]⟩ [.str 15] [.str 15]
def zbt (a1:zR):Option (zR×Unit):=Vk.F (a1,())
def zg3:Cfg E:=cf [(30,[VK]),(31,[VS]),(99,[ZF]),(130,[Uw])] [] [] [(0,some 0)] [] []
def Vh:zM E:=sp zg3 Tryz.f109 ⟨[.ptr 0],[.box true (L 15)]⟩ ⟨[],[.box true (L 6++L 3++[vI,.val zQ,vM,.own 1,vU,vU,vI,vI,vB,vB,vI,vL]++L 10++[.val (.slice (.named 7)),.val (.slice (.named 8)),vI,vI]),.row true z5]⟩ [.str 15] [.str 6,.str 3,.str 2,oM,.str 9,oI,oI,oB,oB,oI,oL,.str 10,.one (.slice (.named 7)),.one (.slice (.named 8)),.str 11,.one zQ]
def zbl (a1:zR):Option (zH×zc×zC×(List zw)×zA×Int×Int×Bool×Bool×Int×zE×zD×(List zh)×(List zg)×zF×zy×Unit):=Vh.F (a1,())
def ze5:Cfg E:=cf [(95,[zaw])] [] [] [(0,some 0)] [] []
def Xf:zM E:=sp ze5 Tryz.f110 ⟨[.ptr 0],[.box true (L 15)]⟩ ⟨[],[.box true (L 15)]⟩ [.str 15] [.str 15]
def U7 (a1:zR):Option (zR×Unit):=Xf.F (a1,())
def zrH:Cfg E:=cf1 [(103,[Xo]),(104,[W6]),(105,[W9]),(106,[Vj]),(107,[Vd]),(108,[Vk]),(109,[Vh]),(110,[Xf])]
def ziC:zM E:=sp zrH Tryz.f67 ⟨[.val (.named 12),.val (.named 6)],[]⟩ ⟨[.val (.named 12),.val (.named 6)],[]⟩ [.one (.named 12),.one (.named 6)] [.one (.named 12),.one (.named 6)]
def zeD (a1:za) (a2:zH):Option (za×zH×Unit):=ziC.F (a1,a2,())
def zul:Cfg E:=cf1 [(115,[zeP])]
def zli:zM E:=sp zul Tryz.f111 ⟨[.val (.named 9),vI],[]⟩ ⟨[vI],[]⟩ [.one (.named 9),oI] [oI]
def zla (a1:zA) (a2:Int):Option (Int×Unit):=zli.F (a1,a2,())
def zrA:Cfg E:=cf1 [(16,[zaA]),(111,[zli])]
def zi5:zM E:=sp zrA Tryz.f70 ⟨[.val (.named 9),vI],[]⟩ ⟨[.val (.named 9),vB],[]⟩ [.one (.named 9),oI] [.one (.named 9),oB]
def zep (a1:zA) (a2:Int):Option (zA×Bool×Unit):=zi5.F (a1,a2,())
def zhI:Cfg E:=cf1 []
def VC:zM E:=sp zhI Tryz.f112 ⟨[.val (.named 10),vI],[]⟩ ⟨[vB],[]⟩ [.one (.named 10),oI] [oB]
def VO (a1:zD) (a2:Int):Option (Bool×Unit):=VC.F (a1,a2,())
def zmP:Cfg E:=cf1 []
def zcI:zM E:=sp zmP Tryz.f114 ⟨[vI],[]⟩ ⟨[vI],[]⟩ [oI] [oI]
def zcY (a1:Int):Option (Int×Unit):=zcI.F (a1,())
def VV:Cfg E:=cf1 [(114,[zcI])]
def uc:zM E:=sp VV Tryz.f113 ⟨[.val (.named 10),vI,.fn 114 []],[]⟩ ⟨[.val (.named 10)],[]⟩ [.one (.named 10),oI] [.one (.named 10)]
def Yb (a1:zD) (a2:Int):Option (zD×Unit):=uc.F (a1,a2,())
def zo4:Cfg E:=cf1 [(112,[VC]),(113,[uc])]
def zfp:zM E:=sp zo4 Tryz.f71 ⟨[.val (.named 10),vI],[]⟩ ⟨[.val (.named 10)],[]⟩ [.one (.named 10),oI] [.one (.named 10)]
def zbB (a1:zD) (a2:Int):Option (zD×Unit):=zfp.F (a1,a2,())
def ziP:Cfg E:=cf [(62,[V2]),(63,[UN]),(64,[VT]),(65,[V5]),(66,[Ug]),(67,[ziC]),(68,[zag]),(69,[Xt]),(70,[zi5]),(71,[zfp])] [] [] [(0,some 0)] [] []
def Ui:zM E:=sp ziP Tryz.f33 ⟨[.ptr 0],[.box true (L 14)]⟩ ⟨[],[.box true (L 14)]⟩ [.str 14] [.str 14]
def V8 (a1:zX):Option (zX×Unit):=Ui.F (a1,())
def Vs:Cfg E:=cf1 []
def vJ:zM E:=sp Vs Tryz.f34 ⟨[.val (.slice (.named 7))],[]⟩ ⟨[.own 0],[.row true (.named 7)]⟩ [.one (.slice (.named 7))] [.one (.slice (.named 7))]
def vH (a1:List zh):Option ((List zh)×Unit):=vJ.F (a1,())
def zol:Cfg E:=cf1 [(33,[Ui]),(34,[vJ])]
def WH:zM E:=sp zol Tryz.f8 ⟨[.val (.named 12),vI],[]⟩ ⟨[.val (.named 12)],[]⟩ [.one (.named 12),oI] [.one (.named 12)]
def YZ (a1:za) (a2:Int):Option (za×Unit):=WH.F (a1,a2,())
def zb1:yf E:=lo [0,2,3,4] ⟨[.val (.slice (.slice (.named 0))),.ptr 0,.ptr 1,vI],[.box true (L 16++[vI,.own 2,vU,.own 3,.own 4,.own 5]),.box true (L 16++[vI,.own 6,vU,.own 7,.own 8,.own 9]),.row true z5,.row true z5,.row true (.slice (.named 0)),.row true (.named 1),.row true z5,.row true z5,.row true (.slice (.named 0)),.row true (.named 1)]⟩ 0 [2,3] ⟨[.ptr 0,.ptr 1],[.box true (L 16++[vI,.own 2,vU,.own 3,.own 4,.own 5]),.box true (L 16++[vI,.own 6,vU,.own 7,.own 8,.own 9]),.row true z5,.row true z5,.row true (.slice (.named 0)),.row true (.named 1),.row true z5,.row true z5,.row true (.slice (.named 0)),.row true (.named 1)]⟩ [] ⟨[],[]⟩ [.one (.slice (.slice (.named 0))),oI,oI,oI,oI,oI,oI,oI,oI,oI,oI,oU,oI,oI,oI,oI,oI,oI,oI,oI,oI,oU,.one zQ,.one zQ,.one (.slice (.slice (.named 0))),.one (.slice (.named 1)),.one zQ,.one zQ,.one (.slice (.slice (.named 0))),.one (.slice (.named 1))] [oI,oI,oI,oI,oI,oI,oI,oI,oI,oU,oI,oI,oI,oI,oI,oI,oI,oI,oI,oU,.one zQ,.one zQ,.one (.slice (.slice (.named 0))),.one (.slice (.named 1)),.one zQ,.one zQ,.one (.slice (.slice (.named 0))),.one (.slice (.named 1))] []
def Ua:Cfg E:=cf [] [(3,zb1)] [] [] [] []
def zav:zM E:=sp Ua Tryz.f12 ⟨[.val (.slice (.slice (.named 0)))],[]⟩ ⟨[.val (.named 3)],[]⟩ [.one (.slice (.slice (.named 0)))] [.one (.named 3)]
def zal (a1:List (List zr)):Option (zc×Unit):=zav.F (a1,())
def zbZ (x:(List (List zr))×Int×Int×Int×Int×Int×Int×Int×Int×Int×Int×zw×Int×Int×Int×Int×Int×Int×Int×Int×Int×zw×zy×zy×(List (List zr))×(List zu)×zy×zy×(List (List zr))×(List zu)×Unit):Option (xJ ((List (List zr))×Int×Int×Int×Int×Int×Int×Int×Int×Int×Int×zw×Int×Int×Int×Int×Int×Int×Int×Int×Int×zw×zy×zy×(List (List zr))×(List zu)×zy×zy×(List (List zr))×(List zu)×Unit) (Int×Int×Int×Int×Int×Int×Int×Int×Int×zw×Int×Int×Int×Int×Int×Int×Int×Int×Int×zw×zy×zy×(List (List zr))×(List zu)×zy×zy×(List (List zr))×(List zu)×Unit) (Unit)):=yQ Ua (exec Ua (xD Tryz.f12 3)) 35 zb1 x
def zb9:yf E:=lo [1,2,3,6,7] ⟨[vI,vI,.ptr 0,.ptr 1,vI],[.box true (L 12),.box true (L 16++[vI,.own 2,vU,.own 3,.own 4,.own 5,vI,.own 6,.own 7,.own 8,vU,vU,vI,vI,vB,vB,vI,.own 9,vI,vI,vI,.own 10,.own 11,.own 12,vI,vI]),.row true z5,.row true z5,.row true (.slice (.named 0)),.row true (.named 1),.row true z5,.row true (.int .u64),.row true z5,.row true zp,.row true zp,.row true (.named 7),.row true (.named 8)]⟩ 0 [3,6] ⟨[.ptr 0,.ptr 1],[.box true (L 12),.box true (L 16++[vI,.own 2,vU,.own 3,.own 4,.own 5,vI,.own 6,.own 7,.own 8,vU,vU,vI,vI,vB,vB,vI,.own 9,vI,vI,vI,.own 10,.own 11,.own 12,vI,vI]),.row true z5,.row true z5,.row true (.slice (.named 0)),.row true (.named 1),.row true z5,.row true (.int .u64),.row true z5,.row true zp,.row true zp,.row true (.named 7),.row true (.named 8)]⟩ [] ⟨[],[]⟩ [oI,oI,oI,.str 12,oI,oI,oI,oI,oI,oI,oI,oI,oI,oU,oI,.str 9,oI,oI,oB,oB,oI,oI,oI,oI,.str 11,.one zQ,.one zQ,.one (.slice (.slice (.named 0))),.one (.slice (.named 1)),.one zQ,oM,.one zQ,oL,oL,.one (.slice (.named 7)),.one (.slice (.named 8))] [.str 12,oI,oI,oI,oI,oI,oI,oI,oI,oI,oU,oI,.str 9,oI,oI,oB,oB,oI,oI,oI,oI,.str 11,.one zQ,.one zQ,.one (.slice (.slice (.named 0))),.one (.slice (.named 1)),.one zQ,oM,.one zQ,oL,oL,.one (.slice (.named 7)),.one (.slice (.named 8))] []
def Uc:Cfg E:=cf [(8,[WH])] [(2,zb9)] [] [] [] []
def zar:zM E:=sp Uc Tryz.f13 ⟨[.val (.named 12),vI,vI],[]⟩ ⟨[.val (.named 12)],[]⟩ [.one (.named 12),oI,oI] [.one (.named 12)]
def vK (a1:za) (a2:Int) (a3:Int):Option (za×Unit):=zar.F (a1,a2,a3,())
def ZA (x:Int×Int×Int×za×Int×Int×Int×Int×Int×Int×Int×Int×Int×zw×Int×zA×Int×Int×Bool×Bool×Int×Int×Int×Int×zF×zy×zy×(List (List zr))×(List zu)×zy×(List zw)×zy×zE×zE×(List zh)×(List zg)×Unit):Option (xJ (Int×Int×Int×za×Int×Int×Int×Int×Int×Int×Int×Int×Int×zw×Int×zA×Int×Int×Bool×Bool×Int×Int×Int×Int×zF×zy×zy×(List (List zr))×(List zu)×zy×(List zw)×zy×zE×zE×(List zh)×(List zg)×Unit) (za×Int×Int×Int×Int×Int×Int×Int×Int×Int×zw×Int×zA×Int×Int×Bool×Bool×Int×Int×Int×Int×zF×zy×zy×(List (List zr))×(List zu)×zy×(List zw)×zy×zE×zE×(List zh)×(List zg)×Unit) (Unit)):=yQ Uc (exec Uc (xD Tryz.f13 2)) 17 zb9 x
def UB:yf E:=lo [0,1,12,13] ⟨[vL,vL,vI,vI],[]⟩ 0 [] ⟨[],[]⟩ [4] ⟨[vB],[]⟩ [oL,oL,oI,oI] [] [oB]
def Xw:Cfg E:=cf [] [(4,UB)] [] [] [] []
def vO:zM E:=sp Xw Tryz.f41 ⟨[vL,vL],[]⟩ ⟨[vB],[]⟩ [oL,oL] [oB]
def yB (a1:zE) (a2:zE):Option (Bool×Unit):=vO.F (a1,a2,())
def Uu (x:zE×zE×Int×Int×Unit):Option (xJ (zE×zE×Int×Int×Unit) (Unit) (Bool×Unit)):=yQ Xw (exec Xw (xD Tryz.f41 4)) 26 UB x
def wa:yf E:=lo [1,2,15,16,17] ⟨[.val zQ,.fn 41 [],.val zQ,vI,vI],[]⟩ 0 [] ⟨[],[]⟩ [6] ⟨[vB],[]⟩ [.one zQ,.one zQ,oI,oI] [] [oB]
def xw:Cfg E:=cf [(41,[vO])] [(4,wa)] [] [] [] []
def yn:zM E:=sp xw Tryz.f40 ⟨[.val zQ,.val zQ,.fn 41 []],[]⟩ ⟨[vB],[]⟩ [.one zQ,.one zQ] [oB]
def zL (a1:zy) (a2:zy):Option (Bool×Unit):=yn.F (a1,a2,())
def xZ (x:zy×zy×Int×Int×Unit):Option (xJ (zy×zy×Int×Int×Unit) (Unit) (Bool×Unit)):=yQ xw (exec xw (xD Tryz.f40 4)) 32 wa x
def zrL:Cfg E:=cf1 [(40,[yn])]
def zes:zM E:=sp zrL Tryz.f38 ⟨[.val (.named 2),.val (.named 2)],[]⟩ ⟨[vB],[]⟩ [.one (.named 2),.one (.named 2)] [oB]
def ZR (a1:zC) (a2:zC):Option (Bool×Unit):=zes.F (a1,a2,())
def zjD:Cfg E:=cf1 []
def UK:zM E:=sp zjD Tryz.f75 ⟨[.val (.named 3)],[]⟩ ⟨[.val (.named 16)],[]⟩ [.one (.named 3)] [.one (.named 16)]
def UO (a1:zc):Option (zk8×Unit):=UK.F (a1,())
def Xd:yf E:=lo [0,1,12,13] ⟨[.val (.slice (.named 0)),.val (.slice (.named 0)),vI,vI],[]⟩ 0 [] ⟨[],[]⟩ [4] ⟨[vB],[]⟩ [.one (.slice (.named 0)),.one (.slice (.named 0)),oI,oI] [] [oB]
def Zj:Cfg E:=cf [] [(4,Xd)] [] [] [] []
def ZM:zM E:=sp Zj Tryz.f77 ⟨[.val (.slice (.named 0)),.val (.slice (.named 0))],[]⟩ ⟨[vB],[]⟩ [.one (.slice (.named 0)),.one (.slice (.named 0))] [oB]
def ZJ (a1:List zr) (a2:List zr):Option (Bool×Unit):=ZM.F (a1,a2,())
def Y8 (x:(List zr)×(List zr)×Int×Int×Unit):Option (xJ ((List zr)×(List zr)×Int×Int×Unit) (Unit) (Bool×Unit)):=yQ Zj (exec Zj (xD Tryz.f77 4)) 26 Xd x
def xq:yf E:=lo [1,2,15,16,17] ⟨[.val (.slice (.slice (.named 0))),.fn 77 [],.val (.slice (.slice (.named 0))),vI,vI],[]⟩ 0 [] ⟨[],[]⟩ [6] ⟨[vB],[]⟩ [.one (.slice (.slice (.named 0))),.one (.slice (.slice (.named 0))),oI,oI] [] [oB]
def yw:Cfg E:=cf [(77,[ZM])] [(4,xq)] [] [] [] []
def yx:zM E:=sp yw Tryz.f76 ⟨[.val (.slice (.slice (.named 0))),.val (.slice (.slice (.named 0))),.fn 77 []],[]⟩ ⟨[vB],[]⟩ [.one (.slice (.slice (.named 0))),.one (.slice (.slice (.named 0)))] [oB]
def yy (a1:List (List zr)) (a2:List (List zr)):Option (Bool×Unit):=yx.F (a1,a2,())
def xp (x:(List (List zr))×(List (List zr))×Int×Int×Unit):Option (xJ ((List (List zr))×(List (List zr))×Int×Int×Unit) (Unit) (Bool×Unit)):=yQ yw (exec yw (xD Tryz.f76 4)) 32 xq x
def Yn:yf E:=lo [0,1,12,13] ⟨[.val (.slice (.named 1)),.val (.slice (.named 1)),vI,vI],[]⟩ 0 [] ⟨[],[]⟩ [4] ⟨[vB],[]⟩ [.one (.slice (.named 1)),.one (.slice (.named 1)),oI,oI] [] [oB]
def ur:Cfg E:=cf [] [(4,Yn)] [] [] [] []
def uO:zM E:=sp ur Tryz.f78 ⟨[.val (.slice (.named 1)),.val (.slice (.named 1))],[]⟩ ⟨[vB],[]⟩ [.one (.slice (.named 1)),.one (.slice (.named 1))] [oB]
def uL (a1:List zu) (a2:List zu):Option (Bool×Unit):=uO.F (a1,a2,())
def Yl (x:(List zu)×(List zu)×Int×Int×Unit):Option (xJ ((List zu)×(List zu)×Int×Int×Unit) (Unit) (Bool×Unit)):=yQ ur (exec ur (xD Tryz.f78 4)) 26 Yn x
def zrQ:Cfg E:=cf1 [(38,[zes]),(40,[yn]),(75,[UK]),(76,[yx]),(78,[uO])]
def ziy:zM E:=sp zrQ Tryz.f37 ⟨[.val (.named 3),.val (.named 3)],[]⟩ ⟨[vB],[]⟩ [.one (.named 3),.one (.named 3)] [oB]
def YA (a1:zc) (a2:zc):Option (Bool×Unit):=ziy.F (a1,a2,())
def XM:yf E:=lo [0,1,12,13] ⟨[vM,vM,vI,vI],[]⟩ 0 [] ⟨[],[]⟩ [4] ⟨[vB],[]⟩ [oM,oM,oI,oI] [] [oB]
def ZK:Cfg E:=cf [] [(4,XM)] [] [] [] []
def Yd:zM E:=sp ZK Tryz.f79 ⟨[vM,vM],[]⟩ ⟨[vB],[]⟩ [oM,oM] [oB]
def Ye (a1:List zw) (a2:List zw):Option (Bool×Unit):=Yd.F (a1,a2,())
def XH (x:(List zw)×(List zw)×Int×Int×Unit):Option (xJ ((List zw)×(List zw)×Int×Int×Unit) (Unit) (Bool×Unit)):=yQ ZK (exec ZK (xD Tryz.f79 4)) 26 XM x
def zsW:Cfg E:=cf1 [(79,[Yd])]
def zj1:zM E:=sp zsW Tryz.f39 ⟨[vM,vM],[]⟩ ⟨[vB],[]⟩ [oM,oM] [oB]
def Xq (a1:List zw) (a2:List zw):Option (Bool×Unit):=zj1.F (a1,a2,())
def WU:yf E:=lo [0,1,12,13] ⟨[vL,vL,vI,vI],[]⟩ 0 [] ⟨[],[]⟩ [4] ⟨[vB],[]⟩ [oL,oL,oI,oI] [] [oB]
def Yg:Cfg E:=cf [] [(4,WU)] [] [] [] []
def YC:zM E:=sp Yg Tryz.f80 ⟨[vL,vL],[]⟩ ⟨[vB],[]⟩ [oL,oL] [oB]
def YG (a1:zE) (a2:zE):Option (Bool×Unit):=YC.F (a1,a2,())
def WS (x:zE×zE×Int×Int×Unit):Option (xJ (zE×zE×Int×Int×Unit) (Unit) (Bool×Unit)):=yQ Yg (exec Yg (xD Tryz.f80 4)) 26 WU x
def zoO:Cfg E:=cf1 [(80,[YC])]
def zfC:zM E:=sp zoO Tryz.f42 ⟨[.val (.named 10),.val (.named 10)],[]⟩ ⟨[vB],[]⟩ [.one (.named 10),.one (.named 10)] [oB]
def Zl (a1:zD) (a2:zD):Option (Bool×Unit):=zfC.F (a1,a2,())
def zjF:Cfg E:=cf1 [(41,[vO])]
def U4:zM E:=sp zjF Tryz.f44 ⟨[.val (.named 7),.val (.named 7)],[]⟩ ⟨[vB],[]⟩ [.one (.named 7),.one (.named 7)] [oB]
def UQ (a1:zh) (a2:zh):Option (Bool×Unit):=U4.F (a1,a2,())
def yY:yf E:=lo [1,2,15,16,17] ⟨[.val (.slice (.named 7)),.fn 44 [],.val (.slice (.named 7)),vI,vI],[]⟩ 0 [] ⟨[],[]⟩ [6] ⟨[vB],[]⟩ [.one (.slice (.named 7)),.one (.slice (.named 7)),oI,oI] [] [oB]
def yp:Cfg E:=cf [(44,[U4])] [(4,yY)] [] [] [] []
def yt:zM E:=sp yp Tryz.f43 ⟨[.val (.slice (.named 7)),.val (.slice (.named 7)),.fn 44 []],[]⟩ ⟨[vB],[]⟩ [.one (.slice (.named 7)),.one (.slice (.named 7))] [oB]
def yu (a1:List zh) (a2:List zh):Option (Bool×Unit):=yt.F (a1,a2,())
def yZ (x:(List zh)×(List zh)×Int×Int×Unit):Option (xJ ((List zh)×(List zh)×Int×Int×Unit) (Unit) (Bool×Unit)):=yQ yp (exec yp (xD Tryz.f43 4)) 32 yY x
def zhi:Cfg E:=cf1 []
def Vg:zM E:=sp zhi Tryz.f81 ⟨[.val (.named 8)],[]⟩ ⟨[.val (.named 16)],[]⟩ [.one (.named 8)] [.one (.named 16)]
def Vb (a1:zg):Option (zk8×Unit):=Vg.F (a1,())
def ziB:Cfg E:=cf1 [(41,[vO]),(81,[Vg])]
def V7:zM E:=sp ziB Tryz.f46 ⟨[.val (.named 8),.val (.named 8)],[]⟩ ⟨[vB],[]⟩ [.one (.named 8),.one (.named 8)] [oB]
def V3 (a1:zg) (a2:zg):Option (Bool×Unit):=V7.F (a1,a2,())
def yR:yf E:=lo [1,2,15,16,17] ⟨[.val (.slice (.named 8)),.fn 46 [],.val (.slice (.named 8)),vI,vI],[]⟩ 0 [] ⟨[],[]⟩ [6] ⟨[vB],[]⟩ [.one (.slice (.named 8)),.one (.slice (.named 8)),oI,oI] [] [oB]
def yi:Cfg E:=cf [(46,[V7])] [(4,yR)] [] [] [] []
def ym:zM E:=sp yi Tryz.f45 ⟨[.val (.slice (.named 8)),.val (.slice (.named 8)),.fn 46 []],[]⟩ ⟨[vB],[]⟩ [.one (.slice (.named 8)),.one (.slice (.named 8))] [oB]
def yj (a1:List zg) (a2:List zg):Option (Bool×Unit):=ym.F (a1,a2,())
def yS (x:(List zg)×(List zg)×Int×Int×Unit):Option (xJ ((List zg)×(List zg)×Int×Int×Unit) (Unit) (Bool×Unit)):=yQ yi (exec yi (xD Tryz.f45 4)) 32 yR x
def zqa:Cfg E:=cf1 [(37,[ziy]),(38,[zes]),(39,[zj1]),(40,[yn]),(41,[vO]),(42,[zfC]),(43,[yt]),(45,[ym])]
def zgH:zM E:=sp zqa Tryz.f14 ⟨[.val (.named 12),.val (.named 12)],[]⟩ ⟨[vB],[]⟩ [.one (.named 12),.one (.named 12)] [oB]
def zcG (a1:za) (a2:za):Option (Bool×Unit):=zgH.F (a1,a2,())
def zhH:Cfg E:=cf1 [(7,[zeu]),(8,[WH]),(12,[zav]),(13,[zar]),(14,[zgH])]
def VF:zM E:=sp zhH Tryz.f4 ⟨[],[]⟩ ⟨[vB],[]⟩ [] [oB]
def VQ:Option (Bool×Unit):=VF.F (())
def zdw:Cfg E:=cf [] [] [] [(0,some 0)] [] []
def Zk:zM E:=sp zdw Tryz.f15 ⟨[.ptr 0],[.box true [.val (.slice (.int .u8)),vI]]⟩ ⟨[vI],[.box true [.val (.slice (.int .u8)),vI]]⟩ [.str 17] [oI,.str 17]
def zN (a1:zW):Option (Int×zW×Unit):=Zk.F (a1,())
def zfk:Cfg E:=cf [(15,[Zk])] [] [] [(0,some 0)] [] []
def XU:zM E:=sp zfk Tryz.f17 ⟨[.ptr 0,vI,vI],[.box true [.val (.slice (.int .u8)),vI]]⟩ ⟨[.val (.named 0)],[.box true [.val (.slice (.int .u8)),vI]]⟩ [oI,oI,.str 17] [.one (.named 0),.str 17]
def X4 (a1:Int) (a2:Int) (a3:zW):Option (zr×zW×Unit):=XU.F (a1,a2,a3,())
def zcZ:yf E:=lo [2,3,4,5,6] ⟨[.ptr 0,.ptr 1,.ptr 2,vI,vI],[.box true (L 16++[vI,.own 3,vU,.own 4,.own 5,.own 6]),.box true [.val (.slice (.int .u8)),vI],.box true (L 16++[vI,.own 7,vU,.own 8,.own 9,.own 10]),.row true z5,.row true z5,.row true (.slice (.named 0)),.row true (.named 1),.row true z5,.row true z5,.row true (.slice (.named 0)),.row true (.named 1)]⟩ 0 [2,3,4,5] ⟨[.ptr 0,.ptr 1,.ptr 2,vI],[.box true (L 16++[vI,.own 3,vU,.own 4,.own 5,.own 6]),.box true [.val (.slice (.int .u8)),vI],.box true (L 16++[vI,.own 7,vU,.own 8,.own 9,.own 10]),.row true z5,.row true z5,.row true (.slice (.named 0)),.row true (.named 1),.row true z5,.row true z5,.row true (.slice (.named 0)),.row true (.named 1)]⟩ [] ⟨[],[]⟩ [oI,oI,oI,oI,oI,oI,oI,oI,oI,oI,oI,oU,.str 17,oI,oI,oI,oI,oI,oI,oI,oI,oI,oU,.one zQ,.one zQ,.one (.slice (.slice (.named 0))),.one (.slice (.named 1)),.one zQ,.one zQ,.one (.slice (.slice (.named 0))),.one (.slice (.named 1))] [oI,oI,oI,oI,oI,oI,oI,oI,oI,oI,oU,.str 17,oI,oI,oI,oI,oI,oI,oI,oI,oI,oU,.one zQ,.one zQ,.one (.slice (.slice (.named 0))),.one (.slice (.named 1)),.one zQ,.one zQ,.one (.slice (.slice (.named 0))),.one (.slice (.named 1))] []
def zce:yf E:=lo [2,3,4,5,6,7,8] ⟨[.ptr 0,.ptr 1,.ptr 2,vI,vI,.own 3,vI],[.box true (L 16++[vI,.own 4,vU,.own 5,.own 6,.own 7]),.box true [.val (.slice (.int .u8)),vI],.box true (L 16++[vI,.own 8,vU,.own 9,.own 10,.own 11]),.row true zp,.row true z5,.row true z5,.row true (.slice (.named 0)),.row true (.named 1),.row true z5,.row true z5,.row true (.slice (.named 0)),.row true (.named 1)]⟩ 2 [2,3,4,5,6,7] ⟨[.ptr 0,.ptr 1,.ptr 2,vI,vI,.own 3],[.box true (L 16++[vI,.own 4,vU,.own 5,.own 6,.own 7]),.box true [.val (.slice (.int .u8)),vI],.box true (L 16++[vI,.own 8,vU,.own 9,.own 10,.own 11]),.row true zp,.row true z5,.row true z5,.row true (.slice (.named 0)),.row true (.named 1),.row true z5,.row true z5,.row true (.slice (.named 0)),.row true (.named 1)]⟩ [] ⟨[],[]⟩ [oI,oI,oI,oI,oI,oI,oI,oI,oI,oI,oI,oI,oU,.str 17,oI,oI,oI,oI,oI,oI,oI,oI,oI,oU,oL,.one zQ,.one zQ,.one (.slice (.slice (.named 0))),.one (.slice (.named 1)),.one zQ,.one zQ,.one (.slice (.slice (.named 0))),.one (.slice (.named 1))] [oI,oI,oI,oI,oI,oI,oI,oI,oI,oI,oI,oU,.str 17,oI,oI,oI,oI,oI,oI,oI,oI,oI,oU,oL,.one zQ,.one zQ,.one (.slice (.slice (.named 0))),.one (.slice (.named 1)),.one zQ,.one zQ,.one (.slice (.slice (.named 0))),.one (.slice (.named 1))] []
def zca:yf E:=lo [2,3,4,5,9] ⟨[.ptr 0,.ptr 1,.ptr 2,vI,vI],[.box true (L 16++[vI,.own 3,vU,.own 4,.own 5,.own 6]),.box true [.val (.slice (.int .u8)),vI],.box true (L 16++[vI,.own 7,vU,.own 8,.own 9,.own 10]),.row true z5,.row true z5,.row true (.slice (.named 0)),.row true (.named 1),.row true z5,.row true z5,.row true (.slice (.named 0)),.row true (.named 1)]⟩ 4 [2,4] ⟨[.ptr 0,.ptr 1],[.box true (L 16++[vI,.own 2,vU,.own 3,.own 4,.own 5]),.box true (L 16++[vI,.own 6,vU,.own 7,.own 8,.own 9]),.row true z5,.row true z5,.row true (.slice (.named 0)),.row true (.named 1),.row true z5,.row true z5,.row true (.slice (.named 0)),.row true (.named 1)]⟩ [] ⟨[],[]⟩ [oI,oI,oI,oI,oI,oI,oI,oI,oI,oI,oI,oU,.str 17,oI,oI,oI,oI,oI,oI,oI,oI,oI,oU,.one zQ,.one zQ,.one (.slice (.slice (.named 0))),.one (.slice (.named 1)),.one zQ,.one zQ,.one (.slice (.slice (.named 0))),.one (.slice (.named 1))] [oI,oI,oI,oI,oI,oI,oI,oI,oI,oU,oI,oI,oI,oI,oI,oI,oI,oI,oI,oU,.one zQ,.one zQ,.one (.slice (.slice (.named 0))),.one (.slice (.named 1)),.one zQ,.one zQ,.one (.slice (.slice (.named 0))),.one (.slice (.named 1))] []
def zb6:yf E:=lo [2,3,4,5,9,10,11] ⟨[.ptr 0,.ptr 1,.ptr 2,vI,vI,.own 3,vI],[.box true (L 16++[vI,.own 4,vU,.own 5,.own 6,.own 7]),.box true [.val (.slice (.int .u8)),vI],.box true (L 16++[vI,.own 8,vU,.own 9,.own 10,.own 11]),.row true zp,.row true z5,.row true z5,.row true (.slice (.named 0)),.row true (.named 1),.row true z5,.row true z5,.row true (.slice (.named 0)),.row true (.named 1)]⟩ 6 [2,3,4,5,9,10] ⟨[.ptr 0,.ptr 1,.ptr 2,vI,vI,.own 3],[.box true (L 16++[vI,.own 4,vU,.own 5,.own 6,.own 7]),.box true [.val (.slice (.int .u8)),vI],.box true (L 16++[vI,.own 8,vU,.own 9,.own 10,.own 11]),.row true zp,.row true z5,.row true z5,.row true (.slice (.named 0)),.row true (.named 1),.row true z5,.row true z5,.row true (.slice (.named 0)),.row true (.named 1)]⟩ [] ⟨[],[]⟩ [oI,oI,oI,oI,oI,oI,oI,oI,oI,oI,oI,oI,oU,.str 17,oI,oI,oI,oI,oI,oI,oI,oI,oI,oU,oL,.one zQ,.one zQ,.one (.slice (.slice (.named 0))),.one (.slice (.named 1)),.one zQ,.one zQ,.one (.slice (.slice (.named 0))),.one (.slice (.named 1))] [oI,oI,oI,oI,oI,oI,oI,oI,oI,oI,oI,oU,.str 17,oI,oI,oI,oI,oI,oI,oI,oI,oI,oU,oL,.one zQ,.one zQ,.one (.slice (.slice (.named 0))),.one (.slice (.named 1)),.one zQ,.one zQ,.one (.slice (.slice (.named 0))),.one (.slice (.named 1))] []
def zb3:yf E:=lo [2,3,4,5,9,10,12,13] ⟨[.ptr 0,.ptr 1,.ptr 2,vI,vI,.own 3,.own 4,vI],[.box true (L 16++[vI,.own 5,vU,.own 6,.own 7,.own 8]),.box true [.val (.slice (.int .u8)),vI],.box true (L 16++[vI,.own 9,vU,.own 10,.own 11,.own 12]),.row true zp,.row true (.named 0),.row true z5,.row true z5,.row true (.slice (.named 0)),.row true (.named 1),.row true z5,.row true z5,.row true (.slice (.named 0)),.row true (.named 1)]⟩ 8 [2,3,4,5,9,10,12] ⟨[.ptr 0,.ptr 1,.ptr 2,vI,vI,.own 3,.own 4],[.box true (L 16++[vI,.own 5,vU,.own 6,.own 7,.own 8]),.box true [.val (.slice (.int .u8)),vI],.box true (L 16++[vI,.own 9,vU,.own 10,.own 11,.own 12]),.row true zp,.row true (.named 0),.row true z5,.row true z5,.row true (.slice (.named 0)),.row true (.named 1),.row true z5,.row true z5,.row true (.slice (.named 0)),.row true (.named 1)]⟩ [] ⟨[],[]⟩ [oI,oI,oI,oI,oI,oI,oI,oI,oI,oI,oI,oI,oU,.str 17,oI,oI,oI,oI,oI,oI,oI,oI,oI,oU,oL,.one (.slice (.named 0)),.one zQ,.one zQ,.one (.slice (.slice (.named 0))),.one (.slice (.named 1)),.one zQ,.one zQ,.one (.slice (.slice (.named 0))),.one (.slice (.named 1))] [oI,oI,oI,oI,oI,oI,oI,oI,oI,oI,oI,oU,.str 17,oI,oI,oI,oI,oI,oI,oI,oI,oI,oU,oL,.one (.slice (.named 0)),.one zQ,.one zQ,.one (.slice (.slice (.named 0))),.one (.slice (.named 1)),.one zQ,.one zQ,.one (.slice (.slice (.named 0))),.one (.slice (.named 1))] []
def xL:Cfg E:=cf [(15,[Zk]),(16,[zaA]),(17,[XU])] [(7,zcZ),(11,zce),(17,zca),(21,zb6),(28,zb3)] [] [] [] []
def za4:zM E:=sp xL Tryz.f5 ⟨[.val (.slice (.int .u8))],[]⟩ ⟨[.val (.named 3)],[]⟩ [.one (.slice (.int .u8))] [.one (.named 3)]
def za5 (a1:List (BitVec 8)):Option (zc×Unit):=za4.F (a1,())
def Xp (x:Int×Int×Int×Int×Int×Int×Int×Int×Int×Int×Int×zw×zW×Int×Int×Int×Int×Int×Int×Int×Int×Int×zw×zy×zy×(List (List zr))×(List zu)×zy×zy×(List (List zr))×(List zu)×Unit):Option (xJ (Int×Int×Int×Int×Int×Int×Int×Int×Int×Int×Int×zw×zW×Int×Int×Int×Int×Int×Int×Int×Int×Int×zw×zy×zy×(List (List zr))×(List zu)×zy×zy×(List (List zr))×(List zu)×Unit) (Int×Int×Int×Int×Int×Int×Int×Int×Int×Int×zw×zW×Int×Int×Int×Int×Int×Int×Int×Int×Int×zw×zy×zy×(List (List zr))×(List zu)×zy×zy×(List (List zr))×(List zu)×Unit) (Unit)):=yQ xL (exec xL (xD Tryz.f5 7)) 154 zcZ x
def YM (x:Int×Int×Int×Int×Int×Int×Int×Int×Int×Int×Int×Int×zw×zW×Int×Int×Int×Int×Int×Int×Int×Int×Int×zw×zE×zy×zy×(List (List zr))×(List zu)×zy×zy×(List (List zr))×(List zu)×Unit):Option (xJ (Int×Int×Int×Int×Int×Int×Int×Int×Int×Int×Int×Int×zw×zW×Int×Int×Int×Int×Int×Int×Int×Int×Int×zw×zE×zy×zy×(List (List zr))×(List zu)×zy×zy×(List (List zr))×(List zu)×Unit) (Int×Int×Int×Int×Int×Int×Int×Int×Int×Int×Int×zw×zW×Int×Int×Int×Int×Int×Int×Int×Int×Int×zw×zE×zy×zy×(List (List zr))×(List zu)×zy×zy×(List (List zr))×(List zu)×Unit) (Unit)):=yQ xL (exec xL (xD Tryz.f5 11)) 154 zce x
def YQ (x:Int×Int×Int×Int×Int×Int×Int×Int×Int×Int×Int×zw×zW×Int×Int×Int×Int×Int×Int×Int×Int×Int×zw×zy×zy×(List (List zr))×(List zu)×zy×zy×(List (List zr))×(List zu)×Unit):Option (xJ (Int×Int×Int×Int×Int×Int×Int×Int×Int×Int×Int×zw×zW×Int×Int×Int×Int×Int×Int×Int×Int×Int×zw×zy×zy×(List (List zr))×(List zu)×zy×zy×(List (List zr))×(List zu)×Unit) (Int×Int×Int×Int×Int×Int×Int×Int×Int×zw×Int×Int×Int×Int×Int×Int×Int×Int×Int×zw×zy×zy×(List (List zr))×(List zu)×zy×zy×(List (List zr))×(List zu)×Unit) (Unit)):=yQ xL (exec xL (xD Tryz.f5 17)) 154 zca x
def YO (x:Int×Int×Int×Int×Int×Int×Int×Int×Int×Int×Int×Int×zw×zW×Int×Int×Int×Int×Int×Int×Int×Int×Int×zw×zE×zy×zy×(List (List zr))×(List zu)×zy×zy×(List (List zr))×(List zu)×Unit):Option (xJ (Int×Int×Int×Int×Int×Int×Int×Int×Int×Int×Int×Int×zw×zW×Int×Int×Int×Int×Int×Int×Int×Int×Int×zw×zE×zy×zy×(List (List zr))×(List zu)×zy×zy×(List (List zr))×(List zu)×Unit) (Int×Int×Int×Int×Int×Int×Int×Int×Int×Int×Int×zw×zW×Int×Int×Int×Int×Int×Int×Int×Int×Int×zw×zE×zy×zy×(List (List zr))×(List zu)×zy×zy×(List (List zr))×(List zu)×Unit) (Unit)):=yQ xL (exec xL (xD Tryz.f5 21)) 154 zb6 x
def Zu (x:Int×Int×Int×Int×Int×Int×Int×Int×Int×Int×Int×Int×zw×zW×Int×Int×Int×Int×Int×Int×Int×Int×Int×zw×zE×(List zr)×zy×zy×(List (List zr))×(List zu)×zy×zy×(List (List zr))×(List zu)×Unit):Option (xJ (Int×Int×Int×Int×Int×Int×Int×Int×Int×Int×Int×Int×zw×zW×Int×Int×Int×Int×Int×Int×Int×Int×Int×zw×zE×(List zr)×zy×zy×(List (List zr))×(List zu)×zy×zy×(List (List zr))×(List zu)×Unit) (Int×Int×Int×Int×Int×Int×Int×Int×Int×Int×Int×zw×zW×Int×Int×Int×Int×Int×Int×Int×Int×Int×zw×zE×(List zr)×zy×zy×(List (List zr))×(List zu)×zy×zy×(List (List zr))×(List zu)×Unit) (Unit)):=yQ xL (exec xL (xD Tryz.f5 28)) 154 zb3 x
def zb4:yf E:=lo [1,2,3,6,7] ⟨[.val (.slice (.int .u8)),vI,.ptr 0,.ptr 1,vI],[.box true (L 12),.box true (L 16++[vI,.own 2,vU,.own 3,.own 4,.own 5,vI,.own 6,.own 7,.own 8,vU,vU,vI,vI,vB,vB,vI,.own 9,vI,vI,vI,.own 10,.own 11,.own 12,vI,vI]),.row true z5,.row true z5,.row true (.slice (.named 0)),.row true (.named 1),.row true z5,.row true (.int .u64),.row true z5,.row true zp,.row true zp,.row true (.named 7),.row true (.named 8)]⟩ 0 [3,6] ⟨[.ptr 0,.ptr 1],[.box true (L 12),.box true (L 16++[vI,.own 2,vU,.own 3,.own 4,.own 5,vI,.own 6,.own 7,.own 8,vU,vU,vI,vI,vB,vB,vI,.own 9,vI,vI,vI,.own 10,.own 11,.own 12,vI,vI]),.row true z5,.row true z5,.row true (.slice (.named 0)),.row true (.named 1),.row true z5,.row true (.int .u64),.row true z5,.row true zp,.row true zp,.row true (.named 7),.row true (.named 8)]⟩ [] ⟨[],[]⟩ [.one (.slice (.int .u8)),oI,oI,.str 12,oI,oI,oI,oI,oI,oI,oI,oI,oI,oU,oI,.str 9,oI,oI,oB,oB,oI,oI,oI,oI,.str 11,.one zQ,.one zQ,.one (.slice (.slice (.named 0))),.one (.slice (.named 1)),.one zQ,oM,.one zQ,oL,oL,.one (.slice (.named 7)),.one (.slice (.named 8))] [.str 12,oI,oI,oI,oI,oI,oI,oI,oI,oI,oU,oI,.str 9,oI,oI,oB,oB,oI,oI,oI,oI,.str 11,.one zQ,.one zQ,.one (.slice (.slice (.named 0))),.one (.slice (.named 1)),.one zQ,oM,.one zQ,oL,oL,.one (.slice (.named 7)),.one (.slice (.named 8))] []
def V4:Cfg E:=cf [(8,[WH])] [(2,zb4)] [] [] [] []
def zan:zM E:=sp V4 Tryz.f6 ⟨[.val (.named 12),.val (.slice (.int .u8)),vI],[]⟩ ⟨[.val (.named 12)],[]⟩ [.one (.named 12),.one (.slice (.int .u8)),oI] [.one (.named 12)]
def WV (a1:za) (a2:List (BitVec 8)) (a3:Int):Option (za×Unit):=zan.F (a1,a2,a3,())
def Zs (x:(List (BitVec 8))×Int×Int×za×Int×Int×Int×Int×Int×Int×Int×Int×Int×zw×Int×zA×Int×Int×Bool×Bool×Int×Int×Int×Int×zF×zy×zy×(List (List zr))×(List zu)×zy×(List zw)×zy×zE×zE×(List zh)×(List zg)×Unit):Option (xJ ((List (BitVec 8))×Int×Int×za×Int×Int×Int×Int×Int×Int×Int×Int×Int×zw×Int×zA×Int×Int×Bool×Bool×Int×Int×Int×Int×zF×zy×zy×(List (List zr))×(List zu)×zy×(List zw)×zy×zE×zE×(List zh)×(List zg)×Unit) (za×Int×Int×Int×Int×Int×Int×Int×Int×Int×zw×Int×zA×Int×Int×Bool×Bool×Int×Int×Int×Int×zF×zy×zy×(List (List zr))×(List zu)×zy×(List zw)×zy×zE×zE×(List zh)×(List zg)×Unit) (Unit)):=yQ V4 (exec V4 (xD Tryz.f6 2)) 32 zb4 x
def zdn:yf E:=lo [3,6,7] ⟨[vU,.val (.arr 64 zp),vI],[]⟩ 0 [3] ⟨[vU],[]⟩ [] ⟨[],[]⟩ [oU,.one (.arr 64 zp),oI] [oU] []
def zaz:Cfg E:=cf [(16,[zaA])] [(3,zdn)] [] [] [] []
def zbU:zM E:=sp zaz Tryz.f72 ⟨[.val (.arr 64 zp)],[]⟩ ⟨[vU],[]⟩ [.one (.arr 64 zp)] [oU]
def zbQ (a1:zE):Option (zw×Unit):=zbU.F (a1,())
def U3 (x:zw×zE×Int×Unit):Option (xJ (zw×zE×Int×Unit) (zw×Unit) (Unit)):=yQ zaz (exec zaz (xD Tryz.f72 3)) 19 zdn x
def zni:Cfg E:=cf1 []
def zdU:zM E:=sp zni Tryz.f74 ⟨[vI],[]⟩ ⟨[vB],[]⟩ [oI] [oB]
def zjA (a1:Int):Option (Bool×Unit):=zdU.F (a1,())
def Wi:yf E:=lo [2,3,6,7,8,9,23,24,25] ⟨[.fn 74 [],.ptr 0,.aptr zp 1,.aptr zp 2,vU,.own 3,.own 3,vI,vI],[.box true [vI,.val zQ],.row true zp,.row true zp,.row true zp]⟩ 0 [2,3,6,7,8,9] ⟨[.fn 74 [],.ptr 0,.aptr zp 1,.aptr zp 2,vU,.own 3],[.box true [vI,.val zQ],.row true zp,.row true zp,.row true zp]⟩ [] ⟨[],[]⟩ [oU,oI,oI,.str 2,oL,oL,oL] [oU,.str 2,oL,oL,oL] []
def Wl:yf E:=lo [2,3,6,7,8,9] ⟨[.fn 74 [],.ptr 0,.aptr zp 1,.aptr zp 2,vU,.own 3],[.box true [vI,.val zQ],.row true zp,.row true zp,.row true zp]⟩ 2 [6,7] ⟨[.aptr zp 0,.aptr zp 1],[.row true zp,.row true zp]⟩ [] ⟨[],[]⟩ [oU,.str 2,oL,oL,oL] [oL,oL] []
def XK:yf E:=lo [2,3,6,7,8,9,12,50,51,52] ⟨[.fn 74 [],.ptr 0,.aptr zp 1,.aptr zp 2,vU,.own 3,vI,vL,vI,vI],[.box true [vI,.val zQ],.row true zp,.row true zp,.row true zp]⟩ 4 [2,3,6,7,8,9] ⟨[.fn 74 [],.ptr 0,.aptr zp 1,.aptr zp 2,vU,.own 3],[.box true [vI,.val zQ],.row true zp,.row true zp,.row true zp]⟩ [] ⟨[],[]⟩ [oU,oI,oL,oI,oI,.str 2,oL,oL,oL] [oU,.str 2,oL,oL,oL] []
def xE:Cfg E:=cf [(28,[zgp]),(52,[zel]),(74,[zdU]),(115,[zeP])] [(5,Wi),(9,Wl),(14,XK)] [(10,1)] [] [] []
def Yt:zM E:=sp xE Tryz.f73 ⟨[.val (.named 2),vU,.fn 74 []],[]⟩ ⟨[.val (.arr 64 zp)],[]⟩ [.one (.named 2),oU] [.one (.arr 64 zp)]
def Yw (a1:zC) (a2:zw):Option (zE×Unit):=Yt.F (a1,a2,())
def ZL (x:zw×Int×Int×zC×zE×zE×zE×Unit):Option (xJ (zw×Int×Int×zC×zE×zE×zE×Unit) (zw×zC×zE×zE×zE×Unit) (Unit)):=yQ xE (exec xE (xD Tryz.f73 5)) 80 Wi x
def ZI (x:zw×zC×zE×zE×zE×Unit):Option (xJ (zw×zC×zE×zE×zE×Unit) (zE×zE×Unit) (Unit)):=yQ xE (exec xE (xD Tryz.f73 9)) 80 Wl x
def vS (x:zw×Int×zE×Int×Int×zC×zE×zE×zE×Unit):Option (xJ (zw×Int×zE×Int×Int×zC×zE×zE×zE×Unit) (zw×zC×zE×zE×zE×Unit) (Unit)):=yQ xE (exec xE (xD Tryz.f73 14)) 80 XK x
def zqg:Cfg E:=cf1 [(72,[zbU]),(73,[Yt])]
def zgL:zM E:=sp zqg Tryz.f35 ⟨[.val (.named 2),vU],[]⟩ ⟨[vU],[]⟩ [.one (.named 2),oU] [oU]
def zam (a1:zC) (a2:zw):Option (zw×Unit):=zgL.F (a1,a2,())
def zrS:Cfg E:=cf1 [(19,[zcA]),(35,[zgL])]
def ziF:zM E:=sp zrS Tryz.f9 ⟨[.val (.named 3)],[]⟩ ⟨[vU],[]⟩ [.one (.named 3)] [oU]
def zjc (a1:zc):Option (zw×Unit):=ziF.F (a1,())
def zfI:yf E:=lo [1,3,36,37,38] ⟨[.ptr 0,vI,vL,vI,vI],[.box true (L 10)]⟩ 0 [1,3] ⟨[.ptr 0,vI],[.box true (L 10)]⟩ [2] ⟨[vB],[]⟩ [oI,oL,oI,oI,.str 10] [oI,.str 10] [oB]
def zbW:Cfg E:=cf [] [(5,zfI)] [] [] [] []
def zdQ:zM E:=sp zbW Tryz.f11 ⟨[.val (.named 10)],[]⟩ ⟨[vB],[]⟩ [.one (.named 10)] [oB]
def zdp (a1:zD):Option (Bool×Unit):=zdQ.F (a1,())
def Xb (x:Int×zE×Int×Int×zD×Unit):Option (xJ (Int×zE×Int×Int×zD×Unit) (Int×zD×Unit) (Bool×Unit)):=yQ zbW (exec zbW (xD Tryz.f11 5)) 56 zfI x
def UA:yf E:=lo [5,6,7,8] ⟨[vB,.ptr 0,.ptr 1,vI],[.box true (L 3),.box true (L 12)]⟩ 0 [5,6,7] ⟨[vB,.ptr 0,.ptr 1],[.box true (L 3),.box true (L 12)]⟩ [] ⟨[],[]⟩ [oB,oI,.str 3,.str 12] [oB,.str 3,.str 12] []
def VY:yf E:=lo [5,6,7,8,9] ⟨[vB,.ptr 0,.ptr 1,vI,vI],[.box true (L 3),.box true (L 12)]⟩ 2 [5,6,7,8] ⟨[vB,.ptr 0,.ptr 1,vI],[.box true (L 3),.box true (L 12)]⟩ [] ⟨[],[]⟩ [oB,oI,oI,.str 3,.str 12] [oB,oI,.str 3,.str 12] []
def um:Cfg E:=cf [(4,[VF]),(5,[za4]),(6,[zan]),(7,[zeu]),(8,[WH]),(9,[ziF]),(10,[zez]),(11,[zdQ])] [(7,UA),(10,VY)] [] [] [] []
def Wv:zM E:=sp um Tryz.f3 ⟨[.val (.slice (.int .u8)),.val (.slice (.int .u8))],[]⟩ ⟨[vB],[]⟩ [.one (.slice (.int .u8)),.one (.slice (.int .u8))] [oB]
def uV (a1:List (BitVec 8)) (a2:List (BitVec 8)):Option (Bool×Unit):=Wv.F (a1,a2,())
def w9 (x:Bool×Int×zc×za×Unit):Option (xJ (Bool×Int×zc×za×Unit) (Bool×zc×za×Unit) (Unit)):=yQ um (exec um (xD Tryz.f3 7)) 78 UA x
def wO (x:Bool×Int×Int×zc×za×Unit):Option (xJ (Bool×Int×Int×zc×za×Unit) (Bool×Int×zc×za×Unit) (Unit)):=yQ um (exec um (xD Tryz.f3 10)) 78 VY x
end
end Go.Pe.G
namespace Go.Pe.G
open Go.Pe
theorem zjJ (a1:zw):zeR a1 =
 some (zvC (((((((((((((a1 >>> 1)&&&6148914691236517205#64)+(a1&&&6148914691236517205#64)) >>> 2)&&&3689348814741910323#64)+((((a1 >>> 1)&&&6148914691236517205#64)+(a1&&&6148914691236517205#64))&&&3689348814741910323#64)) >>> 4)+((((((a1 >>> 1)&&&6148914691236517205#64)+(a1&&&6148914691236517205#64)) >>> 2)&&&3689348814741910323#64)+((((a1 >>> 1)&&&6148914691236517205#64)+(a1&&&6148914691236517205#64))&&&3689348814741910323#64)))&&&1085102592571150095#64)+((((((((((a1 >>> 1)&&&6148914691236517205#64)+(a1&&&6148914691236517205#64)) >>> 2)&&&3689348814741910323#64)+((((a1 >>> 1)&&&6148914691236517205#64)+(a1&&&6148914691236517205#64))&&&3689348814741910323#64)) >>> 4)+((((((a1 >>> 1)&&&6148914691236517205#64)+(a1&&&6148914691236517205#64)) >>> 2)&&&3689348814741910323#64)+((((a1 >>> 1)&&&6148914691236517205#64)+(a1&&&6148914691236517205#64))&&&3689348814741910323#64)))&&&1085102592571150095#64) >>> 8))+(((((((((((a1 >>> 1)&&&6148914691236517205#64)+(a1&&&6148914691236517205#64)) >>> 2)&&&3689348814741910323#64)+((((a1 >>> 1)&&&6148914691236517205#64)+(a1&&&6148914691236517205#64))&&&3689348814741910323#64)) >>> 4)+((((((a1 >>> 1)&&&6148914691236517205#64)+(a1&&&6148914691236517205#64)) >>> 2)&&&3689348814741910323#64)+((((a1 >>> 1)&&&6148914691236517205#64)+(a1&&&6148914691236517205#64))&&&3689348814741910323#64)))&&&1085102592571150095#64)+((((((((((a1 >>> 1)&&&6148914691236517205#64)+(a1&&&6148914691236517205#64)) >>> 2)&&&3689348814741910323#64)+((((a1 >>> 1)&&&6148914691236517205#64)+(a1&&&6148914691236517205#64))&&&3689348814741910323#64)) >>> 4)+((((((a1 >>> 1)&&&6148914691236517205#64)+(a1&&&6148914691236517205#64)) >>> 2)&&&3689348814741910323#64)+((((a1 >>> 1)&&&6148914691236517205#64)+(a1&&&6148914691236517205#64))&&&3689348814741910323#64)))&&&1085102592571150095#64) >>> 8)) >>> 16))+((((((((((((a1 >>> 1)&&&6148914691236517205#64)+(a1&&&6148914691236517205#64)) >>> 2)&&&3689348814741910323#64)+((((a1 >>> 1)&&&6148914691236517205#64)+(a1&&&6148914691236517205#64))&&&3689348814741910323#64)) >>> 4)+((((((a1 >>> 1)&&&6148914691236517205#64)+(a1&&&6148914691236517205#64)) >>> 2)&&&3689348814741910323#64)+((((a1 >>> 1)&&&6148914691236517205#64)+(a1&&&6148914691236517205#64))&&&3689348814741910323#64)))&&&1085102592571150095#64)+((((((((((a1 >>> 1)&&&6148914691236517205#64)+(a1&&&6148914691236517205#64)) >>> 2)&&&3689348814741910323#64)+((((a1 >>> 1)&&&6148914691236517205#64)+(a1&&&6148914691236517205#64))&&&3689348814741910323#64)) >>> 4)+((((((a1 >>> 1)&&&6148914691236517205#64)+(a1&&&6148914691236517205#64)) >>> 2)&&&3689348814741910323#64)+((((a1 >>> 1)&&&6148914691236517205#64)+(a1&&&6148914691236517205#64))&&&3689348814741910323#64)))&&&1085102592571150095#64) >>> 8))+(((((((((((a1 >>> 1)&&&6148914691236517205#64)+(a1&&&6148914691236517205#64)) >>> 2)&&&3689348814741910323#64)+((((a1 >>> 1)&&&6148914691236517205#64)+(a1&&&6148914691236517205#64))&&&3689348814741910323#64)) >>> 4)+((((((a1 >>> 1)&&&6148914691236517205#64)+(a1&&&6148914691236517205#64)) >>> 2)&&&3689348814741910323#64)+((((a1 >>> 1)&&&6148914691236517205#64)+(a1&&&6148914691236517205#64))&&&3689348814741910323#64)))&&&1085102592571150095#64)+((((((((((a1 >>> 1)&&&6148914691236517205#64)+(a1&&&6148914691236517205#64)) >>> 2)&&&3689348814741910323#64)+((((a1 >>> 1)&&&6148914691236517205#64)+(a1&&&6148914691236517205#64))&&&3689348814741910323#64)) >>> 4)+((((((a1 >>> 1)&&&6148914691236517205#64)+(a1&&&6148914691236517205#64)) >>> 2)&&&3689348814741910323#64)+((((a1 >>> 1)&&&6148914691236517205#64)+(a1&&&6148914691236517205#64))&&&3689348814741910323#64)))&&&1085102592571150095#64) >>> 8)) >>> 16)) >>> 32)).toInt) 127,()):=zK
theorem zp3 (a1:zw):zeG a1 =
 (zeR a1).bind fun y1 =>
 some (y1.1,()):=zK
theorem znn (a1:Int) (a2:Int) (a3:Int):uI a1 a2 a3 =
 bif decide (a2<=a1) then
 some (decide (a1<=a3),())
 else
 some (false,()):=zK
theorem zkA (a1:zc):zbg a1 =
 (uI a1.Workers 1 16).bind fun y1 =>
 bif y1.1 then
 (uI a1.Mutators 0 16).bind fun y2 =>
 bif y2.1 then
  (uI a1.Cap 1 16).bind fun y3 =>
  bif y3.1 then
  (uI a1.Buf 1 8).bind fun y4 =>
  bif y4.1 then
   (uI a1.Bin 1 8).bind fun y5 =>
   bif y5.1 then
   bif decide (0<=(bif decide (a1.Limit<a1.Price) then a1.Limit else a1.Price)) then
    some (decide ((bif decide (a1.Price<a1.Limit) then a1.Limit else a1.Price)<=1000000),())
   else
    some (false,())
   else
   some (false,())
  else
   some (false,())
  else
  some (false,())
 else
  some (false,())
 else
 some (false,()):=zK
theorem zkY (a1:Int) (a2:zC):zhn a1 a2 =
 bif decide (a1<0) then
 some (true,())
 else
 some (decide (((a2.Objs.length:Int))<a1),()):=zK
theorem ui (s1:zE) (s2:Int) (s3:Int) (s4:zC):uG (s1,s2,s3,s4,()) =
 bif decide (s3<s2) then
 (idx s1 s3).bind fun x1 =>
 (zhn x1 s4).bind fun y2 =>
 bif y2.1 then
  some (.ret (s3,()))
 else
  some (.again (s1,s2,w64 (s3+1),s4,()))
 else
 some (.brk (())):=by kernel_rfl
theorem XP (a1:zE) (a2:zC):Za a1 a2 =
 (yM uG (a1,(a1.length:Int),0,a2,())).bind fun st=>match st with
  | .again _=>none
  | .brk y1 =>
  some (-1,())
  | .ret y1 =>
  some (y1.1,()):=zK
theorem Y9 (a1:zE) (a2:zC):wJ a1 a2 =
 (Za a1 a2).bind fun y1 =>
 some (decide (0<=y1.1),()):=zK
theorem zmG (a1:zE) (a2:zC):zjH a1 a2 =
 bif !(decide (((a1.length:Int))=a2.Slots)) then
 some (true,())
 else
 (wJ a1 a2).bind fun y1 =>
 some (y1.1,()):=zK
theorem uj (s1:zy) (s2:Int) (s3:Int) (s4:zC):uE (s1,s2,s3,s4,()) =
 bif decide (s3<s2) then
 (idx s1 s3).bind fun x1 =>
 (zjH x1 s4).bind fun y2 =>
 bif y2.1 then
  some (.ret (s3,()))
 else
  some (.again (s1,s2,w64 (s3+1),s4,()))
 else
 some (.brk (())):=by kernel_rfl
theorem XI (a1:zy) (a2:zC):u7 a1 a2 =
 (yM uE (a1,(a1.length:Int),0,a2,())).bind fun st=>match st with
  | .again _=>none
  | .brk y1 =>
  some (-1,())
  | .ret y1 =>
  some (y1.1,()):=zK
theorem Y5 (a1:zy) (a2:zC):wH a1 a2 =
 (u7 a1 a2).bind fun y1 =>
 some (decide (0<=y1.1),()):=zK
theorem zpB (a1:zC):zgw a1 =
 bif decide (1<=a1.Slots) then
 bif decide (a1.Slots<=4) then
  bif decide (((a1.Objs.length:Int))<=64) then
  (wH a1.Objs a1).bind fun y1 =>
  some (!y1.1,())
  else
  some (false,())
 else
  some (false,())
 else
 some (false,()):=zK
theorem zql (a1:zw) (a2:zw):zm6 a1 a2 =
 some (decide ((a1&&& ~~~a2)=0#64),()):=zK
theorem zpO (a1:Int):zej a1 =
 bif decide (a1<1) then
 some (0#64,())
 else
 bif decide ((w64 (64-(bif decide (64<a1) then 64 else a1)))<0) then
  none
 else
  some (18446744073709551615#64 >>> min (w64 (64-(bif decide (64<a1) then 64 else a1))).toNat 64,()):=zK
theorem zmU (a1:Int) (a2:Int):zjk a1 a2 =
 (uI a1 0 a2).bind fun y1 =>
 some (!y1.1,()):=zK
theorem uw (s1:zE) (s2:Int) (s3:Int) (s4:Int):uW (s1,s2,s3,s4,()) =
 bif decide (s3<s2) then
 (idx s1 s3).bind fun x1 =>
 (zjk x1 s4).bind fun y2 =>
 bif y2.1 then
  some (.ret (s3,()))
 else
  some (.again (s1,s2,w64 (s3+1),s4,()))
 else
 some (.brk (())):=by kernel_rfl
theorem Wm (a1:zE) (a2:Int):Zn a1 a2 =
 (yM uW (a1,(a1.length:Int),0,a2,())).bind fun st=>match st with
  | .again _=>none
  | .brk y1 =>
  some (-1,())
  | .ret y1 =>
  some (y1.1,()):=zK
theorem XE (a1:zE) (a2:Int):wT a1 a2 =
 (Zn a1 a2).bind fun y1 =>
 some (decide (0<=y1.1),()):=zK
theorem zmJ (a1:Int) (a2:Int):yq a1 a2 =
 bif decide (0<=a1) then
 some (decide (a1<(bif decide (4<a2) then 4 else a2)),())
 else
 some (false,()):=zK
theorem zo2 (a1:zr) (a2:Int) (a3:Int):zgK a1 a2 a3 =
 bif decide (0<=a1.S) then
 bif decide (a1.Kind=1) then
  bif decide (a1.Kind=1) then
  (yq a1.R a2).bind fun y1 =>
  bif y1.1 then
   (yq a1.A a2).bind fun y2 =>
   bif y2.1 then
   some (decide (a1.S<(bif decide (4<a3) then 4 else a3)),())
   else
   some (false,())
  else
   some (false,())
  else
  bif decide (a1.Kind=4) then
   (yq a1.R a2).bind fun y3 =>
   bif y3.1 then
   (yq a1.A a2).bind fun y4 =>
   bif y4.1 then
    some (decide (a1.S=0),())
   else
    some (false,())
   else
   some (false,())
  else
   bif decide (a1.Kind=3) then
   bif decide (a1.Kind=3) then
    (yq a1.R a2).bind fun y5 =>
    bif y5.1 then
    bif decide (a1.A=0) then
     some (decide (a1.S=0),())
    else
     some (false,())
    else
    some (false,())
   else
    some (false,())
   else
   bif decide (a1.Kind=5) then
    (yq a1.R a2).bind fun y6 =>
    bif y6.1 then
    bif decide (a1.A=0) then
     some (decide (a1.S=0),())
    else
     some (false,())
    else
    some (false,())
   else
    some (false,())
 else
  bif decide (a1.Kind=2) then
  (yq a1.R a2).bind fun y7 =>
  bif y7.1 then
   (yq a1.A a2).bind fun y8 =>
   bif y8.1 then
   some (decide (a1.S<(bif decide (4<a3) then 4 else a3)),())
   else
   some (false,())
  else
   some (false,())
  else
  bif decide (a1.Kind=4) then
   (yq a1.R a2).bind fun y9 =>
   bif y9.1 then
   (yq a1.A a2).bind fun y10 =>
   bif y10.1 then
    some (decide (a1.S=0),())
   else
    some (false,())
   else
   some (false,())
  else
   bif decide (a1.Kind=3) then
   bif decide (a1.Kind=3) then
    (yq a1.R a2).bind fun y11 =>
    bif y11.1 then
    bif decide (a1.A=0) then
     some (decide (a1.S=0),())
    else
     some (false,())
    else
    some (false,())
   else
    some (false,())
   else
   bif decide (a1.Kind=5) then
    (yq a1.R a2).bind fun y12 =>
    bif y12.1 then
    bif decide (a1.A=0) then
     some (decide (a1.S=0),())
    else
     some (false,())
    else
    some (false,())
   else
    some (false,())
 else
 bif decide (a1.Kind=1) then
  bif decide (a1.Kind=1) then
  (yq a1.R a2).bind fun y13 =>
  bif y13.1 then
   (yq a1.A a2).bind fun y14 =>
   bif y14.1 then
   some (false,())
   else
   some (false,())
  else
   some (false,())
  else
  bif decide (a1.Kind=4) then
   (yq a1.R a2).bind fun y15 =>
   bif y15.1 then
   (yq a1.A a2).bind fun y16 =>
   bif y16.1 then
    some (decide (a1.S=0),())
   else
    some (false,())
   else
   some (false,())
  else
   bif decide (a1.Kind=3) then
   bif decide (a1.Kind=3) then
    (yq a1.R a2).bind fun y17 =>
    bif y17.1 then
    bif decide (a1.A=0) then
     some (decide (a1.S=0),())
    else
     some (false,())
    else
    some (false,())
   else
    some (false,())
   else
   bif decide (a1.Kind=5) then
    (yq a1.R a2).bind fun y18 =>
    bif y18.1 then
    bif decide (a1.A=0) then
     some (decide (a1.S=0),())
    else
     some (false,())
    else
    some (false,())
   else
    some (false,())
 else
  bif decide (a1.Kind=2) then
  (yq a1.R a2).bind fun y19 =>
  bif y19.1 then
   (yq a1.A a2).bind fun y20 =>
   bif y20.1 then
   some (false,())
   else
   some (false,())
  else
   some (false,())
  else
  bif decide (a1.Kind=4) then
   (yq a1.R a2).bind fun y21 =>
   bif y21.1 then
   (yq a1.A a2).bind fun y22 =>
   bif y22.1 then
    some (decide (a1.S=0),())
   else
    some (false,())
   else
   some (false,())
  else
   bif decide (a1.Kind=3) then
   bif decide (a1.Kind=3) then
    (yq a1.R a2).bind fun y23 =>
    bif y23.1 then
    bif decide (a1.A=0) then
     some (decide (a1.S=0),())
    else
     some (false,())
    else
    some (false,())
   else
    some (false,())
   else
   bif decide (a1.Kind=5) then
    (yq a1.R a2).bind fun y24 =>
    bif y24.1 then
    bif decide (a1.A=0) then
     some (decide (a1.S=0),())
    else
     some (false,())
    else
    some (false,())
   else
    some (false,()):=zK
theorem znr (a1:zr) (a2:Int) (a3:Int):zkO a1 a2 a3 =
 (zgK a1 a2 a3).bind fun y1 =>
 some (!y1.1,()):=zK
theorem vE (s1:List zr) (s2:Int) (s3:Int) (s4:Int) (s5:Int):vW (s1,s2,s3,s4,s5,()) =
 bif decide (s3<s2) then
 (idx s1 s3).bind fun x1 =>
 (zkO x1 s4 s5).bind fun y2 =>
 bif y2.1 then
  some (.ret (s3,()))
 else
  some (.again (s1,s2,w64 (s3+1),s4,s5,()))
 else
 some (.brk (())):=by kernel_rfl
theorem YH (a1:List zr) (a2:Int) (a3:Int):uo a1 a2 a3 =
 (yM vW (a1,(a1.length:Int),0,a2,a3,())).bind fun st=>match st with
  | .again _=>none
  | .brk y1 =>
  some (-1,())
  | .ret y1 =>
  some (y1.1,()):=zK
theorem Yu (a1:List zr) (a2:Int) (a3:Int):vX a1 a2 a3 =
 (uo a1 a2 a3).bind fun y1 =>
 some (decide (0<=y1.1),()):=zK
theorem zqz (a1:List zr) (a2:Int) (a3:Int):ziR a1 a2 a3 =
 bif decide (((a1.length:Int))<=64) then
 (vX a1 a2 a3).bind fun y1 =>
 some (!y1.1,())
 else
 some (false,()):=zK
theorem zy8 (a1:zu):zlr a1 =
 bif decide (a1.Kind=0) then
 some (decide (a1.N=0),())
 else
 bif decide (a1.Kind=1) then
  bif decide (1<=a1.N) then
  some (decide (a1.N<=16),())
  else
  some (false,())
 else
  bif decide (a1.Kind=2) then
  bif decide (1<=a1.N) then
   some (decide (a1.N<=16),())
  else
   some (false,())
  else
  some (false,()):=zK
theorem zxM (a1:zu) (a2:Int) (a3:Int):zjK a1 a2 a3 =
 (zlr a1).bind fun y1 =>
 bif !y1.1 then
 some (true,())
 else
 bif decide (a1.Kind=1) then
  some (decide (a2<a1.N),())
 else
  bif decide (a1.Kind=2) then
  some (decide (a3<a1.N),())
  else
  some (decide (0<a1.N),()):=zK
theorem ZO (s1:List zu) (s2:Int) (s3:Int) (s4:Int) (s5:Int):vl (s1,s2,s3,s4,s5,()) =
 bif decide (s3<s2) then
 (idx s1 s3).bind fun x1 =>
 (zjK x1 s4 s5).bind fun y2 =>
 bif y2.1 then
  some (.ret (s3,()))
 else
  some (.again (s1,s2,w64 (s3+1),s4,s5,()))
 else
 some (.brk (())):=by kernel_rfl
theorem Yf (a1:List zu) (a2:Int) (a3:Int):vG a1 a2 a3 =
 (yM vl (a1,(a1.length:Int),0,a2,a3,())).bind fun st=>match st with
  | .again _=>none
  | .brk y1 =>
  some (-1,())
  | .ret y1 =>
  some (y1.1,()):=zK
theorem ZQ (a1:List zu) (a2:Int) (a3:Int):vn a1 a2 a3 =
 (vG a1 a2 a3).bind fun y1 =>
 some (decide (0<=y1.1),()):=zK
theorem zoo (a1:List zu) (a2:Int) (a3:Int):zhv a1 a2 a3 =
 (vn a1 a2 a3).bind fun y1 =>
 some (!y1.1,()):=zK
theorem zeW (s1:zy) (s2:Int) (s3:Int) (s4:zc) (s5:Int):zib (s1,s2,s3,s4,s5,()) =
 bif decide (s3<s2) then
 (idx s1 s3).bind fun x1 =>
 (uI ((x1.length:Int)) 1 4).bind fun y2 =>
 bif !y2.1 then
  some (.ret (false,()))
 else
  (wT x1 s5).bind fun y3 =>
  bif y3.1 then
  some (.ret (false,()))
  else
  (idx s4.Progs s3).bind fun x4 =>
  (ziR x4 ((x1.length:Int)) s4.H.Slots).bind fun y5 =>
  bif !y5.1 then
   some (.ret (false,()))
  else
   some (.again (s1,s2,w64 (s3+1),s4,s5,()))
 else
 some (.brk (s4,())):=by kernel_rfl
theorem zpo (a1:zc):zg6 a1 =
 (zbg a1).bind fun y1 =>
 bif !y1.1 then
 some (false,())
 else
 (zgw a1.H).bind fun y2 =>
 bif !y2.1 then
  some (false,())
 else
  (uI a1.Most ((a1.H.Objs.length:Int)) 64).bind fun y3 =>
  bif !y3.1 then
  some (false,())
  else
  (zej ((a1.H.Objs.length:Int))).bind fun y4 =>
  (zm6 a1.Roots y4.1).bind fun y5 =>
  bif !y5.1 then
   some (false,())
  else
   bif !(decide (((a1.Regs.length:Int))=a1.Mutators)) then
   some (false,())
   else
   bif !(decide (((a1.Progs.length:Int))=a1.Mutators)) then
    some (false,())
   else
    (yM zib (a1.Regs,(a1.Regs.length:Int),0,a1,(a1.H.Objs.length:Int),())).bind fun st=>match st with
     | .again _=>none
     | .brk y6 =>
     bif decide (((y6.1.Picks.length:Int))<=100000) then
     (zhv y6.1.Picks y6.1.Workers y6.1.Mutators).bind fun y7 =>
     some (y7.1,())
     else
     some (false,())
     | .ret y6 =>
     some (y6.1,()):=zK
theorem zth (a1:Int):zih a1 =
 bif decide (a1<1) then
 some (0#64,())
 else
 bif decide (64<a1) then
  some (0#64,())
 else
  bif decide ((w64 (a1-1))<0) then
  none
  else
  some (1#64 <<< min (w64 (a1-1)).toNat 64,()):=zK
theorem ztN (a1:zw) (a2:Int):zau a1 a2 =
 (zih a2).bind fun y1 =>
 some (a1|||y1.1,()):=zK
theorem zpR (s1:zw) (s2:zE) (s3:Int) (s4:Int):ziV (s1,s2,s3,s4,()) =
 bif decide (s4<s3) then
 (idx s2 s4).bind fun x1 =>
 (zau s1 x1).bind fun y2 =>
 some (.again (y2.1,s2,s3,w64 (s4+1),()))
 else
 some (.brk (s1,())):=by kernel_rfl
theorem zup (a1:zE):znE a1 =
 (yM ziV (0#64,a1,(a1.length:Int),0,())).bind fun st=>match st with
  | .again _=>none
  | .brk y1 =>
  some (y1.1,())
  | .ret y1 =>
  none:=zK
theorem zlF (s1:zw) (s2:zy) (s3:Int) (s4:Int):zcJ (s1,s2,s3,s4,()) =
 bif decide (s4<s3) then
 (idx s2 s4).bind fun x1 =>
 (znE x1).bind fun y2 =>
 some (.again (s1|||y2.1,s2,s3,w64 (s4+1),()))
 else
 some (.brk (s1,())):=by kernel_rfl
theorem zpc (a1:zc):zcS a1 =
 (yM zcJ (a1.Roots,a1.Regs,(a1.Regs.length:Int),0,())).bind fun st=>match st with
  | .again _=>none
  | .brk y1 =>
  some (y1.1,())
  | .ret y1 =>
  none:=zK
theorem zoS (a1:Int):zgD a1 =
 bif decide ((bif decide ((bif decide (16<a1) then 16 else a1)<0) then 0 else (bif decide (16<a1) then 16 else a1))=(bif decide ((bif decide (16<a1) then 16 else a1)<0) then 0 else (bif decide (16<a1) then 16 else a1))) then
 (U5 (bif decide ((bif decide (16<a1) then 16 else a1)<0) then 0 else (bif decide (16<a1) then 16 else a1))).bind fun n1 =>
 some (zD.mk 0 0 0 (List.replicate n1 ((0:Int))),())
 else
 none:=zK
theorem zfh (a1:zE):uX a1 =
 bif a1.isEmpty then
 zkJ (
  some (([]:zE),())) (
  (vQ (([]:zE)++a1)).bind fun l1 =>
  some (l1,()))
 else
 (vQ (([]:zE)++a1)).bind fun l2 =>
 some (l2,()):=zK
theorem XG (s1:Int) (s2:Int) (s3:zy):xr (s1,s2,s3,()) =
 bif decide (s2<s1) then
 (Yh s3 s2).bind fun n1 =>
 (s3[n1]?).bind fun x2 =>
 (uX x2).bind fun y3 =>
 (Yh s3 s2).bind fun n4 =>
 some (.again (s1,w64 (s2+1),s3.set n4 y3.1,()))
 else
 some (.brk (s3,())):=by kernel_rfl
theorem W4 (a1:zy):vy a1 =
 bif decide (((a1.length:Int))=((a1.length:Int))) then
 (U5 ((a1.length:Int))).bind fun n1 =>
 bif decide (a1.length=((List.replicate n1 ([]:zE)).length)) then
  bif a1.isEmpty then
  (yM xr (((List.replicate n1 ([]:zE)).length:Int),0,List.replicate n1 ([]:zE),())).bind fun st=>match st with
   | .again _=>none
   | .brk y2 =>
   some (y2.1,())
   | .ret y2 =>
   none
  else
  (yM xr ((a1.length:Int),0,a1,())).bind fun st=>match st with
   | .again _=>none
   | .brk y3 =>
   some (y3.1,())
   | .ret y3 =>
   none
 else
  none
 else
 none:=zK
theorem znF (a1:Int):zfl a1 =
 bif decide ((w64 (2+(bif decide (64<(bif decide (a1<1) then 1 else a1)) then 64 else (bif decide (a1<1) then 1 else a1))))=(w64 (2+(bif decide (64<(bif decide (a1<1) then 1 else a1)) then 64 else (bif decide (a1<1) then 1 else a1))))) then
 (U5 (w64 (2+(bif decide (64<(bif decide (a1<1) then 1 else a1)) then 64 else (bif decide (a1<1) then 1 else a1))))).bind fun n1 =>
 (Yh (List.replicate n1 0#64) 0).bind fun n2 =>
 (Yh ((List.replicate n1 0#64).set n2 1#64) 1).bind fun n3 =>
 some (((List.replicate n1 0#64).set n2 1#64).set n3 1#64,())
 else
 none:=zK
theorem V6 (a1:Int) (a2:Int) (a3:Int) (a4:Int):zbH a1 a2 a3 a4 =
 some (zm.mk a1 0 a2 a3 0#64 0#64 a4 0,()):=zK
theorem zn4 (a1:zc) (a2:Int):Uy a1 a2 =
 some (w64 ((w64 (a2-1))*(w64 (a1.Cap+2))),()):=zK
theorem zqv (a1:zc):zeE a1 =
 some (w64 ((w64 (a1.Most+a1.Workers))+a1.Mutators),()):=zK
theorem zfs (a1:zE) (a2:Int):za3 a1 a2 =
 bif decide (a2<1) then
 none
 else
 some (a1,a2,()):=zK
theorem zkU (a1:zw):zpa a1 =
 some (a1,()):=zK
theorem zn5 (y:Int) (s1:zE):zfq y (s1,()) =
 (vQ (s1++([y]:zE))).bind fun l1 =>
 some (l1,()):=by kernel_rfl
theorem zkW (a1:zw):zcV a1 =
 (zpa a1).bind fun y1 =>
 (zgz y1.1).bind fun (ys2:zE) =>
 (YI zfq ys2 (([]:zE),())).bind fun (y3:zE×Unit) =>
 some (y3.1,()):=zK
theorem zrI (a1:zw):zos a1 =
 some (a1,true,()):=zK
theorem zrB (a1:zw) (a2:Z7):zpA a1 a2 =
 some (a2.A,true,()):=zK
theorem zrU (a1:zw) (a2:Z7):zoM a1 a2 =
 some (a2.B,decide (a1=a2.A),()):=zK
theorem zzZ (a1:zw) (a2:Z7):zoq a1 a2 =
 some (a1+a2.A,true,()):=zK
theorem zbP (a1:List zw):we a1 =
 bif a1.isEmpty then
 zkJ (
  some (([]:List zw),())) (
  (vQ ((([]:List zw))++a1)).bind fun l1 =>
  some (l1,()))
 else
 (vQ ((([]:List zw))++a1)).bind fun l2 =>
 some (l2,()):=zK
theorem ziG (a1:List zw) (a2:Z7):XV a1 a2 =
 bif decide (a2.Kind=1) then
 bif decide (a2.At<0) then
  some (a1,0#64,false,())
 else
  bif decide (((a1.length:Int))<=a2.At) then
  some (a1,0#64,false,())
  else
  (idx a1 a2.At).bind fun x1 =>
  (zos x1).bind fun y2 =>
  bif y2.2.1 then
   bif !(decide (x1=y2.1)) then
   (we a1).bind fun y3 =>
   (Yh y3.1 a2.At).bind fun n4 =>
   some (y3.1.set n4 y2.1,x1,y2.2.1,())
   else
   some (a1,x1,y2.2.1,())
  else
   some (a1,x1,y2.2.1,())
 else
 bif decide (a2.Kind=2) then
  bif decide (a2.At<0) then
  some (a1,0#64,false,())
  else
  bif decide (((a1.length:Int))<=a2.At) then
   some (a1,0#64,false,())
  else
   (idx a1 a2.At).bind fun x5 =>
   (zpA x5 a2).bind fun y6 =>
   bif y6.2.1 then
   bif !(decide (x5=y6.1)) then
    (we a1).bind fun y7 =>
    (Yh y7.1 a2.At).bind fun n8 =>
    some (y7.1.set n8 y6.1,x5,y6.2.1,())
   else
    some (a1,x5,y6.2.1,())
   else
   some (a1,x5,y6.2.1,())
 else
  bif decide (a2.Kind=3) then
  bif decide (a2.At<0) then
   some (a1,0#64,false,())
  else
   bif decide (((a1.length:Int))<=a2.At) then
   some (a1,0#64,false,())
   else
   (idx a1 a2.At).bind fun x9 =>
   (zoM x9 a2).bind fun y10 =>
   bif y10.2.1 then
    bif !(decide (x9=y10.1)) then
    (we a1).bind fun y11 =>
    (Yh y11.1 a2.At).bind fun n12 =>
    some (y11.1.set n12 y10.1,x9,y10.2.1,())
    else
    some (a1,x9,y10.2.1,())
   else
    some (a1,x9,y10.2.1,())
  else
  bif decide (a2.Kind=4) then
   bif decide (a2.At<0) then
   some (a1,0#64,false,())
   else
   bif decide (((a1.length:Int))<=a2.At) then
    some (a1,0#64,false,())
   else
    (idx a1 a2.At).bind fun x13 =>
    (zoq x13 a2).bind fun y14 =>
    bif y14.2.1 then
    bif !(decide (x13=y14.1)) then
     (we a1).bind fun y15 =>
     (Yh y15.1 a2.At).bind fun n16 =>
     some (y15.1.set n16 y14.1,x13,y14.2.1,())
    else
     some (a1,x13,y14.2.1,())
    else
    some (a1,x13,y14.2.1,())
  else
   bif decide (a2.At<0) then
   some (a1,0#64,false,())
   else
   bif decide (((a1.length:Int))<=a2.At) then
    some (a1,0#64,false,())
   else
    some (a1,0#64,false,()):=zK
theorem znV (a1:List zw) (a2:Int) (a3:zw):YR a1 a2 a3 =
 (XV a1 (Z7.mk 2 a2 a3 0#64)).bind fun y1 =>
 some (y1.1,()):=zK
theorem zou (a1:zw) (a2:Int):VM a1 a2 =
 some ((a1 <<< 32)|||((BitVec.ofInt 64 a2)&&&4294967295#64),()):=zK
theorem zfL (s1:List zw) (s2:Int) (s3:Int) (s4:zE) (s5:Int) (s6:Int):zdJ (s1,s2,s3,s4,s5,s6,()) =
 bif decide (s6<s5) then
 bif decide ((w64 (s6+1))<((s4.length:Int))) then
  (idx s4 (w64 (s6+1))).bind fun x1 =>
  (idx s4 s6).bind fun x2 =>
  (YR s1 (w64 (s3+x2)) (BitVec.ofInt 64 x1)).bind fun y3 =>
  some (.again (y3.1,s2,s3,s4,s5,w64 (s6+1),()))
 else
  (idx s4 s6).bind fun x4 =>
  (YR s1 (w64 (s3+x4)) 0#64).bind fun y5 =>
  some (.again (y5.1,s2,s3,s4,s5,w64 (s6+1),()))
 else
 some (.brk (s1,s2,s4,())):=by kernel_rfl
theorem zqd (a1:List zw) (a2:Int) (a3:Int) (a4:zE):zey a1 a2 a3 a4 =
 (yM zdJ (a1,a2,a3,a4,(a4.length:Int),0,())).bind fun st=>match st with
  | .again _=>none
  | .brk y1 =>
  bif decide (0<((y1.2.2.1.length:Int))) then
  (idx y1.2.2.1 0).bind fun x2 =>
  (VM 0#64 x2).bind fun y3 =>
  (YR y1.1 y1.2.1 y3.1).bind fun y4 =>
  some (y4.1,())
  else
  (VM 0#64 0).bind fun y5 =>
  (YR y1.1 y1.2.1 y5.1).bind fun y6 =>
  some (y6.1,())
  | .ret y1 =>
  none:=zK
theorem zoV (a1:zc):VJ a1 =
 some (w64 (a1.Workers*(w64 (a1.Cap+2))),()):=zK
theorem zn8 (a1:zc):WL a1 =
 (VJ a1).bind fun y1 =>
 some (w64 (y1.1+1),()):=zK
theorem zoF (a1:zc):XS a1 =
 (WL a1).bind fun y1 =>
 some (y1.1,()):=zK
end Go.Pe.G
namespace Go.Pe.G
open Go.Pe
theorem zmH (s1:zw) (s2:Int) (s3:Int) (s4:zc) (s5:Int) (s6:Int) (s7:Int) (s8:Int) (s9:Int) (s10:Int) (s11:Int) (s12:Int) (s13:Int) (s14:zw) (s15:Int) (s16:zA) (s17:Int) (s18:Int) (s19:Bool) (s20:Bool) (s21:Int) (s22:Int) (s23:Int) (s24:Int) (s25:zF) (s26:zc) (s27:Int) (s28:zA) (s29:Int) (s30:Int) (s31:Bool) (s32:Bool) (s33:Int) (s34:zD) (s35:zF) (s36:zy) (s37:zy) (s38:List (List zr)) (s39:List zu) (s40:zy) (s41:List zw) (s42:zy) (s43:zE) (s44:zE) (s45:List zh) (s46:List zg) (s47:zy) (s48:List zw) (s49:zy) (s50:zE) (s51:List zh) (s52:List zg):zaS (s1,s2,s3,s4,s5,s6,s7,s8,s9,s10,s11,s12,s13,s14,s15,s16,s17,s18,s19,s20,s21,s22,s23,s24,s25,s26,s27,s28,s29,s30,s31,s32,s33,s34,s35,s36,s37,s38,s39,s40,s41,s42,s43,s44,s45,s46,s47,s48,s49,s50,s51,s52,()) =
 bif decide (s3<s2) then
 (zfl s4.Cap).bind fun y1 =>
 (vQ (s48++y1.1)).bind fun l2 =>
 (Uy s4 (w64 (s3+1))).bind fun y3 =>
 (zbH 2 y3.1 s4.Cap 0).bind fun y4 =>
 (vQ (s51++(([(zh.mk 0 0 0 (w64 (s3+1)) 0 (([]:zE)) y4.1 (zJ.mk 0 0 0 0 0#64 0 0 0) (zH.mk 0 0 0 0 (zm.mk 0 0 0 0 0#64 0#64 0 0) (zJ.mk 0 0 0 0 0#64 0 0 0) 0 0))]:List zh)))).bind fun l5 =>
 some (.again (s1,s2,w64 (s3+1),s4,s5,s6,s7,s8,s9,s10,s11,s12,s13,s14,s15,s16,s17,s18,s19,s20,s21,s22,s23,s24,s25,s26,s27,s28,s29,s30,s31,s32,s33,s34,s35,s36,s37,s38,s39,s40,s41,s42,s43,s44,s45,s46,s47,l2,s49,s50,l5,s52,()))
 else
 some (.brk (s1,s4,s5,s6,s7,s8,s9,s10,s11,s12,s13,s14,s15,s16,s17,s18,s19,s20,s21,s22,s23,s24,s25,s26,s27,s28,s29,s30,s31,s32,s33,s34,s35,s36,s37,s38,s39,s40,s41,s42,s43,s44,s45,s46,s47,s48,s49,s50,s51,s52,())):=by kernel_rfl
theorem zll (s1:zw) (s2:Int) (s3:Int) (s4:zc) (s5:Int) (s6:Int) (s7:Int) (s8:Int) (s9:Int) (s10:Int) (s11:Int) (s12:Int) (s13:Int) (s14:zw) (s15:Int) (s16:zA) (s17:Int) (s18:Int) (s19:Bool) (s20:Bool) (s21:Int) (s22:Int) (s23:Int) (s24:Int) (s25:zF) (s26:zc) (s27:Int) (s28:zA) (s29:Int) (s30:Int) (s31:Bool) (s32:Bool) (s33:Int) (s34:zD) (s35:zF) (s36:zE) (s37:zy) (s38:zy) (s39:List (List zr)) (s40:List zu) (s41:zy) (s42:List zw) (s43:zy) (s44:zE) (s45:zE) (s46:List zh) (s47:List zg) (s48:zy) (s49:List zw) (s50:zy) (s51:zE) (s52:List zh) (s53:List zg):zab (s1,s2,s3,s4,s5,s6,s7,s8,s9,s10,s11,s12,s13,s14,s15,s16,s17,s18,s19,s20,s21,s22,s23,s24,s25,s26,s27,s28,s29,s30,s31,s32,s33,s34,s35,s36,s37,s38,s39,s40,s41,s42,s43,s44,s45,s46,s47,s48,s49,s50,s51,s52,s53,()) =
 bif decide (s3<s2) then
 (vQ (s36++(([(w64 (s3+1))]:zE)))).bind fun l1 =>
 some (.again (s1,s2,w64 (s3+1),s4,s5,s6,s7,s8,s9,s10,s11,s12,s13,s14,s15,s16,s17,s18,s19,s20,s21,s22,s23,s24,s25,s26,s27,s28,s29,s30,s31,s32,s33,s34,s35,l1,s37,s38,s39,s40,s41,s42,s43,s44,s45,s46,s47,s48,s49,s50,s51,s52,s53,()))
 else
 some (.brk (s1,s4,s5,s6,s7,s8,s9,s10,s11,s12,s13,s14,s15,s16,s17,s18,s19,s20,s21,s22,s23,s24,s25,s26,s27,s28,s29,s30,s31,s32,s33,s34,s35,s36,s37,s38,s39,s40,s41,s42,s43,s44,s45,s46,s47,s48,s49,s50,s51,s52,s53,())):=by kernel_rfl
theorem zl4 (y:zE) (s1:zc) (s2:Int) (s3:Int) (s4:Int) (s5:Int) (s6:Int) (s7:Int) (s8:Int) (s9:Int) (s10:Int) (s11:zw) (s12:Int) (s13:zA) (s14:Int) (s15:Int) (s16:Bool) (s17:Bool) (s18:Int) (s19:Int) (s20:Int) (s21:Int) (s22:zF) (s23:zc) (s24:Int) (s25:zA) (s26:Int) (s27:Int) (s28:Bool) (s29:Bool) (s30:Int) (s31:zD) (s32:zF) (s33:zE) (s34:zy) (s35:zy) (s36:List (List zr)) (s37:List zu) (s38:zy) (s39:List zw) (s40:zy) (s41:zE) (s42:zE) (s43:List zh) (s44:List zg) (s45:zy) (s46:List zw) (s47:zy) (s48:zE) (s49:List zh) (s50:List zg):zc9 y (s1,s2,s3,s4,s5,s6,s7,s8,s9,s10,s11,s12,s13,s14,s15,s16,s17,s18,s19,s20,s21,s22,s23,s24,s25,s26,s27,s28,s29,s30,s31,s32,s33,s34,s35,s36,s37,s38,s39,s40,s41,s42,s43,s44,s45,s46,s47,s48,s49,s50,()) =
 (uX y).bind fun y1 =>
 (vQ (s47++(([y1.1]:zy)))).bind fun l2 =>
 some (s1,s2,s3,s4,s5,s6,s7,s8,s9,s10,s11,s12,s13,s14,s15,s16,s17,s18,s19,s20,s21,s22,s23,s24,s25,s26,s27,s28,s29,s30,s31,s32,s33,s34,s35,s36,s37,s38,s39,s40,s41,s42,s43,s44,s45,s46,l2,s48,s49,s50,()):=by kernel_rfl
theorem zlY (s1:zy) (s2:Int) (s3:Int) (s4:Int) (s5:Int) (s6:Int) (s7:Int) (s8:Int) (s9:Int) (s10:Int) (s11:Int) (s12:Int) (s13:zw) (s14:Int) (s15:zA) (s16:Int) (s17:Int) (s18:Bool) (s19:Bool) (s20:Int) (s21:Int) (s22:Int) (s23:Int) (s24:zF) (s25:zc) (s26:Int) (s27:List zw) (s28:zA) (s29:Int) (s30:Int) (s31:Bool) (s32:Bool) (s33:Int) (s34:zD) (s35:zF) (s36:zy) (s37:zy) (s38:List (List zr)) (s39:List zu) (s40:zy) (s41:List zw) (s42:zy) (s43:zE) (s44:zE) (s45:List zh) (s46:List zg) (s47:zy) (s48:zy) (s49:zE) (s50:List zh) (s51:List zg):U8 (s1,s2,s3,s4,s5,s6,s7,s8,s9,s10,s11,s12,s13,s14,s15,s16,s17,s18,s19,s20,s21,s22,s23,s24,s25,s26,s27,s28,s29,s30,s31,s32,s33,s34,s35,s36,s37,s38,s39,s40,s41,s42,s43,s44,s45,s46,s47,s48,s49,s50,s51,()) =
 bif decide (s3<s2) then
 (idx s1 s3).bind fun x1 =>
 (uX x1).bind fun y2 =>
 (vQ (s51++(([(zg.mk 0 0 0 0 0 0 0 0 y2.1 (([]:zE)) (([]:zE)) (zJ.mk 0 0 0 0 0#64 0 0 0) (zH.mk 0 0 0 0 (zm.mk 0 0 0 0 0#64 0#64 0 0) (zJ.mk 0 0 0 0 0#64 0 0 0) 0 0))]:List zg)))).bind fun l3 =>
 some (.again (s1,s2,w64 (s3+1),s4,s5,s6,s7,s8,s9,s10,s11,s12,s13,s14,s15,s16,s17,s18,s19,s20,s21,s22,s23,s24,s25,s26,s27,s28,s29,s30,s31,s32,s33,s34,s35,s36,s37,s38,s39,s40,s41,s42,s43,s44,s45,s46,s47,s48,s49,s50,l3,()))
 else
 some (.brk (s4,s5,s6,s7,s8,s9,s10,s11,s12,s13,s14,s15,s16,s17,s18,s19,s20,s21,s22,s23,s24,s25,s26,s27,s28,s29,s30,s31,s32,s33,s34,s35,s36,s37,s38,s39,s40,s41,s42,s43,s44,s45,s46,s47,s48,s49,s50,s51,())):=by kernel_rfl
theorem zpP (a1:zc):zeF a1 =
 (zg6 a1).bind fun y1 =>
 bif !y1.1 then
 some (za.mk (zc.mk 0 0 0 0 0 0 0 0 (zC.mk 0 (([]:zy))) 0#64 (([]:zy)) (([]:List (List zr))) (([]:List zu))) (zC.mk 0 (([]:zy))) (([]:List zw)) (([]:zy)) (zA.mk 0#64 0#64) 0 0 false false 0 (([]:zE)) (zD.mk 0 0 0 (([]:zE))) (([]:List zh)) (([]:List zg)) (zF.mk 0 0),())
 else
 (zcS a1).bind fun y2 =>
 (zeG y2.1).bind fun y3 =>
 (zgD a1.Mutators).bind fun y4 =>
 (vy a1.H.Objs).bind fun y5 =>
 (yM zaS (y2.1,a1.Workers,0,a1,0,0,0,0,0,0,0,0,0,0#64,0,zA.mk 0#64 0#64,0,0,false,false,0,0,0,0,zF.mk 0 0,a1,a1.H.Slots,zA.mk y2.1 0#64,y3.1,0,false,false,0,y4.1,zF.mk 0 0,([]:zy),([]:zy),([]:List (List zr)),([]:List zu),([]:zy),([]:List zw),([]:zy),([]:zE),([]:zE),([]:List zh),([]:List zg),y5.1,([]:List zw),([([]:zE)]:zy),([]:zE),([]:List zh),([]:List zg),())).bind fun st=>match st with
  | .again _=>none
  | .brk y6 =>
  let y6a:=y6.2.2.2.2.2.2.2.2;let y6b:=y6a.2.2.2.2.2.2.2.2;let y6c:=y6b.2.2.2.2.2.2.2.2;let y6d:=y6c.2.2.2.2.2.2.2.2;let y6e:=y6d.2.2.2.2.2.2.2.2;let y6f:=y6e.2.2.2.2.2.2.2.2
  (zeE y6.2.1).bind fun y7 =>
  (zeO (w64 (2+y7.1))).bind fun n8 =>
  (vQ (y6e.2.2.2.2.2.1++(List.replicate n8 0#64))).bind fun l9 =>
  (zeE y6.2.1).bind fun y10 =>
  (yM zab (y6.1,y10.1,0,y6.2.1,y6.2.2.1,y6.2.2.2.1,y6.2.2.2.2.1,y6.2.2.2.2.2.1,y6.2.2.2.2.2.2.1,y6.2.2.2.2.2.2.2.1,y6a.1,y6a.2.1,y6a.2.2.1,y6a.2.2.2.1,y6a.2.2.2.2.1,y6a.2.2.2.2.2.1,y6a.2.2.2.2.2.2.1,y6a.2.2.2.2.2.2.2.1,y6b.1,y6b.2.1,y6b.2.2.1,y6b.2.2.2.1,y6b.2.2.2.2.1,y6b.2.2.2.2.2.1,y6b.2.2.2.2.2.2.1,y6b.2.2.2.2.2.2.2.1,y6c.1,y6c.2.1,y6c.2.2.1,y6c.2.2.2.1,y6c.2.2.2.2.1,y6c.2.2.2.2.2.1,y6c.2.2.2.2.2.2.1,y6c.2.2.2.2.2.2.2.1,y6d.1,([]:zE),y6d.2.1,y6d.2.2.1,y6d.2.2.2.1,y6d.2.2.2.2.1,y6d.2.2.2.2.2.1,y6d.2.2.2.2.2.2.1,y6d.2.2.2.2.2.2.2.1,y6e.1,y6e.2.1,y6e.2.2.1,y6e.2.2.2.1,y6e.2.2.2.2.1,l9,y6e.2.2.2.2.2.2.1,y6e.2.2.2.2.2.2.2.1,y6f.1,y6f.2.1,())).bind fun st=>match st with
   | .again _=>none
   | .brk y11 =>
   let y11a:=y11.2.2.2.2.2.2.2.2;let y11b:=y11a.2.2.2.2.2.2.2.2;let y11c:=y11b.2.2.2.2.2.2.2.2;let y11d:=y11c.2.2.2.2.2.2.2.2;let y11e:=y11d.2.2.2.2.2.2.2.2;let y11f:=y11e.2.2.2.2.2.2.2.2
   (zcV y11.1).bind fun y12 =>
   (za3 y12.1 y11.2.1.Bin).bind fun y13 =>
   (UC y13.1 y13.2.1).bind fun (ys14:zy) =>
   (YI zc9 ys14 (y11.2.1,y11.2.2.1,y11.2.2.2.1,y11.2.2.2.2.1,y11.2.2.2.2.2.1,y11.2.2.2.2.2.2.1,y11.2.2.2.2.2.2.2.1,y11a.1,y11a.2.1,y11a.2.2.1,y11a.2.2.2.1,y11a.2.2.2.2.1,y11a.2.2.2.2.2.1,y11a.2.2.2.2.2.2.1,y11a.2.2.2.2.2.2.2.1,y11b.1,y11b.2.1,y11b.2.2.1,y11b.2.2.2.1,y11b.2.2.2.2.1,y11b.2.2.2.2.2.1,y11b.2.2.2.2.2.2.1,y11b.2.2.2.2.2.2.2.1,y11c.1,y11c.2.1,y11c.2.2.1,y11c.2.2.2.1,y11c.2.2.2.2.1,y11c.2.2.2.2.2.1,y11c.2.2.2.2.2.2.1,y11c.2.2.2.2.2.2.2.1,y11d.1,y11d.2.1,y11d.2.2.1,y11d.2.2.2.1,y11d.2.2.2.2.1,y11d.2.2.2.2.2.1,y11d.2.2.2.2.2.2.1,y11d.2.2.2.2.2.2.2.1,y11e.1,y11e.2.1,y11e.2.2.1,y11e.2.2.2.1,y11e.2.2.2.2.1,y11e.2.2.2.2.2.1,y11e.2.2.2.2.2.2.1,y11e.2.2.2.2.2.2.2.1,y11f.1,y11f.2.1,y11f.2.2.1,())).bind fun (y15:zc×Int×Int×Int×Int×Int×Int×Int×Int×Int×zw×Int×zA×Int×Int×Bool×Bool×Int×Int×Int×Int×zF×zc×Int×zA×Int×Int×Bool×Bool×Int×zD×zF×zE×zy×zy×(List (List zr))×(List zu)×zy×(List zw)×zy×zE×zE×(List zh)×(List zg)×zy×(List zw)×zy×zE×(List zh)×(List zg)×Unit) =>
   let y15a:=y15.2.2.2.2.2.2.2.2;let y15b:=y15a.2.2.2.2.2.2.2.2;let y15c:=y15b.2.2.2.2.2.2.2.2;let y15d:=y15c.2.2.2.2.2.2.2.2;let y15e:=y15d.2.2.2.2.2.2.2.2;let y15f:=y15e.2.2.2.2.2.2.2.2
   (zeO (w64 (((y15d.1.length:Int))-(w64 (((y15e.2.2.2.2.2.2.1.length:Int))-1))))).bind fun n16 =>
   (vQ (y15e.2.2.2.2.2.2.1++(List.replicate n16 ([]:zE)))).bind fun l17 =>
   (VJ y15.1).bind fun y18 =>
   (XS y15.1).bind fun y19 =>
   (cut y15d.1 0 (w64 (((y15e.2.2.2.2.2.2.1.length:Int))-1))).bind fun l20 =>
   (zey y15e.2.2.2.2.2.1 y18.1 y19.1 l20).bind fun y21 =>
   (WL y15.1).bind fun y22 =>
   (XS y15.1).bind fun y23 =>
   (cut y15d.1 (w64 (((y15e.2.2.2.2.2.2.1.length:Int))-1)) ((y15d.1.length:Int))).bind fun l24 =>
   (zey y21.1 y22.1 y23.1 l24).bind fun y25 =>
   bif decide (y15.1.Mutators=y15.1.Mutators) then
    (U5 y15.1.Mutators).bind fun n26 =>
    (yM U8 (y15.1.Regs,(y15.1.Regs.length:Int),0,y15.2.1,y15.2.2.1,y15.2.2.2.1,y15.2.2.2.2.1,y15.2.2.2.2.2.1,y15.2.2.2.2.2.2.1,y15.2.2.2.2.2.2.2.1,y15a.1,y15a.2.1,y15a.2.2.1,y15a.2.2.2.1,y15a.2.2.2.2.1,y15a.2.2.2.2.2.1,y15a.2.2.2.2.2.2.1,y15a.2.2.2.2.2.2.2.1,y15b.1,y15b.2.1,y15b.2.2.1,y15b.2.2.2.1,y15b.2.2.2.2.1,y15b.2.2.2.2.2.1,y15b.2.2.2.2.2.2.1,y15b.2.2.2.2.2.2.2.1,y25.1,y15c.1,y15c.2.1,y15c.2.2.1,y15c.2.2.2.1,y15c.2.2.2.2.1,y15c.2.2.2.2.2.1,y15c.2.2.2.2.2.2.1,y15c.2.2.2.2.2.2.2.1,y15d.2.1,y15d.2.2.1,y15d.2.2.2.1,y15d.2.2.2.2.1,y15d.2.2.2.2.2.1,y15d.2.2.2.2.2.2.1,y15d.2.2.2.2.2.2.2.1,y15e.1,y15e.2.1,y15e.2.2.1,y15e.2.2.2.1,y15e.2.2.2.2.1,l17,List.replicate n26 ((0:Int)),y15f.1,y15f.2.1,())).bind fun st=>match st with
     | .again _=>none
     | .brk y27 =>
     let y27a:=y27.2.2.2.2.2.2.2.2;let y27b:=y27a.2.2.2.2.2.2.2.2;let y27c:=y27b.2.2.2.2.2.2.2.2;let y27d:=y27c.2.2.2.2.2.2.2.2;let y27e:=y27d.2.2.2.2.2.2.2.2
     some (za.mk y27b.2.2.2.2.2.1 (zC.mk y27b.2.2.2.2.2.2.1 y27e.2.2.2.1) y27b.2.2.2.2.2.2.2.1 y27e.2.2.2.2.1 y27c.1 y27c.2.1 y27c.2.2.1 y27c.2.2.2.1 y27c.2.2.2.2.1 y27c.2.2.2.2.2.1 y27e.2.2.2.2.2.1 y27c.2.2.2.2.2.2.1 y27e.2.2.2.2.2.2.1 y27e.2.2.2.2.2.2.2.1 y27c.2.2.2.2.2.2.2.1,())
     | .ret y27 =>
     none
   else
    none
   | .ret y11 =>
   none
  | .ret y6 =>
  none:=zK
theorem zpk (a1:List zw) (a2:Int):zcz a1 a2 =
 (XV a1 (Z7.mk 1 a2 0#64 0#64)).bind fun y1 =>
 some (y1.2.1,()):=zK
theorem zpz (a1:zw):XF a1 =
 some ((a1&&&4294967295#64).toInt,()):=zK
theorem zf4 (a1:List zw) (a2:zJ):ud a1 a2 =
 (zcz a1 a2.Head).bind fun y1 =>
 bif decide (a2.Kind=2) then
 (XF y1.1).bind fun y2 =>
 bif decide (y2.1=0) then
  some (a1,{a2 with H:=y1.1,Out:=2},())
 else
  some (a1,{a2 with H:=y1.1},())
 else
 some (a1,{a2 with H:=y1.1},()):=zK
theorem zhO (a1:List zw) (a2:zJ):Xg a1 a2 =
 (XF a2.H).bind fun y1 =>
 (YR a1 (w64 (a2.Next+a2.X)) (BitVec.ofInt 64 y1.1)).bind fun y2 =>
 some (y2.1,()):=zK
theorem zfE (a1:List zw) (a2:zJ):vN a1 a2 =
 bif decide (a2.Kind=2) then
 (VM ((a2.H >>> 32)+1#64) a2.Y).bind fun y1 =>
 (XV a1 (Z7.mk 3 a2.Head a2.H y1.1)).bind fun y2 =>
 bif !y2.2.2.1 then
  some (y2.1,{a2 with PC:= -1},())
 else
  bif decide (a2.Kind=2) then
  (XF a2.H).bind fun y3 =>
  some (y2.1,{a2 with X:=y3.1,Out:=1},())
  else
  some (y2.1,{a2 with Out:=1},())
 else
 (VM ((a2.H >>> 32)+1#64) a2.X).bind fun y4 =>
 (XV a1 (Z7.mk 3 a2.Head a2.H y4.1)).bind fun y5 =>
 bif !y5.2.2.1 then
  some (y5.1,{a2 with PC:= -1},())
 else
  bif decide (a2.Kind=2) then
  (XF a2.H).bind fun y6 =>
  some (y5.1,{a2 with X:=y6.1,Out:=1},())
  else
  some (y5.1,{a2 with Out:=1},()):=zK
theorem zdM (a1:List zw) (a2:zJ):ZE a1 a2 =
 (XF a2.H).bind fun y1 =>
 (zcz a1 (w64 (a2.Next+y1.1))).bind fun y2 =>
 some (a1,{a2 with Y:=y2.1.toInt},()):=zK
theorem zpj (a1:List zw) (a2:zJ):zak a1 a2 =
 bif decide (a2.Kind=2) then
 bif !(decide (a2.Out=0)) then
  some (a1,a2,())
 else
  bif !(decide (a2.Kind=1)) then
  bif !(decide (a2.Kind=2)) then
   some (a1,a2,())
  else
   bif decide (a2.PC<0) then
   some (a1,a2,())
   else
   bif decide (3<=a2.PC) then
    some (a1,a2,())
   else
    bif decide (a2.PC=2) then
    (vN a1 a2).bind fun y1 =>
    some (y1.1,{y1.2.1 with PC:=w64 (y1.2.1.PC+1)},())
    else
    bif decide (a2.PC=1) then
     (ZE a1 a2).bind fun y2 =>
     some (y2.1,{y2.2.1 with PC:=w64 (y2.2.1.PC+1)},())
    else
     bif decide (a2.PC=0) then
     (ud a1 a2).bind fun y3 =>
     some (y3.1,{y3.2.1 with PC:=w64 (y3.2.1.PC+1)},())
     else
     none
  else
  bif decide (a2.PC<0) then
   some (a1,a2,())
  else
   bif decide (3<=a2.PC) then
   some (a1,a2,())
   else
   bif decide (a2.PC=2) then
    (vN a1 a2).bind fun y4 =>
    some (y4.1,{y4.2.1 with PC:=w64 (y4.2.1.PC+1)},())
   else
    bif decide (a2.PC=1) then
    (ZE a1 a2).bind fun y5 =>
    some (y5.1,{y5.2.1 with PC:=w64 (y5.2.1.PC+1)},())
    else
    bif decide (a2.PC=0) then
     (ud a1 a2).bind fun y6 =>
     some (y6.1,{y6.2.1 with PC:=w64 (y6.2.1.PC+1)},())
    else
     none
 else
 bif !(decide (a2.Out=0)) then
  some (a1,a2,())
 else
  bif !(decide (a2.Kind=1)) then
  bif !(decide (a2.Kind=2)) then
   some (a1,a2,())
  else
   bif decide (a2.PC<0) then
   some (a1,a2,())
   else
   bif decide (3<=a2.PC) then
    some (a1,a2,())
   else
    bif decide (a2.PC=2) then
    (vN a1 a2).bind fun y7 =>
    some (y7.1,{y7.2.1 with PC:=w64 (y7.2.1.PC+1)},())
    else
    bif decide (a2.PC=1) then
     (Xg a1 a2).bind fun y8 =>
     some (y8.1,{a2 with PC:=w64 (a2.PC+1)},())
    else
     bif decide (a2.PC=0) then
     (ud a1 a2).bind fun y9 =>
     some (y9.1,{y9.2.1 with PC:=w64 (y9.2.1.PC+1)},())
     else
     none
  else
  bif decide (a2.PC<0) then
   some (a1,a2,())
  else
   bif decide (3<=a2.PC) then
   some (a1,a2,())
   else
   bif decide (a2.PC=2) then
    (vN a1 a2).bind fun y10 =>
    some (y10.1,{y10.2.1 with PC:=w64 (y10.2.1.PC+1)},())
   else
    bif decide (a2.PC=1) then
    (Xg a1 a2).bind fun y11 =>
    some (y11.1,{a2 with PC:=w64 (a2.PC+1)},())
    else
    bif decide (a2.PC=0) then
     (ud a1 a2).bind fun y12 =>
     some (y12.1,{y12.2.1 with PC:=w64 (y12.2.1.PC+1)},())
    else
     none:=zK
theorem zhJ (a1:zX):uR a1 =
 (zak a1.s.M a1.Worker.C).bind fun y1 =>
 some (y1.2.1.Out,zX.mk {a1.Worker with C:=y1.2.1} {a1.s with M:=y1.1} a1.w,()):=zK
theorem za2 (a1:Int) (a2:zX):Xz a1 a2 =
 some ({a2 with Worker:={a2.Worker with PC:=5,Obj:=a1,Slot:=0}},()):=zK
theorem zfK (a1:Int):zjz a1 =
 bif decide (a1=1) then
 some (())
 else
 bif decide (a1=2) then
  none
 else
  bif decide (a1=3) then
  none
  else
  none:=zK
theorem zmD (a1:Int):zjm a1 =
 bif decide (a1=1) then
 none
 else
 bif decide (a1=2) then
  some (())
 else
  bif decide (a1=3) then
  none
  else
  none:=zK
theorem zmB (a1:Int):zjx a1 =
 bif decide (a1=1) then
 none
 else
 bif decide (a1=2) then
  none
 else
  bif decide (a1=3) then
  some (())
  else
  none:=zK
theorem zmV (a1:Int):zjy a1 =
 bif decide (a1=1) then
 none
 else
 bif decide (a1=2) then
  none
 else
  bif decide (a1=3) then
  none
  else
  some (([]:List Bool),()):=zK
theorem zop (a1:List zw) (a2:Int):Z3 a1 a2 =
 (XV a1 (Z7.mk 1 a2 0#64 0#64)).bind fun y1 =>
 some (y1.2.1,()):=zK
theorem wp (a1:zm):vf a1 =
 some (w64 (a1.Base+1),()):=zK
theorem Wk (a1:List zw) (a2:zm):vF a1 a2 =
 (vf a2).bind fun y1 =>
 (Z3 a1 y1.1).bind fun y2 =>
 some (a1,{a2 with B:=y2.1},()):=zK
theorem Yy (a1:zm):Ym a1 =
 some (a1.Base,()):=zK
theorem zhP (a1:zm):Xh a1 =
 some (BitVec.ofInt 64 (bif decide (a1.Cap<1) then 1 else a1.Cap),()):=zK
theorem vk (a1:Int) (a2:zm):wv a1 a2 =
 bif !(decide (a1=1)) then
 bif !(decide (a2.Kind=1)) then
  some ({a2 with X:=0,Out:=a1},())
 else
  some ({a2 with Out:=a1},())
 else
 some ({a2 with Out:=a1},()):=zK
theorem zfo (a1:List zw) (a2:zm):Wz a1 a2 =
 (Ym a2).bind fun y1 =>
 (Z3 a1 y1.1).bind fun y2 =>
 (Xh ({a2 with T:=y2.1})).bind fun y3 =>
 bif decide (y3.1<=(a2.B-y2.1)) then
 (wv 3 ({a2 with T:=y2.1})).bind fun y4 =>
 some (a1,y4.1,())
 else
 some (a1,{a2 with T:=y2.1},()):=zK
theorem znX (a1:List zw) (a2:Int) (a3:zw):YX a1 a2 a3 =
 (XV a1 (Z7.mk 2 a2 a3 0#64)).bind fun y1 =>
 some (y1.1,()):=zK
theorem zgF (a1:zw) (a2:zm):Zx a1 a2 =
 (Xh a2).bind fun y1 =>
 bif decide (y1.1=0#64) then
 none
 else
 some (w64 ((w64 (a2.Base+2))+((a1%y1.1).toInt)),()):=zK
theorem zi0 (a1:List zw) (a2:zm):UX a1 a2 =
 (Zx a2.B a2).bind fun y1 =>
 (YX a1 y1.1 (BitVec.ofInt 64 a2.X)).bind fun y2 =>
 some (y2.1,()):=zK
theorem zdj (a1:List zw) (a2:zm):Y1 a1 a2 =
 (wv 1 a2).bind fun y1 =>
 (vf y1.1).bind fun y2 =>
 (YX a1 y2.1 (y1.1.B+1#64)).bind fun y3 =>
 some (y3.1,y1.1,()):=zK
theorem zgZ (a1:List zw) (a2:zm):zcb a1 a2 =
 (vf a2).bind fun y1 =>
 (YX a1 y1.1 (a2.B-1#64)).bind fun y2 =>
 some (y2.1,()):=zK
theorem zgN (a1:zw) (a2:zw):zff a1 a2 =
 some (decide (0<((a1-a2).toInt)),()):=zK
theorem zdB (a1:List zw) (a2:zm):U6 a1 a2 =
 (Ym a2).bind fun y1 =>
 (Z3 a1 y1.1).bind fun y2 =>
 (zff y2.1 (a2.B-1#64)).bind fun y3 =>
 bif y3.1 then
 some (a1,{a2 with PC:=4,T:=y2.1},())
 else
 some (a1,{a2 with T:=y2.1},()):=zK
end Go.Pe.G
namespace Go.Pe.G
open Go.Pe
theorem zgg (a1:List zw) (a2:zm):zbr a1 a2 =
 (Zx (a2.B-1#64) a2).bind fun y1 =>
 (Z3 a1 y1.1).bind fun y2 =>
 bif !(decide (a2.T=(a2.B-1#64))) then
 (wv 1 ({a2 with X:=y2.1.toInt})).bind fun y3 =>
 some (a1,y3.1,())
 else
 some (a1,{a2 with X:=y2.1.toInt},()):=zK
theorem zhS (a1:List zw) (a2:zm):Xx a1 a2 =
 (Ym a2).bind fun y1 =>
 (XV a1 (Z7.mk 3 y1.1 a2.T (a2.T+1#64))).bind fun y2 =>
 some (y2.1,y2.2.2.1,()):=zK
theorem zfc (a1:List zw) (a2:zm):zaY a1 a2 =
 (Xx a1 a2).bind fun y1 =>
 bif y1.2.1 then
 some (y1.1,{a2 with PC:=5},())
 else
 some (y1.1,a2,()):=zK
theorem zfr (a1:List zw) (a2:zm):zaZ a1 a2 =
 (wv 2 a2).bind fun y1 =>
 (vf y1.1).bind fun y2 =>
 (YX a1 y2.1 y1.1.B).bind fun y3 =>
 some (y3.1,y1.1,()):=zK
theorem zfX (a1:List zw) (a2:zm):zbh a1 a2 =
 (wv 1 a2).bind fun y1 =>
 (vf y1.1).bind fun y2 =>
 (YX a1 y2.1 y1.1.B).bind fun y3 =>
 some (y3.1,y1.1,()):=zK
theorem zfQ (a1:List zw) (a2:zm):zbA a1 a2 =
 (Ym a2).bind fun y1 =>
 (Z3 a1 y1.1).bind fun y2 =>
 some (a1,{a2 with T:=y2.1},()):=zK
theorem zgq (a1:List zw) (a2:zm):zbo a1 a2 =
 (vf a2).bind fun y1 =>
 (Z3 a1 y1.1).bind fun y2 =>
 (zff y2.1 a2.T).bind fun y3 =>
 bif !y3.1 then
 some (a1,{a2 with B:=y2.1,Out:=2},())
 else
 some (a1,{a2 with B:=y2.1},()):=zK
theorem zfn (a1:List zw) (a2:zm):za0 a1 a2 =
 (Zx a2.T a2).bind fun y1 =>
 (Z3 a1 y1.1).bind fun y2 =>
 some (a1,{a2 with X:=y2.1.toInt},()):=zK
theorem zdI (a1:List zw) (a2:zm):zae a1 a2 =
 (Xx a1 a2).bind fun y1 =>
 bif y1.2.1 then
 (wv 1 a2).bind fun y2 =>
 some (y1.1,y2.1,())
 else
 (wv 4 a2).bind fun y3 =>
 some (y1.1,y3.1,()):=zK
theorem zis (a1:List zw) (a2:zm):zaB a1 a2 =
 Option.or (
 (zjz a2.Kind).bind fun y1 =>
 bif !(decide (a2.Out=0)) then
  some (a1,a2,())
 else
  bif decide (a2.PC<0) then
  some (a1,a2,())
  else
  bif decide (4<=a2.PC) then
   some (a1,a2,())
  else
   bif decide (a2.PC=3) then
   (Y1 a1 a2).bind fun y2 =>
   some (y2.1,{y2.2.1 with PC:=w64 (y2.2.1.PC+1)},())
   else
   bif decide (a2.PC=2) then
    (UX a1 a2).bind fun y3 =>
    some (y3.1,{a2 with PC:=w64 (a2.PC+1)},())
   else
    bif decide (a2.PC=1) then
    (Wz a1 a2).bind fun y4 =>
    some (y4.1,{y4.2.1 with PC:=w64 (y4.2.1.PC+1)},())
    else
    bif decide (a2.PC=0) then
     (vF a1 a2).bind fun y5 =>
     some (y5.1,{y5.2.1 with PC:=w64 (y5.2.1.PC+1)},())
    else
     none) (
 Option.or (
  (zjm a2.Kind).bind fun y6 =>
  bif !(decide (a2.Out=0)) then
  some (a1,a2,())
  else
  bif decide (a2.PC<0) then
   some (a1,a2,())
  else
   bif decide (7<=a2.PC) then
   some (a1,a2,())
   else
   bif decide (a2.PC=6) then
    (zbh a1 a2).bind fun y7 =>
    some (y7.1,{y7.2.1 with PC:=w64 (y7.2.1.PC+1)},())
   else
    bif decide (a2.PC=5) then
    (zaZ a1 a2).bind fun y8 =>
    some (y8.1,{y8.2.1 with PC:=w64 (y8.2.1.PC+1)},())
    else
    bif decide (a2.PC=4) then
     (zaY a1 a2).bind fun y9 =>
     some (y9.1,{y9.2.1 with PC:=w64 (y9.2.1.PC+1)},())
    else
     bif decide (a2.PC=3) then
     (zbr a1 a2).bind fun y10 =>
     some (y10.1,{y10.2.1 with PC:=w64 (y10.2.1.PC+1)},())
     else
     bif decide (a2.PC=2) then
      (U6 a1 a2).bind fun y11 =>
      some (y11.1,{y11.2.1 with PC:=w64 (y11.2.1.PC+1)},())
     else
      bif decide (a2.PC=1) then
      (zcb a1 a2).bind fun y12 =>
      some (y12.1,{a2 with PC:=w64 (a2.PC+1)},())
      else
      bif decide (a2.PC=0) then
       (vF a1 a2).bind fun y13 =>
       some (y13.1,{y13.2.1 with PC:=w64 (y13.2.1.PC+1)},())
      else
       none) (
  Option.or (
  (zjx a2.Kind).bind fun y14 =>
  bif !(decide (a2.Out=0)) then
   some (a1,a2,())
  else
   bif decide (a2.PC<0) then
   some (a1,a2,())
   else
   bif decide (4<=a2.PC) then
    some (a1,a2,())
   else
    bif decide (a2.PC=3) then
    (zae a1 a2).bind fun y15 =>
    some (y15.1,{y15.2.1 with PC:=w64 (y15.2.1.PC+1)},())
    else
    bif decide (a2.PC=2) then
     (za0 a1 a2).bind fun y16 =>
     some (y16.1,{y16.2.1 with PC:=w64 (y16.2.1.PC+1)},())
    else
     bif decide (a2.PC=1) then
     (zbo a1 a2).bind fun y17 =>
     some (y17.1,{y17.2.1 with PC:=w64 (y17.2.1.PC+1)},())
     else
     bif decide (a2.PC=0) then
      (zbA a1 a2).bind fun y18 =>
      some (y18.1,{y18.2.1 with PC:=w64 (y18.2.1.PC+1)},())
     else
      none) (
  (zjy a2.Kind).bind fun y19 =>
  bif !(decide (a2.Out=0)) then
   some (a1,a2,())
  else
   bif decide (a2.PC<0) then
   some (a1,a2,())
   else
   bif decide (((y19.1.length:Int))<=a2.PC) then
    some (a1,a2,())
   else
    none))):=zK
theorem zeN (a1:Int) (a2:Int) (a3:zX):zcW a1 a2 a3 =
 (Uy a3.s.P a2).bind fun y1 =>
 (zbH a1 y1.1 a3.s.P.Cap 0).bind fun y2 =>
 some (y2.1,()):=zK
theorem Ul (a1:Int) (a2:Int) (a3:Int) (a4:Int):zbF a1 a2 a3 a4 =
 some (zJ.mk a1 0 a2 a3 0#64 a4 0 0,()):=zK
theorem zcu (a1:Int) (a2:Int) (a3:Int) (a4:zX):za7 a1 a2 a3 a4 =
 (XS a4.s.P).bind fun y1 =>
 (zbF a1 a2 y1.1 a3).bind fun y2 =>
 some (y2.1,()):=zK
theorem zhG (a1:zX):Xl a1 =
 bif decide (((a1.s.Ws.length:Int))=0) then
 none
 else
 bif decide ((w64 ((a1.Worker.Victim.tmod ((a1.s.Ws.length:Int)))+1))=a1.w) then
  (VJ a1.s.P).bind fun y1 =>
  (za7 2 y1.1 0 ({a1 with Worker:={a1.Worker with Victim:=w64 ((a1.Worker.Victim.tmod ((a1.s.Ws.length:Int)))+1)}})).bind fun y2 =>
  some ({a1 with Worker:={a1.Worker with PC:=2,Victim:=w64 ((a1.Worker.Victim.tmod ((a1.s.Ws.length:Int)))+1),C:=y2.1}},())
 else
  (zcW 3 (w64 ((a1.Worker.Victim.tmod ((a1.s.Ws.length:Int)))+1)) ({a1 with Worker:={a1.Worker with Victim:=w64 ((a1.Worker.Victim.tmod ((a1.s.Ws.length:Int)))+1)}})).bind fun y3 =>
  some ({a1 with Worker:={a1.Worker with PC:=1,Victim:=w64 ((a1.Worker.Victim.tmod ((a1.s.Ws.length:Int)))+1),D:=y3.1}},()):=zK
theorem ziJ (a1:zX):X7 a1 =
 (zaB a1.s.M a1.Worker.D).bind fun y1 =>
 bif decide (y1.2.1.Out=1) then
 (Xz y1.2.1.X (zX.mk {a1.Worker with Victim:=a1.w,D:=y1.2.1} {a1.s with M:=y1.1} a1.w)).bind fun y2 =>
 some (y2.1,())
 else
 bif decide (y1.2.1.Out=4) then
  (Xl (zX.mk {a1.Worker with D:=y1.2.1} {a1.s with M:=y1.1} a1.w)).bind fun y3 =>
  some (y3.1,())
 else
  bif decide (y1.2.1.Out=2) then
  (Xl (zX.mk {a1.Worker with D:=y1.2.1} {a1.s with M:=y1.1} a1.w)).bind fun y4 =>
  some (y4.1,())
  else
  some (zX.mk {a1.Worker with D:=y1.2.1} {a1.s with M:=y1.1} a1.w,()):=zK
theorem zhd (a1:zX):uu a1 =
 (zcW 2 a1.w a1).bind fun y1 =>
 some ({a1 with Worker:={a1.Worker with PC:=0,Victim:=a1.w,D:=y1.1}},()):=zK
theorem zdt (a1:zy):ZD a1 =
 bif a1.isEmpty then
 zkJ (
  some (([]:zy),())) (
  (vQ ((([]:zy))++a1)).bind fun l1 =>
  some (l1,()))
 else
 (vQ ((([]:zy))++a1)).bind fun l2 =>
 some (l2,()):=zK
theorem zhL (a1:zX):Ud a1 =
 (idx a1.s.Bins a1.Worker.Bin).bind fun x1 =>
 (ZD a1.s.Bins).bind fun y2 =>
 (Yh y2.1 a1.Worker.Bin).bind fun n3 =>
 (WL a1.s.P).bind fun y4 =>
 (za7 1 y4.1 a1.Worker.Bin (zX.mk {a1.Worker with Batch:=x1} {a1.s with Bins:=y2.1.set n3 ([]:zE)} a1.w)).bind fun y5 =>
 some (zX.mk {a1.Worker with PC:=4,Batch:=x1,C:=y5.1} {a1.s with Bins:=y2.1.set n3 ([]:zE)} a1.w,()):=zK
theorem zlQ (a1:zX):WT a1 =
 bif decide (a1.Worker.Slot=a1.s.H.Slots) then
 some (8,())
 else
 some (5,()):=zK
theorem zkh (a1:zC) (a2:Int) (a3:Int):za9 a1 a2 a3 =
 bif decide (1<=a2) then
 bif decide (a2<=((a1.Objs.length:Int))) then
  bif decide (0<=a3) then
  (idx a1.Objs (w64 (a2-1))).bind fun x1 =>
  some (decide (a3<((x1.length:Int))),())
  else
  some (false,())
 else
  some (false,())
 else
 some (false,()):=zK
theorem zrV (a1:zC) (a2:Int) (a3:Int):zkH a1 a2 a3 =
 (za9 a1 a2 a3).bind fun y1 =>
 bif !y1.1 then
 some (0,false,())
 else
 (idx a1.Objs (w64 (a2-1))).bind fun x2 =>
 (idx x2 a3).bind fun x3 =>
 some (x3,true,()):=zK
theorem zof (a1:Int) (a2:Int) (a3:Int):zgB a1 a2 a3 =
 some (zH.mk 0 a1 a2 a3 (zm.mk 0 0 0 0 0#64 0#64 0 0) (zJ.mk 0 0 0 0 0#64 0 0 0) 0 0,()):=zK
theorem zhV (a1:zX):VZ a1 =
 (zkH a1.s.H a1.Worker.Obj a1.Worker.Slot).bind fun y1 =>
 bif decide (y1.1=0) then
 (WT ({a1 with Worker:={a1.Worker with Slot:=w64 (a1.Worker.Slot+1)}})).bind fun y2 =>
 some ({a1 with Worker:={a1.Worker with PC:=y2.1,Slot:=w64 (a1.Worker.Slot+1)}},())
 else
 (zgB 1 y1.1 a1.w).bind fun y3 =>
 some ({a1 with Worker:={a1.Worker with PC:=6,Slot:=w64 (a1.Worker.Slot+1),G:=y3.1}},()):=zK
theorem zdO (a1:zR):zad a1 =
 some (zR.mk {a1.Grey with PC:=1} {a1.s with Work:=w64 (a1.s.Work+1)},()):=zK
theorem ztk (a1:zw) (a2:Int):zb7 a1 a2 =
 (zih a2).bind fun y1 =>
 some (!(decide ((a1&&&y1.1)=0#64)),()):=zK
theorem zpt (a1:zA) (a2:Int):zgP a1 a2 =
 (zau a1.Marks a2).bind fun y1 =>
 bif decide (y1.1=a1.Marks) then
 some (a1,false,())
 else
 (zb7 a1.Black a2).bind fun y2 =>
 bif y2.1 then
  some (a1,false,())
 else
  some ({a1 with Marks:=y1.1},true,()):=zK
theorem zgC (a1:zR):ux a1 =
 (WL a1.s.P).bind fun y1 =>
 (XS a1.s.P).bind fun y2 =>
 (zbF 2 y1.1 y2.1 0).bind fun y3 =>
 some ({a1 with Grey:={a1.Grey with PC:=5,C:=y3.1}},()):=zK
theorem zf7 (a1:zR):zbw a1 =
 (zgP a1.s.T a1.Grey.Obj).bind fun y1 =>
 bif !y1.2.1 then
 some (zR.mk {a1.Grey with PC:=2} {a1.s with T:=y1.1},())
 else
 bif decide (a1.Grey.Mode=1) then
  (Uy a1.s.P a1.Grey.Who).bind fun y2 =>
  (zbH 1 y2.1 a1.s.P.Cap a1.Grey.Obj).bind fun y3 =>
  some (zR.mk {a1.Grey with PC:=3,D:=y3.1} {a1.s with T:=y1.1},())
 else
  bif decide (a1.Grey.Mode=2) then
  some (zR.mk {a1.Grey with PC:=4} {a1.s with T:=y1.1},())
  else
  (ux ({a1 with s:={a1.s with T:=y1.1}})).bind fun y4 =>
  some (y4.1,()):=zK
theorem zfW (a1:zR):zbx a1 =
 some (zR.mk {a1.Grey with Out:=1} {a1.s with Work:=w64 (a1.s.Work-1)},()):=zK
theorem zgb (a1:zR):zbv a1 =
 (zaB a1.s.M a1.Grey.D).bind fun y1 =>
 bif decide (y1.2.1.Out=1) then
 some (zR.mk {a1.Grey with D:=y1.2.1,Out:=1} {a1.s with M:=y1.1},())
 else
 bif decide (y1.2.1.Out=3) then
  (ux (zR.mk {a1.Grey with D:=y1.2.1} {a1.s with M:=y1.1})).bind fun y2 =>
  some (y2.1,())
 else
  some (zR.mk {a1.Grey with D:=y1.2.1} {a1.s with M:=y1.1},()):=zK
theorem zgn (a1:zR):zbu a1 =
 (ux ({a1 with s:={a1.s with Flag:=true}})).bind fun y1 =>
 some (y1.1,()):=zK
theorem zfY (a1:zR):zbt a1 =
 (zak a1.s.M a1.Grey.C).bind fun y1 =>
 bif decide (y1.2.1.Out=1) then
 some (zR.mk {a1.Grey with PC:=6,C:=y1.2.1,Bin:=y1.2.1.X} {a1.s with M:=y1.1},())
 else
 bif decide (y1.2.1.Out=2) then
  (ux (zR.mk {a1.Grey with C:=y1.2.1} {a1.s with M:=y1.1})).bind fun y2 =>
  some (y2.1,())
 else
  some (zR.mk {a1.Grey with C:=y1.2.1} {a1.s with M:=y1.1},()):=zK
theorem zf3 (a1:zR):zbl a1 =
 (ZD a1.s.Bins).bind fun y1 =>
 (Yh y1.1 a1.Grey.Bin).bind fun n2 =>
 (VJ a1.s.P).bind fun y3 =>
 (XS a1.s.P).bind fun y4 =>
 (zbF 1 y3.1 y4.1 a1.Grey.Bin).bind fun y5 =>
 some ({a1.Grey with PC:=7,C:=y5.1},a1.s.P,a1.s.H,a1.s.M,a1.s.T,a1.s.Work,a1.s.Epoch,a1.s.Flag,a1.s.Done,a1.s.Restarts,a1.s.Acks,a1.s.L,a1.s.Ws,a1.s.Ms,a1.s.D,y1.1.set n2 ([a1.Grey.Obj]:zE),()):=zK
theorem zdZ (a1:zR):U7 a1 =
 (zak a1.s.M a1.Grey.C).bind fun y1 =>
 bif decide (y1.2.1.Out=1) then
 some (zR.mk {a1.Grey with C:=y1.2.1,Out:=1} {a1.s with M:=y1.1},())
 else
 some (zR.mk {a1.Grey with C:=y1.2.1} {a1.s with M:=y1.1},()):=zK
theorem zqF (a1:za) (a2:zH):zeD a1 a2 =
 bif !(decide (a2.Out=0)) then
 some (a1,a2,())
 else
 bif decide (a2.Mode<1) then
  some (a1,a2,())
 else
  bif decide (3<a2.Mode) then
  some (a1,a2,())
  else
  bif decide (a2.PC<0) then
   some (a1,a2,())
  else
   bif decide (8<=a2.PC) then
   some (a1,a2,())
   else
   bif decide (a2.PC=7) then
    (U7 (zR.mk a2 a1)).bind fun y1 =>
    some (y1.1.s,y1.1.Grey,())
   else
    bif decide (a2.PC=6) then
    (zbl (zR.mk a2 a1)).bind fun y2 =>
    let y2a:=y2.2.2.2.2.2.2.2.2
    some (za.mk y2.2.1 y2.2.2.1 y2.2.2.2.1 y2a.2.2.2.2.2.2.2.1 y2.2.2.2.2.1 y2.2.2.2.2.2.1 y2.2.2.2.2.2.2.1 y2.2.2.2.2.2.2.2.1 y2a.1 y2a.2.1 y2a.2.2.1 y2a.2.2.2.1 y2a.2.2.2.2.1 y2a.2.2.2.2.2.1 y2a.2.2.2.2.2.2.1,y2.1,())
    else
    bif decide (a2.PC=5) then
     (zbt (zR.mk a2 a1)).bind fun y3 =>
     some (y3.1.s,y3.1.Grey,())
    else
     bif decide (a2.PC=4) then
     (zbu (zR.mk a2 a1)).bind fun y4 =>
     some (y4.1.s,y4.1.Grey,())
     else
     bif decide (a2.PC=3) then
      (zbv (zR.mk a2 a1)).bind fun y5 =>
      some (y5.1.s,y5.1.Grey,())
     else
      bif decide (a2.PC=2) then
      (zbx (zR.mk a2 a1)).bind fun y6 =>
      some (y6.1.s,y6.1.Grey,())
      else
      bif decide (a2.PC=1) then
       (zbw (zR.mk a2 a1)).bind fun y7 =>
       some (y7.1.s,y7.1.Grey,())
      else
       bif decide (a2.PC=0) then
       (zad (zR.mk a2 a1)).bind fun y8 =>
       some (y8.1.s,y8.1.Grey,())
       else
       none:=zK
theorem zsO (a1:zA) (a2:Int):zla a1 a2 =
 (zb7 (a1.Marks&&&a1.Black) a2).bind fun y1 =>
 bif y1.1 then
 some (2,())
 else
 (zb7 a1.Marks a2).bind fun y2 =>
 bif y2.1 then
  some (1,())
 else
  some (0,()):=zK
theorem zqK (a1:zA) (a2:Int):zep a1 a2 =
 (zla a1 a2).bind fun y1 =>
 bif !(decide (y1.1=1)) then
 some (a1,false,())
 else
 (zau a1.Black a2).bind fun y2 =>
 some ({a1 with Black:=y2.1},true,()):=zK
theorem zhB (a1:zD) (a2:Int):VO a1 a2 =
 bif decide (1<=a2) then
 some (decide (a2<=((a1.Bal.length:Int))),())
 else
 some (false,()):=zK
theorem zl0 (a1:Int):zcY a1 =
 some (w64 (a1+1),()):=zK
theorem VD (a1:zD) (a2:Int):Yb a1 a2 =
 bif decide (((a1.Bal.length:Int))=((a1.Bal.length:Int))) then
 (U5 ((a1.Bal.length:Int))).bind fun n1 =>
 bif decide (a1.Bal.length=((List.replicate n1 ((0:Int))).length)) then
  bif a1.Bal.isEmpty then
  (Yh (List.replicate n1 ((0:Int))) (w64 (a2-1))).bind fun n2 =>
  ((List.replicate n1 ((0:Int)))[n2]?).bind fun x3 =>
  (zcY x3).bind fun y4 =>
  (Yh (List.replicate n1 ((0:Int))) (w64 (a2-1))).bind fun n5 =>
  some ({a1 with Bal:=(List.replicate n1 ((0:Int))).set n5 y4.1},())
  else
  (Yh a1.Bal (w64 (a2-1))).bind fun n6 =>
  (a1.Bal[n6]?).bind fun x7 =>
  (zcY x7).bind fun y8 =>
  (Yh a1.Bal (w64 (a2-1))).bind fun n9 =>
  some ({a1 with Bal:=a1.Bal.set n9 y8.1},())
 else
  none
 else
 none:=zK
theorem znP (a1:zD) (a2:Int):zbB a1 a2 =
 (VO ({a1 with Scanned:=w64 (a1.Scanned+1)}) a2).bind fun y1 =>
 bif !y1.1 then
 some ({a1 with Scanned:=w64 (a1.Scanned+1),Pool:=w64 (a1.Pool+1)},())
 else
 (Yb ({a1 with Scanned:=w64 (a1.Scanned+1)}) a2).bind fun y2 =>
 some (y2.1,()):=zK
theorem zhW (a1:zX):V8 a1 =
 bif decide (a1.Worker.PC=0) then
 bif decide (a1.Worker.PC=0) then
  (X7 a1).bind fun y1 =>
  some (y1.1,())
 else
  bif decide (a1.Worker.PC=2) then
  (uR a1).bind fun y2 =>
  bif decide (y2.1=1) then
   some ({y2.2.1 with Worker:={y2.2.1.Worker with PC:=3,Bin:=y2.2.1.Worker.C.X}},())
  else
   bif decide (y2.1=2) then
   (uu y2.2.1).bind fun y3 =>
   some (y3.1,())
   else
   some (y2.2.1,())
  else
  bif decide (a1.Worker.PC=3) then
   (Ud a1).bind fun y4 =>
   some (y4.1,())
  else
   bif decide (a1.Worker.PC=4) then
   (uR a1).bind fun y5 =>
   bif decide (y5.1=1) then
    some ({y5.2.1 with Worker:={y5.2.1.Worker with PC:=7,Bin:=0}},())
   else
    some (y5.2.1,())
   else
   bif decide (a1.Worker.PC=5) then
    (VZ a1).bind fun y6 =>
    some (y6.1,())
   else
    bif decide (a1.Worker.PC=6) then
    (zeD a1.s a1.Worker.G).bind fun y7 =>
    bif decide (y7.2.1.Out=1) then
     (WT (zX.mk {a1.Worker with G:=y7.2.1} y7.1 a1.w)).bind fun y8 =>
     some (zX.mk {a1.Worker with PC:=y8.1,G:=y7.2.1} y7.1 a1.w,())
    else
     some (zX.mk {a1.Worker with G:=y7.2.1} y7.1 a1.w,())
    else
    bif decide (a1.Worker.PC=7) then
     bif decide (((a1.Worker.Batch.length:Int))=0) then
     (uu a1).bind fun y9 =>
     some (y9.1,())
     else
     (idx a1.Worker.Batch 0).bind fun x10 =>
     (Xz x10 a1).bind fun y11 =>
     (cut y11.1.Worker.Batch 1 ((y11.1.Worker.Batch.length:Int))).bind fun l12 =>
     some ({y11.1 with Worker:={y11.1.Worker with Batch:=l12}},())
    else
     bif decide (a1.Worker.PC=8) then
     (zep a1.s.T a1.Worker.Obj).bind fun y13 =>
     (zbB a1.s.L 0).bind fun y14 =>
     some (zX.mk {a1.Worker with PC:=9} {a1.s with T:=y13.1,L:=y14.1} a1.w,())
     else
     bif decide (a1.Worker.PC=9) then
      some (zX.mk {a1.Worker with PC:=7,Obj:=0} {a1.s with Work:=w64 (a1.s.Work-1)} a1.w,())
     else
      some (a1,())
 else
 bif decide (a1.Worker.PC=1) then
  (X7 a1).bind fun y15 =>
  some (y15.1,())
 else
  bif decide (a1.Worker.PC=2) then
  (uR a1).bind fun y16 =>
  bif decide (y16.1=1) then
   some ({y16.2.1 with Worker:={y16.2.1.Worker with PC:=3,Bin:=y16.2.1.Worker.C.X}},())
  else
   bif decide (y16.1=2) then
   (uu y16.2.1).bind fun y17 =>
   some (y17.1,())
   else
   some (y16.2.1,())
  else
  bif decide (a1.Worker.PC=3) then
   (Ud a1).bind fun y18 =>
   some (y18.1,())
  else
   bif decide (a1.Worker.PC=4) then
   (uR a1).bind fun y19 =>
   bif decide (y19.1=1) then
    some ({y19.2.1 with Worker:={y19.2.1.Worker with PC:=7,Bin:=0}},())
   else
    some (y19.2.1,())
   else
   bif decide (a1.Worker.PC=5) then
    (VZ a1).bind fun y20 =>
    some (y20.1,())
   else
    bif decide (a1.Worker.PC=6) then
    (zeD a1.s a1.Worker.G).bind fun y21 =>
    bif decide (y21.2.1.Out=1) then
     (WT (zX.mk {a1.Worker with G:=y21.2.1} y21.1 a1.w)).bind fun y22 =>
     some (zX.mk {a1.Worker with PC:=y22.1,G:=y21.2.1} y21.1 a1.w,())
    else
     some (zX.mk {a1.Worker with G:=y21.2.1} y21.1 a1.w,())
    else
    bif decide (a1.Worker.PC=7) then
     bif decide (((a1.Worker.Batch.length:Int))=0) then
     (uu a1).bind fun y23 =>
     some (y23.1,())
     else
     (idx a1.Worker.Batch 0).bind fun x24 =>
     (Xz x24 a1).bind fun y25 =>
     (cut y25.1.Worker.Batch 1 ((y25.1.Worker.Batch.length:Int))).bind fun l26 =>
     some ({y25.1 with Worker:={y25.1.Worker with Batch:=l26}},())
    else
     bif decide (a1.Worker.PC=8) then
     (zep a1.s.T a1.Worker.Obj).bind fun y27 =>
     (zbB a1.s.L 0).bind fun y28 =>
     some (zX.mk {a1.Worker with PC:=9} {a1.s with T:=y27.1,L:=y28.1} a1.w,())
     else
     bif decide (a1.Worker.PC=9) then
      some (zX.mk {a1.Worker with PC:=7,Obj:=0} {a1.s with Work:=w64 (a1.s.Work-1)} a1.w,())
     else
      some (a1,()):=zK
theorem Ve (a1:List zh):vH a1 =
 bif a1.isEmpty then
 zkJ (
  some (([]:List zh),())) (
  (vQ (([]:List zh)++a1)).bind fun l1 =>
  some (l1,()))
 else
 (vQ (([]:List zh)++a1)).bind fun l2 =>
 some (l2,()):=zK
theorem znv (a1:za) (a2:Int):YZ a1 a2 =
 bif a1.Done then
 some (a1,())
 else
 bif decide (a2<1) then
  some (a1,())
 else
  bif decide (((a1.Ws.length:Int))<a2) then
  some (a1,())
  else
  (idx a1.Ws (w64 (a2-1))).bind fun x1 =>
  (V8 (zX.mk x1 a1 a2)).bind fun y2 =>
  (vH y2.1.s.Ws).bind fun y3 =>
  (Yh y3.1 (w64 (a2-1))).bind fun n4 =>
  some ({y2.1.s with Ws:=y3.1.set n4 y2.1.Worker},()):=zK
theorem zho (s1:List (List zr)) (s2:Int) (s3:Int) (s4:Int) (s5:Int) (s6:Int) (s7:Int) (s8:Int) (s9:Int) (s10:Int) (s11:Int) (s12:zw) (s13:Int) (s14:Int) (s15:Int) (s16:Int) (s17:Int) (s18:Int) (s19:Int) (s20:Int) (s21:Int) (s22:zw) (s23:zy) (s24:zy) (s25:List (List zr)) (s26:List zu) (s27:zy) (s28:zy) (s29:List (List zr)) (s30:List zu):zbZ (s1,s2,s3,s4,s5,s6,s7,s8,s9,s10,s11,s12,s13,s14,s15,s16,s17,s18,s19,s20,s21,s22,s23,s24,s25,s26,s27,s28,s29,s30,()) =
 bif decide (s2<((s1.length:Int))) then
 (vQ (s28++(([([1,0]:zE)]:zy)))).bind fun l1 =>
 (idx s1 s2).bind fun x2 =>
 (vQ (s29++(([x2]:List (List zr))))).bind fun l3 =>
 some (.again (s1,w64 (s2+1),s3,s4,s5,s6,s7,s8,s9,s10,s11,s12,s13,s14,s15,s16,s17,s18,s19,s20,s21,s22,s23,s24,s25,s26,s27,l1,l3,s30,()))
 else
 some (.brk (s3,s4,s5,s6,s7,s8,s9,s10,s11,s12,s13,s14,s15,s16,s17,s18,s19,s20,s21,s22,s23,s24,s25,s26,s27,s28,s29,s30,())):=by kernel_rfl
theorem zjq (a1:List (List zr)):zal a1 =
 (yM zbZ (a1,0,0,0,0,0,0,0,0,0,0,0#64,1,(a1.length:Int),2,1,1,4,2,2,1,1#64,([]:zy),([]:zy),([]:List (List zr)),([]:List zu),([([2]:zE),([0]:zE),([0]:zE)]:zy),([]:zy),([]:List (List zr)),([]:List zu),())).bind fun st=>match st with
  | .again _=>none
  | .brk y1 =>
  let y1a:=y1.2.2.2.2.2.2.2.2;let y1b:=y1a.2.2.2.2.2.2.2.2;let y1c:=y1b.2.2.2.2.2.2.2.2
  some (zc.mk y1a.2.2.1 y1a.2.2.2.1 y1a.2.2.2.2.1 y1a.2.2.2.2.2.1 y1a.2.2.2.2.2.2.1 y1a.2.2.2.2.2.2.2.1 y1b.1 y1b.2.1 (zC.mk y1b.2.2.1 y1c.1) y1b.2.2.2.1 y1c.2.1 y1c.2.2.1 y1c.2.2.2.1,())
  | .ret y1 =>
  none:=zK
theorem zax (s1:Int) (s2:Int) (s3:Int) (s4:za) (s5:Int) (s6:Int) (s7:Int) (s8:Int) (s9:Int) (s10:Int) (s11:Int) (s12:Int) (s13:Int) (s14:zw) (s15:Int) (s16:zA) (s17:Int) (s18:Int) (s19:Bool) (s20:Bool) (s21:Int) (s22:Int) (s23:Int) (s24:Int) (s25:zF) (s26:zy) (s27:zy) (s28:List (List zr)) (s29:List zu) (s30:zy) (s31:List zw) (s32:zy) (s33:zE) (s34:zE) (s35:List zh) (s36:List zg):ZA (s1,s2,s3,s4,s5,s6,s7,s8,s9,s10,s11,s12,s13,s14,s15,s16,s17,s18,s19,s20,s21,s22,s23,s24,s25,s26,s27,s28,s29,s30,s31,s32,s33,s34,s35,s36,()) =
 bif decide (s3<s2) then
 (YZ s4 s1).bind fun y1 =>
 some (.again (s1,s2,w64 (s3+1),y1.1,s5,s6,s7,s8,s9,s10,s11,s12,s13,s14,s15,s16,s17,s18,s19,s20,s21,s22,s23,s24,s25,s26,s27,s28,s29,s30,s31,s32,s33,s34,s35,s36,()))
 else
 some (.brk (s4,s5,s6,s7,s8,s9,s10,s11,s12,s13,s14,s15,s16,s17,s18,s19,s20,s21,s22,s23,s24,s25,s26,s27,s28,s29,s30,s31,s32,s33,s34,s35,s36,())):=by kernel_rfl
theorem zjG (a1:za) (a2:Int) (a3:Int):vK a1 a2 a3 =
 (yM ZA (a2,a3,0,a1,0,0,0,0,0,0,0,0,0,0#64,0,zA.mk 0#64 0#64,0,0,false,false,0,0,0,0,zF.mk 0 0,([]:zy),([]:zy),([]:List (List zr)),([]:List zu),([]:zy),([]:List zw),([]:zy),([]:zE),([]:zE),([]:List zh),([]:List zg),())).bind fun st=>match st with
  | .again _=>none
  | .brk y1 =>
  some (y1.1,())
  | .ret y1 =>
  none:=zK
theorem Vp (s1:zE) (s2:zE) (s3:Int) (s4:Int):Uu (s1,s2,s3,s4,()) =
 bif decide (s4<s3) then
 (idx s1 s4).bind fun x1 =>
 (idx s2 s4).bind fun x2 =>
 bif !(decide (x1=x2)) then
  some (.ret (false,()))
 else
  some (.again (s1,s2,s3,w64 (s4+1),()))
 else
 some (.brk (())):=by kernel_rfl
theorem zft (a1:zE) (a2:zE):yB a1 a2 =
 bif !(decide (((a1.length:Int))=((a2.length:Int)))) then
 some (false,())
 else
 (yM Uu (a1,a2,(a1.length:Int),0,())).bind fun st=>match st with
  | .again _=>none
  | .brk y1 =>
  some (true,())
  | .ret y1 =>
  some (y1.1,()):=zK
end Go.Pe.G
namespace Go.Pe.G
open Go.Pe
theorem xQ (s1:zy) (s2:zy) (s3:Int) (s4:Int):xZ (s1,s2,s3,s4,()) =
 bif decide (s4<s3) then
 (idx s2 s4).bind fun x1 =>
 (idx s1 s4).bind fun x2 =>
 (yB x1 x2).bind fun y3 =>
 bif !y3.1 then
  some (.ret (false,()))
 else
  some (.again (s1,s2,s3,w64 (s4+1),()))
 else
 some (.brk (())):=by kernel_rfl
theorem u0 (a1:zy) (a2:zy):zL a1 a2 =
 bif !(decide (((a1.length:Int))=((a2.length:Int)))) then
 some (false,())
 else
 (yM xZ (a2,a1,(a1.length:Int),0,())).bind fun st=>match st with
  | .again _=>none
  | .brk y1 =>
  some (true,())
  | .ret y1 =>
  some (y1.1,()):=zK
theorem zqI (a1:zC) (a2:zC):ZR a1 a2 =
 bif decide (a1.Slots=a2.Slots) then
 (zL a1.Objs a2.Objs).bind fun y1 =>
 some (y1.1,())
 else
 some (false,()):=zK
theorem zjd (a1:zc):UO a1 =
 some (zk8.mk a1.Workers a1.Mutators a1.Cap a1.Buf a1.Bin a1.Most a1.Price a1.Limit,()):=zK
theorem Yx (s1:List zr) (s2:List zr) (s3:Int) (s4:Int):Y8 (s1,s2,s3,s4,()) =
 bif decide (s4<s3) then
 (idx s1 s4).bind fun x1 =>
 (idx s2 s4).bind fun x2 =>
 bif !((decide (x1.Kind=x2.Kind))&&((decide (x1.R=x2.R))&&((decide (x1.A=x2.A))&&(decide (x1.S=x2.S))))) then
  some (.ret (false,()))
 else
  some (.again (s1,s2,s3,w64 (s4+1),()))
 else
 some (.brk (())):=by kernel_rfl
theorem zbd (a1:List zr) (a2:List zr):ZJ a1 a2 =
 bif !(decide (((a1.length:Int))=((a2.length:Int)))) then
 some (false,())
 else
 (yM Y8 (a1,a2,(a1.length:Int),0,())).bind fun st=>match st with
  | .again _=>none
  | .brk y1 =>
  some (true,())
  | .ret y1 =>
  some (y1.1,()):=zK
theorem xl (s1:List (List zr)) (s2:List (List zr)) (s3:Int) (s4:Int):xp (s1,s2,s3,s4,()) =
 bif decide (s4<s3) then
 (idx s2 s4).bind fun x1 =>
 (idx s1 s4).bind fun x2 =>
 (ZJ x1 x2).bind fun y3 =>
 bif !y3.1 then
  some (.ret (false,()))
 else
  some (.again (s1,s2,s3,w64 (s4+1),()))
 else
 some (.brk (())):=by kernel_rfl
theorem wX (a1:List (List zr)) (a2:List (List zr)):yy a1 a2 =
 bif !(decide (((a1.length:Int))=((a2.length:Int)))) then
 some (false,())
 else
 (yM xp (a2,a1,(a1.length:Int),0,())).bind fun st=>match st with
  | .again _=>none
  | .brk y1 =>
  some (true,())
  | .ret y1 =>
  some (y1.1,()):=zK
theorem ZN (s1:List zu) (s2:List zu) (s3:Int) (s4:Int):Yl (s1,s2,s3,s4,()) =
 bif decide (s4<s3) then
 (idx s1 s4).bind fun x1 =>
 (idx s2 s4).bind fun x2 =>
 bif !((decide (x1.Kind=x2.Kind))&&(decide (x1.N=x2.N))) then
  some (.ret (false,()))
 else
  some (.again (s1,s2,s3,w64 (s4+1),()))
 else
 some (.brk (())):=by kernel_rfl
theorem UZ (a1:List zu) (a2:List zu):uL a1 a2 =
 bif !(decide (((a1.length:Int))=((a2.length:Int)))) then
 some (false,())
 else
 (yM Yl (a1,a2,(a1.length:Int),0,())).bind fun st=>match st with
  | .again _=>none
  | .brk y1 =>
  some (true,())
  | .ret y1 =>
  some (y1.1,()):=zK
theorem zpX (a1:zc) (a2:zc):YA a1 a2 =
 (UO a1).bind fun y1 =>
 (UO a2).bind fun y2 =>
 bif (decide (y1.1.a0=y2.1.a0))&&((decide (y1.1.a1=y2.1.a1))&&((decide (y1.1.a2=y2.1.a2))&&((decide (y1.1.a3=y2.1.a3))&&((decide (y1.1.a4=y2.1.a4))&&((decide (y1.1.a5=y2.1.a5))&&((decide (y1.1.a6=y2.1.a6))&&(decide (y1.1.a7=y2.1.a7)))))))) then
 bif decide (a1.Roots=a2.Roots) then
  (ZR a1.H a2.H).bind fun y3 =>
  bif y3.1 then
  (zL a1.Regs a2.Regs).bind fun y4 =>
  bif y4.1 then
   (yy a1.Progs a2.Progs).bind fun y5 =>
   bif y5.1 then
   (uL a1.Picks a2.Picks).bind fun y6 =>
   some (y6.1,())
   else
   some (false,())
  else
   some (false,())
  else
  some (false,())
 else
  some (false,())
 else
 some (false,()):=zK
theorem YN (s1:List zw) (s2:List zw) (s3:Int) (s4:Int):XH (s1,s2,s3,s4,()) =
 bif decide (s4<s3) then
 (idx s1 s4).bind fun x1 =>
 (idx s2 s4).bind fun x2 =>
 bif !(decide (x1=x2)) then
  some (.ret (false,()))
 else
  some (.again (s1,s2,s3,w64 (s4+1),()))
 else
 some (.brk (())):=by kernel_rfl
theorem zbR (a1:List zw) (a2:List zw):Ye a1 a2 =
 bif !(decide (((a1.length:Int))=((a2.length:Int)))) then
 some (false,())
 else
 (yM XH (a1,a2,(a1.length:Int),0,())).bind fun st=>match st with
  | .again _=>none
  | .brk y1 =>
  some (true,())
  | .ret y1 =>
  some (y1.1,()):=zK
theorem zrC (a1:List zw) (a2:List zw):Xq a1 a2 =
 (Ye a1 a2).bind fun y1 =>
 some (y1.1,()):=zK
theorem XA (s1:zE) (s2:zE) (s3:Int) (s4:Int):WS (s1,s2,s3,s4,()) =
 bif decide (s4<s3) then
 (idx s1 s4).bind fun x1 =>
 (idx s2 s4).bind fun x2 =>
 bif !(decide (x1=x2)) then
  some (.ret (false,()))
 else
  some (.again (s1,s2,s3,w64 (s4+1),()))
 else
 some (.brk (())):=by kernel_rfl
theorem zcF (a1:zE) (a2:zE):YG a1 a2 =
 bif !(decide (((a1.length:Int))=((a2.length:Int)))) then
 some (false,())
 else
 (yM WS (a1,a2,(a1.length:Int),0,())).bind fun st=>match st with
  | .again _=>none
  | .brk y1 =>
  some (true,())
  | .ret y1 =>
  some (y1.1,()):=zK
theorem zng (a1:zD) (a2:zD):Zl a1 a2 =
 bif decide (a1.Scanned=a2.Scanned) then
 bif decide (a1.Spent=a2.Spent) then
  bif decide (a1.Pool=a2.Pool) then
  (YG a1.Bal a2.Bal).bind fun y1 =>
  some (y1.1,())
  else
  some (false,())
 else
  some (false,())
 else
 some (false,()):=zK
theorem ziY (a1:zh) (a2:zh):UQ a1 a2 =
 (yB a1.Batch a2.Batch).bind fun y1 =>
 bif !y1.1 then
 some (false,())
 else
 some (((decide (a1.PC=a2.PC))&&((decide (a1.Obj=a2.Obj))&&((decide (a1.Slot=a2.Slot))&&((decide (a1.Victim=a2.Victim))&&(decide (a1.Bin=a2.Bin))))))&&(((decide (a1.D.Kind=a2.D.Kind))&&((decide (a1.D.PC=a2.D.PC))&&((decide (a1.D.Base=a2.D.Base))&&((decide (a1.D.Cap=a2.D.Cap))&&((decide (a1.D.B=a2.D.B))&&((decide (a1.D.T=a2.D.T))&&((decide (a1.D.X=a2.D.X))&&(decide (a1.D.Out=a2.D.Out)))))))))&&(((decide (a1.C.Kind=a2.C.Kind))&&((decide (a1.C.PC=a2.C.PC))&&((decide (a1.C.Head=a2.C.Head))&&((decide (a1.C.Next=a2.C.Next))&&((decide (a1.C.H=a2.C.H))&&((decide (a1.C.X=a2.C.X))&&((decide (a1.C.Y=a2.C.Y))&&(decide (a1.C.Out=a2.C.Out)))))))))&&((decide (a1.G.PC=a2.G.PC))&&((decide (a1.G.Mode=a2.G.Mode))&&((decide (a1.G.Obj=a2.G.Obj))&&((decide (a1.G.Who=a2.G.Who))&&(((decide (a1.G.D.Kind=a2.G.D.Kind))&&((decide (a1.G.D.PC=a2.G.D.PC))&&((decide (a1.G.D.Base=a2.G.D.Base))&&((decide (a1.G.D.Cap=a2.G.D.Cap))&&((decide (a1.G.D.B=a2.G.D.B))&&((decide (a1.G.D.T=a2.G.D.T))&&((decide (a1.G.D.X=a2.G.D.X))&&(decide (a1.G.D.Out=a2.G.D.Out)))))))))&&(((decide (a1.G.C.Kind=a2.G.C.Kind))&&((decide (a1.G.C.PC=a2.G.C.PC))&&((decide (a1.G.C.Head=a2.G.C.Head))&&((decide (a1.G.C.Next=a2.G.C.Next))&&((decide (a1.G.C.H=a2.G.C.H))&&((decide (a1.G.C.X=a2.G.C.X))&&((decide (a1.G.C.Y=a2.G.C.Y))&&(decide (a1.G.C.Out=a2.G.C.Out)))))))))&&((decide (a1.G.Bin=a2.G.Bin))&&(decide (a1.G.Out=a2.G.Out))))))))))),()):=zK
theorem yU (s1:List zh) (s2:List zh) (s3:Int) (s4:Int):yZ (s1,s2,s3,s4,()) =
 bif decide (s4<s3) then
 (idx s2 s4).bind fun x1 =>
 (idx s1 s4).bind fun x2 =>
 (UQ x1 x2).bind fun y3 =>
 bif !y3.1 then
  some (.ret (false,()))
 else
  some (.again (s1,s2,s3,w64 (s4+1),()))
 else
 some (.brk (())):=by kernel_rfl
theorem wG (a1:List zh) (a2:List zh):yu a1 a2 =
 bif !(decide (((a1.length:Int))=((a2.length:Int)))) then
 some (false,())
 else
 (yM yZ (a2,a1,(a1.length:Int),0,())).bind fun st=>match st with
  | .again _=>none
  | .brk y1 =>
  some (true,())
  | .ret y1 =>
  some (y1.1,()):=zK
theorem zgo (a1:zg):Vb a1 =
 some (zk8.mk a1.PC a1.IP a1.Ret a1.Want a1.Old a1.Obj a1.Slot a1.Bin,()):=zK
theorem zhN (a1:zg) (a2:zg):V3 a1 a2 =
 (yB a1.Regs a2.Regs).bind fun y1 =>
 bif y1.1 then
 (yB a1.Buf a2.Buf).bind fun y2 =>
 bif y2.1 then
  (yB a1.Batch a2.Batch).bind fun y3 =>
  bif y3.1 then
  (Vb a1).bind fun y4 =>
  (Vb a2).bind fun y5 =>
  bif (decide (y4.1.a0=y5.1.a0))&&((decide (y4.1.a1=y5.1.a1))&&((decide (y4.1.a2=y5.1.a2))&&((decide (y4.1.a3=y5.1.a3))&&((decide (y4.1.a4=y5.1.a4))&&((decide (y4.1.a5=y5.1.a5))&&((decide (y4.1.a6=y5.1.a6))&&(decide (y4.1.a7=y5.1.a7)))))))) then
   bif (decide (a1.C.Kind=a2.C.Kind))&&((decide (a1.C.PC=a2.C.PC))&&((decide (a1.C.Head=a2.C.Head))&&((decide (a1.C.Next=a2.C.Next))&&((decide (a1.C.H=a2.C.H))&&((decide (a1.C.X=a2.C.X))&&((decide (a1.C.Y=a2.C.Y))&&(decide (a1.C.Out=a2.C.Out)))))))) then
   some ((decide (a1.G.PC=a2.G.PC))&&((decide (a1.G.Mode=a2.G.Mode))&&((decide (a1.G.Obj=a2.G.Obj))&&((decide (a1.G.Who=a2.G.Who))&&(((decide (a1.G.D.Kind=a2.G.D.Kind))&&((decide (a1.G.D.PC=a2.G.D.PC))&&((decide (a1.G.D.Base=a2.G.D.Base))&&((decide (a1.G.D.Cap=a2.G.D.Cap))&&((decide (a1.G.D.B=a2.G.D.B))&&((decide (a1.G.D.T=a2.G.D.T))&&((decide (a1.G.D.X=a2.G.D.X))&&(decide (a1.G.D.Out=a2.G.D.Out)))))))))&&(((decide (a1.G.C.Kind=a2.G.C.Kind))&&((decide (a1.G.C.PC=a2.G.C.PC))&&((decide (a1.G.C.Head=a2.G.C.Head))&&((decide (a1.G.C.Next=a2.G.C.Next))&&((decide (a1.G.C.H=a2.G.C.H))&&((decide (a1.G.C.X=a2.G.C.X))&&((decide (a1.G.C.Y=a2.G.C.Y))&&(decide (a1.G.C.Out=a2.G.C.Out)))))))))&&((decide (a1.G.Bin=a2.G.Bin))&&(decide (a1.G.Out=a2.G.Out)))))))),())
   else
   some (false,())
  else
   some (false,())
  else
  some (false,())
 else
  some (false,())
 else
 some (false,()):=zK
theorem yO (s1:List zg) (s2:List zg) (s3:Int) (s4:Int):yS (s1,s2,s3,s4,()) =
 bif decide (s4<s3) then
 (idx s2 s4).bind fun x1 =>
 (idx s1 s4).bind fun x2 =>
 (V3 x1 x2).bind fun y3 =>
 bif !y3.1 then
  some (.ret (false,()))
 else
  some (.again (s1,s2,s3,w64 (s4+1),()))
 else
 some (.brk (())):=by kernel_rfl
theorem wh (a1:List zg) (a2:List zg):yj a1 a2 =
 bif !(decide (((a1.length:Int))=((a2.length:Int)))) then
 some (false,())
 else
 (yM yS (a2,a1,(a1.length:Int),0,())).bind fun st=>match st with
  | .again _=>none
  | .brk y1 =>
  some (true,())
  | .ret y1 =>
  some (y1.1,()):=zK
theorem zow (a1:za) (a2:za):zcG a1 a2 =
 bif (decide (a1.T.Marks=a2.T.Marks))&&(decide (a1.T.Black=a2.T.Black)) then
 bif decide (a1.Work=a2.Work) then
  bif decide (a1.Epoch=a2.Epoch) then
  bif decide (a1.Flag=a2.Flag) then
   bif decide (a1.Done=a2.Done) then
   bif decide (a1.Restarts=a2.Restarts) then
    (YA a1.P a2.P).bind fun y1 =>
    bif y1.1 then
    (ZR a1.H a2.H).bind fun y2 =>
    bif y2.1 then
     (Xq a1.M a2.M).bind fun y3 =>
     bif y3.1 then
     (zL a1.Bins a2.Bins).bind fun y4 =>
     bif y4.1 then
      (yB a1.Acks a2.Acks).bind fun y5 =>
      bif y5.1 then
      (Zl a1.L a2.L).bind fun y6 =>
      bif (decide (a1.D.PC=a2.D.PC))&&(decide (a1.D.I=a2.D.I)) then
       bif y6.1 then
       (yu a1.Ws a2.Ws).bind fun y7 =>
       bif y7.1 then
        (yj a1.Ms a2.Ms).bind fun y8 =>
        some (y8.1,())
       else
        some (false,())
       else
       some (false,())
      else
       some (false,())
      else
      bif (decide (a1.D.PC=a2.D.PC))&&(decide (a1.D.I=a2.D.I)) then
       some (false,())
      else
       some (false,())
     else
      bif (decide (a1.D.PC=a2.D.PC))&&(decide (a1.D.I=a2.D.I)) then
      some (false,())
      else
      some (false,())
     else
     bif (decide (a1.D.PC=a2.D.PC))&&(decide (a1.D.I=a2.D.I)) then
      some (false,())
     else
      some (false,())
    else
     bif (decide (a1.D.PC=a2.D.PC))&&(decide (a1.D.I=a2.D.I)) then
     some (false,())
     else
     some (false,())
    else
    bif (decide (a1.D.PC=a2.D.PC))&&(decide (a1.D.I=a2.D.I)) then
     some (false,())
    else
     some (false,())
   else
    (YA a1.P a2.P).bind fun y9 =>
    bif y9.1 then
    (ZR a1.H a2.H).bind fun y10 =>
    bif y10.1 then
     (Xq a1.M a2.M).bind fun y11 =>
     bif y11.1 then
     (zL a1.Bins a2.Bins).bind fun y12 =>
     bif y12.1 then
      (yB a1.Acks a2.Acks).bind fun y13 =>
      bif y13.1 then
      (Zl a1.L a2.L).bind fun y14 =>
      some (false,())
      else
      some (false,())
     else
      some (false,())
     else
     some (false,())
    else
     some (false,())
    else
    some (false,())
   else
   (YA a1.P a2.P).bind fun y15 =>
   bif y15.1 then
    (ZR a1.H a2.H).bind fun y16 =>
    bif y16.1 then
    (Xq a1.M a2.M).bind fun y17 =>
    bif y17.1 then
     (zL a1.Bins a2.Bins).bind fun y18 =>
     bif y18.1 then
     (yB a1.Acks a2.Acks).bind fun y19 =>
     bif y19.1 then
      (Zl a1.L a2.L).bind fun y20 =>
      some (false,())
     else
      some (false,())
     else
     some (false,())
    else
     some (false,())
    else
    some (false,())
   else
    some (false,())
  else
   (YA a1.P a2.P).bind fun y21 =>
   bif y21.1 then
   (ZR a1.H a2.H).bind fun y22 =>
   bif y22.1 then
    (Xq a1.M a2.M).bind fun y23 =>
    bif y23.1 then
    (zL a1.Bins a2.Bins).bind fun y24 =>
    bif y24.1 then
     (yB a1.Acks a2.Acks).bind fun y25 =>
     bif y25.1 then
     (Zl a1.L a2.L).bind fun y26 =>
     some (false,())
     else
     some (false,())
    else
     some (false,())
    else
    some (false,())
   else
    some (false,())
   else
   some (false,())
  else
  (YA a1.P a2.P).bind fun y27 =>
  bif y27.1 then
   (ZR a1.H a2.H).bind fun y28 =>
   bif y28.1 then
   (Xq a1.M a2.M).bind fun y29 =>
   bif y29.1 then
    (zL a1.Bins a2.Bins).bind fun y30 =>
    bif y30.1 then
    (yB a1.Acks a2.Acks).bind fun y31 =>
    bif y31.1 then
     (Zl a1.L a2.L).bind fun y32 =>
     some (false,())
    else
     some (false,())
    else
    some (false,())
   else
    some (false,())
   else
   some (false,())
  else
   some (false,())
 else
  (YA a1.P a2.P).bind fun y33 =>
  bif y33.1 then
  (ZR a1.H a2.H).bind fun y34 =>
  bif y34.1 then
   (Xq a1.M a2.M).bind fun y35 =>
   bif y35.1 then
   (zL a1.Bins a2.Bins).bind fun y36 =>
   bif y36.1 then
    (yB a1.Acks a2.Acks).bind fun y37 =>
    bif y37.1 then
    (Zl a1.L a2.L).bind fun y38 =>
    some (false,())
    else
    some (false,())
   else
    some (false,())
   else
   some (false,())
  else
   some (false,())
  else
  some (false,())
 else
 (YA a1.P a2.P).bind fun y39 =>
 bif y39.1 then
  (ZR a1.H a2.H).bind fun y40 =>
  bif y40.1 then
  (Xq a1.M a2.M).bind fun y41 =>
  bif y41.1 then
   (zL a1.Bins a2.Bins).bind fun y42 =>
   bif y42.1 then
   (yB a1.Acks a2.Acks).bind fun y43 =>
   bif y43.1 then
    (Zl a1.L a2.L).bind fun y44 =>
    some (false,())
   else
    some (false,())
   else
   some (false,())
  else
   some (false,())
  else
  some (false,())
 else
  some (false,()):=zK
theorem zhA:VQ =
 (zal (([]:List (List zr)))).bind fun y1 =>
 (zeF y1.1).bind fun y2 =>
 (vK y2.1 1 4).bind fun y3 =>
 (vK y2.1 1 11).bind fun y4 =>
 (vK y2.1 1 100).bind fun y5 =>
 bif !(decide (((y2.1.Ws.length:Int))=1)) then
 some (false,())
 else
 bif !(decide (((y3.1.Ws.length:Int))=1)) then
  some (false,())
 else
  bif !(decide (((y4.1.Ws.length:Int))=1)) then
  some (false,())
  else
  bif !(decide (((y5.1.Ws.length:Int))=1)) then
   some (false,())
  else
   (idx y3.1.Ws 0).bind fun x6 =>
   bif decide (x6.PC=2) then
   (idx y3.1.Ws 0).bind fun x7 =>
   bif decide (x7.C.Kind=2) then
    (idx y4.1.Ws 0).bind fun x8 =>
    bif decide (x8.PC=7) then
    (idx y4.1.Ws 0).bind fun x9 =>
    bif decide (((x9.Batch.length:Int))=1) then
     (idx y4.1.Ws 0).bind fun x10 =>
     bif decide (x10.Bin=0) then
     bif decide (y5.1.Work=0) then
      bif (decide (y5.1.T.Marks=3#64))&&(decide (y5.1.T.Black=3#64)) then
      bif decide (y5.1.L.Pool=2) then
       bif decide (y5.1.L.Scanned=2) then
       (YZ y2.1 2).bind fun y11 =>
       (zcG y11.1 y2.1).bind fun y12 =>
       bif y12.1 then
        (YZ y2.1 0).bind fun y13 =>
        (zcG y13.1 y2.1).bind fun y14 =>
        bif y14.1 then
        some (!y5.1.Flag,())
        else
        some (false,())
       else
        some (false,())
       else
       some (false,())
      else
       some (false,())
      else
      some (false,())
     else
      some (false,())
     else
     some (false,())
    else
     some (false,())
    else
    some (false,())
   else
    some (false,())
   else
   some (false,()):=zK
theorem zdg (a1:zW):zN a1 =
 bif decide (((a1.L.length:Int))<=a1.At) then
 some (0,a1,())
 else
 (idx a1.L (w64 ((w64 (a1.At+1))-1))).bind fun x1 =>
 some ((x1.toNat:Int),{a1 with At:=w64 (a1.At+1)},()):=zK
theorem zeU (a1:Int) (a2:Int) (a3:zW):X4 a1 a2 a3 =
 (zN a3).bind fun y1 =>
 (Yh ([1,1,2,2,2,3,4,5]:zE) (y1.1.tmod 8)).bind fun n2 =>
 (([1,1,2,2,2,3,4,5]:zE)[n2]?).bind fun x3 =>
 (zN y1.2.1).bind fun y4 =>
 bif decide (a1=0) then
 none
 else
 bif decide (x3=1) then
  (zN y4.2.1).bind fun y5 =>
  bif decide (a1=0) then
  none
  else
  bif decide (x3<3) then
   (zN y5.2.1).bind fun y6 =>
   bif decide (a2=0) then
   none
   else
   some (zr.mk x3 (y4.1.tmod a1) (y5.1.tmod a1) (y6.1.tmod a2),y6.2.1,())
  else
   some (zr.mk x3 (y4.1.tmod a1) (y5.1.tmod a1) 0,y5.2.1,())
 else
  bif decide (x3=2) then
  (zN y4.2.1).bind fun y7 =>
  bif decide (a1=0) then
   none
  else
   bif decide (x3<3) then
   (zN y7.2.1).bind fun y8 =>
   bif decide (a2=0) then
    none
   else
    some (zr.mk x3 (y4.1.tmod a1) (y7.1.tmod a1) (y8.1.tmod a2),y8.2.1,())
   else
   some (zr.mk x3 (y4.1.tmod a1) (y7.1.tmod a1) 0,y7.2.1,())
  else
  bif decide (x3=4) then
   (zN y4.2.1).bind fun y9 =>
   bif decide (a1=0) then
   none
   else
   bif decide (x3<3) then
    (zN y9.2.1).bind fun y10 =>
    bif decide (a2=0) then
    none
    else
    some (zr.mk x3 (y4.1.tmod a1) (y9.1.tmod a1) (y10.1.tmod a2),y10.2.1,())
   else
    some (zr.mk x3 (y4.1.tmod a1) (y9.1.tmod a1) 0,y9.2.1,())
  else
   bif decide (x3<3) then
   (zN y4.2.1).bind fun y11 =>
   bif decide (a2=0) then
    none
   else
    some (zr.mk x3 (y4.1.tmod a1) 0 (y11.1.tmod a2),y11.2.1,())
   else
   some (zr.mk x3 (y4.1.tmod a1) 0 0,y4.2.1,()):=zK
end Go.Pe.G
namespace Go.Pe.G
open Go.Pe
theorem zhX (s1:Int) (s2:Int) (s3:Int) (s4:Int) (s5:Int) (s6:Int) (s7:Int) (s8:Int) (s9:Int) (s10:Int) (s11:Int) (s12:zw) (s13:zW) (s14:Int) (s15:Int) (s16:Int) (s17:Int) (s18:Int) (s19:Int) (s20:Int) (s21:Int) (s22:Int) (s23:zw) (s24:zy) (s25:zy) (s26:List (List zr)) (s27:List zu) (s28:zy) (s29:zy) (s30:List (List zr)) (s31:List zu):Xp (s1,s2,s3,s4,s5,s6,s7,s8,s9,s10,s11,s12,s13,s14,s15,s16,s17,s18,s19,s20,s21,s22,s23,s24,s25,s26,s27,s28,s29,s30,s31,()) =
 bif decide (s2<s1) then
 (yM YM (s1,s2,0,s3,s4,s5,s6,s7,s8,s9,s10,s11,s12,s13,s14,s15,s16,s17,s18,s19,s20,s21,s22,s23,([]:zE),s24,s25,s26,s27,s28,s29,s30,s31,())).bind fun st=>match st with
  | .again _=>none
  | .brk y1 =>
  let y1a:=y1.2.2.2.2.2.2.2.2;let y1b:=y1a.2.2.2.2.2.2.2.2;let y1c:=y1b.2.2.2.2.2.2.2.2
  (vQ (y1c.2.2.2.2.1++(([y1b.2.2.2.2.2.2.2.1]:zy)))).bind fun l2 =>
  some (.again (y1.1,w64 (y1.2.1+1),y1.2.2.1,y1.2.2.2.1,y1.2.2.2.2.1,y1.2.2.2.2.2.1,y1.2.2.2.2.2.2.1,y1.2.2.2.2.2.2.2.1,y1a.1,y1a.2.1,y1a.2.2.1,y1a.2.2.2.1,y1a.2.2.2.2.1,y1a.2.2.2.2.2.1,y1a.2.2.2.2.2.2.1,y1a.2.2.2.2.2.2.2.1,y1b.1,y1b.2.1,y1b.2.2.1,y1b.2.2.2.1,y1b.2.2.2.2.1,y1b.2.2.2.2.2.1,y1b.2.2.2.2.2.2.1,y1c.1,y1c.2.1,y1c.2.2.1,y1c.2.2.2.1,l2,y1c.2.2.2.2.2.1,y1c.2.2.2.2.2.2.1,y1c.2.2.2.2.2.2.2.1,()))
  | .ret y1 =>
  some (.ret (()))
 else
 some (.brk (s1,s3,s4,s5,s6,s7,s8,s9,s10,s11,s12,s13,s14,s15,s16,s17,s18,s19,s20,s21,s22,s23,s24,s25,s26,s27,s28,s29,s30,s31,())):=by kernel_rfl
theorem zhj (s1:Int) (s2:Int) (s3:Int) (s4:Int) (s5:Int) (s6:Int) (s7:Int) (s8:Int) (s9:Int) (s10:Int) (s11:Int) (s12:Int) (s13:zw) (s14:zW) (s15:Int) (s16:Int) (s17:Int) (s18:Int) (s19:Int) (s20:Int) (s21:Int) (s22:Int) (s23:Int) (s24:zw) (s25:zE) (s26:zy) (s27:zy) (s28:List (List zr)) (s29:List zu) (s30:zy) (s31:zy) (s32:List (List zr)) (s33:List zu):YM (s1,s2,s3,s4,s5,s6,s7,s8,s9,s10,s11,s12,s13,s14,s15,s16,s17,s18,s19,s20,s21,s22,s23,s24,s25,s26,s27,s28,s29,s30,s31,s32,s33,()) =
 bif decide (s3<s23) then
 (zN s14).bind fun y1 =>
 bif decide ((w64 (s1+1))=0) then
  none
 else
  (vQ (s25++(([(y1.1.tmod (w64 (s1+1)))]:zE)))).bind fun l2 =>
  some (.again (s1,s2,w64 (s3+1),s4,s5,s6,s7,s8,s9,s10,s11,s12,s13,y1.2.1,s15,s16,s17,s18,s19,s20,s21,s22,s23,s24,l2,s26,s27,s28,s29,s30,s31,s32,s33,()))
 else
 some (.brk (s1,s2,s4,s5,s6,s7,s8,s9,s10,s11,s12,s13,s14,s15,s16,s17,s18,s19,s20,s21,s22,s23,s24,s25,s26,s27,s28,s29,s30,s31,s32,s33,())):=by kernel_rfl
theorem zhb (s1:Int) (s2:Int) (s3:Int) (s4:Int) (s5:Int) (s6:Int) (s7:Int) (s8:Int) (s9:Int) (s10:Int) (s11:Int) (s12:zw) (s13:zW) (s14:Int) (s15:Int) (s16:Int) (s17:Int) (s18:Int) (s19:Int) (s20:Int) (s21:Int) (s22:Int) (s23:zw) (s24:zy) (s25:zy) (s26:List (List zr)) (s27:List zu) (s28:zy) (s29:zy) (s30:List (List zr)) (s31:List zu):YQ (s1,s2,s3,s4,s5,s6,s7,s8,s9,s10,s11,s12,s13,s14,s15,s16,s17,s18,s19,s20,s21,s22,s23,s24,s25,s26,s27,s28,s29,s30,s31,()) =
 bif decide (s2<s15) then
 (yM YO (s1,s2,0,s3,s4,s5,s6,s7,s8,s9,s10,s11,s12,s13,s14,s15,s16,s17,s18,s19,s20,s21,s22,s23,([]:zE),s24,s25,s26,s27,s28,s29,s30,s31,())).bind fun st=>match st with
  | .again _=>none
  | .brk y1 =>
  let y1a:=y1.2.2.2.2.2.2.2.2;let y1b:=y1a.2.2.2.2.2.2.2.2;let y1c:=y1b.2.2.2.2.2.2.2.2
  bif decide (((y1b.2.2.2.2.2.2.2.1.length:Int))=0) then
   (zN y1a.2.2.2.2.1).bind fun y2 =>
   (yM Zu (y1.1,y1.2.1,y2.1.tmod 8,y1.2.2.1,y1.2.2.2.1,y1.2.2.2.2.1,y1.2.2.2.2.2.1,y1.2.2.2.2.2.2.1,y1.2.2.2.2.2.2.2.1,y1a.1,y1a.2.1,y1a.2.2.1,y1a.2.2.2.1,y2.2.1,y1a.2.2.2.2.2.1,y1a.2.2.2.2.2.2.1,y1a.2.2.2.2.2.2.2.1,y1b.1,y1b.2.1,y1b.2.2.1,y1b.2.2.2.1,y1b.2.2.2.2.1,y1b.2.2.2.2.2.1,y1b.2.2.2.2.2.2.1,([0]:zE),([]:List zr),y1c.1,y1c.2.1,y1c.2.2.1,y1c.2.2.2.1,y1c.2.2.2.2.1,y1c.2.2.2.2.2.1,y1c.2.2.2.2.2.2.1,y1c.2.2.2.2.2.2.2.1,())).bind fun st=>match st with
    | .again _=>none
    | .brk y3 =>
    let y3a:=y3.2.2.2.2.2.2.2.2;let y3b:=y3a.2.2.2.2.2.2.2.2;let y3c:=y3b.2.2.2.2.2.2.2.2;let y3d:=y3c.2.2.2.2.2.2.2.2
    (vQ (y3c.2.2.2.2.2.2.1++(([y3b.2.2.2.2.2.2.2.1]:zy)))).bind fun l4 =>
    (vQ (y3c.2.2.2.2.2.2.2.1++(([y3c.1]:List (List zr))))).bind fun l5 =>
    some (.again (y3.1,w64 (y3.2.1+1),y3.2.2.1,y3.2.2.2.1,y3.2.2.2.2.1,y3.2.2.2.2.2.1,y3.2.2.2.2.2.2.1,y3.2.2.2.2.2.2.2.1,y3a.1,y3a.2.1,y3a.2.2.1,y3a.2.2.2.1,y3a.2.2.2.2.1,y3a.2.2.2.2.2.1,y3a.2.2.2.2.2.2.1,y3a.2.2.2.2.2.2.2.1,y3b.1,y3b.2.1,y3b.2.2.1,y3b.2.2.2.1,y3b.2.2.2.2.1,y3b.2.2.2.2.2.1,y3b.2.2.2.2.2.2.1,y3c.2.1,y3c.2.2.1,y3c.2.2.2.1,y3c.2.2.2.2.1,y3c.2.2.2.2.2.1,l4,l5,y3d.1,()))
    | .ret y3 =>
    some (.ret (()))
  else
   (zN y1a.2.2.2.2.1).bind fun y6 =>
   (yM Zu (y1.1,y1.2.1,y6.1.tmod 8,y1.2.2.1,y1.2.2.2.1,y1.2.2.2.2.1,y1.2.2.2.2.2.1,y1.2.2.2.2.2.2.1,y1.2.2.2.2.2.2.2.1,y1a.1,y1a.2.1,y1a.2.2.1,y1a.2.2.2.1,y6.2.1,y1a.2.2.2.2.2.1,y1a.2.2.2.2.2.2.1,y1a.2.2.2.2.2.2.2.1,y1b.1,y1b.2.1,y1b.2.2.1,y1b.2.2.2.1,y1b.2.2.2.2.1,y1b.2.2.2.2.2.1,y1b.2.2.2.2.2.2.1,y1b.2.2.2.2.2.2.2.1,([]:List zr),y1c.1,y1c.2.1,y1c.2.2.1,y1c.2.2.2.1,y1c.2.2.2.2.1,y1c.2.2.2.2.2.1,y1c.2.2.2.2.2.2.1,y1c.2.2.2.2.2.2.2.1,())).bind fun st=>match st with
    | .again _=>none
    | .brk y7 =>
    let y7a:=y7.2.2.2.2.2.2.2.2;let y7b:=y7a.2.2.2.2.2.2.2.2;let y7c:=y7b.2.2.2.2.2.2.2.2;let y7d:=y7c.2.2.2.2.2.2.2.2
    (vQ (y7c.2.2.2.2.2.2.1++(([y7b.2.2.2.2.2.2.2.1]:zy)))).bind fun l8 =>
    (vQ (y7c.2.2.2.2.2.2.2.1++(([y7c.1]:List (List zr))))).bind fun l9 =>
    some (.again (y7.1,w64 (y7.2.1+1),y7.2.2.1,y7.2.2.2.1,y7.2.2.2.2.1,y7.2.2.2.2.2.1,y7.2.2.2.2.2.2.1,y7.2.2.2.2.2.2.2.1,y7a.1,y7a.2.1,y7a.2.2.1,y7a.2.2.2.1,y7a.2.2.2.2.1,y7a.2.2.2.2.2.1,y7a.2.2.2.2.2.2.1,y7a.2.2.2.2.2.2.2.1,y7b.1,y7b.2.1,y7b.2.2.1,y7b.2.2.2.1,y7b.2.2.2.2.1,y7b.2.2.2.2.2.1,y7b.2.2.2.2.2.2.1,y7c.2.1,y7c.2.2.1,y7c.2.2.2.1,y7c.2.2.2.2.1,y7c.2.2.2.2.2.1,l8,l9,y7d.1,()))
    | .ret y7 =>
    some (.ret (()))
  | .ret y1 =>
  some (.ret (()))
 else
 some (.brk (s3,s4,s5,s6,s7,s8,s9,s10,s11,s12,s14,s15,s16,s17,s18,s19,s20,s21,s22,s23,s24,s25,s26,s27,s28,s29,s30,s31,())):=by kernel_rfl
theorem zg5 (s1:Int) (s2:Int) (s3:Int) (s4:Int) (s5:Int) (s6:Int) (s7:Int) (s8:Int) (s9:Int) (s10:Int) (s11:Int) (s12:Int) (s13:zw) (s14:zW) (s15:Int) (s16:Int) (s17:Int) (s18:Int) (s19:Int) (s20:Int) (s21:Int) (s22:Int) (s23:Int) (s24:zw) (s25:zE) (s26:zy) (s27:zy) (s28:List (List zr)) (s29:List zu) (s30:zy) (s31:zy) (s32:List (List zr)) (s33:List zu):YO (s1,s2,s3,s4,s5,s6,s7,s8,s9,s10,s11,s12,s13,s14,s15,s16,s17,s18,s19,s20,s21,s22,s23,s24,s25,s26,s27,s28,s29,s30,s31,s32,s33,()) =
 (zN s14).bind fun y1 =>
 bif decide (s3<(w64 (1+(y1.1.tmod 3)))) then
 (zN y1.2.1).bind fun y2 =>
 bif decide ((w64 (s1+1))=0) then
  none
 else
  (vQ (s25++(([(y2.1.tmod (w64 (s1+1)))]:zE)))).bind fun l3 =>
  some (.again (s1,s2,w64 (s3+1),s4,s5,s6,s7,s8,s9,s10,s11,s12,s13,y2.2.1,s15,s16,s17,s18,s19,s20,s21,s22,s23,s24,l3,s26,s27,s28,s29,s30,s31,s32,s33,()))
 else
 some (.brk (s1,s2,s4,s5,s6,s7,s8,s9,s10,s11,s12,s13,y1.2.1,s15,s16,s17,s18,s19,s20,s21,s22,s23,s24,s25,s26,s27,s28,s29,s30,s31,s32,s33,())):=by kernel_rfl
theorem zhy (s1:Int) (s2:Int) (s3:Int) (s4:Int) (s5:Int) (s6:Int) (s7:Int) (s8:Int) (s9:Int) (s10:Int) (s11:Int) (s12:Int) (s13:zw) (s14:zW) (s15:Int) (s16:Int) (s17:Int) (s18:Int) (s19:Int) (s20:Int) (s21:Int) (s22:Int) (s23:Int) (s24:zw) (s25:zE) (s26:List zr) (s27:zy) (s28:zy) (s29:List (List zr)) (s30:List zu) (s31:zy) (s32:zy) (s33:List (List zr)) (s34:List zu):Zu (s1,s2,s3,s4,s5,s6,s7,s8,s9,s10,s11,s12,s13,s14,s15,s16,s17,s18,s19,s20,s21,s22,s23,s24,s25,s26,s27,s28,s29,s30,s31,s32,s33,s34,()) =
 bif decide (0<s3) then
 (X4 ((s25.length:Int)) s23 s14).bind fun y1 =>
 (vQ (s26++([y1.1]:List zr))).bind fun l2 =>
 some (.again (s1,s2,w64 (s3-1),s4,s5,s6,s7,s8,s9,s10,s11,s12,s13,y1.2.1,s15,s16,s17,s18,s19,s20,s21,s22,s23,s24,s25,l2,s27,s28,s29,s30,s31,s32,s33,s34,()))
 else
 some (.brk (s1,s2,s4,s5,s6,s7,s8,s9,s10,s11,s12,s13,s14,s15,s16,s17,s18,s19,s20,s21,s22,s23,s24,s25,s26,s27,s28,s29,s30,s31,s32,s33,s34,())):=by kernel_rfl
theorem zkF (a1:List (BitVec 8)):za5 a1 =
 (cut a1 0 (bif decide (90<((a1.length:Int))) then 90 else ((a1.length:Int)))).bind fun l1 =>
 (zN (zW.mk l1 0)).bind fun y2 =>
 (zN y2.2.1).bind fun y3 =>
 (zN y3.2.1).bind fun y4 =>
 (zN y4.2.1).bind fun y5 =>
 (zN y5.2.1).bind fun y6 =>
 (zN y6.2.1).bind fun y7 =>
 (zN y7.2.1).bind fun y8 =>
 (zN y8.2.1).bind fun y9 =>
 (zN y9.2.1).bind fun y10 =>
 (zN y10.2.1).bind fun y11 =>
 (yM Xp (w64 (1+(y10.1.tmod 6)),0,0,0,0,0,0,0,0,0,0,0#64,y11.2.1,w64 (1+(y2.1.tmod 3)),y3.1.tmod 3,w64 (1+(y4.1.tmod 3)),w64 (1+(y5.1.tmod 2)),w64 (1+(y6.1.tmod 3)),w64 ((w64 (1+(y10.1.tmod 6)))+(y11.1.tmod 4)),y7.1.tmod 4,y8.1.tmod 4,w64 (1+(y9.1.tmod 2)),0#64,([]:zy),([]:zy),([]:List (List zr)),([]:List zu),([]:zy),([]:zy),([]:List (List zr)),([]:List zu),())).bind fun st=>match st with
  | .again _=>none
  | .brk y12 =>
  let y12a:=y12.2.2.2.2.2.2.2.2;let y12b:=y12a.2.2.2.2.2.2.2.2;let y12c:=y12b.2.2.2.2.2.2.2.2
  (zN y12a.2.2.2.1).bind fun y13 =>
  bif decide ((w64 (y12.1+1))=0) then
  none
  else
  (zau 0#64 (y13.1.tmod (w64 (y12.1+1)))).bind fun y14 =>
  (yM YQ (y12.1,0,y12.2.1,y12.2.2.1,y12.2.2.2.1,y12.2.2.2.2.1,y12.2.2.2.2.2.1,y12.2.2.2.2.2.2.1,y12.2.2.2.2.2.2.2.1,y12a.1,y12a.2.1,y12a.2.2.1,y13.2.1,y12a.2.2.2.2.1,y12a.2.2.2.2.2.1,y12a.2.2.2.2.2.2.1,y12a.2.2.2.2.2.2.2.1,y12b.1,y12b.2.1,y12b.2.2.1,y12b.2.2.2.1,y12b.2.2.2.2.1,y14.1,y12b.2.2.2.2.2.2.1,y12b.2.2.2.2.2.2.2.1,y12c.1,y12c.2.1,y12c.2.2.1,y12c.2.2.2.1,y12c.2.2.2.2.1,y12c.2.2.2.2.2.1,())).bind fun st=>match st with
   | .again _=>none
   | .brk y15 =>
   let y15a:=y15.2.2.2.2.2.2.2.2;let y15b:=y15a.2.2.2.2.2.2.2.2;let y15c:=y15b.2.2.2.2.2.2.2.2
   some (zc.mk y15a.2.2.1 y15a.2.2.2.1 y15a.2.2.2.2.1 y15a.2.2.2.2.2.1 y15a.2.2.2.2.2.2.1 y15a.2.2.2.2.2.2.2.1 y15b.1 y15b.2.1 (zC.mk y15b.2.2.1 y15c.1) y15b.2.2.2.1 y15c.2.1 y15c.2.2.1 y15c.2.2.2.1,())
   | .ret y15 =>
   none
  | .ret y12 =>
  none:=zK
theorem zaq (s1:List (BitVec 8)) (s2:Int) (s3:Int) (s4:za) (s5:Int) (s6:Int) (s7:Int) (s8:Int) (s9:Int) (s10:Int) (s11:Int) (s12:Int) (s13:Int) (s14:zw) (s15:Int) (s16:zA) (s17:Int) (s18:Int) (s19:Bool) (s20:Bool) (s21:Int) (s22:Int) (s23:Int) (s24:Int) (s25:zF) (s26:zy) (s27:zy) (s28:List (List zr)) (s29:List zu) (s30:zy) (s31:List zw) (s32:zy) (s33:zE) (s34:zE) (s35:List zh) (s36:List zg):Zs (s1,s2,s3,s4,s5,s6,s7,s8,s9,s10,s11,s12,s13,s14,s15,s16,s17,s18,s19,s20,s21,s22,s23,s24,s25,s26,s27,s28,s29,s30,s31,s32,s33,s34,s35,s36,()) =
 bif decide (s3<((s1.length:Int))) then
 bif decide (s3<s2) then
  (idx s1 s3).bind fun x1 =>
  bif decide (((s4.Ws.length:Int))=0) then
  none
  else
  (YZ s4 (w64 (1+(((x1.toNat:Int)).tmod ((s4.Ws.length:Int)))))).bind fun y2 =>
  some (.again (s1,s2,w64 (s3+1),y2.1,s5,s6,s7,s8,s9,s10,s11,s12,s13,s14,s15,s16,s17,s18,s19,s20,s21,s22,s23,s24,s25,s26,s27,s28,s29,s30,s31,s32,s33,s34,s35,s36,()))
 else
  some (.brk (s4,s5,s6,s7,s8,s9,s10,s11,s12,s13,s14,s15,s16,s17,s18,s19,s20,s21,s22,s23,s24,s25,s26,s27,s28,s29,s30,s31,s32,s33,s34,s35,s36,()))
 else
 some (.brk (s4,s5,s6,s7,s8,s9,s10,s11,s12,s13,s14,s15,s16,s17,s18,s19,s20,s21,s22,s23,s24,s25,s26,s27,s28,s29,s30,s31,s32,s33,s34,s35,s36,())):=by kernel_rfl
theorem zje (a1:za) (a2:List (BitVec 8)) (a3:Int):WV a1 a2 a3 =
 (yM Zs (a2,a3,0,a1,0,0,0,0,0,0,0,0,0,0#64,0,zA.mk 0#64 0#64,0,0,false,false,0,0,0,0,zF.mk 0 0,([]:zy),([]:zy),([]:List (List zr)),([]:List zu),([]:zy),([]:List zw),([]:zy),([]:zE),([]:zE),([]:List zh),([]:List zg),())).bind fun st=>match st with
  | .again _=>none
  | .brk y1 =>
  some (y1.1,())
  | .ret y1 =>
  none:=zK
theorem ziO (s1:zw) (s2:zE) (s3:Int):U3 (s1,s2,s3,()) =
 bif decide (s3<64) then
 (zd1 s2 64 s3).bind fun n1 =>
 (s2[n1]?).bind fun x2 =>
 bif decide (0<x2) then
  (zau s1 (w64 (s3+1))).bind fun y3 =>
  some (.again (y3.1,s2,w64 (s3+1),()))
 else
  some (.again (s1,s2,w64 (s3+1),()))
 else
 some (.brk (s1,())):=by kernel_rfl
theorem zk4 (a1:zE):zbQ a1 =
 bif decide (a1.length=64) then
 (yM U3 (0#64,a1,0,())).bind fun st=>match st with
  | .again _=>none
  | .brk y1 =>
  some (y1.1,())
  | .ret y1 =>
  none
 else
 none:=zK
theorem zmO (a1:Int):zjA a1 =
 some (true,()):=zK
theorem Y3 (s1:zw) (s2:Int) (s3:Int) (s4:zC) (s5:zE) (s6:zE) (s7:zE):ZL (s1,s2,s3,s4,s5,s6,s7,()) =
 bif decide (s3<s2) then
 (Yh s7 s3).bind fun n1 =>
 (s7[n1]?).bind fun x2 =>
 (zd1 s6 64 (w64 (x2-1))).bind fun n3 =>
 some (.again (s1,s2,w64 (s3+1),s4,s5,s6.set n3 1,s7,()))
 else
 some (.brk (s1,s4,s5,s6,s7,())):=by kernel_rfl
theorem uZ (s1:zw) (s2:zC) (s3:zE) (s4:zE) (s5:zE):ZI (s1,s2,s3,s4,s5,()) =
 bif decide (0<((s5.length:Int))) then
 (Yh s5 0).bind fun n1 =>
 (s5[n1]?).bind fun x2 =>
 (zjA x2).bind fun y3 =>
 bif !y3.1 then
  (cut s5 1 ((s5.length:Int))).bind fun l4 =>
  some (.again (s1,s2,s3,s4,l4,()))
 else
  (idx s2.Objs (w64 (x2-1))).bind fun x5 =>
  (yM vS (s1,x2,x5,(x5.length:Int),0,s2,s3,s4,s5,())).bind fun st=>match st with
   | .again _=>none
   | .brk y6 =>
   (cut y6.2.2.2.2.1 1 ((y6.2.2.2.2.1.length:Int))).bind fun l7 =>
   some (.again (y6.1,y6.2.1,y6.2.2.1,y6.2.2.2.1,l7,()))
   | .ret y6 =>
   some (.ret (()))
 else
 some (.brk (s3,s4,())):=by kernel_rfl
theorem YL (s1:zw) (s2:Int) (s3:zE) (s4:Int) (s5:Int) (s6:zC) (s7:zE) (s8:zE) (s9:zE):vS (s1,s2,s3,s4,s5,s6,s7,s8,s9,()) =
 bif decide (s5<s4) then
 (idx s3 s5).bind fun x1 =>
 (zb7 s1 x1).bind fun y2 =>
 bif y2.1 then
  (zd1 s8 64 (w64 (x1-1))).bind fun n3 =>
  (s8[n3]?).bind fun x4 =>
  bif decide (x4=0) then
  (zd1 s8 64 (w64 (s2-1))).bind fun n5 =>
  (s8[n5]?).bind fun x6 =>
  (zd1 s8 64 (w64 (x1-1))).bind fun n7 =>
  (vQ (s9++([x1]:zE))).bind fun l8 =>
  some (.again (s1,s2,s3,s4,w64 (s5+1),s6,s7,s8.set n7 (w64 (x6+1)),l8,()))
  else
  some (.again (s1,s2,s3,s4,w64 (s5+1),s6,s7,s8,s9,()))
 else
  some (.again (s1,s2,s3,s4,w64 (s5+1),s6,s7,s8,s9,()))
 else
 some (.brk (s1,s6,s7,s8,s9,())):=by kernel_rfl
theorem zck (a1:zC) (a2:zw):Yw a1 a2 =
 (zej ((a1.Objs.length:Int))).bind fun y1 =>
 (zcV (a2&&&y1.1)).bind fun y2 =>
 (yM ZL (y1.1,(y2.1.length:Int),0,a1,List.replicate 64 ((0:Int)),List.replicate 64 ((0:Int)),y2.1,())).bind fun st=>match st with
  | .again _=>none
  | .brk y3 =>
  (yM ZI (y3.1,y3.2.1,y3.2.2.1,y3.2.2.2.1,y3.2.2.2.2.1,())).bind fun st=>match st with
   | .again _=>none
   | .brk y4 =>
   bif decide (y4.2.1.length=64) then
   bif decide (y4.1.length=64) then
    bif decide (y4.2.1.length=64) then
    some (y4.2.1,())
    else
    none
   else
    none
   else
   none
   | .ret y4 =>
   none
  | .ret y3 =>
  none:=zK
theorem zob (a1:zC) (a2:zw):zam a1 a2 =
 (Yw a1 a2).bind fun y1 =>
 (zbQ y1.1).bind fun y2 =>
 some (y2.1,()):=zK
theorem zqc (a1:zc):zjc a1 =
 (zcS a1).bind fun y1 =>
 (zam a1.H y1.1).bind fun y2 =>
 some (y2.1,()):=zK
theorem zcT (s1:Int) (s2:zE) (s3:Int) (s4:Int) (s5:zD):Xb (s1,s2,s3,s4,s5,()) =
 bif decide (s4<s3) then
 (idx s2 s4).bind fun x1 =>
 bif decide (x1<(-1099511627776)) then
  some (.ret (false,()))
 else
  bif decide (1099511627776<x1) then
  some (.ret (false,()))
  else
  some (.again (w64 (s1+x1),s2,s3,w64 (s4+1),s5,()))
 else
 some (.brk (s1,s5,())):=by kernel_rfl
theorem zmN (a1:zD):zdp a1 =
 bif decide (16<((a1.Bal.length:Int))) then
 some (false,())
 else
 bif decide ((bif decide (a1.Pool<(bif decide (a1.Spent<a1.Scanned) then a1.Spent else a1.Scanned)) then a1.Pool else (bif decide (a1.Spent<a1.Scanned) then a1.Spent else a1.Scanned))<0) then
  some (false,())
 else
  bif decide (1099511627776<(bif decide ((bif decide (a1.Scanned<a1.Spent) then a1.Spent else a1.Scanned)<a1.Pool) then a1.Pool else (bif decide (a1.Scanned<a1.Spent) then a1.Spent else a1.Scanned))) then
  some (false,())
  else
  (yM Xb (w64 (a1.Spent+a1.Pool),a1.Bal,(a1.Bal.length:Int),0,a1,())).bind fun st=>match st with
   | .again _=>none
   | .brk y1 =>
   some (decide (y1.1=y1.2.1.Scanned),())
   | .ret y1 =>
   some (y1.1,()):=zK
theorem Vo (s1:Bool) (s2:Int) (s3:zc) (s4:za):w9 (s1,s2,s3,s4,()) =
 bif decide (s2<1500) then
 (yM wO (s1,s2,1,s3,s4,())).bind fun st=>match st with
  | .again _=>none
  | .brk y1 =>
  some (.again (y1.1,w64 (y1.2.1+1),y1.2.2.1,y1.2.2.2.1,()))
  | .ret y1 =>
  some (.ret (()))
 else
 some (.brk (s1,s3,s4,())):=by kernel_rfl
theorem W2 (s1:Bool) (s2:Int) (s3:Int) (s4:zc) (s5:za):wO (s1,s2,s3,s4,s5,()) =
 bif decide (s3<=((s5.Ws.length:Int))) then
 (YZ s5 s3).bind fun y1 =>
 some (.again (s1,s2,w64 (s3+1),s4,y1.1,()))
 else
 some (.brk (s1,s2,s4,s5,())):=by kernel_rfl
theorem zfe (a1:List (BitVec 8)) (a2:List (BitVec 8)):uV a1 a2 =
 (VQ).bind fun y1 =>
 bif !y1.1 then
 some (false,())
 else
 (za5 a1).bind fun y2 =>
 (zeF y2.1).bind fun y3 =>
 (WV y3.1 a2 200).bind fun y4 =>
 (yM w9 (y1.1,0,y2.1,y4.1,())).bind fun st=>match st with
  | .again _=>none
  | .brk y5 =>
  (zjc y5.2.1).bind fun y6 =>
  bif y5.1 then
   bif decide (y5.2.2.1.Work=0) then
   bif decide (y5.2.2.1.T.Marks=y6.1) then
    bif decide (y5.2.2.1.T.Black=y6.1) then
    (zeG y6.1).bind fun y7 =>
    bif decide (y5.2.2.1.L.Pool=y7.1) then
     bif decide (y5.2.2.1.L.Scanned=y5.2.2.1.L.Pool) then
     (zdp y5.2.2.1.L).bind fun y8 =>
     some (y8.1,())
     else
     some (false,())
    else
     some (false,())
    else
    some (false,())
   else
    some (false,())
   else
   some (false,())
  else
   some (false,())
  | .ret y5 =>
  none:=zK
end Go.Pe.G
namespace Go.Pe.G
open Go.Pe Go.Proofs
theorem zBf:Tryz.prog.funcs[58]? =some Tryz.f58:=by kernel_rfl
theorem zAy:Tryz.f58.body.isSome=true:=by kernel_rfl
theorem zz7:YV Tryz.prog 58=true:=by kernel_rfl
theorem zBc:Tryz.prog.funcs[92]? =some Tryz.f92:=by kernel_rfl
theorem zAt:Tryz.f92.body.isSome=true:=by kernel_rfl
theorem zAb:YV Tryz.prog 92=true:=by kernel_rfl
theorem zma (ys:List Int) (s1:Int) (s2:Int) (s3:BitVec 64):zac ys (s1,s2,s3,()) =
 bif !(decide (s3=0#64)) then
 (qTZ s3).bind fun y1 =>
 (zbs ys s2 (w64 (y1.1+1))).bind fun _ =>
 some (.again (s1,s2+1,s3&&&(s3-1#64),()))
 else
 some (.brk (s1,s2,())):=by kernel_rfl
theorem zpi (n:Int) (ys:List Int) (a1:BitVec 64):zoR (zaV ys) Tryz.f92 zjN n ((a1,()):(BitVec 64)×Unit) =
 (yM (zac ys) (n,0,a1,())).bind fun st=>match st with
  | .again _=>none
  | .brk y1 =>
  some y1.2.1
  | .ret y1 =>
  some y1.2.1:=by kernel_rfl
theorem XQ (ys:List (List Int)) (s1:Int) (s2:Int) (s3:Int) (s4:List Int) (s5:Int):uz ys (s1,s2,s3,s4,s5,()) =
 bif decide (s3<((s4.length:Int))) then
 (cut s4 s3 ((s4.length:Int))).bind fun l1 =>
 bif decide (s3=0)&&decide ((w64 (s3+(bif decide (((l1.length:Int))<s5) then ((l1.length:Int)) else s5)))=0)&&decide ((w64 (s3+(bif decide (((l1.length:Int))<s5) then ((l1.length:Int)) else s5)))=0) then
  (zbs ys s2 ([]:List Int)).bind fun _ =>
  some (.again (s1,s2+1,w64 (s3+s5),s4,s5,()))
 else
  bif decide (s3=0)&&decide ((w64 (s3+(bif decide (((l1.length:Int))<s5) then ((l1.length:Int)) else s5)))=((s4.length:Int)))&&decide ((w64 (s3+(bif decide (((l1.length:Int))<s5) then ((l1.length:Int)) else s5)))=((s4.length:Int))) then
  (zbs ys s2 s4).bind fun _ =>
  some (.again (s1,s2+1,w64 (s3+s5),s4,s5,()))
  else
  bif decide ((w64 (s3+(bif decide (((l1.length:Int))<s5) then ((l1.length:Int)) else s5)))=(w64 (s3+(bif decide (((l1.length:Int))<s5) then ((l1.length:Int)) else s5)))) then
   (cut s4 s3 (w64 (s3+(bif decide (((l1.length:Int))<s5) then ((l1.length:Int)) else s5)))).bind fun l2 =>
   (zbs ys s2 l2).bind fun _ =>
   some (.again (s1,s2+1,w64 (s3+s5),s4,s5,()))
  else
   none
 else
 some (.brk (s1,s2,())):=by kernel_rfl
theorem zdh (n:Int) (ys:List (List Int)) (a1:List Int) (a2:Int):zoR (uT ys) Tryz.f58 Vy n ((a1,a2,()):(List Int)×Int×Unit) =
 (yM (uz ys) (n,0,0,a1,a2,())).bind fun st=>match st with
  | .again _=>none
  | .brk y1 =>
  some y1.2.1
  | .ret y1 =>
  some y1.2.1:=by kernel_rfl
end Go.Pe.G
namespace Go.Pe.G
open Go.Pe Go.Proofs
theorem zl2 {A B D:Type}(g:A->Option (xJ A B D)) {o:xJ Unit B D}:∀(k m:Nat) (x:A),vd g k x=some o->k<=m->vd g m x=some o
 | 0,m,x,h,_=>by cases h
 | k+1,0,x,h,hm=>by omega
 | k+1,m+1,x,h,hm=>by
  simp only [vd,zBw] at h ⊢;obtain ⟨s,h1,h2⟩:=h;refine ⟨s,h1,?_⟩;cases s with
  | again y=>exact zl2 g k m y h2 (by omega)
  | brk b=>exact h2
  | ret c=>exact h2
theorem zry {α:Type}(pre post:List α) (z:α):zbs (pre++z::post) (pre.length:Int) z=some ():=by
 unfold zbs;rw [zb];refine ⟨by omega,?_⟩;simp
theorem zfM (n:Int) (ys:List Int):∀(f:Nat) (s:BitVec 64) (l pre:List Int),VA f s=some l->ys=pre++l->vd (zac ys) f (n,(pre.length:Int),s,())=some (.brk (n,(ys.length:Int),()))
 | 0,s,l,pre,h,_=>by cases h
 | f+1,s,l,pre,h,e=>by
  simp only [VA] at h;simp only [vd,zma];cases hz:decide (s=0#64) with
  | true =>
   simp only [hz,zI,Option.some.injEq] at h;subst h;simp only [zBo] at e;subst e;rfl
  | false =>
   simp only [hz,yg,zBD] at h;obtain ⟨l',h1,rfl⟩:=h;have hn:zbs ys (pre.length:Int) (w64 (tz s+1))=some ():=by rw [e];exact zry pre l' _
   simp only [Bool.not_false,zI,zAB,zBk,hn];have:=zfM n ys f (s&&&(s-1#64)) l' (pre++[w64 (tz s+1)]) h1 (by rw [e];simp);simpa using this
theorem znW (G:Nat->Prop) (W0:World) (hG:zv3 G W0):Y6 Tryz.prog G W0 92 zat:=by
 obtain ⟨c,hc⟩:=Option.isSome_iff_exists.1 zAt;refine zpd (Cg:=zaV []) rfl zsC (fun f s hs=>Oks.at (.cons _ _ _ _ zAu (zxy hG) (.skip _ _ .nil)) f s hs) rfl zva (fun g it h=>by cases h) zAb zBc hc zat (zB0 (by kernel_rfl)) rfl ?_;rintro n ⟨a,⟨⟩⟩ ys h;have h:VA 66 a=some ys:=h;have e:=zpi n ys a;have k:=zl2 _ 66 rounds _ (zfM n ys 66 a ys [] h rfl) (by decide);refine Eq.trans e ?_;have k':vd (zac ys) rounds (n,0,a,())=some (.brk (n,(ys.length:Int),())):=k;rw [Uh,k'];rfl
theorem zxm {a:Int}(h: -9223372036854775808<=a) (h2:a<9223372036854775808):w64 a=a:=by
 rw [zmq];omega
theorem zcl (n:Int) (ys:List (List Int)) (l:List Int) (sz:Nat) (h1:1<=sz) (h2:sz<1000000) (h3:l.length<1000000):∀(f p:Nat) (pre:List (List Int)),(l.drop p).length<=f->ys=pre++ua sz f (l.drop p)->p<2000000 ->
  vd (uz ys) (f+1) (n,(pre.length:Int),(p:Int),l,(sz:Int),())=some (.brk (n,(ys.length:Int),())):=by
 intro f
 induction f with
 | zero =>
  intro p pre hf e hp;simp only [vd,XQ];simp only [zCz] at hf;have: ¬(p:Int)<(l.length:Int):=by omega
  simp only [this,decide_false,yg,zBk];simp only [ua,zBo] at e;rw [e]
 | succ f ih =>
  intro p pre hf e hp;rw [vd,XQ];by_cases hlt:p<l.length
  .have hlt':(p:Int)<(l.length:Int):=by omega
   have hcut:cut l (p:Int) (l.length:Int)=some (l.drop p):=by
    unfold cut;have:(decide (0<=(p:Int))&&decide ((p:Int)<=(l.length:Int))&&decide ((l.length:Int)<=(l.length:Int)))=true:=by simp;omega
    simp only [this,zI];simp
   obtain ⟨x,r,hxr⟩:∃x r,l.drop p=x::r:=by
    cases hd:l.drop p with
    | nil=>have:=congrArg List.length hd;simp at this;omega
    | cons x r=>exact ⟨x,r,rfl⟩
   have hch:ua sz (f+1) (l.drop p)=(l.drop p).take sz::ua sz f (l.drop (p+sz)):=by
    rw [hxr];simp only [ua];rw [<-hxr,List.drop_drop]
   have hm:∃m:Nat,(bif decide (((l.drop p).length:Int)<(sz:Int)) then (((l.drop p).length:Int)) else (sz:Int))=(m:Int)/\m=min sz (l.length-p):=by
    simp only [zCz];by_cases hs:((l.length-p:Nat):Int)<(sz:Int)
    .exact ⟨l.length-p,by simp only [hs,decide_true,zI],by omega⟩
    .exact ⟨sz,by simp only [hs,decide_false,yg],by omega⟩
   obtain ⟨m,hm1,hm2⟩:=hm;have hw:w64 ((p:Int)+(m:Int))=((p+m:Nat):Int):=by rw [zxm (by omega) (by omega)];omega
   have hw2:w64 ((p:Int)+(sz:Int))=((p+sz:Nat):Int):=by rw [zxm (by omega) (by omega)];omega
   have hne: ¬((p+m:Nat):Int)=0:=by omega
   simp only [hlt',decide_true,zI,hcut,zBk,hm1,hw,hw2,hne,decide_false,Bool.and_false,yg];have hn:zbs ys (pre.length:Int) ((l.drop p).take sz)=some ():=by rw [e,hch];exact zry pre _ _
   have hcut2:cut l (p:Int) ((p+m:Nat):Int)=some ((l.drop p).take sz):=by
    unfold cut;have:(decide (0<=(p:Int))&&decide ((p:Int)<=((p+m:Nat):Int))&&decide (((p+m:Nat):Int)<=(l.length:Int)))=true:=by simp;omega
    simp only [this,zI];refine congrArg some ?_;simp only [zCh];rw [List.drop_take,Nat.add_sub_cancel_left,hm2];by_cases hs:sz<=l.length-p
    .rw [Nat.min_eq_left hs]
    .rw [Nat.min_eq_right (by omega),zCV (l:=l.drop p) (by simp),zCV (l:=l.drop p) (by simp;omega)]
   have hnext:=ih (p+sz) (pre++[(l.drop p).take sz]) (by simp only [zCz] at hf ⊢;omega) (by rw [e,hch];simp) (by omega);have hlen:((pre++[(l.drop p).take sz]).length:Int)=(pre.length:Int)+1:=by simp
   rw [hlen] at hnext;cases hfull:(decide ((p:Int)=0)&&decide (((p+m:Nat):Int)=(l.length:Int))&&decide (((p+m:Nat):Int)=(l.length:Int))) with
   | true =>
    simp only [zI];have hl:l=(l.drop p).take sz:= ?_
    .rw [<-hl] at hn;rw [hn];exact hnext
    simp only [zBl,decide_eq_true_eq] at hfull;obtain ⟨⟨hp0,hpl⟩,_⟩:=hfull;have hp00:p=0:=by omega
    rw [hp00,List.drop_zero,zCV (by omega)]
   | false =>
    simp only [yg,hcut2,zBk,decide_true,zI];rw [hn];exact hnext
  .have hnl: ¬(p:Int)<(l.length:Int):=by omega
   have hd:l.drop p=[]:=zCM (by omega);simp only [hnl,decide_false,yg,zBk];rw [hd] at e;simp only [ua,zBo] at e;rw [e]
theorem zc5 (n:Int) (ys:List (List Int)) (l:List Int) (sz:Int) (h:zhh l sz=some ys):vd (uz ys) rounds (n,0,0,l,sz,())=some (.brk (n,(ys.length:Int),())):=by
 unfold zhh at h;cases hc:(decide (1<=sz)&&decide (sz<1000000)&&decide ((l.length:Int)<1000000)) with
 | false=>simp [hc] at h
 | true =>
  simp only [hc,zI] at h;injection h with h;simp only [zBl,decide_eq_true_eq] at hc;obtain ⟨⟨c1,c2⟩,c3⟩:=hc;have k:=zl2 _ (l.length+1) rounds _ (zcl n ys l sz.toNat (by omega) (by omega) (by omega) l.length 0 [] (by simp) (by simpa using h.symm) (by omega)) (by unfold rounds;omega);have hs:((sz.toNat:Nat):Int)=sz:=by omega
  rw [hs] at k;exact k
theorem zcx (G:Nat->Prop) (W0:World) (hG:zv3 G W0):Y6 Tryz.prog G W0 58 vZ:=by
 obtain ⟨c,hc⟩:=Option.isSome_iff_exists.1 zAy;refine zpd (Cg:=uT []) rfl zsC (fun f s hs=>Oks.at .nil f s hs) rfl zva (fun g it h=>by cases h) zz7 zBf hc vZ (zB0 (by kernel_rfl)) rfl (fun n x ys h=>?_);refine Eq.trans (zdh n ys x.1 x.2.1) ?_;rw [Uh,zc5 n ys x.1 x.2.1 h];rfl
end Go.Pe.G
namespace Go.Pe.G
open Go.Pe Go.Proofs
theorem k2 {G:Nat->Prop}{W0:World}{f:Nat}{s:zM E}{ss r} (hs:V0 Tryz.prog G W0 f s) (h:Oks Tryz.prog G W0 ((f,ss)::r)) (hc:YV Tryz.prog f=true:=by kernel_rfl):Oks Tryz.prog G W0 ((f,s::ss)::r):= .cons _ _ _ _ hc hs h
theorem k1 {G:Nat->Prop}{W0:World}{f:Nat}{s:zM E}{r} (hs:V0 Tryz.prog G W0 f s) (h:Oks Tryz.prog G W0 r) (hc:YV Tryz.prog f=true:=by kernel_rfl):Oks Tryz.prog G W0 ((f,[s])::r):= .cons _ _ _ _ hc hs (.skip _ _ h)
abbrev Sd (G:Nat->Prop) (W0:World):=V0 (E:=E) Tryz.prog G W0
theorem gs {G:Nat->Prop}{W0:World}{l:List (Nat×List (zM E))}{loops mv kept pk its} {f:FuncId}{fn:Func}{inn out:wn}{gi go:List Grp}{hi:ZG E gi=inn.holes} {ho:ZG E go=out.holes} (h:Oks Tryz.prog G W0 l) (h2:Its Tryz.prog G W0 its) (hf:Tryz.prog.funcs[f]? =some fn:=by kernel_rfl) (hb:fn.body.isSome=true:=by kernel_rfl)
  (hk:(cf l loops mv kept pk its).kept=zgh inn.blks 0:=by kernel_rfl) (hn:Nat.ble inn.vals.length fn.ntmps=true:=by kernel_rfl):V0 Tryz.prog G W0 f (sp (cf l loops mv kept pk its) fn inn out gi go hi ho):=zxI (C:=cf l loops mv kept pk its) zsC (zu5 h) rfl (zyH h2) zva hf hb hk hn
variable {G:Nat->Prop}{W0:World}(hG:zv3 G W0)
include hG
theorem zg9:Sd G W0 36 zas:=gs .nil .nil
theorem zfG:Sd G W0 10 zez:=gs (k1 (zg9 hG) .nil) .nil
theorem UM:Sd G W0 50 UE:=gs .nil .nil
theorem zhY:Sd G W0 48 za8:=gs (k1 (UM hG) .nil) .nil
theorem ziQ:Sd G W0 83 zbL:=gs .nil .nil
theorem Xa:Sd G W0 85 vc:=gs (k1 (ziQ hG) .nil) .nil
theorem YF:Sd G W0 53 wI:=gs (k1 (Xa hG) .nil) .nil
theorem zj7:Sd G W0 82 zeb:=gs (k1 (YF hG) .nil) .nil
theorem Xc:Sd G W0 116 va:=gs (k1 (zj7 hG) .nil) .nil
theorem YD:Sd G W0 84 wF:=gs (k1 (Xc hG) .nil) .nil
theorem zlR:Sd G W0 49 zhD:=gs (k1 (YD hG) .nil) .nil
theorem zmM:Sd G W0 51 ziT:=gs .nil .nil
theorem zfN:Sd G W0 52 zel:=gs .nil .nil
theorem zj3:Sd G W0 54 zdV:=gs (k1 (UM hG) .nil) .nil
theorem XD:Sd G W0 85 vo:=gs (k1 (zj3 hG) .nil) .nil
theorem YS:Sd G W0 53 wU:=gs (k1 (XD hG) .nil) .nil
theorem zjO:Sd G W0 118 zdW:=gs .nil .nil
theorem zlD:Sd G W0 88 zgJ:=gs (k1 (zjO hG) .nil) .nil
theorem zk5:Sd G W0 87 zfu:=gs (k1 (zlD hG) .nil) .nil
theorem Yq:Sd G W0 117 wo:=gs (k1 (zk5 hG) .nil) .nil
theorem Z9:Sd G W0 86 xR:=gs (k1 (Yq hG) .nil) .nil
theorem zmR:Sd G W0 55 ziN:=gs (k1 (Z9 hG) .nil) .nil
theorem zl1:Sd G W0 91 zhr:=gs .nil .nil
theorem zkj:Sd G W0 90 zdC:=gs (k1 (zl1 hG) .nil) .nil
theorem ZP:Sd G W0 119 xO:=gs (k1 (zkj hG) .nil) .nil
theorem Zq:Sd G W0 89 xH:=gs (k1 (ZP hG) .nil) .nil
theorem zlS:Sd G W0 56 zgG:=gs (k1 (Zq hG) .nil) .nil
theorem zk7:Sd G W0 18 zhf:=gs (k1 (zhY hG) (k1 (zlR hG) (k1 (UM hG) (k1 (zmM hG) (k1 (zfN hG) (k1 (YS hG) (k1 (zmR hG) (k1 (zlS hG) .nil)))))))) .nil
theorem zid:Sd G W0 47 zim:=gs .nil .nil
theorem WP:Sd G W0 16 zaA:=gs (k1 (zid hG) .nil) .nil
theorem zqr:Sd G W0 57 znO:=gs (k1 (WP hG) .nil) .nil
theorem ze6:Sd G W0 19 zcA:=gs (k1 (zqr hG) .nil) .nil
theorem zlT:Sd G W0 20 zhl:=gs .nil .nil
theorem Vr:Sd G W0 22 Yj:=gs .nil .nil
theorem XT:Sd G W0 21 vD:=gs (k1 (Vr hG) .nil) .nil
theorem zk1:Sd G W0 23 zfw:=gs .nil .nil
theorem UR:Sd G W0 24 Uv:=gs .nil .nil
theorem UP:Sd G W0 25 Uz:=gs .nil .nil
theorem zmK:Sd G W0 26 zi8:=gs .nil .nil
theorem zda:Sd G W0 27 Wr:=gs .nil .nil
theorem znC:Sd G W0 59 zke:=gs .nil .nil
theorem zpC:Y6 Tryz.prog G W0 92 zat:=znW G W0 hG
theorem zg4:Sd G W0 28 zgp:=gs (k1 (znC hG) .nil) (.cons _ _ _ (zpC hG) (.nil))
theorem znJ:Sd G W0 120 zjR:=gs .nil .nil
theorem zn1:Sd G W0 121 zj8:=gs .nil .nil
theorem zn6:Sd G W0 122 zkM:=gs .nil .nil
theorem znj:Sd G W0 123 zj9:=gs .nil .nil
theorem zaU:Sd G W0 124 Yc:=gs .nil .nil
theorem XC:Sd G W0 94 zaF:=gs (k1 (znJ hG) (k1 (zn1 hG) (k1 (zn6 hG) (k1 (znj hG) (k1 (zaU hG) .nil))))) .nil
theorem zdo:Sd G W0 60 zbJ:=gs (k1 (XC hG) .nil) .nil
theorem zeM:Sd G W0 61 zcq:=gs .nil .nil
theorem zmT:Sd G W0 29 zi2:=gs (k1 (zdo hG) (k1 (zeM hG) .nil)) .nil
theorem WO:Sd G W0 30 VK:=gs .nil .nil
theorem X5:Sd G W0 32 WC:=gs (k1 (WO hG) .nil) .nil
theorem WZ:Sd G W0 31 VS:=gs (k1 (X5 hG) .nil) .nil
theorem zde:Y6 Tryz.prog G W0 58 vZ:=zcx G W0 hG
theorem zfH:Sd G W0 7 zeu:=gs (k1 (zfG hG) (k1 (zk7 hG) (k1 (ze6 hG) (k1 (zlT hG) (k1 (XT hG) (k1 (Vr hG) (k1 (zk1 hG) (k1 (UR hG) (k1 (UP hG) (k1 (zmK hG) (k1 (zda hG) (k1 (zg4 hG) (k1 (zmT hG) (k1 (WO hG) (k1 (WZ hG) (k1 (X5 hG) .nil)))))))))))))))) (.cons _ _ _ (zde hG) (.nil))
theorem ze9:Sd G W0 134 zc1:=gs (k1 (XC hG) .nil) .nil
theorem W1:Sd G W0 135 VN:=gs .nil .nil
theorem zdR:Sd G W0 125 Vn:=gs (k1 (ze9 hG) (k1 (W1 hG) .nil)) .nil
theorem zfv:Sd G W0 126 Un:=gs (k1 (zdo hG) (k1 (W1 hG) .nil)) .nil
theorem zdf:Sd G W0 127 Wt:=gs (k1 (zeM hG) (k1 (XC hG) (k1 (W1 hG) .nil))) .nil
theorem zch:Sd G W0 128 Xn:=gs (k1 (ze9 hG) (k1 (W1 hG) .nil)) .nil
theorem zaD:Sd G W0 95 zaw:=gs (k1 (zdR hG) (k1 (zfv hG) (k1 (zdf hG) (k1 (zch hG) .nil)))) .nil
theorem zfz:Sd G W0 62 V2:=gs (k1 (zaD hG) .nil) .nil
theorem Ut:Sd G W0 69 Xt:=gs .nil .nil
theorem zkb:Sd G W0 129 zdP:=gs .nil .nil
theorem zjY:Sd G W0 129 zdT:=gs .nil .nil
theorem zkk:Sd G W0 129 zdY:=gs .nil .nil
theorem zkv:Sd G W0 129 zed:=gs .nil .nil
theorem uB:Sd G W0 150 ZX:=gs (k1 (XC hG) .nil) .nil
theorem wB:Sd G W0 151 wA:=gs .nil .nil
theorem zbf:Sd G W0 136 Yr:=gs (k1 (uB hG) (k1 (wB hG) .nil)) .nil
theorem ZH:Sd G W0 152 Ze:=gs .nil .nil
theorem Ur:Sd G W0 153 Xr:=gs .nil .nil
theorem wC:Sd G W0 154 wy:=gs .nil .nil
theorem zdd:Sd G W0 137 Wp:=gs (k1 (uB hG) (k1 (ZH hG) (k1 (Ur hG) (k1 (wC hG) .nil)))) .nil
theorem Yo:Sd G W0 155 YY:=gs (k1 (XC hG) .nil) .nil
theorem YE:Sd G W0 156 Zz:=gs (k1 (Ur hG) .nil) .nil
theorem zge:Sd G W0 138 UV:=gs (k1 (Yo hG) (k1 (YE hG) .nil)) .nil
theorem zbM:Sd G W0 139 YU:=gs (k1 (wB hG) (k1 (wC hG) (k1 (Yo hG) .nil))) .nil
theorem zfa:Sd G W0 140 Vz:=gs (k1 (wB hG) (k1 (Yo hG) .nil)) .nil
theorem zdm:Sd G W0 157 zbE:=gs .nil .nil
theorem zcf:Sd G W0 141 Xe:=gs (k1 (uB hG) (k1 (ZH hG) (k1 (zdm hG) .nil))) .nil
theorem zdL:Sd G W0 142 Va:=gs (k1 (uB hG) (k1 (wC hG) (k1 (YE hG) .nil))) .nil
theorem UF:Sd G W0 158 Xj:=gs (k1 (XC hG) (k1 (ZH hG) .nil)) .nil
theorem zdk:Sd G W0 143 Wu:=gs (k1 (UF hG) .nil) .nil
theorem zdi:Sd G W0 144 Wy:=gs (k1 (wB hG) (k1 (wC hG) (k1 (Yo hG) .nil))) .nil
theorem zec:Sd G W0 145 Vm:=gs (k1 (wB hG) (k1 (wC hG) (k1 (Yo hG) .nil))) .nil
theorem zdu:Sd G W0 146 Vc:=gs (k1 (uB hG) (k1 (ZH hG) .nil)) .nil
theorem zdA:Sd G W0 147 W8:=gs (k1 (uB hG) (k1 (wB hG) (k1 (zdm hG) .nil))) .nil
theorem zdl:Sd G W0 148 Ww:=gs (k1 (uB hG) (k1 (YE hG) .nil)) .nil
theorem zcm:Sd G W0 149 Xs:=gs (k1 (wC hG) (k1 (UF hG) .nil)) .nil
theorem ze2:Sd G W0 96 zcK:=gs (k2 (zkb hG) (k2 (zjY hG) (k2 (zkk hG) (k2 (zkv hG) (.skip _ _ (k1 (zbf hG) (k1 (zdd hG) (k1 (zge hG) (k1 (zbM hG) (k1 (zfa hG) (k1 (zcf hG) (k1 (zdL hG) (k1 (zdk hG) (k1 (zdi hG) (k1 (zec hG) (k1 (zdu hG) (k1 (zdA hG) (k1 (zdl hG) (k1 (zcm hG) .nil))))))))))))))))))) .nil
theorem zb5:Sd G W0 98 zaf:=gs (k1 (UR hG) (k1 (UP hG) .nil)) .nil
theorem UW:Sd G W0 130 Uw:=gs .nil .nil
theorem za1:Sd G W0 100 Vt:=gs (k1 (WZ hG) (k1 (UW hG) .nil)) .nil
theorem zfm:Sd G W0 97 Ub:=gs (k1 (WO hG) (k1 (zb5 hG) (k1 (za1 hG) .nil))) .nil
theorem zgj:Sd G W0 63 UN:=gs (k1 (Ut hG) (k1 (ze2 hG) (k1 (zfm hG) .nil))) .nil
theorem zeX:Sd G W0 64 VT:=gs (k1 (zb5 hG) .nil) .nil
theorem Wj:Sd G W0 99 ZF:=gs .nil .nil
theorem zfb:Sd G W0 65 V5:=gs (k1 (X5 hG) (k1 (Wj hG) (k1 (za1 hG) .nil))) .nil
theorem zcc:Sd G W0 68 zag:=gs .nil .nil
theorem zhR:Sd G W0 131 zba:=gs .nil .nil
theorem znI:Sd G W0 101 zj5:=gs (k1 (zhR hG) .nil) .nil
theorem zlb:Sd G W0 102 zha:=gs .nil .nil
theorem zfF:Sd G W0 66 Ug:=gs (k1 (zcc hG) (k1 (znI hG) (k1 (zlb hG) .nil))) .nil
theorem zcg:Sd G W0 103 Xo:=gs .nil .nil
theorem zcM:Sd G W0 115 zeP:=gs (k1 (zid hG) .nil) .nil
theorem zlq:Sd G W0 132 zgx:=gs (k1 (WP hG) (k1 (zcM hG) .nil)) .nil
theorem u5:Sd G W0 133 ut:=gs (k1 (WZ hG) (k1 (X5 hG) (k1 (UW hG) .nil))) .nil
theorem zdx:Sd G W0 104 W6:=gs (k1 (UR hG) (k1 (UP hG) (k1 (zlq hG) (k1 (u5 hG) .nil)))) .nil
theorem zdr:Sd G W0 105 W9:=gs .nil .nil
theorem zdF:Sd G W0 106 Vj:=gs (k1 (ze2 hG) (k1 (u5 hG) .nil)) .nil
theorem zd9:Sd G W0 107 Vd:=gs (k1 (u5 hG) .nil) .nil
theorem zdv:Sd G W0 108 Vk:=gs (k1 (zaD hG) (k1 (u5 hG) .nil)) .nil
theorem zdy:Sd G W0 109 Vh:=gs (k1 (WO hG) (k1 (WZ hG) (k1 (Wj hG) (k1 (UW hG) .nil)))) .nil
theorem zcj:Sd G W0 110 Xf:=gs (k1 (zaD hG) .nil) .nil
theorem zmQ:Sd G W0 67 ziC:=gs (k1 (zcg hG) (k1 (zdx hG) (k1 (zdr hG) (k1 (zdF hG) (k1 (zd9 hG) (k1 (zdv hG) (k1 (zdy hG) (k1 (zcj hG) .nil)))))))) .nil
theorem zoi:Sd G W0 111 zli:=gs (k1 (zcM hG) .nil) .nil
theorem zmW:Sd G W0 70 zi5:=gs (k1 (WP hG) (k1 (zoi hG) .nil)) .nil
theorem ze8:Sd G W0 112 VC:=gs .nil .nil
theorem zjr:Sd G W0 114 zcI:=gs .nil .nil
theorem WW:Sd G W0 113 uc:=gs (k1 (zjr hG) .nil) .nil
theorem zkZ:Sd G W0 71 zfp:=gs (k1 (ze8 hG) (k1 (WW hG) .nil)) .nil
theorem zfd:Sd G W0 33 Ui:=gs (k1 (zfz hG) (k1 (zgj hG) (k1 (zeX hG) (k1 (zfb hG) (k1 (zfF hG) (k1 (zmQ hG) (k1 (zcc hG) (k1 (Ut hG) (k1 (zmW hG) (k1 (zkZ hG) .nil)))))))))) .nil
theorem Wh:Sd G W0 34 vJ:=gs .nil .nil
theorem Wa:Sd G W0 8 WH:=gs (k1 (zfd hG) (k1 (Wh hG) .nil)) .nil
theorem zhk:Sd G W0 12 zav:=gs .nil .nil
theorem zgX:Sd G W0 13 zar:=gs (k1 (Wa hG) .nil) .nil
theorem uy:Sd G W0 41 vO:=gs .nil .nil
theorem xm:Sd G W0 40 yn:=gs (k1 (uy hG) .nil) .nil
theorem zfJ:Sd G W0 38 zes:=gs (k1 (xm hG) .nil) .nil
theorem zgi:Sd G W0 75 UK:=gs .nil .nil
theorem zai:Sd G W0 77 ZM:=gs .nil .nil
theorem wM:Sd G W0 76 yx:=gs (k1 (zai hG) .nil) .nil
theorem VU:Sd G W0 78 uO:=gs .nil .nil
theorem zmL:Sd G W0 37 ziy:=gs (k1 (zfJ hG) (k1 (xm hG) (k1 (zgi hG) (k1 (wM hG) (k1 (VU hG) .nil))))) .nil
theorem zaL:Sd G W0 79 Yd:=gs .nil .nil
theorem zny:Sd G W0 39 zj1:=gs (k1 (zaL hG) .nil) .nil
theorem zbn:Sd G W0 80 YC:=gs .nil .nil
theorem zk6:Sd G W0 42 zfC:=gs (k1 (zbn hG) .nil) .nil
theorem zfO:Sd G W0 44 U4:=gs (k1 (uy hG) .nil) .nil
theorem wx:Sd G W0 43 yt:=gs (k1 (zfO hG) .nil) .nil
theorem zd2:Sd G W0 81 Vg:=gs .nil .nil
theorem zfg:Sd G W0 46 V7:=gs (k1 (uy hG) (k1 (zd2 hG) .nil)) .nil
theorem xT:Sd G W0 45 ym:=gs (k1 (zfg hG) .nil) .nil
theorem zl3:Sd G W0 14 zgH:=gs (k1 (zmL hG) (k1 (zfJ hG) (k1 (zny hG) (k1 (xm hG) (k1 (uy hG) (k1 (zk6 hG) (k1 (wx hG) (k1 (xT hG) .nil)))))))) .nil
theorem ze4:Sd G W0 4 VF:=gs (k1 (zfH hG) (k1 (Wa hG) (k1 (zhk hG) (k1 (zgX hG) (k1 (zl3 hG) .nil))))) .nil
theorem XZ:Sd G W0 15 Zk:=gs .nil .nil
theorem zcE:Sd G W0 17 XU:=gs (k1 (XZ hG) .nil) .nil
theorem zhU:Sd G W0 5 za4:=gs (k1 (XZ hG) (k1 (WP hG) (k1 (zcE hG) .nil))) .nil
theorem zgI:Sd G W0 6 zan:=gs (k1 (Wa hG) .nil) .nil
theorem ziZ:Sd G W0 72 zbU:=gs (k1 (WP hG) .nil) .nil
theorem zkx:Sd G W0 74 zdU:=gs .nil .nil
theorem zbc:Sd G W0 73 Yt:=gs (k1 (zg4 hG) (k1 (zfN hG) (k1 (zkx hG) (k1 (zcM hG) .nil)))) .nil
theorem zlA:Sd G W0 35 zgL:=gs (k1 (ziZ hG) (k1 (zbc hG) .nil)) .nil
theorem zmC:Sd G W0 9 ziF:=gs (k1 (ze6 hG) (k1 (zlA hG) .nil)) .nil
theorem zkg:Sd G W0 11 zdQ:=gs .nil .nil
theorem zdc:Sd G W0 3 Wv:=gs (k1 (ze4 hG) (k1 (zhU hG) (k1 (zgI hG) (k1 (zfH hG) (k1 (Wa hG) (k1 (zmC hG) (k1 (zfG hG) (k1 (zkg hG) .nil)))))))) .nil
end Go.Pe.G
