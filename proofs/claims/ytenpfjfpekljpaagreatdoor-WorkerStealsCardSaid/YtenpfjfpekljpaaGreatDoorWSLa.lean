/- Own work of this seat: Bridge, GB, GC, LawA. -/
import Derived.Test.YtenpfjfpekljpaaGreatDoorWSCc
import Derived.ProofKit
import Derived.LaidMore
import Derived.OpenShut
import Derived.LaidLaws
import Derived.LaidHandle
import Derived.MakeChecks
import Derived.Stop.Joined
import Derived.Shelf.Spec.TrailingZeros
import Derived.Test.YtenpfjfpekljpaaGreatDoorWSGa
import Derived.Test.YtenpfjfpekljpaaGreatDoorCards
import Derived.Test.YtenpfjfpekljpaaGreatDoorTie
import Derived.SevenTiedAt
set_option linter.unusedVariables false
set_option linter.unusedSimpArgs false
set_option linter.unnecessarySimpa false
set_option linter.unusedSectionVars false
set_option linter.deprecated false
set_option maxRecDepth 100000
namespace Go.Pe
open Go.ChangeShapes Go.WideShapes
variable {E:yu}
theorem zwV (μ:Nat→Loc) (b:Nat): ¬Av Kb μ ([]:List (Blk E)) b:=by
 rintro (⟨h,k⟩ | ⟨id,o,n,c,h,_⟩)
 ·exact k h
 ·simp [zi,yR] at h
theorem zuW {n:Int} (h:(Lit.int .u8 n).wf=true):((BitVec.ofInt 8 n).toNat:Int)=n:=by
 have h:(decide ((0:Int)≤n)&&decide (n≤(255:Int)))=true:=h
 simp only [Bool.and_eq_true,decide_eq_true_eq] at h
 rw [BitVec.toNat_ofInt]
 omega
theorem zpb {H:Type} {enc:TypeId×Value→H} {P:Program} {W:World} {A:Nat→Prop} (hA: ∀b,¬A b) {t e:TypeId} {b0:Nat} {r:Reach} {v:Value} {d:DataW H} {ps:List MemPlace}
  (ht:P.underlying t=some (.slice e)) (he:P.underlying e=some (.int .u8)) (hc:P.cellsOf e=1) (hval:Value.okWide P W r b0 t v)
  (hd:DataW.Trod enc P W 0 (fun _=>true) true t v d ps): ∃l:List (BitVec 8),yn E W A (.slice (.int .u8)) v l:=by
 obtain ⟨a,len,cap,rfl⟩:=okWide_slice ht hval
 obtain ⟨fuel,hf⟩:=hd
 rcases open_ints ht he hc hf with ⟨h0,_⟩ | ⟨a',len',cap',zs,h0,_,hlc,_,hzl,_,hcell,hwf⟩
 ·simp [Value.cells] at h0
  obtain ⟨rfl,rfl,rfl⟩:=h0
  exact ⟨[],.nil _ _ _⟩
 ·simp [Value.cells] at h0
  obtain ⟨rfl,rfl,rfl⟩:=h0
  simp only [if_true] at hzl
  cases len with
  | zero=>exact ⟨[],.nil _ _ _⟩
  | succ len =>
   have hc0:=hcell 0 (by omega)
   have hs:=World.cell?_spot hc0
   obtain ⟨b,off,spot⟩:=a'
   have hs:spot=none:=by simpa [Addr.add] using hs
   subst hs
   have hlt:b<W.heap.size:=by
    rcases Nat.lt_or_ge b W.heap.size with h | h
    ·exact h
    ·have:W.heap[b]? =none:=by simp;omega
     simp [World.cell?,Addr.add,this] at hc0
   have hn: ∀i,i<len+1→(Lit.int .u8 (zs.getD i 0)).wf=true:=fun i hi=>hwf _ (by
    rw [List.getD_eq_getElem?_getD,List.getElem?_eq_getElem (by omega)];simp)
   have hl:((List.range (len+1)).map fun i=>BitVec.ofInt 8 (zs.getD i 0)).length=len+1:=by simp
   refine ⟨(List.range (len+1)).map fun i=>BitVec.ofInt 8 (zs.getD i 0),?_⟩
   have:=yn.slice (E:=E) (w:=W) (A:=A) (.int .u8) b off cap ((List.range (len+1)).map fun i=>BitVec.ofInt 8 (zs.getD i 0)) (fun i=> .int .u8 (zs.getD i 0)) (hA b) hlt (by rw [hl];exact hlc) (fun i hi j u hu=>by
    rw [hl] at hi
    cases j with
    | succ j=>simp [Value.cells] at hu
    | zero =>
     simp [Value.cells] at hu
     subst hu
     have h:=hcell i (by omega)
     rw [add_plain] at h
     simpa [Ty.size] using h) (fun i hi=>by
    rw [hl] at hi
    have e:(List.map (fun i=>BitVec.ofInt 8 (zs.getD i 0)) (List.range (len+1)))[i]'(by simpa using hi)=BitVec.ofInt 8 (zs.getD i 0):=by simp
    rw [e]
    have k:=yn.int (E:=E) (w:=W) (A:=A) .u8 (BitVec.ofInt 8 (zs.getD i 0))
    simp only [toZ,zuW (hn i hi)] at k
    exact k)
   rw [hl] at this
   exact this
theorem zxi {H:Type} {enc:TypeId×Value→H} {P:Program} {W:World} {A:Nat→Prop} {e:TypeId} {fuel:Nat} {cs:List Value} {x:DataW H×List MemPlace}
  (he:P.underlying e=some (.int .u8)) (h:DataW.trod enc P W 0 (fun _=>true) true fuel e cs=some x): ∃(z:BitVec 8) (v:Value),cs=[v]∧yn E W A (.int .u8) v z:=by
 obtain ⟨n,rfl,_,hw⟩:=DataW.trod_int he h
 refine ⟨BitVec.ofInt 8 n,_,rfl,?_⟩
 have k:=yn.int (E:=E) (w:=W) (A:=A) .u8 (BitVec.ofInt 8 n)
 simp only [toZ,zuW hw] at k
 exact k
theorem zwN {H:Type} {enc:TypeId×Value→H} {P:Program} {W:World} {A:Nat→Prop} {t:TypeId} {b0:Nat} {r:Reach} {v:Value} {d:DataW H} {ps:List MemPlace}
  (ht:P.underlying t=some (.int .u8)) (hval:Value.okWide P W r b0 t v) (hd:DataW.Trod enc P W 0 (fun _=>true) true t v d ps): ∃z:BitVec 8,yn E W A (.int .u8) v z:=by
 obtain ⟨n,rfl⟩:=okWide_int ht hval
 obtain ⟨fuel,hf⟩:=hd
 obtain ⟨z,v,e,h⟩:=zxi (E:=E) (A:=A) ht hf
 simp [Value.cells] at e
 subst e
 exact ⟨z,h⟩
theorem zym {P:Program} {W:World} {A:Nat→Prop} {t:TypeId} {b0:Nat} {r:Reach} {v:Value}
  (ht:P.underlying t=some (.int .i64)) (hval:Value.okWide P W r b0 t v): ∃z:Int,yn E W A (.int .i64) v z:=by
 obtain ⟨n,rfl⟩:=okWide_int ht hval
 exact ⟨n,yn.int (E:=E) (w:=W) (A:=A) .i64 n⟩
theorem zjc {H:Type} {enc:TypeId×Value→H} {P:Program} (hl:laidOutB P=true) {W W':World} {sp':Nat→Bool}: ∀ {ts:List TypeId} {vs:List Value} {ds:List (DataW H)} {ps:List MemPlace},
  (∀t∈ts,P.readableRec t=true∧t<P.types.size)→DataW.TrodAll enc P W 0 (fun _=>true) true ts vs ds ps→(∀p∈ps,W.sameAt W' p)→(∀p∈ps,sp' p.block=true)→DataW.TrodAll enc P W' 0 sp' true ts vs ds ps
 | [],vs,ds,ps,_,h,_,_=>by
  obtain ⟨rfl,rfl,rfl⟩:=trodAll_nil h
  rfl
 | t::ts,vs,ds,ps,ht,h,hs,hsp=>by
  obtain ⟨v,vs1,d,ds1,p,q,rfl,rfl,rfl,h1,h2⟩:=trodAll_cons h
  refine ⟨p,q,WideElems.Trod_stays hl (ht t (List.mem_cons_self ..)).1 (ht t (List.mem_cons_self ..)).2 h1 (fun x hx=>hs x (List.mem_append_left _ hx)) (fun x hx=>hsp x (List.mem_append_left _ hx)),?_,rfl⟩
  exact zjc hl (fun t' h'=>ht t' (List.mem_cons_of_mem _ h')) h2 (fun x hx=>hs x (List.mem_append_right _ hx)) (fun x hx=>hsp x (List.mem_append_right _ hx))
theorem zvw {H:Type} {enc:TypeId×Value→H} {P:Program} {f:Func} {s:ChangeSpec} {W W':World} {args:Array Value} {ds gs:List (DataW H)} {before:List MemPlace} {tb:TypeId}
  (hl:laidOutB P=true) (hp: ∀t∈f.params.toList,P.readableRec t=true∧t<P.types.size) (hr:f.resultTypes= #[tb]) (hb:P.underlying tb=some .bool) (hv:s.vars=[])
  (hW:DataW.Whole enc P f.params.toList s.vars false W args.toList ds gs before) (hs:s.fn H (ds++gs)={results:=[.lit (.bool true)],args:=ds})
  (hB:RowKit.Below W.heap.size W W'):s.post enc P f false true false false W args (.bool true) W':=by
 obtain ⟨p,q,hA,hV,rfl,hz,hn⟩:=id hW
 have hV':=hV
 rw [hv] at hV'
 obtain ⟨rfl,rfl⟩:=trodVars_none hV'
 refine ⟨ds,[],p++[],[],p,[],hW,?_,?_,?_,hB.frame _,fun h=>by cases h⟩
 ·rw [hs,hr]
  exact trodAll_mk1 (RowKit.shut_bool hb true)
 ·rw [hs]
  exact zjc hl hp hA (fun x hx=>hB.same (hA.lt x hx)) (fun x hx=>by simpa using hA.lt x hx)
 ·rw [hs,hv]
  rfl
theorem zw6 (w:World):zS Kb (fun _=>Loc.none none) ([]:List (Blk E)) w :=
 ⟨fun id=>by simp [zi,xD],fun i j b o l c b' o' l' c' _ h=>by simp [zi,yR] at h,fun id b o l c h=>by simp [zi,Zs] at h⟩
theorem zvA {P:Program} {f:FuncId} {s:zB E} {W:World} {args:Array Value} {x:HL E.T s.inn.holes} {y:s.go.G} (hs:W9 P (fun b=>b=0) W f s) (h0:0<W.heap.size)
  (hi:(yx id s.inn (HL.toP s.inn.holes x)).2=[]) (hrep:RL (Rp E Kb (fun _=>Loc.none none) ([]:List (Blk E)) W) (yx id s.inn (HL.toP s.inn.holes x)).1 args.toList) (hy:s.F (s.gi.of x)=some y)
  (ho:(yx id s.out (HL.toP s.out.holes (s.go.to y))).1=[.v .bool true]) :
  Calls P f args W fun e W'=>e= .returned (.bool true)∧RowKit.Below W.heap.size W W':=by
 have hS:=hs Kb (fun _=>Loc.none none) W args x y ⟨fun b hb=>by unfold Kb at hb;omega,fun g hg=>by subst hg;exact ⟨by unfold Kb;omega,rfl⟩,fun b hb=>hb⟩ (by rw [hi];exact zw6 W) (by rw [hi];exact hrep) hy
 refine hS.mono ?_
 rintro e W' ⟨vs,A1,μ1,rfl,oc⟩
 have hrep:=oc.rep
 rw [ho] at hrep
 obtain ⟨h1,h2⟩:=hrep
 obtain ⟨v,rfl⟩: ∃v,vs=[v]:=by
  match vs,h1 with
  | [v],_=>exact ⟨v,rfl⟩
 have hv:=h2 0 _ v rfl rfl
 cases hv with
 | v _ _ _ h =>
 cases h
 have hadv:=oc.adv
 rw [hi] at hadv
 refine ⟨rfl,hadv.os,hadv.tape,hadv.output,hadv.size,fun k hk=>hadv.block k hk ?_⟩
 rintro ⟨id,o,n,c,h,_⟩
 simp [zi,yR] at h
end Go.Pe
namespace Go.Pe.G
open Go.Pe Go.ChangeShapes Go.WideShapes Go.Proofs Go.Proofs.YtenpfjfpekljpaaGreatDoor
theorem own0:ownKnob Tryz.prog.godebug=none:=by kernel_rfl
theorem zyk:Tryz.prog.globalNamed "math/bits.deBruijn64tab" = some 0:=by kernel_rfl
theorem zyn:(Tryz.prog.globals[0]?).map (·.type)=some 193:=by kernel_rfl
theorem zwQ:laidOutB Tryz.prog=true:=by kernel_rfl
abbrev zmE:List (String×DataW Unit):=[("math/bits.deBruijn64tab",Rows.laid_math_bits_deBruijn64tab)]
theorem zvU (os:Os) (args:Array Value):laidMetH Tryz.prog zmE ((World.doorLaid Tryz.prog 400 os).forCall (fun _ _=>0) ⟨#[],args,[]⟩).memory :=
 laidMetH_of_parts3 (fuel:=8) (laidMet_of_run' 8 (by kernel_rfl) (by kernel_rfl)) (by kernel_rfl) (by kernel_rfl)
end Go.Pe.G
namespace Go.Pe.G
open Go.Pe Go.ChangeShapes Go.WideShapes Go.Proofs Go.Proofs.YtenpfjfpekljpaaGreatDoor
theorem zwI:(Rows.laid_math_bits_deBruijn64tab:DataW Unit)= .agg (Go.Lib.deBruijn64tab.map fun n=> .lit (.int .u8 ((n:Nat):Int))):=by kernel_rfl
theorem zxc {W:World} (h:laidMetH Tryz.prog zmE W):TabAt 0 Go.Lib.deBruijn64tab W:=by
 rw [MakeChecks.laidMetH_plain _ _ _ (by kernel_rfl)] at h
 obtain ⟨ps,⟨g0,t0,cs0,f0,p0,q0,hg0,ht0,hv0,hd0,_⟩,_⟩:=h
 obtain rfl:=Option.some.inj (zyk.symm.trans hg0)
 obtain rfl:=Option.some.inj (zyn.symm.trans ht0)
 obtain ⟨xs,m,rfl,hx,hlen,hn,hel⟩:=DataW.trod_array Tryz.underlying193 hd0
 have c5:Tryz.prog.cellsOf 5=1:=by kernel_rfl
 rw [zwI] at hx
 simp only [Prod.mk.injEq,DataW.agg.injEq] at hx
 intro j hj
 have hj:j<64:=hj
 have hjx:j<xs.length:=by omega
 have h1:=hel j hj
 rw [List.getElem?_eq_getElem hjx] at h1
 obtain ⟨k,e1,e2,_⟩:=DataW.trod_int Tryz.underlying5 h1
 have e3:(xs.map (·.1))[j]? =some (.lit (.int .u8 k)):=by
  rw [List.getElem?_map,List.getElem?_eq_getElem hjx,Option.map_some,e2]
 rw [←hx.1,List.getElem?_map] at e3
 have e4:Go.Lib.deBruijn64tab[j]? =some (Go.Lib.deBruijn64tab.getD j 0):=by
  rw [List.getD_eq_getElem?_getD,List.getElem?_eq_getElem (by exact hj)];rfl
 rw [e4] at e3
 simp only [Option.map_some,Option.some.injEq,DataW.lit.injEq,Lit.int.injEq,true_and] at e3
 have:=World.var?_cell hg0 hv0 j
 rw [c5,Nat.mul_one] at e1
 have e5:cs0[j]? =some (.int .u8 k):=by
  rw [←Array.getElem?_toList]
  have:=congrArg (fun l=>l[0]?) e1
  simpa using this
 rw [e5] at this
 rw [←e3] at this
 simpa using this
theorem zrV {W:World} (h:TabAt 0 Go.Lib.deBruijn64tab W):0<W.heap.size:=by
 have h0:=h 0 (by decide)
 rcases Nat.eq_zero_or_pos W.heap.size with h1 | h1
 ·have:W.heap[0]? =none:=by rw [Array.getElem?_eq_none_iff];omega
  simp [World.cell?,this] at h0
 ·exact h1
end Go.Pe.G
namespace Go.Pe.G
open Go.Pe Go.ChangeShapes Go.WideShapes Go.Proofs Go.Proofs.YtenpfjfpekljpaaGreatDoor
theorem ok5:Tryz.prog.readableRec 5=true∧5<Tryz.prog.types.size:=⟨by kernel_rfl,Nat.le_of_ble_eq_true (by kernel_rfl)⟩
theorem zyj:Tryz.prog.readableRec 22=true∧22<Tryz.prog.types.size:=⟨by kernel_rfl,Nat.le_of_ble_eq_true (by kernel_rfl)⟩
theorem okP (t:TypeId) (h:t=5∨t=22):Tryz.prog.readableRec t=true∧t<Tryz.prog.types.size:=by
 rcases h with rfl | rfl
 ·exact ok5
 ·exact zyj
theorem zs0 (hq: ∀a0 a1 a2,vA a0 a1 a2=some (true,())) (os:Os) (started:os.Started) (H:Type) (enc:TypeId×Value→H) :
  ReturnsInHanded {} Tryz.checked os 4 .any (fun w args=>(Rows.workerStealsSpec.pre enc Tryz.prog Tryz.f4 [] false w args∧laidMetH Tryz.prog zmE w)∧sizedMet enc Tryz.prog Tryz.f4 (OpenSpec.ofChange Rows.workerStealsSpec) false w args)
   (Rows.workerStealsSpec.post enc Tryz.prog Tryz.f4 false true false false):=by
 refine returnsInHanded_of_change_and (C:=Tryz.checked) (X:=fun w _=>laidMetH Tryz.prog zmE w) (fun _ _ _ hh h=>h.of_heap hh) own0 started (by kernel_rfl) Tryz.func4
  (ChangeSpec.witness_shaped (enc:=enc) (C:=Tryz.checked) (os:=os) (X:=fun w _=>laidMetH Tryz.prog zmE w) false (World.doorLaid Tryz.prog 400 os) #[.slice none 0 0,.slice none 0 0,.int .u8 0] 8 rfl (World.shaped_of_RefB (by kernel_rfl) (by kernel_rfl)) (by kernel_rfl) (by kernel_rfl) (by kernel_rfl) (zvU os _)) ?_
 intro W base args ds gs before hval0 hW _ _ hL _
 have hval: ∀(j:Nat) t v,Tryz.f4.params[j]? =some t→args[j]? =some v→Value.okWide Tryz.prog W .any base t v:=hval0
 have hT:=zxc hL
 have hW':=hW
 obtain ⟨p,q,hA0,hV,rfl,hfz,hnd⟩:=hW'
 have hA:DataW.TrodAll enc Tryz.prog W 0 (fun _=>true) true Tryz.f4.params.toList args.toList ds p:=hA0
 rw [Tryz.params4] at hA hval
 obtain ⟨v0,v1,v2,d0,d1,d2,p0,p1,p2,rfl,rfl,rfl,h0,h1,h2⟩:=trodAll_three hA
 obtain ⟨rfl,rfl⟩:=trodVars_none hV
 have hno: ∀b,¬Av Kb (fun _=>Loc.none none) ([]:List (Blk E)) b:=zwV _
 obtain ⟨z0,r0⟩:=zpb (E:=E) hno Tryz.underlying22 Tryz.underlying5 (by kernel_rfl) (hval 0 22 v0 rfl rfl) h0
 obtain ⟨z1,r1⟩:=zpb (E:=E) hno Tryz.underlying22 Tryz.underlying5 (by kernel_rfl) (hval 1 22 v1 rfl rfl) h1
 obtain ⟨z2,r2⟩:=zwN (E:=E) (A:=Av Kb (fun _=>Loc.none none) ([]:List (Blk E))) Tryz.underlying5 (hval 2 5 v2 rfl rfl) h2
 refine (zvA (s:=YS) (x:=(z0,z1,z2,())) (y:=(true,())) (zbf (W0:=W) ⟨rfl,hT⟩) (zrV hT) rfl (RL.cons (.v _ _ _ r0) (RL.cons (.v _ _ _ r1) (RL.cons (.v _ _ _ r2) RL.nil))) (hq z0 z1 z2) rfl).mono ?_
 rintro e W' ⟨rfl,hB⟩
 exact ⟨_,rfl,zvw (P:=Tryz.prog) zwQ (by rw [Tryz.params4];intro t ht;exact okP t (by simp at ht;first | exact ht | (rcases ht with rfl | rfl | rfl<;>simp))) rfl Tryz.underlying4 rfl hW rfl hB⟩
theorem zx3:(Rows.workerStealsRow.wf (OpenSpec.ofChange Rows.workerStealsSpec))=true:=by kernel_rfl
theorem zxY:(laidOutB Tryz.prog)=true:=by kernel_rfl
theorem zxU:(mapsRowed Tryz.prog)=true:=by kernel_rfl
theorem zxS:(Tryz.f4.params.all (Tryz.prog.readableRec ·))=true:=by kernel_rfl
theorem zya:(namedTie Tryz.prog Rows.workerStealsRow.named Rows.workerStealsSpec.vars)=true:=by kernel_rfl
theorem zx0:((Rows.workerStealsRow.stops==[]))=true:=by kernel_rfl
theorem zxX:((Tryz.prog.stops==[]))=true:=by kernel_rfl
theorem zx1:((Rows.workerStealsRow.knobs==[]))=true:=by kernel_rfl
theorem zxT:((Tryz.prog.stopKnobs==[]))=true:=by kernel_rfl
theorem zx9:((Rows.workerStealsRow.inPlace==Tryz.prog.inPlace 4))=true:=by kernel_rfl
theorem zxj:((Rows.workerStealsRow.unfollowed==Tryz.prog.unfollowed 4))=true:=by kernel_rfl
theorem zxg:((Rows.workerStealsRow.recurses==Tryz.prog.recurses 4))=true:=by kernel_rfl
theorem zxn:((Rows.workerStealsRow.named==Tryz.prog.varsNamed 4))=true:=by kernel_rfl
theorem zxJ:((Rows.workerStealsRow.maps==(Tryz.f4.params.toList++Rows.workerStealsSpec.plain.varTypes Tryz.prog).any (Tryz.prog.mapsRec ·)))=true:=by kernel_rfl
theorem zxO:((Rows.workerStealsRow.ifaces==(Tryz.f4.params.toList++Rows.workerStealsSpec.plain.varTypes Tryz.prog).any (Tryz.prog.ifacesRec ·)))=true:=by kernel_rfl
theorem zxp:((Rows.workerStealsRow.mapsOut==Tryz.prog.mapsAmong Tryz.f4.resultTypes.toList))=true:=by kernel_rfl
theorem zxI:((Rows.workerStealsRow.loops==(Tryz.f4.params.toList++Rows.workerStealsSpec.plain.varTypes Tryz.prog).any (Tryz.prog.loopsFrom ·)))=true:=by kernel_rfl
theorem zxL:((Rows.workerStealsRow.wideKeys==(Tryz.f4.params.toList++Rows.workerStealsSpec.plain.varTypes Tryz.prog++Tryz.f4.resultTypes.toList).any (Tryz.prog.wideKeysFrom ·)))=true:=by kernel_rfl
theorem zxA:(Rows.workerStealsSpec.vars.all (Tryz.prog.varReadable ·))=true:=by kernel_rfl
theorem zxf:(Tryz.f4.resultTypes.all (fun t=>Tryz.prog.readableRec t&&decide (t<Tryz.prog.types.size)))=true:=by kernel_rfl
theorem zxo:((Rows.workerStealsRow.ifacesOut==Tryz.f4.resultTypes.toList.any (Tryz.prog.ifacesRec ·)))=true:=by kernel_rfl
theorem zxt:((Rows.workerStealsRow.loopsOut==Tryz.f4.resultTypes.toList.any (Tryz.prog.loopsFrom ·)))=true:=by kernel_rfl
theorem zxk:((Rows.workerStealsRow.plainKeys==Tryz.prog.plainKeys))=true:=by kernel_rfl
theorem zxv:(Rows.workerStealsRow.shortTexts.isNone)=true:=by kernel_rfl
theorem zxF:(Tryz.prog.stopsHeard)=true:=by kernel_rfl
theorem zxM:(Tryz.prog.mayEnter)=true:=by kernel_rfl
theorem zxG:((Rows.workerStealsRow.lifted==Tryz.prog.liftsFinal))=true:=by kernel_rfl
theorem zxu:((Tryz.prog.make==some Rows.workerStealsRow.make))=true:=by kernel_rfl
theorem zxK:((Rows.workerStealsRow.kinds==(if Rows.workerStealsRow.domain.isEmpty then [] else Tryz.f4.params.toList.map fun t=>match Tryz.prog.underlying t with | some (.int k)=>some k | _=>none)))=true:=by kernel_rfl
theorem zxH:((Rows.workerStealsRow.pinned==Rows.workerStealsRow.pinnedBy))=true:=by kernel_rfl
theorem zxz:((Rows.workerStealsRow.veiled==(Tryz.f4.params.toList++Rows.workerStealsSpec.plain.varTypes Tryz.prog++Tryz.f4.resultTypes.toList).any (Tryz.prog.veiledRec ·)))=true:=by kernel_rfl
theorem zxw:(Rows.workerStealsRow.veiledFits Tryz.prog Tryz.f4.params.toList (Tryz.f4.params.toList++Rows.workerStealsSpec.plain.varTypes Tryz.prog++Tryz.f4.resultTypes.toList))=true:=by kernel_rfl
theorem zx7:joinedFacts Tryz.prog 4 Tryz.f4 Rows.workerStealsSpec Rows.workerStealsRow=true:=by
 unfold joinedFacts
 simp only [Bool.and_eq_true]
 exact ⟨⟨⟨⟨⟨⟨⟨⟨⟨⟨⟨⟨⟨⟨⟨⟨⟨⟨⟨⟨⟨⟨⟨⟨⟨⟨⟨⟨⟨⟨⟨zx3,zxY⟩,zxU⟩,zxS⟩,zya⟩,zx0⟩,zxX⟩,zx1⟩,zxT⟩,zx9⟩,zxj⟩,zxg⟩,zxn⟩,zxJ⟩,zxO⟩,zxp⟩,zxI⟩,zxL⟩,zxA⟩,zxf⟩,zxo⟩,zxt⟩,zxk⟩,zxv⟩,zxF⟩,zxM⟩,zxG⟩,zxu⟩,zxK⟩,zxH⟩,zxz⟩,zxw⟩
theorem zu9:Tryz.prog.funcNamed "besom/besomlaw15.WorkerSteals" = some 4:=by kernel_rfl
theorem zyc:Rows.workerStealsRow.wfByText (OpenSpec.ofChange Rows.workerStealsSpec)=true:=by kernel_rfl
theorem zyf:Tryz.prog.mainIs=some (true, "aa4c054236b3066ea44ee7786633d4ce8f693b03848a14201af799f7f6f1f85f".toList):=by kernel_rfl
theorem zx8:false=Tryz.prog.looks []:=by kernel_rfl
theorem zx2:([22,22,5].all fun u=> !Tryz.prog.wantsStandIn u)=true:=by kernel_rfl
theorem zyh:false=Rows.workerStealsRow.goesBy Tryz.prog:=by kernel_rfl
theorem zua (hq: ∀a0 a1 a2,vA a0 a1 a2=some (true,())):Rows.WorkerStealsSaid :=
 OpenClaim.holds_of_wide 4 Tryz.f4 rfl rfl rfl rfl rfl rfl rfl ⟨rfl,rfl,rfl,rfl,rfl⟩ rfl rfl rfl rfl rfl zu9 Tryz.func4 zx7
  (of_decide_eq_true (by as_aux_lemma=>kernel_rfl)) (by unfold Func.isWrapper;first | (rw [if_pos (by decide +kernel)];kernel_rfl) | (rw [if_neg (by decide +kernel)];exact ⟨rfl,rfl⟩))
  (fun os started H enc _=>zs0 hq os started H enc)
theorem card_holds (hq: ∀a0 a1 a2,vA a0 a1 a2=some (true,())):Rows.WorkerStealsCardSaid :=
 Claim7.holds_tied_plain_at .later [] [.data] true (true, "aa4c054236b3066ea44ee7786633d4ce8f693b03848a14201af799f7f6f1f85f") false
  (zua hq) (fun _ h=>by cases h) zyc (fun _ h=>by cases h) workerSteals_row_tie rfl ⟨rfl,rfl⟩ zyf rfl
  (fun f fn hf hfn=>by
   obtain rfl:f=4:=Option.some.inj (zu9.symm.trans hf) |>.symm
   obtain rfl:fn=Tryz.f4:=(Option.some.inj (Tryz.func4.symm.trans hfn)).symm
   exact ⟨zx8,fun j t ht=>by
    rw [Tryz.params4] at ht
    have hm:t∈[22,22,5]:=by simpa using Array.mem_of_getElem? ht
    have hall:=zx2
    exact (show Tryz.prog.wantsStandIn t=false by simpa using List.all_eq_true.1 hall t hm)⟩)
  zyh
end Go.Pe.G
