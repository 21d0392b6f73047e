/- Own work of this seat: Bridge, GB, GC, LawA. -/
import Derived.Test.YtdommjamncndpaaGreatDoorWECb
import Derived.ProofKit
import Derived.LaidMore
import Derived.OpenShut
import Derived.LaidLaws
import Derived.LaidHandle
import Derived.MakeChecks
import Derived.Stop.Joined
import Derived.Shelf.Spec.TrailingZeros
import Derived.Test.YtdommjamncndpaaGreatDoorWEGa
import Derived.Test.YtdommjamncndpaaGreatDoorCards
import Derived.Test.YtdommjamncndpaaGreatDoorTie
import Derived.SevenTiedAt
set_option linter.unusedVariables false
set_option linter.unusedSimpArgs false
set_option linter.unnecessarySimpa false
set_option linter.unusedSectionVars false
set_option linter.deprecated false
set_option maxRecDepth 100000
open Array renaming getElem?_toList → zB1
open BitVec renaming toNat_ofInt → zB9
open Bool renaming and_eq_true → zBl
open List renaming getElem?_eq_getElem → zBn, getD_eq_getElem?_getD → zBp, mem_cons_of_mem → zBr, mem_cons_self → zBx, mem_append_left → zBH, mem_append_right → zBJ, all_eq_true → zBL, getElem?_map → zBQ
open Nat renaming lt_or_ge → zBR, le_of_ble_eq_true → zB0
open Option renaming map_some → zCC
namespace Go.Pe
open Go.ChangeShapes Go.WideShapes
variable {E:yG}
theorem zzm (μ:Nat->Loc) (b:Nat): ¬Av Kb μ ([]:List (Blk E)) b:=by
 rintro (⟨h,k⟩ | ⟨id,o,n,c,h,_⟩)
 .exact k h
 .simp [zn,xu] at h
theorem zxA {n:Int}(h:(Lit.int .u8 n).wf=true):((BitVec.ofInt 8 n).toNat:Int)=n:=by
 have h:(decide ((0:Int)<=n)&&decide (n<=(255:Int)))=true:=h;simp only [zBl,decide_eq_true_eq] at h;rw [zB9];omega
theorem zqR {H:Type}{enc:TypeId×Value->H}{P:Program}{W:World}{A:Nat->Prop}(hA:∀b,¬A b) {t e:TypeId}{b0:Nat}{r:Reach}{v:Value}{d:DataW H}{ps:List MemPlace}
  (ht:P.underlying t=some (.slice e)) (he:P.underlying e=some (.int .u8)) (hc:P.cellsOf e=1) (hval:Value.okWide P W r b0 t v)
  (hd:DataW.Trod enc P W 0 (fun _=>true) true t v d ps):∃l:List (BitVec 8),yz E W A (.slice (.int .u8)) v l:=by
 obtain ⟨a,len,cap,rfl⟩:=okWide_slice ht hval;obtain ⟨fuel,hf⟩:=hd;rcases open_ints ht he hc hf with ⟨h0,_⟩ | ⟨a',len',cap',zs,h0,_,hlc,_,hzl,_,hcell,hwf⟩
 .simp [Value.cells] at h0;obtain ⟨rfl,rfl,rfl⟩:=h0;exact ⟨[],.nil _ _ _⟩
 .simp [Value.cells] at h0;obtain ⟨rfl,rfl,rfl⟩:=h0;simp only [if_true] at hzl;cases len with
  | zero=>exact ⟨[],.nil _ _ _⟩
  | succ len =>
   have hc0:=hcell 0 (by omega);have hs:=World.cell?_spot hc0;obtain ⟨b,off,spot⟩:=a';have hs:spot=none:=by simpa [Addr.add] using hs
   subst hs;have hlt:b<W.heap.size:=by
    rcases zBR b W.heap.size with h | h
    .exact h
    .have:W.heap[b]? =none:=by simp;omega
     simp [World.cell?,Addr.add,this] at hc0
   have hn:∀i,i<len+1->(Lit.int .u8 (zs.getD i 0)).wf=true:=fun i hi=>hwf _ (by
    rw [zBp,zBn (by omega)];simp)
   have hl:((List.range (len+1)).map fun i=>BitVec.ofInt 8 (zs.getD i 0)).length=len+1:=by simp
   refine ⟨(List.range (len+1)).map fun i=>BitVec.ofInt 8 (zs.getD i 0),?_⟩;have:=yz.slice (E:=E) (w:=W) (A:=A) (.int .u8) b off cap ((List.range (len+1)).map fun i=>BitVec.ofInt 8 (zs.getD i 0)) (fun i=>.int .u8 (zs.getD i 0)) (hA b) hlt (by rw [hl];exact hlc) (fun i hi j u hu=>by
    rw [hl] at hi;cases j with
    | succ j=>simp [Value.cells] at hu
    | zero =>
     simp [Value.cells] at hu;subst hu;have h:=hcell i (by omega);rw [add_plain] at h;simpa [Ty.size] using h) (fun i hi=>by
    rw [hl] at hi;have e:(List.map (fun i=>BitVec.ofInt 8 (zs.getD i 0)) (List.range (len+1)))[i]'(by simpa using hi)=BitVec.ofInt 8 (zs.getD i 0):=by simp
    rw [e];have k:=yz.int (E:=E) (w:=W) (A:=A) .u8 (BitVec.ofInt 8 (zs.getD i 0));simp only [toZ,zxA (hn i hi)] at k;exact k)
   rw [hl] at this;exact this
theorem zAh {H:Type}{enc:TypeId×Value->H}{P:Program}{W:World}{A:Nat->Prop}{e:TypeId}{fuel:Nat}{cs:List Value}{x:DataW H×List MemPlace}
  (he:P.underlying e=some (.int .u8)) (h:DataW.trod enc P W 0 (fun _=>true) true fuel e cs=some x):∃(z:BitVec 8) (v:Value),cs=[v]/\yz E W A (.int .u8) v z:=by
 obtain ⟨n,rfl,_,hw⟩:=DataW.trod_int he h;refine ⟨BitVec.ofInt 8 n,_,rfl,?_⟩;have k:=yz.int (E:=E) (w:=W) (A:=A) .u8 (BitVec.ofInt 8 n);simp only [toZ,zxA hw] at k;exact k
theorem zBh {H:Type}{enc:TypeId×Value->H}{P:Program}{W:World}{A:Nat->Prop}{t:TypeId}{b0:Nat}{r:Reach}{v:Value}{d:DataW H}{ps:List MemPlace}
  (ht:P.underlying t=some (.int .u8)) (hval:Value.okWide P W r b0 t v) (hd:DataW.Trod enc P W 0 (fun _=>true) true t v d ps):∃z:BitVec 8,yz E W A (.int .u8) v z:=by
 obtain ⟨n,rfl⟩:=okWide_int ht hval;obtain ⟨fuel,hf⟩:=hd;obtain ⟨z,v,e,h⟩:=zAh (E:=E) (A:=A) ht hf;simp [Value.cells] at e;subst e;exact ⟨z,h⟩
theorem zBg {P:Program}{W:World}{A:Nat->Prop}{t:TypeId}{b0:Nat}{r:Reach}{v:Value}
  (ht:P.underlying t=some (.int .i64)) (hval:Value.okWide P W r b0 t v):∃z:Int,yz E W A (.int .i64) v z:=by
 obtain ⟨n,rfl⟩:=okWide_int ht hval;exact ⟨n,yz.int (E:=E) (w:=W) (A:=A) .i64 n⟩
theorem zkX {H:Type}{enc:TypeId×Value->H}{P:Program}(hl:laidOutB P=true) {W W':World}{sp':Nat->Bool}:∀ {ts:List TypeId}{vs:List Value}{ds:List (DataW H)}{ps:List MemPlace},
  (∀t∈ts,P.readableRec t=true/\t<P.types.size)->DataW.TrodAll enc P W 0 (fun _=>true) true ts vs ds ps->(∀p∈ps,W.sameAt W' p)->(∀p∈ps,sp' p.block=true)->DataW.TrodAll enc P W' 0 sp' true ts vs ds ps
 | [],vs,ds,ps,_,h,_,_=>by
  obtain ⟨rfl,rfl,rfl⟩:=trodAll_nil h;rfl
 | t::ts,vs,ds,ps,ht,h,hs,hsp=>by
  obtain ⟨v,vs1,d,ds1,p,q,rfl,rfl,rfl,h1,h2⟩:=trodAll_cons h;refine ⟨p,q,WideElems.Trod_stays hl (ht t (zBx ..)).1 (ht t (zBx ..)).2 h1 (fun x hx=>hs x (zBH _ hx)) (fun x hx=>hsp x (zBH _ hx)),?_,rfl⟩;exact zkX hl (fun t' h'=>ht t' (zBr _ h')) h2 (fun x hx=>hs x (zBJ _ hx)) (fun x hx=>hsp x (zBJ _ hx))
theorem zym {H:Type}{enc:TypeId×Value->H}{P:Program}{f:Func}{s:ChangeSpec}{W W':World}{args:Array Value}{ds gs:List (DataW H)}{before:List MemPlace}{tb:TypeId}
  (hl:laidOutB P=true) (hp:∀t∈f.params.toList,P.readableRec t=true/\t<P.types.size) (hr:f.resultTypes= #[tb]) (hb:P.underlying tb=some .bool) (hv:s.vars=[])
  (hW:DataW.Whole enc P f.params.toList s.vars false W args.toList ds gs before) (hs:s.fn H (ds++gs)={results:=[.lit (.bool true)],args:=ds})
  (hB:RowKit.Below W.heap.size W W'):s.post enc P f false true false false W args (.bool true) W':=by
 obtain ⟨p,q,hA,hV,rfl,hz,hn⟩:=id hW;have hV':=hV;rw [hv] at hV';obtain ⟨rfl,rfl⟩:=trodVars_none hV';refine ⟨ds,[],p++[],[],p,[],hW,?_,?_,?_,hB.frame _,fun h=>by cases h⟩
 .rw [hs,hr];exact trodAll_mk1 (RowKit.shut_bool hb true)
 .rw [hs];exact zkX hl hp hA (fun x hx=>hB.same (hA.lt x hx)) (fun x hx=>by simpa using hA.lt x hx)
 .rw [hs,hv];rfl
theorem zzJ (w:World):z9 Kb (fun _=>Loc.none none) ([]:List (Blk E)) w :=
 ⟨fun id=>by simp [zn,xX],fun i j b o l c b' o' l' c' _ h=>by simp [zn,xu] at h,fun id b o l c h=>by simp [zn,ZY] at h⟩
theorem zyw {P:Program}{f:FuncId}{s:zM E}{W:World}{args:Array Value}{x:HL E.T s.inn.holes}{y:s.go.G}(hs:V0 P (fun b=>b=0) W f s) (h0:0<W.heap.size)
  (hi:(yL id s.inn (HL.toP s.inn.holes x)).2=[]) (hrep:RL (Rp E Kb (fun _=>Loc.none none) ([]:List (Blk E)) W) (yL id s.inn (HL.toP s.inn.holes x)).1 args.toList) (hy:s.F (s.gi.of x)=some y)
  (ho:(yL id s.out (HL.toP s.out.holes (s.go.to y))).1=[.v .bool true]) :
  Calls P f args W fun e W'=>e= .returned (.bool true)/\RowKit.Below W.heap.size W W':=by
 have hS:=hs Kb (fun _=>Loc.none none) W args x y ⟨fun b hb=>by unfold Kb at hb;omega,fun g hg=>by subst hg;exact ⟨by unfold Kb;omega,rfl⟩,fun b hb=>hb⟩ (by rw [hi];exact zzJ W) (by rw [hi];exact hrep) hy;refine hS.mono ?_;rintro e W' ⟨vs,A1,μ1,rfl,oc⟩;have hrep:=oc.rep;rw [ho] at hrep;obtain ⟨h1,h2⟩:=hrep;obtain ⟨v,rfl⟩:∃v,vs=[v]:=by
  match vs,h1 with
  | [v],_=>exact ⟨v,rfl⟩
 have hv:=h2 0 _ v rfl rfl;cases hv with
 | v _ _ _ h =>
 cases h;have hadv:=oc.adv;rw [hi] at hadv;refine ⟨rfl,hadv.os,hadv.tape,hadv.output,hadv.size,fun k hk=>hadv.block k hk ?_⟩;rintro ⟨id,o,n,c,h,_⟩;simp [zn,xu] at h
end Go.Pe
namespace Go.Pe.G
open Go.Pe Go.ChangeShapes Go.WideShapes Go.Proofs Go.Proofs.YtdommjamncndpaaGreatDoor
theorem own0:ownKnob Tryz.prog.godebug=none:=by kernel_rfl
theorem zBe:Tryz.prog.globalNamed "math/bits.deBruijn64tab" = some 0:=by kernel_rfl
theorem zBd:(Tryz.prog.globals[0]?).map (·.type)=some 179:=by kernel_rfl
theorem zzn:laidOutB Tryz.prog=true:=by kernel_rfl
abbrev zo1:List (String×DataW Unit):=[("math/bits.deBruijn64tab",Rows.laid_math_bits_deBruijn64tab)]
theorem zxP (os:Os) (args:Array Value):laidMetH Tryz.prog zo1 ((World.doorLaid Tryz.prog 400 os).forCall (fun _ _=>0) ⟨#[],args,[]⟩).memory :=
 laidMetH_of_parts3 (fuel:=8) (laidMet_of_run' 8 (by kernel_rfl) (by kernel_rfl)) (by kernel_rfl) (by kernel_rfl)
end Go.Pe.G
namespace Go.Pe.G
open Go.Pe Go.ChangeShapes Go.WideShapes Go.Proofs Go.Proofs.YtdommjamncndpaaGreatDoor
theorem zzP:(Rows.laid_math_bits_deBruijn64tab:DataW Unit)= .agg (Go.Lib.deBruijn64tab.map fun n=>.lit (.int .u8 ((n:Nat):Int))):=by kernel_rfl
theorem zzB {W:World}(h:laidMetH Tryz.prog zo1 W):TabAt 0 Go.Lib.deBruijn64tab W:=by
 rw [MakeChecks.laidMetH_plain _ _ _ (by kernel_rfl)] at h;obtain ⟨ps,⟨g0,t0,cs0,f0,p0,q0,hg0,ht0,hv0,hd0,_⟩,_⟩:=h;obtain rfl:=Option.some.inj (zBe.symm.trans hg0);obtain rfl:=Option.some.inj (zBd.symm.trans ht0);obtain ⟨xs,m,rfl,hx,hlen,hn,hel⟩:=DataW.trod_array Tryz.underlying179 hd0;have c5:Tryz.prog.cellsOf 5=1:=by kernel_rfl
 rw [zzP] at hx;simp only [Prod.mk.injEq,DataW.agg.injEq] at hx;intro j hj;have hj:j<64:=hj;have hjx:j<xs.length:=by omega
 have h1:=hel j hj;rw [zBn hjx] at h1;obtain ⟨k,e1,e2,_⟩:=DataW.trod_int Tryz.underlying5 h1;have e3:(xs.map (·.1))[j]? =some (.lit (.int .u8 k)):=by
  rw [zBQ,zBn hjx,zCC,e2]
 rw [<-hx.1,zBQ] at e3;have e4:Go.Lib.deBruijn64tab[j]? =some (Go.Lib.deBruijn64tab.getD j 0):=by
  rw [zBp,zBn (by exact hj)];rfl
 rw [e4] at e3;simp only [zCC,Option.some.injEq,DataW.lit.injEq,Lit.int.injEq,true_and] at e3;have:=World.var?_cell hg0 hv0 j;rw [c5,Nat.mul_one] at e1;have e5:cs0[j]? =some (.int .u8 k):=by
  rw [<-zB1];have:=congrArg (fun l=>l[0]?) e1;simpa using this
 rw [e5] at this;rw [<-e3] at this;simpa using this
theorem zt9 {W:World}(h:TabAt 0 Go.Lib.deBruijn64tab W):0<W.heap.size:=by
 have h0:=h 0 (by decide);rcases Nat.eq_zero_or_pos W.heap.size with h1 | h1
 .have:W.heap[0]? =none:=by rw [Array.getElem?_eq_none_iff];omega
  simp [World.cell?,this] at h0
 .exact h1
end Go.Pe.G
namespace Go.Pe.G
open Go.Pe Go.ChangeShapes Go.WideShapes Go.Proofs Go.Proofs.YtdommjamncndpaaGreatDoor
theorem zBb:Tryz.prog.readableRec 22=true/\22<Tryz.prog.types.size:=⟨by kernel_rfl,zB0 (by kernel_rfl)⟩
theorem okP (t:TypeId) (h:t=22):Tryz.prog.readableRec t=true/\t<Tryz.prog.types.size:=by
 rcases h with rfl
 .exact zBb
theorem zwa (hq:∀a0 a1,uV a0 a1=some (true,())) (os:Os) (started:os.Started) (H:Type) (enc:TypeId×Value->H) :
  ReturnsInHanded {} Tryz.checked os 3 .any (fun w args=>(Rows.workerEndsSpec.pre enc Tryz.prog Tryz.f3 [] false w args/\laidMetH Tryz.prog zo1 w)/\sizedMet enc Tryz.prog Tryz.f3 (OpenSpec.ofChange Rows.workerEndsSpec) false w args)
   (Rows.workerEndsSpec.post enc Tryz.prog Tryz.f3 false true false false):=by
 refine returnsInHanded_of_change_and (C:=Tryz.checked) (X:=fun w _=>laidMetH Tryz.prog zo1 w) (fun _ _ _ hh h=>h.of_heap hh) own0 started (by kernel_rfl) Tryz.func3
  (ChangeSpec.witness_shaped (enc:=enc) (C:=Tryz.checked) (os:=os) (X:=fun w _=>laidMetH Tryz.prog zo1 w) false (World.doorLaid Tryz.prog 400 os) #[.slice none 0 0,.slice none 0 0] 8 rfl (World.shaped_of_RefB (by kernel_rfl) (by kernel_rfl)) (by kernel_rfl) (by kernel_rfl) (by kernel_rfl) (zxP os _)) ?_
 intro W base args ds gs before hval0 hW _ _ hL _;have hval:∀(j:Nat) t v,Tryz.f3.params[j]? =some t->args[j]? =some v->Value.okWide Tryz.prog W .any base t v:=hval0;have hT:=zzB hL;have hW':=hW;obtain ⟨p,q,hA0,hV,rfl,hfz,hnd⟩:=hW';have hA:DataW.TrodAll enc Tryz.prog W 0 (fun _=>true) true Tryz.f3.params.toList args.toList ds p:=hA0;rw [Tryz.params3] at hA hval;obtain ⟨v0,v1,d0,d1,p0,p1,rfl,rfl,rfl,h0,h1⟩:=trodAll_two hA;obtain ⟨rfl,rfl⟩:=trodVars_none hV;have hno:∀b,¬Av Kb (fun _=>Loc.none none) ([]:List (Blk E)) b:=zzm _;obtain ⟨z0,r0⟩:=zqR (E:=E) hno Tryz.underlying22 Tryz.underlying5 (by kernel_rfl) (hval 0 22 v0 rfl rfl) h0;obtain ⟨z1,r1⟩:=zqR (E:=E) hno Tryz.underlying22 Tryz.underlying5 (by kernel_rfl) (hval 1 22 v1 rfl rfl) h1;refine (zyw (s:=Wv) (x:=(z0,z1,())) (y:=(true,())) (zdc (W0:=W) ⟨rfl,hT⟩) (zt9 hT) rfl (RL.cons (.v _ _ _ r0) (RL.cons (.v _ _ _ r1) RL.nil)) (hq z0 z1) rfl).mono ?_;rintro e W' ⟨rfl,hB⟩;exact ⟨_,rfl,zym (P:=Tryz.prog) zzn (by rw [Tryz.params3];intro t ht;exact okP t (by simp at ht;first | exact ht | (rcases ht with rfl | rfl<;>simp))) rfl Tryz.underlying4 rfl hW rfl hB⟩
theorem zA6:(Rows.workerEndsRow.wf (OpenSpec.ofChange Rows.workerEndsSpec))=true:=by kernel_rfl
theorem zAV:(laidOutB Tryz.prog)=true:=by kernel_rfl
theorem zAT:(mapsRowed Tryz.prog)=true:=by kernel_rfl
theorem zA7:(Tryz.f3.params.all (Tryz.prog.readableRec ·))=true:=by kernel_rfl
theorem zAN:(namedTie Tryz.prog Rows.workerEndsRow.named Rows.workerEndsSpec.vars)=true:=by kernel_rfl
theorem zAI:((Rows.workerEndsRow.stops==[]))=true:=by kernel_rfl
theorem zAK:((Tryz.prog.stops==[]))=true:=by kernel_rfl
theorem zAX:((Rows.workerEndsRow.knobs==[]))=true:=by kernel_rfl
theorem zAM:((Tryz.prog.stopKnobs==[]))=true:=by kernel_rfl
theorem zA4:((Rows.workerEndsRow.inPlace==Tryz.prog.inPlace 3))=true:=by kernel_rfl
theorem zAp:((Rows.workerEndsRow.unfollowed==Tryz.prog.unfollowed 3))=true:=by kernel_rfl
theorem zAa:((Rows.workerEndsRow.recurses==Tryz.prog.recurses 3))=true:=by kernel_rfl
theorem zAv:((Rows.workerEndsRow.named==Tryz.prog.varsNamed 3))=true:=by kernel_rfl
theorem zAD:((Rows.workerEndsRow.maps==(Tryz.f3.params.toList++Rows.workerEndsSpec.plain.varTypes Tryz.prog).any (Tryz.prog.mapsRec ·)))=true:=by kernel_rfl
theorem zAi:((Rows.workerEndsRow.ifaces==(Tryz.f3.params.toList++Rows.workerEndsSpec.plain.varTypes Tryz.prog).any (Tryz.prog.ifacesRec ·)))=true:=by kernel_rfl
theorem zz5:((Rows.workerEndsRow.mapsOut==Tryz.prog.mapsAmong Tryz.f3.resultTypes.toList))=true:=by kernel_rfl
theorem zz1:((Rows.workerEndsRow.loops==(Tryz.f3.params.toList++Rows.workerEndsSpec.plain.varTypes Tryz.prog).any (Tryz.prog.loopsFrom ·)))=true:=by kernel_rfl
theorem zAd:((Rows.workerEndsRow.wideKeys==(Tryz.f3.params.toList++Rows.workerEndsSpec.plain.varTypes Tryz.prog++Tryz.f3.resultTypes.toList).any (Tryz.prog.wideKeysFrom ·)))=true:=by kernel_rfl
theorem zz6:(Rows.workerEndsSpec.vars.all (Tryz.prog.varReadable ·))=true:=by kernel_rfl
theorem zz9:(Tryz.f3.resultTypes.all (fun t=>Tryz.prog.readableRec t&&decide (t<Tryz.prog.types.size)))=true:=by kernel_rfl
theorem zAF:((Rows.workerEndsRow.ifacesOut==Tryz.f3.resultTypes.toList.any (Tryz.prog.ifacesRec ·)))=true:=by kernel_rfl
theorem zAs:((Rows.workerEndsRow.loopsOut==Tryz.f3.resultTypes.toList.any (Tryz.prog.loopsFrom ·)))=true:=by kernel_rfl
theorem zAw:((Rows.workerEndsRow.plainKeys==Tryz.prog.plainKeys))=true:=by kernel_rfl
theorem zz2:(Rows.workerEndsRow.shortTexts.isNone)=true:=by kernel_rfl
theorem zAf:(Tryz.prog.stopsHeard)=true:=by kernel_rfl
theorem zAx:(Tryz.prog.mayEnter)=true:=by kernel_rfl
theorem zAk:((Rows.workerEndsRow.lifted==Tryz.prog.liftsFinal))=true:=by kernel_rfl
theorem zAg:((Tryz.prog.make==some Rows.workerEndsRow.make))=true:=by kernel_rfl
theorem zAC:((Rows.workerEndsRow.kinds==(if Rows.workerEndsRow.domain.isEmpty then [] else Tryz.f3.params.toList.map fun t=>match Tryz.prog.underlying t with | some (.int k)=>some k | _=>none)))=true:=by kernel_rfl
theorem zAE:((Rows.workerEndsRow.pinned==Rows.workerEndsRow.pinnedBy))=true:=by kernel_rfl
theorem zAq:((Rows.workerEndsRow.veiled==(Tryz.f3.params.toList++Rows.workerEndsSpec.plain.varTypes Tryz.prog++Tryz.f3.resultTypes.toList).any (Tryz.prog.veiledRec ·)))=true:=by kernel_rfl
theorem zz0:(Rows.workerEndsRow.veiledFits Tryz.prog Tryz.f3.params.toList (Tryz.f3.params.toList++Rows.workerEndsSpec.plain.varTypes Tryz.prog++Tryz.f3.resultTypes.toList))=true:=by kernel_rfl
theorem zAR:joinedFacts Tryz.prog 3 Tryz.f3 Rows.workerEndsSpec Rows.workerEndsRow=true:=by
 unfold joinedFacts;simp only [zBl];exact ⟨⟨⟨⟨⟨⟨⟨⟨⟨⟨⟨⟨⟨⟨⟨⟨⟨⟨⟨⟨⟨⟨⟨⟨⟨⟨⟨⟨⟨⟨⟨zA6,zAV⟩,zAT⟩,zA7⟩,zAN⟩,zAI⟩,zAK⟩,zAX⟩,zAM⟩,zA4⟩,zAp⟩,zAa⟩,zAv⟩,zAD⟩,zAi⟩,zz5⟩,zz1⟩,zAd⟩,zz6⟩,zz9⟩,zAF⟩,zAs⟩,zAw⟩,zz2⟩,zAf⟩,zAx⟩,zAk⟩,zAg⟩,zAC⟩,zAE⟩,zAq⟩,zz0⟩
theorem zwC:Tryz.prog.funcNamed "besom/besomlaw15.WorkerEnds" = some 3:=by kernel_rfl
theorem zA3:Rows.workerEndsRow.wfByText (OpenSpec.ofChange Rows.workerEndsSpec)=true:=by kernel_rfl
theorem zAL:Tryz.prog.mainIs=some (true, "9e732a6327b321a1cbbf5ed1d49d37662991c6314a0c095aca0b39da0d9bbe76".toList):=by kernel_rfl
theorem zA1:false=Tryz.prog.looks []:=by kernel_rfl
theorem zAU:([22,22].all fun u=> !Tryz.prog.wantsStandIn u)=true:=by kernel_rfl
theorem zAP:false=Rows.workerEndsRow.goesBy Tryz.prog:=by kernel_rfl
theorem zxr (hq:∀a0 a1,uV a0 a1=some (true,())):Rows.WorkerEndsSaid :=
 OpenClaim.holds_of_wide 3 Tryz.f3 rfl rfl rfl rfl rfl rfl rfl ⟨rfl,rfl,rfl,rfl,rfl⟩ rfl rfl rfl rfl rfl zwC Tryz.func3 zAR
  (of_decide_eq_true (by as_aux_lemma=>kernel_rfl)) (by unfold Func.isWrapper;first | (rw [if_pos (by decide +kernel)];kernel_rfl) | (rw [if_neg (by decide +kernel)];exact ⟨rfl,rfl⟩))
  (fun os started H enc _=>zwa hq os started H enc)
theorem card_holds (hq:∀a0 a1,uV a0 a1=some (true,())):Rows.WorkerEndsCardSaid :=
 Claim7.holds_tied_plain_at .later [] [.data] true (true, "9e732a6327b321a1cbbf5ed1d49d37662991c6314a0c095aca0b39da0d9bbe76") false
  (zxr hq) (fun _ h=>by cases h) zA3 (fun _ h=>by cases h) workerEnds_row_tie rfl ⟨rfl,rfl⟩ zAL rfl
  (fun f fn hf hfn=>by
   obtain rfl:f=3:=Option.some.inj (zwC.symm.trans hf) |>.symm;obtain rfl:fn=Tryz.f3:=(Option.some.inj (Tryz.func3.symm.trans hfn)).symm;exact ⟨zA1,fun j t ht=>by
    rw [Tryz.params3] at ht;have hm:t∈[22,22]:=by simpa using Array.mem_of_getElem? ht
    have hall:=zAU;exact (show Tryz.prog.wantsStandIn t=false by simpa using zBL.1 hall t hm)⟩)
  zAP
end Go.Pe.G
