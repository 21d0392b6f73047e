/- Own work of this seat: Bridge, GB, GC, LawA. -/
import Derived.Test.YtijbahhphbkdiaaGreatDoorTRCb
import Derived.ProofKit
import Derived.LaidMore
import Derived.OpenShut
import Derived.LaidLaws
import Derived.LaidHandle
import Derived.MakeChecks
import Derived.Stop.Joined
import Derived.Shelf.Spec.TrailingZeros
import Derived.Test.YtijbahhphbkdiaaGreatDoorTRGb
import Derived.Test.YtijbahhphbkdiaaGreatDoorCards
import Derived.Test.YtijbahhphbkdiaaGreatDoorTie
import Derived.SevenTiedAt
set_option linter.unusedVariables false
set_option linter.unusedSimpArgs false
set_option linter.unnecessarySimpa false
set_option linter.unusedSectionVars false
set_option linter.deprecated false
set_option maxRecDepth 100000
open Array renaming getElem?_toList → zLh
open BitVec renaming toNat_ofInt → zLo
open Bool renaming and_eq_true → zKu
open List renaming getElem?_eq_getElem → zKv, getD_eq_getElem?_getD → zKw, mem_cons_of_mem → zKA, mem_cons_self → zKJ, mem_append_left → zKO, all_eq_true → zKY, getElem?_map → zK1, mem_append_right → zK2
open Nat renaming lt_or_ge → zK5, le_of_ble_eq_true → zK8, mul_one → zLs
open Option renaming map_some → zLx
namespace Go.Pe
open Go.ChangeShapes Go.WideShapes
variable {E:yI}
theorem zI5 (μ:Nat->Loc) (b:Nat): ¬Av Kb μ ([]:List (Blk E)) b:=by
 rintro (⟨h,k⟩ | ⟨id,o,n,c,h,_⟩)
 .exact k h
 .simp [zq,xm] at h
theorem zJk {n:Int}(h:(Lit.int .u8 n).wf=true):((BitVec.ofInt 8 n).toNat:Int)=n:=by
 have h:(decide ((0:Int)<=n)&&decide (n<=(255:Int)))=true:=h;simp only [zKu,decide_eq_true_eq] at h;rw [zLo];omega
theorem zzB {H:Type}{enc:TypeId×Value->H}{P:Program}{W:World}{A:Nat->Prop}(hA:∀b,¬A b) {t e:TypeId}{b0:Nat}{r:Reach}{v:Value}{d:DataW H}{ps:List MemPlace}
  (ht:P.underlying t=some (.slice e)) (he:P.underlying e=some (.int .u8)) (hc:P.cellsOf e=1) (hval:Value.okWide P W r b0 t v)
  (hd:DataW.Trod enc P W 0 (fun _=>true) true t v d ps):∃l:List (BitVec 8),yy E W A (.slice (.int .u8)) v l:=by
 obtain ⟨a,len,cap,rfl⟩:=okWide_slice ht hval;obtain ⟨fuel,hf⟩:=hd;rcases open_ints ht he hc hf with ⟨h0,_⟩ | ⟨a',len',cap',zs,h0,_,hlc,_,hzl,_,hcell,hwf⟩
 .simp [Value.cells] at h0;obtain ⟨rfl,rfl,rfl⟩:=h0;exact ⟨[],.nil _ _ _⟩
 .simp [Value.cells] at h0;obtain ⟨rfl,rfl,rfl⟩:=h0;simp only [if_true] at hzl;cases len with
  | zero=>exact ⟨[],.nil _ _ _⟩
  | succ len =>
   have hc0:=hcell 0 (by omega);have hs:=World.cell?_spot hc0;obtain ⟨b,off,spot⟩:=a';have hs:spot=none:=by simpa [Addr.add] using hs
   subst hs;have hlt:b<W.heap.size:=by
    rcases zK5 b W.heap.size with h | h
    .exact h
    .have:W.heap[b]? =none:=by simp;omega
     simp [World.cell?,Addr.add,this] at hc0
   have hn:∀i,i<len+1->(Lit.int .u8 (zs.getD i 0)).wf=true:=fun i hi=>hwf _ (by
    rw [zKw,zKv (by omega)];simp)
   have hl:((List.range (len+1)).map fun i=>BitVec.ofInt 8 (zs.getD i 0)).length=len+1:=by simp
   refine ⟨(List.range (len+1)).map fun i=>BitVec.ofInt 8 (zs.getD i 0),?_⟩;have:=yy.slice (E:=E) (w:=W) (A:=A) (.int .u8) b off cap ((List.range (len+1)).map fun i=>BitVec.ofInt 8 (zs.getD i 0)) (fun i=>.int .u8 (zs.getD i 0)) (hA b) hlt (by rw [hl];exact hlc) (fun i hi j u hu=>by
    rw [hl] at hi;cases j with
    | succ j=>simp [Value.cells] at hu
    | zero =>
     simp [Value.cells] at hu;subst hu;have h:=hcell i (by omega);rw [add_plain] at h;simpa [Ty.size] using h) (fun i hi=>by
    rw [hl] at hi;have e:(List.map (fun i=>BitVec.ofInt 8 (zs.getD i 0)) (List.range (len+1)))[i]'(by simpa using hi)=BitVec.ofInt 8 (zs.getD i 0):=by simp
    rw [e];have k:=yy.int (E:=E) (w:=W) (A:=A) .u8 (BitVec.ofInt 8 (zs.getD i 0));simp only [toZ,zJk (hn i hi)] at k;exact k)
   rw [hl] at this;exact this
theorem zra {H:Type}{enc:TypeId×Value->H}{P:Program}(hl:laidOutB P=true) {W W':World}{sp':Nat->Bool}:∀ {ts:List TypeId}{vs:List Value}{ds:List (DataW H)}{ps:List MemPlace},
  (∀t∈ts,P.readableRec t=true/\t<P.types.size)->DataW.TrodAll enc P W 0 (fun _=>true) true ts vs ds ps->(∀p∈ps,W.sameAt W' p)->(∀p∈ps,sp' p.block=true)->DataW.TrodAll enc P W' 0 sp' true ts vs ds ps
 | [],vs,ds,ps,_,h,_,_=>by
  obtain ⟨rfl,rfl,rfl⟩:=trodAll_nil h;rfl
 | t::ts,vs,ds,ps,ht,h,hs,hsp=>by
  obtain ⟨v,vs1,d,ds1,p,q,rfl,rfl,rfl,h1,h2⟩:=trodAll_cons h;refine ⟨p,q,WideElems.Trod_stays hl (ht t (zKJ ..)).1 (ht t (zKJ ..)).2 h1 (fun x hx=>hs x (zKO _ hx)) (fun x hx=>hsp x (zKO _ hx)),?_,rfl⟩;exact zra hl (fun t' h'=>ht t' (zKA _ h')) h2 (fun x hx=>hs x (zK2 _ hx)) (fun x hx=>hsp x (zK2 _ hx))
theorem zH1 {H:Type}{enc:TypeId×Value->H}{P:Program}{f:Func}{s:ChangeSpec}{W W':World}{args:Array Value}{ds gs:List (DataW H)}{before:List MemPlace}{tb:TypeId}
  (hl:laidOutB P=true) (hp:∀t∈f.params.toList,P.readableRec t=true/\t<P.types.size) (hr:f.resultTypes= #[tb]) (hb:P.underlying tb=some .bool) (hv:s.vars=[])
  (hW:DataW.Whole enc P f.params.toList s.vars false W args.toList ds gs before) (hs:s.fn H (ds++gs)={results:=[.lit (.bool true)],args:=ds})
  (hB:RowKit.Below W.heap.size W W'):s.post enc P f false true false false W args (.bool true) W':=by
 obtain ⟨p,q,hA,hV,rfl,hz,hn⟩:=id hW;have hV':=hV;rw [hv] at hV';obtain ⟨rfl,rfl⟩:=trodVars_none hV';refine ⟨ds,[],p++[],[],p,[],hW,?_,?_,?_,hB.frame _,fun h=>by cases h⟩
 .rw [hs,hr];exact trodAll_mk1 (RowKit.shut_bool hb true)
 .rw [hs];exact zra hl hp hA (fun x hx=>hB.same (hA.lt x hx)) (fun x hx=>by simpa using hA.lt x hx)
 .rw [hs,hv];rfl
theorem zIW (w:World):z9 Kb (fun _=>Loc.none none) ([]:List (Blk E)) w :=
 ⟨fun id=>by simp [zq,wy],fun i j b o l c b' o' l' c' _ h=>by simp [zq,xm] at h,fun id b o l c h=>by simp [zq,YO] at h⟩
theorem zGW {P:Program}{f:FuncId}{s:zL E}{W:World}{args:Array Value}{x:HL E.T s.inn.holes}{y:s.go.G}(hs:WC P (fun b=>b=0) W f s) (h0:0<W.heap.size)
  (hi:(yJ id s.inn (HL.toP s.inn.holes x)).2=[]) (hrep:RL (Rp E Kb (fun _=>Loc.none none) ([]:List (Blk E)) W) (yJ id s.inn (HL.toP s.inn.holes x)).1 args.toList) (hy:s.F (s.gi.of x)=some y)
  (ho:(yJ id s.out (HL.toP s.out.holes (s.go.to y))).1=[.v .bool true]) :
  Calls P f args W fun e W'=>e= .returned (.bool true)/\RowKit.Below W.heap.size W W':=by
 have hS:=hs Kb (fun _=>Loc.none none) W args x y ⟨fun b hb=>by unfold Kb at hb;omega,fun g hg=>by subst hg;exact ⟨by unfold Kb;omega,rfl⟩,fun b hb=>hb⟩ (by rw [hi];exact zIW W) (by rw [hi];exact hrep) hy;refine hS.mono ?_;rintro e W' ⟨vs,A1,μ1,rfl,oc⟩;have hrep:=oc.rep;rw [ho] at hrep;obtain ⟨h1,h2⟩:=hrep;obtain ⟨v,rfl⟩:∃v,vs=[v]:=by
  match vs,h1 with
  | [v],_=>exact ⟨v,rfl⟩
 have hv:=h2 0 _ v rfl rfl;cases hv with
 | v _ _ _ h =>
 cases h;have hadv:=oc.adv;rw [hi] at hadv;refine ⟨rfl,hadv.os,hadv.tape,hadv.output,hadv.size,fun k hk=>hadv.block k hk ?_⟩;rintro ⟨id,o,n,c,h,_⟩;simp [zq,xm] at h
end Go.Pe
namespace Go.Pe.G
open Go.Pe Go.ChangeShapes Go.WideShapes Go.Proofs Go.Proofs.YtijbahhphbkdiaaGreatDoor
theorem own0:ownKnob Tryz.prog.godebug=none:=by kernel_rfl
theorem zKr:Tryz.prog.globalNamed "math/bits.deBruijn64tab" = some 0:=by kernel_rfl
theorem zKq:(Tryz.prog.globals[0]?).map (·.type)=some 196:=by kernel_rfl
theorem zIm:laidOutB Tryz.prog=true:=by kernel_rfl
abbrev zwA:List (String×DataW Unit):=[("math/bits.deBruijn64tab",Rows.laid_math_bits_deBruijn64tab)]
theorem zG1 (os:Os) (args:Array Value):laidMetH Tryz.prog zwA ((World.doorLaid Tryz.prog 400 os).forCall (fun _ _=>0) ⟨#[],args,[]⟩).memory :=
 laidMetH_of_parts3 (fuel:=8) (laidMet_of_run' 8 (by kernel_rfl) (by kernel_rfl)) (by kernel_rfl) (by kernel_rfl)
end Go.Pe.G
namespace Go.Pe.G
open Go.Pe Go.ChangeShapes Go.WideShapes Go.Proofs Go.Proofs.YtijbahhphbkdiaaGreatDoor
theorem zIX:(Rows.laid_math_bits_deBruijn64tab:DataW Unit)= .agg (Go.Lib.deBruijn64tab.map fun n=>.lit (.int .u8 ((n:Nat):Int))):=by kernel_rfl
theorem zI9 {W:World}(h:laidMetH Tryz.prog zwA W):TabAt 0 Go.Lib.deBruijn64tab W:=by
 rw [MakeChecks.laidMetH_plain _ _ _ (by kernel_rfl)] at h;obtain ⟨ps,⟨g0,t0,cs0,f0,p0,q0,hg0,ht0,hv0,hd0,_⟩,_⟩:=h;obtain rfl:=Option.some.inj (zKr.symm.trans hg0);obtain rfl:=Option.some.inj (zKq.symm.trans ht0);obtain ⟨xs,m,rfl,hx,hlen,hn,hel⟩:=DataW.trod_array Tryz.underlying196 hd0;have c5:Tryz.prog.cellsOf 5=1:=by kernel_rfl
 rw [zIX] at hx;simp only [Prod.mk.injEq,DataW.agg.injEq] at hx;intro j hj;have hj:j<64:=hj;have hjx:j<xs.length:=by omega
 have h1:=hel j hj;rw [zKv hjx] at h1;obtain ⟨k,e1,e2,_⟩:=DataW.trod_int Tryz.underlying5 h1;have e3:(xs.map (·.1))[j]? =some (.lit (.int .u8 k)):=by
  rw [zK1,zKv hjx,zLx,e2]
 rw [<-hx.1,zK1] at e3;have e4:Go.Lib.deBruijn64tab[j]? =some (Go.Lib.deBruijn64tab.getD j 0):=by
  rw [zKw,zKv (by exact hj)];rfl
 rw [e4] at e3;simp only [zLx,Option.some.injEq,DataW.lit.injEq,Lit.int.injEq,true_and] at e3;have:=World.var?_cell hg0 hv0 j;rw [c5,zLs] at e1;have e5:cs0[j]? =some (.int .u8 k):=by
  rw [<-zLh];have:=congrArg (fun l=>l[0]?) e1;simpa using this
 rw [e5] at this;rw [<-e3] at this;simpa using this
theorem zC4 {W:World}(h:TabAt 0 Go.Lib.deBruijn64tab W):0<W.heap.size:=by
 have h0:=h 0 (by decide);rcases Nat.eq_zero_or_pos W.heap.size with h1 | h1
 .have:W.heap[0]? =none:=by rw [Array.getElem?_eq_none_iff];omega
  simp [World.cell?,this] at h0
 .exact h1
end Go.Pe.G
namespace Go.Pe.G
open Go.Pe Go.ChangeShapes Go.WideShapes Go.Proofs Go.Proofs.YtijbahhphbkdiaaGreatDoor
theorem zKm:Tryz.prog.readableRec 22=true/\22<Tryz.prog.types.size:=⟨by kernel_rfl,zK8 (by kernel_rfl)⟩
theorem okP (t:TypeId) (h:t=22):Tryz.prog.readableRec t=true/\t<Tryz.prog.types.size:=by
 rcases h with rfl
 .exact zKm
theorem zEy (hq:∀a0 a1,Ye a0 a1=some (true,())) (os:Os) (started:os.Started) (H:Type) (enc:TypeId×Value->H) :
  ReturnsInHanded {} Tryz.checked os 3 .any (fun w args=>(Rows.triRightSpec.pre enc Tryz.prog Tryz.f3 [] false w args/\laidMetH Tryz.prog zwA w)/\sizedMet enc Tryz.prog Tryz.f3 (OpenSpec.ofChange Rows.triRightSpec) false w args)
   (Rows.triRightSpec.post enc Tryz.prog Tryz.f3 false true false false):=by
 refine returnsInHanded_of_change_and (C:=Tryz.checked) (X:=fun w _=>laidMetH Tryz.prog zwA w) (fun _ _ _ hh h=>h.of_heap hh) own0 started (by kernel_rfl) Tryz.func3
  (ChangeSpec.witness_shaped (enc:=enc) (C:=Tryz.checked) (os:=os) (X:=fun w _=>laidMetH Tryz.prog zwA w) false (World.doorLaid Tryz.prog 400 os) #[.slice none 0 0,.slice none 0 0] 8 rfl (World.shaped_of_RefB (by kernel_rfl) (by kernel_rfl)) (by kernel_rfl) (by kernel_rfl) (by kernel_rfl) (zG1 os _)) ?_
 intro W base args ds gs before hval0 hW _ _ hL _;have hval:∀(j:Nat) t v,Tryz.f3.params[j]? =some t->args[j]? =some v->Value.okWide Tryz.prog W .any base t v:=hval0;have hT:=zI9 hL;have hW':=hW;obtain ⟨p,q,hA0,hV,rfl,hfz,hnd⟩:=hW';have hA:DataW.TrodAll enc Tryz.prog W 0 (fun _=>true) true Tryz.f3.params.toList args.toList ds p:=hA0;rw [Tryz.params3] at hA hval;obtain ⟨v0,v1,d0,d1,p0,p1,rfl,rfl,rfl,h0,h1⟩:=trodAll_two hA;obtain ⟨rfl,rfl⟩:=trodVars_none hV;have hno:∀b,¬Av Kb (fun _=>Loc.none none) ([]:List (Blk E)) b:=zI5 _;obtain ⟨z0,r0⟩:=zzB (E:=E) hno Tryz.underlying22 Tryz.underlying5 (by kernel_rfl) (hval 0 22 v0 rfl rfl) h0;obtain ⟨z1,r1⟩:=zzB (E:=E) hno Tryz.underlying22 Tryz.underlying5 (by kernel_rfl) (hval 1 22 v1 rfl rfl) h1;refine (zGW (s:=zaw) (x:=(z0,z1,())) (y:=(true,())) (ziL (W0:=W) ⟨rfl,hT⟩) (zC4 hT) rfl (RL.cons (.v _ _ _ r0) (RL.cons (.v _ _ _ r1) RL.nil)) (hq z0 z1) rfl).mono ?_;rintro e W' ⟨rfl,hB⟩;exact ⟨_,rfl,zH1 (P:=Tryz.prog) zIm (by rw [Tryz.params3];intro t ht;exact okP t (by simp at ht;first | exact ht | (rcases ht with rfl | rfl<;>simp))) rfl Tryz.underlying4 rfl hW rfl hB⟩
theorem zKc:(Rows.triRightRow.wf (OpenSpec.ofChange Rows.triRightSpec))=true:=by kernel_rfl
theorem zKa:(laidOutB Tryz.prog)=true:=by kernel_rfl
theorem zJT:(mapsRowed Tryz.prog)=true:=by kernel_rfl
theorem zJY:(Tryz.f3.params.all (Tryz.prog.readableRec ·))=true:=by kernel_rfl
theorem zJ2:(namedTie Tryz.prog Rows.triRightRow.named Rows.triRightSpec.vars)=true:=by kernel_rfl
theorem zJ5:((Rows.triRightRow.stops==[]))=true:=by kernel_rfl
theorem zJV:((Tryz.prog.stops==[]))=true:=by kernel_rfl
theorem zJQ:((Rows.triRightRow.knobs==[]))=true:=by kernel_rfl
theorem zJR:((Tryz.prog.stopKnobs==[]))=true:=by kernel_rfl
theorem zKg:((Rows.triRightRow.inPlace==Tryz.prog.inPlace 3))=true:=by kernel_rfl
theorem zJn:((Rows.triRightRow.unfollowed==Tryz.prog.unfollowed 3))=true:=by kernel_rfl
theorem zJt:((Rows.triRightRow.recurses==Tryz.prog.recurses 3))=true:=by kernel_rfl
theorem zJA:((Rows.triRightRow.named==Tryz.prog.varsNamed 3))=true:=by kernel_rfl
theorem zJL:((Rows.triRightRow.maps==(Tryz.f3.params.toList++Rows.triRightSpec.plain.varTypes Tryz.prog).any (Tryz.prog.mapsRec ·)))=true:=by kernel_rfl
theorem zJi:((Rows.triRightRow.ifaces==(Tryz.f3.params.toList++Rows.triRightSpec.plain.varTypes Tryz.prog).any (Tryz.prog.ifacesRec ·)))=true:=by kernel_rfl
theorem zJC:((Rows.triRightRow.mapsOut==Tryz.prog.mapsAmong Tryz.f3.resultTypes.toList))=true:=by kernel_rfl
theorem zJK:((Rows.triRightRow.loops==(Tryz.f3.params.toList++Rows.triRightSpec.plain.varTypes Tryz.prog).any (Tryz.prog.loopsFrom ·)))=true:=by kernel_rfl
theorem zJN:((Rows.triRightRow.wideKeys==(Tryz.f3.params.toList++Rows.triRightSpec.plain.varTypes Tryz.prog++Tryz.f3.resultTypes.toList).any (Tryz.prog.wideKeysFrom ·)))=true:=by kernel_rfl
theorem zJh:(Rows.triRightSpec.vars.all (Tryz.prog.varReadable ·))=true:=by kernel_rfl
theorem zJs:(Tryz.f3.resultTypes.all (fun t=>Tryz.prog.readableRec t&&decide (t<Tryz.prog.types.size)))=true:=by kernel_rfl
theorem zJx:((Rows.triRightRow.ifacesOut==Tryz.f3.resultTypes.toList.any (Tryz.prog.ifacesRec ·)))=true:=by kernel_rfl
theorem zJM:((Rows.triRightRow.loopsOut==Tryz.f3.resultTypes.toList.any (Tryz.prog.loopsFrom ·)))=true:=by kernel_rfl
theorem zJr:((Rows.triRightRow.plainKeys==Tryz.prog.plainKeys))=true:=by kernel_rfl
theorem zJy:(Rows.triRightRow.shortTexts.isNone)=true:=by kernel_rfl
theorem zJg:(Tryz.prog.stopsHeard)=true:=by kernel_rfl
theorem zJG:(Tryz.prog.mayEnter)=true:=by kernel_rfl
theorem zJp:((Rows.triRightRow.lifted==Tryz.prog.liftsFinal))=true:=by kernel_rfl
theorem zJo:((Tryz.prog.make==some Rows.triRightRow.make))=true:=by kernel_rfl
theorem zJl:((Rows.triRightRow.kinds==(if Rows.triRightRow.domain.isEmpty then [] else Tryz.f3.params.toList.map fun t=>match Tryz.prog.underlying t with | some (.int k)=>some k | _=>none)))=true:=by kernel_rfl
theorem zJm:((Rows.triRightRow.pinned==Rows.triRightRow.pinnedBy))=true:=by kernel_rfl
theorem zJB:((Rows.triRightRow.veiled==(Tryz.f3.params.toList++Rows.triRightSpec.plain.varTypes Tryz.prog++Tryz.f3.resultTypes.toList).any (Tryz.prog.veiledRec ·)))=true:=by kernel_rfl
theorem zJD:(Rows.triRightRow.veiledFits Tryz.prog Tryz.f3.params.toList (Tryz.f3.params.toList++Rows.triRightSpec.plain.varTypes Tryz.prog++Tryz.f3.resultTypes.toList))=true:=by kernel_rfl
theorem zJ3:joinedFacts Tryz.prog 3 Tryz.f3 Rows.triRightSpec Rows.triRightRow=true:=by
 unfold joinedFacts;simp only [zKu];exact ⟨⟨⟨⟨⟨⟨⟨⟨⟨⟨⟨⟨⟨⟨⟨⟨⟨⟨⟨⟨⟨⟨⟨⟨⟨⟨⟨⟨⟨⟨⟨zKc,zKa⟩,zJT⟩,zJY⟩,zJ2⟩,zJ5⟩,zJV⟩,zJQ⟩,zJR⟩,zKg⟩,zJn⟩,zJt⟩,zJA⟩,zJL⟩,zJi⟩,zJC⟩,zJK⟩,zJN⟩,zJh⟩,zJs⟩,zJx⟩,zJM⟩,zJr⟩,zJy⟩,zJg⟩,zJG⟩,zJp⟩,zJo⟩,zJl⟩,zJm⟩,zJB⟩,zJD⟩
theorem zFS:Tryz.prog.funcNamed "besom/besomlaw20.TriRight" = some 3:=by kernel_rfl
theorem zJ1:Rows.triRightRow.wfByText (OpenSpec.ofChange Rows.triRightSpec)=true:=by kernel_rfl
theorem zJ9:Tryz.prog.mainIs=some (true, "6484e22c7a00cf977943383d44219ae5c51733dd961778e09fec67ed0fcf67a7".toList):=by kernel_rfl
theorem zJ6:false=Tryz.prog.looks []:=by kernel_rfl
theorem zJW:([22,22].all fun u=> !Tryz.prog.wantsStandIn u)=true:=by kernel_rfl
theorem zJS:false=Rows.triRightRow.goesBy Tryz.prog:=by kernel_rfl
theorem zFc (hq:∀a0 a1,Ye a0 a1=some (true,())):Rows.TriRightSaid :=
 OpenClaim.holds_of_wide 3 Tryz.f3 rfl rfl rfl rfl rfl rfl rfl ⟨rfl,rfl,rfl,rfl,rfl⟩ rfl rfl rfl rfl rfl zFS Tryz.func3 zJ3
  (of_decide_eq_true (by as_aux_lemma=>kernel_rfl)) (by unfold Func.isWrapper;first | (rw [if_pos (by decide +kernel)];kernel_rfl) | (rw [if_neg (by decide +kernel)];exact ⟨rfl,rfl⟩))
  (fun os started H enc _=>zEy hq os started H enc)
theorem card_holds (hq:∀a0 a1,Ye a0 a1=some (true,())):Rows.TriRightCardSaid :=
 Claim7.holds_tied_plain_at .later [] [.data] true (true, "6484e22c7a00cf977943383d44219ae5c51733dd961778e09fec67ed0fcf67a7") false
  (zFc hq) (fun _ h=>by cases h) zJ1 (fun _ h=>by cases h) triRight_row_tie rfl ⟨rfl,rfl⟩ zJ9 rfl
  (fun f fn hf hfn=>by
   obtain rfl:f=3:=Option.some.inj (zFS.symm.trans hf) |>.symm;obtain rfl:fn=Tryz.f3:=(Option.some.inj (Tryz.func3.symm.trans hfn)).symm;exact ⟨zJ6,fun j t ht=>by
    rw [Tryz.params3] at ht;have hm:t∈[22,22]:=by simpa using Array.mem_of_getElem? ht
    have hall:=zJW;exact (show Tryz.prog.wantsStandIn t=false by simpa using zKY.1 hall t hm)⟩)
  zJS
end Go.Pe.G
