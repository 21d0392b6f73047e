/- Own work of this seat: Bridge, GB, GC, LawA. -/
import Derived.Test.YtofljjggmmcgjaaGreatDoorGPCc
import Derived.ProofKit
import Derived.LaidMore
import Derived.OpenShut
import Derived.LaidLaws
import Derived.LaidHandle
import Derived.MakeChecks
import Derived.Stop.Joined
import Derived.Shelf.Spec.TrailingZeros
import Derived.Test.YtofljjggmmcgjaaGreatDoorGPGb
import Derived.Test.YtofljjggmmcgjaaGreatDoorCards
import Derived.Test.YtofljjggmmcgjaaGreatDoorTie
import Derived.SevenTiedAt
set_option linter.unusedVariables false
set_option linter.unusedSimpArgs false
set_option linter.unnecessarySimpa false
set_option linter.unusedSectionVars false
set_option linter.deprecated false
set_option maxRecDepth 100000
namespace Go.Pe
open Go.ChangeShapes Go.WideShapes
variable {E : z8}
theorem zrC (μ : Nat → Loc) (b : Nat) : ¬ Av Kb μ ([] : List (Blk E)) b := by
  rintro (⟨h, k⟩ | ⟨id, o, n, c, h, _⟩)
  · exact k h
  · simp [zh, yh] at h
theorem zpM {n : Int} (h : (Lit.int .u8 n).wf = true) : ((BitVec.ofInt 8 n).toNat : Int) = n := by
  have h : (decide ((0 : Int) ≤ n) && decide (n ≤ (255 : Int))) = true := h
  simp only [Bool.and_eq_true, decide_eq_true_eq] at h
  rw [BitVec.toNat_ofInt]
  omega
theorem zk0 {H : Type} {enc : TypeId × Value → H} {P : Program} {W : World} {A : Nat → Prop} (hA : ∀ b, ¬ A b) {t e : TypeId} {b0 : Nat} {r : Reach} {v : Value} {d : DataW H} {ps : List MemPlace}
    (ht : P.underlying t = some (.slice e)) (he : P.underlying e = some (.int .u8)) (hc : P.cellsOf e = 1) (hval : Value.okWide P W r b0 t v)
    (hd : DataW.Trod enc P W 0 (fun _ => true) true t v d ps) : ∃ l : List (BitVec 8), zX E W A (.slice (.int .u8)) v l := by
  obtain ⟨a, len, cap, rfl⟩ := okWide_slice ht hval
  obtain ⟨fuel, hf⟩ := hd
  rcases open_ints ht he hc hf with ⟨h0, _⟩ | ⟨a', len', cap', zs, h0, _, hlc, _, hzl, _, hcell, hwf⟩
  · simp [Value.cells] at h0
    obtain ⟨rfl, rfl, rfl⟩ := h0
    exact ⟨[], .nil _ _ _⟩
  · simp [Value.cells] at h0
    obtain ⟨rfl, rfl, rfl⟩ := h0
    simp only [if_true] at hzl
    cases len with
    | zero => exact ⟨[], .nil _ _ _⟩
    | succ len =>
      have hc0 := hcell 0 (by omega)
      have hs := World.cell?_spot hc0
      obtain ⟨b, off, spot⟩ := a'
      have hs : spot = none := by simpa [Addr.add] using hs
      subst hs
      have hlt : b < W.heap.size := by
        rcases Nat.lt_or_ge b W.heap.size with h | h
        · exact h
        · have : W.heap[b]? = none := by simp; omega
          simp [World.cell?, Addr.add, this] at hc0
      have hn : ∀ i, i < len + 1 → (Lit.int .u8 (zs.getD i 0)).wf = true := fun i hi => hwf _ (by
        rw [List.getD_eq_getElem?_getD, List.getElem?_eq_getElem (by omega)]; simp)
      have hl : ((List.range (len + 1)).map fun i => BitVec.ofInt 8 (zs.getD i 0)).length = len + 1 := by simp
      refine ⟨(List.range (len + 1)).map fun i => BitVec.ofInt 8 (zs.getD i 0), ?_⟩
      have := zX.slice (E := E) (w := W) (A := A) (.int .u8) b off cap ((List.range (len + 1)).map fun i => BitVec.ofInt 8 (zs.getD i 0)) (fun i => .int .u8 (zs.getD i 0)) (hA b) hlt (by rw [hl]; exact hlc) (fun i hi j u hu => by
        rw [hl] at hi
        cases j with
        | succ j => simp [Value.cells] at hu
        | zero =>
          simp [Value.cells] at hu
          subst hu
          have h := hcell i (by omega)
          rw [add_plain] at h
          simpa [Ty.size] using h) (fun i hi => by
        rw [hl] at hi
        have e : (List.map (fun i => BitVec.ofInt 8 (zs.getD i 0)) (List.range (len + 1)))[i]'(by simpa using hi) = BitVec.ofInt 8 (zs.getD i 0) := by simp
        rw [e]
        have k := zX.int (E := E) (w := W) (A := A) .u8 (BitVec.ofInt 8 (zs.getD i 0))
        simp only [toZ, zpM (hn i hi)] at k
        exact k)
      rw [hl] at this
      exact this
theorem zix {H : Type} {enc : TypeId × Value → H} {P : Program} {W : World} {A : Nat → Prop} {e : TypeId} {fuel : Nat} {cs : List Value} {x : DataW H × List MemPlace}
    (he : P.underlying e = some (.int .u8)) (h : DataW.trod enc P W 0 (fun _ => true) true fuel e cs = some x) : ∃ (z : BitVec 8) (v : Value), cs = [v] ∧ zX E W A (.int .u8) v z := by
  obtain ⟨n, rfl, _, hw⟩ := DataW.trod_int he h
  refine ⟨BitVec.ofInt 8 n, _, rfl, ?_⟩
  have k := zX.int (E := E) (w := W) (A := A) .u8 (BitVec.ofInt 8 n)
  simp only [toZ, zpM hw] at k
  exact k
theorem ztx {H : Type} {enc : TypeId × Value → H} {P : Program} {W : World} {A : Nat → Prop} {t : TypeId} {b0 : Nat} {r : Reach} {v : Value} {d : DataW H} {ps : List MemPlace}
    (ht : P.underlying t = some (.int .u8)) (hval : Value.okWide P W r b0 t v) (hd : DataW.Trod enc P W 0 (fun _ => true) true t v d ps) : ∃ z : BitVec 8, zX E W A (.int .u8) v z := by
  obtain ⟨n, rfl⟩ := okWide_int ht hval
  obtain ⟨fuel, hf⟩ := hd
  obtain ⟨z, v, e, h⟩ := zix (E := E) (A := A) ht hf
  simp [Value.cells] at e
  subst e
  exact ⟨z, h⟩
theorem ztq {P : Program} {W : World} {A : Nat → Prop} {t : TypeId} {b0 : Nat} {r : Reach} {v : Value}
    (ht : P.underlying t = some (.int .i64)) (hval : Value.okWide P W r b0 t v) : ∃ z : Int, zX E W A (.int .i64) v z := by
  obtain ⟨n, rfl⟩ := okWide_int ht hval
  exact ⟨n, zX.int (E := E) (w := W) (A := A) .i64 n⟩
theorem zfA {H : Type} {enc : TypeId × Value → H} {P : Program} (hl : laidOutB P = true) {W W' : World} {sp' : Nat → Bool} : ∀ {ts : List TypeId} {vs : List Value} {ds : List (DataW H)} {ps : List MemPlace},
    (∀ t ∈ ts, P.readableRec t = true ∧ t < P.types.size) → DataW.TrodAll enc P W 0 (fun _ => true) true ts vs ds ps → (∀ p ∈ ps, W.sameAt W' p) → (∀ p ∈ ps, sp' p.block = true) → DataW.TrodAll enc P W' 0 sp' true ts vs ds ps
  | [], vs, ds, ps, _, h, _, _ => by
    obtain ⟨rfl, rfl, rfl⟩ := trodAll_nil h
    rfl
  | t :: ts, vs, ds, ps, ht, h, hs, hsp => by
    obtain ⟨v, vs1, d, ds1, p, q, rfl, rfl, rfl, h1, h2⟩ := trodAll_cons h
    refine ⟨p, q, WideElems.Trod_stays hl (ht t (List.mem_cons_self ..)).1 (ht t (List.mem_cons_self ..)).2 h1 (fun x hx => hs x (List.mem_append_left _ hx)) (fun x hx => hsp x (List.mem_append_left _ hx)), ?_, rfl⟩
    exact zfA hl (fun t' h' => ht t' (List.mem_cons_of_mem _ h')) h2 (fun x hx => hs x (List.mem_append_right _ hx)) (fun x hx => hsp x (List.mem_append_right _ hx))
theorem zqw {H : Type} {enc : TypeId × Value → H} {P : Program} {f : Func} {s : ChangeSpec} {W W' : World} {args : Array Value} {ds gs : List (DataW H)} {before : List MemPlace} {tb : TypeId}
    (hl : laidOutB P = true) (hp : ∀ t ∈ f.params.toList, P.readableRec t = true ∧ t < P.types.size) (hr : f.resultTypes = #[tb]) (hb : P.underlying tb = some .bool) (hv : s.vars = [])
    (hW : DataW.Whole enc P f.params.toList s.vars false W args.toList ds gs before) (hs : s.fn H (ds ++ gs) = { results := [.lit (.bool true)], args := ds })
    (hB : RowKit.Below W.heap.size W W') : s.post enc P f false true false false W args (.bool true) W' := by
  obtain ⟨p, q, hA, hV, rfl, hz, hn⟩ := id hW
  have hV' := hV
  rw [hv] at hV'
  obtain ⟨rfl, rfl⟩ := trodVars_none hV'
  refine ⟨ds, [], p ++ [], [], p, [], hW, ?_, ?_, ?_, hB.frame _, fun h => by cases h⟩
  · rw [hs, hr]
    exact trodAll_mk1 (RowKit.shut_bool hb true)
  · rw [hs]
    exact zfA hl hp hA (fun x hx => hB.same (hA.lt x hx)) (fun x hx => by simpa using hA.lt x hx)
  · rw [hs, hv]
    rfl
theorem zr6 (w : World) : zJ Kb (fun _ => Loc.none none) ([] : List (Blk E)) w :=
  ⟨fun id => by simp [zh, yH], fun i j b o l c b' o' l' c' _ h => by simp [zh, yh] at h, fun id b o l c h => by simp [zh, vh] at h⟩
theorem zqQ {P : Program} {f : FuncId} {s : zA E} {W : World} {args : Array Value} {x : HL E.T s.inn.holes} {y : s.go.G} (hs : Yr P (fun b => b = 0) W f s) (h0 : 0 < W.heap.size)
    (hi : (ya id s.inn (HL.toP s.inn.holes x)).2 = []) (hrep : RL (Rp E Kb (fun _ => Loc.none none) ([] : List (Blk E)) W) (ya id s.inn (HL.toP s.inn.holes x)).1 args.toList) (hy : s.F (s.gi.of x) = some y)
    (ho : (ya id s.out (HL.toP s.out.holes (s.go.to y))).1 = [.v .bool true]) :
    Calls P f args W fun e W' => e = .returned (.bool true) ∧ RowKit.Below W.heap.size W W' := by
  have hS := hs Kb (fun _ => Loc.none none) W args x y ⟨fun b hb => by unfold Kb at hb; omega, fun g hg => by subst hg; exact ⟨by unfold Kb; omega, rfl⟩, fun b hb => hb⟩ (by rw [hi]; exact zr6 W) (by rw [hi]; exact hrep) hy
  refine hS.mono ?_
  rintro e W' ⟨vs, A1, μ1, rfl, oc⟩
  have hrep := oc.rep
  rw [ho] at hrep
  obtain ⟨h1, h2⟩ := hrep
  obtain ⟨v, rfl⟩ : ∃ v, vs = [v] := by
    match vs, h1 with
    | [v], _ => exact ⟨v, rfl⟩
  have hv := h2 0 _ v rfl rfl
  cases hv with
  | v _ _ _ h =>
  cases h
  have hadv := oc.adv
  rw [hi] at hadv
  refine ⟨rfl, hadv.os, hadv.tape, hadv.output, hadv.size, fun k hk => hadv.block k hk ?_⟩
  rintro ⟨id, o, n, c, h, _⟩
  simp [zh, yh] at h
end Go.Pe
namespace Go.Pe.G
open Go.Pe Go.ChangeShapes Go.WideShapes Go.Proofs Go.Proofs.YtofljjggmmcgjaaGreatDoor
theorem own0 : ownKnob Tryz.prog.godebug = none := by kernel_rfl
theorem zts : Tryz.prog.globalNamed "math/bits.deBruijn64tab" = some 0 := by kernel_rfl
theorem ztt : (Tryz.prog.globals[0]?).map (·.type) = some 261 := by kernel_rfl
theorem zrQ : laidOutB Tryz.prog = true := by kernel_rfl
abbrev zih : List (String × DataW Unit) := [("math/bits.deBruijn64tab", Rows.laid_math_bits_deBruijn64tab)]
theorem zqP (os : Os) (args : Array Value) : laidMetH Tryz.prog zih ((World.doorLaid Tryz.prog 400 os).forCall (fun _ _ => 0) ⟨#[], args, []⟩).memory :=
  laidMetH_of_parts3 (fuel := 8) (laidMet_of_run' 8 (by kernel_rfl) (by kernel_rfl)) (by kernel_rfl) (by kernel_rfl)
end Go.Pe.G
namespace Go.Pe.G
open Go.Pe Go.ChangeShapes Go.WideShapes Go.Proofs Go.Proofs.YtofljjggmmcgjaaGreatDoor
theorem zr1 : (Rows.laid_math_bits_deBruijn64tab : DataW Unit) = .agg (Go.Lib.deBruijn64tab.map fun n => .lit (.int .u8 ((n : Nat) : Int))) := by kernel_rfl
theorem zrs {W : World} (h : laidMetH Tryz.prog zih W) : TabAt 0 Go.Lib.deBruijn64tab W := by
  rw [MakeChecks.laidMetH_plain _ _ _ (by kernel_rfl)] at h
  obtain ⟨ps, ⟨g0, t0, cs0, f0, p0, q0, hg0, ht0, hv0, hd0, _⟩, _⟩ := h
  obtain rfl := Option.some.inj (zts.symm.trans hg0)
  obtain rfl := Option.some.inj (ztt.symm.trans ht0)
  obtain ⟨xs, m, rfl, hx, hlen, hn, hel⟩ := DataW.trod_array Tryz.underlying261 hd0
  have c5 : Tryz.prog.cellsOf 5 = 1 := by kernel_rfl
  rw [zr1] at hx
  simp only [Prod.mk.injEq, DataW.agg.injEq] at hx
  intro j hj
  have hj : j < 64 := hj
  have hjx : j < xs.length := by omega
  have h1 := hel j hj
  rw [List.getElem?_eq_getElem hjx] at h1
  obtain ⟨k, e1, e2, _⟩ := DataW.trod_int Tryz.underlying5 h1
  have e3 : (xs.map (·.1))[j]? = some (.lit (.int .u8 k)) := by
    rw [List.getElem?_map, List.getElem?_eq_getElem hjx, Option.map_some, e2]
  rw [← hx.1, List.getElem?_map] at e3
  have e4 : Go.Lib.deBruijn64tab[j]? = some (Go.Lib.deBruijn64tab.getD j 0) := by
    rw [List.getD_eq_getElem?_getD, List.getElem?_eq_getElem (by exact hj)]; rfl
  rw [e4] at e3
  simp only [Option.map_some, Option.some.injEq, DataW.lit.injEq, Lit.int.injEq, true_and] at e3
  have := World.var?_cell hg0 hv0 j
  rw [c5, Nat.mul_one] at e1
  have e5 : cs0[j]? = some (.int .u8 k) := by
    rw [← Array.getElem?_toList]
    have := congrArg (fun l => l[0]?) e1
    simpa using this
  rw [e5] at this
  rw [← e3] at this
  simpa using this
theorem zns {W : World} (h : TabAt 0 Go.Lib.deBruijn64tab W) : 0 < W.heap.size := by
  have h0 := h 0 (by decide)
  rcases Nat.eq_zero_or_pos W.heap.size with h1 | h1
  · have : W.heap[0]? = none := by rw [Array.getElem?_eq_none_iff]; omega
    simp [World.cell?, this] at h0
  · exact h1
theorem zlY {H : Type} {enc : TypeId × Value → H} {W : World} {A : Nat → Prop} {b0 : Nat} {r : Reach} {v : Value} {d : DataW H} {ps : List MemPlace}
    (hval : Value.okWide Tryz.prog W r b0 24 v) (hd : DataW.Trod enc Tryz.prog W 0 (fun _ => true) true 24 v d ps) : ∃ g : zo, zX E W A (.named 0) v g := by
  obtain ⟨cs, rfl, hsz⟩ := okWide_struct Tryz.underlying24 hval
  obtain ⟨fuel, hf⟩ := hd
  obtain ⟨xs, n, _, _, hl, hlen, hfs⟩ := DataW.trod_struct Tryz.underlying24 hf
  have c24 : Tryz.prog.cellsOf 24 = 3 := by kernel_rfl
  have c5 : Tryz.prog.cellsOf 5 = 1 := by kernel_rfl
  have hsz : cs.size = 3 := by rw [hsz, c24]
  obtain ⟨c0, c1, c2, rfl⟩ : ∃ c0 c1 c2, cs = #[c0, c1, c2] := by
    obtain ⟨l⟩ := cs
    match l, hsz with
    | [c0, c1, c2], _ => exact ⟨c0, c1, c2, rfl⟩
  match xs, hlen with
  | [y0, y1, y2], _ =>
  have g0 : DataW.trod enc Tryz.prog W 0 (fun _ => true) true n 5 (([c0, c1, c2].drop 0).take (Tryz.prog.cellsOf 5)) = some y0 := hfs 0 _ rfl
  have g1 : DataW.trod enc Tryz.prog W 0 (fun _ => true) true n 5 (([c0, c1, c2].drop 1).take (Tryz.prog.cellsOf 5)) = some y1 := hfs 1 _ rfl
  have g2 : DataW.trod enc Tryz.prog W 0 (fun _ => true) true n 5 (([c0, c1, c2].drop 2).take (Tryz.prog.cellsOf 5)) = some y2 := hfs 2 _ rfl
  rw [c5] at g0 g1 g2
  obtain ⟨z0, v0, e0, r0⟩ := zix (A := A) Tryz.underlying5 g0
  obtain ⟨z1, v1, e1, r1⟩ := zix (A := A) Tryz.underlying5 g1
  obtain ⟨z2, v2, e2, r2⟩ := zix (A := A) Tryz.underlying5 g2
  simp at e0 e1 e2
  subst e0; subst e1; subst e2
  refine ⟨⟨z0, z1, z2⟩, .named 0 _ _ rfl ?_⟩
  intro i hi
  match i, hi with
  | 0, _ => exact r0
  | 1, _ => exact r1
  | 2, _ => exact r2
end Go.Pe.G
namespace Go.Pe.G
open Go.Pe Go.ChangeShapes Go.WideShapes Go.Proofs Go.Proofs.YtofljjggmmcgjaaGreatDoor
theorem ztw : Tryz.prog.readableRec 22 = true ∧ 22 < Tryz.prog.types.size := ⟨by kernel_rfl, Nat.le_of_ble_eq_true (by kernel_rfl)⟩
theorem ztr : Tryz.prog.readableRec 24 = true ∧ 24 < Tryz.prog.types.size := ⟨by kernel_rfl, Nat.le_of_ble_eq_true (by kernel_rfl)⟩
theorem okP (t : TypeId) (h : t = 22 ∨ t = 24) : Tryz.prog.readableRec t = true ∧ t < Tryz.prog.types.size := by
  rcases h with rfl | rfl
  · exact ztw
  · exact ztr
theorem zoJ (hq : ∀ a0 a1 a2 a3, wu a0 a1 a2 a3 = some (true, ())) (os : Os) (started : os.Started) (H : Type) (enc : TypeId × Value → H) :
    ReturnsInHanded {} Tryz.checked os 6 .any (fun w args => (Rows.greyPlaceSpec.pre enc Tryz.prog Tryz.f6 [] false w args ∧ laidMetH Tryz.prog zih w) ∧ sizedMet enc Tryz.prog Tryz.f6 (OpenSpec.ofChange Rows.greyPlaceSpec) false w args)
      (Rows.greyPlaceSpec.post enc Tryz.prog Tryz.f6 false true false false) := by
  refine returnsInHanded_of_change_and (C := Tryz.checked) (X := fun w _ => laidMetH Tryz.prog zih w) (fun _ _ _ hh h => h.of_heap hh) own0 started (by kernel_rfl) Tryz.func6
    (ChangeSpec.witness_shaped (enc := enc) (C := Tryz.checked) (os := os) (X := fun w _ => laidMetH Tryz.prog zih w) false (World.doorLaid Tryz.prog 400 os) #[.slice none 0 0, .agg #[.int .u8 0, .int .u8 0, .int .u8 0], .agg #[.int .u8 0, .int .u8 0, .int .u8 0], .slice none 0 0] 8 rfl (World.shaped_of_RefB (by kernel_rfl) (by kernel_rfl)) (by kernel_rfl) (by kernel_rfl) (by kernel_rfl) (zqP os _)) ?_
  intro W base args ds gs before hval0 hW _ _ hL _
  have hval : ∀ (j : Nat) t v, Tryz.f6.params[j]? = some t → args[j]? = some v → Value.okWide Tryz.prog W .any base t v := hval0
  have hT := zrs hL
  have hW' := hW
  obtain ⟨p, q, hA0, hV, rfl, hfz, hnd⟩ := hW'
  have hA : DataW.TrodAll enc Tryz.prog W 0 (fun _ => true) true Tryz.f6.params.toList args.toList ds p := hA0
  rw [Tryz.params6] at hA hval
  obtain ⟨v0, v1, v2, v3, d0, d1, d2, d3, p0, p1, p2, p3, rfl, rfl, rfl, h0, h1, h2, h3⟩ := RowKit.trodAll_four hA
  obtain ⟨rfl, rfl⟩ := trodVars_none hV
  have hno : ∀ b, ¬ Av Kb (fun _ => Loc.none none) ([] : List (Blk E)) b := zrC _
  obtain ⟨z0, r0⟩ := zk0 (E := E) hno Tryz.underlying22 Tryz.underlying5 (by kernel_rfl) (hval 0 22 v0 rfl rfl) h0
  obtain ⟨z1, r1⟩ := zlY (A := Av Kb (fun _ => Loc.none none) ([] : List (Blk E))) (hval 1 24 v1 rfl rfl) h1
  obtain ⟨z2, r2⟩ := zlY (A := Av Kb (fun _ => Loc.none none) ([] : List (Blk E))) (hval 2 24 v2 rfl rfl) h2
  obtain ⟨z3, r3⟩ := zk0 (E := E) hno Tryz.underlying22 Tryz.underlying5 (by kernel_rfl) (hval 3 22 v3 rfl rfl) h3
  refine (zqQ (s := ZJ) (x := (z0, z1, z2, z3, ())) (y := (true, ())) (UL (W0 := W) ⟨rfl, hT⟩) (zns hT) rfl (RL.cons (.v _ _ _ r0) (RL.cons (.v _ _ _ r1) (RL.cons (.v _ _ _ r2) (RL.cons (.v _ _ _ r3) RL.nil)))) (hq z0 z1 z2 z3) rfl).mono ?_
  rintro e W' ⟨rfl, hB⟩
  exact ⟨_, rfl, zqw (P := Tryz.prog) zrQ (by rw [Tryz.params6]; intro t ht; exact okP t (by simp at ht; first | exact ht | (rcases ht with rfl | rfl | rfl | rfl <;> simp))) rfl Tryz.underlying4 rfl hW rfl hB⟩
theorem zs2 : (Rows.greyPlaceRow.wf (OpenSpec.ofChange Rows.greyPlaceSpec)) = true := by kernel_rfl
theorem zsZ : (laidOutB Tryz.prog) = true := by kernel_rfl
theorem zta : (mapsRowed Tryz.prog) = true := by kernel_rfl
theorem zti : (Tryz.f6.params.all (Tryz.prog.readableRec ·)) = true := by kernel_rfl
theorem ztc : (namedTie Tryz.prog Rows.greyPlaceRow.named Rows.greyPlaceSpec.vars) = true := by kernel_rfl
theorem zs5 : ((Rows.greyPlaceRow.stops == [])) = true := by kernel_rfl
theorem ztb : ((Tryz.prog.stops == [])) = true := by kernel_rfl
theorem zs4 : ((Rows.greyPlaceRow.knobs == [])) = true := by kernel_rfl
theorem zth : ((Tryz.prog.stopKnobs == [])) = true := by kernel_rfl
theorem zs1 : ((Rows.greyPlaceRow.inPlace == Tryz.prog.inPlace 6)) = true := by kernel_rfl
theorem zsl : ((Rows.greyPlaceRow.unfollowed == Tryz.prog.unfollowed 6)) = true := by kernel_rfl
theorem zsE : ((Rows.greyPlaceRow.recurses == Tryz.prog.recurses 6)) = true := by kernel_rfl
theorem zso : ((Rows.greyPlaceRow.named == Tryz.prog.varsNamed 6)) = true := by kernel_rfl
theorem zsH : ((Rows.greyPlaceRow.maps == (Tryz.f6.params.toList ++ Rows.greyPlaceSpec.plain.varTypes Tryz.prog).any (Tryz.prog.mapsRec ·))) = true := by kernel_rfl
theorem zsj : ((Rows.greyPlaceRow.ifaces == (Tryz.f6.params.toList ++ Rows.greyPlaceSpec.plain.varTypes Tryz.prog).any (Tryz.prog.ifacesRec ·))) = true := by kernel_rfl
theorem zsb : ((Rows.greyPlaceRow.mapsOut == Tryz.prog.mapsAmong Tryz.f6.resultTypes.toList)) = true := by kernel_rfl
theorem zsJ : ((Rows.greyPlaceRow.loops == (Tryz.f6.params.toList ++ Rows.greyPlaceSpec.plain.varTypes Tryz.prog).any (Tryz.prog.loopsFrom ·))) = true := by kernel_rfl
theorem zsL : ((Rows.greyPlaceRow.wideKeys == (Tryz.f6.params.toList ++ Rows.greyPlaceSpec.plain.varTypes Tryz.prog ++ Tryz.f6.resultTypes.toList).any (Tryz.prog.wideKeysFrom ·))) = true := by kernel_rfl
theorem zsd : (Rows.greyPlaceSpec.vars.all (Tryz.prog.varReadable ·)) = true := by kernel_rfl
theorem zsF : (Tryz.f6.resultTypes.all (fun t => Tryz.prog.readableRec t && decide (t < Tryz.prog.types.size))) = true := by kernel_rfl
theorem zsz : ((Rows.greyPlaceRow.ifacesOut == Tryz.f6.resultTypes.toList.any (Tryz.prog.ifacesRec ·))) = true := by kernel_rfl
theorem zsn : ((Rows.greyPlaceRow.loopsOut == Tryz.f6.resultTypes.toList.any (Tryz.prog.loopsFrom ·))) = true := by kernel_rfl
theorem zss : ((Rows.greyPlaceRow.plainKeys == Tryz.prog.plainKeys)) = true := by kernel_rfl
theorem zsr : (Rows.greyPlaceRow.shortTexts.isNone) = true := by kernel_rfl
theorem zsq : (Tryz.prog.stopsHeard) = true := by kernel_rfl
theorem zsD : (Tryz.prog.mayEnter) = true := by kernel_rfl
theorem zsG : ((Rows.greyPlaceRow.lifted == Tryz.prog.liftsFinal)) = true := by kernel_rfl
theorem zsK : ((Tryz.prog.make == some Rows.greyPlaceRow.make)) = true := by kernel_rfl
theorem zsC : ((Rows.greyPlaceRow.kinds == (if Rows.greyPlaceRow.domain.isEmpty then [] else Tryz.f6.params.toList.map fun t => match Tryz.prog.underlying t with | some (.int k) => some k | _ => none))) = true := by kernel_rfl
theorem zsI : ((Rows.greyPlaceRow.pinned == Rows.greyPlaceRow.pinnedBy)) = true := by kernel_rfl
theorem zsu : ((Rows.greyPlaceRow.veiled == (Tryz.f6.params.toList ++ Rows.greyPlaceSpec.plain.varTypes Tryz.prog ++ Tryz.f6.resultTypes.toList).any (Tryz.prog.veiledRec ·))) = true := by kernel_rfl
theorem zsf : (Rows.greyPlaceRow.veiledFits Tryz.prog Tryz.f6.params.toList (Tryz.f6.params.toList ++ Rows.greyPlaceSpec.plain.varTypes Tryz.prog ++ Tryz.f6.resultTypes.toList)) = true := by kernel_rfl
theorem zsT : joinedFacts Tryz.prog 6 Tryz.f6 Rows.greyPlaceSpec Rows.greyPlaceRow = true := by
  unfold joinedFacts
  simp only [Bool.and_eq_true]
  exact ⟨⟨⟨⟨⟨⟨⟨⟨⟨⟨⟨⟨⟨⟨⟨⟨⟨⟨⟨⟨⟨⟨⟨⟨⟨⟨⟨⟨⟨⟨⟨zs2, zsZ⟩, zta⟩, zti⟩, ztc⟩, zs5⟩, ztb⟩, zs4⟩, zth⟩, zs1⟩, zsl⟩, zsE⟩, zso⟩, zsH⟩, zsj⟩, zsb⟩, zsJ⟩, zsL⟩, zsd⟩, zsF⟩, zsz⟩, zsn⟩, zss⟩, zsr⟩, zsq⟩, zsD⟩, zsG⟩, zsK⟩, zsC⟩, zsI⟩, zsu⟩, zsf⟩
theorem zpe : Tryz.prog.funcNamed "besom/besomlaw14.GreyPlace" = some 6 := by kernel_rfl
theorem zsR : Rows.greyPlaceRow.wfByText (OpenSpec.ofChange Rows.greyPlaceSpec) = true := by kernel_rfl
theorem ztf : Tryz.prog.mainIs = some (true, "800f1f59b3e4b8d9cad0cd498b0d3411608c99fbe7a2f233265e51c93b54455c".toList) := by kernel_rfl
theorem ztd : false = Tryz.prog.looks [] := by kernel_rfl
theorem zsV : ([22, 24, 24, 22].all fun u => !Tryz.prog.wantsStandIn u) = true := by kernel_rfl
theorem ztj : false = Rows.greyPlaceRow.goesBy Tryz.prog := by kernel_rfl
theorem zpz (hq : ∀ a0 a1 a2 a3, wu a0 a1 a2 a3 = some (true, ())) : Rows.GreyPlaceSaid :=
  OpenClaim.holds_of_wide 6 Tryz.f6 rfl rfl rfl rfl rfl rfl rfl ⟨rfl, rfl, rfl, rfl, rfl⟩ rfl rfl rfl rfl rfl zpe Tryz.func6 zsT
    (of_decide_eq_true (by as_aux_lemma => kernel_rfl)) (by unfold Func.isWrapper; first | (rw [if_pos (by decide +kernel)]; kernel_rfl) | (rw [if_neg (by decide +kernel)]; exact ⟨rfl, rfl⟩))
    (fun os started H enc _ => zoJ hq os started H enc)
theorem card_holds (hq : ∀ a0 a1 a2 a3, wu a0 a1 a2 a3 = some (true, ())) : Rows.GreyPlaceCardSaid :=
  Claim7.holds_tied_plain_at .later [] [.data] true (true, "800f1f59b3e4b8d9cad0cd498b0d3411608c99fbe7a2f233265e51c93b54455c") false
    (zpz hq) (fun _ h => by cases h) zsR (fun _ h => by cases h) greyPlace_row_tie rfl ⟨rfl, rfl⟩ ztf rfl
    (fun f fn hf hfn => by
      obtain rfl : f = 6 := Option.some.inj (zpe.symm.trans hf) |>.symm
      obtain rfl : fn = Tryz.f6 := (Option.some.inj (Tryz.func6.symm.trans hfn)).symm
      exact ⟨ztd, fun j t ht => by
        rw [Tryz.params6] at ht
        have hm : t ∈ [22, 24, 24, 22] := by simpa using Array.mem_of_getElem? ht
        have hall := zsV
        exact (show Tryz.prog.wantsStandIn t = false by simpa using List.all_eq_true.1 hall t hm)⟩)
    ztj
end Go.Pe.G
