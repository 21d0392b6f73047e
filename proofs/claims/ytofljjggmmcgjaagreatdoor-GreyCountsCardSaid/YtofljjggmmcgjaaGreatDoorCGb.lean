/- Own work of this seat: G2i, GH, G3. -/
import Derived.Test.YtofljjggmmcgjaaGreatDoorCGa
set_option linter.unusedVariables false
set_option linter.unusedSectionVars false
set_option linter.unusedSimpArgs false
set_option linter.unnecessarySimpa false
set_option linter.deprecated false
set_option maxRecDepth 100000
namespace Go.Pe.G
open Go.Pe
theorem fn114 : Go.Proofs.Tryz.prog.funcs[114]? = some Go.Proofs.Tryz.f114 := by kernel_rfl
theorem body114 : Go.Proofs.Tryz.f114.body.isSome = true := by kernel_rfl
theorem call114 : callable Go.Proofs.Tryz.prog 114 = true := by kernel_rfl
theorem fn159 : Go.Proofs.Tryz.prog.funcs[159]? = some Go.Proofs.Tryz.f159 := by kernel_rfl
theorem body159 : Go.Proofs.Tryz.f159.body.isSome = true := by kernel_rfl
theorem call159 : callable Go.Proofs.Tryz.prog 159 = true := by kernel_rfl
theorem i_set_eachF1_r0_eq (ys : List Int) (s1 : Int) (s2 : Int) (s3 : BitVec 64) : i_set_eachF1_r0 ys (s1, s2, s3, ()) =
  bif !(decide (s3 = 0#64)) then
    (qTZ s3).bind fun (y1 : Int × Unit) =>
    (isNext ys s2 (w64 (y1.1 + 1))).bind fun _ =>
    some (.again (s1, s2 + 1, s3 &&& (s3 - 1#64), ()))
  else
    some (.brk (s1, s2, ())) := by kernel_rfl
theorem i_set_eachF1_eq (n : Int) (ys : List Int) (a1 : BitVec 64) : iterOf (i_set_eachF1_c ys) Go.Proofs.Tryz.f159 i_set_eachF1_i n ((a1, ()) : (BitVec 64) × Unit) =
  (loopF (i_set_eachF1_r0 ys) (n, 0, a1, ())).bind fun st => match st with
    | .again _ => none
    | .brk (y1 : Int × Int × Unit) =>
      some y1.2.1
    | .ret (y1 : Int × Int × Unit) =>
      some y1.2.1 := by kernel_rfl
theorem i_slices_Chunk_Lint_int_F1_r1_eq (ys : List (List Int)) (s1 : Int) (s2 : Int) (s3 : Int) (s4 : List Int) (s5 : Int) : i_slices_Chunk_Lint_int_F1_r1 ys (s1, s2, s3, s4, s5, ()) =
  bif decide (s3 < ((s4.length : Int))) then
    (cut s4 s3 ((s4.length : Int))).bind fun l1 =>
    bif decide (s3 = 0) && decide ((w64 (s3 + (bif decide (((l1.length : Int)) < s5) then ((l1.length : Int)) else s5))) = 0) && decide ((w64 (s3 + (bif decide (((l1.length : Int)) < s5) then ((l1.length : Int)) else s5))) = 0) then
      (isNext ys s2 ([] : List Int)).bind fun _ =>
      some (.again (s1, s2 + 1, w64 (s3 + s5), s4, s5, ()))
    else
      bif decide (s3 = 0) && decide ((w64 (s3 + (bif decide (((l1.length : Int)) < s5) then ((l1.length : Int)) else s5))) = ((s4.length : Int))) && decide ((w64 (s3 + (bif decide (((l1.length : Int)) < s5) then ((l1.length : Int)) else s5))) = ((s4.length : Int))) then
        (isNext ys s2 s4).bind fun _ =>
        some (.again (s1, s2 + 1, w64 (s3 + s5), s4, s5, ()))
      else
        bif decide ((w64 (s3 + (bif decide (((l1.length : Int)) < s5) then ((l1.length : Int)) else s5))) = (w64 (s3 + (bif decide (((l1.length : Int)) < s5) then ((l1.length : Int)) else s5)))) then
          (cut s4 s3 (w64 (s3 + (bif decide (((l1.length : Int)) < s5) then ((l1.length : Int)) else s5)))).bind fun l2 =>
          (isNext ys s2 l2).bind fun _ =>
          some (.again (s1, s2 + 1, w64 (s3 + s5), s4, s5, ()))
        else
          none
  else
    some (.brk (s1, s2, ())) := by kernel_rfl
theorem i_slices_Chunk_Lint_int_F1_eq (n : Int) (ys : List (List Int)) (a1 : List Int) (a2 : Int) : iterOf (i_slices_Chunk_Lint_int_F1_c ys) Go.Proofs.Tryz.f114 i_slices_Chunk_Lint_int_F1_i n ((a1, a2, ()) : (List Int) × Int × Unit) =
  (loopF (i_slices_Chunk_Lint_int_F1_r1 ys) (n, 0, 0, a1, a2, ())).bind fun st => match st with
    | .again _ => none
    | .brk (y1 : Int × Int × Unit) =>
      some y1.2.1
    | .ret (y1 : Int × Int × Unit) =>
      some y1.2.1 := by kernel_rfl
end Go.Pe.G
namespace Go.Pe.G
open Go.Pe

theorem iter_mono {A B D : Type} (g : A → Option (Stop A B D)) {o : Stop Unit B D} : ∀ (k m : Nat) (x : A), iter g k x = some o → k ≤ m → iter g m x = some o
  | 0, m, x, h, _ => by cases h
  | k + 1, 0, x, h, hm => by omega
  | k + 1, m + 1, x, h, hm => by
    simp only [iter, Option.bind_eq_some_iff] at h ⊢
    obtain ⟨s, h1, h2⟩ := h
    refine ⟨s, h1, ?_⟩
    cases s with
    | again y => exact iter_mono g k m y h2 (by omega)
    | brk b => exact h2
    | ret c => exact h2

theorem isNext_at {α : Type} (pre post : List α) (z : α) : isNext (pre ++ z :: post) (pre.length : Int) z = some () := by
  unfold isNext
  rw [if_pos]
  refine ⟨by omega, ?_⟩
  simp

theorem i_set_eachF1_loop (n : Int) (ys : List Int) : ∀ (f : Nat) (s : BitVec 64) (l pre : List Int), bitsAsc f s = some l → ys = pre ++ l → iter (i_set_eachF1_r0 ys) f (n, (pre.length : Int), s, ()) = some (.brk (n, (ys.length : Int), ()))
  | 0, s, l, pre, h, _ => by cases h
  | f + 1, s, l, pre, h, e => by
    simp only [bitsAsc] at h
    simp only [iter, i_set_eachF1_r0_eq]
    cases hz : decide (s = 0#64) with
    | true =>
      simp only [hz, cond_true, Option.some.injEq] at h
      subst h
      simp only [List.append_nil] at e
      subst e
      rfl
    | false =>
      simp only [hz, cond_false, Option.map_eq_some_iff] at h
      obtain ⟨l', h1, rfl⟩ := h
      have hn : isNext ys (pre.length : Int) (w64 (tz s + 1)) = some () := by rw [e]; exact isNext_at pre l' _
      simp only [Bool.not_false, cond_true, qTZ_eq, Option.bind_some, hn]
      have := i_set_eachF1_loop n ys f (s &&& (s - 1#64)) l' (pre ++ [w64 (tz s + 1)]) h1 (by rw [e]; simp)
      simpa using this

theorem i_set_eachF1_ok0 (G : Nat → Prop) (W0 : World) (hG : Glob G W0) : IterOk Go.Proofs.Tryz.prog G W0 159 i_set_eachF1 := by
  obtain ⟨c, hc⟩ := Option.isSome_iff_exists.1 body159
  refine iter_sound (Cg := i_set_eachF1_c []) rfl tab_ok (fun f s hs => Oks.at (.cons _ _ _ _ call160 (pTZ_sound G W0 hG) (.skip _ _ .nil)) f s hs) rfl mixed (fun g it h => by cases h) call159 fn159 hc i_set_eachF1 (Nat.le_of_ble_eq_true (by kernel_rfl)) rfl ?_
  rintro n ⟨a, ⟨⟩⟩ ys h
  have h : bitsAsc 66 a = some ys := h
  have e := i_set_eachF1_eq n ys a
  have k := iter_mono _ 66 rounds _ (i_set_eachF1_loop n ys 66 a ys [] h rfl) (by decide)
  refine Eq.trans e ?_
  have k' : iter (i_set_eachF1_r0 ys) rounds (n, 0, a, ()) = some (.brk (n, (ys.length : Int), ())) := k
  rw [loopF_eq, k']
  rfl

theorem w64_id {a : Int} (h : -9223372036854775808 ≤ a) (h2 : a < 9223372036854775808) : w64 a = a := by
  rw [w64_def]
  omega

theorem i_slices_Chunk_Lint_int_F1_loop (n : Int) (ys : List (List Int)) (l : List Int) (sz : Nat) (h1 : 1 ≤ sz) (h2 : sz < 1000000) (h3 : l.length < 1000000) : ∀ (f p : Nat) (pre : List (List Int)), (l.drop p).length ≤ f → ys = pre ++ chunks sz f (l.drop p) → p < 2000000 →
    iter (i_slices_Chunk_Lint_int_F1_r1 ys) (f + 1) (n, (pre.length : Int), (p : Int), l, (sz : Int), ()) = some (.brk (n, (ys.length : Int), ())) := by
  intro f
  induction f with
  | zero =>
    intro p pre hf e hp
    simp only [iter, i_slices_Chunk_Lint_int_F1_r1_eq]
    simp only [List.length_drop] at hf
    have : ¬ (p : Int) < (l.length : Int) := by omega
    simp only [this, decide_false, cond_false, Option.bind_some]
    simp only [chunks, List.append_nil] at e
    rw [e]
  | succ f ih =>
    intro p pre hf e hp
    rw [iter, i_slices_Chunk_Lint_int_F1_r1_eq]
    by_cases hlt : p < l.length
    · have hlt' : (p : Int) < (l.length : Int) := by omega
      have hcut : cut l (p : Int) (l.length : Int) = some (l.drop p) := by
        unfold cut
        have : (decide (0 ≤ (p : Int)) && decide ((p : Int) ≤ (l.length : Int)) && decide ((l.length : Int) ≤ (l.length : Int))) = true := by simp; omega
        simp only [this, cond_true]
        simp
      obtain ⟨x, r, hxr⟩ : ∃ x r, l.drop p = x :: r := by
        cases hd : l.drop p with
        | nil => have := congrArg List.length hd; simp at this; omega
        | cons x r => exact ⟨x, r, rfl⟩
      have hch : chunks sz (f + 1) (l.drop p) = (l.drop p).take sz :: chunks sz f (l.drop (p + sz)) := by
        rw [hxr]; simp only [chunks]; rw [← hxr, List.drop_drop]
      have hm : ∃ m : Nat, (bif decide (((l.drop p).length : Int) < (sz : Int)) then (((l.drop p).length : Int)) else (sz : Int)) = (m : Int) ∧ m = min sz (l.length - p) := by
        simp only [List.length_drop]
        by_cases hs : ((l.length - p : Nat) : Int) < (sz : Int)
        · exact ⟨l.length - p, by simp only [hs, decide_true, cond_true], by omega⟩
        · exact ⟨sz, by simp only [hs, decide_false, cond_false], by omega⟩
      obtain ⟨m, hm1, hm2⟩ := hm
      have hw : w64 ((p : Int) + (m : Int)) = ((p + m : Nat) : Int) := by rw [w64_id (by omega) (by omega)]; omega
      have hw2 : w64 ((p : Int) + (sz : Int)) = ((p + sz : Nat) : Int) := by rw [w64_id (by omega) (by omega)]; omega
      have hne : ¬ ((p + m : Nat) : Int) = 0 := by omega
      simp only [hlt', decide_true, cond_true, hcut, Option.bind_some, hm1, hw, hw2, hne, decide_false, Bool.and_false, cond_false]
      have hn : isNext ys (pre.length : Int) ((l.drop p).take sz) = some () := by rw [e, hch]; exact isNext_at pre _ _
      have hcut2 : cut l (p : Int) ((p + m : Nat) : Int) = some ((l.drop p).take sz) := by
        unfold cut
        have : (decide (0 ≤ (p : Int)) && decide ((p : Int) ≤ ((p + m : Nat) : Int)) && decide (((p + m : Nat) : Int) ≤ (l.length : Int))) = true := by simp; omega
        simp only [this, cond_true]
        refine congrArg some ?_
        simp only [Int.toNat_natCast]
        rw [List.drop_take, Nat.add_sub_cancel_left, hm2]
        by_cases hs : sz ≤ l.length - p
        · rw [Nat.min_eq_left hs]
        · rw [Nat.min_eq_right (by omega), List.take_of_length_le (l := l.drop p) (by simp), List.take_of_length_le (l := l.drop p) (by simp; omega)]
      have hnext := ih (p + sz) (pre ++ [(l.drop p).take sz]) (by simp only [List.length_drop] at hf ⊢; omega) (by rw [e, hch]; simp) (by omega)
      have hlen : ((pre ++ [(l.drop p).take sz]).length : Int) = (pre.length : Int) + 1 := by simp
      rw [hlen] at hnext
      cases hfull : (decide ((p : Int) = 0) && decide (((p + m : Nat) : Int) = (l.length : Int)) && decide (((p + m : Nat) : Int) = (l.length : Int))) with
      | true =>
        simp only [cond_true]
        have hl : l = (l.drop p).take sz := ?_
        · rw [← hl] at hn
          rw [hn]
          exact hnext
        simp only [Bool.and_eq_true, decide_eq_true_eq] at hfull
        obtain ⟨⟨hp0, hpl⟩, _⟩ := hfull
        have hp00 : p = 0 := by omega
        rw [hp00, List.drop_zero, List.take_of_length_le (by omega)]
      | false =>
        simp only [cond_false, hcut2, Option.bind_some, decide_true, cond_true]
        rw [hn]
        exact hnext
    · have hnl : ¬ (p : Int) < (l.length : Int) := by omega
      have hd : l.drop p = [] := List.drop_eq_nil_of_le (by omega)
      simp only [hnl, decide_false, cond_false, Option.bind_some]
      rw [hd] at e
      simp only [chunks, List.append_nil] at e
      rw [e]

theorem i_slices_Chunk_Lint_int_F1_run (n : Int) (ys : List (List Int)) (l : List Int) (sz : Int) (h : chunksOf l sz = some ys) : iter (i_slices_Chunk_Lint_int_F1_r1 ys) rounds (n, 0, 0, l, sz, ()) = some (.brk (n, (ys.length : Int), ())) := by
  unfold chunksOf at h
  cases hc : (decide (1 ≤ sz) && decide (sz < 1000000) && decide ((l.length : Int) < 1000000)) with
  | false => simp [hc] at h
  | true =>
    simp only [hc, cond_true] at h
    injection h with h
    simp only [Bool.and_eq_true, decide_eq_true_eq] at hc
    obtain ⟨⟨c1, c2⟩, c3⟩ := hc
    have k := iter_mono _ (l.length + 1) rounds _ (i_slices_Chunk_Lint_int_F1_loop n ys l sz.toNat (by omega) (by omega) (by omega) l.length 0 [] (by simp) (by simpa using h.symm) (by omega)) (by unfold rounds; omega)
    have hs : ((sz.toNat : Nat) : Int) = sz := by omega
    rw [hs] at k
    exact k

theorem i_slices_Chunk_Lint_int_F1_ok0 (G : Nat → Prop) (W0 : World) (hG : Glob G W0) : IterOk Go.Proofs.Tryz.prog G W0 114 i_slices_Chunk_Lint_int_F1 := by
  obtain ⟨c, hc⟩ := Option.isSome_iff_exists.1 body114
  refine iter_sound (Cg := i_slices_Chunk_Lint_int_F1_c []) rfl tab_ok (fun f s hs => Oks.at .nil f s hs) rfl mixed (fun g it h => by cases h) call114 fn114 hc i_slices_Chunk_Lint_int_F1 (Nat.le_of_ble_eq_true (by kernel_rfl)) rfl (fun n x ys h => ?_)
  refine Eq.trans (i_slices_Chunk_Lint_int_F1_eq n ys x.1 x.2.1) ?_
  rw [loopF_eq, i_slices_Chunk_Lint_int_F1_run n ys x.1 x.2.1 h]
  rfl
end Go.Pe.G
namespace Go.Pe.G
open Go.Pe
theorem fn4 : Go.Proofs.Tryz.prog.funcs[4]? = some Go.Proofs.Tryz.f4 := by kernel_rfl
theorem body4 : Go.Proofs.Tryz.f4.body.isSome = true := by kernel_rfl
theorem call4 : callable Go.Proofs.Tryz.prog 4 = true := by kernel_rfl
theorem fn8 : Go.Proofs.Tryz.prog.funcs[8]? = some Go.Proofs.Tryz.f8 := by kernel_rfl
theorem body8 : Go.Proofs.Tryz.f8.body.isSome = true := by kernel_rfl
theorem call8 : callable Go.Proofs.Tryz.prog 8 = true := by kernel_rfl
theorem fn9 : Go.Proofs.Tryz.prog.funcs[9]? = some Go.Proofs.Tryz.f9 := by kernel_rfl
theorem body9 : Go.Proofs.Tryz.f9.body.isSome = true := by kernel_rfl
theorem call9 : callable Go.Proofs.Tryz.prog 9 = true := by kernel_rfl
theorem fn10 : Go.Proofs.Tryz.prog.funcs[10]? = some Go.Proofs.Tryz.f10 := by kernel_rfl
theorem body10 : Go.Proofs.Tryz.f10.body.isSome = true := by kernel_rfl
theorem call10 : callable Go.Proofs.Tryz.prog 10 = true := by kernel_rfl
theorem fn11 : Go.Proofs.Tryz.prog.funcs[11]? = some Go.Proofs.Tryz.f11 := by kernel_rfl
theorem body11 : Go.Proofs.Tryz.f11.body.isSome = true := by kernel_rfl
theorem call11 : callable Go.Proofs.Tryz.prog 11 = true := by kernel_rfl
theorem fn12 : Go.Proofs.Tryz.prog.funcs[12]? = some Go.Proofs.Tryz.f12 := by kernel_rfl
theorem body12 : Go.Proofs.Tryz.f12.body.isSome = true := by kernel_rfl
theorem call12 : callable Go.Proofs.Tryz.prog 12 = true := by kernel_rfl
theorem fn15 : Go.Proofs.Tryz.prog.funcs[15]? = some Go.Proofs.Tryz.f15 := by kernel_rfl
theorem body15 : Go.Proofs.Tryz.f15.body.isSome = true := by kernel_rfl
theorem call15 : callable Go.Proofs.Tryz.prog 15 = true := by kernel_rfl
theorem fn18 : Go.Proofs.Tryz.prog.funcs[18]? = some Go.Proofs.Tryz.f18 := by kernel_rfl
theorem body18 : Go.Proofs.Tryz.f18.body.isSome = true := by kernel_rfl
theorem call18 : callable Go.Proofs.Tryz.prog 18 = true := by kernel_rfl
theorem fn20 : Go.Proofs.Tryz.prog.funcs[20]? = some Go.Proofs.Tryz.f20 := by kernel_rfl
theorem body20 : Go.Proofs.Tryz.f20.body.isSome = true := by kernel_rfl
theorem call20 : callable Go.Proofs.Tryz.prog 20 = true := by kernel_rfl
theorem fn22 : Go.Proofs.Tryz.prog.funcs[22]? = some Go.Proofs.Tryz.f22 := by kernel_rfl
theorem body22 : Go.Proofs.Tryz.f22.body.isSome = true := by kernel_rfl
theorem call22 : callable Go.Proofs.Tryz.prog 22 = true := by kernel_rfl
theorem fn25 : Go.Proofs.Tryz.prog.funcs[25]? = some Go.Proofs.Tryz.f25 := by kernel_rfl
theorem body25 : Go.Proofs.Tryz.f25.body.isSome = true := by kernel_rfl
theorem call25 : callable Go.Proofs.Tryz.prog 25 = true := by kernel_rfl
theorem fn26 : Go.Proofs.Tryz.prog.funcs[26]? = some Go.Proofs.Tryz.f26 := by kernel_rfl
theorem body26 : Go.Proofs.Tryz.f26.body.isSome = true := by kernel_rfl
theorem call26 : callable Go.Proofs.Tryz.prog 26 = true := by kernel_rfl
theorem fn27 : Go.Proofs.Tryz.prog.funcs[27]? = some Go.Proofs.Tryz.f27 := by kernel_rfl
theorem body27 : Go.Proofs.Tryz.f27.body.isSome = true := by kernel_rfl
theorem call27 : callable Go.Proofs.Tryz.prog 27 = true := by kernel_rfl
theorem fn28 : Go.Proofs.Tryz.prog.funcs[28]? = some Go.Proofs.Tryz.f28 := by kernel_rfl
theorem body28 : Go.Proofs.Tryz.f28.body.isSome = true := by kernel_rfl
theorem call28 : callable Go.Proofs.Tryz.prog 28 = true := by kernel_rfl
theorem fn29 : Go.Proofs.Tryz.prog.funcs[29]? = some Go.Proofs.Tryz.f29 := by kernel_rfl
theorem body29 : Go.Proofs.Tryz.f29.body.isSome = true := by kernel_rfl
theorem call29 : callable Go.Proofs.Tryz.prog 29 = true := by kernel_rfl
theorem fn33 : Go.Proofs.Tryz.prog.funcs[33]? = some Go.Proofs.Tryz.f33 := by kernel_rfl
theorem body33 : Go.Proofs.Tryz.f33.body.isSome = true := by kernel_rfl
theorem call33 : callable Go.Proofs.Tryz.prog 33 = true := by kernel_rfl
theorem fn34 : Go.Proofs.Tryz.prog.funcs[34]? = some Go.Proofs.Tryz.f34 := by kernel_rfl
theorem body34 : Go.Proofs.Tryz.f34.body.isSome = true := by kernel_rfl
theorem call34 : callable Go.Proofs.Tryz.prog 34 = true := by kernel_rfl
theorem fn35 : Go.Proofs.Tryz.prog.funcs[35]? = some Go.Proofs.Tryz.f35 := by kernel_rfl
theorem body35 : Go.Proofs.Tryz.f35.body.isSome = true := by kernel_rfl
theorem call35 : callable Go.Proofs.Tryz.prog 35 = true := by kernel_rfl
theorem fn36 : Go.Proofs.Tryz.prog.funcs[36]? = some Go.Proofs.Tryz.f36 := by kernel_rfl
theorem body36 : Go.Proofs.Tryz.f36.body.isSome = true := by kernel_rfl
theorem call36 : callable Go.Proofs.Tryz.prog 36 = true := by kernel_rfl
theorem fn39 : Go.Proofs.Tryz.prog.funcs[39]? = some Go.Proofs.Tryz.f39 := by kernel_rfl
theorem body39 : Go.Proofs.Tryz.f39.body.isSome = true := by kernel_rfl
theorem call39 : callable Go.Proofs.Tryz.prog 39 = true := by kernel_rfl
theorem fn40 : Go.Proofs.Tryz.prog.funcs[40]? = some Go.Proofs.Tryz.f40 := by kernel_rfl
theorem body40 : Go.Proofs.Tryz.f40.body.isSome = true := by kernel_rfl
theorem call40 : callable Go.Proofs.Tryz.prog 40 = true := by kernel_rfl
theorem fn41 : Go.Proofs.Tryz.prog.funcs[41]? = some Go.Proofs.Tryz.f41 := by kernel_rfl
theorem body41 : Go.Proofs.Tryz.f41.body.isSome = true := by kernel_rfl
theorem call41 : callable Go.Proofs.Tryz.prog 41 = true := by kernel_rfl
theorem fn42 : Go.Proofs.Tryz.prog.funcs[42]? = some Go.Proofs.Tryz.f42 := by kernel_rfl
theorem body42 : Go.Proofs.Tryz.f42.body.isSome = true := by kernel_rfl
theorem call42 : callable Go.Proofs.Tryz.prog 42 = true := by kernel_rfl
theorem fn43 : Go.Proofs.Tryz.prog.funcs[43]? = some Go.Proofs.Tryz.f43 := by kernel_rfl
theorem body43 : Go.Proofs.Tryz.f43.body.isSome = true := by kernel_rfl
theorem call43 : callable Go.Proofs.Tryz.prog 43 = true := by kernel_rfl
theorem fn44 : Go.Proofs.Tryz.prog.funcs[44]? = some Go.Proofs.Tryz.f44 := by kernel_rfl
theorem body44 : Go.Proofs.Tryz.f44.body.isSome = true := by kernel_rfl
theorem call44 : callable Go.Proofs.Tryz.prog 44 = true := by kernel_rfl
theorem fn45 : Go.Proofs.Tryz.prog.funcs[45]? = some Go.Proofs.Tryz.f45 := by kernel_rfl
theorem body45 : Go.Proofs.Tryz.f45.body.isSome = true := by kernel_rfl
theorem call45 : callable Go.Proofs.Tryz.prog 45 = true := by kernel_rfl
theorem fn46 : Go.Proofs.Tryz.prog.funcs[46]? = some Go.Proofs.Tryz.f46 := by kernel_rfl
theorem body46 : Go.Proofs.Tryz.f46.body.isSome = true := by kernel_rfl
theorem call46 : callable Go.Proofs.Tryz.prog 46 = true := by kernel_rfl
theorem fn47 : Go.Proofs.Tryz.prog.funcs[47]? = some Go.Proofs.Tryz.f47 := by kernel_rfl
theorem body47 : Go.Proofs.Tryz.f47.body.isSome = true := by kernel_rfl
theorem call47 : callable Go.Proofs.Tryz.prog 47 = true := by kernel_rfl
theorem fn48 : Go.Proofs.Tryz.prog.funcs[48]? = some Go.Proofs.Tryz.f48 := by kernel_rfl
theorem body48 : Go.Proofs.Tryz.f48.body.isSome = true := by kernel_rfl
theorem call48 : callable Go.Proofs.Tryz.prog 48 = true := by kernel_rfl
theorem fn49 : Go.Proofs.Tryz.prog.funcs[49]? = some Go.Proofs.Tryz.f49 := by kernel_rfl
theorem body49 : Go.Proofs.Tryz.f49.body.isSome = true := by kernel_rfl
theorem call49 : callable Go.Proofs.Tryz.prog 49 = true := by kernel_rfl
theorem fn50 : Go.Proofs.Tryz.prog.funcs[50]? = some Go.Proofs.Tryz.f50 := by kernel_rfl
theorem body50 : Go.Proofs.Tryz.f50.body.isSome = true := by kernel_rfl
theorem call50 : callable Go.Proofs.Tryz.prog 50 = true := by kernel_rfl
theorem fn51 : Go.Proofs.Tryz.prog.funcs[51]? = some Go.Proofs.Tryz.f51 := by kernel_rfl
theorem body51 : Go.Proofs.Tryz.f51.body.isSome = true := by kernel_rfl
theorem call51 : callable Go.Proofs.Tryz.prog 51 = true := by kernel_rfl
theorem fn52 : Go.Proofs.Tryz.prog.funcs[52]? = some Go.Proofs.Tryz.f52 := by kernel_rfl
theorem body52 : Go.Proofs.Tryz.f52.body.isSome = true := by kernel_rfl
theorem call52 : callable Go.Proofs.Tryz.prog 52 = true := by kernel_rfl
theorem fn53 : Go.Proofs.Tryz.prog.funcs[53]? = some Go.Proofs.Tryz.f53 := by kernel_rfl
theorem body53 : Go.Proofs.Tryz.f53.body.isSome = true := by kernel_rfl
theorem call53 : callable Go.Proofs.Tryz.prog 53 = true := by kernel_rfl
theorem fn62 : Go.Proofs.Tryz.prog.funcs[62]? = some Go.Proofs.Tryz.f62 := by kernel_rfl
theorem body62 : Go.Proofs.Tryz.f62.body.isSome = true := by kernel_rfl
theorem call62 : callable Go.Proofs.Tryz.prog 62 = true := by kernel_rfl
theorem fn63 : Go.Proofs.Tryz.prog.funcs[63]? = some Go.Proofs.Tryz.f63 := by kernel_rfl
theorem body63 : Go.Proofs.Tryz.f63.body.isSome = true := by kernel_rfl
theorem call63 : callable Go.Proofs.Tryz.prog 63 = true := by kernel_rfl
theorem fn64 : Go.Proofs.Tryz.prog.funcs[64]? = some Go.Proofs.Tryz.f64 := by kernel_rfl
theorem body64 : Go.Proofs.Tryz.f64.body.isSome = true := by kernel_rfl
theorem call64 : callable Go.Proofs.Tryz.prog 64 = true := by kernel_rfl
theorem fn65 : Go.Proofs.Tryz.prog.funcs[65]? = some Go.Proofs.Tryz.f65 := by kernel_rfl
theorem body65 : Go.Proofs.Tryz.f65.body.isSome = true := by kernel_rfl
theorem call65 : callable Go.Proofs.Tryz.prog 65 = true := by kernel_rfl
theorem fn66 : Go.Proofs.Tryz.prog.funcs[66]? = some Go.Proofs.Tryz.f66 := by kernel_rfl
theorem body66 : Go.Proofs.Tryz.f66.body.isSome = true := by kernel_rfl
theorem call66 : callable Go.Proofs.Tryz.prog 66 = true := by kernel_rfl
theorem fn67 : Go.Proofs.Tryz.prog.funcs[67]? = some Go.Proofs.Tryz.f67 := by kernel_rfl
theorem body67 : Go.Proofs.Tryz.f67.body.isSome = true := by kernel_rfl
theorem call67 : callable Go.Proofs.Tryz.prog 67 = true := by kernel_rfl
theorem fn68 : Go.Proofs.Tryz.prog.funcs[68]? = some Go.Proofs.Tryz.f68 := by kernel_rfl
theorem body68 : Go.Proofs.Tryz.f68.body.isSome = true := by kernel_rfl
theorem call68 : callable Go.Proofs.Tryz.prog 68 = true := by kernel_rfl
theorem fn69 : Go.Proofs.Tryz.prog.funcs[69]? = some Go.Proofs.Tryz.f69 := by kernel_rfl
theorem body69 : Go.Proofs.Tryz.f69.body.isSome = true := by kernel_rfl
theorem call69 : callable Go.Proofs.Tryz.prog 69 = true := by kernel_rfl
theorem fn82 : Go.Proofs.Tryz.prog.funcs[82]? = some Go.Proofs.Tryz.f82 := by kernel_rfl
theorem body82 : Go.Proofs.Tryz.f82.body.isSome = true := by kernel_rfl
theorem call82 : callable Go.Proofs.Tryz.prog 82 = true := by kernel_rfl
theorem fn83 : Go.Proofs.Tryz.prog.funcs[83]? = some Go.Proofs.Tryz.f83 := by kernel_rfl
theorem body83 : Go.Proofs.Tryz.f83.body.isSome = true := by kernel_rfl
theorem call83 : callable Go.Proofs.Tryz.prog 83 = true := by kernel_rfl
theorem fn84 : Go.Proofs.Tryz.prog.funcs[84]? = some Go.Proofs.Tryz.f84 := by kernel_rfl
theorem body84 : Go.Proofs.Tryz.f84.body.isSome = true := by kernel_rfl
theorem call84 : callable Go.Proofs.Tryz.prog 84 = true := by kernel_rfl
theorem fn86 : Go.Proofs.Tryz.prog.funcs[86]? = some Go.Proofs.Tryz.f86 := by kernel_rfl
theorem body86 : Go.Proofs.Tryz.f86.body.isSome = true := by kernel_rfl
theorem call86 : callable Go.Proofs.Tryz.prog 86 = true := by kernel_rfl
theorem fn87 : Go.Proofs.Tryz.prog.funcs[87]? = some Go.Proofs.Tryz.f87 := by kernel_rfl
theorem body87 : Go.Proofs.Tryz.f87.body.isSome = true := by kernel_rfl
theorem call87 : callable Go.Proofs.Tryz.prog 87 = true := by kernel_rfl
theorem fn88 : Go.Proofs.Tryz.prog.funcs[88]? = some Go.Proofs.Tryz.f88 := by kernel_rfl
theorem body88 : Go.Proofs.Tryz.f88.body.isSome = true := by kernel_rfl
theorem call88 : callable Go.Proofs.Tryz.prog 88 = true := by kernel_rfl
theorem fn89 : Go.Proofs.Tryz.prog.funcs[89]? = some Go.Proofs.Tryz.f89 := by kernel_rfl
theorem body89 : Go.Proofs.Tryz.f89.body.isSome = true := by kernel_rfl
theorem call89 : callable Go.Proofs.Tryz.prog 89 = true := by kernel_rfl
theorem fn90 : Go.Proofs.Tryz.prog.funcs[90]? = some Go.Proofs.Tryz.f90 := by kernel_rfl
theorem body90 : Go.Proofs.Tryz.f90.body.isSome = true := by kernel_rfl
theorem call90 : callable Go.Proofs.Tryz.prog 90 = true := by kernel_rfl
theorem fn91 : Go.Proofs.Tryz.prog.funcs[91]? = some Go.Proofs.Tryz.f91 := by kernel_rfl
theorem body91 : Go.Proofs.Tryz.f91.body.isSome = true := by kernel_rfl
theorem call91 : callable Go.Proofs.Tryz.prog 91 = true := by kernel_rfl
theorem fn92 : Go.Proofs.Tryz.prog.funcs[92]? = some Go.Proofs.Tryz.f92 := by kernel_rfl
theorem body92 : Go.Proofs.Tryz.f92.body.isSome = true := by kernel_rfl
theorem call92 : callable Go.Proofs.Tryz.prog 92 = true := by kernel_rfl
theorem fn93 : Go.Proofs.Tryz.prog.funcs[93]? = some Go.Proofs.Tryz.f93 := by kernel_rfl
theorem body93 : Go.Proofs.Tryz.f93.body.isSome = true := by kernel_rfl
theorem call93 : callable Go.Proofs.Tryz.prog 93 = true := by kernel_rfl
theorem fn94 : Go.Proofs.Tryz.prog.funcs[94]? = some Go.Proofs.Tryz.f94 := by kernel_rfl
theorem body94 : Go.Proofs.Tryz.f94.body.isSome = true := by kernel_rfl
theorem call94 : callable Go.Proofs.Tryz.prog 94 = true := by kernel_rfl
theorem fn105 : Go.Proofs.Tryz.prog.funcs[105]? = some Go.Proofs.Tryz.f105 := by kernel_rfl
theorem body105 : Go.Proofs.Tryz.f105.body.isSome = true := by kernel_rfl
theorem call105 : callable Go.Proofs.Tryz.prog 105 = true := by kernel_rfl
theorem fn106 : Go.Proofs.Tryz.prog.funcs[106]? = some Go.Proofs.Tryz.f106 := by kernel_rfl
theorem body106 : Go.Proofs.Tryz.f106.body.isSome = true := by kernel_rfl
theorem call106 : callable Go.Proofs.Tryz.prog 106 = true := by kernel_rfl
theorem fn107 : Go.Proofs.Tryz.prog.funcs[107]? = some Go.Proofs.Tryz.f107 := by kernel_rfl
theorem body107 : Go.Proofs.Tryz.f107.body.isSome = true := by kernel_rfl
theorem call107 : callable Go.Proofs.Tryz.prog 107 = true := by kernel_rfl
theorem fn108 : Go.Proofs.Tryz.prog.funcs[108]? = some Go.Proofs.Tryz.f108 := by kernel_rfl
theorem body108 : Go.Proofs.Tryz.f108.body.isSome = true := by kernel_rfl
theorem call108 : callable Go.Proofs.Tryz.prog 108 = true := by kernel_rfl
theorem fn109 : Go.Proofs.Tryz.prog.funcs[109]? = some Go.Proofs.Tryz.f109 := by kernel_rfl
theorem body109 : Go.Proofs.Tryz.f109.body.isSome = true := by kernel_rfl
theorem call109 : callable Go.Proofs.Tryz.prog 109 = true := by kernel_rfl
theorem fn110 : Go.Proofs.Tryz.prog.funcs[110]? = some Go.Proofs.Tryz.f110 := by kernel_rfl
theorem body110 : Go.Proofs.Tryz.f110.body.isSome = true := by kernel_rfl
theorem call110 : callable Go.Proofs.Tryz.prog 110 = true := by kernel_rfl
theorem fn111 : Go.Proofs.Tryz.prog.funcs[111]? = some Go.Proofs.Tryz.f111 := by kernel_rfl
theorem body111 : Go.Proofs.Tryz.f111.body.isSome = true := by kernel_rfl
theorem call111 : callable Go.Proofs.Tryz.prog 111 = true := by kernel_rfl
theorem fn112 : Go.Proofs.Tryz.prog.funcs[112]? = some Go.Proofs.Tryz.f112 := by kernel_rfl
theorem body112 : Go.Proofs.Tryz.f112.body.isSome = true := by kernel_rfl
theorem call112 : callable Go.Proofs.Tryz.prog 112 = true := by kernel_rfl
theorem fn113 : Go.Proofs.Tryz.prog.funcs[113]? = some Go.Proofs.Tryz.f113 := by kernel_rfl
theorem body113 : Go.Proofs.Tryz.f113.body.isSome = true := by kernel_rfl
theorem call113 : callable Go.Proofs.Tryz.prog 113 = true := by kernel_rfl
theorem fn115 : Go.Proofs.Tryz.prog.funcs[115]? = some Go.Proofs.Tryz.f115 := by kernel_rfl
theorem body115 : Go.Proofs.Tryz.f115.body.isSome = true := by kernel_rfl
theorem call115 : callable Go.Proofs.Tryz.prog 115 = true := by kernel_rfl
theorem fn116 : Go.Proofs.Tryz.prog.funcs[116]? = some Go.Proofs.Tryz.f116 := by kernel_rfl
theorem body116 : Go.Proofs.Tryz.f116.body.isSome = true := by kernel_rfl
theorem call116 : callable Go.Proofs.Tryz.prog 116 = true := by kernel_rfl
theorem fn117 : Go.Proofs.Tryz.prog.funcs[117]? = some Go.Proofs.Tryz.f117 := by kernel_rfl
theorem body117 : Go.Proofs.Tryz.f117.body.isSome = true := by kernel_rfl
theorem call117 : callable Go.Proofs.Tryz.prog 117 = true := by kernel_rfl
theorem fn120 : Go.Proofs.Tryz.prog.funcs[120]? = some Go.Proofs.Tryz.f120 := by kernel_rfl
theorem body120 : Go.Proofs.Tryz.f120.body.isSome = true := by kernel_rfl
theorem call120 : callable Go.Proofs.Tryz.prog 120 = true := by kernel_rfl
theorem fn121 : Go.Proofs.Tryz.prog.funcs[121]? = some Go.Proofs.Tryz.f121 := by kernel_rfl
theorem body121 : Go.Proofs.Tryz.f121.body.isSome = true := by kernel_rfl
theorem call121 : callable Go.Proofs.Tryz.prog 121 = true := by kernel_rfl
theorem fn122 : Go.Proofs.Tryz.prog.funcs[122]? = some Go.Proofs.Tryz.f122 := by kernel_rfl
theorem body122 : Go.Proofs.Tryz.f122.body.isSome = true := by kernel_rfl
theorem call122 : callable Go.Proofs.Tryz.prog 122 = true := by kernel_rfl
theorem fn123 : Go.Proofs.Tryz.prog.funcs[123]? = some Go.Proofs.Tryz.f123 := by kernel_rfl
theorem body123 : Go.Proofs.Tryz.f123.body.isSome = true := by kernel_rfl
theorem call123 : callable Go.Proofs.Tryz.prog 123 = true := by kernel_rfl
theorem fn124 : Go.Proofs.Tryz.prog.funcs[124]? = some Go.Proofs.Tryz.f124 := by kernel_rfl
theorem body124 : Go.Proofs.Tryz.f124.body.isSome = true := by kernel_rfl
theorem call124 : callable Go.Proofs.Tryz.prog 124 = true := by kernel_rfl
theorem fn125 : Go.Proofs.Tryz.prog.funcs[125]? = some Go.Proofs.Tryz.f125 := by kernel_rfl
theorem body125 : Go.Proofs.Tryz.f125.body.isSome = true := by kernel_rfl
theorem call125 : callable Go.Proofs.Tryz.prog 125 = true := by kernel_rfl
theorem fn140 : Go.Proofs.Tryz.prog.funcs[140]? = some Go.Proofs.Tryz.f140 := by kernel_rfl
theorem body140 : Go.Proofs.Tryz.f140.body.isSome = true := by kernel_rfl
theorem call140 : callable Go.Proofs.Tryz.prog 140 = true := by kernel_rfl
theorem fn141 : Go.Proofs.Tryz.prog.funcs[141]? = some Go.Proofs.Tryz.f141 := by kernel_rfl
theorem body141 : Go.Proofs.Tryz.f141.body.isSome = true := by kernel_rfl
theorem call141 : callable Go.Proofs.Tryz.prog 141 = true := by kernel_rfl
theorem fn149 : Go.Proofs.Tryz.prog.funcs[149]? = some Go.Proofs.Tryz.f149 := by kernel_rfl
theorem body149 : Go.Proofs.Tryz.f149.body.isSome = true := by kernel_rfl
theorem call149 : callable Go.Proofs.Tryz.prog 149 = true := by kernel_rfl
theorem fn150 : Go.Proofs.Tryz.prog.funcs[150]? = some Go.Proofs.Tryz.f150 := by kernel_rfl
theorem body150 : Go.Proofs.Tryz.f150.body.isSome = true := by kernel_rfl
theorem call150 : callable Go.Proofs.Tryz.prog 150 = true := by kernel_rfl
theorem fn151 : Go.Proofs.Tryz.prog.funcs[151]? = some Go.Proofs.Tryz.f151 := by kernel_rfl
theorem body151 : Go.Proofs.Tryz.f151.body.isSome = true := by kernel_rfl
theorem call151 : callable Go.Proofs.Tryz.prog 151 = true := by kernel_rfl
theorem fn152 : Go.Proofs.Tryz.prog.funcs[152]? = some Go.Proofs.Tryz.f152 := by kernel_rfl
theorem body152 : Go.Proofs.Tryz.f152.body.isSome = true := by kernel_rfl
theorem call152 : callable Go.Proofs.Tryz.prog 152 = true := by kernel_rfl
theorem fn153 : Go.Proofs.Tryz.prog.funcs[153]? = some Go.Proofs.Tryz.f153 := by kernel_rfl
theorem body153 : Go.Proofs.Tryz.f153.body.isSome = true := by kernel_rfl
theorem call153 : callable Go.Proofs.Tryz.prog 153 = true := by kernel_rfl
theorem fn154 : Go.Proofs.Tryz.prog.funcs[154]? = some Go.Proofs.Tryz.f154 := by kernel_rfl
theorem body154 : Go.Proofs.Tryz.f154.body.isSome = true := by kernel_rfl
theorem call154 : callable Go.Proofs.Tryz.prog 154 = true := by kernel_rfl
theorem fn155 : Go.Proofs.Tryz.prog.funcs[155]? = some Go.Proofs.Tryz.f155 := by kernel_rfl
theorem body155 : Go.Proofs.Tryz.f155.body.isSome = true := by kernel_rfl
theorem call155 : callable Go.Proofs.Tryz.prog 155 = true := by kernel_rfl
theorem fn156 : Go.Proofs.Tryz.prog.funcs[156]? = some Go.Proofs.Tryz.f156 := by kernel_rfl
theorem body156 : Go.Proofs.Tryz.f156.body.isSome = true := by kernel_rfl
theorem call156 : callable Go.Proofs.Tryz.prog 156 = true := by kernel_rfl
theorem fn157 : Go.Proofs.Tryz.prog.funcs[157]? = some Go.Proofs.Tryz.f157 := by kernel_rfl
theorem body157 : Go.Proofs.Tryz.f157.body.isSome = true := by kernel_rfl
theorem call157 : callable Go.Proofs.Tryz.prog 157 = true := by kernel_rfl
theorem fn158 : Go.Proofs.Tryz.prog.funcs[158]? = some Go.Proofs.Tryz.f158 := by kernel_rfl
theorem body158 : Go.Proofs.Tryz.f158.body.isSome = true := by kernel_rfl
theorem call158 : callable Go.Proofs.Tryz.prog 158 = true := by kernel_rfl
theorem fn161 : Go.Proofs.Tryz.prog.funcs[161]? = some Go.Proofs.Tryz.f161 := by kernel_rfl
theorem body161 : Go.Proofs.Tryz.f161.body.isSome = true := by kernel_rfl
theorem call161 : callable Go.Proofs.Tryz.prog 161 = true := by kernel_rfl
theorem fn162 : Go.Proofs.Tryz.prog.funcs[162]? = some Go.Proofs.Tryz.f162 := by kernel_rfl
theorem body162 : Go.Proofs.Tryz.f162.body.isSome = true := by kernel_rfl
theorem call162 : callable Go.Proofs.Tryz.prog 162 = true := by kernel_rfl
theorem fn163 : Go.Proofs.Tryz.prog.funcs[163]? = some Go.Proofs.Tryz.f163 := by kernel_rfl
theorem body163 : Go.Proofs.Tryz.f163.body.isSome = true := by kernel_rfl
theorem call163 : callable Go.Proofs.Tryz.prog 163 = true := by kernel_rfl
theorem fn164 : Go.Proofs.Tryz.prog.funcs[164]? = some Go.Proofs.Tryz.f164 := by kernel_rfl
theorem body164 : Go.Proofs.Tryz.f164.body.isSome = true := by kernel_rfl
theorem call164 : callable Go.Proofs.Tryz.prog 164 = true := by kernel_rfl
theorem fn165 : Go.Proofs.Tryz.prog.funcs[165]? = some Go.Proofs.Tryz.f165 := by kernel_rfl
theorem body165 : Go.Proofs.Tryz.f165.body.isSome = true := by kernel_rfl
theorem call165 : callable Go.Proofs.Tryz.prog 165 = true := by kernel_rfl
theorem fn174 : Go.Proofs.Tryz.prog.funcs[174]? = some Go.Proofs.Tryz.f174 := by kernel_rfl
theorem body174 : Go.Proofs.Tryz.f174.body.isSome = true := by kernel_rfl
theorem call174 : callable Go.Proofs.Tryz.prog 174 = true := by kernel_rfl
theorem fn175 : Go.Proofs.Tryz.prog.funcs[175]? = some Go.Proofs.Tryz.f175 := by kernel_rfl
theorem body175 : Go.Proofs.Tryz.f175.body.isSome = true := by kernel_rfl
theorem call175 : callable Go.Proofs.Tryz.prog 175 = true := by kernel_rfl
theorem fn176 : Go.Proofs.Tryz.prog.funcs[176]? = some Go.Proofs.Tryz.f176 := by kernel_rfl
theorem body176 : Go.Proofs.Tryz.f176.body.isSome = true := by kernel_rfl
theorem call176 : callable Go.Proofs.Tryz.prog 176 = true := by kernel_rfl
theorem fn177 : Go.Proofs.Tryz.prog.funcs[177]? = some Go.Proofs.Tryz.f177 := by kernel_rfl
theorem body177 : Go.Proofs.Tryz.f177.body.isSome = true := by kernel_rfl
theorem call177 : callable Go.Proofs.Tryz.prog 177 = true := by kernel_rfl
theorem fn178 : Go.Proofs.Tryz.prog.funcs[178]? = some Go.Proofs.Tryz.f178 := by kernel_rfl
theorem body178 : Go.Proofs.Tryz.f178.body.isSome = true := by kernel_rfl
theorem call178 : callable Go.Proofs.Tryz.prog 178 = true := by kernel_rfl
theorem fn179 : Go.Proofs.Tryz.prog.funcs[179]? = some Go.Proofs.Tryz.f179 := by kernel_rfl
theorem body179 : Go.Proofs.Tryz.f179.body.isSome = true := by kernel_rfl
theorem call179 : callable Go.Proofs.Tryz.prog 179 = true := by kernel_rfl
theorem fn180 : Go.Proofs.Tryz.prog.funcs[180]? = some Go.Proofs.Tryz.f180 := by kernel_rfl
theorem body180 : Go.Proofs.Tryz.f180.body.isSome = true := by kernel_rfl
theorem call180 : callable Go.Proofs.Tryz.prog 180 = true := by kernel_rfl
theorem fn181 : Go.Proofs.Tryz.prog.funcs[181]? = some Go.Proofs.Tryz.f181 := by kernel_rfl
theorem body181 : Go.Proofs.Tryz.f181.body.isSome = true := by kernel_rfl
theorem call181 : callable Go.Proofs.Tryz.prog 181 = true := by kernel_rfl
theorem fn182 : Go.Proofs.Tryz.prog.funcs[182]? = some Go.Proofs.Tryz.f182 := by kernel_rfl
theorem body182 : Go.Proofs.Tryz.f182.body.isSome = true := by kernel_rfl
theorem call182 : callable Go.Proofs.Tryz.prog 182 = true := by kernel_rfl
theorem fn183 : Go.Proofs.Tryz.prog.funcs[183]? = some Go.Proofs.Tryz.f183 := by kernel_rfl
theorem body183 : Go.Proofs.Tryz.f183.body.isSome = true := by kernel_rfl
theorem call183 : callable Go.Proofs.Tryz.prog 183 = true := by kernel_rfl
theorem fn184 : Go.Proofs.Tryz.prog.funcs[184]? = some Go.Proofs.Tryz.f184 := by kernel_rfl
theorem body184 : Go.Proofs.Tryz.f184.body.isSome = true := by kernel_rfl
theorem call184 : callable Go.Proofs.Tryz.prog 184 = true := by kernel_rfl
theorem fn185 : Go.Proofs.Tryz.prog.funcs[185]? = some Go.Proofs.Tryz.f185 := by kernel_rfl
theorem body185 : Go.Proofs.Tryz.f185.body.isSome = true := by kernel_rfl
theorem call185 : callable Go.Proofs.Tryz.prog 185 = true := by kernel_rfl
theorem fn186 : Go.Proofs.Tryz.prog.funcs[186]? = some Go.Proofs.Tryz.f186 := by kernel_rfl
theorem body186 : Go.Proofs.Tryz.f186.body.isSome = true := by kernel_rfl
theorem call186 : callable Go.Proofs.Tryz.prog 186 = true := by kernel_rfl
theorem fn187 : Go.Proofs.Tryz.prog.funcs[187]? = some Go.Proofs.Tryz.f187 := by kernel_rfl
theorem body187 : Go.Proofs.Tryz.f187.body.isSome = true := by kernel_rfl
theorem call187 : callable Go.Proofs.Tryz.prog 187 = true := by kernel_rfl
theorem fn188 : Go.Proofs.Tryz.prog.funcs[188]? = some Go.Proofs.Tryz.f188 := by kernel_rfl
theorem body188 : Go.Proofs.Tryz.f188.body.isSome = true := by kernel_rfl
theorem call188 : callable Go.Proofs.Tryz.prog 188 = true := by kernel_rfl
theorem fn189 : Go.Proofs.Tryz.prog.funcs[189]? = some Go.Proofs.Tryz.f189 := by kernel_rfl
theorem body189 : Go.Proofs.Tryz.f189.body.isSome = true := by kernel_rfl
theorem call189 : callable Go.Proofs.Tryz.prog 189 = true := by kernel_rfl
theorem fn190 : Go.Proofs.Tryz.prog.funcs[190]? = some Go.Proofs.Tryz.f190 := by kernel_rfl
theorem body190 : Go.Proofs.Tryz.f190.body.isSome = true := by kernel_rfl
theorem call190 : callable Go.Proofs.Tryz.prog 190 = true := by kernel_rfl
theorem fn191 : Go.Proofs.Tryz.prog.funcs[191]? = some Go.Proofs.Tryz.f191 := by kernel_rfl
theorem body191 : Go.Proofs.Tryz.f191.body.isSome = true := by kernel_rfl
theorem call191 : callable Go.Proofs.Tryz.prog 191 = true := by kernel_rfl
theorem fn192 : Go.Proofs.Tryz.prog.funcs[192]? = some Go.Proofs.Tryz.f192 := by kernel_rfl
theorem body192 : Go.Proofs.Tryz.f192.body.isSome = true := by kernel_rfl
theorem call192 : callable Go.Proofs.Tryz.prog 192 = true := by kernel_rfl
theorem fn193 : Go.Proofs.Tryz.prog.funcs[193]? = some Go.Proofs.Tryz.f193 := by kernel_rfl
theorem body193 : Go.Proofs.Tryz.f193.body.isSome = true := by kernel_rfl
theorem call193 : callable Go.Proofs.Tryz.prog 193 = true := by kernel_rfl
theorem fn194 : Go.Proofs.Tryz.prog.funcs[194]? = some Go.Proofs.Tryz.f194 := by kernel_rfl
theorem body194 : Go.Proofs.Tryz.f194.body.isSome = true := by kernel_rfl
theorem call194 : callable Go.Proofs.Tryz.prog 194 = true := by kernel_rfl
theorem fn195 : Go.Proofs.Tryz.prog.funcs[195]? = some Go.Proofs.Tryz.f195 := by kernel_rfl
theorem body195 : Go.Proofs.Tryz.f195.body.isSome = true := by kernel_rfl
theorem call195 : callable Go.Proofs.Tryz.prog 195 = true := by kernel_rfl
theorem fn196 : Go.Proofs.Tryz.prog.funcs[196]? = some Go.Proofs.Tryz.f196 := by kernel_rfl
theorem body196 : Go.Proofs.Tryz.f196.body.isSome = true := by kernel_rfl
theorem call196 : callable Go.Proofs.Tryz.prog 196 = true := by kernel_rfl
theorem fn198 : Go.Proofs.Tryz.prog.funcs[198]? = some Go.Proofs.Tryz.f198 := by kernel_rfl
theorem body198 : Go.Proofs.Tryz.f198.body.isSome = true := by kernel_rfl
theorem call198 : callable Go.Proofs.Tryz.prog 198 = true := by kernel_rfl
theorem fn199 : Go.Proofs.Tryz.prog.funcs[199]? = some Go.Proofs.Tryz.f199 := by kernel_rfl
theorem body199 : Go.Proofs.Tryz.f199.body.isSome = true := by kernel_rfl
theorem call199 : callable Go.Proofs.Tryz.prog 199 = true := by kernel_rfl
theorem fn200 : Go.Proofs.Tryz.prog.funcs[200]? = some Go.Proofs.Tryz.f200 := by kernel_rfl
theorem body200 : Go.Proofs.Tryz.f200.body.isSome = true := by kernel_rfl
theorem call200 : callable Go.Proofs.Tryz.prog 200 = true := by kernel_rfl
theorem kept_p_bits_OnesCount64 : p_bits_OnesCount64_c.kept = keptR p_bits_OnesCount64_i.blks 0 := by kernel_rfl
theorem kept_p_set_Count : p_set_Count_c.kept = keptR p_set_Count_i.blks 0 := by kernel_rfl
theorem kept_p_state_Deque : p_state_Deque_c.kept = keptR p_state_Deque_i.blks 0 := by kernel_rfl
theorem kept_p_state_Full : p_state_Full_c.kept = keptR p_state_Full_i.blks 0 := by kernel_rfl
theorem kept_p_state_Empty : p_state_Empty_c.kept = keptR p_state_Empty_i.blks 0 := by kernel_rfl
theorem kept_p_state_Next : p_state_Next_c.kept = keptR p_state_Next_i.blks 0 := by kernel_rfl
theorem kept_p_plan_within : p_plan_within_c.kept = keptR p_plan_within_i.blks 0 := by kernel_rfl
theorem kept_p_plan_Plan_sized : p_plan_Plan_sized_c.kept = keptR p_plan_Plan_sized_i.blks 0 := by kernel_rfl
theorem kept_p_heap_RightF1F1 : p_heap_RightF1F1_c.kept = keptR p_heap_RightF1F1_i.blks 0 := by kernel_rfl
theorem kept_p_slices_IndexFunc_Lint_int : p_slices_IndexFunc_Lint_int_c.kept = keptR p_slices_IndexFunc_Lint_int_i.blks 0 := by kernel_rfl
theorem kept_p_slices_ContainsFunc_Lint_int : p_slices_ContainsFunc_Lint_int_c.kept = keptR p_slices_ContainsFunc_Lint_int_i.blks 0 := by kernel_rfl
theorem kept_p_heap_RightF1 : p_heap_RightF1_c.kept = keptR p_heap_RightF1_i.blks 0 := by kernel_rfl
theorem kept_p_slices_IndexFunc_LLint_Lint : p_slices_IndexFunc_LLint_Lint_c.kept = keptR p_slices_IndexFunc_LLint_Lint_i.blks 0 := by kernel_rfl
theorem kept_p_slices_ContainsFunc_LLint_Lint : p_slices_ContainsFunc_LLint_Lint_c.kept = keptR p_slices_ContainsFunc_LLint_Lint_i.blks 0 := by kernel_rfl
theorem kept_p_heap_Right : p_heap_Right_c.kept = keptR p_heap_Right_i.blks 0 := by kernel_rfl
theorem kept_p_set_Under : p_set_Under_c.kept = keptR p_set_Under_i.blks 0 := by kernel_rfl
theorem kept_p_set_First : p_set_First_c.kept = keptR p_set_First_i.blks 0 := by kernel_rfl
theorem kept_p_plan_RightF1 : p_plan_RightF1_c.kept = keptR p_plan_RightF1_i.blks 0 := by kernel_rfl
theorem kept_p_slices_IndexFunc_Lint_int_v1 : p_slices_IndexFunc_Lint_int_v1_c.kept = keptR p_slices_IndexFunc_Lint_int_v1_i.blks 0 := by kernel_rfl
theorem kept_p_slices_ContainsFunc_Lint_int_v1 : p_slices_ContainsFunc_Lint_int_v1_c.kept = keptR p_slices_ContainsFunc_Lint_int_v1_i.blks 0 := by kernel_rfl
theorem kept_p_code_RightF1 : p_code_RightF1_c.kept = keptR p_code_RightF1_i.blks 0 := by kernel_rfl
theorem kept_p_code_Right : p_code_Right_c.kept = keptR p_code_Right_i.blks 0 := by kernel_rfl
theorem kept_p_code_FitsF1 : p_code_FitsF1_c.kept = keptR p_code_FitsF1_i.blks 0 := by kernel_rfl
theorem kept_p_slices_IndexFunc_Lcode_Op_code_Op : p_slices_IndexFunc_Lcode_Op_code_Op_c.kept = keptR p_slices_IndexFunc_Lcode_Op_code_Op_i.blks 0 := by kernel_rfl
theorem kept_p_slices_ContainsFunc_Lcode_Op_code_Op : p_slices_ContainsFunc_Lcode_Op_code_Op_c.kept = keptR p_slices_ContainsFunc_Lcode_Op_code_Op_i.blks 0 := by kernel_rfl
theorem kept_p_code_Fits : p_code_Fits_c.kept = keptR p_code_Fits_i.blks 0 := by kernel_rfl
theorem kept_p_pick_Right : p_pick_Right_c.kept = keptR p_pick_Right_i.blks 0 := by kernel_rfl
theorem kept_p_pick_KnownF1 : p_pick_KnownF1_c.kept = keptR p_pick_KnownF1_i.blks 0 := by kernel_rfl
theorem kept_p_slices_IndexFunc_Lpick_Pick_pick_Pick : p_slices_IndexFunc_Lpick_Pick_pick_Pick_c.kept = keptR p_slices_IndexFunc_Lpick_Pick_pick_Pick_i.blks 0 := by kernel_rfl
theorem kept_p_slices_ContainsFunc_Lpick_Pick_pick_Pick : p_slices_ContainsFunc_Lpick_Pick_pick_Pick_c.kept = keptR p_slices_ContainsFunc_Lpick_Pick_pick_Pick_i.blks 0 := by kernel_rfl
theorem kept_p_pick_Known : p_pick_Known_c.kept = keptR p_pick_Known_i.blks 0 := by kernel_rfl
theorem kept_p_plan_Right : p_plan_Right_c.kept = keptR p_plan_Right_i.blks 0 := by kernel_rfl
theorem kept_p_set_bit : p_set_bit_c.kept = keptR p_set_bit_i.blks 0 := by kernel_rfl
theorem kept_p_set_Add : p_set_Add_c.kept = keptR p_set_Add_i.blks 0 := by kernel_rfl
theorem kept_p_set_Of : p_set_Of_c.kept = keptR p_set_Of_i.blks 0 := by kernel_rfl
theorem kept_p_plan_Greys : p_plan_Greys_c.kept = keptR p_plan_Greys_i.blks 0 := by kernel_rfl
theorem kept_p_ledger_New : p_ledger_New_c.kept = keptR p_ledger_New_i.blks 0 := by kernel_rfl
theorem kept_p_slices_Clone_Lint_int : p_slices_Clone_Lint_int_c.kept = keptR p_slices_Clone_Lint_int_i.blks 0 := by kernel_rfl
theorem kept_p_state_each_Lint : p_state_each_Lint_c.kept = keptR p_state_each_Lint_i.blks 0 := by kernel_rfl
theorem kept_p_deque_Cells : p_deque_Cells_c.kept = keptR p_deque_Cells_i.blks 0 := by kernel_rfl
theorem kept_p_deque_Start : p_deque_Start_c.kept = keptR p_deque_Start_i.blks 0 := by kernel_rfl
theorem kept_p_plan_Bins : p_plan_Bins_c.kept = keptR p_plan_Bins_i.blks 0 := by kernel_rfl
theorem kept_p_slices_Chunk_Lint_int : p_slices_Chunk_Lint_int_c.kept = keptR p_slices_Chunk_Lint_int_i.blks 0 := by kernel_rfl
theorem kept_p_set_each : p_set_each_c.kept = keptR p_set_each_i.blks 0 := by kernel_rfl
theorem kept_p_set_List : p_set_List_c.kept = keptR p_set_List_i.blks 0 := by kernel_rfl
theorem kept_p_mem_DoF1 : p_mem_DoF1_c.kept = keptR p_mem_DoF1_i.blks 0 := by kernel_rfl
theorem kept_p_mem_DoF2 : p_mem_DoF2_c.kept = keptR p_mem_DoF2_i.blks 0 := by kernel_rfl
theorem kept_p_mem_DoF3 : p_mem_DoF3_c.kept = keptR p_mem_DoF3_i.blks 0 := by kernel_rfl
theorem kept_p_mem_DoF4 : p_mem_DoF4_c.kept = keptR p_mem_DoF4_i.blks 0 := by kernel_rfl
theorem kept_p_slices_Clone_mem_Mem_uint64 : p_slices_Clone_mem_Mem_uint64_c.kept = keptR p_slices_Clone_mem_Mem_uint64_i.blks 0 := by kernel_rfl
theorem kept_p_mem_Do : p_mem_Do_c.kept = keptR p_mem_Do_i.blks 0 := by kernel_rfl
theorem kept_p_chain_store : p_chain_store_c.kept = keptR p_chain_store_i.blks 0 := by kernel_rfl
theorem kept_p_chain_Pack : p_chain_Pack_c.kept = keptR p_chain_Pack_i.blks 0 := by kernel_rfl
theorem kept_p_chain_Lay : p_chain_Lay_c.kept = keptR p_chain_Lay_i.blks 0 := by kernel_rfl
theorem kept_p_state_New : p_state_New_c.kept = keptR p_state_New_i.blks 0 := by kernel_rfl
theorem kept_p_grey_Begin : p_grey_Begin_c.kept = keptR p_grey_Begin_i.blks 0 := by kernel_rfl
theorem kept_p_grey_machine_reserve_v1 : p_grey_machine_reserve_v1_c.kept = keptR p_grey_machine_reserve_v1_i.blks 0 := by kernel_rfl
theorem kept_p_set_Has : p_set_Has_c.kept = keptR p_set_Has_i.blks 0 := by kernel_rfl
theorem kept_p_tint_Shade : p_tint_Shade_c.kept = keptR p_tint_Shade_i.blks 0 := by kernel_rfl
theorem kept_p_chain_Start : p_chain_Start_c.kept = keptR p_chain_Start_i.blks 0 := by kernel_rfl
theorem kept_p_grey_machine_ask_v1 : p_grey_machine_ask_v1_c.kept = keptR p_grey_machine_ask_v1_i.blks 0 := by kernel_rfl
theorem kept_p_grey_machine_mark_v1 : p_grey_machine_mark_v1_c.kept = keptR p_grey_machine_mark_v1_i.blks 0 := by kernel_rfl
theorem kept_p_grey_machine_back_v1 : p_grey_machine_back_v1_c.kept = keptR p_grey_machine_back_v1_i.blks 0 := by kernel_rfl
theorem kept_p_deque_steps : p_deque_steps_c.kept = keptR p_deque_steps_i.blks 0 := by kernel_rfl
theorem kept_p_deque_load : p_deque_load_c.kept = keptR p_deque_load_i.blks 0 := by kernel_rfl
theorem kept_p_deque_Machine_bottom : p_deque_Machine_bottom_c.kept = keptR p_deque_Machine_bottom_i.blks 0 := by kernel_rfl
theorem kept_p_deque_Machine_seeBottom_v1 : p_deque_Machine_seeBottom_v1_c.kept = keptR p_deque_Machine_seeBottom_v1_i.blks 0 := by kernel_rfl
theorem kept_p_deque_Machine_top : p_deque_Machine_top_c.kept = keptR p_deque_Machine_top_i.blks 0 := by kernel_rfl
theorem kept_p_deque_Machine_size : p_deque_Machine_size_c.kept = keptR p_deque_Machine_size_i.blks 0 := by kernel_rfl
theorem kept_p_deque_Machine_end_v1 : p_deque_Machine_end_v1_c.kept = keptR p_deque_Machine_end_v1_i.blks 0 := by kernel_rfl
theorem kept_p_deque_Machine_room_v1 : p_deque_Machine_room_v1_c.kept = keptR p_deque_Machine_room_v1_i.blks 0 := by kernel_rfl
theorem kept_p_deque_Machine_place : p_deque_Machine_place_c.kept = keptR p_deque_Machine_place_i.blks 0 := by kernel_rfl
theorem kept_p_deque_store : p_deque_store_c.kept = keptR p_deque_store_i.blks 0 := by kernel_rfl
theorem kept_p_deque_Machine_put : p_deque_Machine_put_c.kept = keptR p_deque_Machine_put_i.blks 0 := by kernel_rfl
theorem kept_p_deque_Machine_publish_v1 : p_deque_Machine_publish_v1_c.kept = keptR p_deque_Machine_publish_v1_i.blks 0 := by kernel_rfl
theorem kept_p_deque_Machine_claim : p_deque_Machine_claim_c.kept = keptR p_deque_Machine_claim_i.blks 0 := by kernel_rfl
theorem kept_p_deque_above : p_deque_above_c.kept = keptR p_deque_above_i.blks 0 := by kernel_rfl
theorem kept_p_deque_Machine_seeTop_v1 : p_deque_Machine_seeTop_v1_c.kept = keptR p_deque_Machine_seeTop_v1_i.blks 0 := by kernel_rfl
theorem kept_p_deque_Machine_get_v1 : p_deque_Machine_get_v1_c.kept = keptR p_deque_Machine_get_v1_i.blks 0 := by kernel_rfl
theorem kept_p_deque_Machine_take : p_deque_Machine_take_c.kept = keptR p_deque_Machine_take_i.blks 0 := by kernel_rfl
theorem kept_p_deque_Machine_race_v1 : p_deque_Machine_race_v1_c.kept = keptR p_deque_Machine_race_v1_i.blks 0 := by kernel_rfl
theorem kept_p_deque_Machine_fail_v1 : p_deque_Machine_fail_v1_c.kept = keptR p_deque_Machine_fail_v1_i.blks 0 := by kernel_rfl
theorem kept_p_deque_Machine_won_v1 : p_deque_Machine_won_v1_c.kept = keptR p_deque_Machine_won_v1_i.blks 0 := by kernel_rfl
theorem kept_p_deque_Machine_aim_v1 : p_deque_Machine_aim_v1_c.kept = keptR p_deque_Machine_aim_v1_i.blks 0 := by kernel_rfl
theorem kept_p_deque_Machine_any_v1 : p_deque_Machine_any_v1_c.kept = keptR p_deque_Machine_any_v1_i.blks 0 := by kernel_rfl
theorem kept_p_deque_Machine_peek_v1 : p_deque_Machine_peek_v1_c.kept = keptR p_deque_Machine_peek_v1_i.blks 0 := by kernel_rfl
theorem kept_p_deque_Machine_snatch_v1 : p_deque_Machine_snatch_v1_c.kept = keptR p_deque_Machine_snatch_v1_i.blks 0 := by kernel_rfl
theorem kept_p_deque_Step : p_deque_Step_c.kept = keptR p_deque_Step_i.blks 0 := by kernel_rfl
theorem kept_p_grey_machine_push_v1 : p_grey_machine_push_v1_c.kept = keptR p_grey_machine_push_v1_i.blks 0 := by kernel_rfl
theorem kept_p_grey_machine_tell_v1 : p_grey_machine_tell_v1_c.kept = keptR p_grey_machine_tell_v1_i.blks 0 := by kernel_rfl
theorem kept_p_chain_Node : p_chain_Node_c.kept = keptR p_chain_Node_i.blks 0 := by kernel_rfl
theorem kept_p_chain_load : p_chain_load_c.kept = keptR p_chain_load_i.blks 0 := by kernel_rfl
theorem kept_p_chain_Machine_see_v1 : p_chain_Machine_see_v1_c.kept = keptR p_chain_Machine_see_v1_i.blks 0 := by kernel_rfl
theorem kept_p_chain_Machine_link : p_chain_Machine_link_c.kept = keptR p_chain_Machine_link_i.blks 0 := by kernel_rfl
theorem kept_p_chain_Machine_swap_v1 : p_chain_Machine_swap_v1_c.kept = keptR p_chain_Machine_swap_v1_i.blks 0 := by kernel_rfl
theorem kept_p_chain_Machine_behind_v1 : p_chain_Machine_behind_v1_c.kept = keptR p_chain_Machine_behind_v1_i.blks 0 := by kernel_rfl
theorem kept_p_chain_Step : p_chain_Step_c.kept = keptR p_chain_Step_i.blks 0 := by kernel_rfl
theorem kept_p_grey_machine_take_v1 : p_grey_machine_take_v1_c.kept = keptR p_grey_machine_take_v1_i.blks 0 := by kernel_rfl
theorem kept_p_slices_Clone_LLint_Lint : p_slices_Clone_LLint_Lint_c.kept = keptR p_slices_Clone_LLint_Lint_i.blks 0 := by kernel_rfl
theorem kept_p_grey_machine_fill_v1 : p_grey_machine_fill_v1_c.kept = keptR p_grey_machine_fill_v1_i.blks 0 := by kernel_rfl
theorem kept_p_grey_machine_publish_v1 : p_grey_machine_publish_v1_c.kept = keptR p_grey_machine_publish_v1_i.blks 0 := by kernel_rfl
theorem kept_p_grey_Step : p_grey_Step_c.kept = keptR p_grey_Step_i.blks 0 := by kernel_rfl
theorem kept_p_grey_at : p_grey_at_c.kept = keptR p_grey_at_i.blks 0 := by kernel_rfl
theorem kept_p_grey_Holds : p_grey_Holds_c.kept = keptR p_grey_Holds_i.blks 0 := by kernel_rfl
theorem kept_p_grey_Asks : p_grey_Asks_c.kept = keptR p_grey_Asks_i.blks 0 := by kernel_rfl
theorem kept_p_grey_Owes : p_grey_Owes_c.kept = keptR p_grey_Owes_i.blks 0 := by kernel_rfl
theorem kept_p_besomlaw14_run : p_besomlaw14_run_c.kept = keptR p_besomlaw14_run_i.blks 0 := by kernel_rfl
theorem kept_p_chain_List : p_chain_List_c.kept = keptR p_chain_List_i.blks 0 := by kernel_rfl
theorem kept_p_besomlaw14_small : p_besomlaw14_small_c.kept = keptR p_besomlaw14_small_i.blks 0 := by kernel_rfl
theorem kept_p_besomlaw14_examples : p_besomlaw14_examples_c.kept = keptR p_besomlaw14_examples_i.blks 0 := by kernel_rfl
theorem kept_p_besomlaw14_Maker_byte_v1 : p_besomlaw14_Maker_byte_v1_c.kept = keptR p_besomlaw14_Maker_byte_v1_i.blks 0 := by kernel_rfl
theorem kept_p_besomlaw14_Maker_op_v1 : p_besomlaw14_Maker_op_v1_c.kept = keptR p_besomlaw14_Maker_op_v1_i.blks 0 := by kernel_rfl
theorem kept_p_besomlaw14_made : p_besomlaw14_made_c.kept = keptR p_besomlaw14_made_i.blks 0 := by kernel_rfl
theorem kept_p_besomlaw14_Grow_begin : p_besomlaw14_Grow_begin_c.kept = keptR p_besomlaw14_Grow_begin_i.blks 0 := by kernel_rfl
theorem kept_p_besomlaw14_two : p_besomlaw14_two_c.kept = keptR p_besomlaw14_two_i.blks 0 := by kernel_rfl
theorem kept_p_tint_Greys : p_tint_Greys_c.kept = keptR p_tint_Greys_i.blks 0 := by kernel_rfl
theorem kept_p_besomlaw14_GreyCounts : p_besomlaw14_GreyCounts_c.kept = keptR p_besomlaw14_GreyCounts_i.blks 0 := by kernel_rfl
variable (G : Nat → Prop) (W0 : World) (hG : Glob G W0)
include hG
theorem p_bits_OnesCount64_sound : Sound Go.Proofs.Tryz.prog G W0 83 p_bits_OnesCount64 := gen_sound (C := p_bits_OnesCount64_c) tab_ok (specsOk_of (.nil)) rfl (itsOk_of (.nil)) mixed fn83 body83 kept_p_bits_OnesCount64 (by kernel_rfl)
theorem p_set_Count_sound : Sound Go.Proofs.Tryz.prog G W0 26 p_set_Count := gen_sound (C := p_set_Count_c) tab_ok (specsOk_of (.cons _ _ _ _ call83 (p_bits_OnesCount64_sound G W0 hG) (.skip _ _ .nil))) rfl (itsOk_of (.nil)) mixed fn26 body26 kept_p_set_Count (by kernel_rfl)
theorem p_state_Deque_sound : Sound Go.Proofs.Tryz.prog G W0 33 p_state_Deque := gen_sound (C := p_state_Deque_c) tab_ok (specsOk_of (.nil)) rfl (itsOk_of (.nil)) mixed fn33 body33 kept_p_state_Deque (by kernel_rfl)
theorem p_state_Full_sound : Sound Go.Proofs.Tryz.prog G W0 35 p_state_Full := gen_sound (C := p_state_Full_c) tab_ok (specsOk_of (.nil)) rfl (itsOk_of (.nil)) mixed fn35 body35 kept_p_state_Full (by kernel_rfl)
theorem p_state_Empty_sound : Sound Go.Proofs.Tryz.prog G W0 53 p_state_Empty := gen_sound (C := p_state_Empty_c) tab_ok (specsOk_of (.cons _ _ _ _ call35 (p_state_Full_sound G W0 hG) (.skip _ _ .nil))) rfl (itsOk_of (.nil)) mixed fn53 body53 kept_p_state_Empty (by kernel_rfl)
theorem p_state_Next_sound : Sound Go.Proofs.Tryz.prog G W0 36 p_state_Next := gen_sound (C := p_state_Next_c) tab_ok (specsOk_of (.cons _ _ _ _ call53 (p_state_Empty_sound G W0 hG) (.skip _ _ .nil))) rfl (itsOk_of (.nil)) mixed fn36 body36 kept_p_state_Next (by kernel_rfl)
theorem p_plan_within_sound : Sound Go.Proofs.Tryz.prog G W0 107 p_plan_within := gen_sound (C := p_plan_within_c) tab_ok (specsOk_of (.nil)) rfl (itsOk_of (.nil)) mixed fn107 body107 kept_p_plan_within (by kernel_rfl)
theorem p_plan_Plan_sized_sound : Sound Go.Proofs.Tryz.prog G W0 105 p_plan_Plan_sized := gen_sound (C := p_plan_Plan_sized_c) tab_ok (specsOk_of (.cons _ _ _ _ call107 (p_plan_within_sound G W0 hG) (.skip _ _ .nil))) rfl (itsOk_of (.nil)) mixed fn105 body105 kept_p_plan_Plan_sized (by kernel_rfl)
theorem p_heap_RightF1F1_sound : Sound Go.Proofs.Tryz.prog G W0 150 p_heap_RightF1F1 := gen_sound (C := p_heap_RightF1F1_c) tab_ok (specsOk_of (.nil)) rfl (itsOk_of (.nil)) mixed fn150 body150 kept_p_heap_RightF1F1 (by kernel_rfl)
theorem p_slices_IndexFunc_Lint_int_sound : Sound Go.Proofs.Tryz.prog G W0 152 p_slices_IndexFunc_Lint_int := gen_sound (C := p_slices_IndexFunc_Lint_int_c) tab_ok (specsOk_of (.cons _ _ _ _ call150 (p_heap_RightF1F1_sound G W0 hG) (.skip _ _ .nil))) rfl (itsOk_of (.nil)) mixed fn152 body152 kept_p_slices_IndexFunc_Lint_int (by kernel_rfl)
theorem p_slices_ContainsFunc_Lint_int_sound : Sound Go.Proofs.Tryz.prog G W0 110 p_slices_ContainsFunc_Lint_int := gen_sound (C := p_slices_ContainsFunc_Lint_int_c) tab_ok (specsOk_of (.cons _ _ _ _ call152 (p_slices_IndexFunc_Lint_int_sound G W0 hG) (.skip _ _ .nil))) rfl (itsOk_of (.nil)) mixed fn110 body110 kept_p_slices_ContainsFunc_Lint_int (by kernel_rfl)
theorem p_heap_RightF1_sound : Sound Go.Proofs.Tryz.prog G W0 149 p_heap_RightF1 := gen_sound (C := p_heap_RightF1_c) tab_ok (specsOk_of (.cons _ _ _ _ call110 (p_slices_ContainsFunc_Lint_int_sound G W0 hG) (.skip _ _ .nil))) rfl (itsOk_of (.nil)) mixed fn149 body149 kept_p_heap_RightF1 (by kernel_rfl)
theorem p_slices_IndexFunc_LLint_Lint_sound : Sound Go.Proofs.Tryz.prog G W0 179 p_slices_IndexFunc_LLint_Lint := gen_sound (C := p_slices_IndexFunc_LLint_Lint_c) tab_ok (specsOk_of (.cons _ _ _ _ call149 (p_heap_RightF1_sound G W0 hG) (.skip _ _ .nil))) rfl (itsOk_of (.nil)) mixed fn179 body179 kept_p_slices_IndexFunc_LLint_Lint (by kernel_rfl)
theorem p_slices_ContainsFunc_LLint_Lint_sound : Sound Go.Proofs.Tryz.prog G W0 151 p_slices_ContainsFunc_LLint_Lint := gen_sound (C := p_slices_ContainsFunc_LLint_Lint_c) tab_ok (specsOk_of (.cons _ _ _ _ call179 (p_slices_IndexFunc_LLint_Lint_sound G W0 hG) (.skip _ _ .nil))) rfl (itsOk_of (.nil)) mixed fn151 body151 kept_p_slices_ContainsFunc_LLint_Lint (by kernel_rfl)
theorem p_heap_Right_sound : Sound Go.Proofs.Tryz.prog G W0 106 p_heap_Right := gen_sound (C := p_heap_Right_c) tab_ok (specsOk_of (.cons _ _ _ _ call151 (p_slices_ContainsFunc_LLint_Lint_sound G W0 hG) (.skip _ _ .nil))) rfl (itsOk_of (.nil)) mixed fn106 body106 kept_p_heap_Right (by kernel_rfl)
theorem p_set_Under_sound : Sound Go.Proofs.Tryz.prog G W0 108 p_set_Under := gen_sound (C := p_set_Under_c) tab_ok (specsOk_of (.nil)) rfl (itsOk_of (.nil)) mixed fn108 body108 kept_p_set_Under (by kernel_rfl)
theorem p_set_First_sound : Sound Go.Proofs.Tryz.prog G W0 109 p_set_First := gen_sound (C := p_set_First_c) tab_ok (specsOk_of (.nil)) rfl (itsOk_of (.nil)) mixed fn109 body109 kept_p_set_First (by kernel_rfl)
theorem p_plan_RightF1_sound : Sound Go.Proofs.Tryz.prog G W0 111 p_plan_RightF1 := gen_sound (C := p_plan_RightF1_c) tab_ok (specsOk_of (.cons _ _ _ _ call107 (p_plan_within_sound G W0 hG) (.skip _ _ .nil))) rfl (itsOk_of (.nil)) mixed fn111 body111 kept_p_plan_RightF1 (by kernel_rfl)
theorem p_slices_IndexFunc_Lint_int_v1_sound : Sound Go.Proofs.Tryz.prog G W0 152 p_slices_IndexFunc_Lint_int_v1 := gen_sound (C := p_slices_IndexFunc_Lint_int_v1_c) tab_ok (specsOk_of (.cons _ _ _ _ call111 (p_plan_RightF1_sound G W0 hG) (.skip _ _ .nil))) rfl (itsOk_of (.nil)) mixed fn152 body152 kept_p_slices_IndexFunc_Lint_int_v1 (by kernel_rfl)
theorem p_slices_ContainsFunc_Lint_int_v1_sound : Sound Go.Proofs.Tryz.prog G W0 110 p_slices_ContainsFunc_Lint_int_v1 := gen_sound (C := p_slices_ContainsFunc_Lint_int_v1_c) tab_ok (specsOk_of (.cons _ _ _ _ call152 (p_slices_IndexFunc_Lint_int_v1_sound G W0 hG) (.skip _ _ .nil))) rfl (itsOk_of (.nil)) mixed fn110 body110 kept_p_slices_ContainsFunc_Lint_int_v1 (by kernel_rfl)
theorem p_code_RightF1_sound : Sound Go.Proofs.Tryz.prog G W0 181 p_code_RightF1 := gen_sound (C := p_code_RightF1_c) tab_ok (specsOk_of (.nil)) rfl (itsOk_of (.nil)) mixed fn181 body181 kept_p_code_RightF1 (by kernel_rfl)
theorem p_code_Right_sound : Sound Go.Proofs.Tryz.prog G W0 155 p_code_Right := gen_sound (C := p_code_Right_c) tab_ok (specsOk_of (.cons _ _ _ _ call181 (p_code_RightF1_sound G W0 hG) (.skip _ _ .nil))) rfl (itsOk_of (.nil)) mixed fn155 body155 kept_p_code_Right (by kernel_rfl)
theorem p_code_FitsF1_sound : Sound Go.Proofs.Tryz.prog G W0 154 p_code_FitsF1 := gen_sound (C := p_code_FitsF1_c) tab_ok (specsOk_of (.cons _ _ _ _ call155 (p_code_Right_sound G W0 hG) (.skip _ _ .nil))) rfl (itsOk_of (.nil)) mixed fn154 body154 kept_p_code_FitsF1 (by kernel_rfl)
theorem p_slices_IndexFunc_Lcode_Op_code_Op_sound : Sound Go.Proofs.Tryz.prog G W0 180 p_slices_IndexFunc_Lcode_Op_code_Op := gen_sound (C := p_slices_IndexFunc_Lcode_Op_code_Op_c) tab_ok (specsOk_of (.cons _ _ _ _ call154 (p_code_FitsF1_sound G W0 hG) (.skip _ _ .nil))) rfl (itsOk_of (.nil)) mixed fn180 body180 kept_p_slices_IndexFunc_Lcode_Op_code_Op (by kernel_rfl)
theorem p_slices_ContainsFunc_Lcode_Op_code_Op_sound : Sound Go.Proofs.Tryz.prog G W0 153 p_slices_ContainsFunc_Lcode_Op_code_Op := gen_sound (C := p_slices_ContainsFunc_Lcode_Op_code_Op_c) tab_ok (specsOk_of (.cons _ _ _ _ call180 (p_slices_IndexFunc_Lcode_Op_code_Op_sound G W0 hG) (.skip _ _ .nil))) rfl (itsOk_of (.nil)) mixed fn153 body153 kept_p_slices_ContainsFunc_Lcode_Op_code_Op (by kernel_rfl)
theorem p_code_Fits_sound : Sound Go.Proofs.Tryz.prog G W0 112 p_code_Fits := gen_sound (C := p_code_Fits_c) tab_ok (specsOk_of (.cons _ _ _ _ call153 (p_slices_ContainsFunc_Lcode_Op_code_Op_sound G W0 hG) (.skip _ _ .nil))) rfl (itsOk_of (.nil)) mixed fn112 body112 kept_p_code_Fits (by kernel_rfl)
theorem p_pick_Right_sound : Sound Go.Proofs.Tryz.prog G W0 158 p_pick_Right := gen_sound (C := p_pick_Right_c) tab_ok (specsOk_of (.nil)) rfl (itsOk_of (.nil)) mixed fn158 body158 kept_p_pick_Right (by kernel_rfl)
theorem p_pick_KnownF1_sound : Sound Go.Proofs.Tryz.prog G W0 157 p_pick_KnownF1 := gen_sound (C := p_pick_KnownF1_c) tab_ok (specsOk_of (.cons _ _ _ _ call158 (p_pick_Right_sound G W0 hG) (.skip _ _ .nil))) rfl (itsOk_of (.nil)) mixed fn157 body157 kept_p_pick_KnownF1 (by kernel_rfl)
theorem p_slices_IndexFunc_Lpick_Pick_pick_Pick_sound : Sound Go.Proofs.Tryz.prog G W0 182 p_slices_IndexFunc_Lpick_Pick_pick_Pick := gen_sound (C := p_slices_IndexFunc_Lpick_Pick_pick_Pick_c) tab_ok (specsOk_of (.cons _ _ _ _ call157 (p_pick_KnownF1_sound G W0 hG) (.skip _ _ .nil))) rfl (itsOk_of (.nil)) mixed fn182 body182 kept_p_slices_IndexFunc_Lpick_Pick_pick_Pick (by kernel_rfl)
theorem p_slices_ContainsFunc_Lpick_Pick_pick_Pick_sound : Sound Go.Proofs.Tryz.prog G W0 156 p_slices_ContainsFunc_Lpick_Pick_pick_Pick := gen_sound (C := p_slices_ContainsFunc_Lpick_Pick_pick_Pick_c) tab_ok (specsOk_of (.cons _ _ _ _ call182 (p_slices_IndexFunc_Lpick_Pick_pick_Pick_sound G W0 hG) (.skip _ _ .nil))) rfl (itsOk_of (.nil)) mixed fn156 body156 kept_p_slices_ContainsFunc_Lpick_Pick_pick_Pick (by kernel_rfl)
theorem p_pick_Known_sound : Sound Go.Proofs.Tryz.prog G W0 113 p_pick_Known := gen_sound (C := p_pick_Known_c) tab_ok (specsOk_of (.cons _ _ _ _ call156 (p_slices_ContainsFunc_Lpick_Pick_pick_Pick_sound G W0 hG) (.skip _ _ .nil))) rfl (itsOk_of (.nil)) mixed fn113 body113 kept_p_pick_Known (by kernel_rfl)
theorem p_plan_Right_sound : Sound Go.Proofs.Tryz.prog G W0 42 p_plan_Right := gen_sound (C := p_plan_Right_c) tab_ok (specsOk_of (.cons _ _ _ _ call105 (p_plan_Plan_sized_sound G W0 hG) (.skip _ _ (.cons _ _ _ _ call106 (p_heap_Right_sound G W0 hG) (.skip _ _ (.cons _ _ _ _ call107 (p_plan_within_sound G W0 hG) (.skip _ _ (.cons _ _ _ _ call108 (p_set_Under_sound G W0 hG) (.skip _ _ (.cons _ _ _ _ call109 (p_set_First_sound G W0 hG) (.skip _ _ (.cons _ _ _ _ call110 (p_slices_ContainsFunc_Lint_int_v1_sound G W0 hG) (.skip _ _ (.cons _ _ _ _ call112 (p_code_Fits_sound G W0 hG) (.skip _ _ (.cons _ _ _ _ call113 (p_pick_Known_sound G W0 hG) (.skip _ _ .nil))))))))))))))))) rfl (itsOk_of (.nil)) mixed fn42 body42 kept_p_plan_Right (by kernel_rfl)
theorem p_set_bit_sound : Sound Go.Proofs.Tryz.prog G W0 84 p_set_bit := gen_sound (C := p_set_bit_c) tab_ok (specsOk_of (.nil)) rfl (itsOk_of (.nil)) mixed fn84 body84 kept_p_set_bit (by kernel_rfl)
theorem p_set_Add_sound : Sound Go.Proofs.Tryz.prog G W0 29 p_set_Add := gen_sound (C := p_set_Add_c) tab_ok (specsOk_of (.cons _ _ _ _ call84 (p_set_bit_sound G W0 hG) (.skip _ _ .nil))) rfl (itsOk_of (.nil)) mixed fn29 body29 kept_p_set_Add (by kernel_rfl)
theorem p_set_Of_sound : Sound Go.Proofs.Tryz.prog G W0 94 p_set_Of := gen_sound (C := p_set_Of_c) tab_ok (specsOk_of (.cons _ _ _ _ call29 (p_set_Add_sound G W0 hG) (.skip _ _ .nil))) rfl (itsOk_of (.nil)) mixed fn94 body94 kept_p_set_Of (by kernel_rfl)
theorem p_plan_Greys_sound : Sound Go.Proofs.Tryz.prog G W0 43 p_plan_Greys := gen_sound (C := p_plan_Greys_c) tab_ok (specsOk_of (.cons _ _ _ _ call94 (p_set_Of_sound G W0 hG) (.skip _ _ .nil))) rfl (itsOk_of (.nil)) mixed fn43 body43 kept_p_plan_Greys (by kernel_rfl)
theorem p_ledger_New_sound : Sound Go.Proofs.Tryz.prog G W0 44 p_ledger_New := gen_sound (C := p_ledger_New_c) tab_ok (specsOk_of (.nil)) rfl (itsOk_of (.nil)) mixed fn44 body44 kept_p_ledger_New (by kernel_rfl)
theorem p_slices_Clone_Lint_int_sound : Sound Go.Proofs.Tryz.prog G W0 46 p_slices_Clone_Lint_int := gen_sound (C := p_slices_Clone_Lint_int_c) tab_ok (specsOk_of (.nil)) rfl (itsOk_of (.nil)) mixed fn46 body46 kept_p_slices_Clone_Lint_int (by kernel_rfl)
theorem p_state_each_Lint_sound : Sound Go.Proofs.Tryz.prog G W0 45 p_state_each_Lint := gen_sound (C := p_state_each_Lint_c) tab_ok (specsOk_of (.cons _ _ _ _ call46 (p_slices_Clone_Lint_int_sound G W0 hG) (.skip _ _ .nil))) rfl (itsOk_of (.nil)) mixed fn45 body45 kept_p_state_each_Lint (by kernel_rfl)
theorem p_deque_Cells_sound : Sound Go.Proofs.Tryz.prog G W0 47 p_deque_Cells := gen_sound (C := p_deque_Cells_c) tab_ok (specsOk_of (.nil)) rfl (itsOk_of (.nil)) mixed fn47 body47 kept_p_deque_Cells (by kernel_rfl)
theorem p_deque_Start_sound : Sound Go.Proofs.Tryz.prog G W0 48 p_deque_Start := gen_sound (C := p_deque_Start_c) tab_ok (specsOk_of (.nil)) rfl (itsOk_of (.nil)) mixed fn48 body48 kept_p_deque_Start (by kernel_rfl)
theorem p_plan_Bins_sound : Sound Go.Proofs.Tryz.prog G W0 49 p_plan_Bins := gen_sound (C := p_plan_Bins_c) tab_ok (specsOk_of (.nil)) rfl (itsOk_of (.nil)) mixed fn49 body49 kept_p_plan_Bins (by kernel_rfl)
theorem p_slices_Chunk_Lint_int_sound : Sound Go.Proofs.Tryz.prog G W0 50 p_slices_Chunk_Lint_int := gen_sound (C := p_slices_Chunk_Lint_int_c) tab_ok (specsOk_of (.nil)) rfl (itsOk_of (.nil)) mixed fn50 body50 kept_p_slices_Chunk_Lint_int (by kernel_rfl)
theorem p_set_each_sound : Sound Go.Proofs.Tryz.prog G W0 115 p_set_each := gen_sound (C := p_set_each_c) tab_ok (specsOk_of (.nil)) rfl (itsOk_of (.nil)) mixed fn115 body115 kept_p_set_each (by kernel_rfl)
theorem i_set_eachF1_ok : IterOk Go.Proofs.Tryz.prog G W0 159 i_set_eachF1 := i_set_eachF1_ok0 G W0 hG
theorem p_set_List_sound : Sound Go.Proofs.Tryz.prog G W0 51 p_set_List := gen_sound (C := p_set_List_c) tab_ok (specsOk_of (.cons _ _ _ _ call115 (p_set_each_sound G W0 hG) (.skip _ _ .nil))) rfl (itsOk_of (.cons _ _ _ (i_set_eachF1_ok G W0 hG) (.nil))) mixed fn51 body51 kept_p_set_List (by kernel_rfl)
theorem p_mem_DoF1_sound : Sound Go.Proofs.Tryz.prog G W0 174 p_mem_DoF1 := gen_sound (C := p_mem_DoF1_c) tab_ok (specsOk_of (.nil)) rfl (itsOk_of (.nil)) mixed fn174 body174 kept_p_mem_DoF1 (by kernel_rfl)
theorem p_mem_DoF2_sound : Sound Go.Proofs.Tryz.prog G W0 175 p_mem_DoF2 := gen_sound (C := p_mem_DoF2_c) tab_ok (specsOk_of (.nil)) rfl (itsOk_of (.nil)) mixed fn175 body175 kept_p_mem_DoF2 (by kernel_rfl)
theorem p_mem_DoF3_sound : Sound Go.Proofs.Tryz.prog G W0 176 p_mem_DoF3 := gen_sound (C := p_mem_DoF3_c) tab_ok (specsOk_of (.nil)) rfl (itsOk_of (.nil)) mixed fn176 body176 kept_p_mem_DoF3 (by kernel_rfl)
theorem p_mem_DoF4_sound : Sound Go.Proofs.Tryz.prog G W0 177 p_mem_DoF4 := gen_sound (C := p_mem_DoF4_c) tab_ok (specsOk_of (.nil)) rfl (itsOk_of (.nil)) mixed fn177 body177 kept_p_mem_DoF4 (by kernel_rfl)
theorem p_slices_Clone_mem_Mem_uint64_sound : Sound Go.Proofs.Tryz.prog G W0 178 p_slices_Clone_mem_Mem_uint64 := gen_sound (C := p_slices_Clone_mem_Mem_uint64_c) tab_ok (specsOk_of (.nil)) rfl (itsOk_of (.nil)) mixed fn178 body178 kept_p_slices_Clone_mem_Mem_uint64 (by kernel_rfl)
theorem p_mem_Do_sound : Sound Go.Proofs.Tryz.prog G W0 141 p_mem_Do := gen_sound (C := p_mem_Do_c) tab_ok (specsOk_of (.cons _ _ _ _ call174 (p_mem_DoF1_sound G W0 hG) (.skip _ _ (.cons _ _ _ _ call175 (p_mem_DoF2_sound G W0 hG) (.skip _ _ (.cons _ _ _ _ call176 (p_mem_DoF3_sound G W0 hG) (.skip _ _ (.cons _ _ _ _ call177 (p_mem_DoF4_sound G W0 hG) (.skip _ _ (.cons _ _ _ _ call178 (p_slices_Clone_mem_Mem_uint64_sound G W0 hG) (.skip _ _ .nil))))))))))) rfl (itsOk_of (.nil)) mixed fn141 body141 kept_p_mem_Do (by kernel_rfl)
theorem p_chain_store_sound : Sound Go.Proofs.Tryz.prog G W0 116 p_chain_store := gen_sound (C := p_chain_store_c) tab_ok (specsOk_of (.cons _ _ _ _ call141 (p_mem_Do_sound G W0 hG) (.skip _ _ .nil))) rfl (itsOk_of (.nil)) mixed fn116 body116 kept_p_chain_store (by kernel_rfl)
theorem p_chain_Pack_sound : Sound Go.Proofs.Tryz.prog G W0 117 p_chain_Pack := gen_sound (C := p_chain_Pack_c) tab_ok (specsOk_of (.nil)) rfl (itsOk_of (.nil)) mixed fn117 body117 kept_p_chain_Pack (by kernel_rfl)
theorem p_chain_Lay_sound : Sound Go.Proofs.Tryz.prog G W0 52 p_chain_Lay := gen_sound (C := p_chain_Lay_c) tab_ok (specsOk_of (.cons _ _ _ _ call116 (p_chain_store_sound G W0 hG) (.skip _ _ (.cons _ _ _ _ call117 (p_chain_Pack_sound G W0 hG) (.skip _ _ .nil))))) rfl (itsOk_of (.nil)) mixed fn52 body52 kept_p_chain_Lay (by kernel_rfl)
theorem i_slices_Chunk_Lint_int_F1_ok : IterOk Go.Proofs.Tryz.prog G W0 114 i_slices_Chunk_Lint_int_F1 := i_slices_Chunk_Lint_int_F1_ok0 G W0 hG
theorem p_state_New_sound : Sound Go.Proofs.Tryz.prog G W0 10 p_state_New := gen_sound (C := p_state_New_c) tab_ok (specsOk_of (.cons _ _ _ _ call26 (p_set_Count_sound G W0 hG) (.skip _ _ (.cons _ _ _ _ call33 (p_state_Deque_sound G W0 hG) (.skip _ _ (.cons _ _ _ _ call35 (p_state_Full_sound G W0 hG) (.skip _ _ (.cons _ _ _ _ call36 (p_state_Next_sound G W0 hG) (.skip _ _ (.cons _ _ _ _ call42 (p_plan_Right_sound G W0 hG) (.skip _ _ (.cons _ _ _ _ call43 (p_plan_Greys_sound G W0 hG) (.skip _ _ (.cons _ _ _ _ call44 (p_ledger_New_sound G W0 hG) (.skip _ _ (.cons _ _ _ _ call45 (p_state_each_Lint_sound G W0 hG) (.skip _ _ (.cons _ _ _ _ call46 (p_slices_Clone_Lint_int_sound G W0 hG) (.skip _ _ (.cons _ _ _ _ call47 (p_deque_Cells_sound G W0 hG) (.skip _ _ (.cons _ _ _ _ call48 (p_deque_Start_sound G W0 hG) (.skip _ _ (.cons _ _ _ _ call49 (p_plan_Bins_sound G W0 hG) (.skip _ _ (.cons _ _ _ _ call50 (p_slices_Chunk_Lint_int_sound G W0 hG) (.skip _ _ (.cons _ _ _ _ call51 (p_set_List_sound G W0 hG) (.skip _ _ (.cons _ _ _ _ call52 (p_chain_Lay_sound G W0 hG) (.skip _ _ (.cons _ _ _ _ call53 (p_state_Empty_sound G W0 hG) (.skip _ _ .nil))))))))))))))))))))))))))))))))) rfl (itsOk_of (.cons _ _ _ (i_slices_Chunk_Lint_int_F1_ok G W0 hG) (.nil))) mixed fn10 body10 kept_p_state_New (by kernel_rfl)
theorem p_grey_Begin_sound : Sound Go.Proofs.Tryz.prog G W0 12 p_grey_Begin := gen_sound (C := p_grey_Begin_c) tab_ok (specsOk_of (.nil)) rfl (itsOk_of (.nil)) mixed fn12 body12 kept_p_grey_Begin (by kernel_rfl)
theorem p_grey_machine_reserve_v1_sound : Sound Go.Proofs.Tryz.prog G W0 62 p_grey_machine_reserve_v1 := gen_sound (C := p_grey_machine_reserve_v1_c) tab_ok (specsOk_of (.nil)) rfl (itsOk_of (.nil)) mixed fn62 body62 kept_p_grey_machine_reserve_v1 (by kernel_rfl)
theorem p_set_Has_sound : Sound Go.Proofs.Tryz.prog G W0 140 p_set_Has := gen_sound (C := p_set_Has_c) tab_ok (specsOk_of (.cons _ _ _ _ call84 (p_set_bit_sound G W0 hG) (.skip _ _ .nil))) rfl (itsOk_of (.nil)) mixed fn140 body140 kept_p_set_Has (by kernel_rfl)
theorem p_tint_Shade_sound : Sound Go.Proofs.Tryz.prog G W0 120 p_tint_Shade := gen_sound (C := p_tint_Shade_c) tab_ok (specsOk_of (.cons _ _ _ _ call29 (p_set_Add_sound G W0 hG) (.skip _ _ (.cons _ _ _ _ call140 (p_set_Has_sound G W0 hG) (.skip _ _ .nil))))) rfl (itsOk_of (.nil)) mixed fn120 body120 kept_p_tint_Shade (by kernel_rfl)
theorem p_chain_Start_sound : Sound Go.Proofs.Tryz.prog G W0 125 p_chain_Start := gen_sound (C := p_chain_Start_c) tab_ok (specsOk_of (.nil)) rfl (itsOk_of (.nil)) mixed fn125 body125 kept_p_chain_Start (by kernel_rfl)
theorem p_grey_machine_ask_v1_sound : Sound Go.Proofs.Tryz.prog G W0 121 p_grey_machine_ask_v1 := gen_sound (C := p_grey_machine_ask_v1_c) tab_ok (specsOk_of (.cons _ _ _ _ call36 (p_state_Next_sound G W0 hG) (.skip _ _ (.cons _ _ _ _ call53 (p_state_Empty_sound G W0 hG) (.skip _ _ (.cons _ _ _ _ call125 (p_chain_Start_sound G W0 hG) (.skip _ _ .nil))))))) rfl (itsOk_of (.nil)) mixed fn121 body121 kept_p_grey_machine_ask_v1 (by kernel_rfl)
theorem p_grey_machine_mark_v1_sound : Sound Go.Proofs.Tryz.prog G W0 63 p_grey_machine_mark_v1 := gen_sound (C := p_grey_machine_mark_v1_c) tab_ok (specsOk_of (.cons _ _ _ _ call33 (p_state_Deque_sound G W0 hG) (.skip _ _ (.cons _ _ _ _ call48 (p_deque_Start_sound G W0 hG) (.skip _ _ (.cons _ _ _ _ call120 (p_tint_Shade_sound G W0 hG) (.skip _ _ (.cons _ _ _ _ call121 (p_grey_machine_ask_v1_sound G W0 hG) (.skip _ _ .nil))))))))) rfl (itsOk_of (.nil)) mixed fn63 body63 kept_p_grey_machine_mark_v1 (by kernel_rfl)
theorem p_grey_machine_back_v1_sound : Sound Go.Proofs.Tryz.prog G W0 64 p_grey_machine_back_v1 := gen_sound (C := p_grey_machine_back_v1_c) tab_ok (specsOk_of (.nil)) rfl (itsOk_of (.nil)) mixed fn64 body64 kept_p_grey_machine_back_v1 (by kernel_rfl)
theorem p_deque_stepsa_sound : Sound Go.Proofs.Tryz.prog G W0 161 p_deque_stepsa := gen_sound (C := p_deque_steps_c) tab_ok (specsOk_of (.nil)) rfl (itsOk_of (.nil)) mixed fn161 body161 kept_p_deque_steps (by kernel_rfl)
theorem p_deque_stepsb_sound : Sound Go.Proofs.Tryz.prog G W0 161 p_deque_stepsb := gen_sound (C := p_deque_steps_c) tab_ok (specsOk_of (.nil)) rfl (itsOk_of (.nil)) mixed fn161 body161 kept_p_deque_steps (by kernel_rfl)
theorem p_deque_stepsc_sound : Sound Go.Proofs.Tryz.prog G W0 161 p_deque_stepsc := gen_sound (C := p_deque_steps_c) tab_ok (specsOk_of (.nil)) rfl (itsOk_of (.nil)) mixed fn161 body161 kept_p_deque_steps (by kernel_rfl)
theorem p_deque_stepsd_sound : Sound Go.Proofs.Tryz.prog G W0 161 p_deque_stepsd := gen_sound (C := p_deque_steps_c) tab_ok (specsOk_of (.nil)) rfl (itsOk_of (.nil)) mixed fn161 body161 kept_p_deque_steps (by kernel_rfl)
theorem p_deque_load_sound : Sound Go.Proofs.Tryz.prog G W0 86 p_deque_load := gen_sound (C := p_deque_load_c) tab_ok (specsOk_of (.cons _ _ _ _ call141 (p_mem_Do_sound G W0 hG) (.skip _ _ .nil))) rfl (itsOk_of (.nil)) mixed fn86 body86 kept_p_deque_load (by kernel_rfl)
theorem p_deque_Machine_bottom_sound : Sound Go.Proofs.Tryz.prog G W0 88 p_deque_Machine_bottom := gen_sound (C := p_deque_Machine_bottom_c) tab_ok (specsOk_of (.nil)) rfl (itsOk_of (.nil)) mixed fn88 body88 kept_p_deque_Machine_bottom (by kernel_rfl)
theorem p_deque_Machine_seeBottom_v1_sound : Sound Go.Proofs.Tryz.prog G W0 183 p_deque_Machine_seeBottom_v1 := gen_sound (C := p_deque_Machine_seeBottom_v1_c) tab_ok (specsOk_of (.cons _ _ _ _ call86 (p_deque_load_sound G W0 hG) (.skip _ _ (.cons _ _ _ _ call88 (p_deque_Machine_bottom_sound G W0 hG) (.skip _ _ .nil))))) rfl (itsOk_of (.nil)) mixed fn183 body183 kept_p_deque_Machine_seeBottom_v1 (by kernel_rfl)
theorem p_deque_Machine_top_sound : Sound Go.Proofs.Tryz.prog G W0 87 p_deque_Machine_top := gen_sound (C := p_deque_Machine_top_c) tab_ok (specsOk_of (.nil)) rfl (itsOk_of (.nil)) mixed fn87 body87 kept_p_deque_Machine_top (by kernel_rfl)
theorem p_deque_Machine_size_sound : Sound Go.Proofs.Tryz.prog G W0 90 p_deque_Machine_size := gen_sound (C := p_deque_Machine_size_c) tab_ok (specsOk_of (.nil)) rfl (itsOk_of (.nil)) mixed fn90 body90 kept_p_deque_Machine_size (by kernel_rfl)
theorem p_deque_Machine_end_v1_sound : Sound Go.Proofs.Tryz.prog G W0 198 p_deque_Machine_end_v1 := gen_sound (C := p_deque_Machine_end_v1_c) tab_ok (specsOk_of (.nil)) rfl (itsOk_of (.nil)) mixed fn198 body198 kept_p_deque_Machine_end_v1 (by kernel_rfl)
theorem p_deque_Machine_room_v1_sound : Sound Go.Proofs.Tryz.prog G W0 184 p_deque_Machine_room_v1 := gen_sound (C := p_deque_Machine_room_v1_c) tab_ok (specsOk_of (.cons _ _ _ _ call86 (p_deque_load_sound G W0 hG) (.skip _ _ (.cons _ _ _ _ call87 (p_deque_Machine_top_sound G W0 hG) (.skip _ _ (.cons _ _ _ _ call90 (p_deque_Machine_size_sound G W0 hG) (.skip _ _ (.cons _ _ _ _ call198 (p_deque_Machine_end_v1_sound G W0 hG) (.skip _ _ .nil))))))))) rfl (itsOk_of (.nil)) mixed fn184 body184 kept_p_deque_Machine_room_v1 (by kernel_rfl)
theorem p_deque_Machine_place_sound : Sound Go.Proofs.Tryz.prog G W0 91 p_deque_Machine_place := gen_sound (C := p_deque_Machine_place_c) tab_ok (specsOk_of (.cons _ _ _ _ call90 (p_deque_Machine_size_sound G W0 hG) (.skip _ _ .nil))) rfl (itsOk_of (.nil)) mixed fn91 body91 kept_p_deque_Machine_place (by kernel_rfl)
theorem p_deque_store_sound : Sound Go.Proofs.Tryz.prog G W0 199 p_deque_store := gen_sound (C := p_deque_store_c) tab_ok (specsOk_of (.cons _ _ _ _ call141 (p_mem_Do_sound G W0 hG) (.skip _ _ .nil))) rfl (itsOk_of (.nil)) mixed fn199 body199 kept_p_deque_store (by kernel_rfl)
theorem p_deque_Machine_put_sound : Sound Go.Proofs.Tryz.prog G W0 185 p_deque_Machine_put := gen_sound (C := p_deque_Machine_put_c) tab_ok (specsOk_of (.cons _ _ _ _ call91 (p_deque_Machine_place_sound G W0 hG) (.skip _ _ (.cons _ _ _ _ call199 (p_deque_store_sound G W0 hG) (.skip _ _ .nil))))) rfl (itsOk_of (.nil)) mixed fn185 body185 kept_p_deque_Machine_put (by kernel_rfl)
theorem p_deque_Machine_publish_v1_sound : Sound Go.Proofs.Tryz.prog G W0 186 p_deque_Machine_publish_v1 := gen_sound (C := p_deque_Machine_publish_v1_c) tab_ok (specsOk_of (.cons _ _ _ _ call88 (p_deque_Machine_bottom_sound G W0 hG) (.skip _ _ (.cons _ _ _ _ call198 (p_deque_Machine_end_v1_sound G W0 hG) (.skip _ _ (.cons _ _ _ _ call199 (p_deque_store_sound G W0 hG) (.skip _ _ .nil))))))) rfl (itsOk_of (.nil)) mixed fn186 body186 kept_p_deque_Machine_publish_v1 (by kernel_rfl)
theorem p_deque_Machine_claim_sound : Sound Go.Proofs.Tryz.prog G W0 187 p_deque_Machine_claim := gen_sound (C := p_deque_Machine_claim_c) tab_ok (specsOk_of (.cons _ _ _ _ call88 (p_deque_Machine_bottom_sound G W0 hG) (.skip _ _ (.cons _ _ _ _ call199 (p_deque_store_sound G W0 hG) (.skip _ _ .nil))))) rfl (itsOk_of (.nil)) mixed fn187 body187 kept_p_deque_Machine_claim (by kernel_rfl)
theorem p_deque_above_sound : Sound Go.Proofs.Tryz.prog G W0 89 p_deque_above := gen_sound (C := p_deque_above_c) tab_ok (specsOk_of (.nil)) rfl (itsOk_of (.nil)) mixed fn89 body89 kept_p_deque_above (by kernel_rfl)
theorem p_deque_Machine_seeTop_v1_sound : Sound Go.Proofs.Tryz.prog G W0 188 p_deque_Machine_seeTop_v1 := gen_sound (C := p_deque_Machine_seeTop_v1_c) tab_ok (specsOk_of (.cons _ _ _ _ call86 (p_deque_load_sound G W0 hG) (.skip _ _ (.cons _ _ _ _ call87 (p_deque_Machine_top_sound G W0 hG) (.skip _ _ (.cons _ _ _ _ call89 (p_deque_above_sound G W0 hG) (.skip _ _ .nil))))))) rfl (itsOk_of (.nil)) mixed fn188 body188 kept_p_deque_Machine_seeTop_v1 (by kernel_rfl)
theorem p_deque_Machine_get_v1_sound : Sound Go.Proofs.Tryz.prog G W0 189 p_deque_Machine_get_v1 := gen_sound (C := p_deque_Machine_get_v1_c) tab_ok (specsOk_of (.cons _ _ _ _ call86 (p_deque_load_sound G W0 hG) (.skip _ _ (.cons _ _ _ _ call91 (p_deque_Machine_place_sound G W0 hG) (.skip _ _ (.cons _ _ _ _ call198 (p_deque_Machine_end_v1_sound G W0 hG) (.skip _ _ .nil))))))) rfl (itsOk_of (.nil)) mixed fn189 body189 kept_p_deque_Machine_get_v1 (by kernel_rfl)
theorem p_deque_Machine_take_sound : Sound Go.Proofs.Tryz.prog G W0 200 p_deque_Machine_take := gen_sound (C := p_deque_Machine_take_c) tab_ok (specsOk_of (.cons _ _ _ _ call87 (p_deque_Machine_top_sound G W0 hG) (.skip _ _ (.cons _ _ _ _ call141 (p_mem_Do_sound G W0 hG) (.skip _ _ .nil))))) rfl (itsOk_of (.nil)) mixed fn200 body200 kept_p_deque_Machine_take (by kernel_rfl)
theorem p_deque_Machine_race_v1_sound : Sound Go.Proofs.Tryz.prog G W0 190 p_deque_Machine_race_v1 := gen_sound (C := p_deque_Machine_race_v1_c) tab_ok (specsOk_of (.cons _ _ _ _ call200 (p_deque_Machine_take_sound G W0 hG) (.skip _ _ .nil))) rfl (itsOk_of (.nil)) mixed fn190 body190 kept_p_deque_Machine_race_v1 (by kernel_rfl)
theorem p_deque_Machine_fail_v1_sound : Sound Go.Proofs.Tryz.prog G W0 191 p_deque_Machine_fail_v1 := gen_sound (C := p_deque_Machine_fail_v1_c) tab_ok (specsOk_of (.cons _ _ _ _ call88 (p_deque_Machine_bottom_sound G W0 hG) (.skip _ _ (.cons _ _ _ _ call198 (p_deque_Machine_end_v1_sound G W0 hG) (.skip _ _ (.cons _ _ _ _ call199 (p_deque_store_sound G W0 hG) (.skip _ _ .nil))))))) rfl (itsOk_of (.nil)) mixed fn191 body191 kept_p_deque_Machine_fail_v1 (by kernel_rfl)
theorem p_deque_Machine_won_v1_sound : Sound Go.Proofs.Tryz.prog G W0 192 p_deque_Machine_won_v1 := gen_sound (C := p_deque_Machine_won_v1_c) tab_ok (specsOk_of (.cons _ _ _ _ call88 (p_deque_Machine_bottom_sound G W0 hG) (.skip _ _ (.cons _ _ _ _ call198 (p_deque_Machine_end_v1_sound G W0 hG) (.skip _ _ (.cons _ _ _ _ call199 (p_deque_store_sound G W0 hG) (.skip _ _ .nil))))))) rfl (itsOk_of (.nil)) mixed fn192 body192 kept_p_deque_Machine_won_v1 (by kernel_rfl)
theorem p_deque_Machine_aim_v1_sound : Sound Go.Proofs.Tryz.prog G W0 193 p_deque_Machine_aim_v1 := gen_sound (C := p_deque_Machine_aim_v1_c) tab_ok (specsOk_of (.cons _ _ _ _ call86 (p_deque_load_sound G W0 hG) (.skip _ _ (.cons _ _ _ _ call87 (p_deque_Machine_top_sound G W0 hG) (.skip _ _ .nil))))) rfl (itsOk_of (.nil)) mixed fn193 body193 kept_p_deque_Machine_aim_v1 (by kernel_rfl)
theorem p_deque_Machine_any_v1_sound : Sound Go.Proofs.Tryz.prog G W0 194 p_deque_Machine_any_v1 := gen_sound (C := p_deque_Machine_any_v1_c) tab_ok (specsOk_of (.cons _ _ _ _ call86 (p_deque_load_sound G W0 hG) (.skip _ _ (.cons _ _ _ _ call88 (p_deque_Machine_bottom_sound G W0 hG) (.skip _ _ (.cons _ _ _ _ call89 (p_deque_above_sound G W0 hG) (.skip _ _ .nil))))))) rfl (itsOk_of (.nil)) mixed fn194 body194 kept_p_deque_Machine_any_v1 (by kernel_rfl)
theorem p_deque_Machine_peek_v1_sound : Sound Go.Proofs.Tryz.prog G W0 195 p_deque_Machine_peek_v1 := gen_sound (C := p_deque_Machine_peek_v1_c) tab_ok (specsOk_of (.cons _ _ _ _ call86 (p_deque_load_sound G W0 hG) (.skip _ _ (.cons _ _ _ _ call91 (p_deque_Machine_place_sound G W0 hG) (.skip _ _ .nil))))) rfl (itsOk_of (.nil)) mixed fn195 body195 kept_p_deque_Machine_peek_v1 (by kernel_rfl)
theorem p_deque_Machine_snatch_v1_sound : Sound Go.Proofs.Tryz.prog G W0 196 p_deque_Machine_snatch_v1 := gen_sound (C := p_deque_Machine_snatch_v1_c) tab_ok (specsOk_of (.cons _ _ _ _ call198 (p_deque_Machine_end_v1_sound G W0 hG) (.skip _ _ (.cons _ _ _ _ call200 (p_deque_Machine_take_sound G W0 hG) (.skip _ _ .nil))))) rfl (itsOk_of (.nil)) mixed fn196 body196 kept_p_deque_Machine_snatch_v1 (by kernel_rfl)
theorem p_deque_Step_sound : Sound Go.Proofs.Tryz.prog G W0 122 p_deque_Step := gen_sound (C := p_deque_Step_c) tab_ok (specsOk_of (.cons _ _ _ _ call161 (p_deque_stepsa_sound G W0 hG) (.cons _ _ _ _ call161 (p_deque_stepsb_sound G W0 hG) (.cons _ _ _ _ call161 (p_deque_stepsc_sound G W0 hG) (.cons _ _ _ _ call161 (p_deque_stepsd_sound G W0 hG) (.skip _ _ (.cons _ _ _ _ call183 (p_deque_Machine_seeBottom_v1_sound G W0 hG) (.skip _ _ (.cons _ _ _ _ call184 (p_deque_Machine_room_v1_sound G W0 hG) (.skip _ _ (.cons _ _ _ _ call185 (p_deque_Machine_put_sound G W0 hG) (.skip _ _ (.cons _ _ _ _ call186 (p_deque_Machine_publish_v1_sound G W0 hG) (.skip _ _ (.cons _ _ _ _ call187 (p_deque_Machine_claim_sound G W0 hG) (.skip _ _ (.cons _ _ _ _ call188 (p_deque_Machine_seeTop_v1_sound G W0 hG) (.skip _ _ (.cons _ _ _ _ call189 (p_deque_Machine_get_v1_sound G W0 hG) (.skip _ _ (.cons _ _ _ _ call190 (p_deque_Machine_race_v1_sound G W0 hG) (.skip _ _ (.cons _ _ _ _ call191 (p_deque_Machine_fail_v1_sound G W0 hG) (.skip _ _ (.cons _ _ _ _ call192 (p_deque_Machine_won_v1_sound G W0 hG) (.skip _ _ (.cons _ _ _ _ call193 (p_deque_Machine_aim_v1_sound G W0 hG) (.skip _ _ (.cons _ _ _ _ call194 (p_deque_Machine_any_v1_sound G W0 hG) (.skip _ _ (.cons _ _ _ _ call195 (p_deque_Machine_peek_v1_sound G W0 hG) (.skip _ _ (.cons _ _ _ _ call196 (p_deque_Machine_snatch_v1_sound G W0 hG) (.skip _ _ .nil)))))))))))))))))))))))))))))))))) rfl (itsOk_of (.nil)) mixed fn122 body122 kept_p_deque_Step (by kernel_rfl)
theorem p_grey_machine_push_v1_sound : Sound Go.Proofs.Tryz.prog G W0 65 p_grey_machine_push_v1 := gen_sound (C := p_grey_machine_push_v1_c) tab_ok (specsOk_of (.cons _ _ _ _ call121 (p_grey_machine_ask_v1_sound G W0 hG) (.skip _ _ (.cons _ _ _ _ call122 (p_deque_Step_sound G W0 hG) (.skip _ _ .nil))))) rfl (itsOk_of (.nil)) mixed fn65 body65 kept_p_grey_machine_push_v1 (by kernel_rfl)
theorem p_grey_machine_tell_v1_sound : Sound Go.Proofs.Tryz.prog G W0 66 p_grey_machine_tell_v1 := gen_sound (C := p_grey_machine_tell_v1_c) tab_ok (specsOk_of (.cons _ _ _ _ call121 (p_grey_machine_ask_v1_sound G W0 hG) (.skip _ _ .nil))) rfl (itsOk_of (.nil)) mixed fn66 body66 kept_p_grey_machine_tell_v1 (by kernel_rfl)
theorem p_chain_Node_sound : Sound Go.Proofs.Tryz.prog G W0 92 p_chain_Node := gen_sound (C := p_chain_Node_c) tab_ok (specsOk_of (.nil)) rfl (itsOk_of (.nil)) mixed fn92 body92 kept_p_chain_Node (by kernel_rfl)
theorem p_chain_load_sound : Sound Go.Proofs.Tryz.prog G W0 93 p_chain_load := gen_sound (C := p_chain_load_c) tab_ok (specsOk_of (.cons _ _ _ _ call141 (p_mem_Do_sound G W0 hG) (.skip _ _ .nil))) rfl (itsOk_of (.nil)) mixed fn93 body93 kept_p_chain_load (by kernel_rfl)
theorem p_chain_Machine_see_v1_sound : Sound Go.Proofs.Tryz.prog G W0 162 p_chain_Machine_see_v1 := gen_sound (C := p_chain_Machine_see_v1_c) tab_ok (specsOk_of (.cons _ _ _ _ call92 (p_chain_Node_sound G W0 hG) (.skip _ _ (.cons _ _ _ _ call93 (p_chain_load_sound G W0 hG) (.skip _ _ .nil))))) rfl (itsOk_of (.nil)) mixed fn162 body162 kept_p_chain_Machine_see_v1 (by kernel_rfl)
theorem p_chain_Machine_link_sound : Sound Go.Proofs.Tryz.prog G W0 163 p_chain_Machine_link := gen_sound (C := p_chain_Machine_link_c) tab_ok (specsOk_of (.cons _ _ _ _ call92 (p_chain_Node_sound G W0 hG) (.skip _ _ (.cons _ _ _ _ call116 (p_chain_store_sound G W0 hG) (.skip _ _ .nil))))) rfl (itsOk_of (.nil)) mixed fn163 body163 kept_p_chain_Machine_link (by kernel_rfl)
theorem p_chain_Machine_swap_v1_sound : Sound Go.Proofs.Tryz.prog G W0 164 p_chain_Machine_swap_v1 := gen_sound (C := p_chain_Machine_swap_v1_c) tab_ok (specsOk_of (.cons _ _ _ _ call92 (p_chain_Node_sound G W0 hG) (.skip _ _ (.cons _ _ _ _ call117 (p_chain_Pack_sound G W0 hG) (.skip _ _ (.cons _ _ _ _ call141 (p_mem_Do_sound G W0 hG) (.skip _ _ .nil))))))) rfl (itsOk_of (.nil)) mixed fn164 body164 kept_p_chain_Machine_swap_v1 (by kernel_rfl)
theorem p_chain_Machine_behind_v1_sound : Sound Go.Proofs.Tryz.prog G W0 165 p_chain_Machine_behind_v1 := gen_sound (C := p_chain_Machine_behind_v1_c) tab_ok (specsOk_of (.cons _ _ _ _ call92 (p_chain_Node_sound G W0 hG) (.skip _ _ (.cons _ _ _ _ call93 (p_chain_load_sound G W0 hG) (.skip _ _ .nil))))) rfl (itsOk_of (.nil)) mixed fn165 body165 kept_p_chain_Machine_behind_v1 (by kernel_rfl)
theorem p_chain_Step_sound : Sound Go.Proofs.Tryz.prog G W0 123 p_chain_Step := gen_sound (C := p_chain_Step_c) tab_ok (specsOk_of (.cons _ _ _ _ call162 (p_chain_Machine_see_v1_sound G W0 hG) (.skip _ _ (.cons _ _ _ _ call163 (p_chain_Machine_link_sound G W0 hG) (.skip _ _ (.cons _ _ _ _ call164 (p_chain_Machine_swap_v1_sound G W0 hG) (.skip _ _ (.cons _ _ _ _ call165 (p_chain_Machine_behind_v1_sound G W0 hG) (.skip _ _ .nil))))))))) rfl (itsOk_of (.nil)) mixed fn123 body123 kept_p_chain_Step (by kernel_rfl)
theorem p_grey_machine_take_v1_sound : Sound Go.Proofs.Tryz.prog G W0 67 p_grey_machine_take_v1 := gen_sound (C := p_grey_machine_take_v1_c) tab_ok (specsOk_of (.cons _ _ _ _ call121 (p_grey_machine_ask_v1_sound G W0 hG) (.skip _ _ (.cons _ _ _ _ call123 (p_chain_Step_sound G W0 hG) (.skip _ _ .nil))))) rfl (itsOk_of (.nil)) mixed fn67 body67 kept_p_grey_machine_take_v1 (by kernel_rfl)
theorem p_slices_Clone_LLint_Lint_sound : Sound Go.Proofs.Tryz.prog G W0 124 p_slices_Clone_LLint_Lint := gen_sound (C := p_slices_Clone_LLint_Lint_c) tab_ok (specsOk_of (.nil)) rfl (itsOk_of (.nil)) mixed fn124 body124 kept_p_slices_Clone_LLint_Lint (by kernel_rfl)
theorem p_grey_machine_fill_v1_sound : Sound Go.Proofs.Tryz.prog G W0 68 p_grey_machine_fill_v1 := gen_sound (C := p_grey_machine_fill_v1_c) tab_ok (specsOk_of (.cons _ _ _ _ call35 (p_state_Full_sound G W0 hG) (.skip _ _ (.cons _ _ _ _ call36 (p_state_Next_sound G W0 hG) (.skip _ _ (.cons _ _ _ _ call124 (p_slices_Clone_LLint_Lint_sound G W0 hG) (.skip _ _ (.cons _ _ _ _ call125 (p_chain_Start_sound G W0 hG) (.skip _ _ .nil))))))))) rfl (itsOk_of (.nil)) mixed fn68 body68 kept_p_grey_machine_fill_v1 (by kernel_rfl)
theorem p_grey_machine_publish_v1_sound : Sound Go.Proofs.Tryz.prog G W0 69 p_grey_machine_publish_v1 := gen_sound (C := p_grey_machine_publish_v1_c) tab_ok (specsOk_of (.cons _ _ _ _ call123 (p_chain_Step_sound G W0 hG) (.skip _ _ .nil))) rfl (itsOk_of (.nil)) mixed fn69 body69 kept_p_grey_machine_publish_v1 (by kernel_rfl)
theorem p_grey_Step_sound : Sound Go.Proofs.Tryz.prog G W0 15 p_grey_Step := gen_sound (C := p_grey_Step_c) tab_ok (specsOk_of (.cons _ _ _ _ call62 (p_grey_machine_reserve_v1_sound G W0 hG) (.skip _ _ (.cons _ _ _ _ call63 (p_grey_machine_mark_v1_sound G W0 hG) (.skip _ _ (.cons _ _ _ _ call64 (p_grey_machine_back_v1_sound G W0 hG) (.skip _ _ (.cons _ _ _ _ call65 (p_grey_machine_push_v1_sound G W0 hG) (.skip _ _ (.cons _ _ _ _ call66 (p_grey_machine_tell_v1_sound G W0 hG) (.skip _ _ (.cons _ _ _ _ call67 (p_grey_machine_take_v1_sound G W0 hG) (.skip _ _ (.cons _ _ _ _ call68 (p_grey_machine_fill_v1_sound G W0 hG) (.skip _ _ (.cons _ _ _ _ call69 (p_grey_machine_publish_v1_sound G W0 hG) (.skip _ _ .nil))))))))))))))))) rfl (itsOk_of (.nil)) mixed fn15 body15 kept_p_grey_Step (by kernel_rfl)
theorem p_grey_at_sound : Sound Go.Proofs.Tryz.prog G W0 82 p_grey_at := gen_sound (C := p_grey_at_c) tab_ok (specsOk_of (.nil)) rfl (itsOk_of (.nil)) mixed fn82 body82 kept_p_grey_at (by kernel_rfl)
theorem p_grey_Holds_sound : Sound Go.Proofs.Tryz.prog G W0 18 p_grey_Holds := gen_sound (C := p_grey_Holds_c) tab_ok (specsOk_of (.cons _ _ _ _ call82 (p_grey_at_sound G W0 hG) (.skip _ _ .nil))) rfl (itsOk_of (.nil)) mixed fn18 body18 kept_p_grey_Holds (by kernel_rfl)
theorem p_grey_Asks_sound : Sound Go.Proofs.Tryz.prog G W0 20 p_grey_Asks := gen_sound (C := p_grey_Asks_c) tab_ok (specsOk_of (.cons _ _ _ _ call82 (p_grey_at_sound G W0 hG) (.skip _ _ .nil))) rfl (itsOk_of (.nil)) mixed fn20 body20 kept_p_grey_Asks (by kernel_rfl)
theorem p_grey_Owes_sound : Sound Go.Proofs.Tryz.prog G W0 22 p_grey_Owes := gen_sound (C := p_grey_Owes_c) tab_ok (specsOk_of (.cons _ _ _ _ call82 (p_grey_at_sound G W0 hG) (.skip _ _ .nil))) rfl (itsOk_of (.nil)) mixed fn22 body22 kept_p_grey_Owes (by kernel_rfl)
theorem p_besomlaw14_run_sound : Sound Go.Proofs.Tryz.prog G W0 28 p_besomlaw14_run := gen_sound (C := p_besomlaw14_run_c) tab_ok (specsOk_of (.cons _ _ _ _ call15 (p_grey_Step_sound G W0 hG) (.skip _ _ .nil))) rfl (itsOk_of (.nil)) mixed fn28 body28 kept_p_besomlaw14_run (by kernel_rfl)
theorem p_chain_List_sound : Sound Go.Proofs.Tryz.prog G W0 34 p_chain_List := gen_sound (C := p_chain_List_c) tab_ok (specsOk_of (.cons _ _ _ _ call92 (p_chain_Node_sound G W0 hG) (.skip _ _ (.cons _ _ _ _ call93 (p_chain_load_sound G W0 hG) (.skip _ _ .nil))))) rfl (itsOk_of (.nil)) mixed fn34 body34 kept_p_chain_List (by kernel_rfl)
theorem p_besomlaw14_small_sound : Sound Go.Proofs.Tryz.prog G W0 39 p_besomlaw14_small := gen_sound (C := p_besomlaw14_small_c) tab_ok (specsOk_of (.nil)) rfl (itsOk_of (.nil)) mixed fn39 body39 kept_p_besomlaw14_small (by kernel_rfl)
theorem p_besomlaw14_examples_sound : Sound Go.Proofs.Tryz.prog G W0 8 p_besomlaw14_examples := gen_sound (C := p_besomlaw14_examples_c) tab_ok (specsOk_of (.cons _ _ _ _ call10 (p_state_New_sound G W0 hG) (.skip _ _ (.cons _ _ _ _ call12 (p_grey_Begin_sound G W0 hG) (.skip _ _ (.cons _ _ _ _ call15 (p_grey_Step_sound G W0 hG) (.skip _ _ (.cons _ _ _ _ call18 (p_grey_Holds_sound G W0 hG) (.skip _ _ (.cons _ _ _ _ call20 (p_grey_Asks_sound G W0 hG) (.skip _ _ (.cons _ _ _ _ call22 (p_grey_Owes_sound G W0 hG) (.skip _ _ (.cons _ _ _ _ call28 (p_besomlaw14_run_sound G W0 hG) (.skip _ _ (.cons _ _ _ _ call34 (p_chain_List_sound G W0 hG) (.skip _ _ (.cons _ _ _ _ call35 (p_state_Full_sound G W0 hG) (.skip _ _ (.cons _ _ _ _ call36 (p_state_Next_sound G W0 hG) (.skip _ _ (.cons _ _ _ _ call39 (p_besomlaw14_small_sound G W0 hG) (.skip _ _ .nil))))))))))))))))))))))) rfl (itsOk_of (.nil)) mixed fn8 body8 kept_p_besomlaw14_examples (by kernel_rfl)
theorem p_besomlaw14_Maker_byte_v1_sound : Sound Go.Proofs.Tryz.prog G W0 40 p_besomlaw14_Maker_byte_v1 := gen_sound (C := p_besomlaw14_Maker_byte_v1_c) tab_ok (specsOk_of (.nil)) rfl (itsOk_of (.nil)) mixed fn40 body40 kept_p_besomlaw14_Maker_byte_v1 (by kernel_rfl)
theorem p_besomlaw14_Maker_op_v1_sound : Sound Go.Proofs.Tryz.prog G W0 41 p_besomlaw14_Maker_op_v1 := gen_sound (C := p_besomlaw14_Maker_op_v1_c) tab_ok (specsOk_of (.cons _ _ _ _ call40 (p_besomlaw14_Maker_byte_v1_sound G W0 hG) (.skip _ _ .nil))) rfl (itsOk_of (.nil)) mixed fn41 body41 kept_p_besomlaw14_Maker_op_v1 (by kernel_rfl)
theorem p_besomlaw14_made_sound : Sound Go.Proofs.Tryz.prog G W0 9 p_besomlaw14_made := gen_sound (C := p_besomlaw14_made_c) tab_ok (specsOk_of (.cons _ _ _ _ call29 (p_set_Add_sound G W0 hG) (.skip _ _ (.cons _ _ _ _ call40 (p_besomlaw14_Maker_byte_v1_sound G W0 hG) (.skip _ _ (.cons _ _ _ _ call41 (p_besomlaw14_Maker_op_v1_sound G W0 hG) (.skip _ _ .nil))))))) rfl (itsOk_of (.nil)) mixed fn9 body9 kept_p_besomlaw14_made (by kernel_rfl)
theorem p_besomlaw14_Grow_begin_sound : Sound Go.Proofs.Tryz.prog G W0 11 p_besomlaw14_Grow_begin := gen_sound (C := p_besomlaw14_Grow_begin_c) tab_ok (specsOk_of (.cons _ _ _ _ call12 (p_grey_Begin_sound G W0 hG) (.skip _ _ .nil))) rfl (itsOk_of (.nil)) mixed fn11 body11 kept_p_besomlaw14_Grow_begin (by kernel_rfl)
theorem p_besomlaw14_two_sound : Sound Go.Proofs.Tryz.prog G W0 25 p_besomlaw14_two := gen_sound (C := p_besomlaw14_two_c) tab_ok (specsOk_of (.cons _ _ _ _ call9 (p_besomlaw14_made_sound G W0 hG) (.skip _ _ (.cons _ _ _ _ call10 (p_state_New_sound G W0 hG) (.skip _ _ (.cons _ _ _ _ call11 (p_besomlaw14_Grow_begin_sound G W0 hG) (.skip _ _ (.cons _ _ _ _ call12 (p_grey_Begin_sound G W0 hG) (.skip _ _ (.cons _ _ _ _ call15 (p_grey_Step_sound G W0 hG) (.skip _ _ .nil))))))))))) rfl (itsOk_of (.nil)) mixed fn25 body25 kept_p_besomlaw14_two (by kernel_rfl)
theorem p_tint_Greys_sound : Sound Go.Proofs.Tryz.prog G W0 27 p_tint_Greys := gen_sound (C := p_tint_Greys_c) tab_ok (specsOk_of (.nil)) rfl (itsOk_of (.nil)) mixed fn27 body27 kept_p_tint_Greys (by kernel_rfl)
theorem p_besomlaw14_GreyCounts_sound : Sound Go.Proofs.Tryz.prog G W0 4 p_besomlaw14_GreyCounts := gen_sound (C := p_besomlaw14_GreyCounts_c) tab_ok (specsOk_of (.cons _ _ _ _ call8 (p_besomlaw14_examples_sound G W0 hG) (.skip _ _ (.cons _ _ _ _ call22 (p_grey_Owes_sound G W0 hG) (.skip _ _ (.cons _ _ _ _ call25 (p_besomlaw14_two_sound G W0 hG) (.skip _ _ (.cons _ _ _ _ call26 (p_set_Count_sound G W0 hG) (.skip _ _ (.cons _ _ _ _ call27 (p_tint_Greys_sound G W0 hG) (.skip _ _ .nil))))))))))) rfl (itsOk_of (.nil)) mixed fn4 body4 kept_p_besomlaw14_GreyCounts (by kernel_rfl)
end Go.Pe.G
