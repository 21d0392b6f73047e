/- Own work of this seat: G2i, GH, G3. -/
import Derived.Test.YtofljjggmmcgjaaGreatDoorTGa
set_option linter.unusedVariables false
set_option linter.unusedSectionVars false
set_option linter.unusedSimpArgs false
set_option linter.unnecessarySimpa false
set_option linter.deprecated false
set_option maxRecDepth 100000
namespace Go.Pe.G
open Go.Pe
theorem fn114 : Go.Proofs.Tryz.prog.funcs[114]? = some Go.Proofs.Tryz.f114 := by kernel_rfl
theorem body114 : Go.Proofs.Tryz.f114.body.isSome = true := by kernel_rfl
theorem call114 : callable Go.Proofs.Tryz.prog 114 = true := by kernel_rfl
theorem fn159 : Go.Proofs.Tryz.prog.funcs[159]? = some Go.Proofs.Tryz.f159 := by kernel_rfl
theorem body159 : Go.Proofs.Tryz.f159.body.isSome = true := by kernel_rfl
theorem call159 : callable Go.Proofs.Tryz.prog 159 = true := by kernel_rfl
theorem i_set_eachF1_r0_eq (ys : List Int) (s1 : Int) (s2 : Int) (s3 : BitVec 64) : i_set_eachF1_r0 ys (s1, s2, s3, ()) =
  bif !(decide (s3 = 0#64)) then
    (qTZ s3).bind fun (y1 : Int × Unit) =>
    (isNext ys s2 (w64 (y1.1 + 1))).bind fun _ =>
    some (.again (s1, s2 + 1, s3 &&& (s3 - 1#64), ()))
  else
    some (.brk (s1, s2, ())) := by kernel_rfl
theorem i_set_eachF1_eq (n : Int) (ys : List Int) (a1 : BitVec 64) : iterOf (i_set_eachF1_c ys) Go.Proofs.Tryz.f159 i_set_eachF1_i n ((a1, ()) : (BitVec 64) × Unit) =
  (loopF (i_set_eachF1_r0 ys) (n, 0, a1, ())).bind fun st => match st with
    | .again _ => none
    | .brk (y1 : Int × Int × Unit) =>
      some y1.2.1
    | .ret (y1 : Int × Int × Unit) =>
      some y1.2.1 := by kernel_rfl
theorem i_slices_Chunk_Lint_int_F1_r1_eq (ys : List (List Int)) (s1 : Int) (s2 : Int) (s3 : Int) (s4 : List Int) (s5 : Int) : i_slices_Chunk_Lint_int_F1_r1 ys (s1, s2, s3, s4, s5, ()) =
  bif decide (s3 < ((s4.length : Int))) then
    (cut s4 s3 ((s4.length : Int))).bind fun l1 =>
    bif decide (s3 = 0) && decide ((w64 (s3 + (bif decide (((l1.length : Int)) < s5) then ((l1.length : Int)) else s5))) = 0) && decide ((w64 (s3 + (bif decide (((l1.length : Int)) < s5) then ((l1.length : Int)) else s5))) = 0) then
      (isNext ys s2 ([] : List Int)).bind fun _ =>
      some (.again (s1, s2 + 1, w64 (s3 + s5), s4, s5, ()))
    else
      bif decide (s3 = 0) && decide ((w64 (s3 + (bif decide (((l1.length : Int)) < s5) then ((l1.length : Int)) else s5))) = ((s4.length : Int))) && decide ((w64 (s3 + (bif decide (((l1.length : Int)) < s5) then ((l1.length : Int)) else s5))) = ((s4.length : Int))) then
        (isNext ys s2 s4).bind fun _ =>
        some (.again (s1, s2 + 1, w64 (s3 + s5), s4, s5, ()))
      else
        bif decide ((w64 (s3 + (bif decide (((l1.length : Int)) < s5) then ((l1.length : Int)) else s5))) = (w64 (s3 + (bif decide (((l1.length : Int)) < s5) then ((l1.length : Int)) else s5)))) then
          (cut s4 s3 (w64 (s3 + (bif decide (((l1.length : Int)) < s5) then ((l1.length : Int)) else s5)))).bind fun l2 =>
          (isNext ys s2 l2).bind fun _ =>
          some (.again (s1, s2 + 1, w64 (s3 + s5), s4, s5, ()))
        else
          none
  else
    some (.brk (s1, s2, ())) := by kernel_rfl
theorem i_slices_Chunk_Lint_int_F1_eq (n : Int) (ys : List (List Int)) (a1 : List Int) (a2 : Int) : iterOf (i_slices_Chunk_Lint_int_F1_c ys) Go.Proofs.Tryz.f114 i_slices_Chunk_Lint_int_F1_i n ((a1, a2, ()) : (List Int) × Int × Unit) =
  (loopF (i_slices_Chunk_Lint_int_F1_r1 ys) (n, 0, 0, a1, a2, ())).bind fun st => match st with
    | .again _ => none
    | .brk (y1 : Int × Int × Unit) =>
      some y1.2.1
    | .ret (y1 : Int × Int × Unit) =>
      some y1.2.1 := by kernel_rfl
end Go.Pe.G
namespace Go.Pe.G
open Go.Pe
theorem iter_mono {A B D : Type} (g : A → Option (Stop A B D)) {o : Stop Unit B D} : ∀ (k m : Nat) (x : A), iter g k x = some o → k ≤ m → iter g m x = some o
  | 0, m, x, h, _ => by cases h
  | k + 1, 0, x, h, hm => by omega
  | k + 1, m + 1, x, h, hm => by
    simp only [iter, Option.bind_eq_some_iff] at h ⊢
    obtain ⟨s, h1, h2⟩ := h
    refine ⟨s, h1, ?_⟩
    cases s with
    | again y => exact iter_mono g k m y h2 (by omega)
    | brk b => exact h2
    | ret c => exact h2
theorem isNext_at {α : Type} (pre post : List α) (z : α) : isNext (pre ++ z :: post) (pre.length : Int) z = some () := by
  unfold isNext
  rw [if_pos]
  refine ⟨by omega, ?_⟩
  simp
theorem i_set_eachF1_loop (n : Int) (ys : List Int) : ∀ (f : Nat) (s : BitVec 64) (l pre : List Int), bitsAsc f s = some l → ys = pre ++ l → iter (i_set_eachF1_r0 ys) f (n, (pre.length : Int), s, ()) = some (.brk (n, (ys.length : Int), ()))
  | 0, s, l, pre, h, _ => by cases h
  | f + 1, s, l, pre, h, e => by
    simp only [bitsAsc] at h
    simp only [iter, i_set_eachF1_r0_eq]
    cases hz : decide (s = 0#64) with
    | true =>
      simp only [hz, cond_true, Option.some.injEq] at h
      subst h
      simp only [List.append_nil] at e
      subst e
      rfl
    | false =>
      simp only [hz, cond_false, Option.map_eq_some_iff] at h
      obtain ⟨l', h1, rfl⟩ := h
      have hn : isNext ys (pre.length : Int) (w64 (tz s + 1)) = some () := by rw [e]; exact isNext_at pre l' _
      simp only [Bool.not_false, cond_true, qTZ_eq, Option.bind_some, hn]
      have := i_set_eachF1_loop n ys f (s &&& (s - 1#64)) l' (pre ++ [w64 (tz s + 1)]) h1 (by rw [e]; simp)
      simpa using this
theorem i_set_eachF1_ok0 (G : Nat → Prop) (W0 : World) (hG : Glob G W0) : IterOk Go.Proofs.Tryz.prog G W0 159 i_set_eachF1 := by
  obtain ⟨c, hc⟩ := Option.isSome_iff_exists.1 body159
  refine iter_sound (Cg := i_set_eachF1_c []) rfl tab_ok (fun f s hs => Oks.at (.cons _ _ _ _ call160 (pTZ_sound G W0 hG) (.skip _ _ .nil)) f s hs) rfl mixed (fun g it h => by cases h) call159 fn159 hc i_set_eachF1 (Nat.le_of_ble_eq_true (by kernel_rfl)) rfl ?_
  rintro n ⟨a, ⟨⟩⟩ ys h
  have h : bitsAsc 66 a = some ys := h
  have e := i_set_eachF1_eq n ys a
  have k := iter_mono _ 66 rounds _ (i_set_eachF1_loop n ys 66 a ys [] h rfl) (by decide)
  refine Eq.trans e ?_
  have k' : iter (i_set_eachF1_r0 ys) rounds (n, 0, a, ()) = some (.brk (n, (ys.length : Int), ())) := k
  rw [loopF_eq, k']
  rfl
theorem w64_id {a : Int} (h : -9223372036854775808 ≤ a) (h2 : a < 9223372036854775808) : w64 a = a := by
  rw [w64_def]
  omega
theorem i_slices_Chunk_Lint_int_F1_loop (n : Int) (ys : List (List Int)) (l : List Int) (sz : Nat) (h1 : 1 ≤ sz) (h2 : sz < 1000000) (h3 : l.length < 1000000) : ∀ (f p : Nat) (pre : List (List Int)), (l.drop p).length ≤ f → ys = pre ++ chunks sz f (l.drop p) → p < 2000000 →
    iter (i_slices_Chunk_Lint_int_F1_r1 ys) (f + 1) (n, (pre.length : Int), (p : Int), l, (sz : Int), ()) = some (.brk (n, (ys.length : Int), ())) := by
  intro f
  induction f with
  | zero =>
    intro p pre hf e hp
    simp only [iter, i_slices_Chunk_Lint_int_F1_r1_eq]
    simp only [List.length_drop] at hf
    have : ¬ (p : Int) < (l.length : Int) := by omega
    simp only [this, decide_false, cond_false, Option.bind_some]
    simp only [chunks, List.append_nil] at e
    rw [e]
  | succ f ih =>
    intro p pre hf e hp
    rw [iter, i_slices_Chunk_Lint_int_F1_r1_eq]
    by_cases hlt : p < l.length
    · have hlt' : (p : Int) < (l.length : Int) := by omega
      have hcut : cut l (p : Int) (l.length : Int) = some (l.drop p) := by
        unfold cut
        have : (decide (0 ≤ (p : Int)) && decide ((p : Int) ≤ (l.length : Int)) && decide ((l.length : Int) ≤ (l.length : Int))) = true := by simp; omega
        simp only [this, cond_true]
        simp
      obtain ⟨x, r, hxr⟩ : ∃ x r, l.drop p = x :: r := by
        cases hd : l.drop p with
        | nil => have := congrArg List.length hd; simp at this; omega
        | cons x r => exact ⟨x, r, rfl⟩
      have hch : chunks sz (f + 1) (l.drop p) = (l.drop p).take sz :: chunks sz f (l.drop (p + sz)) := by
        rw [hxr]; simp only [chunks]; rw [← hxr, List.drop_drop]
      have hm : ∃ m : Nat, (bif decide (((l.drop p).length : Int) < (sz : Int)) then (((l.drop p).length : Int)) else (sz : Int)) = (m : Int) ∧ m = min sz (l.length - p) := by
        simp only [List.length_drop]
        by_cases hs : ((l.length - p : Nat) : Int) < (sz : Int)
        · exact ⟨l.length - p, by simp only [hs, decide_true, cond_true], by omega⟩
        · exact ⟨sz, by simp only [hs, decide_false, cond_false], by omega⟩
      obtain ⟨m, hm1, hm2⟩ := hm
      have hw : w64 ((p : Int) + (m : Int)) = ((p + m : Nat) : Int) := by rw [w64_id (by omega) (by omega)]; omega
      have hw2 : w64 ((p : Int) + (sz : Int)) = ((p + sz : Nat) : Int) := by rw [w64_id (by omega) (by omega)]; omega
      have hne : ¬ ((p + m : Nat) : Int) = 0 := by omega
      simp only [hlt', decide_true, cond_true, hcut, Option.bind_some, hm1, hw, hw2, hne, decide_false, Bool.and_false, cond_false]
      have hn : isNext ys (pre.length : Int) ((l.drop p).take sz) = some () := by rw [e, hch]; exact isNext_at pre _ _
      have hcut2 : cut l (p : Int) ((p + m : Nat) : Int) = some ((l.drop p).take sz) := by
        unfold cut
        have : (decide (0 ≤ (p : Int)) && decide ((p : Int) ≤ ((p + m : Nat) : Int)) && decide (((p + m : Nat) : Int) ≤ (l.length : Int))) = true := by simp; omega
        simp only [this, cond_true]
        refine congrArg some ?_
        simp only [Int.toNat_natCast]
        rw [List.drop_take, Nat.add_sub_cancel_left, hm2]
        by_cases hs : sz ≤ l.length - p
        · rw [Nat.min_eq_left hs]
        · rw [Nat.min_eq_right (by omega), List.take_of_length_le (l := l.drop p) (by simp), List.take_of_length_le (l := l.drop p) (by simp; omega)]
      have hnext := ih (p + sz) (pre ++ [(l.drop p).take sz]) (by simp only [List.length_drop] at hf ⊢; omega) (by rw [e, hch]; simp) (by omega)
      have hlen : ((pre ++ [(l.drop p).take sz]).length : Int) = (pre.length : Int) + 1 := by simp
      rw [hlen] at hnext
      cases hfull : (decide ((p : Int) = 0) && decide (((p + m : Nat) : Int) = (l.length : Int)) && decide (((p + m : Nat) : Int) = (l.length : Int))) with
      | true =>
        simp only [cond_true]
        have hl : l = (l.drop p).take sz := ?_
        · rw [← hl] at hn
          rw [hn]
          exact hnext
        simp only [Bool.and_eq_true, decide_eq_true_eq] at hfull
        obtain ⟨⟨hp0, hpl⟩, _⟩ := hfull
        have hp00 : p = 0 := by omega
        rw [hp00, List.drop_zero, List.take_of_length_le (by omega)]
      | false =>
        simp only [cond_false, hcut2, Option.bind_some, decide_true, cond_true]
        rw [hn]
        exact hnext
    · have hnl : ¬ (p : Int) < (l.length : Int) := by omega
      have hd : l.drop p = [] := List.drop_eq_nil_of_le (by omega)
      simp only [hnl, decide_false, cond_false, Option.bind_some]
      rw [hd] at e
      simp only [chunks, List.append_nil] at e
      rw [e]
theorem i_slices_Chunk_Lint_int_F1_run (n : Int) (ys : List (List Int)) (l : List Int) (sz : Int) (h : chunksOf l sz = some ys) : iter (i_slices_Chunk_Lint_int_F1_r1 ys) rounds (n, 0, 0, l, sz, ()) = some (.brk (n, (ys.length : Int), ())) := by
  unfold chunksOf at h
  cases hc : (decide (1 ≤ sz) && decide (sz < 1000000) && decide ((l.length : Int) < 1000000)) with
  | false => simp [hc] at h
  | true =>
    simp only [hc, cond_true] at h
    injection h with h
    simp only [Bool.and_eq_true, decide_eq_true_eq] at hc
    obtain ⟨⟨c1, c2⟩, c3⟩ := hc
    have k := iter_mono _ (l.length + 1) rounds _ (i_slices_Chunk_Lint_int_F1_loop n ys l sz.toNat (by omega) (by omega) (by omega) l.length 0 [] (by simp) (by simpa using h.symm) (by omega)) (by unfold rounds; omega)
    have hs : ((sz.toNat : Nat) : Int) = sz := by omega
    rw [hs] at k
    exact k
theorem i_slices_Chunk_Lint_int_F1_ok0 (G : Nat → Prop) (W0 : World) (hG : Glob G W0) : IterOk Go.Proofs.Tryz.prog G W0 114 i_slices_Chunk_Lint_int_F1 := by
  obtain ⟨c, hc⟩ := Option.isSome_iff_exists.1 body114
  refine iter_sound (Cg := i_slices_Chunk_Lint_int_F1_c []) rfl tab_ok (fun f s hs => Oks.at .nil f s hs) rfl mixed (fun g it h => by cases h) call114 fn114 hc i_slices_Chunk_Lint_int_F1 (Nat.le_of_ble_eq_true (by kernel_rfl)) rfl (fun n x ys h => ?_)
  refine Eq.trans (i_slices_Chunk_Lint_int_F1_eq n ys x.1 x.2.1) ?_
  rw [loopF_eq, i_slices_Chunk_Lint_int_F1_run n ys x.1 x.2.1 h]
  rfl
end Go.Pe.G
namespace Go.Pe.G
open Go.Pe Go.Proofs
noncomputable section
theorem fn3 : Tryz.prog.funcs[3]? = some Tryz.f3 := by kernel_rfl
theorem body3 : Tryz.f3.body.isSome = true := by kernel_rfl
theorem call3 : callable Tryz.prog 3 = true := by kernel_rfl
theorem fn8 : Tryz.prog.funcs[8]? = some Tryz.f8 := by kernel_rfl
theorem body8 : Tryz.f8.body.isSome = true := by kernel_rfl
theorem call8 : callable Tryz.prog 8 = true := by kernel_rfl
theorem fn9 : Tryz.prog.funcs[9]? = some Tryz.f9 := by kernel_rfl
theorem body9 : Tryz.f9.body.isSome = true := by kernel_rfl
theorem call9 : callable Tryz.prog 9 = true := by kernel_rfl
theorem fn10 : Tryz.prog.funcs[10]? = some Tryz.f10 := by kernel_rfl
theorem body10 : Tryz.f10.body.isSome = true := by kernel_rfl
theorem call10 : callable Tryz.prog 10 = true := by kernel_rfl
theorem fn11 : Tryz.prog.funcs[11]? = some Tryz.f11 := by kernel_rfl
theorem body11 : Tryz.f11.body.isSome = true := by kernel_rfl
theorem call11 : callable Tryz.prog 11 = true := by kernel_rfl
theorem fn12 : Tryz.prog.funcs[12]? = some Tryz.f12 := by kernel_rfl
theorem body12 : Tryz.f12.body.isSome = true := by kernel_rfl
theorem call12 : callable Tryz.prog 12 = true := by kernel_rfl
theorem fn13 : Tryz.prog.funcs[13]? = some Tryz.f13 := by kernel_rfl
theorem body13 : Tryz.f13.body.isSome = true := by kernel_rfl
theorem call13 : callable Tryz.prog 13 = true := by kernel_rfl
theorem fn14 : Tryz.prog.funcs[14]? = some Tryz.f14 := by kernel_rfl
theorem body14 : Tryz.f14.body.isSome = true := by kernel_rfl
theorem call14 : callable Tryz.prog 14 = true := by kernel_rfl
theorem fn15 : Tryz.prog.funcs[15]? = some Tryz.f15 := by kernel_rfl
theorem body15 : Tryz.f15.body.isSome = true := by kernel_rfl
theorem call15 : callable Tryz.prog 15 = true := by kernel_rfl
theorem fn16 : Tryz.prog.funcs[16]? = some Tryz.f16 := by kernel_rfl
theorem body16 : Tryz.f16.body.isSome = true := by kernel_rfl
theorem call16 : callable Tryz.prog 16 = true := by kernel_rfl
theorem fn17 : Tryz.prog.funcs[17]? = some Tryz.f17 := by kernel_rfl
theorem body17 : Tryz.f17.body.isSome = true := by kernel_rfl
theorem call17 : callable Tryz.prog 17 = true := by kernel_rfl
theorem fn18 : Tryz.prog.funcs[18]? = some Tryz.f18 := by kernel_rfl
theorem body18 : Tryz.f18.body.isSome = true := by kernel_rfl
theorem call18 : callable Tryz.prog 18 = true := by kernel_rfl
theorem fn19 : Tryz.prog.funcs[19]? = some Tryz.f19 := by kernel_rfl
theorem body19 : Tryz.f19.body.isSome = true := by kernel_rfl
theorem call19 : callable Tryz.prog 19 = true := by kernel_rfl
theorem fn20 : Tryz.prog.funcs[20]? = some Tryz.f20 := by kernel_rfl
theorem body20 : Tryz.f20.body.isSome = true := by kernel_rfl
theorem call20 : callable Tryz.prog 20 = true := by kernel_rfl
theorem fn21 : Tryz.prog.funcs[21]? = some Tryz.f21 := by kernel_rfl
theorem body21 : Tryz.f21.body.isSome = true := by kernel_rfl
theorem call21 : callable Tryz.prog 21 = true := by kernel_rfl
theorem fn22 : Tryz.prog.funcs[22]? = some Tryz.f22 := by kernel_rfl
theorem body22 : Tryz.f22.body.isSome = true := by kernel_rfl
theorem call22 : callable Tryz.prog 22 = true := by kernel_rfl
theorem fn23 : Tryz.prog.funcs[23]? = some Tryz.f23 := by kernel_rfl
theorem body23 : Tryz.f23.body.isSome = true := by kernel_rfl
theorem call23 : callable Tryz.prog 23 = true := by kernel_rfl
theorem fn24 : Tryz.prog.funcs[24]? = some Tryz.f24 := by kernel_rfl
theorem body24 : Tryz.f24.body.isSome = true := by kernel_rfl
theorem call24 : callable Tryz.prog 24 = true := by kernel_rfl
theorem fn26 : Tryz.prog.funcs[26]? = some Tryz.f26 := by kernel_rfl
theorem body26 : Tryz.f26.body.isSome = true := by kernel_rfl
theorem call26 : callable Tryz.prog 26 = true := by kernel_rfl
theorem fn28 : Tryz.prog.funcs[28]? = some Tryz.f28 := by kernel_rfl
theorem body28 : Tryz.f28.body.isSome = true := by kernel_rfl
theorem call28 : callable Tryz.prog 28 = true := by kernel_rfl
theorem fn29 : Tryz.prog.funcs[29]? = some Tryz.f29 := by kernel_rfl
theorem body29 : Tryz.f29.body.isSome = true := by kernel_rfl
theorem call29 : callable Tryz.prog 29 = true := by kernel_rfl
theorem fn33 : Tryz.prog.funcs[33]? = some Tryz.f33 := by kernel_rfl
theorem body33 : Tryz.f33.body.isSome = true := by kernel_rfl
theorem call33 : callable Tryz.prog 33 = true := by kernel_rfl
theorem fn34 : Tryz.prog.funcs[34]? = some Tryz.f34 := by kernel_rfl
theorem body34 : Tryz.f34.body.isSome = true := by kernel_rfl
theorem call34 : callable Tryz.prog 34 = true := by kernel_rfl
theorem fn35 : Tryz.prog.funcs[35]? = some Tryz.f35 := by kernel_rfl
theorem body35 : Tryz.f35.body.isSome = true := by kernel_rfl
theorem call35 : callable Tryz.prog 35 = true := by kernel_rfl
theorem fn36 : Tryz.prog.funcs[36]? = some Tryz.f36 := by kernel_rfl
theorem body36 : Tryz.f36.body.isSome = true := by kernel_rfl
theorem call36 : callable Tryz.prog 36 = true := by kernel_rfl
theorem fn39 : Tryz.prog.funcs[39]? = some Tryz.f39 := by kernel_rfl
theorem body39 : Tryz.f39.body.isSome = true := by kernel_rfl
theorem call39 : callable Tryz.prog 39 = true := by kernel_rfl
theorem fn40 : Tryz.prog.funcs[40]? = some Tryz.f40 := by kernel_rfl
theorem body40 : Tryz.f40.body.isSome = true := by kernel_rfl
theorem call40 : callable Tryz.prog 40 = true := by kernel_rfl
theorem fn41 : Tryz.prog.funcs[41]? = some Tryz.f41 := by kernel_rfl
theorem body41 : Tryz.f41.body.isSome = true := by kernel_rfl
theorem call41 : callable Tryz.prog 41 = true := by kernel_rfl
theorem fn42 : Tryz.prog.funcs[42]? = some Tryz.f42 := by kernel_rfl
theorem body42 : Tryz.f42.body.isSome = true := by kernel_rfl
theorem call42 : callable Tryz.prog 42 = true := by kernel_rfl
theorem fn43 : Tryz.prog.funcs[43]? = some Tryz.f43 := by kernel_rfl
theorem body43 : Tryz.f43.body.isSome = true := by kernel_rfl
theorem call43 : callable Tryz.prog 43 = true := by kernel_rfl
theorem fn44 : Tryz.prog.funcs[44]? = some Tryz.f44 := by kernel_rfl
theorem body44 : Tryz.f44.body.isSome = true := by kernel_rfl
theorem call44 : callable Tryz.prog 44 = true := by kernel_rfl
theorem fn45 : Tryz.prog.funcs[45]? = some Tryz.f45 := by kernel_rfl
theorem body45 : Tryz.f45.body.isSome = true := by kernel_rfl
theorem call45 : callable Tryz.prog 45 = true := by kernel_rfl
theorem fn46 : Tryz.prog.funcs[46]? = some Tryz.f46 := by kernel_rfl
theorem body46 : Tryz.f46.body.isSome = true := by kernel_rfl
theorem call46 : callable Tryz.prog 46 = true := by kernel_rfl
theorem fn47 : Tryz.prog.funcs[47]? = some Tryz.f47 := by kernel_rfl
theorem body47 : Tryz.f47.body.isSome = true := by kernel_rfl
theorem call47 : callable Tryz.prog 47 = true := by kernel_rfl
theorem fn48 : Tryz.prog.funcs[48]? = some Tryz.f48 := by kernel_rfl
theorem body48 : Tryz.f48.body.isSome = true := by kernel_rfl
theorem call48 : callable Tryz.prog 48 = true := by kernel_rfl
theorem fn49 : Tryz.prog.funcs[49]? = some Tryz.f49 := by kernel_rfl
theorem body49 : Tryz.f49.body.isSome = true := by kernel_rfl
theorem call49 : callable Tryz.prog 49 = true := by kernel_rfl
theorem fn50 : Tryz.prog.funcs[50]? = some Tryz.f50 := by kernel_rfl
theorem body50 : Tryz.f50.body.isSome = true := by kernel_rfl
theorem call50 : callable Tryz.prog 50 = true := by kernel_rfl
theorem fn51 : Tryz.prog.funcs[51]? = some Tryz.f51 := by kernel_rfl
theorem body51 : Tryz.f51.body.isSome = true := by kernel_rfl
theorem call51 : callable Tryz.prog 51 = true := by kernel_rfl
theorem fn52 : Tryz.prog.funcs[52]? = some Tryz.f52 := by kernel_rfl
theorem body52 : Tryz.f52.body.isSome = true := by kernel_rfl
theorem call52 : callable Tryz.prog 52 = true := by kernel_rfl
theorem fn53 : Tryz.prog.funcs[53]? = some Tryz.f53 := by kernel_rfl
theorem body53 : Tryz.f53.body.isSome = true := by kernel_rfl
theorem call53 : callable Tryz.prog 53 = true := by kernel_rfl
theorem fn54 : Tryz.prog.funcs[54]? = some Tryz.f54 := by kernel_rfl
theorem body54 : Tryz.f54.body.isSome = true := by kernel_rfl
theorem call54 : callable Tryz.prog 54 = true := by kernel_rfl
theorem fn55 : Tryz.prog.funcs[55]? = some Tryz.f55 := by kernel_rfl
theorem body55 : Tryz.f55.body.isSome = true := by kernel_rfl
theorem call55 : callable Tryz.prog 55 = true := by kernel_rfl
theorem fn56 : Tryz.prog.funcs[56]? = some Tryz.f56 := by kernel_rfl
theorem body56 : Tryz.f56.body.isSome = true := by kernel_rfl
theorem call56 : callable Tryz.prog 56 = true := by kernel_rfl
theorem fn57 : Tryz.prog.funcs[57]? = some Tryz.f57 := by kernel_rfl
theorem body57 : Tryz.f57.body.isSome = true := by kernel_rfl
theorem call57 : callable Tryz.prog 57 = true := by kernel_rfl
theorem fn58 : Tryz.prog.funcs[58]? = some Tryz.f58 := by kernel_rfl
theorem body58 : Tryz.f58.body.isSome = true := by kernel_rfl
theorem call58 : callable Tryz.prog 58 = true := by kernel_rfl
theorem fn59 : Tryz.prog.funcs[59]? = some Tryz.f59 := by kernel_rfl
theorem body59 : Tryz.f59.body.isSome = true := by kernel_rfl
theorem call59 : callable Tryz.prog 59 = true := by kernel_rfl
theorem fn60 : Tryz.prog.funcs[60]? = some Tryz.f60 := by kernel_rfl
theorem body60 : Tryz.f60.body.isSome = true := by kernel_rfl
theorem call60 : callable Tryz.prog 60 = true := by kernel_rfl
theorem fn61 : Tryz.prog.funcs[61]? = some Tryz.f61 := by kernel_rfl
theorem body61 : Tryz.f61.body.isSome = true := by kernel_rfl
theorem call61 : callable Tryz.prog 61 = true := by kernel_rfl
theorem fn62 : Tryz.prog.funcs[62]? = some Tryz.f62 := by kernel_rfl
theorem body62 : Tryz.f62.body.isSome = true := by kernel_rfl
theorem call62 : callable Tryz.prog 62 = true := by kernel_rfl
theorem fn63 : Tryz.prog.funcs[63]? = some Tryz.f63 := by kernel_rfl
theorem body63 : Tryz.f63.body.isSome = true := by kernel_rfl
theorem call63 : callable Tryz.prog 63 = true := by kernel_rfl
theorem fn64 : Tryz.prog.funcs[64]? = some Tryz.f64 := by kernel_rfl
theorem body64 : Tryz.f64.body.isSome = true := by kernel_rfl
theorem call64 : callable Tryz.prog 64 = true := by kernel_rfl
theorem fn65 : Tryz.prog.funcs[65]? = some Tryz.f65 := by kernel_rfl
theorem body65 : Tryz.f65.body.isSome = true := by kernel_rfl
theorem call65 : callable Tryz.prog 65 = true := by kernel_rfl
theorem fn66 : Tryz.prog.funcs[66]? = some Tryz.f66 := by kernel_rfl
theorem body66 : Tryz.f66.body.isSome = true := by kernel_rfl
theorem call66 : callable Tryz.prog 66 = true := by kernel_rfl
theorem fn67 : Tryz.prog.funcs[67]? = some Tryz.f67 := by kernel_rfl
theorem body67 : Tryz.f67.body.isSome = true := by kernel_rfl
theorem call67 : callable Tryz.prog 67 = true := by kernel_rfl
theorem fn68 : Tryz.prog.funcs[68]? = some Tryz.f68 := by kernel_rfl
theorem body68 : Tryz.f68.body.isSome = true := by kernel_rfl
theorem call68 : callable Tryz.prog 68 = true := by kernel_rfl
theorem fn69 : Tryz.prog.funcs[69]? = some Tryz.f69 := by kernel_rfl
theorem body69 : Tryz.f69.body.isSome = true := by kernel_rfl
theorem call69 : callable Tryz.prog 69 = true := by kernel_rfl
theorem fn70 : Tryz.prog.funcs[70]? = some Tryz.f70 := by kernel_rfl
theorem body70 : Tryz.f70.body.isSome = true := by kernel_rfl
theorem call70 : callable Tryz.prog 70 = true := by kernel_rfl
theorem fn71 : Tryz.prog.funcs[71]? = some Tryz.f71 := by kernel_rfl
theorem body71 : Tryz.f71.body.isSome = true := by kernel_rfl
theorem call71 : callable Tryz.prog 71 = true := by kernel_rfl
theorem fn72 : Tryz.prog.funcs[72]? = some Tryz.f72 := by kernel_rfl
theorem body72 : Tryz.f72.body.isSome = true := by kernel_rfl
theorem call72 : callable Tryz.prog 72 = true := by kernel_rfl
theorem fn73 : Tryz.prog.funcs[73]? = some Tryz.f73 := by kernel_rfl
theorem body73 : Tryz.f73.body.isSome = true := by kernel_rfl
theorem call73 : callable Tryz.prog 73 = true := by kernel_rfl
theorem fn74 : Tryz.prog.funcs[74]? = some Tryz.f74 := by kernel_rfl
theorem body74 : Tryz.f74.body.isSome = true := by kernel_rfl
theorem call74 : callable Tryz.prog 74 = true := by kernel_rfl
theorem fn75 : Tryz.prog.funcs[75]? = some Tryz.f75 := by kernel_rfl
theorem body75 : Tryz.f75.body.isSome = true := by kernel_rfl
theorem call75 : callable Tryz.prog 75 = true := by kernel_rfl
theorem fn76 : Tryz.prog.funcs[76]? = some Tryz.f76 := by kernel_rfl
theorem body76 : Tryz.f76.body.isSome = true := by kernel_rfl
theorem call76 : callable Tryz.prog 76 = true := by kernel_rfl
theorem fn77 : Tryz.prog.funcs[77]? = some Tryz.f77 := by kernel_rfl
theorem body77 : Tryz.f77.body.isSome = true := by kernel_rfl
theorem call77 : callable Tryz.prog 77 = true := by kernel_rfl
theorem fn78 : Tryz.prog.funcs[78]? = some Tryz.f78 := by kernel_rfl
theorem body78 : Tryz.f78.body.isSome = true := by kernel_rfl
theorem call78 : callable Tryz.prog 78 = true := by kernel_rfl
theorem fn79 : Tryz.prog.funcs[79]? = some Tryz.f79 := by kernel_rfl
theorem body79 : Tryz.f79.body.isSome = true := by kernel_rfl
theorem call79 : callable Tryz.prog 79 = true := by kernel_rfl
theorem fn80 : Tryz.prog.funcs[80]? = some Tryz.f80 := by kernel_rfl
theorem body80 : Tryz.f80.body.isSome = true := by kernel_rfl
theorem call80 : callable Tryz.prog 80 = true := by kernel_rfl
theorem fn81 : Tryz.prog.funcs[81]? = some Tryz.f81 := by kernel_rfl
theorem body81 : Tryz.f81.body.isSome = true := by kernel_rfl
theorem call81 : callable Tryz.prog 81 = true := by kernel_rfl
theorem fn82 : Tryz.prog.funcs[82]? = some Tryz.f82 := by kernel_rfl
theorem body82 : Tryz.f82.body.isSome = true := by kernel_rfl
theorem call82 : callable Tryz.prog 82 = true := by kernel_rfl
theorem fn83 : Tryz.prog.funcs[83]? = some Tryz.f83 := by kernel_rfl
theorem body83 : Tryz.f83.body.isSome = true := by kernel_rfl
theorem call83 : callable Tryz.prog 83 = true := by kernel_rfl
theorem fn84 : Tryz.prog.funcs[84]? = some Tryz.f84 := by kernel_rfl
theorem body84 : Tryz.f84.body.isSome = true := by kernel_rfl
theorem call84 : callable Tryz.prog 84 = true := by kernel_rfl
theorem fn86 : Tryz.prog.funcs[86]? = some Tryz.f86 := by kernel_rfl
theorem body86 : Tryz.f86.body.isSome = true := by kernel_rfl
theorem call86 : callable Tryz.prog 86 = true := by kernel_rfl
theorem fn87 : Tryz.prog.funcs[87]? = some Tryz.f87 := by kernel_rfl
theorem body87 : Tryz.f87.body.isSome = true := by kernel_rfl
theorem call87 : callable Tryz.prog 87 = true := by kernel_rfl
theorem fn88 : Tryz.prog.funcs[88]? = some Tryz.f88 := by kernel_rfl
theorem body88 : Tryz.f88.body.isSome = true := by kernel_rfl
theorem call88 : callable Tryz.prog 88 = true := by kernel_rfl
theorem fn89 : Tryz.prog.funcs[89]? = some Tryz.f89 := by kernel_rfl
theorem body89 : Tryz.f89.body.isSome = true := by kernel_rfl
theorem call89 : callable Tryz.prog 89 = true := by kernel_rfl
theorem fn90 : Tryz.prog.funcs[90]? = some Tryz.f90 := by kernel_rfl
theorem body90 : Tryz.f90.body.isSome = true := by kernel_rfl
theorem call90 : callable Tryz.prog 90 = true := by kernel_rfl
theorem fn91 : Tryz.prog.funcs[91]? = some Tryz.f91 := by kernel_rfl
theorem body91 : Tryz.f91.body.isSome = true := by kernel_rfl
theorem call91 : callable Tryz.prog 91 = true := by kernel_rfl
theorem fn92 : Tryz.prog.funcs[92]? = some Tryz.f92 := by kernel_rfl
theorem body92 : Tryz.f92.body.isSome = true := by kernel_rfl
theorem call92 : callable Tryz.prog 92 = true := by kernel_rfl
theorem fn93 : Tryz.prog.funcs[93]? = some Tryz.f93 := by kernel_rfl
theorem body93 : Tryz.f93.body.isSome = true := by kernel_rfl
theorem call93 : callable Tryz.prog 93 = true := by kernel_rfl
theorem fn94 : Tryz.prog.funcs[94]? = some Tryz.f94 := by kernel_rfl
theorem body94 : Tryz.f94.body.isSome = true := by kernel_rfl
theorem call94 : callable Tryz.prog 94 = true := by kernel_rfl
theorem fn105 : Tryz.prog.funcs[105]? = some Tryz.f105 := by kernel_rfl
theorem body105 : Tryz.f105.body.isSome = true := by kernel_rfl
theorem call105 : callable Tryz.prog 105 = true := by kernel_rfl
theorem fn106 : Tryz.prog.funcs[106]? = some Tryz.f106 := by kernel_rfl
theorem body106 : Tryz.f106.body.isSome = true := by kernel_rfl
theorem call106 : callable Tryz.prog 106 = true := by kernel_rfl
theorem fn107 : Tryz.prog.funcs[107]? = some Tryz.f107 := by kernel_rfl
theorem body107 : Tryz.f107.body.isSome = true := by kernel_rfl
theorem call107 : callable Tryz.prog 107 = true := by kernel_rfl
theorem fn108 : Tryz.prog.funcs[108]? = some Tryz.f108 := by kernel_rfl
theorem body108 : Tryz.f108.body.isSome = true := by kernel_rfl
theorem call108 : callable Tryz.prog 108 = true := by kernel_rfl
theorem fn109 : Tryz.prog.funcs[109]? = some Tryz.f109 := by kernel_rfl
theorem body109 : Tryz.f109.body.isSome = true := by kernel_rfl
theorem call109 : callable Tryz.prog 109 = true := by kernel_rfl
theorem fn110 : Tryz.prog.funcs[110]? = some Tryz.f110 := by kernel_rfl
theorem body110 : Tryz.f110.body.isSome = true := by kernel_rfl
theorem call110 : callable Tryz.prog 110 = true := by kernel_rfl
theorem fn111 : Tryz.prog.funcs[111]? = some Tryz.f111 := by kernel_rfl
theorem body111 : Tryz.f111.body.isSome = true := by kernel_rfl
theorem call111 : callable Tryz.prog 111 = true := by kernel_rfl
theorem fn112 : Tryz.prog.funcs[112]? = some Tryz.f112 := by kernel_rfl
theorem body112 : Tryz.f112.body.isSome = true := by kernel_rfl
theorem call112 : callable Tryz.prog 112 = true := by kernel_rfl
theorem fn113 : Tryz.prog.funcs[113]? = some Tryz.f113 := by kernel_rfl
theorem body113 : Tryz.f113.body.isSome = true := by kernel_rfl
theorem call113 : callable Tryz.prog 113 = true := by kernel_rfl
theorem fn115 : Tryz.prog.funcs[115]? = some Tryz.f115 := by kernel_rfl
theorem body115 : Tryz.f115.body.isSome = true := by kernel_rfl
theorem call115 : callable Tryz.prog 115 = true := by kernel_rfl
theorem fn116 : Tryz.prog.funcs[116]? = some Tryz.f116 := by kernel_rfl
theorem body116 : Tryz.f116.body.isSome = true := by kernel_rfl
theorem call116 : callable Tryz.prog 116 = true := by kernel_rfl
theorem fn117 : Tryz.prog.funcs[117]? = some Tryz.f117 := by kernel_rfl
theorem body117 : Tryz.f117.body.isSome = true := by kernel_rfl
theorem call117 : callable Tryz.prog 117 = true := by kernel_rfl
theorem fn118 : Tryz.prog.funcs[118]? = some Tryz.f118 := by kernel_rfl
theorem body118 : Tryz.f118.body.isSome = true := by kernel_rfl
theorem call118 : callable Tryz.prog 118 = true := by kernel_rfl
theorem fn119 : Tryz.prog.funcs[119]? = some Tryz.f119 := by kernel_rfl
theorem body119 : Tryz.f119.body.isSome = true := by kernel_rfl
theorem call119 : callable Tryz.prog 119 = true := by kernel_rfl
theorem fn120 : Tryz.prog.funcs[120]? = some Tryz.f120 := by kernel_rfl
theorem body120 : Tryz.f120.body.isSome = true := by kernel_rfl
theorem call120 : callable Tryz.prog 120 = true := by kernel_rfl
theorem fn121 : Tryz.prog.funcs[121]? = some Tryz.f121 := by kernel_rfl
theorem body121 : Tryz.f121.body.isSome = true := by kernel_rfl
theorem call121 : callable Tryz.prog 121 = true := by kernel_rfl
theorem fn122 : Tryz.prog.funcs[122]? = some Tryz.f122 := by kernel_rfl
theorem body122 : Tryz.f122.body.isSome = true := by kernel_rfl
theorem call122 : callable Tryz.prog 122 = true := by kernel_rfl
theorem fn123 : Tryz.prog.funcs[123]? = some Tryz.f123 := by kernel_rfl
theorem body123 : Tryz.f123.body.isSome = true := by kernel_rfl
theorem call123 : callable Tryz.prog 123 = true := by kernel_rfl
theorem fn124 : Tryz.prog.funcs[124]? = some Tryz.f124 := by kernel_rfl
theorem body124 : Tryz.f124.body.isSome = true := by kernel_rfl
theorem call124 : callable Tryz.prog 124 = true := by kernel_rfl
theorem fn125 : Tryz.prog.funcs[125]? = some Tryz.f125 := by kernel_rfl
theorem body125 : Tryz.f125.body.isSome = true := by kernel_rfl
theorem call125 : callable Tryz.prog 125 = true := by kernel_rfl
theorem fn126 : Tryz.prog.funcs[126]? = some Tryz.f126 := by kernel_rfl
theorem body126 : Tryz.f126.body.isSome = true := by kernel_rfl
theorem call126 : callable Tryz.prog 126 = true := by kernel_rfl
theorem fn127 : Tryz.prog.funcs[127]? = some Tryz.f127 := by kernel_rfl
theorem body127 : Tryz.f127.body.isSome = true := by kernel_rfl
theorem call127 : callable Tryz.prog 127 = true := by kernel_rfl
theorem fn128 : Tryz.prog.funcs[128]? = some Tryz.f128 := by kernel_rfl
theorem body128 : Tryz.f128.body.isSome = true := by kernel_rfl
theorem call128 : callable Tryz.prog 128 = true := by kernel_rfl
theorem fn129 : Tryz.prog.funcs[129]? = some Tryz.f129 := by kernel_rfl
theorem body129 : Tryz.f129.body.isSome = true := by kernel_rfl
theorem call129 : callable Tryz.prog 129 = true := by kernel_rfl
theorem fn130 : Tryz.prog.funcs[130]? = some Tryz.f130 := by kernel_rfl
theorem body130 : Tryz.f130.body.isSome = true := by kernel_rfl
theorem call130 : callable Tryz.prog 130 = true := by kernel_rfl
theorem fn131 : Tryz.prog.funcs[131]? = some Tryz.f131 := by kernel_rfl
theorem body131 : Tryz.f131.body.isSome = true := by kernel_rfl
theorem call131 : callable Tryz.prog 131 = true := by kernel_rfl
theorem fn132 : Tryz.prog.funcs[132]? = some Tryz.f132 := by kernel_rfl
theorem body132 : Tryz.f132.body.isSome = true := by kernel_rfl
theorem call132 : callable Tryz.prog 132 = true := by kernel_rfl
theorem fn133 : Tryz.prog.funcs[133]? = some Tryz.f133 := by kernel_rfl
theorem body133 : Tryz.f133.body.isSome = true := by kernel_rfl
theorem call133 : callable Tryz.prog 133 = true := by kernel_rfl
theorem fn134 : Tryz.prog.funcs[134]? = some Tryz.f134 := by kernel_rfl
theorem body134 : Tryz.f134.body.isSome = true := by kernel_rfl
theorem call134 : callable Tryz.prog 134 = true := by kernel_rfl
theorem fn135 : Tryz.prog.funcs[135]? = some Tryz.f135 := by kernel_rfl
theorem body135 : Tryz.f135.body.isSome = true := by kernel_rfl
theorem call135 : callable Tryz.prog 135 = true := by kernel_rfl
theorem fn136 : Tryz.prog.funcs[136]? = some Tryz.f136 := by kernel_rfl
theorem body136 : Tryz.f136.body.isSome = true := by kernel_rfl
theorem call136 : callable Tryz.prog 136 = true := by kernel_rfl
theorem fn137 : Tryz.prog.funcs[137]? = some Tryz.f137 := by kernel_rfl
theorem body137 : Tryz.f137.body.isSome = true := by kernel_rfl
theorem call137 : callable Tryz.prog 137 = true := by kernel_rfl
theorem fn138 : Tryz.prog.funcs[138]? = some Tryz.f138 := by kernel_rfl
theorem body138 : Tryz.f138.body.isSome = true := by kernel_rfl
theorem call138 : callable Tryz.prog 138 = true := by kernel_rfl
theorem fn139 : Tryz.prog.funcs[139]? = some Tryz.f139 := by kernel_rfl
theorem body139 : Tryz.f139.body.isSome = true := by kernel_rfl
theorem call139 : callable Tryz.prog 139 = true := by kernel_rfl
theorem fn140 : Tryz.prog.funcs[140]? = some Tryz.f140 := by kernel_rfl
theorem body140 : Tryz.f140.body.isSome = true := by kernel_rfl
theorem call140 : callable Tryz.prog 140 = true := by kernel_rfl
theorem fn141 : Tryz.prog.funcs[141]? = some Tryz.f141 := by kernel_rfl
theorem body141 : Tryz.f141.body.isSome = true := by kernel_rfl
theorem call141 : callable Tryz.prog 141 = true := by kernel_rfl
theorem fn149 : Tryz.prog.funcs[149]? = some Tryz.f149 := by kernel_rfl
theorem body149 : Tryz.f149.body.isSome = true := by kernel_rfl
theorem call149 : callable Tryz.prog 149 = true := by kernel_rfl
theorem fn150 : Tryz.prog.funcs[150]? = some Tryz.f150 := by kernel_rfl
theorem body150 : Tryz.f150.body.isSome = true := by kernel_rfl
theorem call150 : callable Tryz.prog 150 = true := by kernel_rfl
theorem fn151 : Tryz.prog.funcs[151]? = some Tryz.f151 := by kernel_rfl
theorem body151 : Tryz.f151.body.isSome = true := by kernel_rfl
theorem call151 : callable Tryz.prog 151 = true := by kernel_rfl
theorem fn152 : Tryz.prog.funcs[152]? = some Tryz.f152 := by kernel_rfl
theorem body152 : Tryz.f152.body.isSome = true := by kernel_rfl
theorem call152 : callable Tryz.prog 152 = true := by kernel_rfl
theorem fn153 : Tryz.prog.funcs[153]? = some Tryz.f153 := by kernel_rfl
theorem body153 : Tryz.f153.body.isSome = true := by kernel_rfl
theorem call153 : callable Tryz.prog 153 = true := by kernel_rfl
theorem fn154 : Tryz.prog.funcs[154]? = some Tryz.f154 := by kernel_rfl
theorem body154 : Tryz.f154.body.isSome = true := by kernel_rfl
theorem call154 : callable Tryz.prog 154 = true := by kernel_rfl
theorem fn155 : Tryz.prog.funcs[155]? = some Tryz.f155 := by kernel_rfl
theorem body155 : Tryz.f155.body.isSome = true := by kernel_rfl
theorem call155 : callable Tryz.prog 155 = true := by kernel_rfl
theorem fn156 : Tryz.prog.funcs[156]? = some Tryz.f156 := by kernel_rfl
theorem body156 : Tryz.f156.body.isSome = true := by kernel_rfl
theorem call156 : callable Tryz.prog 156 = true := by kernel_rfl
theorem fn157 : Tryz.prog.funcs[157]? = some Tryz.f157 := by kernel_rfl
theorem body157 : Tryz.f157.body.isSome = true := by kernel_rfl
theorem call157 : callable Tryz.prog 157 = true := by kernel_rfl
theorem fn158 : Tryz.prog.funcs[158]? = some Tryz.f158 := by kernel_rfl
theorem body158 : Tryz.f158.body.isSome = true := by kernel_rfl
theorem call158 : callable Tryz.prog 158 = true := by kernel_rfl
theorem fn161 : Tryz.prog.funcs[161]? = some Tryz.f161 := by kernel_rfl
theorem body161 : Tryz.f161.body.isSome = true := by kernel_rfl
theorem call161 : callable Tryz.prog 161 = true := by kernel_rfl
theorem fn162 : Tryz.prog.funcs[162]? = some Tryz.f162 := by kernel_rfl
theorem body162 : Tryz.f162.body.isSome = true := by kernel_rfl
theorem call162 : callable Tryz.prog 162 = true := by kernel_rfl
theorem fn163 : Tryz.prog.funcs[163]? = some Tryz.f163 := by kernel_rfl
theorem body163 : Tryz.f163.body.isSome = true := by kernel_rfl
theorem call163 : callable Tryz.prog 163 = true := by kernel_rfl
theorem fn164 : Tryz.prog.funcs[164]? = some Tryz.f164 := by kernel_rfl
theorem body164 : Tryz.f164.body.isSome = true := by kernel_rfl
theorem call164 : callable Tryz.prog 164 = true := by kernel_rfl
theorem fn165 : Tryz.prog.funcs[165]? = some Tryz.f165 := by kernel_rfl
theorem body165 : Tryz.f165.body.isSome = true := by kernel_rfl
theorem call165 : callable Tryz.prog 165 = true := by kernel_rfl
theorem fn166 : Tryz.prog.funcs[166]? = some Tryz.f166 := by kernel_rfl
theorem body166 : Tryz.f166.body.isSome = true := by kernel_rfl
theorem call166 : callable Tryz.prog 166 = true := by kernel_rfl
theorem fn167 : Tryz.prog.funcs[167]? = some Tryz.f167 := by kernel_rfl
theorem body167 : Tryz.f167.body.isSome = true := by kernel_rfl
theorem call167 : callable Tryz.prog 167 = true := by kernel_rfl
theorem fn168 : Tryz.prog.funcs[168]? = some Tryz.f168 := by kernel_rfl
theorem body168 : Tryz.f168.body.isSome = true := by kernel_rfl
theorem call168 : callable Tryz.prog 168 = true := by kernel_rfl
theorem fn169 : Tryz.prog.funcs[169]? = some Tryz.f169 := by kernel_rfl
theorem body169 : Tryz.f169.body.isSome = true := by kernel_rfl
theorem call169 : callable Tryz.prog 169 = true := by kernel_rfl
theorem fn170 : Tryz.prog.funcs[170]? = some Tryz.f170 := by kernel_rfl
theorem body170 : Tryz.f170.body.isSome = true := by kernel_rfl
theorem call170 : callable Tryz.prog 170 = true := by kernel_rfl
theorem fn171 : Tryz.prog.funcs[171]? = some Tryz.f171 := by kernel_rfl
theorem body171 : Tryz.f171.body.isSome = true := by kernel_rfl
theorem call171 : callable Tryz.prog 171 = true := by kernel_rfl
theorem fn172 : Tryz.prog.funcs[172]? = some Tryz.f172 := by kernel_rfl
theorem body172 : Tryz.f172.body.isSome = true := by kernel_rfl
theorem call172 : callable Tryz.prog 172 = true := by kernel_rfl
theorem fn173 : Tryz.prog.funcs[173]? = some Tryz.f173 := by kernel_rfl
theorem body173 : Tryz.f173.body.isSome = true := by kernel_rfl
theorem call173 : callable Tryz.prog 173 = true := by kernel_rfl
theorem fn174 : Tryz.prog.funcs[174]? = some Tryz.f174 := by kernel_rfl
theorem body174 : Tryz.f174.body.isSome = true := by kernel_rfl
theorem call174 : callable Tryz.prog 174 = true := by kernel_rfl
theorem fn175 : Tryz.prog.funcs[175]? = some Tryz.f175 := by kernel_rfl
theorem body175 : Tryz.f175.body.isSome = true := by kernel_rfl
theorem call175 : callable Tryz.prog 175 = true := by kernel_rfl
theorem fn176 : Tryz.prog.funcs[176]? = some Tryz.f176 := by kernel_rfl
theorem body176 : Tryz.f176.body.isSome = true := by kernel_rfl
theorem call176 : callable Tryz.prog 176 = true := by kernel_rfl
theorem fn177 : Tryz.prog.funcs[177]? = some Tryz.f177 := by kernel_rfl
theorem body177 : Tryz.f177.body.isSome = true := by kernel_rfl
theorem call177 : callable Tryz.prog 177 = true := by kernel_rfl
theorem fn178 : Tryz.prog.funcs[178]? = some Tryz.f178 := by kernel_rfl
theorem body178 : Tryz.f178.body.isSome = true := by kernel_rfl
theorem call178 : callable Tryz.prog 178 = true := by kernel_rfl
theorem fn179 : Tryz.prog.funcs[179]? = some Tryz.f179 := by kernel_rfl
theorem body179 : Tryz.f179.body.isSome = true := by kernel_rfl
theorem call179 : callable Tryz.prog 179 = true := by kernel_rfl
theorem fn180 : Tryz.prog.funcs[180]? = some Tryz.f180 := by kernel_rfl
theorem body180 : Tryz.f180.body.isSome = true := by kernel_rfl
theorem call180 : callable Tryz.prog 180 = true := by kernel_rfl
theorem fn181 : Tryz.prog.funcs[181]? = some Tryz.f181 := by kernel_rfl
theorem body181 : Tryz.f181.body.isSome = true := by kernel_rfl
theorem call181 : callable Tryz.prog 181 = true := by kernel_rfl
theorem fn182 : Tryz.prog.funcs[182]? = some Tryz.f182 := by kernel_rfl
theorem body182 : Tryz.f182.body.isSome = true := by kernel_rfl
theorem call182 : callable Tryz.prog 182 = true := by kernel_rfl
theorem fn183 : Tryz.prog.funcs[183]? = some Tryz.f183 := by kernel_rfl
theorem body183 : Tryz.f183.body.isSome = true := by kernel_rfl
theorem call183 : callable Tryz.prog 183 = true := by kernel_rfl
theorem fn184 : Tryz.prog.funcs[184]? = some Tryz.f184 := by kernel_rfl
theorem body184 : Tryz.f184.body.isSome = true := by kernel_rfl
theorem call184 : callable Tryz.prog 184 = true := by kernel_rfl
theorem fn185 : Tryz.prog.funcs[185]? = some Tryz.f185 := by kernel_rfl
theorem body185 : Tryz.f185.body.isSome = true := by kernel_rfl
theorem call185 : callable Tryz.prog 185 = true := by kernel_rfl
theorem fn186 : Tryz.prog.funcs[186]? = some Tryz.f186 := by kernel_rfl
theorem body186 : Tryz.f186.body.isSome = true := by kernel_rfl
theorem call186 : callable Tryz.prog 186 = true := by kernel_rfl
theorem fn187 : Tryz.prog.funcs[187]? = some Tryz.f187 := by kernel_rfl
theorem body187 : Tryz.f187.body.isSome = true := by kernel_rfl
theorem call187 : callable Tryz.prog 187 = true := by kernel_rfl
theorem fn188 : Tryz.prog.funcs[188]? = some Tryz.f188 := by kernel_rfl
theorem body188 : Tryz.f188.body.isSome = true := by kernel_rfl
theorem call188 : callable Tryz.prog 188 = true := by kernel_rfl
theorem fn189 : Tryz.prog.funcs[189]? = some Tryz.f189 := by kernel_rfl
theorem body189 : Tryz.f189.body.isSome = true := by kernel_rfl
theorem call189 : callable Tryz.prog 189 = true := by kernel_rfl
theorem fn190 : Tryz.prog.funcs[190]? = some Tryz.f190 := by kernel_rfl
theorem body190 : Tryz.f190.body.isSome = true := by kernel_rfl
theorem call190 : callable Tryz.prog 190 = true := by kernel_rfl
theorem fn191 : Tryz.prog.funcs[191]? = some Tryz.f191 := by kernel_rfl
theorem body191 : Tryz.f191.body.isSome = true := by kernel_rfl
theorem call191 : callable Tryz.prog 191 = true := by kernel_rfl
theorem fn192 : Tryz.prog.funcs[192]? = some Tryz.f192 := by kernel_rfl
theorem body192 : Tryz.f192.body.isSome = true := by kernel_rfl
theorem call192 : callable Tryz.prog 192 = true := by kernel_rfl
theorem fn193 : Tryz.prog.funcs[193]? = some Tryz.f193 := by kernel_rfl
theorem body193 : Tryz.f193.body.isSome = true := by kernel_rfl
theorem call193 : callable Tryz.prog 193 = true := by kernel_rfl
theorem fn194 : Tryz.prog.funcs[194]? = some Tryz.f194 := by kernel_rfl
theorem body194 : Tryz.f194.body.isSome = true := by kernel_rfl
theorem call194 : callable Tryz.prog 194 = true := by kernel_rfl
theorem fn195 : Tryz.prog.funcs[195]? = some Tryz.f195 := by kernel_rfl
theorem body195 : Tryz.f195.body.isSome = true := by kernel_rfl
theorem call195 : callable Tryz.prog 195 = true := by kernel_rfl
theorem fn196 : Tryz.prog.funcs[196]? = some Tryz.f196 := by kernel_rfl
theorem body196 : Tryz.f196.body.isSome = true := by kernel_rfl
theorem call196 : callable Tryz.prog 196 = true := by kernel_rfl
theorem fn197 : Tryz.prog.funcs[197]? = some Tryz.f197 := by kernel_rfl
theorem body197 : Tryz.f197.body.isSome = true := by kernel_rfl
theorem call197 : callable Tryz.prog 197 = true := by kernel_rfl
theorem fn198 : Tryz.prog.funcs[198]? = some Tryz.f198 := by kernel_rfl
theorem body198 : Tryz.f198.body.isSome = true := by kernel_rfl
theorem call198 : callable Tryz.prog 198 = true := by kernel_rfl
theorem fn199 : Tryz.prog.funcs[199]? = some Tryz.f199 := by kernel_rfl
theorem body199 : Tryz.f199.body.isSome = true := by kernel_rfl
theorem call199 : callable Tryz.prog 199 = true := by kernel_rfl
theorem fn200 : Tryz.prog.funcs[200]? = some Tryz.f200 := by kernel_rfl
theorem body200 : Tryz.f200.body.isSome = true := by kernel_rfl
theorem call200 : callable Tryz.prog 200 = true := by kernel_rfl
theorem kept_p_bits_OnesCount64 : p_bits_OnesCount64_c.kept = keptR p_bits_OnesCount64_i.blks 0 := by kernel_rfl
theorem kept_p_set_Count : p_set_Count_c.kept = keptR p_set_Count_i.blks 0 := by kernel_rfl
theorem kept_p_state_Deque : p_state_Deque_c.kept = keptR p_state_Deque_i.blks 0 := by kernel_rfl
theorem kept_p_state_Full : p_state_Full_c.kept = keptR p_state_Full_i.blks 0 := by kernel_rfl
theorem kept_p_state_Empty : p_state_Empty_c.kept = keptR p_state_Empty_i.blks 0 := by kernel_rfl
theorem kept_p_state_Next : p_state_Next_c.kept = keptR p_state_Next_i.blks 0 := by kernel_rfl
theorem kept_p_plan_within : p_plan_within_c.kept = keptR p_plan_within_i.blks 0 := by kernel_rfl
theorem kept_p_plan_Plan_sized : p_plan_Plan_sized_c.kept = keptR p_plan_Plan_sized_i.blks 0 := by kernel_rfl
theorem kept_p_heap_RightF1F1 : p_heap_RightF1F1_c.kept = keptR p_heap_RightF1F1_i.blks 0 := by kernel_rfl
theorem kept_p_slices_IndexFunc_Lint_int : p_slices_IndexFunc_Lint_int_c.kept = keptR p_slices_IndexFunc_Lint_int_i.blks 0 := by kernel_rfl
theorem kept_p_slices_ContainsFunc_Lint_int : p_slices_ContainsFunc_Lint_int_c.kept = keptR p_slices_ContainsFunc_Lint_int_i.blks 0 := by kernel_rfl
theorem kept_p_heap_RightF1 : p_heap_RightF1_c.kept = keptR p_heap_RightF1_i.blks 0 := by kernel_rfl
theorem kept_p_slices_IndexFunc_LLint_Lint : p_slices_IndexFunc_LLint_Lint_c.kept = keptR p_slices_IndexFunc_LLint_Lint_i.blks 0 := by kernel_rfl
theorem kept_p_slices_ContainsFunc_LLint_Lint : p_slices_ContainsFunc_LLint_Lint_c.kept = keptR p_slices_ContainsFunc_LLint_Lint_i.blks 0 := by kernel_rfl
theorem kept_p_heap_Right : p_heap_Right_c.kept = keptR p_heap_Right_i.blks 0 := by kernel_rfl
theorem kept_p_set_Under : p_set_Under_c.kept = keptR p_set_Under_i.blks 0 := by kernel_rfl
theorem kept_p_set_First : p_set_First_c.kept = keptR p_set_First_i.blks 0 := by kernel_rfl
theorem kept_p_plan_RightF1 : p_plan_RightF1_c.kept = keptR p_plan_RightF1_i.blks 0 := by kernel_rfl
theorem kept_p_slices_IndexFunc_Lint_int_v1 : p_slices_IndexFunc_Lint_int_v1_c.kept = keptR p_slices_IndexFunc_Lint_int_v1_i.blks 0 := by kernel_rfl
theorem kept_p_slices_ContainsFunc_Lint_int_v1 : p_slices_ContainsFunc_Lint_int_v1_c.kept = keptR p_slices_ContainsFunc_Lint_int_v1_i.blks 0 := by kernel_rfl
theorem kept_p_code_RightF1 : p_code_RightF1_c.kept = keptR p_code_RightF1_i.blks 0 := by kernel_rfl
theorem kept_p_code_Right : p_code_Right_c.kept = keptR p_code_Right_i.blks 0 := by kernel_rfl
theorem kept_p_code_FitsF1 : p_code_FitsF1_c.kept = keptR p_code_FitsF1_i.blks 0 := by kernel_rfl
theorem kept_p_slices_IndexFunc_Lcode_Op_code_Op : p_slices_IndexFunc_Lcode_Op_code_Op_c.kept = keptR p_slices_IndexFunc_Lcode_Op_code_Op_i.blks 0 := by kernel_rfl
theorem kept_p_slices_ContainsFunc_Lcode_Op_code_Op : p_slices_ContainsFunc_Lcode_Op_code_Op_c.kept = keptR p_slices_ContainsFunc_Lcode_Op_code_Op_i.blks 0 := by kernel_rfl
theorem kept_p_code_Fits : p_code_Fits_c.kept = keptR p_code_Fits_i.blks 0 := by kernel_rfl
theorem kept_p_pick_Right : p_pick_Right_c.kept = keptR p_pick_Right_i.blks 0 := by kernel_rfl
theorem kept_p_pick_KnownF1 : p_pick_KnownF1_c.kept = keptR p_pick_KnownF1_i.blks 0 := by kernel_rfl
theorem kept_p_slices_IndexFunc_Lpick_Pick_pick_Pick : p_slices_IndexFunc_Lpick_Pick_pick_Pick_c.kept = keptR p_slices_IndexFunc_Lpick_Pick_pick_Pick_i.blks 0 := by kernel_rfl
theorem kept_p_slices_ContainsFunc_Lpick_Pick_pick_Pick : p_slices_ContainsFunc_Lpick_Pick_pick_Pick_c.kept = keptR p_slices_ContainsFunc_Lpick_Pick_pick_Pick_i.blks 0 := by kernel_rfl
theorem kept_p_pick_Known : p_pick_Known_c.kept = keptR p_pick_Known_i.blks 0 := by kernel_rfl
theorem kept_p_plan_Right : p_plan_Right_c.kept = keptR p_plan_Right_i.blks 0 := by kernel_rfl
theorem kept_p_set_bit : p_set_bit_c.kept = keptR p_set_bit_i.blks 0 := by kernel_rfl
theorem kept_p_set_Add : p_set_Add_c.kept = keptR p_set_Add_i.blks 0 := by kernel_rfl
theorem kept_p_set_Of : p_set_Of_c.kept = keptR p_set_Of_i.blks 0 := by kernel_rfl
theorem kept_p_plan_Greys : p_plan_Greys_c.kept = keptR p_plan_Greys_i.blks 0 := by kernel_rfl
theorem kept_p_ledger_New : p_ledger_New_c.kept = keptR p_ledger_New_i.blks 0 := by kernel_rfl
theorem kept_p_slices_Clone_Lint_int : p_slices_Clone_Lint_int_c.kept = keptR p_slices_Clone_Lint_int_i.blks 0 := by kernel_rfl
theorem kept_p_state_each_Lint : p_state_each_Lint_c.kept = keptR p_state_each_Lint_i.blks 0 := by kernel_rfl
theorem kept_p_deque_Cells : p_deque_Cells_c.kept = keptR p_deque_Cells_i.blks 0 := by kernel_rfl
theorem kept_p_deque_Start : p_deque_Start_c.kept = keptR p_deque_Start_i.blks 0 := by kernel_rfl
theorem kept_p_plan_Bins : p_plan_Bins_c.kept = keptR p_plan_Bins_i.blks 0 := by kernel_rfl
theorem kept_p_slices_Chunk_Lint_int : p_slices_Chunk_Lint_int_c.kept = keptR p_slices_Chunk_Lint_int_i.blks 0 := by kernel_rfl
theorem kept_p_set_each : p_set_each_c.kept = keptR p_set_each_i.blks 0 := by kernel_rfl
theorem kept_p_set_List : p_set_List_c.kept = keptR p_set_List_i.blks 0 := by kernel_rfl
theorem kept_p_mem_DoF1 : p_mem_DoF1_c.kept = keptR p_mem_DoF1_i.blks 0 := by kernel_rfl
theorem kept_p_mem_DoF2 : p_mem_DoF2_c.kept = keptR p_mem_DoF2_i.blks 0 := by kernel_rfl
theorem kept_p_mem_DoF3 : p_mem_DoF3_c.kept = keptR p_mem_DoF3_i.blks 0 := by kernel_rfl
theorem kept_p_mem_DoF4 : p_mem_DoF4_c.kept = keptR p_mem_DoF4_i.blks 0 := by kernel_rfl
theorem kept_p_slices_Clone_mem_Mem_uint64 : p_slices_Clone_mem_Mem_uint64_c.kept = keptR p_slices_Clone_mem_Mem_uint64_i.blks 0 := by kernel_rfl
theorem kept_p_mem_Do : p_mem_Do_c.kept = keptR p_mem_Do_i.blks 0 := by kernel_rfl
theorem kept_p_chain_store : p_chain_store_c.kept = keptR p_chain_store_i.blks 0 := by kernel_rfl
theorem kept_p_chain_Pack : p_chain_Pack_c.kept = keptR p_chain_Pack_i.blks 0 := by kernel_rfl
theorem kept_p_chain_Lay : p_chain_Lay_c.kept = keptR p_chain_Lay_i.blks 0 := by kernel_rfl
theorem kept_p_state_New : p_state_New_c.kept = keptR p_state_New_i.blks 0 := by kernel_rfl
theorem kept_p_grey_Begin : p_grey_Begin_c.kept = keptR p_grey_Begin_i.blks 0 := by kernel_rfl
theorem kept_p_grey_machine_reserve_v1 : p_grey_machine_reserve_v1_c.kept = keptR p_grey_machine_reserve_v1_i.blks 0 := by kernel_rfl
theorem kept_p_set_Has : p_set_Has_c.kept = keptR p_set_Has_i.blks 0 := by kernel_rfl
theorem kept_p_tint_Shade : p_tint_Shade_c.kept = keptR p_tint_Shade_i.blks 0 := by kernel_rfl
theorem kept_p_chain_Start : p_chain_Start_c.kept = keptR p_chain_Start_i.blks 0 := by kernel_rfl
theorem kept_p_grey_machine_ask_v1 : p_grey_machine_ask_v1_c.kept = keptR p_grey_machine_ask_v1_i.blks 0 := by kernel_rfl
theorem kept_p_grey_machine_mark_v1 : p_grey_machine_mark_v1_c.kept = keptR p_grey_machine_mark_v1_i.blks 0 := by kernel_rfl
theorem kept_p_grey_machine_back_v1 : p_grey_machine_back_v1_c.kept = keptR p_grey_machine_back_v1_i.blks 0 := by kernel_rfl
theorem kept_p_deque_steps : p_deque_steps_c.kept = keptR p_deque_steps_i.blks 0 := by kernel_rfl
theorem kept_p_deque_load : p_deque_load_c.kept = keptR p_deque_load_i.blks 0 := by kernel_rfl
theorem kept_p_deque_Machine_bottom : p_deque_Machine_bottom_c.kept = keptR p_deque_Machine_bottom_i.blks 0 := by kernel_rfl
theorem kept_p_deque_Machine_seeBottom_v1 : p_deque_Machine_seeBottom_v1_c.kept = keptR p_deque_Machine_seeBottom_v1_i.blks 0 := by kernel_rfl
theorem kept_p_deque_Machine_top : p_deque_Machine_top_c.kept = keptR p_deque_Machine_top_i.blks 0 := by kernel_rfl
theorem kept_p_deque_Machine_size : p_deque_Machine_size_c.kept = keptR p_deque_Machine_size_i.blks 0 := by kernel_rfl
theorem kept_p_deque_Machine_end_v1 : p_deque_Machine_end_v1_c.kept = keptR p_deque_Machine_end_v1_i.blks 0 := by kernel_rfl
theorem kept_p_deque_Machine_room_v1 : p_deque_Machine_room_v1_c.kept = keptR p_deque_Machine_room_v1_i.blks 0 := by kernel_rfl
theorem kept_p_deque_Machine_place : p_deque_Machine_place_c.kept = keptR p_deque_Machine_place_i.blks 0 := by kernel_rfl
theorem kept_p_deque_store : p_deque_store_c.kept = keptR p_deque_store_i.blks 0 := by kernel_rfl
theorem kept_p_deque_Machine_put : p_deque_Machine_put_c.kept = keptR p_deque_Machine_put_i.blks 0 := by kernel_rfl
theorem kept_p_deque_Machine_publish_v1 : p_deque_Machine_publish_v1_c.kept = keptR p_deque_Machine_publish_v1_i.blks 0 := by kernel_rfl
theorem kept_p_deque_Machine_claim : p_deque_Machine_claim_c.kept = keptR p_deque_Machine_claim_i.blks 0 := by kernel_rfl
theorem kept_p_deque_above : p_deque_above_c.kept = keptR p_deque_above_i.blks 0 := by kernel_rfl
theorem kept_p_deque_Machine_seeTop_v1 : p_deque_Machine_seeTop_v1_c.kept = keptR p_deque_Machine_seeTop_v1_i.blks 0 := by kernel_rfl
theorem kept_p_deque_Machine_get_v1 : p_deque_Machine_get_v1_c.kept = keptR p_deque_Machine_get_v1_i.blks 0 := by kernel_rfl
theorem kept_p_deque_Machine_take : p_deque_Machine_take_c.kept = keptR p_deque_Machine_take_i.blks 0 := by kernel_rfl
theorem kept_p_deque_Machine_race_v1 : p_deque_Machine_race_v1_c.kept = keptR p_deque_Machine_race_v1_i.blks 0 := by kernel_rfl
theorem kept_p_deque_Machine_fail_v1 : p_deque_Machine_fail_v1_c.kept = keptR p_deque_Machine_fail_v1_i.blks 0 := by kernel_rfl
theorem kept_p_deque_Machine_won_v1 : p_deque_Machine_won_v1_c.kept = keptR p_deque_Machine_won_v1_i.blks 0 := by kernel_rfl
theorem kept_p_deque_Machine_aim_v1 : p_deque_Machine_aim_v1_c.kept = keptR p_deque_Machine_aim_v1_i.blks 0 := by kernel_rfl
theorem kept_p_deque_Machine_any_v1 : p_deque_Machine_any_v1_c.kept = keptR p_deque_Machine_any_v1_i.blks 0 := by kernel_rfl
theorem kept_p_deque_Machine_peek_v1 : p_deque_Machine_peek_v1_c.kept = keptR p_deque_Machine_peek_v1_i.blks 0 := by kernel_rfl
theorem kept_p_deque_Machine_snatch_v1 : p_deque_Machine_snatch_v1_c.kept = keptR p_deque_Machine_snatch_v1_i.blks 0 := by kernel_rfl
theorem kept_p_deque_Step : p_deque_Step_c.kept = keptR p_deque_Step_i.blks 0 := by kernel_rfl
theorem kept_p_grey_machine_push_v1 : p_grey_machine_push_v1_c.kept = keptR p_grey_machine_push_v1_i.blks 0 := by kernel_rfl
theorem kept_p_grey_machine_tell_v1 : p_grey_machine_tell_v1_c.kept = keptR p_grey_machine_tell_v1_i.blks 0 := by kernel_rfl
theorem kept_p_chain_Node : p_chain_Node_c.kept = keptR p_chain_Node_i.blks 0 := by kernel_rfl
theorem kept_p_chain_load : p_chain_load_c.kept = keptR p_chain_load_i.blks 0 := by kernel_rfl
theorem kept_p_chain_Machine_see_v1 : p_chain_Machine_see_v1_c.kept = keptR p_chain_Machine_see_v1_i.blks 0 := by kernel_rfl
theorem kept_p_chain_Machine_link : p_chain_Machine_link_c.kept = keptR p_chain_Machine_link_i.blks 0 := by kernel_rfl
theorem kept_p_chain_Machine_swap_v1 : p_chain_Machine_swap_v1_c.kept = keptR p_chain_Machine_swap_v1_i.blks 0 := by kernel_rfl
theorem kept_p_chain_Machine_behind_v1 : p_chain_Machine_behind_v1_c.kept = keptR p_chain_Machine_behind_v1_i.blks 0 := by kernel_rfl
theorem kept_p_chain_Step : p_chain_Step_c.kept = keptR p_chain_Step_i.blks 0 := by kernel_rfl
theorem kept_p_grey_machine_take_v1 : p_grey_machine_take_v1_c.kept = keptR p_grey_machine_take_v1_i.blks 0 := by kernel_rfl
theorem kept_p_slices_Clone_LLint_Lint : p_slices_Clone_LLint_Lint_c.kept = keptR p_slices_Clone_LLint_Lint_i.blks 0 := by kernel_rfl
theorem kept_p_grey_machine_fill_v1 : p_grey_machine_fill_v1_c.kept = keptR p_grey_machine_fill_v1_i.blks 0 := by kernel_rfl
theorem kept_p_grey_machine_publish_v1 : p_grey_machine_publish_v1_c.kept = keptR p_grey_machine_publish_v1_i.blks 0 := by kernel_rfl
theorem kept_p_grey_Step : p_grey_Step_c.kept = keptR p_grey_Step_i.blks 0 := by kernel_rfl
theorem kept_p_grey_at : p_grey_at_c.kept = keptR p_grey_at_i.blks 0 := by kernel_rfl
theorem kept_p_grey_Holds : p_grey_Holds_c.kept = keptR p_grey_Holds_i.blks 0 := by kernel_rfl
theorem kept_p_grey_Asks : p_grey_Asks_c.kept = keptR p_grey_Asks_i.blks 0 := by kernel_rfl
theorem kept_p_grey_Owes : p_grey_Owes_c.kept = keptR p_grey_Owes_i.blks 0 := by kernel_rfl
theorem kept_p_besomlaw14_run : p_besomlaw14_run_c.kept = keptR p_besomlaw14_run_i.blks 0 := by kernel_rfl
theorem kept_p_chain_List : p_chain_List_c.kept = keptR p_chain_List_i.blks 0 := by kernel_rfl
theorem kept_p_besomlaw14_small : p_besomlaw14_small_c.kept = keptR p_besomlaw14_small_i.blks 0 := by kernel_rfl
theorem kept_p_besomlaw14_examples : p_besomlaw14_examples_c.kept = keptR p_besomlaw14_examples_i.blks 0 := by kernel_rfl
theorem kept_p_besomlaw14_Maker_byte_v1 : p_besomlaw14_Maker_byte_v1_c.kept = keptR p_besomlaw14_Maker_byte_v1_i.blks 0 := by kernel_rfl
theorem kept_p_besomlaw14_Maker_op_v1 : p_besomlaw14_Maker_op_v1_c.kept = keptR p_besomlaw14_Maker_op_v1_i.blks 0 := by kernel_rfl
theorem kept_p_besomlaw14_made : p_besomlaw14_made_c.kept = keptR p_besomlaw14_made_i.blks 0 := by kernel_rfl
theorem kept_p_besomlaw14_Grow_begin : p_besomlaw14_Grow_begin_c.kept = keptR p_besomlaw14_Grow_begin_i.blks 0 := by kernel_rfl
theorem kept_p_besomlaw14_refHeap : p_besomlaw14_refHeap_c.kept = keptR p_besomlaw14_refHeap_i.blks 0 := by kernel_rfl
theorem kept_p_besomlaw14_refPicks : p_besomlaw14_refPicks_c.kept = keptR p_besomlaw14_refPicks_i.blks 0 := by kernel_rfl
theorem kept_p_besomlaw14_refOps : p_besomlaw14_refOps_c.kept = keptR p_besomlaw14_refOps_i.blks 0 := by kernel_rfl
theorem kept_p_besomlaw14_refPlan : p_besomlaw14_refPlan_c.kept = keptR p_besomlaw14_refPlan_i.blks 0 := by kernel_rfl
theorem kept_p_besomlaw14_refTint : p_besomlaw14_refTint_c.kept = keptR p_besomlaw14_refTint_i.blks 0 := by kernel_rfl
theorem kept_p_besomlaw14_refLedger : p_besomlaw14_refLedger_c.kept = keptR p_besomlaw14_refLedger_i.blks 0 := by kernel_rfl
theorem kept_p_besomlaw14_refDeque : p_besomlaw14_refDeque_c.kept = keptR p_besomlaw14_refDeque_i.blks 0 := by kernel_rfl
theorem kept_p_besomlaw14_refChain : p_besomlaw14_refChain_c.kept = keptR p_besomlaw14_refChain_i.blks 0 := by kernel_rfl
theorem kept_p_besomlaw14_refGrey : p_besomlaw14_refGrey_c.kept = keptR p_besomlaw14_refGrey_i.blks 0 := by kernel_rfl
theorem kept_p_besomlaw14_refWorker : p_besomlaw14_refWorker_c.kept = keptR p_besomlaw14_refWorker_i.blks 0 := by kernel_rfl
theorem kept_p_besomlaw14_refMutator : p_besomlaw14_refMutator_c.kept = keptR p_besomlaw14_refMutator_i.blks 0 := by kernel_rfl
theorem kept_p_besomlaw14_refState : p_besomlaw14_refState_c.kept = keptR p_besomlaw14_refState_i.blks 0 := by kernel_rfl
theorem kept_p_besomref08_Start : p_besomref08_Start_c.kept = keptR p_besomref08_Start_i.blks 0 := by kernel_rfl
theorem kept_p_besomref13_Deque : p_besomref13_Deque_c.kept = keptR p_besomref13_Deque_i.blks 0 := by kernel_rfl
theorem kept_p_besomref13_Full : p_besomref13_Full_c.kept = keptR p_besomref13_Full_i.blks 0 := by kernel_rfl
theorem kept_p_besomref13_Empty : p_besomref13_Empty_c.kept = keptR p_besomref13_Empty_i.blks 0 := by kernel_rfl
theorem kept_p_besomref13_Next : p_besomref13_Next_c.kept = keptR p_besomref13_Next_i.blks 0 := by kernel_rfl
theorem kept_p_besomref14_List : p_besomref14_List_c.kept = keptR p_besomref14_List_i.blks 0 := by kernel_rfl
theorem kept_p_besomref02_object : p_besomref02_object_c.kept = keptR p_besomref02_object_i.blks 0 := by kernel_rfl
theorem kept_p_besomref02_Has : p_besomref02_Has_c.kept = keptR p_besomref02_Has_i.blks 0 := by kernel_rfl
theorem kept_p_besomref02_Add : p_besomref02_Add_c.kept = keptR p_besomref02_Add_i.blks 0 := by kernel_rfl
theorem kept_p_besomref09_Shade : p_besomref09_Shade_c.kept = keptR p_besomref09_Shade_i.blks 0 := by kernel_rfl
theorem kept_p_besomref07_Start : p_besomref07_Start_c.kept = keptR p_besomref07_Start_i.blks 0 := by kernel_rfl
theorem kept_p_besomref14_mark : p_besomref14_mark_c.kept = keptR p_besomref14_mark_i.blks 0 := by kernel_rfl
theorem kept_p_besomref05_Do : p_besomref05_Do_c.kept = keptR p_besomref05_Do_i.blks 0 := by kernel_rfl
theorem kept_p_besomref07_load : p_besomref07_load_c.kept = keptR p_besomref07_load_i.blks 0 := by kernel_rfl
theorem kept_p_besomref07_store : p_besomref07_store_c.kept = keptR p_besomref07_store_i.blks 0 := by kernel_rfl
theorem kept_p_besomref07_place : p_besomref07_place_c.kept = keptR p_besomref07_place_i.blks 0 := by kernel_rfl
theorem kept_p_besomref07_push : p_besomref07_push_c.kept = keptR p_besomref07_push_i.blks 0 := by kernel_rfl
theorem kept_p_besomref07_swap : p_besomref07_swap_c.kept = keptR p_besomref07_swap_i.blks 0 := by kernel_rfl
theorem kept_p_besomref07_pop : p_besomref07_pop_c.kept = keptR p_besomref07_pop_i.blks 0 := by kernel_rfl
theorem kept_p_besomref07_steal : p_besomref07_steal_c.kept = keptR p_besomref07_steal_i.blks 0 := by kernel_rfl
theorem kept_p_besomref07_Step : p_besomref07_Step_c.kept = keptR p_besomref07_Step_i.blks 0 := by kernel_rfl
theorem kept_p_besomref08_load : p_besomref08_load_c.kept = keptR p_besomref08_load_i.blks 0 := by kernel_rfl
theorem kept_p_besomref08_Node : p_besomref08_Node_c.kept = keptR p_besomref08_Node_i.blks 0 := by kernel_rfl
theorem kept_p_besomref08_store : p_besomref08_store_c.kept = keptR p_besomref08_store_i.blks 0 := by kernel_rfl
theorem kept_p_besomref08_Pack : p_besomref08_Pack_c.kept = keptR p_besomref08_Pack_i.blks 0 := by kernel_rfl
theorem kept_p_besomref08_swap : p_besomref08_swap_c.kept = keptR p_besomref08_swap_i.blks 0 := by kernel_rfl
theorem kept_p_besomref08_Step : p_besomref08_Step_c.kept = keptR p_besomref08_Step_i.blks 0 := by kernel_rfl
theorem kept_p_besomref14_Put : p_besomref14_Put_c.kept = keptR p_besomref14_Put_i.blks 0 := by kernel_rfl
theorem kept_p_besomref14_Step : p_besomref14_Step_c.kept = keptR p_besomref14_Step_i.blks 0 := by kernel_rfl
theorem kept_p_besomref03_Same : p_besomref03_Same_c.kept = keptR p_besomref03_Same_i.blks 0 := by kernel_rfl
theorem kept_p_besomref12_Same : p_besomref12_Same_c.kept = keptR p_besomref12_Same_i.blks 0 := by kernel_rfl
theorem kept_p_besomref05_Same : p_besomref05_Same_c.kept = keptR p_besomref05_Same_i.blks 0 := by kernel_rfl
theorem kept_p_besomref13_sameInts : p_besomref13_sameInts_c.kept = keptR p_besomref13_sameInts_i.blks 0 := by kernel_rfl
theorem kept_p_besomref10_Same : p_besomref10_Same_c.kept = keptR p_besomref10_Same_i.blks 0 := by kernel_rfl
theorem kept_p_besomref13_sameWorker : p_besomref13_sameWorker_c.kept = keptR p_besomref13_sameWorker_i.blks 0 := by kernel_rfl
theorem kept_p_besomref13_sameMutator : p_besomref13_sameMutator_c.kept = keptR p_besomref13_sameMutator_i.blks 0 := by kernel_rfl
theorem kept_p_besomref13_Same : p_besomref13_Same_c.kept = keptR p_besomref13_Same_i.blks 0 := by kernel_rfl
theorem kept_p_besomref14_Holds : p_besomref14_Holds_c.kept = keptR p_besomref14_Holds_i.blks 0 := by kernel_rfl
theorem kept_p_besomref14_Asks : p_besomref14_Asks_c.kept = keptR p_besomref14_Asks_i.blks 0 := by kernel_rfl
theorem kept_p_besomref14_Owes : p_besomref14_Owes_c.kept = keptR p_besomref14_Owes_i.blks 0 := by kernel_rfl
theorem kept_p_besomref14_Begin : p_besomref14_Begin_c.kept = keptR p_besomref14_Begin_i.blks 0 := by kernel_rfl
theorem kept_p_besomlaw14_GreyTells : p_besomlaw14_GreyTells_c.kept = keptR p_besomlaw14_GreyTells_i.blks 0 := by kernel_rfl
variable (G : Nat → Prop) (W0 : World) (hG : Glob G W0)
include hG
theorem p_bits_OnesCount64_sound : Sound Tryz.prog G W0 83 p_bits_OnesCount64 := gen_sound (C := p_bits_OnesCount64_c) tab_ok (specsOk_of (.nil)) rfl (itsOk_of (.nil)) mixed fn83 body83 kept_p_bits_OnesCount64 (by kernel_rfl)
theorem p_set_Count_sound : Sound Tryz.prog G W0 26 p_set_Count := gen_sound (C := p_set_Count_c) tab_ok (specsOk_of (.cons _ _ _ _ call83 (p_bits_OnesCount64_sound G W0 hG) (.skip _ _ .nil))) rfl (itsOk_of (.nil)) mixed fn26 body26 kept_p_set_Count (by kernel_rfl)
theorem p_state_Deque_sound : Sound Tryz.prog G W0 33 p_state_Deque := gen_sound (C := p_state_Deque_c) tab_ok (specsOk_of (.nil)) rfl (itsOk_of (.nil)) mixed fn33 body33 kept_p_state_Deque (by kernel_rfl)
theorem p_state_Full_sound : Sound Tryz.prog G W0 35 p_state_Full := gen_sound (C := p_state_Full_c) tab_ok (specsOk_of (.nil)) rfl (itsOk_of (.nil)) mixed fn35 body35 kept_p_state_Full (by kernel_rfl)
theorem p_state_Empty_sound : Sound Tryz.prog G W0 53 p_state_Empty := gen_sound (C := p_state_Empty_c) tab_ok (specsOk_of (.cons _ _ _ _ call35 (p_state_Full_sound G W0 hG) (.skip _ _ .nil))) rfl (itsOk_of (.nil)) mixed fn53 body53 kept_p_state_Empty (by kernel_rfl)
theorem p_state_Next_sound : Sound Tryz.prog G W0 36 p_state_Next := gen_sound (C := p_state_Next_c) tab_ok (specsOk_of (.cons _ _ _ _ call53 (p_state_Empty_sound G W0 hG) (.skip _ _ .nil))) rfl (itsOk_of (.nil)) mixed fn36 body36 kept_p_state_Next (by kernel_rfl)
theorem p_plan_within_sound : Sound Tryz.prog G W0 107 p_plan_within := gen_sound (C := p_plan_within_c) tab_ok (specsOk_of (.nil)) rfl (itsOk_of (.nil)) mixed fn107 body107 kept_p_plan_within (by kernel_rfl)
theorem p_plan_Plan_sized_sound : Sound Tryz.prog G W0 105 p_plan_Plan_sized := gen_sound (C := p_plan_Plan_sized_c) tab_ok (specsOk_of (.cons _ _ _ _ call107 (p_plan_within_sound G W0 hG) (.skip _ _ .nil))) rfl (itsOk_of (.nil)) mixed fn105 body105 kept_p_plan_Plan_sized (by kernel_rfl)
theorem p_heap_RightF1F1_sound : Sound Tryz.prog G W0 150 p_heap_RightF1F1 := gen_sound (C := p_heap_RightF1F1_c) tab_ok (specsOk_of (.nil)) rfl (itsOk_of (.nil)) mixed fn150 body150 kept_p_heap_RightF1F1 (by kernel_rfl)
theorem p_slices_IndexFunc_Lint_int_sound : Sound Tryz.prog G W0 152 p_slices_IndexFunc_Lint_int := gen_sound (C := p_slices_IndexFunc_Lint_int_c) tab_ok (specsOk_of (.cons _ _ _ _ call150 (p_heap_RightF1F1_sound G W0 hG) (.skip _ _ .nil))) rfl (itsOk_of (.nil)) mixed fn152 body152 kept_p_slices_IndexFunc_Lint_int (by kernel_rfl)
theorem p_slices_ContainsFunc_Lint_int_sound : Sound Tryz.prog G W0 110 p_slices_ContainsFunc_Lint_int := gen_sound (C := p_slices_ContainsFunc_Lint_int_c) tab_ok (specsOk_of (.cons _ _ _ _ call152 (p_slices_IndexFunc_Lint_int_sound G W0 hG) (.skip _ _ .nil))) rfl (itsOk_of (.nil)) mixed fn110 body110 kept_p_slices_ContainsFunc_Lint_int (by kernel_rfl)
theorem p_heap_RightF1_sound : Sound Tryz.prog G W0 149 p_heap_RightF1 := gen_sound (C := p_heap_RightF1_c) tab_ok (specsOk_of (.cons _ _ _ _ call110 (p_slices_ContainsFunc_Lint_int_sound G W0 hG) (.skip _ _ .nil))) rfl (itsOk_of (.nil)) mixed fn149 body149 kept_p_heap_RightF1 (by kernel_rfl)
theorem p_slices_IndexFunc_LLint_Lint_sound : Sound Tryz.prog G W0 179 p_slices_IndexFunc_LLint_Lint := gen_sound (C := p_slices_IndexFunc_LLint_Lint_c) tab_ok (specsOk_of (.cons _ _ _ _ call149 (p_heap_RightF1_sound G W0 hG) (.skip _ _ .nil))) rfl (itsOk_of (.nil)) mixed fn179 body179 kept_p_slices_IndexFunc_LLint_Lint (by kernel_rfl)
theorem p_slices_ContainsFunc_LLint_Lint_sound : Sound Tryz.prog G W0 151 p_slices_ContainsFunc_LLint_Lint := gen_sound (C := p_slices_ContainsFunc_LLint_Lint_c) tab_ok (specsOk_of (.cons _ _ _ _ call179 (p_slices_IndexFunc_LLint_Lint_sound G W0 hG) (.skip _ _ .nil))) rfl (itsOk_of (.nil)) mixed fn151 body151 kept_p_slices_ContainsFunc_LLint_Lint (by kernel_rfl)
theorem p_heap_Right_sound : Sound Tryz.prog G W0 106 p_heap_Right := gen_sound (C := p_heap_Right_c) tab_ok (specsOk_of (.cons _ _ _ _ call151 (p_slices_ContainsFunc_LLint_Lint_sound G W0 hG) (.skip _ _ .nil))) rfl (itsOk_of (.nil)) mixed fn106 body106 kept_p_heap_Right (by kernel_rfl)
theorem p_set_Under_sound : Sound Tryz.prog G W0 108 p_set_Under := gen_sound (C := p_set_Under_c) tab_ok (specsOk_of (.nil)) rfl (itsOk_of (.nil)) mixed fn108 body108 kept_p_set_Under (by kernel_rfl)
theorem p_set_First_sound : Sound Tryz.prog G W0 109 p_set_First := gen_sound (C := p_set_First_c) tab_ok (specsOk_of (.nil)) rfl (itsOk_of (.nil)) mixed fn109 body109 kept_p_set_First (by kernel_rfl)
theorem p_plan_RightF1_sound : Sound Tryz.prog G W0 111 p_plan_RightF1 := gen_sound (C := p_plan_RightF1_c) tab_ok (specsOk_of (.cons _ _ _ _ call107 (p_plan_within_sound G W0 hG) (.skip _ _ .nil))) rfl (itsOk_of (.nil)) mixed fn111 body111 kept_p_plan_RightF1 (by kernel_rfl)
theorem p_slices_IndexFunc_Lint_int_v1_sound : Sound Tryz.prog G W0 152 p_slices_IndexFunc_Lint_int_v1 := gen_sound (C := p_slices_IndexFunc_Lint_int_v1_c) tab_ok (specsOk_of (.cons _ _ _ _ call111 (p_plan_RightF1_sound G W0 hG) (.skip _ _ .nil))) rfl (itsOk_of (.nil)) mixed fn152 body152 kept_p_slices_IndexFunc_Lint_int_v1 (by kernel_rfl)
theorem p_slices_ContainsFunc_Lint_int_v1_sound : Sound Tryz.prog G W0 110 p_slices_ContainsFunc_Lint_int_v1 := gen_sound (C := p_slices_ContainsFunc_Lint_int_v1_c) tab_ok (specsOk_of (.cons _ _ _ _ call152 (p_slices_IndexFunc_Lint_int_v1_sound G W0 hG) (.skip _ _ .nil))) rfl (itsOk_of (.nil)) mixed fn110 body110 kept_p_slices_ContainsFunc_Lint_int_v1 (by kernel_rfl)
theorem p_code_RightF1_sound : Sound Tryz.prog G W0 181 p_code_RightF1 := gen_sound (C := p_code_RightF1_c) tab_ok (specsOk_of (.nil)) rfl (itsOk_of (.nil)) mixed fn181 body181 kept_p_code_RightF1 (by kernel_rfl)
theorem p_code_Right_sound : Sound Tryz.prog G W0 155 p_code_Right := gen_sound (C := p_code_Right_c) tab_ok (specsOk_of (.cons _ _ _ _ call181 (p_code_RightF1_sound G W0 hG) (.skip _ _ .nil))) rfl (itsOk_of (.nil)) mixed fn155 body155 kept_p_code_Right (by kernel_rfl)
theorem p_code_FitsF1_sound : Sound Tryz.prog G W0 154 p_code_FitsF1 := gen_sound (C := p_code_FitsF1_c) tab_ok (specsOk_of (.cons _ _ _ _ call155 (p_code_Right_sound G W0 hG) (.skip _ _ .nil))) rfl (itsOk_of (.nil)) mixed fn154 body154 kept_p_code_FitsF1 (by kernel_rfl)
theorem p_slices_IndexFunc_Lcode_Op_code_Op_sound : Sound Tryz.prog G W0 180 p_slices_IndexFunc_Lcode_Op_code_Op := gen_sound (C := p_slices_IndexFunc_Lcode_Op_code_Op_c) tab_ok (specsOk_of (.cons _ _ _ _ call154 (p_code_FitsF1_sound G W0 hG) (.skip _ _ .nil))) rfl (itsOk_of (.nil)) mixed fn180 body180 kept_p_slices_IndexFunc_Lcode_Op_code_Op (by kernel_rfl)
theorem p_slices_ContainsFunc_Lcode_Op_code_Op_sound : Sound Tryz.prog G W0 153 p_slices_ContainsFunc_Lcode_Op_code_Op := gen_sound (C := p_slices_ContainsFunc_Lcode_Op_code_Op_c) tab_ok (specsOk_of (.cons _ _ _ _ call180 (p_slices_IndexFunc_Lcode_Op_code_Op_sound G W0 hG) (.skip _ _ .nil))) rfl (itsOk_of (.nil)) mixed fn153 body153 kept_p_slices_ContainsFunc_Lcode_Op_code_Op (by kernel_rfl)
theorem p_code_Fits_sound : Sound Tryz.prog G W0 112 p_code_Fits := gen_sound (C := p_code_Fits_c) tab_ok (specsOk_of (.cons _ _ _ _ call153 (p_slices_ContainsFunc_Lcode_Op_code_Op_sound G W0 hG) (.skip _ _ .nil))) rfl (itsOk_of (.nil)) mixed fn112 body112 kept_p_code_Fits (by kernel_rfl)
theorem p_pick_Right_sound : Sound Tryz.prog G W0 158 p_pick_Right := gen_sound (C := p_pick_Right_c) tab_ok (specsOk_of (.nil)) rfl (itsOk_of (.nil)) mixed fn158 body158 kept_p_pick_Right (by kernel_rfl)
theorem p_pick_KnownF1_sound : Sound Tryz.prog G W0 157 p_pick_KnownF1 := gen_sound (C := p_pick_KnownF1_c) tab_ok (specsOk_of (.cons _ _ _ _ call158 (p_pick_Right_sound G W0 hG) (.skip _ _ .nil))) rfl (itsOk_of (.nil)) mixed fn157 body157 kept_p_pick_KnownF1 (by kernel_rfl)
theorem p_slices_IndexFunc_Lpick_Pick_pick_Pick_sound : Sound Tryz.prog G W0 182 p_slices_IndexFunc_Lpick_Pick_pick_Pick := gen_sound (C := p_slices_IndexFunc_Lpick_Pick_pick_Pick_c) tab_ok (specsOk_of (.cons _ _ _ _ call157 (p_pick_KnownF1_sound G W0 hG) (.skip _ _ .nil))) rfl (itsOk_of (.nil)) mixed fn182 body182 kept_p_slices_IndexFunc_Lpick_Pick_pick_Pick (by kernel_rfl)
theorem p_slices_ContainsFunc_Lpick_Pick_pick_Pick_sound : Sound Tryz.prog G W0 156 p_slices_ContainsFunc_Lpick_Pick_pick_Pick := gen_sound (C := p_slices_ContainsFunc_Lpick_Pick_pick_Pick_c) tab_ok (specsOk_of (.cons _ _ _ _ call182 (p_slices_IndexFunc_Lpick_Pick_pick_Pick_sound G W0 hG) (.skip _ _ .nil))) rfl (itsOk_of (.nil)) mixed fn156 body156 kept_p_slices_ContainsFunc_Lpick_Pick_pick_Pick (by kernel_rfl)
theorem p_pick_Known_sound : Sound Tryz.prog G W0 113 p_pick_Known := gen_sound (C := p_pick_Known_c) tab_ok (specsOk_of (.cons _ _ _ _ call156 (p_slices_ContainsFunc_Lpick_Pick_pick_Pick_sound G W0 hG) (.skip _ _ .nil))) rfl (itsOk_of (.nil)) mixed fn113 body113 kept_p_pick_Known (by kernel_rfl)
theorem p_plan_Right_sound : Sound Tryz.prog G W0 42 p_plan_Right := gen_sound (C := p_plan_Right_c) tab_ok (specsOk_of (.cons _ _ _ _ call105 (p_plan_Plan_sized_sound G W0 hG) (.skip _ _ (.cons _ _ _ _ call106 (p_heap_Right_sound G W0 hG) (.skip _ _ (.cons _ _ _ _ call107 (p_plan_within_sound G W0 hG) (.skip _ _ (.cons _ _ _ _ call108 (p_set_Under_sound G W0 hG) (.skip _ _ (.cons _ _ _ _ call109 (p_set_First_sound G W0 hG) (.skip _ _ (.cons _ _ _ _ call110 (p_slices_ContainsFunc_Lint_int_v1_sound G W0 hG) (.skip _ _ (.cons _ _ _ _ call112 (p_code_Fits_sound G W0 hG) (.skip _ _ (.cons _ _ _ _ call113 (p_pick_Known_sound G W0 hG) (.skip _ _ .nil))))))))))))))))) rfl (itsOk_of (.nil)) mixed fn42 body42 kept_p_plan_Right (by kernel_rfl)
theorem p_set_bit_sound : Sound Tryz.prog G W0 84 p_set_bit := gen_sound (C := p_set_bit_c) tab_ok (specsOk_of (.nil)) rfl (itsOk_of (.nil)) mixed fn84 body84 kept_p_set_bit (by kernel_rfl)
theorem p_set_Add_sound : Sound Tryz.prog G W0 29 p_set_Add := gen_sound (C := p_set_Add_c) tab_ok (specsOk_of (.cons _ _ _ _ call84 (p_set_bit_sound G W0 hG) (.skip _ _ .nil))) rfl (itsOk_of (.nil)) mixed fn29 body29 kept_p_set_Add (by kernel_rfl)
theorem p_set_Of_sound : Sound Tryz.prog G W0 94 p_set_Of := gen_sound (C := p_set_Of_c) tab_ok (specsOk_of (.cons _ _ _ _ call29 (p_set_Add_sound G W0 hG) (.skip _ _ .nil))) rfl (itsOk_of (.nil)) mixed fn94 body94 kept_p_set_Of (by kernel_rfl)
theorem p_plan_Greys_sound : Sound Tryz.prog G W0 43 p_plan_Greys := gen_sound (C := p_plan_Greys_c) tab_ok (specsOk_of (.cons _ _ _ _ call94 (p_set_Of_sound G W0 hG) (.skip _ _ .nil))) rfl (itsOk_of (.nil)) mixed fn43 body43 kept_p_plan_Greys (by kernel_rfl)
theorem p_ledger_New_sound : Sound Tryz.prog G W0 44 p_ledger_New := gen_sound (C := p_ledger_New_c) tab_ok (specsOk_of (.nil)) rfl (itsOk_of (.nil)) mixed fn44 body44 kept_p_ledger_New (by kernel_rfl)
theorem p_slices_Clone_Lint_int_sound : Sound Tryz.prog G W0 46 p_slices_Clone_Lint_int := gen_sound (C := p_slices_Clone_Lint_int_c) tab_ok (specsOk_of (.nil)) rfl (itsOk_of (.nil)) mixed fn46 body46 kept_p_slices_Clone_Lint_int (by kernel_rfl)
theorem p_state_each_Lint_sound : Sound Tryz.prog G W0 45 p_state_each_Lint := gen_sound (C := p_state_each_Lint_c) tab_ok (specsOk_of (.cons _ _ _ _ call46 (p_slices_Clone_Lint_int_sound G W0 hG) (.skip _ _ .nil))) rfl (itsOk_of (.nil)) mixed fn45 body45 kept_p_state_each_Lint (by kernel_rfl)
theorem p_deque_Cells_sound : Sound Tryz.prog G W0 47 p_deque_Cells := gen_sound (C := p_deque_Cells_c) tab_ok (specsOk_of (.nil)) rfl (itsOk_of (.nil)) mixed fn47 body47 kept_p_deque_Cells (by kernel_rfl)
theorem p_deque_Start_sound : Sound Tryz.prog G W0 48 p_deque_Start := gen_sound (C := p_deque_Start_c) tab_ok (specsOk_of (.nil)) rfl (itsOk_of (.nil)) mixed fn48 body48 kept_p_deque_Start (by kernel_rfl)
theorem p_plan_Bins_sound : Sound Tryz.prog G W0 49 p_plan_Bins := gen_sound (C := p_plan_Bins_c) tab_ok (specsOk_of (.nil)) rfl (itsOk_of (.nil)) mixed fn49 body49 kept_p_plan_Bins (by kernel_rfl)
theorem p_slices_Chunk_Lint_int_sound : Sound Tryz.prog G W0 50 p_slices_Chunk_Lint_int := gen_sound (C := p_slices_Chunk_Lint_int_c) tab_ok (specsOk_of (.nil)) rfl (itsOk_of (.nil)) mixed fn50 body50 kept_p_slices_Chunk_Lint_int (by kernel_rfl)
theorem p_set_each_sound : Sound Tryz.prog G W0 115 p_set_each := gen_sound (C := p_set_each_c) tab_ok (specsOk_of (.nil)) rfl (itsOk_of (.nil)) mixed fn115 body115 kept_p_set_each (by kernel_rfl)
theorem i_set_eachF1_ok : IterOk Tryz.prog G W0 159 i_set_eachF1 := i_set_eachF1_ok0 G W0 hG
theorem p_set_List_sound : Sound Tryz.prog G W0 51 p_set_List := gen_sound (C := p_set_List_c) tab_ok (specsOk_of (.cons _ _ _ _ call115 (p_set_each_sound G W0 hG) (.skip _ _ .nil))) rfl (itsOk_of (.cons _ _ _ (i_set_eachF1_ok G W0 hG) (.nil))) mixed fn51 body51 kept_p_set_List (by kernel_rfl)
theorem p_mem_DoF1_sound : Sound Tryz.prog G W0 174 p_mem_DoF1 := gen_sound (C := p_mem_DoF1_c) tab_ok (specsOk_of (.nil)) rfl (itsOk_of (.nil)) mixed fn174 body174 kept_p_mem_DoF1 (by kernel_rfl)
theorem p_mem_DoF2_sound : Sound Tryz.prog G W0 175 p_mem_DoF2 := gen_sound (C := p_mem_DoF2_c) tab_ok (specsOk_of (.nil)) rfl (itsOk_of (.nil)) mixed fn175 body175 kept_p_mem_DoF2 (by kernel_rfl)
theorem p_mem_DoF3_sound : Sound Tryz.prog G W0 176 p_mem_DoF3 := gen_sound (C := p_mem_DoF3_c) tab_ok (specsOk_of (.nil)) rfl (itsOk_of (.nil)) mixed fn176 body176 kept_p_mem_DoF3 (by kernel_rfl)
theorem p_mem_DoF4_sound : Sound Tryz.prog G W0 177 p_mem_DoF4 := gen_sound (C := p_mem_DoF4_c) tab_ok (specsOk_of (.nil)) rfl (itsOk_of (.nil)) mixed fn177 body177 kept_p_mem_DoF4 (by kernel_rfl)
theorem p_slices_Clone_mem_Mem_uint64_sound : Sound Tryz.prog G W0 178 p_slices_Clone_mem_Mem_uint64 := gen_sound (C := p_slices_Clone_mem_Mem_uint64_c) tab_ok (specsOk_of (.nil)) rfl (itsOk_of (.nil)) mixed fn178 body178 kept_p_slices_Clone_mem_Mem_uint64 (by kernel_rfl)
theorem p_mem_Do_sound : Sound Tryz.prog G W0 141 p_mem_Do := gen_sound (C := p_mem_Do_c) tab_ok (specsOk_of (.cons _ _ _ _ call174 (p_mem_DoF1_sound G W0 hG) (.skip _ _ (.cons _ _ _ _ call175 (p_mem_DoF2_sound G W0 hG) (.skip _ _ (.cons _ _ _ _ call176 (p_mem_DoF3_sound G W0 hG) (.skip _ _ (.cons _ _ _ _ call177 (p_mem_DoF4_sound G W0 hG) (.skip _ _ (.cons _ _ _ _ call178 (p_slices_Clone_mem_Mem_uint64_sound G W0 hG) (.skip _ _ .nil))))))))))) rfl (itsOk_of (.nil)) mixed fn141 body141 kept_p_mem_Do (by kernel_rfl)
theorem p_chain_store_sound : Sound Tryz.prog G W0 116 p_chain_store := gen_sound (C := p_chain_store_c) tab_ok (specsOk_of (.cons _ _ _ _ call141 (p_mem_Do_sound G W0 hG) (.skip _ _ .nil))) rfl (itsOk_of (.nil)) mixed fn116 body116 kept_p_chain_store (by kernel_rfl)
theorem p_chain_Pack_sound : Sound Tryz.prog G W0 117 p_chain_Pack := gen_sound (C := p_chain_Pack_c) tab_ok (specsOk_of (.nil)) rfl (itsOk_of (.nil)) mixed fn117 body117 kept_p_chain_Pack (by kernel_rfl)
theorem p_chain_Lay_sound : Sound Tryz.prog G W0 52 p_chain_Lay := gen_sound (C := p_chain_Lay_c) tab_ok (specsOk_of (.cons _ _ _ _ call116 (p_chain_store_sound G W0 hG) (.skip _ _ (.cons _ _ _ _ call117 (p_chain_Pack_sound G W0 hG) (.skip _ _ .nil))))) rfl (itsOk_of (.nil)) mixed fn52 body52 kept_p_chain_Lay (by kernel_rfl)
theorem i_slices_Chunk_Lint_int_F1_ok : IterOk Tryz.prog G W0 114 i_slices_Chunk_Lint_int_F1 := i_slices_Chunk_Lint_int_F1_ok0 G W0 hG
theorem p_state_New_sound : Sound Tryz.prog G W0 10 p_state_New := gen_sound (C := p_state_New_c) tab_ok (specsOk_of (.cons _ _ _ _ call26 (p_set_Count_sound G W0 hG) (.skip _ _ (.cons _ _ _ _ call33 (p_state_Deque_sound G W0 hG) (.skip _ _ (.cons _ _ _ _ call35 (p_state_Full_sound G W0 hG) (.skip _ _ (.cons _ _ _ _ call36 (p_state_Next_sound G W0 hG) (.skip _ _ (.cons _ _ _ _ call42 (p_plan_Right_sound G W0 hG) (.skip _ _ (.cons _ _ _ _ call43 (p_plan_Greys_sound G W0 hG) (.skip _ _ (.cons _ _ _ _ call44 (p_ledger_New_sound G W0 hG) (.skip _ _ (.cons _ _ _ _ call45 (p_state_each_Lint_sound G W0 hG) (.skip _ _ (.cons _ _ _ _ call46 (p_slices_Clone_Lint_int_sound G W0 hG) (.skip _ _ (.cons _ _ _ _ call47 (p_deque_Cells_sound G W0 hG) (.skip _ _ (.cons _ _ _ _ call48 (p_deque_Start_sound G W0 hG) (.skip _ _ (.cons _ _ _ _ call49 (p_plan_Bins_sound G W0 hG) (.skip _ _ (.cons _ _ _ _ call50 (p_slices_Chunk_Lint_int_sound G W0 hG) (.skip _ _ (.cons _ _ _ _ call51 (p_set_List_sound G W0 hG) (.skip _ _ (.cons _ _ _ _ call52 (p_chain_Lay_sound G W0 hG) (.skip _ _ (.cons _ _ _ _ call53 (p_state_Empty_sound G W0 hG) (.skip _ _ .nil))))))))))))))))))))))))))))))))) rfl (itsOk_of (.cons _ _ _ (i_slices_Chunk_Lint_int_F1_ok G W0 hG) (.nil))) mixed fn10 body10 kept_p_state_New (by kernel_rfl)
theorem p_grey_Begin_sound : Sound Tryz.prog G W0 12 p_grey_Begin := gen_sound (C := p_grey_Begin_c) tab_ok (specsOk_of (.nil)) rfl (itsOk_of (.nil)) mixed fn12 body12 kept_p_grey_Begin (by kernel_rfl)
theorem p_grey_machine_reserve_v1_sound : Sound Tryz.prog G W0 62 p_grey_machine_reserve_v1 := gen_sound (C := p_grey_machine_reserve_v1_c) tab_ok (specsOk_of (.nil)) rfl (itsOk_of (.nil)) mixed fn62 body62 kept_p_grey_machine_reserve_v1 (by kernel_rfl)
theorem p_set_Has_sound : Sound Tryz.prog G W0 140 p_set_Has := gen_sound (C := p_set_Has_c) tab_ok (specsOk_of (.cons _ _ _ _ call84 (p_set_bit_sound G W0 hG) (.skip _ _ .nil))) rfl (itsOk_of (.nil)) mixed fn140 body140 kept_p_set_Has (by kernel_rfl)
theorem p_tint_Shade_sound : Sound Tryz.prog G W0 120 p_tint_Shade := gen_sound (C := p_tint_Shade_c) tab_ok (specsOk_of (.cons _ _ _ _ call29 (p_set_Add_sound G W0 hG) (.skip _ _ (.cons _ _ _ _ call140 (p_set_Has_sound G W0 hG) (.skip _ _ .nil))))) rfl (itsOk_of (.nil)) mixed fn120 body120 kept_p_tint_Shade (by kernel_rfl)
theorem p_chain_Start_sound : Sound Tryz.prog G W0 125 p_chain_Start := gen_sound (C := p_chain_Start_c) tab_ok (specsOk_of (.nil)) rfl (itsOk_of (.nil)) mixed fn125 body125 kept_p_chain_Start (by kernel_rfl)
theorem p_grey_machine_ask_v1_sound : Sound Tryz.prog G W0 121 p_grey_machine_ask_v1 := gen_sound (C := p_grey_machine_ask_v1_c) tab_ok (specsOk_of (.cons _ _ _ _ call36 (p_state_Next_sound G W0 hG) (.skip _ _ (.cons _ _ _ _ call53 (p_state_Empty_sound G W0 hG) (.skip _ _ (.cons _ _ _ _ call125 (p_chain_Start_sound G W0 hG) (.skip _ _ .nil))))))) rfl (itsOk_of (.nil)) mixed fn121 body121 kept_p_grey_machine_ask_v1 (by kernel_rfl)
theorem p_grey_machine_mark_v1_sound : Sound Tryz.prog G W0 63 p_grey_machine_mark_v1 := gen_sound (C := p_grey_machine_mark_v1_c) tab_ok (specsOk_of (.cons _ _ _ _ call33 (p_state_Deque_sound G W0 hG) (.skip _ _ (.cons _ _ _ _ call48 (p_deque_Start_sound G W0 hG) (.skip _ _ (.cons _ _ _ _ call120 (p_tint_Shade_sound G W0 hG) (.skip _ _ (.cons _ _ _ _ call121 (p_grey_machine_ask_v1_sound G W0 hG) (.skip _ _ .nil))))))))) rfl (itsOk_of (.nil)) mixed fn63 body63 kept_p_grey_machine_mark_v1 (by kernel_rfl)
theorem p_grey_machine_back_v1_sound : Sound Tryz.prog G W0 64 p_grey_machine_back_v1 := gen_sound (C := p_grey_machine_back_v1_c) tab_ok (specsOk_of (.nil)) rfl (itsOk_of (.nil)) mixed fn64 body64 kept_p_grey_machine_back_v1 (by kernel_rfl)
theorem p_deque_stepsa_sound : Sound Tryz.prog G W0 161 p_deque_stepsa := gen_sound (C := p_deque_steps_c) tab_ok (specsOk_of (.nil)) rfl (itsOk_of (.nil)) mixed fn161 body161 kept_p_deque_steps (by kernel_rfl)
theorem p_deque_stepsb_sound : Sound Tryz.prog G W0 161 p_deque_stepsb := gen_sound (C := p_deque_steps_c) tab_ok (specsOk_of (.nil)) rfl (itsOk_of (.nil)) mixed fn161 body161 kept_p_deque_steps (by kernel_rfl)
theorem p_deque_stepsc_sound : Sound Tryz.prog G W0 161 p_deque_stepsc := gen_sound (C := p_deque_steps_c) tab_ok (specsOk_of (.nil)) rfl (itsOk_of (.nil)) mixed fn161 body161 kept_p_deque_steps (by kernel_rfl)
theorem p_deque_stepsd_sound : Sound Tryz.prog G W0 161 p_deque_stepsd := gen_sound (C := p_deque_steps_c) tab_ok (specsOk_of (.nil)) rfl (itsOk_of (.nil)) mixed fn161 body161 kept_p_deque_steps (by kernel_rfl)
theorem p_deque_load_sound : Sound Tryz.prog G W0 86 p_deque_load := gen_sound (C := p_deque_load_c) tab_ok (specsOk_of (.cons _ _ _ _ call141 (p_mem_Do_sound G W0 hG) (.skip _ _ .nil))) rfl (itsOk_of (.nil)) mixed fn86 body86 kept_p_deque_load (by kernel_rfl)
theorem p_deque_Machine_bottom_sound : Sound Tryz.prog G W0 88 p_deque_Machine_bottom := gen_sound (C := p_deque_Machine_bottom_c) tab_ok (specsOk_of (.nil)) rfl (itsOk_of (.nil)) mixed fn88 body88 kept_p_deque_Machine_bottom (by kernel_rfl)
theorem p_deque_Machine_seeBottom_v1_sound : Sound Tryz.prog G W0 183 p_deque_Machine_seeBottom_v1 := gen_sound (C := p_deque_Machine_seeBottom_v1_c) tab_ok (specsOk_of (.cons _ _ _ _ call86 (p_deque_load_sound G W0 hG) (.skip _ _ (.cons _ _ _ _ call88 (p_deque_Machine_bottom_sound G W0 hG) (.skip _ _ .nil))))) rfl (itsOk_of (.nil)) mixed fn183 body183 kept_p_deque_Machine_seeBottom_v1 (by kernel_rfl)
theorem p_deque_Machine_top_sound : Sound Tryz.prog G W0 87 p_deque_Machine_top := gen_sound (C := p_deque_Machine_top_c) tab_ok (specsOk_of (.nil)) rfl (itsOk_of (.nil)) mixed fn87 body87 kept_p_deque_Machine_top (by kernel_rfl)
theorem p_deque_Machine_size_sound : Sound Tryz.prog G W0 90 p_deque_Machine_size := gen_sound (C := p_deque_Machine_size_c) tab_ok (specsOk_of (.nil)) rfl (itsOk_of (.nil)) mixed fn90 body90 kept_p_deque_Machine_size (by kernel_rfl)
theorem p_deque_Machine_end_v1_sound : Sound Tryz.prog G W0 198 p_deque_Machine_end_v1 := gen_sound (C := p_deque_Machine_end_v1_c) tab_ok (specsOk_of (.nil)) rfl (itsOk_of (.nil)) mixed fn198 body198 kept_p_deque_Machine_end_v1 (by kernel_rfl)
theorem p_deque_Machine_room_v1_sound : Sound Tryz.prog G W0 184 p_deque_Machine_room_v1 := gen_sound (C := p_deque_Machine_room_v1_c) tab_ok (specsOk_of (.cons _ _ _ _ call86 (p_deque_load_sound G W0 hG) (.skip _ _ (.cons _ _ _ _ call87 (p_deque_Machine_top_sound G W0 hG) (.skip _ _ (.cons _ _ _ _ call90 (p_deque_Machine_size_sound G W0 hG) (.skip _ _ (.cons _ _ _ _ call198 (p_deque_Machine_end_v1_sound G W0 hG) (.skip _ _ .nil))))))))) rfl (itsOk_of (.nil)) mixed fn184 body184 kept_p_deque_Machine_room_v1 (by kernel_rfl)
theorem p_deque_Machine_place_sound : Sound Tryz.prog G W0 91 p_deque_Machine_place := gen_sound (C := p_deque_Machine_place_c) tab_ok (specsOk_of (.cons _ _ _ _ call90 (p_deque_Machine_size_sound G W0 hG) (.skip _ _ .nil))) rfl (itsOk_of (.nil)) mixed fn91 body91 kept_p_deque_Machine_place (by kernel_rfl)
theorem p_deque_store_sound : Sound Tryz.prog G W0 199 p_deque_store := gen_sound (C := p_deque_store_c) tab_ok (specsOk_of (.cons _ _ _ _ call141 (p_mem_Do_sound G W0 hG) (.skip _ _ .nil))) rfl (itsOk_of (.nil)) mixed fn199 body199 kept_p_deque_store (by kernel_rfl)
theorem p_deque_Machine_put_sound : Sound Tryz.prog G W0 185 p_deque_Machine_put := gen_sound (C := p_deque_Machine_put_c) tab_ok (specsOk_of (.cons _ _ _ _ call91 (p_deque_Machine_place_sound G W0 hG) (.skip _ _ (.cons _ _ _ _ call199 (p_deque_store_sound G W0 hG) (.skip _ _ .nil))))) rfl (itsOk_of (.nil)) mixed fn185 body185 kept_p_deque_Machine_put (by kernel_rfl)
theorem p_deque_Machine_publish_v1_sound : Sound Tryz.prog G W0 186 p_deque_Machine_publish_v1 := gen_sound (C := p_deque_Machine_publish_v1_c) tab_ok (specsOk_of (.cons _ _ _ _ call88 (p_deque_Machine_bottom_sound G W0 hG) (.skip _ _ (.cons _ _ _ _ call198 (p_deque_Machine_end_v1_sound G W0 hG) (.skip _ _ (.cons _ _ _ _ call199 (p_deque_store_sound G W0 hG) (.skip _ _ .nil))))))) rfl (itsOk_of (.nil)) mixed fn186 body186 kept_p_deque_Machine_publish_v1 (by kernel_rfl)
theorem p_deque_Machine_claim_sound : Sound Tryz.prog G W0 187 p_deque_Machine_claim := gen_sound (C := p_deque_Machine_claim_c) tab_ok (specsOk_of (.cons _ _ _ _ call88 (p_deque_Machine_bottom_sound G W0 hG) (.skip _ _ (.cons _ _ _ _ call199 (p_deque_store_sound G W0 hG) (.skip _ _ .nil))))) rfl (itsOk_of (.nil)) mixed fn187 body187 kept_p_deque_Machine_claim (by kernel_rfl)
theorem p_deque_above_sound : Sound Tryz.prog G W0 89 p_deque_above := gen_sound (C := p_deque_above_c) tab_ok (specsOk_of (.nil)) rfl (itsOk_of (.nil)) mixed fn89 body89 kept_p_deque_above (by kernel_rfl)
theorem p_deque_Machine_seeTop_v1_sound : Sound Tryz.prog G W0 188 p_deque_Machine_seeTop_v1 := gen_sound (C := p_deque_Machine_seeTop_v1_c) tab_ok (specsOk_of (.cons _ _ _ _ call86 (p_deque_load_sound G W0 hG) (.skip _ _ (.cons _ _ _ _ call87 (p_deque_Machine_top_sound G W0 hG) (.skip _ _ (.cons _ _ _ _ call89 (p_deque_above_sound G W0 hG) (.skip _ _ .nil))))))) rfl (itsOk_of (.nil)) mixed fn188 body188 kept_p_deque_Machine_seeTop_v1 (by kernel_rfl)
theorem p_deque_Machine_get_v1_sound : Sound Tryz.prog G W0 189 p_deque_Machine_get_v1 := gen_sound (C := p_deque_Machine_get_v1_c) tab_ok (specsOk_of (.cons _ _ _ _ call86 (p_deque_load_sound G W0 hG) (.skip _ _ (.cons _ _ _ _ call91 (p_deque_Machine_place_sound G W0 hG) (.skip _ _ (.cons _ _ _ _ call198 (p_deque_Machine_end_v1_sound G W0 hG) (.skip _ _ .nil))))))) rfl (itsOk_of (.nil)) mixed fn189 body189 kept_p_deque_Machine_get_v1 (by kernel_rfl)
theorem p_deque_Machine_take_sound : Sound Tryz.prog G W0 200 p_deque_Machine_take := gen_sound (C := p_deque_Machine_take_c) tab_ok (specsOk_of (.cons _ _ _ _ call87 (p_deque_Machine_top_sound G W0 hG) (.skip _ _ (.cons _ _ _ _ call141 (p_mem_Do_sound G W0 hG) (.skip _ _ .nil))))) rfl (itsOk_of (.nil)) mixed fn200 body200 kept_p_deque_Machine_take (by kernel_rfl)
theorem p_deque_Machine_race_v1_sound : Sound Tryz.prog G W0 190 p_deque_Machine_race_v1 := gen_sound (C := p_deque_Machine_race_v1_c) tab_ok (specsOk_of (.cons _ _ _ _ call200 (p_deque_Machine_take_sound G W0 hG) (.skip _ _ .nil))) rfl (itsOk_of (.nil)) mixed fn190 body190 kept_p_deque_Machine_race_v1 (by kernel_rfl)
theorem p_deque_Machine_fail_v1_sound : Sound Tryz.prog G W0 191 p_deque_Machine_fail_v1 := gen_sound (C := p_deque_Machine_fail_v1_c) tab_ok (specsOk_of (.cons _ _ _ _ call88 (p_deque_Machine_bottom_sound G W0 hG) (.skip _ _ (.cons _ _ _ _ call198 (p_deque_Machine_end_v1_sound G W0 hG) (.skip _ _ (.cons _ _ _ _ call199 (p_deque_store_sound G W0 hG) (.skip _ _ .nil))))))) rfl (itsOk_of (.nil)) mixed fn191 body191 kept_p_deque_Machine_fail_v1 (by kernel_rfl)
theorem p_deque_Machine_won_v1_sound : Sound Tryz.prog G W0 192 p_deque_Machine_won_v1 := gen_sound (C := p_deque_Machine_won_v1_c) tab_ok (specsOk_of (.cons _ _ _ _ call88 (p_deque_Machine_bottom_sound G W0 hG) (.skip _ _ (.cons _ _ _ _ call198 (p_deque_Machine_end_v1_sound G W0 hG) (.skip _ _ (.cons _ _ _ _ call199 (p_deque_store_sound G W0 hG) (.skip _ _ .nil))))))) rfl (itsOk_of (.nil)) mixed fn192 body192 kept_p_deque_Machine_won_v1 (by kernel_rfl)
theorem p_deque_Machine_aim_v1_sound : Sound Tryz.prog G W0 193 p_deque_Machine_aim_v1 := gen_sound (C := p_deque_Machine_aim_v1_c) tab_ok (specsOk_of (.cons _ _ _ _ call86 (p_deque_load_sound G W0 hG) (.skip _ _ (.cons _ _ _ _ call87 (p_deque_Machine_top_sound G W0 hG) (.skip _ _ .nil))))) rfl (itsOk_of (.nil)) mixed fn193 body193 kept_p_deque_Machine_aim_v1 (by kernel_rfl)
theorem p_deque_Machine_any_v1_sound : Sound Tryz.prog G W0 194 p_deque_Machine_any_v1 := gen_sound (C := p_deque_Machine_any_v1_c) tab_ok (specsOk_of (.cons _ _ _ _ call86 (p_deque_load_sound G W0 hG) (.skip _ _ (.cons _ _ _ _ call88 (p_deque_Machine_bottom_sound G W0 hG) (.skip _ _ (.cons _ _ _ _ call89 (p_deque_above_sound G W0 hG) (.skip _ _ .nil))))))) rfl (itsOk_of (.nil)) mixed fn194 body194 kept_p_deque_Machine_any_v1 (by kernel_rfl)
theorem p_deque_Machine_peek_v1_sound : Sound Tryz.prog G W0 195 p_deque_Machine_peek_v1 := gen_sound (C := p_deque_Machine_peek_v1_c) tab_ok (specsOk_of (.cons _ _ _ _ call86 (p_deque_load_sound G W0 hG) (.skip _ _ (.cons _ _ _ _ call91 (p_deque_Machine_place_sound G W0 hG) (.skip _ _ .nil))))) rfl (itsOk_of (.nil)) mixed fn195 body195 kept_p_deque_Machine_peek_v1 (by kernel_rfl)
theorem p_deque_Machine_snatch_v1_sound : Sound Tryz.prog G W0 196 p_deque_Machine_snatch_v1 := gen_sound (C := p_deque_Machine_snatch_v1_c) tab_ok (specsOk_of (.cons _ _ _ _ call198 (p_deque_Machine_end_v1_sound G W0 hG) (.skip _ _ (.cons _ _ _ _ call200 (p_deque_Machine_take_sound G W0 hG) (.skip _ _ .nil))))) rfl (itsOk_of (.nil)) mixed fn196 body196 kept_p_deque_Machine_snatch_v1 (by kernel_rfl)
theorem p_deque_Step_sound : Sound Tryz.prog G W0 122 p_deque_Step := gen_sound (C := p_deque_Step_c) tab_ok (specsOk_of (.cons _ _ _ _ call161 (p_deque_stepsa_sound G W0 hG) (.cons _ _ _ _ call161 (p_deque_stepsb_sound G W0 hG) (.cons _ _ _ _ call161 (p_deque_stepsc_sound G W0 hG) (.cons _ _ _ _ call161 (p_deque_stepsd_sound G W0 hG) (.skip _ _ (.cons _ _ _ _ call183 (p_deque_Machine_seeBottom_v1_sound G W0 hG) (.skip _ _ (.cons _ _ _ _ call184 (p_deque_Machine_room_v1_sound G W0 hG) (.skip _ _ (.cons _ _ _ _ call185 (p_deque_Machine_put_sound G W0 hG) (.skip _ _ (.cons _ _ _ _ call186 (p_deque_Machine_publish_v1_sound G W0 hG) (.skip _ _ (.cons _ _ _ _ call187 (p_deque_Machine_claim_sound G W0 hG) (.skip _ _ (.cons _ _ _ _ call188 (p_deque_Machine_seeTop_v1_sound G W0 hG) (.skip _ _ (.cons _ _ _ _ call189 (p_deque_Machine_get_v1_sound G W0 hG) (.skip _ _ (.cons _ _ _ _ call190 (p_deque_Machine_race_v1_sound G W0 hG) (.skip _ _ (.cons _ _ _ _ call191 (p_deque_Machine_fail_v1_sound G W0 hG) (.skip _ _ (.cons _ _ _ _ call192 (p_deque_Machine_won_v1_sound G W0 hG) (.skip _ _ (.cons _ _ _ _ call193 (p_deque_Machine_aim_v1_sound G W0 hG) (.skip _ _ (.cons _ _ _ _ call194 (p_deque_Machine_any_v1_sound G W0 hG) (.skip _ _ (.cons _ _ _ _ call195 (p_deque_Machine_peek_v1_sound G W0 hG) (.skip _ _ (.cons _ _ _ _ call196 (p_deque_Machine_snatch_v1_sound G W0 hG) (.skip _ _ .nil)))))))))))))))))))))))))))))))))) rfl (itsOk_of (.nil)) mixed fn122 body122 kept_p_deque_Step (by kernel_rfl)
theorem p_grey_machine_push_v1_sound : Sound Tryz.prog G W0 65 p_grey_machine_push_v1 := gen_sound (C := p_grey_machine_push_v1_c) tab_ok (specsOk_of (.cons _ _ _ _ call121 (p_grey_machine_ask_v1_sound G W0 hG) (.skip _ _ (.cons _ _ _ _ call122 (p_deque_Step_sound G W0 hG) (.skip _ _ .nil))))) rfl (itsOk_of (.nil)) mixed fn65 body65 kept_p_grey_machine_push_v1 (by kernel_rfl)
theorem p_grey_machine_tell_v1_sound : Sound Tryz.prog G W0 66 p_grey_machine_tell_v1 := gen_sound (C := p_grey_machine_tell_v1_c) tab_ok (specsOk_of (.cons _ _ _ _ call121 (p_grey_machine_ask_v1_sound G W0 hG) (.skip _ _ .nil))) rfl (itsOk_of (.nil)) mixed fn66 body66 kept_p_grey_machine_tell_v1 (by kernel_rfl)
theorem p_chain_Node_sound : Sound Tryz.prog G W0 92 p_chain_Node := gen_sound (C := p_chain_Node_c) tab_ok (specsOk_of (.nil)) rfl (itsOk_of (.nil)) mixed fn92 body92 kept_p_chain_Node (by kernel_rfl)
theorem p_chain_load_sound : Sound Tryz.prog G W0 93 p_chain_load := gen_sound (C := p_chain_load_c) tab_ok (specsOk_of (.cons _ _ _ _ call141 (p_mem_Do_sound G W0 hG) (.skip _ _ .nil))) rfl (itsOk_of (.nil)) mixed fn93 body93 kept_p_chain_load (by kernel_rfl)
theorem p_chain_Machine_see_v1_sound : Sound Tryz.prog G W0 162 p_chain_Machine_see_v1 := gen_sound (C := p_chain_Machine_see_v1_c) tab_ok (specsOk_of (.cons _ _ _ _ call92 (p_chain_Node_sound G W0 hG) (.skip _ _ (.cons _ _ _ _ call93 (p_chain_load_sound G W0 hG) (.skip _ _ .nil))))) rfl (itsOk_of (.nil)) mixed fn162 body162 kept_p_chain_Machine_see_v1 (by kernel_rfl)
theorem p_chain_Machine_link_sound : Sound Tryz.prog G W0 163 p_chain_Machine_link := gen_sound (C := p_chain_Machine_link_c) tab_ok (specsOk_of (.cons _ _ _ _ call92 (p_chain_Node_sound G W0 hG) (.skip _ _ (.cons _ _ _ _ call116 (p_chain_store_sound G W0 hG) (.skip _ _ .nil))))) rfl (itsOk_of (.nil)) mixed fn163 body163 kept_p_chain_Machine_link (by kernel_rfl)
theorem p_chain_Machine_swap_v1_sound : Sound Tryz.prog G W0 164 p_chain_Machine_swap_v1 := gen_sound (C := p_chain_Machine_swap_v1_c) tab_ok (specsOk_of (.cons _ _ _ _ call92 (p_chain_Node_sound G W0 hG) (.skip _ _ (.cons _ _ _ _ call117 (p_chain_Pack_sound G W0 hG) (.skip _ _ (.cons _ _ _ _ call141 (p_mem_Do_sound G W0 hG) (.skip _ _ .nil))))))) rfl (itsOk_of (.nil)) mixed fn164 body164 kept_p_chain_Machine_swap_v1 (by kernel_rfl)
theorem p_chain_Machine_behind_v1_sound : Sound Tryz.prog G W0 165 p_chain_Machine_behind_v1 := gen_sound (C := p_chain_Machine_behind_v1_c) tab_ok (specsOk_of (.cons _ _ _ _ call92 (p_chain_Node_sound G W0 hG) (.skip _ _ (.cons _ _ _ _ call93 (p_chain_load_sound G W0 hG) (.skip _ _ .nil))))) rfl (itsOk_of (.nil)) mixed fn165 body165 kept_p_chain_Machine_behind_v1 (by kernel_rfl)
theorem p_chain_Step_sound : Sound Tryz.prog G W0 123 p_chain_Step := gen_sound (C := p_chain_Step_c) tab_ok (specsOk_of (.cons _ _ _ _ call162 (p_chain_Machine_see_v1_sound G W0 hG) (.skip _ _ (.cons _ _ _ _ call163 (p_chain_Machine_link_sound G W0 hG) (.skip _ _ (.cons _ _ _ _ call164 (p_chain_Machine_swap_v1_sound G W0 hG) (.skip _ _ (.cons _ _ _ _ call165 (p_chain_Machine_behind_v1_sound G W0 hG) (.skip _ _ .nil))))))))) rfl (itsOk_of (.nil)) mixed fn123 body123 kept_p_chain_Step (by kernel_rfl)
theorem p_grey_machine_take_v1_sound : Sound Tryz.prog G W0 67 p_grey_machine_take_v1 := gen_sound (C := p_grey_machine_take_v1_c) tab_ok (specsOk_of (.cons _ _ _ _ call121 (p_grey_machine_ask_v1_sound G W0 hG) (.skip _ _ (.cons _ _ _ _ call123 (p_chain_Step_sound G W0 hG) (.skip _ _ .nil))))) rfl (itsOk_of (.nil)) mixed fn67 body67 kept_p_grey_machine_take_v1 (by kernel_rfl)
theorem p_slices_Clone_LLint_Lint_sound : Sound Tryz.prog G W0 124 p_slices_Clone_LLint_Lint := gen_sound (C := p_slices_Clone_LLint_Lint_c) tab_ok (specsOk_of (.nil)) rfl (itsOk_of (.nil)) mixed fn124 body124 kept_p_slices_Clone_LLint_Lint (by kernel_rfl)
theorem p_grey_machine_fill_v1_sound : Sound Tryz.prog G W0 68 p_grey_machine_fill_v1 := gen_sound (C := p_grey_machine_fill_v1_c) tab_ok (specsOk_of (.cons _ _ _ _ call35 (p_state_Full_sound G W0 hG) (.skip _ _ (.cons _ _ _ _ call36 (p_state_Next_sound G W0 hG) (.skip _ _ (.cons _ _ _ _ call124 (p_slices_Clone_LLint_Lint_sound G W0 hG) (.skip _ _ (.cons _ _ _ _ call125 (p_chain_Start_sound G W0 hG) (.skip _ _ .nil))))))))) rfl (itsOk_of (.nil)) mixed fn68 body68 kept_p_grey_machine_fill_v1 (by kernel_rfl)
theorem p_grey_machine_publish_v1_sound : Sound Tryz.prog G W0 69 p_grey_machine_publish_v1 := gen_sound (C := p_grey_machine_publish_v1_c) tab_ok (specsOk_of (.cons _ _ _ _ call123 (p_chain_Step_sound G W0 hG) (.skip _ _ .nil))) rfl (itsOk_of (.nil)) mixed fn69 body69 kept_p_grey_machine_publish_v1 (by kernel_rfl)
theorem p_grey_Step_sound : Sound Tryz.prog G W0 15 p_grey_Step := gen_sound (C := p_grey_Step_c) tab_ok (specsOk_of (.cons _ _ _ _ call62 (p_grey_machine_reserve_v1_sound G W0 hG) (.skip _ _ (.cons _ _ _ _ call63 (p_grey_machine_mark_v1_sound G W0 hG) (.skip _ _ (.cons _ _ _ _ call64 (p_grey_machine_back_v1_sound G W0 hG) (.skip _ _ (.cons _ _ _ _ call65 (p_grey_machine_push_v1_sound G W0 hG) (.skip _ _ (.cons _ _ _ _ call66 (p_grey_machine_tell_v1_sound G W0 hG) (.skip _ _ (.cons _ _ _ _ call67 (p_grey_machine_take_v1_sound G W0 hG) (.skip _ _ (.cons _ _ _ _ call68 (p_grey_machine_fill_v1_sound G W0 hG) (.skip _ _ (.cons _ _ _ _ call69 (p_grey_machine_publish_v1_sound G W0 hG) (.skip _ _ .nil))))))))))))))))) rfl (itsOk_of (.nil)) mixed fn15 body15 kept_p_grey_Step (by kernel_rfl)
theorem p_grey_at_sound : Sound Tryz.prog G W0 82 p_grey_at := gen_sound (C := p_grey_at_c) tab_ok (specsOk_of (.nil)) rfl (itsOk_of (.nil)) mixed fn82 body82 kept_p_grey_at (by kernel_rfl)
theorem p_grey_Holds_sound : Sound Tryz.prog G W0 18 p_grey_Holds := gen_sound (C := p_grey_Holds_c) tab_ok (specsOk_of (.cons _ _ _ _ call82 (p_grey_at_sound G W0 hG) (.skip _ _ .nil))) rfl (itsOk_of (.nil)) mixed fn18 body18 kept_p_grey_Holds (by kernel_rfl)
theorem p_grey_Asks_sound : Sound Tryz.prog G W0 20 p_grey_Asks := gen_sound (C := p_grey_Asks_c) tab_ok (specsOk_of (.cons _ _ _ _ call82 (p_grey_at_sound G W0 hG) (.skip _ _ .nil))) rfl (itsOk_of (.nil)) mixed fn20 body20 kept_p_grey_Asks (by kernel_rfl)
theorem p_grey_Owes_sound : Sound Tryz.prog G W0 22 p_grey_Owes := gen_sound (C := p_grey_Owes_c) tab_ok (specsOk_of (.cons _ _ _ _ call82 (p_grey_at_sound G W0 hG) (.skip _ _ .nil))) rfl (itsOk_of (.nil)) mixed fn22 body22 kept_p_grey_Owes (by kernel_rfl)
theorem p_besomlaw14_run_sound : Sound Tryz.prog G W0 28 p_besomlaw14_run := gen_sound (C := p_besomlaw14_run_c) tab_ok (specsOk_of (.cons _ _ _ _ call15 (p_grey_Step_sound G W0 hG) (.skip _ _ .nil))) rfl (itsOk_of (.nil)) mixed fn28 body28 kept_p_besomlaw14_run (by kernel_rfl)
theorem p_chain_List_sound : Sound Tryz.prog G W0 34 p_chain_List := gen_sound (C := p_chain_List_c) tab_ok (specsOk_of (.cons _ _ _ _ call92 (p_chain_Node_sound G W0 hG) (.skip _ _ (.cons _ _ _ _ call93 (p_chain_load_sound G W0 hG) (.skip _ _ .nil))))) rfl (itsOk_of (.nil)) mixed fn34 body34 kept_p_chain_List (by kernel_rfl)
theorem p_besomlaw14_small_sound : Sound Tryz.prog G W0 39 p_besomlaw14_small := gen_sound (C := p_besomlaw14_small_c) tab_ok (specsOk_of (.nil)) rfl (itsOk_of (.nil)) mixed fn39 body39 kept_p_besomlaw14_small (by kernel_rfl)
theorem p_besomlaw14_examples_sound : Sound Tryz.prog G W0 8 p_besomlaw14_examples := gen_sound (C := p_besomlaw14_examples_c) tab_ok (specsOk_of (.cons _ _ _ _ call10 (p_state_New_sound G W0 hG) (.skip _ _ (.cons _ _ _ _ call12 (p_grey_Begin_sound G W0 hG) (.skip _ _ (.cons _ _ _ _ call15 (p_grey_Step_sound G W0 hG) (.skip _ _ (.cons _ _ _ _ call18 (p_grey_Holds_sound G W0 hG) (.skip _ _ (.cons _ _ _ _ call20 (p_grey_Asks_sound G W0 hG) (.skip _ _ (.cons _ _ _ _ call22 (p_grey_Owes_sound G W0 hG) (.skip _ _ (.cons _ _ _ _ call28 (p_besomlaw14_run_sound G W0 hG) (.skip _ _ (.cons _ _ _ _ call34 (p_chain_List_sound G W0 hG) (.skip _ _ (.cons _ _ _ _ call35 (p_state_Full_sound G W0 hG) (.skip _ _ (.cons _ _ _ _ call36 (p_state_Next_sound G W0 hG) (.skip _ _ (.cons _ _ _ _ call39 (p_besomlaw14_small_sound G W0 hG) (.skip _ _ .nil))))))))))))))))))))))) rfl (itsOk_of (.nil)) mixed fn8 body8 kept_p_besomlaw14_examples (by kernel_rfl)
theorem p_besomlaw14_Maker_byte_v1_sound : Sound Tryz.prog G W0 40 p_besomlaw14_Maker_byte_v1 := gen_sound (C := p_besomlaw14_Maker_byte_v1_c) tab_ok (specsOk_of (.nil)) rfl (itsOk_of (.nil)) mixed fn40 body40 kept_p_besomlaw14_Maker_byte_v1 (by kernel_rfl)
theorem p_besomlaw14_Maker_op_v1_sound : Sound Tryz.prog G W0 41 p_besomlaw14_Maker_op_v1 := gen_sound (C := p_besomlaw14_Maker_op_v1_c) tab_ok (specsOk_of (.cons _ _ _ _ call40 (p_besomlaw14_Maker_byte_v1_sound G W0 hG) (.skip _ _ .nil))) rfl (itsOk_of (.nil)) mixed fn41 body41 kept_p_besomlaw14_Maker_op_v1 (by kernel_rfl)
theorem p_besomlaw14_made_sound : Sound Tryz.prog G W0 9 p_besomlaw14_made := gen_sound (C := p_besomlaw14_made_c) tab_ok (specsOk_of (.cons _ _ _ _ call29 (p_set_Add_sound G W0 hG) (.skip _ _ (.cons _ _ _ _ call40 (p_besomlaw14_Maker_byte_v1_sound G W0 hG) (.skip _ _ (.cons _ _ _ _ call41 (p_besomlaw14_Maker_op_v1_sound G W0 hG) (.skip _ _ .nil))))))) rfl (itsOk_of (.nil)) mixed fn9 body9 kept_p_besomlaw14_made (by kernel_rfl)
theorem p_besomlaw14_Grow_begin_sound : Sound Tryz.prog G W0 11 p_besomlaw14_Grow_begin := gen_sound (C := p_besomlaw14_Grow_begin_c) tab_ok (specsOk_of (.cons _ _ _ _ call12 (p_grey_Begin_sound G W0 hG) (.skip _ _ .nil))) rfl (itsOk_of (.nil)) mixed fn11 body11 kept_p_besomlaw14_Grow_begin (by kernel_rfl)
theorem p_besomlaw14_refHeap_sound : Sound Tryz.prog G W0 55 p_besomlaw14_refHeap := gen_sound (C := p_besomlaw14_refHeap_c) tab_ok (specsOk_of (.nil)) rfl (itsOk_of (.nil)) mixed fn55 body55 kept_p_besomlaw14_refHeap (by kernel_rfl)
theorem p_besomlaw14_refPicks_sound : Sound Tryz.prog G W0 118 p_besomlaw14_refPicks := gen_sound (C := p_besomlaw14_refPicks_c) tab_ok (specsOk_of (.nil)) rfl (itsOk_of (.nil)) mixed fn118 body118 kept_p_besomlaw14_refPicks (by kernel_rfl)
theorem p_besomlaw14_refOps_sound : Sound Tryz.prog G W0 119 p_besomlaw14_refOps := gen_sound (C := p_besomlaw14_refOps_c) tab_ok (specsOk_of (.nil)) rfl (itsOk_of (.nil)) mixed fn119 body119 kept_p_besomlaw14_refOps (by kernel_rfl)
theorem p_besomlaw14_refPlan_sound : Sound Tryz.prog G W0 54 p_besomlaw14_refPlan := gen_sound (C := p_besomlaw14_refPlan_c) tab_ok (specsOk_of (.cons _ _ _ _ call55 (p_besomlaw14_refHeap_sound G W0 hG) (.skip _ _ (.cons _ _ _ _ call118 (p_besomlaw14_refPicks_sound G W0 hG) (.skip _ _ (.cons _ _ _ _ call119 (p_besomlaw14_refOps_sound G W0 hG) (.skip _ _ .nil))))))) rfl (itsOk_of (.nil)) mixed fn54 body54 kept_p_besomlaw14_refPlan (by kernel_rfl)
theorem p_besomlaw14_refTint_sound : Sound Tryz.prog G W0 56 p_besomlaw14_refTint := gen_sound (C := p_besomlaw14_refTint_c) tab_ok (specsOk_of (.nil)) rfl (itsOk_of (.nil)) mixed fn56 body56 kept_p_besomlaw14_refTint (by kernel_rfl)
theorem p_besomlaw14_refLedger_sound : Sound Tryz.prog G W0 57 p_besomlaw14_refLedger := gen_sound (C := p_besomlaw14_refLedger_c) tab_ok (specsOk_of (.nil)) rfl (itsOk_of (.nil)) mixed fn57 body57 kept_p_besomlaw14_refLedger (by kernel_rfl)
theorem p_besomlaw14_refDeque_sound : Sound Tryz.prog G W0 60 p_besomlaw14_refDeque := gen_sound (C := p_besomlaw14_refDeque_c) tab_ok (specsOk_of (.nil)) rfl (itsOk_of (.nil)) mixed fn60 body60 kept_p_besomlaw14_refDeque (by kernel_rfl)
theorem p_besomlaw14_refChain_sound : Sound Tryz.prog G W0 61 p_besomlaw14_refChain := gen_sound (C := p_besomlaw14_refChain_c) tab_ok (specsOk_of (.nil)) rfl (itsOk_of (.nil)) mixed fn61 body61 kept_p_besomlaw14_refChain (by kernel_rfl)
theorem p_besomlaw14_refGrey_sound : Sound Tryz.prog G W0 14 p_besomlaw14_refGrey := gen_sound (C := p_besomlaw14_refGrey_c) tab_ok (specsOk_of (.cons _ _ _ _ call60 (p_besomlaw14_refDeque_sound G W0 hG) (.skip _ _ (.cons _ _ _ _ call61 (p_besomlaw14_refChain_sound G W0 hG) (.skip _ _ .nil))))) rfl (itsOk_of (.nil)) mixed fn14 body14 kept_p_besomlaw14_refGrey (by kernel_rfl)
theorem p_besomlaw14_refWorker_sound : Sound Tryz.prog G W0 58 p_besomlaw14_refWorker := gen_sound (C := p_besomlaw14_refWorker_c) tab_ok (specsOk_of (.cons _ _ _ _ call14 (p_besomlaw14_refGrey_sound G W0 hG) (.skip _ _ (.cons _ _ _ _ call60 (p_besomlaw14_refDeque_sound G W0 hG) (.skip _ _ (.cons _ _ _ _ call61 (p_besomlaw14_refChain_sound G W0 hG) (.skip _ _ .nil))))))) rfl (itsOk_of (.nil)) mixed fn58 body58 kept_p_besomlaw14_refWorker (by kernel_rfl)
theorem p_besomlaw14_refMutator_sound : Sound Tryz.prog G W0 59 p_besomlaw14_refMutator := gen_sound (C := p_besomlaw14_refMutator_c) tab_ok (specsOk_of (.cons _ _ _ _ call14 (p_besomlaw14_refGrey_sound G W0 hG) (.skip _ _ (.cons _ _ _ _ call61 (p_besomlaw14_refChain_sound G W0 hG) (.skip _ _ .nil))))) rfl (itsOk_of (.nil)) mixed fn59 body59 kept_p_besomlaw14_refMutator (by kernel_rfl)
theorem p_besomlaw14_refState_sound : Sound Tryz.prog G W0 13 p_besomlaw14_refState := gen_sound (C := p_besomlaw14_refState_c) tab_ok (specsOk_of (.cons _ _ _ _ call54 (p_besomlaw14_refPlan_sound G W0 hG) (.skip _ _ (.cons _ _ _ _ call55 (p_besomlaw14_refHeap_sound G W0 hG) (.skip _ _ (.cons _ _ _ _ call56 (p_besomlaw14_refTint_sound G W0 hG) (.skip _ _ (.cons _ _ _ _ call57 (p_besomlaw14_refLedger_sound G W0 hG) (.skip _ _ (.cons _ _ _ _ call58 (p_besomlaw14_refWorker_sound G W0 hG) (.skip _ _ (.cons _ _ _ _ call59 (p_besomlaw14_refMutator_sound G W0 hG) (.skip _ _ .nil))))))))))))) rfl (itsOk_of (.nil)) mixed fn13 body13 kept_p_besomlaw14_refState (by kernel_rfl)
theorem p_besomref08_Start_sound : Sound Tryz.prog G W0 132 p_besomref08_Start := gen_sound (C := p_besomref08_Start_c) tab_ok (specsOk_of (.nil)) rfl (itsOk_of (.nil)) mixed fn132 body132 kept_p_besomref08_Start (by kernel_rfl)
theorem p_besomref13_Deque_sound : Sound Tryz.prog G W0 128 p_besomref13_Deque := gen_sound (C := p_besomref13_Deque_c) tab_ok (specsOk_of (.nil)) rfl (itsOk_of (.nil)) mixed fn128 body128 kept_p_besomref13_Deque (by kernel_rfl)
theorem p_besomref13_Full_sound : Sound Tryz.prog G W0 135 p_besomref13_Full := gen_sound (C := p_besomref13_Full_c) tab_ok (specsOk_of (.cons _ _ _ _ call128 (p_besomref13_Deque_sound G W0 hG) (.skip _ _ .nil))) rfl (itsOk_of (.nil)) mixed fn135 body135 kept_p_besomref13_Full (by kernel_rfl)
theorem p_besomref13_Empty_sound : Sound Tryz.prog G W0 133 p_besomref13_Empty := gen_sound (C := p_besomref13_Empty_c) tab_ok (specsOk_of (.cons _ _ _ _ call135 (p_besomref13_Full_sound G W0 hG) (.skip _ _ .nil))) rfl (itsOk_of (.nil)) mixed fn133 body133 kept_p_besomref13_Empty (by kernel_rfl)
theorem p_besomref13_Next_sound : Sound Tryz.prog G W0 134 p_besomref13_Next := gen_sound (C := p_besomref13_Next_c) tab_ok (specsOk_of (.cons _ _ _ _ call133 (p_besomref13_Empty_sound G W0 hG) (.skip _ _ .nil))) rfl (itsOk_of (.nil)) mixed fn134 body134 kept_p_besomref13_Next (by kernel_rfl)
theorem p_besomref14_List_sound : Sound Tryz.prog G W0 72 p_besomref14_List := gen_sound (C := p_besomref14_List_c) tab_ok (specsOk_of (.cons _ _ _ _ call132 (p_besomref08_Start_sound G W0 hG) (.skip _ _ (.cons _ _ _ _ call133 (p_besomref13_Empty_sound G W0 hG) (.skip _ _ (.cons _ _ _ _ call134 (p_besomref13_Next_sound G W0 hG) (.skip _ _ (.cons _ _ _ _ call135 (p_besomref13_Full_sound G W0 hG) (.skip _ _ .nil))))))))) rfl (itsOk_of (.nil)) mixed fn72 body72 kept_p_besomref14_List (by kernel_rfl)
theorem p_besomref02_object_sound : Sound Tryz.prog G W0 197 p_besomref02_object := gen_sound (C := p_besomref02_object_c) tab_ok (specsOk_of (.nil)) rfl (itsOk_of (.nil)) mixed fn197 body197 kept_p_besomref02_object (by kernel_rfl)
theorem p_besomref02_Has_sound : Sound Tryz.prog G W0 166 p_besomref02_Has := gen_sound (C := p_besomref02_Has_c) tab_ok (specsOk_of (.cons _ _ _ _ call197 (p_besomref02_object_sound G W0 hG) (.skip _ _ .nil))) rfl (itsOk_of (.nil)) mixed fn166 body166 kept_p_besomref02_Has (by kernel_rfl)
theorem p_besomref02_Add_sound : Sound Tryz.prog G W0 167 p_besomref02_Add := gen_sound (C := p_besomref02_Add_c) tab_ok (specsOk_of (.cons _ _ _ _ call197 (p_besomref02_object_sound G W0 hG) (.skip _ _ .nil))) rfl (itsOk_of (.nil)) mixed fn167 body167 kept_p_besomref02_Add (by kernel_rfl)
theorem p_besomref09_Shade_sound : Sound Tryz.prog G W0 126 p_besomref09_Shade := gen_sound (C := p_besomref09_Shade_c) tab_ok (specsOk_of (.cons _ _ _ _ call166 (p_besomref02_Has_sound G W0 hG) (.skip _ _ (.cons _ _ _ _ call167 (p_besomref02_Add_sound G W0 hG) (.skip _ _ .nil))))) rfl (itsOk_of (.nil)) mixed fn126 body126 kept_p_besomref09_Shade (by kernel_rfl)
theorem p_besomref07_Start_sound : Sound Tryz.prog G W0 127 p_besomref07_Start := gen_sound (C := p_besomref07_Start_c) tab_ok (specsOk_of (.nil)) rfl (itsOk_of (.nil)) mixed fn127 body127 kept_p_besomref07_Start (by kernel_rfl)
theorem p_besomref14_mark_sound : Sound Tryz.prog G W0 70 p_besomref14_mark := gen_sound (C := p_besomref14_mark_c) tab_ok (specsOk_of (.cons _ _ _ _ call72 (p_besomref14_List_sound G W0 hG) (.skip _ _ (.cons _ _ _ _ call126 (p_besomref09_Shade_sound G W0 hG) (.skip _ _ (.cons _ _ _ _ call127 (p_besomref07_Start_sound G W0 hG) (.skip _ _ (.cons _ _ _ _ call128 (p_besomref13_Deque_sound G W0 hG) (.skip _ _ .nil))))))))) rfl (itsOk_of (.nil)) mixed fn70 body70 kept_p_besomref14_mark (by kernel_rfl)
theorem p_besomref05_Do_sound : Sound Tryz.prog G W0 172 p_besomref05_Do := gen_sound (C := p_besomref05_Do_c) tab_ok (specsOk_of (.nil)) rfl (itsOk_of (.nil)) mixed fn172 body172 kept_p_besomref05_Do (by kernel_rfl)
theorem p_besomref07_load_sound : Sound Tryz.prog G W0 168 p_besomref07_load := gen_sound (C := p_besomref07_load_c) tab_ok (specsOk_of (.cons _ _ _ _ call172 (p_besomref05_Do_sound G W0 hG) (.skip _ _ .nil))) rfl (itsOk_of (.nil)) mixed fn168 body168 kept_p_besomref07_load (by kernel_rfl)
theorem p_besomref07_store_sound : Sound Tryz.prog G W0 169 p_besomref07_store := gen_sound (C := p_besomref07_store_c) tab_ok (specsOk_of (.cons _ _ _ _ call172 (p_besomref05_Do_sound G W0 hG) (.skip _ _ .nil))) rfl (itsOk_of (.nil)) mixed fn169 body169 kept_p_besomref07_store (by kernel_rfl)
theorem p_besomref07_place_sound : Sound Tryz.prog G W0 170 p_besomref07_place := gen_sound (C := p_besomref07_place_c) tab_ok (specsOk_of (.nil)) rfl (itsOk_of (.nil)) mixed fn170 body170 kept_p_besomref07_place (by kernel_rfl)
theorem p_besomref07_push_sound : Sound Tryz.prog G W0 129 p_besomref07_push := gen_sound (C := p_besomref07_push_c) tab_ok (specsOk_of (.cons _ _ _ _ call168 (p_besomref07_load_sound G W0 hG) (.skip _ _ (.cons _ _ _ _ call169 (p_besomref07_store_sound G W0 hG) (.skip _ _ (.cons _ _ _ _ call170 (p_besomref07_place_sound G W0 hG) (.skip _ _ .nil))))))) rfl (itsOk_of (.nil)) mixed fn129 body129 kept_p_besomref07_push (by kernel_rfl)
theorem p_besomref07_swap_sound : Sound Tryz.prog G W0 171 p_besomref07_swap := gen_sound (C := p_besomref07_swap_c) tab_ok (specsOk_of (.cons _ _ _ _ call172 (p_besomref05_Do_sound G W0 hG) (.skip _ _ .nil))) rfl (itsOk_of (.nil)) mixed fn171 body171 kept_p_besomref07_swap (by kernel_rfl)
theorem p_besomref07_pop_sound : Sound Tryz.prog G W0 130 p_besomref07_pop := gen_sound (C := p_besomref07_pop_c) tab_ok (specsOk_of (.cons _ _ _ _ call168 (p_besomref07_load_sound G W0 hG) (.skip _ _ (.cons _ _ _ _ call169 (p_besomref07_store_sound G W0 hG) (.skip _ _ (.cons _ _ _ _ call170 (p_besomref07_place_sound G W0 hG) (.skip _ _ (.cons _ _ _ _ call171 (p_besomref07_swap_sound G W0 hG) (.skip _ _ .nil))))))))) rfl (itsOk_of (.nil)) mixed fn130 body130 kept_p_besomref07_pop (by kernel_rfl)
theorem p_besomref07_steal_sound : Sound Tryz.prog G W0 131 p_besomref07_steal := gen_sound (C := p_besomref07_steal_c) tab_ok (specsOk_of (.cons _ _ _ _ call168 (p_besomref07_load_sound G W0 hG) (.skip _ _ (.cons _ _ _ _ call170 (p_besomref07_place_sound G W0 hG) (.skip _ _ (.cons _ _ _ _ call171 (p_besomref07_swap_sound G W0 hG) (.skip _ _ .nil))))))) rfl (itsOk_of (.nil)) mixed fn131 body131 kept_p_besomref07_steal (by kernel_rfl)
theorem p_besomref07_Step_sound : Sound Tryz.prog G W0 71 p_besomref07_Step := gen_sound (C := p_besomref07_Step_c) tab_ok (specsOk_of (.cons _ _ _ _ call129 (p_besomref07_push_sound G W0 hG) (.skip _ _ (.cons _ _ _ _ call130 (p_besomref07_pop_sound G W0 hG) (.skip _ _ (.cons _ _ _ _ call131 (p_besomref07_steal_sound G W0 hG) (.skip _ _ .nil))))))) rfl (itsOk_of (.nil)) mixed fn71 body71 kept_p_besomref07_Step (by kernel_rfl)
theorem p_besomref08_load_sound : Sound Tryz.prog G W0 136 p_besomref08_load := gen_sound (C := p_besomref08_load_c) tab_ok (specsOk_of (.cons _ _ _ _ call172 (p_besomref05_Do_sound G W0 hG) (.skip _ _ .nil))) rfl (itsOk_of (.nil)) mixed fn136 body136 kept_p_besomref08_load (by kernel_rfl)
theorem p_besomref08_Node_sound : Sound Tryz.prog G W0 137 p_besomref08_Node := gen_sound (C := p_besomref08_Node_c) tab_ok (specsOk_of (.nil)) rfl (itsOk_of (.nil)) mixed fn137 body137 kept_p_besomref08_Node (by kernel_rfl)
theorem p_besomref08_store_sound : Sound Tryz.prog G W0 138 p_besomref08_store := gen_sound (C := p_besomref08_store_c) tab_ok (specsOk_of (.cons _ _ _ _ call172 (p_besomref05_Do_sound G W0 hG) (.skip _ _ .nil))) rfl (itsOk_of (.nil)) mixed fn138 body138 kept_p_besomref08_store (by kernel_rfl)
theorem p_besomref08_Pack_sound : Sound Tryz.prog G W0 173 p_besomref08_Pack := gen_sound (C := p_besomref08_Pack_c) tab_ok (specsOk_of (.nil)) rfl (itsOk_of (.nil)) mixed fn173 body173 kept_p_besomref08_Pack (by kernel_rfl)
theorem p_besomref08_swap_sound : Sound Tryz.prog G W0 139 p_besomref08_swap := gen_sound (C := p_besomref08_swap_c) tab_ok (specsOk_of (.cons _ _ _ _ call172 (p_besomref05_Do_sound G W0 hG) (.skip _ _ (.cons _ _ _ _ call173 (p_besomref08_Pack_sound G W0 hG) (.skip _ _ .nil))))) rfl (itsOk_of (.nil)) mixed fn139 body139 kept_p_besomref08_swap (by kernel_rfl)
theorem p_besomref08_Step_sound : Sound Tryz.prog G W0 73 p_besomref08_Step := gen_sound (C := p_besomref08_Step_c) tab_ok (specsOk_of (.cons _ _ _ _ call136 (p_besomref08_load_sound G W0 hG) (.skip _ _ (.cons _ _ _ _ call137 (p_besomref08_Node_sound G W0 hG) (.skip _ _ (.cons _ _ _ _ call138 (p_besomref08_store_sound G W0 hG) (.skip _ _ (.cons _ _ _ _ call139 (p_besomref08_swap_sound G W0 hG) (.skip _ _ .nil))))))))) rfl (itsOk_of (.nil)) mixed fn73 body73 kept_p_besomref08_Step (by kernel_rfl)
theorem p_besomref14_Put_sound : Sound Tryz.prog G W0 74 p_besomref14_Put := gen_sound (C := p_besomref14_Put_c) tab_ok (specsOk_of (.nil)) rfl (itsOk_of (.nil)) mixed fn74 body74 kept_p_besomref14_Put (by kernel_rfl)
theorem p_besomref14_Step_sound : Sound Tryz.prog G W0 16 p_besomref14_Step := gen_sound (C := p_besomref14_Step_c) tab_ok (specsOk_of (.cons _ _ _ _ call70 (p_besomref14_mark_sound G W0 hG) (.skip _ _ (.cons _ _ _ _ call71 (p_besomref07_Step_sound G W0 hG) (.skip _ _ (.cons _ _ _ _ call72 (p_besomref14_List_sound G W0 hG) (.skip _ _ (.cons _ _ _ _ call73 (p_besomref08_Step_sound G W0 hG) (.skip _ _ (.cons _ _ _ _ call74 (p_besomref14_Put_sound G W0 hG) (.skip _ _ .nil))))))))))) rfl (itsOk_of (.nil)) mixed fn16 body16 kept_p_besomref14_Step (by kernel_rfl)
theorem p_besomref03_Same_sound : Sound Tryz.prog G W0 76 p_besomref03_Same := gen_sound (C := p_besomref03_Same_c) tab_ok (specsOk_of (.nil)) rfl (itsOk_of (.nil)) mixed fn76 body76 kept_p_besomref03_Same (by kernel_rfl)
theorem p_besomref12_Same_sound : Sound Tryz.prog G W0 75 p_besomref12_Same := gen_sound (C := p_besomref12_Same_c) tab_ok (specsOk_of (.cons _ _ _ _ call76 (p_besomref03_Same_sound G W0 hG) (.skip _ _ .nil))) rfl (itsOk_of (.nil)) mixed fn75 body75 kept_p_besomref12_Same (by kernel_rfl)
theorem p_besomref05_Same_sound : Sound Tryz.prog G W0 77 p_besomref05_Same := gen_sound (C := p_besomref05_Same_c) tab_ok (specsOk_of (.nil)) rfl (itsOk_of (.nil)) mixed fn77 body77 kept_p_besomref05_Same (by kernel_rfl)
theorem p_besomref13_sameInts_sound : Sound Tryz.prog G W0 78 p_besomref13_sameInts := gen_sound (C := p_besomref13_sameInts_c) tab_ok (specsOk_of (.nil)) rfl (itsOk_of (.nil)) mixed fn78 body78 kept_p_besomref13_sameInts (by kernel_rfl)
theorem p_besomref10_Same_sound : Sound Tryz.prog G W0 79 p_besomref10_Same := gen_sound (C := p_besomref10_Same_c) tab_ok (specsOk_of (.nil)) rfl (itsOk_of (.nil)) mixed fn79 body79 kept_p_besomref10_Same (by kernel_rfl)
theorem p_besomref13_sameWorker_sound : Sound Tryz.prog G W0 80 p_besomref13_sameWorker := gen_sound (C := p_besomref13_sameWorker_c) tab_ok (specsOk_of (.cons _ _ _ _ call78 (p_besomref13_sameInts_sound G W0 hG) (.skip _ _ .nil))) rfl (itsOk_of (.nil)) mixed fn80 body80 kept_p_besomref13_sameWorker (by kernel_rfl)
theorem p_besomref13_sameMutator_sound : Sound Tryz.prog G W0 81 p_besomref13_sameMutator := gen_sound (C := p_besomref13_sameMutator_c) tab_ok (specsOk_of (.cons _ _ _ _ call78 (p_besomref13_sameInts_sound G W0 hG) (.skip _ _ .nil))) rfl (itsOk_of (.nil)) mixed fn81 body81 kept_p_besomref13_sameMutator (by kernel_rfl)
theorem p_besomref13_Same_sound : Sound Tryz.prog G W0 17 p_besomref13_Same := gen_sound (C := p_besomref13_Same_c) tab_ok (specsOk_of (.cons _ _ _ _ call75 (p_besomref12_Same_sound G W0 hG) (.skip _ _ (.cons _ _ _ _ call76 (p_besomref03_Same_sound G W0 hG) (.skip _ _ (.cons _ _ _ _ call77 (p_besomref05_Same_sound G W0 hG) (.skip _ _ (.cons _ _ _ _ call78 (p_besomref13_sameInts_sound G W0 hG) (.skip _ _ (.cons _ _ _ _ call79 (p_besomref10_Same_sound G W0 hG) (.skip _ _ (.cons _ _ _ _ call80 (p_besomref13_sameWorker_sound G W0 hG) (.skip _ _ (.cons _ _ _ _ call81 (p_besomref13_sameMutator_sound G W0 hG) (.skip _ _ .nil))))))))))))))) rfl (itsOk_of (.nil)) mixed fn17 body17 kept_p_besomref13_Same (by kernel_rfl)
theorem p_besomref14_Holds_sound : Sound Tryz.prog G W0 19 p_besomref14_Holds := gen_sound (C := p_besomref14_Holds_c) tab_ok (specsOk_of (.nil)) rfl (itsOk_of (.nil)) mixed fn19 body19 kept_p_besomref14_Holds (by kernel_rfl)
theorem p_besomref14_Asks_sound : Sound Tryz.prog G W0 21 p_besomref14_Asks := gen_sound (C := p_besomref14_Asks_c) tab_ok (specsOk_of (.nil)) rfl (itsOk_of (.nil)) mixed fn21 body21 kept_p_besomref14_Asks (by kernel_rfl)
theorem p_besomref14_Owes_sound : Sound Tryz.prog G W0 23 p_besomref14_Owes := gen_sound (C := p_besomref14_Owes_c) tab_ok (specsOk_of (.nil)) rfl (itsOk_of (.nil)) mixed fn23 body23 kept_p_besomref14_Owes (by kernel_rfl)
theorem p_besomref14_Begin_sound : Sound Tryz.prog G W0 24 p_besomref14_Begin := gen_sound (C := p_besomref14_Begin_c) tab_ok (specsOk_of (.nil)) rfl (itsOk_of (.nil)) mixed fn24 body24 kept_p_besomref14_Begin (by kernel_rfl)
theorem p_besomlaw14_GreyTells_sound : Sound Tryz.prog G W0 3 p_besomlaw14_GreyTells := gen_sound (C := p_besomlaw14_GreyTells_c) tab_ok (specsOk_of (.cons _ _ _ _ call8 (p_besomlaw14_examples_sound G W0 hG) (.skip _ _ (.cons _ _ _ _ call9 (p_besomlaw14_made_sound G W0 hG) (.skip _ _ (.cons _ _ _ _ call10 (p_state_New_sound G W0 hG) (.skip _ _ (.cons _ _ _ _ call11 (p_besomlaw14_Grow_begin_sound G W0 hG) (.skip _ _ (.cons _ _ _ _ call12 (p_grey_Begin_sound G W0 hG) (.skip _ _ (.cons _ _ _ _ call13 (p_besomlaw14_refState_sound G W0 hG) (.skip _ _ (.cons _ _ _ _ call14 (p_besomlaw14_refGrey_sound G W0 hG) (.skip _ _ (.cons _ _ _ _ call15 (p_grey_Step_sound G W0 hG) (.skip _ _ (.cons _ _ _ _ call16 (p_besomref14_Step_sound G W0 hG) (.skip _ _ (.cons _ _ _ _ call17 (p_besomref13_Same_sound G W0 hG) (.skip _ _ (.cons _ _ _ _ call18 (p_grey_Holds_sound G W0 hG) (.skip _ _ (.cons _ _ _ _ call19 (p_besomref14_Holds_sound G W0 hG) (.skip _ _ (.cons _ _ _ _ call20 (p_grey_Asks_sound G W0 hG) (.skip _ _ (.cons _ _ _ _ call21 (p_besomref14_Asks_sound G W0 hG) (.skip _ _ (.cons _ _ _ _ call22 (p_grey_Owes_sound G W0 hG) (.skip _ _ (.cons _ _ _ _ call23 (p_besomref14_Owes_sound G W0 hG) (.skip _ _ (.cons _ _ _ _ call24 (p_besomref14_Begin_sound G W0 hG) (.skip _ _ .nil))))))))))))))))))))))))))))))))))) rfl (itsOk_of (.nil)) mixed fn3 body3 kept_p_besomlaw14_GreyTells (by kernel_rfl)
end
end Go.Pe.G
