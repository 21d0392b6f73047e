/- Own work of this seat: Call1, Call2, Call3, Step, Draw1, Draw2, Draw3, Draw4, Draw5, Draw6, Draw7, Draw8. -/
import Derived.Test.YtofljjggmmcgjaaGreatDoorTPeB
import Derived.OrdersIn
import Derived.RangeFuncLeaves
import Derived.RangeFuncSeq
import Derived.RangeFuncCalls
set_option linter.unusedVariables false
set_option linter.unusedSimpArgs false
set_option linter.unnecessarySimpa false
set_option linter.unusedSectionVars false
set_option linter.deprecated false
namespace Go.Pe
variable {E : Types}
section
variable {w : World} {A U A'' U'' : Nat → Prop} {M M'' : Nat → Loc} {N : Nat → Nat}
def Typed (q : PVal E) : Prop := ∃ t x, q = .v t x
mutual
theorem fillK_ren (hN : ∀ j, U j → U'' (N j) ∧ M'' (N j) = M j) (hA : ∀ b, A'' b → A b) : ∀ (k : SK) (qs : List (PVal E)) (v : Value), (∀ q ∈ qs, Typed q) → RepP E w A U M (fillK id k qs).1 v →
    RepP E w A'' U'' M'' (fillK N k qs).1 v ∧ (fillK N k qs).2 = (fillK id k qs).2 ∧ (∀ q ∈ (fillK N k qs).2, Typed q) ∧ (fillK N k qs).1.leaf = (fillK id k qs).1.leaf
  | .any, qs, v, ht, h => ⟨.any v, rfl, ht, rfl⟩
  | .val τ, [], v, ht, h => ⟨.any v, rfl, ht, rfl⟩
  | .val τ, q :: qs, v, ht, h => by
    obtain ⟨t, x, rfl⟩ := ht q (List.mem_cons_self ..)
    refine ⟨?_, rfl, fun q hq => ht q (List.mem_cons_of_mem _ hq), rfl⟩
    cases h with
    | v _ _ _ h => exact .v _ _ _ (h.less hA)
  | .ptr j, qs, v, ht, h => by
    cases h with
    | ptr _ off b len cap hU hμ => exact ⟨.ptr _ _ b len cap (hN j hU).1 ((hN j hU).2.trans hμ), rfl, ht, rfl⟩
  | .own j, qs, v, ht, h => by
    cases h with
    | own _ b off len cap hU hμ => exact ⟨.own _ b off len cap (hN j hU).1 ((hN j hU).2.trans hμ), rfl, ht, rfl⟩
    | own0 _ a a2 hU hμ => exact ⟨.own0 _ a a2 (hN j hU).1 ((hN j hU).2.trans hμ), rfl, ht, rfl⟩
  | .bsl j n, qs, v, ht, h => by
    cases h with
    | bsl _ _ b hU hμ => exact ⟨.bsl _ _ b (hN j hU).1 ((hN j hU).2.trans hμ), rfl, ht, rfl⟩
  | .map j, qs, v, ht, h => by
    cases h with
    | map _ b hU hμ => exact ⟨.map _ b (hN j hU).1 ((hN j hU).2.trans hμ), rfl, ht, rfl⟩
  | .yld, [], v, ht, h => ⟨.any v, rfl, ht, rfl⟩
  | .yld, [q], v, ht, h => ⟨.any v, rfl, ht, rfl⟩
  | .yld, p :: q :: qs, v, ht, h => by
    refine ⟨?_, rfl, fun q' hq => ht q' (List.mem_cons_of_mem _ (List.mem_cons_of_mem _ hq)), rfl⟩
    have h : RepP E w A U M (fillY p q) v := h
    show RepP E w A'' U'' M'' (fillY p q) v
    unfold fillY at h ⊢
    split
    · cases h with
      | yld _ _ => exact .yld _ _
    · exact .any v
  | .nilfn, qs, v, ht, h => by
    cases h with
    | nilfn => exact ⟨.nilfn, rfl, ht, rfl⟩
  | .fn f ks, qs, v, ht, h => by
    cases h with
    | fn _ _ cs hs hh =>
      obtain ⟨h1, h2, h3, _⟩ := fillKs_ren hN hA ks qs cs.toList ht (RL.of_idx hs hh)
      exact ⟨.fn f _ cs h1.idx.1 h1.idx.2, h2, h3, rfl⟩
theorem fillKs_ren (hN : ∀ j, U j → U'' (N j) ∧ M'' (N j) = M j) (hA : ∀ b, A'' b → A b) : ∀ (ks : List SK) (qs : List (PVal E)) (vs : List Value), (∀ q ∈ qs, Typed q) → RL (RepP E w A U M) (fillKs id ks qs).1 vs →
    RL (RepP E w A'' U'' M'') (fillKs N ks qs).1 vs ∧ (fillKs N ks qs).2 = (fillKs id ks qs).2 ∧ (∀ q ∈ (fillKs N ks qs).2, Typed q) ∧
      (fillKs N ks qs).1.map PVal.leaf = (fillKs id ks qs).1.map PVal.leaf
  | [], qs, vs, ht, h => ⟨⟨h.1, fun j p u hp => by simp [fillKs] at hp⟩, rfl, ht, rfl⟩
  | k :: ks, qs, [], ht, h => by have := h.1; simp [fillKs] at this
  | k :: ks, qs, v :: vs, ht, h => by
    obtain ⟨h1, h2, h3, h4⟩ := fillK_ren hN hA k qs v ht (h.2 0 _ v rfl rfl)
    have hr : RL (RepP E w A U M) (fillKs id ks (fillK id k qs).2).1 vs := ⟨by have := h.1; simpa [fillKs] using this, fun j p u hp hu => h.2 (j + 1) p u (by simpa [fillKs] using hp) (by simpa using hu)⟩
    rw [← h2] at hr
    obtain ⟨g1, g2, g3, g4⟩ := fillKs_ren hN hA ks (fillK N k qs).2 vs h3 hr
    refine ⟨RL.cons h1 g1, ?_, g3, ?_⟩
    · show (fillKs N ks (fillK N k qs).2).2 = (fillKs id ks (fillK id k qs).2).2
      rw [g2, h2]
    · show PVal.leaf _ :: List.map _ (fillKs N ks (fillK N k qs).2).1 = PVal.leaf _ :: List.map _ (fillKs id ks (fillK id k qs).2).1
      rw [h4, g4, h2]
end
theorem fillKs_len : ∀ (ks : List SK) (qs : List (PVal E)), (fillKs N ks qs).1.length = ks.length
  | [], _ => rfl
  | k :: ks, qs => by
    show (fillKs N ks (fillK N k qs).2).1.length + 1 = _
    rw [fillKs_len ks]; rfl
mutual
theorem fillK_rest : ∀ (k : SK) (qs : List (PVal E)), (fillK N k qs).2 = (fillK id k qs).2
  | .any, _ => rfl
  | .val _, [] => rfl
  | .val _, _ :: _ => rfl
  | .ptr _, _ => rfl
  | .own _, _ => rfl
  | .bsl _ _, _ => rfl
  | .nilfn, _ => rfl
  | .map _, _ => rfl
  | .yld, [] => rfl
  | .yld, [_] => rfl
  | .yld, _ :: _ :: _ => rfl
  | .fn f ks, qs => fillKs_rest ks qs
theorem fillKs_rest : ∀ (ks : List SK) (qs : List (PVal E)), (fillKs N ks qs).2 = (fillKs id ks qs).2
  | [], _ => rfl
  | k :: ks, qs => by
    show (fillKs N ks (fillK N k qs).2).2 = (fillKs id ks (fillK id k qs).2).2
    rw [fillK_rest k, fillKs_rest ks]
end
theorem fillB_ren (hN : ∀ j, U j → U'' (N j) ∧ M'' (N j) = M j) (hA : ∀ b, A'' b → A b) (l : Loc) (b : BK) (qs : List (PVal E)) (ht : ∀ q ∈ qs, Typed q) (h : BlkOk w A U M l (fillB id b qs).1) :
    BlkOk w A'' U'' M'' l (fillB N b qs).1 := by
  cases b with
  | gone => trivial
  | box wr ks =>
    obtain ⟨b, len, cap, c, hl, hbox, hsz, hc⟩ := h
    obtain ⟨h1, _, _, h4⟩ := fillKs_ren hN hA ks qs c.toList ht (RL.of_idx hsz (fun j hj => (hc j hj).1))
    refine ⟨b, len, cap, c, hl, hbox, by have := h1.1; simpa using this.symm, fun j hj => ⟨h1.idx.2 j hj, ?_⟩⟩
    have hj' : j < (fillKs id ks qs).1.length := by rw [fillKs_len] at hj ⊢; exact hj
    have e := congrArg (fun l => l[j]?) h4
    simp only [List.getElem?_map] at e
    rw [List.getElem?_eq_getElem hj, List.getElem?_eq_getElem hj'] at e
    simp only [Option.map_some, Option.some.injEq] at e
    show ((fillKs N ks qs).1[j]).leaf = true
    rw [e]; exact (hc j hj').2
  | map es =>
    obtain ⟨b, ms, clock, hl, hheap, hsz, hc⟩ := h
    have hMR := MR.of_blk hsz hc
    have hlen : (fillKs id (es.map (·.2)) qs).1.length = es.length := by rw [fillKs_len]; simp
    have hzl : (((es.map (·.1)).map fun k => PVal.v (E := E) (.int .i64) k).zip (fillKs id (es.map (·.2)) qs).1).length = es.length := by simp [hlen]
    have hvals : RL (RepP E w A U M) (fillKs id (es.map (·.2)) qs).1 (ms.toList.map (·.val)) := ⟨by rw [hlen]; have := hMR.1; rw [hzl] at this; simpa using this, fun i p v hp hv => by
      simp only [List.getElem?_map, Option.map_eq_some_iff] at hv
      obtain ⟨m, hm, rfl⟩ := hv
      have hi : i < es.length := by have := (List.getElem?_eq_some_iff.1 hp).1; omega
      exact (hMR.2 i (.v (.int .i64) (es[i]).1, p) m (by simp [List.getElem?_zip_eq_some, hp, hi]) hm).2⟩
    obtain ⟨h1, _, _, _⟩ := fillKs_ren hN hA (es.map (·.2)) qs _ ht hvals
    have hfin : MR (RepP E w A'' U'' M'') (((es.map (·.1)).map fun k => PVal.v (E := E) (.int .i64) k).zip (fillKs N (es.map (·.2)) qs).1) ms.toList := ⟨by
      have := hMR.1; rw [hzl] at this; simp [fillKs_len]; simpa using this, fun i p m hp hm => by
      obtain ⟨hp1, hp2⟩ := List.getElem?_zip_eq_some.1 hp
      have hi : i < es.length := by have := (List.getElem?_eq_some_iff.1 hp1).1; simpa using this
      have hq : (fillKs id (es.map (·.2)) qs).1[i]? = some ((fillKs id (es.map (·.2)) qs).1[i]'(by omega)) := List.getElem?_eq_getElem _
      have hk := (hMR.2 i (.v (.int .i64) (es[i]).1, _) m (List.getElem?_zip_eq_some.2 ⟨by simp [hi], hq⟩) hm).1
      refine ⟨?_, h1.2 i p.2 m.val hp2 (by simp [hm])⟩
      have e1 : p.1 = .v (.int .i64) (es[i]).1 := by simp [hi] at hp1; exact hp1.symm
      rw [e1, rep_i64 hk]
      exact i64_rep _⟩
    exact ⟨b, ms, clock, hl, hheap, hfin.to_blk.1, hfin.to_blk.2⟩
  | row wr e =>
    cases qs with
    | nil => trivial
    | cons q qs =>
      simp only [fillB] at h ⊢
      split
      · split
        · simp_all
          exact h.rowLess hA
        · trivial
      · trivial
theorem fillB_flags (b : BK) (qs : List (PVal E)) : liveB (fillB N b qs).1 = liveB (fillB id b qs).1 ∧ memB (fillB N b qs).1 = memB (fillB id b qs).1 ∧ ownB (fillB N b qs).1 = ownB (fillB id b qs).1 ∧ usedB (fillB N b qs).1 = usedB (fillB id b qs).1 ∧ (fillB N b qs).2 = (fillB id b qs).2 := by
  cases b with
  | gone => exact ⟨rfl, rfl, rfl, rfl, rfl⟩
  | box wr ks => exact ⟨rfl, rfl, rfl, rfl, fillKs_rest ks qs⟩
  | map es => exact ⟨rfl, rfl, rfl, rfl, fillKs_rest (es.map fun (x : Int × SK) => x.2) qs⟩
  | row wr e => cases qs <;> exact ⟨rfl, rfl, rfl, rfl, rfl⟩
theorem fillBs_len : ∀ (bs : List BK) (qs : List (PVal E)), (fillBs N bs qs).length = bs.length
  | [], _ => rfl
  | b :: bs, qs => by
    show (fillBs N bs (fillB N b qs).2).length + 1 = _
    rw [fillBs_len bs]; rfl
theorem fillK_typed (k : SK) : ∀ (qs : List (PVal E)), (∀ q ∈ qs, Typed q) → ∀ q ∈ (fillK N k qs).2, Typed q := by
  intro qs h
  have key : (∀ (k : SK) (qs : List (PVal E)), (∀ q ∈ qs, Typed q) → ∀ q ∈ (fillK (E := E) N k qs).2, Typed q) := by
    intro k
    refine SK.rec (motive_1 := fun k => ∀ (qs : List (PVal E)), (∀ q ∈ qs, Typed q) → ∀ q ∈ (fillK (E := E) N k qs).2, Typed q)
      (motive_2 := fun ks => ∀ (qs : List (PVal E)), (∀ q ∈ qs, Typed q) → ∀ q ∈ (fillKs (E := E) N ks qs).2, Typed q) ?_ ?_ ?_ ?_ ?_ ?_ ?_ ?_ ?_ ?_ ?_ k
    · exact fun qs h => h
    · intro τ qs h
      cases qs with
      | nil => exact h
      | cons q qs => exact fun q hq => h q (List.mem_cons_of_mem _ hq)
    · exact fun _ qs h => h
    · exact fun _ qs h => h
    · exact fun _ _ ih qs h => ih qs h
    · exact fun _ _ qs h => h
    · exact fun qs h => h
    · exact fun _ qs h => h
    · intro qs h
      match qs, h with
      | [], h => exact h
      | [q], h => exact h
      | _ :: _ :: r, h => exact fun q hq => h q (List.mem_cons_of_mem _ (List.mem_cons_of_mem _ hq))
    · exact fun qs h => h
    · exact fun k ks h1 h2 qs h => h2 _ (h1 qs h)
  exact key k qs h
theorem fillKs_typed : ∀ (ks : List SK) (qs : List (PVal E)), (∀ q ∈ qs, Typed q) → ∀ q ∈ (fillKs N ks qs).2, Typed q
  | [], qs, h => h
  | k :: ks, qs, h => fillKs_typed ks _ (fillK_typed k qs h)
theorem fillB_typed (b : BK) (qs : List (PVal E)) (h : ∀ q ∈ qs, Typed q) : ∀ q ∈ (fillB N b qs).2, Typed q := by
  cases b with
  | gone => exact h
  | box wr ks => exact fillKs_typed ks qs h
  | map es => exact fillKs_typed (es.map (·.2)) qs h
  | row wr e =>
    cases qs with
    | nil => exact h
    | cons q qs => exact fun q hq => h q (List.mem_cons_of_mem _ hq)
theorem fillBs_ren (hN : ∀ j, U j → U'' (N j) ∧ M'' (N j) = M j) (hA : ∀ b, A'' b → A b) : ∀ (bs : List BK) (qs : List (PVal E)) (i : Nat) (l : Loc), (∀ q ∈ qs, Typed q) → BlkOk w A U M l (getB (fillBs id bs qs) i) →
    BlkOk w A'' U'' M'' l (getB (fillBs N bs qs) i)
  | [], qs, i, l, ht, h => by simp [fillBs, getB]; trivial
  | b :: bs, qs, i, l, ht, h => by
    cases i with
    | zero => exact fillB_ren hN hA l b qs ht h
    | succ i =>
      have h : BlkOk w A U M l (getB (fillBs id bs (fillB id b qs).2) i) := h
      rw [← (fillB_flags (N := N) b qs).2.2.2.2] at h
      exact fillBs_ren hN hA bs _ i l (fillB_typed b qs ht) h
theorem fillBs_flags : ∀ (bs : List BK) (qs : List (PVal E)) (i : Nat), liveB (getB (fillBs N bs qs) i) = liveB (getB (fillBs id bs qs) i) ∧ memB (getB (fillBs N bs qs) i) = memB (getB (fillBs id bs qs) i) ∧
    ownB (getB (fillBs N bs qs) i) = ownB (getB (fillBs id bs qs) i) ∧ usedB (getB (fillBs N bs qs) i) = usedB (getB (fillBs id bs qs) i)
  | [], qs, i => ⟨rfl, rfl, rfl, rfl⟩
  | b :: bs, qs, i => by
    cases i with
    | zero => obtain ⟨h1, h2, h3, h4, _⟩ := fillB_flags (N := N) b qs; exact ⟨h1, h2, h3, h4⟩
    | succ i =>
      have h := fillBs_flags bs (fillB N b qs).2 i
      have e : fillBs id (b :: bs) qs = (fillB id b qs).1 :: fillBs id bs (fillB N b qs).2 := by rw [(fillB_flags (N := N) b qs).2.2.2.2]; rfl
      rw [e]; exact h
end
end Go.Pe
namespace Go.Pe
variable {E : Types}
section
variable {ρ : Ren} {fresh : Nat}
theorem putNew_len : ∀ (bs : List (Blk E)) (t : Nat) (H : List (Blk E)), (putNew fresh bs t H).length = H.length
  | [], _, _ => rfl
  | b :: bs, t, H => by
    show (putNew fresh bs (t + 1) (H.set (fresh + t) b)).length = _
    rw [putNew_len bs]; simp
theorem putNew_get : ∀ (bs : List (Blk E)) (t : Nat) (H : List (Blk E)), (∀ i, i < bs.length → fresh + t + i < H.length) → ∀ id,
    (∃ i B, bs[i]? = some B ∧ id = fresh + t + i ∧ getB (putNew fresh bs t H) id = B) ∨ (getB (putNew fresh bs t H) id = getB H id ∧ ∀ i, i < bs.length → id ≠ fresh + t + i)
  | [], t, H, _, id => .inr ⟨rfl, fun i hi => by simp at hi⟩
  | b :: bs, t, H, hl, id => by
    have h0 := hl 0 (by simp)
    rcases putNew_get bs (t + 1) (H.set (fresh + t) b) (fun i hi => by have := hl (i + 1) (by simpa using hi); simp; omega) id with ⟨i, B, h1, h2, h3⟩ | ⟨h1, h2⟩
    · exact .inl ⟨i + 1, B, by simpa using h1, by omega, h3⟩
    · by_cases he : id = fresh + t
      · refine .inl ⟨0, b, rfl, by omega, ?_⟩
        show getB (putNew fresh bs (t + 1) (H.set (fresh + t) b)) id = b
        rw [h1, he, getB_set_eq _ _ _ (by simpa using h0)]
      · refine .inr ⟨?_, fun i hi => ?_⟩
        · show getB (putNew fresh bs (t + 1) (H.set (fresh + t) b)) id = _
          rw [h1, getB_set_ne _ _ (fun e => he e.symm)]
        · cases i with
          | zero => omega
          | succ i => have := h2 i (by simpa using hi); omega
inductive Cls (ρ : Ren) (fresh : Nat) (ks os : List BK) (bs : List (Blk E)) (j : Nat) (H H' : List (Blk E)) (id : Nat) : Prop
  | box (i : Nat) (ws ws' : List SK) (B : Blk E) (h1 : ks[i]? = some (.box true ws)) (h2 : os[i]? = some (.box true ws')) (h3 : bs[i]? = some B) (h4 : ρ.get (j + i) = some (some id)) (h5 : getB H' id = B)
  | dead (i : Nat) (e : Ty) (h1 : ks[i]? = some (.row true e)) (h4 : ρ.get (j + i) = some (some id)) (h5 : getB H' id = .dead)
  | new (t : Nat) (B : Blk E) (h3 : bs[ks.length + t]? = some B) (h4 : id = fresh + t) (h5 : getB H' id = B)
  | same (h5 : getB H' id = getB H id) (h1 : ∀ (i : Nat) (b : BK), ks[i]? = some b → ρ.get (j + i) = some (some id) → (∃ ws, b = .box false ws) ∨ (∃ e, b = .row false e) ∨ ∃ es, b = .map es) (h2 : ∀ t, ks.length + t < bs.length → id ≠ fresh + t)
theorem putBack_cls : ∀ (ks os : List BK) (bs : List (Blk E)) (j : Nat) (H H' : List (Blk E)), (∀ i id, ρ.get i = some (some id) → id < H.length) → (∀ t, ks.length + t < bs.length → fresh + t < H.length) →
    (∀ i id t, ρ.get i = some (some id) → ks.length + t < bs.length → id ≠ fresh + t) → (∀ i k id, ρ.get i = some (some id) → ρ.get k = some (some id) → i = k) →
    putBack ρ fresh ks os bs j H = some H' → H'.length = H.length ∧ (∀ id, Cls ρ fresh ks os bs j H H' id) ∧
      ∀ (i : Nat) (k : BK), ks[i]? = some k → (∃ ws ws' id, k = .box true ws ∧ os[i]? = some (.box true ws') ∧ ρ.get (j + i) = some (some id)) ∨ os[i]? = some .gone
  | [], os, bs, j, H, H', hl, hf, hne, hi, h => by
    simp only [putBack, Option.some.injEq] at h; subst h
    refine ⟨putNew_len _ _ _, fun id => ?_, fun i k hk => by simp at hk⟩
    rcases putNew_get bs 0 H (fun i hi => by have := hf i (by simpa using hi); omega) id with ⟨i, B, h1, h2, h3⟩ | ⟨h1, h2⟩
    · exact .new i B (by simpa using h1) (by omega) h3
    · exact .same h1 (fun i b hb => by simp at hb) (fun t ht => by have := h2 t (by simpa using ht); omega)
  | k :: ks, os, bs, j, H, H', hl, hf, hne, hi, h => by
    have step : ∀ (o : BK) (os' : List BK) (b : Blk E) (bs' : List (Blk E)) (H1 : List (Blk E)), os = o :: os' → bs = b :: bs' → H1.length = H.length → putBack ρ fresh ks os' bs' (j + 1) H1 = some H' →
        ((∃ ws ws' id, k = .box true ws ∧ o = .box true ws' ∧ ρ.get j = some (some id)) ∨ o = .gone) →
        (∀ id, getB H1 id = getB H id ∧ (∀ ws, k = .box true ws → ρ.get j ≠ some (some id)) ∧ (∀ e, k = .row true e → ρ.get j ≠ some (some id)) ∨
          (∃ ws ws', k = .box true ws ∧ o = .box true ws' ∧ ρ.get j = some (some id) ∧ getB H1 id = b) ∨ (∃ e, k = .row true e ∧ ρ.get j = some (some id) ∧ getB H1 id = .dead)) → (k ≠ .gone) →
        H'.length = H.length ∧ (∀ id, Cls ρ fresh (k :: ks) os bs j H H' id) ∧
          ∀ (i : Nat) (k' : BK), (k :: ks)[i]? = some k' → (∃ ws ws' id, k' = .box true ws ∧ os[i]? = some (.box true ws') ∧ ρ.get (j + i) = some (some id)) ∨ os[i]? = some .gone := by
      intro o os' b bs' H1 eo eb hl1 hpb hok hch hkg
      subst eo eb
      obtain ⟨r1, r2, r3⟩ := putBack_cls ks os' bs' (j + 1) H1 H' (fun i id hg => by rw [hl1]; exact hl i id hg) (fun t ht => by rw [hl1]; exact hf t (by simp at ht ⊢; omega))
        (fun i id t hg ht => hne i id t hg (by simp at ht ⊢; omega)) hi hpb
      refine ⟨r1.trans hl1, fun id => ?_, fun i k' hk' => ?_⟩
      · cases r2 id with
        | box i ws ws' B h1 h2 h3 h4 h5 => exact .box (i + 1) ws ws' B (by simpa using h1) (by simpa using h2) (by simpa using h3) (by rw [← h4]; congr 1; omega) h5
        | dead i e h1 h4 h5 => exact .dead (i + 1) e (by simpa using h1) (by rw [← h4]; congr 1; omega) h5
        | new t B h3 h4 h5 => exact .new t B (by rw [← h3]; simp only [List.length_cons]; rw [show ks.length + 1 + t = ks.length + t + 1 by omega, List.getElem?_cons_succ]) h4 h5
        | same h5 h1 h2 =>
          rcases hch id with ⟨g1, g2, g3⟩ | ⟨ws, ws', g1, g2, g3, g4⟩ | ⟨e, g1, g2, g3⟩
          · refine .same (h5.trans g1) (fun i b' hb' hg => ?_) (fun t ht => h2 t (by simp at ht ⊢; omega))
            cases i with
            | zero =>
              have hb' : k = b' := by simpa using hb'
              subst hb'
              have hg : ρ.get j = some (some id) := by simpa using hg
              cases k with
              | box wr ws => cases wr with
                | true => exact absurd hg (g2 ws rfl)
                | false => exact .inl ⟨ws, rfl⟩
              | row wr e => cases wr with
                | true => exact absurd hg (g3 e rfl)
                | false => exact .inr (.inl ⟨e, rfl⟩)
              | map es => exact .inr (.inr ⟨es, rfl⟩)
              | gone => exact absurd rfl hkg
            | succ i => exact h1 i b' (by simpa using hb') (by rw [← hg]; congr 1; omega)
          · subst g1 g2
            exact .box 0 ws ws' b rfl rfl rfl g3 (h5.trans g4)
          · subst g1
            exact .dead 0 e rfl g2 (h5.trans g3)
      · cases i with
        | zero =>
          have hk' : k = k' := by simpa using hk'
          subst hk'
          rcases hok with ⟨ws, ws', id, e1, e2, e3⟩ | e1
          · exact .inl ⟨ws, ws', id, e1, by simp [e2], by simpa using e3⟩
          · exact .inr (by simp [e1])
        | succ i =>
          rcases r3 i k' (by simpa using hk') with ⟨ws, ws', id, e1, e2, e3⟩ | e1
          · exact .inl ⟨ws, ws', id, e1, by simpa using e2, by rw [← e3]; congr 1; omega⟩
          · exact .inr (by simpa using e1)
    unfold putBack at h
    split at h
    · rename_i e; cases e
    · rename_i ws ks' ws' os' b bs' _ _ _ e
      cases e
      split at h
      · rename_i id0 hg
        refine step _ _ _ _ _ rfl rfl (by simp) h (.inl ⟨_, _, id0, rfl, rfl, hg⟩) (fun id => ?_) (by simp)
        by_cases he : id = id0
        · subst he
          exact .inr (.inl ⟨_, _, rfl, rfl, hg, getB_set_eq _ _ _ (hl _ _ hg)⟩)
        · refine .inl ⟨getB_set_ne _ _ (fun e => he e.symm), fun _ _ hg' => ?_, fun _ e => by cases e⟩
          rw [hg] at hg'; simp at hg'; exact he hg'.symm
      · cases h
    · rename_i e
      cases e
      exact step _ _ _ _ _ rfl rfl rfl h (.inr rfl) (fun id => .inl ⟨rfl, (fun _ e => by cases e), (fun _ e => by cases e)⟩) (by simp)
    · rename_i e
      cases e
      split at h
      · rename_i id0 hg
        refine step _ _ _ _ _ rfl rfl (by simp) h (.inr rfl) (fun id => ?_) (by simp)
        by_cases he : id = id0
        · subst he
          exact .inr (.inr ⟨_, rfl, hg, getB_set_eq _ _ _ (hl _ _ hg)⟩)
        · refine .inl ⟨getB_set_ne _ _ (fun e => he e.symm), (fun _ e => by cases e), fun _ _ hg' => ?_⟩
          rw [hg] at hg'; simp at hg'; exact he hg'.symm
      · rename_i hg
        exact step _ _ _ _ _ rfl rfl rfl h (.inr rfl) (fun id => .inl ⟨rfl, (fun _ e => by cases e), (fun _ _ hg' => by rw [hg] at hg'; simp at hg')⟩) (by simp)
      · cases h
    · rename_i e
      cases e
      exact step _ _ _ _ _ rfl rfl rfl h (.inr rfl) (fun id => .inl ⟨rfl, (fun _ e => by cases e), (fun _ e => by cases e)⟩) (by simp)
    · rename_i e
      cases e
      exact step _ _ _ _ _ rfl rfl rfl h (.inr rfl) (fun id => .inl ⟨rfl, (fun _ e => by cases e), (fun _ e => by cases e)⟩) (by simp)
    · cases h
end
end Go.Pe
namespace Go.Pe
variable {E : Types}
structure Adv (L : Nat → Prop) (w : World) (L' : Nat → Prop) (w' : World) : Prop where
  os : w'.os = w.os
  tape : w'.tape = w.tape
  output : w'.output = w.output
  size : w.heap.size ≤ w'.heap.size
  block : ∀ b, b < w.heap.size → ¬ L b → w'.heap[b]? = w.heap[b]?
  lv : ∀ b, b < w.heap.size → L' b → L b
theorem Adv.refl (L : Nat → Prop) (w : World) : Adv L w L w := ⟨rfl, rfl, rfl, Nat.le_refl _, fun _ _ _ => rfl, fun _ _ h => h⟩
theorem Adv.trans {L L1 L2 : Nat → Prop} {w w1 w2 : World} (h : Adv L w L1 w1) (k : Adv L1 w1 L2 w2) : Adv L w L2 w2 :=
  ⟨k.os.trans h.os, k.tape.trans h.tape, k.output.trans h.output, Nat.le_trans h.size k.size,
    fun b hb hl => (k.block b (Nat.lt_of_lt_of_le hb h.size) (fun hl1 => hl (h.lv b hb hl1))).trans (h.block b hb hl),
    fun b hb hl => h.lv b hb (k.lv b (Nat.lt_of_lt_of_le hb h.size) hl)⟩
theorem Trans.adv {A0 : Nat → Prop} {μ μ' : Nat → Loc} {H H' : List (Blk E)} {w w' : World} (T : Trans A0 μ H w μ' H' w') : Adv (Lv μ H) w (Lv μ' H') w' :=
  ⟨T.os, T.tape, T.output, T.size, T.block, T.lv⟩
structure Wd (G : Nat → Prop) (W0 : World) (A0 : Nat → Prop) (w : World) : Prop where
  low : ∀ b, A0 b → b < w.heap.size
  glob : ∀ g, G g → A0 g ∧ w.heap[g]? = W0.heap[g]?
  kb : ∀ b, Kb b → A0 b
def resV : List Value → Value
  | [v] => v
  | vs => .tuple vs.toArray
structure Outc (A0 : Nat → Prop) (μ : Nat → Loc) (Hi : List (Blk E)) (w : World) (s : Spec E) (y : HL E.T s.out.holes) (vs : List Value) (A1 : Nat → Prop) (μ1 : Nat → Loc) (w' : World) : Prop where
  sim : HSim A1 μ1 (fillS id s.out (HL.toP s.out.holes y)).2 w'
  rep : RL (Rp E A1 μ1 (fillS id s.out (HL.toP s.out.holes y)).2 w') (fillS id s.out (HL.toP s.out.holes y)).1 vs
  adv : Adv (Lv μ Hi) w (Lv μ1 (fillS id s.out (HL.toP s.out.holes y)).2) w'
  up : ∀ b, A0 b → A1 b
  low : ∀ b, A1 b → b < w'.heap.size
  keep : ∀ (j : Nat) ws, s.inn.blks[j]? = some (.box true ws) → (∃ ws', s.out.blks[j]? = some (.box true ws')) → μ1 j = μ j
def Sound (P : Program) (G : Nat → Prop) (W0 : World) (f : FuncId) (s : Spec E) : Prop :=
  ∀ (A0 : Nat → Prop) (μ : Nat → Loc) (w : World) (args : Array Value) (x : HL E.T s.inn.holes) (y : s.go.G), Wd G W0 A0 w → HSim A0 μ (fillS id s.inn (HL.toP s.inn.holes x)).2 w →
    RL (Rp E A0 μ (fillS id s.inn (HL.toP s.inn.holes x)).2 w) (fillS id s.inn (HL.toP s.inn.holes x)).1 args.toList → s.F (s.gi.of x) = some y →
    Calls P f args w fun e w' => ∃ vs A1 μ1, e = .returned (resV vs) ∧ Outc A0 μ (fillS id s.inn (HL.toP s.inn.holes x)).2 w s (s.go.to y) vs A1 μ1 w'
section
variable {P : Program} {G : Nat → Prop} {W0 : World} {A0 : Nat → Prop} {μ : Nat → Loc} {H : List (Blk E)} {w : World}
theorem HL.toP_typed : ∀ (ts : List Ty) (x : HL E.T ts), ∀ q ∈ HL.toP (E := E) ts x, Typed q
  | [], _ => fun q hq => by simp [HL.toP] at hq
  | t :: ts, x => fun q hq => by
    simp only [HL.toP, List.mem_cons] at hq
    rcases hq with rfl | hq
    · exact ⟨t, x.1, rfl⟩
    · exact HL.toP_typed ts x.2 q hq
theorem freeB_spec : ∀ (n fresh : Nat), freeB H fresh n = true → ∀ t, t < n → getB H (fresh + t) = .free ∧ fresh + t < H.length
  | 0, _, _, t, ht => by omega
  | n + 1, fresh, h, t, ht => by
    simp only [freeB, Bool.and_eq_true] at h
    cases t with
    | zero =>
      have hle : fresh + 1 ≤ H.length := Nat.le_of_ble_eq_true h.1.2
      refine ⟨?_, by omega⟩
      have h1 := h.1.1
      split at h1
      · rename_i e; simpa using e
      · cases h1
    | succ t =>
      have := freeB_spec n (fresh + 1) h.2 t (by omega)
      rw [show fresh + (t + 1) = fresh + 1 + t by omega]
      exact this
theorem upd_sound : ∀ (fz : List Nat) {H : List (Blk E)}, HSim A0 μ H w → (∀ id ∈ fz, ∃ wr e l, getB H id = .row wr e l) →
    Trans A0 μ H w μ (upd H fz) w ∧ HSim A0 μ (upd H fz) w ∧ (∀ id, id ∉ fz → getB (upd H fz) id = getB H id) ∧ (∀ id ∈ fz, ∃ e l, getB (upd H fz) id = .row false e l) ∧ (upd H fz).length = H.length
  | [], H, S, _ => ⟨Trans.refl _ _ _ _, S, fun _ _ => rfl, fun _ h => by simp at h, rfl⟩
  | id :: r, H, S, h => by
    obtain ⟨wr, e, l, hB⟩ := h id (List.mem_cons_self ..)
    obtain ⟨T, S', _⟩ := freeze_row S hB
    have hlt : id < H.length := lt_of_used (by rw [hB]; rfl)
    have e0 : upd H (id :: r) = upd (H.set id (.row false e l)) r := by simp only [upd, hB, frz]
    have rows : ∀ j ∈ r, ∃ wr e' l', getB (H.set id (.row false e l)) j = .row wr e' l' := by
      intro j hj
      rw [getB_set _ _ _ _ hlt]
      split
      · exact ⟨_, _, _, rfl⟩
      · exact h j (List.mem_cons_of_mem _ hj)
    obtain ⟨T2, S2, h1, h2, h3⟩ := upd_sound r S' rows
    rw [e0]
    refine ⟨T.trans T2, S2, fun j hj => ?_, fun j hj => ?_, by rw [h3]; simp⟩
    · simp only [List.mem_cons, not_or] at hj
      rw [h1 j hj.2, getB_set_ne _ _ (fun e => hj.1 e.symm)]
    · by_cases hr : j ∈ r
      · exact h2 j hr
      · have : j = id := by rcases List.mem_cons.1 hj with h | h; exact h; exact absurd h hr
        subst this
        rw [h1 j hr, getB_set_eq _ _ _ hlt]
        exact ⟨_, _, rfl⟩
theorem call_back {s : Spec E} {x : HL E.T s.inn.holes} {y : HL E.T s.out.holes} {ρ : Ren} {fz : List Nat} {vs0 vs : List Value} {Ac A1 : Nat → Prop} {μ1 : Nat → Loc} {w' : World} {fresh : Nat} {H' : List (Blk E)}
    (S : HSim A0 μ H w) (hlow : ∀ b, A0 b → b < w.heap.size) (hkb : ∀ b, Kb b → A0 b) (ab : Abst E A0 μ H w s.inn x ρ fz vs0 Ac) (oc : Outc Ac (ρ.loc μ) (fillS id s.inn (HL.toP s.inn.holes x)).2 w s y vs A1 μ1 w')
    (hf : freeB H fresh (s.out.blks.length - s.inn.blks.length) = true) (ho : s.out.blks.all BK.handsOut = true)
    (hb : putBack ρ fresh s.inn.blks s.out.blks (fillS (outN ρ s.inn.blks.length fresh) s.out (HL.toP s.out.holes y)).2 0 (upd H fz) = some H') :
    ∃ μ', Trans A0 μ H w μ' H' w' ∧ HSim A0 μ' H' w' ∧ RL (Rp E A0 μ' H' w') (fillS (outN ρ s.inn.blks.length fresh) s.out (HL.toP s.out.holes y)).1 vs := by
  let n := s.inn.blks.length
  let m := s.out.blks.length
  let N := outN ρ n fresh
  let q := HL.toP (E := E) s.out.holes y
  let q2 := (fillKs id s.out.vals q).2
  have hq : ∀ p ∈ q, Typed p := HL.toP_typed _ _
  have hq2 : ∀ p ∈ q2, Typed p := fillKs_typed _ _ hq
  have eHo : (fillS id s.out q).2 = fillBs id s.out.blks q2 := rfl
  have eR : (fillS N s.out q).2 = fillBs N s.out.blks q2 := by
    show fillBs N s.out.blks (fillKs N s.out.vals q).2 = _
    rw [fillKs_rest]
  let Hi := (fillS id s.inn (HL.toP s.inn.holes x)).2
  let Ho := fillBs id s.out.blks q2
  let Hr := fillBs N s.out.blks q2
  have oc_sim : HSim A1 μ1 Ho w' := oc.sim
  have hHr : Hr.length = m := fillBs_len _ _
  have hHo : Ho.length = m := fillBs_len _ _
  obtain ⟨T1, S1, u1, u2, u3⟩ := upd_sound fz S ab.rows
  have hfree := freeB_spec _ _ hf
  have used_of_ρ : ∀ i id, ρ.get i = some (some id) → memB (getB H id) = true := by
    intro i id hg
    obtain ⟨b, hb1, hb2⟩ := ab.under i _ hg
    have := ab.bc i b hb1
    rw [if_neg (by simp [hb2])] at this
    obtain ⟨y', hy', hbc⟩ := this
    rw [hg] at hy'; injection hy' with hy'; subst hy'
    exact hbc.2.2.1
  have lt_of_ρ : ∀ i id, ρ.get i = some (some id) → id < (upd H fz).length := fun i id hg => by rw [u3]; exact lt_of_used (usedB_of_mem (used_of_ρ i id hg))
  have ne_fresh : ∀ id t, usedB (getB H id) = true → t < m - n → id ≠ fresh + t := by
    rintro id t hu ht rfl
    rw [(hfree t ht).1] at hu; cases hu
  have hHr' : (fillS (outN ρ s.inn.blks.length fresh) s.out (HL.toP s.out.holes y)).2 = Hr := eR
  rw [hHr'] at hb
  obtain ⟨c1, c2, c3⟩ := putBack_cls s.inn.blks s.out.blks Hr 0 (upd H fz) H' lt_of_ρ (fun t ht => by rw [u3]; exact (hfree t (by rw [hHr] at ht; show t < m - n; omega)).2)
    (fun i id t hg ht => ne_fresh id t (usedB_of_mem (used_of_ρ i id hg)) (by rw [hHr] at ht; show t < m - n; omega)) ab.inj hb
  have getHr : ∀ (t : Nat) (B : Blk E), Hr[t]? = some B → getB Hr t = B := fun t B h => by unfold getB; rw [h]; rfl
  have nm : n ≤ m := by
    by_cases h0 : n = 0
    · omega
    · have h1 : n - 1 < s.inn.blks.length := by show n - 1 < n; omega
      rcases c3 (n - 1) _ (List.getElem?_eq_getElem h1) with ⟨ws, ws', id, _, e2, _⟩ | e2
      · have := (List.getElem?_eq_some_iff.1 e2).1; show n ≤ m; omega
      · have := (List.getElem?_eq_some_iff.1 e2).1; show n ≤ m; omega
  let μ' : Nat → Loc := fun id => if fresh ≤ id ∧ id < fresh + (m - n) then μ1 (n + (id - fresh)) else μ id
  have μ'_used : ∀ id, usedB (getB H id) = true → μ' id = μ id := by
    intro id hu
    refine if_neg ?_
    rintro ⟨h1, h2⟩
    exact ne_fresh id (id - fresh) hu (by omega) (by omega)
  have μ'_new : ∀ t, t < m - n → μ' (fresh + t) = μ1 (n + t) := by
    intro t ht
    show (if _ then _ else _) = _
    rw [if_pos (by omega)]; congr 1; omega
  have kept : ∀ j ws ws' id, s.inn.blks[j]? = some (.box true ws) → s.out.blks[j]? = some (.box true ws') → ρ.get j = some (some id) → μ1 j = μ id := by
    intro j ws ws' id h1 h2 h3
    rw [oc.keep j ws h1 ⟨ws', h2⟩]
    simp only [Ren.loc, h3]
  have flag := fun j => fillBs_flags (N := N) s.out.blks q2 j
  have outc : ∀ j, usedB (getB Ho j) = true → (∃ ws ws' id, s.inn.blks[j]? = some (.box true ws) ∧ s.out.blks[j]? = some (.box true ws') ∧ ρ.get j = some (some id) ∧ N j = id ∧ μ1 j = μ id) ∨ (∃ t, t < m - n ∧ j = n + t ∧ N j = fresh + t) := by
    intro j hj
    have hlt : j < m := by rw [← hHo]; exact lt_of_used hj
    by_cases hjn : j < n
    · rcases c3 j _ (List.getElem?_eq_getElem hjn) with ⟨ws, ws', id, e1, e2, e3⟩ | e2
      · refine .inl ⟨ws, ws', id, by rw [List.getElem?_eq_getElem hjn, e1], e2, by simpa using e3, ?_, kept j ws ws' id (by rw [List.getElem?_eq_getElem hjn, e1]) e2 (by simpa using e3)⟩
        have e3 : ρ.get j = some (some id) := by simpa using e3
        show outN ρ n fresh j = id
        simp only [outN]
        have hbl : Nat.blt j n = true := Nat.ble_eq_true_of_le hjn
        rw [if_pos hbl, e3]
      · exfalso
        have : ∀ (bs : List BK) (qs : List (PVal E)) (j : Nat), bs[j]? = some .gone → getB (fillBs id bs qs) j = .free := by
          intro bs
          induction bs with
          | nil => intro qs j h; simp at h
          | cons b bs ih =>
            intro qs j h
            cases j with
            | zero => simp at h; subst h; rfl
            | succ j => exact ih _ j (by simpa using h)
        rw [show getB Ho j = .free from this _ _ _ e2] at hj
        cases hj
    · refine .inr ⟨j - n, by omega, by omega, ?_⟩
      show outN ρ n fresh j = _
      simp only [outN]
      have hbl : ¬ Nat.blt j n = true := fun h => hjn (Nat.le_of_ble_eq_true h)
      rw [if_neg hbl]
  have clsN : ∀ j, usedB (getB Ho j) = true → getB H' (N j) = getB Hr j := by
    intro j hj
    have hB : ∃ B, Hr[j]? = some B := by
      have : j < Hr.length := by rw [hHr, ← hHo]; exact lt_of_used hj
      exact ⟨_, List.getElem?_eq_getElem this⟩
    obtain ⟨B, hB⟩ := hB
    rcases outc j hj with ⟨ws, ws', id, h1, h2, h3, h4, h5⟩ | ⟨t, h1, h2, h3⟩
    · rw [h4]
      cases c2 id with
      | box i ws2 ws2' B2 g1 g2 g3 g4 g5 =>
        have : i = j := ab.inj i j id (by simpa using g4) h3
        subst this
        rw [g5, getHr _ _ g3]
      | dead i e g1 g4 g5 =>
        have : i = j := ab.inj i j id (by simpa using g4) h3
        subst this
        rw [h1] at g1; simp at g1
      | new t B2 g3 g4 g5 =>
        exact absurd g4 (ne_fresh id t (usedB_of_mem (used_of_ρ j id h3)) (by have := (List.getElem?_eq_some_iff.1 g3).1; rw [hHr] at this; show t < m - n; omega))
      | same g5 g1 g2 =>
        rcases g1 j _ h1 (by simpa using h3) with ⟨_, e⟩ | ⟨_, e⟩ | ⟨_, e⟩ <;> cases e
    · rw [h3]
      cases c2 (fresh + t) with
      | box i ws2 ws2' B2 g1 g2 g3 g4 g5 => exact absurd rfl (ne_fresh _ t (usedB_of_mem (used_of_ρ i _ (by simpa using g4))) h1)
      | dead i e g1 g4 g5 => exact absurd rfl (ne_fresh _ t (usedB_of_mem (used_of_ρ i _ (by simpa using g4))) h1)
      | new t2 B2 g3 g4 g5 =>
        have : t2 = t := by omega
        subst this
        rw [g5, h2]
        exact (getHr _ _ g3).symm
      | same g5 g1 g2 => exact absurd rfl (g2 t (by rw [hHr]; show n + t < m; omega))
  have hN : ∀ j, Us Ho j → Us H' (N j) ∧ μ' (N j) = μ1 j := by
    intro j hj
    refine ⟨?_, ?_⟩
    · unfold Us
      rw [clsN j hj, (flag j).2.2.2]
      exact hj
    · rcases outc j hj with ⟨ws, ws', id, h1, h2, h3, h4, h5⟩ | ⟨t, h1, h2, h3⟩
      · rw [h4, μ'_used id (usedB_of_mem (used_of_ρ j id h3)), h5]
      · rw [h3, μ'_new t h1, h2]
  have cls : ∀ id, (∃ j, usedB (getB Ho j) = true ∧ N j = id ∧ getB H' id = getB Hr j ∧ μ' id = μ1 j) ∨ memB (getB H' id) = false ∧ usedB (getB H' id) = true ∧ usedB (getB H id) = true ∨
      (getB H' id = getB (upd H fz) id ∧ (usedB (getB (upd H fz) id) = true → usedB (getB H id) = true ∧ μ' id = μ id) ∧ ∀ j, ρ.get j = some (some id) → liveB (getB Hi j) = false) ∨ getB H' id = .free := by
    intro id
    cases c2 id with
    | box i ws ws' B h1 h2 h3 h4 h5 =>
      have h4 : ρ.get i = some (some id) := by simpa using h4
      have hu : usedB (getB Ho i) = true := by
        rw [← (flag i).2.2.2]
        have : ∀ (bs : List BK) (qs : List (PVal E)) (i : Nat) ws, bs[i]? = some (.box true ws) → usedB (getB (fillBs N bs qs) i) = true := by
          intro bs
          induction bs with
          | nil => intro qs i ws h; simp at h
          | cons b bs ih =>
            intro qs i ws h
            cases i with
            | zero => simp at h; subst h; rfl
            | succ i => exact ih _ i ws (by simpa using h)
        exact this _ _ _ _ h2
      rcases outc i hu with ⟨_, _, id', g1, g2, g3, g4, g5⟩ | ⟨t, g1, g2, g3⟩
      · rw [h4] at g3; simp at g3; subst g3
        exact .inl ⟨i, hu, g4, by rw [← g4]; exact clsN i hu, by rw [← g4]; exact (hN i hu).2⟩
      · have := (List.getElem?_eq_some_iff.1 h1).1
        have : i < n := this
        omega
    | dead i e h1 h4 h5 =>
      exact .inr (.inl ⟨by rw [h5]; rfl, by rw [h5]; rfl, usedB_of_mem (used_of_ρ i id (by simpa using h4))⟩)
    | new t B h3 h4 h5 =>
      have ht : n + t < m := by have := (List.getElem?_eq_some_iff.1 h3).1; rw [hHr] at this; exact this
      by_cases hu : usedB (getB Ho (n + t)) = true
      · rcases outc _ hu with ⟨_, _, id', g1, g2, g3, g4, g5⟩ | ⟨t', g1, g2, g3⟩
        · have := (List.getElem?_eq_some_iff.1 g1).1
          have : n + t < n := this
          omega
        · have : t' = t := by omega
          subst this
          rw [h4]
          exact .inl ⟨n + t', hu, g3, by rw [← g3]; exact clsN _ hu, by rw [← g3]; exact (hN _ hu).2⟩
      · refine .inr (.inr (.inr ?_))
        rw [h5, ← getHr _ _ h3]
        have := (flag (n + t)).2.2.2
        have h0 : usedB (getB Hr (n + t)) = false := by
          have e : usedB (getB Hr (n + t)) = usedB (getB Ho (n + t)) := this
          rw [e]; simpa using hu
        show getB Hr (n + t) = .free
        cases hB : getB Hr (n + t) with
        | free => rfl
        | _ => rw [hB] at h0; cases h0
    | same h5 h1 h2 =>
      refine .inr (.inr (.inl ⟨h5, fun hu => ?_, fun j hj => ?_⟩))
      · have hu' : usedB (getB H id) = true := by
          by_cases hid : id ∈ fz
          · obtain ⟨wr, e, l, hB⟩ := ab.rows id hid
            rw [hB]; rfl
          · rw [← u1 id hid]; exact hu
        exact ⟨hu', μ'_used id hu'⟩
      · obtain ⟨b, hb1, hb2⟩ := ab.under j _ hj
        have hbj := ab.bc j b hb1
        rw [if_neg (by simp [hb2])] at hbj
        obtain ⟨y', hy', hbc⟩ := hbj
        have hst : ∀ (bs : List BK) (qs : List (PVal E)) (i : Nat) (b : BK), bs[i]? = some b → (∃ ws, b = .box false ws) ∨ (∃ e, b = .row false e) ∨ (∃ es, b = .map es) → liveB (getB (fillBs _root_.id bs qs) i) = false := by
          intro bs
          induction bs with
          | nil => intro qs i b h; simp at h
          | cons c bs ih =>
            intro qs i b h hh
            cases i with
            | zero =>
              simp at h; subst h
              rcases hh with ⟨ws, rfl⟩ | ⟨e, rfl⟩ | ⟨es, rfl⟩
              · rfl
              rotate_left
              · rfl
              · cases qs with
                | nil => rfl
                | cons q qs =>
                  simp only [fillBs, fillB, getB, List.getElem?_cons_zero, Option.getD_some]
                  split
                  · split <;> rfl
                  · rfl
            | succ i => exact ih _ i b (by simpa using h) hh
        exact hst _ _ _ _ hb1 (h1 j b hb1 (by simpa using hj))
  have hiLive : ∀ b, Lv (ρ.loc μ) Hi b → ∃ j id o c d, ρ.get j = some (some id) ∧ liveB (getB Hi j) = true ∧ liveB (getB H id) = true ∧ μ id = .blk b o c d := by
    rintro b ⟨j, o, c, d, h1, h2⟩
    have hj : j < n := by
      have := lt_of_used (usedB_of_mem (memB_of_live h1))
      rw [ab.len] at this; exact this
    have hb0 := ab.bc j _ (List.getElem?_eq_getElem hj)
    split at hb0
    · rw [hb0] at h1; cases h1
    · obtain ⟨y', hy', hbc⟩ := hb0
      cases y' with
      | none => simp only [Ren.loc, hy'] at h2; cases h2
      | some id =>
        simp only [Ren.loc, hy'] at h2
        exact ⟨j, id, o, c, d, hy', h1, hbc.2.2.2.1 h1, h2⟩
  have other : ∀ id b o c d, getB H' id = getB (upd H fz) id → (∀ j, ρ.get j = some (some id) → liveB (getB Hi j) = false) → memB (getB (upd H fz) id) = true → μ id = .blk b o c d → ¬ Lv (ρ.loc μ) Hi b := by
    intro id b o c d _ hnl hm hμ hl
    obtain ⟨j, id', o', c', d', g1, g2, g3, g4⟩ := hiLive b hl
    have hne : id' ≠ id := by
      rintro rfl
      rw [hnl j g1] at g2; cases g2
    have hm' : memB (getB H id) = true := by
      by_cases hid : id ∈ fz
      · obtain ⟨wr, e, l, hB⟩ := ab.rows id hid
        rw [hB]; rfl
      · rw [← u1 id hid]; exact hm
    exact S.inj id' id b o' c' d' b o c d hne g3 hm' g4 hμ rfl
  have liveU : ∀ id, liveB (getB (upd H fz) id) = true → liveB (getB H id) = true ∧ id ∉ fz := by
    intro id hl
    by_cases hid : id ∈ fz
    · obtain ⟨e, l, hB⟩ := u2 id hid
      rw [hB] at hl; cases hl
    · rw [u1 id hid] at hl; exact ⟨hl, hid⟩
  have T : Trans A0 μ H w μ' H' w' := by
    refine ⟨oc.adv.os, oc.adv.tape, oc.adv.output, oc.adv.size, fun b hb hl => oc.adv.block b hb (fun h => hl (ab.lv b h)), ?_, ?_, c1.trans u3⟩
    · rintro b hb ⟨id, o, c, d, hl, hμ⟩
      rcases cls id with ⟨j, g1, g2, g3, g4⟩ | ⟨g1, _⟩ | ⟨g1, g2, g3⟩ | g1
      · have : Lv μ1 Ho b := ⟨j, o, c, d, by rw [← (flag j).1]; show liveB (getB Hr j) = true; rw [← g3]; exact hl, g4.symm.trans hμ⟩
        exact ab.lv b (oc.adv.lv b hb this)
      · rw [memB_of_live hl] at g1; cases g1
      · rw [g1] at hl
        obtain ⟨k1, k2⟩ := g2 (usedB_of_mem (memB_of_live hl))
        exact ⟨id, o, c, d, (liveU id hl).1, k2.symm.trans hμ⟩
      · rw [g1] at hl; cases hl
    · intro id hu
      refine ⟨?_, μ'_used id hu⟩
      unfold Us
      rcases cls id with ⟨j, g1, g2, g3, g4⟩ | ⟨_, g1, _⟩ | ⟨g1, g2, g3⟩ | g1
      · rw [g3]
        have := (flag j).2.2.2
        show usedB (getB Hr j) = true
        exact this.trans g1
      · exact g1
      · rw [g1]
        by_cases hid : id ∈ fz
        · obtain ⟨e, l, hB⟩ := u2 id hid
          rw [hB]; rfl
        · rw [u1 id hid]; exact hu
      · exfalso
        cases c2 id with
        | box i ws ws' B h1 h2 h3 h4 h5 =>
          have hw : ∀ (bs : List BK) (qs : List (PVal E)) (i : Nat) ws, bs[i]? = some (.box true ws) → usedB (getB (fillBs N bs qs) i) = true := by
            intro bs
            induction bs with
            | nil => intro qs i ws h; simp at h
            | cons b bs ih =>
              intro qs i ws h
              cases i with
              | zero => simp at h; subst h; rfl
              | succ i => exact ih _ i ws (by simpa using h)
          have := hw _ q2 _ _ h2
          rw [show getB (fillBs N s.out.blks q2) i = B from getHr _ _ h3, ← h5, g1] at this
          cases this
        | dead i e h1 h4 h5 => rw [g1] at h5; cases h5
        | new t B h3 h4 h5 => exact ne_fresh id t hu (by have := (List.getElem?_eq_some_iff.1 h3).1; rw [hHr] at this; have : n + t < m := this; omega) h4
        | same h5 h1 h2 =>
          rw [g1] at h5
          by_cases hid : id ∈ fz
          · obtain ⟨e, l, hB⟩ := u2 id hid
            rw [hB] at h5; cases h5
          · rw [u1 id hid] at h5
            have hu : usedB (getB H id) = true := hu
            rw [← h5] at hu; cases hu
  have hAv : ∀ b, Av A0 μ' H' b → Av A1 μ1 Ho b := by
    rintro b (h | ⟨id, o, c, d, hl, hμ⟩)
    · exact .inl ⟨oc.up b (ab.up b h.1), h.2⟩
    · rcases cls id with ⟨j, g1, g2, g3, g4⟩ | ⟨g1, _⟩ | ⟨g1, g2, g3⟩ | g1
      · exact .inr ⟨j, o, c, d, by rw [← (flag j).1]; show liveB (getB Hr j) = true; rw [← g3]; exact hl, g4.symm.trans hμ⟩
      · rw [memB_of_live hl] at g1; cases g1
      · rw [g1] at hl
        obtain ⟨k1, k2⟩ := g2 (usedB_of_mem (memB_of_live hl))
        have hμ : μ id = .blk b o c d := k2.symm.trans hμ
        have hno := other id b o c d g1 g3 (memB_of_live hl) hμ
        have hf : ∀ k ∈ fz, ∀ o n c, μ k ≠ .blk b o n c := by
          intro k hk o' n' c' hk'
          obtain ⟨wr, e, l, hB⟩ := ab.rows k hk
          have hne : id ≠ k := fun e => (liveU id hl).2 (e ▸ hk)
          exact S.inj id k b o c d b o' n' c' hne (liveU id hl).1 (by rw [hB]; rfl) hμ hk' rfl
        rcases ab.rest b ⟨id, o, c, d, (liveU id hl).1, hμ⟩ hf with h | h
        · exact .inl ⟨oc.up b h, fun hk => (S.out id b o c d (ownB_of_live (liveU id hl).1) hμ).1 (hkb b hk)⟩
        · exact absurd h hno
      · rw [g1] at hl; cases hl
  have S' : HSim A0 μ' H' w' := by
    refine ⟨fun id => ?_, ?_, ?_⟩
    · rcases cls id with ⟨j, g1, g2, g3, g4⟩ | ⟨g1, g1', _⟩ | ⟨g1, g2, g3⟩ | g1
      · have := fillBs_ren (N := N) (A'' := Av A0 μ' H') (U'' := Us H') (M'' := μ') hN hAv s.out.blks q2 j _ hq2 (oc_sim.ok j)
        rw [g3, g4]; exact this
      · cases hB : getB H' id with
        | free => trivial
        | dead => trivial
        | _ => rw [hB] at g1; cases g1
      · rw [g1]
        cases hu : usedB (getB (upd H fz) id) with
        | false =>
          cases hB : getB (upd H fz) id with
          | free => trivial
          | _ => rw [hB] at hu; cases hu
        | true =>
          obtain ⟨k1, k2⟩ := g2 hu
          rw [k2]
          have T2 : Trans A0 μ (upd H fz) w μ' H' w' := by
            refine ⟨T.os, T.tape, T.output, T.size, ?_, ?_, ?_, c1⟩
            · intro b hb hl
              refine oc.adv.block b hb (fun h => ?_)
              obtain ⟨j, id', o, c, d, p1, p2, p3, p4⟩ := hiLive b h
              exact hl ⟨id', o, c, d, by rw [u1 id' (ab.apart j id' p1)]; exact p3, p4⟩
            · rintro b hb ⟨id', o, c, d, hl', hμ'⟩
              rcases cls id' with ⟨j, p1, p2, p3, p4⟩ | ⟨p1, _⟩ | ⟨p1, p2, p3⟩ | p1
              · have : Lv μ1 Ho b := ⟨j, o, c, d, by rw [← (flag j).1]; show liveB (getB Hr j) = true; rw [← p3]; exact hl', p4.symm.trans hμ'⟩
                obtain ⟨j2, id2, o2, c2', d2, r1, r2, r3, r4⟩ := hiLive b (oc.adv.lv b hb this)
                exact ⟨id2, o2, c2', d2, by rw [u1 id2 (ab.apart j2 id2 r1)]; exact r3, r4⟩
              · rw [memB_of_live hl'] at p1; cases p1
              · rw [p1] at hl'
                exact ⟨id', o, c, d, hl', (p2 (usedB_of_mem (memB_of_live hl'))).2.symm.trans hμ'⟩
              · rw [p1] at hl'; cases hl'
            · intro id' hu'
              have hu0 : Us H id' := by
                unfold Us at hu' ⊢
                by_cases hid : id' ∈ fz
                · obtain ⟨wr, e, l, hB⟩ := ab.rows id' hid
                  rw [hB]; rfl
                · rw [← u1 id' hid]; exact hu'
              exact T.used id' hu0
          refine (S1.ok id).keep T2 (fun b o c d hm hμ => oc.adv.block b ?_ (other id b o c d g1 g3 hm hμ))
          exact (S1.ok id).lt hm hμ
      · rw [g1]; trivial
    · intro i j b o n' c b' o' n'' c' hne hi hj hμi hμj
      have hi1 := cls i
      have hj1 := cls j
      rcases hi1 with ⟨k, g1, g2, g3, g4⟩ | ⟨g1, _⟩ | ⟨g1, g2, g3⟩ | g1
      · have hlk : liveB (getB Ho k) = true := by rw [← (flag k).1]; show liveB (getB Hr k) = true; rw [← g3]; exact hi
        have hμk : μ1 k = .blk b o n' c := g4.symm.trans hμi
        rcases hj1 with ⟨k2, p1, p2, p3, p4⟩ | ⟨p1, _⟩ | ⟨p1, p2, p3⟩ | p1
        · have hmk : memB (getB Ho k2) = true := by rw [← (flag k2).2.1]; show memB (getB Hr k2) = true; rw [← p3]; exact hj
          exact oc_sim.inj k k2 b o n' c b' o' n'' c' (fun e => hne (by rw [← g2, ← p2, e])) hlk hmk hμk (p4.symm.trans hμj)
        · rw [hj] at p1; cases p1
        · rw [p1] at hj
          obtain ⟨r1, r2⟩ := p2 (usedB_of_mem hj)
          have hμj' : μ j = .blk b' o' n'' c' := r2.symm.trans hμj
          rintro rfl
          have hlt : b < w.heap.size := (S1.ok j).lt hj hμj'
          exact other j b o' n'' c' p1 p3 hj hμj' (oc.adv.lv b hlt ⟨k, o, n', c, hlk, hμk⟩)
        · rw [p1] at hj; cases hj
      · rw [memB_of_live hi] at g1; cases g1
      · rw [g1] at hi
        obtain ⟨k1, k2⟩ := g2 (usedB_of_mem (memB_of_live hi))
        have hμi' : μ i = .blk b o n' c := k2.symm.trans hμi
        rcases hj1 with ⟨k2', p1, p2, p3, p4⟩ | ⟨p1, _⟩ | ⟨p1, p2, p3⟩ | p1
        · have hmk : memB (getB Ho k2') = true := by rw [← (flag k2').2.1]; show memB (getB Hr k2') = true; rw [← p3]; exact hj
          have hμk : μ1 k2' = .blk b' o' n'' c' := p4.symm.trans hμj
          rintro rfl
          have hown : ownB (getB Ho k2') = true := by
            have : ∀ (bs : List BK) (qs : List (PVal E)) (i : Nat), bs.all BK.handsOut = true → memB (getB (fillBs id bs qs) i) = true → ownB (getB (fillBs id bs qs) i) = true := by
              intro bs
              induction bs with
              | nil => intro qs i _ h; cases h
              | cons c bs ih =>
                intro qs i hh hm
                simp only [List.all_cons, Bool.and_eq_true] at hh
                cases i with
                | zero =>
                  cases c with
                  | gone => cases hm
                  | box wr ws => exact hh.1
                  | map es => cases hh.1
                  | row wr e =>
                    have hm : memB (fillB id (.row wr e) qs).1 = true := hm
                    show ownB (fillB id (.row wr e) qs).1 = true
                    cases hB : (fillB id (.row wr e) qs).1 with
                    | box a b =>
                      exfalso
                      cases qs with
                      | nil => simp [fillB] at hB
                      | cons q qs =>
                        simp only [fillB] at hB
                        split at hB
                        · split at hB <;> cases hB
                        · cases hB
                    | free => rw [hB] at hm; cases hm
                    | dead => rw [hB] at hm; cases hm
                    | row _ _ _ => rfl
                    | map _ _ =>
                      exfalso
                      cases qs with
                      | nil => simp [fillB] at hB
                      | cons q qs =>
                        simp only [fillB] at hB
                        split at hB
                        · split at hB <;> cases hB
                        · cases hB
                | succ i => exact ih _ i hh.2 hm
            exact this _ _ _ ho hmk
          have hno := other i b o n' c g1 g3 (memB_of_live hi) hμi'
          have hf : ∀ k ∈ fz, ∀ o n c, μ k ≠ .blk b o n c := by
            intro k hk o'' n3 c'' hk'
            obtain ⟨wr, e, l, hB⟩ := ab.rows k hk
            have hne : i ≠ k := fun e => (liveU i hi).2 (e ▸ hk)
            exact S.inj i k b o n' c b o'' n3 c'' hne (liveU i hi).1 (by rw [hB]; rfl) hμi' hk' rfl
          rcases ab.rest b ⟨i, o, n', c, (liveU i hi).1, hμi'⟩ hf with h | h
          · exact (oc_sim.out k2' b o' n'' c' hown hμk).1 (oc.up b h)
          · exact hno h
        · rw [hj] at p1; cases p1
        · rw [p1] at hj
          exact S1.inj i j b o n' c b' o' n'' c' hne hi hj hμi' ((p2 (usedB_of_mem hj)).2.symm.trans hμj)
        · rw [p1] at hj; cases hj
      · rw [g1] at hi; cases hi
    · intro id b o c d hown hμ
      rcases cls id with ⟨j, g1, g2, g3, g4⟩ | ⟨g1, _⟩ | ⟨g1, g2, g3⟩ | g1
      · have hoj : ownB (getB Ho j) = true := by rw [← (flag j).2.2.1]; show ownB (getB Hr j) = true; rw [← g3]; exact hown
        have := oc_sim.out j b o c d hoj (g4.symm.trans hμ)
        exact ⟨fun h => this.1 (oc.up b (ab.up b h)), this.2⟩
      · rw [memB_of_own hown] at g1; cases g1
      · rw [g1] at hown
        have := S1.out id b o c d hown ((g2 (usedB_of_mem (memB_of_own hown))).2.symm.trans hμ)
        exact ⟨this.1, Nat.lt_of_lt_of_le this.2 oc.adv.size⟩
      · rw [g1] at hown; cases hown
  refine ⟨μ', T, S', ?_⟩
  exact (fillKs_ren (N := N) (A'' := Av A0 μ' H') (U'' := Us H') (M'' := μ') hN hAv s.out.vals q vs hq oc.rep).1
end
end Go.Pe
namespace Go.Pe
variable {E : Types}
def wideR : Option Nat → Fence
  | none => Fence.wide
  | some l => Fence.wide.inRound l
theorem wideR_fn (ro : Option Nat) (f : FuncId) : (wideR ro).fn f := by cases ro <;> trivial
theorem wideR_depth (ro : Option Nat) : (wideR ro).depth = none := by cases ro <;> rfl
theorem wideR_round (ro : Option Nat) : (wideR ro).round = ro := by cases ro <;> rfl
theorem calls_wide {P : Program} {ro : Option Nat} {n : Nat} {f : FuncId} {args : Array Value} {w : World} {R : Ending → World → Prop} (h : Calls P f args w R) : CallsIn (wideR ro) n P f args w R := by
  cases ro with
  | none => exact callsIn_wide.2 h
  | some l => exact CallsIn.inRound l (callsIn_wide.2 h)
structure YK (C : Cfg E) (P : Program) (G : Nat → Prop) (W0 : World) where
  y : Int
  J : Nat → (Nat → Prop) → (Nat → Prop) → World → Prop
  low : ∀ {l A L W}, J l A L W → ∀ b, A b → b < W.heap.size
  stable : ∀ {l A L L' W W'}, J l A L W → Quiet W W' → (∀ b, b < W.heap.size → ¬ L b → W'.heap[b]? = W.heap[b]?) → (∀ b, b < W.heap.size → L' b → L b) → (∀ b, L' b → b < W'.heap.size ∧ ¬ A b) → J l A L' W'
  yield_ : ∀ {l A L W} (m : Nat) (v : Value) (z : Den E.T C.ye), C.yd[l]? = some z → J l A L W → RepT E W (fun b => (A b ∧ ¬ Kb b) ∨ L b) C.ye v z → YieldAt (wideR none) m P y.toNat #[v] W fun r W' => r = .returned (.bool true) ∧ ∃ A', J (l + 1) A' L W' ∧ (∀ b, A b → A' b) ∧
    (∀ b, A' b → A b ∨ W.heap.size ≤ b) ∧ Quiet W W' ∧ (∀ b, b < W.heap.size → ¬ A b ∨ Kb b → W'.heap[b]? = W.heap[b]?) ∧ ∀ g, G g → W'.heap[g]? = W0.heap[g]?
def Ys {C : Cfg E} {P : Program} {G : Nat → Prop} {W0 : World} (yk : Option (YK C P G W0)) (A0 : Nat → Prop) (μ : Nat → Loc) (H : List (Blk E)) (w : World) (env : List (PVal E)) : Prop := ∀ k, yk = some k →
  (∃ (tr : Nat) (A : Nat → Prop), env[0]? = some (PVal.yld k.y (tr : Int)) ∧ k.J tr A (Lv μ H) w ∧ ∀ b, A b → A0 b) ∧ ∀ (t : Nat) (m i : Int), env[t]? = some (PVal.yld m i) → m = k.y
def Marks (G A0 : Nat → Prop) (w : World) (ds : List Deferred) : Prop :=
  (∀ d ∈ ds, ∃ D, d = { target := .collected D, args := #[] } ∧ w.heap[D]? = some (.deferred (some [])) ∧ A0 D ∧ ¬ G D) ∧ ds.Pairwise (fun d d' => d.target ≠ d'.target)
structure St {C : Cfg E} {P : Program} (G : Nat → Prop) (W0 : World) (yk : Option (YK C P G W0)) (A0 : Nat → Prop) (μ : Nat → Loc) (H : List (Blk E)) (w : World) (env : List (PVal E)) (a : Act) : Prop where
  wd : Wd G W0 A0 w
  sim : HSim A0 μ H w
  size : a.tmps.size = env.length
  rep : ∀ t p, env[t]? = some p → Rp E A0 μ H w p (a.tmps.getD t undef)
  marks : Marks G A0 w a.defers
  nomark : yk.isSome = true → a.defers = []
  ys : Ys yk A0 μ H w env
structure Mid (fr : Bool) (A0 : Nat → Prop) (μ : Nat → Loc) (H : List (Blk E)) (w : World) (A1 : Nat → Prop) (μ' : Nat → Loc) (H' : List (Blk E)) (w' : World) : Prop where
  q : Quiet w w'
  block : fr = false → ∀ b, b < w.heap.size → ¬ Lv μ H b → w'.heap[b]? = w.heap[b]?
  lv : ∀ b, b < w.heap.size → Lv μ' H' b → Lv μ H b
  up : ∀ b, A0 b → A1 b
  used : ∀ id, Us H id → Us H' id ∧ μ' id = μ id
theorem Trans.mid {A0 : Nat → Prop} {μ μ' : Nat → Loc} {H H' : List (Blk E)} {w w' : World} {fr : Bool} (T : Trans A0 μ H w μ' H' w') : Mid fr A0 μ H w A0 μ' H' w' :=
  ⟨⟨T.os, T.tape, T.output, T.size⟩, fun _ => T.block, T.lv, fun _ h => h, T.used⟩
theorem Quiet.trans {a b c : World} (h : Quiet a b) (k : Quiet b c) : Quiet a c := ⟨k.os.trans h.os, k.tape.trans h.tape, k.output.trans h.output, Nat.le_trans h.size k.size⟩
theorem Mid.refl {A0 : Nat → Prop} {μ : Nat → Loc} {H : List (Blk E)} {w : World} {fr : Bool} : Mid fr A0 μ H w A0 μ H w := (Trans.refl _ _ _ _).mid
theorem Mid.trans {fr : Bool} {A0 A1 A2 : Nat → Prop} {μ μ1 μ2 : Nat → Loc} {H H1 H2 : List (Blk E)} {w w1 w2 : World} (h : Mid fr A0 μ H w A1 μ1 H1 w1) (k : Mid fr A1 μ1 H1 w1 A2 μ2 H2 w2) : Mid fr A0 μ H w A2 μ2 H2 w2 :=
  ⟨h.q.trans k.q, fun hf b hb hl => (k.block hf b (Nat.lt_of_lt_of_le hb h.q.size) (fun hl1 => hl (h.lv b hb hl1))).trans (h.block hf b hb hl),
    fun b hb hl => h.lv b hb (k.lv b (Nat.lt_of_lt_of_le hb h.q.size) hl), fun b hb => k.up b (h.up b hb),
    fun id hu => ⟨(k.used id (h.used id hu).1).1, (k.used id (h.used id hu).1).2.trans (h.used id hu).2⟩⟩
section
variable {C : Cfg E} {P : Program} {G : Nat → Prop} {W0 : World} {yk : Option (YK C P G W0)} {A0 : Nat → Prop} {μ : Nat → Loc} {H : List (Blk E)} {w : World} {env : List (PVal E)} {a : Act}
theorem St.slot (S : St G W0 yk A0 μ H w env a) (t : Nat) : Rp E A0 μ H w ((env[t]?).getD .any) (a.tmps.getD t undef) := by
  cases h : env[t]? with
  | none => exact .any _
  | some p => exact S.rep t p h
theorem St.eval (S : St G W0 yk A0 μ H w env a) (x : Operand) : Rp E A0 μ H w (evalO env x) (a.eval x) := by
  cases x with
  | tmp t => exact S.slot t
  | const v => exact ofConst_rep v
  | func f => exact .fn f [] #[] rfl (fun i hi => by simp at hi)
  | global g => exact .any _
theorem Wd.trans {μ' : Nat → Loc} {H' : List (Blk E)} {w' : World} (h : Wd G W0 A0 w) (S : HSim A0 μ H w) (T : Trans A0 μ H w μ' H' w') : Wd G W0 A0 w' :=
  ⟨fun b hb => Nat.lt_of_lt_of_le (h.low b hb) T.size, fun g hg => by
    obtain ⟨h1, h2⟩ := h.glob g hg
    refine ⟨h1, (T.block g (h.low g h1) ?_).trans h2⟩
    rintro ⟨id, o, n, c, hl, hm⟩
    exact (S.out id g o n c (ownB_of_live hl) hm).1 h1, h.kb⟩
theorem Marks.step {A1 : Nat → Prop} {w' : World} {ds : List Deferred} (h : Marks G A0 w ds) (hb : ∀ b, b < w.heap.size → A0 b → w'.heap[b]? = w.heap[b]?) (up : ∀ b, A0 b → A1 b) : Marks G A1 w' ds :=
  ⟨fun d hd => by
    obtain ⟨D, h1, h2, h3, h4⟩ := h.1 d hd
    exact ⟨D, h1, (hb D (Array.getElem?_eq_some_iff.1 h2).1 h3).trans h2, up D h3, h4⟩, h.2⟩
theorem Ys.trans {μ' : Nat → Loc} {H' : List (Blk E)} {w' : World} (h : Ys yk A0 μ H w env) (T : Trans A0 μ H w μ' H' w') (S' : HSim A0 μ' H' w') : Ys yk A0 μ' H' w' env := fun k hk => by
  obtain ⟨⟨tr, A, h1, h2, h3⟩, h5⟩ := h k hk
  refine ⟨⟨tr, A, h1, k.stable h2 ⟨T.os, T.tape, T.output, T.size⟩ T.block T.lv ?_, h3⟩, h5⟩
  rintro b ⟨id, o, n, c, hl, hm⟩
  have := S'.out id b o n c (ownB_of_live hl) hm
  exact ⟨this.2, fun ha => this.1 (h3 b ha)⟩
theorem St.trans {μ' : Nat → Loc} {H' : List (Blk E)} {w' : World} (S : St G W0 yk A0 μ H w env a) (T : Trans A0 μ H w μ' H' w') (S' : HSim A0 μ' H' w') : St G W0 yk A0 μ' H' w' env a :=
  ⟨S.wd.trans S.sim T, S', S.size, fun t p h => T.rep (S.rep t p h), S.marks.step (fun b hb ha => T.block b hb (fun ⟨id, o, n, c, hl, hm⟩ => (S.sim.out id b o n c (ownB_of_live hl) hm).1 ha)) (fun _ h => h), S.nomark, S.ys.trans T S'⟩
theorem St.put' (S : St G W0 yk A0 μ H w env a) {p : PVal E} {v : Value} (h : Rp E A0 μ H w p v) (d : Option Nat) (hd : yk.isSome = true → d ≠ some 0) (hy : ∀ k, yk = some k → ∀ (m i : Int), p = PVal.yld m i → m = k.y) : St G W0 yk A0 μ H w (Pe.put env d p) (a.put d v) := by
  cases d with
  | none => exact S
  | some d =>
    refine ⟨S.wd, S.sim, ?_, fun t q hq => ?_, S.marks, S.nomark, fun k hk => ?_⟩
    · show (a.tmps.setIfInBounds d v).size = (env.set d p).length
      simp [S.size]
    · replace hq : (env.set d p)[t]? = some q := hq
      show Rp E A0 μ H w q ((a.tmps.setIfInBounds d v).getD t undef)
      rw [List.getElem?_set] at hq
      split at hq
      · rename_i e
        subst e
        split at hq
        · rename_i hlt
          injection hq with hq; subst hq
          have : d < a.tmps.size := by rw [S.size]; exact hlt
          simpa [Array.getD_eq_getD_getElem?, this] using h
        · cases hq
      · rename_i hne
        have := S.rep t q hq
        rw [Array.getD_eq_getD_getElem?, Array.getElem?_setIfInBounds_ne hne, ← Array.getD_eq_getD_getElem?]
        exact this
    · obtain ⟨⟨tr, A, h1, h2, h3⟩, h5⟩ := S.ys k hk
      have hd0 : d ≠ 0 := fun e => hd (by rw [hk]; rfl) (by rw [e])
      refine ⟨⟨tr, A, ?_, h2, h3⟩, fun t m i ht => ?_⟩
      · show (env.set d p)[0]? = _
        rw [List.getElem?_set_ne hd0]; exact h1
      · replace ht : (env.set d p)[t]? = some (.yld m i) := ht
        rw [List.getElem?_set] at ht
        split at ht
        · split at ht
          · injection ht with ht; exact hy k hk m i ht
          · cases ht
        · exact h5 t m i ht
theorem St.put (S : St G W0 yk A0 μ H w env a) {p : PVal E} {v : Value} (h : Rp E A0 μ H w p v) (d : Option Nat) (hn : yk = none) : St G W0 yk A0 μ H w (Pe.put env d p) (a.put d v) :=
  S.put' h d (fun h => by rw [hn] at h; cases h) (fun k hk => by rw [hn] at hk; cases hk)
theorem noY_rep {p : PVal E} {v : Value} (h : Rp E A0 μ H w p v) : Rp E A0 μ H w (noY p) v := by
  cases p <;> first | exact h | exact .any v
theorem noY_ne {p : PVal E} {m i : Int} : noY p ≠ .yld m i := by cases p <;> simp [noY]
theorem St.refine (S : St G W0 yk A0 μ H w env a) {b : Bool} {d : Nat} {q : Den E.T .bool} (hq : (env[d]?).getD .any = .v .bool q) (h : Rp E A0 μ H w (.v .bool b) (a.tmps.getD d undef)) : St G W0 yk A0 μ H w (env.set d (.v .bool b)) a := by
  refine ⟨S.wd, S.sim, by simp [S.size], fun t q hq => ?_, S.marks, S.nomark, fun k hk => ?_⟩
  · rw [List.getElem?_set] at hq
    split at hq
    · rename_i e
      subst e
      split at hq
      · injection hq with hq; subst hq; exact h
      · cases hq
    · exact S.rep t q hq
  · obtain ⟨⟨tr, A, h1, h2, h3⟩, h5⟩ := S.ys k hk
    have hd0 : d ≠ 0 := fun e => by subst e; rw [h1] at hq; cases hq
    refine ⟨⟨tr, A, by rw [List.getElem?_set_ne hd0]; exact h1, h2, h3⟩, fun t m i ht => ?_⟩
    rw [List.getElem?_set] at ht
    split at ht
    · split at ht
      · cases ht
      · cases ht
    · exact h5 t m i ht
def callable (P : Program) (f : FuncId) : Bool := match P.funcs[f]? with
  | some fn => fn.body.isSome && !(fn.name == "runtime.NumGoroutine")
  | none => false
theorem run_callFunc {f : FuncId} (h : callable P f = true) (args : Array Value) : (callFunc f args).run P w = .ok (.enter f args) w := by
  unfold callable at h
  split at h
  · rename_i fn hf
    simp only [Bool.and_eq_true, Bool.not_eq_true'] at h
    have h2 : fn.body.isNone = false := by cases hb : fn.body <;> simp_all
    have h3 : (fn.name == "runtime.NumGoroutine") = false := h.2
    simp only [callFunc, Sem.run_bind, run_program, Result.andThen_ok, hf, h3, h2, Bool.false_eq_true, if_false, Sem.run_pure]
  · cases h
def After (G : Nat → Prop) (W0 : World) (yk : Option (YK C P G W0)) (A0 : Nat → Prop) (μ : Nat → Loc) (H : List (Blk E)) (w : World) (len : Nat) {R : Type} (K : List (PVal E) → List (Blk E) → Option R) (r : R) (N : Act → World → Prop) : Prop :=
  ∀ env' H' A1 μ' w' a', St G W0 yk A1 μ' H' w' env' a' → Mid yk.isSome A0 μ H w A1 μ' H' w' → (yk = none → A1 = A0) → env'.length = len → K env' H' = some r → N a' w'
theorem put_len (env : List (PVal E)) (d : Option Nat) (p : PVal E) : (Pe.put env d p).length = env.length := by cases d <;> simp [Pe.put]
theorem guardD_sound {R : Type} {K : Bool → List (PVal E) → Option R} {r : R} {ops : Array Oper} {o : Oper} (S : St G W0 yk A0 μ H w env a) (h : guardD ops o env K = some r) :
    ∃ env', env'.length = env.length ∧ St G W0 yk A0 μ H w env' a ∧ K (Region.wanted o (yielded ops a.tmps)) env' = some r := by
  unfold guardD at h
  split at h
  · rename_i hg
    exact ⟨env, rfl, S, by simpa [Region.wanted, hg] using h⟩
  · rename_i j want hg
    split at h
    · cases h
    · rename_i d hd
      have hs := S.slot d
      split at h
      · rename_i b hb
        rw [hb] at hs
        have hv := rep_bool hs
        have hlt : d < a.tmps.size := by
          by_cases hlt : d < a.tmps.size
          · exact hlt
          · simp [Array.getD_eq_getD_getElem?, hlt, undef] at hv
        have hy : yielded ops a.tmps j = some b := by
          have e : a.tmps[d]? = some (Value.bool b) := by
            rw [Array.getD_eq_getD_getElem?] at hv
            rw [Array.getElem?_eq_getElem hlt] at hv ⊢
            simpa using hv
          simp only [yielded, hd, Option.bind_some, e]
        cases b with
        | true =>
          refine ⟨_, by simp, S.refine (d := d) (b := true) hb (by rw [hv]; exact .v _ _ _ (.bool _)), ?_⟩
          have : Region.wanted o (yielded ops a.tmps) = want := by
            simp only [Region.wanted, hg, hy]; cases want <;> rfl
          rw [this]; exact h
        | false =>
          refine ⟨_, by simp, S.refine (d := d) (b := false) hb (by rw [hv]; exact .v _ _ _ (.bool _)), ?_⟩
          have : Region.wanted o (yielded ops a.tmps) = !want := by
            simp only [Region.wanted, hg, hy]; cases want <;> rfl
          rw [this]; exact h
      · rename_i hb
        rw [hb] at hs
        have hv : a.tmps.getD d undef = undef := by
          generalize a.tmps.getD d undef = v at hs
          cases hs; rfl
        have hy : yielded ops a.tmps j = none := by
          simp only [yielded, hd, Option.bind_some]
          cases e : a.tmps[d]? with
          | none => rfl
          | some v =>
            rw [Array.getD_eq_getD_getElem?, e] at hv
            have hv : v = undef := hv
            subst hv; rfl
        refine ⟨env, rfl, S, ?_⟩
        have : Region.wanted o (yielded ops a.tmps) = false := by
          simp only [Region.wanted, hg, hy]; rfl
        rw [this]; exact h
      · cases h
theorem resV_rep {ps : List (PVal E)} {vs : List Value} (h : RL (Rp E A0 μ H w) ps vs) : Rp E A0 μ H w (resultP ps) (resV vs) := by
  match ps, vs, h with
  | [], [], h => exact RepP.tupleL h
  | [p], [v], h => exact h.2 0 p v rfl rfl
  | p :: q :: ps, u :: v :: vs, h => exact RepP.tupleL h
  | [], _ :: _, h => have := h.1; simp at this
  | _ :: _, [], h => have := h.1; simp at this
  | [_], _ :: _ :: _, h => have := h.1; simp at this
  | _ :: _ :: _, [_], h => have := h.1; simp at this
def SpecsOk (C : Cfg E) (G : Nat → Prop) (W0 : World) : Prop := ∀ f s, s ∈ C.specs f → callable C.P f = true ∧ Sound C.P G W0 f s
theorem callSpec_sound {f : FuncId} {s : Spec E} {args : List (PVal E)} {vs : List Value} {fresh : Nat} {R : Type} {K : PVal E → List (Blk E) → Option R} {r : R} (hs : Sound P G W0 f s) (wd : Wd G W0 A0 w) (S : HSim A0 μ H w)
    (hr : RL (Rp E A0 μ H w) args vs) (h : callSpec s fresh args H K = some r) :
    Calls P f vs.toArray w fun e w' => ∃ v p H' μ', e = .returned v ∧ Trans A0 μ H w μ' H' w' ∧ HSim A0 μ' H' w' ∧ Rp E A0 μ' H' w' p v ∧ K p H' = some r := by
  unfold callSpec at h
  split at h
  rotate_left
  · cases h
  rename_i x ρ fz hrd
  simp only [Option.bind_eq_some_iff] at h
  obtain ⟨y, hy, h⟩ := h
  split at h
  rotate_left
  · cases h
  rename_i H' hpb
  split at h
  rotate_left
  · cases h
  rename_i hc
  simp only [Bool.and_eq_true] at hc
  obtain ⟨⟨Ac, ab⟩, _⟩ := readS_sound S hr hrd
  have wdc : Wd G W0 Ac w := ⟨fun b hb => by
    rcases ab.down b hb with h | ⟨id, o, n, c, hl, hm⟩
    · exact wd.low b h
    · exact (S.out id b o n c (ownB_of_live hl) hm).2, fun g hg => ⟨ab.up g (wd.glob g hg).1, (wd.glob g hg).2⟩, fun b hb => ab.up b (wd.kb b hb)⟩
  refine Calls.mono (hs Ac (ρ.loc μ) w vs.toArray x y wdc ab.sim (by simpa using ab.rep) hy) ?_
  rintro e w' ⟨vs', A1, μ1, rfl, oc⟩
  obtain ⟨μ', T, S', hrep⟩ := call_back S wd.low wd.kb ab oc hc.1 hc.2 hpb
  exact ⟨_, _, H', μ', rfl, T, S', resV_rep hrep, h⟩
theorem upTo {ro : Option Nat} {n : Nat} {o : Oper} {a : Act} {N : Act → World → Prop} {Q : Exit → Act → World → Prop} (hnd : ∀ c, o.op ≠ .defer c) (h : o.uponIn (wideR ro) n P a N Q ((execOp a.eval o).run P w)) : o.wpIn (wideR ro) n P a w N Q :=
  ⟨fun f _ => wideR_fn ro f, by rw [Oper.semAt_eq _ _ _ hnd]; exact h⟩
theorem stepP_sound (hP : C.P = P) (hT : tabB E.leaves C.P C.tab = true) (hS : SpecsOk C G W0) {R : Type} {K : PVal E → List (Blk E) → Option R} {r : R} {rid i fresh spare : Nat} {o : Oper} {ro : Option Nat} {n : Nat}
    {Q : Exit → Act → World → Prop} {N : Act → World → Prop} (S : St G W0 yk A0 μ H w env a) (h : stepP C rid i fresh spare o env H K = some r)
    (hN : ∀ p v H' μ' w', Rp E A0 μ' H' w' p v → Trans A0 μ H w μ' H' w' → HSim A0 μ' H' w' → K p H' = some r → N (a.put o.dst v) w') : o.wpIn (wideR ro) n P a w N Q := by
  subst hP
  unfold stepP at h
  split at h
  · -- a call
    rename_i f args hcal
    have key : ∀ l : List Nat, tryS (C.specs f) fresh args H K l = some r → ∃ s, s ∈ C.specs f ∧ callSpec s fresh args H K = some r := by
      intro l
      induction l with
      | nil => intro h; simp [tryS] at h
      | cons k ks ih =>
        intro h
        cases ks with
        | nil =>
          simp only [tryS] at h
          split at h
          · rename_i s hs; exact ⟨s, List.mem_of_getElem? hs, h⟩
          · cases h
        | cons k2 ks =>
          simp only [tryS] at h ih
          split at h
          · rename_i s hs
            rw [Option.or_eq_some_iff] at h
            rcases h with h | ⟨_, h⟩
            · exact ⟨s, List.mem_of_getElem? hs, h⟩
            · exact ih h
          · cases h
    obtain ⟨s, hs, hspec⟩ := key _ h
    clear h key
    obtain ⟨hcl, hsd⟩ := hS f s hs
    unfold calleeOf at hcal
    split at hcal
    rotate_left
    · cases hcal
    rename_i fo argso argTypes hop
    have fin : ∀ (g : FuncId) (pargs : List (PVal E)) (vargs : List Value), some (g, pargs) = some (f, args) → RL (Rp E A0 μ H w) pargs vargs → (execOp a.eval o).run C.P w = (callFunc g vargs.toArray).run C.P w → o.wpIn (wideR ro) n C.P a w N Q := by
      intro g pargs vargs e hargs hrun
      cases e
      have hc := callSpec_sound hsd S.wd S.sim hargs hspec
      refine upTo (fun c => by rw [hop]; simp) ?_
      rw [hrun, run_callFunc hcl _, Oper.uponIn_enter]
      refine ⟨fun h => (by rw [wideR_depth] at h; cases h), calls_wide (Calls.mono hc ?_)⟩
      rintro e w' ⟨v, p, H', μ', rfl, T, S2, hp, hk⟩
      exact hN _ _ _ _ _ hp T S2 hk
    have hf := S.eval fo
    split at hcal
    · rename_i g caps hev
      rw [hev] at hf
      generalize hfv : a.eval fo = fv at hf
      cases hf with
      | fn _ _ cs hsz hcs =>
        refine fin g _ (argso.toList.map a.eval ++ cs.toList) hcal ((vals_rep (fun x => S.eval x) _).append (RL.of_idx hsz hcs)) ?_
        have e : (#[] ++ Array.map a.eval argso ++ cs) = (argso.toList.map a.eval ++ cs.toList).toArray := by apply Array.toList_inj.1; simp
        simp only [execOp, hop, resolve, hfv, Deferred.ofValue, Sem.run_bind, Sem.run_pure, Result.andThen_ok, invoke, e]
    · rename_i g first hev
      rw [hev] at hf
      generalize hfv : a.eval fo = fv at hf
      cases hf with
      | bfn _ _ cs hsz hcs =>
        refine fin g _ (cs.toList ++ argso.toList.map a.eval) hcal ((RL.of_idx hsz hcs).append (vals_rep (fun x => S.eval x) _)) ?_
        have e : (cs ++ Array.map a.eval argso ++ #[]) = (cs.toList ++ argso.toList.map a.eval).toArray := by apply Array.toList_inj.1; simp
        simp only [execOp, hop, resolve, hfv, Deferred.ofValue, Sem.run_bind, Sem.run_pure, Result.andThen_ok, invoke, e]
    · cases hcal
  · -- an operation
    rename_i hcal
    generalize (if Nat.beq (need o.op) 0 = true then spare else fresh) = g at h
    simp only at h
    split at h
    rotate_left
    · cases h
    rename_i hfr
    have hf0 := freeB_spec _ _ hfr 0 (by omega)
    simp only [Nat.add_zero] at hf0
    have hnd : ∀ c, o.op ≠ .defer c := fun c e => by rw [e] at h; simp [opD, Dec.cps] at h
    obtain ⟨p, H', m, v, w', μ', hrun, hn, T, S2, hp, hk⟩ := opD_sound (o := o) hT S.sim ⟨hf0.1, hf0.2, S.wd.low⟩ (fun x => S.eval x) (fun _ => rfl) h
    have fin := hN _ _ _ _ _ hp T S2 hk
    refine upTo hnd ?_
    rw [hrun]
    rcases hn with rfl | ⟨rfl, rfl⟩
    · exact fin
    · exact fin
theorem stepO_sound (hP : C.P = P) (hT : tabB E.leaves C.P C.tab = true) (hS : SpecsOk C G W0) (hyl : C.yl = yk.isSome) {R : Type} {K : List (PVal E) → List (Blk E) → Option R} {r : R} {rid i fresh spare : Nat} {ops : Array Oper} {o : Oper} {ro : Option Nat} {n : Nat} (hro : yk.isSome = true → ro = none)
    {Q : Exit → Act → World → Prop} {N : Act → World → Prop} (ho : ops[i]? = some o) (hd : yk.isSome = true → o.dst ≠ some 0) (S : St G W0 yk A0 μ H w env a) (h : stepO C (noInl _) rid i fresh spare ops o env H K = some r)
    (hN : After G W0 yk A0 μ H w env.length K r N) : wpOpIn (wideR ro) n P ops Q i N a w := by
  unfold stepO at h
  obtain ⟨env', hlen, S', h⟩ := guardD_sound S h
  unfold wpOpIn
  rw [ho]
  simp only
  have same : yk = none → A0 = A0 := fun _ => rfl
  cases hw : Region.wanted o (yielded ops a.tmps) with
  | false =>
    rw [hw] at h
    simp only [Bool.false_eq_true, if_false] at h ⊢
    exact ⟨fun f _ => wideR_fn ro f, hN _ _ _ _ _ _ (S'.put' .skip o.dst hd (fun k _ m i h => by cases h)) Mid.refl same (by rw [put_len, hlen]) h⟩
  | true =>
    rw [hw] at h
    simp only [if_true] at h ⊢
    cases hyk : yk with
    | none =>
      rw [hyl, hyk] at h
      simp only [Option.isSome_none, Bool.false_eq_true, if_false] at h
      refine stepP_sound hP hT hS S' h ?_
      intro p v H' μ' w' hp T S2 hk
      exact hN _ _ _ _ _ _ ((S'.trans T S2).put hp o.dst hyk) T.mid (fun _ => rfl) (by rw [put_len, hlen]) hk
    | some k =>
      have hys : yk.isSome = true := by rw [hyk]; rfl
      obtain rfl := hro hys
      rw [hyl, hys] at h
      simp only [if_true] at h
      unfold stepY at h
      obtain ⟨⟨tr, A, y1, y2, y3⟩, y5⟩ := S'.ys k hyk
      split at h
      · -- the first slot
        rename_i hop
        refine upTo (fun c => by rw [hop]; simp) ?_
        have hv : (execOp a.eval o).run P w = .ok (.value (a.eval (.tmp 0))) w := by simp [execOp, hop]
        rw [hv, Oper.uponIn_value]
        refine hN _ _ _ _ _ _ (S'.put' (S'.slot 0) o.dst hd (fun k' hk' m i hm => ?_)) Mid.refl same (by rw [put_len, hlen]) h
        rw [hyk] at hk'; cases hk'
        rw [y1] at hm
        simp only [Option.getD_some, PVal.yld.injEq] at hm
        exact hm.1.symm
      · split at h
        · -- it yields
          rename_i x hyo
          rw [y1] at h
          simp only [Option.getD_some] at h
          unfold yieldOf at hyo
          split at hyo
          rotate_left
          · cases hyo
          rename_i fo argso argTypes hop
          split at hyo
          rotate_left
          · cases hyo
          rename_i m0 i0 xo hev hargs
          injection hyo with hyo
          subst hyo
          have hf := S'.eval fo
          have hm : m0 = k.y := by
            cases fo with
            | tmp t =>
              simp only [evalO] at hev
              cases ht : env'[t]? with
              | none => rw [ht] at hev; cases hev
              | some p => rw [ht] at hev; simp only [Option.getD_some] at hev; subst hev; exact y5 t m0 i0 ht
            | const c =>
              simp only [evalO] at hev
              unfold ofConst at hev
              split at hev <;> first | (cases hev; done) | (split at hev <;> cases hev)
            | func f => cases hev
            | global g => cases hev
          subst hm
          rw [hev] at hf
          generalize hfv : a.eval fo = fv at hf
          cases hf
          obtain ⟨z, H', T, S2, hz, _, hk⟩ := typed_sound S'.sim (S'.eval xo) h
          simp only [Dec.cps] at hk
          split at hk
          rotate_left
          · cases hk
          rename_i hown
          simp only [Option.bind_eq_some_iff] at hk
          obtain ⟨_, hnext, hk⟩ := hk
          have hnx : C.yd[tr]? = some z := by
            unfold isNext at hnext
            split at hnext
            · rename_i hc; simpa using hc.2
            · cases hnext
          have S3 := S'.trans T S2
          obtain ⟨⟨tr2, A2, q1, q2, q3⟩, q5⟩ := S3.ys k hyk
          have e1 : tr2 = tr := by rw [y1] at q1; simp only [Option.some.injEq, PVal.yld.injEq] at q1; omega
          subst e1
          have hzA : RepT E w (fun b => (A2 b ∧ ¬ Kb b) ∨ Lv μ H' b) C.ye (a.eval xo) z := hz.less (fun b hb => hb.elim (fun h => .inl ⟨q3 b h.1, h.2⟩) .inr)
          obtain ⟨fn, tmps, assign, body, hyr, hround⟩ := k.yield_ (n - 1) _ z hnx q2 hzA
          have eargs : argso = #[xo] := by
            have : argso.toList = [xo] := hargs
            rw [← this]
          refine upTo (fun c => by rw [hop]; simp) ?_
          have hrun : (execOp a.eval o).run P w = .ok (.round k.y.toNat fn tmps assign body) w := by
            have e : (#[] ++ Array.map a.eval argso) = #[a.eval xo] := by rw [eargs]; apply Array.toList_inj.1; simp
            simp only [execOp, hop, resolve, hfv, Deferred.ofValue, Sem.run_bind, Sem.run_pure, Result.andThen_ok, invoke, Array.append_empty]
            rw [e]; exact hyr
          rw [hrun, Oper.uponIn_round]
          refine ⟨fun h => (by rw [wideR_depth] at h; cases h), ?_⟩
          obtain ⟨hr1, hr2⟩ := hround
          refine ⟨hr1, fun c cs hroom => ?_⟩
          obtain ⟨e, w', ⟨rfl, A3, j1, j2, j3, j4, j5, j6⟩, hcm⟩ := hr2 c cs hroom
          refine ⟨.returned (.bool true), w', ?_, hcm⟩
          let A1 : Nat → Prop := fun b => A0 b ∨ A3 b
          have hsz := j4.size
          have heap : ∀ b, b < w.heap.size → ¬ A0 b ∨ Kb b → w'.heap[b]? = w.heap[b]? := fun b hb ha => j5 b hb (ha.elim (fun ha => .inl fun h => ha (q3 b h)) .inr)
          have hA1 : ∀ b, A1 b → A0 b ∨ w.heap.size ≤ b := by
            rintro b (h | h)
            · exact .inl h
            · rcases j3 b h with h | h
              · exact .inl (q3 b h)
              · exact .inr h
          have hlv : ∀ b, Lv μ H' b → b < w.heap.size ∧ ¬ A0 b := by
            rintro b ⟨id, o', n', c', hl, hm⟩
            have := S2.out id b o' n' c' (ownB_of_live hl) hm
            exact ⟨this.2, this.1⟩
          have hav : ∀ b, b < w.heap.size → ¬ Av A0 μ H' b → w'.heap[b]? = w.heap[b]? ∧ ¬ Av A1 μ H' b := by
            intro b hb hA
            refine ⟨heap b hb ((Classical.em (Kb b)).elim .inr fun hk => .inl fun h => hA (.inl ⟨h, hk⟩)), ?_⟩
            rintro (⟨h, hk⟩ | h)
            · rcases hA1 b h with h | h
              · exact hA (.inl ⟨h, hk⟩)
              · omega
            · exact hA (.inr h)
          have repm : ∀ {p : PVal E} {v : Value}, Rp E A0 μ H' w p v → Rp E A1 μ H' w' p v := fun h => h.mono hsz hav (fun id hu => ⟨hu, rfl⟩)
          have repTm : ∀ {τ : Ty} {v : Value} {x : Den E.T τ}, RepT E w (Av A0 μ H') τ v x → RepT E w' (Av A1 μ H') τ v x := fun h => h.mono hsz hav
          have own : ∀ id, memB (getB H' id) = true → ownB (getB H' id) = true := by
            intro id hm
            have hlt := lt_of_used (usedB_of_mem hm)
            have hg : getB H' id = H'[id] := by unfold getB; rw [List.getElem?_eq_getElem hlt]; rfl
            have := List.all_eq_true.1 hown _ (List.getElem_mem hlt)
            rw [hg] at hm ⊢
            cases hB : H'[id] <;> simp_all [memB, ownB]
          have keep : ∀ id b o n c, memB (getB H' id) = true → μ id = .blk b o n c → w'.heap[b]? = w.heap[b]? := by
            intro id b o' n' c' hm hμ
            exact heap b (BlkOk.lt (S2.ok id) hm hμ) (.inl (S2.out id b o' n' c' (own id hm) hμ).1)
          have sim : HSim A1 μ H' w' := by
            refine ⟨fun id => ?_, S2.inj, fun id b o' n' c' ho hμ => ?_⟩
            · have r := S2.ok id
              have hk' := keep id
              generalize μ id = l at r hk'
              generalize getB H' id = B at r hk'
              cases B with
              | free => trivial
              | dead => trivial
              | box wr cs =>
                obtain ⟨b, len, cap, c, hl, hbox, hsz', hr⟩ := r
                exact ⟨b, len, cap, c, hl, hbox.keep (hk' b 0 len cap rfl hl), hsz', fun j hj => ⟨repm (hr j hj).1, (hr j hj).2⟩⟩
              | row wr e xs =>
                rcases r with ⟨b, off, cap, c, vs, hl, hbox, h1, h2, h3, h4⟩ | ⟨h1, a, h2⟩
                · exact .inl ⟨b, off, cap, c, vs, hl, hbox.keep (hk' b off xs.length cap rfl hl), h1, h2, h3, fun i hi => repTm (h4 i hi)⟩
                · exact .inr ⟨h1, a, h2⟩
              | map wr es =>
                obtain ⟨b, ms, clock, hl, hm, hsz', hr⟩ := r
                exact ⟨b, ms, clock, hl, (hk' b 0 0 0 rfl hl).trans hm, hsz', fun j hj => ⟨repm (hr j hj).1, repm (hr j hj).2⟩⟩
            · have := S2.out id b o' n' c' ho hμ
              refine ⟨fun h => ?_, by omega⟩
              rcases hA1 b h with h | h
              · exact this.1 h
              · omega
          have h0 := S3.rep 0 _ q1
          have S4 : St G W0 yk A1 μ H' w' (env'.set 0 (.yld k.y ((tr2 : Int) + 1))) a := by
            refine ⟨⟨?_, fun g hg => ⟨.inl (S3.wd.glob g hg).1, j6 g hg⟩, fun b hb => .inl (S3.wd.kb b hb)⟩, sim, by rw [S3.size]; simp, fun t p hp => ?_, ?_, S3.nomark, fun k' hk' => ?_⟩
            · rintro b (h | h)
              · have := S3.wd.low b h; omega
              · exact k.low j1 b h
            · rw [List.getElem?_set] at hp
              split at hp
              · rename_i e; subst e
                split at hp
                · injection hp with hp; subst hp
                  generalize a.tmps.getD 0 undef = v0 at h0 ⊢
                  cases h0
                  exact .yld _ _
                · cases hp
              · exact repm (S3.rep t p hp)
            · rw [S3.nomark hys]; exact ⟨fun d hd => by simp at hd, List.Pairwise.nil⟩
            · rw [hyk] at hk'; cases hk'
              have hlt : 0 < env'.length := (List.getElem?_eq_some_iff.1 q1).1
              refine ⟨⟨tr2 + 1, A3, by simp [hlt], j1, fun b hb => .inr hb⟩, fun t m i ht => ?_⟩
              rw [List.getElem?_set] at ht
              split at ht
              · simp only [hlt, if_true, Option.some.injEq, PVal.yld.injEq] at ht
                exact ht.1.symm
              · exact q5 t m i ht
          refine hN _ _ _ _ _ _ (S4.put' (.v _ _ _ (.bool true)) o.dst hd (fun k _ m i hm => by cases hm)) (T.mid.trans ⟨j4, fun h => ?_, fun _ _ h => h, fun _ h => .inl h, fun _ hu => ⟨hu, rfl⟩⟩) (fun h => by rw [hyk] at h; cases h) (by rw [put_len]; simpa using hlen) hk
          rw [hys] at h; cases h
        · refine stepP_sound hP hT hS S' h ?_
          intro p v H' μ' w' hp T S2 hk
          exact hN _ _ _ _ _ _ ((S'.trans T S2).put' (noY_rep hp) o.dst hd (fun k _ m i hm => absurd hm noY_ne)) T.mid (fun _ => rfl) (by rw [put_len, hlen]) hk
end
end Go.Pe
namespace Go.Pe
variable {E : Types}
theorem opD_congr {tab : List (Nat × TI)} {mv : Bool} {fresh : Nat} {ρ ρ' : Operand → PVal E} (o : Op) (h : ∀ x ∈ o.operands, ρ x = ρ' x) : opD tab mv fresh ρ o = opD tab mv fresh ρ' o := by
  have pairs : ∀ ps : Array (Nat × Operand), (∀ x ∈ (ps.toList.map (·.2)).toArray, ρ x = ρ' x) → (ps.toList.map fun p => (p.1, ρ p.2)) = ps.toList.map fun p => (p.1, ρ' p.2) := fun ps hp =>
    List.map_congr_left fun p hm => by rw [hp p.2 (by simpa using ⟨p.1, (by simpa using hm)⟩)]
  have vals : ∀ ps : Array Operand, (∀ x ∈ ps, ρ x = ρ' x) → ps.toList.map ρ = ps.toList.map ρ' := fun ps hp => List.map_congr_left fun p hm => hp p (by simpa using hm)
  cases o with
  | build t ps => simp only [Op.operands] at h; simp only [opD, pairs ps h]
  | buildSlice t n ps => simp only [Op.operands] at h; simp only [opD, pairs ps h]
  | makeFunc fn first captured =>
    simp only [Op.operands] at h
    cases fn <;> simp only [opD]
    rw [vals captured fun x hx => h x (by simp [hx]), vals first fun x hx => h x (by simp [hx])]
  | slice t x lo hi mx =>
    simp only [Op.operands] at h
    have hx := h x (by simp)
    cases lo <;> cases hi <;> cases mx <;> simp_all [opD]
  | call c =>
    obtain ⟨callee, args, argTypes⟩ := c
    simp only [Op.operands] at h
    have hargs : ∀ x ∈ args, ρ x = ρ' x := fun x hx => h x (by simp [Call.operands, hx])
    have hv := vals args hargs
    cases callee with
    | value f => rfl
    | invoke r m => rfl
    | builtin b =>
      cases b <;> first | rfl | (simp only [opD, hv]; done) | skip
      · simp only [opD]
        have : ∀ x ∈ args.toList, ρ x = ρ' x := fun x hx => hargs x (by simpa using hx)
        revert this
        generalize args.toList = l
        intro this
        generalize argTypes.toList = tl
        rcases tl with _ | ⟨t1, _ | ⟨t2, _ | ⟨t3, tl⟩⟩⟩
        · rfl
        · rfl
        · rcases l with _ | ⟨x, _ | ⟨y, _ | ⟨z, l⟩⟩⟩
          · rfl
          · rfl
          · simp only [this x (by simp), this y (by simp)]
          · rfl
        · rfl
      · simp only [opD]
        have : ∀ x ∈ args.toList, ρ x = ρ' x := fun x hx => hargs x (by simpa using hx)
        revert this
        generalize args.toList = l
        intro this
        generalize argTypes.toList = tl
        rcases tl with _ | ⟨t1, _ | ⟨t2, _ | ⟨t3, tl⟩⟩⟩
        · rfl
        · rfl
        · rcases l with _ | ⟨x, _ | ⟨y, _ | ⟨z, l⟩⟩⟩
          · rfl
          · rfl
          · simp only [this x (by simp), this y (by simp)]
          · rfl
        · rfl
      · simp only [opD]
        cases e1 : args[0]? with
        | none => cases argTypes[0]? <;> rfl
        | some x =>
          have : x ∈ args := Array.mem_of_getElem? e1
          cases argTypes[0]? with
          | none => rfl
          | some t => simp only [hargs x this]
  | makeMap t r => cases r <;> rfl
  | _ => simp only [Op.operands] at h; first | rfl | (simp only [opD]; simp_all; done) | simp_all [opD]
theorem calleeOf_congr {env env' : List (PVal E)} (o : Op) (h : ∀ x ∈ o.operands, evalO env x = evalO env' x) : calleeOf env o = calleeOf env' o := by
  unfold calleeOf
  split
  · rename_i f args argTypes
    have hf : evalO env f = evalO env' f := h f (by simp [Op.operands, Call.operands])
    have ha : args.toList.map (evalO env) = args.toList.map (evalO env') := List.map_congr_left fun p hm => h p (by simp [Op.operands, Call.operands]; exact .inr (by simpa using hm))
    rw [hf]
    simp only [ha]
  · rfl
theorem cpsL_frame {α R : Type} {r : R} : ∀ (d : Dec E α) {H : List (Blk E)} {rs0 ws0 : List Nat} {K : α → List (Blk E) → List Nat → List Nat → Option R}, d.cpsL H rs0 ws0 K = some r →
    ∃ a H' rs ws, K a H' rs ws = some r ∧ (∀ i ∈ rs0, i ∈ rs) ∧ (∀ i ∈ ws0, i ∈ ws) ∧ H'.length = H.length ∧ (∀ id, id ∉ ws → getB H' id = getB H id) ∧
      ∀ H1 : List (Blk E), H1.length = H.length → (∀ id, id ∈ rs ∨ id ∈ ws → getB H1 id = getB H id) →
        ∃ H1', (∀ {R2 : Type} (K2 : α → List (Blk E) → Option R2), d.cps H1 K2 = K2 a H1') ∧ H1'.length = H1.length ∧ (∀ id, id ∈ rs ∨ id ∈ ws → getB H1' id = getB H' id) ∧ ∀ id, id ∉ ws → getB H1' id = getB H1 id
  | .ret a, H, rs0, ws0, K, h => ⟨a, H, rs0, ws0, h, fun _ h => h, fun _ h => h, rfl, fun _ _ => rfl, fun H1 hl hg => ⟨H1, fun _ => rfl, rfl, hg, fun _ _ => rfl⟩⟩
  | .fail, H, rs0, ws0, K, h => by simp [Dec.cpsL] at h
  | .br b t e, H, rs0, ws0, K, h => by
    cases b with
    | true =>
      obtain ⟨a, H', rs, ws, h1, h2, h3, h4, h5, h6⟩ := cpsL_frame t (K := K) (by simpa [Dec.cpsL] using h)
      exact ⟨a, H', rs, ws, h1, h2, h3, h4, h5, fun H1 hl hg => by
        obtain ⟨H1', k1, k2⟩ := h6 H1 hl hg
        exact ⟨H1', fun K2 => by simpa [Dec.cps] using k1 K2, k2⟩⟩
    | false =>
      obtain ⟨a, H', rs, ws, h1, h2, h3, h4, h5, h6⟩ := cpsL_frame e (K := K) (by simpa [Dec.cpsL] using h)
      exact ⟨a, H', rs, ws, h1, h2, h3, h4, h5, fun H1 hl hg => by
        obtain ⟨H1', k1, k2⟩ := h6 H1 hl hg
        exact ⟨H1', fun K2 => by simpa [Dec.cps] using k1 K2, k2⟩⟩
  | .any k, H, rs0, ws0, K, h => by simp [Dec.cpsL] at h
  | .opt β o k, H, rs0, ws0, K, h => by
    simp only [Dec.cpsL, Option.bind_eq_some_iff] at h
    obtain ⟨x, hx, h⟩ := h
    obtain ⟨a, H', rs, ws, h1, h2, h3, h4, h5, h6⟩ := cpsL_frame (k x) h
    exact ⟨a, H', rs, ws, h1, h2, h3, h4, h5, fun H1 hl hg => by
      obtain ⟨H1', k1, k2⟩ := h6 H1 hl hg
      exact ⟨H1', fun K2 => by simp only [Dec.cps, hx, Option.bind_some]; exact k1 K2, k2⟩⟩
  | .rd id k, H, rs0, ws0, K, h => by
    simp only [Dec.cpsL] at h
    obtain ⟨a, H', rs, ws, h1, h2, h3, h4, h5, h6⟩ := cpsL_frame (k (getB H id)) h
    refine ⟨a, H', rs, ws, h1, fun i hi => h2 i (List.mem_cons_of_mem _ hi), h3, h4, h5, fun H1 hl hg => ?_⟩
    obtain ⟨H1', k1, k2⟩ := h6 H1 hl hg
    exact ⟨H1', fun K2 => by simp only [Dec.cps, hg id (.inl (h2 id (List.mem_cons_self ..)))]; exact k1 K2, k2⟩
  | .wr id b k, H, rs0, ws0, K, h => by
    simp only [Dec.cpsL] at h
    cases hlt : Nat.blt id H.length with
    | false => simp [hlt] at h
    | true =>
      simp only [hlt, cond_true] at h
      have hlt' : id < H.length := Nat.le_of_ble_eq_true hlt
      obtain ⟨a, H', rs, ws, h1, h2, h3, h4, h5, h6⟩ := cpsL_frame k h
      have hid : id ∈ ws := h3 id (List.mem_cons_self ..)
      refine ⟨a, H', rs, ws, h1, h2, fun i hi => h3 i (List.mem_cons_of_mem _ hi), by rw [h4]; simp, fun i hi => ?_, fun H1 hl hg => ?_⟩
      · rw [h5 i hi, getB_set_ne _ _ (fun e : id = i => hi (by rw [← e]; exact hid))]
      · obtain ⟨H1', k1, k2, k3, k4⟩ := h6 (H1.set id b) (by simp [hl]) (fun i hi => by
          rw [getB_set _ _ _ _ (by rw [hl]; exact hlt'), getB_set _ _ _ _ hlt']
          split
          · rfl
          · exact hg i hi)
        refine ⟨H1', fun K2 => ?_, by rw [k2]; simp, k3, fun i hi => ?_⟩
        · simp only [Dec.cps]
          rw [blt_bif (by rw [hl]; exact hlt')]
          exact k1 K2
        · rw [k4 i hi, getB_set_ne _ _ (fun e : id = i => hi (by rw [← e]; exact hid))]
theorem readK_le : ∀ (k : SK) (p : PVal E) (s s' : Ren × List (PVal E)), readK k p s = some s' → s.1.le s'.1 := by
  have bnd : ∀ {ρ : Ren} {j : Nat} {x : Option Nat} {l : List (PVal E)} {s' : Ren × List (PVal E)}, (ρ.bind j x).map (fun ρ => (ρ, l)) = some s' → ρ.le s'.1 := by
    intro ρ j x l s' h
    simp only [Option.map_eq_some_iff] at h
    obtain ⟨ρ', h1, rfl⟩ := h
    exact (Ren.bind_some h1).1
  intro k
  refine SK.rec (motive_1 := fun k => ∀ (p : PVal E) (s s' : Ren × List (PVal E)), readK k p s = some s' → s.1.le s'.1)
    (motive_2 := fun ks => ∀ (ps : List (PVal E)) (s s' : Ren × List (PVal E)), readKs ks ps s = some s' → s.1.le s'.1) ?_ ?_ ?_ ?_ ?_ ?_ ?_ ?_ ?_ ?_ ?_ k
  · intro p s s' h; simp only [readK, Option.some.injEq] at h; subst h; exact Ren.le_refl _
  · intro τ p s s' h; simp only [readK, Option.some.injEq] at h; subst h; exact Ren.le_refl _
  · intro j p s s' h
    cases p <;> simp only [readK, reduceCtorEq] at h
    split at h
    · exact bnd h
    · cases h
  · intro j p s s' h
    cases p <;> simp only [readK, reduceCtorEq] at h <;> exact bnd h
  · intro f ks ih p s s' h
    cases p <;> simp only [readK, reduceCtorEq] at h
    split at h
    · exact ih _ _ _ h
    · cases h
  · intro j n p s s' h
    cases p <;> simp only [readK, reduceCtorEq] at h
    split at h
    · exact bnd h
    · cases h
  · intro p s s' h
    cases p <;> simp only [readK, reduceCtorEq, Option.some.injEq] at h
    subst h; exact Ren.le_refl _
  · intro j p s s' h
    cases p <;> simp only [readK, reduceCtorEq] at h <;> exact bnd h
  · intro p s s' h
    cases p <;> simp only [readK, reduceCtorEq] at h
    simp only [Option.some.injEq] at h; subst h; exact Ren.le_refl _
  · intro ps s s' h
    cases ps <;> simp only [readKs, reduceCtorEq, Option.some.injEq] at h
    subst h; exact Ren.le_refl _
  · intro k ks h1 h2 ps s s' h
    cases ps with
    | nil => simp [readKs] at h
    | cons p ps =>
      simp only [readKs] at h
      split at h
      · rename_i s1 e
        exact (h1 _ _ _ e).trans (h2 _ _ _ h)
      · cases h
theorem readKs_le : ∀ (ks : List SK) (ps : List (PVal E)) (s s' : Ren × List (PVal E)), readKs ks ps s = some s' → s.1.le s'.1
  | [], ps, s, s', h => by
    cases ps <;> simp only [readKs, reduceCtorEq, Option.some.injEq] at h
    subst h; exact Ren.le_refl _
  | k :: ks, [], s, s', h => by simp [readKs] at h
  | k :: ks, p :: ps, s, s', h => by
    simp only [readKs] at h
    split at h
    · rename_i s1 e
      exact (readK_le _ _ _ _ e).trans (readKs_le _ _ _ _ h)
    · cases h
end Go.Pe
namespace Go.Pe
variable {E : Types} {H H1 : List (Blk E)}
theorem readBs_le : ∀ (bs : List BK) (j : Nat) (s s' : Ren × List (PVal E)), readBs H bs j s = some s' → s.1.le s'.1
  | [], j, s, s', h => by simp only [readBs, Option.some.injEq] at h; subst h; exact Ren.le_refl _
  | .gone :: bs, j, s, s', h => by simp only [readBs] at h; exact readBs_le bs _ _ _ h
  | .box wr ks :: bs, j, s, s', h => by
    simp only [readBs] at h
    split at h
    · split at h
      · rename_i e2 _; cases e2
        split at h
        rotate_left
        · cases h
        split at h
        rotate_left
        · cases h
        rename_i s1 h1
        exact (readKs_le _ _ _ _ h1).trans (readBs_le bs _ _ _ h)
      · rename_i e2 _; cases e2
      · rename_i e2 _; cases e2
      · cases h
    · cases h
    · cases h
  | .map ek :: bs, j, s, s', h => by
    simp only [readBs] at h
    split at h
    · split at h
      · rename_i e2 _; cases e2
      · rename_i e2 _; cases e2
      · rename_i e2 _; cases e2
        split at h
        rotate_left
        · cases h
        split at h
        rotate_left
        · cases h
        rename_i s1 h1
        exact (readKs_le _ _ _ _ h1).trans (readBs_le bs _ _ _ h)
      · cases h
    · cases h
    · cases h
  | .row wr e :: bs, j, s, s', h => by
    simp only [readBs] at h
    split at h
    · split at h
      · rename_i e2 _; cases e2
      · rename_i e2 _; cases e2
        split at h
        rotate_left
        · cases h
        split at h
        rotate_left
        · cases h
        have := readBs_le bs _ _ _ h
        exact this
      · rename_i e2 _; cases e2
      · cases h
    · have := readBs_le bs _ _ _ h
      exact this
    · cases h
theorem readBs_agree : ∀ (bs : List BK) (j : Nat) (s s' : Ren × List (PVal E)), readBs H bs j s = some s' → (∀ id ∈ s'.1.ids, getB H1 id = getB H id) → readBs H1 bs j s = some s'
  | [], j, s, s', h, hg => h
  | .gone :: bs, j, s, s', h, hg => by simp only [readBs] at h ⊢; exact readBs_agree bs _ _ _ h hg
  | .box wr ks :: bs, j, s, s', h, hg => by
    have hle := readBs_le _ _ _ _ h
    simp only [readBs] at h ⊢
    split at h
    · rename_i id hget
      rw [hg id (Ren.get_ids (hle _ _ hget))]
      split at h
      · rename_i e2 hB
        cases e2
        split at h
        rotate_left
        · cases h
        rename_i hc
        rw [if_pos hc]
        split at h
        rotate_left
        · cases h
        rename_i s1 h1
        exact readBs_agree bs _ _ _ h hg
      · rename_i e2 _; cases e2
      · rename_i e2 _; cases e2
      · cases h
    · cases h
    · cases h
  | .map ek :: bs, j, s, s', h, hg => by
    have hle := readBs_le _ _ _ _ h
    simp only [readBs] at h ⊢
    split at h
    · rename_i id hget
      rw [hg id (Ren.get_ids (hle _ _ hget))]
      split at h
      · rename_i e2 _; cases e2
      · rename_i e2 _; cases e2
      · rename_i e2 hB
        cases e2
        split at h
        rotate_left
        · cases h
        rename_i hc
        rw [if_pos hc]
        split at h
        rotate_left
        · cases h
        rename_i s1 h1
        exact readBs_agree bs _ _ _ h hg
      · cases h
    · cases h
    · cases h
  | .row wr e :: bs, j, s, s', h, hg => by
    have hle := readBs_le _ _ _ _ h
    simp only [readBs] at h ⊢
    split at h
    · rename_i id hget
      rw [hg id (Ren.get_ids (hle _ _ hget))]
      split at h
      · rename_i e2 _; cases e2
      · rename_i e2 hB
        cases e2
        split at h
        rotate_left
        · cases h
        rename_i hc
        rw [if_pos hc]
        split at h
        rotate_left
        · cases h
        rename_i l hl
        exact readBs_agree bs _ _ _ h hg
      · rename_i e2 _; cases e2
      · cases h
    · exact readBs_agree bs _ _ _ h hg
    · cases h
theorem toLeaf_agree {τ : Ty} {p : PVal E} {x : Den E.T τ} {ids : List Nat} (h : toLeaf τ p H = some (x, ids)) (hg : ∀ id ∈ ids, getB H1 id = getB H id) : toLeaf τ p H1 = some (x, ids) := by
  cases p with
  | own id =>
    simp only [toLeaf] at h ⊢
    split at h
    · cases hB : getB H id with
      | row wr e l =>
        simp only [hB] at h
        have : ids = [id] := by
          simp only [Option.bind_eq_some_iff] at h
          obtain ⟨z, _, he⟩ := h
          simp at he; exact he.2.symm
        subst this
        rw [hg id (by simp), hB]
        exact h
      | _ => simp [hB] at h
    · cases h
  | _ => exact h
theorem toLeaves_agree : ∀ {ts : List Ty} {ps : List (PVal E)} {x : HL E.T ts} {ids : List Nat}, toLeaves ts ps H = some (x, ids) → (∀ id ∈ ids, getB H1 id = getB H id) → toLeaves ts ps H1 = some (x, ids)
  | [], [], _, _, h, _ => h
  | [], _ :: _, _, _, h, _ => by simp [toLeaves] at h
  | _ :: _, [], _, _, h, _ => by simp [toLeaves] at h
  | t :: ts, p :: ps, x, ids, h, hg => by
    simp only [toLeaves, Option.bind_eq_some_iff] at h ⊢
    obtain ⟨⟨a1, a2⟩, ha, ⟨b1, b2⟩, hb, he⟩ := h
    simp at he; obtain ⟨rfl, rfl⟩ := he
    exact ⟨_, toLeaf_agree ha (fun i hi => hg i (by simp [hi])), _, toLeaves_agree hb (fun i hi => hg i (by simp [hi])), rfl⟩
theorem toT_agree {τ : Ty} {p : PVal E} {x : Den E.T τ} {ids : List Nat} (h : toT τ p H = some (x, ids)) (hg : ∀ id ∈ ids, getB H1 id = getB H id) : toT τ p H1 = some (x, ids) := by
  unfold toT at h ⊢
  split at h
  · rename_i cs n
    simp only [Option.bind_eq_some_iff] at h ⊢
    obtain ⟨⟨x, ids'⟩, hx, he⟩ := h
    simp at he; obtain ⟨rfl, rfl⟩ := he
    exact ⟨_, toLeaves_agree hx hg, rfl⟩
  · rename_i hne
    exact toLeaf_agree h hg
theorem toTs_agree : ∀ {ts : List Ty} {ps : List (PVal E)} {x : HL E.T ts} {ids : List Nat}, toTs ts ps H = some (x, ids) → (∀ id ∈ ids, getB H1 id = getB H id) → toTs ts ps H1 = some (x, ids)
  | [], [], _, _, h, _ => h
  | [], _ :: _, _, _, h, _ => by simp [toTs] at h
  | _ :: _, [], _, _, h, _ => by simp [toTs] at h
  | t :: ts, p :: ps, x, ids, h, hg => by
    simp only [toTs, Option.bind_eq_some_iff] at h ⊢
    obtain ⟨⟨a1, a2⟩, ha, ⟨b1, b2⟩, hb, he⟩ := h
    simp at he; obtain ⟨rfl, rfl⟩ := he
    exact ⟨_, toT_agree ha (fun i hi => hg i (by simp [hi])), _, toTs_agree hb (fun i hi => hg i (by simp [hi])), rfl⟩
theorem readS_agree {ρ0 ρ : Ren} {Sh : Shape} {ps : List (PVal E)} {x : HL E.T Sh.holes} {fz : List Nat} (h : readS ρ0 Sh ps H = some (x, ρ, fz)) (hg : ∀ id, id ∈ ρ.ids ∨ id ∈ fz → getB H1 id = getB H id) :
    readS ρ0 Sh ps H1 = some (x, ρ, fz) := by
  unfold readS at h ⊢
  split at h
  rotate_left
  · cases h
  rename_i s h1
  split at h
  rotate_left
  · cases h
  rename_i s' h2
  split at h
  rotate_left
  · cases h
  rename_i x' h3
  split at h
  rotate_left
  · cases h
  rename_i hc
  simp only [Option.some.injEq, Prod.mk.injEq] at h
  obtain ⟨rfl, rfl, rfl⟩ := h
  rw [readBs_agree _ _ _ _ h2 (fun id hid => hg id (.inl hid))]
  simp only
  rw [toTs_agree (x := x'.1) (ids := x'.2) h3 (fun id hid => hg id (.inr hid))]
  simp only
  rw [if_pos hc]
theorem upd_get : ∀ (fz : List Nat) (H : List (Blk E)), (upd H fz).length = H.length ∧ ∀ id, getB (upd H fz) id = if id ∈ fz then (if id < H.length then frz (getB H id) else getB H id) else getB H id
  | [], H => ⟨rfl, fun id => by simp [upd]⟩
  | a :: fz, H => by
    obtain ⟨h1, h2⟩ := upd_get fz (H.set a (frz (getB H a)))
    refine ⟨by simp only [upd]; rw [h1]; simp, fun id => ?_⟩
    simp only [upd]
    rw [h2 id]
    have ff : ∀ b : Blk E, frz (frz b) = frz b := fun b => by cases b <;> rfl
    by_cases ha : a < H.length
    · rw [getB_set _ _ _ _ ha]
      by_cases e : a = id
      · subst e
        simp [ha, ff]
      · have e' : id ≠ a := fun h => e h.symm
        simp [e, e']
    · have : H.set a (frz (getB H a)) = H := List.set_eq_of_length_le (by omega)
      rw [this]
      by_cases e : id = a
      · subst e; simp [ha]
      · simp [e]
theorem freeB_agree : ∀ (n fresh : Nat), freeB H fresh n = true → H1.length = H.length → (∀ t, t < n → getB H1 (fresh + t) = getB H (fresh + t)) → freeB H1 fresh n = true
  | 0, _, _, _, _ => rfl
  | n + 1, fresh, h, hl, hg => by
    simp only [freeB, Bool.and_eq_true] at h ⊢
    have h0 := hg 0 (by omega)
    simp only [Nat.add_zero] at h0
    rw [h0, hl]
    exact ⟨h.1, freeB_agree n (fresh + 1) h.2 hl (fun t ht => by rw [show fresh + 1 + t = fresh + (t + 1) by omega]; exact hg (t + 1) (by omega))⟩
end Go.Pe
namespace Go.Pe
variable {E : Types}
theorem set_both {H H1 : List (Blk E)} (hl : H1.length = H.length) (a : Nat) (b : Blk E) : getB (H1.set a b) a = getB (H.set a b) a := by
  by_cases h : a < H.length
  · rw [getB_set_eq _ _ _ h, getB_set_eq _ _ _ (by rw [hl]; exact h)]
  · rw [getB_ge (by simp; omega), getB_ge (by simp; omega)]
theorem putNew_frame {fresh : Nat} : ∀ (bs : List (Blk E)) (t : Nat) (H H1 : List (Blk E)), H1.length = H.length → ∀ id,
    ((∃ k, k < bs.length ∧ id = fresh + t + k) → getB (putNew fresh bs t H1) id = getB (putNew fresh bs t H) id) ∧
    ((¬ ∃ k, k < bs.length ∧ id = fresh + t + k) → getB (putNew fresh bs t H1) id = getB H1 id ∧ getB (putNew fresh bs t H) id = getB H id)
  | [], t, H, H1, hl, id => ⟨fun ⟨k, hk, _⟩ => by simp at hk, fun _ => ⟨rfl, rfl⟩⟩
  | b :: bs, t, H, H1, hl, id => by
    have ih := putNew_frame (fresh := fresh) bs (t + 1) (H.set (fresh + t) b) (H1.set (fresh + t) b) (by simp [hl]) id
    simp only [putNew]
    constructor
    · rintro ⟨k, hk, rfl⟩
      cases k with
      | zero =>
        have h := ih.2 (fun ⟨k, _, e⟩ => by omega)
        rw [h.1, h.2]
        exact set_both hl _ _
      | succ k => exact ih.1 ⟨k, by simpa using hk, by omega⟩
    · intro hn
      have h := ih.2 (fun ⟨k, hk, e⟩ => hn ⟨k + 1, by simpa using hk, by omega⟩)
      have hne : fresh + t ≠ id := fun e => hn ⟨0, by simp, by omega⟩
      rw [h.1, h.2, getB_set_ne _ _ hne, getB_set_ne _ _ hne]
      exact ⟨rfl, rfl⟩
theorem putBack_frame {ρ : Ren} {fresh : Nat} : ∀ (ks os : List BK) (bs : List (Blk E)) (j : Nat) (H H1 H' : List (Blk E)), H1.length = H.length → putBack ρ fresh ks os bs j H = some H' →
    ∃ H1', putBack ρ fresh ks os bs j H1 = some H1' ∧ H1'.length = H1.length ∧ H'.length = H.length ∧ ∀ id,
      ((id ∈ wrIds ρ ks j ∨ ∃ t, ks.length + t < bs.length ∧ id = fresh + t) → getB H1' id = getB H' id) ∧
      (¬ (id ∈ wrIds ρ ks j ∨ ∃ t, ks.length + t < bs.length ∧ id = fresh + t) → getB H1' id = getB H1 id ∧ getB H' id = getB H id)
  | [], os, bs, j, H, H1, H', hl, h => by
    simp only [putBack, Option.some.injEq] at h; subst h
    refine ⟨_, rfl, putNew_len _ _ _, putNew_len _ _ _, fun id => ?_⟩
    have := putNew_frame (fresh := fresh) bs 0 H H1 hl id
    constructor
    · rintro (h | ⟨t, ht, e⟩)
      · simp [wrIds] at h
      · exact this.1 ⟨t, by simpa using ht, by omega⟩
    · intro hn
      exact this.2 (fun ⟨k, hk, e⟩ => hn (.inr ⟨k, by simpa using hk, by omega⟩))
  | k :: ks, os, bs, j, H, H1, H', hl, h => by
    have set_ : ∀ (os' : List BK) (b : Blk E) (bs' : List (Blk E)) (id0 : Nat) (B : Blk E), bs = b :: bs' → wrIds ρ (k :: ks) j = [id0] ++ wrIds ρ ks (j + 1) → putBack ρ fresh ks os' bs' (j + 1) (H.set id0 B) = some H' →
        ∃ H1', putBack ρ fresh ks os' bs' (j + 1) (H1.set id0 B) = some H1' ∧ H1'.length = H1.length ∧ H'.length = H.length ∧ ∀ id,
          ((id ∈ wrIds ρ (k :: ks) j ∨ ∃ t, (k :: ks).length + t < bs.length ∧ id = fresh + t) → getB H1' id = getB H' id) ∧
          (¬ (id ∈ wrIds ρ (k :: ks) j ∨ ∃ t, (k :: ks).length + t < bs.length ∧ id = fresh + t) → getB H1' id = getB H1 id ∧ getB H' id = getB H id) := by
      intro os' b bs' id0 B eb ew hpb
      subst eb
      obtain ⟨H1', h1, h2, h3, h4⟩ := putBack_frame ks os' bs' (j + 1) _ (H1.set id0 B) H' (by simp [hl]) hpb
      refine ⟨H1', h1, by rw [h2]; simp, by rw [h3]; simp, fun id => ?_⟩
      rw [ew]
      have hh := h4 id
      constructor
      · intro hd
        by_cases hin : id ∈ wrIds ρ ks (j + 1) ∨ ∃ t, ks.length + t < bs'.length ∧ id = fresh + t
        · exact hh.1 hin
        · have : id = id0 := by
            rcases hd with hd | ⟨t, ht, e⟩
            · rcases List.mem_append.1 hd with hd | hd
              · simpa using hd
              · exact absurd (.inl hd) hin
            · exact absurd (.inr ⟨t, by simp at ht ⊢; omega, e⟩) hin
          subst this
          rw [(hh.2 hin).1, (hh.2 hin).2]
          exact set_both hl _ _
      · intro hn
        have hin : ¬ (id ∈ wrIds ρ ks (j + 1) ∨ ∃ t, ks.length + t < bs'.length ∧ id = fresh + t) := by
          rintro (h | ⟨t, ht, e⟩)
          · exact hn (.inl (List.mem_append_right _ h))
          · exact hn (.inr ⟨t, by simp at ht ⊢; omega, e⟩)
        have hne : id0 ≠ id := fun e => hn (.inl (List.mem_append_left _ (by simp [e])))
        rw [(hh.2 hin).1, (hh.2 hin).2, getB_set_ne _ _ hne, getB_set_ne _ _ hne]
        exact ⟨rfl, rfl⟩
    have same_ : ∀ (os' : List BK) (b : Blk E) (bs' : List (Blk E)), bs = b :: bs' → wrIds ρ (k :: ks) j = wrIds ρ ks (j + 1) → putBack ρ fresh ks os' bs' (j + 1) H = some H' →
        ∃ H1', putBack ρ fresh ks os' bs' (j + 1) H1 = some H1' ∧ H1'.length = H1.length ∧ H'.length = H.length ∧ ∀ id,
          ((id ∈ wrIds ρ (k :: ks) j ∨ ∃ t, (k :: ks).length + t < bs.length ∧ id = fresh + t) → getB H1' id = getB H' id) ∧
          (¬ (id ∈ wrIds ρ (k :: ks) j ∨ ∃ t, (k :: ks).length + t < bs.length ∧ id = fresh + t) → getB H1' id = getB H1 id ∧ getB H' id = getB H id) := by
      intro os' b bs' eb ew hpb
      subst eb
      obtain ⟨H1', h1, h2, h3, h4⟩ := putBack_frame ks os' bs' (j + 1) H H1 H' hl hpb
      refine ⟨H1', h1, h2, h3, fun id => ?_⟩
      rw [ew]
      have e : (∃ t, (k :: ks).length + t < (b :: bs').length ∧ id = fresh + t) ↔ ∃ t, ks.length + t < bs'.length ∧ id = fresh + t :=
        ⟨fun ⟨t, ht, e⟩ => ⟨t, by simp at ht ⊢; omega, e⟩, fun ⟨t, ht, e⟩ => ⟨t, by simp at ht ⊢; omega, e⟩⟩
      rw [e]
      exact h4 id
    unfold putBack at h
    split at h
    · rename_i e; cases e
    · rename_i e
      cases e
      split at h
      · rename_i id0 hg
        obtain ⟨H1', h1, h2⟩ := set_ _ _ _ id0 _ rfl (by simp only [wrIds, hg]) h
        exact ⟨H1', by simp only [putBack, hg]; exact h1, h2⟩
      · cases h
    · rename_i e
      cases e
      obtain ⟨H1', h1, h2⟩ := same_ _ _ _ rfl rfl h
      exact ⟨H1', by simp only [putBack]; exact h1, h2⟩
    · rename_i e
      cases e
      split at h
      · rename_i id0 hg
        obtain ⟨H1', h1, h2⟩ := set_ _ _ _ id0 _ rfl (by simp only [wrIds, hg]) h
        exact ⟨H1', by simp only [putBack, hg]; exact h1, h2⟩
      · rename_i hg
        obtain ⟨H1', h1, h2⟩ := same_ _ _ _ rfl (by simp only [wrIds, hg, List.nil_append]) h
        exact ⟨H1', by simp only [putBack, hg]; exact h1, h2⟩
      · cases h
    · rename_i e
      cases e
      obtain ⟨H1', h1, h2⟩ := same_ _ _ _ rfl rfl h
      exact ⟨H1', by simp only [putBack]; exact h1, h2⟩
    · rename_i e
      cases e
      obtain ⟨H1', h1, h2⟩ := same_ _ _ _ rfl rfl h
      exact ⟨H1', by simp only [putBack]; exact h1, h2⟩
    · cases h
end Go.Pe
namespace Go.Pe
variable {E : Types}
theorem callSpecL_frame {R : Type} {r : R} {s : Spec E} {fresh : Nat} {args : List (PVal E)} {H : List (Blk E)} {K : PVal E → List (Blk E) → List Nat → List Nat → Option R} (h : callSpecL s fresh args H K = some r) :
    ∃ p H' rs ws, K p H' rs ws = some r ∧ H'.length = H.length ∧ (∀ id, id ∉ ws → getB H' id = getB H id) ∧
      ∀ H1 : List (Blk E), H1.length = H.length → (∀ id, id ∈ rs ∨ id ∈ ws → getB H1 id = getB H id) →
        ∃ H1', (∀ {R2 : Type} (K2 : PVal E → List (Blk E) → Option R2), callSpec s fresh args H1 K2 = K2 p H1') ∧ H1'.length = H1.length ∧ (∀ id, id ∈ rs ∨ id ∈ ws → getB H1' id = getB H' id) ∧ ∀ id, id ∉ ws → getB H1' id = getB H1 id := by
  unfold callSpecL at h
  split at h
  rotate_left
  · cases h
  rename_i x ρ fz hrd
  simp only [Option.bind_eq_some_iff] at h
  obtain ⟨y, hy, h⟩ := h
  split at h
  rotate_left
  · cases h
  rename_i H' hpb
  split at h
  rotate_left
  · cases h
  rename_i hc
  have hc' := hc
  simp only [Bool.and_eq_true] at hc
  obtain ⟨u1, u2⟩ := upd_get fz H
  have hbl : (fillS (outN ρ s.inn.blks.length fresh) s.out (HL.toP s.out.holes (s.go.to y))).2.length = s.out.blks.length := fillBs_len _ _
  have hW : ∀ id, (id ∈ wrIds ρ s.inn.blks 0 ∨ ∃ t, s.inn.blks.length + t < (fillS (outN ρ s.inn.blks.length fresh) s.out (HL.toP s.out.holes (s.go.to y))).2.length ∧ id = fresh + t) →
      id ∈ fz ++ wrIds ρ s.inn.blks 0 ++ List.range' fresh (s.out.blks.length - s.inn.blks.length) := by
    rintro id (h | ⟨t, ht, e⟩)
    · exact List.mem_append_left _ (List.mem_append_right _ h)
    · rw [hbl] at ht
      refine List.mem_append_right _ (List.mem_range'.2 ⟨t, by omega, by omega⟩)
  obtain ⟨_, _, _, l0, g0⟩ := putBack_frame _ _ _ _ _ (upd H fz) H' rfl hpb
  refine ⟨_, H', _, _, h, l0.trans u1, fun id hid => ?_, fun H1 hl hg => ?_⟩
  · have hnw : ¬ (id ∈ wrIds ρ s.inn.blks 0 ∨ ∃ t, s.inn.blks.length + t < (fillS (outN ρ s.inn.blks.length fresh) s.out (HL.toP s.out.holes (s.go.to y))).2.length ∧ id = fresh + t) := fun h => hid (hW id h)
    rw [((g0 id).2 hnw).2, u2 id, if_neg (fun h => hid (List.mem_append_left _ (List.mem_append_left _ h)))]
  · obtain ⟨v1, v2⟩ := upd_get fz H1
    obtain ⟨H1', k1, k2, k3, k4⟩ := putBack_frame _ _ _ _ _ (upd H1 fz) H' (by rw [v1, u1, hl]) hpb
    have hrd1 := readS_agree (H1 := H1) hrd (fun id hid => hg id (.inl (by
      rcases hid with h | h
      · exact List.mem_append_left _ h
      · exact List.mem_append_right _ h)))
    have hfr : freeB H1 fresh (s.out.blks.length - s.inn.blks.length) = true := freeB_agree _ _ hc.1 hl (fun t ht => hg _ (.inr (List.mem_append_right _ (List.mem_range'.2 ⟨t, ht, by omega⟩))))
    have hupd : ∀ id, getB H1 id = getB H id → getB (upd H1 fz) id = getB (upd H fz) id := fun id e => by rw [v2, u2, e, hl]
    refine ⟨H1', fun K2 => ?_, by rw [k2, v1], fun id hid => ?_, fun id hid => ?_⟩
    · unfold callSpec
      rw [hrd1]
      simp only [hy, Option.bind_some, k1]
      rw [if_pos (by rw [hfr, hc.2]; rfl)]
    · by_cases hw : id ∈ wrIds ρ s.inn.blks 0 ∨ ∃ t, s.inn.blks.length + t < (fillS (outN ρ s.inn.blks.length fresh) s.out (HL.toP s.out.holes (s.go.to y))).2.length ∧ id = fresh + t
      · exact (k4 id).1 hw
      · rw [((k4 id).2 hw).1, ((k4 id).2 hw).2]
        exact hupd id (hg id hid)
    · have hnw : ¬ (id ∈ wrIds ρ s.inn.blks 0 ∨ ∃ t, s.inn.blks.length + t < (fillS (outN ρ s.inn.blks.length fresh) s.out (HL.toP s.out.holes (s.go.to y))).2.length ∧ id = fresh + t) := fun h => hid (hW id h)
      rw [((k4 id).2 hnw).1, v2 id, if_neg (fun h => hid (List.mem_append_left _ (List.mem_append_left _ h)))]
theorem guardD_frame {R : Type} {r : R} {K : Bool → List (PVal E) → Option R} {ops : Array Oper} {o : Oper} {env : List (PVal E)} (h : guardD ops o env K = some r) :
    ∃ yes, K yes env = some r ∧ ∀ env1 : List (PVal E), (∀ t ∈ looks ops o, env1[t]? = env[t]?) → ∀ {R2 : Type} (K2 : Bool → List (PVal E) → Option R2), guardD ops o env1 K2 = K2 yes env1 := by
  have setS : ∀ (e : List (PVal E)) (d : Nat) (x : PVal E), e[d]? = some x → e.set d x = e := by
    intro e d x hx
    obtain ⟨hlt, rfl⟩ := List.getElem?_eq_some_iff.1 hx
    exact List.set_getElem_self hlt
  unfold guardD at h
  split at h
  · rename_i hg
    exact ⟨true, h, fun env1 _ R2 K2 => by simp only [guardD, hg]⟩
  · rename_i j want hg
    split at h
    · cases h
    · rename_i d hd
      have hlook : d ∈ looks ops o := by
        unfold looks Oper.looksAt
        refine List.mem_append_right _ ?_
        rw [hg]; simp [hd]
      have some_of : ∀ {p : PVal E}, (env[d]?).getD .any = p → p ≠ .any → env[d]? = some p := by
        intro p hp hne
        cases e : env[d]? with
        | none => rw [e] at hp; exact absurd hp.symm hne
        | some q => rw [e] at hp; simp at hp; rw [hp]
      split at h
      · rename_i b hb
        have hs := some_of hb (by simp)
        cases b with
        | true =>
          simp only [cond_true] at h
          rw [setS env d _ hs] at h
          refine ⟨want, h, fun env1 ha R2 K2 => ?_⟩
          have h1 : env1[d]? = some (.v .bool true) := (ha d hlook).trans hs
          simp only [guardD, hg, hd, h1, Option.getD_some, cond_true]
          rw [setS env1 d _ h1]
        | false =>
          simp only [cond_false] at h
          rw [setS env d _ hs] at h
          refine ⟨!want, h, fun env1 ha R2 K2 => ?_⟩
          have h1 : env1[d]? = some (.v .bool false) := (ha d hlook).trans hs
          simp only [guardD, hg, hd, h1, Option.getD_some, cond_false]
          rw [setS env1 d _ h1]
      · rename_i hb
        have hs := some_of hb (by simp)
        refine ⟨false, h, fun env1 ha R2 K2 => ?_⟩
        have h1 : env1[d]? = some .skip := (ha d hlook).trans hs
        simp only [guardD, hg, hd, h1, Option.getD_some]
      · cases h
theorem stepL_frame {C : Cfg E} {R : Type} {r : R} {rid i fresh spare : Nat} {ops : Array Oper} {o : Oper} {env : List (PVal E)} {H : List (Blk E)} {K : List (PVal E) → List (Blk E) → List Nat → List Nat → Option R}
    (hyl : C.yl = false) (h : stepL C rid i fresh spare ops o env H K = some r) :
    ∃ p H' rs ws, K (put env o.dst p) H' rs ws = some r ∧ H'.length = H.length ∧ (∀ id, id ∉ ws → getB H' id = getB H id) ∧
      ∀ (env1 : List (PVal E)) (H1 : List (Blk E)), (∀ t ∈ looks ops o, env1[t]? = env[t]?) → H1.length = H.length → getB H1 spare = getB H spare → (∀ id, id ∈ rs ∨ id ∈ ws → getB H1 id = getB H id) →
        ∃ H1', (∀ {R2 : Type} (K2 : List (PVal E) → List (Blk E) → Option R2), stepO C (noInl _) rid i fresh spare ops o env1 H1 K2 = K2 (put env1 o.dst p) H1') ∧ H1'.length = H1.length ∧
          (∀ id, id ∈ rs ∨ id ∈ ws → getB H1' id = getB H' id) ∧ ∀ id, id ∉ ws → getB H1' id = getB H1 id := by
  unfold stepL at h
  obtain ⟨yes, h, hgd⟩ := guardD_frame h
  have evals : ∀ env1 : List (PVal E), (∀ t ∈ looks ops o, env1[t]? = env[t]?) → ∀ x ∈ o.op.operands, evalO env1 x = evalO env x := by
    intro env1 ha x hx
    cases x with
    | tmp t =>
      have : t ∈ looks ops o := List.mem_append_left _ (List.mem_filterMap.2 ⟨.tmp t, by simpa using hx, rfl⟩)
      simp only [evalO, ha t this]
    | _ => rfl
  cases yes with
  | false =>
    simp only [Bool.false_eq_true, if_false] at h
    refine ⟨.skip, H, [], [], h, rfl, fun _ _ => rfl, fun env1 H1 ha hl hsp hg => ⟨H1, fun K2 => ?_, rfl, hg, fun _ _ => rfl⟩⟩
    unfold stepO
    rw [hgd env1 ha]
    simp
  | true =>
    simp only [if_true] at h
    split at h
    · rename_i f args hcal
      split at h
      rotate_left
      · cases h
      rename_i kk hpick
      split at h
      rotate_left
      · cases h
      rename_i s hs
      obtain ⟨p, H', rs, ws, h1, h2, h3, h4⟩ := callSpecL_frame h
      refine ⟨p, H', rs, ws, h1, h2, h3, fun env1 H1 ha hl hsp hg => ?_⟩
      obtain ⟨H1', k1, k2⟩ := h4 H1 hl hg
      refine ⟨H1', fun K2 => ?_, k2⟩
      unfold stepO
      rw [hgd env1 ha]
      have hc : calleeOf env1 o.op = some (f, args) := (calleeOf_congr o.op (evals env1 ha)).trans hcal
      simp only [if_true, hyl, Bool.false_eq_true, if_false, stepP, hc, hpick, tryS, hs]
      exact k1 _
    · rename_i hcal
      have fin : ∀ g, (if Nat.beq (need o.op) 0 = true then spare else fresh) = g → freeB H g 1 = true → ∀ rs0, (∀ H1 : List (Blk E), H1.length = H.length → getB H1 spare = getB H spare → (∀ id, id ∈ rs0 → getB H1 id = getB H id) → freeB H1 g 1 = true) →
          (opD C.tab (C.mv rid i) g (evalO env) o.op).cpsL H rs0 [] (fun p H rs ws => K (put env o.dst p) H rs ws) = some r →
          ∃ p H' rs ws, K (put env o.dst p) H' rs ws = some r ∧ H'.length = H.length ∧ (∀ id, id ∉ ws → getB H' id = getB H id) ∧
            ∀ (env1 : List (PVal E)) (H1 : List (Blk E)), (∀ t ∈ looks ops o, env1[t]? = env[t]?) → H1.length = H.length → getB H1 spare = getB H spare → (∀ id, id ∈ rs ∨ id ∈ ws → getB H1 id = getB H id) →
              ∃ H1', (∀ {R2 : Type} (K2 : List (PVal E) → List (Blk E) → Option R2), stepO C (noInl _) rid i fresh spare ops o env1 H1 K2 = K2 (put env1 o.dst p) H1') ∧ H1'.length = H1.length ∧
                (∀ id, id ∈ rs ∨ id ∈ ws → getB H1' id = getB H' id) ∧ ∀ id, id ∉ ws → getB H1' id = getB H1 id := by
        intro g hgeq hfr rs0 hfr1 h
        obtain ⟨p, H', rs, ws, h1, h2, _, h3, h4, h5⟩ := cpsL_frame _ h
        refine ⟨p, H', rs, ws, h1, h3, h4, fun env1 H1 ha hl hsp hg => ?_⟩
        obtain ⟨H1', k1, k2⟩ := h5 H1 hl hg
        refine ⟨H1', fun K2 => ?_, k2⟩
        unfold stepO
        rw [hgd env1 ha]
        have hc : calleeOf env1 o.op = none := (calleeOf_congr o.op (evals env1 ha)).trans hcal
        have e := opD_congr (tab := C.tab) (mv := C.mv rid i) (fresh := g) o.op (evals env1 ha)
        have hf1 := hfr1 H1 hl hsp (fun id hid => hg id (.inl (h2 id hid)))
        simp only [if_true, hyl, Bool.false_eq_true, if_false, stepP, hc, hgeq]
        rw [if_pos hf1, e]
        exact k1 _
      split at h
      · rename_i hn
        split at h
        rotate_left
        · cases h
        rename_i hfr
        exact fin spare (if_pos hn) hfr [] (fun H1 hl hsp _ => freeB_agree 1 spare hfr hl (fun t ht => by
          have : t = 0 := by omega
          subst this; exact hsp)) h
      · rename_i hn
        split at h
        rotate_left
        · cases h
        rename_i hfr
        exact fin fresh (if_neg hn) hfr [fresh] (fun H1 hl hsp hg => freeB_agree 1 fresh hfr hl (fun t ht => by
          have : t = 0 := by omega
          subst this; exact hg fresh (by simp))) h
end Go.Pe
namespace Go.Pe
variable {E : Types}
structure SLog (E : Types) where
  p : PVal E
  rs : List Nat
  ws : List Nat
structure Fr (C : Cfg E) (rid spare : Nat) (ops : Array Oper) (off : Nat → Nat) (i : Nat) (L : SLog E) (env : List (PVal E)) (H H' : List (Blk E)) : Prop where
  len : H'.length = H.length
  out : ∀ id, id ∉ L.ws → getB H' id = getB H id
  run : ∀ o, ops[i]? = some o → ∀ (env1 : List (PVal E)) (H1 : List (Blk E)), (∀ t ∈ looks ops o, env1[t]? = env[t]?) → H1.length = H.length → getB H1 spare = getB H spare → (∀ id, id ∈ L.rs ∨ id ∈ L.ws → getB H1 id = getB H id) →
    ∃ H1', (∀ {R2 : Type} (K2 : List (PVal E) → List (Blk E) → Option R2), stepO C (noInl _) rid i (off i) spare ops o env1 H1 K2 = K2 (put env1 o.dst L.p) H1') ∧ H1'.length = H1.length ∧
      (∀ id, id ∈ L.rs ∨ id ∈ L.ws → getB H1' id = getB H' id) ∧ ∀ id, id ∉ L.ws → getB H1' id = getB H1 id
section
variable {C : Cfg E} {rid spare : Nat} {ops : Array Oper} {off : Nat → Nat}
theorem Fr.move {i : Nat} {o : Oper} {L : SLog E} {env env1 : List (PVal E)} {H H' H1 : List (Blk E)} (ho : ops[i]? = some o) (h : Fr C rid spare ops off i L env H H')
    (ha : ∀ t ∈ looks ops o, env1[t]? = env[t]?) (hl : H1.length = H.length) (hsp : getB H1 spare = getB H spare) (hg : ∀ id, id ∈ L.rs ∨ id ∈ L.ws → getB H1 id = getB H id) :
    ∃ H1', Fr C rid spare ops off i L env1 H1 H1' ∧ ∀ id, id ∈ L.rs ∨ id ∈ L.ws → getB H1' id = getB H' id := by
  obtain ⟨H1', _, k2, k3, k4⟩ := h.run o ho env1 H1 ha hl hsp hg
  refine ⟨H1', ⟨k2, k4, fun o' ho' env2 H2 ha2 hl2 hsp2 hg2 => ?_⟩, k3⟩
  rw [ho] at ho'; injection ho' with ho'; subst ho'
  obtain ⟨H2', m1, m2, m3, m4⟩ := h.run o ho env2 H2 (fun t ht => (ha2 t ht).trans (ha t ht)) (hl2.trans hl) (hsp2.trans hsp) (fun id hid => (hg2 id hid).trans (hg id hid))
  exact ⟨H2', m1, m2, fun id hid => (m3 id hid).trans (k3 id hid).symm, m4⟩
theorem put_get_ne {env : List (PVal E)} {d : Option Nat} {p : PVal E} {t : Nat} (h : ∀ x, d = some x → x ≠ t) : (put env d p)[t]? = env[t]? := by
  cases d with
  | none => rfl
  | some x => exact List.getElem?_set_ne (h x rfl)
theorem put_comm {env : List (PVal E)} {d e : Option Nat} {p q : PVal E} (h : ∀ x, d = some x → e ≠ some x) : put (put env d p) e q = put (put env e q) d p := by
  cases d with
  | none => rfl
  | some x =>
    cases e with
    | none => rfl
    | some y => exact List.set_comm _ _ (fun e => h x rfl (by rw [e]))
theorem ext_getB {H H' : List (Blk E)} (hl : H.length = H'.length) (h : ∀ id, getB H id = getB H' id) : H = H' := by
  apply List.ext_getElem hl
  intro i h1 h2
  have := h i
  unfold getB at this
  rw [List.getElem?_eq_getElem h1, List.getElem?_eq_getElem h2] at this
  simpa using this
structure Indep (ops : Array Oper) (spare : Nat) (x y : Nat) (Lx Ly : SLog E) : Prop where
  wr : ∀ id, id ∈ Lx.ws → id ∉ Ly.rs ∧ id ∉ Ly.ws
  rw' : ∀ id, id ∈ Ly.ws → id ∉ Lx.rs ∧ id ∉ Lx.ws
  sx : spare ∉ Lx.ws
  sy : spare ∉ Ly.ws
  slots : ∀ ox oy, ops[x]? = some ox → ops[y]? = some oy → (∀ d, ox.dst = some d → oy.dst ≠ some d) ∧ (∀ d, ox.dst = some d → d ∉ looks ops oy) ∧ ∀ d, oy.dst = some d → d ∉ looks ops ox
theorem Fr.swap {x y : Nat} {ox oy : Oper} {Lx Ly : SLog E} {env : List (PVal E)} {H Hx Hxy : List (Blk E)} (hx : ops[x]? = some ox) (hy : ops[y]? = some oy) (I : Indep ops spare x y Lx Ly)
    (fx : Fr C rid spare ops off x Lx env H Hx) (fy : Fr C rid spare ops off y Ly (put env ox.dst Lx.p) Hx Hxy) :
    ∃ Hy, Fr C rid spare ops off y Ly env H Hy ∧ Fr C rid spare ops off x Lx (put env oy.dst Ly.p) Hy Hxy ∧ put (put env ox.dst Lx.p) oy.dst Ly.p = put (put env oy.dst Ly.p) ox.dst Lx.p := by
  obtain ⟨s1, s2, s3⟩ := I.slots ox oy hx hy
  obtain ⟨Hy, g1, g2⟩ := fy.move (env1 := env) (H1 := H) hy (fun t ht => (put_get_ne (fun d hd e => s2 d hd (e ▸ ht))).symm) fx.len.symm (fx.out spare I.sx).symm
    (fun id hid => (fx.out id (fun hw => by rcases hid with h | h; exact (I.wr id hw).1 h; exact (I.wr id hw).2 h)).symm)
  obtain ⟨Hyx, k1, k2⟩ := fx.move (env1 := put env oy.dst Ly.p) (H1 := Hy) hx (fun t ht => put_get_ne (fun d hd e => s3 d hd (e ▸ ht))) g1.len (g1.out spare I.sy)
    (fun id hid => g1.out id (fun hw => by rcases hid with h | h; exact (I.rw' id hw).1 h; exact (I.rw' id hw).2 h))
  have e : Hyx = Hxy := by
    apply ext_getB
    · rw [k1.len, g1.len, fy.len, fx.len]
    · intro id
      by_cases h1 : id ∈ Lx.ws
      · rw [k2 id (.inr h1), fy.out id (I.wr id h1).2]
      · rw [k1.out id h1]
        by_cases h2 : id ∈ Ly.ws
        · exact g2 id (.inr h2)
        · rw [g1.out id h2, fy.out id h2, fx.out id h1]
  subst e
  exact ⟨Hy, g1, k1, put_comm s1⟩
end
end Go.Pe
namespace Go.Pe
variable {E : Types}
section
variable {C : Cfg E} {rid spare : Nat} {ops : Array Oper} {off : Nat → Nat} {L : Nat → SLog E}
inductive RunL (C : Cfg E) (rid spare : Nat) (ops : Array Oper) (off : Nat → Nat) (L : Nat → SLog E) (env' : List (PVal E)) (H' : List (Blk E)) : List Nat → List (PVal E) → List (Blk E) → Prop
  | nil : RunL C rid spare ops off L env' H' [] env' H'
  | cons (i : Nat) (l : List Nat) (o : Oper) (env : List (PVal E)) (H H1 : List (Blk E)) (ho : ops[i]? = some o) (hf : Fr C rid spare ops off i (L i) env H H1) (hr : RunL C rid spare ops off L env' H' l (put env o.dst (L i).p) H1) :
    RunL C rid spare ops off L env' H' (i :: l) env H
theorem RunL.bubble {env' : List (PVal E)} {H' : List (Blk E)} {y : Nat} {post : List Nat} : ∀ {pre : List Nat} {env : List (PVal E)} {H : List (Blk E)}, (∀ x ∈ pre, Indep ops spare x y (L x) (L y)) →
    RunL C rid spare ops off L env' H' (pre ++ y :: post) env H → RunL C rid spare ops off L env' H' (y :: (pre ++ post)) env H
  | [], env, H, _, h => h
  | x :: pre, env, H, hI, h => by
    cases h with
    | cons _ _ o _ _ H1 ho hf hr =>
      have hr := RunL.bubble (pre := pre) (fun z hz => hI z (List.mem_cons_of_mem _ hz)) hr
      cases hr with
      | cons _ _ o2 _ _ H2 ho2 hf2 hr2 =>
        obtain ⟨Hy, g1, g2, g3⟩ := Fr.swap ho ho2 (hI x (List.mem_cons_self ..)) hf hf2
        refine .cons y _ o2 _ _ Hy ho2 g1 (.cons x _ o _ _ H2 ho g2 ?_)
        rw [← g3]
        exact hr2
def edgeBits (acc : List Nat) (o : Oper) : Nat := o.after.foldl (fun s e => if Region.binds .any e then s ||| 2 ^ e.on ||| acc.getD e.on 0 else s) 0
theorem befL_spec : ∀ (l : List Oper) (acc : List Nat), (∀ k, k < acc.length → (befL l acc)[k]? = acc[k]?) ∧
    ∀ (j : Nat) (o : Oper), l[j]? = some o → (befL l acc)[acc.length + j]? = some (edgeBits ((befL l acc).take (acc.length + j)) o)
  | [], acc => ⟨fun _ _ => rfl, fun j o h => by simp at h⟩
  | o :: l, acc => by
    obtain ⟨h1, h2⟩ := befL_spec l (acc ++ [edgeBits acc o])
    have e : befL (o :: l) acc = befL l (acc ++ [edgeBits acc o]) := rfl
    rw [e]
    refine ⟨fun k hk => ?_, fun j o' hj => ?_⟩
    · rw [h1 k (by simp; omega), List.getElem?_append_left hk]
    · cases j with
      | zero =>
        have : o = o' := by simpa using hj
        subst this
        have ht : (befL l (acc ++ [edgeBits acc o])).take acc.length = acc := by
          apply List.ext_getElem?
          intro k
          rw [List.getElem?_take]
          split
          · rw [h1 k (by simp; omega), List.getElem?_append_left (by assumption)]
          · rw [List.getElem?_eq_none (by omega)]
        simp only [Nat.add_zero]
        rw [ht, h1 acc.length (by simp)]
        simp
      | succ j =>
        have := h2 j o' (by simpa using hj)
        simp only [List.length_append, List.length_cons, List.length_nil] at this
        rw [show acc.length + (j + 1) = acc.length + (0 + 1) + j by omega]
        exact this
theorem edgeBits_spec {acc : List Nat} {o : Oper} {x : Nat} (h : (edgeBits acc o).testBit x = true) : ∃ e ∈ o.after, Region.binds .any e = true ∧ (e.on = x ∨ (acc.getD e.on 0).testBit x = true) := by
  unfold edgeBits at h
  rw [← Array.foldl_toList] at h
  have key : ∀ (l : List Edge) (s : Nat), (l.foldl (fun s e => if Region.binds .any e then s ||| 2 ^ e.on ||| acc.getD e.on 0 else s) s).testBit x = true →
      s.testBit x = true ∨ ∃ e ∈ l, Region.binds .any e = true ∧ (e.on = x ∨ (acc.getD e.on 0).testBit x = true) := by
    intro l
    induction l with
    | nil => intro s h; exact .inl h
    | cons e l ih =>
      intro s h
      simp only [List.foldl_cons] at h
      rcases ih _ h with h | ⟨e', he', h'⟩
      · split at h
        · rename_i hb
          simp only [Nat.testBit_or, Bool.or_eq_true, Nat.testBit_two_pow, decide_eq_true_eq] at h
          rcases h with (h | h) | h
          · exact .inl h
          · exact .inr ⟨e, by simp, hb, .inl h⟩
          · exact .inr ⟨e, by simp, hb, .inr h⟩
        · exact .inl h
      · exact .inr ⟨e', by simp [he'], h'⟩
  rcases key _ _ h with h | ⟨e, he, h⟩
  · simp at h
  · exact ⟨e, by simpa using he, h⟩
end
end Go.Pe
namespace Go.Pe
variable {E : Types}
section
variable {C : Cfg E} {P : Program} {G : Nat → Prop} {W0 : World} {ro : Option Nat} {n : Nat} {A0 : Nat → Prop} {rid spare : Nat} {ops : Array Oper} {off : Nat → Nat} {L : Nat → SLog E}
theorem regOk_edge (h : regOk ops = true) {j : Nat} {o : Oper} (ho : ops[j]? = some o) {e : Edge} (he : e ∈ o.after) (hb : Region.binds .any e = true) : e.on < j := by
  unfold regOk at h
  have hj : j < ops.size := (Array.getElem?_eq_some_iff.1 ho).1
  have := List.all_eq_true.1 h j (List.mem_range.2 hj)
  rw [ho] at this
  split at this
  · rename_i oj m e1 _
    injection e1 with e1; subst e1
    simp only [Bool.and_eq_true] at this
    have := Array.all_eq_true'.1 this.1.1 e he
    simp only [hb, Bool.not_true, Bool.false_or] at this
    exact Nat.le_of_ble_eq_true this
  · cases this
theorem getD_set_true' {listed : Array Bool} {i j : Nat} (h : listed.getD j true = true) : (listed.setIfInBounds i true).getD j true = true := by
  rw [Array.getD_eq_getD_getElem?] at h ⊢
  rw [Array.getElem?_setIfInBounds]
  split
  · split <;> rfl
  · exact h
theorem draw_any (hP : C.P = P) (hyl : C.yl = false) (hT : tabB E.leaves C.P C.tab = true) (hS : SpecsOk C G W0) {Q : Exit → Act → World → Prop} (hreg : regOk ops = true)
    (hI : ∀ x y, x < y → y < ops.size → ((befL ops.toList []).getD y 0).testBit x = false → Indep ops spare x y (L x) (L y)) {env' : List (PVal E)} {H' : List (Blk E)} :
    ∀ (fuel : Nat) (rem : List Nat) (listed : Array Bool) {env : List (PVal E)} {H : List (Blk E)} {μ : Nat → Loc} {w : World} {a : Act}, RunL C rid spare ops off L env' H' rem env H → rem.Pairwise (· < ·) →
      (∀ i, i ∈ rem ↔ i < ops.size ∧ listed.getD i true = false) → listed.size = ops.size → (∀ j, j < ops.size → listed.getD j true = true → ∀ x, ((befL ops.toList []).getD j 0).testBit x = true → listed.getD x true = true) →
      rem.length ≤ fuel → St (C := C) (P := P) G W0 none A0 μ H w env a → (∀ μ' w' a', St (C := C) (P := P) G W0 none A0 μ' H' w' env' a' → Mid false A0 μ H w A0 μ' H' w' → env'.length = env.length → Q .normal a' w') → wpAnyIn (wideR ro) n P .any ops Q fuel listed a w := by
  have done : ∀ (rem : List Nat) (listed : Array Bool) {env : List (PVal E)} {H : List (Blk E)} {μ : Nat → Loc} {w : World} {a : Act}, RunL C rid spare ops off L env' H' rem env H →
      (∀ i, i ∈ rem ↔ i < ops.size ∧ listed.getD i true = false) → listed.size = ops.size → rem.Pairwise (· < ·) → St (C := C) (P := P) G W0 none A0 μ H w env a → (∀ μ' w' a', St (C := C) (P := P) G W0 none A0 μ' H' w' env' a' → Mid false A0 μ H w A0 μ' H' w' → env'.length = env.length → Q .normal a' w') →
      Region.ready .any ops listed = [] → Q .normal a w := by
    intro rem listed env H μ w a hrun hmem hsz hsort S hQ hnil
    cases hrun with
    | nil => exact hQ μ w a S Mid.refl rfl
    | cons i l o _ _ H1 ho hf hr =>
      exfalso
      have hi := (hmem i).1 (List.mem_cons_self ..)
      have : i ∈ Region.ready .any ops listed := mem_ready.2 ⟨hi.2, o, ho, fun e he hb => by
        have hlt := regOk_edge hreg ho he hb
        cases hg : listed.getD e.on false with
        | true => rfl
        | false =>
          exfalso
          have hlt2 : e.on < listed.size := by omega
          have hin : e.on ∈ i :: l := (hmem e.on).2 ⟨by omega, by
            rw [Array.getD_eq_getD_getElem?, Array.getElem?_eq_getElem hlt2] at hg ⊢; exact hg⟩
          rcases List.mem_cons.1 hin with h | h
          · omega
          · have := (List.pairwise_cons.1 hsort).1 _ h; omega⟩
      rw [hnil] at this; simp at this
  have tt : ∀ (listed : Array Bool) (k : Nat), listed.getD k false = true → listed.getD k true = true := by
    intro listed k h
    rw [Array.getD_eq_getD_getElem?] at h ⊢
    cases e : listed[k]? with
    | none => rfl
    | some b => rw [e] at h; simpa using h
  intro fuel
  induction fuel with
  | zero =>
    intro rem listed env H μ w a hrun hsort hmem hsz hcl hlen S hQ
    have h0 : rem = [] := List.eq_nil_of_length_eq_zero (by omega)
    have hnil : Region.ready .any ops listed = [] := by
      cases hr : Region.ready .any ops listed with
      | nil => rfl
      | cons i l =>
        have : i ∈ Region.ready .any ops listed := by rw [hr]; simp
        obtain ⟨h1, o, ho, _⟩ := mem_ready.1 this
        have : i ∈ rem := (hmem i).2 ⟨(Array.getElem?_eq_some_iff.1 ho).1, h1⟩
        rw [h0] at this; simp at this
    exact ⟨hnil, done rem listed hrun hmem hsz hsort S hQ hnil⟩
  | succ fuel ih =>
    intro rem listed env H μ w a hrun hsort hmem hsz hcl hlen S hQ
    refine ⟨done rem listed hrun hmem hsz hsort S hQ, fun i hi => ?_⟩
    obtain ⟨h1, o, ho, hed⟩ := mem_ready.1 hi
    have hisz := (Array.getElem?_eq_some_iff.1 ho).1
    have hir : i ∈ rem := (hmem i).2 ⟨hisz, h1⟩
    obtain ⟨pre, post, rfl⟩ := List.append_of_mem hir
    have hbits : ∀ x, ((befL ops.toList []).getD i 0).testBit x = true → listed.getD x true = true := by
      intro x hx
      have hM := (befL_spec ops.toList []).2 i o (by simpa using ho)
      simp only [List.length_nil, Nat.zero_add] at hM
      rw [List.getD_eq_getElem?_getD, hM] at hx
      obtain ⟨e, he, hb, hc⟩ := edgeBits_spec hx
      have hl := tt _ _ (hed e he hb)
      have hlt := regOk_edge hreg ho he hb
      rcases hc with rfl | hc
      · exact hl
      · refine hcl e.on (by omega) hl x ?_
        rw [List.getD_eq_getElem?_getD, List.getElem?_take, if_pos hlt, ← List.getD_eq_getElem?_getD] at hc
        exact hc
    have hb := RunL.bubble (fun x hx => ?_) hrun
    · cases hb with
      | cons _ _ o' _ _ H1 ho' hf hr =>
        rw [ho] at ho'; injection ho' with ho'; subst ho'
        obtain ⟨H1', k1, k2, k3, k4⟩ := hf.run o ho env H (fun _ _ => rfl) rfl rfl (fun _ _ => rfl)
        have e : H1' = H1 := ext_getB (by rw [k2, hf.len]) (fun id => by
          by_cases hw : id ∈ (L i).ws
          · exact k3 id (.inr hw)
          · rw [k4 id hw, hf.out id hw])
        subst e
        refine stepO_sound (yk := none) hP hT hS hyl (fun h => by cases h) (K := fun e h => some (e, h)) (r := (put env o.dst (L i).p, H1')) ho (fun h => by cases h) S (k1 _) ?_
        intro env2 H2 A2 μ2 w2 a2 S2 T2 hA hl2 hk
        obtain rfl := hA rfl
        simp only [Option.some.injEq, Prod.mk.injEq] at hk
        obtain ⟨rfl, rfl⟩ := hk
        refine ih (pre ++ post) (listed.setIfInBounds i true) hr (hsort.sublist (by simp)) (fun j => ?_) (by simp [hsz]) (fun j hj hlj x hx => ?_) (by simp at hlen ⊢; omega) S2 (fun μ3 w3 a3 S3 T3 hl3 => hQ μ3 w3 a3 S3 (T2.trans T3) (hl3.trans hl2))
        · have hm := hmem j
          have hni : i ∉ pre ++ post := by
            intro h
            have hp := List.pairwise_append.1 hsort
            rcases List.mem_append.1 h with h | h
            · exact Nat.lt_irrefl _ (hp.2.2 i h i (by simp))
            · exact Nat.lt_irrefl _ ((List.pairwise_cons.1 hp.2.1).1 i h)
          by_cases hji : j = i
          · subst hji
            constructor
            · intro h; exact absurd h hni
            · rintro ⟨_, h⟩
              rw [Array.getD_eq_getD_getElem?, Array.getElem?_setIfInBounds] at h
              simp [hsz, hisz] at h
          · rw [Array.getD_eq_getD_getElem?, Array.getElem?_setIfInBounds_ne (fun e => hji e.symm), ← Array.getD_eq_getD_getElem?, ← hm]
            simp [hji]
        · have mono : listed.getD x true = true → (listed.setIfInBounds i true).getD x true = true := getD_set_true'
          by_cases hji : j = i
          · subst hji; exact mono (hbits x hx)
          · refine mono (hcl j hj ?_ x hx)
            rw [Array.getD_eq_getD_getElem?, Array.getElem?_setIfInBounds_ne (fun e => hji e.symm), ← Array.getD_eq_getD_getElem?] at hlj
            exact hlj
    · have hlt : x < i := by
        have := List.pairwise_append.1 hsort
        exact this.2.2 x hx i (by simp)
      refine hI x i hlt hisz ?_
      cases hbt : ((befL ops.toList []).getD i 0).testBit x with
      | false => rfl
      | true =>
        have hl := hbits x hbt
        have := ((hmem x).1 (by simp [hx])).2
        rw [this] at hl; cases hl
end
end Go.Pe
namespace Go.Pe
variable {E : Types}
section
variable {C : Cfg E} {rid spare : Nat} {ops : Array Oper} {off : Nat → Nat}
theorem RunL.congr {L L' : Nat → SLog E} {env' : List (PVal E)} {H' : List (Blk E)} : ∀ {l : List Nat} {env : List (PVal E)} {H : List (Blk E)}, (∀ j ∈ l, L j = L' j) → RunL C rid spare ops off L env' H' l env H → RunL C rid spare ops off L' env' H' l env H
  | [], env, H, _, h => by cases h; exact .nil
  | j :: l, env, H, hj, h => by
    cases h with
    | cons _ _ o _ _ H1 ho hf hr =>
      have e := hj j (List.mem_cons_self ..)
      rw [e] at hf hr
      exact .cons j l o env H H1 ho hf (RunL.congr (fun k hk => hj k (List.mem_cons_of_mem _ hk)) hr)
theorem apartB_spec {a b : List Nat} (h : apartB a b = true) : ∀ x ∈ a, x ∉ b := by
  intro x hx hb
  have := List.all_eq_true.1 h x hx
  simp only [Bool.not_eq_true', List.any_eq_false] at this
  exact this x hb (by simp)
def Ap (rs ws : List Nat) (L : SLog E) : Prop := (∀ id, id ∈ ws → id ∉ L.rs ∧ id ∉ L.ws) ∧ ∀ id, id ∈ L.ws → id ∉ rs ∧ id ∉ ws
theorem Ap.none (L : SLog E) : Ap [] [] L := ⟨fun id h => by simp at h, fun id _ => ⟨by simp, by simp⟩⟩
theorem maskOf_testBit : ∀ (l : List Nat) (i : Nat), (maskOf l).testBit i = true ↔ i ∈ l
  | [], i => by simp [maskOf]
  | a :: l, i => by
    have e : maskOf (a :: l) = maskOf l ||| 2 ^ a := rfl
    rw [e, Nat.testBit_or, Bool.or_eq_true, maskOf_testBit l i, Nat.testBit_two_pow]
    simp only [decide_eq_true_eq, List.mem_cons]
    constructor
    · rintro (h | h)
      · exact .inr h
      · exact .inl h.symm
    · rintro (h | h)
      · exact .inr h.symm
      · exact .inl h
theorem maskOf_apart {a b : List Nat} (h : Nat.beq (Nat.land (maskOf a) (maskOf b)) 0 = true) : ∀ id, id ∈ a → id ∉ b := by
  intro id ha hb
  have h : maskOf a &&& maskOf b = 0 := Nat.eq_of_beq_eq_true h
  have := Nat.testBit_and (maskOf a) (maskOf b) id
  rw [h, (maskOf_testBit a id).2 ha, (maskOf_testBit b id).2 hb] at this
  simp at this
def maskL (log : List (Nat × List Nat × List Nat)) : List (Nat × Nat × Nat) := log.map fun e => (e.1, maskOf e.2.1, maskOf e.2.2)
theorem meets_spec {mask : Nat} {rs ws : List Nat} : ∀ {log : List (Nat × List Nat × List Nat)}, meets mask (maskOf rs) (maskOf ws) (maskL log) = true → ∀ e ∈ log, mask.testBit e.1 = false → ∀ p : PVal E, Ap e.2.1 e.2.2 ⟨p, rs, ws⟩
  | [], _, e, he, _, _ => by simp at he
  | (k, rk, wk) :: log, h, e, he, hb, p => by
    simp only [maskL, List.map_cons, meets, Bool.and_eq_true, Bool.or_eq_true] at h
    rcases List.mem_cons.1 he with rfl | he
    · rcases h.1 with h1 | h1
      · rw [hb] at h1; cases h1
      · obtain ⟨⟨h1, h2⟩, h3⟩ := h1
        exact ⟨fun id hid => ⟨maskOf_apart h1 id hid, maskOf_apart h2 id hid⟩, fun id hid => ⟨fun h => maskOf_apart h3 id h hid, fun h => maskOf_apart h2 id h hid⟩⟩
    · exact meets_spec h.2 e he hb p
theorem Ap.none' (p : PVal E) (rs ws : List Nat) : Ap rs ws ⟨p, [], []⟩ := ⟨fun id _ => ⟨by simp, by simp⟩, fun id h => by simp at h⟩
def sumN (l : List Oper) : Nat := l.foldl (fun n o => n + need o.op) 0
theorem sumN_cons (o : Oper) (l : List Oper) : sumN (o :: l) = need o.op + sumN l := by
  have : ∀ (l : List Oper) (n : Nat), l.foldl (fun n o => n + need o.op) n = n + l.foldl (fun n o => n + need o.op) 0 := by
    intro l
    induction l with
    | nil => intro n; rfl
    | cons o l ih => intro n; simp only [List.foldl_cons]; rw [ih, ih (0 + need o.op)]; omega
  unfold sumN
  rw [List.foldl_cons, this]; omega
theorem opsL_run (hyl : C.yl = false) {M : Nat → Nat} {R : Type} {K : List (PVal E) → List (Blk E) → Option R} {r : R} : ∀ (l : List Oper) (ms : List Nat) (i fresh : Nat) (log : List (Nat × List Nat × List Nat)) {env : List (PVal E)} {H : List (Blk E)},
    (∀ k o, l[k]? = some o → ops[i + k]? = some o) → (∀ k, k < l.length → ms[k]? = some (M (i + k))) → (∀ k, k < l.length → off (i + k) = fresh + sumN (l.take k)) → opsL C rid spare ops l ms i fresh (maskL log) env H K = some r →
    ∃ (L : Nat → SLog E) (env' : List (PVal E)) (H' : List (Blk E)), K env' H' = some r ∧ RunL C rid spare ops off L env' H' (List.range' i l.length) env H ∧
      ∀ y, i ≤ y → y < i + l.length → spare ∉ (L y).ws ∧ (∀ e ∈ log, (M y).testBit e.1 = false → Ap e.2.1 e.2.2 (L y)) ∧ ∀ x, i ≤ x → x < y → (M y).testBit x = false → Ap (L x).rs (L x).ws (L y)
  | [], ms, i, fresh, log, env, H, _, _, _, h => ⟨fun _ => ⟨.any, [], []⟩, env, H, by simpa [opsL] using h, .nil, fun y h1 h2 => by simp at h2; omega⟩
  | o :: l, [], i, fresh, log, env, H, _, hm, _, h => by simp [opsL] at h
  | o :: l, m :: ms, i, fresh, log, env, H, hl, hm, ho, h => by
    simp only [opsL] at h
    obtain ⟨p, H1, rs, ws, hk0, hlen, hout, hfr⟩ := stepL_frame hyl h
    have hk : ∃ log', opsL C rid spare ops l ms (i + 1) (fresh + need o.op) (maskL log') (put env o.dst p) H1 K = some r ∧ ((log' = log ∧ rs = [] ∧ ws = []) ∨ (log' = (i, rs, ws) :: log ∧ meets m (maskOf rs) (maskOf ws) (maskL log) = true ∧ spare ∉ ws)) := by
      split at hk0
      · exact ⟨log, hk0, .inl ⟨rfl, rfl, rfl⟩⟩
      · simp only [normN_eq] at hk0
        split at hk0
        rotate_left
        · cases hk0
        rename_i hc
        simp only [Bool.and_eq_true, Bool.not_eq_true'] at hc
        refine ⟨(i, rs, ws) :: log, hk0, .inr ⟨rfl, hc.1, fun hs => ?_⟩⟩
        rw [(maskOf_testBit ws spare).2 hs] at hc
        exact absurd hc.2 (by simp)
    obtain ⟨log', hk1, hcase⟩ := hk
    have hm0 : m = M i := by have := hm 0 (by simp); simpa using this
    subst hm0
    have ho0 : off i = fresh := by have := ho 0 (by simp); simpa [sumN] using this
    obtain ⟨L, env', H', k1, k2, k3⟩ := opsL_run hyl l ms (i + 1) _ _ (fun k o' hk' => by rw [show i + 1 + k = i + (k + 1) by omega]; exact hl (k + 1) o' (by simpa using hk'))
      (fun k hk' => by rw [show i + 1 + k = i + (k + 1) by omega]; have := hm (k + 1) (by simpa using hk'); simpa using this)
      (fun k hk' => by rw [show i + 1 + k = i + (k + 1) by omega]; have := ho (k + 1) (by simpa using hk'); rw [this, List.take_succ_cons, sumN_cons]; omega) hk1
    let L' : Nat → SLog E := fun j => if j = i then ⟨p, rs, ws⟩ else L j
    have e1 : L' i = ⟨p, rs, ws⟩ := if_pos rfl
    have e2 : ∀ j, i < j → L' j = L j := fun j hj => if_neg (by omega)
    refine ⟨L', env', H', k1, ?_, fun y h1 h2 => ?_⟩
    · rw [List.length_cons, List.range'_succ]
      refine .cons i _ o env H H1 (hl 0 o rfl) ⟨hlen, fun id hid => hout id (by rw [e1] at hid; exact hid), fun o' ho' env1 H2 ha hl2 hsp hg => ?_⟩ ?_
      · have e3 : o' = o := by have := hl 0 o rfl; rw [Nat.add_zero, ho'] at this; injection this
        subst e3
        rw [e1] at hg ⊢
        rw [ho0]
        exact hfr env1 H2 ha hl2 hsp hg
      · rw [e1]
        exact RunL.congr (fun j hj => (e2 j (by have := List.mem_range'_1.1 hj; omega)).symm) k2
    · by_cases hy : y = i
      · subst hy
        rw [e1]
        rcases hcase with ⟨_, rfl, rfl⟩ | ⟨_, hc1, hc2⟩
        · exact ⟨by simp, fun e he hb => Ap.none' _ _ _, fun x h3 h4 => by omega⟩
        · exact ⟨hc2, fun e he hb => meets_spec hc1 e he hb p, fun x h3 h4 => by omega⟩
      · obtain ⟨g1, g2, g3⟩ := k3 y (by omega) (by simp at h2; omega)
        rw [e2 y (by omega)]
        refine ⟨g1, fun e he hb => g2 e ?_ hb, fun x h3 h4 hb => ?_⟩
        · rcases hcase with ⟨rfl, _, _⟩ | ⟨rfl, _, _⟩
          · exact he
          · exact List.mem_cons_of_mem _ he
        · by_cases hx : x = i
          · subst hx
            rw [e1]
            rcases hcase with ⟨_, rfl, rfl⟩ | ⟨rfl, _, _⟩
            · exact Ap.none _
            · exact g2 (x, _, _) (List.mem_cons_self ..) hb
          · rw [e2 x (by omega)]
            exact g3 x (by omega) h4 hb
theorem dstIn_spec {a : Option Nat} {l : List Nat} (h : dstIn a l = false) : ∀ d, a = some d → d ∉ l := by
  rintro d rfl hd
  simp only [dstIn, List.any_eq_false] at h
  exact h d hd (by simp)
theorem regOk_slots (h : regOk ops = true) {x y : Nat} {ox oy : Oper} (hx : ops[x]? = some ox) (hy : ops[y]? = some oy) (hlt : x < y) (hb : ((befL ops.toList []).getD y 0).testBit x = false) :
    (∀ d, ox.dst = some d → oy.dst ≠ some d) ∧ (∀ d, ox.dst = some d → d ∉ looks ops oy) ∧ ∀ d, oy.dst = some d → d ∉ looks ops ox := by
  unfold regOk at h
  have hj : y < ops.size := (Array.getElem?_eq_some_iff.1 hy).1
  have := List.all_eq_true.1 h y (List.mem_range.2 hj)
  rw [hy] at this
  split at this
  · rename_i oj m e1 e2
    injection e1 with e1; subst e1
    simp only [Bool.and_eq_true] at this
    have := List.all_eq_true.1 this.2 x (List.mem_range.2 hlt)
    rw [List.getD_eq_getElem?_getD, e2] at hb
    have hb : m.testBit x = false := by simpa using hb
    rw [hb, hx] at this
    simp only [Bool.false_or, Bool.and_eq_true, Bool.not_eq_true'] at this
    obtain ⟨⟨h1, h2⟩, h3⟩ := this
    refine ⟨fun d hd hd2 => ?_, dstIn_spec h2, dstIn_spec h3⟩
    rw [hd, hd2] at h1
    simp [sameDst] at h1
  · cases this
theorem regOk_bef (h : regOk ops = true) : ∀ k, k < ops.size → (befL ops.toList [])[k]? = some ((befL ops.toList []).getD k 0) := by
  intro k hk
  unfold regOk at h
  have := List.all_eq_true.1 h k (List.mem_range.2 hk)
  split at this
  · rename_i oj m e1 e2
    rw [List.getD_eq_getElem?_getD, e2]; rfl
  · cases this
theorem opsL_sound {P : Program} (hP : C.P = P) (hyl : C.yl = false) {ro : Option Nat} {n : Nat} {G : Nat → Prop} {W0 : World} {A0 : Nat → Prop} {μ : Nat → Loc} {H : List (Blk E)} {w : World} {env : List (PVal E)} {a : Act} {fresh : Nat} (hT : tabB E.leaves C.P C.tab = true) (hS : SpecsOk C G W0) {R : Type} {K : List (PVal E) → List (Blk E) → Option R} {r : R}
    {Q : Exit → Act → World → Prop} (hreg : regOk ops = true) (S : St (C := C) (P := P) G W0 none A0 μ H w env a) (h : opsL C rid spare ops ops.toList (befL ops.toList []) 0 fresh [] env H K = some r) (hN : After (C := C) (P := P) G W0 none A0 μ H w env.length K r (Q .normal)) :
    wpAnyIn (wideR ro) n P .any ops Q ops.size (Array.replicate ops.size false) a w := by
  obtain ⟨L, env', H', k1, k2, k3⟩ := opsL_run hyl (M := fun k => (befL ops.toList []).getD k 0) (off := fun j => fresh + sumN (ops.toList.take j)) ops.toList _ 0 fresh [] (fun k o hk => by simpa using hk)
    (fun k hk => by rw [Nat.zero_add]; exact regOk_bef hreg k (by simpa using hk)) (fun k _ => by simp) h
  have e : List.range' 0 ops.toList.length = List.range ops.size := by rw [List.range_eq_range', Array.length_toList]
  rw [e] at k2
  refine draw_any hP hyl hT hS (L := L) hreg ?_ ops.size (List.range ops.size) _ k2 List.pairwise_lt_range (fun i => ?_) (by simp) (fun j hj hlj => ?_) (by simp) S (fun μ' w' a' S' T hl => hN _ _ _ _ _ _ S' T (fun _ => rfl) hl k1)
  · intro x y hlt hy hb
    obtain ⟨g1, _, g3⟩ := k3 y (Nat.zero_le _) (by simpa using hy)
    obtain ⟨g4, _, _⟩ := k3 x (Nat.zero_le _) (by simp; omega)
    obtain ⟨h1, h2⟩ := g3 x (Nat.zero_le _) hlt hb
    exact ⟨h1, h2, g4, g1, fun ox oy hox hoy => regOk_slots hreg hox hoy hlt hb⟩
  · simp only [List.mem_range]
    constructor
    · intro hi
      refine ⟨hi, ?_⟩
      rw [Array.getD_eq_getD_getElem?]
      simp [hi]
    · exact fun h => h.1
  · rw [Array.getD_eq_getD_getElem?] at hlj
    simp [hj] at hlj
end
end Go.Pe
