/- Own work of this seat: OpF, OpG, OpH, OpI, OpJ, OpK, OpL, OpN, OpO, OpP, OpM, Abs, Abs2, Abs3. -/
import Derived.Test.YtofljjggmmcgjaaGreatDoorTPeA
import Derived.Laws.Append
import Derived.Laws.BitsLemmas
import Derived.Laws.Bits64
import Derived.Laws.Shifts
import Derived.Laws.StructEq
import Derived.Laws.Concat
import Derived.ChangeKeysEq
import Derived.MapKept
import GoSem.Dispatch
set_option linter.unusedVariables false
set_option linter.unusedSimpArgs false
set_option linter.unnecessarySimpa false
set_option linter.unusedSectionVars false
set_option linter.deprecated false
namespace Go.Pe
variable {E : Types}
section
variable {P : Program} {tab : List (Nat × TI)} {A0 : Nat → Prop} {μ : Nat → Loc} {H : List (Blk E)} {w : World} {R : Type} {K : PVal E → List (Blk E) → Option R} {r : R}
structure RowCells (w : World) (A : Nat → Prop) (e : Ty) (l : List (Den E.T e)) (cells : Array Value) (vs : Nat → Value) : Prop where
  size : cells.size = l.length * e.size E
  at_ : ∀ i, i < l.length → ∀ j u, (vs i).cells[j]? = some u → cells[i * e.size E + j]? = some u
  rep : ∀ i (h : i < l.length), RepT E w A e (vs i) l[i]
def joinV (vs : Nat → Value) (n : Nat) : List Value := (List.range n).flatMap fun i => (vs i).cells.toList
theorem joinV_len (vs : Nat → Value) (s : Nat) : ∀ n, (∀ i, i < n → (vs i).cells.size = s) → (joinV vs n).length = n * s
  | 0, _ => by simp [joinV]
  | n + 1, h => by
    have := joinV_len vs s n (fun i hi => h i (by omega))
    simp only [joinV, List.range_succ, List.flatMap_append, List.length_append] at this ⊢
    rw [this]
    simp [h n (by omega), Nat.add_mul]
theorem joinV_get (vs : Nat → Value) (s : Nat) : ∀ n, (∀ i, i < n → (vs i).cells.size = s) → ∀ i, i < n → ∀ j u, (vs i).cells[j]? = some u → (joinV vs n)[i * s + j]? = some u
  | 0, _, i, hi, _, _, _ => by omega
  | n + 1, h, i, hi, j, u, hu => by
    have hl := joinV_len vs s n (fun i hi => h i (by omega))
    have hj : j < s := by
      rw [← h i hi]
      rcases Nat.lt_or_ge j (vs i).cells.size with h' | h'
      · exact h'
      · rw [Array.getElem?_eq_none h'] at hu; cases hu
    have e1 : joinV vs (n + 1) = joinV vs n ++ (vs n).cells.toList := by simp [joinV, List.range_succ]
    rw [e1]
    by_cases hin : i < n
    · have : (i + 1) * s ≤ n * s := Nat.mul_le_mul_right _ hin
      rw [Nat.add_mul] at this
      rw [List.getElem?_append_left (by omega)]
      exact joinV_get vs s n (fun i hi => h i (by omega)) i hin j u hu
    · have : i = n := by omega
      subst this
      rw [List.getElem?_append_right (by omega), hl]
      simpa using hu
theorem rep_len {A : Nat → Prop} {e : Ty} {l : List (Den E.T e)} {v : Value} (h : RepT E w A (.slice e) v l) : ∃ a c, v = .slice a l.length c := by
  cases h with
  | nil e a c => exact ⟨a, c, rfl⟩
  | slice e b off cap l vs hA hb hc hm hr => exact ⟨_, cap, rfl⟩
theorem run_firstCells {A : Nat → Prop} {e : Ty} {l : List (Den E.T e)} {v : Value} (h : RepT E w A (.slice e) v l) : ∃ cells vs, RowCells w A e l cells vs ∧
    ∀ w' : World, w'.heap = w.heap → (Builtin.firstCells (e.size E) l.length v).run P w' = .ok cells w' := by
  cases h with
  | nil e a cap =>
    refine ⟨#[], fun _ => undef, ⟨by simp, fun i hi => by simp at hi, fun i hi => by simp at hi⟩, fun w' _ => ?_⟩
    cases a <;> simp [Builtin.firstCells, loadCells, loadCellsFrom]
  | slice e b off cap l vs hA hb hc hm hr =>
    have hs : ∀ i, i < l.length → (vs i).cells.size = e.size E := fun i hi => (hr i hi).size
    have hlen := joinV_len vs (e.size E) l.length hs
    refine ⟨(joinV vs l.length).toArray, vs, ⟨by simpa using hlen, fun i hi j u hu => ?_, hr⟩, fun w' hw => ?_⟩
    · simpa using joinV_get vs (e.size E) l.length hs i hi j u hu
    · have := run_loadCells_list (P := P) w' ⟨b, off, none⟩ (joinV vs l.length) (fun j u hu => by
        rw [addr_add]
        have hj : j < l.length * e.size E := by
          rw [← hlen]
          exact (List.getElem?_eq_some_iff.1 hu).1
        have hpos : 0 < e.size E := by
          rcases Nat.eq_zero_or_pos (e.size E) with h0 | h0
          · rw [h0] at hj; simp at hj
          · exact h0
        have hi : j / e.size E < l.length := (Nat.div_lt_iff_lt_mul hpos).2 hj
        have hjm : j % e.size E < (vs (j / e.size E)).cells.size := by rw [hs _ hi]; exact Nat.mod_lt _ hpos
        have hu' := joinV_get vs (e.size E) l.length hs _ hi (j % e.size E) _ (Array.getElem?_eq_getElem hjm)
        have hdm : j / e.size E * e.size E + j % e.size E = j := Nat.div_add_mod' j (e.size E)
        rw [hdm, hu] at hu'
        injection hu' with hu'
        subst hu'
        have := hm _ hi (j % e.size E) _ (Array.getElem?_eq_getElem hjm)
        rw [Nat.add_assoc, hdm] at this
        simpa [World.cell?, hw] using this)
      rw [hlen] at this
      simpa [Builtin.firstCells] using this
theorem run_append_grows (hT : tabB E.leaves P tab = true) {t1 t2 : Nat} {type : TypeId} {e e2 : Nat} {u : TI} (hd : P.underlying t1 = some (.slice e)) (hu : look tab e = some u)
    (hd2 : P.underlying t2 = some (.slice e2)) {base : Option Addr} {len cap n : Nat} {x : Value} {old new : Array Value}
    (hlen : (Builtin.lenOf x).run P w = .ok n w) (hold : ∀ w' : World, w'.heap = w.heap → (Builtin.firstCells u.size len (.slice base len cap)).run P w' = .ok old w')
    (hnew : ∀ w' : World, w'.heap = w.heap → (Builtin.firstCells u.size n x).run P w' = .ok new w') (hg : cap < len + n) (hb : len + n < 4294967296) :
    ∃ newCap, len + n ≤ newCap ∧ (Builtin.append_ #[t1, t2] type #[.slice base len cap, x]).run P w =
      .ok (.slice (some ⟨w.heap.size, 0, none⟩) (len + n) newCap) (w.drew.alloc (.cells (old ++ new ++ Builtin.zeroCells (zeroV u).cells (newCap - (len + n))) e)) := by
  obtain ⟨f, hf, hf1, hf2, hf3⟩ := ti_info hT hu
  have hbytes := ti_bytes hT hu
  have hfit : Builtin.nextslicecap (len + n) cap * f.bytes ≤ 281474976710656 := by
    refine growslice_fits hg ?_
    rw [hf2]
    have := Nat.mul_le_mul (Nat.le_of_lt hb) hbytes
    omega
  refine ⟨grownCap w (len + n) cap e, by simp only [grownCap, Question.cut]; omega, ?_⟩
  have hn : ¬ (len + n ≤ cap) := by omega
  have h63' : ¬ (9223372036854775807 < ((len : Int) + (n : Int))) := by omega
  have h48' : ¬ (281474976710656 < Builtin.nextslicecap (len + n) cap * f.bytes) := by omega
  have h1 := hold w.drew rfl
  have h2 := hnew w.drew rfl
  rw [← hf1] at h1 h2
  simp [Builtin.append_, run_underlying hd, run_underlying hd2, sizeOf, typeInfo, zeroValue, hf, hf3, hlen, hn, h63', h48', Question.forced, h1, h2, newRow, grownCap]
theorem run_appendZ_grows (hT : tabB E.leaves P tab = true) {t1 t2 : Nat} {type : TypeId} {e : Nat} {u : TI} {k2 : IntKind} (hd : P.underlying t1 = some (.slice e)) (hu : look tab e = some u)
    (hd2 : P.underlying t2 = some (.int k2)) {base : Option Addr} {len cap n : Nat} {old : Array Value}
    (hold : ∀ w' : World, w'.heap = w.heap → (Builtin.firstCells u.size len (.slice base len cap)).run P w' = .ok old w') (hg : cap < len + n) (hb : len + n < 4294967296) (hs : u.size ≠ 0) (hz : n ≠ 0) :
    ∃ newCap, len + n ≤ newCap ∧ (Builtin.append_ #[t1, t2] type #[.slice base len cap, .int .i64 (n : Int)]).run P w =
      .ok (.slice (some ⟨w.heap.size, 0, none⟩) (len + n) newCap) (w.drew.alloc (.cells (old ++ (Builtin.zeroCells (zeroV u).cells n) ++ Builtin.zeroCells (zeroV u).cells (newCap - (len + n))) e)) := by
  obtain ⟨f, hf, hf1, hf2, hf3⟩ := ti_info hT hu
  have hbytes := ti_bytes hT hu
  have hfit : Builtin.nextslicecap (len + n) cap * f.bytes ≤ 281474976710656 := by
    refine growslice_fits hg ?_
    rw [hf2]
    have := Nat.mul_le_mul (Nat.le_of_lt hb) hbytes
    omega
  refine ⟨grownCap w (len + n) cap e, by simp only [grownCap, Question.cut]; omega, ?_⟩
  have hn : ¬ (len + n ≤ cap) := by omega
  have hw : IntKind.i64.wrap (n : Int) = n := by
    have h1 : (n : Int) % 2 ^ 64 = n := by omega
    simp only [IntKind.wrap, IntKind.signed, IntKind.bits, h1]
    rw [if_neg (by simp; omega)]
  have h63' : ¬ (9223372036854775807 < ((len : Int) + (n : Int))) := by omega
  have h48' : ¬ (281474976710656 < Builtin.nextslicecap (len + n) cap * f.bytes) := by omega
  have h48'' : ¬ ((281474976710656 : Int) < (n : Int) * f.bytes) := by
    rw [hf2]
    have h1 : n * u.bytes ≤ 4294967296 * 4096 := Nat.mul_le_mul (by omega) hbytes
    have : ((n * u.bytes : Nat) : Int) = (n : Int) * u.bytes := by simp
    omega
  have hn0 : ¬ ((n : Int) < 0) := by omega
  have h1 := hold w.drew rfl
  rw [← hf1] at h1 hs
  simp [Builtin.append_, run_underlying hd, run_underlying hd2, asInt, asIntOf, sizeOf, typeInfo, zeroValue, hf, hf3, hn, hw, h63', h48', h48'', hn0, Question.forced, h1, newRow, grownCap, hz, hs]
  intro h0; exact absurd h0 (Nat.mul_ne_zero hz hs)
theorem zero_leaf_rep {A : Nat → Prop} {z : Z} {t : Ty} (h : z.is t = true) {x : Den E.T t} (hx : zeroLeaf (E := E) t = some x) : RepT E w A t z.toV x := by
  cases z <;> cases t <;> simp [Z.is] at h
  · simp [zeroLeaf] at hx; subst hx; exact .bool false
  · rename_i k k'; subst h; simp [zeroLeaf] at hx; subst hx
    have := RepT.int (E := E) (w := w) (A := A) k (ofLit k 0)
    cases k <;> exact this
  · simp [zeroLeaf] at hx; subst hx; exact .str _
  · simp [zeroLeaf] at hx; subst hx; exact .nil _ none 0
theorem zeroHL_rep {A : Nat → Prop} : ∀ {zs : List Z} {ts : List Ty} {x : HL E.T ts}, zsAre zs ts = true → zeroHL (E := E) ts = some x →
    ∀ i (hi : i < ts.length), RepT E w A ts[i] ((zs.map Z.toV).getD i undef) (HL.get ts x i hi)
  | [], [], _, _, _, i, hi => by simp at hi
  | [], _ :: _, _, h, _, _, _ => by simp [zsAre] at h
  | _ :: _, [], _, h, _, _, _ => by simp [zsAre] at h
  | z :: zs, t :: ts, x, h, hx, i, hi => by
    simp only [zsAre, Bool.and_eq_true] at h
    simp only [zeroHL] at hx
    split at hx
    · rename_i a b ha hb
      injection hx with hx
      subst hx
      cases i with
      | zero => simpa [HL.get] using zero_leaf_rep h.1 ha
      | succ i => simpa [HL.get] using zeroHL_rep h.2 hb i (Nat.lt_of_succ_lt_succ hi)
    · cases hx
theorem zeroT_rep {A : Nat → Prop} (hT : tabB E.leaves P tab = true) {t : Nat} {u : TI} (hu : look tab t = some u) {e : Ty} (hty : u.ty = some e) {z : Den E.T e} (hz : zeroT (E := E) e = some z) : RepT E w A e (zeroV u) z := by
  have h1 := ti_ty hT hu
  have leaf : ∀ {e : Ty} {z : Den E.T e}, u.agg = false → (match u.zero with | [z] => z.is e | _ => false) = true → zeroLeaf (E := E) e = some z → RepT E w A e (zeroV u) z := by
    intro e z ha h hz
    split at h
    · rename_i z' hz'
      have : zeroV u = z'.toV := by simp [zeroV, ha, hz']
      rw [this]
      exact zero_leaf_rep h hz
    · cases h
  cases e with
  | named n =>
    simp only [tyB, hty, Bool.and_eq_true] at h1
    simp only [zeroT, Option.map_eq_some_iff] at hz
    obtain ⟨x, hx, rfl⟩ := hz
    have : zeroV u = .agg (u.zero.map Z.toV).toArray := by simp [zeroV, h1.1]
    rw [this]
    refine .named n _ _ (by simp [zsAre_len h1.2]) (fun i hi => ?_)
    rw [E.up]
    have := zeroHL_rep (w := w) (A := A) h1.2 hx i hi
    simpa [Array.getD_eq_getD_getElem?] using this
  | arr n e => simp [zeroT, zeroLeaf] at hz
  | slice e =>
    simp only [tyB, hty, Bool.and_eq_true, Bool.not_eq_true'] at h1
    refine leaf h1.1.1.1 ?_ hz
    have h2 := h1.1.2
    split at h2
    · rename_i hz'; rw [hz']; rfl
    · cases h2
  | bool => simp only [tyB, hty, Bool.and_eq_true, Bool.not_eq_true'] at h1; exact leaf h1.1 h1.2 hz
  | int k => simp only [tyB, hty, Bool.and_eq_true, Bool.not_eq_true'] at h1; exact leaf h1.1 h1.2 hz
  | str => simp only [tyB, hty, Bool.and_eq_true, Bool.not_eq_true'] at h1; exact leaf h1.1 h1.2 hz
theorem zeroRows {A : Nat → Prop} (hT : tabB E.leaves P tab = true) {t : Nat} {u : TI} (hu : look tab t = some u) {e : Ty} (hty : u.ty = some e) {z : Den E.T e} (hz : zeroT (E := E) e = some z) (n : Nat) :
    RowCells w A e (List.replicate n z) (Builtin.zeroCells (zeroV u).cells n) (fun _ => zeroV u) := by
  have hr := zeroT_rep (w := w) (A := A) hT hu hty hz
  have hs := hr.size
  refine ⟨by simp [Builtin.zeroCells, hs], fun i hi j v hv => ?_, fun i hi => by simpa using hr⟩
  have hj : j < (zeroV u).cells.size := by
    rcases Nat.lt_or_ge j (zeroV u).cells.size with h' | h'
    · exact h'
    · rw [Array.getElem?_eq_none h'] at hv; cases hv
  simp only [List.length_replicate] at hi
  have hlt : i * e.size E + j < n * (zeroV u).cells.size := by
    have : (i + 1) * e.size E ≤ n * e.size E := Nat.mul_le_mul_right _ hi
    rw [Nat.add_mul] at this
    rw [hs] at hj ⊢
    omega
  have hmod : (i * e.size E + j) % (zeroV u).cells.size = j := by
    rw [hs] at hj ⊢
    rw [Nat.mul_comm, Nat.mul_add_mod, Nat.mod_eq_of_lt hj]
  simp only [Builtin.zeroCells]
  rw [Array.getElem?_map, Array.getElem?_range, if_pos hlt]
  simp only [Option.map_some, hmod]
  rw [← hv, getElem!_pos _ j hj, Array.getElem?_eq_getElem hj]
theorem run_append_room' (hT : tabB E.leaves P tab = true) {t1 t2 : Nat} {type : TypeId} {e e2 : Nat} {u : TI} (hd : P.underlying t1 = some (.slice e)) (hu : look tab e = some u) (hd2 : P.underlying t2 = some (.slice e2))
    {b off len cap n : Nat} {x : Value} {new cur : Array Value} {t : TypeId} (hlen : (Builtin.lenOf x).run P w = .ok n w) (hnew : (Builtin.firstCells u.size n x).run P w = .ok new w) (hg : len + n ≤ cap)
    (hh : w.heap[b]? = some (.cells cur t (0, 0))) (hfit : off + len * u.size + new.size ≤ cur.size) (hone : ∀ v ∈ new.toList, v.oneCell' = true) :
    (Builtin.append_ #[t1, t2] type #[.slice (some ⟨b, off, none⟩) len cap, x]).run P w =
      .ok (.slice (some ⟨b, off, none⟩) (len + n) cap) (w.setRow b (cur.toList.take (off + len * u.size) ++ new.toList ++ cur.toList.drop (off + len * u.size + new.size)).toArray) := by
  have hst := run_storeCells_at (P := P) b (off + len * u.size) t new.toList 0 cur w hh (by simpa using hfit) hone
  simp only [Nat.add_zero] at hst
  have hst' : Sem.run P (storeCells ⟨b, off + len * u.size, none⟩ new.toList) w = _ := hst
  simp [Builtin.append_, run_underlying hd, run_underlying hd2, run_sizeOf' hT hu, hlen, hg, hnew, addr_add, hst']
theorem run_appendZ_room' (hT : tabB E.leaves P tab = true) {t1 t2 : Nat} {type : TypeId} {e : Nat} {u : TI} {k2 : IntKind} (hd : P.underlying t1 = some (.slice e)) (hu : look tab e = some u) (hd2 : P.underlying t2 = some (.int k2))
    {b off len cap n : Nat} {cur : Array Value} {t : TypeId} (hg : len + n ≤ cap) (hn : n ≠ 0) (hs : u.size ≠ 0) (hb : n < 4294967296)
    (hh : w.heap[b]? = some (.cells cur t (0, 0))) (hfit : off + len * u.size + (Builtin.zeroCells (zeroV u).cells n).size ≤ cur.size) (hone : ∀ v ∈ (Builtin.zeroCells (zeroV u).cells n).toList, v.oneCell' = true) :
    (Builtin.append_ #[t1, t2] type #[.slice (some ⟨b, off, none⟩) len cap, .int .i64 (n : Int)]).run P w =
      .ok (.slice (some ⟨b, off, none⟩) (len + n) cap) (w.setRow b (cur.toList.take (off + len * u.size) ++ (Builtin.zeroCells (zeroV u).cells n).toList ++ cur.toList.drop (off + len * u.size + (Builtin.zeroCells (zeroV u).cells n).size)).toArray) := by
  obtain ⟨f, hf, hf1, hf2, hf3⟩ := ti_info hT hu
  have hbytes := ti_bytes hT hu
  have hst := run_storeCells_at (P := P) b (off + len * u.size) t (Builtin.zeroCells (zeroV u).cells n).toList 0 cur w hh (by simpa using hfit) hone
  simp only [Nat.add_zero] at hst
  have hst' : Sem.run P (storeCells ⟨b, off + len * u.size, none⟩ (Builtin.zeroCells (zeroV u).cells n).toList) w = _ := hst
  have hw : IntKind.i64.wrap (n : Int) = n := by
    have h1 : (n : Int) % 2 ^ 64 = n := by omega
    simp only [IntKind.wrap, IntKind.signed, IntKind.bits, h1]
    rw [if_neg (by simp; omega)]
  have h48'' : ¬ ((281474976710656 : Int) < (n : Int) * f.bytes) := by
    rw [hf2]
    have h1 : n * u.bytes ≤ 4294967296 * 4096 := Nat.mul_le_mul (by omega) hbytes
    have : ((n * u.bytes : Nat) : Int) = (n : Int) * u.bytes := by simp
    omega
  have hn0 : ¬ ((n : Int) < 0) := by omega
  have hti : ∀ w', (typeInfo e).run P w' = .ok f w' := fun w' => by simp [typeInfo, hf]
  simp [Builtin.append_, run_underlying hd, run_underlying hd2, asInt, asIntOf, run_sizeOf' hT hu, hti, run_zeroValue' hT hu, hw, h48'', hn0, hg, hn, hs, addr_add, hst']
  intro h0; exact absurd h0 (Nat.mul_ne_zero hn hs)
theorem RowCells.mono {A A' : Nat → Prop} {w w' : World} {e : Ty} {l : List (Den E.T e)} {cells : Array Value} {vs : Nat → Value} (h : RowCells w A e l cells vs) (k : ∀ {v x}, RepT E w A e v x → RepT E w' A' e v x) : RowCells w' A' e l cells vs :=
  ⟨h.size, h.at_, fun i hi => k (h.rep i hi)⟩
theorem RowCells.append {A : Nat → Prop} {e : Ty} {l l2 : List (Den E.T e)} {c c2 : Array Value} {vs vs2 : Nat → Value} (h : RowCells w A e l c vs) (h2 : RowCells w A e l2 c2 vs2) :
    RowCells w A e (l ++ l2) (c ++ c2) (fun i => if i < l.length then vs i else vs2 (i - l.length)) := by
  refine ⟨by simp [h.size, h2.size, Nat.add_mul], fun i hi j u hu => ?_, fun i hi => ?_⟩
  · by_cases hl : i < l.length
    · simp only [hl, if_true] at hu
      have := h.at_ i hl j u hu
      rw [Array.getElem?_append_left (Array.getElem?_eq_some_iff.1 this).1]
      exact this
    · simp only [hl, if_false] at hu
      have hi2 : i - l.length < l2.length := by simp at hi; omega
      have := h2.at_ (i - l.length) hi2 j u hu
      have e1 : i * e.size E = l.length * e.size E + (i - l.length) * e.size E := by rw [← Nat.add_mul]; congr 1; omega
      rw [Array.getElem?_append_right (by rw [h.size]; omega), h.size]
      rw [show i * e.size E + j - l.length * e.size E = (i - l.length) * e.size E + j by omega]
      exact this
  · by_cases hl : i < l.length
    · simp only [hl, if_true]
      rw [List.getElem_append_left hl]
      exact h.rep i hl
    · simp only [hl, if_false]
      have hi2 : i - l.length < l2.length := by simp at hi; omega
      rw [List.getElem_append_right (by omega)]
      exact h2.rep _ hi2
structure Apd (P : Program) (E : Types) (A0 : Nat → Prop) (μ : Nat → Loc) (H : List (Blk E)) (w : World) (t1 t2 e : Nat) (u : TI) (type : TypeId) (τ : Ty) (l2 : List (Den E.T τ)) (x : Value) (new : Array Value) (vs : Nat → Value) : Prop where
  rows : RowCells w (Av A0 μ H) τ l2 new vs
  one : ∀ v ∈ new.toList, v.oneCell' = true
  grows : ∀ {base : Option Addr} {len cap : Nat} {old : Array Value}, (∀ w' : World, w'.heap = w.heap → (Builtin.firstCells u.size len (.slice base len cap)).run P w' = .ok old w') → cap < len + l2.length → len + l2.length < 4294967296 →
    ∃ newCap, len + l2.length ≤ newCap ∧ (Builtin.append_ #[t1, t2] type #[.slice base len cap, x]).run P w =
      .ok (.slice (some ⟨w.heap.size, 0, none⟩) (len + l2.length) newCap) (w.drew.alloc (.cells (old ++ new ++ Builtin.zeroCells (zeroV u).cells (newCap - (len + l2.length))) e))
  fits : ∀ {b off len cap : Nat} {cur : Array Value} {t : TypeId}, len + l2.length ≤ cap → w.heap[b]? = some (.cells cur t (0, 0)) → off + len * u.size + new.size ≤ cur.size →
    (Builtin.append_ #[t1, t2] type #[.slice (some ⟨b, off, none⟩) len cap, x]).run P w =
      .ok (.slice (some ⟨b, off, none⟩) (len + l2.length) cap) (w.setRow b (cur.toList.take (off + len * u.size) ++ new.toList ++ cur.toList.drop (off + len * u.size + new.size)).toArray)
  none_ : ∀ {base : Option Addr}, l2.length = 0 → (Builtin.append_ #[t1, t2] type #[.slice base 0 0, x]).run P w = .ok (.slice base 0 0) w
theorem newRow_ok {fresh : Nat} {e : Ty} {l : List (Den E.T e)} {cells rest : Array Value} {vs : Nat → Value} {t : TypeId} {newCap : Nat} (S : HSim A0 μ H w) (F : FreeAt H fresh A0 w) (hr : RowCells w (Av A0 μ H) e l cells vs) (hcap : l.length ≤ newCap)
    (hsz : (cells ++ rest).size = newCap * e.size E) {w1 : World} (hw : w1.heap = w.heap) (q : Quiet w w1) :
    let loc := Loc.blk w.heap.size 0 l.length newCap
    let H' := H.set fresh (.row true e l)
    let w' := w1.alloc (.cells (cells ++ rest) t)
    Trans A0 μ H w (setL μ fresh loc) H' w' ∧ HSim A0 (setL μ fresh loc) H' w' ∧ Rp E A0 (setL μ fresh loc) H' w' (.own fresh) (.slice (some ⟨w.heap.size, 0, none⟩) l.length newCap) := by
  intro loc H' w'
  have hb : ∀ b, b < w.heap.size → w'.heap[b]? = w.heap[b]? := fun b hb => by
    show (w1.heap.push _)[b]? = _
    rw [hw, Array.getElem?_push, if_neg (by omega)]
  have hq : Quiet w w' := ⟨q.os, q.tape, q.output, by show _ ≤ (w1.heap.push _).size; rw [hw]; simp⟩
  have T : Trans A0 μ H w (setL μ fresh loc) H' w' := Trans.fresh fresh loc _ F.free F.lt hq hb (fun b o n c e => by injection e with e; omega)
  refine ⟨T, S.fresh fresh loc _ F.free F.lt hq hb (fun b o n c e => by injection e with e; subst e; exact ⟨Nat.le_refl _, by show _ < (w1.heap.push _).size; rw [hw]; simp⟩) F.A0 ?_, ?_⟩
  · refine .inl ⟨w.heap.size, 0, newCap, cells ++ rest, vs, rfl, ⟨t, (0, 0), ?_, fun _ => rfl⟩, hcap, by rw [hsz]; omega, fun i hi j u hu => ?_, fun i hi => T.repT (hr.rep i hi)⟩
    · show (w1.heap.push _)[w.heap.size]? = _
      rw [hw]; simp
    · have := hr.at_ i hi j u hu
      rw [Nat.zero_add, Array.getElem?_append_left (Array.getElem?_eq_some_iff.1 this).1]
      exact this
  · exact .own fresh _ _ _ _ (by unfold Us; rw [getB_set_eq _ _ _ F.lt]; rfl) (setL_eq _ _ _)
theorem room_some {α : Type} {l l' : List α} (h : room l = some l') : l' = l ∧ l.length < 4294967296 := by
  unfold room at h
  cases hd : decide (l.length < 4294967296) with
  | false => simp [hd] at h
  | true => simp only [hd, cond_true] at h; injection h with h; exact ⟨h.symm, by simpa using hd⟩
theorem appendL_sound (hT : tabB E.leaves P tab = true) {t1 t2 e : Nat} {u : TI} {type : TypeId} {τ : Ty} (hu : look tab e = some u) (hty : u.ty = some τ) (hs : u.size ≠ 0) {fresh : Nat} {p : PVal E} {v x : Value} {l2 : List (Den E.T τ)} {new : Array Value} {vs2 : Nat → Value}
    (S : HSim A0 μ H w) (F : FreeAt H fresh A0 w) (hp : Rp E A0 μ H w p v) (D : Apd P E A0 μ H w t1 t2 e u type τ l2 x new vs2)
    (h : (appendL τ fresh p l2).cps H K = some r) : ValRes P A0 μ H w (Builtin.append_ #[t1, t2] type #[v, x]) K r := by
  have hsz := size_of_ty hT τ hu hty
  have hzs : (zeroV u).cells.size = τ.size E := by
    have h1 := zeroV_cells hT hu
    have h2 := ti_zlen hT hu
    have : (zeroV u).cells.toList.length = u.zero.length := by rw [h1]; simp
    rw [hsz, ← h2]; simpa using this
  have hrest : ∀ (k : Nat), (Builtin.zeroCells (zeroV u).cells k).size = k * τ.size E := fun k => by simp [Builtin.zeroCells, hzs]
  have grow : ∀ {base : Option Addr} {len cap : Nat} {old : Array Value} {l : List (Den E.T τ)} {vs : Nat → Value} {H1 : List (Blk E)}, Trans A0 μ H w μ H1 w → HSim A0 μ H1 w → FreeAt H1 fresh A0 w → len = l.length → RowCells w (Av A0 μ H1) τ l old vs →
      (∀ w' : World, w'.heap = w.heap → (Builtin.firstCells u.size len (.slice base len cap)).run P w' = .ok old w') → cap < len + l2.length → (l ++ l2).length < 4294967296 → K (.own fresh) (H1.set fresh (.row true τ (l ++ l2))) = some r →
      ValRes P A0 μ H w (Builtin.append_ #[t1, t2] type #[.slice base len cap, x]) K r := by
    intro base len cap old l vs H1 T1 S1 F1 hlen hrows hold hg hroom hk
    subst hlen
    rw [List.length_append] at hroom
    obtain ⟨newCap, hcap, hrun⟩ := D.grows hold hg hroom
    have hj := hrows.append (D.rows.mono T1.repT)
    have el : (l ++ l2).length = l.length + l2.length := List.length_append
    rw [← el] at hcap hrun
    obtain ⟨T2, S2, hrep⟩ := newRow_ok (t := e) (newCap := newCap) (rest := Builtin.zeroCells (zeroV u).cells (newCap - (l ++ l2).length)) S1 F1 hj hcap (by
      rw [Array.size_append, hj.size, hrest, ← Nat.add_mul]; congr 1; omega) (w1 := w.drew) rfl (Quiet.drew w)
    exact ⟨_, _, _, _, _, hrun, T1.trans T2, S2, hrep, hk⟩
  unfold appendL at h
  split at h
  · -- nothing
    simp only [Dec.cps] at h
    cases hrm : room l2 with
    | none => simp [hrm] at h
    | some l' =>
      simp only [hrm, Option.bind_some] at h
      obtain ⟨rfl, hlt⟩ := room_some hrm
      cases hb : Nat.blt fresh H.length with
      | false => simp [hb] at h
      | true =>
        simp only [hb, cond_true] at h
        cases hp with
        | nils a =>
          by_cases hz : l'.length = 0
          · have hnil := List.eq_nil_of_length_eq_zero hz
            have T := Trans.fresh (A0 := A0) (μ := μ) (w' := w) fresh (.none a) (.row true τ l') F.free F.lt (Quiet.refl w) (fun _ _ => rfl) (fun b o n c h => by cases h)
            refine ⟨_, _, _, w, _, D.none_ hz, T, S.fresh fresh (.none a) _ F.free F.lt (Quiet.refl w) (fun _ _ => rfl) (fun b o n c h => by cases h) F.A0 (.inr ⟨hnil, a, rfl⟩), ?_, h⟩
            exact .own0 fresh a _ (by unfold Us; rw [getB_set_eq _ _ _ F.lt]; rfl) (setL_eq _ _ _)
          · refine grow (l := []) (old := #[]) (vs := fun _ => undef) (Trans.refl _ _ _ _) S F rfl ⟨by simp, fun i hi => by simp at hi, fun i hi => by simp at hi⟩ (fun w' _ => ?_) (by simp; omega) (by simpa using hlt) (by simpa using h)
            cases a <;> simp [Builtin.firstCells, loadCells, loadCellsFrom]
  · -- a row of the call's own
    rename_i id
    simp only [Dec.cps] at h
    cases hB : getB H id with
    | row wr e' l =>
      rw [hB] at h
      cases wr with
      | false => simp [Dec.cps] at h
      | true =>
      simp only at h
      split at h
      rotate_left
      · simp [Dec.cps] at h
      rename_i l0 hcast
      obtain ⟨he, rfl⟩ := castTy_some hcast
      injection he with he; have he := he.symm; subst he
      simp only [Dec.cps] at h
      cases hrm : room (l ++ l2) with
      | none => simp [hrm] at h
      | some l' =>
        simp only [hrm, Option.bind_some] at h
        obtain ⟨rfl, hlt⟩ := room_some hrm
        cases hb : Nat.blt id H.length with
        | false => simp [hb] at h
        | true =>
        simp only [hb, cond_true] at h
        cases hb2 : Nat.blt fresh (H.set id .dead).length with
        | false => simp only [hb2, cond_false] at h; cases h
        | true =>
        simp only [hb2, cond_true] at h
        have hlive : liveB (getB H id) = true := by rw [hB]; rfl
        have hU : Us H id := usedB_of_mem (memB_of_live hlive)
        have hne : id ≠ fresh := fun e' => by subst e'; rw [F.free] at hB; cases hB
        have ok := S.ok id
        rw [hB] at ok
        have T1 : Trans A0 μ H w μ (H.set id .dead) w := Trans.drop id .dead hU rfl rfl
        have S1 : HSim A0 μ (H.set id .dead) w := S.drop id .dead hU rfl rfl (fun h => by cases h) (fun h => by cases h) trivial
        have F1 : FreeAt (H.set id .dead) fresh A0 w := F.trans T1 (by rw [getB_set_ne H _ hne]; exact F.free)
        cases hp with
        | own id b off len cap hU' hμ =>
          rw [hμ] at ok
          rcases ok with ⟨b', off', cap', c, vs, hl, hbox, g1, g2, g3, g4⟩ | ⟨_, a, hl⟩
          rotate_left
          · cases hl
          injection hl with e1 e2 e3 e4; subst e1 e2 e3 e4
          by_cases hroom : l.length + l2.length ≤ cap
          · -- there is room
            obtain ⟨t', f, hh, hf⟩ := hbox
            obtain rfl := hf rfl
            have hnew : new.size = l2.length * τ.size E := D.rows.size
            have hle : (l.length + l2.length) * τ.size E ≤ cap * τ.size E := Nat.mul_le_mul_right _ hroom
            rw [Nat.add_mul] at hle
            have hrun := D.fits (off := off) hroom hh (by rw [← hsz, hnew]; omega)
            rw [← hsz] at hrun
            generalize hc' : (c.toList.take (off + l.length * τ.size E) ++ new.toList ++ c.toList.drop (off + l.length * τ.size E + new.size)).toArray = c' at hrun
            have hmin : min (off + l.length * τ.size E) c.size = off + l.length * τ.size E := by omega
            have hsz' : c'.size = c.size := by subst hc'; simp; omega
            have hlow : ∀ k, k < off + l.length * τ.size E → c'[k]? = c[k]? := fun k hk => by
              subst hc'
              simp only [List.getElem?_toArray, List.append_assoc]
              rw [List.getElem?_append_left (by simp; omega), List.getElem?_take, if_pos hk, Array.getElem?_toList]
            have hhigh : ∀ k y, new[k]? = some y → c'[off + l.length * τ.size E + k]? = some y := fun k y hk => by
              subst hc'
              have hk' := (Array.getElem?_eq_some_iff.1 hk).1
              simp only [List.getElem?_toArray, List.append_assoc]
              rw [List.getElem?_append_right (by simp; omega), List.getElem?_append_left (by simp; omega)]
              simp only [List.length_take, Array.length_toList, hmin, Nat.add_sub_cancel_left, Array.getElem?_toList]
              exact hk
            have hbk : ∀ k, k < w.heap.size → k ≠ b → (w.setRow b c').heap[k]? = w.heap[k]? := fun k _ hk => setRow_other _ _ _ _ hk
            have T := Trans.move (A0 := A0) (w' := w.setRow b c') id fresh b off l.length cap off (l.length + l2.length) cap (.row true τ (l ++ l2)) hlive hμ F.free F.lt (Quiet.setRow w b c') hbk
            refine ⟨_, _, _, _, _, hrun, T, S.move id fresh b off l.length cap off (l.length + l2.length) cap _ hlive hμ F.free F.lt (Quiet.setRow w b c') hbk ?_, ?_, h⟩
            · refine .inl ⟨b, off, cap, c', fun i => if i < l.length then vs i else vs2 (i - l.length), by simp, ⟨t', (0, 0), setRow_heap _ _ _ _ _ _ hh, fun _ => rfl⟩, by simpa using hroom, by rw [hsz']; exact g2, fun i hi j y hy => ?_, fun i hi => ?_⟩
              · by_cases hil : i < l.length
                · simp only [hil, if_true] at hy
                  have hj : j < τ.size E := by
                    rw [← (g4 i hil).size]
                    rcases Nat.lt_or_ge j (vs i).cells.size with h' | h'
                    · exact h'
                    · rw [Array.getElem?_eq_none h'] at hy; cases hy
                  have : (i + 1) * τ.size E ≤ l.length * τ.size E := Nat.mul_le_mul_right _ hil
                  rw [Nat.add_mul] at this
                  rw [hlow _ (by omega)]
                  exact g3 i hil j y hy
                · simp only [hil, if_false] at hy
                  have hi2 : i - l.length < l2.length := by simp at hi; omega
                  have := hhigh _ _ (D.rows.at_ (i - l.length) hi2 j y hy)
                  have e1 : i * τ.size E = l.length * τ.size E + (i - l.length) * τ.size E := by rw [← Nat.add_mul]; congr 1; omega
                  rw [e1]
                  simpa [Nat.add_assoc] using this
              · by_cases hil : i < l.length
                · simp only [hil, if_true]
                  rw [List.getElem_append_left hil]
                  exact T.repT (g4 i hil)
                · simp only [hil, if_false]
                  have hi2 : i - l.length < l2.length := by simp at hi; omega
                  rw [List.getElem_append_right (by omega)]
                  exact T.repT (D.rows.rep _ hi2)
            · exact .own fresh _ _ _ _ (by unfold Us; rw [getB_set_eq _ _ _ (by simpa using F.lt)]; rfl) (setL_eq _ _ _)
          · -- it grows
            have hrep : RepT E w (Av A0 μ (H.set id .dead)) (.slice τ) (.slice (some ⟨b, off, none⟩) l.length cap) l := by
              have hnb : ¬ Av A0 μ (H.set id .dead) b := by
                rintro (h0 | ⟨j, o', n', c', hj, hj'⟩)
                · exact (S.out id b off _ cap (ownB_of_live hlive) hμ).1 h0.1
                · by_cases ej : j = id
                  · subst ej; rw [getB_set_eq H j _ (lt_of_used hU)] at hj; cases hj
                  · rw [getB_set_ne H _ (Ne.symm ej)] at hj
                    exact S.inj j id b o' n' c' b off _ cap ej hj (memB_of_live hlive) hj' hμ rfl
              have ok' : BlkOk w (Av A0 μ H) (Us H) μ (.blk b off l.length cap) (.row true τ l) := .inl ⟨b, off, cap, c, vs, rfl, hbox, g1, g2, g3, g4⟩
              exact (row_rep ok' (fun k hk => hk.elim .inl (fun h' => by
                obtain ⟨j, o', n', c', hj, hj'⟩ := h'
                by_cases ej : id = j
                · subst ej; rw [getB_set_eq H id _ (lt_of_used hU)] at hj; cases hj
                · rw [getB_set_ne H _ ej] at hj; exact .inr ⟨j, o', n', c', hj, hj'⟩)) hnb).2
            obtain ⟨old, vs', hrows, hold⟩ := run_firstCells (P := P) hrep
            rw [hsz] at hold
            exact grow T1 S1 F1 rfl hrows hold (by omega) hlt h
        | own0 id a a2 hU' hμ =>
          rw [hμ] at ok
          rcases ok with ⟨b', off', cap', c, vs, hl, _⟩ | ⟨rfl, _⟩
          · cases hl
          by_cases hz : l2.length = 0
          · have hnil := List.eq_nil_of_length_eq_zero hz
            subst hnil
            have T := Trans.fresh (A0 := A0) (μ := μ) (H := H.set id .dead) (w' := w) fresh (.none a) (.row true τ ([] ++ [])) F1.free F1.lt (Quiet.refl w) (fun _ _ => rfl) (fun b o n c h => by cases h)
            refine ⟨_, _, _, w, _, D.none_ hz, T1.trans T, S1.fresh fresh (.none a) _ F1.free F1.lt (Quiet.refl w) (fun _ _ => rfl) (fun b o n c h => by cases h) F1.A0 (.inr ⟨rfl, a, rfl⟩), ?_, h⟩
            exact .own0 fresh a _ (by unfold Us; rw [getB_set_eq _ _ _ F1.lt]; rfl) (setL_eq _ _ _)
          · refine grow (l := []) (old := #[]) (vs := fun _ => undef) T1 S1 F1 rfl ⟨by simp, fun i hi => by simp at hi, fun i hi => by simp at hi⟩ (fun w' _ => ?_) (by simp; omega) hlt h
            cases a <;> simp [Builtin.firstCells, loadCells, loadCellsFrom]
    | _ => rw [hB] at h; simp [Dec.cps] at h
  · -- a slice that has no room
    rename_i e' l
    split at h
    rotate_left
    · simp [Dec.cps] at h
    rename_i l0 hcast
    obtain ⟨he, rfl⟩ := castTy_some hcast
    injection he with he; have he := he.symm; subst he
    split at h
    · simp [Dec.cps] at h
    rename_i y ys
    simp only [Dec.cps] at h
    cases hrm : room (l ++ y :: ys) with
    | none => simp [hrm] at h
    | some l' =>
      simp only [hrm, Option.bind_some] at h
      obtain ⟨rfl, hlt⟩ := room_some hrm
      cases hb : Nat.blt fresh H.length with
      | false => simp [hb] at h
      | true =>
        simp only [hb, cond_true] at h
        cases hp with
        | full e'' l a hv =>
          obtain ⟨old, vs', hrows, hold⟩ := run_firstCells (P := P) hv
          rw [hsz] at hold
          exact grow (Trans.refl _ _ _ _) S F rfl hrows hold (by simp) hlt h
  · simp [Dec.cps] at h
theorem leafB_of (n : Nat) (i : Nat) (hi : i < (E.leaves n).length) : ((E.leaves n)[i]).leaf = true := by
  have := List.all_eq_true.1 (E.lf n) _ (List.getElem_mem hi)
  unfold Ty.leaf
  split <;> simp_all
theorem RepT.one {A : Nat → Prop} {τ : Ty} {v : Value} {x : Den E.T τ} (h : RepT E w A τ v x) (hn : ∀ n e, τ ≠ .arr n e) : ∀ u ∈ v.cells.toList, u.oneCell' = true := by
  have leaf : ∀ {τ : Ty} {v : Value} {x : Den E.T τ}, RepT E w A τ v x → τ.leaf = true → v.oneCell' = true := fun h hl => leaf_oneCell (.v _ _ _ h : RepP E w A (fun _ => False) (fun _ => .none none) _ _) hl
  cases h with
  | named n cs x hs h =>
    intro u hu
    obtain ⟨j, hj, rfl⟩ := List.getElem_of_mem hu
    have hj' : j < (E.leaves n).length := by rw [← hs]; simpa [Value.cells] using hj
    have := leaf (h j hj') (leafB_of n j hj')
    simpa [Array.getD, hs, hj', Value.cells] using this
  | arr n e cs l vs h1 h2 h3 h4 => exact absurd rfl (hn n e)
  | bool b => intro u hu; simp [Value.cells] at hu; subst hu; rfl
  | int k x => intro u hu; simp [Value.cells] at hu; subst hu; rfl
  | str s => intro u hu; simp [Value.cells] at hu; subst hu; rfl
  | nil e a c => intro u hu; simp [Value.cells] at hu; subst hu; rfl
  | slice e b off cap l vs h1 h2 h3 h4 h5 => intro u hu; simp [Value.cells] at hu; subst hu; rfl
theorem RowCells.one {A : Nat → Prop} {e : Ty} {l : List (Den E.T e)} {cells : Array Value} {vs : Nat → Value} (h : RowCells w A e l cells vs) (hn : ∀ n e', e ≠ .arr n e') : ∀ u ∈ cells.toList, u.oneCell' = true := by
  intro u hu
  obtain ⟨j, hj, rfl⟩ := List.getElem_of_mem hu
  have hj : j < l.length * e.size E := by rw [← h.size]; simpa using hj
  have hpos : 0 < e.size E := by
    rcases Nat.eq_zero_or_pos (e.size E) with h0 | h0
    · rw [h0] at hj; simp at hj
    · exact h0
  have hi : j / e.size E < l.length := (Nat.div_lt_iff_lt_mul hpos).2 hj
  have hs := (h.rep _ hi).size
  have hjm : j % e.size E < (vs (j / e.size E)).cells.size := by rw [hs]; exact Nat.mod_lt _ hpos
  have := h.at_ _ hi (j % e.size E) _ (Array.getElem?_eq_getElem hjm)
  rw [Nat.div_add_mod' j (e.size E)] at this
  obtain ⟨h1, h2⟩ := Array.getElem?_eq_some_iff.1 this
  rw [Array.getElem_toList, h2]
  exact (h.rep _ hi).one hn _ (by simp)
theorem zeroV_one (hT : tabB E.leaves P tab = true) {t : Nat} {u : TI} (hu : look tab t = some u) (n : Nat) : ∀ v ∈ (Builtin.zeroCells (zeroV u).cells n).toList, v.oneCell' = true := by
  intro v hv
  have hz := zeroV_cells hT hu
  simp only [Builtin.zeroCells, Array.toList_map, List.mem_map] at hv
  obtain ⟨j, hj, rfl⟩ := hv
  have hj' : j < n * (zeroV u).cells.size := by simpa using hj
  have hpos : 0 < (zeroV u).cells.size := by
    rcases Nat.eq_zero_or_pos (zeroV u).cells.size with h0 | h0
    · rw [h0] at hj'; simp at hj'
    · exact h0
  have hlt := Nat.mod_lt j hpos
  rw [getElem!_pos (zeroV u).cells _ hlt]
  have hm : (zeroV u).cells[j % (zeroV u).cells.size] ∈ (zeroV u).cells.toList := by simp
  rw [hz, List.mem_map] at hm
  obtain ⟨z, _, hz⟩ := hm
  rw [← hz]
  cases z <;> rfl
theorem appendD_sound (hT : tabB E.leaves P tab = true) {t1 t2 : Nat} {i j : TI} {type : TypeId} {e : Ty} (hi : look tab t1 = some i) (hj : look tab t2 = some j) (hty : i.ty = some (.slice e)) (hsl : j.sl = true) {fresh : Nat} {p x : PVal E} {v xv : Value}
    (S : HSim A0 μ H w) (F : FreeAt H fresh A0 w) (hp : Rp E A0 μ H w p v) (hx : Rp E A0 μ H w x xv)
    (h : (appendD e fresh p x).cps H K = some r) : ValRes P A0 μ H w (Builtin.append_ #[t1, t2] type #[v, xv]) K r := by
  obtain ⟨u, hu, hut, hs0, hd, hna⟩ := ti_slice_elem hT hi hty
  have hd2 := ti_sl hT hj hsl
  have hsz := size_of_ty hT e hu hut
  unfold appendD at h
  obtain ⟨l2, H0, T0, S0, hl2, hfr, h⟩ := typed_sound S hx h
  obtain ⟨a2, c2, rfl⟩ := rep_len hl2
  obtain ⟨new, vs2, hrows, hnew⟩ := run_firstCells (P := P) hl2
  rw [hsz] at hnew
  have F0 : FreeAt H0 fresh A0 w := F.trans T0 (hfr _ F.free)
  have hnone : ∀ {base : Option Addr}, l2.length = 0 → (Builtin.append_ #[t1, t2] type #[.slice base 0 0, .slice a2 l2.length c2]).run P w = .ok (.slice base 0 0) w := by
    intro base h0
    have hnil := List.eq_nil_of_length_eq_zero h0
    subst hnil
    have hn0 := hnew w rfl
    have hnew0 : new = #[] := by have := hrows.size; simpa using this
    subst hnew0
    simp only [List.length_nil] at hn0
    cases base <;> simp [Builtin.append_, run_underlying hd, run_underlying hd2, run_sizeOf' hT hu, Builtin.lenOf, hn0, storeCells]
  have D : Apd P E A0 μ H0 w t1 t2 i.elem u type e l2 (.slice a2 l2.length c2) new vs2 :=
    { rows := hrows, one := hrows.one hna,
      grows := fun hold hg hb => run_append_grows hT hd hu hd2 (by simp [Builtin.lenOf]) hold hnew hg hb,
      fits := fun hg hh hfit => run_append_room' hT hd hu hd2 (by simp [Builtin.lenOf]) (hnew w rfl) hg hh hfit (hrows.one hna),
      none_ := hnone }
  obtain ⟨p', H', v', w', μ', h1, h2, h3, h4, h5⟩ := appendL_sound hT hu hut hs0 S0 F0 (T0.rep hp) D h
  exact ⟨p', H', v', w', μ', h1, T0.trans h2, h3, h4, h5⟩
theorem count1_some {n : Int} {k : Nat} (h : count1 n = some k) : 0 < k ∧ k < 4294967296 ∧ n = (k : Int) := by
  unfold count1 at h
  cases hd : (decide (0 < n) && decide (n < 4294967296)) with
  | false => simp [hd] at h
  | true =>
    simp only [hd, cond_true] at h
    simp only [Bool.and_eq_true, decide_eq_true_eq] at hd
    injection h with h
    omega
theorem appendZD_sound (hT : tabB E.leaves P tab = true) {t1 t2 : Nat} {i j : TI} {type : TypeId} {e : Ty} (hi : look tab t1 = some i) (hj : look tab t2 = some j) (hty : i.ty = some (.slice e)) (hj2 : tyIs j (.int .i64) = true) {fresh : Nat} {p x : PVal E} {v xv : Value}
    (S : HSim A0 μ H w) (F : FreeAt H fresh A0 w) (hp : Rp E A0 μ H w p v) (hx : Rp E A0 μ H w x xv)
    (h : (appendZD e fresh p x).cps H K = some r) : ValRes P A0 μ H w (Builtin.append_ #[t1, t2] type #[v, xv]) K r := by
  obtain ⟨u, hu, hut, hs0, hd, hna⟩ := ti_slice_elem hT hi hty
  have hd2 : P.underlying t2 = some (.int .i64) := by
    obtain ⟨d, g1, g2⟩ := ti_desc hT hj
    have hj2 := tyIs_eq hj2
    cases d <;> simp_all [descB]
  unfold appendZD at h
  split at h
  rotate_left
  · simp [Dec.cps] at h
  rename_i z n hz
  simp only [Dec.cps] at h
  cases hc : count1 n with
  | none => simp [hc] at h
  | some k =>
    simp only [hc, Option.bind_some] at h
    obtain ⟨hk0, hk1, rfl⟩ := count1_some hc
    cases hx with
    | v τ x xv hx =>
      have hxv : xv = .int .i64 (k : Int) := by cases hx; rfl
      subst hxv
      have hrows := zeroRows (w := w) (A := Av A0 μ H) hT hu hut hz k
      have hone := zeroV_one hT hu k
      have hlen : (List.replicate k z).length = k := List.length_replicate
      have D : Apd P E A0 μ H w t1 t2 i.elem u type e (List.replicate k z) (.int .i64 (k : Int)) _ _ :=
        { rows := hrows, one := hone,
          grows := fun hold hg hb => by rw [hlen] at hg hb ⊢; exact run_appendZ_grows hT hd hu hd2 hold hg hb hs0 (by omega),
          fits := fun hg hh hfit => by rw [hlen] at hg ⊢; exact run_appendZ_room' hT hd hu hd2 hg (by omega) hs0 hk1 hh hfit hone,
          none_ := fun h0 => by rw [hlen] at h0; omega }
      split at h
      · simp [Dec.cps] at h
      · exact appendL_sound hT hu hut hs0 S F hp D h
end
end Go.Pe
namespace Go.Pe
variable {E : Types}
section
variable {P : Program} {tab : List (Nat × TI)} {A0 : Nat → Prop} {μ : Nat → Loc} {H : List (Blk E)} {w : World} {R : Type} {K : PVal E → List (Blk E) → Option R} {r : R}
theorem count_some {n : Int} {k : Nat} (h : count n = some k) : k < 4294967296 ∧ n = (k : Int) := by
  unfold count at h
  cases hd : (decide (0 ≤ n) && decide (n < 4294967296)) with
  | false => simp [hd] at h
  | true =>
    simp only [hd, cond_true] at h
    simp only [Bool.and_eq_true, decide_eq_true_eq] at hd
    injection h with h
    omega
theorem makeSliceD_sound (hT : tabB E.leaves P tab = true) {t : Nat} {i : TI} {e : Ty} (hi : look tab t = some i) (hty : i.ty = some (.slice e)) {fresh : Nat} {p c : PVal E} {v cv : Value}
    (S : HSim A0 μ H w) (F : FreeAt H fresh A0 w) (hp : Rp E A0 μ H w p v) (hc : Rp E A0 μ H w c cv) (h : (makeSliceD e fresh p c).cps H K = some r) : ValRes P A0 μ H w (Instr.makeSlice t v cv) K r := by
  obtain ⟨u, hu, hut, hs0, hd, hna⟩ := ti_slice_elem hT hi hty
  have hsz := size_of_ty hT e hu hut
  have hby := ti_bytes hT hu
  obtain ⟨f, hf, hf1, hf2, hf3⟩ := ti_info hT hu
  unfold makeSliceD at h
  split at h
  rotate_left
  · simp [Dec.cps] at h
  rename_i n m
  split at h
  rotate_left
  · simp [Dec.cps] at h
  rename_i z hz
  simp only [Dec.cps] at h
  cases hnm : decide (n = m) with
  | false => simp [hnm] at h
  | true =>
    simp only [hnm, cond_true] at h
    have hnm : n = m := by simpa using hnm
    subst hnm
    cases hk : count n with
    | none => simp [hk] at h
    | some k =>
      simp only [hk, Option.bind_some] at h
      obtain ⟨hk1, rfl⟩ := count_some hk
      cases hb : Nat.blt fresh H.length with
      | false => simp [hb] at h
      | true =>
        simp only [hb, cond_true] at h
        have hv : v = .int .i64 (k : Int) := by cases hp with | v _ _ _ hp => cases hp; rfl
        have hcv : cv = .int .i64 (k : Int) := by cases hc with | v _ _ _ hc => cases hc; rfl
        subst hv hcv
        have hrows := zeroRows (w := w) (A := Av A0 μ H) hT hu hut hz k
        have hzs : (zeroV u).cells.size = u.size := by rw [← hsz]; exact (zeroT_rep (w := w) (A := Av A0 μ H) hT hu hut hz).size
        obtain ⟨T, S', hrep⟩ := newRow_ok (t := i.elem) (newCap := k) (rest := #[]) S F hrows (by simp) (by simp [Builtin.zeroCells, hzs, hsz]) rfl (Quiet.refl w)
        refine ⟨_, _, _, _, _, ?_, T, S', hrep, h⟩
        have hw : IntKind.i64.wrap (k : Int) = k := by
          have h1 : (k : Int) % 2 ^ 64 = k := by omega
          simp only [IntKind.wrap, IntKind.signed, IntKind.bits, h1]
          rw [if_neg (by simp; omega)]
        have h1 : ¬ ((281474976710656 : Int) < (f.bytes : Int) * k) := by
          rw [hf2]
          have h1 : u.bytes * k ≤ 4096 * 4294967296 := Nat.mul_le_mul hby (by omega)
          have : ((u.bytes * k : Nat) : Int) = (u.bytes : Int) * k := by simp
          omega
        have h2 : ¬ ((k : Int) < 0) := by omega
        by_cases h0 : k = 0
        · subst h0
          have hw0 : IntKind.i64.wrap 0 = 0 := by decide
          simp [Instr.makeSlice, run_underlying hd, asInt, asIntOf, typeInfo, hf, hw0, sizeOf, hf1, newRow, Builtin.zeroCells]
          have hr0 : Array.range 0 = #[] := Array.eq_empty_of_size_eq_zero (by simp)
          rw [hr0]; simp
        · simp [Instr.makeSlice, run_underlying hd, asInt, asIntOf, typeInfo, hf, hw, h1, h2, sizeOf, hf1, newRow, h0, hs0, run_zeroValue' hT hu, Builtin.zeroCells, hzs]
          intro h'; exact absurd h' (Nat.mul_ne_zero h0 hs0)
theorem foldl_set (off : Nat) : ∀ (xs : List Value) (m : Nat) (cells : Array Value), off + m + xs.length ≤ cells.size →
    ((xs.zipIdx m).foldl (fun cs x => cs.setIfInBounds (off + x.2) x.1) cells).toList = splice cells.toList (off + m) xs
  | [], m, cells, h => by simp [splice]
  | x :: xs, m, cells, h => by
    simp only [List.zipIdx_cons, List.foldl_cons]
    rw [foldl_set off xs (m + 1) (cells.setIfInBounds (off + m) x) (by simp at h ⊢; omega)]
    simp only [Array.toList_setIfInBounds, splice, List.length_cons]
    have hk : off + m < cells.toList.length := by simp at h ⊢; omega
    have e1 : (cells.toList.set (off + m) x).take (off + (m + 1)) = cells.toList.take (off + m) ++ [x] := by
      rw [show off + (m + 1) = off + m + 1 by omega, List.take_succ_eq_append_getElem (by simpa using hk)]
      rw [List.take_set_of_le (by omega)]
      simp
    have e2 : (cells.toList.set (off + m) x).drop (off + (m + 1) + xs.length) = cells.toList.drop (off + m + (xs.length + 1)) := by
      rw [List.drop_set_of_lt (by omega)]; congr 1; omega
    rw [e1, e2]; simp
theorem fill_sound {R : PVal E → Value → Prop} {place : Nat → Option (Nat × Nat)} {place' : Nat → Option (Nat × Nat)} (hpl : ∀ j x, place j = some x → place' j = some x) :
    ∀ {parts : List (Nat × PVal E)} {partsV : List (Nat × Value)} {ps ps' : List (PVal E)} {cells : Array Value}, parts.length = partsV.length →
      (∀ (j : Nat) p v, parts[j]? = some p → partsV[j]? = some v → p.1 = v.1 ∧ RL R (cellsP p.2) v.2.cells.toList) → RL R ps cells.toList → putParts place ps parts = some ps' →
      ∃ cells', Instr.fill place' cells partsV = some cells' ∧ RL R ps' cells'.toList
  | [], [], ps, ps', cells, _, _, hr, h => by simp [putParts] at h; subst h; exact ⟨cells, rfl, hr⟩
  | [], _ :: _, _, _, _, hl, _, _, _ => by simp at hl
  | _ :: _, [], _, _, _, hl, _, _, _ => by simp at hl
  | (j, x) :: parts, (j', v) :: partsV, ps, ps', cells, hl, hp, hr, h => by
    obtain ⟨hj, hx⟩ := hp 0 _ _ rfl rfl
    simp only at hj hx
    subst hj
    simp only [putParts] at h
    split at h
    · rename_i off n hpj
      split at h
      · rename_i hc
        simp only [Bool.and_eq_true] at hc
        have hn := Nat.eq_of_beq_eq_true hc.1
        have hfit := Nat.le_of_ble_eq_true hc.2
        have hvs : v.cells.size = n := by have := hx.1; rw [hn] at this; simpa using this.symm
        have hcs : ps.length = cells.size := by have := hr.1; simpa using this
        have hfold : (v.cells.zipIdx.foldl (fun cs (c, j) => cs.setIfInBounds (off + j) c) cells).toList = splice cells.toList off v.cells.toList := by
          rw [← Array.foldl_toList, Array.toList_zipIdx]
          have := foldl_set off v.cells.toList 0 cells (by simp [hvs]; omega)
          simpa using this
        obtain ⟨cells', h1, h2⟩ := fill_sound hpl (parts := parts) (partsV := partsV) (by simpa using hl) (fun k p u hk hu => hp (k + 1) p u (by simpa using hk) (by simpa using hu))
          (cells := v.cells.zipIdx.foldl (fun cs (c, j) => cs.setIfInBounds (off + j) c) cells) (by
            rw [hfold]
            unfold splice
            rw [← hx.1]
            exact ((hr.take off).append hx).append (hr.drop _)) h
        refine ⟨cells', ?_, h2⟩
        simp only [Instr.fill, hpl j _ hpj]
        rw [if_neg (by simp [hvs]; omega)]
        exact h1
      · cases h
    · cases h
theorem RL.parts {ρ : Operand → PVal E} {ρv : Operand → Value} {parts : List (Nat × Operand)} (h : ∀ x, Rp E A0 μ H w (ρ x) (ρv x)) (hl : (parts.map fun p => (p.1, ρ p.2)).all (fun p => (cellsP p.2).all PVal.leaf) = true) :
    ∀ (j : Nat) p v, (parts.map fun p => (p.1, ρ p.2))[j]? = some p → (parts.map fun p => (p.1, ρv p.2))[j]? = some v → p.1 = v.1 ∧ RL (Rp E A0 μ H w) (cellsP p.2) v.2.cells.toList := by
  intro j p v hp hv
  simp only [List.getElem?_map, Option.map_eq_some_iff] at hp hv
  obtain ⟨a, ha, rfl⟩ := hp
  obtain ⟨a', ha', rfl⟩ := hv
  rw [ha] at ha'; injection ha' with ha'; subst ha'
  refine ⟨rfl, RepP.cells (h a.2) ?_⟩
  exact List.all_eq_true.1 hl (a.1, ρ a.2) (List.mem_map.2 ⟨a, List.mem_of_getElem? ha, rfl⟩)
theorem run_mapM_places (fs : List Field) (h : ∀ f ∈ fs, P.cellsOf f.type ≠ 0) (w : World) : (fs.mapM fun f => (do pure (f.offset, ← sizeOf f.type) : Sem (Nat × Nat))).run P w = .ok (fs.map fun f => (f.offset, P.cellsOf f.type)) w := by
  induction fs with
  | nil => simp
  | cons f fs ih =>
    simp only [List.mapM_cons, Sem.run_bind, run_sizeOf_cells (h f (by simp)), Result.andThen_ok, Sem.run_pure, ih (fun g hg => h g (by simp [hg]))]
    rfl
theorem cellsOf_look (hT : tabB E.leaves P tab = true) {t : Nat} {u : TI} (hu : look tab t = some u) : P.cellsOf t = u.size := by
  obtain ⟨f, h1, h2, _⟩ := ti_info hT hu
  simp [Program.cellsOf, h1, h2]
theorem buildD_sound (hT : tabB E.leaves P tab = true) {t : Nat} {i : TI} (hi : look tab t = some i) {ρ : Operand → PVal E} {ρv : Operand → Value} {parts : List (Nat × Operand)} (S : HSim A0 μ H w) (hρ : ∀ x, Rp E A0 μ H w (ρ x) (ρv x))
    (h : (buildD tab i (parts.map fun p => (p.1, ρ p.2))).cps H K = some r) : ValRes P A0 μ H w (Instr.build t (parts.map fun p => (p.1, ρv p.2)).toArray) K r := by
  unfold buildD at h
  simp only at h
  split at h
  rotate_left
  · simp [Dec.cps] at h
  rename_i hleaf
  simp only [Bool.and_eq_true] at hleaf
  obtain ⟨hagg, hleaf⟩ := hleaf
  split at h
  rotate_left
  · simp [Dec.cps] at h
  rename_i cs hcs
  simp only [Dec.cps] at h
  have hz := zeroV_cells hT hi
  have hz' : (zeroV i).cells = (i.zero.map Z.toV).toArray := by rw [← hz]
  have hrz : RL (Rp E A0 μ H w) (i.zero.map Z.toP) ((i.zero.map Z.toV).toArray).toList := by simpa using Zs_rep i.zero
  obtain ⟨d, hd, hdb⟩ := ti_desc hT hi
  cases d with
  | struct fs =>
    have hdb' := hdb
    simp only [descB, Bool.and_eq_true, decide_eq_true_eq] at hdb'
    obtain ⟨⟨⟨⟨_, h3⟩, h4⟩, h5⟩, _⟩ := hdb'
    have h4' : ∀ f ∈ fs.toList, P.cellsOf f.type ≠ 0 := fun f hf e => by
      have := List.all_eq_true.1 h4 f hf
      simp [e] at this
    have h5 : i.alen = 0 := by simpa using h5
    obtain ⟨cells', hf, hr⟩ := fill_sound (place' := fun j => (fs.map fun f => (f.offset, P.cellsOf f.type))[j]?) (fun j x hx => by
      cases hj : i.fields[j]? with
      | none => simp [hj, h5] at hx
      | some ft =>
        obtain ⟨off, t'⟩ := ft
        simp only [hj, Option.map_eq_some_iff] at hx
        obtain ⟨u, hu, rfl⟩ := hx
        rw [h3, List.getElem?_map, Option.map_eq_some_iff] at hj
        obtain ⟨f, hf, he⟩ := hj
        simp only [Prod.mk.injEq] at he
        obtain ⟨rfl, rfl⟩ := he
        rw [Array.getElem?_map]
        rw [Array.getElem?_toList] at hf
        simp [hf, cellsOf_look hT hu]) (by simp) (RL.parts hρ hleaf) hrz hcs
    refine ValRes.same S (v := .agg cells') ?_ (by simpa using RepP.aggL hr) h
    have hm := run_mapM_places (P := P) fs.toList h4' w
    simp only [Instr.build, Sem.run_bind, run_zeroValue' hT hi, Result.andThen_ok, run_underlying hd, hz']
    rw [Array.mapM_eq_mapM_toList]
    simp only [Sem.run_map, hm, Result.andThen_ok]
    have e : (List.map (fun f : Field => (f.offset, P.cellsOf f.type)) fs.toList).toArray = fs.map fun f => (f.offset, P.cellsOf f.type) := by
      apply Array.ext'; simp
    rw [e, hf]
    rfl
  | array n e =>
    have hdb' := hdb
    simp only [descB, Bool.and_eq_true] at hdb'
    obtain ⟨⟨⟨⟨⟨_, h3⟩, h4⟩, h5⟩, h6⟩, _⟩ := hdb'
    have h3 := Nat.eq_of_beq_eq_true h3
    have h4 := Nat.eq_of_beq_eq_true h4
    subst h3 h4
    have h5 : i.fields = [] := by simpa using h5
    cases hu : look tab i.elem with
    | none => simp [hu] at h6
    | some u =>
      obtain ⟨cells', hf, hr⟩ := fill_sound (place' := fun j => some (j * u.size, u.size)) (fun j x hx => by
        simp only [h5, hu] at hx
        simp at hx
        obtain ⟨_, rfl⟩ := hx
        rfl) (by simp) (RL.parts hρ hleaf) hrz hcs
      refine ValRes.same S (v := .agg cells') ?_ (by simpa using RepP.aggL hr) h
      simp only [Instr.build, Sem.run_bind, run_zeroValue' hT hi, Result.andThen_ok, run_underlying hd, run_sizeOf' hT hu, hz']
      rw [hf]
      rfl
  | _ =>
    exfalso
    have ha : i.agg = false := by simp only [descB, Bool.and_eq_true, Bool.not_eq_true'] at hdb; first | exact hdb.1 | exact hdb.1.1 | exact hdb.1.1.1 | exact hdb.1.1.1.1 | cases hdb
    rw [ha] at hagg; cases hagg
end
end Go.Pe
namespace Go.Pe
variable {E : Types}
section
variable {P : Program} {tab : List (Nat × TI)} {A0 : Nat → Prop} {μ : Nat → Loc} {H : List (Blk E)} {w : World} {R : Type} {K : PVal E → List (Blk E) → Option R} {r : R}
theorem aggP_sound {p : PVal E} {v : Value} {cs : List (PVal E)} (hp : Rp E A0 μ H w p v) (h : aggP p = some cs) : ∃ vs, v = .agg vs ∧ RL (Rp E A0 μ H w) cs vs.toList := by
  cases hp with
  | agg ps vs hs hr => simp [aggP] at h; subst h; exact ⟨vs, rfl, RL.of_idx hs hr⟩
  | v τ x v hv =>
    cases hv with
    | named n vs x hs hr =>
      simp [aggP] at h; subst h
      refine ⟨vs, rfl, ?_⟩
      have := RepP.cells (U := Us H) (μ := μ) (RepP.v (E := E) (w := w) (A := Av A0 μ H) (.named n) x (.agg vs) (.named n vs x hs hr)) (by
        refine List.all_eq_true.2 fun p hp => ?_
        obtain ⟨j, hj, rfl⟩ := List.getElem_of_mem hp
        have hlen := HL.toP_len (E := E) (E.leaves n) (E.unpack n x)
        have hj' : j < (E.leaves n).length := by rw [← hlen]; exact hj
        have := HL.toP_get (E.leaves n) (E.unpack n x) j hj'
        obtain ⟨_, e⟩ := List.getElem?_eq_some_iff.1 this
        simp only [cellsP] at hj ⊢
        rw [e]
        exact leafB_of n j hj')
      exact this
    | _ => simp [aggP] at h
  | _ => simp [aggP] at h
theorem fieldD_sound (hT : tabB E.leaves P tab = true) {t : Nat} {s : TI} (hs : look tab t = some s) {p : PVal E} {v : Value} {f : Nat} (S : HSim A0 μ H w) (hp : Rp E A0 μ H w p v)
    (h : (fieldD tab s p f).cps H K = some r) : ValRes P A0 μ H w (Instr.field t v f) K r := by
  unfold fieldD at h
  split at h
  rotate_left
  · simp [Dec.cps] at h
  rename_i off t' hf
  split at h
  rotate_left
  · simp [Dec.cps] at h
  rename_i i hi
  split at h
  rotate_left
  · simp [Dec.cps] at h
  rename_i cs hcs
  obtain ⟨fs, fld, h1, h2, h3, h4, h5⟩ := ti_field hT hs hf
  subst h3 h4
  obtain ⟨vs, rfl, hr⟩ := aggP_sound hp hcs
  obtain ⟨hl, q, hq, hk⟩ := outD_sound h (RL_sub hr fld.offset i.size)
  refine ValRes.same S ?_ hq hk
  have hsub : Pe.sub vs.toList fld.offset i.size = (vs.extract fld.offset (fld.offset + i.size)).toList := by
    simp [Pe.sub, List.extract_eq_take_drop]
  simp only [Instr.field, Sem.run_bind, run_underlying h1, Result.andThen_ok, h2, asAgg, Sem.run_pure, part, run_isAgg' hT hi, run_sizeOf' hT hi]
  cases ha : i.agg with
  | true =>
    have hsub' : vs.extract fld.offset (fld.offset + i.size) = (Pe.sub vs.toList fld.offset i.size).toArray := by rw [hsub]
    simp only [if_true, Sem.run_bind, run_sizeOf' hT hi, Result.andThen_ok, Sem.run_pure, hsub']
  | false =>
    have h1 := ti_one hT hi ha
    rw [h1] at hl
    simp only [Bool.false_eq_true, if_false]
    have hlt : fld.offset < vs.size := by
      simp only [Pe.sub, h1, List.length_take, List.length_drop, Array.length_toList] at hl
      omega
    have e : (Pe.sub vs.toList fld.offset i.size).headD undef = vs[fld.offset] := by
      simp only [Pe.sub, h1]
      rw [List.drop_eq_getElem_cons (by simpa using hlt)]
      simp
    rw [e, Array.getElem?_eq_getElem hlt]
    rfl
theorem lenD_sound (hT : tabB E.leaves P tab = true) {t : Nat} {i : TI} (hi : look tab t = some i) {type : TypeId} {at_ : Array TypeId} {av : Array Value} (hat : at_[0]? = some t) {p : PVal E} {v : Value} (hav : av[0]? = some v) (S : HSim A0 μ H w) (hp : Rp E A0 μ H w p v)
    (h : (lenD i p).cps H K = some r) : ValRes P A0 μ H w (Builtin.len_ at_ type av) K r := by
  have fin : ∀ {n : Nat} {base : Option Addr} {cap : Nat}, P.underlying t = some (.slice i.elem) → v = .slice base n cap → K (.v (.int .i64) (n : Int)) H = some r → ValRes P A0 μ H w (Builtin.len_ at_ type av) K r := by
    intro n base cap hd hv hk
    subst hv
    refine ValRes.same S (v := .int .i64 n) ?_ (.v _ _ _ (.int .i64 _)) hk
    simp [Builtin.len_, hat, hav, run_underlying hd, goInt]
  unfold lenD at h
  split at h
  · rename_i hsl
    have hd := ti_sl hT hi hsl
    split at h
    · cases hp with
      | v τ x v hv => obtain ⟨a, c, rfl⟩ := rep_len hv; exact fin hd rfl h
    · cases hp with
      | full e l a hv => exact fin hd rfl h
    · cases hp with
      | nils a => exact fin (n := 0) hd rfl h
    · cases hp with
      | bsl id n b hU hμ => exact fin hd rfl h
    · rename_i id
      simp only [Dec.cps] at h
      have ok := S.ok id
      cases hB : getB H id with
      | row wr e l =>
        rw [hB] at h ok
        cases hp with
        | own id b off len cap hU hμ =>
          rw [hμ] at ok
          rcases ok with ⟨b', off', cap', c, vs, hl, _⟩ | ⟨_, a, hl⟩
          · injection hl with e1 e2 e3 e4; subst e1 e2 e3 e4
            exact fin hd rfl h
          · cases hl
        | own0 id a a2 hU hμ =>
          rw [hμ] at ok
          rcases ok with ⟨b', off', cap', c, vs, hl, _⟩ | ⟨rfl, _⟩
          · cases hl
          · exact fin (n := 0) hd rfl h
      | _ => rw [hB] at h; simp [Dec.cps] at h
    · simp [Dec.cps] at h
  · split at h
    rotate_left
    · simp [Dec.cps] at h
    rename_i hty
    have hd : P.underlying t = some .string := by
      obtain ⟨d, g1, g2⟩ := ti_desc hT hi
      have hty := tyIs_eq hty
      cases d <;> simp_all [descB]
    split at h
    rotate_left
    · simp [Dec.cps] at h
    cases hp with
    | v τ x v hv =>
      cases hv with
      | str s' =>
        refine ValRes.same S (v := .int .i64 _) ?_ (.v _ _ _ (.int .i64 _)) h
        simp [Builtin.len_, hat, hav, run_underlying hd, goInt]
end
end Go.Pe
namespace Go.Pe
variable {E : Types}
theorem wrap_i64 (n : Int) : IntKind.i64.wrap n = w64 n := by rw [IntKind.wrap_i64, w64_def]
theorem wrap_i32 (n : Int) : IntKind.i32.wrap n = w32 n := by rw [IntKind.wrap_i32, w32_def]
theorem wrap_u64 (n : Int) : IntKind.u64.wrap n = ((BitVec.ofInt 64 n).toNat : Int) := by
  rw [IntKind.wrap_u64, BitVec.toNat_ofInt]
  omega
theorem wrap_u8 (n : Int) : IntKind.u8.wrap n = ((BitVec.ofInt 8 n).toNat : Int) := by
  rw [IntKind.wrap_u8, BitVec.toNat_ofInt]
  omega
theorem ofInt_toNat64 (b : BitVec 64) : BitVec.ofInt 64 (b.toNat : Int) = b := by
  apply BitVec.eq_of_toNat_eq
  rw [BitVec.toNat_ofInt]
  have := b.isLt
  omega
theorem wrap_toNat (b : BitVec 64) : IntKind.u64.wrap (b.toNat : Int) = (b.toNat : Int) := by rw [wrap_u64, ofInt_toNat64]
section
variable {P : Program} {w : World}
theorem toZ_inj {k : IntKind} {a b : IntDen k} : (toZ k a = toZ k b) ↔ a = b := by
  cases k <;> simp only [toZ] <;> first | rfl | (constructor <;> intro h <;> first | (subst h; rfl) | (apply BitVec.eq_of_toNat_eq; omega))
theorem ieq_eq {k : IntKind} (a b : IntDen k) : ieq k a b = decide (toZ k a = toZ k b) := by
  cases k <;> simp only [ieq, decide_eq_decide] <;> exact toZ_inj.symm
theorem isZero_eq {k : IntKind} {b : IntDen k} (h : isZero k b = false) : toZ k b ≠ 0 := by
  intro e
  rw [isZero, ieq_eq, decide_eq_false_iff_not] at h
  exact h (e.trans (by cases k <;> rfl))
theorem iadd_run {k : IntKind} {a b c : IntDen k} (h : iadd k a b = some c) : (Op.intArith .add k (toZ k a) (toZ k b)).run P w = .ok (.int k (toZ k c)) w := by
  cases k <;> simp [iadd] at h <;> subst h <;> simp [Op.intArith, toZ]
  · exact wrap_i32 _
  · exact wrap_i64 _
  · rw [IntKind.wrap_u64]
theorem isub_run {k : IntKind} {a b c : IntDen k} (h : isub k a b = some c) : (Op.intArith .sub k (toZ k a) (toZ k b)).run P w = .ok (.int k (toZ k c)) w := by
  cases k <;> simp [isub] at h <;> subst h <;> simp [Op.intArith, toZ]
  · exact wrap_i32 _
  · exact wrap_i64 _
  · rw [IntKind.wrap_u64]; have := b.isLt; omega
theorem imul_run {k : IntKind} {a b c : IntDen k} (h : imul k a b = some c) : (Op.intArith .mul k (toZ k a) (toZ k b)).run P w = .ok (.int k (toZ k c)) w := by
  cases k <;> simp [imul] at h <;> subst h <;> simp [Op.intArith, toZ]
  · exact wrap_i64 _
  · rw [IntKind.wrap_u64]
theorem wrap_toNat8 (b : BitVec 8) : IntKind.u8.wrap (b.toNat : Int) = (b.toNat : Int) := by rw [IntKind.wrap_u8]; have := b.isLt; omega
theorem wrap_toInt (b : BitVec 64) : IntKind.i64.wrap (b.toNat : Int) = b.toInt := by
  rw [IntKind.wrap_i64, BitVec.toInt]
  have := b.isLt
  split <;> omega
theorem iquo_run {k : IntKind} {a b c : IntDen k} (hz : isZero k b = false) (h : iquo k a b = some c) : (Op.intDiv .quo k (toZ k a) (toZ k b)).run P w = .ok (.int k (toZ k c)) w := by
  have hz := isZero_eq hz
  cases k with
  | i64 =>
    simp [iquo] at h; subst h; simp only [Op.intDiv, if_neg hz, Sem.run_pure]
    congr 2; exact wrap_i64 _
  | u64 =>
    simp [iquo] at h; subst h; simp only [Op.intDiv, if_neg hz, Sem.run_pure]
    congr 2
    rw [show Int.tdiv (toZ .u64 a) (toZ .u64 b) = (((a / b : BitVec 64).toNat : Nat) : Int) by simp [toZ, Int.ofNat_tdiv]]
    exact wrap_toNat _
  | u8 =>
    simp [iquo] at h; subst h; simp only [Op.intDiv, if_neg hz, Sem.run_pure]
    congr 2
    rw [show Int.tdiv (toZ .u8 a) (toZ .u8 b) = (((a / b : BitVec 8).toNat : Nat) : Int) by simp [toZ, Int.ofNat_tdiv]]
    exact wrap_toNat8 _
  | _ => simp [iquo] at h
theorem irem_run {k : IntKind} {a b c : IntDen k} (hz : isZero k b = false) (h : irem k a b = some c) : (Op.intDiv .rem k (toZ k a) (toZ k b)).run P w = .ok (.int k (toZ k c)) w := by
  have hz := isZero_eq hz
  cases k <;> simp [irem] at h <;> subst h <;> simp only [Op.intDiv, if_neg hz, Sem.run_pure] <;> congr 2
theorem iand_run {k : IntKind} {a b c : IntDen k} (h : iand k a b = some c) : (Op.intBits .and k (toZ k a) (toZ k b)).run P w = .ok (.int k (toZ k c)) w := by
  cases k <;> simp [iand] at h <;> subst h
  · simp only [Op.intBits, Sem.run_pure, toZ, IntKind.bits, wrap_toInt, zand_def]; rfl
  · simp only [Op.intBits, Sem.run_pure, toZ, IntKind.bits, ofInt_toNat64, wrap_toNat]; rfl
theorem ior_run {k : IntKind} {a b c : IntDen k} (h : ior k a b = some c) : (Op.intBits .or k (toZ k a) (toZ k b)).run P w = .ok (.int k (toZ k c)) w := by
  cases k <;> simp [ior] at h <;> subst h
  · simp only [Op.intBits, Sem.run_pure, toZ, IntKind.bits, wrap_toInt, zor_def]; rfl
  · simp only [Op.intBits, Sem.run_pure, toZ, IntKind.bits, ofInt_toNat64, wrap_toNat]; rfl
theorem ixor_run {k : IntKind} {a b c : IntDen k} (h : ixor k a b = some c) : (Op.intBits .xor k (toZ k a) (toZ k b)).run P w = .ok (.int k (toZ k c)) w := by
  cases k <;> simp [ixor] at h <;> subst h
  · simp only [Op.intBits, Sem.run_pure, toZ, IntKind.bits, wrap_toInt, zxor_def]; rfl
  · simp only [Op.intBits, Sem.run_pure, toZ, IntKind.bits, ofInt_toNat64, wrap_toNat]; rfl
theorem iandnot_run {k : IntKind} {a b c : IntDen k} (h : iandnot k a b = some c) : (Op.intBits .andNot k (toZ k a) (toZ k b)).run P w = .ok (.int k (toZ k c)) w := by
  cases k <;> simp [iandnot] at h <;> subst h
  · simp only [Op.intBits, Sem.run_pure, toZ, IntKind.bits, wrap_toInt, zandnot_def]; rfl
  · simp only [Op.intBits, Sem.run_pure, toZ, IntKind.bits, ofInt_toNat64, wrap_toNat]; rfl
theorem ishl_run {k yk : IntKind} {a c : IntDen k} {n : Int} (hn : 0 ≤ n) (h : ishl k a (min n.toNat k.bits) = some c) : (Op.shift .shl k (toZ k a) yk n).run P w = .ok (.int k (toZ k c)) w := by
  cases k <;> simp [ishl] at h
  subst h
  rw [shift_shl_any _ _ _ _ hn]
  simp only [Sem.run_pure, toZ]
  congr 2
  rw [IntKind.wrap_u64, BitVec.toNat_shiftLeft, Nat.shiftLeft_eq]
  rw [Int.natCast_emod, Int.natCast_mul, Int.natCast_pow]
  rfl
theorem ishr_run {k yk : IntKind} {a c : IntDen k} {n : Int} (hn : 0 ≤ n) (h : ishr k a (min n.toNat k.bits) = some c) : (Op.shift .shr k (toZ k a) yk n).run P w = .ok (.int k (toZ k c)) w := by
  cases k <;> simp [ishr] at h
  subst h
  rw [shift_shr_any _ _ _ _ hn]
  simp only [Sem.run_pure, toZ]
  congr 2
  rw [BitVec.toNat_ushiftRight, Nat.shiftRight_eq_div_pow]
  rw [Int.natCast_ediv, Int.natCast_pow]
  rfl
theorem ilt_eq {k : IntKind} (a b : IntDen k) : ilt k a b = decide (toZ k a < toZ k b) := by
  cases k <;> simp only [ilt, decide_eq_decide, toZ] <;> first | rfl | (rw [BitVec.lt_def]; omega)
theorem ile_eq {k : IntKind} (a b : IntDen k) : ile k a b = decide (toZ k a ≤ toZ k b) := by
  cases k <;> simp only [ile, decide_eq_decide, toZ] <;> first | rfl | (rw [BitVec.le_def]; omega)
theorem lss_run {k : IntKind} (a b : IntDen k) : (Op.intCmp .lss (toZ k a) (toZ k b)).run P w = .ok (.bool (ilt k a b)) w := by simp [Op.intCmp, ilt_eq]
theorem leq_run {k : IntKind} (a b : IntDen k) : (Op.intCmp .leq (toZ k a) (toZ k b)).run P w = .ok (.bool (ile k a b)) w := by simp [Op.intCmp, ile_eq]
theorem gtr_run {k : IntKind} (a b : IntDen k) : (Op.intCmp .gtr (toZ k a) (toZ k b)).run P w = .ok (.bool (ilt k b a)) w := by simp [Op.intCmp, ilt_eq]
theorem geq_run {k : IntKind} (a b : IntDen k) : (Op.intCmp .geq (toZ k a) (toZ k b)).run P w = .ok (.bool (ile k b a)) w := by simp [Op.intCmp, ile_eq]
theorem iconv_eq {k k' : IntKind} {x : IntDen k} {y : IntDen k'} (h : iconv k k' x = some y) : k'.wrap (toZ k x) = toZ k' y := by
  have hb8 : ∀ x : BitVec 8, x.toNat < 256 := fun x => x.isLt
  have hb64 : ∀ x : BitVec 64, x.toNat < 18446744073709551616 := fun x => x.isLt
  have e1 : ∀ x : BitVec 8, IntKind.i64.wrap (x.toNat : Int) = (x.toNat : Int) := fun x => by rw [IntKind.wrap_i64]; have := hb8 x; omega
  have e2 : ∀ x : BitVec 8, IntKind.i32.wrap (x.toNat : Int) = (x.toNat : Int) := fun x => by rw [IntKind.wrap_i32]; have := hb8 x; omega
  have e3 : ∀ x : BitVec 8, IntKind.u8.wrap (x.toNat : Int) = (x.toNat : Int) := fun x => by rw [IntKind.wrap_u8]; have := hb8 x; omega
  have e4 : ∀ x : BitVec 8, IntKind.u64.wrap (x.toNat : Int) = ((x.setWidth 64).toNat : Int) := fun x => by
    rw [IntKind.wrap_u64, BitVec.toNat_setWidth]; have := hb8 x; omega
  have e5 : ∀ x : BitVec 64, IntKind.i64.wrap (x.toNat : Int) = x.toInt := fun x => by
    rw [IntKind.wrap_i64, BitVec.toInt_eq_toNat_cond]; have := hb64 x; split <;> omega
  cases k <;> cases k' <;> simp only [iconv, Option.some.injEq, reduceCtorEq] at h
  all_goals subst h
  · exact wrap_i32 _
  · exact wrap_i64 _
  · exact wrap_i32 _
  · exact wrap_i64 _
  · exact wrap_u8 _
  · exact wrap_u64 _
  · exact e2 _
  · exact e1 _
  · exact e3 _
  · exact e4 _
  · exact e5 _
  · exact wrap_toNat _
end
end Go.Pe
namespace Go.Pe
variable {E : Types}
section
variable {P : Program} {tab : List (Nat × TI)} {A0 : Nat → Prop} {μ : Nat → Loc} {H : List (Blk E)} {w : World} {R : Type} {K : PVal E → List (Blk E) → Option R} {r : R}
def outV (i : TI) (vs : List Value) : Value := if i.agg then .agg vs.toArray else vs.headD undef
theorem part_run (hT : tabB E.leaves P tab = true) {t : Nat} {i : TI} (hi : look tab t = some i) (vs : List Value) (off : Nat) (hl : i.agg = false → sub vs off i.size ≠ []) :
    (part t vs.toArray off).run P w = .ok (outV i (sub vs off i.size)) w := by
  simp only [part, Sem.run_bind, run_isAgg' hT hi, Result.andThen_ok]
  cases ha : i.agg with
  | true =>
    simp only [if_true, Sem.run_bind, run_sizeOf' hT hi, Result.andThen_ok, Sem.run_pure, outV, ha]
    congr 2
    simp [sub, List.extract_eq_take_drop]
  | false =>
    have h1 := ti_one hT hi ha
    have hl := hl ha
    simp only [Bool.false_eq_true, if_false, outV, ha]
    have hlt : off < vs.length := by
      by_cases h : off < vs.length
      · exact h
      · exact absurd (by simp [sub, List.drop_eq_nil_of_le (by omega : vs.length ≤ off)]) hl
    have e : (sub vs off i.size).headD undef = vs[off] := by
      simp only [sub, h1]
      rw [List.drop_eq_getElem_cons hlt]
      rfl
    rw [e]
    simp [hlt]
theorem andO_cons {a : Option Bool} {l : List (Option Bool)} {b : Bool} (h : andO (a :: l) = some b) : ∃ x y, a = some x ∧ andO l = some y ∧ b = (x && y) := by
  cases l with
  | nil =>
    simp only [andO] at h
    exact ⟨b, true, h, rfl, by simp⟩
  | cons c l =>
    simp only [andO] at h
    split at h
    · rename_i x y h2
      exact ⟨x, y, rfl, h2, by simpa using h.symm⟩
    · cases h
theorem eqFields_run (d : Nat) (xs ys : Array Value) (g : Nat × Nat → Option Bool) : ∀ (fs : List Field) (b : Bool), (∀ f ∈ fs, f.name ≠ "_") →
    (∀ f ∈ fs, ∀ c, g (f.offset, f.type) = some c → ∃ x y, (part f.type xs f.offset).run P w = .ok x w ∧ (part f.type ys f.offset).run P w = .ok y w ∧ (Op.equalIn d f.type x y).run P w = .ok c w) →
    andO ((fs.map fun f => (f.offset, f.type)).map g) = some b → (Op.eqFields d xs ys fs).run P w = .ok b w := by
  intro fs
  induction fs with
  | nil => intro b _ _ h; simp [andO] at h; subst h; simp [Op.eqFields]
  | cons f fs ih =>
    intro b hn hg h
    obtain ⟨x, y, h1, h2, rfl⟩ := andO_cons (by simpa using h)
    obtain ⟨u, v, e1, e2, e3⟩ := hg f (by simp) x h1
    simp only [Op.eqFields, if_pos (hn f (by simp)), Sem.run_bind, e1, e2, e3, Result.andThen_ok]
    cases x with
    | true =>
      simp only [Bool.not_true, Bool.false_eq_true, if_false, Bool.true_and]
      exact ih y (fun f hf => hn f (by simp [hf])) (fun f hf => hg f (by simp [hf])) (by simpa using h2)
    | false => simp
theorem toList_beq (a b : ByteArray) : (a.toList == b.toList) = decide (a = b) := by
  rw [ByteArray.toList_eq, ByteArray.toList_eq, Bool.eq_iff_iff]
  simp only [beq_iff_eq, decide_eq_true_eq]
  constructor
  · intro h
    obtain ⟨⟨x⟩⟩ := a
    obtain ⟨⟨y⟩⟩ := b
    simp at h
    subst h; rfl
  · rintro rfl; rfl
theorem run_eqFn1 {t D : Nat} {x y z} (hf : P.underlying t = some (.func x y z)) : (Op.equalIn (D + 1) t .nilFunc .nilFunc).run P w = .ok true w := by
  simp only [Op.equalIn, Sem.run_bind, run_underlying hf, Result.andThen_ok, Sem.run_pure]
theorem run_eqFn2 {t D : Nat} {x y z} (hf : P.underlying t = some (.func x y z)) (f : Fn) (a b : Array Value) : (Op.equalIn (D + 1) t .nilFunc (.func f a b)).run P w = .ok false w := by
  simp only [Op.equalIn, Sem.run_bind, run_underlying hf, Result.andThen_ok, Sem.run_pure]
theorem run_eqFn3 {t D : Nat} {x y z} (hf : P.underlying t = some (.func x y z)) (f : Fn) (a b : Array Value) : (Op.equalIn (D + 1) t (.func f a b) .nilFunc).run P w = .ok false w := by
  simp only [Op.equalIn, Sem.run_bind, run_underlying hf, Result.andThen_ok, Sem.run_pure]
theorem ti_bool (hT : tabB E.leaves P tab = true) {t : Nat} {i : TI} (hi : look tab t = some i) (h : i.ty = some .bool) : P.underlying t = some .bool := by
  obtain ⟨d, hd, h2⟩ := ti_desc hT hi
  cases d <;> simp_all [descB]
theorem ti_str (hT : tabB E.leaves P tab = true) {t : Nat} {i : TI} (hi : look tab t = some i) (h : i.ty = some .str) : P.underlying t = some .string := by
  obtain ⟨d, hd, h2⟩ := ti_desc hT hi
  cases d <;> simp_all [descB]
theorem ti_int (hT : tabB E.leaves P tab = true) {t : Nat} {i : TI} {k : IntKind} (hi : look tab t = some i) (h : i.ty = some (.int k)) : P.underlying t = some (.int k) := by
  obtain ⟨d, hd, h2⟩ := ti_desc hT hi
  cases d <;> simp_all [descB]
theorem eqLeaf_run (hT : tabB E.leaves P tab = true) {t : Nat} {i : TI} (hi : look tab t = some i) (D : Nat) {p q : PVal E} {u v : Value} {b : Bool}
    (hp : Rp E A0 μ H w p u) (hq : Rp E A0 μ H w q v) (h : eqLeaf i p q = some b) : (Op.equalIn (D + 1) t u v).run P w = .ok b w := by
  unfold eqLeaf at h
  split at h
  · split at h
    rotate_left
    · cases h
    rename_i a b' hty
    have hd := ti_bool hT hi (tyIs_eq hty)
    cases hp with | v _ _ _ hp => cases hp with | bool _ =>
    cases hq with | v _ _ _ hq => cases hq with | bool _ =>
    simp at h; subst h
    rw [run_equalIn_bool' _ _ _ _ _ hd, Bool.beq_eq_decide_eq]
  · split at h
    rotate_left
    · cases h
    rename_i k a k' b' hty
    have hd := ti_int hT hi (tyIs_eq hty)
    cases hp with | v _ _ _ hp => cases hp with | int _ _ =>
    cases hq with | v _ _ _ hq => cases hq with | int _ _ =>
    simp only [Option.map_eq_some_iff] at h
    obtain ⟨c, hc, rfl⟩ := h
    obtain ⟨hk, hk2⟩ := castTy_some hc
    cases hk
    have hk2 : b' = c := hk2
    subst hk2
    rw [run_equalIn_int _ _ _ _ _ _ _ hd, ieq_eq]
    rfl
  · split at h
    rotate_left
    · cases h
    rename_i a b' hty
    have hd := ti_str hT hi (tyIs_eq hty)
    cases hp with | v _ _ _ hp => cases hp with | str _ =>
    cases hq with | v _ _ _ hq => cases hq with | str _ =>
    simp at h; subst h
    rw [run_equalIn_string _ _ _ _ _ hd, toList_beq]
  · split at h
    rotate_left
    · cases h
    rename_i hk
    obtain ⟨x, y, z, hf⟩ := ti_fk hT hi hk
    cases hp; cases hq
    simp at h; subst h
    exact run_eqFn1 hf
  · split at h
    rotate_left
    · cases h
    rename_i hk
    obtain ⟨x, y, z, hf⟩ := ti_fk hT hi hk
    cases hp; cases hq
    simp at h; subst h
    exact run_eqFn2 hf _ _ _
  · split at h
    rotate_left
    · cases h
    rename_i hk
    obtain ⟨x, y, z, hf⟩ := ti_fk hT hi hk
    cases hp; cases hq
    simp at h; subst h
    exact run_eqFn3 hf _ _ _
  · cases h
theorem eqItems_run (d : Nat) (e c : Nat) (xs ys : Array Value) (g : Nat → Option Bool) : ∀ (is : List Nat) (b : Bool),
    (∀ j ∈ is, ∀ r, g j = some r → ∃ x y, (part e xs (j * c)).run P w = .ok x w ∧ (part e ys (j * c)).run P w = .ok y w ∧ (Op.equalIn d e x y).run P w = .ok r w) →
    andO (is.map g) = some b → (Op.eqItems d e c xs ys is).run P w = .ok b w := by
  intro is
  induction is with
  | nil => intro b _ h; simp [andO] at h; subst h; simp [Op.eqItems]
  | cons j is ih =>
    intro b hg h
    obtain ⟨x, y, h1, h2, rfl⟩ := andO_cons (by simpa using h)
    obtain ⟨u, v, e1, e2, e3⟩ := hg j (by simp) x h1
    have := ih y (fun k hk => hg k (List.mem_cons_of_mem _ hk)) h2
    simp only [Op.eqItems, Sem.run_bind, e1, e2, e3, Result.andThen_ok]
    cases x with
    | false => simp
    | true => simpa using this
theorem eqT_run (hT : tabB E.leaves P tab = true) : ∀ (d : Nat) {t : Nat} {i : TI} {ps qs : List (PVal E)} {us vs : List Value} {b : Bool} (D : Nat), d ≤ D → look tab t = some i →
    RL (Rp E A0 μ H w) ps us → RL (Rp E A0 μ H w) qs vs → eqT tab d i ps qs = some b →
    (Op.equalIn D t (outV i us) (outV i vs)).run P w = .ok b w ∧ (i.agg = false → us ≠ [] ∧ vs ≠ []) := by
  intro d
  induction d with
  | zero => intro t i ps qs us vs b D _ _ _ _ h; simp [eqT] at h
  | succ d ih =>
    intro t i ps qs us vs b D hD hi hp hq h
    obtain ⟨D, rfl⟩ : ∃ D', D = D' + 1 := ⟨D - 1, by omega⟩
    have hD : d ≤ D := by omega
    simp only [eqT] at h
    cases ha : i.agg with
    | true =>
      simp only [ha, if_true] at h
      split at h
      rotate_left
      · cases h
      rename_i hc
      split at h
      rotate_left
      · rename_i h0
        have h0 : i.alen ≠ 0 := fun e => h0 (by simp [e])
        split at h
        rotate_left
        · cases h
        rename_i u hu
        refine ⟨?_, by simp⟩
        have hd := ti_arr hT hi ha h0
        obtain ⟨f, hf, hsz, _, _⟩ := ti_info hT hu
        have hc : P.cellsOf i.elem = u.size := by simp [Program.cellsOf, hf, hsz]
        simp only [outV, ha, if_true]
        rw [run_equalIn_array w D us.toArray vs.toArray hd hf, hc]
        refine eqItems_run D i.elem u.size us.toArray vs.toArray _ _ b ?_ h
        intro j _ c hjc
        obtain ⟨k1, k2⟩ := ih D hD hu (RL_sub hp (j * u.size) u.size) (RL_sub hq (j * u.size) u.size) hjc
        exact ⟨_, _, part_run hT hu us (j * u.size) (fun h => (k2 h).1), part_run hT hu vs (j * u.size) (fun h => (k2 h).2), k1⟩
      rename_i h0
      have h0 := Nat.eq_of_beq_eq_true h0
      refine ⟨?_, by simp⟩
      obtain ⟨dd, hd, h2⟩ := ti_desc hT hi
      obtain ⟨g1, g2⟩ := ti_cmp hT hi hc
      cases dd with
      | struct fs =>
        simp only [descB, Bool.and_eq_true, decide_eq_true_eq] at h2
        obtain ⟨⟨⟨⟨_, h3⟩, h4⟩, _⟩, _⟩ := h2
        obtain ⟨g3, g4⟩ := g2 fs hd
        have hfo : P.fieldsOf t = fs := by simp [Program.fieldsOf, hd]
        simp only [outV, ha, if_true]
        rw [run_equalIn_struct w D t us.toArray vs.toArray (by rw [hfo]; exact hd) g3, hfo]
        rw [h3] at h
        refine eqFields_run D us.toArray vs.toArray _ fs.toList b g4 ?_ h
        intro f hf c hfc
        simp only at hfc
        split at hfc
        rotate_left
        · cases hfc
        rename_i u hu
        obtain ⟨k1, k2⟩ := ih D hD hu (RL_sub hp f.offset u.size) (RL_sub hq f.offset u.size) hfc
        exact ⟨_, _, part_run hT hu us f.offset (fun h => (k2 h).1), part_run hT hu vs f.offset (fun h => (k2 h).2), k1⟩
      | array n e =>
        simp only [descB, Bool.and_eq_true] at h2
        have h5 : i.alen = n := Nat.eq_of_beq_eq_true h2.1.1.1.1.2
        have h6 : i.size = 0 := by
          have := h2.1.2
          split at this
          · simp only [Bool.and_eq_true] at this
            have := Nat.eq_of_beq_eq_true this.1
            rw [this, ← h5, h0]; simp
          · cases this
        have h7 : i.fields = [] := by simpa using h2.1.1.2
        rw [h7] at h
        simp [andO] at h
        subst h
        simp only [outV, ha, if_true, Op.equalIn, Sem.run_bind, run_underlying hd, Result.andThen_ok]
        have h8 : n = 0 := by omega
        subst h8
        have : ∃ u, look tab e = some u := by
          have := h2.1.2
          split at this
          · rename_i u hu; exact ⟨u, hu⟩
          · cases this
        obtain ⟨u, hu⟩ := this
        simp [run_sizeOf' hT hu]
      | _ => simp [descB, ha] at h2
    | false =>
      simp only [ha, Bool.false_eq_true, if_false] at h
      split at h
      rotate_left
      · cases h
      rename_i p q
      obtain ⟨u, rfl⟩ : ∃ u, us = [u] := by
        have := hp.1
        match us, this with
        | [u], _ => exact ⟨u, rfl⟩
      obtain ⟨v, rfl⟩ : ∃ v, vs = [v] := by
        have := hq.1
        match vs, this with
        | [v], _ => exact ⟨v, rfl⟩
      refine ⟨?_, by simp⟩
      replace hp := hp.2 0 p u rfl rfl
      replace hq := hq.2 0 q v rfl rfl
      simp only [outV, ha, Bool.false_eq_true, if_false, List.headD_cons]
      exact eqLeaf_run hT hi D hp hq h
end
end Go.Pe
namespace Go.Pe
variable {E : Types}
section
variable {P : Program} {tab : List (Nat × TI)} {A0 : Nat → Prop} {μ : Nat → Loc} {H : List (Blk E)} {w : World} {R : Type} {K : PVal E → List (Blk E) → Option R} {r : R}
def eqlS (op : BinOp) (t : Nat) (x y : Operand) (u v : Value) : Sem Value := do eqGuard op t x y u v; binOp op t u v
def plainV : Value → Prop
  | .nilIface => False | .agg _ => False | _ => True
theorem eqGuard_plain (op : BinOp) (t : Nat) (x y : Operand) {u v : Value} (h : plainV u) : (eqGuard op t x y u v).run P w = .ok () w := by
  cases u <;> first | exact absurd h id | (cases op <;> rfl)
theorem eqlS_plain (op : BinOp) (t : Nat) (x y : Operand) {u v : Value} (h : plainV u) : (eqlS op t x y u v).run P w = (binOp op t u v).run P w := by
  simp only [eqlS, Sem.run_bind, eqGuard_plain op t x y h, Result.andThen_ok]
theorem eqT_cmp {d : Nat} {i : TI} {a c : List (PVal E)} {b : Bool} (ha : i.agg = true) (h : eqT tab (d + 1) i a c = some b) : i.cmp = true := by
  simp only [eqT, ha, if_true] at h
  split at h
  · assumption
  · cases h
theorem shl_bin {k yk : IntKind} {a c : IntDen k} {n : Int} (t : Nat) (hn : 0 ≤ n) (h : ishl k a (min n.toNat k.bits) = some c) : (binOp .shl t (.int k (toZ k a)) (.int yk n)).run P w = .ok (.int k (toZ k c)) w :=
  ishl_run (yk := yk) hn h
theorem shr_bin {k yk : IntKind} {a c : IntDen k} {n : Int} (t : Nat) (hn : 0 ≤ n) (h : ishr k a (min n.toNat k.bits) = some c) : (binOp .shr t (.int k (toZ k a)) (.int yk n)).run P w = .ok (.int k (toZ k c)) w :=
  ishr_run (yk := yk) hn h
theorem eqD_run (hT : tabB E.leaves P tab = true) {t : Nat} {i : TI} (hi : look tab t = some i) {p q : PVal E} {u v : Value} {b : Bool}
    (hp : Rp E A0 μ H w p u) (hq : Rp E A0 μ H w q v) (h : eqD tab i p q = some b) (x y : Operand) :
    (eqlS .eql t x y u v).run P w = .ok (.bool b) w ∧ (eqlS .neq t x y u v).run P w = .ok (.bool !b) w := by
  unfold eqD at h
  split at h
  · rename_i ha
    split at h
    · rename_i a c h1 h2
      obtain ⟨us, rfl, hu⟩ := aggP_sound hp h1
      obtain ⟨vs, rfl, hv⟩ := aggP_sound hq h2
      have hc : i.cmp = true := by
        exact eqT_cmp ha h
      obtain ⟨g1, _⟩ := ti_cmp hT hi hc
      obtain ⟨k, _⟩ := eqT_run hT 50 10000 (by omega) hi hu hv h
      simp only [outV, ha, if_true] at k
      simp only [eqlS, Sem.run_bind, run_eqGuard_agg w _ t x y _ _ g1, Result.andThen_ok, run_eql_struct, run_neq_struct]
      rw [show (us.toList.toArray) = us from rfl, show (vs.toList.toArray) = vs from rfl] at k
      rw [k]
      exact ⟨rfl, rfl⟩
    · cases h
  · have k := eqLeaf_run hT hi 9999 hp hq h
    unfold eqLeaf at h
    split at h
    · split at h
      rotate_left
      · cases h
      cases hp with | v _ _ _ hp => cases hp with | bool _ =>
      cases hq with | v _ _ _ hq => cases hq with | bool _ =>
      rw [eqlS_plain _ _ _ _ (by trivial), eqlS_plain _ _ _ _ (by trivial)]
      simp only [binOp, Sem.run_bind, Op.equal, Op.maxDepth, k, Result.andThen_ok, Sem.run_pure, and_self]
    · split at h
      rotate_left
      · cases h
      rename_i k a k' b' hty
      cases hp with | v _ _ _ hp => cases hp with | int _ _ =>
      cases hq with | v _ _ _ hq => cases hq with | int _ _ =>
      simp only [Option.map_eq_some_iff] at h
      obtain ⟨c, hc, rfl⟩ := h
      obtain ⟨hk, hk2⟩ := castTy_some hc
      cases hk
      have hk2 : b' = c := hk2
      subst hk2
      rw [eqlS_plain _ _ _ _ (by trivial), eqlS_plain _ _ _ _ (by trivial)]
      simp only [binOp, ne_eq, not_true_eq_false, if_false, Op.intCmp, Sem.run_pure, ieq_eq]
      exact ⟨rfl, rfl⟩
    · split at h
      rotate_left
      · cases h
      rename_i a b' hty
      cases hp with | v _ _ _ hp => cases hp with | str _ =>
      cases hq with | v _ _ _ hq => cases hq with | str _ =>
      simp at h; subst h
      rw [eqlS_plain _ _ _ _ (by trivial), eqlS_plain _ _ _ _ (by trivial)]
      simp only [binOp, Op.stringOp, Sem.run_pure, toList_beq, and_self]
    · split at h
      rotate_left
      · cases h
      cases hp; cases hq
      rw [eqlS_plain _ _ _ _ (by trivial), eqlS_plain _ _ _ _ (by trivial)]
      simp only [binOp, Sem.run_bind, Op.equal, Op.maxDepth, k, Result.andThen_ok, Sem.run_pure, and_self]
    · split at h
      rotate_left
      · cases h
      cases hp; cases hq
      rw [eqlS_plain _ _ _ _ (by trivial), eqlS_plain _ _ _ _ (by trivial)]
      simp only [binOp, Sem.run_bind, Op.equal, Op.maxDepth, k, Result.andThen_ok, Sem.run_pure, and_self]
    · split at h
      rotate_left
      · cases h
      cases hp; cases hq
      rw [eqlS_plain _ _ _ _ (by trivial), eqlS_plain _ _ _ _ (by trivial)]
      simp only [binOp, Sem.run_bind, Op.equal, Op.maxDepth, k, Result.andThen_ok, Sem.run_pure, and_self]
    · cases h
theorem bool_res {b : Bool} {s : Sem Value} (S : HSim A0 μ H w) (h : (boolD (E := E) b).cps H K = some r) (hs : s.run P w = .ok (.bool b) w) : ValRes P A0 μ H w s K r :=
  ValRes.same S hs (.v _ _ _ (.bool b)) h
theorem int_res {k : IntKind} {o : Option (IntDen k)} {s : Sem Value} (S : HSim A0 μ H w) (h : (intD (E := E) k o).cps H K = some r) (hs : ∀ x, o = some x → s.run P w = .ok (.int k (toZ k x)) w) : ValRes P A0 μ H w s K r := by
  unfold intD at h
  split at h
  · exact ValRes.same S (hs _ rfl) (.v _ _ _ (.int k _)) h
  · simp [Dec.cps] at h
theorem br_fail {α : Type} {b : Bool} {d : Dec E α} {K : α → List (Blk E) → Option R} (h : (Dec.br b .fail d).cps H K = some r) : b = false ∧ d.cps H K = some r := by
  cases b
  · exact ⟨rfl, by simpa [Dec.cps] using h⟩
  · simp [Dec.cps] at h
theorem br_else {α : Type} {b : Bool} {d : Dec E α} {K : α → List (Blk E) → Option R} (h : (Dec.br b d .fail).cps H K = some r) : b = true ∧ d.cps H K = some r := by
  cases b
  · simp [Dec.cps] at h
  · exact ⟨rfl, by simpa [Dec.cps] using h⟩
theorem binD_sound (hT : tabB E.leaves P tab = true) {t : Nat} {i : TI} (hi : look tab t = some i) {op : BinOp} {p q : PVal E} {u v : Value} (x y : Operand) (S : HSim A0 μ H w)
    (hp : Rp E A0 μ H w p u) (hq : Rp E A0 μ H w q v) (h : (binD tab i op p q).cps H K = some r) : ValRes P A0 μ H w (eqlS op t x y u v) K r := by
  unfold binD at h
  split at h
  · split at h
    · rename_i b hb; exact bool_res S h (eqD_run hT hi hp hq hb x y).1
    · simp [Dec.cps] at h
  · split at h
    · rename_i b hb; exact bool_res S h (eqD_run hT hi hp hq hb x y).2
    · simp [Dec.cps] at h
  · split at h
    · cases hp with | v _ _ _ hp => cases hp with | int k a =>
      cases hq with | v _ _ _ hq => cases hq with | int k' n =>
      obtain ⟨hn, h⟩ := br_fail h
      refine int_res S h fun z hz => ?_
      rw [eqlS_plain _ _ _ _ (by trivial)]
      exact shl_bin t (by simpa using hn) hz
    · cases hp with | v _ _ _ hp => cases hp with | int k a =>
      cases hq with | v _ _ _ hq => cases hq with | int k' n =>
      refine int_res S h fun z hz => ?_
      rw [eqlS_plain _ _ _ _ (by trivial)]
      exact shl_bin t (Int.natCast_nonneg _) (by rw [Int.toNat_natCast]; exact hz)
    · simp [Dec.cps] at h
  · split at h
    · cases hp with | v _ _ _ hp => cases hp with | int k a =>
      cases hq with | v _ _ _ hq => cases hq with | int k' n =>
      obtain ⟨hn, h⟩ := br_fail h
      refine int_res S h fun z hz => ?_
      rw [eqlS_plain _ _ _ _ (by trivial)]
      exact shr_bin t (by simpa using hn) hz
    · cases hp with | v _ _ _ hp => cases hp with | int k a =>
      cases hq with | v _ _ _ hq => cases hq with | int k' n =>
      refine int_res S h fun z hz => ?_
      rw [eqlS_plain _ _ _ _ (by trivial)]
      exact shr_bin t (Int.natCast_nonneg _) (by rw [Int.toNat_natCast]; exact hz)
    · simp [Dec.cps] at h
  · split at h
    · split at h
      rotate_left
      · simp [Dec.cps] at h
      rename_i k a k' b0 _ b hc
      cases hp with | v _ _ _ hp => cases hp with | int _ _ =>
      cases hq with | v _ _ _ hq => cases hq with | int _ _ =>
      obtain ⟨hk, hk2⟩ := castTy_some hc
      cases hk
      have hk2 : b0 = b := hk2
      subst hk2
      have pl : plainV (.int k (toZ k a)) := trivial
      split at h
      · exact int_res S h fun z hz => by rw [eqlS_plain _ _ _ _ pl]; simpa [binOp] using iadd_run hz
      · exact int_res S h fun z hz => by rw [eqlS_plain _ _ _ _ pl]; simpa [binOp] using isub_run hz
      · exact int_res S h fun z hz => by rw [eqlS_plain _ _ _ _ pl]; simpa [binOp] using imul_run hz
      · obtain ⟨hn, h⟩ := br_fail h
        exact int_res S h fun z hz => by rw [eqlS_plain _ _ _ _ pl]; simpa [binOp] using iquo_run hn hz
      · obtain ⟨hn, h⟩ := br_fail h
        exact int_res S h fun z hz => by rw [eqlS_plain _ _ _ _ pl]; simpa [binOp] using irem_run hn hz
      · exact int_res S h fun z hz => by rw [eqlS_plain _ _ _ _ pl]; simpa [binOp] using iand_run hz
      · exact int_res S h fun z hz => by rw [eqlS_plain _ _ _ _ pl]; simpa [binOp] using ior_run hz
      · exact int_res S h fun z hz => by rw [eqlS_plain _ _ _ _ pl]; simpa [binOp] using ixor_run hz
      · exact int_res S h fun z hz => by rw [eqlS_plain _ _ _ _ pl]; simpa [binOp] using iandnot_run hz
      · exact bool_res S h (by rw [eqlS_plain _ _ _ _ pl]; simpa [binOp] using lss_run a b0)
      · exact bool_res S h (by rw [eqlS_plain _ _ _ _ pl]; simpa [binOp] using leq_run a b0)
      · exact bool_res S h (by rw [eqlS_plain _ _ _ _ pl]; simpa [binOp] using gtr_run a b0)
      · exact bool_res S h (by rw [eqlS_plain _ _ _ _ pl]; simpa [binOp] using geq_run a b0)
      · simp [Dec.cps] at h
    · split at h
      · rename_i a b _ _ _ _ _
        cases hp with | v _ _ _ hp => cases hp with | str _ =>
        cases hq with | v _ _ _ hq => cases hq with | str _ =>
        obtain ⟨hn, h⟩ := br_else h
        have hn : ByteArray.size a + ByteArray.size b < 4294967296 := by simpa using hn
        refine ValRes.same S ?_ (.v _ _ _ (.str _)) h
        rw [eqlS_plain _ _ _ _ (by trivial)]
        simp only [binOp]
        exact run_string_add_sum _ a b (by omega)
      · simp [Dec.cps] at h
    · simp [Dec.cps] at h
theorem unD_sound {op : UnOp} {p : PVal E} {u : Value} (S : HSim A0 μ H w) (hp : Rp E A0 μ H w p u) (h : (unD op p).cps H K = some r) : ValRes P A0 μ H w (Op.unary op u) K r := by
  unfold unD at h
  split at h
  · cases hp with | v _ _ _ hp => cases hp with | bool b =>
    exact bool_res S h (by simp [Op.unary])
  · cases hp with | v _ _ _ hp => cases hp with | int k x =>
    refine ValRes.same S ?_ (.v _ _ _ (.int .u64 _)) h
    simp only [Op.unary, Op.intArith, Sem.run_pure, toZ]
    congr 2
    rename_i y _
    have key : ∀ x : BitVec 64, IntKind.u64.wrap (0 - (x.toNat : Int)) = ((0 - x : BitVec 64).toNat : Int) := fun x => by
      rw [IntKind.wrap_u64, BitVec.toNat_sub]
      have := x.isLt
      simp
      omega
    exact key _
  · cases hp with | v _ _ _ hp => cases hp with | int k x =>
    refine ValRes.same S ?_ (.v _ _ _ (.int .i64 _)) h
    simp only [Op.unary, Op.intArith, Sem.run_pure, toZ]
    rw [wrap_i64]
  · cases hp with | v _ _ _ hp => cases hp with | int k x =>
    refine ValRes.same S ?_ (.v _ _ _ (.int .u64 _)) h
    simp only [Op.unary, Op.intBits, Sem.run_pure, toZ, IntKind.bits, ofInt_toNat64]
    rw [wrap_toNat]
    congr 4
  · simp [Dec.cps] at h
theorem convD_sound (hT : tabB E.leaves P tab = true) {s d : Nat} {i j : TI} (hi : look tab d = some i) (hj : look tab s = some j) {p : PVal E} {u : Value} (S : HSim A0 μ H w) (hp : Rp E A0 μ H w p u)
    (h : (convD i p).cps H K = some r) : ValRes P A0 μ H w (convert s d u) K r := by
  obtain ⟨ds, h1, _⟩ := ti_desc hT hj
  unfold convD at h
  split at h
  · rename_i k x k' hty
    cases hp with | v _ _ _ hp => cases hp with | int _ _ =>
    have hd := ti_int hT hi hty
    refine int_res S h fun z hz => ?_
    simp only [convert, Sem.run_bind, run_underlying h1, run_underlying hd, Result.andThen_ok, Conv.intToInt, Sem.run_pure, iconv_eq hz]
  · rename_i x hty
    cases hp with | v _ _ _ hp => cases hp with | str _ =>
    have hd := ti_str hT hi hty
    refine ValRes.same S ?_ (.v _ _ _ (.str _)) h
    simp only [convert, Sem.run_bind, run_underlying h1, run_underlying hd, Result.andThen_ok]
    cases ds <;> rfl
  · simp [Dec.cps] at h
theorem mini_run {k : IntKind} {a b c : IntDen k} (h : mini k a b = some c) : (Builtin.min2 (.int k (toZ k a)) (.int k (toZ k b))).run P w = .ok (.int k (toZ k c)) w := by
  cases k <;> simp only [mini, Option.some.injEq, reduceCtorEq] at h <;> subst h <;> simp only [Builtin.min2, Sem.run_pure, toZ]
  · congr 2; cases hc : decide (b < a) <;> simp_all <;> omega
  · congr 2; cases hc : decide (b < a) <;> simp_all [BitVec.lt_def, BitVec.le_def] <;> omega
theorem maxi_run {k : IntKind} {a b c : IntDen k} (h : maxi k a b = some c) : (Builtin.max2 (.int k (toZ k a)) (.int k (toZ k b))).run P w = .ok (.int k (toZ k c)) w := by
  cases k <;> simp only [maxi, Option.some.injEq, reduceCtorEq] at h <;> subst h <;> simp only [Builtin.max2, Sem.run_pure, toZ]
  · congr 2; cases hc : decide (a < b) <;> simp_all <;> omega
  · congr 2; cases hc : decide (a < b) <;> simp_all [BitVec.lt_def, BitVec.le_def] <;> omega
end
end Go.Pe
namespace Go.Pe
variable {E : Types}
section
variable {P : Program} {tab : List (Nat × TI)} {A0 : Nat → Prop} {μ : Nat → Loc} {H : List (Blk E)} {w : World} {R : Type} {K : PVal E → List (Blk E) → Option R} {r : R}
theorem blt_bif {α : Type} {a b : Nat} {x y : α} (h : a < b) : (bif Nat.blt a b then x else y) = x := by
  rw [show Nat.blt a b = true from Nat.ble_eq_true_of_le h]; rfl
theorem leaf_one_cells {w : World} {A U : Nat → Prop} {μ : Nat → Loc} {p : PVal E} {v : Value} (h : RepP E w A U μ p v) (hl : p.leaf = true) : v.cells = #[v] := by
  cases h with
  | v τ x v h => exact h.leaf_cells hl
  | _ => first | rfl | (simp [PVal.leaf] at hl)
theorem fill_seq (size : Nat) : ∀ (parts : List (Nat × Value)) (m : Nat) (cells : Array Value), (∀ p ∈ parts, p.2.cells.size = size) → parts.map (·.1) = List.range' m parts.length → cells.size = (m + parts.length) * size →
    ∃ cells', Instr.fill (fun i => some (i * size, size)) cells parts = some cells' ∧ cells'.toList = cells.toList.take (m * size) ++ (parts.map (·.2)).flatMap fun v => v.cells.toList
  | [], m, cells, _, _, hs => ⟨cells, rfl, by
      have : cells.toList.length = m * size := by simpa using hs
      simp [List.take_of_length_le (Nat.le_of_eq this)]⟩
  | (j, v) :: parts, m, cells, hp, hm, hs => by
    simp only [List.map_cons, List.length_cons, List.range'_succ, List.cons.injEq] at hm
    obtain ⟨rfl, hm⟩ := hm
    have hv : v.cells.size = size := hp _ (List.mem_cons_self ..)
    have hs' : cells.size = j * size + size + parts.length * size := by
      rw [hs]; simp only [List.length_cons, Nat.add_mul, Nat.one_mul]; omega
    have hfold : (v.cells.zipIdx.foldl (fun cs (c, k) => cs.setIfInBounds (j * size + k) c) cells).toList = splice cells.toList (j * size) v.cells.toList := by
      rw [← Array.foldl_toList, Array.toList_zipIdx]
      have := foldl_set (j * size) v.cells.toList 0 cells (by simp [hv]; omega)
      simpa using this
    have hlen : (v.cells.zipIdx.foldl (fun cs (c, k) => cs.setIfInBounds (j * size + k) c) cells).size = cells.size := by
      rw [← Array.length_toList, hfold]
      simp [splice, hv]
      omega
    obtain ⟨c', h1, h2⟩ := fill_seq size parts (j + 1) _ (fun p h => hp p (List.mem_cons_of_mem _ h)) hm (by rw [hlen, hs']; simp only [Nat.add_mul, Nat.one_mul])
    refine ⟨c', ?_, ?_⟩
    · simp only [Instr.fill]
      rw [if_neg (by simp [hv]; omega)]
      exact h1
    · rw [h2, hfold]
      simp only [splice, List.map_cons, List.flatMap_cons]
      have e : (j + 1) * size = j * size + size := by simp [Nat.add_mul]
      have hl : (List.take (j * size) cells.toList).length = j * size := by simp; omega
      rw [List.take_append_of_le_length (by simp [hv]; omega)]
      rw [e, List.take_of_length_le (by simp [hv]; omega)]
      simp
theorem typedList_sound {α : Type} {K : α → List (Blk E) → Option R} (e : Ty) (k : List (Den E.T e) → Dec E α) : ∀ {ps : List (PVal E)} {acc : List (Den E.T e)} {vs : List Value} {H : List (Blk E)}, HSim A0 μ H w → RL (Rp E A0 μ H w) ps vs →
    (typedList e k ps acc).cps H K = some r → ∃ (xs : List (Den E.T e)) (H' : List (Blk E)), Trans A0 μ H w μ H' w ∧ HSim A0 μ H' w ∧ xs.length = ps.length ∧ (∀ i (h : i < xs.length), Rt E A0 μ H' w e (vs.getD i undef) xs[i]) ∧
      (∀ id, getB H id = .free → getB H' id = .free) ∧ (k (acc ++ xs)).cps H' K = some r
  | [], acc, vs, H, S, hr, h => ⟨[], H, Trans.refl _ _ _ _, S, rfl, fun i h => by simp at h, fun _ h => h, by simpa [typedList] using h⟩
  | p :: ps, acc, [], H, S, hr, h => by have := hr.1; simp at this
  | p :: ps, acc, v :: vs, H, S, hr, h => by
    simp only [typedList] at h
    obtain ⟨x, H1, T1, S1, h1, f1, h⟩ := typed_sound S (hr.2 0 p v rfl rfl) h
    obtain ⟨xs, H2, T2, S2, h2, h3, f2, h⟩ := typedList_sound e k (acc := acc ++ [x]) (vs := vs) S1 ⟨by have := hr.1; simpa using this, fun j q u hq hu => T1.rep (hr.2 (j + 1) q u (by simpa using hq) (by simpa using hu))⟩ h
    refine ⟨x :: xs, H2, T1.trans T2, S2, by simp [h2], fun i hi => ?_, fun id hf => f2 id (f1 id hf), by simpa using h⟩
    cases i with
    | zero => simpa using T2.repT h1
    | succ i => simpa using h3 i (by simpa using hi)
theorem flat_joinV (vs : List Value) : vs.flatMap (fun v => v.cells.toList) = joinV (fun i => vs.getD i undef) vs.length := by
  unfold joinV
  induction vs with
  | nil => rfl
  | cons v vs ih =>
    rw [List.length_cons, List.range_succ_eq_map, List.flatMap_cons, List.flatMap_cons, ih, List.flatMap_map]
    simp
theorem run_buildSlice (hT : tabB E.leaves P tab = true) {t : Nat} {i u : TI} (hi : look tab t = some i) (hu : look tab i.elem = some u) (hsl : i.sl = true) {len : Nat} {parts : Array (Nat × Value)}
    (hs : ∀ p ∈ parts.toList, p.2.cells.size = u.size) (hm : parts.toList.map (·.1) = List.range len) (hb : len * u.size ≤ 16777216) (hz : u.size ≠ 0) :
    (Instr.buildSlice t len parts).run P w = .ok (.slice (some ⟨w.heap.size, 0, none⟩) len len) (w.alloc (.cells ((parts.toList.map (·.2)).flatMap fun v => v.cells.toList).toArray i.elem)) := by
  have hd := ti_sl hT hi hsl
  have hlen : parts.toList.length = len := by have := congrArg List.length hm; simpa using this
  obtain ⟨c', h1, h2⟩ := fill_seq u.size parts.toList 0 ((Array.range (len * u.size)).map ((zeroV u).cells[· % (zeroV u).cells.size]!)) hs (by rw [hm, hlen, List.range_eq_range']) (by simp; rw [← hlen]; simp)
  have h3 : c' = ((parts.toList.map (·.2)).flatMap fun v => v.cells.toList).toArray := by
    apply Array.toList_inj.1
    rw [h2]; simp
  subst h3
  simp only [Instr.buildSlice, Sem.run_bind, run_underlying hd, Result.andThen_ok, run_sizeOf' hT hu, gt_iff_lt]
  rw [if_neg (by omega)]
  by_cases h0 : len * u.size = 0
  · have hl0 : len = 0 := by
      rcases Nat.mul_eq_zero.1 h0 with h | h
      · exact h
      · exact absurd h hz
    subst hl0
    have hp : parts.toList = [] := by simpa using hlen
    simp [hp, Instr.fill, newRow]
    congr 2
    exact Array.eq_empty_of_size_eq_zero (by simp)
  · simp only [h0, if_false, Sem.run_bind, run_zeroValue' hT hu, Result.andThen_ok, Sem.run_pure, h1]
    simp [newRow]
theorem buildSliceD_sound (hT : tabB E.leaves P tab = true) {t : Nat} {i u : TI} (hi : look tab t = some i) (hu : look tab i.elem = some u) {ρ : Operand → PVal E} {ρv : Operand → Value} {parts : Array (Nat × Operand)} {len fresh : Nat} (S : HSim A0 μ H w)
    (F : FreeAt H fresh A0 w) (hρ : ∀ x, Rp E A0 μ H w (ρ x) (ρv x))
    (h : (buildSliceD i u fresh len (parts.toList.map fun p => (p.1, ρ p.2))).cps H K = some r) : ValRes P A0 μ H w (Instr.buildSlice t len (parts.map fun (i, x) => (i, ρv x))) K r := by
  unfold buildSliceD at h
  split at h
  rotate_left
  · simp [Dec.cps] at h
  rename_i hc
  simp only [Bool.and_eq_true, decide_eq_true_eq, List.map_map] at hc
  obtain ⟨⟨hsl, hm⟩, hb⟩ := hc
  have hb := Nat.le_of_ble_eq_true hb
  have hpv : (parts.map fun (i, x) => (i, ρv x)).toList = parts.toList.map fun p => (p.1, ρv p.2) := by simp
  have hm' : (parts.map fun (i, x) => (i, ρv x)).toList.map (·.1) = List.range len := by
    rw [hpv, ← hm, List.map_map]; rfl
  have hv2 : (parts.map fun (i, x) => (i, ρv x)).toList.map (·.2) = parts.toList.map fun p => ρv p.2 := by
    rw [hpv, List.map_map]; rfl
  have hlen : parts.toList.length = len := by have := congrArg List.length hm; simpa using this
  have hrl : RL (Rp E A0 μ H w) (parts.toList.map fun p => ρ p.2) (parts.toList.map fun p => ρv p.2) :=
    ⟨by simp, fun j p v hp hv => by
      simp only [List.getElem?_map, Option.map_eq_some_iff] at hp hv
      obtain ⟨a, ha, rfl⟩ := hp
      obtain ⟨a', ha', rfl⟩ := hv
      rw [ha] at ha'; injection ha' with ha'; subst ha'
      exact hρ a.2⟩
  split at h
  · rename_i e hty
    obtain ⟨u', hu', hut, hs0, hd, hna⟩ := ti_slice_elem hT hi hty
    rw [hu] at hu'; injection hu' with hu'; subst hu'
    have hsz := size_of_ty hT e hu hut
    simp only [List.map_map] at h
    obtain ⟨xs, H', T, S', hl, hr, hf, h⟩ := typedList_sound e _ S hrl h
    simp only [Dec.cps, List.nil_append] at h
    have F' := F.trans T (hf _ F.free)
    rw [blt_bif F'.lt] at h
    have hxl : xs.length = len := by rw [hl]; simpa using hlen
    have hget : ∀ i, i < len → ((parts.toList.map fun p => ρv p.2).getD i undef).cells.size = u.size := fun i hi => by
      have := (hr i (by omega)).size
      rw [this, hsz]
    have hs : ∀ p ∈ (parts.map fun (i, x) => (i, ρv x)).toList, p.2.cells.size = u.size := by
      intro p hp
      rw [hpv] at hp
      obtain ⟨a, ha, rfl⟩ := List.mem_map.1 hp
      obtain ⟨j, hj, rfl⟩ := List.getElem_of_mem ha
      have := hget j (by omega)
      have e : (parts.toList.map fun p => ρv p.2).getD j undef = ρv (parts.toList[j]).2 := by
        rw [List.getD_eq_getElem?_getD, List.getElem?_map, List.getElem?_eq_getElem hj]; rfl
      rw [e] at this
      exact this
    have hcells : RowCells w (Av A0 μ H') e xs ((parts.toList.map fun p => ρv p.2).flatMap fun v => v.cells.toList).toArray (fun i => (parts.toList.map fun p => ρv p.2).getD i undef) := by
      have hj := flat_joinV (parts.toList.map fun p => ρv p.2)
      have hl2 : (parts.toList.map fun p => ρv p.2).length = len := by simpa using hlen
      rw [hl2] at hj
      refine ⟨?_, fun i hi j v hv => ?_, hr⟩
      · rw [hj]
        simp only [List.size_toArray]
        rw [joinV_len _ u.size _ hget, hxl, hsz]
      · rw [hj, hsz]
        simpa using joinV_get _ u.size len hget i (by omega) j v hv
    obtain ⟨T2, S2, hrep⟩ := newRow_ok (t := i.elem) (newCap := xs.length) (rest := #[]) S' F' hcells (Nat.le_refl _) (by simpa using hcells.size) rfl (Quiet.refl w)
    refine ⟨_, _, _, _, _, ?_, T.trans T2, S2, hrep, h⟩
    rw [run_buildSlice hT hi hu hsl hs hm' hb hs0, hv2, hxl]
    simp
  · split at h
    rotate_left
    · simp [Dec.cps] at h
    rename_i hc
    simp only [Bool.and_eq_true] at hc
    have h1 := Nat.eq_of_beq_eq_true hc.1
    simp only [Dec.cps] at h
    rw [blt_bif F.lt] at h
    have hleaf : ∀ p ∈ parts.toList.map (fun p => ρ p.2), p.leaf = true := by
      intro p hp
      obtain ⟨a, ha, rfl⟩ := List.mem_map.1 hp
      exact List.all_eq_true.1 hc.2 (a.1, ρ a.2) (List.mem_map.2 ⟨a, ha, rfl⟩)
    have hone : ∀ a ∈ parts.toList, (ρv a.2).cells = #[ρv a.2] := fun a ha => leaf_one_cells (hρ a.2) (hleaf (ρ a.2) (List.mem_map.2 ⟨a, ha, rfl⟩))
    obtain ⟨T, S', hU⟩ := newBox (t := i.elem) S F hrl hleaf len len
    simp only [List.map_map] at h
    refine ⟨_, _, _, _, _, ?_, T, S', .bsl fresh len w.heap.size hU (setL_eq _ _ _), h⟩
    rw [run_buildSlice hT hi hu hsl (fun p hp => by
      rw [hpv] at hp
      obtain ⟨a, ha, rfl⟩ := List.mem_map.1 hp
      rw [hone a ha, h1]; rfl) hm' hb (by omega), hv2]
    congr 4
    rw [List.flatMap_map]
    have e : (parts.toList.map fun a => (ρv a.2).cells.toList) = parts.toList.map fun a => [ρv a.2] := List.map_congr_left (fun a ha => by rw [hone a ha])
    rw [List.flatMap_def, e]
    have e2 : ∀ l : List (Nat × Operand), (l.map fun a => [ρv a.2]).flatten = l.map fun a => ρv a.2 := fun l => by
      induction l with
      | nil => rfl
      | cons a l ih => simp [ih]
    exact e2 _
end
end Go.Pe
namespace Go.Pe
variable {E : Types}
section
variable {P : Program} {tab : List (Nat × TI)} {A0 : Nat → Prop} {μ : Nat → Loc} {H : List (Blk E)} {w : World} {R : Type} {K : PVal E → List (Blk E) → Option R} {r : R}
theorem rep_i64 {w : World} {A U : Nat → Prop} {x : Int} {v : Value} (h : RepP E w A U μ (.v (.int .i64) x) v) : v = .int .i64 x := by
  cases h with | v _ _ _ h => cases h; rfl
theorem i64_rep {w : World} {A U : Nat → Prop} (x : Int) : RepP E w A U μ (.v (.int .i64) x) (.int .i64 x) := .v _ _ _ (.int .i64 x)
theorem zeroOf_rep {w : World} {A U : Nat → Prop} {i : TI} (h : i.agg = true ∨ i.zero.length = 1) : RepP E w A U μ (zeroOf i) (zeroV i) := by
  unfold zeroOf zeroV
  cases hag : i.agg with
  | true => simp only [if_true]; exact RepP.aggL (Zs_rep i.zero)
  | false =>
    simp only [Bool.false_eq_true, if_false]
    rw [hag] at h
    have h : i.zero.length = 1 := by simpa using h
    match hz : i.zero, h with
    | [z], _ => exact Z_rep z
def MR (R : PVal E → Value → Prop) (es : List (PVal E × PVal E)) (ms : List MapEntry) : Prop := es.length = ms.length ∧ ∀ (j : Nat) (p : PVal E × PVal E) (m : MapEntry), es[j]? = some p → ms[j]? = some m → R p.1 m.key ∧ R p.2 m.val
theorem MR.nil {R : PVal E → Value → Prop} : MR R [] [] := ⟨rfl, fun j p m h => by simp at h⟩
theorem MR.head {R : PVal E → Value → Prop} {e : PVal E × PVal E} {es : List (PVal E × PVal E)} {ms : List MapEntry} (h : MR R (e :: es) ms) : ∃ m ms', ms = m :: ms' ∧ R e.1 m.key ∧ R e.2 m.val ∧ MR R es ms' := by
  cases ms with
  | nil => have := h.1; simp at this
  | cons m ms =>
    have h0 := h.2 0 e m rfl rfl
    exact ⟨m, ms, rfl, h0.1, h0.2, by have := h.1; simpa using this, fun j p u hp hu => h.2 (j + 1) p u (by simpa using hp) (by simpa using hu)⟩
theorem MR.cons {R : PVal E → Value → Prop} {e : PVal E × PVal E} {es : List (PVal E × PVal E)} {m : MapEntry} {ms : List MapEntry} (h1 : R e.1 m.key) (h2 : R e.2 m.val) (h : MR R es ms) : MR R (e :: es) (m :: ms) :=
  ⟨by have := h.1; simpa using this, fun j p u hp hu => by
    cases j with
    | zero => simp at hp hu; subst hp hu; exact ⟨h1, h2⟩
    | succ j => exact h.2 j p u (by simpa using hp) (by simpa using hu)⟩
theorem MR.append {R : PVal E → Value → Prop} {es es' : List (PVal E × PVal E)} {ms ms' : List MapEntry} (h : MR R es ms) (k : MR R es' ms') : MR R (es ++ es') (ms ++ ms') := by
  induction es generalizing ms with
  | nil =>
    have := h.1
    have : ms = [] := List.eq_nil_of_length_eq_zero (by simpa using this.symm)
    subst this; exact k
  | cons e es ih =>
    obtain ⟨m, ms2, rfl, h1, h2, h3⟩ := h.head
    exact MR.cons h1 h2 (ih h3)
theorem MR.of_blk {w : World} {A U : Nat → Prop} {es : List (PVal E × PVal E)} {ms : Array MapEntry} (hs : ms.size = es.length)
    (h : ∀ j (h : j < es.length), RepP E w A U μ es[j].1 ((ms.getD j default).key) ∧ RepP E w A U μ es[j].2 ((ms.getD j default).val)) : MR (RepP E w A U μ) es ms.toList :=
  ⟨by simp [hs], fun j p m hp hm => by
    obtain ⟨hj, rfl⟩ := List.getElem?_eq_some_iff.1 hp
    have := h j hj
    have e : ms.getD j default = m := by
      rw [Array.getD_eq_getD_getElem?, ← Array.getElem?_toList, hm]; rfl
    rwa [e] at this⟩
theorem MR.to_blk {w : World} {A U : Nat → Prop} {es : List (PVal E × PVal E)} {ms : Array MapEntry} (h : MR (RepP E w A U μ) es ms.toList) : ms.size = es.length ∧
    ∀ j (h : j < es.length), RepP E w A U μ es[j].1 ((ms.getD j default).key) ∧ RepP E w A U μ es[j].2 ((ms.getD j default).val) :=
  ⟨by have := h.1; simpa using this.symm, fun j hj => by
    have hl := h.1
    have hj' : j < ms.toList.length := by omega
    have := h.2 j _ _ (List.getElem?_eq_getElem hj) (List.getElem?_eq_getElem hj')
    have e : ms.getD j default = ms.toList[j] := by
      rw [Array.getD_eq_getD_getElem?, ← Array.getElem?_toList, List.getElem?_eq_getElem hj']; rfl
    rwa [e]⟩
theorem lookupD_sound {i : Int} {z : PVal E} {ok : Bool} : ∀ (es : List (PVal E × PVal E)) (ms : List MapEntry) (n : Nat), MR (Rp E A0 μ H w) es ms → (lookupD i z ok es).cps H K = some r →
    ∃ o, Instr.findNow (.int .i64) (.int .i64 i) ms n = some o ∧ (match o with
      | some (_, v) => ∃ p, Rp E A0 μ H w p v ∧ K (if ok then .tuple [p, .v .bool true] else p) H = some r
      | none => K (if ok then .tuple [z, .v .bool false] else z) H = some r)
  | [], ms, n, hm, h => by
    have : ms = [] := List.eq_nil_of_length_eq_zero (by have := hm.1; simpa using this.symm)
    subst this
    exact ⟨none, rfl, h⟩
  | (k, x) :: es, ms, n, hm, h => by
    obtain ⟨m, ms', rfl, h1, h2, h3⟩ := hm.head
    have key : ∃ k' : Int, k = .v (.int .i64) k' := by
      cases k with
      | v τ k' =>
        cases τ with
        | int kk => cases kk <;> first | exact ⟨_, rfl⟩ | (simp [lookupD, Dec.cps] at h)
        | _ => simp [lookupD, Dec.cps] at h
      | _ => simp [lookupD, Dec.cps] at h
    obtain ⟨k', rfl⟩ := key
    have hk := rep_i64 h1
    simp only [lookupD, Dec.cps] at h
    unfold Instr.findNow
    rw [hk]
    simp only [Instr.sameNow, if_true]
    by_cases e : i = k'
    · subst e
      simp only [decide_true, cond_true, Dec.cps] at h
      simp only [beq_self_eq_true]
      exact ⟨_, rfl, _, h2, h⟩
    · simp only [e, decide_false, cond_false] at h
      have : (i == k') = false := by simpa using e
      simp only [this]
      exact lookupD_sound es ms' (n + 1) h3 h
theorem run_checkKey {kt : TypeId} (hkd : P.underlying kt = some (.int .i64)) (b : Bool) (n : Int) (w : World) : (Instr.checkKey b 10000 kt (.int .i64 n)).run P w = .ok () w := by
  rw [show (10000 : Nat) = 9999 + 1 from rfl, Instr.checkKey]
  simp only [Sem.run_bind, run_underlying hkd, Result.andThen_ok, Sem.run_pure]
theorem lookupMD_sound (hT : tabB E.leaves P tab = true) {t : Nat} {i u : TI} (hi : look tab t = some i) (hu : look tab i.elem = some u) {p k : PVal E} {v kv : Value} {ok : Bool} (S : HSim A0 μ H w) (hp : Rp E A0 μ H w p v) (hk : Rp E A0 μ H w k kv)
    (h : (lookupMD i (zeroOf u) p k ok).cps H K = some r) : ValRes P A0 μ H w (Instr.lookup t v kv ok) K r := by
  unfold lookupMD at h
  split at h
  rotate_left
  · simp [Dec.cps] at h
  rename_i hmp
  obtain ⟨kt, hd, hkd⟩ := ti_map hT hi hmp
  split at h
  rotate_left
  · simp [Dec.cps] at h
  rename_i n
  have hkv := rep_i64 hk
  subst hkv
  have hz := run_zeroValue' hT hu w
  have hzr : Rp E A0 μ H w (zeroOf u) (zeroV u) := zeroOf_rep (by
    cases ha : u.agg with
    | true => exact .inl rfl
    | false => exact .inr (by rw [ti_zlen hT hu, ti_one hT hu ha]))
  have hck : ∀ b : Bool, (Instr.checkKey b 10000 kt (.int .i64 n)).run P w = .ok () w := fun b => run_checkKey hkd b n w
  have fin : ∀ (ms : List MapEntry) (b : Bool), (∃ o, Instr.findNow (.int .i64) (.int .i64 n) ms 0 = some o ∧ (match o with
      | some (_, v) => ∃ p, Rp E A0 μ H w p v ∧ K (if ok then .tuple [p, .v .bool true] else p) H = some r
      | none => K (if ok then .tuple [zeroOf u, .v .bool false] else zeroOf u) H = some r)) →
      ValRes P A0 μ H w (do
        Instr.checkKey b 10000 kt (.int .i64 n)
        let (v, o) ← match ← Instr.findKey kt (.int .i64 n) ms with
          | some (_, v) => pure (v, true)
          | none => pure (← zeroValue i.elem, false)
        pure (if ok then .tuple #[v, .bool o] else v)) K r := by
    rintro ms b ⟨o, ho, hm⟩
    have hf : (Instr.findKey kt (.int .i64 n) ms).run P w = .ok o w := by
      simp only [Instr.findKey, Sem.run_bind, run_underlying hkd, Result.andThen_ok, ho, Sem.run_pure]
    have tup : ∀ {q : PVal E} {y : Value} {c : Bool}, Rp E A0 μ H w q y → Rp E A0 μ H w (if ok then .tuple [q, .v .bool c] else q) (if ok then .tuple #[y, .bool c] else y) := by
      intro q y c hq
      cases ok with
      | false => exact hq
      | true => exact RepP.tupleL (vs := [y, .bool c]) (RL.cons hq (RL.cons (.v _ _ _ (.bool c)) RL.nil))
    cases o with
    | some e =>
      obtain ⟨j, y⟩ := e
      obtain ⟨q, hq, hK⟩ := hm
      refine ValRes.same S ?_ (tup (c := true) hq) hK
      simp [Sem.run_bind, hck, hf]
    | none =>
      refine ValRes.same S ?_ (tup (c := false) hzr) hm
      simp [Sem.run_bind, hck, hf, hz]
  have e : ∀ w0 : World, (underlying t).run P w0 = .ok (.map kt i.elem) w0 := fun w0 => run_underlying hd w0
  split at h
  · -- a map
    rename_i id
    simp only [Dec.cps] at h
    have ok' := S.ok id
    split at h
    rotate_left
    · simp [Dec.cps] at h
    rename_i es hB
    rw [hB] at ok'
    obtain ⟨b, ms, clock, hl, hheap, hsz, hr⟩ := ok'
    cases hp with
    | map _ b' hU hμ =>
      rw [hμ] at hl; injection hl with e1; subst e1
      obtain ⟨q, H', y, w', μ', g1, g2⟩ := fin ms.toList ms.isEmpty (lookupD_sound es ms.toList 0 (MR.of_blk hsz hr) h)
      refine ⟨q, H', y, w', μ', ?_, g2⟩
      rw [← g1]
      simp only [Instr.lookup, Sem.run_bind, e, Result.andThen_ok, MapKept.run_getObj_map hheap, Sem.run_pure]
      rfl
  · simp only [Dec.cps] at h
    cases hp with
    | nilm =>
      obtain ⟨q, H', y, w', μ', g1, g2⟩ := fin [] true ⟨none, rfl, h⟩
      refine ⟨q, H', y, w', μ', ?_, g2⟩
      rw [← g1]
      simp only [Instr.lookup, Sem.run_bind, e, Result.andThen_ok, Sem.run_pure]
      rfl
  · simp [Dec.cps] at h
theorem makeMapD_sound {t : Nat} {fresh : Nat} (S : HSim A0 μ H w) (F : FreeAt H fresh A0 w) (h : (Dec.wr fresh (.map true []) (.ret (.map fresh)) : Dec E (PVal E)).cps H K = some r) : ValRes P A0 μ H w (Instr.makeMap t none) K r := by
  simp only [Dec.cps] at h
  cases hlt : Nat.blt fresh H.length with
  | false => simp [hlt] at h
  | true =>
    simp only [hlt, cond_true] at h
    have q := Quiet.alloc w (.map #[] 0)
    have hb : ∀ b, b < w.heap.size → (w.alloc (.map #[] 0)).heap[b]? = w.heap[b]? := fun b hb => by show (w.heap.push _)[b]? = _; rw [Array.getElem?_push, if_neg (by omega)]
    have T := Trans.fresh (A0 := A0) (μ := μ) fresh (.blk w.heap.size 0 0 0) (.map true []) F.free F.lt q hb (fun b o n c e => by injection e with e; omega)
    refine ⟨_, _, .map (some w.heap.size), _, _, ?_, T, S.fresh fresh (.blk w.heap.size 0 0 0) (.map true []) F.free F.lt q hb (fun b o n c e => by injection e with e; subst e; exact ⟨Nat.le_refl _, by show w.heap.size < (w.heap.push _).size; simp⟩) F.A0 ?_, .map fresh w.heap.size ?_ (setL_eq _ _ _), h⟩
    · simp [Instr.makeMap]
    · exact ⟨w.heap.size, #[], 0, rfl, by show (w.heap.push _)[w.heap.size]? = _; simp, rfl, fun j hj => by simp at hj⟩
    · unfold Us; rw [getB_set_eq H fresh _ F.lt]; rfl
theorem insD_sound {id b clock : Nat} {i : Int} {x : PVal E} {u : Value} {ms : Array MapEntry} {es0 : List (PVal E × PVal E)} (S : HSim A0 μ H w) (hB : getB H id = .map true es0) (hU : Us H id) (hμ : μ id = .blk b 0 0 0) (hh : w.heap[b]? = some (.map ms clock)) (hx : Rp E A0 μ H w x u) :
    ∀ (es acc : List (PVal E × PVal E)) (mA mR : List MapEntry), ms.toList = mA ++ mR → MR (Rp E A0 μ H w) acc mA → MR (Rp E A0 μ H w) es mR → (insD id i x acc es).cps H K = some r →
      ∃ o, Instr.findNow (.int .i64) (.int .i64 i) mR mA.length = some o ∧ UnitRes P A0 μ H w (match o with
        | some (j, _) => do
          let key ← Instr.keyThatStays (((ms[j]?).map (·.key)).getD (.int .i64 i)) (.int .i64 i)
          setObj b (.map (ms.modify j fun e => { e with key, val := u }) clock)
        | none => setObj b (.map (ms.push { key := .int .i64 i, val := u, born := clock }) (clock + 1))) K r := by
  have hlive : liveB (getB H id) = true := by rw [hB]; rfl
  have fin : ∀ (es' : List (PVal E × PVal E)) (ms' : Array MapEntry) (c' : Nat) (s : Sem Unit), MR (Rp E A0 μ H w) es' ms'.toList → s.run P w = (setObj b (.map ms' c')).run P w → (if Nat.blt id H.length then K .skip (H.set id (.map true es')) else none) = some r → UnitRes P A0 μ H w s K r := by
    intro es' ms' c' s hm hs hk
    split at hk
    rotate_left
    · cases hk
    have q : Quiet w { w with heap := w.heap.setIfInBounds b (.map ms' c') } := ⟨rfl, rfl, rfl, by simp⟩
    have hbk : ∀ k, k < w.heap.size → (∀ o n c, μ id ≠ .blk k o n c) → (w.heap.setIfInBounds b (.map ms' c'))[k]? = w.heap[k]? := fun k _ hk => by
      rw [Array.getElem?_setIfInBounds_ne (fun e => hk 0 0 0 (by rw [← e]; exact hμ))]
    have T : Trans A0 μ H w μ (H.set id (.map true es')) { w with heap := w.heap.setIfInBounds b (.map ms' c') } := Trans.write id _ hU q hlive hbk rfl
    refine ⟨_, _, μ, hs.trans (MapKept.run_setObj_map _ hh), T, S.write id _ hU q hlive hbk rfl ?_, hk⟩
    have hlt : b < w.heap.size := (Array.getElem?_eq_some_iff.1 hh).1
    have hm2 := MR.to_blk (⟨hm.1, fun j p m h1 h2 => ⟨T.rep (hm.2 j p m h1 h2).1, T.rep (hm.2 j p m h1 h2).2⟩⟩ : MR (Rp E A0 μ (H.set id (.map true es')) { w with heap := w.heap.setIfInBounds b (.map ms' c') }) es' ms'.toList)
    exact ⟨b, ms', c', hμ, by simp [hlt], hm2.1, hm2.2⟩
  intro es
  induction es with
  | nil =>
    intro acc mA mR hms hA hR h
    have : mR = [] := List.eq_nil_of_length_eq_zero (by have := hR.1; simpa using this.symm)
    subst this
    refine ⟨none, rfl, fin (acc ++ [(.v (.int .i64) i, x)]) (ms.push { key := .int .i64 i, val := u, born := clock }) (clock + 1) _ ?_ rfl (by simpa [insD, Dec.cps, Bool.cond_eq_ite] using h)⟩
    have e : (ms.push { key := .int .i64 i, val := u, born := clock }).toList = mA ++ [{ key := .int .i64 i, val := u, born := clock }] := by simp [hms]
    rw [e]
    exact hA.append (MR.cons (i64_rep i) hx MR.nil)
  | cons e es ih =>
    intro acc mA mR hms hA hR h
    obtain ⟨m, ms', rfl, h1, h2, h3⟩ := hR.head
    obtain ⟨k, y⟩ := e
    have key : ∃ k' : Int, k = .v (.int .i64) k' := by
      cases k with
      | v τ k' =>
        cases τ with
        | int kk => cases kk <;> first | exact ⟨_, rfl⟩ | (simp [insD, Dec.cps] at h)
        | _ => simp [insD, Dec.cps] at h
      | _ => simp [insD, Dec.cps] at h
    obtain ⟨k, rfl⟩ := key
    have hk := rep_i64 h1
    simp only [insD, Dec.cps] at h
    unfold Instr.findNow
    rw [hk]
    simp only [Instr.sameNow, if_true]
    have hmj : ms[mA.length]? = some m := by rw [← Array.getElem?_toList, hms, List.getElem?_append_right (by omega)]; simp
    by_cases e : i = k
    · subst e
      simp only [decide_true, cond_true, Dec.cps] at h
      simp only [beq_self_eq_true]
      refine ⟨_, rfl, fin (acc ++ (.v (.int .i64) i, x) :: es) (ms.modify mA.length fun e => { e with key := .int .i64 i, val := u }) clock _ ?_ ?_ (by simpa [Bool.cond_eq_ite] using h)⟩
      · have e2 : (ms.modify mA.length fun e => { e with key := .int .i64 i, val := u }).toList = mA ++ { m with key := .int .i64 i, val := u } :: ms' := by
          apply List.ext_getElem?
          intro j
          rw [Array.getElem?_toList, Array.getElem?_modify, ← Array.getElem?_toList, hms]
          by_cases hj : mA.length = j
          · subst hj
            rw [if_pos rfl, List.getElem?_append_right (by omega), List.getElem?_append_right (by omega)]
            simp
          · rw [if_neg hj]
            by_cases hlt : j < mA.length
            · rw [List.getElem?_append_left hlt, List.getElem?_append_left hlt]
            · rw [List.getElem?_append_right (by omega), List.getElem?_append_right (by omega)]
              obtain ⟨d, hd⟩ : ∃ d, j - mA.length = d + 1 := ⟨j - mA.length - 1, by omega⟩
              rw [hd]; simp
        rw [e2]
        exact hA.append (MR.cons (i64_rep i) hx h3)
      · simp only [hmj, Option.map_some, Option.getD_some, hk]
        simp [Instr.keyThatStays, Instr.sameBits, Sem.run_bind]
    · simp only [e, decide_false, cond_false] at h
      have : (i == k) = false := by simpa using e
      simp only [this]
      have := ih (acc ++ [(.v (.int .i64) k, y)]) (mA ++ [m]) ms' (by simp [hms]) (hA.append (MR.cons h1 h2 MR.nil)) h3 h
      simpa using this
theorem insertD_sound (hT : tabB E.leaves P tab = true) {t : Nat} {i : TI} (hi : look tab t = some i) {p k x : PVal E} {v kv u : Value} (S : HSim A0 μ H w) (hp : Rp E A0 μ H w p v) (hk : Rp E A0 μ H w k kv) (hx : Rp E A0 μ H w x u)
    (h : (insertD i p k x).cps H K = some r) : UnitRes P A0 μ H w (Instr.mapUpdate t v kv u) K r := by
  unfold insertD at h
  split at h
  rotate_left
  · simp [Dec.cps] at h
  rename_i hmp
  obtain ⟨kt, hd, hkd⟩ := ti_map hT hi hmp
  split at h
  rotate_left
  · simp [Dec.cps] at h
  rename_i n
  have hkv := rep_i64 hk
  subst hkv
  have hck : ∀ b : Bool, (Instr.checkKey b 10000 kt (.int .i64 n)).run P w = .ok () w := fun b => run_checkKey hkd b n w
  split at h
  rotate_left
  · simp [Dec.cps] at h
  rename_i id
  simp only [Dec.cps] at h
  have ok' := S.ok id
  split at h
  rotate_left
  · simp [Dec.cps] at h
  rename_i es hB
  rw [hB] at ok'
  obtain ⟨b, ms, clock, hl, hheap, hsz, hr⟩ := ok'
  cases hp with
  | map _ b' hU hμ =>
    rw [hμ] at hl; injection hl with e1; subst e1
    obtain ⟨o, ho, H', w', μ', g1, g2⟩ := insD_sound (P := P) S hB hU hμ hheap hx es [] [] ms.toList rfl MR.nil (MR.of_blk hsz hr) h
    have hf : (Instr.findKey kt (.int .i64 n) ms.toList).run P w = .ok o w := by
      have ho : Instr.findNow (.int .i64) (.int .i64 n) ms.toList 0 = some o := ho
      simp only [Instr.findKey, Sem.run_bind, run_underlying hkd, Result.andThen_ok, ho, Sem.run_pure]
    refine ⟨H', w', μ', ?_, g2⟩
    rw [← g1]
    simp only [Instr.mapUpdate, Sem.run_bind, run_underlying hd, Result.andThen_ok, MapKept.run_getObj_map hheap, hck, hf]
    cases o with
    | none => rfl
    | some e => rfl
end
end Go.Pe
namespace Go.Pe
variable {E : Types}
section
variable {P : Program} {tab : List (Nat × TI)} {A0 : Nat → Prop} {μ : Nat → Loc} {H : List (Blk E)} {w : World} {R : Type} {K : PVal E → List (Blk E) → Option R} {r : R}
theorem run_nilEq {t e D : Nat} (hd : P.underlying t = some (.slice e)) (a : Option Addr) (n cap : Nat) : (Op.equalIn (D + 1) t (.slice a n cap) (.slice none 0 0)).run P w = .ok a.isNone w := by
  cases a <;> simp only [Op.equalIn, Sem.run_bind, run_underlying hd, Result.andThen_ok, Sem.run_pure, Option.isNone_none, Option.isNone_some]
theorem nil_run {t e : Nat} (hd : P.underlying t = some (.slice e)) (a : Option Addr) (n cap : Nat) (x y : Operand) :
    (eqlS .eql t x y (.slice a n cap) (.slice none 0 0)).run P w = .ok (.bool a.isNone) w ∧ (eqlS .neq t x y (.slice a n cap) (.slice none 0 0)).run P w = .ok (.bool !a.isNone) w := by
  have k := run_nilEq (P := P) (w := w) (D := 9999) hd a n cap
  rw [eqlS_plain _ _ _ _ (by trivial), eqlS_plain _ _ _ _ (by trivial)]
  simp only [binOp, Sem.run_bind, Op.equal, Op.maxDepth, k, Result.andThen_ok, Sem.run_pure, and_self]
theorem repT_slice {A : Nat → Prop} {e : Ty} {v : Value} {l : List (Den E.T e)} (h : RepT E w A (.slice e) v l) : ∃ a n cap, v = .slice a n cap ∧ (l.isEmpty = false → a.isNone = false) := by
  cases h with
  | nil _ a cap => exact ⟨a, 0, cap, rfl, by simp⟩
  | slice _ b off cap l vs => exact ⟨_, _, cap, rfl, fun _ => rfl⟩
theorem nilD_sound (hT : tabB E.leaves P tab = true) {t : Nat} {i : TI} (hi : look tab t = some i) {op : BinOp} {p : PVal E} {v : Value} (x y : Operand) (S : HSim A0 μ H w)
    (hp : Rp E A0 μ H w p v) (h0 : (nilD i op p).cps H K = some r) : ValRes P A0 μ H w (eqlS op t x y v (.slice none 0 0)) K r := by
  have key : ∀ f : Bool → Bool, (∀ a n cap, v = .slice a n cap → (eqlS op t x y v (.slice none 0 0)).run P w = .ok (.bool (f a.isNone)) w) → (nilD.go p f).cps H K = some r → ValRes P A0 μ H w (eqlS op t x y v (.slice none 0 0)) K r := by
    intro f hf h
    have any : ∀ a n cap, v = .slice a n cap → (Dec.any fun b => boolD (f b) : Dec E (PVal E)).cps H K = some r → ValRes P A0 μ H w (eqlS op t x y v (.slice none 0 0)) K r := by
      intro a n cap hv h
      simp only [Dec.cps] at h
      obtain ⟨h1, h2⟩ := both_some h
      have hr := hf a n cap hv
      cases hb : a.isNone with
      | true => rw [hb] at hr; exact bool_res S h1 hr
      | false => rw [hb] at hr; exact bool_res S h2 hr
    have emp : ∀ (c : Bool) a n cap, v = .slice a n cap → (c = false → a.isNone = false) → (Dec.br c (.any fun b => boolD (f b)) (boolD (f false)) : Dec E (PVal E)).cps H K = some r → ValRes P A0 μ H w (eqlS op t x y v (.slice none 0 0)) K r := by
      intro c a n cap hv hc h
      cases c with
      | true => exact any a n cap hv h
      | false =>
        have hr := hf a n cap hv
        rw [hc rfl] at hr
        exact bool_res S h hr
    unfold nilD.go at h
    split at h
    · cases hp with
      | v _ _ _ hp =>
        obtain ⟨a, n, cap, rfl, hne⟩ := repT_slice hp
        exact emp _ a n cap rfl hne h
    · cases hp with
      | nils a => exact any a 0 0 rfl h
    · rename_i id
      simp only [Dec.cps] at h
      have ok := S.ok id
      cases hB : getB H id with
      | row wr e l =>
        rw [hB] at h ok
        cases hp with
        | own id b off len cap hU hμ => exact emp _ _ _ _ rfl (fun _ => rfl) h
        | own0 id a a2 hU hμ =>
          rw [hμ] at ok
          rcases ok with ⟨b', off', cap', c, vs, hl, _⟩ | ⟨rfl, _⟩
          · cases hl
          · exact any a 0 0 rfl h
      | _ => rw [hB] at h; simp [Dec.cps] at h
    · cases hp with
      | bsl id n b hU hμ =>
        have hr := hf _ _ _ rfl
        exact bool_res S h hr
    · simp [Dec.cps] at h
  unfold nilD at h0
  split at h0
  rotate_left
  · simp [Dec.cps] at h0
  rename_i hsl
  have hd := ti_sl hT hi hsl
  split at h0
  · exact key (fun b => b) (fun a n cap hv => by rw [hv]; exact (nil_run hd a n cap x y).1) h0
  · exact key (fun b => !b) (fun a n cap hv => by rw [hv]; exact (nil_run hd a n cap x y).2) h0
  · simp [Dec.cps] at h0
end
end Go.Pe
namespace Go.Pe
variable {E : Types}
section
variable {P : Program} {tab : List (Nat × TI)} {A0 : Nat → Prop} {μ : Nat → Loc} {H : List (Blk E)} {w : World} {R : Type} {K : PVal E → List (Blk E) → Option R} {r : R}
theorem copyD_sound (hT : tabB E.leaves P tab = true) {t1 t2 : Nat} {i : TI} {type : TypeId} {e : Ty} (hi : look tab t1 = some i) (hty : i.ty = some (.slice e)) {p x : PVal E} {v xv : Value}
    (S : HSim A0 μ H w) (hp : Rp E A0 μ H w p v) (hx : Rp E A0 μ H w x xv)
    (h00 : (copyD e p x).cps H K = some r) : ValRes P A0 μ H w (Builtin.copy_ #[t1, t2] type #[v, xv]) K r := by
  obtain ⟨u, hu, hut, hs0, hd, hna⟩ := ti_slice_elem hT hi hty
  have hsz := size_of_ty hT e hu hut
  unfold copyD at h00
  obtain ⟨l2, H0, T0, S0, hl2, hfr, h⟩ := typed_sound S hx h00
  clear h00
  obtain ⟨a2, c2, rfl⟩ := rep_len hl2
  obtain ⟨new, vs2, hrows, hnew⟩ := run_firstCells (P := P) hl2
  rw [hsz] at hnew
  have hp0 := T0.rep hp
  unfold copyL at h
  split at h
  rotate_left
  · simp [Dec.cps] at h
  rename_i id
  simp only [Dec.cps] at h
  have ok := S0.ok id
  cases hB : getB H0 id with
  | row wr e' l =>
    rw [hB] at h ok
    cases wr with
    | false => simp [Dec.cps] at h
    | true =>
      simp only at h
      split at h
      rotate_left
      · simp [Dec.cps] at h
      rename_i l0 hcast
      obtain ⟨he, rfl⟩ := castTy_some hcast
      injection he with he; have he := he.symm; subst he
      have hlen : l2.length = l.length := by
        by_cases hc : l2.length = l.length
        · exact hc
        · simp [hc, Dec.cps] at h
      simp only [Dec.cps, hlen, decide_true, cond_true] at h
      have fin0 : ∀ {base : Option Addr} {cap : Nat}, l2 = [] → (Builtin.copy_ #[t1, t2] type #[.slice base 0 cap, .slice a2 l2.length c2]).run P w = .ok (.int .i64 0) w := by
        intro base cap hnil
        subst hnil
        have hn0 := hnew w rfl
        have hnew0 : new = #[] := by have := hrows.size; simpa using this
        subst hnew0
        simp only [List.length_nil] at hn0
        cases base <;> simp [Builtin.copy_, run_underlying hd, run_sizeOf' hT hu, Builtin.lenOf, hn0, storeCells, goInt]
      cases hem : l2.isEmpty with
      | true =>
        have hnil : l2 = [] := by simpa using hem
        simp only [hem, cond_true, Dec.cps] at h
        have hl0 : l = [] := List.eq_nil_of_length_eq_zero (by rw [← hlen, hnil]; rfl)
        subst hl0
        cases hp0 with
        | own id b off len cap hU' hμ =>
          rw [hμ] at ok
          rcases ok with ⟨b', off', cap', c, vs, hl, hbox, g1, g2, g3, g4⟩ | ⟨_, a, hl⟩
          · injection hl with e1 e2 e3 e4; subst e1 e2 e3 e4
            exact ⟨_, _, _, w, μ, fin0 hnil, T0, S0, .v _ _ _ (.int .i64 0), h⟩
          · cases hl
        | own0 id a a2' hU' hμ => exact ⟨_, _, _, w, μ, fin0 hnil, T0, S0, .v _ _ _ (.int .i64 0), h⟩
      | false =>
        simp only [hem, cond_false, Dec.cps] at h
        cases hb : Nat.blt id H0.length with
        | false => simp [hb] at h
        | true =>
          simp only [hb, cond_true] at h
          have hlive : liveB (getB H0 id) = true := by rw [hB]; rfl
          have hU : Us H0 id := usedB_of_mem (memB_of_live hlive)
          cases hp0 with
          | own id b off len cap hU' hμ =>
            rw [hμ] at ok
            rcases ok with ⟨b', off', cap', c, vs, hl, hbox, g1, g2, g3, g4⟩ | ⟨_, a, hl⟩
            rotate_left
            · cases hl
            injection hl with e1 e2 e3 e4; subst e1 e2 e3 e4
            obtain ⟨t', f, hh, hf⟩ := hbox
            obtain rfl := hf rfl
            have hnsz : new.size = l.length * e.size E := by have := hrows.size; rw [hlen] at this; exact this
            have hmul : l.length * e.size E ≤ cap * e.size E := Nat.mul_le_mul_right _ g1
            have hst := run_storeCells_at P b off t' new.toList 0 c w hh (by simp [hnsz]; omega) (hrows.one hna)
            have hrun : (Builtin.copy_ #[t1, t2] type #[.slice (some ⟨b, off, none⟩) l.length cap, .slice a2 l2.length c2]).run P w = .ok (.int .i64 (l2.length : Int)) (w.setRow b (c.toList.take (off + 0) ++ new.toList ++ c.toList.drop (off + 0 + new.toList.length)).toArray) := by
              have hn := hnew w rfl
              have hmin : Nat.min l2.length l.length = l2.length := by rw [hlen]; exact Nat.min_self _
              simp [Builtin.copy_, run_underlying hd, run_sizeOf' hT hu, Builtin.lenOf, hmin, hn, goInt, hst]
            have hbk : ∀ k, k < w.heap.size → (∀ o n c, μ id ≠ .blk k o n c) → (w.setRow b (c.toList.take (off + 0) ++ new.toList ++ c.toList.drop (off + 0 + new.toList.length)).toArray).heap[k]? = w.heap[k]? :=
              fun k _ hk => setRow_other _ _ _ _ (fun e => hk off l.length cap (e ▸ hμ))
            have T : Trans A0 μ H0 w μ (H0.set id (.row true e l2)) _ := Trans.write id _ hU (Quiet.setRow w b _) hlive hbk rfl
            refine ⟨_, _, _, _, μ, hrun, T0.trans T, S0.write id _ hU (Quiet.setRow w b _) hlive hbk rfl ?_, .v _ _ _ (.int .i64 _), by rw [hlen]; exact h⟩
            rw [hμ, ← hlen]
            have hcs : c.toList.length = c.size := rfl
            refine .inl ⟨b, off, cap, _, vs2, rfl, ⟨t', (0, 0), setRow_heap _ _ _ _ _ _ hh, fun _ => rfl⟩, by rw [hlen]; exact g1, ?_, fun i hi j v hv => ?_, fun i hi => T.repT (hrows.rep i hi)⟩
            · simp only [List.size_toArray, List.length_append, List.length_take, List.length_drop, Array.length_toList, hnsz]
              omega
            · have := hrows.at_ i hi j v hv
              have hj : i * e.size E + j < new.size := (Array.getElem?_eq_some_iff.1 this).1
              rw [List.getElem?_toArray, List.append_assoc, List.getElem?_append_right (by simp; omega)]
              have e2 : off + i * e.size E + j - (List.take (off + 0) c.toList).length = i * e.size E + j := by
                simp only [List.length_take, Array.length_toList, Nat.add_zero]
                have : off ≤ c.size := by omega
                omega
              rw [e2, List.getElem?_append_left (by simpa using hj)]
              simpa using this
          | own0 id a a2' hU' hμ =>
            rw [hμ] at ok
            rcases ok with ⟨b', off', cap', c, vs, hl, _⟩ | ⟨rfl, _⟩
            · cases hl
            · have : l2 = [] := List.eq_nil_of_length_eq_zero (by rw [hlen]; rfl)
              subst this; cases hem
  | _ => rw [hB] at h; simp [Dec.cps] at h
end
end Go.Pe
namespace Go.Pe
variable {E : Types}
section
variable {P : Program} {tab : List (Nat × TI)} {A0 : Nat → Prop} {μ : Nat → Loc} {H : List (Blk E)} {w : World} {R : Type} {K : PVal E → List (Blk E) → Option R} {r : R}
def OpRes (P : Program) (A0 : Nat → Prop) (μ : Nat → Loc) (H : List (Blk E)) (w : World) {R : Type} (s : Sem Next) (K : PVal E → List (Blk E) → Option R) (r : R) : Prop :=
  ∃ p H' n v w' μ', s.run P w = .ok n w' ∧ (n = .value v ∨ (n = .skip ∧ v = undef)) ∧ Trans A0 μ H w μ' H' w' ∧ HSim A0 μ' H' w' ∧ Rp E A0 μ' H' w' p v ∧ K p H' = some r
theorem ValRes.op {s : Sem Value} (h : ValRes P A0 μ H w s K r) : OpRes P A0 μ H w (do pure (.value (← s))) K r := by
  obtain ⟨p, H', v, w', μ', h1, h2, h3, h4, h5⟩ := h
  exact ⟨p, H', .value v, v, w', μ', by simp [Sem.run_bind, h1], .inl rfl, h2, h3, h4, h5⟩
theorem UnitRes.op {s : Sem Unit} (h : UnitRes P A0 μ H w s K r) : OpRes P A0 μ H w (do s; pure .skip) K r := by
  obtain ⟨H', w', μ', h1, h2, h3, h5⟩ := h
  exact ⟨.skip, H', .skip, undef, w', μ', by simp [Sem.run_bind, h1], .inr ⟨rfl, rfl⟩, h2, h3, .skip, h5⟩
theorem OpRes.same {s : Sem Next} {v : Value} {p : PVal E} (S : HSim A0 μ H w) (h : s.run P w = .ok (.value v) w) (hp : Rp E A0 μ H w p v) (hk : K p H = some r) : OpRes P A0 μ H w s K r :=
  ⟨p, H, _, v, w, μ, h, .inl rfl, Trans.refl _ _ _ _, S, hp, hk⟩
theorem optRep_map {ρ : Operand → PVal E} {ρv : Operand → Value} (hρ : ∀ x, Rp E A0 μ H w (ρ x) (ρv x)) (o : Option Operand) : OptRep (Rp E A0 μ H w) (o.map ρ) (o.map ρv) := by
  cases o with
  | none => trivial
  | some x => exact hρ x
theorem vals_rep {ρ : Operand → PVal E} {ρv : Operand → Value} (hρ : ∀ x, Rp E A0 μ H w (ρ x) (ρv x)) (l : List Operand) : RL (Rp E A0 μ H w) (l.map ρ) (l.map ρv) :=
  ⟨by simp, fun j p v hp hv => by
    simp only [List.getElem?_map, Option.map_eq_some_iff] at hp hv
    obtain ⟨a, ha, rfl⟩ := hp
    obtain ⟨a', ha', rfl⟩ := hv
    rw [ha] at ha'; injection ha' with ha'; subst ha'
    exact hρ a⟩
theorem RL.two {R : PVal E → Value → Prop} {a b : PVal E} {vs : List Value} (h : RL R [a, b] vs) : ∃ x y, vs = [x, y] ∧ R a x ∧ R b y := by
  have := h.1
  match vs, this with
  | [x, y], _ => exact ⟨x, y, rfl, h.2 0 _ _ rfl rfl, h.2 1 _ _ rfl rfl⟩
theorem RL.three {R : PVal E → Value → Prop} {a b c : PVal E} {vs : List Value} (h : RL R [a, b, c] vs) : ∃ x y z, vs = [x, y, z] ∧ R a x ∧ R b y ∧ R c z := by
  have := h.1
  match vs, this with
  | [x, y, z], _ => exact ⟨x, y, z, rfl, h.2 0 _ _ rfl rfl, h.2 1 _ _ rfl rfl, h.2 2 _ _ rfl rfl⟩
theorem rep_int {k : IntKind} {x : Den E.T (.int k)} {v : Value} (h : Rp E A0 μ H w (.v (.int k) x) v) : v = .int k (toZ k x) := by
  cases h with | v _ _ _ h => cases h; rfl
theorem mm_sound {s : Sem Value} {f : Value → Value → Sem Value} {g : (k : IntKind) → IntDen k → IntDen k → Option (IntDen k)} (hfg : ∀ {k : IntKind} {a b c : IntDen k}, g k a b = some c → (f (.int k (toZ k a)) (.int k (toZ k b))).run P w = .ok (.int k (toZ k c)) w)
    {ps : List (PVal E)} {vs : List Value} (S : HSim A0 μ H w) (hr : RL (Rp E A0 μ H w) ps vs)
    (h : (match ps with
      | [.v (.int .i64) a, .v (.int .i64) b] => intD .i64 (g .i64 a b)
      | [.v (.int .u64) a, .v (.int .u64) b] => intD .u64 (g .u64 a b)
      | [.v (.int .i64) a, .v (.int .i64) b, .v (.int .i64) c] => (match g .i64 a b with | some x => intD .i64 (g .i64 x c) | none => .fail)
      | _ => (.fail : Dec E (PVal E))).cps H K = some r) (hs : ∀ x rest, vs = x :: rest → s = rest.foldlM f x) : ValRes P A0 μ H w s K r := by
  split at h
  · obtain ⟨x, y, rfl, h1, h2⟩ := hr.two
    cases rep_int h1; cases rep_int h2
    exact int_res S h fun z hz => by rw [hs _ _ rfl]; simp [List.foldlM, Sem.run_bind, hfg hz]
  · obtain ⟨x, y, rfl, h1, h2⟩ := hr.two
    cases rep_int h1; cases rep_int h2
    exact int_res S h fun z hz => by rw [hs _ _ rfl]; simp [List.foldlM, Sem.run_bind, hfg hz]
  · obtain ⟨x, y, z, rfl, h1, h2, h3⟩ := hr.three
    cases rep_int h1; cases rep_int h2; cases rep_int h3
    split at h
    · rename_i q hq
      exact int_res S h fun z hz => by rw [hs _ _ rfl]; simp [List.foldlM, Sem.run_bind, hfg hq, hfg hz]
    · simp [Dec.cps] at h
  · simp [Dec.cps] at h
theorem rep_bool {x : Den E.T .bool} {v : Value} (h : Rp E A0 μ H w (.v .bool x) v) : v = .bool x := by
  cases h with | v _ _ _ h => cases h; rfl
theorem opD_sound (hT : tabB E.leaves P tab = true) {mv : Bool} {fresh : Nat} {ρ : Operand → PVal E} {ρv : Operand → Value} {o : Oper} (S : HSim A0 μ H w) (F : FreeAt H fresh A0 w)
    (hρ : ∀ x, Rp E A0 μ H w (ρ x) (ρv x)) (hcv : ∀ c, ρv (.const c) = c) (h : (opD tab mv fresh ρ o.op).cps H K = some r) : OpRes P A0 μ H w (execOp ρv o) K r := by
  have lk : ∀ {t : Nat} {k : TI → Dec E (PVal E)}, (match look tab t with | some i => k i | none => .fail).cps H K = some r → ∃ i, look tab t = some i ∧ (k i).cps H K = some r := by
    intro t k h
    cases hl : look tab t with
    | none => rw [hl] at h; simp [Dec.cps] at h
    | some i => rw [hl] at h; exact ⟨i, rfl, h⟩
  obtain ⟨op, dst, type, pos, guard, after⟩ := o
  unfold opD at h
  simp only at h
  split at h
  · exact OpRes.same S rfl (hρ _) h
  · exact OpRes.same S rfl (hρ _) h
  · -- pick
    split at h
    rotate_left
    · simp [Dec.cps] at h
    rename_i c a b _ t hc
    have := hρ c
    rw [hc] at this
    have hv := rep_bool this
    simp only [execOp, hv]
    cases t with
    | true => exact OpRes.same S (by simp [asBool]) (hρ a) h
    | false => exact OpRes.same S (by simp [asBool]) (hρ b) h
  · -- alloc
    obtain ⟨i, hi, h⟩ := lk h
    exact (allocD_sound hT hi S F h).op
  · obtain ⟨i, hi, h⟩ := lk h
    exact (boxD_sound hT hi S F (hρ _) h).op
  · obtain ⟨i, hi, h⟩ := lk h
    rename_i parts _ _ _
    have e : ∀ parts : Array (Nat × Operand), (parts.map fun (i, x) => (i, ρv x)) = (parts.toList.map fun p => (p.1, ρv p.2)).toArray := fun parts => by apply Array.toList_inj.1; simp
    simp only [execOp, e]
    exact (buildD_sound hT hi S hρ h).op
  · obtain ⟨i, hi, h⟩ := lk h
    obtain ⟨u, hu, h⟩ := lk h
    exact (buildSliceD_sound hT hi hu S F hρ h).op
  · obtain ⟨i, hi, h⟩ := lk h
    exact (loadD_sound hT hi S (hρ _) h).op
  · obtain ⟨i, hi, h⟩ := lk h
    exact (storeD_sound hT hi S (hρ _) (hρ _) h).op
  · -- nilCheck
    rename_i x
    have hx := hρ x
    simp only [execOp]
    generalize ρv x = vx at hx ⊢
    generalize ρ x = px at hx h
    split at h
    · cases hx with
      | ptr id off b len cap u m => exact OpRes.same S rfl (.ptr _ _ b len cap u m) h
    · cases hx with
      | eptr e id i off b o len cap u m hi => exact OpRes.same S rfl (.eptr _ _ _ _ b o len cap u m hi) h
    · cases hx with
      | rptr ps b o us a1 a2 a3 a4 => exact OpRes.same S rfl (.rptr _ b o us a1 a2 a3 a4) h
    · cases hx with
      | fn f ps cs hs hh => exact OpRes.same S rfl (.fn _ _ cs hs hh) h
    · simp [Dec.cps] at h
  · obtain ⟨i, hi, h⟩ := lk h
    split at h
    · rename_i y _ _ hc
      have e : ρv y = .slice none 0 0 := by
        unfold isNilC at hc
        split at hc
        · exact hcv _
        · cases hc
      simp only [execOp, e]
      exact (nilD_sound hT hi _ _ S (hρ _) h).op
    · exact (binD_sound hT hi _ _ S (hρ _) (hρ _) h).op
  · exact (unD_sound S (hρ _) h).op
  · obtain ⟨j, hj, h⟩ := lk h
    obtain ⟨i, hi, h⟩ := lk h
    exact (convD_sound hT hi hj S (hρ _) h).op
  · -- makeFunc
    rename_i f first captured
    split at h
    · rename_i hf
      have hf : first = #[] := by simpa using hf
      subst hf
      refine (ValRes.same (v := .func (.func f) #[] (captured.toList.map ρv).toArray) S ?_ (.fn f _ _ (vals_rep hρ _).idx.1 (vals_rep hρ _).idx.2) h).op
      simp only [Instr.makeFunc, Sem.run_pure]
      congr 2
      all_goals (apply Array.toList_inj.1; simp)
    · split at h
      rotate_left
      · simp [Dec.cps] at h
      rename_i hf
      have hf : captured = #[] := by simpa using hf
      subst hf
      refine (ValRes.same (v := .func (.func f) (first.toList.map ρv).toArray #[]) S ?_ (.bfn f _ _ (vals_rep hρ _).idx.1 (vals_rep hρ _).idx.2) h).op
      simp only [Instr.makeFunc, Sem.run_pure]
      congr 2
      all_goals (apply Array.toList_inj.1; simp)
  · obtain ⟨i, hi, h⟩ := lk h
    split at h
    rotate_left
    · simp [Dec.cps] at h
    rename_i hty
    exact (makeSliceD_sound hT hi hty S F (hρ _) (hρ _) h).op
  · obtain ⟨i, hi, h⟩ := lk h
    exact (sliceD_sound hT hi S F (hρ _) (optRep_map hρ _) (optRep_map hρ _) (optRep_map hρ _) h).op
  · obtain ⟨i, hi, h⟩ := lk h
    exact (fieldAddrD_sound hT hi S (hρ _) h).op
  · obtain ⟨i, hi, h⟩ := lk h
    exact (fieldD_sound hT hi S (hρ _) h).op
  · rename_i ix
    obtain ⟨i, hi, h⟩ := lk h
    obtain ⟨u, hu, h⟩ := lk h
    split at h
    rotate_left
    · simp [Dec.cps] at h
    rename_i k e
    have hx := hρ ix
    rw [e] at hx
    have hv := rep_int hx
    simp only [execOp, hv]
    exact (indexAddrD_sound hT hi hu S (hρ _) h).op
  · exact (makeMapD_sound S F h).op
  · obtain ⟨i, hi, h⟩ := lk h
    exact (insertD_sound hT hi S (hρ _) (hρ _) (hρ _) h).op
  · obtain ⟨i, hi, h⟩ := lk h
    obtain ⟨u, hu, h⟩ := lk h
    exact (lookupMD_sound hT hi hu S (hρ _) (hρ _) h).op
  · -- extract
    rename_i t n
    split at h
    rotate_left
    · simp [Dec.cps] at h
    rename_i vs e
    split at h
    rotate_left
    · simp [Dec.cps] at h
    rename_i p hp
    have hx := hρ t
    rw [e] at hx
    simp only [execOp]
    generalize ρv t = vt at hx ⊢
    cases hx with
    | tuple ps cs hs hh =>
      have hlt := (List.getElem?_eq_some_iff.1 hp).1
      have h1 := hh n hlt
      rw [(List.getElem?_eq_some_iff.1 hp).2] at h1
      have hlt' : n < cs.size := by rw [hs]; exact hlt
      refine (ValRes.same (v := cs.getD n undef) S ?_ h1 h).op
      simp [Instr.extract, hlt']
  · -- len
    split at h
    rotate_left
    · simp [Dec.cps] at h
    rename_i args _ _ _ t x ht hx
    obtain ⟨i, hi, h⟩ := lk h
    have := (lenD_sound (type := type) hT hi ht (av := (Array.map ρv args)) (v := ρv x) (by simp [hx]) S (hρ x) h).op
    simpa [execOp, resolve, invoke, builtin] using this
  · -- append
    split at h
    rotate_left
    · simp [Dec.cps] at h
    rename_i t t2 x y ht hx
    obtain ⟨i, hi, h⟩ := lk h
    obtain ⟨j, hj, h⟩ := lk h
    split at h
    rotate_left
    · simp [Dec.cps] at h
    rename_i e hty
    have e1 : ∀ {α : Type} {a : Array α} {l : List α}, a.toList = l → a = l.toArray := fun h => by rw [← h]
    have ha := e1 hx
    have hb := e1 ht
    split at h
    · rename_i hs
      have := (appendD_sound (type := type) hT hi hj hty hs S F (hρ x) (hρ y) h).op
      simpa [execOp, resolve, invoke, builtin, ha, hb] using this
    · split at h
      rotate_left
      · simp [Dec.cps] at h
      rename_i hs
      have := (appendZD_sound (type := type) hT hi hj hty hs S F (hρ x) (hρ y) h).op
      simpa [execOp, resolve, invoke, builtin, ha, hb] using this
  · -- copy
    split at h
    rotate_left
    · simp [Dec.cps] at h
    rename_i t t2 x y ht hx
    obtain ⟨i, hi, h⟩ := lk h
    obtain ⟨j, hj, h⟩ := lk h
    split at h
    rotate_left
    · simp [Dec.cps] at h
    rename_i e hty
    have e1 : ∀ {α : Type} {a : Array α} {l : List α}, a.toList = l → a = l.toArray := fun h => by rw [← h]
    have ha := e1 hx
    have hb := e1 ht
    split at h
    · rename_i hs
      have := (copyD_sound (t2 := t2) (type := type) hT hi hty S (hρ x) (hρ y) h).op
      simpa [execOp, resolve, invoke, builtin, ha, hb] using this
    · simp [Dec.cps] at h
  · rename_i args argTypes
    have := (mm_sound (P := P) (s := Builtin.min_ argTypes type (args.map ρv)) (f := Builtin.min2) (g := @mini) (fun h => mini_run h) S (vals_rep hρ _) h (fun x rest e => by
      have e2 : (args.map ρv).toList = x :: rest := by simpa using e
      simp only [Builtin.min_, e2])).op
    simpa [execOp, resolve, invoke, builtin] using this
  · rename_i args argTypes
    have := (mm_sound (P := P) (s := Builtin.max_ argTypes type (args.map ρv)) (f := Builtin.max2) (g := @maxi) (fun h => maxi_run h) S (vals_rep hρ _) h (fun x rest e => by
      have e2 : (args.map ρv).toList = x :: rest := by simpa using e
      simp only [Builtin.max_, e2])).op
    simpa [execOp, resolve, invoke, builtin] using this
  · simp [Dec.cps] at h
theorem ofConst_rep (c : Value) : Rp E A0 μ H w (ofConst c) c := by
  have lit : ∀ {k : IntKind} {n : Int}, litOk k n = true → toZ k (ofLit k n) = n := by
    intro k n h
    cases k <;> simp [litOk] at h <;> simp [toZ, ofLit, BitVec.toNat_ofInt] <;> omega
  have one : ∀ c : Value, Rp E A0 μ H w ((fun | .bool b => .v .bool b | .int k n => if litOk k n then .v (.int k) (ofLit k n) else .any | .slice none 0 0 => .nils | .string s => .v .str s | .nilFunc => .nilfn | .pointer none => .nilp | _ => .any : Value → PVal E) c) c := by
    intro c
    simp only
    split
    · exact .v _ _ _ (.bool _)
    · split
      · rename_i k n hl
        have := RepT.int (E := E) (w := w) (A := Av A0 μ H) k (ofLit k n)
        rw [lit hl] at this
        exact .v _ _ _ this
      · exact .any _
    · exact .nils _
    · exact .v _ _ _ (.str _)
    · exact .nilfn
    · exact .nilp
    · exact .any _
  unfold ofConst
  split
  · exact .v _ _ _ (.bool _)
  · split
    · rename_i k n hl
      have := RepT.int (E := E) (w := w) (A := Av A0 μ H) k (ofLit k n)
      rw [lit hl] at this
      exact .v _ _ _ this
    · exact .any _
  · exact .v _ _ _ (.str _)
  · exact .nils _
  · exact .nilfn
  · exact .nilp
  · exact .nilm
  · rename_i cs
    refine .agg _ _ (by simp) fun i hi => ?_
    have hi' : i < cs.size := by simpa using hi
    simp only [List.getElem_map, Array.getElem_toList]
    have e : cs.getD i undef = cs[i] := by simp [Array.getD, hi']
    rw [e]
    exact one _
  · exact .any _
end
end Go.Pe
namespace Go.Pe
variable {E : Types}
def Ren.le (ρ ρ' : Ren) : Prop := ∀ j x, ρ.get j = some x → ρ'.get j = some x
theorem Ren.le_refl (ρ : Ren) : ρ.le ρ := fun _ _ h => h
theorem Ren.le.trans {a b c : Ren} (h : a.le b) (k : b.le c) : a.le c := fun j x e => k j x (h j x e)
theorem Ren.get_append (ρ : Ren) (j i : Nat) (x : Option Nat) : Ren.get (ρ ++ [(j, x)]) i = match ρ.get i with | some y => some y | none => if j = i then some x else none := by
  induction ρ with
  | nil =>
    show (if Nat.beq j i = true then some x else Ren.get [] i) = _
    simp only [Ren.get]
    by_cases h : j = i
    · subst h; simp
    · rw [if_neg (by simpa using h), if_neg h]
  | cons a ρ ih =>
    obtain ⟨k, y⟩ := a
    show (if Nat.beq k i = true then some y else Ren.get (ρ ++ [(j, x)]) i) = match (if Nat.beq k i = true then some y else Ren.get ρ i) with | some y => some y | none => if j = i then some x else none
    split
    · rfl
    · exact ih
theorem Ren.bind_some {ρ ρ' : Ren} {j : Nat} {x : Option Nat} (h : ρ.bind j x = some ρ') : ρ.le ρ' ∧ ρ'.get j = some x := by
  unfold Ren.bind at h
  split at h
  · rename_i hn
    injection h with h; subst h
    refine ⟨fun i y hy => by rw [Ren.get_append, hy], by rw [Ren.get_append, hn]; simp⟩
  · rename_i y hy
    split at h
    · split at h
      · rename_i z hz
        have hz := Nat.eq_of_beq_eq_true hz
        injection h with h; subst h hz
        exact ⟨Ren.le_refl _, hy⟩
      · cases h
    · cases h
  · cases h
section
variable {A0 : Nat → Prop} {μ : Nat → Loc} {H : List (Blk E)} {w : World} {A' : Nat → Prop} {U' : Nat → Prop} {M : Nat → Loc} {N : Nat → Nat}
def HC (H : List (Blk E)) (G : List Nat → Prop) : List Ty → List (PVal E) → List (PVal E) → Prop
  | [], [], [] => True
  | t :: ts, p :: ps, q :: qs => (∃ x ids, q = .v t x ∧ toT t p H = some (x, ids) ∧ G ids) ∧ HC H G ts ps qs
  | _, _, _ => False
theorem HC.split {G : List Nat → Prop} : ∀ {a b : List Ty} {p1 p2 qs : List (PVal E)}, p1.length = a.length → HC H G (a ++ b) (p1 ++ p2) qs → ∃ q1 q2, qs = q1 ++ q2 ∧ HC H G a p1 q1 ∧ HC H G b p2 q2
  | [], b, [], p2, qs, _, h => ⟨[], qs, rfl, trivial, h⟩
  | [], _, _ :: _, _, _, hl, _ => by simp at hl
  | _ :: _, _, [], _, _, hl, _ => by simp at hl
  | t :: a, b, p :: p1, p2, [], hl, h => by simp [HC] at h
  | t :: a, b, p :: p1, p2, q :: qs, hl, h => by
    simp only [List.cons_append, HC] at h
    obtain ⟨q1, q2, rfl, h1, h2⟩ := HC.split (by simpa using hl) h.2
    exact ⟨q :: q1, q2, rfl, ⟨h.1, h1⟩, h2⟩
theorem toTs_HC {G : List Nat → Prop} : ∀ {hs : List Ty} {ps : List (PVal E)} {x : HL E.T hs} {ids : List Nat}, (∀ l, (∀ i ∈ l, i ∈ ids) → G l) → toTs hs ps H = some (x, ids) → HC H G hs ps (HL.toP hs x)
  | [], [], x, ids, _, _ => trivial
  | [], _ :: _, _, _, _, h => by simp [toTs] at h
  | _ :: _, [], _, _, _, h => by simp [toTs] at h
  | t :: ts, p :: ps, x, ids, hG, h => by
    simp only [toTs, Option.bind_eq_some_iff] at h
    obtain ⟨⟨a1, a2⟩, ha, ⟨b1, b2⟩, hb, he⟩ := h
    simp at he; obtain ⟨rfl, rfl⟩ := he
    exact ⟨⟨a1, a2, rfl, ha, hG a2 (fun i hi => by simp [hi])⟩, toTs_HC (fun l hl => hG l (fun i hi => by simp [hl i hi])) hb⟩
theorem toTs_len : ∀ {hs : List Ty} {ps : List (PVal E)} {x : HL E.T hs × List Nat}, toTs hs ps H = some x → ps.length = hs.length
  | [], [], _, _ => rfl
  | [], _ :: _, _, h => by simp [toTs] at h
  | _ :: _, [], _, h => by simp [toTs] at h
  | t :: ts, p :: ps, x, h => by
    simp only [toTs, Option.bind_eq_some_iff] at h
    obtain ⟨a, ha, b, hb, he⟩ := h
    simp [toTs_len hb]
def MOk (U' : Nat → Prop) (μ M : Nat → Loc) (N : Nat → Nat) (ρ : Ren) : Prop := ∀ j x, ρ.get j = some x → U' (N j) ∧ match x with | some id => M (N j) = μ id | none => ∃ a, M (N j) = .none a
theorem MOk.of_le {ρ ρ' : Ren} (h : MOk U' μ M N ρ') (k : ρ.le ρ') : MOk U' μ M N ρ := fun j x e => h j x (k j x e)
abbrev GoodIds (μ : Nat → Loc) (A' : Nat → Prop) (l : List Nat) : Prop := ∀ id ∈ l, ∀ b o n c, μ id = .blk b o n c → ¬ A' b
mutual
theorem readK_sound (S : HSim A0 μ H w) (hA : ∀ b, A' b → Av A0 μ H b) : ∀ (k : SK) (p : PVal E) (v : Value) (s s' : Ren × List (PVal E)), readK k p s = some s' → Rp E A0 μ H w p v →
    ∃ new, s'.2 = s.2 ++ new ∧ new.length = k.holes.length ∧ s.1.le s'.1 ∧ ∀ qs rest, HC H (GoodIds μ A') k.holes new qs → MOk U' μ M N s'.1 →
      RepP E w A' U' M (fillK N k (qs ++ rest)).1 v ∧ (fillK N k (qs ++ rest)).2 = rest ∧ (k.solid = true → (fillK N k (qs ++ rest)).1.leaf = true)
  | .any, p, v, s, s', h, hp => by
    simp only [readK, Option.some.injEq] at h; subst h
    refine ⟨[], by simp, rfl, Ren.le_refl _, fun qs rest hc hm => ?_⟩
    cases qs with
    | cons q qs => simp [SK.holes, HC] at hc
    | nil => exact ⟨.any v, rfl, fun h => by cases h⟩
  | .val τ, p, v, s, s', h, hp => by
    simp only [readK, Option.some.injEq] at h; subst h
    refine ⟨[p], rfl, rfl, Ren.le_refl _, fun qs rest hc hm => ?_⟩
    match qs, hc with
    | [q], hc =>
      obtain ⟨⟨x, ids, rfl, hx, hg⟩, _⟩ := hc
      exact ⟨.v _ _ _ (toT_sound S hp hx hA hg), rfl, fun h => h⟩
  | .ptr j, p, v, s, s', h, hp => by
    cases hp with
    | ptr id off b len cap u m =>
      simp only [readK] at h
      split at h
      rotate_left
      · cases h
      rename_i h0
      have h0 := Nat.eq_of_beq_eq_true h0
      subst h0
      simp only [Option.map_eq_some_iff] at h
      obtain ⟨ρ, hb, rfl⟩ := h
      obtain ⟨h1, h2⟩ := Ren.bind_some hb
      refine ⟨[], by simp, rfl, h1, fun qs rest hc hm => ?_⟩
      cases qs with
      | cons q qs => simp [SK.holes, HC] at hc
      | nil =>
        obtain ⟨hu, hM⟩ := hm j _ h2
        exact ⟨.ptr _ _ b len cap hu (hM.trans m), rfl, fun _ => rfl⟩
    | _ => simp [readK] at h
  | .own j, p, v, s, s', h, hp => by
    cases hp with
    | own id b off len cap u m =>
      simp only [readK, Option.map_eq_some_iff] at h
      obtain ⟨ρ, hb, rfl⟩ := h
      obtain ⟨h1, h2⟩ := Ren.bind_some hb
      refine ⟨[], by simp, rfl, h1, fun qs rest hc hm => ?_⟩
      cases qs with
      | cons q qs => simp [SK.holes, HC] at hc
      | nil =>
        obtain ⟨hu, hM⟩ := hm j _ h2
        exact ⟨.own _ b off len cap hu (hM.trans m), rfl, fun _ => rfl⟩
    | own0 id a a2 u m =>
      simp only [readK, Option.map_eq_some_iff] at h
      obtain ⟨ρ, hb, rfl⟩ := h
      obtain ⟨h1, h2⟩ := Ren.bind_some hb
      refine ⟨[], by simp, rfl, h1, fun qs rest hc hm => ?_⟩
      cases qs with
      | cons q qs => simp [SK.holes, HC] at hc
      | nil =>
        obtain ⟨hu, hM⟩ := hm j _ h2
        exact ⟨.own0 _ a a2 hu (hM.trans m), rfl, fun _ => rfl⟩
    | nils a =>
      simp only [readK, Option.map_eq_some_iff] at h
      obtain ⟨ρ, hb, rfl⟩ := h
      obtain ⟨h1, h2⟩ := Ren.bind_some hb
      refine ⟨[], by simp, rfl, h1, fun qs rest hc hm => ?_⟩
      cases qs with
      | cons q qs => simp [SK.holes, HC] at hc
      | nil =>
        obtain ⟨hu, a2, hM⟩ := hm j _ h2
        exact ⟨.own0 _ a a2 hu hM, rfl, fun _ => rfl⟩
    | _ => simp [readK] at h
  | .bsl j n, p, v, s, s', h, hp => by
    cases hp with
    | bsl id m b u hm' =>
      simp only [readK] at h
      split at h
      rotate_left
      · cases h
      rename_i h0
      have h0 := Nat.eq_of_beq_eq_true h0
      subst h0
      simp only [Option.map_eq_some_iff] at h
      obtain ⟨ρ, hb, rfl⟩ := h
      obtain ⟨h1, h2⟩ := Ren.bind_some hb
      refine ⟨[], by simp, rfl, h1, fun qs rest hc hm => ?_⟩
      cases qs with
      | cons q qs => simp [SK.holes, HC] at hc
      | nil =>
        obtain ⟨hu, hM⟩ := hm j _ h2
        exact ⟨.bsl _ _ b hu (hM.trans hm'), rfl, fun _ => rfl⟩
    | _ => simp [readK] at h
  | .map j, p, v, s, s', h, hp => by
    cases hp with
    | map id b u hm' =>
      simp only [readK, Option.map_eq_some_iff] at h
      obtain ⟨ρ, hb, rfl⟩ := h
      obtain ⟨h1, h2⟩ := Ren.bind_some hb
      refine ⟨[], by simp, rfl, h1, fun qs rest hc hm => ?_⟩
      cases qs with
      | cons q qs => simp [SK.holes, HC] at hc
      | nil =>
        obtain ⟨hu, hM⟩ := hm j _ h2
        exact ⟨.map _ b hu (hM.trans hm'), rfl, fun _ => rfl⟩
    | _ => simp [readK] at h
  | .yld, p, v, s, s', h, hp => by
    cases hp with
    | yld n i =>
      simp only [readK, Option.some.injEq] at h; subst h
      refine ⟨[.v (.int .i64) n, .v (.int .i64) i], rfl, rfl, Ren.le_refl _, fun qs rest hc hm => ?_⟩
      match qs, hc with
      | [q1, q2], hc =>
        obtain ⟨⟨x, ids, rfl, hx, hg⟩, ⟨x2, ids2, rfl, hx2, hg2⟩, _⟩ := hc
        have e1 : n = x := by
          simp only [toT, toLeaf, castTy, dif_pos, Option.bind_some, Option.some.injEq, Prod.mk.injEq] at hx
          exact hx.1
        have e2 : i = x2 := by
          simp only [toT, toLeaf, castTy, dif_pos, Option.bind_some, Option.some.injEq, Prod.mk.injEq] at hx2
          exact hx2.1
        subst e1 e2
        exact ⟨.yld n i, rfl, fun h => by cases h⟩
    | _ => simp [readK] at h
  | .nilfn, p, v, s, s', h, hp => by
    cases hp with
    | nilfn =>
      simp only [readK, Option.some.injEq] at h; subst h
      refine ⟨[], by simp, rfl, Ren.le_refl _, fun qs rest hc hm => ?_⟩
      cases qs with
      | cons q qs => simp [SK.holes, HC] at hc
      | nil => exact ⟨.nilfn, rfl, fun _ => rfl⟩
    | _ => simp [readK] at h
  | .fn f ks, p, v, s, s', h, hp => by
    cases hp with
    | fn g ps cs hs hh =>
      simp only [readK] at h
      split at h
      rotate_left
      · cases h
      rename_i h0
      have h0 := Nat.eq_of_beq_eq_true h0
      subst h0
      obtain ⟨new, e1, e2, e3, e4⟩ := readKs_sound S hA ks ps cs.toList s s' h (RL.of_idx hs hh)
      refine ⟨new, e1, e2, e3, fun qs rest hc hm => ?_⟩
      obtain ⟨r1, r2, _⟩ := e4 qs rest hc hm
      refine ⟨?_, r2, fun _ => rfl⟩
      exact .fn f _ cs r1.idx.1 r1.idx.2
    | _ => simp [readK] at h
theorem readKs_sound (S : HSim A0 μ H w) (hA : ∀ b, A' b → Av A0 μ H b) : ∀ (ks : List SK) (ps : List (PVal E)) (vs : List Value) (s s' : Ren × List (PVal E)), readKs ks ps s = some s' → RL (Rp E A0 μ H w) ps vs →
    ∃ new, s'.2 = s.2 ++ new ∧ new.length = (SK.holesL ks).length ∧ s.1.le s'.1 ∧ ∀ qs rest, HC H (GoodIds μ A') (SK.holesL ks) new qs → MOk U' μ M N s'.1 →
      RL (RepP E w A' U' M) (fillKs N ks (qs ++ rest)).1 vs ∧ (fillKs N ks (qs ++ rest)).2 = rest ∧ (ks.all SK.solid = true → ∀ p ∈ (fillKs N ks (qs ++ rest)).1, p.leaf = true)
  | [], [], vs, s, s', h, hr => by
    simp only [readKs, Option.some.injEq] at h; subst h
    refine ⟨[], by simp, rfl, Ren.le_refl _, fun qs rest hc hm => ?_⟩
    cases qs with
    | cons q qs => simp [SK.holesL, HC] at hc
    | nil => exact ⟨⟨by have := hr.1; simpa [fillKs] using this, fun j p u hp => by simp [fillKs] at hp⟩, rfl, fun _ p hp => by simp [fillKs] at hp⟩
  | [], _ :: _, _, _, _, h, _ => by simp [readKs] at h
  | _ :: _, [], _, _, _, h, _ => by simp [readKs] at h
  | k :: ks, p :: ps, [], s, s', h, hr => by have := hr.1; simp at this
  | k :: ks, p :: ps, v :: vs, s, s', h, hr => by
    simp only [readKs] at h
    split at h
    rotate_left
    · cases h
    rename_i s1 h1
    obtain ⟨n1, a1, a2, a3, a4⟩ := readK_sound S hA k p v s s1 h1 (hr.2 0 p v rfl rfl)
    obtain ⟨n2, b1, b2, b3, b4⟩ := readKs_sound S hA ks ps vs s1 s' h ⟨by have := hr.1; simpa using this, fun j q u hq hu => hr.2 (j + 1) q u (by simpa using hq) (by simpa using hu)⟩
    refine ⟨n1 ++ n2, by rw [b1, a1, List.append_assoc], by simp [SK.holesL, a2, b2], a3.trans b3, fun qs rest hc hm => ?_⟩
    obtain ⟨q1, q2, rfl, c1, c2⟩ := HC.split a2 hc
    obtain ⟨r1, r2, r3⟩ := a4 q1 (q2 ++ rest) c1 (hm.of_le b3)
    obtain ⟨t1, t2, t3⟩ := b4 q2 rest c2 hm
    simp only [fillKs, List.append_assoc, r2]
    refine ⟨RL.cons r1 t1, t2, fun hs p hp => ?_⟩
    simp only [List.all_cons, Bool.and_eq_true] at hs
    rcases List.mem_cons.1 hp with rfl | hp
    · exact r3 hs.1
    · exact t3 hs.2 p hp
end
end
end Go.Pe
namespace Go.Pe
variable {E : Types}
section
variable {A0 : Nat → Prop} {μ : Nat → Loc} {H : List (Blk E)} {w : World} {A' : Nat → Prop} {U' : Nat → Prop} {M : Nat → Loc} {N : Nat → Nat}
def BC (w : World) (A' U' : Nat → Prop) (μ M : Nat → Loc) (H : List (Blk E)) (x : Option Nat) (B : Blk E) : Prop := match x with
  | some id => BlkOk w A' U' M (μ id) B ∧ memB B = true ∧ memB (getB H id) = true ∧ (liveB B = true → liveB (getB H id) = true) ∧ (ownB B = true → ownB (getB H id) = true) ∧
      (ownB B = true → liveB B = false → liveB (getB H id) = false)
  | none => ∃ wr e, B = .row wr e []
theorem BlkOk.rowLess {A : Nat → Prop} {U : Nat → Prop} {l : Loc} {wr : Bool} {e : Ty} {xs : List (Den E.T e)} (h : BlkOk w A U μ l (.row wr e xs)) (hA : ∀ b, A' b → A b) : BlkOk w A' U' M l (.row wr e xs) := by
  rcases h with ⟨b, off, cap, c, vs, hl, hbox, h1, h2, h3, h4⟩ | h
  · exact .inl ⟨b, off, cap, c, vs, hl, hbox, h1, h2, h3, fun i hi => (h4 i hi).less hA⟩
  · exact .inr h
theorem castTy_refl (τ : Ty) (x : Den E.T τ) : castTy (E := E) τ τ x = some x := by simp [castTy]
theorem keysAre_rep {R : PVal E → Value → Prop} : ∀ {ks : List Int} {es : List (PVal E × PVal E)} {ms : List MapEntry}, keysAre ks es = true → MR R es ms → ∀ {ps : List (PVal E)}, RL R ps (ms.map (·.val)) → (∀ k v, R (.v (.int .i64) k) v → v = .int .i64 k) →
    ∀ {R' : PVal E → Value → Prop}, (∀ k, R' (.v (.int .i64) k) (.int .i64 k)) → ∀ {qs : List (PVal E)}, RL R' qs (ms.map (·.val)) → MR R' ((ks.map fun k => PVal.v (.int .i64) k).zip qs) ms
  | [], [], ms, h, hm, ps, hp, hk, R', hk', qs, hq => by
    have : ms = [] := List.eq_nil_of_length_eq_zero (by have := hm.1; simpa using this.symm)
    subst this
    exact MR.nil
  | [], _ :: _, _, h, _, _, _, _, _, _, _, _ => by simp [keysAre] at h
  | k :: ks, [], _, h, _, _, _, _, _, _, _, _ => by simp [keysAre] at h
  | k :: ks, (a, b) :: es, ms, h, hm, ps, hp, hk, R', hk', qs, hq => by
    obtain ⟨m, ms', rfl, h1, h2, h3⟩ := hm.head
    unfold keysAre at h
    split at h
    · rename_i he; cases he
    · rename_i k2 ks2 n x es2 e1 e2
      injection e1 with e1 e1'
      injection e2 with e2 e2'
      injection e2 with e2 e3
      subst e1 e1' e2' e2 e3
      simp only [Bool.and_eq_true, decide_eq_true_eq] at h
      obtain ⟨rfl, h⟩ := h
      cases qs with
      | nil => have := hq.1; simp at this
      | cons q qs =>
        cases ps with
        | nil => have := hp.1; simp at this
        | cons p ps =>
          have hq0 := hq.2 0 q m.val rfl rfl
          have tl : ∀ {R : PVal E → Value → Prop} {a : PVal E} {as : List (PVal E)}, RL R (a :: as) ((m :: ms').map (·.val)) → RL R as (ms'.map (·.val)) := fun h => ⟨by have := h.1; simpa using this, fun j p u hp hu => h.2 (j + 1) p u (by simpa using hp) (by simpa using hu)⟩
          exact MR.cons (by rw [hk _ _ h1]; exact hk' _) hq0 (keysAre_rep h h3 (tl hp) hk hk' (tl hq))
    · cases h
def BK.isGone : BK → Bool | .gone => true | _ => false
theorem readBs_sound (S : HSim A0 μ H w) (hA : ∀ b, A' b → Av A0 μ H b) : ∀ (bs : List BK) (j : Nat) (s s' : Ren × List (PVal E)), readBs H bs j s = some s' →
    ∃ new, s'.2 = s.2 ++ new ∧ new.length = (BK.holesL bs).length ∧ s.1.le s'.1 ∧ ∀ qs, HC H (GoodIds μ A') (BK.holesL bs) new qs → MOk U' μ M N s'.1 →
      (fillBs N bs qs).length = bs.length ∧ ∀ (i : Nat) (b : BK), bs[i]? = some b → if b.isGone then getB (fillBs N bs qs) i = .free else ∃ x, s'.1.get (j + i) = some x ∧ BC w A' U' μ M H x (getB (fillBs N bs qs) i)
  | [], j, s, s', h => by
    simp only [readBs, Option.some.injEq] at h; subst h
    refine ⟨[], by simp, rfl, Ren.le_refl _, fun qs hc hm => ⟨by simp [fillBs], fun i b hi => by simp at hi⟩⟩
  | .gone :: bs, j, s, s', h => by
    simp only [readBs] at h
    obtain ⟨n2, b1, b2, b3, b4⟩ := readBs_sound S hA bs (j + 1) s s' h
    refine ⟨n2, b1, by simpa [BK.holesL, BK.holes] using b2, b3, fun qs hc hm => ?_⟩
    obtain ⟨t1, t2⟩ := b4 qs (by simpa [BK.holesL, BK.holes] using hc) hm
    have e : fillBs N (.gone :: bs) qs = .free :: fillBs N bs qs := by simp only [fillBs, fillB]
    rw [e]
    refine ⟨by simp [t1], fun i b hi => ?_⟩
    cases i with
    | zero =>
      have : b = .gone := by simpa using hi.symm
      subst this; rfl
    | succ i =>
      have := t2 i b (by simpa using hi)
      rw [show j + (i + 1) = j + 1 + i by omega]
      exact this
  | .box wr ks :: bs, j, s, s', h => by
    simp only [readBs] at h
    split at h
    · rename_i id hg
      split at h
      · rename_i wr' cs e2 hB
        cases e2
        split at h
        rotate_left
        · cases h
        rename_i hc0
        simp only [Bool.and_eq_true, Bool.or_eq_true, Bool.not_eq_true'] at hc0
        obtain ⟨hw, hsol⟩ := hc0
        split at h
        rotate_left
        · cases h
        rename_i s1 h1
        have ok := S.ok id
        rw [hB] at ok
        obtain ⟨b, len, cap, c, hl, hbox, hsz, hcells⟩ := ok
        obtain ⟨n1, a1, a2, a3, a4⟩ := readKs_sound (A' := A') (U' := U') (M := M) (N := N) S hA ks cs c.toList s s1 h1 (RL.of_idx hsz (fun j hj => (hcells j hj).1))
        obtain ⟨n2, b1, b2, b3, b4⟩ := readBs_sound S hA bs (j + 1) s1 s' h
        refine ⟨n1 ++ n2, by rw [b1, a1, List.append_assoc], by simp [BK.holesL, BK.holes, a2, b2], a3.trans b3, fun qs hc hm => ?_⟩
        obtain ⟨q1, q2, rfl, c1, c2⟩ := HC.split a2 hc
        obtain ⟨r1, r2, r3⟩ := a4 q1 q2 c1 (hm.of_le b3)
        obtain ⟨t1, t2⟩ := b4 q2 c2 hm
        have e : fillBs N (.box wr ks :: bs) (q1 ++ q2) = .box wr (fillKs N ks (q1 ++ q2)).1 :: fillBs N bs q2 := by
          simp only [fillBs, fillB, r2]
        rw [e]
        refine ⟨by simp [t1], fun i b hi => ?_⟩
        cases i with
        | zero =>
          simp only [List.getElem?_cons_zero, Option.some.injEq] at hi
          subst hi
          refine ⟨some id, b3 _ _ (a3 _ _ hg), ?_⟩
          show BC w A' U' μ M H (some id) (.box wr (fillKs N ks (q1 ++ q2)).1)
          refine ⟨⟨b, len, cap, c, hl, ?_, by have := r1.1; simpa using this.symm, fun j hj => ⟨r1.idx.2 j hj, r3 hsol _ (List.getElem_mem hj)⟩⟩, rfl, by rw [hB]; rfl, ?_, ?_, ?_⟩
          · obtain ⟨t, f, g1, g2⟩ := hbox
            exact ⟨t, f, g1, fun hwr => g2 (hw.resolve_left (by simp [hwr]))⟩
          · intro hlv; rw [hB]; exact hw.resolve_left (by simpa [liveB] using hlv)
          · intro hlv; rw [hB]; exact hw.resolve_left (by simpa [ownB] using hlv)
          · intro h1 h2; simp [ownB, liveB] at h1 h2; rw [h1] at h2; cases h2
        | succ i =>
          have := t2 i b (by simpa using hi)
          rw [show j + (i + 1) = j + 1 + i by omega]
          exact this
      · rename_i e2 _; cases e2
      · rename_i e2 _; cases e2
      · cases h
    · cases h
    · cases h
  | .map ek :: bs, j, s, s', h => by
    simp only [readBs] at h
    split at h
    · rename_i id hg
      split at h
      · rename_i e2 _; cases e2
      · rename_i e2 _; cases e2
      · rename_i wr' es e2 hB
        cases e2
        split at h
        rotate_left
        · cases h
        rename_i hkeys
        split at h
        rotate_left
        · cases h
        rename_i s1 h1
        have ok := S.ok id
        rw [hB] at ok
        obtain ⟨b, ms, clock, hl, hheap, hsz, hcells⟩ := ok
        have hMR := MR.of_blk hsz hcells
        have hvals : RL (Rp E A0 μ H w) (es.map (·.2)) (ms.toList.map (·.val)) := ⟨by simp [hsz], fun i p v hp hv => by
          simp only [List.getElem?_map, Option.map_eq_some_iff] at hp hv
          obtain ⟨a, ha, rfl⟩ := hp
          obtain ⟨m, hm, rfl⟩ := hv
          exact (hMR.2 i a m ha hm).2⟩
        obtain ⟨n1, a1, a2, a3, a4⟩ := readKs_sound (A' := A') (U' := U') (M := M) (N := N) S hA (ek.map (·.2)) _ _ s s1 h1 hvals
        obtain ⟨n2, b1, b2, b3, b4⟩ := readBs_sound S hA bs (j + 1) s1 s' h
        refine ⟨n1 ++ n2, by rw [b1, a1, List.append_assoc], by simp [BK.holesL, BK.holes, a2, b2], a3.trans b3, fun qs hc hm => ?_⟩
        obtain ⟨q1, q2, rfl, c1, c2⟩ := HC.split a2 (by simpa [BK.holesL, BK.holes] using hc)
        obtain ⟨r1, r2, r3⟩ := a4 q1 q2 c1 (hm.of_le b3)
        obtain ⟨t1, t2⟩ := b4 q2 c2 hm
        have e : fillBs N (.map ek :: bs) (q1 ++ q2) = .map false (((ek.map (·.1)).map fun k => PVal.v (.int .i64) k).zip (fillKs N (ek.map (·.2)) (q1 ++ q2)).1) :: fillBs N bs q2 := by
          simp only [fillBs, fillB, r2]
        rw [e]
        refine ⟨by simp [t1], fun i b hi => ?_⟩
        cases i with
        | zero =>
          simp only [List.getElem?_cons_zero, Option.some.injEq] at hi
          subst hi
          refine ⟨some id, b3 _ _ (a3 _ _ hg), ?_⟩
          show BC w A' U' μ M H (some id) (.map false (((ek.map (·.1)).map fun k => PVal.v (.int .i64) k).zip (fillKs N (ek.map (·.2)) (q1 ++ q2)).1))
          have hm2 := keysAre_rep hkeys hMR hvals (fun k v h => rep_i64 h) (R' := RepP E w A' U' M) (fun k => i64_rep k) r1
          exact ⟨⟨b, ms, clock, hl, hheap, hm2.to_blk.1, hm2.to_blk.2⟩, rfl, by rw [hB]; rfl, fun h => Bool.noConfusion h, fun h => Bool.noConfusion h, fun h => Bool.noConfusion h⟩
        | succ i =>
          have := t2 i b (by simpa using hi)
          rw [show j + (i + 1) = j + 1 + i by omega]
          exact this
      · cases h
    · cases h
    · cases h
  | .row wr e :: bs, j, s, s', h => by
    simp only [readBs] at h
    split at h
    · rename_i id hg
      split at h
      · rename_i e2 _; cases e2
      · rename_i wr' e' l e2 hB
        cases e2
        split at h
        rotate_left
        · cases h
        rename_i hw
        have hw : wr = wr' := by simpa using hw
        subst hw
        split at h
        rotate_left
        · cases h
        rename_i l' hl'
        obtain ⟨he, hl'⟩ := castTy_some hl'
        cases he
        have hl' : l = l' := hl'
        subst hl'
        have ok := S.ok id
        rw [hB] at ok
        obtain ⟨n2, b1, b2, b3, b4⟩ := readBs_sound S hA bs (j + 1) _ s' h
        refine ⟨.v (.slice e) l :: n2, by rw [b1, List.append_assoc]; rfl, by simp [BK.holesL, BK.holes, b2], b3, fun qs hc hm => ?_⟩
        match qs, hc with
        | q :: qs, hc =>
          obtain ⟨⟨x, ids, rfl, hx, hgd⟩, hc⟩ := hc
          obtain ⟨t1, t2⟩ := b4 qs hc hm
          have hx2 : l = x := by
            simp only [toT, toLeaf, castTy_refl, Option.bind_some, Option.some.injEq, Prod.mk.injEq] at hx
            exact hx.1
          subst hx2
          have e : fillBs N (.row wr e :: bs) (.v (.slice e) l :: qs) = .row wr e l :: fillBs N bs qs := by
            simp only [fillBs, fillB, castTy_refl]
          rw [e]
          refine ⟨by simp [t1], fun i b hi => ?_⟩
          cases i with
          | zero =>
            simp only [List.getElem?_cons_zero, Option.some.injEq] at hi
            subst hi
            refine ⟨some id, b3 _ _ hg, ?_⟩
            exact ⟨ok.rowLess hA, rfl, by rw [hB]; rfl, fun h => by rw [hB]; exact h, fun _ => by rw [hB]; rfl, fun _ h => by rw [hB]; exact h⟩
          | succ i =>
            have := t2 i b (by simpa using hi)
            rw [show j + (i + 1) = j + 1 + i by omega]
            exact this
      · rename_i e2 _; cases e2
      · cases h
    · rename_i hg
      obtain ⟨n2, b1, b2, b3, b4⟩ := readBs_sound S hA bs (j + 1) _ s' h
      refine ⟨.v (.slice e) [] :: n2, by rw [b1, List.append_assoc]; rfl, by simp [BK.holesL, BK.holes, b2], b3, fun qs hc hm => ?_⟩
      match qs, hc with
      | q :: qs, hc =>
        obtain ⟨⟨x, ids, rfl, hx, hgd⟩, hc⟩ := hc
        obtain ⟨t1, t2⟩ := b4 qs hc hm
        have hx2 : [] = x := by
          simp only [toT, toLeaf, castTy_refl, Option.bind_some, Option.some.injEq, Prod.mk.injEq] at hx
          exact hx.1
        subst hx2
        have e : fillBs N (.row wr e :: bs) (.v (.slice e) [] :: qs) = .row wr e [] :: fillBs N bs qs := by
          simp only [fillBs, fillB, castTy_refl]
        rw [e]
        refine ⟨by simp [t1], fun i b hi => ?_⟩
        cases i with
        | zero =>
          simp only [List.getElem?_cons_zero, Option.some.injEq] at hi
          subst hi
          exact ⟨none, b3 _ _ hg, wr, _, rfl⟩
        | succ i =>
          have := t2 i b (by simpa using hi)
          rw [show j + (i + 1) = j + 1 + i by omega]
          exact this
    · cases h
end
end Go.Pe
namespace Go.Pe
variable {E : Types}
theorem Ren.get_ids {ρ : Ren} {j id : Nat} (h : ρ.get j = some (some id)) : id ∈ ρ.ids := by
  induction ρ with
  | nil => simp [Ren.get] at h
  | cons a ρ ih =>
    obtain ⟨i, x⟩ := a
    simp only [Ren.get] at h
    split at h
    · injection h with h; subst h; simp [Ren.ids]
    · have := ih h
      cases x <;> simp [Ren.ids, this]
theorem nodupB_cons {a : Nat} {l : List Nat} (h : nodupB (a :: l) = true) : a ∉ l ∧ nodupB l = true := by
  simp only [nodupB, Bool.and_eq_true, Bool.not_eq_true'] at h
  refine ⟨fun hm => ?_, h.2⟩
  have := List.any_eq_false.1 h.1 a hm
  simp at this
theorem Ren.get_inj {ρ : Ren} (hn : nodupB ρ.ids = true) {i j id : Nat} (hi : ρ.get i = some (some id)) (hj : ρ.get j = some (some id)) : i = j := by
  induction ρ with
  | nil => simp [Ren.get] at hi
  | cons a ρ ih =>
    obtain ⟨k, x⟩ := a
    simp only [Ren.get] at hi hj
    cases x with
    | none =>
      split at hi
      · cases hi
      · split at hj
        · cases hj
        · exact ih hn hi hj
    | some y =>
      obtain ⟨h1, h2⟩ := nodupB_cons (by simpa [Ren.ids] using hn)
      split at hi
      · rename_i hk
        have hk := Nat.eq_of_beq_eq_true hk
        injection hi with hi; injection hi with hi; subst hi
        split at hj
        · rename_i hk2
          have hk2 := Nat.eq_of_beq_eq_true hk2
          exact hk.symm.trans hk2
        · exact absurd (Ren.get_ids hj) h1
      · split at hj
        · injection hj with hj; injection hj with hj; subst hj
          exact absurd (Ren.get_ids hi) h1
        · exact ih h2 hi hj
theorem Ren.get_under {ρ : Ren} {bs : List BK} (h : ρ.under bs = true) {j : Nat} {x : Option Nat} (hg : ρ.get j = some x) : ∃ b, bs[j]? = some b ∧ b.isGone = false := by
  induction ρ with
  | nil => simp [Ren.get] at hg
  | cons a ρ ih =>
    obtain ⟨k, y⟩ := a
    simp only [Ren.under, List.all_cons, Bool.and_eq_true] at h
    simp only [Ren.get] at hg
    split at hg
    · rename_i hk
      have hk := Nat.eq_of_beq_eq_true hk
      subst hk
      have h1 := h.1
      split at h1
      · cases h1
      · rename_i b hb hn
        refine ⟨_, hn, ?_⟩
        cases b with
        | gone => simp_all
        | _ => rfl
      · cases h1
    · exact ih h.2 hg
theorem apartB_ne {a b : List Nat} (h : apartB a b = true) {x y : Nat} (hx : x ∈ a) (hy : y ∈ b) : x ≠ y := by
  rintro rfl
  have := List.all_eq_true.1 h x hx
  simp only [Bool.not_eq_true'] at this
  have := List.any_eq_false.1 this x hy
  simp at this
section
variable {A0 : Nat → Prop} {μ : Nat → Loc} {H : List (Blk E)} {w : World}
theorem toLeaf_ids {τ : Ty} {p : PVal E} {y : Den E.T τ} {ids : List Nat} (h : toLeaf τ p H = some (y, ids)) : ∀ id ∈ ids, ∃ wr e l, getB H id = .row wr e l := by
  unfold toLeaf at h
  split at h
  · simp only [Option.bind_eq_some_iff] at h
    obtain ⟨z, _, he⟩ := h
    simp at he; obtain ⟨_, rfl⟩ := he; simp
  · split at h
    · simp at h; obtain ⟨_, rfl⟩ := h; simp
    · cases h
  · split at h
    · split at h
      · rename_i hB
        simp only [Option.bind_eq_some_iff] at h
        obtain ⟨z, _, he⟩ := h
        simp at he; obtain ⟨_, rfl⟩ := he
        intro id hid
        rw [List.mem_singleton.1 hid]
        exact ⟨_, _, _, hB⟩
      · cases h
    · cases h
  · split at h
    · simp only [Option.bind_eq_some_iff] at h
      obtain ⟨z, _, he⟩ := h
      simp at he; obtain ⟨_, rfl⟩ := he; simp
    · cases h
  · cases h
theorem toLeaves_ids : ∀ {ts : List Ty} {ps : List (PVal E)} {x : HL E.T ts} {ids : List Nat}, toLeaves ts ps H = some (x, ids) → ∀ id ∈ ids, ∃ wr e l, getB H id = .row wr e l
  | [], [], x, ids, h => by simp [toLeaves] at h; subst h; simp
  | [], _ :: _, _, _, h => by simp [toLeaves] at h
  | _ :: _, [], _, _, h => by simp [toLeaves] at h
  | t :: ts, p :: ps, x, ids, h => by
    simp only [toLeaves, Option.bind_eq_some_iff] at h
    obtain ⟨⟨a1, a2⟩, ha, ⟨b1, b2⟩, hb, he⟩ := h
    simp at he; obtain ⟨rfl, rfl⟩ := he
    intro id hid
    rcases List.mem_append.1 hid with hid | hid
    · exact toLeaf_ids ha id hid
    · exact toLeaves_ids hb id hid
theorem toT_ids {τ : Ty} {p : PVal E} {y : Den E.T τ} {ids : List Nat} (h : toT τ p H = some (y, ids)) : ∀ id ∈ ids, ∃ wr e l, getB H id = .row wr e l := by
  unfold toT at h
  split at h
  · simp only [Option.bind_eq_some_iff] at h
    obtain ⟨⟨x, ids'⟩, hx, he⟩ := h
    simp at he; obtain ⟨_, rfl⟩ := he
    exact toLeaves_ids hx
  · exact toLeaf_ids h
theorem toTs_ids : ∀ {ts : List Ty} {ps : List (PVal E)} {x : HL E.T ts} {ids : List Nat}, toTs ts ps H = some (x, ids) → ∀ id ∈ ids, ∃ wr e l, getB H id = .row wr e l
  | [], [], x, ids, h => by simp [toTs] at h; subst h; simp
  | [], _ :: _, _, _, h => by simp [toTs] at h
  | _ :: _, [], _, _, h => by simp [toTs] at h
  | t :: ts, p :: ps, x, ids, h => by
    simp only [toTs, Option.bind_eq_some_iff] at h
    obtain ⟨⟨a1, a2⟩, ha, ⟨b1, b2⟩, hb, he⟩ := h
    simp at he; obtain ⟨rfl, rfl⟩ := he
    intro id hid
    rcases List.mem_append.1 hid with hid | hid
    · exact toT_ids ha id hid
    · exact toTs_ids hb id hid
def Ren.loc (ρ : Ren) (μ : Nat → Loc) (j : Nat) : Loc := match ρ.get j with | some (some id) => μ id | _ => .none none
structure Abst (E : Types) (A0 : Nat → Prop) (μ : Nat → Loc) (H : List (Blk E)) (w : World) (Sh : Shape) (x : HL E.T Sh.holes) (ρ : Ren) (fz : List Nat) (vs : List Value) (Ac : Nat → Prop) : Prop where
  sim : HSim Ac (ρ.loc μ) (fillS id Sh (HL.toP Sh.holes x)).2 w
  rep : RL (Rp E Ac (ρ.loc μ) (fillS id Sh (HL.toP Sh.holes x)).2 w) (fillS id Sh (HL.toP Sh.holes x)).1 vs
  len : (fillS id Sh (HL.toP Sh.holes x)).2.length = Sh.blks.length
  up : ∀ b, A0 b → Ac b
  down : ∀ b, Ac b → A0 b ∨ Lv μ H b
  lv : ∀ b, Lv (ρ.loc μ) (fillS id Sh (HL.toP Sh.holes x)).2 b → Lv μ H b
  rest : ∀ b, Lv μ H b → (∀ id ∈ fz, ∀ o n c, μ id ≠ .blk b o n c) → Ac b ∨ Lv (ρ.loc μ) (fillS id Sh (HL.toP Sh.holes x)).2 b
  bc : ∀ (j : Nat) (b : BK), Sh.blks[j]? = some b → if b.isGone then getB (fillS id Sh (HL.toP Sh.holes x)).2 j = .free else ∃ y, ρ.get j = some y ∧ BC w (Av Ac (ρ.loc μ) (fillS id Sh (HL.toP Sh.holes x)).2) (Us (fillS id Sh (HL.toP Sh.holes x)).2) μ (ρ.loc μ) H y (getB (fillS id Sh (HL.toP Sh.holes x)).2 j)
  under : ∀ j y, ρ.get j = some y → ∃ b, Sh.blks[j]? = some b ∧ b.isGone = false
  inj : ∀ i j id, ρ.get i = some (some id) → ρ.get j = some (some id) → i = j
  apart : ∀ j id, ρ.get j = some (some id) → id ∉ fz
  rows : ∀ id ∈ fz, ∃ wr e l, getB H id = .row wr e l
theorem getB_ge {H : List (Blk E)} {j : Nat} (h : H.length ≤ j) : getB H j = .free := by
  unfold getB; rw [List.getElem?_eq_none h]; rfl
theorem abst_of (S : HSim A0 μ H w) {Sh : Shape} {ps : List (PVal E)} {vs : List Value} (hr : RL (Rp E A0 μ H w) ps vs) {ρ0 : Ren} {s s' : Ren × List (PVal E)} {x : HL E.T Sh.holes} {fz : List Nat}
    (h1 : readKs Sh.vals ps (ρ0, []) = some s) (h2 : readBs H Sh.blks 0 s = some s') (h3 : toTs Sh.holes s'.2 H = some (x, fz)) (hu : s'.1.under Sh.blks = true) (hn : nodupB s'.1.ids = true) (ha : apartB s'.1.ids fz = true) :
    (∃ Ac, Abst E A0 μ H w Sh x s'.1 fz vs Ac) ∧ ρ0.le s'.1 := by
  let Hc := (fillS id Sh (HL.toP Sh.holes x)).2
  let M := s'.1.loc μ
  have rows := toTs_ids h3
  have key : ∀ (A' U' : Nat → Prop), (∀ b, A' b → Av A0 μ H b) → GoodIds μ A' fz → (∀ j y, s'.1.get j = some y → U' j) →
      RL (RepP E w A' U' M) (fillS id Sh (HL.toP Sh.holes x)).1 vs ∧ Hc.length = Sh.blks.length ∧ (∀ (j : Nat) (b : BK), Sh.blks[j]? = some b → if b.isGone then getB Hc j = .free else ∃ y, s'.1.get j = some y ∧ BC w A' U' μ M H y (getB Hc j)) ∧ ρ0.le s'.1 := by
    intro A' U' hA hg hU
    obtain ⟨n1, a1, a2, a3, a4⟩ := readKs_sound (A' := A') (U' := U') (M := M) (N := id) S hA _ _ _ _ _ h1 hr
    obtain ⟨n2, b1, b2, b3, b4⟩ := readBs_sound (A' := A') (U' := U') (M := M) (N := id) S hA _ _ _ _ h2
    have hacc : s'.2 = n1 ++ n2 := by rw [b1, a1]; simp
    have hc := toTs_HC (G := GoodIds μ A') (fun l hl id hid => hg id (hl id hid)) h3
    rw [hacc] at hc
    obtain ⟨q1, q2, hq, c1, c2⟩ := HC.split a2 hc
    have hm : MOk U' μ M id s'.1 := fun j y hy => by
      refine ⟨hU j y hy, ?_⟩
      cases y with
      | some i => show Ren.loc s'.1 μ j = μ i; simp only [Ren.loc, hy]
      | none => exact ⟨none, by show Ren.loc s'.1 μ j = _; simp only [Ren.loc, hy]⟩
    obtain ⟨r1, r2, r3⟩ := a4 q1 q2 c1 (hm.of_le b3)
    obtain ⟨t1, t2⟩ := b4 q2 c2 hm
    have e1 : (fillS id Sh (HL.toP Sh.holes x)).1 = (fillKs id Sh.vals (q1 ++ q2)).1 := by simp only [fillS, hq]
    have e2 : Hc = fillBs id Sh.blks q2 := by
      show (fillS id Sh (HL.toP Sh.holes x)).2 = _
      simp only [fillS, hq, r2]
    rw [e1, e2]
    exact ⟨r1, t1, fun j b hj => by simpa using t2 j b hj, a3.trans b3⟩
  obtain ⟨_, hlen, flags0, hle⟩ := key (fun _ => False) (fun _ => True) (fun _ h => h.elim) (fun _ _ _ _ _ _ _ h => h) (fun _ _ _ => trivial)
  have flags : ∀ j, usedB (getB Hc j) = true → ∃ y, s'.1.get j = some y ∧ BC w (fun _ => False) (fun _ => True) μ M H y (getB Hc j) := by
    intro j hj
    have hlt := lt_of_used hj
    rw [hlen] at hlt
    have := flags0 j _ (List.getElem?_eq_getElem hlt)
    split at this
    · rw [this] at hj; cases hj
    · exact this
  have live : ∀ j b o n c, liveB (getB Hc j) = true → M j = .blk b o n c → ∃ id, s'.1.get j = some (some id) ∧ μ id = .blk b o n c ∧ liveB (getB H id) = true := by
    intro j b o n c hl hM
    obtain ⟨y, hy, hbc⟩ := flags j (usedB_of_mem (memB_of_live hl))
    cases y with
    | none =>
      have : M j = .none none := by show Ren.loc s'.1 μ j = _; simp only [Ren.loc, hy]
      rw [this] at hM; cases hM
    | some id =>
      have : M j = μ id := by show Ren.loc s'.1 μ j = _; simp only [Ren.loc, hy]
      exact ⟨id, hy, this.symm.trans hM, hbc.2.2.2.1 hl⟩
  have lv : ∀ b, Lv M Hc b → Lv μ H b := by
    rintro b ⟨j, o, n, c, hl, hM⟩
    obtain ⟨id, _, h5, h6⟩ := live j b o n c hl hM
    exact ⟨id, o, n, c, h6, h5⟩
  let Ac : Nat → Prop := fun b => A0 b ∨ (Lv μ H b ∧ (¬ ∃ id ∈ fz, ∃ o n c, μ id = .blk b o n c) ∧ ¬ Lv M Hc b)
  let A' : Nat → Prop := fun b => (Ac b ∧ ¬ Kb b) ∨ Lv M Hc b
  have hA : ∀ b, A' b → Av A0 μ H b := by
    rintro b (⟨h | h, hk⟩ | h)
    · exact .inl ⟨h, hk⟩
    · exact .inr h.1
    · exact .inr (lv b h)
  have hg : GoodIds μ A' fz := by
    intro id hid b o n c hμ
    obtain ⟨wr, e, l, hB⟩ := rows id hid
    have hout := S.out id b o n c (by rw [hB]; rfl) hμ
    rintro (⟨h | h, _⟩ | ⟨j, o', n', c', hl, hM⟩)
    · exact hout.1 h
    · exact h.2.1 ⟨id, hid, o, n, c, hμ⟩
    · obtain ⟨id', h4, h5, h6⟩ := live j b o' n' c' hl hM
      have hne : id' ≠ id := apartB_ne ha (Ren.get_ids h4) hid
      exact S.inj id' id b o' n' c' b o n c hne h6 (by rw [hB]; rfl) h5 hμ rfl
  have hU : ∀ j y, s'.1.get j = some y → Us Hc j := by
    intro j y hy
    obtain ⟨b, hb, hbg⟩ := Ren.get_under hu hy
    have := flags0 j b hb
    rw [if_neg (by simp [hbg])] at this
    obtain ⟨y', hy', hbc⟩ := this
    refine usedB_of_mem ?_
    cases y' with
    | some id => exact hbc.2.1
    | none => obtain ⟨wr, e, hB⟩ := hbc; show memB (getB Hc j) = true; rw [hB]; rfl
  obtain ⟨hrep, _, hbc0, _⟩ := key A' (Us Hc) hA hg hU
  have hbc : ∀ j, usedB (getB Hc j) = true → ∃ y, s'.1.get j = some y ∧ BC w A' (Us Hc) μ M H y (getB Hc j) := by
    intro j hj
    have hlt := lt_of_used hj
    rw [hlen] at hlt
    have := hbc0 j _ (List.getElem?_eq_getElem hlt)
    split at this
    · rw [this] at hj; cases hj
    · exact this
  refine ⟨⟨Ac, ⟨⟨fun j => ?_, ?_, ?_⟩, hrep, hlen, fun b h => .inl h, ?_, lv, ?_, hbc0, fun j y hy => Ren.get_under hu hy, fun i j id hi hj => Ren.get_inj hn hi hj, fun j id hj hf => apartB_ne ha (Ren.get_ids hj) hf rfl, rows⟩⟩, hle⟩
  · cases hj : usedB (getB Hc j) with
    | true =>
      obtain ⟨y, hy, hb⟩ := hbc j hj
      cases y with
      | some id =>
        have : M j = μ id := by show Ren.loc s'.1 μ j = _; simp only [Ren.loc, hy]
        show BlkOk w A' (Us Hc) M (M j) (getB Hc j)
        rw [this]; exact hb.1
      | none =>
        obtain ⟨wr, e, hB⟩ := hb
        have : M j = .none none := by show Ren.loc s'.1 μ j = _; simp only [Ren.loc, hy]
        show BlkOk w A' (Us Hc) M (M j) (getB Hc j)
        rw [hB, this]
        exact .inr ⟨rfl, none, rfl⟩
    | false =>
      show BlkOk w A' (Us Hc) M (M j) (getB Hc j)
      cases hB : getB Hc j with
      | free => trivial
      | dead => trivial
      | _ => rw [hB] at hj; cases hj
  · intro i j b o n c b' o' n' c' hne hli hmj hi hj
    obtain ⟨id, g1, g2, g3⟩ := live i b o n c hli hi
    obtain ⟨y, hy, hb⟩ := hbc j (usedB_of_mem hmj)
    cases y with
    | none =>
      have : M j = .none none := by show Ren.loc s'.1 μ j = _; simp only [Ren.loc, hy]
      have hj : M j = .blk b' o' n' c' := hj
      rw [this] at hj; cases hj
    | some id' =>
      have : M j = μ id' := by show Ren.loc s'.1 μ j = _; simp only [Ren.loc, hy]
      have hj : M j = .blk b' o' n' c' := hj
      refine S.inj id id' b o n c b' o' n' c' (fun e => ?_) g3 hb.2.2.1 g2 (this.symm.trans hj)
      subst e
      exact hne (Ren.get_inj hn g1 hy)
  · intro j b o n c hown hM
    obtain ⟨y, hy, hb⟩ := hbc j (usedB_of_mem (memB_of_own hown))
    have hM : M j = .blk b o n c := hM
    cases y with
    | none =>
      have : M j = .none none := by show Ren.loc s'.1 μ j = _; simp only [Ren.loc, hy]
      rw [this] at hM; cases hM
    | some id =>
      have e : M j = μ id := by show Ren.loc s'.1 μ j = _; simp only [Ren.loc, hy]
      have hμ : μ id = .blk b o n c := e.symm.trans hM
      have ho := S.out id b o n c (hb.2.2.2.2.1 hown) hμ
      refine ⟨?_, ho.2⟩
      rintro (h | ⟨hlv, _, hnl⟩)
      · exact ho.1 h
      · cases hl : liveB (getB Hc j) with
        | true => exact hnl ⟨j, o, n, c, hl, hM⟩
        | false =>
          obtain ⟨k, o', n', c', k1, k2⟩ := hlv
          have hnl' := hb.2.2.2.2.2 hown hl
          have hne : k ≠ id := fun e => by subst e; rw [k1] at hnl'; cases hnl'
          exact S.inj k id b o' n' c' b o n c hne k1 hb.2.2.1 k2 hμ rfl
  · rintro b (h | h)
    · exact .inl h
    · exact .inr h.1
  · intro b hb hf
    by_cases hl : Lv M Hc b
    · exact .inr hl
    · exact .inl (.inr ⟨hb, fun ⟨id, h4, o, n, c, h5⟩ => hf id h4 o n c h5, hl⟩)
theorem readS_sound (S : HSim A0 μ H w) {Sh : Shape} {ps : List (PVal E)} {vs : List Value} (hr : RL (Rp E A0 μ H w) ps vs) {x : HL E.T Sh.holes} {ρ0 ρ : Ren} {fz : List Nat}
    (h : readS ρ0 Sh ps H = some (x, ρ, fz)) : (∃ Ac, Abst E A0 μ H w Sh x ρ fz vs Ac) ∧ ρ0.le ρ := by
  unfold readS at h
  split at h
  rotate_left
  · cases h
  rename_i s h1
  split at h
  rotate_left
  · cases h
  rename_i s' h2
  split at h
  rotate_left
  · cases h
  rename_i x' h3
  split at h
  rotate_left
  · cases h
  rename_i hc
  simp only [Bool.and_eq_true] at hc
  simp only [Option.some.injEq, Prod.mk.injEq] at h
  obtain ⟨rfl, rfl, rfl⟩ := h
  exact abst_of S hr h1 h2 h3 hc.1.1 hc.1.2 hc.2
end
end Go.Pe
