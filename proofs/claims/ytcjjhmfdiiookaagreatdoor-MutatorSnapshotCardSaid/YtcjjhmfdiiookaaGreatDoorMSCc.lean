/- Own work of this seat: Code, Flat, Range, DrawY, Code2, Fn, Gen. -/
import Derived.Test.YtcjjhmfdiiookaaGreatDoorMSCb
import Derived.Scope
import Derived.RangeFuncBound
set_option linter.unusedVariables false
set_option linter.unusedSimpArgs false
set_option linter.unnecessarySimpa false
set_option linter.unusedSectionVars false
set_option linter.deprecated false
namespace Go.Pe
variable {E : yj}
section
variable {C : Cfg E} {P : Program} {G : Nat → Prop} {W0 : World} {yk : Option (YK C P G W0)} {A0 : Nat → Prop} {μ : Nat → Loc} {H : List (Blk E)} {w : World} {env : List (zd E)} {a : Act}
theorem zoY (H : List (Blk E)) (k : Nat) : ze (H ++ List.replicate k .free) = ze H := by
  funext id
  unfold ze
  by_cases h : id < H.length
  · rw [List.getElem?_append_left h]
  · rw [List.getElem?_append_right (by omega), List.getElem?_eq_none (l := H) (by omega)]
    rw [List.getElem?_replicate]
    split <;> rfl
theorem zs6 {H1 : List (Blk E)} (e : ze H1 = ze H) : Lv μ H1 = Lv μ H := by funext b; unfold Lv; rw [e]
theorem St.congr {H1 : List (Blk E)} (e : ze H1 = ze H) (S : St G W0 yk A0 μ H w env a) : St G W0 yk A0 μ H1 w env a := by
  have hL : Lv μ H1 = Lv μ H := zs6 e
  have hU : Us H1 = Us H := by funext b; unfold Us; rw [e]
  have hA : Av A0 μ H1 = Av A0 μ H := by funext b; unfold Av; rw [hL]
  refine ⟨S.wd, ⟨fun id => ?_, ?_, ?_⟩, S.size, fun t p h => ?_, S.marks, S.nomark, ?_⟩
  · rw [hA, hU, e]; exact S.sim.ok id
  · rw [e]; exact S.sim.inj
  · rw [e]; exact S.sim.out
  · have := S.rep t p h
    unfold Rp at this ⊢
    rw [hA, hU]; exact this
  · have := S.ys
    unfold Ys at this ⊢
    rw [hL]; exact this
theorem St.drew (S : St G W0 yk A0 μ H w env a) : St G W0 yk A0 μ H w.drew env a := S.trans zI.drew (zN.drew S.sim)
structure Far (fr : Bool) (kp : Ren) (A0 : Nat → Prop) (μ : Nat → Loc) (H : List (Blk E)) (w : World) (A1 : Nat → Prop) (μ' : Nat → Loc) (H' : List (Blk E)) (w' : World) : Prop where
  q : z7 w w'
  block : fr = false → ∀ b, b < w.heap.size → ¬ Lv μ H b → w'.heap[b]? = w.heap[b]?
  lv : ∀ b, b < w.heap.size → Lv μ' H' b → Lv μ H b
  up : ∀ b, A0 b → A1 b
  dn : fr = false → ∀ b, b < w.heap.size → A1 b → A0 b ∨ Lv μ H b
  keep : ∀ k, kp.get k = some (some k) → Us H k → Us H' k ∧ μ' k = μ k
theorem Far.refl {fr : Bool} {kp : Ren} {A0 : Nat → Prop} {μ : Nat → Loc} {H : List (Blk E)} {w : World} : Far fr kp A0 μ H w A0 μ H w := ⟨z7.refl _, fun _ _ _ _ => rfl, fun _ _ h => h, fun _ h => h, fun _ _ _ h => .inl h, fun _ _ h => ⟨h, rfl⟩⟩
theorem Far.trans {fr : Bool} {kp : Ren} {A1 A2 : Nat → Prop} {μ1 μ2 : Nat → Loc} {H1 H2 : List (Blk E)} {w1 w2 : World} (h : Far fr kp A0 μ H w A1 μ1 H1 w1) (k : Far fr kp A1 μ1 H1 w1 A2 μ2 H2 w2) : Far fr kp A0 μ H w A2 μ2 H2 w2 :=
  ⟨h.q.trans k.q, fun hf b hb hl => (k.block hf b (Nat.lt_of_lt_of_le hb h.q.size) (fun hl1 => hl (h.lv b hb hl1))).trans (h.block hf b hb hl),
    fun b hb hl => h.lv b hb (k.lv b (Nat.lt_of_lt_of_le hb h.q.size) hl), fun b hb => k.up b (h.up b hb), fun hf b hb ha => (k.dn hf b (Nat.lt_of_lt_of_le hb h.q.size) ha).elim (h.dn hf b hb) (fun hl => .inr (h.lv b hb hl)), fun i hi hu => by
    obtain ⟨h1, h2⟩ := h.keep i hi hu
    obtain ⟨h3, h4⟩ := k.keep i hi h1
    exact ⟨h3, h4.trans h2⟩⟩
theorem Mid.long {fr : Bool} {A1 : Nat → Prop} {μ' : Nat → Loc} {H1 H' : List (Blk E)} {w' : World} (e : ze H1 = ze H) (m : Mid fr A0 μ H1 w A1 μ' H' w') : Mid fr A0 μ H w A1 μ' H' w' := by
  have hL : Lv μ H1 = Lv μ H := zs6 e
  exact ⟨m.q, by rw [← hL]; exact m.block, by rw [← hL]; exact m.lv, m.up, fun id hu => m.used id (by unfold Us at hu ⊢; rw [e]; exact hu)⟩
theorem Mid.far {fr : Bool} {kp : Ren} {A1 : Nat → Prop} {μ' : Nat → Loc} {H' : List (Blk E)} {w' : World} (m : Mid fr A0 μ H w A1 μ' H' w') (hA : fr = false → A1 = A0) : Far fr kp A0 μ H w A1 μ' H' w' :=
  ⟨m.q, m.block, m.lv, m.up, fun hf b _ h => .inl (by rw [hA hf] at h; exact h), fun k _ hu => m.used k hu⟩
theorem zkL (hP : C.P = P) (hT : yD E.leaves C.P C.tab = true) (hS : Zo C G W0) (hyl : C.yl = yk.isSome) {R : Type} {K : List (zd E) → List (Blk E) → Option R} {r : R} {rid spare : Nat} {ops : Array Oper} {ro : Option Nat} {n : Nat} (hro : yk.isSome = true → ro = none)
    {Q : Exit → Act → World → Prop} : ∀ (l : List Oper) (i fresh : Nat) {env : List (zd E)} {H : List (Blk E)} {A0 : Nat → Prop} {μ : Nat → Loc} {w : World} {a : Act}, (∀ k o, l[k]? = some o → ops[i + k]? = some o) → (yk.isSome = true → ∀ o ∈ l, o.dst ≠ some 0) → St G W0 yk A0 μ H w env a →
    zsQ C (zik _) rid spare ops l i fresh env H K = some r → zv9 G W0 yk A0 μ H w env.length K r (Q .normal) → wpOpsIn (u7 ro) n P ops Q (List.range' i l.length) a w
  | [], i, fresh, env, H, A0, μ, w, a, hl, hd, S, h, hN => hN _ _ _ _ _ _ S Mid.refl (fun _ => rfl) rfl h
  | o :: l, i, fresh, env, H, A0, μ, w, a, hl, hd, S, h, hN => by
    rw [List.length_cons, List.range'_succ, wpOpsIn_cons]
    refine znC hP hT hS hyl hro (hl 0 o rfl) (fun hy => hd hy o (List.mem_cons_self ..)) S h ?_
    intro env' H' A1 μ' w' a' S' T hA hlen hk
    refine zkL hP hT hS hyl hro l (i + 1) _ (fun k o' hk' => by rw [show i + 1 + k = i + (k + 1) by omega]; exact hl (k + 1) o' (by simpa using hk')) (fun hy o' ho' => hd hy o' (List.mem_cons_of_mem _ ho')) S' hk ?_
    intro env2 H2 A2 μ2 w2 a2 S2 T2 hA2 hlen2 hk2
    exact hN _ _ _ _ _ _ S2 (T.trans T2) (fun h => (hA2 h).trans (hA h)) (hlen2.trans hlen) hk2
theorem znx {ops : Array Oper} (h : zpn ops = true) : ∀ o ∈ ops.toList, o.dst ≠ some 0 := by
  intro o ho e
  have := List.all_eq_true.1 h o ho
  rw [e] at this
  simp at this
theorem zrr {A0 : Nat → Prop} {μ : Nat → Loc} {H : List (Blk E)} {w : World} {a : Act} (n : Nat) : ∀ (l : List Nat) (ps : List (zd E)), RL (Rp E A0 μ H w) ps (l.map fun t => a.tmps.getD t undef) →
    (zpG n l ps).length = n ∧ ∀ t p, (zpG n l ps)[t]? = some p → Rp E A0 μ H w p (a.tmps.getD t undef) := by
  have key : ∀ (l : List Nat) (ps : List (zd E)) (e : List (zd E)), RL (Rp E A0 μ H w) ps (l.map fun t => a.tmps.getD t undef) → (∀ t p, e[t]? = some p → Rp E A0 μ H w p (a.tmps.getD t undef)) →
      ((l.zip ps).foldl (fun e x => e.set x.1 x.2) e).length = e.length ∧ ∀ t p, ((l.zip ps).foldl (fun e x => e.set x.1 x.2) e)[t]? = some p → Rp E A0 μ H w p (a.tmps.getD t undef) := by
    intro l
    induction l with
    | nil => intro ps e _ he; exact ⟨rfl, he⟩
    | cons s l ih =>
      intro ps e hr he
      cases ps with
      | nil => exact ⟨rfl, he⟩
      | cons p ps =>
        have h0 : Rp E A0 μ H w p (a.tmps.getD s undef) := hr.2 0 p _ rfl rfl
        have := ih ps (e.set s p) ⟨by have := hr.1; simpa using this, fun j q u hq hu => hr.2 (j + 1) q u (by simpa using hq) (by simpa using hu)⟩ (fun t q hq => by
          rw [List.getElem?_set] at hq
          split at hq
          · rename_i e'; subst e'
            split at hq
            · injection hq with hq; subst hq; exact h0
            · cases hq
          · exact he t q hq)
        refine ⟨?_, this.2⟩
        have := this.1
        simpa using this
  intro l ps hr
  have := key l ps (List.replicate n .any) hr (fun t p hp => by
    rw [List.getElem?_replicate] at hp
    split at hp
    · injection hp with hp; subst hp; exact .any _
    · cases hp)
  exact ⟨by simpa [zpG] using this.1, this.2⟩
theorem ziq (S : St G W0 yk A0 μ H w env a) (l : List Nat) : RL (Rp E A0 μ H w) (zH env l) (l.map fun t => a.tmps.getD t undef) :=
  ⟨by simp [zH], fun j p u hp hu => by
    simp only [zH, List.getElem?_map, Option.map_eq_some_iff] at hp hu
    obtain ⟨t, ht, rfl⟩ := hp
    obtain ⟨t', ht', rfl⟩ := hu
    rw [ht] at ht'; injection ht' with ht'; subst ht'
    exact S.slot t⟩
theorem zwe {N : Nat → Nat} : ∀ (k : SK) (qs : List (zd E)), k.notY = true → (∀ q ∈ qs, uP q) → ∀ m i, (xC N k qs).1 ≠ .yld m i
  | .any, qs, h, ht, m, i => by simp [xC]
  | .val τ, [], h, ht, m, i => by simp [xC]
  | .val τ, q :: qs, h, ht, m, i => by
    obtain ⟨t, x, rfl⟩ := ht q (List.mem_cons_self ..)
    simp [xC]
  | .full e, [], h, ht, m, i => by simp [xC]
  | .full e, q :: qs, h, ht, m, i => by
    simp only [xC]
    unfold zm2
    split
    · split <;> (intro e; cases e)
    · intro e; cases e
  | .aptr e j, qs, h, ht, m, i => by simp [xC]
  | .ptr j, qs, h, ht, m, i => by simp [xC]
  | .own j, qs, h, ht, m, i => by simp [xC]
  | .bsl j n, qs, h, ht, m, i => by simp [xC]
  | .nilfn, qs, h, ht, m, i => by simp [xC]
  | .map j, qs, h, ht, m, i => by simp [xC]
  | .fn f ks, qs, h, ht, m, i => by simp [xC]
  | .yld, qs, h, ht, m, i => by cases h
theorem zjl {N : Nat → Nat} : ∀ (ks : List SK) (qs : List (zd E)), ks.all SK.notY = true → (∀ q ∈ qs, uP q) → ∀ p ∈ (yi N ks qs).1, ∀ m i, p ≠ .yld m i
  | [], qs, h, ht, p, hp, m, i => by simp [yi] at hp
  | k :: ks, qs, h, ht, p, hp, m, i => by
    simp only [List.all_cons, Bool.and_eq_true] at h
    simp only [yi, List.mem_cons] at hp
    rcases hp with rfl | hp
    · exact zwe k qs h.1 ht m i
    · exact zjl ks _ h.2 (znE k qs ht) p hp m i
theorem toP_typed : ∀ (hs : List Ty) (x : HL E.T hs), ∀ q ∈ HL.toP hs x, uP q
  | [], _, q, h => by simp [HL.toP] at h
  | t :: ts, x, q, h => by
    simp only [HL.toP, List.mem_cons] at h
    rcases h with rfl | h
    · exact ⟨t, _, rfl⟩
    · exact toP_typed ts _ q h
theorem zs9 : ∀ (z : List (Nat × zd E)) (e : List (zd E)) (t : Nat) (p : zd E), (z.foldl (fun e x => e.set x.1 x.2) e)[t]? = some p → e[t]? = some p ∨ ∃ x ∈ z, x.2 = p
  | [], e, t, p, h => .inl h
  | y :: z, e, t, p, h => by
    rcases zs9 z (e.set y.1 y.2) t p h with h | ⟨x, hx, e'⟩
    · rw [List.getElem?_set] at h
      split at h
      · split at h
        · injection h with h; exact .inr ⟨y, List.mem_cons_self .., h⟩
        · cases h
      · exact .inl h
    · exact .inr ⟨x, List.mem_cons_of_mem _ hx, e'⟩
theorem zrC : ∀ (z : List (Nat × zd E)) (e : List (zd E)), (∀ x ∈ z, x.1 ≠ 0) → (z.foldl (fun e x => e.set x.1 x.2) e)[0]? = e[0]?
  | [], e, h => rfl
  | y :: z, e, h => by
    have := zrC z (e.set y.1 y.2) (fun x hx => h x (List.mem_cons_of_mem _ hx))
    rw [List.foldl_cons, this, List.getElem?_set_ne (h y (List.mem_cons_self ..))]
theorem zw7 {l : List Nat} {Sh : xB} {x : HL E.T Sh.holes} {ρ : Ren} {fz : List Nat} {kp : Ren} {n : Nat} {y i : Int} (hs : zN A0 μ H w) {vs : List Value} (hr : RL (Rp E A0 μ H w) (zH env l) vs) (hn : 0 < n) (hy : VU l Sh.vals = true) (h0 : env[0]? = some (zd.yld y i)) (h : Xl kp Sh (zH env l) H = some (x, ρ, fz)) :
    (entry n l Sh x).1[0]? = some (zd.yld y i) ∧ ∀ (t : Nat) (m j : Int), (entry n l Sh x).1[t]? = some (zd.yld m j) → m = y := by
  obtain ⟨vals, blks⟩ := Sh
  unfold VU at hy
  simp only at hy
  split at hy
  rotate_left
  · cases hy
  rename_i t ts ks
  simp only [Bool.and_eq_true] at hy
  obtain ⟨⟨ht, hts⟩, hks⟩ := hy
  have ht := Nat.eq_of_beq_eq_true ht
  subst ht
  unfold Xl at h
  have es : zH env (0 :: ts) = .yld y i :: zH env ts := by simp [zH, h0]
  rw [es] at h hr
  simp only [uC, xN] at h
  split at h
  rotate_left
  · cases h
  rename_i s h1
  split at h
  rotate_left
  · cases h
  rename_i s' h2
  split at h
  rotate_left
  · cases h
  rename_i x' h3
  split at h
  rotate_left
  · cases h
  simp only [Option.some.injEq, Prod.mk.injEq] at h
  obtain ⟨rfl, _, _⟩ := h
  cases vs with
  | nil => have := hr.1; simp at this
  | cons v vs =>
    have hr' : RL (Rp E A0 μ H w) (zH env ts) vs := ⟨by have := hr.1; simpa using this, fun j p u hp hu => hr.2 (j + 1) p u (by simpa using hp) (by simpa using hu)⟩
    obtain ⟨n1, a1, _⟩ := WN (A' := fun _ => False) (U' := fun _ => True) (M := μ) (N := id) hs (fun _ h => h.elim) ks _ _ _ _ h1 hr'
    obtain ⟨n2, b1, _⟩ := Y2 (A' := fun _ => False) (U' := fun _ => True) (M := μ) (N := id) hs (fun _ h => h.elim) _ _ _ _ h2
    have e2 : s'.2 = .v (.int .i64) y :: .v (.int .i64) i :: (n1 ++ n2) := by rw [b1, a1]; simp
    rw [e2] at h3
    have hholes : (xB.mk (.yld :: ks) blks).holes = .int .i64 :: .int .i64 :: (SK.holesL ks ++ BK.holesL blks) := rfl
    obtain ⟨x0, fz0⟩ := x'
    obtain ⟨xa, xb, xc⟩ := x0
    have hx : xa = y ∧ xb = i := by
      have h3 : Xc (E := E) (.int .i64 :: .int .i64 :: (SK.holesL ks ++ BK.holesL blks)) (.v (.int .i64) y :: .v (.int .i64) i :: (n1 ++ n2)) H = some ((xa, xb, xc), fz0) := h3
      simp only [Xc, toT, wM, wL, dif_pos, Option.bind_some, Option.bind_eq_some_iff, Option.some.injEq, Prod.mk.injEq] at h3
      obtain ⟨q, ⟨q2, h4, rfl⟩, ⟨e1, e2, _⟩, _⟩ := h3
      exact ⟨e1.symm, by simpa using e2.symm⟩
    obtain ⟨rfl, rfl⟩ := hx
    have ef : (yo id (xB.mk (.yld :: ks) blks) (HL.toP (xB.mk (.yld :: ks) blks).holes (xa, xb, xc))).1 = .yld xa xb :: (yi id ks (HL.toP (SK.holesL ks ++ BK.holesL blks) xc)).1 := rfl
    have ee : (entry n (0 :: ts) (xB.mk (.yld :: ks) blks) (xa, xb, xc)).1 = (ts.zip (yi id ks (HL.toP (SK.holesL ks ++ BK.holesL blks) xc)).1).foldl (fun e x => e.set x.1 x.2) ((List.replicate n zd.any).set 0 (.yld xa xb)) := by
      show zpG n (0 :: ts) _ = _
      rw [ef]; rfl
    rw [ee]
    have htyp := toP_typed (E := E) (SK.holesL ks ++ BK.holesL blks) xc
    refine ⟨?_, fun t m j hm => ?_⟩
    · rw [zrC]
      · simp [hn]
      · intro z hz e
        have := List.all_eq_true.1 hts z.1 (List.of_mem_zip hz).1
        rw [e] at this; simp at this
    · rcases zs9 _ _ _ _ hm with h | ⟨z, hz, e⟩
      · rw [List.getElem?_set] at h
        split at h
        · split at h
          · injection h with h; injection h with h; exact h.symm
          · cases h
        · rw [List.getElem?_replicate] at h
          split at h <;> cases h
      · exact absurd e (zjl ks _ hks htyp z.2 (List.of_mem_zip hz).2 m j)
theorem St.entry (S : St G W0 yk A0 μ H w env a) {l : List Nat} {Sh : xB} {x : HL E.T Sh.holes} {ρ : Ren} {fz : List Nat} {kp : Ren} (hy : yk.isSome = true → VU l Sh.vals = true) (h : Xl kp Sh (zH env l) H = some (x, ρ, fz)) :
    ∃ A1 μ', St G W0 yk A1 μ' (entry env.length l Sh x).2 w (entry env.length l Sh x).1 a ∧ Far yk.isSome kp A0 μ H w A1 μ' (entry env.length l Sh x).2 w := by
  obtain ⟨⟨Ac, ab⟩, hle⟩ := VZ S.sim (ziq S l) h
  obtain ⟨h1, h2⟩ := zrr env.length l _ ab.rep
  have keepk : ∀ k, kp.get k = some (some k) → Us (Pe.entry env.length l Sh x).2 k ∧ ρ.loc μ k = μ k := fun k hk => by
    have hg := hle k _ hk
    obtain ⟨b, hb1, hb2⟩ := ab.under k _ hg
    have := ab.bc k b hb1
    rw [if_neg (by simp [hb2])] at this
    obtain ⟨y, hy, hbc⟩ := this
    rw [hg] at hy; injection hy with hy; subst hy
    have hmem : yV (ze (yo id Sh (HL.toP Sh.holes x)).2 k) = true := hbc.2.1
    exact ⟨yg hmem, by simp only [Ren.loc, hg]⟩
  refine ⟨Ac, ρ.loc μ, ⟨⟨fun b hb => ?_, fun g hg => ⟨ab.up g (S.wd.glob g hg).1, (S.wd.glob g hg).2⟩, fun b hb => ab.up b (S.wd.kb b hb)⟩, ab.sim, ?_, h2, ?_, S.nomark, fun k hk => ?_⟩, ⟨z7.refl _, fun _ _ _ _ => rfl, fun b _ hb => ab.lv b hb, ab.up, fun _ b _ h => ab.down b h, fun k hk _ => keepk k hk⟩⟩
  · rcases ab.down b hb with h | ⟨id, o, n, c, hl, hm⟩
    · exact S.wd.low b h
    · exact (S.sim.out id b o n c (yO hl) hm).2
  · exact S.size.trans h1.symm
  · exact S.marks.step (fun _ _ _ => rfl) ab.up
  · have hys : yk.isSome = true := by rw [hk]; rfl
    obtain ⟨⟨tr, A, q1, q2, q3⟩, q5⟩ := S.ys k hk
    have hlt : 0 < env.length := (List.getElem?_eq_some_iff.1 q1).1
    obtain ⟨e1, e2⟩ := zw7 S.sim (ziq S l) hlt (hy hys) q1 h
    refine ⟨⟨tr, A, e1, k.stable q2 (z7.refl _) (fun _ _ _ => rfl) (fun b _ hb => ab.lv b hb) ?_, fun b hb => ab.up b (q3 b hb)⟩, e2⟩
    rintro b ⟨id, o, n, c, hl, hm⟩
    have := ab.sim.out id b o n c (yO hl) hm
    exact ⟨this.2, fun ha => this.1 (ab.up b (q3 b ha))⟩
theorem zey (n : Nat) (l : List Nat) (Sh : xB) (x : HL E.T Sh.holes) : (entry n l Sh x).1.length = n := by
  have : ∀ (z : List (Nat × zd E)) (e : List (zd E)), (z.foldl (fun e x => e.set x.1 x.2) e).length = e.length := by
    intro z
    induction z with
    | nil => intro e; rfl
    | cons y z ih => intro e; simp only [List.foldl_cons]; rw [ih]; simp
  show ((l.zip _).foldl _ (List.replicate n zd.any)).length = n
  rw [this]; simp
def zjR : Ex → Exit
  | .normal => .normal | .exit id => .exit id | .ret => .ret
def zos (C : Cfg E) (P : Program) (G : Nat → Prop) (W0 : World) (yk : Option (YK C P G W0)) (n : Nat) (c : Code) : Prop :=
  ∀ {R : Type} {r : R} {K : Ex → List (zd E) → List (Blk E) → Option R} {A0 : Nat → Prop} {μ : Nat → Loc} {H : List (Blk E)} {w : World} {env : List (zd E)} {a : Act} {Q : Exit → Act → World → Prop} {m : Nat},
    St G W0 yk A0 μ H w env a → env.length = n → exec C c R env H K = some r →
    (∀ ex env' H' A1 μ' w' a', St G W0 yk A1 μ' H' w' env' a' → env'.length = n → Far yk.isSome C.kept A0 μ H w A1 μ' H' w' → K ex env' H' = some r → Q (zjR ex) a' w') → c.wpIn (u7 none) m P Q a w
theorem zmV {p : Nat → Prop} (h : ∃ k, p k) : ∃ k, p k ∧ ∀ j, p j → k ≤ j := by
  classical
  obtain ⟨k, hk⟩ := h
  induction k using Nat.strongRecOn with
  | _ k ih =>
    by_cases hj : ∃ j, j < k ∧ p j
    · obtain ⟨j, h1, h2⟩ := hj
      exact ih j h1 h2
    · exact ⟨k, hk, fun j hp => Nat.le_of_not_lt fun h => hj ⟨j, h, hp⟩⟩
theorem zvG {n : Nat} {body : Code} (ih : zos C P G W0 yk n body) {l : zP E} {o : xg Unit l.gb.G l.gr.G} {Q : Exit → Act → World → Prop} {m : Nat} (hy : yk.isSome = true → VU l.slots l.inn.vals = true ∧ VU l.bslots l.brk.vals = true ∧ VU l.rslots l.ret.vals = true)
    {A0 : Nat → Prop} {μ : Nat → Loc} {w : World} {a : Act} {x : l.gi.G} (S : St G W0 yk A0 μ (entry n l.slots l.inn (l.gi.to x)).2 w (entry n l.slots l.inn (l.gi.to x)).1 a)
    (hx : yz (yv C (exec C body) n l) x = some o)
    (hQ : ∀ A1 μ' w' a', (match o with
        | .again _ => False
        | .brk y => St G W0 yk A1 μ' (entry n l.bslots l.brk (l.gb.to y)).2 w' (entry n l.bslots l.brk (l.gb.to y)).1 a' ∧ Far yk.isSome C.kept A0 μ (entry n l.slots l.inn (l.gi.to x)).2 w A1 μ' (entry n l.bslots l.brk (l.gb.to y)).2 w'
        | .ret y => St G W0 yk A1 μ' (entry n l.rslots l.ret (l.gr.to y)).2 w' (entry n l.rslots l.ret (l.gr.to y)).1 a' ∧ Far yk.isSome C.kept A0 μ (entry n l.slots l.inn (l.gi.to x)).2 w A1 μ' (entry n l.rslots l.ret (l.gr.to y)).2 w' : Prop) →
        (match o with | .again _ => False | .brk _ => Q (.exit l.brkId) a' w' | .ret _ => Q .ret a' w' : Prop)) : (Code.loop body).wpIn (u7 none) m P Q a w := by
  classical
  rw [VG] at hx
  let J : Nat → Act → World → Prop := fun k a1 w1 => ∃ A1 μ1 x1, wg (yv C (exec C body) n l) k x1 = some o ∧ St G W0 yk A1 μ1 (entry n l.slots l.inn (l.gi.to x1)).2 w1 (entry n l.slots l.inn (l.gi.to x1)).1 a1 ∧
    Far yk.isSome C.kept A0 μ (entry n l.slots l.inn (l.gi.to x)).2 w A1 μ1 (entry n l.slots l.inn (l.gi.to x1)).2 w1
  let ms : Act → World → Nat := fun a1 w1 => if h : ∃ k, J k a1 w1 then Classical.choose (zmV h) else 0
  refine wpIn_loop (fun a1 w1 => ∃ k, J k a1 w1) ms ⟨Ze, A0, μ, x, hx, S, Far.refl⟩ ?_
  intro a1 w1 hk
  have hm : ms a1 w1 = Classical.choose (zmV hk) := dif_pos hk
  have hJ := (Classical.choose_spec (zmV hk)).1
  obtain ⟨A1, μ1, x1, hit, S1, F1⟩ := hJ
  generalize Classical.choose (zmV hk) = k at hit hm
  cases k with
  | zero => simp [wg] at hit
  | succ k =>
    simp only [wg, Option.bind_eq_some_iff] at hit
    obtain ⟨st, hst, hit⟩ := hit
    unfold yv at hst
    refine ih S1 (zey _ _ _ _) hst ?_
    intro ex env' H' A2 μ2 w2 a2 S2 hl2 F2 hK
    cases ex with
    | normal =>
      simp only [Option.map_eq_some_iff] at hK
      obtain ⟨⟨y, ρ, fz⟩, hrd, rfl⟩ := hK
      obtain ⟨A3, μ3, S3, F3⟩ := S2.entry (fun h => (hy h).1) hrd
      rw [hl2] at S3 F3
      rw [← l.gi.law y] at S3 F3
      have hJ' : J k a2 w2 := ⟨A3, μ3, l.gi.of y, hit, S3, F1.trans (F2.trans F3)⟩
      refine ⟨⟨k, hJ'⟩, ?_⟩
      have h1 : ms a2 w2 = Classical.choose (zmV ⟨k, hJ'⟩) := dif_pos ⟨k, hJ'⟩
      have h2 := (Classical.choose_spec (zmV (p := fun k => J k a2 w2) ⟨k, hJ'⟩)).2 k hJ'
      show ms a2 w2 < ms a1 w1
      omega
    | exit j =>
      simp only at hK
      split at hK
      rotate_left
      · cases hK
      rename_i hj
      have hj := Nat.eq_of_beq_eq_true hj
      subst hj
      simp only [Option.map_eq_some_iff] at hK
      obtain ⟨⟨y, ρ, fz⟩, hrd, rfl⟩ := hK
      obtain ⟨A3, μ3, S3, F3⟩ := S2.entry (fun h => (hy h).2.1) hrd
      rw [hl2] at S3 F3
      rw [← l.gb.law y] at S3 F3
      simp only [Option.some.injEq] at hit
      subst hit
      exact hQ A3 μ3 w2 a2 ⟨S3, F1.trans (F2.trans F3)⟩
    | ret =>
      simp only [Option.map_eq_some_iff] at hK
      obtain ⟨⟨y, ρ, fz⟩, hrd, rfl⟩ := hK
      obtain ⟨A3, μ3, S3, F3⟩ := S2.entry (fun h => (hy h).2.2) hrd
      rw [hl2] at S3 F3
      rw [← l.gr.law y] at S3 F3
      simp only [Option.some.injEq] at hit
      subst hit
      exact hQ A3 μ3 w2 a2 ⟨S3, F1.trans (F2.trans F3)⟩
end
end Go.Pe
namespace Go.Pe
variable {E : yj}
section
variable {C : Cfg E} {P : Program} {G : Nat → Prop} {W0 : World}
theorem Vz (hP : C.P = P) (hT : yD E.leaves C.P C.tab = true) (hS : Zo C G W0) (hyl : C.yl = false) (hm : P.follows .mixedOrders = true) {ro : Option Nat} {n : Nat} : ∀ c : Code, zdV c = true → ∀ {R : Type} {r : R} {K : Ex → List (zd E) → List (Blk E) → Option R} {A0 : Nat → Prop} {μ : Nat → Loc} {H : List (Blk E)} {w : World} {env : List (zd E)} {a : Act} {Q : Exit → Act → World → Prop},
    St (C := C) (P := P) G W0 none A0 μ H w env a → exec C c R env H K = some r →
    (∀ ex env' H' μ' w' a', St (C := C) (P := P) G W0 none A0 μ' H' w' env' a' → Mid false A0 μ H w A0 μ' H' w' → env'.length = env.length → K ex env' H' = some r → Q (zjR ex) a' w') → c.wpIn (u7 ro) n P Q a w
  | .skip, _ => fun S h hQ => wpIn_skip (hQ .normal _ _ _ _ _ S Mid.refl rfl h)
  | .region rid ops draw, _ => by
    intro S h hQ
    simp only [exec, zsR, Y6, zre, zok, hyl, Bool.false_and, Bool.false_eq_true, if_false] at h
    have e : ∀ H : List (Blk E), ze (H ++ List.replicate (zo7 ops + 1) .free) = ze H := fun H => zoY H _
    cases draw with
    | true =>
      simp only [if_true] at h
      split at h
      rotate_left
      · cases h
      rename_i hreg
      refine wpIn_region_any hm ?_
      refine zkk hP hyl hT hS hreg ((S.congr (e _)).drew) h ?_
      intro env' H' A1 μ' w' a' S' T hA hlen hk
      obtain rfl := hA rfl
      exact hQ .normal _ _ _ _ _ S' (Mid.long (e _) (Mid.trans zI.drew.mid T)) hlen hk
    | false =>
      simp only [Bool.false_eq_true, if_false] at h
      refine wpIn_region ?_
      rw [List.range_eq_range', ← Array.length_toList]
      refine zkL (yk := none) hP hT hS hyl (fun h => by cases h) ops.toList 0 _ (fun k o hk => by simpa using hk) (fun h => by cases h) (S.congr (e _)) h ?_
      intro env' H' A1 μ' w' a' S' T hA hlen hk
      obtain rfl := hA rfl
      exact hQ .normal _ _ _ _ _ S' (Mid.long (e _) T) hlen hk
  | .seq x y, hf => by
    intro S h hQ
    simp only [exec] at h
    simp only [zdV, Bool.and_eq_true] at hf
    refine wpIn_seq (Vz hP hT hS hyl hm x hf.1 S h ?_)
    intro ex env' H' μ' w' a' S' T hl hk
    cases ex with
    | normal => exact Vz hP hT hS hyl hm y hf.2 S' hk (fun ex env2 H2 μ2 w2 a2 S2 T2 hl2 hk2 => hQ ex _ _ _ _ _ S2 (T.trans T2) (hl2.trans hl) hk2)
    | exit id => exact hQ (.exit id) _ _ _ _ _ S' T hl hk
    | ret => exact hQ .ret _ _ _ _ _ S' T hl hk
  | .cond c x y, hf => by
    intro S h hQ
    simp only [exec] at h
    simp only [zdV, Bool.and_eq_true] at hf
    split at h
    rotate_left
    · cases h
    rename_i t hc
    have hv := S.eval c
    rw [hc] at hv
    have hv := zkw hv
    cases t with
    | true => exact wpIn_cond_true hv (Vz hP hT hS hyl hm x hf.1 S h hQ)
    | false => exact wpIn_cond_false hv (Vz hP hT hS hyl hm y hf.2 S h hQ)
  | .block id x, hf => by
    intro S h hQ
    simp only [exec] at h
    refine wpIn_block (Vz hP hT hS hyl hm x hf S h ?_)
    intro ex env' H' μ' w' a' S' T hl hk
    cases ex with
    | normal => exact hQ .normal _ _ _ _ _ S' T hl hk
    | exit j =>
      simp only at hk
      split at hk
      · rename_i hj
        have hj := Nat.eq_of_beq_eq_true hj
        simp only [zjR, Exit.inBlock, hj, if_true]
        exact hQ .normal _ _ _ _ _ S' T hl hk
      · rename_i hj
        have hj : j ≠ id := fun e => hj (by subst e; simp)
        simp only [zjR, Exit.inBlock, if_neg hj]
        exact hQ (.exit j) _ _ _ _ _ S' T hl hk
    | ret => exact hQ .ret _ _ _ _ _ S' T hl hk
  | .exit id, _ => by
    intro S h hQ
    simp only [exec] at h
    exact wpIn_exit (hQ (.exit id) _ _ _ _ _ S Mid.refl rfl h)
  | .loop _, hf => by cases hf
  | .ret, hf => by cases hf
  | .rangeFunc .., hf => by cases hf
  | .scope _, hf => by cases hf
  | .label _, hf => by cases hf
  | .goto _, hf => by cases hf
  | .refuse _, hf => by cases hf
variable {A0 : Nat → Prop} {μ : Nat → Loc} {H : List (Blk E)} {w : World} {env : List (zd E)} {a : Act}
theorem St.turn {A1 Ch : Nat → Prop} {w' : World} (S : St (C := C) (P := P) G W0 none A0 μ H w env a) (hmem : ∀ id b o n c, yV (ze H id) = true → μ id = .blk b o n c → ¬ Ch b) (q : w.heap.size ≤ w'.heap.size) (hs : ∀ b, b < w.heap.size → ¬ Ch b → w'.heap[b]? = w.heap[b]?) (hch : ∀ b, Ch b → A0 b ∧ ¬ Kb b)
    (h2 : ∀ b, b < w.heap.size → A1 b → A0 b) (h3 : ∀ b, A1 b → b < w'.heap.size) (hK : ∀ b, Kb b → A1 b) (hG : ∀ g, G g → ¬ Ch g ∧ A1 g) (hM : ∀ d ∈ a.defers, ∀ b, d.target = .collected b → ¬ Ch b ∧ (A0 b → A1 b)) : St (C := C) (P := P) G W0 none A1 μ H w' env a := by
  have hav : ∀ b, b < w.heap.size → ¬ Av A0 μ H b → w'.heap[b]? = w.heap[b]? ∧ ¬ Av A1 μ H b := fun b hb hA => ⟨hs b hb (fun h => hA (.inl (hch b h))), fun h => h.elim (fun h => hA (.inl ⟨h2 b hb h.1, h.2⟩)) (fun h => hA (.inr h))⟩
  have repm : ∀ {p : zd E} {v : Value}, Rp E A0 μ H w p v → Rp E A1 μ H w' p v := fun h => h.mono q hav (fun id hu => ⟨hu, rfl⟩)
  have repTm : ∀ {τ : Ty} {v : Value} {x : Den E.T τ}, z8 E w (Av A0 μ H) τ v x → z8 E w' (Av A1 μ H) τ v x := fun h => h.mono q hav
  refine ⟨⟨h3, fun g hg => ⟨(hG g hg).2, (hs g (S.wd.low g (S.wd.glob g hg).1) (hG g hg).1).trans (S.wd.glob g hg).2⟩, hK⟩, ⟨fun id => ?_, S.sim.inj, fun id b o n c ho hμ => ?_⟩, S.size, fun t p h => repm (S.rep t p h), ⟨fun d hdm => ?_, S.marks.2⟩, fun h => (by cases h), fun k hk => (by cases hk)⟩
  · have r := S.sim.ok id
    have hk' : ∀ b o n c, yV (ze H id) = true → μ id = .blk b o n c → w'.heap[b]? = w.heap[b]? := fun b o n c hm hμ =>
      hs b (xq.lt (S.sim.ok id) hm hμ) (hmem id b o n c hm hμ)
    generalize μ id = l at r hk'
    generalize ze H id = B at r hk'
    cases B with
    | free => trivial
    | dead => trivial
    | box wr cs =>
      obtain ⟨b, len, cap, c, hl, hbox, hsz', hr⟩ := r
      exact ⟨b, len, cap, c, hl, hbox.keep (hk' b 0 len cap rfl hl), hsz', fun j hj => ⟨repm (hr j hj).1, (hr j hj).2⟩⟩
    | row wr e xs =>
      rcases r with ⟨b, off, cap, c, vs, hl, hbox, h1, h2, h3, h4⟩ | ⟨h1, a, h2⟩
      · exact .inl ⟨b, off, cap, c, vs, hl, hbox.keep (hk' b off xs.length cap rfl hl), h1, h2, h3, fun i hi => repTm (h4 i hi)⟩
      · exact .inr ⟨h1, a, h2⟩
    | rowh e xs n' k =>
      obtain ⟨b, off, cap, c, vs, hl, hbox, h1, h2, h3, h4, h5, h6⟩ := r
      exact ⟨b, off, cap, c, vs, hl, hbox.keep (hk' b off xs.length cap rfl hl), h1, h2, h3, h4, fun i hi hn => repTm (h5 i hi hn), repm h6⟩
    | map wr es =>
      obtain ⟨b, ms, clock, hl, hm, hsz', hr⟩ := r
      exact ⟨b, ms, clock, hl, (hk' b 0 0 0 rfl hl).trans hm, hsz', fun j hj => ⟨repm (hr j hj).1, repm (hr j hj).2⟩⟩
  · have := S.sim.out id b o n c ho hμ
    exact ⟨fun h => this.1 (h2 b this.2 h), Nat.lt_of_lt_of_le this.2 q⟩
  · obtain ⟨D, e1, e2, e3, e4⟩ := S.marks.1 d hdm
    exact ⟨D, e1, (hs D (Array.getElem?_eq_some_iff.1 e2).1 (hM d hdm D (by rw [e1])).1).trans e2, (hM d hdm D (by rw [e1])).2 e3, e4⟩
theorem zN.more {A1 : Nat → Prop} {w' : World} (S : zN A0 μ H w) (q : w.heap.size ≤ w'.heap.size) (hs : ∀ b, b < w.heap.size → w'.heap[b]? = w.heap[b]?) (h2 : ∀ b, b < w.heap.size → A1 b → A0 b) :
    zN A1 μ H w' ∧ ∀ {p : zd E} {v : Value}, Rp E A0 μ H w p v → Rp E A1 μ H w' p v := by
  have hav : ∀ b, b < w.heap.size → ¬ Av A0 μ H b → w'.heap[b]? = w.heap[b]? ∧ ¬ Av A1 μ H b := fun b hb hA => ⟨hs b hb, fun h => h.elim (fun h => hA (.inl ⟨h2 b hb h.1, h.2⟩)) (fun h => hA (.inr h))⟩
  have repm : ∀ {p : zd E} {v : Value}, Rp E A0 μ H w p v → Rp E A1 μ H w' p v := fun h => h.mono q hav (fun id hu => ⟨hu, rfl⟩)
  have repTm : ∀ {τ : Ty} {v : Value} {x : Den E.T τ}, z8 E w (Av A0 μ H) τ v x → z8 E w' (Av A1 μ H) τ v x := fun h => h.mono q hav
  refine ⟨⟨fun id => ?_, S.inj, fun id b o n c ho hμ => ?_⟩, repm⟩
  · have r := S.ok id
    have hk' : ∀ b o n c, yV (ze H id) = true → μ id = .blk b o n c → w'.heap[b]? = w.heap[b]? := fun b o n c hm hμ => hs b (xq.lt (S.ok id) hm hμ)
    generalize μ id = l at r hk'
    generalize ze H id = B at r hk'
    cases B with
    | free => trivial
    | dead => trivial
    | box wr cs =>
      obtain ⟨b, len, cap, c, hl, hbox, hsz', hr⟩ := r
      exact ⟨b, len, cap, c, hl, hbox.keep (hk' b 0 len cap rfl hl), hsz', fun j hj => ⟨repm (hr j hj).1, (hr j hj).2⟩⟩
    | row wr e xs =>
      rcases r with ⟨b, off, cap, c, vs, hl, hbox, h1, h2, h3, h4⟩ | ⟨h1, a, h2⟩
      · exact .inl ⟨b, off, cap, c, vs, hl, hbox.keep (hk' b off xs.length cap rfl hl), h1, h2, h3, fun i hi => repTm (h4 i hi)⟩
      · exact .inr ⟨h1, a, h2⟩
    | rowh e xs n' k =>
      obtain ⟨b, off, cap, c, vs, hl, hbox, h1, h2, h3, h4, h5, h6⟩ := r
      exact ⟨b, off, cap, c, vs, hl, hbox.keep (hk' b off xs.length cap rfl hl), h1, h2, h3, h4, fun i hi hn => repTm (h5 i hi hn), repm h6⟩
    | map wr es =>
      obtain ⟨b, ms, clock, hl, hm, hsz', hr⟩ := r
      exact ⟨b, ms, clock, hl, (hk' b 0 0 0 rfl hl).trans hm, hsz', fun j hj => ⟨repm (hr j hj).1, repm (hr j hj).2⟩⟩
  · have := S.out id b o n c ho hμ
    exact ⟨fun h => this.1 (h2 b this.2 h), Nat.lt_of_lt_of_le this.2 q⟩
theorem zrM {Sh : xB} (hb : Sh.blks.all BK.owns = true) (ps : List (zd E)) : ∀ j, yV (ze (yo id Sh ps).2 j) = true → Zi (ze (yo id Sh ps).2 j) = true := by
  have one : ∀ (b : BK) (qs : List (zd E)), b.owns = true → yV (xY id b qs).1 = true → Zi (xY id b qs).1 = true := by
    intro b qs hb hm
    cases b with
    | box wr ks => exact hb
    | map es => cases hb
    | gone => cases hm
    | row wr e =>
      cases qs with
      | nil => cases hm
      | cons q qs =>
        simp only [xY] at hm ⊢
        split
        · split
          · rfl
          · simp_all [yV]
        · simp_all [yV]
  have key : ∀ (bs : List BK) (qs : List (zd E)) (j : Nat), bs.all BK.owns = true → yV (ze (ym id bs qs) j) = true → Zi (ze (ym id bs qs) j) = true := by
    intro bs
    induction bs with
    | nil => intro qs j _ h; cases h
    | cons b bs ih =>
      intro qs j h hm
      simp only [List.all_cons, Bool.and_eq_true] at h
      cases j with
      | zero => exact one b qs h.1 hm
      | succ j => exact ih _ j h.2 hm
  exact fun j => key _ _ j hb
end
end Go.Pe
namespace Go.Pe
variable {E : yj}
def Yv (P : Program) (G : Nat → Prop) (W0 : World) (g : FuncId) (it : u6 E) : Prop := Zd P g = true ∧
  ∀ (x : HL E.T it.inn.holes) (ys : List (Den E.T it.e)), it.F x = some ys → ∃ Cg : Cfg E, ∀ (k : YK { Cg with ye := it.e, yd := ys } P G W0) {A0 : Nat → Prop} {μ : Nat → Loc} {w : World} {lb : List Value} {A : Nat → Prop} (m : Nat),
    Wd G W0 A0 w → zN A0 μ (yo _root_.id it.inn (HL.toP it.inn.holes x)).2 w → RL (Rp E A0 μ (yo _root_.id it.inn (HL.toP it.inn.holes x)).2 w) (yo _root_.id it.inn (HL.toP it.inn.holes x)).1 lb →
    k.J 0 A (Lv μ (yo _root_.id it.inn (HL.toP it.inn.holes x)).2) w → (∀ b, A b → A0 b) →
    CallsIn (u7 none) m P g (#[.func (.yield k.y.toNat) #[] #[]] ++ lb.toArray) w fun e w' => (∃ v, e = .returned v) ∧ ∃ A' L', k.J ys.length A' L' w'
theorem zl0 (w : World) (o : Obj) {b : Nat} (h : b < w.heap.size) : (w.alloc o).heap[b]? = w.heap[b]? := by
  show (w.heap.push o)[b]? = _
  rw [Array.getElem?_push, if_neg (by omega)]
theorem zmF {A B : Type} {f : B → A → Option A} : ∀ (xs ys : List B) (a : A), Yc f (xs ++ ys) a = (Yc f xs a).bind (Yc f ys)
  | [], ys, a => rfl
  | x :: xs, ys, a => by
    simp only [List.cons_append, Yc]
    cases f x a with
    | none => rfl
    | some b => exact zmF xs ys b
theorem zvj {A B : Type} {f : B → A → Option A} {ys : List B} {a z zf : A} {i : Nat} {y : B} (h : Yc f ys a = some zf) (hi : ys[i]? = some y) (hz : Yc f (ys.take i) a = some z) : ∃ z', f y z = some z' ∧ Yc f (ys.take (i + 1)) a = some z' := by
  obtain ⟨hlt, rfl⟩ := List.getElem?_eq_some_iff.1 hi
  have e1 : ys.take (i + 1) = ys.take i ++ [ys[i]] := by rw [List.take_add_one, hi]; rfl
  have e2 : ys = ys.take i ++ (ys[i] :: ys.drop (i + 1)) := by rw [← List.drop_eq_getElem_cons hlt, List.take_append_drop]
  rw [e2, zmF, hz] at h
  simp only [Option.bind_some, Yc, Option.bind_eq_some_iff] at h
  obtain ⟨z', h1, _⟩ := h
  refine ⟨z', h1, ?_⟩
  rw [e1, zmF, hz]
  simp only [Option.bind_some, Yc, h1]
section
variable {C : Cfg E} {P : Program} {G : Nat → Prop} {W0 : World} {A0 : Nat → Prop} {μ : Nat → Loc} {H : List (Blk E)} {w : World} {env : List (zd E)} {a : Act}
theorem St.entryA (S : St (C := C) (P := P) G W0 none A0 μ H w env a) {l : List Nat} {Sh : xB} {x : HL E.T Sh.holes} {ρ : Ren} {fz : List Nat} {kp : Ren} {Ac : Nat → Prop} (ab : zq3 E A0 μ H w Sh x ρ fz (l.map fun t => a.tmps.getD t undef) Ac) (hle : kp.le ρ) :
    St (C := C) (P := P) G W0 none Ac (ρ.loc μ) (Pe.entry env.length l Sh x).2 w (Pe.entry env.length l Sh x).1 a ∧ Far false kp A0 μ H w Ac (ρ.loc μ) (Pe.entry env.length l Sh x).2 w := by
  obtain ⟨h1, h2⟩ := zrr env.length l _ ab.rep
  have keepk : ∀ k, kp.get k = some (some k) → Us (Pe.entry env.length l Sh x).2 k ∧ ρ.loc μ k = μ k := fun k hk => by
    have hg := hle k _ hk
    obtain ⟨b, hb1, hb2⟩ := ab.under k _ hg
    have := ab.bc k b hb1
    rw [if_neg (by simp [hb2])] at this
    obtain ⟨y, hy, hbc⟩ := this
    rw [hg] at hy; injection hy with hy; subst hy
    have hmem : yV (ze (yo id Sh (HL.toP Sh.holes x)).2 k) = true := hbc.2.1
    exact ⟨yg hmem, by simp only [Ren.loc, hg]⟩
  refine ⟨⟨⟨fun b hb => ?_, fun g hg => ⟨ab.up g (S.wd.glob g hg).1, (S.wd.glob g hg).2⟩, fun b hb => ab.up b (S.wd.kb b hb)⟩, ab.sim, S.size.trans h1.symm, h2, S.marks.step (fun _ _ _ => rfl) ab.up, S.nomark, fun k hk => by cases hk⟩, ⟨z7.refl _, fun _ _ _ _ => rfl, fun b _ hb => ab.lv b hb, ab.up, fun _ b _ h => ab.down b h, fun k hk _ => keepk k hk⟩⟩
  rcases ab.down b hb with h | ⟨id, o, n, c, hl, hm⟩
  · exact S.wd.low b h
  · exact (S.sim.out id b o n c (yO hl) hm).2
theorem zq3.mem {Sh : xB} {x : HL E.T Sh.holes} {ρ : Ren} {fz : List Nat} {vs : List Value} {Ac : Nat → Prop} (ab : zq3 E A0 μ H w Sh x ρ fz vs Ac) {j b o n c : Nat} (hm : yV (ze (yo id Sh (HL.toP Sh.holes x)).2 j) = true) (hl : ρ.loc μ j = .blk b o n c) :
    ∃ id, ρ.get j = some (some id) ∧ μ id = .blk b o n c ∧ yV (ze H id) = true ∧ (yL (ze (yo _root_.id Sh (HL.toP Sh.holes x)).2 j) = true → yL (ze H id) = true) := by
  have hlt := xA (yg hm)
  rw [ab.len] at hlt
  have := ab.bc j _ (List.getElem?_eq_getElem hlt)
  split at this
  · rw [this] at hm; cases hm
  · obtain ⟨y, hy, hbc⟩ := this
    cases y with
    | none => simp only [Ren.loc, hy] at hl; cases hl
    | some id =>
      simp only [Ren.loc, hy] at hl
      exact ⟨id, hy, hl, hbc.2.2.1, hbc.2.2.2.1⟩
theorem Mid.rep {A1 : Nat → Prop} {μ' : Nat → Loc} {H' : List (Blk E)} {w' : World} (m : Mid false A0 μ H w A0 μ' H' w') {p : zd E} {v : Value} (h : Rp E A0 μ H w p v) : Rp E A0 μ' H' w' p v :=
  h.mono m.q.size (fun b hb hA => ⟨m.block rfl b hb (fun hl => hA (.inr hl)), fun hA' => hA'.elim (fun h => hA (.inl h)) (fun hl => hA (.inr (m.lv b hb hl)))⟩) m.used
theorem St.mark (S : St (C := C) (P := P) G W0 none A0 μ H w env a) {D : Nat} (hD : w.heap[D]? = some (.deferred (some []))) (hl : A0 D) (hg : ¬ G D) (hne : ∀ d ∈ a.defers, d.target ≠ .collected D) : St (C := C) (P := P) G W0 none A0 μ H w env { a with defers := { target := .collected D, args := #[] } :: a.defers } := by
  refine ⟨S.wd, S.sim, S.size, S.rep, ⟨fun d hd => ?_, List.pairwise_cons.2 ⟨fun d hd e => hne d hd e.symm, S.marks.2⟩⟩, fun h => (by cases h), fun k hk => (by cases hk)⟩
  rcases List.mem_cons.1 hd with rfl | hd
  · exact ⟨D, rfl, hD, hl, hg⟩
  · exact S.marks.1 d hd
theorem St.clear (S : St (C := C) (P := P) G W0 none A0 μ H w env a) : St (C := C) (P := P) G W0 none A0 μ H w env { a with defers := [] } :=
  ⟨S.wd, S.sim, S.size, S.rep, ⟨fun d hd => by simp at hd, List.Pairwise.nil⟩, fun h => (by cases h), fun k hk => (by cases hk)⟩
theorem zt8 (hP : C.P = P) (hT : yD E.leaves C.P C.tab = true) (hS : Zo C G W0) (hyl : C.yl = false) (hm : P.follows .mixedOrders = true) (hI : ∀ g it, C.iters g = some it → Yv P G W0 g it) {f : Operand} {ps : Array Tmp} {as body : Code}
    {R : Type} {r : R} {K : Ex → List (zd E) → List (Blk E) → Option R} {Q : Exit → Act → World → Prop} {m : Nat}
    (S : St (C := C) (P := P) G W0 none A0 μ H w env a) (h : exec C (.rangeFunc f ps as body) R env H K = some r)
    (hQ : ∀ env' H' A1 μ' w' a', St (C := C) (P := P) G W0 none A1 μ' H' w' env' a' → env'.length = env.length → Far false C.kept A0 μ H w A1 μ' H' w' → K .normal env' H' = some r → Q .normal a' w') : (Code.rangeFunc f ps as body).wpIn (u7 none) m P Q a w := by
  simp only [exec] at h
  split at h
  rotate_left
  · cases h
  rename_i g caps t hev hps
  split at h
  rotate_left
  · cases h
  rename_i it l hit hl
  split at h
  rotate_left
  · cases h
  rename_i x ρ fz hrd
  simp only [Option.bind_eq_some_iff] at h
  obtain ⟨ys, hys, h⟩ := h
  split at h
  rotate_left
  · cases h
  rename_i z0 ρ2 fz2 hrd2
  split at h
  rotate_left
  · cases h
  rename_i hc
  simp only [Bool.and_eq_true] at hc
  obtain ⟨⟨⟨⟨⟨hfa, hfb⟩, hap⟩, hap2⟩, _⟩, hown⟩ := hc
  simp only [Option.bind_eq_some_iff] at h
  obtain ⟨zf, hzf, h⟩ := h
  have hf := S.eval f
  rw [hev] at hf
  generalize hfv : a.eval f = fv at hf
  cases hf with
  | fn _ _ cs hsz hcs =>
  obtain ⟨hcl, hcon⟩ := hI g it hit
  obtain ⟨Cg, hcon⟩ := hcon x ys hys
  obtain ⟨⟨Ac, ab⟩, _⟩ := VZ S.sim (RL.of_idx hsz hcs) hrd
  obtain ⟨T1, S1, u1, u2, u3⟩ := zmh fz S.sim ab.rows
  have Sm := S.trans T1 S1
  obtain ⟨⟨A1, ab2⟩, hle2⟩ := VZ Sm.sim (ziq Sm l.slots) hrd2
  rw [← l.gi.law z0] at ab2
  obtain ⟨S2, F2⟩ := Sm.entryA ab2 hle2
  obtain ⟨D, hD⟩ : ∃ D, D = w.heap.size := ⟨_, rfl⟩
  let Hi : List (Blk E) := (yo _root_.id it.inn (HL.toP it.inn.holes x)).2
  let He : l.gi.G → List (Blk E) := fun z => (Pe.entry env.length l.slots l.inn (l.gi.to z)).2
  let Ee : l.gi.G → List (zd E) := fun z => (Pe.entry env.length l.slots l.inn (l.gi.to z)).1
  let LvI : Nat → Prop := Lv (ρ.loc μ) Hi
  have F1 : ∀ b, LvI b → ∃ id o n c, id ∈ ρ.ids ∧ id ∉ fz ∧ yL (ze H id) = true ∧ μ id = .blk b o n c := by
    rintro b ⟨j, o, n, c, hl, hm⟩
    obtain ⟨id, g1, g2, g3, g4⟩ := ab.mem (yt hl) hm
    exact ⟨id, o, n, c, Ren.get_ids g1, ab.apart j id g1, g4 hl, g2⟩
  have memH : ∀ id, yV (ze (upd H fz) id) = true → yV (ze H id) = true := by
    intro id hm
    by_cases hid : id ∈ fz
    · obtain ⟨wr, e, l', hB⟩ := ab.rows id hid; rw [hB]; rfl
    · rw [← u1 id hid]; exact hm
  have F5 : ∀ b, LvI b → ∀ j o n c, yV (ze (He (l.gi.of z0)) j) = true → ρ2.loc μ j ≠ .blk b o n c := by
    intro b hb j o n c hm hl
    obtain ⟨id', o', n', c', g1, g2, g3, g4⟩ := F1 b hb
    obtain ⟨id, k1, k2, k3, _⟩ := ab2.mem hm hl
    exact S.sim.inj id' id b o' n' c' b o n c (ziu hap g1 (Ren.get_ids k1)) g3 (memH id k3) g4 k2 rfl
  have F6 : ∀ b, LvI b → A1 b := by
    intro b hb
    obtain ⟨id', o', n', c', g1, g2, g3, g4⟩ := F1 b hb
    have hlv : Lv μ (upd H fz) b := ⟨id', o', n', c', by rw [u1 id' g2]; exact g3, g4⟩
    rcases ab2.rest b hlv (fun id hid o n c hμ => by
      obtain ⟨wr, e, l', hB⟩ := ab2.rows id hid
      exact S.sim.inj id' id b o' n' c' b o n c (ziu hap2 g1 hid) g3 (memH id (by rw [hB]; rfl)) g4 hμ rfl) with h | ⟨j, o, n, c, h1, h2⟩
    · exact h
    · exact absurd h2 (F5 b hb j o n c (yt h1))
  have F7 : ∀ b, A1 b ∨ Lv (ρ2.loc μ) (He (l.gi.of z0)) b → (Ac b ∨ LvI b) ∧ b < D := by
    have fromLv : ∀ b, Lv μ (upd H fz) b → (Ac b ∨ LvI b) ∧ b < D := by
      rintro b ⟨id, o, n, c, hl, hμ⟩
      have hnf : id ∉ fz := fun hid => by
        obtain ⟨e, l', hB⟩ := u2 id hid
        rw [hB] at hl; cases hl
      rw [u1 id hnf] at hl
      refine ⟨ab.rest b ⟨id, o, n, c, hl, hμ⟩ (fun id' hid' o' n' c' hμ' => ?_), by rw [hD]; exact (S.sim.out id b o n c (yO hl) hμ).2⟩
      obtain ⟨wr, e, l', hB⟩ := ab.rows id' hid'
      exact S.sim.inj id id' b o n c b o' n' c' (fun e => hnf (e ▸ hid')) hl (by rw [hB]; rfl) hμ hμ' rfl
    rintro b (h | h)
    · rcases ab2.down b h with h | h
      · exact ⟨.inl (ab.up b h), by rw [hD]; exact S.wd.low b h⟩
      · exact fromLv b h
    · exact fromLv b (ab2.lv b h)
  have hLvH : ∀ b, LvI b → Lv μ H b := fun b hb => ab.lv b hb
  have hAcD : ∀ b, Ac b → b < D := fun b hb => by
    rw [hD]
    rcases ab.down b hb with h | ⟨id, o, n, c, hl, hm⟩
    · exact S.wd.low b h
    · exact (S.sim.out id b o n c (yO hl) hm).2
  refine wpIn_rangeFunc ?_
  intro fn _
  obtain ⟨rec, hrec⟩ : ∃ rec : LoopState → Loop, rec = fun st => { state := st, pending := none, fn, tmps := a.tmps, params := ps, assign := as, body, defers := w.heap.size } := ⟨_, rfl⟩
  obtain ⟨w1, hw1⟩ : ∃ w1, (w.alloc (.deferred (some []))).alloc (.loop (rec .ready)) = w1 := ⟨_, rfl⟩
  have hps' : ps = #[t] := by
    have : ps.toList = [t] := hps
    rw [← this]
  have hsize1 : w1.heap.size = D + 2 := by rw [← hw1, hD]; simp
  have hold : ∀ b, b < D → w1.heap[b]? = w.heap[b]? := fun b hb => by
    rw [← hw1]
    rw [zl0 _ _ (by simp; omega), zl0 _ _ (by omega)]
  have hL1 : w1.heap[D + 1]? = some (.loop (rec .ready)) := by
    rw [← hw1, hD]; have := World.alloc_heap_new (w.alloc (.deferred (some []))) (.loop (rec .ready)); rwa [World.size_alloc] at this
  have hD1 : w1.heap[D]? = some (.deferred (some [])) := by
    rw [← hw1, hD]; exact (zl0 _ _ (by simp)).trans (World.alloc_heap_new w _)
  have hq1 : z7 w w1 := by rw [← hw1]; exact (z7.alloc w _).trans (z7.alloc _ _)
  have hyl0 : ((D + 1 : Nat) : Int).toNat = D + 1 := Int.toNat_natCast _
  let As : Nat → Prop := fun b => Ac b ∨ b = D ∨ b = D + 1
  let Rd := zjQ C (exec C as) (exec C body) env.length l t it.e
  have notBlk : ∀ {Ax : Nat → Prop} {μx : Nat → Loc} {Hx : List (Blk E)} {W : World} {ex : List (zd E)} {ax : Act}, St (C := C) (P := P) G W0 none Ax μx Hx W ex ax → (∃ st, W.heap[D + 1]? = some (.loop (rec st))) →
      (∀ id b o n c, yV (ze Hx id) = true → μx id = .blk b o n c → b ≠ D + 1) ∧ (∀ g, G g → g ≠ D + 1) ∧ ∀ d ∈ ax.defers, ∀ b, d.target = .collected b → b ≠ D + 1 := by
    intro Ax μx Hx W ex ax Sx ⟨st, hl⟩
    refine ⟨fun id b o n c hm hμ e => ?_, fun g hg e => ?_, fun d hd b ht e => ?_⟩
    · subst e
      have r := Sx.sim.ok id
      rw [hμ] at r
      cases hB : ze Hx id with
      | free => rw [hB] at hm; cases hm
      | dead => rw [hB] at hm; cases hm
      | box wr cs =>
        rw [hB] at r
        obtain ⟨b, len, cap, cc, e, ⟨t', f', hh, _⟩, _⟩ := r
        injection e with e; subst e; rw [hl] at hh; cases hh
      | row wr e xs =>
        rw [hB] at r
        rcases r with ⟨b, off, cap, cc, vs, e, ⟨t', f', hh, _⟩, _⟩ | ⟨_, _, e⟩
        · injection e with e; subst e; rw [hl] at hh; cases hh
        · cases e
      | rowh e xs n' k =>
        rw [hB] at r
        obtain ⟨b, off, cap, cc, vs, e, ⟨t', f', hh, _⟩, _⟩ := r
        injection e with e; subst e; rw [hl] at hh; cases hh
      | map wr es =>
        rw [hB] at r
        obtain ⟨b, ms, clock, e, hh, _⟩ := r
        injection e with e; subst e; rw [hl] at hh; cases hh
    · have := S.wd.low _ (S.wd.glob _ hg).1
      omega
    · obtain ⟨D', e1, e2, _⟩ := Sx.marks.1 d hd
      rw [e1] at ht
      injection ht with ht
      subst ht e
      rw [hl] at e2; cases e2
  let J : Nat → (Nat → Prop) → (Nat → Prop) → World → Prop := fun i A L W => ∃ zz, Yc Rd (ys.take i) (l.gi.of z0) = some zz ∧ ∃ (Bx : Nat → Prop) (μx : Nat → Loc), St (C := C) (P := P) G W0 none (fun b => Bx b ∨ L b) μx (He zz) W (Ee zz) a ∧ Far false C.kept A0 μ H w Bx μx (He zz) W ∧
    W.heap[D + 1]? = some (.loop (rec .ready)) ∧ W.heap[D]? = some (.deferred (some [])) ∧ Bx D ∧ Bx (D + 1) ∧ (∀ b, Bx b ∨ Lv μx (He zz) b → A b) ∧ (∀ b, A b → b < W.heap.size) ∧ (∀ b, L b → ¬ A b) ∧ (∀ b, A0 b → Bx b) ∧
    (∀ d ∈ a.defers, ∀ b, d.target = .collected b → ¬ L b) ∧ ∀ b, b < D → L b → LvI b
  have markD : ∀ d ∈ a.defers, ∀ b, d.target = .collected b → b < D := by
    intro d hd b ht
    obtain ⟨D', e1, e2, _⟩ := S.marks.1 d hd
    rw [e1] at ht; injection ht with ht; subst ht
    rw [hD]; exact (Array.getElem?_eq_some_iff.1 e2).1
  have kD : ∀ b, Kb b → b < D := fun b hk => by rw [hD]; exact S.wd.low b (S.wd.kb b hk)
  have low : ∀ {i A L W}, J i A L W → ∀ b, A b → b < W.heap.size := by
    rintro i A L W ⟨zz, _, Bx, μx, _, _, _, _, _, _, _, j8, _⟩ b hb
    exact j8 b hb
  have stable : ∀ {i A L L' W W'}, J i A L W → z7 W W' → (∀ b, b < W.heap.size → ¬ L b → W'.heap[b]? = W.heap[b]?) → (∀ b, b < W.heap.size → L' b → L b) → (∀ b, L' b → b < W'.heap.size ∧ ¬ A b) → J i A L' W' := by
    rintro i A L L' W W' ⟨zz, j0, Bx, μx, j1, j2, j3, j4, j5, j6, j7, j8, j9, j10, j11, j12⟩ hq hs hll hl'
    have hDs : D + 1 < W.heap.size := (Array.getElem?_eq_some_iff.1 j3).1
    refine ⟨zz, j0, Bx, μx, j1.turn (Ch := L) (fun id b o n c hm hμ hL => ?_) hq.size hs (fun b h => ⟨.inr h, fun hk => j9 b h (j7 b (.inl (j10 b (S.wd.kb b hk))))⟩) (fun b hb h => h.elim .inl (fun h => .inr (hll b hb h))) (fun b h => ?_) (fun b hk => .inl (j10 b (S.wd.kb b hk))) (fun g hg => ?_) (fun d hd b ht => ⟨j11 d hd b ht, fun h => h.elim .inl (fun h => absurd h (j11 d hd b ht))⟩), ⟨j2.q.trans hq, fun _ b hb hnl => ?_, j2.lv, j2.up, j2.dn, j2.keep⟩, (hs _ hDs (fun h => j9 _ h (j7 _ (.inl j6)))).trans j3, (hs _ (by omega) (fun h => j9 _ h (j7 _ (.inl j5)))).trans j4, j5, j6, j7, fun b hb => Nat.lt_of_lt_of_le (j8 b hb) hq.size, fun b h => (hl' b h).2, j10, fun d hd b ht h => j11 d hd b ht (hll b (by have := markD d hd b ht; omega) h), fun b hb h => j12 b hb (hll b (by omega) h)⟩
    · exact (j1.sim.out id b o n c (zrM hown _ id hm) hμ).1 (.inr hL)
    · rcases h with h | h
      · exact Nat.lt_of_lt_of_le (j8 b (j7 b (.inl h))) hq.size
      · exact (hl' b h).1
    · have := j10 g (S.wd.glob g hg).1
      exact ⟨fun h => j9 g h (j7 g (.inl this)), .inl this⟩
    · have hb' : b < D := by rw [hD]; exact hb
      rw [hs b (by omega) (fun h => hnl (hLvH b (j12 b hb' h)))]
      exact j2.block rfl b hb hnl
  have yield_ : ∀ {i A L W} (m : Nat) (v : Value) (z : Den E.T it.e), ys[i]? = some z → J i A L W → z8 E W (fun b => (A b ∧ ¬ Kb b) ∨ L b) it.e v z → YieldAt (u7 none) m P (D + 1) #[v] W fun r W' => r = .returned (.bool true) ∧ ∃ A', J (i + 1) A' L W' ∧ (∀ b, A b → A' b) ∧
      (∀ b, A' b → A b ∨ W.heap.size ≤ b) ∧ z7 W W' ∧ (∀ b, b < W.heap.size → ¬ A b ∨ Kb b → W'.heap[b]? = W.heap[b]?) ∧ ∀ g, G g → W'.heap[g]? = W0.heap[g]? := by
    rintro i A L W m v z hz ⟨zz, j0, Bx, μx, j1, j2, j3, j4, j5, j6, j7, j8, j9, j10, j11, j12⟩ hzr
    obtain ⟨z', hz', hfold⟩ := zvj hzf hz j0
    have hz' : zjQ C (exec C as) (exec C body) env.length l t it.e z zz = some z' := hz'
    unfold zjQ at hz'
    have hDs : D + 1 < W.heap.size := (Array.getElem?_eq_some_iff.1 j3).1
    have hpar : (rec .ready).params = #[t] := by rw [hrec]; exact hps'
    have hy := run_yield (P := P) (args := #[v]) j3 (by rw [hpar]; rfl)
    have hfields : (rec .ready).fn = fn ∧ (rec .ready).tmps = a.tmps ∧ (rec .ready).assign = as ∧ (rec .ready).body = body := by rw [hrec]; exact ⟨rfl, rfl, rfl, rfl⟩
    rw [hfields.1, hfields.2.1, hfields.2.2.1, hfields.2.2.2, hpar] at hy
    have htm : ∀ f : Array Value → Tmp × Value → Array Value, (∀ a x y, f a (x, y) = a.setIfInBounds x y) → (#[t].zip #[v]).foldl f a.tmps = a.tmps.setIfInBounds t v := fun f hf => by rw [← Array.foldl_toList]; simp [hf]
    rw [htm _ (fun _ _ _ => rfl)] at hy
    refine ⟨fn, _, as, body, hy, roundIn_of_wpIn (zgW none fn) ?_⟩
    have own : ∀ id, yV (ze (He zz) id) = true → Zi (ze (He zz) id) = true := zrM hown _
    have hlv : ∀ b, Lv μx (He zz) b → b < W.heap.size ∧ ¬ (Bx b ∨ L b) := by
      rintro b ⟨id, o, n, c, hl, hm⟩
      have := j1.sim.out id b o n c (yO hl) hm
      exact ⟨this.2, this.1⟩
    have hzA : z8 E W (Av (fun b => Bx b ∨ L b) μx (He zz)) it.e v z := hzr.less (fun b hb => by
      rcases hb with ⟨h | h, hk⟩ | h
      · exact .inl ⟨j7 b (.inl h), hk⟩
      · exact .inr h
      · exact .inl ⟨j7 b (.inr h), fun hk => (hlv b h).2 (.inl (j10 b (S.wd.kb b hk)))⟩)
    have Sr := (j1.put (p := .v it.e z) (v := v) (.v _ _ _ hzA) (some t) rfl).clear
    refine Vz (ro := some (D + 1)) hP hT hS hyl hm as hfa Sr hz' ?_
    intro ex env1 H1 μ1 w2 a1 S3 M3 hl3 hk3
    cases ex with
    | exit _ => cases hk3
    | ret => cases hk3
    | normal =>
    simp only at hk3
    have hl0 : ¬ Lv μx (He zz) (D + 1) := fun h => (hlv _ h).2 (.inl j6)
    have r2 : w2.heap[D + 1]? = some (.loop (rec .ready)) := (M3.block rfl _ hDs hl0).trans j3
    have hst0 : (rec .ready).state = .ready := by rw [hrec]
    refine ⟨_, run_beginRound (P := P) r2 hst0, ?_⟩
    have ebusy : ({ rec .ready with state := .busy } : Loop) = rec .busy := by rw [hrec]
    rw [ebusy]
    have hs2 : D + 1 < w2.heap.size := (Array.getElem?_eq_some_iff.1 r2).1
    obtain ⟨n1, n2, n3⟩ := notBlk S3 ⟨_, r2⟩
    obtain ⟨w2b, hw2b⟩ : ∃ w2b, w2.putObj (D + 1) (.loop (rec .busy)) = w2b := ⟨_, rfl⟩
    rw [hw2b]
    have o2 : ∀ b, b ≠ D + 1 → w2b.heap[b]? = w2.heap[b]? := fun b hb => by rw [← hw2b]; exact World.putObj_heap_other hb
    have z2 : w2b.heap.size = w2.heap.size := by rw [← hw2b]; simp
    have r2b : w2b.heap[D + 1]? = some (.loop (rec .busy)) := by rw [← hw2b]; exact World.putObj_heap_same hs2
    have q2 : z7 w2 w2b := by rw [← hw2b]; exact ⟨rfl, rfl, rfl, by simp⟩
    have S3b : St (C := C) (P := P) G W0 none (fun b => Bx b ∨ L b) μ1 H1 w2b env1 a1 :=
      S3.turn (Ch := fun b => b = D + 1) n1 (by omega) (fun b hb hne => o2 b hne) (fun b h => by subst h; exact ⟨.inl j6, fun hk => by have := kD _ hk; omega⟩) (fun b hb h => h) (fun b h => by have := S3.wd.low b h; omega) (fun b hk => .inl (j10 b (S.wd.kb b hk))) (fun g hg => ⟨n2 g hg, (S3.wd.glob g hg).1⟩) (fun d hd b ht => ⟨n3 d hd b ht, fun h => h⟩)
    refine Vz (ro := some (D + 1)) hP hT hS hyl hm body hfb S3b hk3 ?_
    intro ex env2 H2 μ2 w3 a2 S4 M4 hl4 hk4
    cases ex with
    | exit _ => cases hk4
    | ret => cases hk4
    | normal =>
    simp only [Option.map_eq_some_iff] at hk4
    obtain ⟨⟨z'', ρ3, fz3⟩, hrd3, rfl⟩ := hk4
    have hlv1 : ¬ Lv μ1 H1 (D + 1) := fun h => hl0 (M3.lv _ hDs h)
    have r3 : w3.heap[D + 1]? = some (.loop (rec .busy)) := (M4.block rfl _ (by omega) hlv1).trans r2b
    have hs3 : D + 1 < w3.heap.size := (Array.getElem?_eq_some_iff.1 r3).1
    have eready : ({ rec .busy with state := .ready, pending := none } : Loop) = rec .ready := by rw [hrec]
    have hend := run_endRound (P := P) none r3
    simp only [Option.isNone_none, if_true] at hend
    rw [eready] at hend
    obtain ⟨w4, hw4⟩ : ∃ w4, w3.putObj (D + 1) (.loop (rec .ready)) = w4 := ⟨_, rfl⟩
    rw [hw4] at hend
    have o4 : ∀ b, b ≠ D + 1 → w4.heap[b]? = w3.heap[b]? := fun b hb => by rw [← hw4]; exact World.putObj_heap_other hb
    have z4 : w4.heap.size = w3.heap.size := by rw [← hw4]; simp
    have q4 : z7 w3 w4 := by rw [← hw4]; exact ⟨rfl, rfl, rfl, by simp⟩
    have qW : z7 W w4 := (M3.q.trans q2).trans (M4.q.trans q4)
    have chain : ∀ b, b < W.heap.size → b ≠ D + 1 → ¬ Lv μx (He zz) b → w3.heap[b]? = W.heap[b]? := by
      intro b hb hne hnl
      have h1 := M3.q.size
      rw [M4.block rfl b (by omega) (fun h => hnl (M3.lv b hb h)), o2 b hne, M3.block rfl b hb hnl]
    have lvc : ∀ b, b < W.heap.size → Lv μ2 H2 b → Lv μx (He zz) b := fun b hb h => M3.lv b hb (M4.lv b (by have := M3.q.size; omega) h)
    have S5 : St (C := C) (P := P) G W0 none (fun b => Bx b ∨ L b) μ2 H2 w3 (Ee zz) a := by
      refine ⟨S4.wd, S4.sim, j1.size, fun t' p hp => (j1.rep t' p hp).mono (by have := M3.q.size; have := M4.q.size; omega) (fun b hb hA => ⟨chain b hb (fun e => hA (.inl ⟨.inl (e ▸ j6), fun hk => by have := kD b hk; omega⟩)) (fun h => hA (.inr h)), fun hA' => hA'.elim (fun h => hA (.inl h)) (fun h => hA (.inr (lvc b hb h)))⟩) (fun id hu => ?_), ⟨fun d hd => ?_, j1.marks.2⟩, fun h => (by cases h), fun k hk => (by cases hk)⟩
      · obtain ⟨e1, e2⟩ := M3.used id hu
        obtain ⟨e3, e4⟩ := M4.used id e1
        exact ⟨e3, e4.trans e2⟩
      · obtain ⟨D', e1, e2, e3, e4⟩ := j1.marks.1 d hd
        have hb := markD d hd D' (by rw [e1])
        exact ⟨D', e1, (chain D' (by omega) (by omega) (fun h => (hlv _ h).2 e3)).trans e2, e3, e4⟩
    obtain ⟨m1, m2, m3⟩ := notBlk S5 ⟨_, r3⟩
    have S6 : St (C := C) (P := P) G W0 none (fun b => Bx b ∨ L b) μ2 H2 w4 (Ee zz) a :=
      S5.turn (Ch := fun b => b = D + 1) m1 (by omega) (fun b hb hne => o4 b hne) (fun b h => by subst h; exact ⟨.inl j6, fun hk => by have := kD _ hk; omega⟩) (fun b hb h => h) (fun b h => by have := S5.wd.low b h; omega) (fun b hk => .inl (j10 b (S.wd.kb b hk))) (fun g hg => ⟨m2 g hg, (S5.wd.glob g hg).1⟩) (fun d hd b ht => ⟨m3 d hd b ht, fun h => h⟩)
    obtain ⟨⟨Ac3, ab3⟩, hle3⟩ := VZ S6.sim (ziq S6 l.slots) hrd3
    rw [← l.gi.law z''] at ab3
    obtain ⟨S7, F7'⟩ := S6.entryA ab3 hle3
    rw [zey] at S7 F7'
    have eA : (fun b => (Ac3 b ∧ ¬ L b) ∨ L b) = Ac3 := by
      funext b
      by_cases hL : L b
      · simp [hL, ab3.up b (.inr hL)]
      · simp [hL]
    have lvn : ∀ b, Lv μ2 H2 b → A b ∨ (W.heap.size ≤ b ∧ b < w4.heap.size) := by
      rintro b h
      by_cases hb : b < W.heap.size
      · exact .inl (j7 b (.inr (lvc b hb h)))
      · obtain ⟨id, o, n, c, hl, hm⟩ := h
        exact .inr ⟨by omega, (S6.sim.out id b o n c (yO hl) hm).2⟩
    have hBL : ∀ b, Bx b → ¬ L b := fun b hb hL => j9 b hL (j7 b (.inl hb))
    refine ⟨_, w4, hend, rfl, fun b => A b ∨ (W.heap.size ≤ b ∧ b < w4.heap.size), ⟨l.gi.of z'', hfold, fun b => Ac3 b ∧ ¬ L b, ρ3.loc μ2, by rw [eA]; exact S7, ⟨j2.q.trans qW, fun _ b hb hnl => ?_, fun b hb h => ?_, fun b h => ⟨ab3.up b (.inl (j10 b h)), hBL b (j10 b h)⟩, fun _ b hb h => ?_, fun k hk hu => ?_⟩, by rw [← hw4]; exact World.putObj_heap_same hs3, ?_, ⟨ab3.up _ (.inl j5), hBL _ j5⟩, ⟨ab3.up _ (.inl j6), hBL _ j6⟩, ?_, ?_, ?_, fun b h => ⟨ab3.up b (.inl (j10 b h)), hBL b (j10 b h)⟩, j11, j12⟩, fun b h => .inl h, fun b h => h.elim .inl (fun h => .inr h.1), qW, fun b hb hnA => ?_, fun g hg => (S6.wd.glob g hg).2⟩
    · have hnx : ¬ Lv μx (He zz) b := fun h => hnl (j2.lv b hb h)
      rw [o4 b (by omega), chain b (by omega) (by omega) hnx]
      exact j2.block rfl b hb hnl
    · exact j2.lv b hb (lvc b (by omega) (ab3.lv b h))
    · rcases ab3.down b h.1 with (h' | h') | h'
      · exact j2.dn rfl b hb h'
      · exact absurd h' h.2
      · exact .inr (j2.lv b hb (lvc b (by omega) h'))
    · obtain ⟨e1, e2⟩ := j2.keep k hk hu
      obtain ⟨e3, e4⟩ := M3.used k e1
      obtain ⟨e5, e6⟩ := M4.used k e3
      obtain ⟨e7, e8⟩ := F7'.keep k hk e5
      exact ⟨e7, e8.trans (e6.trans (e4.trans e2))⟩
    · rw [o4 D (by omega), chain D (by omega) (by omega) (fun h => (hlv _ h).2 (.inl j5))]
      exact j4
    · rintro b (⟨h, hnL⟩ | h)
      · rcases ab3.down b h with (h | h) | h
        · exact .inl (j7 b (.inl h))
        · exact absurd h hnL
        · exact lvn b h
      · exact lvn b (ab3.lv b h)
    · rintro b (h | h)
      · have := j8 b h; have := qW.size; omega
      · exact h.2
    · rintro b hL (h | h)
      · exact j9 b hL h
      · have := j1.wd.low b (.inr hL); omega
    · have hne : b ≠ D + 1 := fun e => hnA.elim (fun hnA => hnA (e ▸ j7 _ (.inl j6))) (fun hk => by have := kD _ hk; omega)
      rw [o4 b hne, chain b hb hne (fun h => hnA.elim (fun hnA => hnA (j7 b (.inr h))) (fun hk => (hlv b h).2 (.inl (j10 b (S.wd.kb b hk)))))]
  let k : YK { Cg with ye := it.e, yd := ys } P G W0 := { y := ((D + 1 : Nat) : Int), J := J, low := low, stable := stable, yield_ := fun m v z hz hJ hr => yield_ m v z hz hJ hr }
  have lvA0 : ∀ b, LvI b → A0 b → False := fun b hb ha => by
    obtain ⟨id, o, n, c, hl, hμ⟩ := hLvH b hb
    exact (S.sim.out id b o n c (yO hl) hμ).1 ha
  have hJ0 : J 0 As LvI w1 := by
    refine ⟨l.gi.of z0, rfl, fun b => (A1 b ∧ ¬ LvI b) ∨ b = D ∨ b = D + 1, ρ2.loc μ, ?_, ⟨hq1, fun _ b hb hnl => hold b (by omega), fun b hb h => T1.lv b hb (ab2.lv b h), fun b h => .inl ⟨ab2.up b h, fun hl => lvA0 b hl h⟩, fun _ b hb h => ?_, fun k hk hu => ?_⟩, hL1, hD1, .inr (.inl rfl), .inr (.inr rfl), ?_, ?_, ?_, fun b h => .inl ⟨ab2.up b h, fun hl => lvA0 b hl h⟩, ?_, fun b _ h => h⟩
    · refine S2.turn (Ch := fun _ => False) (fun _ _ _ _ _ _ _ h => h) hq1.size (fun b hb _ => hold b (by omega)) (fun b h => h.elim) (fun b hb h => ?_) (fun b h => ?_) (fun b hk => .inl (.inl ⟨ab2.up b (S.wd.kb b hk), fun h => lvA0 b h (S.wd.kb b hk)⟩)) (fun g hg => ⟨fun h => h, .inl (.inl ⟨ab2.up g (S.wd.glob g hg).1, fun h => lvA0 g h (S.wd.glob g hg).1⟩)⟩) (fun _ _ b _ => ⟨fun h => h, fun h => (Classical.em (LvI b)).elim .inr (fun hn => .inl (.inl ⟨h, hn⟩))⟩)
      · rcases h with (h | h | h) | h
        · exact h.1
        · omega
        · omega
        · exact F6 b h
      · rcases h with (h | h | h) | h
        · have := (F7 b (.inl h.1)).2; omega
        · omega
        · omega
        · have := (F7 b (.inl (F6 b h))).2; omega
    · rcases h with h | h | h
      · exact (F7 b (.inl h.1)).1.elim (ab.down b) (fun hl => absurd hl h.2)
      · omega
      · omega
    · obtain ⟨e1, e2⟩ := F2.keep k hk (T1.used k hu).1
      exact ⟨e1, e2⟩
    · rintro b ((h | h | h) | ⟨j, o, n, c, h1, h2⟩)
      · exact (F7 b (.inl h.1)).1.elim .inl (fun hl => absurd hl h.2)
      · exact .inr (.inl h)
      · exact .inr (.inr h)
      · exact (F7 b (.inr ⟨j, o, n, c, h1, h2⟩)).1.elim .inl (fun hl => absurd h2 (F5 b hl j o n c (yt h1)))
    · rintro b (h | h | h)
      · have := hAcD b h; omega
      · omega
      · omega
    · rintro b hb (h | h | h)
      · obtain ⟨j, o, n, c, h1, h2⟩ := hb
        exact (ab.sim.out j b o n c (yO h1) h2).1 h
      · have := (F7 b (.inl (F6 b hb))).2; omega
      · have := (F7 b (.inl (F6 b hb))).2; omega
    · intro d hd b ht hl
      obtain ⟨D', e1, e2, e3, _⟩ := S.marks.1 d hd
      rw [e1] at ht; injection ht with ht; subst ht
      exact lvA0 _ hl e3
  refine ⟨D + 1, [{ target := .collected D, args := #[] }], w1, { target := .fn (.func g) cs, args := #[.func (.yield (D + 1)) #[] #[]] }, w1, g, #[.func (.yield (D + 1)) #[] #[]] ++ cs, w1, ?_, ?_, ?_, ?_, fun h => (by rw [ziK] at h; cases h), ?_⟩
  · rw [← hw1, hrec, hD]; exact run_enterLoop_outer _ _ _ _ _
  · simp only [resolve, hfv]
    simp [go_sem, rangeCall, hfv]
  · intro f' _; exact zgW none f'
  · simp only [invoke]
    exact zlH hcl _
  · have hmore := ab.sim.more (A1 := As) hq1.size (fun b hb => hold b (by omega)) (fun b hb h => by
      rcases h with h | h | h
      · exact h
      · omega
      · omega)
    have hcall := hcon k (A0 := As) (μ := ρ.loc μ) (w := w1) (lb := cs.toList) (A := As) (m - 1) ⟨fun b h => low hJ0 b h, fun g hg => ⟨.inl (ab.up g (S.wd.glob g hg).1), (hold g (by rw [hD]; exact S.wd.low g (S.wd.glob g hg).1)).trans (S.wd.glob g hg).2⟩, fun b hk => .inl (ab.up b (S.wd.kb b hk))⟩ hmore.1 (ab.rep.mono fun _ _ => hmore.2) hJ0 (fun _ h => h)
    have hargs : (#[.func (.yield k.y.toNat) #[] #[]] ++ cs.toList.toArray : Array Value) = #[.func (.yield (D + 1)) #[] #[]] ++ cs := by
      show (#[.func (.yield ((D + 1 : Nat) : Int).toNat) #[] #[]] ++ cs.toList.toArray : Array Value) = _
      rw [hyl0]
    rw [hargs] at hcall
    refine hcall.mono ?_
    rintro e w3 ⟨⟨v, rfl⟩, A', L', zz, j0, Bx, μx, j1, j2, j3, j4, j5, j6, j7, j8, j9, j10, j11, j12⟩
    have ez : zz = zf := by
      rw [List.take_length] at j0
      have : some zz = some zf := j0.symm.trans hzf
      injection this
    subst ez
    have hpend : (rec .ready).pending = none := by rw [hrec]
    have hst : (rec .ready).state ≠ .busy := by rw [hrec]; simp
    have hend : (Instr.endLoop (D + 1)).run P w3 = .ok none (w3.putObj (D + 1) (.loop { rec .ready with state := .exhausted })) := by
      rw [run_endLoop j3 hst]
      congr 1
    refine ⟨none, _, hend, ?_⟩
    have hDs : D + 1 < w3.heap.size := (Array.getElem?_eq_some_iff.1 j3).1
    obtain ⟨n1, n2, n3⟩ := notBlk j1 ⟨_, j3⟩
    have S4 : St (C := C) (P := P) G W0 none (fun b => Bx b ∨ L' b) μx (He zz) (w3.putObj (D + 1) (.loop { rec .ready with state := .exhausted })) (Ee zz) a :=
      j1.turn (Ch := fun b => b = D + 1) (fun id b o n c hm hμ => n1 id b o n c hm hμ) (by simp) (fun b hb hne => World.putObj_heap_other hne) (fun b h => by subst h; exact ⟨.inl j6, fun hk => by have := kD _ hk; omega⟩) (fun b hb h => h) (fun b h => by have := j1.wd.low b h; simpa using this) (fun b hk => .inl (j10 b (S.wd.kb b hk))) (fun g hg => ⟨n2 g hg, (j1.wd.glob g hg).1⟩) (fun d hd b ht => ⟨n3 d hd b ht, fun h => h⟩)
    have S5 := S4.mark (D := D) ((World.putObj_heap_other (by omega)).trans j4) (.inl j5) (fun hg => by have := S.wd.low _ (S.wd.glob _ hg).1; omega) (fun d hd e => by have := markD d hd D e; omega)
    refine hQ _ _ (fun b => Bx b ∨ L' b) _ _ _ S5 (zey _ _ _ _) ⟨j2.q.trans ⟨rfl, rfl, rfl, by simp⟩, fun _ b hb hnl => (World.putObj_heap_other (by omega)).trans (j2.block rfl b hb hnl), j2.lv, fun b h => .inl (j2.up b h), fun _ b hb h => h.elim (j2.dn rfl b hb) (fun hl => .inr (hLvH b (j12 b (by omega) hl))), j2.keep⟩ h
end
end Go.Pe
namespace Go.Pe
variable {E : yj}
theorem zx9 (C : Cfg E) {R : Type} {rid i fresh spare : Nat} {ops : Array Oper} {o : Oper} {env : List (zd E)} {H : List (Blk E)} {K : List (zd E) → List (Blk E) → List Nat → List Nat → Option R} :
    zdX C rid i fresh spare ops o env H K = zdX { C with yl := false } rid i fresh spare ops o env H K := rfl
theorem zqZ (C : Cfg E) {R : Type} {rid spare : Nat} {ops : Array Oper} : ∀ (l : List Oper) (ms : List Nat) (i fresh : Nat) (log : List (Nat × Nat × Nat)) (env : List (zd E)) (H : List (Blk E)) (K : List (zd E) → List (Blk E) → Option R),
    Y7 C rid spare ops l ms i fresh log env H K = Y7 { C with yl := false } rid spare ops l ms i fresh log env H K
  | [], ms, i, fresh, log, env, H, K => by simp only [Y7]
  | o :: l, [], i, fresh, log, env, H, K => by simp only [Y7]
  | o :: l, m :: ms, i, fresh, log, env, H, K => by
    simp only [Y7, ← zx9 C]
    congr 1
    funext env' H' rs ws
    split
    · exact zqZ C l ms _ _ _ _ _ _
    · simp only [Y6]
      split
      · exact zqZ C l ms _ _ _ _ _ _
      · rfl
theorem zrR {R : Type} {ops : Array Oper} (hd : ∀ o ∈ ops.toList, o.dst ≠ some 0) {o : Oper} {env : List (zd E)} {f g : Bool → List (zd E) → Option R} (h : ∀ b env', env'[0]? = env[0]? → f b env' = g b env') : Yq ops o env f = Yq ops o env g := by
  unfold Yq
  split
  · exact h _ _ rfl
  · split
    · rfl
    · rename_i j want _ d hj
      have hd0 : d ≠ 0 := by
        rintro rfl
        simp only [Option.bind_eq_some_iff] at hj
        obtain ⟨oj, h1, h2⟩ := hj
        exact hd oj (by rw [← Array.getElem?_toList] at h1; exact List.mem_of_getElem? h1) h2
      split
      · rename_i b hb
        cases b with
        | true => exact h _ _ (List.getElem?_set_ne hd0)
        | false => exact h _ _ (List.getElem?_set_ne hd0)
      · exact h _ _ rfl
      · rfl
theorem zAJ {env : List (zd E)} {d : Option Nat} (hd : d ≠ some 0) (p : zd E) : (put env d p)[0]? = env[0]? := by
  cases d with
  | none => rfl
  | some d => exact List.getElem?_set_ne (fun e => hd (by rw [e]))
variable {C : Cfg E}
theorem zsB {R : Type} {rid i fresh spare : Nat} {ops : Array Oper} (hd : ∀ o ∈ ops.toList, o.dst ≠ some 0) {o : Oper} (ho : o.dst ≠ some 0) {env : List (zd E)} {H : List (Blk E)} {K K' : List (zd E) → List (Blk E) → List Nat → List Nat → Option R} (h : ∀ env' H rs ws, env'[0]? = env[0]? → K env' H rs ws = K' env' H rs ws) :
    zdX C rid i fresh spare ops o env H K = zdX C rid i fresh spare ops o env H K' := by
  unfold zdX
  refine zrR hd (fun b env' he => ?_)
  have hp : ∀ p H rs ws, K (put env' o.dst p) H rs ws = K' (put env' o.dst p) H rs ws := fun p H rs ws => h _ _ _ _ ((zAJ ho p).trans he)
  simp only [hp]
theorem zjs {R : Type} {rid spare : Nat} {ops : Array Oper} (hd : ∀ o ∈ ops.toList, o.dst ≠ some 0) {K K' : List (zd E) → List (Blk E) → Option R} : ∀ (l : List Oper) (ms : List Nat) (i fresh : Nat) (log : List (Nat × Nat × Nat)) (env : List (zd E)) (H : List (Blk E)), (∀ o ∈ l, o.dst ≠ some 0) → (∀ env' H, env'[0]? = env[0]? → K env' H = K' env' H) →
    Y7 C rid spare ops l ms i fresh log env H K = Y7 C rid spare ops l ms i fresh log env H K'
  | [], ms, i, fresh, log, env, H, hl, h => by simp only [Y7]; exact h _ _ rfl
  | o :: l, [], i, fresh, log, env, H, hl, h => by simp only [Y7]
  | o :: l, m :: ms, i, fresh, log, env, H, hl, h => by
    simp only [Y7]
    refine zsB hd (hl o (List.mem_cons_self ..)) (fun env' H' rs ws he => ?_)
    split
    · exact zjs hd l ms _ _ _ _ _ (fun o ho => hl o (List.mem_cons_of_mem _ ho)) (fun env2 H2 h2 => h env2 H2 (h2.trans he))
    · simp only [Y6]
      split
      · exact zjs hd l ms _ _ _ _ _ (fun o ho => hl o (List.mem_cons_of_mem _ ho)) (fun env2 H2 h2 => h env2 H2 (h2.trans he))
      · rfl
theorem zrx (env : List (zd E)) : (zaW env).length = env.length := by cases env <;> simp [zaW]
theorem Zo.glob {G G' : Nat → Prop} {W0 W0' : World} (h : Zo C G W0) (hg : ∀ g, G g → G' g ∧ W0'.heap[g]? = W0.heap[g]?) : Zo C G' W0' :=
  fun f s hs => ⟨(h f s hs).1, fun A0 μ w args x y wd S hr hy => (h f s hs).2 A0 μ w args x y ⟨wd.low, fun g hG => ⟨(wd.glob g (hg g hG).1).1, (wd.glob g (hg g hG).1).2.trans (hg g hG).2⟩, wd.kb⟩ S hr hy⟩
open Classical in
theorem zvT {P : Program} (hP : C.P = P) {n : Nat} {G : Nat → Prop} {W0 : World} {k : YK C P G W0} {A0 : Nat → Prop} {μ : Nat → Loc} {H : List (Blk E)} {w : World} {env : List (zd E)} {a : Act} {fresh rid spare : Nat} {ops : Array Oper} (hT : yD E.leaves C.P C.tab = true) (hS : Zo C G W0) {R : Type} {K : List (zd E) → List (Blk E) → Option R} {r : R}
    {Q : Exit → Act → World → Prop} (hreg : zdR ops = true) (hd : zpn ops = true) (S : St G W0 (some k) A0 μ H w env a) (h : Y7 C rid spare ops ops.toList (Vs ops.toList []) 0 fresh [] env H (fun env H => K (zaW env) H) = some r)
    (hN : ∀ env' H' μ' w' a', St G W0 (some k) A0 μ' H' w' env' a' → Mid true A0 μ H w A0 μ' H' w' → env'.length = env.length → K env' H' = some r → Q .normal a' w') :
    wpAnyIn (u7 none) n P .any ops Q ops.size (Array.replicate ops.size false) a w := by
  have hd' := znx hd
  rw [zjs (K' := fun env' H => if env'[0]? = env[0]? then K (zaW env') H else none) hd' ops.toList _ _ _ _ _ _ hd' (fun env' H he => by rw [if_pos he]), zqZ C] at h
  have hsub : ∀ g, G g → A0 g ∧ w.heap[g]? = W0.heap[g]? := S.wd.glob
  have hn := S.nomark rfl
  have S0 : St (C := { C with yl := false }) (P := P) A0 w none A0 μ H w env a := ⟨⟨S.wd.low, fun g hg => ⟨hg, rfl⟩, S.wd.kb⟩, S.sim, S.size, S.rep, by rw [hn]; exact ⟨fun d hd => by simp at hd, List.Pairwise.nil⟩, fun _ => hn, fun k hk => by cases hk⟩
  refine zkk (C := { C with yl := false }) hP rfl hT (hS.glob hsub) hreg S0 h ?_
  intro env' H' A1 μ' w' a' S' T hA hlen hk
  obtain rfl := hA rfl
  simp only at hk
  split at hk
  rotate_left
  · cases hk
  rename_i he
  have hnil : a'.defers = [] := by
    cases hdf : a'.defers with
    | nil => rfl
    | cons d ds =>
      obtain ⟨D, _, _, h3, h4⟩ := S'.marks.1 d (by rw [hdf]; exact List.mem_cons_self ..)
      exact absurd h3 h4
  refine hN (zaW env') H' μ' w' a' ⟨⟨S'.wd.low, fun g hg => ⟨(hsub g hg).1, ((S'.wd.glob g (hsub g hg).1).2).trans (hsub g hg).2⟩, S'.wd.kb⟩, S'.sim, S'.size.trans (zrx _).symm, ?_, by rw [hnil]; exact ⟨fun d hd => by simp at hd, List.Pairwise.nil⟩, fun _ => hnil, ?_⟩ ⟨T.q, fun h => (by cases h), T.lv, T.up, T.used⟩ ((zrx _).trans hlen) hk
  · intro t p hp
    cases env' with
    | nil => simp [zaW] at hp
    | cons q env' =>
      cases t with
      | zero => exact S'.rep 0 p (by simpa [zaW] using hp)
      | succ t =>
        simp only [zaW, List.getElem?_cons_succ, List.getElem?_map, Option.map_eq_some_iff] at hp
        obtain ⟨p', h1, rfl⟩ := hp
        exact zuY (S'.rep (t + 1) p' (by simpa using h1))
  · intro k' hk'
    injection hk' with hk'; subst hk'
    obtain ⟨⟨tr, A, q1, q2, q3⟩, q5⟩ := S.ys k rfl
    rw [← he] at q1
    cases env' with
    | nil => simp at q1
    | cons q env' =>
      refine ⟨⟨tr, A, by simpa [zaW] using q1, k.stable q2 T.q (T.block rfl) T.lv ?_, q3⟩, fun t m i ht => ?_⟩
      · rintro b ⟨id, o, n, c, hl, hm⟩
        have := S'.sim.out id b o n c (yO hl) hm
        exact ⟨this.2, fun ha => this.1 (q3 b ha)⟩
      · cases t with
        | zero =>
          simp only [zaW, List.getElem?_cons_zero, Option.some.injEq] at ht q1
          rw [q1] at ht; injection ht with h1; exact h1.symm
        | succ t =>
          simp only [zaW, List.getElem?_cons_succ, List.getElem?_map, Option.map_eq_some_iff] at ht
          obtain ⟨p', _, h2⟩ := ht
          exact absurd h2 zwS
end Go.Pe
namespace Go.Pe
variable {E : yj}
section
variable {C : Cfg E} {P : Program} {G : Nat → Prop} {W0 : World} {yk : Option (YK C P G W0)} {A0 : Nat → Prop} {μ : Nat → Loc} {H : List (Blk E)} {w : World} {env : List (zd E)} {a : Act}
theorem V0 {b : Frame} {k : List Item} {cs : List Frame} {c : Code} : step P (lone (b.atR a (.code (.scope c) :: k)) cs w) = .next (lone (b.atR a (.code c :: .inScope c :: k)) cs w) :=
  step_lone_go (by simp [stepG, stepG.exec, Frame.atR])
theorem zrT {b : Frame} {k : List Item} {cs : List Frame} {c : Code} : step P (lone (b.atR a (.inScope c :: k)) cs w) = .next (lone (b.atR a k) cs w) :=
  step_lone_go (by simp [stepG, stepG.exec, Frame.atR])
theorem zvk {F : Fence} {n : Nat} {Q : Exit → Act → World → Prop} {c : Code} (h : c.wpIn F n P (Exit.noGoto Q) a w) : (Code.scope c).wpIn F n P Q a w := by
  intro b k cs hro hb hr
  have h0 : (lone (b.atR a (.code (.scope c) :: k)) cs w).fenced P F := fenced_calm hb hr rfl
  obtain ⟨e, a₁, w₁, hq, harr⟩ := h b (.inScope c :: k) cs hro hb hr
  cases e with
  | normal => exact ⟨.normal, a₁, w₁, hq, .head h0 V0 (StepsIn.trans harr (.one (fenced_calm hb hr rfl) zrT))⟩
  | exit id =>
    have hx : exitTo id (.inScope c :: k) = exitTo id k := by simp [exitTo]
    exact ⟨.exit id, a₁, w₁, hq, fun k' hk => .head h0 V0 (harr.1 k' (by rw [hx]; exact hk)),
      fun hr' hk => let ⟨k₁, h1, h2⟩ := harr.2 hr' (by rw [hx]; exact hk); ⟨k₁, h1, .head h0 V0 h2⟩⟩
  | goto l => exact hq.elim
  | ret => exact ⟨_, a₁, w₁, hq, .of_steps (.one h0 V0) harr⟩
  | panic ch => exact ⟨_, a₁, w₁, hq, .of_steps (.one h0 V0) harr⟩
  | outgrown => exact ⟨_, a₁, w₁, hq, .of_steps (.one h0 V0) harr⟩
theorem YA (hP : C.P = P) (hT : yD E.leaves C.P C.tab = true) (hS : Zo C G W0) (hyl : C.yl = yk.isSome) (hm : P.follows .mixedOrders = true) (hI : ∀ g it, C.iters g = some it → Yv P G W0 g it) (n : Nat) : ∀ c : Code, zos C P G W0 yk n c
  | .skip => fun S hn h hQ => wpIn_skip (hQ .normal _ _ _ _ _ _ S hn Far.refl h)
  | .region rid ops draw => by
    intro S hn h hQ
    rename_i R r K A0 μ H w env a Q m
    simp only [exec, zsR, Y6, zre, zok] at h
    have e : ∀ H : List (Blk E), ze (H ++ List.replicate (zo7 ops + 1) .free) = ze H := fun H => zoY H _
    split at h
    · cases h
    rename_i hc
    simp only [Bool.and_eq_true, Bool.not_eq_true', not_and] at hc
    have seq : draw = false ∨ C.yl = false → zsQ C (zik _) rid (H.length + zo7 ops) ops ops.toList 0 H.length env (H ++ List.replicate (zo7 ops + 1) .free) (fun env H => K .normal env H) = some r → (Code.region rid ops false).wpIn (u7 none) m P Q a w := by
      intro _ h
      refine wpIn_region ?_
      rw [List.range_eq_range', ← Array.length_toList]
      refine zkL hP hT hS hyl (fun _ => rfl) ops.toList 0 _ (fun k o hk => by simpa using hk) (fun hy => ?_) (S.congr (e _)) h ?_
      · have := hc (by rw [hyl]; exact hy)
        exact znx (by simpa using this)
      · intro env' H' A1 μ' w' a' S' T hA hlen hk
        exact hQ .normal _ _ _ _ _ _ S' (hlen.trans hn) ((Mid.long (e _) T).far (fun hf => hA (by cases yk with | none => rfl | some _ => cases hf))) hk
    cases draw with
    | false =>
      simp only [Bool.false_eq_true, if_false] at h
      exact seq (.inl rfl) h
    | true =>
      simp only [if_true] at h
      split at h
      rotate_left
      · cases h
      rename_i hreg
      refine wpIn_region_any hm ?_
      cases hyk : yk with
      | some k =>
        subst hyk
        have hy : C.yl = true := by rw [hyl]; rfl
        simp only [hy, if_true] at h
        have hd := hc hy
        have hd : zpn ops = true := by simpa using hd
        refine zvT hP hT hS hreg hd ((S.congr (e _)).drew) h ?_
        intro env' H' μ' w' a' S' T hlen hk
        exact hQ .normal _ _ _ _ _ _ S' (hlen.trans hn) ((Mid.long (e _) (Mid.trans zI.drew.mid T)).far (fun _ => rfl)) hk
      | none =>
        subst hyk
        have hy : C.yl = false := by rw [hyl]; rfl
        simp only [hy, Bool.false_eq_true, if_false] at h
        refine zkk hP hy hT hS hreg ((S.congr (e _)).drew) h ?_
        intro env' H' A1 μ' w' a' S' T hA hlen hk
        exact hQ .normal _ _ _ _ _ _ S' (hlen.trans hn) ((Mid.long (e _) (Mid.trans zI.drew.mid T)).far (fun _ => hA rfl)) hk
  | .seq x y => by
    intro S hn h hQ
    simp only [exec] at h
    refine wpIn_seq (YA hP hT hS hyl hm hI n x S hn h ?_)
    intro ex env' H' A1 μ' w' a' S' hn' F hk
    cases ex with
    | normal => exact YA hP hT hS hyl hm hI n y S' hn' hk (fun ex env2 H2 A2 μ2 w2 a2 S2 hn2 F2 hk2 => hQ ex _ _ _ _ _ _ S2 hn2 (F.trans F2) hk2)
    | exit id => exact hQ (.exit id) _ _ _ _ _ _ S' hn' F hk
    | ret => exact hQ .ret _ _ _ _ _ _ S' hn' F hk
  | .cond c x y => by
    intro S hn h hQ
    simp only [exec] at h
    split at h
    rotate_left
    · cases h
    rename_i t hc
    have hv := S.eval c
    rw [hc] at hv
    have hv := zkw hv
    cases t with
    | true => exact wpIn_cond_true hv (YA hP hT hS hyl hm hI n x S hn h hQ)
    | false => exact wpIn_cond_false hv (YA hP hT hS hyl hm hI n y S hn h hQ)
  | .block id x => by
    intro S hn h hQ
    simp only [exec] at h
    refine wpIn_block (YA hP hT hS hyl hm hI n x S hn h ?_)
    intro ex env' H' A1 μ' w' a' S' hn' F hk
    cases ex with
    | normal => exact hQ .normal _ _ _ _ _ _ S' hn' F hk
    | exit j =>
      simp only at hk
      split at hk
      · rename_i hj
        have hj := Nat.eq_of_beq_eq_true hj
        simp only [zjR, Exit.inBlock, hj, if_true]
        exact hQ .normal _ _ _ _ _ _ S' hn' F hk
      · rename_i hj
        have hj : j ≠ id := fun e => hj (by subst e; simp)
        simp only [zjR, Exit.inBlock, if_neg hj]
        exact hQ (.exit j) _ _ _ _ _ _ S' hn' F hk
    | ret => exact hQ .ret _ _ _ _ _ _ S' hn' F hk
  | .loop x => by
    intro S hn h hQ
    simp only [exec] at h
    split at h
    rotate_left
    · cases h
    rename_i l hl
    split at h
    · cases h
    rename_i hys
    split at h
    rotate_left
    · cases h
    rename_i x0 ρ fz hrd
    simp only [Option.bind_eq_some_iff] at h
    obtain ⟨o, ho, h⟩ := h
    have hy : yk.isSome = true → VU l.slots l.inn.vals = true ∧ VU l.bslots l.brk.vals = true ∧ VU l.rslots l.ret.vals = true := by
      intro hy
      rw [hyl, hy] at hys
      simp only [Bool.true_and, Bool.not_eq_true', Bool.and_eq_false_iff, not_or, Bool.not_eq_false] at hys
      exact ⟨hys.1.1, hys.1.2, hys.2⟩
    obtain ⟨A1, μ1, S1, F1⟩ := S.entry (fun h => (hy h).1) hrd
    rw [hn] at S1 F1 ho
    rw [← l.gi.law x0] at S1 F1
    have ihx : zos C P G W0 yk n x := YA hP hT hS hyl hm hI n x
    refine zvG ihx hy S1 ho ?_
    intro A2 μ2 w2 a2
    cases o with
    | again _ => exact fun h => h
    | brk y =>
      rintro ⟨S2, F2⟩
      simp only at h
      rw [hn] at h
      exact hQ (.exit l.brkId) _ _ _ _ _ _ S2 (zey _ _ _ _) (F1.trans F2) h
    | ret y =>
      rintro ⟨S2, F2⟩
      simp only at h
      rw [hn] at h
      exact hQ .ret _ _ _ _ _ _ S2 (zey _ _ _ _) (F1.trans F2) h
  | .exit id => by
    intro S hn h hQ
    simp only [exec] at h
    exact wpIn_exit (hQ (.exit id) _ _ _ _ _ _ S hn Far.refl h)
  | .ret => by
    intro S hn h hQ
    simp only [exec] at h
    exact wpIn_ret (hQ .ret _ _ _ _ _ _ S hn Far.refl h)
  | .rangeFunc f ps as body => by
    intro S hn h hQ
    cases hyk : yk with
    | none =>
      subst hyk
      exact zt8 hP hT hS hyl hm hI S h (fun env' H' A1 μ' w' a' S' hl F hk => hQ .normal _ _ _ _ _ _ S' (hl.trans hn) F hk)
    | some k =>
      exfalso
      have hy : C.yl = true := by rw [hyl, hyk]; rfl
      simp only [exec, hy] at h
      split at h
      rotate_left
      · cases h
      split at h
      rotate_left
      · cases h
      split at h
      rotate_left
      · cases h
      simp only [Option.bind_eq_some_iff] at h
      obtain ⟨ys, _, h⟩ := h
      split at h
      rotate_left
      · cases h
      simp at h
  | .scope x => by
    intro S hn h hQ
    simp only [exec] at h
    refine zvk (YA hP hT hS hyl hm hI n x S hn h ?_)
    intro ex env' H' A1 μ' w' a' S' hn' F hk
    have := hQ ex _ _ _ _ _ _ S' hn' F hk
    cases ex <;> exact this
  | .label _ => by
    intro S hn h hQ
    simp only [exec] at h
    exact wpIn_label (hQ .normal _ _ _ _ _ _ S hn Far.refl h)
  | .goto _ => by intro S hn h hQ; simp [exec] at h
  | .refuse _ => by intro S hn h hQ; simp [exec] at h
end
end Go.Pe
namespace Go.Pe
variable {E : yj}
section
variable {C : Cfg E} {P : Program} {tab : List (Nat × TI)} {G : Nat → Prop} {W0 : World} {yk : Option (YK C P G W0)} {A0 : Nat → Prop} {μ : Nat → Loc} {H : List (Blk E)} {w : World} {env : List (zd E)} {a : Act}
def zeg (tmps : Array Value) : ResultVar → Sem Value
  | .tmp t => pure (tmps.getD t undef)
  | .cell a t => do loadVar t (← asAddr (tmps.getD a undef))
theorem zfK {R : Type} {r : R} (hT : yD E.leaves P tab = true) (S : St G W0 yk A0 μ H w env a) : ∀ (l : List ResultVar) {K : List (zd E) → Option R}, zlL tab env H l K = some r →
    ∃ ps vs, (l.mapM (zeg a.tmps)).run P w = .ok vs w ∧ RL (Rp E A0 μ H w) ps vs ∧ K ps = some r
  | [], K, h => ⟨[], [], by simp, RL.nil, h⟩
  | .tmp t :: l, K, h => by
    simp only [zlL] at h
    obtain ⟨ps, vs, h1, h2, h3⟩ := zfK hT S l h
    exact ⟨_, a.tmps.getD t undef :: vs, by simp [zeg, h1, Sem.run_bind], RL.cons (S.slot t) h2, h3⟩
  | .cell c t :: l, K, h => by
    simp only [zlL] at h
    split at h
    · rename_i i e' id k off hi he
      split at h
      rotate_left
      · cases h
      rename_i n e ha
      have hs := S.slot c
      rw [he] at hs
      obtain ⟨b, o, cs, l2, hv, hrun, hrep, hk⟩ := znB hT hi ha S.sim hs h
      obtain ⟨ps, vs, h1, h2, h3⟩ := zfK hT S l hk
      exact ⟨_, _ :: vs, by simp [zeg, h1, Sem.run_bind, hv, asAddr, hrun], RL.cons (.v _ _ _ hrep) h2, h3⟩
    rotate_left
    · cases h
    rename_i i id off hi he
    split at h
    rotate_left
    · cases h
    rename_i wr cs hB
    have hs := S.slot c
    rw [he] at hs
    generalize hv : a.tmps.getD c undef = v at hs
    cases hs with
    | ptr _ _ b len cap hU hμ =>
      have ok := S.sim.ok id
      rw [hB] at ok
      obtain ⟨b', len', cap', cc, hl, hbox, hsz, hr⟩ := ok
      rw [hμ] at hl; injection hl with e1; subst e1
      obtain ⟨hlen, p, hp, hk⟩ := zf0 h (zcy (RL.of_idx hsz (fun j hj => (hr j hj).1)) off i.size)
      obtain ⟨ps, vs, h1, h2, h3⟩ := zfK hT S l hk
      refine ⟨_, _ :: vs, ?_, RL.cons hp h2, h3⟩
      have hrun := zcj hT hi w b off _ hlen (zlF hbox off i.size)
      simp [zeg, h1, Sem.run_bind, hv, asAddr, hrun]
theorem znI {fn : Func} {tmps : Array Value} {vs : List Value} (h : (fn.results.toList.mapM (zeg tmps)).run P w = .ok vs w) : (results fn tmps).run P w = .ok (zoc vs) w := by
  have e : (results fn tmps) = (do let vs ← fn.results.mapM (zeg tmps); pure (if h : vs.size = 1 then vs[0] else .tuple vs)) := by
    unfold results
    congr 1
  rw [e, Sem.run_bind]
  have e2 : (fn.results.mapM (zeg tmps)).run P w = .ok vs.toArray w := by
    rw [Array.mapM_eq_mapM_toList, Sem.run_map]
    simp [h]
  rw [e2]
  simp only [Result.andThen_ok, Sem.run_pure]
  congr 1
  match vs with
  | [] => rfl
  | [v] => rfl
  | u :: v :: r => simp [zoc]
theorem St.start {ps : List (zd E)} {args : Array Value} {n : Nat} (wd : Wd G W0 A0 w) (S : zN A0 μ H w) (hr : RL (Rp E A0 μ H w) ps args.toList) (hys : Ys yk A0 μ H w (ps ++ List.replicate (n - ps.length) .skip)) :
    St G W0 yk A0 μ H w (ps ++ List.replicate (n - ps.length) .skip) { tmps := args ++ Array.replicate (n - args.size) undef, defers := [] } := by
  have hl : ps.length = args.size := by have := hr.1; simpa using this
  refine ⟨wd, S, by simp [hl], fun t p hp => ?_, ⟨fun d hd => by simp at hd, List.Pairwise.nil⟩, fun _ => rfl, hys⟩
  have hu : (args ++ Array.replicate (n - args.size) undef).getD t undef = ((args.toList ++ List.replicate (n - args.size) undef)[t]?).getD undef := by
    rw [Array.getD_eq_getD_getElem?]
    congr 1
    rw [← Array.getElem?_toList]
    simp
  show Rp E A0 μ _ w p ((args ++ Array.replicate (n - args.size) undef).getD t undef)
  rw [hu]
  by_cases ht : t < ps.length
  · rw [List.getElem?_append_left ht] at hp
    have ht' : t < args.toList.length := by rw [← hr.1]; exact ht
    rw [List.getElem?_append_left ht', List.getElem?_eq_getElem ht']
    exact hr.2 t p _ hp (List.getElem?_eq_getElem ht')
  · rw [List.getElem?_append_right (by omega)] at hp
    have hp' := hp
    rw [List.getElem?_replicate] at hp
    split at hp
    · injection hp with hp; subst hp
      have : (args.toList ++ List.replicate (n - args.size) undef)[t]? = some undef := by
        rw [List.getElem?_append_right (by rw [← hr.1]; omega), List.getElem?_replicate]
        rename_i hlt
        rw [if_pos (by rw [← hr.1, ← hl]; exact hlt)]
      rw [this]; exact .skip
    · cases hp
theorem zja {F : Fence} {n : Nat} {fn : Func} {tmps : Array Value} {R : Ending → World → Prop} : ∀ (ds : List Deferred) (w : World), (∀ d ∈ ds, ∃ D, d = { target := .collected D, args := #[] } ∧ w.heap[D]? = some (.deferred (some []))) → ds.Pairwise (fun d d' => d.target ≠ d'.target) →
    (∀ w', z7 w w' → (∀ b, (∀ d ∈ ds, d.target ≠ .collected b) → w'.heap[b]? = w.heap[b]?) → ∃ v, (results fn tmps).run P w' = .ok v w' ∧ R (.returned v) w') → LeavesInM F n P fn tmps R ds .returning w
  | [], w, _, _, h => h w (z7.refl _) (fun _ _ => rfl)
  | d :: ds, w, hd, hp, h => by
    obtain ⟨D, rfl, hD⟩ := hd d (List.mem_cons_self ..)
    obtain ⟨hp1, hp2⟩ := List.pairwise_cons.1 hp
    refine ⟨by simp, .inl ⟨D, _, rfl, run_takeDeferred hD, ?_⟩⟩
    refine zja ds _ (fun d' hd' => ?_) hp2 (fun w' q hs => h w' (z7.trans (show z7 w (w.putObj D (.deferred none)) from ⟨rfl, rfl, rfl, by simp⟩) q) (fun b hb => ?_))
    · obtain ⟨D', e, hD'⟩ := hd d' (List.mem_cons_of_mem _ hd')
      refine ⟨D', e, (World.putObj_heap_other (fun e' => ?_)).trans hD'⟩
      have := hp1 d' hd'
      rw [e, e'] at this
      exact this rfl
    · rw [hs b (fun d' hd' => hb d' (List.mem_cons_of_mem _ hd'))]
      exact World.putObj_heap_other (fun e => hb _ (List.mem_cons_self ..) (by rw [e]))
theorem St.forget (S : St (C := C) (P := P) G W0 none A0 μ H w env a) : St (C := C) (P := P) (fun _ => False) W0 none A0 μ H w env a :=
  ⟨⟨S.wd.low, fun g hg => hg.elim, S.wd.kb⟩, S.sim, S.size, S.rep, ⟨fun d hd => (S.marks.1 d hd).imp fun D h => ⟨h.1, h.2.1, h.2.2.1, fun h => h⟩, S.marks.2⟩, fun h => (by cases h), fun k hk => (by cases hk)⟩
theorem zrf : ∀ (ks : List BK) (j k : Nat) (ws : List SK), ks[k]? = some (.box true ws) → (zfZ ks j).get (j + k) = some (some (j + k))
  | [], j, k, ws, h => by simp at h
  | b :: ks, j, k, ws, h => by
    cases k with
    | zero =>
      have h : b = .box true ws := by simpa using h
      subst h
      simp [zfZ, Ren.get]
    | succ k =>
      have ih := zrf ks (j + 1) k ws (by simpa using h)
      have e : j + 1 + k = j + (k + 1) := by omega
      rw [e] at ih
      cases b with
      | box w ws' =>
        cases w with
        | true =>
          show (if Nat.beq j (j + (k + 1)) = true then _ else Ren.get (zfZ ks (j + 1)) (j + (k + 1))) = _
          rw [if_neg (by simp), ih]
        | false => exact ih
      | row w e' => exact ih
      | map es => exact ih
      | gone => exact ih
theorem X3.glob {G' : Nat → Prop} {W0' : World} {f : FuncId} {s : zu E} (h : X3 P G W0 f s) (hg : ∀ g, G g → G' g ∧ W0'.heap[g]? = W0.heap[g]?) : X3 P G' W0' f s :=
  fun A0 μ w args x y wd S hr hy => h A0 μ w args x y ⟨wd.low, fun g hG => ⟨(wd.glob g (hg g hG).1).1, (wd.glob g (hg g hG).1).2.trans (hg g hG).2⟩, wd.kb⟩ S hr hy
theorem Yv.glob {G' : Nat → Prop} {W0' : World} {g : FuncId} {it : u6 E} (h : Yv P G W0 g it) (hg : ∀ g, G g → G' g ∧ W0'.heap[g]? = W0.heap[g]?) : Yv P G' W0' g it := by
  refine ⟨h.1, fun x ys hx => ?_⟩
  obtain ⟨Cg, hc⟩ := h.2 x ys hx
  refine ⟨Cg, fun k A0 μ w lb A m wd S hr hJ hA => ?_⟩
  let k' : YK { Cg with ye := it.e, yd := ys } P G W0 := { y := k.y, J := k.J, low := k.low, stable := k.stable, yield_ := fun m v z hz hJ hr => YieldAt.mono (k.yield_ m v z hz hJ hr) fun r W' hR => ⟨hR.1, by
    obtain ⟨A', h1, h2, h3, h4, h5, h6⟩ := hR.2
    exact ⟨A', h1, h2, h3, h4, h5, fun g hG => (h6 g (hg g hG).1).trans (hg g hG).2⟩⟩ }
  exact hc k' m ⟨wd.low, fun g hG => ⟨(wd.glob g (hg g hG).1).1, (wd.glob g (hg g hG).1).2.trans (hg g hG).2⟩, wd.kb⟩ S hr hJ hA
theorem zyC (hP : C.P = P) (hT : yD E.leaves C.P C.tab = true) (hS : Zo C G W0) (hyl : C.yl = false) (hm : P.follows .mixedOrders = true) (hI : ∀ g it, C.iters g = some it → Yv P G W0 g it) {f : FuncId} {fn : Func} {c : Code} (hf : P.funcs[f]? = some fn) (hb : fn.body = some c) (s : zu E)
    (hk : C.kept = zfZ s.inn.blks 0) (hn : s.inn.vals.length ≤ fn.ntmps) (hF : ∀ x y, s.F x = some y → zmz C fn s.inn s.out s.gi s.go x = some y) : X3 P G W0 f s := by
  intro A0 μ w args x y wd S hr hy
  have hx := hF (s.gi.of x) y hy
  unfold zmz at hx
  rw [hb, s.gi.law] at hx
  simp only at hx
  refine (callsIn_wide (n := 0)).1 (callsIn_of_wp_marks (F := Fence.wide) hf hb trivial ?_)
  have hvl : (yo id s.inn (HL.toP s.inn.holes x)).1.length = s.inn.vals.length := UW _ _
  have wd' : Wd A0 w A0 w := ⟨wd.low, fun g hg => ⟨hg, rfl⟩, wd.kb⟩
  have hsub : ∀ g, G g → A0 g ∧ w.heap[g]? = W0.heap[g]? := wd.glob
  have S0 := St.start (C := C) (P := P) (yk := none) (n := fn.ntmps) wd' S hr (fun k hk => by cases hk)
  refine YA (yk := none) hP hT (fun f s hs => ⟨(hS f s hs).1, (hS f s hs).2.glob hsub⟩) hyl hm (fun g it h => (hI g it h).glob hsub) fn.ntmps c S0 (by simp only [List.length_append, List.length_replicate, hvl]; omega) hx ?_
  intro ex env' H' A1 μ' w' a' S' hn' F hK
  have fin : zlL C.tab env' H' fn.results.toList (fun ps => zvS s.inn s.out s.go ps H') = some y → LeavesInM Fence.wide 0 P fn a'.tmps (fun e w'' => ∃ vs A1 μ1, e = .returned (zoc vs) ∧ zwd A0 μ (yo id s.inn (HL.toP s.inn.holes x)).2 w s (s.go.to y) vs A1 μ1 w'') a'.defers .returning w' := by
    intro hK
    refine zja _ _ (fun d hd => ?_) S'.marks.2 ?_
    · obtain ⟨D, e1, e2, _⟩ := S'.marks.1 d hd; exact ⟨D, e1, e2⟩
    intro w2 q hs
    have obj : ∀ b, (∃ d ∈ a'.defers, d.target = .collected b) → w'.heap[b]? = some (.deferred (some [])) ∧ A1 b ∧ ¬ A0 b := by
      rintro b ⟨d, hd, ht⟩
      obtain ⟨D, e1, e2, e3, e4⟩ := S'.marks.1 d hd
      rw [e1] at ht; injection ht with ht; subst ht
      exact ⟨e2, e3, e4⟩
    have S2 : St (C := C) (P := P) (fun _ => False) w none A1 μ' H' w2 env' { a' with defers := [] } := by
      refine (S'.forget.clear).turn (Ch := fun b => ∃ d ∈ a'.defers, d.target = .collected b) (fun id b o n c hm hμ hc => ?_) q.size (fun b hb hnc => hs b (fun d hd ht => hnc ⟨d, hd, ht⟩)) (fun b hc => ⟨(obj b hc).2.1, fun hk => (obj b hc).2.2 (wd.kb b hk)⟩) (fun b _ h => h) (fun b h => Nat.lt_of_lt_of_le (S'.wd.low b h) q.size) S'.wd.kb (fun g hg => hg.elim) (fun d hd => by simp at hd)
      have h2 := (obj b hc).1
      have r := S'.sim.ok id
      rw [hμ] at r
      cases hB : ze H' id with
      | free => rw [hB] at hm; cases hm
      | dead => rw [hB] at hm; cases hm
      | box wr cs =>
        rw [hB] at r
        obtain ⟨b, len, cap, cc, e, ⟨t', f', hh, _⟩, _⟩ := r
        injection e with e; subst e; rw [h2] at hh; cases hh
      | row wr e xs =>
        rw [hB] at r
        rcases r with ⟨b, off, cap, cc, vs, e, ⟨t', f', hh, _⟩, _⟩ | ⟨_, _, e⟩
        · injection e with e; subst e; rw [h2] at hh; cases hh
        · cases e
      | rowh e xs n' k =>
        rw [hB] at r
        obtain ⟨b, off, cap, cc, vs, e, ⟨t', f', hh, _⟩, _⟩ := r
        injection e with e; subst e; rw [h2] at hh; cases hh
      | map wr es =>
        rw [hB] at r
        obtain ⟨b, ms, clock, e, hh, _⟩ := r
        injection e with e; subst e; rw [h2] at hh; cases hh
    have hnew : ∀ b, b < w.heap.size → ¬ Lv μ (yo id s.inn (HL.toP s.inn.holes x)).2 b → w2.heap[b]? = w.heap[b]? := by
      intro b hb hnl
      by_cases hc : ∃ d ∈ a'.defers, d.target = .collected b
      · exact ((F.dn rfl b hb (obj b hc).2.1).elim (obj b hc).2.2 hnl).elim
      · rw [hs b (fun d hd ht => hc ⟨d, hd, ht⟩)]; exact F.block rfl b hb hnl
    obtain ⟨ps, vs, h1, h2, h3⟩ := zfK (P := P) (by rw [← hP]; exact hT) S2 _ hK
    refine ⟨zoc vs, znI h1, vs, ?_⟩
    simp only [zvS, Option.map_eq_some_iff] at h3
    obtain ⟨⟨y', ρ, fz⟩, hrd, rfl⟩ := h3
    obtain ⟨⟨Ac, ab⟩, hle⟩ := VZ S2.sim h2 hrd
    rw [s.go.law]
    refine ⟨Ac, ρ.loc μ', rfl, ab.sim, ab.rep, ⟨(F.q.trans q).os, (F.q.trans q).tape, (F.q.trans q).output, (F.q.trans q).size, hnew, fun b hb h => F.lv b hb (ab.lv b h)⟩, fun b hb => ab.up b (F.up b hb), fun b hb => ?_, ?_⟩
    · rcases ab.down b hb with h | ⟨id, o, n, c, hl, hm⟩
      · exact S2.wd.low b h
      · exact (S2.sim.out id b o n c (yO hl) hm).2
    · intro j ws h4 _
      have hg := zrf s.inn.blks 0 j ws h4
      simp only [Nat.zero_add] at hg
      have hρ := hle j _ hg
      have hu : Us (yo id s.inn (HL.toP s.inn.holes x)).2 j := by
        unfold Us
        have hw : ∀ (bs : List BK) (qs : List (zd E)) (i : Nat) ws, bs[i]? = some (.box true ws) → xr (ze (ym id bs qs) i) = true := by
          intro bs
          induction bs with
          | nil => intro qs i ws h; simp at h
          | cons b bs ih =>
            intro qs i ws h
            cases i with
            | zero => simp at h; subst h; rfl
            | succ i => exact ih _ i ws (by simpa using h)
        exact hw _ _ _ _ h4
      have hkeep := F.keep j (by rw [hk]; exact hg) hu
      simp only [Ren.loc, hρ]
      exact hkeep.2
  cases ex with
  | normal => exact fin hK
  | ret => exact fin hK
  | exit id => cases hK
theorem zpp {Cg : Cfg E} (hP : Cg.P = P) (hT : yD E.leaves Cg.P Cg.tab = true) (hS : Zo Cg G W0) (hyl : Cg.yl = true) (hm : P.follows .mixedOrders = true) (hI : ∀ g it, Cg.iters g = some it → Yv P G W0 g it) {g : FuncId} {fn : Func} {c : Code} (hc : Zd P g = true) (hf : P.funcs[g]? = some fn) (hb : fn.body = some c)
    (it : u6 E) (hn : it.inn.vals.length + 1 ≤ fn.ntmps) (hv : it.inn.vals.all SK.notY = true)
    (hF : ∀ (n : Int) x ys, it.F x = some ys → zqc { Cg with ye := it.e, yd := ys } fn it.inn n x = some (ys.length : Int)) : Yv P G W0 g it := by
  refine ⟨hc, fun x ys hy => ⟨Cg, fun k A0 μ w lb A m wd S hr hJ hA => ?_⟩⟩
  have hx := hF k.y x ys hy
  unfold zqc at hx
  rw [hb] at hx
  simp only at hx
  refine callsIn_of_wp_marks (F := u7 none) hf hb (zgW none g) ?_
  have hvl : (yo id it.inn (HL.toP it.inn.holes x)).1.length = it.inn.vals.length := UW _ _
  have htyp := toP_typed (E := E) it.inn.holes x
  have hr' : RL (Rp E A0 μ (yo id it.inn (HL.toP it.inn.holes x)).2 w) (.yld k.y 0 :: (yo id it.inn (HL.toP it.inn.holes x)).1) ((#[.func (.yield k.y.toNat) #[] #[]] ++ lb.toArray : Array Value)).toList := by
    have : ((#[.func (.yield k.y.toNat) #[] #[]] ++ lb.toArray : Array Value)).toList = .func (.yield k.y.toNat) #[] #[] :: lb := by simp
    rw [this]
    exact RL.cons (.yld _ _) hr
  have S0 := St.start (C := { Cg with ye := it.e, yd := ys }) (P := P) (yk := some k) (n := fn.ntmps) wd S hr' (fun k' hk => by
    injection hk with hk; subst hk
    refine ⟨⟨0, A, rfl, hJ, hA⟩, fun t m' i ht => ?_⟩
    cases t with
    | zero => simp only [List.cons_append, List.getElem?_cons_zero, Option.some.injEq] at ht; injection ht with h1; exact h1.symm
    | succ t =>
      simp only [List.cons_append, List.getElem?_cons_succ] at ht
      rcases List.mem_append.1 (List.mem_of_getElem? ht) with h | h
      · exact absurd rfl (zjl it.inn.vals _ hv htyp _ h m' i)
      · have := List.eq_of_mem_replicate h; cases this)
  refine YA (C := { Cg with ye := it.e, yd := ys }) (yk := some k) hP hT hS hyl hm hI fn.ntmps c S0 (by simp only [List.length_append, List.length_replicate, List.length_cons, hvl]; omega) hx ?_
  intro ex env' H' A1 μ' w' a' S' hn' F hK
  have fin : (if fn.results.isEmpty then (match (env'[0]?).getD .any with | .yld _ i => some i | _ => none) else none) = some (ys.length : Int) → LeavesInM (u7 none) m P fn a'.tmps (fun e w'' => (∃ v, e = .returned v) ∧ ∃ A' L', k.J ys.length A' L' w'') a'.defers .returning w' := by
    intro hK
    split at hK
    rotate_left
    · cases hK
    rename_i hre
    have hre : fn.results = #[] := by simpa using hre
    obtain ⟨⟨tr, A', h1, h2, h3⟩, _⟩ := S'.ys k rfl
    rw [h1] at hK
    simp only [Option.getD_some, Option.some.injEq] at hK
    have htr : tr = ys.length := by omega
    subst htr
    rw [S'.nomark rfl]
    refine zja [] w' (fun d hd => by simp at hd) List.Pairwise.nil (fun w2 q hs => ?_)
    have hres : (fn.results.toList.mapM (zeg a'.tmps)).run P w2 = .ok [] w2 := by rw [hre]; rfl
    refine ⟨zoc [], znI hres, ⟨_, rfl⟩, A', Lv μ' H', ?_⟩
    refine k.stable h2 q (fun b hb _ => hs b (fun d hd => by simp at hd)) (fun _ _ h => h) (fun b hb => ?_)
    obtain ⟨id, o, n, c, hl, hm⟩ := hb
    have := S'.sim.out id b o n c (yO hl) hm
    exact ⟨Nat.lt_of_lt_of_le this.2 q.size, fun ha => this.1 (h3 b ha)⟩
  cases ex with
  | normal => exact fin hK
  | ret => exact fin hK
  | exit id => cases hK
end
end Go.Pe
namespace Go.Pe
variable {E : yj}
def zif : List (Nat × List (zu E)) → Nat → List (zu E)
  | [], _ => []
  | (f, l) :: r, g => if Nat.beq f g then l else zif r g
def zsL : List (Nat × zP E) → Nat → Option (zP E)
  | [], _ => none
  | (f, l) :: r, g => if Nat.beq f g then some l else zsL r g
def zyI : List (Nat × Nat) → Nat → Nat → Bool
  | [], _, _ => false
  | (a, b) :: r, x, y => (Nat.beq a x && Nat.beq b y) || zyI r x y
def ztI : List (Nat × Nat × List Nat) → Nat → Nat → List Nat
  | [], _, _ => [0]
  | (a, b, l) :: r, x, y => if Nat.beq a x && Nat.beq b y then l else ztI r x y
def zkF : List (Nat × u6 E) → Nat → Option (u6 E)
  | [], _ => none
  | (f, l) :: r, g => if Nat.beq f g then some l else zkF r g
def zvX (P : Program) (tab : List (Nat × TI)) (specs : List (Nat × List (zu E))) (loops : List (Nat × zP E)) (mv : List (Nat × Nat)) (kept : Ren) (pk : List (Nat × Nat × List Nat)) (its : List (Nat × u6 E)) : Cfg E :=
  { P := P, tab := tab, specs := zif specs, loops := zsL loops, mv := zyI mv, kept := kept, pick := ztI pk, yl := false, ye := .bool, yd := [], iters := zkF its }
def zch (rid : Nat) : Code → Option Code
  | .seq a b => match zch rid a with | some c => some c | none => zch rid b
  | .cond _ a b => match zch rid a with | some c => some c | none => zch rid b
  | .block _ a => zch rid a
  | .loop a => if Nat.beq (zef a) rid then some a else zch rid a
  | .rangeFunc _ _ a b => match zch rid a with | some c => some c | none => zch rid b
  | _ => none
def yT (fn : Func) (rid : Nat) : Code := match fn.body with
  | some c => (zch rid c).getD .skip
  | none => .skip
def V1 (rid : Nat) : Code → Option (Code × Code)
  | .seq a b => match V1 rid a with | some c => some c | none => V1 rid b
  | .cond _ a b => match V1 rid a with | some c => some c | none => V1 rid b
  | .block _ a => V1 rid a
  | .loop a => V1 rid a
  | .rangeFunc _ _ a b => if Nat.beq (zef a) rid then some (a, b) else match V1 rid a with | some c => some c | none => V1 rid b
  | _ => none
def zz7 (fn : Func) (rid : Nat) : Code := match fn.body with
  | some c => ((V1 rid c).map (·.1)).getD .skip
  | none => .skip
def zwW (fn : Func) (rid : Nat) : Code := match fn.body with
  | some c => ((V1 rid c).map (·.2)).getD .skip
  | none => .skip
inductive Oks (P : Program) (G : Nat → Prop) (W0 : World) : List (Nat × List (zu E)) → Prop
  | nil : Oks P G W0 []
  | skip (f : Nat) (r) (h : Oks P G W0 r) : Oks P G W0 ((f, []) :: r)
  | cons (f : Nat) (s : zu E) (ss r) (hc : Zd P f = true) (hs : X3 P G W0 f s) (h : Oks P G W0 ((f, ss) :: r)) : Oks P G W0 ((f, s :: ss) :: r)
theorem Oks.at {P : Program} {G : Nat → Prop} {W0 : World} {l : List (Nat × List (zu E))} (hl : Oks P G W0 l) : ∀ f s, s ∈ zif l f → Zd P f = true ∧ X3 P G W0 f s := by
  induction hl with
  | nil => intro f s h; simp [zif] at h
  | skip g r h ih =>
    intro f s h
    simp only [zif] at h
    split at h
    · simp at h
    · exact ih f s h
  | cons g t ts r hc hs h ih =>
    intro f s h
    simp only [zif] at h
    split at h
    · rename_i he
      have he := Nat.eq_of_beq_eq_true he
      subst he
      rcases List.mem_cons.1 h with rfl | h
      · exact ⟨hc, hs⟩
      · exact ih g s (by simp only [zif, Nat.beq_refl, if_true]; exact h)
    · rename_i he
      exact ih f s (by simp only [zif, if_neg he]; exact h)
theorem zv0 {P : Program} {tab : List (Nat × TI)} {l : List (Nat × List (zu E))} {loops : List (Nat × zP E)} {mv : List (Nat × Nat)} {kept : Ren} {pk : List (Nat × Nat × List Nat)} {its : List (Nat × u6 E)} {G : Nat → Prop} {W0 : World}
    (h : Oks P G W0 l) : Zo (zvX P tab l loops mv kept pk its) G W0 := fun f s hs => h.at f s hs
inductive Its (P : Program) (G : Nat → Prop) (W0 : World) : List (Nat × u6 E) → Prop
  | nil : Its P G W0 []
  | cons (f : Nat) (s : u6 E) (r) (hs : Yv P G W0 f s) (h : Its P G W0 r) : Its P G W0 ((f, s) :: r)
theorem Its.at {P : Program} {G : Nat → Prop} {W0 : World} {l : List (Nat × u6 E)} (hl : Its P G W0 l) : ∀ g it, zkF l g = some it → Yv P G W0 g it := by
  induction hl with
  | nil => intro f s h; cases h
  | cons g t r hs h ih =>
    intro f s h
    simp only [zkF] at h
    split at h
    · rename_i he
      have he := Nat.eq_of_beq_eq_true he
      subst he
      injection h with h; subst h; exact hs
    · exact ih f s h
theorem zxF {P : Program} {tab : List (Nat × TI)} {l : List (Nat × List (zu E))} {loops : List (Nat × zP E)} {mv : List (Nat × Nat)} {kept : Ren} {pk : List (Nat × Nat × List Nat)} {its : List (Nat × u6 E)} {G : Nat → Prop} {W0 : World}
    (h : Its P G W0 its) : ∀ g it, (zvX P tab l loops mv kept pk its).iters g = some it → Yv P G W0 g it := h.at
end Go.Pe
namespace Go.Pe
variable {E : yj}
noncomputable def zmn (C : Cfg E) (fn : Func) (inn out : xB) (gi go : List Grp) (hi : uO E gi = inn.holes) (ho : uO E go = out.holes) : zu E := { inn := inn, out := out, gi := grp gi hi, go := grp go ho, F := zfe fun x => zmz C fn inn out (grp gi hi) (grp go ho) x }
theorem zzL {C : Cfg E} {fn : Func} {inn out : xB} {gi go : List Grp} {hi : uO E gi = inn.holes} {ho : uO E go = out.holes} (x : GL E gi) : (zmn C fn inn out gi go hi ho).F x = zmz C fn inn out (grp gi hi) (grp go ho) x := congrFun (WS _) x
theorem zr {C : Cfg E} {fn : Func} {inn out : xB} {gi go : List Grp} {hi : uO E gi = inn.holes} {ho : uO E go = out.holes} {x : GL E gi} {y : Option (GL E go)} (h : zmz C fn inn out (grp gi hi) (grp go ho) x = y) : (zmn C fn inn out gi go hi ho).F x = y := (zzL x).trans h
theorem zwJ {C : Cfg E} {G : Nat → Prop} {W0 : World} (hT : yD E.leaves C.P C.tab = true) (hS : Zo C G W0) (hyl : C.yl = false) (hI : ∀ g it, C.iters g = some it → Yv C.P G W0 g it) (hm : C.P.follows .mixedOrders = true) {f : FuncId} {fn : Func} {inn out : xB} {gi go : List Grp} {hi : uO E gi = inn.holes} {ho : uO E go = out.holes} (hf : C.P.funcs[f]? = some fn) (hb : fn.body.isSome = true)
    (hk : C.kept = zfZ inn.blks 0) (hn : Nat.ble inn.vals.length fn.ntmps = true) : X3 C.P G W0 f (zmn C fn inn out gi go hi ho) := by
  obtain ⟨c, hc⟩ := Option.isSome_iff_exists.1 hb
  exact zyC rfl hT hS hyl hm hI hf hc (zmn C fn inn out gi go hi ho) hk (Nat.le_of_ble_eq_true hn) (fun x y h => (zzL x).symm.trans h)
end Go.Pe
