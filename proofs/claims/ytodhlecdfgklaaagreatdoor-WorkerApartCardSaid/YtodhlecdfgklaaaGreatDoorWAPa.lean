/- Own work of this seat: PA, PB, PMk, PMade15, PRight, PNew, PInv, PNewOk, PSmall, PSame, PGo, PDq, PWork, PMut, PEng, PWorkEq, PCopy, PLaw15. -/
import Derived.Test.YtodhlecdfgklaaaGreatDoorWAGb
set_option linter.unusedVariables false
set_option linter.unusedSimpArgs false
set_option linter.unnecessarySimpa false
set_option linter.unusedSectionVars false
set_option linter.deprecated false
set_option maxRecDepth 20000
namespace Go.Pe.G
open Go.Pe
noncomputable section
theorem vz {A B D : Type} {f : A → Option (yE A B D)} (Inv : A → Prop) (ms : A → Nat) (Q : yE Unit B D → Prop)
    (h : ∀ a, Inv a → ∃ o, f a = some o ∧ match o with
      | .again a' => Inv a' ∧ ms a' < ms a
      | .brk b => Q (.brk b)
      | .ret c => Q (.ret c)) : ∀ a, Inv a → ms a < YW → ∃ o, z3 f a = some o ∧ Q o := by
  have key : ∀ (n : Nat) a, Inv a → ms a < n → ∃ o, uk f n a = some o ∧ Q o := by
    intro n
    induction n with
    | zero => intro a _ h; omega
    | succ n ih =>
      intro a ha hm
      obtain ⟨o, ho, hq⟩ := h a ha
      simp only [uk, ho, Option.bind_some]
      cases o with
      | again a' => exact ih a' hq.1 (by have := hq.2; omega)
      | brk b => exact ⟨_, rfl, hq⟩
      | ret c => exact ⟨_, rfl, hq⟩
  intro a ha hm
  rw [V9]
  exact key YW a ha hm
theorem xi {n : Nat} (h : n < 18446744073709551616) : n < YW := h
theorem yg {a : Int} (h : -9223372036854775808 ≤ a) (h2 : a < 9223372036854775808) : w64 a = a := by
  rw [zfP]; omega
def wc (n : Int) : Int := (n + 9223372036854775808) % 18446744073709551616 - 9223372036854775808
theorem wD : w64 = wc := funext zfP
theorem YM {a : Int} (h : -9223372036854775808 ≤ a) (h2 : a < 9223372036854775808) : wc a = a := by unfold wc; omega
theorem ztW (a : Int) (h : -9223372036854775808 ≤ a) (h2 : a < 9223372036854775808) : w64 (w64 (a + 1) - 1) = a := by
  simp only [zfP]; omega
theorem zp {α : Type} (p : Prop) [Decidable p] (a b : α) : (bif decide p then a else b) = if p then a else b := by
  by_cases h : p <;> simp [h]
theorem z8 {α : Type} (p : Prop) [Decidable p] (a b : α) : (bif !(decide p) then a else b) = if p then b else a := by
  by_cases h : p <;> simp [h]
theorem xW {α : Type} {l : List α} (h : l.length < 4294967296) : xj l = some l := by
  rw [znB]; simp [h]
theorem Y3 {α : Type} {l : List α} {i : Int} (h : 0 ≤ i) : idx l i = l[i.toNat]? := by
  unfold idx; simp [h]
theorem Zg {α : Type} {l : List α} {i : Int} (h : 0 ≤ i) (h2 : i < l.length) : ve l i = some i.toNat := by
  unfold ve; simp [h, h2]
def bit (o : Int) : BitVec 64 := if 1 ≤ o ∧ o ≤ 64 then 1#64 <<< (o - 1).toNat else 0#64
theorem zpt (a : Int) : zeJ a = some (bit a, ()) := by
  rw [zoc]
  simp only [zp]
  unfold bit
  by_cases h1 : a < 1
  · rw [if_pos h1, if_neg (by omega)]
  · rw [if_neg h1]
    by_cases h2 : 64 < a
    · rw [if_pos h2, if_neg (by omega)]
    · rw [if_neg h2, yg (a := a - 1) (by omega) (by omega), if_neg (show ¬ a - 1 < 0 by omega), if_pos (show 1 ≤ a ∧ a ≤ 64 by omega), Nat.min_eq_left (by omega)]
theorem zlo (s : BitVec 64) (o : Int) : zbW s o = some (!(decide (s &&& bit o = 0#64)), ()) := by
  rw [zoT, zpt]; rfl
theorem zir (s : BitVec 64) (o : Int) : Uu s o = some (s ||| bit o, ()) := by
  rw [zoQ, zpt]; rfl
def zeN (t : zl) (o : Int) : zl × Bool :=
  if t.Marks ||| bit o = t.Marks then (t, false) else if t.Black &&& bit o = 0#64 then ({ t with Marks := t.Marks ||| bit o }, true) else (t, false)
theorem zqj (t : zl) (o : Int) : zd7 t o = some ((zeN t o).1, (zeN t o).2, ()) := by
  rw [zkU, zir, Option.bind_some, zp]
  unfold zeN
  by_cases h1 : t.Marks ||| bit o = t.Marks
  · rw [if_pos h1, if_pos h1]
  · rw [if_neg h1, if_neg h1, zlo, Option.bind_some, z8]
    by_cases h2 : t.Black &&& bit o = 0#64
    · rw [if_pos h2, if_pos h2]
    · rw [if_neg h2, if_neg h2]
theorem zhw {m : List (BitVec 64)} (h : m.length < 4294967296) : yt m = some (m, ()) := by
  rw [V2, List.nil_append, xW h, Option.bind_some]
  cases m with
  | nil => simp [zbI]
  | cons a l => simp
theorem zkt {m : List (List Int)} (h : m.length < 4294967296) : w9 m = some (m, ()) := by
  rw [zaA, List.nil_append, xW h, Option.bind_some]
  cases m with
  | nil => simp [zbI]
  | cons a l => simp
def ld (m : List (BitVec 64)) (a : Int) : BitVec 64 := if 0 ≤ a then m.getD a.toNat 0#64 else 0#64
def st (m : List (BitVec 64)) (a : Int) (v : BitVec 64) : List (BitVec 64) := if 0 ≤ a then m.set a.toNat v else m
def sw (m : List (BitVec 64)) (at_ : Int) (a b : BitVec 64) : List (BitVec 64) × Bool :=
  if 0 ≤ at_ ∧ at_ < m.length ∧ ld m at_ = a then (st m at_ b, true) else (m, false)
theorem znR {m : List (BitVec 64)} {a : Int} (h : 0 ≤ a) (h2 : a < m.length) : m[a.toNat]? = some (ld m a) := by
  unfold ld
  rw [if_pos h, List.getD_eq_getElem?_getD, List.getElem?_eq_getElem (by omega)]; rfl
theorem zpI {m : List (BitVec 64)} {a : Int} : st m a (ld m a) = m := by
  unfold st ld
  by_cases h : 0 ≤ a
  · rw [if_pos h, if_pos h]
    by_cases h2 : a.toNat < m.length
    · rw [List.getD_eq_getElem?_getD, List.getElem?_eq_getElem h2]; simp
    · rw [List.set_eq_of_length_le (by omega)]
  · rw [if_neg h]
theorem zrF {m : List (BitVec 64)} {a : Int} (h : a < 0 ∨ m.length ≤ a) : ld m a = 0#64 := by
  unfold ld
  rcases h with h | h
  · rw [if_neg (by omega)]
  · split
    · rw [List.getD_eq_getElem?_getD, List.getElem?_eq_none (by omega)]; rfl
    · rfl
theorem zqN {m : List (BitVec 64)} {a : Int} {v : BitVec 64} (h : a < 0 ∨ m.length ≤ a) : st m a v = m := by
  unfold st
  rcases h with h | h
  · rw [if_neg (by omega)]
  · split
    · rw [List.set_eq_of_length_le (by omega)]
    · rfl
theorem zpM (m : List (BitVec 64)) (a : Int) (x y : BitVec 64) : ∃ b, ZA m ⟨1, a, x, y⟩ = some (m, ld m a, b, ()) := by
  rw [zfz]
  simp only [zp, if_true]
  by_cases h1 : a < 0
  · rw [if_pos h1, zrF (.inl h1)]; exact ⟨_, rfl⟩
  · rw [if_neg h1]
    by_cases h2 : (m.length : Int) ≤ a
    · rw [if_pos h2, zrF (.inr h2)]; exact ⟨_, rfl⟩
    · rw [if_neg h2, Y3 (by omega), znR (by omega) (by omega), Option.bind_some, znd, Option.bind_some]
      simp
theorem znS {m : List (BitVec 64)} (hm : m.length < 4294967296) (a : Int) (x y : BitVec 64) : ∃ v b, ZA m ⟨2, a, x, y⟩ = some (st m a x, v, b, ()) := by
  rw [zfz]
  simp only [zp, if_true, if_neg (show ¬ (2 : Int) = 1 by omega)]
  by_cases h1 : a < 0
  · rw [if_pos h1, zqN (.inl h1)]; exact ⟨_, _, rfl⟩
  · rw [if_neg h1]
    by_cases h2 : (m.length : Int) ≤ a
    · rw [if_pos h2, zqN (.inr h2)]; exact ⟨_, _, rfl⟩
    · rw [if_neg h2, Y3 (by omega), znR (by omega) (by omega), Option.bind_some, znl, Option.bind_some, cond_true, z8]
      by_cases h3 : ld m a = x
      · rw [if_pos h3]
        subst h3
        rw [zpI]; exact ⟨_, _, rfl⟩
      · rw [if_neg h3, zhw hm, Option.bind_some, Zg (l := m) (by omega) (by omega), Option.bind_some]
        unfold st
        rw [if_pos (by omega)]
        exact ⟨_, _, rfl⟩
theorem zl4 {m : List (BitVec 64)} (hm : m.length < 4294967296) (a : Int) (x y : BitVec 64) : ∃ v, ZA m ⟨3, a, x, y⟩ = some ((sw m a x y).1, v, (sw m a x y).2, ()) := by
  rw [zfz]
  simp only [zp, if_true, if_neg (show ¬ (3 : Int) = 1 by omega), if_neg (show ¬ (3 : Int) = 2 by omega)]
  by_cases h1 : a < 0
  · rw [if_pos h1]
    have : sw m a x y = (m, false) := by unfold sw; rw [if_neg (by omega)]
    rw [this]; exact ⟨_, rfl⟩
  · rw [if_neg h1]
    by_cases h2 : (m.length : Int) ≤ a
    · rw [if_pos h2]
      have : sw m a x y = (m, false) := by unfold sw; rw [if_neg (by omega)]
      rw [this]; exact ⟨_, rfl⟩
    · rw [if_neg h2, Y3 (by omega), znR (by omega) (by omega), Option.bind_some, znm, Option.bind_some]
      simp only [zp]
      by_cases h3 : ld m a = x
      · have : sw m a x y = (st m a y, true) := by unfold sw; rw [if_pos ⟨by omega, by omega, h3⟩]
        rw [if_pos h3, this, z8]
        by_cases h4 : ld m a = y
        · rw [if_pos h4]
          have : st m a y = m := by rw [← h4, zpI]
          rw [this]
          simp [h3]
        · rw [if_neg h4, zhw hm, Option.bind_some, Zg (l := m) (by omega) (by omega), Option.bind_some]
          unfold st
          rw [if_pos (by omega)]
          simp [h3]
      · have : sw m a x y = (m, false) := by unfold sw; rw [if_neg (by rintro ⟨_, _, h⟩; exact h3 h)]
        rw [if_neg h3, this]
        simp [h3]
theorem zk2 (m : List (BitVec 64)) (a : Int) : zac m a = some (ld m a, ()) := by
  obtain ⟨b, h⟩ := zpM m a 0#64 0#64
  rw [zlh, h]; rfl
theorem Vu {m : List (BitVec 64)} (hm : m.length < 4294967296) (a : Int) (x : BitVec 64) : uB m a x = some (st m a x, ()) := by
  obtain ⟨v, b, h⟩ := znS hm a x 0#64
  rw [zjA, h]; rfl
theorem Z9 (m : List (BitVec 64)) (a : Int) : vA m a = some (ld m a, ()) := by
  obtain ⟨b, h⟩ := zpM m a 0#64 0#64
  rw [zla, h]; rfl
theorem Vt {m : List (BitVec 64)} (hm : m.length < 4294967296) (a : Int) (x : BitVec 64) : uF m a x = some (st m a x, ()) := by
  obtain ⟨v, b, h⟩ := znS hm a x 0#64
  rw [zjO, h]; rfl
def yB (h : BitVec 64) : Int := (h &&& 4294967295#64).toInt
def YZ (v : BitVec 64) (n : Int) : BitVec 64 := (v <<< 32) ||| (BitVec.ofInt 64 n &&& 4294967295#64)
theorem zcF (h : BitVec 64) : Zy h = some (yB h, ()) := zkS h
theorem zcW (v : BitVec 64) (n : Int) : YS v n = some (YZ v n, ()) := zj6 v n
def zF (m : List (BitVec 64)) (c : zr) : List (BitVec 64) × zr :=
  if c.Out ≠ 0 ∨ (c.Kind ≠ 1 ∧ c.Kind ≠ 2) ∨ c.PC < 0 ∨ 3 ≤ c.PC then (m, c)
  else if c.PC = 0 then
    (m, if c.Kind = 2 ∧ yB (ld m c.Head) = 0 then { c with H := ld m c.Head, Out := 2, PC := 1 } else { c with H := ld m c.Head, PC := 1 })
  else if c.PC = 1 then
    if c.Kind = 2 then (m, { c with Y := (ld m (wc (c.Next + yB c.H))).toInt, PC := 2 })
    else (st m (wc (c.Next + c.X)) (BitVec.ofInt 64 (yB c.H)), { c with PC := 2 })
  else
    let r := sw m c.Head c.H (YZ ((c.H >>> 32) + 1#64) (if c.Kind = 2 then c.Y else c.X))
    (r.1, if r.2 then (if c.Kind = 2 then { c with X := yB c.H, Out := 1, PC := 3 } else { c with Out := 1, PC := 3 }) else { c with PC := 0 })
theorem zg2 {m : List (BitVec 64)} (hm : m.length < 4294967296) (c : zr) : WN m c = some ((zF m c).1, (zF m c).2, ()) := by
  have hsee : xI m c = some (m, (if c.Kind = 2 ∧ yB (ld m c.Head) = 0 then { c with H := ld m c.Head, Out := 2 } else { c with H := ld m c.Head }), ()) := by
    rw [zcM, zk2, Option.bind_some, zcF, Option.bind_some, zp, zp]
    by_cases h1 : c.Kind = 2
    · by_cases h2 : yB (ld m c.Head) = 0
      · rw [if_pos h1, if_pos h2, if_pos ⟨h1, h2⟩]
      · rw [if_pos h1, if_neg h2, if_neg (fun h => h2 h.2)]
    · rw [if_neg h1, if_neg (fun h => h1 h.1)]
  have hlink : uX m c = some (st m (wc (c.Next + c.X)) (BitVec.ofInt 64 (yB c.H)), ()) := by
    rw [zeg, wD, zcF, Option.bind_some, Vu hm]; rfl
  have hbeh : wX m c = some (m, { c with Y := (ld m (wc (c.Next + yB c.H))).toInt }, ()) := by
    rw [zaE, wD, zcF, Option.bind_some, zk2]; rfl
  have hswap : xA m c = some ((sw m c.Head c.H (YZ ((c.H >>> 32) + 1#64) (if c.Kind = 2 then c.Y else c.X))).1,
      (if (sw m c.Head c.H (YZ ((c.H >>> 32) + 1#64) (if c.Kind = 2 then c.Y else c.X))).2 then (if c.Kind = 2 then { c with X := yB c.H, Out := 1 } else { c with Out := 1 }) else { c with PC := -1 }), ()) := by
    rw [zb6, zp]
    by_cases h1 : c.Kind = 2
    · rw [if_pos h1, zcW, Option.bind_some]
      obtain ⟨v, hv⟩ := zl4 hm c.Head c.H (YZ ((c.H >>> 32) + 1#64) c.Y)
      simp only [if_pos h1]
      rw [hv, Option.bind_some]
      cases hs : (sw m c.Head c.H (YZ ((c.H >>> 32) + 1#64) c.Y)).2 with
      | true => simp [hs, h1, zcF]
      | false => simp [hs]
    · rw [if_neg h1, zcW, Option.bind_some]
      obtain ⟨v, hv⟩ := zl4 hm c.Head c.H (YZ ((c.H >>> 32) + 1#64) c.X)
      simp only [if_neg h1]
      rw [hv, Option.bind_some]
      cases hs : (sw m c.Head c.H (YZ ((c.H >>> 32) + 1#64) c.X)).2 with
      | true => simp [hs, h1]
      | false => simp [hs]
  rw [zkf, hsee, hlink, hbeh, hswap]
  simp only [zp, z8, Option.bind_some]
  unfold zF
  by_cases h0 : c.Out = 0
  · by_cases hp0 : c.PC < 0
    · have : (c.Out ≠ 0 ∨ (c.Kind ≠ 1 ∧ c.Kind ≠ 2) ∨ c.PC < 0 ∨ 3 ≤ c.PC) := .inr (.inr (.inl hp0))
      rw [if_pos this]
      simp [h0, hp0]
    · by_cases hp3 : 3 ≤ c.PC
      · have : (c.Out ≠ 0 ∨ (c.Kind ≠ 1 ∧ c.Kind ≠ 2) ∨ c.PC < 0 ∨ 3 ≤ c.PC) := .inr (.inr (.inr hp3))
        rw [if_pos this]
        simp [h0, hp3]
      · by_cases hk : c.Kind = 1 ∨ c.Kind = 2
        · have : ¬ (c.Out ≠ 0 ∨ (c.Kind ≠ 1 ∧ c.Kind ≠ 2) ∨ c.PC < 0 ∨ 3 ≤ c.PC) := by
            rintro (h | h | h | h)
            · exact h h0
            · omega
            · exact hp0 h
            · exact hp3 h
          rw [if_neg this]
          have hpc : c.PC = 0 ∨ c.PC = 1 ∨ c.PC = 2 := by omega
          have w1 : w64 1 = 1 := yg (by omega) (by omega)
          have w2 : w64 2 = 2 := yg (by omega) (by omega)
          have w3 : w64 3 = 3 := yg (by omega) (by omega)
          have w4 : w64 0 = 0 := yg (by omega) (by omega)
          rcases hk with hk | hk <;> rcases hpc with hpc | hpc | hpc <;> simp [h0, hk, hpc, w1, w2, w3, w4] <;> (try split) <;> simp [hpc, w1, w3, w4]
        · have : (c.Out ≠ 0 ∨ (c.Kind ≠ 1 ∧ c.Kind ≠ 2) ∨ c.PC < 0 ∨ 3 ≤ c.PC) := .inr (.inl (by omega))
          rw [if_pos this]
          have k1 : ¬ c.Kind = 1 := by omega
          have k2 : ¬ c.Kind = 2 := by omega
          simp [h0, k1, k2]
  · have : (c.Out ≠ 0 ∨ (c.Kind ≠ 1 ∧ c.Kind ≠ 2) ∨ c.PC < 0 ∨ 3 ≤ c.PC) := .inl h0
    rw [if_pos this]
    simp [h0]
end
end Go.Pe.G
namespace Go.Pe.G
open Go.Pe
noncomputable section
def W5 (d : zh) : BitVec 64 := BitVec.ofInt 64 (if d.Cap < 1 then 1 else d.Cap)
def UI (d : zh) (i : BitVec 64) : Int := wc (wc (d.Base + 2) + (i % W5 d).toInt)
def vQ (m : List (BitVec 64)) (d : zh) : List (BitVec 64) × zh :=
  if d.Out ≠ 0 ∨ d.PC < 0 ∨ 4 ≤ d.PC then (m, d)
  else if d.PC = 0 then (m, { d with B := ld m (wc (d.Base + 1)), PC := 1 })
  else if d.PC = 1 then (m, if W5 d ≤ d.B - ld m d.Base then { d with T := ld m d.Base, Out := 3, PC := 2 } else { d with T := ld m d.Base, PC := 2 })
  else if d.PC = 2 then (st m (UI d d.B) (BitVec.ofInt 64 d.X), { d with PC := 3 })
  else (st m (wc (d.Base + 1)) (d.B + 1#64), { d with Out := 1, PC := 4 })
theorem zoO : w64 0 = 0 ∧ w64 1 = 1 ∧ w64 2 = 2 ∧ w64 3 = 3 ∧ w64 4 = 4 := by
  refine ⟨?_, ?_, ?_, ?_, ?_⟩ <;> exact yg (by omega) (by omega)
theorem zri {d : zh} (h : d.Cap < 1000) : W5 d ≠ 0#64 := by
  unfold W5
  intro e
  have := congrArg BitVec.toNat e
  rw [BitVec.toNat_ofInt] at this
  split at this <;> simp at this <;> omega
theorem zka (d : zh) : Zb d = some (W5 d, ()) := by
  rw [zem]; unfold W5; rw [zp]
theorem ze1 {d : zh} (h : d.Cap < 1000) (i : BitVec 64) : wQ i d = some (UI d i, ()) := by
  rw [zdN, wD, zka, Option.bind_some, zp, if_neg (zri h)]; rfl
theorem zeU {m : List (BitVec 64)} (hm : m.length < 4294967296) {d : zh} (hk : d.Kind = 1) (hc : d.Cap < 1000) : WO m d = some ((vQ m d).1, (vQ m d).2, ()) := by
  obtain ⟨w0, w1, w2, w3, w4⟩ := zoO
  have h0 : xk m d = some (m, { d with B := ld m (wc (d.Base + 1)) }, ()) := by
    rw [ZK, yJ, wD, Option.bind_some, Z9]; rfl
  have h1 : ZQ m d = some (m, (if W5 d ≤ d.B - ld m d.Base then { d with T := ld m d.Base, Out := 3 } else { d with T := ld m d.Base }), ()) := by
    rw [zb3, ue, Option.bind_some, Z9, Option.bind_some, zka, Option.bind_some, zp]
    have e : W5 { d with T := ld m d.Base } = W5 d := rfl
    simp only [e]
    by_cases h : W5 d ≤ d.B - ld m d.Base
    · rw [if_pos h, if_pos h, xf]
      simp [hk]
    · rw [if_neg h, if_neg h]
  have h2 : X8 m d = some (st m (UI d d.B) (BitVec.ofInt 64 d.X), ()) := by
    rw [zfu, ze1 hc, Option.bind_some, Vt hm]; rfl
  have h3 : uI m d = some (st m (wc (d.Base + 1)) (d.B + 1#64), { d with Out := 1 }, ()) := by
    rw [zai, xf]
    simp only [decide_true, Bool.not_true, cond_false, Option.bind_some, yJ, wD]
    rw [Vt hm]; rfl
  rw [zeL, h0, h1, h2, h3, zct]
  simp only [hk, decide_true, cond_true, Option.bind_some, z8, zp]
  have key : ∀ (x : Option (List (BitVec 64) × zh × Unit)) (v : List (BitVec 64) × zh × Unit) (y : Option (List (BitVec 64) × zh × Unit)), x = some v → Option.or x y = some v := by
    rintro _ v y rfl; rfl
  apply key
  unfold vQ
  by_cases g0 : d.Out = 0
  · by_cases g1 : d.PC < 0
    · simp [g0, g1]
    · by_cases g2 : 4 ≤ d.PC
      · simp [g0, g2]
      · have hpc : d.PC = 0 ∨ d.PC = 1 ∨ d.PC = 2 ∨ d.PC = 3 := by omega
        rcases hpc with h | h | h | h <;> simp [g0, h, hk, w1, w2, w3, w4] <;> (try split) <;> simp [h, hk, w2]
  · simp [g0]
def wq (p : zd) : Int := wc (p.Workers * wc (p.Cap + 2))
def yz (p : zd) : Int := wc (wq p + 1)
def uM (p : zd) (w : Int) : Int := wc (wc (w - 1) * wc (p.Cap + 2))
theorem zcT (p : zd) : Y8 p = some (wq p, ()) := by rw [zj0, wD]; rfl
theorem zbn (p : zd) : Z0 p = some (yz p, ()) := by rw [zjv, wD, zcT]; rfl
theorem zaf (p : zd) : Zl p = some (yz p, ()) := by rw [zk5, zbn]; rfl
theorem zbq (p : zd) (w : Int) : XJ p w = some (uM p w, ()) := by rw [zjx, wD]; rfl
def zmh (p : zd) (g : zx) : zx := { g with PC := 5, C := ⟨2, 0, yz p, yz p, 0#64, 0, 0, 0⟩ }
theorem zgo (a : zt) : xX a = some (⟨zmh a.s.P a.Grey, a.s⟩, ()) := by
  rw [zdA, zbn, Option.bind_some, zaf, Option.bind_some, XE]; rfl
def zkL (s : zc) (g : zx) : zc × zx :=
  let t := zeN s.T g.Obj
  ({ s with T := t.1 },
    if t.2 = false then { g with PC := 2 }
    else if g.Mode = 1 then { g with PC := 3, D := ⟨1, 0, uM s.P g.Who, s.P.Cap, 0#64, 0#64, g.Obj, 0⟩ }
    else if g.Mode = 2 then { g with PC := 4 }
    else zmh s.P g)
def zii (s : zc) (g : zx) : zc × zx :=
  let r := vQ s.M g.D
  ({ s with M := r.1 }, if r.2.Out = 1 then { g with D := r.2, Out := 1 } else if r.2.Out = 3 then zmh s.P { g with D := r.2 } else { g with D := r.2 })
def zif (s : zc) (g : zx) : zc × zx :=
  let r := zF s.M g.C
  ({ s with M := r.1 }, if r.2.Out = 1 then { g with PC := 6, C := r.2, Bin := r.2.X } else if r.2.Out = 2 then zmh s.P { g with C := r.2 } else { g with C := r.2 })
def zsL (s : zc) (g : zx) : zc × zx :=
  ({ s with Bins := s.Bins.set g.Bin.toNat [g.Obj] }, { g with PC := 7, C := ⟨1, 0, wq s.P, yz s.P, 0#64, g.Bin, 0, 0⟩ })
def zdP (s : zc) (g : zx) : zc × zx :=
  let r := zF s.M g.C
  ({ s with M := r.1 }, if r.2.Out = 1 then { g with C := r.2, Out := 1 } else { g with C := r.2 })
def z7 (s : zc) (g : zx) : zc × zx :=
  if g.Out ≠ 0 ∨ g.Mode < 1 ∨ 3 < g.Mode ∨ g.PC < 0 ∨ 8 ≤ g.PC then (s, g)
  else if g.PC = 7 then zdP s g
  else if g.PC = 6 then zsL s g
  else if g.PC = 5 then zif s g
  else if g.PC = 4 then ({ s with Flag := true }, zmh s.P g)
  else if g.PC = 3 then zii s g
  else if g.PC = 2 then ({ s with Work := wc (s.Work - 1) }, { g with Out := 1 })
  else if g.PC = 1 then zkL s g
  else ({ s with Work := wc (s.Work + 1) }, { g with PC := 1 })
structure GOk (s : zc) (g : zx) : Prop where
  mem : s.M.length < 4294967296
  bins : s.Bins.length < 4294967296
  bin : g.PC = 6 → 0 ≤ g.Bin ∧ g.Bin < s.Bins.length
  deq : g.PC = 3 → g.D.Kind = 1 ∧ g.D.Cap < 1000
theorem zrz {s : zc} {g : zx} (ok : GOk s g) : zbf s g = some ((z7 s g).1, (z7 s g).2, ()) := by
  rw [zmc]
  simp only [zp, z8]
  unfold z7
  by_cases h0 : g.Out = 0
  rotate_left
  · rw [if_neg h0, if_pos (.inl h0)]
  rw [if_pos h0]
  by_cases h1 : g.Mode < 1
  · rw [if_pos h1, if_pos (.inr (.inl h1))]
  rw [if_neg h1]
  by_cases h2 : 3 < g.Mode
  · rw [if_pos h2, if_pos (.inr (.inr (.inl h2)))]
  rw [if_neg h2]
  by_cases h3 : g.PC < 0
  · rw [if_pos h3, if_pos (.inr (.inr (.inr (.inl h3))))]
  rw [if_neg h3]
  by_cases h4 : 8 ≤ g.PC
  · rw [if_pos h4, if_pos (.inr (.inr (.inr (.inr h4))))]
  rw [if_neg h4, if_neg (show ¬ (g.Out ≠ 0 ∨ g.Mode < 1 ∨ 3 < g.Mode ∨ g.PC < 0 ∨ 8 ≤ g.PC) by omega)]
  by_cases p7 : g.PC = 7
  · rw [if_pos p7, if_pos p7, zaN]
    simp only [zg2 ok.mem, Option.bind_some, zp]
    by_cases e : (zF s.M g.C).2.Out = 1 <;> simp [zdP, e]
  rw [if_neg p7, if_neg p7]
  by_cases p6 : g.PC = 6
  · rw [if_pos p6, if_pos p6, zcB]
    obtain ⟨b1, b2⟩ := ok.bin p6
    simp only [zkt ok.bins, Option.bind_some, Zg (l := s.Bins) b1 b2, zcT, zaf, XE]
    rfl
  rw [if_neg p6, if_neg p6]
  by_cases p5 : g.PC = 5
  · rw [if_pos p5, if_pos p5, zcN]
    simp only [zg2 ok.mem, Option.bind_some, zp, zgo]
    by_cases e : (zF s.M g.C).2.Out = 1
    · simp [zif, e]
    · by_cases e2 : (zF s.M g.C).2.Out = 2 <;> simp [zif, e, e2]
  rw [if_neg p5, if_neg p5]
  by_cases p4 : g.PC = 4
  · rw [if_pos p4, if_pos p4, zcV, zgo]; rfl
  rw [if_neg p4, if_neg p4]
  by_cases p3 : g.PC = 3
  · rw [if_pos p3, if_pos p3, zcD]
    obtain ⟨b1, b2⟩ := ok.deq p3
    simp only [zeU ok.mem b1 b2, Option.bind_some, zp, zgo]
    by_cases e : (vQ s.M g.D).2.Out = 1
    · simp [zii, e]
    · by_cases e2 : (vQ s.M g.D).2.Out = 3 <;> simp [zii, e, e2]
  rw [if_neg p3, if_neg p3]
  by_cases p2 : g.PC = 2
  · rw [if_pos p2, if_pos p2, zcz, wD]; rfl
  rw [if_neg p2, if_neg p2]
  by_cases p1 : g.PC = 1
  · rw [if_pos p1, if_pos p1, zc2]
    simp only [zqj, Option.bind_some, zp, zgo, zbq, Xl]
    unfold zkL
    cases hs : (zeN s.T g.Obj).2 with
    | false => simp [hs]
    | true =>
      by_cases m1 : g.Mode = 1
      · simp [hs, m1]
      · by_cases m2 : g.Mode = 2 <;> simp [hs, m1, m2]
  rw [if_neg p1, if_neg p1, if_pos (show g.PC = 0 by omega), zaF, wD]; rfl
end
end Go.Pe.G
namespace Go.Pe.G
open Go.Pe
noncomputable section
theorem xJ {b k : Int} (h : 0 ≤ b) (hk : 0 < k) : 0 ≤ b.tmod k ∧ b.tmod k < k := by
  rw [Int.tmod_eq_emod_of_nonneg h]; exact ⟨Int.emod_nonneg _ (by omega), Int.emod_lt_of_pos _ hk⟩
def zdm (o : zi) (regs slots : Int) : Prop := (0 ≤ o.R ∧ o.R < regs) ∧
  ((o.Kind = 1 ∨ o.Kind = 2) ∧ (0 ≤ o.A ∧ o.A < regs) ∧ (0 ≤ o.S ∧ o.S < slots) ∨ o.Kind = 4 ∧ (0 ≤ o.A ∧ o.A < regs) ∧ o.S = 0 ∨ (o.Kind = 3 ∨ o.Kind = 5) ∧ o.A = 0 ∧ o.S = 0)
structure zX (p : zd) : Prop where
  wk : 1 ≤ p.Workers ∧ p.Workers ≤ 3
  mt : 0 ≤ p.Mutators ∧ p.Mutators ≤ 2
  cap : 1 ≤ p.Cap ∧ p.Cap ≤ 3
  buf : 1 ≤ p.Buf ∧ p.Buf ≤ 2
  bin : 1 ≤ p.Bin ∧ p.Bin ≤ 3
  price : 0 ≤ p.Price ∧ p.Price ≤ 3
  limit : 0 ≤ p.Limit ∧ p.Limit ≤ 3
  slots : 1 ≤ p.H.Slots ∧ p.H.Slots ≤ 2
  n : 1 ≤ (p.H.Objs.length : Int) ∧ (p.H.Objs.length : Int) ≤ 6
  objs : ∀ o ∈ p.H.Objs, (o.length : Int) = p.H.Slots ∧ ∀ v ∈ o, 0 ≤ v ∧ v ≤ (p.H.Objs.length : Int)
  most : (p.H.Objs.length : Int) ≤ p.Most ∧ p.Most ≤ (p.H.Objs.length : Int) + 3
  roots : ∃ r, 0 ≤ r ∧ r ≤ (p.H.Objs.length : Int) ∧ p.Roots = bit r
  regs : (p.Regs.length : Int) = p.Mutators
  progs : (p.Progs.length : Int) = p.Mutators
  reg : ∀ r ∈ p.Regs, (1 ≤ (r.length : Int) ∧ (r.length : Int) ≤ 3) ∧ ∀ v ∈ r, 0 ≤ v ∧ v ≤ (p.H.Objs.length : Int)
  prog : ∀ (k : Nat) r ops, p.Regs[k]? = some r → p.Progs[k]? = some ops → (ops.length : Int) ≤ 7 ∧ ∀ o ∈ ops, zdm o (r.length : Int) p.H.Slots
  picks : p.Picks = []
end
end Go.Pe.G
namespace Go.Pe.G
open Go.Pe
noncomputable section
namespace B15
def ZT (m : zu) : Prop := 0 ≤ m.At ∧ m.At ≤ m.L.length ∧ m.L.length ≤ 90
theorem wj {m : zu} (h : ZT m) : ∃ b m', zq m = some (b, m', ()) ∧ (0 ≤ b ∧ b < 256) ∧ ZT m' := by
  obtain ⟨h1, h2, h3⟩ := h
  rw [zaq, zp]
  by_cases h : (m.L.length : Int) ≤ m.At
  · rw [if_pos h]; exact ⟨_, _, rfl, by omega, h1, h2, h3⟩
  · rw [if_neg h, yg (a := m.At + 1) (by omega) (by omega), yg (by omega) (by omega), Y3 (by omega), List.getElem?_eq_getElem (by omega), Option.bind_some]
    exact ⟨_, _, rfl, by have := (m.L[(m.At + 1 - 1).toNat]'(by omega)).isLt; omega, show 0 ≤ m.At + 1 by omega, show m.At + 1 ≤ m.L.length by omega, h3⟩
theorem zub {m : zu} (h : ZT m) {regs slots : Int} (hr : 1 ≤ regs) (hs : 1 ≤ slots) : ∃ o m', Zv regs slots m = some (o, m', ()) ∧ zdm o regs slots ∧ ZT m' := by
  obtain ⟨b1, m1, e1, r1, k1⟩ := wj h
  obtain ⟨b2, m2, e2, r2, k2⟩ := wj k1
  obtain ⟨b3, m3, e3, r3, k3⟩ := wj k2
  obtain ⟨b4, m4, e4, r4, k4⟩ := wj k3
  have t1 := xJ r1.1 (show (0 : Int) < 8 by omega)
  have t2 := xJ r2.1 (show (0 : Int) < regs by omega)
  have t3 := xJ r3.1 (show (0 : Int) < regs by omega)
  have t4 := xJ r4.1 (show (0 : Int) < slots by omega)
  have t5 := xJ r3.1 (show (0 : Int) < slots by omega)
  have hn : ¬ regs = 0 := by omega
  have hn2 : ¬ slots = 0 := by omega
  rw [zbA, e1, Option.bind_some, Zg t1.1 (by simpa using t1.2), Option.bind_some]
  have hx : b1.tmod 8 = 0 ∨ b1.tmod 8 = 1 ∨ b1.tmod 8 = 2 ∨ b1.tmod 8 = 3 ∨ b1.tmod 8 = 4 ∨ b1.tmod 8 = 5 ∨ b1.tmod 8 = 6 ∨ b1.tmod 8 = 7 := by omega
  rcases hx with hx | hx | hx | hx | hx | hx | hx | hx <;> simp [hx, e2, e3, e4, hn, hn2] <;> refine ⟨_, _, ⟨rfl, rfl⟩, ?_, by assumption⟩ <;> (unfold zdm; dsimp only; omega)
theorem zrS {s1 : Int} {s2 : Int} {s4 : Int} {s5 : Int} {s6 : Int} {s7 : Int} {s8 : Int} {s9 : Int} {s10 : Int} {s11 : Int} {s12 : Int} {s13 : BitVec 64} {s15 : Int} {s16 : Int} {s17 : Int} {s18 : Int} {s19 : Int} {s20 : Int} {s21 : Int} {s22 : Int} {s23 : Int} {s24 : BitVec 64} {s26 : List (List Int)} {s27 : List (List Int)} {s28 : List (List zi)} {s29 : List zj} {s30 : List (List Int)} {s31 : List (List Int)} {s32 : List (List zi)} {s33 : List zj} (hn : 1 ≤ s1 ∧ s1 ≤ 6) (hs : 1 ≤ s23 ∧ s23 ≤ 2) {mk : zu} (hm : ZT mk) :
    ∃ mk' l, z3 uv (s1, s2, 0, s4, s5, s6, s7, s8, s9, s10, s11, s12, s13, mk, s15, s16, s17, s18, s19, s20, s21, s22, s23, s24, [], s26, s27, s28, s29, s30, s31, s32, s33, ()) = some (.brk (s1, s2, s4, s5, s6, s7, s8, s9, s10, s11, s12, s13, mk', s15, s16, s17, s18, s19, s20, s21, s22, s23, s24, l, s26, s27, s28, s29, s30, s31, s32, s33, ())) ∧ ZT mk' ∧ (l.length : Int) = s23 ∧ ∀ v ∈ l, 0 ≤ v ∧ v ≤ s1 := by
  refine (vz (f := uv)
    (fun a => ∃ i mk l, a = (s1, s2, i, s4, s5, s6, s7, s8, s9, s10, s11, s12, s13, mk, s15, s16, s17, s18, s19, s20, s21, s22, s23, s24, l, s26, s27, s28, s29, s30, s31, s32, s33, ()) ∧ ZT mk ∧ (0 ≤ i ∧ i ≤ s23 ∧ (l.length : Int) = i) ∧ ∀ v ∈ l, 0 ≤ v ∧ v ≤ s1)
    (fun a => (s23 - a.2.2.1).toNat)
    (fun o => match o with | .brk b => ∃ mk l, b = (s1, s2, s4, s5, s6, s7, s8, s9, s10, s11, s12, s13, mk, s15, s16, s17, s18, s19, s20, s21, s22, s23, s24, l, s26, s27, s28, s29, s30, s31, s32, s33, ()) ∧ ZT mk ∧ (l.length : Int) = s23 ∧ ∀ v ∈ l, 0 ≤ v ∧ v ≤ s1 | _ => False) ?_
    (s1, s2, 0, s4, s5, s6, s7, s8, s9, s10, s11, s12, s13, mk, s15, s16, s17, s18, s19, s20, s21, s22, s23, s24, [], s26, s27, s28, s29, s30, s31, s32, s33, ()) ⟨0, mk, [], rfl, hm, by simp; omega, by simp⟩ (xi (by simp; omega))).elim fun o h => ?_
  rotate_left
  · obtain ⟨ho, hq⟩ := h
    cases o with
    | again a => exact hq.elim
    | ret a => exact hq.elim
    | brk b =>
      obtain ⟨mk', l, rfl, h1, h2, h3⟩ := hq
      exact ⟨mk', l, ho, h1, h2, h3⟩
  · rintro _ ⟨i, mk, l, rfl, h1, h2, h3⟩
    rw [zdR, zp]
    by_cases hi : i < s23
    · rw [if_pos hi]
      obtain ⟨b, mk', e, r, k⟩ := wj h1
      have w1 : w64 (s1 + 1) = s1 + 1 := yg (by omega) (by omega)
      have t := xJ r.1 (show 0 < s1 + 1 by omega)
      rw [e, Option.bind_some, w1, zp, if_neg (by omega), xW (by simp; omega), Option.bind_some, yg (a := i + 1) (by omega) (by omega)]
      refine ⟨_, rfl, ⟨i + 1, mk', l ++ [b.tmod (s1 + 1)], rfl, k, by simp; omega, fun v hv => ?_⟩, ?_⟩
      · rcases List.mem_append.1 hv with hv | hv
        · exact h3 v hv
        · simp at hv; omega
      · show (s23 - (i + 1)).toNat < (s23 - i).toNat
        omega
    · rw [if_neg hi]
      exact ⟨_, rfl, mk, l, rfl, h1, by omega, h3⟩
theorem ztk {s1 : Int} {s3 : Int} {s4 : Int} {s5 : Int} {s6 : Int} {s7 : Int} {s8 : Int} {s9 : Int} {s10 : Int} {s11 : Int} {s12 : BitVec 64} {s14 : Int} {s15 : Int} {s16 : Int} {s17 : Int} {s18 : Int} {s19 : Int} {s20 : Int} {s21 : Int} {s22 : Int} {s23 : BitVec 64} {s24 : List (List Int)} {s25 : List (List Int)} {s26 : List (List zi)} {s27 : List zj} {s29 : List (List Int)} {s30 : List (List zi)} {s31 : List zj} (hn : 1 ≤ s1 ∧ s1 ≤ 6) (hs : 1 ≤ s22 ∧ s22 ≤ 2) {mk : zu} (hm : ZT mk) :
    ∃ mk' l, z3 uW (s1, 0, s3, s4, s5, s6, s7, s8, s9, s10, s11, s12, mk, s14, s15, s16, s17, s18, s19, s20, s21, s22, s23, s24, s25, s26, s27, [], s29, s30, s31, ()) = some (.brk (s1, s3, s4, s5, s6, s7, s8, s9, s10, s11, s12, mk', s14, s15, s16, s17, s18, s19, s20, s21, s22, s23, s24, s25, s26, s27, l, s29, s30, s31, ())) ∧ ZT mk' ∧ (l.length : Int) = s1 ∧ ∀ o ∈ l, (o.length : Int) = s22 ∧ ∀ v ∈ o, 0 ≤ v ∧ v ≤ s1 := by
  refine (vz (f := uW)
    (fun a => ∃ i mk l, a = (s1, i, s3, s4, s5, s6, s7, s8, s9, s10, s11, s12, mk, s14, s15, s16, s17, s18, s19, s20, s21, s22, s23, s24, s25, s26, s27, l, s29, s30, s31, ()) ∧ ZT mk ∧ (0 ≤ i ∧ i ≤ s1 ∧ (l.length : Int) = i) ∧ ∀ o ∈ l, (o.length : Int) = s22 ∧ ∀ v ∈ o, 0 ≤ v ∧ v ≤ s1)
    (fun a => (s1 - a.2.1).toNat)
    (fun o => match o with | .brk b => ∃ mk l, b = (s1, s3, s4, s5, s6, s7, s8, s9, s10, s11, s12, mk, s14, s15, s16, s17, s18, s19, s20, s21, s22, s23, s24, s25, s26, s27, l, s29, s30, s31, ()) ∧ ZT mk ∧ (l.length : Int) = s1 ∧ ∀ o ∈ l, (o.length : Int) = s22 ∧ ∀ v ∈ o, 0 ≤ v ∧ v ≤ s1 | _ => False) ?_
    (s1, 0, s3, s4, s5, s6, s7, s8, s9, s10, s11, s12, mk, s14, s15, s16, s17, s18, s19, s20, s21, s22, s23, s24, s25, s26, s27, [], s29, s30, s31, ()) ⟨0, mk, [], rfl, hm, by simp; omega, by simp⟩ (xi (by simp; omega))).elim fun o h => ?_
  rotate_left
  · obtain ⟨ho, hq⟩ := h
    cases o with
    | again a => exact hq.elim
    | ret a => exact hq.elim
    | brk b =>
      obtain ⟨mk', l, rfl, h1, h2, h3⟩ := hq
      exact ⟨mk', l, ho, h1, h2, h3⟩
  · rintro _ ⟨i, mk, l, rfl, h1, h2, h3⟩
    rw [zel, zp]
    by_cases hi : i < s1
    · rw [if_pos hi]
      obtain ⟨mk', o, e, g1, g2, g3⟩ := zrS hn hs h1
      rw [e]
      simp only [Option.bind_some]
      rw [xW (by simp; omega), Option.bind_some, yg (a := i + 1) (by omega) (by omega)]
      refine ⟨_, rfl, ⟨i + 1, mk', l ++ [o], rfl, g1, by simp; omega, fun v hv => ?_⟩, ?_⟩
      · rcases List.mem_append.1 hv with hv | hv
        · exact h3 v hv
        · simp at hv; subst hv; exact ⟨g2, g3⟩
      · show (s1 - (i + 1)).toNat < (s1 - i).toNat
        omega
    · rw [if_neg hi]
      exact ⟨_, rfl, mk, l, rfl, h1, by omega, h3⟩
theorem zsy {s1 : Int} {s2 : Int} {s4 : Int} {s5 : Int} {s6 : Int} {s7 : Int} {s8 : Int} {s9 : Int} {s10 : Int} {s11 : Int} {s12 : Int} {s13 : BitVec 64} {s15 : Int} {s16 : Int} {s17 : Int} {s18 : Int} {s19 : Int} {s20 : Int} {s21 : Int} {s22 : Int} {s23 : Int} {s24 : BitVec 64} {s26 : List (List Int)} {s27 : List (List Int)} {s28 : List (List zi)} {s29 : List zj} {s30 : List (List Int)} {s31 : List (List Int)} {s32 : List (List zi)} {s33 : List zj} (hn : 1 ≤ s1 ∧ s1 ≤ 6) {mk : zu} (hm : ZT mk) :
    ∃ mk' l, z3 uu (s1, s2, 0, s4, s5, s6, s7, s8, s9, s10, s11, s12, s13, mk, s15, s16, s17, s18, s19, s20, s21, s22, s23, s24, [], s26, s27, s28, s29, s30, s31, s32, s33, ()) = some (.brk (s1, s2, s4, s5, s6, s7, s8, s9, s10, s11, s12, s13, mk', s15, s16, s17, s18, s19, s20, s21, s22, s23, s24, l, s26, s27, s28, s29, s30, s31, s32, s33, ())) ∧ ZT mk' ∧ (1 ≤ (l.length : Int) ∧ (l.length : Int) ≤ 3) ∧ ∀ v ∈ l, 0 ≤ v ∧ v ≤ s1 := by
  refine (vz (f := uu)
    (fun a => ∃ i mk l, a = (s1, s2, i, s4, s5, s6, s7, s8, s9, s10, s11, s12, s13, mk, s15, s16, s17, s18, s19, s20, s21, s22, s23, s24, l, s26, s27, s28, s29, s30, s31, s32, s33, ()) ∧ ZT mk ∧ (0 ≤ i ∧ i ≤ 3 ∧ (l.length : Int) = i) ∧ ∀ v ∈ l, 0 ≤ v ∧ v ≤ s1)
    (fun a => (3 - a.2.2.1).toNat)
    (fun o => match o with | .brk b => ∃ mk l, b = (s1, s2, s4, s5, s6, s7, s8, s9, s10, s11, s12, s13, mk, s15, s16, s17, s18, s19, s20, s21, s22, s23, s24, l, s26, s27, s28, s29, s30, s31, s32, s33, ()) ∧ ZT mk ∧ (1 ≤ (l.length : Int) ∧ (l.length : Int) ≤ 3) ∧ ∀ v ∈ l, 0 ≤ v ∧ v ≤ s1 | _ => False) ?_
    (s1, s2, 0, s4, s5, s6, s7, s8, s9, s10, s11, s12, s13, mk, s15, s16, s17, s18, s19, s20, s21, s22, s23, s24, [], s26, s27, s28, s29, s30, s31, s32, s33, ()) ⟨0, mk, [], rfl, hm, by simp, by simp⟩ (xi (by simp))).elim fun o h => ?_
  rotate_left
  · obtain ⟨ho, hq⟩ := h
    cases o with
    | again a => exact hq.elim
    | ret a => exact hq.elim
    | brk b =>
      obtain ⟨mk', l, rfl, h1, h2, h3⟩ := hq
      exact ⟨mk', l, ho, h1, h2, h3⟩
  · rintro _ ⟨i, mk, l, rfl, h1, h2, h3⟩
    obtain ⟨b0, mk0, e0, r0, k0⟩ := wj h1
    have t0 := xJ r0.1 (show (0 : Int) < 3 by omega)
    rw [zdF, e0, Option.bind_some, zp, yg (a := 1 + b0.tmod 3) (by omega) (by omega)]
    by_cases hi : i < 1 + b0.tmod 3
    · rw [if_pos hi]
      obtain ⟨b, mk', e, r, k⟩ := wj k0
      have w1 : w64 (s1 + 1) = s1 + 1 := yg (by omega) (by omega)
      have t := xJ r.1 (show 0 < s1 + 1 by omega)
      rw [e, Option.bind_some, w1, zp, if_neg (by omega), xW (by simp; omega), Option.bind_some, yg (a := i + 1) (by omega) (by omega)]
      refine ⟨_, rfl, ⟨i + 1, mk', l ++ [b.tmod (s1 + 1)], rfl, k, by simp; omega, fun v hv => ?_⟩, ?_⟩
      · rcases List.mem_append.1 hv with hv | hv
        · exact h3 v hv
        · simp at hv; omega
      · show (3 - (i + 1)).toNat < (3 - i).toNat
        omega
    · rw [if_neg hi]
      exact ⟨_, rfl, mk0, l, rfl, k0, by omega, h3⟩
theorem zrQ {s1 : Int} {s2 : Int} {s4 : Int} {s5 : Int} {s6 : Int} {s7 : Int} {s8 : Int} {s9 : Int} {s10 : Int} {s11 : Int} {s12 : Int} {s13 : BitVec 64} {s15 : Int} {s16 : Int} {s17 : Int} {s18 : Int} {s19 : Int} {s20 : Int} {s21 : Int} {s22 : Int} {s23 : Int} {s24 : BitVec 64} {s25 : List Int} {s27 : List (List Int)} {s28 : List (List Int)} {s29 : List (List zi)} {s30 : List zj} {s31 : List (List Int)} {s32 : List (List Int)} {s33 : List (List zi)} {s34 : List zj} (hr : 1 ≤ (s25.length : Int)) (hs : 1 ≤ s23 ∧ s23 ≤ 2) {k0 : Int} (hk : 0 ≤ k0 ∧ k0 < 8) {mk : zu} (hm : ZT mk) :
    ∃ mk' l, z3 wP (s1, s2, k0, s4, s5, s6, s7, s8, s9, s10, s11, s12, s13, mk, s15, s16, s17, s18, s19, s20, s21, s22, s23, s24, s25, [], s27, s28, s29, s30, s31, s32, s33, s34, ()) = some (.brk (s1, s2, s4, s5, s6, s7, s8, s9, s10, s11, s12, s13, mk', s15, s16, s17, s18, s19, s20, s21, s22, s23, s24, s25, l, s27, s28, s29, s30, s31, s32, s33, s34, ())) ∧ ZT mk' ∧ (l.length : Int) ≤ 7 ∧ ∀ o ∈ l, zdm o (s25.length : Int) s23 := by
  refine (vz (f := wP)
    (fun a => ∃ i mk l, a = (s1, s2, i, s4, s5, s6, s7, s8, s9, s10, s11, s12, s13, mk, s15, s16, s17, s18, s19, s20, s21, s22, s23, s24, s25, l, s27, s28, s29, s30, s31, s32, s33, s34, ()) ∧ ZT mk ∧ (0 ≤ i ∧ (l.length : Int) + i ≤ 7) ∧ ∀ o ∈ l, zdm o (s25.length : Int) s23)
    (fun a => (a.2.2.1).toNat)
    (fun o => match o with | .brk b => ∃ mk l, b = (s1, s2, s4, s5, s6, s7, s8, s9, s10, s11, s12, s13, mk, s15, s16, s17, s18, s19, s20, s21, s22, s23, s24, s25, l, s27, s28, s29, s30, s31, s32, s33, s34, ()) ∧ ZT mk ∧ (l.length : Int) ≤ 7 ∧ ∀ o ∈ l, zdm o (s25.length : Int) s23 | _ => False) ?_
    (s1, s2, k0, s4, s5, s6, s7, s8, s9, s10, s11, s12, s13, mk, s15, s16, s17, s18, s19, s20, s21, s22, s23, s24, s25, [], s27, s28, s29, s30, s31, s32, s33, s34, ()) ⟨k0, mk, [], rfl, hm, by simp; omega, by simp⟩ (xi (by simp; omega))).elim fun o h => ?_
  rotate_left
  · obtain ⟨ho, hq⟩ := h
    cases o with
    | again a => exact hq.elim
    | ret a => exact hq.elim
    | brk b =>
      obtain ⟨mk', l, rfl, h1, h2, h3⟩ := hq
      exact ⟨mk', l, ho, h1, h2, h3⟩
  · rintro _ ⟨i, mk, l, rfl, h1, h2, h3⟩
    rw [zdB, zp]
    by_cases hi : 0 < i
    · rw [if_pos hi]
      obtain ⟨o, mk', e, r, k⟩ := zub h1 hr hs.1
      rw [e, Option.bind_some, xW (by simp; omega), Option.bind_some, yg (a := i - 1) (by omega) (by omega)]
      refine ⟨_, rfl, ⟨i - 1, mk', l ++ [o], rfl, k, by simp; omega, fun v hv => ?_⟩, ?_⟩
      · rcases List.mem_append.1 hv with hv | hv
        · exact h3 v hv
        · simp at hv; subst hv; exact r
      · show (i - 1).toNat < i.toNat
        omega
    · rw [if_neg hi]
      exact ⟨_, rfl, mk, l, rfl, h1, by omega, h3⟩
theorem zsF {s1 : Int} {s3 : Int} {s4 : Int} {s5 : Int} {s6 : Int} {s7 : Int} {s8 : Int} {s9 : Int} {s10 : Int} {s11 : Int} {s12 : BitVec 64} {s14 : Int} {s15 : Int} {s16 : Int} {s17 : Int} {s18 : Int} {s19 : Int} {s20 : Int} {s21 : Int} {s22 : Int} {s23 : BitVec 64} {s24 : List (List Int)} {s25 : List (List Int)} {s26 : List (List zi)} {s27 : List zj} {s28 : List (List Int)} {s31 : List zj} (hn : 1 ≤ s1 ∧ s1 ≤ 6) (hm0 : 0 ≤ s15 ∧ s15 ≤ 2) (hs : 1 ≤ s22 ∧ s22 ≤ 2) {mk : zu} (hm : ZT mk) :
    ∃ regs progs, z3 uy (s1, 0, s3, s4, s5, s6, s7, s8, s9, s10, s11, s12, mk, s14, s15, s16, s17, s18, s19, s20, s21, s22, s23, s24, s25, s26, s27, s28, [], [], s31, ()) = some (.brk (s3, s4, s5, s6, s7, s8, s9, s10, s11, s12, s14, s15, s16, s17, s18, s19, s20, s21, s22, s23, s24, s25, s26, s27, s28, regs, progs, s31, ())) ∧ (regs.length : Int) = s15 ∧ (regs.length = progs.length) ∧ (∀ r ∈ regs, (1 ≤ (r.length : Int) ∧ (r.length : Int) ≤ 3) ∧ ∀ v ∈ r, 0 ≤ v ∧ v ≤ s1) ∧ ∀ (k : Nat) r ops, regs[k]? = some r → progs[k]? = some ops → (ops.length : Int) ≤ 7 ∧ ∀ o ∈ ops, zdm o (r.length : Int) s22 := by
  refine (vz (f := uy)
    (fun a => ∃ i mk regs progs, a = (s1, i, s3, s4, s5, s6, s7, s8, s9, s10, s11, s12, mk, s14, s15, s16, s17, s18, s19, s20, s21, s22, s23, s24, s25, s26, s27, s28, regs, progs, s31, ()) ∧ ZT mk ∧ (0 ≤ i ∧ i ≤ s15 ∧ (regs.length : Int) = i) ∧ (regs.length = progs.length) ∧ (∀ r ∈ regs, (1 ≤ (r.length : Int) ∧ (r.length : Int) ≤ 3) ∧ ∀ v ∈ r, 0 ≤ v ∧ v ≤ s1) ∧ ∀ (k : Nat) r ops, regs[k]? = some r → progs[k]? = some ops → (ops.length : Int) ≤ 7 ∧ ∀ o ∈ ops, zdm o (r.length : Int) s22)
    (fun a => (s15 - a.2.1).toNat)
    (fun o => match o with | .brk b => ∃ regs progs, b = (s3, s4, s5, s6, s7, s8, s9, s10, s11, s12, s14, s15, s16, s17, s18, s19, s20, s21, s22, s23, s24, s25, s26, s27, s28, regs, progs, s31, ()) ∧ (regs.length : Int) = s15 ∧ (regs.length = progs.length) ∧ (∀ r ∈ regs, (1 ≤ (r.length : Int) ∧ (r.length : Int) ≤ 3) ∧ ∀ v ∈ r, 0 ≤ v ∧ v ≤ s1) ∧ ∀ (k : Nat) r ops, regs[k]? = some r → progs[k]? = some ops → (ops.length : Int) ≤ 7 ∧ ∀ o ∈ ops, zdm o (r.length : Int) s22 | _ => False) ?_
    (s1, 0, s3, s4, s5, s6, s7, s8, s9, s10, s11, s12, mk, s14, s15, s16, s17, s18, s19, s20, s21, s22, s23, s24, s25, s26, s27, s28, [], [], s31, ()) ⟨0, mk, [], [], rfl, hm, by simp; omega, rfl, by simp, by simp⟩ (xi (by simp; omega))).elim fun o h => ?_
  rotate_left
  · obtain ⟨ho, hq⟩ := h
    cases o with
    | again a => exact hq.elim
    | ret a => exact hq.elim
    | brk b =>
      obtain ⟨regs, progs, rfl, h⟩ := hq
      exact ⟨regs, progs, ho, h⟩
  · rintro _ ⟨i, mk, regs, progs, rfl, h1, h2, h3, h4, h5⟩
    rw [zdi, zp]
    by_cases hi : i < s15
    · rw [if_pos hi]
      obtain ⟨mk1, r, e, g1, g2, g3⟩ := zsy hn h1
      rw [e]
      simp only [Option.bind_some]
      rw [zp, if_neg (by omega)]
      obtain ⟨b, mk2, e2, r2, k2⟩ := wj g1
      rw [e2, Option.bind_some]
      obtain ⟨mk3, ops, e3, f1, f2, f3⟩ := zrQ (s25 := r) g2.1 hs (xJ r2.1 (show (0 : Int) < 8 by omega)) k2
      rw [e3]
      simp only [Option.bind_some]
      rw [xW (by simp; omega), Option.bind_some, xW (by simp; omega), Option.bind_some, yg (a := i + 1) (by omega) (by omega)]
      refine ⟨_, rfl, ⟨i + 1, mk3, regs ++ [r], progs ++ [ops], rfl, f1, by simp; omega, by simp [h3], fun v hv => ?_, fun k r' ops' hk1 hk2 => ?_⟩, ?_⟩
      · rcases List.mem_append.1 hv with hv | hv
        · exact h4 v hv
        · simp at hv; subst hv; exact ⟨g2, g3⟩
      · rcases Nat.lt_or_ge k regs.length with hlt | hge
        · rw [List.getElem?_append_left hlt] at hk1
          rw [List.getElem?_append_left (by omega)] at hk2
          exact h5 k r' ops' hk1 hk2
        · rw [List.getElem?_append_right hge] at hk1
          rw [List.getElem?_append_right (by omega), ← h3] at hk2
          have hk0 : k - regs.length = 0 := by
            have := (List.getElem?_eq_some_iff.1 hk1).1
            simpa using this
          rw [hk0] at hk1 hk2
          simp at hk1 hk2
          subst hk1; subst hk2
          exact ⟨f2, f3⟩
      · show (s15 - (i + 1)).toNat < (s15 - i).toNat
        omega
    · rw [if_neg hi]
      exact ⟨_, rfl, regs, progs, rfl, by omega, h3, h4, h5⟩
theorem ztj (l : List (BitVec 8)) : ∃ p, Vf l = some (p, ()) ∧ zX p := by
  rw [zgv, zp]
  obtain ⟨m, em, hl⟩ : ∃ m, cut l 0 (if 90 < (l.length : Int) then 90 else (l.length : Int)) = some m ∧ m.length ≤ 90 := by
    unfold cut
    by_cases h : 90 < (l.length : Int)
    · have h2 : (90 : Int) ≤ l.length := by omega
      rw [if_pos h]; exact ⟨l.take 90, by simp [h2], List.length_take_le _ _⟩
    · rw [if_neg h]; exact ⟨l, by simp, by omega⟩
  rw [em, Option.bind_some]
  obtain ⟨b1, m1, e1, r1, k1⟩ := wj (m := ⟨m, 0⟩) ⟨by simp, by simp, hl⟩
  obtain ⟨b2, m2, e2, r2, k2⟩ := wj k1
  obtain ⟨b3, m3, e3, r3, k3⟩ := wj k2
  obtain ⟨b4, m4, e4, r4, k4⟩ := wj k3
  obtain ⟨b5, m5, e5, r5, k5⟩ := wj k4
  obtain ⟨b6, m6, e6, r6, k6⟩ := wj k5
  obtain ⟨b7, m7, e7, r7, k7⟩ := wj k6
  obtain ⟨b8, m8, e8, r8, k8⟩ := wj k7
  obtain ⟨b9, m9, e9, r9, k9⟩ := wj k8
  obtain ⟨b10, m10, e10, r10, k10⟩ := wj k9
  simp only [e1, e2, e3, e4, e5, e6, e7, e8, e9, e10, Option.bind_some]
  have t1 := xJ r1.1 (show (0 : Int) < 3 by omega)
  have t2 := xJ r2.1 (show (0 : Int) < 3 by omega)
  have t3 := xJ r3.1 (show (0 : Int) < 3 by omega)
  have t4 := xJ r4.1 (show (0 : Int) < 2 by omega)
  have t5 := xJ r5.1 (show (0 : Int) < 3 by omega)
  have t6 := xJ r6.1 (show (0 : Int) < 4 by omega)
  have t7 := xJ r7.1 (show (0 : Int) < 4 by omega)
  have t8 := xJ r8.1 (show (0 : Int) < 2 by omega)
  have t9 := xJ r9.1 (show (0 : Int) < 6 by omega)
  have t10 := xJ r10.1 (show (0 : Int) < 4 by omega)
  rw [yg (a := 1 + b9.tmod 6) (by omega) (by omega), yg (a := 1 + b1.tmod 3) (by omega) (by omega), yg (a := 1 + b3.tmod 3) (by omega) (by omega), yg (a := 1 + b4.tmod 2) (by omega) (by omega), yg (a := 1 + b5.tmod 3) (by omega) (by omega),
    yg (a := 1 + b9.tmod 6 + b10.tmod 4) (by omega) (by omega), yg (a := 1 + b8.tmod 2) (by omega) (by omega)]
  obtain ⟨m11, objs, e11, g1, g2, g3⟩ := ztk (s1 := 1 + b9.tmod 6) (s22 := 1 + b8.tmod 2) (by omega) (by omega) k10
  rw [e11]
  simp only [Option.bind_some]
  obtain ⟨b12, m12, e12, r12, k12⟩ := wj g1
  rw [e12, Option.bind_some, yg (a := 1 + b9.tmod 6 + 1) (by omega) (by omega), zp, if_neg (by omega)]
  have t12 := xJ r12.1 (show (0 : Int) < 1 + b9.tmod 6 + 1 by omega)
  rw [zir, Option.bind_some]
  obtain ⟨regs, progs, e13, f1, f2, f3, f4⟩ := zsF (s1 := 1 + b9.tmod 6) (s15 := b2.tmod 3) (s22 := 1 + b8.tmod 2) (by omega) (by omega) (by omega) k12
  rw [e13]
  simp only [Option.bind_some]
  refine ⟨_, rfl, ?_⟩
  constructor <;> dsimp only
  case objs => intro o ho; rw [g2]; exact g3 o ho
  case roots => exact ⟨b12.tmod (1 + b9.tmod 6 + 1), by omega, by omega, by simp⟩
  case reg => rw [g2]; exact f3
  case prog => exact f4
  all_goals first | omega | rfl
end B15
end
end Go.Pe.G
namespace Go.Pe.G
open Go.Pe
noncomputable section
theorem WU {α β B C : Type} {f : List α × Int × Int × β → Option (yE (List α × Int × Int × β) B C)} {l : List α} {e : β} {b : B} (hl : l.length < 1000000)
    (h1 : ∀ (i : Nat) (x : α), l[i]? = some x → f (l, (l.length : Int), (i : Int), e) = some (.again (l, (l.length : Int), ((i + 1 : Nat) : Int), e)))
    (h2 : f (l, (l.length : Int), (l.length : Int), e) = some (.brk b)) : z3 f (l, (l.length : Int), 0, e) = some (.brk b) := by
  refine (vz (f := f) (fun a => ∃ i : Nat, a = (l, (l.length : Int), (i : Int), e) ∧ i ≤ l.length) (fun a => l.length - a.2.2.1.toNat) (fun o => o = .brk b) ?_ (l, (l.length : Int), 0, e) ⟨0, rfl, by omega⟩ (xi (by simp; omega))).elim fun o h => ?_
  rotate_left
  · rw [h.1, h.2]
  · rintro _ ⟨i, rfl, hi⟩
    rcases Nat.lt_or_ge i l.length with hlt | hge
    · refine ⟨_, h1 i _ (List.getElem?_eq_getElem hlt), ⟨i + 1, rfl, hlt⟩, ?_⟩
      show l.length - ((i + 1 : Nat) : Int).toNat < l.length - (i : Int).toNat
      omega
    · have : i = l.length := by omega
      subst this
      exact ⟨_, h2, rfl⟩
theorem xy {α : Type} {l : List α} {i : Nat} {x : α} (h : l[i]? = some x) : idx l (i : Int) = some x := by
  rw [Y3 (by omega)]; simpa using h
theorem xM {α : Type} {l : List α} {i : Nat} {x : α} (h : l[i]? = some x) : (i : Int) < (l.length : Int) := by
  have := (List.getElem?_eq_some_iff.1 h).1; omega
theorem yC {i : Nat} (h : i < 1000000) : w64 ((i : Int) + 1) = ((i + 1 : Nat) : Int) := by
  rw [yg (by omega) (by omega)]; omega
theorem zbd (a b c : Int) : wh a b c = some (decide (b ≤ a ∧ a ≤ c), ()) := by
  rw [zjV, zp]
  by_cases h : b ≤ a
  · rw [if_pos h]; simp [h]
  · rw [if_neg h]; simp [h]
theorem zqf {l : List Int} {h : zv} (hl : l.length < 1000000) (hv : ∀ v ∈ l, 0 ≤ v ∧ v ≤ (h.Objs.length : Int)) : vl l h = some (false, ()) := by
  rw [VK, zab, WU (b := ()) hl (fun i x hx => ?_) (by rw [Ze]; simp)]
  · rfl
  · have hm := hv x (List.mem_of_getElem? hx)
    have hlt := xM hx
    rw [Ze, zp, if_pos hlt, xy hx, Option.bind_some, zhe, zp, if_neg (show ¬ x < 0 by omega), Option.bind_some, yC (by omega)]
    simp [show ¬ (h.Objs.length : Int) < x by omega]
theorem zqQ {l : List Int} {n : Int} (hl : l.length < 1000000) (hv : ∀ v ∈ l, 0 ≤ v ∧ v ≤ n) : wz l n = some (false, ()) := by
  rw [WP, Vy, WU (b := ()) hl (fun i x hx => ?_) (by rw [un]; simp)]
  · rfl
  · have hm := hv x (List.mem_of_getElem? hx)
    have hlt := xM hx
    rw [un, xy hx, Option.bind_some, ziH, zbd, Option.bind_some, Option.bind_some, yC (by omega), zp, if_pos hlt]
    simp [hm]
theorem zqK {l : List (List Int)} {h : zv} (hl : l.length < 1000000) (hs : h.Slots < 1000000) (hv : ∀ o ∈ l, (o.length : Int) = h.Slots ∧ ∀ v ∈ o, 0 ≤ v ∧ v ≤ (h.Objs.length : Int)) : wK l h = some (false, ()) := by
  rw [WS, V6, WU (b := ()) hl (fun i x hx => ?_) (by rw [uq]; simp)]
  · rfl
  · have hm := hv x (List.mem_of_getElem? hx)
    have hlt := xM hx
    rw [uq, xy hx, Option.bind_some, ziw, z8, if_pos hm.1, zqf (by omega) hm.2, Option.bind_some, Option.bind_some, yC (by omega), zp, if_pos hlt]
    rfl
theorem zlf {r n : Int} (h : 0 ≤ r ∧ r < n) (h2 : n ≤ 4) : zH r n = some (true, ()) := by
  rw [ziG, zp, if_pos h.1, zp]
  rw [if_neg (by omega)]
  simp [h.2]
theorem zr9 {o : zi} {regs slots : Int} (h : zdm o regs slots) (h2 : regs ≤ 4) (h3 : slots ≤ 4) : zea o regs slots = some (true, ()) := by
  obtain ⟨hr, h⟩ := h
  have e1 := zlf hr h2
  have h4 : ¬ 4 < slots := by omega
  rw [zj1]
  rcases h with ⟨hk | hk, ha, hs⟩ | ⟨hk, ha, hs⟩ | ⟨hk | hk, ha, hs⟩
  · have e2 := zlf ha h2
    simp [hk, e1, e2, hs.1, hs.2, h4]
  · have e2 := zlf ha h2
    simp [hk, e1, e2, hs.1, hs.2, h4]
  · have e2 := zlf ha h2
    simp [hk, e1, e2, hs]
  · simp [hk, e1, ha, hs]
  · simp [hk, e1, ha, hs]
theorem zta {l : List zi} {regs slots : Int} (hl : (l.length : Int) ≤ 64) (h : ∀ o ∈ l, zdm o regs slots) (h2 : regs ≤ 4) (h3 : slots ≤ 4) : zfi l regs slots = some (true, ()) := by
  rw [zlX, zp, if_pos hl, Xe, Wj, WU (b := ()) (by omega) (fun i x hx => ?_) (by rw [vh]; simp)]
  · rfl
  · have hlt := xM hx
    rw [vh, xy hx, Option.bind_some, zje, zr9 (h x (List.mem_of_getElem? hx)) h2 h3, Option.bind_some, Option.bind_some, yC (by omega), zp, if_pos hlt]
    rfl
theorem zrG (a b : Int) : zdy [] a b = some (true, ()) := by
  rw [zkJ, Z2, Y9, WU (b := ()) (by simp) (fun i x hx => by simp at hx) (by rw [Z6]; simp)]
  rfl
def Vz (n : Int) : BitVec 64 := if n < 1 then 0#64 else 18446744073709551615#64 >>> (64 - min n 64).toNat
theorem zrB (n : Int) (h : 0 ≤ n) : zfc n = some (Vz n, ()) := by
  rw [zlI, zp]
  unfold Vz
  by_cases h1 : n < 1
  · rw [if_pos h1, if_pos h1]
  · rw [if_neg h1, if_neg h1]
    simp only [zp]
    have e : (if 64 < n then (64 : Int) else n) = min n 64 := by
      by_cases h2 : 64 < n
      · rw [if_pos h2]; omega
      · rw [if_neg h2]; omega
    rw [e, yg (by omega) (by omega), if_neg (by omega), Nat.min_eq_left (by omega)]
theorem zmG : ∀ (r n : Fin 7), r.1 ≤ n.1 → bit (r.1 : Int) &&& ~~~Vz (n.1 : Int) = 0#64 := by decide
theorem ziU {p : zd} (h : zX p) : p.Roots &&& ~~~Vz (p.H.Objs.length : Int) = 0#64 := by
  obtain ⟨r, h1, h2, h3⟩ := h.roots
  have hn := h.n
  have := zmG ⟨r.toNat, by omega⟩ ⟨p.H.Objs.length, by omega⟩ (by show r.toNat ≤ p.H.Objs.length; omega)
  rw [h3]
  simpa [Int.toNat_of_nonneg h1] using this
theorem zqt {p : zd} (h : zX p) : Vr p = some (true, ()) := by
  obtain ⟨h1, h2, h3, h4, h5, h6, h7, _⟩ := h
  rw [zgP]
  simp only [zbd, Option.bind_some, zp]
  rw [if_pos (by omega), if_pos (by omega), if_pos (by omega), if_pos (by omega), if_pos (by omega), if_pos (by split <;> omega)]
  have : (if p.Price < p.Limit then p.Limit else p.Price) ≤ 1000000 := by split <;> omega
  simp [this]
theorem zqE {p : zd} (h : zX p) : zd3 p.H = some (true, ()) := by
  have := h.slots
  have := h.n
  rw [zkP, zp, if_pos (by omega), zp, if_pos (by omega), zp, if_pos (by omega), zqK (by omega) (by omega) h.objs]
  rfl
theorem zpX {p : zd} (h : zX p) : zd0 p = some (true, ()) := by
  have hn := h.n
  have hm := h.most
  have hsl := h.slots
  have hmt := h.mt
  have hrl := h.regs
  have hpl := h.progs
  rw [zky, zqt h]
  simp only [Option.bind_some, Bool.not_true, cond_false, zqE h, zbd]
  rw [show decide ((p.H.Objs.length : Int) ≤ p.Most ∧ p.Most ≤ 64) = true by simp; omega]
  simp only [Bool.not_true, cond_false, zrB _ (show (0 : Int) ≤ (p.H.Objs.length : Int) by omega), Option.bind_some, zlQ, ziU h, decide_true, z8, if_pos h.regs, if_pos h.progs]
  rw [WU (b := (p, ())) (by omega) (fun i x hx => ?_) (by rw [zbG]; simp)]
  · simp [h.picks, zrG]
  · have hlt := xM hx
    have hr := h.reg x (List.mem_of_getElem? hx)
    obtain ⟨ops, hops⟩ : ∃ ops, p.Progs[i]? = some ops := ⟨_, List.getElem?_eq_getElem (by omega)⟩
    obtain ⟨o1, o2⟩ := h.prog i x ops hx hops
    rw [zbG, zp, if_pos hlt, xy hx]
    simp only [Option.bind_some, zbd]
    rw [show decide (1 ≤ (x.length : Int) ∧ (x.length : Int) ≤ 4) = true by simp; omega]
    simp only [Bool.not_true, cond_false, zqQ (show x.length < 1000000 by omega) hr.2, Option.bind_some, xy hops, zta (show (ops.length : Int) ≤ 64 by omega) o2 (show (x.length : Int) ≤ 4 by omega) (show p.H.Slots ≤ 4 by omega), yC (show i < 1000000 by omega)]
end
end Go.Pe.G
namespace Go.Pe.G
open Go.Pe
noncomputable section
theorem VZ {n : Int} (h : 0 ≤ n) (h2 : n < 4294967296) : ZG n = some n.toNat := by rw [zm1]; simp [h, h2]
theorem zmy {n : Int} (h : 0 < n) (h2 : n < 4294967296) : zbV n = some n.toNat := by rw [zk3]; simp [h, h2]
def zj8 (l : List Int) : BitVec 64 := l.foldl (fun s o => s ||| bit o) 0#64
def YP (p : zd) : BitVec 64 := p.Regs.foldl (fun s l => s ||| zj8 l) p.Roots
def zuj (a1 : BitVec 64) : BitVec 64 :=
  let a := ((a1 >>> 1) &&& 6148914691236517205#64) + (a1 &&& 6148914691236517205#64)
  let b := ((a >>> 2) &&& 3689348814741910323#64) + (a &&& 3689348814741910323#64)
  let c := ((b >>> 4) + b) &&& 1085102592571150095#64
  let d := c + (c >>> 8)
  let e := d + (d >>> 16)
  e + (e >>> 32)
def cnt (s : BitVec 64) : Int := (BitVec.ofInt 64 (zuj s).toInt &&& BitVec.ofInt 64 127).toInt
theorem zq2 (s : BitVec 64) : zfs s = some (cnt s, ()) := by
  rw [zlV, zgb, zn4]; rfl
theorem Ye {m : List Int} (h : m.length < 4294967296) : yf m = some (m, ()) := by
  rw [zco, List.nil_append, xW h, Option.bind_some]
  cases m with
  | nil => simp [zbI]
  | cons a l => simp
theorem ztx {l : List Int} (hl : l.length < 1000000) : zjw l = some (zj8 l, ()) := by
  rw [zo6]
  refine (vz (f := zfy) (fun a => ∃ i : Nat, a = ((l.take i).foldl (fun s o => s ||| bit o) 0#64, l, (l.length : Int), (i : Int), ()) ∧ i ≤ l.length) (fun a => l.length - a.2.2.2.1.toNat) (fun o => o = .brk (zj8 l, ())) ?_ (0#64, l, (l.length : Int), 0, ()) ⟨0, rfl, by omega⟩ (xi (by simp; omega))).elim fun o h => ?_
  rotate_left
  · rw [h.1, h.2]; rfl
  · rintro _ ⟨i, rfl, hi⟩
    rw [zmj, zp]
    rcases Nat.lt_or_ge i l.length with hlt | hge
    · have hx := List.getElem?_eq_getElem hlt
      rw [if_pos (by omega), xy hx, Option.bind_some, zir, Option.bind_some, yC (by omega)]
      refine ⟨_, rfl, ⟨i + 1, ?_, hlt⟩, ?_⟩
      · rw [List.take_add_one, hx]; simp only [Option.toList_some, List.foldl_append, List.foldl_cons, List.foldl_nil]
      · show l.length - ((i + 1 : Nat) : Int).toNat < l.length - (i : Int).toNat
        omega
    · rw [if_neg (by omega)]
      have : i = l.length := by omega
      subst this
      exact ⟨_, rfl, by rw [List.take_length]; rfl⟩
theorem zp0 {p : zd} (hl : p.Regs.length < 1000000) (hr : ∀ r ∈ p.Regs, r.length < 1000000) : zdh p = some (YP p, ()) := by
  rw [zkB]
  refine (vz (f := U5) (fun a => ∃ i : Nat, a = ((p.Regs.take i).foldl (fun s l => s ||| zj8 l) p.Roots, p.Regs, (p.Regs.length : Int), (i : Int), ()) ∧ i ≤ p.Regs.length) (fun a => p.Regs.length - a.2.2.2.1.toNat) (fun o => o = .brk (YP p, ())) ?_ (p.Roots, p.Regs, (p.Regs.length : Int), 0, ()) ⟨0, rfl, by omega⟩ (xi (by simp; omega))).elim fun o h => ?_
  rotate_left
  · rw [h.1, h.2]; rfl
  · rintro _ ⟨i, rfl, hi⟩
    rw [zh3, zp]
    rcases Nat.lt_or_ge i p.Regs.length with hlt | hge
    · have hx := List.getElem?_eq_getElem hlt
      rw [if_pos (by omega), xy hx, Option.bind_some, ztx (hr _ (List.getElem_mem hlt)), Option.bind_some, yC (by omega)]
      refine ⟨_, rfl, ⟨i + 1, ?_, hlt⟩, ?_⟩
      · rw [List.take_add_one, hx]; simp only [Option.toList_some, List.foldl_append, List.foldl_cons, List.foldl_nil]
      · show p.Regs.length - ((i + 1 : Nat) : Int).toNat < p.Regs.length - (i : Int).toNat
        omega
    · rw [if_neg (by omega)]
      have : i = p.Regs.length := by omega
      subst this
      exact ⟨_, rfl, by rw [List.take_length]; rfl⟩
theorem zhr {l : List (List Int)} (hl : l.length < 1000000) (h : ∀ r ∈ l, r.length < 1000000) : uO l = some (l, ()) := by
  have key : ∀ n : Int, n = (l.length : Int) → z3 vn (n, 0, l, ()) = some (.brk (l, ())) := by
    rintro _ rfl
    refine (vz (f := vn) (fun a => ∃ i : Nat, a = ((l.length : Int), (i : Int), l, ()) ∧ i ≤ l.length) (fun a => l.length - a.2.1.toNat) (fun o => o = .brk (l, ())) ?_ ((l.length : Int), 0, l, ()) ⟨0, rfl, by omega⟩ (xi (by simp; omega))).elim fun o h => ?_
    rotate_left
    · rw [h.1, h.2]
    · rintro _ ⟨i, rfl, hi⟩
      rw [zev, zp]
      rcases Nat.lt_or_ge i l.length with hlt | hge
      · have hx := List.getElem?_eq_getElem hlt
        have hr := h _ (List.getElem_mem hlt)
        have e : ve l (i : Int) = some i := by rw [Zg (by omega) (by omega)]; simp
        rw [if_pos (by omega), e]
        simp only [Option.bind_some]
        rw [hx, Option.bind_some, Ye (by omega), Option.bind_some, yC (by omega)]
        refine ⟨_, rfl, ⟨i + 1, by simp, hlt⟩, ?_⟩
        show l.length - ((i + 1 : Nat) : Int).toNat < l.length - (i : Int).toNat
        omega
      · rw [if_neg (by omega)]
        have : i = l.length := by omega
        subst this
        exact ⟨_, rfl, rfl⟩
  have hc : ZG (l.length : Int) = some l.length := by rw [VZ (by omega) (by omega)]; simp
  rw [zge]
  simp only [decide_true, cond_true, hc, Option.bind_some, List.length_replicate]
  cases l with
  | nil => simp; rw [key 0 rfl]; rfl
  | cons a r => simp only [List.isEmpty_cons, cond_false]; rw [key _ rfl]; rfl
def zf6 (cap : Int) : List (BitVec 64) := [1#64, 1#64] ++ List.replicate cap.toNat 0#64
theorem zph {c : Int} (h : 1 ≤ c) (h2 : c ≤ 64) : zb4 c = some (zf6 c, ()) := by
  have e : (if 64 < (if c < 1 then (1 : Int) else c) then (64 : Int) else (if c < 1 then (1 : Int) else c)) = c := by
    rw [if_neg (show ¬ c < 1 by omega), if_neg (by omega)]
  have w : w64 (2 + c) = 2 + c := yg (by omega) (by omega)
  have hc : ZG (2 + c) = some (2 + c.toNat) := by rw [VZ (by omega) (by omega)]; congr 1; omega
  rw [zjD]
  simp only [zp, e, w, if_true, hc, Option.bind_some]
  rw [Zg (by omega) (by simp; omega), Option.bind_some, Zg (by omega) (by simp; omega), Option.bind_some]
  have e2 : List.replicate (2 + c.toNat) 0#64 = 0#64 :: 0#64 :: List.replicate c.toNat 0#64 := by rw [Nat.add_comm 2]; rfl
  rw [e2]; rfl
theorem zqb {m : Int} (h : 0 ≤ m) (h2 : m ≤ 16) : zdE m = some (⟨0, 0, 0, List.replicate m.toNat 0⟩, ()) := by
  have e : (if (if 16 < m then (16 : Int) else m) < 0 then (0 : Int) else (if 16 < m then (16 : Int) else m)) = m := by
    rw [if_neg (show ¬ 16 < m by omega), if_neg (by omega)]
  have hc : ZG m = some m.toNat := VZ (by omega) (by omega)
  rw [zk1]
  simp only [zp, e, if_true, hc, Option.bind_some]
def links (m : List (BitVec 64)) (next : Int) : List Int → List (BitVec 64)
  | [] => m
  | [a] => st m (wc (next + a)) 0#64
  | a :: b :: l => links (st m (wc (next + a)) (BitVec.ofInt 64 b)) next (b :: l)
def zgV (m : List (BitVec 64)) (head next : Int) (l : List Int) : List (BitVec 64) := st (links m next l) head (YZ 0#64 (l.headD 0))
theorem XR (m : List (BitVec 64)) (a : Int) (v : BitVec 64) : (st m a v).length = m.length := by unfold st; split <;> simp
theorem zeT : ∀ (l : List Int) (m : List (BitVec 64)) (n : Int), (links m n l).length = m.length
  | [], _, _ => rfl
  | [a], m, n => XR _ _ _
  | a :: b :: l, m, n => by simp only [links]; rw [zeT (b :: l), XR]
theorem zjm (m : List (BitVec 64)) (h n : Int) (l : List Int) : (zgV m h n l).length = m.length := by unfold zgV; rw [XR, zeT]
theorem zjr {head next : Int} {l : List Int} (hl : l.length < 1000000) : ∀ (k : Nat) (m : List (BitVec 64)) (i : Nat), l.length - i = k → i ≤ l.length → m.length < 4294967296 →
    ∀ n, k < n → uk za1 n (m, head, next, l, (l.length : Int), (i : Int), ()) = some (.brk (links m next (l.drop i), head, l, ()))
  | 0, m, i, hk, hi, hm, n + 1, hn => by
    have : i = l.length := by omega
    subst this
    simp only [uk]
    rw [zcu, zp, if_neg (by omega), Option.bind_some, List.drop_length]; rfl
  | k + 1, m, i, hk, hi, hm, n + 1, hn => by
    have hlt : i < l.length := by omega
    have hx := List.getElem?_eq_getElem hlt
    simp only [uk]
    rw [zcu, zp, if_pos (by omega), yC (by omega), zp, wD]
    by_cases h2 : i + 1 < l.length
    · have hy := List.getElem?_eq_getElem h2
      have ed : l.drop i = l[i] :: l[i + 1] :: l.drop (i + 2) := by
        rw [List.drop_eq_getElem_cons hlt, List.drop_eq_getElem_cons h2]
      rw [if_pos (by omega), xy hy, Option.bind_some, xy hx, Option.bind_some, Vu hm, Option.bind_some, Option.bind_some]
      dsimp only
      rw [zjr hl k _ (i + 1) (by omega) (by omega) (by rw [XR]; exact hm) n (by omega), ed]
      rw [List.drop_eq_getElem_cons h2]; rfl
    · have ed : l.drop i = [l[i]] := by
        rw [List.drop_eq_getElem_cons hlt, List.drop_eq_nil_of_le (by omega)]
      rw [if_neg (by omega), xy hx, Option.bind_some, Vu hm, Option.bind_some, Option.bind_some]
      dsimp only
      rw [zjr hl k _ (i + 1) (by omega) (by omega) (by rw [XR]; exact hm) n (by omega), ed, List.drop_eq_nil_of_le (by omega)]
      rfl
theorem zmH {m : List (BitVec 64)} (hm : m.length < 4294967296) {head next : Int} {l : List Int} (hl : l.length < 1000000) : zbc m head next l = some (zgV m head next l, ()) := by
  have e := zjr (head := head) (next := next) hl l.length m 0 (by omega) (by omega) hm YW (xi (by omega))
  rw [show ((0 : Nat) : Int) = 0 from rfl] at e
  rw [zlE, V9, e]
  simp only [Option.bind_some, List.drop_zero, zp]
  unfold zgV
  cases l with
  | nil =>
    rw [if_neg (by simp), zcW, Option.bind_some, Vu (by rw [zeT]; exact hm)]; rfl
  | cons a r =>
    have : idx (a :: r) 0 = some a := by rw [Y3 (by omega)]; rfl
    rw [if_pos (by simp), this, Option.bind_some, zcW, Option.bind_some, Vu (by rw [zeT]; exact hm)]; rfl
def znr : Nat → BitVec 64 → Option (List Int)
  | 0, _ => none
  | f + 1, s => bif decide (s = 0#64) then some [] else (znr f (s &&& (s - 1#64))).map fun l => (((Go.Lib.ctz 64 s.toNat : Nat) : Int) + 1) :: l
theorem zpq : ∀ t : Fin 64, znr 66 (BitVec.ofNat 64 t.1) = some (((List.range 6).filter fun i => (BitVec.ofNat 64 t.1).getLsbD i).map fun i : Nat => (i : Int) + 1) := by decide +kernel
def zbu (s : BitVec 64) : List Int := ((List.range 6).filter fun i => s.getLsbD i).map fun i : Nat => (i : Int) + 1
theorem znF {s : BitVec 64} (h : s &&& ~~~63#64 = 0#64) : ∃ t : Fin 64, s = BitVec.ofNat 64 t.1 := by
  have h2 : s = s &&& 63#64 := by
    apply BitVec.eq_of_getLsbD_eq
    intro i hi
    have := congrArg (fun x => x.getLsbD i) h
    simp only [BitVec.getLsbD_and, BitVec.getLsbD_not, hi, decide_true, Bool.true_and, BitVec.getLsbD_zero] at this ⊢
    cases h1 : s.getLsbD i <;> cases h3 : (63#64 : BitVec 64).getLsbD i <;> simp_all
  have h3 : s.toNat < 64 := by
    rw [h2, BitVec.toNat_and]
    exact Nat.lt_of_le_of_lt Nat.and_le_right (by decide)
  exact ⟨⟨s.toNat, h3⟩, by simp⟩
theorem zt3 : ∀ t : Fin 64, Go.Lib.ctz 64 t.1 ≤ 64 := by decide +kernel
theorem zmO : ∀ (f : Nat) (s : BitVec 64), s.toNat < 64 → Um f s = znr f s
  | 0, _, _ => rfl
  | f + 1, s, h => by
    simp only [Um, znr]
    rw [zmO f _ (by rw [BitVec.toNat_and]; exact Nat.lt_of_le_of_lt Nat.and_le_left h)]
    have : Go.Lib.ctz 64 s.toNat ≤ 64 := zt3 ⟨s.toNat, h⟩
    have e : w64 (tz s + 1) = ((Go.Lib.ctz 64 s.toNat : Nat) : Int) + 1 := by
      unfold tz
      exact yg (by omega) (by omega)
    rw [e]
theorem zkj : ∀ (l acc : List Int), (acc.length + l.length) < 4294967296 → uw zcc l (acc, ()) = some (acc ++ l, ())
  | [], acc, _ => by simp [uw]
  | a :: l, acc, h => by
    simp only [List.length_cons] at h
    rw [uw, zjQ, xW (by simp; omega), Option.bind_some, Option.bind_some, zkj l _ (by simp; omega)]
    simp
theorem zrj (s : BitVec 64) : (zbu s).length ≤ 6 := by
  unfold zbu
  rw [List.length_map]
  exact Nat.le_trans (List.length_filter_le _ _) (by simp)
theorem zsv {s : BitVec 64} (h : s &&& ~~~63#64 = 0#64) : zgi s = some (zbu s, ()) := by
  obtain ⟨t, rfl⟩ := znF h
  have e : zie (BitVec.ofNat 64 t.1) = some (zbu (BitVec.ofNat 64 t.1)) := by
    show Um 66 _ = _
    rw [zmO 66 _ (by simp; omega), zpq t]; rfl
  have := zrj (BitVec.ofNat 64 t.1)
  rw [zm6, zm5, Option.bind_some, e, Option.bind_some, zkj _ _ (by simp; omega)]
  rfl
theorem zkE (n : Nat) (hn : 1 ≤ n) : ∀ (f : Nat) (l : List Int), (uj n f l).length ≤ l.length
  | 0, l => by simp [uj]
  | f + 1, [] => by simp [uj]
  | f + 1, x :: l => by
    have := zkE n hn f ((x :: l).drop n)
    simp only [uj, List.length_cons, List.length_drop] at this ⊢
    omega
theorem zfk (n : Nat) : ∀ (f : Nat) (l c : List Int), c ∈ uj n f l → c.length ≤ l.length
  | 0, l, c, h => by simp [uj] at h
  | f + 1, [], c, h => by simp [uj] at h
  | f + 1, x :: l, c, h => by
    simp only [uj, List.mem_cons] at h
    rcases h with rfl | h
    · rw [List.length_take]; exact Nat.min_le_right _ _
    · have := zfk n f _ c h
      simp only [List.length_drop] at this
      omega
def XY (p : zd) (w : Nat) : ze := ⟨0, 0, 0, (w : Int) + 1, 0, [], ⟨2, 0, uM p ((w : Int) + 1), p.Cap, 0#64, 0#64, 0, 0⟩, ⟨0, 0, 0, 0, 0#64, 0, 0, 0⟩, ⟨0, 0, 0, 0, ⟨0, 0, 0, 0, 0#64, 0#64, 0, 0⟩, ⟨0, 0, 0, 0, 0#64, 0, 0, 0⟩, 0, 0⟩⟩
def YX (p : zd) (k : Nat) : List (BitVec 64) := (List.range k).flatMap fun _ => zf6 p.Cap
theorem zkz (c : Int) : (zf6 c).length = c.toNat + 2 := by unfold zf6; rw [List.length_append, List.length_replicate]; exact Nat.add_comm _ _
theorem zi8 (p : zd) (k : Nat) : YX p (k + 1) = YX p k ++ zf6 p.Cap := by unfold YX; rw [List.range_succ, List.flatMap_append]; simp
theorem zcx (p : zd) : ∀ k, (YX p k).length = k * (p.Cap.toNat + 2)
  | 0 => by simp [YX]
  | k + 1 => by rw [zi8, List.length_append, zcx p k, zkz, Nat.succ_mul]
theorem ztQ {p : zd} {s1 : BitVec 64} {s5 : Int} {s6 : Int} {s7 : Int} {s8 : Int} {s9 : Int} {s10 : Int} {s11 : Int} {s12 : Int} {s13 : Int} {s14 : BitVec 64} {s15 : Int} {s16 : zl} {s17 : Int} {s18 : Int} {s19 : Bool} {s20 : Bool} {s21 : Int} {s22 : Int} {s23 : Int} {s24 : Int} {s25 : zk} {s26 : zd} {s27 : Int} {s28 : zl} {s29 : Int} {s30 : Int} {s31 : Bool} {s32 : Bool} {s33 : Int} {s34 : zm} {s35 : zk} {s36 : List (List Int)} {s37 : List (List Int)} {s38 : List (List zi)} {s39 : List zj} {s40 : List (List Int)} {s41 : List (BitVec 64)} {s42 : List (List Int)} {s43 : List Int} {s44 : List Int} {s45 : List ze} {s46 : List zb} {s47 : List (List Int)} {s49 : List (List Int)} {s50 : List Int} {s52 : List zb} (hp : zX p) :
    z3 WR (s1, p.Workers, 0, p, s5, s6, s7, s8, s9, s10, s11, s12, s13, s14, s15, s16, s17, s18, s19, s20, s21, s22, s23, s24, s25, s26, s27, s28, s29, s30, s31, s32, s33, s34, s35, s36, s37, s38, s39, s40, s41, s42, s43, s44, s45, s46, s47, [], s49, s50, [], s52, ()) = some (.brk (s1, p, s5, s6, s7, s8, s9, s10, s11, s12, s13, s14, s15, s16, s17, s18, s19, s20, s21, s22, s23, s24, s25, s26, s27, s28, s29, s30, s31, s32, s33, s34, s35, s36, s37, s38, s39, s40, s41, s42, s43, s44, s45, s46, s47, (YX p p.Workers.toNat), s49, s50, ((List.range p.Workers.toNat).map (XY p)), s52, ())) := by
  have hw := hp.wk
  have hc := hp.cap
  refine (vz (f := WR) (fun a => ∃ i : Nat, a = (s1, p.Workers, (i : Int), p, s5, s6, s7, s8, s9, s10, s11, s12, s13, s14, s15, s16, s17, s18, s19, s20, s21, s22, s23, s24, s25, s26, s27, s28, s29, s30, s31, s32, s33, s34, s35, s36, s37, s38, s39, s40, s41, s42, s43, s44, s45, s46, s47, (YX p i), s49, s50, ((List.range i).map (XY p)), s52, ()) ∧ (i : Int) ≤ p.Workers) (fun a => (p.Workers - a.2.2.1).toNat) (fun o => o = .brk (s1, p, s5, s6, s7, s8, s9, s10, s11, s12, s13, s14, s15, s16, s17, s18, s19, s20, s21, s22, s23, s24, s25, s26, s27, s28, s29, s30, s31, s32, s33, s34, s35, s36, s37, s38, s39, s40, s41, s42, s43, s44, s45, s46, s47, (YX p p.Workers.toNat), s49, s50, ((List.range p.Workers.toNat).map (XY p)), s52, ())) ?_ (s1, p.Workers, 0, p, s5, s6, s7, s8, s9, s10, s11, s12, s13, s14, s15, s16, s17, s18, s19, s20, s21, s22, s23, s24, s25, s26, s27, s28, s29, s30, s31, s32, s33, s34, s35, s36, s37, s38, s39, s40, s41, s42, s43, s44, s45, s46, s47, [], s49, s50, [], s52, ()) ⟨0, rfl, by omega⟩ (xi (by dsimp only; omega))).elim fun o h => ?_
  rotate_left
  · rw [h.1, h.2]
  · rintro _ ⟨i, rfl, hi⟩
    rw [ziR, zp]
    by_cases hlt : (i : Int) < p.Workers
    · have hl := zcx p i
      have hl2 := zkz p.Cap
      have hb : i * (p.Cap.toNat + 2) ≤ 3 * 5 := Nat.mul_le_mul (by omega) (by omega)
      rw [if_pos hlt, zph hc.1 (by omega), Option.bind_some, xW (l := YX p i ++ zf6 p.Cap) (by rw [List.length_append]; omega), Option.bind_some, zbq, Option.bind_some, Xl, Option.bind_some, xW (by simp <;> omega), Option.bind_some, yC (by omega)]
      refine ⟨_, rfl, ⟨i + 1, ?_, by omega⟩, ?_⟩
      · rw [zi8, List.range_succ, List.map_append]; rfl
      · show (p.Workers - ((i + 1 : Nat) : Int)).toNat < (p.Workers - (i : Int)).toNat
        omega
    · rw [if_neg hlt]
      have : i = p.Workers.toNat := by omega
      subst this
      exact ⟨_, rfl, rfl⟩
def Zs (k : Nat) : List Int := (List.range k).map fun i : Nat => (i : Int) + 1
theorem znK (k : Nat) : (Zs k).length = k := by simp [Zs]
theorem ztd {b : Int} {s1 : BitVec 64} {s4 : zd} {s5 : Int} {s6 : Int} {s7 : Int} {s8 : Int} {s9 : Int} {s10 : Int} {s11 : Int} {s12 : Int} {s13 : Int} {s14 : BitVec 64} {s15 : Int} {s16 : zl} {s17 : Int} {s18 : Int} {s19 : Bool} {s20 : Bool} {s21 : Int} {s22 : Int} {s23 : Int} {s24 : Int} {s25 : zk} {s26 : zd} {s27 : Int} {s28 : zl} {s29 : Int} {s30 : Int} {s31 : Bool} {s32 : Bool} {s33 : Int} {s34 : zm} {s35 : zk} {s37 : List (List Int)} {s38 : List (List Int)} {s39 : List (List zi)} {s40 : List zj} {s41 : List (List Int)} {s42 : List (BitVec 64)} {s43 : List (List Int)} {s44 : List Int} {s45 : List Int} {s46 : List ze} {s47 : List zb} {s48 : List (List Int)} {s49 : List (BitVec 64)} {s50 : List (List Int)} {s51 : List Int} {s52 : List ze} {s53 : List zb} (hb : 0 ≤ b ∧ b < 1000) :
    z3 Wu (s1, b, 0, s4, s5, s6, s7, s8, s9, s10, s11, s12, s13, s14, s15, s16, s17, s18, s19, s20, s21, s22, s23, s24, s25, s26, s27, s28, s29, s30, s31, s32, s33, s34, s35, [], s37, s38, s39, s40, s41, s42, s43, s44, s45, s46, s47, s48, s49, s50, s51, s52, s53, ()) = some (.brk (s1, s4, s5, s6, s7, s8, s9, s10, s11, s12, s13, s14, s15, s16, s17, s18, s19, s20, s21, s22, s23, s24, s25, s26, s27, s28, s29, s30, s31, s32, s33, s34, s35, (Zs b.toNat), s37, s38, s39, s40, s41, s42, s43, s44, s45, s46, s47, s48, s49, s50, s51, s52, s53, ())) := by
  refine (vz (f := Wu) (fun a => ∃ i : Nat, a = (s1, b, (i : Int), s4, s5, s6, s7, s8, s9, s10, s11, s12, s13, s14, s15, s16, s17, s18, s19, s20, s21, s22, s23, s24, s25, s26, s27, s28, s29, s30, s31, s32, s33, s34, s35, (Zs i), s37, s38, s39, s40, s41, s42, s43, s44, s45, s46, s47, s48, s49, s50, s51, s52, s53, ()) ∧ (i : Int) ≤ b) (fun a => (b - a.2.2.1).toNat) (fun o => o = .brk (s1, s4, s5, s6, s7, s8, s9, s10, s11, s12, s13, s14, s15, s16, s17, s18, s19, s20, s21, s22, s23, s24, s25, s26, s27, s28, s29, s30, s31, s32, s33, s34, s35, (Zs b.toNat), s37, s38, s39, s40, s41, s42, s43, s44, s45, s46, s47, s48, s49, s50, s51, s52, s53, ())) ?_ (s1, b, 0, s4, s5, s6, s7, s8, s9, s10, s11, s12, s13, s14, s15, s16, s17, s18, s19, s20, s21, s22, s23, s24, s25, s26, s27, s28, s29, s30, s31, s32, s33, s34, s35, [], s37, s38, s39, s40, s41, s42, s43, s44, s45, s46, s47, s48, s49, s50, s51, s52, s53, ()) ⟨0, rfl, by omega⟩ (xi (by dsimp only; omega))).elim fun o h => ?_
  rotate_left
  · rw [h.1, h.2]
  · rintro _ ⟨i, rfl, hi⟩
    rw [zhm, zp]
    by_cases hlt : (i : Int) < b
    · have := znK i
      rw [if_pos hlt, xW (by rw [List.length_append]; simp; omega), Option.bind_some, yC (by omega)]
      refine ⟨_, rfl, ⟨i + 1, ?_, by omega⟩, ?_⟩
      · unfold Zs; rw [List.range_succ, List.map_append]; rfl
      · show (b - ((i + 1 : Nat) : Int)).toNat < (b - (i : Int)).toNat
        omega
    · rw [if_neg hlt]
      have : i = b.toNat := by omega
      subst this
      exact ⟨_, rfl, rfl⟩
theorem zpJ {s1 : zd} {s2 : Int} {s3 : Int} {s4 : Int} {s5 : Int} {s6 : Int} {s7 : Int} {s8 : Int} {s9 : Int} {s10 : Int} {s11 : BitVec 64} {s12 : Int} {s13 : zl} {s14 : Int} {s15 : Int} {s16 : Bool} {s17 : Bool} {s18 : Int} {s19 : Int} {s20 : Int} {s21 : Int} {s22 : zk} {s23 : zd} {s24 : Int} {s25 : zl} {s26 : Int} {s27 : Int} {s28 : Bool} {s29 : Bool} {s30 : Int} {s31 : zm} {s32 : zk} {s33 : List Int} {s34 : List (List Int)} {s35 : List (List Int)} {s36 : List (List zi)} {s37 : List zj} {s38 : List (List Int)} {s39 : List (BitVec 64)} {s40 : List (List Int)} {s41 : List Int} {s42 : List Int} {s43 : List ze} {s44 : List zb} {s45 : List (List Int)} {s46 : List (BitVec 64)} {s48 : List Int} {s49 : List ze} {s50 : List zb} : ∀ (ys acc : List (List Int)), acc.length + ys.length < 1000000 → (∀ c ∈ ys, c.length < 1000000) → uw UP ys (s1, s2, s3, s4, s5, s6, s7, s8, s9, s10, s11, s12, s13, s14, s15, s16, s17, s18, s19, s20, s21, s22, s23, s24, s25, s26, s27, s28, s29, s30, s31, s32, s33, s34, s35, s36, s37, s38, s39, s40, s41, s42, s43, s44, s45, s46, acc, s48, s49, s50, ()) = some (s1, s2, s3, s4, s5, s6, s7, s8, s9, s10, s11, s12, s13, s14, s15, s16, s17, s18, s19, s20, s21, s22, s23, s24, s25, s26, s27, s28, s29, s30, s31, s32, s33, s34, s35, s36, s37, s38, s39, s40, s41, s42, s43, s44, s45, s46, (acc ++ ys), s48, s49, s50, ())
  | [], acc, _, _ => by simp [uw]
  | y :: ys, acc, h, hc => by
    simp only [List.length_cons] at h
    have hy := hc y (List.mem_cons_self ..)
    rw [uw, zh2, Ye (by omega), Option.bind_some, xW (by simp <;> omega), Option.bind_some, Option.bind_some, zpJ ys _ (by simp <;> omega) (fun c h' => hc c (List.mem_cons_of_mem _ h'))]
    simp
def vw (r : List Int) : zb := ⟨0, 0, 0, 0, 0, 0, 0, 0, r, [], [], ⟨0, 0, 0, 0, 0#64, 0, 0, 0⟩, ⟨0, 0, 0, 0, ⟨0, 0, 0, 0, 0#64, 0#64, 0, 0⟩, ⟨0, 0, 0, 0, 0#64, 0, 0, 0⟩, 0, 0⟩⟩
theorem zsQ {p : zd} {s4 : Int} {s5 : Int} {s6 : Int} {s7 : Int} {s8 : Int} {s9 : Int} {s10 : Int} {s11 : Int} {s12 : Int} {s13 : BitVec 64} {s14 : Int} {s15 : zl} {s16 : Int} {s17 : Int} {s18 : Bool} {s19 : Bool} {s20 : Int} {s21 : Int} {s22 : Int} {s23 : Int} {s24 : zk} {s25 : zd} {s26 : Int} {s27 : List (BitVec 64)} {s28 : zl} {s29 : Int} {s30 : Int} {s31 : Bool} {s32 : Bool} {s33 : Int} {s34 : zm} {s35 : zk} {s36 : List (List Int)} {s37 : List (List Int)} {s38 : List (List zi)} {s39 : List zj} {s40 : List (List Int)} {s41 : List (BitVec 64)} {s42 : List (List Int)} {s43 : List Int} {s44 : List Int} {s45 : List ze} {s46 : List zb} {s47 : List (List Int)} {s48 : List (List Int)} {s49 : List Int} {s50 : List ze} (hl : p.Regs.length < 1000000) (hr : ∀ r ∈ p.Regs, r.length < 1000000) :
    z3 Wn (p.Regs, (p.Regs.length : Int), 0, s4, s5, s6, s7, s8, s9, s10, s11, s12, s13, s14, s15, s16, s17, s18, s19, s20, s21, s22, s23, s24, s25, s26, s27, s28, s29, s30, s31, s32, s33, s34, s35, s36, s37, s38, s39, s40, s41, s42, s43, s44, s45, s46, s47, s48, s49, s50, [], ()) = some (.brk (s4, s5, s6, s7, s8, s9, s10, s11, s12, s13, s14, s15, s16, s17, s18, s19, s20, s21, s22, s23, s24, s25, s26, s27, s28, s29, s30, s31, s32, s33, s34, s35, s36, s37, s38, s39, s40, s41, s42, s43, s44, s45, s46, s47, s48, s49, s50, (p.Regs.map vw), ())) := by
  refine (vz (f := Wn) (fun a => ∃ i : Nat, a = (p.Regs, (p.Regs.length : Int), (i : Int), s4, s5, s6, s7, s8, s9, s10, s11, s12, s13, s14, s15, s16, s17, s18, s19, s20, s21, s22, s23, s24, s25, s26, s27, s28, s29, s30, s31, s32, s33, s34, s35, s36, s37, s38, s39, s40, s41, s42, s43, s44, s45, s46, s47, s48, s49, s50, ((p.Regs.take i).map vw), ()) ∧ i ≤ p.Regs.length) (fun a => p.Regs.length - a.2.2.1.toNat) (fun o => o = .brk (s4, s5, s6, s7, s8, s9, s10, s11, s12, s13, s14, s15, s16, s17, s18, s19, s20, s21, s22, s23, s24, s25, s26, s27, s28, s29, s30, s31, s32, s33, s34, s35, s36, s37, s38, s39, s40, s41, s42, s43, s44, s45, s46, s47, s48, s49, s50, (p.Regs.map vw), ())) ?_ (p.Regs, (p.Regs.length : Int), 0, s4, s5, s6, s7, s8, s9, s10, s11, s12, s13, s14, s15, s16, s17, s18, s19, s20, s21, s22, s23, s24, s25, s26, s27, s28, s29, s30, s31, s32, s33, s34, s35, s36, s37, s38, s39, s40, s41, s42, s43, s44, s45, s46, s47, s48, s49, s50, [], ()) ⟨0, rfl, by omega⟩ (xi (by dsimp only; omega))).elim fun o h => ?_
  rotate_left
  · rw [h.1, h.2]
  · rintro _ ⟨i, rfl, hi⟩
    rw [zhJ, zp]
    rcases Nat.lt_or_ge i p.Regs.length with hlt | hge
    · have hx := List.getElem?_eq_getElem hlt
      have hh := hr _ (List.getElem_mem hlt)
      rw [if_pos (by omega), xy hx, Option.bind_some, Ye (by omega), Option.bind_some, xW (by simp <;> omega), Option.bind_some, yC (by omega)]
      refine ⟨_, rfl, ⟨i + 1, ?_, hlt⟩, ?_⟩
      · rw [List.take_add_one, hx, List.map_append]; rfl
      · show p.Regs.length - ((i + 1 : Nat) : Int).toNat < p.Regs.length - (i : Int).toNat
        omega
    · rw [if_neg (by omega)]
      have : i = p.Regs.length := by omega
      subst this
      exact ⟨_, rfl, by rw [List.take_length]⟩
def yY (p : zd) : Nat := (p.Most + p.Workers + p.Mutators).toNat
def vp (p : zd) : List (List Int) := uj p.Bin.toNat (zbu (YP p)).length (zbu (YP p))
def Wk (p : zd) : zc :=
  { P := p, H := p.H,
    M := zgV (zgV (YX p p.Workers.toNat ++ List.replicate (2 + yY p) 0#64) (wq p) (yz p) ((Zs (yY p)).take (vp p).length)) (yz p) (yz p) ((Zs (yY p)).drop (vp p).length),
    Bins := [[]] ++ vp p ++ List.replicate (yY p - (vp p).length) [],
    T := ⟨YP p, 0#64⟩, Work := cnt (YP p), Epoch := 0, Flag := false, Done := false, Restarts := 0,
    Acks := List.replicate p.Mutators.toNat 0, L := ⟨0, 0, 0, List.replicate p.Mutators.toNat 0⟩,
    Ws := (List.range p.Workers.toNat).map (XY p), Ms := p.Regs.map vw, D := ⟨0, 0⟩ }
theorem zum : ∀ r : Fin 7, bit (r.1 : Int) &&& ~~~63#64 = 0#64 := by decide
theorem zrC {r n : Int} (h : 0 ≤ r) (h2 : r ≤ n) (h3 : n ≤ 6) : bit r &&& ~~~Vz n = 0#64 := by
  have := zmG ⟨r.toNat, by omega⟩ ⟨n.toNat, by omega⟩ (by show r.toNat ≤ n.toNat; omega)
  simpa [Int.toNat_of_nonneg h, Int.toNat_of_nonneg (show 0 ≤ n by omega)] using this
theorem zoJ {a b c : BitVec 64} (ha : a &&& ~~~c = 0#64) (hb : b &&& ~~~c = 0#64) : (a ||| b) &&& ~~~c = 0#64 := by
  apply BitVec.eq_of_getLsbD_eq
  intro i hi
  have h1 := congrArg (fun x => x.getLsbD i) ha
  have h2 := congrArg (fun x => x.getLsbD i) hb
  simp only [BitVec.getLsbD_and, BitVec.getLsbD_or, BitVec.getLsbD_not, BitVec.getLsbD_zero, hi, decide_true, Bool.true_and] at h1 h2 ⊢
  revert h1 h2
  generalize a.getLsbD i = x
  generalize b.getLsbD i = y
  generalize c.getLsbD i = z
  cases x <;> cases y <;> cases z <;> decide
theorem zqm {c : BitVec 64} {l : List Int} (h : ∀ o ∈ l, bit o &&& ~~~c = 0#64) : ∀ (z : BitVec 64), z &&& ~~~c = 0#64 → l.foldl (fun s o => s ||| bit o) z &&& ~~~c = 0#64 := by
  induction l with
  | nil => intro z hz; exact hz
  | cons a l ih => intro z hz; exact ih (fun o ho => h o (List.mem_cons_of_mem _ ho)) _ (zoJ hz (h a (List.mem_cons_self ..)))
theorem zi2 {p : zd} (h : zX p) : YP p &&& ~~~Vz (p.H.Objs.length : Int) = 0#64 := by
  have hn := h.n
  have key : ∀ (L : List (List Int)) (z : BitVec 64), (∀ r ∈ L, ∀ v ∈ r, 0 ≤ v ∧ v ≤ (p.H.Objs.length : Int)) → z &&& ~~~Vz (p.H.Objs.length : Int) = 0#64 → L.foldl (fun s l => s ||| zj8 l) z &&& ~~~Vz (p.H.Objs.length : Int) = 0#64 := by
    intro L
    induction L with
    | nil => intro z _ hz; exact hz
    | cons r L ih =>
      intro z hr hz
      refine ih _ (fun r' h' => hr r' (List.mem_cons_of_mem _ h')) (zoJ hz (zqm (fun o ho => ?_) _ (by simp)))
      have := hr r (List.mem_cons_self ..) o ho
      exact zrC this.1 this.2 hn.2
  exact key _ _ (fun r hr => (h.reg r hr).2) (ziU h)
theorem zpm {a b c : BitVec 64} (h : a &&& ~~~b = 0#64) (h2 : b &&& ~~~c = 0#64) : a &&& ~~~c = 0#64 := by
  apply BitVec.eq_of_getLsbD_eq
  intro i hi
  have h1 := congrArg (fun x => x.getLsbD i) h
  have h2 := congrArg (fun x => x.getLsbD i) h2
  simp only [BitVec.getLsbD_and, BitVec.getLsbD_not, BitVec.getLsbD_zero, hi, decide_true, Bool.true_and] at h1 h2 ⊢
  revert h1 h2
  generalize a.getLsbD i = x
  generalize b.getLsbD i = y
  generalize c.getLsbD i = z
  cases x <;> cases y <;> cases z <;> decide
theorem zo7 : ∀ n : Fin 7, Vz (n.1 : Int) &&& ~~~63#64 = 0#64 := by decide
theorem zi0 {p : zd} (h : zX p) : YP p &&& ~~~63#64 = 0#64 := by
  have hn := h.n
  refine zpm (zi2 h) ?_
  exact zo7 ⟨p.H.Objs.length, by omega⟩
theorem zqp : ∀ (n : Fin 7) (t : Fin 64), BitVec.ofNat 64 t.1 &&& ~~~Vz (n.1 : Int) = 0#64 → (zbu (BitVec.ofNat 64 t.1)).length ≤ n.1 := by decide +kernel
theorem zhM {p : zd} (h : zX p) : (zbu (YP p)).length ≤ p.H.Objs.length := by
  have hn := h.n
  obtain ⟨t, ht⟩ := znF (zi0 h)
  have h2 := zi2 h
  rw [ht] at h2 ⊢
  exact zqp ⟨p.H.Objs.length, by omega⟩ t h2
theorem zoq {p : zd} (h : zX p) : (vp p).length ≤ p.H.Objs.length := by
  have hb := h.bin
  exact Nat.le_trans (zkE _ (by omega) _ _) (zhM h)
theorem zmz {p : zd} (h : zX p) : zbo p = some (Wk p, ()) := by
  have hw := h.wk
  have hc := h.cap
  have hm := h.mt
  have hb := h.bin
  have hn := h.n
  have hmo := h.most
  have hrl := h.regs
  have hreg : ∀ r ∈ p.Regs, r.length < 1000000 := fun r hr => by have := (h.reg r hr).1; omega
  have hobj : ∀ o ∈ p.H.Objs, o.length < 1000000 := fun o ho => by have := (h.objs o ho).1; have := h.slots; omega
  have hfl := zoq h
  have hgl := zhM h
  have hcl := zcx p p.Workers.toNat
  have hcb : p.Workers.toNat * (p.Cap.toNat + 2) ≤ 3 * 5 := Nat.mul_le_mul (by omega) (by omega)
  have hbn : (yY p : Int) = p.Most + p.Workers + p.Mutators := by unfold yY; omega
  have eb : zbh p = some ((yY p : Int), ()) := by
    rw [zlq, yg (a := p.Most + p.Workers) (by omega) (by omega), yg (by omega) (by omega), hbn]
  have hul := znK (yY p)
  have ec : XU (zbu (YP p)) p.Bin = some (vp p) := by
    show zdC _ _ = _
    unfold zdC vp
    have c1 : (decide (1 ≤ p.Bin) && decide (p.Bin < 1000000) && decide (((zbu (YP p)).length : Int) < 1000000)) = true := by simp <;> omega
    rw [c1]; rfl
  have cut1 : cut (Zs (yY p)) 0 ((vp p).length : Int) = some ((Zs (yY p)).take (vp p).length) := by
    unfold cut
    have : ((vp p).length : Int) ≤ ((Zs (yY p)).length : Int) := by omega
    simp [this]
  have cut2 : cut (Zs (yY p)) ((vp p).length : Int) ((Zs (yY p)).length : Int) = some ((Zs (yY p)).drop (vp p).length) := by
    unfold cut
    have : ((vp p).length : Int) ≤ ((Zs (yY p)).length : Int) := by omega
    simp [this]
  rw [zlx, zpX h]
  simp only [Option.bind_some, Bool.not_true, cond_false]
  rw [zp0 (by omega) hreg]
  simp only [Option.bind_some, zq2, zqb hm.1 (show p.Mutators ≤ 16 by omega)]
  rw [zhr (by omega) hobj]
  simp only [Option.bind_some]
  rw [ztQ h]
  simp only [Option.bind_some, eb]
  have e3 : (2 + (yY p : Int)).toNat = 2 + yY p := by omega
  rw [yg (a := 2 + (yY p : Int)) (by omega) (by omega), zmy (by omega) (by omega), e3, Option.bind_some, xW (l := YX p p.Workers.toNat ++ List.replicate (2 + yY p) 0#64) (by simp <;> omega), Option.bind_some, ztd (by omega)]
  dsimp only [Option.bind_some]
  rw [Int.toNat_natCast, zsv (zi0 h), Option.bind_some, zcd, zp, if_neg (by omega), Option.bind_some, ec, Option.bind_some, zpJ _ _ (by simp <;> omega) (fun c hc' => by have := zfk _ _ _ _ hc'; omega)]
  dsimp only [Option.bind_some]
  have e1 : w64 ((([[]] ++ vp p : List (List Int)).length : Int) - 1) = ((vp p).length : Int) := by
    rw [yg (by simp <;> omega) (by simp <;> omega)]; simp
  have e2 : w64 (((Zs (yY p)).length : Int) - ((vp p).length : Int)) = ((yY p - (vp p).length : Nat) : Int) := by
    rw [yg (by omega) (by omega)]; omega
  rw [e1, e2, zmy (by omega) (by omega), Int.toNat_natCast, Option.bind_some, xW (by simp <;> omega), Option.bind_some, zcT, Option.bind_some, zaf, Option.bind_some, cut1, Option.bind_some, zmH (by simp <;> omega) (by simp <;> omega), Option.bind_some, zbn, Option.bind_some, Option.bind_some, cut2, Option.bind_some, zmH (by rw [zjm]; simp <;> omega) (by simp <;> omega), Option.bind_some, decide_true, cond_true, VZ hm.1 (show p.Mutators < 4294967296 by omega), Option.bind_some, zsQ (by omega) hreg]
  rfl
end
end Go.Pe.G
namespace Go.Pe.G
open Go.Pe
noncomputable section
theorem zey (h : BitVec 64) : yB h = ((h.toNat % 4294967296 : Nat) : Int) := by
  unfold yB
  have e : (h &&& 4294967295#64).toNat = h.toNat % 4294967296 := by
    rw [BitVec.toNat_and]
    exact Nat.and_two_pow_sub_one_eq_mod h.toNat 32
  rw [BitVec.toInt_eq_toNat_cond, e]
  omega
theorem zmD (h : BitVec 64) : 0 ≤ yB h ∧ yB h < 4294967296 := by rw [zey]; omega
theorem zmX (v : BitVec 64) {n : Int} (h : 0 ≤ n) (h2 : n < 4294967296) : yB (YZ v n) = n := by
  rw [zey]
  unfold YZ
  rw [BitVec.toNat_or, BitVec.toNat_and, BitVec.toNat_shiftLeft]
  have e1 : (v.toNat <<< 32 % 2 ^ 64 ||| (BitVec.ofInt 64 n).toNat &&& (4294967295#64).toNat) % 2 ^ 32 = (v.toNat <<< 32 % 2 ^ 64) % 2 ^ 32 ||| ((BitVec.ofInt 64 n).toNat &&& (4294967295#64).toNat) % 2 ^ 32 := Nat.or_mod_two_pow
  have e2 : v.toNat <<< 32 % 2 ^ 64 % 2 ^ 32 = 0 := by rw [Nat.shiftLeft_eq]; omega
  have e3 : (BitVec.ofInt 64 n).toNat &&& (4294967295#64).toNat = n.toNat := by
    have : (BitVec.ofInt 64 n).toNat = n.toNat := by rw [BitVec.toNat_ofInt]; omega
    rw [this]
    exact (Nat.and_two_pow_sub_one_eq_mod n.toNat 32).trans (Nat.mod_eq_of_lt (by omega))
  rw [show (4294967296 : Nat) = 2 ^ 32 from rfl, e1, e2, e3, Nat.zero_or, Nat.mod_eq_of_lt (by omega)]
  omega
theorem zi1 {n : Int} (h : 0 ≤ n) (h2 : n < 4294967296) : (BitVec.ofInt 64 n).toInt = n := by
  have e : (BitVec.ofInt 64 n).toNat = n.toNat := by rw [BitVec.toNat_ofInt]; omega
  rw [BitVec.toInt_eq_toNat_cond, e]
  omega
theorem zkR {m : List (BitVec 64)} {a b : Int} {v : BitVec 64} : ld (st m a v) b = if a = b ∧ 0 ≤ a ∧ a < m.length then v else ld m b := by
  unfold ld st
  by_cases hb : 0 ≤ b
  · rw [if_pos hb, if_pos hb]
    by_cases ha : 0 ≤ a
    · rw [if_pos ha, List.getD_eq_getElem?_getD, List.getD_eq_getElem?_getD, List.getElem?_set]
      by_cases hab : a.toNat = b.toNat
      · have e : a = b := by omega
        subst e
        by_cases hl : a.toNat < m.length
        · rw [if_pos rfl, if_pos hl, if_pos ⟨rfl, ha, by omega⟩]; rfl
        · rw [if_pos rfl, if_neg hl, if_neg (by omega), List.getElem?_eq_none (by omega)]
      · rw [if_neg hab, if_neg (by omega)]
    · rw [if_neg ha, if_neg (by omega)]
  · rw [if_neg hb, if_neg hb, if_neg (by omega)]
theorem za7 {m : List (BitVec 64)} {a b : Int} {v : BitVec 64} (h : a ≠ b) : ld (st m a v) b = ld m b := by
  rw [zkR, if_neg (fun h' => h h'.1)]
theorem Uv {p : zd} (h : zX p) : wq p = p.Workers * (p.Cap + 2) ∧ 3 ≤ wq p ∧ wq p ≤ 15 := by
  have hw := h.wk
  have hc := h.cap
  unfold wq
  rw [YM (a := p.Cap + 2) (by omega) (by omega)]
  have hx : p.Workers = 1 ∨ p.Workers = 2 ∨ p.Workers = 3 := by omega
  rcases hx with hx | hx | hx <;> rw [hx, YM (by omega) (by omega)] <;> omega
theorem zaY {p : zd} (h : zX p) : yz p = wq p + 1 := by
  have := Uv h
  unfold yz
  rw [YM (by omega) (by omega)]
theorem zjy {p : zd} (h : zX p) {w : Int} (h1 : 1 ≤ w) (h2 : w ≤ p.Workers) : uM p w = (w - 1) * (p.Cap + 2) ∧ 0 ≤ uM p w ∧ uM p w + p.Cap + 2 ≤ wq p := by
  have hw := h.wk
  have hc := h.cap
  have hf := (Uv h).1
  unfold uM
  rw [YM (a := p.Cap + 2) (by omega) (by omega), YM (a := w - 1) (by omega) (by omega)]
  have hx : p.Workers = 1 ∨ p.Workers = 2 ∨ p.Workers = 3 := by omega
  have hy : w = 1 ∨ w = 2 ∨ w = 3 := by omega
  rw [hf]
  rcases hx with hx | hx | hx <;> rcases hy with hy | hy | hy <;> first | omega | (rw [hx, hy, YM (by omega) (by omega)] <;> omega)
theorem zr5 {p : zd} (h : zX p) {d : zh} {w : Int} (h1 : 1 ≤ w) (h2 : w ≤ p.Workers) (hb : d.Base = uM p w) (hc : d.Cap = p.Cap) (i : BitVec 64) :
    UI d i = d.Base + 2 + ((i.toNat % p.Cap.toNat : Nat) : Int) ∧ d.Base + 2 ≤ UI d i ∧ UI d i < d.Base + 2 + p.Cap := by
  have hcp := h.cap
  have hd := zjy h h1 h2
  have hf := Uv h
  have hs : (W5 d).toNat = p.Cap.toNat := by
    unfold W5
    rw [hc, if_neg (by omega), BitVec.toNat_ofInt]
    omega
  have hlt : i.toNat % p.Cap.toNat < p.Cap.toNat := Nat.mod_lt _ (by omega)
  have hm : (i % W5 d).toInt = ((i.toNat % p.Cap.toNat : Nat) : Int) := by
    rw [BitVec.toInt_eq_toNat_cond, BitVec.toNat_umod, hs]
    omega
  unfold UI
  rw [hm, YM (a := d.Base + 2) (by omega) (by omega), YM (by omega) (by omega)]
  omega
structure SOk (p : zd) (nb : Nat) (s : zc) : Prop where
  P : s.P = p
  bins : s.Bins.length = nb
  nbk : 1 ≤ nb ∧ nb < 1000
  mem : s.M.length < 100000
  cF : yB (ld s.M (wq p)) < nb
  cE : yB (ld s.M (yz p)) < nb
  cL : ∀ a, yz p < a → 0 ≤ (ld s.M a).toInt ∧ (ld s.M a).toInt < nb
structure MOk (p : zd) (nb : Nat) (g : zx) : Prop where
  who : g.Mode = 1 → 1 ≤ g.Who ∧ g.Who ≤ p.Workers
  d3 : g.PC = 3 → g.D.Kind = 1 ∧ g.D.Base = uM p g.Who ∧ g.D.Cap = p.Cap ∧ g.Mode = 1
  c5 : g.PC = 5 → g.C.Kind = 2 ∧ g.C.Head = yz p ∧ g.C.Next = yz p ∧ (1 ≤ g.C.PC → 1 ≤ yB g.C.H ∧ yB g.C.H < nb) ∧ (2 ≤ g.C.PC → 0 ≤ g.C.Y ∧ g.C.Y < nb)
  b6 : g.PC = 6 → 1 ≤ g.Bin ∧ g.Bin < nb
  c7 : g.PC = 7 → g.C.Kind = 1 ∧ g.C.Head = wq p ∧ g.C.Next = yz p ∧ (1 ≤ g.C.X ∧ g.C.X < nb) ∧ (1 ≤ g.C.PC → yB g.C.H < nb)
theorem SOk.gok {p : zd} {nb : Nat} {s : zc} {g : zx} (h : zX p) (S : SOk p nb s) (M : MOk p nb g) : GOk s g := by
  have hc := h.cap
  refine ⟨by have := S.mem; omega, by have := S.bins; have := S.nbk; omega, fun h6 => ?_, fun h3 => ?_⟩
  · have := M.b6 h6; have := S.bins; omega
  · obtain ⟨a, b, c, _⟩ := M.d3 h3; exact ⟨a, by omega⟩
theorem SOk.low {p : zd} {nb : Nat} {s : zc} (h : zX p) (S : SOk p nb s) {a : Int} (ha : a < wq p) (v : BitVec 64) : SOk p nb { s with M := st s.M a v } := by
  have he := zaY h
  exact ⟨S.P, S.bins, S.nbk, by simp only [XR]; exact S.mem, by simp only [za7 (show a ≠ wq p by omega)]; exact S.cF, by simp only [za7 (show a ≠ yz p by omega)]; exact S.cE, fun b hb => by
    simp only [za7 (show a ≠ b by omega)]; exact S.cL b hb⟩
theorem SOk.link {p : zd} {nb : Nat} {s : zc} (h : zX p) (S : SOk p nb s) {a : Int} (ha : yz p < a) {v : BitVec 64} (hv : 0 ≤ v.toInt ∧ v.toInt < nb) : SOk p nb { s with M := st s.M a v } := by
  have he := zaY h
  exact ⟨S.P, S.bins, S.nbk, by simp only [XR]; exact S.mem, by simp only [za7 (show a ≠ wq p by omega)]; exact S.cF, by simp only [za7 (show a ≠ yz p by omega)]; exact S.cE, fun b hb => by
    simp only [zkR]
    split
    · exact hv
    · exact S.cL b hb⟩
theorem SOk.head {p : zd} {nb : Nat} {s : zc} (h : zX p) (S : SOk p nb s) {a : Int} (ha : a = wq p ∨ a = yz p) {v : BitVec 64} (hv : yB v < nb) : SOk p nb { s with M := st s.M a v } := by
  have he := zaY h
  refine ⟨S.P, S.bins, S.nbk, by simp only [XR]; exact S.mem, ?_, ?_, fun b hb => ?_⟩
  · simp only [zkR]
    split
    · exact hv
    · exact S.cF
  · simp only [zkR]
    split
    · exact hv
    · exact S.cE
  · simp only [za7 (show a ≠ b by omega)]; exact S.cL b hb
theorem SOk.swap {p : zd} {nb : Nat} {s : zc} (h : zX p) (S : SOk p nb s) {a : Int} (ha : a = wq p ∨ a = yz p) (x : BitVec 64) {v : BitVec 64} (hv : yB v < nb) : SOk p nb { s with M := (sw s.M a x v).1 } := by
  unfold sw
  split
  · exact S.head h ha hv
  · exact S
theorem zn6 {p : zd} {nb : Nat} {s : zc} (h : zX p) (S : SOk p nb s) {c : zr} {hd : Int} (hdd : hd = wq p ∨ hd = yz p) (hk : c.Kind = 2) (hh : c.Head = hd) (hn : c.Next = yz p)
    (h1 : 1 ≤ c.PC → 1 ≤ yB c.H ∧ yB c.H < nb) (h2 : 2 ≤ c.PC → 0 ≤ c.Y ∧ c.Y < nb) (ho : c.Out ≠ 1) :
    SOk p nb { s with M := (zF s.M c).1 } ∧ (zF s.M c).2.Kind = 2 ∧ (zF s.M c).2.Head = hd ∧ (zF s.M c).2.Next = yz p ∧
    ((zF s.M c).2.Out ≠ 1 → (zF s.M c).2.Out ≠ 2 → (1 ≤ (zF s.M c).2.PC → 1 ≤ yB (zF s.M c).2.H ∧ yB (zF s.M c).2.H < nb) ∧ (2 ≤ (zF s.M c).2.PC → 0 ≤ (zF s.M c).2.Y ∧ (zF s.M c).2.Y < nb)) ∧
    ((zF s.M c).2.Out = 1 → 1 ≤ (zF s.M c).2.X ∧ (zF s.M c).2.X < nb) := by
  have hnb := S.nbk
  have hE := zaY h
  have hF := Uv h
  unfold zF
  split
  · exact ⟨S, hk, hh, hn, fun _ _ => ⟨h1, h2⟩, fun e => absurd e ho⟩
  · split
    · rw [hh]
      have n1 := zmD (ld s.M hd)
      have n2 : yB (ld s.M hd) < nb := by
        rcases hdd with e | e <;> rw [e]
        · exact S.cF
        · exact S.cE
      split
      · exact ⟨S, hk, rfl, hn, fun _ h => absurd rfl h, fun e => by cases e⟩
      · rename_i hne
        refine ⟨S, hk, rfl, hn, fun _ _ => ⟨fun _ => ⟨?_, n2⟩, fun e => absurd e (by dsimp only; omega)⟩, fun e => absurd e ho⟩
        have : yB (ld s.M hd) ≠ 0 := fun e => hne ⟨hk, e⟩
        dsimp only
        omega
    · split
      · try rw [if_pos hk]
        have hpc : 1 ≤ c.PC := by omega
        have n1 := h1 hpc
        refine ⟨S, hk, hh, hn, fun _ _ => ⟨fun _ => n1, fun _ => ?_⟩, fun e => absurd e ho⟩
        dsimp only
        rw [hn, YM (by omega) (by omega)]
        exact S.cL _ (by omega)
      · rename_i g1 g2 g3
        have hpc : c.PC = 2 := by omega
        have n1 := h1 (by omega)
        have n2 := h2 (by omega)
        simp only [if_pos hk]
        refine ⟨S.swap h (by rw [hh]; exact hdd) _ (by rw [zmX _ n2.1 (by omega)]; exact n2.2), ?_⟩
        split
        · exact ⟨hk, hh, hn, fun e => absurd rfl e, fun _ => n1⟩
        · exact ⟨hk, hh, hn, fun _ _ => ⟨fun e => absurd e (by dsimp only; omega), fun e => absurd e (by dsimp only; omega)⟩, fun e => absurd e ho⟩
theorem zmg {p : zd} {nb : Nat} {s : zc} (h : zX p) (S : SOk p nb s) {c : zr} {hd : Int} (hdd : hd = wq p ∨ hd = yz p) (hk : c.Kind = 1) (hh : c.Head = hd) (hn : c.Next = yz p) (hx : 1 ≤ c.X ∧ c.X < nb)
    (h1 : 1 ≤ c.PC → yB c.H < nb) :
    SOk p nb { s with M := (zF s.M c).1 } ∧ (zF s.M c).2.Kind = 1 ∧ (zF s.M c).2.Head = hd ∧ (zF s.M c).2.Next = yz p ∧ (1 ≤ (zF s.M c).2.X ∧ (zF s.M c).2.X < nb) ∧
    (1 ≤ (zF s.M c).2.PC → yB (zF s.M c).2.H < nb) := by
  have hnb := S.nbk
  have hE := zaY h
  have hF := Uv h
  have hk2 : ¬ c.Kind = 2 := by omega
  unfold zF
  split
  · exact ⟨S, hk, hh, hn, hx, h1⟩
  · split
    · rw [if_neg (fun e => hk2 e.1), hh]
      exact ⟨S, hk, rfl, hn, hx, fun _ => hdd.elim (fun e => by dsimp only; rw [e]; exact S.cF) (fun e => by dsimp only; rw [e]; exact S.cE)⟩
    · split
      · try rw [if_neg hk2]
        have hpc : 1 ≤ c.PC := by omega
        have n1 := h1 hpc
        have n2 := zmD c.H
        refine ⟨?_, hk, hh, hn, hx, fun _ => n1⟩
        dsimp only
        rw [hn, YM (by omega) (by omega)]
        exact S.link h (by omega) (by rw [zi1 (by omega) (by omega)]; omega)
      · have n1 := h1 (by omega)
        simp only [if_neg hk2]
        refine ⟨S.swap h (by rw [hh]; exact hdd) _ (by rw [zmX _ (by omega) (by omega)]; exact hx.2), ?_⟩
        split
        · exact ⟨hk, hh, hn, hx, fun _ => n1⟩
        · exact ⟨hk, hh, hn, hx, fun _ => n1⟩
theorem MOk.ask {p : zd} {nb : Nat} {g : zx} (hw : g.Mode = 1 → 1 ≤ g.Who ∧ g.Who ≤ p.Workers) : MOk p nb (zmh p g) :=
  ⟨hw, fun e => (by cases e), fun _ => ⟨rfl, rfl, rfl, fun e => absurd e (show ¬ (1 : Int) ≤ 0 by decide), fun e => absurd e (show ¬ (2 : Int) ≤ 0 by decide)⟩, fun e => (by cases e), fun e => (by cases e)⟩
theorem zmu {p : zd} {nb : Nat} {s : zc} {g : zx} (h : zX p) (S : SOk p nb s) (M : MOk p nb g) (hout : g.PC = 5 → g.C.Out ≠ 1) : SOk p nb (z7 s g).1 ∧ MOk p nb (z7 s g).2 ∧ ((z7 s g).2.PC = 5 → (z7 s g).2.C.Out ≠ 1) := by
  have hP := S.P
  unfold z7
  split
  · exact ⟨S, M, hout⟩
  split
  · rename_i h7
    obtain ⟨a1, a2, a3, a4, a5⟩ := M.c7 h7
    obtain ⟨b1, b2, b3, b4, b5, b6⟩ := zmg h S (.inl rfl) a1 a2 a3 a4 a5
    unfold zdP
    refine ⟨b1, ?_, ?_⟩
    · dsimp only
      split <;> exact ⟨M.who, fun e => (by dsimp only at e; omega), fun e => (by dsimp only at e; omega), fun e => (by dsimp only at e; omega), fun _ => ⟨b2, b3, b4, b5, b6⟩⟩
    · dsimp only
      split <;> exact fun e => by dsimp only at e; omega
  split
  · rename_i h6
    obtain ⟨a1, a2⟩ := M.b6 h6
    unfold zsL
    refine ⟨⟨hP, by simp only [List.length_set]; exact S.bins, S.nbk, S.mem, S.cF, S.cE, S.cL⟩, ⟨M.who, fun e => (by cases e), fun e => (by cases e), fun e => (by cases e), fun _ => ⟨rfl, by rw [hP], by rw [hP], ⟨a1, a2⟩, fun e => absurd e (show ¬ (1 : Int) ≤ 0 by decide)⟩⟩, fun e => by cases e⟩
  split
  · rename_i h5
    obtain ⟨a1, a2, a3, a4, a5⟩ := M.c5 h5
    obtain ⟨b1, b2, b3, b4, b5, b6⟩ := zn6 h S (.inr rfl) a1 a2 a3 a4 a5 (hout h5)
    unfold zif
    refine ⟨b1, ?_, ?_⟩
    · dsimp only
      split
      · rename_i e1
        exact ⟨M.who, fun e => (by cases e), fun e => (by cases e), fun _ => b6 e1, fun e => (by cases e)⟩
      · split
        · rw [hP]; exact MOk.ask M.who
        · rename_i e1 e2
          exact ⟨M.who, fun e => (by dsimp only at e; omega), fun _ => ⟨b2, b3, b4, b5 e1 e2⟩, fun e => (by dsimp only at e; omega), fun e => (by dsimp only at e; omega)⟩
    · dsimp only
      split
      · exact fun e => by cases e
      · split
        · exact fun _ e => by cases e
        · rename_i e1 e2; exact fun _ => e1
  split
  · rw [hP]
    exact ⟨⟨rfl, S.bins, S.nbk, S.mem, S.cF, S.cE, S.cL⟩, MOk.ask M.who, fun _ e => by cases e⟩
  split
  · rename_i h3
    obtain ⟨a1, a2, a3, a4⟩ := M.d3 h3
    have hw := M.who a4
    obtain ⟨d1, d2, d3⟩ := zjy h hw.1 hw.2
    have hc := h.cap
    have hf := Uv h
    have hs : SOk p nb { s with M := (vQ s.M g.D).1 } := by
      unfold vQ
      split
      · exact S
      split
      · exact S
      split
      · exact S
      split
      · have := zr5 h hw.1 hw.2 a2 a3 g.D.B
        exact S.low h (by omega) _
      · dsimp only
        rw [YM (by omega) (by omega)]
        exact S.low h (by omega) _
    have hd : (vQ s.M g.D).2.Kind = 1 ∧ (vQ s.M g.D).2.Base = uM p g.Who ∧ (vQ s.M g.D).2.Cap = p.Cap := by
      unfold vQ
      split
      · exact ⟨a1, a2, a3⟩
      split
      · exact ⟨a1, a2, a3⟩
      split
      · dsimp only
        split <;> exact ⟨a1, a2, a3⟩
      split <;> exact ⟨a1, a2, a3⟩
    unfold zii
    refine ⟨hs, ?_, ?_⟩
    · dsimp only
      split
      · exact ⟨M.who, fun _ => ⟨hd.1, hd.2.1, hd.2.2, a4⟩, fun e => (by dsimp only at e; omega), fun e => (by dsimp only at e; omega), fun e => (by dsimp only at e; omega)⟩
      · split
        · rw [hP]; exact MOk.ask M.who
        · exact ⟨M.who, fun _ => ⟨hd.1, hd.2.1, hd.2.2, a4⟩, fun e => (by dsimp only at e; omega), fun e => (by dsimp only at e; omega), fun e => (by dsimp only at e; omega)⟩
    · dsimp only
      split
      · exact fun e => by dsimp only at e; omega
      · split
        · exact fun _ e => by cases e
        · exact fun e => by dsimp only at e; omega
  split
  · rename_i h2
    exact ⟨⟨hP, S.bins, S.nbk, S.mem, S.cF, S.cE, S.cL⟩, ⟨M.who, fun e => (by dsimp only at e; omega), fun e => (by dsimp only at e; omega), fun e => (by dsimp only at e; omega), fun e => (by dsimp only at e; omega)⟩, fun e => by dsimp only at e; omega⟩
  split
  · unfold zkL
    refine ⟨⟨hP, S.bins, S.nbk, S.mem, S.cF, S.cE, S.cL⟩, ?_, ?_⟩
    · dsimp only
      split
      · exact ⟨M.who, fun e => (by cases e), fun e => (by cases e), fun e => (by cases e), fun e => (by cases e)⟩
      split
      · exact ⟨M.who, fun _ => ⟨rfl, by rw [hP], by rw [hP], by assumption⟩, fun e => (by cases e), fun e => (by cases e), fun e => (by cases e)⟩
      split
      · exact ⟨M.who, fun e => (by cases e), fun e => (by cases e), fun e => (by cases e), fun e => (by cases e)⟩
      · rw [hP]; exact MOk.ask M.who
    · dsimp only
      split
      · exact fun e => by cases e
      split
      · exact fun e => by cases e
      split
      · exact fun e => by cases e
      · exact fun _ e => by cases e
  · exact ⟨⟨hP, S.bins, S.nbk, S.mem, S.cF, S.cE, S.cL⟩, ⟨M.who, fun e => (by cases e), fun e => (by cases e), fun e => (by cases e), fun e => (by cases e)⟩, fun e => by cases e⟩
theorem zjE (s : zc) (g : zx) : (z7 s g).2.Obj = g.Obj ∧ (z7 s g).2.Who = g.Who ∧ (z7 s g).2.Mode = g.Mode := by
  unfold z7
  split
  · exact ⟨rfl, rfl, rfl⟩
  split
  · unfold zdP; dsimp only; split <;> exact ⟨rfl, rfl, rfl⟩
  split
  · exact ⟨rfl, rfl, rfl⟩
  split
  · unfold zif; dsimp only
    split
    · exact ⟨rfl, rfl, rfl⟩
    · split <;> exact ⟨rfl, rfl, rfl⟩
  split
  · exact ⟨rfl, rfl, rfl⟩
  split
  · unfold zii; dsimp only
    split
    · exact ⟨rfl, rfl, rfl⟩
    · split <;> exact ⟨rfl, rfl, rfl⟩
  split
  · exact ⟨rfl, rfl, rfl⟩
  split
  · unfold zkL; dsimp only
    split
    · exact ⟨rfl, rfl, rfl⟩
    split
    · exact ⟨rfl, rfl, rfl⟩
    split <;> exact ⟨rfl, rfl, rfl⟩
  · exact ⟨rfl, rfl, rfl⟩
end
end Go.Pe.G
namespace Go.Pe.G
open Go.Pe
noncomputable section
def OkV (nb : Nat) (v : BitVec 64) : Prop := yB v < nb ∧ 0 ≤ v.toInt ∧ v.toInt < nb
theorem znJ {nb : Nat} (h : 1 ≤ nb) : OkV nb 0#64 := by
  refine ⟨by rw [zey]; simp; omega, by simp, by simp; omega⟩
theorem zly {nb : Nat} {b : Int} (h : 0 ≤ b) (h2 : b < nb) (h3 : nb < 1000) : OkV nb (BitVec.ofInt 64 b) := by
  have e : (BitVec.ofInt 64 b).toNat = b.toNat := by rw [BitVec.toNat_ofInt]; omega
  refine ⟨by rw [zey, e]; omega, ?_⟩
  rw [zi1 h (by omega)]
  omega
theorem zmQ {b : Int} (h : 0 ≤ b) (h2 : b < 4294967296) : YZ 0#64 b = BitVec.ofInt 64 b := by
  have e : (BitVec.ofInt 64 b).toNat = b.toNat := by rw [BitVec.toNat_ofInt]; omega
  apply BitVec.eq_of_toNat_eq
  unfold YZ
  rw [BitVec.toNat_or, BitVec.toNat_and, e]
  have : b.toNat &&& (4294967295#64).toNat = b.toNat := (Nat.and_two_pow_sub_one_eq_mod b.toNat 32).trans (Nat.mod_eq_of_lt (by omega))
  rw [this]
  simp
def Zw (F : Int) (nb : Nat) (m : List (BitVec 64)) : Prop := ∀ a, F ≤ a → OkV nb (ld m a)
theorem Zw.st {F : Int} {nb : Nat} {m : List (BitVec 64)} (h : Zw F nb m) (a : Int) {v : BitVec 64} (hv : OkV nb v) : Zw F nb (st m a v) := fun b hb => by
  rw [zkR]
  split
  · exact hv
  · exact h b hb
theorem Zw.links {F : Int} {nb : Nat} (h1 : 1 ≤ nb) (h3 : nb < 1000) : ∀ (l : List Int) (m : List (BitVec 64)) (n : Int), (∀ b ∈ l, 0 ≤ b ∧ b < nb) → Zw F nb m → Zw F nb (links m n l)
  | [], m, n, _, h => h
  | [a], m, n, _, h => h.st _ (znJ h1)
  | a :: b :: l, m, n, hb, h => Zw.links h1 h3 (b :: l) _ n (fun x hx => hb x (List.mem_cons_of_mem _ hx)) (h.st _ (zly (hb b (by simp)).1 (hb b (by simp)).2 h3))
theorem Zw.lay {F : Int} {nb : Nat} (h1 : 1 ≤ nb) (h3 : nb < 1000) {l : List Int} {m : List (BitVec 64)} {hd n : Int} (hb : ∀ b ∈ l, 0 ≤ b ∧ b < nb) (h : Zw F nb m) : Zw F nb (zgV m hd n l) := by
  unfold zgV
  refine (Zw.links h1 h3 l m n hb h).st _ ?_
  cases l with
  | nil => rw [List.headD_nil, zmQ (by omega) (by omega)]; exact zly (by omega) (by omega) h3
  | cons a r =>
    have := hb a (by simp)
    rw [List.headD_cons, zmQ this.1 (by omega)]
    exact zly this.1 this.2 h3
theorem zoL {k : Nat} {b : Int} (h : b ∈ Zs k) : 1 ≤ b ∧ b ≤ k := by
  unfold Zs at h
  obtain ⟨i, hi, rfl⟩ := List.mem_map.1 h
  have := List.mem_range.1 hi
  omega
theorem znP {p : zd} (h : zX p) : (yY p : Int) = p.Most + p.Workers + p.Mutators ∧ 2 ≤ yY p ∧ yY p ≤ 14 := by
  have := h.most
  have := h.n
  have := h.wk
  have := h.mt
  unfold yY
  omega
theorem zpr {p : zd} (h : zX p) : SOk p (yY p + 1) (Wk p) := by
  have hb := znP h
  have hf := zoq h
  have hn := h.n
  have hw := h.wk
  have hc := h.cap
  have hmo := h.most
  have hF := Uv h
  have hE := zaY h
  have hcl := zcx p p.Workers.toNat
  have hfe : wq p = ((p.Workers.toNat * (p.Cap.toNat + 2) : Nat) : Int) := by
    rw [hF.1]
    have e1 : p.Workers = ((p.Workers.toNat : Nat) : Int) := by omega
    have e2 : p.Cap + 2 = ((p.Cap.toNat + 2 : Nat) : Int) := by omega
    rw [e2, Int.natCast_mul]
    rw [← e1]
  have h0 : Zw (wq p) (yY p + 1) (YX p p.Workers.toNat ++ List.replicate (2 + yY p) 0#64) := by
    intro a ha
    have : ld (YX p p.Workers.toNat ++ List.replicate (2 + yY p) 0#64) a = 0#64 := by
      unfold ld
      rw [if_pos (by omega), List.getD_eq_getElem?_getD, List.getElem?_append_right (by omega), List.getElem?_replicate]
      split <;> rfl
    rw [this]
    exact znJ (by omega)
  have h1 : Zw (wq p) (yY p + 1) (Wk p).M := by
    refine Zw.lay (by omega) (by omega) (fun b hb' => ?_) (Zw.lay (by omega) (by omega) (fun b hb' => ?_) h0)
    · have := zoL (List.mem_of_mem_drop hb'); omega
    · have := zoL (List.mem_of_mem_take hb'); omega
  have hlen : (Wk p).M.length = p.Workers.toNat * (p.Cap.toNat + 2) + (2 + yY p) := by
    show (zgV _ _ _ _).length = _
    rw [zjm, zjm, List.length_append, hcl, List.length_replicate]
  refine ⟨rfl, ?_, by omega, by rw [hlen]; omega, (h1 _ (by omega)).1, (h1 _ (by omega)).1, fun a ha => (h1 a (by omega)).2⟩
  have hd : (Wk p).Bins.length = 1 + (vp p).length + (yY p - (vp p).length) := by
    show ([[]] ++ vp p ++ List.replicate (yY p - (vp p).length) ([] : List Int)).length = _
    rw [List.length_append, List.length_append, List.length_replicate]; rfl
  have h2 := hb.1
  have hmt := h.mt
  rw [hd]
  omega
def zkF (mode obj who : Int) : zx := ⟨0, mode, obj, who, ⟨0, 0, 0, 0, 0#64, 0#64, 0, 0⟩, ⟨0, 0, 0, 0, 0#64, 0, 0, 0⟩, 0, 0⟩
theorem zpZ (a b c : Int) : zda a b c = some (zkF a b c, ()) := by rw [zkv]; rfl
end
end Go.Pe.G
namespace Go.Pe.G
open Go.Pe
noncomputable section
structure ub (s : zc) : Prop where
  m : s.M.length < 1000000
  bins : s.Bins.length < 1000000
  bin : ∀ x ∈ s.Bins, x.length < 1000000
  acks : s.Acks.length < 1000000
  bal : s.L.Bal.length < 1000000
  ws : s.Ws.length < 1000000
  w : ∀ x ∈ s.Ws, x.Batch.length < 1000000
  ms : s.Ms.length < 1000000
  mu : ∀ x ∈ s.Ms, x.Regs.length < 1000000 ∧ x.Buf.length < 1000000 ∧ x.Batch.length < 1000000
  objs : s.H.Objs.length < 1000000
  obj : ∀ x ∈ s.H.Objs, x.length < 1000000
  pobjs : s.P.H.Objs.length < 1000000
  pobj : ∀ x ∈ s.P.H.Objs, x.length < 1000000
  regs : s.P.Regs.length < 1000000
  reg : ∀ x ∈ s.P.Regs, x.length < 1000000
  progs : s.P.Progs.length < 1000000
  prog : ∀ x ∈ s.P.Progs, x.length < 1000000
  picks : s.P.Picks.length < 1000000
theorem W1 (m : List (BitVec 64)) (c : zr) : (zF m c).1.length = m.length := by
  unfold zF sw
  split
  · rfl
  split
  · rfl
  split
  · split <;> simp [XR]
  · dsimp only; split <;> simp [XR]
theorem zpR (m : List (BitVec 64)) (d : zh) : (vQ m d).1.length = m.length := by
  unfold vQ
  split
  · rfl
  split
  · rfl
  split
  · rfl
  split <;> simp [XR]
theorem zgA (s : zc) (g : zx) : ∃ m b t w f, (z7 s g).1 = { s with M := m, Bins := b, T := t, Work := w, Flag := f } ∧ m.length = s.M.length ∧ b.length = s.Bins.length ∧
    (∀ x ∈ b, x ∈ s.Bins ∨ x = [g.Obj]) ∧ (t = s.T ∨ t = (zeN s.T g.Obj).1) ∧ (w = s.Work ∨ w = wc (s.Work + 1) ∨ w = wc (s.Work - 1)) := by
  unfold z7
  split
  · exact ⟨s.M, s.Bins, s.T, s.Work, s.Flag, rfl, rfl, rfl, fun x h => .inl h, .inl rfl, .inl rfl⟩
  split
  · exact ⟨_, s.Bins, s.T, s.Work, s.Flag, rfl, W1 _ _, rfl, fun x h => .inl h, .inl rfl, .inl rfl⟩
  split
  · refine ⟨s.M, _, s.T, s.Work, s.Flag, rfl, rfl, by simp, fun x h => ?_, .inl rfl, .inl rfl⟩
    rcases List.mem_or_eq_of_mem_set h with h | h
    · exact .inl h
    · exact .inr h
  split
  · exact ⟨_, s.Bins, s.T, s.Work, s.Flag, rfl, W1 _ _, rfl, fun x h => .inl h, .inl rfl, .inl rfl⟩
  split
  · exact ⟨s.M, s.Bins, s.T, s.Work, true, rfl, rfl, rfl, fun x h => .inl h, .inl rfl, .inl rfl⟩
  split
  · exact ⟨_, s.Bins, s.T, s.Work, s.Flag, rfl, zpR _ _, rfl, fun x h => .inl h, .inl rfl, .inl rfl⟩
  split
  · exact ⟨s.M, s.Bins, s.T, _, s.Flag, rfl, rfl, rfl, fun x h => .inl h, .inl rfl, .inr (.inr rfl)⟩
  split
  · exact ⟨s.M, s.Bins, _, s.Work, s.Flag, rfl, rfl, rfl, fun x h => .inl h, .inr rfl, .inl rfl⟩
  · exact ⟨s.M, s.Bins, s.T, _, s.Flag, rfl, rfl, rfl, fun x h => .inl h, .inl rfl, .inr (.inl rfl)⟩
theorem zuf {s : zc} {g : zx} (h : ub s) : ub (z7 s g).1 := by
  obtain ⟨m, b, t, w, f, e, h1, h2, h3, _, _⟩ := zgA s g
  rw [e]
  refine ⟨by rw [h1]; exact h.m, by rw [h2]; exact h.bins, fun x hx => ?_, h.acks, h.bal, h.ws, h.w, h.ms, h.mu, h.objs, h.obj, h.pobjs, h.pobj, h.regs, h.reg, h.progs, h.prog, h.picks⟩
  rcases h3 x hx with h' | rfl
  · exact h.bin x h'
  · simp
theorem zmN {p : zd} (h : zX p) : ub (Wk p) := by
  have S := zpr h
  have hb := znP h
  have hg := zhM h
  have hn := h.n
  have hm := h.mt
  have hw := h.wk
  have hs := h.slots
  have hrl := h.regs
  have hpl := h.progs
  have hobj : ∀ o ∈ p.H.Objs, o.length < 1000000 := fun o ho => by have := (h.objs o ho).1; omega
  have hreg : ∀ r ∈ p.Regs, r.length < 1000000 := fun r hr => by have := (h.reg r hr).1; omega
  refine ⟨by have := S.mem; omega, by rw [S.bins]; omega, fun x hx => ?_, ?_, ?_, ?_, fun x hx => ?_, ?_, fun x hx => ?_, by show p.H.Objs.length < _; omega, hobj, by show p.H.Objs.length < _; omega, hobj, by show p.Regs.length < _; omega, hreg, by show p.Progs.length < _; omega, fun x hx => ?_, ?_⟩
  · have hx : x ∈ [[]] ++ vp p ++ List.replicate (yY p - (vp p).length) [] := hx
    rcases List.mem_append.1 hx with hx | hx
    · rcases List.mem_append.1 hx with hx | hx
      · simp at hx; subst hx; simp
      · have := zfk _ _ _ _ hx; omega
    · have := (List.mem_replicate.1 hx).2; subst this; simp
  · show (List.replicate p.Mutators.toNat (0 : Int)).length < _; simp; omega
  · show (List.replicate p.Mutators.toNat (0 : Int)).length < _; simp; omega
  · show ((List.range p.Workers.toNat).map (XY p)).length < _; simp; omega
  · have hx : x ∈ (List.range p.Workers.toNat).map (XY p) := hx
    obtain ⟨i, _, rfl⟩ := List.mem_map.1 hx
    simp [XY]
  · show (p.Regs.map vw).length < _; simp; omega
  · have hx : x ∈ p.Regs.map vw := hx
    obtain ⟨r, hr, rfl⟩ := List.mem_map.1 hx
    exact ⟨hreg r hr, by simp [vw], by simp [vw]⟩
  · obtain ⟨i, hi⟩ := List.getElem?_of_mem hx
    have hlt := (List.getElem?_eq_some_iff.1 hi).1
    have := (h.prog i _ x (List.getElem?_eq_getElem (by have : p.Progs.length = p.Regs.length := by omega
                                                        have hlt : i < p.Progs.length := hlt
                                                        omega)) hi).1
    omega
  · show p.Picks.length < _; rw [h.picks]; simp
end
end Go.Pe.G
namespace Go.Pe.G
open Go.Pe
noncomputable section
theorem Yh {α B C : Type} {f : List α × List α × Int × Int × Unit → Option (yE (List α × List α × Int × Int × Unit) B C)} {l : List α} {b : B} (hl : l.length < 1000000)
    (h1 : ∀ (i : Nat) (x : α), l[i]? = some x → f (l, l, (l.length : Int), (i : Int), ()) = some (.again (l, l, (l.length : Int), ((i + 1 : Nat) : Int), ())))
    (h2 : f (l, l, (l.length : Int), (l.length : Int), ()) = some (.brk b)) : z3 f (l, l, (l.length : Int), 0, ()) = some (.brk b) := by
  refine (vz (f := f) (fun a => ∃ i : Nat, a = (l, l, (l.length : Int), (i : Int), ()) ∧ i ≤ l.length) (fun a => l.length - a.2.2.2.1.toNat) (fun o => o = .brk b) ?_ (l, l, (l.length : Int), 0, ()) ⟨0, rfl, by omega⟩ (xi (by dsimp only; omega))).elim fun o h => ?_
  rotate_left
  · rw [h.1, h.2]
  · rintro _ ⟨i, rfl, hi⟩
    rcases Nat.lt_or_ge i l.length with hlt | hge
    · refine ⟨_, h1 i _ (List.getElem?_eq_getElem hlt), ⟨i + 1, rfl, hlt⟩, ?_⟩
      show l.length - ((i + 1 : Nat) : Int).toNat < l.length - (i : Int).toNat
      omega
    · have : i = l.length := by omega
      subst this
      exact ⟨_, h2, rfl⟩
theorem yW {l : List (Int)} (hl : l.length < 1000000) : zL l l = some (true, ()) := by
  rw [zch, z8, if_pos rfl, Yh (b := ()) hl (fun i x hx => ?_) (by rw [YF]; simp)]
  · rfl
  · have hlt := xM hx
    rw [YF, zp, if_pos hlt, xy hx, Option.bind_some, Option.bind_some, yC (by omega)]
    simp
theorem VW {l : List (BitVec 64)} (hl : l.length < 1000000) : vJ l l = some (true, ()) := by
  rw [VX, z8, if_pos rfl, Yh (b := ()) hl (fun i x hx => ?_) (by rw [ur]; simp)]
  · rfl
  · have hlt := xM hx
    rw [ur, zp, if_pos hlt, xy hx, Option.bind_some, Option.bind_some, yC (by omega)]
    simp
theorem UW {l : List (Int)} (hl : l.length < 1000000) : ug l l = some (true, ()) := by
  rw [zae, z8, if_pos rfl, Yh (b := ()) hl (fun i x hx => ?_) (by rw [Zf]; simp)]
  · rfl
  · have hlt := xM hx
    rw [Zf, zp, if_pos hlt, xy hx, Option.bind_some, Option.bind_some, yC (by omega)]
    simp
theorem Vq {l : List (zi)} (hl : l.length < 1000000) : vg l l = some (true, ()) := by
  rw [Vn, z8, if_pos rfl, Yh (b := ()) hl (fun i x hx => ?_) (by rw [ua]; simp)]
  · rfl
  · have hlt := xM hx
    rw [ua, zp, if_pos hlt, xy hx, Option.bind_some, Option.bind_some, yC (by omega)]
    simp
theorem X7 {l : List (zj)} (hl : l.length < 1000000) : wn l l = some (true, ()) := by
  rw [X9, z8, if_pos rfl, Yh (b := ()) hl (fun i x hx => ?_) (by rw [vi]; simp)]
  · rfl
  · have hlt := xM hx
    rw [vi, zp, if_pos hlt, xy hx, Option.bind_some, Option.bind_some, yC (by omega)]
    simp
theorem xh {l : List (List Int)} (hl : l.length < 1000000) (he : ∀ x ∈ l, x.length < 1000000) : zA l l = some (true, ()) := by
  rw [YH, z8, if_pos rfl, Yh (b := ()) hl (fun i x hx => ?_) (by rw [wv]; simp)]
  · rfl
  · have hlt := xM hx
    rw [wv, zp, if_pos hlt, xy hx, Option.bind_some, Option.bind_some, yW (he x (List.mem_of_getElem? hx)), Option.bind_some, yC (by omega)]
    simp
theorem vF {l : List (List zi)} (hl : l.length < 1000000) (he : ∀ x ∈ l, x.length < 1000000) : yx l l = some (true, ()) := by
  rw [vE, z8, if_pos rfl, Yh (b := ()) hl (fun i x hx => ?_) (by rw [yQ]; simp)]
  · rfl
  · have hlt := xM hx
    rw [yQ, zp, if_pos hlt, xy hx, Option.bind_some, Option.bind_some, Vq (he x (List.mem_of_getElem? hx)), Option.bind_some, yC (by omega)]
    simp
theorem zo5 {w : ze} (h : w.Batch.length < 1000000) : Wb w w = some (true, ()) := by
  rw [zfA, yW h]; simp
theorem zn9 {m : zb} (h : m.Regs.length < 1000000 ∧ m.Buf.length < 1000000 ∧ m.Batch.length < 1000000) : Xu m m = some (true, ()) := by
  rw [zer, yW h.1, yW h.2.1, yW h.2.2, zcE]; simp
theorem xP {l : List (ze)} (hl : l.length < 1000000) (he : ∀ x ∈ l, x.Batch.length < 1000000) : z6 l l = some (true, ()) := by
  rw [xQ, z8, if_pos rfl, Yh (b := ()) hl (fun i x hx => ?_) (by rw [yq]; simp)]
  · rfl
  · have hlt := xM hx
    rw [yq, zp, if_pos hlt, xy hx, Option.bind_some, Option.bind_some, zo5 (he x (List.mem_of_getElem? hx)), Option.bind_some, yC (by omega)]
    simp
theorem xB {l : List (zb)} (hl : l.length < 1000000) (he : ∀ x ∈ l, x.Regs.length < 1000000 ∧ x.Buf.length < 1000000 ∧ x.Batch.length < 1000000) : zV l l = some (true, ()) := by
  rw [xC, z8, if_pos rfl, Yh (b := ()) hl (fun i x hx => ?_) (by rw [yh]; simp)]
  · rfl
  · have hlt := xM hx
    rw [yh, zp, if_pos hlt, xy hx, Option.bind_some, Option.bind_some, zn9 (he x (List.mem_of_getElem? hx)), Option.bind_some, yC (by omega)]
    simp
theorem zmY {h : zv} (h1 : h.Objs.length < 1000000) (h2 : ∀ x ∈ h.Objs, x.length < 1000000) : vj h h = some (true, ()) := by
  rw [zl7, xh h1 h2]; simp
theorem zgZ {s : zc} (h : ub s) : Xc s s = some (true, ()) := by
  have hp : uc s.P s.P = some (true, ()) := by
    rw [zln, zfx, zmY h.pobjs h.pobj, xh h.regs h.reg, vF h.progs h.prog, X7 h.picks]
    simp
  have hl : wG s.L s.L = some (true, ()) := by
    rw [zjk, UW h.bal]; simp
  have hm : uT s.M s.M = some (true, ()) := by
    rw [zng, VW h.m]; rfl
  rw [zkY, hp, zmY h.objs h.obj, hm, xh h.bins h.bin, yW h.acks, hl, xP h.ws h.w, xB h.ms h.mu]
  simp
end
end Go.Pe.G
namespace Go.Pe.G
open Go.Pe
noncomputable section
def goF {S : Type} (g : Nat → S → S) : Nat → Nat → S → S
  | _, 0, s => s
  | i, k + 1, s => goF g (i + 1) k (g i s)
theorem zmI {S : Type} {g : Nat → S → S} {Inv : S → Prop} (hg : ∀ i s, Inv s → Inv (g i s)) : ∀ (k i : Nat) (s : S), Inv s → Inv (goF g i k s)
  | 0, _, _, h => h
  | k + 1, i, s, h => zmI hg k (i + 1) _ (hg i s h)
theorem zpy {S σ B C : Type} {f : σ → Option (yE σ B C)} (A : Int → S → σ) (b : S → B) (n : Nat) (hn : n < 1000000) (g : Nat → S → S) (Inv : S → Prop) (hg : ∀ i s, Inv s → Inv (g i s))
    (h1 : ∀ (i : Nat) s, i < n → Inv s → f (A (i : Int) s) = some (.again (A ((i + 1 : Nat) : Int) (g i s)))) (h2 : ∀ s, Inv s → f (A (n : Int) s) = some (.brk (b s))) {s : S} (hs : Inv s) :
    z3 f (A 0 s) = some (.brk (b (goF g 0 n s))) := by
  have key : ∀ (k i : Nat) (s : S), n - i = k → i ≤ n → Inv s → ∀ m, k < m → uk f m (A (i : Int) s) = some (.brk (b (goF g i k s))) := by
    intro k
    induction k with
    | zero =>
      intro i s hk hi hs m hm
      have : i = n := by omega
      subst this
      obtain ⟨m, rfl⟩ : ∃ x, m = x + 1 := ⟨m - 1, by omega⟩
      simp only [uk]
      rw [h2 s hs]; rfl
    | succ k ih =>
      intro i s hk hi hs m hm
      obtain ⟨m, rfl⟩ : ∃ x, m = x + 1 := ⟨m - 1, by omega⟩
      simp only [uk]
      rw [h1 i s (by omega) hs, Option.bind_some]
      exact ih (i + 1) _ (by omega) (by omega) (hg i s hs) m (by omega)
  have := key n 0 s (by omega) (by omega) hs YW (xi (by omega))
  rw [V9]
  exact this
end
end Go.Pe.G
namespace Go.Pe.G
open Go.Pe
noncomputable section
def zeE (m : List (BitVec 64)) (d : zh) : List (BitVec 64) × zh :=
  if d.PC < 0 ∨ 7 ≤ d.PC then (m, d)
  else if d.PC = 0 then (m, { d with B := ld m (wc (d.Base + 1)), PC := 1 })
  else if d.PC = 1 then (st m (wc (d.Base + 1)) (d.B - 1#64), { d with PC := 2 })
  else if d.PC = 2 then (m, { d with T := ld m d.Base, PC := if 0 < (ld m d.Base - (d.B - 1#64)).toInt then 5 else 3 })
  else if d.PC = 3 then (m, { d with X := (ld m (UI d (d.B - 1#64))).toInt, PC := 4, Out := if d.T = d.B - 1#64 then d.Out else 1 })
  else if d.PC = 4 then ((sw m d.Base d.T (d.T + 1#64)).1, { d with PC := if (sw m d.Base d.T (d.T + 1#64)).2 then 6 else 5 })
  else if d.PC = 5 then (st m (wc (d.Base + 1)) d.B, { d with X := 0, Out := 2, PC := 6 })
  else (st m (wc (d.Base + 1)) d.B, { d with Out := 1, PC := 7 })
def Uc (m : List (BitVec 64)) (d : zh) : List (BitVec 64) × zh :=
  if d.PC < 0 ∨ 4 ≤ d.PC then (m, d)
  else if d.PC = 0 then (m, { d with T := ld m d.Base, PC := 1 })
  else if d.PC = 1 then (m, { d with B := ld m (wc (d.Base + 1)), PC := 2, Out := if 0 < (ld m (wc (d.Base + 1)) - d.T).toInt then d.Out else 2 })
  else if d.PC = 2 then (m, { d with X := (ld m (UI d d.T)).toInt, PC := 3 })
  else ((sw m d.Base d.T (d.T + 1#64)).1, if (sw m d.Base d.T (d.T + 1#64)).2 then { d with Out := 1, PC := 4 } else { d with X := 0, Out := 4, PC := 4 })
def xw (m : List (BitVec 64)) (d : zh) : List (BitVec 64) × zh :=
  if d.Out ≠ 0 then (m, d) else if d.Kind = 1 then vQ m d else if d.Kind = 2 then zeE m d else if d.Kind = 3 then Uc m d else (m, d)
theorem zpc {m : List (BitVec 64)} {d : zh} (h : d.Kind = 1) : xw m d = vQ m d := by
  unfold xw
  by_cases h0 : d.Out ≠ 0
  · rw [if_pos h0]; unfold vQ; rw [if_pos (.inl h0)]
  · rw [if_neg h0, if_pos h]
theorem zpz {α : Type} {x y : Option α} {v : α} (h : x = some v) : Option.or x y = some v := by subst h; rfl
theorem zc4 {α : Type} {x y z : Option α} (h : x = none) (h2 : y = z) : Option.or x y = z := by subst h; exact h2
theorem zsb : wc 1 = 1 ∧ wc 2 = 2 ∧ wc 3 = 3 ∧ wc 4 = 4 ∧ wc 5 = 5 ∧ wc 6 = 6 ∧ wc 7 = 7 := by decide
theorem zrk : w64 5 = 5 ∧ w64 6 = 6 ∧ w64 7 = 7 := by
  refine ⟨?_, ?_, ?_⟩ <;> exact yg (by omega) (by omega)
theorem zp2 {m : List (BitVec 64)} (hm : m.length < 4294967296) {d : zh} (hc : d.Cap < 1000) : WO m d = some ((xw m d).1, (xw m d).2, ()) := by
  by_cases k1 : d.Kind = 1
  · rw [zpc k1]; exact zeU hm k1 hc
  obtain ⟨w0, w1, w2, w3, w4⟩ := zoO
  obtain ⟨w5, w6, w7⟩ := zrk
  obtain ⟨v1, v2, v3, v4, v5, v6, v7⟩ := zsb
  have hsb : ∀ d : zh, xk m d = some (m, { d with B := ld m (wc (d.Base + 1)) }, ()) := fun d => by
    rw [ZK, yJ, wD, Option.bind_some, Z9]; rfl
  have htk : ∀ d : zh, uP m d = some ((sw m d.Base d.T (d.T + 1#64)).1, (sw m d.Base d.T (d.T + 1#64)).2, ()) := fun d => by
    obtain ⟨v, hv⟩ := zl4 hm d.Base d.T (d.T + 1#64)
    rw [zei, ue, Option.bind_some, hv]; rfl
  rw [zeL, zct, ziK, ziE, ziB]
  simp only [zp, z8, if_neg k1]
  unfold xw
  by_cases k2 : d.Kind = 2
  · refine zc4 (by simp [k2]) (zpz ?_)
    rw [if_pos k2, Option.bind_some]
    by_cases g0 : d.Out = 0
    rotate_left
    · rw [if_neg g0, if_pos (show d.Out ≠ 0 from g0)]
    rw [if_pos g0, if_neg (show ¬ (d.Out ≠ 0) from fun e => e g0), if_neg k1, if_pos k2]
    unfold zeE
    by_cases g1 : d.PC < 0
    · rw [if_pos g1, if_pos (.inl g1)]
    rw [if_neg g1]
    by_cases g2 : 7 ≤ d.PC
    · rw [if_pos g2, if_pos (.inr g2)]
    rw [if_neg g2, if_neg (show ¬ (d.PC < 0 ∨ 7 ≤ d.PC) by omega)]
    have hpc : d.PC = 0 ∨ d.PC = 1 ∨ d.PC = 2 ∨ d.PC = 3 ∨ d.PC = 4 ∨ d.PC = 5 ∨ d.PC = 6 := by omega
    rcases hpc with h | h | h | h | h | h | h
    · simp [h, hsb, w1]
    · simp [h, zdU, yJ, wD, Vt hm, v1, v2, v3, v4, v5, v6, v7]
    · rw [h, if_neg (by decide), if_neg (by decide), if_neg (by decide), if_neg (by decide), if_pos rfl, if_neg (by decide), if_neg (by decide), if_pos rfl]
      simp only [zaU, ue, Option.bind_some, Z9, zdx, zp]
      by_cases hs : 0 < (ld m d.Base - (d.B - 1#64)).toInt
      · simp only [if_pos hs, Option.bind_some, Int.reduceAdd, w5]
      · simp only [if_neg hs, Option.bind_some, h, Int.reduceAdd, w3]
    · simp only [h, zcS, ze1 hc, Option.bind_some, Z9, z8, xf]
      by_cases hs : d.T = d.B - 1#64
      · simp [hs, w4, h]
      · simp [hs, w4, h]
    · simp only [h, zcm, htk, Option.bind_some]
      cases hs : (sw m d.Base d.T (d.T + 1#64)).2 with
      | true => simp [hs, w6, h]
      | false => simp [hs, w5, h]
    · simp [h, zce, xf, k1, yJ, wD, Vt hm, v1, v2, v3, v4, v5, v6, v7]
    · simp [h, zcH, xf, yJ, wD, Vt hm, v1, v2, v3, v4, v5, v6, v7]
  by_cases k3 : d.Kind = 3
  · refine zc4 (by simp [k2, k3]) (zc4 (by simp [k2, k3]) (zpz ?_))
    rw [if_neg k2, if_pos k3, Option.bind_some]
    by_cases g0 : d.Out = 0
    rotate_left
    · rw [if_neg g0, if_pos (show d.Out ≠ 0 from g0)]
    rw [if_pos g0, if_neg (show ¬ (d.Out ≠ 0) from fun e => e g0), if_neg k1, if_neg k2, if_pos k3]
    unfold Uc
    by_cases g1 : d.PC < 0
    · rw [if_pos g1, if_pos (.inl g1)]
    rw [if_neg g1]
    by_cases g2 : 4 ≤ d.PC
    · rw [if_pos g2, if_pos (.inr g2)]
    rw [if_neg g2, if_neg (show ¬ (d.PC < 0 ∨ 4 ≤ d.PC) by omega)]
    have hpc : d.PC = 0 ∨ d.PC = 1 ∨ d.PC = 2 ∨ d.PC = 3 := by omega
    rcases hpc with h | h | h | h
    · simp [h, zcQ, ue, Z9, w1]
    · rw [h, if_neg (by decide), if_neg (by decide), if_pos rfl, if_neg (by decide), if_pos rfl]
      simp only [zcP, yJ, Option.bind_some, Z9, zdx, z8, wD]
      by_cases hs : 0 < (ld m (wc (d.Base + 1)) - d.T).toInt
      · simp only [if_pos hs, Option.bind_some, Int.reduceAdd, v2, h]
      · simp only [if_neg hs, Option.bind_some, Int.reduceAdd, v2, h]
    · simp [h, zcq, ze1 hc, Z9, w3]
    · simp only [h, zaP, htk, Option.bind_some, xf]
      cases hs : (sw m d.Base d.T (d.T + 1#64)).2 with
      | true => simp [hs, w4, h]
      | false => simp [hs, w4, h, k1]
  · refine zc4 (by simp [k2, k3]) (zc4 (by simp [k2, k3]) (zc4 (by simp [k2, k3]) ?_))
    rw [if_neg k2, if_neg k3, Option.bind_some]
    by_cases g0 : d.Out = 0
    · simp [g0, k1, k2, k3]
    · simp [g0]
theorem zqC (m : List (BitVec 64)) (d : zh) : (zeE m d).1.length = m.length ∧ (zeE m d).2.Kind = d.Kind ∧ (zeE m d).2.Base = d.Base ∧ (zeE m d).2.Cap = d.Cap := by
  unfold zeE sw st
  split
  · exact ⟨rfl, rfl, rfl, rfl⟩
  split
  · exact ⟨rfl, rfl, rfl, rfl⟩
  split
  · refine ⟨?_, rfl, rfl, rfl⟩; dsimp only; split <;> simp
  split
  · exact ⟨rfl, rfl, rfl, rfl⟩
  split
  · exact ⟨rfl, rfl, rfl, rfl⟩
  split
  · refine ⟨?_, rfl, rfl, rfl⟩; dsimp only; split <;> (try split) <;> simp
  split <;> (refine ⟨?_, rfl, rfl, rfl⟩; dsimp only; split <;> simp)
theorem zoC (m : List (BitVec 64)) (d : zh) : (Uc m d).1.length = m.length ∧ (Uc m d).2.Kind = d.Kind ∧ (Uc m d).2.Base = d.Base ∧ (Uc m d).2.Cap = d.Cap := by
  unfold Uc sw st
  split
  · exact ⟨rfl, rfl, rfl, rfl⟩
  split
  · exact ⟨rfl, rfl, rfl, rfl⟩
  split
  · exact ⟨rfl, rfl, rfl, rfl⟩
  split
  · exact ⟨rfl, rfl, rfl, rfl⟩
  · refine ⟨?_, ?_, ?_, ?_⟩ <;> dsimp only <;> split <;> (try split) <;> simp
end
end Go.Pe.G
namespace Go.Pe.G
open Go.Pe
noncomputable section
def yX (h : zv) (o : Int) : List Int := h.Objs.getD (o - 1).toNat []
def Ue (h : zv) (o s : Int) : Bool := decide (1 ≤ o) && decide (o ≤ (h.Objs.length : Int)) && decide (0 ≤ s) && decide (s < ((yX h o).length : Int))
def Ut (h : zv) (o s : Int) : Int := if Ue h o s then (yX h o).getD s.toNat 0 else 0
def zlF (s : BitVec 64) (o : Int) : Bool := !(decide (s &&& bit o = 0#64))
def zf9 (t : zl) (o : Int) : Int := if zlF (t.Marks &&& t.Black) o then 2 else if zlF t.Marks o then 1 else 0
def zk0 (t : zl) (o : Int) : zl := if zf9 t o = 1 then { t with Black := t.Black ||| bit o } else t
def zis (l : zm) (who : Int) : zm :=
  if 1 ≤ who ∧ who ≤ (l.Bal.length : Int) then { l with Scanned := wc (l.Scanned + 1), Bal := l.Bal.set (who - 1).toNat (wc (l.Bal.getD (who - 1).toNat 0 + 1)) }
  else { l with Scanned := wc (l.Scanned + 1), Pool := wc (l.Pool + 1) }
def zkZ (s : zc) (b : Int) : List Int := s.Bins.getD b.toNat []
def zsG (p : zd) (h x : Int) : zr := ⟨2, 0, h, yz p, 0#64, x, 0, 0⟩
def zpS (p : zd) (h x : Int) : zr := ⟨1, 0, h, yz p, 0#64, x, 0, 0⟩
def onW (s : zc) (slot : Int) : Int := if slot = s.H.Slots then 8 else 5
def zkw (p : zd) (w : Int) (x : ze) : ze := { x with PC := 0, Victim := w, D := ⟨2, 0, uM p w, p.Cap, 0#64, 0#64, 0, 0⟩ }
def zc1 (n v : Int) : Int := if v < n then v + 1 else 1
def zgr (p : zd) (w : Int) (x : ze) : ze :=
  if zc1 p.Workers x.Victim = w then { x with PC := 2, Victim := w, C := zsG p (wq p) 0 }
  else { x with PC := 1, Victim := zc1 p.Workers x.Victim, D := ⟨3, 0, uM p (zc1 p.Workers x.Victim), p.Cap, 0#64, 0#64, 0, 0⟩ }
def zZ (s : zc) (w : Int) (x : ze) : zc × ze :=
  if x.PC = 0 ∨ x.PC = 1 then
    ({ s with M := (xw s.M x.D).1 },
      if (xw s.M x.D).2.Out = 1 then { x with D := (xw s.M x.D).2, Victim := w, PC := 5, Obj := (xw s.M x.D).2.X, Slot := 0 }
      else if (xw s.M x.D).2.Out = 2 ∨ (xw s.M x.D).2.Out = 4 then zgr s.P w { x with D := (xw s.M x.D).2 } else { x with D := (xw s.M x.D).2 })
  else if x.PC = 2 then
    ({ s with M := (zF s.M x.C).1 },
      if (zF s.M x.C).2.Out = 1 then { x with C := (zF s.M x.C).2, Bin := (zF s.M x.C).2.X, PC := 3 }
      else if (zF s.M x.C).2.Out = 2 then zkw s.P w { x with C := (zF s.M x.C).2 } else { x with C := (zF s.M x.C).2 })
  else if x.PC = 3 then ({ s with Bins := s.Bins.set x.Bin.toNat [] }, { x with Batch := zkZ s x.Bin, PC := 4, C := zpS s.P (yz s.P) x.Bin })
  else if x.PC = 4 then
    ({ s with M := (zF s.M x.C).1 }, if (zF s.M x.C).2.Out = 1 then { x with C := (zF s.M x.C).2, Bin := 0, PC := 7 } else { x with C := (zF s.M x.C).2 })
  else if x.PC = 5 then
    (s, if Ut s.H x.Obj x.Slot = 0 then { x with Slot := wc (x.Slot + 1), PC := onW s (wc (x.Slot + 1)) } else { x with Slot := wc (x.Slot + 1), PC := 6, G := zkF 1 (Ut s.H x.Obj x.Slot) w })
  else if x.PC = 6 then ((z7 s x.G).1, if (z7 s x.G).2.Out = 1 then { x with G := (z7 s x.G).2, PC := onW s x.Slot } else { x with G := (z7 s x.G).2 })
  else if x.PC = 7 then (s, match x.Batch with | [] => zkw s.P w x | o :: l => { x with Batch := l, PC := 5, Obj := o, Slot := 0 })
  else if x.PC = 8 then ({ s with T := zk0 s.T x.Obj, L := zis s.L 0 }, { x with PC := 9 })
  else if x.PC = 9 then ({ s with Work := wc (s.Work - 1) }, { x with Obj := 0, PC := 7 })
  else (s, x)
def yH (s : zc) (w : Int) : zc :=
  if s.Done = true ∨ w < 1 ∨ (s.Ws.length : Int) < w then s
  else match s.Ws[(w - 1).toNat]? with
    | some x => { (zZ s w x).1 with Ws := s.Ws.set (w - 1).toNat (zZ s w x).2 }
    | none => s
structure zpT (p : zd) (nb : Nat) (hd : Int) (c : zr) : Prop where
  k : c.Kind = 2
  h : c.Head = hd
  n : c.Next = yz p
  v : 1 ≤ c.PC → 1 ≤ yB c.H ∧ yB c.H < nb
  y : 2 ≤ c.PC → 0 ≤ c.Y ∧ c.Y < nb
  o : c.Out ≠ 1
structure zop (p : zd) (nb : Nat) (hd : Int) (c : zr) : Prop where
  k : c.Kind = 1
  h : c.Head = hd
  n : c.Next = yz p
  x : 1 ≤ c.X ∧ c.X < nb
  v : 1 ≤ c.PC → yB c.H < nb
theorem zpC {p : zd} {nb : Nat} {hd x : Int} : zpT p nb hd (zsG p hd x) :=
  ⟨rfl, rfl, rfl, fun e => absurd e (by show ¬ (1 : Int) ≤ 0; decide), fun e => absurd e (by show ¬ (2 : Int) ≤ 0; decide), by show (0 : Int) ≠ 1; decide⟩
theorem zn0 {p : zd} {nb : Nat} {hd x : Int} (h : 1 ≤ x ∧ x < nb) : zop p nb hd (zpS p hd x) :=
  ⟨rfl, rfl, rfl, h, fun e => absurd e (by show ¬ (1 : Int) ≤ 0; decide)⟩
structure WOk (p : zd) (nb : Nat) (w : Int) (x : ze) : Prop where
  pc : 0 ≤ x.PC ∧ x.PC ≤ 9
  vic : 1 ≤ x.Victim ∧ x.Victim ≤ p.Workers
  d0 : x.PC = 0 → x.D.Kind = 2 ∧ x.D.Base = uM p w ∧ x.D.Cap = p.Cap
  d1 : x.PC = 1 → x.D.Kind = 3 ∧ x.D.Base = uM p x.Victim ∧ x.D.Cap = p.Cap
  c2 : x.PC = 2 → zpT p nb (wq p) x.C
  b3 : x.PC = 3 → 1 ≤ x.Bin ∧ x.Bin < nb
  c4 : x.PC = 4 → zop p nb (yz p) x.C
  g6 : x.PC = 6 → MOk p nb x.G ∧ (x.G.PC = 5 → x.G.C.Out ≠ 1) ∧ x.G.Mode = 1 ∧ x.G.PC ≠ 4
theorem WOk.plain {p : zd} {nb : Nat} {w : Int} {x : ze} (pc : x.PC = 5 ∨ x.PC = 7 ∨ x.PC = 8 ∨ x.PC = 9) (vic : 1 ≤ x.Victim ∧ x.Victim ≤ p.Workers) : WOk p nb w x :=
  ⟨by omega, vic, fun e => by omega, fun e => by omega, fun e => by omega, fun e => by omega, fun e => by omega, fun e => by omega⟩
theorem SOk.swLow {p : zd} {nb : Nat} {s : zc} (h : zX p) (S : SOk p nb s) {a : Int} (ha : a < wq p) (x v : BitVec 64) : SOk p nb { s with M := (sw s.M a x v).1 } := by
  unfold sw
  split
  · exact S.low h ha v
  · exact S
theorem zt5 {p : zd} {nb : Nat} {s : zc} (h : zX p) (S : SOk p nb s) {d : zh} {v : Int} (hv : 1 ≤ v ∧ v ≤ p.Workers) (hk : d.Kind = 2 ∨ d.Kind = 3) (hb : d.Base = uM p v) : SOk p nb { s with M := (xw s.M d).1 } := by
  have hd := zjy h hv.1 hv.2
  have hc := h.cap
  have hf := Uv h
  have e1 : wc (d.Base + 1) = d.Base + 1 := YM (by omega) (by omega)
  unfold xw
  split
  · exact S
  split
  · omega
  split
  · unfold zeE
    rw [e1]
    split
    · exact S
    split
    · exact S
    split
    · exact S.low h (by omega) _
    split
    · exact S
    split
    · exact S
    split
    · exact S.swLow h (by omega) _ _
    split <;> exact S.low h (by omega) _
  split
  · unfold Uc
    split
    · exact S
    split
    · exact S
    split
    · exact S
    split
    · exact S
    · exact S.swLow h (by omega) _ _
  · exact S
theorem ziW (m : List (BitVec 64)) (d : zh) : (xw m d).1.length = m.length ∧ (xw m d).2.Kind = d.Kind ∧ (xw m d).2.Base = d.Base ∧ (xw m d).2.Cap = d.Cap := by
  unfold xw
  split
  · exact ⟨rfl, rfl, rfl, rfl⟩
  split
  · unfold vQ
    split
    · exact ⟨rfl, rfl, rfl, rfl⟩
    split
    · exact ⟨rfl, rfl, rfl, rfl⟩
    split
    · refine ⟨rfl, ?_, ?_, ?_⟩ <;> dsimp only <;> split <;> rfl
    split <;> exact ⟨XR _ _ _, rfl, rfl, rfl⟩
  split
  · exact zqC m d
  split
  · exact zoC m d
  · exact ⟨rfl, rfl, rfl, rfl⟩
theorem zrU {n v : Int} (h : 1 ≤ v ∧ v ≤ n) : 1 ≤ zc1 n v ∧ zc1 n v ≤ n := by unfold zc1; split <;> omega
theorem WOk.look {p : zd} {nb : Nat} {w : Int} {x : ze} (hw : 1 ≤ w ∧ w ≤ p.Workers) (vic : 1 ≤ x.Victim ∧ x.Victim ≤ p.Workers) : WOk p nb w (zgr p w x) := by
  have hn := zrU vic
  unfold zgr
  split
  · exact ⟨⟨(by show (0 : Int) ≤ 2; decide), (by show (2 : Int) ≤ 9; decide)⟩, hw, fun e => (by cases e), fun e => (by cases e), fun _ => zpC, fun e => (by cases e), fun e => (by cases e), fun e => (by cases e)⟩
  · exact ⟨⟨(by show (0 : Int) ≤ 1; decide), (by show (1 : Int) ≤ 9; decide)⟩, hn, fun e => (by cases e), fun _ => ⟨rfl, rfl, rfl⟩, fun e => (by cases e), fun e => (by cases e), fun e => (by cases e), fun e => (by cases e)⟩
theorem WOk.begin {p : zd} {nb : Nat} {w : Int} {x : ze} (hw : 1 ≤ w ∧ w ≤ p.Workers) : WOk p nb w (zkw p w x) :=
  ⟨⟨(by show (0 : Int) ≤ 0; decide), (by show (0 : Int) ≤ 9; decide)⟩, hw, fun _ => ⟨rfl, rfl, rfl⟩, fun e => (by cases e), fun e => (by cases e), fun e => (by cases e), fun e => (by cases e), fun e => (by cases e)⟩
theorem zpK (s : zc) {g : zx} (h1 : g.Mode = 1) (h4 : g.PC ≠ 4) : (z7 s g).2.PC ≠ 4 ∧ (z7 s g).1.Flag = s.Flag := by
  have five : (5 : Int) ≠ 4 := by decide
  unfold z7
  split
  · exact ⟨h4, rfl⟩
  split
  · refine ⟨?_, rfl⟩; unfold zdP; dsimp only; split <;> exact h4
  split
  · exact ⟨(by show (7 : Int) ≠ 4; decide), rfl⟩
  split
  · refine ⟨?_, rfl⟩; unfold zif; dsimp only
    split
    · show (6 : Int) ≠ 4; decide
    split
    · exact five
    · exact h4
  split
  · refine ⟨?_, rfl⟩; unfold zii; dsimp only
    split
    · exact h4
    split
    · exact five
    · exact h4
  split
  · exact ⟨h4, rfl⟩
  split
  · refine ⟨?_, rfl⟩; unfold zkL; dsimp only
    split
    · show (2 : Int) ≠ 4; decide
    · show (3 : Int) ≠ 4; decide
  · exact ⟨(by show (1 : Int) ≠ 4; decide), rfl⟩
theorem zq1 (s : zc) (i : Int) : onW s i = 5 ∨ onW s i = 8 := by unfold onW; split <;> simp
theorem SOk.keep {p : zd} {nb : Nat} {s s' : zc} (S : SOk p nb s) (hP : s'.P = s.P) (hM : s'.M = s.M) (hB : s'.Bins.length = s.Bins.length) : SOk p nb s' :=
  ⟨hP.trans S.P, hB.trans S.bins, S.nbk, by rw [hM]; exact S.mem, by rw [hM]; exact S.cF, by rw [hM]; exact S.cE, by rw [hM]; exact S.cL⟩
theorem zs5 {p : zd} {nb : Nat} {s : zc} {w : Int} {x : ze} (h : zX p) (hw : 1 ≤ w ∧ w ≤ p.Workers) (S : SOk p nb s) (W : WOk p nb w x) : SOk p nb (zZ s w x).1 ∧ WOk p nb w (zZ s w x).2 := by
  have hP := S.P
  unfold zZ
  split
  · rename_i h01
    have hv : ∃ v, (1 ≤ v ∧ v ≤ p.Workers) ∧ (x.D.Kind = 2 ∨ x.D.Kind = 3) ∧ x.D.Base = uM p v := by
      rcases h01 with e | e
      · obtain ⟨a, b, c⟩ := W.d0 e; exact ⟨w, hw, .inl a, b⟩
      · obtain ⟨a, b, c⟩ := W.d1 e; exact ⟨x.Victim, W.vic, .inr a, b⟩
    obtain ⟨v, hv1, hv2, hv3⟩ := hv
    refine ⟨zt5 h S hv1 hv2 hv3, ?_⟩
    obtain ⟨l1, l2, l3, l4⟩ := ziW s.M x.D
    dsimp only
    split
    · exact WOk.plain (.inl rfl) hw
    split
    · rw [hP]; exact WOk.look hw W.vic
    · refine ⟨W.pc, W.vic, fun e => ?_, fun e => ?_, fun e => by dsimp only at e; omega, fun e => by dsimp only at e; omega, fun e => by dsimp only at e; omega, fun e => by dsimp only at e; omega⟩
      · obtain ⟨a, b, c⟩ := W.d0 e; exact ⟨l2.trans a, l3.trans b, l4.trans c⟩
      · obtain ⟨a, b, c⟩ := W.d1 e; exact ⟨l2.trans a, l3.trans b, l4.trans c⟩
  split
  · rename_i h2
    have C := W.c2 h2
    obtain ⟨b1, b2, b3, b4, b5, b6⟩ := zn6 h S (.inl rfl) C.k C.h C.n C.v C.y C.o
    refine ⟨b1, ?_⟩
    dsimp only
    split
    · rename_i e1
      exact ⟨⟨(by show (0 : Int) ≤ 3; decide), (by show (3 : Int) ≤ 9; decide)⟩, W.vic, fun e => (by cases e), fun e => (by cases e), fun e => (by cases e), fun _ => b6 e1, fun e => (by cases e), fun e => (by cases e)⟩
    split
    · rw [hP]; exact WOk.begin hw
    · rename_i e1 e2
      exact ⟨W.pc, W.vic, fun e => (by dsimp only at e; omega), fun e => (by dsimp only at e; omega), fun _ => ⟨b2, b3, b4, (b5 e1 e2).1, (b5 e1 e2).2, e1⟩, fun e => (by dsimp only at e; omega), fun e => (by dsimp only at e; omega), fun e => (by dsimp only at e; omega)⟩
  split
  · rename_i h3
    have B := W.b3 h3
    refine ⟨S.keep rfl rfl (by simp), ?_⟩
    rw [hP]
    exact ⟨⟨(by show (0 : Int) ≤ 4; decide), (by show (4 : Int) ≤ 9; decide)⟩, W.vic, fun e => (by cases e), fun e => (by cases e), fun e => (by cases e), fun e => (by cases e), fun _ => zn0 B, fun e => (by cases e)⟩
  split
  · rename_i h4
    have C := W.c4 h4
    obtain ⟨b1, b2, b3, b4, b5, b6⟩ := zmg h S (.inr rfl) C.k C.h C.n C.x C.v
    refine ⟨b1, ?_⟩
    dsimp only
    split
    · exact WOk.plain (.inr (.inl rfl)) W.vic
    · exact ⟨W.pc, W.vic, fun e => (by dsimp only at e; omega), fun e => (by dsimp only at e; omega), fun e => (by dsimp only at e; omega), fun e => (by dsimp only at e; omega), fun _ => ⟨b2, b3, b4, b5, b6⟩, fun e => (by dsimp only at e; omega)⟩
  split
  · refine ⟨S, ?_⟩
    dsimp only
    split
    · rcases zq1 s (wc (x.Slot + 1)) with e | e <;> rw [e]
      · exact WOk.plain (.inl rfl) W.vic
      · exact WOk.plain (.inr (.inr (.inl rfl))) W.vic
    · exact ⟨⟨(by show (0 : Int) ≤ 6; decide), (by show (6 : Int) ≤ 9; decide)⟩, W.vic, fun e => (by cases e), fun e => (by cases e), fun e => (by cases e), fun e => (by cases e), fun e => (by cases e), fun _ =>
        ⟨⟨fun _ => hw, fun e => (by cases e), fun e => (by cases e), fun e => (by cases e), fun e => (by cases e)⟩, fun e => (by cases e), rfl, by show (0 : Int) ≠ 4; decide⟩⟩
  split
  · rename_i h6
    obtain ⟨g1, g2, g3, g4⟩ := W.g6 h6
    obtain ⟨r1, r2, r3⟩ := zmu h S g1 g2
    refine ⟨r1, ?_⟩
    dsimp only
    split
    · rcases zq1 s x.Slot with e | e <;> rw [e]
      · exact WOk.plain (.inl rfl) W.vic
      · exact WOk.plain (.inr (.inr (.inl rfl))) W.vic
    · exact ⟨W.pc, W.vic, fun e => (by dsimp only at e; omega), fun e => (by dsimp only at e; omega), fun e => (by dsimp only at e; omega), fun e => (by dsimp only at e; omega), fun e => (by dsimp only at e; omega), fun _ => ⟨r2, r3, (zjE s x.G).2.2.trans g3, (zpK s g3 g4).1⟩⟩
  split
  · refine ⟨S, ?_⟩
    dsimp only
    split
    · rw [hP]; exact WOk.begin hw
    · exact WOk.plain (.inl rfl) W.vic
  split
  · exact ⟨S.keep rfl rfl rfl, WOk.plain (.inr (.inr (.inr rfl))) W.vic⟩
  split
  · exact ⟨S.keep rfl rfl rfl, WOk.plain (.inr (.inl rfl)) W.vic⟩
  · have := W.pc
    omega
end
end Go.Pe.G
namespace Go.Pe.G
open Go.Pe
noncomputable section
def zma (h : zv) (o s v : Int) : zv :=
  if Ue h o s = true ∧ 0 ≤ v ∧ v ≤ (h.Objs.length : Int) then { h with Objs := h.Objs.set (o - 1).toNat ((yX h o).set s.toNat v) } else h
def zpY (h : zv) (most : Int) : Bool := decide ((h.Objs.length : Int) < most) && decide ((h.Objs.length : Int) < 64)
def znD (h : zv) : zv := { h with Objs := h.Objs ++ [List.replicate h.Slots.toNat 0] }
def ztE (t : zl) (o : Int) : zl := if (zeN t o).2 = true then zk0 (zeN t o).1 o else t
def zns (l : zm) (who : Int) : Int := l.Bal.getD (who - 1).toNat 0
def zrd (l : zm) (who : Int) : Bool := decide (1 ≤ who) && decide (who ≤ (l.Bal.length : Int))
def zpw (l : zm) (who price limit : Int) : Bool := zrd l who && decide (0 ≤ price) && decide (0 ≤ limit) && decide (price ≤ 1000000) && decide (limit ≤ 1000000)
def ztK (l : zm) (who price limit : Int) : Bool := zpw l who price limit && decide (wc (-limit) ≤ wc (zns l who - price))
def zow (l : zm) (who price : Int) : zm := { l with Spent := wc (l.Spent + price), Bal := l.Bal.set (who - 1).toNat (wc (zns l who - price)) }
def zrx (l : zm) (who price limit : Int) : Int := if zpw l who price limit then (if ztK l who price limit then 0 else wc (wc (price - limit) - zns l who)) else -1
def zpV (a b : Int) : Int := if b < a then b else a
def znw (l : zm) (who want : Int) : zm × Int :=
  if zrd l who = true ∧ 0 < zpV want l.Pool then ({ l with Pool := wc (l.Pool - zpV want l.Pool), Bal := l.Bal.set (who - 1).toNat (wc (zns l who + zpV want l.Pool)) }, zpV want l.Pool) else (l, 0)
def Z1 (p : zd) (m : Int) : List zi := p.Progs.getD (m - 1).toNat []
def opM (p : zd) (m : Int) (x : zb) : zi := (Z1 p m).getD x.IP.toNat ⟨0, 0, 0, 0⟩
def zol (x : zb) (r : Int) : Int := x.Regs.getD r.toNat 0
def znz (x : zb) : zb := { x with PC := 0, IP := wc (x.IP + 1) }
def setM (x : zb) (r v : Int) : zb := { x with PC := 0, IP := wc (x.IP + 1), Regs := x.Regs.set r.toNat v }
def onM (s : zc) (slot : Int) : Int := if slot = s.H.Slots then 38 else 36
def zsM (s : zc) (m : Int) (x : zb) : Int := Ut s.H (zol x (opM s.P m x).A) (opM s.P m x).S
def zkW (s : zc) (m : Int) (x : zb) : zb :=
  if s.Acks.getD (m - 1).toNat 0 < s.Epoch then { x with PC := 1, Ret := 2, Want := s.Epoch }
  else if ((Z1 s.P m).length : Int) ≤ x.IP then x
  else if (opM s.P m x).Kind = 1 then { x with PC := 10 }
  else if (opM s.P m x).Kind = 2 then { x with PC := 20 }
  else if (opM s.P m x).Kind = 3 then { x with PC := 30 }
  else if (opM s.P m x).Kind = 4 then setM x (opM s.P m x).R (zol x (opM s.P m x).A)
  else setM x (opM s.P m x).R 0
def mu0 (s : zc) (m : Int) (x : zb) : zc × zb :=
  (s, zkW s m x)
def mu1 (s : zc) (m : Int) (x : zb) : zc × zb :=
  (s, if x.Buf.length = 0 then { x with PC := x.Ret } else { x with PC := 3, Buf := x.Buf.take (x.Buf.length - 1), G := zkF 2 (x.Buf.getD (x.Buf.length - 1) 0) m })
def mu2 (s : zc) (m : Int) (x : zb) : zc × zb :=
  ({ s with Acks := s.Acks.set (m - 1).toNat x.Want }, { x with PC := 0 })
def mu3 (s : zc) (m : Int) (x : zb) : zc × zb :=
  ((z7 s x.G).1, if (z7 s x.G).2.Out = 1 then { x with PC := 1, G := (z7 s x.G).2 } else { x with G := (z7 s x.G).2 })
def zme (s : zc) (m : Int) (x : zb) : zc × zb :=
  (s, setM x (opM s.P m x).R (zsM s m x))
def zmx (s : zc) (m : Int) (x : zb) : zc × zb :=
  (s, if zol x (opM s.P m x).A = 0 then znz x else { x with PC := 21, Old := zsM s m x })
def zlM (s : zc) (m : Int) (x : zb) : zc × zb :=
  (s, if x.Old = 0 ∨ zf9 s.T x.Old ≠ 0 then { x with PC := 23, Old := 0 } else { x with PC := 22 })
def zlC (s : zc) (m : Int) (x : zb) : zc × zb :=
  (s, if s.P.Buf ≤ (x.Buf.length : Int) then { x with PC := 1, Ret := 22 } else { x with PC := 23, Old := 0, Buf := x.Buf ++ [x.Old] })
def zlu (s : zc) (m : Int) (x : zb) : zc × zb :=
  ({ s with H := zma s.H (zol x (opM s.P m x).A) (opM s.P m x).S (zol x (opM s.P m x).R) }, znz x)
def zlY (s : zc) (m : Int) (x : zb) : zc × zb :=
     if ztK s.L m s.P.Price s.P.Limit = true then
      if zpY s.H s.P.Most = true then ({ s with L := zow s.L m s.P.Price, H := znD s.H, T := ztE s.T (wc (s.H.Objs.length + 1)) }, setM x (opM s.P m x).R (wc (s.H.Objs.length + 1)))
      else (s, znz x)
    else (s, { x with PC := 31 })
def zlw (s : zc) (m : Int) (x : zb) : zc × zb :=
     ({ s with L := (znw s.L m (zrx s.L m s.P.Price s.P.Limit)).1 }, if (znw s.L m (zrx s.L m s.P.Price s.P.Limit)).2 = 0 then { x with PC := 32, C := zsG s.P (wq s.P) x.Bin } else { x with PC := 0 })
def zlJ (s : zc) (m : Int) (x : zb) : zc × zb :=
     ({ s with M := (zF s.M x.C).1 }, if (zF s.M x.C).2.Out = 1 then { x with PC := 33, Bin := (zF s.M x.C).2.X, C := (zF s.M x.C).2 }
      else if (zF s.M x.C).2.Out = 2 then { x with PC := 0, C := (zF s.M x.C).2 } else { x with C := (zF s.M x.C).2 })
def zlv (s : zc) (m : Int) (x : zb) : zc × zb :=
  ({ s with Bins := s.Bins.set x.Bin.toNat [] }, { x with Batch := zkZ s x.Bin, PC := 34, C := zpS s.P (yz s.P) x.Bin })
def zmo (s : zc) (m : Int) (x : zb) : zc × zb :=
     ({ s with M := (zF s.M x.C).1 }, if (zF s.M x.C).2.Out = 1 then { x with C := (zF s.M x.C).2, Bin := 0, PC := 35 } else { x with C := (zF s.M x.C).2 })
def zlR (s : zc) (m : Int) (x : zb) : zc × zb :=
  (s, match x.Batch with | [] => { x with PC := 0 } | o :: l => { x with PC := 36, Obj := o, Slot := 0, Batch := l })
def zlL (s : zc) (m : Int) (x : zb) : zc × zb :=
     (s, if Ut s.H x.Obj x.Slot = 0 then { x with Slot := wc (x.Slot + 1), PC := onM s (wc (x.Slot + 1)) } else { x with Slot := wc (x.Slot + 1), PC := 37, G := zkF 3 (Ut s.H x.Obj x.Slot) m })
def zl8 (s : zc) (m : Int) (x : zb) : zc × zb :=
  ((z7 s x.G).1, if (z7 s x.G).2.Out = 1 then { x with G := (z7 s x.G).2, PC := onM s x.Slot } else { x with G := (z7 s x.G).2 })
def zmf (s : zc) (m : Int) (x : zb) : zc × zb :=
  ({ s with T := zk0 s.T x.Obj, L := zis s.L m }, { x with PC := 39 })
def zlS (s : zc) (m : Int) (x : zb) : zc × zb :=
  ({ s with Work := wc (s.Work - 1) }, { x with Obj := 0, PC := 35 })
def xV (s : zc) (m : Int) (x : zb) : zc × zb :=
  if x.PC = 0 then mu0 s m x
  else if x.PC = 1 then mu1 s m x
  else if x.PC = 2 then mu2 s m x
  else if x.PC = 3 then mu3 s m x
  else if x.PC = 10 then zme s m x
  else if x.PC = 20 then zmx s m x
  else if x.PC = 21 then zlM s m x
  else if x.PC = 22 then zlC s m x
  else if x.PC = 23 then zlu s m x
  else if x.PC = 30 then zlY s m x
  else if x.PC = 31 then zlw s m x
  else if x.PC = 32 then zlJ s m x
  else if x.PC = 33 then zlv s m x
  else if x.PC = 34 then zmo s m x
  else if x.PC = 35 then zlR s m x
  else if x.PC = 36 then zlL s m x
  else if x.PC = 37 then zl8 s m x
  else if x.PC = 38 then zmf s m x
  else if x.PC = 39 then zlS s m x
  else (s, x)
def zi7 (s : zc) (m : Int) : zc :=
  if s.Done = true ∨ m < 1 ∨ (s.Ms.length : Int) < m then s
  else match s.Ms[(m - 1).toNat]? with
    | some x => { (xV s m x).1 with Ms := s.Ms.set (m - 1).toNat (xV s m x).2 }
    | none => s
def zld (p : zd) (m : Int) : Nat := (p.Regs.getD (m - 1).toNat []).length
structure XOk (p : zd) (nb : Nat) (m : Int) (x : zb) : Prop where
  pc : (0 ≤ x.PC ∧ x.PC ≤ 3) ∨ x.PC = 10 ∨ (20 ≤ x.PC ∧ x.PC ≤ 23) ∨ (30 ≤ x.PC ∧ x.PC ≤ 39)
  regs : x.Regs.length = zld p m
  ip : 0 ≤ x.IP ∧ x.IP ≤ ((Z1 p m).length : Int)
  op : (10 ≤ x.PC ∧ x.PC ≤ 30) ∨ ((x.PC = 1 ∨ x.PC = 3) ∧ x.Ret = 22) → x.IP < ((Z1 p m).length : Int)
  ret : x.PC = 1 ∨ x.PC = 3 → x.Ret = 2 ∨ x.Ret = 22
  c32 : x.PC = 32 → zpT p nb (wq p) x.C
  b33 : x.PC = 33 → 1 ≤ x.Bin ∧ x.Bin < nb
  c34 : x.PC = 34 → zop p nb (yz p) x.C
  bin : x.PC ≠ 33 → x.PC ≠ 34 → x.Bin = 0
  g : x.PC = 3 ∨ x.PC = 37 → MOk p nb x.G ∧ (x.G.PC = 5 → x.G.C.Out ≠ 1) ∧ x.G.Mode ≠ 1
  buf : (x.Buf.length : Int) ≤ p.Buf
theorem XOk.move {p : zd} {nb : Nat} {m : Int} {x y : zb} (X : XOk p nb m x) (h : x.PC ≠ 33 ∧ x.PC ≠ 34) (pc : y.PC = 0 ∨ y.PC = 2 ∨ y.PC = 10 ∨ (20 ≤ y.PC ∧ y.PC ≤ 23) ∨ y.PC = 30 ∨ y.PC = 31 ∨ y.PC = 35 ∨ y.PC = 36 ∨ y.PC = 38 ∨ y.PC = 39)
    (regs : y.Regs.length = x.Regs.length) (bin : y.Bin = x.Bin) (buf : (y.Buf.length : Int) ≤ p.Buf) (ip : 0 ≤ y.IP ∧ y.IP ≤ ((Z1 p m).length : Int)) (op : 10 ≤ y.PC ∧ y.PC ≤ 30 → y.IP < ((Z1 p m).length : Int)) : XOk p nb m y :=
  ⟨by omega, regs.trans X.regs, ip, fun e => op (by omega), fun e => by omega, fun e => by omega, fun e => by omega, fun e => by omega, fun _ _ => bin.trans (X.bin h.1 h.2), fun e => by omega, buf⟩
theorem zqL (s : zc) (i : Int) : onM s i = 36 ∨ onM s i = 38 := by unfold onM; split <;> simp
theorem XOk.next {p : zd} {nb : Nat} {m : Int} {x : zb} (hp : ((Z1 p m).length : Int) ≤ 64) (X : XOk p nb m x) (h : x.PC ≠ 33 ∧ x.PC ≠ 34) (hi : x.IP < ((Z1 p m).length : Int)) : XOk p nb m (znz x) := by
  have := X.ip
  have e : wc (x.IP + 1) = x.IP + 1 := YM (by omega) (by omega)
  refine X.move h (.inl rfl) rfl rfl X.buf ?_ (fun h => absurd h (by show ¬ ((10 : Int) ≤ 0 ∧ (0 : Int) ≤ 30); decide))
  show 0 ≤ wc (x.IP + 1) ∧ wc (x.IP + 1) ≤ _
  rw [e]; omega
theorem XOk.set {p : zd} {nb : Nat} {m : Int} {x : zb} (hp : ((Z1 p m).length : Int) ≤ 64) (X : XOk p nb m x) (h : x.PC ≠ 33 ∧ x.PC ≠ 34) (hi : x.IP < ((Z1 p m).length : Int)) (r v : Int) : XOk p nb m (setM x r v) := by
  have := X.ip
  have e : wc (x.IP + 1) = x.IP + 1 := YM (by omega) (by omega)
  refine X.move h (.inl rfl) (by simp [setM]) rfl X.buf ?_ (fun h => absurd h (by show ¬ ((10 : Int) ≤ 0 ∧ (0 : Int) ≤ 30); decide))
  show 0 ≤ wc (x.IP + 1) ∧ wc (x.IP + 1) ≤ _
  rw [e]; omega
theorem VT {motive : zc × zb → Prop} (s : zc) (m : Int) (x : zb) (h0 : x.PC = 0 → motive (mu0 s m x)) (h1 : x.PC = 1 → motive (mu1 s m x)) (h2 : x.PC = 2 → motive (mu2 s m x)) (h3 : x.PC = 3 → motive (mu3 s m x)) (h10 : x.PC = 10 → motive (zme s m x)) (h20 : x.PC = 20 → motive (zmx s m x)) (h21 : x.PC = 21 → motive (zlM s m x)) (h22 : x.PC = 22 → motive (zlC s m x)) (h23 : x.PC = 23 → motive (zlu s m x)) (h30 : x.PC = 30 → motive (zlY s m x)) (h31 : x.PC = 31 → motive (zlw s m x)) (h32 : x.PC = 32 → motive (zlJ s m x)) (h33 : x.PC = 33 → motive (zlv s m x)) (h34 : x.PC = 34 → motive (zmo s m x)) (h35 : x.PC = 35 → motive (zlR s m x)) (h36 : x.PC = 36 → motive (zlL s m x)) (h37 : x.PC = 37 → motive (zl8 s m x)) (h38 : x.PC = 38 → motive (zmf s m x)) (h39 : x.PC = 39 → motive (zlS s m x)) (hn : motive (s, x)) : motive (xV s m x) := by
  unfold xV
  by_cases c0 : x.PC = 0
  · rw [if_pos c0]; exact h0 c0
  rw [if_neg c0]
  by_cases c1 : x.PC = 1
  · rw [if_pos c1]; exact h1 c1
  rw [if_neg c1]
  by_cases c2 : x.PC = 2
  · rw [if_pos c2]; exact h2 c2
  rw [if_neg c2]
  by_cases c3 : x.PC = 3
  · rw [if_pos c3]; exact h3 c3
  rw [if_neg c3]
  by_cases c10 : x.PC = 10
  · rw [if_pos c10]; exact h10 c10
  rw [if_neg c10]
  by_cases c20 : x.PC = 20
  · rw [if_pos c20]; exact h20 c20
  rw [if_neg c20]
  by_cases c21 : x.PC = 21
  · rw [if_pos c21]; exact h21 c21
  rw [if_neg c21]
  by_cases c22 : x.PC = 22
  · rw [if_pos c22]; exact h22 c22
  rw [if_neg c22]
  by_cases c23 : x.PC = 23
  · rw [if_pos c23]; exact h23 c23
  rw [if_neg c23]
  by_cases c30 : x.PC = 30
  · rw [if_pos c30]; exact h30 c30
  rw [if_neg c30]
  by_cases c31 : x.PC = 31
  · rw [if_pos c31]; exact h31 c31
  rw [if_neg c31]
  by_cases c32 : x.PC = 32
  · rw [if_pos c32]; exact h32 c32
  rw [if_neg c32]
  by_cases c33 : x.PC = 33
  · rw [if_pos c33]; exact h33 c33
  rw [if_neg c33]
  by_cases c34 : x.PC = 34
  · rw [if_pos c34]; exact h34 c34
  rw [if_neg c34]
  by_cases c35 : x.PC = 35
  · rw [if_pos c35]; exact h35 c35
  rw [if_neg c35]
  by_cases c36 : x.PC = 36
  · rw [if_pos c36]; exact h36 c36
  rw [if_neg c36]
  by_cases c37 : x.PC = 37
  · rw [if_pos c37]; exact h37 c37
  rw [if_neg c37]
  by_cases c38 : x.PC = 38
  · rw [if_pos c38]; exact h38 c38
  rw [if_neg c38]
  by_cases c39 : x.PC = 39
  · rw [if_pos c39]; exact h39 c39
  rw [if_neg c39]
  exact hn
theorem zts {p : zd} {nb : Nat} {s : zc} {m : Int} {x : zb} (h : zX p) (hp : ((Z1 p m).length : Int) ≤ 64) (S : SOk p nb s) (X : XOk p nb m x) : SOk p nb (xV s m x).1 ∧ XOk p nb m (xV s m x).2 := by
  have hP := S.P
  have hip := X.ip
  have hbuf := X.buf
  have hb := h.buf
  have nop : ∀ y : Int, 31 ≤ y → ¬ (10 ≤ y ∧ y ≤ 30) := fun y h e => by omega
  refine VT (motive := fun r => SOk p nb r.1 ∧ XOk p nb m r.2) s m x ?_ ?_ ?_ ?_ ?_ ?_ ?_ ?_ ?_ ?_ ?_ ?_ ?_ ?_ ?_ ?_ ?_ ?_ ?_ ?_
  · intro c
    unfold mu0
    refine ⟨S, ?_⟩
    unfold zkW
    rw [hP]
    split
    · exact ⟨.inl ⟨(by show (0 : Int) ≤ 1; decide), (by show (1 : Int) ≤ 3; decide)⟩, X.regs, X.ip, fun e => by dsimp only at e; omega, fun _ => .inl rfl, fun e => (by cases e), fun e => (by cases e), fun e => (by cases e), fun _ _ => X.bin (by omega) (by omega), fun e => by dsimp only at e; omega, X.buf⟩
    split
    · exact X
    rename_i hlt
    have hlt : x.IP < ((Z1 p m).length : Int) := by omega
    split
    · exact X.move (by omega) (.inr (.inr (.inl rfl))) rfl rfl X.buf X.ip (fun _ => hlt)
    split
    · exact X.move (by omega) (.inr (.inr (.inr (.inl ⟨by show (20 : Int) ≤ 20; decide, by show (20 : Int) ≤ 23; decide⟩)))) rfl rfl X.buf X.ip (fun _ => hlt)
    split
    · exact X.move (by omega) (.inr (.inr (.inr (.inr (.inl rfl))))) rfl rfl X.buf X.ip (fun _ => hlt)
    split
    · exact X.set hp (by omega) hlt _ _
    · exact X.set hp (by omega) hlt _ _
  · intro c
    unfold mu1
    refine ⟨S, ?_⟩
    split
    · rcases X.ret (.inl c) with e | e
      · exact X.move (by omega) (.inr (.inl e)) rfl rfl X.buf X.ip (fun e2 => by dsimp only at e2; omega)
      · exact X.move (by omega) (.inr (.inr (.inr (.inl (by dsimp only; omega))))) rfl rfl X.buf X.ip (fun e2 => X.op (.inr ⟨.inl c, e⟩))
    · exact ⟨.inl ⟨(by show (0 : Int) ≤ 3; decide), (by show (3 : Int) ≤ 3; decide)⟩, X.regs, X.ip, fun e => X.op (.inr ⟨.inl c, by dsimp only at e; omega⟩), fun _ => X.ret (.inl c), fun e => (by cases e), fun e => (by cases e), fun e => (by cases e), fun _ _ => X.bin (by omega) (by omega),
        fun _ => ⟨⟨fun e => absurd e (by show ¬ (2 : Int) = 1; decide), fun e => (by cases e), fun e => (by cases e), fun e => (by cases e), fun e => (by cases e)⟩, fun e => (by cases e), by show (2 : Int) ≠ 1; decide⟩, by dsimp only; rw [List.length_take]; omega⟩
  · intro c
    unfold mu2
    exact ⟨S.keep rfl rfl rfl, X.move (by omega) (.inl rfl) rfl rfl X.buf X.ip (fun e => absurd e (by show ¬ ((10 : Int) ≤ 0 ∧ (0 : Int) ≤ 30); decide))⟩
  · intro c
    unfold mu3
    obtain ⟨g1, g2, g3⟩ := X.g (.inl c)
    obtain ⟨r1, r2, r3⟩ := zmu h S g1 g2
    refine ⟨r1, ?_⟩
    dsimp only
    split
    · exact ⟨.inl ⟨(by show (0 : Int) ≤ 1; decide), (by show (1 : Int) ≤ 3; decide)⟩, X.regs, X.ip, fun e => X.op (.inr ⟨.inr c, by dsimp only at e; omega⟩), fun _ => X.ret (.inr c), fun e => (by cases e), fun e => (by cases e), fun e => (by cases e), fun _ _ => X.bin (by omega) (by omega), fun e => by dsimp only at e; omega, X.buf⟩
    · exact ⟨X.pc, X.regs, X.ip, X.op, X.ret, fun e => by dsimp only at e; omega, fun e => by dsimp only at e; omega, fun e => by dsimp only at e; omega, X.bin, fun _ => ⟨r2, r3, by rw [(zjE s x.G).2.2]; exact g3⟩, X.buf⟩
  · intro c
    unfold zme
    exact ⟨S, X.set hp (by omega) (X.op (.inl (by omega))) _ _⟩
  · intro c
    unfold zmx
    refine ⟨S, ?_⟩
    split
    · exact X.next hp (by omega) (X.op (.inl (by omega)))
    · exact X.move (by omega) (.inr (.inr (.inr (.inl ⟨by show (20 : Int) ≤ 21; decide, by show (21 : Int) ≤ 23; decide⟩)))) rfl rfl X.buf X.ip (fun _ => X.op (.inl (by omega)))
  · intro c
    unfold zlM
    refine ⟨S, ?_⟩
    split
    · exact X.move (by omega) (.inr (.inr (.inr (.inl ⟨by show (20 : Int) ≤ 23; decide, by show (23 : Int) ≤ 23; decide⟩)))) rfl rfl X.buf X.ip (fun _ => X.op (.inl (by omega)))
    · exact X.move (by omega) (.inr (.inr (.inr (.inl ⟨by show (20 : Int) ≤ 22; decide, by show (22 : Int) ≤ 23; decide⟩)))) rfl rfl X.buf X.ip (fun _ => X.op (.inl (by omega)))
  · intro c
    unfold zlC
    have hi := X.op (.inl (by omega))
    refine ⟨S, ?_⟩
    rw [hP]
    split
    · exact ⟨.inl ⟨(by show (0 : Int) ≤ 1; decide), (by show (1 : Int) ≤ 3; decide)⟩, X.regs, X.ip, fun e => hi, fun _ => .inr rfl, fun e => (by cases e), fun e => (by cases e), fun e => (by cases e), fun _ _ => X.bin (by omega) (by omega), fun e => by dsimp only at e; omega, X.buf⟩
    · exact X.move (by omega) (.inr (.inr (.inr (.inl ⟨by show (20 : Int) ≤ 23; decide, by show (23 : Int) ≤ 23; decide⟩)))) rfl rfl (by simp; omega) X.ip (fun _ => hi)
  · intro c
    unfold zlu
    exact ⟨S.keep rfl rfl rfl, X.next hp (by omega) (X.op (.inl (by omega)))⟩
  · intro c
    unfold zlY
    have hi := X.op (.inl (by omega))
    split
    · split
      · exact ⟨S.keep rfl rfl rfl, X.set hp (by omega) hi _ _⟩
      · exact ⟨S, X.next hp (by omega) hi⟩
    · exact ⟨S, X.move (by omega) (.inr (.inr (.inr (.inr (.inr (.inl rfl)))))) rfl rfl X.buf X.ip (fun e => absurd e (by show ¬ ((10 : Int) ≤ 31 ∧ (31 : Int) ≤ 30); decide))⟩
  · intro c
    unfold zlw
    refine ⟨S.keep rfl rfl rfl, ?_⟩
    rw [hP]
    split
    · exact ⟨.inr (.inr (.inr ⟨(by show (30 : Int) ≤ 32; decide), (by show (32 : Int) ≤ 39; decide)⟩)), X.regs, X.ip, fun e => by dsimp only at e; omega, fun e => by dsimp only at e; omega, fun _ => zpC, fun e => (by cases e), fun e => (by cases e), fun _ _ => X.bin (by omega) (by omega), fun e => by dsimp only at e; omega, X.buf⟩
    · exact X.move (by omega) (.inl rfl) rfl rfl X.buf X.ip (fun e => absurd e (by show ¬ ((10 : Int) ≤ 0 ∧ (0 : Int) ≤ 30); decide))
  · intro c
    unfold zlJ
    have C := X.c32 c
    obtain ⟨b1, b2, b3, b4, b5, b6⟩ := zn6 h S (.inl rfl) C.k C.h C.n C.v C.y C.o
    refine ⟨b1, ?_⟩
    dsimp only
    split
    · rename_i e1
      exact ⟨.inr (.inr (.inr ⟨(by show (30 : Int) ≤ 33; decide), (by show (33 : Int) ≤ 39; decide)⟩)), X.regs, X.ip, fun e => by dsimp only at e; omega, fun e => by dsimp only at e; omega, fun e => (by cases e), fun _ => b6 e1, fun e => (by cases e), fun e => absurd rfl e, fun e => by dsimp only at e; omega, X.buf⟩
    split
    · exact X.move (by omega) (.inl rfl) rfl rfl X.buf X.ip (fun e => absurd e (by show ¬ ((10 : Int) ≤ 0 ∧ (0 : Int) ≤ 30); decide))
    · rename_i e1 e2
      exact ⟨X.pc, X.regs, X.ip, X.op, X.ret, fun _ => ⟨b2, b3, b4, (b5 e1 e2).1, (b5 e1 e2).2, e1⟩, fun e => by dsimp only at e; omega, fun e => by dsimp only at e; omega, X.bin, fun e => by dsimp only at e; omega, X.buf⟩
  · intro c
    unfold zlv
    have B := X.b33 c
    refine ⟨S.keep rfl rfl (by simp), ?_⟩
    rw [hP]
    exact ⟨.inr (.inr (.inr ⟨(by show (30 : Int) ≤ 34; decide), (by show (34 : Int) ≤ 39; decide)⟩)), X.regs, X.ip, fun e => by dsimp only at e; omega, fun e => by dsimp only at e; omega, fun e => (by cases e), fun e => (by cases e), fun _ => zn0 B, fun _ e => absurd rfl e, fun e => by dsimp only at e; omega, X.buf⟩
  · intro c
    unfold zmo
    have C := X.c34 c
    obtain ⟨b1, b2, b3, b4, b5, b6⟩ := zmg h S (.inr rfl) C.k C.h C.n C.x C.v
    refine ⟨b1, ?_⟩
    dsimp only
    split
    · exact ⟨.inr (.inr (.inr ⟨(by show (30 : Int) ≤ 35; decide), (by show (35 : Int) ≤ 39; decide)⟩)), X.regs, X.ip, fun e => by dsimp only at e; omega, fun e => by dsimp only at e; omega, fun e => (by cases e), fun e => (by cases e), fun e => (by cases e), fun _ _ => rfl, fun e => by dsimp only at e; omega, X.buf⟩
    · exact ⟨X.pc, X.regs, X.ip, X.op, X.ret, fun e => by dsimp only at e; omega, fun e => by dsimp only at e; omega, fun _ => ⟨b2, b3, b4, b5, b6⟩, X.bin, fun e => by dsimp only at e; omega, X.buf⟩
  · intro c
    unfold zlR
    refine ⟨S, ?_⟩
    dsimp only
    split
    · exact X.move (by omega) (.inl rfl) rfl rfl X.buf X.ip (fun e => absurd e (by show ¬ ((10 : Int) ≤ 0 ∧ (0 : Int) ≤ 30); decide))
    · exact X.move (by omega) (by simp) rfl rfl X.buf X.ip (fun e => absurd e (nop 36 (by omega)))
  · intro c
    unfold zlL
    refine ⟨S, ?_⟩
    dsimp only
    split
    · rcases zqL s (wc (x.Slot + 1)) with e | e <;> rw [e]
      · exact X.move (by omega) (by simp) rfl rfl X.buf X.ip (fun e => absurd e (nop 36 (by omega)))
      · exact X.move (by omega) (by simp) rfl rfl X.buf X.ip (fun e => absurd e (nop 38 (by omega)))
    · exact ⟨.inr (.inr (.inr ⟨(by show (30 : Int) ≤ 37; decide), (by show (37 : Int) ≤ 39; decide)⟩)), X.regs, X.ip, fun e => by dsimp only at e; omega, fun e => by dsimp only at e; omega, fun e => (by cases e), fun e => (by cases e), fun e => (by cases e), fun _ _ => X.bin (by omega) (by omega),
        fun _ => ⟨⟨fun e => absurd e (by show ¬ (3 : Int) = 1; decide), fun e => (by cases e), fun e => (by cases e), fun e => (by cases e), fun e => (by cases e)⟩, fun e => (by cases e), by show (3 : Int) ≠ 1; decide⟩, X.buf⟩
  · intro c
    unfold zl8
    obtain ⟨g1, g2, g3⟩ := X.g (.inr c)
    obtain ⟨r1, r2, r3⟩ := zmu h S g1 g2
    refine ⟨r1, ?_⟩
    dsimp only
    split
    · rcases zqL s x.Slot with e | e <;> rw [e]
      · exact X.move (by omega) (by simp) rfl rfl X.buf X.ip (fun e => absurd e (nop 36 (by omega)))
      · exact X.move (by omega) (by simp) rfl rfl X.buf X.ip (fun e => absurd e (nop 38 (by omega)))
    · exact ⟨X.pc, X.regs, X.ip, X.op, X.ret, fun e => by dsimp only at e; omega, fun e => by dsimp only at e; omega, fun e => by dsimp only at e; omega, X.bin, fun _ => ⟨r2, r3, by rw [(zjE s x.G).2.2]; exact g3⟩, X.buf⟩
  · intro c
    unfold zmf
    exact ⟨S.keep rfl rfl rfl, X.move (by omega) (by simp) rfl rfl X.buf X.ip (fun e => absurd e (nop 39 (by omega)))⟩
  · intro c
    unfold zlS
    exact ⟨S.keep rfl rfl rfl, X.move (by omega) (by simp) rfl rfl X.buf X.ip (fun e => absurd e (nop 35 (by omega)))⟩
  · exact ⟨S, X⟩
end
end Go.Pe.G
namespace Go.Pe.G
open Go.Pe
noncomputable section
def zps (s : zc) : zc :=
  if s.Done = true then s
  else if s.D.PC = 0 then { s with Flag := false, D := { s.D with PC := 1 } }
  else if s.D.PC = 1 then (if s.Work = 0 then { s with D := { s.D with PC := 2 } } else s)
  else if s.D.PC = 2 then { s with Epoch := wc (s.Epoch + 1), D := ⟨if s.Ms.length = 0 then 4 else 3, 0⟩ }
  else if s.D.PC = 3 then (if s.Acks.getD s.D.I.toNat 0 < s.Epoch then s else { s with D := ⟨if wc (s.D.I + 1) = (s.Ms.length : Int) then 4 else 3, wc (s.D.I + 1)⟩ })
  else if s.D.PC = 4 then (if s.Work = 0 then { s with D := { s.D with PC := 5 } } else { s with Restarts := wc (s.Restarts + 1), D := { s.D with PC := 0 } })
  else if s.D.PC = 5 then (if s.Flag = true then { s with Restarts := wc (s.Restarts + 1), D := { s.D with PC := 0 } } else { s with D := { s.D with PC := 6 } })
  else if s.D.PC = 6 then { s with Done := true }
  else s
structure HOk (p : zd) (h : zv) : Prop where
  slots : h.Slots = p.H.Slots
  n : (p.H.Objs.length : Int) ≤ (h.Objs.length : Int) ∧ (h.Objs.length : Int) ≤ p.Most
  objs : ∀ o ∈ h.Objs, (o.length : Int) = h.Slots ∧ ∀ v ∈ o, 0 ≤ v ∧ v ≤ (h.Objs.length : Int)
structure EOk (p : zd) (nb : Nat) (s : zc) : Prop where
  S : SOk p nb s
  wl : (s.Ws.length : Int) = p.Workers
  ml : (s.Ms.length : Int) = p.Mutators
  al : s.Acks.length = s.Ms.length
  W : ∀ (i : Nat) x, s.Ws[i]? = some x → WOk p nb ((i : Int) + 1) x
  X : ∀ (i : Nat) x, s.Ms[i]? = some x → XOk p nb ((i : Int) + 1) x
  H : HOk p s.H
  D : (0 ≤ s.D.PC ∧ s.D.PC ≤ 6) ∧ (s.D.PC = 3 → 0 ≤ s.D.I ∧ s.D.I < (s.Ms.length : Int))
  small : ub s
theorem zqw {p : zd} (h : zX p) (m : Int) : ((Z1 p m).length : Int) ≤ 64 := by
  unfold Z1
  have hr := h.regs
  have hp := h.progs
  rw [List.getD_eq_getElem?_getD]
  rcases Nat.lt_or_ge (m - 1).toNat p.Progs.length with hl | hl
  · rw [List.getElem?_eq_getElem hl]
    have hl2 : (m - 1).toNat < p.Regs.length := by omega
    have := (h.prog (m - 1).toNat _ _ (List.getElem?_eq_getElem hl2) (List.getElem?_eq_getElem hl)).1
    show ((p.Progs[(m - 1).toNat]).length : Int) ≤ 64
    omega
  · rw [List.getElem?_eq_none hl]; show (([] : List zi).length : Int) ≤ 64; simp
theorem zrm {p : zd} (h : zX p) : EOk p (yY p + 1) (Wk p) := by
  have hw := h.wk
  have hm := h.mt
  have hr := h.regs
  have hn := h.n
  have hmo := h.most
  have hb := h.buf
  refine ⟨zpr h, ?_, ?_, ?_, fun i x hx => ?_, fun i x hx => ?_, ⟨rfl, ⟨Int.le_refl _, hmo.1⟩, h.objs⟩, ⟨⟨by show (0 : Int) ≤ 0; decide, by show (0 : Int) ≤ 6; decide⟩, fun e => absurd e (by show ¬ (0 : Int) = 3; decide)⟩, zmN h⟩
  · show (((List.range p.Workers.toNat).map (XY p)).length : Int) = _
    rw [List.length_map, List.length_range]; omega
  · show ((p.Regs.map vw).length : Int) = _
    rw [List.length_map]; exact hr
  · show (List.replicate p.Mutators.toNat (0 : Int)).length = (p.Regs.map vw).length
    rw [List.length_replicate, List.length_map]; omega
  · have hx : ((List.range p.Workers.toNat).map (XY p))[i]? = some x := hx
    rw [List.getElem?_map] at hx
    rcases Nat.lt_or_ge i p.Workers.toNat with hl | hl
    · rw [List.getElem?_range hl] at hx
      injection hx with hx
      subst hx
      exact ⟨⟨by show (0 : Int) ≤ 0; decide, by show (0 : Int) ≤ 9; decide⟩, by show 1 ≤ (i : Int) + 1 ∧ (i : Int) + 1 ≤ p.Workers; omega, fun _ => ⟨rfl, rfl, rfl⟩, fun e => (by cases e), fun e => (by cases e), fun e => (by cases e), fun e => (by cases e), fun e => (by cases e)⟩
    · rw [List.getElem?_eq_none (by rw [List.length_range]; exact hl)] at hx; cases hx
  · have hx : (p.Regs.map vw)[i]? = some x := hx
    rw [List.getElem?_map] at hx
    cases hq : p.Regs[i]? with
    | none => rw [hq] at hx; cases hx
    | some r =>
      rw [hq] at hx
      injection hx with hx
      subst hx
      refine ⟨.inl ⟨by show (0 : Int) ≤ 0; decide, by show (0 : Int) ≤ 3; decide⟩, ?_, ⟨by show (0 : Int) ≤ 0; decide, by show (0 : Int) ≤ _; omega⟩, fun e => absurd e ?_, fun e => absurd e ?_, fun e => (by cases e), fun e => (by cases e), fun e => (by cases e), fun _ _ => rfl, fun e => absurd e ?_, by show (0 : Int) ≤ p.Buf; omega⟩
      · show r.length = zld p ((i : Int) + 1)
        unfold zld
        rw [show ((i : Int) + 1 - 1).toNat = i by omega, List.getD_eq_getElem?_getD, hq]; rfl
      · intro e; simp [vw] at e
      · intro e; simp [vw] at e
      · intro e; simp [vw] at e
theorem ziZ {s : zc} (h : ub s) (b : Int) : (zkZ s b).length < 1000000 := by
  unfold zkZ
  rw [List.getD_eq_getElem?_getD]
  cases hq : s.Bins[b.toNat]? with
  | none => simp
  | some l => exact h.bin l (List.mem_of_getElem? hq)
theorem zmZ (l : zm) (w : Int) : (zis l w).Bal.length = l.Bal.length := by unfold zis; split <;> simp
structure ZS (s s' : zc) : Prop where
  P : s'.P = s.P
  m : s'.M.length = s.M.length
  bl : s'.Bins.length = s.Bins.length
  b : ∀ l ∈ s'.Bins, l ∈ s.Bins ∨ l.length ≤ 1
  bal : s'.L.Bal.length = s.L.Bal.length
  ac : s'.Acks.length = s.Acks.length
  ws : s'.Ws = s.Ws
  ms : s'.Ms = s.Ms
  done : s'.Done = s.Done
  d : s'.D = s.D
theorem ZS.refl (s : zc) : ZS s s := ⟨rfl, rfl, rfl, fun l h => .inl h, rfl, rfl, rfl, rfl, rfl, rfl⟩
theorem Uo (s : zc) (g : zx) : ZS s (z7 s g).1 ∧ (z7 s g).1.H = s.H := by
  obtain ⟨m, b, t, w, f, e, h1, h2, h3, _, _⟩ := zgA s g
  rw [e]
  exact ⟨⟨rfl, h1, h2, fun l hl => (h3 l hl).imp id (fun e => by rw [e]; simp), rfl, rfl, rfl, rfl, rfl, rfl⟩, rfl⟩
theorem zpH {s : zc} (b : Nat) : ∀ l ∈ s.Bins.set b [], l ∈ s.Bins ∨ l.length ≤ 1 := fun l hl => (List.mem_or_eq_of_mem_set hl).imp id (fun e => by rw [e]; simp)
theorem zmU (s : zc) (w : Int) (x : ze) : ZS s (zZ s w x).1 ∧ (zZ s w x).1.H = s.H := by
  unfold zZ
  split
  · exact ⟨⟨rfl, (ziW _ _).1, rfl, fun l h => .inl h, rfl, rfl, rfl, rfl, rfl, rfl⟩, rfl⟩
  split
  · exact ⟨⟨rfl, W1 _ _, rfl, fun l h => .inl h, rfl, rfl, rfl, rfl, rfl, rfl⟩, rfl⟩
  split
  · exact ⟨⟨rfl, rfl, by simp, zpH _, rfl, rfl, rfl, rfl, rfl, rfl⟩, rfl⟩
  split
  · exact ⟨⟨rfl, W1 _ _, rfl, fun l h => .inl h, rfl, rfl, rfl, rfl, rfl, rfl⟩, rfl⟩
  split
  · exact ⟨ZS.refl s, rfl⟩
  split
  · exact Uo s x.G
  split
  · exact ⟨ZS.refl s, rfl⟩
  split
  · exact ⟨⟨rfl, rfl, rfl, fun l h => .inl h, zmZ _ _, rfl, rfl, rfl, rfl, rfl⟩, rfl⟩
  split
  · exact ⟨⟨rfl, rfl, rfl, fun l h => .inl h, rfl, rfl, rfl, rfl, rfl, rfl⟩, rfl⟩
  · exact ⟨ZS.refl s, rfl⟩
theorem zo4 (p : zd) (w : Int) (x : ze) : (zgr p w x).Batch = x.Batch := by unfold zgr; split <;> rfl
theorem zqF {s : zc} (h : ub s) (w : Int) {x : ze} (hx : x.Batch.length < 1000000) : (zZ s w x).2.Batch.length < 1000000 := by
  unfold zZ
  split
  · dsimp only
    split
    · exact hx
    split
    · rw [zo4]; exact hx
    · exact hx
  split
  · dsimp only
    split
    · exact hx
    split <;> exact hx
  split
  · exact ziZ h _
  split
  · dsimp only
    split <;> exact hx
  split
  · dsimp only
    split <;> exact hx
  split
  · dsimp only
    split <;> exact hx
  split
  · dsimp only
    cases hb : x.Batch with
    | nil => show x.Batch.length < _; exact hx
    | cons o l => rw [hb] at hx; show l.length < _; simp at hx; omega
  split
  · exact hx
  split
  · exact hx
  · exact hx
theorem zqD (l : zm) (w p : Int) : (zow l w p).Bal.length = l.Bal.length := by unfold zow; simp
theorem zq6 (l : zm) (w n : Int) : (znw l w n).1.Bal.length = l.Bal.length := by unfold znw; split <;> simp
theorem zsz (s : zc) (m : Int) (x : zb) : ZS s (xV s m x).1 := by
  have q : ∀ s' : zc, s'.P = s.P → s'.M = s.M → s'.Bins = s.Bins → s'.L.Bal.length = s.L.Bal.length → s'.Acks.length = s.Acks.length → s'.Ws = s.Ws → s'.Ms = s.Ms → s'.Done = s.Done → s'.D = s.D → ZS s s' :=
    fun s' a b c d e f g h i => ⟨a, by rw [b], by rw [c], fun l hl => .inl (c ▸ hl), d, e, f, g, h, i⟩
  refine VT (motive := fun r => ZS s r.1) s m x ?_ ?_ ?_ ?_ ?_ ?_ ?_ ?_ ?_ ?_ ?_ ?_ ?_ ?_ ?_ ?_ ?_ ?_ ?_ ?_
  · intro c
    unfold mu0
    exact ZS.refl s
  · intro c
    unfold mu1
    exact ZS.refl s
  · intro c
    unfold mu2
    exact q _ rfl rfl rfl rfl (by simp) rfl rfl rfl rfl
  · intro c
    unfold mu3
    exact (Uo s x.G).1
  · intro c
    unfold zme
    exact ZS.refl s
  · intro c
    unfold zmx
    exact ZS.refl s
  · intro c
    unfold zlM
    exact ZS.refl s
  · intro c
    unfold zlC
    exact ZS.refl s
  · intro c
    unfold zlu
    exact q _ rfl rfl rfl rfl rfl rfl rfl rfl rfl
  · intro c
    unfold zlY
    split
    · split
      · exact q _ rfl rfl rfl (zqD _ _ _) rfl rfl rfl rfl rfl
      · exact ZS.refl s
    · exact ZS.refl s
  · intro c
    unfold zlw
    exact q _ rfl rfl rfl (zq6 _ _ _) rfl rfl rfl rfl rfl
  · intro c
    unfold zlJ
    exact ⟨rfl, W1 _ _, rfl, fun l h => .inl h, rfl, rfl, rfl, rfl, rfl, rfl⟩
  · intro c
    unfold zlv
    exact ⟨rfl, rfl, by simp, zpH _, rfl, rfl, rfl, rfl, rfl, rfl⟩
  · intro c
    unfold zmo
    exact ⟨rfl, W1 _ _, rfl, fun l h => .inl h, rfl, rfl, rfl, rfl, rfl, rfl⟩
  · intro c
    unfold zlR
    exact ZS.refl s
  · intro c
    unfold zlL
    exact ZS.refl s
  · intro c
    unfold zl8
    exact (Uo s x.G).1
  · intro c
    unfold zmf
    exact q _ rfl rfl rfl (zmZ _ _) rfl rfl rfl rfl rfl
  · intro c
    unfold zlS
    exact q _ rfl rfl rfl rfl rfl rfl rfl rfl rfl
  · exact ZS.refl s
theorem HOk.sm {p : zd} (hp : zX p) {h : zv} (H : HOk p h) : h.Objs.length < 1000000 ∧ ∀ x ∈ h.Objs, x.length < 1000000 := by
  have h1 := H.n
  have h2 := hp.most
  have h3 := hp.n
  have h4 := hp.slots
  have h5 := H.slots
  exact ⟨by omega, fun x hx => by have := (H.objs x hx).1; omega⟩
theorem ub.turn {p : zd} (hp : zX p) {s s' : zc} (h : ub s) (T : ZS s s') (H : HOk p s'.H) : ub s' := by
  have hh := H.sm hp
  refine ⟨by rw [T.m]; exact h.m, by rw [T.bl]; exact h.bins, fun x hx => ?_, by rw [T.ac]; exact h.acks, by rw [T.bal]; exact h.bal, by rw [T.ws]; exact h.ws, by rw [T.ws]; exact h.w, by rw [T.ms]; exact h.ms, by rw [T.ms]; exact h.mu, hh.1, hh.2, by rw [T.P]; exact h.pobjs, by rw [T.P]; exact h.pobj, by rw [T.P]; exact h.regs, by rw [T.P]; exact h.reg, by rw [T.P]; exact h.progs, by rw [T.P]; exact h.prog, by rw [T.P]; exact h.picks⟩
  rcases T.b x hx with h' | h'
  · exact h.bin x h'
  · omega
theorem ub.setW {s : zc} (h : ub s) {i : Nat} {x : ze} (hx : x.Batch.length < 1000000) : ub { s with Ws := s.Ws.set i x } :=
  ⟨h.m, h.bins, h.bin, h.acks, h.bal, by simp only [List.length_set]; exact h.ws, fun y hy => by
    rcases List.mem_or_eq_of_mem_set hy with hy | rfl
    · exact h.w y hy
    · exact hx, h.ms, h.mu, h.objs, h.obj, h.pobjs, h.pobj, h.regs, h.reg, h.progs, h.prog, h.picks⟩
theorem ub.setM {s : zc} (h : ub s) {i : Nat} {x : zb} (hx : x.Regs.length < 1000000 ∧ x.Buf.length < 1000000 ∧ x.Batch.length < 1000000) : ub { s with Ms := s.Ms.set i x } :=
  ⟨h.m, h.bins, h.bin, h.acks, h.bal, h.ws, h.w, by simp only [List.length_set]; exact h.ms, fun y hy => by
    rcases List.mem_or_eq_of_mem_set hy with hy | rfl
    · exact h.mu y hy
    · exact hx, h.objs, h.obj, h.pobjs, h.pobj, h.regs, h.reg, h.progs, h.prog, h.picks⟩
theorem zpE {α : Type} {l : List α} {i j : Nat} {x y : α} (h : (l.set i x)[j]? = some y) : (j = i ∧ y = x) ∨ l[j]? = some y := by
  rw [List.getElem?_set] at h
  split at h
  · rename_i e
    split at h
    · injection h with h; exact .inl ⟨e.symm, h.symm⟩
    · cases h
  · exact .inr h
theorem zgd {p : zd} {nb : Nat} {s : zc} (h : zX p) (E : EOk p nb s) (w : Int) : EOk p nb (yH s w) := by
  unfold yH
  split
  · exact E
  rename_i hc
  cases hx : s.Ws[(w - 1).toNat]? with
  | none => exact E
  | some x =>
    have hw1 : ¬ w < 1 := fun e => hc (.inr (.inl e))
    have hw2 : ¬ (s.Ws.length : Int) < w := fun e => hc (.inr (.inr e))
    have hwl := E.wl
    have ei : (((w - 1).toNat : Nat) : Int) + 1 = w := by omega
    have hW := E.W _ x hx
    rw [ei] at hW
    obtain ⟨r1, r2⟩ := zs5 h (by omega) E.S hW
    obtain ⟨T, TH⟩ := zmU s w x
    have sm : ub (zZ s w x).1 := E.small.turn h T (by rw [TH]; exact E.H)
    have hws : (zZ s w x).1.Ws = s.Ws := T.ws
    refine ⟨r1.keep rfl rfl rfl, ?_, ?_, ?_, fun i y hy => ?_, fun i y hy => ?_, ?_, ?_, ?_⟩
    · show ((s.Ws.set _ _).length : Int) = _
      rw [List.length_set]; exact hwl
    · show ((zZ s w x).1.Ms.length : Int) = _
      rw [T.ms]; exact E.ml
    · show (zZ s w x).1.Acks.length = (zZ s w x).1.Ms.length
      rw [T.ms, T.ac]; exact E.al
    · rcases zpE hy with ⟨rfl, rfl⟩ | hy
      · rw [ei]; exact r2
      · exact E.W i y hy
    · have hy : (zZ s w x).1.Ms[i]? = some y := hy
      rw [T.ms] at hy
      exact E.X i y hy
    · show HOk p (zZ s w x).1.H
      rw [TH]; exact E.H
    · show (0 ≤ (zZ s w x).1.D.PC ∧ (zZ s w x).1.D.PC ≤ 6) ∧ ((zZ s w x).1.D.PC = 3 → 0 ≤ (zZ s w x).1.D.I ∧ (zZ s w x).1.D.I < ((zZ s w x).1.Ms.length : Int))
      rw [T.d, T.ms]; exact E.D
    · have := sm.setW (i := (w - 1).toNat) (zqF E.small w (E.small.w x (List.mem_of_getElem? hx)))
      rw [hws] at this
      exact this
theorem zuv {p : zd} {nb : Nat} {s : zc} (h : zX p) (E : EOk p nb s) : EOk p nb (zps s) := by
  have key : ∀ s' : zc, s'.P = s.P → s'.M = s.M → s'.Bins = s.Bins → s'.Ws = s.Ws → s'.Ms = s.Ms → s'.Acks = s.Acks → s'.H = s.H → s'.L = s.L → ((0 ≤ s'.D.PC ∧ s'.D.PC ≤ 6) ∧ (s'.D.PC = 3 → 0 ≤ s'.D.I ∧ s'.D.I < (s'.Ms.length : Int))) → EOk p nb s' := by
    intro s' e1 e2 e3 e4 e5 e6 e7 e8 e9
    have q := E.small
    refine ⟨E.S.keep e1 e2 (by rw [e3]), by rw [e4]; exact E.wl, by rw [e5]; exact E.ml, by rw [e5, e6]; exact E.al, by rw [e4]; exact E.W, by rw [e5]; exact E.X, by rw [e7]; exact E.H, e9, ?_⟩
    exact ⟨by rw [e2]; exact q.m, by rw [e3]; exact q.bins, by rw [e3]; exact q.bin, by rw [e6]; exact q.acks, by rw [e8]; exact q.bal, by rw [e4]; exact q.ws, by rw [e4]; exact q.w, by rw [e5]; exact q.ms, by rw [e5]; exact q.mu, by rw [e7]; exact q.objs, by rw [e7]; exact q.obj, by rw [e1]; exact q.pobjs, by rw [e1]; exact q.pobj, by rw [e1]; exact q.regs, by rw [e1]; exact q.reg, by rw [e1]; exact q.progs, by rw [e1]; exact q.prog, by rw [e1]; exact q.picks⟩
  have hm : ∀ n : Int, 0 ≤ n ∧ n ≤ 6 → n ≠ 3 → ∀ i, (0 ≤ (⟨n, i⟩ : zk).PC ∧ (⟨n, i⟩ : zk).PC ≤ 6) ∧ ((⟨n, i⟩ : zk).PC = 3 → 0 ≤ (⟨n, i⟩ : zk).I ∧ (⟨n, i⟩ : zk).I < (s.Ms.length : Int)) := fun n h1 h2 i => ⟨h1, fun e => absurd e h2⟩
  have hml := E.ml
  have hmt := h.mt
  unfold zps
  split
  · exact E
  split
  · exact key _ rfl rfl rfl rfl rfl rfl rfl rfl (hm 1 (by decide) (by decide) _)
  split
  · split
    · exact key _ rfl rfl rfl rfl rfl rfl rfl rfl (hm 2 (by decide) (by decide) _)
    · exact E
  split
  · refine key _ rfl rfl rfl rfl rfl rfl rfl rfl ?_
    dsimp only
    split
    · exact hm 4 (by decide) (by decide) _
    · exact ⟨by decide, fun _ => by omega⟩
  split
  · rename_i c3
    have hi := E.D.2 c3
    split
    · exact E
    · refine key _ rfl rfl rfl rfl rfl rfl rfl rfl ?_
      dsimp only
      have e : wc (s.D.I + 1) = s.D.I + 1 := YM (by omega) (by omega)
      rw [e]
      split
      · exact hm 4 (by decide) (by decide) _
      · exact ⟨by decide, fun _ => by omega⟩
  split
  · split
    · exact key _ rfl rfl rfl rfl rfl rfl rfl rfl (hm 5 (by decide) (by decide) _)
    · exact key _ rfl rfl rfl rfl rfl rfl rfl rfl (hm 0 (by decide) (by decide) _)
  split
  · split
    · exact key _ rfl rfl rfl rfl rfl rfl rfl rfl (hm 0 (by decide) (by decide) _)
    · exact key _ rfl rfl rfl rfl rfl rfl rfl rfl (hm 6 (by decide) (by decide) _)
  split
  · exact key _ rfl rfl rfl rfl rfl rfl rfl rfl E.D
  · exact E
theorem HOk.put {p : zd} {h : zv} (H : HOk p h) (o s v : Int) : HOk p (zma h o s v) := by
  unfold zma
  split
  · rename_i c
    obtain ⟨c1, c2, c3⟩ := c
    unfold Ue at c1
    simp only [Bool.and_eq_true, decide_eq_true_eq] at c1
    refine ⟨H.slots, by simp only [List.length_set]; exact H.n, fun l hl => ?_⟩
    simp only [List.length_set]
    rcases List.mem_or_eq_of_mem_set hl with hl | rfl
    · exact H.objs l hl
    · have hm : yX h o ∈ h.Objs := by
        unfold yX
        rw [List.getD_eq_getElem?_getD, List.getElem?_eq_getElem (show (o - 1).toNat < h.Objs.length by omega)]
        exact List.getElem_mem _
      obtain ⟨a, b⟩ := H.objs _ hm
      refine ⟨by rw [List.length_set]; exact a, fun y hy => ?_⟩
      rcases List.mem_or_eq_of_mem_set hy with hy | rfl
      · exact b y hy
      · exact ⟨c2, c3⟩
  · exact H
theorem HOk.alloc {p : zd} (hp : zX p) {h : zv} (H : HOk p h) (hr : zpY h p.Most = true) : HOk p (znD h) := by
  unfold zpY at hr
  simp only [Bool.and_eq_true, decide_eq_true_eq] at hr
  have hs := hp.slots
  have hsl := H.slots
  have hn := H.n
  unfold znD
  refine ⟨H.slots, by simp only [List.length_append, List.length_singleton]; omega, fun l hl => ?_⟩
  simp only [List.length_append, List.length_singleton]
  rcases List.mem_append.1 hl with hl | hl
  · obtain ⟨a, b⟩ := H.objs l hl
    exact ⟨a, fun v hv => by have := b v hv; omega⟩
  · rw [List.mem_singleton.1 hl]
    refine ⟨by rw [List.length_replicate]; omega, fun v hv => ?_⟩
    rw [(List.mem_replicate.1 hv).2]; omega
theorem zt2 {p : zd} (hp : zX p) {s : zc} (hP : s.P = p) (H : HOk p s.H) (m : Int) (x : zb) : HOk p (xV s m x).1.H := by
  refine VT (motive := fun r => HOk p r.1.H) s m x ?_ ?_ ?_ ?_ ?_ ?_ ?_ ?_ ?_ ?_ ?_ ?_ ?_ ?_ ?_ ?_ ?_ ?_ ?_ ?_
  · intro c
    unfold mu0
    exact H
  · intro c
    unfold mu1
    exact H
  · intro c
    unfold mu2
    exact H
  · intro c
    unfold mu3
    rw [(Uo s x.G).2]; exact H
  · intro c
    unfold zme
    exact H
  · intro c
    unfold zmx
    exact H
  · intro c
    unfold zlM
    exact H
  · intro c
    unfold zlC
    exact H
  · intro c
    unfold zlu
    exact H.put _ _ _
  · intro c
    unfold zlY
    split
    · split
      · rename_i hr
        rw [hP] at hr
        exact H.alloc hp hr
      · exact H
    · exact H
  · intro c
    unfold zlw
    exact H
  · intro c
    unfold zlJ
    exact H
  · intro c
    unfold zlv
    exact H
  · intro c
    unfold zmo
    exact H
  · intro c
    unfold zlR
    exact H
  · intro c
    unfold zlL
    exact H
  · intro c
    unfold zl8
    rw [(Uo s x.G).2]; exact H
  · intro c
    unfold zmf
    exact H
  · intro c
    unfold zlS
    exact H
  · exact H
theorem zoM (s : zc) (m : Int) (x : zb) : (zkW s m x).Batch = x.Batch := by
  unfold zkW
  repeat' split
  all_goals rfl
theorem zrh {s : zc} (h : ub s) (m : Int) {x : zb} (hx : x.Batch.length < 1000000) : (xV s m x).2.Batch.length < 1000000 := by
  refine VT (motive := fun r => r.2.Batch.length < 1000000) s m x ?_ ?_ ?_ ?_ ?_ ?_ ?_ ?_ ?_ ?_ ?_ ?_ ?_ ?_ ?_ ?_ ?_ ?_ ?_ ?_
  · intro c
    unfold mu0
    dsimp only; rw [zoM]; exact hx
  · intro c
    unfold mu1
    dsimp only; split <;> exact hx
  · intro c
    unfold mu2
    exact hx
  · intro c
    unfold mu3
    dsimp only; split <;> exact hx
  · intro c
    unfold zme
    exact hx
  · intro c
    unfold zmx
    dsimp only; split <;> exact hx
  · intro c
    unfold zlM
    dsimp only; split <;> exact hx
  · intro c
    unfold zlC
    dsimp only; split <;> exact hx
  · intro c
    unfold zlu
    exact hx
  · intro c
    unfold zlY
    split
    · split <;> exact hx
    · exact hx
  · intro c
    unfold zlw
    dsimp only; split <;> exact hx
  · intro c
    unfold zlJ
    dsimp only
    split
    · exact hx
    split <;> exact hx
  · intro c
    unfold zlv
    exact ziZ h _
  · intro c
    unfold zmo
    dsimp only; split <;> exact hx
  · intro c
    unfold zlR
    dsimp only
    cases hb : x.Batch with
    | nil => show ([] : List Int).length < 1000000; simp
    | cons o l => rw [hb] at hx; show l.length < _; simp at hx; omega
  · intro c
    unfold zlL
    dsimp only; split <;> exact hx
  · intro c
    unfold zl8
    dsimp only; split <;> exact hx
  · intro c
    unfold zmf
    exact hx
  · intro c
    unfold zlS
    exact hx
  · exact hx
theorem zoW {p : zd} (h : zX p) (m : Int) : zld p m < 1000000 := by
  unfold zld
  rw [List.getD_eq_getElem?_getD]
  cases hq : p.Regs[(m - 1).toNat]? with
  | none => simp
  | some r => have := (h.reg r (List.mem_of_getElem? hq)).1; show r.length < _; omega
theorem zun {p : zd} {nb : Nat} {s : zc} (h : zX p) (E : EOk p nb s) (m : Int) : EOk p nb (zi7 s m) := by
  unfold zi7
  split
  · exact E
  rename_i hc
  cases hx : s.Ms[(m - 1).toNat]? with
  | none => exact E
  | some x =>
    have hw1 : ¬ m < 1 := fun e => hc (.inr (.inl e))
    have hw2 : ¬ (s.Ms.length : Int) < m := fun e => hc (.inr (.inr e))
    have ei : (((m - 1).toNat : Nat) : Int) + 1 = m := by omega
    have hX := E.X _ x hx
    rw [ei] at hX
    obtain ⟨r1, r2⟩ := zts h (zqw h m) E.S hX
    have T := zsz s m x
    have TH := zt2 h E.S.P E.H m x
    have sm : ub (xV s m x).1 := E.small.turn h T TH
    have hms : (xV s m x).1.Ms = s.Ms := T.ms
    have hb := h.buf
    refine ⟨r1.keep rfl rfl rfl, ?_, ?_, ?_, fun i y hy => ?_, fun i y hy => ?_, TH, ?_, ?_⟩
    · show ((xV s m x).1.Ws.length : Int) = _
      rw [T.ws]; exact E.wl
    · show ((s.Ms.set _ _).length : Int) = _
      rw [List.length_set]; exact E.ml
    · show (xV s m x).1.Acks.length = (s.Ms.set _ _).length
      rw [List.length_set, T.ac]; exact E.al
    · have hy : (xV s m x).1.Ws[i]? = some y := hy
      rw [T.ws] at hy
      exact E.W i y hy
    · rcases zpE hy with ⟨rfl, rfl⟩ | hy
      · rw [ei]; exact r2
      · exact E.X i y hy
    · show (0 ≤ (xV s m x).1.D.PC ∧ (xV s m x).1.D.PC ≤ 6) ∧ ((xV s m x).1.D.PC = 3 → 0 ≤ (xV s m x).1.D.I ∧ (xV s m x).1.D.I < ((s.Ms.set _ _).length : Int))
      rw [T.d, List.length_set]; exact E.D
    · have q := E.small.mu x (List.mem_of_getElem? hx)
      have q1 := r2.regs
      have q2 := r2.buf
      have q3 := zoW h m
      have := sm.setM (i := (m - 1).toNat) (x := (xV s m x).2) ⟨by omega, by omega, zrh E.small m q.2.2⟩
      rw [hms] at this
      exact this
end
end Go.Pe.G
namespace Go.Pe.G
open Go.Pe
noncomputable section
theorem ztc (t : zl) (o : Int) : zhv t o = some (zf9 t o, ()) := by
  rw [zou, zlo, Option.bind_some]
  show (bif zlF (t.Marks &&& t.Black) o then _ else _) = _
  unfold zf9
  cases h : zlF (t.Marks &&& t.Black) o with
  | true => rfl
  | false =>
    rw [cond_false, zlo, Option.bind_some]
    show (bif zlF t.Marks o then _ else _) = _
    cases h2 : zlF t.Marks o <;> rfl
theorem zqO (t : zl) (o : Int) : zbp t o = some (zk0 t o, decide (zf9 t o = 1), ()) := by
  rw [zmp, ztc, Option.bind_some, z8]
  unfold zk0
  by_cases h : zf9 t o = 1
  · rw [if_pos h, if_pos h, zir, Option.bind_some, decide_eq_true h]
  · rw [if_neg h, if_neg h, decide_eq_false h]
theorem zpP {h : zv} (hl : h.Objs.length < 1000000) (o s : Int) : Vj h o s = some (Ue h o s, ()) := by
  rw [zg1]
  simp only [zp]
  unfold Ue
  by_cases h1 : 1 ≤ o
  · rw [if_pos h1]
    by_cases h2 : o ≤ (h.Objs.length : Int)
    · rw [if_pos h2]
      by_cases h3 : 0 ≤ s
      · have e := List.getElem?_eq_getElem (show (o - 1).toNat < h.Objs.length by omega)
        rw [if_pos h3, yg (a := o - 1) (by omega) (by omega), Y3 (by omega), e, Option.bind_some, decide_eq_true h1, decide_eq_true h2, decide_eq_true h3]
        unfold yX
        rw [List.getD_eq_getElem?_getD, e]; rfl
      · rw [if_neg h3, decide_eq_false h3, Bool.and_false]; rfl
    · rw [if_neg h2, decide_eq_false h2, Bool.and_false]; rfl
  · rw [if_neg h1, decide_eq_false h1]; rfl
theorem zr6 {h : zv} (hl : h.Objs.length < 1000000) (o s : Int) : zgK h o s = some (Ut h o s, Ue h o s, ()) := by
  rw [znk, zpP hl, Option.bind_some]
  unfold Ut
  cases hs : Ue h o s with
  | false => rfl
  | true =>
    have hs' := hs
    unfold Ue at hs'
    simp only [Bool.and_eq_true, decide_eq_true_eq] at hs'
    obtain ⟨⟨⟨h1, h2⟩, h3⟩, h4⟩ := hs'
    have e := List.getElem?_eq_getElem (show (o - 1).toNat < h.Objs.length by omega)
    have es : yX h o = h.Objs[(o - 1).toNat]'(by omega) := by unfold yX; rw [List.getD_eq_getElem?_getD, e]; rfl
    rw [es] at h4
    have e2 := List.getElem?_eq_getElem (show s.toNat < (h.Objs[(o - 1).toNat]'(by omega)).length by omega)
    simp only [Bool.not_true, cond_false, if_true]
    rw [yg (a := o - 1) (by omega) (by omega), Y3 (by omega), e, Option.bind_some, Y3 h3, e2, Option.bind_some, es, List.getD_eq_getElem?_getD, e2]; rfl
theorem zoD (l : zm) (who : Int) : YY l who = some (decide (1 ≤ who) && decide (who ≤ (l.Bal.length : Int)), ()) := by
  rw [zc9, zp]
  by_cases h1 : 1 ≤ who
  · rw [if_pos h1, decide_eq_true h1]; rfl
  · rw [if_neg h1, decide_eq_false h1]; rfl
theorem zpg {l : zm} (hl : l.Bal.length < 1000000) (who : Int) : VS l who = some (zis l who, ()) := by
  rw [zjj, wD, zoD, Option.bind_some]
  unfold zis
  by_cases h : 1 ≤ who ∧ who ≤ (l.Bal.length : Int)
  · rw [if_pos h, decide_eq_true h.1, decide_eq_true (show who ≤ ((({ l with Scanned := wc (l.Scanned + 1) } : zm).Bal.length : Nat) : Int) from h.2)]
    have hn : ¬ l.Bal.isEmpty = true := by
      intro e
      have : l.Bal = [] := by simpa using e
      rw [this] at h
      simp at h
      omega
    have hn : l.Bal.isEmpty = false := by simpa using hn
    have e := List.getElem?_eq_getElem (show (who - 1).toNat < l.Bal.length by omega)
    rw [Bool.true_and, Bool.not_true, cond_false, zcO]
    simp only [decide_true, cond_true, VZ (n := (l.Bal.length : Int)) (by omega) (by omega), Option.bind_some, List.length_replicate, Int.toNat_natCast, hn, cond_false, wD]
    rw [YM (a := who - 1) (by omega) (by omega), Zg (l := l.Bal) (by omega) (by omega), Option.bind_some, e, Option.bind_some, zhG, Option.bind_some, Option.bind_some, Option.bind_some, wD, List.getD_eq_getElem?_getD, e]
    rfl
  · rw [if_neg h]
    have e : (decide (1 ≤ who) && decide (who ≤ ((({ l with Scanned := wc (l.Scanned + 1) } : zm).Bal.length : Nat) : Int))) = false := by
      by_cases h1 : 1 ≤ who
      · rw [decide_eq_true h1, decide_eq_false (fun e => h ⟨h1, e⟩)]; rfl
      · rw [decide_eq_false h1]; rfl
    rw [e]; rfl
theorem zsk {α : Type} (o : α) (l : List α) : cut (o :: l) 1 (((o :: l).length : Nat) : Int) = some l := by
  unfold cut
  rw [decide_eq_true (show (0 : Int) ≤ 1 by decide), decide_eq_true (show (1 : Int) ≤ (((o :: l).length : Nat) : Int) by simp; omega), decide_eq_true (Int.le_refl _)]
  simp
theorem zsr {m : List ze} (h : m.length < 4294967296) : xt m = some (m, ()) := by
  rw [Yo, List.nil_append, xW h, Option.bind_some]
  cases m with
  | nil => simp [zbI]
  | cons a l => simp
theorem zsa {n v : Int} (h : 1 ≤ v ∧ v ≤ n) (hn : n < 1000000) : w64 (v.tmod n + 1) = zc1 n v := by
  unfold zc1
  rw [Int.tmod_eq_emod_of_nonneg (by omega)]
  by_cases hv : v < n
  · rw [if_pos hv, Int.emod_eq_of_lt (by omega) hv, yg (by omega) (by omega)]
  · have : v = n := by omega
    rw [if_neg hv, this, Int.emod_self, yg (by omega) (by omega)]
    rfl
theorem zpf {p : zd} (h : zX p) {s : zc} (hP : s.P = p) (hl : (s.Ws.length : Int) = p.Workers) {x : ze} (hv : 1 ≤ x.Victim ∧ x.Victim ≤ p.Workers) (w : Int) :
    u4 ⟨x, s, w⟩ = some (⟨zgr p w x, s, w⟩, ()) := by
  have hw := h.wk
  rw [zet]
  simp only [zp, hl]
  rw [if_neg (show ¬ p.Workers = 0 by omega), zsa hv (by omega)]
  unfold zgr
  by_cases e : zc1 p.Workers x.Victim = w
  · rw [if_pos e, if_pos e, zcT, Option.bind_some, UL]
    simp only [zaf, Option.bind_some, XE, e, hP]
    rfl
  · rw [if_neg e, if_neg e, zbB]
    simp only [zbq, Option.bind_some, Xl, hP]
theorem zhs {p : zd} {s : zc} (hP : s.P = p) (x : ze) (w : Int) : xT ⟨x, s, w⟩ = some (⟨zkw p w x, s, w⟩, ()) := by
  rw [zd8, zbB]
  simp only [zbq, Option.bind_some, Xl, hP]
  rfl
theorem zmK (s : zc) (x : ze) (w : Int) : Z3 ⟨x, s, w⟩ = some (onW s x.Slot, ()) := by
  rw [zhH, zp]
  unfold onW
  split <;> rfl
theorem zi4 {s : zc} (hm : s.M.length < 4294967296) (x : ze) (w : Int) : wo ⟨x, s, w⟩ = some ((zF s.M x.C).2.Out, ⟨{ x with C := (zF s.M x.C).2 }, { s with M := (zF s.M x.C).1 }, w⟩, ()) := by
  rw [zef]
  simp only [zg2 hm, Option.bind_some]
theorem zkM {p : zd} (h : zX p) {s : zc} (hP : s.P = p) (hm : s.M.length < 4294967296) (hl : (s.Ws.length : Int) = p.Workers) {x : ze} (hv : 1 ≤ x.Victim ∧ x.Victim ≤ p.Workers) (hc : x.D.Cap < 1000) {w : Int} (h01 : x.PC = 0 ∨ x.PC = 1) :
    ZE ⟨x, s, w⟩ = some (⟨(zZ s w x).2, (zZ s w x).1, w⟩, ()) := by
  unfold zZ
  rw [if_pos h01, zfa]
  simp only [zp2 hm hc, Option.bind_some, zp]
  by_cases o1 : (xw s.M x.D).2.Out = 1
  · rw [if_pos o1, if_pos o1, Ve]; rfl
  · rw [if_neg o1, if_neg o1]
    have hk := fun (x' : ze) (e : x'.Victim = x.Victim) => zpf h (s := { s with M := (xw s.M x.D).1 }) hP hl (x := x') (by rw [e]; exact hv) w
    by_cases o4 : (xw s.M x.D).2.Out = 4
    · rw [if_pos o4, if_pos (.inr o4), hk { x with D := (xw s.M x.D).2 } rfl, Option.bind_some, hP]
    · rw [if_neg o4]
      by_cases o2 : (xw s.M x.D).2.Out = 2
      · rw [if_pos o2, if_pos (.inl o2), hk { x with D := (xw s.M x.D).2 } rfl, Option.bind_some, hP]
      · rw [if_neg o2, if_neg (by omega)]
theorem zp7 {p : zd} {nb : Nat} (h : zX p) {s : zc} {x : ze} {w : Int} (S : SOk p nb s) (W : WOk p nb w x) (hl : (s.Ws.length : Int) = p.Workers) (sm : ub s) :
    XD ⟨x, s, w⟩ = some (⟨(zZ s w x).2, (zZ s w x).1, w⟩, ()) := by
  have hP := S.P
  have hm : s.M.length < 4294967296 := by have := S.mem; omega
  have hc := h.cap
  rw [zep]
  simp only [zp]
  by_cases c0 : x.PC = 0
  · rw [if_pos c0, if_pos c0, zkM h hP hm hl W.vic (by have := (W.d0 c0).2.2; omega) (.inl c0), Option.bind_some]
  rw [if_neg c0]
  by_cases c1 : x.PC = 1
  · rw [if_pos c1, zkM h hP hm hl W.vic (by have := (W.d1 c1).2.2; omega) (.inr c1), Option.bind_some]
  rw [if_neg c1]
  unfold zZ
  rw [if_neg (show ¬ (x.PC = 0 ∨ x.PC = 1) by omega)]
  by_cases c2 : x.PC = 2
  · rw [if_pos c2, if_pos c2, zi4 hm, Option.bind_some]
    simp only [zhs (s := { s with M := (zF s.M x.C).1 }) hP]
    by_cases o1 : (zF s.M x.C).2.Out = 1
    · rw [if_pos o1, if_pos o1]
    · rw [if_neg o1, if_neg o1]
      by_cases o2 : (zF s.M x.C).2.Out = 2
      · rw [if_pos o2, if_pos o2, Option.bind_some, hP]
      · rw [if_neg o2, if_neg o2]
  rw [if_neg c2, if_neg c2]
  by_cases c3 : x.PC = 3
  · have B := W.b3 c3
    have hb := S.bins
    have hnb := S.nbk
    have e := List.getElem?_eq_getElem (show x.Bin.toNat < s.Bins.length by omega)
    rw [if_pos c3, if_pos c3, zeh]
    dsimp only
    rw [Y3 (by omega), e, Option.bind_some, zkt (by omega), Option.bind_some, Zg (l := s.Bins) (by omega) (by omega), Option.bind_some, zbn, Option.bind_some, UL]
    simp only [zaf, Option.bind_some, XE]
    unfold zkZ
    rw [List.getD_eq_getElem?_getD, e]; rfl
  rw [if_neg c3, if_neg c3]
  by_cases c4 : x.PC = 4
  · rw [if_pos c4, if_pos c4, zi4 hm, Option.bind_some]
    dsimp only
    by_cases o1 : (zF s.M x.C).2.Out = 1
    · rw [if_pos o1, if_pos o1]
    · rw [if_neg o1, if_neg o1]
  rw [if_neg c4, if_neg c4]
  by_cases c5 : x.PC = 5
  · rw [if_pos c5, if_pos c5, zej]
    simp only [zr6 sm.objs, Option.bind_some, zp, zmK, zpZ, wD]
    by_cases v : Ut s.H x.Obj x.Slot = 0
    · rw [if_pos v, if_pos v]; rfl
    · rw [if_neg v, if_neg v]; rfl
  rw [if_neg c5, if_neg c5]
  by_cases c6 : x.PC = 6
  · obtain ⟨g1, g2, g3, g4⟩ := W.g6 c6
    rw [if_pos c6, if_pos c6]
    simp only [zrz (S.gok h g1), Option.bind_some, zmK]
    have eH : (z7 s x.G).1.H = s.H := (Uo s x.G).2
    by_cases o1 : (z7 s x.G).2.Out = 1
    · rw [if_pos o1, if_pos o1]
      unfold onW
      rw [eH]
    · rw [if_neg o1, if_neg o1]
  rw [if_neg c6, if_neg c6]
  by_cases c7 : x.PC = 7
  · rw [if_pos c7, if_pos c7]
    cases hb : x.Batch with
    | nil => rw [if_pos (by simp), zhs hP, Option.bind_some, hP]
    | cons o l =>
      rw [if_neg (by simp; omega), Y3 (by omega)]
      simp only [Int.toNat_zero, List.getElem?_cons_zero, Option.bind_some, Ve, hb]
      rw [zsk]; rfl
  rw [if_neg c7, if_neg c7]
  by_cases c8 : x.PC = 8
  · rw [if_pos c8, if_pos c8]
    simp only [zqO, Option.bind_some, zpg sm.bal]
  rw [if_neg c8, if_neg c8]
  by_cases c9 : x.PC = 9
  · rw [if_pos c9, if_pos c9, wD]
  · rw [if_neg c9, if_neg c9]
theorem zbv {p : zd} {nb : Nat} {s : zc} (h : zX p) (E : EOk p nb s) (w : Int) : uH s w = some (yH s w, ()) := by
  rw [zjH]
  simp only [zp]
  unfold yH
  cases hd : s.Done with
  | true => rw [cond_true, if_pos (.inl rfl)]
  | false =>
    rw [cond_false]
    by_cases h1 : w < 1
    · rw [if_pos h1, if_pos (.inr (.inl h1))]
    rw [if_neg h1]
    by_cases h2 : (s.Ws.length : Int) < w
    · rw [if_pos h2, if_pos (.inr (.inr h2))]
    have hwl := E.wl
    have hwk := h.wk
    have e := List.getElem?_eq_getElem (show (w - 1).toNat < s.Ws.length by omega)
    have ei : (((w - 1).toNat : Nat) : Int) + 1 = w := by omega
    have hW := E.W _ _ e
    rw [ei] at hW
    obtain ⟨T, TH⟩ := zmU s w (s.Ws[(w - 1).toNat]'(by omega))
    rw [if_neg h2, if_neg (fun e => e.elim (fun h => by cases h) (fun e => e.elim h1 h2)), yg (a := w - 1) (by omega) (by omega), Y3 (by omega), e, Option.bind_some, zp7 h E.S hW hwl E.small, Option.bind_some]
    simp only [T.ws, zsr (show s.Ws.length < 4294967296 by omega), Option.bind_some, Zg (l := s.Ws) (show 0 ≤ w - 1 by omega) (show w - 1 < (s.Ws.length : Int) by omega)]
end
end Go.Pe.G
namespace Go.Pe.G
open Go.Pe
noncomputable section
theorem zmE {α B C : Type} {f : Int × Int × List α × Unit → Option (yE (Int × Int × List α × Unit) B C)} {l : List α} {b : B} (hl : l.length < 1000000)
    (h1 : ∀ (i : Nat) (x : α), l[i]? = some x → f ((l.length : Int), (i : Int), l, ()) = some (.again ((l.length : Int), ((i + 1 : Nat) : Int), l, ())))
    (h2 : f ((l.length : Int), (l.length : Int), l, ()) = some (.brk b)) : z3 f ((l.length : Int), 0, l, ()) = some (.brk b) := by
  refine (vz (f := f) (fun a => ∃ i : Nat, a = ((l.length : Int), (i : Int), l, ()) ∧ i ≤ l.length) (fun a => l.length - a.2.1.toNat) (fun o => o = .brk b) ?_ ((l.length : Int), 0, l, ()) ⟨0, rfl, by omega⟩ (xi (by dsimp only; omega))).elim fun o h => ?_
  rotate_left
  · rw [h.1, h.2]
  · rintro _ ⟨i, rfl, hi⟩
    rcases Nat.lt_or_ge i l.length with hlt | hge
    · refine ⟨_, h1 i _ (List.getElem?_eq_getElem hlt), ⟨i + 1, rfl, hlt⟩, ?_⟩
      show l.length - ((i + 1 : Nat) : Int).toNat < l.length - (i : Int).toNat
      omega
    · have : i = l.length := by omega
      subst this
      exact ⟨_, h2, rfl⟩
theorem zoz {α : Type} {l : List α} {i : Nat} {x : α} (h : l[i]? = some x) : l.set i x = l := by
  obtain ⟨hlt, rfl⟩ := List.getElem?_eq_some_iff.1 h
  simp
theorem zq4 {m : List Int} (h : m.length < 4294967296) : ui m = some (m, ()) := by
  rw [UO, List.nil_append, xW h, Option.bind_some]
  cases m with
  | nil => simp [zbI]
  | cons a l => simp
theorem znN {l : List ze} (hl : l.length < 1000000) (h : ∀ x ∈ l, x.Batch.length < 1000000) : uU l = some (l, ()) := by
  have key : z3 wm ((l.length : Int), 0, l, ()) = some (.brk (l, ())) := by
    refine zmE hl (fun i x hx => ?_) (by rw [ZM, zp, if_neg (by omega)])
    have hlt := xM hx
    have e : ve l (i : Int) = some i := by rw [Zg (by omega) (by omega)]; simp
    rw [ZM, zp, if_pos hlt, e]
    simp only [Option.bind_some]
    rw [hx, Option.bind_some, ziM, Ye (by have := h x (List.mem_of_getElem? hx); omega), Option.bind_some, Option.bind_some, yC (by omega)]
    simp only [zoz hx]
  have hc : ZG (l.length : Int) = some l.length := by rw [VZ (by omega) (by omega)]; simp
  rw [zax]
  simp only [decide_true, cond_true, hc, Option.bind_some, List.length_replicate]
  cases l with
  | nil => simp only [List.isEmpty_nil, cond_true]; exact congrArg (fun o => Option.bind o _) key
  | cons a r => simp only [List.isEmpty_cons, cond_false]; rw [key]; rfl
theorem znj {l : List zb} (hl : l.length < 1000000) (h : ∀ x ∈ l, x.Regs.length < 1000000 ∧ x.Buf.length < 1000000 ∧ x.Batch.length < 1000000) : uA l = some (l, ()) := by
  have key : z3 xZ ((l.length : Int), 0, l, ()) = some (.brk (l, ())) := by
    refine zmE hl (fun i x hx => ?_) (by rw [Zq, zp, if_neg (by omega)])
    have hlt := xM hx
    have e : ve l (i : Int) = some i := by rw [Zg (by omega) (by omega)]; simp
    obtain ⟨h1, h2, h3⟩ := h x (List.mem_of_getElem? hx)
    rw [Zq, zp, if_pos hlt, e]
    simp only [Option.bind_some]
    rw [hx, Option.bind_some, ziS, Ye (by omega), Option.bind_some, Ye (by omega), Option.bind_some, Ye (by omega), Option.bind_some, Option.bind_some, yC (by omega)]
    simp only [zoz hx]
  have hc : ZG (l.length : Int) = some l.length := by rw [VZ (by omega) (by omega)]; simp
  rw [zaj]
  simp only [decide_true, cond_true, hc, Option.bind_some, List.length_replicate]
  cases l with
  | nil => simp only [List.isEmpty_nil, cond_true]; exact congrArg (fun o => Option.bind o _) key
  | cons a r => simp only [List.isEmpty_cons, cond_false]; rw [key]; rfl
theorem zqA {s : zc} (h : ub s) : zdK s = some (s, ()) := by
  rw [zj4, zhr h.objs h.obj, Option.bind_some, zhw (by have := h.m; omega), Option.bind_some, zhr h.bins h.bin, Option.bind_some, Ye (by have := h.acks; omega), Option.bind_some, zq4 (by have := h.bal; omega), Option.bind_some, znN h.ws h.w, Option.bind_some, znj h.ms h.mu]
  rfl
end
end Go.Pe.G
namespace Go.Pe.G
open Go.Pe
noncomputable section
namespace B15
def zkp (w : Int) (n : Nat) (s : zc) : zc := goF (fun _ s => yH s w) 0 n s
theorem zsC {p : zd} {nb : Nat} (h : zX p) {s : zc} (E : EOk p nb s) (w : Int) {n : Nat} (hn : n < 1000000) : xx s w (n : Int) = some (zkp w n s, ()) := by
  have e := zpy (f := wW) (fun i s => (w, (n : Int), i, s, 0, 0, 0, 0, 0, 0, 0, 0, 0, 0#64, 0, zl.mk 0#64 0#64, 0, 0, false, false, 0, 0, 0, 0, zk.mk 0 0, ([] : List (List Int)), ([] : List (List Int)), ([] : List (List zi)), ([] : List zj), ([] : List (List Int)), ([] : List (BitVec 64)), ([] : List (List Int)), ([] : List Int), ([] : List Int), ([] : List ze), ([] : List zb), ())) (fun s => (s, 0, 0, 0, 0, 0, 0, 0, 0, 0, 0#64, 0, zl.mk 0#64 0#64, 0, 0, false, false, 0, 0, 0, 0, zk.mk 0 0, ([] : List (List Int)), ([] : List (List Int)), ([] : List (List zi)), ([] : List zj), ([] : List (List Int)), ([] : List (BitVec 64)), ([] : List (List Int)), ([] : List Int), ([] : List Int), ([] : List ze), ([] : List zb), ())) n hn (fun _ s => yH s w) (EOk p nb) (fun _ s E => zgd h E w)
    (fun i s hi E => by
      show wW (w, (n : Int), (i : Int), s, 0, 0, 0, 0, 0, 0, 0, 0, 0, 0#64, 0, zl.mk 0#64 0#64, 0, 0, false, false, 0, 0, 0, 0, zk.mk 0 0, ([] : List (List Int)), ([] : List (List Int)), ([] : List (List zi)), ([] : List zj), ([] : List (List Int)), ([] : List (BitVec 64)), ([] : List (List Int)), ([] : List Int), ([] : List Int), ([] : List ze), ([] : List zb), ()) = _
      rw [WL, zp, if_pos (by omega), zbv h E, Option.bind_some, yC (by omega)])
    (fun s E => by
      show wW (w, (n : Int), (n : Int), s, 0, 0, 0, 0, 0, 0, 0, 0, 0, 0#64, 0, zl.mk 0#64 0#64, 0, 0, false, false, 0, 0, 0, 0, zk.mk 0 0, ([] : List (List Int)), ([] : List (List Int)), ([] : List (List zi)), ([] : List zj), ([] : List (List Int)), ([] : List (BitVec 64)), ([] : List (List Int)), ([] : List Int), ([] : List Int), ([] : List ze), ([] : List zb), ()) = _
      rw [WL, zp, if_neg (by omega)]) E
  rw [zfZ]
  exact congrArg (fun o => Option.bind o _) e
def zn3 (ord : List (BitVec 8)) (i : Nat) (s : zc) : Int := 1 + ((ord.getD i 0#8).toNat : Int).tmod (s.Ws.length : Int)
def zk7 (ord : List (BitVec 8)) (n : Nat) (s : zc) : zc := goF (fun i s => yH s (zn3 ord i s)) 0 n s
theorem zrc {p : zd} {nb : Nat} (h : zX p) {s : zc} (E : EOk p nb s) (b : BitVec 8) : w64 (1 + (b.toNat : Int).tmod (s.Ws.length : Int)) = 1 + (b.toNat : Int).tmod (s.Ws.length : Int) ∧ 1 ≤ 1 + (b.toNat : Int).tmod (s.Ws.length : Int) ∧ 1 + (b.toNat : Int).tmod (s.Ws.length : Int) ≤ (s.Ws.length : Int) := by
  have hw := h.wk
  have hl := E.wl
  have := xJ (show (0 : Int) ≤ (b.toNat : Int) by omega) (show (0 : Int) < (s.Ws.length : Int) by omega)
  exact ⟨yg (by omega) (by omega), by omega, by omega⟩
theorem zrR {p : zd} {nb : Nat} (h : zX p) {s : zc} (E : EOk p nb s) (ord : List (BitVec 8)) {most : Nat} (hm : most < 1000000) : Z7 s ord (most : Int) = some (zk7 ord (min ord.length most) s, ()) := by
  have hw := h.wk
  have e := zpy (f := wU) (fun i s => (ord, (most : Int), i, s, 0, 0, 0, 0, 0, 0, 0, 0, 0, 0#64, 0, zl.mk 0#64 0#64, 0, 0, false, false, 0, 0, 0, 0, zk.mk 0 0, ([] : List (List Int)), ([] : List (List Int)), ([] : List (List zi)), ([] : List zj), ([] : List (List Int)), ([] : List (BitVec 64)), ([] : List (List Int)), ([] : List Int), ([] : List Int), ([] : List ze), ([] : List zb), ())) (fun s => (s, 0, 0, 0, 0, 0, 0, 0, 0, 0, 0#64, 0, zl.mk 0#64 0#64, 0, 0, false, false, 0, 0, 0, 0, zk.mk 0 0, ([] : List (List Int)), ([] : List (List Int)), ([] : List (List zi)), ([] : List zj), ([] : List (List Int)), ([] : List (BitVec 64)), ([] : List (List Int)), ([] : List Int), ([] : List Int), ([] : List ze), ([] : List zb), ())) (min ord.length most) (by omega) (fun i s => yH s (zn3 ord i s)) (EOk p nb) (fun _ s E => zgd h E _)
    (fun i s hi E => by
      have hx := List.getElem?_eq_getElem (show i < ord.length by omega)
      have hl := E.wl
      show wU (ord, (most : Int), (i : Int), s, 0, 0, 0, 0, 0, 0, 0, 0, 0, 0#64, 0, zl.mk 0#64 0#64, 0, 0, false, false, 0, 0, 0, 0, zk.mk 0 0, ([] : List (List Int)), ([] : List (List Int)), ([] : List (List zi)), ([] : List zj), ([] : List (List Int)), ([] : List (BitVec 64)), ([] : List (List Int)), ([] : List Int), ([] : List Int), ([] : List ze), ([] : List zb), ()) = _
      have ew : zn3 ord i s = 1 + ((ord[i]'(by omega)).toNat : Int).tmod (s.Ws.length : Int) := by unfold zn3; rw [List.getD_eq_getElem?_getD, hx]; rfl
      rw [WG, zp, if_pos (by omega), zp, if_pos (by omega), xy hx, Option.bind_some, zp, if_neg (by omega), (zrc h E _).1, zbv h E, Option.bind_some, yC (by omega), ew])
    (fun s E => by
      show wU (ord, (most : Int), ((min ord.length most : Nat) : Int), s, 0, 0, 0, 0, 0, 0, 0, 0, 0, 0#64, 0, zl.mk 0#64 0#64, 0, 0, false, false, 0, 0, 0, 0, zk.mk 0 0, ([] : List (List Int)), ([] : List (List Int)), ([] : List (List zi)), ([] : List zj), ([] : List (List Int)), ([] : List (BitVec 64)), ([] : List (List Int)), ([] : List Int), ([] : List Int), ([] : List ze), ([] : List zb), ()) = _
      rw [WG, zp]
      by_cases c : ((min ord.length most : Nat) : Int) < (ord.length : Int)
      · rw [if_pos c, zp, if_neg (by omega)]
      · rw [if_neg c]) E
  rw [zf3]
  exact congrArg (fun o => Option.bind o _) e
theorem zsm {p : zd} {nb : Nat} (h : zX p) {s : zc} (E : EOk p nb s) (ord : List (BitVec 8)) (n : Nat) : EOk p nb (zk7 ord n s) := zmI (Inv := EOk p nb) (g := fun i s => yH s (zn3 ord i s)) (fun _ s E => zgd h E _) n 0 s E
theorem zr2 {A B D : Type} {f : A → Option (yE A B D)} {x : A} {b : B} (h : f x = some (.brk b)) : z3 f x = some (.brk b) := by
  rw [V9]
  show uk f (18446744073709551615 + 1) x = _
  rw [uk, h]; rfl
def XP : zd := ⟨1, 0, 2, 1, 1, 4, 2, 2, ⟨1, [[2], [0], [0]]⟩, 1#64, [], [], []⟩
theorem zrW : WK [] = some (XP, ()) := by
  rw [zfC, zr2 (by rw [zdG]; rfl)]; rfl
theorem U3 : zX XP := by
  constructor
  case objs => intro o ho; simp [XP] at ho ⊢; rcases ho with rfl | rfl | rfl <;> simp
  case roots => exact ⟨1, by decide, by decide, by decide⟩
  case reg => intro r hr; cases hr
  case prog => intro k r ops hr; cases hr
  all_goals first | decide | rfl
theorem znn : YU = some (true, ()) := by
  have E := zrm U3
  have r := fun n hn => zsC U3 E 1 (n := n) hn
  have e4 : xx (Wk XP) 1 4 = some (zkp 1 4 (Wk XP), ()) := r 4 (by decide)
  have e11 : xx (Wk XP) 1 11 = some (zkp 1 11 (Wk XP), ()) := r 11 (by decide)
  have e100 : xx (Wk XP) 1 100 = some (zkp 1 100 (Wk XP), ()) := r 100 (by decide)
  have out : ∀ w : Int, w < 1 ∨ 1 < w → yH (Wk XP) w = Wk XP := fun w hw => by
    unfold yH
    rw [if_pos (.inr (hw.imp id (fun e => by show (((List.range 1).map (XY XP)).length : Int) < w; rw [List.length_map, List.length_range]; omega)))]
  rw [zdS, zrW]
  simp only [Option.bind_some, zmz U3, e4, e11, e100, zbv U3 E, out 2 (.inr (by decide)), out 0 (.inl (by decide)), zgZ (zmN U3)]
  decide +kernel
theorem zqJ {p : zd} {nb : Nat} {s : zc} {w : Int} {x : ze} (W : WOk p nb w x) : (zZ s w x).1 = { s with M := (zZ s w x).1.M, Bins := (zZ s w x).1.Bins, T := (zZ s w x).1.T, Work := (zZ s w x).1.Work, L := (zZ s w x).1.L } := by
  unfold zZ
  split
  · rfl
  split
  · rfl
  split
  · rfl
  split
  · rfl
  split
  · rfl
  split
  · rename_i h6
    obtain ⟨g1, g2, g3, g4⟩ := W.g6 h6
    have hf := (zpK s g3 g4).2
    obtain ⟨m, b, t, wk, f, e, _⟩ := zgA s x.G
    dsimp only
    rw [e] at hf ⊢
    have hf : f = s.Flag := hf
    rw [hf]
  split
  · rfl
  split
  · rfl
  split <;> rfl
theorem workerApart_plain (l ord : List (BitVec 8)) (w : BitVec 8) : we l ord w = some (true, ()) := by
  obtain ⟨p, ep, h⟩ := ztj l
  have E0 := zrm h
  have et : Z7 (Wk p) ord 250 = some (zk7 ord (min ord.length 250) (Wk p), ()) := zrR h E0 ord (most := 250) (by decide)
  have E := zsm h E0 ord (min ord.length 250)
  rw [zbJ, znn]
  simp only [Option.bind_some, Bool.not_true, cond_false, ep, zmz h, et]
  generalize zk7 ord (min ord.length 250) (Wk p) = s at E
  have hw := h.wk
  have hl := E.wl
  have hk := zrc h E w
  simp only [zqA E.small, Option.bind_some, zp, z8]
  rw [if_neg (show ¬ (s.Ws.length : Int) = 0 by omega), hk.1]
  generalize hkk : (1 : Int) + (w.toNat : Int).tmod (s.Ws.length : Int) = k at hk
  have E' := zgd h E k
  have hx := List.getElem?_eq_getElem (show (k - 1).toNat < s.Ws.length by omega)
  have eW : (yH s k).Ws.length = s.Ws.length ∧ (yH s k).Ms.length = s.Ms.length := by
    have a := E'.wl; have b := E'.ml; have c := E.ml
    omega
  simp only [zbv h E, Option.bind_some, zgZ E.small, Bool.not_true, cond_false]
  rw [if_pos (show ((yH s k).Ws.length : Int) = (s.Ws.length : Int) by omega), if_pos (show ((yH s k).Ms.length : Int) = (s.Ms.length : Int) by omega), xW (by omega), Option.bind_some, yg (a := k - 1) (by omega) (by omega), Y3 (by omega), hx, Option.bind_some, Zg (l := (yH s k).Ws) (by omega) (by omega), Option.bind_some, cond_true]
  have key : ({ yH s k with M := s.M, Bins := s.Bins, T := s.T, Work := s.Work, L := s.L, Ws := (yH s k).Ws.set (k - 1).toNat (s.Ws[(k - 1).toNat]'(by omega)) } : zc) = s := by
    unfold yH
    split
    · rw [List.set_getElem_self]
    · have hW := E.W _ _ hx
      rw [show (((k - 1).toNat : Nat) : Int) + 1 = k by omega] at hW
      rw [hx]
      dsimp only
      rw [zqJ hW]
      dsimp only
      rw [List.set_set, List.set_getElem_self]
  rw [key, zgZ E.small]; rfl
end B15
end
end Go.Pe.G
