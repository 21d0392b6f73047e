/- Own work of this seat: PA, PB, PMk, PMade14, PRight, PNew, PInv, PNewOk, PRun14, PDq, PWork, PDq2, PChain, PStrong, PSmall, PGstep, PMut, PEng. -/
import Derived.Test.YtlnbfkbgfngkeaaGreatDoorGOGa
set_option linter.unusedVariables false
set_option linter.unusedSimpArgs false
set_option linter.unnecessarySimpa false
set_option linter.unusedSectionVars false
set_option linter.deprecated false
set_option maxRecDepth 20000
namespace Go.Pe.G
open Go.Pe
noncomputable section
theorem ue {A B D : Type} {f : A → Option (xm A B D)} (Inv : A → Prop) (ms : A → Nat) (Q : xm Unit B D → Prop)
    (h : ∀ a, Inv a → ∃ o, f a = some o ∧ match o with
      | .again a' => Inv a' ∧ ms a' < ms a
      | .brk b => Q (.brk b)
      | .ret c => Q (.ret c)) : ∀ a, Inv a → ms a < uj → ∃ o, yf f a = some o ∧ Q o := by
  have key : ∀ (n : Nat) a, Inv a → ms a < n → ∃ o, xl f n a = some o ∧ Q o := by
    intro n
    induction n with
    | zero => intro a _ h; omega
    | succ n ih =>
      intro a ha hm
      obtain ⟨o, ho, hq⟩ := h a ha
      simp only [xl, ho, Option.bind_some]
      cases o with
      | again a' => exact ih a' hq.1 (by have := hq.2; omega)
      | brk b => exact ⟨_, rfl, hq⟩
      | ret c => exact ⟨_, rfl, hq⟩
  intro a ha hm
  rw [ZE]
  exact key uj a ha hm
theorem yQ {n : Nat} (h : n < 18446744073709551616) : n < uj := h
theorem yo {a : Int} (h : -9223372036854775808 ≤ a) (h2 : a < 9223372036854775808) : w64 a = a := by
  rw [zd7]; omega
def wc (n : Int) : Int := (n + 9223372036854775808) % 18446744073709551616 - 9223372036854775808
theorem vJ : w64 = wc := funext zd7
theorem xk {a : Int} (h : -9223372036854775808 ≤ a) (h2 : a < 9223372036854775808) : wc a = a := by unfold wc; omega
theorem zsM (a : Int) (h : -9223372036854775808 ≤ a) (h2 : a < 9223372036854775808) : w64 (w64 (a + 1) - 1) = a := by
  simp only [zd7]; omega
theorem zt {α : Type} (p : Prop) [Decidable p] (a b : α) : (bif decide p then a else b) = if p then a else b := by
  by_cases h : p <;> simp [h]
theorem yR {α : Type} (p : Prop) [Decidable p] (a b : α) : (bif !(decide p) then a else b) = if p then b else a := by
  by_cases h : p <;> simp [h]
theorem xY {α : Type} {l : List α} (h : l.length < 4294967296) : xE l = some l := by
  rw [zmX]; simp [h]
theorem zep {α : Type} {l : List α} {i : Int} (h : 0 ≤ i) : idx l i = l[i.toNat]? := by
  unfold idx; simp [h]
theorem uJ {α : Type} {l : List α} {i : Int} (h : 0 ≤ i) (h2 : i < l.length) : xH l i = some i.toNat := by
  unfold xH; simp [h, h2]
def bit (o : Int) : BitVec 64 := if 1 ≤ o ∧ o ≤ 64 then 1#64 <<< (o - 1).toNat else 0#64
theorem znS (a : Int) : zdb a = some (bit a, ()) := by
  rw [zlL]
  simp only [zt]
  unfold bit
  by_cases h1 : a < 1
  · rw [if_pos h1, if_neg (by omega)]
  · rw [if_neg h1]
    by_cases h2 : 64 < a
    · rw [if_pos h2, if_neg (by omega)]
    · rw [if_neg h2, yo (a := a - 1) (by omega) (by omega), if_neg (show ¬ a - 1 < 0 by omega), if_pos (show 1 ≤ a ∧ a ≤ 64 by omega), Nat.min_eq_left (by omega)]
theorem zj3 (s : BitVec 64) (o : Int) : zab s o = some (!(decide (s &&& bit o = 0#64)), ()) := by
  rw [zmA, znS]; rfl
theorem zgI (s : BitVec 64) (o : Int) : Xu s o = some (s ||| bit o, ()) := by
  rw [zmg, znS]; rfl
def uw (t : zo) (o : Int) : zo × Bool :=
  if t.Marks ||| bit o = t.Marks then (t, false) else if t.Black &&& bit o = 0#64 then ({ t with Marks := t.Marks ||| bit o }, true) else (t, false)
theorem zoj (t : zo) (o : Int) : zbK t o = some ((uw t o).1, (uw t o).2, ()) := by
  rw [ziW, zgI, Option.bind_some, zt]
  unfold uw
  by_cases h1 : t.Marks ||| bit o = t.Marks
  · rw [if_pos h1, if_pos h1]
  · rw [if_neg h1, if_neg h1, zj3, Option.bind_some, yR]
    by_cases h2 : t.Black &&& bit o = 0#64
    · rw [if_pos h2, if_pos h2]
    · rw [if_neg h2, if_neg h2]
theorem zkL {m : List (BitVec 64)} (h : m.length < 4294967296) : yx m = some (m, ()) := by
  rw [WM, List.nil_append, xY h, Option.bind_some]
  cases m with
  | nil => simp [zgy]
  | cons a l => simp
theorem zoS {m : List (List Int)} (h : m.length < 4294967296) : ur m = some (m, ()) := by
  rw [UF, List.nil_append, xY h, Option.bind_some]
  cases m with
  | nil => simp [zgy]
  | cons a l => simp
def ld (m : List (BitVec 64)) (a : Int) : BitVec 64 := if 0 ≤ a then m.getD a.toNat 0#64 else 0#64
def st (m : List (BitVec 64)) (a : Int) (v : BitVec 64) : List (BitVec 64) := if 0 ≤ a then m.set a.toNat v else m
def sw (m : List (BitVec 64)) (at_ : Int) (a b : BitVec 64) : List (BitVec 64) × Bool :=
  if 0 ≤ at_ ∧ at_ < m.length ∧ ld m at_ = a then (st m at_ b, true) else (m, false)
theorem zlE {m : List (BitVec 64)} {a : Int} (h : 0 ≤ a) (h2 : a < m.length) : m[a.toNat]? = some (ld m a) := by
  unfold ld
  rw [if_pos h, List.getD_eq_getElem?_getD, List.getElem?_eq_getElem (by omega)]; rfl
theorem znV {m : List (BitVec 64)} {a : Int} : st m a (ld m a) = m := by
  unfold st ld
  by_cases h : 0 ≤ a
  · rw [if_pos h, if_pos h]
    by_cases h2 : a.toNat < m.length
    · rw [List.getD_eq_getElem?_getD, List.getElem?_eq_getElem h2]; simp
    · rw [List.set_eq_of_length_le (by omega)]
  · rw [if_neg h]
theorem zpS {m : List (BitVec 64)} {a : Int} (h : a < 0 ∨ m.length ≤ a) : ld m a = 0#64 := by
  unfold ld
  rcases h with h | h
  · rw [if_neg (by omega)]
  · split
    · rw [List.getD_eq_getElem?_getD, List.getElem?_eq_none (by omega)]; rfl
    · rfl
theorem zpL {m : List (BitVec 64)} {a : Int} {v : BitVec 64} (h : a < 0 ∨ m.length ≤ a) : st m a v = m := by
  unfold st
  rcases h with h | h
  · rw [if_neg (by omega)]
  · split
    · rw [List.set_eq_of_length_le (by omega)]
    · rfl
theorem znO (m : List (BitVec 64)) (a : Int) (x y : BitVec 64) : ∃ b, uQ m ⟨1, a, x, y⟩ = some (m, ld m a, b, ()) := by
  rw [zd1]
  simp only [zt, if_true]
  by_cases h1 : a < 0
  · rw [if_pos h1, zpS (.inl h1)]; exact ⟨_, rfl⟩
  · rw [if_neg h1]
    by_cases h2 : (m.length : Int) ≤ a
    · rw [if_pos h2, zpS (.inr h2)]; exact ⟨_, rfl⟩
    · rw [if_neg h2, zep (by omega), zlE (by omega) (by omega), Option.bind_some, zlc, Option.bind_some]
      simp
theorem zlQ {m : List (BitVec 64)} (hm : m.length < 4294967296) (a : Int) (x y : BitVec 64) : ∃ v b, uQ m ⟨2, a, x, y⟩ = some (st m a x, v, b, ()) := by
  rw [zd1]
  simp only [zt, if_true, if_neg (show ¬ (2 : Int) = 1 by omega)]
  by_cases h1 : a < 0
  · rw [if_pos h1, zpL (.inl h1)]; exact ⟨_, _, rfl⟩
  · rw [if_neg h1]
    by_cases h2 : (m.length : Int) ≤ a
    · rw [if_pos h2, zpL (.inr h2)]; exact ⟨_, _, rfl⟩
    · rw [if_neg h2, zep (by omega), zlE (by omega) (by omega), Option.bind_some, zlo, Option.bind_some, cond_true, yR]
      by_cases h3 : ld m a = x
      · rw [if_pos h3]
        subst h3
        rw [znV]; exact ⟨_, _, rfl⟩
      · rw [if_neg h3, zkL hm, Option.bind_some, uJ (l := m) (by omega) (by omega), Option.bind_some]
        unfold st
        rw [if_pos (by omega)]
        exact ⟨_, _, rfl⟩
theorem zjx {m : List (BitVec 64)} (hm : m.length < 4294967296) (a : Int) (x y : BitVec 64) : ∃ v, uQ m ⟨3, a, x, y⟩ = some ((sw m a x y).1, v, (sw m a x y).2, ()) := by
  rw [zd1]
  simp only [zt, if_true, if_neg (show ¬ (3 : Int) = 1 by omega), if_neg (show ¬ (3 : Int) = 2 by omega)]
  by_cases h1 : a < 0
  · rw [if_pos h1]
    have : sw m a x y = (m, false) := by unfold sw; rw [if_neg (by omega)]
    rw [this]; exact ⟨_, rfl⟩
  · rw [if_neg h1]
    by_cases h2 : (m.length : Int) ≤ a
    · rw [if_pos h2]
      have : sw m a x y = (m, false) := by unfold sw; rw [if_neg (by omega)]
      rw [this]; exact ⟨_, rfl⟩
    · rw [if_neg h2, zep (by omega), zlE (by omega) (by omega), Option.bind_some, zle, Option.bind_some]
      simp only [zt]
      by_cases h3 : ld m a = x
      · have : sw m a x y = (st m a y, true) := by unfold sw; rw [if_pos ⟨by omega, by omega, h3⟩]
        rw [if_pos h3, this, yR]
        by_cases h4 : ld m a = y
        · rw [if_pos h4]
          have : st m a y = m := by rw [← h4, znV]
          rw [this]
          simp [h3]
        · rw [if_neg h4, zkL hm, Option.bind_some, uJ (l := m) (by omega) (by omega), Option.bind_some]
          unfold st
          rw [if_pos (by omega)]
          simp [h3]
      · have : sw m a x y = (m, false) := by unfold sw; rw [if_neg (by rintro ⟨_, _, h⟩; exact h3 h)]
        rw [if_neg h3, this]
        simp [h3]
theorem za7 (m : List (BitVec 64)) (a : Int) : Yd m a = some (ld m a, ()) := by
  obtain ⟨b, h⟩ := znO m a 0#64 0#64
  rw [zjb, h]; rfl
theorem Wn {m : List (BitVec 64)} (hm : m.length < 4294967296) (a : Int) (x : BitVec 64) : v9 m a x = some (st m a x, ()) := by
  obtain ⟨v, b, h⟩ := zlQ hm a x 0#64
  rw [zhU, h]; rfl
theorem Zr (m : List (BitVec 64)) (a : Int) : va m a = some (ld m a, ()) := by
  obtain ⟨b, h⟩ := znO m a 0#64 0#64
  rw [zjc, h]; rfl
theorem Wl {m : List (BitVec 64)} (hm : m.length < 4294967296) (a : Int) (x : BitVec 64) : v8 m a x = some (st m a x, ()) := by
  obtain ⟨v, b, h⟩ := zlQ hm a x 0#64
  rw [zhm, h]; rfl
def zT (h : BitVec 64) : Int := (h &&& 4294967295#64).toInt
def yh (v : BitVec 64) (n : Int) : BitVec 64 := (v <<< 32) ||| (BitVec.ofInt 64 n &&& 4294967295#64)
theorem VD (h : BitVec 64) : vK h = some (zT h, ()) := zin h
theorem zbf (v : BitVec 64) (n : Int) : Z1 v n = some (yh v n, ()) := zjf v n
def zl (m : List (BitVec 64)) (c : zp) : List (BitVec 64) × zp :=
  if c.Out ≠ 0 ∨ (c.Kind ≠ 1 ∧ c.Kind ≠ 2) ∨ c.PC < 0 ∨ 3 ≤ c.PC then (m, c)
  else if c.PC = 0 then
    (m, if c.Kind = 2 ∧ zT (ld m c.Head) = 0 then { c with H := ld m c.Head, Out := 2, PC := 1 } else { c with H := ld m c.Head, PC := 1 })
  else if c.PC = 1 then
    if c.Kind = 2 then (m, { c with Y := (ld m (wc (c.Next + zT c.H))).toInt, PC := 2 })
    else (st m (wc (c.Next + c.X)) (BitVec.ofInt 64 (zT c.H)), { c with PC := 2 })
  else
    let r := sw m c.Head c.H (yh ((c.H >>> 32) + 1#64) (if c.Kind = 2 then c.Y else c.X))
    (r.1, if r.2 then (if c.Kind = 2 then { c with X := zT c.H, Out := 1, PC := 3 } else { c with Out := 1, PC := 3 }) else { c with PC := 0 })
theorem ziF {m : List (BitVec 64)} (hm : m.length < 4294967296) (c : zp) : VE m c = some ((zl m c).1, (zl m c).2, ()) := by
  have hsee : xy m c = some (m, (if c.Kind = 2 ∧ zT (ld m c.Head) = 0 then { c with H := ld m c.Head, Out := 2 } else { c with H := ld m c.Head }), ()) := by
    rw [zbh, za7, Option.bind_some, VD, Option.bind_some, zt, zt]
    by_cases h1 : c.Kind = 2
    · by_cases h2 : zT (ld m c.Head) = 0
      · rw [if_pos h1, if_pos h2, if_pos ⟨h1, h2⟩]
      · rw [if_pos h1, if_neg h2, if_neg (fun h => h2 h.2)]
    · rw [if_neg h1, if_neg (fun h => h1 h.1)]
  have hlink : uv m c = some (st m (wc (c.Next + c.X)) (BitVec.ofInt 64 (zT c.H)), ()) := by
    rw [zcM, vJ, VD, Option.bind_some, Wn hm]; rfl
  have hbeh : wG m c = some (m, { c with Y := (ld m (wc (c.Next + zT c.H))).toInt }, ()) := by
    rw [Ug, vJ, VD, Option.bind_some, za7]; rfl
  have hswap : xi m c = some ((sw m c.Head c.H (yh ((c.H >>> 32) + 1#64) (if c.Kind = 2 then c.Y else c.X))).1,
      (if (sw m c.Head c.H (yh ((c.H >>> 32) + 1#64) (if c.Kind = 2 then c.Y else c.X))).2 then (if c.Kind = 2 then { c with X := zT c.H, Out := 1 } else { c with Out := 1 }) else { c with PC := -1 }), ()) := by
    rw [zaF, zt]
    by_cases h1 : c.Kind = 2
    · rw [if_pos h1, zbf, Option.bind_some]
      obtain ⟨v, hv⟩ := zjx hm c.Head c.H (yh ((c.H >>> 32) + 1#64) c.Y)
      simp only [if_pos h1]
      rw [hv, Option.bind_some]
      cases hs : (sw m c.Head c.H (yh ((c.H >>> 32) + 1#64) c.Y)).2 with
      | true => simp [hs, h1, VD]
      | false => simp [hs]
    · rw [if_neg h1, zbf, Option.bind_some]
      obtain ⟨v, hv⟩ := zjx hm c.Head c.H (yh ((c.H >>> 32) + 1#64) c.X)
      simp only [if_neg h1]
      rw [hv, Option.bind_some]
      cases hs : (sw m c.Head c.H (yh ((c.H >>> 32) + 1#64) c.X)).2 with
      | true => simp [hs, h1]
      | false => simp [hs]
  rw [ziB, hsee, hlink, hbeh, hswap]
  simp only [zt, yR, Option.bind_some]
  unfold zl
  by_cases h0 : c.Out = 0
  · by_cases hp0 : c.PC < 0
    · have : (c.Out ≠ 0 ∨ (c.Kind ≠ 1 ∧ c.Kind ≠ 2) ∨ c.PC < 0 ∨ 3 ≤ c.PC) := .inr (.inr (.inl hp0))
      rw [if_pos this]
      simp [h0, hp0]
    · by_cases hp3 : 3 ≤ c.PC
      · have : (c.Out ≠ 0 ∨ (c.Kind ≠ 1 ∧ c.Kind ≠ 2) ∨ c.PC < 0 ∨ 3 ≤ c.PC) := .inr (.inr (.inr hp3))
        rw [if_pos this]
        simp [h0, hp3]
      · by_cases hk : c.Kind = 1 ∨ c.Kind = 2
        · have : ¬ (c.Out ≠ 0 ∨ (c.Kind ≠ 1 ∧ c.Kind ≠ 2) ∨ c.PC < 0 ∨ 3 ≤ c.PC) := by
            rintro (h | h | h | h)
            · exact h h0
            · omega
            · exact hp0 h
            · exact hp3 h
          rw [if_neg this]
          have hpc : c.PC = 0 ∨ c.PC = 1 ∨ c.PC = 2 := by omega
          have w1 : w64 1 = 1 := yo (by omega) (by omega)
          have w2 : w64 2 = 2 := yo (by omega) (by omega)
          have w3 : w64 3 = 3 := yo (by omega) (by omega)
          have w4 : w64 0 = 0 := yo (by omega) (by omega)
          rcases hk with hk | hk <;> rcases hpc with hpc | hpc | hpc <;> simp [h0, hk, hpc, w1, w2, w3, w4] <;> (try split) <;> simp [hpc, w1, w3, w4]
        · have : (c.Out ≠ 0 ∨ (c.Kind ≠ 1 ∧ c.Kind ≠ 2) ∨ c.PC < 0 ∨ 3 ≤ c.PC) := .inr (.inl (by omega))
          rw [if_pos this]
          have k1 : ¬ c.Kind = 1 := by omega
          have k2 : ¬ c.Kind = 2 := by omega
          simp [h0, k1, k2]
  · have : (c.Out ≠ 0 ∨ (c.Kind ≠ 1 ∧ c.Kind ≠ 2) ∨ c.PC < 0 ∨ 3 ≤ c.PC) := .inl h0
    rw [if_pos this]
    simp [h0]
end
end Go.Pe.G
namespace Go.Pe.G
open Go.Pe
noncomputable section
def uo (d : zg) : BitVec 64 := BitVec.ofInt 64 (if d.Cap < 1 then 1 else d.Cap)
def vH (d : zg) (i : BitVec 64) : Int := wc (wc (d.Base + 2) + (i % uo d).toInt)
def z7 (m : List (BitVec 64)) (d : zg) : List (BitVec 64) × zg :=
  if d.Out ≠ 0 ∨ d.PC < 0 ∨ 4 ≤ d.PC then (m, d)
  else if d.PC = 0 then (m, { d with B := ld m (wc (d.Base + 1)), PC := 1 })
  else if d.PC = 1 then (m, if uo d ≤ d.B - ld m d.Base then { d with T := ld m d.Base, Out := 3, PC := 2 } else { d with T := ld m d.Base, PC := 2 })
  else if d.PC = 2 then (st m (vH d d.B) (BitVec.ofInt 64 d.X), { d with PC := 3 })
  else (st m (wc (d.Base + 1)) (d.B + 1#64), { d with Out := 1, PC := 4 })
theorem zmL : w64 0 = 0 ∧ w64 1 = 1 ∧ w64 2 = 2 ∧ w64 3 = 3 ∧ w64 4 = 4 := by
  refine ⟨?_, ?_, ?_, ?_, ?_⟩ <;> exact yo (by omega) (by omega)
theorem zpK {d : zg} (h : d.Cap < 1000) : uo d ≠ 0#64 := by
  unfold uo
  intro e
  have := congrArg BitVec.toNat e
  rw [BitVec.toNat_ofInt] at this
  split at this <;> simp at this <;> omega
theorem zjg (d : zg) : uq d = some (uo d, ()) := by
  rw [zcP]; unfold uo; rw [zt]
theorem zdO {d : zg} (h : d.Cap < 1000) (i : BitVec 64) : wD i d = some (vH d i, ()) := by
  rw [zb3, vJ, zjg, Option.bind_some, zt, if_neg (zpK h)]; rfl
theorem zdq {m : List (BitVec 64)} (hm : m.length < 4294967296) {d : zg} (hk : d.Kind = 1) (hc : d.Cap < 1000) : VB m d = some ((z7 m d).1, (z7 m d).2, ()) := by
  obtain ⟨w0, w1, w2, w3, w4⟩ := zmL
  have h0 : yZ m d = some (m, { d with B := ld m (wc (d.Base + 1)) }, ()) := by
    rw [Zb, yz, vJ, Option.bind_some, Zr]; rfl
  have h1 : Zl m d = some (m, (if uo d ≤ d.B - ld m d.Base then { d with T := ld m d.Base, Out := 3 } else { d with T := ld m d.Base }), ()) := by
    rw [zaM, vC, Option.bind_some, Zr, Option.bind_some, zjg, Option.bind_some, zt]
    have e : uo { d with T := ld m d.Base } = uo d := rfl
    simp only [e]
    by_cases h : uo d ≤ d.B - ld m d.Base
    · rw [if_pos h, if_pos h, yW]
      simp [hk]
    · rw [if_neg h, if_neg h]
  have h2 : Y1 m d = some (st m (vH d d.B) (BitVec.ofInt 64 d.X), ()) := by
    rw [zdu, zdO hc, Option.bind_some, Wl hm]; rfl
  have h3 : ud m d = some (st m (wc (d.Base + 1)) (d.B + 1#64), { d with Out := 1 }, ()) := by
    rw [V5, yW]
    simp only [decide_true, Bool.not_true, cond_false, Option.bind_some, yz, vJ]
    rw [Wl hm]; rfl
  rw [zdf, h0, h1, h2, h3, za3]
  simp only [hk, decide_true, cond_true, Option.bind_some, yR, zt]
  have key : ∀ (x : Option (List (BitVec 64) × zg × Unit)) (v : List (BitVec 64) × zg × Unit) (y : Option (List (BitVec 64) × zg × Unit)), x = some v → Option.or x y = some v := by
    rintro _ v y rfl; rfl
  apply key
  unfold z7
  by_cases g0 : d.Out = 0
  · by_cases g1 : d.PC < 0
    · simp [g0, g1]
    · by_cases g2 : 4 ≤ d.PC
      · simp [g0, g2]
      · have hpc : d.PC = 0 ∨ d.PC = 1 ∨ d.PC = 2 ∨ d.PC = 3 := by omega
        rcases hpc with h | h | h | h <;> simp [g0, h, hk, w1, w2, w3, w4] <;> (try split) <;> simp [h, hk, w2]
  · simp [g0]
def zN (p : zb) : Int := wc (p.Workers * wc (p.Cap + 2))
def zv (p : zb) : Int := wc (zN p + 1)
def zB (p : zb) (w : Int) : Int := wc (wc (w - 1) * wc (p.Cap + 2))
theorem zbq (p : zb) : uK p = some (zN p, ()) := by rw [ziK, vJ]; rfl
theorem zdx (p : zb) : YL p = some (zv p, ()) := by rw [zhQ, vJ, zbq]; rfl
theorem zbl (p : zb) : vP p = some (zv p, ()) := by rw [zi3, zdx]; rfl
theorem zhd (p : zb) (w : Int) : WI p w = some (zB p w, ()) := by rw [zhI, vJ]; rfl
def Y2 (p : zb) (g : zd) : zd := { g with PC := 5, C := ⟨2, 0, zv p, zv p, 0#64, 0, 0, 0⟩ }
theorem zeF (a : zu) : xJ a = some (⟨Y2 a.s.P a.Grey, a.s⟩, ()) := by
  rw [zcI, zdx, Option.bind_some, zbl, Option.bind_some, zcB]; rfl
def UR (s : za) (g : zd) : za × zd :=
  let t := uw s.T g.Obj
  ({ s with T := t.1 },
    if t.2 = false then { g with PC := 2 }
    else if g.Mode = 1 then { g with PC := 3, D := ⟨1, 0, zB s.P g.Who, s.P.Cap, 0#64, 0#64, g.Obj, 0⟩ }
    else if g.Mode = 2 then { g with PC := 4 }
    else Y2 s.P g)
def XS (s : za) (g : zd) : za × zd :=
  let r := z7 s.M g.D
  ({ s with M := r.1 }, if r.2.Out = 1 then { g with D := r.2, Out := 1 } else if r.2.Out = 3 then Y2 s.P { g with D := r.2 } else { g with D := r.2 })
def XP (s : za) (g : zd) : za × zd :=
  let r := zl s.M g.C
  ({ s with M := r.1 }, if r.2.Out = 1 then { g with PC := 6, C := r.2, Bin := r.2.X } else if r.2.Out = 2 then Y2 s.P { g with C := r.2 } else { g with C := r.2 })
def zc8 (s : za) (g : zd) : za × zd :=
  ({ s with Bins := s.Bins.set g.Bin.toNat [g.Obj] }, { g with PC := 7, C := ⟨1, 0, zN s.P, zv s.P, 0#64, g.Bin, 0, 0⟩ })
def uU (s : za) (g : zd) : za × zd :=
  let r := zl s.M g.C
  ({ s with M := r.1 }, if r.2.Out = 1 then { g with C := r.2, Out := 1 } else { g with C := r.2 })
def zm (s : za) (g : zd) : za × zd :=
  if g.Out ≠ 0 ∨ g.Mode < 1 ∨ 3 < g.Mode ∨ g.PC < 0 ∨ 8 ≤ g.PC then (s, g)
  else if g.PC = 7 then uU s g
  else if g.PC = 6 then zc8 s g
  else if g.PC = 5 then XP s g
  else if g.PC = 4 then ({ s with Flag := true }, Y2 s.P g)
  else if g.PC = 3 then XS s g
  else if g.PC = 2 then ({ s with Work := wc (s.Work - 1) }, { g with Out := 1 })
  else if g.PC = 1 then UR s g
  else ({ s with Work := wc (s.Work + 1) }, { g with PC := 1 })
structure GOk (s : za) (g : zd) : Prop where
  mem : s.M.length < 4294967296
  bins : s.Bins.length < 4294967296
  bin : g.PC = 6 → 0 ≤ g.Bin ∧ g.Bin < s.Bins.length
  deq : g.PC = 3 → g.D.Kind = 1 ∧ g.D.Cap < 1000
theorem zde {s : za} {g : zd} (ok : GOk s g) : YM s g = some ((zm s g).1, (zm s g).2, ()) := by
  rw [zky]
  simp only [zt, yR]
  unfold zm
  by_cases h0 : g.Out = 0
  rotate_left
  · rw [if_neg h0, if_pos (.inl h0)]
  rw [if_pos h0]
  by_cases h1 : g.Mode < 1
  · rw [if_pos h1, if_pos (.inr (.inl h1))]
  rw [if_neg h1]
  by_cases h2 : 3 < g.Mode
  · rw [if_pos h2, if_pos (.inr (.inr (.inl h2)))]
  rw [if_neg h2]
  by_cases h3 : g.PC < 0
  · rw [if_pos h3, if_pos (.inr (.inr (.inr (.inl h3))))]
  rw [if_neg h3]
  by_cases h4 : 8 ≤ g.PC
  · rw [if_pos h4, if_pos (.inr (.inr (.inr (.inr h4))))]
  rw [if_neg h4, if_neg (show ¬ (g.Out ≠ 0 ∨ g.Mode < 1 ∨ 3 < g.Mode ∨ g.PC < 0 ∨ 8 ≤ g.PC) by omega)]
  by_cases p7 : g.PC = 7
  · rw [if_pos p7, if_pos p7, UO]
    simp only [ziF ok.mem, Option.bind_some, zt]
    by_cases e : (zl s.M g.C).2.Out = 1 <;> simp [uU, e]
  rw [if_neg p7, if_neg p7]
  by_cases p6 : g.PC = 6
  · rw [if_pos p6, if_pos p6, zbu]
    obtain ⟨b1, b2⟩ := ok.bin p6
    simp only [zoS ok.bins, Option.bind_some, uJ (l := s.Bins) b1 b2, zbq, zbl, zcB]
    rfl
  rw [if_neg p6, if_neg p6]
  by_cases p5 : g.PC = 5
  · rw [if_pos p5, if_pos p5, za8]
    simp only [ziF ok.mem, Option.bind_some, zt, zeF]
    by_cases e : (zl s.M g.C).2.Out = 1
    · simp [XP, e]
    · by_cases e2 : (zl s.M g.C).2.Out = 2 <;> simp [XP, e, e2]
  rw [if_neg p5, if_neg p5]
  by_cases p4 : g.PC = 4
  · rw [if_pos p4, if_pos p4, zbB, zeF]; rfl
  rw [if_neg p4, if_neg p4]
  by_cases p3 : g.PC = 3
  · rw [if_pos p3, if_pos p3, zbd]
    obtain ⟨b1, b2⟩ := ok.deq p3
    simp only [zdq ok.mem b1 b2, Option.bind_some, zt, zeF]
    by_cases e : (z7 s.M g.D).2.Out = 1
    · simp [XS, e]
    · by_cases e2 : (z7 s.M g.D).2.Out = 3 <;> simp [XS, e, e2]
  rw [if_neg p3, if_neg p3]
  by_cases p2 : g.PC = 2
  · rw [if_pos p2, if_pos p2, zba, vJ]; rfl
  rw [if_neg p2, if_neg p2]
  by_cases p1 : g.PC = 1
  · rw [if_pos p1, if_pos p1, zbv]
    simp only [zoj, Option.bind_some, zt, zeF, zhd, zct]
    unfold UR
    cases hs : (uw s.T g.Obj).2 with
    | false => simp [hs]
    | true =>
      by_cases m1 : g.Mode = 1
      · simp [hs, m1]
      · by_cases m2 : g.Mode = 2 <;> simp [hs, m1, m2]
  rw [if_neg p1, if_neg p1, if_pos (show g.PC = 0 by omega), Ui, vJ]; rfl
end
end Go.Pe.G
namespace Go.Pe.G
open Go.Pe
noncomputable section
theorem xj {b k : Int} (h : 0 ≤ b) (hk : 0 < k) : 0 ≤ b.tmod k ∧ b.tmod k < k := by
  rw [Int.tmod_eq_emod_of_nonneg h]; exact ⟨Int.emod_nonneg _ (by omega), Int.emod_lt_of_pos _ hk⟩
def zcb (o : zj) (regs slots : Int) : Prop := (0 ≤ o.R ∧ o.R < regs) ∧
  ((o.Kind = 1 ∨ o.Kind = 2) ∧ (0 ≤ o.A ∧ o.A < regs) ∧ (0 ≤ o.S ∧ o.S < slots) ∨ o.Kind = 4 ∧ (0 ≤ o.A ∧ o.A < regs) ∧ o.S = 0 ∨ (o.Kind = 3 ∨ o.Kind = 5) ∧ o.A = 0 ∧ o.S = 0)
structure zr (p : zb) : Prop where
  wk : 1 ≤ p.Workers ∧ p.Workers ≤ 3
  mt : 0 ≤ p.Mutators ∧ p.Mutators ≤ 2
  cap : 1 ≤ p.Cap ∧ p.Cap ≤ 3
  buf : 1 ≤ p.Buf ∧ p.Buf ≤ 2
  bin : 1 ≤ p.Bin ∧ p.Bin ≤ 3
  price : 0 ≤ p.Price ∧ p.Price ≤ 3
  limit : 0 ≤ p.Limit ∧ p.Limit ≤ 3
  slots : 1 ≤ p.H.Slots ∧ p.H.Slots ≤ 2
  n : 1 ≤ (p.H.Objs.length : Int) ∧ (p.H.Objs.length : Int) ≤ 6
  objs : ∀ o ∈ p.H.Objs, (o.length : Int) = p.H.Slots ∧ ∀ v ∈ o, 0 ≤ v ∧ v ≤ (p.H.Objs.length : Int)
  most : (p.H.Objs.length : Int) ≤ p.Most ∧ p.Most ≤ (p.H.Objs.length : Int) + 3
  roots : ∃ r, 0 ≤ r ∧ r ≤ (p.H.Objs.length : Int) ∧ p.Roots = bit r
  regs : (p.Regs.length : Int) = p.Mutators
  progs : (p.Progs.length : Int) = p.Mutators
  reg : ∀ r ∈ p.Regs, (1 ≤ (r.length : Int) ∧ (r.length : Int) ≤ 3) ∧ ∀ v ∈ r, 0 ≤ v ∧ v ≤ (p.H.Objs.length : Int)
  prog : ∀ (k : Nat) r ops, p.Regs[k]? = some r → p.Progs[k]? = some ops → (ops.length : Int) ≤ 7 ∧ ∀ o ∈ ops, zcb o (r.length : Int) p.H.Slots
  picks : p.Picks = []
end
end Go.Pe.G
namespace Go.Pe.G
open Go.Pe
noncomputable section
namespace B14
def Zh (m : zx) : Prop := 0 ≤ m.At ∧ m.At ≤ m.L.length ∧ m.L.length ≤ 90
theorem xQ {m : zx} (h : Zh m) : ∃ b m', zq m = some (b, m', ()) ∧ (0 ≤ b ∧ b < 256) ∧ Zh m' := by
  obtain ⟨h1, h2, h3⟩ := h
  rw [V2, zt]
  by_cases h : (m.L.length : Int) ≤ m.At
  · rw [if_pos h]; exact ⟨_, _, rfl, by omega, h1, h2, h3⟩
  · rw [if_neg h, yo (a := m.At + 1) (by omega) (by omega), yo (by omega) (by omega), zep (by omega), List.getElem?_eq_getElem (by omega), Option.bind_some]
    exact ⟨_, _, rfl, by have := (m.L[(m.At + 1 - 1).toNat]'(by omega)).isLt; omega, show 0 ≤ m.At + 1 by omega, show m.At + 1 ≤ m.L.length by omega, h3⟩
theorem zs4 {m : zx} (h : Zh m) {regs slots : Int} (hr : 1 ≤ regs) (hs : 1 ≤ slots) : ∃ o m', uR regs slots m = some (o, m', ()) ∧ zcb o regs slots ∧ Zh m' := by
  obtain ⟨b1, m1, e1, r1, k1⟩ := xQ h
  obtain ⟨b2, m2, e2, r2, k2⟩ := xQ k1
  obtain ⟨b3, m3, e3, r3, k3⟩ := xQ k2
  obtain ⟨b4, m4, e4, r4, k4⟩ := xQ k3
  have t1 := xj r1.1 (show (0 : Int) < 8 by omega)
  have t2 := xj r2.1 (show (0 : Int) < regs by omega)
  have t3 := xj r3.1 (show (0 : Int) < regs by omega)
  have t4 := xj r4.1 (show (0 : Int) < slots by omega)
  have t5 := xj r3.1 (show (0 : Int) < slots by omega)
  have hn : ¬ regs = 0 := by omega
  have hn2 : ¬ slots = 0 := by omega
  rw [zat, e1, Option.bind_some, uJ t1.1 (by simpa using t1.2), Option.bind_some]
  have hx : b1.tmod 8 = 0 ∨ b1.tmod 8 = 1 ∨ b1.tmod 8 = 2 ∨ b1.tmod 8 = 3 ∨ b1.tmod 8 = 4 ∨ b1.tmod 8 = 5 ∨ b1.tmod 8 = 6 ∨ b1.tmod 8 = 7 := by omega
  rcases hx with hx | hx | hx | hx | hx | hx | hx | hx <;> simp [hx, e2, e3, e4, hn, hn2] <;> refine ⟨_, _, ⟨rfl, rfl⟩, ?_, by assumption⟩ <;> (unfold zcb; dsimp only; omega)
theorem zqL {s1 : Int} {s2 : Int} {s4 : Int} {s5 : Int} {s6 : Int} {s7 : Int} {s8 : Int} {s9 : Int} {s10 : Int} {s11 : Int} {s12 : Int} {s13 : BitVec 64} {s15 : Int} {s16 : Int} {s17 : Int} {s18 : Int} {s19 : Int} {s20 : Int} {s21 : Int} {s22 : Int} {s23 : Int} {s24 : BitVec 64} {s26 : List (List Int)} {s27 : List (List Int)} {s28 : List (List zj)} {s29 : List zk} {s30 : List (List Int)} {s31 : List (List Int)} {s32 : List (List zj)} {s33 : List zk} (hn : 1 ≤ s1 ∧ s1 ≤ 6) (hs : 1 ≤ s23 ∧ s23 ≤ 2) {mk : zx} (hm : Zh mk) :
    ∃ mk' l, yf vT (s1, s2, 0, s4, s5, s6, s7, s8, s9, s10, s11, s12, s13, mk, s15, s16, s17, s18, s19, s20, s21, s22, s23, s24, [], s26, s27, s28, s29, s30, s31, s32, s33, ()) = some (.brk (s1, s2, s4, s5, s6, s7, s8, s9, s10, s11, s12, s13, mk', s15, s16, s17, s18, s19, s20, s21, s22, s23, s24, l, s26, s27, s28, s29, s30, s31, s32, s33, ())) ∧ Zh mk' ∧ (l.length : Int) = s23 ∧ ∀ v ∈ l, 0 ≤ v ∧ v ≤ s1 := by
  refine (ue (f := vT)
    (fun a => ∃ i mk l, a = (s1, s2, i, s4, s5, s6, s7, s8, s9, s10, s11, s12, s13, mk, s15, s16, s17, s18, s19, s20, s21, s22, s23, s24, l, s26, s27, s28, s29, s30, s31, s32, s33, ()) ∧ Zh mk ∧ (0 ≤ i ∧ i ≤ s23 ∧ (l.length : Int) = i) ∧ ∀ v ∈ l, 0 ≤ v ∧ v ≤ s1)
    (fun a => (s23 - a.2.2.1).toNat)
    (fun o => match o with | .brk b => ∃ mk l, b = (s1, s2, s4, s5, s6, s7, s8, s9, s10, s11, s12, s13, mk, s15, s16, s17, s18, s19, s20, s21, s22, s23, s24, l, s26, s27, s28, s29, s30, s31, s32, s33, ()) ∧ Zh mk ∧ (l.length : Int) = s23 ∧ ∀ v ∈ l, 0 ≤ v ∧ v ≤ s1 | _ => False) ?_
    (s1, s2, 0, s4, s5, s6, s7, s8, s9, s10, s11, s12, s13, mk, s15, s16, s17, s18, s19, s20, s21, s22, s23, s24, [], s26, s27, s28, s29, s30, s31, s32, s33, ()) ⟨0, mk, [], rfl, hm, by simp; omega, by simp⟩ (yQ (by simp; omega))).elim fun o h => ?_
  rotate_left
  · obtain ⟨ho, hq⟩ := h
    cases o with
    | again a => exact hq.elim
    | ret a => exact hq.elim
    | brk b =>
      obtain ⟨mk', l, rfl, h1, h2, h3⟩ := hq
      exact ⟨mk', l, ho, h1, h2, h3⟩
  · rintro _ ⟨i, mk, l, rfl, h1, h2, h3⟩
    rw [zch, zt]
    by_cases hi : i < s23
    · rw [if_pos hi]
      obtain ⟨b, mk', e, r, k⟩ := xQ h1
      have w1 : w64 (s1 + 1) = s1 + 1 := yo (by omega) (by omega)
      have t := xj r.1 (show 0 < s1 + 1 by omega)
      rw [e, Option.bind_some, w1, zt, if_neg (by omega), xY (by simp; omega), Option.bind_some, yo (a := i + 1) (by omega) (by omega)]
      refine ⟨_, rfl, ⟨i + 1, mk', l ++ [b.tmod (s1 + 1)], rfl, k, by simp; omega, fun v hv => ?_⟩, ?_⟩
      · rcases List.mem_append.1 hv with hv | hv
        · exact h3 v hv
        · simp at hv; omega
      · show (s23 - (i + 1)).toNat < (s23 - i).toNat
        omega
    · rw [if_neg hi]
      exact ⟨_, rfl, mk, l, rfl, h1, by omega, h3⟩
theorem zrK {s1 : Int} {s3 : Int} {s4 : Int} {s5 : Int} {s6 : Int} {s7 : Int} {s8 : Int} {s9 : Int} {s10 : Int} {s11 : Int} {s12 : BitVec 64} {s14 : Int} {s15 : Int} {s16 : Int} {s17 : Int} {s18 : Int} {s19 : Int} {s20 : Int} {s21 : Int} {s22 : Int} {s23 : BitVec 64} {s24 : List (List Int)} {s25 : List (List Int)} {s26 : List (List zj)} {s27 : List zk} {s29 : List (List Int)} {s30 : List (List zj)} {s31 : List zk} (hn : 1 ≤ s1 ∧ s1 ≤ 6) (hs : 1 ≤ s22 ∧ s22 ≤ 2) {mk : zx} (hm : Zh mk) :
    ∃ mk' l, yf uB (s1, 0, s3, s4, s5, s6, s7, s8, s9, s10, s11, s12, mk, s14, s15, s16, s17, s18, s19, s20, s21, s22, s23, s24, s25, s26, s27, [], s29, s30, s31, ()) = some (.brk (s1, s3, s4, s5, s6, s7, s8, s9, s10, s11, s12, mk', s14, s15, s16, s17, s18, s19, s20, s21, s22, s23, s24, s25, s26, s27, l, s29, s30, s31, ())) ∧ Zh mk' ∧ (l.length : Int) = s1 ∧ ∀ o ∈ l, (o.length : Int) = s22 ∧ ∀ v ∈ o, 0 ≤ v ∧ v ≤ s1 := by
  refine (ue (f := uB)
    (fun a => ∃ i mk l, a = (s1, i, s3, s4, s5, s6, s7, s8, s9, s10, s11, s12, mk, s14, s15, s16, s17, s18, s19, s20, s21, s22, s23, s24, s25, s26, s27, l, s29, s30, s31, ()) ∧ Zh mk ∧ (0 ≤ i ∧ i ≤ s1 ∧ (l.length : Int) = i) ∧ ∀ o ∈ l, (o.length : Int) = s22 ∧ ∀ v ∈ o, 0 ≤ v ∧ v ≤ s1)
    (fun a => (s1 - a.2.1).toNat)
    (fun o => match o with | .brk b => ∃ mk l, b = (s1, s3, s4, s5, s6, s7, s8, s9, s10, s11, s12, mk, s14, s15, s16, s17, s18, s19, s20, s21, s22, s23, s24, s25, s26, s27, l, s29, s30, s31, ()) ∧ Zh mk ∧ (l.length : Int) = s1 ∧ ∀ o ∈ l, (o.length : Int) = s22 ∧ ∀ v ∈ o, 0 ≤ v ∧ v ≤ s1 | _ => False) ?_
    (s1, 0, s3, s4, s5, s6, s7, s8, s9, s10, s11, s12, mk, s14, s15, s16, s17, s18, s19, s20, s21, s22, s23, s24, s25, s26, s27, [], s29, s30, s31, ()) ⟨0, mk, [], rfl, hm, by simp; omega, by simp⟩ (yQ (by simp; omega))).elim fun o h => ?_
  rotate_left
  · obtain ⟨ho, hq⟩ := h
    cases o with
    | again a => exact hq.elim
    | ret a => exact hq.elim
    | brk b =>
      obtain ⟨mk', l, rfl, h1, h2, h3⟩ := hq
      exact ⟨mk', l, ho, h1, h2, h3⟩
  · rintro _ ⟨i, mk, l, rfl, h1, h2, h3⟩
    rw [zcR, zt]
    by_cases hi : i < s1
    · rw [if_pos hi]
      obtain ⟨mk', o, e, g1, g2, g3⟩ := zqL hn hs h1
      rw [e]
      simp only [Option.bind_some]
      rw [xY (by simp; omega), Option.bind_some, yo (a := i + 1) (by omega) (by omega)]
      refine ⟨_, rfl, ⟨i + 1, mk', l ++ [o], rfl, g1, by simp; omega, fun v hv => ?_⟩, ?_⟩
      · rcases List.mem_append.1 hv with hv | hv
        · exact h3 v hv
        · simp at hv; subst hv; exact ⟨g2, g3⟩
      · show (s1 - (i + 1)).toNat < (s1 - i).toNat
        omega
    · rw [if_neg hi]
      exact ⟨_, rfl, mk, l, rfl, h1, by omega, h3⟩
theorem zqJ {s1 : Int} {s2 : Int} {s4 : Int} {s5 : Int} {s6 : Int} {s7 : Int} {s8 : Int} {s9 : Int} {s10 : Int} {s11 : Int} {s12 : Int} {s13 : BitVec 64} {s15 : Int} {s16 : Int} {s17 : Int} {s18 : Int} {s19 : Int} {s20 : Int} {s21 : Int} {s22 : Int} {s23 : Int} {s24 : BitVec 64} {s26 : List (List Int)} {s27 : List (List Int)} {s28 : List (List zj)} {s29 : List zk} {s30 : List (List Int)} {s31 : List (List Int)} {s32 : List (List zj)} {s33 : List zk} (hn : 1 ≤ s1 ∧ s1 ≤ 6) {mk : zx} (hm : Zh mk) :
    ∃ mk' l, yf vX (s1, s2, 0, s4, s5, s6, s7, s8, s9, s10, s11, s12, s13, mk, s15, s16, s17, s18, s19, s20, s21, s22, s23, s24, [], s26, s27, s28, s29, s30, s31, s32, s33, ()) = some (.brk (s1, s2, s4, s5, s6, s7, s8, s9, s10, s11, s12, s13, mk', s15, s16, s17, s18, s19, s20, s21, s22, s23, s24, l, s26, s27, s28, s29, s30, s31, s32, s33, ())) ∧ Zh mk' ∧ (1 ≤ (l.length : Int) ∧ (l.length : Int) ≤ 3) ∧ ∀ v ∈ l, 0 ≤ v ∧ v ≤ s1 := by
  refine (ue (f := vX)
    (fun a => ∃ i mk l, a = (s1, s2, i, s4, s5, s6, s7, s8, s9, s10, s11, s12, s13, mk, s15, s16, s17, s18, s19, s20, s21, s22, s23, s24, l, s26, s27, s28, s29, s30, s31, s32, s33, ()) ∧ Zh mk ∧ (0 ≤ i ∧ i ≤ 3 ∧ (l.length : Int) = i) ∧ ∀ v ∈ l, 0 ≤ v ∧ v ≤ s1)
    (fun a => (3 - a.2.2.1).toNat)
    (fun o => match o with | .brk b => ∃ mk l, b = (s1, s2, s4, s5, s6, s7, s8, s9, s10, s11, s12, s13, mk, s15, s16, s17, s18, s19, s20, s21, s22, s23, s24, l, s26, s27, s28, s29, s30, s31, s32, s33, ()) ∧ Zh mk ∧ (1 ≤ (l.length : Int) ∧ (l.length : Int) ≤ 3) ∧ ∀ v ∈ l, 0 ≤ v ∧ v ≤ s1 | _ => False) ?_
    (s1, s2, 0, s4, s5, s6, s7, s8, s9, s10, s11, s12, s13, mk, s15, s16, s17, s18, s19, s20, s21, s22, s23, s24, [], s26, s27, s28, s29, s30, s31, s32, s33, ()) ⟨0, mk, [], rfl, hm, by simp, by simp⟩ (yQ (by simp))).elim fun o h => ?_
  rotate_left
  · obtain ⟨ho, hq⟩ := h
    cases o with
    | again a => exact hq.elim
    | ret a => exact hq.elim
    | brk b =>
      obtain ⟨mk', l, rfl, h1, h2, h3⟩ := hq
      exact ⟨mk', l, ho, h1, h2, h3⟩
  · rintro _ ⟨i, mk, l, rfl, h1, h2, h3⟩
    obtain ⟨b0, mk0, e0, r0, k0⟩ := xQ h1
    have t0 := xj r0.1 (show (0 : Int) < 3 by omega)
    rw [zbX, e0, Option.bind_some, zt, yo (a := 1 + b0.tmod 3) (by omega) (by omega)]
    by_cases hi : i < 1 + b0.tmod 3
    · rw [if_pos hi]
      obtain ⟨b, mk', e, r, k⟩ := xQ k0
      have w1 : w64 (s1 + 1) = s1 + 1 := yo (by omega) (by omega)
      have t := xj r.1 (show 0 < s1 + 1 by omega)
      rw [e, Option.bind_some, w1, zt, if_neg (by omega), xY (by simp; omega), Option.bind_some, yo (a := i + 1) (by omega) (by omega)]
      refine ⟨_, rfl, ⟨i + 1, mk', l ++ [b.tmod (s1 + 1)], rfl, k, by simp; omega, fun v hv => ?_⟩, ?_⟩
      · rcases List.mem_append.1 hv with hv | hv
        · exact h3 v hv
        · simp at hv; omega
      · show (3 - (i + 1)).toNat < (3 - i).toNat
        omega
    · rw [if_neg hi]
      exact ⟨_, rfl, mk0, l, rfl, k0, by omega, h3⟩
theorem zrc {s1 : Int} {s2 : Int} {s4 : Int} {s5 : Int} {s6 : Int} {s7 : Int} {s8 : Int} {s9 : Int} {s10 : Int} {s11 : Int} {s12 : Int} {s13 : BitVec 64} {s15 : Int} {s16 : Int} {s17 : Int} {s18 : Int} {s19 : Int} {s20 : Int} {s21 : Int} {s22 : Int} {s23 : Int} {s24 : BitVec 64} {s25 : List Int} {s27 : List (List Int)} {s28 : List (List Int)} {s29 : List (List zj)} {s30 : List zk} {s31 : List (List Int)} {s32 : List (List Int)} {s33 : List (List zj)} {s34 : List zk} (hr : 1 ≤ (s25.length : Int)) (hs : 1 ≤ s23 ∧ s23 ≤ 2) {k0 : Int} (hk : 0 ≤ k0 ∧ k0 < 8) {mk : zx} (hm : Zh mk) :
    ∃ mk' l, yf wB (s1, s2, k0, s4, s5, s6, s7, s8, s9, s10, s11, s12, s13, mk, s15, s16, s17, s18, s19, s20, s21, s22, s23, s24, s25, [], s27, s28, s29, s30, s31, s32, s33, s34, ()) = some (.brk (s1, s2, s4, s5, s6, s7, s8, s9, s10, s11, s12, s13, mk', s15, s16, s17, s18, s19, s20, s21, s22, s23, s24, s25, l, s27, s28, s29, s30, s31, s32, s33, s34, ())) ∧ Zh mk' ∧ (l.length : Int) ≤ 7 ∧ ∀ o ∈ l, zcb o (s25.length : Int) s23 := by
  refine (ue (f := wB)
    (fun a => ∃ i mk l, a = (s1, s2, i, s4, s5, s6, s7, s8, s9, s10, s11, s12, s13, mk, s15, s16, s17, s18, s19, s20, s21, s22, s23, s24, s25, l, s27, s28, s29, s30, s31, s32, s33, s34, ()) ∧ Zh mk ∧ (0 ≤ i ∧ (l.length : Int) + i ≤ 7) ∧ ∀ o ∈ l, zcb o (s25.length : Int) s23)
    (fun a => (a.2.2.1).toNat)
    (fun o => match o with | .brk b => ∃ mk l, b = (s1, s2, s4, s5, s6, s7, s8, s9, s10, s11, s12, s13, mk, s15, s16, s17, s18, s19, s20, s21, s22, s23, s24, s25, l, s27, s28, s29, s30, s31, s32, s33, s34, ()) ∧ Zh mk ∧ (l.length : Int) ≤ 7 ∧ ∀ o ∈ l, zcb o (s25.length : Int) s23 | _ => False) ?_
    (s1, s2, k0, s4, s5, s6, s7, s8, s9, s10, s11, s12, s13, mk, s15, s16, s17, s18, s19, s20, s21, s22, s23, s24, s25, [], s27, s28, s29, s30, s31, s32, s33, s34, ()) ⟨k0, mk, [], rfl, hm, by simp; omega, by simp⟩ (yQ (by simp; omega))).elim fun o h => ?_
  rotate_left
  · obtain ⟨ho, hq⟩ := h
    cases o with
    | again a => exact hq.elim
    | ret a => exact hq.elim
    | brk b =>
      obtain ⟨mk', l, rfl, h1, h2, h3⟩ := hq
      exact ⟨mk', l, ho, h1, h2, h3⟩
  · rintro _ ⟨i, mk, l, rfl, h1, h2, h3⟩
    rw [zcr, zt]
    by_cases hi : 0 < i
    · rw [if_pos hi]
      obtain ⟨o, mk', e, r, k⟩ := zs4 h1 hr hs.1
      rw [e, Option.bind_some, xY (by simp; omega), Option.bind_some, yo (a := i - 1) (by omega) (by omega)]
      refine ⟨_, rfl, ⟨i - 1, mk', l ++ [o], rfl, k, by simp; omega, fun v hv => ?_⟩, ?_⟩
      · rcases List.mem_append.1 hv with hv | hv
        · exact h3 v hv
        · simp at hv; subst hv; exact r
      · show (i - 1).toNat < i.toNat
        omega
    · rw [if_neg hi]
      exact ⟨_, rfl, mk, l, rfl, h1, by omega, h3⟩
theorem zqV {s1 : Int} {s3 : Int} {s4 : Int} {s5 : Int} {s6 : Int} {s7 : Int} {s8 : Int} {s9 : Int} {s10 : Int} {s11 : Int} {s12 : BitVec 64} {s14 : Int} {s15 : Int} {s16 : Int} {s17 : Int} {s18 : Int} {s19 : Int} {s20 : Int} {s21 : Int} {s22 : Int} {s23 : BitVec 64} {s24 : List (List Int)} {s25 : List (List Int)} {s26 : List (List zj)} {s27 : List zk} {s28 : List (List Int)} {s31 : List zk} (hn : 1 ≤ s1 ∧ s1 ≤ 6) (hm0 : 0 ≤ s15 ∧ s15 ≤ 2) (hs : 1 ≤ s22 ∧ s22 ≤ 2) {mk : zx} (hm : Zh mk) :
    ∃ regs progs, yf vS (s1, 0, s3, s4, s5, s6, s7, s8, s9, s10, s11, s12, mk, s14, s15, s16, s17, s18, s19, s20, s21, s22, s23, s24, s25, s26, s27, s28, [], [], s31, ()) = some (.brk (s3, s4, s5, s6, s7, s8, s9, s10, s11, s12, s14, s15, s16, s17, s18, s19, s20, s21, s22, s23, s24, s25, s26, s27, s28, regs, progs, s31, ())) ∧ (regs.length : Int) = s15 ∧ (regs.length = progs.length) ∧ (∀ r ∈ regs, (1 ≤ (r.length : Int) ∧ (r.length : Int) ≤ 3) ∧ ∀ v ∈ r, 0 ≤ v ∧ v ≤ s1) ∧ ∀ (k : Nat) r ops, regs[k]? = some r → progs[k]? = some ops → (ops.length : Int) ≤ 7 ∧ ∀ o ∈ ops, zcb o (r.length : Int) s22 := by
  refine (ue (f := vS)
    (fun a => ∃ i mk regs progs, a = (s1, i, s3, s4, s5, s6, s7, s8, s9, s10, s11, s12, mk, s14, s15, s16, s17, s18, s19, s20, s21, s22, s23, s24, s25, s26, s27, s28, regs, progs, s31, ()) ∧ Zh mk ∧ (0 ≤ i ∧ i ≤ s15 ∧ (regs.length : Int) = i) ∧ (regs.length = progs.length) ∧ (∀ r ∈ regs, (1 ≤ (r.length : Int) ∧ (r.length : Int) ≤ 3) ∧ ∀ v ∈ r, 0 ≤ v ∧ v ≤ s1) ∧ ∀ (k : Nat) r ops, regs[k]? = some r → progs[k]? = some ops → (ops.length : Int) ≤ 7 ∧ ∀ o ∈ ops, zcb o (r.length : Int) s22)
    (fun a => (s15 - a.2.1).toNat)
    (fun o => match o with | .brk b => ∃ regs progs, b = (s3, s4, s5, s6, s7, s8, s9, s10, s11, s12, s14, s15, s16, s17, s18, s19, s20, s21, s22, s23, s24, s25, s26, s27, s28, regs, progs, s31, ()) ∧ (regs.length : Int) = s15 ∧ (regs.length = progs.length) ∧ (∀ r ∈ regs, (1 ≤ (r.length : Int) ∧ (r.length : Int) ≤ 3) ∧ ∀ v ∈ r, 0 ≤ v ∧ v ≤ s1) ∧ ∀ (k : Nat) r ops, regs[k]? = some r → progs[k]? = some ops → (ops.length : Int) ≤ 7 ∧ ∀ o ∈ ops, zcb o (r.length : Int) s22 | _ => False) ?_
    (s1, 0, s3, s4, s5, s6, s7, s8, s9, s10, s11, s12, mk, s14, s15, s16, s17, s18, s19, s20, s21, s22, s23, s24, s25, s26, s27, s28, [], [], s31, ()) ⟨0, mk, [], [], rfl, hm, by simp; omega, rfl, by simp, by simp⟩ (yQ (by simp; omega))).elim fun o h => ?_
  rotate_left
  · obtain ⟨ho, hq⟩ := h
    cases o with
    | again a => exact hq.elim
    | ret a => exact hq.elim
    | brk b =>
      obtain ⟨regs, progs, rfl, h⟩ := hq
      exact ⟨regs, progs, ho, h⟩
  · rintro _ ⟨i, mk, regs, progs, rfl, h1, h2, h3, h4, h5⟩
    rw [zcD, zt]
    by_cases hi : i < s15
    · rw [if_pos hi]
      obtain ⟨mk1, r, e, g1, g2, g3⟩ := zqJ hn h1
      rw [e]
      simp only [Option.bind_some]
      rw [zt, if_neg (by omega)]
      obtain ⟨b, mk2, e2, r2, k2⟩ := xQ g1
      rw [e2, Option.bind_some]
      obtain ⟨mk3, ops, e3, f1, f2, f3⟩ := zrc (s25 := r) g2.1 hs (xj r2.1 (show (0 : Int) < 8 by omega)) k2
      rw [e3]
      simp only [Option.bind_some]
      rw [xY (by simp; omega), Option.bind_some, xY (by simp; omega), Option.bind_some, yo (a := i + 1) (by omega) (by omega)]
      refine ⟨_, rfl, ⟨i + 1, mk3, regs ++ [r], progs ++ [ops], rfl, f1, by simp; omega, by simp [h3], fun v hv => ?_, fun k r' ops' hk1 hk2 => ?_⟩, ?_⟩
      · rcases List.mem_append.1 hv with hv | hv
        · exact h4 v hv
        · simp at hv; subst hv; exact ⟨g2, g3⟩
      · rcases Nat.lt_or_ge k regs.length with hlt | hge
        · rw [List.getElem?_append_left hlt] at hk1
          rw [List.getElem?_append_left (by omega)] at hk2
          exact h5 k r' ops' hk1 hk2
        · rw [List.getElem?_append_right hge] at hk1
          rw [List.getElem?_append_right (by omega), ← h3] at hk2
          have hk0 : k - regs.length = 0 := by
            have := (List.getElem?_eq_some_iff.1 hk1).1
            simpa using this
          rw [hk0] at hk1 hk2
          simp at hk1 hk2
          subst hk1; subst hk2
          exact ⟨f2, f3⟩
      · show (s15 - (i + 1)).toNat < (s15 - i).toNat
        omega
    · rw [if_neg hi]
      exact ⟨_, rfl, regs, progs, rfl, by omega, h3, h4, h5⟩
theorem zru (l : List (BitVec 8)) : ∃ p, ul l = some (p, ()) ∧ zr p := by
  rw [zeK, zt]
  obtain ⟨m, em, hl⟩ : ∃ m, cut l 0 (if 90 < (l.length : Int) then 90 else (l.length : Int)) = some m ∧ m.length ≤ 90 := by
    unfold cut
    by_cases h : 90 < (l.length : Int)
    · have h2 : (90 : Int) ≤ l.length := by omega
      rw [if_pos h]; exact ⟨l.take 90, by simp [h2], List.length_take_le _ _⟩
    · rw [if_neg h]; exact ⟨l, by simp, by omega⟩
  rw [em, Option.bind_some]
  obtain ⟨b1, m1, e1, r1, k1⟩ := xQ (m := ⟨m, 0⟩) ⟨by simp, by simp, hl⟩
  obtain ⟨b2, m2, e2, r2, k2⟩ := xQ k1
  obtain ⟨b3, m3, e3, r3, k3⟩ := xQ k2
  obtain ⟨b4, m4, e4, r4, k4⟩ := xQ k3
  obtain ⟨b5, m5, e5, r5, k5⟩ := xQ k4
  obtain ⟨b6, m6, e6, r6, k6⟩ := xQ k5
  obtain ⟨b7, m7, e7, r7, k7⟩ := xQ k6
  obtain ⟨b8, m8, e8, r8, k8⟩ := xQ k7
  obtain ⟨b9, m9, e9, r9, k9⟩ := xQ k8
  obtain ⟨b10, m10, e10, r10, k10⟩ := xQ k9
  simp only [e1, e2, e3, e4, e5, e6, e7, e8, e9, e10, Option.bind_some]
  have t1 := xj r1.1 (show (0 : Int) < 3 by omega)
  have t2 := xj r2.1 (show (0 : Int) < 3 by omega)
  have t3 := xj r3.1 (show (0 : Int) < 3 by omega)
  have t4 := xj r4.1 (show (0 : Int) < 2 by omega)
  have t5 := xj r5.1 (show (0 : Int) < 3 by omega)
  have t6 := xj r6.1 (show (0 : Int) < 4 by omega)
  have t7 := xj r7.1 (show (0 : Int) < 4 by omega)
  have t8 := xj r8.1 (show (0 : Int) < 2 by omega)
  have t9 := xj r9.1 (show (0 : Int) < 6 by omega)
  have t10 := xj r10.1 (show (0 : Int) < 4 by omega)
  rw [yo (a := 1 + b9.tmod 6) (by omega) (by omega), yo (a := 1 + b1.tmod 3) (by omega) (by omega), yo (a := 1 + b3.tmod 3) (by omega) (by omega), yo (a := 1 + b4.tmod 2) (by omega) (by omega), yo (a := 1 + b5.tmod 3) (by omega) (by omega),
    yo (a := 1 + b9.tmod 6 + b10.tmod 4) (by omega) (by omega), yo (a := 1 + b8.tmod 2) (by omega) (by omega)]
  obtain ⟨m11, objs, e11, g1, g2, g3⟩ := zrK (s1 := 1 + b9.tmod 6) (s22 := 1 + b8.tmod 2) (by omega) (by omega) k10
  rw [e11]
  simp only [Option.bind_some]
  obtain ⟨b12, m12, e12, r12, k12⟩ := xQ g1
  rw [e12, Option.bind_some, yo (a := 1 + b9.tmod 6 + 1) (by omega) (by omega), zt, if_neg (by omega)]
  have t12 := xj r12.1 (show (0 : Int) < 1 + b9.tmod 6 + 1 by omega)
  rw [zgI, Option.bind_some]
  obtain ⟨regs, progs, e13, f1, f2, f3, f4⟩ := zqV (s1 := 1 + b9.tmod 6) (s15 := b2.tmod 3) (s22 := 1 + b8.tmod 2) (by omega) (by omega) (by omega) k12
  rw [e13]
  simp only [Option.bind_some]
  refine ⟨_, rfl, ?_⟩
  constructor <;> dsimp only
  case objs => intro o ho; rw [g2]; exact g3 o ho
  case roots => exact ⟨b12.tmod (1 + b9.tmod 6 + 1), by omega, by omega, by simp⟩
  case reg => rw [g2]; exact f3
  case prog => exact f4
  all_goals first | omega | rfl
end B14
end
end Go.Pe.G
namespace Go.Pe.G
open Go.Pe
noncomputable section
theorem XT {α β B C : Type} {f : List α × Int × Int × β → Option (xm (List α × Int × Int × β) B C)} {l : List α} {e : β} {b : B} (hl : l.length < 1000000)
    (h1 : ∀ (i : Nat) (x : α), l[i]? = some x → f (l, (l.length : Int), (i : Int), e) = some (.again (l, (l.length : Int), ((i + 1 : Nat) : Int), e)))
    (h2 : f (l, (l.length : Int), (l.length : Int), e) = some (.brk b)) : yf f (l, (l.length : Int), 0, e) = some (.brk b) := by
  refine (ue (f := f) (fun a => ∃ i : Nat, a = (l, (l.length : Int), (i : Int), e) ∧ i ≤ l.length) (fun a => l.length - a.2.2.1.toNat) (fun o => o = .brk b) ?_ (l, (l.length : Int), 0, e) ⟨0, rfl, by omega⟩ (yQ (by simp; omega))).elim fun o h => ?_
  rotate_left
  · rw [h.1, h.2]
  · rintro _ ⟨i, rfl, hi⟩
    rcases Nat.lt_or_ge i l.length with hlt | hge
    · refine ⟨_, h1 i _ (List.getElem?_eq_getElem hlt), ⟨i + 1, rfl, hlt⟩, ?_⟩
      show l.length - ((i + 1 : Nat) : Int).toNat < l.length - (i : Int).toNat
      omega
    · have : i = l.length := by omega
      subst this
      exact ⟨_, h2, rfl⟩
theorem uI {α : Type} {l : List α} {i : Nat} {x : α} (h : l[i]? = some x) : idx l (i : Int) = some x := by
  rw [zep (by omega)]; simpa using h
theorem zas {α : Type} {l : List α} {i : Nat} {x : α} (h : l[i]? = some x) : (i : Int) < (l.length : Int) := by
  have := (List.getElem?_eq_some_iff.1 h).1; omega
theorem wu {i : Nat} (h : i < 1000000) : w64 ((i : Int) + 1) = ((i + 1 : Nat) : Int) := by
  rw [yo (by omega) (by omega)]; omega
theorem UY (a b c : Int) : xP a b c = some (decide (b ≤ a ∧ a ≤ c), ()) := by
  rw [zhw, zt]
  by_cases h : b ≤ a
  · rw [if_pos h]; simp [h]
  · rw [if_neg h]; simp [h]
theorem zoX {l : List Int} {h : zG} (hl : l.length < 1000000) (hv : ∀ v ∈ l, 0 ≤ v ∧ v ≤ (h.Objs.length : Int)) : wO l h = some (false, ()) := by
  rw [WA, Vx, XT (b := ()) hl (fun i x hx => ?_) (by rw [uF]; simp)]
  · rfl
  · have hm := hv x (List.mem_of_getElem? hx)
    have hlt := zas hx
    rw [uF, zt, if_pos hlt, uI hx, Option.bind_some, zfB, zt, if_neg (show ¬ x < 0 by omega), Option.bind_some, wu (by omega)]
    simp [show ¬ (h.Objs.length : Int) < x by omega]
theorem zpp {l : List Int} {n : Int} (hl : l.length < 1000000) (hv : ∀ v ∈ l, 0 ≤ v ∧ v ≤ n) : wj l n = some (false, ()) := by
  rw [Xd, Wq, XT (b := ()) hl (fun i x hx => ?_) (by rw [vN]; simp)]
  · rfl
  · have hm := hv x (List.mem_of_getElem? hx)
    have hlt := zas hx
    rw [vN, uI hx, Option.bind_some, zg1, UY, Option.bind_some, Option.bind_some, wu (by omega), zt, if_pos hlt]
    simp [hm]
theorem zpG {l : List (List Int)} {h : zG} (hl : l.length < 1000000) (hs : h.Slots < 1000000) (hv : ∀ o ∈ l, (o.length : Int) = h.Slots ∧ ∀ v ∈ o, 0 ≤ v ∧ v ≤ (h.Objs.length : Int)) : wq l h = some (false, ()) := by
  rw [XL, WP, XT (b := ()) hl (fun i x hx => ?_) (by rw [vV]; simp)]
  · rfl
  · have hm := hv x (List.mem_of_getElem? hx)
    have hlt := zas hx
    rw [vV, uI hx, Option.bind_some, zgT, yR, if_pos hm.1, zoX (by omega) hm.2, Option.bind_some, Option.bind_some, wu (by omega), zt, if_pos hlt]
    rfl
theorem ziv {r n : Int} (h : 0 ≤ r ∧ r < n) (h2 : n ≤ 4) : zM r n = some (true, ()) := by
  rw [zgU, zt, if_pos h.1, zt]
  rw [if_neg (by omega)]
  simp [h.2]
theorem zqY {o : zj} {regs slots : Int} (h : zcb o regs slots) (h2 : regs ≤ 4) (h3 : slots ≤ 4) : zcG o regs slots = some (true, ()) := by
  obtain ⟨hr, h⟩ := h
  have e1 := ziv hr h2
  have h4 : ¬ 4 < slots := by omega
  rw [ziz]
  rcases h with ⟨hk | hk, ha, hs⟩ | ⟨hk, ha, hs⟩ | ⟨hk | hk, ha, hs⟩
  · have e2 := ziv ha h2
    simp [hk, e1, e2, hs.1, hs.2, h4]
  · have e2 := ziv ha h2
    simp [hk, e1, e2, hs.1, hs.2, h4]
  · have e2 := ziv ha h2
    simp [hk, e1, e2, hs]
  · simp [hk, e1, ha, hs]
  · simp [hk, e1, ha, hs]
theorem zrw {l : List zj} {regs slots : Int} (hl : (l.length : Int) ≤ 64) (h : ∀ o ∈ l, zcb o regs slots) (h2 : regs ≤ 4) (h3 : slots ≤ 4) : zdQ l regs slots = some (true, ()) := by
  rw [zjz, zt, if_pos hl, Yg, YX, XT (b := ()) (by omega) (fun i x hx => ?_) (by rw [wN]; simp)]
  · rfl
  · have hlt := zas hx
    rw [wN, uI hx, Option.bind_some, zhn, zqY (h x (List.mem_of_getElem? hx)) h2 h3, Option.bind_some, Option.bind_some, wu (by omega), zt, if_pos hlt]
    rfl
theorem zp8 (a b : Int) : zco [] a b = some (true, ()) := by
  rw [ziu, Zu, Z2, XT (b := ()) (by simp) (fun i x hx => by simp at hx) (by rw [Zv]; simp)]
  rfl
def YJ (n : Int) : BitVec 64 := if n < 1 then 0#64 else 18446744073709551615#64 >>> (64 - min n 64).toNat
theorem zo6 (n : Int) (h : 0 ≤ n) : zdX n = some (YJ n, ()) := by
  rw [zkr, zt]
  unfold YJ
  by_cases h1 : n < 1
  · rw [if_pos h1, if_pos h1]
  · rw [if_neg h1, if_neg h1]
    simp only [zt]
    have e : (if 64 < n then (64 : Int) else n) = min n 64 := by
      by_cases h2 : 64 < n
      · rw [if_pos h2]; omega
      · rw [if_neg h2]; omega
    rw [e, yo (by omega) (by omega), if_neg (by omega), Nat.min_eq_left (by omega)]
theorem zkP : ∀ (r n : Fin 7), r.1 ≤ n.1 → bit (r.1 : Int) &&& ~~~YJ (n.1 : Int) = 0#64 := by decide
theorem zg5 {p : zb} (h : zr p) : p.Roots &&& ~~~YJ (p.H.Objs.length : Int) = 0#64 := by
  obtain ⟨r, h1, h2, h3⟩ := h.roots
  have hn := h.n
  have := zkP ⟨r.toNat, by omega⟩ ⟨p.H.Objs.length, by omega⟩ (by show r.toNat ≤ p.H.Objs.length; omega)
  rw [h3]
  simpa [Int.toNat_of_nonneg h1] using this
theorem zob {p : zb} (h : zr p) : X6 p = some (true, ()) := by
  obtain ⟨h1, h2, h3, h4, h5, h6, h7, _⟩ := h
  rw [zfb]
  simp only [UY, Option.bind_some, zt]
  rw [if_pos (by omega), if_pos (by omega), if_pos (by omega), if_pos (by omega), if_pos (by omega), if_pos (by split <;> omega)]
  have : (if p.Price < p.Limit then p.Limit else p.Price) ≤ 1000000 := by split <;> omega
  simp [this]
theorem zoJ {p : zb} (h : zr p) : zcF p.H = some (true, ()) := by
  have := h.slots
  have := h.n
  rw [zic, zt, if_pos (by omega), zt, if_pos (by omega), zt, if_pos (by omega), zpG (by omega) (by omega) h.objs]
  rfl
theorem zn4 {p : zb} (h : zr p) : zbM p = some (true, ()) := by
  have hn := h.n
  have hm := h.most
  have hsl := h.slots
  have hmt := h.mt
  have hrl := h.regs
  have hpl := h.progs
  rw [zit, zob h]
  simp only [Option.bind_some, Bool.not_true, cond_false, zoJ h, UY]
  rw [show decide ((p.H.Objs.length : Int) ≤ p.Most ∧ p.Most ≤ 64) = true by simp; omega]
  simp only [Bool.not_true, cond_false, zo6 _ (show (0 : Int) ≤ (p.H.Objs.length : Int) by omega), Option.bind_some, zjO, zg5 h, decide_true, yR, if_pos h.regs, if_pos h.progs]
  rw [XT (b := (p, ())) (by omega) (fun i x hx => ?_) (by rw [zaq]; simp)]
  · simp [h.picks, zp8]
  · have hlt := zas hx
    have hr := h.reg x (List.mem_of_getElem? hx)
    obtain ⟨ops, hops⟩ : ∃ ops, p.Progs[i]? = some ops := ⟨_, List.getElem?_eq_getElem (by omega)⟩
    obtain ⟨o1, o2⟩ := h.prog i x ops hx hops
    rw [zaq, zt, if_pos hlt, uI hx]
    simp only [Option.bind_some, UY]
    rw [show decide (1 ≤ (x.length : Int) ∧ (x.length : Int) ≤ 4) = true by simp; omega]
    simp only [Bool.not_true, cond_false, zpp (show x.length < 1000000 by omega) hr.2, Option.bind_some, uI hops, zrw (show (ops.length : Int) ≤ 64 by omega) o2 (show (x.length : Int) ≤ 4 by omega) (show p.H.Slots ≤ 4 by omega), wu (show i < 1000000 by omega)]
end
end Go.Pe.G
namespace Go.Pe.G
open Go.Pe
noncomputable section
theorem zeQ {n : Int} (h : 0 ≤ n) (h2 : n < 4294967296) : XG n = some n.toNat := by rw [zkJ]; simp [h, h2]
theorem zkF {n : Int} (h : 0 < n) (h2 : n < 4294967296) : zao n = some n.toNat := by rw [ziw]; simp [h, h2]
def XO (l : List Int) : BitVec 64 := l.foldl (fun s o => s ||| bit o) 0#64
def ww (p : zb) : BitVec 64 := p.Regs.foldl (fun s l => s ||| XO l) p.Roots
def ztd (a1 : BitVec 64) : BitVec 64 :=
  let a := ((a1 >>> 1) &&& 6148914691236517205#64) + (a1 &&& 6148914691236517205#64)
  let b := ((a >>> 2) &&& 3689348814741910323#64) + (a &&& 3689348814741910323#64)
  let c := ((b >>> 4) + b) &&& 1085102592571150095#64
  let d := c + (c >>> 8)
  let e := d + (d >>> 16)
  e + (e >>> 32)
def cnt (s : BitVec 64) : Int := (BitVec.ofInt 64 (ztd s).toInt &&& BitVec.ofInt 64 127).toInt
theorem zkC (s : BitVec 64) : UV s = some (cnt s, ()) := by
  rw [zjw, zek, zmB]; rfl
theorem zeX {m : List Int} (h : m.length < 4294967296) : xU m = some (m, ()) := by
  rw [zaX, List.nil_append, xY h, Option.bind_some]
  cases m with
  | nil => simp [zgy]
  | cons a l => simp
theorem zr9 {l : List Int} (hl : l.length < 1000000) : zhz l = some (XO l, ()) := by
  rw [znz]
  refine (ue (f := zd2) (fun a => ∃ i : Nat, a = ((l.take i).foldl (fun s o => s ||| bit o) 0#64, l, (l.length : Int), (i : Int), ()) ∧ i ≤ l.length) (fun a => l.length - a.2.2.2.1.toNat) (fun o => o = .brk (XO l, ())) ?_ (0#64, l, (l.length : Int), 0, ()) ⟨0, rfl, by omega⟩ (yQ (by simp; omega))).elim fun o h => ?_
  rotate_left
  · rw [h.1, h.2]; rfl
  · rintro _ ⟨i, rfl, hi⟩
    rw [zj9, zt]
    rcases Nat.lt_or_ge i l.length with hlt | hge
    · have hx := List.getElem?_eq_getElem hlt
      rw [if_pos (by omega), uI hx, Option.bind_some, zgI, Option.bind_some, wu (by omega)]
      refine ⟨_, rfl, ⟨i + 1, ?_, hlt⟩, ?_⟩
      · rw [List.take_add_one, hx]; simp only [Option.toList_some, List.foldl_append, List.foldl_cons, List.foldl_nil]
      · show l.length - ((i + 1 : Nat) : Int).toNat < l.length - (i : Int).toNat
        omega
    · rw [if_neg (by omega)]
      have : i = l.length := by omega
      subst this
      exact ⟨_, rfl, by rw [List.take_length]; rfl⟩
theorem zou {p : zb} (hl : p.Regs.length < 1000000) (hr : ∀ r ∈ p.Regs, r.length < 1000000) : zcf p = some (ww p, ()) := by
  rw [zi7]
  refine (ue (f := VO) (fun a => ∃ i : Nat, a = ((p.Regs.take i).foldl (fun s l => s ||| XO l) p.Roots, p.Regs, (p.Regs.length : Int), (i : Int), ()) ∧ i ≤ p.Regs.length) (fun a => p.Regs.length - a.2.2.2.1.toNat) (fun o => o = .brk (ww p, ())) ?_ (p.Roots, p.Regs, (p.Regs.length : Int), 0, ()) ⟨0, rfl, by omega⟩ (yQ (by simp; omega))).elim fun o h => ?_
  rotate_left
  · rw [h.1, h.2]; rfl
  · rintro _ ⟨i, rfl, hi⟩
    rw [zf3, zt]
    rcases Nat.lt_or_ge i p.Regs.length with hlt | hge
    · have hx := List.getElem?_eq_getElem hlt
      rw [if_pos (by omega), uI hx, Option.bind_some, zr9 (hr _ (List.getElem_mem hlt)), Option.bind_some, wu (by omega)]
      refine ⟨_, rfl, ⟨i + 1, ?_, hlt⟩, ?_⟩
      · rw [List.take_add_one, hx]; simp only [Option.toList_some, List.foldl_append, List.foldl_cons, List.foldl_nil]
      · show p.Regs.length - ((i + 1 : Nat) : Int).toNat < p.Regs.length - (i : Int).toNat
        omega
    · rw [if_neg (by omega)]
      have : i = p.Regs.length := by omega
      subst this
      exact ⟨_, rfl, by rw [List.take_length]; rfl⟩
theorem zpe {l : List (List Int)} (hl : l.length < 1000000) (h : ∀ r ∈ l, r.length < 1000000) : X3 l = some (l, ()) := by
  have key : ∀ n : Int, n = (l.length : Int) → yf wU (n, 0, l, ()) = some (.brk (l, ())) := by
    rintro _ rfl
    refine (ue (f := wU) (fun a => ∃ i : Nat, a = ((l.length : Int), (i : Int), l, ()) ∧ i ≤ l.length) (fun a => l.length - a.2.1.toNat) (fun o => o = .brk (l, ())) ?_ ((l.length : Int), 0, l, ()) ⟨0, rfl, by omega⟩ (yQ (by simp; omega))).elim fun o h => ?_
    rotate_left
    · rw [h.1, h.2]
    · rintro _ ⟨i, rfl, hi⟩
      rw [zcV, zt]
      rcases Nat.lt_or_ge i l.length with hlt | hge
      · have hx := List.getElem?_eq_getElem hlt
        have hr := h _ (List.getElem_mem hlt)
        have e : xH l (i : Int) = some i := by rw [uJ (by omega) (by omega)]; simp
        rw [if_pos (by omega), e]
        simp only [Option.bind_some]
        rw [hx, Option.bind_some, zeX (by omega), Option.bind_some, wu (by omega)]
        refine ⟨_, rfl, ⟨i + 1, by simp, hlt⟩, ?_⟩
        show l.length - ((i + 1 : Nat) : Int).toNat < l.length - (i : Int).toNat
        omega
      · rw [if_neg (by omega)]
        have : i = l.length := by omega
        subst this
        exact ⟨_, rfl, rfl⟩
  have hc : XG (l.length : Int) = some l.length := by rw [zeQ (by omega) (by omega)]; simp
  rw [zeH]
  simp only [decide_true, cond_true, hc, Option.bind_some, List.length_replicate]
  cases l with
  | nil => simp; rw [key 0 rfl]; rfl
  | cons a r => simp only [List.isEmpty_cons, cond_false]; rw [key _ rfl]; rfl
def zal (cap : Int) : List (BitVec 64) := [1#64, 1#64] ++ List.replicate cap.toNat 0#64
theorem znw {c : Int} (h : 1 ≤ c) (h2 : c ≤ 64) : zaU c = some (zal c, ()) := by
  have e : (if 64 < (if c < 1 then (1 : Int) else c) then (64 : Int) else (if c < 1 then (1 : Int) else c)) = c := by
    rw [if_neg (show ¬ c < 1 by omega), if_neg (by omega)]
  have w : w64 (2 + c) = 2 + c := yo (by omega) (by omega)
  have hc : XG (2 + c) = some (2 + c.toNat) := by rw [zeQ (by omega) (by omega)]; congr 1; omega
  rw [zhX]
  simp only [zt, e, w, if_true, hc, Option.bind_some]
  rw [uJ (by omega) (by simp; omega), Option.bind_some, uJ (by omega) (by simp; omega), Option.bind_some]
  have e2 : List.replicate (2 + c.toNat) 0#64 = 0#64 :: 0#64 :: List.replicate c.toNat 0#64 := by rw [Nat.add_comm 2]; rfl
  rw [e2]; rfl
theorem zoi {m : Int} (h : 0 ≤ m) (h2 : m ≤ 16) : zbZ m = some (⟨0, 0, 0, List.replicate m.toNat 0⟩, ()) := by
  have e : (if (if 16 < m then (16 : Int) else m) < 0 then (0 : Int) else (if 16 < m then (16 : Int) else m)) = m := by
    rw [if_neg (show ¬ 16 < m by omega), if_neg (by omega)]
  have hc : XG m = some m.toNat := zeQ (by omega) (by omega)
  rw [zjj]
  simp only [zt, e, if_true, hc, Option.bind_some]
def links (m : List (BitVec 64)) (next : Int) : List Int → List (BitVec 64)
  | [] => m
  | [a] => st m (wc (next + a)) 0#64
  | a :: b :: l => links (st m (wc (next + a)) (BitVec.ofInt 64 b)) next (b :: l)
def WS (m : List (BitVec 64)) (head next : Int) (l : List Int) : List (BitVec 64) := st (links m next l) head (yh 0#64 (l.headD 0))
theorem wS (m : List (BitVec 64)) (a : Int) (v : BitVec 64) : (st m a v).length = m.length := by unfold st; split <;> simp
theorem Vc : ∀ (l : List Int) (m : List (BitVec 64)) (n : Int), (links m n l).length = m.length
  | [], _, _ => rfl
  | [a], m, n => wS _ _ _
  | a :: b :: l, m, n => by simp only [links]; rw [Vc (b :: l), wS]
theorem zhs (m : List (BitVec 64)) (h n : Int) (l : List Int) : (WS m h n l).length = m.length := by unfold WS; rw [wS, Vc]
theorem zhN {head next : Int} {l : List Int} (hl : l.length < 1000000) : ∀ (k : Nat) (m : List (BitVec 64)) (i : Nat), l.length - i = k → i ≤ l.length → m.length < 4294967296 →
    ∀ n, k < n → xl Uj n (m, head, next, l, (l.length : Int), (i : Int), ()) = some (.brk (links m next (l.drop i), head, l, ()))
  | 0, m, i, hk, hi, hm, n + 1, hn => by
    have : i = l.length := by omega
    subst this
    simp only [xl]
    rw [za1, zt, if_neg (by omega), Option.bind_some, List.drop_length]; rfl
  | k + 1, m, i, hk, hi, hm, n + 1, hn => by
    have hlt : i < l.length := by omega
    have hx := List.getElem?_eq_getElem hlt
    simp only [xl]
    rw [za1, zt, if_pos (by omega), wu (by omega), zt, vJ]
    by_cases h2 : i + 1 < l.length
    · have hy := List.getElem?_eq_getElem h2
      have ed : l.drop i = l[i] :: l[i + 1] :: l.drop (i + 2) := by
        rw [List.drop_eq_getElem_cons hlt, List.drop_eq_getElem_cons h2]
      rw [if_pos (by omega), uI hy, Option.bind_some, uI hx, Option.bind_some, Wn hm, Option.bind_some, Option.bind_some]
      dsimp only
      rw [zhN hl k _ (i + 1) (by omega) (by omega) (by rw [wS]; exact hm) n (by omega), ed]
      rw [List.drop_eq_getElem_cons h2]; rfl
    · have ed : l.drop i = [l[i]] := by
        rw [List.drop_eq_getElem_cons hlt, List.drop_eq_nil_of_le (by omega)]
      rw [if_neg (by omega), uI hx, Option.bind_some, Wn hm, Option.bind_some, Option.bind_some]
      dsimp only
      rw [zhN hl k _ (i + 1) (by omega) (by omega) (by rw [wS]; exact hm) n (by omega), ed, List.drop_eq_nil_of_le (by omega)]
      rfl
theorem zkX {m : List (BitVec 64)} (hm : m.length < 4294967296) {head next : Int} {l : List Int} (hl : l.length < 1000000) : UU m head next l = some (WS m head next l, ()) := by
  have e := zhN (head := head) (next := next) hl l.length m 0 (by omega) (by omega) hm uj (yQ (by omega))
  rw [show ((0 : Nat) : Int) = 0 from rfl] at e
  rw [zjZ, ZE, e]
  simp only [Option.bind_some, List.drop_zero, zt]
  unfold WS
  cases l with
  | nil =>
    rw [if_neg (by simp), zbf, Option.bind_some, Wn (by rw [Vc]; exact hm)]; rfl
  | cons a r =>
    have : idx (a :: r) 0 = some a := by rw [zep (by omega)]; rfl
    rw [if_pos (by simp), this, Option.bind_some, zbf, Option.bind_some, Wn (by rw [Vc]; exact hm)]; rfl
def zlp : Nat → BitVec 64 → Option (List Int)
  | 0, _ => none
  | f + 1, s => bif decide (s = 0#64) then some [] else (zlp f (s &&& (s - 1#64))).map fun l => (((Go.Lib.ctz 64 s.toNat : Nat) : Int) + 1) :: l
theorem znv : ∀ t : Fin 64, zlp 66 (BitVec.ofNat 64 t.1) = some (((List.range 6).filter fun i => (BitVec.ofNat 64 t.1).getLsbD i).map fun i : Nat => (i : Int) + 1) := by decide +kernel
def Yu (s : BitVec 64) : List Int := ((List.range 6).filter fun i => s.getLsbD i).map fun i : Nat => (i : Int) + 1
theorem zfd {s : BitVec 64} (h : s &&& ~~~63#64 = 0#64) : ∃ t : Fin 64, s = BitVec.ofNat 64 t.1 := by
  have h2 : s = s &&& 63#64 := by
    apply BitVec.eq_of_getLsbD_eq
    intro i hi
    have := congrArg (fun x => x.getLsbD i) h
    simp only [BitVec.getLsbD_and, BitVec.getLsbD_not, hi, decide_true, Bool.true_and, BitVec.getLsbD_zero] at this ⊢
    cases h1 : s.getLsbD i <;> cases h3 : (63#64 : BitVec 64).getLsbD i <;> simp_all
  have h3 : s.toNat < 64 := by
    rw [h2, BitVec.toNat_and]
    exact Nat.lt_of_le_of_lt Nat.and_le_right (by decide)
  exact ⟨⟨s.toNat, h3⟩, by simp⟩
theorem zs9 : ∀ t : Fin 64, Go.Lib.ctz 64 t.1 ≤ 64 := by decide +kernel
theorem zkH : ∀ (f : Nat) (s : BitVec 64), s.toNat < 64 → W1 f s = zlp f s
  | 0, _, _ => rfl
  | f + 1, s, h => by
    simp only [W1, zlp]
    rw [zkH f _ (by rw [BitVec.toNat_and]; exact Nat.lt_of_le_of_lt Nat.and_le_left h)]
    have : Go.Lib.ctz 64 s.toNat ≤ 64 := zs9 ⟨s.toNat, h⟩
    have e : w64 (tz s + 1) = ((Go.Lib.ctz 64 s.toNat : Nat) : Int) + 1 := by
      unfold tz
      exact yo (by omega) (by omega)
    rw [e]
theorem zio : ∀ (l acc : List Int), (acc.length + l.length) < 4294967296 → vZ zaS l (acc, ()) = some (acc ++ l, ())
  | [], acc, _ => by simp [vZ]
  | a :: l, acc, h => by
    simp only [List.length_cons] at h
    rw [vZ, zhS, xY (by simp; omega), Option.bind_some, Option.bind_some, zio l _ (by simp; omega)]
    simp
theorem zpZ (s : BitVec 64) : (Yu s).length ≤ 6 := by
  unfold Yu
  rw [List.length_map]
  exact Nat.le_trans (List.length_filter_le _ _) (by simp)
theorem zrh {s : BitVec 64} (h : s &&& ~~~63#64 = 0#64) : ze8 s = some (Yu s, ()) := by
  obtain ⟨t, rfl⟩ := zfd h
  have e : zgh (BitVec.ofNat 64 t.1) = some (Yu (BitVec.ofNat 64 t.1)) := by
    show W1 66 _ = _
    rw [zkH 66 _ (by simp; omega), znv t]; rfl
  have := zpZ (BitVec.ofNat 64 t.1)
  rw [zll, zk4, Option.bind_some, e, Option.bind_some, zio _ _ (by simp; omega)]
  rfl
theorem zjk (n : Nat) (hn : 1 ≤ n) : ∀ (f : Nat) (l : List Int), (xw n f l).length ≤ l.length
  | 0, l => by simp [xw]
  | f + 1, [] => by simp [xw]
  | f + 1, x :: l => by
    have := zjk n hn f ((x :: l).drop n)
    simp only [xw, List.length_cons, List.length_drop] at this ⊢
    omega
theorem zdy (n : Nat) : ∀ (f : Nat) (l c : List Int), c ∈ xw n f l → c.length ≤ l.length
  | 0, l, c, h => by simp [xw] at h
  | f + 1, [], c, h => by simp [xw] at h
  | f + 1, x :: l, c, h => by
    simp only [xw, List.mem_cons] at h
    rcases h with rfl | h
    · rw [List.length_take]; exact Nat.min_le_right _ _
    · have := zdy n f _ c h
      simp only [List.length_drop] at this
      omega
def xR (p : zb) (w : Nat) : zi := ⟨0, 0, 0, (w : Int) + 1, 0, [], ⟨2, 0, zB p ((w : Int) + 1), p.Cap, 0#64, 0#64, 0, 0⟩, ⟨0, 0, 0, 0, 0#64, 0, 0, 0⟩, ⟨0, 0, 0, 0, ⟨0, 0, 0, 0, 0#64, 0#64, 0, 0⟩, ⟨0, 0, 0, 0, 0#64, 0, 0, 0⟩, 0, 0⟩⟩
def vG (p : zb) (k : Nat) : List (BitVec 64) := (List.range k).flatMap fun _ => zal p.Cap
theorem zi5 (c : Int) : (zal c).length = c.toNat + 2 := by unfold zal; rw [List.length_append, List.length_replicate]; exact Nat.add_comm _ _
theorem zdL (p : zb) (k : Nat) : vG p (k + 1) = vG p k ++ zal p.Cap := by unfold vG; rw [List.range_succ, List.flatMap_append]; simp
theorem Yy (p : zb) : ∀ k, (vG p k).length = k * (p.Cap.toNat + 2)
  | 0 => by simp [vG]
  | k + 1 => by rw [zdL, List.length_append, Yy p k, zi5, Nat.succ_mul]
theorem zsB {p : zb} {s1 : BitVec 64} {s5 : Int} {s6 : Int} {s7 : Int} {s8 : Int} {s9 : Int} {s10 : Int} {s11 : Int} {s12 : Int} {s13 : Int} {s14 : BitVec 64} {s15 : Int} {s16 : zo} {s17 : Int} {s18 : Int} {s19 : Bool} {s20 : Bool} {s21 : Int} {s22 : Int} {s23 : Int} {s24 : Int} {s25 : zn} {s26 : zb} {s27 : Int} {s28 : zo} {s29 : Int} {s30 : Int} {s31 : Bool} {s32 : Bool} {s33 : Int} {s34 : zA} {s35 : zn} {s36 : List (List Int)} {s37 : List (List Int)} {s38 : List (List zj)} {s39 : List zk} {s40 : List (List Int)} {s41 : List (BitVec 64)} {s42 : List (List Int)} {s43 : List Int} {s44 : List Int} {s45 : List zi} {s46 : List ze} {s47 : List (List Int)} {s49 : List (List Int)} {s50 : List Int} {s52 : List ze} (hp : zr p) :
    yf XN (s1, p.Workers, 0, p, s5, s6, s7, s8, s9, s10, s11, s12, s13, s14, s15, s16, s17, s18, s19, s20, s21, s22, s23, s24, s25, s26, s27, s28, s29, s30, s31, s32, s33, s34, s35, s36, s37, s38, s39, s40, s41, s42, s43, s44, s45, s46, s47, [], s49, s50, [], s52, ()) = some (.brk (s1, p, s5, s6, s7, s8, s9, s10, s11, s12, s13, s14, s15, s16, s17, s18, s19, s20, s21, s22, s23, s24, s25, s26, s27, s28, s29, s30, s31, s32, s33, s34, s35, s36, s37, s38, s39, s40, s41, s42, s43, s44, s45, s46, s47, (vG p p.Workers.toNat), s49, s50, ((List.range p.Workers.toNat).map (xR p)), s52, ())) := by
  have hw := hp.wk
  have hc := hp.cap
  refine (ue (f := XN) (fun a => ∃ i : Nat, a = (s1, p.Workers, (i : Int), p, s5, s6, s7, s8, s9, s10, s11, s12, s13, s14, s15, s16, s17, s18, s19, s20, s21, s22, s23, s24, s25, s26, s27, s28, s29, s30, s31, s32, s33, s34, s35, s36, s37, s38, s39, s40, s41, s42, s43, s44, s45, s46, s47, (vG p i), s49, s50, ((List.range i).map (xR p)), s52, ()) ∧ (i : Int) ≤ p.Workers) (fun a => (p.Workers - a.2.2.1).toNat) (fun o => o = .brk (s1, p, s5, s6, s7, s8, s9, s10, s11, s12, s13, s14, s15, s16, s17, s18, s19, s20, s21, s22, s23, s24, s25, s26, s27, s28, s29, s30, s31, s32, s33, s34, s35, s36, s37, s38, s39, s40, s41, s42, s43, s44, s45, s46, s47, (vG p p.Workers.toNat), s49, s50, ((List.range p.Workers.toNat).map (xR p)), s52, ())) ?_ (s1, p.Workers, 0, p, s5, s6, s7, s8, s9, s10, s11, s12, s13, s14, s15, s16, s17, s18, s19, s20, s21, s22, s23, s24, s25, s26, s27, s28, s29, s30, s31, s32, s33, s34, s35, s36, s37, s38, s39, s40, s41, s42, s43, s44, s45, s46, s47, [], s49, s50, [], s52, ()) ⟨0, rfl, by omega⟩ (yQ (by dsimp only; omega))).elim fun o h => ?_
  rotate_left
  · rw [h.1, h.2]
  · rintro _ ⟨i, rfl, hi⟩
    rw [zgO, zt]
    by_cases hlt : (i : Int) < p.Workers
    · have hl := Yy p i
      have hl2 := zi5 p.Cap
      have hb : i * (p.Cap.toNat + 2) ≤ 3 * 5 := Nat.mul_le_mul (by omega) (by omega)
      rw [if_pos hlt, znw hc.1 (by omega), Option.bind_some, xY (l := vG p i ++ zal p.Cap) (by rw [List.length_append]; omega), Option.bind_some, zhd, Option.bind_some, zct, Option.bind_some, xY (by simp <;> omega), Option.bind_some, wu (by omega)]
      refine ⟨_, rfl, ⟨i + 1, ?_, by omega⟩, ?_⟩
      · rw [zdL, List.range_succ, List.map_append]; rfl
      · show (p.Workers - ((i + 1 : Nat) : Int)).toNat < (p.Workers - (i : Int)).toNat
        omega
    · rw [if_neg hlt]
      have : i = p.Workers.toNat := by omega
      subst this
      exact ⟨_, rfl, rfl⟩
def yt (k : Nat) : List Int := (List.range k).map fun i : Nat => (i : Int) + 1
theorem zml (k : Nat) : (yt k).length = k := by simp [yt]
theorem zrx {b : Int} {s1 : BitVec 64} {s4 : zb} {s5 : Int} {s6 : Int} {s7 : Int} {s8 : Int} {s9 : Int} {s10 : Int} {s11 : Int} {s12 : Int} {s13 : Int} {s14 : BitVec 64} {s15 : Int} {s16 : zo} {s17 : Int} {s18 : Int} {s19 : Bool} {s20 : Bool} {s21 : Int} {s22 : Int} {s23 : Int} {s24 : Int} {s25 : zn} {s26 : zb} {s27 : Int} {s28 : zo} {s29 : Int} {s30 : Int} {s31 : Bool} {s32 : Bool} {s33 : Int} {s34 : zA} {s35 : zn} {s37 : List (List Int)} {s38 : List (List Int)} {s39 : List (List zj)} {s40 : List zk} {s41 : List (List Int)} {s42 : List (BitVec 64)} {s43 : List (List Int)} {s44 : List Int} {s45 : List Int} {s46 : List zi} {s47 : List ze} {s48 : List (List Int)} {s49 : List (BitVec 64)} {s50 : List (List Int)} {s51 : List Int} {s52 : List zi} {s53 : List ze} (hb : 0 ≤ b ∧ b < 1000) :
    yf Xc (s1, b, 0, s4, s5, s6, s7, s8, s9, s10, s11, s12, s13, s14, s15, s16, s17, s18, s19, s20, s21, s22, s23, s24, s25, s26, s27, s28, s29, s30, s31, s32, s33, s34, s35, [], s37, s38, s39, s40, s41, s42, s43, s44, s45, s46, s47, s48, s49, s50, s51, s52, s53, ()) = some (.brk (s1, s4, s5, s6, s7, s8, s9, s10, s11, s12, s13, s14, s15, s16, s17, s18, s19, s20, s21, s22, s23, s24, s25, s26, s27, s28, s29, s30, s31, s32, s33, s34, s35, (yt b.toNat), s37, s38, s39, s40, s41, s42, s43, s44, s45, s46, s47, s48, s49, s50, s51, s52, s53, ())) := by
  refine (ue (f := Xc) (fun a => ∃ i : Nat, a = (s1, b, (i : Int), s4, s5, s6, s7, s8, s9, s10, s11, s12, s13, s14, s15, s16, s17, s18, s19, s20, s21, s22, s23, s24, s25, s26, s27, s28, s29, s30, s31, s32, s33, s34, s35, (yt i), s37, s38, s39, s40, s41, s42, s43, s44, s45, s46, s47, s48, s49, s50, s51, s52, s53, ()) ∧ (i : Int) ≤ b) (fun a => (b - a.2.2.1).toNat) (fun o => o = .brk (s1, s4, s5, s6, s7, s8, s9, s10, s11, s12, s13, s14, s15, s16, s17, s18, s19, s20, s21, s22, s23, s24, s25, s26, s27, s28, s29, s30, s31, s32, s33, s34, s35, (yt b.toNat), s37, s38, s39, s40, s41, s42, s43, s44, s45, s46, s47, s48, s49, s50, s51, s52, s53, ())) ?_ (s1, b, 0, s4, s5, s6, s7, s8, s9, s10, s11, s12, s13, s14, s15, s16, s17, s18, s19, s20, s21, s22, s23, s24, s25, s26, s27, s28, s29, s30, s31, s32, s33, s34, s35, [], s37, s38, s39, s40, s41, s42, s43, s44, s45, s46, s47, s48, s49, s50, s51, s52, s53, ()) ⟨0, rfl, by omega⟩ (yQ (by dsimp only; omega))).elim fun o h => ?_
  rotate_left
  · rw [h.1, h.2]
  · rintro _ ⟨i, rfl, hi⟩
    rw [zgg, zt]
    by_cases hlt : (i : Int) < b
    · have := zml i
      rw [if_pos hlt, xY (by rw [List.length_append]; simp; omega), Option.bind_some, wu (by omega)]
      refine ⟨_, rfl, ⟨i + 1, ?_, by omega⟩, ?_⟩
      · unfold yt; rw [List.range_succ, List.map_append]; rfl
      · show (b - ((i + 1 : Nat) : Int)).toNat < (b - (i : Int)).toNat
        omega
    · rw [if_neg hlt]
      have : i = b.toNat := by omega
      subst this
      exact ⟨_, rfl, rfl⟩
theorem znJ {s1 : zb} {s2 : Int} {s3 : Int} {s4 : Int} {s5 : Int} {s6 : Int} {s7 : Int} {s8 : Int} {s9 : Int} {s10 : Int} {s11 : BitVec 64} {s12 : Int} {s13 : zo} {s14 : Int} {s15 : Int} {s16 : Bool} {s17 : Bool} {s18 : Int} {s19 : Int} {s20 : Int} {s21 : Int} {s22 : zn} {s23 : zb} {s24 : Int} {s25 : zo} {s26 : Int} {s27 : Int} {s28 : Bool} {s29 : Bool} {s30 : Int} {s31 : zA} {s32 : zn} {s33 : List Int} {s34 : List (List Int)} {s35 : List (List Int)} {s36 : List (List zj)} {s37 : List zk} {s38 : List (List Int)} {s39 : List (BitVec 64)} {s40 : List (List Int)} {s41 : List Int} {s42 : List Int} {s43 : List zi} {s44 : List ze} {s45 : List (List Int)} {s46 : List (BitVec 64)} {s48 : List Int} {s49 : List zi} {s50 : List ze} : ∀ (ys acc : List (List Int)), acc.length + ys.length < 1000000 → (∀ c ∈ ys, c.length < 1000000) → vZ VK ys (s1, s2, s3, s4, s5, s6, s7, s8, s9, s10, s11, s12, s13, s14, s15, s16, s17, s18, s19, s20, s21, s22, s23, s24, s25, s26, s27, s28, s29, s30, s31, s32, s33, s34, s35, s36, s37, s38, s39, s40, s41, s42, s43, s44, s45, s46, acc, s48, s49, s50, ()) = some (s1, s2, s3, s4, s5, s6, s7, s8, s9, s10, s11, s12, s13, s14, s15, s16, s17, s18, s19, s20, s21, s22, s23, s24, s25, s26, s27, s28, s29, s30, s31, s32, s33, s34, s35, s36, s37, s38, s39, s40, s41, s42, s43, s44, s45, s46, (acc ++ ys), s48, s49, s50, ())
  | [], acc, _, _ => by simp [vZ]
  | y :: ys, acc, h, hc => by
    simp only [List.length_cons] at h
    have hy := hc y (List.mem_cons_self ..)
    rw [vZ, zgk, zeX (by omega), Option.bind_some, xY (by simp <;> omega), Option.bind_some, Option.bind_some, znJ ys _ (by simp <;> omega) (fun c h' => hc c (List.mem_cons_of_mem _ h'))]
    simp
def w9 (r : List Int) : ze := ⟨0, 0, 0, 0, 0, 0, 0, 0, r, [], [], ⟨0, 0, 0, 0, 0#64, 0, 0, 0⟩, ⟨0, 0, 0, 0, ⟨0, 0, 0, 0, 0#64, 0#64, 0, 0⟩, ⟨0, 0, 0, 0, 0#64, 0, 0, 0⟩, 0, 0⟩⟩
theorem zrY {p : zb} {s4 : Int} {s5 : Int} {s6 : Int} {s7 : Int} {s8 : Int} {s9 : Int} {s10 : Int} {s11 : Int} {s12 : Int} {s13 : BitVec 64} {s14 : Int} {s15 : zo} {s16 : Int} {s17 : Int} {s18 : Bool} {s19 : Bool} {s20 : Int} {s21 : Int} {s22 : Int} {s23 : Int} {s24 : zn} {s25 : zb} {s26 : Int} {s27 : List (BitVec 64)} {s28 : zo} {s29 : Int} {s30 : Int} {s31 : Bool} {s32 : Bool} {s33 : Int} {s34 : zA} {s35 : zn} {s36 : List (List Int)} {s37 : List (List Int)} {s38 : List (List zj)} {s39 : List zk} {s40 : List (List Int)} {s41 : List (BitVec 64)} {s42 : List (List Int)} {s43 : List Int} {s44 : List Int} {s45 : List zi} {s46 : List ze} {s47 : List (List Int)} {s48 : List (List Int)} {s49 : List Int} {s50 : List zi} (hl : p.Regs.length < 1000000) (hr : ∀ r ∈ p.Regs, r.length < 1000000) :
    yf Y5 (p.Regs, (p.Regs.length : Int), 0, s4, s5, s6, s7, s8, s9, s10, s11, s12, s13, s14, s15, s16, s17, s18, s19, s20, s21, s22, s23, s24, s25, s26, s27, s28, s29, s30, s31, s32, s33, s34, s35, s36, s37, s38, s39, s40, s41, s42, s43, s44, s45, s46, s47, s48, s49, s50, [], ()) = some (.brk (s4, s5, s6, s7, s8, s9, s10, s11, s12, s13, s14, s15, s16, s17, s18, s19, s20, s21, s22, s23, s24, s25, s26, s27, s28, s29, s30, s31, s32, s33, s34, s35, s36, s37, s38, s39, s40, s41, s42, s43, s44, s45, s46, s47, s48, s49, s50, (p.Regs.map w9), ())) := by
  refine (ue (f := Y5) (fun a => ∃ i : Nat, a = (p.Regs, (p.Regs.length : Int), (i : Int), s4, s5, s6, s7, s8, s9, s10, s11, s12, s13, s14, s15, s16, s17, s18, s19, s20, s21, s22, s23, s24, s25, s26, s27, s28, s29, s30, s31, s32, s33, s34, s35, s36, s37, s38, s39, s40, s41, s42, s43, s44, s45, s46, s47, s48, s49, s50, ((p.Regs.take i).map w9), ()) ∧ i ≤ p.Regs.length) (fun a => p.Regs.length - a.2.2.1.toNat) (fun o => o = .brk (s4, s5, s6, s7, s8, s9, s10, s11, s12, s13, s14, s15, s16, s17, s18, s19, s20, s21, s22, s23, s24, s25, s26, s27, s28, s29, s30, s31, s32, s33, s34, s35, s36, s37, s38, s39, s40, s41, s42, s43, s44, s45, s46, s47, s48, s49, s50, (p.Regs.map w9), ())) ?_ (p.Regs, (p.Regs.length : Int), 0, s4, s5, s6, s7, s8, s9, s10, s11, s12, s13, s14, s15, s16, s17, s18, s19, s20, s21, s22, s23, s24, s25, s26, s27, s28, s29, s30, s31, s32, s33, s34, s35, s36, s37, s38, s39, s40, s41, s42, s43, s44, s45, s46, s47, s48, s49, s50, [], ()) ⟨0, rfl, by omega⟩ (yQ (by dsimp only; omega))).elim fun o h => ?_
  rotate_left
  · rw [h.1, h.2]
  · rintro _ ⟨i, rfl, hi⟩
    rw [zfM, zt]
    rcases Nat.lt_or_ge i p.Regs.length with hlt | hge
    · have hx := List.getElem?_eq_getElem hlt
      have hh := hr _ (List.getElem_mem hlt)
      rw [if_pos (by omega), uI hx, Option.bind_some, zeX (by omega), Option.bind_some, xY (by simp <;> omega), Option.bind_some, wu (by omega)]
      refine ⟨_, rfl, ⟨i + 1, ?_, hlt⟩, ?_⟩
      · rw [List.take_add_one, hx, List.map_append]; rfl
      · show p.Regs.length - ((i + 1 : Nat) : Int).toNat < p.Regs.length - (i : Int).toNat
        omega
    · rw [if_neg (by omega)]
      have : i = p.Regs.length := by omega
      subst this
      exact ⟨_, rfl, by rw [List.take_length]⟩
def zF (p : zb) : Nat := (p.Most + p.Workers + p.Mutators).toNat
def yi (p : zb) : List (List Int) := xw p.Bin.toNat (Yu (ww p)).length (Yu (ww p))
def z8 (p : zb) : za :=
  { P := p, H := p.H,
    M := WS (WS (vG p p.Workers.toNat ++ List.replicate (2 + zF p) 0#64) (zN p) (zv p) ((yt (zF p)).take (yi p).length)) (zv p) (zv p) ((yt (zF p)).drop (yi p).length),
    Bins := [[]] ++ yi p ++ List.replicate (zF p - (yi p).length) [],
    T := ⟨ww p, 0#64⟩, Work := cnt (ww p), Epoch := 0, Flag := false, Done := false, Restarts := 0,
    Acks := List.replicate p.Mutators.toNat 0, L := ⟨0, 0, 0, List.replicate p.Mutators.toNat 0⟩,
    Ws := (List.range p.Workers.toNat).map (xR p), Ms := p.Regs.map w9, D := ⟨0, 0⟩ }
theorem zo7 : ∀ r : Fin 7, bit (r.1 : Int) &&& ~~~63#64 = 0#64 := by decide
theorem zpV {r n : Int} (h : 0 ≤ r) (h2 : r ≤ n) (h3 : n ≤ 6) : bit r &&& ~~~YJ n = 0#64 := by
  have := zkP ⟨r.toNat, by omega⟩ ⟨n.toNat, by omega⟩ (by show r.toNat ≤ n.toNat; omega)
  simpa [Int.toNat_of_nonneg h, Int.toNat_of_nonneg (show 0 ≤ n by omega)] using this
theorem zhk {a b c : BitVec 64} (ha : a &&& ~~~c = 0#64) (hb : b &&& ~~~c = 0#64) : (a ||| b) &&& ~~~c = 0#64 := by
  apply BitVec.eq_of_getLsbD_eq
  intro i hi
  have h1 := congrArg (fun x => x.getLsbD i) ha
  have h2 := congrArg (fun x => x.getLsbD i) hb
  simp only [BitVec.getLsbD_and, BitVec.getLsbD_or, BitVec.getLsbD_not, BitVec.getLsbD_zero, hi, decide_true, Bool.true_and] at h1 h2 ⊢
  revert h1 h2
  generalize a.getLsbD i = x
  generalize b.getLsbD i = y
  generalize c.getLsbD i = z
  cases x <;> cases y <;> cases z <;> decide
theorem zoK {c : BitVec 64} {l : List Int} (h : ∀ o ∈ l, bit o &&& ~~~c = 0#64) : ∀ (z : BitVec 64), z &&& ~~~c = 0#64 → l.foldl (fun s o => s ||| bit o) z &&& ~~~c = 0#64 := by
  induction l with
  | nil => intro z hz; exact hz
  | cons a l ih => intro z hz; exact ih (fun o ho => h o (List.mem_cons_of_mem _ ho)) _ (zhk hz (h a (List.mem_cons_self ..)))
theorem zdM {p : zb} (h : zr p) : ww p &&& ~~~YJ (p.H.Objs.length : Int) = 0#64 := by
  have hn := h.n
  have key : ∀ (L : List (List Int)) (z : BitVec 64), (∀ r ∈ L, ∀ v ∈ r, 0 ≤ v ∧ v ≤ (p.H.Objs.length : Int)) → z &&& ~~~YJ (p.H.Objs.length : Int) = 0#64 → L.foldl (fun s l => s ||| XO l) z &&& ~~~YJ (p.H.Objs.length : Int) = 0#64 := by
    intro L
    induction L with
    | nil => intro z _ hz; exact hz
    | cons r L ih =>
      intro z hr hz
      refine ih _ (fun r' h' => hr r' (List.mem_cons_of_mem _ h')) (zhk hz (zoK (fun o ho => ?_) _ (by simp)))
      have := hr r (List.mem_cons_self ..) o ho
      exact zpV this.1 this.2 hn.2
  exact key _ _ (fun r hr => (h.reg r hr).2) (zg5 h)
theorem znn {a b c : BitVec 64} (h : a &&& ~~~b = 0#64) (h2 : b &&& ~~~c = 0#64) : a &&& ~~~c = 0#64 := by
  apply BitVec.eq_of_getLsbD_eq
  intro i hi
  have h1 := congrArg (fun x => x.getLsbD i) h
  have h2 := congrArg (fun x => x.getLsbD i) h2
  simp only [BitVec.getLsbD_and, BitVec.getLsbD_not, BitVec.getLsbD_zero, hi, decide_true, Bool.true_and] at h1 h2 ⊢
  revert h1 h2
  generalize a.getLsbD i = x
  generalize b.getLsbD i = y
  generalize c.getLsbD i = z
  cases x <;> cases y <;> cases z <;> decide
theorem zm9 : ∀ n : Fin 7, YJ (n.1 : Int) &&& ~~~63#64 = 0#64 := by decide
theorem YR {p : zb} (h : zr p) : ww p &&& ~~~63#64 = 0#64 := by
  have hn := h.n
  refine znn (zdM h) ?_
  exact zm9 ⟨p.H.Objs.length, by omega⟩
theorem zn7 : ∀ (n : Fin 7) (t : Fin 64), BitVec.ofNat 64 t.1 &&& ~~~YJ (n.1 : Int) = 0#64 → (Yu (BitVec.ofNat 64 t.1)).length ≤ n.1 := by decide +kernel
theorem zfT {p : zb} (h : zr p) : (Yu (ww p)).length ≤ p.H.Objs.length := by
  have hn := h.n
  obtain ⟨t, ht⟩ := zfd (YR h)
  have h2 := zdM h
  rw [ht] at h2 ⊢
  exact zn7 ⟨p.H.Objs.length, by omega⟩ t h2
theorem zeC {p : zb} (h : zr p) : (yi p).length ≤ p.H.Objs.length := by
  have hb := h.bin
  exact Nat.le_trans (zjk _ (by omega) _ _) (zfT h)
theorem zdp {p : zb} (h : zr p) : WB p = some (z8 p, ()) := by
  have hw := h.wk
  have hc := h.cap
  have hm := h.mt
  have hb := h.bin
  have hn := h.n
  have hmo := h.most
  have hrl := h.regs
  have hreg : ∀ r ∈ p.Regs, r.length < 1000000 := fun r hr => by have := (h.reg r hr).1; omega
  have hobj : ∀ o ∈ p.H.Objs, o.length < 1000000 := fun o ho => by have := (h.objs o ho).1; have := h.slots; omega
  have hfl := zeC h
  have hgl := zfT h
  have hcl := Yy p p.Workers.toNat
  have hcb : p.Workers.toNat * (p.Cap.toNat + 2) ≤ 3 * 5 := Nat.mul_le_mul (by omega) (by omega)
  have hbn : (zF p : Int) = p.Most + p.Workers + p.Mutators := by unfold zF; omega
  have eb : UT p = some ((zF p : Int), ()) := by
    rw [zkd, yo (a := p.Most + p.Workers) (by omega) (by omega), yo (by omega) (by omega), hbn]
  have hul := zml (zF p)
  have ec : YF (Yu (ww p)) p.Bin = some (yi p) := by
    show zbT _ _ = _
    unfold zbT yi
    have c1 : (decide (1 ≤ p.Bin) && decide (p.Bin < 1000000) && decide (((Yu (ww p)).length : Int) < 1000000)) = true := by simp <;> omega
    rw [c1]; rfl
  have cut1 : cut (yt (zF p)) 0 ((yi p).length : Int) = some ((yt (zF p)).take (yi p).length) := by
    unfold cut
    have : ((yi p).length : Int) ≤ ((yt (zF p)).length : Int) := by omega
    simp [this]
  have cut2 : cut (yt (zF p)) ((yi p).length : Int) ((yt (zF p)).length : Int) = some ((yt (zF p)).drop (yi p).length) := by
    unfold cut
    have : ((yi p).length : Int) ≤ ((yt (zF p)).length : Int) := by omega
    simp [this]
  rw [zjM, zn4 h]
  simp only [Option.bind_some, Bool.not_true, cond_false]
  rw [zou (by omega) hreg]
  simp only [Option.bind_some, zkC, zoi hm.1 (show p.Mutators ≤ 16 by omega)]
  rw [zpe (by omega) hobj]
  simp only [Option.bind_some]
  rw [zsB h]
  simp only [Option.bind_some, eb]
  have e3 : (2 + (zF p : Int)).toNat = 2 + zF p := by omega
  rw [yo (a := 2 + (zF p : Int)) (by omega) (by omega), zkF (by omega) (by omega), e3, Option.bind_some, xY (l := vG p p.Workers.toNat ++ List.replicate (2 + zF p) 0#64) (by simp <;> omega), Option.bind_some, zrx (by omega)]
  dsimp only [Option.bind_some]
  rw [Int.toNat_natCast, zrh (YR h), Option.bind_some, zaQ, zt, if_neg (by omega), Option.bind_some, ec, Option.bind_some, znJ _ _ (by simp <;> omega) (fun c hc' => by have := zdy _ _ _ _ hc'; omega)]
  dsimp only [Option.bind_some]
  have e1 : w64 ((([[]] ++ yi p : List (List Int)).length : Int) - 1) = ((yi p).length : Int) := by
    rw [yo (by simp <;> omega) (by simp <;> omega)]; simp
  have e2 : w64 (((yt (zF p)).length : Int) - ((yi p).length : Int)) = ((zF p - (yi p).length : Nat) : Int) := by
    rw [yo (by omega) (by omega)]; omega
  rw [e1, e2, zkF (by omega) (by omega), Int.toNat_natCast, Option.bind_some, xY (by simp <;> omega), Option.bind_some, zbq, Option.bind_some, zbl, Option.bind_some, cut1, Option.bind_some, zkX (by simp <;> omega) (by simp <;> omega), Option.bind_some, zdx, Option.bind_some, Option.bind_some, cut2, Option.bind_some, zkX (by rw [zhs]; simp <;> omega) (by simp <;> omega), Option.bind_some, decide_true, cond_true, zeQ hm.1 (show p.Mutators < 4294967296 by omega), Option.bind_some, zrY (by omega) hreg]
  rfl
end
end Go.Pe.G
namespace Go.Pe.G
open Go.Pe
noncomputable section
theorem zc1 (h : BitVec 64) : zT h = ((h.toNat % 4294967296 : Nat) : Int) := by
  unfold zT
  have e : (h &&& 4294967295#64).toNat = h.toNat % 4294967296 := by
    rw [BitVec.toNat_and]
    exact Nat.and_two_pow_sub_one_eq_mod h.toNat 32
  rw [BitVec.toInt_eq_toNat_cond, e]
  omega
theorem zdh (h : BitVec 64) : 0 ≤ zT h ∧ zT h < 4294967296 := by rw [zc1]; omega
theorem W4 (v : BitVec 64) {n : Int} (h : 0 ≤ n) (h2 : n < 4294967296) : zT (yh v n) = n := by
  rw [zc1]
  unfold yh
  rw [BitVec.toNat_or, BitVec.toNat_and, BitVec.toNat_shiftLeft]
  have e1 : (v.toNat <<< 32 % 2 ^ 64 ||| (BitVec.ofInt 64 n).toNat &&& (4294967295#64).toNat) % 2 ^ 32 = (v.toNat <<< 32 % 2 ^ 64) % 2 ^ 32 ||| ((BitVec.ofInt 64 n).toNat &&& (4294967295#64).toNat) % 2 ^ 32 := Nat.or_mod_two_pow
  have e2 : v.toNat <<< 32 % 2 ^ 64 % 2 ^ 32 = 0 := by rw [Nat.shiftLeft_eq]; omega
  have e3 : (BitVec.ofInt 64 n).toNat &&& (4294967295#64).toNat = n.toNat := by
    have : (BitVec.ofInt 64 n).toNat = n.toNat := by rw [BitVec.toNat_ofInt]; omega
    rw [this]
    exact (Nat.and_two_pow_sub_one_eq_mod n.toNat 32).trans (Nat.mod_eq_of_lt (by omega))
  rw [show (4294967296 : Nat) = 2 ^ 32 from rfl, e1, e2, e3, Nat.zero_or, Nat.mod_eq_of_lt (by omega)]
  omega
theorem toInt_ofInt {n : Int} (h : 0 ≤ n) (h2 : n < 4294967296) : (BitVec.ofInt 64 n).toInt = n := by
  have e : (BitVec.ofInt 64 n).toNat = n.toNat := by rw [BitVec.toNat_ofInt]; omega
  rw [BitVec.toInt_eq_toNat_cond, e]
  omega
theorem u7 {m : List (BitVec 64)} {a b : Int} {v : BitVec 64} : ld (st m a v) b = if a = b ∧ 0 ≤ a ∧ a < m.length then v else ld m b := by
  unfold ld st
  by_cases hb : 0 ≤ b
  · rw [if_pos hb, if_pos hb]
    by_cases ha : 0 ≤ a
    · rw [if_pos ha, List.getD_eq_getElem?_getD, List.getD_eq_getElem?_getD, List.getElem?_set]
      by_cases hab : a.toNat = b.toNat
      · have e : a = b := by omega
        subst e
        by_cases hl : a.toNat < m.length
        · rw [if_pos rfl, if_pos hl, if_pos ⟨rfl, ha, by omega⟩]; rfl
        · rw [if_pos rfl, if_neg hl, if_neg (by omega), List.getElem?_eq_none (by omega)]
      · rw [if_neg hab, if_neg (by omega)]
    · rw [if_neg ha, if_neg (by omega)]
  · rw [if_neg hb, if_neg hb, if_neg (by omega)]
theorem zY {m : List (BitVec 64)} {a b : Int} {v : BitVec 64} (h : a ≠ b) : ld (st m a v) b = ld m b := by
  rw [u7, if_neg (fun h' => h h'.1)]
theorem wC {p : zb} (h : zr p) : zN p = p.Workers * (p.Cap + 2) ∧ 3 ≤ zN p ∧ zN p ≤ 15 := by
  have hw := h.wk
  have hc := h.cap
  unfold zN
  rw [xk (a := p.Cap + 2) (by omega) (by omega)]
  have hx : p.Workers = 1 ∨ p.Workers = 2 ∨ p.Workers = 3 := by omega
  rcases hx with hx | hx | hx <;> rw [hx, xk (by omega) (by omega)] <;> omega
theorem yM {p : zb} (h : zr p) : zv p = zN p + 1 := by
  have := wC h
  unfold zv
  rw [xk (by omega) (by omega)]
theorem vz {p : zb} (h : zr p) {w : Int} (h1 : 1 ≤ w) (h2 : w ≤ p.Workers) : zB p w = (w - 1) * (p.Cap + 2) ∧ 0 ≤ zB p w ∧ zB p w + p.Cap + 2 ≤ zN p := by
  have hw := h.wk
  have hc := h.cap
  have hf := (wC h).1
  unfold zB
  rw [xk (a := p.Cap + 2) (by omega) (by omega), xk (a := w - 1) (by omega) (by omega)]
  have hx : p.Workers = 1 ∨ p.Workers = 2 ∨ p.Workers = 3 := by omega
  have hy : w = 1 ∨ w = 2 ∨ w = 3 := by omega
  rw [hf]
  rcases hx with hx | hx | hx <;> rcases hy with hy | hy | hy <;> first | omega | (rw [hx, hy, xk (by omega) (by omega)] <;> omega)
theorem zhC {p : zb} (h : zr p) {d : zg} {w : Int} (h1 : 1 ≤ w) (h2 : w ≤ p.Workers) (hb : d.Base = zB p w) (hc : d.Cap = p.Cap) (i : BitVec 64) :
    vH d i = d.Base + 2 + ((i.toNat % p.Cap.toNat : Nat) : Int) ∧ d.Base + 2 ≤ vH d i ∧ vH d i < d.Base + 2 + p.Cap := by
  have hcp := h.cap
  have hd := vz h h1 h2
  have hf := wC h
  have hs : (uo d).toNat = p.Cap.toNat := by
    unfold uo
    rw [hc, if_neg (by omega), BitVec.toNat_ofInt]
    omega
  have hlt : i.toNat % p.Cap.toNat < p.Cap.toNat := Nat.mod_lt _ (by omega)
  have hm : (i % uo d).toInt = ((i.toNat % p.Cap.toNat : Nat) : Int) := by
    rw [BitVec.toInt_eq_toNat_cond, BitVec.toNat_umod, hs]
    omega
  unfold vH
  rw [hm, xk (a := d.Base + 2) (by omega) (by omega), xk (by omega) (by omega)]
  omega
structure SOk (p : zb) (nb : Nat) (s : za) : Prop where
  P : s.P = p
  bins : s.Bins.length = nb
  nbk : 1 ≤ nb ∧ nb < 1000
  mem : s.M.length < 100000
  cF : zT (ld s.M (zN p)) < nb
  cE : zT (ld s.M (zv p)) < nb
  cL : ∀ a, zv p < a → 0 ≤ (ld s.M a).toInt ∧ (ld s.M a).toInt < nb
structure MOk (p : zb) (nb : Nat) (g : zd) : Prop where
  who : g.Mode = 1 → 1 ≤ g.Who ∧ g.Who ≤ p.Workers
  d3 : g.PC = 3 → g.D.Kind = 1 ∧ g.D.Base = zB p g.Who ∧ g.D.Cap = p.Cap ∧ g.Mode = 1
  c5 : g.PC = 5 → g.C.Kind = 2 ∧ g.C.Head = zv p ∧ g.C.Next = zv p ∧ (1 ≤ g.C.PC → 1 ≤ zT g.C.H ∧ zT g.C.H < nb) ∧ (2 ≤ g.C.PC → 0 ≤ g.C.Y ∧ g.C.Y < nb)
  b6 : g.PC = 6 → 1 ≤ g.Bin ∧ g.Bin < nb
  c7 : g.PC = 7 → g.C.Kind = 1 ∧ g.C.Head = zN p ∧ g.C.Next = zv p ∧ (1 ≤ g.C.X ∧ g.C.X < nb) ∧ (1 ≤ g.C.PC → zT g.C.H < nb)
theorem SOk.gok {p : zb} {nb : Nat} {s : za} {g : zd} (h : zr p) (S : SOk p nb s) (M : MOk p nb g) : GOk s g := by
  have hc := h.cap
  refine ⟨by have := S.mem; omega, by have := S.bins; have := S.nbk; omega, fun h6 => ?_, fun h3 => ?_⟩
  · have := M.b6 h6; have := S.bins; omega
  · obtain ⟨a, b, c, _⟩ := M.d3 h3; exact ⟨a, by omega⟩
theorem SOk.low {p : zb} {nb : Nat} {s : za} (h : zr p) (S : SOk p nb s) {a : Int} (ha : a < zN p) (v : BitVec 64) : SOk p nb { s with M := st s.M a v } := by
  have he := yM h
  exact ⟨S.P, S.bins, S.nbk, by simp only [wS]; exact S.mem, by simp only [zY (show a ≠ zN p by omega)]; exact S.cF, by simp only [zY (show a ≠ zv p by omega)]; exact S.cE, fun b hb => by
    simp only [zY (show a ≠ b by omega)]; exact S.cL b hb⟩
theorem SOk.link {p : zb} {nb : Nat} {s : za} (h : zr p) (S : SOk p nb s) {a : Int} (ha : zv p < a) {v : BitVec 64} (hv : 0 ≤ v.toInt ∧ v.toInt < nb) : SOk p nb { s with M := st s.M a v } := by
  have he := yM h
  exact ⟨S.P, S.bins, S.nbk, by simp only [wS]; exact S.mem, by simp only [zY (show a ≠ zN p by omega)]; exact S.cF, by simp only [zY (show a ≠ zv p by omega)]; exact S.cE, fun b hb => by
    simp only [u7]
    split
    · exact hv
    · exact S.cL b hb⟩
theorem SOk.head {p : zb} {nb : Nat} {s : za} (h : zr p) (S : SOk p nb s) {a : Int} (ha : a = zN p ∨ a = zv p) {v : BitVec 64} (hv : zT v < nb) : SOk p nb { s with M := st s.M a v } := by
  have he := yM h
  refine ⟨S.P, S.bins, S.nbk, by simp only [wS]; exact S.mem, ?_, ?_, fun b hb => ?_⟩
  · simp only [u7]
    split
    · exact hv
    · exact S.cF
  · simp only [u7]
    split
    · exact hv
    · exact S.cE
  · simp only [zY (show a ≠ b by omega)]; exact S.cL b hb
theorem SOk.swap {p : zb} {nb : Nat} {s : za} (h : zr p) (S : SOk p nb s) {a : Int} (ha : a = zN p ∨ a = zv p) (x : BitVec 64) {v : BitVec 64} (hv : zT v < nb) : SOk p nb { s with M := (sw s.M a x v).1 } := by
  unfold sw
  split
  · exact S.head h ha hv
  · exact S
theorem ziQ {p : zb} {nb : Nat} {s : za} (h : zr p) (S : SOk p nb s) {c : zp} {hd : Int} (hdd : hd = zN p ∨ hd = zv p) (hk : c.Kind = 2) (hh : c.Head = hd) (hn : c.Next = zv p)
    (h1 : 1 ≤ c.PC → 1 ≤ zT c.H ∧ zT c.H < nb) (h2 : 2 ≤ c.PC → 0 ≤ c.Y ∧ c.Y < nb) (ho : c.Out ≠ 1) :
    SOk p nb { s with M := (zl s.M c).1 } ∧ (zl s.M c).2.Kind = 2 ∧ (zl s.M c).2.Head = hd ∧ (zl s.M c).2.Next = zv p ∧
    ((zl s.M c).2.Out ≠ 1 → (zl s.M c).2.Out ≠ 2 → (1 ≤ (zl s.M c).2.PC → 1 ≤ zT (zl s.M c).2.H ∧ zT (zl s.M c).2.H < nb) ∧ (2 ≤ (zl s.M c).2.PC → 0 ≤ (zl s.M c).2.Y ∧ (zl s.M c).2.Y < nb)) ∧
    ((zl s.M c).2.Out = 1 → 1 ≤ (zl s.M c).2.X ∧ (zl s.M c).2.X < nb) := by
  have hnb := S.nbk
  have hE := yM h
  have hF := wC h
  unfold zl
  split
  · exact ⟨S, hk, hh, hn, fun _ _ => ⟨h1, h2⟩, fun e => absurd e ho⟩
  · split
    · rw [hh]
      have n1 := zdh (ld s.M hd)
      have n2 : zT (ld s.M hd) < nb := by
        rcases hdd with e | e <;> rw [e]
        · exact S.cF
        · exact S.cE
      split
      · exact ⟨S, hk, rfl, hn, fun _ h => absurd rfl h, fun e => by cases e⟩
      · rename_i hne
        refine ⟨S, hk, rfl, hn, fun _ _ => ⟨fun _ => ⟨?_, n2⟩, fun e => absurd e (by dsimp only; omega)⟩, fun e => absurd e ho⟩
        have : zT (ld s.M hd) ≠ 0 := fun e => hne ⟨hk, e⟩
        dsimp only
        omega
    · split
      · try rw [if_pos hk]
        have hpc : 1 ≤ c.PC := by omega
        have n1 := h1 hpc
        refine ⟨S, hk, hh, hn, fun _ _ => ⟨fun _ => n1, fun _ => ?_⟩, fun e => absurd e ho⟩
        dsimp only
        rw [hn, xk (by omega) (by omega)]
        exact S.cL _ (by omega)
      · rename_i g1 g2 g3
        have hpc : c.PC = 2 := by omega
        have n1 := h1 (by omega)
        have n2 := h2 (by omega)
        simp only [if_pos hk]
        refine ⟨S.swap h (by rw [hh]; exact hdd) _ (by rw [W4 _ n2.1 (by omega)]; exact n2.2), ?_⟩
        split
        · exact ⟨hk, hh, hn, fun e => absurd rfl e, fun _ => n1⟩
        · exact ⟨hk, hh, hn, fun _ _ => ⟨fun e => absurd e (by dsimp only; omega), fun e => absurd e (by dsimp only; omega)⟩, fun e => absurd e ho⟩
theorem zjl {p : zb} {nb : Nat} {s : za} (h : zr p) (S : SOk p nb s) {c : zp} {hd : Int} (hdd : hd = zN p ∨ hd = zv p) (hk : c.Kind = 1) (hh : c.Head = hd) (hn : c.Next = zv p) (hx : 1 ≤ c.X ∧ c.X < nb)
    (h1 : 1 ≤ c.PC → zT c.H < nb) :
    SOk p nb { s with M := (zl s.M c).1 } ∧ (zl s.M c).2.Kind = 1 ∧ (zl s.M c).2.Head = hd ∧ (zl s.M c).2.Next = zv p ∧ (1 ≤ (zl s.M c).2.X ∧ (zl s.M c).2.X < nb) ∧
    (1 ≤ (zl s.M c).2.PC → zT (zl s.M c).2.H < nb) := by
  have hnb := S.nbk
  have hE := yM h
  have hF := wC h
  have hk2 : ¬ c.Kind = 2 := by omega
  unfold zl
  split
  · exact ⟨S, hk, hh, hn, hx, h1⟩
  · split
    · rw [if_neg (fun e => hk2 e.1), hh]
      exact ⟨S, hk, rfl, hn, hx, fun _ => hdd.elim (fun e => by dsimp only; rw [e]; exact S.cF) (fun e => by dsimp only; rw [e]; exact S.cE)⟩
    · split
      · try rw [if_neg hk2]
        have hpc : 1 ≤ c.PC := by omega
        have n1 := h1 hpc
        have n2 := zdh c.H
        refine ⟨?_, hk, hh, hn, hx, fun _ => n1⟩
        dsimp only
        rw [hn, xk (by omega) (by omega)]
        exact S.link h (by omega) (by rw [toInt_ofInt (by omega) (by omega)]; omega)
      · have n1 := h1 (by omega)
        simp only [if_neg hk2]
        refine ⟨S.swap h (by rw [hh]; exact hdd) _ (by rw [W4 _ (by omega) (by omega)]; exact hx.2), ?_⟩
        split
        · exact ⟨hk, hh, hn, hx, fun _ => n1⟩
        · exact ⟨hk, hh, hn, hx, fun _ => n1⟩
theorem MOk.ask {p : zb} {nb : Nat} {g : zd} (hw : g.Mode = 1 → 1 ≤ g.Who ∧ g.Who ≤ p.Workers) : MOk p nb (Y2 p g) :=
  ⟨hw, fun e => (by cases e), fun _ => ⟨rfl, rfl, rfl, fun e => absurd e (show ¬ (1 : Int) ≤ 0 by decide), fun e => absurd e (show ¬ (2 : Int) ≤ 0 by decide)⟩, fun e => (by cases e), fun e => (by cases e)⟩
theorem zbH {p : zb} {nb : Nat} {s : za} {g : zd} (h : zr p) (S : SOk p nb s) (M : MOk p nb g) (hout : g.PC = 5 → g.C.Out ≠ 1) : SOk p nb (zm s g).1 ∧ MOk p nb (zm s g).2 ∧ ((zm s g).2.PC = 5 → (zm s g).2.C.Out ≠ 1) := by
  have hP := S.P
  unfold zm
  split
  · exact ⟨S, M, hout⟩
  split
  · rename_i h7
    obtain ⟨a1, a2, a3, a4, a5⟩ := M.c7 h7
    obtain ⟨b1, b2, b3, b4, b5, b6⟩ := zjl h S (.inl rfl) a1 a2 a3 a4 a5
    unfold uU
    refine ⟨b1, ?_, ?_⟩
    · dsimp only
      split <;> exact ⟨M.who, fun e => (by dsimp only at e; omega), fun e => (by dsimp only at e; omega), fun e => (by dsimp only at e; omega), fun _ => ⟨b2, b3, b4, b5, b6⟩⟩
    · dsimp only
      split <;> exact fun e => by dsimp only at e; omega
  split
  · rename_i h6
    obtain ⟨a1, a2⟩ := M.b6 h6
    unfold zc8
    refine ⟨⟨hP, by simp only [List.length_set]; exact S.bins, S.nbk, S.mem, S.cF, S.cE, S.cL⟩, ⟨M.who, fun e => (by cases e), fun e => (by cases e), fun e => (by cases e), fun _ => ⟨rfl, by rw [hP], by rw [hP], ⟨a1, a2⟩, fun e => absurd e (show ¬ (1 : Int) ≤ 0 by decide)⟩⟩, fun e => by cases e⟩
  split
  · rename_i h5
    obtain ⟨a1, a2, a3, a4, a5⟩ := M.c5 h5
    obtain ⟨b1, b2, b3, b4, b5, b6⟩ := ziQ h S (.inr rfl) a1 a2 a3 a4 a5 (hout h5)
    unfold XP
    refine ⟨b1, ?_, ?_⟩
    · dsimp only
      split
      · rename_i e1
        exact ⟨M.who, fun e => (by cases e), fun e => (by cases e), fun _ => b6 e1, fun e => (by cases e)⟩
      · split
        · rw [hP]; exact MOk.ask M.who
        · rename_i e1 e2
          exact ⟨M.who, fun e => (by dsimp only at e; omega), fun _ => ⟨b2, b3, b4, b5 e1 e2⟩, fun e => (by dsimp only at e; omega), fun e => (by dsimp only at e; omega)⟩
    · dsimp only
      split
      · exact fun e => by cases e
      · split
        · exact fun _ e => by cases e
        · rename_i e1 e2; exact fun _ => e1
  split
  · rw [hP]
    exact ⟨⟨rfl, S.bins, S.nbk, S.mem, S.cF, S.cE, S.cL⟩, MOk.ask M.who, fun _ e => by cases e⟩
  split
  · rename_i h3
    obtain ⟨a1, a2, a3, a4⟩ := M.d3 h3
    have hw := M.who a4
    obtain ⟨d1, d2, d3⟩ := vz h hw.1 hw.2
    have hc := h.cap
    have hf := wC h
    have hs : SOk p nb { s with M := (z7 s.M g.D).1 } := by
      unfold z7
      split
      · exact S
      split
      · exact S
      split
      · exact S
      split
      · have := zhC h hw.1 hw.2 a2 a3 g.D.B
        exact S.low h (by omega) _
      · dsimp only
        rw [xk (by omega) (by omega)]
        exact S.low h (by omega) _
    have hd : (z7 s.M g.D).2.Kind = 1 ∧ (z7 s.M g.D).2.Base = zB p g.Who ∧ (z7 s.M g.D).2.Cap = p.Cap := by
      unfold z7
      split
      · exact ⟨a1, a2, a3⟩
      split
      · exact ⟨a1, a2, a3⟩
      split
      · dsimp only
        split <;> exact ⟨a1, a2, a3⟩
      split <;> exact ⟨a1, a2, a3⟩
    unfold XS
    refine ⟨hs, ?_, ?_⟩
    · dsimp only
      split
      · exact ⟨M.who, fun _ => ⟨hd.1, hd.2.1, hd.2.2, a4⟩, fun e => (by dsimp only at e; omega), fun e => (by dsimp only at e; omega), fun e => (by dsimp only at e; omega)⟩
      · split
        · rw [hP]; exact MOk.ask M.who
        · exact ⟨M.who, fun _ => ⟨hd.1, hd.2.1, hd.2.2, a4⟩, fun e => (by dsimp only at e; omega), fun e => (by dsimp only at e; omega), fun e => (by dsimp only at e; omega)⟩
    · dsimp only
      split
      · exact fun e => by dsimp only at e; omega
      · split
        · exact fun _ e => by cases e
        · exact fun e => by dsimp only at e; omega
  split
  · rename_i h2
    exact ⟨⟨hP, S.bins, S.nbk, S.mem, S.cF, S.cE, S.cL⟩, ⟨M.who, fun e => (by dsimp only at e; omega), fun e => (by dsimp only at e; omega), fun e => (by dsimp only at e; omega), fun e => (by dsimp only at e; omega)⟩, fun e => by dsimp only at e; omega⟩
  split
  · unfold UR
    refine ⟨⟨hP, S.bins, S.nbk, S.mem, S.cF, S.cE, S.cL⟩, ?_, ?_⟩
    · dsimp only
      split
      · exact ⟨M.who, fun e => (by cases e), fun e => (by cases e), fun e => (by cases e), fun e => (by cases e)⟩
      split
      · exact ⟨M.who, fun _ => ⟨rfl, by rw [hP], by rw [hP], by assumption⟩, fun e => (by cases e), fun e => (by cases e), fun e => (by cases e)⟩
      split
      · exact ⟨M.who, fun e => (by cases e), fun e => (by cases e), fun e => (by cases e), fun e => (by cases e)⟩
      · rw [hP]; exact MOk.ask M.who
    · dsimp only
      split
      · exact fun e => by cases e
      split
      · exact fun e => by cases e
      split
      · exact fun e => by cases e
      · exact fun _ e => by cases e
  · exact ⟨⟨hP, S.bins, S.nbk, S.mem, S.cF, S.cE, S.cL⟩, ⟨M.who, fun e => (by cases e), fun e => (by cases e), fun e => (by cases e), fun e => (by cases e)⟩, fun e => by cases e⟩
theorem ZI (s : za) (g : zd) : (zm s g).2.Obj = g.Obj ∧ (zm s g).2.Who = g.Who ∧ (zm s g).2.Mode = g.Mode := by
  unfold zm
  split
  · exact ⟨rfl, rfl, rfl⟩
  split
  · unfold uU; dsimp only; split <;> exact ⟨rfl, rfl, rfl⟩
  split
  · exact ⟨rfl, rfl, rfl⟩
  split
  · unfold XP; dsimp only
    split
    · exact ⟨rfl, rfl, rfl⟩
    · split <;> exact ⟨rfl, rfl, rfl⟩
  split
  · exact ⟨rfl, rfl, rfl⟩
  split
  · unfold XS; dsimp only
    split
    · exact ⟨rfl, rfl, rfl⟩
    · split <;> exact ⟨rfl, rfl, rfl⟩
  split
  · exact ⟨rfl, rfl, rfl⟩
  split
  · unfold UR; dsimp only
    split
    · exact ⟨rfl, rfl, rfl⟩
    split
    · exact ⟨rfl, rfl, rfl⟩
    split <;> exact ⟨rfl, rfl, rfl⟩
  · exact ⟨rfl, rfl, rfl⟩
end
end Go.Pe.G
namespace Go.Pe.G
open Go.Pe
noncomputable section
def OkV (nb : Nat) (v : BitVec 64) : Prop := zT v < nb ∧ 0 ≤ v.toInt ∧ v.toInt < nb
theorem zmV {nb : Nat} (h : 1 ≤ nb) : OkV nb 0#64 := by
  refine ⟨by rw [zc1]; simp; omega, by simp, by simp; omega⟩
theorem zkt {nb : Nat} {b : Int} (h : 0 ≤ b) (h2 : b < nb) (h3 : nb < 1000) : OkV nb (BitVec.ofInt 64 b) := by
  have e : (BitVec.ofInt 64 b).toNat = b.toNat := by rw [BitVec.toNat_ofInt]; omega
  refine ⟨by rw [zc1, e]; omega, ?_⟩
  rw [toInt_ofInt h (by omega)]
  omega
theorem zkz {b : Int} (h : 0 ≤ b) (h2 : b < 4294967296) : yh 0#64 b = BitVec.ofInt 64 b := by
  have e : (BitVec.ofInt 64 b).toNat = b.toNat := by rw [BitVec.toNat_ofInt]; omega
  apply BitVec.eq_of_toNat_eq
  unfold yh
  rw [BitVec.toNat_or, BitVec.toNat_and, e]
  have : b.toNat &&& (4294967295#64).toNat = b.toNat := (Nat.and_two_pow_sub_one_eq_mod b.toNat 32).trans (Nat.mod_eq_of_lt (by omega))
  rw [this]
  simp
def uW (F : Int) (nb : Nat) (m : List (BitVec 64)) : Prop := ∀ a, F ≤ a → OkV nb (ld m a)
theorem uW.st {F : Int} {nb : Nat} {m : List (BitVec 64)} (h : uW F nb m) (a : Int) {v : BitVec 64} (hv : OkV nb v) : uW F nb (st m a v) := fun b hb => by
  rw [u7]
  split
  · exact hv
  · exact h b hb
theorem uW.links {F : Int} {nb : Nat} (h1 : 1 ≤ nb) (h3 : nb < 1000) : ∀ (l : List Int) (m : List (BitVec 64)) (n : Int), (∀ b ∈ l, 0 ≤ b ∧ b < nb) → uW F nb m → uW F nb (links m n l)
  | [], m, n, _, h => h
  | [a], m, n, _, h => h.st _ (zmV h1)
  | a :: b :: l, m, n, hb, h => uW.links h1 h3 (b :: l) _ n (fun x hx => hb x (List.mem_cons_of_mem _ hx)) (h.st _ (zkt (hb b (by simp)).1 (hb b (by simp)).2 h3))
theorem uW.lay {F : Int} {nb : Nat} (h1 : 1 ≤ nb) (h3 : nb < 1000) {l : List Int} {m : List (BitVec 64)} {hd n : Int} (hb : ∀ b ∈ l, 0 ≤ b ∧ b < nb) (h : uW F nb m) : uW F nb (WS m hd n l) := by
  unfold WS
  refine (uW.links h1 h3 l m n hb h).st _ ?_
  cases l with
  | nil => rw [List.headD_nil, zkz (by omega) (by omega)]; exact zkt (by omega) (by omega) h3
  | cons a r =>
    have := hb a (by simp)
    rw [List.headD_cons, zkz this.1 (by omega)]
    exact zkt this.1 this.2 h3
theorem Uh {k : Nat} {b : Int} (h : b ∈ yt k) : 1 ≤ b ∧ b ≤ k := by
  unfold yt at h
  obtain ⟨i, hi, rfl⟩ := List.mem_map.1 h
  have := List.mem_range.1 hi
  omega
theorem WQ {p : zb} (h : zr p) : (zF p : Int) = p.Most + p.Workers + p.Mutators ∧ 2 ≤ zF p ∧ zF p ≤ 14 := by
  have := h.most
  have := h.n
  have := h.wk
  have := h.mt
  unfold zF
  omega
theorem zd4 {p : zb} (h : zr p) : SOk p (zF p + 1) (z8 p) := by
  have hb := WQ h
  have hf := zeC h
  have hn := h.n
  have hw := h.wk
  have hc := h.cap
  have hmo := h.most
  have hF := wC h
  have hE := yM h
  have hcl := Yy p p.Workers.toNat
  have hfe : zN p = ((p.Workers.toNat * (p.Cap.toNat + 2) : Nat) : Int) := by
    rw [hF.1]
    have e1 : p.Workers = ((p.Workers.toNat : Nat) : Int) := by omega
    have e2 : p.Cap + 2 = ((p.Cap.toNat + 2 : Nat) : Int) := by omega
    rw [e2, Int.natCast_mul]
    rw [← e1]
  have h0 : uW (zN p) (zF p + 1) (vG p p.Workers.toNat ++ List.replicate (2 + zF p) 0#64) := by
    intro a ha
    have : ld (vG p p.Workers.toNat ++ List.replicate (2 + zF p) 0#64) a = 0#64 := by
      unfold ld
      rw [if_pos (by omega), List.getD_eq_getElem?_getD, List.getElem?_append_right (by omega), List.getElem?_replicate]
      split <;> rfl
    rw [this]
    exact zmV (by omega)
  have h1 : uW (zN p) (zF p + 1) (z8 p).M := by
    refine uW.lay (by omega) (by omega) (fun b hb' => ?_) (uW.lay (by omega) (by omega) (fun b hb' => ?_) h0)
    · have := Uh (List.mem_of_mem_drop hb'); omega
    · have := Uh (List.mem_of_mem_take hb'); omega
  have hlen : (z8 p).M.length = p.Workers.toNat * (p.Cap.toNat + 2) + (2 + zF p) := by
    show (WS _ _ _ _).length = _
    rw [zhs, zhs, List.length_append, hcl, List.length_replicate]
  refine ⟨rfl, ?_, by omega, by rw [hlen]; omega, (h1 _ (by omega)).1, (h1 _ (by omega)).1, fun a ha => (h1 a (by omega)).2⟩
  have hd : (z8 p).Bins.length = 1 + (yi p).length + (zF p - (yi p).length) := by
    show ([[]] ++ yi p ++ List.replicate (zF p - (yi p).length) ([] : List Int)).length = _
    rw [List.length_append, List.length_append, List.length_replicate]; rfl
  have h2 := hb.1
  have hmt := h.mt
  rw [hd]
  omega
def yX (mode obj who : Int) : zd := ⟨0, mode, obj, who, ⟨0, 0, 0, 0, 0#64, 0#64, 0, 0⟩, ⟨0, 0, 0, 0, 0#64, 0, 0, 0⟩, 0, 0⟩
theorem zfg (a b c : Int) : w8 a b c = some (yX a b c, ()) := by rw [zib]; rfl
end
end Go.Pe.G
namespace Go.Pe.G
open Go.Pe
noncomputable section
namespace B14
structure RG (p : zb) (nb : Nat) (s : za) (g : zd) : Prop where
  S : SOk p nb s
  M : MOk p nb g
  o : g.PC = 5 → g.C.Out ≠ 1
theorem RG.step {p : zb} {nb : Nat} {s : za} {g : zd} (h : zr p) (r : RG p nb s g) : RG p nb (zm s g).1 (zm s g).2 := by
  obtain ⟨a, b, c⟩ := zbH h r.S r.M r.o
  exact ⟨a, b, c⟩
def wW : Nat → za → zd → za × zd × Nat
  | 0, s, g => (s, g, 0)
  | k + 1, s, g => if g.Out = 0 then ((wW k (zm s g).1 (zm s g).2).1, (wW k (zm s g).1 (zm s g).2).2.1, (wW k (zm s g).1 (zm s g).2).2.2 + 1) else (s, g, 0)
theorem zrE {p : zb} {nb : Nat} (h : zr p) : ∀ (k : Nat) {s : za} {g : zd}, RG p nb s g → RG p nb (wW k s g).1 (wW k s g).2.1
  | 0, s, g, r => r
  | k + 1, s, g, r => by
    unfold wW
    split
    · exact zrE h k (r.step h)
    · exact r
theorem zlZ {p : zb} {nb : Nat} (h : zr p) {most : Int} (hm : most < 1000000) {s5 : Int} {s6 : Int} {s7 : Int} {s8 : Int} {s9 : Int} {s10 : Int} {s11 : Int} {s12 : Int} {s13 : Int} {s14 : BitVec 64} {s15 : Int} {s16 : zo} {s17 : Int} {s18 : Int} {s19 : Bool} {s20 : Bool} {s21 : Int} {s22 : Int} {s23 : Int} {s24 : Int} {s25 : zn} {s26 : zd} {s27 : List (List Int)} {s28 : List (List Int)} {s29 : List (List zj)} {s30 : List zk} {s31 : List (List Int)} {s32 : List (BitVec 64)} {s33 : List (List Int)} {s34 : List Int} {s35 : List Int} {s36 : List zi} {s37 : List ze} : ∀ (k : Nat) (s : za) (g : zd) (i : Nat), (most - (i : Int)).toNat = k → RG p nb s g →
    ∀ n, k < n → xl YV n (most, (i : Int), s, g, s5, s6, s7, s8, s9, s10, s11, s12, s13, s14, s15, s16, s17, s18, s19, s20, s21, s22, s23, s24, s25, s26, s27, s28, s29, s30, s31, s32, s33, s34, s35, s36, s37, ()) = some (.brk (((i : Int) + ((wW k s g).2.2 : Int)), (wW k s g).1, (wW k s g).2.1, s5, s6, s7, s8, s9, s10, s11, s12, s13, s14, s15, s16, s17, s18, s19, s20, s21, s22, s23, s24, s25, s26, s27, s28, s29, s30, s31, s32, s33, s34, s35, s36, s37, ()))
  | 0, s, g, i, hk, r, n + 1, hn => by
    simp only [xl]
    rw [Wx, zt, if_neg (by omega)]
    simp [wW]
  | k + 1, s, g, i, hk, r, n + 1, hn => by
    simp only [xl]
    rw [Wx, zt, if_pos (by omega), zt]
    by_cases ho : g.Out = 0
    · rw [if_pos ho, zde (r.S.gok h r.M), Option.bind_some, wu (by omega)]
      simp only [Option.bind_some]
      rw [zlZ h hm k _ _ (i + 1) (by omega) (r.step h) n (by omega)]
      simp only [wW, if_pos ho]
      have e : (((i + 1 : Nat) : Int) + ((wW k (zm s g).1 (zm s g).2).2.2 : Int)) = ((i : Int) + (((wW k (zm s g).1 (zm s g).2).2.2 + 1 : Nat) : Int)) := by omega
      rw [e]
    · rw [if_neg ho]
      simp [wW, ho]
theorem zlV {p : zb} {nb : Nat} (h : zr p) {s : za} {g : zd} (r : RG p nb s g) {k : Nat} (hk : k < 1000000) :
    yU s g (k : Int) = some ((wW k s g).1, (wW k s g).2.1, ((wW k s g).2.2 : Int), ()) := by
  have e := zlZ (most := (k : Int)) (s5 := 0) (s6 := 0) (s7 := 0) (s8 := 0) (s9 := 0) (s10 := 0) (s11 := 0) (s12 := 0) (s13 := 0) (s14 := 0#64) (s15 := 0) (s16 := zo.mk 0#64 0#64) (s17 := 0) (s18 := 0) (s19 := false) (s20 := false) (s21 := 0) (s22 := 0) (s23 := 0) (s24 := 0) (s25 := zn.mk 0 0)
    (s26 := zd.mk 0 0 0 0 (zg.mk 0 0 0 0 0#64 0#64 0 0) (zp.mk 0 0 0 0 0#64 0 0 0) 0 0) (s27 := []) (s28 := []) (s29 := []) (s30 := []) (s31 := []) (s32 := []) (s33 := []) (s34 := []) (s35 := []) (s36 := []) (s37 := []) h (by omega) k s g 0 (by omega) r uj (yQ (by omega))
  rw [show ((0 : Nat) : Int) = 0 from rfl, Int.zero_add] at e
  rw [zfy, ZE, e]
  rfl
theorem ze4 {p : zb} {nb : Nat} {s : za} (S : SOk p nb s) {mode obj who : Int} (hw : 1 ≤ who ∧ who ≤ p.Workers) : RG p nb s (yX mode obj who) :=
  ⟨S, ⟨fun _ => hw, fun e => (by cases e), fun e => (by cases e), fun e => (by cases e), fun e => (by cases e)⟩, fun e => by cases e⟩
structure zls (p : zb) (g : zd) : Prop where
  is : g = yX g.Mode g.Obj g.Who
  mode : 1 ≤ g.Mode ∧ g.Mode ≤ 3
  obj : 1 ≤ g.Obj ∧ g.Obj ≤ (p.H.Objs.length : Int)
  who : 1 ≤ g.Who ∧ g.Who ≤ p.Workers
theorem ziA (a : ya) {p : zb} (h : zr p) : ∃ g, xV a p = some (g, ()) ∧ zls p g ∧ g.Mode = 1 + ((a.Mode % 3#8).toNat : Int) := by
  have hn := h.n
  have hw := h.wk
  have h1 : (a.Mode % 3#8).toNat < 3 := by rw [BitVec.toNat_umod]; exact Nat.mod_lt _ (by decide)
  have t1 := xj (show (0 : Int) ≤ (a.Obj.toNat : Int) by omega) (show (0 : Int) < (p.H.Objs.length : Int) by omega)
  have t2 := xj (show (0 : Int) ≤ (a.Who.toNat : Int) by omega) (show (0 : Int) < p.Workers by omega)
  rw [zaY, zt, if_neg (by omega), zt, if_neg (by omega), yo (by omega) (by omega), yo (by omega) (by omega), yo (by omega) (by omega), zfg]
  exact ⟨_, rfl, ⟨rfl, show 1 ≤ 1 + ((a.Mode % 3#8).toNat : Int) ∧ 1 + ((a.Mode % 3#8).toNat : Int) ≤ 3 by omega, show 1 ≤ 1 + (a.Obj.toNat : Int).tmod (p.H.Objs.length : Int) ∧ 1 + (a.Obj.toNat : Int).tmod (p.H.Objs.length : Int) ≤ _ by omega, show 1 ≤ 1 + (a.Who.toNat : Int).tmod p.Workers ∧ 1 + (a.Who.toNat : Int).tmod p.Workers ≤ _ by omega⟩, rfl⟩
end B14
end
end Go.Pe.G
namespace Go.Pe.G
open Go.Pe
noncomputable section
def zbg (m : List (BitVec 64)) (d : zg) : List (BitVec 64) × zg :=
  if d.PC < 0 ∨ 7 ≤ d.PC then (m, d)
  else if d.PC = 0 then (m, { d with B := ld m (wc (d.Base + 1)), PC := 1 })
  else if d.PC = 1 then (st m (wc (d.Base + 1)) (d.B - 1#64), { d with PC := 2 })
  else if d.PC = 2 then (m, { d with T := ld m d.Base, PC := if 0 < (ld m d.Base - (d.B - 1#64)).toInt then 5 else 3 })
  else if d.PC = 3 then (m, { d with X := (ld m (vH d (d.B - 1#64))).toInt, PC := 4, Out := if d.T = d.B - 1#64 then d.Out else 1 })
  else if d.PC = 4 then ((sw m d.Base d.T (d.T + 1#64)).1, { d with PC := if (sw m d.Base d.T (d.T + 1#64)).2 then 6 else 5 })
  else if d.PC = 5 then (st m (wc (d.Base + 1)) d.B, { d with X := 0, Out := 2, PC := 6 })
  else (st m (wc (d.Base + 1)) d.B, { d with Out := 1, PC := 7 })
def XA (m : List (BitVec 64)) (d : zg) : List (BitVec 64) × zg :=
  if d.PC < 0 ∨ 4 ≤ d.PC then (m, d)
  else if d.PC = 0 then (m, { d with T := ld m d.Base, PC := 1 })
  else if d.PC = 1 then (m, { d with B := ld m (wc (d.Base + 1)), PC := 2, Out := if 0 < (ld m (wc (d.Base + 1)) - d.T).toInt then d.Out else 2 })
  else if d.PC = 2 then (m, { d with X := (ld m (vH d d.T)).toInt, PC := 3 })
  else ((sw m d.Base d.T (d.T + 1#64)).1, if (sw m d.Base d.T (d.T + 1#64)).2 then { d with Out := 1, PC := 4 } else { d with X := 0, Out := 4, PC := 4 })
def zK (m : List (BitVec 64)) (d : zg) : List (BitVec 64) × zg :=
  if d.Out ≠ 0 then (m, d) else if d.Kind = 1 then z7 m d else if d.Kind = 2 then zbg m d else if d.Kind = 3 then XA m d else (m, d)
theorem znx {m : List (BitVec 64)} {d : zg} (h : d.Kind = 1) : zK m d = z7 m d := by
  unfold zK
  by_cases h0 : d.Out ≠ 0
  · rw [if_pos h0]; unfold z7; rw [if_pos (.inl h0)]
  · rw [if_neg h0, if_pos h]
theorem znM {α : Type} {x y : Option α} {v : α} (h : x = some v) : Option.or x y = some v := by subst h; rfl
theorem zbF {α : Type} {x y z : Option α} (h : x = none) (h2 : y = z) : Option.or x y = z := by subst h; exact h2
theorem zqE : wc 1 = 1 ∧ wc 2 = 2 ∧ wc 3 = 3 ∧ wc 4 = 4 ∧ wc 5 = 5 ∧ wc 6 = 6 ∧ wc 7 = 7 := by decide
theorem zo9 : w64 5 = 5 ∧ w64 6 = 6 ∧ w64 7 = 7 := by
  refine ⟨?_, ?_, ?_⟩ <;> exact yo (by omega) (by omega)
theorem zs0 {m : List (BitVec 64)} (hm : m.length < 4294967296) {d : zg} (hc : d.Cap < 1000) : VB m d = some ((zK m d).1, (zK m d).2, ()) := by
  by_cases k1 : d.Kind = 1
  · rw [znx k1]; exact zdq hm k1 hc
  obtain ⟨w0, w1, w2, w3, w4⟩ := zmL
  obtain ⟨w5, w6, w7⟩ := zo9
  obtain ⟨v1, v2, v3, v4, v5, v6, v7⟩ := zqE
  have hsb : ∀ d : zg, yZ m d = some (m, { d with B := ld m (wc (d.Base + 1)) }, ()) := fun d => by
    rw [Zb, yz, vJ, Option.bind_some, Zr]; rfl
  have htk : ∀ d : zg, uz m d = some ((sw m d.Base d.T (d.T + 1#64)).1, (sw m d.Base d.T (d.T + 1#64)).2, ()) := fun d => by
    obtain ⟨v, hv⟩ := zjx hm d.Base d.T (d.T + 1#64)
    rw [zcN, vC, Option.bind_some, hv]; rfl
  rw [zdf, za3, zgS, zgP, zgZ]
  simp only [zt, yR, if_neg k1]
  unfold zK
  by_cases k2 : d.Kind = 2
  · refine zbF (by simp [k2]) (znM ?_)
    rw [if_pos k2, Option.bind_some]
    by_cases g0 : d.Out = 0
    rotate_left
    · rw [if_neg g0, if_pos (show d.Out ≠ 0 from g0)]
    rw [if_pos g0, if_neg (show ¬ (d.Out ≠ 0) from fun e => e g0), if_neg k1, if_pos k2]
    unfold zbg
    by_cases g1 : d.PC < 0
    · rw [if_pos g1, if_pos (.inl g1)]
    rw [if_neg g1]
    by_cases g2 : 7 ≤ d.PC
    · rw [if_pos g2, if_pos (.inr g2)]
    rw [if_neg g2, if_neg (show ¬ (d.PC < 0 ∨ 7 ≤ d.PC) by omega)]
    have hpc : d.PC = 0 ∨ d.PC = 1 ∨ d.PC = 2 ∨ d.PC = 3 ∨ d.PC = 4 ∨ d.PC = 5 ∨ d.PC = 6 := by omega
    rcases hpc with h | h | h | h | h | h | h
    · simp [h, hsb, w1]
    · simp [h, zcE, yz, vJ, Wl hm, v1, v2, v3, v4, v5, v6, v7]
    · rw [h, if_neg (by decide), if_neg (by decide), if_neg (by decide), if_neg (by decide), if_pos rfl, if_neg (by decide), if_neg (by decide), if_pos rfl]
      simp only [UN, vC, Option.bind_some, Zr, zbO, zt]
      by_cases hs : 0 < (ld m d.Base - (d.B - 1#64)).toInt
      · simp only [if_pos hs, Option.bind_some, Int.reduceAdd, w5]
      · simp only [if_neg hs, Option.bind_some, h, Int.reduceAdd, w3]
    · simp only [h, zbe, zdO hc, Option.bind_some, Zr, yR, yW]
      by_cases hs : d.T = d.B - 1#64
      · simp [hs, w4, h]
      · simp [hs, w4, h]
    · simp only [h, zaW, htk, Option.bind_some]
      cases hs : (sw m d.Base d.T (d.T + 1#64)).2 with
      | true => simp [hs, w6, h]
      | false => simp [hs, w5, h]
    · simp [h, zaE, yW, k1, yz, vJ, Wl hm, v1, v2, v3, v4, v5, v6, v7]
    · simp [h, zbp, yW, yz, vJ, Wl hm, v1, v2, v3, v4, v5, v6, v7]
  by_cases k3 : d.Kind = 3
  · refine zbF (by simp [k2, k3]) (zbF (by simp [k2, k3]) (znM ?_))
    rw [if_neg k2, if_pos k3, Option.bind_some]
    by_cases g0 : d.Out = 0
    rotate_left
    · rw [if_neg g0, if_pos (show d.Out ≠ 0 from g0)]
    rw [if_pos g0, if_neg (show ¬ (d.Out ≠ 0) from fun e => e g0), if_neg k1, if_neg k2, if_pos k3]
    unfold XA
    by_cases g1 : d.PC < 0
    · rw [if_pos g1, if_pos (.inl g1)]
    rw [if_neg g1]
    by_cases g2 : 4 ≤ d.PC
    · rw [if_pos g2, if_pos (.inr g2)]
    rw [if_neg g2, if_neg (show ¬ (d.PC < 0 ∨ 4 ≤ d.PC) by omega)]
    have hpc : d.PC = 0 ∨ d.PC = 1 ∨ d.PC = 2 ∨ d.PC = 3 := by omega
    rcases hpc with h | h | h | h
    · simp [h, zbt, vC, Zr, w1]
    · rw [h, if_neg (by decide), if_neg (by decide), if_pos rfl, if_neg (by decide), if_pos rfl]
      simp only [zbb, yz, Option.bind_some, Zr, zbO, yR, vJ]
      by_cases hs : 0 < (ld m (wc (d.Base + 1)) - d.T).toInt
      · simp only [if_pos hs, Option.bind_some, Int.reduceAdd, v2, h]
      · simp only [if_neg hs, Option.bind_some, Int.reduceAdd, v2, h]
    · simp [h, zaK, zdO hc, Zr, w3]
    · simp only [h, UC, htk, Option.bind_some, yW]
      cases hs : (sw m d.Base d.T (d.T + 1#64)).2 with
      | true => simp [hs, w4, h]
      | false => simp [hs, w4, h, k1]
  · refine zbF (by simp [k2, k3]) (zbF (by simp [k2, k3]) (zbF (by simp [k2, k3]) ?_))
    rw [if_neg k2, if_neg k3, Option.bind_some]
    by_cases g0 : d.Out = 0
    · simp [g0, k1, k2, k3]
    · simp [g0]
theorem zoR (m : List (BitVec 64)) (d : zg) : (zbg m d).1.length = m.length ∧ (zbg m d).2.Kind = d.Kind ∧ (zbg m d).2.Base = d.Base ∧ (zbg m d).2.Cap = d.Cap := by
  unfold zbg sw st
  split
  · exact ⟨rfl, rfl, rfl, rfl⟩
  split
  · exact ⟨rfl, rfl, rfl, rfl⟩
  split
  · refine ⟨?_, rfl, rfl, rfl⟩; dsimp only; split <;> simp
  split
  · exact ⟨rfl, rfl, rfl, rfl⟩
  split
  · exact ⟨rfl, rfl, rfl, rfl⟩
  split
  · refine ⟨?_, rfl, rfl, rfl⟩; dsimp only; split <;> (try split) <;> simp
  split <;> (refine ⟨?_, rfl, rfl, rfl⟩; dsimp only; split <;> simp)
theorem zlJ (m : List (BitVec 64)) (d : zg) : (XA m d).1.length = m.length ∧ (XA m d).2.Kind = d.Kind ∧ (XA m d).2.Base = d.Base ∧ (XA m d).2.Cap = d.Cap := by
  unfold XA sw st
  split
  · exact ⟨rfl, rfl, rfl, rfl⟩
  split
  · exact ⟨rfl, rfl, rfl, rfl⟩
  split
  · exact ⟨rfl, rfl, rfl, rfl⟩
  split
  · exact ⟨rfl, rfl, rfl, rfl⟩
  · refine ⟨?_, ?_, ?_, ?_⟩ <;> dsimp only <;> split <;> (try split) <;> simp
end
end Go.Pe.G
namespace Go.Pe.G
open Go.Pe
noncomputable section
def yV (h : zG) (o : Int) : List Int := h.Objs.getD (o - 1).toNat []
def zkv (h : zG) (o s : Int) : Bool := decide (1 ≤ o) && decide (o ≤ (h.Objs.length : Int)) && decide (0 ≤ s) && decide (s < ((yV h o).length : Int))
def we (h : zG) (o s : Int) : Int := if zkv h o s then (yV h o).getD s.toNat 0 else 0
def yn (s : BitVec 64) (o : Int) : Bool := !(decide (s &&& bit o = 0#64))
def wP (t : zo) (o : Int) : Int := if yn (t.Marks &&& t.Black) o then 2 else if yn t.Marks o then 1 else 0
def U6 (t : zo) (o : Int) : zo := if wP t o = 1 then { t with Black := t.Black ||| bit o } else t
def zlu (l : zA) (who : Int) : zA :=
  if 1 ≤ who ∧ who ≤ (l.Bal.length : Int) then { l with Scanned := wc (l.Scanned + 1), Bal := l.Bal.set (who - 1).toNat (wc (l.Bal.getD (who - 1).toNat 0 + 1)) }
  else { l with Scanned := wc (l.Scanned + 1), Pool := wc (l.Pool + 1) }
def U9 (s : za) (b : Int) : List Int := s.Bins.getD b.toNat []
def zqK (p : zb) (h x : Int) : zp := ⟨2, 0, h, zv p, 0#64, x, 0, 0⟩
def zdo (p : zb) (h x : Int) : zp := ⟨1, 0, h, zv p, 0#64, x, 0, 0⟩
def onW (s : za) (slot : Int) : Int := if slot = s.H.Slots then 8 else 5
def Xp (p : zb) (w : Int) (x : zi) : zi := { x with PC := 0, Victim := w, D := ⟨2, 0, zB p w, p.Cap, 0#64, 0#64, 0, 0⟩ }
def zgK (n v : Int) : Int := if v < n then v + 1 else 1
def ZC (p : zb) (w : Int) (x : zi) : zi :=
  if zgK p.Workers x.Victim = w then { x with PC := 2, Victim := w, C := zqK p (zN p) 0 }
  else { x with PC := 1, Victim := zgK p.Workers x.Victim, D := ⟨3, 0, zB p (zgK p.Workers x.Victim), p.Cap, 0#64, 0#64, 0, 0⟩ }
def zC (s : za) (w : Int) (x : zi) : za × zi :=
  if x.PC = 0 ∨ x.PC = 1 then
    ({ s with M := (zK s.M x.D).1 },
      if (zK s.M x.D).2.Out = 1 then { x with D := (zK s.M x.D).2, Victim := w, PC := 5, Obj := (zK s.M x.D).2.X, Slot := 0 }
      else if (zK s.M x.D).2.Out = 2 ∨ (zK s.M x.D).2.Out = 4 then ZC s.P w { x with D := (zK s.M x.D).2 } else { x with D := (zK s.M x.D).2 })
  else if x.PC = 2 then
    ({ s with M := (zl s.M x.C).1 },
      if (zl s.M x.C).2.Out = 1 then { x with C := (zl s.M x.C).2, Bin := (zl s.M x.C).2.X, PC := 3 }
      else if (zl s.M x.C).2.Out = 2 then Xp s.P w { x with C := (zl s.M x.C).2 } else { x with C := (zl s.M x.C).2 })
  else if x.PC = 3 then ({ s with Bins := s.Bins.set x.Bin.toNat [] }, { x with Batch := U9 s x.Bin, PC := 4, C := zdo s.P (zv s.P) x.Bin })
  else if x.PC = 4 then
    ({ s with M := (zl s.M x.C).1 }, if (zl s.M x.C).2.Out = 1 then { x with C := (zl s.M x.C).2, Bin := 0, PC := 7 } else { x with C := (zl s.M x.C).2 })
  else if x.PC = 5 then
    (s, if we s.H x.Obj x.Slot = 0 then { x with Slot := wc (x.Slot + 1), PC := onW s (wc (x.Slot + 1)) } else { x with Slot := wc (x.Slot + 1), PC := 6, G := yX 1 (we s.H x.Obj x.Slot) w })
  else if x.PC = 6 then ((zm s x.G).1, if (zm s x.G).2.Out = 1 then { x with G := (zm s x.G).2, PC := onW s x.Slot } else { x with G := (zm s x.G).2 })
  else if x.PC = 7 then (s, match x.Batch with | [] => Xp s.P w x | o :: l => { x with Batch := l, PC := 5, Obj := o, Slot := 0 })
  else if x.PC = 8 then ({ s with T := U6 s.T x.Obj, L := zlu s.L 0 }, { x with PC := 9 })
  else if x.PC = 9 then ({ s with Work := wc (s.Work - 1) }, { x with Obj := 0, PC := 7 })
  else (s, x)
def ZA (s : za) (w : Int) : za :=
  if s.Done = true ∨ w < 1 ∨ (s.Ws.length : Int) < w then s
  else match s.Ws[(w - 1).toNat]? with
    | some x => { (zC s w x).1 with Ws := s.Ws.set (w - 1).toNat (zC s w x).2 }
    | none => s
structure zoE (p : zb) (nb : Nat) (hd : Int) (c : zp) : Prop where
  k : c.Kind = 2
  h : c.Head = hd
  n : c.Next = zv p
  v : 1 ≤ c.PC → 1 ≤ zT c.H ∧ zT c.H < nb
  y : 2 ≤ c.PC → 0 ≤ c.Y ∧ c.Y < nb
  o : c.Out ≠ 1
structure zmi (p : zb) (nb : Nat) (hd : Int) (c : zp) : Prop where
  k : c.Kind = 1
  h : c.Head = hd
  n : c.Next = zv p
  x : 1 ≤ c.X ∧ c.X < nb
  v : 1 ≤ c.PC → zT c.H < nb
theorem znE {p : zb} {nb : Nat} {hd x : Int} : zoE p nb hd (zqK p hd x) :=
  ⟨rfl, rfl, rfl, fun e => absurd e (by show ¬ (1 : Int) ≤ 0; decide), fun e => absurd e (by show ¬ (2 : Int) ≤ 0; decide), by show (0 : Int) ≠ 1; decide⟩
theorem zmj {p : zb} {nb : Nat} {hd x : Int} (h : 1 ≤ x ∧ x < nb) : zmi p nb hd (zdo p hd x) :=
  ⟨rfl, rfl, rfl, h, fun e => absurd e (by show ¬ (1 : Int) ≤ 0; decide)⟩
structure WOk (p : zb) (nb : Nat) (w : Int) (x : zi) : Prop where
  pc : 0 ≤ x.PC ∧ x.PC ≤ 9
  vic : 1 ≤ x.Victim ∧ x.Victim ≤ p.Workers
  d0 : x.PC = 0 → x.D.Kind = 2 ∧ x.D.Base = zB p w ∧ x.D.Cap = p.Cap
  d1 : x.PC = 1 → x.D.Kind = 3 ∧ x.D.Base = zB p x.Victim ∧ x.D.Cap = p.Cap
  c2 : x.PC = 2 → zoE p nb (zN p) x.C
  b3 : x.PC = 3 → 1 ≤ x.Bin ∧ x.Bin < nb
  c4 : x.PC = 4 → zmi p nb (zv p) x.C
  g6 : x.PC = 6 → MOk p nb x.G ∧ (x.G.PC = 5 → x.G.C.Out ≠ 1) ∧ x.G.Mode = 1 ∧ x.G.PC ≠ 4
theorem WOk.plain {p : zb} {nb : Nat} {w : Int} {x : zi} (pc : x.PC = 5 ∨ x.PC = 7 ∨ x.PC = 8 ∨ x.PC = 9) (vic : 1 ≤ x.Victim ∧ x.Victim ≤ p.Workers) : WOk p nb w x :=
  ⟨by omega, vic, fun e => by omega, fun e => by omega, fun e => by omega, fun e => by omega, fun e => by omega, fun e => by omega⟩
theorem SOk.swLow {p : zb} {nb : Nat} {s : za} (h : zr p) (S : SOk p nb s) {a : Int} (ha : a < zN p) (x v : BitVec 64) : SOk p nb { s with M := (sw s.M a x v).1 } := by
  unfold sw
  split
  · exact S.low h ha v
  · exact S
theorem zsT {p : zb} {nb : Nat} {s : za} (h : zr p) (S : SOk p nb s) {d : zg} {v : Int} (hv : 1 ≤ v ∧ v ≤ p.Workers) (hk : d.Kind = 2 ∨ d.Kind = 3) (hb : d.Base = zB p v) : SOk p nb { s with M := (zK s.M d).1 } := by
  have hd := vz h hv.1 hv.2
  have hc := h.cap
  have hf := wC h
  have e1 : wc (d.Base + 1) = d.Base + 1 := xk (by omega) (by omega)
  unfold zK
  split
  · exact S
  split
  · omega
  split
  · unfold zbg
    rw [e1]
    split
    · exact S
    split
    · exact S
    split
    · exact S.low h (by omega) _
    split
    · exact S
    split
    · exact S
    split
    · exact S.swLow h (by omega) _ _
    split <;> exact S.low h (by omega) _
  split
  · unfold XA
    split
    · exact S
    split
    · exact S
    split
    · exact S
    split
    · exact S
    · exact S.swLow h (by omega) _ _
  · exact S
theorem zdv (m : List (BitVec 64)) (d : zg) : (zK m d).1.length = m.length ∧ (zK m d).2.Kind = d.Kind ∧ (zK m d).2.Base = d.Base ∧ (zK m d).2.Cap = d.Cap := by
  unfold zK
  split
  · exact ⟨rfl, rfl, rfl, rfl⟩
  split
  · unfold z7
    split
    · exact ⟨rfl, rfl, rfl, rfl⟩
    split
    · exact ⟨rfl, rfl, rfl, rfl⟩
    split
    · refine ⟨rfl, ?_, ?_, ?_⟩ <;> dsimp only <;> split <;> rfl
    split <;> exact ⟨wS _ _ _, rfl, rfl, rfl⟩
  split
  · exact zoR m d
  split
  · exact zlJ m d
  · exact ⟨rfl, rfl, rfl, rfl⟩
theorem zqW {n v : Int} (h : 1 ≤ v ∧ v ≤ n) : 1 ≤ zgK n v ∧ zgK n v ≤ n := by unfold zgK; split <;> omega
theorem WOk.look {p : zb} {nb : Nat} {w : Int} {x : zi} (hw : 1 ≤ w ∧ w ≤ p.Workers) (vic : 1 ≤ x.Victim ∧ x.Victim ≤ p.Workers) : WOk p nb w (ZC p w x) := by
  have hn := zqW vic
  unfold ZC
  split
  · exact ⟨⟨(by show (0 : Int) ≤ 2; decide), (by show (2 : Int) ≤ 9; decide)⟩, hw, fun e => (by cases e), fun e => (by cases e), fun _ => znE, fun e => (by cases e), fun e => (by cases e), fun e => (by cases e)⟩
  · exact ⟨⟨(by show (0 : Int) ≤ 1; decide), (by show (1 : Int) ≤ 9; decide)⟩, hn, fun e => (by cases e), fun _ => ⟨rfl, rfl, rfl⟩, fun e => (by cases e), fun e => (by cases e), fun e => (by cases e), fun e => (by cases e)⟩
theorem WOk.begin {p : zb} {nb : Nat} {w : Int} {x : zi} (hw : 1 ≤ w ∧ w ≤ p.Workers) : WOk p nb w (Xp p w x) :=
  ⟨⟨(by show (0 : Int) ≤ 0; decide), (by show (0 : Int) ≤ 9; decide)⟩, hw, fun _ => ⟨rfl, rfl, rfl⟩, fun e => (by cases e), fun e => (by cases e), fun e => (by cases e), fun e => (by cases e), fun e => (by cases e)⟩
theorem zrA (s : za) {g : zd} (h1 : g.Mode = 1) (h4 : g.PC ≠ 4) : (zm s g).2.PC ≠ 4 ∧ (zm s g).1.Flag = s.Flag := by
  have five : (5 : Int) ≠ 4 := by decide
  unfold zm
  split
  · exact ⟨h4, rfl⟩
  split
  · refine ⟨?_, rfl⟩; unfold uU; dsimp only; split <;> exact h4
  split
  · exact ⟨(by show (7 : Int) ≠ 4; decide), rfl⟩
  split
  · refine ⟨?_, rfl⟩; unfold XP; dsimp only
    split
    · show (6 : Int) ≠ 4; decide
    split
    · exact five
    · exact h4
  split
  · refine ⟨?_, rfl⟩; unfold XS; dsimp only
    split
    · exact h4
    split
    · exact five
    · exact h4
  split
  · exact ⟨h4, rfl⟩
  split
  · refine ⟨?_, rfl⟩; unfold UR; dsimp only
    split
    · show (2 : Int) ≠ 4; decide
    · show (3 : Int) ≠ 4; decide
  · exact ⟨(by show (1 : Int) ≠ 4; decide), rfl⟩
theorem zf4 (s : za) (i : Int) : onW s i = 5 ∨ onW s i = 8 := by unfold onW; split <;> simp
theorem SOk.keep {p : zb} {nb : Nat} {s s' : za} (S : SOk p nb s) (hP : s'.P = s.P) (hM : s'.M = s.M) (hB : s'.Bins.length = s.Bins.length) : SOk p nb s' :=
  ⟨hP.trans S.P, hB.trans S.bins, S.nbk, by rw [hM]; exact S.mem, by rw [hM]; exact S.cF, by rw [hM]; exact S.cE, by rw [hM]; exact S.cL⟩
theorem znY {p : zb} {nb : Nat} {s : za} {w : Int} {x : zi} (h : zr p) (hw : 1 ≤ w ∧ w ≤ p.Workers) (S : SOk p nb s) (W : WOk p nb w x) : SOk p nb (zC s w x).1 ∧ WOk p nb w (zC s w x).2 := by
  have hP := S.P
  unfold zC
  split
  · rename_i h01
    have hv : ∃ v, (1 ≤ v ∧ v ≤ p.Workers) ∧ (x.D.Kind = 2 ∨ x.D.Kind = 3) ∧ x.D.Base = zB p v := by
      rcases h01 with e | e
      · obtain ⟨a, b, c⟩ := W.d0 e; exact ⟨w, hw, .inl a, b⟩
      · obtain ⟨a, b, c⟩ := W.d1 e; exact ⟨x.Victim, W.vic, .inr a, b⟩
    obtain ⟨v, hv1, hv2, hv3⟩ := hv
    refine ⟨zsT h S hv1 hv2 hv3, ?_⟩
    obtain ⟨l1, l2, l3, l4⟩ := zdv s.M x.D
    dsimp only
    split
    · exact WOk.plain (.inl rfl) hw
    split
    · rw [hP]; exact WOk.look hw W.vic
    · refine ⟨W.pc, W.vic, fun e => ?_, fun e => ?_, fun e => by dsimp only at e; omega, fun e => by dsimp only at e; omega, fun e => by dsimp only at e; omega, fun e => by dsimp only at e; omega⟩
      · obtain ⟨a, b, c⟩ := W.d0 e; exact ⟨l2.trans a, l3.trans b, l4.trans c⟩
      · obtain ⟨a, b, c⟩ := W.d1 e; exact ⟨l2.trans a, l3.trans b, l4.trans c⟩
  split
  · rename_i h2
    have C := W.c2 h2
    obtain ⟨b1, b2, b3, b4, b5, b6⟩ := ziQ h S (.inl rfl) C.k C.h C.n C.v C.y C.o
    refine ⟨b1, ?_⟩
    dsimp only
    split
    · rename_i e1
      exact ⟨⟨(by show (0 : Int) ≤ 3; decide), (by show (3 : Int) ≤ 9; decide)⟩, W.vic, fun e => (by cases e), fun e => (by cases e), fun e => (by cases e), fun _ => b6 e1, fun e => (by cases e), fun e => (by cases e)⟩
    split
    · rw [hP]; exact WOk.begin hw
    · rename_i e1 e2
      exact ⟨W.pc, W.vic, fun e => (by dsimp only at e; omega), fun e => (by dsimp only at e; omega), fun _ => ⟨b2, b3, b4, (b5 e1 e2).1, (b5 e1 e2).2, e1⟩, fun e => (by dsimp only at e; omega), fun e => (by dsimp only at e; omega), fun e => (by dsimp only at e; omega)⟩
  split
  · rename_i h3
    have B := W.b3 h3
    refine ⟨S.keep rfl rfl (by simp), ?_⟩
    rw [hP]
    exact ⟨⟨(by show (0 : Int) ≤ 4; decide), (by show (4 : Int) ≤ 9; decide)⟩, W.vic, fun e => (by cases e), fun e => (by cases e), fun e => (by cases e), fun e => (by cases e), fun _ => zmj B, fun e => (by cases e)⟩
  split
  · rename_i h4
    have C := W.c4 h4
    obtain ⟨b1, b2, b3, b4, b5, b6⟩ := zjl h S (.inr rfl) C.k C.h C.n C.x C.v
    refine ⟨b1, ?_⟩
    dsimp only
    split
    · exact WOk.plain (.inr (.inl rfl)) W.vic
    · exact ⟨W.pc, W.vic, fun e => (by dsimp only at e; omega), fun e => (by dsimp only at e; omega), fun e => (by dsimp only at e; omega), fun e => (by dsimp only at e; omega), fun _ => ⟨b2, b3, b4, b5, b6⟩, fun e => (by dsimp only at e; omega)⟩
  split
  · refine ⟨S, ?_⟩
    dsimp only
    split
    · rcases zf4 s (wc (x.Slot + 1)) with e | e <;> rw [e]
      · exact WOk.plain (.inl rfl) W.vic
      · exact WOk.plain (.inr (.inr (.inl rfl))) W.vic
    · exact ⟨⟨(by show (0 : Int) ≤ 6; decide), (by show (6 : Int) ≤ 9; decide)⟩, W.vic, fun e => (by cases e), fun e => (by cases e), fun e => (by cases e), fun e => (by cases e), fun e => (by cases e), fun _ =>
        ⟨⟨fun _ => hw, fun e => (by cases e), fun e => (by cases e), fun e => (by cases e), fun e => (by cases e)⟩, fun e => (by cases e), rfl, by show (0 : Int) ≠ 4; decide⟩⟩
  split
  · rename_i h6
    obtain ⟨g1, g2, g3, g4⟩ := W.g6 h6
    obtain ⟨r1, r2, r3⟩ := zbH h S g1 g2
    refine ⟨r1, ?_⟩
    dsimp only
    split
    · rcases zf4 s x.Slot with e | e <;> rw [e]
      · exact WOk.plain (.inl rfl) W.vic
      · exact WOk.plain (.inr (.inr (.inl rfl))) W.vic
    · exact ⟨W.pc, W.vic, fun e => (by dsimp only at e; omega), fun e => (by dsimp only at e; omega), fun e => (by dsimp only at e; omega), fun e => (by dsimp only at e; omega), fun e => (by dsimp only at e; omega), fun _ => ⟨r2, r3, (ZI s x.G).2.2.trans g3, (zrA s g3 g4).1⟩⟩
  split
  · refine ⟨S, ?_⟩
    dsimp only
    split
    · rw [hP]; exact WOk.begin hw
    · exact WOk.plain (.inl rfl) W.vic
  split
  · exact ⟨S.keep rfl rfl rfl, WOk.plain (.inr (.inr (.inr rfl))) W.vic⟩
  split
  · exact ⟨S.keep rfl rfl rfl, WOk.plain (.inr (.inl rfl)) W.vic⟩
  · have := W.pc
    omega
end
end Go.Pe.G
namespace Go.Pe.G
open Go.Pe
noncomputable section
def wY (p : zb) (w : Int) (i : Nat) : Int := zB p w + 2 + ((i % p.Cap.toNat : Nat) : Int)
structure DQ (p : zb) (m : List (BitVec 64)) (w : Int) (t : Nat) (l : List Int) (c : Nat) : Prop where
  top : ld m (zB p w) = BitVec.ofNat 64 t
  bot : ld m (zB p w + 1) = BitVec.ofNat 64 (t + l.length - c)
  c1 : c ≤ 1
  t1 : 1 ≤ t
  cap : l.length ≤ p.Cap.toNat
  small : t + l.length < 4294967296
  cell : ∀ (i : Nat) (hi : i < l.length), (ld m (wY p w (t + i))).toInt = l[i]
theorem DQ.keep {p : zb} (h : zr p) {m m' : List (BitVec 64)} {w : Int} {t c : Nat} {l : List Int} (D : DQ p m w t l c) (hm : ∀ a, zB p w ≤ a → a < zB p w + p.Cap + 2 → ld m' a = ld m a) : DQ p m' w t l c := by
  have hc := h.cap
  refine ⟨by rw [hm _ (by omega) (by omega)]; exact D.top, by rw [hm _ (by omega) (by omega)]; exact D.bot, D.c1, D.t1, D.cap, D.small, fun i hi => ?_⟩
  have := Nat.mod_lt (t + i) (show 0 < p.Cap.toNat by omega)
  rw [hm _ (by unfold wY; omega) (by unfold wY; omega)]
  exact D.cell i hi
theorem wI {n : Nat} (h : n < 18446744073709551616) : (BitVec.ofNat 64 n).toNat = n := by rw [BitVec.toNat_ofNat]; omega
theorem W5 {a b : Nat} (h : b ≤ a) (h2 : a < 18446744073709551616) : BitVec.ofNat 64 a - BitVec.ofNat 64 b = BitVec.ofNat 64 (a - b) := by
  apply BitVec.eq_of_toNat_eq
  rw [BitVec.toNat_sub, wI h2, wI (by omega), wI (by omega)]
  omega
theorem W7 {a b : Nat} (h2 : a + b < 18446744073709551616) : BitVec.ofNat 64 a + BitVec.ofNat 64 b = BitVec.ofNat 64 (a + b) := by
  apply BitVec.eq_of_toNat_eq
  rw [BitVec.toNat_add, wI (by omega), wI (by omega), wI (by omega)]
  omega
theorem zpq {a b : Nat} (h : a < 18446744073709551616) (h2 : b < 18446744073709551616) (e : BitVec.ofNat 64 a = BitVec.ofNat 64 b) : a = b := by
  have := congrArg BitVec.toNat e
  rwa [wI h, wI h2] at this
theorem zan {a b : Nat} (h : a < 4294967296) (h2 : b < 4294967296) : 0 < (BitVec.ofNat 64 a - BitVec.ofNat 64 b).toInt ↔ b < a := by
  rw [BitVec.toInt_eq_toNat_cond, BitVec.toNat_sub, wI (by omega), wI (by omega)]
  omega
theorem zrJ {t i n c : Nat} (hi : i < n) (hn : n < t + c) (ht : t ≤ i) (e : i % c = n % c) : False := by
  have h1 := Nat.div_add_mod i c
  have h2 := Nat.div_add_mod n c
  have hc : 0 < c := by omega
  rw [e] at h1
  have h3 : c * (n / c) = c * (i / c) + (n - i) := by omega
  rcases Nat.lt_or_ge (i / c) (n / c) with h | h
  · have : c * (i / c) + c ≤ c * (n / c) := by
      have := Nat.mul_le_mul_left c h
      rw [Nat.succ_eq_add_one, Nat.mul_add, Nat.mul_one] at this
      exact this
    omega
  · have := Nat.mul_le_mul_left c h
    omega
theorem W9 {p : zb} (h : zr p) {d : zg} {w : Int} (hw : 1 ≤ w ∧ w ≤ p.Workers) (hb : d.Base = zB p w) (hc : d.Cap = p.Cap) {i : Nat} (hi : i < 4294967296) : vH d (BitVec.ofNat 64 i) = wY p w i := by
  rw [(zhC h hw.1 hw.2 hb hc _).1, wI (by omega), hb]; rfl
structure DK (p : zb) (m : List (BitVec 64)) (w : Int) (t : Nat) (l : List Int) (c : Nat) (d : zg) : Prop where
  kind : d.Kind = 1
  base : d.Base = zB p w
  size : d.Cap = p.Cap
  out : d.Out = 0
  c0 : c = 0
  pc : 0 ≤ d.PC ∧ d.PC ≤ 3
  b : 1 ≤ d.PC → d.B = BitVec.ofNat 64 (t + l.length)
  r : 2 ≤ d.PC → l.length < p.Cap.toNat
  x : 3 ≤ d.PC → (ld m (wY p w (t + l.length))).toInt = d.X
structure PK (p : zb) (m : List (BitVec 64)) (w : Int) (t : Nat) (l : List Int) (c : Nat) (d : zg) : Prop where
  kind : d.Kind = 2
  base : d.Base = zB p w
  size : d.Cap = p.Cap
  out : d.Out = 0
  pc : 0 ≤ d.PC ∧ d.PC ≤ 6
  c0 : d.PC ≤ 1 → c = 0
  c1 : d.PC = 2 ∨ 4 ≤ d.PC → c = 1
  b : d.PC = 1 ∨ d.PC = 2 ∨ 4 ≤ d.PC ∨ (d.PC = 3 ∧ d.T = d.B - 1#64) → d.B = BitVec.ofNat 64 (t + l.length)
  c3 : d.PC = 3 → d.T = d.B - 1#64 → c = 1
  n3 : d.PC = 3 → d.T ≠ d.B - 1#64 → c = 0 ∧ d.B = BitVec.ofNat 64 (t + l.length + 1) ∧ t + l.length + 1 < 4294967296 ∧ l.length + 1 ≤ p.Cap.toNat
  t3 : d.PC = 3 ∨ d.PC = 4 → d.T.toNat ≤ t
  t4 : d.PC = 4 → d.T = d.B - 1#64
  x4 : d.PC = 4 → d.T.toNat = t → l = [d.X]
  e5 : 5 ≤ d.PC → l = []
def ug (m : List (BitVec 64)) (d : zg) : List Int :=
  if d.PC = 3 ∧ d.T ≠ d.B - 1#64 then [(ld m (vH d (d.B - 1#64))).toInt] else if d.PC = 6 then [d.X] else []
structure TK (p : zb) (m : List (BitVec 64)) (w : Int) (t : Nat) (l : List Int) (d : zg) : Prop where
  kind : d.Kind = 3
  base : d.Base = zB p w
  size : d.Cap = p.Cap
  out : d.Out = 0
  pc : 0 ≤ d.PC ∧ d.PC ≤ 3
  le : 1 ≤ d.PC → d.T.toNat ≤ t
  ne : 2 ≤ d.PC → d.T.toNat = t → l ≠ []
  hd : d.PC = 3 → d.T.toNat = t → l.head? = some d.X
structure Dv (t : Nat) (l : List Int) (t' : Nat) (l' : List Int) : Prop where
  le : t ≤ t'
  hd : t' = t → l ≠ [] → l' ≠ [] ∧ l'.head? = l.head?
theorem Dv.refl (t : Nat) (l : List Int) : Dv t l t l := ⟨Nat.le_refl _, fun _ h => ⟨h, rfl⟩⟩
theorem TK.dv {p : zb} {m m' : List (BitVec 64)} {w : Int} {t t' : Nat} {l l' : List Int} {d : zg} (K : TK p m w t l d) (V : Dv t l t' l') : TK p m' w t' l' d := by
  have h1 := V.le
  refine ⟨K.kind, K.base, K.size, K.out, K.pc, fun h => Nat.le_trans (K.le h) h1, fun h e => ?_, fun h e => ?_⟩
  · have := K.le (by omega)
    have et : t' = t := by omega
    exact (V.hd et (K.ne h (by omega))).1
  · have := K.le (by omega)
    have et : t' = t := by omega
    rw [(V.hd et (K.ne (by omega) (by omega))).2]
    exact K.hd h (by omega)
theorem zoc {p : zb} (h : zr p) {m : List (BitVec 64)} {w : Int} {t c : Nat} {l : List Int} {d : zg} (hw : 1 ≤ w ∧ w ≤ p.Workers) (hlen : zN p ≤ m.length) (D : DQ p m w t l c) (K : TK p m w t l d) :
    ((zK m d).1 = m ∧ (((zK m d).2.Out = 0 ∧ TK p m w t l (zK m d).2) ∨ (zK m d).2.Out = 2 ∨ (zK m d).2.Out = 4)) ∨
    (∃ x l', l = x :: l' ∧ (zK m d).2.Out = 1 ∧ (zK m d).2.X = x ∧ DQ p (zK m d).1 w (t + 1) l' c ∧ (∀ a, a ≠ zB p w → ld (zK m d).1 a = ld m a)) := by
  have hc := h.cap
  have hd := vz h hw.1 hw.2
  have hf := wC h
  have hpc := K.pc
  have hsm := D.small
  have ht1 := D.t1
  have hc1 := D.c1
  have eb : wc (d.Base + 1) = zB p w + 1 := by rw [K.base, xk (by omega) (by omega)]
  have k := K.kind
  unfold zK
  rw [if_neg (by have := K.out; omega), if_neg (by omega), if_neg (by omega), if_pos k]
  unfold XA
  rw [if_neg (by omega), eb]
  by_cases c0 : d.PC = 0
  · rw [if_pos c0]
    exact .inl ⟨rfl, .inl ⟨K.out, ⟨k, K.base, K.size, K.out, ⟨by dsimp only; omega, by dsimp only; omega⟩, fun _ => by dsimp only; rw [K.base, D.top, wI (by omega)]; exact Nat.le_refl _, fun e => by dsimp only at e; omega, fun e => by dsimp only at e; omega⟩⟩⟩
  rw [if_neg c0]
  have hT := K.le (by omega)
  by_cases c1 : d.PC = 1
  · rw [if_pos c1]
    left
    refine ⟨rfl, ?_⟩
    by_cases hs : 0 < (ld m (zB p w + 1) - d.T).toInt
    · left
      dsimp only
      rw [if_pos hs]
      refine ⟨K.out, ⟨k, K.base, K.size, K.out, ⟨by dsimp only; omega, by dsimp only; omega⟩, fun _ => hT, fun _ e => ?_, fun e => by dsimp only at e; omega⟩⟩
      have e : d.T.toNat = t := e
      have eT : d.T = BitVec.ofNat 64 t := by apply BitVec.eq_of_toNat_eq; rw [wI (by omega)]; exact e
      rw [D.bot, eT] at hs
      have := (zan (by omega) (by omega)).1 hs
      intro el
      rw [el] at this
      simp at this
      omega
    · right; left
      dsimp only
      rw [if_neg hs]
  rw [if_neg c1]
  by_cases c2 : d.PC = 2
  · rw [if_pos c2]
    left
    refine ⟨rfl, .inl ⟨K.out, ⟨k, K.base, K.size, K.out, ⟨by dsimp only; omega, by dsimp only; omega⟩, fun _ => hT, fun _ e => K.ne (by omega) e, fun _ e => ?_⟩⟩⟩
    have e : d.T.toNat = t := e
    have eT : d.T = BitVec.ofNat 64 t := by apply BitVec.eq_of_toNat_eq; rw [wI (by omega)]; exact e
    have hn := K.ne (by omega) e
    cases l with
    | nil => exact absurd rfl hn
    | cons x l =>
      have := D.cell 0 (by simp)
      dsimp only
      rw [eT, W9 h hw K.base K.size (by omega)]
      rw [Nat.add_zero] at this
      rw [this]; rfl
  rw [if_neg c2]
  have c3 : d.PC = 3 := by omega
  by_cases hs : ld m d.Base = d.T
  · right
    have eT : d.T.toNat = t := by rw [← hs, K.base, D.top, wI (by omega)]
    have eT' : d.T = BitVec.ofNat 64 t := by rw [← hs, K.base, D.top]
    have hx := K.hd c3 eT
    have hn := K.ne (by omega) eT
    have hsw : sw m d.Base d.T (d.T + 1#64) = (st m d.Base (d.T + 1#64), true) := by unfold sw; rw [if_pos ⟨by rw [K.base]; omega, by rw [K.base]; omega, hs⟩]
    rw [hsw]
    cases l with
    | nil => exact absurd rfl hn
    | cons x l =>
      have hx : x = d.X := by simpa using hx
      have hmod : ∀ i, zB p w + 2 ≤ wY p w i := fun i => by unfold wY; omega
      have hlc := D.cap
      rw [List.length_cons] at hlc hsm
      refine ⟨x, l, rfl, rfl, hx.symm, ⟨?_, ?_, hc1, by omega, by omega, by omega, fun i hi => ?_⟩, fun a ha => ?_⟩
      · dsimp only
        rw [K.base, u7, if_pos ⟨rfl, by omega, by omega⟩, eT']
        exact W7 (by omega)
      · dsimp only
        rw [K.base, zY (by omega), D.bot, List.length_cons]
        congr 1
        omega
      · dsimp only
        have := hmod (t + 1 + i)
        rw [K.base, zY (by omega)]
        have := D.cell (i + 1) (by simp; omega)
        rw [show t + (i + 1) = t + 1 + i by omega] at this
        simpa using this
      · dsimp only
        rw [K.base, zY (fun e => ha e.symm)]
  · left
    have hsw : sw m d.Base d.T (d.T + 1#64) = (m, false) := by unfold sw; rw [if_neg (fun e => hs e.2.2)]
    rw [hsw]
    exact ⟨rfl, .inr (.inr rfl)⟩
theorem xB {m : List (BitVec 64)} {d : zg} (h : d.PC ≠ 3 ∨ d.T = d.B - 1#64) (h2 : d.PC ≠ 6) : ug m d = [] := by
  unfold ug
  rw [if_neg (fun e => h.elim (fun f => f e.1) (fun f => e.2 f)), if_neg h2]
theorem zmk {p : zb} (h : zr p) {m : List (BitVec 64)} {w : Int} {t c : Nat} {l : List Int} {d : zg} (hw : 1 ≤ w ∧ w ≤ p.Workers) (hlen : zN p ≤ m.length) (D : DQ p m w t l c) (K : PK p m w t l c d) :
    ∃ t' l' c', DQ p (zK m d).1 w t' l' c' ∧ (∀ a, a ≠ zB p w → a ≠ zB p w + 1 → ld (zK m d).1 a = ld m a) ∧ Dv t l t' l' ∧ t' + l'.length ≤ t + l.length ∧
      (((zK m d).2.Out = 0 ∧ PK p (zK m d).1 w t' l' c' (zK m d).2 ∧ List.Perm (l' ++ ug (zK m d).1 (zK m d).2) (l ++ ug m d)) ∨
       ((zK m d).2.Out = 1 ∧ c' = 0 ∧ List.Perm (l' ++ [(zK m d).2.X]) (l ++ ug m d)) ∨
       ((zK m d).2.Out = 2 ∧ c' = 0 ∧ l' = [] ∧ l = [] ∧ ug m d = [])) := by
  have hc := h.cap
  have hd := vz h hw.1 hw.2
  have hf := wC h
  have hpc := K.pc
  have hsm := D.small
  have ht1 := D.t1
  have hc1 := D.c1
  have eb : wc (d.Base + 1) = zB p w + 1 := by rw [K.base, xk (by omega) (by omega)]
  have k := K.kind
  have one : (1#64 : BitVec 64) = BitVec.ofNat 64 1 := rfl
  have hmod : ∀ i, zB p w + 2 ≤ wY p w i ∧ wY p w i < zB p w + p.Cap + 2 := fun i => by
    have := Nat.mod_lt i (show 0 < p.Cap.toNat by omega)
    unfold wY; omega
  have stb : ∀ (c' : Nat) (v : BitVec 64), c' ≤ 1 → v = BitVec.ofNat 64 (t + l.length - c') → DQ p (st m (zB p w + 1) v) w t l c' ∧ (∀ a, a ≠ zB p w → a ≠ zB p w + 1 → ld (st m (zB p w + 1) v) a = ld m a) := by
    intro c' v h1 h2
    refine ⟨⟨by rw [zY (by omega)]; exact D.top, by rw [u7, if_pos ⟨rfl, by omega, by omega⟩]; exact h2, h1, ht1, D.cap, hsm, fun i hi => by rw [zY (by have := hmod (t + i); omega)]; exact D.cell i hi⟩, fun a _ h2 => zY (fun e => h2 e.symm)⟩
  unfold zK
  rw [if_neg (by have := K.out; omega), if_neg (by omega), if_pos k]
  unfold zbg
  rw [if_neg (by omega), eb]
  by_cases p0 : d.PC = 0
  · rw [if_pos p0]
    have hc0 := K.c0 (by omega)
    refine ⟨t, l, c, D, fun _ _ _ => rfl, Dv.refl _ _, Nat.le_refl _, .inl ⟨K.out, ⟨k, K.base, K.size, K.out, ⟨by dsimp only; omega, by dsimp only; omega⟩, fun _ => hc0, fun e => by dsimp only at e; omega, fun _ => ?_, fun e => by dsimp only at e; omega, fun e => by dsimp only at e; omega, fun e => by dsimp only at e; omega, fun e => by dsimp only at e; omega, fun e => by dsimp only at e; omega, fun e => by dsimp only at e; omega⟩, ?_⟩⟩
    · dsimp only; rw [D.bot, hc0]; rfl
    · rw [xB (.inl (by dsimp only; omega)) (by dsimp only; omega), xB (.inl (by omega)) (by omega)]
  rw [if_neg p0]
  by_cases p1 : d.PC = 1
  · rw [if_pos p1]
    have hB := K.b (.inl p1)
    have eB : d.B - 1#64 = BitVec.ofNat 64 (t + l.length - 1) := by rw [hB, one, W5 (by omega) (by omega)]
    obtain ⟨D', hm⟩ := stb 1 (d.B - 1#64) (by omega) eB
    refine ⟨t, l, 1, D', hm, Dv.refl _ _, Nat.le_refl _, .inl ⟨K.out, ⟨k, K.base, K.size, K.out, ⟨by dsimp only; omega, by dsimp only; omega⟩, fun e => by dsimp only at e; omega, fun _ => rfl, fun _ => hB, fun e => by dsimp only at e; omega, fun e => by dsimp only at e; omega, fun e => by dsimp only at e; omega, fun e => by dsimp only at e; omega, fun e => by dsimp only at e; omega, fun e => by dsimp only at e; omega⟩, ?_⟩⟩
    rw [xB (.inl (by dsimp only; omega)) (by dsimp only; omega), xB (.inl (by omega)) (by omega)]
  rw [if_neg p1]
  by_cases p2 : d.PC = 2
  · rw [if_pos p2]
    have hB := K.b (.inr (.inl p2))
    have hc' := K.c1 (.inl p2)
    have eB : d.B - 1#64 = BitVec.ofNat 64 (t + l.length - 1) := by rw [hB, one, W5 (by omega) (by omega)]
    have eT : ld m d.Base = BitVec.ofNat 64 t := by rw [K.base]; exact D.top
    rw [xB (d := d) (.inl (by omega)) (by omega), List.append_nil]
    by_cases hs : 0 < (ld m d.Base - (d.B - 1#64)).toInt
    · have hs' := hs
      rw [eT, eB] at hs'
      have := (zan (by omega) (by omega)).1 hs'
      have el : l = [] := by cases l with | nil => rfl | cons a l => rw [List.length_cons] at this; omega
      rw [if_pos hs]
      refine ⟨t, l, c, D, fun _ _ _ => rfl, Dv.refl _ _, Nat.le_refl _, .inl ⟨K.out, ⟨k, K.base, K.size, K.out, ⟨by dsimp only; omega, by dsimp only; omega⟩, fun e => by dsimp only at e; omega, fun _ => hc', fun _ => hB, fun e => by dsimp only at e; omega, fun e => by dsimp only at e; omega, fun e => by dsimp only at e; omega, fun e => by dsimp only at e; omega, fun e => by dsimp only at e; omega, fun _ => el⟩, ?_⟩⟩
      rw [xB (.inl (by dsimp only; omega)) (by dsimp only; omega), List.append_nil]
    · have hs' := hs
      rw [eT, eB] at hs'
      have hle : ¬ (t + l.length - 1 < t) := fun e => hs' ((zan (by omega) (by omega)).2 e)
      rw [if_neg hs]
      by_cases h1 : l.length = 1
      · have e3 : ld m d.Base = d.B - 1#64 := by rw [eT, eB]; congr 1; omega
        refine ⟨t, l, c, D, fun _ _ _ => rfl, Dv.refl _ _, Nat.le_refl _, .inl ⟨K.out, ⟨k, K.base, K.size, K.out, ⟨by dsimp only; omega, by dsimp only; omega⟩, fun e => by dsimp only at e; omega, fun e => by dsimp only at e; omega, fun _ => hB, fun _ _ => hc', fun _ e => absurd e3 e, fun _ => by dsimp only; rw [eT, wI (by omega)]; exact Nat.le_refl _, fun e => by dsimp only at e; omega, fun e => by dsimp only at e; omega, fun e => by dsimp only at e; omega⟩, ?_⟩⟩
        rw [xB (.inr e3) (by dsimp only; omega), List.append_nil]
      · -- the last one is the owner's
        have h2 : 2 ≤ l.length := by omega
        have e3 : ld m d.Base ≠ d.B - 1#64 := by
          rw [eT, eB]
          intro e
          have := zpq (by omega) (by omega) e
          omega
        have hne : l ≠ [] := fun e => by rw [e] at h2; simp at h2
        have hdl : l.dropLast.length = l.length - 1 := List.length_dropLast
        refine ⟨t, l.dropLast, 0, ⟨D.top, ?_, by omega, ht1, by have := D.cap; omega, by omega, fun i hi => ?_⟩, fun _ _ _ => rfl, ⟨Nat.le_refl _, fun _ _ => ⟨fun e => ?_, ?_⟩⟩, by omega, .inl ⟨K.out, ⟨k, K.base, K.size, K.out, ⟨by dsimp only; omega, by dsimp only; omega⟩, fun e => by dsimp only at e; omega, fun e => by dsimp only at e; omega, fun e => ?_, fun _ e => absurd e e3, fun _ _ => ⟨rfl, ?_, by omega, by have := D.cap; omega⟩, fun _ => by dsimp only; rw [eT, wI (by omega)]; exact Nat.le_refl _, fun e => by dsimp only at e; omega, fun e => by dsimp only at e; omega, fun e => by dsimp only at e; omega⟩, ?_⟩⟩
        · rw [D.bot, hc', hdl]; congr 1; omega
        · rw [D.cell i (by omega)]
          exact (List.getElem_dropLast ..).symm
        · have := congrArg List.length e; rw [hdl] at this; simp at this; omega
        · cases l with
          | nil => exact absurd rfl hne
          | cons a l => cases l with
            | nil => simp at h2
            | cons b l => rfl
        · rcases e with e | e | e | ⟨_, e⟩
          · dsimp only at e; omega
          · dsimp only at e; omega
          · dsimp only at e; omega
          · exact absurd e e3
        · dsimp only; rw [hB, hdl]; congr 1; omega
        · unfold ug
          rw [if_pos ⟨rfl, e3⟩]
          dsimp only
          have ep : vH { d with T := ld m d.Base, PC := 3 } (d.B - 1#64) = wY p w (t + (l.length - 1)) := by
            rw [eB]
            have := W9 h (d := { d with T := ld m d.Base, PC := 3 }) hw K.base K.size (i := t + l.length - 1) (by omega)
            rw [this]; congr 1; omega
          rw [ep, D.cell (l.length - 1) (by omega)]
          have := List.dropLast_concat_getLast hne
          rw [List.getLast_eq_getElem] at this
          rw [this]
  rw [if_neg p2]
  by_cases p3 : d.PC = 3
  · rw [if_pos p3]
    by_cases e3 : d.T = d.B - 1#64
    · rw [if_pos e3]
      have hB := K.b (.inr (.inr (.inr ⟨p3, e3⟩)))
      have hc' := K.c3 p3 e3
      have eB : d.B - 1#64 = BitVec.ofNat 64 (t + l.length - 1) := by rw [hB, one, W5 (by omega) (by omega)]
      refine ⟨t, l, c, D, fun _ _ _ => rfl, Dv.refl _ _, Nat.le_refl _, .inl ⟨K.out, ⟨k, K.base, K.size, K.out, ⟨by dsimp only; omega, by dsimp only; omega⟩, fun e => by dsimp only at e; omega, fun _ => hc', fun _ => hB, fun e => by dsimp only at e; omega, fun e => by dsimp only at e; omega, fun _ => K.t3 (.inl p3), fun _ => e3, fun _ e => ?_, fun e => by dsimp only at e; omega⟩, ?_⟩⟩
      · have e : d.T.toNat = t := e
        rw [e3, eB, wI (by omega)] at e
        have h1 : l.length = 1 := by omega
        have := D.cell 0 (by omega)
        dsimp only
        rw [eB, W9 h hw K.base K.size (by omega), show t + l.length - 1 = t + 0 by omega, this]
        match l, h1 with
        | [a], _ => rfl
      · rw [xB (.inl (by dsimp only; omega)) (by dsimp only; omega), xB (.inr e3) (by omega)]
    · rw [if_neg e3]
      obtain ⟨a1, a2, a3, a4⟩ := K.n3 p3 e3
      refine ⟨t, l, c, D, fun _ _ _ => rfl, Dv.refl _ _, Nat.le_refl _, .inr (.inl ⟨rfl, a1, ?_⟩)⟩
      unfold ug
      rw [if_pos ⟨p3, e3⟩]
  rw [if_neg p3]
  by_cases p4 : d.PC = 4
  · rw [if_pos p4]
    have hB := K.b (.inr (.inr (.inl (by omega))))
    have hc' := K.c1 (.inr (by omega))
    have e3 := K.t4 p4
    have ht := K.t3 (.inr p4)
    have eB : d.B - 1#64 = BitVec.ofNat 64 (t + l.length - 1) := by rw [hB, one, W5 (by omega) (by omega)]
    have eT : d.T.toNat = t + l.length - 1 := by rw [e3, eB, wI (by omega)]
    rw [xB (d := d) (.inl (by omega)) (by omega), List.append_nil]
    by_cases hs : ld m d.Base = d.T
    · have hsw : sw m d.Base d.T (d.T + 1#64) = (st m d.Base (d.T + 1#64), true) := by unfold sw; rw [if_pos ⟨by rw [K.base]; omega, by rw [K.base]; omega, hs⟩]
      have et : d.T.toNat = t := by rw [← hs, K.base, D.top, wI (by omega)]
      have el := K.x4 p4 et
      rw [hsw]
      have eT' : d.T = BitVec.ofNat 64 t := by rw [← hs, K.base, D.top]
      have hl1 : l.length = 1 := by rw [el]; rfl
      refine ⟨t + 1, [], 1, ⟨?_, ?_, by omega, by omega, by simp, by simp; omega, fun i hi => by simp at hi⟩, fun a h1 _ => ?_, ⟨by omega, fun e => by omega⟩, by simp; omega, .inl ⟨K.out, ⟨k, K.base, K.size, K.out, ⟨by dsimp only; simp, by dsimp only; simp⟩, fun e => by simp at e, fun _ => rfl, fun _ => ?_, fun e => by simp at e, fun e => by simp at e, fun e => by simp at e, fun e => by simp at e, fun e => by simp at e, fun _ => rfl⟩, ?_⟩⟩
      · dsimp only
        rw [K.base, u7, if_pos ⟨rfl, by omega, by omega⟩, eT']
        exact W7 (by omega)
      · dsimp only
        rw [K.base, zY (by omega), D.bot, hc', hl1]; rfl
      · dsimp only
        rw [K.base, zY (fun e => h1 e.symm)]
      · dsimp only; rw [hB, hl1]; rfl
      · unfold ug
        rw [if_neg (fun e => by simp at e), if_pos (by simp)]
        rw [el]; exact List.Perm.refl _
    · have hsw : sw m d.Base d.T (d.T + 1#64) = (m, false) := by unfold sw; rw [if_neg (fun e => hs e.2.2)]
      rw [hsw]
      have hne : d.T.toNat ≠ t := fun e => hs (by rw [K.base, D.top]; apply BitVec.eq_of_toNat_eq; rw [wI (by omega)]; exact e.symm)
      have el : l = [] := by cases l with | nil => rfl | cons a l => rw [List.length_cons] at eT; omega
      refine ⟨t, l, c, D, fun _ _ _ => rfl, Dv.refl _ _, Nat.le_refl _, .inl ⟨K.out, ⟨k, K.base, K.size, K.out, ⟨by dsimp only; simp, by dsimp only; simp⟩, fun e => by simp at e, fun _ => hc', fun _ => hB, fun e => by simp at e, fun e => by simp at e, fun e => by simp at e, fun e => by simp at e, fun e => by simp at e, fun _ => el⟩, ?_⟩⟩
      rw [xB (.inl (by simp)) (by simp), List.append_nil]
  rw [if_neg p4]
  have hB := K.b (.inr (.inr (.inl (by omega))))
  have el := K.e5 (by omega)
  obtain ⟨D', hm⟩ := stb 0 d.B (by omega) (by rw [hB]; rfl)
  by_cases p5 : d.PC = 5
  · rw [if_pos p5]
    exact ⟨t, l, 0, D', hm, Dv.refl _ _, Nat.le_refl _, .inr (.inr ⟨rfl, rfl, el, el, xB (.inl (by omega)) (by omega)⟩)⟩
  · rw [if_neg p5]
    refine ⟨t, l, 0, D', hm, Dv.refl _ _, Nat.le_refl _, .inr (.inl ⟨rfl, rfl, ?_⟩)⟩
    unfold ug
    rw [if_neg (fun e => p3 e.1), if_pos (show d.PC = 6 by omega)]
theorem PK.stolen {p : zb} {m m' : List (BitVec 64)} (h : zr p) {w : Int} (hw : 1 ≤ w ∧ w ≤ p.Workers) {t c : Nat} {x : Int} {l : List Int} {d : zg} (K : PK p m w t (x :: l) c d) : PK p m' w (t + 1) l c d := by
  have e : t + (x :: l).length = t + 1 + l.length := by rw [List.length_cons]; omega
  refine ⟨K.kind, K.base, K.size, K.out, K.pc, K.c0, K.c1, fun q => by rw [← e]; exact K.b q, K.c3, fun a b => ?_, fun a => Nat.le_succ_of_le (K.t3 a), K.t4, fun a b => ?_, fun a => ?_⟩
  · have := K.n3 a b
    rw [e] at this
    rw [List.length_cons] at this
    exact ⟨this.1, this.2.1, this.2.2.1, by omega⟩
  · have := K.t3 (.inr a); omega
  · have := K.e5 a; cases this
theorem DK.stolen {p : zb} {m m' : List (BitVec 64)} {w : Int} {t c : Nat} {x : Int} {l : List Int} {d : zg} (K : DK p m w t (x :: l) c d) (hm : ∀ a, a ≠ zB p w → ld m' a = ld m a) (h : zr p) : DK p m' w (t + 1) l c d := by
  have e : t + (x :: l).length = t + 1 + l.length := by rw [List.length_cons]; omega
  refine ⟨K.kind, K.base, K.size, K.out, K.c0, K.pc, fun q => by rw [← e]; exact K.b q, fun q => by have := K.r q; rw [List.length_cons] at this; omega, fun q => ?_⟩
  rw [← e, hm _ (by unfold wY; omega)]
  exact K.x q
theorem PK.keep {p : zb} {m m' : List (BitVec 64)} {w : Int} {t c : Nat} {l : List Int} {d : zg} (K : PK p m w t l c d) : PK p m' w t l c d :=
  ⟨K.kind, K.base, K.size, K.out, K.pc, K.c0, K.c1, K.b, K.c3, K.n3, K.t3, K.t4, K.x4, K.e5⟩
theorem DK.keep {p : zb} (h : zr p) {m m' : List (BitVec 64)} {w : Int} {t c : Nat} {l : List Int} {d : zg} (K : DK p m w t l c d) (hm : ∀ a, zB p w + 1 < a → a < zB p w + p.Cap + 2 → ld m' a = ld m a) : DK p m' w t l c d := by
  have hc := h.cap
  have := Nat.mod_lt (t + l.length) (show 0 < p.Cap.toNat by omega)
  exact ⟨K.kind, K.base, K.size, K.out, K.c0, K.pc, K.b, K.r, fun q => by rw [hm _ (by unfold wY; omega) (by unfold wY; omega)]; exact K.x q⟩
theorem zla {p : zb} (h : zr p) {m : List (BitVec 64)} {w : Int} {t c : Nat} {l : List Int} {d : zg} (hw : 1 ≤ w ∧ w ≤ p.Workers) (hlen : zN p ≤ m.length) (D : DQ p m w t l c) (K : DK p m w t l c d) (hs : t + l.length + 1 < 4294967296) (hX : -9223372036854775808 ≤ d.X ∧ d.X < 9223372036854775808) :
    (∀ a, (a < zB p w ∨ zB p w + p.Cap + 2 ≤ a) → ld (z7 m d).1 a = ld m a) ∧ (z7 m d).2.X = d.X ∧
    (((z7 m d).2.Out = 0 ∧ DQ p (z7 m d).1 w t l 0 ∧ DK p (z7 m d).1 w t l 0 (z7 m d).2) ∨
     ((z7 m d).2.Out = 3 ∧ DQ p (z7 m d).1 w t l 0) ∨
     ((z7 m d).2.Out = 1 ∧ DQ p (z7 m d).1 w t (l ++ [d.X]) 0)) := by
  have hc := h.cap
  have hd := vz h hw.1 hw.2
  have hf := wC h
  have hmod : ∀ i, zB p w + 2 ≤ wY p w i ∧ wY p w i < zB p w + p.Cap + 2 := fun i => by
    have := Nat.mod_lt i (show 0 < p.Cap.toNat by omega)
    unfold wY; omega
  have hpc := K.pc
  have c00 := K.c0
  subst c00
  have ht1 := D.t1
  have hsm := D.small
  have eb : wc (d.Base + 1) = zB p w + 1 := by rw [K.base, xk (by omega) (by omega)]
  unfold z7
  rw [if_neg (by have := K.out; omega), eb]
  by_cases c0 : d.PC = 0
  · rw [if_pos c0]
    exact ⟨fun _ _ => rfl, rfl, .inl ⟨K.out, D, ⟨K.kind, K.base, K.size, K.out, rfl, ⟨by dsimp only; omega, by dsimp only; omega⟩, fun _ => D.bot, fun e => by dsimp only at e; omega, fun e => by dsimp only at e; omega⟩⟩⟩
  rw [if_neg c0]
  by_cases c1 : d.PC = 1
  · rw [if_pos c1]
    refine ⟨fun _ _ => rfl, by dsimp only; split <;> rfl, ?_⟩
    have hB := K.b (by omega)
    have es : (uo d).toNat = p.Cap.toNat := by
      unfold uo
      rw [K.size, if_neg (by omega), BitVec.toNat_ofInt]
      omega
    have ed : (d.B - ld m d.Base).toNat = l.length := by
      rw [hB, K.base, D.top, BitVec.toNat_sub, wI (by omega), wI (by omega)]
      omega
    split
    · right; left
      exact ⟨rfl, D⟩
    · rename_i hlt
      left
      have hr : l.length < p.Cap.toNat := by
        have : ¬ (uo d).toNat ≤ (d.B - ld m d.Base).toNat := fun e => hlt (BitVec.le_def.2 e)
        omega
      exact ⟨K.out, D, ⟨K.kind, K.base, K.size, K.out, rfl, ⟨by dsimp only; omega, by dsimp only; omega⟩, fun _ => hB, fun _ => hr, fun e => by dsimp only at e; omega⟩⟩
  rw [if_neg c1]
  have hB := K.b (by omega)
  have hr := K.r (by omega)
  by_cases c2 : d.PC = 2
  · rw [if_pos c2]
    have ep : vH d d.B = wY p w (t + l.length) := by rw [hB]; exact W9 h hw K.base K.size (by omega)
    rw [ep]
    have hm := hmod (t + l.length)
    refine ⟨fun a ha => zY (by omega), rfl, .inl ⟨K.out, ⟨?_, ?_, D.c1, ht1, D.cap, D.small, fun i hi => ?_⟩, ⟨K.kind, K.base, K.size, K.out, rfl, ⟨by dsimp only; omega, by dsimp only; omega⟩, fun _ => hB, fun _ => hr, fun _ => ?_⟩⟩⟩
    · dsimp only; rw [zY (by omega)]; exact D.top
    · dsimp only; rw [zY (by omega)]; exact D.bot
    · dsimp only
      rw [zY (fun e => zrJ (t := t) (i := t + i) (n := t + l.length) (c := p.Cap.toNat) (by omega) (by omega) (by omega) (by unfold wY at e; omega))]
      exact D.cell i hi
    · dsimp only
      rw [u7, if_pos ⟨rfl, by omega, by omega⟩, BitVec.toInt_ofInt, Int.bmod_def]
      omega
  · rw [if_neg c2]
    have hx := K.x (by omega)
    refine ⟨fun a ha => zY (by omega), rfl, .inr (.inr ⟨rfl, ⟨?_, ?_, by omega, ht1, ?_, ?_, fun i hi => ?_⟩⟩)⟩
    · dsimp only; rw [zY (by omega)]; exact D.top
    · dsimp only
      rw [u7, if_pos ⟨rfl, by omega, by omega⟩, hB, List.length_append]
      exact W7 (by omega)
    · rw [List.length_append]; show l.length + 1 ≤ _; omega
    · rw [List.length_append]; show t + (l.length + 1) < _; omega
    · dsimp only
      have hi' : i < l.length + 1 := by rw [List.length_append] at hi; exact hi
      have hm := hmod (t + i)
      rw [zY (by omega)]
      rcases Nat.lt_or_ge i l.length with g | g
      · rw [List.getElem_append_left g]; exact D.cell i g
      · have : i = l.length := by omega
        subst this
        rw [List.getElem_append_right (by omega)]
        simp only [Nat.sub_self, List.getElem_cons_zero]
        exact hx
end
end Go.Pe.G
namespace Go.Pe.G
open Go.Pe
noncomputable section
def yp (h : BitVec 64) : Nat := h.toNat / 4294967296
theorem ztl (h : BitVec 64) : yp h < 4294967296 := by unfold yp; have := h.isLt; omega
theorem ziP (v : BitVec 64) {n : Int} (h : 0 ≤ n) (h2 : n < 4294967296) : (yh v n).toNat = (v.toNat % 4294967296) * 4294967296 + n.toNat := by
  unfold yh
  have e3 : (BitVec.ofInt 64 n).toNat &&& (4294967295#64).toNat = n.toNat := by
    have : (BitVec.ofInt 64 n).toNat = n.toNat := by rw [BitVec.toNat_ofInt]; omega
    rw [this]
    exact (Nat.and_two_pow_sub_one_eq_mod n.toNat 32).trans (Nat.mod_eq_of_lt (by omega))
  rw [BitVec.toNat_or, BitVec.toNat_and, e3, BitVec.toNat_shiftLeft]
  have h2' : v.toNat <<< 32 % 2 ^ 64 = (v.toNat % 4294967296) <<< 32 := by rw [Nat.shiftLeft_eq, Nat.shiftLeft_eq]; omega
  rw [h2', ← Nat.shiftLeft_add_eq_or_of_lt (show n.toNat < 2 ^ 32 by omega), Nat.shiftLeft_eq]
theorem zlR (h : BitVec 64) {n : Int} (h1 : 0 ≤ n) (h2 : n < 4294967296) (hv : yp h + 1 < 4294967296) : yp (yh ((h >>> 32) + 1#64) n) = yp h + 1 := by
  have e : ((h >>> 32) + 1#64).toNat = yp h + 1 := by
    rw [BitVec.toNat_add, BitVec.toNat_ushiftRight, Nat.shiftRight_eq_div_pow]
    show (h.toNat / 4294967296 + 1) % 2 ^ 64 = _
    unfold yp at hv ⊢
    omega
  unfold yp
  rw [ziP _ h1 h2, e]
  unfold yp at hv ⊢
  omega
def Chn (m : List (BitVec 64)) (N : Int) (nb : Nat) : Int → List Int → Prop
  | h, [] => h = 0
  | h, x :: l => h = x ∧ 1 ≤ x ∧ x < nb ∧ Chn m N nb (ld m (N + x)).toInt l
theorem Chn.mem {m : List (BitVec 64)} {N : Int} {nb : Nat} : ∀ {l : List Int} {h : Int}, Chn m N nb h l → ∀ x ∈ l, 1 ≤ x ∧ x < nb
  | y :: l, h, c, x, hx => by
    rcases List.mem_cons.1 hx with rfl | hx
    · exact ⟨c.2.1, c.2.2.1⟩
    · exact Chn.mem c.2.2.2 x hx
theorem Chn.st {m : List (BitVec 64)} {N : Int} {nb : Nat} {a : Int} {v : BitVec 64} : ∀ {l : List Int} {h : Int}, Chn m N nb h l → (∀ x ∈ l, a ≠ N + x) → Chn (st m a v) N nb h l
  | [], h, c, _ => c
  | y :: l, h, c, hn => ⟨c.1, c.2.1, c.2.2.1, by
    rw [zY (hn y (by simp))]
    exact Chn.st c.2.2.2 (fun x hx => hn x (List.mem_cons_of_mem _ hx))⟩
theorem Chn.head {m : List (BitVec 64)} {N : Int} {nb : Nat} {l : List Int} {h : Int} (c : Chn m N nb h l) (hh : h ≠ 0) : ∃ t, l = h :: t ∧ 1 ≤ h ∧ h < nb ∧ Chn m N nb (ld m (N + h)).toInt t := by
  cases l with
  | nil => exact absurd c hh
  | cons x t =>
    obtain ⟨rfl, h1, h2, h3⟩ := c
    exact ⟨t, rfl, h1, h2, h3⟩
theorem Chn.empty {m : List (BitVec 64)} {N : Int} {nb : Nat} {l : List Int} (c : Chn m N nb 0 l) : l = [] := by
  cases l with
  | nil => rfl
  | cons x t => have := c.1; have := c.2.1; omega
def zdg (nb : Nat) : List Int := (List.range (nb - 1)).map (fun (i : Nat) => (i : Int) + 1)
theorem zhb (nb : Nat) : (zdg nb).Nodup := by
  unfold zdg
  rw [List.Nodup, List.pairwise_map]
  exact List.nodup_range.imp (fun h e => h (by omega))
theorem zpj {nb : Nat} {x : Int} : x ∈ zdg nb ↔ 1 ≤ x ∧ x < nb := by
  unfold zdg
  rw [List.mem_map]
  constructor
  · rintro ⟨i, hi, rfl⟩
    have := List.mem_range.1 hi
    omega
  · rintro ⟨h1, h2⟩
    exact ⟨(x - 1).toNat, List.mem_range.2 (by omega), by omega⟩
structure LI (p : zb) (nb : Nat) (m : List (BitVec 64)) (h1 h2 : Int) (F E own : List Int) : Prop where
  hs : (h1 = zN p ∧ h2 = zv p) ∨ (h1 = zv p ∧ h2 = zN p)
  cF : Chn m (zv p) nb (zT (ld m h1)) F
  cE : Chn m (zv p) nb (zT (ld m h2)) E
  all : List.Perm (F ++ E ++ own) (zdg nb)
  len : zv p + nb ≤ m.length
theorem LI.nodup {p : zb} {nb : Nat} {m : List (BitVec 64)} {h1 h2 : Int} {F E own : List Int} (h : LI p nb m h1 h2 F E own) : (F ++ E ++ own).Nodup := h.all.nodup_iff.2 (zhb nb)
theorem LI.notF {p : zb} {nb : Nat} {m : List (BitVec 64)} {h1 h2 : Int} {F E own : List Int} (h : LI p nb m h1 h2 F E own) {x : Int} (hx : x ∈ own) : x ∉ F ∧ x ∉ E := by
  have := List.nodup_append.1 h.nodup
  exact ⟨fun e => this.2.2 x (List.mem_append_left _ e) x hx rfl, fun e => this.2.2 x (List.mem_append_right _ e) x hx rfl⟩
theorem LI.own_in {p : zb} {nb : Nat} {m : List (BitVec 64)} {h1 h2 : Int} {F E own : List Int} (h : LI p nb m h1 h2 F E own) {x : Int} (hx : x ∈ own) : 1 ≤ x ∧ x < nb := zpj.1 (h.all.subset (List.mem_append_right _ hx))
structure CK (p : zb) (m : List (BitVec 64)) (c : zp) : Prop where
  v : 1 ≤ c.PC → yp c.H ≤ yp (ld m c.Head)
  y : c.PC = 2 → c.Kind = 2 → ld m c.Head = c.H → c.Y = (ld m (zv p + zT c.H)).toInt
  l : c.PC = 2 → c.Kind = 1 → ld m (zv p + c.X) = BitVec.ofInt 64 (zT c.H)
structure Mv (p : zb) (nb : Nat) (X : List Int) (m m' : List (BitVec 64)) : Prop where
  hd : ∀ h, h = zN p ∨ h = zv p → yp (ld m h) ≤ yp (ld m' h) ∧ (ld m' h = ld m h ∨ yp (ld m h) < yp (ld m' h))
  nx : ∀ x : Int, 1 ≤ x → x < nb → x ∉ X → ld m' (zv p + x) = ld m (zv p + x)
theorem Mv.refl (p : zb) (nb : Nat) (X : List Int) (m : List (BitVec 64)) : Mv p nb X m m := ⟨fun h _ => ⟨Nat.le_refl _, .inl rfl⟩, fun _ _ _ _ => rfl⟩
theorem CK.mv {p : zb} {nb : Nat} {m m' : List (BitVec 64)} {h1 h2 : Int} {F E own X : List Int} {c : zp} (k : CK p m c) (L : LI p nb m h1 h2 F E own) (M : Mv p nb X m m') (hX : ∀ x ∈ X, x ∈ own)
    (hh : c.Head = h1 ∨ c.Head = h2) (hn : 1 ≤ c.PC → c.Kind = 2 → 1 ≤ zT c.H ∧ zT c.H < nb) (hx : c.Kind = 1 → 1 ≤ c.X ∧ c.X < nb ∧ c.X ∉ X) : CK p m' c := by
  obtain ⟨m1, m2⟩ := M.hd c.Head (by rcases L.hs with g | g <;> rcases hh with hh | hh <;> rw [hh] <;> simp [g])
  refine ⟨fun h => Nat.le_trans (k.v h) m1, fun h2 hk e => ?_, fun h2 hk => ?_⟩
  · have hv := k.v (by omega)
    have e' : ld m c.Head = c.H := by
      rcases m2 with m2 | m2
      · rw [← m2]; exact e
      · rw [e] at m2; omega
    obtain ⟨n1, n2⟩ := hn (by omega) hk
    rw [M.nx _ n1 n2 (fun hmem => ?_)]
    · exact k.y h2 hk e'
    · obtain ⟨f1, f2⟩ := L.notF (hX _ hmem)
      rcases hh with hh | hh
      · obtain ⟨t, ht, _⟩ := L.cF.head (by rw [← hh, e']; omega)
        rw [← hh, e'] at ht
        exact f1 (by rw [ht]; simp)
      · obtain ⟨t, ht, _⟩ := L.cE.head (by rw [← hh, e']; omega)
        rw [← hh, e'] at ht
        exact f2 (by rw [ht]; simp)
  · obtain ⟨x1, x2, x3⟩ := hx hk
    rw [M.nx _ x1 x2 x3]
    exact k.l h2 hk
theorem LI.swap {p : zb} {nb : Nat} {m : List (BitVec 64)} {h1 h2 : Int} {F E own : List Int} (h : LI p nb m h1 h2 F E own) : LI p nb m h2 h1 E F own :=
  ⟨by rcases h.hs with g | g
      · exact .inr ⟨g.2, g.1⟩
      · exact .inl ⟨g.2, g.1⟩, h.cE, h.cF, (List.perm_append_comm.append_right own).trans h.all, h.len⟩
theorem zgt {p : zb} (hp : zr p) {m : List (BitVec 64)} {a x : Int} {v : BitVec 64} (ha : a = zN p ∨ a = zv p) (hx : 1 ≤ x) : ld (st m a v) (zv p + x) = ld m (zv p + x) := by
  have := yM hp
  exact zY (by omega)
theorem Chn.st_head {p : zb} (hp : zr p) {m : List (BitVec 64)} {nb : Nat} {a h : Int} {l : List Int} {v : BitVec 64} (ha : a = zN p ∨ a = zv p) (c : Chn m (zv p) nb h l) : Chn (Go.Pe.G.st m a v) (zv p) nb h l := by
  have := yM hp
  exact c.st (fun x hx => by have := (c.mem x hx).1; omega)
theorem Mv.head {p : zb} (hp : zr p) {nb : Nat} {X : List Int} {m : List (BitVec 64)} {a : Int} {v : BitVec 64} (ha : a = zN p ∨ a = zv p) (hv : yp (ld m a) < yp v) : Mv p nb X m (st m a v) := by
  refine ⟨fun h hh => ?_, fun x hx _ _ => zgt hp ha hx⟩
  by_cases e : a = h
  · subst e
    rw [u7]
    split
    · exact ⟨by omega, .inr hv⟩
    · exact ⟨Nat.le_refl _, .inl rfl⟩
  · rw [zY e]; exact ⟨Nat.le_refl _, .inl rfl⟩
theorem zmR {p : zb} (hp : zr p) {nb : Nat} (hnb : nb < 1000) {m : List (BitVec 64)} {h1 h2 : Int} {F E own : List Int} (L : LI p nb m h1 h2 F E own) {c : zp}
    (hk : c.Kind = 2) (hh : c.Head = h1) (hN : c.Next = zv p) (ho : c.Out = 0) (hpc : 0 ≤ c.PC ∧ c.PC ≤ 2) (K : CK p m c) (hn : 1 ≤ c.PC → 1 ≤ zT c.H ∧ zT c.H < nb) (hv : yp (ld m h1) + 1 < 4294967296) :
    ((zl m c).1 = m ∧ (zl m c).2.Out ≠ 1 ∧ ((zl m c).2.Out = 2 → F = []) ∧ CK p m (zl m c).2) ∨
    (∃ x F', F = x :: F' ∧ (zl m c).2.Out = 1 ∧ (zl m c).2.X = x ∧ LI p nb (zl m c).1 h1 h2 F' E (x :: own) ∧ Mv p nb [] m (zl m c).1 ∧ yp (ld (zl m c).1 h1) = yp (ld m h1) + 1 ∧ ld (zl m c).1 h2 = ld m h2) := by
  have hE := yM hp
  have hF := wC hp
  have hd : h1 = zN p ∨ h1 = zv p := by rcases L.hs with g | g <;> simp [g]
  unfold zl
  rw [if_neg (by omega)]
  by_cases c0 : c.PC = 0
  · rw [if_pos c0]
    left
    split
    · rename_i e
      refine ⟨rfl, (by show (2 : Int) ≠ 1; decide), fun _ => ?_, ⟨fun _ => by rw [hh]; exact Nat.le_refl _, fun e2 => (by cases e2), fun e2 => (by cases e2)⟩⟩
      have := L.cF
      rw [hh] at e
      rw [e.2] at this
      exact this.empty
    · refine ⟨rfl, by dsimp only; omega, fun e => by dsimp only at e; omega, ⟨fun _ => by rw [hh]; exact Nat.le_refl _, fun e2 => (by cases e2), fun e2 => (by cases e2)⟩⟩
  · rw [if_neg c0]
    by_cases c1 : c.PC = 1
    · rw [if_pos c1, if_pos hk]
      left
      refine ⟨rfl, by dsimp only; omega, fun e => by dsimp only at e; omega, ⟨fun _ => K.v (by omega), fun _ _ _ => ?_, fun _ e => by dsimp only at e; omega⟩⟩
      have := hn (by omega)
      dsimp only
      rw [hN, xk (by omega) (by omega)]
    · rw [if_neg c1]
      have c2 : c.PC = 2 := by omega
      simp only [if_pos hk]
      by_cases hs : 0 ≤ c.Head ∧ c.Head < m.length ∧ ld m c.Head = c.H
      · right
        have n := hn (by omega)
        have hsw : sw m c.Head c.H (yh (c.H >>> 32 + 1#64) c.Y) = (st m c.Head (yh (c.H >>> 32 + 1#64) c.Y), true) := by unfold sw; rw [if_pos hs]
        rw [hsw]
        have hc := L.cF
        rw [← hh, hs.2.2] at hc
        obtain ⟨t, ht, _, _, hct⟩ := hc.head (by omega)
        have hy := K.y c2 hk hs.2.2
        have hct' := hct
        rw [← hy] at hct'
        have y0 : 0 ≤ c.Y ∧ c.Y < nb := by
          cases t with
          | nil => have e : c.Y = 0 := hct'; omega
          | cons z t => have := hct'.1; have := hct'.2.1; have := hct'.2.2.1; omega
        have vp : yp (yh (c.H >>> 32 + 1#64) c.Y) = yp c.H + 1 := zlR c.H y0.1 (by omega) (by rw [← hs.2.2, hh]; exact hv)
        have hcH : yp c.H = yp (ld m h1) := by rw [← hs.2.2, hh]
        have ld1 : ld (st m h1 (yh (c.H >>> 32 + 1#64) c.Y)) h1 = yh (c.H >>> 32 + 1#64) c.Y := by rw [u7, if_pos ⟨rfl, by rw [← hh]; exact hs.1, by rw [← hh]; exact hs.2.1⟩]
        have h12 : h1 ≠ h2 := by rcases L.hs with g | g <;> omega
        refine ⟨zT c.H, t, ht, rfl, rfl, ?_, ?_, ?_, ?_⟩
        · rw [hh]
          refine ⟨L.hs, ?_, ?_, ?_, by rw [wS]; exact L.len⟩
          · rw [ld1, W4 _ y0.1 (by omega)]
            exact hct'.st_head hp hd
          · rw [zY h12]
            exact L.cE.st_head hp hd
          · refine List.Perm.trans ?_ L.all
            rw [ht]
            show List.Perm (t ++ E ++ zT c.H :: own) (zT c.H :: (t ++ E ++ own))
            exact List.perm_middle
        · rw [hh]
          exact Mv.head hp hd (by rw [vp, hcH]; omega)
        · rw [hh, ld1, vp, hcH]
        · rw [hh, zY h12]
      · left
        have hsw : sw m c.Head c.H (yh (c.H >>> 32 + 1#64) c.Y) = (m, false) := by unfold sw; rw [if_neg hs]
        rw [hsw]
        refine ⟨rfl, by dsimp only; simp; omega, fun e => by simp at e; omega, ⟨fun e => by simp at e, fun e => by simp at e, fun e => by simp at e⟩⟩
theorem zno {n : Int} (h : 0 ≤ n) (h2 : n < 4294967296) : (BitVec.ofInt 64 n).toInt = n := toInt_ofInt h h2
theorem zd8 {N a b : Int} (h : N + a = N + b) : b = a := by omega
theorem zkA {p : zb} (hp : zr p) {nb : Nat} (hnb : nb < 1000) {m : List (BitVec 64)} {h1 h2 b : Int} {F E o1 o2 : List Int} (L : LI p nb m h1 h2 F E (o1 ++ b :: o2)) {c : zp}
    (hk : c.Kind = 1) (hh : c.Head = h1) (hN : c.Next = zv p) (hX : c.X = b) (ho : c.Out = 0) (hpc : 0 ≤ c.PC ∧ c.PC ≤ 2) (K : CK p m c) (hn : 1 ≤ c.PC → zT c.H < nb) (hv : yp (ld m h1) + 1 < 4294967296) :
    ((zl m c).2.Out = 0 ∧ LI p nb (zl m c).1 h1 h2 F E (o1 ++ b :: o2) ∧ Mv p nb [b] m (zl m c).1 ∧ CK p (zl m c).1 (zl m c).2 ∧ (∀ a, a ≤ zv p → ld (zl m c).1 a = ld m a)) ∨
    ((zl m c).2.Out = 1 ∧ LI p nb (zl m c).1 h1 h2 (b :: F) E (o1 ++ o2) ∧ Mv p nb [] m (zl m c).1 ∧ yp (ld (zl m c).1 h1) = yp (ld m h1) + 1 ∧ (∀ a, a ≤ zv p → a ≠ h1 → ld (zl m c).1 a = ld m a)) := by
  have hE := yM hp
  have hF := wC hp
  have hd : h1 = zN p ∨ h1 = zv p := by rcases L.hs with g | g <;> simp [g]
  have hd2 : h2 = zN p ∨ h2 = zv p := by rcases L.hs with g | g <;> simp [g]
  have hb : 1 ≤ b ∧ b < nb := L.own_in (List.mem_append_right _ (by simp))
  have hbn := L.notF (x := b) (List.mem_append_right _ (by simp))
  have hlen := L.len
  have hk2 : ¬ c.Kind = 2 := by omega
  unfold zl
  rw [if_neg (by omega)]
  by_cases c0 : c.PC = 0
  · rw [if_pos c0, if_neg (fun e => hk2 e.1)]
    left
    exact ⟨ho, L, Mv.refl _ _ _ _, ⟨fun _ => by rw [hh]; exact Nat.le_refl _, fun e2 => (by cases e2), fun e2 => (by cases e2)⟩, fun _ _ => rfl⟩
  · rw [if_neg c0]
    by_cases c1 : c.PC = 1
    · rw [if_pos c1, if_neg hk2]
      left
      have nn := zdh c.H
      have ea : wc (c.Next + c.X) = zv p + b := by rw [hN, hX, xk (by omega) (by omega)]
      rw [ea]
      have hne : ∀ h, h = zN p ∨ h = zv p → ld (st m (zv p + b) (BitVec.ofInt 64 (zT c.H))) h = ld m h := fun h hh => zY (by omega)
      refine ⟨ho, ⟨L.hs, ?_, ?_, L.all, by dsimp only; rw [wS]; exact hlen⟩, ⟨fun h hh => ?_, fun x x1 x2 x3 => ?_⟩, ⟨fun _ => ?_, fun _ e => absurd e hk2, fun _ _ => ?_⟩, fun a ha => ?_⟩
      · dsimp only
        rw [hne _ hd]
        exact L.cF.st (fun x hx e => hbn.1 (zd8 e ▸ hx))
      · dsimp only
        rw [hne _ hd2]
        exact L.cE.st (fun x hx e => hbn.2 (zd8 e ▸ hx))
      · dsimp only
        rw [hne _ hh]; exact ⟨Nat.le_refl _, .inl rfl⟩
      · dsimp only
        exact zY (fun e => x3 (List.mem_singleton.2 (zd8 e)))
      · dsimp only
        rw [hh, hne _ hd, ← hh]; exact K.v (by omega)
      · dsimp only
        rw [hX, u7, if_pos ⟨rfl, by omega, by omega⟩]
      · dsimp only
        exact zY (by omega)
    · rw [if_neg c1]
      have c2 : c.PC = 2 := by omega
      simp only [if_neg hk2]
      by_cases hs : 0 ≤ c.Head ∧ c.Head < m.length ∧ ld m c.Head = c.H
      · right
        have n := hn (by omega)
        have nn := zdh c.H
        have hsw : sw m c.Head c.H (yh (c.H >>> 32 + 1#64) c.X) = (st m c.Head (yh (c.H >>> 32 + 1#64) c.X), true) := by unfold sw; rw [if_pos hs]
        rw [hsw]
        have hl := K.l c2 hk
        rw [hX] at hl
        have vp : yp (yh (c.H >>> 32 + 1#64) c.X) = yp c.H + 1 := zlR c.H (by omega) (by omega) (by rw [← hs.2.2, hh]; exact hv)
        have hcH : yp c.H = yp (ld m h1) := by rw [← hs.2.2, hh]
        have ld1 : ld (st m h1 (yh (c.H >>> 32 + 1#64) c.X)) h1 = yh (c.H >>> 32 + 1#64) c.X := by rw [u7, if_pos ⟨rfl, by rw [← hh]; exact hs.1, by rw [← hh]; exact hs.2.1⟩]
        have h12 : h1 ≠ h2 := by rcases L.hs with g | g <;> omega
        refine ⟨rfl, ?_, ?_, ?_, fun a ha hne => ?_⟩
        · rw [hh]
          refine ⟨L.hs, ?_, ?_, ?_, by dsimp only; rw [wS]; exact hlen⟩
          · dsimp only
            rw [ld1, W4 _ (by omega) (by omega), hX]
            refine ⟨rfl, hb.1, hb.2, ?_⟩
            rw [zgt hp hd hb.1, hl, zno nn.1 nn.2]
            have := L.cF
            rw [← hh, hs.2.2] at this
            rw [← hX, ← hh] at *
            exact this.st_head hp hd
          · dsimp only
            rw [zY h12]
            exact L.cE.st_head hp hd
          · refine List.Perm.trans ?_ L.all
            show List.Perm (b :: (F ++ E ++ (o1 ++ o2))) (F ++ E ++ (o1 ++ b :: o2))
            rw [← List.append_assoc (F ++ E) o1 o2, ← List.append_assoc (F ++ E) o1 (b :: o2)]
            exact List.perm_middle.symm
        · rw [hh]
          exact Mv.head hp hd (by rw [vp, hcH]; omega)
        · rw [hh]
          dsimp only
          rw [ld1, vp, hcH]
        · rw [hh]
          exact zY (fun e => hne e.symm)
      · left
        have hsw : sw m c.Head c.H (yh (c.H >>> 32 + 1#64) c.X) = (m, false) := by unfold sw; rw [if_neg hs]
        rw [hsw]
        exact ⟨ho, L, Mv.refl _ _ _ _, ⟨fun e => (by simp at e), fun e => (by simp at e), fun e => (by simp at e)⟩, fun _ _ => rfl⟩
end
end Go.Pe.G
namespace Go.Pe.G
open Go.Pe
noncomputable section
structure Gh where
  F : List Int
  E : List Int
  D : Int → List Int
  t : Int → Nat
  c : Int → Nat
def yY (s : za) (b : Int) : List Int := (s.Bins[b.toNat]?).getD []
def yu (p : zb) (s : za) (g : Gh) : List Int := g.F.flatMap (yY s) ++ (List.range p.Workers.toNat).flatMap (fun i : Nat => g.D ((i : Int) + 1))
structure SX (p : zb) (nb : Nat) (s : za) (g : Gh) (own : List Int) (k : Nat) : Prop where
  S : SOk p nb s
  L : LI p nb s.M (zN p) (zv p) g.F g.E own
  D : ∀ w, 1 ≤ w → w ≤ p.Workers → DQ p s.M w (g.t w) (g.D w) (g.c w)
  v : yp (ld s.M (zN p)) ≤ k ∧ yp (ld s.M (zv p)) ≤ k
  dk : ∀ w, 1 ≤ w → w ≤ p.Workers → g.t w + (g.D w).length ≤ k + 1000
inductive DFr (p : zb) (m m' : List (BitVec 64)) (g g' : Gh) (w : Int) : Prop
  | same (e1 : g'.t w = g.t w) (e2 : g'.D w = g.D w) (e3 : g'.c w = g.c w) (e4 : ∀ a, zB p w ≤ a → a < zB p w + p.Cap + 2 → ld m' a = ld m a) : DFr p m m' g g' w
  | stolen (x : Int) (e1 : g'.t w = g.t w + 1) (e2 : g.D w = x :: g'.D w) (e3 : g'.c w = g.c w) (e4 : ∀ a, zB p w < a → a < zB p w + p.Cap + 2 → ld m' a = ld m a) : DFr p m m' g g' w
structure FX (p : zb) (nb : Nat) (X : List Int) (O : Int → Prop) (s s' : za) (g g' : Gh) : Prop where
  mv : Mv p nb X s.M s'.M
  bn : ∀ b, 1 ≤ b → b ∉ X → s'.Bins[b.toNat]? = s.Bins[b.toNat]?
  dq : ∀ w, 1 ≤ w → w ≤ p.Workers → DFr p s.M s'.M g g' w ∨ (O w ∧ Dv (g.t w) (g.D w) (g'.t w) (g'.D w))
theorem DFr.dv {p : zb} {m m' : List (BitVec 64)} {g g' : Gh} {w : Int} (h : DFr p m m' g g' w) : Dv (g.t w) (g.D w) (g'.t w) (g'.D w) := by
  cases h with
  | same t l c m => rw [t, l]; exact Dv.refl _ _
  | stolen x t l c m => exact ⟨by omega, fun e => by omega⟩
theorem FX.dv {p : zb} {nb : Nat} {X : List Int} {O : Int → Prop} {s s' : za} {g g' : Gh} (h : FX p nb X O s s' g g') {w : Int} (h1 : 1 ≤ w) (h2 : w ≤ p.Workers) : Dv (g.t w) (g.D w) (g'.t w) (g'.D w) := by
  rcases h.dq w h1 h2 with h | h
  · exact h.dv
  · exact h.2
theorem FX.tk {p : zb} {nb : Nat} {X : List Int} {O : Int → Prop} {s s' : za} {g g' : Gh} (h : FX p nb X O s s' g g') {w : Int} (h1 : 1 ≤ w) (h2 : w ≤ p.Workers) {d : zg} (K : TK p s.M w (g.t w) (g.D w) d) : TK p s'.M w (g'.t w) (g'.D w) d := K.dv (h.dv h1 h2)
theorem FX.pk {p : zb} (hp : zr p) {nb : Nat} {X : List Int} {O : Int → Prop} {s s' : za} {g g' : Gh} (h : FX p nb X O s s' g g') {w : Int} (h1 : 1 ≤ w) (h2 : w ≤ p.Workers) (ho : ¬ O w) {d : zg} (K : PK p s.M w (g.t w) (g.D w) (g.c w) d) : PK p s'.M w (g'.t w) (g'.D w) (g'.c w) d := by
  rcases h.dq w h1 h2 with h | h
  · cases h with
    | same t l c m => rw [t, l, c]; exact K.keep
    | stolen x t l c m => rw [l] at K; rw [t, c]; exact K.stolen hp ⟨h1, h2⟩
  · exact absurd h.1 ho
theorem FX.dk {p : zb} (hp : zr p) {nb : Nat} {X : List Int} {O : Int → Prop} {s s' : za} {g g' : Gh} (h : FX p nb X O s s' g g') {w : Int} (h1 : 1 ≤ w) (h2 : w ≤ p.Workers) (ho : ¬ O w) {d : zg} (K : DK p s.M w (g.t w) (g.D w) (g.c w) d) : DK p s'.M w (g'.t w) (g'.D w) (g'.c w) d := by
  have hc := hp.cap
  rcases h.dq w h1 h2 with h | h
  · cases h with
    | same t l c m => rw [t, l, c]; exact K.keep hp (fun a h1 h2 => m a (by omega) h2)
    | stolen x t l c m =>
      rw [l] at K
      have K' : DK p s'.M w (g.t w) (x :: g'.D w) (g.c w) d := K.keep hp (fun a h1 h2 => m a (by omega) h2)
      rw [t, c]
      exact K'.stolen (m' := s'.M) (fun _ _ => rfl) hp
  · exact absurd h.1 ho
def yI (g : zd) : List Int := if g.Out = 0 ∧ (g.PC = 6 ∨ g.PC = 7) then [g.Bin] else []
def yg (g : zd) : List Int := if g.Out = 0 ∧ 3 ≤ g.PC ∧ g.PC ≤ 7 then [g.Obj] else []
structure GX (p : zb) (s : za) (gh : Gh) (g : zd) : Prop where
  o : g.Out = 0 ∨ g.Out = 1
  pc : 0 ≤ g.PC ∧ g.PC ≤ 7
  md : 1 ≤ g.Mode ∧ g.Mode ≤ 3
  ob : 1 ≤ g.Obj ∧ g.Obj ≤ 64
  c0 : g.Mode = 1 → g.Out = 0 → gh.c g.Who = 0
  c5 : g.PC = 5 → g.Out = 0 → g.C.Out = 0 ∧ (0 ≤ g.C.PC ∧ g.C.PC ≤ 2) ∧ CK p s.M g.C
  c7 : g.PC = 7 → g.Out = 0 → g.C.Out = 0 ∧ (0 ≤ g.C.PC ∧ g.C.PC ≤ 2) ∧ g.C.X = g.Bin ∧ CK p s.M g.C ∧ s.Bins[g.Bin.toNat]? = some [g.Obj]
  d3 : g.PC = 3 → g.Out = 0 → g.Mode = 1 ∧ g.D.X = g.Obj ∧ DK p s.M g.Who (gh.t g.Who) (gh.D g.Who) (gh.c g.Who) g.D
theorem GX.other {p : zb} (hp : zr p) {nb k : Nat} {s s' : za} {gh gh' : Gh} {X R : List Int} {O : Int → Prop} {o : zd} (Y : SX p nb s gh (X ++ R) k) (Fx : FX p nb X O s s' gh gh') (G : GX p s gh o) (M : MOk p nb o)
    (hR : ∀ x ∈ yI o, x ∈ R) (apart : o.Mode = 1 → ¬ O o.Who) : GX p s' gh' o := by
  have hsub : ∀ x ∈ X, x ∈ X ++ R := fun x hx => List.mem_append_left _ hx
  have hnd := (List.nodup_append.1 Y.L.nodup).2.1
  have hnot : ∀ x, x ∈ yI o → x ∉ X := fun x hx hg => (List.nodup_append.1 hnd).2.2 x hg x (hR x hx) rfl
  refine ⟨G.o, G.pc, G.md, G.ob, fun h1 h0 => ?_, fun h5 h0 => ?_, fun h7 h0 => ?_, fun h3 h0 => ?_⟩
  · have hw := M.who h1
    rcases Fx.dq o.Who hw.1 hw.2 with h | h
    · cases h with
      | same t l c m => rw [c]; exact G.c0 h1 h0
      | stolen x t l c m => rw [c]; exact G.c0 h1 h0
    · exact absurd h.1 (apart h1)
  · obtain ⟨a, b, c⟩ := G.c5 h5 h0
    obtain ⟨m1, m2, m3, m4, m5⟩ := M.c5 h5
    exact ⟨a, b, c.mv Y.L Fx.mv hsub (.inr m2) (fun h _ => m4 h) (fun e => by omega)⟩
  · obtain ⟨a, b, c, d, e⟩ := G.c7 h7 h0
    obtain ⟨m1, m2, m3, m4, m5⟩ := M.c7 h7
    have hown : o.Bin ∈ yI o := by unfold yI; rw [if_pos ⟨h0, .inr h7⟩]; simp
    have hno := hnot _ hown
    exact ⟨a, b, c, d.mv Y.L Fx.mv hsub (.inl m2) (fun _ e => by omega) (fun _ => ⟨m4.1, m4.2, by rw [c]; exact hno⟩), by rw [Fx.bn o.Bin (by rw [← c]; exact m4.1) hno]; exact e⟩
  · obtain ⟨a, b, c⟩ := G.d3 h3 h0
    have hw := M.who a
    exact ⟨a, b, Fx.dk hp hw.1 hw.2 (apart a) c⟩
theorem XB (m : List (BitVec 64)) {c : zp} (h : c.Out = 0) (hpc : 0 ≤ c.PC ∧ c.PC ≤ 2) (hk : c.Kind = 1 ∨ c.Kind = 2) :
    ((zl m c).2.Out = 0 ∧ 0 ≤ (zl m c).2.PC ∧ (zl m c).2.PC ≤ 2) ∨ (zl m c).2.Out = 1 ∨ ((zl m c).2.Out = 2 ∧ c.Kind = 2) := by
  unfold zl
  rw [if_neg (by omega)]
  split
  · dsimp only
    split
    · rename_i e; exact .inr (.inr ⟨rfl, e.1⟩)
    · exact .inl ⟨h, by show (0 : Int) ≤ 1; decide, by show (1 : Int) ≤ 2; decide⟩
  split
  · split <;> exact .inl ⟨h, by show (0 : Int) ≤ 2; decide, by show (2 : Int) ≤ 2; decide⟩
  · dsimp only
    generalize sw m c.Head c.H _ = r
    split
    · split <;> exact .inr (.inl rfl)
    · exact .inl ⟨h, by show (0 : Int) ≤ 0; decide, by show (0 : Int) ≤ 2; decide⟩
theorem zha (m : List (BitVec 64)) (c : zp) : (zl m c).2.Kind = c.Kind ∧ (zl m c).2.Head = c.Head ∧ (zl m c).2.Next = c.Next ∧ (c.Kind = 1 → (zl m c).2.X = c.X) := by
  unfold zl
  split
  · exact ⟨rfl, rfl, rfl, fun _ => rfl⟩
  split
  · dsimp only; split <;> exact ⟨rfl, rfl, rfl, fun _ => rfl⟩
  split
  · split <;> exact ⟨rfl, rfl, rfl, fun _ => rfl⟩
  · dsimp only
    generalize sw m c.Head c.H _ = r
    split
    · split
      · rename_i e; exact ⟨rfl, rfl, rfl, fun e2 => by omega⟩
      · exact ⟨rfl, rfl, rfl, fun _ => rfl⟩
    · exact ⟨rfl, rfl, rfl, fun _ => rfl⟩
theorem SX.quiet {p : zb} {nb k : Nat} {s s' : za} {g : Gh} {own : List Int} (X : SX p nb s g own k) (S' : SOk p nb s') (hm : s'.M = s.M) : SX p nb s' g own (k + 1) :=
  ⟨S', by rw [hm]; exact X.L, by rw [hm]; exact X.D, by rw [hm]; exact ⟨Nat.le_succ_of_le X.v.1, Nat.le_succ_of_le X.v.2⟩, fun w h1 h2 => by have := X.dk w h1 h2; omega⟩
theorem FX.quiet {p : zb} {nb : Nat} {X : List Int} {O : Int → Prop} {s s' : za} {g : Gh} (hm : s'.M = s.M) (hb : ∀ b, 1 ≤ b → b ∉ X → s'.Bins[b.toNat]? = s.Bins[b.toNat]?) : FX p nb X O s s' g g :=
  ⟨by rw [hm]; exact Mv.refl _ _ _ _, hb, fun _ _ _ => .inl (.same rfl rfl rfl (fun _ _ _ => by rw [hm]))⟩
theorem Yj {p : zb} {s s' : za} {g : Gh} (hb : s'.Bins = s.Bins) : yu p s' g = yu p s g := by
  unfold yu yY; rw [hb]
theorem xF {g : zd} (h : g.Out ≠ 0 ∨ (g.PC ≠ 6 ∧ g.PC ≠ 7)) : yI g = [] := by unfold yI; rw [if_neg (by omega)]
theorem zcu {g : zd} (h : g.Out = 0) (h2 : g.PC = 6 ∨ g.PC = 7) : yI g = [g.Bin] := by unfold yI; rw [if_pos ⟨h, h2⟩]
theorem vO {g : zd} (h : g.Out ≠ 0 ∨ g.PC < 3 ∨ 7 < g.PC) : yg g = [] := by unfold yg; rw [if_neg (by omega)]
theorem xC {g : zd} (h : g.Out = 0) (h2 : 3 ≤ g.PC) (h3 : g.PC ≤ 7) : yg g = [g.Obj] := by unfold yg; rw [if_pos ⟨h, h2, h3⟩]
theorem GX.ask {p : zb} {s : za} {gh : Gh} {g : zd} (o : g.Out = 0) (md : 1 ≤ g.Mode ∧ g.Mode ≤ 3) (ob : 1 ≤ g.Obj ∧ g.Obj ≤ 64) (c0 : g.Mode = 1 → gh.c g.Who = 0) (q : zb) : GX p s gh (Y2 q g) :=
  ⟨.inl o, ⟨by show (0 : Int) ≤ 5; decide, by show (5 : Int) ≤ 7; decide⟩, md, ob, fun h _ => c0 h,
    fun _ _ => ⟨rfl, ⟨by show (0 : Int) ≤ 0; decide, by show (0 : Int) ≤ 2; decide⟩, ⟨fun e => absurd e (by show ¬ (1 : Int) ≤ 0; decide), fun e => absurd e (by show ¬ (0 : Int) = 2; decide), fun e => absurd e (by show ¬ (0 : Int) = 2; decide)⟩⟩,
    fun e => absurd e (by show ¬ (5 : Int) = 7; decide), fun e => absurd e (by show ¬ (5 : Int) = 3; decide)⟩
theorem GX.plain {p : zb} {s : za} {gh : Gh} {g : zd} (o : g.Out = 0 ∨ g.Out = 1) (pc : 0 ≤ g.PC ∧ g.PC ≤ 7) (md : 1 ≤ g.Mode ∧ g.Mode ≤ 3) (ob : 1 ≤ g.Obj ∧ g.Obj ≤ 64) (c0 : g.Mode = 1 → g.Out = 0 → gh.c g.Who = 0) (h : g.Out ≠ 0 ∨ (g.PC ≠ 3 ∧ g.PC ≠ 5 ∧ g.PC ≠ 7)) : GX p s gh g :=
  ⟨o, pc, md, ob, c0, fun e e2 => by omega, fun e e2 => by omega, fun e e2 => by omega⟩
def zlx (g : zd) (w : Int) : Prop := g.Mode = 1 ∧ w = g.Who
def zgJ (p : zb) (nb k : Nat) (R : List Int) (gh : Gh) (s : za) (g : zd) (s' : za) (g' : zd) : Prop :=
  ∃ gh', SX p nb s' gh' (yI g' ++ R) (k + 1) ∧ GX p s' gh' g' ∧ FX p nb (yI g) (zlx g) s s' gh gh' ∧ (g.Mode = 1 → g.Out = 0 → gh'.c g.Who = 0) ∧ (∀ b ∈ gh'.F, b ∈ gh.F ∨ yY s' b ≠ []) ∧
    ∃ N, List.Perm (yu p s' gh' ++ yg g') (N ++ (yu p s gh ++ yg g)) ∧
      ((N = [] ∧ s'.T = s.T) ∨ (N = [g.Obj] ∧ ¬ (s.T.Marks ||| bit g.Obj = s.T.Marks) ∧ s'.T = { s.T with Marks := s.T.Marks ||| bit g.Obj }))
theorem zgJ.quiet {p : zb} {nb k : Nat} {R : List Int} {gh : Gh} {s s' : za} {g g' : zd} (X : SX p nb s gh (yI g ++ R) k) (S' : SOk p nb s') (hm : s'.M = s.M) (hb : s'.Bins = s.Bins) (hT : s'.T = s.T)
    (ho : yI g' = yI g) (hh : yg g' = yg g) (c0 : g.Mode = 1 → g.Out = 0 → gh.c g.Who = 0) (G' : GX p s' gh g') : zgJ p nb k R gh s g s' g' :=
  ⟨gh, by rw [ho]; exact X.quiet S' hm, G', FX.quiet hm (fun _ _ _ => by rw [hb]), c0, fun _ h => .inl h, [], by rw [Yj hb, hh]; exact List.Perm.refl _, .inl ⟨rfl, hT⟩⟩
theorem zfQ (m : List (BitVec 64)) {c : zp} (hk : c.Kind = 2) {a : Int} (ha : a ≠ c.Head) : ld (zl m c).1 a = ld m a := by
  unfold zl
  split
  · rfl
  split
  · rfl
  split
  · rfl
  · dsimp only
    unfold sw
    split
    · exact zY (fun e => ha e.symm)
    · rfl
theorem Chn.congr {m m' : List (BitVec 64)} {N : Int} {nb : Nat} (hm : ∀ x : Int, 1 ≤ x → ld m' (N + x) = ld m (N + x)) : ∀ {l : List Int} {h : Int}, Chn m N nb h l → Chn m' N nb h l
  | [], h, c => c
  | y :: l, h, c => ⟨c.1, c.2.1, c.2.2.1, by rw [hm y c.2.1]; exact Chn.congr hm c.2.2.2⟩
theorem LI.low {p : zb} (hp : zr p) {nb : Nat} {m m' : List (BitVec 64)} {h1 h2 : Int} {F E own : List Int} (L : LI p nb m h1 h2 F E own) (hl : m'.length = m.length) (hm : ∀ a, zN p ≤ a → ld m' a = ld m a) : LI p nb m' h1 h2 F E own := by
  have hE := yM hp
  have h : h1 = zN p ∨ h1 = zv p := by rcases L.hs with g | g <;> simp [g]
  have h' : h2 = zN p ∨ h2 = zv p := by rcases L.hs with g | g <;> simp [g]
  exact ⟨L.hs, by rw [hm h1 (by omega)]; exact L.cF.congr (fun x hx => hm _ (by omega)), by rw [hm h2 (by omega)]; exact L.cE.congr (fun x hx => hm _ (by omega)), L.all, by rw [hl]; exact L.len⟩
theorem Mv.low {p : zb} (hp : zr p) {nb : Nat} {X : List Int} {m m' : List (BitVec 64)} (hm : ∀ a, zN p ≤ a → ld m' a = ld m a) : Mv p nb X m m' := by
  have hE := yM hp
  exact ⟨fun h hh => by rw [hm h (by omega)]; exact ⟨Nat.le_refl _, .inl rfl⟩, fun x hx _ _ => hm _ (by omega)⟩
theorem znk {p : zb} (hp : zr p) {v w : Int} (hv : 1 ≤ v ∧ v ≤ p.Workers) (hw : 1 ≤ w ∧ w ≤ p.Workers) (h : v ≠ w) : zB p v + p.Cap + 2 ≤ zB p w ∨ zB p w + p.Cap + 2 ≤ zB p v := by
  have hk := hp.wk
  have hc := hp.cap
  have h1 := (vz hp hv.1 hv.2).1
  have h2 := (vz hp hw.1 hw.2).1
  have hx : v = 1 ∨ v = 2 ∨ v = 3 := by omega
  have hy : w = 1 ∨ w = 2 ∨ w = 3 := by omega
  rw [h1, h2]
  rcases hx with rfl | rfl | rfl <;> rcases hy with rfl | rfl | rfl <;> omega
theorem zko {p : zb} (hp : zr p) {w : Int} (hw : 1 ≤ w ∧ w ≤ p.Workers) {m m' : List (BitVec 64)} (hm : ∀ a, (a < zB p w ∨ zB p w + p.Cap + 2 ≤ a) → ld m' a = ld m a) : (∀ a, zN p ≤ a → ld m' a = ld m a) ∧
    ∀ v, 1 ≤ v → v ≤ p.Workers → v ≠ w → ∀ a, zB p v ≤ a → a < zB p v + p.Cap + 2 → ld m' a = ld m a := by
  have hd := vz hp hw.1 hw.2
  refine ⟨fun a ha => hm a (by omega), fun v h1 h2 hne a h3 h4 => hm a ?_⟩
  have := znk hp ⟨h1, h2⟩ hw hne
  omega
def Zk (g : Gh) (w : Int) (t : Nat) (l : List Int) (c : Nat) : Gh := { g with D := fun v => if v = w then l else g.D v, t := fun v => if v = w then t else g.t v, c := fun v => if v = w then c else g.c v }
theorem vY {g : Gh} {w v : Int} {t c : Nat} {l : List Int} (h : v ≠ w) : (Zk g w t l c).D v = g.D v ∧ (Zk g w t l c).t v = g.t v ∧ (Zk g w t l c).c v = g.c v := by
  unfold Zk; dsimp only; rw [if_neg h, if_neg h, if_neg h]; exact ⟨rfl, rfl, rfl⟩
theorem yP {g : Gh} {w : Int} {t c : Nat} {l : List Int} : (Zk g w t l c).D w = l ∧ (Zk g w t l c).t w = t ∧ (Zk g w t l c).c w = c := by
  unfold Zk; dsimp only; rw [if_pos rfl, if_pos rfl, if_pos rfl]; exact ⟨rfl, rfl, rfl⟩
theorem SX.dq {p : zb} (hp : zr p) {nb k : Nat} {s s' : za} {g : Gh} {own : List Int} (X : SX p nb s g own k) (S' : SOk p nb s') (hl : s'.M.length = s.M.length) {w : Int} (hw : 1 ≤ w ∧ w ≤ p.Workers)
    (hm : ∀ a, (a < zB p w ∨ zB p w + p.Cap + 2 ≤ a) → ld s'.M a = ld s.M a) {t c : Nat} {l : List Int} (D : DQ p s'.M w t l c) (hk : t + l.length ≤ k + 1 + 1000) : SX p nb s' (Zk g w t l c) own (k + 1) := by
  obtain ⟨h1, h2⟩ := zko hp hw hm
  have hE := yM hp
  refine ⟨S', X.L.low hp hl h1, fun v a b => ?_, ?_, fun v a b => ?_⟩
  · by_cases e : v = w
    · subst e
      rw [yP.1, yP.2.1, yP.2.2]; exact D
    · rw [(vY e).1, (vY e).2.1, (vY e).2.2]
      exact (X.D v a b).keep hp (h2 v a b e)
  · rw [h1 _ (by omega), h1 _ (by omega)]
    exact ⟨Nat.le_succ_of_le X.v.1, Nat.le_succ_of_le X.v.2⟩
  · by_cases e : v = w
    · subst e
      rw [yP.1, yP.2.1]; exact hk
    · rw [(vY e).1, (vY e).2.1]
      have := X.dk v a b; omega
theorem FX.own {p : zb} (hp : zr p) {nb : Nat} {Y : List Int} {O : Int → Prop} {s s' : za} {g : Gh} {w : Int} (hw : 1 ≤ w ∧ w ≤ p.Workers)
    (hm : ∀ a, (a < zB p w ∨ zB p w + p.Cap + 2 ≤ a) → ld s'.M a = ld s.M a) (hb : s'.Bins = s.Bins) {t c : Nat} {l : List Int} (hO : O w) (V : Dv (g.t w) (g.D w) t l) : FX p nb Y O s s' g (Zk g w t l c) := by
  obtain ⟨h1, h2⟩ := zko hp hw hm
  refine ⟨Mv.low hp h1, fun b _ _ => by rw [hb], fun v a b => ?_⟩
  by_cases e : v = w
  · subst e
    right
    rw [yP.1, yP.2.1]; exact ⟨hO, V⟩
  · exact .inl (.same (vY e).2.1 (vY e).1 (vY e).2.2 (h2 v a b e))
theorem vD {α β : Type} {f g : α → List β} : ∀ {l : List α}, (∀ x ∈ l, f x = g x) → l.flatMap f = l.flatMap g
  | [], _ => rfl
  | a :: l, h => by rw [List.flatMap_cons, List.flatMap_cons, h a (by simp), vD (fun x hx => h x (List.mem_cons_of_mem _ hx))]
theorem znB {n : Nat} {i : Nat} (h : i < n) : ∃ a b, List.range n = a ++ i :: b ∧ i ∉ a ∧ i ∉ b := by
  refine ⟨List.range i, (List.range (n - i - 1)).map (fun j => i + 1 + j), ?_, by simp, by simp; omega⟩
  have : n = i + (1 + (n - i - 1)) := by omega
  rw [this, List.range_add, List.range_add]
  simp [List.range_succ, Nat.add_assoc, Function.comp_def]
theorem zgd {p : zb} {s s' : za} {g : Gh} (hb : s'.Bins = s.Bins) {w : Int} (hw : 1 ≤ w ∧ w ≤ p.Workers) {t c : Nat} {l : List Int} : ∃ a b, yu p s g = a ++ g.D w ++ b ∧ yu p s' (Zk g w t l c) = a ++ l ++ b := by
  obtain ⟨a, b, e, ha, hb'⟩ := znB (n := p.Workers.toNat) (i := (w - 1).toNat) (by omega)
  have ew : (((w - 1).toNat : Nat) : Int) + 1 = w := by omega
  have ne : ∀ j : Nat, j ≠ (w - 1).toNat → (j : Int) + 1 ≠ w := fun j hj e => hj (by omega)
  refine ⟨g.F.flatMap (yY s) ++ a.flatMap (fun i : Nat => g.D ((i : Int) + 1)), b.flatMap (fun i : Nat => g.D ((i : Int) + 1)), ?_, ?_⟩
  · unfold yu
    rw [e, List.flatMap_append, List.flatMap_cons, ew]
    simp [List.append_assoc]
  · unfold yu yY
    rw [hb, e, List.flatMap_append, List.flatMap_cons, ew, yP.1]
    have h1 : a.flatMap (fun i : Nat => (Zk g w t l c).D ((i : Int) + 1)) = a.flatMap (fun i : Nat => g.D ((i : Int) + 1)) := by
      refine vD (fun j hj => ?_); exact (vY (ne j (fun e => ha (e ▸ hj)))).1
    have h2 : b.flatMap (fun i : Nat => (Zk g w t l c).D ((i : Int) + 1)) = b.flatMap (fun i : Nat => g.D ((i : Int) + 1)) := by
      refine vD (fun j hj => ?_); exact (vY (ne j (fun e => hb' (e ▸ hj)))).1
    rw [h1, h2]
    have hF : (Zk g w t l c).F = g.F := rfl
    rw [hF]
    simp [List.append_assoc]
theorem Mv.weak {p : zb} {nb : Nat} {m m' : List (BitVec 64)} (M : Mv p nb [] m m') (Y : List Int) : Mv p nb Y m m' := ⟨M.hd, fun x a b _ => M.nx x a b (by simp)⟩
theorem Mv.grow {p : zb} {nb : Nat} {X Y : List Int} {m m' : List (BitVec 64)} (M : Mv p nb X m m') (h : ∀ x ∈ X, x ∈ Y) : Mv p nb Y m m' := ⟨M.hd, fun x a b c => M.nx x a b (fun e => c (h x e))⟩
theorem SX.chain {p : zb} (hp : zr p) {nb k : Nat} {s s' : za} {g : Gh} {own own' F E : List Int} (X : SX p nb s g own k) (S' : SOk p nb s') (hlow : ∀ a, a < zN p → ld s'.M a = ld s.M a) (L' : LI p nb s'.M (zN p) (zv p) F E own')
    (hv : yp (ld s'.M (zN p)) ≤ k + 1 ∧ yp (ld s'.M (zv p)) ≤ k + 1) : SX p nb s' { g with F := F, E := E } own' (k + 1) :=
  ⟨S', L', fun w h1 h2 => (X.D w h1 h2).keep hp (fun a h3 h4 => hlow a (by have := vz hp h1 h2; omega)), hv, fun w h1 h2 => by have := X.dk w h1 h2; show g.t w + (g.D w).length ≤ _; omega⟩
theorem FX.chain {p : zb} (hp : zr p) {nb : Nat} {Y : List Int} {O : Int → Prop} {s s' : za} {g : Gh} {F E : List Int} (M : Mv p nb Y s.M s'.M) (hb : s'.Bins = s.Bins) (hlow : ∀ a, a < zN p → ld s'.M a = ld s.M a) : FX p nb Y O s s' g { g with F := F, E := E } :=
  ⟨M, fun _ _ _ => by rw [hb], fun w h1 h2 => .inl (.same rfl rfl rfl (fun a h3 h4 => hlow a (by have := vz hp h1 h2; omega)))⟩
theorem SX.popE {p : zb} (hp : zr p) {nb k : Nat} {s : za} {g : Gh} {own : List Int} (X : SX p nb s g own k) (hk : k < 4294960000) {c : zp} (kd : c.Kind = 2) (hh : c.Head = zv p) (hN : c.Next = zv p) (ho : c.Out = 0) (hpc : 0 ≤ c.PC ∧ c.PC ≤ 2) (K : CK p s.M c)
    (hn : 1 ≤ c.PC → 1 ≤ zT c.H ∧ zT c.H < nb) (S' : SOk p nb { s with M := (zl s.M c).1 }) :
    ((zl s.M c).1 = s.M ∧ (zl s.M c).2.Out ≠ 1 ∧ CK p s.M (zl s.M c).2 ∧ ((zl s.M c).2.Out = 2 → g.E = [])) ∨
    (∃ x l, g.E = x :: l ∧ (zl s.M c).2.Out = 1 ∧ (zl s.M c).2.X = x ∧ SX p nb { s with M := (zl s.M c).1 } { g with E := l } (x :: own) (k + 1) ∧ ∀ Y O, FX p nb Y O s { s with M := (zl s.M c).1 } g { g with E := l }) := by
  have hE := yM hp
  have hnb := X.S.nbk
  have hv := X.v
  have hcells := fun a (ha : a ≠ c.Head) => zfQ s.M kd ha
  rcases zmR hp hnb.2 (L := X.L.swap) kd hh hN ho hpc K hn (by omega) with ⟨a, b, e, d⟩ | ⟨x, l, a, b, e, d, f, v1, v2⟩
  · exact .inl ⟨a, b, d, e⟩
  · refine .inr ⟨x, l, a, b, e, X.chain hp S' (fun a ha => hcells a (by omega)) d.swap ?_, fun Y O => FX.chain hp (f.weak Y) rfl (fun a ha => hcells a (by omega))⟩
    rw [v2, v1]; omega
theorem SX.popF {p : zb} (hp : zr p) {nb k : Nat} {s : za} {g : Gh} {own : List Int} (X : SX p nb s g own k) (hk : k < 4294960000) {c : zp} (kd : c.Kind = 2) (hh : c.Head = zN p) (hN : c.Next = zv p) (ho : c.Out = 0) (hpc : 0 ≤ c.PC ∧ c.PC ≤ 2) (K : CK p s.M c)
    (hn : 1 ≤ c.PC → 1 ≤ zT c.H ∧ zT c.H < nb) (S' : SOk p nb { s with M := (zl s.M c).1 }) :
    ((zl s.M c).1 = s.M ∧ (zl s.M c).2.Out ≠ 1 ∧ CK p s.M (zl s.M c).2 ∧ ((zl s.M c).2.Out = 2 → g.F = [])) ∨
    (∃ x l, g.F = x :: l ∧ (zl s.M c).2.Out = 1 ∧ (zl s.M c).2.X = x ∧ SX p nb { s with M := (zl s.M c).1 } { g with F := l } (x :: own) (k + 1) ∧ ∀ Y O, FX p nb Y O s { s with M := (zl s.M c).1 } g { g with F := l }) := by
  have hE := yM hp
  have hnb := X.S.nbk
  have hv := X.v
  have hcells := fun a (ha : a ≠ c.Head) => zfQ s.M kd ha
  rcases zmR hp hnb.2 (L := X.L) kd hh hN ho hpc K hn (by omega) with ⟨a, b, e, d⟩ | ⟨x, l, a, b, e, d, f, v1, v2⟩
  · exact .inl ⟨a, b, d, e⟩
  · refine .inr ⟨x, l, a, b, e, X.chain hp S' (fun a ha => hcells a (by omega)) d ?_, fun Y O => FX.chain hp (f.weak Y) rfl (fun a ha => hcells a (by omega))⟩
    rw [v2, v1]; omega
theorem SX.pushF {p : zb} (hp : zr p) {nb k : Nat} {s : za} {g : Gh} {o1 o2 : List Int} {b : Int} (X : SX p nb s g (o1 ++ b :: o2) k) (hk : k < 4294960000) {c : zp} (kd : c.Kind = 1) (hh : c.Head = zN p) (hN : c.Next = zv p) (hX : c.X = b) (ho : c.Out = 0) (hpc : 0 ≤ c.PC ∧ c.PC ≤ 2) (K : CK p s.M c)
    (hn : 1 ≤ c.PC → zT c.H < nb) (S' : SOk p nb { s with M := (zl s.M c).1 }) :
    ((zl s.M c).2.Out = 0 ∧ SX p nb { s with M := (zl s.M c).1 } g (o1 ++ b :: o2) (k + 1) ∧ CK p (zl s.M c).1 (zl s.M c).2 ∧ (∀ Y O, b ∈ Y → FX p nb Y O s { s with M := (zl s.M c).1 } g g)) ∨
    ((zl s.M c).2.Out = 1 ∧ SX p nb { s with M := (zl s.M c).1 } { g with F := b :: g.F } (o1 ++ o2) (k + 1) ∧ (∀ Y O, FX p nb Y O s { s with M := (zl s.M c).1 } g { g with F := b :: g.F })) := by
  have hE := yM hp
  have hnb := X.S.nbk
  have hv := X.v
  rcases zkA hp hnb.2 (L := X.L) kd hh hN hX ho hpc K hn (by omega) with ⟨a, l, d, e, f⟩ | ⟨a, l, d, e, f⟩
  · refine .inl ⟨a, X.chain hp S' (fun a ha => f a (by omega)) l ?_, e, fun Y O hb => FX.chain hp (d.grow (fun x hx => by rw [List.mem_singleton.1 hx]; exact hb)) rfl (fun a ha => f a (by omega))⟩
    show yp (ld (zl s.M c).1 (zN p)) ≤ _ ∧ yp (ld (zl s.M c).1 (zv p)) ≤ _
    rw [f _ (by omega), f _ (by omega)]; omega
  · refine .inr ⟨a, X.chain hp S' (fun a ha => f a (by omega) (by omega)) l ?_, fun Y O => FX.chain hp (d.weak Y) rfl (fun a ha => f a (by omega) (by omega))⟩
    show yp (ld (zl s.M c).1 (zN p)) ≤ _ ∧ yp (ld (zl s.M c).1 (zv p)) ≤ _
    have f' := f (zv p) (by omega) (by omega)
    rw [f']; omega
theorem SX.pushE {p : zb} (hp : zr p) {nb k : Nat} {s : za} {g : Gh} {o1 o2 : List Int} {b : Int} (X : SX p nb s g (o1 ++ b :: o2) k) (hk : k < 4294960000) {c : zp} (kd : c.Kind = 1) (hh : c.Head = zv p) (hN : c.Next = zv p) (hX : c.X = b) (ho : c.Out = 0) (hpc : 0 ≤ c.PC ∧ c.PC ≤ 2) (K : CK p s.M c)
    (hn : 1 ≤ c.PC → zT c.H < nb) (S' : SOk p nb { s with M := (zl s.M c).1 }) :
    ((zl s.M c).2.Out = 0 ∧ SX p nb { s with M := (zl s.M c).1 } g (o1 ++ b :: o2) (k + 1) ∧ CK p (zl s.M c).1 (zl s.M c).2 ∧ (∀ Y O, b ∈ Y → FX p nb Y O s { s with M := (zl s.M c).1 } g g)) ∨
    ((zl s.M c).2.Out = 1 ∧ SX p nb { s with M := (zl s.M c).1 } { g with E := b :: g.E } (o1 ++ o2) (k + 1) ∧ (∀ Y O, FX p nb Y O s { s with M := (zl s.M c).1 } g { g with E := b :: g.E })) := by
  have hE := yM hp
  have hnb := X.S.nbk
  have hv := X.v
  rcases zkA hp hnb.2 (L := X.L.swap) kd hh hN hX ho hpc K hn (by omega) with ⟨a, l, d, e, f⟩ | ⟨a, l, d, e, f⟩
  · refine .inl ⟨a, X.chain hp S' (fun a ha => f a (by omega)) l.swap ?_, e, fun Y O hb => FX.chain hp (d.grow (fun x hx => by rw [List.mem_singleton.1 hx]; exact hb)) rfl (fun a ha => f a (by omega))⟩
    show yp (ld (zl s.M c).1 (zN p)) ≤ _ ∧ yp (ld (zl s.M c).1 (zv p)) ≤ _
    rw [f _ (by omega), f _ (by omega)]; omega
  · refine .inr ⟨a, X.chain hp S' (fun a ha => f a (by omega) (by omega)) l.swap ?_, fun Y O => FX.chain hp (d.weak Y) rfl (fun a ha => f a (by omega) (by omega))⟩
    show yp (ld (zl s.M c).1 (zN p)) ≤ _ ∧ yp (ld (zl s.M c).1 (zv p)) ≤ _
    have f' := f (zN p) (by omega) (by omega)
    rw [f']; omega
end
end Go.Pe.G
namespace Go.Pe.G
open Go.Pe
noncomputable section
structure u5 (s : za) : Prop where
  m : s.M.length < 1000000
  bins : s.Bins.length < 1000000
  bin : ∀ x ∈ s.Bins, x.length < 1000000
  acks : s.Acks.length < 1000000
  bal : s.L.Bal.length < 1000000
  ws : s.Ws.length < 1000000
  w : ∀ x ∈ s.Ws, x.Batch.length < 1000000
  ms : s.Ms.length < 1000000
  mu : ∀ x ∈ s.Ms, x.Regs.length < 1000000 ∧ x.Buf.length < 1000000 ∧ x.Batch.length < 1000000
  objs : s.H.Objs.length < 1000000
  obj : ∀ x ∈ s.H.Objs, x.length < 1000000
  pobjs : s.P.H.Objs.length < 1000000
  pobj : ∀ x ∈ s.P.H.Objs, x.length < 1000000
  regs : s.P.Regs.length < 1000000
  reg : ∀ x ∈ s.P.Regs, x.length < 1000000
  progs : s.P.Progs.length < 1000000
  prog : ∀ x ∈ s.P.Progs, x.length < 1000000
  picks : s.P.Picks.length < 1000000
theorem XJ (m : List (BitVec 64)) (c : zp) : (zl m c).1.length = m.length := by
  unfold zl sw
  split
  · rfl
  split
  · rfl
  split
  · split <;> simp [wS]
  · dsimp only; split <;> simp [wS]
theorem zby (m : List (BitVec 64)) (d : zg) : (z7 m d).1.length = m.length := by
  unfold z7
  split
  · rfl
  split
  · rfl
  split
  · rfl
  split <;> simp [wS]
theorem zff (s : za) (g : zd) : ∃ m b t w f, (zm s g).1 = { s with M := m, Bins := b, T := t, Work := w, Flag := f } ∧ m.length = s.M.length ∧ b.length = s.Bins.length ∧
    (∀ x ∈ b, x ∈ s.Bins ∨ x = [g.Obj]) ∧ (t = s.T ∨ t = (uw s.T g.Obj).1) ∧ (w = s.Work ∨ w = wc (s.Work + 1) ∨ w = wc (s.Work - 1)) := by
  unfold zm
  split
  · exact ⟨s.M, s.Bins, s.T, s.Work, s.Flag, rfl, rfl, rfl, fun x h => .inl h, .inl rfl, .inl rfl⟩
  split
  · exact ⟨_, s.Bins, s.T, s.Work, s.Flag, rfl, XJ _ _, rfl, fun x h => .inl h, .inl rfl, .inl rfl⟩
  split
  · refine ⟨s.M, _, s.T, s.Work, s.Flag, rfl, rfl, by simp, fun x h => ?_, .inl rfl, .inl rfl⟩
    rcases List.mem_or_eq_of_mem_set h with h | h
    · exact .inl h
    · exact .inr h
  split
  · exact ⟨_, s.Bins, s.T, s.Work, s.Flag, rfl, XJ _ _, rfl, fun x h => .inl h, .inl rfl, .inl rfl⟩
  split
  · exact ⟨s.M, s.Bins, s.T, s.Work, true, rfl, rfl, rfl, fun x h => .inl h, .inl rfl, .inl rfl⟩
  split
  · exact ⟨_, s.Bins, s.T, s.Work, s.Flag, rfl, zby _ _, rfl, fun x h => .inl h, .inl rfl, .inl rfl⟩
  split
  · exact ⟨s.M, s.Bins, s.T, _, s.Flag, rfl, rfl, rfl, fun x h => .inl h, .inl rfl, .inr (.inr rfl)⟩
  split
  · exact ⟨s.M, s.Bins, _, s.Work, s.Flag, rfl, rfl, rfl, fun x h => .inl h, .inr rfl, .inl rfl⟩
  · exact ⟨s.M, s.Bins, s.T, _, s.Flag, rfl, rfl, rfl, fun x h => .inl h, .inl rfl, .inr (.inl rfl)⟩
theorem zta {s : za} {g : zd} (h : u5 s) : u5 (zm s g).1 := by
  obtain ⟨m, b, t, w, f, e, h1, h2, h3, _, _⟩ := zff s g
  rw [e]
  refine ⟨by rw [h1]; exact h.m, by rw [h2]; exact h.bins, fun x hx => ?_, h.acks, h.bal, h.ws, h.w, h.ms, h.mu, h.objs, h.obj, h.pobjs, h.pobj, h.regs, h.reg, h.progs, h.prog, h.picks⟩
  rcases h3 x hx with h' | rfl
  · exact h.bin x h'
  · simp
theorem zp3 {p : zb} (h : zr p) : u5 (z8 p) := by
  have S := zd4 h
  have hb := WQ h
  have hg := zfT h
  have hn := h.n
  have hm := h.mt
  have hw := h.wk
  have hs := h.slots
  have hrl := h.regs
  have hpl := h.progs
  have hobj : ∀ o ∈ p.H.Objs, o.length < 1000000 := fun o ho => by have := (h.objs o ho).1; omega
  have hreg : ∀ r ∈ p.Regs, r.length < 1000000 := fun r hr => by have := (h.reg r hr).1; omega
  refine ⟨by have := S.mem; omega, by rw [S.bins]; omega, fun x hx => ?_, ?_, ?_, ?_, fun x hx => ?_, ?_, fun x hx => ?_, by show p.H.Objs.length < _; omega, hobj, by show p.H.Objs.length < _; omega, hobj, by show p.Regs.length < _; omega, hreg, by show p.Progs.length < _; omega, fun x hx => ?_, ?_⟩
  · have hx : x ∈ [[]] ++ yi p ++ List.replicate (zF p - (yi p).length) [] := hx
    rcases List.mem_append.1 hx with hx | hx
    · rcases List.mem_append.1 hx with hx | hx
      · simp at hx; subst hx; simp
      · have := zdy _ _ _ _ hx; omega
    · have := (List.mem_replicate.1 hx).2; subst this; simp
  · show (List.replicate p.Mutators.toNat (0 : Int)).length < _; simp; omega
  · show (List.replicate p.Mutators.toNat (0 : Int)).length < _; simp; omega
  · show ((List.range p.Workers.toNat).map (xR p)).length < _; simp; omega
  · have hx : x ∈ (List.range p.Workers.toNat).map (xR p) := hx
    obtain ⟨i, _, rfl⟩ := List.mem_map.1 hx
    simp [xR]
  · show (p.Regs.map w9).length < _; simp; omega
  · have hx : x ∈ p.Regs.map w9 := hx
    obtain ⟨r, hr, rfl⟩ := List.mem_map.1 hx
    exact ⟨hreg r hr, by simp [w9], by simp [w9]⟩
  · obtain ⟨i, hi⟩ := List.getElem?_of_mem hx
    have hlt := (List.getElem?_eq_some_iff.1 hi).1
    have := (h.prog i _ x (List.getElem?_eq_getElem (by have : p.Progs.length = p.Regs.length := by omega
                                                        have hlt : i < p.Progs.length := hlt
                                                        omega)) hi).1
    omega
  · show p.Picks.length < _; rw [h.picks]; simp
end
end Go.Pe.G
namespace Go.Pe.G
open Go.Pe
noncomputable section
theorem zsP {p : zb} {s : za} {g : Gh} {b : Int} : yu p s { g with F := b :: g.F } = yY s b ++ yu p s g := by
  unfold yu; simp [List.append_assoc]
theorem zte {p : zb} {s : za} {g : Gh} {l : List Int} : yu p s { g with E := l } = yu p s g := rfl
theorem zqT {l : List Int} {t : Nat} {x : Int} : Dv t l t (l ++ [x]) := ⟨Nat.le_refl _, fun _ h => ⟨by simp, by cases l with | nil => exact absurd rfl h | cons a l => rfl⟩⟩
theorem zrp {p : zb} (hp : zr p) {nb k : Nat} {R : List Int} {gh : Gh} {s : za} {g : zd} (hk : k < 4294960000) (X : SX p nb s gh (yI g ++ R) k) (M : MOk p nb g) (h5o : g.PC = 5 → g.C.Out ≠ 1) (G : GX p s gh g) :
    zgJ p nb k R gh s g (zm s g).1 (zm s g).2 := by
  have S' := (zbH hp X.S M h5o).1
  have hP := X.S.P
  have hpc := G.pc
  have hmd := G.md
  have hob := G.ob
  revert S'
  unfold zm
  by_cases h0 : g.Out = 0
  rotate_left
  · rw [if_pos (.inl h0)]
    intro S'
    exact .quiet X S' rfl rfl rfl rfl rfl G.c0 G
  rw [if_neg (by omega)]
  have hc0 : g.Mode = 1 → gh.c g.Who = 0 := fun h => G.c0 h h0
  by_cases p7 : g.PC = 7
  · rw [if_pos p7]
    obtain ⟨c1, c2, c3, c4, c5⟩ := G.c7 p7 h0
    obtain ⟨m1, m2, m3, m4, m5⟩ := M.c7 p7
    have eo : yI g = [g.Bin] := zcu h0 (.inr p7)
    have eh : yg g = [g.Obj] := xC h0 (by omega) (by omega)
    rw [eo] at X
    intro S'
    have S' : SOk p nb { s with M := (zl s.M g.C).1 } := S'
    unfold uU
    dsimp only
    rcases SX.pushF hp (o1 := []) (o2 := R) (b := g.Bin) X hk m1 m2 m3 c3 c1 c2 c4 m5 S' with ⟨a, b, c, d⟩ | ⟨a, b, d⟩
    · rw [a]
      rw [if_neg (by decide)]
      have hout := XB s.M c1 c2 (.inl m1)
      have hsame := zha s.M g.C
      have hpc' : 0 ≤ (zl s.M g.C).2.PC ∧ (zl s.M g.C).2.PC ≤ 2 := by omega
      refine ⟨gh, by rw [show yI { g with C := (zl s.M g.C).2 } = [g.Bin] from zcu h0 (.inr p7)]; exact b, ?_, by rw [eo]; exact d _ _ (by simp), fun h _ => hc0 h, fun _ h => .inl h, [], ?_, .inl ⟨rfl, rfl⟩⟩
      · exact ⟨.inl h0, hpc, hmd, hob, fun h _ => hc0 h, fun e => by have e : g.PC = 5 := e; omega, fun _ _ => ⟨a, hpc', (hsame.2.2.2 m1).trans c3, c, c5⟩, fun e => by have e : g.PC = 3 := e; omega⟩
      · rw [Yj rfl, show yg { g with C := (zl s.M g.C).2 } = [g.Obj] from xC h0 (by show (3 : Int) ≤ g.PC; omega) (by show g.PC ≤ 7; omega), eh]
        exact List.Perm.refl _
    · rw [a, if_pos rfl]
      have e1 : yI { g with C := (zl s.M g.C).2, Out := 1 } = [] := xF (.inl (by show (1 : Int) ≠ 0; decide))
      have e2 : yg { g with C := (zl s.M g.C).2, Out := 1 } = [] := vO (.inl (by show (1 : Int) ≠ 0; decide))
      refine ⟨{ gh with F := g.Bin :: gh.F }, by rw [e1]; exact b, ?_, by rw [eo]; exact d _ _, fun h _ => hc0 h, fun y hy => (List.mem_cons.1 hy).elim (fun e => .inr (by rw [e]; unfold yY; rw [show ({ s with M := (zl s.M g.C).1 } : za).Bins = s.Bins from rfl, c5]; exact List.cons_ne_nil _ _)) .inl, [], ?_, .inl ⟨rfl, rfl⟩⟩
      · exact GX.plain (.inr rfl) hpc hmd hob (fun _ e => by cases e) (.inl (by show (1 : Int) ≠ 0; decide))
      · rw [e2, eh, zsP, Yj rfl, List.append_nil]
        have : yY { s with M := (zl s.M g.C).1 } g.Bin = [g.Obj] := by unfold yY; rw [show ({ s with M := (zl s.M g.C).1 } : za).Bins = s.Bins from rfl, c5]; rfl
        rw [this]
        exact List.perm_append_comm
  rw [if_neg p7]
  by_cases p6 : g.PC = 6
  · rw [if_pos p6]
    have eo : yI g = [g.Bin] := zcu h0 (.inl p6)
    have eh : yg g = [g.Obj] := xC h0 (by omega) (by omega)
    have hb := M.b6 p6
    have hbl := X.S.bins
    intro S'
    unfold zc8
    unfold zc8 at S'
    have e1 : yI { g with PC := 7, C := ⟨1, 0, zN s.P, zv s.P, 0#64, g.Bin, 0, 0⟩ } = [g.Bin] := zcu h0 (.inr rfl)
    have hget : ∀ b, 1 ≤ b → b ∉ yI g → (s.Bins.set g.Bin.toNat [g.Obj])[b.toNat]? = s.Bins[b.toNat]? := fun b b1 b2 => by
      rw [List.getElem?_set_ne]
      intro e
      rw [eo] at b2
      exact b2 (by rw [show b = g.Bin by omega]; simp)
    refine ⟨gh, by rw [e1, ← eo]; exact X.quiet S' rfl, ?_, FX.quiet rfl hget, fun h _ => hc0 h, fun _ h => .inl h, [], ?_, .inl ⟨rfl, rfl⟩⟩
    · refine ⟨.inl h0, ⟨by show (0 : Int) ≤ 7; decide, by show (7 : Int) ≤ 7; decide⟩, hmd, hob, fun h _ => hc0 h, fun e => absurd e (by show ¬ (7 : Int) = 5; decide), fun _ _ => ⟨rfl, ⟨by show (0 : Int) ≤ 0; decide, by show (0 : Int) ≤ 2; decide⟩, rfl, ⟨fun e => absurd e (by show ¬ (1 : Int) ≤ 0; decide), fun e => absurd e (by show ¬ (0 : Int) = 2; decide), fun e => absurd e (by show ¬ (0 : Int) = 2; decide)⟩, ?_⟩, fun e => absurd e (by show ¬ (7 : Int) = 3; decide)⟩
      show (s.Bins.set g.Bin.toNat [g.Obj])[g.Bin.toNat]? = _
      rw [List.getElem?_set_self (by omega)]
    · rw [show yg { g with PC := 7, C := ⟨1, 0, zN s.P, zv s.P, 0#64, g.Bin, 0, 0⟩ } = [g.Obj] from xC h0 (by show (3 : Int) ≤ 7; decide) (by show (7 : Int) ≤ 7; decide), eh]
      have : yu p { s with Bins := s.Bins.set g.Bin.toNat [g.Obj] } gh = yu p s gh := by
        unfold yu
        congr 1
        refine vD (fun b hb => ?_)
        have hm := X.L.cF.mem b hb
        have hno := (X.L.notF (x := g.Bin) (by rw [eo]; simp)).1
        unfold yY
        rw [show ({ s with Bins := s.Bins.set g.Bin.toNat [g.Obj] } : za).Bins = s.Bins.set g.Bin.toNat [g.Obj] from rfl, hget b hm.1 (by rw [eo]; intro e; rw [List.mem_singleton.1 e] at hb; exact hno hb)]
      rw [this]; exact List.Perm.refl _
  rw [if_neg p6]
  have eo : yI g = [] := xF (.inr ⟨p6, p7⟩)
  by_cases p5 : g.PC = 5
  · rw [if_pos p5]
    obtain ⟨c1, c2, c3⟩ := G.c5 p5 h0
    obtain ⟨m1, m2, m3, m4, m5⟩ := M.c5 p5
    have eh : yg g = [g.Obj] := xC h0 (by omega) (by omega)
    intro S'
    have S' : SOk p nb { s with M := (zl s.M g.C).1 } := S'
    unfold XP
    dsimp only
    rcases SX.popE hp X hk m1 m2 m3 c1 c2 c3 m4 S' with ⟨a, b, c, d⟩ | ⟨x, l, a, b, c, d, e⟩
    · rw [if_neg b]
      have hout := XB s.M c1 c2 (.inr m1)
      by_cases o2 : (zl s.M g.C).2.Out = 2
      · rw [if_pos o2]
        refine .quiet X S' a rfl rfl ?_ ?_ G.c0 (GX.ask h0 hmd hob hc0 _)
        · rw [eo]; exact xF (.inr ⟨by show (5 : Int) ≠ 6; decide, by show (5 : Int) ≠ 7; decide⟩)
        · rw [eh]; exact xC h0 (by show (3 : Int) ≤ 5; decide) (by show (5 : Int) ≤ 7; decide)
      · rw [if_neg o2]
        have hpc' : (zl s.M g.C).2.Out = 0 ∧ 0 ≤ (zl s.M g.C).2.PC ∧ (zl s.M g.C).2.PC ≤ 2 := by omega
        refine .quiet X S' a rfl rfl ?_ ?_ G.c0 ⟨.inl h0, hpc, hmd, hob, G.c0, fun _ _ => ⟨hpc'.1, hpc'.2, by rw [show ({ s with M := (zl s.M g.C).1 } : za).M = s.M from a]; exact c⟩, fun e => by have e : g.PC = 7 := e; omega, fun e => by have e : g.PC = 3 := e; omega⟩
        · rw [eo]; exact xF (.inr ⟨p6, p7⟩)
        · rw [eh]; exact xC h0 (by show (3 : Int) ≤ g.PC; omega) (by show g.PC ≤ 7; omega)
    · rw [if_pos b]
      have e1 : yI { g with PC := 6, C := (zl s.M g.C).2, Bin := (zl s.M g.C).2.X } = [x] := by rw [← c]; exact zcu (g := { g with PC := 6, C := (zl s.M g.C).2, Bin := (zl s.M g.C).2.X }) h0 (.inl rfl)
      refine ⟨{ gh with E := l }, by rw [e1]; rw [eo] at d; exact d, ?_, e _ _, fun h _ => hc0 h, fun _ h => .inl h, [], ?_, .inl ⟨rfl, rfl⟩⟩
      · exact GX.plain (.inl h0) ⟨by show (0 : Int) ≤ 6; decide, by show (6 : Int) ≤ 7; decide⟩ hmd hob (fun h _ => hc0 h) (.inr ⟨by show (6 : Int) ≠ 3; decide, by show (6 : Int) ≠ 5; decide, by show (6 : Int) ≠ 7; decide⟩)
      · rw [zte, Yj rfl, eh, show yg { g with PC := 6, C := (zl s.M g.C).2, Bin := (zl s.M g.C).2.X } = [g.Obj] from xC h0 (by show (3 : Int) ≤ 6; decide) (by show (6 : Int) ≤ 7; decide)]
        exact List.Perm.refl _
  rw [if_neg p5]
  by_cases p4 : g.PC = 4
  · rw [if_pos p4]
    intro S'
    refine .quiet X S' rfl rfl rfl ?_ ?_ G.c0 (GX.ask h0 hmd hob hc0 _)
    · rw [eo]; exact xF (.inr ⟨by show (5 : Int) ≠ 6; decide, by show (5 : Int) ≠ 7; decide⟩)
    · rw [xC h0 (by omega) (by omega)]; exact xC h0 (by show (3 : Int) ≤ 5; decide) (by show (5 : Int) ≤ 7; decide)
  rw [if_neg p4]
  by_cases p3 : g.PC = 3
  · rw [if_pos p3]
    obtain ⟨c1, c2, c3⟩ := G.d3 p3 h0
    have hw := M.who c1
    have eh : yg g = [g.Obj] := xC h0 (by omega) (by omega)
    have hdk := X.dk g.Who hw.1 hw.2
    have hlen := X.L.len
    have hE := yM hp
    have hc00 := c3.c0
    have c3' := c3
    rw [hc00] at c3'
    have D0 := X.D g.Who hw.1 hw.2
    rw [hc00] at D0
    obtain ⟨a, b, r⟩ := zla hp hw (by omega) D0 c3' (by omega) (by rw [c2]; omega)
    intro S'
    have S' : SOk p nb { s with M := (z7 s.M g.D).1 } := S'
    unfold XS
    dsimp only
    rcases r with ⟨r1, r2, r3⟩ | ⟨r1, r2⟩ | ⟨r1, r2⟩
    · rw [r1, if_neg (by decide), if_neg (by decide)]
      have e1 : yI { g with D := (z7 s.M g.D).2 } = [] := xF (.inr ⟨p6, p7⟩)
      refine ⟨Zk gh g.Who (gh.t g.Who) (gh.D g.Who) 0, ?_, ?_, FX.own (O := zlx g) (s := s) (s' := { s with M := (z7 s.M g.D).1 }) (g := gh) hp hw a rfl ⟨c1, rfl⟩ (Dv.refl _ _), fun _ _ => yP.2.2, fun _ h => .inl h, [], ?_, .inl ⟨rfl, rfl⟩⟩
      · rw [e1]; rw [eo] at X; exact X.dq hp S' (zby _ _) hw a r2 (by omega)
      · refine ⟨.inl h0, hpc, hmd, hob, fun _ _ => yP.2.2, fun e => by have e : g.PC = 5 := e; omega, fun e => by have e : g.PC = 7 := e; omega, fun _ _ => ⟨c1, b.trans c2, ?_⟩⟩
        show DK p (z7 s.M g.D).1 g.Who ((Zk gh g.Who (gh.t g.Who) (gh.D g.Who) 0).t g.Who) _ _ _
        rw [yP.1, yP.2.1, yP.2.2]; exact r3
      · obtain ⟨u, v, f1, f2⟩ := zgd (p := p) (s := s) (s' := { s with M := (z7 s.M g.D).1 }) (g := gh) rfl hw (t := gh.t g.Who) (c := 0) (l := gh.D g.Who)
        rw [f1, f2, eh, show yg { g with D := (z7 s.M g.D).2 } = [g.Obj] from xC h0 (by show (3 : Int) ≤ g.PC; omega) (by show g.PC ≤ 7; omega)]
        exact List.Perm.refl _
    · rw [r1, if_neg (by decide), if_pos rfl]
      have e1 : yI (Y2 s.P { g with D := (z7 s.M g.D).2 }) = [] := xF (.inr ⟨by show (5 : Int) ≠ 6; decide, by show (5 : Int) ≠ 7; decide⟩)
      refine ⟨Zk gh g.Who (gh.t g.Who) (gh.D g.Who) 0, ?_, ?_, FX.own (O := zlx g) (s := s) (s' := { s with M := (z7 s.M g.D).1 }) (g := gh) hp hw a rfl ⟨c1, rfl⟩ (Dv.refl _ _), fun _ _ => yP.2.2, fun _ h => .inl h, [], ?_, .inl ⟨rfl, rfl⟩⟩
      · rw [e1]; rw [eo] at X; exact X.dq hp S' (zby _ _) hw a r2 (by omega)
      · exact GX.ask (g := { g with D := (z7 s.M g.D).2 }) h0 hmd hob (fun _ => yP.2.2) _
      · obtain ⟨u, v, f1, f2⟩ := zgd (p := p) (s := s) (s' := { s with M := (z7 s.M g.D).1 }) (g := gh) rfl hw (t := gh.t g.Who) (c := 0) (l := gh.D g.Who)
        rw [f1, f2, eh, show yg (Y2 s.P { g with D := (z7 s.M g.D).2 }) = [g.Obj] from xC h0 (by show (3 : Int) ≤ 5; decide) (by show (5 : Int) ≤ 7; decide)]
        exact List.Perm.refl _
    · rw [r1, if_pos rfl]
      have e1 : yI { g with D := (z7 s.M g.D).2, Out := 1 } = [] := xF (.inl (by show (1 : Int) ≠ 0; decide))
      refine ⟨Zk gh g.Who (gh.t g.Who) (gh.D g.Who ++ [g.D.X]) 0, ?_, ?_, FX.own (O := zlx g) (s := s) (s' := { s with M := (z7 s.M g.D).1 }) (g := gh) hp hw a rfl ⟨c1, rfl⟩ zqT, fun _ _ => yP.2.2, fun _ h => .inl h, [], ?_, .inl ⟨rfl, rfl⟩⟩
      · rw [e1]; rw [eo] at X; exact X.dq hp S' (zby _ _) hw a r2 (by rw [List.length_append, List.length_singleton]; omega)
      · exact GX.plain (.inr rfl) hpc hmd hob (fun _ e => by cases e) (.inl (by show (1 : Int) ≠ 0; decide))
      · obtain ⟨u, v, f1, f2⟩ := zgd (p := p) (s := s) (s' := { s with M := (z7 s.M g.D).1 }) (g := gh) rfl hw (t := gh.t g.Who) (c := 0) (l := gh.D g.Who ++ [g.D.X])
        rw [f1, f2, eh, show yg { g with D := (z7 s.M g.D).2, Out := 1 } = [] from vO (.inl (by show (1 : Int) ≠ 0; decide)), c2, List.append_nil, List.nil_append]
        simp only [List.append_assoc]
        refine List.Perm.append_left _ (List.Perm.append_left _ ?_)
        exact List.perm_append_comm
  rw [if_neg p3]
  by_cases p2 : g.PC = 2
  · rw [if_pos p2]
    intro S'
    refine .quiet X S' rfl rfl rfl ?_ ?_ G.c0 (GX.plain (.inr rfl) hpc hmd hob (fun _ e => by cases e) (.inl (by show (1 : Int) ≠ 0; decide)))
    · rw [eo]; exact xF (.inl (by show (1 : Int) ≠ 0; decide))
    · rw [vO (g := g) (.inr (.inl (by omega)))]; exact vO (.inl (by show (1 : Int) ≠ 0; decide))
  rw [if_neg p2]
  by_cases p1 : g.PC = 1
  · rw [if_pos p1]
    have eh : yg g = [] := vO (.inr (.inl (by omega)))
    intro S'
    unfold UR
    unfold UR at S'
    dsimp only at S' ⊢
    by_cases hs : (uw s.T g.Obj).2 = false
    · have eT : (uw s.T g.Obj).1 = s.T := by
        unfold uw at hs ⊢
        split at hs
        · rename_i h1; rw [if_pos h1]
        · rename_i h1
          split at hs
          · cases hs
          · rename_i h2; rw [if_neg h1, if_neg h2]
      rw [if_pos hs]
      refine .quiet X S' rfl rfl eT ?_ ?_ G.c0 (GX.plain (.inl h0) ⟨by show (0 : Int) ≤ 2; decide, by show (2 : Int) ≤ 7; decide⟩ hmd hob G.c0 (.inr ⟨by show (2 : Int) ≠ 3; decide, by show (2 : Int) ≠ 5; decide, by show (2 : Int) ≠ 7; decide⟩))
      · rw [eo]; exact xF (.inr ⟨by show (2 : Int) ≠ 6; decide, by show (2 : Int) ≠ 7; decide⟩)
      · rw [eh]; exact vO (.inr (.inl (by show (2 : Int) < 3; decide)))
    · have eT : ¬ (s.T.Marks ||| bit g.Obj = s.T.Marks) ∧ (uw s.T g.Obj).1 = { s.T with Marks := s.T.Marks ||| bit g.Obj } := by
        unfold uw at hs ⊢
        split at hs
        · exact absurd rfl hs
        · rename_i h1
          split at hs
          · rename_i h2; exact ⟨h1, by rw [if_neg h1, if_pos h2]⟩
          · exact absurd rfl hs
      rw [if_neg hs]
      have fin : ∀ g' : zd, yI g' = [] → yg g' = [g.Obj] → GX p { s with T := (uw s.T g.Obj).1 } gh g' → zgJ p nb k R gh s g { s with T := (uw s.T g.Obj).1 } g' := fun g' a b c =>
        ⟨gh, by rw [a, ← eo]; exact X.quiet S' rfl, c, FX.quiet rfl (fun _ _ _ => rfl), fun h _ => hc0 h, fun _ h => .inl h, [g.Obj], by rw [Yj rfl, b, eh, List.append_nil]; exact List.perm_append_comm, .inr ⟨rfl, eT.1, eT.2⟩⟩
      by_cases q1 : g.Mode = 1
      · rw [if_pos q1]
        have hw := M.who q1
        refine fin _ (xF (.inr ⟨by show (3 : Int) ≠ 6; decide, by show (3 : Int) ≠ 7; decide⟩)) (xC h0 (by show (3 : Int) ≤ 3; decide) (by show (3 : Int) ≤ 7; decide))
          ⟨.inl h0, ⟨by show (0 : Int) ≤ 3; decide, by show (3 : Int) ≤ 7; decide⟩, hmd, hob, G.c0, fun e => absurd e (by show ¬ (3 : Int) = 5; decide), fun e => absurd e (by show ¬ (3 : Int) = 7; decide), fun _ _ => ⟨q1, rfl, ⟨rfl, by rw [hP], by rw [hP], rfl, hc0 q1, ⟨by show (0 : Int) ≤ 0; decide, by show (0 : Int) ≤ 3; decide⟩, fun e => absurd e (by show ¬ (1 : Int) ≤ 0; decide), fun e => absurd e (by show ¬ (2 : Int) ≤ 0; decide), fun e => absurd e (by show ¬ (3 : Int) ≤ 0; decide)⟩⟩⟩
      rw [if_neg q1]
      by_cases q2 : g.Mode = 2
      · rw [if_pos q2]
        exact fin _ (xF (.inr ⟨by show (4 : Int) ≠ 6; decide, by show (4 : Int) ≠ 7; decide⟩)) (xC h0 (by show (3 : Int) ≤ 4; decide) (by show (4 : Int) ≤ 7; decide))
          (GX.plain (.inl h0) ⟨by show (0 : Int) ≤ 4; decide, by show (4 : Int) ≤ 7; decide⟩ hmd hob G.c0 (.inr ⟨by show (4 : Int) ≠ 3; decide, by show (4 : Int) ≠ 5; decide, by show (4 : Int) ≠ 7; decide⟩))
      · rw [if_neg q2]
        exact fin _ (xF (.inr ⟨by show (5 : Int) ≠ 6; decide, by show (5 : Int) ≠ 7; decide⟩)) (xC h0 (by show (3 : Int) ≤ 5; decide) (by show (5 : Int) ≤ 7; decide)) (GX.ask h0 hmd hob hc0 _)
  · rw [if_neg p1]
    intro S'
    refine .quiet X S' rfl rfl rfl ?_ ?_ G.c0 (GX.plain (.inl h0) ⟨by show (0 : Int) ≤ 1; decide, by show (1 : Int) ≤ 7; decide⟩ hmd hob G.c0 (.inr ⟨by show (1 : Int) ≠ 3; decide, by show (1 : Int) ≠ 5; decide, by show (1 : Int) ≠ 7; decide⟩))
    · rw [eo]; exact xF (.inr ⟨by show (1 : Int) ≠ 6; decide, by show (1 : Int) ≠ 7; decide⟩)
    · rw [vO (g := g) (.inr (.inl (by omega)))]; exact vO (.inr (.inl (by show (1 : Int) < 3; decide)))
end
end Go.Pe.G
namespace Go.Pe.G
open Go.Pe
noncomputable section
def zke (h : zG) (o s v : Int) : zG :=
  if zkv h o s = true ∧ 0 ≤ v ∧ v ≤ (h.Objs.length : Int) then { h with Objs := h.Objs.set (o - 1).toNat ((yV h o).set s.toNat v) } else h
def zoF (h : zG) (most : Int) : Bool := decide ((h.Objs.length : Int) < most) && decide ((h.Objs.length : Int) < 64)
def zmU (h : zG) : zG := { h with Objs := h.Objs ++ [List.replicate h.Slots.toNat 0] }
def zr4 (t : zo) (o : Int) : zo := if (uw t o).2 = true then U6 (uw t o).1 o else t
def zlt (l : zA) (who : Int) : Int := l.Bal.getD (who - 1).toNat 0
def zpX (l : zA) (who : Int) : Bool := decide (1 ≤ who) && decide (who ≤ (l.Bal.length : Int))
def znT (l : zA) (who price limit : Int) : Bool := zpX l who && decide (0 ≤ price) && decide (0 ≤ limit) && decide (price ≤ 1000000) && decide (limit ≤ 1000000)
def zsx (l : zA) (who price limit : Int) : Bool := znT l who price limit && decide (wc (-limit) ≤ wc (zlt l who - price))
def zmp (l : zA) (who price : Int) : zA := { l with Spent := wc (l.Spent + price), Bal := l.Bal.set (who - 1).toNat (wc (zlt l who - price)) }
def zpf (l : zA) (who price limit : Int) : Int := if znT l who price limit then (if zsx l who price limit then 0 else wc (wc (price - limit) - zlt l who)) else -1
def zoG (a b : Int) : Int := if b < a then b else a
def zly (l : zA) (who want : Int) : zA × Int :=
  if zpX l who = true ∧ 0 < zoG want l.Pool then ({ l with Pool := wc (l.Pool - zoG want l.Pool), Bal := l.Bal.set (who - 1).toNat (wc (zlt l who + zoG want l.Pool)) }, zoG want l.Pool) else (l, 0)
def Zq (p : zb) (m : Int) : List zj := p.Progs.getD (m - 1).toNat []
def opM (p : zb) (m : Int) (x : ze) : zj := (Zq p m).getD x.IP.toNat ⟨0, 0, 0, 0⟩
def zmQ (x : ze) (r : Int) : Int := x.Regs.getD r.toNat 0
def zlz (x : ze) : ze := { x with PC := 0, IP := wc (x.IP + 1) }
def setM (x : ze) (r v : Int) : ze := { x with PC := 0, IP := wc (x.IP + 1), Regs := x.Regs.set r.toNat v }
def onM (s : za) (slot : Int) : Int := if slot = s.H.Slots then 38 else 36
def zrk (s : za) (m : Int) (x : ze) : Int := we s.H (zmQ x (opM s.P m x).A) (opM s.P m x).S
def zh7 (s : za) (m : Int) (x : ze) : ze :=
  if s.Acks.getD (m - 1).toNat 0 < s.Epoch then { x with PC := 1, Ret := 2, Want := s.Epoch }
  else if ((Zq s.P m).length : Int) ≤ x.IP then x
  else if (opM s.P m x).Kind = 1 then { x with PC := 10 }
  else if (opM s.P m x).Kind = 2 then { x with PC := 20 }
  else if (opM s.P m x).Kind = 3 then { x with PC := 30 }
  else if (opM s.P m x).Kind = 4 then setM x (opM s.P m x).R (zmQ x (opM s.P m x).A)
  else setM x (opM s.P m x).R 0
def mu0 (s : za) (m : Int) (x : ze) : za × ze :=
  (s, zh7 s m x)
def mu1 (s : za) (m : Int) (x : ze) : za × ze :=
  (s, if x.Buf.length = 0 then { x with PC := x.Ret } else { x with PC := 3, Buf := x.Buf.take (x.Buf.length - 1), G := yX 2 (x.Buf.getD (x.Buf.length - 1) 0) m })
def mu2 (s : za) (m : Int) (x : ze) : za × ze :=
  ({ s with Acks := s.Acks.set (m - 1).toNat x.Want }, { x with PC := 0 })
def mu3 (s : za) (m : Int) (x : ze) : za × ze :=
  ((zm s x.G).1, if (zm s x.G).2.Out = 1 then { x with PC := 1, G := (zm s x.G).2 } else { x with G := (zm s x.G).2 })
def zj0 (s : za) (m : Int) (x : ze) : za × ze :=
  (s, setM x (opM s.P m x).R (zrk s m x))
def zjU (s : za) (m : Int) (x : ze) : za × ze :=
  (s, if zmQ x (opM s.P m x).A = 0 then zlz x else { x with PC := 21, Old := zrk s m x })
def zkw (s : za) (m : Int) (x : ze) : za × ze :=
  (s, if x.Old = 0 ∨ wP s.T x.Old ≠ 0 then { x with PC := 23, Old := 0 } else { x with PC := 22 })
def zkh (s : za) (m : Int) (x : ze) : za × ze :=
  (s, if s.P.Buf ≤ (x.Buf.length : Int) then { x with PC := 1, Ret := 22 } else { x with PC := 23, Old := 0, Buf := x.Buf ++ [x.Old] })
def zjI (s : za) (m : Int) (x : ze) : za × ze :=
  ({ s with H := zke s.H (zmQ x (opM s.P m x).A) (opM s.P m x).S (zmQ x (opM s.P m x).R) }, zlz x)
def zjH (s : za) (m : Int) (x : ze) : za × ze :=
     if zsx s.L m s.P.Price s.P.Limit = true then
      if zoF s.H s.P.Most = true then ({ s with L := zmp s.L m s.P.Price, H := zmU s.H, T := zr4 s.T (wc (s.H.Objs.length + 1)) }, setM x (opM s.P m x).R (wc (s.H.Objs.length + 1)))
      else (s, zlz x)
    else (s, { x with PC := 31 })
def zjX (s : za) (m : Int) (x : ze) : za × ze :=
     ({ s with L := (zly s.L m (zpf s.L m s.P.Price s.P.Limit)).1 }, if (zly s.L m (zpf s.L m s.P.Price s.P.Limit)).2 = 0 then { x with PC := 32, C := zqK s.P (zN s.P) x.Bin } else { x with PC := 0 })
def zkk (s : za) (m : Int) (x : ze) : za × ze :=
     ({ s with M := (zl s.M x.C).1 }, if (zl s.M x.C).2.Out = 1 then { x with PC := 33, Bin := (zl s.M x.C).2.X, C := (zl s.M x.C).2 }
      else if (zl s.M x.C).2.Out = 2 then { x with PC := 0, C := (zl s.M x.C).2 } else { x with C := (zl s.M x.C).2 })
def zkp (s : za) (m : Int) (x : ze) : za × ze :=
  ({ s with Bins := s.Bins.set x.Bin.toNat [] }, { x with Batch := U9 s x.Bin, PC := 34, C := zdo s.P (zv s.P) x.Bin })
def zki (s : za) (m : Int) (x : ze) : za × ze :=
     ({ s with M := (zl s.M x.C).1 }, if (zl s.M x.C).2.Out = 1 then { x with C := (zl s.M x.C).2, Bin := 0, PC := 35 } else { x with C := (zl s.M x.C).2 })
def zkg (s : za) (m : Int) (x : ze) : za × ze :=
  (s, match x.Batch with | [] => { x with PC := 0 } | o :: l => { x with PC := 36, Obj := o, Slot := 0, Batch := l })
def zkb (s : za) (m : Int) (x : ze) : za × ze :=
     (s, if we s.H x.Obj x.Slot = 0 then { x with Slot := wc (x.Slot + 1), PC := onM s (wc (x.Slot + 1)) } else { x with Slot := wc (x.Slot + 1), PC := 37, G := yX 3 (we s.H x.Obj x.Slot) m })
def zkl (s : za) (m : Int) (x : ze) : za × ze :=
  ((zm s x.G).1, if (zm s x.G).2.Out = 1 then { x with G := (zm s x.G).2, PC := onM s x.Slot } else { x with G := (zm s x.G).2 })
def zjp (s : za) (m : Int) (x : ze) : za × ze :=
  ({ s with T := U6 s.T x.Obj, L := zlu s.L m }, { x with PC := 39 })
def zj2 (s : za) (m : Int) (x : ze) : za × ze :=
  ({ s with Work := wc (s.Work - 1) }, { x with Obj := 0, PC := 35 })
def xK (s : za) (m : Int) (x : ze) : za × ze :=
  if x.PC = 0 then mu0 s m x
  else if x.PC = 1 then mu1 s m x
  else if x.PC = 2 then mu2 s m x
  else if x.PC = 3 then mu3 s m x
  else if x.PC = 10 then zj0 s m x
  else if x.PC = 20 then zjU s m x
  else if x.PC = 21 then zkw s m x
  else if x.PC = 22 then zkh s m x
  else if x.PC = 23 then zjI s m x
  else if x.PC = 30 then zjH s m x
  else if x.PC = 31 then zjX s m x
  else if x.PC = 32 then zkk s m x
  else if x.PC = 33 then zkp s m x
  else if x.PC = 34 then zki s m x
  else if x.PC = 35 then zkg s m x
  else if x.PC = 36 then zkb s m x
  else if x.PC = 37 then zkl s m x
  else if x.PC = 38 then zjp s m x
  else if x.PC = 39 then zj2 s m x
  else (s, x)
def zg9 (s : za) (m : Int) : za :=
  if s.Done = true ∨ m < 1 ∨ (s.Ms.length : Int) < m then s
  else match s.Ms[(m - 1).toNat]? with
    | some x => { (xK s m x).1 with Ms := s.Ms.set (m - 1).toNat (xK s m x).2 }
    | none => s
def zis (p : zb) (m : Int) : Nat := (p.Regs.getD (m - 1).toNat []).length
structure XOk (p : zb) (nb : Nat) (m : Int) (x : ze) : Prop where
  pc : (0 ≤ x.PC ∧ x.PC ≤ 3) ∨ x.PC = 10 ∨ (20 ≤ x.PC ∧ x.PC ≤ 23) ∨ (30 ≤ x.PC ∧ x.PC ≤ 39)
  regs : x.Regs.length = zis p m
  ip : 0 ≤ x.IP ∧ x.IP ≤ ((Zq p m).length : Int)
  op : (10 ≤ x.PC ∧ x.PC ≤ 30) ∨ ((x.PC = 1 ∨ x.PC = 3) ∧ x.Ret = 22) → x.IP < ((Zq p m).length : Int)
  ret : x.PC = 1 ∨ x.PC = 3 → x.Ret = 2 ∨ x.Ret = 22
  c32 : x.PC = 32 → zoE p nb (zN p) x.C
  b33 : x.PC = 33 → 1 ≤ x.Bin ∧ x.Bin < nb
  c34 : x.PC = 34 → zmi p nb (zv p) x.C
  bin : x.PC ≠ 33 → x.PC ≠ 34 → x.Bin = 0
  g : x.PC = 3 ∨ x.PC = 37 → MOk p nb x.G ∧ (x.G.PC = 5 → x.G.C.Out ≠ 1) ∧ x.G.Mode ≠ 1
  buf : (x.Buf.length : Int) ≤ p.Buf
theorem XOk.move {p : zb} {nb : Nat} {m : Int} {x y : ze} (X : XOk p nb m x) (h : x.PC ≠ 33 ∧ x.PC ≠ 34) (pc : y.PC = 0 ∨ y.PC = 2 ∨ y.PC = 10 ∨ (20 ≤ y.PC ∧ y.PC ≤ 23) ∨ y.PC = 30 ∨ y.PC = 31 ∨ y.PC = 35 ∨ y.PC = 36 ∨ y.PC = 38 ∨ y.PC = 39)
    (regs : y.Regs.length = x.Regs.length) (bin : y.Bin = x.Bin) (buf : (y.Buf.length : Int) ≤ p.Buf) (ip : 0 ≤ y.IP ∧ y.IP ≤ ((Zq p m).length : Int)) (op : 10 ≤ y.PC ∧ y.PC ≤ 30 → y.IP < ((Zq p m).length : Int)) : XOk p nb m y :=
  ⟨by omega, regs.trans X.regs, ip, fun e => op (by omega), fun e => by omega, fun e => by omega, fun e => by omega, fun e => by omega, fun _ _ => bin.trans (X.bin h.1 h.2), fun e => by omega, buf⟩
theorem zpE (s : za) (i : Int) : onM s i = 36 ∨ onM s i = 38 := by unfold onM; split <;> simp
theorem XOk.next {p : zb} {nb : Nat} {m : Int} {x : ze} (hp : ((Zq p m).length : Int) ≤ 64) (X : XOk p nb m x) (h : x.PC ≠ 33 ∧ x.PC ≠ 34) (hi : x.IP < ((Zq p m).length : Int)) : XOk p nb m (zlz x) := by
  have := X.ip
  have e : wc (x.IP + 1) = x.IP + 1 := xk (by omega) (by omega)
  refine X.move h (.inl rfl) rfl rfl X.buf ?_ (fun h => absurd h (by show ¬ ((10 : Int) ≤ 0 ∧ (0 : Int) ≤ 30); decide))
  show 0 ≤ wc (x.IP + 1) ∧ wc (x.IP + 1) ≤ _
  rw [e]; omega
theorem XOk.set {p : zb} {nb : Nat} {m : Int} {x : ze} (hp : ((Zq p m).length : Int) ≤ 64) (X : XOk p nb m x) (h : x.PC ≠ 33 ∧ x.PC ≠ 34) (hi : x.IP < ((Zq p m).length : Int)) (r v : Int) : XOk p nb m (setM x r v) := by
  have := X.ip
  have e : wc (x.IP + 1) = x.IP + 1 := xk (by omega) (by omega)
  refine X.move h (.inl rfl) (by simp [setM]) rfl X.buf ?_ (fun h => absurd h (by show ¬ ((10 : Int) ≤ 0 ∧ (0 : Int) ≤ 30); decide))
  show 0 ≤ wc (x.IP + 1) ∧ wc (x.IP + 1) ≤ _
  rw [e]; omega
theorem WK {motive : za × ze → Prop} (s : za) (m : Int) (x : ze) (h0 : x.PC = 0 → motive (mu0 s m x)) (h1 : x.PC = 1 → motive (mu1 s m x)) (h2 : x.PC = 2 → motive (mu2 s m x)) (h3 : x.PC = 3 → motive (mu3 s m x)) (h10 : x.PC = 10 → motive (zj0 s m x)) (h20 : x.PC = 20 → motive (zjU s m x)) (h21 : x.PC = 21 → motive (zkw s m x)) (h22 : x.PC = 22 → motive (zkh s m x)) (h23 : x.PC = 23 → motive (zjI s m x)) (h30 : x.PC = 30 → motive (zjH s m x)) (h31 : x.PC = 31 → motive (zjX s m x)) (h32 : x.PC = 32 → motive (zkk s m x)) (h33 : x.PC = 33 → motive (zkp s m x)) (h34 : x.PC = 34 → motive (zki s m x)) (h35 : x.PC = 35 → motive (zkg s m x)) (h36 : x.PC = 36 → motive (zkb s m x)) (h37 : x.PC = 37 → motive (zkl s m x)) (h38 : x.PC = 38 → motive (zjp s m x)) (h39 : x.PC = 39 → motive (zj2 s m x)) (hn : motive (s, x)) : motive (xK s m x) := by
  unfold xK
  by_cases c0 : x.PC = 0
  · rw [if_pos c0]; exact h0 c0
  rw [if_neg c0]
  by_cases c1 : x.PC = 1
  · rw [if_pos c1]; exact h1 c1
  rw [if_neg c1]
  by_cases c2 : x.PC = 2
  · rw [if_pos c2]; exact h2 c2
  rw [if_neg c2]
  by_cases c3 : x.PC = 3
  · rw [if_pos c3]; exact h3 c3
  rw [if_neg c3]
  by_cases c10 : x.PC = 10
  · rw [if_pos c10]; exact h10 c10
  rw [if_neg c10]
  by_cases c20 : x.PC = 20
  · rw [if_pos c20]; exact h20 c20
  rw [if_neg c20]
  by_cases c21 : x.PC = 21
  · rw [if_pos c21]; exact h21 c21
  rw [if_neg c21]
  by_cases c22 : x.PC = 22
  · rw [if_pos c22]; exact h22 c22
  rw [if_neg c22]
  by_cases c23 : x.PC = 23
  · rw [if_pos c23]; exact h23 c23
  rw [if_neg c23]
  by_cases c30 : x.PC = 30
  · rw [if_pos c30]; exact h30 c30
  rw [if_neg c30]
  by_cases c31 : x.PC = 31
  · rw [if_pos c31]; exact h31 c31
  rw [if_neg c31]
  by_cases c32 : x.PC = 32
  · rw [if_pos c32]; exact h32 c32
  rw [if_neg c32]
  by_cases c33 : x.PC = 33
  · rw [if_pos c33]; exact h33 c33
  rw [if_neg c33]
  by_cases c34 : x.PC = 34
  · rw [if_pos c34]; exact h34 c34
  rw [if_neg c34]
  by_cases c35 : x.PC = 35
  · rw [if_pos c35]; exact h35 c35
  rw [if_neg c35]
  by_cases c36 : x.PC = 36
  · rw [if_pos c36]; exact h36 c36
  rw [if_neg c36]
  by_cases c37 : x.PC = 37
  · rw [if_pos c37]; exact h37 c37
  rw [if_neg c37]
  by_cases c38 : x.PC = 38
  · rw [if_pos c38]; exact h38 c38
  rw [if_neg c38]
  by_cases c39 : x.PC = 39
  · rw [if_pos c39]; exact h39 c39
  rw [if_neg c39]
  exact hn
theorem zsd {p : zb} {nb : Nat} {s : za} {m : Int} {x : ze} (h : zr p) (hp : ((Zq p m).length : Int) ≤ 64) (S : SOk p nb s) (X : XOk p nb m x) : SOk p nb (xK s m x).1 ∧ XOk p nb m (xK s m x).2 := by
  have hP := S.P
  have hip := X.ip
  have hbuf := X.buf
  have hb := h.buf
  have nop : ∀ y : Int, 31 ≤ y → ¬ (10 ≤ y ∧ y ≤ 30) := fun y h e => by omega
  refine WK (motive := fun r => SOk p nb r.1 ∧ XOk p nb m r.2) s m x ?_ ?_ ?_ ?_ ?_ ?_ ?_ ?_ ?_ ?_ ?_ ?_ ?_ ?_ ?_ ?_ ?_ ?_ ?_ ?_
  · intro c
    unfold mu0
    refine ⟨S, ?_⟩
    unfold zh7
    rw [hP]
    split
    · exact ⟨.inl ⟨(by show (0 : Int) ≤ 1; decide), (by show (1 : Int) ≤ 3; decide)⟩, X.regs, X.ip, fun e => by dsimp only at e; omega, fun _ => .inl rfl, fun e => (by cases e), fun e => (by cases e), fun e => (by cases e), fun _ _ => X.bin (by omega) (by omega), fun e => by dsimp only at e; omega, X.buf⟩
    split
    · exact X
    rename_i hlt
    have hlt : x.IP < ((Zq p m).length : Int) := by omega
    split
    · exact X.move (by omega) (.inr (.inr (.inl rfl))) rfl rfl X.buf X.ip (fun _ => hlt)
    split
    · exact X.move (by omega) (.inr (.inr (.inr (.inl ⟨by show (20 : Int) ≤ 20; decide, by show (20 : Int) ≤ 23; decide⟩)))) rfl rfl X.buf X.ip (fun _ => hlt)
    split
    · exact X.move (by omega) (.inr (.inr (.inr (.inr (.inl rfl))))) rfl rfl X.buf X.ip (fun _ => hlt)
    split
    · exact X.set hp (by omega) hlt _ _
    · exact X.set hp (by omega) hlt _ _
  · intro c
    unfold mu1
    refine ⟨S, ?_⟩
    split
    · rcases X.ret (.inl c) with e | e
      · exact X.move (by omega) (.inr (.inl e)) rfl rfl X.buf X.ip (fun e2 => by dsimp only at e2; omega)
      · exact X.move (by omega) (.inr (.inr (.inr (.inl (by dsimp only; omega))))) rfl rfl X.buf X.ip (fun e2 => X.op (.inr ⟨.inl c, e⟩))
    · exact ⟨.inl ⟨(by show (0 : Int) ≤ 3; decide), (by show (3 : Int) ≤ 3; decide)⟩, X.regs, X.ip, fun e => X.op (.inr ⟨.inl c, by dsimp only at e; omega⟩), fun _ => X.ret (.inl c), fun e => (by cases e), fun e => (by cases e), fun e => (by cases e), fun _ _ => X.bin (by omega) (by omega),
        fun _ => ⟨⟨fun e => absurd e (by show ¬ (2 : Int) = 1; decide), fun e => (by cases e), fun e => (by cases e), fun e => (by cases e), fun e => (by cases e)⟩, fun e => (by cases e), by show (2 : Int) ≠ 1; decide⟩, by dsimp only; rw [List.length_take]; omega⟩
  · intro c
    unfold mu2
    exact ⟨S.keep rfl rfl rfl, X.move (by omega) (.inl rfl) rfl rfl X.buf X.ip (fun e => absurd e (by show ¬ ((10 : Int) ≤ 0 ∧ (0 : Int) ≤ 30); decide))⟩
  · intro c
    unfold mu3
    obtain ⟨g1, g2, g3⟩ := X.g (.inl c)
    obtain ⟨r1, r2, r3⟩ := zbH h S g1 g2
    refine ⟨r1, ?_⟩
    dsimp only
    split
    · exact ⟨.inl ⟨(by show (0 : Int) ≤ 1; decide), (by show (1 : Int) ≤ 3; decide)⟩, X.regs, X.ip, fun e => X.op (.inr ⟨.inr c, by dsimp only at e; omega⟩), fun _ => X.ret (.inr c), fun e => (by cases e), fun e => (by cases e), fun e => (by cases e), fun _ _ => X.bin (by omega) (by omega), fun e => by dsimp only at e; omega, X.buf⟩
    · exact ⟨X.pc, X.regs, X.ip, X.op, X.ret, fun e => by dsimp only at e; omega, fun e => by dsimp only at e; omega, fun e => by dsimp only at e; omega, X.bin, fun _ => ⟨r2, r3, by rw [(ZI s x.G).2.2]; exact g3⟩, X.buf⟩
  · intro c
    unfold zj0
    exact ⟨S, X.set hp (by omega) (X.op (.inl (by omega))) _ _⟩
  · intro c
    unfold zjU
    refine ⟨S, ?_⟩
    split
    · exact X.next hp (by omega) (X.op (.inl (by omega)))
    · exact X.move (by omega) (.inr (.inr (.inr (.inl ⟨by show (20 : Int) ≤ 21; decide, by show (21 : Int) ≤ 23; decide⟩)))) rfl rfl X.buf X.ip (fun _ => X.op (.inl (by omega)))
  · intro c
    unfold zkw
    refine ⟨S, ?_⟩
    split
    · exact X.move (by omega) (.inr (.inr (.inr (.inl ⟨by show (20 : Int) ≤ 23; decide, by show (23 : Int) ≤ 23; decide⟩)))) rfl rfl X.buf X.ip (fun _ => X.op (.inl (by omega)))
    · exact X.move (by omega) (.inr (.inr (.inr (.inl ⟨by show (20 : Int) ≤ 22; decide, by show (22 : Int) ≤ 23; decide⟩)))) rfl rfl X.buf X.ip (fun _ => X.op (.inl (by omega)))
  · intro c
    unfold zkh
    have hi := X.op (.inl (by omega))
    refine ⟨S, ?_⟩
    rw [hP]
    split
    · exact ⟨.inl ⟨(by show (0 : Int) ≤ 1; decide), (by show (1 : Int) ≤ 3; decide)⟩, X.regs, X.ip, fun e => hi, fun _ => .inr rfl, fun e => (by cases e), fun e => (by cases e), fun e => (by cases e), fun _ _ => X.bin (by omega) (by omega), fun e => by dsimp only at e; omega, X.buf⟩
    · exact X.move (by omega) (.inr (.inr (.inr (.inl ⟨by show (20 : Int) ≤ 23; decide, by show (23 : Int) ≤ 23; decide⟩)))) rfl rfl (by simp; omega) X.ip (fun _ => hi)
  · intro c
    unfold zjI
    exact ⟨S.keep rfl rfl rfl, X.next hp (by omega) (X.op (.inl (by omega)))⟩
  · intro c
    unfold zjH
    have hi := X.op (.inl (by omega))
    split
    · split
      · exact ⟨S.keep rfl rfl rfl, X.set hp (by omega) hi _ _⟩
      · exact ⟨S, X.next hp (by omega) hi⟩
    · exact ⟨S, X.move (by omega) (.inr (.inr (.inr (.inr (.inr (.inl rfl)))))) rfl rfl X.buf X.ip (fun e => absurd e (by show ¬ ((10 : Int) ≤ 31 ∧ (31 : Int) ≤ 30); decide))⟩
  · intro c
    unfold zjX
    refine ⟨S.keep rfl rfl rfl, ?_⟩
    rw [hP]
    split
    · exact ⟨.inr (.inr (.inr ⟨(by show (30 : Int) ≤ 32; decide), (by show (32 : Int) ≤ 39; decide)⟩)), X.regs, X.ip, fun e => by dsimp only at e; omega, fun e => by dsimp only at e; omega, fun _ => znE, fun e => (by cases e), fun e => (by cases e), fun _ _ => X.bin (by omega) (by omega), fun e => by dsimp only at e; omega, X.buf⟩
    · exact X.move (by omega) (.inl rfl) rfl rfl X.buf X.ip (fun e => absurd e (by show ¬ ((10 : Int) ≤ 0 ∧ (0 : Int) ≤ 30); decide))
  · intro c
    unfold zkk
    have C := X.c32 c
    obtain ⟨b1, b2, b3, b4, b5, b6⟩ := ziQ h S (.inl rfl) C.k C.h C.n C.v C.y C.o
    refine ⟨b1, ?_⟩
    dsimp only
    split
    · rename_i e1
      exact ⟨.inr (.inr (.inr ⟨(by show (30 : Int) ≤ 33; decide), (by show (33 : Int) ≤ 39; decide)⟩)), X.regs, X.ip, fun e => by dsimp only at e; omega, fun e => by dsimp only at e; omega, fun e => (by cases e), fun _ => b6 e1, fun e => (by cases e), fun e => absurd rfl e, fun e => by dsimp only at e; omega, X.buf⟩
    split
    · exact X.move (by omega) (.inl rfl) rfl rfl X.buf X.ip (fun e => absurd e (by show ¬ ((10 : Int) ≤ 0 ∧ (0 : Int) ≤ 30); decide))
    · rename_i e1 e2
      exact ⟨X.pc, X.regs, X.ip, X.op, X.ret, fun _ => ⟨b2, b3, b4, (b5 e1 e2).1, (b5 e1 e2).2, e1⟩, fun e => by dsimp only at e; omega, fun e => by dsimp only at e; omega, X.bin, fun e => by dsimp only at e; omega, X.buf⟩
  · intro c
    unfold zkp
    have B := X.b33 c
    refine ⟨S.keep rfl rfl (by simp), ?_⟩
    rw [hP]
    exact ⟨.inr (.inr (.inr ⟨(by show (30 : Int) ≤ 34; decide), (by show (34 : Int) ≤ 39; decide)⟩)), X.regs, X.ip, fun e => by dsimp only at e; omega, fun e => by dsimp only at e; omega, fun e => (by cases e), fun e => (by cases e), fun _ => zmj B, fun _ e => absurd rfl e, fun e => by dsimp only at e; omega, X.buf⟩
  · intro c
    unfold zki
    have C := X.c34 c
    obtain ⟨b1, b2, b3, b4, b5, b6⟩ := zjl h S (.inr rfl) C.k C.h C.n C.x C.v
    refine ⟨b1, ?_⟩
    dsimp only
    split
    · exact ⟨.inr (.inr (.inr ⟨(by show (30 : Int) ≤ 35; decide), (by show (35 : Int) ≤ 39; decide)⟩)), X.regs, X.ip, fun e => by dsimp only at e; omega, fun e => by dsimp only at e; omega, fun e => (by cases e), fun e => (by cases e), fun e => (by cases e), fun _ _ => rfl, fun e => by dsimp only at e; omega, X.buf⟩
    · exact ⟨X.pc, X.regs, X.ip, X.op, X.ret, fun e => by dsimp only at e; omega, fun e => by dsimp only at e; omega, fun _ => ⟨b2, b3, b4, b5, b6⟩, X.bin, fun e => by dsimp only at e; omega, X.buf⟩
  · intro c
    unfold zkg
    refine ⟨S, ?_⟩
    dsimp only
    split
    · exact X.move (by omega) (.inl rfl) rfl rfl X.buf X.ip (fun e => absurd e (by show ¬ ((10 : Int) ≤ 0 ∧ (0 : Int) ≤ 30); decide))
    · exact X.move (by omega) (by simp) rfl rfl X.buf X.ip (fun e => absurd e (nop 36 (by omega)))
  · intro c
    unfold zkb
    refine ⟨S, ?_⟩
    dsimp only
    split
    · rcases zpE s (wc (x.Slot + 1)) with e | e <;> rw [e]
      · exact X.move (by omega) (by simp) rfl rfl X.buf X.ip (fun e => absurd e (nop 36 (by omega)))
      · exact X.move (by omega) (by simp) rfl rfl X.buf X.ip (fun e => absurd e (nop 38 (by omega)))
    · exact ⟨.inr (.inr (.inr ⟨(by show (30 : Int) ≤ 37; decide), (by show (37 : Int) ≤ 39; decide)⟩)), X.regs, X.ip, fun e => by dsimp only at e; omega, fun e => by dsimp only at e; omega, fun e => (by cases e), fun e => (by cases e), fun e => (by cases e), fun _ _ => X.bin (by omega) (by omega),
        fun _ => ⟨⟨fun e => absurd e (by show ¬ (3 : Int) = 1; decide), fun e => (by cases e), fun e => (by cases e), fun e => (by cases e), fun e => (by cases e)⟩, fun e => (by cases e), by show (3 : Int) ≠ 1; decide⟩, X.buf⟩
  · intro c
    unfold zkl
    obtain ⟨g1, g2, g3⟩ := X.g (.inr c)
    obtain ⟨r1, r2, r3⟩ := zbH h S g1 g2
    refine ⟨r1, ?_⟩
    dsimp only
    split
    · rcases zpE s x.Slot with e | e <;> rw [e]
      · exact X.move (by omega) (by simp) rfl rfl X.buf X.ip (fun e => absurd e (nop 36 (by omega)))
      · exact X.move (by omega) (by simp) rfl rfl X.buf X.ip (fun e => absurd e (nop 38 (by omega)))
    · exact ⟨X.pc, X.regs, X.ip, X.op, X.ret, fun e => by dsimp only at e; omega, fun e => by dsimp only at e; omega, fun e => by dsimp only at e; omega, X.bin, fun _ => ⟨r2, r3, by rw [(ZI s x.G).2.2]; exact g3⟩, X.buf⟩
  · intro c
    unfold zjp
    exact ⟨S.keep rfl rfl rfl, X.move (by omega) (by simp) rfl rfl X.buf X.ip (fun e => absurd e (nop 39 (by omega)))⟩
  · intro c
    unfold zj2
    exact ⟨S.keep rfl rfl rfl, X.move (by omega) (by simp) rfl rfl X.buf X.ip (fun e => absurd e (nop 35 (by omega)))⟩
  · exact ⟨S, X⟩
end
end Go.Pe.G
namespace Go.Pe.G
open Go.Pe
noncomputable section
def znX (s : za) : za :=
  if s.Done = true then s
  else if s.D.PC = 0 then { s with Flag := false, D := { s.D with PC := 1 } }
  else if s.D.PC = 1 then (if s.Work = 0 then { s with D := { s.D with PC := 2 } } else s)
  else if s.D.PC = 2 then { s with Epoch := wc (s.Epoch + 1), D := ⟨if s.Ms.length = 0 then 4 else 3, 0⟩ }
  else if s.D.PC = 3 then (if s.Acks.getD s.D.I.toNat 0 < s.Epoch then s else { s with D := ⟨if wc (s.D.I + 1) = (s.Ms.length : Int) then 4 else 3, wc (s.D.I + 1)⟩ })
  else if s.D.PC = 4 then (if s.Work = 0 then { s with D := { s.D with PC := 5 } } else { s with Restarts := wc (s.Restarts + 1), D := { s.D with PC := 0 } })
  else if s.D.PC = 5 then (if s.Flag = true then { s with Restarts := wc (s.Restarts + 1), D := { s.D with PC := 0 } } else { s with D := { s.D with PC := 6 } })
  else if s.D.PC = 6 then { s with Done := true }
  else s
structure HOk (p : zb) (h : zG) : Prop where
  slots : h.Slots = p.H.Slots
  n : (p.H.Objs.length : Int) ≤ (h.Objs.length : Int) ∧ (h.Objs.length : Int) ≤ p.Most
  objs : ∀ o ∈ h.Objs, (o.length : Int) = h.Slots ∧ ∀ v ∈ o, 0 ≤ v ∧ v ≤ (h.Objs.length : Int)
structure EOk (p : zb) (nb : Nat) (s : za) : Prop where
  S : SOk p nb s
  wl : (s.Ws.length : Int) = p.Workers
  ml : (s.Ms.length : Int) = p.Mutators
  al : s.Acks.length = s.Ms.length
  W : ∀ (i : Nat) x, s.Ws[i]? = some x → WOk p nb ((i : Int) + 1) x
  X : ∀ (i : Nat) x, s.Ms[i]? = some x → XOk p nb ((i : Int) + 1) x
  H : HOk p s.H
  D : (0 ≤ s.D.PC ∧ s.D.PC ≤ 6) ∧ (s.D.PC = 3 → 0 ≤ s.D.I ∧ s.D.I < (s.Ms.length : Int))
  small : u5 s
theorem zoy {p : zb} (h : zr p) (m : Int) : ((Zq p m).length : Int) ≤ 64 := by
  unfold Zq
  have hr := h.regs
  have hp := h.progs
  rw [List.getD_eq_getElem?_getD]
  rcases Nat.lt_or_ge (m - 1).toNat p.Progs.length with hl | hl
  · rw [List.getElem?_eq_getElem hl]
    have hl2 : (m - 1).toNat < p.Regs.length := by omega
    have := (h.prog (m - 1).toNat _ _ (List.getElem?_eq_getElem hl2) (List.getElem?_eq_getElem hl)).1
    show ((p.Progs[(m - 1).toNat]).length : Int) ≤ 64
    omega
  · rw [List.getElem?_eq_none hl]; show (([] : List zj).length : Int) ≤ 64; simp
theorem zsa {p : zb} (h : zr p) : EOk p (zF p + 1) (z8 p) := by
  have hw := h.wk
  have hm := h.mt
  have hr := h.regs
  have hn := h.n
  have hmo := h.most
  have hb := h.buf
  refine ⟨zd4 h, ?_, ?_, ?_, fun i x hx => ?_, fun i x hx => ?_, ⟨rfl, ⟨Int.le_refl _, hmo.1⟩, h.objs⟩, ⟨⟨by show (0 : Int) ≤ 0; decide, by show (0 : Int) ≤ 6; decide⟩, fun e => absurd e (by show ¬ (0 : Int) = 3; decide)⟩, zp3 h⟩
  · show (((List.range p.Workers.toNat).map (xR p)).length : Int) = _
    rw [List.length_map, List.length_range]; omega
  · show ((p.Regs.map w9).length : Int) = _
    rw [List.length_map]; exact hr
  · show (List.replicate p.Mutators.toNat (0 : Int)).length = (p.Regs.map w9).length
    rw [List.length_replicate, List.length_map]; omega
  · have hx : ((List.range p.Workers.toNat).map (xR p))[i]? = some x := hx
    rw [List.getElem?_map] at hx
    rcases Nat.lt_or_ge i p.Workers.toNat with hl | hl
    · rw [List.getElem?_range hl] at hx
      injection hx with hx
      subst hx
      exact ⟨⟨by show (0 : Int) ≤ 0; decide, by show (0 : Int) ≤ 9; decide⟩, by show 1 ≤ (i : Int) + 1 ∧ (i : Int) + 1 ≤ p.Workers; omega, fun _ => ⟨rfl, rfl, rfl⟩, fun e => (by cases e), fun e => (by cases e), fun e => (by cases e), fun e => (by cases e), fun e => (by cases e)⟩
    · rw [List.getElem?_eq_none (by rw [List.length_range]; exact hl)] at hx; cases hx
  · have hx : (p.Regs.map w9)[i]? = some x := hx
    rw [List.getElem?_map] at hx
    cases hq : p.Regs[i]? with
    | none => rw [hq] at hx; cases hx
    | some r =>
      rw [hq] at hx
      injection hx with hx
      subst hx
      refine ⟨.inl ⟨by show (0 : Int) ≤ 0; decide, by show (0 : Int) ≤ 3; decide⟩, ?_, ⟨by show (0 : Int) ≤ 0; decide, by show (0 : Int) ≤ _; omega⟩, fun e => absurd e ?_, fun e => absurd e ?_, fun e => (by cases e), fun e => (by cases e), fun e => (by cases e), fun _ _ => rfl, fun e => absurd e ?_, by show (0 : Int) ≤ p.Buf; omega⟩
      · show r.length = zis p ((i : Int) + 1)
        unfold zis
        rw [show ((i : Int) + 1 - 1).toNat = i by omega, List.getD_eq_getElem?_getD, hq]; rfl
      · intro e; simp [w9] at e
      · intro e; simp [w9] at e
      · intro e; simp [w9] at e
theorem zg7 {s : za} (h : u5 s) (b : Int) : (U9 s b).length < 1000000 := by
  unfold U9
  rw [List.getD_eq_getElem?_getD]
  cases hq : s.Bins[b.toNat]? with
  | none => simp
  | some l => exact h.bin l (List.mem_of_getElem? hq)
theorem zkU (l : zA) (w : Int) : (zlu l w).Bal.length = l.Bal.length := by unfold zlu; split <;> simp
structure Zj (s s' : za) : Prop where
  P : s'.P = s.P
  m : s'.M.length = s.M.length
  bl : s'.Bins.length = s.Bins.length
  b : ∀ l ∈ s'.Bins, l ∈ s.Bins ∨ l.length ≤ 1
  bal : s'.L.Bal.length = s.L.Bal.length
  ac : s'.Acks.length = s.Acks.length
  ws : s'.Ws = s.Ws
  ms : s'.Ms = s.Ms
  done : s'.Done = s.Done
  d : s'.D = s.D
theorem Zj.refl (s : za) : Zj s s := ⟨rfl, rfl, rfl, fun l h => .inl h, rfl, rfl, rfl, rfl, rfl, rfl⟩
theorem zaa (s : za) (g : zd) : Zj s (zm s g).1 ∧ (zm s g).1.H = s.H := by
  obtain ⟨m, b, t, w, f, e, h1, h2, h3, _, _⟩ := zff s g
  rw [e]
  exact ⟨⟨rfl, h1, h2, fun l hl => (h3 l hl).imp id (fun e => by rw [e]; simp), rfl, rfl, rfl, rfl, rfl, rfl⟩, rfl⟩
theorem znP {s : za} (b : Nat) : ∀ l ∈ s.Bins.set b [], l ∈ s.Bins ∨ l.length ≤ 1 := fun l hl => (List.mem_or_eq_of_mem_set hl).imp id (fun e => by rw [e]; simp)
theorem zpd (s : za) (w : Int) (x : zi) : Zj s (zC s w x).1 ∧ (zC s w x).1.H = s.H := by
  unfold zC
  split
  · exact ⟨⟨rfl, (zdv _ _).1, rfl, fun l h => .inl h, rfl, rfl, rfl, rfl, rfl, rfl⟩, rfl⟩
  split
  · exact ⟨⟨rfl, XJ _ _, rfl, fun l h => .inl h, rfl, rfl, rfl, rfl, rfl, rfl⟩, rfl⟩
  split
  · exact ⟨⟨rfl, rfl, by simp, znP _, rfl, rfl, rfl, rfl, rfl, rfl⟩, rfl⟩
  split
  · exact ⟨⟨rfl, XJ _ _, rfl, fun l h => .inl h, rfl, rfl, rfl, rfl, rfl, rfl⟩, rfl⟩
  split
  · exact ⟨Zj.refl s, rfl⟩
  split
  · exact zaa s x.G
  split
  · exact ⟨Zj.refl s, rfl⟩
  split
  · exact ⟨⟨rfl, rfl, rfl, fun l h => .inl h, zkU _ _, rfl, rfl, rfl, rfl, rfl⟩, rfl⟩
  split
  · exact ⟨⟨rfl, rfl, rfl, fun l h => .inl h, rfl, rfl, rfl, rfl, rfl, rfl⟩, rfl⟩
  · exact ⟨Zj.refl s, rfl⟩
theorem znd (p : zb) (w : Int) (x : zi) : (ZC p w x).Batch = x.Batch := by unfold ZC; split <;> rfl
theorem zom {s : za} (h : u5 s) (w : Int) {x : zi} (hx : x.Batch.length < 1000000) : (zC s w x).2.Batch.length < 1000000 := by
  unfold zC
  split
  · dsimp only
    split
    · exact hx
    split
    · rw [znd]; exact hx
    · exact hx
  split
  · dsimp only
    split
    · exact hx
    split <;> exact hx
  split
  · exact zg7 h _
  split
  · dsimp only
    split <;> exact hx
  split
  · dsimp only
    split <;> exact hx
  split
  · dsimp only
    split <;> exact hx
  split
  · dsimp only
    cases hb : x.Batch with
    | nil => show x.Batch.length < _; exact hx
    | cons o l => rw [hb] at hx; show l.length < _; simp at hx; omega
  split
  · exact hx
  split
  · exact hx
  · exact hx
theorem zn5 (l : zA) (w p : Int) : (zmp l w p).Bal.length = l.Bal.length := by unfold zmp; simp
theorem zpN (l : zA) (w n : Int) : (zly l w n).1.Bal.length = l.Bal.length := by unfold zly; split <;> simp
theorem zqy (s : za) (m : Int) (x : ze) : Zj s (xK s m x).1 := by
  have q : ∀ s' : za, s'.P = s.P → s'.M = s.M → s'.Bins = s.Bins → s'.L.Bal.length = s.L.Bal.length → s'.Acks.length = s.Acks.length → s'.Ws = s.Ws → s'.Ms = s.Ms → s'.Done = s.Done → s'.D = s.D → Zj s s' :=
    fun s' a b c d e f g h i => ⟨a, by rw [b], by rw [c], fun l hl => .inl (c ▸ hl), d, e, f, g, h, i⟩
  refine WK (motive := fun r => Zj s r.1) s m x ?_ ?_ ?_ ?_ ?_ ?_ ?_ ?_ ?_ ?_ ?_ ?_ ?_ ?_ ?_ ?_ ?_ ?_ ?_ ?_
  · intro c
    unfold mu0
    exact Zj.refl s
  · intro c
    unfold mu1
    exact Zj.refl s
  · intro c
    unfold mu2
    exact q _ rfl rfl rfl rfl (by simp) rfl rfl rfl rfl
  · intro c
    unfold mu3
    exact (zaa s x.G).1
  · intro c
    unfold zj0
    exact Zj.refl s
  · intro c
    unfold zjU
    exact Zj.refl s
  · intro c
    unfold zkw
    exact Zj.refl s
  · intro c
    unfold zkh
    exact Zj.refl s
  · intro c
    unfold zjI
    exact q _ rfl rfl rfl rfl rfl rfl rfl rfl rfl
  · intro c
    unfold zjH
    split
    · split
      · exact q _ rfl rfl rfl (zn5 _ _ _) rfl rfl rfl rfl rfl
      · exact Zj.refl s
    · exact Zj.refl s
  · intro c
    unfold zjX
    exact q _ rfl rfl rfl (zpN _ _ _) rfl rfl rfl rfl rfl
  · intro c
    unfold zkk
    exact ⟨rfl, XJ _ _, rfl, fun l h => .inl h, rfl, rfl, rfl, rfl, rfl, rfl⟩
  · intro c
    unfold zkp
    exact ⟨rfl, rfl, by simp, znP _, rfl, rfl, rfl, rfl, rfl, rfl⟩
  · intro c
    unfold zki
    exact ⟨rfl, XJ _ _, rfl, fun l h => .inl h, rfl, rfl, rfl, rfl, rfl, rfl⟩
  · intro c
    unfold zkg
    exact Zj.refl s
  · intro c
    unfold zkb
    exact Zj.refl s
  · intro c
    unfold zkl
    exact (zaa s x.G).1
  · intro c
    unfold zjp
    exact q _ rfl rfl rfl (zkU _ _) rfl rfl rfl rfl rfl
  · intro c
    unfold zj2
    exact q _ rfl rfl rfl rfl rfl rfl rfl rfl rfl
  · exact Zj.refl s
theorem HOk.sm {p : zb} (hp : zr p) {h : zG} (H : HOk p h) : h.Objs.length < 1000000 ∧ ∀ x ∈ h.Objs, x.length < 1000000 := by
  have h1 := H.n
  have h2 := hp.most
  have h3 := hp.n
  have h4 := hp.slots
  have h5 := H.slots
  exact ⟨by omega, fun x hx => by have := (H.objs x hx).1; omega⟩
theorem u5.turn {p : zb} (hp : zr p) {s s' : za} (h : u5 s) (T : Zj s s') (H : HOk p s'.H) : u5 s' := by
  have hh := H.sm hp
  refine ⟨by rw [T.m]; exact h.m, by rw [T.bl]; exact h.bins, fun x hx => ?_, by rw [T.ac]; exact h.acks, by rw [T.bal]; exact h.bal, by rw [T.ws]; exact h.ws, by rw [T.ws]; exact h.w, by rw [T.ms]; exact h.ms, by rw [T.ms]; exact h.mu, hh.1, hh.2, by rw [T.P]; exact h.pobjs, by rw [T.P]; exact h.pobj, by rw [T.P]; exact h.regs, by rw [T.P]; exact h.reg, by rw [T.P]; exact h.progs, by rw [T.P]; exact h.prog, by rw [T.P]; exact h.picks⟩
  rcases T.b x hx with h' | h'
  · exact h.bin x h'
  · omega
theorem u5.setW {s : za} (h : u5 s) {i : Nat} {x : zi} (hx : x.Batch.length < 1000000) : u5 { s with Ws := s.Ws.set i x } :=
  ⟨h.m, h.bins, h.bin, h.acks, h.bal, by simp only [List.length_set]; exact h.ws, fun y hy => by
    rcases List.mem_or_eq_of_mem_set hy with hy | rfl
    · exact h.w y hy
    · exact hx, h.ms, h.mu, h.objs, h.obj, h.pobjs, h.pobj, h.regs, h.reg, h.progs, h.prog, h.picks⟩
theorem u5.setM {s : za} (h : u5 s) {i : Nat} {x : ze} (hx : x.Regs.length < 1000000 ∧ x.Buf.length < 1000000 ∧ x.Batch.length < 1000000) : u5 { s with Ms := s.Ms.set i x } :=
  ⟨h.m, h.bins, h.bin, h.acks, h.bal, h.ws, h.w, by simp only [List.length_set]; exact h.ms, fun y hy => by
    rcases List.mem_or_eq_of_mem_set hy with hy | rfl
    · exact h.mu y hy
    · exact hx, h.objs, h.obj, h.pobjs, h.pobj, h.regs, h.reg, h.progs, h.prog, h.picks⟩
theorem znZ {α : Type} {l : List α} {i j : Nat} {x y : α} (h : (l.set i x)[j]? = some y) : (j = i ∧ y = x) ∨ l[j]? = some y := by
  rw [List.getElem?_set] at h
  split at h
  · rename_i e
    split at h
    · injection h with h; exact .inl ⟨e.symm, h.symm⟩
    · cases h
  · exact .inr h
theorem zri {p : zb} {nb : Nat} {s : za} (h : zr p) (E : EOk p nb s) (w : Int) : EOk p nb (ZA s w) := by
  unfold ZA
  split
  · exact E
  rename_i hc
  cases hx : s.Ws[(w - 1).toNat]? with
  | none => exact E
  | some x =>
    have hw1 : ¬ w < 1 := fun e => hc (.inr (.inl e))
    have hw2 : ¬ (s.Ws.length : Int) < w := fun e => hc (.inr (.inr e))
    have hwl := E.wl
    have ei : (((w - 1).toNat : Nat) : Int) + 1 = w := by omega
    have hW := E.W _ x hx
    rw [ei] at hW
    obtain ⟨r1, r2⟩ := znY h (by omega) E.S hW
    obtain ⟨T, TH⟩ := zpd s w x
    have sm : u5 (zC s w x).1 := E.small.turn h T (by rw [TH]; exact E.H)
    have hws : (zC s w x).1.Ws = s.Ws := T.ws
    refine ⟨r1.keep rfl rfl rfl, ?_, ?_, ?_, fun i y hy => ?_, fun i y hy => ?_, ?_, ?_, ?_⟩
    · show ((s.Ws.set _ _).length : Int) = _
      rw [List.length_set]; exact hwl
    · show ((zC s w x).1.Ms.length : Int) = _
      rw [T.ms]; exact E.ml
    · show (zC s w x).1.Acks.length = (zC s w x).1.Ms.length
      rw [T.ms, T.ac]; exact E.al
    · rcases znZ hy with ⟨rfl, rfl⟩ | hy
      · rw [ei]; exact r2
      · exact E.W i y hy
    · have hy : (zC s w x).1.Ms[i]? = some y := hy
      rw [T.ms] at hy
      exact E.X i y hy
    · show HOk p (zC s w x).1.H
      rw [TH]; exact E.H
    · show (0 ≤ (zC s w x).1.D.PC ∧ (zC s w x).1.D.PC ≤ 6) ∧ ((zC s w x).1.D.PC = 3 → 0 ≤ (zC s w x).1.D.I ∧ (zC s w x).1.D.I < ((zC s w x).1.Ms.length : Int))
      rw [T.d, T.ms]; exact E.D
    · have := sm.setW (i := (w - 1).toNat) (zom E.small w (E.small.w x (List.mem_of_getElem? hx)))
      rw [hws] at this
      exact this
theorem ztx {p : zb} {nb : Nat} {s : za} (h : zr p) (E : EOk p nb s) : EOk p nb (znX s) := by
  have key : ∀ s' : za, s'.P = s.P → s'.M = s.M → s'.Bins = s.Bins → s'.Ws = s.Ws → s'.Ms = s.Ms → s'.Acks = s.Acks → s'.H = s.H → s'.L = s.L → ((0 ≤ s'.D.PC ∧ s'.D.PC ≤ 6) ∧ (s'.D.PC = 3 → 0 ≤ s'.D.I ∧ s'.D.I < (s'.Ms.length : Int))) → EOk p nb s' := by
    intro s' e1 e2 e3 e4 e5 e6 e7 e8 e9
    have q := E.small
    refine ⟨E.S.keep e1 e2 (by rw [e3]), by rw [e4]; exact E.wl, by rw [e5]; exact E.ml, by rw [e5, e6]; exact E.al, by rw [e4]; exact E.W, by rw [e5]; exact E.X, by rw [e7]; exact E.H, e9, ?_⟩
    exact ⟨by rw [e2]; exact q.m, by rw [e3]; exact q.bins, by rw [e3]; exact q.bin, by rw [e6]; exact q.acks, by rw [e8]; exact q.bal, by rw [e4]; exact q.ws, by rw [e4]; exact q.w, by rw [e5]; exact q.ms, by rw [e5]; exact q.mu, by rw [e7]; exact q.objs, by rw [e7]; exact q.obj, by rw [e1]; exact q.pobjs, by rw [e1]; exact q.pobj, by rw [e1]; exact q.regs, by rw [e1]; exact q.reg, by rw [e1]; exact q.progs, by rw [e1]; exact q.prog, by rw [e1]; exact q.picks⟩
  have hm : ∀ n : Int, 0 ≤ n ∧ n ≤ 6 → n ≠ 3 → ∀ i, (0 ≤ (⟨n, i⟩ : zn).PC ∧ (⟨n, i⟩ : zn).PC ≤ 6) ∧ ((⟨n, i⟩ : zn).PC = 3 → 0 ≤ (⟨n, i⟩ : zn).I ∧ (⟨n, i⟩ : zn).I < (s.Ms.length : Int)) := fun n h1 h2 i => ⟨h1, fun e => absurd e h2⟩
  have hml := E.ml
  have hmt := h.mt
  unfold znX
  split
  · exact E
  split
  · exact key _ rfl rfl rfl rfl rfl rfl rfl rfl (hm 1 (by decide) (by decide) _)
  split
  · split
    · exact key _ rfl rfl rfl rfl rfl rfl rfl rfl (hm 2 (by decide) (by decide) _)
    · exact E
  split
  · refine key _ rfl rfl rfl rfl rfl rfl rfl rfl ?_
    dsimp only
    split
    · exact hm 4 (by decide) (by decide) _
    · exact ⟨by decide, fun _ => by omega⟩
  split
  · rename_i c3
    have hi := E.D.2 c3
    split
    · exact E
    · refine key _ rfl rfl rfl rfl rfl rfl rfl rfl ?_
      dsimp only
      have e : wc (s.D.I + 1) = s.D.I + 1 := xk (by omega) (by omega)
      rw [e]
      split
      · exact hm 4 (by decide) (by decide) _
      · exact ⟨by decide, fun _ => by omega⟩
  split
  · split
    · exact key _ rfl rfl rfl rfl rfl rfl rfl rfl (hm 5 (by decide) (by decide) _)
    · exact key _ rfl rfl rfl rfl rfl rfl rfl rfl (hm 0 (by decide) (by decide) _)
  split
  · split
    · exact key _ rfl rfl rfl rfl rfl rfl rfl rfl (hm 0 (by decide) (by decide) _)
    · exact key _ rfl rfl rfl rfl rfl rfl rfl rfl (hm 6 (by decide) (by decide) _)
  split
  · exact key _ rfl rfl rfl rfl rfl rfl rfl rfl E.D
  · exact E
theorem HOk.put {p : zb} {h : zG} (H : HOk p h) (o s v : Int) : HOk p (zke h o s v) := by
  unfold zke
  split
  · rename_i c
    obtain ⟨c1, c2, c3⟩ := c
    unfold zkv at c1
    simp only [Bool.and_eq_true, decide_eq_true_eq] at c1
    refine ⟨H.slots, by simp only [List.length_set]; exact H.n, fun l hl => ?_⟩
    simp only [List.length_set]
    rcases List.mem_or_eq_of_mem_set hl with hl | rfl
    · exact H.objs l hl
    · have hm : yV h o ∈ h.Objs := by
        unfold yV
        rw [List.getD_eq_getElem?_getD, List.getElem?_eq_getElem (show (o - 1).toNat < h.Objs.length by omega)]
        exact List.getElem_mem _
      obtain ⟨a, b⟩ := H.objs _ hm
      refine ⟨by rw [List.length_set]; exact a, fun y hy => ?_⟩
      rcases List.mem_or_eq_of_mem_set hy with hy | rfl
      · exact b y hy
      · exact ⟨c2, c3⟩
  · exact H
theorem HOk.alloc {p : zb} (hp : zr p) {h : zG} (H : HOk p h) (hr : zoF h p.Most = true) : HOk p (zmU h) := by
  unfold zoF at hr
  simp only [Bool.and_eq_true, decide_eq_true_eq] at hr
  have hs := hp.slots
  have hsl := H.slots
  have hn := H.n
  unfold zmU
  refine ⟨H.slots, by simp only [List.length_append, List.length_singleton]; omega, fun l hl => ?_⟩
  simp only [List.length_append, List.length_singleton]
  rcases List.mem_append.1 hl with hl | hl
  · obtain ⟨a, b⟩ := H.objs l hl
    exact ⟨a, fun v hv => by have := b v hv; omega⟩
  · rw [List.mem_singleton.1 hl]
    refine ⟨by rw [List.length_replicate]; omega, fun v hv => ?_⟩
    rw [(List.mem_replicate.1 hv).2]; omega
theorem zsU {p : zb} (hp : zr p) {s : za} (hP : s.P = p) (H : HOk p s.H) (m : Int) (x : ze) : HOk p (xK s m x).1.H := by
  refine WK (motive := fun r => HOk p r.1.H) s m x ?_ ?_ ?_ ?_ ?_ ?_ ?_ ?_ ?_ ?_ ?_ ?_ ?_ ?_ ?_ ?_ ?_ ?_ ?_ ?_
  · intro c
    unfold mu0
    exact H
  · intro c
    unfold mu1
    exact H
  · intro c
    unfold mu2
    exact H
  · intro c
    unfold mu3
    rw [(zaa s x.G).2]; exact H
  · intro c
    unfold zj0
    exact H
  · intro c
    unfold zjU
    exact H
  · intro c
    unfold zkw
    exact H
  · intro c
    unfold zkh
    exact H
  · intro c
    unfold zjI
    exact H.put _ _ _
  · intro c
    unfold zjH
    split
    · split
      · rename_i hr
        rw [hP] at hr
        exact H.alloc hp hr
      · exact H
    · exact H
  · intro c
    unfold zjX
    exact H
  · intro c
    unfold zkk
    exact H
  · intro c
    unfold zkp
    exact H
  · intro c
    unfold zki
    exact H
  · intro c
    unfold zkg
    exact H
  · intro c
    unfold zkb
    exact H
  · intro c
    unfold zkl
    rw [(zaa s x.G).2]; exact H
  · intro c
    unfold zjp
    exact H
  · intro c
    unfold zj2
    exact H
  · exact H
theorem zmC (s : za) (m : Int) (x : ze) : (zh7 s m x).Batch = x.Batch := by
  unfold zh7
  repeat' split
  all_goals rfl
theorem zpB {s : za} (h : u5 s) (m : Int) {x : ze} (hx : x.Batch.length < 1000000) : (xK s m x).2.Batch.length < 1000000 := by
  refine WK (motive := fun r => r.2.Batch.length < 1000000) s m x ?_ ?_ ?_ ?_ ?_ ?_ ?_ ?_ ?_ ?_ ?_ ?_ ?_ ?_ ?_ ?_ ?_ ?_ ?_ ?_
  · intro c
    unfold mu0
    dsimp only; rw [zmC]; exact hx
  · intro c
    unfold mu1
    dsimp only; split <;> exact hx
  · intro c
    unfold mu2
    exact hx
  · intro c
    unfold mu3
    dsimp only; split <;> exact hx
  · intro c
    unfold zj0
    exact hx
  · intro c
    unfold zjU
    dsimp only; split <;> exact hx
  · intro c
    unfold zkw
    dsimp only; split <;> exact hx
  · intro c
    unfold zkh
    dsimp only; split <;> exact hx
  · intro c
    unfold zjI
    exact hx
  · intro c
    unfold zjH
    split
    · split <;> exact hx
    · exact hx
  · intro c
    unfold zjX
    dsimp only; split <;> exact hx
  · intro c
    unfold zkk
    dsimp only
    split
    · exact hx
    split <;> exact hx
  · intro c
    unfold zkp
    exact zg7 h _
  · intro c
    unfold zki
    dsimp only; split <;> exact hx
  · intro c
    unfold zkg
    dsimp only
    cases hb : x.Batch with
    | nil => show ([] : List Int).length < 1000000; simp
    | cons o l => rw [hb] at hx; show l.length < _; simp at hx; omega
  · intro c
    unfold zkb
    dsimp only; split <;> exact hx
  · intro c
    unfold zkl
    dsimp only; split <;> exact hx
  · intro c
    unfold zjp
    exact hx
  · intro c
    unfold zj2
    exact hx
  · exact hx
theorem zm3 {p : zb} (h : zr p) (m : Int) : zis p m < 1000000 := by
  unfold zis
  rw [List.getD_eq_getElem?_getD]
  cases hq : p.Regs[(m - 1).toNat]? with
  | none => simp
  | some r => have := (h.reg r (List.mem_of_getElem? hq)).1; show r.length < _; omega
theorem ztj {p : zb} {nb : Nat} {s : za} (h : zr p) (E : EOk p nb s) (m : Int) : EOk p nb (zg9 s m) := by
  unfold zg9
  split
  · exact E
  rename_i hc
  cases hx : s.Ms[(m - 1).toNat]? with
  | none => exact E
  | some x =>
    have hw1 : ¬ m < 1 := fun e => hc (.inr (.inl e))
    have hw2 : ¬ (s.Ms.length : Int) < m := fun e => hc (.inr (.inr e))
    have ei : (((m - 1).toNat : Nat) : Int) + 1 = m := by omega
    have hX := E.X _ x hx
    rw [ei] at hX
    obtain ⟨r1, r2⟩ := zsd h (zoy h m) E.S hX
    have T := zqy s m x
    have TH := zsU h E.S.P E.H m x
    have sm : u5 (xK s m x).1 := E.small.turn h T TH
    have hms : (xK s m x).1.Ms = s.Ms := T.ms
    have hb := h.buf
    refine ⟨r1.keep rfl rfl rfl, ?_, ?_, ?_, fun i y hy => ?_, fun i y hy => ?_, TH, ?_, ?_⟩
    · show ((xK s m x).1.Ws.length : Int) = _
      rw [T.ws]; exact E.wl
    · show ((s.Ms.set _ _).length : Int) = _
      rw [List.length_set]; exact E.ml
    · show (xK s m x).1.Acks.length = (s.Ms.set _ _).length
      rw [List.length_set, T.ac]; exact E.al
    · have hy : (xK s m x).1.Ws[i]? = some y := hy
      rw [T.ws] at hy
      exact E.W i y hy
    · rcases znZ hy with ⟨rfl, rfl⟩ | hy
      · rw [ei]; exact r2
      · exact E.X i y hy
    · show (0 ≤ (xK s m x).1.D.PC ∧ (xK s m x).1.D.PC ≤ 6) ∧ ((xK s m x).1.D.PC = 3 → 0 ≤ (xK s m x).1.D.I ∧ (xK s m x).1.D.I < ((s.Ms.set _ _).length : Int))
      rw [T.d, List.length_set]; exact E.D
    · have q := E.small.mu x (List.mem_of_getElem? hx)
      have q1 := r2.regs
      have q2 := r2.buf
      have q3 := zm3 h m
      have := sm.setM (i := (m - 1).toNat) (x := (xK s m x).2) ⟨by omega, by omega, zpB E.small m q.2.2⟩
      rw [hms] at this
      exact this
end
end Go.Pe.G
