/- Own work of this seat: PA, PB, PMk, PMade15, PRight, PNew, PInv, PNewOk, PSmall, PSame, PGo, PDq, PWork, PMut, PEng, PWorkEq, PRef, PRefG, PRefS15, PGreyRef, PWorkRef, PLaw15. -/
import Derived.Test.YtodhlecdfgklaaaGreatDoorWTGb
set_option linter.unusedVariables false
set_option linter.unusedSimpArgs false
set_option linter.unnecessarySimpa false
set_option linter.unusedSectionVars false
set_option linter.deprecated false
set_option maxRecDepth 20000
namespace Go.Pe.G
open Go.Pe
noncomputable section
theorem Zs {A B D : Type} {f : A → Option (yx A B D)} (Inv : A → Prop) (ms : A → Nat) (Q : yx Unit B D → Prop)
    (h : ∀ a, Inv a → ∃ o, f a = some o ∧ match o with
      | .again a' => Inv a' ∧ ms a' < ms a
      | .brk b => Q (.brk b)
      | .ret c => Q (.ret c)) : ∀ a, Inv a → ms a < Y1 → ∃ o, zU f a = some o ∧ Q o := by
  have key : ∀ (n : Nat) a, Inv a → ms a < n → ∃ o, vG f n a = some o ∧ Q o := by
    intro n
    induction n with
    | zero => intro a _ h; omega
    | succ n ih =>
      intro a ha hm
      obtain ⟨o, ho, hq⟩ := h a ha
      simp only [vG, ho, Option.bind_some]
      cases o with
      | again a' => exact ih a' hq.1 (by have := hq.2; omega)
      | brk b => exact ⟨_, rfl, hq⟩
      | ret c => exact ⟨_, rfl, hq⟩
  intro a ha hm
  rw [VR]
  exact key Y1 a ha hm
theorem xG {n : Nat} (h : n < 18446744073709551616) : n < Y1 := h
theorem yA {a : Int} (h : -9223372036854775808 ≤ a) (h2 : a < 9223372036854775808) : w64 a = a := by
  rw [zks]; omega
def wc (n : Int) : Int := (n + 9223372036854775808) % 18446744073709551616 - 9223372036854775808
theorem xf : w64 = wc := funext zks
theorem Yh {a : Int} (h : -9223372036854775808 ≤ a) (h2 : a < 9223372036854775808) : wc a = a := by unfold wc; omega
theorem zAj (a : Int) (h : -9223372036854775808 ≤ a) (h2 : a < 9223372036854775808) : w64 (w64 (a + 1) - 1) = a := by
  simp only [zks]; omega
theorem zk {α : Type} (p : Prop) [Decidable p] (a b : α) : (bif decide p then a else b) = if p then a else b := by
  by_cases h : p <;> simp [h]
theorem zN {α : Type} (p : Prop) [Decidable p] (a b : α) : (bif !(decide p) then a else b) = if p then b else a := by
  by_cases h : p <;> simp [h]
theorem y0 {α : Type} {l : List α} (h : l.length < 4294967296) : yZ l = some l := by
  rw [zup]; simp [h]
theorem Zj {α : Type} {l : List α} {i : Int} (h : 0 ≤ i) : idx l i = l[i.toNat]? := by
  unfold idx; simp [h]
theorem uY {α : Type} {l : List α} {i : Int} (h : 0 ≤ i) (h2 : i < l.length) : vd l i = some i.toNat := by
  unfold vd; simp [h, h2]
def bit (o : Int) : BitVec 64 := if 1 ≤ o ∧ o ≤ 64 then 1#64 <<< (o - 1).toNat else 0#64
theorem zvz (a : Int) : zjp a = some (bit a, ()) := by
  rw [ztX]
  simp only [zk]
  unfold bit
  by_cases h1 : a < 1
  · rw [if_pos h1, if_neg (by omega)]
  · rw [if_neg h1]
    by_cases h2 : 64 < a
    · rw [if_pos h2, if_neg (by omega)]
    · rw [if_neg h2, yA (a := a - 1) (by omega) (by omega), if_neg (show ¬ a - 1 < 0 by omega), if_pos (show 1 ≤ a ∧ a ≤ 64 by omega), Nat.min_eq_left (by omega)]
theorem zrL (s : BitVec 64) (o : Int) : zfA s o = some (!(decide (s &&& bit o = 0#64)), ()) := by
  rw [ztt, zvz]; rfl
theorem zob (s : BitVec 64) (o : Int) : zcS s o = some (s ||| bit o, ()) := by
  rw [ztL, zvz]; rfl
def UM (t : zr) (o : Int) : zr × Bool :=
  if t.Marks ||| bit o = t.Marks then (t, false) else if t.Black &&& bit o = 0#64 then ({ t with Marks := t.Marks ||| bit o }, true) else (t, false)
theorem zvZ (t : zr) (o : Int) : zg7 t o = some ((UM t o).1, (UM t o).2, ()) := by
  rw [zpY, zob, Option.bind_some, zk]
  unfold UM
  by_cases h1 : t.Marks ||| bit o = t.Marks
  · rw [if_pos h1, if_pos h1]
  · rw [if_neg h1, if_neg h1, zrL, Option.bind_some, zN]
    by_cases h2 : t.Black &&& bit o = 0#64
    · rw [if_pos h2, if_pos h2]
    · rw [if_neg h2, if_neg h2]
theorem zsA {m : List (BitVec 64)} (h : m.length < 4294967296) : xh m = some (m, ()) := by
  rw [zcA, List.nil_append, y0 h, Option.bind_some]
  cases m with
  | nil => simp [zi9]
  | cons a l => simp
theorem zqk {m : List (List Int)} (h : m.length < 4294967296) : uq m = some (m, ()) := by
  rw [zec, List.nil_append, y0 h, Option.bind_some]
  cases m with
  | nil => simp [zi9]
  | cons a l => simp
def ld (m : List (BitVec 64)) (a : Int) : BitVec 64 := if 0 ≤ a then m.getD a.toNat 0#64 else 0#64
def st (m : List (BitVec 64)) (a : Int) (v : BitVec 64) : List (BitVec 64) := if 0 ≤ a then m.set a.toNat v else m
def sw (m : List (BitVec 64)) (at_ : Int) (a b : BitVec 64) : List (BitVec 64) × Bool :=
  if 0 ≤ at_ ∧ at_ < m.length ∧ ld m at_ = a then (st m at_ b, true) else (m, false)
theorem zkg {m : List (BitVec 64)} {a : Int} (h : 0 ≤ a) (h2 : a < m.length) : m[a.toNat]? = some (ld m a) := by
  unfold ld
  rw [if_pos h, List.getD_eq_getElem?_getD, List.getElem?_eq_getElem (by omega)]; rfl
theorem zvI {m : List (BitVec 64)} {a : Int} : st m a (ld m a) = m := by
  unfold st ld
  by_cases h : 0 ≤ a
  · rw [if_pos h, if_pos h]
    by_cases h2 : a.toNat < m.length
    · rw [List.getD_eq_getElem?_getD, List.getElem?_eq_getElem h2]; simp
    · rw [List.set_eq_of_length_le (by omega)]
  · rw [if_neg h]
theorem zqZ {m : List (BitVec 64)} {a : Int} (h : a < 0 ∨ m.length ≤ a) : ld m a = 0#64 := by
  unfold ld
  rcases h with h | h
  · rw [if_neg (by omega)]
  · split
    · rw [List.getD_eq_getElem?_getD, List.getElem?_eq_none (by omega)]; rfl
    · rfl
theorem zp7 {m : List (BitVec 64)} {a : Int} {v : BitVec 64} (h : a < 0 ∨ m.length ≤ a) : st m a v = m := by
  unfold st
  rcases h with h | h
  · rw [if_neg (by omega)]
  · split
    · rw [List.set_eq_of_length_le (by omega)]
    · rfl
theorem zvr (m : List (BitVec 64)) (a : Int) (x y : BitVec 64) : ∃ b, YW m ⟨1, a, x, y⟩ = some (m, ld m a, b, ()) := by
  rw [zjy]
  simp only [zk, if_true]
  by_cases h1 : a < 0
  · rw [if_pos h1, zqZ (.inl h1)]; exact ⟨_, rfl⟩
  · rw [if_neg h1]
    by_cases h2 : (m.length : Int) ≤ a
    · rw [if_pos h2, zqZ (.inr h2)]; exact ⟨_, rfl⟩
    · rw [if_neg h2, Zj (by omega), zkg (by omega) (by omega), Option.bind_some, ztd, Option.bind_some]
      simp
theorem ztJ {m : List (BitVec 64)} (hm : m.length < 4294967296) (a : Int) (x y : BitVec 64) : ∃ v b, YW m ⟨2, a, x, y⟩ = some (st m a x, v, b, ()) := by
  rw [zjy]
  simp only [zk, if_true, if_neg (show ¬ (2 : Int) = 1 by omega)]
  by_cases h1 : a < 0
  · rw [if_pos h1, zp7 (.inl h1)]; exact ⟨_, _, rfl⟩
  · rw [if_neg h1]
    by_cases h2 : (m.length : Int) ≤ a
    · rw [if_pos h2, zp7 (.inr h2)]; exact ⟨_, _, rfl⟩
    · rw [if_neg h2, Zj (by omega), zkg (by omega) (by omega), Option.bind_some, zs0, Option.bind_some, cond_true, zN]
      by_cases h3 : ld m a = x
      · rw [if_pos h3]
        subst h3
        rw [zvI]; exact ⟨_, _, rfl⟩
      · rw [if_neg h3, zsA hm, Option.bind_some, uY (l := m) (by omega) (by omega), Option.bind_some]
        unfold st
        rw [if_pos (by omega)]
        exact ⟨_, _, rfl⟩
theorem zrJ {m : List (BitVec 64)} (hm : m.length < 4294967296) (a : Int) (x y : BitVec 64) : ∃ v, YW m ⟨3, a, x, y⟩ = some ((sw m a x y).1, v, (sw m a x y).2, ()) := by
  rw [zjy]
  simp only [zk, if_true, if_neg (show ¬ (3 : Int) = 1 by omega), if_neg (show ¬ (3 : Int) = 2 by omega)]
  by_cases h1 : a < 0
  · rw [if_pos h1]
    have : sw m a x y = (m, false) := by unfold sw; rw [if_neg (by omega)]
    rw [this]; exact ⟨_, rfl⟩
  · rw [if_neg h1]
    by_cases h2 : (m.length : Int) ≤ a
    · rw [if_pos h2]
      have : sw m a x y = (m, false) := by unfold sw; rw [if_neg (by omega)]
      rw [this]; exact ⟨_, rfl⟩
    · rw [if_neg h2, Zj (by omega), zkg (by omega) (by omega), Option.bind_some, ztf, Option.bind_some]
      simp only [zk]
      by_cases h3 : ld m a = x
      · have : sw m a x y = (st m a y, true) := by unfold sw; rw [if_pos ⟨by omega, by omega, h3⟩]
        rw [if_pos h3, this, zN]
        by_cases h4 : ld m a = y
        · rw [if_pos h4]
          have : st m a y = m := by rw [← h4, zvI]
          rw [this]
          simp [h3]
        · rw [if_neg h4, zsA hm, Option.bind_some, uY (l := m) (by omega) (by omega), Option.bind_some]
          unfold st
          rw [if_pos (by omega)]
          simp [h3]
      · have : sw m a x y = (m, false) := by unfold sw; rw [if_neg (by rintro ⟨_, _, h⟩; exact h3 h)]
        rw [if_neg h3, this]
        simp [h3]
theorem zp9 (m : List (BitVec 64)) (a : Int) : zdD m a = some (ld m a, ()) := by
  obtain ⟨b, h⟩ := zvr m a 0#64 0#64
  rw [zp5, h]; rfl
theorem zbV {m : List (BitVec 64)} (hm : m.length < 4294967296) (a : Int) (x : BitVec 64) : Z2 m a x = some (st m a x, ()) := by
  obtain ⟨v, b, h⟩ := ztJ hm a x 0#64
  rw [zpy, h]; rfl
theorem XC (m : List (BitVec 64)) (a : Int) : uL m a = some (ld m a, ()) := by
  obtain ⟨b, h⟩ := zvr m a 0#64 0#64
  rw [zqv, h]; rfl
theorem zbT {m : List (BitVec 64)} (hm : m.length < 4294967296) (a : Int) (x : BitVec 64) : ZV m a x = some (st m a x, ()) := by
  obtain ⟨v, b, h⟩ := ztJ hm a x 0#64
  rw [zpx, h]; rfl
def yY (h : BitVec 64) : Int := (h &&& 4294967295#64).toInt
def vW (v : BitVec 64) (n : Int) : BitVec 64 := (v <<< 32) ||| (BitVec.ofInt 64 n &&& 4294967295#64)
theorem zgO (h : BitVec 64) : Y3 h = some (yY h, ()) := zqs h
theorem zgw (v : BitVec 64) (n : Int) : WO v n = some (vW v n, ()) := zrc v n
def zI (m : List (BitVec 64)) (c : zD) : List (BitVec 64) × zD :=
  if c.Out ≠ 0 ∨ (c.Kind ≠ 1 ∧ c.Kind ≠ 2) ∨ c.PC < 0 ∨ 3 ≤ c.PC then (m, c)
  else if c.PC = 0 then
    (m, if c.Kind = 2 ∧ yY (ld m c.Head) = 0 then { c with H := ld m c.Head, Out := 2, PC := 1 } else { c with H := ld m c.Head, PC := 1 })
  else if c.PC = 1 then
    if c.Kind = 2 then (m, { c with Y := (ld m (wc (c.Next + yY c.H))).toInt, PC := 2 })
    else (st m (wc (c.Next + c.X)) (BitVec.ofInt 64 (yY c.H)), { c with PC := 2 })
  else
    let r := sw m c.Head c.H (vW ((c.H >>> 32) + 1#64) (if c.Kind = 2 then c.Y else c.X))
    (r.1, if r.2 then (if c.Kind = 2 then { c with X := yY c.H, Out := 1, PC := 3 } else { c with Out := 1, PC := 3 }) else { c with PC := 0 })
theorem zl4 {m : List (BitVec 64)} (hm : m.length < 4294967296) (c : zD) : zan m c = some ((zI m c).1, (zI m c).2, ()) := by
  have hsee : wz m c = some (m, (if c.Kind = 2 ∧ yY (ld m c.Head) = 0 then { c with H := ld m c.Head, Out := 2 } else { c with H := ld m c.Head }), ()) := by
    rw [zgz, zp9, Option.bind_some, zgO, Option.bind_some, zk, zk]
    by_cases h1 : c.Kind = 2
    · by_cases h2 : yY (ld m c.Head) = 0
      · rw [if_pos h1, if_pos h2, if_pos ⟨h1, h2⟩]
      · rw [if_pos h1, if_neg h2, if_neg (fun h => h2 h.2)]
    · rw [if_neg h1, if_neg (fun h => h1 h.1)]
  have hlink : Yt m c = some (st m (wc (c.Next + c.X)) (BitVec.ofInt 64 (yY c.H)), ()) := by
    rw [zis, xf, zgO, Option.bind_some, zbV hm]; rfl
  have hbeh : ur m c = some (m, { c with Y := (ld m (wc (c.Next + yY c.H))).toInt }, ()) := by
    rw [zem, xf, zgO, Option.bind_some, zp9]; rfl
  have hswap : wi m c = some ((sw m c.Head c.H (vW ((c.H >>> 32) + 1#64) (if c.Kind = 2 then c.Y else c.X))).1,
      (if (sw m c.Head c.H (vW ((c.H >>> 32) + 1#64) (if c.Kind = 2 then c.Y else c.X))).2 then (if c.Kind = 2 then { c with X := yY c.H, Out := 1 } else { c with Out := 1 }) else { c with PC := -1 }), ()) := by
    rw [zfC, zk]
    by_cases h1 : c.Kind = 2
    · rw [if_pos h1, zgw, Option.bind_some]
      obtain ⟨v, hv⟩ := zrJ hm c.Head c.H (vW ((c.H >>> 32) + 1#64) c.Y)
      simp only [if_pos h1]
      rw [hv, Option.bind_some]
      cases hs : (sw m c.Head c.H (vW ((c.H >>> 32) + 1#64) c.Y)).2 with
      | true => simp [hs, h1, zgO]
      | false => simp [hs]
    · rw [if_neg h1, zgw, Option.bind_some]
      obtain ⟨v, hv⟩ := zrJ hm c.Head c.H (vW ((c.H >>> 32) + 1#64) c.X)
      simp only [if_neg h1]
      rw [hv, Option.bind_some]
      cases hs : (sw m c.Head c.H (vW ((c.H >>> 32) + 1#64) c.X)).2 with
      | true => simp [hs, h1]
      | false => simp [hs]
  rw [zqC, hsee, hlink, hbeh, hswap]
  simp only [zk, zN, Option.bind_some]
  unfold zI
  by_cases h0 : c.Out = 0
  · by_cases hp0 : c.PC < 0
    · have : (c.Out ≠ 0 ∨ (c.Kind ≠ 1 ∧ c.Kind ≠ 2) ∨ c.PC < 0 ∨ 3 ≤ c.PC) := .inr (.inr (.inl hp0))
      rw [if_pos this]
      simp [h0, hp0]
    · by_cases hp3 : 3 ≤ c.PC
      · have : (c.Out ≠ 0 ∨ (c.Kind ≠ 1 ∧ c.Kind ≠ 2) ∨ c.PC < 0 ∨ 3 ≤ c.PC) := .inr (.inr (.inr hp3))
        rw [if_pos this]
        simp [h0, hp3]
      · by_cases hk : c.Kind = 1 ∨ c.Kind = 2
        · have : ¬ (c.Out ≠ 0 ∨ (c.Kind ≠ 1 ∧ c.Kind ≠ 2) ∨ c.PC < 0 ∨ 3 ≤ c.PC) := by
            rintro (h | h | h | h)
            · exact h h0
            · omega
            · exact hp0 h
            · exact hp3 h
          rw [if_neg this]
          have hpc : c.PC = 0 ∨ c.PC = 1 ∨ c.PC = 2 := by omega
          have w1 : w64 1 = 1 := yA (by omega) (by omega)
          have w2 : w64 2 = 2 := yA (by omega) (by omega)
          have w3 : w64 3 = 3 := yA (by omega) (by omega)
          have w4 : w64 0 = 0 := yA (by omega) (by omega)
          rcases hk with hk | hk <;> rcases hpc with hpc | hpc | hpc <;> simp [h0, hk, hpc, w1, w2, w3, w4] <;> (try split) <;> simp [hpc, w1, w3, w4]
        · have : (c.Out ≠ 0 ∨ (c.Kind ≠ 1 ∧ c.Kind ≠ 2) ∨ c.PC < 0 ∨ 3 ≤ c.PC) := .inr (.inl (by omega))
          rw [if_pos this]
          have k1 : ¬ c.Kind = 1 := by omega
          have k2 : ¬ c.Kind = 2 := by omega
          simp [h0, k1, k2]
  · have : (c.Out ≠ 0 ∨ (c.Kind ≠ 1 ∧ c.Kind ≠ 2) ∨ c.PC < 0 ∨ 3 ≤ c.PC) := .inl h0
    rw [if_pos this]
    simp [h0]
end
end Go.Pe.G
namespace Go.Pe.G
open Go.Pe
noncomputable section
def VM (d : zh) : BitVec 64 := BitVec.ofInt 64 (if d.Cap < 1 then 1 else d.Cap)
def zb0 (d : zh) (i : BitVec 64) : Int := wc (wc (d.Base + 2) + (i % VM d).toInt)
def wo (m : List (BitVec 64)) (d : zh) : List (BitVec 64) × zh :=
  if d.Out ≠ 0 ∨ d.PC < 0 ∨ 4 ≤ d.PC then (m, d)
  else if d.PC = 0 then (m, { d with B := ld m (wc (d.Base + 1)), PC := 1 })
  else if d.PC = 1 then (m, if VM d ≤ d.B - ld m d.Base then { d with T := ld m d.Base, Out := 3, PC := 2 } else { d with T := ld m d.Base, PC := 2 })
  else if d.PC = 2 then (st m (zb0 d d.B) (BitVec.ofInt 64 d.X), { d with PC := 3 })
  else (st m (wc (d.Base + 1)) (d.B + 1#64), { d with Out := 1, PC := 4 })
theorem ztW : w64 0 = 0 ∧ w64 1 = 1 ∧ w64 2 = 2 ∧ w64 3 = 3 ∧ w64 4 = 4 := by
  refine ⟨?_, ?_, ?_, ?_, ?_⟩ <;> exact yA (by omega) (by omega)
theorem zsx {d : zh} (h : d.Cap < 1000) : VM d ≠ 0#64 := by
  unfold VM
  intro e
  have := congrArg BitVec.toNat e
  rw [BitVec.toNat_ofInt] at this
  split at this <;> simp at this <;> omega
theorem zpW (d : zh) : Yl d = some (VM d, ()) := by
  rw [ziP]; unfold VM; rw [zk]
theorem zjZ {d : zh} (h : d.Cap < 1000) (i : BitVec 64) : ud i d = some (zb0 d i, ()) := by
  rw [zhT, xf, zpW, Option.bind_some, zk, if_neg (zsx h)]; rfl
theorem zjb {m : List (BitVec 64)} (hm : m.length < 4294967296) {d : zh} (hk : d.Kind = 1) (hc : d.Cap < 1000) : zaq m d = some ((wo m d).1, (wo m d).2, ()) := by
  obtain ⟨w0, w1, w2, w3, w4⟩ := ztW
  have h0 : xT m d = some (m, { d with B := ld m (wc (d.Base + 1)) }, ()) := by
    rw [Xe, xi, xf, Option.bind_some, XC]; rfl
  have h1 : Xk m d = some (m, (if VM d ≤ d.B - ld m d.Base then { d with T := ld m d.Base, Out := 3 } else { d with T := ld m d.Base }), ()) := by
    rw [zf3, Zx, Option.bind_some, XC, Option.bind_some, zpW, Option.bind_some, zk]
    have e : VM { d with T := ld m d.Base } = VM d := rfl
    simp only [e]
    by_cases h : VM d ≤ d.B - ld m d.Base
    · rw [if_pos h, if_pos h, xO]
      simp [hk]
    · rw [if_neg h, if_neg h]
  have h2 : UH m d = some (st m (zb0 d d.B) (BitVec.ofInt 64 d.X), ()) := by
    rw [zj2, zjZ hc, Option.bind_some, zbT hm]; rfl
  have h3 : Z1 m d = some (st m (wc (d.Base + 1)) (d.B + 1#64), { d with Out := 1 }, ()) := by
    rw [zdZ, xO]
    simp only [decide_true, Bool.not_true, cond_false, Option.bind_some, xi, xf]
    rw [zbT hm]; rfl
  rw [zjm, h0, h1, h2, h3, zgd]
  simp only [hk, decide_true, cond_true, Option.bind_some, zN, zk]
  have key : ∀ (x : Option (List (BitVec 64) × zh × Unit)) (v : List (BitVec 64) × zh × Unit) (y : Option (List (BitVec 64) × zh × Unit)), x = some v → Option.or x y = some v := by
    rintro _ v y rfl; rfl
  apply key
  unfold wo
  by_cases g0 : d.Out = 0
  · by_cases g1 : d.PC < 0
    · simp [g0, g1]
    · by_cases g2 : 4 ≤ d.PC
      · simp [g0, g2]
      · have hpc : d.PC = 0 ∨ d.PC = 1 ∨ d.PC = 2 ∨ d.PC = 3 := by omega
        rcases hpc with h | h | h | h <;> simp [g0, h, hk, w1, w2, w3, w4] <;> (try split) <;> simp [h, hk, w2]
  · simp [g0]
def wj (p : zd) : Int := wc (p.Workers * wc (p.Cap + 2))
def yK (p : zd) : Int := wc (wj p + 1)
def uf (p : zd) (w : Int) : Int := wc (wc (w - 1) * wc (p.Cap + 2))
theorem zgy (p : zd) : WY p = some (wj p, ()) := by rw [zqd, xf]; rfl
theorem zeT (p : zd) : XA p = some (yK p, ()) := by rw [zo5, xf, zgy]; rfl
theorem zdq (p : zd) : YV p = some (yK p, ()) := by rw [zqy, zeT]; rfl
theorem ze4 (p : zd) (w : Int) : Ud p w = some (uf p w, ()) := by rw [zpe, xf]; rfl
def zpr (p : zd) (g : zJ) : zJ := { g with PC := 5, C := ⟨2, 0, yK p, yK p, 0#64, 0, 0, 0⟩ }
theorem zlX (a : zA) : wR a = some (⟨zpr a.s.P a.Grey, a.s⟩, ()) := by
  rw [zg2, zeT, Option.bind_some, zdq, Option.bind_some, VN]; rfl
def zjj (s : zb) (g : zJ) : zb × zJ :=
  let t := UM s.T g.Obj
  ({ s with T := t.1 },
    if t.2 = false then { g with PC := 2 }
    else if g.Mode = 1 then { g with PC := 3, D := ⟨1, 0, uf s.P g.Who, s.P.Cap, 0#64, 0#64, g.Obj, 0⟩ }
    else if g.Mode = 2 then { g with PC := 4 }
    else zpr s.P g)
def zlU (s : zb) (g : zJ) : zb × zJ :=
  let r := wo s.M g.D
  ({ s with M := r.1 }, if r.2.Out = 1 then { g with D := r.2, Out := 1 } else if r.2.Out = 3 then zpr s.P { g with D := r.2 } else { g with D := r.2 })
def zlP (s : zb) (g : zJ) : zb × zJ :=
  let r := zI s.M g.C
  ({ s with M := r.1 }, if r.2.Out = 1 then { g with PC := 6, C := r.2, Bin := r.2.X } else if r.2.Out = 2 then zpr s.P { g with C := r.2 } else { g with C := r.2 })
def zyS (s : zb) (g : zJ) : zb × zJ :=
  ({ s with Bins := s.Bins.set g.Bin.toNat [g.Obj] }, { g with PC := 7, C := ⟨1, 0, wj s.P, yK s.P, 0#64, g.Bin, 0, 0⟩ })
def zey (s : zb) (g : zJ) : zb × zJ :=
  let r := zI s.M g.C
  ({ s with M := r.1 }, if r.2.Out = 1 then { g with C := r.2, Out := 1 } else { g with C := r.2 })
def ya (s : zb) (g : zJ) : zb × zJ :=
  if g.Out ≠ 0 ∨ g.Mode < 1 ∨ 3 < g.Mode ∨ g.PC < 0 ∨ 8 ≤ g.PC then (s, g)
  else if g.PC = 7 then zey s g
  else if g.PC = 6 then zyS s g
  else if g.PC = 5 then zlP s g
  else if g.PC = 4 then ({ s with Flag := true }, zpr s.P g)
  else if g.PC = 3 then zlU s g
  else if g.PC = 2 then ({ s with Work := wc (s.Work - 1) }, { g with Out := 1 })
  else if g.PC = 1 then zjj s g
  else ({ s with Work := wc (s.Work + 1) }, { g with PC := 1 })
structure GOk (s : zb) (g : zJ) : Prop where
  mem : s.M.length < 4294967296
  bins : s.Bins.length < 4294967296
  bin : g.PC = 6 → 0 ≤ g.Bin ∧ g.Bin < s.Bins.length
  deq : g.PC = 3 → g.D.Kind = 1 ∧ g.D.Cap < 1000
theorem zw0 {s : zb} {g : zJ} (ok : GOk s g) : zeX s g = some ((ya s g).1, (ya s g).2, ()) := by
  rw [zse]
  simp only [zk, zN]
  unfold ya
  by_cases h0 : g.Out = 0
  rotate_left
  · rw [if_neg h0, if_pos (.inl h0)]
  rw [if_pos h0]
  by_cases h1 : g.Mode < 1
  · rw [if_pos h1, if_pos (.inr (.inl h1))]
  rw [if_neg h1]
  by_cases h2 : 3 < g.Mode
  · rw [if_pos h2, if_pos (.inr (.inr (.inl h2)))]
  rw [if_neg h2]
  by_cases h3 : g.PC < 0
  · rw [if_pos h3, if_pos (.inr (.inr (.inr (.inl h3))))]
  rw [if_neg h3]
  by_cases h4 : 8 ≤ g.PC
  · rw [if_pos h4, if_pos (.inr (.inr (.inr (.inr h4))))]
  rw [if_neg h4, if_neg (show ¬ (g.Out ≠ 0 ∨ g.Mode < 1 ∨ 3 < g.Mode ∨ g.PC < 0 ∨ 8 ≤ g.PC) by omega)]
  by_cases p7 : g.PC = 7
  · rw [if_pos p7, if_pos p7, zd9]
    simp only [zl4 ok.mem, Option.bind_some, zk]
    by_cases e : (zI s.M g.C).2.Out = 1 <;> simp [zey, e]
  rw [if_neg p7, if_neg p7]
  by_cases p6 : g.PC = 6
  · rw [if_pos p6, if_pos p6, zgx]
    obtain ⟨b1, b2⟩ := ok.bin p6
    simp only [zqk ok.bins, Option.bind_some, uY (l := s.Bins) b1 b2, zgy, zdq, VN]
    rfl
  rw [if_neg p6, if_neg p6]
  by_cases p5 : g.PC = 5
  · rw [if_pos p5, if_pos p5, zgf]
    simp only [zl4 ok.mem, Option.bind_some, zk, zlX]
    by_cases e : (zI s.M g.C).2.Out = 1
    · simp [zlP, e]
    · by_cases e2 : (zI s.M g.C).2.Out = 2 <;> simp [zlP, e, e2]
  rw [if_neg p5, if_neg p5]
  by_cases p4 : g.PC = 4
  · rw [if_pos p4, if_pos p4, zgu, zlX]; rfl
  rw [if_neg p4, if_neg p4]
  by_cases p3 : g.PC = 3
  · rw [if_pos p3, if_pos p3, zgq]
    obtain ⟨b1, b2⟩ := ok.deq p3
    simp only [zjb ok.mem b1 b2, Option.bind_some, zk, zlX]
    by_cases e : (wo s.M g.D).2.Out = 1
    · simp [zlU, e]
    · by_cases e2 : (wo s.M g.D).2.Out = 3 <;> simp [zlU, e, e2]
  rw [if_neg p3, if_neg p3]
  by_cases p2 : g.PC = 2
  · rw [if_pos p2, if_pos p2, zgr, xf]; rfl
  rw [if_neg p2, if_neg p2]
  by_cases p1 : g.PC = 1
  · rw [if_pos p1, if_pos p1, zgA]
    simp only [zvZ, Option.bind_some, zk, zlX, ze4, Vn]
    unfold zjj
    cases hs : (UM s.T g.Obj).2 with
    | false => simp [hs]
    | true =>
      by_cases m1 : g.Mode = 1
      · simp [hs, m1]
      · by_cases m2 : g.Mode = 2 <;> simp [hs, m1, m2]
  rw [if_neg p1, if_neg p1, if_pos (show g.PC = 0 by omega), zeI, xf]; rfl
end
end Go.Pe.G
namespace Go.Pe.G
open Go.Pe
noncomputable section
theorem wy {b k : Int} (h : 0 ≤ b) (hk : 0 < k) : 0 ≤ b.tmod k ∧ b.tmod k < k := by
  rw [Int.tmod_eq_emod_of_nonneg h]; exact ⟨Int.emod_nonneg _ (by omega), Int.emod_lt_of_pos _ hk⟩
def zh4 (o : zi) (regs slots : Int) : Prop := (0 ≤ o.R ∧ o.R < regs) ∧
  ((o.Kind = 1 ∨ o.Kind = 2) ∧ (0 ≤ o.A ∧ o.A < regs) ∧ (0 ≤ o.S ∧ o.S < slots) ∨ o.Kind = 4 ∧ (0 ≤ o.A ∧ o.A < regs) ∧ o.S = 0 ∨ (o.Kind = 3 ∨ o.Kind = 5) ∧ o.A = 0 ∧ o.S = 0)
structure z7 (p : zd) : Prop where
  wk : 1 ≤ p.Workers ∧ p.Workers ≤ 3
  mt : 0 ≤ p.Mutators ∧ p.Mutators ≤ 2
  cap : 1 ≤ p.Cap ∧ p.Cap ≤ 3
  buf : 1 ≤ p.Buf ∧ p.Buf ≤ 2
  bin : 1 ≤ p.Bin ∧ p.Bin ≤ 3
  price : 0 ≤ p.Price ∧ p.Price ≤ 3
  limit : 0 ≤ p.Limit ∧ p.Limit ≤ 3
  slots : 1 ≤ p.H.Slots ∧ p.H.Slots ≤ 2
  n : 1 ≤ (p.H.Objs.length : Int) ∧ (p.H.Objs.length : Int) ≤ 6
  objs : ∀ o ∈ p.H.Objs, (o.length : Int) = p.H.Slots ∧ ∀ v ∈ o, 0 ≤ v ∧ v ≤ (p.H.Objs.length : Int)
  most : (p.H.Objs.length : Int) ≤ p.Most ∧ p.Most ≤ (p.H.Objs.length : Int) + 3
  roots : ∃ r, 0 ≤ r ∧ r ≤ (p.H.Objs.length : Int) ∧ p.Roots = bit r
  regs : (p.Regs.length : Int) = p.Mutators
  progs : (p.Progs.length : Int) = p.Mutators
  reg : ∀ r ∈ p.Regs, (1 ≤ (r.length : Int) ∧ (r.length : Int) ≤ 3) ∧ ∀ v ∈ r, 0 ≤ v ∧ v ≤ (p.H.Objs.length : Int)
  prog : ∀ (k : Nat) r ops, p.Regs[k]? = some r → p.Progs[k]? = some ops → (ops.length : Int) ≤ 7 ∧ ∀ o ∈ ops, zh4 o (r.length : Int) p.H.Slots
  picks : p.Picks = []
end
end Go.Pe.G
namespace Go.Pe.G
open Go.Pe
noncomputable section
namespace B15
def Xm (m : zE) : Prop := 0 ≤ m.At ∧ m.At ≤ m.L.length ∧ m.L.length ≤ 90
theorem vi {m : zE} (h : Xm m) : ∃ b m', zv m = some (b, m', ()) ∧ (0 ≤ b ∧ b < 256) ∧ Xm m' := by
  obtain ⟨h1, h2, h3⟩ := h
  rw [zdP, zk]
  by_cases h : (m.L.length : Int) ≤ m.At
  · rw [if_pos h]; exact ⟨_, _, rfl, by omega, h1, h2, h3⟩
  · rw [if_neg h, yA (a := m.At + 1) (by omega) (by omega), yA (by omega) (by omega), Zj (by omega), List.getElem?_eq_getElem (by omega), Option.bind_some]
    exact ⟨_, _, rfl, by have := (m.L[(m.At + 1 - 1).toNat]'(by omega)).isLt; omega, show 0 ≤ m.At + 1 by omega, show m.At + 1 ≤ m.L.length by omega, h3⟩
theorem zAk {m : zE} (h : Xm m) {regs slots : Int} (hr : 1 ≤ regs) (hs : 1 ≤ slots) : ∃ o m', Y2 regs slots m = some (o, m', ()) ∧ zh4 o regs slots ∧ Xm m' := by
  obtain ⟨b1, m1, e1, r1, k1⟩ := vi h
  obtain ⟨b2, m2, e2, r2, k2⟩ := vi k1
  obtain ⟨b3, m3, e3, r3, k3⟩ := vi k2
  obtain ⟨b4, m4, e4, r4, k4⟩ := vi k3
  have t1 := wy r1.1 (show (0 : Int) < 8 by omega)
  have t2 := wy r2.1 (show (0 : Int) < regs by omega)
  have t3 := wy r3.1 (show (0 : Int) < regs by omega)
  have t4 := wy r4.1 (show (0 : Int) < slots by omega)
  have t5 := wy r3.1 (show (0 : Int) < slots by omega)
  have hn : ¬ regs = 0 := by omega
  have hn2 : ¬ slots = 0 := by omega
  rw [zfq, e1, Option.bind_some, uY t1.1 (by simpa using t1.2), Option.bind_some]
  have hx : b1.tmod 8 = 0 ∨ b1.tmod 8 = 1 ∨ b1.tmod 8 = 2 ∨ b1.tmod 8 = 3 ∨ b1.tmod 8 = 4 ∨ b1.tmod 8 = 5 ∨ b1.tmod 8 = 6 ∨ b1.tmod 8 = 7 := by omega
  rcases hx with hx | hx | hx | hx | hx | hx | hx | hx <;> simp [hx, e2, e3, e4, hn, hn2] <;> refine ⟨_, _, ⟨rfl, rfl⟩, ?_, by assumption⟩ <;> (unfold zh4; dsimp only; omega)
theorem zyi {s1 : Int} {s2 : Int} {s4 : Int} {s5 : Int} {s6 : Int} {s7 : Int} {s8 : Int} {s9 : Int} {s10 : Int} {s11 : Int} {s12 : Int} {s13 : BitVec 64} {s15 : Int} {s16 : Int} {s17 : Int} {s18 : Int} {s19 : Int} {s20 : Int} {s21 : Int} {s22 : Int} {s23 : Int} {s24 : BitVec 64} {s26 : List (List Int)} {s27 : List (List Int)} {s28 : List (List zi)} {s29 : List zj} {s30 : List (List Int)} {s31 : List (List Int)} {s32 : List (List zi)} {s33 : List zj} (hn : 1 ≤ s1 ∧ s1 ≤ 6) (hs : 1 ≤ s23 ∧ s23 ≤ 2) {mk : zE} (hm : Xm mk) :
    ∃ mk' l, zU ZR (s1, s2, 0, s4, s5, s6, s7, s8, s9, s10, s11, s12, s13, mk, s15, s16, s17, s18, s19, s20, s21, s22, s23, s24, [], s26, s27, s28, s29, s30, s31, s32, s33, ()) = some (.brk (s1, s2, s4, s5, s6, s7, s8, s9, s10, s11, s12, s13, mk', s15, s16, s17, s18, s19, s20, s21, s22, s23, s24, l, s26, s27, s28, s29, s30, s31, s32, s33, ())) ∧ Xm mk' ∧ (l.length : Int) = s23 ∧ ∀ v ∈ l, 0 ≤ v ∧ v ≤ s1 := by
  refine (Zs (f := ZR)
    (fun a => ∃ i mk l, a = (s1, s2, i, s4, s5, s6, s7, s8, s9, s10, s11, s12, s13, mk, s15, s16, s17, s18, s19, s20, s21, s22, s23, s24, l, s26, s27, s28, s29, s30, s31, s32, s33, ()) ∧ Xm mk ∧ (0 ≤ i ∧ i ≤ s23 ∧ (l.length : Int) = i) ∧ ∀ v ∈ l, 0 ≤ v ∧ v ≤ s1)
    (fun a => (s23 - a.2.2.1).toNat)
    (fun o => match o with | .brk b => ∃ mk l, b = (s1, s2, s4, s5, s6, s7, s8, s9, s10, s11, s12, s13, mk, s15, s16, s17, s18, s19, s20, s21, s22, s23, s24, l, s26, s27, s28, s29, s30, s31, s32, s33, ()) ∧ Xm mk ∧ (l.length : Int) = s23 ∧ ∀ v ∈ l, 0 ≤ v ∧ v ≤ s1 | _ => False) ?_
    (s1, s2, 0, s4, s5, s6, s7, s8, s9, s10, s11, s12, s13, mk, s15, s16, s17, s18, s19, s20, s21, s22, s23, s24, [], s26, s27, s28, s29, s30, s31, s32, s33, ()) ⟨0, mk, [], rfl, hm, by simp; omega, by simp⟩ (xG (by simp; omega))).elim fun o h => ?_
  rotate_left
  · obtain ⟨ho, hq⟩ := h
    cases o with
    | again a => exact hq.elim
    | ret a => exact hq.elim
    | brk b =>
      obtain ⟨mk', l, rfl, h1, h2, h3⟩ := hq
      exact ⟨mk', l, ho, h1, h2, h3⟩
  · rintro _ ⟨i, mk, l, rfl, h1, h2, h3⟩
    rw [zhE, zk]
    by_cases hi : i < s23
    · rw [if_pos hi]
      obtain ⟨b, mk', e, r, k⟩ := vi h1
      have w1 : w64 (s1 + 1) = s1 + 1 := yA (by omega) (by omega)
      have t := wy r.1 (show 0 < s1 + 1 by omega)
      rw [e, Option.bind_some, w1, zk, if_neg (by omega), y0 (by simp; omega), Option.bind_some, yA (a := i + 1) (by omega) (by omega)]
      refine ⟨_, rfl, ⟨i + 1, mk', l ++ [b.tmod (s1 + 1)], rfl, k, by simp; omega, fun v hv => ?_⟩, ?_⟩
      · rcases List.mem_append.1 hv with hv | hv
        · exact h3 v hv
        · simp at hv; omega
      · show (s23 - (i + 1)).toNat < (s23 - i).toNat
        omega
    · rw [if_neg hi]
      exact ⟨_, rfl, mk, l, rfl, h1, by omega, h3⟩
theorem zy2 {s1 : Int} {s3 : Int} {s4 : Int} {s5 : Int} {s6 : Int} {s7 : Int} {s8 : Int} {s9 : Int} {s10 : Int} {s11 : Int} {s12 : BitVec 64} {s14 : Int} {s15 : Int} {s16 : Int} {s17 : Int} {s18 : Int} {s19 : Int} {s20 : Int} {s21 : Int} {s22 : Int} {s23 : BitVec 64} {s24 : List (List Int)} {s25 : List (List Int)} {s26 : List (List zi)} {s27 : List zj} {s29 : List (List Int)} {s30 : List (List zi)} {s31 : List zj} (hn : 1 ≤ s1 ∧ s1 ≤ 6) (hs : 1 ≤ s22 ∧ s22 ≤ 2) {mk : zE} (hm : Xm mk) :
    ∃ mk' l, zU Yx (s1, 0, s3, s4, s5, s6, s7, s8, s9, s10, s11, s12, mk, s14, s15, s16, s17, s18, s19, s20, s21, s22, s23, s24, s25, s26, s27, [], s29, s30, s31, ()) = some (.brk (s1, s3, s4, s5, s6, s7, s8, s9, s10, s11, s12, mk', s14, s15, s16, s17, s18, s19, s20, s21, s22, s23, s24, s25, s26, s27, l, s29, s30, s31, ())) ∧ Xm mk' ∧ (l.length : Int) = s1 ∧ ∀ o ∈ l, (o.length : Int) = s22 ∧ ∀ v ∈ o, 0 ≤ v ∧ v ≤ s1 := by
  refine (Zs (f := Yx)
    (fun a => ∃ i mk l, a = (s1, i, s3, s4, s5, s6, s7, s8, s9, s10, s11, s12, mk, s14, s15, s16, s17, s18, s19, s20, s21, s22, s23, s24, s25, s26, s27, l, s29, s30, s31, ()) ∧ Xm mk ∧ (0 ≤ i ∧ i ≤ s1 ∧ (l.length : Int) = i) ∧ ∀ o ∈ l, (o.length : Int) = s22 ∧ ∀ v ∈ o, 0 ≤ v ∧ v ≤ s1)
    (fun a => (s1 - a.2.1).toNat)
    (fun o => match o with | .brk b => ∃ mk l, b = (s1, s3, s4, s5, s6, s7, s8, s9, s10, s11, s12, mk, s14, s15, s16, s17, s18, s19, s20, s21, s22, s23, s24, s25, s26, s27, l, s29, s30, s31, ()) ∧ Xm mk ∧ (l.length : Int) = s1 ∧ ∀ o ∈ l, (o.length : Int) = s22 ∧ ∀ v ∈ o, 0 ≤ v ∧ v ≤ s1 | _ => False) ?_
    (s1, 0, s3, s4, s5, s6, s7, s8, s9, s10, s11, s12, mk, s14, s15, s16, s17, s18, s19, s20, s21, s22, s23, s24, s25, s26, s27, [], s29, s30, s31, ()) ⟨0, mk, [], rfl, hm, by simp; omega, by simp⟩ (xG (by simp; omega))).elim fun o h => ?_
  rotate_left
  · obtain ⟨ho, hq⟩ := h
    cases o with
    | again a => exact hq.elim
    | ret a => exact hq.elim
    | brk b =>
      obtain ⟨mk', l, rfl, h1, h2, h3⟩ := hq
      exact ⟨mk', l, ho, h1, h2, h3⟩
  · rintro _ ⟨i, mk, l, rfl, h1, h2, h3⟩
    rw [ziq, zk]
    by_cases hi : i < s1
    · rw [if_pos hi]
      obtain ⟨mk', o, e, g1, g2, g3⟩ := zyi hn hs h1
      rw [e]
      simp only [Option.bind_some]
      rw [y0 (by simp; omega), Option.bind_some, yA (a := i + 1) (by omega) (by omega)]
      refine ⟨_, rfl, ⟨i + 1, mk', l ++ [o], rfl, g1, by simp; omega, fun v hv => ?_⟩, ?_⟩
      · rcases List.mem_append.1 hv with hv | hv
        · exact h3 v hv
        · simp at hv; subst hv; exact ⟨g2, g3⟩
      · show (s1 - (i + 1)).toNat < (s1 - i).toNat
        omega
    · rw [if_neg hi]
      exact ⟨_, rfl, mk, l, rfl, h1, by omega, h3⟩
theorem zyj {s1 : Int} {s2 : Int} {s4 : Int} {s5 : Int} {s6 : Int} {s7 : Int} {s8 : Int} {s9 : Int} {s10 : Int} {s11 : Int} {s12 : Int} {s13 : BitVec 64} {s15 : Int} {s16 : Int} {s17 : Int} {s18 : Int} {s19 : Int} {s20 : Int} {s21 : Int} {s22 : Int} {s23 : Int} {s24 : BitVec 64} {s26 : List (List Int)} {s27 : List (List Int)} {s28 : List (List zi)} {s29 : List zj} {s30 : List (List Int)} {s31 : List (List Int)} {s32 : List (List zi)} {s33 : List zj} (hn : 1 ≤ s1 ∧ s1 ≤ 6) {mk : zE} (hm : Xm mk) :
    ∃ mk' l, zU ZM (s1, s2, 0, s4, s5, s6, s7, s8, s9, s10, s11, s12, s13, mk, s15, s16, s17, s18, s19, s20, s21, s22, s23, s24, [], s26, s27, s28, s29, s30, s31, s32, s33, ()) = some (.brk (s1, s2, s4, s5, s6, s7, s8, s9, s10, s11, s12, s13, mk', s15, s16, s17, s18, s19, s20, s21, s22, s23, s24, l, s26, s27, s28, s29, s30, s31, s32, s33, ())) ∧ Xm mk' ∧ (1 ≤ (l.length : Int) ∧ (l.length : Int) ≤ 3) ∧ ∀ v ∈ l, 0 ≤ v ∧ v ≤ s1 := by
  refine (Zs (f := ZM)
    (fun a => ∃ i mk l, a = (s1, s2, i, s4, s5, s6, s7, s8, s9, s10, s11, s12, s13, mk, s15, s16, s17, s18, s19, s20, s21, s22, s23, s24, l, s26, s27, s28, s29, s30, s31, s32, s33, ()) ∧ Xm mk ∧ (0 ≤ i ∧ i ≤ 3 ∧ (l.length : Int) = i) ∧ ∀ v ∈ l, 0 ≤ v ∧ v ≤ s1)
    (fun a => (3 - a.2.2.1).toNat)
    (fun o => match o with | .brk b => ∃ mk l, b = (s1, s2, s4, s5, s6, s7, s8, s9, s10, s11, s12, s13, mk, s15, s16, s17, s18, s19, s20, s21, s22, s23, s24, l, s26, s27, s28, s29, s30, s31, s32, s33, ()) ∧ Xm mk ∧ (1 ≤ (l.length : Int) ∧ (l.length : Int) ≤ 3) ∧ ∀ v ∈ l, 0 ≤ v ∧ v ≤ s1 | _ => False) ?_
    (s1, s2, 0, s4, s5, s6, s7, s8, s9, s10, s11, s12, s13, mk, s15, s16, s17, s18, s19, s20, s21, s22, s23, s24, [], s26, s27, s28, s29, s30, s31, s32, s33, ()) ⟨0, mk, [], rfl, hm, by simp, by simp⟩ (xG (by simp))).elim fun o h => ?_
  rotate_left
  · obtain ⟨ho, hq⟩ := h
    cases o with
    | again a => exact hq.elim
    | ret a => exact hq.elim
    | brk b =>
      obtain ⟨mk', l, rfl, h1, h2, h3⟩ := hq
      exact ⟨mk', l, ho, h1, h2, h3⟩
  · rintro _ ⟨i, mk, l, rfl, h1, h2, h3⟩
    obtain ⟨b0, mk0, e0, r0, k0⟩ := vi h1
    have t0 := wy r0.1 (show (0 : Int) < 3 by omega)
    rw [zhZ, e0, Option.bind_some, zk, yA (a := 1 + b0.tmod 3) (by omega) (by omega)]
    by_cases hi : i < 1 + b0.tmod 3
    · rw [if_pos hi]
      obtain ⟨b, mk', e, r, k⟩ := vi k0
      have w1 : w64 (s1 + 1) = s1 + 1 := yA (by omega) (by omega)
      have t := wy r.1 (show 0 < s1 + 1 by omega)
      rw [e, Option.bind_some, w1, zk, if_neg (by omega), y0 (by simp; omega), Option.bind_some, yA (a := i + 1) (by omega) (by omega)]
      refine ⟨_, rfl, ⟨i + 1, mk', l ++ [b.tmod (s1 + 1)], rfl, k, by simp; omega, fun v hv => ?_⟩, ?_⟩
      · rcases List.mem_append.1 hv with hv | hv
        · exact h3 v hv
        · simp at hv; omega
      · show (3 - (i + 1)).toNat < (3 - i).toNat
        omega
    · rw [if_neg hi]
      exact ⟨_, rfl, mk0, l, rfl, k0, by omega, h3⟩
theorem zyI {s1 : Int} {s2 : Int} {s4 : Int} {s5 : Int} {s6 : Int} {s7 : Int} {s8 : Int} {s9 : Int} {s10 : Int} {s11 : Int} {s12 : Int} {s13 : BitVec 64} {s15 : Int} {s16 : Int} {s17 : Int} {s18 : Int} {s19 : Int} {s20 : Int} {s21 : Int} {s22 : Int} {s23 : Int} {s24 : BitVec 64} {s25 : List Int} {s27 : List (List Int)} {s28 : List (List Int)} {s29 : List (List zi)} {s30 : List zj} {s31 : List (List Int)} {s32 : List (List Int)} {s33 : List (List zi)} {s34 : List zj} (hr : 1 ≤ (s25.length : Int)) (hs : 1 ≤ s23 ∧ s23 ≤ 2) {k0 : Int} (hk : 0 ≤ k0 ∧ k0 < 8) {mk : zE} (hm : Xm mk) :
    ∃ mk' l, zU v8 (s1, s2, k0, s4, s5, s6, s7, s8, s9, s10, s11, s12, s13, mk, s15, s16, s17, s18, s19, s20, s21, s22, s23, s24, s25, [], s27, s28, s29, s30, s31, s32, s33, s34, ()) = some (.brk (s1, s2, s4, s5, s6, s7, s8, s9, s10, s11, s12, s13, mk', s15, s16, s17, s18, s19, s20, s21, s22, s23, s24, s25, l, s27, s28, s29, s30, s31, s32, s33, s34, ())) ∧ Xm mk' ∧ (l.length : Int) ≤ 7 ∧ ∀ o ∈ l, zh4 o (s25.length : Int) s23 := by
  refine (Zs (f := v8)
    (fun a => ∃ i mk l, a = (s1, s2, i, s4, s5, s6, s7, s8, s9, s10, s11, s12, s13, mk, s15, s16, s17, s18, s19, s20, s21, s22, s23, s24, s25, l, s27, s28, s29, s30, s31, s32, s33, s34, ()) ∧ Xm mk ∧ (0 ≤ i ∧ (l.length : Int) + i ≤ 7) ∧ ∀ o ∈ l, zh4 o (s25.length : Int) s23)
    (fun a => (a.2.2.1).toNat)
    (fun o => match o with | .brk b => ∃ mk l, b = (s1, s2, s4, s5, s6, s7, s8, s9, s10, s11, s12, s13, mk, s15, s16, s17, s18, s19, s20, s21, s22, s23, s24, s25, l, s27, s28, s29, s30, s31, s32, s33, s34, ()) ∧ Xm mk ∧ (l.length : Int) ≤ 7 ∧ ∀ o ∈ l, zh4 o (s25.length : Int) s23 | _ => False) ?_
    (s1, s2, k0, s4, s5, s6, s7, s8, s9, s10, s11, s12, s13, mk, s15, s16, s17, s18, s19, s20, s21, s22, s23, s24, s25, [], s27, s28, s29, s30, s31, s32, s33, s34, ()) ⟨k0, mk, [], rfl, hm, by simp; omega, by simp⟩ (xG (by simp; omega))).elim fun o h => ?_
  rotate_left
  · obtain ⟨ho, hq⟩ := h
    cases o with
    | again a => exact hq.elim
    | ret a => exact hq.elim
    | brk b =>
      obtain ⟨mk', l, rfl, h1, h2, h3⟩ := hq
      exact ⟨mk', l, ho, h1, h2, h3⟩
  · rintro _ ⟨i, mk, l, rfl, h1, h2, h3⟩
    rw [zhI, zk]
    by_cases hi : 0 < i
    · rw [if_pos hi]
      obtain ⟨o, mk', e, r, k⟩ := zAk h1 hr hs.1
      rw [e, Option.bind_some, y0 (by simp; omega), Option.bind_some, yA (a := i - 1) (by omega) (by omega)]
      refine ⟨_, rfl, ⟨i - 1, mk', l ++ [o], rfl, k, by simp; omega, fun v hv => ?_⟩, ?_⟩
      · rcases List.mem_append.1 hv with hv | hv
        · exact h3 v hv
        · simp at hv; subst hv; exact r
      · show (i - 1).toNat < i.toNat
        omega
    · rw [if_neg hi]
      exact ⟨_, rfl, mk, l, rfl, h1, by omega, h3⟩
theorem zyr {s1 : Int} {s3 : Int} {s4 : Int} {s5 : Int} {s6 : Int} {s7 : Int} {s8 : Int} {s9 : Int} {s10 : Int} {s11 : Int} {s12 : BitVec 64} {s14 : Int} {s15 : Int} {s16 : Int} {s17 : Int} {s18 : Int} {s19 : Int} {s20 : Int} {s21 : Int} {s22 : Int} {s23 : BitVec 64} {s24 : List (List Int)} {s25 : List (List Int)} {s26 : List (List zi)} {s27 : List zj} {s28 : List (List Int)} {s31 : List zj} (hn : 1 ≤ s1 ∧ s1 ≤ 6) (hm0 : 0 ≤ s15 ∧ s15 ≤ 2) (hs : 1 ≤ s22 ∧ s22 ≤ 2) {mk : zE} (hm : Xm mk) :
    ∃ regs progs, zU ZN (s1, 0, s3, s4, s5, s6, s7, s8, s9, s10, s11, s12, mk, s14, s15, s16, s17, s18, s19, s20, s21, s22, s23, s24, s25, s26, s27, s28, [], [], s31, ()) = some (.brk (s3, s4, s5, s6, s7, s8, s9, s10, s11, s12, s14, s15, s16, s17, s18, s19, s20, s21, s22, s23, s24, s25, s26, s27, s28, regs, progs, s31, ())) ∧ (regs.length : Int) = s15 ∧ (regs.length = progs.length) ∧ (∀ r ∈ regs, (1 ≤ (r.length : Int) ∧ (r.length : Int) ≤ 3) ∧ ∀ v ∈ r, 0 ≤ v ∧ v ≤ s1) ∧ ∀ (k : Nat) r ops, regs[k]? = some r → progs[k]? = some ops → (ops.length : Int) ≤ 7 ∧ ∀ o ∈ ops, zh4 o (r.length : Int) s22 := by
  refine (Zs (f := ZN)
    (fun a => ∃ i mk regs progs, a = (s1, i, s3, s4, s5, s6, s7, s8, s9, s10, s11, s12, mk, s14, s15, s16, s17, s18, s19, s20, s21, s22, s23, s24, s25, s26, s27, s28, regs, progs, s31, ()) ∧ Xm mk ∧ (0 ≤ i ∧ i ≤ s15 ∧ (regs.length : Int) = i) ∧ (regs.length = progs.length) ∧ (∀ r ∈ regs, (1 ≤ (r.length : Int) ∧ (r.length : Int) ≤ 3) ∧ ∀ v ∈ r, 0 ≤ v ∧ v ≤ s1) ∧ ∀ (k : Nat) r ops, regs[k]? = some r → progs[k]? = some ops → (ops.length : Int) ≤ 7 ∧ ∀ o ∈ ops, zh4 o (r.length : Int) s22)
    (fun a => (s15 - a.2.1).toNat)
    (fun o => match o with | .brk b => ∃ regs progs, b = (s3, s4, s5, s6, s7, s8, s9, s10, s11, s12, s14, s15, s16, s17, s18, s19, s20, s21, s22, s23, s24, s25, s26, s27, s28, regs, progs, s31, ()) ∧ (regs.length : Int) = s15 ∧ (regs.length = progs.length) ∧ (∀ r ∈ regs, (1 ≤ (r.length : Int) ∧ (r.length : Int) ≤ 3) ∧ ∀ v ∈ r, 0 ≤ v ∧ v ≤ s1) ∧ ∀ (k : Nat) r ops, regs[k]? = some r → progs[k]? = some ops → (ops.length : Int) ≤ 7 ∧ ∀ o ∈ ops, zh4 o (r.length : Int) s22 | _ => False) ?_
    (s1, 0, s3, s4, s5, s6, s7, s8, s9, s10, s11, s12, mk, s14, s15, s16, s17, s18, s19, s20, s21, s22, s23, s24, s25, s26, s27, s28, [], [], s31, ()) ⟨0, mk, [], [], rfl, hm, by simp; omega, rfl, by simp, by simp⟩ (xG (by simp; omega))).elim fun o h => ?_
  rotate_left
  · obtain ⟨ho, hq⟩ := h
    cases o with
    | again a => exact hq.elim
    | ret a => exact hq.elim
    | brk b =>
      obtain ⟨regs, progs, rfl, h⟩ := hq
      exact ⟨regs, progs, ho, h⟩
  · rintro _ ⟨i, mk, regs, progs, rfl, h1, h2, h3, h4, h5⟩
    rw [zg0, zk]
    by_cases hi : i < s15
    · rw [if_pos hi]
      obtain ⟨mk1, r, e, g1, g2, g3⟩ := zyj hn h1
      rw [e]
      simp only [Option.bind_some]
      rw [zk, if_neg (by omega)]
      obtain ⟨b, mk2, e2, r2, k2⟩ := vi g1
      rw [e2, Option.bind_some]
      obtain ⟨mk3, ops, e3, f1, f2, f3⟩ := zyI (s25 := r) g2.1 hs (wy r2.1 (show (0 : Int) < 8 by omega)) k2
      rw [e3]
      simp only [Option.bind_some]
      rw [y0 (by simp; omega), Option.bind_some, y0 (by simp; omega), Option.bind_some, yA (a := i + 1) (by omega) (by omega)]
      refine ⟨_, rfl, ⟨i + 1, mk3, regs ++ [r], progs ++ [ops], rfl, f1, by simp; omega, by simp [h3], fun v hv => ?_, fun k r' ops' hk1 hk2 => ?_⟩, ?_⟩
      · rcases List.mem_append.1 hv with hv | hv
        · exact h4 v hv
        · simp at hv; subst hv; exact ⟨g2, g3⟩
      · rcases Nat.lt_or_ge k regs.length with hlt | hge
        · rw [List.getElem?_append_left hlt] at hk1
          rw [List.getElem?_append_left (by omega)] at hk2
          exact h5 k r' ops' hk1 hk2
        · rw [List.getElem?_append_right hge] at hk1
          rw [List.getElem?_append_right (by omega), ← h3] at hk2
          have hk0 : k - regs.length = 0 := by
            have := (List.getElem?_eq_some_iff.1 hk1).1
            simpa using this
          rw [hk0] at hk1 hk2
          simp at hk1 hk2
          subst hk1; subst hk2
          exact ⟨f2, f3⟩
      · show (s15 - (i + 1)).toNat < (s15 - i).toNat
        omega
    · rw [if_neg hi]
      exact ⟨_, rfl, regs, progs, rfl, by omega, h3, h4, h5⟩
theorem zy0 (l : List (BitVec 8)) : ∃ p, zbI l = some (p, ()) ∧ z7 p := by
  rw [zlE, zk]
  obtain ⟨m, em, hl⟩ : ∃ m, cut l 0 (if 90 < (l.length : Int) then 90 else (l.length : Int)) = some m ∧ m.length ≤ 90 := by
    unfold cut
    by_cases h : 90 < (l.length : Int)
    · have h2 : (90 : Int) ≤ l.length := by omega
      rw [if_pos h]; exact ⟨l.take 90, by simp [h2], List.length_take_le _ _⟩
    · rw [if_neg h]; exact ⟨l, by simp, by omega⟩
  rw [em, Option.bind_some]
  obtain ⟨b1, m1, e1, r1, k1⟩ := vi (m := ⟨m, 0⟩) ⟨by simp, by simp, hl⟩
  obtain ⟨b2, m2, e2, r2, k2⟩ := vi k1
  obtain ⟨b3, m3, e3, r3, k3⟩ := vi k2
  obtain ⟨b4, m4, e4, r4, k4⟩ := vi k3
  obtain ⟨b5, m5, e5, r5, k5⟩ := vi k4
  obtain ⟨b6, m6, e6, r6, k6⟩ := vi k5
  obtain ⟨b7, m7, e7, r7, k7⟩ := vi k6
  obtain ⟨b8, m8, e8, r8, k8⟩ := vi k7
  obtain ⟨b9, m9, e9, r9, k9⟩ := vi k8
  obtain ⟨b10, m10, e10, r10, k10⟩ := vi k9
  simp only [e1, e2, e3, e4, e5, e6, e7, e8, e9, e10, Option.bind_some]
  have t1 := wy r1.1 (show (0 : Int) < 3 by omega)
  have t2 := wy r2.1 (show (0 : Int) < 3 by omega)
  have t3 := wy r3.1 (show (0 : Int) < 3 by omega)
  have t4 := wy r4.1 (show (0 : Int) < 2 by omega)
  have t5 := wy r5.1 (show (0 : Int) < 3 by omega)
  have t6 := wy r6.1 (show (0 : Int) < 4 by omega)
  have t7 := wy r7.1 (show (0 : Int) < 4 by omega)
  have t8 := wy r8.1 (show (0 : Int) < 2 by omega)
  have t9 := wy r9.1 (show (0 : Int) < 6 by omega)
  have t10 := wy r10.1 (show (0 : Int) < 4 by omega)
  rw [yA (a := 1 + b9.tmod 6) (by omega) (by omega), yA (a := 1 + b1.tmod 3) (by omega) (by omega), yA (a := 1 + b3.tmod 3) (by omega) (by omega), yA (a := 1 + b4.tmod 2) (by omega) (by omega), yA (a := 1 + b5.tmod 3) (by omega) (by omega),
    yA (a := 1 + b9.tmod 6 + b10.tmod 4) (by omega) (by omega), yA (a := 1 + b8.tmod 2) (by omega) (by omega)]
  obtain ⟨m11, objs, e11, g1, g2, g3⟩ := zy2 (s1 := 1 + b9.tmod 6) (s22 := 1 + b8.tmod 2) (by omega) (by omega) k10
  rw [e11]
  simp only [Option.bind_some]
  obtain ⟨b12, m12, e12, r12, k12⟩ := vi g1
  rw [e12, Option.bind_some, yA (a := 1 + b9.tmod 6 + 1) (by omega) (by omega), zk, if_neg (by omega)]
  have t12 := wy r12.1 (show (0 : Int) < 1 + b9.tmod 6 + 1 by omega)
  rw [zob, Option.bind_some]
  obtain ⟨regs, progs, e13, f1, f2, f3, f4⟩ := zyr (s1 := 1 + b9.tmod 6) (s15 := b2.tmod 3) (s22 := 1 + b8.tmod 2) (by omega) (by omega) (by omega) k12
  rw [e13]
  simp only [Option.bind_some]
  refine ⟨_, rfl, ?_⟩
  constructor <;> dsimp only
  case objs => intro o ho; rw [g2]; exact g3 o ho
  case roots => exact ⟨b12.tmod (1 + b9.tmod 6 + 1), by omega, by omega, by simp⟩
  case reg => rw [g2]; exact f3
  case prog => exact f4
  all_goals first | omega | rfl
end B15
end
end Go.Pe.G
namespace Go.Pe.G
open Go.Pe
noncomputable section
theorem zaL {α β B C : Type} {f : List α × Int × Int × β → Option (yx (List α × Int × Int × β) B C)} {l : List α} {e : β} {b : B} (hl : l.length < 1000000)
    (h1 : ∀ (i : Nat) (x : α), l[i]? = some x → f (l, (l.length : Int), (i : Int), e) = some (.again (l, (l.length : Int), ((i + 1 : Nat) : Int), e)))
    (h2 : f (l, (l.length : Int), (l.length : Int), e) = some (.brk b)) : zU f (l, (l.length : Int), 0, e) = some (.brk b) := by
  refine (Zs (f := f) (fun a => ∃ i : Nat, a = (l, (l.length : Int), (i : Int), e) ∧ i ≤ l.length) (fun a => l.length - a.2.2.1.toNat) (fun o => o = .brk b) ?_ (l, (l.length : Int), 0, e) ⟨0, rfl, by omega⟩ (xG (by simp; omega))).elim fun o h => ?_
  rotate_left
  · rw [h.1, h.2]
  · rintro _ ⟨i, rfl, hi⟩
    rcases Nat.lt_or_ge i l.length with hlt | hge
    · refine ⟨_, h1 i _ (List.getElem?_eq_getElem hlt), ⟨i + 1, rfl, hlt⟩, ?_⟩
      show l.length - ((i + 1 : Nat) : Int).toNat < l.length - (i : Int).toNat
      omega
    · have : i = l.length := by omega
      subst this
      exact ⟨_, h2, rfl⟩
theorem z3 {α : Type} {l : List α} {i : Nat} {x : α} (h : l[i]? = some x) : idx l (i : Int) = some x := by
  rw [Zj (by omega)]; simpa using h
theorem xK {α : Type} {l : List α} {i : Nat} {x : α} (h : l[i]? = some x) : (i : Int) < (l.length : Int) := by
  have := (List.getElem?_eq_some_iff.1 h).1; omega
theorem yb {i : Nat} (h : i < 1000000) : w64 ((i : Int) + 1) = ((i + 1 : Nat) : Int) := by
  rw [yA (by omega) (by omega)]; omega
theorem zeW (a b c : Int) : vb a b c = some (decide (b ≤ a ∧ a ≤ c), ()) := by
  rw [zpb, zk]
  by_cases h : b ≤ a
  · rw [if_pos h]; simp [h]
  · rw [if_neg h]; simp [h]
theorem zv7 {l : List Int} {h : zF} (hl : l.length < 1000000) (hv : ∀ v ∈ l, 0 ≤ v ∧ v ≤ (h.Objs.length : Int)) : uS l h = some (false, ()) := by
  rw [zca, zdF, zaL (b := ()) hl (fun i x hx => ?_) (by rw [YA]; simp)]
  · rfl
  · have hm := hv x (List.mem_of_getElem? hx)
    have hlt := xK hx
    rw [YA, zk, if_pos hlt, z3 hx, Option.bind_some, zmx, zk, if_neg (show ¬ x < 0 by omega), Option.bind_some, yb (by omega)]
    simp [show ¬ (h.Objs.length : Int) < x by omega]
theorem zwO {l : List Int} {n : Int} (hl : l.length < 1000000) (hv : ∀ v ∈ l, 0 ≤ v ∧ v ≤ n) : vC l n = some (false, ()) := by
  rw [zaj, zce, zaL (b := ()) hl (fun i x hx => ?_) (by rw [ZG]; simp)]
  · rfl
  · have hm := hv x (List.mem_of_getElem? hx)
    have hlt := xK hx
    rw [ZG, z3 hx, Option.bind_some, zom, zeW, Option.bind_some, Option.bind_some, yb (by omega), zk, if_pos hlt]
    simp [hm]
theorem zwQ {l : List (List Int)} {h : zF} (hl : l.length < 1000000) (hs : h.Slots < 1000000) (hv : ∀ o ∈ l, (o.length : Int) = h.Slots ∧ ∀ v ∈ o, 0 ≤ v ∧ v ≤ (h.Objs.length : Int)) : vS l h = some (false, ()) := by
  rw [zaH, zct, zaL (b := ()) hl (fun i x hx => ?_) (by rw [ZO]; simp)]
  · rfl
  · have hm := hv x (List.mem_of_getElem? hx)
    have hlt := xK hx
    rw [ZO, z3 hx, Option.bind_some, zoE, zN, if_pos hm.1, zv7 (by omega) hm.2, Option.bind_some, Option.bind_some, yb (by omega), zk, if_pos hlt]
    rfl
theorem zp6 {r n : Int} (h : 0 ≤ r ∧ r < n) (h2 : n ≤ 4) : zX r n = some (true, ()) := by
  rw [zot, zk, if_pos h.1, zk]
  rw [if_neg (by omega)]
  simp [h.2]
theorem zx5 {o : zi} {regs slots : Int} (h : zh4 o regs slots) (h2 : regs ≤ 4) (h3 : slots ≤ 4) : zhq o regs slots = some (true, ()) := by
  obtain ⟨hr, h⟩ := h
  have e1 := zp6 hr h2
  have h4 : ¬ 4 < slots := by omega
  rw [zq7]
  rcases h with ⟨hk | hk, ha, hs⟩ | ⟨hk, ha, hs⟩ | ⟨hk | hk, ha, hs⟩
  · have e2 := zp6 ha h2
    simp [hk, e1, e2, hs.1, hs.2, h4]
  · have e2 := zp6 ha h2
    simp [hk, e1, e2, hs.1, hs.2, h4]
  · have e2 := zp6 ha h2
    simp [hk, e1, e2, hs]
  · simp [hk, e1, ha, hs]
  · simp [hk, e1, ha, hs]
theorem zzn {l : List zi} {regs slots : Int} (hl : (l.length : Int) ≤ 64) (h : ∀ o ∈ l, zh4 o regs slots) (h2 : regs ≤ 4) (h3 : slots ≤ 4) : zj5 l regs slots = some (true, ()) := by
  rw [zr4, zk, if_pos hl, Vc, Up, zaL (b := ()) (by omega) (fun i x hx => ?_) (by rw [uD]; simp)]
  · rfl
  · have hlt := xK hx
    rw [uD, z3 hx, Option.bind_some, zo8, zx5 (h x (List.mem_of_getElem? hx)) h2 h3, Option.bind_some, Option.bind_some, yb (by omega), zk, if_pos hlt]
    rfl
theorem zwT (a b : Int) : zh5 [] a b = some (true, ()) := by
  rw [zqu, XU, WR, zaL (b := ()) (by simp) (fun i x hx => by simp at hx) (by rw [XT]; simp)]
  rfl
def zb3 (n : Int) : BitVec 64 := if n < 1 then 0#64 else 18446744073709551615#64 >>> (64 - min n 64).toNat
theorem zwJ (n : Int) (h : 0 ≤ n) : zjC n = some (zb3 n, ()) := by
  rw [zrn, zk]
  unfold zb3
  by_cases h1 : n < 1
  · rw [if_pos h1, if_pos h1]
  · rw [if_neg h1, if_neg h1]
    simp only [zk]
    have e : (if 64 < n then (64 : Int) else n) = min n 64 := by
      by_cases h2 : 64 < n
      · rw [if_pos h2]; omega
      · rw [if_neg h2]; omega
    rw [e, yA (by omega) (by omega), if_neg (by omega), Nat.min_eq_left (by omega)]
theorem zsu : ∀ (r n : Fin 7), r.1 ≤ n.1 → bit (r.1 : Int) &&& ~~~zb3 (n.1 : Int) = 0#64 := by decide
theorem zo0 {p : zd} (h : z7 p) : p.Roots &&& ~~~zb3 (p.H.Objs.length : Int) = 0#64 := by
  obtain ⟨r, h1, h2, h3⟩ := h.roots
  have hn := h.n
  have := zsu ⟨r.toNat, by omega⟩ ⟨p.H.Objs.length, by omega⟩ (by show r.toNat ≤ p.H.Objs.length; omega)
  rw [h3]
  simpa [Int.toNat_of_nonneg h1] using this
theorem zvM {p : zd} (h : z7 p) : zbq p = some (true, ()) := by
  obtain ⟨h1, h2, h3, h4, h5, h6, h7, _⟩ := h
  rw [zlp]
  simp only [zeW, Option.bind_some, zk]
  rw [if_pos (by omega), if_pos (by omega), if_pos (by omega), if_pos (by omega), if_pos (by omega), if_pos (by split <;> omega)]
  have : (if p.Price < p.Limit then p.Limit else p.Price) ≤ 1000000 := by split <;> omega
  simp [this]
theorem zwn {p : zd} (h : z7 p) : zhz p.H = some (true, ()) := by
  have := h.slots
  have := h.n
  rw [zqK, zk, if_pos (by omega), zk, if_pos (by omega), zk, if_pos (by omega), zwQ (by omega) (by omega) h.objs]
  rfl
theorem zwl {p : zd} (h : z7 p) : zhW p = some (true, ()) := by
  have hn := h.n
  have hm := h.most
  have hsl := h.slots
  have hmt := h.mt
  have hrl := h.regs
  have hpl := h.progs
  rw [zqN, zvM h]
  simp only [Option.bind_some, Bool.not_true, cond_false, zwn h, zeW]
  rw [show decide ((p.H.Objs.length : Int) ≤ p.Most ∧ p.Most ≤ 64) = true by simp; omega]
  simp only [Bool.not_true, cond_false, zwJ _ (show (0 : Int) ≤ (p.H.Objs.length : Int) by omega), Option.bind_some, zsk, zo0 h, decide_true, zN, if_pos h.regs, if_pos h.progs]
  rw [zaL (b := (p, ())) (by omega) (fun i x hx => ?_) (by rw [zfe]; simp)]
  · simp [h.picks, zwT]
  · have hlt := xK hx
    have hr := h.reg x (List.mem_of_getElem? hx)
    obtain ⟨ops, hops⟩ : ∃ ops, p.Progs[i]? = some ops := ⟨_, List.getElem?_eq_getElem (by omega)⟩
    obtain ⟨o1, o2⟩ := h.prog i x ops hx hops
    rw [zfe, zk, if_pos hlt, z3 hx]
    simp only [Option.bind_some, zeW]
    rw [show decide (1 ≤ (x.length : Int) ∧ (x.length : Int) ≤ 4) = true by simp; omega]
    simp only [Bool.not_true, cond_false, zwO (show x.length < 1000000 by omega) hr.2, Option.bind_some, z3 hops, zzn (show (ops.length : Int) ≤ 64 by omega) o2 (show (x.length : Int) ≤ 4 by omega) (show p.H.Slots ≤ 4 by omega), yb (show i < 1000000 by omega)]
end
end Go.Pe.G
namespace Go.Pe.G
open Go.Pe
noncomputable section
theorem zhR {n : Int} (h : 0 ≤ n) (h2 : n < 4294967296) : UK n = some n.toNat := by rw [zsF]; simp [h, h2]
theorem zsR {n : Int} (h : 0 < n) (h2 : n < 4294967296) : zfi n = some n.toNat := by rw [zpT]; simp [h, h2]
def zqp (l : List Int) : BitVec 64 := l.foldl (fun s o => s ||| bit o) 0#64
def Va (p : zd) : BitVec 64 := p.Regs.foldl (fun s l => s ||| zqp l) p.Roots
def zAE (a1 : BitVec 64) : BitVec 64 :=
  let a := ((a1 >>> 1) &&& 6148914691236517205#64) + (a1 &&& 6148914691236517205#64)
  let b := ((a >>> 2) &&& 3689348814741910323#64) + (a &&& 3689348814741910323#64)
  let c := ((b >>> 4) + b) &&& 1085102592571150095#64
  let d := c + (c >>> 8)
  let e := d + (d >>> 16)
  e + (e >>> 32)
def cnt (s : BitVec 64) : Int := (BitVec.ofInt 64 (zAE s).toInt &&& BitVec.ofInt 64 127).toInt
theorem zxf (s : BitVec 64) : zjD s = some (cnt s, ()) := by
  rw [zrg, zkb, zuK]; rfl
theorem zlt {m : List Int} (h : m.length < 4294967296) : vq m = some (m, ()) := by
  rw [zfF, List.nil_append, y0 h, Option.bind_some]
  cases m with
  | nil => simp [zi9]
  | cons a l => simp
theorem zzZ {l : List Int} (hl : l.length < 1000000) : zpB l = some (zqp l, ()) := by
  rw [zu1]
  refine (Zs (f := zjB) (fun a => ∃ i : Nat, a = ((l.take i).foldl (fun s o => s ||| bit o) 0#64, l, (l.length : Int), (i : Int), ()) ∧ i ≤ l.length) (fun a => l.length - a.2.2.2.1.toNat) (fun o => o = .brk (zqp l, ())) ?_ (0#64, l, (l.length : Int), 0, ()) ⟨0, rfl, by omega⟩ (xG (by simp; omega))).elim fun o h => ?_
  rotate_left
  · rw [h.1, h.2]; rfl
  · rintro _ ⟨i, rfl, hi⟩
    rw [zrT, zk]
    rcases Nat.lt_or_ge i l.length with hlt | hge
    · have hx := List.getElem?_eq_getElem hlt
      rw [if_pos (by omega), z3 hx, Option.bind_some, zob, Option.bind_some, yb (by omega)]
      refine ⟨_, rfl, ⟨i + 1, ?_, hlt⟩, ?_⟩
      · rw [List.take_add_one, hx]; simp only [Option.toList_some, List.foldl_append, List.foldl_cons, List.foldl_nil]
      · show l.length - ((i + 1 : Nat) : Int).toNat < l.length - (i : Int).toNat
        omega
    · rw [if_neg (by omega)]
      have : i = l.length := by omega
      subst this
      exact ⟨_, rfl, by rw [List.take_length]; rfl⟩
theorem zww {p : zd} (hl : p.Regs.length < 1000000) (hr : ∀ r ∈ p.Regs, r.length < 1000000) : zhU p = some (Va p, ()) := by
  rw [zq5]
  refine (Zs (f := zdg) (fun a => ∃ i : Nat, a = ((p.Regs.take i).foldl (fun s l => s ||| zqp l) p.Roots, p.Regs, (p.Regs.length : Int), (i : Int), ()) ∧ i ≤ p.Regs.length) (fun a => p.Regs.length - a.2.2.2.1.toNat) (fun o => o = .brk (Va p, ())) ?_ (p.Roots, p.Regs, (p.Regs.length : Int), 0, ()) ⟨0, rfl, by omega⟩ (xG (by simp; omega))).elim fun o h => ?_
  rotate_left
  · rw [h.1, h.2]; rfl
  · rintro _ ⟨i, rfl, hi⟩
    rw [zm8, zk]
    rcases Nat.lt_or_ge i p.Regs.length with hlt | hge
    · have hx := List.getElem?_eq_getElem hlt
      rw [if_pos (by omega), z3 hx, Option.bind_some, zzZ (hr _ (List.getElem_mem hlt)), Option.bind_some, yb (by omega)]
      refine ⟨_, rfl, ⟨i + 1, ?_, hlt⟩, ?_⟩
      · rw [List.take_add_one, hx]; simp only [Option.toList_some, List.foldl_append, List.foldl_cons, List.foldl_nil]
      · show p.Regs.length - ((i + 1 : Nat) : Int).toNat < p.Regs.length - (i : Int).toNat
        omega
    · rw [if_neg (by omega)]
      have : i = p.Regs.length := by omega
      subst this
      exact ⟨_, rfl, by rw [List.take_length]; rfl⟩
theorem zxb {l : List (List Int)} (hl : l.length < 1000000) (h : ∀ r ∈ l, r.length < 1000000) : zbu l = some (l, ()) := by
  have key : ∀ n : Int, n = (l.length : Int) → zU uV (n, 0, l, ()) = some (.brk (l, ())) := by
    rintro _ rfl
    refine (Zs (f := uV) (fun a => ∃ i : Nat, a = ((l.length : Int), (i : Int), l, ()) ∧ i ≤ l.length) (fun a => l.length - a.2.1.toNat) (fun o => o = .brk (l, ())) ?_ ((l.length : Int), 0, l, ()) ⟨0, rfl, by omega⟩ (xG (by simp; omega))).elim fun o h => ?_
    rotate_left
    · rw [h.1, h.2]
    · rintro _ ⟨i, rfl, hi⟩
      rw [ziR, zk]
      rcases Nat.lt_or_ge i l.length with hlt | hge
      · have hx := List.getElem?_eq_getElem hlt
        have hr := h _ (List.getElem_mem hlt)
        have e : vd l (i : Int) = some i := by rw [uY (by omega) (by omega)]; simp
        rw [if_pos (by omega), e]
        simp only [Option.bind_some]
        rw [hx, Option.bind_some, zlt (by omega), Option.bind_some, yb (by omega)]
        refine ⟨_, rfl, ⟨i + 1, by simp, hlt⟩, ?_⟩
        show l.length - ((i + 1 : Nat) : Int).toNat < l.length - (i : Int).toNat
        omega
      · rw [if_neg (by omega)]
        have : i = l.length := by omega
        subst this
        exact ⟨_, rfl, rfl⟩
  have hc : UK (l.length : Int) = some l.length := by rw [zhR (by omega) (by omega)]; simp
  rw [zl9]
  simp only [decide_true, cond_true, hc, Option.bind_some, List.length_replicate]
  cases l with
  | nil => simp; rw [key 0 rfl]; rfl
  | cons a r => simp only [List.isEmpty_cons, cond_false]; rw [key _ rfl]; rfl
def zkt (cap : Int) : List (BitVec 64) := [1#64, 1#64] ++ List.replicate cap.toNat 0#64
theorem zvi {c : Int} (h : 1 ≤ c) (h2 : c ≤ 64) : zf5 c = some (zkt c, ()) := by
  have e : (if 64 < (if c < 1 then (1 : Int) else c) then (64 : Int) else (if c < 1 then (1 : Int) else c)) = c := by
    rw [if_neg (show ¬ c < 1 by omega), if_neg (by omega)]
  have w : w64 (2 + c) = 2 + c := yA (by omega) (by omega)
  have hc : UK (2 + c) = some (2 + c.toNat) := by rw [zhR (by omega) (by omega)]; congr 1; omega
  rw [zpo]
  simp only [zk, e, w, if_true, hc, Option.bind_some]
  rw [uY (by omega) (by simp; omega), Option.bind_some, uY (by omega) (by simp; omega), Option.bind_some]
  have e2 : List.replicate (2 + c.toNat) 0#64 = 0#64 :: 0#64 :: List.replicate c.toNat 0#64 := by rw [Nat.add_comm 2]; rfl
  rw [e2]; rfl
theorem zwF {m : Int} (h : 0 ≤ m) (h2 : m ≤ 16) : zg1 m = some (⟨0, 0, 0, List.replicate m.toNat 0⟩, ()) := by
  have e : (if (if 16 < m then (16 : Int) else m) < 0 then (0 : Int) else (if 16 < m then (16 : Int) else m)) = m := by
    rw [if_neg (show ¬ 16 < m by omega), if_neg (by omega)]
  have hc : UK m = some m.toNat := zhR (by omega) (by omega)
  rw [zqa]
  simp only [zk, e, if_true, hc, Option.bind_some]
def links (m : List (BitVec 64)) (next : Int) : List Int → List (BitVec 64)
  | [] => m
  | [a] => st m (wc (next + a)) 0#64
  | a :: b :: l => links (st m (wc (next + a)) (BitVec.ofInt 64 b)) next (b :: l)
def zlS (m : List (BitVec 64)) (head next : Int) (l : List Int) : List (BitVec 64) := st (links m next l) head (vW 0#64 (l.headD 0))
theorem VW (m : List (BitVec 64)) (a : Int) (v : BitVec 64) : (st m a v).length = m.length := by unfold st; split <;> simp
theorem ziZ : ∀ (l : List Int) (m : List (BitVec 64)) (n : Int), (links m n l).length = m.length
  | [], _, _ => rfl
  | [a], m, n => VW _ _ _
  | a :: b :: l, m, n => by simp only [links]; rw [ziZ (b :: l), VW]
theorem zpq (m : List (BitVec 64)) (h n : Int) (l : List Int) : (zlS m h n l).length = m.length := by unfold zlS; rw [VW, ziZ]
theorem zpf {head next : Int} {l : List Int} (hl : l.length < 1000000) : ∀ (k : Nat) (m : List (BitVec 64)) (i : Nat), l.length - i = k → i ≤ l.length → m.length < 4294967296 →
    ∀ n, k < n → vG zer n (m, head, next, l, (l.length : Int), (i : Int), ()) = some (.brk (links m next (l.drop i), head, l, ()))
  | 0, m, i, hk, hi, hm, n + 1, hn => by
    have : i = l.length := by omega
    subst this
    simp only [vG]
    rw [zf8, zk, if_neg (by omega), Option.bind_some, List.drop_length]; rfl
  | k + 1, m, i, hk, hi, hm, n + 1, hn => by
    have hlt : i < l.length := by omega
    have hx := List.getElem?_eq_getElem hlt
    simp only [vG]
    rw [zf8, zk, if_pos (by omega), yb (by omega), zk, xf]
    by_cases h2 : i + 1 < l.length
    · have hy := List.getElem?_eq_getElem h2
      have ed : l.drop i = l[i] :: l[i + 1] :: l.drop (i + 2) := by
        rw [List.drop_eq_getElem_cons hlt, List.drop_eq_getElem_cons h2]
      rw [if_pos (by omega), z3 hy, Option.bind_some, z3 hx, Option.bind_some, zbV hm, Option.bind_some, Option.bind_some]
      dsimp only
      rw [zpf hl k _ (i + 1) (by omega) (by omega) (by rw [VW]; exact hm) n (by omega), ed]
      rw [List.drop_eq_getElem_cons h2]; rfl
    · have ed : l.drop i = [l[i]] := by
        rw [List.drop_eq_getElem_cons hlt, List.drop_eq_nil_of_le (by omega)]
      rw [if_neg (by omega), z3 hx, Option.bind_some, zbV hm, Option.bind_some, Option.bind_some]
      dsimp only
      rw [zpf hl k _ (i + 1) (by omega) (by omega) (by rw [VW]; exact hm) n (by omega), ed, List.drop_eq_nil_of_le (by omega)]
      rfl
theorem zsv {m : List (BitVec 64)} (hm : m.length < 4294967296) {head next : Int} {l : List Int} (hl : l.length < 1000000) : zeZ m head next l = some (zlS m head next l, ()) := by
  have e := zpf (head := head) (next := next) hl l.length m 0 (by omega) (by omega) hm Y1 (xG (by omega))
  rw [show ((0 : Nat) : Int) = 0 from rfl] at e
  rw [zr5, VR, e]
  simp only [Option.bind_some, List.drop_zero, zk]
  unfold zlS
  cases l with
  | nil =>
    rw [if_neg (by simp), zgw, Option.bind_some, zbV (by rw [ziZ]; exact hm)]; rfl
  | cons a r =>
    have : idx (a :: r) 0 = some a := by rw [Zj (by omega)]; rfl
    rw [if_pos (by simp), this, Option.bind_some, zgw, Option.bind_some, zbV (by rw [ziZ]; exact hm)]; rfl
def zto : Nat → BitVec 64 → Option (List Int)
  | 0, _ => none
  | f + 1, s => bif decide (s = 0#64) then some [] else (zto f (s &&& (s - 1#64))).map fun l => (((Go.Lib.ctz 64 s.toNat : Nat) : Int) + 1) :: l
theorem zvj : ∀ t : Fin 64, zto 66 (BitVec.ofNat 64 t.1) = some (((List.range 6).filter fun i => (BitVec.ofNat 64 t.1).getLsbD i).map fun i : Nat => (i : Int) + 1) := by decide +kernel
def ze5 (s : BitVec 64) : List Int := ((List.range 6).filter fun i => s.getLsbD i).map fun i : Nat => (i : Int) + 1
theorem zt1 {s : BitVec 64} (h : s &&& ~~~63#64 = 0#64) : ∃ t : Fin 64, s = BitVec.ofNat 64 t.1 := by
  have h2 : s = s &&& 63#64 := by
    apply BitVec.eq_of_getLsbD_eq
    intro i hi
    have := congrArg (fun x => x.getLsbD i) h
    simp only [BitVec.getLsbD_and, BitVec.getLsbD_not, hi, decide_true, Bool.true_and, BitVec.getLsbD_zero] at this ⊢
    cases h1 : s.getLsbD i <;> cases h3 : (63#64 : BitVec 64).getLsbD i <;> simp_all
  have h3 : s.toNat < 64 := by
    rw [h2, BitVec.toNat_and]
    exact Nat.lt_of_le_of_lt Nat.and_le_right (by decide)
  exact ⟨⟨s.toNat, h3⟩, by simp⟩
theorem zAp : ∀ t : Fin 64, Go.Lib.ctz 64 t.1 ≤ 64 := by decide +kernel
theorem zsO : ∀ (f : Nat) (s : BitVec 64), s.toNat < 64 → zcQ f s = zto f s
  | 0, _, _ => rfl
  | f + 1, s, h => by
    simp only [zcQ, zto]
    rw [zsO f _ (by rw [BitVec.toNat_and]; exact Nat.lt_of_le_of_lt Nat.and_le_left h)]
    have : Go.Lib.ctz 64 s.toNat ≤ 64 := zAp ⟨s.toNat, h⟩
    have e : w64 (tz s + 1) = ((Go.Lib.ctz 64 s.toNat : Nat) : Int) + 1 := by
      unfold tz
      exact yA (by omega) (by omega)
    rw [e]
theorem zq4 : ∀ (l acc : List Int), (acc.length + l.length) < 4294967296 → ZP zf6 l (acc, ()) = some (acc ++ l, ())
  | [], acc, _ => by simp [ZP]
  | a :: l, acc, h => by
    simp only [List.length_cons] at h
    rw [ZP, zpF, y0 (by simp; omega), Option.bind_some, Option.bind_some, zq4 l _ (by simp; omega)]
    simp
theorem zxd (s : BitVec 64) : (ze5 s).length ≤ 6 := by
  unfold ze5
  rw [List.length_map]
  exact Nat.le_trans (List.length_filter_le _ _) (by simp)
theorem zx0 {s : BitVec 64} (h : s &&& ~~~63#64 = 0#64) : zlK s = some (ze5 s, ()) := by
  obtain ⟨t, rfl⟩ := zt1 h
  have e : zno (BitVec.ofNat 64 t.1) = some (ze5 (BitVec.ofNat 64 t.1)) := by
    show zcQ 66 _ = _
    rw [zsO 66 _ (by simp; omega), zvj t]; rfl
  have := zxd (BitVec.ofNat 64 t.1)
  rw [zs9, zs4, Option.bind_some, e, Option.bind_some, zq4 _ _ (by simp; omega)]
  rfl
theorem zqb (n : Nat) (hn : 1 ≤ n) : ∀ (f : Nat) (l : List Int), (ZF n f l).length ≤ l.length
  | 0, l => by simp [ZF]
  | f + 1, [] => by simp [ZF]
  | f + 1, x :: l => by
    have := zqb n hn f ((x :: l).drop n)
    simp only [ZF, List.length_cons, List.length_drop] at this ⊢
    omega
theorem zjT (n : Nat) : ∀ (f : Nat) (l c : List Int), c ∈ ZF n f l → c.length ≤ l.length
  | 0, l, c, h => by simp [ZF] at h
  | f + 1, [], c, h => by simp [ZF] at h
  | f + 1, x :: l, c, h => by
    simp only [ZF, List.mem_cons] at h
    rcases h with rfl | h
    · rw [List.length_take]; exact Nat.min_le_right _ _
    · have := zjT n f _ c h
      simp only [List.length_drop] at this
      omega
def Ug (p : zd) (w : Nat) : zg := ⟨0, 0, 0, (w : Int) + 1, 0, [], ⟨2, 0, uf p ((w : Int) + 1), p.Cap, 0#64, 0#64, 0, 0⟩, ⟨0, 0, 0, 0, 0#64, 0, 0, 0⟩, ⟨0, 0, 0, 0, ⟨0, 0, 0, 0, 0#64, 0#64, 0, 0⟩, ⟨0, 0, 0, 0, 0#64, 0, 0, 0⟩, 0, 0⟩⟩
def WW (p : zd) (k : Nat) : List (BitVec 64) := (List.range k).flatMap fun _ => zkt p.Cap
theorem zqI (c : Int) : (zkt c).length = c.toNat + 2 := by unfold zkt; rw [List.length_append, List.length_replicate]; exact Nat.add_comm _ _
theorem zo1 (p : zd) (k : Nat) : WW p (k + 1) = WW p k ++ zkt p.Cap := by unfold WW; rw [List.range_succ, List.flatMap_append]; simp
theorem zgv (p : zd) : ∀ k, (WW p k).length = k * (p.Cap.toNat + 2)
  | 0 => by simp [WW]
  | k + 1 => by rw [zo1, List.length_append, zgv p k, zqI, Nat.succ_mul]
theorem zAb {p : zd} {s1 : BitVec 64} {s5 : Int} {s6 : Int} {s7 : Int} {s8 : Int} {s9 : Int} {s10 : Int} {s11 : Int} {s12 : Int} {s13 : Int} {s14 : BitVec 64} {s15 : Int} {s16 : zr} {s17 : Int} {s18 : Int} {s19 : Bool} {s20 : Bool} {s21 : Int} {s22 : Int} {s23 : Int} {s24 : Int} {s25 : zu} {s26 : zd} {s27 : Int} {s28 : zr} {s29 : Int} {s30 : Int} {s31 : Bool} {s32 : Bool} {s33 : Int} {s34 : zq} {s35 : zu} {s36 : List (List Int)} {s37 : List (List Int)} {s38 : List (List zi)} {s39 : List zj} {s40 : List (List Int)} {s41 : List (BitVec 64)} {s42 : List (List Int)} {s43 : List Int} {s44 : List Int} {s45 : List zg} {s46 : List zc} {s47 : List (List Int)} {s49 : List (List Int)} {s50 : List Int} {s52 : List zc} (hp : z7 p) :
    zU zaM (s1, p.Workers, 0, p, s5, s6, s7, s8, s9, s10, s11, s12, s13, s14, s15, s16, s17, s18, s19, s20, s21, s22, s23, s24, s25, s26, s27, s28, s29, s30, s31, s32, s33, s34, s35, s36, s37, s38, s39, s40, s41, s42, s43, s44, s45, s46, s47, [], s49, s50, [], s52, ()) = some (.brk (s1, p, s5, s6, s7, s8, s9, s10, s11, s12, s13, s14, s15, s16, s17, s18, s19, s20, s21, s22, s23, s24, s25, s26, s27, s28, s29, s30, s31, s32, s33, s34, s35, s36, s37, s38, s39, s40, s41, s42, s43, s44, s45, s46, s47, (WW p p.Workers.toNat), s49, s50, ((List.range p.Workers.toNat).map (Ug p)), s52, ())) := by
  have hw := hp.wk
  have hc := hp.cap
  refine (Zs (f := zaM) (fun a => ∃ i : Nat, a = (s1, p.Workers, (i : Int), p, s5, s6, s7, s8, s9, s10, s11, s12, s13, s14, s15, s16, s17, s18, s19, s20, s21, s22, s23, s24, s25, s26, s27, s28, s29, s30, s31, s32, s33, s34, s35, s36, s37, s38, s39, s40, s41, s42, s43, s44, s45, s46, s47, (WW p i), s49, s50, ((List.range i).map (Ug p)), s52, ()) ∧ (i : Int) ≤ p.Workers) (fun a => (p.Workers - a.2.2.1).toNat) (fun o => o = .brk (s1, p, s5, s6, s7, s8, s9, s10, s11, s12, s13, s14, s15, s16, s17, s18, s19, s20, s21, s22, s23, s24, s25, s26, s27, s28, s29, s30, s31, s32, s33, s34, s35, s36, s37, s38, s39, s40, s41, s42, s43, s44, s45, s46, s47, (WW p p.Workers.toNat), s49, s50, ((List.range p.Workers.toNat).map (Ug p)), s52, ())) ?_ (s1, p.Workers, 0, p, s5, s6, s7, s8, s9, s10, s11, s12, s13, s14, s15, s16, s17, s18, s19, s20, s21, s22, s23, s24, s25, s26, s27, s28, s29, s30, s31, s32, s33, s34, s35, s36, s37, s38, s39, s40, s41, s42, s43, s44, s45, s46, s47, [], s49, s50, [], s52, ()) ⟨0, rfl, by omega⟩ (xG (by dsimp only; omega))).elim fun o h => ?_
  rotate_left
  · rw [h.1, h.2]
  · rintro _ ⟨i, rfl, hi⟩
    rw [zol, zk]
    by_cases hlt : (i : Int) < p.Workers
    · have hl := zgv p i
      have hl2 := zqI p.Cap
      have hb : i * (p.Cap.toNat + 2) ≤ 3 * 5 := Nat.mul_le_mul (by omega) (by omega)
      rw [if_pos hlt, zvi hc.1 (by omega), Option.bind_some, y0 (l := WW p i ++ zkt p.Cap) (by rw [List.length_append]; omega), Option.bind_some, ze4, Option.bind_some, Vn, Option.bind_some, y0 (by simp <;> omega), Option.bind_some, yb (by omega)]
      refine ⟨_, rfl, ⟨i + 1, ?_, by omega⟩, ?_⟩
      · rw [zo1, List.range_succ, List.map_append]; rfl
      · show (p.Workers - ((i + 1 : Nat) : Int)).toNat < (p.Workers - (i : Int)).toNat
        omega
    · rw [if_neg hlt]
      have : i = p.Workers.toNat := by omega
      subst this
      exact ⟨_, rfl, rfl⟩
def YP (k : Nat) : List Int := (List.range k).map fun i : Nat => (i : Int) + 1
theorem ztv (k : Nat) : (YP k).length = k := by simp [YP]
theorem zzi {b : Int} {s1 : BitVec 64} {s4 : zd} {s5 : Int} {s6 : Int} {s7 : Int} {s8 : Int} {s9 : Int} {s10 : Int} {s11 : Int} {s12 : Int} {s13 : Int} {s14 : BitVec 64} {s15 : Int} {s16 : zr} {s17 : Int} {s18 : Int} {s19 : Bool} {s20 : Bool} {s21 : Int} {s22 : Int} {s23 : Int} {s24 : Int} {s25 : zu} {s26 : zd} {s27 : Int} {s28 : zr} {s29 : Int} {s30 : Int} {s31 : Bool} {s32 : Bool} {s33 : Int} {s34 : zq} {s35 : zu} {s37 : List (List Int)} {s38 : List (List Int)} {s39 : List (List zi)} {s40 : List zj} {s41 : List (List Int)} {s42 : List (BitVec 64)} {s43 : List (List Int)} {s44 : List Int} {s45 : List Int} {s46 : List zg} {s47 : List zc} {s48 : List (List Int)} {s49 : List (BitVec 64)} {s50 : List (List Int)} {s51 : List Int} {s52 : List zg} {s53 : List zc} (hb : 0 ≤ b ∧ b < 1000) :
    zU UP (s1, b, 0, s4, s5, s6, s7, s8, s9, s10, s11, s12, s13, s14, s15, s16, s17, s18, s19, s20, s21, s22, s23, s24, s25, s26, s27, s28, s29, s30, s31, s32, s33, s34, s35, [], s37, s38, s39, s40, s41, s42, s43, s44, s45, s46, s47, s48, s49, s50, s51, s52, s53, ()) = some (.brk (s1, s4, s5, s6, s7, s8, s9, s10, s11, s12, s13, s14, s15, s16, s17, s18, s19, s20, s21, s22, s23, s24, s25, s26, s27, s28, s29, s30, s31, s32, s33, s34, s35, (YP b.toNat), s37, s38, s39, s40, s41, s42, s43, s44, s45, s46, s47, s48, s49, s50, s51, s52, s53, ())) := by
  refine (Zs (f := UP) (fun a => ∃ i : Nat, a = (s1, b, (i : Int), s4, s5, s6, s7, s8, s9, s10, s11, s12, s13, s14, s15, s16, s17, s18, s19, s20, s21, s22, s23, s24, s25, s26, s27, s28, s29, s30, s31, s32, s33, s34, s35, (YP i), s37, s38, s39, s40, s41, s42, s43, s44, s45, s46, s47, s48, s49, s50, s51, s52, s53, ()) ∧ (i : Int) ≤ b) (fun a => (b - a.2.2.1).toNat) (fun o => o = .brk (s1, s4, s5, s6, s7, s8, s9, s10, s11, s12, s13, s14, s15, s16, s17, s18, s19, s20, s21, s22, s23, s24, s25, s26, s27, s28, s29, s30, s31, s32, s33, s34, s35, (YP b.toNat), s37, s38, s39, s40, s41, s42, s43, s44, s45, s46, s47, s48, s49, s50, s51, s52, s53, ())) ?_ (s1, b, 0, s4, s5, s6, s7, s8, s9, s10, s11, s12, s13, s14, s15, s16, s17, s18, s19, s20, s21, s22, s23, s24, s25, s26, s27, s28, s29, s30, s31, s32, s33, s34, s35, [], s37, s38, s39, s40, s41, s42, s43, s44, s45, s46, s47, s48, s49, s50, s51, s52, s53, ()) ⟨0, rfl, by omega⟩ (xG (by dsimp only; omega))).elim fun o h => ?_
  rotate_left
  · rw [h.1, h.2]
  · rintro _ ⟨i, rfl, hi⟩
    rw [znu, zk]
    by_cases hlt : (i : Int) < b
    · have := ztv i
      rw [if_pos hlt, y0 (by rw [List.length_append]; simp; omega), Option.bind_some, yb (by omega)]
      refine ⟨_, rfl, ⟨i + 1, ?_, by omega⟩, ?_⟩
      · unfold YP; rw [List.range_succ, List.map_append]; rfl
      · show (b - ((i + 1 : Nat) : Int)).toNat < (b - (i : Int)).toNat
        omega
    · rw [if_neg hlt]
      have : i = b.toNat := by omega
      subst this
      exact ⟨_, rfl, rfl⟩
theorem zvo {s1 : zd} {s2 : Int} {s3 : Int} {s4 : Int} {s5 : Int} {s6 : Int} {s7 : Int} {s8 : Int} {s9 : Int} {s10 : Int} {s11 : BitVec 64} {s12 : Int} {s13 : zr} {s14 : Int} {s15 : Int} {s16 : Bool} {s17 : Bool} {s18 : Int} {s19 : Int} {s20 : Int} {s21 : Int} {s22 : zu} {s23 : zd} {s24 : Int} {s25 : zr} {s26 : Int} {s27 : Int} {s28 : Bool} {s29 : Bool} {s30 : Int} {s31 : zq} {s32 : zu} {s33 : List Int} {s34 : List (List Int)} {s35 : List (List Int)} {s36 : List (List zi)} {s37 : List zj} {s38 : List (List Int)} {s39 : List (BitVec 64)} {s40 : List (List Int)} {s41 : List Int} {s42 : List Int} {s43 : List zg} {s44 : List zc} {s45 : List (List Int)} {s46 : List (BitVec 64)} {s48 : List Int} {s49 : List zg} {s50 : List zc} : ∀ (ys acc : List (List Int)), acc.length + ys.length < 1000000 → (∀ c ∈ ys, c.length < 1000000) → ZP zc6 ys (s1, s2, s3, s4, s5, s6, s7, s8, s9, s10, s11, s12, s13, s14, s15, s16, s17, s18, s19, s20, s21, s22, s23, s24, s25, s26, s27, s28, s29, s30, s31, s32, s33, s34, s35, s36, s37, s38, s39, s40, s41, s42, s43, s44, s45, s46, acc, s48, s49, s50, ()) = some (s1, s2, s3, s4, s5, s6, s7, s8, s9, s10, s11, s12, s13, s14, s15, s16, s17, s18, s19, s20, s21, s22, s23, s24, s25, s26, s27, s28, s29, s30, s31, s32, s33, s34, s35, s36, s37, s38, s39, s40, s41, s42, s43, s44, s45, s46, (acc ++ ys), s48, s49, s50, ())
  | [], acc, _, _ => by simp [ZP]
  | y :: ys, acc, h, hc => by
    simp only [List.length_cons] at h
    have hy := hc y (List.mem_cons_self ..)
    rw [ZP, znY, zlt (by omega), Option.bind_some, y0 (by simp <;> omega), Option.bind_some, Option.bind_some, zvo ys _ (by simp <;> omega) (fun c h' => hc c (List.mem_cons_of_mem _ h'))]
    simp
def uO (r : List Int) : zc := ⟨0, 0, 0, 0, 0, 0, 0, 0, r, [], [], ⟨0, 0, 0, 0, 0#64, 0, 0, 0⟩, ⟨0, 0, 0, 0, ⟨0, 0, 0, 0, 0#64, 0#64, 0, 0⟩, ⟨0, 0, 0, 0, 0#64, 0, 0, 0⟩, 0, 0⟩⟩
theorem zzv {p : zd} {s4 : Int} {s5 : Int} {s6 : Int} {s7 : Int} {s8 : Int} {s9 : Int} {s10 : Int} {s11 : Int} {s12 : Int} {s13 : BitVec 64} {s14 : Int} {s15 : zr} {s16 : Int} {s17 : Int} {s18 : Bool} {s19 : Bool} {s20 : Int} {s21 : Int} {s22 : Int} {s23 : Int} {s24 : zu} {s25 : zd} {s26 : Int} {s27 : List (BitVec 64)} {s28 : zr} {s29 : Int} {s30 : Int} {s31 : Bool} {s32 : Bool} {s33 : Int} {s34 : zq} {s35 : zu} {s36 : List (List Int)} {s37 : List (List Int)} {s38 : List (List zi)} {s39 : List zj} {s40 : List (List Int)} {s41 : List (BitVec 64)} {s42 : List (List Int)} {s43 : List Int} {s44 : List Int} {s45 : List zg} {s46 : List zc} {s47 : List (List Int)} {s48 : List (List Int)} {s49 : List Int} {s50 : List zg} (hl : p.Regs.length < 1000000) (hr : ∀ r ∈ p.Regs, r.length < 1000000) :
    zU UX (p.Regs, (p.Regs.length : Int), 0, s4, s5, s6, s7, s8, s9, s10, s11, s12, s13, s14, s15, s16, s17, s18, s19, s20, s21, s22, s23, s24, s25, s26, s27, s28, s29, s30, s31, s32, s33, s34, s35, s36, s37, s38, s39, s40, s41, s42, s43, s44, s45, s46, s47, s48, s49, s50, [], ()) = some (.brk (s4, s5, s6, s7, s8, s9, s10, s11, s12, s13, s14, s15, s16, s17, s18, s19, s20, s21, s22, s23, s24, s25, s26, s27, s28, s29, s30, s31, s32, s33, s34, s35, s36, s37, s38, s39, s40, s41, s42, s43, s44, s45, s46, s47, s48, s49, s50, (p.Regs.map uO), ())) := by
  refine (Zs (f := UX) (fun a => ∃ i : Nat, a = (p.Regs, (p.Regs.length : Int), (i : Int), s4, s5, s6, s7, s8, s9, s10, s11, s12, s13, s14, s15, s16, s17, s18, s19, s20, s21, s22, s23, s24, s25, s26, s27, s28, s29, s30, s31, s32, s33, s34, s35, s36, s37, s38, s39, s40, s41, s42, s43, s44, s45, s46, s47, s48, s49, s50, ((p.Regs.take i).map uO), ()) ∧ i ≤ p.Regs.length) (fun a => p.Regs.length - a.2.2.1.toNat) (fun o => o = .brk (s4, s5, s6, s7, s8, s9, s10, s11, s12, s13, s14, s15, s16, s17, s18, s19, s20, s21, s22, s23, s24, s25, s26, s27, s28, s29, s30, s31, s32, s33, s34, s35, s36, s37, s38, s39, s40, s41, s42, s43, s44, s45, s46, s47, s48, s49, s50, (p.Regs.map uO), ())) ?_ (p.Regs, (p.Regs.length : Int), 0, s4, s5, s6, s7, s8, s9, s10, s11, s12, s13, s14, s15, s16, s17, s18, s19, s20, s21, s22, s23, s24, s25, s26, s27, s28, s29, s30, s31, s32, s33, s34, s35, s36, s37, s38, s39, s40, s41, s42, s43, s44, s45, s46, s47, s48, s49, s50, [], ()) ⟨0, rfl, by omega⟩ (xG (by dsimp only; omega))).elim fun o h => ?_
  rotate_left
  · rw [h.1, h.2]
  · rintro _ ⟨i, rfl, hi⟩
    rw [zm6, zk]
    rcases Nat.lt_or_ge i p.Regs.length with hlt | hge
    · have hx := List.getElem?_eq_getElem hlt
      have hh := hr _ (List.getElem_mem hlt)
      rw [if_pos (by omega), z3 hx, Option.bind_some, zlt (by omega), Option.bind_some, y0 (by simp <;> omega), Option.bind_some, yb (by omega)]
      refine ⟨_, rfl, ⟨i + 1, ?_, hlt⟩, ?_⟩
      · rw [List.take_add_one, hx, List.map_append]; rfl
      · show p.Regs.length - ((i + 1 : Nat) : Int).toNat < p.Regs.length - (i : Int).toNat
        omega
    · rw [if_neg (by omega)]
      have : i = p.Regs.length := by omega
      subst this
      exact ⟨_, rfl, by rw [List.take_length]⟩
def xu (p : zd) : Nat := (p.Most + p.Workers + p.Mutators).toNat
def uX (p : zd) : List (List Int) := ZF p.Bin.toNat (ze5 (Va p)).length (ze5 (Va p))
def zbp (p : zd) : zb :=
  { P := p, H := p.H,
    M := zlS (zlS (WW p p.Workers.toNat ++ List.replicate (2 + xu p) 0#64) (wj p) (yK p) ((YP (xu p)).take (uX p).length)) (yK p) (yK p) ((YP (xu p)).drop (uX p).length),
    Bins := [[]] ++ uX p ++ List.replicate (xu p - (uX p).length) [],
    T := ⟨Va p, 0#64⟩, Work := cnt (Va p), Epoch := 0, Flag := false, Done := false, Restarts := 0,
    Acks := List.replicate p.Mutators.toNat 0, L := ⟨0, 0, 0, List.replicate p.Mutators.toNat 0⟩,
    Ws := (List.range p.Workers.toNat).map (Ug p), Ms := p.Regs.map uO, D := ⟨0, 0⟩ }
theorem zAK : ∀ r : Fin 7, bit (r.1 : Int) &&& ~~~63#64 = 0#64 := by decide
theorem zwI {r n : Int} (h : 0 ≤ r) (h2 : r ≤ n) (h3 : n ≤ 6) : bit r &&& ~~~zb3 n = 0#64 := by
  have := zsu ⟨r.toNat, by omega⟩ ⟨n.toNat, by omega⟩ (by show r.toNat ≤ n.toNat; omega)
  simpa [Int.toNat_of_nonneg h, Int.toNat_of_nonneg (show 0 ≤ n by omega)] using this
theorem zuN {a b c : BitVec 64} (ha : a &&& ~~~c = 0#64) (hb : b &&& ~~~c = 0#64) : (a ||| b) &&& ~~~c = 0#64 := by
  apply BitVec.eq_of_getLsbD_eq
  intro i hi
  have h1 := congrArg (fun x => x.getLsbD i) ha
  have h2 := congrArg (fun x => x.getLsbD i) hb
  simp only [BitVec.getLsbD_and, BitVec.getLsbD_or, BitVec.getLsbD_not, BitVec.getLsbD_zero, hi, decide_true, Bool.true_and] at h1 h2 ⊢
  revert h1 h2
  generalize a.getLsbD i = x
  generalize b.getLsbD i = y
  generalize c.getLsbD i = z
  cases x <;> cases y <;> cases z <;> decide
theorem zv8 {c : BitVec 64} {l : List Int} (h : ∀ o ∈ l, bit o &&& ~~~c = 0#64) : ∀ (z : BitVec 64), z &&& ~~~c = 0#64 → l.foldl (fun s o => s ||| bit o) z &&& ~~~c = 0#64 := by
  induction l with
  | nil => intro z hz; exact hz
  | cons a l ih => intro z hz; exact ih (fun o ho => h o (List.mem_cons_of_mem _ ho)) _ (zuN hz (h a (List.mem_cons_self ..)))
theorem zoY {p : zd} (h : z7 p) : Va p &&& ~~~zb3 (p.H.Objs.length : Int) = 0#64 := by
  have hn := h.n
  have key : ∀ (L : List (List Int)) (z : BitVec 64), (∀ r ∈ L, ∀ v ∈ r, 0 ≤ v ∧ v ≤ (p.H.Objs.length : Int)) → z &&& ~~~zb3 (p.H.Objs.length : Int) = 0#64 → L.foldl (fun s l => s ||| zqp l) z &&& ~~~zb3 (p.H.Objs.length : Int) = 0#64 := by
    intro L
    induction L with
    | nil => intro z _ hz; exact hz
    | cons r L ih =>
      intro z hr hz
      refine ih _ (fun r' h' => hr r' (List.mem_cons_of_mem _ h')) (zuN hz (zv8 (fun o ho => ?_) _ (by simp)))
      have := hr r (List.mem_cons_self ..) o ho
      exact zwI this.1 this.2 hn.2
  exact key _ _ (fun r hr => (h.reg r hr).2) (zo0 h)
theorem zvd {a b c : BitVec 64} (h : a &&& ~~~b = 0#64) (h2 : b &&& ~~~c = 0#64) : a &&& ~~~c = 0#64 := by
  apply BitVec.eq_of_getLsbD_eq
  intro i hi
  have h1 := congrArg (fun x => x.getLsbD i) h
  have h2 := congrArg (fun x => x.getLsbD i) h2
  simp only [BitVec.getLsbD_and, BitVec.getLsbD_not, BitVec.getLsbD_zero, hi, decide_true, Bool.true_and] at h1 h2 ⊢
  revert h1 h2
  generalize a.getLsbD i = x
  generalize b.getLsbD i = y
  generalize c.getLsbD i = z
  cases x <;> cases y <;> cases z <;> decide
theorem zvb : ∀ n : Fin 7, zb3 (n.1 : Int) &&& ~~~63#64 = 0#64 := by decide
theorem zo2 {p : zd} (h : z7 p) : Va p &&& ~~~63#64 = 0#64 := by
  have hn := h.n
  refine zvd (zoY h) ?_
  exact zvb ⟨p.H.Objs.length, by omega⟩
theorem zvQ : ∀ (n : Fin 7) (t : Fin 64), BitVec.ofNat 64 t.1 &&& ~~~zb3 (n.1 : Int) = 0#64 → (ze5 (BitVec.ofNat 64 t.1)).length ≤ n.1 := by decide +kernel
theorem znJ {p : zd} (h : z7 p) : (ze5 (Va p)).length ≤ p.H.Objs.length := by
  have hn := h.n
  obtain ⟨t, ht⟩ := zt1 (zo2 h)
  have h2 := zoY h
  rw [ht] at h2 ⊢
  exact zvQ ⟨p.H.Objs.length, by omega⟩ t h2
theorem zuO {p : zd} (h : z7 p) : (uX p).length ≤ p.H.Objs.length := by
  have hb := h.bin
  exact Nat.le_trans (zqb _ (by omega) _ _) (znJ h)
theorem zsB {p : zd} (h : z7 p) : ze1 p = some (zbp p, ()) := by
  have hw := h.wk
  have hc := h.cap
  have hm := h.mt
  have hb := h.bin
  have hn := h.n
  have hmo := h.most
  have hrl := h.regs
  have hreg : ∀ r ∈ p.Regs, r.length < 1000000 := fun r hr => by have := (h.reg r hr).1; omega
  have hobj : ∀ o ∈ p.H.Objs, o.length < 1000000 := fun o ho => by have := (h.objs o ho).1; have := h.slots; omega
  have hfl := zuO h
  have hgl := znJ h
  have hcl := zgv p p.Workers.toNat
  have hcb : p.Workers.toNat * (p.Cap.toNat + 2) ≤ 3 * 5 := Nat.mul_le_mul (by omega) (by omega)
  have hbn : (xu p : Int) = p.Most + p.Workers + p.Mutators := by unfold xu; omega
  have eb : zeU p = some ((xu p : Int), ()) := by
    rw [zrB, yA (a := p.Most + p.Workers) (by omega) (by omega), yA (by omega) (by omega), hbn]
  have hul := ztv (xu p)
  have ec : V1 (ze5 (Va p)) p.Bin = some (uX p) := by
    show zg8 _ _ = _
    unfold zg8 uX
    have c1 : (decide (1 ≤ p.Bin) && decide (p.Bin < 1000000) && decide (((ze5 (Va p)).length : Int) < 1000000)) = true := by simp <;> omega
    rw [c1]; rfl
  have cut1 : cut (YP (xu p)) 0 ((uX p).length : Int) = some ((YP (xu p)).take (uX p).length) := by
    unfold cut
    have : ((uX p).length : Int) ≤ ((YP (xu p)).length : Int) := by omega
    simp [this]
  have cut2 : cut (YP (xu p)) ((uX p).length : Int) ((YP (xu p)).length : Int) = some ((YP (xu p)).drop (uX p).length) := by
    unfold cut
    have : ((uX p).length : Int) ≤ ((YP (xu p)).length : Int) := by omega
    simp [this]
  rw [zrH, zwl h]
  simp only [Option.bind_some, Bool.not_true, cond_false]
  rw [zww (by omega) hreg]
  simp only [Option.bind_some, zxf, zwF hm.1 (show p.Mutators ≤ 16 by omega)]
  rw [zxb (by omega) hobj]
  simp only [Option.bind_some]
  rw [zAb h]
  simp only [Option.bind_some, eb]
  have e3 : (2 + (xu p : Int)).toNat = 2 + xu p := by omega
  rw [yA (a := 2 + (xu p : Int)) (by omega) (by omega), zsR (by omega) (by omega), e3, Option.bind_some, y0 (l := WW p p.Workers.toNat ++ List.replicate (2 + xu p) 0#64) (by simp <;> omega), Option.bind_some, zzi (by omega)]
  dsimp only [Option.bind_some]
  rw [Int.toNat_natCast, zx0 (zo2 h), Option.bind_some, zfP, zk, if_neg (by omega), Option.bind_some, ec, Option.bind_some, zvo _ _ (by simp <;> omega) (fun c hc' => by have := zjT _ _ _ _ hc'; omega)]
  dsimp only [Option.bind_some]
  have e1 : w64 ((([[]] ++ uX p : List (List Int)).length : Int) - 1) = ((uX p).length : Int) := by
    rw [yA (by simp <;> omega) (by simp <;> omega)]; simp
  have e2 : w64 (((YP (xu p)).length : Int) - ((uX p).length : Int)) = ((xu p - (uX p).length : Nat) : Int) := by
    rw [yA (by omega) (by omega)]; omega
  rw [e1, e2, zsR (by omega) (by omega), Int.toNat_natCast, Option.bind_some, y0 (by simp <;> omega), Option.bind_some, zgy, Option.bind_some, zdq, Option.bind_some, cut1, Option.bind_some, zsv (by simp <;> omega) (by simp <;> omega), Option.bind_some, zeT, Option.bind_some, Option.bind_some, cut2, Option.bind_some, zsv (by rw [zpq]; simp <;> omega) (by simp <;> omega), Option.bind_some, decide_true, cond_true, zhR hm.1 (show p.Mutators < 4294967296 by omega), Option.bind_some, zzv (by omega) hreg]
  rfl
end
end Go.Pe.G
namespace Go.Pe.G
open Go.Pe
noncomputable section
theorem zje (h : BitVec 64) : yY h = ((h.toNat % 4294967296 : Nat) : Int) := by
  unfold yY
  have e : (h &&& 4294967295#64).toNat = h.toNat % 4294967296 := by
    rw [BitVec.toNat_and]
    exact Nat.and_two_pow_sub_one_eq_mod h.toNat 32
  rw [BitVec.toInt_eq_toNat_cond, e]
  omega
theorem zsI (h : BitVec 64) : 0 ≤ yY h ∧ yY h < 4294967296 := by rw [zje]; omega
theorem zsL (v : BitVec 64) {n : Int} (h : 0 ≤ n) (h2 : n < 4294967296) : yY (vW v n) = n := by
  rw [zje]
  unfold vW
  rw [BitVec.toNat_or, BitVec.toNat_and, BitVec.toNat_shiftLeft]
  have e1 : (v.toNat <<< 32 % 2 ^ 64 ||| (BitVec.ofInt 64 n).toNat &&& (4294967295#64).toNat) % 2 ^ 32 = (v.toNat <<< 32 % 2 ^ 64) % 2 ^ 32 ||| ((BitVec.ofInt 64 n).toNat &&& (4294967295#64).toNat) % 2 ^ 32 := Nat.or_mod_two_pow
  have e2 : v.toNat <<< 32 % 2 ^ 64 % 2 ^ 32 = 0 := by rw [Nat.shiftLeft_eq]; omega
  have e3 : (BitVec.ofInt 64 n).toNat &&& (4294967295#64).toNat = n.toNat := by
    have : (BitVec.ofInt 64 n).toNat = n.toNat := by rw [BitVec.toNat_ofInt]; omega
    rw [this]
    exact (Nat.and_two_pow_sub_one_eq_mod n.toNat 32).trans (Nat.mod_eq_of_lt (by omega))
  rw [show (4294967296 : Nat) = 2 ^ 32 from rfl, e1, e2, e3, Nat.zero_or, Nat.mod_eq_of_lt (by omega)]
  omega
theorem zoP {n : Int} (h : 0 ≤ n) (h2 : n < 4294967296) : (BitVec.ofInt 64 n).toInt = n := by
  have e : (BitVec.ofInt 64 n).toNat = n.toNat := by rw [BitVec.toNat_ofInt]; omega
  rw [BitVec.toInt_eq_toNat_cond, e]
  omega
theorem zqR {m : List (BitVec 64)} {a b : Int} {v : BitVec 64} : ld (st m a v) b = if a = b ∧ 0 ≤ a ∧ a < m.length then v else ld m b := by
  unfold ld st
  by_cases hb : 0 ≤ b
  · rw [if_pos hb, if_pos hb]
    by_cases ha : 0 ≤ a
    · rw [if_pos ha, List.getD_eq_getElem?_getD, List.getD_eq_getElem?_getD, List.getElem?_set]
      by_cases hab : a.toNat = b.toNat
      · have e : a = b := by omega
        subst e
        by_cases hl : a.toNat < m.length
        · rw [if_pos rfl, if_pos hl, if_pos ⟨rfl, ha, by omega⟩]; rfl
        · rw [if_pos rfl, if_neg hl, if_neg (by omega), List.getElem?_eq_none (by omega)]
      · rw [if_neg hab, if_neg (by omega)]
    · rw [if_neg ha, if_neg (by omega)]
  · rw [if_neg hb, if_neg hb, if_neg (by omega)]
theorem zei {m : List (BitVec 64)} {a b : Int} {v : BitVec 64} (h : a ≠ b) : ld (st m a v) b = ld m b := by
  rw [zqR, if_neg (fun h' => h h'.1)]
theorem zcP {p : zd} (h : z7 p) : wj p = p.Workers * (p.Cap + 2) ∧ 3 ≤ wj p ∧ wj p ≤ 15 := by
  have hw := h.wk
  have hc := h.cap
  unfold wj
  rw [Yh (a := p.Cap + 2) (by omega) (by omega)]
  have hx : p.Workers = 1 ∨ p.Workers = 2 ∨ p.Workers = 3 := by omega
  rcases hx with hx | hx | hx <;> rw [hx, Yh (by omega) (by omega)] <;> omega
theorem zek {p : zd} (h : z7 p) : yK p = wj p + 1 := by
  have := zcP h
  unfold yK
  rw [Yh (by omega) (by omega)]
theorem zpG {p : zd} (h : z7 p) {w : Int} (h1 : 1 ≤ w) (h2 : w ≤ p.Workers) : uf p w = (w - 1) * (p.Cap + 2) ∧ 0 ≤ uf p w ∧ uf p w + p.Cap + 2 ≤ wj p := by
  have hw := h.wk
  have hc := h.cap
  have hf := (zcP h).1
  unfold uf
  rw [Yh (a := p.Cap + 2) (by omega) (by omega), Yh (a := w - 1) (by omega) (by omega)]
  have hx : p.Workers = 1 ∨ p.Workers = 2 ∨ p.Workers = 3 := by omega
  have hy : w = 1 ∨ w = 2 ∨ w = 3 := by omega
  rw [hf]
  rcases hx with hx | hx | hx <;> rcases hy with hy | hy | hy <;> first | omega | (rw [hx, hy, Yh (by omega) (by omega)] <;> omega)
theorem zx6 {p : zd} (h : z7 p) {d : zh} {w : Int} (h1 : 1 ≤ w) (h2 : w ≤ p.Workers) (hb : d.Base = uf p w) (hc : d.Cap = p.Cap) (i : BitVec 64) :
    zb0 d i = d.Base + 2 + ((i.toNat % p.Cap.toNat : Nat) : Int) ∧ d.Base + 2 ≤ zb0 d i ∧ zb0 d i < d.Base + 2 + p.Cap := by
  have hcp := h.cap
  have hd := zpG h h1 h2
  have hf := zcP h
  have hs : (VM d).toNat = p.Cap.toNat := by
    unfold VM
    rw [hc, if_neg (by omega), BitVec.toNat_ofInt]
    omega
  have hlt : i.toNat % p.Cap.toNat < p.Cap.toNat := Nat.mod_lt _ (by omega)
  have hm : (i % VM d).toInt = ((i.toNat % p.Cap.toNat : Nat) : Int) := by
    rw [BitVec.toInt_eq_toNat_cond, BitVec.toNat_umod, hs]
    omega
  unfold zb0
  rw [hm, Yh (a := d.Base + 2) (by omega) (by omega), Yh (by omega) (by omega)]
  omega
structure SOk (p : zd) (nb : Nat) (s : zb) : Prop where
  P : s.P = p
  bins : s.Bins.length = nb
  nbk : 1 ≤ nb ∧ nb < 1000
  mem : s.M.length < 100000
  cF : yY (ld s.M (wj p)) < nb
  cE : yY (ld s.M (yK p)) < nb
  cL : ∀ a, yK p < a → 0 ≤ (ld s.M a).toInt ∧ (ld s.M a).toInt < nb
structure MOk (p : zd) (nb : Nat) (g : zJ) : Prop where
  who : g.Mode = 1 → 1 ≤ g.Who ∧ g.Who ≤ p.Workers
  d3 : g.PC = 3 → g.D.Kind = 1 ∧ g.D.Base = uf p g.Who ∧ g.D.Cap = p.Cap ∧ g.Mode = 1
  c5 : g.PC = 5 → g.C.Kind = 2 ∧ g.C.Head = yK p ∧ g.C.Next = yK p ∧ (1 ≤ g.C.PC → 1 ≤ yY g.C.H ∧ yY g.C.H < nb) ∧ (2 ≤ g.C.PC → 0 ≤ g.C.Y ∧ g.C.Y < nb)
  b6 : g.PC = 6 → 1 ≤ g.Bin ∧ g.Bin < nb
  c7 : g.PC = 7 → g.C.Kind = 1 ∧ g.C.Head = wj p ∧ g.C.Next = yK p ∧ (1 ≤ g.C.X ∧ g.C.X < nb) ∧ (1 ≤ g.C.PC → yY g.C.H < nb)
theorem SOk.gok {p : zd} {nb : Nat} {s : zb} {g : zJ} (h : z7 p) (S : SOk p nb s) (M : MOk p nb g) : GOk s g := by
  have hc := h.cap
  refine ⟨by have := S.mem; omega, by have := S.bins; have := S.nbk; omega, fun h6 => ?_, fun h3 => ?_⟩
  · have := M.b6 h6; have := S.bins; omega
  · obtain ⟨a, b, c, _⟩ := M.d3 h3; exact ⟨a, by omega⟩
theorem SOk.low {p : zd} {nb : Nat} {s : zb} (h : z7 p) (S : SOk p nb s) {a : Int} (ha : a < wj p) (v : BitVec 64) : SOk p nb { s with M := st s.M a v } := by
  have he := zek h
  exact ⟨S.P, S.bins, S.nbk, by simp only [VW]; exact S.mem, by simp only [zei (show a ≠ wj p by omega)]; exact S.cF, by simp only [zei (show a ≠ yK p by omega)]; exact S.cE, fun b hb => by
    simp only [zei (show a ≠ b by omega)]; exact S.cL b hb⟩
theorem SOk.link {p : zd} {nb : Nat} {s : zb} (h : z7 p) (S : SOk p nb s) {a : Int} (ha : yK p < a) {v : BitVec 64} (hv : 0 ≤ v.toInt ∧ v.toInt < nb) : SOk p nb { s with M := st s.M a v } := by
  have he := zek h
  exact ⟨S.P, S.bins, S.nbk, by simp only [VW]; exact S.mem, by simp only [zei (show a ≠ wj p by omega)]; exact S.cF, by simp only [zei (show a ≠ yK p by omega)]; exact S.cE, fun b hb => by
    simp only [zqR]
    split
    · exact hv
    · exact S.cL b hb⟩
theorem SOk.head {p : zd} {nb : Nat} {s : zb} (h : z7 p) (S : SOk p nb s) {a : Int} (ha : a = wj p ∨ a = yK p) {v : BitVec 64} (hv : yY v < nb) : SOk p nb { s with M := st s.M a v } := by
  have he := zek h
  refine ⟨S.P, S.bins, S.nbk, by simp only [VW]; exact S.mem, ?_, ?_, fun b hb => ?_⟩
  · simp only [zqR]
    split
    · exact hv
    · exact S.cF
  · simp only [zqR]
    split
    · exact hv
    · exact S.cE
  · simp only [zei (show a ≠ b by omega)]; exact S.cL b hb
theorem SOk.swap {p : zd} {nb : Nat} {s : zb} (h : z7 p) (S : SOk p nb s) {a : Int} (ha : a = wj p ∨ a = yK p) (x : BitVec 64) {v : BitVec 64} (hv : yY v < nb) : SOk p nb { s with M := (sw s.M a x v).1 } := by
  unfold sw
  split
  · exact S.head h ha hv
  · exact S
theorem zuB {p : zd} {nb : Nat} {s : zb} (h : z7 p) (S : SOk p nb s) {c : zD} {hd : Int} (hdd : hd = wj p ∨ hd = yK p) (hk : c.Kind = 2) (hh : c.Head = hd) (hn : c.Next = yK p)
    (h1 : 1 ≤ c.PC → 1 ≤ yY c.H ∧ yY c.H < nb) (h2 : 2 ≤ c.PC → 0 ≤ c.Y ∧ c.Y < nb) (ho : c.Out ≠ 1) :
    SOk p nb { s with M := (zI s.M c).1 } ∧ (zI s.M c).2.Kind = 2 ∧ (zI s.M c).2.Head = hd ∧ (zI s.M c).2.Next = yK p ∧
    ((zI s.M c).2.Out ≠ 1 → (zI s.M c).2.Out ≠ 2 → (1 ≤ (zI s.M c).2.PC → 1 ≤ yY (zI s.M c).2.H ∧ yY (zI s.M c).2.H < nb) ∧ (2 ≤ (zI s.M c).2.PC → 0 ≤ (zI s.M c).2.Y ∧ (zI s.M c).2.Y < nb)) ∧
    ((zI s.M c).2.Out = 1 → 1 ≤ (zI s.M c).2.X ∧ (zI s.M c).2.X < nb) := by
  have hnb := S.nbk
  have hE := zek h
  have hF := zcP h
  unfold zI
  split
  · exact ⟨S, hk, hh, hn, fun _ _ => ⟨h1, h2⟩, fun e => absurd e ho⟩
  · split
    · rw [hh]
      have n1 := zsI (ld s.M hd)
      have n2 : yY (ld s.M hd) < nb := by
        rcases hdd with e | e <;> rw [e]
        · exact S.cF
        · exact S.cE
      split
      · exact ⟨S, hk, rfl, hn, fun _ h => absurd rfl h, fun e => by cases e⟩
      · rename_i hne
        refine ⟨S, hk, rfl, hn, fun _ _ => ⟨fun _ => ⟨?_, n2⟩, fun e => absurd e (by dsimp only; omega)⟩, fun e => absurd e ho⟩
        have : yY (ld s.M hd) ≠ 0 := fun e => hne ⟨hk, e⟩
        dsimp only
        omega
    · split
      · try rw [if_pos hk]
        have hpc : 1 ≤ c.PC := by omega
        have n1 := h1 hpc
        refine ⟨S, hk, hh, hn, fun _ _ => ⟨fun _ => n1, fun _ => ?_⟩, fun e => absurd e ho⟩
        dsimp only
        rw [hn, Yh (by omega) (by omega)]
        exact S.cL _ (by omega)
      · rename_i g1 g2 g3
        have hpc : c.PC = 2 := by omega
        have n1 := h1 (by omega)
        have n2 := h2 (by omega)
        simp only [if_pos hk]
        refine ⟨S.swap h (by rw [hh]; exact hdd) _ (by rw [zsL _ n2.1 (by omega)]; exact n2.2), ?_⟩
        split
        · exact ⟨hk, hh, hn, fun e => absurd rfl e, fun _ => n1⟩
        · exact ⟨hk, hh, hn, fun _ _ => ⟨fun e => absurd e (by dsimp only; omega), fun e => absurd e (by dsimp only; omega)⟩, fun e => absurd e ho⟩
theorem zrp {p : zd} {nb : Nat} {s : zb} (h : z7 p) (S : SOk p nb s) {c : zD} {hd : Int} (hdd : hd = wj p ∨ hd = yK p) (hk : c.Kind = 1) (hh : c.Head = hd) (hn : c.Next = yK p) (hx : 1 ≤ c.X ∧ c.X < nb)
    (h1 : 1 ≤ c.PC → yY c.H < nb) :
    SOk p nb { s with M := (zI s.M c).1 } ∧ (zI s.M c).2.Kind = 1 ∧ (zI s.M c).2.Head = hd ∧ (zI s.M c).2.Next = yK p ∧ (1 ≤ (zI s.M c).2.X ∧ (zI s.M c).2.X < nb) ∧
    (1 ≤ (zI s.M c).2.PC → yY (zI s.M c).2.H < nb) := by
  have hnb := S.nbk
  have hE := zek h
  have hF := zcP h
  have hk2 : ¬ c.Kind = 2 := by omega
  unfold zI
  split
  · exact ⟨S, hk, hh, hn, hx, h1⟩
  · split
    · rw [if_neg (fun e => hk2 e.1), hh]
      exact ⟨S, hk, rfl, hn, hx, fun _ => hdd.elim (fun e => by dsimp only; rw [e]; exact S.cF) (fun e => by dsimp only; rw [e]; exact S.cE)⟩
    · split
      · try rw [if_neg hk2]
        have hpc : 1 ≤ c.PC := by omega
        have n1 := h1 hpc
        have n2 := zsI c.H
        refine ⟨?_, hk, hh, hn, hx, fun _ => n1⟩
        dsimp only
        rw [hn, Yh (by omega) (by omega)]
        exact S.link h (by omega) (by rw [zoP (by omega) (by omega)]; omega)
      · have n1 := h1 (by omega)
        simp only [if_neg hk2]
        refine ⟨S.swap h (by rw [hh]; exact hdd) _ (by rw [zsL _ (by omega) (by omega)]; exact hx.2), ?_⟩
        split
        · exact ⟨hk, hh, hn, hx, fun _ => n1⟩
        · exact ⟨hk, hh, hn, hx, fun _ => n1⟩
theorem MOk.ask {p : zd} {nb : Nat} {g : zJ} (hw : g.Mode = 1 → 1 ≤ g.Who ∧ g.Who ≤ p.Workers) : MOk p nb (zpr p g) :=
  ⟨hw, fun e => (by cases e), fun _ => ⟨rfl, rfl, rfl, fun e => absurd e (show ¬ (1 : Int) ≤ 0 by decide), fun e => absurd e (show ¬ (2 : Int) ≤ 0 by decide)⟩, fun e => (by cases e), fun e => (by cases e)⟩
theorem zr9 {p : zd} {nb : Nat} {s : zb} {g : zJ} (h : z7 p) (S : SOk p nb s) (M : MOk p nb g) (hout : g.PC = 5 → g.C.Out ≠ 1) : SOk p nb (ya s g).1 ∧ MOk p nb (ya s g).2 ∧ ((ya s g).2.PC = 5 → (ya s g).2.C.Out ≠ 1) := by
  have hP := S.P
  unfold ya
  split
  · exact ⟨S, M, hout⟩
  split
  · rename_i h7
    obtain ⟨a1, a2, a3, a4, a5⟩ := M.c7 h7
    obtain ⟨b1, b2, b3, b4, b5, b6⟩ := zrp h S (.inl rfl) a1 a2 a3 a4 a5
    unfold zey
    refine ⟨b1, ?_, ?_⟩
    · dsimp only
      split <;> exact ⟨M.who, fun e => (by dsimp only at e; omega), fun e => (by dsimp only at e; omega), fun e => (by dsimp only at e; omega), fun _ => ⟨b2, b3, b4, b5, b6⟩⟩
    · dsimp only
      split <;> exact fun e => by dsimp only at e; omega
  split
  · rename_i h6
    obtain ⟨a1, a2⟩ := M.b6 h6
    unfold zyS
    refine ⟨⟨hP, by simp only [List.length_set]; exact S.bins, S.nbk, S.mem, S.cF, S.cE, S.cL⟩, ⟨M.who, fun e => (by cases e), fun e => (by cases e), fun e => (by cases e), fun _ => ⟨rfl, by rw [hP], by rw [hP], ⟨a1, a2⟩, fun e => absurd e (show ¬ (1 : Int) ≤ 0 by decide)⟩⟩, fun e => by cases e⟩
  split
  · rename_i h5
    obtain ⟨a1, a2, a3, a4, a5⟩ := M.c5 h5
    obtain ⟨b1, b2, b3, b4, b5, b6⟩ := zuB h S (.inr rfl) a1 a2 a3 a4 a5 (hout h5)
    unfold zlP
    refine ⟨b1, ?_, ?_⟩
    · dsimp only
      split
      · rename_i e1
        exact ⟨M.who, fun e => (by cases e), fun e => (by cases e), fun _ => b6 e1, fun e => (by cases e)⟩
      · split
        · rw [hP]; exact MOk.ask M.who
        · rename_i e1 e2
          exact ⟨M.who, fun e => (by dsimp only at e; omega), fun _ => ⟨b2, b3, b4, b5 e1 e2⟩, fun e => (by dsimp only at e; omega), fun e => (by dsimp only at e; omega)⟩
    · dsimp only
      split
      · exact fun e => by cases e
      · split
        · exact fun _ e => by cases e
        · rename_i e1 e2; exact fun _ => e1
  split
  · rw [hP]
    exact ⟨⟨rfl, S.bins, S.nbk, S.mem, S.cF, S.cE, S.cL⟩, MOk.ask M.who, fun _ e => by cases e⟩
  split
  · rename_i h3
    obtain ⟨a1, a2, a3, a4⟩ := M.d3 h3
    have hw := M.who a4
    obtain ⟨d1, d2, d3⟩ := zpG h hw.1 hw.2
    have hc := h.cap
    have hf := zcP h
    have hs : SOk p nb { s with M := (wo s.M g.D).1 } := by
      unfold wo
      split
      · exact S
      split
      · exact S
      split
      · exact S
      split
      · have := zx6 h hw.1 hw.2 a2 a3 g.D.B
        exact S.low h (by omega) _
      · dsimp only
        rw [Yh (by omega) (by omega)]
        exact S.low h (by omega) _
    have hd : (wo s.M g.D).2.Kind = 1 ∧ (wo s.M g.D).2.Base = uf p g.Who ∧ (wo s.M g.D).2.Cap = p.Cap := by
      unfold wo
      split
      · exact ⟨a1, a2, a3⟩
      split
      · exact ⟨a1, a2, a3⟩
      split
      · dsimp only
        split <;> exact ⟨a1, a2, a3⟩
      split <;> exact ⟨a1, a2, a3⟩
    unfold zlU
    refine ⟨hs, ?_, ?_⟩
    · dsimp only
      split
      · exact ⟨M.who, fun _ => ⟨hd.1, hd.2.1, hd.2.2, a4⟩, fun e => (by dsimp only at e; omega), fun e => (by dsimp only at e; omega), fun e => (by dsimp only at e; omega)⟩
      · split
        · rw [hP]; exact MOk.ask M.who
        · exact ⟨M.who, fun _ => ⟨hd.1, hd.2.1, hd.2.2, a4⟩, fun e => (by dsimp only at e; omega), fun e => (by dsimp only at e; omega), fun e => (by dsimp only at e; omega)⟩
    · dsimp only
      split
      · exact fun e => by dsimp only at e; omega
      · split
        · exact fun _ e => by cases e
        · exact fun e => by dsimp only at e; omega
  split
  · rename_i h2
    exact ⟨⟨hP, S.bins, S.nbk, S.mem, S.cF, S.cE, S.cL⟩, ⟨M.who, fun e => (by dsimp only at e; omega), fun e => (by dsimp only at e; omega), fun e => (by dsimp only at e; omega), fun e => (by dsimp only at e; omega)⟩, fun e => by dsimp only at e; omega⟩
  split
  · unfold zjj
    refine ⟨⟨hP, S.bins, S.nbk, S.mem, S.cF, S.cE, S.cL⟩, ?_, ?_⟩
    · dsimp only
      split
      · exact ⟨M.who, fun e => (by cases e), fun e => (by cases e), fun e => (by cases e), fun e => (by cases e)⟩
      split
      · exact ⟨M.who, fun _ => ⟨rfl, by rw [hP], by rw [hP], by assumption⟩, fun e => (by cases e), fun e => (by cases e), fun e => (by cases e)⟩
      split
      · exact ⟨M.who, fun e => (by cases e), fun e => (by cases e), fun e => (by cases e), fun e => (by cases e)⟩
      · rw [hP]; exact MOk.ask M.who
    · dsimp only
      split
      · exact fun e => by cases e
      split
      · exact fun e => by cases e
      split
      · exact fun e => by cases e
      · exact fun _ e => by cases e
  · exact ⟨⟨hP, S.bins, S.nbk, S.mem, S.cF, S.cE, S.cL⟩, ⟨M.who, fun e => (by cases e), fun e => (by cases e), fun e => (by cases e), fun e => (by cases e)⟩, fun e => by cases e⟩
theorem zpw (s : zb) (g : zJ) : (ya s g).2.Obj = g.Obj ∧ (ya s g).2.Who = g.Who ∧ (ya s g).2.Mode = g.Mode := by
  unfold ya
  split
  · exact ⟨rfl, rfl, rfl⟩
  split
  · unfold zey; dsimp only; split <;> exact ⟨rfl, rfl, rfl⟩
  split
  · exact ⟨rfl, rfl, rfl⟩
  split
  · unfold zlP; dsimp only
    split
    · exact ⟨rfl, rfl, rfl⟩
    · split <;> exact ⟨rfl, rfl, rfl⟩
  split
  · exact ⟨rfl, rfl, rfl⟩
  split
  · unfold zlU; dsimp only
    split
    · exact ⟨rfl, rfl, rfl⟩
    · split <;> exact ⟨rfl, rfl, rfl⟩
  split
  · exact ⟨rfl, rfl, rfl⟩
  split
  · unfold zjj; dsimp only
    split
    · exact ⟨rfl, rfl, rfl⟩
    split
    · exact ⟨rfl, rfl, rfl⟩
    split <;> exact ⟨rfl, rfl, rfl⟩
  · exact ⟨rfl, rfl, rfl⟩
end
end Go.Pe.G
namespace Go.Pe.G
open Go.Pe
noncomputable section
def OkV (nb : Nat) (v : BitVec 64) : Prop := yY v < nb ∧ 0 ≤ v.toInt ∧ v.toInt < nb
theorem zuh {nb : Nat} (h : 1 ≤ nb) : OkV nb 0#64 := by
  refine ⟨by rw [zje]; simp; omega, by simp, by simp; omega⟩
theorem zrk {nb : Nat} {b : Int} (h : 0 ≤ b) (h2 : b < nb) (h3 : nb < 1000) : OkV nb (BitVec.ofInt 64 b) := by
  have e : (BitVec.ofInt 64 b).toNat = b.toNat := by rw [BitVec.toNat_ofInt]; omega
  refine ⟨by rw [zje, e]; omega, ?_⟩
  rw [zoP h (by omega)]
  omega
theorem zsM {b : Int} (h : 0 ≤ b) (h2 : b < 4294967296) : vW 0#64 b = BitVec.ofInt 64 b := by
  have e : (BitVec.ofInt 64 b).toNat = b.toNat := by rw [BitVec.toNat_ofInt]; omega
  apply BitVec.eq_of_toNat_eq
  unfold vW
  rw [BitVec.toNat_or, BitVec.toNat_and, e]
  have : b.toNat &&& (4294967295#64).toNat = b.toNat := (Nat.and_two_pow_sub_one_eq_mod b.toNat 32).trans (Nat.mod_eq_of_lt (by omega))
  rw [this]
  simp
def YG (F : Int) (nb : Nat) (m : List (BitVec 64)) : Prop := ∀ a, F ≤ a → OkV nb (ld m a)
theorem YG.st {F : Int} {nb : Nat} {m : List (BitVec 64)} (h : YG F nb m) (a : Int) {v : BitVec 64} (hv : OkV nb v) : YG F nb (st m a v) := fun b hb => by
  rw [zqR]
  split
  · exact hv
  · exact h b hb
theorem YG.links {F : Int} {nb : Nat} (h1 : 1 ≤ nb) (h3 : nb < 1000) : ∀ (l : List Int) (m : List (BitVec 64)) (n : Int), (∀ b ∈ l, 0 ≤ b ∧ b < nb) → YG F nb m → YG F nb (links m n l)
  | [], m, n, _, h => h
  | [a], m, n, _, h => h.st _ (zuh h1)
  | a :: b :: l, m, n, hb, h => YG.links h1 h3 (b :: l) _ n (fun x hx => hb x (List.mem_cons_of_mem _ hx)) (h.st _ (zrk (hb b (by simp)).1 (hb b (by simp)).2 h3))
theorem YG.lay {F : Int} {nb : Nat} (h1 : 1 ≤ nb) (h3 : nb < 1000) {l : List Int} {m : List (BitVec 64)} {hd n : Int} (hb : ∀ b ∈ l, 0 ≤ b ∧ b < nb) (h : YG F nb m) : YG F nb (zlS m hd n l) := by
  unfold zlS
  refine (YG.links h1 h3 l m n hb h).st _ ?_
  cases l with
  | nil => rw [List.headD_nil, zsM (by omega) (by omega)]; exact zrk (by omega) (by omega) h3
  | cons a r =>
    have := hb a (by simp)
    rw [List.headD_cons, zsM this.1 (by omega)]
    exact zrk this.1 this.2 h3
theorem zuk {k : Nat} {b : Int} (h : b ∈ YP k) : 1 ≤ b ∧ b ≤ k := by
  unfold YP at h
  obtain ⟨i, hi, rfl⟩ := List.mem_map.1 h
  have := List.mem_range.1 hi
  omega
theorem ztx {p : zd} (h : z7 p) : (xu p : Int) = p.Most + p.Workers + p.Mutators ∧ 2 ≤ xu p ∧ xu p ≤ 14 := by
  have := h.most
  have := h.n
  have := h.wk
  have := h.mt
  unfold xu
  omega
theorem zvL {p : zd} (h : z7 p) : SOk p (xu p + 1) (zbp p) := by
  have hb := ztx h
  have hf := zuO h
  have hn := h.n
  have hw := h.wk
  have hc := h.cap
  have hmo := h.most
  have hF := zcP h
  have hE := zek h
  have hcl := zgv p p.Workers.toNat
  have hfe : wj p = ((p.Workers.toNat * (p.Cap.toNat + 2) : Nat) : Int) := by
    rw [hF.1]
    have e1 : p.Workers = ((p.Workers.toNat : Nat) : Int) := by omega
    have e2 : p.Cap + 2 = ((p.Cap.toNat + 2 : Nat) : Int) := by omega
    rw [e2, Int.natCast_mul]
    rw [← e1]
  have h0 : YG (wj p) (xu p + 1) (WW p p.Workers.toNat ++ List.replicate (2 + xu p) 0#64) := by
    intro a ha
    have : ld (WW p p.Workers.toNat ++ List.replicate (2 + xu p) 0#64) a = 0#64 := by
      unfold ld
      rw [if_pos (by omega), List.getD_eq_getElem?_getD, List.getElem?_append_right (by omega), List.getElem?_replicate]
      split <;> rfl
    rw [this]
    exact zuh (by omega)
  have h1 : YG (wj p) (xu p + 1) (zbp p).M := by
    refine YG.lay (by omega) (by omega) (fun b hb' => ?_) (YG.lay (by omega) (by omega) (fun b hb' => ?_) h0)
    · have := zuk (List.mem_of_mem_drop hb'); omega
    · have := zuk (List.mem_of_mem_take hb'); omega
  have hlen : (zbp p).M.length = p.Workers.toNat * (p.Cap.toNat + 2) + (2 + xu p) := by
    show (zlS _ _ _ _).length = _
    rw [zpq, zpq, List.length_append, hcl, List.length_replicate]
  refine ⟨rfl, ?_, by omega, by rw [hlen]; omega, (h1 _ (by omega)).1, (h1 _ (by omega)).1, fun a ha => (h1 a (by omega)).2⟩
  have hd : (zbp p).Bins.length = 1 + (uX p).length + (xu p - (uX p).length) := by
    show ([[]] ++ uX p ++ List.replicate (xu p - (uX p).length) ([] : List Int)).length = _
    rw [List.length_append, List.length_append, List.length_replicate]; rfl
  have h2 := hb.1
  have hmt := h.mt
  rw [hd]
  omega
def zp4 (mode obj who : Int) : zJ := ⟨0, mode, obj, who, ⟨0, 0, 0, 0, 0#64, 0#64, 0, 0⟩, ⟨0, 0, 0, 0, 0#64, 0, 0, 0⟩, 0, 0⟩
theorem zwb (a b c : Int) : zhQ a b c = some (zp4 a b c, ()) := by rw [zq2]; rfl
end
end Go.Pe.G
namespace Go.Pe.G
open Go.Pe
noncomputable section
structure uW (s : zb) : Prop where
  m : s.M.length < 1000000
  bins : s.Bins.length < 1000000
  bin : ∀ x ∈ s.Bins, x.length < 1000000
  acks : s.Acks.length < 1000000
  bal : s.L.Bal.length < 1000000
  ws : s.Ws.length < 1000000
  w : ∀ x ∈ s.Ws, x.Batch.length < 1000000
  ms : s.Ms.length < 1000000
  mu : ∀ x ∈ s.Ms, x.Regs.length < 1000000 ∧ x.Buf.length < 1000000 ∧ x.Batch.length < 1000000
  objs : s.H.Objs.length < 1000000
  obj : ∀ x ∈ s.H.Objs, x.length < 1000000
  pobjs : s.P.H.Objs.length < 1000000
  pobj : ∀ x ∈ s.P.H.Objs, x.length < 1000000
  regs : s.P.Regs.length < 1000000
  reg : ∀ x ∈ s.P.Regs, x.length < 1000000
  progs : s.P.Progs.length < 1000000
  prog : ∀ x ∈ s.P.Progs, x.length < 1000000
  picks : s.P.Picks.length < 1000000
theorem zaG (m : List (BitVec 64)) (c : zD) : (zI m c).1.length = m.length := by
  unfold zI sw
  split
  · rfl
  split
  · rfl
  split
  · split <;> simp [VW]
  · dsimp only; split <;> simp [VW]
theorem zwy (m : List (BitVec 64)) (d : zh) : (wo m d).1.length = m.length := by
  unfold wo
  split
  · rfl
  split
  · rfl
  split
  · rfl
  split <;> simp [VW]
theorem zpS (s : zb) (g : zJ) : ∃ m b t w f, (ya s g).1 = { s with M := m, Bins := b, T := t, Work := w, Flag := f } ∧ m.length = s.M.length ∧ b.length = s.Bins.length ∧
    (∀ x ∈ b, x ∈ s.Bins ∨ x = [g.Obj]) ∧ (t = s.T ∨ t = (UM s.T g.Obj).1) ∧ (w = s.Work ∨ w = wc (s.Work + 1) ∨ w = wc (s.Work - 1)) := by
  unfold ya
  split
  · exact ⟨s.M, s.Bins, s.T, s.Work, s.Flag, rfl, rfl, rfl, fun x h => .inl h, .inl rfl, .inl rfl⟩
  split
  · exact ⟨_, s.Bins, s.T, s.Work, s.Flag, rfl, zaG _ _, rfl, fun x h => .inl h, .inl rfl, .inl rfl⟩
  split
  · refine ⟨s.M, _, s.T, s.Work, s.Flag, rfl, rfl, by simp, fun x h => ?_, .inl rfl, .inl rfl⟩
    rcases List.mem_or_eq_of_mem_set h with h | h
    · exact .inl h
    · exact .inr h
  split
  · exact ⟨_, s.Bins, s.T, s.Work, s.Flag, rfl, zaG _ _, rfl, fun x h => .inl h, .inl rfl, .inl rfl⟩
  split
  · exact ⟨s.M, s.Bins, s.T, s.Work, true, rfl, rfl, rfl, fun x h => .inl h, .inl rfl, .inl rfl⟩
  split
  · exact ⟨_, s.Bins, s.T, s.Work, s.Flag, rfl, zwy _ _, rfl, fun x h => .inl h, .inl rfl, .inl rfl⟩
  split
  · exact ⟨s.M, s.Bins, s.T, _, s.Flag, rfl, rfl, rfl, fun x h => .inl h, .inl rfl, .inr (.inr rfl)⟩
  split
  · exact ⟨s.M, s.Bins, _, s.Work, s.Flag, rfl, rfl, rfl, fun x h => .inl h, .inr rfl, .inl rfl⟩
  · exact ⟨s.M, s.Bins, s.T, _, s.Flag, rfl, rfl, rfl, fun x h => .inl h, .inl rfl, .inr (.inl rfl)⟩
theorem zAC {s : zb} {g : zJ} (h : uW s) : uW (ya s g).1 := by
  obtain ⟨m, b, t, w, f, e, h1, h2, h3, _, _⟩ := zpS s g
  rw [e]
  refine ⟨by rw [h1]; exact h.m, by rw [h2]; exact h.bins, fun x hx => ?_, h.acks, h.bal, h.ws, h.w, h.ms, h.mu, h.objs, h.obj, h.pobjs, h.pobj, h.regs, h.reg, h.progs, h.prog, h.picks⟩
  rcases h3 x hx with h' | rfl
  · exact h.bin x h'
  · simp
theorem zsr {p : zd} (h : z7 p) : uW (zbp p) := by
  have S := zvL h
  have hb := ztx h
  have hg := znJ h
  have hn := h.n
  have hm := h.mt
  have hw := h.wk
  have hs := h.slots
  have hrl := h.regs
  have hpl := h.progs
  have hobj : ∀ o ∈ p.H.Objs, o.length < 1000000 := fun o ho => by have := (h.objs o ho).1; omega
  have hreg : ∀ r ∈ p.Regs, r.length < 1000000 := fun r hr => by have := (h.reg r hr).1; omega
  refine ⟨by have := S.mem; omega, by rw [S.bins]; omega, fun x hx => ?_, ?_, ?_, ?_, fun x hx => ?_, ?_, fun x hx => ?_, by show p.H.Objs.length < _; omega, hobj, by show p.H.Objs.length < _; omega, hobj, by show p.Regs.length < _; omega, hreg, by show p.Progs.length < _; omega, fun x hx => ?_, ?_⟩
  · have hx : x ∈ [[]] ++ uX p ++ List.replicate (xu p - (uX p).length) [] := hx
    rcases List.mem_append.1 hx with hx | hx
    · rcases List.mem_append.1 hx with hx | hx
      · simp at hx; subst hx; simp
      · have := zjT _ _ _ _ hx; omega
    · have := (List.mem_replicate.1 hx).2; subst this; simp
  · show (List.replicate p.Mutators.toNat (0 : Int)).length < _; simp; omega
  · show (List.replicate p.Mutators.toNat (0 : Int)).length < _; simp; omega
  · show ((List.range p.Workers.toNat).map (Ug p)).length < _; simp; omega
  · have hx : x ∈ (List.range p.Workers.toNat).map (Ug p) := hx
    obtain ⟨i, _, rfl⟩ := List.mem_map.1 hx
    simp [Ug]
  · show (p.Regs.map uO).length < _; simp; omega
  · have hx : x ∈ p.Regs.map uO := hx
    obtain ⟨r, hr, rfl⟩ := List.mem_map.1 hx
    exact ⟨hreg r hr, by simp [uO], by simp [uO]⟩
  · obtain ⟨i, hi⟩ := List.getElem?_of_mem hx
    have hlt := (List.getElem?_eq_some_iff.1 hi).1
    have := (h.prog i _ x (List.getElem?_eq_getElem (by have : p.Progs.length = p.Regs.length := by omega
                                                        have hlt : i < p.Progs.length := hlt
                                                        omega)) hi).1
    omega
  · show p.Picks.length < _; rw [h.picks]; simp
end
end Go.Pe.G
namespace Go.Pe.G
open Go.Pe
noncomputable section
theorem XP {α B C : Type} {f : List α × List α × Int × Int × Unit → Option (yx (List α × List α × Int × Int × Unit) B C)} {l : List α} {b : B} (hl : l.length < 1000000)
    (h1 : ∀ (i : Nat) (x : α), l[i]? = some x → f (l, l, (l.length : Int), (i : Int), ()) = some (.again (l, l, (l.length : Int), ((i + 1 : Nat) : Int), ())))
    (h2 : f (l, l, (l.length : Int), (l.length : Int), ()) = some (.brk b)) : zU f (l, l, (l.length : Int), 0, ()) = some (.brk b) := by
  refine (Zs (f := f) (fun a => ∃ i : Nat, a = (l, l, (l.length : Int), (i : Int), ()) ∧ i ≤ l.length) (fun a => l.length - a.2.2.2.1.toNat) (fun o => o = .brk b) ?_ (l, l, (l.length : Int), 0, ()) ⟨0, rfl, by omega⟩ (xG (by dsimp only; omega))).elim fun o h => ?_
  rotate_left
  · rw [h.1, h.2]
  · rintro _ ⟨i, rfl, hi⟩
    rcases Nat.lt_or_ge i l.length with hlt | hge
    · refine ⟨_, h1 i _ (List.getElem?_eq_getElem hlt), ⟨i + 1, rfl, hlt⟩, ?_⟩
      show l.length - ((i + 1 : Nat) : Int).toNat < l.length - (i : Int).toNat
      omega
    · have : i = l.length := by omega
      subst this
      exact ⟨_, h2, rfl⟩
theorem xD {l : List (Int)} (hl : l.length < 1000000) : z6 l l = some (true, ()) := by
  rw [zf4, zN, if_pos rfl, XP (b := ()) hl (fun i x hx => ?_) (by rw [Wo]; simp)]
  · rfl
  · have hlt := xK hx
    rw [Wo, zk, if_pos hlt, z3 hx, Option.bind_some, Option.bind_some, yb (by omega)]
    simp
theorem zcu {l : List (BitVec 64)} (hl : l.length < 1000000) : Zd l l = some (true, ()) := by
  rw [zcs, zN, if_pos rfl, XP (b := ()) hl (fun i x hx => ?_) (by rw [ZU]; simp)]
  · rfl
  · have hlt := xK hx
    rw [ZU, zk, if_pos hlt, z3 hx, Option.bind_some, Option.bind_some, yb (by omega)]
    simp
theorem zdt {l : List (Int)} (hl : l.length < 1000000) : ZE l l = some (true, ()) := by
  rw [zdM, zN, if_pos rfl, XP (b := ()) hl (fun i x hx => ?_) (by rw [YB]; simp)]
  · rfl
  · have hlt := xK hx
    rw [YB, zk, if_pos hlt, z3 hx, Option.bind_some, Option.bind_some, yb (by omega)]
    simp
theorem zbK {l : List (zi)} (hl : l.length < 1000000) : uy l l = some (true, ()) := by
  rw [zbi, zN, if_pos rfl, XP (b := ()) hl (fun i x hx => ?_) (by rw [Zu]; simp)]
  · rfl
  · have hlt := xK hx
    rw [Zu, zk, if_pos hlt, z3 hx, Option.bind_some, Option.bind_some, yb (by omega)]
    simp
theorem UA {l : List (zj)} (hl : l.length < 1000000) : vf l l = some (true, ()) := by
  rw [Ur, zN, if_pos rfl, XP (b := ()) hl (fun i x hx => ?_) (by rw [uC]; simp)]
  · rfl
  · have hlt := xK hx
    rw [uC, zk, if_pos hlt, z3 hx, Option.bind_some, Option.bind_some, yb (by omega)]
    simp
theorem xP {l : List (List Int)} (hl : l.length < 1000000) (he : ∀ x ∈ l, x.length < 1000000) : zM l l = some (true, ()) := by
  rw [Wt, zN, if_pos rfl, XP (b := ()) hl (fun i x hx => ?_) (by rw [vu]; simp)]
  · rfl
  · have hlt := xK hx
    rw [vu, zk, if_pos hlt, z3 hx, Option.bind_some, Option.bind_some, xD (he x (List.mem_of_getElem? hx)), Option.bind_some, yb (by omega)]
    simp
theorem u5 {l : List (List zi)} (hl : l.length < 1000000) (he : ∀ x ∈ l, x.length < 1000000) : yV l l = some (true, ()) := by
  rw [u6, zN, if_pos rfl, XP (b := ()) hl (fun i x hx => ?_) (by rw [xy]; simp)]
  · rfl
  · have hlt := xK hx
    rw [xy, zk, if_pos hlt, z3 hx, Option.bind_some, Option.bind_some, zbK (he x (List.mem_of_getElem? hx)), Option.bind_some, yb (by omega)]
    simp
theorem zvh {w : zg} (h : w.Batch.length < 1000000) : UE w w = some (true, ()) := by
  rw [zju, xD h]; simp
theorem ztA {m : zc} (h : m.Regs.length < 1000000 ∧ m.Buf.length < 1000000 ∧ m.Batch.length < 1000000) : VH m m = some (true, ()) := by
  rw [zio, xD h.1, xD h.2.1, xD h.2.2, zgk]; simp
theorem wH {l : List (zg)} (hl : l.length < 1000000) (he : ∀ x ∈ l, x.Batch.length < 1000000) : yw l l = some (true, ()) := by
  rw [wF, zN, if_pos rfl, XP (b := ()) hl (fun i x hx => ?_) (by rw [yO]; simp)]
  · rfl
  · have hlt := xK hx
    rw [yO, zk, if_pos hlt, z3 hx, Option.bind_some, Option.bind_some, zvh (he x (List.mem_of_getElem? hx)), Option.bind_some, yb (by omega)]
    simp
theorem wn {l : List (zc)} (hl : l.length < 1000000) (he : ∀ x ∈ l, x.Regs.length < 1000000 ∧ x.Buf.length < 1000000 ∧ x.Batch.length < 1000000) : yr l l = some (true, ()) := by
  rw [wm, zN, if_pos rfl, XP (b := ()) hl (fun i x hx => ?_) (by rw [yF]; simp)]
  · rfl
  · have hlt := xK hx
    rw [yF, zk, if_pos hlt, z3 hx, Option.bind_some, Option.bind_some, ztA (he x (List.mem_of_getElem? hx)), Option.bind_some, yb (by omega)]
    simp
theorem zsP {h : zF} (h1 : h.Objs.length < 1000000) (h2 : ∀ x ∈ h.Objs, x.length < 1000000) : uE h h = some (true, ()) := by
  rw [zsh, xP h1 h2]; simp
theorem zwc {s : zb} (h : uW s) : zdI s s = some (true, ()) := by
  have hp : Zy s.P s.P = some (true, ()) := by
    rw [zsb, zj6, zsP h.pobjs h.pobj, xP h.regs h.reg, u5 h.progs h.prog, UA h.picks]
    simp
  have hl : vK s.L s.L = some (true, ()) := by
    rw [zpa, zdt h.bal]; simp
  have hm : Yr s.M s.M = some (true, ()) := by
    rw [zs8, zcu h.m]; rfl
  rw [zqF, hp, zsP h.objs h.obj, hm, xP h.bins h.bin, xD h.acks, hl, wH h.ws h.w, wn h.ms h.mu]
  simp
end
end Go.Pe.G
namespace Go.Pe.G
open Go.Pe
noncomputable section
def goF {S : Type} (g : Nat → S → S) : Nat → Nat → S → S
  | _, 0, s => s
  | i, k + 1, s => goF g (i + 1) k (g i s)
theorem zsS {S : Type} {g : Nat → S → S} {Inv : S → Prop} (hg : ∀ i s, Inv s → Inv (g i s)) : ∀ (k i : Nat) (s : S), Inv s → Inv (goF g i k s)
  | 0, _, _, h => h
  | k + 1, i, s, h => zsS hg k (i + 1) _ (hg i s h)
theorem zvt {S σ B C : Type} {f : σ → Option (yx σ B C)} (A : Int → S → σ) (b : S → B) (n : Nat) (hn : n < 1000000) (g : Nat → S → S) (Inv : S → Prop) (hg : ∀ i s, Inv s → Inv (g i s))
    (h1 : ∀ (i : Nat) s, i < n → Inv s → f (A (i : Int) s) = some (.again (A ((i + 1 : Nat) : Int) (g i s)))) (h2 : ∀ s, Inv s → f (A (n : Int) s) = some (.brk (b s))) {s : S} (hs : Inv s) :
    zU f (A 0 s) = some (.brk (b (goF g 0 n s))) := by
  have key : ∀ (k i : Nat) (s : S), n - i = k → i ≤ n → Inv s → ∀ m, k < m → vG f m (A (i : Int) s) = some (.brk (b (goF g i k s))) := by
    intro k
    induction k with
    | zero =>
      intro i s hk hi hs m hm
      have : i = n := by omega
      subst this
      obtain ⟨m, rfl⟩ : ∃ x, m = x + 1 := ⟨m - 1, by omega⟩
      simp only [vG]
      rw [h2 s hs]; rfl
    | succ k ih =>
      intro i s hk hi hs m hm
      obtain ⟨m, rfl⟩ : ∃ x, m = x + 1 := ⟨m - 1, by omega⟩
      simp only [vG]
      rw [h1 i s (by omega) hs, Option.bind_some]
      exact ih (i + 1) _ (by omega) (by omega) (hg i s hs) m (by omega)
  have := key n 0 s (by omega) (by omega) hs Y1 (xG (by omega))
  rw [VR]
  exact this
end
end Go.Pe.G
namespace Go.Pe.G
open Go.Pe
noncomputable section
def zgo (m : List (BitVec 64)) (d : zh) : List (BitVec 64) × zh :=
  if d.PC < 0 ∨ 7 ≤ d.PC then (m, d)
  else if d.PC = 0 then (m, { d with B := ld m (wc (d.Base + 1)), PC := 1 })
  else if d.PC = 1 then (st m (wc (d.Base + 1)) (d.B - 1#64), { d with PC := 2 })
  else if d.PC = 2 then (m, { d with T := ld m d.Base, PC := if 0 < (ld m d.Base - (d.B - 1#64)).toInt then 5 else 3 })
  else if d.PC = 3 then (m, { d with X := (ld m (zb0 d (d.B - 1#64))).toInt, PC := 4, Out := if d.T = d.B - 1#64 then d.Out else 1 })
  else if d.PC = 4 then ((sw m d.Base d.T (d.T + 1#64)).1, { d with PC := if (sw m d.Base d.T (d.T + 1#64)).2 then 6 else 5 })
  else if d.PC = 5 then (st m (wc (d.Base + 1)) d.B, { d with X := 0, Out := 2, PC := 6 })
  else (st m (wc (d.Base + 1)) d.B, { d with Out := 1, PC := 7 })
def zaK (m : List (BitVec 64)) (d : zh) : List (BitVec 64) × zh :=
  if d.PC < 0 ∨ 4 ≤ d.PC then (m, d)
  else if d.PC = 0 then (m, { d with T := ld m d.Base, PC := 1 })
  else if d.PC = 1 then (m, { d with B := ld m (wc (d.Base + 1)), PC := 2, Out := if 0 < (ld m (wc (d.Base + 1)) - d.T).toInt then d.Out else 2 })
  else if d.PC = 2 then (m, { d with X := (ld m (zb0 d d.T)).toInt, PC := 3 })
  else ((sw m d.Base d.T (d.T + 1#64)).1, if (sw m d.Base d.T (d.T + 1#64)).2 then { d with Out := 1, PC := 4 } else { d with X := 0, Out := 4, PC := 4 })
def yt (m : List (BitVec 64)) (d : zh) : List (BitVec 64) × zh :=
  if d.Out ≠ 0 then (m, d) else if d.Kind = 1 then wo m d else if d.Kind = 2 then zgo m d else if d.Kind = 3 then zaK m d else (m, d)
theorem zoZ {m : List (BitVec 64)} {d : zh} (h : d.Kind = 1) : yt m d = wo m d := by
  unfold yt
  by_cases h0 : d.Out ≠ 0
  · rw [if_pos h0]; unfold wo; rw [if_pos (.inl h0)]
  · rw [if_neg h0, if_pos h]
theorem zvm {α : Type} {x y : Option α} {v : α} (h : x = some v) : Option.or x y = some v := by subst h; rfl
theorem zgT {α : Type} {x y z : Option α} (h : x = none) (h2 : y = z) : Option.or x y = z := by subst h; exact h2
theorem zyq : wc 1 = 1 ∧ wc 2 = 2 ∧ wc 3 = 3 ∧ wc 4 = 4 ∧ wc 5 = 5 ∧ wc 6 = 6 ∧ wc 7 = 7 := by decide
theorem zxl : w64 5 = 5 ∧ w64 6 = 6 ∧ w64 7 = 7 := by
  refine ⟨?_, ?_, ?_⟩ <;> exact yA (by omega) (by omega)
theorem zv9 {m : List (BitVec 64)} (hm : m.length < 4294967296) {d : zh} (hc : d.Cap < 1000) : zaq m d = some ((yt m d).1, (yt m d).2, ()) := by
  by_cases k1 : d.Kind = 1
  · rw [zoZ k1]; exact zjb hm k1 hc
  obtain ⟨w0, w1, w2, w3, w4⟩ := ztW
  obtain ⟨w5, w6, w7⟩ := zxl
  obtain ⟨v1, v2, v3, v4, v5, v6, v7⟩ := zyq
  have hsb : ∀ d : zh, xT m d = some (m, { d with B := ld m (wc (d.Base + 1)) }, ()) := fun d => by
    rw [Xe, xi, xf, Option.bind_some, XC]; rfl
  have htk : ∀ d : zh, Yw m d = some ((sw m d.Base d.T (d.T + 1#64)).1, (sw m d.Base d.T (d.T + 1#64)).2, ()) := fun d => by
    obtain ⟨v, hv⟩ := zrJ hm d.Base d.T (d.T + 1#64)
    rw [ziW, Zx, Option.bind_some, hv]; rfl
  rw [zjm, zgd, zoo, zop, zoi]
  simp only [zk, zN, if_neg k1]
  unfold yt
  by_cases k2 : d.Kind = 2
  · refine zgT (by simp [k2]) (zvm ?_)
    rw [if_pos k2, Option.bind_some]
    by_cases g0 : d.Out = 0
    rotate_left
    · rw [if_neg g0, if_pos (show d.Out ≠ 0 from g0)]
    rw [if_pos g0, if_neg (show ¬ (d.Out ≠ 0) from fun e => e g0), if_neg k1, if_pos k2]
    unfold zgo
    by_cases g1 : d.PC < 0
    · rw [if_pos g1, if_pos (.inl g1)]
    rw [if_neg g1]
    by_cases g2 : 7 ≤ d.PC
    · rw [if_pos g2, if_pos (.inr g2)]
    rw [if_neg g2, if_neg (show ¬ (d.PC < 0 ∨ 7 ≤ d.PC) by omega)]
    have hpc : d.PC = 0 ∨ d.PC = 1 ∨ d.PC = 2 ∨ d.PC = 3 ∨ d.PC = 4 ∨ d.PC = 5 ∨ d.PC = 6 := by omega
    rcases hpc with h | h | h | h | h | h | h
    · simp [h, hsb, w1]
    · simp [h, zhH, xi, xf, zbT hm, v1, v2, v3, v4, v5, v6, v7]
    · rw [h, if_neg (by decide), if_neg (by decide), if_neg (by decide), if_neg (by decide), if_pos rfl, if_neg (by decide), if_neg (by decide), if_pos rfl]
      simp only [zeo, Zx, Option.bind_some, XC, zhB, zk]
      by_cases hs : 0 < (ld m d.Base - (d.B - 1#64)).toInt
      · simp only [if_pos hs, Option.bind_some, Int.reduceAdd, w5]
      · simp only [if_neg hs, Option.bind_some, h, Int.reduceAdd, w3]
    · simp only [h, zgg, zjZ hc, Option.bind_some, XC, zN, xO]
      by_cases hs : d.T = d.B - 1#64
      · simp [hs, w4, h]
      · simp [hs, w4, h]
    · simp only [h, zf7, htk, Option.bind_some]
      cases hs : (sw m d.Base d.T (d.T + 1#64)).2 with
      | true => simp [hs, w6, h]
      | false => simp [hs, w5, h]
    · simp [h, zfH, xO, k1, xi, xf, zbT hm, v1, v2, v3, v4, v5, v6, v7]
    · simp [h, zgm, xO, xi, xf, zbT hm, v1, v2, v3, v4, v5, v6, v7]
  by_cases k3 : d.Kind = 3
  · refine zgT (by simp [k2, k3]) (zgT (by simp [k2, k3]) (zvm ?_))
    rw [if_neg k2, if_pos k3, Option.bind_some]
    by_cases g0 : d.Out = 0
    rotate_left
    · rw [if_neg g0, if_pos (show d.Out ≠ 0 from g0)]
    rw [if_pos g0, if_neg (show ¬ (d.Out ≠ 0) from fun e => e g0), if_neg k1, if_neg k2, if_pos k3]
    unfold zaK
    by_cases g1 : d.PC < 0
    · rw [if_pos g1, if_pos (.inl g1)]
    rw [if_neg g1]
    by_cases g2 : 4 ≤ d.PC
    · rw [if_pos g2, if_pos (.inr g2)]
    rw [if_neg g2, if_neg (show ¬ (d.PC < 0 ∨ 4 ≤ d.PC) by omega)]
    have hpc : d.PC = 0 ∨ d.PC = 1 ∨ d.PC = 2 ∨ d.PC = 3 := by omega
    rcases hpc with h | h | h | h
    · simp [h, zgn, Zx, XC, w1]
    · rw [h, if_neg (by decide), if_neg (by decide), if_pos rfl, if_neg (by decide), if_pos rfl]
      simp only [zgl, xi, Option.bind_some, XC, zhB, zN, xf]
      by_cases hs : 0 < (ld m (wc (d.Base + 1)) - d.T).toInt
      · simp only [if_pos hs, Option.bind_some, Int.reduceAdd, v2, h]
      · simp only [if_neg hs, Option.bind_some, Int.reduceAdd, v2, h]
    · simp [h, zfR, zjZ hc, XC, w3]
    · simp only [h, zeF, htk, Option.bind_some, xO]
      cases hs : (sw m d.Base d.T (d.T + 1#64)).2 with
      | true => simp [hs, w4, h]
      | false => simp [hs, w4, h, k1]
  · refine zgT (by simp [k2, k3]) (zgT (by simp [k2, k3]) (zgT (by simp [k2, k3]) ?_))
    rw [if_neg k2, if_neg k3, Option.bind_some]
    by_cases g0 : d.Out = 0
    · simp [g0, k1, k2, k3]
    · simp [g0]
theorem zwq (m : List (BitVec 64)) (d : zh) : (zgo m d).1.length = m.length ∧ (zgo m d).2.Kind = d.Kind ∧ (zgo m d).2.Base = d.Base ∧ (zgo m d).2.Cap = d.Cap := by
  unfold zgo sw st
  split
  · exact ⟨rfl, rfl, rfl, rfl⟩
  split
  · exact ⟨rfl, rfl, rfl, rfl⟩
  split
  · refine ⟨?_, rfl, rfl, rfl⟩; dsimp only; split <;> simp
  split
  · exact ⟨rfl, rfl, rfl, rfl⟩
  split
  · exact ⟨rfl, rfl, rfl, rfl⟩
  split
  · refine ⟨?_, rfl, rfl, rfl⟩; dsimp only; split <;> (try split) <;> simp
  split <;> (refine ⟨?_, rfl, rfl, rfl⟩; dsimp only; split <;> simp)
theorem ztP (m : List (BitVec 64)) (d : zh) : (zaK m d).1.length = m.length ∧ (zaK m d).2.Kind = d.Kind ∧ (zaK m d).2.Base = d.Base ∧ (zaK m d).2.Cap = d.Cap := by
  unfold zaK sw st
  split
  · exact ⟨rfl, rfl, rfl, rfl⟩
  split
  · exact ⟨rfl, rfl, rfl, rfl⟩
  split
  · exact ⟨rfl, rfl, rfl, rfl⟩
  split
  · exact ⟨rfl, rfl, rfl, rfl⟩
  · refine ⟨?_, ?_, ?_, ?_⟩ <;> dsimp only <;> split <;> (try split) <;> simp
end
end Go.Pe.G
namespace Go.Pe.G
open Go.Pe
noncomputable section
def xE (h : zF) (o : Int) : List Int := h.Objs.getD (o - 1).toNat []
def Ui (h : zF) (o s : Int) : Bool := decide (1 ≤ o) && decide (o ≤ (h.Objs.length : Int)) && decide (0 ≤ s) && decide (s < ((xE h o).length : Int))
def Uh (h : zF) (o s : Int) : Int := if Ui h o s then (xE h o).getD s.toNat 0 else 0
def X3 (s : BitVec 64) (o : Int) : Bool := !(decide (s &&& bit o = 0#64))
def zbY (t : zr) (o : Int) : Int := if X3 (t.Marks &&& t.Black) o then 2 else if X3 t.Marks o then 1 else 0
def zkZ (t : zr) (o : Int) : zr := if zbY t o = 1 then { t with Black := t.Black ||| bit o } else t
def zjg (l : zq) (who : Int) : zq :=
  if 1 ≤ who ∧ who ≤ (l.Bal.length : Int) then { l with Scanned := wc (l.Scanned + 1), Bal := l.Bal.set (who - 1).toNat (wc (l.Bal.getD (who - 1).toNat 0 + 1)) }
  else { l with Scanned := wc (l.Scanned + 1), Pool := wc (l.Pool + 1) }
def zlB (s : zb) (b : Int) : List Int := s.Bins.getD b.toNat []
def zvW (p : zd) (h x : Int) : zD := ⟨2, 0, h, yK p, 0#64, x, 0, 0⟩
def zwp (p : zd) (h x : Int) : zD := ⟨1, 0, h, yK p, 0#64, x, 0, 0⟩
def onW (s : zb) (slot : Int) : Int := if slot = s.H.Slots then 8 else 5
def zqr (p : zd) (w : Int) (x : zg) : zg := { x with PC := 0, Victim := w, D := ⟨2, 0, uf p w, p.Cap, 0#64, 0#64, 0, 0⟩ }
def Vp (n v : Int) : Int := if v < n then v + 1 else 1
def zgi (p : zd) (w : Int) (x : zg) : zg :=
  if Vp p.Workers x.Victim = w then { x with PC := 2, Victim := w, C := zvW p (wj p) 0 }
  else { x with PC := 1, Victim := Vp p.Workers x.Victim, D := ⟨3, 0, uf p (Vp p.Workers x.Victim), p.Cap, 0#64, 0#64, 0, 0⟩ }
def yy (s : zb) (w : Int) (x : zg) : zb × zg :=
  if x.PC = 0 ∨ x.PC = 1 then
    ({ s with M := (yt s.M x.D).1 },
      if (yt s.M x.D).2.Out = 1 then { x with D := (yt s.M x.D).2, Victim := w, PC := 5, Obj := (yt s.M x.D).2.X, Slot := 0 }
      else if (yt s.M x.D).2.Out = 2 ∨ (yt s.M x.D).2.Out = 4 then zgi s.P w { x with D := (yt s.M x.D).2 } else { x with D := (yt s.M x.D).2 })
  else if x.PC = 2 then
    ({ s with M := (zI s.M x.C).1 },
      if (zI s.M x.C).2.Out = 1 then { x with C := (zI s.M x.C).2, Bin := (zI s.M x.C).2.X, PC := 3 }
      else if (zI s.M x.C).2.Out = 2 then zqr s.P w { x with C := (zI s.M x.C).2 } else { x with C := (zI s.M x.C).2 })
  else if x.PC = 3 then ({ s with Bins := s.Bins.set x.Bin.toNat [] }, { x with Batch := zlB s x.Bin, PC := 4, C := zwp s.P (yK s.P) x.Bin })
  else if x.PC = 4 then
    ({ s with M := (zI s.M x.C).1 }, if (zI s.M x.C).2.Out = 1 then { x with C := (zI s.M x.C).2, Bin := 0, PC := 7 } else { x with C := (zI s.M x.C).2 })
  else if x.PC = 5 then
    (s, if Uh s.H x.Obj x.Slot = 0 then { x with Slot := wc (x.Slot + 1), PC := onW s (wc (x.Slot + 1)) } else { x with Slot := wc (x.Slot + 1), PC := 6, G := zp4 1 (Uh s.H x.Obj x.Slot) w })
  else if x.PC = 6 then ((ya s x.G).1, if (ya s x.G).2.Out = 1 then { x with G := (ya s x.G).2, PC := onW s x.Slot } else { x with G := (ya s x.G).2 })
  else if x.PC = 7 then (s, match x.Batch with | [] => zqr s.P w x | o :: l => { x with Batch := l, PC := 5, Obj := o, Slot := 0 })
  else if x.PC = 8 then ({ s with T := zkZ s.T x.Obj, L := zjg s.L 0 }, { x with PC := 9 })
  else if x.PC = 9 then ({ s with Work := wc (s.Work - 1) }, { x with Obj := 0, PC := 7 })
  else (s, x)
def vm (s : zb) (w : Int) : zb :=
  if s.Done = true ∨ w < 1 ∨ (s.Ws.length : Int) < w then s
  else match s.Ws[(w - 1).toNat]? with
    | some x => { (yy s w x).1 with Ws := s.Ws.set (w - 1).toNat (yy s w x).2 }
    | none => s
structure zv3 (p : zd) (nb : Nat) (hd : Int) (c : zD) : Prop where
  k : c.Kind = 2
  h : c.Head = hd
  n : c.Next = yK p
  v : 1 ≤ c.PC → 1 ≤ yY c.H ∧ yY c.H < nb
  y : 2 ≤ c.PC → 0 ≤ c.Y ∧ c.Y < nb
  o : c.Out ≠ 1
structure ztI (p : zd) (nb : Nat) (hd : Int) (c : zD) : Prop where
  k : c.Kind = 1
  h : c.Head = hd
  n : c.Next = yK p
  x : 1 ≤ c.X ∧ c.X < nb
  v : 1 ≤ c.PC → yY c.H < nb
theorem zvp {p : zd} {nb : Nat} {hd x : Int} : zv3 p nb hd (zvW p hd x) :=
  ⟨rfl, rfl, rfl, fun e => absurd e (by show ¬ (1 : Int) ≤ 0; decide), fun e => absurd e (by show ¬ (2 : Int) ≤ 0; decide), by show (0 : Int) ≠ 1; decide⟩
theorem zt4 {p : zd} {nb : Nat} {hd x : Int} (h : 1 ≤ x ∧ x < nb) : ztI p nb hd (zwp p hd x) :=
  ⟨rfl, rfl, rfl, h, fun e => absurd e (by show ¬ (1 : Int) ≤ 0; decide)⟩
structure WOk (p : zd) (nb : Nat) (w : Int) (x : zg) : Prop where
  pc : 0 ≤ x.PC ∧ x.PC ≤ 9
  vic : 1 ≤ x.Victim ∧ x.Victim ≤ p.Workers
  d0 : x.PC = 0 → x.D.Kind = 2 ∧ x.D.Base = uf p w ∧ x.D.Cap = p.Cap
  d1 : x.PC = 1 → x.D.Kind = 3 ∧ x.D.Base = uf p x.Victim ∧ x.D.Cap = p.Cap
  c2 : x.PC = 2 → zv3 p nb (wj p) x.C
  b3 : x.PC = 3 → 1 ≤ x.Bin ∧ x.Bin < nb
  c4 : x.PC = 4 → ztI p nb (yK p) x.C
  g6 : x.PC = 6 → MOk p nb x.G ∧ (x.G.PC = 5 → x.G.C.Out ≠ 1) ∧ x.G.Mode = 1 ∧ x.G.PC ≠ 4
theorem WOk.plain {p : zd} {nb : Nat} {w : Int} {x : zg} (pc : x.PC = 5 ∨ x.PC = 7 ∨ x.PC = 8 ∨ x.PC = 9) (vic : 1 ≤ x.Victim ∧ x.Victim ≤ p.Workers) : WOk p nb w x :=
  ⟨by omega, vic, fun e => by omega, fun e => by omega, fun e => by omega, fun e => by omega, fun e => by omega, fun e => by omega⟩
theorem SOk.swLow {p : zd} {nb : Nat} {s : zb} (h : z7 p) (S : SOk p nb s) {a : Int} (ha : a < wj p) (x v : BitVec 64) : SOk p nb { s with M := (sw s.M a x v).1 } := by
  unfold sw
  split
  · exact S.low h ha v
  · exact S
theorem zAo {p : zd} {nb : Nat} {s : zb} (h : z7 p) (S : SOk p nb s) {d : zh} {v : Int} (hv : 1 ≤ v ∧ v ≤ p.Workers) (hk : d.Kind = 2 ∨ d.Kind = 3) (hb : d.Base = uf p v) : SOk p nb { s with M := (yt s.M d).1 } := by
  have hd := zpG h hv.1 hv.2
  have hc := h.cap
  have hf := zcP h
  have e1 : wc (d.Base + 1) = d.Base + 1 := Yh (by omega) (by omega)
  unfold yt
  split
  · exact S
  split
  · omega
  split
  · unfold zgo
    rw [e1]
    split
    · exact S
    split
    · exact S
    split
    · exact S.low h (by omega) _
    split
    · exact S
    split
    · exact S
    split
    · exact S.swLow h (by omega) _ _
    split <;> exact S.low h (by omega) _
  split
  · unfold zaK
    split
    · exact S
    split
    · exact S
    split
    · exact S
    split
    · exact S
    · exact S.swLow h (by omega) _ _
  · exact S
theorem zoW (m : List (BitVec 64)) (d : zh) : (yt m d).1.length = m.length ∧ (yt m d).2.Kind = d.Kind ∧ (yt m d).2.Base = d.Base ∧ (yt m d).2.Cap = d.Cap := by
  unfold yt
  split
  · exact ⟨rfl, rfl, rfl, rfl⟩
  split
  · unfold wo
    split
    · exact ⟨rfl, rfl, rfl, rfl⟩
    split
    · exact ⟨rfl, rfl, rfl, rfl⟩
    split
    · refine ⟨rfl, ?_, ?_, ?_⟩ <;> dsimp only <;> split <;> rfl
    split <;> exact ⟨VW _ _ _, rfl, rfl, rfl⟩
  split
  · exact zwq m d
  split
  · exact ztP m d
  · exact ⟨rfl, rfl, rfl, rfl⟩
theorem zya {n v : Int} (h : 1 ≤ v ∧ v ≤ n) : 1 ≤ Vp n v ∧ Vp n v ≤ n := by unfold Vp; split <;> omega
theorem WOk.look {p : zd} {nb : Nat} {w : Int} {x : zg} (hw : 1 ≤ w ∧ w ≤ p.Workers) (vic : 1 ≤ x.Victim ∧ x.Victim ≤ p.Workers) : WOk p nb w (zgi p w x) := by
  have hn := zya vic
  unfold zgi
  split
  · exact ⟨⟨(by show (0 : Int) ≤ 2; decide), (by show (2 : Int) ≤ 9; decide)⟩, hw, fun e => (by cases e), fun e => (by cases e), fun _ => zvp, fun e => (by cases e), fun e => (by cases e), fun e => (by cases e)⟩
  · exact ⟨⟨(by show (0 : Int) ≤ 1; decide), (by show (1 : Int) ≤ 9; decide)⟩, hn, fun e => (by cases e), fun _ => ⟨rfl, rfl, rfl⟩, fun e => (by cases e), fun e => (by cases e), fun e => (by cases e), fun e => (by cases e)⟩
theorem WOk.begin {p : zd} {nb : Nat} {w : Int} {x : zg} (hw : 1 ≤ w ∧ w ≤ p.Workers) : WOk p nb w (zqr p w x) :=
  ⟨⟨(by show (0 : Int) ≤ 0; decide), (by show (0 : Int) ≤ 9; decide)⟩, hw, fun _ => ⟨rfl, rfl, rfl⟩, fun e => (by cases e), fun e => (by cases e), fun e => (by cases e), fun e => (by cases e), fun e => (by cases e)⟩
theorem zzc (s : zb) {g : zJ} (h1 : g.Mode = 1) (h4 : g.PC ≠ 4) : (ya s g).2.PC ≠ 4 ∧ (ya s g).1.Flag = s.Flag := by
  have five : (5 : Int) ≠ 4 := by decide
  unfold ya
  split
  · exact ⟨h4, rfl⟩
  split
  · refine ⟨?_, rfl⟩; unfold zey; dsimp only; split <;> exact h4
  split
  · exact ⟨(by show (7 : Int) ≠ 4; decide), rfl⟩
  split
  · refine ⟨?_, rfl⟩; unfold zlP; dsimp only
    split
    · show (6 : Int) ≠ 4; decide
    split
    · exact five
    · exact h4
  split
  · refine ⟨?_, rfl⟩; unfold zlU; dsimp only
    split
    · exact h4
    split
    · exact five
    · exact h4
  split
  · exact ⟨h4, rfl⟩
  split
  · refine ⟨?_, rfl⟩; unfold zjj; dsimp only
    split
    · show (2 : Int) ≠ 4; decide
    · show (3 : Int) ≠ 4; decide
  · exact ⟨(by show (1 : Int) ≠ 4; decide), rfl⟩
theorem zwZ (s : zb) (i : Int) : onW s i = 5 ∨ onW s i = 8 := by unfold onW; split <;> simp
theorem SOk.keep {p : zd} {nb : Nat} {s s' : zb} (S : SOk p nb s) (hP : s'.P = s.P) (hM : s'.M = s.M) (hB : s'.Bins.length = s.Bins.length) : SOk p nb s' :=
  ⟨hP.trans S.P, hB.trans S.bins, S.nbk, by rw [hM]; exact S.mem, by rw [hM]; exact S.cF, by rw [hM]; exact S.cE, by rw [hM]; exact S.cL⟩
theorem zzx {p : zd} {nb : Nat} {s : zb} {w : Int} {x : zg} (h : z7 p) (hw : 1 ≤ w ∧ w ≤ p.Workers) (S : SOk p nb s) (W : WOk p nb w x) : SOk p nb (yy s w x).1 ∧ WOk p nb w (yy s w x).2 := by
  have hP := S.P
  unfold yy
  split
  · rename_i h01
    have hv : ∃ v, (1 ≤ v ∧ v ≤ p.Workers) ∧ (x.D.Kind = 2 ∨ x.D.Kind = 3) ∧ x.D.Base = uf p v := by
      rcases h01 with e | e
      · obtain ⟨a, b, c⟩ := W.d0 e; exact ⟨w, hw, .inl a, b⟩
      · obtain ⟨a, b, c⟩ := W.d1 e; exact ⟨x.Victim, W.vic, .inr a, b⟩
    obtain ⟨v, hv1, hv2, hv3⟩ := hv
    refine ⟨zAo h S hv1 hv2 hv3, ?_⟩
    obtain ⟨l1, l2, l3, l4⟩ := zoW s.M x.D
    dsimp only
    split
    · exact WOk.plain (.inl rfl) hw
    split
    · rw [hP]; exact WOk.look hw W.vic
    · refine ⟨W.pc, W.vic, fun e => ?_, fun e => ?_, fun e => by dsimp only at e; omega, fun e => by dsimp only at e; omega, fun e => by dsimp only at e; omega, fun e => by dsimp only at e; omega⟩
      · obtain ⟨a, b, c⟩ := W.d0 e; exact ⟨l2.trans a, l3.trans b, l4.trans c⟩
      · obtain ⟨a, b, c⟩ := W.d1 e; exact ⟨l2.trans a, l3.trans b, l4.trans c⟩
  split
  · rename_i h2
    have C := W.c2 h2
    obtain ⟨b1, b2, b3, b4, b5, b6⟩ := zuB h S (.inl rfl) C.k C.h C.n C.v C.y C.o
    refine ⟨b1, ?_⟩
    dsimp only
    split
    · rename_i e1
      exact ⟨⟨(by show (0 : Int) ≤ 3; decide), (by show (3 : Int) ≤ 9; decide)⟩, W.vic, fun e => (by cases e), fun e => (by cases e), fun e => (by cases e), fun _ => b6 e1, fun e => (by cases e), fun e => (by cases e)⟩
    split
    · rw [hP]; exact WOk.begin hw
    · rename_i e1 e2
      exact ⟨W.pc, W.vic, fun e => (by dsimp only at e; omega), fun e => (by dsimp only at e; omega), fun _ => ⟨b2, b3, b4, (b5 e1 e2).1, (b5 e1 e2).2, e1⟩, fun e => (by dsimp only at e; omega), fun e => (by dsimp only at e; omega), fun e => (by dsimp only at e; omega)⟩
  split
  · rename_i h3
    have B := W.b3 h3
    refine ⟨S.keep rfl rfl (by simp), ?_⟩
    rw [hP]
    exact ⟨⟨(by show (0 : Int) ≤ 4; decide), (by show (4 : Int) ≤ 9; decide)⟩, W.vic, fun e => (by cases e), fun e => (by cases e), fun e => (by cases e), fun e => (by cases e), fun _ => zt4 B, fun e => (by cases e)⟩
  split
  · rename_i h4
    have C := W.c4 h4
    obtain ⟨b1, b2, b3, b4, b5, b6⟩ := zrp h S (.inr rfl) C.k C.h C.n C.x C.v
    refine ⟨b1, ?_⟩
    dsimp only
    split
    · exact WOk.plain (.inr (.inl rfl)) W.vic
    · exact ⟨W.pc, W.vic, fun e => (by dsimp only at e; omega), fun e => (by dsimp only at e; omega), fun e => (by dsimp only at e; omega), fun e => (by dsimp only at e; omega), fun _ => ⟨b2, b3, b4, b5, b6⟩, fun e => (by dsimp only at e; omega)⟩
  split
  · refine ⟨S, ?_⟩
    dsimp only
    split
    · rcases zwZ s (wc (x.Slot + 1)) with e | e <;> rw [e]
      · exact WOk.plain (.inl rfl) W.vic
      · exact WOk.plain (.inr (.inr (.inl rfl))) W.vic
    · exact ⟨⟨(by show (0 : Int) ≤ 6; decide), (by show (6 : Int) ≤ 9; decide)⟩, W.vic, fun e => (by cases e), fun e => (by cases e), fun e => (by cases e), fun e => (by cases e), fun e => (by cases e), fun _ =>
        ⟨⟨fun _ => hw, fun e => (by cases e), fun e => (by cases e), fun e => (by cases e), fun e => (by cases e)⟩, fun e => (by cases e), rfl, by show (0 : Int) ≠ 4; decide⟩⟩
  split
  · rename_i h6
    obtain ⟨g1, g2, g3, g4⟩ := W.g6 h6
    obtain ⟨r1, r2, r3⟩ := zr9 h S g1 g2
    refine ⟨r1, ?_⟩
    dsimp only
    split
    · rcases zwZ s x.Slot with e | e <;> rw [e]
      · exact WOk.plain (.inl rfl) W.vic
      · exact WOk.plain (.inr (.inr (.inl rfl))) W.vic
    · exact ⟨W.pc, W.vic, fun e => (by dsimp only at e; omega), fun e => (by dsimp only at e; omega), fun e => (by dsimp only at e; omega), fun e => (by dsimp only at e; omega), fun e => (by dsimp only at e; omega), fun _ => ⟨r2, r3, (zpw s x.G).2.2.trans g3, (zzc s g3 g4).1⟩⟩
  split
  · refine ⟨S, ?_⟩
    dsimp only
    split
    · rw [hP]; exact WOk.begin hw
    · exact WOk.plain (.inl rfl) W.vic
  split
  · exact ⟨S.keep rfl rfl rfl, WOk.plain (.inr (.inr (.inr rfl))) W.vic⟩
  split
  · exact ⟨S.keep rfl rfl rfl, WOk.plain (.inr (.inl rfl)) W.vic⟩
  · have := W.pc
    omega
end
end Go.Pe.G
namespace Go.Pe.G
open Go.Pe
noncomputable section
def zso (h : zF) (o s v : Int) : zF :=
  if Ui h o s = true ∧ 0 ≤ v ∧ v ≤ (h.Objs.length : Int) then { h with Objs := h.Objs.set (o - 1).toNat ((xE h o).set s.toNat v) } else h
def zwu (h : zF) (most : Int) : Bool := decide ((h.Objs.length : Int) < most) && decide ((h.Objs.length : Int) < 64)
def zuc (h : zF) : zF := { h with Objs := h.Objs ++ [List.replicate h.Slots.toNat 0] }
def zzP (t : zr) (o : Int) : zr := if (UM t o).2 = true then zkZ (UM t o).1 o else t
def ztl (l : zq) (who : Int) : Int := l.Bal.getD (who - 1).toNat 0
def zw5 (l : zq) (who : Int) : Bool := decide (1 ≤ who) && decide (who ≤ (l.Bal.length : Int))
def zvu (l : zq) (who price limit : Int) : Bool := zw5 l who && decide (0 ≤ price) && decide (0 ≤ limit) && decide (price ≤ 1000000) && decide (limit ≤ 1000000)
def zz2 (l : zq) (who price limit : Int) : Bool := zvu l who price limit && decide (wc (-limit) ≤ wc (ztl l who - price))
def zus (l : zq) (who price : Int) : zq := { l with Spent := wc (l.Spent + price), Bal := l.Bal.set (who - 1).toNat (wc (ztl l who - price)) }
def zwM (l : zq) (who price limit : Int) : Int := if zvu l who price limit then (if zz2 l who price limit then 0 else wc (wc (price - limit) - ztl l who)) else -1
def zwo (a b : Int) : Int := if b < a then b else a
def ztm (l : zq) (who want : Int) : zq × Int :=
  if zw5 l who = true ∧ 0 < zwo want l.Pool then ({ l with Pool := wc (l.Pool - zwo want l.Pool), Bal := l.Bal.set (who - 1).toNat (wc (ztl l who + zwo want l.Pool)) }, zwo want l.Pool) else (l, 0)
def XQ (p : zd) (m : Int) : List zi := p.Progs.getD (m - 1).toNat []
def opM (p : zd) (m : Int) (x : zc) : zi := (XQ p m).getD x.IP.toNat ⟨0, 0, 0, 0⟩
def zua (x : zc) (r : Int) : Int := x.Regs.getD r.toNat 0
def ztr (x : zc) : zc := { x with PC := 0, IP := wc (x.IP + 1) }
def setM (x : zc) (r v : Int) : zc := { x with PC := 0, IP := wc (x.IP + 1), Regs := x.Regs.set r.toNat v }
def onM (s : zb) (slot : Int) : Int := if slot = s.H.Slots then 38 else 36
def zyR (s : zb) (m : Int) (x : zc) : Int := Uh s.H (zua x (opM s.P m x).A) (opM s.P m x).S
def zqV (s : zb) (m : Int) (x : zc) : zc :=
  if s.Acks.getD (m - 1).toNat 0 < s.Epoch then { x with PC := 1, Ret := 2, Want := s.Epoch }
  else if ((XQ s.P m).length : Int) ≤ x.IP then x
  else if (opM s.P m x).Kind = 1 then { x with PC := 10 }
  else if (opM s.P m x).Kind = 2 then { x with PC := 20 }
  else if (opM s.P m x).Kind = 3 then { x with PC := 30 }
  else if (opM s.P m x).Kind = 4 then setM x (opM s.P m x).R (zua x (opM s.P m x).A)
  else setM x (opM s.P m x).R 0
def mu0 (s : zb) (m : Int) (x : zc) : zb × zc :=
  (s, zqV s m x)
def mu1 (s : zb) (m : Int) (x : zc) : zb × zc :=
  (s, if x.Buf.length = 0 then { x with PC := x.Ret } else { x with PC := 3, Buf := x.Buf.take (x.Buf.length - 1), G := zp4 2 (x.Buf.getD (x.Buf.length - 1) 0) m })
def mu2 (s : zb) (m : Int) (x : zc) : zb × zc :=
  ({ s with Acks := s.Acks.set (m - 1).toNat x.Want }, { x with PC := 0 })
def mu3 (s : zb) (m : Int) (x : zc) : zb × zc :=
  ((ya s x.G).1, if (ya s x.G).2.Out = 1 then { x with PC := 1, G := (ya s x.G).2 } else { x with G := (ya s x.G).2 })
def zre (s : zb) (m : Int) (x : zc) : zb × zc :=
  (s, setM x (opM s.P m x).R (zyR s m x))
def zrK (s : zb) (m : Int) (x : zc) : zb × zc :=
  (s, if zua x (opM s.P m x).A = 0 then ztr x else { x with PC := 21, Old := zyR s m x })
def zri (s : zb) (m : Int) (x : zc) : zb × zc :=
  (s, if x.Old = 0 ∨ zbY s.T x.Old ≠ 0 then { x with PC := 23, Old := 0 } else { x with PC := 22 })
def zsa (s : zb) (m : Int) (x : zc) : zb × zc :=
  (s, if s.P.Buf ≤ (x.Buf.length : Int) then { x with PC := 1, Ret := 22 } else { x with PC := 23, Old := 0, Buf := x.Buf ++ [x.Old] })
def zrv (s : zb) (m : Int) (x : zc) : zb × zc :=
  ({ s with H := zso s.H (zua x (opM s.P m x).A) (opM s.P m x).S (zua x (opM s.P m x).R) }, ztr x)
def zsi (s : zb) (m : Int) (x : zc) : zb × zc :=
     if zz2 s.L m s.P.Price s.P.Limit = true then
      if zwu s.H s.P.Most = true then ({ s with L := zus s.L m s.P.Price, H := zuc s.H, T := zzP s.T (wc (s.H.Objs.length + 1)) }, setM x (opM s.P m x).R (wc (s.H.Objs.length + 1)))
      else (s, ztr x)
    else (s, { x with PC := 31 })
def zrG (s : zb) (m : Int) (x : zc) : zb × zc :=
     ({ s with L := (ztm s.L m (zwM s.L m s.P.Price s.P.Limit)).1 }, if (ztm s.L m (zwM s.L m s.P.Price s.P.Limit)).2 = 0 then { x with PC := 32, C := zvW s.P (wj s.P) x.Bin } else { x with PC := 0 })
def zsd (s : zb) (m : Int) (x : zc) : zb × zc :=
     ({ s with M := (zI s.M x.C).1 }, if (zI s.M x.C).2.Out = 1 then { x with PC := 33, Bin := (zI s.M x.C).2.X, C := (zI s.M x.C).2 }
      else if (zI s.M x.C).2.Out = 2 then { x with PC := 0, C := (zI s.M x.C).2 } else { x with C := (zI s.M x.C).2 })
def zrE (s : zb) (m : Int) (x : zc) : zb × zc :=
  ({ s with Bins := s.Bins.set x.Bin.toNat [] }, { x with Batch := zlB s x.Bin, PC := 34, C := zwp s.P (yK s.P) x.Bin })
def zrZ (s : zb) (m : Int) (x : zc) : zb × zc :=
     ({ s with M := (zI s.M x.C).1 }, if (zI s.M x.C).2.Out = 1 then { x with C := (zI s.M x.C).2, Bin := 0, PC := 35 } else { x with C := (zI s.M x.C).2 })
def zrf (s : zb) (m : Int) (x : zc) : zb × zc :=
  (s, match x.Batch with | [] => { x with PC := 0 } | o :: l => { x with PC := 36, Obj := o, Slot := 0, Batch := l })
def zrQ (s : zb) (m : Int) (x : zc) : zb × zc :=
     (s, if Uh s.H x.Obj x.Slot = 0 then { x with Slot := wc (x.Slot + 1), PC := onM s (wc (x.Slot + 1)) } else { x with Slot := wc (x.Slot + 1), PC := 37, G := zp4 3 (Uh s.H x.Obj x.Slot) m })
def zrS (s : zb) (m : Int) (x : zc) : zb × zc :=
  ((ya s x.G).1, if (ya s x.G).2.Out = 1 then { x with G := (ya s x.G).2, PC := onM s x.Slot } else { x with G := (ya s x.G).2 })
def zr1 (s : zb) (m : Int) (x : zc) : zb × zc :=
  ({ s with T := zkZ s.T x.Obj, L := zjg s.L m }, { x with PC := 39 })
def zrh (s : zb) (m : Int) (x : zc) : zb × zc :=
  ({ s with Work := wc (s.Work - 1) }, { x with Obj := 0, PC := 35 })
def wO (s : zb) (m : Int) (x : zc) : zb × zc :=
  if x.PC = 0 then mu0 s m x
  else if x.PC = 1 then mu1 s m x
  else if x.PC = 2 then mu2 s m x
  else if x.PC = 3 then mu3 s m x
  else if x.PC = 10 then zre s m x
  else if x.PC = 20 then zrK s m x
  else if x.PC = 21 then zri s m x
  else if x.PC = 22 then zsa s m x
  else if x.PC = 23 then zrv s m x
  else if x.PC = 30 then zsi s m x
  else if x.PC = 31 then zrG s m x
  else if x.PC = 32 then zsd s m x
  else if x.PC = 33 then zrE s m x
  else if x.PC = 34 then zrZ s m x
  else if x.PC = 35 then zrf s m x
  else if x.PC = 36 then zrQ s m x
  else if x.PC = 37 then zrS s m x
  else if x.PC = 38 then zr1 s m x
  else if x.PC = 39 then zrh s m x
  else (s, x)
def zoQ (s : zb) (m : Int) : zb :=
  if s.Done = true ∨ m < 1 ∨ (s.Ms.length : Int) < m then s
  else match s.Ms[(m - 1).toNat]? with
    | some x => { (wO s m x).1 with Ms := s.Ms.set (m - 1).toNat (wO s m x).2 }
    | none => s
def zqg (p : zd) (m : Int) : Nat := (p.Regs.getD (m - 1).toNat []).length
structure XOk (p : zd) (nb : Nat) (m : Int) (x : zc) : Prop where
  pc : (0 ≤ x.PC ∧ x.PC ≤ 3) ∨ x.PC = 10 ∨ (20 ≤ x.PC ∧ x.PC ≤ 23) ∨ (30 ≤ x.PC ∧ x.PC ≤ 39)
  regs : x.Regs.length = zqg p m
  ip : 0 ≤ x.IP ∧ x.IP ≤ ((XQ p m).length : Int)
  op : (10 ≤ x.PC ∧ x.PC ≤ 30) ∨ ((x.PC = 1 ∨ x.PC = 3) ∧ x.Ret = 22) → x.IP < ((XQ p m).length : Int)
  ret : x.PC = 1 ∨ x.PC = 3 → x.Ret = 2 ∨ x.Ret = 22
  c32 : x.PC = 32 → zv3 p nb (wj p) x.C
  b33 : x.PC = 33 → 1 ≤ x.Bin ∧ x.Bin < nb
  c34 : x.PC = 34 → ztI p nb (yK p) x.C
  bin : x.PC ≠ 33 → x.PC ≠ 34 → x.Bin = 0
  g : x.PC = 3 ∨ x.PC = 37 → MOk p nb x.G ∧ (x.G.PC = 5 → x.G.C.Out ≠ 1) ∧ x.G.Mode ≠ 1
  buf : (x.Buf.length : Int) ≤ p.Buf
theorem XOk.move {p : zd} {nb : Nat} {m : Int} {x y : zc} (X : XOk p nb m x) (h : x.PC ≠ 33 ∧ x.PC ≠ 34) (pc : y.PC = 0 ∨ y.PC = 2 ∨ y.PC = 10 ∨ (20 ≤ y.PC ∧ y.PC ≤ 23) ∨ y.PC = 30 ∨ y.PC = 31 ∨ y.PC = 35 ∨ y.PC = 36 ∨ y.PC = 38 ∨ y.PC = 39)
    (regs : y.Regs.length = x.Regs.length) (bin : y.Bin = x.Bin) (buf : (y.Buf.length : Int) ≤ p.Buf) (ip : 0 ≤ y.IP ∧ y.IP ≤ ((XQ p m).length : Int)) (op : 10 ≤ y.PC ∧ y.PC ≤ 30 → y.IP < ((XQ p m).length : Int)) : XOk p nb m y :=
  ⟨by omega, regs.trans X.regs, ip, fun e => op (by omega), fun e => by omega, fun e => by omega, fun e => by omega, fun e => by omega, fun _ _ => bin.trans (X.bin h.1 h.2), fun e => by omega, buf⟩
theorem zxv (s : zb) (i : Int) : onM s i = 36 ∨ onM s i = 38 := by unfold onM; split <;> simp
theorem XOk.next {p : zd} {nb : Nat} {m : Int} {x : zc} (hp : ((XQ p m).length : Int) ≤ 64) (X : XOk p nb m x) (h : x.PC ≠ 33 ∧ x.PC ≠ 34) (hi : x.IP < ((XQ p m).length : Int)) : XOk p nb m (ztr x) := by
  have := X.ip
  have e : wc (x.IP + 1) = x.IP + 1 := Yh (by omega) (by omega)
  refine X.move h (.inl rfl) rfl rfl X.buf ?_ (fun h => absurd h (by show ¬ ((10 : Int) ≤ 0 ∧ (0 : Int) ≤ 30); decide))
  show 0 ≤ wc (x.IP + 1) ∧ wc (x.IP + 1) ≤ _
  rw [e]; omega
theorem XOk.set {p : zd} {nb : Nat} {m : Int} {x : zc} (hp : ((XQ p m).length : Int) ≤ 64) (X : XOk p nb m x) (h : x.PC ≠ 33 ∧ x.PC ≠ 34) (hi : x.IP < ((XQ p m).length : Int)) (r v : Int) : XOk p nb m (setM x r v) := by
  have := X.ip
  have e : wc (x.IP + 1) = x.IP + 1 := Yh (by omega) (by omega)
  refine X.move h (.inl rfl) (by simp [setM]) rfl X.buf ?_ (fun h => absurd h (by show ¬ ((10 : Int) ≤ 0 ∧ (0 : Int) ≤ 30); decide))
  show 0 ≤ wc (x.IP + 1) ∧ wc (x.IP + 1) ≤ _
  rw [e]; omega
theorem zck {motive : zb × zc → Prop} (s : zb) (m : Int) (x : zc) (h0 : x.PC = 0 → motive (mu0 s m x)) (h1 : x.PC = 1 → motive (mu1 s m x)) (h2 : x.PC = 2 → motive (mu2 s m x)) (h3 : x.PC = 3 → motive (mu3 s m x)) (h10 : x.PC = 10 → motive (zre s m x)) (h20 : x.PC = 20 → motive (zrK s m x)) (h21 : x.PC = 21 → motive (zri s m x)) (h22 : x.PC = 22 → motive (zsa s m x)) (h23 : x.PC = 23 → motive (zrv s m x)) (h30 : x.PC = 30 → motive (zsi s m x)) (h31 : x.PC = 31 → motive (zrG s m x)) (h32 : x.PC = 32 → motive (zsd s m x)) (h33 : x.PC = 33 → motive (zrE s m x)) (h34 : x.PC = 34 → motive (zrZ s m x)) (h35 : x.PC = 35 → motive (zrf s m x)) (h36 : x.PC = 36 → motive (zrQ s m x)) (h37 : x.PC = 37 → motive (zrS s m x)) (h38 : x.PC = 38 → motive (zr1 s m x)) (h39 : x.PC = 39 → motive (zrh s m x)) (hn : motive (s, x)) : motive (wO s m x) := by
  unfold wO
  by_cases c0 : x.PC = 0
  · rw [if_pos c0]; exact h0 c0
  rw [if_neg c0]
  by_cases c1 : x.PC = 1
  · rw [if_pos c1]; exact h1 c1
  rw [if_neg c1]
  by_cases c2 : x.PC = 2
  · rw [if_pos c2]; exact h2 c2
  rw [if_neg c2]
  by_cases c3 : x.PC = 3
  · rw [if_pos c3]; exact h3 c3
  rw [if_neg c3]
  by_cases c10 : x.PC = 10
  · rw [if_pos c10]; exact h10 c10
  rw [if_neg c10]
  by_cases c20 : x.PC = 20
  · rw [if_pos c20]; exact h20 c20
  rw [if_neg c20]
  by_cases c21 : x.PC = 21
  · rw [if_pos c21]; exact h21 c21
  rw [if_neg c21]
  by_cases c22 : x.PC = 22
  · rw [if_pos c22]; exact h22 c22
  rw [if_neg c22]
  by_cases c23 : x.PC = 23
  · rw [if_pos c23]; exact h23 c23
  rw [if_neg c23]
  by_cases c30 : x.PC = 30
  · rw [if_pos c30]; exact h30 c30
  rw [if_neg c30]
  by_cases c31 : x.PC = 31
  · rw [if_pos c31]; exact h31 c31
  rw [if_neg c31]
  by_cases c32 : x.PC = 32
  · rw [if_pos c32]; exact h32 c32
  rw [if_neg c32]
  by_cases c33 : x.PC = 33
  · rw [if_pos c33]; exact h33 c33
  rw [if_neg c33]
  by_cases c34 : x.PC = 34
  · rw [if_pos c34]; exact h34 c34
  rw [if_neg c34]
  by_cases c35 : x.PC = 35
  · rw [if_pos c35]; exact h35 c35
  rw [if_neg c35]
  by_cases c36 : x.PC = 36
  · rw [if_pos c36]; exact h36 c36
  rw [if_neg c36]
  by_cases c37 : x.PC = 37
  · rw [if_pos c37]; exact h37 c37
  rw [if_neg c37]
  by_cases c38 : x.PC = 38
  · rw [if_pos c38]; exact h38 c38
  rw [if_neg c38]
  by_cases c39 : x.PC = 39
  · rw [if_pos c39]; exact h39 c39
  rw [if_neg c39]
  exact hn
theorem zAg {p : zd} {nb : Nat} {s : zb} {m : Int} {x : zc} (h : z7 p) (hp : ((XQ p m).length : Int) ≤ 64) (S : SOk p nb s) (X : XOk p nb m x) : SOk p nb (wO s m x).1 ∧ XOk p nb m (wO s m x).2 := by
  have hP := S.P
  have hip := X.ip
  have hbuf := X.buf
  have hb := h.buf
  have nop : ∀ y : Int, 31 ≤ y → ¬ (10 ≤ y ∧ y ≤ 30) := fun y h e => by omega
  refine zck (motive := fun r => SOk p nb r.1 ∧ XOk p nb m r.2) s m x ?_ ?_ ?_ ?_ ?_ ?_ ?_ ?_ ?_ ?_ ?_ ?_ ?_ ?_ ?_ ?_ ?_ ?_ ?_ ?_
  · intro c
    unfold mu0
    refine ⟨S, ?_⟩
    unfold zqV
    rw [hP]
    split
    · exact ⟨.inl ⟨(by show (0 : Int) ≤ 1; decide), (by show (1 : Int) ≤ 3; decide)⟩, X.regs, X.ip, fun e => by dsimp only at e; omega, fun _ => .inl rfl, fun e => (by cases e), fun e => (by cases e), fun e => (by cases e), fun _ _ => X.bin (by omega) (by omega), fun e => by dsimp only at e; omega, X.buf⟩
    split
    · exact X
    rename_i hlt
    have hlt : x.IP < ((XQ p m).length : Int) := by omega
    split
    · exact X.move (by omega) (.inr (.inr (.inl rfl))) rfl rfl X.buf X.ip (fun _ => hlt)
    split
    · exact X.move (by omega) (.inr (.inr (.inr (.inl ⟨by show (20 : Int) ≤ 20; decide, by show (20 : Int) ≤ 23; decide⟩)))) rfl rfl X.buf X.ip (fun _ => hlt)
    split
    · exact X.move (by omega) (.inr (.inr (.inr (.inr (.inl rfl))))) rfl rfl X.buf X.ip (fun _ => hlt)
    split
    · exact X.set hp (by omega) hlt _ _
    · exact X.set hp (by omega) hlt _ _
  · intro c
    unfold mu1
    refine ⟨S, ?_⟩
    split
    · rcases X.ret (.inl c) with e | e
      · exact X.move (by omega) (.inr (.inl e)) rfl rfl X.buf X.ip (fun e2 => by dsimp only at e2; omega)
      · exact X.move (by omega) (.inr (.inr (.inr (.inl (by dsimp only; omega))))) rfl rfl X.buf X.ip (fun e2 => X.op (.inr ⟨.inl c, e⟩))
    · exact ⟨.inl ⟨(by show (0 : Int) ≤ 3; decide), (by show (3 : Int) ≤ 3; decide)⟩, X.regs, X.ip, fun e => X.op (.inr ⟨.inl c, by dsimp only at e; omega⟩), fun _ => X.ret (.inl c), fun e => (by cases e), fun e => (by cases e), fun e => (by cases e), fun _ _ => X.bin (by omega) (by omega),
        fun _ => ⟨⟨fun e => absurd e (by show ¬ (2 : Int) = 1; decide), fun e => (by cases e), fun e => (by cases e), fun e => (by cases e), fun e => (by cases e)⟩, fun e => (by cases e), by show (2 : Int) ≠ 1; decide⟩, by dsimp only; rw [List.length_take]; omega⟩
  · intro c
    unfold mu2
    exact ⟨S.keep rfl rfl rfl, X.move (by omega) (.inl rfl) rfl rfl X.buf X.ip (fun e => absurd e (by show ¬ ((10 : Int) ≤ 0 ∧ (0 : Int) ≤ 30); decide))⟩
  · intro c
    unfold mu3
    obtain ⟨g1, g2, g3⟩ := X.g (.inl c)
    obtain ⟨r1, r2, r3⟩ := zr9 h S g1 g2
    refine ⟨r1, ?_⟩
    dsimp only
    split
    · exact ⟨.inl ⟨(by show (0 : Int) ≤ 1; decide), (by show (1 : Int) ≤ 3; decide)⟩, X.regs, X.ip, fun e => X.op (.inr ⟨.inr c, by dsimp only at e; omega⟩), fun _ => X.ret (.inr c), fun e => (by cases e), fun e => (by cases e), fun e => (by cases e), fun _ _ => X.bin (by omega) (by omega), fun e => by dsimp only at e; omega, X.buf⟩
    · exact ⟨X.pc, X.regs, X.ip, X.op, X.ret, fun e => by dsimp only at e; omega, fun e => by dsimp only at e; omega, fun e => by dsimp only at e; omega, X.bin, fun _ => ⟨r2, r3, by rw [(zpw s x.G).2.2]; exact g3⟩, X.buf⟩
  · intro c
    unfold zre
    exact ⟨S, X.set hp (by omega) (X.op (.inl (by omega))) _ _⟩
  · intro c
    unfold zrK
    refine ⟨S, ?_⟩
    split
    · exact X.next hp (by omega) (X.op (.inl (by omega)))
    · exact X.move (by omega) (.inr (.inr (.inr (.inl ⟨by show (20 : Int) ≤ 21; decide, by show (21 : Int) ≤ 23; decide⟩)))) rfl rfl X.buf X.ip (fun _ => X.op (.inl (by omega)))
  · intro c
    unfold zri
    refine ⟨S, ?_⟩
    split
    · exact X.move (by omega) (.inr (.inr (.inr (.inl ⟨by show (20 : Int) ≤ 23; decide, by show (23 : Int) ≤ 23; decide⟩)))) rfl rfl X.buf X.ip (fun _ => X.op (.inl (by omega)))
    · exact X.move (by omega) (.inr (.inr (.inr (.inl ⟨by show (20 : Int) ≤ 22; decide, by show (22 : Int) ≤ 23; decide⟩)))) rfl rfl X.buf X.ip (fun _ => X.op (.inl (by omega)))
  · intro c
    unfold zsa
    have hi := X.op (.inl (by omega))
    refine ⟨S, ?_⟩
    rw [hP]
    split
    · exact ⟨.inl ⟨(by show (0 : Int) ≤ 1; decide), (by show (1 : Int) ≤ 3; decide)⟩, X.regs, X.ip, fun e => hi, fun _ => .inr rfl, fun e => (by cases e), fun e => (by cases e), fun e => (by cases e), fun _ _ => X.bin (by omega) (by omega), fun e => by dsimp only at e; omega, X.buf⟩
    · exact X.move (by omega) (.inr (.inr (.inr (.inl ⟨by show (20 : Int) ≤ 23; decide, by show (23 : Int) ≤ 23; decide⟩)))) rfl rfl (by simp; omega) X.ip (fun _ => hi)
  · intro c
    unfold zrv
    exact ⟨S.keep rfl rfl rfl, X.next hp (by omega) (X.op (.inl (by omega)))⟩
  · intro c
    unfold zsi
    have hi := X.op (.inl (by omega))
    split
    · split
      · exact ⟨S.keep rfl rfl rfl, X.set hp (by omega) hi _ _⟩
      · exact ⟨S, X.next hp (by omega) hi⟩
    · exact ⟨S, X.move (by omega) (.inr (.inr (.inr (.inr (.inr (.inl rfl)))))) rfl rfl X.buf X.ip (fun e => absurd e (by show ¬ ((10 : Int) ≤ 31 ∧ (31 : Int) ≤ 30); decide))⟩
  · intro c
    unfold zrG
    refine ⟨S.keep rfl rfl rfl, ?_⟩
    rw [hP]
    split
    · exact ⟨.inr (.inr (.inr ⟨(by show (30 : Int) ≤ 32; decide), (by show (32 : Int) ≤ 39; decide)⟩)), X.regs, X.ip, fun e => by dsimp only at e; omega, fun e => by dsimp only at e; omega, fun _ => zvp, fun e => (by cases e), fun e => (by cases e), fun _ _ => X.bin (by omega) (by omega), fun e => by dsimp only at e; omega, X.buf⟩
    · exact X.move (by omega) (.inl rfl) rfl rfl X.buf X.ip (fun e => absurd e (by show ¬ ((10 : Int) ≤ 0 ∧ (0 : Int) ≤ 30); decide))
  · intro c
    unfold zsd
    have C := X.c32 c
    obtain ⟨b1, b2, b3, b4, b5, b6⟩ := zuB h S (.inl rfl) C.k C.h C.n C.v C.y C.o
    refine ⟨b1, ?_⟩
    dsimp only
    split
    · rename_i e1
      exact ⟨.inr (.inr (.inr ⟨(by show (30 : Int) ≤ 33; decide), (by show (33 : Int) ≤ 39; decide)⟩)), X.regs, X.ip, fun e => by dsimp only at e; omega, fun e => by dsimp only at e; omega, fun e => (by cases e), fun _ => b6 e1, fun e => (by cases e), fun e => absurd rfl e, fun e => by dsimp only at e; omega, X.buf⟩
    split
    · exact X.move (by omega) (.inl rfl) rfl rfl X.buf X.ip (fun e => absurd e (by show ¬ ((10 : Int) ≤ 0 ∧ (0 : Int) ≤ 30); decide))
    · rename_i e1 e2
      exact ⟨X.pc, X.regs, X.ip, X.op, X.ret, fun _ => ⟨b2, b3, b4, (b5 e1 e2).1, (b5 e1 e2).2, e1⟩, fun e => by dsimp only at e; omega, fun e => by dsimp only at e; omega, X.bin, fun e => by dsimp only at e; omega, X.buf⟩
  · intro c
    unfold zrE
    have B := X.b33 c
    refine ⟨S.keep rfl rfl (by simp), ?_⟩
    rw [hP]
    exact ⟨.inr (.inr (.inr ⟨(by show (30 : Int) ≤ 34; decide), (by show (34 : Int) ≤ 39; decide)⟩)), X.regs, X.ip, fun e => by dsimp only at e; omega, fun e => by dsimp only at e; omega, fun e => (by cases e), fun e => (by cases e), fun _ => zt4 B, fun _ e => absurd rfl e, fun e => by dsimp only at e; omega, X.buf⟩
  · intro c
    unfold zrZ
    have C := X.c34 c
    obtain ⟨b1, b2, b3, b4, b5, b6⟩ := zrp h S (.inr rfl) C.k C.h C.n C.x C.v
    refine ⟨b1, ?_⟩
    dsimp only
    split
    · exact ⟨.inr (.inr (.inr ⟨(by show (30 : Int) ≤ 35; decide), (by show (35 : Int) ≤ 39; decide)⟩)), X.regs, X.ip, fun e => by dsimp only at e; omega, fun e => by dsimp only at e; omega, fun e => (by cases e), fun e => (by cases e), fun e => (by cases e), fun _ _ => rfl, fun e => by dsimp only at e; omega, X.buf⟩
    · exact ⟨X.pc, X.regs, X.ip, X.op, X.ret, fun e => by dsimp only at e; omega, fun e => by dsimp only at e; omega, fun _ => ⟨b2, b3, b4, b5, b6⟩, X.bin, fun e => by dsimp only at e; omega, X.buf⟩
  · intro c
    unfold zrf
    refine ⟨S, ?_⟩
    dsimp only
    split
    · exact X.move (by omega) (.inl rfl) rfl rfl X.buf X.ip (fun e => absurd e (by show ¬ ((10 : Int) ≤ 0 ∧ (0 : Int) ≤ 30); decide))
    · exact X.move (by omega) (by simp) rfl rfl X.buf X.ip (fun e => absurd e (nop 36 (by omega)))
  · intro c
    unfold zrQ
    refine ⟨S, ?_⟩
    dsimp only
    split
    · rcases zxv s (wc (x.Slot + 1)) with e | e <;> rw [e]
      · exact X.move (by omega) (by simp) rfl rfl X.buf X.ip (fun e => absurd e (nop 36 (by omega)))
      · exact X.move (by omega) (by simp) rfl rfl X.buf X.ip (fun e => absurd e (nop 38 (by omega)))
    · exact ⟨.inr (.inr (.inr ⟨(by show (30 : Int) ≤ 37; decide), (by show (37 : Int) ≤ 39; decide)⟩)), X.regs, X.ip, fun e => by dsimp only at e; omega, fun e => by dsimp only at e; omega, fun e => (by cases e), fun e => (by cases e), fun e => (by cases e), fun _ _ => X.bin (by omega) (by omega),
        fun _ => ⟨⟨fun e => absurd e (by show ¬ (3 : Int) = 1; decide), fun e => (by cases e), fun e => (by cases e), fun e => (by cases e), fun e => (by cases e)⟩, fun e => (by cases e), by show (3 : Int) ≠ 1; decide⟩, X.buf⟩
  · intro c
    unfold zrS
    obtain ⟨g1, g2, g3⟩ := X.g (.inr c)
    obtain ⟨r1, r2, r3⟩ := zr9 h S g1 g2
    refine ⟨r1, ?_⟩
    dsimp only
    split
    · rcases zxv s x.Slot with e | e <;> rw [e]
      · exact X.move (by omega) (by simp) rfl rfl X.buf X.ip (fun e => absurd e (nop 36 (by omega)))
      · exact X.move (by omega) (by simp) rfl rfl X.buf X.ip (fun e => absurd e (nop 38 (by omega)))
    · exact ⟨X.pc, X.regs, X.ip, X.op, X.ret, fun e => by dsimp only at e; omega, fun e => by dsimp only at e; omega, fun e => by dsimp only at e; omega, X.bin, fun _ => ⟨r2, r3, by rw [(zpw s x.G).2.2]; exact g3⟩, X.buf⟩
  · intro c
    unfold zr1
    exact ⟨S.keep rfl rfl rfl, X.move (by omega) (by simp) rfl rfl X.buf X.ip (fun e => absurd e (nop 39 (by omega)))⟩
  · intro c
    unfold zrh
    exact ⟨S.keep rfl rfl rfl, X.move (by omega) (by simp) rfl rfl X.buf X.ip (fun e => absurd e (nop 35 (by omega)))⟩
  · exact ⟨S, X⟩
end
end Go.Pe.G
namespace Go.Pe.G
open Go.Pe
noncomputable section
def zvw (s : zb) : zb :=
  if s.Done = true then s
  else if s.D.PC = 0 then { s with Flag := false, D := { s.D with PC := 1 } }
  else if s.D.PC = 1 then (if s.Work = 0 then { s with D := { s.D with PC := 2 } } else s)
  else if s.D.PC = 2 then { s with Epoch := wc (s.Epoch + 1), D := ⟨if s.Ms.length = 0 then 4 else 3, 0⟩ }
  else if s.D.PC = 3 then (if s.Acks.getD s.D.I.toNat 0 < s.Epoch then s else { s with D := ⟨if wc (s.D.I + 1) = (s.Ms.length : Int) then 4 else 3, wc (s.D.I + 1)⟩ })
  else if s.D.PC = 4 then (if s.Work = 0 then { s with D := { s.D with PC := 5 } } else { s with Restarts := wc (s.Restarts + 1), D := { s.D with PC := 0 } })
  else if s.D.PC = 5 then (if s.Flag = true then { s with Restarts := wc (s.Restarts + 1), D := { s.D with PC := 0 } } else { s with D := { s.D with PC := 6 } })
  else if s.D.PC = 6 then { s with Done := true }
  else s
structure HOk (p : zd) (h : zF) : Prop where
  slots : h.Slots = p.H.Slots
  n : (p.H.Objs.length : Int) ≤ (h.Objs.length : Int) ∧ (h.Objs.length : Int) ≤ p.Most
  objs : ∀ o ∈ h.Objs, (o.length : Int) = h.Slots ∧ ∀ v ∈ o, 0 ≤ v ∧ v ≤ (h.Objs.length : Int)
structure EOk (p : zd) (nb : Nat) (s : zb) : Prop where
  S : SOk p nb s
  wl : (s.Ws.length : Int) = p.Workers
  ml : (s.Ms.length : Int) = p.Mutators
  al : s.Acks.length = s.Ms.length
  W : ∀ (i : Nat) x, s.Ws[i]? = some x → WOk p nb ((i : Int) + 1) x
  X : ∀ (i : Nat) x, s.Ms[i]? = some x → XOk p nb ((i : Int) + 1) x
  H : HOk p s.H
  D : (0 ≤ s.D.PC ∧ s.D.PC ≤ 6) ∧ (s.D.PC = 3 → 0 ≤ s.D.I ∧ s.D.I < (s.Ms.length : Int))
  small : uW s
theorem zvT {p : zd} (h : z7 p) (m : Int) : ((XQ p m).length : Int) ≤ 64 := by
  unfold XQ
  have hr := h.regs
  have hp := h.progs
  rw [List.getD_eq_getElem?_getD]
  rcases Nat.lt_or_ge (m - 1).toNat p.Progs.length with hl | hl
  · rw [List.getElem?_eq_getElem hl]
    have hl2 : (m - 1).toNat < p.Regs.length := by omega
    have := (h.prog (m - 1).toNat _ _ (List.getElem?_eq_getElem hl2) (List.getElem?_eq_getElem hl)).1
    show ((p.Progs[(m - 1).toNat]).length : Int) ≤ 64
    omega
  · rw [List.getElem?_eq_none hl]; show (([] : List zi).length : Int) ≤ 64; simp
theorem zwX {p : zd} (h : z7 p) : EOk p (xu p + 1) (zbp p) := by
  have hw := h.wk
  have hm := h.mt
  have hr := h.regs
  have hn := h.n
  have hmo := h.most
  have hb := h.buf
  refine ⟨zvL h, ?_, ?_, ?_, fun i x hx => ?_, fun i x hx => ?_, ⟨rfl, ⟨Int.le_refl _, hmo.1⟩, h.objs⟩, ⟨⟨by show (0 : Int) ≤ 0; decide, by show (0 : Int) ≤ 6; decide⟩, fun e => absurd e (by show ¬ (0 : Int) = 3; decide)⟩, zsr h⟩
  · show (((List.range p.Workers.toNat).map (Ug p)).length : Int) = _
    rw [List.length_map, List.length_range]; omega
  · show ((p.Regs.map uO).length : Int) = _
    rw [List.length_map]; exact hr
  · show (List.replicate p.Mutators.toNat (0 : Int)).length = (p.Regs.map uO).length
    rw [List.length_replicate, List.length_map]; omega
  · have hx : ((List.range p.Workers.toNat).map (Ug p))[i]? = some x := hx
    rw [List.getElem?_map] at hx
    rcases Nat.lt_or_ge i p.Workers.toNat with hl | hl
    · rw [List.getElem?_range hl] at hx
      injection hx with hx
      subst hx
      exact ⟨⟨by show (0 : Int) ≤ 0; decide, by show (0 : Int) ≤ 9; decide⟩, by show 1 ≤ (i : Int) + 1 ∧ (i : Int) + 1 ≤ p.Workers; omega, fun _ => ⟨rfl, rfl, rfl⟩, fun e => (by cases e), fun e => (by cases e), fun e => (by cases e), fun e => (by cases e), fun e => (by cases e)⟩
    · rw [List.getElem?_eq_none (by rw [List.length_range]; exact hl)] at hx; cases hx
  · have hx : (p.Regs.map uO)[i]? = some x := hx
    rw [List.getElem?_map] at hx
    cases hq : p.Regs[i]? with
    | none => rw [hq] at hx; cases hx
    | some r =>
      rw [hq] at hx
      injection hx with hx
      subst hx
      refine ⟨.inl ⟨by show (0 : Int) ≤ 0; decide, by show (0 : Int) ≤ 3; decide⟩, ?_, ⟨by show (0 : Int) ≤ 0; decide, by show (0 : Int) ≤ _; omega⟩, fun e => absurd e ?_, fun e => absurd e ?_, fun e => (by cases e), fun e => (by cases e), fun e => (by cases e), fun _ _ => rfl, fun e => absurd e ?_, by show (0 : Int) ≤ p.Buf; omega⟩
      · show r.length = zqg p ((i : Int) + 1)
        unfold zqg
        rw [show ((i : Int) + 1 - 1).toNat = i by omega, List.getD_eq_getElem?_getD, hq]; rfl
      · intro e; simp [uO] at e
      · intro e; simp [uO] at e
      · intro e; simp [uO] at e
theorem zoM {s : zb} (h : uW s) (b : Int) : (zlB s b).length < 1000000 := by
  unfold zlB
  rw [List.getD_eq_getElem?_getD]
  cases hq : s.Bins[b.toNat]? with
  | none => simp
  | some l => exact h.bin l (List.mem_of_getElem? hq)
theorem zsK (l : zq) (w : Int) : (zjg l w).Bal.length = l.Bal.length := by unfold zjg; split <;> simp
structure Xl (s s' : zb) : Prop where
  P : s'.P = s.P
  m : s'.M.length = s.M.length
  bl : s'.Bins.length = s.Bins.length
  b : ∀ l ∈ s'.Bins, l ∈ s.Bins ∨ l.length ≤ 1
  bal : s'.L.Bal.length = s.L.Bal.length
  ac : s'.Acks.length = s.Acks.length
  ws : s'.Ws = s.Ws
  ms : s'.Ms = s.Ms
  done : s'.Done = s.Done
  d : s'.D = s.D
theorem Xl.refl (s : zb) : Xl s s := ⟨rfl, rfl, rfl, fun l h => .inl h, rfl, rfl, rfl, rfl, rfl, rfl⟩
theorem zaf (s : zb) (g : zJ) : Xl s (ya s g).1 ∧ (ya s g).1.H = s.H := by
  obtain ⟨m, b, t, w, f, e, h1, h2, h3, _, _⟩ := zpS s g
  rw [e]
  exact ⟨⟨rfl, h1, h2, fun l hl => (h3 l hl).imp id (fun e => by rw [e]; simp), rfl, rfl, rfl, rfl, rfl, rfl⟩, rfl⟩
theorem zvn {s : zb} (b : Nat) : ∀ l ∈ s.Bins.set b [], l ∈ s.Bins ∨ l.length ≤ 1 := fun l hl => (List.mem_or_eq_of_mem_set hl).imp id (fun e => by rw [e]; simp)
theorem znG (s : zb) (w : Int) (x : zg) : Xl s (yy s w x).1 ∧ (yy s w x).1.H = s.H := by
  unfold yy
  split
  · exact ⟨⟨rfl, (zoW _ _).1, rfl, fun l h => .inl h, rfl, rfl, rfl, rfl, rfl, rfl⟩, rfl⟩
  split
  · exact ⟨⟨rfl, zaG _ _, rfl, fun l h => .inl h, rfl, rfl, rfl, rfl, rfl, rfl⟩, rfl⟩
  split
  · exact ⟨⟨rfl, rfl, by simp, zvn _, rfl, rfl, rfl, rfl, rfl, rfl⟩, rfl⟩
  split
  · exact ⟨⟨rfl, zaG _ _, rfl, fun l h => .inl h, rfl, rfl, rfl, rfl, rfl, rfl⟩, rfl⟩
  split
  · exact ⟨Xl.refl s, rfl⟩
  split
  · exact zaf s x.G
  split
  · exact ⟨Xl.refl s, rfl⟩
  split
  · exact ⟨⟨rfl, rfl, rfl, fun l h => .inl h, zsK _ _, rfl, rfl, rfl, rfl, rfl⟩, rfl⟩
  split
  · exact ⟨⟨rfl, rfl, rfl, fun l h => .inl h, rfl, rfl, rfl, rfl, rfl, rfl⟩, rfl⟩
  · exact ⟨Xl.refl s, rfl⟩
theorem zvg (p : zd) (w : Int) (x : zg) : (zgi p w x).Batch = x.Batch := by unfold zgi; split <;> rfl
theorem zwz {s : zb} (h : uW s) (w : Int) {x : zg} (hx : x.Batch.length < 1000000) : (yy s w x).2.Batch.length < 1000000 := by
  unfold yy
  split
  · dsimp only
    split
    · exact hx
    split
    · rw [zvg]; exact hx
    · exact hx
  split
  · dsimp only
    split
    · exact hx
    split <;> exact hx
  split
  · exact zoM h _
  split
  · dsimp only
    split <;> exact hx
  split
  · dsimp only
    split <;> exact hx
  split
  · dsimp only
    split <;> exact hx
  split
  · dsimp only
    cases hb : x.Batch with
    | nil => show x.Batch.length < _; exact hx
    | cons o l => rw [hb] at hx; show l.length < _; simp at hx; omega
  split
  · exact hx
  split
  · exact hx
  · exact hx
theorem zvY (l : zq) (w p : Int) : (zus l w p).Bal.length = l.Bal.length := by unfold zus; simp
theorem zw1 (l : zq) (w n : Int) : (ztm l w n).1.Bal.length = l.Bal.length := by unfold ztm; split <;> simp
theorem zyA (s : zb) (m : Int) (x : zc) : Xl s (wO s m x).1 := by
  have q : ∀ s' : zb, s'.P = s.P → s'.M = s.M → s'.Bins = s.Bins → s'.L.Bal.length = s.L.Bal.length → s'.Acks.length = s.Acks.length → s'.Ws = s.Ws → s'.Ms = s.Ms → s'.Done = s.Done → s'.D = s.D → Xl s s' :=
    fun s' a b c d e f g h i => ⟨a, by rw [b], by rw [c], fun l hl => .inl (c ▸ hl), d, e, f, g, h, i⟩
  refine zck (motive := fun r => Xl s r.1) s m x ?_ ?_ ?_ ?_ ?_ ?_ ?_ ?_ ?_ ?_ ?_ ?_ ?_ ?_ ?_ ?_ ?_ ?_ ?_ ?_
  · intro c
    unfold mu0
    exact Xl.refl s
  · intro c
    unfold mu1
    exact Xl.refl s
  · intro c
    unfold mu2
    exact q _ rfl rfl rfl rfl (by simp) rfl rfl rfl rfl
  · intro c
    unfold mu3
    exact (zaf s x.G).1
  · intro c
    unfold zre
    exact Xl.refl s
  · intro c
    unfold zrK
    exact Xl.refl s
  · intro c
    unfold zri
    exact Xl.refl s
  · intro c
    unfold zsa
    exact Xl.refl s
  · intro c
    unfold zrv
    exact q _ rfl rfl rfl rfl rfl rfl rfl rfl rfl
  · intro c
    unfold zsi
    split
    · split
      · exact q _ rfl rfl rfl (zvY _ _ _) rfl rfl rfl rfl rfl
      · exact Xl.refl s
    · exact Xl.refl s
  · intro c
    unfold zrG
    exact q _ rfl rfl rfl (zw1 _ _ _) rfl rfl rfl rfl rfl
  · intro c
    unfold zsd
    exact ⟨rfl, zaG _ _, rfl, fun l h => .inl h, rfl, rfl, rfl, rfl, rfl, rfl⟩
  · intro c
    unfold zrE
    exact ⟨rfl, rfl, by simp, zvn _, rfl, rfl, rfl, rfl, rfl, rfl⟩
  · intro c
    unfold zrZ
    exact ⟨rfl, zaG _ _, rfl, fun l h => .inl h, rfl, rfl, rfl, rfl, rfl, rfl⟩
  · intro c
    unfold zrf
    exact Xl.refl s
  · intro c
    unfold zrQ
    exact Xl.refl s
  · intro c
    unfold zrS
    exact (zaf s x.G).1
  · intro c
    unfold zr1
    exact q _ rfl rfl rfl (zsK _ _) rfl rfl rfl rfl rfl
  · intro c
    unfold zrh
    exact q _ rfl rfl rfl rfl rfl rfl rfl rfl rfl
  · exact Xl.refl s
theorem HOk.sm {p : zd} (hp : z7 p) {h : zF} (H : HOk p h) : h.Objs.length < 1000000 ∧ ∀ x ∈ h.Objs, x.length < 1000000 := by
  have h1 := H.n
  have h2 := hp.most
  have h3 := hp.n
  have h4 := hp.slots
  have h5 := H.slots
  exact ⟨by omega, fun x hx => by have := (H.objs x hx).1; omega⟩
theorem uW.turn {p : zd} (hp : z7 p) {s s' : zb} (h : uW s) (T : Xl s s') (H : HOk p s'.H) : uW s' := by
  have hh := H.sm hp
  refine ⟨by rw [T.m]; exact h.m, by rw [T.bl]; exact h.bins, fun x hx => ?_, by rw [T.ac]; exact h.acks, by rw [T.bal]; exact h.bal, by rw [T.ws]; exact h.ws, by rw [T.ws]; exact h.w, by rw [T.ms]; exact h.ms, by rw [T.ms]; exact h.mu, hh.1, hh.2, by rw [T.P]; exact h.pobjs, by rw [T.P]; exact h.pobj, by rw [T.P]; exact h.regs, by rw [T.P]; exact h.reg, by rw [T.P]; exact h.progs, by rw [T.P]; exact h.prog, by rw [T.P]; exact h.picks⟩
  rcases T.b x hx with h' | h'
  · exact h.bin x h'
  · omega
theorem uW.setW {s : zb} (h : uW s) {i : Nat} {x : zg} (hx : x.Batch.length < 1000000) : uW { s with Ws := s.Ws.set i x } :=
  ⟨h.m, h.bins, h.bin, h.acks, h.bal, by simp only [List.length_set]; exact h.ws, fun y hy => by
    rcases List.mem_or_eq_of_mem_set hy with hy | rfl
    · exact h.w y hy
    · exact hx, h.ms, h.mu, h.objs, h.obj, h.pobjs, h.pobj, h.regs, h.reg, h.progs, h.prog, h.picks⟩
theorem uW.setM {s : zb} (h : uW s) {i : Nat} {x : zc} (hx : x.Regs.length < 1000000 ∧ x.Buf.length < 1000000 ∧ x.Batch.length < 1000000) : uW { s with Ms := s.Ms.set i x } :=
  ⟨h.m, h.bins, h.bin, h.acks, h.bal, h.ws, h.w, by simp only [List.length_set]; exact h.ms, fun y hy => by
    rcases List.mem_or_eq_of_mem_set hy with hy | rfl
    · exact h.mu y hy
    · exact hx, h.objs, h.obj, h.pobjs, h.pobj, h.regs, h.reg, h.progs, h.prog, h.picks⟩
theorem zvx {α : Type} {l : List α} {i j : Nat} {x y : α} (h : (l.set i x)[j]? = some y) : (j = i ∧ y = x) ∨ l[j]? = some y := by
  rw [List.getElem?_set] at h
  split at h
  · rename_i e
    split at h
    · injection h with h; exact .inl ⟨e.symm, h.symm⟩
    · cases h
  · exact .inr h
theorem zic {p : zd} {nb : Nat} {s : zb} (h : z7 p) (E : EOk p nb s) (w : Int) : EOk p nb (vm s w) := by
  unfold vm
  split
  · exact E
  rename_i hc
  cases hx : s.Ws[(w - 1).toNat]? with
  | none => exact E
  | some x =>
    have hw1 : ¬ w < 1 := fun e => hc (.inr (.inl e))
    have hw2 : ¬ (s.Ws.length : Int) < w := fun e => hc (.inr (.inr e))
    have hwl := E.wl
    have ei : (((w - 1).toNat : Nat) : Int) + 1 = w := by omega
    have hW := E.W _ x hx
    rw [ei] at hW
    obtain ⟨r1, r2⟩ := zzx h (by omega) E.S hW
    obtain ⟨T, TH⟩ := znG s w x
    have sm : uW (yy s w x).1 := E.small.turn h T (by rw [TH]; exact E.H)
    have hws : (yy s w x).1.Ws = s.Ws := T.ws
    refine ⟨r1.keep rfl rfl rfl, ?_, ?_, ?_, fun i y hy => ?_, fun i y hy => ?_, ?_, ?_, ?_⟩
    · show ((s.Ws.set _ _).length : Int) = _
      rw [List.length_set]; exact hwl
    · show ((yy s w x).1.Ms.length : Int) = _
      rw [T.ms]; exact E.ml
    · show (yy s w x).1.Acks.length = (yy s w x).1.Ms.length
      rw [T.ms, T.ac]; exact E.al
    · rcases zvx hy with ⟨rfl, rfl⟩ | hy
      · rw [ei]; exact r2
      · exact E.W i y hy
    · have hy : (yy s w x).1.Ms[i]? = some y := hy
      rw [T.ms] at hy
      exact E.X i y hy
    · show HOk p (yy s w x).1.H
      rw [TH]; exact E.H
    · show (0 ≤ (yy s w x).1.D.PC ∧ (yy s w x).1.D.PC ≤ 6) ∧ ((yy s w x).1.D.PC = 3 → 0 ≤ (yy s w x).1.D.I ∧ (yy s w x).1.D.I < ((yy s w x).1.Ms.length : Int))
      rw [T.d, T.ms]; exact E.D
    · have := sm.setW (i := (w - 1).toNat) (zwz E.small w (E.small.w x (List.mem_of_getElem? hx)))
      rw [hws] at this
      exact this
theorem zAS {p : zd} {nb : Nat} {s : zb} (h : z7 p) (E : EOk p nb s) : EOk p nb (zvw s) := by
  have key : ∀ s' : zb, s'.P = s.P → s'.M = s.M → s'.Bins = s.Bins → s'.Ws = s.Ws → s'.Ms = s.Ms → s'.Acks = s.Acks → s'.H = s.H → s'.L = s.L → ((0 ≤ s'.D.PC ∧ s'.D.PC ≤ 6) ∧ (s'.D.PC = 3 → 0 ≤ s'.D.I ∧ s'.D.I < (s'.Ms.length : Int))) → EOk p nb s' := by
    intro s' e1 e2 e3 e4 e5 e6 e7 e8 e9
    have q := E.small
    refine ⟨E.S.keep e1 e2 (by rw [e3]), by rw [e4]; exact E.wl, by rw [e5]; exact E.ml, by rw [e5, e6]; exact E.al, by rw [e4]; exact E.W, by rw [e5]; exact E.X, by rw [e7]; exact E.H, e9, ?_⟩
    exact ⟨by rw [e2]; exact q.m, by rw [e3]; exact q.bins, by rw [e3]; exact q.bin, by rw [e6]; exact q.acks, by rw [e8]; exact q.bal, by rw [e4]; exact q.ws, by rw [e4]; exact q.w, by rw [e5]; exact q.ms, by rw [e5]; exact q.mu, by rw [e7]; exact q.objs, by rw [e7]; exact q.obj, by rw [e1]; exact q.pobjs, by rw [e1]; exact q.pobj, by rw [e1]; exact q.regs, by rw [e1]; exact q.reg, by rw [e1]; exact q.progs, by rw [e1]; exact q.prog, by rw [e1]; exact q.picks⟩
  have hm : ∀ n : Int, 0 ≤ n ∧ n ≤ 6 → n ≠ 3 → ∀ i, (0 ≤ (⟨n, i⟩ : zu).PC ∧ (⟨n, i⟩ : zu).PC ≤ 6) ∧ ((⟨n, i⟩ : zu).PC = 3 → 0 ≤ (⟨n, i⟩ : zu).I ∧ (⟨n, i⟩ : zu).I < (s.Ms.length : Int)) := fun n h1 h2 i => ⟨h1, fun e => absurd e h2⟩
  have hml := E.ml
  have hmt := h.mt
  unfold zvw
  split
  · exact E
  split
  · exact key _ rfl rfl rfl rfl rfl rfl rfl rfl (hm 1 (by decide) (by decide) _)
  split
  · split
    · exact key _ rfl rfl rfl rfl rfl rfl rfl rfl (hm 2 (by decide) (by decide) _)
    · exact E
  split
  · refine key _ rfl rfl rfl rfl rfl rfl rfl rfl ?_
    dsimp only
    split
    · exact hm 4 (by decide) (by decide) _
    · exact ⟨by decide, fun _ => by omega⟩
  split
  · rename_i c3
    have hi := E.D.2 c3
    split
    · exact E
    · refine key _ rfl rfl rfl rfl rfl rfl rfl rfl ?_
      dsimp only
      have e : wc (s.D.I + 1) = s.D.I + 1 := Yh (by omega) (by omega)
      rw [e]
      split
      · exact hm 4 (by decide) (by decide) _
      · exact ⟨by decide, fun _ => by omega⟩
  split
  · split
    · exact key _ rfl rfl rfl rfl rfl rfl rfl rfl (hm 5 (by decide) (by decide) _)
    · exact key _ rfl rfl rfl rfl rfl rfl rfl rfl (hm 0 (by decide) (by decide) _)
  split
  · split
    · exact key _ rfl rfl rfl rfl rfl rfl rfl rfl (hm 0 (by decide) (by decide) _)
    · exact key _ rfl rfl rfl rfl rfl rfl rfl rfl (hm 6 (by decide) (by decide) _)
  split
  · exact key _ rfl rfl rfl rfl rfl rfl rfl rfl E.D
  · exact E
theorem HOk.put {p : zd} {h : zF} (H : HOk p h) (o s v : Int) : HOk p (zso h o s v) := by
  unfold zso
  split
  · rename_i c
    obtain ⟨c1, c2, c3⟩ := c
    unfold Ui at c1
    simp only [Bool.and_eq_true, decide_eq_true_eq] at c1
    refine ⟨H.slots, by simp only [List.length_set]; exact H.n, fun l hl => ?_⟩
    simp only [List.length_set]
    rcases List.mem_or_eq_of_mem_set hl with hl | rfl
    · exact H.objs l hl
    · have hm : xE h o ∈ h.Objs := by
        unfold xE
        rw [List.getD_eq_getElem?_getD, List.getElem?_eq_getElem (show (o - 1).toNat < h.Objs.length by omega)]
        exact List.getElem_mem _
      obtain ⟨a, b⟩ := H.objs _ hm
      refine ⟨by rw [List.length_set]; exact a, fun y hy => ?_⟩
      rcases List.mem_or_eq_of_mem_set hy with hy | rfl
      · exact b y hy
      · exact ⟨c2, c3⟩
  · exact H
theorem HOk.alloc {p : zd} (hp : z7 p) {h : zF} (H : HOk p h) (hr : zwu h p.Most = true) : HOk p (zuc h) := by
  unfold zwu at hr
  simp only [Bool.and_eq_true, decide_eq_true_eq] at hr
  have hs := hp.slots
  have hsl := H.slots
  have hn := H.n
  unfold zuc
  refine ⟨H.slots, by simp only [List.length_append, List.length_singleton]; omega, fun l hl => ?_⟩
  simp only [List.length_append, List.length_singleton]
  rcases List.mem_append.1 hl with hl | hl
  · obtain ⟨a, b⟩ := H.objs l hl
    exact ⟨a, fun v hv => by have := b v hv; omega⟩
  · rw [List.mem_singleton.1 hl]
    refine ⟨by rw [List.length_replicate]; omega, fun v hv => ?_⟩
    rw [(List.mem_replicate.1 hv).2]; omega
theorem zAz {p : zd} (hp : z7 p) {s : zb} (hP : s.P = p) (H : HOk p s.H) (m : Int) (x : zc) : HOk p (wO s m x).1.H := by
  refine zck (motive := fun r => HOk p r.1.H) s m x ?_ ?_ ?_ ?_ ?_ ?_ ?_ ?_ ?_ ?_ ?_ ?_ ?_ ?_ ?_ ?_ ?_ ?_ ?_ ?_
  · intro c
    unfold mu0
    exact H
  · intro c
    unfold mu1
    exact H
  · intro c
    unfold mu2
    exact H
  · intro c
    unfold mu3
    rw [(zaf s x.G).2]; exact H
  · intro c
    unfold zre
    exact H
  · intro c
    unfold zrK
    exact H
  · intro c
    unfold zri
    exact H
  · intro c
    unfold zsa
    exact H
  · intro c
    unfold zrv
    exact H.put _ _ _
  · intro c
    unfold zsi
    split
    · split
      · rename_i hr
        rw [hP] at hr
        exact H.alloc hp hr
      · exact H
    · exact H
  · intro c
    unfold zrG
    exact H
  · intro c
    unfold zsd
    exact H
  · intro c
    unfold zrE
    exact H
  · intro c
    unfold zrZ
    exact H
  · intro c
    unfold zrf
    exact H
  · intro c
    unfold zrQ
    exact H
  · intro c
    unfold zrS
    rw [(zaf s x.G).2]; exact H
  · intro c
    unfold zr1
    exact H
  · intro c
    unfold zrh
    exact H
  · exact H
theorem ztG (s : zb) (m : Int) (x : zc) : (zqV s m x).Batch = x.Batch := by
  unfold zqV
  repeat' split
  all_goals rfl
theorem zxg {s : zb} (h : uW s) (m : Int) {x : zc} (hx : x.Batch.length < 1000000) : (wO s m x).2.Batch.length < 1000000 := by
  refine zck (motive := fun r => r.2.Batch.length < 1000000) s m x ?_ ?_ ?_ ?_ ?_ ?_ ?_ ?_ ?_ ?_ ?_ ?_ ?_ ?_ ?_ ?_ ?_ ?_ ?_ ?_
  · intro c
    unfold mu0
    dsimp only; rw [ztG]; exact hx
  · intro c
    unfold mu1
    dsimp only; split <;> exact hx
  · intro c
    unfold mu2
    exact hx
  · intro c
    unfold mu3
    dsimp only; split <;> exact hx
  · intro c
    unfold zre
    exact hx
  · intro c
    unfold zrK
    dsimp only; split <;> exact hx
  · intro c
    unfold zri
    dsimp only; split <;> exact hx
  · intro c
    unfold zsa
    dsimp only; split <;> exact hx
  · intro c
    unfold zrv
    exact hx
  · intro c
    unfold zsi
    split
    · split <;> exact hx
    · exact hx
  · intro c
    unfold zrG
    dsimp only; split <;> exact hx
  · intro c
    unfold zsd
    dsimp only
    split
    · exact hx
    split <;> exact hx
  · intro c
    unfold zrE
    exact zoM h _
  · intro c
    unfold zrZ
    dsimp only; split <;> exact hx
  · intro c
    unfold zrf
    dsimp only
    cases hb : x.Batch with
    | nil => show ([] : List Int).length < 1000000; simp
    | cons o l => rw [hb] at hx; show l.length < _; simp at hx; omega
  · intro c
    unfold zrQ
    dsimp only; split <;> exact hx
  · intro c
    unfold zrS
    dsimp only; split <;> exact hx
  · intro c
    unfold zr1
    exact hx
  · intro c
    unfold zrh
    exact hx
  · exact hx
theorem zvl {p : zd} (h : z7 p) (m : Int) : zqg p m < 1000000 := by
  unfold zqg
  rw [List.getD_eq_getElem?_getD]
  cases hq : p.Regs[(m - 1).toNat]? with
  | none => simp
  | some r => have := (h.reg r (List.mem_of_getElem? hq)).1; show r.length < _; omega
theorem zAJ {p : zd} {nb : Nat} {s : zb} (h : z7 p) (E : EOk p nb s) (m : Int) : EOk p nb (zoQ s m) := by
  unfold zoQ
  split
  · exact E
  rename_i hc
  cases hx : s.Ms[(m - 1).toNat]? with
  | none => exact E
  | some x =>
    have hw1 : ¬ m < 1 := fun e => hc (.inr (.inl e))
    have hw2 : ¬ (s.Ms.length : Int) < m := fun e => hc (.inr (.inr e))
    have ei : (((m - 1).toNat : Nat) : Int) + 1 = m := by omega
    have hX := E.X _ x hx
    rw [ei] at hX
    obtain ⟨r1, r2⟩ := zAg h (zvT h m) E.S hX
    have T := zyA s m x
    have TH := zAz h E.S.P E.H m x
    have sm : uW (wO s m x).1 := E.small.turn h T TH
    have hms : (wO s m x).1.Ms = s.Ms := T.ms
    have hb := h.buf
    refine ⟨r1.keep rfl rfl rfl, ?_, ?_, ?_, fun i y hy => ?_, fun i y hy => ?_, TH, ?_, ?_⟩
    · show ((wO s m x).1.Ws.length : Int) = _
      rw [T.ws]; exact E.wl
    · show ((s.Ms.set _ _).length : Int) = _
      rw [List.length_set]; exact E.ml
    · show (wO s m x).1.Acks.length = (s.Ms.set _ _).length
      rw [List.length_set, T.ac]; exact E.al
    · have hy : (wO s m x).1.Ws[i]? = some y := hy
      rw [T.ws] at hy
      exact E.W i y hy
    · rcases zvx hy with ⟨rfl, rfl⟩ | hy
      · rw [ei]; exact r2
      · exact E.X i y hy
    · show (0 ≤ (wO s m x).1.D.PC ∧ (wO s m x).1.D.PC ≤ 6) ∧ ((wO s m x).1.D.PC = 3 → 0 ≤ (wO s m x).1.D.I ∧ (wO s m x).1.D.I < ((s.Ms.set _ _).length : Int))
      rw [T.d, List.length_set]; exact E.D
    · have q := E.small.mu x (List.mem_of_getElem? hx)
      have q1 := r2.regs
      have q2 := r2.buf
      have q3 := zvl h m
      have := sm.setM (i := (m - 1).toNat) (x := (wO s m x).2) ⟨by omega, by omega, zxg E.small m q.2.2⟩
      rw [hms] at this
      exact this
end
end Go.Pe.G
namespace Go.Pe.G
open Go.Pe
noncomputable section
theorem zzE (t : zr) (o : Int) : znf t o = some (zbY t o, ()) := by
  rw [zuA, zrL, Option.bind_some]
  show (bif X3 (t.Marks &&& t.Black) o then _ else _) = _
  unfold zbY
  cases h : X3 (t.Marks &&& t.Black) o with
  | true => rfl
  | false =>
    rw [cond_false, zrL, Option.bind_some]
    show (bif X3 t.Marks o then _ else _) = _
    cases h2 : X3 t.Marks o <;> rfl
theorem zw7 (t : zr) (o : Int) : ze0 t o = some (zkZ t o, decide (zbY t o = 1), ()) := by
  rw [zsg, zzE, Option.bind_some, zN]
  unfold zkZ
  by_cases h : zbY t o = 1
  · rw [if_pos h, if_pos h, zob, Option.bind_some, decide_eq_true h]
  · rw [if_neg h, if_neg h, decide_eq_false h]
theorem zln {h : zF} (hl : h.Objs.length < 1000000) (o s : Int) : zbE h o s = some (Ui h o s, ()) := by
  rw [zdb]
  simp only [zk]
  unfold Ui
  by_cases h1 : 1 ≤ o
  · rw [if_pos h1]
    by_cases h2 : o ≤ (h.Objs.length : Int)
    · rw [if_pos h2]
      by_cases h3 : 0 ≤ s
      · have e := List.getElem?_eq_getElem (show (o - 1).toNat < h.Objs.length by omega)
        rw [if_pos h3, yA (a := o - 1) (by omega) (by omega), Zj (by omega), e, Option.bind_some, decide_eq_true h1, decide_eq_true h2, decide_eq_true h3]
        unfold xE
        rw [List.getD_eq_getElem?_getD, e]; rfl
      · rw [if_neg h3, decide_eq_false h3, Bool.and_false]; rfl
    · rw [if_neg h2, decide_eq_false h2, Bool.and_false]; rfl
  · rw [if_neg h1, decide_eq_false h1]; rfl
theorem zuu {h : zF} (hl : h.Objs.length < 1000000) (o s : Int) : zml h o s = some (Uh h o s, Ui h o s, ()) := by
  rw [zmq, zln hl, Option.bind_some]
  unfold Uh
  cases hs : Ui h o s with
  | false => rfl
  | true =>
    have hs' := hs
    unfold Ui at hs'
    simp only [Bool.and_eq_true, decide_eq_true_eq] at hs'
    obtain ⟨⟨⟨h1, h2⟩, h3⟩, h4⟩ := hs'
    have e := List.getElem?_eq_getElem (show (o - 1).toNat < h.Objs.length by omega)
    have es : xE h o = h.Objs[(o - 1).toNat]'(by omega) := by unfold xE; rw [List.getD_eq_getElem?_getD, e]; rfl
    rw [es] at h4
    have e2 := List.getElem?_eq_getElem (show s.toNat < (h.Objs[(o - 1).toNat]'(by omega)).length by omega)
    simp only [Bool.not_true, cond_false, if_true]
    rw [yA (a := o - 1) (by omega) (by omega), Zj (by omega), e, Option.bind_some, Zj h3, e2, Option.bind_some, es, List.getD_eq_getElem?_getD, e2]; rfl
theorem znh (l : zq) (who : Int) : WL l who = some (decide (1 ≤ who) && decide (who ≤ (l.Bal.length : Int)), ()) := by
  rw [zac, zk]
  by_cases h1 : 1 ≤ who
  · rw [if_pos h1, decide_eq_true h1]; rfl
  · rw [if_neg h1, decide_eq_false h1]; rfl
theorem zu6 {l : zq} (hl : l.Bal.length < 1000000) (who : Int) : zcl l who = some (zjg l who, ()) := by
  rw [zpE, xf, znh, Option.bind_some]
  unfold zjg
  by_cases h : 1 ≤ who ∧ who ≤ (l.Bal.length : Int)
  · rw [if_pos h, decide_eq_true h.1, decide_eq_true (show who ≤ ((({ l with Scanned := wc (l.Scanned + 1) } : zq).Bal.length : Nat) : Int) from h.2)]
    have hn : ¬ l.Bal.isEmpty = true := by
      intro e
      have : l.Bal = [] := by simpa using e
      rw [this] at h
      simp at h
      omega
    have hn : l.Bal.isEmpty = false := by simpa using hn
    have e := List.getElem?_eq_getElem (show (who - 1).toNat < l.Bal.length by omega)
    rw [Bool.true_and, Bool.not_true, cond_false, zgB]
    simp only [decide_true, cond_true, zhR (n := (l.Bal.length : Int)) (by omega) (by omega), Option.bind_some, List.length_replicate, Int.toNat_natCast, hn, cond_false, xf]
    rw [Yh (a := who - 1) (by omega) (by omega), uY (l := l.Bal) (by omega) (by omega), Option.bind_some, e, Option.bind_some, znV, Option.bind_some, Option.bind_some, Option.bind_some, xf, List.getD_eq_getElem?_getD, e]
    rfl
  · rw [if_neg h]
    have e : (decide (1 ≤ who) && decide (who ≤ ((({ l with Scanned := wc (l.Scanned + 1) } : zq).Bal.length : Nat) : Int))) = false := by
      by_cases h1 : 1 ≤ who
      · rw [decide_eq_true h1, decide_eq_false (fun e => h ⟨h1, e⟩)]; rfl
      · rw [decide_eq_false h1]; rfl
    rw [e]; rfl
theorem zug {α : Type} (o : α) (l : List α) : cut (o :: l) 1 (((o :: l).length : Nat) : Int) = some l := by
  unfold cut
  rw [decide_eq_true (show (0 : Int) ≤ 1 by decide), decide_eq_true (show (1 : Int) ≤ (((o :: l).length : Nat) : Int) by simp; omega), decide_eq_true (Int.le_refl _)]
  simp
theorem zyG {m : List zg} (h : m.length < 4294967296) : xX m = some (m, ()) := by
  rw [Wf, List.nil_append, y0 h, Option.bind_some]
  cases m with
  | nil => simp [zi9]
  | cons a l => simp
theorem zyH {n v : Int} (h : 1 ≤ v ∧ v ≤ n) (hn : n < 1000000) : w64 (v.tmod n + 1) = Vp n v := by
  unfold Vp
  rw [Int.tmod_eq_emod_of_nonneg (by omega)]
  by_cases hv : v < n
  · rw [if_pos hv, Int.emod_eq_of_lt (by omega) hv, yA (by omega) (by omega)]
  · have : v = n := by omega
    rw [if_neg hv, this, Int.emod_self, yA (by omega) (by omega)]
    rfl
theorem zuZ {p : zd} (h : z7 p) {s : zb} (hP : s.P = p) (hl : (s.Ws.length : Int) = p.Workers) {x : zg} (hv : 1 ≤ x.Victim ∧ x.Victim ≤ p.Workers) (w : Int) :
    Yp ⟨x, s, w⟩ = some (⟨zgi p w x, s, w⟩, ()) := by
  have hw := h.wk
  rw [zit]
  simp only [zk, hl]
  rw [if_neg (show ¬ p.Workers = 0 by omega), zyH hv (by omega)]
  unfold zgi
  by_cases e : Vp p.Workers x.Victim = w
  · rw [if_pos e, if_pos e, zgy, Option.bind_some, zdB]
    simp only [zdq, Option.bind_some, VN, e, hP]
    rfl
  · rw [if_neg e, if_neg e, zfp]
    simp only [ze4, Option.bind_some, Vn, hP]
theorem znv {p : zd} {s : zb} (hP : s.P = p) (x : zg) (w : Int) : wN ⟨x, s, w⟩ = some (⟨zqr p w x, s, w⟩, ()) := by
  rw [zgY, zfp]
  simp only [ze4, Option.bind_some, Vn, hP]
  rfl
theorem zsE (s : zb) (x : zg) (w : Int) : XE ⟨x, s, w⟩ = some (onW s x.Slot, ()) := by
  rw [zm3, zk]
  unfold onW
  split <;> rfl
theorem zoS {s : zb} (hm : s.M.length < 4294967296) (x : zg) (w : Int) : vh ⟨x, s, w⟩ = some ((zI s.M x.C).2.Out, ⟨{ x with C := (zI s.M x.C).2 }, { s with M := (zI s.M x.C).1 }, w⟩, ()) := by
  rw [zil]
  simp only [zl4 hm, Option.bind_some]
theorem zq9 {p : zd} (h : z7 p) {s : zb} (hP : s.P = p) (hm : s.M.length < 4294967296) (hl : (s.Ws.length : Int) = p.Workers) {x : zg} (hv : 1 ≤ x.Victim ∧ x.Victim ≤ p.Workers) (hc : x.D.Cap < 1000) {w : Int} (h01 : x.PC = 0 ∨ x.PC = 1) :
    Xa ⟨x, s, w⟩ = some (⟨(yy s w x).2, (yy s w x).1, w⟩, ()) := by
  unfold yy
  rw [if_pos h01, zjv]
  simp only [zv9 hm hc, Option.bind_some, zk]
  by_cases o1 : (yt s.M x.D).2.Out = 1
  · rw [if_pos o1, if_pos o1, zaU]; rfl
  · rw [if_neg o1, if_neg o1]
    have hk := fun (x' : zg) (e : x'.Victim = x.Victim) => zuZ h (s := { s with M := (yt s.M x.D).1 }) hP hl (x := x') (by rw [e]; exact hv) w
    by_cases o4 : (yt s.M x.D).2.Out = 4
    · rw [if_pos o4, if_pos (.inr o4), hk { x with D := (yt s.M x.D).2 } rfl, Option.bind_some, hP]
    · rw [if_neg o4]
      by_cases o2 : (yt s.M x.D).2.Out = 2
      · rw [if_pos o2, if_pos (.inl o2), hk { x with D := (yt s.M x.D).2 } rfl, Option.bind_some, hP]
      · rw [if_neg o2, if_neg (by omega)]
theorem zvX {p : zd} {nb : Nat} (h : z7 p) {s : zb} {x : zg} {w : Int} (S : SOk p nb s) (W : WOk p nb w x) (hl : (s.Ws.length : Int) = p.Workers) (sm : uW s) :
    Vx ⟨x, s, w⟩ = some (⟨(yy s w x).2, (yy s w x).1, w⟩, ()) := by
  have hP := S.P
  have hm : s.M.length < 4294967296 := by have := S.mem; omega
  have hc := h.cap
  rw [ziH]
  simp only [zk]
  by_cases c0 : x.PC = 0
  · rw [if_pos c0, if_pos c0, zq9 h hP hm hl W.vic (by have := (W.d0 c0).2.2; omega) (.inl c0), Option.bind_some]
  rw [if_neg c0]
  by_cases c1 : x.PC = 1
  · rw [if_pos c1, zq9 h hP hm hl W.vic (by have := (W.d1 c1).2.2; omega) (.inr c1), Option.bind_some]
  rw [if_neg c1]
  unfold yy
  rw [if_neg (show ¬ (x.PC = 0 ∨ x.PC = 1) by omega)]
  by_cases c2 : x.PC = 2
  · rw [if_pos c2, if_pos c2, zoS hm, Option.bind_some]
    simp only [znv (s := { s with M := (zI s.M x.C).1 }) hP]
    by_cases o1 : (zI s.M x.C).2.Out = 1
    · rw [if_pos o1, if_pos o1]
    · rw [if_neg o1, if_neg o1]
      by_cases o2 : (zI s.M x.C).2.Out = 2
      · rw [if_pos o2, if_pos o2, Option.bind_some, hP]
      · rw [if_neg o2, if_neg o2]
  rw [if_neg c2, if_neg c2]
  by_cases c3 : x.PC = 3
  · have B := W.b3 c3
    have hb := S.bins
    have hnb := S.nbk
    have e := List.getElem?_eq_getElem (show x.Bin.toNat < s.Bins.length by omega)
    rw [if_pos c3, if_pos c3, ziv]
    dsimp only
    rw [Zj (by omega), e, Option.bind_some, zqk (by omega), Option.bind_some, uY (l := s.Bins) (by omega) (by omega), Option.bind_some, zeT, Option.bind_some, zdB]
    simp only [zdq, Option.bind_some, VN]
    unfold zlB
    rw [List.getD_eq_getElem?_getD, e]; rfl
  rw [if_neg c3, if_neg c3]
  by_cases c4 : x.PC = 4
  · rw [if_pos c4, if_pos c4, zoS hm, Option.bind_some]
    dsimp only
    by_cases o1 : (zI s.M x.C).2.Out = 1
    · rw [if_pos o1, if_pos o1]
    · rw [if_neg o1, if_neg o1]
  rw [if_neg c4, if_neg c4]
  by_cases c5 : x.PC = 5
  · rw [if_pos c5, if_pos c5, zin]
    simp only [zuu sm.objs, Option.bind_some, zk, zsE, zwb, xf]
    by_cases v : Uh s.H x.Obj x.Slot = 0
    · rw [if_pos v, if_pos v]; rfl
    · rw [if_neg v, if_neg v]; rfl
  rw [if_neg c5, if_neg c5]
  by_cases c6 : x.PC = 6
  · obtain ⟨g1, g2, g3, g4⟩ := W.g6 c6
    rw [if_pos c6, if_pos c6]
    simp only [zw0 (S.gok h g1), Option.bind_some, zsE]
    have eH : (ya s x.G).1.H = s.H := (zaf s x.G).2
    by_cases o1 : (ya s x.G).2.Out = 1
    · rw [if_pos o1, if_pos o1]
      unfold onW
      rw [eH]
    · rw [if_neg o1, if_neg o1]
  rw [if_neg c6, if_neg c6]
  by_cases c7 : x.PC = 7
  · rw [if_pos c7, if_pos c7]
    cases hb : x.Batch with
    | nil => rw [if_pos (by simp), znv hP, Option.bind_some, hP]
    | cons o l =>
      rw [if_neg (by simp; omega), Zj (by omega)]
      simp only [Int.toNat_zero, List.getElem?_cons_zero, Option.bind_some, zaU, hb]
      rw [zug]; rfl
  rw [if_neg c7, if_neg c7]
  by_cases c8 : x.PC = 8
  · rw [if_pos c8, if_pos c8]
    simp only [zw7, Option.bind_some, zu6 sm.bal]
  rw [if_neg c8, if_neg c8]
  by_cases c9 : x.PC = 9
  · rw [if_pos c9, if_pos c9, xf]
  · rw [if_neg c9, if_neg c9]
theorem zeR {p : zd} {nb : Nat} {s : zb} (h : z7 p) (E : EOk p nb s) (w : Int) : ZZ s w = some (vm s w, ()) := by
  rw [zpp]
  simp only [zk]
  unfold vm
  cases hd : s.Done with
  | true => rw [cond_true, if_pos (.inl rfl)]
  | false =>
    rw [cond_false]
    by_cases h1 : w < 1
    · rw [if_pos h1, if_pos (.inr (.inl h1))]
    rw [if_neg h1]
    by_cases h2 : (s.Ws.length : Int) < w
    · rw [if_pos h2, if_pos (.inr (.inr h2))]
    have hwl := E.wl
    have hwk := h.wk
    have e := List.getElem?_eq_getElem (show (w - 1).toNat < s.Ws.length by omega)
    have ei : (((w - 1).toNat : Nat) : Int) + 1 = w := by omega
    have hW := E.W _ _ e
    rw [ei] at hW
    obtain ⟨T, TH⟩ := znG s w (s.Ws[(w - 1).toNat]'(by omega))
    rw [if_neg h2, if_neg (fun e => e.elim (fun h => by cases h) (fun e => e.elim h1 h2)), yA (a := w - 1) (by omega) (by omega), Zj (by omega), e, Option.bind_some, zvX h E.S hW hwl E.small, Option.bind_some]
    simp only [T.ws, zyG (show s.Ws.length < 4294967296 by omega), Option.bind_some, uY (l := s.Ws) (show 0 ≤ w - 1 by omega) (show w - 1 < (s.Ws.length : Int) by omega)]
end
end Go.Pe.G
namespace Go.Pe.G
open Go.Pe
noncomputable section
def rOp (o : zi) : zC := ⟨o.Kind, o.R, o.A, o.S⟩
def zja (o : zj) : zx := ⟨o.Kind, o.N⟩
def XM (h : zF) : zw := ⟨h.Slots, h.Objs⟩
def xd (p : zd) : zn := ⟨p.Workers, p.Mutators, p.Cap, p.Buf, p.Bin, p.Most, p.Price, p.Limit, XM p.H, p.Roots, p.Regs, p.Progs.map (fun l => l.map rOp), p.Picks.map zja⟩
def yz (d : zh) : zQ := ⟨d.Kind, d.PC, d.Base, d.Cap, d.B, d.T, d.X, d.Out⟩
def ww (c : zD) : yi := ⟨c.Kind, c.PC, c.Head, c.Next, c.H, c.X, c.Y, c.Out⟩
def WC (t : zr) : zB := ⟨t.Marks, t.Black⟩
def v9 (l : zq) : zG := ⟨l.Scanned, l.Spent, l.Pool, l.Bal⟩
def WA (g : zJ) : yI := ⟨g.PC, g.Mode, g.Obj, g.Who, yz g.D, ww g.C, g.Bin, g.Out⟩
def yX (w : zg) : zm := ⟨w.PC, w.Obj, w.Slot, w.Victim, w.Bin, w.Batch, yz w.D, ww w.C, WA w.G⟩
def zen (m : zc) : zt := ⟨m.PC, m.IP, m.Ret, m.Want, m.Old, m.Obj, m.Slot, m.Bin, m.Regs, m.Buf, m.Batch, ww m.C, WA m.G⟩
def zO (s : zb) : zo := ⟨xd s.P, XM s.H, s.M, s.Bins, WC s.T, s.Work, s.Epoch, s.Flag, s.Done, s.Restarts, s.Acks, v9 s.L, s.Ws.map yX, s.Ms.map zen, ⟨s.D.PC, s.D.I⟩⟩
theorem zuw (m : List (BitVec 64)) (a : Int) (x y : BitVec 64) : ∃ b, xI m ⟨1, a, x, y⟩ = some (m, ld m a, b, ()) := by
  rw [zae]
  simp only [zk]
  by_cases h1 : a < 0
  · rw [if_pos h1, zqZ (.inl h1)]; exact ⟨_, rfl⟩
  · rw [if_neg h1]
    by_cases h2 : (m.length : Int) ≤ a
    · rw [if_pos h2, zqZ (.inr h2)]; exact ⟨_, rfl⟩
    · rw [if_neg h2, if_neg (by decide), if_neg (by decide), Zj (by omega), zkg (by omega) (by omega), Option.bind_some, if_pos trivial]
      exact ⟨_, rfl⟩
theorem zsU {m : List (BitVec 64)} (hm : m.length < 4294967296) (a : Int) (x y : BitVec 64) : ∃ v b, xI m ⟨2, a, x, y⟩ = some (st m a x, v, b, ()) := by
  rw [zae]
  simp only [zk]
  by_cases h1 : a < 0
  · rw [if_pos h1, zp7 (.inl h1)]; exact ⟨_, _, rfl⟩
  · rw [if_neg h1]
    by_cases h2 : (m.length : Int) ≤ a
    · rw [if_pos h2, zp7 (.inr h2)]; exact ⟨_, _, rfl⟩
    · rw [if_neg h2, if_neg (by decide), if_neg (by decide), Zj (by omega), zkg (by omega) (by omega), Option.bind_some, if_neg (by decide), if_neg (by decide), y0 hm, Option.bind_some, if_pos trivial, uY (l := m) (by omega) (by omega), Option.bind_some]
      unfold st
      rw [if_pos (by omega)]
      exact ⟨_, _, rfl⟩
theorem zty {m : List (BitVec 64)} (hm : m.length < 4294967296) (a : Int) (x y : BitVec 64) : ∃ v, xI m ⟨3, a, x, y⟩ = some ((sw m a x y).1, v, (sw m a x y).2, ()) := by
  rw [zae]
  simp only [zk, zN]
  by_cases h1 : a < 0
  · rw [if_pos h1]
    have : sw m a x y = (m, false) := by unfold sw; rw [if_neg (by omega)]
    rw [this]; exact ⟨_, rfl⟩
  · rw [if_neg h1]
    by_cases h2 : (m.length : Int) ≤ a
    · rw [if_pos h2]
      have : sw m a x y = (m, false) := by unfold sw; rw [if_neg (by omega)]
      rw [this]; exact ⟨_, rfl⟩
    · rw [if_neg h2, if_neg (by decide), if_neg (by decide), Zj (by omega), zkg (by omega) (by omega), Option.bind_some, if_neg (by decide), if_pos trivial]
      by_cases h3 : ld m a = x
      · have : sw m a x y = (st m a y, true) := by unfold sw; rw [if_pos ⟨by omega, by omega, h3⟩]
        rw [if_pos h3, this, y0 hm, Option.bind_some, if_neg (by decide), if_pos trivial, uY (l := m) (by omega) (by omega), Option.bind_some]
        unfold st
        rw [if_pos (by omega)]
        exact ⟨_, rfl⟩
      · have : sw m a x y = (m, false) := by unfold sw; rw [if_neg (by rintro ⟨_, _, h⟩; exact h3 h)]
        rw [if_neg h3, this]
        exact ⟨_, rfl⟩
theorem zaF (m : List (BitVec 64)) (a : Int) : xx m a = some (ld m a, ()) := by
  obtain ⟨b, h⟩ := zuw m a 0#64 0#64
  rw [zl5, h]; rfl
theorem zld {m : List (BitVec 64)} (hm : m.length < 4294967296) (a : Int) (x : BitVec 64) : w9 m a x = some (st m a x, ()) := by
  obtain ⟨v, b, h⟩ := zsU hm a x 0#64
  rw [zkD, h]; rfl
theorem zzg (m : List (BitVec 64)) (a : Int) : wC m a = some (ld m a, ()) := by
  obtain ⟨b, h⟩ := zuw m a 0#64 0#64
  rw [zl6, h]; rfl
theorem zxU {m : List (BitVec 64)} (hm : m.length < 4294967296) (a : Int) (x : BitVec 64) : XV m a x = some (st m a x, ()) := by
  obtain ⟨v, b, h⟩ := zsU hm a x 0#64
  rw [zkG, h]; rfl
theorem zt9 (h : BitVec 64) : h % 4294967296#64 = h &&& 4294967295#64 := by
  apply BitVec.eq_of_toNat_eq
  rw [BitVec.toNat_umod, BitVec.toNat_and]
  exact (Nat.and_two_pow_sub_one_eq_mod h.toNat 32).symm
theorem zzb (h : BitVec 64) : yj h = some (yY h, ()) := by rw [zlT, zt9]; rfl
theorem zzh (v : BitVec 64) (n : Int) : zbo v n = some (vW v n, ()) := by
  have e : ((v % 4294967296#64) <<< 32) + ((BitVec.ofInt 64 n) % 4294967296#64) = vW v n := by
    unfold vW
    rw [← zt9]
    apply BitVec.eq_of_toNat_eq
    rw [BitVec.toNat_or, BitVec.toNat_add, BitVec.toNat_shiftLeft, BitVec.toNat_shiftLeft, BitVec.toNat_umod, BitVec.toNat_umod]
    have h32 : (4294967296#64).toNat = 4294967296 := rfl
    rw [h32]
    have h1 : (v.toNat % 4294967296) <<< 32 % 2 ^ 64 = (v.toNat % 4294967296) <<< 32 := by rw [Nat.shiftLeft_eq]; omega
    have h2 : v.toNat <<< 32 % 2 ^ 64 = (v.toNat % 4294967296) <<< 32 := by rw [Nat.shiftLeft_eq, Nat.shiftLeft_eq]; omega
    rw [h1, h2, ← Nat.shiftLeft_add_eq_or_of_lt (show (BitVec.ofInt 64 n).toNat % 4294967296 < 2 ^ 32 by omega)]
    rw [Nat.shiftLeft_eq]
    omega
  rw [zlx, e]
theorem zy9 {m : List (BitVec 64)} (hm : m.length < 4294967296) (c : zD) (n : Int) : xw m (ww c) n = some ((sw m c.Head c.H (vW ((c.H >>> 32) + 1#64) n)).1, (sw m c.Head c.H (vW ((c.H >>> 32) + 1#64) n)).2, ()) := by
  obtain ⟨v, h⟩ := zty hm c.Head c.H (vW ((c.H >>> 32) + 1#64) n)
  rw [zlO, zzh, Option.bind_some]
  show Option.bind (xI m ⟨3, c.Head, c.H, vW ((c.H >>> 32) + 1#64) n⟩) _ = _
  rw [h]; rfl
theorem zrP : wc 0 = 0 ∧ wc 1 = 1 ∧ wc 2 = 2 ∧ wc 3 = 3 ∧ wc 4 = 4 ∧ wc 5 = 5 ∧ wc 6 = 6 ∧ wc 7 = 7 := by decide
theorem zn5 {m : List (BitVec 64)} (hm : m.length < 4294967296) (c : zD) : yW m (ww c) = some ((zI m c).1, ww (zI m c).2, ()) := by
  obtain ⟨w0, w1, w2, w3, w4, _⟩ := zrP
  rw [zli, xf]
  simp only [zk, zN, zzg, zzb, zxU hm, zy9 hm, Option.bind_some]
  show (if c.Out = 0 then _ else _) = _
  unfold zI
  by_cases h0 : c.Out = 0
  · by_cases hp0 : c.PC < 0
    · have : (c.Out ≠ 0 ∨ (c.Kind ≠ 1 ∧ c.Kind ≠ 2) ∨ c.PC < 0 ∨ 3 ≤ c.PC) := .inr (.inr (.inl hp0))
      rw [if_pos this]
      simp [h0, hp0, ww]
    · by_cases hp3 : 3 ≤ c.PC
      · have : (c.Out ≠ 0 ∨ (c.Kind ≠ 1 ∧ c.Kind ≠ 2) ∨ c.PC < 0 ∨ 3 ≤ c.PC) := .inr (.inr (.inr hp3))
        rw [if_pos this]
        simp [h0, show 2 < c.PC by omega, ww]
      · by_cases hk : c.Kind = 1 ∨ c.Kind = 2
        · have : ¬ (c.Out ≠ 0 ∨ (c.Kind ≠ 1 ∧ c.Kind ≠ 2) ∨ c.PC < 0 ∨ 3 ≤ c.PC) := by
            rintro (h | h | h | h)
            · exact h h0
            · omega
            · exact hp0 h
            · exact hp3 h
          rw [if_neg this]
          have hpc : c.PC = 0 ∨ c.PC = 1 ∨ c.PC = 2 := by omega
          rcases hk with hk | hk <;> rcases hpc with hpc | hpc | hpc <;> simp [h0, hk, hpc, w1, w2, w3, w0, ww] <;> (try split) <;> simp_all [ww]
        · have : (c.Out ≠ 0 ∨ (c.Kind ≠ 1 ∧ c.Kind ≠ 2) ∨ c.PC < 0 ∨ 3 ≤ c.PC) := .inr (.inl (by omega))
          rw [if_pos this]
          have k1 : ¬ c.Kind = 1 := by omega
          have k2 : ¬ c.Kind = 2 := by omega
          simp [h0, k1, k2, ww]
  · have : (c.Out ≠ 0 ∨ (c.Kind ≠ 1 ∧ c.Kind ≠ 2) ∨ c.PC < 0 ∨ 3 ≤ c.PC) := .inl h0
    rw [if_pos this]
    simp [h0, ww]
theorem zzk (d : zh) : BitVec.ofInt 64 (if d.Cap < 1 then 1 else d.Cap) = VM d := rfl
theorem zhN {d : zh} (h : d.Cap < 1000) (i : BitVec 64) : vY (yz d) i = some (zb0 d i, ()) := by
  rw [zkl, xf]
  simp only [zk]
  show (if BitVec.ofInt 64 (if d.Cap < 1 then 1 else d.Cap) = 0#64 then none else some (wc (wc (d.Base + 2) + (i % BitVec.ofInt 64 (if d.Cap < 1 then 1 else d.Cap)).toInt), ())) = _
  rw [zzk, if_neg (zsx h)]; rfl
theorem znl {m : List (BitVec 64)} (hm : m.length < 4294967296) {d : zh} (hk : d.Kind = 1) (hc : d.Cap < 1000) : xR m (yz d) = some ((wo m d).1, yz (wo m d).2, ()) := by
  obtain ⟨w0, w1, w2, w3, w4, _⟩ := zrP
  rw [zdl, zk6, xf]
  simp only [zk, zN, zaF, zld hm, zhN hc, Option.bind_some]
  unfold wo
  by_cases g0 : d.Out = 0
  · have e0 : (yz d).Out = 0 := g0
    have e1 : (yz d).Kind = 1 := hk
    rw [if_pos e0, if_pos e1]
    have ep : (yz d).PC = d.PC := rfl
    rw [ep]
    by_cases g1 : d.PC < 0
    · rw [if_neg (show ¬ d.PC = 0 by omega), if_neg (show ¬ d.PC = 1 by omega), if_neg (show ¬ d.PC = 2 by omega), if_neg (show ¬ d.PC = 3 by omega), if_pos (show d.Out ≠ 0 ∨ d.PC < 0 ∨ 4 ≤ d.PC from .inr (.inl g1))]; rfl
    · by_cases g2 : 4 ≤ d.PC
      · rw [if_neg (show ¬ d.PC = 0 by omega), if_neg (show ¬ d.PC = 1 by omega), if_neg (show ¬ d.PC = 2 by omega), if_neg (show ¬ d.PC = 3 by omega), if_pos (show d.Out ≠ 0 ∨ d.PC < 0 ∨ 4 ≤ d.PC from .inr (.inr g2))]; rfl
      · have hpc : d.PC = 0 ∨ d.PC = 1 ∨ d.PC = 2 ∨ d.PC = 3 := by omega
        have hs : BitVec.ofInt 64 (if (yz d).Cap < 1 then 1 else (yz d).Cap) = VM d := rfl
        rw [hs]
        rcases hpc with h | h | h | h <;> simp [g0, h, hk, w1, w2, w3, w4, yz] <;> (try split) <;> simp [h, hk, w2]
  · have e0 : ¬ (yz d).Out = 0 := g0
    rw [if_neg e0, if_pos (.inl g0)]
theorem zxi (s : BitVec 64) (k : Nat) (hk : k < 64) : (s ||| (1#64 <<< k) = s) ↔ s.getLsbD k = true := by
  constructor
  · intro h
    rw [← h]
    simp [hk]
  · intro h
    apply BitVec.eq_of_getLsbD_eq
    intro i hi
    by_cases e : i = k
    · subst e; simp [h]
    · simp [BitVec.getLsbD_or, BitVec.getLsbD_shiftLeft, hi]
      intro h1 h2
      have : i - k ≠ 0 := by omega
      simp_all
theorem zvD (s : BitVec 64) (k : Nat) : ((s >>> k) % 2#64 = 1#64) ↔ s.getLsbD k = true := by
  have e : ((s >>> k) % 2#64).toNat = (s.getLsbD k).toNat := by
    rw [BitVec.toNat_umod, BitVec.toNat_ushiftRight, BitVec.getLsbD, Nat.testBit_eq_decide_div_mod_eq, Nat.shiftRight_eq_div_pow]
    show _ % 2 = _
    by_cases h : s.toNat / 2 ^ k % 2 = 1
    · simp [h]
    · have : s.toNat / 2 ^ k % 2 = 0 := by omega
      simp [this]
  constructor
  · intro h
    rw [h] at e
    cases hb : s.getLsbD k with
    | true => rfl
    | false => rw [hb] at e; cases e
  · intro h
    apply BitVec.eq_of_toNat_eq
    rw [e, h]; rfl
theorem zgU (s : BitVec 64) (k : Nat) (hk : k < 64) : (s &&& (1#64 <<< k) = 0#64) ↔ s.getLsbD k = false := by
  constructor
  · intro h
    have := congrArg (fun x => BitVec.getLsbD x k) h
    simpa [hk] using this
  · intro h
    apply BitVec.eq_of_getLsbD_eq
    intro i hi
    by_cases e : i = k
    · subst e; simp [h]
    · simp [BitVec.getLsbD_and, BitVec.getLsbD_shiftLeft, hi]
      intro h1 h2
      have : i - k ≠ 0 := by omega
      simp_all
theorem zuI (s : BitVec 64) {o : Int} (h : 1 ≤ o ∧ o ≤ 64) : vQ s o = some (s.getLsbD (o - 1).toNat, ()) := by
  rw [zd6, Zw]
  simp only [zk]
  rw [if_pos h.1, Option.bind_some, show decide (o ≤ 64) = true from decide_eq_true h.2, cond_true, yA (by omega) (by omega), if_neg (by omega), Nat.min_eq_left (by omega)]
  congr 2
  cases hb : s.getLsbD (o - 1).toNat with
  | true => exact decide_eq_true ((zvD _ _).2 hb)
  | false => exact decide_eq_false (fun e => by rw [(zvD _ _).1 e] at hb; cases hb)
theorem zxu (s : BitVec 64) {o : Int} (h : 1 ≤ o ∧ o ≤ 64) : YZ s o = some (s ||| bit o, ()) := by
  rw [zd3, Zw]
  simp only [zk]
  rw [if_pos h.1, Option.bind_some, show decide (o ≤ 64) = true from decide_eq_true h.2, Bool.not_true, cond_false, yA (by omega) (by omega), if_neg (by omega), Nat.min_eq_left (by omega)]
  unfold bit
  rw [if_pos h]
theorem zyL (t : zr) (o : Int) : XI (WC t) o = some (WC (UM t o).1, (UM t o).2, ()) := by
  rw [zkx]
  simp only [zk]
  unfold UM
  by_cases h1 : o < 1
  · have : bit o = 0#64 := by unfold bit; rw [if_neg (by omega)]
    rw [if_pos h1, this, if_pos (by simp)]
  · rw [if_neg h1]
    by_cases h2 : 64 < o
    · have : bit o = 0#64 := by unfold bit; rw [if_neg (by omega)]
      rw [if_pos h2, this, if_pos (by simp)]
    · have ho : 1 ≤ o ∧ o ≤ 64 := by omega
      have hb : bit o = 1#64 <<< (o - 1).toNat := by unfold bit; rw [if_pos ho]
      rw [if_neg h2, zuI _ ho, Option.bind_some, zuI _ ho, zxu _ ho]
      show (bif t.Marks.getLsbD (o - 1).toNat then _ else _) = _
      by_cases h3 : t.Marks.getLsbD (o - 1).toNat = true
      · rw [h3, if_pos (by rw [hb]; exact (zxi _ _ (by omega)).2 h3)]; rfl
      · have h3' : t.Marks.getLsbD (o - 1).toNat = false := by simpa using h3
        rw [h3', if_neg (by rw [hb]; exact fun e => h3 ((zxi _ _ (by omega)).1 e))]
        show (bif t.Black.getLsbD (o - 1).toNat then _ else _) = _
        by_cases h4 : t.Black.getLsbD (o - 1).toNat = true
        · rw [h4, if_neg (by rw [hb]; exact fun e => by rw [(zgU _ _ (by omega)).1 e] at h4; cases h4)]; rfl
        · have h4' : t.Black.getLsbD (o - 1).toNat = false := by simpa using h4
          rw [h4', if_pos (by rw [hb]; exact (zgU _ _ (by omega)).2 h4')]; rfl
theorem zi1 (p : zd) (w : Int) : xF (xd p) w = some (uf p w, ()) := by rw [zkA, xf]; rfl
theorem zo4 {p : zd} (h : z7 p) : uZ (xd p) = some (wj p, ()) := by
  have := h.wk
  have e : wc (p.Workers + 1) = p.Workers + 1 := Yh (by omega) (by omega)
  have e2 : wc (p.Workers + 1 - 1) = p.Workers := by rw [show p.Workers + 1 - 1 = p.Workers by omega]; exact Yh (by omega) (by omega)
  rw [zlA, xf]
  show Option.bind (xF (xd p) (wc (p.Workers + 1))) _ = _
  rw [zi1, Option.bind_some, e]
  unfold uf wj
  rw [e2]
theorem zm1 {p : zd} (h : z7 p) : uc (xd p) = some (yK p, ()) := by
  rw [zkM, xf, zo4 h]; rfl
theorem zpz {p : zd} (h : z7 p) : wB (xd p) = some (yK p, ()) := by
  rw [zk1, zm1 h]; rfl
theorem zhd {s : zo} {p : zd} (hp : s.P = xd p) (h : z7 p) (x : Int) : xQ s x = some (ww (if x = 0 then ⟨2, 0, yK p, yK p, 0#64, 0, 0, 0⟩ else ⟨1, 0, wj p, yK p, 0#64, x, 0, 0⟩), ()) := by
  rw [zlg, hp, zk]
  simp only [zm1 h, zpz h, zo4 h, Option.bind_some, WV]
  by_cases hx : x = 0
  · rw [if_pos hx, if_pos hx]; rfl
  · rw [if_neg hx, if_neg hx]; rfl
end
end Go.Pe.G
namespace Go.Pe.G
open Go.Pe
noncomputable section
theorem zg5 {α β σ B C : Type} {f : σ → Option (yx σ B C)} (l : List α) (g : α → β) (A : Int → List β → σ) (b : List β → B) (hl : l.length < 1000000)
    (h1 : ∀ (i : Nat) (x : α) (acc : List β), l[i]? = some x → acc.length = i → f (A (i : Int) acc) = some (.again (A ((i + 1 : Nat) : Int) (acc ++ [g x]))))
    (h2 : ∀ acc, f (A (l.length : Int) acc) = some (.brk (b acc))) : zU f (A 0 []) = some (.brk (b (l.map g))) := by
  have key : ∀ (k i : Nat), l.length - i = k → i ≤ l.length → ∀ n, k < n → vG f n (A (i : Int) ((l.take i).map g)) = some (.brk (b (l.map g))) := by
    intro k
    induction k with
    | zero =>
      intro i hk hi n hn
      have : i = l.length := by omega
      subst this
      obtain ⟨n, rfl⟩ : ∃ m, n = m + 1 := ⟨n - 1, by omega⟩
      simp only [vG]
      rw [h2, List.take_length]; rfl
    | succ k ih =>
      intro i hk hi n hn
      obtain ⟨n, rfl⟩ : ∃ m, n = m + 1 := ⟨n - 1, by omega⟩
      have hlt : i < l.length := by omega
      simp only [vG]
      rw [h1 i l[i] _ (List.getElem?_eq_getElem hlt) (by rw [List.length_map, List.length_take]; omega), Option.bind_some]
      have e : (l.take i).map g ++ [g l[i]] = (l.take (i + 1)).map g := by rw [List.take_succ_eq_append_getElem hlt, List.map_append]; rfl
      dsimp only
      rw [e]
      exact ih (i + 1) (by omega) (by omega) n (by omega)
  have := key l.length 0 (by omega) (by omega) Y1 (xG (by omega))
  rw [VR]
  exact this
theorem un {σ B C : Type} {f : σ → Option (yx σ B C)} (n : Nat) (A : Int → σ) (b : B) (hn : n < 1000000)
    (h1 : ∀ i : Nat, i < n → f (A (i : Int)) = some (.again (A ((i + 1 : Nat) : Int)))) (h2 : f (A (n : Int)) = some (.brk b)) : zU f (A 0) = some (.brk b) := by
  have key : ∀ (k i : Nat), n - i = k → i ≤ n → ∀ m, k < m → vG f m (A (i : Int)) = some (.brk b) := by
    intro k
    induction k with
    | zero =>
      intro i hk hi m hm
      have : i = n := by omega
      subst this
      obtain ⟨m, rfl⟩ : ∃ x, m = x + 1 := ⟨m - 1, by omega⟩
      simp only [vG]
      rw [h2]; rfl
    | succ k ih =>
      intro i hk hi m hm
      obtain ⟨m, rfl⟩ : ∃ x, m = x + 1 := ⟨m - 1, by omega⟩
      simp only [vG]
      rw [h1 i (by omega), Option.bind_some]
      exact ih (i + 1) (by omega) (by omega) m (by omega)
  have := key n 0 (by omega) (by omega) Y1 (xG (by omega))
  rw [VR]
  exact this
theorem wL {l : List (Int)} (hl : l.length < 1000000) : xe l l = some (true, ()) := by
  have e := un (f := wU) l.length (fun i => (l, l, i, ())) () (by assumption)
    (fun i hi => by
      have hx := List.getElem?_eq_getElem hi
      show wU (l, l, (i : Int), ()) = _
      rw [Vj, zk, if_pos (show (i : Int) < (l.length : Int) by omega), z3 hx, Option.bind_some, Option.bind_some, yb (by omega)]
      simp)
    (by
      show wU (l, l, (l.length : Int), ()) = _
      rw [Vj, zk, if_neg (by omega)])
  rw [zha, zN, if_pos rfl]
  exact congrArg (fun o => Option.bind o _) e
theorem zok {l : List (BitVec 64)} (hl : l.length < 1000000) : WJ l l = some (true, ()) := by
  have e := un (f := uK) l.length (fun i => (l, l, i, ())) () (by assumption)
    (fun i hi => by
      have hx := List.getElem?_eq_getElem hi
      show uK (l, l, (i : Int), ()) = _
      rw [za3, zk, if_pos (show (i : Int) < (l.length : Int) by omega), z3 hx, Option.bind_some, Option.bind_some, yb (by omega)]
      simp)
    (by
      show uK (l, l, (l.length : Int), ()) = _
      rw [za3, zk, if_neg (by omega)])
  rw [zk8, zN, if_pos rfl]
  exact congrArg (fun o => Option.bind o _) e
theorem zou {l : zG} (hl : l.Bal.length < 1000000) : Wx l l = some (true, ()) := by
  have e := un (f := uI) l.Bal.length (fun i => (i, l, l, ())) () (by assumption)
    (fun i hi => by
      have hx := List.getElem?_eq_getElem hi
      show uI ((i : Int), l, l, ()) = _
      rw [zaX, zk, if_pos (show (i : Int) < (l.Bal.length : Int) by omega), z3 hx, Option.bind_some, Option.bind_some, yb (by omega)]
      simp)
    (by
      show uI ((l.Bal.length : Int), l, l, ()) = _
      rw [zaX, zk, if_neg (by omega)])
  rw [zl2]
  simp only [zN, if_true]
  exact congrArg (fun o => Option.bind o _) e
theorem zza {h : zw} (hl : h.Objs.length < 1000000) (ho : ∀ x ∈ h.Objs, x.length < 1000000) : zU vl (0, h, h, ()) = some (.brk ()) := by
  have e : ∀ (i : Nat) (x : _), h.Objs[i]? = some x → zU vo ((i : Int), 0, h, h, ()) = some (.brk ((i : Int), h, h, ())) := fun i x hx => by
    have hs := ho x (List.mem_of_getElem? hx)
    exact un (f := vo) x.length (fun j => ((i : Int), j, h, h, ())) ((i : Int), h, h, ()) hs
      (fun j hj => by
        have hy := List.getElem?_eq_getElem hj
        show vo ((i : Int), (j : Int), h, h, ()) = _
        rw [zaT, z3 hx, Option.bind_some, zk, if_pos (show (j : Int) < (x.length : Int) by omega), Option.bind_some, z3 hy, Option.bind_some, Option.bind_some, z3 hy, Option.bind_some, yb (by omega)]
        simp)
      (by
        show vo ((i : Int), (x.length : Int), h, h, ()) = _
        rw [zaT, z3 hx, Option.bind_some, zk, if_neg (by omega)])
  exact un (f := vl) h.Objs.length (fun i => (i, h, h, ())) () hl
    (fun i hi => by
      have hx := List.getElem?_eq_getElem hi
      show vl ((i : Int), h, h, ()) = _
      rw [za0, zk, if_pos (show (i : Int) < (h.Objs.length : Int) by omega), z3 hx, Option.bind_some, Option.bind_some, zN, if_pos rfl, e i _ hx]
      show some (yx.again (w64 ((i : Int) + 1), h, h, ())) = _
      rw [yb (by omega)])
    (by
      show vl ((h.Objs.length : Int), h, h, ()) = _
      rw [za0, zk, if_neg (by omega)])
theorem zf9 {h : zw} (hl : h.Objs.length < 1000000) (ho : ∀ x ∈ h.Objs, x.length < 1000000) : Z5 h h = some (true, ()) := by
  rw [zma]
  simp only [zN, if_true]
  rw [zza hl ho]; rfl
theorem zxy {h : zn} (hl : h.Regs.length < 1000000) (ho : ∀ x ∈ h.Regs, x.length < 1000000) : zU vg (0, h, h, ()) = some (.brk (h, h, ())) := by
  have e : ∀ (i : Nat) (x : _), h.Regs[i]? = some x → zU vn ((i : Int), 0, h, h, ()) = some (.brk ((i : Int), h, h, ())) := fun i x hx => by
    have hs := ho x (List.mem_of_getElem? hx)
    exact un (f := vn) x.length (fun j => ((i : Int), j, h, h, ())) ((i : Int), h, h, ()) hs
      (fun j hj => by
        have hy := List.getElem?_eq_getElem hj
        show vn ((i : Int), (j : Int), h, h, ()) = _
        rw [za6, z3 hx, Option.bind_some, zk, if_pos (show (j : Int) < (x.length : Int) by omega), Option.bind_some, z3 hy, Option.bind_some, Option.bind_some, z3 hy, Option.bind_some, yb (by omega)]
        simp)
      (by
        show vn ((i : Int), (x.length : Int), h, h, ()) = _
        rw [za6, z3 hx, Option.bind_some, zk, if_neg (by omega)])
  exact un (f := vg) h.Regs.length (fun i => (i, h, h, ())) (h, h, ()) hl
    (fun i hi => by
      have hx := List.getElem?_eq_getElem hi
      show vg ((i : Int), h, h, ()) = _
      rw [za7, zk, if_pos (show (i : Int) < (h.Regs.length : Int) by omega), z3 hx, Option.bind_some, Option.bind_some, zN, if_pos rfl, e i _ hx]
      show some (yx.again (w64 ((i : Int) + 1), h, h, ())) = _
      rw [yb (by omega)])
    (by
      show vg ((h.Regs.length : Int), h, h, ()) = _
      rw [za7, zk, if_neg (by omega)])
theorem zxH {h : zn} (hl : h.Progs.length < 1000000) (ho : ∀ x ∈ h.Progs, x.length < 1000000) : zU xU (0, h, h, ()) = some (.brk (h, h, ())) := by
  have e : ∀ (i : Nat) (x : _), h.Progs[i]? = some x → zU wP ((i : Int), 0, h, h, ()) = some (.brk ((i : Int), h, h, ())) := fun i x hx => by
    have hs := ho x (List.mem_of_getElem? hx)
    exact un (f := wP) x.length (fun j => ((i : Int), j, h, h, ())) ((i : Int), h, h, ()) hs
      (fun j hj => by
        have hy := List.getElem?_eq_getElem hj
        show wP ((i : Int), (j : Int), h, h, ()) = _
        rw [U5, z3 hx, Option.bind_some, zk, if_pos (show (j : Int) < (x.length : Int) by omega), Option.bind_some, z3 hy, Option.bind_some, Option.bind_some, z3 hy, Option.bind_some, yb (by omega)]
        simp)
      (by
        show wP ((i : Int), (x.length : Int), h, h, ()) = _
        rw [U5, z3 hx, Option.bind_some, zk, if_neg (by omega)])
  exact un (f := xU) h.Progs.length (fun i => (i, h, h, ())) (h, h, ()) hl
    (fun i hi => by
      have hx := List.getElem?_eq_getElem hi
      show xU ((i : Int), h, h, ()) = _
      rw [zao, zk, if_pos (show (i : Int) < (h.Progs.length : Int) by omega), z3 hx, Option.bind_some, Option.bind_some, zN, if_pos rfl, e i _ hx]
      show some (yx.again (w64 ((i : Int) + 1), h, h, ())) = _
      rw [yb (by omega)])
    (by
      show xU ((h.Progs.length : Int), h, h, ()) = _
      rw [zao, zk, if_neg (by omega)])
theorem zoz {p : zd} (h1 : p.H.Objs.length < 1000000) (h2 : ∀ x ∈ p.H.Objs, x.length < 1000000) (h3 : p.Regs.length < 1000000) (h4 : ∀ x ∈ p.Regs, x.length < 1000000) (h5 : p.Progs.length < 1000000) (h6 : ∀ x ∈ p.Progs, x.length < 1000000) (h7 : p.Picks.length < 1000000) : Wy (xd p) (xd p) = some (true, ()) := by
  have h8 : (xd p).Picks.length < 1000000 := by show (p.Picks.map zja).length < _; rw [List.length_map]; exact h7
  have e := un (f := wQ) (xd p).Picks.length (fun i => (i, xd p, xd p, ())) () (by assumption)
    (fun i hi => by
      have hx := List.getElem?_eq_getElem hi
      show wQ ((i : Int), xd p, xd p, ()) = _
      rw [zau, zk, if_pos (show (i : Int) < ((xd p).Picks.length : Int) by omega), z3 hx, Option.bind_some, Option.bind_some, yb (by omega)]
      simp)
    (by
      show wQ (((xd p).Picks.length : Int), xd p, xd p, ()) = _
      rw [zau, zk, if_neg (by omega)])
  have g1 : (xd p).Progs.length < 1000000 := by show (p.Progs.map _).length < _; rw [List.length_map]; exact h5
  have g2 : ∀ x ∈ (xd p).Progs, x.length < 1000000 := fun x hx => by
    obtain ⟨y, hy, rfl⟩ := List.mem_map.1 (show x ∈ p.Progs.map (fun l => l.map rOp) from hx)
    rw [List.length_map]; exact h6 y hy
  rw [zk3, zf9 (h := (xd p).H) h1 h2]
  simp only [zN, if_true, Option.bind_some, Bool.not_true, cond_false]
  rw [zxy (h := xd p) h3 h4]
  show Option.bind (zU xU (0, xd p, xd p, ())) _ = _
  rw [zxH g1 g2]
  show Option.bind (zU wQ (0, xd p, xd p, ())) _ = _
  exact congrArg (fun o => Option.bind o _) e
theorem zut {w : zm} (h : w.Batch.length < 1000000) : Xi w w = some (true, ()) := by
  rw [zfT, wL h]; simp
theorem zsY {m : zt} (h1 : m.Regs.length < 1000000) (h2 : m.Buf.length < 1000000) (h3 : m.Batch.length < 1000000) : YL m m = some (true, ()) := by
  rw [zfr, wL h1, wL h2, wL h3]; simp
theorem zxq {s : zb} (h : uW s) : WF (zO s) (zO s) = some (true, ()) := by
  have b1 : (zO s).Bins.length < 1000000 := h.bins
  have b2 : (zO s).Ws.length < 1000000 := by show (s.Ws.map yX).length < _; rw [List.length_map]; exact h.ws
  have b3 : (zO s).Ms.length < 1000000 := by show (s.Ms.map zen).length < _; rw [List.length_map]; exact h.ms
  have e1 := un (f := uP) (zO s).Bins.length (fun i => (i, zO s, zO s, ())) (zO s, zO s, ()) (by assumption)
    (fun i hi => by
      have hx := List.getElem?_eq_getElem hi
      show uP ((i : Int), zO s, zO s, ()) = _
      rw [za2, zk, if_pos (show (i : Int) < ((zO s).Bins.length : Int) by omega), z3 hx, Option.bind_some, Option.bind_some, yb (by omega)]
      rw [wL (h.bin _ (List.mem_of_getElem? hx))]; simp)
    (by
      show uP (((zO s).Bins.length : Int), zO s, zO s, ()) = _
      rw [za2, zk, if_neg (by omega)])
  have e2 := un (f := uN) (zO s).Ws.length (fun i => (i, zO s, zO s, ())) (zO s, zO s, ()) (by assumption)
    (fun i hi => by
      have hx := List.getElem?_eq_getElem hi
      show uN ((i : Int), zO s, zO s, ()) = _
      rw [zaY, zk, if_pos (show (i : Int) < ((zO s).Ws.length : Int) by omega), z3 hx, Option.bind_some, Option.bind_some, yb (by omega)]
      obtain ⟨y, hy, hh⟩ := List.mem_map.1 (show _ ∈ s.Ws.map yX from List.mem_of_getElem? hx)
      rw [← hh, zut (w := yX y) (h.w y hy)]; simp)
    (by
      show uN (((zO s).Ws.length : Int), zO s, zO s, ()) = _
      rw [zaY, zk, if_neg (by omega)])
  have e3 := un (f := um) (zO s).Ms.length (fun i => (i, zO s, zO s, ())) () (by assumption)
    (fun i hi => by
      have hx := List.getElem?_eq_getElem hi
      show um ((i : Int), zO s, zO s, ()) = _
      rw [U4, zk, if_pos (show (i : Int) < ((zO s).Ms.length : Int) by omega), z3 hx, Option.bind_some, Option.bind_some, yb (by omega)]
      obtain ⟨y, hy, hh⟩ := List.mem_map.1 (show _ ∈ s.Ms.map zen from List.mem_of_getElem? hx)
      rw [← hh, zsY (m := zen y) (h.mu y hy).1 (h.mu y hy).2.1 (h.mu y hy).2.2]; simp)
    (by
      show um (((zO s).Ms.length : Int), zO s, zO s, ()) = _
      rw [U4, zk, if_neg (by omega)])
  rw [zlj]
  have f1 : Wy (zO s).P (zO s).P = some (true, ()) := zoz h.pobjs h.pobj h.regs h.reg h.progs h.prog h.picks
  have f2 : Z5 (zO s).H (zO s).H = some (true, ()) := zf9 h.objs h.obj
  have f3 : WJ (zO s).M (zO s).M = some (true, ()) := zok h.m
  have f4 : xe (zO s).Acks (zO s).Acks = some (true, ()) := wL h.acks
  have f5 : Wx (zO s).L (zO s).L = some (true, ()) := zou h.bal
  simp only [f1, f2, f3, f4, f5, zN, if_true, Option.bind_some, Bool.not_true, cond_false, decide_true, Bool.and_self]
  refine (congrArg (fun o => Option.bind o _) e1).trans ?_
  rw [Option.bind_some]
  refine (congrArg (fun o => Option.bind o _) e2).trans ?_
  rw [Option.bind_some]
  exact congrArg (fun o => Option.bind o _) e3
end
end Go.Pe.G
namespace Go.Pe.G
open Go.Pe
noncomputable section
namespace B15
theorem ztH (d : zh) : ZT d = some (yz d, ()) := zhn d
theorem zpD (c : zD) : ub c = some (ww c, ()) := zh8 c
theorem zvE (g : zJ) : Yf g = some (WA g, ()) := by rw [zii, ztH, Option.bind_some, zpD]; rfl
theorem zxE (w : zg) : We w = some (yX w, ()) := by rw [zgF, ztH, Option.bind_some, zpD, Option.bind_some, zvE]; rfl
theorem zv1 (m : zc) : Xr m = some (zen m, ()) := by rw [zfV, zpD, Option.bind_some, zvE]; rfl
theorem zzQ {l : List zi} (hl : l.length < 1000000) : Ut l = some (l.map rOp, ()) := by
  have e := zg5 (f := vD) l rOp (fun i acc => (l, i, acc, ())) (fun acc => (acc, ())) hl
    (fun i x acc hx ha => by
      have hlt := xK hx
      show vD (l, (i : Int), acc, ()) = _
      rw [UY, zk, if_pos hlt]
      simp only [z3 hx, Option.bind_some]
      rw [y0 (by simp; omega), Option.bind_some, yb (by omega)]; rfl)
    (fun acc => by
      show vD (l, (l.length : Int), acc, ()) = _
      rw [UY, zk, if_neg (by omega)])
  rw [zjL]
  exact congrArg (fun o => Option.bind o _) e
theorem zyy {l : List zj} (hl : l.length < 1000000) : W3 l = some (l.map zja, ()) := by
  have e := zg5 (f := wY) l zja (fun i acc => (l, i, acc, ())) (fun acc => (acc, ())) hl
    (fun i x acc hx ha => by
      have hlt := xK hx
      show wY (l, (i : Int), acc, ()) = _
      rw [Vg, zk, if_pos hlt]
      simp only [z3 hx, Option.bind_some]
      rw [y0 (by simp; omega), Option.bind_some, yb (by omega)]; rfl)
    (fun acc => by
      show wY (l, (l.length : Int), acc, ()) = _
      rw [Vg, zk, if_neg (by omega)])
  rw [zhj]
  exact congrArg (fun o => Option.bind o _) e
theorem zzz {p : zd} (h1 : p.Progs.length < 1000000) (h2 : ∀ x ∈ p.Progs, x.length < 1000000) (h3 : p.Picks.length < 1000000) : VK p = some (xd p, ()) := by
  have e := zg5 (f := vr) p.Progs (fun l => l.map rOp) (fun i acc => (i, p, 0, 0, 0, 0, 0, 0, 0, 0, 0, 0#64, p.Workers, p.Mutators, p.Cap, p.Buf, p.Bin, p.Most, p.Price, p.Limit, (XM p.H), p.Roots, p.Regs, ([] : List (List Int)), ([] : List (List Int)), ([] : List (List zC)), ([] : List zx), acc, (p.Picks.map zja), ())) (fun acc => (0, 0, 0, 0, 0, 0, 0, 0, 0, 0#64, p.Workers, p.Mutators, p.Cap, p.Buf, p.Bin, p.Most, p.Price, p.Limit, (XM p.H), p.Roots, p.Regs, ([] : List (List Int)), ([] : List (List Int)), ([] : List (List zC)), ([] : List zx), acc, (p.Picks.map zja), ())) (by assumption)
    (fun i x acc hx ha => by
      have hlt := xK hx
      show vr ((i : Int), p, 0, 0, 0, 0, 0, 0, 0, 0, 0, 0#64, p.Workers, p.Mutators, p.Cap, p.Buf, p.Bin, p.Most, p.Price, p.Limit, (XM p.H), p.Roots, p.Regs, ([] : List (List Int)), ([] : List (List Int)), ([] : List (List zC)), ([] : List zx), acc, (p.Picks.map zja), ()) = _
      rw [Ua, zk, if_pos hlt, z3 hx, Option.bind_some, zzQ (h2 x (List.mem_of_getElem? hx)), Option.bind_some, y0 (by simp; omega), Option.bind_some, yb (by omega)])
    (fun acc => by
      show vr ((p.Progs.length : Int), p, 0, 0, 0, 0, 0, 0, 0, 0, 0, 0#64, p.Workers, p.Mutators, p.Cap, p.Buf, p.Bin, p.Most, p.Price, p.Limit, (XM p.H), p.Roots, p.Regs, ([] : List (List Int)), ([] : List (List Int)), ([] : List (List zC)), ([] : List zx), acc, (p.Picks.map zja), ()) = _
      rw [Ua, zk, if_neg (by omega)])
  rw [ziA, za8, Option.bind_some, zyy h3, Option.bind_some]
  exact congrArg (fun o => Option.bind o _) e
theorem zps {s : zb} (h : uW s) : ug s = some (zO s, ()) := by
  have hw := h.ws
  have hm := h.ms
  have e := zg5 (f := w8) s.Ws yX (fun i acc => (i, s, 0, 0, 0, 0, 0, 0, 0, 0, 0, 0#64, 0, zB.mk 0#64 0#64, 0, 0, false, false, 0, 0, 0, 0, zy.mk 0 0, (xd s.P), (XM s.H), s.M, s.Bins, (WC s.T), s.Work, s.Epoch, s.Flag, s.Done, s.Restarts, s.Acks, (v9 s.L), zy.mk s.D.PC s.D.I, ([] : List (List Int)), ([] : List (List Int)), ([] : List (List zC)), ([] : List zx), ([] : List (List Int)), ([] : List (BitVec 64)), ([] : List (List Int)), ([] : List Int), ([] : List Int), ([] : List zm), ([] : List zt), acc, ([] : List zt), ())) (fun acc => (s, 0, 0, 0, 0, 0, 0, 0, 0, 0, 0#64, 0, zB.mk 0#64 0#64, 0, 0, false, false, 0, 0, 0, 0, zy.mk 0 0, (xd s.P), (XM s.H), s.M, s.Bins, (WC s.T), s.Work, s.Epoch, s.Flag, s.Done, s.Restarts, s.Acks, (v9 s.L), zy.mk s.D.PC s.D.I, ([] : List (List Int)), ([] : List (List Int)), ([] : List (List zC)), ([] : List zx), ([] : List (List Int)), ([] : List (BitVec 64)), ([] : List (List Int)), ([] : List Int), ([] : List Int), ([] : List zm), ([] : List zt), acc, ([] : List zt), ())) (by assumption)
    (fun i x acc hx ha => by
      have hlt := xK hx
      show w8 ((i : Int), s, 0, 0, 0, 0, 0, 0, 0, 0, 0, 0#64, 0, zB.mk 0#64 0#64, 0, 0, false, false, 0, 0, 0, 0, zy.mk 0 0, (xd s.P), (XM s.H), s.M, s.Bins, (WC s.T), s.Work, s.Epoch, s.Flag, s.Done, s.Restarts, s.Acks, (v9 s.L), zy.mk s.D.PC s.D.I, ([] : List (List Int)), ([] : List (List Int)), ([] : List (List zC)), ([] : List zx), ([] : List (List Int)), ([] : List (BitVec 64)), ([] : List (List Int)), ([] : List Int), ([] : List Int), ([] : List zm), ([] : List zt), acc, ([] : List zt), ()) = _
      rw [Vh, zk, if_pos hlt, z3 hx, Option.bind_some, zxE, Option.bind_some, y0 (by simp; omega), Option.bind_some, yb (by omega)])
    (fun acc => by
      show w8 ((s.Ws.length : Int), s, 0, 0, 0, 0, 0, 0, 0, 0, 0, 0#64, 0, zB.mk 0#64 0#64, 0, 0, false, false, 0, 0, 0, 0, zy.mk 0 0, (xd s.P), (XM s.H), s.M, s.Bins, (WC s.T), s.Work, s.Epoch, s.Flag, s.Done, s.Restarts, s.Acks, (v9 s.L), zy.mk s.D.PC s.D.I, ([] : List (List Int)), ([] : List (List Int)), ([] : List (List zC)), ([] : List zx), ([] : List (List Int)), ([] : List (BitVec 64)), ([] : List (List Int)), ([] : List Int), ([] : List Int), ([] : List zm), ([] : List zt), acc, ([] : List zt), ()) = _
      rw [Vh, zk, if_neg (by omega)])
  have e2 := zg5 (f := wV) s.Ms zen (fun i acc => (i, s, 0, 0, 0, 0, 0, 0, 0, 0, 0, 0#64, 0, zB.mk 0#64 0#64, 0, 0, false, false, 0, 0, 0, 0, zy.mk 0 0, (xd s.P), (XM s.H), s.M, s.Bins, (WC s.T), s.Work, s.Epoch, s.Flag, s.Done, s.Restarts, s.Acks, (v9 s.L), zy.mk s.D.PC s.D.I, ([] : List (List Int)), ([] : List (List Int)), ([] : List (List zC)), ([] : List zx), ([] : List (List Int)), ([] : List (BitVec 64)), ([] : List (List Int)), ([] : List Int), ([] : List Int), ([] : List zm), ([] : List zt), (s.Ws.map yX), acc, ())) (fun acc => (0, 0, 0, 0, 0, 0, 0, 0, 0, 0#64, 0, zB.mk 0#64 0#64, 0, 0, false, false, 0, 0, 0, 0, zy.mk 0 0, (xd s.P), (XM s.H), s.M, s.Bins, (WC s.T), s.Work, s.Epoch, s.Flag, s.Done, s.Restarts, s.Acks, (v9 s.L), zy.mk s.D.PC s.D.I, ([] : List (List Int)), ([] : List (List Int)), ([] : List (List zC)), ([] : List zx), ([] : List (List Int)), ([] : List (BitVec 64)), ([] : List (List Int)), ([] : List Int), ([] : List Int), ([] : List zm), ([] : List zt), (s.Ws.map yX), acc, ())) (by assumption)
    (fun i x acc hx ha => by
      have hlt := xK hx
      show wV ((i : Int), s, 0, 0, 0, 0, 0, 0, 0, 0, 0, 0#64, 0, zB.mk 0#64 0#64, 0, 0, false, false, 0, 0, 0, 0, zy.mk 0 0, (xd s.P), (XM s.H), s.M, s.Bins, (WC s.T), s.Work, s.Epoch, s.Flag, s.Done, s.Restarts, s.Acks, (v9 s.L), zy.mk s.D.PC s.D.I, ([] : List (List Int)), ([] : List (List Int)), ([] : List (List zC)), ([] : List zx), ([] : List (List Int)), ([] : List (BitVec 64)), ([] : List (List Int)), ([] : List Int), ([] : List Int), ([] : List zm), ([] : List zt), (s.Ws.map yX), acc, ()) = _
      rw [Vk, zk, if_pos hlt, z3 hx, Option.bind_some, zv1, Option.bind_some, y0 (by simp; omega), Option.bind_some, yb (by omega)])
    (fun acc => by
      show wV ((s.Ms.length : Int), s, 0, 0, 0, 0, 0, 0, 0, 0, 0, 0#64, 0, zB.mk 0#64 0#64, 0, 0, false, false, 0, 0, 0, 0, zy.mk 0 0, (xd s.P), (XM s.H), s.M, s.Bins, (WC s.T), s.Work, s.Epoch, s.Flag, s.Done, s.Restarts, s.Acks, (v9 s.L), zy.mk s.D.PC s.D.I, ([] : List (List Int)), ([] : List (List Int)), ([] : List (List zC)), ([] : List zx), ([] : List (List Int)), ([] : List (BitVec 64)), ([] : List (List Int)), ([] : List Int), ([] : List Int), ([] : List zm), ([] : List zt), (s.Ws.map yX), acc, ()) = _
      rw [Vk, zk, if_neg (by omega)])
  rw [zhC, zzz h.progs h.prog h.picks, Option.bind_some, za8, Option.bind_some, zie, Option.bind_some, zgs, Option.bind_some]
  refine (congrArg (fun o => Option.bind o _) e).trans ?_
  rw [Option.bind_some]
  refine (congrArg (fun o => Option.bind o _) e2).trans ?_
  rfl
end B15
end
end Go.Pe.G
namespace Go.Pe.G
open Go.Pe
noncomputable section
theorem zyf {p : zd} {s : zb} (h : z7 p) (hP : s.P = p) (g : zJ) : zbB (zO s) (WA g) = some (zO (zjj s g).1, WA (zjj s g).2, ()) := by
  subst hP
  rw [zkY]
  show Option.bind (XI (WC s.T) g.Obj) _ = _
  rw [zyL, Option.bind_some]
  unfold zjj
  dsimp only
  cases hs : (UM s.T g.Obj).2 with
  | false =>
    have e : (UM s.T g.Obj).1 = s.T := by
      unfold UM at hs ⊢
      split at hs
      · rename_i h1; rw [if_pos h1]
      · rename_i h1
        split at hs
        · cases hs
        · rename_i h2; rw [if_neg h1, if_neg h2]
    rw [e]
    simp [WA]
  | true =>
    simp only [Bool.not_true, cond_false, zk]
    rw [if_neg (show ¬ (true = false) by decide)]
    show (if g.Mode = 1 then _ else if g.Mode = 2 then _ else _) = _
    by_cases m1 : g.Mode = 1
    · rw [if_pos m1, if_pos m1]
      show Option.bind (xF (xd s.P) g.Who) _ = _
      rw [zi1, Option.bind_some, W1]; rfl
    · rw [if_neg m1, if_neg m1]
      by_cases m2 : g.Mode = 2
      · rw [if_pos m2, if_pos m2]; rfl
      · rw [if_neg m2, if_neg m2, zhd (p := s.P) rfl h, Option.bind_some]; rfl
theorem zxT {p : zd} {nb : Nat} {s : zb} {g : zJ} (h : z7 p) (S : SOk p nb s) (M : MOk p nb g) : Ye (zO s) (WA g) = some (zO (ya s g).1, WA (ya s g).2, ()) := by
  have hP := S.P
  subst hP
  have hm : s.M.length < 4294967296 := by have := S.mem; omega
  have hc := h.cap
  rw [zlu, xf]
  simp only [zk, zN]
  have eO : (WA g).Out = g.Out := rfl
  have eM : (WA g).Mode = g.Mode := rfl
  have eP : (WA g).PC = g.PC := rfl
  rw [eO, eM, eP]
  unfold ya
  by_cases h0 : g.Out = 0
  · rw [if_pos h0]
    by_cases h1 : g.Mode < 1
    · rw [if_pos h1, if_pos (.inr (.inl h1))]
    rw [if_neg h1]
    by_cases h2 : 3 < g.Mode
    · rw [if_pos h2, if_pos (.inr (.inr (.inl h2)))]
    rw [if_neg h2]
    by_cases hr : g.PC < 0 ∨ 8 ≤ g.PC
    · rw [if_pos (show g.Out ≠ 0 ∨ g.Mode < 1 ∨ 3 < g.Mode ∨ g.PC < 0 ∨ 8 ≤ g.PC by omega), if_neg (by omega), if_neg (by omega), if_neg (by omega), if_neg (by omega), if_neg (by omega), if_neg (by omega), if_neg (by omega), if_neg (by omega)]
    rw [if_neg (show ¬ (g.Out ≠ 0 ∨ g.Mode < 1 ∨ 3 < g.Mode ∨ g.PC < 0 ∨ 8 ≤ g.PC) by omega)]
    have hpc : g.PC = 0 ∨ g.PC = 1 ∨ g.PC = 2 ∨ g.PC = 3 ∨ g.PC = 4 ∨ g.PC = 5 ∨ g.PC = 6 ∨ g.PC = 7 := by omega
    rcases hpc with c | c | c | c | c | c | c | c
    · rw [if_pos c, if_neg (by omega), if_neg (by omega), if_neg (by omega), if_neg (by omega), if_neg (by omega), if_neg (by omega), if_neg (by omega)]; rfl
    · rw [if_neg (by omega), if_pos c, if_neg (by omega), if_neg (by omega), if_neg (by omega), if_neg (by omega), if_neg (by omega), if_neg (by omega), if_pos c, zyf h rfl, Option.bind_some]
    · rw [if_neg (by omega), if_neg (by omega), if_pos c, if_neg (by omega), if_neg (by omega), if_neg (by omega), if_neg (by omega), if_neg (by omega), if_pos c]; rfl
    · obtain ⟨k1, _, k3, _⟩ := M.d3 c
      rw [if_neg (by omega), if_neg (by omega), if_neg (by omega), if_pos c, if_neg (by omega), if_neg (by omega), if_neg (by omega), if_neg (by omega), if_pos c]
      show Option.bind (xR s.M (yz g.D)) _ = _
      rw [znl hm k1 (by omega), Option.bind_some]
      unfold zlU
      dsimp only
      have e : (yz (wo s.M g.D).2).Out = (wo s.M g.D).2.Out := rfl
      rw [e]
      by_cases o1 : (wo s.M g.D).2.Out = 1
      · rw [if_pos o1, if_neg (by omega), if_pos o1]; rfl
      · rw [if_neg o1, if_neg o1]
        by_cases o3 : (wo s.M g.D).2.Out = 3
        · rw [if_pos o3, if_pos o3, zhd (p := s.P) rfl h, Option.bind_some, if_pos rfl]; rfl
        · rw [if_neg o3, if_neg o3]; rfl
    · rw [if_neg (by omega), if_neg (by omega), if_neg (by omega), if_neg (by omega), if_pos c, if_neg (by omega), if_neg (by omega), if_neg (by omega), if_pos c, zhd (p := s.P) rfl h, Option.bind_some, if_pos rfl]; rfl
    · rw [if_neg (by omega), if_neg (by omega), if_neg (by omega), if_neg (by omega), if_neg (by omega), if_pos c, if_neg (by omega), if_neg (by omega), if_pos c]
      show Option.bind (yW s.M (ww g.C)) _ = _
      rw [zn5 hm, Option.bind_some]
      unfold zlP
      dsimp only
      have e : (ww (zI s.M g.C).2).Out = (zI s.M g.C).2.Out := rfl
      rw [e]
      by_cases o1 : (zI s.M g.C).2.Out = 1
      · rw [if_pos o1, if_neg (by omega), if_pos o1]; rfl
      · rw [if_neg o1, if_neg o1]
        by_cases o3 : (zI s.M g.C).2.Out = 2
        · rw [if_pos o3, if_pos o3, zhd (p := s.P) rfl h, Option.bind_some, if_pos rfl]
          have : (WA g).PC = 5 := c
          unfold zpr
          simp [WA, ww, zO, c]
        · rw [if_neg o3, if_neg o3]; rfl
    · have hb := M.b6 c
      have hbl := S.bins
      rw [if_neg (by omega), if_neg (by omega), if_neg (by omega), if_neg (by omega), if_neg (by omega), if_neg (by omega), if_pos c, if_neg (by omega), if_pos c, zd4]
      show Option.bind (Option.bind (yZ s.Bins) _) _ = _
      rw [y0 (by have := S.nbk; omega), Option.bind_some]
      show Option.bind (Option.bind (vd s.Bins g.Bin) _) _ = _
      rw [uY (by omega) (by omega), Option.bind_some, Option.bind_some, zhd (p := s.P) rfl h, Option.bind_some]
      rw [if_neg (show ¬ (WA g).Bin = 0 from fun e => by have e : g.Bin = 0 := e; omega)]
      rfl
    · rw [if_neg (by omega), if_neg (by omega), if_neg (by omega), if_neg (by omega), if_neg (by omega), if_neg (by omega), if_neg (by omega), if_pos c, if_pos c]
      show Option.bind (yW s.M (ww g.C)) _ = _
      rw [zn5 hm, Option.bind_some]
      unfold zey
      dsimp only
      have e : (ww (zI s.M g.C).2).Out = (zI s.M g.C).2.Out := rfl
      rw [e]
      by_cases o1 : (zI s.M g.C).2.Out = 1
      · rw [if_pos o1, if_pos o1]; rfl
      · rw [if_neg o1, if_neg o1]; rfl
  · rw [if_neg h0, if_pos (.inl h0)]
end
end Go.Pe.G
namespace Go.Pe.G
open Go.Pe
noncomputable section
theorem zvH {m : List (BitVec 64)} (hm : m.length < 4294967296) (a : Int) (x y : BitVec 64) : WB m a x y = some ((sw m a x y).1, (sw m a x y).2, ()) := by
  obtain ⟨v, hv⟩ := zty hm a x y
  rw [zlz, hv]; rfl
theorem zvB {m : List (BitVec 64)} (hm : m.length < 4294967296) {d : zh} (hc : d.Cap < 1000) : xR m (yz d) = some ((yt m d).1, yz (yt m d).2, ()) := by
  by_cases k1 : d.Kind = 1
  · rw [zoZ k1]; exact znl hm k1 hc
  obtain ⟨w0, w1, w2, w3, w4, w5, w6, w7⟩ := zrP
  have eO : (yz d).Out = d.Out := rfl
  have eK : (yz d).Kind = d.Kind := rfl
  rw [zdl]
  simp only [zk, zN]
  rw [eO, eK, if_neg k1]
  unfold yt
  by_cases g0 : d.Out = 0
  rotate_left
  · rw [if_neg g0, if_pos (show d.Out ≠ 0 from g0)]
  rw [if_pos g0, if_neg (show ¬ (d.Out ≠ 0) from fun e => e g0), if_neg k1]
  by_cases k2 : d.Kind = 2
  · rw [if_pos k2, if_pos k2, zmA]
    simp only [zk, zN, xf]
    have eP : (yz d).PC = d.PC := rfl
    rw [eP]
    unfold zgo
    by_cases g1 : d.PC < 0 ∨ 7 ≤ d.PC
    · rw [if_pos g1, if_neg (by omega), if_neg (by omega), if_neg (by omega), if_neg (by omega), if_neg (by omega), if_neg (by omega), if_neg (by omega)]; rfl
    rw [if_neg g1]
    have hpc : d.PC = 0 ∨ d.PC = 1 ∨ d.PC = 2 ∨ d.PC = 3 ∨ d.PC = 4 ∨ d.PC = 5 ∨ d.PC = 6 := by omega
    rcases hpc with h | h | h | h | h | h | h
    · simp [h, zaF, w1, yz]
    · simp [h, zld hm, w2, yz]
    · rw [h, if_neg (by decide), if_neg (by decide), if_pos rfl, if_neg (by decide), if_neg (by decide), if_pos rfl]
      simp only [zaF, Option.bind_some]
      show Option.bind (if 0 < (ld m d.Base - (d.B - 1#64)).toInt then _ else _) _ = _
      by_cases hs : 0 < (ld m d.Base - (d.B - 1#64)).toInt
      · simp only [if_pos hs, Option.bind_some]; rfl
      · simp only [if_neg hs, Option.bind_some, Int.reduceAdd, w3]; rfl
    · simp only [h, zaF, zhN hc, Option.bind_some]
      by_cases hs : d.T = d.B - 1#64
      · simp [hs, w4, yz, g0, zhN hc, zaF]
      · simp [hs, w4, yz, zhN hc, zaF]
    · simp only [h, zvH hm, Option.bind_some]
      cases hs : (sw m d.Base d.T (d.T + 1#64)).2 with
      | true => simp [hs, w5, yz]
      | false => simp [hs, w5, yz]
    · simp [h, zld hm, w6, yz]
    · simp [h, zld hm, w7, yz]
  rw [if_neg k2, if_neg k2]
  by_cases k3 : d.Kind = 3
  · rw [if_pos k3, if_pos k3, zkJ]
    simp only [zk, zN, xf]
    have eP : (yz d).PC = d.PC := rfl
    rw [eP]
    unfold zaK
    by_cases g1 : d.PC < 0 ∨ 4 ≤ d.PC
    · rw [if_pos g1, if_neg (by omega), if_neg (by omega), if_neg (by omega), if_neg (by omega)]; rfl
    rw [if_neg g1]
    have hpc : d.PC = 0 ∨ d.PC = 1 ∨ d.PC = 2 ∨ d.PC = 3 := by omega
    rcases hpc with h | h | h | h
    · simp [h, zaF, w1, yz]
    · rw [h, if_neg (by decide), if_pos rfl, if_neg (by decide), if_pos rfl]
      simp only [zaF, Option.bind_some]
      show Option.bind (if (ld m (wc (d.Base + 1)) - d.T).toInt ≤ 0 then _ else _) _ = _
      by_cases hs : 0 < (ld m (wc (d.Base + 1)) - d.T).toInt
      · simp only [if_pos hs, if_neg (show ¬ (ld m (wc (d.Base + 1)) - d.T).toInt ≤ 0 by omega), Option.bind_some, Int.reduceAdd, w2]; rfl
      · simp only [if_neg hs, if_pos (show (ld m (wc (d.Base + 1)) - d.T).toInt ≤ 0 by omega), Option.bind_some, Int.reduceAdd, w2]; rfl
    · rw [h, if_neg (by decide), if_neg (by decide), if_pos rfl, if_neg (by decide), if_neg (by decide), if_pos rfl]
      show Option.bind (Option.bind (vY (yz d) d.T) _) _ = _
      rw [zhN hc, Option.bind_some, zaF]
      simp only [Option.bind_some, Int.reduceAdd, w3]; rfl
    · simp only [h, zvH hm, Option.bind_some]
      cases hs : (sw m d.Base d.T (d.T + 1#64)).2 with
      | true => simp [hs, w4, yz]
      | false => simp [hs, w4, yz]
  · rw [if_neg k3, if_neg k3]
theorem zzp (s : BitVec 64) (o : Int) : vQ s o = some (X3 s o, ()) := by
  by_cases h : 1 ≤ o ∧ o ≤ 64
  · rw [zuI s h]
    unfold X3 bit
    rw [if_pos h]
    congr 2
    cases hb : s.getLsbD (o - 1).toNat with
    | true => rw [decide_eq_false (fun e => by rw [(zgU s _ (by omega)).1 e] at hb; cases hb)]; rfl
    | false => rw [decide_eq_true ((zgU s _ (by omega)).2 hb)]; rfl
  · have hb : X3 s o = false := by unfold X3 bit; rw [if_neg h]; simp
    rw [hb, zd6, Zw]
    simp only [zk]
    by_cases h1 : 1 ≤ o
    · rw [if_pos h1, Option.bind_some, decide_eq_false (fun e => h ⟨h1, e⟩)]; rfl
    · rw [if_neg h1]; rfl
theorem zzd (s : BitVec 64) (o : Int) : YZ s o = some (s ||| bit o, ()) := by
  by_cases h : 1 ≤ o ∧ o ≤ 64
  · exact zxu s h
  · have hb : bit o = 0#64 := by unfold bit; rw [if_neg h]
    rw [hb, zd3, Zw]
    simp only [zk]
    by_cases h1 : 1 ≤ o
    · rw [if_pos h1, Option.bind_some, decide_eq_false (fun e => h ⟨h1, e⟩)]; simp
    · rw [if_neg h1, Option.bind_some]; simp
theorem zyn (a b : BitVec 64) (o : Int) : X3 (a &&& b) o = (X3 a o && X3 b o) := by
  by_cases h : 1 ≤ o ∧ o ≤ 64
  · have k : ∀ s : BitVec 64, X3 s o = s.getLsbD (o - 1).toNat := fun s => by
      unfold X3 bit
      rw [if_pos h]
      cases hb : s.getLsbD (o - 1).toNat with
      | true => rw [decide_eq_false (fun e => by rw [(zgU s _ (by omega)).1 e] at hb; cases hb)]; rfl
      | false => rw [decide_eq_true ((zgU s _ (by omega)).2 hb)]; rfl
    rw [k, k, k, BitVec.getLsbD_and]
  · have hb : ∀ s, X3 s o = false := fun s => by unfold X3 bit; rw [if_neg h]; simp
    rw [hb, hb]; rfl
theorem zAv (t : zr) (o : Int) : zdH (WC t) o = some (zbY t o, ()) := by
  rw [znj]
  simp only [zzp, Option.bind_some]
  show (bif !(X3 t.Marks o) then _ else bif X3 t.Black o then _ else _) = _
  unfold zbY
  rw [zyn]
  cases X3 t.Marks o <;> cases X3 t.Black o <;> rfl
theorem zzA (t : zr) (o : Int) : Yb (WC t) o = some (WC (zkZ t o), decide (zbY t o = 1), ()) := by
  rw [zk7, zAv, Option.bind_some, zN]
  unfold zkZ
  by_cases h : zbY t o = 1
  · rw [if_pos h, if_pos h, zzd, Option.bind_some, decide_eq_true h]; rfl
  · rw [if_neg h, if_neg h, decide_eq_false h]
theorem zyK {h : zF} (hl : h.Objs.length < 1000000) (o s : Int) : zax (XM h) o s = some (Ui h o s, ()) := by
  rw [← zln hl, zkr, zdb]; rfl
theorem zzW {h : zF} (hl : h.Objs.length < 1000000) (o s : Int) : Y4 (XM h) o s = some (Uh h o s, Ui h o s, ()) := by
  rw [← zuu hl, zmC, zmq, zyK hl, zln hl]; rfl
theorem zxm (l : zq) (who : Int) : XN (v9 l) who = some (decide (1 ≤ who) && decide (who ≤ (l.Bal.length : Int)), ()) := by
  rw [← znh, zkK, zac]; rfl
theorem zyh {l : zq} (hl : l.Bal.length < 1000000) {who : Int} (h : 1 ≤ who ∧ who ≤ (l.Bal.length : Int)) (n : Int) : Ww (v9 l) who n = some (v9 { l with Bal := l.Bal.set (who - 1).toNat (wc (l.Bal.getD (who - 1).toNat 0 + n)) }, ()) := by
  have e := List.getElem?_eq_getElem (show (who - 1).toNat < l.Bal.length by omega)
  rw [zlZ, xf]
  show Option.bind (yZ l.Bal) _ = _
  rw [y0 (by omega), Option.bind_some, Yh (a := who - 1) (by omega) (by omega), uY (l := l.Bal) (by omega) (by omega), Option.bind_some, e, Option.bind_some, Option.bind_some, List.getD_eq_getElem?_getD, e]
  rfl
theorem zyc {l : zq} (hl : l.Bal.length < 1000000) (who : Int) : Z9 (v9 l) who = some (v9 (zjg l who), ()) := by
  rw [zmj, xf]
  have e1 := zxm { l with Scanned := wc (l.Scanned + 1) } who
  show Option.bind (XN (v9 { l with Scanned := wc (l.Scanned + 1) }) who) _ = _
  rw [e1, Option.bind_some]
  unfold zjg
  by_cases h : 1 ≤ who ∧ who ≤ (l.Bal.length : Int)
  · rw [if_pos h, decide_eq_true h.1, decide_eq_true (show who ≤ ((({ l with Scanned := wc (l.Scanned + 1) } : zq).Bal.length : Nat) : Int) from h.2)]
    have e2 := zyh (l := { l with Scanned := wc (l.Scanned + 1) }) hl (who := who) h 1
    show Option.bind (Ww (v9 { l with Scanned := wc (l.Scanned + 1) }) who 1) _ = _
    rw [e2]; rfl
  · rw [if_neg h]
    have e : (decide (1 ≤ who) && decide (who ≤ ((({ l with Scanned := wc (l.Scanned + 1) } : zq).Bal.length : Nat) : Int))) = false := by
      by_cases h1 : 1 ≤ who
      · rw [decide_eq_true h1, decide_eq_false (fun e => h ⟨h1, e⟩)]; rfl
      · rw [decide_eq_false h1]; rfl
    rw [e]; rfl
def ztk (p : zd) (w : Int) (x : zm) : zm :=
  if Vp p.Workers x.Victim = w then { x with PC := 2, Victim := w, C := ww (zvW p (wj p) 0) }
  else { x with PC := 1, Victim := Vp p.Workers x.Victim, D := yz ⟨3, 0, uf p (Vp p.Workers x.Victim), p.Cap, 0#64, 0#64, 0, 0⟩ }
theorem zdd (p : zd) (w : Int) (x : zg) : yX (zgi p w x) = ztk p w (yX x) := by
  unfold zgi ztk
  show yX (if Vp p.Workers x.Victim = w then _ else _) = (if Vp p.Workers x.Victim = w then _ else _)
  split <;> rfl
theorem zuE {p : zd} (h : z7 p) {S : zo} (hP : S.P = xd p) (hl : (S.Ws.length : Int) = p.Workers) {X : zm} (hv : 1 ≤ X.Victim ∧ X.Victim ≤ p.Workers) (w : Int) : yD S X w = some (ztk p w X, ()) := by
  have hw := h.wk
  rw [zlV, yA (a := X.Victim + 1) (by omega) (by omega), hP, hl]
  simp only [zk, zo4 h, zpz h, zi1, Option.bind_some, WV, W1]
  unfold ztk Vp
  by_cases c : X.Victim < p.Workers
  · rw [if_neg (by omega), if_pos c]
    by_cases e : X.Victim + 1 = w
    · rw [if_pos e, if_pos e, e]; rfl
    · rw [if_neg e, if_neg e]; rfl
  · rw [if_pos (by omega), if_neg c]
    by_cases e : (1 : Int) = w
    · rw [if_pos e, if_pos e, ← e]; rfl
    · rw [if_neg e, if_neg e]; rfl
def zz7 (p : zd) (w : Int) (x : zm) : zm := { x with PC := 0, Victim := w, D := yz ⟨2, 0, uf p w, p.Cap, 0#64, 0#64, 0, 0⟩ }
theorem zsG {p : zd} {S : zo} (hP : S.P = xd p) (X : zm) (w : Int) : xH S X w = some (zz7 p w X, ()) := by
  rw [zkp, hP, zi1, Option.bind_some, W1]; rfl
theorem zoV (s : zb) (i : Int) : vp (zO s) i 5 8 = some (onW s i, ()) := by
  rw [ziN, zk]
  unfold onW
  show (if i = s.H.Slots then _ else _) = _
  split <;> rfl
theorem zzw {s : zb} (hb : s.Bins.length < 1000000) {b : Int} (h : 0 ≤ b ∧ b < (s.Bins.length : Int)) (l : List Int) : Zr (zO s) b l = some (zO { s with Bins := s.Bins.set b.toNat l }, ()) := by
  rw [zd4]
  show Option.bind (yZ s.Bins) _ = _
  rw [y0 (by omega), Option.bind_some, uY (l := s.Bins) h.1 h.2]; rfl
theorem zyd {p : zd} {nb : Nat} (h : z7 p) {s : zb} {x : zg} {w : Int} (S : SOk p nb s) (W : WOk p nb w x) (hl : (s.Ws.length : Int) = p.Workers) (sm : uW s) :
    zbD (zO s) (yX x) w = some (zO (yy s w x).1, yX (yy s w x).2, ()) := by
  have hP := S.P
  subst hP
  have hm : s.M.length < 4294967296 := by have := S.mem; omega
  have hc := h.cap
  have hl' : ((zO s).Ws.length : Int) = s.P.Workers := by show ((s.Ws.map yX).length : Int) = _; rw [List.length_map]; exact hl
  have hPr : (zO s).P = xd s.P := rfl
  rw [zlY]
  simp only [zk, zN]
  have eP : (yX x).PC = x.PC := rfl
  rw [eP]
  by_cases c01 : x.PC = 0 ∨ x.PC = 1
  · have hcap : x.D.Cap < 1000 := by
      rcases c01 with c | c
      · have := (W.d0 c).2.2; omega
      · have := (W.d1 c).2.2; omega
    unfold yy
    rw [if_pos c01]
    rcases c01 with c | c
    · rw [if_pos c, if_pos c]
      show Option.bind (xR s.M (yz x.D)) _ = _
      rw [zvB hm hcap, Option.bind_some]
      dsimp only
      have e : (yz (yt s.M x.D).2).Out = (yt s.M x.D).2.Out := rfl
      rw [e]
      by_cases o1 : (yt s.M x.D).2.Out = 1
      · rw [if_pos o1, if_neg (by omega), if_neg (by omega), if_pos o1]; rfl
      · rw [if_neg o1, if_neg o1]
        have hk := fun (m : List (BitVec 64)) => zuE h (S := { zO s with M := m }) hPr hl' (X := { yX x with D := yz (yt s.M x.D).2 }) W.vic w
        by_cases o2 : (yt s.M x.D).2.Out = 2
        · rw [if_pos o2, if_pos (.inl o2)]
          show Option.bind (yD { zO s with M := (yt s.M x.D).1 } { yX x with D := yz (yt s.M x.D).2 } w) _ = _
          rw [hk, Option.bind_some, zdd]; rfl
        · rw [if_neg o2]
          by_cases o4 : (yt s.M x.D).2.Out = 4
          · rw [if_pos o4, if_pos (.inr o4)]
            show Option.bind (yD { zO s with M := (yt s.M x.D).1 } { yX x with D := yz (yt s.M x.D).2 } w) _ = _
            rw [hk, Option.bind_some, zdd]; rfl
          · rw [if_neg o4, if_neg (by omega)]; rfl
    · rw [if_neg (by omega), if_pos c]
      show Option.bind (xR s.M (yz x.D)) _ = _
      rw [zvB hm hcap, Option.bind_some]
      dsimp only
      have e : (yz (yt s.M x.D).2).Out = (yt s.M x.D).2.Out := rfl
      rw [e]
      by_cases o1 : (yt s.M x.D).2.Out = 1
      · rw [if_pos o1, if_neg (by omega), if_neg (by omega), if_pos o1]; rfl
      · rw [if_neg o1, if_neg o1]
        have hk := fun (m : List (BitVec 64)) => zuE h (S := { zO s with M := m }) hPr hl' (X := { yX x with D := yz (yt s.M x.D).2 }) W.vic w
        by_cases o2 : (yt s.M x.D).2.Out = 2
        · rw [if_pos o2, if_pos (.inl o2)]
          show Option.bind (yD { zO s with M := (yt s.M x.D).1 } { yX x with D := yz (yt s.M x.D).2 } w) _ = _
          rw [hk, Option.bind_some, zdd]; rfl
        · rw [if_neg o2]
          by_cases o4 : (yt s.M x.D).2.Out = 4
          · rw [if_pos o4, if_pos (.inr o4)]
            show Option.bind (yD { zO s with M := (yt s.M x.D).1 } { yX x with D := yz (yt s.M x.D).2 } w) _ = _
            rw [hk, Option.bind_some, zdd]; rfl
          · rw [if_neg o4, if_neg (by omega)]; rfl
  rw [if_neg (show ¬ x.PC = 0 by omega), if_neg (show ¬ x.PC = 1 by omega)]
  unfold yy
  rw [if_neg c01]
  by_cases c2 : x.PC = 2
  · rw [if_pos c2, if_pos c2]
    show Option.bind (yW s.M (ww x.C)) _ = _
    rw [zn5 hm, Option.bind_some]
    dsimp only
    have e : (ww (zI s.M x.C).2).Out = (zI s.M x.C).2.Out := rfl
    rw [e]
    by_cases o1 : (zI s.M x.C).2.Out = 1
    · rw [if_pos o1, if_neg (by omega), if_pos o1]; rfl
    · rw [if_neg o1, if_neg o1]
      by_cases o2 : (zI s.M x.C).2.Out = 2
      · rw [if_pos o2, if_pos o2]
        show Option.bind (xH { zO s with M := (zI s.M x.C).1 } { yX x with C := ww (zI s.M x.C).2 } w) _ = _
        rw [zsG (p := s.P) (S := { zO s with M := (zI s.M x.C).1 }) rfl, Option.bind_some]; rfl
      · rw [if_neg o2, if_neg o2]; rfl
  rw [if_neg c2, if_neg c2]
  by_cases c3 : x.PC = 3
  · have B := W.b3 c3
    have hb := S.bins
    have hnb := S.nbk
    have e := List.getElem?_eq_getElem (show x.Bin.toNat < s.Bins.length by omega)
    rw [if_pos c3, if_pos c3]
    show Option.bind (idx s.Bins x.Bin) _ = _
    rw [Zj (by omega), e, Option.bind_some]
    show Option.bind (Zr (zO s) x.Bin []) _ = _
    rw [zzw (by omega) (by omega), Option.bind_some]
    have hPr' : (zO { s with Bins := s.Bins.set x.Bin.toNat [] }).P = xd s.P := hPr
    simp only [hPr', zm1 h, zpz h, Option.bind_some, WV]
    have eb : zlB s x.Bin = s.Bins[x.Bin.toNat]'(by omega) := by unfold zlB; rw [List.getD_eq_getElem?_getD, e]; rfl
    rw [eb]; rfl
  rw [if_neg c3, if_neg c3]
  by_cases c4 : x.PC = 4
  · rw [if_pos c4, if_pos c4]
    show Option.bind (yW s.M (ww x.C)) _ = _
    rw [zn5 hm, Option.bind_some]
    dsimp only
    have e : (ww (zI s.M x.C).2).Out = (zI s.M x.C).2.Out := rfl
    rw [e]
    by_cases o1 : (zI s.M x.C).2.Out = 1
    · rw [if_pos o1, if_pos o1]; rfl
    · rw [if_neg o1, if_neg o1]; rfl
  rw [if_neg c4, if_neg c4]
  by_cases c5 : x.PC = 5
  · rw [if_pos c5, if_pos c5]
    show Option.bind (Y4 (XM s.H) x.Obj x.Slot) _ = _
    rw [zzW sm.objs, Option.bind_some, xf]
    dsimp only
    by_cases v : Uh s.H x.Obj x.Slot = 0
    · rw [if_pos v, if_pos v, zoV, Option.bind_some]; rfl
    · rw [if_neg v, if_neg v, zkv, Option.bind_some]; rfl
  rw [if_neg c5, if_neg c5]
  by_cases c6 : x.PC = 6
  · obtain ⟨g1, g2, g3, g4⟩ := W.g6 c6
    rw [if_pos c6, if_pos c6]
    show Option.bind (Ye (zO s) (WA x.G)) _ = _
    rw [zxT h S g1, Option.bind_some]
    dsimp only
    have e : (WA (ya s x.G).2).Out = (ya s x.G).2.Out := rfl
    have eH : (ya s x.G).1.H = s.H := (zaf s x.G).2
    rw [e]
    by_cases o1 : (ya s x.G).2.Out = 1
    · rw [if_pos o1, if_pos o1, zoV, Option.bind_some]
      unfold onW
      rw [eH]; rfl
    · rw [if_neg o1, if_neg o1]; rfl
  rw [if_neg c6, if_neg c6]
  by_cases c7 : x.PC = 7
  · rw [if_pos c7, if_pos c7]
    have eB : (yX x).Batch = x.Batch := rfl
    rw [eB]
    cases hb : x.Batch with
    | nil => rw [if_pos (by simp), zsG (p := s.P) hPr, Option.bind_some]; rfl
    | cons o l =>
      rw [if_neg (by simp; omega), Zj (by omega)]
      simp only [Int.toNat_zero, List.getElem?_cons_zero, Option.bind_some]
      rw [zug]; rfl
  rw [if_neg c7, if_neg c7]
  by_cases c8 : x.PC = 8
  · rw [if_pos c8, if_pos c8]
    show Option.bind (Yb (WC s.T) x.Obj) _ = _
    rw [zzA, Option.bind_some]
    show Option.bind (Z9 (v9 s.L) 0) _ = _
    rw [zyc sm.bal]; rfl
  rw [if_neg c8, if_neg c8]
  by_cases c9 : x.PC = 9
  · rw [if_pos c9, if_pos c9, xf]; rfl
  · rw [if_neg c9, if_neg c9]
theorem zx7 {α β : Type} (f : α → β) (l : List α) (i : Nat) (x : α) : (l.map f).set i (f x) = (l.set i x).map f := (List.map_set ..).symm
theorem zuD {p : zd} {nb : Nat} {s : zb} (h : z7 p) (E : EOk p nb s) (w : Int) : WH (zO s) w = some (zO (vm s w), ()) := by
  have hl : ((zO s).Ws.length : Int) = (s.Ws.length : Int) := by show ((s.Ws.map yX).length : Int) = _; rw [List.length_map]
  have hd' : (zO s).Done = s.Done := rfl
  rw [zk2, hd', hl]
  simp only [zk]
  unfold vm
  cases hd : s.Done with
  | true => rw [cond_true, if_pos (.inl rfl)]
  | false =>
    rw [cond_false]
    by_cases h1 : w < 1
    · rw [if_pos h1, if_pos (.inr (.inl h1))]
    rw [if_neg h1]
    by_cases h2 : (s.Ws.length : Int) < w
    · rw [if_pos h2, if_pos (.inr (.inr h2))]
    have hwl := E.wl
    have hwk := h.wk
    have e := List.getElem?_eq_getElem (show (w - 1).toNat < s.Ws.length by omega)
    have ei : (((w - 1).toNat : Nat) : Int) + 1 = w := by omega
    have hW := E.W _ _ e
    rw [ei] at hW
    obtain ⟨T, TH⟩ := znG s w (s.Ws[(w - 1).toNat]'(by omega))
    rw [if_neg h2, if_neg (fun e => e.elim (fun h => by cases h) (fun e => e.elim h1 h2)), yA (a := w - 1) (by omega) (by omega)]
    show Option.bind (idx (s.Ws.map yX) (w - 1)) _ = _
    have hlen : (s.Ws.map yX).length = s.Ws.length := by rw [List.length_map]
    rw [Zj (by omega), List.getElem?_map, e]
    simp only [Option.map_some, Option.bind_some, zyd h E.S hW hwl E.small]
    show Option.bind (yZ ((yy s w (s.Ws[(w - 1).toNat]'(by omega))).1.Ws.map yX)) _ = _
    rw [T.ws, y0 (by omega), Option.bind_some, uY (l := s.Ws.map yX) (by omega) (by omega), Option.bind_some, zx7]
    rfl
end
end Go.Pe.G
namespace Go.Pe.G
open Go.Pe
noncomputable section
namespace B15
def zqS (w : Int) (n : Nat) (s : zb) : zb := goF (fun _ s => vm s w) 0 n s
theorem zyO {p : zd} {nb : Nat} (h : z7 p) {s : zb} (E : EOk p nb s) (w : Int) {n : Nat} (hn : n < 1000000) : wb s w (n : Int) = some (zqS w n s, ()) := by
  have e := zvt (f := vX) (fun i s => (w, (n : Int), i, s, 0, 0, 0, 0, 0, 0, 0, 0, 0, 0#64, 0, zr.mk 0#64 0#64, 0, 0, false, false, 0, 0, 0, 0, zu.mk 0 0, ([] : List (List Int)), ([] : List (List Int)), ([] : List (List zi)), ([] : List zj), ([] : List (List Int)), ([] : List (BitVec 64)), ([] : List (List Int)), ([] : List Int), ([] : List Int), ([] : List zg), ([] : List zc), ())) (fun s => (s, 0, 0, 0, 0, 0, 0, 0, 0, 0, 0#64, 0, zr.mk 0#64 0#64, 0, 0, false, false, 0, 0, 0, 0, zu.mk 0 0, ([] : List (List Int)), ([] : List (List Int)), ([] : List (List zi)), ([] : List zj), ([] : List (List Int)), ([] : List (BitVec 64)), ([] : List (List Int)), ([] : List Int), ([] : List Int), ([] : List zg), ([] : List zc), ())) n hn (fun _ s => vm s w) (EOk p nb) (fun _ s E => zic h E w)
    (fun i s hi E => by
      show vX (w, (n : Int), (i : Int), s, 0, 0, 0, 0, 0, 0, 0, 0, 0, 0#64, 0, zr.mk 0#64 0#64, 0, 0, false, false, 0, 0, 0, 0, zu.mk 0 0, ([] : List (List Int)), ([] : List (List Int)), ([] : List (List zi)), ([] : List zj), ([] : List (List Int)), ([] : List (BitVec 64)), ([] : List (List Int)), ([] : List Int), ([] : List Int), ([] : List zg), ([] : List zc), ()) = _
      rw [zad, zk, if_pos (by omega), zeR h E, Option.bind_some, yb (by omega)])
    (fun s E => by
      show vX (w, (n : Int), (n : Int), s, 0, 0, 0, 0, 0, 0, 0, 0, 0, 0#64, 0, zr.mk 0#64 0#64, 0, 0, false, false, 0, 0, 0, 0, zu.mk 0 0, ([] : List (List Int)), ([] : List (List Int)), ([] : List (List zi)), ([] : List zj), ([] : List (List Int)), ([] : List (BitVec 64)), ([] : List (List Int)), ([] : List Int), ([] : List Int), ([] : List zg), ([] : List zc), ()) = _
      rw [zad, zk, if_neg (by omega)]) E
  rw [zkQ]
  exact congrArg (fun o => Option.bind o _) e
def zr2 (ord : List (BitVec 8)) (i : Nat) (s : zb) : Int := 1 + ((ord.getD i 0#8).toNat : Int).tmod (s.Ws.length : Int)
def zAR (ord : List (BitVec 8)) (n : Nat) (s : zb) : zb := goF (fun i s => vm s (zr2 ord i s)) 0 n s
theorem zAf {p : zd} {nb : Nat} (h : z7 p) {s : zb} (E : EOk p nb s) (b : BitVec 8) : w64 (1 + (b.toNat : Int).tmod (s.Ws.length : Int)) = 1 + (b.toNat : Int).tmod (s.Ws.length : Int) ∧ 1 ≤ 1 + (b.toNat : Int).tmod (s.Ws.length : Int) ∧ 1 + (b.toNat : Int).tmod (s.Ws.length : Int) ≤ (s.Ws.length : Int) := by
  have hw := h.wk
  have hl := E.wl
  have := wy (show (0 : Int) ≤ (b.toNat : Int) by omega) (show (0 : Int) < (s.Ws.length : Int) by omega)
  exact ⟨yA (by omega) (by omega), by omega, by omega⟩
theorem zyv {A B D : Type} {f : A → Option (yx A B D)} {x : A} {b : B} (h : f x = some (.brk b)) : zU f x = some (.brk b) := by
  rw [VR]
  show vG f (18446744073709551615 + 1) x = _
  rw [vG, h]; rfl
def V6 : zd := ⟨1, 0, 2, 1, 1, 4, 2, 2, ⟨1, [[2], [0], [0]]⟩, 1#64, [], [], []⟩
theorem zx3 : zaa [] = some (V6, ()) := by
  rw [zkd, zyv (by rw [zhA]; rfl)]; rfl
theorem zdn : z7 V6 := by
  constructor
  case objs => intro o ho; simp [V6] at ho ⊢; rcases ho with rfl | rfl | rfl <;> simp
  case roots => exact ⟨1, by decide, by decide, by decide⟩
  case reg => intro r hr; cases hr
  case prog => intro k r ops hr; cases hr
  all_goals first | decide | rfl
theorem zs6 : WT = some (true, ()) := by
  have E := zwX zdn
  have r := fun n hn => zyO zdn E 1 (n := n) hn
  have e4 : wb (zbp V6) 1 4 = some (zqS 1 4 (zbp V6), ()) := r 4 (by decide)
  have e11 : wb (zbp V6) 1 11 = some (zqS 1 11 (zbp V6), ()) := r 11 (by decide)
  have e100 : wb (zbp V6) 1 100 = some (zqS 1 100 (zbp V6), ()) := r 100 (by decide)
  have out : ∀ w : Int, w < 1 ∨ 1 < w → vm (zbp V6) w = zbp V6 := fun w hw => by
    unfold vm
    rw [if_pos (.inr (hw.imp id (fun e => by show (((List.range 1).map (Ug V6)).length : Int) < w; rw [List.length_map, List.length_range]; omega)))]
  rw [zhl, zx3]
  simp only [Option.bind_some, zsB zdn, e4, e11, e100, zeR zdn E, out 2 (.inr (by decide)), out 0 (.inl (by decide)), zwc (zsr zdn)]
  decide +kernel
theorem workerTells_plain (l ord : List (BitVec 8)) (w : Int) : wW l ord w = some (true, ()) := by
  obtain ⟨p, ep, h⟩ := zy0 l
  have E0 := zwX h
  have e := zvt (f := wg) (fun i s => (ord, w, true, i, s, (zO s), ())) (fun s => (w, true, s, (zO s), ())) (min ord.length 250) (by omega) (fun i s => vm s (zr2 ord i s)) (EOk p (xu p + 1)) (fun _ s E => zic h E _)
    (fun i s hi E => by
      have hx := List.getElem?_eq_getElem (show i < ord.length by omega)
      have hl := E.wl
      have hw := h.wk
      have E' := zic h E (zr2 ord i s)
      show wg (ord, w, true, (i : Int), s, (zO s), ()) = _
      have ew : zr2 ord i s = 1 + ((ord[i]'(by omega)).toNat : Int).tmod (s.Ws.length : Int) := by unfold zr2; rw [List.getD_eq_getElem?_getD, hx]; rfl
      rw [XD, zk, if_pos (by omega), zk, if_pos (by omega), z3 hx, Option.bind_some, zk, if_neg (by omega), (zAf h E _).1, ← ew]
      simp only [zeR h E, zuD h E, Option.bind_some, zps E'.small, zxq E'.small, Bool.not_true, cond_false]
      rw [yb (by omega)])
    (fun s E => by
      show wg (ord, w, true, ((min ord.length 250 : Nat) : Int), s, (zO s), ()) = _
      rw [XD, zk]
      by_cases c : ((min ord.length 250 : Nat) : Int) < (ord.length : Int)
      · rw [if_pos c, zk, if_neg (by omega)]
      · rw [if_neg c]) E0
  have E1 := zsS (g := fun i s => vm s (zr2 ord i s)) (Inv := EOk p (xu p + 1)) (fun _ s E => zic h E _) (min ord.length 250) 0 (zbp p) E0
  have E2 := zic h E1 w
  rw [zfs, zs6]
  simp only [Option.bind_some, Bool.not_true, cond_false, ep, zsB h, zps E0.small]
  refine (congrArg (fun o => Option.bind o _) e).trans ?_
  simp only [Option.bind_some, cond_true, zeR h E1, zuD h E1, zps E2.small, zxq E2.small]
end B15
end
end Go.Pe.G
