/- Own work of this seat: PA, PB, PMk, PMade17, PRight, PNew, PInv, PNewOk, PSmall, PSame, PGo, PDq, PWork, PMut, PEng, PLowEq, PMutEq, PLaw17. -/
import Derived.Test.YtodhlecdfgklaaaGreatDoorDWGb
set_option linter.unusedVariables false
set_option linter.unusedSimpArgs false
set_option linter.unnecessarySimpa false
set_option linter.unusedSectionVars false
set_option linter.deprecated false
set_option maxRecDepth 20000
namespace Go.Pe.G
open Go.Pe
noncomputable section
theorem uk {A B D : Type} {f : A → Option (yQ A B D)} (Inv : A → Prop) (ms : A → Nat) (Q : yQ Unit B D → Prop)
    (h : ∀ a, Inv a → ∃ o, f a = some o ∧ match o with
      | .again a' => Inv a' ∧ ms a' < ms a
      | .brk b => Q (.brk b)
      | .ret c => Q (.ret c)) : ∀ a, Inv a → ms a < Y7 → ∃ o, ya f a = some o ∧ Q o := by
  have key : ∀ (n : Nat) a, Inv a → ms a < n → ∃ o, vH f n a = some o ∧ Q o := by
    intro n
    induction n with
    | zero => intro a _ h; omega
    | succ n ih =>
      intro a ha hm
      obtain ⟨o, ho, hq⟩ := h a ha
      simp only [vH, ho, Option.bind_some]
      cases o with
      | again a' => exact ih a' hq.1 (by have := hq.2; omega)
      | brk b => exact ⟨_, rfl, hq⟩
      | ret c => exact ⟨_, rfl, hq⟩
  intro a ha hm
  rw [WP]
  exact key Y7 a ha hm
theorem xz {n : Nat} (h : n < 18446744073709551616) : n < Y7 := h
theorem z8 {a : Int} (h : -9223372036854775808 ≤ a) (h2 : a < 9223372036854775808) : w64 a = a := by
  rw [zg3]; omega
def wc (n : Int) : Int := (n + 9223372036854775808) % 18446744073709551616 - 9223372036854775808
theorem wx : w64 = wc := funext zg3
theorem Y5 {a : Int} (h : -9223372036854775808 ≤ a) (h2 : a < 9223372036854775808) : wc a = a := by unfold wc; omega
theorem zvO (a : Int) (h : -9223372036854775808 ≤ a) (h2 : a < 9223372036854775808) : w64 (w64 (a + 1) - 1) = a := by
  simp only [zg3]; omega
theorem zr {α : Type} (p : Prop) [Decidable p] (a b : α) : (bif decide p then a else b) = if p then a else b := by
  by_cases h : p <;> simp [h]
theorem z7 {α : Type} (p : Prop) [Decidable p] (a b : α) : (bif !(decide p) then a else b) = if p then b else a := by
  by_cases h : p <;> simp [h]
theorem xZ {α : Type} {l : List α} (h : l.length < 4294967296) : xy l = some l := by
  rw [zpE]; simp [h]
theorem uh {α : Type} {l : List α} {i : Int} (h : 0 ≤ i) : idx l i = l[i.toNat]? := by
  unfold idx; simp [h]
theorem Xq {α : Type} {l : List α} {i : Int} (h : 0 ≤ i) (h2 : i < l.length) : xU l i = some i.toNat := by
  unfold xU; simp [h, h2]
def bit (o : Int) : BitVec 64 := if 1 ≤ o ∧ o ≤ 64 then 1#64 <<< (o - 1).toNat else 0#64
theorem zrj (a : Int) : zfO a = some (bit a, ()) := by
  rw [zpG]
  simp only [zr]
  unfold bit
  by_cases h1 : a < 1
  · rw [if_pos h1, if_neg (by omega)]
  · rw [if_neg h1]
    by_cases h2 : 64 < a
    · rw [if_pos h2, if_neg (by omega)]
    · rw [if_neg h2, z8 (a := a - 1) (by omega) (by omega), if_neg (show ¬ a - 1 < 0 by omega), if_pos (show 1 ≤ a ∧ a ≤ 64 by omega), Nat.min_eq_left (by omega)]
theorem znZ (s : BitVec 64) (o : Int) : zcg s o = some (!(decide (s &&& bit o = 0#64)), ()) := by
  rw [zpC, zrj]; rfl
theorem zjP (s : BitVec 64) (o : Int) : UG s o = some (s ||| bit o, ()) := by
  rw [zqb, zrj]; rfl
def zfI (t : zp) (o : Int) : zp × Bool :=
  if t.Marks ||| bit o = t.Marks then (t, false) else if t.Black &&& bit o = 0#64 then ({ t with Marks := t.Marks ||| bit o }, true) else (t, false)
theorem zsd (t : zp) (o : Int) : U2 t o = some ((zfI t o).1, (zfI t o).2, ()) := by
  rw [zlN, zjP, Option.bind_some, zr]
  unfold zfI
  by_cases h1 : t.Marks ||| bit o = t.Marks
  · rw [if_pos h1, if_pos h1]
  · rw [if_neg h1, if_neg h1, znZ, Option.bind_some, z7]
    by_cases h2 : t.Black &&& bit o = 0#64
    · rw [if_pos h2, if_pos h2]
    · rw [if_neg h2, if_neg h2]
theorem zod {m : List (BitVec 64)} (h : m.length < 4294967296) : yD m = some (m, ()) := by
  rw [Uq, List.nil_append, xZ h, Option.bind_some]
  cases m with
  | nil => simp [zfM]
  | cons a l => simp
theorem zrL {m : List (List Int)} (h : m.length < 4294967296) : xR m = some (m, ()) := by
  rw [zbo, List.nil_append, xZ h, Option.bind_some]
  cases m with
  | nil => simp [zfM]
  | cons a l => simp
def ld (m : List (BitVec 64)) (a : Int) : BitVec 64 := if 0 ≤ a then m.getD a.toNat 0#64 else 0#64
def st (m : List (BitVec 64)) (a : Int) (v : BitVec 64) : List (BitVec 64) := if 0 ≤ a then m.set a.toNat v else m
def sw (m : List (BitVec 64)) (at_ : Int) (a b : BitVec 64) : List (BitVec 64) × Bool :=
  if 0 ≤ at_ ∧ at_ < m.length ∧ ld m at_ = a then (st m at_ b, true) else (m, false)
theorem zpg {m : List (BitVec 64)} {a : Int} (h : 0 ≤ a) (h2 : a < m.length) : m[a.toNat]? = some (ld m a) := by
  unfold ld
  rw [if_pos h, List.getD_eq_getElem?_getD, List.getElem?_eq_getElem (by omega)]; rfl
theorem zrp {m : List (BitVec 64)} {a : Int} : st m a (ld m a) = m := by
  unfold st ld
  by_cases h : 0 ≤ a
  · rw [if_pos h, if_pos h]
    by_cases h2 : a.toNat < m.length
    · rw [List.getD_eq_getElem?_getD, List.getElem?_eq_getElem h2]; simp
    · rw [List.set_eq_of_length_le (by omega)]
  · rw [if_neg h]
theorem zsM {m : List (BitVec 64)} {a : Int} (h : a < 0 ∨ m.length ≤ a) : ld m a = 0#64 := by
  unfold ld
  rcases h with h | h
  · rw [if_neg (by omega)]
  · split
    · rw [List.getD_eq_getElem?_getD, List.getElem?_eq_none (by omega)]; rfl
    · rfl
theorem zsZ {m : List (BitVec 64)} {a : Int} {v : BitVec 64} (h : a < 0 ∨ m.length ≤ a) : st m a v = m := by
  unfold st
  rcases h with h | h
  · rw [if_neg (by omega)]
  · split
    · rw [List.set_eq_of_length_le (by omega)]
    · rfl
theorem zro (m : List (BitVec 64)) (a : Int) (x y : BitVec 64) : ∃ b, ZI m ⟨1, a, x, y⟩ = some (m, ld m a, b, ()) := by
  rw [zgP]
  simp only [zr, if_true]
  by_cases h1 : a < 0
  · rw [if_pos h1, zsM (.inl h1)]; exact ⟨_, rfl⟩
  · rw [if_neg h1]
    by_cases h2 : (m.length : Int) ≤ a
    · rw [if_pos h2, zsM (.inr h2)]; exact ⟨_, rfl⟩
    · rw [if_neg h2, uh (by omega), zpg (by omega) (by omega), Option.bind_some, zow, Option.bind_some]
      simp
theorem zqg {m : List (BitVec 64)} (hm : m.length < 4294967296) (a : Int) (x y : BitVec 64) : ∃ v b, ZI m ⟨2, a, x, y⟩ = some (st m a x, v, b, ()) := by
  rw [zgP]
  simp only [zr, if_true, if_neg (show ¬ (2 : Int) = 1 by omega)]
  by_cases h1 : a < 0
  · rw [if_pos h1, zsZ (.inl h1)]; exact ⟨_, _, rfl⟩
  · rw [if_neg h1]
    by_cases h2 : (m.length : Int) ≤ a
    · rw [if_pos h2, zsZ (.inr h2)]; exact ⟨_, _, rfl⟩
    · rw [if_neg h2, uh (by omega), zpg (by omega) (by omega), Option.bind_some, zoJ, Option.bind_some, cond_true, z7]
      by_cases h3 : ld m a = x
      · rw [if_pos h3]
        subst h3
        rw [zrp]; exact ⟨_, _, rfl⟩
      · rw [if_neg h3, zod hm, Option.bind_some, Xq (l := m) (by omega) (by omega), Option.bind_some]
        unfold st
        rw [if_pos (by omega)]
        exact ⟨_, _, rfl⟩
theorem znG {m : List (BitVec 64)} (hm : m.length < 4294967296) (a : Int) (x y : BitVec 64) : ∃ v, ZI m ⟨3, a, x, y⟩ = some ((sw m a x y).1, v, (sw m a x y).2, ()) := by
  rw [zgP]
  simp only [zr, if_true, if_neg (show ¬ (3 : Int) = 1 by omega), if_neg (show ¬ (3 : Int) = 2 by omega)]
  by_cases h1 : a < 0
  · rw [if_pos h1]
    have : sw m a x y = (m, false) := by unfold sw; rw [if_neg (by omega)]
    rw [this]; exact ⟨_, rfl⟩
  · rw [if_neg h1]
    by_cases h2 : (m.length : Int) ≤ a
    · rw [if_pos h2]
      have : sw m a x y = (m, false) := by unfold sw; rw [if_neg (by omega)]
      rw [this]; exact ⟨_, rfl⟩
    · rw [if_neg h2, uh (by omega), zpg (by omega) (by omega), Option.bind_some, zoL, Option.bind_some]
      simp only [zr]
      by_cases h3 : ld m a = x
      · have : sw m a x y = (st m a y, true) := by unfold sw; rw [if_pos ⟨by omega, by omega, h3⟩]
        rw [if_pos h3, this, z7]
        by_cases h4 : ld m a = y
        · rw [if_pos h4]
          have : st m a y = m := by rw [← h4, zrp]
          rw [this]
          simp [h3]
        · rw [if_neg h4, zod hm, Option.bind_some, Xq (l := m) (by omega) (by omega), Option.bind_some]
          unfold st
          rw [if_pos (by omega)]
          simp [h3]
      · have : sw m a x y = (m, false) := by unfold sw; rw [if_neg (by rintro ⟨_, _, h⟩; exact h3 h)]
        rw [if_neg h3, this]
        simp [h3]
theorem zmG (m : List (BitVec 64)) (a : Int) : U3 m a = some (ld m a, ()) := by
  obtain ⟨b, h⟩ := zro m a 0#64 0#64
  rw [zmq, h]; rfl
theorem VQ {m : List (BitVec 64)} (hm : m.length < 4294967296) (a : Int) (x : BitVec 64) : uT m a x = some (st m a x, ()) := by
  obtain ⟨v, b, h⟩ := zqg hm a x 0#64
  rw [zlh, h]; rfl
theorem Yb (m : List (BitVec 64)) (a : Int) : vu m a = some (ld m a, ()) := by
  obtain ⟨b, h⟩ := zro m a 0#64 0#64
  rw [zmu, h]; rfl
theorem VP {m : List (BitVec 64)} (hm : m.length < 4294967296) (a : Int) (x : BitVec 64) : uN m a x = some (st m a x, ()) := by
  obtain ⟨v, b, h⟩ := zqg hm a x 0#64
  rw [zkA, h]; rfl
def yz (h : BitVec 64) : Int := (h &&& 4294967295#64).toInt
def Xn (v : BitVec 64) (n : Int) : BitVec 64 := (v <<< 32) ||| (BitVec.ofInt 64 n &&& 4294967295#64)
theorem zdQ (h : BitVec 64) : ZC h = some (yz h, ()) := zmd h
theorem zdN (v : BitVec 64) (n : Int) : Xe v n = some (Xn v n, ()) := zlz v n
def zJ (m : List (BitVec 64)) (c : zw) : List (BitVec 64) × zw :=
  if c.Out ≠ 0 ∨ (c.Kind ≠ 1 ∧ c.Kind ≠ 2) ∨ c.PC < 0 ∨ 3 ≤ c.PC then (m, c)
  else if c.PC = 0 then
    (m, if c.Kind = 2 ∧ yz (ld m c.Head) = 0 then { c with H := ld m c.Head, Out := 2, PC := 1 } else { c with H := ld m c.Head, PC := 1 })
  else if c.PC = 1 then
    if c.Kind = 2 then (m, { c with Y := (ld m (wc (c.Next + yz c.H))).toInt, PC := 2 })
    else (st m (wc (c.Next + c.X)) (BitVec.ofInt 64 (yz c.H)), { c with PC := 2 })
  else
    let r := sw m c.Head c.H (Xn ((c.H >>> 32) + 1#64) (if c.Kind = 2 then c.Y else c.X))
    (r.1, if r.2 then (if c.Kind = 2 then { c with X := yz c.H, Out := 1, PC := 3 } else { c with Out := 1, PC := 3 }) else { c with PC := 0 })
theorem zmi {m : List (BitVec 64)} (hm : m.length < 4294967296) (c : zw) : Xd m c = some ((zJ m c).1, (zJ m c).2, ()) := by
  have hsee : xJ m c = some (m, (if c.Kind = 2 ∧ yz (ld m c.Head) = 0 then { c with H := ld m c.Head, Out := 2 } else { c with H := ld m c.Head }), ()) := by
    rw [zds, zmG, Option.bind_some, zdQ, Option.bind_some, zr, zr]
    by_cases h1 : c.Kind = 2
    · by_cases h2 : yz (ld m c.Head) = 0
      · rw [if_pos h1, if_pos h2, if_pos ⟨h1, h2⟩]
      · rw [if_pos h1, if_neg h2, if_neg (fun h => h2 h.2)]
    · rw [if_neg h1, if_neg (fun h => h1 h.1)]
  have hlink : Zi m c = some (st m (wc (c.Next + c.X)) (BitVec.ofInt 64 (yz c.H)), ()) := by
    rw [zfs, wx, zdQ, Option.bind_some, VQ hm]; rfl
  have hbeh : vg m c = some (m, { c with Y := (ld m (wc (c.Next + yz c.H))).toInt }, ()) := by
    rw [zbe, wx, zdQ, Option.bind_some, zmG]; rfl
  have hswap : xw m c = some ((sw m c.Head c.H (Xn ((c.H >>> 32) + 1#64) (if c.Kind = 2 then c.Y else c.X))).1,
      (if (sw m c.Head c.H (Xn ((c.H >>> 32) + 1#64) (if c.Kind = 2 then c.Y else c.X))).2 then (if c.Kind = 2 then { c with X := yz c.H, Out := 1 } else { c with Out := 1 }) else { c with PC := -1 }), ()) := by
    rw [zcU, zr]
    by_cases h1 : c.Kind = 2
    · rw [if_pos h1, zdN, Option.bind_some]
      obtain ⟨v, hv⟩ := znG hm c.Head c.H (Xn ((c.H >>> 32) + 1#64) c.Y)
      simp only [if_pos h1]
      rw [hv, Option.bind_some]
      cases hs : (sw m c.Head c.H (Xn ((c.H >>> 32) + 1#64) c.Y)).2 with
      | true => simp [hs, h1, zdQ]
      | false => simp [hs]
    · rw [if_neg h1, zdN, Option.bind_some]
      obtain ⟨v, hv⟩ := znG hm c.Head c.H (Xn ((c.H >>> 32) + 1#64) c.X)
      simp only [if_neg h1]
      rw [hv, Option.bind_some]
      cases hs : (sw m c.Head c.H (Xn ((c.H >>> 32) + 1#64) c.X)).2 with
      | true => simp [hs, h1]
      | false => simp [hs]
  rw [zmx, hsee, hlink, hbeh, hswap]
  simp only [zr, z7, Option.bind_some]
  unfold zJ
  by_cases h0 : c.Out = 0
  · by_cases hp0 : c.PC < 0
    · have : (c.Out ≠ 0 ∨ (c.Kind ≠ 1 ∧ c.Kind ≠ 2) ∨ c.PC < 0 ∨ 3 ≤ c.PC) := .inr (.inr (.inl hp0))
      rw [if_pos this]
      simp [h0, hp0]
    · by_cases hp3 : 3 ≤ c.PC
      · have : (c.Out ≠ 0 ∨ (c.Kind ≠ 1 ∧ c.Kind ≠ 2) ∨ c.PC < 0 ∨ 3 ≤ c.PC) := .inr (.inr (.inr hp3))
        rw [if_pos this]
        simp [h0, hp3]
      · by_cases hk : c.Kind = 1 ∨ c.Kind = 2
        · have : ¬ (c.Out ≠ 0 ∨ (c.Kind ≠ 1 ∧ c.Kind ≠ 2) ∨ c.PC < 0 ∨ 3 ≤ c.PC) := by
            rintro (h | h | h | h)
            · exact h h0
            · omega
            · exact hp0 h
            · exact hp3 h
          rw [if_neg this]
          have hpc : c.PC = 0 ∨ c.PC = 1 ∨ c.PC = 2 := by omega
          have w1 : w64 1 = 1 := z8 (by omega) (by omega)
          have w2 : w64 2 = 2 := z8 (by omega) (by omega)
          have w3 : w64 3 = 3 := z8 (by omega) (by omega)
          have w4 : w64 0 = 0 := z8 (by omega) (by omega)
          rcases hk with hk | hk <;> rcases hpc with hpc | hpc | hpc <;> simp [h0, hk, hpc, w1, w2, w3, w4] <;> (try split) <;> simp [hpc, w1, w3, w4]
        · have : (c.Out ≠ 0 ∨ (c.Kind ≠ 1 ∧ c.Kind ≠ 2) ∨ c.PC < 0 ∨ 3 ≤ c.PC) := .inr (.inl (by omega))
          rw [if_pos this]
          have k1 : ¬ c.Kind = 1 := by omega
          have k2 : ¬ c.Kind = 2 := by omega
          simp [h0, k1, k2]
  · have : (c.Out ≠ 0 ∨ (c.Kind ≠ 1 ∧ c.Kind ≠ 2) ∨ c.PC < 0 ∨ 3 ≤ c.PC) := .inl h0
    rw [if_pos this]
    simp [h0]
end
end Go.Pe.G
namespace Go.Pe.G
open Go.Pe
noncomputable section
def W1 (d : zh) : BitVec 64 := BitVec.ofInt 64 (if d.Cap < 1 then 1 else d.Cap)
def zap (d : zh) (i : BitVec 64) : Int := wc (wc (d.Base + 2) + (i % W1 d).toInt)
def uc (m : List (BitVec 64)) (d : zh) : List (BitVec 64) × zh :=
  if d.Out ≠ 0 ∨ d.PC < 0 ∨ 4 ≤ d.PC then (m, d)
  else if d.PC = 0 then (m, { d with B := ld m (wc (d.Base + 1)), PC := 1 })
  else if d.PC = 1 then (m, if W1 d ≤ d.B - ld m d.Base then { d with T := ld m d.Base, Out := 3, PC := 2 } else { d with T := ld m d.Base, PC := 2 })
  else if d.PC = 2 then (st m (zap d d.B) (BitVec.ofInt 64 d.X), { d with PC := 3 })
  else (st m (wc (d.Base + 1)) (d.B + 1#64), { d with Out := 1, PC := 4 })
theorem zqm : w64 0 = 0 ∧ w64 1 = 1 ∧ w64 2 = 2 ∧ w64 3 = 3 ∧ w64 4 = 4 := by
  refine ⟨?_, ?_, ?_, ?_, ?_⟩ <;> exact z8 (by omega) (by omega)
theorem zsr {d : zh} (h : d.Cap < 1000) : W1 d ≠ 0#64 := by
  unfold W1
  intro e
  have := congrArg BitVec.toNat e
  rw [BitVec.toNat_ofInt] at this
  split at this <;> simp at this <;> omega
theorem zlB (d : zh) : Zk d = some (W1 d, ()) := by
  rw [zfi]; unfold W1; rw [zr]
theorem zgm {d : zh} (h : d.Cap < 1000) (i : BitVec 64) : wU i d = some (zap d i, ()) := by
  rw [zeR, wx, zlB, Option.bind_some, zr, if_neg (zsr h)]; rfl
theorem zfR {m : List (BitVec 64)} (hm : m.length < 4294967296) {d : zh} (hk : d.Kind = 1) (hc : d.Cap < 1000) : zau m d = some ((uc m d).1, (uc m d).2, ()) := by
  obtain ⟨w0, w1, w2, w3, w4⟩ := zqm
  have h0 : xl m d = some (m, { d with B := ld m (wc (d.Base + 1)) }, ()) := by
    rw [ZU, yE, wx, Option.bind_some, Yb]; rfl
  have h1 : ZW m d = some (m, (if W1 d ≤ d.B - ld m d.Base then { d with T := ld m d.Base, Out := 3 } else { d with T := ld m d.Base }), ()) := by
    rw [zcL, ur, Option.bind_some, Yb, Option.bind_some, zlB, Option.bind_some, zr]
    have e : W1 { d with T := ld m d.Base } = W1 d := rfl
    simp only [e]
    by_cases h : W1 d ≤ d.B - ld m d.Base
    · rw [if_pos h, if_pos h, xh]
      simp [hk]
    · rw [if_neg h, if_neg h]
  have h2 : Wg m d = some (st m (zap d d.B) (BitVec.ofInt 64 d.X), ()) := by
    rw [zgF, zgm hc, Option.bind_some, VP hm]; rfl
  have h3 : uP m d = some (st m (wc (d.Base + 1)) (d.B + 1#64), { d with Out := 1 }, ()) := by
    rw [zaV, xh]
    simp only [decide_true, Bool.not_true, cond_false, Option.bind_some, yE, wx]
    rw [VP hm]; rfl
  rw [zfL, h0, h1, h2, h3, zdo]
  simp only [hk, decide_true, cond_true, Option.bind_some, z7, zr]
  have key : ∀ (x : Option (List (BitVec 64) × zh × Unit)) (v : List (BitVec 64) × zh × Unit) (y : Option (List (BitVec 64) × zh × Unit)), x = some v → Option.or x y = some v := by
    rintro _ v y rfl; rfl
  apply key
  unfold uc
  by_cases g0 : d.Out = 0
  · by_cases g1 : d.PC < 0
    · simp [g0, g1]
    · by_cases g2 : 4 ≤ d.PC
      · simp [g0, g2]
      · have hpc : d.PC = 0 ∨ d.PC = 1 ∨ d.PC = 2 ∨ d.PC = 3 := by omega
        rcases hpc with h | h | h | h <;> simp [g0, h, hk, w1, w2, w3, w4] <;> (try split) <;> simp [h, hk, w2]
  · simp [g0]
def wv (p : zd) : Int := wc (p.Workers * wc (p.Cap + 2))
def yy (p : zd) : Int := wc (wv p + 1)
def uX (p : zd) (w : Int) : Int := wc (wc (w - 1) * wc (p.Cap + 2))
theorem zij (p : zd) : Xf p = some (wv p, ()) := by rw [zmr, wx]; rfl
theorem zgv (p : zd) : Z8 p = some (yy p, ()) := by rw [zld, wx, zij]; rfl
theorem zdI (p : zd) : ZG p = some (yy p, ()) := by rw [zmz, zgv]; rfl
theorem zkf (p : zd) (w : Int) : V5 p w = some (uX p w, ()) := by rw [zkT, wx]; rfl
def zm2 (p : zd) (g : zC) : zC := { g with PC := 5, C := ⟨2, 0, yy p, yy p, 0#64, 0, 0, 0⟩ }
theorem zhO (a : zt) : x6 a = some (⟨zm2 a.s.P a.Grey, a.s⟩, ()) := by
  rw [zeW, zgv, Option.bind_some, zdI, Option.bind_some, Un]; rfl
def zmv (s : zc) (g : zC) : zc × zC :=
  let t := zfI s.T g.Obj
  ({ s with T := t.1 },
    if t.2 = false then { g with PC := 2 }
    else if g.Mode = 1 then { g with PC := 3, D := ⟨1, 0, uX s.P g.Who, s.P.Cap, 0#64, 0#64, g.Obj, 0⟩ }
    else if g.Mode = 2 then { g with PC := 4 }
    else zm2 s.P g)
def zjN (s : zc) (g : zC) : zc × zC :=
  let r := uc s.M g.D
  ({ s with M := r.1 }, if r.2.Out = 1 then { g with D := r.2, Out := 1 } else if r.2.Out = 3 then zm2 s.P { g with D := r.2 } else { g with D := r.2 })
def zjM (s : zc) (g : zC) : zc × zC :=
  let r := zJ s.M g.C
  ({ s with M := r.1 }, if r.2.Out = 1 then { g with PC := 6, C := r.2, Bin := r.2.X } else if r.2.Out = 2 then zm2 s.P { g with C := r.2 } else { g with C := r.2 })
def zuw (s : zc) (g : zC) : zc × zC :=
  ({ s with Bins := s.Bins.set g.Bin.toNat [g.Obj] }, { g with PC := 7, C := ⟨1, 0, wv s.P, yy s.P, 0#64, g.Bin, 0, 0⟩ })
def zeg (s : zc) (g : zC) : zc × zC :=
  let r := zJ s.M g.C
  ({ s with M := r.1 }, if r.2.Out = 1 then { g with C := r.2, Out := 1 } else { g with C := r.2 })
def z3 (s : zc) (g : zC) : zc × zC :=
  if g.Out ≠ 0 ∨ g.Mode < 1 ∨ 3 < g.Mode ∨ g.PC < 0 ∨ 8 ≤ g.PC then (s, g)
  else if g.PC = 7 then zeg s g
  else if g.PC = 6 then zuw s g
  else if g.PC = 5 then zjM s g
  else if g.PC = 4 then ({ s with Flag := true }, zm2 s.P g)
  else if g.PC = 3 then zjN s g
  else if g.PC = 2 then ({ s with Work := wc (s.Work - 1) }, { g with Out := 1 })
  else if g.PC = 1 then zmv s g
  else ({ s with Work := wc (s.Work + 1) }, { g with PC := 1 })
structure GOk (s : zc) (g : zC) : Prop where
  mem : s.M.length < 4294967296
  bins : s.Bins.length < 4294967296
  bin : g.PC = 6 → 0 ≤ g.Bin ∧ g.Bin < s.Bins.length
  deq : g.PC = 3 → g.D.Kind = 1 ∧ g.D.Cap < 1000
theorem ztb {s : zc} {g : zC} (ok : GOk s g) : zgq s g = some ((z3 s g).1, (z3 s g).2, ()) := by
  rw [zmW]
  simp only [zr, z7]
  unfold z3
  by_cases h0 : g.Out = 0
  rotate_left
  · rw [if_neg h0, if_pos (.inl h0)]
  rw [if_pos h0]
  by_cases h1 : g.Mode < 1
  · rw [if_pos h1, if_pos (.inr (.inl h1))]
  rw [if_neg h1]
  by_cases h2 : 3 < g.Mode
  · rw [if_pos h2, if_pos (.inr (.inr (.inl h2)))]
  rw [if_neg h2]
  by_cases h3 : g.PC < 0
  · rw [if_pos h3, if_pos (.inr (.inr (.inr (.inl h3))))]
  rw [if_neg h3]
  by_cases h4 : 8 ≤ g.PC
  · rw [if_pos h4, if_pos (.inr (.inr (.inr (.inr h4))))]
  rw [if_neg h4, if_neg (show ¬ (g.Out ≠ 0 ∨ g.Mode < 1 ∨ 3 < g.Mode ∨ g.PC < 0 ∨ 8 ≤ g.PC) by omega)]
  by_cases p7 : g.PC = 7
  · rw [if_pos p7, if_pos p7, zbL]
    simp only [zmi ok.mem, Option.bind_some, zr]
    by_cases e : (zJ s.M g.C).2.Out = 1 <;> simp [zeg, e]
  rw [if_neg p7, if_neg p7]
  by_cases p6 : g.PC = 6
  · rw [if_pos p6, if_pos p6, zdU]
    obtain ⟨b1, b2⟩ := ok.bin p6
    simp only [zrL ok.bins, Option.bind_some, Xq (l := s.Bins) b1 b2, zij, zdI, Un]
    rfl
  rw [if_neg p6, if_neg p6]
  by_cases p5 : g.PC = 5
  · rw [if_pos p5, if_pos p5, zdM]
    simp only [zmi ok.mem, Option.bind_some, zr, zhO]
    by_cases e : (zJ s.M g.C).2.Out = 1
    · simp [zjM, e]
    · by_cases e2 : (zJ s.M g.C).2.Out = 2 <;> simp [zjM, e, e2]
  rw [if_neg p5, if_neg p5]
  by_cases p4 : g.PC = 4
  · rw [if_pos p4, if_pos p4, zdG, zhO]; rfl
  rw [if_neg p4, if_neg p4]
  by_cases p3 : g.PC = 3
  · rw [if_pos p3, if_pos p3, zdO]
    obtain ⟨b1, b2⟩ := ok.deq p3
    simp only [zfR ok.mem b1 b2, Option.bind_some, zr, zhO]
    by_cases e : (uc s.M g.D).2.Out = 1
    · simp [zjN, e]
    · by_cases e2 : (uc s.M g.D).2.Out = 3 <;> simp [zjN, e, e2]
  rw [if_neg p3, if_neg p3]
  by_cases p2 : g.PC = 2
  · rw [if_pos p2, if_pos p2, zdY, wx]; rfl
  rw [if_neg p2, if_neg p2]
  by_cases p1 : g.PC = 1
  · rw [if_pos p1, if_pos p1, zdJ]
    simp only [zsd, Option.bind_some, zr, zhO, zkf, zeb]
    unfold zmv
    cases hs : (zfI s.T g.Obj).2 with
    | false => simp [hs]
    | true =>
      by_cases m1 : g.Mode = 1
      · simp [hs, m1]
      · by_cases m2 : g.Mode = 2 <;> simp [hs, m1, m2]
  rw [if_neg p1, if_neg p1, if_pos (show g.PC = 0 by omega), zbs, wx]; rfl
end
end Go.Pe.G
namespace Go.Pe.G
open Go.Pe
noncomputable section
theorem wa {b k : Int} (h : 0 ≤ b) (hk : 0 < k) : 0 ≤ b.tmod k ∧ b.tmod k < k := by
  rw [Int.tmod_eq_emod_of_nonneg h]; exact ⟨Int.emod_nonneg _ (by omega), Int.emod_lt_of_pos _ hk⟩
def zeN (o : zg) (regs slots : Int) : Prop := (0 ≤ o.R ∧ o.R < regs) ∧
  ((o.Kind = 1 ∨ o.Kind = 2) ∧ (0 ≤ o.A ∧ o.A < regs) ∧ (0 ≤ o.S ∧ o.S < slots) ∨ o.Kind = 4 ∧ (0 ≤ o.A ∧ o.A < regs) ∧ o.S = 0 ∨ (o.Kind = 3 ∨ o.Kind = 5) ∧ o.A = 0 ∧ o.S = 0)
structure zS (p : zd) : Prop where
  wk : 1 ≤ p.Workers ∧ p.Workers ≤ 3
  mt : 0 ≤ p.Mutators ∧ p.Mutators ≤ 2
  cap : 1 ≤ p.Cap ∧ p.Cap ≤ 3
  buf : 1 ≤ p.Buf ∧ p.Buf ≤ 2
  bin : 1 ≤ p.Bin ∧ p.Bin ≤ 3
  price : 0 ≤ p.Price ∧ p.Price ≤ 3
  limit : 0 ≤ p.Limit ∧ p.Limit ≤ 3
  slots : 1 ≤ p.H.Slots ∧ p.H.Slots ≤ 2
  n : 1 ≤ (p.H.Objs.length : Int) ∧ (p.H.Objs.length : Int) ≤ 6
  objs : ∀ o ∈ p.H.Objs, (o.length : Int) = p.H.Slots ∧ ∀ v ∈ o, 0 ≤ v ∧ v ≤ (p.H.Objs.length : Int)
  most : (p.H.Objs.length : Int) ≤ p.Most ∧ p.Most ≤ (p.H.Objs.length : Int) + 3
  roots : ∃ r, 0 ≤ r ∧ r ≤ (p.H.Objs.length : Int) ∧ p.Roots = bit r
  regs : (p.Regs.length : Int) = p.Mutators
  progs : (p.Progs.length : Int) = p.Mutators
  reg : ∀ r ∈ p.Regs, (1 ≤ (r.length : Int) ∧ (r.length : Int) ≤ 3) ∧ ∀ v ∈ r, 0 ≤ v ∧ v ≤ (p.H.Objs.length : Int)
  prog : ∀ (k : Nat) r ops, p.Regs[k]? = some r → p.Progs[k]? = some ops → (ops.length : Int) ≤ 7 ∧ ∀ o ∈ ops, zeN o (r.length : Int) p.H.Slots
  picks : p.Picks = []
end
end Go.Pe.G
namespace Go.Pe.G
open Go.Pe
noncomputable section
namespace B17
def Z0 (m : zv) : Prop := 0 ≤ m.At ∧ m.At ≤ m.L.length ∧ m.L.length ≤ 90
theorem wp {m : zv} (h : Z0 m) : ∃ b m', zq m = some (b, m', ()) ∧ (0 ≤ b ∧ b < 256) ∧ Z0 m' := by
  obtain ⟨h1, h2, h3⟩ := h
  rw [zaM, zr]
  by_cases h : (m.L.length : Int) ≤ m.At
  · rw [if_pos h]; exact ⟨_, _, rfl, by omega, h1, h2, h3⟩
  · rw [if_neg h, z8 (a := m.At + 1) (by omega) (by omega), z8 (by omega) (by omega), uh (by omega), List.getElem?_eq_getElem (by omega), Option.bind_some]
    exact ⟨_, _, rfl, by have := (m.L[(m.At + 1 - 1).toNat]'(by omega)).isLt; omega, show 0 ≤ m.At + 1 by omega, show m.At + 1 ≤ m.L.length by omega, h3⟩
theorem zvY {m : zv} (h : Z0 m) {regs slots : Int} (hr : 1 ≤ regs) (hs : 1 ≤ slots) : ∃ o m', ZJ regs slots m = some (o, m', ()) ∧ zeN o regs slots ∧ Z0 m' := by
  obtain ⟨b1, m1, e1, r1, k1⟩ := wp h
  obtain ⟨b2, m2, e2, r2, k2⟩ := wp k1
  obtain ⟨b3, m3, e3, r3, k3⟩ := wp k2
  obtain ⟨b4, m4, e4, r4, k4⟩ := wp k3
  have t1 := wa r1.1 (show (0 : Int) < 8 by omega)
  have t2 := wa r2.1 (show (0 : Int) < regs by omega)
  have t3 := wa r3.1 (show (0 : Int) < regs by omega)
  have t4 := wa r4.1 (show (0 : Int) < slots by omega)
  have t5 := wa r3.1 (show (0 : Int) < slots by omega)
  have hn : ¬ regs = 0 := by omega
  have hn2 : ¬ slots = 0 := by omega
  rw [zcm, e1, Option.bind_some, Xq t1.1 (by simpa using t1.2), Option.bind_some]
  have hx : b1.tmod 8 = 0 ∨ b1.tmod 8 = 1 ∨ b1.tmod 8 = 2 ∨ b1.tmod 8 = 3 ∨ b1.tmod 8 = 4 ∨ b1.tmod 8 = 5 ∨ b1.tmod 8 = 6 ∨ b1.tmod 8 = 7 := by omega
  rcases hx with hx | hx | hx | hx | hx | hx | hx | hx <;> simp [hx, e2, e3, e4, hn, hn2] <;> refine ⟨_, _, ⟨rfl, rfl⟩, ?_, by assumption⟩ <;> (unfold zeN; dsimp only; omega)
theorem zt6 {s1 : Int} {s2 : Int} {s4 : Int} {s5 : Int} {s6 : Int} {s7 : Int} {s8 : Int} {s9 : Int} {s10 : Int} {s11 : Int} {s12 : Int} {s13 : BitVec 64} {s15 : Int} {s16 : Int} {s17 : Int} {s18 : Int} {s19 : Int} {s20 : Int} {s21 : Int} {s22 : Int} {s23 : Int} {s24 : BitVec 64} {s26 : List (List Int)} {s27 : List (List Int)} {s28 : List (List zg)} {s29 : List zi} {s30 : List (List Int)} {s31 : List (List Int)} {s32 : List (List zg)} {s33 : List zi} (hn : 1 ≤ s1 ∧ s1 ≤ 6) (hs : 1 ≤ s23 ∧ s23 ≤ 2) {mk : zv} (hm : Z0 mk) :
    ∃ mk' l, ya uK (s1, s2, 0, s4, s5, s6, s7, s8, s9, s10, s11, s12, s13, mk, s15, s16, s17, s18, s19, s20, s21, s22, s23, s24, [], s26, s27, s28, s29, s30, s31, s32, s33, ()) = some (.brk (s1, s2, s4, s5, s6, s7, s8, s9, s10, s11, s12, s13, mk', s15, s16, s17, s18, s19, s20, s21, s22, s23, s24, l, s26, s27, s28, s29, s30, s31, s32, s33, ())) ∧ Z0 mk' ∧ (l.length : Int) = s23 ∧ ∀ v ∈ l, 0 ≤ v ∧ v ≤ s1 := by
  refine (uk (f := uK)
    (fun a => ∃ i mk l, a = (s1, s2, i, s4, s5, s6, s7, s8, s9, s10, s11, s12, s13, mk, s15, s16, s17, s18, s19, s20, s21, s22, s23, s24, l, s26, s27, s28, s29, s30, s31, s32, s33, ()) ∧ Z0 mk ∧ (0 ≤ i ∧ i ≤ s23 ∧ (l.length : Int) = i) ∧ ∀ v ∈ l, 0 ≤ v ∧ v ≤ s1)
    (fun a => (s23 - a.2.2.1).toNat)
    (fun o => match o with | .brk b => ∃ mk l, b = (s1, s2, s4, s5, s6, s7, s8, s9, s10, s11, s12, s13, mk, s15, s16, s17, s18, s19, s20, s21, s22, s23, s24, l, s26, s27, s28, s29, s30, s31, s32, s33, ()) ∧ Z0 mk ∧ (l.length : Int) = s23 ∧ ∀ v ∈ l, 0 ≤ v ∧ v ≤ s1 | _ => False) ?_
    (s1, s2, 0, s4, s5, s6, s7, s8, s9, s10, s11, s12, s13, mk, s15, s16, s17, s18, s19, s20, s21, s22, s23, s24, [], s26, s27, s28, s29, s30, s31, s32, s33, ()) ⟨0, mk, [], rfl, hm, by simp; omega, by simp⟩ (xz (by simp; omega))).elim fun o h => ?_
  rotate_left
  · obtain ⟨ho, hq⟩ := h
    cases o with
    | again a => exact hq.elim
    | ret a => exact hq.elim
    | brk b =>
      obtain ⟨mk', l, rfl, h1, h2, h3⟩ := hq
      exact ⟨mk', l, ho, h1, h2, h3⟩
  · rintro _ ⟨i, mk, l, rfl, h1, h2, h3⟩
    rw [zes, zr]
    by_cases hi : i < s23
    · rw [if_pos hi]
      obtain ⟨b, mk', e, r, k⟩ := wp h1
      have w1 : w64 (s1 + 1) = s1 + 1 := z8 (by omega) (by omega)
      have t := wa r.1 (show 0 < s1 + 1 by omega)
      rw [e, Option.bind_some, w1, zr, if_neg (by omega), xZ (by simp; omega), Option.bind_some, z8 (a := i + 1) (by omega) (by omega)]
      refine ⟨_, rfl, ⟨i + 1, mk', l ++ [b.tmod (s1 + 1)], rfl, k, by simp; omega, fun v hv => ?_⟩, ?_⟩
      · rcases List.mem_append.1 hv with hv | hv
        · exact h3 v hv
        · simp at hv; omega
      · show (s23 - (i + 1)).toNat < (s23 - i).toNat
        omega
    · rw [if_neg hi]
      exact ⟨_, rfl, mk, l, rfl, h1, by omega, h3⟩
theorem zva {s1 : Int} {s3 : Int} {s4 : Int} {s5 : Int} {s6 : Int} {s7 : Int} {s8 : Int} {s9 : Int} {s10 : Int} {s11 : Int} {s12 : BitVec 64} {s14 : Int} {s15 : Int} {s16 : Int} {s17 : Int} {s18 : Int} {s19 : Int} {s20 : Int} {s21 : Int} {s22 : Int} {s23 : BitVec 64} {s24 : List (List Int)} {s25 : List (List Int)} {s26 : List (List zg)} {s27 : List zi} {s29 : List (List Int)} {s30 : List (List zg)} {s31 : List zi} (hn : 1 ≤ s1 ∧ s1 ≤ 6) (hs : 1 ≤ s22 ∧ s22 ≤ 2) {mk : zv} (hm : Z0 mk) :
    ∃ mk' l, ya u0 (s1, 0, s3, s4, s5, s6, s7, s8, s9, s10, s11, s12, mk, s14, s15, s16, s17, s18, s19, s20, s21, s22, s23, s24, s25, s26, s27, [], s29, s30, s31, ()) = some (.brk (s1, s3, s4, s5, s6, s7, s8, s9, s10, s11, s12, mk', s14, s15, s16, s17, s18, s19, s20, s21, s22, s23, s24, s25, s26, s27, l, s29, s30, s31, ())) ∧ Z0 mk' ∧ (l.length : Int) = s1 ∧ ∀ o ∈ l, (o.length : Int) = s22 ∧ ∀ v ∈ o, 0 ≤ v ∧ v ≤ s1 := by
  refine (uk (f := u0)
    (fun a => ∃ i mk l, a = (s1, i, s3, s4, s5, s6, s7, s8, s9, s10, s11, s12, mk, s14, s15, s16, s17, s18, s19, s20, s21, s22, s23, s24, s25, s26, s27, l, s29, s30, s31, ()) ∧ Z0 mk ∧ (0 ≤ i ∧ i ≤ s1 ∧ (l.length : Int) = i) ∧ ∀ o ∈ l, (o.length : Int) = s22 ∧ ∀ v ∈ o, 0 ≤ v ∧ v ≤ s1)
    (fun a => (s1 - a.2.1).toNat)
    (fun o => match o with | .brk b => ∃ mk l, b = (s1, s3, s4, s5, s6, s7, s8, s9, s10, s11, s12, mk, s14, s15, s16, s17, s18, s19, s20, s21, s22, s23, s24, s25, s26, s27, l, s29, s30, s31, ()) ∧ Z0 mk ∧ (l.length : Int) = s1 ∧ ∀ o ∈ l, (o.length : Int) = s22 ∧ ∀ v ∈ o, 0 ≤ v ∧ v ≤ s1 | _ => False) ?_
    (s1, 0, s3, s4, s5, s6, s7, s8, s9, s10, s11, s12, mk, s14, s15, s16, s17, s18, s19, s20, s21, s22, s23, s24, s25, s26, s27, [], s29, s30, s31, ()) ⟨0, mk, [], rfl, hm, by simp; omega, by simp⟩ (xz (by simp; omega))).elim fun o h => ?_
  rotate_left
  · obtain ⟨ho, hq⟩ := h
    cases o with
    | again a => exact hq.elim
    | ret a => exact hq.elim
    | brk b =>
      obtain ⟨mk', l, rfl, h1, h2, h3⟩ := hq
      exact ⟨mk', l, ho, h1, h2, h3⟩
  · rintro _ ⟨i, mk, l, rfl, h1, h2, h3⟩
    rw [zfl, zr]
    by_cases hi : i < s1
    · rw [if_pos hi]
      obtain ⟨mk', o, e, g1, g2, g3⟩ := zt6 hn hs h1
      rw [e]
      simp only [Option.bind_some]
      rw [xZ (by simp; omega), Option.bind_some, z8 (a := i + 1) (by omega) (by omega)]
      refine ⟨_, rfl, ⟨i + 1, mk', l ++ [o], rfl, g1, by simp; omega, fun v hv => ?_⟩, ?_⟩
      · rcases List.mem_append.1 hv with hv | hv
        · exact h3 v hv
        · simp at hv; subst hv; exact ⟨g2, g3⟩
      · show (s1 - (i + 1)).toNat < (s1 - i).toNat
        omega
    · rw [if_neg hi]
      exact ⟨_, rfl, mk, l, rfl, h1, by omega, h3⟩
theorem ztU {s1 : Int} {s2 : Int} {s4 : Int} {s5 : Int} {s6 : Int} {s7 : Int} {s8 : Int} {s9 : Int} {s10 : Int} {s11 : Int} {s12 : Int} {s13 : BitVec 64} {s15 : Int} {s16 : Int} {s17 : Int} {s18 : Int} {s19 : Int} {s20 : Int} {s21 : Int} {s22 : Int} {s23 : Int} {s24 : BitVec 64} {s26 : List (List Int)} {s27 : List (List Int)} {s28 : List (List zg)} {s29 : List zi} {s30 : List (List Int)} {s31 : List (List Int)} {s32 : List (List zg)} {s33 : List zi} (hn : 1 ≤ s1 ∧ s1 ≤ 6) {mk : zv} (hm : Z0 mk) :
    ∃ mk' l, ya uF (s1, s2, 0, s4, s5, s6, s7, s8, s9, s10, s11, s12, s13, mk, s15, s16, s17, s18, s19, s20, s21, s22, s23, s24, [], s26, s27, s28, s29, s30, s31, s32, s33, ()) = some (.brk (s1, s2, s4, s5, s6, s7, s8, s9, s10, s11, s12, s13, mk', s15, s16, s17, s18, s19, s20, s21, s22, s23, s24, l, s26, s27, s28, s29, s30, s31, s32, s33, ())) ∧ Z0 mk' ∧ (1 ≤ (l.length : Int) ∧ (l.length : Int) ≤ 3) ∧ ∀ v ∈ l, 0 ≤ v ∧ v ≤ s1 := by
  refine (uk (f := uF)
    (fun a => ∃ i mk l, a = (s1, s2, i, s4, s5, s6, s7, s8, s9, s10, s11, s12, s13, mk, s15, s16, s17, s18, s19, s20, s21, s22, s23, s24, l, s26, s27, s28, s29, s30, s31, s32, s33, ()) ∧ Z0 mk ∧ (0 ≤ i ∧ i ≤ 3 ∧ (l.length : Int) = i) ∧ ∀ v ∈ l, 0 ≤ v ∧ v ≤ s1)
    (fun a => (3 - a.2.2.1).toNat)
    (fun o => match o with | .brk b => ∃ mk l, b = (s1, s2, s4, s5, s6, s7, s8, s9, s10, s11, s12, s13, mk, s15, s16, s17, s18, s19, s20, s21, s22, s23, s24, l, s26, s27, s28, s29, s30, s31, s32, s33, ()) ∧ Z0 mk ∧ (1 ≤ (l.length : Int) ∧ (l.length : Int) ≤ 3) ∧ ∀ v ∈ l, 0 ≤ v ∧ v ≤ s1 | _ => False) ?_
    (s1, s2, 0, s4, s5, s6, s7, s8, s9, s10, s11, s12, s13, mk, s15, s16, s17, s18, s19, s20, s21, s22, s23, s24, [], s26, s27, s28, s29, s30, s31, s32, s33, ()) ⟨0, mk, [], rfl, hm, by simp, by simp⟩ (xz (by simp))).elim fun o h => ?_
  rotate_left
  · obtain ⟨ho, hq⟩ := h
    cases o with
    | again a => exact hq.elim
    | ret a => exact hq.elim
    | brk b =>
      obtain ⟨mk', l, rfl, h1, h2, h3⟩ := hq
      exact ⟨mk', l, ho, h1, h2, h3⟩
  · rintro _ ⟨i, mk, l, rfl, h1, h2, h3⟩
    obtain ⟨b0, mk0, e0, r0, k0⟩ := wp h1
    have t0 := wa r0.1 (show (0 : Int) < 3 by omega)
    rw [zeG, e0, Option.bind_some, zr, z8 (a := 1 + b0.tmod 3) (by omega) (by omega)]
    by_cases hi : i < 1 + b0.tmod 3
    · rw [if_pos hi]
      obtain ⟨b, mk', e, r, k⟩ := wp k0
      have w1 : w64 (s1 + 1) = s1 + 1 := z8 (by omega) (by omega)
      have t := wa r.1 (show 0 < s1 + 1 by omega)
      rw [e, Option.bind_some, w1, zr, if_neg (by omega), xZ (by simp; omega), Option.bind_some, z8 (a := i + 1) (by omega) (by omega)]
      refine ⟨_, rfl, ⟨i + 1, mk', l ++ [b.tmod (s1 + 1)], rfl, k, by simp; omega, fun v hv => ?_⟩, ?_⟩
      · rcases List.mem_append.1 hv with hv | hv
        · exact h3 v hv
        · simp at hv; omega
      · show (3 - (i + 1)).toNat < (3 - i).toNat
        omega
    · rw [if_neg hi]
      exact ⟨_, rfl, mk0, l, rfl, k0, by omega, h3⟩
theorem ztz {s1 : Int} {s2 : Int} {s4 : Int} {s5 : Int} {s6 : Int} {s7 : Int} {s8 : Int} {s9 : Int} {s10 : Int} {s11 : Int} {s12 : Int} {s13 : BitVec 64} {s15 : Int} {s16 : Int} {s17 : Int} {s18 : Int} {s19 : Int} {s20 : Int} {s21 : Int} {s22 : Int} {s23 : Int} {s24 : BitVec 64} {s25 : List Int} {s27 : List (List Int)} {s28 : List (List Int)} {s29 : List (List zg)} {s30 : List zi} {s31 : List (List Int)} {s32 : List (List Int)} {s33 : List (List zg)} {s34 : List zi} (hr : 1 ≤ (s25.length : Int)) (hs : 1 ≤ s23 ∧ s23 ≤ 2) {k0 : Int} (hk : 0 ≤ k0 ∧ k0 < 8) {mk : zv} (hm : Z0 mk) :
    ∃ mk' l, ya wV (s1, s2, k0, s4, s5, s6, s7, s8, s9, s10, s11, s12, s13, mk, s15, s16, s17, s18, s19, s20, s21, s22, s23, s24, s25, [], s27, s28, s29, s30, s31, s32, s33, s34, ()) = some (.brk (s1, s2, s4, s5, s6, s7, s8, s9, s10, s11, s12, s13, mk', s15, s16, s17, s18, s19, s20, s21, s22, s23, s24, s25, l, s27, s28, s29, s30, s31, s32, s33, s34, ())) ∧ Z0 mk' ∧ (l.length : Int) ≤ 7 ∧ ∀ o ∈ l, zeN o (s25.length : Int) s23 := by
  refine (uk (f := wV)
    (fun a => ∃ i mk l, a = (s1, s2, i, s4, s5, s6, s7, s8, s9, s10, s11, s12, s13, mk, s15, s16, s17, s18, s19, s20, s21, s22, s23, s24, s25, l, s27, s28, s29, s30, s31, s32, s33, s34, ()) ∧ Z0 mk ∧ (0 ≤ i ∧ (l.length : Int) + i ≤ 7) ∧ ∀ o ∈ l, zeN o (s25.length : Int) s23)
    (fun a => (a.2.2.1).toNat)
    (fun o => match o with | .brk b => ∃ mk l, b = (s1, s2, s4, s5, s6, s7, s8, s9, s10, s11, s12, s13, mk, s15, s16, s17, s18, s19, s20, s21, s22, s23, s24, s25, l, s27, s28, s29, s30, s31, s32, s33, s34, ()) ∧ Z0 mk ∧ (l.length : Int) ≤ 7 ∧ ∀ o ∈ l, zeN o (s25.length : Int) s23 | _ => False) ?_
    (s1, s2, k0, s4, s5, s6, s7, s8, s9, s10, s11, s12, s13, mk, s15, s16, s17, s18, s19, s20, s21, s22, s23, s24, s25, [], s27, s28, s29, s30, s31, s32, s33, s34, ()) ⟨k0, mk, [], rfl, hm, by simp; omega, by simp⟩ (xz (by simp; omega))).elim fun o h => ?_
  rotate_left
  · obtain ⟨ho, hq⟩ := h
    cases o with
    | again a => exact hq.elim
    | ret a => exact hq.elim
    | brk b =>
      obtain ⟨mk', l, rfl, h1, h2, h3⟩ := hq
      exact ⟨mk', l, ho, h1, h2, h3⟩
  · rintro _ ⟨i, mk, l, rfl, h1, h2, h3⟩
    rw [zeA, zr]
    by_cases hi : 0 < i
    · rw [if_pos hi]
      obtain ⟨o, mk', e, r, k⟩ := zvY h1 hr hs.1
      rw [e, Option.bind_some, xZ (by simp; omega), Option.bind_some, z8 (a := i - 1) (by omega) (by omega)]
      refine ⟨_, rfl, ⟨i - 1, mk', l ++ [o], rfl, k, by simp; omega, fun v hv => ?_⟩, ?_⟩
      · rcases List.mem_append.1 hv with hv | hv
        · exact h3 v hv
        · simp at hv; subst hv; exact r
      · show (i - 1).toNat < i.toNat
        omega
    · rw [if_neg hi]
      exact ⟨_, rfl, mk, l, rfl, h1, by omega, h3⟩
theorem ztO {s1 : Int} {s3 : Int} {s4 : Int} {s5 : Int} {s6 : Int} {s7 : Int} {s8 : Int} {s9 : Int} {s10 : Int} {s11 : Int} {s12 : BitVec 64} {s14 : Int} {s15 : Int} {s16 : Int} {s17 : Int} {s18 : Int} {s19 : Int} {s20 : Int} {s21 : Int} {s22 : Int} {s23 : BitVec 64} {s24 : List (List Int)} {s25 : List (List Int)} {s26 : List (List zg)} {s27 : List zi} {s28 : List (List Int)} {s31 : List zi} (hn : 1 ≤ s1 ∧ s1 ≤ 6) (hm0 : 0 ≤ s15 ∧ s15 ≤ 2) (hs : 1 ≤ s22 ∧ s22 ≤ 2) {mk : zv} (hm : Z0 mk) :
    ∃ regs progs, ya uH (s1, 0, s3, s4, s5, s6, s7, s8, s9, s10, s11, s12, mk, s14, s15, s16, s17, s18, s19, s20, s21, s22, s23, s24, s25, s26, s27, s28, [], [], s31, ()) = some (.brk (s3, s4, s5, s6, s7, s8, s9, s10, s11, s12, s14, s15, s16, s17, s18, s19, s20, s21, s22, s23, s24, s25, s26, s27, s28, regs, progs, s31, ())) ∧ (regs.length : Int) = s15 ∧ (regs.length = progs.length) ∧ (∀ r ∈ regs, (1 ≤ (r.length : Int) ∧ (r.length : Int) ≤ 3) ∧ ∀ v ∈ r, 0 ≤ v ∧ v ≤ s1) ∧ ∀ (k : Nat) r ops, regs[k]? = some r → progs[k]? = some ops → (ops.length : Int) ≤ 7 ∧ ∀ o ∈ ops, zeN o (r.length : Int) s22 := by
  refine (uk (f := uH)
    (fun a => ∃ i mk regs progs, a = (s1, i, s3, s4, s5, s6, s7, s8, s9, s10, s11, s12, mk, s14, s15, s16, s17, s18, s19, s20, s21, s22, s23, s24, s25, s26, s27, s28, regs, progs, s31, ()) ∧ Z0 mk ∧ (0 ≤ i ∧ i ≤ s15 ∧ (regs.length : Int) = i) ∧ (regs.length = progs.length) ∧ (∀ r ∈ regs, (1 ≤ (r.length : Int) ∧ (r.length : Int) ≤ 3) ∧ ∀ v ∈ r, 0 ≤ v ∧ v ≤ s1) ∧ ∀ (k : Nat) r ops, regs[k]? = some r → progs[k]? = some ops → (ops.length : Int) ≤ 7 ∧ ∀ o ∈ ops, zeN o (r.length : Int) s22)
    (fun a => (s15 - a.2.1).toNat)
    (fun o => match o with | .brk b => ∃ regs progs, b = (s3, s4, s5, s6, s7, s8, s9, s10, s11, s12, s14, s15, s16, s17, s18, s19, s20, s21, s22, s23, s24, s25, s26, s27, s28, regs, progs, s31, ()) ∧ (regs.length : Int) = s15 ∧ (regs.length = progs.length) ∧ (∀ r ∈ regs, (1 ≤ (r.length : Int) ∧ (r.length : Int) ≤ 3) ∧ ∀ v ∈ r, 0 ≤ v ∧ v ≤ s1) ∧ ∀ (k : Nat) r ops, regs[k]? = some r → progs[k]? = some ops → (ops.length : Int) ≤ 7 ∧ ∀ o ∈ ops, zeN o (r.length : Int) s22 | _ => False) ?_
    (s1, 0, s3, s4, s5, s6, s7, s8, s9, s10, s11, s12, mk, s14, s15, s16, s17, s18, s19, s20, s21, s22, s23, s24, s25, s26, s27, s28, [], [], s31, ()) ⟨0, mk, [], [], rfl, hm, by simp; omega, rfl, by simp, by simp⟩ (xz (by simp; omega))).elim fun o h => ?_
  rotate_left
  · obtain ⟨ho, hq⟩ := h
    cases o with
    | again a => exact hq.elim
    | ret a => exact hq.elim
    | brk b =>
      obtain ⟨regs, progs, rfl, h⟩ := hq
      exact ⟨regs, progs, ho, h⟩
  · rintro _ ⟨i, mk, regs, progs, rfl, h1, h2, h3, h4, h5⟩
    rw [zeV, zr]
    by_cases hi : i < s15
    · rw [if_pos hi]
      obtain ⟨mk1, r, e, g1, g2, g3⟩ := ztU hn h1
      rw [e]
      simp only [Option.bind_some]
      rw [zr, if_neg (by omega)]
      obtain ⟨b, mk2, e2, r2, k2⟩ := wp g1
      rw [e2, Option.bind_some]
      obtain ⟨mk3, ops, e3, f1, f2, f3⟩ := ztz (s25 := r) g2.1 hs (wa r2.1 (show (0 : Int) < 8 by omega)) k2
      rw [e3]
      simp only [Option.bind_some]
      rw [xZ (by simp; omega), Option.bind_some, xZ (by simp; omega), Option.bind_some, z8 (a := i + 1) (by omega) (by omega)]
      refine ⟨_, rfl, ⟨i + 1, mk3, regs ++ [r], progs ++ [ops], rfl, f1, by simp; omega, by simp [h3], fun v hv => ?_, fun k r' ops' hk1 hk2 => ?_⟩, ?_⟩
      · rcases List.mem_append.1 hv with hv | hv
        · exact h4 v hv
        · simp at hv; subst hv; exact ⟨g2, g3⟩
      · rcases Nat.lt_or_ge k regs.length with hlt | hge
        · rw [List.getElem?_append_left hlt] at hk1
          rw [List.getElem?_append_left (by omega)] at hk2
          exact h5 k r' ops' hk1 hk2
        · rw [List.getElem?_append_right hge] at hk1
          rw [List.getElem?_append_right (by omega), ← h3] at hk2
          have hk0 : k - regs.length = 0 := by
            have := (List.getElem?_eq_some_iff.1 hk1).1
            simpa using this
          rw [hk0] at hk1 hk2
          simp at hk1 hk2
          subst hk1; subst hk2
          exact ⟨f2, f3⟩
      · show (s15 - (i + 1)).toNat < (s15 - i).toNat
        omega
    · rw [if_neg hi]
      exact ⟨_, rfl, regs, progs, rfl, by omega, h3, h4, h5⟩
theorem zuJ (l : List (BitVec 8)) : ∃ p, Vy l = some (p, ()) ∧ zS p := by
  rw [zib, zr]
  obtain ⟨m, em, hl⟩ : ∃ m, cut l 0 (if 90 < (l.length : Int) then 90 else (l.length : Int)) = some m ∧ m.length ≤ 90 := by
    unfold cut
    by_cases h : 90 < (l.length : Int)
    · have h2 : (90 : Int) ≤ l.length := by omega
      rw [if_pos h]; exact ⟨l.take 90, by simp [h2], List.length_take_le _ _⟩
    · rw [if_neg h]; exact ⟨l, by simp, by omega⟩
  rw [em, Option.bind_some]
  obtain ⟨b1, m1, e1, r1, k1⟩ := wp (m := ⟨m, 0⟩) ⟨by simp, by simp, hl⟩
  obtain ⟨b2, m2, e2, r2, k2⟩ := wp k1
  obtain ⟨b3, m3, e3, r3, k3⟩ := wp k2
  obtain ⟨b4, m4, e4, r4, k4⟩ := wp k3
  obtain ⟨b5, m5, e5, r5, k5⟩ := wp k4
  obtain ⟨b6, m6, e6, r6, k6⟩ := wp k5
  obtain ⟨b7, m7, e7, r7, k7⟩ := wp k6
  obtain ⟨b8, m8, e8, r8, k8⟩ := wp k7
  obtain ⟨b9, m9, e9, r9, k9⟩ := wp k8
  obtain ⟨b10, m10, e10, r10, k10⟩ := wp k9
  simp only [e1, e2, e3, e4, e5, e6, e7, e8, e9, e10, Option.bind_some]
  have t1 := wa r1.1 (show (0 : Int) < 3 by omega)
  have t2 := wa r2.1 (show (0 : Int) < 3 by omega)
  have t3 := wa r3.1 (show (0 : Int) < 3 by omega)
  have t4 := wa r4.1 (show (0 : Int) < 2 by omega)
  have t5 := wa r5.1 (show (0 : Int) < 3 by omega)
  have t6 := wa r6.1 (show (0 : Int) < 4 by omega)
  have t7 := wa r7.1 (show (0 : Int) < 4 by omega)
  have t8 := wa r8.1 (show (0 : Int) < 2 by omega)
  have t9 := wa r9.1 (show (0 : Int) < 6 by omega)
  have t10 := wa r10.1 (show (0 : Int) < 4 by omega)
  rw [z8 (a := 1 + b9.tmod 6) (by omega) (by omega), z8 (a := 1 + b1.tmod 3) (by omega) (by omega), z8 (a := 1 + b3.tmod 3) (by omega) (by omega), z8 (a := 1 + b4.tmod 2) (by omega) (by omega), z8 (a := 1 + b5.tmod 3) (by omega) (by omega),
    z8 (a := 1 + b9.tmod 6 + b10.tmod 4) (by omega) (by omega), z8 (a := 1 + b8.tmod 2) (by omega) (by omega)]
  obtain ⟨m11, objs, e11, g1, g2, g3⟩ := zva (s1 := 1 + b9.tmod 6) (s22 := 1 + b8.tmod 2) (by omega) (by omega) k10
  rw [e11]
  simp only [Option.bind_some]
  obtain ⟨b12, m12, e12, r12, k12⟩ := wp g1
  rw [e12, Option.bind_some, z8 (a := 1 + b9.tmod 6 + 1) (by omega) (by omega), zr, if_neg (by omega)]
  have t12 := wa r12.1 (show (0 : Int) < 1 + b9.tmod 6 + 1 by omega)
  rw [zjP, Option.bind_some]
  obtain ⟨regs, progs, e13, f1, f2, f3, f4⟩ := ztO (s1 := 1 + b9.tmod 6) (s15 := b2.tmod 3) (s22 := 1 + b8.tmod 2) (by omega) (by omega) (by omega) k12
  rw [e13]
  simp only [Option.bind_some]
  refine ⟨_, rfl, ?_⟩
  constructor <;> dsimp only
  case objs => intro o ho; rw [g2]; exact g3 o ho
  case roots => exact ⟨b12.tmod (1 + b9.tmod 6 + 1), by omega, by omega, by simp⟩
  case reg => rw [g2]; exact f3
  case prog => exact f4
  all_goals first | omega | rfl
end B17
end
end Go.Pe.G
namespace Go.Pe.G
open Go.Pe
noncomputable section
theorem Vd {α β B C : Type} {f : List α × Int × Int × β → Option (yQ (List α × Int × Int × β) B C)} {l : List α} {e : β} {b : B} (hl : l.length < 1000000)
    (h1 : ∀ (i : Nat) (x : α), l[i]? = some x → f (l, (l.length : Int), (i : Int), e) = some (.again (l, (l.length : Int), ((i + 1 : Nat) : Int), e)))
    (h2 : f (l, (l.length : Int), (l.length : Int), e) = some (.brk b)) : ya f (l, (l.length : Int), 0, e) = some (.brk b) := by
  refine (uk (f := f) (fun a => ∃ i : Nat, a = (l, (l.length : Int), (i : Int), e) ∧ i ≤ l.length) (fun a => l.length - a.2.2.1.toNat) (fun o => o = .brk b) ?_ (l, (l.length : Int), 0, e) ⟨0, rfl, by omega⟩ (xz (by simp; omega))).elim fun o h => ?_
  rotate_left
  · rw [h.1, h.2]
  · rintro _ ⟨i, rfl, hi⟩
    rcases Nat.lt_or_ge i l.length with hlt | hge
    · refine ⟨_, h1 i _ (List.getElem?_eq_getElem hlt), ⟨i + 1, rfl, hlt⟩, ?_⟩
      show l.length - ((i + 1 : Nat) : Int).toNat < l.length - (i : Int).toNat
      omega
    · have : i = l.length := by omega
      subst this
      exact ⟨_, h2, rfl⟩
theorem xM {α : Type} {l : List α} {i : Nat} {x : α} (h : l[i]? = some x) : idx l (i : Int) = some x := by
  rw [uh (by omega)]; simpa using h
theorem wA {α : Type} {l : List α} {i : Nat} {x : α} (h : l[i]? = some x) : (i : Int) < (l.length : Int) := by
  have := (List.getElem?_eq_some_iff.1 h).1; omega
theorem yU {i : Nat} (h : i < 1000000) : w64 ((i : Int) + 1) = ((i + 1 : Nat) : Int) := by
  rw [z8 (by omega) (by omega)]; omega
theorem zca (a b c : Int) : wj a b c = some (decide (b ≤ a ∧ a ≤ c), ()) := by
  rw [zkQ, zr]
  by_cases h : b ≤ a
  · rw [if_pos h]; simp [h]
  · rw [if_neg h]; simp [h]
theorem zrR {l : List Int} {h : zu} (hl : l.length < 1000000) (hv : ∀ v ∈ l, 0 ≤ v ∧ v ≤ (h.Objs.length : Int)) : vJ l h = some (false, ()) := by
  rw [VE, zax, Vd (b := ()) hl (fun i x hx => ?_) (by rw [Zn]; simp)]
  · rfl
  · have hm := hv x (List.mem_of_getElem? hx)
    have hlt := wA hx
    rw [Zn, zr, if_pos hlt, xM hx, Option.bind_some, ziy, zr, if_neg (show ¬ x < 0 by omega), Option.bind_some, yU (by omega)]
    simp [show ¬ (h.Objs.length : Int) < x by omega]
theorem zs5 {l : List Int} {n : Int} (hl : l.length < 1000000) (hv : ∀ v ∈ l, 0 ≤ v ∧ v ≤ n) : wE l n = some (false, ()) := by
  rw [WJ, VY, Vd (b := ()) hl (fun i x hx => ?_) (by rw [uw]; simp)]
  · rfl
  · have hm := hv x (List.mem_of_getElem? hx)
    have hlt := wA hx
    rw [uw, xM hx, Option.bind_some, zjS, zca, Option.bind_some, Option.bind_some, yU (by omega), zr, if_pos hlt]
    simp [hm]
theorem zsF {l : List (List Int)} {h : zu} (hl : l.length < 1000000) (hs : h.Slots < 1000000) (hv : ∀ o ∈ l, (o.length : Int) = h.Slots ∧ ∀ v ∈ o, 0 ≤ v ∧ v ≤ (h.Objs.length : Int)) : wO l h = some (false, ()) := by
  rw [Vc, Ul, Vd (b := ()) hl (fun i x hx => ?_) (by rw [uI]; simp)]
  · rfl
  · have hm := hv x (List.mem_of_getElem? hx)
    have hlt := wA hx
    rw [uI, xM hx, Option.bind_some, zj5, z7, if_pos hm.1, zrR (by omega) hm.2, Option.bind_some, Option.bind_some, yU (by omega), zr, if_pos hlt]
    rfl
theorem zlu {r n : Int} (h : 0 ≤ r ∧ r < n) (h2 : n ≤ 4) : zG r n = some (true, ()) := by
  rw [zjU, zr, if_pos h.1, zr]
  rw [if_neg (by omega)]
  simp [h.2]
theorem zt8 {o : zg} {regs slots : Int} (h : zeN o regs slots) (h2 : regs ≤ 4) (h3 : slots ≤ 4) : zeU o regs slots = some (true, ()) := by
  obtain ⟨hr, h⟩ := h
  have e1 := zlu hr h2
  have h4 : ¬ 4 < slots := by omega
  rw [zmA]
  rcases h with ⟨hk | hk, ha, hs⟩ | ⟨hk, ha, hs⟩ | ⟨hk | hk, ha, hs⟩
  · have e2 := zlu ha h2
    simp [hk, e1, e2, hs.1, hs.2, h4]
  · have e2 := zlu ha h2
    simp [hk, e1, e2, hs.1, hs.2, h4]
  · have e2 := zlu ha h2
    simp [hk, e1, e2, hs]
  · simp [hk, e1, ha, hs]
  · simp [hk, e1, ha, hs]
theorem zuG {l : List zg} {regs slots : Int} (hl : (l.length : Int) ≤ 64) (h : ∀ o ∈ l, zeN o regs slots) (h2 : regs ≤ 4) (h3 : slots ≤ 4) : zgt l regs slots = some (true, ()) := by
  rw [zm7, zr, if_pos hl, XA, Wm, Vd (b := ()) (by omega) (fun i x hx => ?_) (by rw [vn]; simp)]
  · rfl
  · have hlt := wA hx
    rw [vn, xM hx, Option.bind_some, zla, zt8 (h x (List.mem_of_getElem? hx)) h2 h3, Option.bind_some, Option.bind_some, yU (by omega), zr, if_pos hlt]
    rfl
theorem zsC (a b : Int) : zeY [] a b = some (true, ()) := by
  rw [zlK, Yf, Xj, Vd (b := ()) (by simp) (fun i x hx => by simp at hx) (by rw [Yj]; simp)]
  rfl
def V0 (n : Int) : BitVec 64 := if n < 1 then 0#64 else 18446744073709551615#64 >>> (64 - min n 64).toNat
theorem zto (n : Int) (h : 0 ≤ n) : zgy n = some (V0 n, ()) := by
  rw [znw, zr]
  unfold V0
  by_cases h1 : n < 1
  · rw [if_pos h1, if_pos h1]
  · rw [if_neg h1, if_neg h1]
    simp only [zr]
    have e : (if 64 < n then (64 : Int) else n) = min n 64 := by
      by_cases h2 : 64 < n
      · rw [if_pos h2]; omega
      · rw [if_neg h2]; omega
    rw [e, z8 (by omega) (by omega), if_neg (by omega), Nat.min_eq_left (by omega)]
theorem zn6 : ∀ (r n : Fin 7), r.1 ≤ n.1 → bit (r.1 : Int) &&& ~~~V0 (n.1 : Int) = 0#64 := by decide
theorem zkr {p : zd} (h : zS p) : p.Roots &&& ~~~V0 (p.H.Objs.length : Int) = 0#64 := by
  obtain ⟨r, h1, h2, h3⟩ := h.roots
  have hn := h.n
  have := zn6 ⟨r.toNat, by omega⟩ ⟨p.H.Objs.length, by omega⟩ (by show r.toNat ≤ p.H.Objs.length; omega)
  rw [h3]
  simpa [Int.toNat_of_nonneg h1] using this
theorem zrt {p : zd} (h : zS p) : Vo p = some (true, ()) := by
  obtain ⟨h1, h2, h3, h4, h5, h6, h7, _⟩ := h
  rw [zh8]
  simp only [zca, Option.bind_some, zr]
  rw [if_pos (by omega), if_pos (by omega), if_pos (by omega), if_pos (by omega), if_pos (by omega), if_pos (by split <;> omega)]
  have : (if p.Price < p.Limit then p.Limit else p.Price) ≤ 1000000 := by split <;> omega
  simp [this]
theorem zr2 {p : zd} (h : zS p) : UZ p.H = some (true, ()) := by
  have := h.slots
  have := h.n
  rw [zmp, zr, if_pos (by omega), zr, if_pos (by omega), zr, if_pos (by omega), zsF (by omega) (by omega) h.objs]
  rfl
theorem zrE {p : zd} (h : zS p) : zeZ p = some (true, ()) := by
  have hn := h.n
  have hm := h.most
  have hsl := h.slots
  have hmt := h.mt
  have hrl := h.regs
  have hpl := h.progs
  rw [zma, zrt h]
  simp only [Option.bind_some, Bool.not_true, cond_false, zr2 h, zca]
  rw [show decide ((p.H.Objs.length : Int) ≤ p.Most ∧ p.Most ≤ 64) = true by simp; omega]
  simp only [Bool.not_true, cond_false, zto _ (show (0 : Int) ≤ (p.H.Objs.length : Int) by omega), Option.bind_some, zmQ, zkr h, decide_true, z7, if_pos h.regs, if_pos h.progs]
  rw [Vd (b := (p, ())) (by omega) (fun i x hx => ?_) (by rw [zcr]; simp)]
  · simp [h.picks, zsC]
  · have hlt := wA hx
    have hr := h.reg x (List.mem_of_getElem? hx)
    obtain ⟨ops, hops⟩ : ∃ ops, p.Progs[i]? = some ops := ⟨_, List.getElem?_eq_getElem (by omega)⟩
    obtain ⟨o1, o2⟩ := h.prog i x ops hx hops
    rw [zcr, zr, if_pos hlt, xM hx]
    simp only [Option.bind_some, zca]
    rw [show decide (1 ≤ (x.length : Int) ∧ (x.length : Int) ≤ 4) = true by simp; omega]
    simp only [Bool.not_true, cond_false, zs5 (show x.length < 1000000 by omega) hr.2, Option.bind_some, xM hops, zuG (show (ops.length : Int) ≤ 64 by omega) o2 (show (x.length : Int) ≤ 4 by omega) (show p.H.Slots ≤ 4 by omega), yU (show i < 1000000 by omega)]
end
end Go.Pe.G
namespace Go.Pe.G
open Go.Pe
noncomputable section
theorem zfh {n : Int} (h : 0 ≤ n) (h2 : n < 4294967296) : Yh n = some n.toNat := by rw [zn0]; simp [h, h2]
theorem zos {n : Int} (h : 0 < n) (h2 : n < 4294967296) : zcz n = some n.toNat := by rw [zl0]; simp [h, h2]
def zmc (l : List Int) : BitVec 64 := l.foldl (fun s o => s ||| bit o) 0#64
def Zq (p : zd) : BitVec 64 := p.Regs.foldl (fun s l => s ||| zmc l) p.Roots
def zup (a1 : BitVec 64) : BitVec 64 :=
  let a := ((a1 >>> 1) &&& 6148914691236517205#64) + (a1 &&& 6148914691236517205#64)
  let b := ((a >>> 2) &&& 3689348814741910323#64) + (a &&& 3689348814741910323#64)
  let c := ((b >>> 4) + b) &&& 1085102592571150095#64
  let d := c + (c >>> 8)
  let e := d + (d >>> 16)
  e + (e >>> 32)
def cnt (s : BitVec 64) : Int := (BitVec.ofInt 64 (zup s).toInt &&& BitVec.ofInt 64 127).toInt
theorem zsu (s : BitVec 64) : zgO s = some (cnt s, ()) := by
  rw [zmO, zg8, zpn]; rfl
theorem zam {m : List Int} (h : m.length < 4294967296) : yr m = some (m, ()) := by
  rw [zdd, List.nil_append, xZ h, Option.bind_some]
  cases m with
  | nil => simp [zfM]
  | cons a l => simp
theorem zvt {l : List Int} (hl : l.length < 1000000) : zk7 l = some (zmc l, ()) := by
  rw [zq1]
  refine (uk (f := zgM) (fun a => ∃ i : Nat, a = ((l.take i).foldl (fun s o => s ||| bit o) 0#64, l, (l.length : Int), (i : Int), ()) ∧ i ≤ l.length) (fun a => l.length - a.2.2.2.1.toNat) (fun o => o = .brk (zmc l, ())) ?_ (0#64, l, (l.length : Int), 0, ()) ⟨0, rfl, by omega⟩ (xz (by simp; omega))).elim fun o h => ?_
  rotate_left
  · rw [h.1, h.2]; rfl
  · rintro _ ⟨i, rfl, hi⟩
    rw [znR, zr]
    rcases Nat.lt_or_ge i l.length with hlt | hge
    · have hx := List.getElem?_eq_getElem hlt
      rw [if_pos (by omega), xM hx, Option.bind_some, zjP, Option.bind_some, yU (by omega)]
      refine ⟨_, rfl, ⟨i + 1, ?_, hlt⟩, ?_⟩
      · rw [List.take_add_one, hx]; simp only [Option.toList_some, List.foldl_append, List.foldl_cons, List.foldl_nil]
      · show l.length - ((i + 1 : Nat) : Int).toNat < l.length - (i : Int).toNat
        omega
    · rw [if_neg (by omega)]
      have : i = l.length := by omega
      subst this
      exact ⟨_, rfl, by rw [List.take_length]; rfl⟩
theorem zrW {p : zd} (hl : p.Regs.length < 1000000) (hr : ∀ r ∈ p.Regs, r.length < 1000000) : zff p = some (Zq p, ()) := by
  rw [zlq]
  refine (uk (f := zat) (fun a => ∃ i : Nat, a = ((p.Regs.take i).foldl (fun s l => s ||| zmc l) p.Roots, p.Regs, (p.Regs.length : Int), (i : Int), ()) ∧ i ≤ p.Regs.length) (fun a => p.Regs.length - a.2.2.2.1.toNat) (fun o => o = .brk (Zq p, ())) ?_ (p.Roots, p.Regs, (p.Regs.length : Int), 0, ()) ⟨0, rfl, by omega⟩ (xz (by simp; omega))).elim fun o h => ?_
  rotate_left
  · rw [h.1, h.2]; rfl
  · rintro _ ⟨i, rfl, hi⟩
    rw [ziQ, zr]
    rcases Nat.lt_or_ge i p.Regs.length with hlt | hge
    · have hx := List.getElem?_eq_getElem hlt
      rw [if_pos (by omega), xM hx, Option.bind_some, zvt (hr _ (List.getElem_mem hlt)), Option.bind_some, yU (by omega)]
      refine ⟨_, rfl, ⟨i + 1, ?_, hlt⟩, ?_⟩
      · rw [List.take_add_one, hx]; simp only [Option.toList_some, List.foldl_append, List.foldl_cons, List.foldl_nil]
      · show p.Regs.length - ((i + 1 : Nat) : Int).toNat < p.Regs.length - (i : Int).toNat
        omega
    · rw [if_neg (by omega)]
      have : i = p.Regs.length := by omega
      subst this
      exact ⟨_, rfl, by rw [List.take_length]; rfl⟩
theorem zsR {l : List (List Int)} (hl : l.length < 1000000) (h : ∀ r ∈ l, r.length < 1000000) : Vp l = some (l, ()) := by
  have key : ∀ n : Int, n = (l.length : Int) → ya vv (n, 0, l, ()) = some (.brk (l, ())) := by
    rintro _ rfl
    refine (uk (f := vv) (fun a => ∃ i : Nat, a = ((l.length : Int), (i : Int), l, ()) ∧ i ≤ l.length) (fun a => l.length - a.2.1.toNat) (fun o => o = .brk (l, ())) ?_ ((l.length : Int), 0, l, ()) ⟨0, rfl, by omega⟩ (xz (by simp; omega))).elim fun o h => ?_
    rotate_left
    · rw [h.1, h.2]
    · rintro _ ⟨i, rfl, hi⟩
      rw [zfo, zr]
      rcases Nat.lt_or_ge i l.length with hlt | hge
      · have hx := List.getElem?_eq_getElem hlt
        have hr := h _ (List.getElem_mem hlt)
        have e : xU l (i : Int) = some i := by rw [Xq (by omega) (by omega)]; simp
        rw [if_pos (by omega), e]
        simp only [Option.bind_some]
        rw [hx, Option.bind_some, zam (by omega), Option.bind_some, yU (by omega)]
        refine ⟨_, rfl, ⟨i + 1, by simp, hlt⟩, ?_⟩
        show l.length - ((i + 1 : Nat) : Int).toNat < l.length - (i : Int).toNat
        omega
      · rw [if_neg (by omega)]
        have : i = l.length := by omega
        subst this
        exact ⟨_, rfl, rfl⟩
  have hc : Yh (l.length : Int) = some l.length := by rw [zfh (by omega) (by omega)]; simp
  rw [zh4]
  simp only [decide_true, cond_true, hc, Option.bind_some, List.length_replicate]
  cases l with
  | nil => simp; rw [key 0 rfl]; rfl
  | cons a r => simp only [List.isEmpty_cons, cond_false]; rw [key _ rfl]; rfl
def zho (cap : Int) : List (BitVec 64) := [1#64, 1#64] ++ List.replicate cap.toNat 0#64
theorem zqP {c : Int} (h : 1 ≤ c) (h2 : c ≤ 64) : zcN c = some (zho c, ()) := by
  have e : (if 64 < (if c < 1 then (1 : Int) else c) then (64 : Int) else (if c < 1 then (1 : Int) else c)) = c := by
    rw [if_neg (show ¬ c < 1 by omega), if_neg (by omega)]
  have w : w64 (2 + c) = 2 + c := z8 (by omega) (by omega)
  have hc : Yh (2 + c) = some (2 + c.toNat) := by rw [zfh (by omega) (by omega)]; congr 1; omega
  rw [zk5]
  simp only [zr, e, w, if_true, hc, Option.bind_some]
  rw [Xq (by omega) (by simp; omega), Option.bind_some, Xq (by omega) (by simp; omega), Option.bind_some]
  have e2 : List.replicate (2 + c.toNat) 0#64 = 0#64 :: 0#64 :: List.replicate c.toNat 0#64 := by rw [Nat.add_comm 2]; rfl
  rw [e2]; rfl
theorem zrD {m : Int} (h : 0 ≤ m) (h2 : m ≤ 16) : zd5 m = some (⟨0, 0, 0, List.replicate m.toNat 0⟩, ()) := by
  have e : (if (if 16 < m then (16 : Int) else m) < 0 then (0 : Int) else (if 16 < m then (16 : Int) else m)) = m := by
    rw [if_neg (show ¬ 16 < m by omega), if_neg (by omega)]
  have hc : Yh m = some m.toNat := zfh (by omega) (by omega)
  rw [zms]
  simp only [zr, e, if_true, hc, Option.bind_some]
def links (m : List (BitVec 64)) (next : Int) : List Int → List (BitVec 64)
  | [] => m
  | [a] => st m (wc (next + a)) 0#64
  | a :: b :: l => links (st m (wc (next + a)) (BitVec.ofInt 64 b)) next (b :: l)
def zhJ (m : List (BitVec 64)) (head next : Int) (l : List Int) : List (BitVec 64) := st (links m next l) head (Xn 0#64 (l.headD 0))
theorem XY (m : List (BitVec 64)) (a : Int) (v : BitVec 64) : (st m a v).length = m.length := by unfold st; split <;> simp
theorem zfK : ∀ (l : List Int) (m : List (BitVec 64)) (n : Int), (links m n l).length = m.length
  | [], _, _ => rfl
  | [a], m, n => XY _ _ _
  | a :: b :: l, m, n => by simp only [links]; rw [zfK (b :: l), XY]
theorem zlk (m : List (BitVec 64)) (h n : Int) (l : List Int) : (zhJ m h n l).length = m.length := by unfold zhJ; rw [XY, zfK]
theorem zkV {head next : Int} {l : List Int} (hl : l.length < 1000000) : ∀ (k : Nat) (m : List (BitVec 64)) (i : Nat), l.length - i = k → i ≤ l.length → m.length < 4294967296 →
    ∀ n, k < n → vH za4 n (m, head, next, l, (l.length : Int), (i : Int), ()) = some (.brk (links m next (l.drop i), head, l, ()))
  | 0, m, i, hk, hi, hm, n + 1, hn => by
    have : i = l.length := by omega
    subst this
    simp only [vH]
    rw [zdp, zr, if_neg (by omega), Option.bind_some, List.drop_length]; rfl
  | k + 1, m, i, hk, hi, hm, n + 1, hn => by
    have hlt : i < l.length := by omega
    have hx := List.getElem?_eq_getElem hlt
    simp only [vH]
    rw [zdp, zr, if_pos (by omega), yU (by omega), zr, wx]
    by_cases h2 : i + 1 < l.length
    · have hy := List.getElem?_eq_getElem h2
      have ed : l.drop i = l[i] :: l[i + 1] :: l.drop (i + 2) := by
        rw [List.drop_eq_getElem_cons hlt, List.drop_eq_getElem_cons h2]
      rw [if_pos (by omega), xM hy, Option.bind_some, xM hx, Option.bind_some, VQ hm, Option.bind_some, Option.bind_some]
      dsimp only
      rw [zkV hl k _ (i + 1) (by omega) (by omega) (by rw [XY]; exact hm) n (by omega), ed]
      rw [List.drop_eq_getElem_cons h2]; rfl
    · have ed : l.drop i = [l[i]] := by
        rw [List.drop_eq_getElem_cons hlt, List.drop_eq_nil_of_le (by omega)]
      rw [if_neg (by omega), xM hx, Option.bind_some, VQ hm, Option.bind_some, Option.bind_some]
      dsimp only
      rw [zkV hl k _ (i + 1) (by omega) (by omega) (by rw [XY]; exact hm) n (by omega), ed, List.drop_eq_nil_of_le (by omega)]
      rfl
theorem zn5 {m : List (BitVec 64)} (hm : m.length < 4294967296) {head next : Int} {l : List Int} (hl : l.length < 1000000) : zb7 m head next l = some (zhJ m head next l, ()) := by
  have e := zkV (head := head) (next := next) hl l.length m 0 (by omega) (by omega) hm Y7 (xz (by omega))
  rw [show ((0 : Nat) : Int) = 0 from rfl] at e
  rw [zmP, WP, e]
  simp only [Option.bind_some, List.drop_zero, zr]
  unfold zhJ
  cases l with
  | nil =>
    rw [if_neg (by simp), zdN, Option.bind_some, VQ (by rw [zfK]; exact hm)]; rfl
  | cons a r =>
    have : idx (a :: r) 0 = some a := by rw [uh (by omega)]; rfl
    rw [if_pos (by simp), this, Option.bind_some, zdN, Option.bind_some, VQ (by rw [zfK]; exact hm)]; rfl
def zoW : Nat → BitVec 64 → Option (List Int)
  | 0, _ => none
  | f + 1, s => bif decide (s = 0#64) then some [] else (zoW f (s &&& (s - 1#64))).map fun l => (((Go.Lib.ctz 64 s.toNat : Nat) : Int) + 1) :: l
theorem zq2 : ∀ t : Fin 64, zoW 66 (BitVec.ofNat 64 t.1) = some (((List.range 6).filter fun i => (BitVec.ofNat 64 t.1).getLsbD i).map fun i : Nat => (i : Int) + 1) := by decide +kernel
def zbV (s : BitVec 64) : List Int := ((List.range 6).filter fun i => s.getLsbD i).map fun i : Nat => (i : Int) + 1
theorem zp2 {s : BitVec 64} (h : s &&& ~~~63#64 = 0#64) : ∃ t : Fin 64, s = BitVec.ofNat 64 t.1 := by
  have h2 : s = s &&& 63#64 := by
    apply BitVec.eq_of_getLsbD_eq
    intro i hi
    have := congrArg (fun x => x.getLsbD i) h
    simp only [BitVec.getLsbD_and, BitVec.getLsbD_not, hi, decide_true, Bool.true_and, BitVec.getLsbD_zero] at this ⊢
    cases h1 : s.getLsbD i <;> cases h3 : (63#64 : BitVec 64).getLsbD i <;> simp_all
  have h3 : s.toNat < 64 := by
    rw [h2, BitVec.toNat_and]
    exact Nat.lt_of_le_of_lt Nat.and_le_right (by decide)
  exact ⟨⟨s.toNat, h3⟩, by simp⟩
theorem zwb : ∀ t : Fin 64, Go.Lib.ctz 64 t.1 ≤ 64 := by decide +kernel
theorem zn9 : ∀ (f : Nat) (s : BitVec 64), s.toNat < 64 → UK f s = zoW f s
  | 0, _, _ => rfl
  | f + 1, s, h => by
    simp only [UK, zoW]
    rw [zn9 f _ (by rw [BitVec.toNat_and]; exact Nat.lt_of_le_of_lt Nat.and_le_left h)]
    have : Go.Lib.ctz 64 s.toNat ≤ 64 := zwb ⟨s.toNat, h⟩
    have e : w64 (tz s + 1) = ((Go.Lib.ctz 64 s.toNat : Nat) : Int) + 1 := by
      unfold tz
      exact z8 (by omega) (by omega)
    rw [e]
theorem zlw : ∀ (l acc : List Int), (acc.length + l.length) < 4294967296 → uL zdi l (acc, ()) = some (acc ++ l, ())
  | [], acc, _ => by simp [uL]
  | a :: l, acc, h => by
    simp only [List.length_cons] at h
    rw [uL, zkF, xZ (by simp; omega), Option.bind_some, Option.bind_some, zlw l _ (by simp; omega)]
    simp
theorem ztk (s : BitVec 64) : (zbV s).length ≤ 6 := by
  unfold zbV
  rw [List.length_map]
  exact Nat.le_trans (List.length_filter_le _ _) (by simp)
theorem zud {s : BitVec 64} (h : s &&& ~~~63#64 = 0#64) : zhW s = some (zbV s, ()) := by
  obtain ⟨t, rfl⟩ := zp2 h
  have e : zjd (BitVec.ofNat 64 t.1) = some (zbV (BitVec.ofNat 64 t.1)) := by
    show UK 66 _ = _
    rw [zn9 66 _ (by simp; omega), zq2 t]; rfl
  have := ztk (BitVec.ofNat 64 t.1)
  rw [zoM, zov, Option.bind_some, e, Option.bind_some, zlw _ _ (by simp; omega)]
  rfl
theorem zmy (n : Nat) (hn : 1 ≤ n) : ∀ (f : Nat) (l : List Int), (uu n f l).length ≤ l.length
  | 0, l => by simp [uu]
  | f + 1, [] => by simp [uu]
  | f + 1, x :: l => by
    have := zmy n hn f ((x :: l).drop n)
    simp only [uu, List.length_cons, List.length_drop] at this ⊢
    omega
theorem zgK (n : Nat) : ∀ (f : Nat) (l c : List Int), c ∈ uu n f l → c.length ≤ l.length
  | 0, l, c, h => by simp [uu] at h
  | f + 1, [], c, h => by simp [uu] at h
  | f + 1, x :: l, c, h => by
    simp only [uu, List.mem_cons] at h
    rcases h with rfl | h
    · rw [List.length_take]; exact Nat.min_le_right _ _
    · have := zgK n f _ c h
      simp only [List.length_drop] at this
      omega
def W4 (p : zd) (w : Nat) : zj := ⟨0, 0, 0, (w : Int) + 1, 0, [], ⟨2, 0, uX p ((w : Int) + 1), p.Cap, 0#64, 0#64, 0, 0⟩, ⟨0, 0, 0, 0, 0#64, 0, 0, 0⟩, ⟨0, 0, 0, 0, ⟨0, 0, 0, 0, 0#64, 0#64, 0, 0⟩, ⟨0, 0, 0, 0, 0#64, 0, 0, 0⟩, 0, 0⟩⟩
def Xu (p : zd) (k : Nat) : List (BitVec 64) := (List.range k).flatMap fun _ => zho p.Cap
theorem zlL (c : Int) : (zho c).length = c.toNat + 2 := by unfold zho; rw [List.length_append, List.length_replicate]; exact Nat.add_comm _ _
theorem zki (p : zd) (k : Nat) : Xu p (k + 1) = Xu p k ++ zho p.Cap := by unfold Xu; rw [List.range_succ, List.flatMap_append]; simp
theorem zdA (p : zd) : ∀ k, (Xu p k).length = k * (p.Cap.toNat + 2)
  | 0 => by simp [Xu]
  | k + 1 => by rw [zki, List.length_append, zdA p k, zlL, Nat.succ_mul]
theorem zvd {p : zd} {s1 : BitVec 64} {s5 : Int} {s6 : Int} {s7 : Int} {s8 : Int} {s9 : Int} {s10 : Int} {s11 : Int} {s12 : Int} {s13 : Int} {s14 : BitVec 64} {s15 : Int} {s16 : zp} {s17 : Int} {s18 : Int} {s19 : Bool} {s20 : Bool} {s21 : Int} {s22 : Int} {s23 : Int} {s24 : Int} {s25 : zn} {s26 : zd} {s27 : Int} {s28 : zp} {s29 : Int} {s30 : Int} {s31 : Bool} {s32 : Bool} {s33 : Int} {s34 : zl} {s35 : zn} {s36 : List (List Int)} {s37 : List (List Int)} {s38 : List (List zg)} {s39 : List zi} {s40 : List (List Int)} {s41 : List (BitVec 64)} {s42 : List (List Int)} {s43 : List Int} {s44 : List Int} {s45 : List zj} {s46 : List zb} {s47 : List (List Int)} {s49 : List (List Int)} {s50 : List Int} {s52 : List zb} (hp : zS p) :
    ya W2 (s1, p.Workers, 0, p, s5, s6, s7, s8, s9, s10, s11, s12, s13, s14, s15, s16, s17, s18, s19, s20, s21, s22, s23, s24, s25, s26, s27, s28, s29, s30, s31, s32, s33, s34, s35, s36, s37, s38, s39, s40, s41, s42, s43, s44, s45, s46, s47, [], s49, s50, [], s52, ()) = some (.brk (s1, p, s5, s6, s7, s8, s9, s10, s11, s12, s13, s14, s15, s16, s17, s18, s19, s20, s21, s22, s23, s24, s25, s26, s27, s28, s29, s30, s31, s32, s33, s34, s35, s36, s37, s38, s39, s40, s41, s42, s43, s44, s45, s46, s47, (Xu p p.Workers.toNat), s49, s50, ((List.range p.Workers.toNat).map (W4 p)), s52, ())) := by
  have hw := hp.wk
  have hc := hp.cap
  refine (uk (f := W2) (fun a => ∃ i : Nat, a = (s1, p.Workers, (i : Int), p, s5, s6, s7, s8, s9, s10, s11, s12, s13, s14, s15, s16, s17, s18, s19, s20, s21, s22, s23, s24, s25, s26, s27, s28, s29, s30, s31, s32, s33, s34, s35, s36, s37, s38, s39, s40, s41, s42, s43, s44, s45, s46, s47, (Xu p i), s49, s50, ((List.range i).map (W4 p)), s52, ()) ∧ (i : Int) ≤ p.Workers) (fun a => (p.Workers - a.2.2.1).toNat) (fun o => o = .brk (s1, p, s5, s6, s7, s8, s9, s10, s11, s12, s13, s14, s15, s16, s17, s18, s19, s20, s21, s22, s23, s24, s25, s26, s27, s28, s29, s30, s31, s32, s33, s34, s35, s36, s37, s38, s39, s40, s41, s42, s43, s44, s45, s46, s47, (Xu p p.Workers.toNat), s49, s50, ((List.range p.Workers.toNat).map (W4 p)), s52, ())) ?_ (s1, p.Workers, 0, p, s5, s6, s7, s8, s9, s10, s11, s12, s13, s14, s15, s16, s17, s18, s19, s20, s21, s22, s23, s24, s25, s26, s27, s28, s29, s30, s31, s32, s33, s34, s35, s36, s37, s38, s39, s40, s41, s42, s43, s44, s45, s46, s47, [], s49, s50, [], s52, ()) ⟨0, rfl, by omega⟩ (xz (by dsimp only; omega))).elim fun o h => ?_
  rotate_left
  · rw [h.1, h.2]
  · rintro _ ⟨i, rfl, hi⟩
    rw [zka, zr]
    by_cases hlt : (i : Int) < p.Workers
    · have hl := zdA p i
      have hl2 := zlL p.Cap
      have hb : i * (p.Cap.toNat + 2) ≤ 3 * 5 := Nat.mul_le_mul (by omega) (by omega)
      rw [if_pos hlt, zqP hc.1 (by omega), Option.bind_some, xZ (l := Xu p i ++ zho p.Cap) (by rw [List.length_append]; omega), Option.bind_some, zkf, Option.bind_some, zeb, Option.bind_some, xZ (by simp <;> omega), Option.bind_some, yU (by omega)]
      refine ⟨_, rfl, ⟨i + 1, ?_, by omega⟩, ?_⟩
      · rw [zki, List.range_succ, List.map_append]; rfl
      · show (p.Workers - ((i + 1 : Nat) : Int)).toNat < (p.Workers - (i : Int)).toNat
        omega
    · rw [if_neg hlt]
      have : i = p.Workers.toNat := by omega
      subst this
      exact ⟨_, rfl, rfl⟩
def Zv (k : Nat) : List Int := (List.range k).map fun i : Nat => (i : Int) + 1
theorem zpD (k : Nat) : (Zv k).length = k := by simp [Zv]
theorem zuY {b : Int} {s1 : BitVec 64} {s4 : zd} {s5 : Int} {s6 : Int} {s7 : Int} {s8 : Int} {s9 : Int} {s10 : Int} {s11 : Int} {s12 : Int} {s13 : Int} {s14 : BitVec 64} {s15 : Int} {s16 : zp} {s17 : Int} {s18 : Int} {s19 : Bool} {s20 : Bool} {s21 : Int} {s22 : Int} {s23 : Int} {s24 : Int} {s25 : zn} {s26 : zd} {s27 : Int} {s28 : zp} {s29 : Int} {s30 : Int} {s31 : Bool} {s32 : Bool} {s33 : Int} {s34 : zl} {s35 : zn} {s37 : List (List Int)} {s38 : List (List Int)} {s39 : List (List zg)} {s40 : List zi} {s41 : List (List Int)} {s42 : List (BitVec 64)} {s43 : List (List Int)} {s44 : List Int} {s45 : List Int} {s46 : List zj} {s47 : List zb} {s48 : List (List Int)} {s49 : List (BitVec 64)} {s50 : List (List Int)} {s51 : List Int} {s52 : List zj} {s53 : List zb} (hb : 0 ≤ b ∧ b < 1000) :
    ya Ww (s1, b, 0, s4, s5, s6, s7, s8, s9, s10, s11, s12, s13, s14, s15, s16, s17, s18, s19, s20, s21, s22, s23, s24, s25, s26, s27, s28, s29, s30, s31, s32, s33, s34, s35, [], s37, s38, s39, s40, s41, s42, s43, s44, s45, s46, s47, s48, s49, s50, s51, s52, s53, ()) = some (.brk (s1, s4, s5, s6, s7, s8, s9, s10, s11, s12, s13, s14, s15, s16, s17, s18, s19, s20, s21, s22, s23, s24, s25, s26, s27, s28, s29, s30, s31, s32, s33, s34, s35, (Zv b.toNat), s37, s38, s39, s40, s41, s42, s43, s44, s45, s46, s47, s48, s49, s50, s51, s52, s53, ())) := by
  refine (uk (f := Ww) (fun a => ∃ i : Nat, a = (s1, b, (i : Int), s4, s5, s6, s7, s8, s9, s10, s11, s12, s13, s14, s15, s16, s17, s18, s19, s20, s21, s22, s23, s24, s25, s26, s27, s28, s29, s30, s31, s32, s33, s34, s35, (Zv i), s37, s38, s39, s40, s41, s42, s43, s44, s45, s46, s47, s48, s49, s50, s51, s52, s53, ()) ∧ (i : Int) ≤ b) (fun a => (b - a.2.2.1).toNat) (fun o => o = .brk (s1, s4, s5, s6, s7, s8, s9, s10, s11, s12, s13, s14, s15, s16, s17, s18, s19, s20, s21, s22, s23, s24, s25, s26, s27, s28, s29, s30, s31, s32, s33, s34, s35, (Zv b.toNat), s37, s38, s39, s40, s41, s42, s43, s44, s45, s46, s47, s48, s49, s50, s51, s52, s53, ())) ?_ (s1, b, 0, s4, s5, s6, s7, s8, s9, s10, s11, s12, s13, s14, s15, s16, s17, s18, s19, s20, s21, s22, s23, s24, s25, s26, s27, s28, s29, s30, s31, s32, s33, s34, s35, [], s37, s38, s39, s40, s41, s42, s43, s44, s45, s46, s47, s48, s49, s50, s51, s52, s53, ()) ⟨0, rfl, by omega⟩ (xz (by dsimp only; omega))).elim fun o h => ?_
  rotate_left
  · rw [h.1, h.2]
  · rintro _ ⟨i, rfl, hi⟩
    rw [zi5, zr]
    by_cases hlt : (i : Int) < b
    · have := zpD i
      rw [if_pos hlt, xZ (by rw [List.length_append]; simp; omega), Option.bind_some, yU (by omega)]
      refine ⟨_, rfl, ⟨i + 1, ?_, by omega⟩, ?_⟩
      · unfold Zv; rw [List.range_succ, List.map_append]; rfl
      · show (b - ((i + 1 : Nat) : Int)).toNat < (b - (i : Int)).toNat
        omega
    · rw [if_neg hlt]
      have : i = b.toNat := by omega
      subst this
      exact ⟨_, rfl, rfl⟩
theorem zq7 {s1 : zd} {s2 : Int} {s3 : Int} {s4 : Int} {s5 : Int} {s6 : Int} {s7 : Int} {s8 : Int} {s9 : Int} {s10 : Int} {s11 : BitVec 64} {s12 : Int} {s13 : zp} {s14 : Int} {s15 : Int} {s16 : Bool} {s17 : Bool} {s18 : Int} {s19 : Int} {s20 : Int} {s21 : Int} {s22 : zn} {s23 : zd} {s24 : Int} {s25 : zp} {s26 : Int} {s27 : Int} {s28 : Bool} {s29 : Bool} {s30 : Int} {s31 : zl} {s32 : zn} {s33 : List Int} {s34 : List (List Int)} {s35 : List (List Int)} {s36 : List (List zg)} {s37 : List zi} {s38 : List (List Int)} {s39 : List (BitVec 64)} {s40 : List (List Int)} {s41 : List Int} {s42 : List Int} {s43 : List zj} {s44 : List zb} {s45 : List (List Int)} {s46 : List (BitVec 64)} {s48 : List Int} {s49 : List zj} {s50 : List zb} : ∀ (ys acc : List (List Int)), acc.length + ys.length < 1000000 → (∀ c ∈ ys, c.length < 1000000) → uL zae ys (s1, s2, s3, s4, s5, s6, s7, s8, s9, s10, s11, s12, s13, s14, s15, s16, s17, s18, s19, s20, s21, s22, s23, s24, s25, s26, s27, s28, s29, s30, s31, s32, s33, s34, s35, s36, s37, s38, s39, s40, s41, s42, s43, s44, s45, s46, acc, s48, s49, s50, ()) = some (s1, s2, s3, s4, s5, s6, s7, s8, s9, s10, s11, s12, s13, s14, s15, s16, s17, s18, s19, s20, s21, s22, s23, s24, s25, s26, s27, s28, s29, s30, s31, s32, s33, s34, s35, s36, s37, s38, s39, s40, s41, s42, s43, s44, s45, s46, (acc ++ ys), s48, s49, s50, ())
  | [], acc, _, _ => by simp [uL]
  | y :: ys, acc, h, hc => by
    simp only [List.length_cons] at h
    have hy := hc y (List.mem_cons_self ..)
    rw [uL, ziL, zam (by omega), Option.bind_some, xZ (by simp <;> omega), Option.bind_some, Option.bind_some, zq7 ys _ (by simp <;> omega) (fun c h' => hc c (List.mem_cons_of_mem _ h'))]
    simp
def vy (r : List Int) : zb := ⟨0, 0, 0, 0, 0, 0, 0, 0, r, [], [], ⟨0, 0, 0, 0, 0#64, 0, 0, 0⟩, ⟨0, 0, 0, 0, ⟨0, 0, 0, 0, 0#64, 0#64, 0, 0⟩, ⟨0, 0, 0, 0, 0#64, 0, 0, 0⟩, 0, 0⟩⟩
theorem zuU {p : zd} {s4 : Int} {s5 : Int} {s6 : Int} {s7 : Int} {s8 : Int} {s9 : Int} {s10 : Int} {s11 : Int} {s12 : Int} {s13 : BitVec 64} {s14 : Int} {s15 : zp} {s16 : Int} {s17 : Int} {s18 : Bool} {s19 : Bool} {s20 : Int} {s21 : Int} {s22 : Int} {s23 : Int} {s24 : zn} {s25 : zd} {s26 : Int} {s27 : List (BitVec 64)} {s28 : zp} {s29 : Int} {s30 : Int} {s31 : Bool} {s32 : Bool} {s33 : Int} {s34 : zl} {s35 : zn} {s36 : List (List Int)} {s37 : List (List Int)} {s38 : List (List zg)} {s39 : List zi} {s40 : List (List Int)} {s41 : List (BitVec 64)} {s42 : List (List Int)} {s43 : List Int} {s44 : List Int} {s45 : List zj} {s46 : List zb} {s47 : List (List Int)} {s48 : List (List Int)} {s49 : List Int} {s50 : List zj} (hl : p.Regs.length < 1000000) (hr : ∀ r ∈ p.Regs, r.length < 1000000) :
    ya WH (p.Regs, (p.Regs.length : Int), 0, s4, s5, s6, s7, s8, s9, s10, s11, s12, s13, s14, s15, s16, s17, s18, s19, s20, s21, s22, s23, s24, s25, s26, s27, s28, s29, s30, s31, s32, s33, s34, s35, s36, s37, s38, s39, s40, s41, s42, s43, s44, s45, s46, s47, s48, s49, s50, [], ()) = some (.brk (s4, s5, s6, s7, s8, s9, s10, s11, s12, s13, s14, s15, s16, s17, s18, s19, s20, s21, s22, s23, s24, s25, s26, s27, s28, s29, s30, s31, s32, s33, s34, s35, s36, s37, s38, s39, s40, s41, s42, s43, s44, s45, s46, s47, s48, s49, s50, (p.Regs.map vy), ())) := by
  refine (uk (f := WH) (fun a => ∃ i : Nat, a = (p.Regs, (p.Regs.length : Int), (i : Int), s4, s5, s6, s7, s8, s9, s10, s11, s12, s13, s14, s15, s16, s17, s18, s19, s20, s21, s22, s23, s24, s25, s26, s27, s28, s29, s30, s31, s32, s33, s34, s35, s36, s37, s38, s39, s40, s41, s42, s43, s44, s45, s46, s47, s48, s49, s50, ((p.Regs.take i).map vy), ()) ∧ i ≤ p.Regs.length) (fun a => p.Regs.length - a.2.2.1.toNat) (fun o => o = .brk (s4, s5, s6, s7, s8, s9, s10, s11, s12, s13, s14, s15, s16, s17, s18, s19, s20, s21, s22, s23, s24, s25, s26, s27, s28, s29, s30, s31, s32, s33, s34, s35, s36, s37, s38, s39, s40, s41, s42, s43, s44, s45, s46, s47, s48, s49, s50, (p.Regs.map vy), ())) ?_ (p.Regs, (p.Regs.length : Int), 0, s4, s5, s6, s7, s8, s9, s10, s11, s12, s13, s14, s15, s16, s17, s18, s19, s20, s21, s22, s23, s24, s25, s26, s27, s28, s29, s30, s31, s32, s33, s34, s35, s36, s37, s38, s39, s40, s41, s42, s43, s44, s45, s46, s47, s48, s49, s50, [], ()) ⟨0, rfl, by omega⟩ (xz (by dsimp only; omega))).elim fun o h => ?_
  rotate_left
  · rw [h.1, h.2]
  · rintro _ ⟨i, rfl, hi⟩
    rw [zi9, zr]
    rcases Nat.lt_or_ge i p.Regs.length with hlt | hge
    · have hx := List.getElem?_eq_getElem hlt
      have hh := hr _ (List.getElem_mem hlt)
      rw [if_pos (by omega), xM hx, Option.bind_some, zam (by omega), Option.bind_some, xZ (by simp <;> omega), Option.bind_some, yU (by omega)]
      refine ⟨_, rfl, ⟨i + 1, ?_, hlt⟩, ?_⟩
      · rw [List.take_add_one, hx, List.map_append]; rfl
      · show p.Regs.length - ((i + 1 : Nat) : Int).toNat < p.Regs.length - (i : Int).toNat
        omega
    · rw [if_neg (by omega)]
      have : i = p.Regs.length := by omega
      subst this
      exact ⟨_, rfl, by rw [List.take_length]⟩
def xd (p : zd) : Nat := (p.Most + p.Workers + p.Mutators).toNat
def vr (p : zd) : List (List Int) := uu p.Bin.toNat (zbV (Zq p)).length (zbV (Zq p))
def wH (p : zd) : zc :=
  { P := p, H := p.H,
    M := zhJ (zhJ (Xu p p.Workers.toNat ++ List.replicate (2 + xd p) 0#64) (wv p) (yy p) ((Zv (xd p)).take (vr p).length)) (yy p) (yy p) ((Zv (xd p)).drop (vr p).length),
    Bins := [[]] ++ vr p ++ List.replicate (xd p - (vr p).length) [],
    T := ⟨Zq p, 0#64⟩, Work := cnt (Zq p), Epoch := 0, Flag := false, Done := false, Restarts := 0,
    Acks := List.replicate p.Mutators.toNat 0, L := ⟨0, 0, 0, List.replicate p.Mutators.toNat 0⟩,
    Ws := (List.range p.Workers.toNat).map (W4 p), Ms := p.Regs.map vy, D := ⟨0, 0⟩ }
theorem zwh : ∀ r : Fin 7, bit (r.1 : Int) &&& ~~~63#64 = 0#64 := by decide
theorem zsv {r n : Int} (h : 0 ≤ r) (h2 : r ≤ n) (h3 : n ≤ 6) : bit r &&& ~~~V0 n = 0#64 := by
  have := zn6 ⟨r.toNat, by omega⟩ ⟨n.toNat, by omega⟩ (by show r.toNat ≤ n.toNat; omega)
  simpa [Int.toNat_of_nonneg h, Int.toNat_of_nonneg (show 0 ≤ n by omega)] using this
theorem zpy {a b c : BitVec 64} (ha : a &&& ~~~c = 0#64) (hb : b &&& ~~~c = 0#64) : (a ||| b) &&& ~~~c = 0#64 := by
  apply BitVec.eq_of_getLsbD_eq
  intro i hi
  have h1 := congrArg (fun x => x.getLsbD i) ha
  have h2 := congrArg (fun x => x.getLsbD i) hb
  simp only [BitVec.getLsbD_and, BitVec.getLsbD_or, BitVec.getLsbD_not, BitVec.getLsbD_zero, hi, decide_true, Bool.true_and] at h1 h2 ⊢
  revert h1 h2
  generalize a.getLsbD i = x
  generalize b.getLsbD i = y
  generalize c.getLsbD i = z
  cases x <;> cases y <;> cases z <;> decide
theorem zsf {c : BitVec 64} {l : List Int} (h : ∀ o ∈ l, bit o &&& ~~~c = 0#64) : ∀ (z : BitVec 64), z &&& ~~~c = 0#64 → l.foldl (fun s o => s ||| bit o) z &&& ~~~c = 0#64 := by
  induction l with
  | nil => intro z hz; exact hz
  | cons a l ih => intro z hz; exact ih (fun o ho => h o (List.mem_cons_of_mem _ ho)) _ (zpy hz (h a (List.mem_cons_self ..)))
theorem zkp {p : zd} (h : zS p) : Zq p &&& ~~~V0 (p.H.Objs.length : Int) = 0#64 := by
  have hn := h.n
  have key : ∀ (L : List (List Int)) (z : BitVec 64), (∀ r ∈ L, ∀ v ∈ r, 0 ≤ v ∧ v ≤ (p.H.Objs.length : Int)) → z &&& ~~~V0 (p.H.Objs.length : Int) = 0#64 → L.foldl (fun s l => s ||| zmc l) z &&& ~~~V0 (p.H.Objs.length : Int) = 0#64 := by
    intro L
    induction L with
    | nil => intro z _ hz; exact hz
    | cons r L ih =>
      intro z hr hz
      refine ih _ (fun r' h' => hr r' (List.mem_cons_of_mem _ h')) (zpy hz (zsf (fun o ho => ?_) _ (by simp)))
      have := hr r (List.mem_cons_self ..) o ho
      exact zsv this.1 this.2 hn.2
  exact key _ _ (fun r hr => (h.reg r hr).2) (zkr h)
theorem zqH {a b c : BitVec 64} (h : a &&& ~~~b = 0#64) (h2 : b &&& ~~~c = 0#64) : a &&& ~~~c = 0#64 := by
  apply BitVec.eq_of_getLsbD_eq
  intro i hi
  have h1 := congrArg (fun x => x.getLsbD i) h
  have h2 := congrArg (fun x => x.getLsbD i) h2
  simp only [BitVec.getLsbD_and, BitVec.getLsbD_not, BitVec.getLsbD_zero, hi, decide_true, Bool.true_and] at h1 h2 ⊢
  revert h1 h2
  generalize a.getLsbD i = x
  generalize b.getLsbD i = y
  generalize c.getLsbD i = z
  cases x <;> cases y <;> cases z <;> decide
theorem zq3 : ∀ n : Fin 7, V0 (n.1 : Int) &&& ~~~63#64 = 0#64 := by decide
theorem zks {p : zd} (h : zS p) : Zq p &&& ~~~63#64 = 0#64 := by
  have hn := h.n
  refine zqH (zkp h) ?_
  exact zq3 ⟨p.H.Objs.length, by omega⟩
theorem zr1 : ∀ (n : Fin 7) (t : Fin 64), BitVec.ofNat 64 t.1 &&& ~~~V0 (n.1 : Int) = 0#64 → (zbV (BitVec.ofNat 64 t.1)).length ≤ n.1 := by decide +kernel
theorem zjw {p : zd} (h : zS p) : (zbV (Zq p)).length ≤ p.H.Objs.length := by
  have hn := h.n
  obtain ⟨t, ht⟩ := zp2 (zks h)
  have h2 := zkp h
  rw [ht] at h2 ⊢
  exact zr1 ⟨p.H.Objs.length, by omega⟩ t h2
theorem zpd {p : zd} (h : zS p) : (vr p).length ≤ p.H.Objs.length := by
  have hb := h.bin
  exact Nat.le_trans (zmy _ (by omega) _ _) (zjw h)
theorem zf5 {p : zd} (h : zS p) : Zm p = some (wH p, ()) := by
  have hw := h.wk
  have hc := h.cap
  have hm := h.mt
  have hb := h.bin
  have hn := h.n
  have hmo := h.most
  have hrl := h.regs
  have hreg : ∀ r ∈ p.Regs, r.length < 1000000 := fun r hr => by have := (h.reg r hr).1; omega
  have hobj : ∀ o ∈ p.H.Objs, o.length < 1000000 := fun o ho => by have := (h.objs o ho).1; have := h.slots; omega
  have hfl := zpd h
  have hgl := zjw h
  have hcl := zdA p p.Workers.toNat
  have hcb : p.Workers.toNat * (p.Cap.toNat + 2) ≤ 3 * 5 := Nat.mul_le_mul (by omega) (by omega)
  have hbn : (xd p : Int) = p.Most + p.Workers + p.Mutators := by unfold xd; omega
  have eb : zb0 p = some ((xd p : Int), ()) := by
    rw [zm5, z8 (a := p.Most + p.Workers) (by omega) (by omega), z8 (by omega) (by omega), hbn]
  have hul := zpD (xd p)
  have ec : X5 (zbV (Zq p)) p.Bin = some (vr p) := by
    show ze0 _ _ = _
    unfold ze0 vr
    have c1 : (decide (1 ≤ p.Bin) && decide (p.Bin < 1000000) && decide (((zbV (Zq p)).length : Int) < 1000000)) = true := by simp <;> omega
    rw [c1]; rfl
  have cut1 : cut (Zv (xd p)) 0 ((vr p).length : Int) = some ((Zv (xd p)).take (vr p).length) := by
    unfold cut
    have : ((vr p).length : Int) ≤ ((Zv (xd p)).length : Int) := by omega
    simp [this]
  have cut2 : cut (Zv (xd p)) ((vr p).length : Int) ((Zv (xd p)).length : Int) = some ((Zv (xd p)).drop (vr p).length) := by
    unfold cut
    have : ((vr p).length : Int) ≤ ((Zv (xd p)).length : Int) := by omega
    simp [this]
  rw [zm9, zrE h]
  simp only [Option.bind_some, Bool.not_true, cond_false]
  rw [zrW (by omega) hreg]
  simp only [Option.bind_some, zsu, zrD hm.1 (show p.Mutators ≤ 16 by omega)]
  rw [zsR (by omega) hobj]
  simp only [Option.bind_some]
  rw [zvd h]
  simp only [Option.bind_some, eb]
  have e3 : (2 + (xd p : Int)).toNat = 2 + xd p := by omega
  rw [z8 (a := 2 + (xd p : Int)) (by omega) (by omega), zos (by omega) (by omega), e3, Option.bind_some, xZ (l := Xu p p.Workers.toNat ++ List.replicate (2 + xd p) 0#64) (by simp <;> omega), Option.bind_some, zuY (by omega)]
  dsimp only [Option.bind_some]
  rw [Int.toNat_natCast, zud (zks h), Option.bind_some, zcR, zr, if_neg (by omega), Option.bind_some, ec, Option.bind_some, zq7 _ _ (by simp <;> omega) (fun c hc' => by have := zgK _ _ _ _ hc'; omega)]
  dsimp only [Option.bind_some]
  have e1 : w64 ((([[]] ++ vr p : List (List Int)).length : Int) - 1) = ((vr p).length : Int) := by
    rw [z8 (by simp <;> omega) (by simp <;> omega)]; simp
  have e2 : w64 (((Zv (xd p)).length : Int) - ((vr p).length : Int)) = ((xd p - (vr p).length : Nat) : Int) := by
    rw [z8 (by omega) (by omega)]; omega
  rw [e1, e2, zos (by omega) (by omega), Int.toNat_natCast, Option.bind_some, xZ (by simp <;> omega), Option.bind_some, zij, Option.bind_some, zdI, Option.bind_some, cut1, Option.bind_some, zn5 (by simp <;> omega) (by simp <;> omega), Option.bind_some, zgv, Option.bind_some, Option.bind_some, cut2, Option.bind_some, zn5 (by rw [zlk]; simp <;> omega) (by simp <;> omega), Option.bind_some, decide_true, cond_true, zfh hm.1 (show p.Mutators < 4294967296 by omega), Option.bind_some, zuU (by omega) hreg]
  rfl
end
end Go.Pe.G
namespace Go.Pe.G
open Go.Pe
noncomputable section
theorem zfY (h : BitVec 64) : yz h = ((h.toNat % 4294967296 : Nat) : Int) := by
  unfold yz
  have e : (h &&& 4294967295#64).toNat = h.toNat % 4294967296 := by
    rw [BitVec.toNat_and]
    exact Nat.and_two_pow_sub_one_eq_mod h.toNat 32
  rw [BitVec.toInt_eq_toNat_cond, e]
  omega
theorem zog (h : BitVec 64) : 0 ≤ yz h ∧ yz h < 4294967296 := by rw [zfY]; omega
theorem zoc (v : BitVec 64) {n : Int} (h : 0 ≤ n) (h2 : n < 4294967296) : yz (Xn v n) = n := by
  rw [zfY]
  unfold Xn
  rw [BitVec.toNat_or, BitVec.toNat_and, BitVec.toNat_shiftLeft]
  have e1 : (v.toNat <<< 32 % 2 ^ 64 ||| (BitVec.ofInt 64 n).toNat &&& (4294967295#64).toNat) % 2 ^ 32 = (v.toNat <<< 32 % 2 ^ 64) % 2 ^ 32 ||| ((BitVec.ofInt 64 n).toNat &&& (4294967295#64).toNat) % 2 ^ 32 := Nat.or_mod_two_pow
  have e2 : v.toNat <<< 32 % 2 ^ 64 % 2 ^ 32 = 0 := by rw [Nat.shiftLeft_eq]; omega
  have e3 : (BitVec.ofInt 64 n).toNat &&& (4294967295#64).toNat = n.toNat := by
    have : (BitVec.ofInt 64 n).toNat = n.toNat := by rw [BitVec.toNat_ofInt]; omega
    rw [this]
    exact (Nat.and_two_pow_sub_one_eq_mod n.toNat 32).trans (Nat.mod_eq_of_lt (by omega))
  rw [show (4294967296 : Nat) = 2 ^ 32 from rfl, e1, e2, e3, Nat.zero_or, Nat.mod_eq_of_lt (by omega)]
  omega
theorem zkn {n : Int} (h : 0 ≤ n) (h2 : n < 4294967296) : (BitVec.ofInt 64 n).toInt = n := by
  have e : (BitVec.ofInt 64 n).toNat = n.toNat := by rw [BitVec.toNat_ofInt]; omega
  rw [BitVec.toInt_eq_toNat_cond, e]
  omega
theorem zmh {m : List (BitVec 64)} {a b : Int} {v : BitVec 64} : ld (st m a v) b = if a = b ∧ 0 ≤ a ∧ a < m.length then v else ld m b := by
  unfold ld st
  by_cases hb : 0 ≤ b
  · rw [if_pos hb, if_pos hb]
    by_cases ha : 0 ≤ a
    · rw [if_pos ha, List.getD_eq_getElem?_getD, List.getD_eq_getElem?_getD, List.getElem?_set]
      by_cases hab : a.toNat = b.toNat
      · have e : a = b := by omega
        subst e
        by_cases hl : a.toNat < m.length
        · rw [if_pos rfl, if_pos hl, if_pos ⟨rfl, ha, by omega⟩]; rfl
        · rw [if_pos rfl, if_neg hl, if_neg (by omega), List.getElem?_eq_none (by omega)]
      · rw [if_neg hab, if_neg (by omega)]
    · rw [if_neg ha, if_neg (by omega)]
  · rw [if_neg hb, if_neg hb, if_neg (by omega)]
theorem zbk {m : List (BitVec 64)} {a b : Int} {v : BitVec 64} (h : a ≠ b) : ld (st m a v) b = ld m b := by
  rw [zmh, if_neg (fun h' => h h'.1)]
theorem UO {p : zd} (h : zS p) : wv p = p.Workers * (p.Cap + 2) ∧ 3 ≤ wv p ∧ wv p ≤ 15 := by
  have hw := h.wk
  have hc := h.cap
  unfold wv
  rw [Y5 (a := p.Cap + 2) (by omega) (by omega)]
  have hx : p.Workers = 1 ∨ p.Workers = 2 ∨ p.Workers = 3 := by omega
  rcases hx with hx | hx | hx <;> rw [hx, Y5 (by omega) (by omega)] <;> omega
theorem zbc {p : zd} (h : zS p) : yy p = wv p + 1 := by
  have := UO h
  unfold yy
  rw [Y5 (by omega) (by omega)]
theorem zkH {p : zd} (h : zS p) {w : Int} (h1 : 1 ≤ w) (h2 : w ≤ p.Workers) : uX p w = (w - 1) * (p.Cap + 2) ∧ 0 ≤ uX p w ∧ uX p w + p.Cap + 2 ≤ wv p := by
  have hw := h.wk
  have hc := h.cap
  have hf := (UO h).1
  unfold uX
  rw [Y5 (a := p.Cap + 2) (by omega) (by omega), Y5 (a := w - 1) (by omega) (by omega)]
  have hx : p.Workers = 1 ∨ p.Workers = 2 ∨ p.Workers = 3 := by omega
  have hy : w = 1 ∨ w = 2 ∨ w = 3 := by omega
  rw [hf]
  rcases hx with hx | hx | hx <;> rcases hy with hy | hy | hy <;> first | omega | (rw [hx, hy, Y5 (by omega) (by omega)] <;> omega)
theorem ztX {p : zd} (h : zS p) {d : zh} {w : Int} (h1 : 1 ≤ w) (h2 : w ≤ p.Workers) (hb : d.Base = uX p w) (hc : d.Cap = p.Cap) (i : BitVec 64) :
    zap d i = d.Base + 2 + ((i.toNat % p.Cap.toNat : Nat) : Int) ∧ d.Base + 2 ≤ zap d i ∧ zap d i < d.Base + 2 + p.Cap := by
  have hcp := h.cap
  have hd := zkH h h1 h2
  have hf := UO h
  have hs : (W1 d).toNat = p.Cap.toNat := by
    unfold W1
    rw [hc, if_neg (by omega), BitVec.toNat_ofInt]
    omega
  have hlt : i.toNat % p.Cap.toNat < p.Cap.toNat := Nat.mod_lt _ (by omega)
  have hm : (i % W1 d).toInt = ((i.toNat % p.Cap.toNat : Nat) : Int) := by
    rw [BitVec.toInt_eq_toNat_cond, BitVec.toNat_umod, hs]
    omega
  unfold zap
  rw [hm, Y5 (a := d.Base + 2) (by omega) (by omega), Y5 (by omega) (by omega)]
  omega
structure SOk (p : zd) (nb : Nat) (s : zc) : Prop where
  P : s.P = p
  bins : s.Bins.length = nb
  nbk : 1 ≤ nb ∧ nb < 1000
  mem : s.M.length < 100000
  cF : yz (ld s.M (wv p)) < nb
  cE : yz (ld s.M (yy p)) < nb
  cL : ∀ a, yy p < a → 0 ≤ (ld s.M a).toInt ∧ (ld s.M a).toInt < nb
structure MOk (p : zd) (nb : Nat) (g : zC) : Prop where
  who : g.Mode = 1 → 1 ≤ g.Who ∧ g.Who ≤ p.Workers
  d3 : g.PC = 3 → g.D.Kind = 1 ∧ g.D.Base = uX p g.Who ∧ g.D.Cap = p.Cap ∧ g.Mode = 1
  c5 : g.PC = 5 → g.C.Kind = 2 ∧ g.C.Head = yy p ∧ g.C.Next = yy p ∧ (1 ≤ g.C.PC → 1 ≤ yz g.C.H ∧ yz g.C.H < nb) ∧ (2 ≤ g.C.PC → 0 ≤ g.C.Y ∧ g.C.Y < nb)
  b6 : g.PC = 6 → 1 ≤ g.Bin ∧ g.Bin < nb
  c7 : g.PC = 7 → g.C.Kind = 1 ∧ g.C.Head = wv p ∧ g.C.Next = yy p ∧ (1 ≤ g.C.X ∧ g.C.X < nb) ∧ (1 ≤ g.C.PC → yz g.C.H < nb)
theorem SOk.gok {p : zd} {nb : Nat} {s : zc} {g : zC} (h : zS p) (S : SOk p nb s) (M : MOk p nb g) : GOk s g := by
  have hc := h.cap
  refine ⟨by have := S.mem; omega, by have := S.bins; have := S.nbk; omega, fun h6 => ?_, fun h3 => ?_⟩
  · have := M.b6 h6; have := S.bins; omega
  · obtain ⟨a, b, c, _⟩ := M.d3 h3; exact ⟨a, by omega⟩
theorem SOk.low {p : zd} {nb : Nat} {s : zc} (h : zS p) (S : SOk p nb s) {a : Int} (ha : a < wv p) (v : BitVec 64) : SOk p nb { s with M := st s.M a v } := by
  have he := zbc h
  exact ⟨S.P, S.bins, S.nbk, by simp only [XY]; exact S.mem, by simp only [zbk (show a ≠ wv p by omega)]; exact S.cF, by simp only [zbk (show a ≠ yy p by omega)]; exact S.cE, fun b hb => by
    simp only [zbk (show a ≠ b by omega)]; exact S.cL b hb⟩
theorem SOk.link {p : zd} {nb : Nat} {s : zc} (h : zS p) (S : SOk p nb s) {a : Int} (ha : yy p < a) {v : BitVec 64} (hv : 0 ≤ v.toInt ∧ v.toInt < nb) : SOk p nb { s with M := st s.M a v } := by
  have he := zbc h
  exact ⟨S.P, S.bins, S.nbk, by simp only [XY]; exact S.mem, by simp only [zbk (show a ≠ wv p by omega)]; exact S.cF, by simp only [zbk (show a ≠ yy p by omega)]; exact S.cE, fun b hb => by
    simp only [zmh]
    split
    · exact hv
    · exact S.cL b hb⟩
theorem SOk.head {p : zd} {nb : Nat} {s : zc} (h : zS p) (S : SOk p nb s) {a : Int} (ha : a = wv p ∨ a = yy p) {v : BitVec 64} (hv : yz v < nb) : SOk p nb { s with M := st s.M a v } := by
  have he := zbc h
  refine ⟨S.P, S.bins, S.nbk, by simp only [XY]; exact S.mem, ?_, ?_, fun b hb => ?_⟩
  · simp only [zmh]
    split
    · exact hv
    · exact S.cF
  · simp only [zmh]
    split
    · exact hv
    · exact S.cE
  · simp only [zbk (show a ≠ b by omega)]; exact S.cL b hb
theorem SOk.swap {p : zd} {nb : Nat} {s : zc} (h : zS p) (S : SOk p nb s) {a : Int} (ha : a = wv p ∨ a = yy p) (x : BitVec 64) {v : BitVec 64} (hv : yz v < nb) : SOk p nb { s with M := (sw s.M a x v).1 } := by
  unfold sw
  split
  · exact S.head h ha hv
  · exact S
theorem zpX {p : zd} {nb : Nat} {s : zc} (h : zS p) (S : SOk p nb s) {c : zw} {hd : Int} (hdd : hd = wv p ∨ hd = yy p) (hk : c.Kind = 2) (hh : c.Head = hd) (hn : c.Next = yy p)
    (h1 : 1 ≤ c.PC → 1 ≤ yz c.H ∧ yz c.H < nb) (h2 : 2 ≤ c.PC → 0 ≤ c.Y ∧ c.Y < nb) (ho : c.Out ≠ 1) :
    SOk p nb { s with M := (zJ s.M c).1 } ∧ (zJ s.M c).2.Kind = 2 ∧ (zJ s.M c).2.Head = hd ∧ (zJ s.M c).2.Next = yy p ∧
    ((zJ s.M c).2.Out ≠ 1 → (zJ s.M c).2.Out ≠ 2 → (1 ≤ (zJ s.M c).2.PC → 1 ≤ yz (zJ s.M c).2.H ∧ yz (zJ s.M c).2.H < nb) ∧ (2 ≤ (zJ s.M c).2.PC → 0 ≤ (zJ s.M c).2.Y ∧ (zJ s.M c).2.Y < nb)) ∧
    ((zJ s.M c).2.Out = 1 → 1 ≤ (zJ s.M c).2.X ∧ (zJ s.M c).2.X < nb) := by
  have hnb := S.nbk
  have hE := zbc h
  have hF := UO h
  unfold zJ
  split
  · exact ⟨S, hk, hh, hn, fun _ _ => ⟨h1, h2⟩, fun e => absurd e ho⟩
  · split
    · rw [hh]
      have n1 := zog (ld s.M hd)
      have n2 : yz (ld s.M hd) < nb := by
        rcases hdd with e | e <;> rw [e]
        · exact S.cF
        · exact S.cE
      split
      · exact ⟨S, hk, rfl, hn, fun _ h => absurd rfl h, fun e => by cases e⟩
      · rename_i hne
        refine ⟨S, hk, rfl, hn, fun _ _ => ⟨fun _ => ⟨?_, n2⟩, fun e => absurd e (by dsimp only; omega)⟩, fun e => absurd e ho⟩
        have : yz (ld s.M hd) ≠ 0 := fun e => hne ⟨hk, e⟩
        dsimp only
        omega
    · split
      · try rw [if_pos hk]
        have hpc : 1 ≤ c.PC := by omega
        have n1 := h1 hpc
        refine ⟨S, hk, hh, hn, fun _ _ => ⟨fun _ => n1, fun _ => ?_⟩, fun e => absurd e ho⟩
        dsimp only
        rw [hn, Y5 (by omega) (by omega)]
        exact S.cL _ (by omega)
      · rename_i g1 g2 g3
        have hpc : c.PC = 2 := by omega
        have n1 := h1 (by omega)
        have n2 := h2 (by omega)
        simp only [if_pos hk]
        refine ⟨S.swap h (by rw [hh]; exact hdd) _ (by rw [zoc _ n2.1 (by omega)]; exact n2.2), ?_⟩
        split
        · exact ⟨hk, hh, hn, fun e => absurd rfl e, fun _ => n1⟩
        · exact ⟨hk, hh, hn, fun _ _ => ⟨fun e => absurd e (by dsimp only; omega), fun e => absurd e (by dsimp only; omega)⟩, fun e => absurd e ho⟩
theorem zm4 {p : zd} {nb : Nat} {s : zc} (h : zS p) (S : SOk p nb s) {c : zw} {hd : Int} (hdd : hd = wv p ∨ hd = yy p) (hk : c.Kind = 1) (hh : c.Head = hd) (hn : c.Next = yy p) (hx : 1 ≤ c.X ∧ c.X < nb)
    (h1 : 1 ≤ c.PC → yz c.H < nb) :
    SOk p nb { s with M := (zJ s.M c).1 } ∧ (zJ s.M c).2.Kind = 1 ∧ (zJ s.M c).2.Head = hd ∧ (zJ s.M c).2.Next = yy p ∧ (1 ≤ (zJ s.M c).2.X ∧ (zJ s.M c).2.X < nb) ∧
    (1 ≤ (zJ s.M c).2.PC → yz (zJ s.M c).2.H < nb) := by
  have hnb := S.nbk
  have hE := zbc h
  have hF := UO h
  have hk2 : ¬ c.Kind = 2 := by omega
  unfold zJ
  split
  · exact ⟨S, hk, hh, hn, hx, h1⟩
  · split
    · rw [if_neg (fun e => hk2 e.1), hh]
      exact ⟨S, hk, rfl, hn, hx, fun _ => hdd.elim (fun e => by dsimp only; rw [e]; exact S.cF) (fun e => by dsimp only; rw [e]; exact S.cE)⟩
    · split
      · try rw [if_neg hk2]
        have hpc : 1 ≤ c.PC := by omega
        have n1 := h1 hpc
        have n2 := zog c.H
        refine ⟨?_, hk, hh, hn, hx, fun _ => n1⟩
        dsimp only
        rw [hn, Y5 (by omega) (by omega)]
        exact S.link h (by omega) (by rw [zkn (by omega) (by omega)]; omega)
      · have n1 := h1 (by omega)
        simp only [if_neg hk2]
        refine ⟨S.swap h (by rw [hh]; exact hdd) _ (by rw [zoc _ (by omega) (by omega)]; exact hx.2), ?_⟩
        split
        · exact ⟨hk, hh, hn, hx, fun _ => n1⟩
        · exact ⟨hk, hh, hn, hx, fun _ => n1⟩
theorem MOk.ask {p : zd} {nb : Nat} {g : zC} (hw : g.Mode = 1 → 1 ≤ g.Who ∧ g.Who ≤ p.Workers) : MOk p nb (zm2 p g) :=
  ⟨hw, fun e => (by cases e), fun _ => ⟨rfl, rfl, rfl, fun e => absurd e (show ¬ (1 : Int) ≤ 0 by decide), fun e => absurd e (show ¬ (2 : Int) ≤ 0 by decide)⟩, fun e => (by cases e), fun e => (by cases e)⟩
theorem znM {p : zd} {nb : Nat} {s : zc} {g : zC} (h : zS p) (S : SOk p nb s) (M : MOk p nb g) (hout : g.PC = 5 → g.C.Out ≠ 1) : SOk p nb (z3 s g).1 ∧ MOk p nb (z3 s g).2 ∧ ((z3 s g).2.PC = 5 → (z3 s g).2.C.Out ≠ 1) := by
  have hP := S.P
  unfold z3
  split
  · exact ⟨S, M, hout⟩
  split
  · rename_i h7
    obtain ⟨a1, a2, a3, a4, a5⟩ := M.c7 h7
    obtain ⟨b1, b2, b3, b4, b5, b6⟩ := zm4 h S (.inl rfl) a1 a2 a3 a4 a5
    unfold zeg
    refine ⟨b1, ?_, ?_⟩
    · dsimp only
      split <;> exact ⟨M.who, fun e => (by dsimp only at e; omega), fun e => (by dsimp only at e; omega), fun e => (by dsimp only at e; omega), fun _ => ⟨b2, b3, b4, b5, b6⟩⟩
    · dsimp only
      split <;> exact fun e => by dsimp only at e; omega
  split
  · rename_i h6
    obtain ⟨a1, a2⟩ := M.b6 h6
    unfold zuw
    refine ⟨⟨hP, by simp only [List.length_set]; exact S.bins, S.nbk, S.mem, S.cF, S.cE, S.cL⟩, ⟨M.who, fun e => (by cases e), fun e => (by cases e), fun e => (by cases e), fun _ => ⟨rfl, by rw [hP], by rw [hP], ⟨a1, a2⟩, fun e => absurd e (show ¬ (1 : Int) ≤ 0 by decide)⟩⟩, fun e => by cases e⟩
  split
  · rename_i h5
    obtain ⟨a1, a2, a3, a4, a5⟩ := M.c5 h5
    obtain ⟨b1, b2, b3, b4, b5, b6⟩ := zpX h S (.inr rfl) a1 a2 a3 a4 a5 (hout h5)
    unfold zjM
    refine ⟨b1, ?_, ?_⟩
    · dsimp only
      split
      · rename_i e1
        exact ⟨M.who, fun e => (by cases e), fun e => (by cases e), fun _ => b6 e1, fun e => (by cases e)⟩
      · split
        · rw [hP]; exact MOk.ask M.who
        · rename_i e1 e2
          exact ⟨M.who, fun e => (by dsimp only at e; omega), fun _ => ⟨b2, b3, b4, b5 e1 e2⟩, fun e => (by dsimp only at e; omega), fun e => (by dsimp only at e; omega)⟩
    · dsimp only
      split
      · exact fun e => by cases e
      · split
        · exact fun _ e => by cases e
        · rename_i e1 e2; exact fun _ => e1
  split
  · rw [hP]
    exact ⟨⟨rfl, S.bins, S.nbk, S.mem, S.cF, S.cE, S.cL⟩, MOk.ask M.who, fun _ e => by cases e⟩
  split
  · rename_i h3
    obtain ⟨a1, a2, a3, a4⟩ := M.d3 h3
    have hw := M.who a4
    obtain ⟨d1, d2, d3⟩ := zkH h hw.1 hw.2
    have hc := h.cap
    have hf := UO h
    have hs : SOk p nb { s with M := (uc s.M g.D).1 } := by
      unfold uc
      split
      · exact S
      split
      · exact S
      split
      · exact S
      split
      · have := ztX h hw.1 hw.2 a2 a3 g.D.B
        exact S.low h (by omega) _
      · dsimp only
        rw [Y5 (by omega) (by omega)]
        exact S.low h (by omega) _
    have hd : (uc s.M g.D).2.Kind = 1 ∧ (uc s.M g.D).2.Base = uX p g.Who ∧ (uc s.M g.D).2.Cap = p.Cap := by
      unfold uc
      split
      · exact ⟨a1, a2, a3⟩
      split
      · exact ⟨a1, a2, a3⟩
      split
      · dsimp only
        split <;> exact ⟨a1, a2, a3⟩
      split <;> exact ⟨a1, a2, a3⟩
    unfold zjN
    refine ⟨hs, ?_, ?_⟩
    · dsimp only
      split
      · exact ⟨M.who, fun _ => ⟨hd.1, hd.2.1, hd.2.2, a4⟩, fun e => (by dsimp only at e; omega), fun e => (by dsimp only at e; omega), fun e => (by dsimp only at e; omega)⟩
      · split
        · rw [hP]; exact MOk.ask M.who
        · exact ⟨M.who, fun _ => ⟨hd.1, hd.2.1, hd.2.2, a4⟩, fun e => (by dsimp only at e; omega), fun e => (by dsimp only at e; omega), fun e => (by dsimp only at e; omega)⟩
    · dsimp only
      split
      · exact fun e => by dsimp only at e; omega
      · split
        · exact fun _ e => by cases e
        · exact fun e => by dsimp only at e; omega
  split
  · rename_i h2
    exact ⟨⟨hP, S.bins, S.nbk, S.mem, S.cF, S.cE, S.cL⟩, ⟨M.who, fun e => (by dsimp only at e; omega), fun e => (by dsimp only at e; omega), fun e => (by dsimp only at e; omega), fun e => (by dsimp only at e; omega)⟩, fun e => by dsimp only at e; omega⟩
  split
  · unfold zmv
    refine ⟨⟨hP, S.bins, S.nbk, S.mem, S.cF, S.cE, S.cL⟩, ?_, ?_⟩
    · dsimp only
      split
      · exact ⟨M.who, fun e => (by cases e), fun e => (by cases e), fun e => (by cases e), fun e => (by cases e)⟩
      split
      · exact ⟨M.who, fun _ => ⟨rfl, by rw [hP], by rw [hP], by assumption⟩, fun e => (by cases e), fun e => (by cases e), fun e => (by cases e)⟩
      split
      · exact ⟨M.who, fun e => (by cases e), fun e => (by cases e), fun e => (by cases e), fun e => (by cases e)⟩
      · rw [hP]; exact MOk.ask M.who
    · dsimp only
      split
      · exact fun e => by cases e
      split
      · exact fun e => by cases e
      split
      · exact fun e => by cases e
      · exact fun _ e => by cases e
  · exact ⟨⟨hP, S.bins, S.nbk, S.mem, S.cF, S.cE, S.cL⟩, ⟨M.who, fun e => (by cases e), fun e => (by cases e), fun e => (by cases e), fun e => (by cases e)⟩, fun e => by cases e⟩
theorem zli (s : zc) (g : zC) : (z3 s g).2.Obj = g.Obj ∧ (z3 s g).2.Who = g.Who ∧ (z3 s g).2.Mode = g.Mode := by
  unfold z3
  split
  · exact ⟨rfl, rfl, rfl⟩
  split
  · unfold zeg; dsimp only; split <;> exact ⟨rfl, rfl, rfl⟩
  split
  · exact ⟨rfl, rfl, rfl⟩
  split
  · unfold zjM; dsimp only
    split
    · exact ⟨rfl, rfl, rfl⟩
    · split <;> exact ⟨rfl, rfl, rfl⟩
  split
  · exact ⟨rfl, rfl, rfl⟩
  split
  · unfold zjN; dsimp only
    split
    · exact ⟨rfl, rfl, rfl⟩
    · split <;> exact ⟨rfl, rfl, rfl⟩
  split
  · exact ⟨rfl, rfl, rfl⟩
  split
  · unfold zmv; dsimp only
    split
    · exact ⟨rfl, rfl, rfl⟩
    split
    · exact ⟨rfl, rfl, rfl⟩
    split <;> exact ⟨rfl, rfl, rfl⟩
  · exact ⟨rfl, rfl, rfl⟩
end
end Go.Pe.G
namespace Go.Pe.G
open Go.Pe
noncomputable section
def OkV (nb : Nat) (v : BitVec 64) : Prop := yz v < nb ∧ 0 ≤ v.toInt ∧ v.toInt < nb
theorem zps {nb : Nat} (h : 1 ≤ nb) : OkV nb 0#64 := by
  refine ⟨by rw [zfY]; simp; omega, by simp, by simp; omega⟩
theorem znc {nb : Nat} {b : Int} (h : 0 ≤ b) (h2 : b < nb) (h3 : nb < 1000) : OkV nb (BitVec.ofInt 64 b) := by
  have e : (BitVec.ofInt 64 b).toNat = b.toNat := by rw [BitVec.toNat_ofInt]; omega
  refine ⟨by rw [zfY, e]; omega, ?_⟩
  rw [zkn h (by omega)]
  omega
theorem zop {b : Int} (h : 0 ≤ b) (h2 : b < 4294967296) : Xn 0#64 b = BitVec.ofInt 64 b := by
  have e : (BitVec.ofInt 64 b).toNat = b.toNat := by rw [BitVec.toNat_ofInt]; omega
  apply BitVec.eq_of_toNat_eq
  unfold Xn
  rw [BitVec.toNat_or, BitVec.toNat_and, e]
  have : b.toNat &&& (4294967295#64).toNat = b.toNat := (Nat.and_two_pow_sub_one_eq_mod b.toNat 32).trans (Nat.mod_eq_of_lt (by omega))
  rw [this]
  simp
def Zz (F : Int) (nb : Nat) (m : List (BitVec 64)) : Prop := ∀ a, F ≤ a → OkV nb (ld m a)
theorem Zz.st {F : Int} {nb : Nat} {m : List (BitVec 64)} (h : Zz F nb m) (a : Int) {v : BitVec 64} (hv : OkV nb v) : Zz F nb (st m a v) := fun b hb => by
  rw [zmh]
  split
  · exact hv
  · exact h b hb
theorem Zz.links {F : Int} {nb : Nat} (h1 : 1 ≤ nb) (h3 : nb < 1000) : ∀ (l : List Int) (m : List (BitVec 64)) (n : Int), (∀ b ∈ l, 0 ≤ b ∧ b < nb) → Zz F nb m → Zz F nb (links m n l)
  | [], m, n, _, h => h
  | [a], m, n, _, h => h.st _ (zps h1)
  | a :: b :: l, m, n, hb, h => Zz.links h1 h3 (b :: l) _ n (fun x hx => hb x (List.mem_cons_of_mem _ hx)) (h.st _ (znc (hb b (by simp)).1 (hb b (by simp)).2 h3))
theorem Zz.lay {F : Int} {nb : Nat} (h1 : 1 ≤ nb) (h3 : nb < 1000) {l : List Int} {m : List (BitVec 64)} {hd n : Int} (hb : ∀ b ∈ l, 0 ≤ b ∧ b < nb) (h : Zz F nb m) : Zz F nb (zhJ m hd n l) := by
  unfold zhJ
  refine (Zz.links h1 h3 l m n hb h).st _ ?_
  cases l with
  | nil => rw [List.headD_nil, zop (by omega) (by omega)]; exact znc (by omega) (by omega) h3
  | cons a r =>
    have := hb a (by simp)
    rw [List.headD_cons, zop this.1 (by omega)]
    exact znc this.1 this.2 h3
theorem zp4 {k : Nat} {b : Int} (h : b ∈ Zv k) : 1 ≤ b ∧ b ≤ k := by
  unfold Zv at h
  obtain ⟨i, hi, rfl⟩ := List.mem_map.1 h
  have := List.mem_range.1 hi
  omega
theorem zqn {p : zd} (h : zS p) : (xd p : Int) = p.Most + p.Workers + p.Mutators ∧ 2 ≤ xd p ∧ xd p ≤ 14 := by
  have := h.most
  have := h.n
  have := h.wk
  have := h.mt
  unfold xd
  omega
theorem zq6 {p : zd} (h : zS p) : SOk p (xd p + 1) (wH p) := by
  have hb := zqn h
  have hf := zpd h
  have hn := h.n
  have hw := h.wk
  have hc := h.cap
  have hmo := h.most
  have hF := UO h
  have hE := zbc h
  have hcl := zdA p p.Workers.toNat
  have hfe : wv p = ((p.Workers.toNat * (p.Cap.toNat + 2) : Nat) : Int) := by
    rw [hF.1]
    have e1 : p.Workers = ((p.Workers.toNat : Nat) : Int) := by omega
    have e2 : p.Cap + 2 = ((p.Cap.toNat + 2 : Nat) : Int) := by omega
    rw [e2, Int.natCast_mul]
    rw [← e1]
  have h0 : Zz (wv p) (xd p + 1) (Xu p p.Workers.toNat ++ List.replicate (2 + xd p) 0#64) := by
    intro a ha
    have : ld (Xu p p.Workers.toNat ++ List.replicate (2 + xd p) 0#64) a = 0#64 := by
      unfold ld
      rw [if_pos (by omega), List.getD_eq_getElem?_getD, List.getElem?_append_right (by omega), List.getElem?_replicate]
      split <;> rfl
    rw [this]
    exact zps (by omega)
  have h1 : Zz (wv p) (xd p + 1) (wH p).M := by
    refine Zz.lay (by omega) (by omega) (fun b hb' => ?_) (Zz.lay (by omega) (by omega) (fun b hb' => ?_) h0)
    · have := zp4 (List.mem_of_mem_drop hb'); omega
    · have := zp4 (List.mem_of_mem_take hb'); omega
  have hlen : (wH p).M.length = p.Workers.toNat * (p.Cap.toNat + 2) + (2 + xd p) := by
    show (zhJ _ _ _ _).length = _
    rw [zlk, zlk, List.length_append, hcl, List.length_replicate]
  refine ⟨rfl, ?_, by omega, by rw [hlen]; omega, (h1 _ (by omega)).1, (h1 _ (by omega)).1, fun a ha => (h1 a (by omega)).2⟩
  have hd : (wH p).Bins.length = 1 + (vr p).length + (xd p - (vr p).length) := by
    show ([[]] ++ vr p ++ List.replicate (xd p - (vr p).length) ([] : List Int)).length = _
    rw [List.length_append, List.length_append, List.length_replicate]; rfl
  have h2 := hb.1
  have hmt := h.mt
  rw [hd]
  omega
def zlv (mode obj who : Int) : zC := ⟨0, mode, obj, who, ⟨0, 0, 0, 0, 0#64, 0#64, 0, 0⟩, ⟨0, 0, 0, 0, 0#64, 0, 0, 0⟩, 0, 0⟩
theorem zrN (a b c : Int) : zaj a b c = some (zlv a b c, ()) := by rw [zlC]; rfl
end
end Go.Pe.G
namespace Go.Pe.G
open Go.Pe
noncomputable section
structure uE (s : zc) : Prop where
  m : s.M.length < 1000000
  bins : s.Bins.length < 1000000
  bin : ∀ x ∈ s.Bins, x.length < 1000000
  acks : s.Acks.length < 1000000
  bal : s.L.Bal.length < 1000000
  ws : s.Ws.length < 1000000
  w : ∀ x ∈ s.Ws, x.Batch.length < 1000000
  ms : s.Ms.length < 1000000
  mu : ∀ x ∈ s.Ms, x.Regs.length < 1000000 ∧ x.Buf.length < 1000000 ∧ x.Batch.length < 1000000
  objs : s.H.Objs.length < 1000000
  obj : ∀ x ∈ s.H.Objs, x.length < 1000000
  pobjs : s.P.H.Objs.length < 1000000
  pobj : ∀ x ∈ s.P.H.Objs, x.length < 1000000
  regs : s.P.Regs.length < 1000000
  reg : ∀ x ∈ s.P.Regs, x.length < 1000000
  progs : s.P.Progs.length < 1000000
  prog : ∀ x ∈ s.P.Progs, x.length < 1000000
  picks : s.P.Picks.length < 1000000
theorem W5 (m : List (BitVec 64)) (c : zw) : (zJ m c).1.length = m.length := by
  unfold zJ sw
  split
  · rfl
  split
  · rfl
  split
  · split <;> simp [XY]
  · dsimp only; split <;> simp [XY]
theorem zrJ (m : List (BitVec 64)) (d : zh) : (uc m d).1.length = m.length := by
  unfold uc
  split
  · rfl
  split
  · rfl
  split
  · rfl
  split <;> simp [XY]
theorem zmH (s : zc) (g : zC) : ∃ m b t w f, (z3 s g).1 = { s with M := m, Bins := b, T := t, Work := w, Flag := f } ∧ m.length = s.M.length ∧ b.length = s.Bins.length ∧
    (∀ x ∈ b, x ∈ s.Bins ∨ x = [g.Obj]) ∧ (t = s.T ∨ t = (zfI s.T g.Obj).1) ∧ (w = s.Work ∨ w = wc (s.Work + 1) ∨ w = wc (s.Work - 1)) := by
  unfold z3
  split
  · exact ⟨s.M, s.Bins, s.T, s.Work, s.Flag, rfl, rfl, rfl, fun x h => .inl h, .inl rfl, .inl rfl⟩
  split
  · exact ⟨_, s.Bins, s.T, s.Work, s.Flag, rfl, W5 _ _, rfl, fun x h => .inl h, .inl rfl, .inl rfl⟩
  split
  · refine ⟨s.M, _, s.T, s.Work, s.Flag, rfl, rfl, by simp, fun x h => ?_, .inl rfl, .inl rfl⟩
    rcases List.mem_or_eq_of_mem_set h with h | h
    · exact .inl h
    · exact .inr h
  split
  · exact ⟨_, s.Bins, s.T, s.Work, s.Flag, rfl, W5 _ _, rfl, fun x h => .inl h, .inl rfl, .inl rfl⟩
  split
  · exact ⟨s.M, s.Bins, s.T, s.Work, true, rfl, rfl, rfl, fun x h => .inl h, .inl rfl, .inl rfl⟩
  split
  · exact ⟨_, s.Bins, s.T, s.Work, s.Flag, rfl, zrJ _ _, rfl, fun x h => .inl h, .inl rfl, .inl rfl⟩
  split
  · exact ⟨s.M, s.Bins, s.T, _, s.Flag, rfl, rfl, rfl, fun x h => .inl h, .inl rfl, .inr (.inr rfl)⟩
  split
  · exact ⟨s.M, s.Bins, _, s.Work, s.Flag, rfl, rfl, rfl, fun x h => .inl h, .inr rfl, .inl rfl⟩
  · exact ⟨s.M, s.Bins, s.T, _, s.Flag, rfl, rfl, rfl, fun x h => .inl h, .inl rfl, .inr (.inl rfl)⟩
theorem zvU {s : zc} {g : zC} (h : uE s) : uE (z3 s g).1 := by
  obtain ⟨m, b, t, w, f, e, h1, h2, h3, _, _⟩ := zmH s g
  rw [e]
  refine ⟨by rw [h1]; exact h.m, by rw [h2]; exact h.bins, fun x hx => ?_, h.acks, h.bal, h.ws, h.w, h.ms, h.mu, h.objs, h.obj, h.pobjs, h.pobj, h.regs, h.reg, h.progs, h.prog, h.picks⟩
  rcases h3 x hx with h' | rfl
  · exact h.bin x h'
  · simp
theorem ztp {p : zd} (h : zS p) : uE (wH p) := by
  have S := zq6 h
  have hb := zqn h
  have hg := zjw h
  have hn := h.n
  have hm := h.mt
  have hw := h.wk
  have hs := h.slots
  have hrl := h.regs
  have hpl := h.progs
  have hobj : ∀ o ∈ p.H.Objs, o.length < 1000000 := fun o ho => by have := (h.objs o ho).1; omega
  have hreg : ∀ r ∈ p.Regs, r.length < 1000000 := fun r hr => by have := (h.reg r hr).1; omega
  refine ⟨by have := S.mem; omega, by rw [S.bins]; omega, fun x hx => ?_, ?_, ?_, ?_, fun x hx => ?_, ?_, fun x hx => ?_, by show p.H.Objs.length < _; omega, hobj, by show p.H.Objs.length < _; omega, hobj, by show p.Regs.length < _; omega, hreg, by show p.Progs.length < _; omega, fun x hx => ?_, ?_⟩
  · have hx : x ∈ [[]] ++ vr p ++ List.replicate (xd p - (vr p).length) [] := hx
    rcases List.mem_append.1 hx with hx | hx
    · rcases List.mem_append.1 hx with hx | hx
      · simp at hx; subst hx; simp
      · have := zgK _ _ _ _ hx; omega
    · have := (List.mem_replicate.1 hx).2; subst this; simp
  · show (List.replicate p.Mutators.toNat (0 : Int)).length < _; simp; omega
  · show (List.replicate p.Mutators.toNat (0 : Int)).length < _; simp; omega
  · show ((List.range p.Workers.toNat).map (W4 p)).length < _; simp; omega
  · have hx : x ∈ (List.range p.Workers.toNat).map (W4 p) := hx
    obtain ⟨i, _, rfl⟩ := List.mem_map.1 hx
    simp [W4]
  · show (p.Regs.map vy).length < _; simp; omega
  · have hx : x ∈ p.Regs.map vy := hx
    obtain ⟨r, hr, rfl⟩ := List.mem_map.1 hx
    exact ⟨hreg r hr, by simp [vy], by simp [vy]⟩
  · obtain ⟨i, hi⟩ := List.getElem?_of_mem hx
    have hlt := (List.getElem?_eq_some_iff.1 hi).1
    have := (h.prog i _ x (List.getElem?_eq_getElem (by have : p.Progs.length = p.Regs.length := by omega
                                                        have hlt : i < p.Progs.length := hlt
                                                        omega)) hi).1
    omega
  · show p.Picks.length < _; rw [h.picks]; simp
end
end Go.Pe.G
namespace Go.Pe.G
open Go.Pe
noncomputable section
theorem Ym {α B C : Type} {f : List α × List α × Int × Int × Unit → Option (yQ (List α × List α × Int × Int × Unit) B C)} {l : List α} {b : B} (hl : l.length < 1000000)
    (h1 : ∀ (i : Nat) (x : α), l[i]? = some x → f (l, l, (l.length : Int), (i : Int), ()) = some (.again (l, l, (l.length : Int), ((i + 1 : Nat) : Int), ())))
    (h2 : f (l, l, (l.length : Int), (l.length : Int), ()) = some (.brk b)) : ya f (l, l, (l.length : Int), 0, ()) = some (.brk b) := by
  refine (uk (f := f) (fun a => ∃ i : Nat, a = (l, l, (l.length : Int), (i : Int), ()) ∧ i ≤ l.length) (fun a => l.length - a.2.2.2.1.toNat) (fun o => o = .brk b) ?_ (l, l, (l.length : Int), 0, ()) ⟨0, rfl, by omega⟩ (xz (by dsimp only; omega))).elim fun o h => ?_
  rotate_left
  · rw [h.1, h.2]
  · rintro _ ⟨i, rfl, hi⟩
    rcases Nat.lt_or_ge i l.length with hlt | hge
    · refine ⟨_, h1 i _ (List.getElem?_eq_getElem hlt), ⟨i + 1, rfl, hlt⟩, ?_⟩
      show l.length - ((i + 1 : Nat) : Int).toNat < l.length - (i : Int).toNat
      omega
    · have : i = l.length := by omega
      subst this
      exact ⟨_, h2, rfl⟩
theorem yX {l : List (Int)} (hl : l.length < 1000000) : zL l l = some (true, ()) := by
  rw [zcX, z7, if_pos rfl, Ym (b := ()) hl (fun i x hx => ?_) (by rw [YX]; simp)]
  · rfl
  · have hlt := wA hx
    rw [YX, zr, if_pos hlt, xM hx, Option.bind_some, Option.bind_some, yU (by omega)]
    simp
theorem Uj {l : List (BitVec 64)} (hl : l.length < 1000000) : vV l l = some (true, ()) := by
  rw [Uk, z7, if_pos rfl, Ym (b := ()) hl (fun i x hx => ?_) (by rw [uJ]; simp)]
  · rfl
  · have hlt := wA hx
    rw [uJ, zr, if_pos hlt, xM hx, Option.bind_some, Option.bind_some, yU (by omega)]
    simp
theorem zaG {l : List (Int)} (hl : l.length < 1000000) : uA l l = some (true, ()) := by
  rw [zaD, z7, if_pos rfl, Ym (b := ()) hl (fun i x hx => ?_) (by rw [Zl]; simp)]
  · rfl
  · have hlt := wA hx
    rw [Zl, zr, if_pos hlt, xM hx, Option.bind_some, Option.bind_some, yU (by omega)]
    simp
theorem Vv {l : List (zg)} (hl : l.length < 1000000) : vl l l = some (true, ()) := by
  rw [Vr, z7, if_pos rfl, Ym (b := ()) hl (fun i x hx => ?_) (by rw [un]; simp)]
  · rfl
  · have hlt := wA hx
    rw [un, zr, if_pos hlt, xM hx, Option.bind_some, Option.bind_some, yU (by omega)]
    simp
theorem Wk {l : List (zi)} (hl : l.length < 1000000) : wo l l = some (true, ()) := by
  rw [Wv, z7, if_pos rfl, Ym (b := ()) hl (fun i x hx => ?_) (by rw [vo]; simp)]
  · rfl
  · have hlt := wA hx
    rw [vo, zr, if_pos hlt, xM hx, Option.bind_some, Option.bind_some, yU (by omega)]
    simp
theorem xk {l : List (List Int)} (hl : l.length < 1000000) (he : ∀ x ∈ l, x.length < 1000000) : zy l l = some (true, ()) := by
  rw [Y1, z7, if_pos rfl, Ym (b := ()) hl (fun i x hx => ?_) (by rw [ww]; simp)]
  · rfl
  · have hlt := wA hx
    rw [ww, zr, if_pos hlt, xM hx, Option.bind_some, Option.bind_some, yX (he x (List.mem_of_getElem? hx)), Option.bind_some, yU (by omega)]
    simp
theorem vQ {l : List (List zg)} (hl : l.length < 1000000) (he : ∀ x ∈ l, x.length < 1000000) : yx l l = some (true, ()) := by
  rw [vP, z7, if_pos rfl, Ym (b := ()) hl (fun i x hx => ?_) (by rw [yR]; simp)]
  · rfl
  · have hlt := wA hx
    rw [yR, zr, if_pos hlt, xM hx, Option.bind_some, Option.bind_some, Vv (he x (List.mem_of_getElem? hx)), Option.bind_some, yU (by omega)]
    simp
theorem zqL {w : zj} (h : w.Batch.length < 1000000) : Wq w w = some (true, ()) := by
  rw [zgj, yX h]; simp
theorem zp1 {m : zb} (h : m.Regs.length < 1000000 ∧ m.Buf.length < 1000000 ∧ m.Batch.length < 1000000) : XX m m = some (true, ()) := by
  rw [zfr, yX h.1, yX h.2.1, yX h.2.2, zdw]; simp
theorem xQ {l : List (zj)} (hl : l.length < 1000000) (he : ∀ x ∈ l, x.Batch.length < 1000000) : z5 l l = some (true, ()) := by
  rw [xS, z7, if_pos rfl, Ym (b := ()) hl (fun i x hx => ?_) (by rw [yp]; simp)]
  · rfl
  · have hlt := wA hx
    rw [yp, zr, if_pos hlt, xM hx, Option.bind_some, Option.bind_some, zqL (he x (List.mem_of_getElem? hx)), Option.bind_some, yU (by omega)]
    simp
theorem xC {l : List (zb)} (hl : l.length < 1000000) (he : ∀ x ∈ l, x.Regs.length < 1000000 ∧ x.Buf.length < 1000000 ∧ x.Batch.length < 1000000) : zX l l = some (true, ()) := by
  rw [xB, z7, if_pos rfl, Ym (b := ()) hl (fun i x hx => ?_) (by rw [yg]; simp)]
  · rfl
  · have hlt := wA hx
    rw [yg, zr, if_pos hlt, xM hx, Option.bind_some, Option.bind_some, zp1 (he x (List.mem_of_getElem? hx)), Option.bind_some, yU (by omega)]
    simp
theorem zob {h : zu} (h1 : h.Objs.length < 1000000) (h2 : ∀ x ∈ h.Objs, x.length < 1000000) : vq h h = some (true, ()) := by
  rw [zmX, xk h1 h2]; simp
theorem zrv {s : zc} (h : uE s) : zeq s s = some (true, ()) := by
  have hp : uo s.P s.P = some (true, ()) := by
    rw [znt, zgr, zob h.pobjs h.pobj, xk h.regs h.reg, vQ h.progs h.prog, Wk h.picks]
    simp
  have hl : wJ s.L s.L = some (true, ()) := by
    rw [zkK, zaG h.bal]; simp
  have hm : uZ s.M s.M = some (true, ()) := by
    rw [zoF, Uj h.m]; rfl
  rw [zml, hp, zob h.objs h.obj, hm, xk h.bins h.bin, yX h.acks, hl, xQ h.ws h.w, xC h.ms h.mu]
  simp
end
end Go.Pe.G
namespace Go.Pe.G
open Go.Pe
noncomputable section
def goF {S : Type} (g : Nat → S → S) : Nat → Nat → S → S
  | _, 0, s => s
  | i, k + 1, s => goF g (i + 1) k (g i s)
theorem zfV {S : Type} {g : Nat → S → S} {Inv : S → Prop} (hg : ∀ i s, Inv s → Inv (g i s)) : ∀ (k i : Nat) (s : S), Inv s → Inv (goF g i k s)
  | 0, _, _, h => h
  | k + 1, i, s, h => zfV hg k (i + 1) _ (hg i s h)
theorem zuT {S σ B C : Type} {f : σ → Option (yQ σ B C)} (A : Int → S → σ) (b : S → B) (n : Nat) (hn : n < 1000000) (g : Nat → S → S) (Inv : S → Prop) (hg : ∀ i s, Inv s → Inv (g i s))
    (h1 : ∀ (i : Nat) s, i < n → Inv s → f (A (i : Int) s) = some (.again (A ((i + 1 : Nat) : Int) (g i s)))) (h2 : ∀ s, Inv s → f (A (n : Int) s) = some (.brk (b s))) {s : S} (hs : Inv s) :
    ya f (A 0 s) = some (.brk (b (goF g 0 n s))) := by
  have key : ∀ (k i : Nat) (s : S), n - i = k → i ≤ n → Inv s → ∀ m, k < m → vH f m (A (i : Int) s) = some (.brk (b (goF g i k s))) := by
    intro k
    induction k with
    | zero =>
      intro i s hk hi hs m hm
      have : i = n := by omega
      subst this
      obtain ⟨m, rfl⟩ : ∃ x, m = x + 1 := ⟨m - 1, by omega⟩
      simp only [vH]
      rw [h2 s hs]; rfl
    | succ k ih =>
      intro i s hk hi hs m hm
      obtain ⟨m, rfl⟩ : ∃ x, m = x + 1 := ⟨m - 1, by omega⟩
      simp only [vH]
      rw [h1 i s (by omega) hs, Option.bind_some]
      exact ih (i + 1) _ (by omega) (by omega) (hg i s hs) m (by omega)
  have := key n 0 s (by omega) (by omega) hs Y7 (xz (by omega))
  rw [WP]
  exact this
end
end Go.Pe.G
namespace Go.Pe.G
open Go.Pe
noncomputable section
def zf6 (m : List (BitVec 64)) (d : zh) : List (BitVec 64) × zh :=
  if d.PC < 0 ∨ 7 ≤ d.PC then (m, d)
  else if d.PC = 0 then (m, { d with B := ld m (wc (d.Base + 1)), PC := 1 })
  else if d.PC = 1 then (st m (wc (d.Base + 1)) (d.B - 1#64), { d with PC := 2 })
  else if d.PC = 2 then (m, { d with T := ld m d.Base, PC := if 0 < (ld m d.Base - (d.B - 1#64)).toInt then 5 else 3 })
  else if d.PC = 3 then (m, { d with X := (ld m (zap d (d.B - 1#64))).toInt, PC := 4, Out := if d.T = d.B - 1#64 then d.Out else 1 })
  else if d.PC = 4 then ((sw m d.Base d.T (d.T + 1#64)).1, { d with PC := if (sw m d.Base d.T (d.T + 1#64)).2 then 6 else 5 })
  else if d.PC = 5 then (st m (wc (d.Base + 1)) d.B, { d with X := 0, Out := 2, PC := 6 })
  else (st m (wc (d.Base + 1)) d.B, { d with Out := 1, PC := 7 })
def UM (m : List (BitVec 64)) (d : zh) : List (BitVec 64) × zh :=
  if d.PC < 0 ∨ 4 ≤ d.PC then (m, d)
  else if d.PC = 0 then (m, { d with T := ld m d.Base, PC := 1 })
  else if d.PC = 1 then (m, { d with B := ld m (wc (d.Base + 1)), PC := 2, Out := if 0 < (ld m (wc (d.Base + 1)) - d.T).toInt then d.Out else 2 })
  else if d.PC = 2 then (m, { d with X := (ld m (zap d d.T)).toInt, PC := 3 })
  else ((sw m d.Base d.T (d.T + 1#64)).1, if (sw m d.Base d.T (d.T + 1#64)).2 then { d with Out := 1, PC := 4 } else { d with X := 0, Out := 4, PC := 4 })
def vc (m : List (BitVec 64)) (d : zh) : List (BitVec 64) × zh :=
  if d.Out ≠ 0 then (m, d) else if d.Kind = 1 then uc m d else if d.Kind = 2 then zf6 m d else if d.Kind = 3 then UM m d else (m, d)
theorem zqZ {m : List (BitVec 64)} {d : zh} (h : d.Kind = 1) : vc m d = uc m d := by
  unfold vc
  by_cases h0 : d.Out ≠ 0
  · rw [if_pos h0]; unfold uc; rw [if_pos (.inl h0)]
  · rw [if_neg h0, if_pos h]
theorem zrk {α : Type} {x y : Option α} {v : α} (h : x = some v) : Option.or x y = some v := by subst h; rfl
theorem zd3 {α : Type} {x y z : Option α} (h : x = none) (h2 : y = z) : Option.or x y = z := by subst h; exact h2
theorem ztA : wc 1 = 1 ∧ wc 2 = 2 ∧ wc 3 = 3 ∧ wc 4 = 4 ∧ wc 5 = 5 ∧ wc 6 = 6 ∧ wc 7 = 7 := by decide
theorem zsz : w64 5 = 5 ∧ w64 6 = 6 ∧ w64 7 = 7 := by
  refine ⟨?_, ?_, ?_⟩ <;> exact z8 (by omega) (by omega)
theorem zvT {m : List (BitVec 64)} (hm : m.length < 4294967296) {d : zh} (hc : d.Cap < 1000) : zau m d = some ((vc m d).1, (vc m d).2, ()) := by
  by_cases k1 : d.Kind = 1
  · rw [zqZ k1]; exact zfR hm k1 hc
  obtain ⟨w0, w1, w2, w3, w4⟩ := zqm
  obtain ⟨w5, w6, w7⟩ := zsz
  obtain ⟨v1, v2, v3, v4, v5, v6, v7⟩ := ztA
  have hsb : ∀ d : zh, xl m d = some (m, { d with B := ld m (wc (d.Base + 1)) }, ()) := fun d => by
    rw [ZU, yE, wx, Option.bind_some, Yb]; rfl
  have htk : ∀ d : zh, u9 m d = some ((sw m d.Base d.T (d.T + 1#64)).1, (sw m d.Base d.T (d.T + 1#64)).2, ()) := fun d => by
    obtain ⟨v, hv⟩ := znG hm d.Base d.T (d.T + 1#64)
    rw [zfw, ur, Option.bind_some, hv]; rfl
  rw [zfL, zdo, zj7, zjX, zkd]
  simp only [zr, z7, if_neg k1]
  unfold vc
  by_cases k2 : d.Kind = 2
  · refine zd3 (by simp [k2]) (zrk ?_)
    rw [if_pos k2, Option.bind_some]
    by_cases g0 : d.Out = 0
    rotate_left
    · rw [if_neg g0, if_pos (show d.Out ≠ 0 from g0)]
    rw [if_pos g0, if_neg (show ¬ (d.Out ≠ 0) from fun e => e g0), if_neg k1, if_pos k2]
    unfold zf6
    by_cases g1 : d.PC < 0
    · rw [if_pos g1, if_pos (.inl g1)]
    rw [if_neg g1]
    by_cases g2 : 7 ≤ d.PC
    · rw [if_pos g2, if_pos (.inr g2)]
    rw [if_neg g2, if_neg (show ¬ (d.PC < 0 ∨ 7 ≤ d.PC) by omega)]
    have hpc : d.PC = 0 ∨ d.PC = 1 ∨ d.PC = 2 ∨ d.PC = 3 ∨ d.PC = 4 ∨ d.PC = 5 ∨ d.PC = 6 := by omega
    rcases hpc with h | h | h | h | h | h | h
    · simp [h, hsb, w1]
    · simp [h, zeD, yE, wx, VP hm, v1, v2, v3, v4, v5, v6, v7]
    · rw [h, if_neg (by decide), if_neg (by decide), if_neg (by decide), if_neg (by decide), if_pos rfl, if_neg (by decide), if_neg (by decide), if_pos rfl]
      simp only [zbv, ur, Option.bind_some, Yb, zeM, zr]
      by_cases hs : 0 < (ld m d.Base - (d.B - 1#64)).toInt
      · simp only [if_pos hs, Option.bind_some, Int.reduceAdd, w5]
      · simp only [if_neg hs, Option.bind_some, h, Int.reduceAdd, w3]
    · simp only [h, zdy, zgm hc, Option.bind_some, Yb, z7, xh]
      by_cases hs : d.T = d.B - 1#64
      · simp [hs, w4, h]
      · simp [hs, w4, h]
    · simp only [h, zc1, htk, Option.bind_some]
      cases hs : (sw m d.Base d.T (d.T + 1#64)).2 with
      | true => simp [hs, w6, h]
      | false => simp [hs, w5, h]
    · simp [h, zcQ, xh, k1, yE, wx, VP hm, v1, v2, v3, v4, v5, v6, v7]
    · simp [h, zdF, xh, yE, wx, VP hm, v1, v2, v3, v4, v5, v6, v7]
  by_cases k3 : d.Kind = 3
  · refine zd3 (by simp [k2, k3]) (zd3 (by simp [k2, k3]) (zrk ?_))
    rw [if_neg k2, if_pos k3, Option.bind_some]
    by_cases g0 : d.Out = 0
    rotate_left
    · rw [if_neg g0, if_pos (show d.Out ≠ 0 from g0)]
    rw [if_pos g0, if_neg (show ¬ (d.Out ≠ 0) from fun e => e g0), if_neg k1, if_neg k2, if_pos k3]
    unfold UM
    by_cases g1 : d.PC < 0
    · rw [if_pos g1, if_pos (.inl g1)]
    rw [if_neg g1]
    by_cases g2 : 4 ≤ d.PC
    · rw [if_pos g2, if_pos (.inr g2)]
    rw [if_neg g2, if_neg (show ¬ (d.PC < 0 ∨ 4 ≤ d.PC) by omega)]
    have hpc : d.PC = 0 ∨ d.PC = 1 ∨ d.PC = 2 ∨ d.PC = 3 := by omega
    rcases hpc with h | h | h | h
    · simp [h, zdz, ur, Yb, w1]
    · rw [h, if_neg (by decide), if_neg (by decide), if_pos rfl, if_neg (by decide), if_pos rfl]
      simp only [zdx, yE, Option.bind_some, Yb, zeM, z7, wx]
      by_cases hs : 0 < (ld m (wc (d.Base + 1)) - d.T).toInt
      · simp only [if_pos hs, Option.bind_some, Int.reduceAdd, v2, h]
      · simp only [if_neg hs, Option.bind_some, Int.reduceAdd, v2, h]
    · simp [h, zc6, zgm hc, Yb, w3]
    · simp only [h, zbC, htk, Option.bind_some, xh]
      cases hs : (sw m d.Base d.T (d.T + 1#64)).2 with
      | true => simp [hs, w4, h]
      | false => simp [hs, w4, h, k1]
  · refine zd3 (by simp [k2, k3]) (zd3 (by simp [k2, k3]) (zd3 (by simp [k2, k3]) ?_))
    rw [if_neg k2, if_neg k3, Option.bind_some]
    by_cases g0 : d.Out = 0
    · simp [g0, k1, k2, k3]
    · simp [g0]
theorem zrQ (m : List (BitVec 64)) (d : zh) : (zf6 m d).1.length = m.length ∧ (zf6 m d).2.Kind = d.Kind ∧ (zf6 m d).2.Base = d.Base ∧ (zf6 m d).2.Cap = d.Cap := by
  unfold zf6 sw st
  split
  · exact ⟨rfl, rfl, rfl, rfl⟩
  split
  · exact ⟨rfl, rfl, rfl, rfl⟩
  split
  · refine ⟨?_, rfl, rfl, rfl⟩; dsimp only; split <;> simp
  split
  · exact ⟨rfl, rfl, rfl, rfl⟩
  split
  · exact ⟨rfl, rfl, rfl, rfl⟩
  split
  · refine ⟨?_, rfl, rfl, rfl⟩; dsimp only; split <;> (try split) <;> simp
  split <;> (refine ⟨?_, rfl, rfl, rfl⟩; dsimp only; split <;> simp)
theorem zqo (m : List (BitVec 64)) (d : zh) : (UM m d).1.length = m.length ∧ (UM m d).2.Kind = d.Kind ∧ (UM m d).2.Base = d.Base ∧ (UM m d).2.Cap = d.Cap := by
  unfold UM sw st
  split
  · exact ⟨rfl, rfl, rfl, rfl⟩
  split
  · exact ⟨rfl, rfl, rfl, rfl⟩
  split
  · exact ⟨rfl, rfl, rfl, rfl⟩
  split
  · exact ⟨rfl, rfl, rfl, rfl⟩
  · refine ⟨?_, ?_, ?_, ?_⟩ <;> dsimp only <;> split <;> (try split) <;> simp
end
end Go.Pe.G
namespace Go.Pe.G
open Go.Pe
noncomputable section
def yY (h : zu) (o : Int) : List Int := h.Objs.getD (o - 1).toNat []
def UL (h : zu) (o s : Int) : Bool := decide (1 ≤ o) && decide (o ≤ (h.Objs.length : Int)) && decide (0 ≤ s) && decide (s < ((yY h o).length : Int))
def zbn (h : zu) (o s : Int) : Int := if UL h o s then (yY h o).getD s.toNat 0 else 0
def znp (s : BitVec 64) (o : Int) : Bool := !(decide (s &&& bit o = 0#64))
def zg9 (t : zp) (o : Int) : Int := if znp (t.Marks &&& t.Black) o then 2 else if znp t.Marks o then 1 else 0
def zmD (t : zp) (o : Int) : zp := if zg9 t o = 1 then { t with Black := t.Black ||| bit o } else t
def zjG (l : zl) (who : Int) : zl :=
  if 1 ≤ who ∧ who ≤ (l.Bal.length : Int) then { l with Scanned := wc (l.Scanned + 1), Bal := l.Bal.set (who - 1).toNat (wc (l.Bal.getD (who - 1).toNat 0 + 1)) }
  else { l with Scanned := wc (l.Scanned + 1), Pool := wc (l.Pool + 1) }
def zo1 (s : zc) (b : Int) : List Int := s.Bins.getD b.toNat []
def ztT (p : zd) (h x : Int) : zw := ⟨2, 0, h, yy p, 0#64, x, 0, 0⟩
def zsk (p : zd) (h x : Int) : zw := ⟨1, 0, h, yy p, 0#64, x, 0, 0⟩
def onW (s : zc) (slot : Int) : Int := if slot = s.H.Slots then 8 else 5
def zpP (p : zd) (w : Int) (x : zj) : zj := { x with PC := 0, Victim := w, D := ⟨2, 0, uX p w, p.Cap, 0#64, 0#64, 0, 0⟩ }
def zjQ (n v : Int) : Int := if v < n then v + 1 else 1
def zl8 (p : zd) (w : Int) (x : zj) : zj :=
  if zjQ p.Workers x.Victim = w then { x with PC := 2, Victim := w, C := ztT p (wv p) 0 }
  else { x with PC := 1, Victim := zjQ p.Workers x.Victim, D := ⟨3, 0, uX p (zjQ p.Workers x.Victim), p.Cap, 0#64, 0#64, 0, 0⟩ }
def yP (s : zc) (w : Int) (x : zj) : zc × zj :=
  if x.PC = 0 ∨ x.PC = 1 then
    ({ s with M := (vc s.M x.D).1 },
      if (vc s.M x.D).2.Out = 1 then { x with D := (vc s.M x.D).2, Victim := w, PC := 5, Obj := (vc s.M x.D).2.X, Slot := 0 }
      else if (vc s.M x.D).2.Out = 2 ∨ (vc s.M x.D).2.Out = 4 then zl8 s.P w { x with D := (vc s.M x.D).2 } else { x with D := (vc s.M x.D).2 })
  else if x.PC = 2 then
    ({ s with M := (zJ s.M x.C).1 },
      if (zJ s.M x.C).2.Out = 1 then { x with C := (zJ s.M x.C).2, Bin := (zJ s.M x.C).2.X, PC := 3 }
      else if (zJ s.M x.C).2.Out = 2 then zpP s.P w { x with C := (zJ s.M x.C).2 } else { x with C := (zJ s.M x.C).2 })
  else if x.PC = 3 then ({ s with Bins := s.Bins.set x.Bin.toNat [] }, { x with Batch := zo1 s x.Bin, PC := 4, C := zsk s.P (yy s.P) x.Bin })
  else if x.PC = 4 then
    ({ s with M := (zJ s.M x.C).1 }, if (zJ s.M x.C).2.Out = 1 then { x with C := (zJ s.M x.C).2, Bin := 0, PC := 7 } else { x with C := (zJ s.M x.C).2 })
  else if x.PC = 5 then
    (s, if zbn s.H x.Obj x.Slot = 0 then { x with Slot := wc (x.Slot + 1), PC := onW s (wc (x.Slot + 1)) } else { x with Slot := wc (x.Slot + 1), PC := 6, G := zlv 1 (zbn s.H x.Obj x.Slot) w })
  else if x.PC = 6 then ((z3 s x.G).1, if (z3 s x.G).2.Out = 1 then { x with G := (z3 s x.G).2, PC := onW s x.Slot } else { x with G := (z3 s x.G).2 })
  else if x.PC = 7 then (s, match x.Batch with | [] => zpP s.P w x | o :: l => { x with Batch := l, PC := 5, Obj := o, Slot := 0 })
  else if x.PC = 8 then ({ s with T := zmD s.T x.Obj, L := zjG s.L 0 }, { x with PC := 9 })
  else if x.PC = 9 then ({ s with Work := wc (s.Work - 1) }, { x with Obj := 0, PC := 7 })
  else (s, x)
def zl3 (s : zc) (w : Int) : zc :=
  if s.Done = true ∨ w < 1 ∨ (s.Ws.length : Int) < w then s
  else match s.Ws[(w - 1).toNat]? with
    | some x => { (yP s w x).1 with Ws := s.Ws.set (w - 1).toNat (yP s w x).2 }
    | none => s
structure zr7 (p : zd) (nb : Nat) (hd : Int) (c : zw) : Prop where
  k : c.Kind = 2
  h : c.Head = hd
  n : c.Next = yy p
  v : 1 ≤ c.PC → 1 ≤ yz c.H ∧ yz c.H < nb
  y : 2 ≤ c.PC → 0 ≤ c.Y ∧ c.Y < nb
  o : c.Out ≠ 1
structure zpT (p : zd) (nb : Nat) (hd : Int) (c : zw) : Prop where
  k : c.Kind = 1
  h : c.Head = hd
  n : c.Next = yy p
  x : 1 ≤ c.X ∧ c.X < nb
  v : 1 ≤ c.PC → yz c.H < nb
theorem zrd {p : zd} {nb : Nat} {hd x : Int} : zr7 p nb hd (ztT p hd x) :=
  ⟨rfl, rfl, rfl, fun e => absurd e (by show ¬ (1 : Int) ≤ 0; decide), fun e => absurd e (by show ¬ (2 : Int) ≤ 0; decide), by show (0 : Int) ≠ 1; decide⟩
theorem zpN {p : zd} {nb : Nat} {hd x : Int} (h : 1 ≤ x ∧ x < nb) : zpT p nb hd (zsk p hd x) :=
  ⟨rfl, rfl, rfl, h, fun e => absurd e (by show ¬ (1 : Int) ≤ 0; decide)⟩
structure WOk (p : zd) (nb : Nat) (w : Int) (x : zj) : Prop where
  pc : 0 ≤ x.PC ∧ x.PC ≤ 9
  vic : 1 ≤ x.Victim ∧ x.Victim ≤ p.Workers
  d0 : x.PC = 0 → x.D.Kind = 2 ∧ x.D.Base = uX p w ∧ x.D.Cap = p.Cap
  d1 : x.PC = 1 → x.D.Kind = 3 ∧ x.D.Base = uX p x.Victim ∧ x.D.Cap = p.Cap
  c2 : x.PC = 2 → zr7 p nb (wv p) x.C
  b3 : x.PC = 3 → 1 ≤ x.Bin ∧ x.Bin < nb
  c4 : x.PC = 4 → zpT p nb (yy p) x.C
  g6 : x.PC = 6 → MOk p nb x.G ∧ (x.G.PC = 5 → x.G.C.Out ≠ 1) ∧ x.G.Mode = 1 ∧ x.G.PC ≠ 4
theorem WOk.plain {p : zd} {nb : Nat} {w : Int} {x : zj} (pc : x.PC = 5 ∨ x.PC = 7 ∨ x.PC = 8 ∨ x.PC = 9) (vic : 1 ≤ x.Victim ∧ x.Victim ≤ p.Workers) : WOk p nb w x :=
  ⟨by omega, vic, fun e => by omega, fun e => by omega, fun e => by omega, fun e => by omega, fun e => by omega, fun e => by omega⟩
theorem SOk.swLow {p : zd} {nb : Nat} {s : zc} (h : zS p) (S : SOk p nb s) {a : Int} (ha : a < wv p) (x v : BitVec 64) : SOk p nb { s with M := (sw s.M a x v).1 } := by
  unfold sw
  split
  · exact S.low h ha v
  · exact S
theorem zv9 {p : zd} {nb : Nat} {s : zc} (h : zS p) (S : SOk p nb s) {d : zh} {v : Int} (hv : 1 ≤ v ∧ v ≤ p.Workers) (hk : d.Kind = 2 ∨ d.Kind = 3) (hb : d.Base = uX p v) : SOk p nb { s with M := (vc s.M d).1 } := by
  have hd := zkH h hv.1 hv.2
  have hc := h.cap
  have hf := UO h
  have e1 : wc (d.Base + 1) = d.Base + 1 := Y5 (by omega) (by omega)
  unfold vc
  split
  · exact S
  split
  · omega
  split
  · unfold zf6
    rw [e1]
    split
    · exact S
    split
    · exact S
    split
    · exact S.low h (by omega) _
    split
    · exact S
    split
    · exact S
    split
    · exact S.swLow h (by omega) _ _
    split <;> exact S.low h (by omega) _
  split
  · unfold UM
    split
    · exact S
    split
    · exact S
    split
    · exact S
    split
    · exact S
    · exact S.swLow h (by omega) _ _
  · exact S
theorem zkg (m : List (BitVec 64)) (d : zh) : (vc m d).1.length = m.length ∧ (vc m d).2.Kind = d.Kind ∧ (vc m d).2.Base = d.Base ∧ (vc m d).2.Cap = d.Cap := by
  unfold vc
  split
  · exact ⟨rfl, rfl, rfl, rfl⟩
  split
  · unfold uc
    split
    · exact ⟨rfl, rfl, rfl, rfl⟩
    split
    · exact ⟨rfl, rfl, rfl, rfl⟩
    split
    · refine ⟨rfl, ?_, ?_, ?_⟩ <;> dsimp only <;> split <;> rfl
    split <;> exact ⟨XY _ _ _, rfl, rfl, rfl⟩
  split
  · exact zrQ m d
  split
  · exact zqo m d
  · exact ⟨rfl, rfl, rfl, rfl⟩
theorem zun {n v : Int} (h : 1 ≤ v ∧ v ≤ n) : 1 ≤ zjQ n v ∧ zjQ n v ≤ n := by unfold zjQ; split <;> omega
theorem WOk.look {p : zd} {nb : Nat} {w : Int} {x : zj} (hw : 1 ≤ w ∧ w ≤ p.Workers) (vic : 1 ≤ x.Victim ∧ x.Victim ≤ p.Workers) : WOk p nb w (zl8 p w x) := by
  have hn := zun vic
  unfold zl8
  split
  · exact ⟨⟨(by show (0 : Int) ≤ 2; decide), (by show (2 : Int) ≤ 9; decide)⟩, hw, fun e => (by cases e), fun e => (by cases e), fun _ => zrd, fun e => (by cases e), fun e => (by cases e), fun e => (by cases e)⟩
  · exact ⟨⟨(by show (0 : Int) ≤ 1; decide), (by show (1 : Int) ≤ 9; decide)⟩, hn, fun e => (by cases e), fun _ => ⟨rfl, rfl, rfl⟩, fun e => (by cases e), fun e => (by cases e), fun e => (by cases e), fun e => (by cases e)⟩
theorem WOk.begin {p : zd} {nb : Nat} {w : Int} {x : zj} (hw : 1 ≤ w ∧ w ≤ p.Workers) : WOk p nb w (zpP p w x) :=
  ⟨⟨(by show (0 : Int) ≤ 0; decide), (by show (0 : Int) ≤ 9; decide)⟩, hw, fun _ => ⟨rfl, rfl, rfl⟩, fun e => (by cases e), fun e => (by cases e), fun e => (by cases e), fun e => (by cases e), fun e => (by cases e)⟩
theorem zuO (s : zc) {g : zC} (h1 : g.Mode = 1) (h4 : g.PC ≠ 4) : (z3 s g).2.PC ≠ 4 ∧ (z3 s g).1.Flag = s.Flag := by
  have five : (5 : Int) ≠ 4 := by decide
  unfold z3
  split
  · exact ⟨h4, rfl⟩
  split
  · refine ⟨?_, rfl⟩; unfold zeg; dsimp only; split <;> exact h4
  split
  · exact ⟨(by show (7 : Int) ≠ 4; decide), rfl⟩
  split
  · refine ⟨?_, rfl⟩; unfold zjM; dsimp only
    split
    · show (6 : Int) ≠ 4; decide
    split
    · exact five
    · exact h4
  split
  · refine ⟨?_, rfl⟩; unfold zjN; dsimp only
    split
    · exact h4
    split
    · exact five
    · exact h4
  split
  · exact ⟨h4, rfl⟩
  split
  · refine ⟨?_, rfl⟩; unfold zmv; dsimp only
    split
    · show (2 : Int) ≠ 4; decide
    · show (3 : Int) ≠ 4; decide
  · exact ⟨(by show (1 : Int) ≠ 4; decide), rfl⟩
theorem zta (s : zc) (i : Int) : onW s i = 5 ∨ onW s i = 8 := by unfold onW; split <;> simp
theorem SOk.keep {p : zd} {nb : Nat} {s s' : zc} (S : SOk p nb s) (hP : s'.P = s.P) (hM : s'.M = s.M) (hB : s'.Bins.length = s.Bins.length) : SOk p nb s' :=
  ⟨hP.trans S.P, hB.trans S.bins, S.nbk, by rw [hM]; exact S.mem, by rw [hM]; exact S.cF, by rw [hM]; exact S.cE, by rw [hM]; exact S.cL⟩
theorem zu3 {p : zd} {nb : Nat} {s : zc} {w : Int} {x : zj} (h : zS p) (hw : 1 ≤ w ∧ w ≤ p.Workers) (S : SOk p nb s) (W : WOk p nb w x) : SOk p nb (yP s w x).1 ∧ WOk p nb w (yP s w x).2 := by
  have hP := S.P
  unfold yP
  split
  · rename_i h01
    have hv : ∃ v, (1 ≤ v ∧ v ≤ p.Workers) ∧ (x.D.Kind = 2 ∨ x.D.Kind = 3) ∧ x.D.Base = uX p v := by
      rcases h01 with e | e
      · obtain ⟨a, b, c⟩ := W.d0 e; exact ⟨w, hw, .inl a, b⟩
      · obtain ⟨a, b, c⟩ := W.d1 e; exact ⟨x.Victim, W.vic, .inr a, b⟩
    obtain ⟨v, hv1, hv2, hv3⟩ := hv
    refine ⟨zv9 h S hv1 hv2 hv3, ?_⟩
    obtain ⟨l1, l2, l3, l4⟩ := zkg s.M x.D
    dsimp only
    split
    · exact WOk.plain (.inl rfl) hw
    split
    · rw [hP]; exact WOk.look hw W.vic
    · refine ⟨W.pc, W.vic, fun e => ?_, fun e => ?_, fun e => by dsimp only at e; omega, fun e => by dsimp only at e; omega, fun e => by dsimp only at e; omega, fun e => by dsimp only at e; omega⟩
      · obtain ⟨a, b, c⟩ := W.d0 e; exact ⟨l2.trans a, l3.trans b, l4.trans c⟩
      · obtain ⟨a, b, c⟩ := W.d1 e; exact ⟨l2.trans a, l3.trans b, l4.trans c⟩
  split
  · rename_i h2
    have C := W.c2 h2
    obtain ⟨b1, b2, b3, b4, b5, b6⟩ := zpX h S (.inl rfl) C.k C.h C.n C.v C.y C.o
    refine ⟨b1, ?_⟩
    dsimp only
    split
    · rename_i e1
      exact ⟨⟨(by show (0 : Int) ≤ 3; decide), (by show (3 : Int) ≤ 9; decide)⟩, W.vic, fun e => (by cases e), fun e => (by cases e), fun e => (by cases e), fun _ => b6 e1, fun e => (by cases e), fun e => (by cases e)⟩
    split
    · rw [hP]; exact WOk.begin hw
    · rename_i e1 e2
      exact ⟨W.pc, W.vic, fun e => (by dsimp only at e; omega), fun e => (by dsimp only at e; omega), fun _ => ⟨b2, b3, b4, (b5 e1 e2).1, (b5 e1 e2).2, e1⟩, fun e => (by dsimp only at e; omega), fun e => (by dsimp only at e; omega), fun e => (by dsimp only at e; omega)⟩
  split
  · rename_i h3
    have B := W.b3 h3
    refine ⟨S.keep rfl rfl (by simp), ?_⟩
    rw [hP]
    exact ⟨⟨(by show (0 : Int) ≤ 4; decide), (by show (4 : Int) ≤ 9; decide)⟩, W.vic, fun e => (by cases e), fun e => (by cases e), fun e => (by cases e), fun e => (by cases e), fun _ => zpN B, fun e => (by cases e)⟩
  split
  · rename_i h4
    have C := W.c4 h4
    obtain ⟨b1, b2, b3, b4, b5, b6⟩ := zm4 h S (.inr rfl) C.k C.h C.n C.x C.v
    refine ⟨b1, ?_⟩
    dsimp only
    split
    · exact WOk.plain (.inr (.inl rfl)) W.vic
    · exact ⟨W.pc, W.vic, fun e => (by dsimp only at e; omega), fun e => (by dsimp only at e; omega), fun e => (by dsimp only at e; omega), fun e => (by dsimp only at e; omega), fun _ => ⟨b2, b3, b4, b5, b6⟩, fun e => (by dsimp only at e; omega)⟩
  split
  · refine ⟨S, ?_⟩
    dsimp only
    split
    · rcases zta s (wc (x.Slot + 1)) with e | e <;> rw [e]
      · exact WOk.plain (.inl rfl) W.vic
      · exact WOk.plain (.inr (.inr (.inl rfl))) W.vic
    · exact ⟨⟨(by show (0 : Int) ≤ 6; decide), (by show (6 : Int) ≤ 9; decide)⟩, W.vic, fun e => (by cases e), fun e => (by cases e), fun e => (by cases e), fun e => (by cases e), fun e => (by cases e), fun _ =>
        ⟨⟨fun _ => hw, fun e => (by cases e), fun e => (by cases e), fun e => (by cases e), fun e => (by cases e)⟩, fun e => (by cases e), rfl, by show (0 : Int) ≠ 4; decide⟩⟩
  split
  · rename_i h6
    obtain ⟨g1, g2, g3, g4⟩ := W.g6 h6
    obtain ⟨r1, r2, r3⟩ := znM h S g1 g2
    refine ⟨r1, ?_⟩
    dsimp only
    split
    · rcases zta s x.Slot with e | e <;> rw [e]
      · exact WOk.plain (.inl rfl) W.vic
      · exact WOk.plain (.inr (.inr (.inl rfl))) W.vic
    · exact ⟨W.pc, W.vic, fun e => (by dsimp only at e; omega), fun e => (by dsimp only at e; omega), fun e => (by dsimp only at e; omega), fun e => (by dsimp only at e; omega), fun e => (by dsimp only at e; omega), fun _ => ⟨r2, r3, (zli s x.G).2.2.trans g3, (zuO s g3 g4).1⟩⟩
  split
  · refine ⟨S, ?_⟩
    dsimp only
    split
    · rw [hP]; exact WOk.begin hw
    · exact WOk.plain (.inl rfl) W.vic
  split
  · exact ⟨S.keep rfl rfl rfl, WOk.plain (.inr (.inr (.inr rfl))) W.vic⟩
  split
  · exact ⟨S.keep rfl rfl rfl, WOk.plain (.inr (.inl rfl)) W.vic⟩
  · have := W.pc
    omega
end
end Go.Pe.G
namespace Go.Pe.G
open Go.Pe
noncomputable section
def znf (h : zu) (o s v : Int) : zu :=
  if UL h o s = true ∧ 0 ≤ v ∧ v ≤ (h.Objs.length : Int) then { h with Objs := h.Objs.set (o - 1).toNat ((yY h o).set s.toNat v) } else h
def zr6 (h : zu) (most : Int) : Bool := decide ((h.Objs.length : Int) < most) && decide ((h.Objs.length : Int) < 64)
def zpL (h : zu) : zu := { h with Objs := h.Objs ++ [List.replicate h.Slots.toNat 0] }
def zvB (t : zp) (o : Int) : zp := if (zfI t o).2 = true then zmD (zfI t o).1 o else t
def zo3 (l : zl) (who : Int) : Int := l.Bal.getD (who - 1).toNat 0
def zsL (l : zl) (who : Int) : Bool := decide (1 ≤ who) && decide (who ≤ (l.Bal.length : Int))
def zq8 (l : zl) (who price limit : Int) : Bool := zsL l who && decide (0 ≤ price) && decide (0 ≤ limit) && decide (price ≤ 1000000) && decide (limit ≤ 1000000)
def zvi (l : zl) (who price limit : Int) : Bool := zq8 l who price limit && decide (wc (-limit) ≤ wc (zo3 l who - price))
def zpV (l : zl) (who price : Int) : zl := { l with Spent := wc (l.Spent + price), Bal := l.Bal.set (who - 1).toNat (wc (zo3 l who - price)) }
def zsV (l : zl) (who price limit : Int) : Int := if zq8 l who price limit then (if zvi l who price limit then 0 else wc (wc (price - limit) - zo3 l who)) else -1
def zr3 (a b : Int) : Int := if b < a then b else a
def zoX (l : zl) (who want : Int) : zl × Int :=
  if zsL l who = true ∧ 0 < zr3 want l.Pool then ({ l with Pool := wc (l.Pool - zr3 want l.Pool), Bal := l.Bal.set (who - 1).toNat (wc (zo3 l who + zr3 want l.Pool)) }, zr3 want l.Pool) else (l, 0)
def xD (p : zd) (m : Int) : List zg := p.Progs.getD (m - 1).toNat []
def opM (p : zd) (m : Int) (x : zb) : zg := (xD p m).getD x.IP.toNat ⟨0, 0, 0, 0⟩
def zkM (x : zb) (r : Int) : Int := x.Regs.getD r.toNat 0
def zo6 (x : zb) : zb := { x with PC := 0, IP := wc (x.IP + 1) }
def setM (x : zb) (r v : Int) : zb := { x with PC := 0, IP := wc (x.IP + 1), Regs := x.Regs.set r.toNat v }
def onM (s : zc) (slot : Int) : Int := if slot = s.H.Slots then 38 else 36
def zoV (s : zc) (m : Int) (x : zb) : Int := zbn s.H (zkM x (opM s.P m x).A) (opM s.P m x).S
def zhk (s : zc) (m : Int) (x : zb) : zb :=
  if s.Acks.getD (m - 1).toNat 0 < s.Epoch then { x with PC := 1, Ret := 2, Want := s.Epoch }
  else if ((xD s.P m).length : Int) ≤ x.IP then x
  else if (opM s.P m x).Kind = 1 then { x with PC := 10 }
  else if (opM s.P m x).Kind = 2 then { x with PC := 20 }
  else if (opM s.P m x).Kind = 3 then { x with PC := 30 }
  else if (opM s.P m x).Kind = 4 then setM x (opM s.P m x).R (zkM x (opM s.P m x).A)
  else setM x (opM s.P m x).R 0
def mu0 (s : zc) (m : Int) (x : zb) : zc × zb :=
  (s, zhk s m x)
def mu1 (s : zc) (m : Int) (x : zb) : zc × zb :=
  (s, if x.Buf.length = 0 then { x with PC := x.Ret } else { x with PC := 3, Buf := x.Buf.take (x.Buf.length - 1), G := zlv 2 (x.Buf.getD (x.Buf.length - 1) 0) m })
def mu2 (s : zc) (m : Int) (x : zb) : zc × zb :=
  ({ s with Acks := s.Acks.set (m - 1).toNat x.Want }, { x with PC := 0 })
def mu3 (s : zc) (m : Int) (x : zb) : zc × zb :=
  ((z3 s x.G).1, if (z3 s x.G).2.Out = 1 then { x with PC := 1, G := (z3 s x.G).2 } else { x with G := (z3 s x.G).2 })
def znP (s : zc) (m : Int) (x : zb) : zc × zb :=
  (s, setM x (opM s.P m x).R (zoV s m x))
def znm (s : zc) (m : Int) (x : zb) : zc × zb :=
  (s, if zkM x (opM s.P m x).A = 0 then zo6 x else { x with PC := 21, Old := zoV s m x })
def zne (s : zc) (m : Int) (x : zb) : zc × zb :=
  (s, if x.Old = 0 ∨ zg9 s.T x.Old ≠ 0 then { x with PC := 23, Old := 0 } else { x with PC := 22 })
def znH (s : zc) (m : Int) (x : zb) : zc × zb :=
  (s, if s.P.Buf ≤ (x.Buf.length : Int) then { x with PC := 1, Ret := 22 } else { x with PC := 23, Old := 0, Buf := x.Buf ++ [x.Old] })
def znd (s : zc) (m : Int) (x : zb) : zc × zb :=
  ({ s with H := znf s.H (zkM x (opM s.P m x).A) (opM s.P m x).S (zkM x (opM s.P m x).R) }, zo6 x)
def znC (s : zc) (m : Int) (x : zb) : zc × zb :=
     if zvi s.L m s.P.Price s.P.Limit = true then
      if zr6 s.H s.P.Most = true then ({ s with L := zpV s.L m s.P.Price, H := zpL s.H, T := zvB s.T (wc (s.H.Objs.length + 1)) }, setM x (opM s.P m x).R (wc (s.H.Objs.length + 1)))
      else (s, zo6 x)
    else (s, { x with PC := 31 })
def znK (s : zc) (m : Int) (x : zb) : zc × zb :=
     ({ s with L := (zoX s.L m (zsV s.L m s.P.Price s.P.Limit)).1 }, if (zoX s.L m (zsV s.L m s.P.Price s.P.Limit)).2 = 0 then { x with PC := 32, C := ztT s.P (wv s.P) x.Bin } else { x with PC := 0 })
def znI (s : zc) (m : Int) (x : zb) : zc × zb :=
     ({ s with M := (zJ s.M x.C).1 }, if (zJ s.M x.C).2.Out = 1 then { x with PC := 33, Bin := (zJ s.M x.C).2.X, C := (zJ s.M x.C).2 }
      else if (zJ s.M x.C).2.Out = 2 then { x with PC := 0, C := (zJ s.M x.C).2 } else { x with C := (zJ s.M x.C).2 })
def zm0 (s : zc) (m : Int) (x : zb) : zc × zb :=
  ({ s with Bins := s.Bins.set x.Bin.toNat [] }, { x with Batch := zo1 s x.Bin, PC := 34, C := zsk s.P (yy s.P) x.Bin })
def znv (s : zc) (m : Int) (x : zb) : zc × zb :=
     ({ s with M := (zJ s.M x.C).1 }, if (zJ s.M x.C).2.Out = 1 then { x with C := (zJ s.M x.C).2, Bin := 0, PC := 35 } else { x with C := (zJ s.M x.C).2 })
def znb (s : zc) (m : Int) (x : zb) : zc × zb :=
  (s, match x.Batch with | [] => { x with PC := 0 } | o :: l => { x with PC := 36, Obj := o, Slot := 0, Batch := l })
def zmR (s : zc) (m : Int) (x : zb) : zc × zb :=
     (s, if zbn s.H x.Obj x.Slot = 0 then { x with Slot := wc (x.Slot + 1), PC := onM s (wc (x.Slot + 1)) } else { x with Slot := wc (x.Slot + 1), PC := 37, G := zlv 3 (zbn s.H x.Obj x.Slot) m })
def zm3 (s : zc) (m : Int) (x : zb) : zc × zb :=
  ((z3 s x.G).1, if (z3 s x.G).2.Out = 1 then { x with G := (z3 s x.G).2, PC := onM s x.Slot } else { x with G := (z3 s x.G).2 })
def zmM (s : zc) (m : Int) (x : zb) : zc × zb :=
  ({ s with T := zmD s.T x.Obj, L := zjG s.L m }, { x with PC := 39 })
def znj (s : zc) (m : Int) (x : zb) : zc × zb :=
  ({ s with Work := wc (s.Work - 1) }, { x with Obj := 0, PC := 35 })
def xm (s : zc) (m : Int) (x : zb) : zc × zb :=
  if x.PC = 0 then mu0 s m x
  else if x.PC = 1 then mu1 s m x
  else if x.PC = 2 then mu2 s m x
  else if x.PC = 3 then mu3 s m x
  else if x.PC = 10 then znP s m x
  else if x.PC = 20 then znm s m x
  else if x.PC = 21 then zne s m x
  else if x.PC = 22 then znH s m x
  else if x.PC = 23 then znd s m x
  else if x.PC = 30 then znC s m x
  else if x.PC = 31 then znK s m x
  else if x.PC = 32 then znI s m x
  else if x.PC = 33 then zm0 s m x
  else if x.PC = 34 then znv s m x
  else if x.PC = 35 then znb s m x
  else if x.PC = 36 then zmR s m x
  else if x.PC = 37 then zm3 s m x
  else if x.PC = 38 then zmM s m x
  else if x.PC = 39 then znj s m x
  else (s, x)
def vp (s : zc) (m : Int) : zc :=
  if s.Done = true ∨ m < 1 ∨ (s.Ms.length : Int) < m then s
  else match s.Ms[(m - 1).toNat]? with
    | some x => { (xm s m x).1 with Ms := s.Ms.set (m - 1).toNat (xm s m x).2 }
    | none => s
def zbQ (p : zd) (m : Int) : Nat := (p.Regs.getD (m - 1).toNat []).length
structure XOk (p : zd) (nb : Nat) (m : Int) (x : zb) : Prop where
  pc : (0 ≤ x.PC ∧ x.PC ≤ 3) ∨ x.PC = 10 ∨ (20 ≤ x.PC ∧ x.PC ≤ 23) ∨ (30 ≤ x.PC ∧ x.PC ≤ 39)
  regs : x.Regs.length = zbQ p m
  ip : 0 ≤ x.IP ∧ x.IP ≤ ((xD p m).length : Int)
  op : (10 ≤ x.PC ∧ x.PC ≤ 30) ∨ ((x.PC = 1 ∨ x.PC = 3) ∧ x.Ret = 22) → x.IP < ((xD p m).length : Int)
  ret : x.PC = 1 ∨ x.PC = 3 → x.Ret = 2 ∨ x.Ret = 22
  c32 : x.PC = 32 → zr7 p nb (wv p) x.C
  b33 : x.PC = 33 → 1 ≤ x.Bin ∧ x.Bin < nb
  c34 : x.PC = 34 → zpT p nb (yy p) x.C
  bin : x.PC ≠ 33 → x.PC ≠ 34 → x.Bin = 0
  g : x.PC = 3 ∨ x.PC = 37 → MOk p nb x.G ∧ (x.G.PC = 5 → x.G.C.Out ≠ 1) ∧ x.G.Mode ≠ 1
  buf : (x.Buf.length : Int) ≤ p.Buf
theorem XOk.move {p : zd} {nb : Nat} {m : Int} {x y : zb} (X : XOk p nb m x) (h : x.PC ≠ 33 ∧ x.PC ≠ 34) (pc : y.PC = 0 ∨ y.PC = 2 ∨ y.PC = 10 ∨ (20 ≤ y.PC ∧ y.PC ≤ 23) ∨ y.PC = 30 ∨ y.PC = 31 ∨ y.PC = 35 ∨ y.PC = 36 ∨ y.PC = 38 ∨ y.PC = 39)
    (regs : y.Regs.length = x.Regs.length) (bin : y.Bin = x.Bin) (buf : (y.Buf.length : Int) ≤ p.Buf) (ip : 0 ≤ y.IP ∧ y.IP ≤ ((xD p m).length : Int)) (op : 10 ≤ y.PC ∧ y.PC ≤ 30 → y.IP < ((xD p m).length : Int)) : XOk p nb m y :=
  ⟨by omega, regs.trans X.regs, ip, fun e => op (by omega), fun e => by omega, fun e => by omega, fun e => by omega, fun e => by omega, fun _ _ => bin.trans (X.bin h.1 h.2), fun e => by omega, buf⟩
theorem zsD (s : zc) (i : Int) : onM s i = 36 ∨ onM s i = 38 := by unfold onM; split <;> simp
theorem XOk.next {p : zd} {nb : Nat} {m : Int} {x : zb} (hp : ((xD p m).length : Int) ≤ 64) (X : XOk p nb m x) (h : x.PC ≠ 33 ∧ x.PC ≠ 34) (hi : x.IP < ((xD p m).length : Int)) : XOk p nb m (zo6 x) := by
  have := X.ip
  have e : wc (x.IP + 1) = x.IP + 1 := Y5 (by omega) (by omega)
  refine X.move h (.inl rfl) rfl rfl X.buf ?_ (fun h => absurd h (by show ¬ ((10 : Int) ≤ 0 ∧ (0 : Int) ≤ 30); decide))
  show 0 ≤ wc (x.IP + 1) ∧ wc (x.IP + 1) ≤ _
  rw [e]; omega
theorem XOk.set {p : zd} {nb : Nat} {m : Int} {x : zb} (hp : ((xD p m).length : Int) ≤ 64) (X : XOk p nb m x) (h : x.PC ≠ 33 ∧ x.PC ≠ 34) (hi : x.IP < ((xD p m).length : Int)) (r v : Int) : XOk p nb m (setM x r v) := by
  have := X.ip
  have e : wc (x.IP + 1) = x.IP + 1 := Y5 (by omega) (by omega)
  refine X.move h (.inl rfl) (by simp [setM]) rfl X.buf ?_ (fun h => absurd h (by show ¬ ((10 : Int) ≤ 0 ∧ (0 : Int) ≤ 30); decide))
  show 0 ≤ wc (x.IP + 1) ∧ wc (x.IP + 1) ≤ _
  rw [e]; omega
theorem V4 {motive : zc × zb → Prop} (s : zc) (m : Int) (x : zb) (h0 : x.PC = 0 → motive (mu0 s m x)) (h1 : x.PC = 1 → motive (mu1 s m x)) (h2 : x.PC = 2 → motive (mu2 s m x)) (h3 : x.PC = 3 → motive (mu3 s m x)) (h10 : x.PC = 10 → motive (znP s m x)) (h20 : x.PC = 20 → motive (znm s m x)) (h21 : x.PC = 21 → motive (zne s m x)) (h22 : x.PC = 22 → motive (znH s m x)) (h23 : x.PC = 23 → motive (znd s m x)) (h30 : x.PC = 30 → motive (znC s m x)) (h31 : x.PC = 31 → motive (znK s m x)) (h32 : x.PC = 32 → motive (znI s m x)) (h33 : x.PC = 33 → motive (zm0 s m x)) (h34 : x.PC = 34 → motive (znv s m x)) (h35 : x.PC = 35 → motive (znb s m x)) (h36 : x.PC = 36 → motive (zmR s m x)) (h37 : x.PC = 37 → motive (zm3 s m x)) (h38 : x.PC = 38 → motive (zmM s m x)) (h39 : x.PC = 39 → motive (znj s m x)) (hn : motive (s, x)) : motive (xm s m x) := by
  unfold xm
  by_cases c0 : x.PC = 0
  · rw [if_pos c0]; exact h0 c0
  rw [if_neg c0]
  by_cases c1 : x.PC = 1
  · rw [if_pos c1]; exact h1 c1
  rw [if_neg c1]
  by_cases c2 : x.PC = 2
  · rw [if_pos c2]; exact h2 c2
  rw [if_neg c2]
  by_cases c3 : x.PC = 3
  · rw [if_pos c3]; exact h3 c3
  rw [if_neg c3]
  by_cases c10 : x.PC = 10
  · rw [if_pos c10]; exact h10 c10
  rw [if_neg c10]
  by_cases c20 : x.PC = 20
  · rw [if_pos c20]; exact h20 c20
  rw [if_neg c20]
  by_cases c21 : x.PC = 21
  · rw [if_pos c21]; exact h21 c21
  rw [if_neg c21]
  by_cases c22 : x.PC = 22
  · rw [if_pos c22]; exact h22 c22
  rw [if_neg c22]
  by_cases c23 : x.PC = 23
  · rw [if_pos c23]; exact h23 c23
  rw [if_neg c23]
  by_cases c30 : x.PC = 30
  · rw [if_pos c30]; exact h30 c30
  rw [if_neg c30]
  by_cases c31 : x.PC = 31
  · rw [if_pos c31]; exact h31 c31
  rw [if_neg c31]
  by_cases c32 : x.PC = 32
  · rw [if_pos c32]; exact h32 c32
  rw [if_neg c32]
  by_cases c33 : x.PC = 33
  · rw [if_pos c33]; exact h33 c33
  rw [if_neg c33]
  by_cases c34 : x.PC = 34
  · rw [if_pos c34]; exact h34 c34
  rw [if_neg c34]
  by_cases c35 : x.PC = 35
  · rw [if_pos c35]; exact h35 c35
  rw [if_neg c35]
  by_cases c36 : x.PC = 36
  · rw [if_pos c36]; exact h36 c36
  rw [if_neg c36]
  by_cases c37 : x.PC = 37
  · rw [if_pos c37]; exact h37 c37
  rw [if_neg c37]
  by_cases c38 : x.PC = 38
  · rw [if_pos c38]; exact h38 c38
  rw [if_neg c38]
  by_cases c39 : x.PC = 39
  · rw [if_pos c39]; exact h39 c39
  rw [if_neg c39]
  exact hn
theorem zvg {p : zd} {nb : Nat} {s : zc} {m : Int} {x : zb} (h : zS p) (hp : ((xD p m).length : Int) ≤ 64) (S : SOk p nb s) (X : XOk p nb m x) : SOk p nb (xm s m x).1 ∧ XOk p nb m (xm s m x).2 := by
  have hP := S.P
  have hip := X.ip
  have hbuf := X.buf
  have hb := h.buf
  have nop : ∀ y : Int, 31 ≤ y → ¬ (10 ≤ y ∧ y ≤ 30) := fun y h e => by omega
  refine V4 (motive := fun r => SOk p nb r.1 ∧ XOk p nb m r.2) s m x ?_ ?_ ?_ ?_ ?_ ?_ ?_ ?_ ?_ ?_ ?_ ?_ ?_ ?_ ?_ ?_ ?_ ?_ ?_ ?_
  · intro c
    unfold mu0
    refine ⟨S, ?_⟩
    unfold zhk
    rw [hP]
    split
    · exact ⟨.inl ⟨(by show (0 : Int) ≤ 1; decide), (by show (1 : Int) ≤ 3; decide)⟩, X.regs, X.ip, fun e => by dsimp only at e; omega, fun _ => .inl rfl, fun e => (by cases e), fun e => (by cases e), fun e => (by cases e), fun _ _ => X.bin (by omega) (by omega), fun e => by dsimp only at e; omega, X.buf⟩
    split
    · exact X
    rename_i hlt
    have hlt : x.IP < ((xD p m).length : Int) := by omega
    split
    · exact X.move (by omega) (.inr (.inr (.inl rfl))) rfl rfl X.buf X.ip (fun _ => hlt)
    split
    · exact X.move (by omega) (.inr (.inr (.inr (.inl ⟨by show (20 : Int) ≤ 20; decide, by show (20 : Int) ≤ 23; decide⟩)))) rfl rfl X.buf X.ip (fun _ => hlt)
    split
    · exact X.move (by omega) (.inr (.inr (.inr (.inr (.inl rfl))))) rfl rfl X.buf X.ip (fun _ => hlt)
    split
    · exact X.set hp (by omega) hlt _ _
    · exact X.set hp (by omega) hlt _ _
  · intro c
    unfold mu1
    refine ⟨S, ?_⟩
    split
    · rcases X.ret (.inl c) with e | e
      · exact X.move (by omega) (.inr (.inl e)) rfl rfl X.buf X.ip (fun e2 => by dsimp only at e2; omega)
      · exact X.move (by omega) (.inr (.inr (.inr (.inl (by dsimp only; omega))))) rfl rfl X.buf X.ip (fun e2 => X.op (.inr ⟨.inl c, e⟩))
    · exact ⟨.inl ⟨(by show (0 : Int) ≤ 3; decide), (by show (3 : Int) ≤ 3; decide)⟩, X.regs, X.ip, fun e => X.op (.inr ⟨.inl c, by dsimp only at e; omega⟩), fun _ => X.ret (.inl c), fun e => (by cases e), fun e => (by cases e), fun e => (by cases e), fun _ _ => X.bin (by omega) (by omega),
        fun _ => ⟨⟨fun e => absurd e (by show ¬ (2 : Int) = 1; decide), fun e => (by cases e), fun e => (by cases e), fun e => (by cases e), fun e => (by cases e)⟩, fun e => (by cases e), by show (2 : Int) ≠ 1; decide⟩, by dsimp only; rw [List.length_take]; omega⟩
  · intro c
    unfold mu2
    exact ⟨S.keep rfl rfl rfl, X.move (by omega) (.inl rfl) rfl rfl X.buf X.ip (fun e => absurd e (by show ¬ ((10 : Int) ≤ 0 ∧ (0 : Int) ≤ 30); decide))⟩
  · intro c
    unfold mu3
    obtain ⟨g1, g2, g3⟩ := X.g (.inl c)
    obtain ⟨r1, r2, r3⟩ := znM h S g1 g2
    refine ⟨r1, ?_⟩
    dsimp only
    split
    · exact ⟨.inl ⟨(by show (0 : Int) ≤ 1; decide), (by show (1 : Int) ≤ 3; decide)⟩, X.regs, X.ip, fun e => X.op (.inr ⟨.inr c, by dsimp only at e; omega⟩), fun _ => X.ret (.inr c), fun e => (by cases e), fun e => (by cases e), fun e => (by cases e), fun _ _ => X.bin (by omega) (by omega), fun e => by dsimp only at e; omega, X.buf⟩
    · exact ⟨X.pc, X.regs, X.ip, X.op, X.ret, fun e => by dsimp only at e; omega, fun e => by dsimp only at e; omega, fun e => by dsimp only at e; omega, X.bin, fun _ => ⟨r2, r3, by rw [(zli s x.G).2.2]; exact g3⟩, X.buf⟩
  · intro c
    unfold znP
    exact ⟨S, X.set hp (by omega) (X.op (.inl (by omega))) _ _⟩
  · intro c
    unfold znm
    refine ⟨S, ?_⟩
    split
    · exact X.next hp (by omega) (X.op (.inl (by omega)))
    · exact X.move (by omega) (.inr (.inr (.inr (.inl ⟨by show (20 : Int) ≤ 21; decide, by show (21 : Int) ≤ 23; decide⟩)))) rfl rfl X.buf X.ip (fun _ => X.op (.inl (by omega)))
  · intro c
    unfold zne
    refine ⟨S, ?_⟩
    split
    · exact X.move (by omega) (.inr (.inr (.inr (.inl ⟨by show (20 : Int) ≤ 23; decide, by show (23 : Int) ≤ 23; decide⟩)))) rfl rfl X.buf X.ip (fun _ => X.op (.inl (by omega)))
    · exact X.move (by omega) (.inr (.inr (.inr (.inl ⟨by show (20 : Int) ≤ 22; decide, by show (22 : Int) ≤ 23; decide⟩)))) rfl rfl X.buf X.ip (fun _ => X.op (.inl (by omega)))
  · intro c
    unfold znH
    have hi := X.op (.inl (by omega))
    refine ⟨S, ?_⟩
    rw [hP]
    split
    · exact ⟨.inl ⟨(by show (0 : Int) ≤ 1; decide), (by show (1 : Int) ≤ 3; decide)⟩, X.regs, X.ip, fun e => hi, fun _ => .inr rfl, fun e => (by cases e), fun e => (by cases e), fun e => (by cases e), fun _ _ => X.bin (by omega) (by omega), fun e => by dsimp only at e; omega, X.buf⟩
    · exact X.move (by omega) (.inr (.inr (.inr (.inl ⟨by show (20 : Int) ≤ 23; decide, by show (23 : Int) ≤ 23; decide⟩)))) rfl rfl (by simp; omega) X.ip (fun _ => hi)
  · intro c
    unfold znd
    exact ⟨S.keep rfl rfl rfl, X.next hp (by omega) (X.op (.inl (by omega)))⟩
  · intro c
    unfold znC
    have hi := X.op (.inl (by omega))
    split
    · split
      · exact ⟨S.keep rfl rfl rfl, X.set hp (by omega) hi _ _⟩
      · exact ⟨S, X.next hp (by omega) hi⟩
    · exact ⟨S, X.move (by omega) (.inr (.inr (.inr (.inr (.inr (.inl rfl)))))) rfl rfl X.buf X.ip (fun e => absurd e (by show ¬ ((10 : Int) ≤ 31 ∧ (31 : Int) ≤ 30); decide))⟩
  · intro c
    unfold znK
    refine ⟨S.keep rfl rfl rfl, ?_⟩
    rw [hP]
    split
    · exact ⟨.inr (.inr (.inr ⟨(by show (30 : Int) ≤ 32; decide), (by show (32 : Int) ≤ 39; decide)⟩)), X.regs, X.ip, fun e => by dsimp only at e; omega, fun e => by dsimp only at e; omega, fun _ => zrd, fun e => (by cases e), fun e => (by cases e), fun _ _ => X.bin (by omega) (by omega), fun e => by dsimp only at e; omega, X.buf⟩
    · exact X.move (by omega) (.inl rfl) rfl rfl X.buf X.ip (fun e => absurd e (by show ¬ ((10 : Int) ≤ 0 ∧ (0 : Int) ≤ 30); decide))
  · intro c
    unfold znI
    have C := X.c32 c
    obtain ⟨b1, b2, b3, b4, b5, b6⟩ := zpX h S (.inl rfl) C.k C.h C.n C.v C.y C.o
    refine ⟨b1, ?_⟩
    dsimp only
    split
    · rename_i e1
      exact ⟨.inr (.inr (.inr ⟨(by show (30 : Int) ≤ 33; decide), (by show (33 : Int) ≤ 39; decide)⟩)), X.regs, X.ip, fun e => by dsimp only at e; omega, fun e => by dsimp only at e; omega, fun e => (by cases e), fun _ => b6 e1, fun e => (by cases e), fun e => absurd rfl e, fun e => by dsimp only at e; omega, X.buf⟩
    split
    · exact X.move (by omega) (.inl rfl) rfl rfl X.buf X.ip (fun e => absurd e (by show ¬ ((10 : Int) ≤ 0 ∧ (0 : Int) ≤ 30); decide))
    · rename_i e1 e2
      exact ⟨X.pc, X.regs, X.ip, X.op, X.ret, fun _ => ⟨b2, b3, b4, (b5 e1 e2).1, (b5 e1 e2).2, e1⟩, fun e => by dsimp only at e; omega, fun e => by dsimp only at e; omega, X.bin, fun e => by dsimp only at e; omega, X.buf⟩
  · intro c
    unfold zm0
    have B := X.b33 c
    refine ⟨S.keep rfl rfl (by simp), ?_⟩
    rw [hP]
    exact ⟨.inr (.inr (.inr ⟨(by show (30 : Int) ≤ 34; decide), (by show (34 : Int) ≤ 39; decide)⟩)), X.regs, X.ip, fun e => by dsimp only at e; omega, fun e => by dsimp only at e; omega, fun e => (by cases e), fun e => (by cases e), fun _ => zpN B, fun _ e => absurd rfl e, fun e => by dsimp only at e; omega, X.buf⟩
  · intro c
    unfold znv
    have C := X.c34 c
    obtain ⟨b1, b2, b3, b4, b5, b6⟩ := zm4 h S (.inr rfl) C.k C.h C.n C.x C.v
    refine ⟨b1, ?_⟩
    dsimp only
    split
    · exact ⟨.inr (.inr (.inr ⟨(by show (30 : Int) ≤ 35; decide), (by show (35 : Int) ≤ 39; decide)⟩)), X.regs, X.ip, fun e => by dsimp only at e; omega, fun e => by dsimp only at e; omega, fun e => (by cases e), fun e => (by cases e), fun e => (by cases e), fun _ _ => rfl, fun e => by dsimp only at e; omega, X.buf⟩
    · exact ⟨X.pc, X.regs, X.ip, X.op, X.ret, fun e => by dsimp only at e; omega, fun e => by dsimp only at e; omega, fun _ => ⟨b2, b3, b4, b5, b6⟩, X.bin, fun e => by dsimp only at e; omega, X.buf⟩
  · intro c
    unfold znb
    refine ⟨S, ?_⟩
    dsimp only
    split
    · exact X.move (by omega) (.inl rfl) rfl rfl X.buf X.ip (fun e => absurd e (by show ¬ ((10 : Int) ≤ 0 ∧ (0 : Int) ≤ 30); decide))
    · exact X.move (by omega) (by simp) rfl rfl X.buf X.ip (fun e => absurd e (nop 36 (by omega)))
  · intro c
    unfold zmR
    refine ⟨S, ?_⟩
    dsimp only
    split
    · rcases zsD s (wc (x.Slot + 1)) with e | e <;> rw [e]
      · exact X.move (by omega) (by simp) rfl rfl X.buf X.ip (fun e => absurd e (nop 36 (by omega)))
      · exact X.move (by omega) (by simp) rfl rfl X.buf X.ip (fun e => absurd e (nop 38 (by omega)))
    · exact ⟨.inr (.inr (.inr ⟨(by show (30 : Int) ≤ 37; decide), (by show (37 : Int) ≤ 39; decide)⟩)), X.regs, X.ip, fun e => by dsimp only at e; omega, fun e => by dsimp only at e; omega, fun e => (by cases e), fun e => (by cases e), fun e => (by cases e), fun _ _ => X.bin (by omega) (by omega),
        fun _ => ⟨⟨fun e => absurd e (by show ¬ (3 : Int) = 1; decide), fun e => (by cases e), fun e => (by cases e), fun e => (by cases e), fun e => (by cases e)⟩, fun e => (by cases e), by show (3 : Int) ≠ 1; decide⟩, X.buf⟩
  · intro c
    unfold zm3
    obtain ⟨g1, g2, g3⟩ := X.g (.inr c)
    obtain ⟨r1, r2, r3⟩ := znM h S g1 g2
    refine ⟨r1, ?_⟩
    dsimp only
    split
    · rcases zsD s x.Slot with e | e <;> rw [e]
      · exact X.move (by omega) (by simp) rfl rfl X.buf X.ip (fun e => absurd e (nop 36 (by omega)))
      · exact X.move (by omega) (by simp) rfl rfl X.buf X.ip (fun e => absurd e (nop 38 (by omega)))
    · exact ⟨X.pc, X.regs, X.ip, X.op, X.ret, fun e => by dsimp only at e; omega, fun e => by dsimp only at e; omega, fun e => by dsimp only at e; omega, X.bin, fun _ => ⟨r2, r3, by rw [(zli s x.G).2.2]; exact g3⟩, X.buf⟩
  · intro c
    unfold zmM
    exact ⟨S.keep rfl rfl rfl, X.move (by omega) (by simp) rfl rfl X.buf X.ip (fun e => absurd e (nop 39 (by omega)))⟩
  · intro c
    unfold znj
    exact ⟨S.keep rfl rfl rfl, X.move (by omega) (by simp) rfl rfl X.buf X.ip (fun e => absurd e (nop 35 (by omega)))⟩
  · exact ⟨S, X⟩
end
end Go.Pe.G
namespace Go.Pe.G
open Go.Pe
noncomputable section
def vb (s : zc) : zc :=
  if s.Done = true then s
  else if s.D.PC = 0 then { s with Flag := false, D := { s.D with PC := 1 } }
  else if s.D.PC = 1 then (if s.Work = 0 then { s with D := { s.D with PC := 2 } } else s)
  else if s.D.PC = 2 then { s with Epoch := wc (s.Epoch + 1), D := ⟨if s.Ms.length = 0 then 4 else 3, 0⟩ }
  else if s.D.PC = 3 then (if s.Acks.getD s.D.I.toNat 0 < s.Epoch then s else { s with D := ⟨if wc (s.D.I + 1) = (s.Ms.length : Int) then 4 else 3, wc (s.D.I + 1)⟩ })
  else if s.D.PC = 4 then (if s.Work = 0 then { s with D := { s.D with PC := 5 } } else { s with Restarts := wc (s.Restarts + 1), D := { s.D with PC := 0 } })
  else if s.D.PC = 5 then (if s.Flag = true then { s with Restarts := wc (s.Restarts + 1), D := { s.D with PC := 0 } } else { s with D := { s.D with PC := 6 } })
  else if s.D.PC = 6 then { s with Done := true }
  else s
structure HOk (p : zd) (h : zu) : Prop where
  slots : h.Slots = p.H.Slots
  n : (p.H.Objs.length : Int) ≤ (h.Objs.length : Int) ∧ (h.Objs.length : Int) ≤ p.Most
  objs : ∀ o ∈ h.Objs, (o.length : Int) = h.Slots ∧ ∀ v ∈ o, 0 ≤ v ∧ v ≤ (h.Objs.length : Int)
structure EOk (p : zd) (nb : Nat) (s : zc) : Prop where
  S : SOk p nb s
  wl : (s.Ws.length : Int) = p.Workers
  ml : (s.Ms.length : Int) = p.Mutators
  al : s.Acks.length = s.Ms.length
  W : ∀ (i : Nat) x, s.Ws[i]? = some x → WOk p nb ((i : Int) + 1) x
  X : ∀ (i : Nat) x, s.Ms[i]? = some x → XOk p nb ((i : Int) + 1) x
  H : HOk p s.H
  D : (0 ≤ s.D.PC ∧ s.D.PC ≤ 6) ∧ (s.D.PC = 3 → 0 ≤ s.D.I ∧ s.D.I < (s.Ms.length : Int))
  small : uE s
theorem zrI {p : zd} (h : zS p) (m : Int) : ((xD p m).length : Int) ≤ 64 := by
  unfold xD
  have hr := h.regs
  have hp := h.progs
  rw [List.getD_eq_getElem?_getD]
  rcases Nat.lt_or_ge (m - 1).toNat p.Progs.length with hl | hl
  · rw [List.getElem?_eq_getElem hl]
    have hl2 : (m - 1).toNat < p.Regs.length := by omega
    have := (h.prog (m - 1).toNat _ _ (List.getElem?_eq_getElem hl2) (List.getElem?_eq_getElem hl)).1
    show ((p.Progs[(m - 1).toNat]).length : Int) ≤ 64
    omega
  · rw [List.getElem?_eq_none hl]; show (([] : List zg).length : Int) ≤ 64; simp
theorem zlD {p : zd} (h : zS p) : EOk p (xd p + 1) (wH p) := by
  have hw := h.wk
  have hm := h.mt
  have hr := h.regs
  have hn := h.n
  have hmo := h.most
  have hb := h.buf
  refine ⟨zq6 h, ?_, ?_, ?_, fun i x hx => ?_, fun i x hx => ?_, ⟨rfl, ⟨Int.le_refl _, hmo.1⟩, h.objs⟩, ⟨⟨by show (0 : Int) ≤ 0; decide, by show (0 : Int) ≤ 6; decide⟩, fun e => absurd e (by show ¬ (0 : Int) = 3; decide)⟩, ztp h⟩
  · show (((List.range p.Workers.toNat).map (W4 p)).length : Int) = _
    rw [List.length_map, List.length_range]; omega
  · show ((p.Regs.map vy).length : Int) = _
    rw [List.length_map]; exact hr
  · show (List.replicate p.Mutators.toNat (0 : Int)).length = (p.Regs.map vy).length
    rw [List.length_replicate, List.length_map]; omega
  · have hx : ((List.range p.Workers.toNat).map (W4 p))[i]? = some x := hx
    rw [List.getElem?_map] at hx
    rcases Nat.lt_or_ge i p.Workers.toNat with hl | hl
    · rw [List.getElem?_range hl] at hx
      injection hx with hx
      subst hx
      exact ⟨⟨by show (0 : Int) ≤ 0; decide, by show (0 : Int) ≤ 9; decide⟩, by show 1 ≤ (i : Int) + 1 ∧ (i : Int) + 1 ≤ p.Workers; omega, fun _ => ⟨rfl, rfl, rfl⟩, fun e => (by cases e), fun e => (by cases e), fun e => (by cases e), fun e => (by cases e), fun e => (by cases e)⟩
    · rw [List.getElem?_eq_none (by rw [List.length_range]; exact hl)] at hx; cases hx
  · have hx : (p.Regs.map vy)[i]? = some x := hx
    rw [List.getElem?_map] at hx
    cases hq : p.Regs[i]? with
    | none => rw [hq] at hx; cases hx
    | some r =>
      rw [hq] at hx
      injection hx with hx
      subst hx
      refine ⟨.inl ⟨by show (0 : Int) ≤ 0; decide, by show (0 : Int) ≤ 3; decide⟩, ?_, ⟨by show (0 : Int) ≤ 0; decide, by show (0 : Int) ≤ _; omega⟩, fun e => absurd e ?_, fun e => absurd e ?_, fun e => (by cases e), fun e => (by cases e), fun e => (by cases e), fun _ _ => rfl, fun e => absurd e ?_, by show (0 : Int) ≤ p.Buf; omega⟩
      · show r.length = zbQ p ((i : Int) + 1)
        unfold zbQ
        rw [show ((i : Int) + 1 - 1).toNat = i by omega, List.getD_eq_getElem?_getD, hq]; rfl
      · intro e; simp [vy] at e
      · intro e; simp [vy] at e
      · intro e; simp [vy] at e
theorem zkk {s : zc} (h : uE s) (b : Int) : (zo1 s b).length < 1000000 := by
  unfold zo1
  rw [List.getD_eq_getElem?_getD]
  cases hq : s.Bins[b.toNat]? with
  | none => simp
  | some l => exact h.bin l (List.mem_of_getElem? hq)
theorem zol (l : zl) (w : Int) : (zjG l w).Bal.length = l.Bal.length := by unfold zjG; split <;> simp
structure Z5 (s s' : zc) : Prop where
  P : s'.P = s.P
  m : s'.M.length = s.M.length
  bl : s'.Bins.length = s.Bins.length
  b : ∀ l ∈ s'.Bins, l ∈ s.Bins ∨ l.length ≤ 1
  bal : s'.L.Bal.length = s.L.Bal.length
  ac : s'.Acks.length = s.Acks.length
  ws : s'.Ws = s.Ws
  ms : s'.Ms = s.Ms
  done : s'.Done = s.Done
  d : s'.D = s.D
theorem Z5.refl (s : zc) : Z5 s s := ⟨rfl, rfl, rfl, fun l h => .inl h, rfl, rfl, rfl, rfl, rfl, rfl⟩
theorem zcE (s : zc) (g : zC) : Z5 s (z3 s g).1 ∧ (z3 s g).1.H = s.H := by
  obtain ⟨m, b, t, w, f, e, h1, h2, h3, _, _⟩ := zmH s g
  rw [e]
  exact ⟨⟨rfl, h1, h2, fun l hl => (h3 l hl).imp id (fun e => by rw [e]; simp), rfl, rfl, rfl, rfl, rfl, rfl⟩, rfl⟩
theorem zq9 {s : zc} (b : Nat) : ∀ l ∈ s.Bins.set b [], l ∈ s.Bins ∨ l.length ≤ 1 := fun l hl => (List.mem_or_eq_of_mem_set hl).imp id (fun e => by rw [e]; simp)
theorem ztj (s : zc) (w : Int) (x : zj) : Z5 s (yP s w x).1 ∧ (yP s w x).1.H = s.H := by
  unfold yP
  split
  · exact ⟨⟨rfl, (zkg _ _).1, rfl, fun l h => .inl h, rfl, rfl, rfl, rfl, rfl, rfl⟩, rfl⟩
  split
  · exact ⟨⟨rfl, W5 _ _, rfl, fun l h => .inl h, rfl, rfl, rfl, rfl, rfl, rfl⟩, rfl⟩
  split
  · exact ⟨⟨rfl, rfl, by simp, zq9 _, rfl, rfl, rfl, rfl, rfl, rfl⟩, rfl⟩
  split
  · exact ⟨⟨rfl, W5 _ _, rfl, fun l h => .inl h, rfl, rfl, rfl, rfl, rfl, rfl⟩, rfl⟩
  split
  · exact ⟨Z5.refl s, rfl⟩
  split
  · exact zcE s x.G
  split
  · exact ⟨Z5.refl s, rfl⟩
  split
  · exact ⟨⟨rfl, rfl, rfl, fun l h => .inl h, zol _ _, rfl, rfl, rfl, rfl, rfl⟩, rfl⟩
  split
  · exact ⟨⟨rfl, rfl, rfl, fun l h => .inl h, rfl, rfl, rfl, rfl, rfl, rfl⟩, rfl⟩
  · exact ⟨Z5.refl s, rfl⟩
theorem zqM (p : zd) (w : Int) (x : zj) : (zl8 p w x).Batch = x.Batch := by unfold zl8; split <;> rfl
theorem zrH {s : zc} (h : uE s) (w : Int) {x : zj} (hx : x.Batch.length < 1000000) : (yP s w x).2.Batch.length < 1000000 := by
  unfold yP
  split
  · dsimp only
    split
    · exact hx
    split
    · rw [zqM]; exact hx
    · exact hx
  split
  · dsimp only
    split
    · exact hx
    split <;> exact hx
  split
  · exact zkk h _
  split
  · dsimp only
    split <;> exact hx
  split
  · dsimp only
    split <;> exact hx
  split
  · dsimp only
    split <;> exact hx
  split
  · dsimp only
    cases hb : x.Batch with
    | nil => show x.Batch.length < _; exact hx
    | cons o l => rw [hb] at hx; show l.length < _; simp at hx; omega
  split
  · exact hx
  split
  · exact hx
  · exact hx
theorem zrG (l : zl) (w p : Int) : (zpV l w p).Bal.length = l.Bal.length := by unfold zpV; simp
theorem zsn (l : zl) (w n : Int) : (zoX l w n).1.Bal.length = l.Bal.length := by unfold zoX; split <;> simp
theorem zqa (s : zc) (m : Int) (x : zb) : Z5 s (xm s m x).1 := by
  have q : ∀ s' : zc, s'.P = s.P → s'.M = s.M → s'.Bins = s.Bins → s'.L.Bal.length = s.L.Bal.length → s'.Acks.length = s.Acks.length → s'.Ws = s.Ws → s'.Ms = s.Ms → s'.Done = s.Done → s'.D = s.D → Z5 s s' :=
    fun s' a b c d e f g h i => ⟨a, by rw [b], by rw [c], fun l hl => .inl (c ▸ hl), d, e, f, g, h, i⟩
  refine V4 (motive := fun r => Z5 s r.1) s m x ?_ ?_ ?_ ?_ ?_ ?_ ?_ ?_ ?_ ?_ ?_ ?_ ?_ ?_ ?_ ?_ ?_ ?_ ?_ ?_
  · intro c
    unfold mu0
    exact Z5.refl s
  · intro c
    unfold mu1
    exact Z5.refl s
  · intro c
    unfold mu2
    exact q _ rfl rfl rfl rfl (by simp) rfl rfl rfl rfl
  · intro c
    unfold mu3
    exact (zcE s x.G).1
  · intro c
    unfold znP
    exact Z5.refl s
  · intro c
    unfold znm
    exact Z5.refl s
  · intro c
    unfold zne
    exact Z5.refl s
  · intro c
    unfold znH
    exact Z5.refl s
  · intro c
    unfold znd
    exact q _ rfl rfl rfl rfl rfl rfl rfl rfl rfl
  · intro c
    unfold znC
    split
    · split
      · exact q _ rfl rfl rfl (zrG _ _ _) rfl rfl rfl rfl rfl
      · exact Z5.refl s
    · exact Z5.refl s
  · intro c
    unfold znK
    exact q _ rfl rfl rfl (zsn _ _ _) rfl rfl rfl rfl rfl
  · intro c
    unfold znI
    exact ⟨rfl, W5 _ _, rfl, fun l h => .inl h, rfl, rfl, rfl, rfl, rfl, rfl⟩
  · intro c
    unfold zm0
    exact ⟨rfl, rfl, by simp, zq9 _, rfl, rfl, rfl, rfl, rfl, rfl⟩
  · intro c
    unfold znv
    exact ⟨rfl, W5 _ _, rfl, fun l h => .inl h, rfl, rfl, rfl, rfl, rfl, rfl⟩
  · intro c
    unfold znb
    exact Z5.refl s
  · intro c
    unfold zmR
    exact Z5.refl s
  · intro c
    unfold zm3
    exact (zcE s x.G).1
  · intro c
    unfold zmM
    exact q _ rfl rfl rfl (zol _ _) rfl rfl rfl rfl rfl
  · intro c
    unfold znj
    exact q _ rfl rfl rfl rfl rfl rfl rfl rfl rfl
  · exact Z5.refl s
theorem HOk.sm {p : zd} (hp : zS p) {h : zu} (H : HOk p h) : h.Objs.length < 1000000 ∧ ∀ x ∈ h.Objs, x.length < 1000000 := by
  have h1 := H.n
  have h2 := hp.most
  have h3 := hp.n
  have h4 := hp.slots
  have h5 := H.slots
  exact ⟨by omega, fun x hx => by have := (H.objs x hx).1; omega⟩
theorem uE.turn {p : zd} (hp : zS p) {s s' : zc} (h : uE s) (T : Z5 s s') (H : HOk p s'.H) : uE s' := by
  have hh := H.sm hp
  refine ⟨by rw [T.m]; exact h.m, by rw [T.bl]; exact h.bins, fun x hx => ?_, by rw [T.ac]; exact h.acks, by rw [T.bal]; exact h.bal, by rw [T.ws]; exact h.ws, by rw [T.ws]; exact h.w, by rw [T.ms]; exact h.ms, by rw [T.ms]; exact h.mu, hh.1, hh.2, by rw [T.P]; exact h.pobjs, by rw [T.P]; exact h.pobj, by rw [T.P]; exact h.regs, by rw [T.P]; exact h.reg, by rw [T.P]; exact h.progs, by rw [T.P]; exact h.prog, by rw [T.P]; exact h.picks⟩
  rcases T.b x hx with h' | h'
  · exact h.bin x h'
  · omega
theorem uE.setW {s : zc} (h : uE s) {i : Nat} {x : zj} (hx : x.Batch.length < 1000000) : uE { s with Ws := s.Ws.set i x } :=
  ⟨h.m, h.bins, h.bin, h.acks, h.bal, by simp only [List.length_set]; exact h.ws, fun y hy => by
    rcases List.mem_or_eq_of_mem_set hy with hy | rfl
    · exact h.w y hy
    · exact hx, h.ms, h.mu, h.objs, h.obj, h.pobjs, h.pobj, h.regs, h.reg, h.progs, h.prog, h.picks⟩
theorem uE.setM {s : zc} (h : uE s) {i : Nat} {x : zb} (hx : x.Regs.length < 1000000 ∧ x.Buf.length < 1000000 ∧ x.Batch.length < 1000000) : uE { s with Ms := s.Ms.set i x } :=
  ⟨h.m, h.bins, h.bin, h.acks, h.bal, h.ws, h.w, by simp only [List.length_set]; exact h.ms, fun y hy => by
    rcases List.mem_or_eq_of_mem_set hy with hy | rfl
    · exact h.mu y hy
    · exact hx, h.objs, h.obj, h.pobjs, h.pobj, h.regs, h.reg, h.progs, h.prog, h.picks⟩
theorem zq5 {α : Type} {l : List α} {i j : Nat} {x y : α} (h : (l.set i x)[j]? = some y) : (j = i ∧ y = x) ∨ l[j]? = some y := by
  rw [List.getElem?_set] at h
  split at h
  · rename_i e
    split at h
    · injection h with h; exact .inl ⟨e.symm, h.symm⟩
    · cases h
  · exact .inr h
theorem zwp {p : zd} {nb : Nat} {s : zc} (h : zS p) (E : EOk p nb s) (w : Int) : EOk p nb (zl3 s w) := by
  unfold zl3
  split
  · exact E
  rename_i hc
  cases hx : s.Ws[(w - 1).toNat]? with
  | none => exact E
  | some x =>
    have hw1 : ¬ w < 1 := fun e => hc (.inr (.inl e))
    have hw2 : ¬ (s.Ws.length : Int) < w := fun e => hc (.inr (.inr e))
    have hwl := E.wl
    have ei : (((w - 1).toNat : Nat) : Int) + 1 = w := by omega
    have hW := E.W _ x hx
    rw [ei] at hW
    obtain ⟨r1, r2⟩ := zu3 h (by omega) E.S hW
    obtain ⟨T, TH⟩ := ztj s w x
    have sm : uE (yP s w x).1 := E.small.turn h T (by rw [TH]; exact E.H)
    have hws : (yP s w x).1.Ws = s.Ws := T.ws
    refine ⟨r1.keep rfl rfl rfl, ?_, ?_, ?_, fun i y hy => ?_, fun i y hy => ?_, ?_, ?_, ?_⟩
    · show ((s.Ws.set _ _).length : Int) = _
      rw [List.length_set]; exact hwl
    · show ((yP s w x).1.Ms.length : Int) = _
      rw [T.ms]; exact E.ml
    · show (yP s w x).1.Acks.length = (yP s w x).1.Ms.length
      rw [T.ms, T.ac]; exact E.al
    · rcases zq5 hy with ⟨rfl, rfl⟩ | hy
      · rw [ei]; exact r2
      · exact E.W i y hy
    · have hy : (yP s w x).1.Ms[i]? = some y := hy
      rw [T.ms] at hy
      exact E.X i y hy
    · show HOk p (yP s w x).1.H
      rw [TH]; exact E.H
    · show (0 ≤ (yP s w x).1.D.PC ∧ (yP s w x).1.D.PC ≤ 6) ∧ ((yP s w x).1.D.PC = 3 → 0 ≤ (yP s w x).1.D.I ∧ (yP s w x).1.D.I < ((yP s w x).1.Ms.length : Int))
      rw [T.d, T.ms]; exact E.D
    · have := sm.setW (i := (w - 1).toNat) (zrH E.small w (E.small.w x (List.mem_of_getElem? hx)))
      rw [hws] at this
      exact this
theorem zuo {p : zd} {nb : Nat} {s : zc} (h : zS p) (E : EOk p nb s) : EOk p nb (vb s) := by
  have key : ∀ s' : zc, s'.P = s.P → s'.M = s.M → s'.Bins = s.Bins → s'.Ws = s.Ws → s'.Ms = s.Ms → s'.Acks = s.Acks → s'.H = s.H → s'.L = s.L → ((0 ≤ s'.D.PC ∧ s'.D.PC ≤ 6) ∧ (s'.D.PC = 3 → 0 ≤ s'.D.I ∧ s'.D.I < (s'.Ms.length : Int))) → EOk p nb s' := by
    intro s' e1 e2 e3 e4 e5 e6 e7 e8 e9
    have q := E.small
    refine ⟨E.S.keep e1 e2 (by rw [e3]), by rw [e4]; exact E.wl, by rw [e5]; exact E.ml, by rw [e5, e6]; exact E.al, by rw [e4]; exact E.W, by rw [e5]; exact E.X, by rw [e7]; exact E.H, e9, ?_⟩
    exact ⟨by rw [e2]; exact q.m, by rw [e3]; exact q.bins, by rw [e3]; exact q.bin, by rw [e6]; exact q.acks, by rw [e8]; exact q.bal, by rw [e4]; exact q.ws, by rw [e4]; exact q.w, by rw [e5]; exact q.ms, by rw [e5]; exact q.mu, by rw [e7]; exact q.objs, by rw [e7]; exact q.obj, by rw [e1]; exact q.pobjs, by rw [e1]; exact q.pobj, by rw [e1]; exact q.regs, by rw [e1]; exact q.reg, by rw [e1]; exact q.progs, by rw [e1]; exact q.prog, by rw [e1]; exact q.picks⟩
  have hm : ∀ n : Int, 0 ≤ n ∧ n ≤ 6 → n ≠ 3 → ∀ i, (0 ≤ (⟨n, i⟩ : zn).PC ∧ (⟨n, i⟩ : zn).PC ≤ 6) ∧ ((⟨n, i⟩ : zn).PC = 3 → 0 ≤ (⟨n, i⟩ : zn).I ∧ (⟨n, i⟩ : zn).I < (s.Ms.length : Int)) := fun n h1 h2 i => ⟨h1, fun e => absurd e h2⟩
  have hml := E.ml
  have hmt := h.mt
  unfold vb
  split
  · exact E
  split
  · exact key _ rfl rfl rfl rfl rfl rfl rfl rfl (hm 1 (by decide) (by decide) _)
  split
  · split
    · exact key _ rfl rfl rfl rfl rfl rfl rfl rfl (hm 2 (by decide) (by decide) _)
    · exact E
  split
  · refine key _ rfl rfl rfl rfl rfl rfl rfl rfl ?_
    dsimp only
    split
    · exact hm 4 (by decide) (by decide) _
    · exact ⟨by decide, fun _ => by omega⟩
  split
  · rename_i c3
    have hi := E.D.2 c3
    split
    · exact E
    · refine key _ rfl rfl rfl rfl rfl rfl rfl rfl ?_
      dsimp only
      have e : wc (s.D.I + 1) = s.D.I + 1 := Y5 (by omega) (by omega)
      rw [e]
      split
      · exact hm 4 (by decide) (by decide) _
      · exact ⟨by decide, fun _ => by omega⟩
  split
  · split
    · exact key _ rfl rfl rfl rfl rfl rfl rfl rfl (hm 5 (by decide) (by decide) _)
    · exact key _ rfl rfl rfl rfl rfl rfl rfl rfl (hm 0 (by decide) (by decide) _)
  split
  · split
    · exact key _ rfl rfl rfl rfl rfl rfl rfl rfl (hm 0 (by decide) (by decide) _)
    · exact key _ rfl rfl rfl rfl rfl rfl rfl rfl (hm 6 (by decide) (by decide) _)
  split
  · exact key _ rfl rfl rfl rfl rfl rfl rfl rfl E.D
  · exact E
theorem HOk.put {p : zd} {h : zu} (H : HOk p h) (o s v : Int) : HOk p (znf h o s v) := by
  unfold znf
  split
  · rename_i c
    obtain ⟨c1, c2, c3⟩ := c
    unfold UL at c1
    simp only [Bool.and_eq_true, decide_eq_true_eq] at c1
    refine ⟨H.slots, by simp only [List.length_set]; exact H.n, fun l hl => ?_⟩
    simp only [List.length_set]
    rcases List.mem_or_eq_of_mem_set hl with hl | rfl
    · exact H.objs l hl
    · have hm : yY h o ∈ h.Objs := by
        unfold yY
        rw [List.getD_eq_getElem?_getD, List.getElem?_eq_getElem (show (o - 1).toNat < h.Objs.length by omega)]
        exact List.getElem_mem _
      obtain ⟨a, b⟩ := H.objs _ hm
      refine ⟨by rw [List.length_set]; exact a, fun y hy => ?_⟩
      rcases List.mem_or_eq_of_mem_set hy with hy | rfl
      · exact b y hy
      · exact ⟨c2, c3⟩
  · exact H
theorem HOk.alloc {p : zd} (hp : zS p) {h : zu} (H : HOk p h) (hr : zr6 h p.Most = true) : HOk p (zpL h) := by
  unfold zr6 at hr
  simp only [Bool.and_eq_true, decide_eq_true_eq] at hr
  have hs := hp.slots
  have hsl := H.slots
  have hn := H.n
  unfold zpL
  refine ⟨H.slots, by simp only [List.length_append, List.length_singleton]; omega, fun l hl => ?_⟩
  simp only [List.length_append, List.length_singleton]
  rcases List.mem_append.1 hl with hl | hl
  · obtain ⟨a, b⟩ := H.objs l hl
    exact ⟨a, fun v hv => by have := b v hv; omega⟩
  · rw [List.mem_singleton.1 hl]
    refine ⟨by rw [List.length_replicate]; omega, fun v hv => ?_⟩
    rw [(List.mem_replicate.1 hv).2]; omega
theorem zv4 {p : zd} (hp : zS p) {s : zc} (hP : s.P = p) (H : HOk p s.H) (m : Int) (x : zb) : HOk p (xm s m x).1.H := by
  refine V4 (motive := fun r => HOk p r.1.H) s m x ?_ ?_ ?_ ?_ ?_ ?_ ?_ ?_ ?_ ?_ ?_ ?_ ?_ ?_ ?_ ?_ ?_ ?_ ?_ ?_
  · intro c
    unfold mu0
    exact H
  · intro c
    unfold mu1
    exact H
  · intro c
    unfold mu2
    exact H
  · intro c
    unfold mu3
    rw [(zcE s x.G).2]; exact H
  · intro c
    unfold znP
    exact H
  · intro c
    unfold znm
    exact H
  · intro c
    unfold zne
    exact H
  · intro c
    unfold znH
    exact H
  · intro c
    unfold znd
    exact H.put _ _ _
  · intro c
    unfold znC
    split
    · split
      · rename_i hr
        rw [hP] at hr
        exact H.alloc hp hr
      · exact H
    · exact H
  · intro c
    unfold znK
    exact H
  · intro c
    unfold znI
    exact H
  · intro c
    unfold zm0
    exact H
  · intro c
    unfold znv
    exact H
  · intro c
    unfold znb
    exact H
  · intro c
    unfold zmR
    exact H
  · intro c
    unfold zm3
    rw [(zcE s x.G).2]; exact H
  · intro c
    unfold zmM
    exact H
  · intro c
    unfold znj
    exact H
  · exact H
theorem zpQ (s : zc) (m : Int) (x : zb) : (zhk s m x).Batch = x.Batch := by
  unfold zhk
  repeat' split
  all_goals rfl
theorem ztq {s : zc} (h : uE s) (m : Int) {x : zb} (hx : x.Batch.length < 1000000) : (xm s m x).2.Batch.length < 1000000 := by
  refine V4 (motive := fun r => r.2.Batch.length < 1000000) s m x ?_ ?_ ?_ ?_ ?_ ?_ ?_ ?_ ?_ ?_ ?_ ?_ ?_ ?_ ?_ ?_ ?_ ?_ ?_ ?_
  · intro c
    unfold mu0
    dsimp only; rw [zpQ]; exact hx
  · intro c
    unfold mu1
    dsimp only; split <;> exact hx
  · intro c
    unfold mu2
    exact hx
  · intro c
    unfold mu3
    dsimp only; split <;> exact hx
  · intro c
    unfold znP
    exact hx
  · intro c
    unfold znm
    dsimp only; split <;> exact hx
  · intro c
    unfold zne
    dsimp only; split <;> exact hx
  · intro c
    unfold znH
    dsimp only; split <;> exact hx
  · intro c
    unfold znd
    exact hx
  · intro c
    unfold znC
    split
    · split <;> exact hx
    · exact hx
  · intro c
    unfold znK
    dsimp only; split <;> exact hx
  · intro c
    unfold znI
    dsimp only
    split
    · exact hx
    split <;> exact hx
  · intro c
    unfold zm0
    exact zkk h _
  · intro c
    unfold znv
    dsimp only; split <;> exact hx
  · intro c
    unfold znb
    dsimp only
    cases hb : x.Batch with
    | nil => show ([] : List Int).length < 1000000; simp
    | cons o l => rw [hb] at hx; show l.length < _; simp at hx; omega
  · intro c
    unfold zmR
    dsimp only; split <;> exact hx
  · intro c
    unfold zm3
    dsimp only; split <;> exact hx
  · intro c
    unfold zmM
    exact hx
  · intro c
    unfold znj
    exact hx
  · exact hx
theorem zkv {p : zd} (h : zS p) (m : Int) : zbQ p m < 1000000 := by
  unfold zbQ
  rw [List.getD_eq_getElem?_getD]
  cases hq : p.Regs[(m - 1).toNat]? with
  | none => simp
  | some r => have := (h.reg r (List.mem_of_getElem? hq)).1; show r.length < _; omega
theorem ziH {p : zd} {nb : Nat} {s : zc} (h : zS p) (E : EOk p nb s) (m : Int) : EOk p nb (vp s m) := by
  unfold vp
  split
  · exact E
  rename_i hc
  cases hx : s.Ms[(m - 1).toNat]? with
  | none => exact E
  | some x =>
    have hw1 : ¬ m < 1 := fun e => hc (.inr (.inl e))
    have hw2 : ¬ (s.Ms.length : Int) < m := fun e => hc (.inr (.inr e))
    have ei : (((m - 1).toNat : Nat) : Int) + 1 = m := by omega
    have hX := E.X _ x hx
    rw [ei] at hX
    obtain ⟨r1, r2⟩ := zvg h (zrI h m) E.S hX
    have T := zqa s m x
    have TH := zv4 h E.S.P E.H m x
    have sm : uE (xm s m x).1 := E.small.turn h T TH
    have hms : (xm s m x).1.Ms = s.Ms := T.ms
    have hb := h.buf
    refine ⟨r1.keep rfl rfl rfl, ?_, ?_, ?_, fun i y hy => ?_, fun i y hy => ?_, TH, ?_, ?_⟩
    · show ((xm s m x).1.Ws.length : Int) = _
      rw [T.ws]; exact E.wl
    · show ((s.Ms.set _ _).length : Int) = _
      rw [List.length_set]; exact E.ml
    · show (xm s m x).1.Acks.length = (s.Ms.set _ _).length
      rw [List.length_set, T.ac]; exact E.al
    · have hy : (xm s m x).1.Ws[i]? = some y := hy
      rw [T.ws] at hy
      exact E.W i y hy
    · rcases zq5 hy with ⟨rfl, rfl⟩ | hy
      · rw [ei]; exact r2
      · exact E.X i y hy
    · show (0 ≤ (xm s m x).1.D.PC ∧ (xm s m x).1.D.PC ≤ 6) ∧ ((xm s m x).1.D.PC = 3 → 0 ≤ (xm s m x).1.D.I ∧ (xm s m x).1.D.I < ((s.Ms.set _ _).length : Int))
      rw [T.d, List.length_set]; exact E.D
    · have q := E.small.mu x (List.mem_of_getElem? hx)
      have q1 := r2.regs
      have q2 := r2.buf
      have q3 := zkv h m
      have := sm.setM (i := (m - 1).toNat) (x := (xm s m x).2) ⟨by omega, by omega, ztq E.small m q.2.2⟩
      rw [hms] at this
      exact this
end
end Go.Pe.G
namespace Go.Pe.G
open Go.Pe
noncomputable section
theorem zu0 (t : zp) (o : Int) : zfN t o = some (zg9 t o, ()) := by
  rw [zpu, znZ, Option.bind_some]
  show (bif znp (t.Marks &&& t.Black) o then _ else _) = _
  unfold zg9
  cases h : znp (t.Marks &&& t.Black) o with
  | true => rfl
  | false =>
    rw [cond_false, znZ, Option.bind_some]
    show (bif znp t.Marks o then _ else _) = _
    cases h2 : znp t.Marks o <;> rfl
theorem zwg (t : zp) (o : Int) : zbU t o = some (zmD t o, decide (zg9 t o = 1), ()) := by
  rw [znY, zu0, Option.bind_some, z7]
  unfold zmD
  by_cases h : zg9 t o = 1
  · rw [if_pos h, if_pos h, zjP, Option.bind_some, decide_eq_true h]
  · rw [if_neg h, if_neg h, decide_eq_false h]
theorem zsi {h : zu} (hl : h.Objs.length < 1000000) (o s : Int) : Y2 h o s = some (UL h o s, ()) := by
  rw [zh1]
  simp only [zr]
  unfold UL
  by_cases h1 : 1 ≤ o
  · rw [if_pos h1]
    by_cases h2 : o ≤ (h.Objs.length : Int)
    · rw [if_pos h2]
      by_cases h3 : 0 ≤ s
      · have e := List.getElem?_eq_getElem (show (o - 1).toNat < h.Objs.length by omega)
        rw [if_pos h3, z8 (a := o - 1) (by omega) (by omega), uh (by omega), e, Option.bind_some, decide_eq_true h1, decide_eq_true h2, decide_eq_true h3]
        unfold yY
        rw [List.getD_eq_getElem?_getD, e]; rfl
      · rw [if_neg h3, decide_eq_false h3, Bool.and_false]; rfl
    · rw [if_neg h2, decide_eq_false h2, Bool.and_false]; rfl
  · rw [if_neg h1, decide_eq_false h1]; rfl
theorem ztY {h : zu} (hl : h.Objs.length < 1000000) (o s : Int) : zdR h o s = some (zbn h o s, UL h o s, ()) := by
  rw [zoN, zsi hl, Option.bind_some]
  unfold zbn
  cases hs : UL h o s with
  | false => rfl
  | true =>
    have hs' := hs
    unfold UL at hs'
    simp only [Bool.and_eq_true, decide_eq_true_eq] at hs'
    obtain ⟨⟨⟨h1, h2⟩, h3⟩, h4⟩ := hs'
    have e := List.getElem?_eq_getElem (show (o - 1).toNat < h.Objs.length by omega)
    have es : yY h o = h.Objs[(o - 1).toNat]'(by omega) := by unfold yY; rw [List.getD_eq_getElem?_getD, e]; rfl
    rw [es] at h4
    have e2 := List.getElem?_eq_getElem (show s.toNat < (h.Objs[(o - 1).toNat]'(by omega)).length by omega)
    simp only [Bool.not_true, cond_false, if_true]
    rw [z8 (a := o - 1) (by omega) (by omega), uh (by omega), e, Option.bind_some, uh h3, e2, Option.bind_some, es, List.getD_eq_getElem?_getD, e2]; rfl
theorem zpw (l : zl) (who : Int) : wT l who = some (decide (1 ≤ who) && decide (who ≤ (l.Bal.length : Int)), ()) := by
  rw [zef, zr]
  by_cases h1 : 1 ≤ who
  · rw [if_pos h1, decide_eq_true h1]; rfl
  · rw [if_neg h1, decide_eq_false h1]; rfl
theorem zvN {l : zl} (hl : l.Bal.length < 1000000) (who : Int) : zdc l who = some (zjG l who, ()) := by
  rw [zk0, wx, zpw, Option.bind_some]
  unfold zjG
  by_cases h : 1 ≤ who ∧ who ≤ (l.Bal.length : Int)
  · rw [if_pos h, decide_eq_true h.1, decide_eq_true (show who ≤ ((({ l with Scanned := wc (l.Scanned + 1) } : zl).Bal.length : Nat) : Int) from h.2)]
    have hn : ¬ l.Bal.isEmpty = true := by
      intro e
      have : l.Bal = [] := by simpa using e
      rw [this] at h
      simp at h
      omega
    have hn : l.Bal.isEmpty = false := by simpa using hn
    have e := List.getElem?_eq_getElem (show (who - 1).toNat < l.Bal.length by omega)
    rw [Bool.true_and, Bool.not_true, cond_false, zdZ]
    simp only [decide_true, cond_true, zfh (n := (l.Bal.length : Int)) (by omega) (by omega), Option.bind_some, List.length_replicate, Int.toNat_natCast, hn, cond_false, wx]
    rw [Y5 (a := who - 1) (by omega) (by omega), Xq (l := l.Bal) (by omega) (by omega), Option.bind_some, e, Option.bind_some, ziR, Option.bind_some, Option.bind_some, Option.bind_some, wx, List.getD_eq_getElem?_getD, e]
    rfl
  · rw [if_neg h]
    have e : (decide (1 ≤ who) && decide (who ≤ ((({ l with Scanned := wc (l.Scanned + 1) } : zl).Bal.length : Nat) : Int))) = false := by
      by_cases h1 : 1 ≤ who
      · rw [decide_eq_true h1, decide_eq_false (fun e => h ⟨h1, e⟩)]; rfl
      · rw [decide_eq_false h1]; rfl
    rw [e]; rfl
theorem zwi {α : Type} (o : α) (l : List α) : cut (o :: l) 1 (((o :: l).length : Nat) : Int) = some l := by
  unfold cut
  rw [decide_eq_true (show (0 : Int) ≤ 1 by decide), decide_eq_true (show (1 : Int) ≤ (((o :: l).length : Nat) : Int) by simp; omega), decide_eq_true (Int.le_refl _)]
  simp
end
end Go.Pe.G
namespace Go.Pe.G
open Go.Pe
noncomputable section
theorem zqK {p : zd} {nb : Nat} {s : zc} (h : zS p) (E : EOk p nb s) : zc5 s = some (vb s, ()) := by
  rw [zlg, wx]
  simp only [zr, z7]
  have ag : ∀ s : zc, Y3 s = some ({ s with Restarts := wc (s.Restarts + 1), D := { s.D with PC := 0 } }, ()) := fun s => by rw [zhC, wx]
  unfold vb
  by_cases hd : s.Done = true
  · rw [cond_eq_ite, if_pos hd, if_pos hd]
  · rw [cond_eq_ite, if_neg hd, if_neg hd]
    by_cases c0 : s.D.PC = 0
    · rw [if_pos c0, if_pos c0]
    rw [if_neg c0, if_neg c0]
    by_cases c1 : s.D.PC = 1
    · rw [if_pos c1, if_pos c1]
      by_cases w : s.Work = 0
      · rw [if_pos w, if_pos w]
      · rw [if_neg w, if_neg w]
    rw [if_neg c1, if_neg c1]
    by_cases c2 : s.D.PC = 2
    · rw [if_pos c2, if_pos c2]
      by_cases w : s.Ms.length = 0
      · rw [if_pos (show (s.Ms.length : Int) = 0 by omega), if_pos w]
      · rw [if_neg (show ¬ (s.Ms.length : Int) = 0 by omega), if_neg w]
    rw [if_neg c2, if_neg c2]
    by_cases c3 : s.D.PC = 3
    · have hi := E.D.2 c3
      have ha := E.al
      have e := List.getElem?_eq_getElem (show s.D.I.toNat < s.Acks.length by omega)
      have ed : s.Acks.getD s.D.I.toNat 0 = s.Acks[s.D.I.toNat]'(by omega) := by rw [List.getD_eq_getElem?_getD, e]; rfl
      rw [if_pos c3, if_pos c3, uh hi.1, e, Option.bind_some, ed]
      by_cases w : (s.Acks[s.D.I.toNat]'(by omega)) < s.Epoch
      · rw [if_pos w, if_pos w]
      · rw [if_neg w, if_neg w]
        by_cases v : wc (s.D.I + 1) = (s.Ms.length : Int)
        · rw [if_pos v, if_pos v]
        · rw [if_neg v, if_neg v, c3]
    rw [if_neg c3, if_neg c3]
    by_cases c4 : s.D.PC = 4
    · rw [if_pos c4, if_pos c4]
      by_cases w : s.Work = 0
      · rw [if_pos w, if_pos w]
      · rw [if_neg w, if_neg w, ag]; rfl
    rw [if_neg c4, if_neg c4]
    by_cases c5 : s.D.PC = 5
    · rw [if_pos c5, if_pos c5]
      by_cases hf : s.Flag = true
      · rw [cond_eq_ite, if_pos hf, if_pos hf, ag]; rfl
      · rw [cond_eq_ite, if_neg hf, if_neg hf]
    rw [if_neg c5, if_neg c5]
    by_cases c6 : s.D.PC = 6
    · rw [if_pos c6, if_pos c6]
    · rw [if_neg c6, if_neg c6]
theorem zkD {p : zd} (h : zS p) {m : Int} (hm : 1 ≤ m ∧ m ≤ p.Mutators) : p.Progs[(m - 1).toNat]? = some (xD p m) := by
  have := h.progs
  have e := List.getElem?_eq_getElem (show (m - 1).toNat < p.Progs.length by omega)
  unfold xD
  rw [List.getD_eq_getElem?_getD, e]; rfl
theorem zte {p : zd} (h : zS p) {m : Int} (hm : 1 ≤ m ∧ m ≤ p.Mutators) {o : zg} (ho : o ∈ xD p m) : (0 ≤ o.R ∧ o.R < (zbQ p m : Int)) ∧ (0 ≤ o.A ∧ o.A < (zbQ p m : Int)) := by
  have hr := h.regs
  have er := List.getElem?_eq_getElem (show (m - 1).toNat < p.Regs.length by omega)
  have e1 : zbQ p m = (p.Regs[(m - 1).toNat]'(by omega)).length := by unfold zbQ; rw [List.getD_eq_getElem?_getD, er]; rfl
  have hl := (h.reg _ (List.getElem_mem (show (m - 1).toNat < p.Regs.length by omega))).1
  obtain ⟨a, b⟩ := (h.prog _ _ _ er (zkD h hm)).2 o ho
  rw [e1]
  refine ⟨a, ?_⟩
  rcases b with ⟨_, b, _⟩ | ⟨_, b, _⟩ | ⟨_, b, _⟩
  · exact b
  · exact b
  · omega
theorem zmn {p : zd} (h : zS p) {s : zc} (hP : s.P = p) {m : Int} (hm : 1 ≤ m ∧ m ≤ p.Mutators) {x : zb} (hi : 0 ≤ x.IP ∧ x.IP < ((xD p m).length : Int)) :
    xA ⟨x, s, m⟩ = some (opM p m x, ()) ∧ opM p m x ∈ xD p m := by
  have hmt := h.mt
  have e := List.getElem?_eq_getElem (show x.IP.toNat < (xD p m).length by omega)
  have eo : opM p m x = (xD p m)[x.IP.toNat]'(by omega) := by unfold opM; rw [List.getD_eq_getElem?_getD, e]; rfl
  rw [ziv]
  dsimp only
  rw [hP, z8 (a := m - 1) (by omega) (by omega), uh (by omega), zkD h hm, Option.bind_some, uh hi.1, e, Option.bind_some, eo]
  exact ⟨rfl, List.getElem_mem _⟩
theorem zrl {x : zb} {r : Int} (h : 0 ≤ r ∧ r < (x.Regs.length : Int)) : idx x.Regs r = some (zkM x r) := by
  have e := List.getElem?_eq_getElem (show r.toNat < x.Regs.length by omega)
  rw [uh h.1, e]
  unfold zkM
  rw [List.getD_eq_getElem?_getD, e]; rfl
theorem zko {s : zc} {m : Int} {x : zb} {r : Int} (h : 0 ≤ r ∧ r < (x.Regs.length : Int)) (hl : x.Regs.length < 1000000) (v : Int) : wq r v ⟨x, s, m⟩ = some (⟨setM x r v, s, m⟩, ()) := by
  rw [zfv]
  simp only [zam (show x.Regs.length < 4294967296 by omega), Option.bind_some, Xq h.1 h.2, zfg, wx]
  rfl
theorem zvH {p : zd} (h : zS p) {s : zc} (hP : s.P = p) {m : Int} (hm : 1 ≤ m ∧ m ≤ p.Mutators) {x : zb} (hi : 0 ≤ x.IP ∧ x.IP < ((xD p m).length : Int)) (hr : x.Regs.length = zbQ p m) (ho : s.H.Objs.length < 1000000) :
    Yq ⟨x, s, m⟩ = some (zoV s m x, ()) := by
  obtain ⟨e1, e2⟩ := zmn h hP hm hi
  have o := zte h hm e2
  rw [zg4]
  simp only [e1, Option.bind_some, zrl (x := x) (r := (opM p m x).A) (by omega), ztY ho]
  unfold zoV
  rw [hP]
theorem zu5 {p : zd} {nb : Nat} (h : zS p) {s : zc} (S : SOk p nb s) {m : Int} {x : zb} (M : MOk p nb x.G) (to : Int) :
    v9 to ⟨x, s, m⟩ = some (⟨if (z3 s x.G).2.Out = 1 then { x with PC := to, G := (z3 s x.G).2 } else { x with G := (z3 s x.G).2 }, (z3 s x.G).1, m⟩, ()) := by
  rw [zc8]
  simp only [ztb (S.gok h M), Option.bind_some, zr]
  split <;> rfl
theorem zv3 (s : zc) (x : zb) (m : Int) : XJ ⟨x, s, m⟩ = some (onM s x.Slot, ()) := by
  rw [ziz, zr]
  unfold onM
  split <;> rfl
theorem zvf (k hd to : Int) (s : zc) (x : zb) (m : Int) : uD k hd to ⟨x, s, m⟩ = some (⟨{ x with PC := to, C := ⟨k, 0, hd, yy s.P, 0#64, x.Bin, 0, 0⟩ }, s, m⟩, ()) := by
  rw [zfa]
  simp only [zdI, Option.bind_some, Un]
theorem zt0 {m : List zb} (h : m.length < 4294967296) : xi m = some (m, ()) := by
  rw [Z2, List.nil_append, xZ h, Option.bind_some]
  cases m with
  | nil => simp [zfM]
  | cons a l => simp
theorem zoB {p : zd} (h : zS p) {nb : Nat} {s : zc} (hP : s.P = p) {m : Int} (hm : 1 ≤ m ∧ m ≤ p.Mutators) (ha : (s.Acks.length : Int) = p.Mutators) {x : zb} (X : XOk p nb m x) :
    YB ⟨x, s, m⟩ = some (⟨zhk s m x, s, m⟩, ()) := by
  have hmt := h.mt
  have hip := X.ip
  have hrs := zkv h m
  have e := List.getElem?_eq_getElem (show (m - 1).toNat < s.Acks.length by omega)
  have ed : s.Acks.getD (m - 1).toNat 0 = s.Acks[(m - 1).toNat]'(by omega) := by rw [List.getD_eq_getElem?_getD, e]; rfl
  have pg : s.P.Progs[(m - 1).toNat]? = some (xD p m) := by rw [hP]; exact zkD h hm
  rw [zdL]
  simp only [zr]
  rw [z8 (a := m - 1) (by omega) (by omega), uh (by omega), e, Option.bind_some]
  unfold zhk
  rw [ed, hP]
  by_cases c : (s.Acks[(m - 1).toNat]'(by omega)) < s.Epoch
  · rw [if_pos c, if_pos c]
  rw [if_neg c, if_neg c, ← hP, uh (by omega), pg, Option.bind_some, hP]
  by_cases c2 : ((xD p m).length : Int) ≤ x.IP
  · rw [if_pos c2, if_pos c2]
  rw [if_neg c2, if_neg c2]
  obtain ⟨e1, e2⟩ := zmn h hP hm (x := x) (show 0 ≤ x.IP ∧ x.IP < ((xD p m).length : Int) by omega)
  have o := zte h hm e2
  have hreg := X.regs
  rw [e1, Option.bind_some]
  by_cases k1 : (opM p m x).Kind = 1
  · rw [if_pos k1, if_pos k1]
  rw [if_neg k1, if_neg k1]
  by_cases k2 : (opM p m x).Kind = 2
  · rw [if_pos k2, if_pos k2]
  rw [if_neg k2, if_neg k2]
  by_cases k3 : (opM p m x).Kind = 3
  · rw [if_pos k3, if_pos k3]
  rw [if_neg k3, if_neg k3]
  by_cases k4 : (opM p m x).Kind = 4
  · rw [if_pos k4, if_pos k4, zrl (x := x) (r := (opM p m x).A) (by omega), Option.bind_some, zko (x := x) (r := (opM p m x).R) (by omega) (by omega)]; rfl
  · rw [if_neg k4, if_neg k4, zko (x := x) (r := (opM p m x).R) (by omega) (by omega)]; rfl
theorem zqB {p : zd} {nb : Nat} (h : zS p) {s : zc} {x : zb} {m : Int} (S : SOk p nb s) (X : XOk p nb m x) (hm : 1 ≤ m ∧ m ≤ p.Mutators) (ha : (s.Acks.length : Int) = p.Mutators) (sm : uE s) (hb : x.Buf.length < 1000000)
    (small : x.PC ≤ 2) : Xk ⟨x, s, m⟩ = some (⟨(xm s m x).2, (xm s m x).1, m⟩, ()) := by
  have hmt := h.mt
  have hpc := X.pc
  rw [zeB]
  simp only [zr]
  unfold xm
  by_cases c0 : x.PC = 0
  · rw [if_pos c0, if_pos c0, zoB h S.P hm ha X]; rfl
  rw [if_neg c0, if_neg c0]
  by_cases c1 : x.PC = 1
  · rw [if_pos c1, if_pos c1, zdq]
    simp only [zr]
    unfold mu1
    by_cases e : x.Buf.length = 0
    · rw [if_pos e, if_pos (by rw [z8 (by omega) (by omega)]; omega)]; rfl
    · have ei := List.getElem?_eq_getElem (show x.Buf.length - 1 < x.Buf.length by omega)
      have en : ((x.Buf.length : Int) - 1).toNat = x.Buf.length - 1 := by omega
      have ec : cut x.Buf 0 ((x.Buf.length : Int) - 1) = some (x.Buf.take (x.Buf.length - 1)) := by
        unfold cut
        rw [decide_eq_true (show (0 : Int) ≤ 0 by decide), decide_eq_true (show (0 : Int) ≤ (x.Buf.length : Int) - 1 by omega), decide_eq_true (show (x.Buf.length : Int) - 1 ≤ (x.Buf.length : Int) by omega), en]
        simp
      rw [if_neg e, z8 (a := (x.Buf.length : Int) - 1) (by omega) (by omega), if_neg (by omega), uh (by omega), en, ei, Option.bind_some, zrN, Option.bind_some, ec, List.getD_eq_getElem?_getD, ei]
      rfl
  rw [if_neg c1, if_neg c1]
  have c2 : x.PC = 2 := by omega
  rw [if_pos c2, if_pos c2, zfz]
  have hs := sm.acks
  simp only [zam (show s.Acks.length < 4294967296 by omega), Option.bind_some]
  rw [z8 (a := m - 1) (by omega) (by omega), Xq (l := s.Acks) (by omega) (by omega)]
  rfl
theorem zfc {p : zd} {nb : Nat} {s : zc} (h : zS p) (E : EOk p nb s) (m : Int) (small : ∀ x, s.Ms[(m - 1).toNat]? = some x → x.PC ≤ 2) : Xh s m = some (vp s m, ()) := by
  rw [zj2]
  simp only [zr]
  unfold vp
  cases hd : s.Done with
  | true => rw [cond_true, if_pos (.inl rfl)]
  | false =>
    rw [cond_false]
    by_cases h1 : m < 1
    · rw [if_pos h1, if_pos (.inr (.inl h1))]
    rw [if_neg h1]
    by_cases h2 : (s.Ms.length : Int) < m
    · rw [if_pos h2, if_pos (.inr (.inr h2))]
    have hml := E.ml
    have hal := E.al
    have hmt := h.mt
    have e := List.getElem?_eq_getElem (show (m - 1).toNat < s.Ms.length by omega)
    have ei : (((m - 1).toNat : Nat) : Int) + 1 = m := by omega
    have hX := E.X _ _ e
    rw [ei] at hX
    have hb := (E.small.mu _ (List.mem_of_getElem? e)).2.1
    have T := zqa s m (s.Ms[(m - 1).toNat]'(by omega))
    rw [if_neg h2, if_neg (fun e => e.elim (fun h => by cases h) (fun e => e.elim h1 h2)), z8 (a := m - 1) (by omega) (by omega), uh (by omega), e, Option.bind_some, zqB h E.S hX (by omega) (by omega) E.small hb (small _ e), Option.bind_some]
    simp only [T.ms, zt0 (show s.Ms.length < 4294967296 by omega), Option.bind_some, Xq (l := s.Ms) (show 0 ≤ m - 1 by omega) (show m - 1 < (s.Ms.length : Int) by omega)]
end
end Go.Pe.G
namespace Go.Pe.G
open Go.Pe
noncomputable section
namespace B17
def y0 (n : Nat) (s : zc) : zc := goF (fun _ s => vb s) 0 n s
theorem WS {p : zd} {nb : Nat} (h : zS p) {s : zc} (E : EOk p nb s) {n : Nat} (hn : n < 1000000) : zT s (n : Int) = some (y0 n s, ()) := by
  have e := zuT (f := wY) (fun i s => ((n : Int), i, s, 0, 0, 0, 0, 0, 0, 0, 0, 0, 0#64, 0, zp.mk 0#64 0#64, 0, 0, false, false, 0, 0, 0, 0, zn.mk 0 0, ([] : List (List Int)), ([] : List (List Int)), ([] : List (List zg)), ([] : List zi), ([] : List (List Int)), ([] : List (BitVec 64)), ([] : List (List Int)), ([] : List Int), ([] : List Int), ([] : List zj), ([] : List zb), ())) (fun s => (s, 0, 0, 0, 0, 0, 0, 0, 0, 0, 0#64, 0, zp.mk 0#64 0#64, 0, 0, false, false, 0, 0, 0, 0, zn.mk 0 0, ([] : List (List Int)), ([] : List (List Int)), ([] : List (List zg)), ([] : List zi), ([] : List (List Int)), ([] : List (BitVec 64)), ([] : List (List Int)), ([] : List Int), ([] : List Int), ([] : List zj), ([] : List zb), ())) n hn (fun _ s => vb s) (EOk p nb) (fun _ s E => zuo h E)
    (fun i s hi E => by
      show wY ((n : Int), (i : Int), s, 0, 0, 0, 0, 0, 0, 0, 0, 0, 0#64, 0, zp.mk 0#64 0#64, 0, 0, false, false, 0, 0, 0, 0, zn.mk 0 0, ([] : List (List Int)), ([] : List (List Int)), ([] : List (List zg)), ([] : List zi), ([] : List (List Int)), ([] : List (BitVec 64)), ([] : List (List Int)), ([] : List Int), ([] : List Int), ([] : List zj), ([] : List zb), ()) = _
      rw [WQ, zr, if_pos (by omega), zqK h E, Option.bind_some, yU (by omega)])
    (fun s E => by
      show wY ((n : Int), (n : Int), s, 0, 0, 0, 0, 0, 0, 0, 0, 0, 0#64, 0, zp.mk 0#64 0#64, 0, 0, false, false, 0, 0, 0, 0, zn.mk 0 0, ([] : List (List Int)), ([] : List (List Int)), ([] : List (List zg)), ([] : List zi), ([] : List (List Int)), ([] : List (BitVec 64)), ([] : List (List Int)), ([] : List Int), ([] : List Int), ([] : List zj), ([] : List zb), ()) = _
      rw [WQ, zr, if_neg (by omega)]) E
  rw [zgS]
  exact congrArg (fun o => Option.bind o _) e
theorem zs8 {p : zd} {nb : Nat} (h : zS p) {s : zc} (E : EOk p nb s) (n : Nat) : EOk p nb (y0 n s) := zfV (Inv := EOk p nb) (g := fun _ s => vb s) (fun _ s E => zuo h E) n 0 s E
theorem zi7 {s : zc} (h : s.Done = true) (n : Nat) : y0 n s = s := by
  have : ∀ (n i : Nat), goF (fun _ s => vb s) i n s = s := by
    intro n
    induction n with
    | zero => intro i; rfl
    | succ n ih =>
      intro i
      show goF _ (i + 1) n (vb s) = s
      have e : vb s = s := by unfold vb; rw [if_pos h]
      rw [e]; exact ih (i + 1)
  exact this n 0
theorem ztQ {A B D : Type} {f : A → Option (yQ A B D)} {x : A} {b : B} (h : f x = some (.brk b)) : ya f x = some (.brk b) := by
  rw [WP]
  show vH f (18446744073709551615 + 1) x = _
  rw [vH, h]; rfl
theorem zsT {A B D : Type} {f : A → Option (yQ A B D)} {x y : A} {b : B} (h1 : f x = some (.again y)) (h : f y = some (.brk b)) : ya f x = some (.brk b) := by
  rw [WP]
  show vH f (18446744073709551614 + 1 + 1) x = _
  rw [vH, h1, Option.bind_some]
  dsimp only
  rw [vH, h]; rfl
def zhc : zd := ⟨1, 0, 2, 1, 1, 4, 2, 2, ⟨1, [[2], [0], [0]]⟩, 1#64, [], [], []⟩
def zbP : zd := ⟨1, 0, 2, 1, 1, 4, 2, 2, ⟨1, [[2], [0], [0]]⟩, 0#64, [], [], []⟩
def zvv : zd := ⟨1, 1, 2, 1, 1, 4, 2, 2, ⟨1, [[2], [0], [0]]⟩, 1#64, [[1, 0]], [[]], []⟩
def zb5 : zd := ⟨1, 1, 2, 1, 1, 4, 2, 2, ⟨1, [[2], [0], [0]]⟩, 0#64, [[0]], [[]], []⟩
theorem ztG : uv [] = some (zhc, ()) := by
  rw [UD, ztQ (by rw [ZK]; rfl)]; rfl
theorem zti : uv [[]] = some (zvv, ()) := by
  rw [UD, zsT (by rw [ZK, zr, if_pos (by decide), xZ (by decide), Option.bind_some, uh (by decide)]; simp only [Int.toNat_zero, List.getElem?_cons_zero, Option.bind_some]; rw [xZ (by decide), Option.bind_some, z8 (by decide) (by decide)]) (by rw [ZK, zr, if_neg (by decide)])]; rfl
theorem zhX : zS zhc := by
  constructor
  case objs => intro o ho; simp [zhc] at ho ⊢; rcases ho with rfl | rfl | rfl <;> simp
  case roots => exact ⟨1, by decide, by decide, by decide⟩
  case reg => intro r hr; cases hr
  case prog => intro k r ops hr; cases hr
  all_goals first | decide | rfl
theorem UN : zS zbP := by
  constructor
  case objs => intro o ho; simp [zbP] at ho ⊢; rcases ho with rfl | rfl | rfl <;> simp
  case roots => exact ⟨0, by decide, by decide, by decide⟩
  case reg => intro r hr; cases hr
  case prog => intro k r ops hr; cases hr
  all_goals first | decide | rfl
theorem vR : zS zb5 := by
  constructor
  case objs => intro o ho; simp [zb5] at ho ⊢; rcases ho with rfl | rfl | rfl <;> simp
  case roots => exact ⟨0, by decide, by decide, by decide⟩
  case reg => intro r hr; simp [zb5] at hr ⊢; subst hr; simp
  case prog =>
    intro k r ops hr ho
    have : ops = [] := by
      cases k with
      | zero => injection ho with ho; exact ho.symm
      | succ k => cases ho
    subst this
    exact ⟨by decide, fun o h => by cases h⟩
  all_goals first | decide | rfl
theorem zkB {s : zc} {m : Int} (h : (s.Ms[(m - 1).toNat]?.all fun x => decide (x.PC ≤ 2)) = true) : ∀ x, s.Ms[(m - 1).toNat]? = some x → x.PC ≤ 2 := fun x hx => by
  rw [hx] at h
  simpa using h
theorem zoC : Y9 = some (true, ()) := by
  have E0 := zlD zhX
  have E1 := zlD UN
  have E2 := zlD vR
  have a9 : zT (wH zhc) 9 = some (y0 9 (wH zhc), ()) := WS zhX E0 (n := 9) (by decide)
  have b5 : zT (wH zbP) 5 = some (y0 5 (wH zbP), ()) := WS UN E1 (n := 5) (by decide)
  have b6 : zT (wH zbP) 6 = some (y0 6 (wH zbP), ()) := WS UN E1 (n := 6) (by decide)
  have d6 : (y0 6 (wH zbP)).Done = true := by decide +kernel
  have F1 := zs8 UN E1 6
  have b9 : zT (y0 6 (wH zbP)) 3 = some (y0 6 (wH zbP), ()) := by rw [← zi7 d6 3]; rw [zi7 d6 3]; exact (WS UN F1 (n := 3) (by decide)).trans (by rw [zi7 d6])
  have c9 : zT (wH zb5) 9 = some (y0 9 (wH zb5), ()) := WS vR E2 (n := 9) (by decide)
  have G0 := zs8 vR E2 9
  have m1 := zfc vR G0 1 (zkB (by decide +kernel))
  have G1 := ziH vR G0 1
  have m2 := zfc vR G1 1 (zkB (by decide +kernel))
  have G2 := ziH vR G1 1
  have m3 := zfc vR G2 1 (zkB (by decide +kernel))
  have G3 := ziH vR G2 1
  have v4 : zT (vp (vp (vp (y0 9 (wH zb5)) 1) 1) 1) 4 = some (y0 4 (vp (vp (vp (y0 9 (wH zb5)) 1) 1) 1), ()) := WS vR G3 (n := 4) (by decide)
  have u4 : zT (y0 9 (wH zb5)) 4 = some (y0 4 (y0 9 (wH zb5)), ()) := WS vR G0 (n := 4) (by decide)
  have n1 : Zm { zhc with Roots := 0#64 } = some (wH zbP, ()) := zf5 UN
  have n2 : Zm { zvv with Roots := 0#64, Regs := [[0]] } = some (wH zb5, ()) := zf5 vR
  rw [zeu, ztG]
  simp only [Option.bind_some, zti, zf5 zhX, n1, n2, a9, b5, b6, b9, c9, m1, m2, m3, v4, u4, zrv F1.small]
  decide +kernel
theorem zvM (s : BitVec 64) : 0 ≤ cnt s := by
  unfold cnt
  rw [BitVec.toInt_eq_toNat_cond, BitVec.toNat_and]
  have h1 : (BitVec.ofInt 64 (zup s).toInt).toNat &&& (BitVec.ofInt 64 127).toNat ≤ (BitVec.ofInt 64 127).toNat := Nat.and_le_right
  have h2 : (BitVec.ofInt 64 127).toNat = 127 := by decide
  split <;> omega
theorem zrg {S : Type} {g : Nat → S → S} {Inv : Nat → S → Prop} (hg : ∀ i s, Inv i s → Inv (i + 1) (g i s)) : ∀ (k i : Nat) (s : S), Inv i s → Inv (i + k) (goF g i k s)
  | 0, _, _, h => h
  | k + 1, i, s, h => by
    have := zrg hg k (i + 1) _ (hg i s h)
    rw [show i + 1 + k = i + (k + 1) by omega] at this
    exact this
theorem zrr {s : zc} (hw : 0 < s.Work) (he : s.Epoch = 0) (hd : s.Done = false) (hp : s.D.PC = 0) (n : Nat) : (y0 n s).Epoch = 0 ∧ (y0 n s).Done = false ∧ (y0 n s).D.PC ≤ 1 := by
  have k := zfV (g := fun _ s => vb s) (Inv := fun t : zc => 0 < t.Work ∧ t.Epoch = 0 ∧ t.Done = false ∧ (t.D.PC = 0 ∨ t.D.PC = 1)) (fun _ t ⟨a, b, c, d⟩ => by
    unfold vb
    rw [if_neg (by rw [c]; decide)]
    rcases d with d | d
    · rw [if_pos d]; exact ⟨a, b, c, .inr rfl⟩
    · rw [if_neg (by omega), if_pos d, if_neg (by omega)]; exact ⟨a, b, c, .inr d⟩) n 0 s ⟨hw, he, hd, .inl hp⟩
  obtain ⟨a, b, c, d⟩ := k
  exact ⟨b, c, by show (y0 n s).D.PC ≤ 1; rcases d with d | d <;> (have d : (y0 n s).D.PC = _ := d; omega)⟩
theorem zsx {s : zc} (hw : s.Work = 0) (he : s.Epoch = 0) (hd : s.Done = false) (hp : s.D.PC = 0) (hm : s.Ms.length ≠ 0) (ha : s.Acks.getD 0 0 = 0) (n : Nat) : (y0 n s).Epoch ≤ 1 ∧ (y0 n s).Done = false ∧ (y0 n s).D.PC ≤ 3 := by
  have k := zfV (g := fun _ s => vb s) (Inv := fun t : zc => t.Work = 0 ∧ t.Done = false ∧ t.Ms.length ≠ 0 ∧ t.Acks.getD 0 0 = 0 ∧ ((t.Epoch = 0 ∧ 0 ≤ t.D.PC ∧ t.D.PC ≤ 2) ∨ (t.Epoch = 1 ∧ t.D.PC = 3 ∧ t.D.I = 0))) (fun _ t ⟨a, b, c, d, e⟩ => by
    unfold vb
    rw [if_neg (by rw [b]; decide)]
    rcases e with ⟨e1, e2, e3⟩ | ⟨e1, e2, e3⟩
    · have hx : t.D.PC = 0 ∨ t.D.PC = 1 ∨ t.D.PC = 2 := by omega
      rcases hx with x | x | x
      · rw [if_pos x]; exact ⟨a, b, c, d, .inl ⟨e1, by show (0 : Int) ≤ 1; decide, by show (1 : Int) ≤ 2; decide⟩⟩
      · rw [if_neg (by omega), if_pos x, if_pos a]; exact ⟨a, b, c, d, .inl ⟨e1, by show (0 : Int) ≤ 2; decide, by show (2 : Int) ≤ 2; decide⟩⟩
      · rw [if_neg (by omega), if_neg (by omega), if_pos x]
        exact ⟨a, b, c, d, .inr ⟨by show wc (t.Epoch + 1) = 1; rw [e1]; decide, by show (if t.Ms.length = 0 then (4 : Int) else 3) = 3; rw [if_neg c], rfl⟩⟩
    · rw [if_neg (by omega), if_neg (by omega), if_neg (by omega), if_pos e2, if_pos (by rw [e3, e1]; show t.Acks.getD 0 0 < 1; omega)]
      exact ⟨a, b, c, d, .inr ⟨e1, e2, e3⟩⟩) n 0 s ⟨hw, hd, hm, ha, .inl ⟨he, by omega, by omega⟩⟩
  obtain ⟨a, b, c, d, e⟩ := k
  have e : (((y0 n s).Epoch = 0 ∧ 0 ≤ (y0 n s).D.PC ∧ (y0 n s).D.PC ≤ 2) ∨ ((y0 n s).Epoch = 1 ∧ (y0 n s).D.PC = 3 ∧ (y0 n s).D.I = 0)) := e
  exact ⟨by omega, b, by omega⟩
theorem zry {s : zc} (hw : s.Work = 0) (hd : s.Done = false) (hp : s.D.PC = 0) (hr : s.Restarts = 0) (hm : s.Ms.length = 0) (n : Nat) : (y0 n s).Restarts = 0 ∧ ((y0 n s).Done = true ↔ 6 ≤ n) := by
  have k := zrg (g := fun _ s => vb s) (Inv := fun i (t : zc) => t.Work = 0 ∧ t.Ms.length = 0 ∧ t.Restarts = 0 ∧ ((i = 0 ∧ t.D.PC = 0 ∧ t.Done = false) ∨ (t.Flag = false ∧ t.Done = false ∧ ((i = 1 ∧ t.D.PC = 1) ∨ (i = 2 ∧ t.D.PC = 2) ∨ (i = 3 ∧ t.D.PC = 4) ∨ (i = 4 ∧ t.D.PC = 5) ∨ (i = 5 ∧ t.D.PC = 6))) ∨ (6 ≤ i ∧ t.Done = true))) (fun i t ⟨a, b, c, e⟩ => by
    unfold vb
    rcases e with ⟨e1, e2, e3⟩ | ⟨e1, e2, e3⟩ | ⟨e1, e2⟩
    · rw [if_neg (by rw [e3]; decide), if_pos e2]
      exact ⟨a, b, c, .inr (.inl ⟨rfl, e3, .inl ⟨by omega, rfl⟩⟩)⟩
    · rw [if_neg (by rw [e2]; decide)]
      rcases e3 with ⟨f1, f2⟩ | ⟨f1, f2⟩ | ⟨f1, f2⟩ | ⟨f1, f2⟩ | ⟨f1, f2⟩
      · rw [if_neg (by omega), if_pos f2, if_pos a]
        exact ⟨a, b, c, .inr (.inl ⟨e1, e2, .inr (.inl ⟨by omega, rfl⟩)⟩)⟩
      · rw [if_neg (by omega), if_neg (by omega), if_pos f2]
        exact ⟨a, b, c, .inr (.inl ⟨e1, e2, .inr (.inr (.inl ⟨by omega, by show (if t.Ms.length = 0 then (4 : Int) else 3) = 4; rw [if_pos b]⟩))⟩)⟩
      · rw [if_neg (by omega), if_neg (by omega), if_neg (by omega), if_neg (by omega), if_pos f2, if_pos a]
        exact ⟨a, b, c, .inr (.inl ⟨e1, e2, .inr (.inr (.inr (.inl ⟨by omega, rfl⟩)))⟩)⟩
      · rw [if_neg (by omega), if_neg (by omega), if_neg (by omega), if_neg (by omega), if_neg (by omega), if_pos f2, if_neg (by rw [e1]; decide)]
        exact ⟨a, b, c, .inr (.inl ⟨e1, e2, .inr (.inr (.inr (.inr ⟨by omega, rfl⟩)))⟩)⟩
      · rw [if_neg (by omega), if_neg (by omega), if_neg (by omega), if_neg (by omega), if_neg (by omega), if_neg (by omega), if_pos f2]
        exact ⟨a, b, c, .inr (.inr ⟨by omega, rfl⟩)⟩
    · rw [if_pos e2]
      exact ⟨a, b, c, .inr (.inr ⟨by omega, e2⟩)⟩) n 0 s ⟨hw, hm, hr, .inl ⟨rfl, hp, hd⟩⟩
  rw [Nat.zero_add] at k
  obtain ⟨a, b, c, e⟩ := k
  refine ⟨c, ?_⟩
  have e : ((n = 0 ∧ (y0 n s).D.PC = 0 ∧ (y0 n s).Done = false) ∨ ((y0 n s).Flag = false ∧ (y0 n s).Done = false ∧ ((n = 1 ∧ (y0 n s).D.PC = 1) ∨ (n = 2 ∧ (y0 n s).D.PC = 2) ∨ (n = 3 ∧ (y0 n s).D.PC = 4) ∨ (n = 4 ∧ (y0 n s).D.PC = 5) ∨ (n = 5 ∧ (y0 n s).D.PC = 6))) ∨ (6 ≤ n ∧ (y0 n s).Done = true)) := e
  rcases e with ⟨e1, _, e3⟩ | ⟨_, e2, e3⟩ | ⟨e1, e2⟩
  · rw [e3]; exact ⟨fun h => (by cases h), fun h => by omega⟩
  · rw [e2]; exact ⟨fun h => (by cases h), fun h => by omega⟩
  · rw [e2]; exact ⟨fun _ => e1, fun _ => rfl⟩
theorem detectWaits_plain (l : List (BitVec 8)) (n : BitVec 8) : wg l n = some (true, ()) := by
  obtain ⟨p, ep, h⟩ := zuJ l
  have E0 := zlD h
  have hn := n.isLt
  have et := WS h E0 (n := n.toNat) (by omega)
  have hml := E0.ml
  have hmt := h.mt
  rw [zce, zoC]
  simp only [Option.bind_some, Bool.not_true, cond_false, ep, zf5 h, et, cond_true]
  have hd : (wH p).Done = false := rfl
  have hp : (wH p).D.PC = 0 := rfl
  have he : (wH p).Epoch = 0 := rfl
  by_cases hW : 0 < (wH p).Work
  · obtain ⟨a, b, c⟩ := zrr hW he hd hp n.toNat
    rw [decide_eq_true hW, cond_true, a, b]
    simp [c]
  · have hw0 : (wH p).Work = 0 := by
      have := zvM (Zq p)
      have e : (wH p).Work = cnt (Zq p) := rfl
      omega
    rw [decide_eq_false hW, cond_false]
    by_cases hM : 0 < p.Mutators
    · obtain ⟨a, b, c⟩ := zsx hw0 he hd hp (by omega) (by show (List.replicate p.Mutators.toNat (0 : Int)).getD 0 0 = 0; rw [List.getD_eq_getElem?_getD, List.getElem?_replicate]; split <;> rfl) n.toNat
      rw [decide_eq_true hM, cond_true, b]
      simp [a, c]
    · obtain ⟨a, b⟩ := zry hw0 hd hp rfl (by omega) n.toNat
      rw [decide_eq_false hM, cond_false, a]
      have e6 : (6#8 ≤ n) ↔ 6 ≤ n.toNat := BitVec.le_def
      by_cases h6 : 6 ≤ n.toNat
      · rw [b.2 h6, decide_eq_true (e6.2 h6)]; rfl
      · have : (y0 n.toNat (wH p)).Done = false := by
          cases hx : (y0 n.toNat (wH p)).Done with
          | false => rfl
          | true => exact absurd (b.1 hx) h6
        rw [this, decide_eq_false (fun x => h6 (e6.1 x))]; rfl
end B17
end
end Go.Pe.G
