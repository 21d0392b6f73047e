/- Own work of this seat: PA, PB, PMk, PMade17, PRight, PNew, PInv, PNewOk, PSmall, PSame, PGo, PDq, PWork, PMut, PEng, PLowEq, PMutEq, PWorkEq, PFrame, PLaw17. -/
import Derived.Test.YthmdgkhilfpgfaaGreatDoorDAGb
set_option linter.unusedVariables false
set_option linter.unusedSimpArgs false
set_option linter.unnecessarySimpa false
set_option linter.unusedSectionVars false
set_option linter.deprecated false
set_option maxRecDepth 20000
namespace Go.Pe.G
open Go.Pe
noncomputable section
theorem uG {A B D : Type} {f : A → Option (xi A B D)} (Inv : A → Prop) (ms : A → Nat) (Q : xi Unit B D → Prop)
    (h : ∀ a, Inv a → ∃ o, f a = some o ∧ match o with
      | .again a' => Inv a' ∧ ms a' < ms a
      | .brk b => Q (.brk b)
      | .ret c => Q (.ret c)) : ∀ a, Inv a → ms a < Wn → ∃ o, yy f a = some o ∧ Q o := by
  have key : ∀ (n : Nat) a, Inv a → ms a < n → ∃ o, uH f n a = some o ∧ Q o := by
    intro n
    induction n with
    | zero => intro a _ h; omega
    | succ n ih =>
      intro a ha hm
      obtain ⟨o, ho, hq⟩ := h a ha
      simp only [uH, ho, Option.bind_some]
      cases o with
      | again a' => exact ih a' hq.1 (by have := hq.2; omega)
      | brk b => exact ⟨_, rfl, hq⟩
      | ret c => exact ⟨_, rfl, hq⟩
  intro a ha hm
  rw [Uc]
  exact key Wn a ha hm
theorem wG {n : Nat} (h : n < 18446744073709551616) : n < Wn := h
theorem yf {a : Int} (h : -9223372036854775808 ≤ a) (h2 : a < 9223372036854775808) : w64 a = a := by
  rw [zjg]; omega
def wc (n : Int) : Int := (n + 9223372036854775808) % 18446744073709551616 - 9223372036854775808
theorem yN : w64 = wc := funext zjg
theorem Y6 {a : Int} (h : -9223372036854775808 ≤ a) (h2 : a < 9223372036854775808) : wc a = a := by unfold wc; omega
theorem zxN (a : Int) (h : -9223372036854775808 ≤ a) (h2 : a < 9223372036854775808) : w64 (w64 (a + 1) - 1) = a := by
  simp only [zjg]; omega
theorem zn {α : Type} (p : Prop) [Decidable p] (a b : α) : (bif decide p then a else b) = if p then a else b := by
  by_cases h : p <;> simp [h]
theorem z5 {α : Type} (p : Prop) [Decidable p] (a b : α) : (bif !(decide p) then a else b) = if p then b else a := by
  by_cases h : p <;> simp [h]
theorem wt {α : Type} {l : List α} (h : l.length < 4294967296) : we l = some l := by
  rw [zsw]; simp [h]
theorem wP {α : Type} {l : List α} {i : Int} (h : 0 ≤ i) : idx l i = l[i.toNat]? := by
  unfold idx; simp [h]
theorem v9 {α : Type} {l : List α} {i : Int} (h : 0 ≤ i) (h2 : i < l.length) : xG l i = some i.toNat := by
  unfold xG; simp [h, h2]
def bit (o : Int) : BitVec 64 := if 1 ≤ o ∧ o ≤ 64 then 1#64 <<< (o - 1).toNat else 0#64
theorem ztz (a : Int) : zhK a = some (bit a, ()) := by
  rw [zrQ]
  simp only [zn]
  unfold bit
  by_cases h1 : a < 1
  · rw [if_pos h1, if_neg (by omega)]
  · rw [if_neg h1]
    by_cases h2 : 64 < a
    · rw [if_pos h2, if_neg (by omega)]
    · rw [if_neg h2, yf (a := a - 1) (by omega) (by omega), if_neg (show ¬ a - 1 < 0 by omega), if_pos (show 1 ≤ a ∧ a ≤ 64 by omega), Nat.min_eq_left (by omega)]
theorem zp3 (s : BitVec 64) (o : Int) : zd4 s o = some (!(decide (s &&& bit o = 0#64)), ()) := by
  rw [zsm, ztz]; rfl
theorem zlT (s : BitVec 64) (o : Int) : zaR s o = some (s ||| bit o, ()) := by
  rw [zsc, ztz]; rfl
def ze0 (t : zq) (o : Int) : zq × Bool :=
  if t.Marks ||| bit o = t.Marks then (t, false) else if t.Black &&& bit o = 0#64 then ({ t with Marks := t.Marks ||| bit o }, true) else (t, false)
theorem zoO (t : zq) (o : Int) : zbK t o = some ((ze0 t o).1, (ze0 t o).2, ()) := by
  rw [zo9, zlT, Option.bind_some, zn]
  unfold ze0
  by_cases h1 : t.Marks ||| bit o = t.Marks
  · rw [if_pos h1, if_pos h1]
  · rw [if_neg h1, if_neg h1, zp3, Option.bind_some, z5]
    by_cases h2 : t.Black &&& bit o = 0#64
    · rw [if_pos h2, if_pos h2]
    · rw [if_neg h2, if_neg h2]
theorem zqy {m : List (BitVec 64)} (h : m.length < 4294967296) : y0 m = some (m, ()) := by
  rw [zaE, List.nil_append, wt h, Option.bind_some]
  cases m with
  | nil => simp [zdI]
  | cons a l => simp
theorem ze8 {m : List (List Int)} (h : m.length < 4294967296) : xW m = some (m, ()) := by
  rw [zc7, List.nil_append, wt h, Option.bind_some]
  cases m with
  | nil => simp [zdI]
  | cons a l => simp
def ld (m : List (BitVec 64)) (a : Int) : BitVec 64 := if 0 ≤ a then m.getD a.toNat 0#64 else 0#64
def st (m : List (BitVec 64)) (a : Int) (v : BitVec 64) : List (BitVec 64) := if 0 ≤ a then m.set a.toNat v else m
def sw (m : List (BitVec 64)) (at_ : Int) (a b : BitVec 64) : List (BitVec 64) × Bool :=
  if 0 ≤ at_ ∧ at_ < m.length ∧ ld m at_ = a then (st m at_ b, true) else (m, false)
theorem zrr {m : List (BitVec 64)} {a : Int} (h : 0 ≤ a) (h2 : a < m.length) : m[a.toNat]? = some (ld m a) := by
  unfold ld
  rw [if_pos h, List.getD_eq_getElem?_getD, List.getElem?_eq_getElem (by omega)]; rfl
theorem zti {m : List (BitVec 64)} {a : Int} : st m a (ld m a) = m := by
  unfold st ld
  by_cases h : 0 ≤ a
  · rw [if_pos h, if_pos h]
    by_cases h2 : a.toNat < m.length
    · rw [List.getD_eq_getElem?_getD, List.getElem?_eq_getElem h2]; simp
    · rw [List.set_eq_of_length_le (by omega)]
  · rw [if_neg h]
theorem zvi {m : List (BitVec 64)} {a : Int} (h : a < 0 ∨ m.length ≤ a) : ld m a = 0#64 := by
  unfold ld
  rcases h with h | h
  · rw [if_neg (by omega)]
  · split
    · rw [List.getD_eq_getElem?_getD, List.getElem?_eq_none (by omega)]; rfl
    · rfl
theorem zvm {m : List (BitVec 64)} {a : Int} {v : BitVec 64} (h : a < 0 ∨ m.length ≤ a) : st m a v = m := by
  unfold st
  rcases h with h | h
  · rw [if_neg (by omega)]
  · split
    · rw [List.set_eq_of_length_le (by omega)]
    · rfl
theorem ztq (m : List (BitVec 64)) (a : Int) (x y : BitVec 64) : ∃ b, YC m ⟨1, a, x, y⟩ = some (m, ld m a, b, ()) := by
  rw [zh9]
  simp only [zn, if_true]
  by_cases h1 : a < 0
  · rw [if_pos h1, zvi (.inl h1)]; exact ⟨_, rfl⟩
  · rw [if_neg h1]
    by_cases h2 : (m.length : Int) ≤ a
    · rw [if_pos h2, zvi (.inr h2)]; exact ⟨_, rfl⟩
    · rw [if_neg h2, wP (by omega), zrr (by omega) (by omega), Option.bind_some, zqL, Option.bind_some]
      simp
theorem zr6 {m : List (BitVec 64)} (hm : m.length < 4294967296) (a : Int) (x y : BitVec 64) : ∃ v b, YC m ⟨2, a, x, y⟩ = some (st m a x, v, b, ()) := by
  rw [zh9]
  simp only [zn, if_true, if_neg (show ¬ (2 : Int) = 1 by omega)]
  by_cases h1 : a < 0
  · rw [if_pos h1, zvm (.inl h1)]; exact ⟨_, _, rfl⟩
  · rw [if_neg h1]
    by_cases h2 : (m.length : Int) ≤ a
    · rw [if_pos h2, zvm (.inr h2)]; exact ⟨_, _, rfl⟩
    · rw [if_neg h2, wP (by omega), zrr (by omega) (by omega), Option.bind_some, zqN, Option.bind_some, cond_true, z5]
      by_cases h3 : ld m a = x
      · rw [if_pos h3]
        subst h3
        rw [zti]; exact ⟨_, _, rfl⟩
      · rw [if_neg h3, zqy hm, Option.bind_some, v9 (l := m) (by omega) (by omega), Option.bind_some]
        unfold st
        rw [if_pos (by omega)]
        exact ⟨_, _, rfl⟩
theorem zph {m : List (BitVec 64)} (hm : m.length < 4294967296) (a : Int) (x y : BitVec 64) : ∃ v, YC m ⟨3, a, x, y⟩ = some ((sw m a x y).1, v, (sw m a x y).2, ()) := by
  rw [zh9]
  simp only [zn, if_true, if_neg (show ¬ (3 : Int) = 1 by omega), if_neg (show ¬ (3 : Int) = 2 by omega)]
  by_cases h1 : a < 0
  · rw [if_pos h1]
    have : sw m a x y = (m, false) := by unfold sw; rw [if_neg (by omega)]
    rw [this]; exact ⟨_, rfl⟩
  · rw [if_neg h1]
    by_cases h2 : (m.length : Int) ≤ a
    · rw [if_pos h2]
      have : sw m a x y = (m, false) := by unfold sw; rw [if_neg (by omega)]
      rw [this]; exact ⟨_, rfl⟩
    · rw [if_neg h2, wP (by omega), zrr (by omega) (by omega), Option.bind_some, zqO, Option.bind_some]
      simp only [zn]
      by_cases h3 : ld m a = x
      · have : sw m a x y = (st m a y, true) := by unfold sw; rw [if_pos ⟨by omega, by omega, h3⟩]
        rw [if_pos h3, this, z5]
        by_cases h4 : ld m a = y
        · rw [if_pos h4]
          have : st m a y = m := by rw [← h4, zti]
          rw [this]
          simp [h3]
        · rw [if_neg h4, zqy hm, Option.bind_some, v9 (l := m) (by omega) (by omega), Option.bind_some]
          unfold st
          rw [if_pos (by omega)]
          simp [h3]
      · have : sw m a x y = (m, false) := by unfold sw; rw [if_neg (by rintro ⟨_, _, h⟩; exact h3 h)]
        rw [if_neg h3, this]
        simp [h3]
theorem zo7 (m : List (BitVec 64)) (a : Int) : zb8 m a = some (ld m a, ()) := by
  obtain ⟨b, h⟩ := ztq m a 0#64 0#64
  rw [zoy, h]; rfl
theorem zan {m : List (BitVec 64)} (hm : m.length < 4294967296) (a : Int) (x : BitVec 64) : ZS m a x = some (st m a x, ()) := by
  obtain ⟨v, b, h⟩ := zr6 hm a x 0#64
  rw [znG, h]; rfl
theorem XG (m : List (BitVec 64)) (a : Int) : uD m a = some (ld m a, ()) := by
  obtain ⟨b, h⟩ := ztq m a 0#64 0#64
  rw [zo3, h]; rfl
theorem zag {m : List (BitVec 64)} (hm : m.length < 4294967296) (a : Int) (x : BitVec 64) : ZO m a x = some (st m a x, ()) := by
  obtain ⟨v, b, h⟩ := zr6 hm a x 0#64
  rw [zm4, h]; rfl
def yQ (h : BitVec 64) : Int := (h &&& 4294967295#64).toInt
def Wu (v : BitVec 64) (n : Int) : BitVec 64 := (v <<< 32) ||| (BitVec.ofInt 64 n &&& 4294967295#64)
theorem zfe (h : BitVec 64) : YF h = some (yQ h, ()) := zoP h
theorem zfz (v : BitVec 64) (n : Int) : Wx v n = some (Wu v n, ()) := zoS v n
def zJ (m : List (BitVec 64)) (c : zA) : List (BitVec 64) × zA :=
  if c.Out ≠ 0 ∨ (c.Kind ≠ 1 ∧ c.Kind ≠ 2) ∨ c.PC < 0 ∨ 3 ≤ c.PC then (m, c)
  else if c.PC = 0 then
    (m, if c.Kind = 2 ∧ yQ (ld m c.Head) = 0 then { c with H := ld m c.Head, Out := 2, PC := 1 } else { c with H := ld m c.Head, PC := 1 })
  else if c.PC = 1 then
    if c.Kind = 2 then (m, { c with Y := (ld m (wc (c.Next + yQ c.H))).toInt, PC := 2 })
    else (st m (wc (c.Next + c.X)) (BitVec.ofInt 64 (yQ c.H)), { c with PC := 2 })
  else
    let r := sw m c.Head c.H (Wu ((c.H >>> 32) + 1#64) (if c.Kind = 2 then c.Y else c.X))
    (r.1, if r.2 then (if c.Kind = 2 then { c with X := yQ c.H, Out := 1, PC := 3 } else { c with Out := 1, PC := 3 }) else { c with PC := 0 })
theorem zb7 {m : List (BitVec 64)} (hm : m.length < 4294967296) (c : zA) : Y1 m c = some ((zJ m c).1, (zJ m c).2, ()) := by
  have hsee : wT m c = some (m, (if c.Kind = 2 ∧ yQ (ld m c.Head) = 0 then { c with H := ld m c.Head, Out := 2 } else { c with H := ld m c.Head }), ()) := by
    rw [ze9, zo7, Option.bind_some, zfe, Option.bind_some, zn, zn]
    by_cases h1 : c.Kind = 2
    · by_cases h2 : yQ (ld m c.Head) = 0
      · rw [if_pos h1, if_pos h2, if_pos ⟨h1, h2⟩]
      · rw [if_pos h1, if_neg h2, if_neg (fun h => h2 h.2)]
    · rw [if_neg h1, if_neg (fun h => h1 h.1)]
  have hlink : Yo m c = some (st m (wc (c.Next + c.X)) (BitVec.ofInt 64 (yQ c.H)), ()) := by
    rw [zhl, yN, zfe, Option.bind_some, zan hm]; rfl
  have hbeh : ul m c = some (m, { c with Y := (ld m (wc (c.Next + yQ c.H))).toInt }, ()) := by
    rw [zcO, yN, zfe, Option.bind_some, zo7]; rfl
  have hswap : wB m c = some ((sw m c.Head c.H (Wu ((c.H >>> 32) + 1#64) (if c.Kind = 2 then c.Y else c.X))).1,
      (if (sw m c.Head c.H (Wu ((c.H >>> 32) + 1#64) (if c.Kind = 2 then c.Y else c.X))).2 then (if c.Kind = 2 then { c with X := yQ c.H, Out := 1 } else { c with Out := 1 }) else { c with PC := -1 }), ()) := by
    rw [zer, zn]
    by_cases h1 : c.Kind = 2
    · rw [if_pos h1, zfz, Option.bind_some]
      obtain ⟨v, hv⟩ := zph hm c.Head c.H (Wu ((c.H >>> 32) + 1#64) c.Y)
      simp only [if_pos h1]
      rw [hv, Option.bind_some]
      cases hs : (sw m c.Head c.H (Wu ((c.H >>> 32) + 1#64) c.Y)).2 with
      | true => simp [hs, h1, zfe]
      | false => simp [hs]
    · rw [if_neg h1, zfz, Option.bind_some]
      obtain ⟨v, hv⟩ := zph hm c.Head c.H (Wu ((c.H >>> 32) + 1#64) c.X)
      simp only [if_neg h1]
      rw [hv, Option.bind_some]
      cases hs : (sw m c.Head c.H (Wu ((c.H >>> 32) + 1#64) c.X)).2 with
      | true => simp [hs, h1]
      | false => simp [hs]
  rw [zoj, hsee, hlink, hbeh, hswap]
  simp only [zn, z5, Option.bind_some]
  unfold zJ
  by_cases h0 : c.Out = 0
  · by_cases hp0 : c.PC < 0
    · have : (c.Out ≠ 0 ∨ (c.Kind ≠ 1 ∧ c.Kind ≠ 2) ∨ c.PC < 0 ∨ 3 ≤ c.PC) := .inr (.inr (.inl hp0))
      rw [if_pos this]
      simp [h0, hp0]
    · by_cases hp3 : 3 ≤ c.PC
      · have : (c.Out ≠ 0 ∨ (c.Kind ≠ 1 ∧ c.Kind ≠ 2) ∨ c.PC < 0 ∨ 3 ≤ c.PC) := .inr (.inr (.inr hp3))
        rw [if_pos this]
        simp [h0, hp3]
      · by_cases hk : c.Kind = 1 ∨ c.Kind = 2
        · have : ¬ (c.Out ≠ 0 ∨ (c.Kind ≠ 1 ∧ c.Kind ≠ 2) ∨ c.PC < 0 ∨ 3 ≤ c.PC) := by
            rintro (h | h | h | h)
            · exact h h0
            · omega
            · exact hp0 h
            · exact hp3 h
          rw [if_neg this]
          have hpc : c.PC = 0 ∨ c.PC = 1 ∨ c.PC = 2 := by omega
          have w1 : w64 1 = 1 := yf (by omega) (by omega)
          have w2 : w64 2 = 2 := yf (by omega) (by omega)
          have w3 : w64 3 = 3 := yf (by omega) (by omega)
          have w4 : w64 0 = 0 := yf (by omega) (by omega)
          rcases hk with hk | hk <;> rcases hpc with hpc | hpc | hpc <;> simp [h0, hk, hpc, w1, w2, w3, w4] <;> (try split) <;> simp [hpc, w1, w3, w4]
        · have : (c.Out ≠ 0 ∨ (c.Kind ≠ 1 ∧ c.Kind ≠ 2) ∨ c.PC < 0 ∨ 3 ≤ c.PC) := .inr (.inl (by omega))
          rw [if_pos this]
          have k1 : ¬ c.Kind = 1 := by omega
          have k2 : ¬ c.Kind = 2 := by omega
          simp [h0, k1, k2]
  · have : (c.Out ≠ 0 ∨ (c.Kind ≠ 1 ∧ c.Kind ≠ 2) ∨ c.PC < 0 ∨ 3 ≤ c.PC) := .inl h0
    rw [if_pos this]
    simp [h0]
end
end Go.Pe.G
namespace Go.Pe.G
open Go.Pe
noncomputable section
def Uz (d : zi) : BitVec 64 := BitVec.ofInt 64 (if d.Cap < 1 then 1 else d.Cap)
def zbL (d : zi) (i : BitVec 64) : Int := wc (wc (d.Base + 2) + (i % Uz d).toInt)
def u9 (m : List (BitVec 64)) (d : zi) : List (BitVec 64) × zi :=
  if d.Out ≠ 0 ∨ d.PC < 0 ∨ 4 ≤ d.PC then (m, d)
  else if d.PC = 0 then (m, { d with B := ld m (wc (d.Base + 1)), PC := 1 })
  else if d.PC = 1 then (m, if Uz d ≤ d.B - ld m d.Base then { d with T := ld m d.Base, Out := 3, PC := 2 } else { d with T := ld m d.Base, PC := 2 })
  else if d.PC = 2 then (st m (zbL d d.B) (BitVec.ofInt 64 d.X), { d with PC := 3 })
  else (st m (wc (d.Base + 1)) (d.B + 1#64), { d with Out := 1, PC := 4 })
theorem zrY : w64 0 = 0 ∧ w64 1 = 1 ∧ w64 2 = 2 ∧ w64 3 = 3 ∧ w64 4 = 4 := by
  refine ⟨?_, ?_, ?_, ?_, ?_⟩ <;> exact yf (by omega) (by omega)
theorem zvb {d : zi} (h : d.Cap < 1000) : Uz d ≠ 0#64 := by
  unfold Uz
  intro e
  have := congrArg BitVec.toNat e
  rw [BitVec.toNat_ofInt] at this
  split at this <;> simp at this <;> omega
theorem zo6 (d : zi) : Yf d = some (Uz d, ()) := by
  rw [zhi]; unfold Uz; rw [zn]
theorem zih {d : zi} (h : d.Cap < 1000) (i : BitVec 64) : ud i d = some (zbL d i, ()) := by
  rw [zfS, yN, zo6, Option.bind_some, zn, if_neg (zvb h)]; rfl
theorem zhN {m : List (BitVec 64)} (hm : m.length < 4294967296) {d : zi} (hk : d.Kind = 1) (hc : d.Cap < 1000) : Ui m d = some ((u9 m d).1, (u9 m d).2, ()) := by
  obtain ⟨w0, w1, w2, w3, w4⟩ := zrY
  have h0 : wj m d = some (m, { d with B := ld m (wc (d.Base + 1)) }, ()) := by
    rw [Xc, xl, yN, Option.bind_some, XG]; rfl
  have h1 : Xp m d = some (m, (if Uz d ≤ d.B - ld m d.Base then { d with T := ld m d.Base, Out := 3 } else { d with T := ld m d.Base }), ()) := by
    rw [zez, Zk, Option.bind_some, XG, Option.bind_some, zo6, Option.bind_some, zn]
    have e : Uz { d with T := ld m d.Base } = Uz d := rfl
    simp only [e]
    by_cases h : Uz d ≤ d.B - ld m d.Base
    · rw [if_pos h, if_pos h, xX]
      simp [hk]
    · rw [if_neg h, if_neg h]
  have h2 : VL m d = some (st m (zbL d d.B) (BitVec.ofInt 64 d.X), ()) := by
    rw [ziw, zih hc, Option.bind_some, zag hm]; rfl
  have h3 : ZV m d = some (st m (wc (d.Base + 1)) (d.B + 1#64), { d with Out := 1 }, ()) := by
    rw [zcb, xX]
    simp only [decide_true, Bool.not_true, cond_false, Option.bind_some, xl, yN]
    rw [zag hm]; rfl
  rw [zhX, h0, h1, h2, h3, zeO]
  simp only [hk, decide_true, cond_true, Option.bind_some, z5, zn]
  have key : ∀ (x : Option (List (BitVec 64) × zi × Unit)) (v : List (BitVec 64) × zi × Unit) (y : Option (List (BitVec 64) × zi × Unit)), x = some v → Option.or x y = some v := by
    rintro _ v y rfl; rfl
  apply key
  unfold u9
  by_cases g0 : d.Out = 0
  · by_cases g1 : d.PC < 0
    · simp [g0, g1]
    · by_cases g2 : 4 ≤ d.PC
      · simp [g0, g2]
      · have hpc : d.PC = 0 ∨ d.PC = 1 ∨ d.PC = 2 ∨ d.PC = 3 := by omega
        rcases hpc with h | h | h | h <;> simp [g0, h, hk, w1, w2, w3, w4] <;> (try split) <;> simp [h, hk, w2]
  · simp [g0]
def vz (p : zd) : Int := wc (p.Workers * wc (p.Cap + 2))
def yM (p : zd) : Int := wc (vz p + 1)
def Z0 (p : zd) (w : Int) : Int := wc (wc (w - 1) * wc (p.Cap + 2))
theorem zb0 (p : zd) : YA p = some (vz p, ()) := by rw [zo8, yN]; rfl
theorem U6 (p : zd) : ZR p = some (yM p, ()) := by rw [zno, yN, zb0]; rfl
theorem UB (p : zd) : Zs p = some (yM p, ()) := by rw [zoF, U6]; rfl
theorem zdz (p : zd) (w : Int) : Vn p w = some (Z0 p w, ()) := by rw [znh, yN]; rfl
def zpZ (p : zd) (g : zD) : zD := { g with PC := 5, C := ⟨2, 0, yM p, yM p, 0#64, 0, 0, 0⟩ }
theorem zjT (a : zw) : vd a = some (⟨zpZ a.s.P a.Grey, a.s⟩, ()) := by
  rw [zfT, U6, Option.bind_some, UB, Option.bind_some, YT]; rfl
def zov (s : za) (g : zD) : za × zD :=
  let t := ze0 s.T g.Obj
  ({ s with T := t.1 },
    if t.2 = false then { g with PC := 2 }
    else if g.Mode = 1 then { g with PC := 3, D := ⟨1, 0, Z0 s.P g.Who, s.P.Cap, 0#64, 0#64, g.Obj, 0⟩ }
    else if g.Mode = 2 then { g with PC := 4 }
    else zpZ s.P g)
def zlX (s : za) (g : zD) : za × zD :=
  let r := u9 s.M g.D
  ({ s with M := r.1 }, if r.2.Out = 1 then { g with D := r.2, Out := 1 } else if r.2.Out = 3 then zpZ s.P { g with D := r.2 } else { g with D := r.2 })
def zl3 (s : za) (g : zD) : za × zD :=
  let r := zJ s.M g.C
  ({ s with M := r.1 }, if r.2.Out = 1 then { g with PC := 6, C := r.2, Bin := r.2.X } else if r.2.Out = 2 then zpZ s.P { g with C := r.2 } else { g with C := r.2 })
def zwx (s : za) (g : zD) : za × zD :=
  ({ s with Bins := s.Bins.set g.Bin.toNat [g.Obj] }, { g with PC := 7, C := ⟨1, 0, vz s.P, yM s.P, 0#64, g.Bin, 0, 0⟩ })
def zgV (s : za) (g : zD) : za × zD :=
  let r := zJ s.M g.C
  ({ s with M := r.1 }, if r.2.Out = 1 then { g with C := r.2, Out := 1 } else { g with C := r.2 })
def zH (s : za) (g : zD) : za × zD :=
  if g.Out ≠ 0 ∨ g.Mode < 1 ∨ 3 < g.Mode ∨ g.PC < 0 ∨ 8 ≤ g.PC then (s, g)
  else if g.PC = 7 then zgV s g
  else if g.PC = 6 then zwx s g
  else if g.PC = 5 then zl3 s g
  else if g.PC = 4 then ({ s with Flag := true }, zpZ s.P g)
  else if g.PC = 3 then zlX s g
  else if g.PC = 2 then ({ s with Work := wc (s.Work - 1) }, { g with Out := 1 })
  else if g.PC = 1 then zov s g
  else ({ s with Work := wc (s.Work + 1) }, { g with PC := 1 })
structure GOk (s : za) (g : zD) : Prop where
  mem : s.M.length < 4294967296
  bins : s.Bins.length < 4294967296
  bin : g.PC = 6 → 0 ≤ g.Bin ∧ g.Bin < s.Bins.length
  deq : g.PC = 3 → g.D.Kind = 1 ∧ g.D.Cap < 1000
theorem zqh {s : za} {g : zD} (ok : GOk s g) : U8 s g = some ((zH s g).1, (zH s g).2, ()) := by
  rw [zpN]
  simp only [zn, z5]
  unfold zH
  by_cases h0 : g.Out = 0
  rotate_left
  · rw [if_neg h0, if_pos (.inl h0)]
  rw [if_pos h0]
  by_cases h1 : g.Mode < 1
  · rw [if_pos h1, if_pos (.inr (.inl h1))]
  rw [if_neg h1]
  by_cases h2 : 3 < g.Mode
  · rw [if_pos h2, if_pos (.inr (.inr (.inl h2)))]
  rw [if_neg h2]
  by_cases h3 : g.PC < 0
  · rw [if_pos h3, if_pos (.inr (.inr (.inr (.inl h3))))]
  rw [if_neg h3]
  by_cases h4 : 8 ≤ g.PC
  · rw [if_pos h4, if_pos (.inr (.inr (.inr (.inr h4))))]
  rw [if_neg h4, if_neg (show ¬ (g.Out ≠ 0 ∨ g.Mode < 1 ∨ 3 < g.Mode ∨ g.PC < 0 ∨ 8 ≤ g.PC) by omega)]
  by_cases p7 : g.PC = 7
  · rw [if_pos p7, if_pos p7, zcA]
    simp only [zb7 ok.mem, Option.bind_some, zn]
    by_cases e : (zJ s.M g.C).2.Out = 1 <;> simp [zgV, e]
  rw [if_neg p7, if_neg p7]
  by_cases p6 : g.PC = 6
  · rw [if_pos p6, if_pos p6, zfm]
    obtain ⟨b1, b2⟩ := ok.bin p6
    simp only [ze8 ok.bins, Option.bind_some, v9 (l := s.Bins) b1 b2, zb0, UB, YT]
    rfl
  rw [if_neg p6, if_neg p6]
  by_cases p5 : g.PC = 5
  · rw [if_pos p5, if_pos p5, zfw]
    simp only [zb7 ok.mem, Option.bind_some, zn, zjT]
    by_cases e : (zJ s.M g.C).2.Out = 1
    · simp [zl3, e]
    · by_cases e2 : (zJ s.M g.C).2.Out = 2 <;> simp [zl3, e, e2]
  rw [if_neg p5, if_neg p5]
  by_cases p4 : g.PC = 4
  · rw [if_pos p4, if_pos p4, zfi, zjT]; rfl
  rw [if_neg p4, if_neg p4]
  by_cases p3 : g.PC = 3
  · rw [if_pos p3, if_pos p3, zfg]
    obtain ⟨b1, b2⟩ := ok.deq p3
    simp only [zhN ok.mem b1 b2, Option.bind_some, zn, zjT]
    by_cases e : (u9 s.M g.D).2.Out = 1
    · simp [zlX, e]
    · by_cases e2 : (u9 s.M g.D).2.Out = 3 <;> simp [zlX, e, e2]
  rw [if_neg p3, if_neg p3]
  by_cases p2 : g.PC = 2
  · rw [if_pos p2, if_pos p2, zfk, yN]; rfl
  rw [if_neg p2, if_neg p2]
  by_cases p1 : g.PC = 1
  · rw [if_pos p1, if_pos p1, zfd]
    simp only [zoO, Option.bind_some, zn, zjT, zdz, Vd]
    unfold zov
    cases hs : (ze0 s.T g.Obj).2 with
    | false => simp [hs]
    | true =>
      by_cases m1 : g.Mode = 1
      · simp [hs, m1]
      · by_cases m2 : g.Mode = 2 <;> simp [hs, m1, m2]
  rw [if_neg p1, if_neg p1, if_pos (show g.PC = 0 by omega), zcJ, yN]; rfl
end
end Go.Pe.G
namespace Go.Pe.G
open Go.Pe
noncomputable section
theorem wU {b k : Int} (h : 0 ≤ b) (hk : 0 < k) : 0 ≤ b.tmod k ∧ b.tmod k < k := by
  rw [Int.tmod_eq_emod_of_nonneg h]; exact ⟨Int.emod_nonneg _ (by omega), Int.emod_lt_of_pos _ hk⟩
def zgW (o : zh) (regs slots : Int) : Prop := (0 ≤ o.R ∧ o.R < regs) ∧
  ((o.Kind = 1 ∨ o.Kind = 2) ∧ (0 ≤ o.A ∧ o.A < regs) ∧ (0 ≤ o.S ∧ o.S < slots) ∨ o.Kind = 4 ∧ (0 ≤ o.A ∧ o.A < regs) ∧ o.S = 0 ∨ (o.Kind = 3 ∨ o.Kind = 5) ∧ o.A = 0 ∧ o.S = 0)
structure zQ (p : zd) : Prop where
  wk : 1 ≤ p.Workers ∧ p.Workers ≤ 3
  mt : 0 ≤ p.Mutators ∧ p.Mutators ≤ 2
  cap : 1 ≤ p.Cap ∧ p.Cap ≤ 3
  buf : 1 ≤ p.Buf ∧ p.Buf ≤ 2
  bin : 1 ≤ p.Bin ∧ p.Bin ≤ 3
  price : 0 ≤ p.Price ∧ p.Price ≤ 3
  limit : 0 ≤ p.Limit ∧ p.Limit ≤ 3
  slots : 1 ≤ p.H.Slots ∧ p.H.Slots ≤ 2
  n : 1 ≤ (p.H.Objs.length : Int) ∧ (p.H.Objs.length : Int) ≤ 6
  objs : ∀ o ∈ p.H.Objs, (o.length : Int) = p.H.Slots ∧ ∀ v ∈ o, 0 ≤ v ∧ v ≤ (p.H.Objs.length : Int)
  most : (p.H.Objs.length : Int) ≤ p.Most ∧ p.Most ≤ (p.H.Objs.length : Int) + 3
  roots : ∃ r, 0 ≤ r ∧ r ≤ (p.H.Objs.length : Int) ∧ p.Roots = bit r
  regs : (p.Regs.length : Int) = p.Mutators
  progs : (p.Progs.length : Int) = p.Mutators
  reg : ∀ r ∈ p.Regs, (1 ≤ (r.length : Int) ∧ (r.length : Int) ≤ 3) ∧ ∀ v ∈ r, 0 ≤ v ∧ v ≤ (p.H.Objs.length : Int)
  prog : ∀ (k : Nat) r ops, p.Regs[k]? = some r → p.Progs[k]? = some ops → (ops.length : Int) ≤ 7 ∧ ∀ o ∈ ops, zgW o (r.length : Int) p.H.Slots
  picks : p.Picks = []
end
end Go.Pe.G
namespace Go.Pe.G
open Go.Pe
noncomputable section
namespace B17
def Xn (m : zx) : Prop := 0 ≤ m.At ∧ m.At ≤ m.L.length ∧ m.L.length ≤ 90
theorem vu {m : zx} (h : Xn m) : ∃ b m', zt m = some (b, m', ()) ∧ (0 ≤ b ∧ b < 256) ∧ Xn m' := by
  obtain ⟨h1, h2, h3⟩ := h
  rw [zcg, zn]
  by_cases h : (m.L.length : Int) ≤ m.At
  · rw [if_pos h]; exact ⟨_, _, rfl, by omega, h1, h2, h3⟩
  · rw [if_neg h, yf (a := m.At + 1) (by omega) (by omega), yf (by omega) (by omega), wP (by omega), List.getElem?_eq_getElem (by omega), Option.bind_some]
    exact ⟨_, _, rfl, by have := (m.L[(m.At + 1 - 1).toNat]'(by omega)).isLt; omega, show 0 ≤ m.At + 1 by omega, show m.At + 1 ≤ m.L.length by omega, h3⟩
theorem zxO {m : zx} (h : Xn m) {regs slots : Int} (hr : 1 ≤ regs) (hs : 1 ≤ slots) : ∃ o m', YX regs slots m = some (o, m', ()) ∧ zgW o regs slots ∧ Xn m' := by
  obtain ⟨b1, m1, e1, r1, k1⟩ := vu h
  obtain ⟨b2, m2, e2, r2, k2⟩ := vu k1
  obtain ⟨b3, m3, e3, r3, k3⟩ := vu k2
  obtain ⟨b4, m4, e4, r4, k4⟩ := vu k3
  have t1 := wU r1.1 (show (0 : Int) < 8 by omega)
  have t2 := wU r2.1 (show (0 : Int) < regs by omega)
  have t3 := wU r3.1 (show (0 : Int) < regs by omega)
  have t4 := wU r4.1 (show (0 : Int) < slots by omega)
  have t5 := wU r3.1 (show (0 : Int) < slots by omega)
  have hn : ¬ regs = 0 := by omega
  have hn2 : ¬ slots = 0 := by omega
  rw [zd2, e1, Option.bind_some, v9 t1.1 (by simpa using t1.2), Option.bind_some]
  have hx : b1.tmod 8 = 0 ∨ b1.tmod 8 = 1 ∨ b1.tmod 8 = 2 ∨ b1.tmod 8 = 3 ∨ b1.tmod 8 = 4 ∨ b1.tmod 8 = 5 ∨ b1.tmod 8 = 6 ∨ b1.tmod 8 = 7 := by omega
  rcases hx with hx | hx | hx | hx | hx | hx | hx | hx <;> simp [hx, e2, e3, e4, hn, hn2] <;> refine ⟨_, _, ⟨rfl, rfl⟩, ?_, by assumption⟩ <;> (unfold zgW; dsimp only; omega)
theorem zv1 {s1 : Int} {s2 : Int} {s4 : Int} {s5 : Int} {s6 : Int} {s7 : Int} {s8 : Int} {s9 : Int} {s10 : Int} {s11 : Int} {s12 : Int} {s13 : BitVec 64} {s15 : Int} {s16 : Int} {s17 : Int} {s18 : Int} {s19 : Int} {s20 : Int} {s21 : Int} {s22 : Int} {s23 : Int} {s24 : BitVec 64} {s26 : List (List Int)} {s27 : List (List Int)} {s28 : List (List zh)} {s29 : List zj} {s30 : List (List Int)} {s31 : List (List Int)} {s32 : List (List zh)} {s33 : List zj} (hn : 1 ≤ s1 ∧ s1 ≤ 6) (hs : 1 ≤ s23 ∧ s23 ≤ 2) {mk : zx} (hm : Xn mk) :
    ∃ mk' l, yy ZA (s1, s2, 0, s4, s5, s6, s7, s8, s9, s10, s11, s12, s13, mk, s15, s16, s17, s18, s19, s20, s21, s22, s23, s24, [], s26, s27, s28, s29, s30, s31, s32, s33, ()) = some (.brk (s1, s2, s4, s5, s6, s7, s8, s9, s10, s11, s12, s13, mk', s15, s16, s17, s18, s19, s20, s21, s22, s23, s24, l, s26, s27, s28, s29, s30, s31, s32, s33, ())) ∧ Xn mk' ∧ (l.length : Int) = s23 ∧ ∀ v ∈ l, 0 ≤ v ∧ v ≤ s1 := by
  refine (uG (f := ZA)
    (fun a => ∃ i mk l, a = (s1, s2, i, s4, s5, s6, s7, s8, s9, s10, s11, s12, s13, mk, s15, s16, s17, s18, s19, s20, s21, s22, s23, s24, l, s26, s27, s28, s29, s30, s31, s32, s33, ()) ∧ Xn mk ∧ (0 ≤ i ∧ i ≤ s23 ∧ (l.length : Int) = i) ∧ ∀ v ∈ l, 0 ≤ v ∧ v ≤ s1)
    (fun a => (s23 - a.2.2.1).toNat)
    (fun o => match o with | .brk b => ∃ mk l, b = (s1, s2, s4, s5, s6, s7, s8, s9, s10, s11, s12, s13, mk, s15, s16, s17, s18, s19, s20, s21, s22, s23, s24, l, s26, s27, s28, s29, s30, s31, s32, s33, ()) ∧ Xn mk ∧ (l.length : Int) = s23 ∧ ∀ v ∈ l, 0 ≤ v ∧ v ≤ s1 | _ => False) ?_
    (s1, s2, 0, s4, s5, s6, s7, s8, s9, s10, s11, s12, s13, mk, s15, s16, s17, s18, s19, s20, s21, s22, s23, s24, [], s26, s27, s28, s29, s30, s31, s32, s33, ()) ⟨0, mk, [], rfl, hm, by simp; omega, by simp⟩ (wG (by simp; omega))).elim fun o h => ?_
  rotate_left
  · obtain ⟨ho, hq⟩ := h
    cases o with
    | again a => exact hq.elim
    | ret a => exact hq.elim
    | brk b =>
      obtain ⟨mk', l, rfl, h1, h2, h3⟩ := hq
      exact ⟨mk', l, ho, h1, h2, h3⟩
  · rintro _ ⟨i, mk, l, rfl, h1, h2, h3⟩
    rw [zf5, zn]
    by_cases hi : i < s23
    · rw [if_pos hi]
      obtain ⟨b, mk', e, r, k⟩ := vu h1
      have w1 : w64 (s1 + 1) = s1 + 1 := yf (by omega) (by omega)
      have t := wU r.1 (show 0 < s1 + 1 by omega)
      rw [e, Option.bind_some, w1, zn, if_neg (by omega), wt (by simp; omega), Option.bind_some, yf (a := i + 1) (by omega) (by omega)]
      refine ⟨_, rfl, ⟨i + 1, mk', l ++ [b.tmod (s1 + 1)], rfl, k, by simp; omega, fun v hv => ?_⟩, ?_⟩
      · rcases List.mem_append.1 hv with hv | hv
        · exact h3 v hv
        · simp at hv; omega
      · show (s23 - (i + 1)).toNat < (s23 - i).toNat
        omega
    · rw [if_neg hi]
      exact ⟨_, rfl, mk, l, rfl, h1, by omega, h3⟩
theorem zwF {s1 : Int} {s3 : Int} {s4 : Int} {s5 : Int} {s6 : Int} {s7 : Int} {s8 : Int} {s9 : Int} {s10 : Int} {s11 : Int} {s12 : BitVec 64} {s14 : Int} {s15 : Int} {s16 : Int} {s17 : Int} {s18 : Int} {s19 : Int} {s20 : Int} {s21 : Int} {s22 : Int} {s23 : BitVec 64} {s24 : List (List Int)} {s25 : List (List Int)} {s26 : List (List zh)} {s27 : List zj} {s29 : List (List Int)} {s30 : List (List zh)} {s31 : List zj} (hn : 1 ≤ s1 ∧ s1 ≤ 6) (hs : 1 ≤ s22 ∧ s22 ≤ 2) {mk : zx} (hm : Xn mk) :
    ∃ mk' l, yy Yb (s1, 0, s3, s4, s5, s6, s7, s8, s9, s10, s11, s12, mk, s14, s15, s16, s17, s18, s19, s20, s21, s22, s23, s24, s25, s26, s27, [], s29, s30, s31, ()) = some (.brk (s1, s3, s4, s5, s6, s7, s8, s9, s10, s11, s12, mk', s14, s15, s16, s17, s18, s19, s20, s21, s22, s23, s24, s25, s26, s27, l, s29, s30, s31, ())) ∧ Xn mk' ∧ (l.length : Int) = s1 ∧ ∀ o ∈ l, (o.length : Int) = s22 ∧ ∀ v ∈ o, 0 ≤ v ∧ v ≤ s1 := by
  refine (uG (f := Yb)
    (fun a => ∃ i mk l, a = (s1, i, s3, s4, s5, s6, s7, s8, s9, s10, s11, s12, mk, s14, s15, s16, s17, s18, s19, s20, s21, s22, s23, s24, s25, s26, s27, l, s29, s30, s31, ()) ∧ Xn mk ∧ (0 ≤ i ∧ i ≤ s1 ∧ (l.length : Int) = i) ∧ ∀ o ∈ l, (o.length : Int) = s22 ∧ ∀ v ∈ o, 0 ≤ v ∧ v ≤ s1)
    (fun a => (s1 - a.2.1).toNat)
    (fun o => match o with | .brk b => ∃ mk l, b = (s1, s3, s4, s5, s6, s7, s8, s9, s10, s11, s12, mk, s14, s15, s16, s17, s18, s19, s20, s21, s22, s23, s24, s25, s26, s27, l, s29, s30, s31, ()) ∧ Xn mk ∧ (l.length : Int) = s1 ∧ ∀ o ∈ l, (o.length : Int) = s22 ∧ ∀ v ∈ o, 0 ≤ v ∧ v ≤ s1 | _ => False) ?_
    (s1, 0, s3, s4, s5, s6, s7, s8, s9, s10, s11, s12, mk, s14, s15, s16, s17, s18, s19, s20, s21, s22, s23, s24, s25, s26, s27, [], s29, s30, s31, ()) ⟨0, mk, [], rfl, hm, by simp; omega, by simp⟩ (wG (by simp; omega))).elim fun o h => ?_
  rotate_left
  · obtain ⟨ho, hq⟩ := h
    cases o with
    | again a => exact hq.elim
    | ret a => exact hq.elim
    | brk b =>
      obtain ⟨mk', l, rfl, h1, h2, h3⟩ := hq
      exact ⟨mk', l, ho, h1, h2, h3⟩
  · rintro _ ⟨i, mk, l, rfl, h1, h2, h3⟩
    rw [zg8, zn]
    by_cases hi : i < s1
    · rw [if_pos hi]
      obtain ⟨mk', o, e, g1, g2, g3⟩ := zv1 hn hs h1
      rw [e]
      simp only [Option.bind_some]
      rw [wt (by simp; omega), Option.bind_some, yf (a := i + 1) (by omega) (by omega)]
      refine ⟨_, rfl, ⟨i + 1, mk', l ++ [o], rfl, g1, by simp; omega, fun v hv => ?_⟩, ?_⟩
      · rcases List.mem_append.1 hv with hv | hv
        · exact h3 v hv
        · simp at hv; subst hv; exact ⟨g2, g3⟩
      · show (s1 - (i + 1)).toNat < (s1 - i).toNat
        omega
    · rw [if_neg hi]
      exact ⟨_, rfl, mk, l, rfl, h1, by omega, h3⟩
theorem zwl {s1 : Int} {s2 : Int} {s4 : Int} {s5 : Int} {s6 : Int} {s7 : Int} {s8 : Int} {s9 : Int} {s10 : Int} {s11 : Int} {s12 : Int} {s13 : BitVec 64} {s15 : Int} {s16 : Int} {s17 : Int} {s18 : Int} {s19 : Int} {s20 : Int} {s21 : Int} {s22 : Int} {s23 : Int} {s24 : BitVec 64} {s26 : List (List Int)} {s27 : List (List Int)} {s28 : List (List zh)} {s29 : List zj} {s30 : List (List Int)} {s31 : List (List Int)} {s32 : List (List zh)} {s33 : List zj} (hn : 1 ≤ s1 ∧ s1 ≤ 6) {mk : zx} (hm : Xn mk) :
    ∃ mk' l, yy ZH (s1, s2, 0, s4, s5, s6, s7, s8, s9, s10, s11, s12, s13, mk, s15, s16, s17, s18, s19, s20, s21, s22, s23, s24, [], s26, s27, s28, s29, s30, s31, s32, s33, ()) = some (.brk (s1, s2, s4, s5, s6, s7, s8, s9, s10, s11, s12, s13, mk', s15, s16, s17, s18, s19, s20, s21, s22, s23, s24, l, s26, s27, s28, s29, s30, s31, s32, s33, ())) ∧ Xn mk' ∧ (1 ≤ (l.length : Int) ∧ (l.length : Int) ≤ 3) ∧ ∀ v ∈ l, 0 ≤ v ∧ v ≤ s1 := by
  refine (uG (f := ZH)
    (fun a => ∃ i mk l, a = (s1, s2, i, s4, s5, s6, s7, s8, s9, s10, s11, s12, s13, mk, s15, s16, s17, s18, s19, s20, s21, s22, s23, s24, l, s26, s27, s28, s29, s30, s31, s32, s33, ()) ∧ Xn mk ∧ (0 ≤ i ∧ i ≤ 3 ∧ (l.length : Int) = i) ∧ ∀ v ∈ l, 0 ≤ v ∧ v ≤ s1)
    (fun a => (3 - a.2.2.1).toNat)
    (fun o => match o with | .brk b => ∃ mk l, b = (s1, s2, s4, s5, s6, s7, s8, s9, s10, s11, s12, s13, mk, s15, s16, s17, s18, s19, s20, s21, s22, s23, s24, l, s26, s27, s28, s29, s30, s31, s32, s33, ()) ∧ Xn mk ∧ (1 ≤ (l.length : Int) ∧ (l.length : Int) ≤ 3) ∧ ∀ v ∈ l, 0 ≤ v ∧ v ≤ s1 | _ => False) ?_
    (s1, s2, 0, s4, s5, s6, s7, s8, s9, s10, s11, s12, s13, mk, s15, s16, s17, s18, s19, s20, s21, s22, s23, s24, [], s26, s27, s28, s29, s30, s31, s32, s33, ()) ⟨0, mk, [], rfl, hm, by simp, by simp⟩ (wG (by simp))).elim fun o h => ?_
  rotate_left
  · obtain ⟨ho, hq⟩ := h
    cases o with
    | again a => exact hq.elim
    | ret a => exact hq.elim
    | brk b =>
      obtain ⟨mk', l, rfl, h1, h2, h3⟩ := hq
      exact ⟨mk', l, ho, h1, h2, h3⟩
  · rintro _ ⟨i, mk, l, rfl, h1, h2, h3⟩
    obtain ⟨b0, mk0, e0, r0, k0⟩ := vu h1
    have t0 := wU r0.1 (show (0 : Int) < 3 by omega)
    rw [zgQ, e0, Option.bind_some, zn, yf (a := 1 + b0.tmod 3) (by omega) (by omega)]
    by_cases hi : i < 1 + b0.tmod 3
    · rw [if_pos hi]
      obtain ⟨b, mk', e, r, k⟩ := vu k0
      have w1 : w64 (s1 + 1) = s1 + 1 := yf (by omega) (by omega)
      have t := wU r.1 (show 0 < s1 + 1 by omega)
      rw [e, Option.bind_some, w1, zn, if_neg (by omega), wt (by simp; omega), Option.bind_some, yf (a := i + 1) (by omega) (by omega)]
      refine ⟨_, rfl, ⟨i + 1, mk', l ++ [b.tmod (s1 + 1)], rfl, k, by simp; omega, fun v hv => ?_⟩, ?_⟩
      · rcases List.mem_append.1 hv with hv | hv
        · exact h3 v hv
        · simp at hv; omega
      · show (3 - (i + 1)).toNat < (3 - i).toNat
        omega
    · rw [if_neg hi]
      exact ⟨_, rfl, mk0, l, rfl, k0, by omega, h3⟩
theorem zv7 {s1 : Int} {s2 : Int} {s4 : Int} {s5 : Int} {s6 : Int} {s7 : Int} {s8 : Int} {s9 : Int} {s10 : Int} {s11 : Int} {s12 : Int} {s13 : BitVec 64} {s15 : Int} {s16 : Int} {s17 : Int} {s18 : Int} {s19 : Int} {s20 : Int} {s21 : Int} {s22 : Int} {s23 : Int} {s24 : BitVec 64} {s25 : List Int} {s27 : List (List Int)} {s28 : List (List Int)} {s29 : List (List zh)} {s30 : List zj} {s31 : List (List Int)} {s32 : List (List Int)} {s33 : List (List zh)} {s34 : List zj} (hr : 1 ≤ (s25.length : Int)) (hs : 1 ≤ s23 ∧ s23 ≤ 2) {k0 : Int} (hk : 0 ≤ k0 ∧ k0 < 8) {mk : zx} (hm : Xn mk) :
    ∃ mk' l, yy ua (s1, s2, k0, s4, s5, s6, s7, s8, s9, s10, s11, s12, s13, mk, s15, s16, s17, s18, s19, s20, s21, s22, s23, s24, s25, [], s27, s28, s29, s30, s31, s32, s33, s34, ()) = some (.brk (s1, s2, s4, s5, s6, s7, s8, s9, s10, s11, s12, s13, mk', s15, s16, s17, s18, s19, s20, s21, s22, s23, s24, s25, l, s27, s28, s29, s30, s31, s32, s33, s34, ())) ∧ Xn mk' ∧ (l.length : Int) ≤ 7 ∧ ∀ o ∈ l, zgW o (s25.length : Int) s23 := by
  refine (uG (f := ua)
    (fun a => ∃ i mk l, a = (s1, s2, i, s4, s5, s6, s7, s8, s9, s10, s11, s12, s13, mk, s15, s16, s17, s18, s19, s20, s21, s22, s23, s24, s25, l, s27, s28, s29, s30, s31, s32, s33, s34, ()) ∧ Xn mk ∧ (0 ≤ i ∧ (l.length : Int) + i ≤ 7) ∧ ∀ o ∈ l, zgW o (s25.length : Int) s23)
    (fun a => (a.2.2.1).toNat)
    (fun o => match o with | .brk b => ∃ mk l, b = (s1, s2, s4, s5, s6, s7, s8, s9, s10, s11, s12, s13, mk, s15, s16, s17, s18, s19, s20, s21, s22, s23, s24, s25, l, s27, s28, s29, s30, s31, s32, s33, s34, ()) ∧ Xn mk ∧ (l.length : Int) ≤ 7 ∧ ∀ o ∈ l, zgW o (s25.length : Int) s23 | _ => False) ?_
    (s1, s2, k0, s4, s5, s6, s7, s8, s9, s10, s11, s12, s13, mk, s15, s16, s17, s18, s19, s20, s21, s22, s23, s24, s25, [], s27, s28, s29, s30, s31, s32, s33, s34, ()) ⟨k0, mk, [], rfl, hm, by simp; omega, by simp⟩ (wG (by simp; omega))).elim fun o h => ?_
  rotate_left
  · obtain ⟨ho, hq⟩ := h
    cases o with
    | again a => exact hq.elim
    | ret a => exact hq.elim
    | brk b =>
      obtain ⟨mk', l, rfl, h1, h2, h3⟩ := hq
      exact ⟨mk', l, ho, h1, h2, h3⟩
  · rintro _ ⟨i, mk, l, rfl, h1, h2, h3⟩
    rw [zgC, zn]
    by_cases hi : 0 < i
    · rw [if_pos hi]
      obtain ⟨o, mk', e, r, k⟩ := zxO h1 hr hs.1
      rw [e, Option.bind_some, wt (by simp; omega), Option.bind_some, yf (a := i - 1) (by omega) (by omega)]
      refine ⟨_, rfl, ⟨i - 1, mk', l ++ [o], rfl, k, by simp; omega, fun v hv => ?_⟩, ?_⟩
      · rcases List.mem_append.1 hv with hv | hv
        · exact h3 v hv
        · simp at hv; subst hv; exact r
      · show (i - 1).toNat < i.toNat
        omega
    · rw [if_neg hi]
      exact ⟨_, rfl, mk, l, rfl, h1, by omega, h3⟩
theorem zwt {s1 : Int} {s3 : Int} {s4 : Int} {s5 : Int} {s6 : Int} {s7 : Int} {s8 : Int} {s9 : Int} {s10 : Int} {s11 : Int} {s12 : BitVec 64} {s14 : Int} {s15 : Int} {s16 : Int} {s17 : Int} {s18 : Int} {s19 : Int} {s20 : Int} {s21 : Int} {s22 : Int} {s23 : BitVec 64} {s24 : List (List Int)} {s25 : List (List Int)} {s26 : List (List zh)} {s27 : List zj} {s28 : List (List Int)} {s31 : List zj} (hn : 1 ≤ s1 ∧ s1 ≤ 6) (hm0 : 0 ≤ s15 ∧ s15 ≤ 2) (hs : 1 ≤ s22 ∧ s22 ≤ 2) {mk : zx} (hm : Xn mk) :
    ∃ regs progs, yy ZD (s1, 0, s3, s4, s5, s6, s7, s8, s9, s10, s11, s12, mk, s14, s15, s16, s17, s18, s19, s20, s21, s22, s23, s24, s25, s26, s27, s28, [], [], s31, ()) = some (.brk (s3, s4, s5, s6, s7, s8, s9, s10, s11, s12, s14, s15, s16, s17, s18, s19, s20, s21, s22, s23, s24, s25, s26, s27, s28, regs, progs, s31, ())) ∧ (regs.length : Int) = s15 ∧ (regs.length = progs.length) ∧ (∀ r ∈ regs, (1 ≤ (r.length : Int) ∧ (r.length : Int) ≤ 3) ∧ ∀ v ∈ r, 0 ≤ v ∧ v ≤ s1) ∧ ∀ (k : Nat) r ops, regs[k]? = some r → progs[k]? = some ops → (ops.length : Int) ≤ 7 ∧ ∀ o ∈ ops, zgW o (r.length : Int) s22 := by
  refine (uG (f := ZD)
    (fun a => ∃ i mk regs progs, a = (s1, i, s3, s4, s5, s6, s7, s8, s9, s10, s11, s12, mk, s14, s15, s16, s17, s18, s19, s20, s21, s22, s23, s24, s25, s26, s27, s28, regs, progs, s31, ()) ∧ Xn mk ∧ (0 ≤ i ∧ i ≤ s15 ∧ (regs.length : Int) = i) ∧ (regs.length = progs.length) ∧ (∀ r ∈ regs, (1 ≤ (r.length : Int) ∧ (r.length : Int) ≤ 3) ∧ ∀ v ∈ r, 0 ≤ v ∧ v ≤ s1) ∧ ∀ (k : Nat) r ops, regs[k]? = some r → progs[k]? = some ops → (ops.length : Int) ≤ 7 ∧ ∀ o ∈ ops, zgW o (r.length : Int) s22)
    (fun a => (s15 - a.2.1).toNat)
    (fun o => match o with | .brk b => ∃ regs progs, b = (s3, s4, s5, s6, s7, s8, s9, s10, s11, s12, s14, s15, s16, s17, s18, s19, s20, s21, s22, s23, s24, s25, s26, s27, s28, regs, progs, s31, ()) ∧ (regs.length : Int) = s15 ∧ (regs.length = progs.length) ∧ (∀ r ∈ regs, (1 ≤ (r.length : Int) ∧ (r.length : Int) ≤ 3) ∧ ∀ v ∈ r, 0 ≤ v ∧ v ≤ s1) ∧ ∀ (k : Nat) r ops, regs[k]? = some r → progs[k]? = some ops → (ops.length : Int) ≤ 7 ∧ ∀ o ∈ ops, zgW o (r.length : Int) s22 | _ => False) ?_
    (s1, 0, s3, s4, s5, s6, s7, s8, s9, s10, s11, s12, mk, s14, s15, s16, s17, s18, s19, s20, s21, s22, s23, s24, s25, s26, s27, s28, [], [], s31, ()) ⟨0, mk, [], [], rfl, hm, by simp; omega, rfl, by simp, by simp⟩ (wG (by simp; omega))).elim fun o h => ?_
  rotate_left
  · obtain ⟨ho, hq⟩ := h
    cases o with
    | again a => exact hq.elim
    | ret a => exact hq.elim
    | brk b =>
      obtain ⟨regs, progs, rfl, h⟩ := hq
      exact ⟨regs, progs, ho, h⟩
  · rintro _ ⟨i, mk, regs, progs, rfl, h1, h2, h3, h4, h5⟩
    rw [zgL, zn]
    by_cases hi : i < s15
    · rw [if_pos hi]
      obtain ⟨mk1, r, e, g1, g2, g3⟩ := zwl hn h1
      rw [e]
      simp only [Option.bind_some]
      rw [zn, if_neg (by omega)]
      obtain ⟨b, mk2, e2, r2, k2⟩ := vu g1
      rw [e2, Option.bind_some]
      obtain ⟨mk3, ops, e3, f1, f2, f3⟩ := zv7 (s25 := r) g2.1 hs (wU r2.1 (show (0 : Int) < 8 by omega)) k2
      rw [e3]
      simp only [Option.bind_some]
      rw [wt (by simp; omega), Option.bind_some, wt (by simp; omega), Option.bind_some, yf (a := i + 1) (by omega) (by omega)]
      refine ⟨_, rfl, ⟨i + 1, mk3, regs ++ [r], progs ++ [ops], rfl, f1, by simp; omega, by simp [h3], fun v hv => ?_, fun k r' ops' hk1 hk2 => ?_⟩, ?_⟩
      · rcases List.mem_append.1 hv with hv | hv
        · exact h4 v hv
        · simp at hv; subst hv; exact ⟨g2, g3⟩
      · rcases Nat.lt_or_ge k regs.length with hlt | hge
        · rw [List.getElem?_append_left hlt] at hk1
          rw [List.getElem?_append_left (by omega)] at hk2
          exact h5 k r' ops' hk1 hk2
        · rw [List.getElem?_append_right hge] at hk1
          rw [List.getElem?_append_right (by omega), ← h3] at hk2
          have hk0 : k - regs.length = 0 := by
            have := (List.getElem?_eq_some_iff.1 hk1).1
            simpa using this
          rw [hk0] at hk1 hk2
          simp at hk1 hk2
          subst hk1; subst hk2
          exact ⟨f2, f3⟩
      · show (s15 - (i + 1)).toNat < (s15 - i).toNat
        omega
    · rw [if_neg hi]
      exact ⟨_, rfl, regs, progs, rfl, by omega, h3, h4, h5⟩
theorem zwA (l : List (BitVec 8)) : ∃ p, US l = some (p, ()) ∧ zQ p := by
  rw [zjy, zn]
  obtain ⟨m, em, hl⟩ : ∃ m, cut l 0 (if 90 < (l.length : Int) then 90 else (l.length : Int)) = some m ∧ m.length ≤ 90 := by
    unfold cut
    by_cases h : 90 < (l.length : Int)
    · have h2 : (90 : Int) ≤ l.length := by omega
      rw [if_pos h]; exact ⟨l.take 90, by simp [h2], List.length_take_le _ _⟩
    · rw [if_neg h]; exact ⟨l, by simp, by omega⟩
  rw [em, Option.bind_some]
  obtain ⟨b1, m1, e1, r1, k1⟩ := vu (m := ⟨m, 0⟩) ⟨by simp, by simp, hl⟩
  obtain ⟨b2, m2, e2, r2, k2⟩ := vu k1
  obtain ⟨b3, m3, e3, r3, k3⟩ := vu k2
  obtain ⟨b4, m4, e4, r4, k4⟩ := vu k3
  obtain ⟨b5, m5, e5, r5, k5⟩ := vu k4
  obtain ⟨b6, m6, e6, r6, k6⟩ := vu k5
  obtain ⟨b7, m7, e7, r7, k7⟩ := vu k6
  obtain ⟨b8, m8, e8, r8, k8⟩ := vu k7
  obtain ⟨b9, m9, e9, r9, k9⟩ := vu k8
  obtain ⟨b10, m10, e10, r10, k10⟩ := vu k9
  simp only [e1, e2, e3, e4, e5, e6, e7, e8, e9, e10, Option.bind_some]
  have t1 := wU r1.1 (show (0 : Int) < 3 by omega)
  have t2 := wU r2.1 (show (0 : Int) < 3 by omega)
  have t3 := wU r3.1 (show (0 : Int) < 3 by omega)
  have t4 := wU r4.1 (show (0 : Int) < 2 by omega)
  have t5 := wU r5.1 (show (0 : Int) < 3 by omega)
  have t6 := wU r6.1 (show (0 : Int) < 4 by omega)
  have t7 := wU r7.1 (show (0 : Int) < 4 by omega)
  have t8 := wU r8.1 (show (0 : Int) < 2 by omega)
  have t9 := wU r9.1 (show (0 : Int) < 6 by omega)
  have t10 := wU r10.1 (show (0 : Int) < 4 by omega)
  rw [yf (a := 1 + b9.tmod 6) (by omega) (by omega), yf (a := 1 + b1.tmod 3) (by omega) (by omega), yf (a := 1 + b3.tmod 3) (by omega) (by omega), yf (a := 1 + b4.tmod 2) (by omega) (by omega), yf (a := 1 + b5.tmod 3) (by omega) (by omega),
    yf (a := 1 + b9.tmod 6 + b10.tmod 4) (by omega) (by omega), yf (a := 1 + b8.tmod 2) (by omega) (by omega)]
  obtain ⟨m11, objs, e11, g1, g2, g3⟩ := zwF (s1 := 1 + b9.tmod 6) (s22 := 1 + b8.tmod 2) (by omega) (by omega) k10
  rw [e11]
  simp only [Option.bind_some]
  obtain ⟨b12, m12, e12, r12, k12⟩ := vu g1
  rw [e12, Option.bind_some, yf (a := 1 + b9.tmod 6 + 1) (by omega) (by omega), zn, if_neg (by omega)]
  have t12 := wU r12.1 (show (0 : Int) < 1 + b9.tmod 6 + 1 by omega)
  rw [zlT, Option.bind_some]
  obtain ⟨regs, progs, e13, f1, f2, f3, f4⟩ := zwt (s1 := 1 + b9.tmod 6) (s15 := b2.tmod 3) (s22 := 1 + b8.tmod 2) (by omega) (by omega) (by omega) k12
  rw [e13]
  simp only [Option.bind_some]
  refine ⟨_, rfl, ?_⟩
  constructor <;> dsimp only
  case objs => intro o ho; rw [g2]; exact g3 o ho
  case roots => exact ⟨b12.tmod (1 + b9.tmod 6 + 1), by omega, by omega, by simp⟩
  case reg => rw [g2]; exact f3
  case prog => exact f4
  all_goals first | omega | rfl
end B17
end
end Go.Pe.G
namespace Go.Pe.G
open Go.Pe
noncomputable section
theorem Uw {α β B C : Type} {f : List α × Int × Int × β → Option (xi (List α × Int × Int × β) B C)} {l : List α} {e : β} {b : B} (hl : l.length < 1000000)
    (h1 : ∀ (i : Nat) (x : α), l[i]? = some x → f (l, (l.length : Int), (i : Int), e) = some (.again (l, (l.length : Int), ((i + 1 : Nat) : Int), e)))
    (h2 : f (l, (l.length : Int), (l.length : Int), e) = some (.brk b)) : yy f (l, (l.length : Int), 0, e) = some (.brk b) := by
  refine (uG (f := f) (fun a => ∃ i : Nat, a = (l, (l.length : Int), (i : Int), e) ∧ i ≤ l.length) (fun a => l.length - a.2.2.1.toNat) (fun o => o = .brk b) ?_ (l, (l.length : Int), 0, e) ⟨0, rfl, by omega⟩ (wG (by simp; omega))).elim fun o h => ?_
  rotate_left
  · rw [h.1, h.2]
  · rintro _ ⟨i, rfl, hi⟩
    rcases Nat.lt_or_ge i l.length with hlt | hge
    · refine ⟨_, h1 i _ (List.getElem?_eq_getElem hlt), ⟨i + 1, rfl, hlt⟩, ?_⟩
      show l.length - ((i + 1 : Nat) : Int).toNat < l.length - (i : Int).toNat
      omega
    · have : i = l.length := by omega
      subst this
      exact ⟨_, h2, rfl⟩
theorem xY {α : Type} {l : List α} {i : Nat} {x : α} (h : l[i]? = some x) : idx l (i : Int) = some x := by
  rw [wP (by omega)]; simpa using h
theorem vJ {α : Type} {l : List α} {i : Nat} {x : α} (h : l[i]? = some x) : (i : Int) < (l.length : Int) := by
  have := (List.getElem?_eq_some_iff.1 h).1; omega
theorem xg {i : Nat} (h : i < 1000000) : w64 ((i : Int) + 1) = ((i + 1 : Nat) : Int) := by
  rw [yf (by omega) (by omega)]; omega
theorem zdA (a b c : Int) : vo a b c = some (decide (b ≤ a ∧ a ≤ c), ()) := by
  rw [zns, zn]
  by_cases h : b ≤ a
  · rw [if_pos h]; simp [h]
  · rw [if_neg h]; simp [h]
theorem zub {l : List Int} {h : zu} (hl : l.length < 1000000) (hv : ∀ v ∈ l, 0 ≤ v ∧ v ≤ (h.Objs.length : Int)) : xB l h = some (false, ()) := by
  rw [ZY, YP, Uw (b := ()) hl (fun i x hx => ?_) (by rw [wW]; simp)]
  · rfl
  · have hm := hv x (List.mem_of_getElem? hx)
    have hlt := vJ hx
    rw [wW, zn, if_pos hlt, xY hx, Option.bind_some, zkD, zn, if_neg (show ¬ x < 0 by omega), Option.bind_some, xg (by omega)]
    simp [show ¬ (h.Objs.length : Int) < x by omega]
theorem zuL {l : List Int} {n : Int} (hl : l.length < 1000000) (hv : ∀ v ∈ l, 0 ≤ v ∧ v ≤ n) : xN l n = some (false, ()) := by
  rw [Yy, Xo, Uw (b := ()) hl (fun i x hx => ?_) (by rw [vc]; simp)]
  · rfl
  · have hm := hv x (List.mem_of_getElem? hx)
    have hlt := vJ hx
    rw [vc, xY hx, Option.bind_some, zmm, zdA, Option.bind_some, Option.bind_some, xg (by omega), zn, if_pos hlt]
    simp [hm]
theorem zqD {l : List (List Int)} {h : zu} (hl : l.length < 1000000) (hs : h.Slots < 1000000) (hv : ∀ o ∈ l, (o.length : Int) = h.Slots ∧ ∀ v ∈ o, 0 ≤ v ∧ v ≤ (h.Objs.length : Int)) : xD l h = some (false, ()) := by
  rw [Z4, YB, Uw (b := ()) hl (fun i x hx => ?_) (by rw [wV]; simp)]
  · rfl
  · have hm := hv x (List.mem_of_getElem? hx)
    have hlt := vJ hx
    rw [wV, xY hx, Option.bind_some, zl7, z5, if_pos hm.1, zub (by omega) hm.2, Option.bind_some, Option.bind_some, xg (by omega), zn, if_pos hlt]
    rfl
theorem zop {r n : Int} (h : 0 ≤ r ∧ r < n) (h2 : n ≤ 4) : zP r n = some (true, ()) := by
  rw [zmh, zn, if_pos h.1, zn]
  rw [if_neg (by omega)]
  simp [h.2]
theorem zwk {o : zh} {regs slots : Int} (h : zgW o regs slots) (h2 : regs ≤ 4) (h3 : slots ≤ 4) : zgp o regs slots = some (true, ()) := by
  obtain ⟨hr, h⟩ := h
  have e1 := zop hr h2
  have h4 : ¬ 4 < slots := by omega
  rw [zoo]
  rcases h with ⟨hk | hk, ha, hs⟩ | ⟨hk, ha, hs⟩ | ⟨hk | hk, ha, hs⟩
  · have e2 := zop ha h2
    simp [hk, e1, e2, hs.1, hs.2, h4]
  · have e2 := zop ha h2
    simp [hk, e1, e2, hs.1, hs.2, h4]
  · have e2 := zop ha h2
    simp [hk, e1, e2, hs]
  · simp [hk, e1, ha, hs]
  · simp [hk, e1, ha, hs]
theorem zw6 {l : List zh} {regs slots : Int} (hl : (l.length : Int) ≤ 64) (h : ∀ o ∈ l, zgW o regs slots) (h2 : regs ≤ 4) (h3 : slots ≤ 4) : zib l regs slots = some (true, ()) := by
  rw [zpe, zn, if_pos hl, Zf, Zz, Uw (b := ()) (by omega) (fun i x hx => ?_) (by rw [wv]; simp)]
  · rfl
  · have hlt := vJ hx
    rw [wv, xY hx, Option.bind_some, zmN, zwk (h x (List.mem_of_getElem? hx)) h2 h3, Option.bind_some, Option.bind_some, xg (by omega), zn, if_pos hlt]
    rfl
theorem zve (a b : Int) : zgB [] a b = some (true, ()) := by
  rw [znJ, uw, uV, Uw (b := ()) (by simp) (fun i x hx => by simp at hx) (by rw [ux]; simp)]
  rfl
def zaq (n : Int) : BitVec 64 := if n < 1 then 0#64 else 18446744073709551615#64 >>> (64 - min n 64).toNat
theorem zva (n : Int) (h : 0 ≤ n) : ziu n = some (zaq n, ()) := by
  rw [zp6, zn]
  unfold zaq
  by_cases h1 : n < 1
  · rw [if_pos h1, if_pos h1]
  · rw [if_neg h1, if_neg h1]
    simp only [zn]
    have e : (if 64 < n then (64 : Int) else n) = min n 64 := by
      by_cases h2 : 64 < n
      · rw [if_pos h2]; omega
      · rw [if_neg h2]; omega
    rw [e, yf (by omega) (by omega), if_neg (by omega), Nat.min_eq_left (by omega)]
theorem zqv : ∀ (r n : Fin 7), r.1 ≤ n.1 → bit (r.1 : Int) &&& ~~~zaq (n.1 : Int) = 0#64 := by decide
theorem zmE {p : zd} (h : zQ p) : p.Roots &&& ~~~zaq (p.H.Objs.length : Int) = 0#64 := by
  obtain ⟨r, h1, h2, h3⟩ := h.roots
  have hn := h.n
  have := zqv ⟨r.toNat, by omega⟩ ⟨p.H.Objs.length, by omega⟩ (by show r.toNat ≤ p.H.Objs.length; omega)
  rw [h3]
  simpa [Int.toNat_of_nonneg h1] using this
theorem ztW {p : zd} (h : zQ p) : UV p = some (true, ()) := by
  obtain ⟨h1, h2, h3, h4, h5, h6, h7, _⟩ := h
  rw [zjA]
  simp only [zdA, Option.bind_some, zn]
  rw [if_pos (by omega), if_pos (by omega), if_pos (by omega), if_pos (by omega), if_pos (by omega), if_pos (by split <;> omega)]
  have : (if p.Price < p.Limit then p.Limit else p.Price) ≤ 1000000 := by split <;> omega
  simp [this]
theorem zt3 {p : zd} (h : zQ p) : V8 p.H = some (true, ()) := by
  have := h.slots
  have := h.n
  rw [zhB, zn, if_pos (by omega), zn, if_pos (by omega), zn, if_pos (by omega), zqD (by omega) (by omega) h.objs]
  rfl
theorem ztM {p : zd} (h : zQ p) : zgr p = some (true, ()) := by
  have hn := h.n
  have hm := h.most
  have hsl := h.slots
  have hmt := h.mt
  have hrl := h.regs
  have hpl := h.progs
  rw [zoK, ztW h]
  simp only [Option.bind_some, Bool.not_true, cond_false, zt3 h, zdA]
  rw [show decide ((p.H.Objs.length : Int) ≤ p.Most ∧ p.Most ≤ 64) = true by simp; omega]
  simp only [Bool.not_true, cond_false, zva _ (show (0 : Int) ≤ (p.H.Objs.length : Int) by omega), Option.bind_some, zpF, zmE h, decide_true, z5, if_pos h.regs, if_pos h.progs]
  rw [Uw (b := (p, ())) (by omega) (fun i x hx => ?_) (by rw [zdX]; simp)]
  · simp [h.picks, zve]
  · have hlt := vJ hx
    have hr := h.reg x (List.mem_of_getElem? hx)
    obtain ⟨ops, hops⟩ : ∃ ops, p.Progs[i]? = some ops := ⟨_, List.getElem?_eq_getElem (by omega)⟩
    obtain ⟨o1, o2⟩ := h.prog i x ops hx hops
    rw [zdX, zn, if_pos hlt, xY hx]
    simp only [Option.bind_some, zdA]
    rw [show decide (1 ≤ (x.length : Int) ∧ (x.length : Int) ≤ 4) = true by simp; omega]
    simp only [Bool.not_true, cond_false, zuL (show x.length < 1000000 by omega) hr.2, Option.bind_some, xY hops, zw6 (show (ops.length : Int) ≤ 64 by omega) o2 (show (x.length : Int) ≤ 4 by omega) (show p.H.Slots ≤ 4 by omega), xg (show i < 1000000 by omega)]
end
end Go.Pe.G
namespace Go.Pe.G
open Go.Pe
noncomputable section
theorem zf3 {n : Int} (h : 0 ≤ n) (h2 : n < 4294967296) : Y9 n = some n.toNat := by rw [zhU]; simp [h, h2]
theorem zqm {n : Int} (h : 0 < n) (h2 : n < 4294967296) : zdH n = some n.toNat := by rw [zod]; simp [h, h2]
def znU (l : List Int) : BitVec 64 := l.foldl (fun s o => s ||| bit o) 0#64
def Wr (p : zd) : BitVec 64 := p.Regs.foldl (fun s l => s ||| znU l) p.Roots
def zyb (a1 : BitVec 64) : BitVec 64 :=
  let a := ((a1 >>> 1) &&& 6148914691236517205#64) + (a1 &&& 6148914691236517205#64)
  let b := ((a >>> 2) &&& 3689348814741910323#64) + (a &&& 3689348814741910323#64)
  let c := ((b >>> 4) + b) &&& 1085102592571150095#64
  let d := c + (c >>> 8)
  let e := d + (d >>> 16)
  e + (e >>> 32)
def cnt (s : BitVec 64) : Int := (BitVec.ofInt 64 (zyb s).toInt &&& BitVec.ofInt 64 127).toInt
theorem zuS (s : BitVec 64) : ziz s = some (cnt s, ()) := by
  rw [zpD, zjl, zrI]; rfl
theorem WQ {m : List Int} (h : m.length < 4294967296) : yI m = some (m, ()) := by
  rw [zeK, List.nil_append, wt h, Option.bind_some]
  cases m with
  | nil => simp [zdI]
  | cons a l => simp
theorem zxq {l : List Int} (hl : l.length < 1000000) : znx l = some (znU l, ()) := by
  rw [ztb]
  refine (uG (f := ziD) (fun a => ∃ i : Nat, a = ((l.take i).foldl (fun s o => s ||| bit o) 0#64, l, (l.length : Int), (i : Int), ()) ∧ i ≤ l.length) (fun a => l.length - a.2.2.2.1.toNat) (fun o => o = .brk (znU l, ())) ?_ (0#64, l, (l.length : Int), 0, ()) ⟨0, rfl, by omega⟩ (wG (by simp; omega))).elim fun o h => ?_
  rotate_left
  · rw [h.1, h.2]; rfl
  · rintro _ ⟨i, rfl, hi⟩
    rw [zpE, zn]
    rcases Nat.lt_or_ge i l.length with hlt | hge
    · have hx := List.getElem?_eq_getElem hlt
      rw [if_pos (by omega), xY hx, Option.bind_some, zlT, Option.bind_some, xg (by omega)]
      refine ⟨_, rfl, ⟨i + 1, ?_, hlt⟩, ?_⟩
      · rw [List.take_add_one, hx]; simp only [Option.toList_some, List.foldl_append, List.foldl_cons, List.foldl_nil]
      · show l.length - ((i + 1 : Nat) : Int).toNat < l.length - (i : Int).toNat
        omega
    · rw [if_neg (by omega)]
      have : i = l.length := by omega
      subst this
      exact ⟨_, rfl, by rw [List.take_length]; rfl⟩
theorem ztK {p : zd} (hl : p.Regs.length < 1000000) (hr : ∀ r ∈ p.Regs, r.length < 1000000) : zfK p = some (Wr p, ()) := by
  rw [zpb]
  refine (uG (f := zbM) (fun a => ∃ i : Nat, a = ((p.Regs.take i).foldl (fun s l => s ||| znU l) p.Roots, p.Regs, (p.Regs.length : Int), (i : Int), ()) ∧ i ≤ p.Regs.length) (fun a => p.Regs.length - a.2.2.2.1.toNat) (fun o => o = .brk (Wr p, ())) ?_ (p.Roots, p.Regs, (p.Regs.length : Int), 0, ()) ⟨0, rfl, by omega⟩ (wG (by simp; omega))).elim fun o h => ?_
  rotate_left
  · rw [h.1, h.2]; rfl
  · rintro _ ⟨i, rfl, hi⟩
    rw [zkL, zn]
    rcases Nat.lt_or_ge i p.Regs.length with hlt | hge
    · have hx := List.getElem?_eq_getElem hlt
      rw [if_pos (by omega), xY hx, Option.bind_some, zxq (hr _ (List.getElem_mem hlt)), Option.bind_some, xg (by omega)]
      refine ⟨_, rfl, ⟨i + 1, ?_, hlt⟩, ?_⟩
      · rw [List.take_add_one, hx]; simp only [Option.toList_some, List.foldl_append, List.foldl_cons, List.foldl_nil]
      · show p.Regs.length - ((i + 1 : Nat) : Int).toNat < p.Regs.length - (i : Int).toNat
        omega
    · rw [if_neg (by omega)]
      have : i = p.Regs.length := by omega
      subst this
      exact ⟨_, rfl, by rw [List.take_length]; rfl⟩
theorem zuV {l : List (List Int)} (hl : l.length < 1000000) (h : ∀ r ∈ l, r.length < 1000000) : wq l = some (l, ()) := by
  have key : ∀ n : Int, n = (l.length : Int) → yy yA (n, 0, l, ()) = some (.brk (l, ())) := by
    rintro _ rfl
    refine (uG (f := yA) (fun a => ∃ i : Nat, a = ((l.length : Int), (i : Int), l, ()) ∧ i ≤ l.length) (fun a => l.length - a.2.1.toNat) (fun o => o = .brk (l, ())) ?_ ((l.length : Int), 0, l, ()) ⟨0, rfl, by omega⟩ (wG (by simp; omega))).elim fun o h => ?_
    rotate_left
    · rw [h.1, h.2]
    · rintro _ ⟨i, rfl, hi⟩
      rw [YL, zn]
      rcases Nat.lt_or_ge i l.length with hlt | hge
      · have hx := List.getElem?_eq_getElem hlt
        have hr := h _ (List.getElem_mem hlt)
        have e : xG l (i : Int) = some i := by rw [v9 (by omega) (by omega)]; simp
        rw [if_pos (by omega), e]
        simp only [Option.bind_some]
        rw [hx, Option.bind_some, WQ (by omega), Option.bind_some, xg (by omega)]
        refine ⟨_, rfl, ⟨i + 1, by simp, hlt⟩, ?_⟩
        show l.length - ((i + 1 : Nat) : Int).toNat < l.length - (i : Int).toNat
        omega
      · rw [if_neg (by omega)]
        have : i = l.length := by omega
        subst this
        exact ⟨_, rfl, rfl⟩
  have hc : Y9 (l.length : Int) = some l.length := by rw [zf3 (by omega) (by omega)]; simp
  rw [XB]
  simp only [decide_true, cond_true, hc, Option.bind_some, List.length_replicate]
  cases l with
  | nil => simp; rw [key 0 rfl]; rfl
  | cons a r => simp only [List.isEmpty_cons, cond_false]; rw [key _ rfl]; rfl
def zji (cap : Int) : List (BitVec 64) := [1#64, 1#64] ++ List.replicate cap.toNat 0#64
theorem zsQ {c : Int} (h : 1 ≤ c) (h2 : c ≤ 64) : zee c = some (zji c, ()) := by
  have e : (if 64 < (if c < 1 then (1 : Int) else c) then (64 : Int) else (if c < 1 then (1 : Int) else c)) = c := by
    rw [if_neg (show ¬ c < 1 by omega), if_neg (by omega)]
  have w : w64 (2 + c) = 2 + c := yf (by omega) (by omega)
  have hc : Y9 (2 + c) = some (2 + c.toNat) := by rw [zf3 (by omega) (by omega)]; congr 1; omega
  rw [zmO]
  simp only [zn, e, w, if_true, hc, Option.bind_some]
  rw [v9 (by omega) (by simp; omega), Option.bind_some, v9 (by omega) (by simp; omega), Option.bind_some]
  have e2 : List.replicate (2 + c.toNat) 0#64 = 0#64 :: 0#64 :: List.replicate c.toNat 0#64 := by rw [Nat.add_comm 2]; rfl
  rw [e2]; rfl
theorem zui {m : Int} (h : 0 ≤ m) (h2 : m ≤ 16) : zgn m = some (⟨0, 0, 0, List.replicate m.toNat 0⟩, ()) := by
  have e : (if (if 16 < m then (16 : Int) else m) < 0 then (0 : Int) else (if 16 < m then (16 : Int) else m)) = m := by
    rw [if_neg (show ¬ 16 < m by omega), if_neg (by omega)]
  have hc : Y9 m = some m.toNat := zf3 (by omega) (by omega)
  rw [zoZ]
  simp only [zn, e, if_true, hc, Option.bind_some]
def links (m : List (BitVec 64)) (next : Int) : List Int → List (BitVec 64)
  | [] => m
  | [a] => st m (wc (next + a)) 0#64
  | a :: b :: l => links (st m (wc (next + a)) (BitVec.ofInt 64 b)) next (b :: l)
def zkg (m : List (BitVec 64)) (head next : Int) (l : List Int) : List (BitVec 64) := st (links m next l) head (Wu 0#64 (l.headD 0))
theorem Vm (m : List (BitVec 64)) (a : Int) (v : BitVec 64) : (st m a v).length = m.length := by unfold st; split <;> simp
theorem zhz : ∀ (l : List Int) (m : List (BitVec 64)) (n : Int), (links m n l).length = m.length
  | [], _, _ => rfl
  | [a], m, n => Vm _ _ _
  | a :: b :: l, m, n => by simp only [links]; rw [zhz (b :: l), Vm]
theorem znn (m : List (BitVec 64)) (h n : Int) (l : List Int) : (zkg m h n l).length = m.length := by unfold zkg; rw [Vm, zhz]
theorem znA {head next : Int} {l : List Int} (hl : l.length < 1000000) : ∀ (k : Nat) (m : List (BitVec 64)) (i : Nat), l.length - i = k → i ≤ l.length → m.length < 4294967296 →
    ∀ n, k < n → uH zcP n (m, head, next, l, (l.length : Int), (i : Int), ()) = some (.brk (links m next (l.drop i), head, l, ()))
  | 0, m, i, hk, hi, hm, n + 1, hn => by
    have : i = l.length := by omega
    subst this
    simp only [uH]
    rw [zeS, zn, if_neg (by omega), Option.bind_some, List.drop_length]; rfl
  | k + 1, m, i, hk, hi, hm, n + 1, hn => by
    have hlt : i < l.length := by omega
    have hx := List.getElem?_eq_getElem hlt
    simp only [uH]
    rw [zeS, zn, if_pos (by omega), xg (by omega), zn, yN]
    by_cases h2 : i + 1 < l.length
    · have hy := List.getElem?_eq_getElem h2
      have ed : l.drop i = l[i] :: l[i + 1] :: l.drop (i + 2) := by
        rw [List.drop_eq_getElem_cons hlt, List.drop_eq_getElem_cons h2]
      rw [if_pos (by omega), xY hy, Option.bind_some, xY hx, Option.bind_some, zan hm, Option.bind_some, Option.bind_some]
      dsimp only
      rw [znA hl k _ (i + 1) (by omega) (by omega) (by rw [Vm]; exact hm) n (by omega), ed]
      rw [List.drop_eq_getElem_cons h2]; rfl
    · have ed : l.drop i = [l[i]] := by
        rw [List.drop_eq_getElem_cons hlt, List.drop_eq_nil_of_le (by omega)]
      rw [if_neg (by omega), xY hx, Option.bind_some, zan hm, Option.bind_some, Option.bind_some]
      dsimp only
      rw [znA hl k _ (i + 1) (by omega) (by omega) (by rw [Vm]; exact hm) n (by omega), ed, List.drop_eq_nil_of_le (by omega)]
      rfl
theorem zqs {m : List (BitVec 64)} (hm : m.length < 4294967296) {head next : Int} {l : List Int} (hl : l.length < 1000000) : zdf m head next l = some (zkg m head next l, ()) := by
  have e := znA (head := head) (next := next) hl l.length m 0 (by omega) (by omega) hm Wn (wG (by omega))
  rw [show ((0 : Nat) : Int) = 0 from rfl] at e
  rw [zpy, Uc, e]
  simp only [Option.bind_some, List.drop_zero, zn]
  unfold zkg
  cases l with
  | nil =>
    rw [if_neg (by simp), zfz, Option.bind_some, zan (by rw [zhz]; exact hm)]; rfl
  | cons a r =>
    have : idx (a :: r) 0 = some a := by rw [wP (by omega)]; rfl
    rw [if_pos (by simp), this, Option.bind_some, zfz, Option.bind_some, zan (by rw [zhz]; exact hm)]; rfl
def zra : Nat → BitVec 64 → Option (List Int)
  | 0, _ => none
  | f + 1, s => bif decide (s = 0#64) then some [] else (zra f (s &&& (s - 1#64))).map fun l => (((Go.Lib.ctz 64 s.toNat : Nat) : Int) + 1) :: l
theorem zsR : ∀ t : Fin 64, zra 66 (BitVec.ofNat 64 t.1) = some (((List.range 6).filter fun i => (BitVec.ofNat 64 t.1).getLsbD i).map fun i : Nat => (i : Int) + 1) := by decide +kernel
def zdg (s : BitVec 64) : List Int := ((List.range 6).filter fun i => s.getLsbD i).map fun i : Nat => (i : Int) + 1
theorem zrH {s : BitVec 64} (h : s &&& ~~~63#64 = 0#64) : ∃ t : Fin 64, s = BitVec.ofNat 64 t.1 := by
  have h2 : s = s &&& 63#64 := by
    apply BitVec.eq_of_getLsbD_eq
    intro i hi
    have := congrArg (fun x => x.getLsbD i) h
    simp only [BitVec.getLsbD_and, BitVec.getLsbD_not, hi, decide_true, Bool.true_and, BitVec.getLsbD_zero] at this ⊢
    cases h1 : s.getLsbD i <;> cases h3 : (63#64 : BitVec 64).getLsbD i <;> simp_all
  have h3 : s.toNat < 64 := by
    rw [h2, BitVec.toNat_and]
    exact Nat.lt_of_le_of_lt Nat.and_le_right (by decide)
  exact ⟨⟨s.toNat, h3⟩, by simp⟩
theorem zxU : ∀ t : Fin 64, Go.Lib.ctz 64 t.1 ≤ 64 := by decide +kernel
theorem zqE : ∀ (f : Nat) (s : BitVec 64), s.toNat < 64 → za2 f s = zra f s
  | 0, _, _ => rfl
  | f + 1, s, h => by
    simp only [za2, zra]
    rw [zqE f _ (by rw [BitVec.toNat_and]; exact Nat.lt_of_le_of_lt Nat.and_le_left h)]
    have : Go.Lib.ctz 64 s.toNat ≤ 64 := zxU ⟨s.toNat, h⟩
    have e : w64 (tz s + 1) = ((Go.Lib.ctz 64 s.toNat : Nat) : Int) + 1 := by
      unfold tz
      exact yf (by omega) (by omega)
    rw [e]
theorem zob : ∀ (l acc : List Int), (acc.length + l.length) < 4294967296 → ZC zei l (acc, ()) = some (acc ++ l, ())
  | [], acc, _ => by simp [ZC]
  | a :: l, acc, h => by
    simp only [List.length_cons] at h
    rw [ZC, zna, wt (by simp; omega), Option.bind_some, Option.bind_some, zob l _ (by simp; omega)]
    simp
theorem zu5 (s : BitVec 64) : (zdg s).length ≤ 6 := by
  unfold zdg
  rw [List.length_map]
  exact Nat.le_trans (List.length_filter_le _ _) (by simp)
theorem zvQ {s : BitVec 64} (h : s &&& ~~~63#64 = 0#64) : zjP s = some (zdg s, ()) := by
  obtain ⟨t, rfl⟩ := zrH h
  have e : zkU (BitVec.ofNat 64 t.1) = some (zdg (BitVec.ofNat 64 t.1)) := by
    show za2 66 _ = _
    rw [zqE 66 _ (by simp; omega), zsR t]; rfl
  have := zu5 (BitVec.ofNat 64 t.1)
  rw [zqR, zqM, Option.bind_some, e, Option.bind_some, zob _ _ (by simp; omega)]
  rfl
theorem znZ (n : Nat) (hn : 1 ≤ n) : ∀ (f : Nat) (l : List Int), (Zt n f l).length ≤ l.length
  | 0, l => by simp [Zt]
  | f + 1, [] => by simp [Zt]
  | f + 1, x :: l => by
    have := znZ n hn f ((x :: l).drop n)
    simp only [Zt, List.length_cons, List.length_drop] at this ⊢
    omega
theorem zis (n : Nat) : ∀ (f : Nat) (l c : List Int), c ∈ Zt n f l → c.length ≤ l.length
  | 0, l, c, h => by simp [Zt] at h
  | f + 1, [], c, h => by simp [Zt] at h
  | f + 1, x :: l, c, h => by
    simp only [Zt, List.mem_cons] at h
    rcases h with rfl | h
    · rw [List.length_take]; exact Nat.min_le_right _ _
    · have := zis n f _ c h
      simp only [List.length_drop] at this
      omega
def Uv (p : zd) (w : Nat) : zg := ⟨0, 0, 0, (w : Int) + 1, 0, [], ⟨2, 0, Z0 p ((w : Int) + 1), p.Cap, 0#64, 0#64, 0, 0⟩, ⟨0, 0, 0, 0, 0#64, 0, 0, 0⟩, ⟨0, 0, 0, 0, ⟨0, 0, 0, 0, 0#64, 0#64, 0, 0⟩, ⟨0, 0, 0, 0, 0#64, 0, 0, 0⟩, 0, 0⟩⟩
def WA (p : zd) (k : Nat) : List (BitVec 64) := (List.range k).flatMap fun _ => zji p.Cap
theorem zou (c : Int) : (zji c).length = c.toNat + 2 := by unfold zji; rw [List.length_append, List.length_replicate]; exact Nat.add_comm _ _
theorem zmt (p : zd) (k : Nat) : WA p (k + 1) = WA p k ++ zji p.Cap := by unfold WA; rw [List.range_succ, List.flatMap_append]; simp
theorem zfl (p : zd) : ∀ k, (WA p k).length = k * (p.Cap.toNat + 2)
  | 0 => by simp [WA]
  | k + 1 => by rw [zmt, List.length_append, zfl p k, zou, Nat.succ_mul]
theorem zxu {p : zd} {s1 : BitVec 64} {s5 : Int} {s6 : Int} {s7 : Int} {s8 : Int} {s9 : Int} {s10 : Int} {s11 : Int} {s12 : Int} {s13 : Int} {s14 : BitVec 64} {s15 : Int} {s16 : zq} {s17 : Int} {s18 : Int} {s19 : Bool} {s20 : Bool} {s21 : Int} {s22 : Int} {s23 : Int} {s24 : Int} {s25 : zp} {s26 : zd} {s27 : Int} {s28 : zq} {s29 : Int} {s30 : Int} {s31 : Bool} {s32 : Bool} {s33 : Int} {s34 : zk} {s35 : zp} {s36 : List (List Int)} {s37 : List (List Int)} {s38 : List (List zh)} {s39 : List zj} {s40 : List (List Int)} {s41 : List (BitVec 64)} {s42 : List (List Int)} {s43 : List Int} {s44 : List Int} {s45 : List zg} {s46 : List zc} {s47 : List (List Int)} {s49 : List (List Int)} {s50 : List Int} {s52 : List zc} (hp : zQ p) :
    yy UD (s1, p.Workers, 0, p, s5, s6, s7, s8, s9, s10, s11, s12, s13, s14, s15, s16, s17, s18, s19, s20, s21, s22, s23, s24, s25, s26, s27, s28, s29, s30, s31, s32, s33, s34, s35, s36, s37, s38, s39, s40, s41, s42, s43, s44, s45, s46, s47, [], s49, s50, [], s52, ()) = some (.brk (s1, p, s5, s6, s7, s8, s9, s10, s11, s12, s13, s14, s15, s16, s17, s18, s19, s20, s21, s22, s23, s24, s25, s26, s27, s28, s29, s30, s31, s32, s33, s34, s35, s36, s37, s38, s39, s40, s41, s42, s43, s44, s45, s46, s47, (WA p p.Workers.toNat), s49, s50, ((List.range p.Workers.toNat).map (Uv p)), s52, ())) := by
  have hw := hp.wk
  have hc := hp.cap
  refine (uG (f := UD) (fun a => ∃ i : Nat, a = (s1, p.Workers, (i : Int), p, s5, s6, s7, s8, s9, s10, s11, s12, s13, s14, s15, s16, s17, s18, s19, s20, s21, s22, s23, s24, s25, s26, s27, s28, s29, s30, s31, s32, s33, s34, s35, s36, s37, s38, s39, s40, s41, s42, s43, s44, s45, s46, s47, (WA p i), s49, s50, ((List.range i).map (Uv p)), s52, ()) ∧ (i : Int) ≤ p.Workers) (fun a => (p.Workers - a.2.2.1).toNat) (fun o => o = .brk (s1, p, s5, s6, s7, s8, s9, s10, s11, s12, s13, s14, s15, s16, s17, s18, s19, s20, s21, s22, s23, s24, s25, s26, s27, s28, s29, s30, s31, s32, s33, s34, s35, s36, s37, s38, s39, s40, s41, s42, s43, s44, s45, s46, s47, (WA p p.Workers.toNat), s49, s50, ((List.range p.Workers.toNat).map (Uv p)), s52, ())) ?_ (s1, p.Workers, 0, p, s5, s6, s7, s8, s9, s10, s11, s12, s13, s14, s15, s16, s17, s18, s19, s20, s21, s22, s23, s24, s25, s26, s27, s28, s29, s30, s31, s32, s33, s34, s35, s36, s37, s38, s39, s40, s41, s42, s43, s44, s45, s46, s47, [], s49, s50, [], s52, ()) ⟨0, rfl, by omega⟩ (wG (by dsimp only; omega))).elim fun o h => ?_
  rotate_left
  · rw [h.1, h.2]
  · rintro _ ⟨i, rfl, hi⟩
    rw [zmp, zn]
    by_cases hlt : (i : Int) < p.Workers
    · have hl := zfl p i
      have hl2 := zou p.Cap
      have hb : i * (p.Cap.toNat + 2) ≤ 3 * 5 := Nat.mul_le_mul (by omega) (by omega)
      rw [if_pos hlt, zsQ hc.1 (by omega), Option.bind_some, wt (l := WA p i ++ zji p.Cap) (by rw [List.length_append]; omega), Option.bind_some, zdz, Option.bind_some, Vd, Option.bind_some, wt (by simp <;> omega), Option.bind_some, xg (by omega)]
      refine ⟨_, rfl, ⟨i + 1, ?_, by omega⟩, ?_⟩
      · rw [zmt, List.range_succ, List.map_append]; rfl
      · show (p.Workers - ((i + 1 : Nat) : Int)).toNat < (p.Workers - (i : Int)).toNat
        omega
    · rw [if_neg hlt]
      have : i = p.Workers.toNat := by omega
      subst this
      exact ⟨_, rfl, rfl⟩
def YV (k : Nat) : List Int := (List.range k).map fun i : Nat => (i : Int) + 1
theorem zsb (k : Nat) : (YV k).length = k := by simp [YV]
theorem zwG {b : Int} {s1 : BitVec 64} {s4 : zd} {s5 : Int} {s6 : Int} {s7 : Int} {s8 : Int} {s9 : Int} {s10 : Int} {s11 : Int} {s12 : Int} {s13 : Int} {s14 : BitVec 64} {s15 : Int} {s16 : zq} {s17 : Int} {s18 : Int} {s19 : Bool} {s20 : Bool} {s21 : Int} {s22 : Int} {s23 : Int} {s24 : Int} {s25 : zp} {s26 : zd} {s27 : Int} {s28 : zq} {s29 : Int} {s30 : Int} {s31 : Bool} {s32 : Bool} {s33 : Int} {s34 : zk} {s35 : zp} {s37 : List (List Int)} {s38 : List (List Int)} {s39 : List (List zh)} {s40 : List zj} {s41 : List (List Int)} {s42 : List (BitVec 64)} {s43 : List (List Int)} {s44 : List Int} {s45 : List Int} {s46 : List zg} {s47 : List zc} {s48 : List (List Int)} {s49 : List (BitVec 64)} {s50 : List (List Int)} {s51 : List Int} {s52 : List zg} {s53 : List zc} (hb : 0 ≤ b ∧ b < 1000) :
    yy VS (s1, b, 0, s4, s5, s6, s7, s8, s9, s10, s11, s12, s13, s14, s15, s16, s17, s18, s19, s20, s21, s22, s23, s24, s25, s26, s27, s28, s29, s30, s31, s32, s33, s34, s35, [], s37, s38, s39, s40, s41, s42, s43, s44, s45, s46, s47, s48, s49, s50, s51, s52, s53, ()) = some (.brk (s1, s4, s5, s6, s7, s8, s9, s10, s11, s12, s13, s14, s15, s16, s17, s18, s19, s20, s21, s22, s23, s24, s25, s26, s27, s28, s29, s30, s31, s32, s33, s34, s35, (YV b.toNat), s37, s38, s39, s40, s41, s42, s43, s44, s45, s46, s47, s48, s49, s50, s51, s52, s53, ())) := by
  refine (uG (f := VS) (fun a => ∃ i : Nat, a = (s1, b, (i : Int), s4, s5, s6, s7, s8, s9, s10, s11, s12, s13, s14, s15, s16, s17, s18, s19, s20, s21, s22, s23, s24, s25, s26, s27, s28, s29, s30, s31, s32, s33, s34, s35, (YV i), s37, s38, s39, s40, s41, s42, s43, s44, s45, s46, s47, s48, s49, s50, s51, s52, s53, ()) ∧ (i : Int) ≤ b) (fun a => (b - a.2.2.1).toNat) (fun o => o = .brk (s1, s4, s5, s6, s7, s8, s9, s10, s11, s12, s13, s14, s15, s16, s17, s18, s19, s20, s21, s22, s23, s24, s25, s26, s27, s28, s29, s30, s31, s32, s33, s34, s35, (YV b.toNat), s37, s38, s39, s40, s41, s42, s43, s44, s45, s46, s47, s48, s49, s50, s51, s52, s53, ())) ?_ (s1, b, 0, s4, s5, s6, s7, s8, s9, s10, s11, s12, s13, s14, s15, s16, s17, s18, s19, s20, s21, s22, s23, s24, s25, s26, s27, s28, s29, s30, s31, s32, s33, s34, s35, [], s37, s38, s39, s40, s41, s42, s43, s44, s45, s46, s47, s48, s49, s50, s51, s52, s53, ()) ⟨0, rfl, by omega⟩ (wG (by dsimp only; omega))).elim fun o h => ?_
  rotate_left
  · rw [h.1, h.2]
  · rintro _ ⟨i, rfl, hi⟩
    rw [zk5, zn]
    by_cases hlt : (i : Int) < b
    · have := zsb i
      rw [if_pos hlt, wt (by rw [List.length_append]; simp; omega), Option.bind_some, xg (by omega)]
      refine ⟨_, rfl, ⟨i + 1, ?_, by omega⟩, ?_⟩
      · unfold YV; rw [List.range_succ, List.map_append]; rfl
      · show (b - ((i + 1 : Nat) : Int)).toNat < (b - (i : Int)).toNat
        omega
    · rw [if_neg hlt]
      have : i = b.toNat := by omega
      subst this
      exact ⟨_, rfl, rfl⟩
theorem zto {s1 : zd} {s2 : Int} {s3 : Int} {s4 : Int} {s5 : Int} {s6 : Int} {s7 : Int} {s8 : Int} {s9 : Int} {s10 : Int} {s11 : BitVec 64} {s12 : Int} {s13 : zq} {s14 : Int} {s15 : Int} {s16 : Bool} {s17 : Bool} {s18 : Int} {s19 : Int} {s20 : Int} {s21 : Int} {s22 : zp} {s23 : zd} {s24 : Int} {s25 : zq} {s26 : Int} {s27 : Int} {s28 : Bool} {s29 : Bool} {s30 : Int} {s31 : zk} {s32 : zp} {s33 : List Int} {s34 : List (List Int)} {s35 : List (List Int)} {s36 : List (List zh)} {s37 : List zj} {s38 : List (List Int)} {s39 : List (BitVec 64)} {s40 : List (List Int)} {s41 : List Int} {s42 : List Int} {s43 : List zg} {s44 : List zc} {s45 : List (List Int)} {s46 : List (BitVec 64)} {s48 : List Int} {s49 : List zg} {s50 : List zc} : ∀ (ys acc : List (List Int)), acc.length + ys.length < 1000000 → (∀ c ∈ ys, c.length < 1000000) → ZC zbq ys (s1, s2, s3, s4, s5, s6, s7, s8, s9, s10, s11, s12, s13, s14, s15, s16, s17, s18, s19, s20, s21, s22, s23, s24, s25, s26, s27, s28, s29, s30, s31, s32, s33, s34, s35, s36, s37, s38, s39, s40, s41, s42, s43, s44, s45, s46, acc, s48, s49, s50, ()) = some (s1, s2, s3, s4, s5, s6, s7, s8, s9, s10, s11, s12, s13, s14, s15, s16, s17, s18, s19, s20, s21, s22, s23, s24, s25, s26, s27, s28, s29, s30, s31, s32, s33, s34, s35, s36, s37, s38, s39, s40, s41, s42, s43, s44, s45, s46, (acc ++ ys), s48, s49, s50, ())
  | [], acc, _, _ => by simp [ZC]
  | y :: ys, acc, h, hc => by
    simp only [List.length_cons] at h
    have hy := hc y (List.mem_cons_self ..)
    rw [ZC, zkW, WQ (by omega), Option.bind_some, wt (by simp <;> omega), Option.bind_some, Option.bind_some, zto ys _ (by simp <;> omega) (fun c h' => hc c (List.mem_cons_of_mem _ h'))]
    simp
def vj (r : List Int) : zc := ⟨0, 0, 0, 0, 0, 0, 0, 0, r, [], [], ⟨0, 0, 0, 0, 0#64, 0, 0, 0⟩, ⟨0, 0, 0, 0, ⟨0, 0, 0, 0, 0#64, 0#64, 0, 0⟩, ⟨0, 0, 0, 0, 0#64, 0, 0, 0⟩, 0, 0⟩⟩
theorem zw4 {p : zd} {s4 : Int} {s5 : Int} {s6 : Int} {s7 : Int} {s8 : Int} {s9 : Int} {s10 : Int} {s11 : Int} {s12 : Int} {s13 : BitVec 64} {s14 : Int} {s15 : zq} {s16 : Int} {s17 : Int} {s18 : Bool} {s19 : Bool} {s20 : Int} {s21 : Int} {s22 : Int} {s23 : Int} {s24 : zp} {s25 : zd} {s26 : Int} {s27 : List (BitVec 64)} {s28 : zq} {s29 : Int} {s30 : Int} {s31 : Bool} {s32 : Bool} {s33 : Int} {s34 : zk} {s35 : zp} {s36 : List (List Int)} {s37 : List (List Int)} {s38 : List (List zh)} {s39 : List zj} {s40 : List (List Int)} {s41 : List (BitVec 64)} {s42 : List (List Int)} {s43 : List Int} {s44 : List Int} {s45 : List zg} {s46 : List zc} {s47 : List (List Int)} {s48 : List (List Int)} {s49 : List Int} {s50 : List zg} (hl : p.Regs.length < 1000000) (hr : ∀ r ∈ p.Regs, r.length < 1000000) :
    yy VU (p.Regs, (p.Regs.length : Int), 0, s4, s5, s6, s7, s8, s9, s10, s11, s12, s13, s14, s15, s16, s17, s18, s19, s20, s21, s22, s23, s24, s25, s26, s27, s28, s29, s30, s31, s32, s33, s34, s35, s36, s37, s38, s39, s40, s41, s42, s43, s44, s45, s46, s47, s48, s49, s50, [], ()) = some (.brk (s4, s5, s6, s7, s8, s9, s10, s11, s12, s13, s14, s15, s16, s17, s18, s19, s20, s21, s22, s23, s24, s25, s26, s27, s28, s29, s30, s31, s32, s33, s34, s35, s36, s37, s38, s39, s40, s41, s42, s43, s44, s45, s46, s47, s48, s49, s50, (p.Regs.map vj), ())) := by
  refine (uG (f := VU) (fun a => ∃ i : Nat, a = (p.Regs, (p.Regs.length : Int), (i : Int), s4, s5, s6, s7, s8, s9, s10, s11, s12, s13, s14, s15, s16, s17, s18, s19, s20, s21, s22, s23, s24, s25, s26, s27, s28, s29, s30, s31, s32, s33, s34, s35, s36, s37, s38, s39, s40, s41, s42, s43, s44, s45, s46, s47, s48, s49, s50, ((p.Regs.take i).map vj), ()) ∧ i ≤ p.Regs.length) (fun a => p.Regs.length - a.2.2.1.toNat) (fun o => o = .brk (s4, s5, s6, s7, s8, s9, s10, s11, s12, s13, s14, s15, s16, s17, s18, s19, s20, s21, s22, s23, s24, s25, s26, s27, s28, s29, s30, s31, s32, s33, s34, s35, s36, s37, s38, s39, s40, s41, s42, s43, s44, s45, s46, s47, s48, s49, s50, (p.Regs.map vj), ())) ?_ (p.Regs, (p.Regs.length : Int), 0, s4, s5, s6, s7, s8, s9, s10, s11, s12, s13, s14, s15, s16, s17, s18, s19, s20, s21, s22, s23, s24, s25, s26, s27, s28, s29, s30, s31, s32, s33, s34, s35, s36, s37, s38, s39, s40, s41, s42, s43, s44, s45, s46, s47, s48, s49, s50, [], ()) ⟨0, rfl, by omega⟩ (wG (by dsimp only; omega))).elim fun o h => ?_
  rotate_left
  · rw [h.1, h.2]
  · rintro _ ⟨i, rfl, hi⟩
    rw [zk0, zn]
    rcases Nat.lt_or_ge i p.Regs.length with hlt | hge
    · have hx := List.getElem?_eq_getElem hlt
      have hh := hr _ (List.getElem_mem hlt)
      rw [if_pos (by omega), xY hx, Option.bind_some, WQ (by omega), Option.bind_some, wt (by simp <;> omega), Option.bind_some, xg (by omega)]
      refine ⟨_, rfl, ⟨i + 1, ?_, hlt⟩, ?_⟩
      · rw [List.take_add_one, hx, List.map_append]; rfl
      · show p.Regs.length - ((i + 1 : Nat) : Int).toNat < p.Regs.length - (i : Int).toNat
        omega
    · rw [if_neg (by omega)]
      have : i = p.Regs.length := by omega
      subst this
      exact ⟨_, rfl, by rw [List.take_length]⟩
def xJ (p : zd) : Nat := (p.Most + p.Workers + p.Mutators).toNat
def uF (p : zd) : List (List Int) := Zt p.Bin.toNat (zdg (Wr p)).length (zdg (Wr p))
def uY (p : zd) : za :=
  { P := p, H := p.H,
    M := zkg (zkg (WA p p.Workers.toNat ++ List.replicate (2 + xJ p) 0#64) (vz p) (yM p) ((YV (xJ p)).take (uF p).length)) (yM p) (yM p) ((YV (xJ p)).drop (uF p).length),
    Bins := [[]] ++ uF p ++ List.replicate (xJ p - (uF p).length) [],
    T := ⟨Wr p, 0#64⟩, Work := cnt (Wr p), Epoch := 0, Flag := false, Done := false, Restarts := 0,
    Acks := List.replicate p.Mutators.toNat 0, L := ⟨0, 0, 0, List.replicate p.Mutators.toNat 0⟩,
    Ws := (List.range p.Workers.toNat).map (Uv p), Ms := p.Regs.map vj, D := ⟨0, 0⟩ }
theorem zyc : ∀ r : Fin 7, bit (r.1 : Int) &&& ~~~63#64 = 0#64 := by decide
theorem zuR {r n : Int} (h : 0 ≤ r) (h2 : r ≤ n) (h3 : n ≤ 6) : bit r &&& ~~~zaq n = 0#64 := by
  have := zqv ⟨r.toNat, by omega⟩ ⟨n.toNat, by omega⟩ (by show r.toNat ≤ n.toNat; omega)
  simpa [Int.toNat_of_nonneg h, Int.toNat_of_nonneg (show 0 ≤ n by omega)] using this
theorem zrN {a b c : BitVec 64} (ha : a &&& ~~~c = 0#64) (hb : b &&& ~~~c = 0#64) : (a ||| b) &&& ~~~c = 0#64 := by
  apply BitVec.eq_of_getLsbD_eq
  intro i hi
  have h1 := congrArg (fun x => x.getLsbD i) ha
  have h2 := congrArg (fun x => x.getLsbD i) hb
  simp only [BitVec.getLsbD_and, BitVec.getLsbD_or, BitVec.getLsbD_not, BitVec.getLsbD_zero, hi, decide_true, Bool.true_and] at h1 h2 ⊢
  revert h1 h2
  generalize a.getLsbD i = x
  generalize b.getLsbD i = y
  generalize c.getLsbD i = z
  cases x <;> cases y <;> cases z <;> decide
theorem ztT {c : BitVec 64} {l : List Int} (h : ∀ o ∈ l, bit o &&& ~~~c = 0#64) : ∀ (z : BitVec 64), z &&& ~~~c = 0#64 → l.foldl (fun s o => s ||| bit o) z &&& ~~~c = 0#64 := by
  induction l with
  | nil => intro z hz; exact hz
  | cons a l ih => intro z hz; exact ih (fun o ho => h o (List.mem_cons_of_mem _ ho)) _ (zrN hz (h a (List.mem_cons_self ..)))
theorem zmB {p : zd} (h : zQ p) : Wr p &&& ~~~zaq (p.H.Objs.length : Int) = 0#64 := by
  have hn := h.n
  have key : ∀ (L : List (List Int)) (z : BitVec 64), (∀ r ∈ L, ∀ v ∈ r, 0 ≤ v ∧ v ≤ (p.H.Objs.length : Int)) → z &&& ~~~zaq (p.H.Objs.length : Int) = 0#64 → L.foldl (fun s l => s ||| znU l) z &&& ~~~zaq (p.H.Objs.length : Int) = 0#64 := by
    intro L
    induction L with
    | nil => intro z _ hz; exact hz
    | cons r L ih =>
      intro z hr hz
      refine ih _ (fun r' h' => hr r' (List.mem_cons_of_mem _ h')) (zrN hz (ztT (fun o ho => ?_) _ (by simp)))
      have := hr r (List.mem_cons_self ..) o ho
      exact zuR this.1 this.2 hn.2
  exact key _ _ (fun r hr => (h.reg r hr).2) (zmE h)
theorem zsN {a b c : BitVec 64} (h : a &&& ~~~b = 0#64) (h2 : b &&& ~~~c = 0#64) : a &&& ~~~c = 0#64 := by
  apply BitVec.eq_of_getLsbD_eq
  intro i hi
  have h1 := congrArg (fun x => x.getLsbD i) h
  have h2 := congrArg (fun x => x.getLsbD i) h2
  simp only [BitVec.getLsbD_and, BitVec.getLsbD_not, BitVec.getLsbD_zero, hi, decide_true, Bool.true_and] at h1 h2 ⊢
  revert h1 h2
  generalize a.getLsbD i = x
  generalize b.getLsbD i = y
  generalize c.getLsbD i = z
  cases x <;> cases y <;> cases z <;> decide
theorem zs9 : ∀ n : Fin 7, zaq (n.1 : Int) &&& ~~~63#64 = 0#64 := by decide
theorem zmF {p : zd} (h : zQ p) : Wr p &&& ~~~63#64 = 0#64 := by
  have hn := h.n
  refine zsN (zmB h) ?_
  exact zs9 ⟨p.H.Objs.length, by omega⟩
theorem zt1 : ∀ (n : Fin 7) (t : Fin 64), BitVec.ofNat 64 t.1 &&& ~~~zaq (n.1 : Int) = 0#64 → (zdg (BitVec.ofNat 64 t.1)).length ≤ n.1 := by decide +kernel
theorem zlJ {p : zd} (h : zQ p) : (zdg (Wr p)).length ≤ p.H.Objs.length := by
  have hn := h.n
  obtain ⟨t, ht⟩ := zrH (zmF h)
  have h2 := zmB h
  rw [ht] at h2 ⊢
  exact zt1 ⟨p.H.Objs.length, by omega⟩ t h2
theorem zrS {p : zd} (h : zQ p) : (uF p).length ≤ p.H.Objs.length := by
  have hb := h.bin
  exact Nat.le_trans (znZ _ (by omega) _ _) (zlJ h)
theorem zhQ {p : zd} (h : zQ p) : Yp p = some (uY p, ()) := by
  have hw := h.wk
  have hc := h.cap
  have hm := h.mt
  have hb := h.bin
  have hn := h.n
  have hmo := h.most
  have hrl := h.regs
  have hreg : ∀ r ∈ p.Regs, r.length < 1000000 := fun r hr => by have := (h.reg r hr).1; omega
  have hobj : ∀ o ∈ p.H.Objs, o.length < 1000000 := fun o ho => by have := (h.objs o ho).1; have := h.slots; omega
  have hfl := zrS h
  have hgl := zlJ h
  have hcl := zfl p p.Workers.toNat
  have hcb : p.Workers.toNat * (p.Cap.toNat + 2) ≤ 3 * 5 := Nat.mul_le_mul (by omega) (by omega)
  have hbn : (xJ p : Int) = p.Most + p.Workers + p.Mutators := by unfold xJ; omega
  have eb : zdv p = some ((xJ p : Int), ()) := by
    rw [zpu, yf (a := p.Most + p.Workers) (by omega) (by omega), yf (by omega) (by omega), hbn]
  have hul := zsb (xJ p)
  have ec : Vg (zdg (Wr p)) p.Bin = some (uF p) := by
    show zf6 _ _ = _
    unfold zf6 uF
    have c1 : (decide (1 ≤ p.Bin) && decide (p.Bin < 1000000) && decide (((zdg (Wr p)).length : Int) < 1000000)) = true := by simp <;> omega
    rw [c1]; rfl
  have cut1 : cut (YV (xJ p)) 0 ((uF p).length : Int) = some ((YV (xJ p)).take (uF p).length) := by
    unfold cut
    have : ((uF p).length : Int) ≤ ((YV (xJ p)).length : Int) := by omega
    simp [this]
  have cut2 : cut (YV (xJ p)) ((uF p).length : Int) ((YV (xJ p)).length : Int) = some ((YV (xJ p)).drop (uF p).length) := by
    unfold cut
    have : ((uF p).length : Int) ≤ ((YV (xJ p)).length : Int) := by omega
    simp [this]
  rw [zpW, ztM h]
  simp only [Option.bind_some, Bool.not_true, cond_false]
  rw [ztK (by omega) hreg]
  simp only [Option.bind_some, zuS, zui hm.1 (show p.Mutators ≤ 16 by omega)]
  rw [zuV (by omega) hobj]
  simp only [Option.bind_some]
  rw [zxu h]
  simp only [Option.bind_some, eb]
  have e3 : (2 + (xJ p : Int)).toNat = 2 + xJ p := by omega
  rw [yf (a := 2 + (xJ p : Int)) (by omega) (by omega), zqm (by omega) (by omega), e3, Option.bind_some, wt (l := WA p p.Workers.toNat ++ List.replicate (2 + xJ p) 0#64) (by simp <;> omega), Option.bind_some, zwG (by omega)]
  dsimp only [Option.bind_some]
  rw [Int.toNat_natCast, zvQ (zmF h), Option.bind_some, zen, zn, if_neg (by omega), Option.bind_some, ec, Option.bind_some, zto _ _ (by simp <;> omega) (fun c hc' => by have := zis _ _ _ _ hc'; omega)]
  dsimp only [Option.bind_some]
  have e1 : w64 ((([[]] ++ uF p : List (List Int)).length : Int) - 1) = ((uF p).length : Int) := by
    rw [yf (by simp <;> omega) (by simp <;> omega)]; simp
  have e2 : w64 (((YV (xJ p)).length : Int) - ((uF p).length : Int)) = ((xJ p - (uF p).length : Nat) : Int) := by
    rw [yf (by omega) (by omega)]; omega
  rw [e1, e2, zqm (by omega) (by omega), Int.toNat_natCast, Option.bind_some, wt (by simp <;> omega), Option.bind_some, zb0, Option.bind_some, UB, Option.bind_some, cut1, Option.bind_some, zqs (by simp <;> omega) (by simp <;> omega), Option.bind_some, U6, Option.bind_some, Option.bind_some, cut2, Option.bind_some, zqs (by rw [znn]; simp <;> omega) (by simp <;> omega), Option.bind_some, decide_true, cond_true, zf3 hm.1 (show p.Mutators < 4294967296 by omega), Option.bind_some, zw4 (by omega) hreg]
  rfl
end
end Go.Pe.G
namespace Go.Pe.G
open Go.Pe
noncomputable section
theorem zhL (h : BitVec 64) : yQ h = ((h.toNat % 4294967296 : Nat) : Int) := by
  unfold yQ
  have e : (h &&& 4294967295#64).toNat = h.toNat % 4294967296 := by
    rw [BitVec.toNat_and]
    exact Nat.and_two_pow_sub_one_eq_mod h.toNat 32
  rw [BitVec.toInt_eq_toNat_cond, e]
  omega
theorem zqr (h : BitVec 64) : 0 ≤ yQ h ∧ yQ h < 4294967296 := by rw [zhL]; omega
theorem zqj (v : BitVec 64) {n : Int} (h : 0 ≤ n) (h2 : n < 4294967296) : yQ (Wu v n) = n := by
  rw [zhL]
  unfold Wu
  rw [BitVec.toNat_or, BitVec.toNat_and, BitVec.toNat_shiftLeft]
  have e1 : (v.toNat <<< 32 % 2 ^ 64 ||| (BitVec.ofInt 64 n).toNat &&& (4294967295#64).toNat) % 2 ^ 32 = (v.toNat <<< 32 % 2 ^ 64) % 2 ^ 32 ||| ((BitVec.ofInt 64 n).toNat &&& (4294967295#64).toNat) % 2 ^ 32 := Nat.or_mod_two_pow
  have e2 : v.toNat <<< 32 % 2 ^ 64 % 2 ^ 32 = 0 := by rw [Nat.shiftLeft_eq]; omega
  have e3 : (BitVec.ofInt 64 n).toNat &&& (4294967295#64).toNat = n.toNat := by
    have : (BitVec.ofInt 64 n).toNat = n.toNat := by rw [BitVec.toNat_ofInt]; omega
    rw [this]
    exact (Nat.and_two_pow_sub_one_eq_mod n.toNat 32).trans (Nat.mod_eq_of_lt (by omega))
  rw [show (4294967296 : Nat) = 2 ^ 32 from rfl, e1, e2, e3, Nat.zero_or, Nat.mod_eq_of_lt (by omega)]
  omega
theorem zmL {n : Int} (h : 0 ≤ n) (h2 : n < 4294967296) : (BitVec.ofInt 64 n).toInt = n := by
  have e : (BitVec.ofInt 64 n).toNat = n.toNat := by rw [BitVec.toNat_ofInt]; omega
  rw [BitVec.toInt_eq_toNat_cond, e]
  omega
theorem zoe {m : List (BitVec 64)} {a b : Int} {v : BitVec 64} : ld (st m a v) b = if a = b ∧ 0 ≤ a ∧ a < m.length then v else ld m b := by
  unfold ld st
  by_cases hb : 0 ≤ b
  · rw [if_pos hb, if_pos hb]
    by_cases ha : 0 ≤ a
    · rw [if_pos ha, List.getD_eq_getElem?_getD, List.getD_eq_getElem?_getD, List.getElem?_set]
      by_cases hab : a.toNat = b.toNat
      · have e : a = b := by omega
        subst e
        by_cases hl : a.toNat < m.length
        · rw [if_pos rfl, if_pos hl, if_pos ⟨rfl, ha, by omega⟩]; rfl
        · rw [if_pos rfl, if_neg hl, if_neg (by omega), List.getElem?_eq_none (by omega)]
      · rw [if_neg hab, if_neg (by omega)]
    · rw [if_neg ha, if_neg (by omega)]
  · rw [if_neg hb, if_neg hb, if_neg (by omega)]
theorem zcC {m : List (BitVec 64)} {a b : Int} {v : BitVec 64} (h : a ≠ b) : ld (st m a v) b = ld m b := by
  rw [zoe, if_neg (fun h' => h h'.1)]
theorem zaW {p : zd} (h : zQ p) : vz p = p.Workers * (p.Cap + 2) ∧ 3 ≤ vz p ∧ vz p ≤ 15 := by
  have hw := h.wk
  have hc := h.cap
  unfold vz
  rw [Y6 (a := p.Cap + 2) (by omega) (by omega)]
  have hx : p.Workers = 1 ∨ p.Workers = 2 ∨ p.Workers = 3 := by omega
  rcases hx with hx | hx | hx <;> rw [hx, Y6 (by omega) (by omega)] <;> omega
theorem zcY {p : zd} (h : zQ p) : yM p = vz p + 1 := by
  have := zaW h
  unfold yM
  rw [Y6 (by omega) (by omega)]
theorem znE {p : zd} (h : zQ p) {w : Int} (h1 : 1 ≤ w) (h2 : w ≤ p.Workers) : Z0 p w = (w - 1) * (p.Cap + 2) ∧ 0 ≤ Z0 p w ∧ Z0 p w + p.Cap + 2 ≤ vz p := by
  have hw := h.wk
  have hc := h.cap
  have hf := (zaW h).1
  unfold Z0
  rw [Y6 (a := p.Cap + 2) (by omega) (by omega), Y6 (a := w - 1) (by omega) (by omega)]
  have hx : p.Workers = 1 ∨ p.Workers = 2 ∨ p.Workers = 3 := by omega
  have hy : w = 1 ∨ w = 2 ∨ w = 3 := by omega
  rw [hf]
  rcases hx with hx | hx | hx <;> rcases hy with hy | hy | hy <;> first | omega | (rw [hx, hy, Y6 (by omega) (by omega)] <;> omega)
theorem zvY {p : zd} (h : zQ p) {d : zi} {w : Int} (h1 : 1 ≤ w) (h2 : w ≤ p.Workers) (hb : d.Base = Z0 p w) (hc : d.Cap = p.Cap) (i : BitVec 64) :
    zbL d i = d.Base + 2 + ((i.toNat % p.Cap.toNat : Nat) : Int) ∧ d.Base + 2 ≤ zbL d i ∧ zbL d i < d.Base + 2 + p.Cap := by
  have hcp := h.cap
  have hd := znE h h1 h2
  have hf := zaW h
  have hs : (Uz d).toNat = p.Cap.toNat := by
    unfold Uz
    rw [hc, if_neg (by omega), BitVec.toNat_ofInt]
    omega
  have hlt : i.toNat % p.Cap.toNat < p.Cap.toNat := Nat.mod_lt _ (by omega)
  have hm : (i % Uz d).toInt = ((i.toNat % p.Cap.toNat : Nat) : Int) := by
    rw [BitVec.toInt_eq_toNat_cond, BitVec.toNat_umod, hs]
    omega
  unfold zbL
  rw [hm, Y6 (a := d.Base + 2) (by omega) (by omega), Y6 (by omega) (by omega)]
  omega
structure SOk (p : zd) (nb : Nat) (s : za) : Prop where
  P : s.P = p
  bins : s.Bins.length = nb
  nbk : 1 ≤ nb ∧ nb < 1000
  mem : s.M.length < 100000
  cF : yQ (ld s.M (vz p)) < nb
  cE : yQ (ld s.M (yM p)) < nb
  cL : ∀ a, yM p < a → 0 ≤ (ld s.M a).toInt ∧ (ld s.M a).toInt < nb
structure MOk (p : zd) (nb : Nat) (g : zD) : Prop where
  who : g.Mode = 1 → 1 ≤ g.Who ∧ g.Who ≤ p.Workers
  d3 : g.PC = 3 → g.D.Kind = 1 ∧ g.D.Base = Z0 p g.Who ∧ g.D.Cap = p.Cap ∧ g.Mode = 1
  c5 : g.PC = 5 → g.C.Kind = 2 ∧ g.C.Head = yM p ∧ g.C.Next = yM p ∧ (1 ≤ g.C.PC → 1 ≤ yQ g.C.H ∧ yQ g.C.H < nb) ∧ (2 ≤ g.C.PC → 0 ≤ g.C.Y ∧ g.C.Y < nb)
  b6 : g.PC = 6 → 1 ≤ g.Bin ∧ g.Bin < nb
  c7 : g.PC = 7 → g.C.Kind = 1 ∧ g.C.Head = vz p ∧ g.C.Next = yM p ∧ (1 ≤ g.C.X ∧ g.C.X < nb) ∧ (1 ≤ g.C.PC → yQ g.C.H < nb)
theorem SOk.gok {p : zd} {nb : Nat} {s : za} {g : zD} (h : zQ p) (S : SOk p nb s) (M : MOk p nb g) : GOk s g := by
  have hc := h.cap
  refine ⟨by have := S.mem; omega, by have := S.bins; have := S.nbk; omega, fun h6 => ?_, fun h3 => ?_⟩
  · have := M.b6 h6; have := S.bins; omega
  · obtain ⟨a, b, c, _⟩ := M.d3 h3; exact ⟨a, by omega⟩
theorem SOk.low {p : zd} {nb : Nat} {s : za} (h : zQ p) (S : SOk p nb s) {a : Int} (ha : a < vz p) (v : BitVec 64) : SOk p nb { s with M := st s.M a v } := by
  have he := zcY h
  exact ⟨S.P, S.bins, S.nbk, by simp only [Vm]; exact S.mem, by simp only [zcC (show a ≠ vz p by omega)]; exact S.cF, by simp only [zcC (show a ≠ yM p by omega)]; exact S.cE, fun b hb => by
    simp only [zcC (show a ≠ b by omega)]; exact S.cL b hb⟩
theorem SOk.link {p : zd} {nb : Nat} {s : za} (h : zQ p) (S : SOk p nb s) {a : Int} (ha : yM p < a) {v : BitVec 64} (hv : 0 ≤ v.toInt ∧ v.toInt < nb) : SOk p nb { s with M := st s.M a v } := by
  have he := zcY h
  exact ⟨S.P, S.bins, S.nbk, by simp only [Vm]; exact S.mem, by simp only [zcC (show a ≠ vz p by omega)]; exact S.cF, by simp only [zcC (show a ≠ yM p by omega)]; exact S.cE, fun b hb => by
    simp only [zoe]
    split
    · exact hv
    · exact S.cL b hb⟩
theorem SOk.head {p : zd} {nb : Nat} {s : za} (h : zQ p) (S : SOk p nb s) {a : Int} (ha : a = vz p ∨ a = yM p) {v : BitVec 64} (hv : yQ v < nb) : SOk p nb { s with M := st s.M a v } := by
  have he := zcY h
  refine ⟨S.P, S.bins, S.nbk, by simp only [Vm]; exact S.mem, ?_, ?_, fun b hb => ?_⟩
  · simp only [zoe]
    split
    · exact hv
    · exact S.cF
  · simp only [zoe]
    split
    · exact hv
    · exact S.cE
  · simp only [zcC (show a ≠ b by omega)]; exact S.cL b hb
theorem SOk.swap {p : zd} {nb : Nat} {s : za} (h : zQ p) (S : SOk p nb s) {a : Int} (ha : a = vz p ∨ a = yM p) (x : BitVec 64) {v : BitVec 64} (hv : yQ v < nb) : SOk p nb { s with M := (sw s.M a x v).1 } := by
  unfold sw
  split
  · exact S.head h ha hv
  · exact S
theorem zsy {p : zd} {nb : Nat} {s : za} (h : zQ p) (S : SOk p nb s) {c : zA} {hd : Int} (hdd : hd = vz p ∨ hd = yM p) (hk : c.Kind = 2) (hh : c.Head = hd) (hn : c.Next = yM p)
    (h1 : 1 ≤ c.PC → 1 ≤ yQ c.H ∧ yQ c.H < nb) (h2 : 2 ≤ c.PC → 0 ≤ c.Y ∧ c.Y < nb) (ho : c.Out ≠ 1) :
    SOk p nb { s with M := (zJ s.M c).1 } ∧ (zJ s.M c).2.Kind = 2 ∧ (zJ s.M c).2.Head = hd ∧ (zJ s.M c).2.Next = yM p ∧
    ((zJ s.M c).2.Out ≠ 1 → (zJ s.M c).2.Out ≠ 2 → (1 ≤ (zJ s.M c).2.PC → 1 ≤ yQ (zJ s.M c).2.H ∧ yQ (zJ s.M c).2.H < nb) ∧ (2 ≤ (zJ s.M c).2.PC → 0 ≤ (zJ s.M c).2.Y ∧ (zJ s.M c).2.Y < nb)) ∧
    ((zJ s.M c).2.Out = 1 → 1 ≤ (zJ s.M c).2.X ∧ (zJ s.M c).2.X < nb) := by
  have hnb := S.nbk
  have hE := zcY h
  have hF := zaW h
  unfold zJ
  split
  · exact ⟨S, hk, hh, hn, fun _ _ => ⟨h1, h2⟩, fun e => absurd e ho⟩
  · split
    · rw [hh]
      have n1 := zqr (ld s.M hd)
      have n2 : yQ (ld s.M hd) < nb := by
        rcases hdd with e | e <;> rw [e]
        · exact S.cF
        · exact S.cE
      split
      · exact ⟨S, hk, rfl, hn, fun _ h => absurd rfl h, fun e => by cases e⟩
      · rename_i hne
        refine ⟨S, hk, rfl, hn, fun _ _ => ⟨fun _ => ⟨?_, n2⟩, fun e => absurd e (by dsimp only; omega)⟩, fun e => absurd e ho⟩
        have : yQ (ld s.M hd) ≠ 0 := fun e => hne ⟨hk, e⟩
        dsimp only
        omega
    · split
      · try rw [if_pos hk]
        have hpc : 1 ≤ c.PC := by omega
        have n1 := h1 hpc
        refine ⟨S, hk, hh, hn, fun _ _ => ⟨fun _ => n1, fun _ => ?_⟩, fun e => absurd e ho⟩
        dsimp only
        rw [hn, Y6 (by omega) (by omega)]
        exact S.cL _ (by omega)
      · rename_i g1 g2 g3
        have hpc : c.PC = 2 := by omega
        have n1 := h1 (by omega)
        have n2 := h2 (by omega)
        simp only [if_pos hk]
        refine ⟨S.swap h (by rw [hh]; exact hdd) _ (by rw [zqj _ n2.1 (by omega)]; exact n2.2), ?_⟩
        split
        · exact ⟨hk, hh, hn, fun e => absurd rfl e, fun _ => n1⟩
        · exact ⟨hk, hh, hn, fun _ _ => ⟨fun e => absurd e (by dsimp only; omega), fun e => absurd e (by dsimp only; omega)⟩, fun e => absurd e ho⟩
theorem zp0 {p : zd} {nb : Nat} {s : za} (h : zQ p) (S : SOk p nb s) {c : zA} {hd : Int} (hdd : hd = vz p ∨ hd = yM p) (hk : c.Kind = 1) (hh : c.Head = hd) (hn : c.Next = yM p) (hx : 1 ≤ c.X ∧ c.X < nb)
    (h1 : 1 ≤ c.PC → yQ c.H < nb) :
    SOk p nb { s with M := (zJ s.M c).1 } ∧ (zJ s.M c).2.Kind = 1 ∧ (zJ s.M c).2.Head = hd ∧ (zJ s.M c).2.Next = yM p ∧ (1 ≤ (zJ s.M c).2.X ∧ (zJ s.M c).2.X < nb) ∧
    (1 ≤ (zJ s.M c).2.PC → yQ (zJ s.M c).2.H < nb) := by
  have hnb := S.nbk
  have hE := zcY h
  have hF := zaW h
  have hk2 : ¬ c.Kind = 2 := by omega
  unfold zJ
  split
  · exact ⟨S, hk, hh, hn, hx, h1⟩
  · split
    · rw [if_neg (fun e => hk2 e.1), hh]
      exact ⟨S, hk, rfl, hn, hx, fun _ => hdd.elim (fun e => by dsimp only; rw [e]; exact S.cF) (fun e => by dsimp only; rw [e]; exact S.cE)⟩
    · split
      · try rw [if_neg hk2]
        have hpc : 1 ≤ c.PC := by omega
        have n1 := h1 hpc
        have n2 := zqr c.H
        refine ⟨?_, hk, hh, hn, hx, fun _ => n1⟩
        dsimp only
        rw [hn, Y6 (by omega) (by omega)]
        exact S.link h (by omega) (by rw [zmL (by omega) (by omega)]; omega)
      · have n1 := h1 (by omega)
        simp only [if_neg hk2]
        refine ⟨S.swap h (by rw [hh]; exact hdd) _ (by rw [zqj _ (by omega) (by omega)]; exact hx.2), ?_⟩
        split
        · exact ⟨hk, hh, hn, hx, fun _ => n1⟩
        · exact ⟨hk, hh, hn, hx, fun _ => n1⟩
theorem MOk.ask {p : zd} {nb : Nat} {g : zD} (hw : g.Mode = 1 → 1 ≤ g.Who ∧ g.Who ≤ p.Workers) : MOk p nb (zpZ p g) :=
  ⟨hw, fun e => (by cases e), fun _ => ⟨rfl, rfl, rfl, fun e => absurd e (show ¬ (1 : Int) ≤ 0 by decide), fun e => absurd e (show ¬ (2 : Int) ≤ 0 by decide)⟩, fun e => (by cases e), fun e => (by cases e)⟩
theorem zpM {p : zd} {nb : Nat} {s : za} {g : zD} (h : zQ p) (S : SOk p nb s) (M : MOk p nb g) (hout : g.PC = 5 → g.C.Out ≠ 1) : SOk p nb (zH s g).1 ∧ MOk p nb (zH s g).2 ∧ ((zH s g).2.PC = 5 → (zH s g).2.C.Out ≠ 1) := by
  have hP := S.P
  unfold zH
  split
  · exact ⟨S, M, hout⟩
  split
  · rename_i h7
    obtain ⟨a1, a2, a3, a4, a5⟩ := M.c7 h7
    obtain ⟨b1, b2, b3, b4, b5, b6⟩ := zp0 h S (.inl rfl) a1 a2 a3 a4 a5
    unfold zgV
    refine ⟨b1, ?_, ?_⟩
    · dsimp only
      split <;> exact ⟨M.who, fun e => (by dsimp only at e; omega), fun e => (by dsimp only at e; omega), fun e => (by dsimp only at e; omega), fun _ => ⟨b2, b3, b4, b5, b6⟩⟩
    · dsimp only
      split <;> exact fun e => by dsimp only at e; omega
  split
  · rename_i h6
    obtain ⟨a1, a2⟩ := M.b6 h6
    unfold zwx
    refine ⟨⟨hP, by simp only [List.length_set]; exact S.bins, S.nbk, S.mem, S.cF, S.cE, S.cL⟩, ⟨M.who, fun e => (by cases e), fun e => (by cases e), fun e => (by cases e), fun _ => ⟨rfl, by rw [hP], by rw [hP], ⟨a1, a2⟩, fun e => absurd e (show ¬ (1 : Int) ≤ 0 by decide)⟩⟩, fun e => by cases e⟩
  split
  · rename_i h5
    obtain ⟨a1, a2, a3, a4, a5⟩ := M.c5 h5
    obtain ⟨b1, b2, b3, b4, b5, b6⟩ := zsy h S (.inr rfl) a1 a2 a3 a4 a5 (hout h5)
    unfold zl3
    refine ⟨b1, ?_, ?_⟩
    · dsimp only
      split
      · rename_i e1
        exact ⟨M.who, fun e => (by cases e), fun e => (by cases e), fun _ => b6 e1, fun e => (by cases e)⟩
      · split
        · rw [hP]; exact MOk.ask M.who
        · rename_i e1 e2
          exact ⟨M.who, fun e => (by dsimp only at e; omega), fun _ => ⟨b2, b3, b4, b5 e1 e2⟩, fun e => (by dsimp only at e; omega), fun e => (by dsimp only at e; omega)⟩
    · dsimp only
      split
      · exact fun e => by cases e
      · split
        · exact fun _ e => by cases e
        · rename_i e1 e2; exact fun _ => e1
  split
  · rw [hP]
    exact ⟨⟨rfl, S.bins, S.nbk, S.mem, S.cF, S.cE, S.cL⟩, MOk.ask M.who, fun _ e => by cases e⟩
  split
  · rename_i h3
    obtain ⟨a1, a2, a3, a4⟩ := M.d3 h3
    have hw := M.who a4
    obtain ⟨d1, d2, d3⟩ := znE h hw.1 hw.2
    have hc := h.cap
    have hf := zaW h
    have hs : SOk p nb { s with M := (u9 s.M g.D).1 } := by
      unfold u9
      split
      · exact S
      split
      · exact S
      split
      · exact S
      split
      · have := zvY h hw.1 hw.2 a2 a3 g.D.B
        exact S.low h (by omega) _
      · dsimp only
        rw [Y6 (by omega) (by omega)]
        exact S.low h (by omega) _
    have hd : (u9 s.M g.D).2.Kind = 1 ∧ (u9 s.M g.D).2.Base = Z0 p g.Who ∧ (u9 s.M g.D).2.Cap = p.Cap := by
      unfold u9
      split
      · exact ⟨a1, a2, a3⟩
      split
      · exact ⟨a1, a2, a3⟩
      split
      · dsimp only
        split <;> exact ⟨a1, a2, a3⟩
      split <;> exact ⟨a1, a2, a3⟩
    unfold zlX
    refine ⟨hs, ?_, ?_⟩
    · dsimp only
      split
      · exact ⟨M.who, fun _ => ⟨hd.1, hd.2.1, hd.2.2, a4⟩, fun e => (by dsimp only at e; omega), fun e => (by dsimp only at e; omega), fun e => (by dsimp only at e; omega)⟩
      · split
        · rw [hP]; exact MOk.ask M.who
        · exact ⟨M.who, fun _ => ⟨hd.1, hd.2.1, hd.2.2, a4⟩, fun e => (by dsimp only at e; omega), fun e => (by dsimp only at e; omega), fun e => (by dsimp only at e; omega)⟩
    · dsimp only
      split
      · exact fun e => by dsimp only at e; omega
      · split
        · exact fun _ e => by cases e
        · exact fun e => by dsimp only at e; omega
  split
  · rename_i h2
    exact ⟨⟨hP, S.bins, S.nbk, S.mem, S.cF, S.cE, S.cL⟩, ⟨M.who, fun e => (by dsimp only at e; omega), fun e => (by dsimp only at e; omega), fun e => (by dsimp only at e; omega), fun e => (by dsimp only at e; omega)⟩, fun e => by dsimp only at e; omega⟩
  split
  · unfold zov
    refine ⟨⟨hP, S.bins, S.nbk, S.mem, S.cF, S.cE, S.cL⟩, ?_, ?_⟩
    · dsimp only
      split
      · exact ⟨M.who, fun e => (by cases e), fun e => (by cases e), fun e => (by cases e), fun e => (by cases e)⟩
      split
      · exact ⟨M.who, fun _ => ⟨rfl, by rw [hP], by rw [hP], by assumption⟩, fun e => (by cases e), fun e => (by cases e), fun e => (by cases e)⟩
      split
      · exact ⟨M.who, fun e => (by cases e), fun e => (by cases e), fun e => (by cases e), fun e => (by cases e)⟩
      · rw [hP]; exact MOk.ask M.who
    · dsimp only
      split
      · exact fun e => by cases e
      split
      · exact fun e => by cases e
      split
      · exact fun e => by cases e
      · exact fun _ e => by cases e
  · exact ⟨⟨hP, S.bins, S.nbk, S.mem, S.cF, S.cE, S.cL⟩, ⟨M.who, fun e => (by cases e), fun e => (by cases e), fun e => (by cases e), fun e => (by cases e)⟩, fun e => by cases e⟩
theorem zne (s : za) (g : zD) : (zH s g).2.Obj = g.Obj ∧ (zH s g).2.Who = g.Who ∧ (zH s g).2.Mode = g.Mode := by
  unfold zH
  split
  · exact ⟨rfl, rfl, rfl⟩
  split
  · unfold zgV; dsimp only; split <;> exact ⟨rfl, rfl, rfl⟩
  split
  · exact ⟨rfl, rfl, rfl⟩
  split
  · unfold zl3; dsimp only
    split
    · exact ⟨rfl, rfl, rfl⟩
    · split <;> exact ⟨rfl, rfl, rfl⟩
  split
  · exact ⟨rfl, rfl, rfl⟩
  split
  · unfold zlX; dsimp only
    split
    · exact ⟨rfl, rfl, rfl⟩
    · split <;> exact ⟨rfl, rfl, rfl⟩
  split
  · exact ⟨rfl, rfl, rfl⟩
  split
  · unfold zov; dsimp only
    split
    · exact ⟨rfl, rfl, rfl⟩
    split
    · exact ⟨rfl, rfl, rfl⟩
    split <;> exact ⟨rfl, rfl, rfl⟩
  · exact ⟨rfl, rfl, rfl⟩
end
end Go.Pe.G
namespace Go.Pe.G
open Go.Pe
noncomputable section
def OkV (nb : Nat) (v : BitVec 64) : Prop := yQ v < nb ∧ 0 ≤ v.toInt ∧ v.toInt < nb
theorem zsa {nb : Nat} (h : 1 ≤ nb) : OkV nb 0#64 := by
  refine ⟨by rw [zhL]; simp; omega, by simp, by simp; omega⟩
theorem zpt {nb : Nat} {b : Int} (h : 0 ≤ b) (h2 : b < nb) (h3 : nb < 1000) : OkV nb (BitVec.ofInt 64 b) := by
  have e : (BitVec.ofInt 64 b).toNat = b.toNat := by rw [BitVec.toNat_ofInt]; omega
  refine ⟨by rw [zhL, e]; omega, ?_⟩
  rw [zmL h (by omega)]
  omega
theorem zqz {b : Int} (h : 0 ≤ b) (h2 : b < 4294967296) : Wu 0#64 b = BitVec.ofInt 64 b := by
  have e : (BitVec.ofInt 64 b).toNat = b.toNat := by rw [BitVec.toNat_ofInt]; omega
  apply BitVec.eq_of_toNat_eq
  unfold Wu
  rw [BitVec.toNat_or, BitVec.toNat_and, e]
  have : b.toNat &&& (4294967295#64).toNat = b.toNat := (Nat.and_two_pow_sub_one_eq_mod b.toNat 32).trans (Nat.mod_eq_of_lt (by omega))
  rw [this]
  simp
def YQ (F : Int) (nb : Nat) (m : List (BitVec 64)) : Prop := ∀ a, F ≤ a → OkV nb (ld m a)
theorem YQ.st {F : Int} {nb : Nat} {m : List (BitVec 64)} (h : YQ F nb m) (a : Int) {v : BitVec 64} (hv : OkV nb v) : YQ F nb (st m a v) := fun b hb => by
  rw [zoe]
  split
  · exact hv
  · exact h b hb
theorem YQ.links {F : Int} {nb : Nat} (h1 : 1 ≤ nb) (h3 : nb < 1000) : ∀ (l : List Int) (m : List (BitVec 64)) (n : Int), (∀ b ∈ l, 0 ≤ b ∧ b < nb) → YQ F nb m → YQ F nb (links m n l)
  | [], m, n, _, h => h
  | [a], m, n, _, h => h.st _ (zsa h1)
  | a :: b :: l, m, n, hb, h => YQ.links h1 h3 (b :: l) _ n (fun x hx => hb x (List.mem_cons_of_mem _ hx)) (h.st _ (zpt (hb b (by simp)).1 (hb b (by simp)).2 h3))
theorem YQ.lay {F : Int} {nb : Nat} (h1 : 1 ≤ nb) (h3 : nb < 1000) {l : List Int} {m : List (BitVec 64)} {hd n : Int} (hb : ∀ b ∈ l, 0 ≤ b ∧ b < nb) (h : YQ F nb m) : YQ F nb (zkg m hd n l) := by
  unfold zkg
  refine (YQ.links h1 h3 l m n hb h).st _ ?_
  cases l with
  | nil => rw [List.headD_nil, zqz (by omega) (by omega)]; exact zpt (by omega) (by omega) h3
  | cons a r =>
    have := hb a (by simp)
    rw [List.headD_cons, zqz this.1 (by omega)]
    exact zpt this.1 this.2 h3
theorem zsj {k : Nat} {b : Int} (h : b ∈ YV k) : 1 ≤ b ∧ b ≤ k := by
  unfold YV at h
  obtain ⟨i, hi, rfl⟩ := List.mem_map.1 h
  have := List.mem_range.1 hi
  omega
theorem zsF {p : zd} (h : zQ p) : (xJ p : Int) = p.Most + p.Workers + p.Mutators ∧ 2 ≤ xJ p ∧ xJ p ≤ 14 := by
  have := h.most
  have := h.n
  have := h.wk
  have := h.mt
  unfold xJ
  omega
theorem ztD {p : zd} (h : zQ p) : SOk p (xJ p + 1) (uY p) := by
  have hb := zsF h
  have hf := zrS h
  have hn := h.n
  have hw := h.wk
  have hc := h.cap
  have hmo := h.most
  have hF := zaW h
  have hE := zcY h
  have hcl := zfl p p.Workers.toNat
  have hfe : vz p = ((p.Workers.toNat * (p.Cap.toNat + 2) : Nat) : Int) := by
    rw [hF.1]
    have e1 : p.Workers = ((p.Workers.toNat : Nat) : Int) := by omega
    have e2 : p.Cap + 2 = ((p.Cap.toNat + 2 : Nat) : Int) := by omega
    rw [e2, Int.natCast_mul]
    rw [← e1]
  have h0 : YQ (vz p) (xJ p + 1) (WA p p.Workers.toNat ++ List.replicate (2 + xJ p) 0#64) := by
    intro a ha
    have : ld (WA p p.Workers.toNat ++ List.replicate (2 + xJ p) 0#64) a = 0#64 := by
      unfold ld
      rw [if_pos (by omega), List.getD_eq_getElem?_getD, List.getElem?_append_right (by omega), List.getElem?_replicate]
      split <;> rfl
    rw [this]
    exact zsa (by omega)
  have h1 : YQ (vz p) (xJ p + 1) (uY p).M := by
    refine YQ.lay (by omega) (by omega) (fun b hb' => ?_) (YQ.lay (by omega) (by omega) (fun b hb' => ?_) h0)
    · have := zsj (List.mem_of_mem_drop hb'); omega
    · have := zsj (List.mem_of_mem_take hb'); omega
  have hlen : (uY p).M.length = p.Workers.toNat * (p.Cap.toNat + 2) + (2 + xJ p) := by
    show (zkg _ _ _ _).length = _
    rw [znn, znn, List.length_append, hcl, List.length_replicate]
  refine ⟨rfl, ?_, by omega, by rw [hlen]; omega, (h1 _ (by omega)).1, (h1 _ (by omega)).1, fun a ha => (h1 a (by omega)).2⟩
  have hd : (uY p).Bins.length = 1 + (uF p).length + (xJ p - (uF p).length) := by
    show ([[]] ++ uF p ++ List.replicate (xJ p - (uF p).length) ([] : List Int)).length = _
    rw [List.length_append, List.length_append, List.length_replicate]; rfl
  have h2 := hb.1
  have hmt := h.mt
  rw [hd]
  omega
def zoA (mode obj who : Int) : zD := ⟨0, mode, obj, who, ⟨0, 0, 0, 0, 0#64, 0#64, 0, 0⟩, ⟨0, 0, 0, 0, 0#64, 0, 0, 0⟩, 0, 0⟩
theorem zkh (a b c : Int) : Uf a b c = some (zoA a b c, ()) := by rw [zoG]; rfl
end
end Go.Pe.G
namespace Go.Pe.G
open Go.Pe
noncomputable section
structure Zj (s : za) : Prop where
  m : s.M.length < 1000000
  bins : s.Bins.length < 1000000
  bin : ∀ x ∈ s.Bins, x.length < 1000000
  acks : s.Acks.length < 1000000
  bal : s.L.Bal.length < 1000000
  ws : s.Ws.length < 1000000
  w : ∀ x ∈ s.Ws, x.Batch.length < 1000000
  ms : s.Ms.length < 1000000
  mu : ∀ x ∈ s.Ms, x.Regs.length < 1000000 ∧ x.Buf.length < 1000000 ∧ x.Batch.length < 1000000
  objs : s.H.Objs.length < 1000000
  obj : ∀ x ∈ s.H.Objs, x.length < 1000000
  pobjs : s.P.H.Objs.length < 1000000
  pobj : ∀ x ∈ s.P.H.Objs, x.length < 1000000
  regs : s.P.Regs.length < 1000000
  reg : ∀ x ∈ s.P.Regs, x.length < 1000000
  progs : s.P.Progs.length < 1000000
  prog : ∀ x ∈ s.P.Progs, x.length < 1000000
  picks : s.P.Picks.length < 1000000
theorem Ux (m : List (BitVec 64)) (c : zA) : (zJ m c).1.length = m.length := by
  unfold zJ sw
  split
  · rfl
  split
  · rfl
  split
  · split <;> simp [Vm]
  · dsimp only; split <;> simp [Vm]
theorem zun (m : List (BitVec 64)) (d : zi) : (u9 m d).1.length = m.length := by
  unfold u9
  split
  · rfl
  split
  · rfl
  split
  · rfl
  split <;> simp [Vm]
theorem W5 (s : za) (g : zD) : ∃ m b t w f, (zH s g).1 = { s with M := m, Bins := b, T := t, Work := w, Flag := f } ∧ m.length = s.M.length ∧ b.length = s.Bins.length ∧
    (∀ x ∈ b, x ∈ s.Bins ∨ x = [g.Obj]) ∧ (t = s.T ∨ t = (ze0 s.T g.Obj).1) ∧ (w = s.Work ∨ w = wc (s.Work + 1) ∨ w = wc (s.Work - 1)) := by
  unfold zH
  split
  · exact ⟨s.M, s.Bins, s.T, s.Work, s.Flag, rfl, rfl, rfl, fun x h => .inl h, .inl rfl, .inl rfl⟩
  split
  · exact ⟨_, s.Bins, s.T, s.Work, s.Flag, rfl, Ux _ _, rfl, fun x h => .inl h, .inl rfl, .inl rfl⟩
  split
  · refine ⟨s.M, _, s.T, s.Work, s.Flag, rfl, rfl, by simp, fun x h => ?_, .inl rfl, .inl rfl⟩
    rcases List.mem_or_eq_of_mem_set h with h | h
    · exact .inl h
    · exact .inr h
  split
  · exact ⟨_, s.Bins, s.T, s.Work, s.Flag, rfl, Ux _ _, rfl, fun x h => .inl h, .inl rfl, .inl rfl⟩
  split
  · exact ⟨s.M, s.Bins, s.T, s.Work, true, rfl, rfl, rfl, fun x h => .inl h, .inl rfl, .inl rfl⟩
  split
  · exact ⟨_, s.Bins, s.T, s.Work, s.Flag, rfl, zun _ _, rfl, fun x h => .inl h, .inl rfl, .inl rfl⟩
  split
  · exact ⟨s.M, s.Bins, s.T, _, s.Flag, rfl, rfl, rfl, fun x h => .inl h, .inl rfl, .inr (.inr rfl)⟩
  split
  · exact ⟨s.M, s.Bins, _, s.Work, s.Flag, rfl, rfl, rfl, fun x h => .inl h, .inr rfl, .inl rfl⟩
  · exact ⟨s.M, s.Bins, s.T, _, s.Flag, rfl, rfl, rfl, fun x h => .inl h, .inl rfl, .inr (.inl rfl)⟩
theorem zxZ {s : za} {g : zD} (h : Zj s) : Zj (zH s g).1 := by
  obtain ⟨m, b, t, w, f, e, h1, h2, h3, _, _⟩ := W5 s g
  rw [e]
  refine ⟨by rw [h1]; exact h.m, by rw [h2]; exact h.bins, fun x hx => ?_, h.acks, h.bal, h.ws, h.w, h.ms, h.mu, h.objs, h.obj, h.pobjs, h.pobj, h.regs, h.reg, h.progs, h.prog, h.picks⟩
  rcases h3 x hx with h' | rfl
  · exact h.bin x h'
  · simp
theorem zvl {p : zd} (h : zQ p) : Zj (uY p) := by
  have S := ztD h
  have hb := zsF h
  have hg := zlJ h
  have hn := h.n
  have hm := h.mt
  have hw := h.wk
  have hs := h.slots
  have hrl := h.regs
  have hpl := h.progs
  have hobj : ∀ o ∈ p.H.Objs, o.length < 1000000 := fun o ho => by have := (h.objs o ho).1; omega
  have hreg : ∀ r ∈ p.Regs, r.length < 1000000 := fun r hr => by have := (h.reg r hr).1; omega
  refine ⟨by have := S.mem; omega, by rw [S.bins]; omega, fun x hx => ?_, ?_, ?_, ?_, fun x hx => ?_, ?_, fun x hx => ?_, by show p.H.Objs.length < _; omega, hobj, by show p.H.Objs.length < _; omega, hobj, by show p.Regs.length < _; omega, hreg, by show p.Progs.length < _; omega, fun x hx => ?_, ?_⟩
  · have hx : x ∈ [[]] ++ uF p ++ List.replicate (xJ p - (uF p).length) [] := hx
    rcases List.mem_append.1 hx with hx | hx
    · rcases List.mem_append.1 hx with hx | hx
      · simp at hx; subst hx; simp
      · have := zis _ _ _ _ hx; omega
    · have := (List.mem_replicate.1 hx).2; subst this; simp
  · show (List.replicate p.Mutators.toNat (0 : Int)).length < _; simp; omega
  · show (List.replicate p.Mutators.toNat (0 : Int)).length < _; simp; omega
  · show ((List.range p.Workers.toNat).map (Uv p)).length < _; simp; omega
  · have hx : x ∈ (List.range p.Workers.toNat).map (Uv p) := hx
    obtain ⟨i, _, rfl⟩ := List.mem_map.1 hx
    simp [Uv]
  · show (p.Regs.map vj).length < _; simp; omega
  · have hx : x ∈ p.Regs.map vj := hx
    obtain ⟨r, hr, rfl⟩ := List.mem_map.1 hx
    exact ⟨hreg r hr, by simp [vj], by simp [vj]⟩
  · obtain ⟨i, hi⟩ := List.getElem?_of_mem hx
    have hlt := (List.getElem?_eq_some_iff.1 hi).1
    have := (h.prog i _ x (List.getElem?_eq_getElem (by have : p.Progs.length = p.Regs.length := by omega
                                                        have hlt : i < p.Progs.length := hlt
                                                        omega)) hi).1
    omega
  · show p.Picks.length < _; rw [h.picks]; simp
end
end Go.Pe.G
namespace Go.Pe.G
open Go.Pe
noncomputable section
theorem XD {α B C : Type} {f : List α × List α × Int × Int × Unit → Option (xi (List α × List α × Int × Int × Unit) B C)} {l : List α} {b : B} (hl : l.length < 1000000)
    (h1 : ∀ (i : Nat) (x : α), l[i]? = some x → f (l, l, (l.length : Int), (i : Int), ()) = some (.again (l, l, (l.length : Int), ((i + 1 : Nat) : Int), ())))
    (h2 : f (l, l, (l.length : Int), (l.length : Int), ()) = some (.brk b)) : yy f (l, l, (l.length : Int), 0, ()) = some (.brk b) := by
  refine (uG (f := f) (fun a => ∃ i : Nat, a = (l, l, (l.length : Int), (i : Int), ()) ∧ i ≤ l.length) (fun a => l.length - a.2.2.2.1.toNat) (fun o => o = .brk b) ?_ (l, l, (l.length : Int), 0, ()) ⟨0, rfl, by omega⟩ (wG (by dsimp only; omega))).elim fun o h => ?_
  rotate_left
  · rw [h.1, h.2]
  · rintro _ ⟨i, rfl, hi⟩
    rcases Nat.lt_or_ge i l.length with hlt | hge
    · refine ⟨_, h1 i _ (List.getElem?_eq_getElem hlt), ⟨i + 1, rfl, hlt⟩, ?_⟩
      show l.length - ((i + 1 : Nat) : Int).toNat < l.length - (i : Int).toNat
      omega
    · have : i = l.length := by omega
      subst this
      exact ⟨_, h2, rfl⟩
theorem xP {l : List (Int)} (hl : l.length < 1000000) : z6 l l = some (true, ()) := by
  rw [zeD, z5, if_pos rfl, XD (b := ()) hl (fun i x hx => ?_) (by rw [X7]; simp)]
  · rfl
  · have hlt := vJ hx
    rw [X7, zn, if_pos hlt, xY hx, Option.bind_some, Option.bind_some, xg (by omega)]
    simp
theorem zaH {l : List (BitVec 64)} (hl : l.length < 1000000) : uX l l = some (true, ()) := by
  rw [zaI, z5, if_pos rfl, XD (b := ()) hl (fun i x hx => ?_) (by rw [ZB]; simp)]
  · rfl
  · have hlt := vJ hx
    rw [ZB, zn, if_pos hlt, xY hx, Option.bind_some, Option.bind_some, xg (by omega)]
    simp
theorem zbY {l : List (Int)} (hl : l.length < 1000000) : Zy l l = some (true, ()) := by
  rw [zb4, z5, if_pos rfl, XD (b := ()) hl (fun i x hx => ?_) (by rw [Yq]; simp)]
  · rfl
  · have hlt := vJ hx
    rw [Yq, zn, if_pos hlt, xY hx, Option.bind_some, Option.bind_some, xg (by omega)]
    simp
theorem UU {l : List (zh)} (hl : l.length < 1000000) : ur l l = some (true, ()) := by
  rw [UR, z5, if_pos rfl, XD (b := ()) hl (fun i x hx => ?_) (by rw [Zg]; simp)]
  · rfl
  · have hlt := vJ hx
    rw [Zg, zn, if_pos hlt, xY hx, Option.bind_some, Option.bind_some, xg (by omega)]
    simp
theorem VJ {l : List (zj)} (hl : l.length < 1000000) : vr l l = some (true, ()) := by
  rw [VO, z5, if_pos rfl, XD (b := ()) hl (fun i x hx => ?_) (by rw [uu]; simp)]
  · rfl
  · have hlt := vJ hx
    rw [uu, zn, if_pos hlt, xY hx, Option.bind_some, Option.bind_some, xg (by omega)]
    simp
theorem wg {l : List (List Int)} (hl : l.length < 1000000) (he : ∀ x ∈ l, x.length < 1000000) : zr l l = some (true, ()) := by
  rw [vF, z5, if_pos rfl, XD (b := ()) hl (fun i x hx => ?_) (by rw [yO]; simp)]
  · rfl
  · have hlt := vJ hx
    rw [yO, zn, if_pos hlt, xY hx, Option.bind_some, Option.bind_some, xP (he x (List.mem_of_getElem? hx)), Option.bind_some, xg (by omega)]
    simp
theorem uO {l : List (List zh)} (hl : l.length < 1000000) (he : ∀ x ∈ l, x.length < 1000000) : zX l l = some (true, ()) := by
  rw [xM, z5, if_pos rfl, XD (b := ()) hl (fun i x hx => ?_) (by rw [yt]; simp)]
  · rfl
  · have hlt := vJ hx
    rw [yt, zn, if_pos hlt, xY hx, Option.bind_some, Option.bind_some, UU (he x (List.mem_of_getElem? hx)), Option.bind_some, xg (by omega)]
    simp
theorem zsV {w : zg} (h : w.Batch.length < 1000000) : VH w w = some (true, ()) := by
  rw [ziN, xP h]; simp
theorem zsq {m : zc} (h : m.Regs.length < 1000000 ∧ m.Buf.length < 1000000 ∧ m.Batch.length < 1000000) : Vf m m = some (true, ()) := by
  rw [zhe, xP h.1, xP h.2.1, xP h.2.2, zfx]; simp
theorem wZ {l : List (zg)} (hl : l.length < 1000000) (he : ∀ x ∈ l, x.Batch.length < 1000000) : zT l l = some (true, ()) := by
  rw [xA, z5, if_pos rfl, XD (b := ()) hl (fun i x hx => ?_) (by rw [yn]; simp)]
  · rfl
  · have hlt := vJ hx
    rw [yn, zn, if_pos hlt, xY hx, Option.bind_some, Option.bind_some, zsV (he x (List.mem_of_getElem? hx)), Option.bind_some, xg (by omega)]
    simp
theorem wK {l : List (zc)} (hl : l.length < 1000000) (he : ∀ x ∈ l, x.Regs.length < 1000000 ∧ x.Buf.length < 1000000 ∧ x.Batch.length < 1000000) : zM l l = some (true, ()) := by
  rw [xe, z5, if_pos rfl, XD (b := ()) hl (fun i x hx => ?_) (by rw [yh]; simp)]
  · rfl
  · have hlt := vJ hx
    rw [yh, zn, if_pos hlt, xY hx, Option.bind_some, Option.bind_some, zsq (he x (List.mem_of_getElem? hx)), Option.bind_some, xg (by omega)]
    simp
theorem zqo {h : zu} (h1 : h.Objs.length < 1000000) (h2 : ∀ x ∈ h.Objs, x.length < 1000000) : uy h h = some (true, ()) := by
  rw [zpP, wg h1 h2]; simp
theorem zt4 {s : za} (h : Zj s) : zfP s s = some (true, ()) := by
  have hp : Zi s.P s.P = some (true, ()) := by
    rw [zpw, zh3, zqo h.pobjs h.pobj, wg h.regs h.reg, uO h.progs h.prog, VJ h.picks]
    simp
  have hl : vV s.L s.L = some (true, ()) := by
    rw [zmX, zbY h.bal]; simp
  have hm : Z7 s.M s.M = some (true, ()) := by
    rw [zq0, zaH h.m]; rfl
  rw [zoR, hp, zqo h.objs h.obj, hm, wg h.bins h.bin, xP h.acks, hl, wZ h.ws h.w, wK h.ms h.mu]
  simp
end
end Go.Pe.G
namespace Go.Pe.G
open Go.Pe
noncomputable section
def goF {S : Type} (g : Nat → S → S) : Nat → Nat → S → S
  | _, 0, s => s
  | i, k + 1, s => goF g (i + 1) k (g i s)
theorem zqf {S : Type} {g : Nat → S → S} {Inv : S → Prop} (hg : ∀ i s, Inv s → Inv (g i s)) : ∀ (k i : Nat) (s : S), Inv s → Inv (goF g i k s)
  | 0, _, _, h => h
  | k + 1, i, s, h => zqf hg k (i + 1) _ (hg i s h)
theorem ztx {S σ B C : Type} {f : σ → Option (xi σ B C)} (A : Int → S → σ) (b : S → B) (n : Nat) (hn : n < 1000000) (g : Nat → S → S) (Inv : S → Prop) (hg : ∀ i s, Inv s → Inv (g i s))
    (h1 : ∀ (i : Nat) s, i < n → Inv s → f (A (i : Int) s) = some (.again (A ((i + 1 : Nat) : Int) (g i s)))) (h2 : ∀ s, Inv s → f (A (n : Int) s) = some (.brk (b s))) {s : S} (hs : Inv s) :
    yy f (A 0 s) = some (.brk (b (goF g 0 n s))) := by
  have key : ∀ (k i : Nat) (s : S), n - i = k → i ≤ n → Inv s → ∀ m, k < m → uH f m (A (i : Int) s) = some (.brk (b (goF g i k s))) := by
    intro k
    induction k with
    | zero =>
      intro i s hk hi hs m hm
      have : i = n := by omega
      subst this
      obtain ⟨m, rfl⟩ : ∃ x, m = x + 1 := ⟨m - 1, by omega⟩
      simp only [uH]
      rw [h2 s hs]; rfl
    | succ k ih =>
      intro i s hk hi hs m hm
      obtain ⟨m, rfl⟩ : ∃ x, m = x + 1 := ⟨m - 1, by omega⟩
      simp only [uH]
      rw [h1 i s (by omega) hs, Option.bind_some]
      exact ih (i + 1) _ (by omega) (by omega) (hg i s hs) m (by omega)
  have := key n 0 s (by omega) (by omega) hs Wn (wG (by omega))
  rw [Uc]
  exact this
end
end Go.Pe.G
namespace Go.Pe.G
open Go.Pe
noncomputable section
def zhM (m : List (BitVec 64)) (d : zi) : List (BitVec 64) × zi :=
  if d.PC < 0 ∨ 7 ≤ d.PC then (m, d)
  else if d.PC = 0 then (m, { d with B := ld m (wc (d.Base + 1)), PC := 1 })
  else if d.PC = 1 then (st m (wc (d.Base + 1)) (d.B - 1#64), { d with PC := 2 })
  else if d.PC = 2 then (m, { d with T := ld m d.Base, PC := if 0 < (ld m d.Base - (d.B - 1#64)).toInt then 5 else 3 })
  else if d.PC = 3 then (m, { d with X := (ld m (zbL d (d.B - 1#64))).toInt, PC := 4, Out := if d.T = d.B - 1#64 then d.Out else 1 })
  else if d.PC = 4 then ((sw m d.Base d.T (d.T + 1#64)).1, { d with PC := if (sw m d.Base d.T (d.T + 1#64)).2 then 6 else 5 })
  else if d.PC = 5 then (st m (wc (d.Base + 1)) d.B, { d with X := 0, Out := 2, PC := 6 })
  else (st m (wc (d.Base + 1)) d.B, { d with Out := 1, PC := 7 })
def zaX (m : List (BitVec 64)) (d : zi) : List (BitVec 64) × zi :=
  if d.PC < 0 ∨ 4 ≤ d.PC then (m, d)
  else if d.PC = 0 then (m, { d with T := ld m d.Base, PC := 1 })
  else if d.PC = 1 then (m, { d with B := ld m (wc (d.Base + 1)), PC := 2, Out := if 0 < (ld m (wc (d.Base + 1)) - d.T).toInt then d.Out else 2 })
  else if d.PC = 2 then (m, { d with X := (ld m (zbL d d.T)).toInt, PC := 3 })
  else ((sw m d.Base d.T (d.T + 1#64)).1, if (sw m d.Base d.T (d.T + 1#64)).2 then { d with Out := 1, PC := 4 } else { d with X := 0, Out := 4, PC := 4 })
def wA (m : List (BitVec 64)) (d : zi) : List (BitVec 64) × zi :=
  if d.Out ≠ 0 then (m, d) else if d.Kind = 1 then u9 m d else if d.Kind = 2 then zhM m d else if d.Kind = 3 then zaX m d else (m, d)
theorem ztd {m : List (BitVec 64)} {d : zi} (h : d.Kind = 1) : wA m d = u9 m d := by
  unfold wA
  by_cases h0 : d.Out ≠ 0
  · rw [if_pos h0]; unfold u9; rw [if_pos (.inl h0)]
  · rw [if_neg h0, if_pos h]
theorem ztu {α : Type} {x y : Option α} {v : α} (h : x = some v) : Option.or x y = some v := by subst h; rfl
theorem zfH {α : Type} {x y z : Option α} (h : x = none) (h2 : y = z) : Option.or x y = z := by subst h; exact h2
theorem zwj : wc 1 = 1 ∧ wc 2 = 2 ∧ wc 3 = 3 ∧ wc 4 = 4 ∧ wc 5 = 5 ∧ wc 6 = 6 ∧ wc 7 = 7 := by decide
theorem zuF : w64 5 = 5 ∧ w64 6 = 6 ∧ w64 7 = 7 := by
  refine ⟨?_, ?_, ?_⟩ <;> exact yf (by omega) (by omega)
theorem zuw {m : List (BitVec 64)} (hm : m.length < 4294967296) {d : zi} (hc : d.Cap < 1000) : Ui m d = some ((wA m d).1, (wA m d).2, ()) := by
  by_cases k1 : d.Kind = 1
  · rw [ztd k1]; exact zhN hm k1 hc
  obtain ⟨w0, w1, w2, w3, w4⟩ := zrY
  obtain ⟨w5, w6, w7⟩ := zuF
  obtain ⟨v1, v2, v3, v4, v5, v6, v7⟩ := zwj
  have hsb : ∀ d : zi, wj m d = some (m, { d with B := ld m (wc (d.Base + 1)) }, ()) := fun d => by
    rw [Xc, xl, yN, Option.bind_some, XG]; rfl
  have htk : ∀ d : zi, Ym m d = some ((sw m d.Base d.T (d.T + 1#64)).1, (sw m d.Base d.T (d.T + 1#64)).2, ()) := fun d => by
    obtain ⟨v, hv⟩ := zph hm d.Base d.T (d.T + 1#64)
    rw [zgZ, Zk, Option.bind_some, hv]; rfl
  rw [zhX, zeO, zl6, zl9, zmc]
  simp only [zn, z5, if_neg k1]
  unfold wA
  by_cases k2 : d.Kind = 2
  · refine zfH (by simp [k2]) (ztu ?_)
    rw [if_pos k2, Option.bind_some]
    by_cases g0 : d.Out = 0
    rotate_left
    · rw [if_neg g0, if_pos (show d.Out ≠ 0 from g0)]
    rw [if_pos g0, if_neg (show ¬ (d.Out ≠ 0) from fun e => e g0), if_neg k1, if_pos k2]
    unfold zhM
    by_cases g1 : d.PC < 0
    · rw [if_pos g1, if_pos (.inl g1)]
    rw [if_neg g1]
    by_cases g2 : 7 ≤ d.PC
    · rw [if_pos g2, if_pos (.inr g2)]
    rw [if_neg g2, if_neg (show ¬ (d.PC < 0 ∨ 7 ≤ d.PC) by omega)]
    have hpc : d.PC = 0 ∨ d.PC = 1 ∨ d.PC = 2 ∨ d.PC = 3 ∨ d.PC = 4 ∨ d.PC = 5 ∨ d.PC = 6 := by omega
    rcases hpc with h | h | h | h | h | h | h
    · simp [h, hsb, w1]
    · simp [h, zgh, xl, yN, zag hm, v1, v2, v3, v4, v5, v6, v7]
    · rw [h, if_neg (by decide), if_neg (by decide), if_neg (by decide), if_neg (by decide), if_pos rfl, if_neg (by decide), if_neg (by decide), if_pos rfl]
      simp only [zcu, Zk, Option.bind_some, XG, zgo, zn]
      by_cases hs : 0 < (ld m d.Base - (d.B - 1#64)).toInt
      · simp only [if_pos hs, Option.bind_some, Int.reduceAdd, w5]
      · simp only [if_neg hs, Option.bind_some, h, Int.reduceAdd, w3]
    · simp only [h, zfu, zih hc, Option.bind_some, XG, z5, xX]
      by_cases hs : d.T = d.B - 1#64
      · simp [hs, w4, h]
      · simp [hs, w4, h]
    · simp only [h, zet, htk, Option.bind_some]
      cases hs : (sw m d.Base d.T (d.T + 1#64)).2 with
      | true => simp [hs, w6, h]
      | false => simp [hs, w5, h]
    · simp [h, zem, xX, k1, xl, yN, zag hm, v1, v2, v3, v4, v5, v6, v7]
    · simp [h, ze5, xX, xl, yN, zag hm, v1, v2, v3, v4, v5, v6, v7]
  by_cases k3 : d.Kind = 3
  · refine zfH (by simp [k2, k3]) (zfH (by simp [k2, k3]) (ztu ?_))
    rw [if_neg k2, if_pos k3, Option.bind_some]
    by_cases g0 : d.Out = 0
    rotate_left
    · rw [if_neg g0, if_pos (show d.Out ≠ 0 from g0)]
    rw [if_pos g0, if_neg (show ¬ (d.Out ≠ 0) from fun e => e g0), if_neg k1, if_neg k2, if_pos k3]
    unfold zaX
    by_cases g1 : d.PC < 0
    · rw [if_pos g1, if_pos (.inl g1)]
    rw [if_neg g1]
    by_cases g2 : 4 ≤ d.PC
    · rw [if_pos g2, if_pos (.inr g2)]
    rw [if_neg g2, if_neg (show ¬ (d.PC < 0 ∨ 4 ≤ d.PC) by omega)]
    have hpc : d.PC = 0 ∨ d.PC = 1 ∨ d.PC = 2 ∨ d.PC = 3 := by omega
    rcases hpc with h | h | h | h
    · simp [h, zfE, Zk, XG, w1]
    · rw [h, if_neg (by decide), if_neg (by decide), if_pos rfl, if_neg (by decide), if_pos rfl]
      simp only [zfC, xl, Option.bind_some, XG, zgo, z5, yN]
      by_cases hs : 0 < (ld m (wc (d.Base + 1)) - d.T).toInt
      · simp only [if_pos hs, Option.bind_some, Int.reduceAdd, v2, h]
      · simp only [if_neg hs, Option.bind_some, Int.reduceAdd, v2, h]
    · simp [h, zeJ, zih hc, XG, w3]
    · simp only [h, zdd, htk, Option.bind_some, xX]
      cases hs : (sw m d.Base d.T (d.T + 1#64)).2 with
      | true => simp [hs, w4, h]
      | false => simp [hs, w4, h, k1]
  · refine zfH (by simp [k2, k3]) (zfH (by simp [k2, k3]) (zfH (by simp [k2, k3]) ?_))
    rw [if_neg k2, if_neg k3, Option.bind_some]
    by_cases g0 : d.Out = 0
    · simp [g0, k1, k2, k3]
    · simp [g0]
theorem zuc (m : List (BitVec 64)) (d : zi) : (zhM m d).1.length = m.length ∧ (zhM m d).2.Kind = d.Kind ∧ (zhM m d).2.Base = d.Base ∧ (zhM m d).2.Cap = d.Cap := by
  unfold zhM sw st
  split
  · exact ⟨rfl, rfl, rfl, rfl⟩
  split
  · exact ⟨rfl, rfl, rfl, rfl⟩
  split
  · refine ⟨?_, rfl, rfl, rfl⟩; dsimp only; split <;> simp
  split
  · exact ⟨rfl, rfl, rfl, rfl⟩
  split
  · exact ⟨rfl, rfl, rfl, rfl⟩
  split
  · refine ⟨?_, rfl, rfl, rfl⟩; dsimp only; split <;> (try split) <;> simp
  split <;> (refine ⟨?_, rfl, rfl, rfl⟩; dsimp only; split <;> simp)
theorem zrX (m : List (BitVec 64)) (d : zi) : (zaX m d).1.length = m.length ∧ (zaX m d).2.Kind = d.Kind ∧ (zaX m d).2.Base = d.Base ∧ (zaX m d).2.Cap = d.Cap := by
  unfold zaX sw st
  split
  · exact ⟨rfl, rfl, rfl, rfl⟩
  split
  · exact ⟨rfl, rfl, rfl, rfl⟩
  split
  · exact ⟨rfl, rfl, rfl, rfl⟩
  split
  · exact ⟨rfl, rfl, rfl, rfl⟩
  · refine ⟨?_, ?_, ?_, ?_⟩ <;> dsimp only <;> split <;> (try split) <;> simp
end
end Go.Pe.G
namespace Go.Pe.G
open Go.Pe
noncomputable section
def xx (h : zu) (o : Int) : List Int := h.Objs.getD (o - 1).toNat []
def Vy (h : zu) (o s : Int) : Bool := decide (1 ≤ o) && decide (o ≤ (h.Objs.length : Int)) && decide (0 ≤ s) && decide (s < ((xx h o).length : Int))
def Uu (h : zu) (o s : Int) : Int := if Vy h o s then (xx h o).getD s.toNat 0 else 0
def zpm (s : BitVec 64) (o : Int) : Bool := !(decide (s &&& bit o = 0#64))
def zgu (t : zq) (o : Int) : Int := if zpm (t.Marks &&& t.Black) o then 2 else if zpm t.Marks o then 1 else 0
def zoM (t : zq) (o : Int) : zq := if zgu t o = 1 then { t with Black := t.Black ||| bit o } else t
def zl2 (l : zk) (who : Int) : zk :=
  if 1 ≤ who ∧ who ≤ (l.Bal.length : Int) then { l with Scanned := wc (l.Scanned + 1), Bal := l.Bal.set (who - 1).toNat (wc (l.Bal.getD (who - 1).toNat 0 + 1)) }
  else { l with Scanned := wc (l.Scanned + 1), Pool := wc (l.Pool + 1) }
def zjB (s : za) (b : Int) : List Int := s.Bins.getD b.toNat []
def zvB (p : zd) (h x : Int) : zA := ⟨2, 0, h, yM p, 0#64, x, 0, 0⟩
def ztF (p : zd) (h x : Int) : zA := ⟨1, 0, h, yM p, 0#64, x, 0, 0⟩
def onW (s : za) (slot : Int) : Int := if slot = s.H.Slots then 8 else 5
def zn7 (p : zd) (w : Int) (x : zg) : zg := { x with PC := 0, Victim := w, D := ⟨2, 0, Z0 p w, p.Cap, 0#64, 0#64, 0, 0⟩ }
def zfv (n v : Int) : Int := if v < n then v + 1 else 1
def zjJ (p : zd) (w : Int) (x : zg) : zg :=
  if zfv p.Workers x.Victim = w then { x with PC := 2, Victim := w, C := zvB p (vz p) 0 }
  else { x with PC := 1, Victim := zfv p.Workers x.Victim, D := ⟨3, 0, Z0 p (zfv p.Workers x.Victim), p.Cap, 0#64, 0#64, 0, 0⟩ }
def yo (s : za) (w : Int) (x : zg) : za × zg :=
  if x.PC = 0 ∨ x.PC = 1 then
    ({ s with M := (wA s.M x.D).1 },
      if (wA s.M x.D).2.Out = 1 then { x with D := (wA s.M x.D).2, Victim := w, PC := 5, Obj := (wA s.M x.D).2.X, Slot := 0 }
      else if (wA s.M x.D).2.Out = 2 ∨ (wA s.M x.D).2.Out = 4 then zjJ s.P w { x with D := (wA s.M x.D).2 } else { x with D := (wA s.M x.D).2 })
  else if x.PC = 2 then
    ({ s with M := (zJ s.M x.C).1 },
      if (zJ s.M x.C).2.Out = 1 then { x with C := (zJ s.M x.C).2, Bin := (zJ s.M x.C).2.X, PC := 3 }
      else if (zJ s.M x.C).2.Out = 2 then zn7 s.P w { x with C := (zJ s.M x.C).2 } else { x with C := (zJ s.M x.C).2 })
  else if x.PC = 3 then ({ s with Bins := s.Bins.set x.Bin.toNat [] }, { x with Batch := zjB s x.Bin, PC := 4, C := ztF s.P (yM s.P) x.Bin })
  else if x.PC = 4 then
    ({ s with M := (zJ s.M x.C).1 }, if (zJ s.M x.C).2.Out = 1 then { x with C := (zJ s.M x.C).2, Bin := 0, PC := 7 } else { x with C := (zJ s.M x.C).2 })
  else if x.PC = 5 then
    (s, if Uu s.H x.Obj x.Slot = 0 then { x with Slot := wc (x.Slot + 1), PC := onW s (wc (x.Slot + 1)) } else { x with Slot := wc (x.Slot + 1), PC := 6, G := zoA 1 (Uu s.H x.Obj x.Slot) w })
  else if x.PC = 6 then ((zH s x.G).1, if (zH s x.G).2.Out = 1 then { x with G := (zH s x.G).2, PC := onW s x.Slot } else { x with G := (zH s x.G).2 })
  else if x.PC = 7 then (s, match x.Batch with | [] => zn7 s.P w x | o :: l => { x with Batch := l, PC := 5, Obj := o, Slot := 0 })
  else if x.PC = 8 then ({ s with T := zoM s.T x.Obj, L := zl2 s.L 0 }, { x with PC := 9 })
  else if x.PC = 9 then ({ s with Work := wc (s.Work - 1) }, { x with Obj := 0, PC := 7 })
  else (s, x)
def vw (s : za) (w : Int) : za :=
  if s.Done = true ∨ w < 1 ∨ (s.Ws.length : Int) < w then s
  else match s.Ws[(w - 1).toNat]? with
    | some x => { (yo s w x).1 with Ws := s.Ws.set (w - 1).toNat (yo s w x).2 }
    | none => s
structure ztI (p : zd) (nb : Nat) (hd : Int) (c : zA) : Prop where
  k : c.Kind = 2
  h : c.Head = hd
  n : c.Next = yM p
  v : 1 ≤ c.PC → 1 ≤ yQ c.H ∧ yQ c.H < nb
  y : 2 ≤ c.PC → 0 ≤ c.Y ∧ c.Y < nb
  o : c.Out ≠ 1
structure zrx (p : zd) (nb : Nat) (hd : Int) (c : zA) : Prop where
  k : c.Kind = 1
  h : c.Head = hd
  n : c.Next = yM p
  x : 1 ≤ c.X ∧ c.X < nb
  v : 1 ≤ c.PC → yQ c.H < nb
theorem ztm {p : zd} {nb : Nat} {hd x : Int} : ztI p nb hd (zvB p hd x) :=
  ⟨rfl, rfl, rfl, fun e => absurd e (by show ¬ (1 : Int) ≤ 0; decide), fun e => absurd e (by show ¬ (2 : Int) ≤ 0; decide), by show (0 : Int) ≠ 1; decide⟩
theorem zsl {p : zd} {nb : Nat} {hd x : Int} (h : 1 ≤ x ∧ x < nb) : zrx p nb hd (ztF p hd x) :=
  ⟨rfl, rfl, rfl, h, fun e => absurd e (by show ¬ (1 : Int) ≤ 0; decide)⟩
structure WOk (p : zd) (nb : Nat) (w : Int) (x : zg) : Prop where
  pc : 0 ≤ x.PC ∧ x.PC ≤ 9
  vic : 1 ≤ x.Victim ∧ x.Victim ≤ p.Workers
  d0 : x.PC = 0 → x.D.Kind = 2 ∧ x.D.Base = Z0 p w ∧ x.D.Cap = p.Cap
  d1 : x.PC = 1 → x.D.Kind = 3 ∧ x.D.Base = Z0 p x.Victim ∧ x.D.Cap = p.Cap
  c2 : x.PC = 2 → ztI p nb (vz p) x.C
  b3 : x.PC = 3 → 1 ≤ x.Bin ∧ x.Bin < nb
  c4 : x.PC = 4 → zrx p nb (yM p) x.C
  g6 : x.PC = 6 → MOk p nb x.G ∧ (x.G.PC = 5 → x.G.C.Out ≠ 1) ∧ x.G.Mode = 1 ∧ x.G.PC ≠ 4
theorem WOk.plain {p : zd} {nb : Nat} {w : Int} {x : zg} (pc : x.PC = 5 ∨ x.PC = 7 ∨ x.PC = 8 ∨ x.PC = 9) (vic : 1 ≤ x.Victim ∧ x.Victim ≤ p.Workers) : WOk p nb w x :=
  ⟨by omega, vic, fun e => by omega, fun e => by omega, fun e => by omega, fun e => by omega, fun e => by omega, fun e => by omega⟩
theorem SOk.swLow {p : zd} {nb : Nat} {s : za} (h : zQ p) (S : SOk p nb s) {a : Int} (ha : a < vz p) (x v : BitVec 64) : SOk p nb { s with M := (sw s.M a x v).1 } := by
  unfold sw
  split
  · exact S.low h ha v
  · exact S
theorem zx8 {p : zd} {nb : Nat} {s : za} (h : zQ p) (S : SOk p nb s) {d : zi} {v : Int} (hv : 1 ≤ v ∧ v ≤ p.Workers) (hk : d.Kind = 2 ∨ d.Kind = 3) (hb : d.Base = Z0 p v) : SOk p nb { s with M := (wA s.M d).1 } := by
  have hd := znE h hv.1 hv.2
  have hc := h.cap
  have hf := zaW h
  have e1 : wc (d.Base + 1) = d.Base + 1 := Y6 (by omega) (by omega)
  unfold wA
  split
  · exact S
  split
  · omega
  split
  · unfold zhM
    rw [e1]
    split
    · exact S
    split
    · exact S
    split
    · exact S.low h (by omega) _
    split
    · exact S
    split
    · exact S
    split
    · exact S.swLow h (by omega) _ _
    split <;> exact S.low h (by omega) _
  split
  · unfold zaX
    split
    · exact S
    split
    · exact S
    split
    · exact S
    split
    · exact S
    · exact S.swLow h (by omega) _ _
  · exact S
theorem zms (m : List (BitVec 64)) (d : zi) : (wA m d).1.length = m.length ∧ (wA m d).2.Kind = d.Kind ∧ (wA m d).2.Base = d.Base ∧ (wA m d).2.Cap = d.Cap := by
  unfold wA
  split
  · exact ⟨rfl, rfl, rfl, rfl⟩
  split
  · unfold u9
    split
    · exact ⟨rfl, rfl, rfl, rfl⟩
    split
    · exact ⟨rfl, rfl, rfl, rfl⟩
    split
    · refine ⟨rfl, ?_, ?_, ?_⟩ <;> dsimp only <;> split <;> rfl
    split <;> exact ⟨Vm _ _ _, rfl, rfl, rfl⟩
  split
  · exact zuc m d
  split
  · exact zrX m d
  · exact ⟨rfl, rfl, rfl, rfl⟩
theorem zvF {n v : Int} (h : 1 ≤ v ∧ v ≤ n) : 1 ≤ zfv n v ∧ zfv n v ≤ n := by unfold zfv; split <;> omega
theorem WOk.look {p : zd} {nb : Nat} {w : Int} {x : zg} (hw : 1 ≤ w ∧ w ≤ p.Workers) (vic : 1 ≤ x.Victim ∧ x.Victim ≤ p.Workers) : WOk p nb w (zjJ p w x) := by
  have hn := zvF vic
  unfold zjJ
  split
  · exact ⟨⟨(by show (0 : Int) ≤ 2; decide), (by show (2 : Int) ≤ 9; decide)⟩, hw, fun e => (by cases e), fun e => (by cases e), fun _ => ztm, fun e => (by cases e), fun e => (by cases e), fun e => (by cases e)⟩
  · exact ⟨⟨(by show (0 : Int) ≤ 1; decide), (by show (1 : Int) ≤ 9; decide)⟩, hn, fun e => (by cases e), fun _ => ⟨rfl, rfl, rfl⟩, fun e => (by cases e), fun e => (by cases e), fun e => (by cases e), fun e => (by cases e)⟩
theorem WOk.begin {p : zd} {nb : Nat} {w : Int} {x : zg} (hw : 1 ≤ w ∧ w ≤ p.Workers) : WOk p nb w (zn7 p w x) :=
  ⟨⟨(by show (0 : Int) ≤ 0; decide), (by show (0 : Int) ≤ 9; decide)⟩, hw, fun _ => ⟨rfl, rfl, rfl⟩, fun e => (by cases e), fun e => (by cases e), fun e => (by cases e), fun e => (by cases e), fun e => (by cases e)⟩
theorem ztB (s : za) {g : zD} (h1 : g.Mode = 1) (h4 : g.PC ≠ 4) : (zH s g).2.PC ≠ 4 ∧ (zH s g).1.Flag = s.Flag := by
  have five : (5 : Int) ≠ 4 := by decide
  unfold zH
  split
  · exact ⟨h4, rfl⟩
  split
  · refine ⟨?_, rfl⟩; unfold zgV; dsimp only; split <;> exact h4
  split
  · exact ⟨(by show (7 : Int) ≠ 4; decide), rfl⟩
  split
  · refine ⟨?_, rfl⟩; unfold zl3; dsimp only
    split
    · show (6 : Int) ≠ 4; decide
    split
    · exact five
    · exact h4
  split
  · refine ⟨?_, rfl⟩; unfold zlX; dsimp only
    split
    · exact h4
    split
    · exact five
    · exact h4
  split
  · exact ⟨h4, rfl⟩
  split
  · refine ⟨?_, rfl⟩; unfold zov; dsimp only
    split
    · show (2 : Int) ≠ 4; decide
    · show (3 : Int) ≠ 4; decide
  · exact ⟨(by show (1 : Int) ≠ 4; decide), rfl⟩
theorem zuW (s : za) (i : Int) : onW s i = 5 ∨ onW s i = 8 := by unfold onW; split <;> simp
theorem SOk.keep {p : zd} {nb : Nat} {s s' : za} (S : SOk p nb s) (hP : s'.P = s.P) (hM : s'.M = s.M) (hB : s'.Bins.length = s.Bins.length) : SOk p nb s' :=
  ⟨hP.trans S.P, hB.trans S.bins, S.nbk, by rw [hM]; exact S.mem, by rw [hM]; exact S.cF, by rw [hM]; exact S.cE, by rw [hM]; exact S.cL⟩
theorem zw0 {p : zd} {nb : Nat} {s : za} {w : Int} {x : zg} (h : zQ p) (hw : 1 ≤ w ∧ w ≤ p.Workers) (S : SOk p nb s) (W : WOk p nb w x) : SOk p nb (yo s w x).1 ∧ WOk p nb w (yo s w x).2 := by
  have hP := S.P
  unfold yo
  split
  · rename_i h01
    have hv : ∃ v, (1 ≤ v ∧ v ≤ p.Workers) ∧ (x.D.Kind = 2 ∨ x.D.Kind = 3) ∧ x.D.Base = Z0 p v := by
      rcases h01 with e | e
      · obtain ⟨a, b, c⟩ := W.d0 e; exact ⟨w, hw, .inl a, b⟩
      · obtain ⟨a, b, c⟩ := W.d1 e; exact ⟨x.Victim, W.vic, .inr a, b⟩
    obtain ⟨v, hv1, hv2, hv3⟩ := hv
    refine ⟨zx8 h S hv1 hv2 hv3, ?_⟩
    obtain ⟨l1, l2, l3, l4⟩ := zms s.M x.D
    dsimp only
    split
    · exact WOk.plain (.inl rfl) hw
    split
    · rw [hP]; exact WOk.look hw W.vic
    · refine ⟨W.pc, W.vic, fun e => ?_, fun e => ?_, fun e => by dsimp only at e; omega, fun e => by dsimp only at e; omega, fun e => by dsimp only at e; omega, fun e => by dsimp only at e; omega⟩
      · obtain ⟨a, b, c⟩ := W.d0 e; exact ⟨l2.trans a, l3.trans b, l4.trans c⟩
      · obtain ⟨a, b, c⟩ := W.d1 e; exact ⟨l2.trans a, l3.trans b, l4.trans c⟩
  split
  · rename_i h2
    have C := W.c2 h2
    obtain ⟨b1, b2, b3, b4, b5, b6⟩ := zsy h S (.inl rfl) C.k C.h C.n C.v C.y C.o
    refine ⟨b1, ?_⟩
    dsimp only
    split
    · rename_i e1
      exact ⟨⟨(by show (0 : Int) ≤ 3; decide), (by show (3 : Int) ≤ 9; decide)⟩, W.vic, fun e => (by cases e), fun e => (by cases e), fun e => (by cases e), fun _ => b6 e1, fun e => (by cases e), fun e => (by cases e)⟩
    split
    · rw [hP]; exact WOk.begin hw
    · rename_i e1 e2
      exact ⟨W.pc, W.vic, fun e => (by dsimp only at e; omega), fun e => (by dsimp only at e; omega), fun _ => ⟨b2, b3, b4, (b5 e1 e2).1, (b5 e1 e2).2, e1⟩, fun e => (by dsimp only at e; omega), fun e => (by dsimp only at e; omega), fun e => (by dsimp only at e; omega)⟩
  split
  · rename_i h3
    have B := W.b3 h3
    refine ⟨S.keep rfl rfl (by simp), ?_⟩
    rw [hP]
    exact ⟨⟨(by show (0 : Int) ≤ 4; decide), (by show (4 : Int) ≤ 9; decide)⟩, W.vic, fun e => (by cases e), fun e => (by cases e), fun e => (by cases e), fun e => (by cases e), fun _ => zsl B, fun e => (by cases e)⟩
  split
  · rename_i h4
    have C := W.c4 h4
    obtain ⟨b1, b2, b3, b4, b5, b6⟩ := zp0 h S (.inr rfl) C.k C.h C.n C.x C.v
    refine ⟨b1, ?_⟩
    dsimp only
    split
    · exact WOk.plain (.inr (.inl rfl)) W.vic
    · exact ⟨W.pc, W.vic, fun e => (by dsimp only at e; omega), fun e => (by dsimp only at e; omega), fun e => (by dsimp only at e; omega), fun e => (by dsimp only at e; omega), fun _ => ⟨b2, b3, b4, b5, b6⟩, fun e => (by dsimp only at e; omega)⟩
  split
  · refine ⟨S, ?_⟩
    dsimp only
    split
    · rcases zuW s (wc (x.Slot + 1)) with e | e <;> rw [e]
      · exact WOk.plain (.inl rfl) W.vic
      · exact WOk.plain (.inr (.inr (.inl rfl))) W.vic
    · exact ⟨⟨(by show (0 : Int) ≤ 6; decide), (by show (6 : Int) ≤ 9; decide)⟩, W.vic, fun e => (by cases e), fun e => (by cases e), fun e => (by cases e), fun e => (by cases e), fun e => (by cases e), fun _ =>
        ⟨⟨fun _ => hw, fun e => (by cases e), fun e => (by cases e), fun e => (by cases e), fun e => (by cases e)⟩, fun e => (by cases e), rfl, by show (0 : Int) ≠ 4; decide⟩⟩
  split
  · rename_i h6
    obtain ⟨g1, g2, g3, g4⟩ := W.g6 h6
    obtain ⟨r1, r2, r3⟩ := zpM h S g1 g2
    refine ⟨r1, ?_⟩
    dsimp only
    split
    · rcases zuW s x.Slot with e | e <;> rw [e]
      · exact WOk.plain (.inl rfl) W.vic
      · exact WOk.plain (.inr (.inr (.inl rfl))) W.vic
    · exact ⟨W.pc, W.vic, fun e => (by dsimp only at e; omega), fun e => (by dsimp only at e; omega), fun e => (by dsimp only at e; omega), fun e => (by dsimp only at e; omega), fun e => (by dsimp only at e; omega), fun _ => ⟨r2, r3, (zne s x.G).2.2.trans g3, (ztB s g3 g4).1⟩⟩
  split
  · refine ⟨S, ?_⟩
    dsimp only
    split
    · rw [hP]; exact WOk.begin hw
    · exact WOk.plain (.inl rfl) W.vic
  split
  · exact ⟨S.keep rfl rfl rfl, WOk.plain (.inr (.inr (.inr rfl))) W.vic⟩
  split
  · exact ⟨S.keep rfl rfl rfl, WOk.plain (.inr (.inl rfl)) W.vic⟩
  · have := W.pc
    omega
end
end Go.Pe.G
namespace Go.Pe.G
open Go.Pe
noncomputable section
def zje (h : zu) (o s v : Int) : zu :=
  if Vy h o s = true ∧ 0 ≤ v ∧ v ≤ (h.Objs.length : Int) then { h with Objs := h.Objs.set (o - 1).toNat ((xx h o).set s.toNat v) } else h
def zfn (h : zu) (most : Int) : Bool := decide ((h.Objs.length : Int) < most) && decide ((h.Objs.length : Int) < 64)
def zjp (h : zu) : zu := { h with Objs := h.Objs ++ [List.replicate h.Slots.toNat 0] }
def znY (t : zq) (o : Int) : zq := if (ze0 t o).2 = true then zoM (ze0 t o).1 o else t
def zbv (l : zk) (who : Int) : Int := l.Bal.getD (who - 1).toNat 0
def Ua (l : zk) (who : Int) : Bool := decide (1 ≤ who) && decide (who ≤ (l.Bal.length : Int))
def UA (l : zk) (who price limit : Int) : Bool := Ua l who && decide (0 ≤ price) && decide (0 ≤ limit) && decide (price ≤ 1000000) && decide (limit ≤ 1000000)
def zjZ (l : zk) (who price limit : Int) : Bool := UA l who price limit && decide (wc (-limit) ≤ wc (zbv l who - price))
def zkS (l : zk) (who price : Int) : zk := { l with Spent := wc (l.Spent + price), Bal := l.Bal.set (who - 1).toNat (wc (zbv l who - price)) }
def zlx (l : zk) (who price limit : Int) : Int := if UA l who price limit then (if zjZ l who price limit then 0 else wc (wc (price - limit) - zbv l who)) else -1
def zju (a b : Int) : Int := if b < a then b else a
def zhI (l : zk) (who want : Int) : zk × Int :=
  if Ua l who = true ∧ 0 < zju want l.Pool then ({ l with Pool := wc (l.Pool - zju want l.Pool), Bal := l.Bal.set (who - 1).toNat (wc (zbv l who + zju want l.Pool)) }, zju want l.Pool) else (l, 0)
def wz (p : zd) (m : Int) : List zh := p.Progs.getD (m - 1).toNat []
def opM (p : zd) (m : Int) (x : zc) : zh := (wz p m).getD x.IP.toNat ⟨0, 0, 0, 0⟩
def ziy (x : zc) (r : Int) : Int := x.Regs.getD r.toNat 0
def zre (x : zc) : zc := { x with PC := 0, IP := wc (x.IP + 1) }
def setM (x : zc) (r v : Int) : zc := { x with PC := 0, IP := wc (x.IP + 1), Regs := x.Regs.set r.toNat v }
def onM (s : za) (slot : Int) : Int := if slot = s.H.Slots then 38 else 36
def zri (s : za) (m : Int) (x : zc) : Int := Uu s.H (ziy x (opM s.P m x).A) (opM s.P m x).S
def zgd (s : za) (m : Int) (x : zc) : zc :=
  if s.Acks.getD (m - 1).toNat 0 < s.Epoch then { x with PC := 1, Ret := 2, Want := s.Epoch }
  else if ((wz s.P m).length : Int) ≤ x.IP then x
  else if (opM s.P m x).Kind = 1 then { x with PC := 10 }
  else if (opM s.P m x).Kind = 2 then { x with PC := 20 }
  else if (opM s.P m x).Kind = 3 then { x with PC := 30 }
  else if (opM s.P m x).Kind = 4 then setM x (opM s.P m x).R (ziy x (opM s.P m x).A)
  else setM x (opM s.P m x).R 0
def mu0 (s : za) (m : Int) (x : zc) : za × zc :=
  (s, zgd s m x)
def mu1 (s : za) (m : Int) (x : zc) : za × zc :=
  (s, if x.Buf.length = 0 then { x with PC := x.Ret } else { x with PC := 3, Buf := x.Buf.take (x.Buf.length - 1), G := zoA 2 (x.Buf.getD (x.Buf.length - 1) 0) m })
def mu2 (s : za) (m : Int) (x : zc) : za × zc :=
  ({ s with Acks := s.Acks.set (m - 1).toNat x.Want }, { x with PC := 0 })
def mu3 (s : za) (m : Int) (x : zc) : za × zc :=
  ((zH s x.G).1, if (zH s x.G).2.Out = 1 then { x with PC := 1, G := (zH s x.G).2 } else { x with G := (zH s x.G).2 })
def zm9 (s : za) (m : Int) (x : zc) : za × zc :=
  (s, setM x (opM s.P m x).R (zri s m x))
def zk3 (s : za) (m : Int) (x : zc) : za × zc :=
  (s, if ziy x (opM s.P m x).A = 0 then zre x else { x with PC := 21, Old := zri s m x })
def zlm (s : za) (m : Int) (x : zc) : za × zc :=
  (s, if x.Old = 0 ∨ zgu s.T x.Old ≠ 0 then { x with PC := 23, Old := 0 } else { x with PC := 22 })
def zlc (s : za) (m : Int) (x : zc) : za × zc :=
  (s, if s.P.Buf ≤ (x.Buf.length : Int) then { x with PC := 1, Ret := 22 } else { x with PC := 23, Old := 0, Buf := x.Buf ++ [x.Old] })
def znH (s : za) (m : Int) (x : zc) : za × zc :=
  ({ s with H := zje s.H (ziy x (opM s.P m x).A) (opM s.P m x).S (ziy x (opM s.P m x).R) }, zre x)
def zh5 (s : za) (m : Int) (x : zc) : za × zc :=
     if zjZ s.L m s.P.Price s.P.Limit = true then
      if zfn s.H s.P.Most = true then ({ s with L := zkS s.L m s.P.Price, H := zjp s.H, T := znY s.T (wc (s.H.Objs.length + 1)) }, setM x (opM s.P m x).R (wc (s.H.Objs.length + 1)))
      else (s, zre x)
    else (s, { x with PC := 31 })
def zlj (s : za) (m : Int) (x : zc) : za × zc :=
     ({ s with L := (zhI s.L m (zlx s.L m s.P.Price s.P.Limit)).1 }, if (zhI s.L m (zlx s.L m s.P.Price s.P.Limit)).2 = 0 then { x with PC := 32, C := zvB s.P (vz s.P) x.Bin } else { x with PC := 0 })
def zli (s : za) (m : Int) (x : zc) : za × zc :=
     ({ s with M := (zJ s.M x.C).1 }, if (zJ s.M x.C).2.Out = 1 then { x with PC := 33, Bin := (zJ s.M x.C).2.X, C := (zJ s.M x.C).2 }
      else if (zJ s.M x.C).2.Out = 2 then { x with PC := 0, C := (zJ s.M x.C).2 } else { x with C := (zJ s.M x.C).2 })
def znu (s : za) (m : Int) (x : zc) : za × zc :=
  ({ s with Bins := s.Bins.set x.Bin.toNat [] }, { x with Batch := zjB s x.Bin, PC := 34, C := ztF s.P (yM s.P) x.Bin })
def zlD (s : za) (m : Int) (x : zc) : za × zc :=
     ({ s with M := (zJ s.M x.C).1 }, if (zJ s.M x.C).2.Out = 1 then { x with C := (zJ s.M x.C).2, Bin := 0, PC := 35 } else { x with C := (zJ s.M x.C).2 })
def zlf (s : za) (m : Int) (x : zc) : za × zc :=
  (s, match x.Batch with | [] => { x with PC := 0 } | o :: l => { x with PC := 36, Obj := o, Slot := 0, Batch := l })
def zlw (s : za) (m : Int) (x : zc) : za × zc :=
     (s, if Uu s.H x.Obj x.Slot = 0 then { x with Slot := wc (x.Slot + 1), PC := onM s (wc (x.Slot + 1)) } else { x with Slot := wc (x.Slot + 1), PC := 37, G := zoA 3 (Uu s.H x.Obj x.Slot) m })
def zmS (s : za) (m : Int) (x : zc) : za × zc :=
  ((zH s x.G).1, if (zH s x.G).2.Out = 1 then { x with G := (zH s x.G).2, PC := onM s x.Slot } else { x with G := (zH s x.G).2 })
def znq (s : za) (m : Int) (x : zc) : za × zc :=
  ({ s with T := zoM s.T x.Obj, L := zl2 s.L m }, { x with PC := 39 })
def zpk (s : za) (m : Int) (x : zc) : za × zc :=
  ({ s with Work := wc (s.Work - 1) }, { x with Obj := 0, PC := 35 })
def z8 (s : za) (m : Int) (x : zc) : za × zc :=
  if x.PC = 0 then mu0 s m x
  else if x.PC = 1 then mu1 s m x
  else if x.PC = 2 then mu2 s m x
  else if x.PC = 3 then mu3 s m x
  else if x.PC = 10 then zm9 s m x
  else if x.PC = 20 then zk3 s m x
  else if x.PC = 21 then zlm s m x
  else if x.PC = 22 then zlc s m x
  else if x.PC = 23 then znH s m x
  else if x.PC = 30 then zh5 s m x
  else if x.PC = 31 then zlj s m x
  else if x.PC = 32 then zli s m x
  else if x.PC = 33 then znu s m x
  else if x.PC = 34 then zlD s m x
  else if x.PC = 35 then zlf s m x
  else if x.PC = 36 then zlw s m x
  else if x.PC = 37 then zmS s m x
  else if x.PC = 38 then znq s m x
  else if x.PC = 39 then zpk s m x
  else (s, x)
def yD (s : za) (m : Int) : za :=
  if s.Done = true ∨ m < 1 ∨ (s.Ms.length : Int) < m then s
  else match s.Ms[(m - 1).toNat]? with
    | some x => { (z8 s m x).1 with Ms := s.Ms.set (m - 1).toNat (z8 s m x).2 }
    | none => s
def zdx (p : zd) (m : Int) : Nat := (p.Regs.getD (m - 1).toNat []).length
structure XOk (p : zd) (nb : Nat) (m : Int) (x : zc) : Prop where
  pc : (0 ≤ x.PC ∧ x.PC ≤ 3) ∨ x.PC = 10 ∨ (20 ≤ x.PC ∧ x.PC ≤ 23) ∨ (30 ≤ x.PC ∧ x.PC ≤ 39)
  regs : x.Regs.length = zdx p m
  ip : 0 ≤ x.IP ∧ x.IP ≤ ((wz p m).length : Int)
  op : (10 ≤ x.PC ∧ x.PC ≤ 30) ∨ ((x.PC = 1 ∨ x.PC = 3) ∧ x.Ret = 22) → x.IP < ((wz p m).length : Int)
  ret : x.PC = 1 ∨ x.PC = 3 → x.Ret = 2 ∨ x.Ret = 22
  c32 : x.PC = 32 → ztI p nb (vz p) x.C
  b33 : x.PC = 33 → 1 ≤ x.Bin ∧ x.Bin < nb
  c34 : x.PC = 34 → zrx p nb (yM p) x.C
  bin : x.PC ≠ 33 → x.PC ≠ 34 → x.Bin = 0
  g : x.PC = 3 ∨ x.PC = 37 → MOk p nb x.G ∧ (x.G.PC = 5 → x.G.C.Out ≠ 1) ∧ x.G.Mode ≠ 1
  buf : (x.Buf.length : Int) ≤ p.Buf
theorem XOk.move {p : zd} {nb : Nat} {m : Int} {x y : zc} (X : XOk p nb m x) (h : x.PC ≠ 33 ∧ x.PC ≠ 34) (pc : y.PC = 0 ∨ y.PC = 2 ∨ y.PC = 10 ∨ (20 ≤ y.PC ∧ y.PC ≤ 23) ∨ y.PC = 30 ∨ y.PC = 31 ∨ y.PC = 35 ∨ y.PC = 36 ∨ y.PC = 38 ∨ y.PC = 39)
    (regs : y.Regs.length = x.Regs.length) (bin : y.Bin = x.Bin) (buf : (y.Buf.length : Int) ≤ p.Buf) (ip : 0 ≤ y.IP ∧ y.IP ≤ ((wz p m).length : Int)) (op : 10 ≤ y.PC ∧ y.PC ≤ 30 → y.IP < ((wz p m).length : Int)) : XOk p nb m y :=
  ⟨by omega, regs.trans X.regs, ip, fun e => op (by omega), fun e => by omega, fun e => by omega, fun e => by omega, fun e => by omega, fun _ _ => bin.trans (X.bin h.1 h.2), fun e => by omega, buf⟩
theorem znT (s : za) (i : Int) : onM s i = 36 ∨ onM s i = 38 := by unfold onM; split <;> simp
theorem XOk.next {p : zd} {nb : Nat} {m : Int} {x : zc} (hp : ((wz p m).length : Int) ≤ 64) (X : XOk p nb m x) (h : x.PC ≠ 33 ∧ x.PC ≠ 34) (hi : x.IP < ((wz p m).length : Int)) : XOk p nb m (zre x) := by
  have := X.ip
  have e : wc (x.IP + 1) = x.IP + 1 := Y6 (by omega) (by omega)
  refine X.move h (.inl rfl) rfl rfl X.buf ?_ (fun h => absurd h (by show ¬ ((10 : Int) ≤ 0 ∧ (0 : Int) ≤ 30); decide))
  show 0 ≤ wc (x.IP + 1) ∧ wc (x.IP + 1) ≤ _
  rw [e]; omega
theorem XOk.set {p : zd} {nb : Nat} {m : Int} {x : zc} (hp : ((wz p m).length : Int) ≤ 64) (X : XOk p nb m x) (h : x.PC ≠ 33 ∧ x.PC ≠ 34) (hi : x.IP < ((wz p m).length : Int)) (r v : Int) : XOk p nb m (setM x r v) := by
  have := X.ip
  have e : wc (x.IP + 1) = x.IP + 1 := Y6 (by omega) (by omega)
  refine X.move h (.inl rfl) (by simp [setM]) rfl X.buf ?_ (fun h => absurd h (by show ¬ ((10 : Int) ≤ 0 ∧ (0 : Int) ≤ 30); decide))
  show 0 ≤ wc (x.IP + 1) ∧ wc (x.IP + 1) ≤ _
  rw [e]; omega
theorem ZT {motive : za × zc → Prop} (s : za) (m : Int) (x : zc) (h0 : x.PC = 0 → motive (mu0 s m x)) (h1 : x.PC = 1 → motive (mu1 s m x)) (h2 : x.PC = 2 → motive (mu2 s m x)) (h3 : x.PC = 3 → motive (mu3 s m x)) (h10 : x.PC = 10 → motive (zm9 s m x)) (h20 : x.PC = 20 → motive (zk3 s m x)) (h21 : x.PC = 21 → motive (zlm s m x)) (h22 : x.PC = 22 → motive (zlc s m x)) (h23 : x.PC = 23 → motive (znH s m x)) (h30 : x.PC = 30 → motive (zh5 s m x)) (h31 : x.PC = 31 → motive (zlj s m x)) (h32 : x.PC = 32 → motive (zli s m x)) (h33 : x.PC = 33 → motive (znu s m x)) (h34 : x.PC = 34 → motive (zlD s m x)) (h35 : x.PC = 35 → motive (zlf s m x)) (h36 : x.PC = 36 → motive (zlw s m x)) (h37 : x.PC = 37 → motive (zmS s m x)) (h38 : x.PC = 38 → motive (znq s m x)) (h39 : x.PC = 39 → motive (zpk s m x)) (hn : motive (s, x)) : motive (z8 s m x) := by
  unfold z8
  by_cases c0 : x.PC = 0
  · rw [if_pos c0]; exact h0 c0
  rw [if_neg c0]
  by_cases c1 : x.PC = 1
  · rw [if_pos c1]; exact h1 c1
  rw [if_neg c1]
  by_cases c2 : x.PC = 2
  · rw [if_pos c2]; exact h2 c2
  rw [if_neg c2]
  by_cases c3 : x.PC = 3
  · rw [if_pos c3]; exact h3 c3
  rw [if_neg c3]
  by_cases c10 : x.PC = 10
  · rw [if_pos c10]; exact h10 c10
  rw [if_neg c10]
  by_cases c20 : x.PC = 20
  · rw [if_pos c20]; exact h20 c20
  rw [if_neg c20]
  by_cases c21 : x.PC = 21
  · rw [if_pos c21]; exact h21 c21
  rw [if_neg c21]
  by_cases c22 : x.PC = 22
  · rw [if_pos c22]; exact h22 c22
  rw [if_neg c22]
  by_cases c23 : x.PC = 23
  · rw [if_pos c23]; exact h23 c23
  rw [if_neg c23]
  by_cases c30 : x.PC = 30
  · rw [if_pos c30]; exact h30 c30
  rw [if_neg c30]
  by_cases c31 : x.PC = 31
  · rw [if_pos c31]; exact h31 c31
  rw [if_neg c31]
  by_cases c32 : x.PC = 32
  · rw [if_pos c32]; exact h32 c32
  rw [if_neg c32]
  by_cases c33 : x.PC = 33
  · rw [if_pos c33]; exact h33 c33
  rw [if_neg c33]
  by_cases c34 : x.PC = 34
  · rw [if_pos c34]; exact h34 c34
  rw [if_neg c34]
  by_cases c35 : x.PC = 35
  · rw [if_pos c35]; exact h35 c35
  rw [if_neg c35]
  by_cases c36 : x.PC = 36
  · rw [if_pos c36]; exact h36 c36
  rw [if_neg c36]
  by_cases c37 : x.PC = 37
  · rw [if_pos c37]; exact h37 c37
  rw [if_neg c37]
  by_cases c38 : x.PC = 38
  · rw [if_pos c38]; exact h38 c38
  rw [if_neg c38]
  by_cases c39 : x.PC = 39
  · rw [if_pos c39]; exact h39 c39
  rw [if_neg c39]
  exact hn
theorem zxk {p : zd} {nb : Nat} {s : za} {m : Int} {x : zc} (h : zQ p) (hp : ((wz p m).length : Int) ≤ 64) (S : SOk p nb s) (X : XOk p nb m x) : SOk p nb (z8 s m x).1 ∧ XOk p nb m (z8 s m x).2 := by
  have hP := S.P
  have hip := X.ip
  have hbuf := X.buf
  have hb := h.buf
  have nop : ∀ y : Int, 31 ≤ y → ¬ (10 ≤ y ∧ y ≤ 30) := fun y h e => by omega
  refine ZT (motive := fun r => SOk p nb r.1 ∧ XOk p nb m r.2) s m x ?_ ?_ ?_ ?_ ?_ ?_ ?_ ?_ ?_ ?_ ?_ ?_ ?_ ?_ ?_ ?_ ?_ ?_ ?_ ?_
  · intro c
    unfold mu0
    refine ⟨S, ?_⟩
    unfold zgd
    rw [hP]
    split
    · exact ⟨.inl ⟨(by show (0 : Int) ≤ 1; decide), (by show (1 : Int) ≤ 3; decide)⟩, X.regs, X.ip, fun e => by dsimp only at e; omega, fun _ => .inl rfl, fun e => (by cases e), fun e => (by cases e), fun e => (by cases e), fun _ _ => X.bin (by omega) (by omega), fun e => by dsimp only at e; omega, X.buf⟩
    split
    · exact X
    rename_i hlt
    have hlt : x.IP < ((wz p m).length : Int) := by omega
    split
    · exact X.move (by omega) (.inr (.inr (.inl rfl))) rfl rfl X.buf X.ip (fun _ => hlt)
    split
    · exact X.move (by omega) (.inr (.inr (.inr (.inl ⟨by show (20 : Int) ≤ 20; decide, by show (20 : Int) ≤ 23; decide⟩)))) rfl rfl X.buf X.ip (fun _ => hlt)
    split
    · exact X.move (by omega) (.inr (.inr (.inr (.inr (.inl rfl))))) rfl rfl X.buf X.ip (fun _ => hlt)
    split
    · exact X.set hp (by omega) hlt _ _
    · exact X.set hp (by omega) hlt _ _
  · intro c
    unfold mu1
    refine ⟨S, ?_⟩
    split
    · rcases X.ret (.inl c) with e | e
      · exact X.move (by omega) (.inr (.inl e)) rfl rfl X.buf X.ip (fun e2 => by dsimp only at e2; omega)
      · exact X.move (by omega) (.inr (.inr (.inr (.inl (by dsimp only; omega))))) rfl rfl X.buf X.ip (fun e2 => X.op (.inr ⟨.inl c, e⟩))
    · exact ⟨.inl ⟨(by show (0 : Int) ≤ 3; decide), (by show (3 : Int) ≤ 3; decide)⟩, X.regs, X.ip, fun e => X.op (.inr ⟨.inl c, by dsimp only at e; omega⟩), fun _ => X.ret (.inl c), fun e => (by cases e), fun e => (by cases e), fun e => (by cases e), fun _ _ => X.bin (by omega) (by omega),
        fun _ => ⟨⟨fun e => absurd e (by show ¬ (2 : Int) = 1; decide), fun e => (by cases e), fun e => (by cases e), fun e => (by cases e), fun e => (by cases e)⟩, fun e => (by cases e), by show (2 : Int) ≠ 1; decide⟩, by dsimp only; rw [List.length_take]; omega⟩
  · intro c
    unfold mu2
    exact ⟨S.keep rfl rfl rfl, X.move (by omega) (.inl rfl) rfl rfl X.buf X.ip (fun e => absurd e (by show ¬ ((10 : Int) ≤ 0 ∧ (0 : Int) ≤ 30); decide))⟩
  · intro c
    unfold mu3
    obtain ⟨g1, g2, g3⟩ := X.g (.inl c)
    obtain ⟨r1, r2, r3⟩ := zpM h S g1 g2
    refine ⟨r1, ?_⟩
    dsimp only
    split
    · exact ⟨.inl ⟨(by show (0 : Int) ≤ 1; decide), (by show (1 : Int) ≤ 3; decide)⟩, X.regs, X.ip, fun e => X.op (.inr ⟨.inr c, by dsimp only at e; omega⟩), fun _ => X.ret (.inr c), fun e => (by cases e), fun e => (by cases e), fun e => (by cases e), fun _ _ => X.bin (by omega) (by omega), fun e => by dsimp only at e; omega, X.buf⟩
    · exact ⟨X.pc, X.regs, X.ip, X.op, X.ret, fun e => by dsimp only at e; omega, fun e => by dsimp only at e; omega, fun e => by dsimp only at e; omega, X.bin, fun _ => ⟨r2, r3, by rw [(zne s x.G).2.2]; exact g3⟩, X.buf⟩
  · intro c
    unfold zm9
    exact ⟨S, X.set hp (by omega) (X.op (.inl (by omega))) _ _⟩
  · intro c
    unfold zk3
    refine ⟨S, ?_⟩
    split
    · exact X.next hp (by omega) (X.op (.inl (by omega)))
    · exact X.move (by omega) (.inr (.inr (.inr (.inl ⟨by show (20 : Int) ≤ 21; decide, by show (21 : Int) ≤ 23; decide⟩)))) rfl rfl X.buf X.ip (fun _ => X.op (.inl (by omega)))
  · intro c
    unfold zlm
    refine ⟨S, ?_⟩
    split
    · exact X.move (by omega) (.inr (.inr (.inr (.inl ⟨by show (20 : Int) ≤ 23; decide, by show (23 : Int) ≤ 23; decide⟩)))) rfl rfl X.buf X.ip (fun _ => X.op (.inl (by omega)))
    · exact X.move (by omega) (.inr (.inr (.inr (.inl ⟨by show (20 : Int) ≤ 22; decide, by show (22 : Int) ≤ 23; decide⟩)))) rfl rfl X.buf X.ip (fun _ => X.op (.inl (by omega)))
  · intro c
    unfold zlc
    have hi := X.op (.inl (by omega))
    refine ⟨S, ?_⟩
    rw [hP]
    split
    · exact ⟨.inl ⟨(by show (0 : Int) ≤ 1; decide), (by show (1 : Int) ≤ 3; decide)⟩, X.regs, X.ip, fun e => hi, fun _ => .inr rfl, fun e => (by cases e), fun e => (by cases e), fun e => (by cases e), fun _ _ => X.bin (by omega) (by omega), fun e => by dsimp only at e; omega, X.buf⟩
    · exact X.move (by omega) (.inr (.inr (.inr (.inl ⟨by show (20 : Int) ≤ 23; decide, by show (23 : Int) ≤ 23; decide⟩)))) rfl rfl (by simp; omega) X.ip (fun _ => hi)
  · intro c
    unfold znH
    exact ⟨S.keep rfl rfl rfl, X.next hp (by omega) (X.op (.inl (by omega)))⟩
  · intro c
    unfold zh5
    have hi := X.op (.inl (by omega))
    split
    · split
      · exact ⟨S.keep rfl rfl rfl, X.set hp (by omega) hi _ _⟩
      · exact ⟨S, X.next hp (by omega) hi⟩
    · exact ⟨S, X.move (by omega) (.inr (.inr (.inr (.inr (.inr (.inl rfl)))))) rfl rfl X.buf X.ip (fun e => absurd e (by show ¬ ((10 : Int) ≤ 31 ∧ (31 : Int) ≤ 30); decide))⟩
  · intro c
    unfold zlj
    refine ⟨S.keep rfl rfl rfl, ?_⟩
    rw [hP]
    split
    · exact ⟨.inr (.inr (.inr ⟨(by show (30 : Int) ≤ 32; decide), (by show (32 : Int) ≤ 39; decide)⟩)), X.regs, X.ip, fun e => by dsimp only at e; omega, fun e => by dsimp only at e; omega, fun _ => ztm, fun e => (by cases e), fun e => (by cases e), fun _ _ => X.bin (by omega) (by omega), fun e => by dsimp only at e; omega, X.buf⟩
    · exact X.move (by omega) (.inl rfl) rfl rfl X.buf X.ip (fun e => absurd e (by show ¬ ((10 : Int) ≤ 0 ∧ (0 : Int) ≤ 30); decide))
  · intro c
    unfold zli
    have C := X.c32 c
    obtain ⟨b1, b2, b3, b4, b5, b6⟩ := zsy h S (.inl rfl) C.k C.h C.n C.v C.y C.o
    refine ⟨b1, ?_⟩
    dsimp only
    split
    · rename_i e1
      exact ⟨.inr (.inr (.inr ⟨(by show (30 : Int) ≤ 33; decide), (by show (33 : Int) ≤ 39; decide)⟩)), X.regs, X.ip, fun e => by dsimp only at e; omega, fun e => by dsimp only at e; omega, fun e => (by cases e), fun _ => b6 e1, fun e => (by cases e), fun e => absurd rfl e, fun e => by dsimp only at e; omega, X.buf⟩
    split
    · exact X.move (by omega) (.inl rfl) rfl rfl X.buf X.ip (fun e => absurd e (by show ¬ ((10 : Int) ≤ 0 ∧ (0 : Int) ≤ 30); decide))
    · rename_i e1 e2
      exact ⟨X.pc, X.regs, X.ip, X.op, X.ret, fun _ => ⟨b2, b3, b4, (b5 e1 e2).1, (b5 e1 e2).2, e1⟩, fun e => by dsimp only at e; omega, fun e => by dsimp only at e; omega, X.bin, fun e => by dsimp only at e; omega, X.buf⟩
  · intro c
    unfold znu
    have B := X.b33 c
    refine ⟨S.keep rfl rfl (by simp), ?_⟩
    rw [hP]
    exact ⟨.inr (.inr (.inr ⟨(by show (30 : Int) ≤ 34; decide), (by show (34 : Int) ≤ 39; decide)⟩)), X.regs, X.ip, fun e => by dsimp only at e; omega, fun e => by dsimp only at e; omega, fun e => (by cases e), fun e => (by cases e), fun _ => zsl B, fun _ e => absurd rfl e, fun e => by dsimp only at e; omega, X.buf⟩
  · intro c
    unfold zlD
    have C := X.c34 c
    obtain ⟨b1, b2, b3, b4, b5, b6⟩ := zp0 h S (.inr rfl) C.k C.h C.n C.x C.v
    refine ⟨b1, ?_⟩
    dsimp only
    split
    · exact ⟨.inr (.inr (.inr ⟨(by show (30 : Int) ≤ 35; decide), (by show (35 : Int) ≤ 39; decide)⟩)), X.regs, X.ip, fun e => by dsimp only at e; omega, fun e => by dsimp only at e; omega, fun e => (by cases e), fun e => (by cases e), fun e => (by cases e), fun _ _ => rfl, fun e => by dsimp only at e; omega, X.buf⟩
    · exact ⟨X.pc, X.regs, X.ip, X.op, X.ret, fun e => by dsimp only at e; omega, fun e => by dsimp only at e; omega, fun _ => ⟨b2, b3, b4, b5, b6⟩, X.bin, fun e => by dsimp only at e; omega, X.buf⟩
  · intro c
    unfold zlf
    refine ⟨S, ?_⟩
    dsimp only
    split
    · exact X.move (by omega) (.inl rfl) rfl rfl X.buf X.ip (fun e => absurd e (by show ¬ ((10 : Int) ≤ 0 ∧ (0 : Int) ≤ 30); decide))
    · exact X.move (by omega) (by simp) rfl rfl X.buf X.ip (fun e => absurd e (nop 36 (by omega)))
  · intro c
    unfold zlw
    refine ⟨S, ?_⟩
    dsimp only
    split
    · rcases znT s (wc (x.Slot + 1)) with e | e <;> rw [e]
      · exact X.move (by omega) (by simp) rfl rfl X.buf X.ip (fun e => absurd e (nop 36 (by omega)))
      · exact X.move (by omega) (by simp) rfl rfl X.buf X.ip (fun e => absurd e (nop 38 (by omega)))
    · exact ⟨.inr (.inr (.inr ⟨(by show (30 : Int) ≤ 37; decide), (by show (37 : Int) ≤ 39; decide)⟩)), X.regs, X.ip, fun e => by dsimp only at e; omega, fun e => by dsimp only at e; omega, fun e => (by cases e), fun e => (by cases e), fun e => (by cases e), fun _ _ => X.bin (by omega) (by omega),
        fun _ => ⟨⟨fun e => absurd e (by show ¬ (3 : Int) = 1; decide), fun e => (by cases e), fun e => (by cases e), fun e => (by cases e), fun e => (by cases e)⟩, fun e => (by cases e), by show (3 : Int) ≠ 1; decide⟩, X.buf⟩
  · intro c
    unfold zmS
    obtain ⟨g1, g2, g3⟩ := X.g (.inr c)
    obtain ⟨r1, r2, r3⟩ := zpM h S g1 g2
    refine ⟨r1, ?_⟩
    dsimp only
    split
    · rcases znT s x.Slot with e | e <;> rw [e]
      · exact X.move (by omega) (by simp) rfl rfl X.buf X.ip (fun e => absurd e (nop 36 (by omega)))
      · exact X.move (by omega) (by simp) rfl rfl X.buf X.ip (fun e => absurd e (nop 38 (by omega)))
    · exact ⟨X.pc, X.regs, X.ip, X.op, X.ret, fun e => by dsimp only at e; omega, fun e => by dsimp only at e; omega, fun e => by dsimp only at e; omega, X.bin, fun _ => ⟨r2, r3, by rw [(zne s x.G).2.2]; exact g3⟩, X.buf⟩
  · intro c
    unfold znq
    exact ⟨S.keep rfl rfl rfl, X.move (by omega) (by simp) rfl rfl X.buf X.ip (fun e => absurd e (nop 39 (by omega)))⟩
  · intro c
    unfold zpk
    exact ⟨S.keep rfl rfl rfl, X.move (by omega) (by simp) rfl rfl X.buf X.ip (fun e => absurd e (nop 35 (by omega)))⟩
  · exact ⟨S, X⟩
end
end Go.Pe.G
namespace Go.Pe.G
open Go.Pe
noncomputable section
def Yu (s : za) : za :=
  if s.Done = true then s
  else if s.D.PC = 0 then { s with Flag := false, D := { s.D with PC := 1 } }
  else if s.D.PC = 1 then (if s.Work = 0 then { s with D := { s.D with PC := 2 } } else s)
  else if s.D.PC = 2 then { s with Epoch := wc (s.Epoch + 1), D := ⟨if s.Ms.length = 0 then 4 else 3, 0⟩ }
  else if s.D.PC = 3 then (if s.Acks.getD s.D.I.toNat 0 < s.Epoch then s else { s with D := ⟨if wc (s.D.I + 1) = (s.Ms.length : Int) then 4 else 3, wc (s.D.I + 1)⟩ })
  else if s.D.PC = 4 then (if s.Work = 0 then { s with D := { s.D with PC := 5 } } else { s with Restarts := wc (s.Restarts + 1), D := { s.D with PC := 0 } })
  else if s.D.PC = 5 then (if s.Flag = true then { s with Restarts := wc (s.Restarts + 1), D := { s.D with PC := 0 } } else { s with D := { s.D with PC := 6 } })
  else if s.D.PC = 6 then { s with Done := true }
  else s
structure HOk (p : zd) (h : zu) : Prop where
  slots : h.Slots = p.H.Slots
  n : (p.H.Objs.length : Int) ≤ (h.Objs.length : Int) ∧ (h.Objs.length : Int) ≤ p.Most
  objs : ∀ o ∈ h.Objs, (o.length : Int) = h.Slots ∧ ∀ v ∈ o, 0 ≤ v ∧ v ≤ (h.Objs.length : Int)
structure EOk (p : zd) (nb : Nat) (s : za) : Prop where
  S : SOk p nb s
  wl : (s.Ws.length : Int) = p.Workers
  ml : (s.Ms.length : Int) = p.Mutators
  al : s.Acks.length = s.Ms.length
  W : ∀ (i : Nat) x, s.Ws[i]? = some x → WOk p nb ((i : Int) + 1) x
  X : ∀ (i : Nat) x, s.Ms[i]? = some x → XOk p nb ((i : Int) + 1) x
  H : HOk p s.H
  D : (0 ≤ s.D.PC ∧ s.D.PC ≤ 6) ∧ (s.D.PC = 3 → 0 ≤ s.D.I ∧ s.D.I < (s.Ms.length : Int))
  small : Zj s
theorem zuv {p : zd} (h : zQ p) (m : Int) : ((wz p m).length : Int) ≤ 64 := by
  unfold wz
  have hr := h.regs
  have hp := h.progs
  rw [List.getD_eq_getElem?_getD]
  rcases Nat.lt_or_ge (m - 1).toNat p.Progs.length with hl | hl
  · rw [List.getElem?_eq_getElem hl]
    have hl2 : (m - 1).toNat < p.Regs.length := by omega
    have := (h.prog (m - 1).toNat _ _ (List.getElem?_eq_getElem hl2) (List.getElem?_eq_getElem hl)).1
    show ((p.Progs[(m - 1).toNat]).length : Int) ≤ 64
    omega
  · rw [List.getElem?_eq_none hl]; show (([] : List zh).length : Int) ≤ 64; simp
theorem zoq {p : zd} (h : zQ p) : EOk p (xJ p + 1) (uY p) := by
  have hw := h.wk
  have hm := h.mt
  have hr := h.regs
  have hn := h.n
  have hmo := h.most
  have hb := h.buf
  refine ⟨ztD h, ?_, ?_, ?_, fun i x hx => ?_, fun i x hx => ?_, ⟨rfl, ⟨Int.le_refl _, hmo.1⟩, h.objs⟩, ⟨⟨by show (0 : Int) ≤ 0; decide, by show (0 : Int) ≤ 6; decide⟩, fun e => absurd e (by show ¬ (0 : Int) = 3; decide)⟩, zvl h⟩
  · show (((List.range p.Workers.toNat).map (Uv p)).length : Int) = _
    rw [List.length_map, List.length_range]; omega
  · show ((p.Regs.map vj).length : Int) = _
    rw [List.length_map]; exact hr
  · show (List.replicate p.Mutators.toNat (0 : Int)).length = (p.Regs.map vj).length
    rw [List.length_replicate, List.length_map]; omega
  · have hx : ((List.range p.Workers.toNat).map (Uv p))[i]? = some x := hx
    rw [List.getElem?_map] at hx
    rcases Nat.lt_or_ge i p.Workers.toNat with hl | hl
    · rw [List.getElem?_range hl] at hx
      injection hx with hx
      subst hx
      exact ⟨⟨by show (0 : Int) ≤ 0; decide, by show (0 : Int) ≤ 9; decide⟩, by show 1 ≤ (i : Int) + 1 ∧ (i : Int) + 1 ≤ p.Workers; omega, fun _ => ⟨rfl, rfl, rfl⟩, fun e => (by cases e), fun e => (by cases e), fun e => (by cases e), fun e => (by cases e), fun e => (by cases e)⟩
    · rw [List.getElem?_eq_none (by rw [List.length_range]; exact hl)] at hx; cases hx
  · have hx : (p.Regs.map vj)[i]? = some x := hx
    rw [List.getElem?_map] at hx
    cases hq : p.Regs[i]? with
    | none => rw [hq] at hx; cases hx
    | some r =>
      rw [hq] at hx
      injection hx with hx
      subst hx
      refine ⟨.inl ⟨by show (0 : Int) ≤ 0; decide, by show (0 : Int) ≤ 3; decide⟩, ?_, ⟨by show (0 : Int) ≤ 0; decide, by show (0 : Int) ≤ _; omega⟩, fun e => absurd e ?_, fun e => absurd e ?_, fun e => (by cases e), fun e => (by cases e), fun e => (by cases e), fun _ _ => rfl, fun e => absurd e ?_, by show (0 : Int) ≤ p.Buf; omega⟩
      · show r.length = zdx p ((i : Int) + 1)
        unfold zdx
        rw [show ((i : Int) + 1 - 1).toNat = i by omega, List.getD_eq_getElem?_getD, hq]; rfl
      · intro e; simp [vj] at e
      · intro e; simp [vj] at e
      · intro e; simp [vj] at e
theorem zmK {s : za} (h : Zj s) (b : Int) : (zjB s b).length < 1000000 := by
  unfold zjB
  rw [List.getD_eq_getElem?_getD]
  cases hq : s.Bins[b.toNat]? with
  | none => simp
  | some l => exact h.bin l (List.mem_of_getElem? hq)
theorem zqA (l : zk) (w : Int) : (zl2 l w).Bal.length = l.Bal.length := by unfold zl2; split <;> simp
structure Xd (s s' : za) : Prop where
  P : s'.P = s.P
  m : s'.M.length = s.M.length
  bl : s'.Bins.length = s.Bins.length
  b : ∀ l ∈ s'.Bins, l ∈ s.Bins ∨ l.length ≤ 1
  bal : s'.L.Bal.length = s.L.Bal.length
  ac : s'.Acks.length = s.Acks.length
  ws : s'.Ws = s.Ws
  ms : s'.Ms = s.Ms
  done : s'.Done = s.Done
  d : s'.D = s.D
theorem Xd.refl (s : za) : Xd s s := ⟨rfl, rfl, rfl, fun l h => .inl h, rfl, rfl, rfl, rfl, rfl, rfl⟩
theorem zbc (s : za) (g : zD) : Xd s (zH s g).1 ∧ (zH s g).1.H = s.H := by
  obtain ⟨m, b, t, w, f, e, h1, h2, h3, _, _⟩ := W5 s g
  rw [e]
  exact ⟨⟨rfl, h1, h2, fun l hl => (h3 l hl).imp id (fun e => by rw [e]; simp), rfl, rfl, rfl, rfl, rfl, rfl⟩, rfl⟩
theorem ztr {s : za} (b : Nat) : ∀ l ∈ s.Bins.set b [], l ∈ s.Bins ∨ l.length ≤ 1 := fun l hl => (List.mem_or_eq_of_mem_set hl).imp id (fun e => by rw [e]; simp)
theorem zqn (s : za) (w : Int) (x : zg) : Xd s (yo s w x).1 ∧ (yo s w x).1.H = s.H := by
  unfold yo
  split
  · exact ⟨⟨rfl, (zms _ _).1, rfl, fun l h => .inl h, rfl, rfl, rfl, rfl, rfl, rfl⟩, rfl⟩
  split
  · exact ⟨⟨rfl, Ux _ _, rfl, fun l h => .inl h, rfl, rfl, rfl, rfl, rfl, rfl⟩, rfl⟩
  split
  · exact ⟨⟨rfl, rfl, by simp, ztr _, rfl, rfl, rfl, rfl, rfl, rfl⟩, rfl⟩
  split
  · exact ⟨⟨rfl, Ux _ _, rfl, fun l h => .inl h, rfl, rfl, rfl, rfl, rfl, rfl⟩, rfl⟩
  split
  · exact ⟨Xd.refl s, rfl⟩
  split
  · exact zbc s x.G
  split
  · exact ⟨Xd.refl s, rfl⟩
  split
  · exact ⟨⟨rfl, rfl, rfl, fun l h => .inl h, zqA _ _, rfl, rfl, rfl, rfl, rfl⟩, rfl⟩
  split
  · exact ⟨⟨rfl, rfl, rfl, fun l h => .inl h, rfl, rfl, rfl, rfl, rfl, rfl⟩, rfl⟩
  · exact ⟨Xd.refl s, rfl⟩
theorem zsX (p : zd) (w : Int) (x : zg) : (zjJ p w x).Batch = x.Batch := by unfold zjJ; split <;> rfl
theorem zur {s : za} (h : Zj s) (w : Int) {x : zg} (hx : x.Batch.length < 1000000) : (yo s w x).2.Batch.length < 1000000 := by
  unfold yo
  split
  · dsimp only
    split
    · exact hx
    split
    · rw [zsX]; exact hx
    · exact hx
  split
  · dsimp only
    split
    · exact hx
    split <;> exact hx
  split
  · exact zmK h _
  split
  · dsimp only
    split <;> exact hx
  split
  · dsimp only
    split <;> exact hx
  split
  · dsimp only
    split <;> exact hx
  split
  · dsimp only
    cases hb : x.Batch with
    | nil => show x.Batch.length < _; exact hx
    | cons o l => rw [hb] at hx; show l.length < _; simp at hx; omega
  split
  · exact hx
  split
  · exact hx
  · exact hx
theorem ztY (l : zk) (w p : Int) : (zkS l w p).Bal.length = l.Bal.length := by unfold zkS; simp
theorem zuX (l : zk) (w n : Int) : (zhI l w n).1.Bal.length = l.Bal.length := by unfold zhI; split <;> simp
theorem zsB (s : za) (m : Int) (x : zc) : Xd s (z8 s m x).1 := by
  have q : ∀ s' : za, s'.P = s.P → s'.M = s.M → s'.Bins = s.Bins → s'.L.Bal.length = s.L.Bal.length → s'.Acks.length = s.Acks.length → s'.Ws = s.Ws → s'.Ms = s.Ms → s'.Done = s.Done → s'.D = s.D → Xd s s' :=
    fun s' a b c d e f g h i => ⟨a, by rw [b], by rw [c], fun l hl => .inl (c ▸ hl), d, e, f, g, h, i⟩
  refine ZT (motive := fun r => Xd s r.1) s m x ?_ ?_ ?_ ?_ ?_ ?_ ?_ ?_ ?_ ?_ ?_ ?_ ?_ ?_ ?_ ?_ ?_ ?_ ?_ ?_
  · intro c
    unfold mu0
    exact Xd.refl s
  · intro c
    unfold mu1
    exact Xd.refl s
  · intro c
    unfold mu2
    exact q _ rfl rfl rfl rfl (by simp) rfl rfl rfl rfl
  · intro c
    unfold mu3
    exact (zbc s x.G).1
  · intro c
    unfold zm9
    exact Xd.refl s
  · intro c
    unfold zk3
    exact Xd.refl s
  · intro c
    unfold zlm
    exact Xd.refl s
  · intro c
    unfold zlc
    exact Xd.refl s
  · intro c
    unfold znH
    exact q _ rfl rfl rfl rfl rfl rfl rfl rfl rfl
  · intro c
    unfold zh5
    split
    · split
      · exact q _ rfl rfl rfl (ztY _ _ _) rfl rfl rfl rfl rfl
      · exact Xd.refl s
    · exact Xd.refl s
  · intro c
    unfold zlj
    exact q _ rfl rfl rfl (zuX _ _ _) rfl rfl rfl rfl rfl
  · intro c
    unfold zli
    exact ⟨rfl, Ux _ _, rfl, fun l h => .inl h, rfl, rfl, rfl, rfl, rfl, rfl⟩
  · intro c
    unfold znu
    exact ⟨rfl, rfl, by simp, ztr _, rfl, rfl, rfl, rfl, rfl, rfl⟩
  · intro c
    unfold zlD
    exact ⟨rfl, Ux _ _, rfl, fun l h => .inl h, rfl, rfl, rfl, rfl, rfl, rfl⟩
  · intro c
    unfold zlf
    exact Xd.refl s
  · intro c
    unfold zlw
    exact Xd.refl s
  · intro c
    unfold zmS
    exact (zbc s x.G).1
  · intro c
    unfold znq
    exact q _ rfl rfl rfl (zqA _ _) rfl rfl rfl rfl rfl
  · intro c
    unfold zpk
    exact q _ rfl rfl rfl rfl rfl rfl rfl rfl rfl
  · exact Xd.refl s
theorem HOk.sm {p : zd} (hp : zQ p) {h : zu} (H : HOk p h) : h.Objs.length < 1000000 ∧ ∀ x ∈ h.Objs, x.length < 1000000 := by
  have h1 := H.n
  have h2 := hp.most
  have h3 := hp.n
  have h4 := hp.slots
  have h5 := H.slots
  exact ⟨by omega, fun x hx => by have := (H.objs x hx).1; omega⟩
theorem Zj.turn {p : zd} (hp : zQ p) {s s' : za} (h : Zj s) (T : Xd s s') (H : HOk p s'.H) : Zj s' := by
  have hh := H.sm hp
  refine ⟨by rw [T.m]; exact h.m, by rw [T.bl]; exact h.bins, fun x hx => ?_, by rw [T.ac]; exact h.acks, by rw [T.bal]; exact h.bal, by rw [T.ws]; exact h.ws, by rw [T.ws]; exact h.w, by rw [T.ms]; exact h.ms, by rw [T.ms]; exact h.mu, hh.1, hh.2, by rw [T.P]; exact h.pobjs, by rw [T.P]; exact h.pobj, by rw [T.P]; exact h.regs, by rw [T.P]; exact h.reg, by rw [T.P]; exact h.progs, by rw [T.P]; exact h.prog, by rw [T.P]; exact h.picks⟩
  rcases T.b x hx with h' | h'
  · exact h.bin x h'
  · omega
theorem Zj.setW {s : za} (h : Zj s) {i : Nat} {x : zg} (hx : x.Batch.length < 1000000) : Zj { s with Ws := s.Ws.set i x } :=
  ⟨h.m, h.bins, h.bin, h.acks, h.bal, by simp only [List.length_set]; exact h.ws, fun y hy => by
    rcases List.mem_or_eq_of_mem_set hy with hy | rfl
    · exact h.w y hy
    · exact hx, h.ms, h.mu, h.objs, h.obj, h.pobjs, h.pobj, h.regs, h.reg, h.progs, h.prog, h.picks⟩
theorem Zj.setM {s : za} (h : Zj s) {i : Nat} {x : zc} (hx : x.Regs.length < 1000000 ∧ x.Buf.length < 1000000 ∧ x.Batch.length < 1000000) : Zj { s with Ms := s.Ms.set i x } :=
  ⟨h.m, h.bins, h.bin, h.acks, h.bal, h.ws, h.w, by simp only [List.length_set]; exact h.ms, fun y hy => by
    rcases List.mem_or_eq_of_mem_set hy with hy | rfl
    · exact h.mu y hy
    · exact hx, h.objs, h.obj, h.pobjs, h.pobj, h.regs, h.reg, h.progs, h.prog, h.picks⟩
theorem ztk {α : Type} {l : List α} {i j : Nat} {x y : α} (h : (l.set i x)[j]? = some y) : (j = i ∧ y = x) ∨ l[j]? = some y := by
  rw [List.getElem?_set] at h
  split at h
  · rename_i e
    split at h
    · injection h with h; exact .inl ⟨e.symm, h.symm⟩
    · cases h
  · exact .inr h
theorem zwr {p : zd} {nb : Nat} {s : za} (h : zQ p) (E : EOk p nb s) (w : Int) : EOk p nb (vw s w) := by
  unfold vw
  split
  · exact E
  rename_i hc
  cases hx : s.Ws[(w - 1).toNat]? with
  | none => exact E
  | some x =>
    have hw1 : ¬ w < 1 := fun e => hc (.inr (.inl e))
    have hw2 : ¬ (s.Ws.length : Int) < w := fun e => hc (.inr (.inr e))
    have hwl := E.wl
    have ei : (((w - 1).toNat : Nat) : Int) + 1 = w := by omega
    have hW := E.W _ x hx
    rw [ei] at hW
    obtain ⟨r1, r2⟩ := zw0 h (by omega) E.S hW
    obtain ⟨T, TH⟩ := zqn s w x
    have sm : Zj (yo s w x).1 := E.small.turn h T (by rw [TH]; exact E.H)
    have hws : (yo s w x).1.Ws = s.Ws := T.ws
    refine ⟨r1.keep rfl rfl rfl, ?_, ?_, ?_, fun i y hy => ?_, fun i y hy => ?_, ?_, ?_, ?_⟩
    · show ((s.Ws.set _ _).length : Int) = _
      rw [List.length_set]; exact hwl
    · show ((yo s w x).1.Ms.length : Int) = _
      rw [T.ms]; exact E.ml
    · show (yo s w x).1.Acks.length = (yo s w x).1.Ms.length
      rw [T.ms, T.ac]; exact E.al
    · rcases ztk hy with ⟨rfl, rfl⟩ | hy
      · rw [ei]; exact r2
      · exact E.W i y hy
    · have hy : (yo s w x).1.Ms[i]? = some y := hy
      rw [T.ms] at hy
      exact E.X i y hy
    · show HOk p (yo s w x).1.H
      rw [TH]; exact E.H
    · show (0 ≤ (yo s w x).1.D.PC ∧ (yo s w x).1.D.PC ≤ 6) ∧ ((yo s w x).1.D.PC = 3 → 0 ≤ (yo s w x).1.D.I ∧ (yo s w x).1.D.I < ((yo s w x).1.Ms.length : Int))
      rw [T.d, T.ms]; exact E.D
    · have := sm.setW (i := (w - 1).toNat) (zur E.small w (E.small.w x (List.mem_of_getElem? hx)))
      rw [hws] at this
      exact this
theorem zuf {p : zd} {nb : Nat} {s : za} (h : zQ p) (E : EOk p nb s) : EOk p nb (Yu s) := by
  have key : ∀ s' : za, s'.P = s.P → s'.M = s.M → s'.Bins = s.Bins → s'.Ws = s.Ws → s'.Ms = s.Ms → s'.Acks = s.Acks → s'.H = s.H → s'.L = s.L → ((0 ≤ s'.D.PC ∧ s'.D.PC ≤ 6) ∧ (s'.D.PC = 3 → 0 ≤ s'.D.I ∧ s'.D.I < (s'.Ms.length : Int))) → EOk p nb s' := by
    intro s' e1 e2 e3 e4 e5 e6 e7 e8 e9
    have q := E.small
    refine ⟨E.S.keep e1 e2 (by rw [e3]), by rw [e4]; exact E.wl, by rw [e5]; exact E.ml, by rw [e5, e6]; exact E.al, by rw [e4]; exact E.W, by rw [e5]; exact E.X, by rw [e7]; exact E.H, e9, ?_⟩
    exact ⟨by rw [e2]; exact q.m, by rw [e3]; exact q.bins, by rw [e3]; exact q.bin, by rw [e6]; exact q.acks, by rw [e8]; exact q.bal, by rw [e4]; exact q.ws, by rw [e4]; exact q.w, by rw [e5]; exact q.ms, by rw [e5]; exact q.mu, by rw [e7]; exact q.objs, by rw [e7]; exact q.obj, by rw [e1]; exact q.pobjs, by rw [e1]; exact q.pobj, by rw [e1]; exact q.regs, by rw [e1]; exact q.reg, by rw [e1]; exact q.progs, by rw [e1]; exact q.prog, by rw [e1]; exact q.picks⟩
  have hm : ∀ n : Int, 0 ≤ n ∧ n ≤ 6 → n ≠ 3 → ∀ i, (0 ≤ (⟨n, i⟩ : zp).PC ∧ (⟨n, i⟩ : zp).PC ≤ 6) ∧ ((⟨n, i⟩ : zp).PC = 3 → 0 ≤ (⟨n, i⟩ : zp).I ∧ (⟨n, i⟩ : zp).I < (s.Ms.length : Int)) := fun n h1 h2 i => ⟨h1, fun e => absurd e h2⟩
  have hml := E.ml
  have hmt := h.mt
  unfold Yu
  split
  · exact E
  split
  · exact key _ rfl rfl rfl rfl rfl rfl rfl rfl (hm 1 (by decide) (by decide) _)
  split
  · split
    · exact key _ rfl rfl rfl rfl rfl rfl rfl rfl (hm 2 (by decide) (by decide) _)
    · exact E
  split
  · refine key _ rfl rfl rfl rfl rfl rfl rfl rfl ?_
    dsimp only
    split
    · exact hm 4 (by decide) (by decide) _
    · exact ⟨by decide, fun _ => by omega⟩
  split
  · rename_i c3
    have hi := E.D.2 c3
    split
    · exact E
    · refine key _ rfl rfl rfl rfl rfl rfl rfl rfl ?_
      dsimp only
      have e : wc (s.D.I + 1) = s.D.I + 1 := Y6 (by omega) (by omega)
      rw [e]
      split
      · exact hm 4 (by decide) (by decide) _
      · exact ⟨by decide, fun _ => by omega⟩
  split
  · split
    · exact key _ rfl rfl rfl rfl rfl rfl rfl rfl (hm 5 (by decide) (by decide) _)
    · exact key _ rfl rfl rfl rfl rfl rfl rfl rfl (hm 0 (by decide) (by decide) _)
  split
  · split
    · exact key _ rfl rfl rfl rfl rfl rfl rfl rfl (hm 0 (by decide) (by decide) _)
    · exact key _ rfl rfl rfl rfl rfl rfl rfl rfl (hm 6 (by decide) (by decide) _)
  split
  · exact key _ rfl rfl rfl rfl rfl rfl rfl rfl E.D
  · exact E
theorem HOk.put {p : zd} {h : zu} (H : HOk p h) (o s v : Int) : HOk p (zje h o s v) := by
  unfold zje
  split
  · rename_i c
    obtain ⟨c1, c2, c3⟩ := c
    unfold Vy at c1
    simp only [Bool.and_eq_true, decide_eq_true_eq] at c1
    refine ⟨H.slots, by simp only [List.length_set]; exact H.n, fun l hl => ?_⟩
    simp only [List.length_set]
    rcases List.mem_or_eq_of_mem_set hl with hl | rfl
    · exact H.objs l hl
    · have hm : xx h o ∈ h.Objs := by
        unfold xx
        rw [List.getD_eq_getElem?_getD, List.getElem?_eq_getElem (show (o - 1).toNat < h.Objs.length by omega)]
        exact List.getElem_mem _
      obtain ⟨a, b⟩ := H.objs _ hm
      refine ⟨by rw [List.length_set]; exact a, fun y hy => ?_⟩
      rcases List.mem_or_eq_of_mem_set hy with hy | rfl
      · exact b y hy
      · exact ⟨c2, c3⟩
  · exact H
theorem HOk.alloc {p : zd} (hp : zQ p) {h : zu} (H : HOk p h) (hr : zfn h p.Most = true) : HOk p (zjp h) := by
  unfold zfn at hr
  simp only [Bool.and_eq_true, decide_eq_true_eq] at hr
  have hs := hp.slots
  have hsl := H.slots
  have hn := H.n
  unfold zjp
  refine ⟨H.slots, by simp only [List.length_append, List.length_singleton]; omega, fun l hl => ?_⟩
  simp only [List.length_append, List.length_singleton]
  rcases List.mem_append.1 hl with hl | hl
  · obtain ⟨a, b⟩ := H.objs l hl
    exact ⟨a, fun v hv => by have := b v hv; omega⟩
  · rw [List.mem_singleton.1 hl]
    refine ⟨by rw [List.length_replicate]; omega, fun v hv => ?_⟩
    rw [(List.mem_replicate.1 hv).2]; omega
theorem zx7 {p : zd} (hp : zQ p) {s : za} (hP : s.P = p) (H : HOk p s.H) (m : Int) (x : zc) : HOk p (z8 s m x).1.H := by
  refine ZT (motive := fun r => HOk p r.1.H) s m x ?_ ?_ ?_ ?_ ?_ ?_ ?_ ?_ ?_ ?_ ?_ ?_ ?_ ?_ ?_ ?_ ?_ ?_ ?_ ?_
  · intro c
    unfold mu0
    exact H
  · intro c
    unfold mu1
    exact H
  · intro c
    unfold mu2
    exact H
  · intro c
    unfold mu3
    rw [(zbc s x.G).2]; exact H
  · intro c
    unfold zm9
    exact H
  · intro c
    unfold zk3
    exact H
  · intro c
    unfold zlm
    exact H
  · intro c
    unfold zlc
    exact H
  · intro c
    unfold znH
    exact H.put _ _ _
  · intro c
    unfold zh5
    split
    · split
      · rename_i hr
        rw [hP] at hr
        exact H.alloc hp hr
      · exact H
    · exact H
  · intro c
    unfold zlj
    exact H
  · intro c
    unfold zli
    exact H
  · intro c
    unfold znu
    exact H
  · intro c
    unfold zlD
    exact H
  · intro c
    unfold zlf
    exact H
  · intro c
    unfold zlw
    exact H
  · intro c
    unfold zmS
    rw [(zbc s x.G).2]; exact H
  · intro c
    unfold znq
    exact H
  · intro c
    unfold zpk
    exact H
  · exact H
theorem zr0 (s : za) (m : Int) (x : zc) : (zgd s m x).Batch = x.Batch := by
  unfold zgd
  repeat' split
  all_goals rfl
theorem zuH {s : za} (h : Zj s) (m : Int) {x : zc} (hx : x.Batch.length < 1000000) : (z8 s m x).2.Batch.length < 1000000 := by
  refine ZT (motive := fun r => r.2.Batch.length < 1000000) s m x ?_ ?_ ?_ ?_ ?_ ?_ ?_ ?_ ?_ ?_ ?_ ?_ ?_ ?_ ?_ ?_ ?_ ?_ ?_ ?_
  · intro c
    unfold mu0
    dsimp only; rw [zr0]; exact hx
  · intro c
    unfold mu1
    dsimp only; split <;> exact hx
  · intro c
    unfold mu2
    exact hx
  · intro c
    unfold mu3
    dsimp only; split <;> exact hx
  · intro c
    unfold zm9
    exact hx
  · intro c
    unfold zk3
    dsimp only; split <;> exact hx
  · intro c
    unfold zlm
    dsimp only; split <;> exact hx
  · intro c
    unfold zlc
    dsimp only; split <;> exact hx
  · intro c
    unfold znH
    exact hx
  · intro c
    unfold zh5
    split
    · split <;> exact hx
    · exact hx
  · intro c
    unfold zlj
    dsimp only; split <;> exact hx
  · intro c
    unfold zli
    dsimp only
    split
    · exact hx
    split <;> exact hx
  · intro c
    unfold znu
    exact zmK h _
  · intro c
    unfold zlD
    dsimp only; split <;> exact hx
  · intro c
    unfold zlf
    dsimp only
    cases hb : x.Batch with
    | nil => show ([] : List Int).length < 1000000; simp
    | cons o l => rw [hb] at hx; show l.length < _; simp at hx; omega
  · intro c
    unfold zlw
    dsimp only; split <;> exact hx
  · intro c
    unfold zmS
    dsimp only; split <;> exact hx
  · intro c
    unfold znq
    exact hx
  · intro c
    unfold zpk
    exact hx
  · exact hx
theorem zir {p : zd} (h : zQ p) (m : Int) : zdx p m < 1000000 := by
  unfold zdx
  rw [List.getD_eq_getElem?_getD]
  cases hq : p.Regs[(m - 1).toNat]? with
  | none => simp
  | some r => have := (h.reg r (List.mem_of_getElem? hq)).1; show r.length < _; omega
theorem zhP {p : zd} {nb : Nat} {s : za} (h : zQ p) (E : EOk p nb s) (m : Int) : EOk p nb (yD s m) := by
  unfold yD
  split
  · exact E
  rename_i hc
  cases hx : s.Ms[(m - 1).toNat]? with
  | none => exact E
  | some x =>
    have hw1 : ¬ m < 1 := fun e => hc (.inr (.inl e))
    have hw2 : ¬ (s.Ms.length : Int) < m := fun e => hc (.inr (.inr e))
    have ei : (((m - 1).toNat : Nat) : Int) + 1 = m := by omega
    have hX := E.X _ x hx
    rw [ei] at hX
    obtain ⟨r1, r2⟩ := zxk h (zuv h m) E.S hX
    have T := zsB s m x
    have TH := zx7 h E.S.P E.H m x
    have sm : Zj (z8 s m x).1 := E.small.turn h T TH
    have hms : (z8 s m x).1.Ms = s.Ms := T.ms
    have hb := h.buf
    refine ⟨r1.keep rfl rfl rfl, ?_, ?_, ?_, fun i y hy => ?_, fun i y hy => ?_, TH, ?_, ?_⟩
    · show ((z8 s m x).1.Ws.length : Int) = _
      rw [T.ws]; exact E.wl
    · show ((s.Ms.set _ _).length : Int) = _
      rw [List.length_set]; exact E.ml
    · show (z8 s m x).1.Acks.length = (s.Ms.set _ _).length
      rw [List.length_set, T.ac]; exact E.al
    · have hy : (z8 s m x).1.Ws[i]? = some y := hy
      rw [T.ws] at hy
      exact E.W i y hy
    · rcases ztk hy with ⟨rfl, rfl⟩ | hy
      · rw [ei]; exact r2
      · exact E.X i y hy
    · show (0 ≤ (z8 s m x).1.D.PC ∧ (z8 s m x).1.D.PC ≤ 6) ∧ ((z8 s m x).1.D.PC = 3 → 0 ≤ (z8 s m x).1.D.I ∧ (z8 s m x).1.D.I < ((s.Ms.set _ _).length : Int))
      rw [T.d, List.length_set]; exact E.D
    · have q := E.small.mu x (List.mem_of_getElem? hx)
      have q1 := r2.regs
      have q2 := r2.buf
      have q3 := zir h m
      have := sm.setM (i := (m - 1).toNat) (x := (z8 s m x).2) ⟨by omega, by omega, zuH E.small m q.2.2⟩
      rw [hms] at this
      exact this
end
end Go.Pe.G
namespace Go.Pe.G
open Go.Pe
noncomputable section
theorem ztp (t : zq) (o : Int) : zhy t o = some (zgu t o, ()) := by
  rw [zst, zp3, Option.bind_some]
  show (bif zpm (t.Marks &&& t.Black) o then _ else _) = _
  unfold zgu
  cases h : zpm (t.Marks &&& t.Black) o with
  | true => rfl
  | false =>
    rw [cond_false, zp3, Option.bind_some]
    show (bif zpm t.Marks o then _ else _) = _
    cases h2 : zpm t.Marks o <;> rfl
theorem zlO (t : zq) (o : Int) : Vw t o = some (zoM t o, decide (zgu t o = 1), ()) := by
  rw [zpX, ztp, Option.bind_some, z5]
  unfold zoM
  by_cases h : zgu t o = 1
  · rw [if_pos h, if_pos h, zlT, Option.bind_some, decide_eq_true h]
  · rw [if_neg h, if_neg h, decide_eq_false h]
theorem zoH {h : zu} (hl : h.Objs.length < 1000000) (o s : Int) : Wh h o s = some (Vy h o s, ()) := by
  rw [zki]
  simp only [zn]
  unfold Vy
  by_cases h1 : 1 ≤ o
  · rw [if_pos h1]
    by_cases h2 : o ≤ (h.Objs.length : Int)
    · rw [if_pos h2]
      by_cases h3 : 0 ≤ s
      · have e := List.getElem?_eq_getElem (show (o - 1).toNat < h.Objs.length by omega)
        rw [if_pos h3, yf (a := o - 1) (by omega) (by omega), wP (by omega), e, Option.bind_some, decide_eq_true h1, decide_eq_true h2, decide_eq_true h3]
        unfold xx
        rw [List.getD_eq_getElem?_getD, e]; rfl
      · rw [if_neg h3, decide_eq_false h3, Bool.and_false]; rfl
    · rw [if_neg h2, decide_eq_false h2, Bool.and_false]; rfl
  · rw [if_neg h1, decide_eq_false h1]; rfl
theorem zmT {h : zu} (hl : h.Objs.length < 1000000) (o s : Int) : zbl h o s = some (Uu h o s, Vy h o s, ()) := by
  rw [zq5, zoH hl, Option.bind_some]
  unfold Uu
  cases hs : Vy h o s with
  | false => rfl
  | true =>
    have hs' := hs
    unfold Vy at hs'
    simp only [Bool.and_eq_true, decide_eq_true_eq] at hs'
    obtain ⟨⟨⟨h1, h2⟩, h3⟩, h4⟩ := hs'
    have e := List.getElem?_eq_getElem (show (o - 1).toNat < h.Objs.length by omega)
    have es : xx h o = h.Objs[(o - 1).toNat]'(by omega) := by unfold xx; rw [List.getD_eq_getElem?_getD, e]; rfl
    rw [es] at h4
    have e2 := List.getElem?_eq_getElem (show s.toNat < (h.Objs[(o - 1).toNat]'(by omega)).length by omega)
    simp only [Bool.not_true, cond_false, if_true]
    rw [yf (a := o - 1) (by omega) (by omega), wP (by omega), e, Option.bind_some, wP h3, e2, Option.bind_some, es, List.getD_eq_getElem?_getD, e2]; rfl
theorem zfW (l : zk) (who : Int) : uj l who = some (decide (1 ≤ who) && decide (who ≤ (l.Bal.length : Int)), ()) := by
  rw [zgE, zn]
  by_cases h1 : 1 ≤ who
  · rw [if_pos h1, decide_eq_true h1]; rfl
  · rw [if_neg h1, decide_eq_false h1]; rfl
theorem zmA {l : zk} (hl : l.Bal.length < 1000000) (who : Int) : Vk l who = some (zl2 l who, ()) := by
  rw [znl, yN, zfW, Option.bind_some]
  unfold zl2
  by_cases h : 1 ≤ who ∧ who ≤ (l.Bal.length : Int)
  · rw [if_pos h, decide_eq_true h.1, decide_eq_true (show who ≤ ((({ l with Scanned := wc (l.Scanned + 1) } : zk).Bal.length : Nat) : Int) from h.2)]
    have hn : ¬ l.Bal.isEmpty = true := by
      intro e
      have : l.Bal = [] := by simpa using e
      rw [this] at h
      simp at h
      omega
    have hn : l.Bal.isEmpty = false := by simpa using hn
    have e := List.getElem?_eq_getElem (show (who - 1).toNat < l.Bal.length by omega)
    rw [Bool.true_and, Bool.not_true, cond_false, Wy]
    simp only [decide_true, cond_true, zf3 (n := (l.Bal.length : Int)) (by omega) (by omega), Option.bind_some, List.length_replicate, Int.toNat_natCast, hn, cond_false, yN]
    rw [Y6 (a := who - 1) (by omega) (by omega), v9 (l := l.Bal) (by omega) (by omega), Option.bind_some, e, Option.bind_some, zlq, Option.bind_some, Option.bind_some, Option.bind_some, yN, List.getD_eq_getElem?_getD, e]
    rfl
  · rw [if_neg h]
    have e : (decide (1 ≤ who) && decide (who ≤ ((({ l with Scanned := wc (l.Scanned + 1) } : zk).Bal.length : Nat) : Int))) = false := by
      by_cases h1 : 1 ≤ who
      · rw [decide_eq_true h1, decide_eq_false (fun e => h ⟨h1, e⟩)]; rfl
      · rw [decide_eq_false h1]; rfl
    rw [e]; rfl
theorem zrv {α : Type} (o : α) (l : List α) : cut (o :: l) 1 (((o :: l).length : Nat) : Int) = some l := by
  unfold cut
  rw [decide_eq_true (show (0 : Int) ≤ 1 by decide), decide_eq_true (show (1 : Int) ≤ (((o :: l).length : Nat) : Int) by simp; omega), decide_eq_true (Int.le_refl _)]
  simp
end
end Go.Pe.G
namespace Go.Pe.G
open Go.Pe
noncomputable section
theorem zmI {p : zd} {nb : Nat} {s : za} (h : zQ p) (E : EOk p nb s) : zaz s = some (Yu s, ()) := by
  rw [zmY, yN]
  simp only [zn, z5]
  have ag : ∀ s : za, We s = some ({ s with Restarts := wc (s.Restarts + 1), D := { s.D with PC := 0 } }, ()) := fun s => by rw [zj9, yN]
  unfold Yu
  by_cases hd : s.Done = true
  · rw [cond_eq_ite, if_pos hd, if_pos hd]
  · rw [cond_eq_ite, if_neg hd, if_neg hd]
    by_cases c0 : s.D.PC = 0
    · rw [if_pos c0, if_pos c0]
    rw [if_neg c0, if_neg c0]
    by_cases c1 : s.D.PC = 1
    · rw [if_pos c1, if_pos c1]
      by_cases w : s.Work = 0
      · rw [if_pos w, if_pos w]
      · rw [if_neg w, if_neg w]
    rw [if_neg c1, if_neg c1]
    by_cases c2 : s.D.PC = 2
    · rw [if_pos c2, if_pos c2]
      by_cases w : s.Ms.length = 0
      · rw [if_pos (show (s.Ms.length : Int) = 0 by omega), if_pos w]
      · rw [if_neg (show ¬ (s.Ms.length : Int) = 0 by omega), if_neg w]
    rw [if_neg c2, if_neg c2]
    by_cases c3 : s.D.PC = 3
    · have hi := E.D.2 c3
      have ha := E.al
      have e := List.getElem?_eq_getElem (show s.D.I.toNat < s.Acks.length by omega)
      have ed : s.Acks.getD s.D.I.toNat 0 = s.Acks[s.D.I.toNat]'(by omega) := by rw [List.getD_eq_getElem?_getD, e]; rfl
      rw [if_pos c3, if_pos c3, wP hi.1, e, Option.bind_some, ed]
      by_cases w : (s.Acks[s.D.I.toNat]'(by omega)) < s.Epoch
      · rw [if_pos w, if_pos w]
      · rw [if_neg w, if_neg w]
        by_cases v : wc (s.D.I + 1) = (s.Ms.length : Int)
        · rw [if_pos v, if_pos v]
        · rw [if_neg v, if_neg v, c3]
    rw [if_neg c3, if_neg c3]
    by_cases c4 : s.D.PC = 4
    · rw [if_pos c4, if_pos c4]
      by_cases w : s.Work = 0
      · rw [if_pos w, if_pos w]
      · rw [if_neg w, if_neg w, ag]; rfl
    rw [if_neg c4, if_neg c4]
    by_cases c5 : s.D.PC = 5
    · rw [if_pos c5, if_pos c5]
      by_cases hf : s.Flag = true
      · rw [cond_eq_ite, if_pos hf, if_pos hf, ag]; rfl
      · rw [cond_eq_ite, if_neg hf, if_neg hf]
    rw [if_neg c5, if_neg c5]
    by_cases c6 : s.D.PC = 6
    · rw [if_pos c6, if_pos c6]
    · rw [if_neg c6, if_neg c6]
theorem znr {p : zd} (h : zQ p) {m : Int} (hm : 1 ≤ m ∧ m ≤ p.Mutators) : p.Progs[(m - 1).toNat]? = some (wz p m) := by
  have := h.progs
  have e := List.getElem?_eq_getElem (show (m - 1).toNat < p.Progs.length by omega)
  unfold wz
  rw [List.getD_eq_getElem?_getD, e]; rfl
theorem zjd {p : zd} (h : zQ p) {m : Int} (hm : 1 ≤ m ∧ m ≤ p.Mutators) {o : zh} (ho : o ∈ wz p m) : (0 ≤ o.R ∧ o.R < (zdx p m : Int)) ∧ (0 ≤ o.A ∧ o.A < (zdx p m : Int)) := by
  have hr := h.regs
  have er := List.getElem?_eq_getElem (show (m - 1).toNat < p.Regs.length by omega)
  have e1 : zdx p m = (p.Regs[(m - 1).toNat]'(by omega)).length := by unfold zdx; rw [List.getD_eq_getElem?_getD, er]; rfl
  have hl := (h.reg _ (List.getElem_mem (show (m - 1).toNat < p.Regs.length by omega))).1
  obtain ⟨a, b⟩ := (h.prog _ _ _ er (znr h hm)).2 o ho
  rw [e1]
  refine ⟨a, ?_⟩
  rcases b with ⟨_, b, _⟩ | ⟨_, b, _⟩ | ⟨_, b, _⟩
  · exact b
  · exact b
  · omega
theorem zeY {p : zd} (h : zQ p) {s : za} (hP : s.P = p) {m : Int} (hm : 1 ≤ m ∧ m ≤ p.Mutators) {x : zc} (hi : 0 ≤ x.IP ∧ x.IP < ((wz p m).length : Int)) :
    wD ⟨x, s, m⟩ = some (opM p m x, ()) ∧ opM p m x ∈ wz p m := by
  have hmt := h.mt
  have e := List.getElem?_eq_getElem (show x.IP.toNat < (wz p m).length by omega)
  have eo : opM p m x = (wz p m)[x.IP.toNat]'(by omega) := by unfold opM; rw [List.getD_eq_getElem?_getD, e]; rfl
  rw [zkC]
  dsimp only
  rw [hP, yf (a := m - 1) (by omega) (by omega), wP (by omega), znr h hm, Option.bind_some, wP hi.1, e, Option.bind_some, eo]
  exact ⟨rfl, List.getElem_mem _⟩
theorem zjs {x : zc} {r : Int} (h : 0 ≤ r ∧ r < (x.Regs.length : Int)) : idx x.Regs r = some (ziy x r) := by
  have e := List.getElem?_eq_getElem (show r.toNat < x.Regs.length by omega)
  rw [wP h.1, e]
  unfold ziy
  rw [List.getD_eq_getElem?_getD, e]; rfl
theorem zdw {s : za} {m : Int} {x : zc} {r : Int} (h : 0 ≤ r ∧ r < (x.Regs.length : Int)) (hl : x.Regs.length < 1000000) (v : Int) : vA r v ⟨x, s, m⟩ = some (⟨setM x r v, s, m⟩, ()) := by
  rw [zg6]
  simp only [WQ (show x.Regs.length < 4294967296 by omega), Option.bind_some, v9 h.1 h.2, uz, yN]
  rfl
theorem zk2 {p : zd} (h : zQ p) {s : za} (hP : s.P = p) {m : Int} (hm : 1 ≤ m ∧ m ≤ p.Mutators) {x : zc} (hi : 0 ≤ x.IP ∧ x.IP < ((wz p m).length : Int)) (hr : x.Regs.length = zdx p m) (ho : s.H.Objs.length < 1000000) :
    Xy ⟨x, s, m⟩ = some (zri s m x, ()) := by
  obtain ⟨e1, e2⟩ := zeY h hP hm hi
  have o := zjd h hm e2
  rw [zjb]
  simp only [e1, Option.bind_some, zjs (x := x) (r := (opM p m x).A) (by omega), zmT ho]
  unfold zri
  rw [hP]
theorem ziY {p : zd} {nb : Nat} (h : zQ p) {s : za} (S : SOk p nb s) {m : Int} {x : zc} (M : MOk p nb x.G) (to : Int) :
    uZ to ⟨x, s, m⟩ = some (⟨if (zH s x.G).2.Out = 1 then { x with PC := to, G := (zH s x.G).2 } else { x with G := (zH s x.G).2 }, (zH s x.G).1, m⟩, ()) := by
  rw [zef]
  simp only [zqh (S.gok h M), Option.bind_some, zn]
  split <;> rfl
theorem zox (s : za) (x : zc) (m : Int) : WX ⟨x, s, m⟩ = some (onM s x.Slot, ()) := by
  rw [zku, zn]
  unfold onM
  split <;> rfl
theorem zk4 (k hd to : Int) (s : za) (x : zc) (m : Int) : ZG k hd to ⟨x, s, m⟩ = some (⟨{ x with PC := to, C := ⟨k, 0, hd, yM s.P, 0#64, x.Bin, 0, 0⟩ }, s, m⟩, ()) := by
  rw [zgz]
  simp only [UB, Option.bind_some, YT]
theorem zvT {m : List zc} (h : m.length < 4294967296) : wh m = some (m, ()) := by
  rw [Xk, List.nil_append, wt h, Option.bind_some]
  cases m with
  | nil => simp [zdI]
  | cons a l => simp
theorem zqS {p : zd} (h : zQ p) {nb : Nat} {s : za} (hP : s.P = p) {m : Int} (hm : 1 ≤ m ∧ m ≤ p.Mutators) (ha : (s.Acks.length : Int) = p.Mutators) {x : zc} (X : XOk p nb m x) :
    XX ⟨x, s, m⟩ = some (⟨zgd s m x, s, m⟩, ()) := by
  have hmt := h.mt
  have hip := X.ip
  have hrs := zir h m
  have e := List.getElem?_eq_getElem (show (m - 1).toNat < s.Acks.length by omega)
  have ed : s.Acks.getD (m - 1).toNat 0 = s.Acks[(m - 1).toNat]'(by omega) := by rw [List.getD_eq_getElem?_getD, e]; rfl
  have pg : s.P.Progs[(m - 1).toNat]? = some (wz p m) := by rw [hP]; exact znr h hm
  rw [ze4]
  simp only [zn]
  rw [yf (a := m - 1) (by omega) (by omega), wP (by omega), e, Option.bind_some]
  unfold zgd
  rw [ed, hP]
  by_cases c : (s.Acks[(m - 1).toNat]'(by omega)) < s.Epoch
  · rw [if_pos c, if_pos c]
  rw [if_neg c, if_neg c, ← hP, wP (by omega), pg, Option.bind_some, hP]
  by_cases c2 : ((wz p m).length : Int) ≤ x.IP
  · rw [if_pos c2, if_pos c2]
  rw [if_neg c2, if_neg c2]
  obtain ⟨e1, e2⟩ := zeY h hP hm (x := x) (show 0 ≤ x.IP ∧ x.IP < ((wz p m).length : Int) by omega)
  have o := zjd h hm e2
  have hreg := X.regs
  rw [e1, Option.bind_some]
  by_cases k1 : (opM p m x).Kind = 1
  · rw [if_pos k1, if_pos k1]
  rw [if_neg k1, if_neg k1]
  by_cases k2 : (opM p m x).Kind = 2
  · rw [if_pos k2, if_pos k2]
  rw [if_neg k2, if_neg k2]
  by_cases k3 : (opM p m x).Kind = 3
  · rw [if_pos k3, if_pos k3]
  rw [if_neg k3, if_neg k3]
  by_cases k4 : (opM p m x).Kind = 4
  · rw [if_pos k4, if_pos k4, zjs (x := x) (r := (opM p m x).A) (by omega), Option.bind_some, zdw (x := x) (r := (opM p m x).R) (by omega) (by omega)]; rfl
  · rw [if_neg k4, if_neg k4, zdw (x := x) (r := (opM p m x).R) (by omega) (by omega)]; rfl
theorem zvf {h : zu} (hl : h.Objs.length < 1000000) (hs : ∀ l ∈ h.Objs, l.length < 1000000) (o i v : Int) : ∃ b, zjO h o i v = some (zje h o i v, b, ()) := by
  rw [zqY, zoH hl, Option.bind_some]
  unfold zje
  cases ht : Vy h o i with
  | false => rw [if_neg (fun e => by cases e.1)]; exact ⟨_, rfl⟩
  | true =>
    rw [Bool.not_true, cond_false, zn]
    by_cases h1 : v < 0
    · rw [if_pos h1, if_neg (by omega)]; exact ⟨_, rfl⟩
    rw [if_neg h1, zn]
    by_cases h2 : (h.Objs.length : Int) < v
    · rw [if_pos h2, if_neg (by omega)]; exact ⟨_, rfl⟩
    have hh := ht
    unfold Vy at hh
    simp only [Bool.and_eq_true, decide_eq_true_eq] at hh
    obtain ⟨⟨⟨g1, g2⟩, g3⟩, g4⟩ := hh
    have e := List.getElem?_eq_getElem (show (o - 1).toNat < h.Objs.length by omega)
    have es : xx h o = h.Objs[(o - 1).toNat]'(by omega) := by unfold xx; rw [List.getD_eq_getElem?_getD, e]; rfl
    have hlen := hs _ (List.mem_of_getElem? e)
    rw [if_neg h2, if_pos ⟨rfl, by omega, by omega⟩, ze8 (by omega), Option.bind_some, yf (a := o - 1) (by omega) (by omega), v9 (l := h.Objs) (by omega) (by omega), Option.bind_some, e, Option.bind_some, WQ (by omega), Option.bind_some, Option.bind_some, Option.bind_some]
    rw [zn, if_pos rfl, v9 g3 (by rw [← es]; exact g4), Option.bind_some, es]
    exact ⟨_, rfl⟩
theorem zqU {h : zu} (h1 : 1 ≤ h.Slots ∧ h.Slots ≤ 4) (h2 : h.Objs.length ≤ 64) (h3 : ∀ o ∈ h.Objs, (o.length : Int) = h.Slots ∧ ∀ v ∈ o, 0 ≤ v ∧ v ≤ (h.Objs.length : Int)) : V8 h = some (true, ()) := by
  rw [zhB, zn, if_pos h1.1, zn, if_pos h1.2, zn, if_pos (by omega), zqD (by omega) (by omega) h3]
  rfl
theorem zuu {h : zu} (h1 : 1 ≤ h.Slots ∧ h.Slots ≤ 4) (h2 : h.Objs.length ≤ 64) (h3 : ∀ o ∈ h.Objs, (o.length : Int) = h.Slots ∧ ∀ v ∈ o, 0 ≤ v ∧ v ≤ (h.Objs.length : Int)) (hne : h.Objs ≠ []) (most : Int) :
    zfQ h most = some (if zfn h most = true then (zjp h, (h.Objs.length : Int) + 1, 0, ()) else (h, 0, 4, ())) := by
  have hn : h.Objs.length ≠ 0 := fun e => hne (List.eq_nil_of_length_eq_zero e)
  rw [zpa, zqU h1 h2 h3, Option.bind_some, Bool.not_true, cond_false]
  simp only [zn]
  have er : zfn h most = true ↔ (h.Objs.length : Int) < most ∧ (h.Objs.length : Int) < 64 := by unfold zfn; simp
  have hx : (if 64 < most then (64 : Int) else most) ≤ (h.Objs.length : Int) ↔ ¬ (zfn h most = true) := by
    rw [er]
    split <;> omega
  by_cases hr : zfn h most = true
  · rw [if_neg (fun e => hx.1 e hr), if_pos hr]
    have ec : YU h.Objs = some (h.Objs, ()) := by
      rw [zdK]
      simp [hn]
    rw [ec, Option.bind_some, if_pos trivial, zhU, decide_eq_true (show 0 ≤ h.Slots by omega), decide_eq_true (show h.Slots < 4294967296 by omega)]
    simp only [Bool.and_self, cond_true, Option.bind_some]
    rw [wt (by simp only [List.length_append, List.length_singleton]; omega), Option.bind_some]
    unfold zjp
    simp
  · rw [if_pos (hx.2 hr), if_neg hr]
theorem zt5 (t : zq) (o : Int) : ∃ b, zfU t o = some (znY t o, b, ()) := by
  rw [zn4, zoO, Option.bind_some]
  unfold znY
  dsimp only
  cases hs : (ze0 t o).2 with
  | false => rw [if_neg (by simp)]; exact ⟨_, rfl⟩
  | true => rw [Bool.not_true, cond_false, zlO, if_pos rfl]; exact ⟨_, rfl⟩
theorem zkl (l : zk) (who price limit : Int) : Zl l who price limit = some (UA l who price limit, ()) := by
  rw [zeV, zfW, Option.bind_some]
  unfold UA Ua
  simp only [zn]
  cases ht : (decide (1 ≤ who) && decide (who ≤ (l.Bal.length : Int))) with
  | false => rw [cond_false]; simp
  | true =>
    rw [cond_true]
    by_cases h1 : 0 ≤ price <;> by_cases h2 : 0 ≤ limit
    · rw [if_pos (by split <;> omega)]
      simp only [Bool.true_and, decide_eq_true h1, decide_eq_true h2, Option.some.injEq, Prod.mk.injEq, and_true]
      rw [Bool.eq_iff_iff]
      simp only [decide_eq_true_eq, Bool.and_eq_true]
      split <;> omega
    · rw [if_neg (by split <;> omega)]; simp [h2]
    · rw [if_neg (by split <;> omega)]; simp [h1]
    · rw [if_neg (by split <;> omega)]; simp [h1]
theorem zp1 {l : zk} {who : Int} (hl : l.Bal.length < 1000000) (h : Ua l who = true) : idx l.Bal (w64 (who - 1)) = some (zbv l who) ∧ xG l.Bal (w64 (who - 1)) = some (who - 1).toNat ∧ l.Bal[(who - 1).toNat]? = some (zbv l who) := by
  unfold Ua at h
  simp only [Bool.and_eq_true, decide_eq_true_eq] at h
  have e := List.getElem?_eq_getElem (show (who - 1).toNat < l.Bal.length by omega)
  have eb : zbv l who = l.Bal[(who - 1).toNat]'(by omega) := by unfold zbv; rw [List.getD_eq_getElem?_getD, e]; rfl
  rw [yf (a := who - 1) (by omega) (by omega), wP (by omega), v9 (by omega) (by omega), e, eb]
  exact ⟨rfl, rfl, rfl⟩
theorem zoI {l : zk} (hl : l.Bal.length < 1000000) (who price limit : Int) : zbU l who price limit = some (zjZ l who price limit, ()) := by
  rw [zof, zkl, Option.bind_some]
  unfold zjZ
  cases hp : UA l who price limit with
  | false => rfl
  | true =>
    have ht : Ua l who = true := by unfold UA at hp; simp only [Bool.and_eq_true] at hp; exact hp.1.1.1.1
    dsimp only
    rw [cond_true, (zp1 hl ht).1, Option.bind_some, yN, Bool.true_and, Int.zero_sub]
theorem zkr {l l' : zk} (hl : l.Bal.length < 1000000) {who : Int} (h : Ua l who = true) (hb : l'.Bal = l.Bal) {v : Int} {Q : Option (zk × Unit)} {f : Int → Option (Int × Unit)} (hf : f (zbv l who) = some (v, ()))
    (hQ : Q = bif decide (((l'.Bal.length : Int)) = ((l'.Bal.length : Int))) then (Y9 ((l'.Bal.length : Int))).bind fun n1 => bif decide (l'.Bal.length = ((List.replicate n1 ((0 : Int))).length)) then
      bif l'.Bal.isEmpty then (xG (List.replicate n1 ((0 : Int))) (w64 (who - 1))).bind fun n2 => ((List.replicate n1 ((0 : Int)))[n2]?).bind fun x3 => (f x3).bind fun y4 => (xG (List.replicate n1 ((0 : Int))) (w64 (who - 1))).bind fun n5 => some ({ l' with Bal := (List.replicate n1 ((0 : Int))).set n5 y4.1 }, ())
      else (xG l'.Bal (w64 (who - 1))).bind fun n6 => (l'.Bal[n6]?).bind fun x7 => (f x7).bind fun y8 => (xG l'.Bal (w64 (who - 1))).bind fun n9 => some ({ l' with Bal := l'.Bal.set n9 y8.1 }, ()) else none else none) :
    Q = some ({ l' with Bal := l.Bal.set (who - 1).toNat v }, ()) := by
  obtain ⟨e1, e2, e3⟩ := zp1 hl h
  have hne : l.Bal.isEmpty = false := by
    cases hl2 : l.Bal with
    | nil => rw [hl2] at e3; simp at e3
    | cons a r => rfl
  rw [hQ, hb, zhU, decide_eq_true (show (0 : Int) ≤ (l.Bal.length : Int) by omega), decide_eq_true (show (l.Bal.length : Int) < 4294967296 by omega)]
  simp only [decide_true, cond_true, Bool.and_self, Option.bind_some, Int.toNat_natCast, List.length_replicate, hne, cond_false, e2, e3, hf]
theorem zrR {l : zk} (hl : l.Bal.length < 1000000) (who price limit : Int) : zcB l who price limit = some (if zjZ l who price limit = true then (zkS l who price, true, ()) else (l, false, ())) := by
  rw [zmo, zoI hl, Option.bind_some]
  cases hm : zjZ l who price limit with
  | false => rfl
  | true =>
    have ht : Ua l who = true := by unfold zjZ UA at hm; simp only [Bool.and_eq_true] at hm; exact hm.1.1.1.1.1
    dsimp only
    rw [Bool.not_true, cond_false, zkr (l' := { l with Spent := w64 (l.Spent + price) }) hl ht rfl (f := fun b => Ve b price) (v := wc (zbv l who - price)) (by rw [zky, yN]) (Wb _ _ _), Option.bind_some, if_pos rfl, yN]
    rfl
theorem zs6 {l : zk} (hl : l.Bal.length < 1000000) (who want : Int) : zeh l who want = some ((zhI l who want).1, (zhI l who want).2, ()) := by
  rw [znz, zfW, Option.bind_some]
  unfold zhI
  have em : (bif decide (l.Pool < want) then l.Pool else want) = zju want l.Pool := by rw [zn]; rfl
  simp only [em]
  have et : (decide (1 ≤ who) && decide (who ≤ (l.Bal.length : Int))) = Ua l who := rfl
  rw [et]
  cases ht : Ua l who with
  | false => rw [if_neg (fun e => by cases e.1)]; rfl
  | true =>
    rw [Bool.not_true, cond_false, zn]
    by_cases hz : zju want l.Pool ≤ 0
    · rw [if_pos hz, if_neg (by omega)]
    · rw [if_neg hz, if_pos ⟨rfl, by omega⟩, zkr (l' := { l with Pool := w64 (l.Pool - zju want l.Pool) }) hl ht rfl (f := fun b => VP b (zju want l.Pool)) (v := wc (zbv l who + zju want l.Pool)) (by rw [zk8, yN]) (Wk _ _ _), Option.bind_some, yN]
theorem zsf {l : zk} (hl : l.Bal.length < 1000000) (who price limit : Int) : zc0 l who price limit = some (zlx l who price limit, ()) := by
  rw [zmq, zkl, Option.bind_some]
  unfold zlx
  cases hp : UA l who price limit with
  | false => rfl
  | true =>
    have ht : Ua l who = true := by unfold UA at hp; simp only [Bool.and_eq_true] at hp; exact hp.1.1.1.1
    dsimp only
    rw [Bool.not_true, cond_false, zoI hl, Option.bind_some, if_pos rfl]
    cases hm : zjZ l who price limit with
    | false => rw [cond_false, (zp1 hl ht).1, Option.bind_some, yN]; rfl
    | true => rfl
theorem zs4 {p : zd} {nb : Nat} (h : zQ p) {s : za} {x : zc} {m : Int} (S : SOk p nb s) (X : XOk p nb m x) (hm : 1 ≤ m ∧ m ≤ p.Mutators) (ha : (s.Acks.length : Int) = p.Mutators) (sm : Zj s) (H : HOk p s.H) (hb : x.Buf.length < 1000000) (hbt : x.Batch.length < 1000000) : Wp ⟨x, s, m⟩ = some (⟨(z8 s m x).2, (z8 s m x).1, m⟩, ()) := by
  have hmt := h.mt
  have hpc := X.pc
  rw [zgS]
  simp only [zn]
  unfold z8
  by_cases c0 : x.PC = 0
  · rw [if_pos c0, if_pos c0, zqS h S.P hm ha X]; rfl
  rw [if_neg c0, if_neg c0]
  by_cases c1 : x.PC = 1
  · rw [if_pos c1, if_pos c1, ze2]
    simp only [zn]
    unfold mu1
    by_cases e : x.Buf.length = 0
    · rw [if_pos e, if_pos (by rw [yf (by omega) (by omega)]; omega)]; rfl
    · have ei := List.getElem?_eq_getElem (show x.Buf.length - 1 < x.Buf.length by omega)
      have en : ((x.Buf.length : Int) - 1).toNat = x.Buf.length - 1 := by omega
      have ec : cut x.Buf 0 ((x.Buf.length : Int) - 1) = some (x.Buf.take (x.Buf.length - 1)) := by
        unfold cut
        rw [decide_eq_true (show (0 : Int) ≤ 0 by decide), decide_eq_true (show (0 : Int) ≤ (x.Buf.length : Int) - 1 by omega), decide_eq_true (show (x.Buf.length : Int) - 1 ≤ (x.Buf.length : Int) by omega), en]
        simp
      rw [if_neg e, yf (a := (x.Buf.length : Int) - 1) (by omega) (by omega), if_neg (by omega), wP (by omega), en, ei, Option.bind_some, zkh, Option.bind_some, ec, List.getD_eq_getElem?_getD, ei]
      rfl
  rw [if_neg c1, if_neg c1]
  by_cases c2 : x.PC = 2
  · rw [if_pos c2, if_pos c2, zg5]
    have hs := sm.acks
    simp only [WQ (show s.Acks.length < 4294967296 by omega), Option.bind_some]
    rw [yf (a := m - 1) (by omega) (by omega), v9 (l := s.Acks) (by omega) (by omega)]
    rfl
  rw [if_neg c2, if_neg c2]
  have hbl := sm.bal
  have hon := sm.objs
  have hregs := X.regs
  have hrs := zir h m
  have hHs := H.slots
  have hHn := H.n
  have hpn := h.n
  have hpm := h.most
  have hps := h.slots
  have op := fun (hi : x.IP < ((wz p m).length : Int)) => zeY h S.P hm (x := x) ⟨X.ip.1, hi⟩
  by_cases c3 : x.PC = 3
  · rw [if_pos c3, if_pos c3, zfB, ziY h S (X.g (.inl c3)).1]; rfl
  rw [if_neg c3, if_neg c3]
  by_cases c10 : x.PC = 10
  · have hi := X.op (.inl (by omega))
    obtain ⟨e1, e2⟩ := op hi
    have o := zjd h hm e2
    rw [if_pos c10, if_pos c10, zgx, e1, Option.bind_some, zk2 h S.P hm ⟨X.ip.1, hi⟩ hregs hon, Option.bind_some, zdw (x := x) (r := (opM p m x).R) (by omega) (by omega)]
    unfold zm9
    rw [S.P]; rfl
  rw [if_neg c10, if_neg c10]
  by_cases c20 : x.PC = 20
  · have hi := X.op (.inl (by omega))
    obtain ⟨e1, e2⟩ := op hi
    have o := zjd h hm e2
    rw [if_pos c20, if_pos c20, zg0, e1, Option.bind_some]
    unfold zk3
    dsimp only
    rw [zjs (x := x) (r := (opM p m x).A) (by omega), Option.bind_some, zn, S.P]
    by_cases e : ziy x (opM p m x).A = 0
    · rw [if_pos e, if_pos e, uz, yN]; rfl
    · rw [if_neg e, if_neg e, zk2 h S.P hm ⟨X.ip.1, hi⟩ hregs hon]; rfl
  rw [if_neg c20, if_neg c20]
  by_cases c21 : x.PC = 21
  · rw [if_pos c21, if_pos c21, ze1]
    unfold zlm
    dsimp only
    rw [zn]
    by_cases e : x.Old = 0
    · rw [if_pos e, if_pos (.inl e)]; rfl
    · rw [if_neg e, ztp, Option.bind_some, z5]
      by_cases e2 : zgu s.T x.Old = 0
      · rw [if_pos e2, if_neg (fun h => h.elim e (fun h => h e2))]; rfl
      · rw [if_neg e2, if_pos (.inr e2)]; rfl
  rw [if_neg c21, if_neg c21]
  by_cases c22 : x.PC = 22
  · rw [if_pos c22, if_pos c22, zcv]
    unfold zlc
    dsimp only
    rw [zn]
    by_cases e : s.P.Buf ≤ (x.Buf.length : Int)
    · rw [if_pos e, if_pos e]; rfl
    · rw [if_neg e, if_neg e, WQ (by omega), Option.bind_some, wt (by simp; omega)]; rfl
  rw [if_neg c22, if_neg c22]
  by_cases c23 : x.PC = 23
  · have hi := X.op (.inl (by omega))
    obtain ⟨e1, e2⟩ := op hi
    have o := zjd h hm e2
    obtain ⟨b, ep⟩ := zvf hon sm.obj (ziy x (opM p m x).A) (opM p m x).S (ziy x (opM p m x).R)
    rw [if_pos c23, if_pos c23, zeU, e1, Option.bind_some]
    dsimp only
    rw [zjs (x := x) (r := (opM p m x).A) (by omega), Option.bind_some, zjs (x := x) (r := (opM p m x).R) (by omega), Option.bind_some, ep, Option.bind_some, uz, yN]
    unfold znH
    rw [S.P]; rfl
  rw [if_neg c23, if_neg c23]
  by_cases c30 : x.PC = 30
  · have hi := X.op (.inl (by omega))
    obtain ⟨e1, e2⟩ := op hi
    have o := zjd h hm e2
    have hne : s.H.Objs ≠ [] := fun e => by have e2 : s.H.Objs.length = 0 := by rw [e]; rfl
                                            omega
    rw [if_pos c30, if_pos c30, zeX]
    unfold zh5
    dsimp only
    rw [zrR hbl, Option.bind_some]
    cases hmay : zjZ s.L m s.P.Price s.P.Limit with
    | false => rfl
    | true =>
      rw [if_pos rfl, if_pos rfl]
      dsimp only
      rw [Bool.not_true, cond_false, zuu (show 1 ≤ s.H.Slots ∧ s.H.Slots ≤ 4 by rw [hHs]; omega) (show s.H.Objs.length ≤ 64 by omega) H.objs hne, Option.bind_some]
      cases hr : zfn s.H s.P.Most with
      | false =>
        rw [if_neg (by simp), if_neg (by simp)]
        dsimp only
        rw [z5, if_neg (by decide), uz, yN]; rfl
      | true =>
        rw [if_pos rfl, if_pos rfl]
        dsimp only
        obtain ⟨b, ef⟩ := zt5 s.T ((s.H.Objs.length : Int) + 1)
        rw [z5, if_pos rfl, ef, Option.bind_some]
        have e3 := (zeY h (s := { s with H := zjp s.H, T := znY s.T ((s.H.Objs.length : Int) + 1), L := zkS s.L m s.P.Price }) S.P hm (x := x) ⟨X.ip.1, hi⟩).1
        rw [e3, Option.bind_some, zdw (x := x) (r := (opM p m x).R) (by omega) (by omega), Y6 (by omega) (by omega)]
        rw [S.P]; rfl
  rw [if_neg c30, if_neg c30]
  by_cases c31 : x.PC = 31
  · rw [if_pos c31, if_pos c31, zgI]
    unfold zlj
    dsimp only
    rw [zsf hbl, Option.bind_some, zs6 hbl, Option.bind_some, zn]
    by_cases e : (zhI s.L m (zlx s.L m s.P.Price s.P.Limit)).2 = 0
    · rw [if_pos e, if_pos e, zb0, Option.bind_some, zk4]; rfl
    · rw [if_neg e, if_neg e]; rfl
  rw [if_neg c31, if_neg c31]
  by_cases c32 : x.PC = 32
  · rw [if_pos c32, if_pos c32, zgX]
    unfold zli
    dsimp only
    rw [zb7 (by have := S.mem; omega), Option.bind_some, zn, zn]
    by_cases e : (zJ s.M x.C).2.Out = 1
    · rw [if_pos e, if_pos e]; rfl
    · rw [if_neg e, if_neg e]
      by_cases e2 : (zJ s.M x.C).2.Out = 2
      · rw [if_pos e2, if_pos e2]; rfl
      · rw [if_neg e2, if_neg e2]; rfl
  rw [if_neg c32, if_neg c32]
  by_cases c33 : x.PC = 33
  · have B := X.b33 c33
    have hbn := S.bins
    have hnb := S.nbk
    have e := List.getElem?_eq_getElem (show x.Bin.toNat < s.Bins.length by omega)
    rw [if_pos c33, if_pos c33, zfo]
    unfold znu
    dsimp only
    rw [wP (by omega), e, Option.bind_some, ze8 (by omega), Option.bind_some, v9 (l := s.Bins) (by omega) (by omega), Option.bind_some, U6, Option.bind_some, zk4]
    have eb : zjB s x.Bin = s.Bins[x.Bin.toNat]'(by omega) := by unfold zjB; rw [List.getD_eq_getElem?_getD, e]; rfl
    rw [eb]; rfl
  rw [if_neg c33, if_neg c33]
  by_cases c34 : x.PC = 34
  · rw [if_pos c34, if_pos c34, zgw]
    unfold zlD
    dsimp only
    rw [zb7 (by have := S.mem; omega), Option.bind_some, zn]
    by_cases e : (zJ s.M x.C).2.Out = 1
    · rw [if_pos e, if_pos e]; rfl
    · rw [if_neg e, if_neg e]; rfl
  rw [if_neg c34, if_neg c34]
  by_cases c35 : x.PC = 35
  · rw [if_pos c35, if_pos c35, zfs]
    unfold zlf
    dsimp only
    rw [zn]
    cases hbb : x.Batch with
    | nil => rw [if_neg (by simp)]; rfl
    | cons o l =>
      have : idx (o :: l) 0 = some o := by rw [wP (by omega)]; rfl
      rw [if_pos (by simp), this, Option.bind_some, zrv]; rfl
  rw [if_neg c35, if_neg c35]
  by_cases c36 : x.PC = 36
  · rw [if_pos c36, if_pos c36, zgs]
    unfold zlw
    dsimp only
    rw [zmT hon, Option.bind_some, zox, Option.bind_some, z5, yN]
    by_cases e : Uu s.H x.Obj x.Slot = 0
    · rw [if_pos e, if_pos e]; rfl
    · rw [if_neg e, if_neg e, zkh]; rfl
  rw [if_neg c36, if_neg c36]
  by_cases c37 : x.PC = 37
  · rw [if_pos c37, if_pos c37, zhg, zox, Option.bind_some, ziY h S (X.g (.inr c37)).1]; rfl
  rw [if_neg c37, if_neg c37]
  by_cases c38 : x.PC = 38
  · rw [if_pos c38, if_pos c38, zdD]
    unfold znq
    dsimp only
    rw [zlO, Option.bind_some, zmA hbl]; rfl
  rw [if_neg c38, if_neg c38]
  have c39 : x.PC = 39 := by omega
  rw [if_pos c39, if_pos c39, zdS, yN]; rfl
theorem zbo {p : zd} {nb : Nat} {s : za} (h : zQ p) (E : EOk p nb s) (m : Int) : Yt s m = some (yD s m, ()) := by
  rw [zmn]
  simp only [zn]
  unfold yD
  cases hd : s.Done with
  | true => rw [cond_true, if_pos (.inl rfl)]
  | false =>
    rw [cond_false]
    by_cases h1 : m < 1
    · rw [if_pos h1, if_pos (.inr (.inl h1))]
    rw [if_neg h1]
    by_cases h2 : (s.Ms.length : Int) < m
    · rw [if_pos h2, if_pos (.inr (.inr h2))]
    have hml := E.ml
    have hal := E.al
    have hmt := h.mt
    have e := List.getElem?_eq_getElem (show (m - 1).toNat < s.Ms.length by omega)
    have ei : (((m - 1).toNat : Nat) : Int) + 1 = m := by omega
    have hX := E.X _ _ e
    rw [ei] at hX
    have hb := (E.small.mu _ (List.mem_of_getElem? e)).2
    have T := zsB s m (s.Ms[(m - 1).toNat]'(by omega))
    rw [if_neg h2, if_neg (fun e => e.elim (fun h => by cases h) (fun e => e.elim h1 h2)), yf (a := m - 1) (by omega) (by omega), wP (by omega), e, Option.bind_some, zs4 h E.S hX (by omega) (by omega) E.small E.H hb.1 hb.2, Option.bind_some]
    simp only [T.ms, zvT (show s.Ms.length < 4294967296 by omega), Option.bind_some, v9 (l := s.Ms) (show 0 ≤ m - 1 by omega) (show m - 1 < (s.Ms.length : Int) by omega)]
end
end Go.Pe.G
namespace Go.Pe.G
open Go.Pe
noncomputable section
theorem zwc {m : List zg} (h : m.length < 4294967296) : wx m = some (m, ()) := by
  rw [X4, List.nil_append, wt h, Option.bind_some]
  cases m with
  | nil => simp [zdI]
  | cons a l => simp
theorem zvS {n v : Int} (h : 1 ≤ v ∧ v ≤ n) (hn : n < 1000000) : w64 (v.tmod n + 1) = zfv n v := by
  unfold zfv
  rw [Int.tmod_eq_emod_of_nonneg (by omega)]
  by_cases hv : v < n
  · rw [if_pos hv, Int.emod_eq_of_lt (by omega) hv, yf (by omega) (by omega)]
  · have : v = n := by omega
    rw [if_neg hv, this, Int.emod_self, yf (by omega) (by omega)]
    rfl
theorem zsO {p : zd} (h : zQ p) {s : za} (hP : s.P = p) (hl : (s.Ws.length : Int) = p.Workers) {x : zg} (hv : 1 ≤ x.Victim ∧ x.Victim ≤ p.Workers) (w : Int) :
    Z5 ⟨x, s, w⟩ = some (⟨zjJ p w x, s, w⟩, ()) := by
  have hw := h.wk
  rw [zg9]
  simp only [zn, hl]
  rw [if_neg (show ¬ p.Workers = 0 by omega), zvS hv (by omega)]
  unfold zjJ
  by_cases e : zfv p.Workers x.Victim = w
  · rw [if_pos e, if_pos e, zb0, Option.bind_some, zbR]
    simp only [UB, Option.bind_some, YT, e, hP]
    rfl
  · rw [if_neg e, if_neg e, zd5]
    simp only [zdz, Option.bind_some, Vd, hP]
theorem zk7 {p : zd} {s : za} (hP : s.P = p) (x : zg) (w : Int) : vb ⟨x, s, w⟩ = some (⟨zn7 p w x, s, w⟩, ()) := by
  rw [zfV, zd5]
  simp only [zdz, Option.bind_some, Vd, hP]
  rfl
theorem zqi (s : za) (x : zg) (w : Int) : XF ⟨x, s, w⟩ = some (onW s x.Slot, ()) := by
  rw [zkV, zn]
  unfold onW
  split <;> rfl
theorem zmy {s : za} (hm : s.M.length < 4294967296) (x : zg) (w : Int) : vy ⟨x, s, w⟩ = some ((zJ s.M x.C).2.Out, ⟨{ x with C := (zJ s.M x.C).2 }, { s with M := (zJ s.M x.C).1 }, w⟩, ()) := by
  rw [zg4]
  simp only [zb7 hm, Option.bind_some]
theorem zon {p : zd} (h : zQ p) {s : za} (hP : s.P = p) (hm : s.M.length < 4294967296) (hl : (s.Ws.length : Int) = p.Workers) {x : zg} (hv : 1 ≤ x.Victim ∧ x.Victim ≤ p.Workers) (hc : x.D.Cap < 1000) {w : Int} (h01 : x.PC = 0 ∨ x.PC = 1) :
    Y5 ⟨x, s, w⟩ = some (⟨(yo s w x).2, (yo s w x).1, w⟩, ()) := by
  unfold yo
  rw [if_pos h01, ziI]
  simp only [zuw hm hc, Option.bind_some, zn]
  by_cases o1 : (wA s.M x.D).2.Out = 1
  · rw [if_pos o1, if_pos o1, UJ]; rfl
  · rw [if_neg o1, if_neg o1]
    have hk := fun (x' : zg) (e : x'.Victim = x.Victim) => zsO h (s := { s with M := (wA s.M x.D).1 }) hP hl (x := x') (by rw [e]; exact hv) w
    by_cases o4 : (wA s.M x.D).2.Out = 4
    · rw [if_pos o4, if_pos (.inr o4), hk { x with D := (wA s.M x.D).2 } rfl, Option.bind_some, hP]
    · rw [if_neg o4]
      by_cases o2 : (wA s.M x.D).2.Out = 2
      · rw [if_pos o2, if_pos (.inl o2), hk { x with D := (wA s.M x.D).2 } rfl, Option.bind_some, hP]
      · rw [if_neg o2, if_neg (by omega)]
theorem ztQ {p : zd} {nb : Nat} (h : zQ p) {s : za} {x : zg} {w : Int} (S : SOk p nb s) (W : WOk p nb w x) (hl : (s.Ws.length : Int) = p.Workers) (sm : Zj s) :
    WR ⟨x, s, w⟩ = some (⟨(yo s w x).2, (yo s w x).1, w⟩, ()) := by
  have hP := S.P
  have hm : s.M.length < 4294967296 := by have := S.mem; omega
  have hc := h.cap
  rw [zgY]
  simp only [zn]
  by_cases c0 : x.PC = 0
  · rw [if_pos c0, if_pos c0, zon h hP hm hl W.vic (by have := (W.d0 c0).2.2; omega) (.inl c0), Option.bind_some]
  rw [if_neg c0]
  by_cases c1 : x.PC = 1
  · rw [if_pos c1, zon h hP hm hl W.vic (by have := (W.d1 c1).2.2; omega) (.inr c1), Option.bind_some]
  rw [if_neg c1]
  unfold yo
  rw [if_neg (show ¬ (x.PC = 0 ∨ x.PC = 1) by omega)]
  by_cases c2 : x.PC = 2
  · rw [if_pos c2, if_pos c2, zmy hm, Option.bind_some]
    simp only [zk7 (s := { s with M := (zJ s.M x.C).1 }) hP]
    by_cases o1 : (zJ s.M x.C).2.Out = 1
    · rw [if_pos o1, if_pos o1]
    · rw [if_neg o1, if_neg o1]
      by_cases o2 : (zJ s.M x.C).2.Out = 2
      · rw [if_pos o2, if_pos o2, Option.bind_some, hP]
      · rw [if_neg o2, if_neg o2]
  rw [if_neg c2, if_neg c2]
  by_cases c3 : x.PC = 3
  · have B := W.b3 c3
    have hb := S.bins
    have hnb := S.nbk
    have e := List.getElem?_eq_getElem (show x.Bin.toNat < s.Bins.length by omega)
    rw [if_pos c3, if_pos c3, zhp]
    dsimp only
    rw [wP (by omega), e, Option.bind_some, ze8 (by omega), Option.bind_some, v9 (l := s.Bins) (by omega) (by omega), Option.bind_some, U6, Option.bind_some, zbR]
    simp only [UB, Option.bind_some, YT]
    unfold zjB
    rw [List.getD_eq_getElem?_getD, e]; rfl
  rw [if_neg c3, if_neg c3]
  by_cases c4 : x.PC = 4
  · rw [if_pos c4, if_pos c4, zmy hm, Option.bind_some]
    dsimp only
    by_cases o1 : (zJ s.M x.C).2.Out = 1
    · rw [if_pos o1, if_pos o1]
    · rw [if_neg o1, if_neg o1]
  rw [if_neg c4, if_neg c4]
  by_cases c5 : x.PC = 5
  · rw [if_pos c5, if_pos c5, zg3]
    simp only [zmT sm.objs, Option.bind_some, zn, zqi, zkh, yN]
    by_cases v : Uu s.H x.Obj x.Slot = 0
    · rw [if_pos v, if_pos v]; rfl
    · rw [if_neg v, if_neg v]; rfl
  rw [if_neg c5, if_neg c5]
  by_cases c6 : x.PC = 6
  · obtain ⟨g1, g2, g3, g4⟩ := W.g6 c6
    rw [if_pos c6, if_pos c6]
    simp only [zqh (S.gok h g1), Option.bind_some, zqi]
    have eH : (zH s x.G).1.H = s.H := (zbc s x.G).2
    by_cases o1 : (zH s x.G).2.Out = 1
    · rw [if_pos o1, if_pos o1]
      unfold onW
      rw [eH]
    · rw [if_neg o1, if_neg o1]
  rw [if_neg c6, if_neg c6]
  by_cases c7 : x.PC = 7
  · rw [if_pos c7, if_pos c7]
    cases hb : x.Batch with
    | nil => rw [if_pos (by simp), zk7 hP, Option.bind_some, hP]
    | cons o l =>
      rw [if_neg (by simp; omega), wP (by omega)]
      simp only [Int.toNat_zero, List.getElem?_cons_zero, Option.bind_some, UJ, hb]
      rw [zrv]; rfl
  rw [if_neg c7, if_neg c7]
  by_cases c8 : x.PC = 8
  · rw [if_pos c8, if_pos c8]
    simp only [zlO, Option.bind_some, zmA sm.bal]
  rw [if_neg c8, if_neg c8]
  by_cases c9 : x.PC = 9
  · rw [if_pos c9, if_pos c9, yN]
  · rw [if_neg c9, if_neg c9]
theorem zs5 {p : zd} {nb : Nat} {s : za} (h : zQ p) (E : EOk p nb s) (w : Int) : zeq s w = some (vw s w, ()) := by
  rw [zni]
  simp only [zn]
  unfold vw
  cases hd : s.Done with
  | true => rw [cond_true, if_pos (.inl rfl)]
  | false =>
    rw [cond_false]
    by_cases h1 : w < 1
    · rw [if_pos h1, if_pos (.inr (.inl h1))]
    rw [if_neg h1]
    by_cases h2 : (s.Ws.length : Int) < w
    · rw [if_pos h2, if_pos (.inr (.inr h2))]
    have hwl := E.wl
    have hwk := h.wk
    have e := List.getElem?_eq_getElem (show (w - 1).toNat < s.Ws.length by omega)
    have ei : (((w - 1).toNat : Nat) : Int) + 1 = w := by omega
    have hW := E.W _ _ e
    rw [ei] at hW
    obtain ⟨T, TH⟩ := zqn s w (s.Ws[(w - 1).toNat]'(by omega))
    rw [if_neg h2, if_neg (fun e => e.elim (fun h => by cases h) (fun e => e.elim h1 h2)), yf (a := w - 1) (by omega) (by omega), wP (by omega), e, Option.bind_some, ztQ h E.S hW hwl E.small, Option.bind_some]
    simp only [T.ws, zwc (show s.Ws.length < 4294967296 by omega), Option.bind_some, v9 (l := s.Ws) (show 0 ≤ w - 1 by omega) (show w - 1 < (s.Ws.length : Int) by omega)]
end
end Go.Pe.G
namespace Go.Pe.G
open Go.Pe
noncomputable section
theorem zx3 (s : za) (g : zD) : (zH s g).1 = { s with M := (zH s g).1.M, Bins := (zH s g).1.Bins, T := (zH s g).1.T, Work := (zH s g).1.Work, Flag := (zH s g).1.Flag } := by
  obtain ⟨m, b, t, wk, f, e, _⟩ := W5 s g
  rw [e]
theorem zt8 {p : zd} {nb : Nat} {s : za} {w : Int} {x : zg} (W : WOk p nb w x) : (yo s w x).1 = { s with M := (yo s w x).1.M, Bins := (yo s w x).1.Bins, T := (yo s w x).1.T, Work := (yo s w x).1.Work, L := (yo s w x).1.L } := by
  unfold yo
  split
  · rfl
  split
  · rfl
  split
  · rfl
  split
  · rfl
  split
  · rfl
  split
  · rename_i h6
    obtain ⟨g1, g2, g3, g4⟩ := W.g6 h6
    have hf := (ztB s g3 g4).2
    obtain ⟨m, b, t, wk, f, e, _⟩ := W5 s x.G
    dsimp only
    rw [e] at hf ⊢
    have hf : f = s.Flag := hf
    rw [hf]
  split
  · rfl
  split
  · rfl
  split <;> rfl
theorem zqe (s : za) (m : Int) (x : zc) : (z8 s m x).1 = { s with H := (z8 s m x).1.H, M := (z8 s m x).1.M, Bins := (z8 s m x).1.Bins, T := (z8 s m x).1.T, Work := (z8 s m x).1.Work, Flag := (z8 s m x).1.Flag, Acks := (z8 s m x).1.Acks, L := (z8 s m x).1.L } := by
  have g : ∀ g : zD, (zH s g).1 = { s with H := (zH s g).1.H, M := (zH s g).1.M, Bins := (zH s g).1.Bins, T := (zH s g).1.T, Work := (zH s g).1.Work, Flag := (zH s g).1.Flag, Acks := (zH s g).1.Acks, L := (zH s g).1.L } := fun g => by
    obtain ⟨m, b, t, wk, f, e, _⟩ := W5 s g
    rw [e]
  refine ZT (motive := fun r => r.1 = { s with H := r.1.H, M := r.1.M, Bins := r.1.Bins, T := r.1.T, Work := r.1.Work, Flag := r.1.Flag, Acks := r.1.Acks, L := r.1.L }) s m x ?_ ?_ ?_ ?_ ?_ ?_ ?_ ?_ ?_ ?_ ?_ ?_ ?_ ?_ ?_ ?_ ?_ ?_ ?_ ?_
  · exact fun _ => rfl
  · exact fun _ => rfl
  · exact fun _ => rfl
  · exact fun _ => g x.G
  · exact fun _ => rfl
  · exact fun _ => rfl
  · exact fun _ => rfl
  · exact fun _ => rfl
  · exact fun _ => rfl
  · intro _
    unfold zh5
    split
    · split <;> rfl
    · rfl
  · exact fun _ => rfl
  · exact fun _ => rfl
  · exact fun _ => rfl
  · exact fun _ => rfl
  · exact fun _ => rfl
  · exact fun _ => rfl
  · exact fun _ => g x.G
  · exact fun _ => rfl
  · exact fun _ => rfl
  · rfl
theorem zyf (s : za) (m : Int) {x : zc} (h : x.PC ≠ 2) : (z8 s m x).1.Acks = s.Acks := by
  have g : ∀ g : zD, (zH s g).1.Acks = s.Acks := fun g => by
    obtain ⟨m, b, t, wk, f, e, _⟩ := W5 s g
    rw [e]
  refine ZT (motive := fun r => r.1.Acks = s.Acks) s m x ?_ ?_ ?_ ?_ ?_ ?_ ?_ ?_ ?_ ?_ ?_ ?_ ?_ ?_ ?_ ?_ ?_ ?_ ?_ ?_
  · exact fun _ => rfl
  · exact fun _ => rfl
  · exact fun c => absurd c h
  · exact fun _ => g x.G
  · exact fun _ => rfl
  · exact fun _ => rfl
  · exact fun _ => rfl
  · exact fun _ => rfl
  · exact fun _ => rfl
  · intro _
    unfold zh5
    split
    · split <;> rfl
    · rfl
  · exact fun _ => rfl
  · exact fun _ => rfl
  · exact fun _ => rfl
  · exact fun _ => rfl
  · exact fun _ => rfl
  · exact fun _ => rfl
  · exact fun _ => g x.G
  · exact fun _ => rfl
  · exact fun _ => rfl
  · rfl
def zhY (s : za) (k : Int) : za := if k = 0 then Yu s else if k ≤ (s.Ws.length : Int) then vw s k else yD s (k - s.Ws.length)
theorem zw1 {p : zd} {nb : Nat} {s : za} (h : zQ p) (E : EOk p nb s) (k : Int) : EOk p nb (zhY s k) := by
  unfold zhY
  split
  · exact zuf h E
  split
  · exact zwr h E k
  · exact zhP h E _
theorem zmR {p : zd} {nb : Nat} {s : za} (E : EOk p nb s) (w : Int) : vw s w = { s with M := (vw s w).M, Bins := (vw s w).Bins, T := (vw s w).T, Work := (vw s w).Work, L := (vw s w).L, Ws := (vw s w).Ws } := by
  unfold vw
  split
  · rfl
  rename_i hc
  cases hx : s.Ws[(w - 1).toNat]? with
  | none => rfl
  | some x =>
    have hW := E.W _ _ hx
    rw [show (((w - 1).toNat : Nat) : Int) + 1 = w by omega] at hW
    dsimp only
    rw [zt8 hW]
theorem zvx (s : za) (m : Int) : yD s m = { s with H := (yD s m).H, M := (yD s m).M, Bins := (yD s m).Bins, T := (yD s m).T, Work := (yD s m).Work, Flag := (yD s m).Flag, Acks := (yD s m).Acks, L := (yD s m).L, Ms := (yD s m).Ms } := by
  unfold yD
  split
  · rfl
  cases hx : s.Ms[(m - 1).toNat]? with
  | none => rfl
  | some x =>
    dsimp only
    rw [zqe]
structure AI (k : Int) (s : za) : Prop where
  ep : 0 ≤ s.Epoch ∧ s.Epoch ≤ k
  m : ∀ (i : Nat) x, s.Ms[i]? = some x → s.Acks.getD i 0 ≤ s.Epoch ∧ (x.PC = 2 ∨ ((x.PC = 1 ∨ x.PC = 3) ∧ x.Ret = 2) → s.Acks.getD i 0 ≤ x.Want ∧ x.Want ≤ s.Epoch) ∧ (x.PC = 2 → x.Buf = [])
def zrf (s s' : za) : Prop := ∀ (i : Nat) x', s'.Ms[i]? = some x' → s.Acks.getD i 0 ≤ s'.Acks.getD i 0 ∧ s'.Acks.getD i 0 ≤ s'.Epoch ∧ (s.Acks.getD i 0 < s'.Acks.getD i 0 → x'.Buf = [])
theorem AI.same {k : Int} {s s' : za} (A : AI k s) (e1 : s'.Epoch = s.Epoch) (e2 : s'.Ms = s.Ms) (e3 : s'.Acks = s.Acks) : AI (k + 1) s' ∧ zrf s s' := by
  refine ⟨⟨by rw [e1]; have := A.ep; omega, by rw [e1, e2, e3]; exact A.m⟩, fun i x hx => ?_⟩
  rw [e2] at hx
  rw [e3, e1]
  exact ⟨Int.le_refl _, (A.m i x hx).1, fun e => by omega⟩
theorem zrw {α : Type} {l : List α} {i j : Nat} {v d : α} (h : i < l.length) : (l.set i v).getD j d = if i = j then v else l.getD j d := by
  rw [List.getD_eq_getElem?_getD, List.getD_eq_getElem?_getD, List.getElem?_set]
  by_cases e : i = j
  · rw [if_pos e, if_pos e, if_pos h]; rfl
  · rw [if_neg e, if_neg e]
theorem zxJ {p : zd} {nb : Nat} {k : Int} {s : za} (hp : zQ p) (E : EOk p nb s) (A : AI k s) {m : Int} (hm : 1 ≤ m ∧ m ≤ (s.Ms.length : Int)) {x : zc} (hx : s.Ms[(m - 1).toNat]? = some x) :
    let y := (z8 s m x).2
    let s' := (z8 s m x).1
    (s.Acks.getD (m - 1).toNat 0 ≤ s'.Acks.getD (m - 1).toNat 0 ∧ s'.Acks.getD (m - 1).toNat 0 ≤ s.Epoch ∧ (s.Acks.getD (m - 1).toNat 0 < s'.Acks.getD (m - 1).toNat 0 → y.Buf = [])) ∧ (∀ j, j ≠ (m - 1).toNat → s'.Acks.getD j 0 = s.Acks.getD j 0) ∧
      (y.PC = 2 ∨ ((y.PC = 1 ∨ y.PC = 3) ∧ y.Ret = 2) → s'.Acks.getD (m - 1).toNat 0 ≤ y.Want ∧ y.Want ≤ s.Epoch) ∧ (y.PC = 2 → y.Buf = []) := by
  obtain ⟨a1, a2, a3⟩ := A.m _ _ hx
  have X := E.X _ _ hx
  rw [show (((m - 1).toNat : Nat) : Int) + 1 = m by omega] at X
  have hal := E.al
  have same : ∀ {s' : za} {y : zc}, s'.Acks = s.Acks → (y.PC = 2 ∨ ((y.PC = 1 ∨ y.PC = 3) ∧ y.Ret = 2) → s.Acks.getD (m - 1).toNat 0 ≤ y.Want ∧ y.Want ≤ s.Epoch) → (y.PC = 2 → y.Buf = []) →
      (s.Acks.getD (m - 1).toNat 0 ≤ s'.Acks.getD (m - 1).toNat 0 ∧ s'.Acks.getD (m - 1).toNat 0 ≤ s.Epoch ∧ (s.Acks.getD (m - 1).toNat 0 < s'.Acks.getD (m - 1).toNat 0 → y.Buf = [])) ∧ (∀ j, j ≠ (m - 1).toNat → s'.Acks.getD j 0 = s.Acks.getD j 0) ∧
      (y.PC = 2 ∨ ((y.PC = 1 ∨ y.PC = 3) ∧ y.Ret = 2) → s'.Acks.getD (m - 1).toNat 0 ≤ y.Want ∧ y.Want ≤ s.Epoch) ∧ (y.PC = 2 → y.Buf = []) := fun e h1 h2 => by
    rw [e]; exact ⟨⟨Int.le_refl _, a1, fun e => by omega⟩, fun _ _ => rfl, h1, h2⟩
  have far : ∀ {s' : za} {y : zc}, s'.Acks = s.Acks → (y.PC = 0 ∨ 10 ≤ y.PC) → _ := fun {s' y} e h => same (s' := s') (y := y) e (fun e => by omega) (fun e => by omega)
  have gacks : ∀ g : zD, (zH s g).1.Acks = s.Acks := fun g => by
    obtain ⟨m, b, t, wk, f, e, _⟩ := W5 s g
    rw [e]
  refine ZT (motive := fun r => (s.Acks.getD (m - 1).toNat 0 ≤ r.1.Acks.getD (m - 1).toNat 0 ∧ r.1.Acks.getD (m - 1).toNat 0 ≤ s.Epoch ∧ (s.Acks.getD (m - 1).toNat 0 < r.1.Acks.getD (m - 1).toNat 0 → r.2.Buf = [])) ∧ (∀ j, j ≠ (m - 1).toNat → r.1.Acks.getD j 0 = s.Acks.getD j 0) ∧
      (r.2.PC = 2 ∨ ((r.2.PC = 1 ∨ r.2.PC = 3) ∧ r.2.Ret = 2) → r.1.Acks.getD (m - 1).toNat 0 ≤ r.2.Want ∧ r.2.Want ≤ s.Epoch) ∧ (r.2.PC = 2 → r.2.Buf = [])) s m x ?_ ?_ ?_ ?_ ?_ ?_ ?_ ?_ ?_ ?_ ?_ ?_ ?_ ?_ ?_ ?_ ?_ ?_ ?_ ?_
  · intro c
    unfold mu0 zgd
    split
    · rename_i hlt
      exact same rfl (fun _ => ⟨Int.le_of_lt hlt, Int.le_refl _⟩) (fun e => by cases e)
    split
    · exact far rfl (.inl c)
    split
    · exact far rfl (.inr (by show (10 : Int) ≤ 10; decide))
    split
    · exact far rfl (.inr (by show (10 : Int) ≤ 20; decide))
    split
    · exact far rfl (.inr (by show (10 : Int) ≤ 30; decide))
    split <;> exact far rfl (.inl rfl)
  · intro c
    unfold mu1
    split
    · rename_i hb
      have hb : x.Buf = [] := List.eq_nil_of_length_eq_zero hb
      refine same rfl (fun e => ?_) (fun _ => hb)
      have e : x.Ret = 2 ∨ ((x.Ret = 1 ∨ x.Ret = 3) ∧ x.Ret = 2) := e
      exact a2 (.inr ⟨.inl c, by omega⟩)
    · refine same rfl (fun e => a2 (.inr ⟨.inl c, ?_⟩)) (fun e => by cases e)
      rcases e with e | e
      · cases e
      · exact e.2
  · intro c
    have hlt : (m - 1).toNat < s.Acks.length := by omega
    obtain ⟨b1, b2⟩ := a2 (.inl c)
    unfold mu2
    have e0 : (s.Acks.set (m - 1).toNat x.Want).getD (m - 1).toNat 0 = x.Want := by rw [zrw hlt, if_pos rfl]
    refine ⟨⟨by dsimp only; rw [e0]; exact b1, by dsimp only; rw [e0]; exact b2, fun _ => a3 c⟩, fun j hj => ?_, fun (e : (0 : Int) = 2 ∨ (((0 : Int) = 1 ∨ (0 : Int) = 3) ∧ x.Ret = 2)) => by omega, fun (e : (0 : Int) = 2) => by omega⟩
    dsimp only
    rw [zrw hlt, if_neg (fun e => hj e.symm)]
  · intro c
    unfold mu3
    dsimp only
    split
    · refine same (gacks _) (fun e => a2 (.inr ⟨.inr c, ?_⟩)) (fun e => by cases e)
      rcases e with e | e
      · cases e
      · exact e.2
    · refine same (gacks _) (fun e => a2 ?_) (fun e => by have e : x.PC = 2 := e; omega)
      rcases e with e | e
      · exact .inl e
      · exact .inr e
  · exact fun c => far rfl (.inl rfl)
  · intro c
    unfold zk3
    split
    · exact far rfl (.inl rfl)
    · exact far rfl (.inr (by show (10 : Int) ≤ 21; decide))
  · intro c
    unfold zlm
    split
    · exact far rfl (.inr (by show (10 : Int) ≤ 23; decide))
    · exact far rfl (.inr (by show (10 : Int) ≤ 22; decide))
  · intro c
    unfold zlc
    split
    · refine same rfl (fun e => ?_) (fun e => by cases e)
      rcases e with e | ⟨_, e⟩ <;> cases e
    · exact far rfl (.inr (by show (10 : Int) ≤ 23; decide))
  · exact fun c => far rfl (.inl rfl)
  · intro c
    unfold zh5
    split
    · split
      · exact far rfl (.inl rfl)
      · exact far rfl (.inl rfl)
    · exact far rfl (.inr (by show (10 : Int) ≤ 31; decide))
  · intro c
    unfold zlj
    dsimp only
    split
    · exact far rfl (.inr (by show (10 : Int) ≤ 32; decide))
    · exact far rfl (.inl rfl)
  · intro c
    unfold zli
    dsimp only
    split
    · exact far rfl (.inr (by show (10 : Int) ≤ 33; decide))
    split
    · exact far rfl (.inl rfl)
    · exact far rfl (.inr (by show 10 ≤ x.PC; omega))
  · exact fun c => far rfl (.inr (by show (10 : Int) ≤ 34; decide))
  · intro c
    unfold zlD
    dsimp only
    split
    · exact far rfl (.inr (by show (10 : Int) ≤ 35; decide))
    · exact far rfl (.inr (by show 10 ≤ x.PC; omega))
  · intro c
    unfold zlf
    dsimp only
    split
    · exact far rfl (.inl rfl)
    · exact far rfl (.inr (by show (10 : Int) ≤ 36; decide))
  · intro c
    unfold zlw
    dsimp only
    split
    · exact far rfl (.inr (by show 10 ≤ onM s (wc (x.Slot + 1)); rcases znT s (wc (x.Slot + 1)) with e | e <;> rw [e] <;> decide))
    · exact far rfl (.inr (by show (10 : Int) ≤ 37; decide))
  · intro c
    unfold zmS
    dsimp only
    split
    · exact far (gacks _) (.inr (by show 10 ≤ onM s x.Slot; rcases znT s x.Slot with e | e <;> rw [e] <;> decide))
    · exact far (gacks _) (.inr (by show 10 ≤ x.PC; omega))
  · exact fun c => far rfl (.inr (by show (10 : Int) ≤ 39; decide))
  · exact fun c => far rfl (.inr (by show (10 : Int) ≤ 35; decide))
  · exact same rfl a2 a3
theorem zwX {p : zd} {nb : Nat} {k : Int} {s : za} (hp : zQ p) (E : EOk p nb s) (hk : k < 1000000) (A : AI k s) (j : Int) : AI (k + 1) (zhY s j) ∧ zrf s (zhY s j) := by
  unfold zhY
  split
  · -- the detector
    have up : ∀ s' : za, s'.Epoch = s.Epoch + 1 → s'.Ms = s.Ms → s'.Acks = s.Acks → AI (k + 1) s' ∧ zrf s s' := fun s' e1 e2 e3 => by
      have := A.ep
      refine ⟨⟨by omega, fun i x hx => ?_⟩, fun i x hx => ?_⟩
      · rw [e2] at hx
        obtain ⟨b1, b2, b3⟩ := A.m i x hx
        rw [e3, e1]
        exact ⟨by omega, fun e => by have := b2 e; omega, b3⟩
      · rw [e2] at hx
        have := (A.m i x hx).1
        rw [e3, e1]
        exact ⟨Int.le_refl _, by omega, fun e => by omega⟩
    have he := A.ep
    unfold Yu
    split
    · exact A.same rfl rfl rfl
    split
    · exact A.same rfl rfl rfl
    split
    · split <;> exact A.same rfl rfl rfl
    split
    · exact up _ (Y6 (by omega) (by omega)) rfl rfl
    split
    · split <;> exact A.same rfl rfl rfl
    split
    · split <;> exact A.same rfl rfl rfl
    split
    · split <;> exact A.same rfl rfl rfl
    split <;> exact A.same rfl rfl rfl
  split
  · rw [zmR E]
    exact A.same rfl rfl rfl
  · generalize j - (s.Ws.length : Int) = m
    unfold yD
    split
    · exact A.same rfl rfl rfl
    rename_i hc
    cases hx : s.Ms[(m - 1).toNat]? with
    | none => exact A.same rfl rfl rfl
    | some x =>
      have hm : 1 ≤ m ∧ m ≤ (s.Ms.length : Int) := by
        constructor
        · exact Int.not_lt.1 (fun e => hc (.inr (.inl e)))
        · exact Int.not_lt.1 (fun e => hc (.inr (.inr e)))
      obtain ⟨b1, b2, b3, b4⟩ := zxJ hp E A hm hx
      have hE : (z8 s m x).1.Epoch = s.Epoch := by rw [zqe]
      have he := A.ep
      have hl := (List.getElem?_eq_some_iff.1 hx).1
      refine ⟨⟨by show 0 ≤ (z8 s m x).1.Epoch ∧ _; rw [hE]; omega, fun i y hy => ?_⟩, fun i y hy => ?_⟩
      · show (z8 s m x).1.Acks.getD i 0 ≤ (z8 s m x).1.Epoch ∧ (_ → (z8 s m x).1.Acks.getD i 0 ≤ y.Want ∧ y.Want ≤ (z8 s m x).1.Epoch) ∧ _
        rw [hE]
        have hy : (s.Ms.set (m - 1).toNat (z8 s m x).2)[i]? = some y := hy
        by_cases hi : i = (m - 1).toNat
        · subst hi
          rw [List.getElem?_set_self hl] at hy
          injection hy with hy
          subst hy
          exact ⟨b1.2.1, b3, b4⟩
        · rw [List.getElem?_set_ne (fun e => hi e.symm)] at hy
          rw [b2 i hi]
          exact A.m i y hy
      · show s.Acks.getD i 0 ≤ (z8 s m x).1.Acks.getD i 0 ∧ (z8 s m x).1.Acks.getD i 0 ≤ (z8 s m x).1.Epoch ∧ _
        rw [hE]
        have hy : (s.Ms.set (m - 1).toNat (z8 s m x).2)[i]? = some y := hy
        by_cases hi : i = (m - 1).toNat
        · subst hi
          rw [List.getElem?_set_self hl] at hy
          injection hy with hy
          subst hy
          exact b1
        · rw [List.getElem?_set_ne (fun e => hi e.symm)] at hy
          show _ ∧ _ ∧ (s.Acks.getD i 0 < (z8 s m x).1.Acks.getD i 0 → _)
          rw [b2 i hi]
          exact ⟨Int.le_refl _, (A.m i y hy).1, fun e => by omega⟩
theorem zxA (p : zd) : AI 0 (uY p) := by
  refine ⟨⟨Int.le_refl _, Int.le_refl _⟩, fun i x hx => ?_⟩
  have e : (uY p).Acks.getD i 0 = 0 := by
    show (List.replicate p.Mutators.toNat (0 : Int)).getD i 0 = 0
    rw [List.getD_eq_getElem?_getD, List.getElem?_replicate]; split <;> rfl
  have hx : (p.Regs.map vj)[i]? = some x := hx
  rw [List.getElem?_map] at hx
  cases hr : p.Regs[i]? with
  | none => rw [hr] at hx; cases hx
  | some r =>
    rw [hr] at hx
    injection hx with hx
    subst hx
    rw [e]
    refine ⟨Int.le_refl _, fun e => ?_, fun e => ?_⟩
    · simp [vj] at e
    · simp [vj] at e
end
end Go.Pe.G
namespace Go.Pe.G
open Go.Pe
noncomputable section
namespace B17
def UZ (n : Nat) (s : za) : za := goF (fun _ s => Yu s) 0 n s
theorem zaK {p : zd} {nb : Nat} (h : zQ p) {s : za} (E : EOk p nb s) {n : Nat} (hn : n < 1000000) : yi s (n : Int) = some (UZ n s, ()) := by
  have e := ztx (f := uc) (fun i s => ((n : Int), i, s, 0, 0, 0, 0, 0, 0, 0, 0, 0, 0#64, 0, zq.mk 0#64 0#64, 0, 0, false, false, 0, 0, 0, 0, zp.mk 0 0, ([] : List (List Int)), ([] : List (List Int)), ([] : List (List zh)), ([] : List zj), ([] : List (List Int)), ([] : List (BitVec 64)), ([] : List (List Int)), ([] : List Int), ([] : List Int), ([] : List zg), ([] : List zc), ())) (fun s => (s, 0, 0, 0, 0, 0, 0, 0, 0, 0, 0#64, 0, zq.mk 0#64 0#64, 0, 0, false, false, 0, 0, 0, 0, zp.mk 0 0, ([] : List (List Int)), ([] : List (List Int)), ([] : List (List zh)), ([] : List zj), ([] : List (List Int)), ([] : List (BitVec 64)), ([] : List (List Int)), ([] : List Int), ([] : List Int), ([] : List zg), ([] : List zc), ())) n hn (fun _ s => Yu s) (EOk p nb) (fun _ s E => zuf h E)
    (fun i s hi E => by
      show uc ((n : Int), (i : Int), s, 0, 0, 0, 0, 0, 0, 0, 0, 0, 0#64, 0, zq.mk 0#64 0#64, 0, 0, false, false, 0, 0, 0, 0, zp.mk 0 0, ([] : List (List Int)), ([] : List (List Int)), ([] : List (List zh)), ([] : List zj), ([] : List (List Int)), ([] : List (BitVec 64)), ([] : List (List Int)), ([] : List Int), ([] : List Int), ([] : List zg), ([] : List zc), ()) = _
      rw [Ul, zn, if_pos (by omega), zmI h E, Option.bind_some, xg (by omega)])
    (fun s E => by
      show uc ((n : Int), (n : Int), s, 0, 0, 0, 0, 0, 0, 0, 0, 0, 0#64, 0, zq.mk 0#64 0#64, 0, 0, false, false, 0, 0, 0, 0, zp.mk 0 0, ([] : List (List Int)), ([] : List (List Int)), ([] : List (List zh)), ([] : List zj), ([] : List (List Int)), ([] : List (BitVec 64)), ([] : List (List Int)), ([] : List Int), ([] : List Int), ([] : List zg), ([] : List zc), ()) = _
      rw [Ul, zn, if_neg (by omega)]) E
  rw [zjq]
  exact congrArg (fun o => Option.bind o _) e
theorem zuN {p : zd} {nb : Nat} (h : zQ p) {s : za} (E : EOk p nb s) (n : Nat) : EOk p nb (UZ n s) := zqf (Inv := EOk p nb) (g := fun _ s => Yu s) (fun _ s E => zuf h E) n 0 s E
theorem zlM {s : za} (h : s.Done = true) (n : Nat) : UZ n s = s := by
  have : ∀ (n i : Nat), goF (fun _ s => Yu s) i n s = s := by
    intro n
    induction n with
    | zero => intro i; rfl
    | succ n ih =>
      intro i
      show goF _ (i + 1) n (Yu s) = s
      have e : Yu s = s := by unfold Yu; rw [if_pos h]
      rw [e]; exact ih (i + 1)
  exact this n 0
theorem zwb {A B D : Type} {f : A → Option (xi A B D)} {x : A} {b : B} (h : f x = some (.brk b)) : yy f x = some (.brk b) := by
  rw [Uc]
  show uH f (18446744073709551615 + 1) x = _
  rw [uH, h]; rfl
theorem zu7 {A B D : Type} {f : A → Option (xi A B D)} {x y : A} {b : B} (h1 : f x = some (.again y)) (h : f y = some (.brk b)) : yy f x = some (.brk b) := by
  rw [Uc]
  show uH f (18446744073709551614 + 1 + 1) x = _
  rw [uH, h1, Option.bind_some]
  dsimp only
  rw [uH, h]; rfl
def zja : zd := ⟨1, 0, 2, 1, 1, 4, 2, 2, ⟨1, [[2], [0], [0]]⟩, 1#64, [], [], []⟩
def zdq : zd := ⟨1, 0, 2, 1, 1, 4, 2, 2, ⟨1, [[2], [0], [0]]⟩, 0#64, [], [], []⟩
def zxt : zd := ⟨1, 1, 2, 1, 1, 4, 2, 2, ⟨1, [[2], [0], [0]]⟩, 1#64, [[1, 0]], [[]], []⟩
def zdp : zd := ⟨1, 1, 2, 1, 1, 4, 2, 2, ⟨1, [[2], [0], [0]]⟩, 0#64, [[0]], [[]], []⟩
theorem zv0 : Zv [] = some (zja, ()) := by
  rw [zaT, zwb (by rw [Y4]; rfl)]; rfl
theorem zvc : Zv [[]] = some (zxt, ()) := by
  rw [zaT, zu7 (by rw [Y4, zn, if_pos (by decide), wt (by decide), Option.bind_some, wP (by decide)]; simp only [Int.toNat_zero, List.getElem?_cons_zero, Option.bind_some]; rw [wt (by decide), Option.bind_some, yf (by decide) (by decide)]) (by rw [Y4, zn, if_neg (by decide)])]; rfl
theorem zjR : zQ zja := by
  constructor
  case objs => intro o ho; simp [zja] at ho ⊢; rcases ho with rfl | rfl | rfl <;> simp
  case roots => exact ⟨1, by decide, by decide, by decide⟩
  case reg => intro r hr; cases hr
  case prog => intro k r ops hr; cases hr
  all_goals first | decide | rfl
theorem zaZ : zQ zdq := by
  constructor
  case objs => intro o ho; simp [zdq] at ho ⊢; rcases ho with rfl | rfl | rfl <;> simp
  case roots => exact ⟨0, by decide, by decide, by decide⟩
  case reg => intro r hr; cases hr
  case prog => intro k r ops hr; cases hr
  all_goals first | decide | rfl
theorem uR : zQ zdp := by
  constructor
  case objs => intro o ho; simp [zdp] at ho ⊢; rcases ho with rfl | rfl | rfl <;> simp
  case roots => exact ⟨0, by decide, by decide, by decide⟩
  case reg => intro r hr; simp [zdp] at hr ⊢; subst hr; simp
  case prog =>
    intro k r ops hr ho
    have : ops = [] := by
      cases k with
      | zero => injection ho with ho; exact ho.symm
      | succ k => cases ho
    subst this
    exact ⟨by decide, fun o h => by cases h⟩
  all_goals first | decide | rfl
theorem zqP : Wm = some (true, ()) := by
  have E0 := zoq zjR
  have E1 := zoq zaZ
  have E2 := zoq uR
  have a9 : yi (uY zja) 9 = some (UZ 9 (uY zja), ()) := zaK zjR E0 (n := 9) (by decide)
  have b5 : yi (uY zdq) 5 = some (UZ 5 (uY zdq), ()) := zaK zaZ E1 (n := 5) (by decide)
  have b6 : yi (uY zdq) 6 = some (UZ 6 (uY zdq), ()) := zaK zaZ E1 (n := 6) (by decide)
  have d6 : (UZ 6 (uY zdq)).Done = true := by decide +kernel
  have F1 := zuN zaZ E1 6
  have b9 : yi (UZ 6 (uY zdq)) 3 = some (UZ 6 (uY zdq), ()) := by rw [← zlM d6 3]; rw [zlM d6 3]; exact (zaK zaZ F1 (n := 3) (by decide)).trans (by rw [zlM d6])
  have c9 : yi (uY zdp) 9 = some (UZ 9 (uY zdp), ()) := zaK uR E2 (n := 9) (by decide)
  have G0 := zuN uR E2 9
  have m1 := zbo uR G0 1
  have G1 := zhP uR G0 1
  have m2 := zbo uR G1 1
  have G2 := zhP uR G1 1
  have m3 := zbo uR G2 1
  have G3 := zhP uR G2 1
  have v4 : yi (yD (yD (yD (UZ 9 (uY zdp)) 1) 1) 1) 4 = some (UZ 4 (yD (yD (yD (UZ 9 (uY zdp)) 1) 1) 1), ()) := zaK uR G3 (n := 4) (by decide)
  have u4 : yi (UZ 9 (uY zdp)) 4 = some (UZ 4 (UZ 9 (uY zdp)), ()) := zaK uR G0 (n := 4) (by decide)
  have n1 : Yp { zja with Roots := 0#64 } = some (uY zdq, ()) := zhQ zaZ
  have n2 : Yp { zxt with Roots := 0#64, Regs := [[0]] } = some (uY zdp, ()) := zhQ uR
  rw [zgj, zv0]
  simp only [Option.bind_some, zvc, zhQ zjR, n1, n2, a9, b5, b6, b9, c9, m1, m2, m3, v4, u4, zt4 F1.small]
  decide +kernel
def zrm (s : za) (b : BitVec 8) : Int := (b.toNat : Int).tmod (1 + (s.Ws.length : Int) + (s.Ms.length : Int))
theorem zwI {p : zd} {nb : Nat} (h : zQ p) {s : za} (E : EOk p nb s) (b : BitVec 8) : UY s b = some (zhY s (zrm s b), ()) := by
  have hw := h.wk
  have hm := h.mt
  have hwl := E.wl
  have hml := E.ml
  have e1 : w64 (w64 (1 + (s.Ws.length : Int)) + (s.Ms.length : Int)) = 1 + (s.Ws.length : Int) + (s.Ms.length : Int) := by rw [yf (a := 1 + (s.Ws.length : Int)) (by omega) (by omega), yf (by omega) (by omega)]
  have ht := wU (show (0 : Int) ≤ (b.toNat : Int) by omega) (show (0 : Int) < 1 + (s.Ws.length : Int) + (s.Ms.length : Int) by omega)
  rw [zjV, e1, zn, if_neg (by omega)]
  simp only [zn]
  unfold zhY zrm
  generalize (b.toNat : Int).tmod (1 + (s.Ws.length : Int) + (s.Ms.length : Int)) = k at ht
  by_cases c0 : k = 0
  · rw [if_pos c0, if_pos c0, zmI h E]; rfl
  rw [if_neg c0, if_neg c0]
  by_cases c1 : k ≤ (s.Ws.length : Int)
  · rw [if_pos c1, if_pos c1, zs5 h E]; rfl
  · rw [if_neg c1, if_neg c1, yf (by omega) (by omega), zbo h E]; rfl
def zoC (ord : List (BitVec 8)) (i : Nat) : BitVec 8 := ord.getD (i % ord.length) 0#8 + BitVec.ofInt 8 ((i / ord.length : Nat) : Int)
theorem zwW {ord : List (BitVec 8)} (hl : ord.length ≠ 0) {i : Nat} (hi : i < 1000000) : idx ord ((i : Int).tmod (ord.length : Int)) = some (ord.getD (i % ord.length) 0#8) ∧ ord.getD (i % ord.length) 0#8 + BitVec.ofInt 8 (w64 ((i : Int).tdiv (ord.length : Int))) = zoC ord i := by
  have e1 : (i : Int).tmod (ord.length : Int) = ((i % ord.length : Nat) : Int) := by rw [Int.tmod_eq_emod_of_nonneg (by omega)]; exact (Int.natCast_emod i ord.length).symm
  have e2 : (i : Int).tdiv (ord.length : Int) = ((i / ord.length : Nat) : Int) := by rw [Int.tdiv_eq_ediv_of_nonneg (by omega)]; exact (Int.natCast_ediv i ord.length).symm
  have hm := Nat.mod_lt i (show 0 < ord.length by omega)
  have hd := Nat.div_le_self i ord.length
  refine ⟨?_, ?_⟩
  · rw [e1, wP (by omega), Int.toNat_natCast, List.getD_eq_getElem?_getD, List.getElem?_eq_getElem hm]; rfl
  · have hdi : ((i / ord.length : Nat) : Int) ≤ (i : Int) := Int.ofNat_le.2 hd
    have hdn : (0 : Int) ≤ ((i / ord.length : Nat) : Int) := Int.natCast_nonneg _
    generalize hq : ((i / ord.length : Nat) : Int) = q at hdi hdn e2 ⊢
    rw [e2, yf (by omega) (by omega)]; unfold zoC; rw [hq]
theorem zrq {p : zd} {nb : Nat} {s n : za} (E : EOk p nb s) (En : EOk p nb n) (A : zrf s n) (ord : List (BitVec 8)) (b : Bool) (i : Int) : yy yR (ord, b, i, 0, s, n, ()) = some (.brk (ord, b, i, s, n, ())) := by
  have h1 := E.ml
  have h2 := En.ml
  have h3 := E.al
  have h4 := En.al
  have hs := En.small.ms
  have := ztx (f := yR) (fun (j : Int) (_ : Unit) => (ord, b, i, j, s, n, ())) (fun _ => (ord, b, i, s, n, ())) n.Acks.length (by omega) (fun _ _ => ()) (fun _ => True) (fun _ _ _ => trivial)
    (fun j _ hj _ => by
      have x1 := List.getElem?_eq_getElem hj
      have x2 := List.getElem?_eq_getElem (show j < s.Acks.length by omega)
      have x3 := List.getElem?_eq_getElem (show j < n.Ms.length by omega)
      obtain ⟨a1, a2, a3⟩ := A j _ x3
      have g1 : n.Acks.getD j 0 = n.Acks[j] := by rw [List.getD_eq_getElem?_getD, x1]; rfl
      have g2 : s.Acks.getD j 0 = s.Acks[j]'(by omega) := by rw [List.getD_eq_getElem?_getD, x2]; rfl
      rw [g1, g2] at a1 a3
      rw [g1] at a2
      show yR (ord, b, i, (j : Int), s, n, ()) = some (.again (ord, b, i, ((j + 1 : Nat) : Int), s, n, ()))
      rw [Yr, zn, if_pos (by omega), xY x1, Option.bind_some, xY x2, Option.bind_some, zn, if_neg (by omega), Option.bind_some, zn, if_neg (by omega), Option.bind_some, Option.bind_some, zn, xg (by omega)]
      by_cases c : s.Acks[j]'(by omega) < n.Acks[j]
      · rw [if_pos c, xY x3, Option.bind_some, a3 c]; rfl
      · rw [if_neg c])
    (fun _ _ => by
      show yR (ord, b, i, ((n.Acks.length : Nat) : Int), s, n, ()) = _
      rw [Yr, zn, if_neg (by omega)]) (s := ()) trivial
  exact this
theorem detectAnswers_plain (l ord : List (BitVec 8)) : wN l ord = some (true, ()) := by
  obtain ⟨p, ep, h⟩ := zwA l
  have E0 := zoq h
  rw [zcf, zqP]
  simp only [Option.bind_some, Bool.not_true, cond_false, ep, zhQ h]
  obtain ⟨o, e, rfl⟩ := uG (f := uT) (fun a => ∃ (i : Nat) (s : za), i ≤ 800 ∧ a = (ord, true, (i : Int), s, ()) ∧ EOk p (xJ p + 1) s ∧ AI (i : Int) s) (fun a => 800 - a.2.2.1.toNat)
    (fun o => o = .brk (true, ())) (by
    rintro _ ⟨i, s, hi, rfl, E, A⟩
    rw [zaN, zn]
    by_cases c1 : (i : Int) < 800
    rotate_left
    · rw [if_neg c1]; exact ⟨_, rfl, rfl⟩
    rw [if_pos c1]
    cases hd : s.Done with
    | true => exact ⟨_, rfl, rfl⟩
    | false =>
      rw [Bool.not_false, cond_true, zn]
      by_cases c2 : 0 < (ord.length : Int)
      rotate_left
      · rw [if_neg c2]; exact ⟨_, rfl, rfl⟩
      obtain ⟨b1, b2⟩ := zwW (ord := ord) (by omega) (i := i) (by omega)
      obtain ⟨A', T⟩ := zwX h E (k := (i : Int)) (by omega) A (zrm s (zoC ord i))
      have E' := zw1 h E (zrm s (zoC ord i))
      have h1 := E.ml
      have h2 := E'.ml
      have h3 := E.al
      have h4 := E'.al
      rw [if_pos c2, zn, if_neg (by omega), b1, Option.bind_some, zn, if_neg (by omega), b2, zwI h E, Option.bind_some, z5, if_pos (by dsimp only; omega), z5, if_pos (by dsimp only; omega)]
      refine ⟨.again (ord, true, ((i + 1 : Nat) : Int), zhY s (zrm s (zoC ord i)), ()), ?_, ⟨i + 1, _, by omega, rfl, E', by rw [show ((i + 1 : Nat) : Int) = (i : Int) + 1 by omega]; exact A'⟩, ?_⟩
      · refine (congrArg (fun o => Option.bind o _) (zrq E E' T ord true (i : Int))).trans ?_
        rw [Option.bind_some]
        dsimp only
        rw [xg (by omega)]
      · show 800 - ((i + 1 : Nat) : Int).toNat < 800 - (i : Int).toNat
        omega) (ord, true, 0, uY p, ()) ⟨0, uY p, by omega, rfl, E0, zxA p⟩ (by show 800 - 0 < 18446744073709551616; decide)
  exact congrArg (fun o => Option.bind o _) e
end B17
end
end Go.Pe.G
