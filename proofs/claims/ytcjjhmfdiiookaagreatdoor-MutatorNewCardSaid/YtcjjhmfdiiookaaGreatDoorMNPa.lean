/- Own work of this seat: PA, PB, PMk, PMade16, PRight, PNew, PInv, PNewOk, PSmall, PSame, PGo, PDq, PWork, PMut, PEng, PLowEq, PMutEq, PFrame, PText, PBits, PCnt, PFirst, PHp, PNewI, PLaw16. -/
import Derived.Test.YtcjjhmfdiiookaaGreatDoorMNGb
set_option linter.unusedVariables false
set_option linter.unusedSimpArgs false
set_option linter.unnecessarySimpa false
set_option linter.unusedSectionVars false
set_option linter.deprecated false
set_option maxRecDepth 20000
namespace Go.Pe.G
open Go.Pe
noncomputable section
theorem vZ {A B D : Type} {f : A → Option (yN A B D)} (Inv : A → Prop) (ms : A → Nat) (Q : yN Unit B D → Prop)
    (h : ∀ a, Inv a → ∃ o, f a = some o ∧ match o with
      | .again a' => Inv a' ∧ ms a' < ms a
      | .brk b => Q (.brk b)
      | .ret c => Q (.ret c)) : ∀ a, Inv a → ms a < YC → ∃ o, yp f a = some o ∧ Q o := by
  have key : ∀ (n : Nat) a, Inv a → ms a < n → ∃ o, ut f n a = some o ∧ Q o := by
    intro n
    induction n with
    | zero => intro a _ h; omega
    | succ n ih =>
      intro a ha hm
      obtain ⟨o, ho, hq⟩ := h a ha
      simp only [ut, ho, Option.bind_some]
      cases o with
      | again a' => exact ih a' hq.1 (by have := hq.2; omega)
      | brk b => exact ⟨_, rfl, hq⟩
      | ret c => exact ⟨_, rfl, hq⟩
  intro a ha hm
  rw [VK]
  exact key YC a ha hm
theorem wz {n : Nat} (h : n < 18446744073709551616) : n < YC := h
theorem z9 {a : Int} (h : -9223372036854775808 ≤ a) (h2 : a < 9223372036854775808) : w64 a = a := by
  rw [zir]; omega
def wc (n : Int) : Int := (n + 9223372036854775808) % 18446744073709551616 - 9223372036854775808
theorem xu : w64 = wc := funext zir
theorem vV {a : Int} (h : -9223372036854775808 ≤ a) (h2 : a < 9223372036854775808) : wc a = a := by unfold wc; omega
theorem zxA (a : Int) (h : -9223372036854775808 ≤ a) (h2 : a < 9223372036854775808) : w64 (w64 (a + 1) - 1) = a := by
  simp only [zir]; omega
theorem zm {α : Type} (p : Prop) [Decidable p] (a b : α) : (bif decide p then a else b) = if p then a else b := by
  by_cases h : p <;> simp [h]
theorem yg {α : Type} (p : Prop) [Decidable p] (a b : α) : (bif !(decide p) then a else b) = if p then b else a := by
  by_cases h : p <;> simp [h]
theorem wu {α : Type} {l : List α} (h : l.length < 4294967296) : wj l = some l := by
  rw [zro]; simp [h]
theorem vQ {α : Type} {l : List α} {i : Int} (h : 0 ≤ i) : idx l i = l[i.toNat]? := by
  unfold idx; simp [h]
theorem Zd {α : Type} {l : List α} {i : Int} (h : 0 ≤ i) (h2 : i < l.length) : xT l i = some i.toNat := by
  unfold xT; simp [h, h2]
def bit (o : Int) : BitVec 64 := if 1 ≤ o ∧ o ≤ 64 then 1#64 <<< (o - 1).toNat else 0#64
theorem zsX (a : Int) : zhl a = some (bit a, ()) := by
  rw [zru]
  simp only [zm]
  unfold bit
  by_cases h1 : a < 1
  · rw [if_pos h1, if_neg (by omega)]
  · rw [if_neg h1]
    by_cases h2 : 64 < a
    · rw [if_pos h2, if_neg (by omega)]
    · rw [if_neg h2, z9 (a := a - 1) (by omega) (by omega), if_neg (show ¬ a - 1 < 0 by omega), if_pos (show 1 ≤ a ∧ a ≤ 64 by omega), Nat.min_eq_left (by omega)]
theorem zpk (s : BitVec 64) (o : Int) : zdh s o = some (!(decide (s &&& bit o = 0#64)), ()) := by
  rw [zr7, zsX]; rfl
theorem zlo (s : BitVec 64) (o : Int) : zaE s o = some (s ||| bit o, ()) := by
  rw [zrx, zsX]; rfl
def YJ (t : zp) (o : Int) : zp × Bool :=
  if t.Marks ||| bit o = t.Marks then (t, false) else if t.Black &&& bit o = 0#64 then ({ t with Marks := t.Marks ||| bit o }, true) else (t, false)
theorem znl (t : zp) (o : Int) : zbf t o = some ((YJ t o).1, (YJ t o).2, ()) := by
  rw [zop, zlo, Option.bind_some, zm]
  unfold YJ
  by_cases h1 : t.Marks ||| bit o = t.Marks
  · rw [if_pos h1, if_pos h1]
  · rw [if_neg h1, if_neg h1, zpk, Option.bind_some, yg]
    by_cases h2 : t.Black &&& bit o = 0#64
    · rw [if_pos h2, if_pos h2]
    · rw [if_neg h2, if_neg h2]
theorem zpI {m : List (BitVec 64)} (h : m.length < 4294967296) : xf m = some (m, ()) := by
  rw [zak, List.nil_append, wu h, Option.bind_some]
  cases m with
  | nil => simp [zht]
  | cons a l => simp
theorem zjc {m : List (List Int)} (h : m.length < 4294967296) : wV m = some (m, ()) := by
  rw [zb2, List.nil_append, wu h, Option.bind_some]
  cases m with
  | nil => simp [zht]
  | cons a l => simp
def ld (m : List (BitVec 64)) (a : Int) : BitVec 64 := if 0 ≤ a then m.getD a.toNat 0#64 else 0#64
def st (m : List (BitVec 64)) (a : Int) (v : BitVec 64) : List (BitVec 64) := if 0 ≤ a then m.set a.toNat v else m
def sw (m : List (BitVec 64)) (at_ : Int) (a b : BitVec 64) : List (BitVec 64) × Bool :=
  if 0 ≤ at_ ∧ at_ < m.length ∧ ld m at_ = a then (st m at_ b, true) else (m, false)
theorem zrq {m : List (BitVec 64)} {a : Int} (h : 0 ≤ a) (h2 : a < m.length) : m[a.toNat]? = some (ld m a) := by
  unfold ld
  rw [if_pos h, List.getD_eq_getElem?_getD, List.getElem?_eq_getElem (by omega)]; rfl
theorem zs5 {m : List (BitVec 64)} {a : Int} : st m a (ld m a) = m := by
  unfold st ld
  by_cases h : 0 ≤ a
  · rw [if_pos h, if_pos h]
    by_cases h2 : a.toNat < m.length
    · rw [List.getD_eq_getElem?_getD, List.getElem?_eq_getElem h2]; simp
    · rw [List.set_eq_of_length_le (by omega)]
  · rw [if_neg h]
theorem zuo {m : List (BitVec 64)} {a : Int} (h : a < 0 ∨ m.length ≤ a) : ld m a = 0#64 := by
  unfold ld
  rcases h with h | h
  · rw [if_neg (by omega)]
  · split
    · rw [List.getD_eq_getElem?_getD, List.getElem?_eq_none (by omega)]; rfl
    · rfl
theorem zuS {m : List (BitVec 64)} {a : Int} {v : BitVec 64} (h : a < 0 ∨ m.length ≤ a) : st m a v = m := by
  unfold st
  rcases h with h | h
  · rw [if_neg (by omega)]
  · split
    · rw [List.set_eq_of_length_le (by omega)]
    · rfl
theorem zsQ (m : List (BitVec 64)) (a : Int) (x y : BitVec 64) : ∃ b, YG m ⟨1, a, x, y⟩ = some (m, ld m a, b, ()) := by
  rw [zh9]
  simp only [zm, if_true]
  by_cases h1 : a < 0
  · rw [if_pos h1, zuo (.inl h1)]; exact ⟨_, rfl⟩
  · rw [if_neg h1]
    by_cases h2 : (m.length : Int) ≤ a
    · rw [if_pos h2, zuo (.inr h2)]; exact ⟨_, rfl⟩
    · rw [if_neg h2, vQ (by omega), zrq (by omega) (by omega), Option.bind_some, zqr, Option.bind_some]
      simp
theorem zqM {m : List (BitVec 64)} (hm : m.length < 4294967296) (a : Int) (x y : BitVec 64) : ∃ v b, YG m ⟨2, a, x, y⟩ = some (st m a x, v, b, ()) := by
  rw [zh9]
  simp only [zm, if_true, if_neg (show ¬ (2 : Int) = 1 by omega)]
  by_cases h1 : a < 0
  · rw [if_pos h1, zuS (.inl h1)]; exact ⟨_, _, rfl⟩
  · rw [if_neg h1]
    by_cases h2 : (m.length : Int) ≤ a
    · rw [if_pos h2, zuS (.inr h2)]; exact ⟨_, _, rfl⟩
    · rw [if_neg h2, vQ (by omega), zrq (by omega) (by omega), Option.bind_some, zqq, Option.bind_some, cond_true, yg]
      by_cases h3 : ld m a = x
      · rw [if_pos h3]
        subst h3
        rw [zs5]; exact ⟨_, _, rfl⟩
      · rw [if_neg h3, zpI hm, Option.bind_some, Zd (l := m) (by omega) (by omega), Option.bind_some]
        unfold st
        rw [if_pos (by omega)]
        exact ⟨_, _, rfl⟩
theorem zou {m : List (BitVec 64)} (hm : m.length < 4294967296) (a : Int) (x y : BitVec 64) : ∃ v, YG m ⟨3, a, x, y⟩ = some ((sw m a x y).1, v, (sw m a x y).2, ()) := by
  rw [zh9]
  simp only [zm, if_true, if_neg (show ¬ (3 : Int) = 1 by omega), if_neg (show ¬ (3 : Int) = 2 by omega)]
  by_cases h1 : a < 0
  · rw [if_pos h1]
    have : sw m a x y = (m, false) := by unfold sw; rw [if_neg (by omega)]
    rw [this]; exact ⟨_, rfl⟩
  · rw [if_neg h1]
    by_cases h2 : (m.length : Int) ≤ a
    · rw [if_pos h2]
      have : sw m a x y = (m, false) := by unfold sw; rw [if_neg (by omega)]
      rw [this]; exact ⟨_, rfl⟩
    · rw [if_neg h2, vQ (by omega), zrq (by omega) (by omega), Option.bind_some, zp9, Option.bind_some]
      simp only [zm]
      by_cases h3 : ld m a = x
      · have : sw m a x y = (st m a y, true) := by unfold sw; rw [if_pos ⟨by omega, by omega, h3⟩]
        rw [if_pos h3, this, yg]
        by_cases h4 : ld m a = y
        · rw [if_pos h4]
          have : st m a y = m := by rw [← h4, zs5]
          rw [this]
          simp [h3]
        · rw [if_neg h4, zpI hm, Option.bind_some, Zd (l := m) (by omega) (by omega), Option.bind_some]
          unfold st
          rw [if_pos (by omega)]
          simp [h3]
      · have : sw m a x y = (m, false) := by unfold sw; rw [if_neg (by rintro ⟨_, _, h⟩; exact h3 h)]
        rw [if_neg h3, this]
        simp [h3]
theorem znc (m : List (BitVec 64)) (a : Int) : zaP m a = some (ld m a, ()) := by
  obtain ⟨b, h⟩ := zsQ m a 0#64 0#64
  rw [zoq, h]; rfl
theorem UI {m : List (BitVec 64)} (hm : m.length < 4294967296) (a : Int) (x : BitVec 64) : ZD m a x = some (st m a x, ()) := by
  obtain ⟨v, b, h⟩ := zqM hm a x 0#64
  rw [zmp, h]; rfl
theorem Xn (m : List (BitVec 64)) (a : Int) : uF m a = some (ld m a, ()) := by
  obtain ⟨b, h⟩ := zsQ m a 0#64 0#64
  rw [znb, h]; rfl
theorem UB {m : List (BitVec 64)} (hm : m.length < 4294967296) (a : Int) (x : BitVec 64) : ZC m a x = some (st m a x, ()) := by
  obtain ⟨v, b, h⟩ := zqM hm a x 0#64
  rw [zmd, h]; rfl
def yT (h : BitVec 64) : Int := (h &&& 4294967295#64).toInt
def Wh (v : BitVec 64) (n : Int) : BitVec 64 := (v <<< 32) ||| (BitVec.ofInt 64 n &&& 4294967295#64)
theorem ze1 (h : BitVec 64) : Yp h = some (yT h, ()) := znq h
theorem zeF (v : BitVec 64) (n : Int) : Wo v n = some (Wh v n, ()) := znW v n
def zW (m : List (BitVec 64)) (c : zA) : List (BitVec 64) × zA :=
  if c.Out ≠ 0 ∨ (c.Kind ≠ 1 ∧ c.Kind ≠ 2) ∨ c.PC < 0 ∨ 3 ≤ c.PC then (m, c)
  else if c.PC = 0 then
    (m, if c.Kind = 2 ∧ yT (ld m c.Head) = 0 then { c with H := ld m c.Head, Out := 2, PC := 1 } else { c with H := ld m c.Head, PC := 1 })
  else if c.PC = 1 then
    if c.Kind = 2 then (m, { c with Y := (ld m (wc (c.Next + yT c.H))).toInt, PC := 2 })
    else (st m (wc (c.Next + c.X)) (BitVec.ofInt 64 (yT c.H)), { c with PC := 2 })
  else
    let r := sw m c.Head c.H (Wh ((c.H >>> 32) + 1#64) (if c.Kind = 2 then c.Y else c.X))
    (r.1, if r.2 then (if c.Kind = 2 then { c with X := yT c.H, Out := 1, PC := 3 } else { c with Out := 1, PC := 3 }) else { c with PC := 0 })
theorem ze7 {m : List (BitVec 64)} (hm : m.length < 4294967296) (c : zA) : Wt m c = some ((zW m c).1, (zW m c).2, ()) := by
  have hsee : wO m c = some (m, (if c.Kind = 2 ∧ yT (ld m c.Head) = 0 then { c with H := ld m c.Head, Out := 2 } else { c with H := ld m c.Head }), ()) := by
    rw [zeX, znc, Option.bind_some, ze1, Option.bind_some, zm, zm]
    by_cases h1 : c.Kind = 2
    · by_cases h2 : yT (ld m c.Head) = 0
      · rw [if_pos h1, if_pos h2, if_pos ⟨h1, h2⟩]
      · rw [if_pos h1, if_neg h2, if_neg (fun h => h2 h.2)]
    · rw [if_neg h1, if_neg (fun h => h1 h.1)]
  have hlink : ZU m c = some (st m (wc (c.Next + c.X)) (BitVec.ofInt 64 (yT c.H)), ()) := by
    rw [zgL, xu, ze1, Option.bind_some, UI hm]; rfl
  have hbeh : um m c = some (m, { c with Y := (ld m (wc (c.Next + yT c.H))).toInt }, ()) := by
    rw [zca, xu, ze1, Option.bind_some, znc]; rfl
  have hswap : wx m c = some ((sw m c.Head c.H (Wh ((c.H >>> 32) + 1#64) (if c.Kind = 2 then c.Y else c.X))).1,
      (if (sw m c.Head c.H (Wh ((c.H >>> 32) + 1#64) (if c.Kind = 2 then c.Y else c.X))).2 then (if c.Kind = 2 then { c with X := yT c.H, Out := 1 } else { c with Out := 1 }) else { c with PC := -1 }), ()) := by
    rw [zea, zm]
    by_cases h1 : c.Kind = 2
    · rw [if_pos h1, zeF, Option.bind_some]
      obtain ⟨v, hv⟩ := zou hm c.Head c.H (Wh ((c.H >>> 32) + 1#64) c.Y)
      simp only [if_pos h1]
      rw [hv, Option.bind_some]
      cases hs : (sw m c.Head c.H (Wh ((c.H >>> 32) + 1#64) c.Y)).2 with
      | true => simp [hs, h1, ze1]
      | false => simp [hs]
    · rw [if_neg h1, zeF, Option.bind_some]
      obtain ⟨v, hv⟩ := zou hm c.Head c.H (Wh ((c.H >>> 32) + 1#64) c.X)
      simp only [if_neg h1]
      rw [hv, Option.bind_some]
      cases hs : (sw m c.Head c.H (Wh ((c.H >>> 32) + 1#64) c.X)).2 with
      | true => simp [hs, h1]
      | false => simp [hs]
  rw [zoa, hsee, hlink, hbeh, hswap]
  simp only [zm, yg, Option.bind_some]
  unfold zW
  by_cases h0 : c.Out = 0
  · by_cases hp0 : c.PC < 0
    · have : (c.Out ≠ 0 ∨ (c.Kind ≠ 1 ∧ c.Kind ≠ 2) ∨ c.PC < 0 ∨ 3 ≤ c.PC) := .inr (.inr (.inl hp0))
      rw [if_pos this]
      simp [h0, hp0]
    · by_cases hp3 : 3 ≤ c.PC
      · have : (c.Out ≠ 0 ∨ (c.Kind ≠ 1 ∧ c.Kind ≠ 2) ∨ c.PC < 0 ∨ 3 ≤ c.PC) := .inr (.inr (.inr hp3))
        rw [if_pos this]
        simp [h0, hp3]
      · by_cases hk : c.Kind = 1 ∨ c.Kind = 2
        · have : ¬ (c.Out ≠ 0 ∨ (c.Kind ≠ 1 ∧ c.Kind ≠ 2) ∨ c.PC < 0 ∨ 3 ≤ c.PC) := by
            rintro (h | h | h | h)
            · exact h h0
            · omega
            · exact hp0 h
            · exact hp3 h
          rw [if_neg this]
          have hpc : c.PC = 0 ∨ c.PC = 1 ∨ c.PC = 2 := by omega
          have w1 : w64 1 = 1 := z9 (by omega) (by omega)
          have w2 : w64 2 = 2 := z9 (by omega) (by omega)
          have w3 : w64 3 = 3 := z9 (by omega) (by omega)
          have w4 : w64 0 = 0 := z9 (by omega) (by omega)
          rcases hk with hk | hk <;> rcases hpc with hpc | hpc | hpc <;> simp [h0, hk, hpc, w1, w2, w3, w4] <;> (try split) <;> simp [hpc, w1, w3, w4]
        · have : (c.Out ≠ 0 ∨ (c.Kind ≠ 1 ∧ c.Kind ≠ 2) ∨ c.PC < 0 ∨ 3 ≤ c.PC) := .inr (.inl (by omega))
          rw [if_pos this]
          have k1 : ¬ c.Kind = 1 := by omega
          have k2 : ¬ c.Kind = 2 := by omega
          simp [h0, k1, k2]
  · have : (c.Out ≠ 0 ∨ (c.Kind ≠ 1 ∧ c.Kind ≠ 2) ∨ c.PC < 0 ∨ 3 ≤ c.PC) := .inl h0
    rw [if_pos this]
    simp [h0]
end
end Go.Pe.G
namespace Go.Pe.G
open Go.Pe
noncomputable section
def Ud (d : zi) : BitVec 64 := BitVec.ofInt 64 (if d.Cap < 1 then 1 else d.Cap)
def zbc (d : zi) (i : BitVec 64) : Int := wc (wc (d.Base + 2) + (i % Ud d).toInt)
def u0 (m : List (BitVec 64)) (d : zi) : List (BitVec 64) × zi :=
  if d.Out ≠ 0 ∨ d.PC < 0 ∨ 4 ≤ d.PC then (m, d)
  else if d.PC = 0 then (m, { d with B := ld m (wc (d.Base + 1)), PC := 1 })
  else if d.PC = 1 then (m, if Ud d ≤ d.B - ld m d.Base then { d with T := ld m d.Base, Out := 3, PC := 2 } else { d with T := ld m d.Base, PC := 2 })
  else if d.PC = 2 then (st m (zbc d d.B) (BitVec.ofInt 64 d.X), { d with PC := 3 })
  else (st m (wc (d.Base + 1)) (d.B + 1#64), { d with Out := 1, PC := 4 })
theorem zrX : w64 0 = 0 ∧ w64 1 = 1 ∧ w64 2 = 2 ∧ w64 3 = 3 ∧ w64 4 = 4 := by
  refine ⟨?_, ?_, ?_, ?_, ?_⟩ <;> exact z9 (by omega) (by omega)
theorem zuV {d : zi} (h : d.Cap < 1000) : Ud d ≠ 0#64 := by
  unfold Ud
  intro e
  have := congrArg BitVec.toNat e
  rw [BitVec.toNat_ofInt] at this
  split at this <;> simp at this <;> omega
theorem zoo (d : zi) : ZY d = some (Ud d, ()) := by
  rw [zgG]; unfold Ud; rw [zm]
theorem zhB {d : zi} (h : d.Cap < 1000) (i : BitVec 64) : ud i d = some (zbc d i, ()) := by
  rw [zfT, xu, zoo, Option.bind_some, zm, if_neg (zuV h)]; rfl
theorem zg9 {m : List (BitVec 64)} (hm : m.length < 4294967296) {d : zi} (hk : d.Kind = 1) (hc : d.Cap < 1000) : zbu m d = some ((u0 m d).1, (u0 m d).2, ()) := by
  obtain ⟨w0, w1, w2, w3, w4⟩ := zrX
  have h0 : wv m d = some (m, { d with B := ld m (wc (d.Base + 1)) }, ()) := by
    rw [YO, xl, xu, Option.bind_some, Xn]; rfl
  have h1 : YS m d = some (m, (if Ud d ≤ d.B - ld m d.Base then { d with T := ld m d.Base, Out := 3 } else { d with T := ld m d.Base }), ()) := by
    rw [zd2, Zi, Option.bind_some, Xn, Option.bind_some, zoo, Option.bind_some, zm]
    have e : Ud { d with T := ld m d.Base } = Ud d := rfl
    simp only [e]
    by_cases h : Ud d ≤ d.B - ld m d.Base
    · rw [if_pos h, if_pos h, xZ]
      simp [hk]
    · rw [if_neg h, if_neg h]
  have h2 : Vn m d = some (st m (zbc d d.B) (BitVec.ofInt 64 d.X), ()) := by
    rw [zhJ, zhB hc, Option.bind_some, UB hm]; rfl
  have h3 : ZH m d = some (st m (wc (d.Base + 1)) (d.B + 1#64), { d with Out := 1 }, ()) := by
    rw [zbJ, xZ]
    simp only [decide_true, Bool.not_true, cond_false, Option.bind_some, xl, xu]
    rw [UB hm]; rfl
  rw [zhi, h0, h1, h2, h3, zeh]
  simp only [hk, decide_true, cond_true, Option.bind_some, yg, zm]
  have key : ∀ (x : Option (List (BitVec 64) × zi × Unit)) (v : List (BitVec 64) × zi × Unit) (y : Option (List (BitVec 64) × zi × Unit)), x = some v → Option.or x y = some v := by
    rintro _ v y rfl; rfl
  apply key
  unfold u0
  by_cases g0 : d.Out = 0
  · by_cases g1 : d.PC < 0
    · simp [g0, g1]
    · by_cases g2 : 4 ≤ d.PC
      · simp [g0, g2]
      · have hpc : d.PC = 0 ∨ d.PC = 1 ∨ d.PC = 2 ∨ d.PC = 3 := by omega
        rcases hpc with h | h | h | h <;> simp [g0, h, hk, w1, w2, w3, w4] <;> (try split) <;> simp [h, hk, w2]
  · simp [g0]
def vl (p : zd) : Int := wc (p.Workers * wc (p.Cap + 2))
def yP (p : zd) : Int := wc (vl p + 1)
def ZO (p : zd) (w : Int) : Int := wc (wc (w - 1) * wc (p.Cap + 2))
theorem zfc (p : zd) : X3 p = some (vl p, ()) := by rw [zni, xu]; rfl
theorem zcY (p : zd) : Y5 p = some (yP p, ()) := by rw [zmV, xu, zfc]; rfl
theorem ze3 (p : zd) : Yj p = some (yP p, ()) := by rw [znh, zcY]; rfl
theorem zmc (p : zd) (w : Int) : U7 p w = some (ZO p w, ()) := by rw [zmL, xu]; rfl
def zpm (p : zd) (g : zC) : zC := { g with PC := 5, C := ⟨2, 0, yP p, yP p, 0#64, 0, 0, 0⟩ }
theorem zi7 (a : zw) : wY a = some (⟨zpm a.s.P a.Grey, a.s⟩, ()) := by
  rw [zf4, zcY, Option.bind_some, ze3, Option.bind_some, zaf]; rfl
def znw (s : zb) (g : zC) : zb × zC :=
  let t := YJ s.T g.Obj
  ({ s with T := t.1 },
    if t.2 = false then { g with PC := 2 }
    else if g.Mode = 1 then { g with PC := 3, D := ⟨1, 0, ZO s.P g.Who, s.P.Cap, 0#64, 0#64, g.Obj, 0⟩ }
    else if g.Mode = 2 then { g with PC := 4 }
    else zpm s.P g)
def zlw (s : zb) (g : zC) : zb × zC :=
  let r := u0 s.M g.D
  ({ s with M := r.1 }, if r.2.Out = 1 then { g with D := r.2, Out := 1 } else if r.2.Out = 3 then zpm s.P { g with D := r.2 } else { g with D := r.2 })
def zlv (s : zb) (g : zC) : zb × zC :=
  let r := zW s.M g.C
  ({ s with M := r.1 }, if r.2.Out = 1 then { g with PC := 6, C := r.2, Bin := r.2.X } else if r.2.Out = 2 then zpm s.P { g with C := r.2 } else { g with C := r.2 })
def zwh (s : zb) (g : zC) : zb × zC :=
  ({ s with Bins := s.Bins.set g.Bin.toNat [g.Obj] }, { g with PC := 7, C := ⟨1, 0, vl s.P, yP s.P, 0#64, g.Bin, 0, 0⟩ })
def zfx (s : zb) (g : zC) : zb × zC :=
  let r := zW s.M g.C
  ({ s with M := r.1 }, if r.2.Out = 1 then { g with C := r.2, Out := 1 } else { g with C := r.2 })
def zD (s : zb) (g : zC) : zb × zC :=
  if g.Out ≠ 0 ∨ g.Mode < 1 ∨ 3 < g.Mode ∨ g.PC < 0 ∨ 8 ≤ g.PC then (s, g)
  else if g.PC = 7 then zfx s g
  else if g.PC = 6 then zwh s g
  else if g.PC = 5 then zlv s g
  else if g.PC = 4 then ({ s with Flag := true }, zpm s.P g)
  else if g.PC = 3 then zlw s g
  else if g.PC = 2 then ({ s with Work := wc (s.Work - 1) }, { g with Out := 1 })
  else if g.PC = 1 then znw s g
  else ({ s with Work := wc (s.Work + 1) }, { g with PC := 1 })
structure GOk (s : zb) (g : zC) : Prop where
  mem : s.M.length < 4294967296
  bins : s.Bins.length < 4294967296
  bin : g.PC = 6 → 0 ≤ g.Bin ∧ g.Bin < s.Bins.length
  deq : g.PC = 3 → g.D.Kind = 1 ∧ g.D.Cap < 1000
theorem zu7 {s : zb} {g : zC} (ok : GOk s g) : zhW s g = some ((zD s g).1, (zD s g).2, ()) := by
  rw [zo0]
  simp only [zm, yg]
  unfold zD
  by_cases h0 : g.Out = 0
  rotate_left
  · rw [if_neg h0, if_pos (.inl h0)]
  rw [if_pos h0]
  by_cases h1 : g.Mode < 1
  · rw [if_pos h1, if_pos (.inr (.inl h1))]
  rw [if_neg h1]
  by_cases h2 : 3 < g.Mode
  · rw [if_pos h2, if_pos (.inr (.inr (.inl h2)))]
  rw [if_neg h2]
  by_cases h3 : g.PC < 0
  · rw [if_pos h3, if_pos (.inr (.inr (.inr (.inl h3))))]
  rw [if_neg h3]
  by_cases h4 : 8 ≤ g.PC
  · rw [if_pos h4, if_pos (.inr (.inr (.inr (.inr h4))))]
  rw [if_neg h4, if_neg (show ¬ (g.Out ≠ 0 ∨ g.Mode < 1 ∨ 3 < g.Mode ∨ g.PC < 0 ∨ 8 ≤ g.PC) by omega)]
  by_cases p7 : g.PC = 7
  · rw [if_pos p7, if_pos p7, zcc]
    simp only [ze7 ok.mem, Option.bind_some, zm]
    by_cases e : (zW s.M g.C).2.Out = 1 <;> simp [zfx, e]
  rw [if_neg p7, if_neg p7]
  by_cases p6 : g.PC = 6
  · rw [if_pos p6, if_pos p6, zeV]
    obtain ⟨b1, b2⟩ := ok.bin p6
    simp only [zjc ok.bins, Option.bind_some, Zd (l := s.Bins) b1 b2, zfc, ze3, zaf]
    rfl
  rw [if_neg p6, if_neg p6]
  by_cases p5 : g.PC = 5
  · rw [if_pos p5, if_pos p5, ze4]
    simp only [ze7 ok.mem, Option.bind_some, zm, zi7]
    by_cases e : (zW s.M g.C).2.Out = 1
    · simp [zlv, e]
    · by_cases e2 : (zW s.M g.C).2.Out = 2 <;> simp [zlv, e, e2]
  rw [if_neg p5, if_neg p5]
  by_cases p4 : g.PC = 4
  · rw [if_pos p4, if_pos p4, zeJ, zi7]; rfl
  rw [if_neg p4, if_neg p4]
  by_cases p3 : g.PC = 3
  · rw [if_pos p3, if_pos p3, zes]
    obtain ⟨b1, b2⟩ := ok.deq p3
    simp only [zg9 ok.mem b1 b2, Option.bind_some, zm, zi7]
    by_cases e : (u0 s.M g.D).2.Out = 1
    · simp [zlw, e]
    · by_cases e2 : (u0 s.M g.D).2.Out = 3 <;> simp [zlw, e, e2]
  rw [if_neg p3, if_neg p3]
  by_cases p2 : g.PC = 2
  · rw [if_pos p2, if_pos p2, ze8, xu]; rfl
  rw [if_neg p2, if_neg p2]
  by_cases p1 : g.PC = 1
  · rw [if_pos p1, if_pos p1, ze5]
    simp only [znl, Option.bind_some, zm, zi7, zmc, zfn]
    unfold znw
    cases hs : (YJ s.T g.Obj).2 with
    | false => simp [hs]
    | true =>
      by_cases m1 : g.Mode = 1
      · simp [hs, m1]
      · by_cases m2 : g.Mode = 2 <;> simp [hs, m1, m2]
  rw [if_neg p1, if_neg p1, if_pos (show g.PC = 0 by omega), zcI, xu]; rfl
end
end Go.Pe.G
namespace Go.Pe.G
open Go.Pe
noncomputable section
theorem wM {b k : Int} (h : 0 ≤ b) (hk : 0 < k) : 0 ≤ b.tmod k ∧ b.tmod k < k := by
  rw [Int.tmod_eq_emod_of_nonneg h]; exact ⟨Int.emod_nonneg _ (by omega), Int.emod_lt_of_pos _ hk⟩
def za1 (o : zg) (regs slots : Int) : Prop := (0 ≤ o.R ∧ o.R < regs) ∧
  ((o.Kind = 1 ∨ o.Kind = 2) ∧ (0 ≤ o.A ∧ o.A < regs) ∧ (0 ≤ o.S ∧ o.S < slots) ∨ o.Kind = 4 ∧ (0 ≤ o.A ∧ o.A < regs) ∧ o.S = 0 ∨ (o.Kind = 3 ∨ o.Kind = 5) ∧ o.A = 0 ∧ o.S = 0)
structure zO (p : zd) : Prop where
  wk : 1 ≤ p.Workers ∧ p.Workers ≤ 3
  mt : 0 ≤ p.Mutators ∧ p.Mutators ≤ 2
  cap : 1 ≤ p.Cap ∧ p.Cap ≤ 3
  buf : 1 ≤ p.Buf ∧ p.Buf ≤ 2
  bin : 1 ≤ p.Bin ∧ p.Bin ≤ 3
  price : 0 ≤ p.Price ∧ p.Price ≤ 3
  limit : 0 ≤ p.Limit ∧ p.Limit ≤ 3
  slots : 1 ≤ p.H.Slots ∧ p.H.Slots ≤ 2
  n : 1 ≤ (p.H.Objs.length : Int) ∧ (p.H.Objs.length : Int) ≤ 6
  objs : ∀ o ∈ p.H.Objs, (o.length : Int) = p.H.Slots ∧ ∀ v ∈ o, 0 ≤ v ∧ v ≤ (p.H.Objs.length : Int)
  most : (p.H.Objs.length : Int) ≤ p.Most ∧ p.Most ≤ (p.H.Objs.length : Int) + 3
  roots : ∃ r, 0 ≤ r ∧ r ≤ (p.H.Objs.length : Int) ∧ p.Roots = bit r
  regs : (p.Regs.length : Int) = p.Mutators
  progs : (p.Progs.length : Int) = p.Mutators
  reg : ∀ r ∈ p.Regs, (1 ≤ (r.length : Int) ∧ (r.length : Int) ≤ 3) ∧ ∀ v ∈ r, 0 ≤ v ∧ v ≤ (p.H.Objs.length : Int)
  prog : ∀ (k : Nat) r ops, p.Regs[k]? = some r → p.Progs[k]? = some ops → (ops.length : Int) ≤ 7 ∧ ∀ o ∈ ops, za1 o (r.length : Int) p.H.Slots
  picks : p.Picks = []
end
end Go.Pe.G
namespace Go.Pe.G
open Go.Pe
noncomputable section
namespace B16
def YX (m : zx) : Prop := 0 ≤ m.At ∧ m.At ≤ m.L.length ∧ m.L.length ≤ 90
theorem vo {m : zx} (h : YX m) : ∃ b m', zt m = some (b, m', ()) ∧ (0 ≤ b ∧ b < 256) ∧ YX m' := by
  obtain ⟨h1, h2, h3⟩ := h
  rw [zbB, zm]
  by_cases h : (m.L.length : Int) ≤ m.At
  · rw [if_pos h]; exact ⟨_, _, rfl, by omega, h1, h2, h3⟩
  · rw [if_neg h, z9 (a := m.At + 1) (by omega) (by omega), z9 (by omega) (by omega), vQ (by omega), List.getElem?_eq_getElem (by omega), Option.bind_some]
    exact ⟨_, _, rfl, by have := (m.L[(m.At + 1 - 1).toNat]'(by omega)).isLt; omega, show 0 ≤ m.At + 1 by omega, show m.At + 1 ≤ m.L.length by omega, h3⟩
theorem zxU {m : zx} (h : YX m) {regs slots : Int} (hr : 1 ≤ regs) (hs : 1 ≤ slots) : ∃ o m', YH regs slots m = some (o, m', ()) ∧ za1 o regs slots ∧ YX m' := by
  obtain ⟨b1, m1, e1, r1, k1⟩ := vo h
  obtain ⟨b2, m2, e2, r2, k2⟩ := vo k1
  obtain ⟨b3, m3, e3, r3, k3⟩ := vo k2
  obtain ⟨b4, m4, e4, r4, k4⟩ := vo k3
  have t1 := wM r1.1 (show (0 : Int) < 8 by omega)
  have t2 := wM r2.1 (show (0 : Int) < regs by omega)
  have t3 := wM r3.1 (show (0 : Int) < regs by omega)
  have t4 := wM r4.1 (show (0 : Int) < slots by omega)
  have t5 := wM r3.1 (show (0 : Int) < slots by omega)
  have hn : ¬ regs = 0 := by omega
  have hn2 : ¬ slots = 0 := by omega
  rw [zdw, e1, Option.bind_some, Zd t1.1 (by simpa using t1.2), Option.bind_some]
  have hx : b1.tmod 8 = 0 ∨ b1.tmod 8 = 1 ∨ b1.tmod 8 = 2 ∨ b1.tmod 8 = 3 ∨ b1.tmod 8 = 4 ∨ b1.tmod 8 = 5 ∨ b1.tmod 8 = 6 ∨ b1.tmod 8 = 7 := by omega
  rcases hx with hx | hx | hx | hx | hx | hx | hx | hx <;> simp [hx, e2, e3, e4, hn, hn2] <;> refine ⟨_, _, ⟨rfl, rfl⟩, ?_, by assumption⟩ <;> (unfold za1; dsimp only; omega)
theorem zvS {s1 : Int} {s2 : Int} {s4 : Int} {s5 : Int} {s6 : Int} {s7 : Int} {s8 : Int} {s9 : Int} {s10 : Int} {s11 : Int} {s12 : Int} {s13 : BitVec 64} {s15 : Int} {s16 : Int} {s17 : Int} {s18 : Int} {s19 : Int} {s20 : Int} {s21 : Int} {s22 : Int} {s23 : Int} {s24 : BitVec 64} {s26 : List (List Int)} {s27 : List (List Int)} {s28 : List (List zg)} {s29 : List zj} {s30 : List (List Int)} {s31 : List (List Int)} {s32 : List (List zg)} {s33 : List zj} (hn : 1 ≤ s1 ∧ s1 ≤ 6) (hs : 1 ≤ s23 ∧ s23 ≤ 2) {mk : zx} (hm : YX mk) :
    ∃ mk' l, yp Zv (s1, s2, 0, s4, s5, s6, s7, s8, s9, s10, s11, s12, s13, mk, s15, s16, s17, s18, s19, s20, s21, s22, s23, s24, [], s26, s27, s28, s29, s30, s31, s32, s33, ()) = some (.brk (s1, s2, s4, s5, s6, s7, s8, s9, s10, s11, s12, s13, mk', s15, s16, s17, s18, s19, s20, s21, s22, s23, s24, l, s26, s27, s28, s29, s30, s31, s32, s33, ())) ∧ YX mk' ∧ (l.length : Int) = s23 ∧ ∀ v ∈ l, 0 ≤ v ∧ v ≤ s1 := by
  refine (vZ (f := Zv)
    (fun a => ∃ i mk l, a = (s1, s2, i, s4, s5, s6, s7, s8, s9, s10, s11, s12, s13, mk, s15, s16, s17, s18, s19, s20, s21, s22, s23, s24, l, s26, s27, s28, s29, s30, s31, s32, s33, ()) ∧ YX mk ∧ (0 ≤ i ∧ i ≤ s23 ∧ (l.length : Int) = i) ∧ ∀ v ∈ l, 0 ≤ v ∧ v ≤ s1)
    (fun a => (s23 - a.2.2.1).toNat)
    (fun o => match o with | .brk b => ∃ mk l, b = (s1, s2, s4, s5, s6, s7, s8, s9, s10, s11, s12, s13, mk, s15, s16, s17, s18, s19, s20, s21, s22, s23, s24, l, s26, s27, s28, s29, s30, s31, s32, s33, ()) ∧ YX mk ∧ (l.length : Int) = s23 ∧ ∀ v ∈ l, 0 ≤ v ∧ v ≤ s1 | _ => False) ?_
    (s1, s2, 0, s4, s5, s6, s7, s8, s9, s10, s11, s12, s13, mk, s15, s16, s17, s18, s19, s20, s21, s22, s23, s24, [], s26, s27, s28, s29, s30, s31, s32, s33, ()) ⟨0, mk, [], rfl, hm, by simp; omega, by simp⟩ (wz (by simp; omega))).elim fun o h => ?_
  rotate_left
  · obtain ⟨ho, hq⟩ := h
    cases o with
    | again a => exact hq.elim
    | ret a => exact hq.elim
    | brk b =>
      obtain ⟨mk', l, rfl, h1, h2, h3⟩ := hq
      exact ⟨mk', l, ho, h1, h2, h3⟩
  · rintro _ ⟨i, mk, l, rfl, h1, h2, h3⟩
    rw [zgo, zm]
    by_cases hi : i < s23
    · rw [if_pos hi]
      obtain ⟨b, mk', e, r, k⟩ := vo h1
      have w1 : w64 (s1 + 1) = s1 + 1 := z9 (by omega) (by omega)
      have t := wM r.1 (show 0 < s1 + 1 by omega)
      rw [e, Option.bind_some, w1, zm, if_neg (by omega), wu (by simp; omega), Option.bind_some, z9 (a := i + 1) (by omega) (by omega)]
      refine ⟨_, rfl, ⟨i + 1, mk', l ++ [b.tmod (s1 + 1)], rfl, k, by simp; omega, fun v hv => ?_⟩, ?_⟩
      · rcases List.mem_append.1 hv with hv | hv
        · exact h3 v hv
        · simp at hv; omega
      · show (s23 - (i + 1)).toNat < (s23 - i).toNat
        omega
    · rw [if_neg hi]
      exact ⟨_, rfl, mk, l, rfl, h1, by omega, h3⟩
theorem zwn {s1 : Int} {s3 : Int} {s4 : Int} {s5 : Int} {s6 : Int} {s7 : Int} {s8 : Int} {s9 : Int} {s10 : Int} {s11 : Int} {s12 : BitVec 64} {s14 : Int} {s15 : Int} {s16 : Int} {s17 : Int} {s18 : Int} {s19 : Int} {s20 : Int} {s21 : Int} {s22 : Int} {s23 : BitVec 64} {s24 : List (List Int)} {s25 : List (List Int)} {s26 : List (List zg)} {s27 : List zj} {s29 : List (List Int)} {s30 : List (List zg)} {s31 : List zj} (hn : 1 ≤ s1 ∧ s1 ≤ 6) (hs : 1 ≤ s22 ∧ s22 ≤ 2) {mk : zx} (hm : YX mk) :
    ∃ mk' l, yp Z7 (s1, 0, s3, s4, s5, s6, s7, s8, s9, s10, s11, s12, mk, s14, s15, s16, s17, s18, s19, s20, s21, s22, s23, s24, s25, s26, s27, [], s29, s30, s31, ()) = some (.brk (s1, s3, s4, s5, s6, s7, s8, s9, s10, s11, s12, mk', s14, s15, s16, s17, s18, s19, s20, s21, s22, s23, s24, s25, s26, s27, l, s29, s30, s31, ())) ∧ YX mk' ∧ (l.length : Int) = s1 ∧ ∀ o ∈ l, (o.length : Int) = s22 ∧ ∀ v ∈ o, 0 ≤ v ∧ v ≤ s1 := by
  refine (vZ (f := Z7)
    (fun a => ∃ i mk l, a = (s1, i, s3, s4, s5, s6, s7, s8, s9, s10, s11, s12, mk, s14, s15, s16, s17, s18, s19, s20, s21, s22, s23, s24, s25, s26, s27, l, s29, s30, s31, ()) ∧ YX mk ∧ (0 ≤ i ∧ i ≤ s1 ∧ (l.length : Int) = i) ∧ ∀ o ∈ l, (o.length : Int) = s22 ∧ ∀ v ∈ o, 0 ≤ v ∧ v ≤ s1)
    (fun a => (s1 - a.2.1).toNat)
    (fun o => match o with | .brk b => ∃ mk l, b = (s1, s3, s4, s5, s6, s7, s8, s9, s10, s11, s12, mk, s14, s15, s16, s17, s18, s19, s20, s21, s22, s23, s24, s25, s26, s27, l, s29, s30, s31, ()) ∧ YX mk ∧ (l.length : Int) = s1 ∧ ∀ o ∈ l, (o.length : Int) = s22 ∧ ∀ v ∈ o, 0 ≤ v ∧ v ≤ s1 | _ => False) ?_
    (s1, 0, s3, s4, s5, s6, s7, s8, s9, s10, s11, s12, mk, s14, s15, s16, s17, s18, s19, s20, s21, s22, s23, s24, s25, s26, s27, [], s29, s30, s31, ()) ⟨0, mk, [], rfl, hm, by simp; omega, by simp⟩ (wz (by simp; omega))).elim fun o h => ?_
  rotate_left
  · obtain ⟨ho, hq⟩ := h
    cases o with
    | again a => exact hq.elim
    | ret a => exact hq.elim
    | brk b =>
      obtain ⟨mk', l, rfl, h1, h2, h3⟩ := hq
      exact ⟨mk', l, ho, h1, h2, h3⟩
  · rintro _ ⟨i, mk, l, rfl, h1, h2, h3⟩
    rw [zgV, zm]
    by_cases hi : i < s1
    · rw [if_pos hi]
      obtain ⟨mk', o, e, g1, g2, g3⟩ := zvS hn hs h1
      rw [e]
      simp only [Option.bind_some]
      rw [wu (by simp; omega), Option.bind_some, z9 (a := i + 1) (by omega) (by omega)]
      refine ⟨_, rfl, ⟨i + 1, mk', l ++ [o], rfl, g1, by simp; omega, fun v hv => ?_⟩, ?_⟩
      · rcases List.mem_append.1 hv with hv | hv
        · exact h3 v hv
        · simp at hv; subst hv; exact ⟨g2, g3⟩
      · show (s1 - (i + 1)).toNat < (s1 - i).toNat
        omega
    · rw [if_neg hi]
      exact ⟨_, rfl, mk, l, rfl, h1, by omega, h3⟩
theorem zvl {s1 : Int} {s2 : Int} {s4 : Int} {s5 : Int} {s6 : Int} {s7 : Int} {s8 : Int} {s9 : Int} {s10 : Int} {s11 : Int} {s12 : Int} {s13 : BitVec 64} {s15 : Int} {s16 : Int} {s17 : Int} {s18 : Int} {s19 : Int} {s20 : Int} {s21 : Int} {s22 : Int} {s23 : Int} {s24 : BitVec 64} {s26 : List (List Int)} {s27 : List (List Int)} {s28 : List (List zg)} {s29 : List zj} {s30 : List (List Int)} {s31 : List (List Int)} {s32 : List (List zg)} {s33 : List zj} (hn : 1 ≤ s1 ∧ s1 ≤ 6) {mk : zx} (hm : YX mk) :
    ∃ mk' l, yp ZA (s1, s2, 0, s4, s5, s6, s7, s8, s9, s10, s11, s12, s13, mk, s15, s16, s17, s18, s19, s20, s21, s22, s23, s24, [], s26, s27, s28, s29, s30, s31, s32, s33, ()) = some (.brk (s1, s2, s4, s5, s6, s7, s8, s9, s10, s11, s12, s13, mk', s15, s16, s17, s18, s19, s20, s21, s22, s23, s24, l, s26, s27, s28, s29, s30, s31, s32, s33, ())) ∧ YX mk' ∧ (1 ≤ (l.length : Int) ∧ (l.length : Int) ≤ 3) ∧ ∀ v ∈ l, 0 ≤ v ∧ v ≤ s1 := by
  refine (vZ (f := ZA)
    (fun a => ∃ i mk l, a = (s1, s2, i, s4, s5, s6, s7, s8, s9, s10, s11, s12, s13, mk, s15, s16, s17, s18, s19, s20, s21, s22, s23, s24, l, s26, s27, s28, s29, s30, s31, s32, s33, ()) ∧ YX mk ∧ (0 ≤ i ∧ i ≤ 3 ∧ (l.length : Int) = i) ∧ ∀ v ∈ l, 0 ≤ v ∧ v ≤ s1)
    (fun a => (3 - a.2.2.1).toNat)
    (fun o => match o with | .brk b => ∃ mk l, b = (s1, s2, s4, s5, s6, s7, s8, s9, s10, s11, s12, s13, mk, s15, s16, s17, s18, s19, s20, s21, s22, s23, s24, l, s26, s27, s28, s29, s30, s31, s32, s33, ()) ∧ YX mk ∧ (1 ≤ (l.length : Int) ∧ (l.length : Int) ≤ 3) ∧ ∀ v ∈ l, 0 ≤ v ∧ v ≤ s1 | _ => False) ?_
    (s1, s2, 0, s4, s5, s6, s7, s8, s9, s10, s11, s12, s13, mk, s15, s16, s17, s18, s19, s20, s21, s22, s23, s24, [], s26, s27, s28, s29, s30, s31, s32, s33, ()) ⟨0, mk, [], rfl, hm, by simp, by simp⟩ (wz (by simp))).elim fun o h => ?_
  rotate_left
  · obtain ⟨ho, hq⟩ := h
    cases o with
    | again a => exact hq.elim
    | ret a => exact hq.elim
    | brk b =>
      obtain ⟨mk', l, rfl, h1, h2, h3⟩ := hq
      exact ⟨mk', l, ho, h1, h2, h3⟩
  · rintro _ ⟨i, mk, l, rfl, h1, h2, h3⟩
    obtain ⟨b0, mk0, e0, r0, k0⟩ := vo h1
    have t0 := wM r0.1 (show (0 : Int) < 3 by omega)
    rw [zgc, e0, Option.bind_some, zm, z9 (a := 1 + b0.tmod 3) (by omega) (by omega)]
    by_cases hi : i < 1 + b0.tmod 3
    · rw [if_pos hi]
      obtain ⟨b, mk', e, r, k⟩ := vo k0
      have w1 : w64 (s1 + 1) = s1 + 1 := z9 (by omega) (by omega)
      have t := wM r.1 (show 0 < s1 + 1 by omega)
      rw [e, Option.bind_some, w1, zm, if_neg (by omega), wu (by simp; omega), Option.bind_some, z9 (a := i + 1) (by omega) (by omega)]
      refine ⟨_, rfl, ⟨i + 1, mk', l ++ [b.tmod (s1 + 1)], rfl, k, by simp; omega, fun v hv => ?_⟩, ?_⟩
      · rcases List.mem_append.1 hv with hv | hv
        · exact h3 v hv
        · simp at hv; omega
      · show (3 - (i + 1)).toNat < (3 - i).toNat
        omega
    · rw [if_neg hi]
      exact ⟨_, rfl, mk0, l, rfl, k0, by omega, h3⟩
theorem zvt {s1 : Int} {s2 : Int} {s4 : Int} {s5 : Int} {s6 : Int} {s7 : Int} {s8 : Int} {s9 : Int} {s10 : Int} {s11 : Int} {s12 : Int} {s13 : BitVec 64} {s15 : Int} {s16 : Int} {s17 : Int} {s18 : Int} {s19 : Int} {s20 : Int} {s21 : Int} {s22 : Int} {s23 : Int} {s24 : BitVec 64} {s25 : List Int} {s27 : List (List Int)} {s28 : List (List Int)} {s29 : List (List zg)} {s30 : List zj} {s31 : List (List Int)} {s32 : List (List Int)} {s33 : List (List zg)} {s34 : List zj} (hr : 1 ≤ (s25.length : Int)) (hs : 1 ≤ s23 ∧ s23 ≤ 2) {k0 : Int} (hk : 0 ≤ k0 ∧ k0 < 8) {mk : zx} (hm : YX mk) :
    ∃ mk' l, yp uc (s1, s2, k0, s4, s5, s6, s7, s8, s9, s10, s11, s12, s13, mk, s15, s16, s17, s18, s19, s20, s21, s22, s23, s24, s25, [], s27, s28, s29, s30, s31, s32, s33, s34, ()) = some (.brk (s1, s2, s4, s5, s6, s7, s8, s9, s10, s11, s12, s13, mk', s15, s16, s17, s18, s19, s20, s21, s22, s23, s24, s25, l, s27, s28, s29, s30, s31, s32, s33, s34, ())) ∧ YX mk' ∧ (l.length : Int) ≤ 7 ∧ ∀ o ∈ l, za1 o (s25.length : Int) s23 := by
  refine (vZ (f := uc)
    (fun a => ∃ i mk l, a = (s1, s2, i, s4, s5, s6, s7, s8, s9, s10, s11, s12, s13, mk, s15, s16, s17, s18, s19, s20, s21, s22, s23, s24, s25, l, s27, s28, s29, s30, s31, s32, s33, s34, ()) ∧ YX mk ∧ (0 ≤ i ∧ (l.length : Int) + i ≤ 7) ∧ ∀ o ∈ l, za1 o (s25.length : Int) s23)
    (fun a => (a.2.2.1).toNat)
    (fun o => match o with | .brk b => ∃ mk l, b = (s1, s2, s4, s5, s6, s7, s8, s9, s10, s11, s12, s13, mk, s15, s16, s17, s18, s19, s20, s21, s22, s23, s24, s25, l, s27, s28, s29, s30, s31, s32, s33, s34, ()) ∧ YX mk ∧ (l.length : Int) ≤ 7 ∧ ∀ o ∈ l, za1 o (s25.length : Int) s23 | _ => False) ?_
    (s1, s2, k0, s4, s5, s6, s7, s8, s9, s10, s11, s12, s13, mk, s15, s16, s17, s18, s19, s20, s21, s22, s23, s24, s25, [], s27, s28, s29, s30, s31, s32, s33, s34, ()) ⟨k0, mk, [], rfl, hm, by simp; omega, by simp⟩ (wz (by simp; omega))).elim fun o h => ?_
  rotate_left
  · obtain ⟨ho, hq⟩ := h
    cases o with
    | again a => exact hq.elim
    | ret a => exact hq.elim
    | brk b =>
      obtain ⟨mk', l, rfl, h1, h2, h3⟩ := hq
      exact ⟨mk', l, ho, h1, h2, h3⟩
  · rintro _ ⟨i, mk, l, rfl, h1, h2, h3⟩
    rw [zfQ, zm]
    by_cases hi : 0 < i
    · rw [if_pos hi]
      obtain ⟨o, mk', e, r, k⟩ := zxU h1 hr hs.1
      rw [e, Option.bind_some, wu (by simp; omega), Option.bind_some, z9 (a := i - 1) (by omega) (by omega)]
      refine ⟨_, rfl, ⟨i - 1, mk', l ++ [o], rfl, k, by simp; omega, fun v hv => ?_⟩, ?_⟩
      · rcases List.mem_append.1 hv with hv | hv
        · exact h3 v hv
        · simp at hv; subst hv; exact r
      · show (i - 1).toNat < i.toNat
        omega
    · rw [if_neg hi]
      exact ⟨_, rfl, mk, l, rfl, h1, by omega, h3⟩
theorem zvf {s1 : Int} {s3 : Int} {s4 : Int} {s5 : Int} {s6 : Int} {s7 : Int} {s8 : Int} {s9 : Int} {s10 : Int} {s11 : Int} {s12 : BitVec 64} {s14 : Int} {s15 : Int} {s16 : Int} {s17 : Int} {s18 : Int} {s19 : Int} {s20 : Int} {s21 : Int} {s22 : Int} {s23 : BitVec 64} {s24 : List (List Int)} {s25 : List (List Int)} {s26 : List (List zg)} {s27 : List zj} {s28 : List (List Int)} {s31 : List zj} (hn : 1 ≤ s1 ∧ s1 ≤ 6) (hm0 : 0 ≤ s15 ∧ s15 ≤ 2) (hs : 1 ≤ s22 ∧ s22 ≤ 2) {mk : zx} (hm : YX mk) :
    ∃ regs progs, yp Zy (s1, 0, s3, s4, s5, s6, s7, s8, s9, s10, s11, s12, mk, s14, s15, s16, s17, s18, s19, s20, s21, s22, s23, s24, s25, s26, s27, s28, [], [], s31, ()) = some (.brk (s3, s4, s5, s6, s7, s8, s9, s10, s11, s12, s14, s15, s16, s17, s18, s19, s20, s21, s22, s23, s24, s25, s26, s27, s28, regs, progs, s31, ())) ∧ (regs.length : Int) = s15 ∧ (regs.length = progs.length) ∧ (∀ r ∈ regs, (1 ≤ (r.length : Int) ∧ (r.length : Int) ≤ 3) ∧ ∀ v ∈ r, 0 ≤ v ∧ v ≤ s1) ∧ ∀ (k : Nat) r ops, regs[k]? = some r → progs[k]? = some ops → (ops.length : Int) ≤ 7 ∧ ∀ o ∈ ops, za1 o (r.length : Int) s22 := by
  refine (vZ (f := Zy)
    (fun a => ∃ i mk regs progs, a = (s1, i, s3, s4, s5, s6, s7, s8, s9, s10, s11, s12, mk, s14, s15, s16, s17, s18, s19, s20, s21, s22, s23, s24, s25, s26, s27, s28, regs, progs, s31, ()) ∧ YX mk ∧ (0 ≤ i ∧ i ≤ s15 ∧ (regs.length : Int) = i) ∧ (regs.length = progs.length) ∧ (∀ r ∈ regs, (1 ≤ (r.length : Int) ∧ (r.length : Int) ≤ 3) ∧ ∀ v ∈ r, 0 ≤ v ∧ v ≤ s1) ∧ ∀ (k : Nat) r ops, regs[k]? = some r → progs[k]? = some ops → (ops.length : Int) ≤ 7 ∧ ∀ o ∈ ops, za1 o (r.length : Int) s22)
    (fun a => (s15 - a.2.1).toNat)
    (fun o => match o with | .brk b => ∃ regs progs, b = (s3, s4, s5, s6, s7, s8, s9, s10, s11, s12, s14, s15, s16, s17, s18, s19, s20, s21, s22, s23, s24, s25, s26, s27, s28, regs, progs, s31, ()) ∧ (regs.length : Int) = s15 ∧ (regs.length = progs.length) ∧ (∀ r ∈ regs, (1 ≤ (r.length : Int) ∧ (r.length : Int) ≤ 3) ∧ ∀ v ∈ r, 0 ≤ v ∧ v ≤ s1) ∧ ∀ (k : Nat) r ops, regs[k]? = some r → progs[k]? = some ops → (ops.length : Int) ≤ 7 ∧ ∀ o ∈ ops, za1 o (r.length : Int) s22 | _ => False) ?_
    (s1, 0, s3, s4, s5, s6, s7, s8, s9, s10, s11, s12, mk, s14, s15, s16, s17, s18, s19, s20, s21, s22, s23, s24, s25, s26, s27, s28, [], [], s31, ()) ⟨0, mk, [], [], rfl, hm, by simp; omega, rfl, by simp, by simp⟩ (wz (by simp; omega))).elim fun o h => ?_
  rotate_left
  · obtain ⟨ho, hq⟩ := h
    cases o with
    | again a => exact hq.elim
    | ret a => exact hq.elim
    | brk b =>
      obtain ⟨regs, progs, rfl, h⟩ := hq
      exact ⟨regs, progs, ho, h⟩
  · rintro _ ⟨i, mk, regs, progs, rfl, h1, h2, h3, h4, h5⟩
    rw [zfr, zm]
    by_cases hi : i < s15
    · rw [if_pos hi]
      obtain ⟨mk1, r, e, g1, g2, g3⟩ := zvl hn h1
      rw [e]
      simp only [Option.bind_some]
      rw [zm, if_neg (by omega)]
      obtain ⟨b, mk2, e2, r2, k2⟩ := vo g1
      rw [e2, Option.bind_some]
      obtain ⟨mk3, ops, e3, f1, f2, f3⟩ := zvt (s25 := r) g2.1 hs (wM r2.1 (show (0 : Int) < 8 by omega)) k2
      rw [e3]
      simp only [Option.bind_some]
      rw [wu (by simp; omega), Option.bind_some, wu (by simp; omega), Option.bind_some, z9 (a := i + 1) (by omega) (by omega)]
      refine ⟨_, rfl, ⟨i + 1, mk3, regs ++ [r], progs ++ [ops], rfl, f1, by simp; omega, by simp [h3], fun v hv => ?_, fun k r' ops' hk1 hk2 => ?_⟩, ?_⟩
      · rcases List.mem_append.1 hv with hv | hv
        · exact h4 v hv
        · simp at hv; subst hv; exact ⟨g2, g3⟩
      · rcases Nat.lt_or_ge k regs.length with hlt | hge
        · rw [List.getElem?_append_left hlt] at hk1
          rw [List.getElem?_append_left (by omega)] at hk2
          exact h5 k r' ops' hk1 hk2
        · rw [List.getElem?_append_right hge] at hk1
          rw [List.getElem?_append_right (by omega), ← h3] at hk2
          have hk0 : k - regs.length = 0 := by
            have := (List.getElem?_eq_some_iff.1 hk1).1
            simpa using this
          rw [hk0] at hk1 hk2
          simp at hk1 hk2
          subst hk1; subst hk2
          exact ⟨f2, f3⟩
      · show (s15 - (i + 1)).toNat < (s15 - i).toNat
        omega
    · rw [if_neg hi]
      exact ⟨_, rfl, regs, progs, rfl, by omega, h3, h4, h5⟩
theorem zwu (l : List (BitVec 8)) : ∃ p, Ut l = some (p, ()) ∧ zO p := by
  rw [zjM, zm]
  obtain ⟨m, em, hl⟩ : ∃ m, cut l 0 (if 90 < (l.length : Int) then 90 else (l.length : Int)) = some m ∧ m.length ≤ 90 := by
    unfold cut
    by_cases h : 90 < (l.length : Int)
    · have h2 : (90 : Int) ≤ l.length := by omega
      rw [if_pos h]; exact ⟨l.take 90, by simp [h2], List.length_take_le _ _⟩
    · rw [if_neg h]; exact ⟨l, by simp, by omega⟩
  rw [em, Option.bind_some]
  obtain ⟨b1, m1, e1, r1, k1⟩ := vo (m := ⟨m, 0⟩) ⟨by simp, by simp, hl⟩
  obtain ⟨b2, m2, e2, r2, k2⟩ := vo k1
  obtain ⟨b3, m3, e3, r3, k3⟩ := vo k2
  obtain ⟨b4, m4, e4, r4, k4⟩ := vo k3
  obtain ⟨b5, m5, e5, r5, k5⟩ := vo k4
  obtain ⟨b6, m6, e6, r6, k6⟩ := vo k5
  obtain ⟨b7, m7, e7, r7, k7⟩ := vo k6
  obtain ⟨b8, m8, e8, r8, k8⟩ := vo k7
  obtain ⟨b9, m9, e9, r9, k9⟩ := vo k8
  obtain ⟨b10, m10, e10, r10, k10⟩ := vo k9
  simp only [e1, e2, e3, e4, e5, e6, e7, e8, e9, e10, Option.bind_some]
  have t1 := wM r1.1 (show (0 : Int) < 3 by omega)
  have t2 := wM r2.1 (show (0 : Int) < 3 by omega)
  have t3 := wM r3.1 (show (0 : Int) < 3 by omega)
  have t4 := wM r4.1 (show (0 : Int) < 2 by omega)
  have t5 := wM r5.1 (show (0 : Int) < 3 by omega)
  have t6 := wM r6.1 (show (0 : Int) < 4 by omega)
  have t7 := wM r7.1 (show (0 : Int) < 4 by omega)
  have t8 := wM r8.1 (show (0 : Int) < 2 by omega)
  have t9 := wM r9.1 (show (0 : Int) < 6 by omega)
  have t10 := wM r10.1 (show (0 : Int) < 4 by omega)
  rw [z9 (a := 1 + b9.tmod 6) (by omega) (by omega), z9 (a := 1 + b1.tmod 3) (by omega) (by omega), z9 (a := 1 + b3.tmod 3) (by omega) (by omega), z9 (a := 1 + b4.tmod 2) (by omega) (by omega), z9 (a := 1 + b5.tmod 3) (by omega) (by omega),
    z9 (a := 1 + b9.tmod 6 + b10.tmod 4) (by omega) (by omega), z9 (a := 1 + b8.tmod 2) (by omega) (by omega)]
  obtain ⟨m11, objs, e11, g1, g2, g3⟩ := zwn (s1 := 1 + b9.tmod 6) (s22 := 1 + b8.tmod 2) (by omega) (by omega) k10
  rw [e11]
  simp only [Option.bind_some]
  obtain ⟨b12, m12, e12, r12, k12⟩ := vo g1
  rw [e12, Option.bind_some, z9 (a := 1 + b9.tmod 6 + 1) (by omega) (by omega), zm, if_neg (by omega)]
  have t12 := wM r12.1 (show (0 : Int) < 1 + b9.tmod 6 + 1 by omega)
  rw [zlo, Option.bind_some]
  obtain ⟨regs, progs, e13, f1, f2, f3, f4⟩ := zvf (s1 := 1 + b9.tmod 6) (s15 := b2.tmod 3) (s22 := 1 + b8.tmod 2) (by omega) (by omega) (by omega) k12
  rw [e13]
  simp only [Option.bind_some]
  refine ⟨_, rfl, ?_⟩
  constructor <;> dsimp only
  case objs => intro o ho; rw [g2]; exact g3 o ho
  case roots => exact ⟨b12.tmod (1 + b9.tmod 6 + 1), by omega, by omega, by simp⟩
  case reg => rw [g2]; exact f3
  case prog => exact f4
  all_goals first | omega | rfl
end B16
end
end Go.Pe.G
namespace Go.Pe.G
open Go.Pe
noncomputable section
theorem VW {α β B C : Type} {f : List α × Int × Int × β → Option (yN (List α × Int × Int × β) B C)} {l : List α} {e : β} {b : B} (hl : l.length < 1000000)
    (h1 : ∀ (i : Nat) (x : α), l[i]? = some x → f (l, (l.length : Int), (i : Int), e) = some (.again (l, (l.length : Int), ((i + 1 : Nat) : Int), e)))
    (h2 : f (l, (l.length : Int), (l.length : Int), e) = some (.brk b)) : yp f (l, (l.length : Int), 0, e) = some (.brk b) := by
  refine (vZ (f := f) (fun a => ∃ i : Nat, a = (l, (l.length : Int), (i : Int), e) ∧ i ≤ l.length) (fun a => l.length - a.2.2.1.toNat) (fun o => o = .brk b) ?_ (l, (l.length : Int), 0, e) ⟨0, rfl, by omega⟩ (wz (by simp; omega))).elim fun o h => ?_
  rotate_left
  · rw [h.1, h.2]
  · rintro _ ⟨i, rfl, hi⟩
    rcases Nat.lt_or_ge i l.length with hlt | hge
    · refine ⟨_, h1 i _ (List.getElem?_eq_getElem hlt), ⟨i + 1, rfl, hlt⟩, ?_⟩
      show l.length - ((i + 1 : Nat) : Int).toNat < l.length - (i : Int).toNat
      omega
    · have : i = l.length := by omega
      subst this
      exact ⟨_, h2, rfl⟩
theorem xR {α : Type} {l : List α} {i : Nat} {x : α} (h : l[i]? = some x) : idx l (i : Int) = some x := by
  rw [vQ (by omega)]; simpa using h
theorem vG {α : Type} {l : List α} {i : Nat} {x : α} (h : l[i]? = some x) : (i : Int) < (l.length : Int) := by
  have := (List.getElem?_eq_some_iff.1 h).1; omega
theorem yV {i : Nat} (h : i < 1000000) : w64 ((i : Int) + 1) = ((i + 1 : Nat) : Int) := by
  rw [z9 (by omega) (by omega)]; omega
theorem zc2 (a b c : Int) : vi a b c = some (decide (b ≤ a ∧ a ≤ c), ()) := by
  rw [zm0, zm]
  by_cases h : b ≤ a
  · rw [if_pos h]; simp [h]
  · rw [if_neg h]; simp [h]
theorem ztL {l : List Int} {h : zu} (hl : l.length < 1000000) (hv : ∀ v ∈ l, 0 ≤ v ∧ v ≤ (h.Objs.length : Int)) : xC l h = some (false, ()) := by
  rw [ZL, Yu, VW (b := ()) hl (fun i x hx => ?_) (by rw [wP]; simp)]
  · rfl
  · have hm := hv x (List.mem_of_getElem? hx)
    have hlt := vG hx
    rw [wP, zm, if_pos hlt, xR hx, Option.bind_some, zj2, zm, if_neg (show ¬ x < 0 by omega), Option.bind_some, yV (by omega)]
    simp [show ¬ (h.Objs.length : Int) < x by omega]
theorem zt6 {l : List Int} {n : Int} (hl : l.length < 1000000) (hv : ∀ v ∈ l, 0 ≤ v ∧ v ≤ n) : xQ l n = some (false, ()) := by
  rw [Yd, Y2, VW (b := ()) hl (fun i x hx => ?_) (by rw [w8]; simp)]
  · rfl
  · have hm := hv x (List.mem_of_getElem? hx)
    have hlt := vG hx
    rw [w8, xR hx, Option.bind_some, zlJ, zc2, Option.bind_some, Option.bind_some, yV (by omega), zm, if_pos hlt]
    simp [hm]
theorem zpN {l : List (List Int)} {h : zu} (hl : l.length < 1000000) (hs : h.Slots < 1000000) (hv : ∀ o ∈ l, (o.length : Int) = h.Slots ∧ ∀ v ∈ o, 0 ≤ v ∧ v ≤ (h.Objs.length : Int)) : xA l h = some (false, ()) := by
  rw [ZM, Yw, VW (b := ()) hl (fun i x hx => ?_) (by rw [wQ]; simp)]
  · rfl
  · have hm := hv x (List.mem_of_getElem? hx)
    have hlt := vG hx
    rw [wQ, xR hx, Option.bind_some, zlU, yg, if_pos hm.1, ztL (by omega) hm.2, Option.bind_some, Option.bind_some, yV (by omega), zm, if_pos hlt]
    rfl
theorem znT {r n : Int} (h : 0 ≤ r ∧ r < n) (h2 : n ≤ 4) : zQ r n = some (true, ()) := by
  rw [zlz, zm, if_pos h.1, zm]
  rw [if_neg (by omega)]
  simp [h.2]
theorem zvY {o : zg} {regs slots : Int} (h : za1 o regs slots) (h2 : regs ≤ 4) (h3 : slots ≤ 4) : zfR o regs slots = some (true, ()) := by
  obtain ⟨hr, h⟩ := h
  have e1 := znT hr h2
  have h4 : ¬ 4 < slots := by omega
  rw [znQ]
  rcases h with ⟨hk | hk, ha, hs⟩ | ⟨hk, ha, hs⟩ | ⟨hk | hk, ha, hs⟩
  · have e2 := znT ha h2
    simp [hk, e1, e2, hs.1, hs.2, h4]
  · have e2 := znT ha h2
    simp [hk, e1, e2, hs.1, hs.2, h4]
  · have e2 := znT ha h2
    simp [hk, e1, e2, hs]
  · simp [hk, e1, ha, hs]
  · simp [hk, e1, ha, hs]
theorem zwA {l : List zg} {regs slots : Int} (hl : (l.length : Int) ≤ 64) (h : ∀ o ∈ l, za1 o regs slots) (h2 : regs ≤ 4) (h3 : slots ≤ 4) : zhF l regs slots = some (true, ()) := by
  rw [zo5, zm, if_pos hl, Zb, Zr, VW (b := ()) (by omega) (fun i x hx => ?_) (by rw [wt]; simp)]
  · rfl
  · have hlt := vG hx
    rw [wt, xR hx, Option.bind_some, zmF, zvY (h x (List.mem_of_getElem? hx)) h2 h3, Option.bind_some, Option.bind_some, yV (by omega), zm, if_pos hlt]
    rfl
theorem zt7 (a b : Int) : zfL [] a b = some (true, ()) := by
  rw [znu, uz, uV, VW (b := ()) (by simp) (fun i x hx => by simp at hx) (by rw [ux]; simp)]
  rfl
def X7 (n : Int) : BitVec 64 := if n < 1 then 0#64 else 18446744073709551615#64 >>> (64 - min n 64).toNat
theorem zu0 (n : Int) (h : 0 ≤ n) : zhC n = some (X7 n, ()) := by
  rw [zoF, zm]
  unfold X7
  by_cases h1 : n < 1
  · rw [if_pos h1, if_pos h1]
  · rw [if_neg h1, if_neg h1]
    simp only [zm]
    have e : (if 64 < n then (64 : Int) else n) = min n 64 := by
      by_cases h2 : 64 < n
      · rw [if_pos h2]; omega
      · rw [if_neg h2]; omega
    rw [e, z9 (by omega) (by omega), if_neg (by omega), Nat.min_eq_left (by omega)]
theorem zpZ : ∀ (r n : Fin 7), r.1 ≤ n.1 → bit (r.1 : Int) &&& ~~~X7 (n.1 : Int) = 0#64 := by decide
theorem zlX {p : zd} (h : zO p) : p.Roots &&& ~~~X7 (p.H.Objs.length : Int) = 0#64 := by
  obtain ⟨r, h1, h2, h3⟩ := h.roots
  have hn := h.n
  have := zpZ ⟨r.toNat, by omega⟩ ⟨p.H.Objs.length, by omega⟩ (by show r.toNat ≤ p.H.Objs.length; omega)
  rw [h3]
  simpa [Int.toNat_of_nonneg h1] using this
theorem zt4 {p : zd} (h : zO p) : Uo p = some (true, ()) := by
  obtain ⟨h1, h2, h3, h4, h5, h6, h7, _⟩ := h
  rw [zjJ]
  simp only [zc2, Option.bind_some, zm]
  rw [if_pos (by omega), if_pos (by omega), if_pos (by omega), if_pos (by omega), if_pos (by omega), if_pos (by split <;> omega)]
  have : (if p.Price < p.Limit then p.Limit else p.Price) ≤ 1000000 := by split <;> omega
  simp [this]
theorem ztT {p : zd} (h : zO p) : Yq p.H = some (true, ()) := by
  have := h.slots
  have := h.n
  rw [zg0, zm, if_pos (by omega), zm, if_pos (by omega), zm, if_pos (by omega), zpN (by omega) (by omega) h.objs]
  rfl
theorem ztn {p : zd} (h : zO p) : zgk p = some (true, ()) := by
  have hn := h.n
  have hm := h.most
  have hsl := h.slots
  have hmt := h.mt
  have hrl := h.regs
  have hpl := h.progs
  rw [zn8, zt4 h]
  simp only [Option.bind_some, Bool.not_true, cond_false, ztT h, zc2]
  rw [show decide ((p.H.Objs.length : Int) ≤ p.Most ∧ p.Most ≤ 64) = true by simp; omega]
  simp only [Bool.not_true, cond_false, zu0 _ (show (0 : Int) ≤ (p.H.Objs.length : Int) by omega), Option.bind_some, zo7, zlX h, decide_true, yg, if_pos h.regs, if_pos h.progs]
  rw [VW (b := (p, ())) (by omega) (fun i x hx => ?_) (by rw [zdi]; simp)]
  · simp [h.picks, zt7]
  · have hlt := vG hx
    have hr := h.reg x (List.mem_of_getElem? hx)
    obtain ⟨ops, hops⟩ : ∃ ops, p.Progs[i]? = some ops := ⟨_, List.getElem?_eq_getElem (by omega)⟩
    obtain ⟨o1, o2⟩ := h.prog i x ops hx hops
    rw [zdi, zm, if_pos hlt, xR hx]
    simp only [Option.bind_some, zc2]
    rw [show decide (1 ≤ (x.length : Int) ∧ (x.length : Int) ≤ 4) = true by simp; omega]
    simp only [Bool.not_true, cond_false, zt6 (show x.length < 1000000 by omega) hr.2, Option.bind_some, xR hops, zwA (show (ops.length : Int) ≤ 64 by omega) o2 (show (x.length : Int) ≤ 4 by omega) (show p.H.Slots ≤ 4 by omega), yV (show i < 1000000 by omega)]
end
end Go.Pe.G
namespace Go.Pe.G
open Go.Pe
noncomputable section
theorem zfD {n : Int} (h : 0 ≤ n) (h2 : n < 4294967296) : YN n = some n.toNat := by rw [zg1]; simp [h, h2]
theorem zp3 {n : Int} (h : 0 < n) (h2 : n < 4294967296) : zdD n = some n.toNat := by rw [znZ]; simp [h, h2]
def zeE (l : List Int) : BitVec 64 := l.foldl (fun s o => s ||| bit o) 0#64
def Y6 (p : zd) : BitVec 64 := p.Regs.foldl (fun s l => s ||| zeE l) p.Roots
def zxY (a1 : BitVec 64) : BitVec 64 :=
  let a := ((a1 >>> 1) &&& 6148914691236517205#64) + (a1 &&& 6148914691236517205#64)
  let b := ((a >>> 2) &&& 3689348814741910323#64) + (a &&& 3689348814741910323#64)
  let c := ((b >>> 4) + b) &&& 1085102592571150095#64
  let d := c + (c >>> 8)
  let e := d + (d >>> 16)
  e + (e >>> 32)
def cnt (s : BitVec 64) : Int := (BitVec.ofInt 64 (zxY s).toInt &&& BitVec.ofInt 64 127).toInt
theorem zuJ (s : BitVec 64) : zhM s = some (cnt s, ()) := by
  rw [zpu, zih, zqT]; rfl
theorem WT {m : List Int} (h : m.length < 4294967296) : yI m = some (m, ()) := by
  rw [zdO, List.nil_append, wu h, Option.bind_some]
  cases m with
  | nil => simp [zht]
  | cons a l => simp
theorem zxb {l : List Int} (hl : l.length < 1000000) : zmk l = some (zeE l, ()) := by
  rw [zsG]
  refine (vZ (f := zhN) (fun a => ∃ i : Nat, a = ((l.take i).foldl (fun s o => s ||| bit o) 0#64, l, (l.length : Int), (i : Int), ()) ∧ i ≤ l.length) (fun a => l.length - a.2.2.2.1.toNat) (fun o => o = .brk (zeE l, ())) ?_ (0#64, l, (l.length : Int), 0, ()) ⟨0, rfl, by omega⟩ (wz (by simp; omega))).elim fun o h => ?_
  rotate_left
  · rw [h.1, h.2]; rfl
  · rintro _ ⟨i, rfl, hi⟩
    rw [zpb, zm]
    rcases Nat.lt_or_ge i l.length with hlt | hge
    · have hx := List.getElem?_eq_getElem hlt
      rw [if_pos (by omega), xR hx, Option.bind_some, zlo, Option.bind_some, yV (by omega)]
      refine ⟨_, rfl, ⟨i + 1, ?_, hlt⟩, ?_⟩
      · rw [List.take_add_one, hx]; simp only [Option.toList_some, List.foldl_append, List.foldl_cons, List.foldl_nil]
      · show l.length - ((i + 1 : Nat) : Int).toNat < l.length - (i : Int).toNat
        omega
    · rw [if_neg (by omega)]
      have : i = l.length := by omega
      subst this
      exact ⟨_, rfl, by rw [List.take_length]; rfl⟩
theorem zta {p : zd} (hl : p.Regs.length < 1000000) (hr : ∀ r ∈ p.Regs, r.length < 1000000) : zfV p = some (Y6 p, ()) := by
  rw [znm]
  refine (vZ (f := zbb) (fun a => ∃ i : Nat, a = ((p.Regs.take i).foldl (fun s l => s ||| zeE l) p.Roots, p.Regs, (p.Regs.length : Int), (i : Int), ()) ∧ i ≤ p.Regs.length) (fun a => p.Regs.length - a.2.2.2.1.toNat) (fun o => o = .brk (Y6 p, ())) ?_ (p.Roots, p.Regs, (p.Regs.length : Int), 0, ()) ⟨0, rfl, by omega⟩ (wz (by simp; omega))).elim fun o h => ?_
  rotate_left
  · rw [h.1, h.2]; rfl
  · rintro _ ⟨i, rfl, hi⟩
    rw [zkn, zm]
    rcases Nat.lt_or_ge i p.Regs.length with hlt | hge
    · have hx := List.getElem?_eq_getElem hlt
      rw [if_pos (by omega), xR hx, Option.bind_some, zxb (hr _ (List.getElem_mem hlt)), Option.bind_some, yV (by omega)]
      refine ⟨_, rfl, ⟨i + 1, ?_, hlt⟩, ?_⟩
      · rw [List.take_add_one, hx]; simp only [Option.toList_some, List.foldl_append, List.foldl_cons, List.foldl_nil]
      · show p.Regs.length - ((i + 1 : Nat) : Int).toNat < p.Regs.length - (i : Int).toNat
        omega
    · rw [if_neg (by omega)]
      have : i = p.Regs.length := by omega
      subst this
      exact ⟨_, rfl, by rw [List.take_length]; rfl⟩
theorem zu2 {l : List (List Int)} (hl : l.length < 1000000) (h : ∀ r ∈ l, r.length < 1000000) : wq l = some (l, ()) := by
  have key : ∀ n : Int, n = (l.length : Int) → yp yA (n, 0, l, ()) = some (.brk (l, ())) := by
    rintro _ rfl
    refine (vZ (f := yA) (fun a => ∃ i : Nat, a = ((l.length : Int), (i : Int), l, ()) ∧ i ≤ l.length) (fun a => l.length - a.2.1.toNat) (fun o => o = .brk (l, ())) ?_ ((l.length : Int), 0, l, ()) ⟨0, rfl, by omega⟩ (wz (by simp; omega))).elim fun o h => ?_
    rotate_left
    · rw [h.1, h.2]
    · rintro _ ⟨i, rfl, hi⟩
      rw [Yk, zm]
      rcases Nat.lt_or_ge i l.length with hlt | hge
      · have hx := List.getElem?_eq_getElem hlt
        have hr := h _ (List.getElem_mem hlt)
        have e : xT l (i : Int) = some i := by rw [Zd (by omega) (by omega)]; simp
        rw [if_pos (by omega), e]
        simp only [Option.bind_some]
        rw [hx, Option.bind_some, WT (by omega), Option.bind_some, yV (by omega)]
        refine ⟨_, rfl, ⟨i + 1, by simp, hlt⟩, ?_⟩
        show l.length - ((i + 1 : Nat) : Int).toNat < l.length - (i : Int).toNat
        omega
      · rw [if_neg (by omega)]
        have : i = l.length := by omega
        subst this
        exact ⟨_, rfl, rfl⟩
  have hc : YN (l.length : Int) = some l.length := by rw [zfD (by omega) (by omega)]; simp
  rw [Xl]
  simp only [decide_true, cond_true, hc, Option.bind_some, List.length_replicate]
  cases l with
  | nil => simp; rw [key 0 rfl]; rfl
  | cons a r => simp only [List.isEmpty_cons, cond_false]; rw [key _ rfl]; rfl
def ziM (cap : Int) : List (BitVec 64) := [1#64, 1#64] ++ List.replicate cap.toNat 0#64
theorem zsw {c : Int} (h : 1 ≤ c) (h2 : c ≤ 64) : zd7 c = some (ziM c, ()) := by
  have e : (if 64 < (if c < 1 then (1 : Int) else c) then (64 : Int) else (if c < 1 then (1 : Int) else c)) = c := by
    rw [if_neg (show ¬ c < 1 by omega), if_neg (by omega)]
  have w : w64 (2 + c) = 2 + c := z9 (by omega) (by omega)
  have hc : YN (2 + c) = some (2 + c.toNat) := by rw [zfD (by omega) (by omega)]; congr 1; omega
  rw [zmK]
  simp only [zm, e, w, if_true, hc, Option.bind_some]
  rw [Zd (by omega) (by simp; omega), Option.bind_some, Zd (by omega) (by simp; omega), Option.bind_some]
  have e2 : List.replicate (2 + c.toNat) 0#64 = 0#64 :: 0#64 :: List.replicate c.toNat 0#64 := by rw [Nat.add_comm 2]; rfl
  rw [e2]; rfl
theorem ztE {m : Int} (h : 0 ≤ m) (h2 : m ≤ 16) : zf6 m = some (⟨0, 0, 0, List.replicate m.toNat 0⟩, ()) := by
  have e : (if (if 16 < m then (16 : Int) else m) < 0 then (0 : Int) else (if 16 < m then (16 : Int) else m)) = m := by
    rw [if_neg (show ¬ 16 < m by omega), if_neg (by omega)]
  have hc : YN m = some m.toNat := zfD (by omega) (by omega)
  rw [zn9]
  simp only [zm, e, if_true, hc, Option.bind_some]
def links (m : List (BitVec 64)) (next : Int) : List Int → List (BitVec 64)
  | [] => m
  | [a] => st m (wc (next + a)) 0#64
  | a :: b :: l => links (st m (wc (next + a)) (BitVec.ofInt 64 b)) next (b :: l)
def zje (m : List (BitVec 64)) (head next : Int) (l : List Int) : List (BitVec 64) := st (links m next l) head (Wh 0#64 (l.headD 0))
theorem W7 (m : List (BitVec 64)) (a : Int) (v : BitVec 64) : (st m a v).length = m.length := by unfold st; split <;> simp
theorem zhc : ∀ (l : List Int) (m : List (BitVec 64)) (n : Int), (links m n l).length = m.length
  | [], _, _ => rfl
  | [a], m, n => W7 _ _ _
  | a :: b :: l, m, n => by simp only [links]; rw [zhc (b :: l), W7]
theorem zms (m : List (BitVec 64)) (h n : Int) (l : List Int) : (zje m h n l).length = m.length := by unfold zje; rw [W7, zhc]
theorem zmm {head next : Int} {l : List Int} (hl : l.length < 1000000) : ∀ (k : Nat) (m : List (BitVec 64)) (i : Nat), l.length - i = k → i ≤ l.length → m.length < 4294967296 →
    ∀ n, k < n → ut zbW n (m, head, next, l, (l.length : Int), (i : Int), ()) = some (.brk (links m next (l.drop i), head, l, ()))
  | 0, m, i, hk, hi, hm, n + 1, hn => by
    have : i = l.length := by omega
    subst this
    simp only [ut]
    rw [zek, zm, if_neg (by omega), Option.bind_some, List.drop_length]; rfl
  | k + 1, m, i, hk, hi, hm, n + 1, hn => by
    have hlt : i < l.length := by omega
    have hx := List.getElem?_eq_getElem hlt
    simp only [ut]
    rw [zek, zm, if_pos (by omega), yV (by omega), zm, xu]
    by_cases h2 : i + 1 < l.length
    · have hy := List.getElem?_eq_getElem h2
      have ed : l.drop i = l[i] :: l[i + 1] :: l.drop (i + 2) := by
        rw [List.drop_eq_getElem_cons hlt, List.drop_eq_getElem_cons h2]
      rw [if_pos (by omega), xR hy, Option.bind_some, xR hx, Option.bind_some, UI hm, Option.bind_some, Option.bind_some]
      dsimp only
      rw [zmm hl k _ (i + 1) (by omega) (by omega) (by rw [W7]; exact hm) n (by omega), ed]
      rw [List.drop_eq_getElem_cons h2]; rfl
    · have ed : l.drop i = [l[i]] := by
        rw [List.drop_eq_getElem_cons hlt, List.drop_eq_nil_of_le (by omega)]
      rw [if_neg (by omega), xR hx, Option.bind_some, UI hm, Option.bind_some, Option.bind_some]
      dsimp only
      rw [zmm hl k _ (i + 1) (by omega) (by omega) (by rw [W7]; exact hm) n (by omega), ed, List.drop_eq_nil_of_le (by omega)]
      rfl
theorem zpV {m : List (BitVec 64)} (hm : m.length < 4294967296) {head next : Int} {l : List Int} (hl : l.length < 1000000) : zcQ m head next l = some (zje m head next l, ()) := by
  have e := zmm (head := head) (next := next) hl l.length m 0 (by omega) (by omega) hm YC (wz (by omega))
  rw [show ((0 : Nat) : Int) = 0 from rfl] at e
  rw [zpx, VK, e]
  simp only [Option.bind_some, List.drop_zero, zm]
  unfold zje
  cases l with
  | nil =>
    rw [if_neg (by simp), zeF, Option.bind_some, UI (by rw [zhc]; exact hm)]; rfl
  | cons a r =>
    have : idx (a :: r) 0 = some a := by rw [vQ (by omega)]; rfl
    rw [if_pos (by simp), this, Option.bind_some, zeF, Option.bind_some, UI (by rw [zhc]; exact hm)]; rfl
def zqu : Nat → BitVec 64 → Option (List Int)
  | 0, _ => none
  | f + 1, s => bif decide (s = 0#64) then some [] else (zqu f (s &&& (s - 1#64))).map fun l => (((Go.Lib.ctz 64 s.toNat : Nat) : Int) + 1) :: l
theorem zsd : ∀ t : Fin 64, zqu 66 (BitVec.ofNat 64 t.1) = some (((List.range 6).filter fun i => (BitVec.ofNat 64 t.1).getLsbD i).map fun i : Nat => (i : Int) + 1) := by decide +kernel
def zc6 (s : BitVec 64) : List Int := ((List.range 6).filter fun i => s.getLsbD i).map fun i : Nat => (i : Int) + 1
theorem zsc {s : BitVec 64} (h : s &&& ~~~63#64 = 0#64) : ∃ t : Fin 64, s = BitVec.ofNat 64 t.1 := by
  have h2 : s = s &&& 63#64 := by
    apply BitVec.eq_of_getLsbD_eq
    intro i hi
    have := congrArg (fun x => x.getLsbD i) h
    simp only [BitVec.getLsbD_and, BitVec.getLsbD_not, hi, decide_true, Bool.true_and, BitVec.getLsbD_zero] at this ⊢
    cases h1 : s.getLsbD i <;> cases h3 : (63#64 : BitVec 64).getLsbD i <;> simp_all
  have h3 : s.toNat < 64 := by
    rw [h2, BitVec.toNat_and]
    exact Nat.lt_of_le_of_lt Nat.and_le_right (by decide)
  exact ⟨⟨s.toNat, h3⟩, by simp⟩
theorem zxI : ∀ t : Fin 64, Go.Lib.ctz 64 t.1 ≤ 64 := by decide +kernel
theorem zpz : ∀ (f : Nat) (s : BitVec 64), s.toNat < 64 → zao f s = zqu f s
  | 0, _, _ => rfl
  | f + 1, s, h => by
    simp only [zao, zqu]
    rw [zpz f _ (by rw [BitVec.toNat_and]; exact Nat.lt_of_le_of_lt Nat.and_le_left h)]
    have : Go.Lib.ctz 64 s.toNat ≤ 64 := zxI ⟨s.toNat, h⟩
    have e : w64 (tz s + 1) = ((Go.Lib.ctz 64 s.toNat : Nat) : Int) + 1 := by
      unfold tz
      exact z9 (by omega) (by omega)
    rw [e]
theorem znE : ∀ (l acc : List Int), (acc.length + l.length) < 4294967296 → Zt zd8 l (acc, ()) = some (acc ++ l, ())
  | [], acc, _ => by simp [Zt]
  | a :: l, acc, h => by
    simp only [List.length_cons] at h
    rw [Zt, zmU, wu (by simp; omega), Option.bind_some, Option.bind_some, znE l _ (by simp; omega)]
    simp
theorem zu5 (s : BitVec 64) : (zc6 s).length ≤ 6 := by
  unfold zc6
  rw [List.length_map]
  exact Nat.le_trans (List.length_filter_le _ _) (by simp)
theorem zvE {s : BitVec 64} (h : s &&& ~~~63#64 = 0#64) : zjs s = some (zc6 s, ()) := by
  obtain ⟨t, rfl⟩ := zsc h
  have e : zkm (BitVec.ofNat 64 t.1) = some (zc6 (BitVec.ofNat 64 t.1)) := by
    show zao 66 _ = _
    rw [zpz 66 _ (by simp; omega), zsd t]; rfl
  have := zu5 (BitVec.ofNat 64 t.1)
  rw [zp6, zqn, Option.bind_some, e, Option.bind_some, znE _ _ (by simp; omega)]
  rfl
theorem zm9 (n : Nat) (hn : 1 ≤ n) : ∀ (f : Nat) (l : List Int), (Zq n f l).length ≤ l.length
  | 0, l => by simp [Zq]
  | f + 1, [] => by simp [Zq]
  | f + 1, x :: l => by
    have := zm9 n hn f ((x :: l).drop n)
    simp only [Zq, List.length_cons, List.length_drop] at this ⊢
    omega
theorem zh1 (n : Nat) : ∀ (f : Nat) (l c : List Int), c ∈ Zq n f l → c.length ≤ l.length
  | 0, l, c, h => by simp [Zq] at h
  | f + 1, [], c, h => by simp [Zq] at h
  | f + 1, x :: l, c, h => by
    simp only [Zq, List.mem_cons] at h
    rcases h with rfl | h
    · rw [List.length_take]; exact Nat.min_le_right _ _
    · have := zh1 n f _ c h
      simp only [List.length_drop] at this
      omega
def Uc (p : zd) (w : Nat) : zk := ⟨0, 0, 0, (w : Int) + 1, 0, [], ⟨2, 0, ZO p ((w : Int) + 1), p.Cap, 0#64, 0#64, 0, 0⟩, ⟨0, 0, 0, 0, 0#64, 0, 0, 0⟩, ⟨0, 0, 0, 0, ⟨0, 0, 0, 0, 0#64, 0#64, 0, 0⟩, ⟨0, 0, 0, 0, 0#64, 0, 0, 0⟩, 0, 0⟩⟩
def Wi (p : zd) (k : Nat) : List (BitVec 64) := (List.range k).flatMap fun _ => ziM p.Cap
theorem znL (c : Int) : (ziM c).length = c.toNat + 2 := by unfold ziM; rw [List.length_append, List.length_replicate]; exact Nat.add_comm _ _
theorem zl5 (p : zd) (k : Nat) : Wi p (k + 1) = Wi p k ++ ziM p.Cap := by unfold Wi; rw [List.range_succ, List.flatMap_append]; simp
theorem zeH (p : zd) : ∀ k, (Wi p k).length = k * (p.Cap.toNat + 2)
  | 0 => by simp [Wi]
  | k + 1 => by rw [zl5, List.length_append, zeH p k, znL, Nat.succ_mul]
theorem zwZ {p : zd} {s1 : BitVec 64} {s5 : Int} {s6 : Int} {s7 : Int} {s8 : Int} {s9 : Int} {s10 : Int} {s11 : Int} {s12 : Int} {s13 : Int} {s14 : BitVec 64} {s15 : Int} {s16 : zp} {s17 : Int} {s18 : Int} {s19 : Bool} {s20 : Bool} {s21 : Int} {s22 : Int} {s23 : Int} {s24 : Int} {s25 : zq} {s26 : zd} {s27 : Int} {s28 : zp} {s29 : Int} {s30 : Int} {s31 : Bool} {s32 : Bool} {s33 : Int} {s34 : zh} {s35 : zq} {s36 : List (List Int)} {s37 : List (List Int)} {s38 : List (List zg)} {s39 : List zj} {s40 : List (List Int)} {s41 : List (BitVec 64)} {s42 : List (List Int)} {s43 : List Int} {s44 : List Int} {s45 : List zk} {s46 : List zc} {s47 : List (List Int)} {s49 : List (List Int)} {s50 : List Int} {s52 : List zc} (hp : zO p) :
    yp V4 (s1, p.Workers, 0, p, s5, s6, s7, s8, s9, s10, s11, s12, s13, s14, s15, s16, s17, s18, s19, s20, s21, s22, s23, s24, s25, s26, s27, s28, s29, s30, s31, s32, s33, s34, s35, s36, s37, s38, s39, s40, s41, s42, s43, s44, s45, s46, s47, [], s49, s50, [], s52, ()) = some (.brk (s1, p, s5, s6, s7, s8, s9, s10, s11, s12, s13, s14, s15, s16, s17, s18, s19, s20, s21, s22, s23, s24, s25, s26, s27, s28, s29, s30, s31, s32, s33, s34, s35, s36, s37, s38, s39, s40, s41, s42, s43, s44, s45, s46, s47, (Wi p p.Workers.toNat), s49, s50, ((List.range p.Workers.toNat).map (Uc p)), s52, ())) := by
  have hw := hp.wk
  have hc := hp.cap
  refine (vZ (f := V4) (fun a => ∃ i : Nat, a = (s1, p.Workers, (i : Int), p, s5, s6, s7, s8, s9, s10, s11, s12, s13, s14, s15, s16, s17, s18, s19, s20, s21, s22, s23, s24, s25, s26, s27, s28, s29, s30, s31, s32, s33, s34, s35, s36, s37, s38, s39, s40, s41, s42, s43, s44, s45, s46, s47, (Wi p i), s49, s50, ((List.range i).map (Uc p)), s52, ()) ∧ (i : Int) ≤ p.Workers) (fun a => (p.Workers - a.2.2.1).toNat) (fun o => o = .brk (s1, p, s5, s6, s7, s8, s9, s10, s11, s12, s13, s14, s15, s16, s17, s18, s19, s20, s21, s22, s23, s24, s25, s26, s27, s28, s29, s30, s31, s32, s33, s34, s35, s36, s37, s38, s39, s40, s41, s42, s43, s44, s45, s46, s47, (Wi p p.Workers.toNat), s49, s50, ((List.range p.Workers.toNat).map (Uc p)), s52, ())) ?_ (s1, p.Workers, 0, p, s5, s6, s7, s8, s9, s10, s11, s12, s13, s14, s15, s16, s17, s18, s19, s20, s21, s22, s23, s24, s25, s26, s27, s28, s29, s30, s31, s32, s33, s34, s35, s36, s37, s38, s39, s40, s41, s42, s43, s44, s45, s46, s47, [], s49, s50, [], s52, ()) ⟨0, rfl, by omega⟩ (wz (by dsimp only; omega))).elim fun o h => ?_
  rotate_left
  · rw [h.1, h.2]
  · rintro _ ⟨i, rfl, hi⟩
    rw [zlR, zm]
    by_cases hlt : (i : Int) < p.Workers
    · have hl := zeH p i
      have hl2 := znL p.Cap
      have hb : i * (p.Cap.toNat + 2) ≤ 3 * 5 := Nat.mul_le_mul (by omega) (by omega)
      rw [if_pos hlt, zsw hc.1 (by omega), Option.bind_some, wu (l := Wi p i ++ ziM p.Cap) (by rw [List.length_append]; omega), Option.bind_some, zmc, Option.bind_some, zfn, Option.bind_some, wu (by simp <;> omega), Option.bind_some, yV (by omega)]
      refine ⟨_, rfl, ⟨i + 1, ?_, by omega⟩, ?_⟩
      · rw [zl5, List.range_succ, List.map_append]; rfl
      · show (p.Workers - ((i + 1 : Nat) : Int)).toNat < (p.Workers - (i : Int)).toNat
        omega
    · rw [if_neg hlt]
      have : i = p.Workers.toNat := by omega
      subst this
      exact ⟨_, rfl, rfl⟩
def Ym (k : Nat) : List Int := (List.range k).map fun i : Nat => (i : Int) + 1
theorem zrY (k : Nat) : (Ym k).length = k := by simp [Ym]
theorem zwN {b : Int} {s1 : BitVec 64} {s4 : zd} {s5 : Int} {s6 : Int} {s7 : Int} {s8 : Int} {s9 : Int} {s10 : Int} {s11 : Int} {s12 : Int} {s13 : Int} {s14 : BitVec 64} {s15 : Int} {s16 : zp} {s17 : Int} {s18 : Int} {s19 : Bool} {s20 : Bool} {s21 : Int} {s22 : Int} {s23 : Int} {s24 : Int} {s25 : zq} {s26 : zd} {s27 : Int} {s28 : zp} {s29 : Int} {s30 : Int} {s31 : Bool} {s32 : Bool} {s33 : Int} {s34 : zh} {s35 : zq} {s37 : List (List Int)} {s38 : List (List Int)} {s39 : List (List zg)} {s40 : List zj} {s41 : List (List Int)} {s42 : List (BitVec 64)} {s43 : List (List Int)} {s44 : List Int} {s45 : List Int} {s46 : List zk} {s47 : List zc} {s48 : List (List Int)} {s49 : List (BitVec 64)} {s50 : List (List Int)} {s51 : List Int} {s52 : List zk} {s53 : List zc} (hb : 0 ≤ b ∧ b < 1000) :
    yp VB (s1, b, 0, s4, s5, s6, s7, s8, s9, s10, s11, s12, s13, s14, s15, s16, s17, s18, s19, s20, s21, s22, s23, s24, s25, s26, s27, s28, s29, s30, s31, s32, s33, s34, s35, [], s37, s38, s39, s40, s41, s42, s43, s44, s45, s46, s47, s48, s49, s50, s51, s52, s53, ()) = some (.brk (s1, s4, s5, s6, s7, s8, s9, s10, s11, s12, s13, s14, s15, s16, s17, s18, s19, s20, s21, s22, s23, s24, s25, s26, s27, s28, s29, s30, s31, s32, s33, s34, s35, (Ym b.toNat), s37, s38, s39, s40, s41, s42, s43, s44, s45, s46, s47, s48, s49, s50, s51, s52, s53, ())) := by
  refine (vZ (f := VB) (fun a => ∃ i : Nat, a = (s1, b, (i : Int), s4, s5, s6, s7, s8, s9, s10, s11, s12, s13, s14, s15, s16, s17, s18, s19, s20, s21, s22, s23, s24, s25, s26, s27, s28, s29, s30, s31, s32, s33, s34, s35, (Ym i), s37, s38, s39, s40, s41, s42, s43, s44, s45, s46, s47, s48, s49, s50, s51, s52, s53, ()) ∧ (i : Int) ≤ b) (fun a => (b - a.2.2.1).toNat) (fun o => o = .brk (s1, s4, s5, s6, s7, s8, s9, s10, s11, s12, s13, s14, s15, s16, s17, s18, s19, s20, s21, s22, s23, s24, s25, s26, s27, s28, s29, s30, s31, s32, s33, s34, s35, (Ym b.toNat), s37, s38, s39, s40, s41, s42, s43, s44, s45, s46, s47, s48, s49, s50, s51, s52, s53, ())) ?_ (s1, b, 0, s4, s5, s6, s7, s8, s9, s10, s11, s12, s13, s14, s15, s16, s17, s18, s19, s20, s21, s22, s23, s24, s25, s26, s27, s28, s29, s30, s31, s32, s33, s34, s35, [], s37, s38, s39, s40, s41, s42, s43, s44, s45, s46, s47, s48, s49, s50, s51, s52, s53, ()) ⟨0, rfl, by omega⟩ (wz (by dsimp only; omega))).elim fun o h => ?_
  rotate_left
  · rw [h.1, h.2]
  · rintro _ ⟨i, rfl, hi⟩
    rw [zkV, zm]
    by_cases hlt : (i : Int) < b
    · have := zrY i
      rw [if_pos hlt, wu (by rw [List.length_append]; simp; omega), Option.bind_some, yV (by omega)]
      refine ⟨_, rfl, ⟨i + 1, ?_, by omega⟩, ?_⟩
      · unfold Ym; rw [List.range_succ, List.map_append]; rfl
      · show (b - ((i + 1 : Nat) : Int)).toNat < (b - (i : Int)).toNat
        omega
    · rw [if_neg hlt]
      have : i = b.toNat := by omega
      subst this
      exact ⟨_, rfl, rfl⟩
theorem zs2 {s1 : zd} {s2 : Int} {s3 : Int} {s4 : Int} {s5 : Int} {s6 : Int} {s7 : Int} {s8 : Int} {s9 : Int} {s10 : Int} {s11 : BitVec 64} {s12 : Int} {s13 : zp} {s14 : Int} {s15 : Int} {s16 : Bool} {s17 : Bool} {s18 : Int} {s19 : Int} {s20 : Int} {s21 : Int} {s22 : zq} {s23 : zd} {s24 : Int} {s25 : zp} {s26 : Int} {s27 : Int} {s28 : Bool} {s29 : Bool} {s30 : Int} {s31 : zh} {s32 : zq} {s33 : List Int} {s34 : List (List Int)} {s35 : List (List Int)} {s36 : List (List zg)} {s37 : List zj} {s38 : List (List Int)} {s39 : List (BitVec 64)} {s40 : List (List Int)} {s41 : List Int} {s42 : List Int} {s43 : List zk} {s44 : List zc} {s45 : List (List Int)} {s46 : List (BitVec 64)} {s48 : List Int} {s49 : List zk} {s50 : List zc} : ∀ (ys acc : List (List Int)), acc.length + ys.length < 1000000 → (∀ c ∈ ys, c.length < 1000000) → Zt za9 ys (s1, s2, s3, s4, s5, s6, s7, s8, s9, s10, s11, s12, s13, s14, s15, s16, s17, s18, s19, s20, s21, s22, s23, s24, s25, s26, s27, s28, s29, s30, s31, s32, s33, s34, s35, s36, s37, s38, s39, s40, s41, s42, s43, s44, s45, s46, acc, s48, s49, s50, ()) = some (s1, s2, s3, s4, s5, s6, s7, s8, s9, s10, s11, s12, s13, s14, s15, s16, s17, s18, s19, s20, s21, s22, s23, s24, s25, s26, s27, s28, s29, s30, s31, s32, s33, s34, s35, s36, s37, s38, s39, s40, s41, s42, s43, s44, s45, s46, (acc ++ ys), s48, s49, s50, ())
  | [], acc, _, _ => by simp [Zt]
  | y :: ys, acc, h, hc => by
    simp only [List.length_cons] at h
    have hy := hc y (List.mem_cons_self ..)
    rw [Zt, zkG, WT (by omega), Option.bind_some, wu (by simp <;> omega), Option.bind_some, Option.bind_some, zs2 ys _ (by simp <;> omega) (fun c h' => hc c (List.mem_cons_of_mem _ h'))]
    simp
def wB (r : List Int) : zc := ⟨0, 0, 0, 0, 0, 0, 0, 0, r, [], [], ⟨0, 0, 0, 0, 0#64, 0, 0, 0⟩, ⟨0, 0, 0, 0, ⟨0, 0, 0, 0, 0#64, 0#64, 0, 0⟩, ⟨0, 0, 0, 0, 0#64, 0, 0, 0⟩, 0, 0⟩⟩
theorem zwE {p : zd} {s4 : Int} {s5 : Int} {s6 : Int} {s7 : Int} {s8 : Int} {s9 : Int} {s10 : Int} {s11 : Int} {s12 : Int} {s13 : BitVec 64} {s14 : Int} {s15 : zp} {s16 : Int} {s17 : Int} {s18 : Bool} {s19 : Bool} {s20 : Int} {s21 : Int} {s22 : Int} {s23 : Int} {s24 : zq} {s25 : zd} {s26 : Int} {s27 : List (BitVec 64)} {s28 : zp} {s29 : Int} {s30 : Int} {s31 : Bool} {s32 : Bool} {s33 : Int} {s34 : zh} {s35 : zq} {s36 : List (List Int)} {s37 : List (List Int)} {s38 : List (List zg)} {s39 : List zj} {s40 : List (List Int)} {s41 : List (BitVec 64)} {s42 : List (List Int)} {s43 : List Int} {s44 : List Int} {s45 : List zk} {s46 : List zc} {s47 : List (List Int)} {s48 : List (List Int)} {s49 : List Int} {s50 : List zk} (hl : p.Regs.length < 1000000) (hr : ∀ r ∈ p.Regs, r.length < 1000000) :
    yp Vv (p.Regs, (p.Regs.length : Int), 0, s4, s5, s6, s7, s8, s9, s10, s11, s12, s13, s14, s15, s16, s17, s18, s19, s20, s21, s22, s23, s24, s25, s26, s27, s28, s29, s30, s31, s32, s33, s34, s35, s36, s37, s38, s39, s40, s41, s42, s43, s44, s45, s46, s47, s48, s49, s50, [], ()) = some (.brk (s4, s5, s6, s7, s8, s9, s10, s11, s12, s13, s14, s15, s16, s17, s18, s19, s20, s21, s22, s23, s24, s25, s26, s27, s28, s29, s30, s31, s32, s33, s34, s35, s36, s37, s38, s39, s40, s41, s42, s43, s44, s45, s46, s47, s48, s49, s50, (p.Regs.map wB), ())) := by
  refine (vZ (f := Vv) (fun a => ∃ i : Nat, a = (p.Regs, (p.Regs.length : Int), (i : Int), s4, s5, s6, s7, s8, s9, s10, s11, s12, s13, s14, s15, s16, s17, s18, s19, s20, s21, s22, s23, s24, s25, s26, s27, s28, s29, s30, s31, s32, s33, s34, s35, s36, s37, s38, s39, s40, s41, s42, s43, s44, s45, s46, s47, s48, s49, s50, ((p.Regs.take i).map wB), ()) ∧ i ≤ p.Regs.length) (fun a => p.Regs.length - a.2.2.1.toNat) (fun o => o = .brk (s4, s5, s6, s7, s8, s9, s10, s11, s12, s13, s14, s15, s16, s17, s18, s19, s20, s21, s22, s23, s24, s25, s26, s27, s28, s29, s30, s31, s32, s33, s34, s35, s36, s37, s38, s39, s40, s41, s42, s43, s44, s45, s46, s47, s48, s49, s50, (p.Regs.map wB), ())) ?_ (p.Regs, (p.Regs.length : Int), 0, s4, s5, s6, s7, s8, s9, s10, s11, s12, s13, s14, s15, s16, s17, s18, s19, s20, s21, s22, s23, s24, s25, s26, s27, s28, s29, s30, s31, s32, s33, s34, s35, s36, s37, s38, s39, s40, s41, s42, s43, s44, s45, s46, s47, s48, s49, s50, [], ()) ⟨0, rfl, by omega⟩ (wz (by dsimp only; omega))).elim fun o h => ?_
  rotate_left
  · rw [h.1, h.2]
  · rintro _ ⟨i, rfl, hi⟩
    rw [zkr, zm]
    rcases Nat.lt_or_ge i p.Regs.length with hlt | hge
    · have hx := List.getElem?_eq_getElem hlt
      have hh := hr _ (List.getElem_mem hlt)
      rw [if_pos (by omega), xR hx, Option.bind_some, WT (by omega), Option.bind_some, wu (by simp <;> omega), Option.bind_some, yV (by omega)]
      refine ⟨_, rfl, ⟨i + 1, ?_, hlt⟩, ?_⟩
      · rw [List.take_add_one, hx, List.map_append]; rfl
      · show p.Regs.length - ((i + 1 : Nat) : Int).toNat < p.Regs.length - (i : Int).toNat
        omega
    · rw [if_neg (by omega)]
      have : i = p.Regs.length := by omega
      subst this
      exact ⟨_, rfl, by rw [List.take_length]⟩
def xL (p : zd) : Nat := (p.Most + p.Workers + p.Mutators).toNat
def uB (p : zd) : List (List Int) := Zq p.Bin.toNat (zc6 (Y6 p)).length (zc6 (Y6 p))
def vm (p : zd) : zb :=
  { P := p, H := p.H,
    M := zje (zje (Wi p p.Workers.toNat ++ List.replicate (2 + xL p) 0#64) (vl p) (yP p) ((Ym (xL p)).take (uB p).length)) (yP p) (yP p) ((Ym (xL p)).drop (uB p).length),
    Bins := [[]] ++ uB p ++ List.replicate (xL p - (uB p).length) [],
    T := ⟨Y6 p, 0#64⟩, Work := cnt (Y6 p), Epoch := 0, Flag := false, Done := false, Restarts := 0,
    Acks := List.replicate p.Mutators.toNat 0, L := ⟨0, 0, 0, List.replicate p.Mutators.toNat 0⟩,
    Ws := (List.range p.Workers.toNat).map (Uc p), Ms := p.Regs.map wB, D := ⟨0, 0⟩ }
theorem zx2 : ∀ r : Fin 7, bit (r.1 : Int) &&& ~~~63#64 = 0#64 := by decide
theorem zui {r n : Int} (h : 0 ≤ r) (h2 : r ≤ n) (h3 : n ≤ 6) : bit r &&& ~~~X7 n = 0#64 := by
  have := zpZ ⟨r.toNat, by omega⟩ ⟨n.toNat, by omega⟩ (by show r.toNat ≤ n.toNat; omega)
  simpa [Int.toNat_of_nonneg h, Int.toNat_of_nonneg (show 0 ≤ n by omega)] using this
theorem zqK {a b c : BitVec 64} (ha : a &&& ~~~c = 0#64) (hb : b &&& ~~~c = 0#64) : (a ||| b) &&& ~~~c = 0#64 := by
  apply BitVec.eq_of_getLsbD_eq
  intro i hi
  have h1 := congrArg (fun x => x.getLsbD i) ha
  have h2 := congrArg (fun x => x.getLsbD i) hb
  simp only [BitVec.getLsbD_and, BitVec.getLsbD_or, BitVec.getLsbD_not, BitVec.getLsbD_zero, hi, decide_true, Bool.true_and] at h1 h2 ⊢
  revert h1 h2
  generalize a.getLsbD i = x
  generalize b.getLsbD i = y
  generalize c.getLsbD i = z
  cases x <;> cases y <;> cases z <;> decide
theorem ztj {c : BitVec 64} {l : List Int} (h : ∀ o ∈ l, bit o &&& ~~~c = 0#64) : ∀ (z : BitVec 64), z &&& ~~~c = 0#64 → l.foldl (fun s o => s ||| bit o) z &&& ~~~c = 0#64 := by
  induction l with
  | nil => intro z hz; exact hz
  | cons a l ih => intro z hz; exact ih (fun o ho => h o (List.mem_cons_of_mem _ ho)) _ (zqK hz (h a (List.mem_cons_self ..)))
theorem zhD {p : zd} (h : zO p) : Y6 p &&& ~~~X7 (p.H.Objs.length : Int) = 0#64 := by
  have hn := h.n
  have key : ∀ (L : List (List Int)) (z : BitVec 64), (∀ r ∈ L, ∀ v ∈ r, 0 ≤ v ∧ v ≤ (p.H.Objs.length : Int)) → z &&& ~~~X7 (p.H.Objs.length : Int) = 0#64 → L.foldl (fun s l => s ||| zeE l) z &&& ~~~X7 (p.H.Objs.length : Int) = 0#64 := by
    intro L
    induction L with
    | nil => intro z _ hz; exact hz
    | cons r L ih =>
      intro z hr hz
      refine ih _ (fun r' h' => hr r' (List.mem_cons_of_mem _ h')) (zqK hz (ztj (fun o ho => ?_) _ (by simp)))
      have := hr r (List.mem_cons_self ..) o ho
      exact zui this.1 this.2 hn.2
  exact key _ _ (fun r hr => (h.reg r hr).2) (zlX h)
theorem zsq {a b c : BitVec 64} (h : a &&& ~~~b = 0#64) (h2 : b &&& ~~~c = 0#64) : a &&& ~~~c = 0#64 := by
  apply BitVec.eq_of_getLsbD_eq
  intro i hi
  have h1 := congrArg (fun x => x.getLsbD i) h
  have h2 := congrArg (fun x => x.getLsbD i) h2
  simp only [BitVec.getLsbD_and, BitVec.getLsbD_not, BitVec.getLsbD_zero, hi, decide_true, Bool.true_and] at h1 h2 ⊢
  revert h1 h2
  generalize a.getLsbD i = x
  generalize b.getLsbD i = y
  generalize c.getLsbD i = z
  cases x <;> cases y <;> cases z <;> decide
theorem zsf : ∀ n : Fin 7, X7 (n.1 : Int) &&& ~~~63#64 = 0#64 := by decide
theorem zl6 {p : zd} (h : zO p) : Y6 p &&& ~~~63#64 = 0#64 := by
  have hn := h.n
  refine zsq (zhD h) ?_
  exact zsf ⟨p.H.Objs.length, by omega⟩
theorem ztc : ∀ (n : Fin 7) (t : Fin 64), BitVec.ofNat 64 t.1 &&& ~~~X7 (n.1 : Int) = 0#64 → (zc6 (BitVec.ofNat 64 t.1)).length ≤ n.1 := by decide +kernel
theorem zlg {p : zd} (h : zO p) : (zc6 (Y6 p)).length ≤ p.H.Objs.length := by
  have hn := h.n
  obtain ⟨t, ht⟩ := zsc (zl6 h)
  have h2 := zhD h
  rw [ht] at h2 ⊢
  exact ztc ⟨p.H.Objs.length, by omega⟩ t h2
theorem zra {p : zd} (h : zO p) : (uB p).length ≤ p.H.Objs.length := by
  have hb := h.bin
  exact Nat.le_trans (zm9 _ (by omega) _ _) (zlg h)
theorem zki {p : zd} (h : zO p) : UF p = some (vm p, ()) := by
  have hw := h.wk
  have hc := h.cap
  have hm := h.mt
  have hb := h.bin
  have hn := h.n
  have hmo := h.most
  have hrl := h.regs
  have hreg : ∀ r ∈ p.Regs, r.length < 1000000 := fun r hr => by have := (h.reg r hr).1; omega
  have hobj : ∀ o ∈ p.H.Objs, o.length < 1000000 := fun o ho => by have := (h.objs o ho).1; have := h.slots; omega
  have hfl := zra h
  have hgl := zlg h
  have hcl := zeH p p.Workers.toNat
  have hcb : p.Workers.toNat * (p.Cap.toNat + 2) ≤ 3 * 5 := Nat.mul_le_mul (by omega) (by omega)
  have hbn : (xL p : Int) = p.Most + p.Workers + p.Mutators := by unfold xL; omega
  have eb : zcX p = some ((xL p : Int), ()) := by
    rw [zoH, z9 (a := p.Most + p.Workers) (by omega) (by omega), z9 (by omega) (by omega), hbn]
  have hul := zrY (xL p)
  have ec : W2 (zc6 (Y6 p)) p.Bin = some (uB p) := by
    show zf3 _ _ = _
    unfold zf3 uB
    have c1 : (decide (1 ≤ p.Bin) && decide (p.Bin < 1000000) && decide (((zc6 (Y6 p)).length : Int) < 1000000)) = true := by simp <;> omega
    rw [c1]; rfl
  have cut1 : cut (Ym (xL p)) 0 ((uB p).length : Int) = some ((Ym (xL p)).take (uB p).length) := by
    unfold cut
    have : ((uB p).length : Int) ≤ ((Ym (xL p)).length : Int) := by omega
    simp [this]
  have cut2 : cut (Ym (xL p)) ((uB p).length : Int) ((Ym (xL p)).length : Int) = some ((Ym (xL p)).drop (uB p).length) := by
    unfold cut
    have : ((uB p).length : Int) ≤ ((Ym (xL p)).length : Int) := by omega
    simp [this]
  rw [zoB, ztn h]
  simp only [Option.bind_some, Bool.not_true, cond_false]
  rw [zta (by omega) hreg]
  simp only [Option.bind_some, zuJ, ztE hm.1 (show p.Mutators ≤ 16 by omega)]
  rw [zu2 (by omega) hobj]
  simp only [Option.bind_some]
  rw [zwZ h]
  simp only [Option.bind_some, eb]
  have e3 : (2 + (xL p : Int)).toNat = 2 + xL p := by omega
  rw [z9 (a := 2 + (xL p : Int)) (by omega) (by omega), zp3 (by omega) (by omega), e3, Option.bind_some, wu (l := Wi p p.Workers.toNat ++ List.replicate (2 + xL p) 0#64) (by simp <;> omega), Option.bind_some, zwN (by omega)]
  dsimp only [Option.bind_some]
  rw [Int.toNat_natCast, zvE (zl6 h), Option.bind_some, zee, zm, if_neg (by omega), Option.bind_some, ec, Option.bind_some, zs2 _ _ (by simp <;> omega) (fun c hc' => by have := zh1 _ _ _ _ hc'; omega)]
  dsimp only [Option.bind_some]
  have e1 : w64 ((([[]] ++ uB p : List (List Int)).length : Int) - 1) = ((uB p).length : Int) := by
    rw [z9 (by simp <;> omega) (by simp <;> omega)]; simp
  have e2 : w64 (((Ym (xL p)).length : Int) - ((uB p).length : Int)) = ((xL p - (uB p).length : Nat) : Int) := by
    rw [z9 (by omega) (by omega)]; omega
  rw [e1, e2, zp3 (by omega) (by omega), Int.toNat_natCast, Option.bind_some, wu (by simp <;> omega), Option.bind_some, zfc, Option.bind_some, ze3, Option.bind_some, cut1, Option.bind_some, zpV (by simp <;> omega) (by simp <;> omega), Option.bind_some, zcY, Option.bind_some, Option.bind_some, cut2, Option.bind_some, zpV (by rw [zms]; simp <;> omega) (by simp <;> omega), Option.bind_some, decide_true, cond_true, zfD hm.1 (show p.Mutators < 4294967296 by omega), Option.bind_some, zwE (by omega) hreg]
  rfl
end
end Go.Pe.G
namespace Go.Pe.G
open Go.Pe
noncomputable section
theorem zgZ (h : BitVec 64) : yT h = ((h.toNat % 4294967296 : Nat) : Int) := by
  unfold yT
  have e : (h &&& 4294967295#64).toNat = h.toNat % 4294967296 := by
    rw [BitVec.toNat_and]
    exact Nat.and_two_pow_sub_one_eq_mod h.toNat 32
  rw [BitVec.toInt_eq_toNat_cond, e]
  omega
theorem zpA (h : BitVec 64) : 0 ≤ yT h ∧ yT h < 4294967296 := by rw [zgZ]; omega
theorem zpP (v : BitVec 64) {n : Int} (h : 0 ≤ n) (h2 : n < 4294967296) : yT (Wh v n) = n := by
  rw [zgZ]
  unfold Wh
  rw [BitVec.toNat_or, BitVec.toNat_and, BitVec.toNat_shiftLeft]
  have e1 : (v.toNat <<< 32 % 2 ^ 64 ||| (BitVec.ofInt 64 n).toNat &&& (4294967295#64).toNat) % 2 ^ 32 = (v.toNat <<< 32 % 2 ^ 64) % 2 ^ 32 ||| ((BitVec.ofInt 64 n).toNat &&& (4294967295#64).toNat) % 2 ^ 32 := Nat.or_mod_two_pow
  have e2 : v.toNat <<< 32 % 2 ^ 64 % 2 ^ 32 = 0 := by rw [Nat.shiftLeft_eq]; omega
  have e3 : (BitVec.ofInt 64 n).toNat &&& (4294967295#64).toNat = n.toNat := by
    have : (BitVec.ofInt 64 n).toNat = n.toNat := by rw [BitVec.toNat_ofInt]; omega
    rw [this]
    exact (Nat.and_two_pow_sub_one_eq_mod n.toNat 32).trans (Nat.mod_eq_of_lt (by omega))
  rw [show (4294967296 : Nat) = 2 ^ 32 from rfl, e1, e2, e3, Nat.zero_or, Nat.mod_eq_of_lt (by omega)]
  omega
theorem zl4 {n : Int} (h : 0 ≤ n) (h2 : n < 4294967296) : (BitVec.ofInt 64 n).toInt = n := by
  have e : (BitVec.ofInt 64 n).toNat = n.toNat := by rw [BitVec.toNat_ofInt]; omega
  rw [BitVec.toInt_eq_toNat_cond, e]
  omega
theorem zn6 {m : List (BitVec 64)} {a b : Int} {v : BitVec 64} : ld (st m a v) b = if a = b ∧ 0 ≤ a ∧ a < m.length then v else ld m b := by
  unfold ld st
  by_cases hb : 0 ≤ b
  · rw [if_pos hb, if_pos hb]
    by_cases ha : 0 ≤ a
    · rw [if_pos ha, List.getD_eq_getElem?_getD, List.getD_eq_getElem?_getD, List.getElem?_set]
      by_cases hab : a.toNat = b.toNat
      · have e : a = b := by omega
        subst e
        by_cases hl : a.toNat < m.length
        · rw [if_pos rfl, if_pos hl, if_pos ⟨rfl, ha, by omega⟩]; rfl
        · rw [if_pos rfl, if_neg hl, if_neg (by omega), List.getElem?_eq_none (by omega)]
      · rw [if_neg hab, if_neg (by omega)]
    · rw [if_neg ha, if_neg (by omega)]
  · rw [if_neg hb, if_neg hb, if_neg (by omega)]
theorem zcj {m : List (BitVec 64)} {a b : Int} {v : BitVec 64} (h : a ≠ b) : ld (st m a v) b = ld m b := by
  rw [zn6, if_neg (fun h' => h h'.1)]
theorem zax {p : zd} (h : zO p) : vl p = p.Workers * (p.Cap + 2) ∧ 3 ≤ vl p ∧ vl p ≤ 15 := by
  have hw := h.wk
  have hc := h.cap
  unfold vl
  rw [vV (a := p.Cap + 2) (by omega) (by omega)]
  have hx : p.Workers = 1 ∨ p.Workers = 2 ∨ p.Workers = 3 := by omega
  rcases hx with hx | hx | hx <;> rw [hx, vV (by omega) (by omega)] <;> omega
theorem zbR {p : zd} (h : zO p) : yP p = vl p + 1 := by
  have := zax h
  unfold yP
  rw [vV (by omega) (by omega)]
theorem zmD {p : zd} (h : zO p) {w : Int} (h1 : 1 ≤ w) (h2 : w ≤ p.Workers) : ZO p w = (w - 1) * (p.Cap + 2) ∧ 0 ≤ ZO p w ∧ ZO p w + p.Cap + 2 ≤ vl p := by
  have hw := h.wk
  have hc := h.cap
  have hf := (zax h).1
  unfold ZO
  rw [vV (a := p.Cap + 2) (by omega) (by omega), vV (a := w - 1) (by omega) (by omega)]
  have hx : p.Workers = 1 ∨ p.Workers = 2 ∨ p.Workers = 3 := by omega
  have hy : w = 1 ∨ w = 2 ∨ w = 3 := by omega
  rw [hf]
  rcases hx with hx | hx | hx <;> rcases hy with hy | hy | hy <;> first | omega | (rw [hx, hy, vV (by omega) (by omega)] <;> omega)
theorem zvP {p : zd} (h : zO p) {d : zi} {w : Int} (h1 : 1 ≤ w) (h2 : w ≤ p.Workers) (hb : d.Base = ZO p w) (hc : d.Cap = p.Cap) (i : BitVec 64) :
    zbc d i = d.Base + 2 + ((i.toNat % p.Cap.toNat : Nat) : Int) ∧ d.Base + 2 ≤ zbc d i ∧ zbc d i < d.Base + 2 + p.Cap := by
  have hcp := h.cap
  have hd := zmD h h1 h2
  have hf := zax h
  have hs : (Ud d).toNat = p.Cap.toNat := by
    unfold Ud
    rw [hc, if_neg (by omega), BitVec.toNat_ofInt]
    omega
  have hlt : i.toNat % p.Cap.toNat < p.Cap.toNat := Nat.mod_lt _ (by omega)
  have hm : (i % Ud d).toInt = ((i.toNat % p.Cap.toNat : Nat) : Int) := by
    rw [BitVec.toInt_eq_toNat_cond, BitVec.toNat_umod, hs]
    omega
  unfold zbc
  rw [hm, vV (a := d.Base + 2) (by omega) (by omega), vV (by omega) (by omega)]
  omega
structure SOk (p : zd) (nb : Nat) (s : zb) : Prop where
  P : s.P = p
  bins : s.Bins.length = nb
  nbk : 1 ≤ nb ∧ nb < 1000
  mem : s.M.length < 100000
  cF : yT (ld s.M (vl p)) < nb
  cE : yT (ld s.M (yP p)) < nb
  cL : ∀ a, yP p < a → 0 ≤ (ld s.M a).toInt ∧ (ld s.M a).toInt < nb
structure MOk (p : zd) (nb : Nat) (g : zC) : Prop where
  who : g.Mode = 1 → 1 ≤ g.Who ∧ g.Who ≤ p.Workers
  d3 : g.PC = 3 → g.D.Kind = 1 ∧ g.D.Base = ZO p g.Who ∧ g.D.Cap = p.Cap ∧ g.Mode = 1
  c5 : g.PC = 5 → g.C.Kind = 2 ∧ g.C.Head = yP p ∧ g.C.Next = yP p ∧ (1 ≤ g.C.PC → 1 ≤ yT g.C.H ∧ yT g.C.H < nb) ∧ (2 ≤ g.C.PC → 0 ≤ g.C.Y ∧ g.C.Y < nb)
  b6 : g.PC = 6 → 1 ≤ g.Bin ∧ g.Bin < nb
  c7 : g.PC = 7 → g.C.Kind = 1 ∧ g.C.Head = vl p ∧ g.C.Next = yP p ∧ (1 ≤ g.C.X ∧ g.C.X < nb) ∧ (1 ≤ g.C.PC → yT g.C.H < nb)
theorem SOk.gok {p : zd} {nb : Nat} {s : zb} {g : zC} (h : zO p) (S : SOk p nb s) (M : MOk p nb g) : GOk s g := by
  have hc := h.cap
  refine ⟨by have := S.mem; omega, by have := S.bins; have := S.nbk; omega, fun h6 => ?_, fun h3 => ?_⟩
  · have := M.b6 h6; have := S.bins; omega
  · obtain ⟨a, b, c, _⟩ := M.d3 h3; exact ⟨a, by omega⟩
theorem SOk.low {p : zd} {nb : Nat} {s : zb} (h : zO p) (S : SOk p nb s) {a : Int} (ha : a < vl p) (v : BitVec 64) : SOk p nb { s with M := st s.M a v } := by
  have he := zbR h
  exact ⟨S.P, S.bins, S.nbk, by simp only [W7]; exact S.mem, by simp only [zcj (show a ≠ vl p by omega)]; exact S.cF, by simp only [zcj (show a ≠ yP p by omega)]; exact S.cE, fun b hb => by
    simp only [zcj (show a ≠ b by omega)]; exact S.cL b hb⟩
theorem SOk.link {p : zd} {nb : Nat} {s : zb} (h : zO p) (S : SOk p nb s) {a : Int} (ha : yP p < a) {v : BitVec 64} (hv : 0 ≤ v.toInt ∧ v.toInt < nb) : SOk p nb { s with M := st s.M a v } := by
  have he := zbR h
  exact ⟨S.P, S.bins, S.nbk, by simp only [W7]; exact S.mem, by simp only [zcj (show a ≠ vl p by omega)]; exact S.cF, by simp only [zcj (show a ≠ yP p by omega)]; exact S.cE, fun b hb => by
    simp only [zn6]
    split
    · exact hv
    · exact S.cL b hb⟩
theorem SOk.head {p : zd} {nb : Nat} {s : zb} (h : zO p) (S : SOk p nb s) {a : Int} (ha : a = vl p ∨ a = yP p) {v : BitVec 64} (hv : yT v < nb) : SOk p nb { s with M := st s.M a v } := by
  have he := zbR h
  refine ⟨S.P, S.bins, S.nbk, by simp only [W7]; exact S.mem, ?_, ?_, fun b hb => ?_⟩
  · simp only [zn6]
    split
    · exact hv
    · exact S.cF
  · simp only [zn6]
    split
    · exact hv
    · exact S.cE
  · simp only [zcj (show a ≠ b by omega)]; exact S.cL b hb
theorem SOk.swap {p : zd} {nb : Nat} {s : zb} (h : zO p) (S : SOk p nb s) {a : Int} (ha : a = vl p ∨ a = yP p) (x : BitVec 64) {v : BitVec 64} (hv : yT v < nb) : SOk p nb { s with M := (sw s.M a x v).1 } := by
  unfold sw
  split
  · exact S.head h ha hv
  · exact S
theorem zrD {p : zd} {nb : Nat} {s : zb} (h : zO p) (S : SOk p nb s) {c : zA} {hd : Int} (hdd : hd = vl p ∨ hd = yP p) (hk : c.Kind = 2) (hh : c.Head = hd) (hn : c.Next = yP p)
    (h1 : 1 ≤ c.PC → 1 ≤ yT c.H ∧ yT c.H < nb) (h2 : 2 ≤ c.PC → 0 ≤ c.Y ∧ c.Y < nb) (ho : c.Out ≠ 1) :
    SOk p nb { s with M := (zW s.M c).1 } ∧ (zW s.M c).2.Kind = 2 ∧ (zW s.M c).2.Head = hd ∧ (zW s.M c).2.Next = yP p ∧
    ((zW s.M c).2.Out ≠ 1 → (zW s.M c).2.Out ≠ 2 → (1 ≤ (zW s.M c).2.PC → 1 ≤ yT (zW s.M c).2.H ∧ yT (zW s.M c).2.H < nb) ∧ (2 ≤ (zW s.M c).2.PC → 0 ≤ (zW s.M c).2.Y ∧ (zW s.M c).2.Y < nb)) ∧
    ((zW s.M c).2.Out = 1 → 1 ≤ (zW s.M c).2.X ∧ (zW s.M c).2.X < nb) := by
  have hnb := S.nbk
  have hE := zbR h
  have hF := zax h
  unfold zW
  split
  · exact ⟨S, hk, hh, hn, fun _ _ => ⟨h1, h2⟩, fun e => absurd e ho⟩
  · split
    · rw [hh]
      have n1 := zpA (ld s.M hd)
      have n2 : yT (ld s.M hd) < nb := by
        rcases hdd with e | e <;> rw [e]
        · exact S.cF
        · exact S.cE
      split
      · exact ⟨S, hk, rfl, hn, fun _ h => absurd rfl h, fun e => by cases e⟩
      · rename_i hne
        refine ⟨S, hk, rfl, hn, fun _ _ => ⟨fun _ => ⟨?_, n2⟩, fun e => absurd e (by dsimp only; omega)⟩, fun e => absurd e ho⟩
        have : yT (ld s.M hd) ≠ 0 := fun e => hne ⟨hk, e⟩
        dsimp only
        omega
    · split
      · try rw [if_pos hk]
        have hpc : 1 ≤ c.PC := by omega
        have n1 := h1 hpc
        refine ⟨S, hk, hh, hn, fun _ _ => ⟨fun _ => n1, fun _ => ?_⟩, fun e => absurd e ho⟩
        dsimp only
        rw [hn, vV (by omega) (by omega)]
        exact S.cL _ (by omega)
      · rename_i g1 g2 g3
        have hpc : c.PC = 2 := by omega
        have n1 := h1 (by omega)
        have n2 := h2 (by omega)
        simp only [if_pos hk]
        refine ⟨S.swap h (by rw [hh]; exact hdd) _ (by rw [zpP _ n2.1 (by omega)]; exact n2.2), ?_⟩
        split
        · exact ⟨hk, hh, hn, fun e => absurd rfl e, fun _ => n1⟩
        · exact ⟨hk, hh, hn, fun _ _ => ⟨fun e => absurd e (by dsimp only; omega), fun e => absurd e (by dsimp only; omega)⟩, fun e => absurd e ho⟩
theorem zov {p : zd} {nb : Nat} {s : zb} (h : zO p) (S : SOk p nb s) {c : zA} {hd : Int} (hdd : hd = vl p ∨ hd = yP p) (hk : c.Kind = 1) (hh : c.Head = hd) (hn : c.Next = yP p) (hx : 1 ≤ c.X ∧ c.X < nb)
    (h1 : 1 ≤ c.PC → yT c.H < nb) :
    SOk p nb { s with M := (zW s.M c).1 } ∧ (zW s.M c).2.Kind = 1 ∧ (zW s.M c).2.Head = hd ∧ (zW s.M c).2.Next = yP p ∧ (1 ≤ (zW s.M c).2.X ∧ (zW s.M c).2.X < nb) ∧
    (1 ≤ (zW s.M c).2.PC → yT (zW s.M c).2.H < nb) := by
  have hnb := S.nbk
  have hE := zbR h
  have hF := zax h
  have hk2 : ¬ c.Kind = 2 := by omega
  unfold zW
  split
  · exact ⟨S, hk, hh, hn, hx, h1⟩
  · split
    · rw [if_neg (fun e => hk2 e.1), hh]
      exact ⟨S, hk, rfl, hn, hx, fun _ => hdd.elim (fun e => by dsimp only; rw [e]; exact S.cF) (fun e => by dsimp only; rw [e]; exact S.cE)⟩
    · split
      · try rw [if_neg hk2]
        have hpc : 1 ≤ c.PC := by omega
        have n1 := h1 hpc
        have n2 := zpA c.H
        refine ⟨?_, hk, hh, hn, hx, fun _ => n1⟩
        dsimp only
        rw [hn, vV (by omega) (by omega)]
        exact S.link h (by omega) (by rw [zl4 (by omega) (by omega)]; omega)
      · have n1 := h1 (by omega)
        simp only [if_neg hk2]
        refine ⟨S.swap h (by rw [hh]; exact hdd) _ (by rw [zpP _ (by omega) (by omega)]; exact hx.2), ?_⟩
        split
        · exact ⟨hk, hh, hn, hx, fun _ => n1⟩
        · exact ⟨hk, hh, hn, hx, fun _ => n1⟩
theorem MOk.ask {p : zd} {nb : Nat} {g : zC} (hw : g.Mode = 1 → 1 ≤ g.Who ∧ g.Who ≤ p.Workers) : MOk p nb (zpm p g) :=
  ⟨hw, fun e => (by cases e), fun _ => ⟨rfl, rfl, rfl, fun e => absurd e (show ¬ (1 : Int) ≤ 0 by decide), fun e => absurd e (show ¬ (2 : Int) ≤ 0 by decide)⟩, fun e => (by cases e), fun e => (by cases e)⟩
theorem zpi {p : zd} {nb : Nat} {s : zb} {g : zC} (h : zO p) (S : SOk p nb s) (M : MOk p nb g) (hout : g.PC = 5 → g.C.Out ≠ 1) : SOk p nb (zD s g).1 ∧ MOk p nb (zD s g).2 ∧ ((zD s g).2.PC = 5 → (zD s g).2.C.Out ≠ 1) := by
  have hP := S.P
  unfold zD
  split
  · exact ⟨S, M, hout⟩
  split
  · rename_i h7
    obtain ⟨a1, a2, a3, a4, a5⟩ := M.c7 h7
    obtain ⟨b1, b2, b3, b4, b5, b6⟩ := zov h S (.inl rfl) a1 a2 a3 a4 a5
    unfold zfx
    refine ⟨b1, ?_, ?_⟩
    · dsimp only
      split <;> exact ⟨M.who, fun e => (by dsimp only at e; omega), fun e => (by dsimp only at e; omega), fun e => (by dsimp only at e; omega), fun _ => ⟨b2, b3, b4, b5, b6⟩⟩
    · dsimp only
      split <;> exact fun e => by dsimp only at e; omega
  split
  · rename_i h6
    obtain ⟨a1, a2⟩ := M.b6 h6
    unfold zwh
    refine ⟨⟨hP, by simp only [List.length_set]; exact S.bins, S.nbk, S.mem, S.cF, S.cE, S.cL⟩, ⟨M.who, fun e => (by cases e), fun e => (by cases e), fun e => (by cases e), fun _ => ⟨rfl, by rw [hP], by rw [hP], ⟨a1, a2⟩, fun e => absurd e (show ¬ (1 : Int) ≤ 0 by decide)⟩⟩, fun e => by cases e⟩
  split
  · rename_i h5
    obtain ⟨a1, a2, a3, a4, a5⟩ := M.c5 h5
    obtain ⟨b1, b2, b3, b4, b5, b6⟩ := zrD h S (.inr rfl) a1 a2 a3 a4 a5 (hout h5)
    unfold zlv
    refine ⟨b1, ?_, ?_⟩
    · dsimp only
      split
      · rename_i e1
        exact ⟨M.who, fun e => (by cases e), fun e => (by cases e), fun _ => b6 e1, fun e => (by cases e)⟩
      · split
        · rw [hP]; exact MOk.ask M.who
        · rename_i e1 e2
          exact ⟨M.who, fun e => (by dsimp only at e; omega), fun _ => ⟨b2, b3, b4, b5 e1 e2⟩, fun e => (by dsimp only at e; omega), fun e => (by dsimp only at e; omega)⟩
    · dsimp only
      split
      · exact fun e => by cases e
      · split
        · exact fun _ e => by cases e
        · rename_i e1 e2; exact fun _ => e1
  split
  · rw [hP]
    exact ⟨⟨rfl, S.bins, S.nbk, S.mem, S.cF, S.cE, S.cL⟩, MOk.ask M.who, fun _ e => by cases e⟩
  split
  · rename_i h3
    obtain ⟨a1, a2, a3, a4⟩ := M.d3 h3
    have hw := M.who a4
    obtain ⟨d1, d2, d3⟩ := zmD h hw.1 hw.2
    have hc := h.cap
    have hf := zax h
    have hs : SOk p nb { s with M := (u0 s.M g.D).1 } := by
      unfold u0
      split
      · exact S
      split
      · exact S
      split
      · exact S
      split
      · have := zvP h hw.1 hw.2 a2 a3 g.D.B
        exact S.low h (by omega) _
      · dsimp only
        rw [vV (by omega) (by omega)]
        exact S.low h (by omega) _
    have hd : (u0 s.M g.D).2.Kind = 1 ∧ (u0 s.M g.D).2.Base = ZO p g.Who ∧ (u0 s.M g.D).2.Cap = p.Cap := by
      unfold u0
      split
      · exact ⟨a1, a2, a3⟩
      split
      · exact ⟨a1, a2, a3⟩
      split
      · dsimp only
        split <;> exact ⟨a1, a2, a3⟩
      split <;> exact ⟨a1, a2, a3⟩
    unfold zlw
    refine ⟨hs, ?_, ?_⟩
    · dsimp only
      split
      · exact ⟨M.who, fun _ => ⟨hd.1, hd.2.1, hd.2.2, a4⟩, fun e => (by dsimp only at e; omega), fun e => (by dsimp only at e; omega), fun e => (by dsimp only at e; omega)⟩
      · split
        · rw [hP]; exact MOk.ask M.who
        · exact ⟨M.who, fun _ => ⟨hd.1, hd.2.1, hd.2.2, a4⟩, fun e => (by dsimp only at e; omega), fun e => (by dsimp only at e; omega), fun e => (by dsimp only at e; omega)⟩
    · dsimp only
      split
      · exact fun e => by dsimp only at e; omega
      · split
        · exact fun _ e => by cases e
        · exact fun e => by dsimp only at e; omega
  split
  · rename_i h2
    exact ⟨⟨hP, S.bins, S.nbk, S.mem, S.cF, S.cE, S.cL⟩, ⟨M.who, fun e => (by dsimp only at e; omega), fun e => (by dsimp only at e; omega), fun e => (by dsimp only at e; omega), fun e => (by dsimp only at e; omega)⟩, fun e => by dsimp only at e; omega⟩
  split
  · unfold znw
    refine ⟨⟨hP, S.bins, S.nbk, S.mem, S.cF, S.cE, S.cL⟩, ?_, ?_⟩
    · dsimp only
      split
      · exact ⟨M.who, fun e => (by cases e), fun e => (by cases e), fun e => (by cases e), fun e => (by cases e)⟩
      split
      · exact ⟨M.who, fun _ => ⟨rfl, by rw [hP], by rw [hP], by assumption⟩, fun e => (by cases e), fun e => (by cases e), fun e => (by cases e)⟩
      split
      · exact ⟨M.who, fun e => (by cases e), fun e => (by cases e), fun e => (by cases e), fun e => (by cases e)⟩
      · rw [hP]; exact MOk.ask M.who
    · dsimp only
      split
      · exact fun e => by cases e
      split
      · exact fun e => by cases e
      split
      · exact fun e => by cases e
      · exact fun _ e => by cases e
  · exact ⟨⟨hP, S.bins, S.nbk, S.mem, S.cF, S.cE, S.cL⟩, ⟨M.who, fun e => (by cases e), fun e => (by cases e), fun e => (by cases e), fun e => (by cases e)⟩, fun e => by cases e⟩
theorem zfw (s : zb) (g : zC) : (zD s g).2.Obj = g.Obj ∧ (zD s g).2.Who = g.Who ∧ (zD s g).2.Mode = g.Mode := by
  unfold zD
  split
  · exact ⟨rfl, rfl, rfl⟩
  split
  · unfold zfx; dsimp only; split <;> exact ⟨rfl, rfl, rfl⟩
  split
  · exact ⟨rfl, rfl, rfl⟩
  split
  · unfold zlv; dsimp only
    split
    · exact ⟨rfl, rfl, rfl⟩
    · split <;> exact ⟨rfl, rfl, rfl⟩
  split
  · exact ⟨rfl, rfl, rfl⟩
  split
  · unfold zlw; dsimp only
    split
    · exact ⟨rfl, rfl, rfl⟩
    · split <;> exact ⟨rfl, rfl, rfl⟩
  split
  · exact ⟨rfl, rfl, rfl⟩
  split
  · unfold znw; dsimp only
    split
    · exact ⟨rfl, rfl, rfl⟩
    split
    · exact ⟨rfl, rfl, rfl⟩
    split <;> exact ⟨rfl, rfl, rfl⟩
  · exact ⟨rfl, rfl, rfl⟩
end
end Go.Pe.G
namespace Go.Pe.G
open Go.Pe
noncomputable section
def OkV (nb : Nat) (v : BitVec 64) : Prop := yT v < nb ∧ 0 ≤ v.toInt ∧ v.toInt < nb
theorem zrt {nb : Nat} (h : 1 ≤ nb) : OkV nb 0#64 := by
  refine ⟨by rw [zgZ]; simp; omega, by simp, by simp; omega⟩
theorem zoI {nb : Nat} {b : Int} (h : 0 ≤ b) (h2 : b < nb) (h3 : nb < 1000) : OkV nb (BitVec.ofInt 64 b) := by
  have e : (BitVec.ofInt 64 b).toNat = b.toNat := by rw [BitVec.toNat_ofInt]; omega
  refine ⟨by rw [zgZ, e]; omega, ?_⟩
  rw [zl4 h (by omega)]
  omega
theorem zpW {b : Int} (h : 0 ≤ b) (h2 : b < 4294967296) : Wh 0#64 b = BitVec.ofInt 64 b := by
  have e : (BitVec.ofInt 64 b).toNat = b.toNat := by rw [BitVec.toNat_ofInt]; omega
  apply BitVec.eq_of_toNat_eq
  unfold Wh
  rw [BitVec.toNat_or, BitVec.toNat_and, e]
  have : b.toNat &&& (4294967295#64).toNat = b.toNat := (Nat.and_two_pow_sub_one_eq_mod b.toNat 32).trans (Nat.mod_eq_of_lt (by omega))
  rw [this]
  simp
def Yg (F : Int) (nb : Nat) (m : List (BitVec 64)) : Prop := ∀ a, F ≤ a → OkV nb (ld m a)
theorem Yg.st {F : Int} {nb : Nat} {m : List (BitVec 64)} (h : Yg F nb m) (a : Int) {v : BitVec 64} (hv : OkV nb v) : Yg F nb (st m a v) := fun b hb => by
  rw [zn6]
  split
  · exact hv
  · exact h b hb
theorem Yg.links {F : Int} {nb : Nat} (h1 : 1 ≤ nb) (h3 : nb < 1000) : ∀ (l : List Int) (m : List (BitVec 64)) (n : Int), (∀ b ∈ l, 0 ≤ b ∧ b < nb) → Yg F nb m → Yg F nb (links m n l)
  | [], m, n, _, h => h
  | [a], m, n, _, h => h.st _ (zrt h1)
  | a :: b :: l, m, n, hb, h => Yg.links h1 h3 (b :: l) _ n (fun x hx => hb x (List.mem_cons_of_mem _ hx)) (h.st _ (zoI (hb b (by simp)).1 (hb b (by simp)).2 h3))
theorem Yg.lay {F : Int} {nb : Nat} (h1 : 1 ≤ nb) (h3 : nb < 1000) {l : List Int} {m : List (BitVec 64)} {hd n : Int} (hb : ∀ b ∈ l, 0 ≤ b ∧ b < nb) (h : Yg F nb m) : Yg F nb (zje m hd n l) := by
  unfold zje
  refine (Yg.links h1 h3 l m n hb h).st _ ?_
  cases l with
  | nil => rw [List.headD_nil, zpW (by omega) (by omega)]; exact zoI (by omega) (by omega) h3
  | cons a r =>
    have := hb a (by simp)
    rw [List.headD_cons, zpW this.1 (by omega)]
    exact zoI this.1 this.2 h3
theorem zq4 {k : Nat} {b : Int} (h : b ∈ Ym k) : 1 ≤ b ∧ b ≤ k := by
  unfold Ym at h
  obtain ⟨i, hi, rfl⟩ := List.mem_map.1 h
  have := List.mem_range.1 hi
  omega
theorem zqS {p : zd} (h : zO p) : (xL p : Int) = p.Most + p.Workers + p.Mutators ∧ 2 ≤ xL p ∧ xL p ≤ 14 := by
  have := h.most
  have := h.n
  have := h.wk
  have := h.mt
  unfold xL
  omega
theorem zsU {p : zd} (h : zO p) : SOk p (xL p + 1) (vm p) := by
  have hb := zqS h
  have hf := zra h
  have hn := h.n
  have hw := h.wk
  have hc := h.cap
  have hmo := h.most
  have hF := zax h
  have hE := zbR h
  have hcl := zeH p p.Workers.toNat
  have hfe : vl p = ((p.Workers.toNat * (p.Cap.toNat + 2) : Nat) : Int) := by
    rw [hF.1]
    have e1 : p.Workers = ((p.Workers.toNat : Nat) : Int) := by omega
    have e2 : p.Cap + 2 = ((p.Cap.toNat + 2 : Nat) : Int) := by omega
    rw [e2, Int.natCast_mul]
    rw [← e1]
  have h0 : Yg (vl p) (xL p + 1) (Wi p p.Workers.toNat ++ List.replicate (2 + xL p) 0#64) := by
    intro a ha
    have : ld (Wi p p.Workers.toNat ++ List.replicate (2 + xL p) 0#64) a = 0#64 := by
      unfold ld
      rw [if_pos (by omega), List.getD_eq_getElem?_getD, List.getElem?_append_right (by omega), List.getElem?_replicate]
      split <;> rfl
    rw [this]
    exact zrt (by omega)
  have h1 : Yg (vl p) (xL p + 1) (vm p).M := by
    refine Yg.lay (by omega) (by omega) (fun b hb' => ?_) (Yg.lay (by omega) (by omega) (fun b hb' => ?_) h0)
    · have := zq4 (List.mem_of_mem_drop hb'); omega
    · have := zq4 (List.mem_of_mem_take hb'); omega
  have hlen : (vm p).M.length = p.Workers.toNat * (p.Cap.toNat + 2) + (2 + xL p) := by
    show (zje _ _ _ _).length = _
    rw [zms, zms, List.length_append, hcl, List.length_replicate]
  refine ⟨rfl, ?_, by omega, by rw [hlen]; omega, (h1 _ (by omega)).1, (h1 _ (by omega)).1, fun a ha => (h1 a (by omega)).2⟩
  have hd : (vm p).Bins.length = 1 + (uB p).length + (xL p - (uB p).length) := by
    show ([[]] ++ uB p ++ List.replicate (xL p - (uB p).length) ([] : List Int)).length = _
    rw [List.length_append, List.length_append, List.length_replicate]; rfl
  have h2 := hb.1
  have hmt := h.mt
  rw [hd]
  omega
def zm4 (mode obj who : Int) : zC := ⟨0, mode, obj, who, ⟨0, 0, 0, 0, 0#64, 0#64, 0, 0⟩, ⟨0, 0, 0, 0, 0#64, 0, 0, 0⟩, 0, 0⟩
theorem znO (a b c : Int) : za2 a b c = some (zm4 a b c, ()) := by rw [znR]; rfl
end
end Go.Pe.G
namespace Go.Pe.G
open Go.Pe
noncomputable section
structure Zw (s : zb) : Prop where
  m : s.M.length < 1000000
  bins : s.Bins.length < 1000000
  bin : ∀ x ∈ s.Bins, x.length < 1000000
  acks : s.Acks.length < 1000000
  bal : s.L.Bal.length < 1000000
  ws : s.Ws.length < 1000000
  w : ∀ x ∈ s.Ws, x.Batch.length < 1000000
  ms : s.Ms.length < 1000000
  mu : ∀ x ∈ s.Ms, x.Regs.length < 1000000 ∧ x.Buf.length < 1000000 ∧ x.Batch.length < 1000000
  objs : s.H.Objs.length < 1000000
  obj : ∀ x ∈ s.H.Objs, x.length < 1000000
  pobjs : s.P.H.Objs.length < 1000000
  pobj : ∀ x ∈ s.P.H.Objs, x.length < 1000000
  regs : s.P.Regs.length < 1000000
  reg : ∀ x ∈ s.P.Regs, x.length < 1000000
  progs : s.P.Progs.length < 1000000
  prog : ∀ x ∈ s.P.Progs, x.length < 1000000
  picks : s.P.Picks.length < 1000000
theorem V1 (m : List (BitVec 64)) (c : zA) : (zW m c).1.length = m.length := by
  unfold zW sw
  split
  · rfl
  split
  · rfl
  split
  · split <;> simp [W7]
  · dsimp only; split <;> simp [W7]
theorem ztx (m : List (BitVec 64)) (d : zi) : (u0 m d).1.length = m.length := by
  unfold u0
  split
  · rfl
  split
  · rfl
  split
  · rfl
  split <;> simp [W7]
theorem WL (s : zb) (g : zC) : ∃ m b t w f, (zD s g).1 = { s with M := m, Bins := b, T := t, Work := w, Flag := f } ∧ m.length = s.M.length ∧ b.length = s.Bins.length ∧
    (∀ x ∈ b, x ∈ s.Bins ∨ x = [g.Obj]) ∧ (t = s.T ∨ t = (YJ s.T g.Obj).1) ∧ (w = s.Work ∨ w = wc (s.Work + 1) ∨ w = wc (s.Work - 1)) := by
  unfold zD
  split
  · exact ⟨s.M, s.Bins, s.T, s.Work, s.Flag, rfl, rfl, rfl, fun x h => .inl h, .inl rfl, .inl rfl⟩
  split
  · exact ⟨_, s.Bins, s.T, s.Work, s.Flag, rfl, V1 _ _, rfl, fun x h => .inl h, .inl rfl, .inl rfl⟩
  split
  · refine ⟨s.M, _, s.T, s.Work, s.Flag, rfl, rfl, by simp, fun x h => ?_, .inl rfl, .inl rfl⟩
    rcases List.mem_or_eq_of_mem_set h with h | h
    · exact .inl h
    · exact .inr h
  split
  · exact ⟨_, s.Bins, s.T, s.Work, s.Flag, rfl, V1 _ _, rfl, fun x h => .inl h, .inl rfl, .inl rfl⟩
  split
  · exact ⟨s.M, s.Bins, s.T, s.Work, true, rfl, rfl, rfl, fun x h => .inl h, .inl rfl, .inl rfl⟩
  split
  · exact ⟨_, s.Bins, s.T, s.Work, s.Flag, rfl, ztx _ _, rfl, fun x h => .inl h, .inl rfl, .inl rfl⟩
  split
  · exact ⟨s.M, s.Bins, s.T, _, s.Flag, rfl, rfl, rfl, fun x h => .inl h, .inl rfl, .inr (.inr rfl)⟩
  split
  · exact ⟨s.M, s.Bins, _, s.Work, s.Flag, rfl, rfl, rfl, fun x h => .inl h, .inr rfl, .inl rfl⟩
  · exact ⟨s.M, s.Bins, s.T, _, s.Flag, rfl, rfl, rfl, fun x h => .inl h, .inl rfl, .inr (.inl rfl)⟩
theorem zxV {s : zb} {g : zC} (h : Zw s) : Zw (zD s g).1 := by
  obtain ⟨m, b, t, w, f, e, h1, h2, h3, _, _⟩ := WL s g
  rw [e]
  refine ⟨by rw [h1]; exact h.m, by rw [h2]; exact h.bins, fun x hx => ?_, h.acks, h.bal, h.ws, h.w, h.ms, h.mu, h.objs, h.obj, h.pobjs, h.pobj, h.regs, h.reg, h.progs, h.prog, h.picks⟩
  rcases h3 x hx with h' | rfl
  · exact h.bin x h'
  · simp
theorem zuN {p : zd} (h : zO p) : Zw (vm p) := by
  have S := zsU h
  have hb := zqS h
  have hg := zlg h
  have hn := h.n
  have hm := h.mt
  have hw := h.wk
  have hs := h.slots
  have hrl := h.regs
  have hpl := h.progs
  have hobj : ∀ o ∈ p.H.Objs, o.length < 1000000 := fun o ho => by have := (h.objs o ho).1; omega
  have hreg : ∀ r ∈ p.Regs, r.length < 1000000 := fun r hr => by have := (h.reg r hr).1; omega
  refine ⟨by have := S.mem; omega, by rw [S.bins]; omega, fun x hx => ?_, ?_, ?_, ?_, fun x hx => ?_, ?_, fun x hx => ?_, by show p.H.Objs.length < _; omega, hobj, by show p.H.Objs.length < _; omega, hobj, by show p.Regs.length < _; omega, hreg, by show p.Progs.length < _; omega, fun x hx => ?_, ?_⟩
  · have hx : x ∈ [[]] ++ uB p ++ List.replicate (xL p - (uB p).length) [] := hx
    rcases List.mem_append.1 hx with hx | hx
    · rcases List.mem_append.1 hx with hx | hx
      · simp at hx; subst hx; simp
      · have := zh1 _ _ _ _ hx; omega
    · have := (List.mem_replicate.1 hx).2; subst this; simp
  · show (List.replicate p.Mutators.toNat (0 : Int)).length < _; simp; omega
  · show (List.replicate p.Mutators.toNat (0 : Int)).length < _; simp; omega
  · show ((List.range p.Workers.toNat).map (Uc p)).length < _; simp; omega
  · have hx : x ∈ (List.range p.Workers.toNat).map (Uc p) := hx
    obtain ⟨i, _, rfl⟩ := List.mem_map.1 hx
    simp [Uc]
  · show (p.Regs.map wB).length < _; simp; omega
  · have hx : x ∈ p.Regs.map wB := hx
    obtain ⟨r, hr, rfl⟩ := List.mem_map.1 hx
    exact ⟨hreg r hr, by simp [wB], by simp [wB]⟩
  · obtain ⟨i, hi⟩ := List.getElem?_of_mem hx
    have hlt := (List.getElem?_eq_some_iff.1 hi).1
    have := (h.prog i _ x (List.getElem?_eq_getElem (by have : p.Progs.length = p.Regs.length := by omega
                                                        have hlt : i < p.Progs.length := hlt
                                                        omega)) hi).1
    omega
  · show p.Picks.length < _; rw [h.picks]; simp
end
end Go.Pe.G
namespace Go.Pe.G
open Go.Pe
noncomputable section
theorem Xf {α B C : Type} {f : List α × List α × Int × Int × Unit → Option (yN (List α × List α × Int × Int × Unit) B C)} {l : List α} {b : B} (hl : l.length < 1000000)
    (h1 : ∀ (i : Nat) (x : α), l[i]? = some x → f (l, l, (l.length : Int), (i : Int), ()) = some (.again (l, l, (l.length : Int), ((i + 1 : Nat) : Int), ())))
    (h2 : f (l, l, (l.length : Int), (l.length : Int), ()) = some (.brk b)) : yp f (l, l, (l.length : Int), 0, ()) = some (.brk b) := by
  refine (vZ (f := f) (fun a => ∃ i : Nat, a = (l, l, (l.length : Int), (i : Int), ()) ∧ i ≤ l.length) (fun a => l.length - a.2.2.2.1.toNat) (fun o => o = .brk b) ?_ (l, l, (l.length : Int), 0, ()) ⟨0, rfl, by omega⟩ (wz (by dsimp only; omega))).elim fun o h => ?_
  rotate_left
  · rw [h.1, h.2]
  · rintro _ ⟨i, rfl, hi⟩
    rcases Nat.lt_or_ge i l.length with hlt | hge
    · refine ⟨_, h1 i _ (List.getElem?_eq_getElem hlt), ⟨i + 1, rfl, hlt⟩, ?_⟩
      show l.length - ((i + 1 : Nat) : Int).toNat < l.length - (i : Int).toNat
      omega
    · have : i = l.length := by omega
      subst this
      exact ⟨_, h2, rfl⟩
theorem xS {l : List (Int)} (hl : l.length < 1000000) : z7 l l = some (true, ()) := by
  rw [zec, yg, if_pos rfl, Xf (b := ()) hl (fun i x hx => ?_) (by rw [XS]; simp)]
  · rfl
  · have hlt := vG hx
    rw [XS, zm, if_pos hlt, xR hx, Option.bind_some, Option.bind_some, yV (by omega)]
    simp
theorem zae {l : List (BitVec 64)} (hl : l.length < 1000000) : uT l l = some (true, ()) := by
  rw [zal, yg, if_pos rfl, Xf (b := ()) hl (fun i x hx => ?_) (by rw [Zs]; simp)]
  · rfl
  · have hlt := vG hx
    rw [Zs, zm, if_pos hlt, xR hx, Option.bind_some, Option.bind_some, yV (by omega)]
    simp
theorem zaS {l : List (Int)} (hl : l.length < 1000000) : Zl l l = some (true, ()) := by
  rw [zbm, yg, if_pos rfl, Xf (b := ()) hl (fun i x hx => ?_) (by rw [Yb]; simp)]
  · rfl
  · have hlt := vG hx
    rw [Yb, zm, if_pos hlt, xR hx, Option.bind_some, Option.bind_some, yV (by omega)]
    simp
theorem Ul {l : List (zg)} (hl : l.length < 1000000) : uq l l = some (true, ()) := by
  rw [Uk, yg, if_pos rfl, Xf (b := ()) hl (fun i x hx => ?_) (by rw [Ze]; simp)]
  · rfl
  · have hlt := vG hx
    rw [Ze, zm, if_pos hlt, xR hx, Option.bind_some, Option.bind_some, yV (by omega)]
    simp
theorem Vr {l : List (zj)} (hl : l.length < 1000000) : vn l l = some (true, ()) := by
  rw [Vl, yg, if_pos rfl, Xf (b := ()) hl (fun i x hx => ?_) (by rw [uw]; simp)]
  · rfl
  · have hlt := vG hx
    rw [uw, zm, if_pos hlt, xR hx, Option.bind_some, Option.bind_some, yV (by omega)]
    simp
theorem wg {l : List (List Int)} (hl : l.length < 1000000) (he : ∀ x ∈ l, x.length < 1000000) : zr l l = some (true, ()) := by
  rw [vz, yg, if_pos rfl, Xf (b := ()) hl (fun i x hx => ?_) (by rw [yQ]; simp)]
  · rfl
  · have hlt := vG hx
    rw [yQ, zm, if_pos hlt, xR hx, Option.bind_some, Option.bind_some, xS (he x (List.mem_of_getElem? hx)), Option.bind_some, yV (by omega)]
    simp
theorem uP {l : List (List zg)} (hl : l.length < 1000000) (he : ∀ x ∈ l, x.length < 1000000) : zY l l = some (true, ()) := by
  rw [xP, yg, if_pos rfl, Xf (b := ()) hl (fun i x hx => ?_) (by rw [yv]; simp)]
  · rfl
  · have hlt := vG hx
    rw [yv, zm, if_pos hlt, xR hx, Option.bind_some, Option.bind_some, Ul (he x (List.mem_of_getElem? hx)), Option.bind_some, yV (by omega)]
    simp
theorem zss {w : zk} (h : w.Batch.length < 1000000) : Vo w w = some (true, ()) := by
  rw [zhZ, xS h]; simp
theorem zqR {m : zc} (h : m.Regs.length < 1000000 ∧ m.Buf.length < 1000000 ∧ m.Batch.length < 1000000) : WO m m = some (true, ()) := by
  rw [zgA, xS h.1, xS h.2.1, xS h.2.2, zew]; simp
theorem wU {l : List (zk)} (hl : l.length < 1000000) (he : ∀ x ∈ l, x.Batch.length < 1000000) : zS l l = some (true, ()) := by
  rw [xD, yg, if_pos rfl, Xf (b := ()) hl (fun i x hx => ?_) (by rw [yo]; simp)]
  · rfl
  · have hlt := vG hx
    rw [yo, zm, if_pos hlt, xR hx, Option.bind_some, Option.bind_some, zss (he x (List.mem_of_getElem? hx)), Option.bind_some, yV (by omega)]
    simp
theorem wH {l : List (zc)} (hl : l.length < 1000000) (he : ∀ x ∈ l, x.Regs.length < 1000000 ∧ x.Buf.length < 1000000 ∧ x.Batch.length < 1000000) : zL l l = some (true, ()) := by
  rw [xg, yg, if_pos rfl, Xf (b := ()) hl (fun i x hx => ?_) (by rw [yi]; simp)]
  · rfl
  · have hlt := vG hx
    rw [yi, zm, if_pos hlt, xR hx, Option.bind_some, Option.bind_some, zqR (he x (List.mem_of_getElem? hx)), Option.bind_some, yV (by omega)]
    simp
theorem zpB {h : zu} (h1 : h.Objs.length < 1000000) (h2 : ∀ x ∈ h.Objs, x.length < 1000000) : uA h h = some (true, ()) := by
  rw [zoM, wg h1 h2]; simp
theorem ztO {s : zb} (h : Zw s) : zfN s s = some (true, ()) := by
  have hp : Zg s.P s.P = some (true, ()) := by
    rw [zpq, zhK, zpB h.pobjs h.pobj, wg h.regs h.reg, uP h.progs h.prog, Vr h.picks]
    simp
  have hl : vW s.L s.L = some (true, ()) := by
    rw [zmR, zaS h.bal]; simp
  have hm : Z9 s.M s.M = some (true, ()) := by
    rw [zqc, zae h.m]; rfl
  rw [znF, hp, zpB h.objs h.obj, hm, wg h.bins h.bin, xS h.acks, hl, wU h.ws h.w, wH h.ms h.mu]
  simp
end
end Go.Pe.G
namespace Go.Pe.G
open Go.Pe
noncomputable section
def goF {S : Type} (g : Nat → S → S) : Nat → Nat → S → S
  | _, 0, s => s
  | i, k + 1, s => goF g (i + 1) k (g i s)
theorem zpG {S : Type} {g : Nat → S → S} {Inv : S → Prop} (hg : ∀ i s, Inv s → Inv (g i s)) : ∀ (k i : Nat) (s : S), Inv s → Inv (goF g i k s)
  | 0, _, _, h => h
  | k + 1, i, s, h => zpG hg k (i + 1) _ (hg i s h)
theorem zpn {S σ B C : Type} {f : σ → Option (yN σ B C)} (A : Int → S → σ) (b : S → B) (n : Nat) (hn : n < 1000000) (g : Nat → S → S) (Inv : S → Prop) (hg : ∀ i s, Inv s → Inv (g i s))
    (h1 : ∀ (i : Nat) s, i < n → Inv s → f (A (i : Int) s) = some (.again (A ((i + 1 : Nat) : Int) (g i s)))) (h2 : ∀ s, Inv s → f (A (n : Int) s) = some (.brk (b s))) {s : S} (hs : Inv s) :
    yp f (A 0 s) = some (.brk (b (goF g 0 n s))) := by
  have key : ∀ (k i : Nat) (s : S), n - i = k → i ≤ n → Inv s → ∀ m, k < m → ut f m (A (i : Int) s) = some (.brk (b (goF g i k s))) := by
    intro k
    induction k with
    | zero =>
      intro i s hk hi hs m hm
      have : i = n := by omega
      subst this
      obtain ⟨m, rfl⟩ : ∃ x, m = x + 1 := ⟨m - 1, by omega⟩
      simp only [ut]
      rw [h2 s hs]; rfl
    | succ k ih =>
      intro i s hk hi hs m hm
      obtain ⟨m, rfl⟩ : ∃ x, m = x + 1 := ⟨m - 1, by omega⟩
      simp only [ut]
      rw [h1 i s (by omega) hs, Option.bind_some]
      exact ih (i + 1) _ (by omega) (by omega) (hg i s hs) m (by omega)
  have := key n 0 s (by omega) (by omega) hs YC (wz (by omega))
  rw [VK]
  exact this
end
end Go.Pe.G
namespace Go.Pe.G
open Go.Pe
noncomputable section
def zgY (m : List (BitVec 64)) (d : zi) : List (BitVec 64) × zi :=
  if d.PC < 0 ∨ 7 ≤ d.PC then (m, d)
  else if d.PC = 0 then (m, { d with B := ld m (wc (d.Base + 1)), PC := 1 })
  else if d.PC = 1 then (st m (wc (d.Base + 1)) (d.B - 1#64), { d with PC := 2 })
  else if d.PC = 2 then (m, { d with T := ld m d.Base, PC := if 0 < (ld m d.Base - (d.B - 1#64)).toInt then 5 else 3 })
  else if d.PC = 3 then (m, { d with X := (ld m (zbc d (d.B - 1#64))).toInt, PC := 4, Out := if d.T = d.B - 1#64 then d.Out else 1 })
  else if d.PC = 4 then ((sw m d.Base d.T (d.T + 1#64)).1, { d with PC := if (sw m d.Base d.T (d.T + 1#64)).2 then 6 else 5 })
  else if d.PC = 5 then (st m (wc (d.Base + 1)) d.B, { d with X := 0, Out := 2, PC := 6 })
  else (st m (wc (d.Base + 1)) d.B, { d with Out := 1, PC := 7 })
def zau (m : List (BitVec 64)) (d : zi) : List (BitVec 64) × zi :=
  if d.PC < 0 ∨ 4 ≤ d.PC then (m, d)
  else if d.PC = 0 then (m, { d with T := ld m d.Base, PC := 1 })
  else if d.PC = 1 then (m, { d with B := ld m (wc (d.Base + 1)), PC := 2, Out := if 0 < (ld m (wc (d.Base + 1)) - d.T).toInt then d.Out else 2 })
  else if d.PC = 2 then (m, { d with X := (ld m (zbc d d.T)).toInt, PC := 3 })
  else ((sw m d.Base d.T (d.T + 1#64)).1, if (sw m d.Base d.T (d.T + 1#64)).2 then { d with Out := 1, PC := 4 } else { d with X := 0, Out := 4, PC := 4 })
def uh (m : List (BitVec 64)) (d : zi) : List (BitVec 64) × zi :=
  if d.Out ≠ 0 then (m, d) else if d.Kind = 1 then u0 m d else if d.Kind = 2 then zgY m d else if d.Kind = 3 then zau m d else (m, d)
theorem zsz {m : List (BitVec 64)} {d : zi} (h : d.Kind = 1) : uh m d = u0 m d := by
  unfold uh
  by_cases h0 : d.Out ≠ 0
  · rw [if_pos h0]; unfold u0; rw [if_pos (.inl h0)]
  · rw [if_neg h0, if_pos h]
theorem zs7 {α : Type} {x y : Option α} {v : α} (h : x = some v) : Option.or x y = some v := by subst h; rfl
theorem zfg {α : Type} {x y z : Option α} (h : x = none) (h2 : y = z) : Option.or x y = z := by subst h; exact h2
theorem zvD : wc 1 = 1 ∧ wc 2 = 2 ∧ wc 3 = 3 ∧ wc 4 = 4 ∧ wc 5 = 5 ∧ wc 6 = 6 ∧ wc 7 = 7 := by decide
theorem zut : w64 5 = 5 ∧ w64 6 = 6 ∧ w64 7 = 7 := by
  refine ⟨?_, ?_, ?_⟩ <;> exact z9 (by omega) (by omega)
theorem zxB {m : List (BitVec 64)} (hm : m.length < 4294967296) {d : zi} (hc : d.Cap < 1000) : zbu m d = some ((uh m d).1, (uh m d).2, ()) := by
  by_cases k1 : d.Kind = 1
  · rw [zsz k1]; exact zg9 hm k1 hc
  obtain ⟨w0, w1, w2, w3, w4⟩ := zrX
  obtain ⟨w5, w6, w7⟩ := zut
  obtain ⟨v1, v2, v3, v4, v5, v6, v7⟩ := zvD
  have hsb : ∀ d : zi, wv m d = some (m, { d with B := ld m (wc (d.Base + 1)) }, ()) := fun d => by
    rw [YO, xl, xu, Option.bind_some, Xn]; rfl
  have htk : ∀ d : zi, Z5 m d = some ((sw m d.Base d.T (d.T + 1#64)).1, (sw m d.Base d.T (d.T + 1#64)).2, ()) := fun d => by
    obtain ⟨v, hv⟩ := zou hm d.Base d.T (d.T + 1#64)
    rw [zgX, Zi, Option.bind_some, hv]; rfl
  rw [zhi, zeh, zlO, zlD, zlA]
  simp only [zm, yg, if_neg k1]
  unfold uh
  by_cases k2 : d.Kind = 2
  · refine zfg (by simp [k2]) (zs7 ?_)
    rw [if_pos k2, Option.bind_some]
    by_cases g0 : d.Out = 0
    rotate_left
    · rw [if_neg g0, if_pos (show d.Out ≠ 0 from g0)]
    rw [if_pos g0, if_neg (show ¬ (d.Out ≠ 0) from fun e => e g0), if_neg k1, if_pos k2]
    unfold zgY
    by_cases g1 : d.PC < 0
    · rw [if_pos g1, if_pos (.inl g1)]
    rw [if_neg g1]
    by_cases g2 : 7 ≤ d.PC
    · rw [if_pos g2, if_pos (.inr g2)]
    rw [if_neg g2, if_neg (show ¬ (d.PC < 0 ∨ 7 ≤ d.PC) by omega)]
    have hpc : d.PC = 0 ∨ d.PC = 1 ∨ d.PC = 2 ∨ d.PC = 3 ∨ d.PC = 4 ∨ d.PC = 5 ∨ d.PC = 6 := by omega
    rcases hpc with h | h | h | h | h | h | h
    · simp [h, hsb, w1]
    · simp [h, zgy, xl, xu, UB hm, v1, v2, v3, v4, v5, v6, v7]
    · rw [h, if_neg (by decide), if_neg (by decide), if_neg (by decide), if_neg (by decide), if_pos rfl, if_neg (by decide), if_neg (by decide), if_pos rfl]
      simp only [zcu, Zi, Option.bind_some, Xn, zfo, zm]
      by_cases hs : 0 < (ld m d.Base - (d.B - 1#64)).toInt
      · simp only [if_pos hs, Option.bind_some, Int.reduceAdd, w5]
      · simp only [if_neg hs, Option.bind_some, h, Int.reduceAdd, w3]
    · simp only [h, zeT, zhB hc, Option.bind_some, Xn, yg, xZ]
      by_cases hs : d.T = d.B - 1#64
      · simp [hs, w4, h]
      · simp [hs, w4, h]
    · simp only [h, zef, htk, Option.bind_some]
      cases hs : (sw m d.Base d.T (d.T + 1#64)).2 with
      | true => simp [hs, w6, h]
      | false => simp [hs, w5, h]
    · simp [h, zd6, xZ, k1, xl, xu, UB hm, v1, v2, v3, v4, v5, v6, v7]
    · simp [h, zeQ, xZ, xl, xu, UB hm, v1, v2, v3, v4, v5, v6, v7]
  by_cases k3 : d.Kind = 3
  · refine zfg (by simp [k2, k3]) (zfg (by simp [k2, k3]) (zs7 ?_))
    rw [if_neg k2, if_pos k3, Option.bind_some]
    by_cases g0 : d.Out = 0
    rotate_left
    · rw [if_neg g0, if_pos (show d.Out ≠ 0 from g0)]
    rw [if_pos g0, if_neg (show ¬ (d.Out ≠ 0) from fun e => e g0), if_neg k1, if_neg k2, if_pos k3]
    unfold zau
    by_cases g1 : d.PC < 0
    · rw [if_pos g1, if_pos (.inl g1)]
    rw [if_neg g1]
    by_cases g2 : 4 ≤ d.PC
    · rw [if_pos g2, if_pos (.inr g2)]
    rw [if_neg g2, if_neg (show ¬ (d.PC < 0 ∨ 4 ≤ d.PC) by omega)]
    have hpc : d.PC = 0 ∨ d.PC = 1 ∨ d.PC = 2 ∨ d.PC = 3 := by omega
    rcases hpc with h | h | h | h
    · simp [h, zeu, Zi, Xn, w1]
    · rw [h, if_neg (by decide), if_neg (by decide), if_pos rfl, if_neg (by decide), if_pos rfl]
      simp only [zer, xl, Option.bind_some, Xn, zfo, yg, xu]
      by_cases hs : 0 < (ld m (wc (d.Base + 1)) - d.T).toInt
      · simp only [if_pos hs, Option.bind_some, Int.reduceAdd, v2, h]
      · simp only [if_neg hs, Option.bind_some, Int.reduceAdd, v2, h]
    · simp [h, zdN, zhB hc, Xn, w3]
    · simp only [h, zcD, htk, Option.bind_some, xZ]
      cases hs : (sw m d.Base d.T (d.T + 1#64)).2 with
      | true => simp [hs, w4, h]
      | false => simp [hs, w4, h, k1]
  · refine zfg (by simp [k2, k3]) (zfg (by simp [k2, k3]) (zfg (by simp [k2, k3]) ?_))
    rw [if_neg k2, if_neg k3, Option.bind_some]
    by_cases g0 : d.Out = 0
    · simp [g0, k1, k2, k3]
    · simp [g0]
theorem ztG (m : List (BitVec 64)) (d : zi) : (zgY m d).1.length = m.length ∧ (zgY m d).2.Kind = d.Kind ∧ (zgY m d).2.Base = d.Base ∧ (zgY m d).2.Cap = d.Cap := by
  unfold zgY sw st
  split
  · exact ⟨rfl, rfl, rfl, rfl⟩
  split
  · exact ⟨rfl, rfl, rfl, rfl⟩
  split
  · refine ⟨?_, rfl, rfl, rfl⟩; dsimp only; split <;> simp
  split
  · exact ⟨rfl, rfl, rfl, rfl⟩
  split
  · exact ⟨rfl, rfl, rfl, rfl⟩
  split
  · refine ⟨?_, rfl, rfl, rfl⟩; dsimp only; split <;> (try split) <;> simp
  split <;> (refine ⟨?_, rfl, rfl, rfl⟩; dsimp only; split <;> simp)
theorem zrz (m : List (BitVec 64)) (d : zi) : (zau m d).1.length = m.length ∧ (zau m d).2.Kind = d.Kind ∧ (zau m d).2.Base = d.Base ∧ (zau m d).2.Cap = d.Cap := by
  unfold zau sw st
  split
  · exact ⟨rfl, rfl, rfl, rfl⟩
  split
  · exact ⟨rfl, rfl, rfl, rfl⟩
  split
  · exact ⟨rfl, rfl, rfl, rfl⟩
  split
  · exact ⟨rfl, rfl, rfl, rfl⟩
  · refine ⟨?_, ?_, ?_, ?_⟩ <;> dsimp only <;> split <;> (try split) <;> simp
end
end Go.Pe.G
namespace Go.Pe.G
open Go.Pe
noncomputable section
def yS (h : zu) (o : Int) : List Int := h.Objs.getD (o - 1).toNat []
def Vb (h : zu) (o s : Int) : Bool := decide (1 ≤ o) && decide (o ≤ (h.Objs.length : Int)) && decide (0 ≤ s) && decide (s < ((yS h o).length : Int))
def Vc (h : zu) (o s : Int) : Int := if Vb h o s then (yS h o).getD s.toNat 0 else 0
def yM (s : BitVec 64) (o : Int) : Bool := !(decide (s &&& bit o = 0#64))
def Wp (t : zp) (o : Int) : Int := if yM (t.Marks &&& t.Black) o then 2 else if yM t.Marks o then 1 else 0
def U9 (t : zp) (o : Int) : zp := if Wp t o = 1 then { t with Black := t.Black ||| bit o } else t
def U4 (l : zh) (who : Int) : zh :=
  if 1 ≤ who ∧ who ≤ (l.Bal.length : Int) then { l with Scanned := wc (l.Scanned + 1), Bal := l.Bal.set (who - 1).toNat (wc (l.Bal.getD (who - 1).toNat 0 + 1)) }
  else { l with Scanned := wc (l.Scanned + 1), Pool := wc (l.Pool + 1) }
def zli (s : zb) (b : Int) : List Int := s.Bins.getD b.toNat []
def zvK (p : zd) (h x : Int) : zA := ⟨2, 0, h, yP p, 0#64, x, 0, 0⟩
def zs9 (p : zd) (h x : Int) : zA := ⟨1, 0, h, yP p, 0#64, x, 0, 0⟩
def onW (s : zb) (slot : Int) : Int := if slot = s.H.Slots then 8 else 5
def zrr (p : zd) (w : Int) (x : zk) : zk := { x with PC := 0, Victim := w, D := ⟨2, 0, ZO p w, p.Cap, 0#64, 0#64, 0, 0⟩ }
def zls (n v : Int) : Int := if v < n then v + 1 else 1
def znk (p : zd) (w : Int) (x : zk) : zk :=
  if zls p.Workers x.Victim = w then { x with PC := 2, Victim := w, C := zvK p (vl p) 0 }
  else { x with PC := 1, Victim := zls p.Workers x.Victim, D := ⟨3, 0, ZO p (zls p.Workers x.Victim), p.Cap, 0#64, 0#64, 0, 0⟩ }
def yF (s : zb) (w : Int) (x : zk) : zb × zk :=
  if x.PC = 0 ∨ x.PC = 1 then
    ({ s with M := (uh s.M x.D).1 },
      if (uh s.M x.D).2.Out = 1 then { x with D := (uh s.M x.D).2, Victim := w, PC := 5, Obj := (uh s.M x.D).2.X, Slot := 0 }
      else if (uh s.M x.D).2.Out = 2 ∨ (uh s.M x.D).2.Out = 4 then znk s.P w { x with D := (uh s.M x.D).2 } else { x with D := (uh s.M x.D).2 })
  else if x.PC = 2 then
    ({ s with M := (zW s.M x.C).1 },
      if (zW s.M x.C).2.Out = 1 then { x with C := (zW s.M x.C).2, Bin := (zW s.M x.C).2.X, PC := 3 }
      else if (zW s.M x.C).2.Out = 2 then zrr s.P w { x with C := (zW s.M x.C).2 } else { x with C := (zW s.M x.C).2 })
  else if x.PC = 3 then ({ s with Bins := s.Bins.set x.Bin.toNat [] }, { x with Batch := zli s x.Bin, PC := 4, C := zs9 s.P (yP s.P) x.Bin })
  else if x.PC = 4 then
    ({ s with M := (zW s.M x.C).1 }, if (zW s.M x.C).2.Out = 1 then { x with C := (zW s.M x.C).2, Bin := 0, PC := 7 } else { x with C := (zW s.M x.C).2 })
  else if x.PC = 5 then
    (s, if Vc s.H x.Obj x.Slot = 0 then { x with Slot := wc (x.Slot + 1), PC := onW s (wc (x.Slot + 1)) } else { x with Slot := wc (x.Slot + 1), PC := 6, G := zm4 1 (Vc s.H x.Obj x.Slot) w })
  else if x.PC = 6 then ((zD s x.G).1, if (zD s x.G).2.Out = 1 then { x with G := (zD s x.G).2, PC := onW s x.Slot } else { x with G := (zD s x.G).2 })
  else if x.PC = 7 then (s, match x.Batch with | [] => zrr s.P w x | o :: l => { x with Batch := l, PC := 5, Obj := o, Slot := 0 })
  else if x.PC = 8 then ({ s with T := U9 s.T x.Obj, L := U4 s.L 0 }, { x with PC := 9 })
  else if x.PC = 9 then ({ s with Work := wc (s.Work - 1) }, { x with Obj := 0, PC := 7 })
  else (s, x)
def uG (s : zb) (w : Int) : zb :=
  if s.Done = true ∨ w < 1 ∨ (s.Ws.length : Int) < w then s
  else match s.Ws[(w - 1).toNat]? with
    | some x => { (yF s w x).1 with Ws := s.Ws.set (w - 1).toNat (yF s w x).2 }
    | none => s
structure zt0 (p : zd) (nb : Nat) (hd : Int) (c : zA) : Prop where
  k : c.Kind = 2
  h : c.Head = hd
  n : c.Next = yP p
  v : 1 ≤ c.PC → 1 ≤ yT c.H ∧ yT c.H < nb
  y : 2 ≤ c.PC → 0 ≤ c.Y ∧ c.Y < nb
  o : c.Out ≠ 1
structure zrF (p : zd) (nb : Nat) (hd : Int) (c : zA) : Prop where
  k : c.Kind = 1
  h : c.Head = hd
  n : c.Next = yP p
  x : 1 ≤ c.X ∧ c.X < nb
  v : 1 ≤ c.PC → yT c.H < nb
theorem zs8 {p : zd} {nb : Nat} {hd x : Int} : zt0 p nb hd (zvK p hd x) :=
  ⟨rfl, rfl, rfl, fun e => absurd e (by show ¬ (1 : Int) ≤ 0; decide), fun e => absurd e (by show ¬ (2 : Int) ≤ 0; decide), by show (0 : Int) ≠ 1; decide⟩
theorem zq2 {p : zd} {nb : Nat} {hd x : Int} (h : 1 ≤ x ∧ x < nb) : zrF p nb hd (zs9 p hd x) :=
  ⟨rfl, rfl, rfl, h, fun e => absurd e (by show ¬ (1 : Int) ≤ 0; decide)⟩
structure WOk (p : zd) (nb : Nat) (w : Int) (x : zk) : Prop where
  pc : 0 ≤ x.PC ∧ x.PC ≤ 9
  vic : 1 ≤ x.Victim ∧ x.Victim ≤ p.Workers
  d0 : x.PC = 0 → x.D.Kind = 2 ∧ x.D.Base = ZO p w ∧ x.D.Cap = p.Cap
  d1 : x.PC = 1 → x.D.Kind = 3 ∧ x.D.Base = ZO p x.Victim ∧ x.D.Cap = p.Cap
  c2 : x.PC = 2 → zt0 p nb (vl p) x.C
  b3 : x.PC = 3 → 1 ≤ x.Bin ∧ x.Bin < nb
  c4 : x.PC = 4 → zrF p nb (yP p) x.C
  g6 : x.PC = 6 → MOk p nb x.G ∧ (x.G.PC = 5 → x.G.C.Out ≠ 1) ∧ x.G.Mode = 1 ∧ x.G.PC ≠ 4
theorem WOk.plain {p : zd} {nb : Nat} {w : Int} {x : zk} (pc : x.PC = 5 ∨ x.PC = 7 ∨ x.PC = 8 ∨ x.PC = 9) (vic : 1 ≤ x.Victim ∧ x.Victim ≤ p.Workers) : WOk p nb w x :=
  ⟨by omega, vic, fun e => by omega, fun e => by omega, fun e => by omega, fun e => by omega, fun e => by omega, fun e => by omega⟩
theorem SOk.swLow {p : zd} {nb : Nat} {s : zb} (h : zO p) (S : SOk p nb s) {a : Int} (ha : a < vl p) (x v : BitVec 64) : SOk p nb { s with M := (sw s.M a x v).1 } := by
  unfold sw
  split
  · exact S.low h ha v
  · exact S
theorem zxD {p : zd} {nb : Nat} {s : zb} (h : zO p) (S : SOk p nb s) {d : zi} {v : Int} (hv : 1 ≤ v ∧ v ≤ p.Workers) (hk : d.Kind = 2 ∨ d.Kind = 3) (hb : d.Base = ZO p v) : SOk p nb { s with M := (uh s.M d).1 } := by
  have hd := zmD h hv.1 hv.2
  have hc := h.cap
  have hf := zax h
  have e1 : wc (d.Base + 1) = d.Base + 1 := vV (by omega) (by omega)
  unfold uh
  split
  · exact S
  split
  · omega
  split
  · unfold zgY
    rw [e1]
    split
    · exact S
    split
    · exact S
    split
    · exact S.low h (by omega) _
    split
    · exact S
    split
    · exact S
    split
    · exact S.swLow h (by omega) _ _
    split <;> exact S.low h (by omega) _
  split
  · unfold zau
    split
    · exact S
    split
    · exact S
    split
    · exact S
    split
    · exact S
    · exact S.swLow h (by omega) _ _
  · exact S
theorem zmb (m : List (BitVec 64)) (d : zi) : (uh m d).1.length = m.length ∧ (uh m d).2.Kind = d.Kind ∧ (uh m d).2.Base = d.Base ∧ (uh m d).2.Cap = d.Cap := by
  unfold uh
  split
  · exact ⟨rfl, rfl, rfl, rfl⟩
  split
  · unfold u0
    split
    · exact ⟨rfl, rfl, rfl, rfl⟩
    split
    · exact ⟨rfl, rfl, rfl, rfl⟩
    split
    · refine ⟨rfl, ?_, ?_, ?_⟩ <;> dsimp only <;> split <;> rfl
    split <;> exact ⟨W7 _ _ _, rfl, rfl, rfl⟩
  split
  · exact ztG m d
  split
  · exact zrz m d
  · exact ⟨rfl, rfl, rfl, rfl⟩
theorem zwa {n v : Int} (h : 1 ≤ v ∧ v ≤ n) : 1 ≤ zls n v ∧ zls n v ≤ n := by unfold zls; split <;> omega
theorem WOk.look {p : zd} {nb : Nat} {w : Int} {x : zk} (hw : 1 ≤ w ∧ w ≤ p.Workers) (vic : 1 ≤ x.Victim ∧ x.Victim ≤ p.Workers) : WOk p nb w (znk p w x) := by
  have hn := zwa vic
  unfold znk
  split
  · exact ⟨⟨(by show (0 : Int) ≤ 2; decide), (by show (2 : Int) ≤ 9; decide)⟩, hw, fun e => (by cases e), fun e => (by cases e), fun _ => zs8, fun e => (by cases e), fun e => (by cases e), fun e => (by cases e)⟩
  · exact ⟨⟨(by show (0 : Int) ≤ 1; decide), (by show (1 : Int) ≤ 9; decide)⟩, hn, fun e => (by cases e), fun _ => ⟨rfl, rfl, rfl⟩, fun e => (by cases e), fun e => (by cases e), fun e => (by cases e), fun e => (by cases e)⟩
theorem WOk.begin {p : zd} {nb : Nat} {w : Int} {x : zk} (hw : 1 ≤ w ∧ w ≤ p.Workers) : WOk p nb w (zrr p w x) :=
  ⟨⟨(by show (0 : Int) ≤ 0; decide), (by show (0 : Int) ≤ 9; decide)⟩, hw, fun _ => ⟨rfl, rfl, rfl⟩, fun e => (by cases e), fun e => (by cases e), fun e => (by cases e), fun e => (by cases e), fun e => (by cases e)⟩
theorem zs6 (s : zb) {g : zC} (h1 : g.Mode = 1) (h4 : g.PC ≠ 4) : (zD s g).2.PC ≠ 4 ∧ (zD s g).1.Flag = s.Flag := by
  have five : (5 : Int) ≠ 4 := by decide
  unfold zD
  split
  · exact ⟨h4, rfl⟩
  split
  · refine ⟨?_, rfl⟩; unfold zfx; dsimp only; split <;> exact h4
  split
  · exact ⟨(by show (7 : Int) ≠ 4; decide), rfl⟩
  split
  · refine ⟨?_, rfl⟩; unfold zlv; dsimp only
    split
    · show (6 : Int) ≠ 4; decide
    split
    · exact five
    · exact h4
  split
  · refine ⟨?_, rfl⟩; unfold zlw; dsimp only
    split
    · exact h4
    split
    · exact five
    · exact h4
  split
  · exact ⟨h4, rfl⟩
  split
  · refine ⟨?_, rfl⟩; unfold znw; dsimp only
    split
    · show (2 : Int) ≠ 4; decide
    · show (3 : Int) ≠ 4; decide
  · exact ⟨(by show (1 : Int) ≠ 4; decide), rfl⟩
theorem zuO (s : zb) (i : Int) : onW s i = 5 ∨ onW s i = 8 := by unfold onW; split <;> simp
theorem SOk.keep {p : zd} {nb : Nat} {s s' : zb} (S : SOk p nb s) (hP : s'.P = s.P) (hM : s'.M = s.M) (hB : s'.Bins.length = s.Bins.length) : SOk p nb s' :=
  ⟨hP.trans S.P, hB.trans S.bins, S.nbk, by rw [hM]; exact S.mem, by rw [hM]; exact S.cF, by rw [hM]; exact S.cE, by rw [hM]; exact S.cL⟩
theorem zwJ {p : zd} {nb : Nat} {s : zb} {w : Int} {x : zk} (h : zO p) (hw : 1 ≤ w ∧ w ≤ p.Workers) (S : SOk p nb s) (W : WOk p nb w x) : SOk p nb (yF s w x).1 ∧ WOk p nb w (yF s w x).2 := by
  have hP := S.P
  unfold yF
  split
  · rename_i h01
    have hv : ∃ v, (1 ≤ v ∧ v ≤ p.Workers) ∧ (x.D.Kind = 2 ∨ x.D.Kind = 3) ∧ x.D.Base = ZO p v := by
      rcases h01 with e | e
      · obtain ⟨a, b, c⟩ := W.d0 e; exact ⟨w, hw, .inl a, b⟩
      · obtain ⟨a, b, c⟩ := W.d1 e; exact ⟨x.Victim, W.vic, .inr a, b⟩
    obtain ⟨v, hv1, hv2, hv3⟩ := hv
    refine ⟨zxD h S hv1 hv2 hv3, ?_⟩
    obtain ⟨l1, l2, l3, l4⟩ := zmb s.M x.D
    dsimp only
    split
    · exact WOk.plain (.inl rfl) hw
    split
    · rw [hP]; exact WOk.look hw W.vic
    · refine ⟨W.pc, W.vic, fun e => ?_, fun e => ?_, fun e => by dsimp only at e; omega, fun e => by dsimp only at e; omega, fun e => by dsimp only at e; omega, fun e => by dsimp only at e; omega⟩
      · obtain ⟨a, b, c⟩ := W.d0 e; exact ⟨l2.trans a, l3.trans b, l4.trans c⟩
      · obtain ⟨a, b, c⟩ := W.d1 e; exact ⟨l2.trans a, l3.trans b, l4.trans c⟩
  split
  · rename_i h2
    have C := W.c2 h2
    obtain ⟨b1, b2, b3, b4, b5, b6⟩ := zrD h S (.inl rfl) C.k C.h C.n C.v C.y C.o
    refine ⟨b1, ?_⟩
    dsimp only
    split
    · rename_i e1
      exact ⟨⟨(by show (0 : Int) ≤ 3; decide), (by show (3 : Int) ≤ 9; decide)⟩, W.vic, fun e => (by cases e), fun e => (by cases e), fun e => (by cases e), fun _ => b6 e1, fun e => (by cases e), fun e => (by cases e)⟩
    split
    · rw [hP]; exact WOk.begin hw
    · rename_i e1 e2
      exact ⟨W.pc, W.vic, fun e => (by dsimp only at e; omega), fun e => (by dsimp only at e; omega), fun _ => ⟨b2, b3, b4, (b5 e1 e2).1, (b5 e1 e2).2, e1⟩, fun e => (by dsimp only at e; omega), fun e => (by dsimp only at e; omega), fun e => (by dsimp only at e; omega)⟩
  split
  · rename_i h3
    have B := W.b3 h3
    refine ⟨S.keep rfl rfl (by simp), ?_⟩
    rw [hP]
    exact ⟨⟨(by show (0 : Int) ≤ 4; decide), (by show (4 : Int) ≤ 9; decide)⟩, W.vic, fun e => (by cases e), fun e => (by cases e), fun e => (by cases e), fun e => (by cases e), fun _ => zq2 B, fun e => (by cases e)⟩
  split
  · rename_i h4
    have C := W.c4 h4
    obtain ⟨b1, b2, b3, b4, b5, b6⟩ := zov h S (.inr rfl) C.k C.h C.n C.x C.v
    refine ⟨b1, ?_⟩
    dsimp only
    split
    · exact WOk.plain (.inr (.inl rfl)) W.vic
    · exact ⟨W.pc, W.vic, fun e => (by dsimp only at e; omega), fun e => (by dsimp only at e; omega), fun e => (by dsimp only at e; omega), fun e => (by dsimp only at e; omega), fun _ => ⟨b2, b3, b4, b5, b6⟩, fun e => (by dsimp only at e; omega)⟩
  split
  · refine ⟨S, ?_⟩
    dsimp only
    split
    · rcases zuO s (wc (x.Slot + 1)) with e | e <;> rw [e]
      · exact WOk.plain (.inl rfl) W.vic
      · exact WOk.plain (.inr (.inr (.inl rfl))) W.vic
    · exact ⟨⟨(by show (0 : Int) ≤ 6; decide), (by show (6 : Int) ≤ 9; decide)⟩, W.vic, fun e => (by cases e), fun e => (by cases e), fun e => (by cases e), fun e => (by cases e), fun e => (by cases e), fun _ =>
        ⟨⟨fun _ => hw, fun e => (by cases e), fun e => (by cases e), fun e => (by cases e), fun e => (by cases e)⟩, fun e => (by cases e), rfl, by show (0 : Int) ≠ 4; decide⟩⟩
  split
  · rename_i h6
    obtain ⟨g1, g2, g3, g4⟩ := W.g6 h6
    obtain ⟨r1, r2, r3⟩ := zpi h S g1 g2
    refine ⟨r1, ?_⟩
    dsimp only
    split
    · rcases zuO s x.Slot with e | e <;> rw [e]
      · exact WOk.plain (.inl rfl) W.vic
      · exact WOk.plain (.inr (.inr (.inl rfl))) W.vic
    · exact ⟨W.pc, W.vic, fun e => (by dsimp only at e; omega), fun e => (by dsimp only at e; omega), fun e => (by dsimp only at e; omega), fun e => (by dsimp only at e; omega), fun e => (by dsimp only at e; omega), fun _ => ⟨r2, r3, (zfw s x.G).2.2.trans g3, (zs6 s g3 g4).1⟩⟩
  split
  · refine ⟨S, ?_⟩
    dsimp only
    split
    · rw [hP]; exact WOk.begin hw
    · exact WOk.plain (.inl rfl) W.vic
  split
  · exact ⟨S.keep rfl rfl rfl, WOk.plain (.inr (.inr (.inr rfl))) W.vic⟩
  split
  · exact ⟨S.keep rfl rfl rfl, WOk.plain (.inr (.inl rfl)) W.vic⟩
  · have := W.pc
    omega
end
end Go.Pe.G
namespace Go.Pe.G
open Go.Pe
noncomputable section
def zcn (h : zu) (o s v : Int) : zu :=
  if Vb h o s = true ∧ 0 ≤ v ∧ v ≤ (h.Objs.length : Int) then { h with Objs := h.Objs.set (o - 1).toNat ((yS h o).set s.toNat v) } else h
def U0 (h : zu) (most : Int) : Bool := decide ((h.Objs.length : Int) < most) && decide ((h.Objs.length : Int) < 64)
def UN (h : zu) : zu := { h with Objs := h.Objs ++ [List.replicate h.Slots.toNat 0] }
def zgs (t : zp) (o : Int) : zp := if (YJ t o).2 = true then U9 (YJ t o).1 o else t
def V9 (l : zh) (who : Int) : Int := l.Bal.getD (who - 1).toNat 0
def WW (l : zh) (who : Int) : Bool := decide (1 ≤ who) && decide (who ≤ (l.Bal.length : Int))
def Va (l : zh) (who price limit : Int) : Bool := WW l who && decide (0 ≤ price) && decide (0 ≤ limit) && decide (price ≤ 1000000) && decide (limit ≤ 1000000)
def zcv (l : zh) (who price limit : Int) : Bool := Va l who price limit && decide (wc (-limit) ≤ wc (V9 l who - price))
def UC (l : zh) (who price : Int) : zh := { l with Spent := wc (l.Spent + price), Bal := l.Bal.set (who - 1).toNat (wc (V9 l who - price)) }
def zkt (l : zh) (who price limit : Int) : Int := if Va l who price limit then (if zcv l who price limit then 0 else wc (wc (price - limit) - V9 l who)) else -1
def zhQ (a b : Int) : Int := if b < a then b else a
def UZ (l : zh) (who want : Int) : zh × Int :=
  if WW l who = true ∧ 0 < zhQ want l.Pool then ({ l with Pool := wc (l.Pool - zhQ want l.Pool), Bal := l.Bal.set (who - 1).toNat (wc (V9 l who + zhQ want l.Pool)) }, zhQ want l.Pool) else (l, 0)
def x6 (p : zd) (m : Int) : List zg := p.Progs.getD (m - 1).toNat []
def opM (p : zd) (m : Int) (x : zc) : zg := (x6 p m).getD x.IP.toNat ⟨0, 0, 0, 0⟩
def zhS (x : zc) (r : Int) : Int := x.Regs.getD r.toNat 0
def zqC (x : zc) : zc := { x with PC := 0, IP := wc (x.IP + 1) }
def setM (x : zc) (r v : Int) : zc := { x with PC := 0, IP := wc (x.IP + 1), Regs := x.Regs.set r.toNat v }
def onM (s : zb) (slot : Int) : Int := if slot = s.H.Slots then 38 else 36
def zqF (s : zb) (m : Int) (x : zc) : Int := Vc s.H (zhS x (opM s.P m x).A) (opM s.P m x).S
def zaX (s : zb) (m : Int) (x : zc) : zc :=
  if s.Acks.getD (m - 1).toNat 0 < s.Epoch then { x with PC := 1, Ret := 2, Want := s.Epoch }
  else if ((x6 s.P m).length : Int) ≤ x.IP then x
  else if (opM s.P m x).Kind = 1 then { x with PC := 10 }
  else if (opM s.P m x).Kind = 2 then { x with PC := 20 }
  else if (opM s.P m x).Kind = 3 then { x with PC := 30 }
  else if (opM s.P m x).Kind = 4 then setM x (opM s.P m x).R (zhS x (opM s.P m x).A)
  else setM x (opM s.P m x).R 0
def mu0 (s : zb) (m : Int) (x : zc) : zb × zc :=
  (s, zaX s m x)
def mu1 (s : zb) (m : Int) (x : zc) : zb × zc :=
  (s, if x.Buf.length = 0 then { x with PC := x.Ret } else { x with PC := 3, Buf := x.Buf.take (x.Buf.length - 1), G := zm4 2 (x.Buf.getD (x.Buf.length - 1) 0) m })
def mu2 (s : zb) (m : Int) (x : zc) : zb × zc :=
  ({ s with Acks := s.Acks.set (m - 1).toNat x.Want }, { x with PC := 0 })
def mu3 (s : zb) (m : Int) (x : zc) : zb × zc :=
  ((zD s x.G).1, if (zD s x.G).2.Out = 1 then { x with PC := 1, G := (zD s x.G).2 } else { x with G := (zD s x.G).2 })
def zkF (s : zb) (m : Int) (x : zc) : zb × zc :=
  (s, setM x (opM s.P m x).R (zqF s m x))
def ziU (s : zb) (m : Int) (x : zc) : zb × zc :=
  (s, if zhS x (opM s.P m x).A = 0 then zqC x else { x with PC := 21, Old := zqF s m x })
def zjx (s : zb) (m : Int) (x : zc) : zb × zc :=
  (s, if x.Old = 0 ∨ Wp s.T x.Old ≠ 0 then { x with PC := 23, Old := 0 } else { x with PC := 22 })
def zjC (s : zb) (m : Int) (x : zc) : zb × zc :=
  (s, if s.P.Buf ≤ (x.Buf.length : Int) then { x with PC := 1, Ret := 22 } else { x with PC := 23, Old := 0, Buf := x.Buf ++ [x.Old] })
def zkg (s : zb) (m : Int) (x : zc) : zb × zc :=
  ({ s with H := zcn s.H (zhS x (opM s.P m x).A) (opM s.P m x).S (zhS x (opM s.P m x).R) }, zqC x)
def zdV (s : zb) (m : Int) (x : zc) : zb × zc :=
     if zcv s.L m s.P.Price s.P.Limit = true then
      if U0 s.H s.P.Most = true then ({ s with L := UC s.L m s.P.Price, H := UN s.H, T := zgs s.T (wc (s.H.Objs.length + 1)) }, setM x (opM s.P m x).R (wc (s.H.Objs.length + 1)))
      else (s, zqC x)
    else (s, { x with PC := 31 })
def ziT (s : zb) (m : Int) (x : zc) : zb × zc :=
     ({ s with L := (UZ s.L m (zkt s.L m s.P.Price s.P.Limit)).1 }, if (UZ s.L m (zkt s.L m s.P.Price s.P.Limit)).2 = 0 then { x with PC := 32, C := zvK s.P (vl s.P) x.Bin } else { x with PC := 0 })
def zi5 (s : zb) (m : Int) (x : zc) : zb × zc :=
     ({ s with M := (zW s.M x.C).1 }, if (zW s.M x.C).2.Out = 1 then { x with PC := 33, Bin := (zW s.M x.C).2.X, C := (zW s.M x.C).2 }
      else if (zW s.M x.C).2.Out = 2 then { x with PC := 0, C := (zW s.M x.C).2 } else { x with C := (zW s.M x.C).2 })
def zk6 (s : zb) (m : Int) (x : zc) : zb × zc :=
  ({ s with Bins := s.Bins.set x.Bin.toNat [] }, { x with Batch := zli s x.Bin, PC := 34, C := zs9 s.P (yP s.P) x.Bin })
def zjL (s : zb) (m : Int) (x : zc) : zb × zc :=
     ({ s with M := (zW s.M x.C).1 }, if (zW s.M x.C).2.Out = 1 then { x with C := (zW s.M x.C).2, Bin := 0, PC := 35 } else { x with C := (zW s.M x.C).2 })
def ziZ (s : zb) (m : Int) (x : zc) : zb × zc :=
  (s, match x.Batch with | [] => { x with PC := 0 } | o :: l => { x with PC := 36, Obj := o, Slot := 0, Batch := l })
def zjQ (s : zb) (m : Int) (x : zc) : zb × zc :=
     (s, if Vc s.H x.Obj x.Slot = 0 then { x with Slot := wc (x.Slot + 1), PC := onM s (wc (x.Slot + 1)) } else { x with Slot := wc (x.Slot + 1), PC := 37, G := zm4 3 (Vc s.H x.Obj x.Slot) m })
def zi6 (s : zb) (m : Int) (x : zc) : zb × zc :=
  ((zD s x.G).1, if (zD s x.G).2.Out = 1 then { x with G := (zD s x.G).2, PC := onM s x.Slot } else { x with G := (zD s x.G).2 })
def zks (s : zb) (m : Int) (x : zc) : zb × zc :=
  ({ s with T := U9 s.T x.Obj, L := U4 s.L m }, { x with PC := 39 })
def zmi (s : zb) (m : Int) (x : zc) : zb × zc :=
  ({ s with Work := wc (s.Work - 1) }, { x with Obj := 0, PC := 35 })
def zH (s : zb) (m : Int) (x : zc) : zb × zc :=
  if x.PC = 0 then mu0 s m x
  else if x.PC = 1 then mu1 s m x
  else if x.PC = 2 then mu2 s m x
  else if x.PC = 3 then mu3 s m x
  else if x.PC = 10 then zkF s m x
  else if x.PC = 20 then ziU s m x
  else if x.PC = 21 then zjx s m x
  else if x.PC = 22 then zjC s m x
  else if x.PC = 23 then zkg s m x
  else if x.PC = 30 then zdV s m x
  else if x.PC = 31 then ziT s m x
  else if x.PC = 32 then zi5 s m x
  else if x.PC = 33 then zk6 s m x
  else if x.PC = 34 then zjL s m x
  else if x.PC = 35 then ziZ s m x
  else if x.PC = 36 then zjQ s m x
  else if x.PC = 37 then zi6 s m x
  else if x.PC = 38 then zks s m x
  else if x.PC = 39 then zmi s m x
  else (s, x)
def z3 (s : zb) (m : Int) : zb :=
  if s.Done = true ∨ m < 1 ∨ (s.Ms.length : Int) < m then s
  else match s.Ms[(m - 1).toNat]? with
    | some x => { (zH s m x).1 with Ms := s.Ms.set (m - 1).toNat (zH s m x).2 }
    | none => s
def zcZ (p : zd) (m : Int) : Nat := (p.Regs.getD (m - 1).toNat []).length
structure XOk (p : zd) (nb : Nat) (m : Int) (x : zc) : Prop where
  pc : (0 ≤ x.PC ∧ x.PC ≤ 3) ∨ x.PC = 10 ∨ (20 ≤ x.PC ∧ x.PC ≤ 23) ∨ (30 ≤ x.PC ∧ x.PC ≤ 39)
  regs : x.Regs.length = zcZ p m
  ip : 0 ≤ x.IP ∧ x.IP ≤ ((x6 p m).length : Int)
  op : (10 ≤ x.PC ∧ x.PC ≤ 30) ∨ ((x.PC = 1 ∨ x.PC = 3) ∧ x.Ret = 22) → x.IP < ((x6 p m).length : Int)
  ret : x.PC = 1 ∨ x.PC = 3 → x.Ret = 2 ∨ x.Ret = 22
  c32 : x.PC = 32 → zt0 p nb (vl p) x.C
  b33 : x.PC = 33 → 1 ≤ x.Bin ∧ x.Bin < nb
  c34 : x.PC = 34 → zrF p nb (yP p) x.C
  bin : x.PC ≠ 33 → x.PC ≠ 34 → x.Bin = 0
  g : x.PC = 3 ∨ x.PC = 37 → MOk p nb x.G ∧ (x.G.PC = 5 → x.G.C.Out ≠ 1) ∧ x.G.Mode ≠ 1
  buf : (x.Buf.length : Int) ≤ p.Buf
theorem XOk.move {p : zd} {nb : Nat} {m : Int} {x y : zc} (X : XOk p nb m x) (h : x.PC ≠ 33 ∧ x.PC ≠ 34) (pc : y.PC = 0 ∨ y.PC = 2 ∨ y.PC = 10 ∨ (20 ≤ y.PC ∧ y.PC ≤ 23) ∨ y.PC = 30 ∨ y.PC = 31 ∨ y.PC = 35 ∨ y.PC = 36 ∨ y.PC = 38 ∨ y.PC = 39)
    (regs : y.Regs.length = x.Regs.length) (bin : y.Bin = x.Bin) (buf : (y.Buf.length : Int) ≤ p.Buf) (ip : 0 ≤ y.IP ∧ y.IP ≤ ((x6 p m).length : Int)) (op : 10 ≤ y.PC ∧ y.PC ≤ 30 → y.IP < ((x6 p m).length : Int)) : XOk p nb m y :=
  ⟨by omega, regs.trans X.regs, ip, fun e => op (by omega), fun e => by omega, fun e => by omega, fun e => by omega, fun e => by omega, fun _ _ => bin.trans (X.bin h.1 h.2), fun e => by omega, buf⟩
theorem ziu (s : zb) (i : Int) : onM s i = 36 ∨ onM s i = 38 := by unfold onM; split <;> simp
theorem XOk.next {p : zd} {nb : Nat} {m : Int} {x : zc} (hp : ((x6 p m).length : Int) ≤ 64) (X : XOk p nb m x) (h : x.PC ≠ 33 ∧ x.PC ≠ 34) (hi : x.IP < ((x6 p m).length : Int)) : XOk p nb m (zqC x) := by
  have := X.ip
  have e : wc (x.IP + 1) = x.IP + 1 := vV (by omega) (by omega)
  refine X.move h (.inl rfl) rfl rfl X.buf ?_ (fun h => absurd h (by show ¬ ((10 : Int) ≤ 0 ∧ (0 : Int) ≤ 30); decide))
  show 0 ≤ wc (x.IP + 1) ∧ wc (x.IP + 1) ≤ _
  rw [e]; omega
theorem XOk.set {p : zd} {nb : Nat} {m : Int} {x : zc} (hp : ((x6 p m).length : Int) ≤ 64) (X : XOk p nb m x) (h : x.PC ≠ 33 ∧ x.PC ≠ 34) (hi : x.IP < ((x6 p m).length : Int)) (r v : Int) : XOk p nb m (setM x r v) := by
  have := X.ip
  have e : wc (x.IP + 1) = x.IP + 1 := vV (by omega) (by omega)
  refine X.move h (.inl rfl) (by simp [setM]) rfl X.buf ?_ (fun h => absurd h (by show ¬ ((10 : Int) ≤ 0 ∧ (0 : Int) ≤ 30); decide))
  show 0 ≤ wc (x.IP + 1) ∧ wc (x.IP + 1) ≤ _
  rw [e]; omega
theorem vS {motive : zb × zc → Prop} (s : zb) (m : Int) (x : zc) (h0 : x.PC = 0 → motive (mu0 s m x)) (h1 : x.PC = 1 → motive (mu1 s m x)) (h2 : x.PC = 2 → motive (mu2 s m x)) (h3 : x.PC = 3 → motive (mu3 s m x)) (h10 : x.PC = 10 → motive (zkF s m x)) (h20 : x.PC = 20 → motive (ziU s m x)) (h21 : x.PC = 21 → motive (zjx s m x)) (h22 : x.PC = 22 → motive (zjC s m x)) (h23 : x.PC = 23 → motive (zkg s m x)) (h30 : x.PC = 30 → motive (zdV s m x)) (h31 : x.PC = 31 → motive (ziT s m x)) (h32 : x.PC = 32 → motive (zi5 s m x)) (h33 : x.PC = 33 → motive (zk6 s m x)) (h34 : x.PC = 34 → motive (zjL s m x)) (h35 : x.PC = 35 → motive (ziZ s m x)) (h36 : x.PC = 36 → motive (zjQ s m x)) (h37 : x.PC = 37 → motive (zi6 s m x)) (h38 : x.PC = 38 → motive (zks s m x)) (h39 : x.PC = 39 → motive (zmi s m x)) (hn : motive (s, x)) : motive (zH s m x) := by
  unfold zH
  by_cases c0 : x.PC = 0
  · rw [if_pos c0]; exact h0 c0
  rw [if_neg c0]
  by_cases c1 : x.PC = 1
  · rw [if_pos c1]; exact h1 c1
  rw [if_neg c1]
  by_cases c2 : x.PC = 2
  · rw [if_pos c2]; exact h2 c2
  rw [if_neg c2]
  by_cases c3 : x.PC = 3
  · rw [if_pos c3]; exact h3 c3
  rw [if_neg c3]
  by_cases c10 : x.PC = 10
  · rw [if_pos c10]; exact h10 c10
  rw [if_neg c10]
  by_cases c20 : x.PC = 20
  · rw [if_pos c20]; exact h20 c20
  rw [if_neg c20]
  by_cases c21 : x.PC = 21
  · rw [if_pos c21]; exact h21 c21
  rw [if_neg c21]
  by_cases c22 : x.PC = 22
  · rw [if_pos c22]; exact h22 c22
  rw [if_neg c22]
  by_cases c23 : x.PC = 23
  · rw [if_pos c23]; exact h23 c23
  rw [if_neg c23]
  by_cases c30 : x.PC = 30
  · rw [if_pos c30]; exact h30 c30
  rw [if_neg c30]
  by_cases c31 : x.PC = 31
  · rw [if_pos c31]; exact h31 c31
  rw [if_neg c31]
  by_cases c32 : x.PC = 32
  · rw [if_pos c32]; exact h32 c32
  rw [if_neg c32]
  by_cases c33 : x.PC = 33
  · rw [if_pos c33]; exact h33 c33
  rw [if_neg c33]
  by_cases c34 : x.PC = 34
  · rw [if_pos c34]; exact h34 c34
  rw [if_neg c34]
  by_cases c35 : x.PC = 35
  · rw [if_pos c35]; exact h35 c35
  rw [if_neg c35]
  by_cases c36 : x.PC = 36
  · rw [if_pos c36]; exact h36 c36
  rw [if_neg c36]
  by_cases c37 : x.PC = 37
  · rw [if_pos c37]; exact h37 c37
  rw [if_neg c37]
  by_cases c38 : x.PC = 38
  · rw [if_pos c38]; exact h38 c38
  rw [if_neg c38]
  by_cases c39 : x.PC = 39
  · rw [if_pos c39]; exact h39 c39
  rw [if_neg c39]
  exact hn
theorem zwY {p : zd} {nb : Nat} {s : zb} {m : Int} {x : zc} (h : zO p) (hp : ((x6 p m).length : Int) ≤ 64) (S : SOk p nb s) (X : XOk p nb m x) : SOk p nb (zH s m x).1 ∧ XOk p nb m (zH s m x).2 := by
  have hP := S.P
  have hip := X.ip
  have hbuf := X.buf
  have hb := h.buf
  have nop : ∀ y : Int, 31 ≤ y → ¬ (10 ≤ y ∧ y ≤ 30) := fun y h e => by omega
  refine vS (motive := fun r => SOk p nb r.1 ∧ XOk p nb m r.2) s m x ?_ ?_ ?_ ?_ ?_ ?_ ?_ ?_ ?_ ?_ ?_ ?_ ?_ ?_ ?_ ?_ ?_ ?_ ?_ ?_
  · intro c
    unfold mu0
    refine ⟨S, ?_⟩
    unfold zaX
    rw [hP]
    split
    · exact ⟨.inl ⟨(by show (0 : Int) ≤ 1; decide), (by show (1 : Int) ≤ 3; decide)⟩, X.regs, X.ip, fun e => by dsimp only at e; omega, fun _ => .inl rfl, fun e => (by cases e), fun e => (by cases e), fun e => (by cases e), fun _ _ => X.bin (by omega) (by omega), fun e => by dsimp only at e; omega, X.buf⟩
    split
    · exact X
    rename_i hlt
    have hlt : x.IP < ((x6 p m).length : Int) := by omega
    split
    · exact X.move (by omega) (.inr (.inr (.inl rfl))) rfl rfl X.buf X.ip (fun _ => hlt)
    split
    · exact X.move (by omega) (.inr (.inr (.inr (.inl ⟨by show (20 : Int) ≤ 20; decide, by show (20 : Int) ≤ 23; decide⟩)))) rfl rfl X.buf X.ip (fun _ => hlt)
    split
    · exact X.move (by omega) (.inr (.inr (.inr (.inr (.inl rfl))))) rfl rfl X.buf X.ip (fun _ => hlt)
    split
    · exact X.set hp (by omega) hlt _ _
    · exact X.set hp (by omega) hlt _ _
  · intro c
    unfold mu1
    refine ⟨S, ?_⟩
    split
    · rcases X.ret (.inl c) with e | e
      · exact X.move (by omega) (.inr (.inl e)) rfl rfl X.buf X.ip (fun e2 => by dsimp only at e2; omega)
      · exact X.move (by omega) (.inr (.inr (.inr (.inl (by dsimp only; omega))))) rfl rfl X.buf X.ip (fun e2 => X.op (.inr ⟨.inl c, e⟩))
    · exact ⟨.inl ⟨(by show (0 : Int) ≤ 3; decide), (by show (3 : Int) ≤ 3; decide)⟩, X.regs, X.ip, fun e => X.op (.inr ⟨.inl c, by dsimp only at e; omega⟩), fun _ => X.ret (.inl c), fun e => (by cases e), fun e => (by cases e), fun e => (by cases e), fun _ _ => X.bin (by omega) (by omega),
        fun _ => ⟨⟨fun e => absurd e (by show ¬ (2 : Int) = 1; decide), fun e => (by cases e), fun e => (by cases e), fun e => (by cases e), fun e => (by cases e)⟩, fun e => (by cases e), by show (2 : Int) ≠ 1; decide⟩, by dsimp only; rw [List.length_take]; omega⟩
  · intro c
    unfold mu2
    exact ⟨S.keep rfl rfl rfl, X.move (by omega) (.inl rfl) rfl rfl X.buf X.ip (fun e => absurd e (by show ¬ ((10 : Int) ≤ 0 ∧ (0 : Int) ≤ 30); decide))⟩
  · intro c
    unfold mu3
    obtain ⟨g1, g2, g3⟩ := X.g (.inl c)
    obtain ⟨r1, r2, r3⟩ := zpi h S g1 g2
    refine ⟨r1, ?_⟩
    dsimp only
    split
    · exact ⟨.inl ⟨(by show (0 : Int) ≤ 1; decide), (by show (1 : Int) ≤ 3; decide)⟩, X.regs, X.ip, fun e => X.op (.inr ⟨.inr c, by dsimp only at e; omega⟩), fun _ => X.ret (.inr c), fun e => (by cases e), fun e => (by cases e), fun e => (by cases e), fun _ _ => X.bin (by omega) (by omega), fun e => by dsimp only at e; omega, X.buf⟩
    · exact ⟨X.pc, X.regs, X.ip, X.op, X.ret, fun e => by dsimp only at e; omega, fun e => by dsimp only at e; omega, fun e => by dsimp only at e; omega, X.bin, fun _ => ⟨r2, r3, by rw [(zfw s x.G).2.2]; exact g3⟩, X.buf⟩
  · intro c
    unfold zkF
    exact ⟨S, X.set hp (by omega) (X.op (.inl (by omega))) _ _⟩
  · intro c
    unfold ziU
    refine ⟨S, ?_⟩
    split
    · exact X.next hp (by omega) (X.op (.inl (by omega)))
    · exact X.move (by omega) (.inr (.inr (.inr (.inl ⟨by show (20 : Int) ≤ 21; decide, by show (21 : Int) ≤ 23; decide⟩)))) rfl rfl X.buf X.ip (fun _ => X.op (.inl (by omega)))
  · intro c
    unfold zjx
    refine ⟨S, ?_⟩
    split
    · exact X.move (by omega) (.inr (.inr (.inr (.inl ⟨by show (20 : Int) ≤ 23; decide, by show (23 : Int) ≤ 23; decide⟩)))) rfl rfl X.buf X.ip (fun _ => X.op (.inl (by omega)))
    · exact X.move (by omega) (.inr (.inr (.inr (.inl ⟨by show (20 : Int) ≤ 22; decide, by show (22 : Int) ≤ 23; decide⟩)))) rfl rfl X.buf X.ip (fun _ => X.op (.inl (by omega)))
  · intro c
    unfold zjC
    have hi := X.op (.inl (by omega))
    refine ⟨S, ?_⟩
    rw [hP]
    split
    · exact ⟨.inl ⟨(by show (0 : Int) ≤ 1; decide), (by show (1 : Int) ≤ 3; decide)⟩, X.regs, X.ip, fun e => hi, fun _ => .inr rfl, fun e => (by cases e), fun e => (by cases e), fun e => (by cases e), fun _ _ => X.bin (by omega) (by omega), fun e => by dsimp only at e; omega, X.buf⟩
    · exact X.move (by omega) (.inr (.inr (.inr (.inl ⟨by show (20 : Int) ≤ 23; decide, by show (23 : Int) ≤ 23; decide⟩)))) rfl rfl (by simp; omega) X.ip (fun _ => hi)
  · intro c
    unfold zkg
    exact ⟨S.keep rfl rfl rfl, X.next hp (by omega) (X.op (.inl (by omega)))⟩
  · intro c
    unfold zdV
    have hi := X.op (.inl (by omega))
    split
    · split
      · exact ⟨S.keep rfl rfl rfl, X.set hp (by omega) hi _ _⟩
      · exact ⟨S, X.next hp (by omega) hi⟩
    · exact ⟨S, X.move (by omega) (.inr (.inr (.inr (.inr (.inr (.inl rfl)))))) rfl rfl X.buf X.ip (fun e => absurd e (by show ¬ ((10 : Int) ≤ 31 ∧ (31 : Int) ≤ 30); decide))⟩
  · intro c
    unfold ziT
    refine ⟨S.keep rfl rfl rfl, ?_⟩
    rw [hP]
    split
    · exact ⟨.inr (.inr (.inr ⟨(by show (30 : Int) ≤ 32; decide), (by show (32 : Int) ≤ 39; decide)⟩)), X.regs, X.ip, fun e => by dsimp only at e; omega, fun e => by dsimp only at e; omega, fun _ => zs8, fun e => (by cases e), fun e => (by cases e), fun _ _ => X.bin (by omega) (by omega), fun e => by dsimp only at e; omega, X.buf⟩
    · exact X.move (by omega) (.inl rfl) rfl rfl X.buf X.ip (fun e => absurd e (by show ¬ ((10 : Int) ≤ 0 ∧ (0 : Int) ≤ 30); decide))
  · intro c
    unfold zi5
    have C := X.c32 c
    obtain ⟨b1, b2, b3, b4, b5, b6⟩ := zrD h S (.inl rfl) C.k C.h C.n C.v C.y C.o
    refine ⟨b1, ?_⟩
    dsimp only
    split
    · rename_i e1
      exact ⟨.inr (.inr (.inr ⟨(by show (30 : Int) ≤ 33; decide), (by show (33 : Int) ≤ 39; decide)⟩)), X.regs, X.ip, fun e => by dsimp only at e; omega, fun e => by dsimp only at e; omega, fun e => (by cases e), fun _ => b6 e1, fun e => (by cases e), fun e => absurd rfl e, fun e => by dsimp only at e; omega, X.buf⟩
    split
    · exact X.move (by omega) (.inl rfl) rfl rfl X.buf X.ip (fun e => absurd e (by show ¬ ((10 : Int) ≤ 0 ∧ (0 : Int) ≤ 30); decide))
    · rename_i e1 e2
      exact ⟨X.pc, X.regs, X.ip, X.op, X.ret, fun _ => ⟨b2, b3, b4, (b5 e1 e2).1, (b5 e1 e2).2, e1⟩, fun e => by dsimp only at e; omega, fun e => by dsimp only at e; omega, X.bin, fun e => by dsimp only at e; omega, X.buf⟩
  · intro c
    unfold zk6
    have B := X.b33 c
    refine ⟨S.keep rfl rfl (by simp), ?_⟩
    rw [hP]
    exact ⟨.inr (.inr (.inr ⟨(by show (30 : Int) ≤ 34; decide), (by show (34 : Int) ≤ 39; decide)⟩)), X.regs, X.ip, fun e => by dsimp only at e; omega, fun e => by dsimp only at e; omega, fun e => (by cases e), fun e => (by cases e), fun _ => zq2 B, fun _ e => absurd rfl e, fun e => by dsimp only at e; omega, X.buf⟩
  · intro c
    unfold zjL
    have C := X.c34 c
    obtain ⟨b1, b2, b3, b4, b5, b6⟩ := zov h S (.inr rfl) C.k C.h C.n C.x C.v
    refine ⟨b1, ?_⟩
    dsimp only
    split
    · exact ⟨.inr (.inr (.inr ⟨(by show (30 : Int) ≤ 35; decide), (by show (35 : Int) ≤ 39; decide)⟩)), X.regs, X.ip, fun e => by dsimp only at e; omega, fun e => by dsimp only at e; omega, fun e => (by cases e), fun e => (by cases e), fun e => (by cases e), fun _ _ => rfl, fun e => by dsimp only at e; omega, X.buf⟩
    · exact ⟨X.pc, X.regs, X.ip, X.op, X.ret, fun e => by dsimp only at e; omega, fun e => by dsimp only at e; omega, fun _ => ⟨b2, b3, b4, b5, b6⟩, X.bin, fun e => by dsimp only at e; omega, X.buf⟩
  · intro c
    unfold ziZ
    refine ⟨S, ?_⟩
    dsimp only
    split
    · exact X.move (by omega) (.inl rfl) rfl rfl X.buf X.ip (fun e => absurd e (by show ¬ ((10 : Int) ≤ 0 ∧ (0 : Int) ≤ 30); decide))
    · exact X.move (by omega) (by simp) rfl rfl X.buf X.ip (fun e => absurd e (nop 36 (by omega)))
  · intro c
    unfold zjQ
    refine ⟨S, ?_⟩
    dsimp only
    split
    · rcases ziu s (wc (x.Slot + 1)) with e | e <;> rw [e]
      · exact X.move (by omega) (by simp) rfl rfl X.buf X.ip (fun e => absurd e (nop 36 (by omega)))
      · exact X.move (by omega) (by simp) rfl rfl X.buf X.ip (fun e => absurd e (nop 38 (by omega)))
    · exact ⟨.inr (.inr (.inr ⟨(by show (30 : Int) ≤ 37; decide), (by show (37 : Int) ≤ 39; decide)⟩)), X.regs, X.ip, fun e => by dsimp only at e; omega, fun e => by dsimp only at e; omega, fun e => (by cases e), fun e => (by cases e), fun e => (by cases e), fun _ _ => X.bin (by omega) (by omega),
        fun _ => ⟨⟨fun e => absurd e (by show ¬ (3 : Int) = 1; decide), fun e => (by cases e), fun e => (by cases e), fun e => (by cases e), fun e => (by cases e)⟩, fun e => (by cases e), by show (3 : Int) ≠ 1; decide⟩, X.buf⟩
  · intro c
    unfold zi6
    obtain ⟨g1, g2, g3⟩ := X.g (.inr c)
    obtain ⟨r1, r2, r3⟩ := zpi h S g1 g2
    refine ⟨r1, ?_⟩
    dsimp only
    split
    · rcases ziu s x.Slot with e | e <;> rw [e]
      · exact X.move (by omega) (by simp) rfl rfl X.buf X.ip (fun e => absurd e (nop 36 (by omega)))
      · exact X.move (by omega) (by simp) rfl rfl X.buf X.ip (fun e => absurd e (nop 38 (by omega)))
    · exact ⟨X.pc, X.regs, X.ip, X.op, X.ret, fun e => by dsimp only at e; omega, fun e => by dsimp only at e; omega, fun e => by dsimp only at e; omega, X.bin, fun _ => ⟨r2, r3, by rw [(zfw s x.G).2.2]; exact g3⟩, X.buf⟩
  · intro c
    unfold zks
    exact ⟨S.keep rfl rfl rfl, X.move (by omega) (by simp) rfl rfl X.buf X.ip (fun e => absurd e (nop 39 (by omega)))⟩
  · intro c
    unfold zmi
    exact ⟨S.keep rfl rfl rfl, X.move (by omega) (by simp) rfl rfl X.buf X.ip (fun e => absurd e (nop 35 (by omega)))⟩
  · exact ⟨S, X⟩
end
end Go.Pe.G
namespace Go.Pe.G
open Go.Pe
noncomputable section
def zll (s : zb) : zb :=
  if s.Done = true then s
  else if s.D.PC = 0 then { s with Flag := false, D := { s.D with PC := 1 } }
  else if s.D.PC = 1 then (if s.Work = 0 then { s with D := { s.D with PC := 2 } } else s)
  else if s.D.PC = 2 then { s with Epoch := wc (s.Epoch + 1), D := ⟨if s.Ms.length = 0 then 4 else 3, 0⟩ }
  else if s.D.PC = 3 then (if s.Acks.getD s.D.I.toNat 0 < s.Epoch then s else { s with D := ⟨if wc (s.D.I + 1) = (s.Ms.length : Int) then 4 else 3, wc (s.D.I + 1)⟩ })
  else if s.D.PC = 4 then (if s.Work = 0 then { s with D := { s.D with PC := 5 } } else { s with Restarts := wc (s.Restarts + 1), D := { s.D with PC := 0 } })
  else if s.D.PC = 5 then (if s.Flag = true then { s with Restarts := wc (s.Restarts + 1), D := { s.D with PC := 0 } } else { s with D := { s.D with PC := 6 } })
  else if s.D.PC = 6 then { s with Done := true }
  else s
structure HOk (p : zd) (h : zu) : Prop where
  slots : h.Slots = p.H.Slots
  n : (p.H.Objs.length : Int) ≤ (h.Objs.length : Int) ∧ (h.Objs.length : Int) ≤ p.Most
  objs : ∀ o ∈ h.Objs, (o.length : Int) = h.Slots ∧ ∀ v ∈ o, 0 ≤ v ∧ v ≤ (h.Objs.length : Int)
structure EOk (p : zd) (nb : Nat) (s : zb) : Prop where
  S : SOk p nb s
  wl : (s.Ws.length : Int) = p.Workers
  ml : (s.Ms.length : Int) = p.Mutators
  al : s.Acks.length = s.Ms.length
  W : ∀ (i : Nat) x, s.Ws[i]? = some x → WOk p nb ((i : Int) + 1) x
  X : ∀ (i : Nat) x, s.Ms[i]? = some x → XOk p nb ((i : Int) + 1) x
  H : HOk p s.H
  D : (0 ≤ s.D.PC ∧ s.D.PC ≤ 6) ∧ (s.D.PC = 3 → 0 ≤ s.D.I ∧ s.D.I < (s.Ms.length : Int))
  small : Zw s
theorem ztk {p : zd} (h : zO p) (m : Int) : ((x6 p m).length : Int) ≤ 64 := by
  unfold x6
  have hr := h.regs
  have hp := h.progs
  rw [List.getD_eq_getElem?_getD]
  rcases Nat.lt_or_ge (m - 1).toNat p.Progs.length with hl | hl
  · rw [List.getElem?_eq_getElem hl]
    have hl2 : (m - 1).toNat < p.Regs.length := by omega
    have := (h.prog (m - 1).toNat _ _ (List.getElem?_eq_getElem hl2) (List.getElem?_eq_getElem hl)).1
    show ((p.Progs[(m - 1).toNat]).length : Int) ≤ 64
    omega
  · rw [List.getElem?_eq_none hl]; show (([] : List zg).length : Int) ≤ 64; simp
theorem zrV {p : zd} (h : zO p) : EOk p (xL p + 1) (vm p) := by
  have hw := h.wk
  have hm := h.mt
  have hr := h.regs
  have hn := h.n
  have hmo := h.most
  have hb := h.buf
  refine ⟨zsU h, ?_, ?_, ?_, fun i x hx => ?_, fun i x hx => ?_, ⟨rfl, ⟨Int.le_refl _, hmo.1⟩, h.objs⟩, ⟨⟨by show (0 : Int) ≤ 0; decide, by show (0 : Int) ≤ 6; decide⟩, fun e => absurd e (by show ¬ (0 : Int) = 3; decide)⟩, zuN h⟩
  · show (((List.range p.Workers.toNat).map (Uc p)).length : Int) = _
    rw [List.length_map, List.length_range]; omega
  · show ((p.Regs.map wB).length : Int) = _
    rw [List.length_map]; exact hr
  · show (List.replicate p.Mutators.toNat (0 : Int)).length = (p.Regs.map wB).length
    rw [List.length_replicate, List.length_map]; omega
  · have hx : ((List.range p.Workers.toNat).map (Uc p))[i]? = some x := hx
    rw [List.getElem?_map] at hx
    rcases Nat.lt_or_ge i p.Workers.toNat with hl | hl
    · rw [List.getElem?_range hl] at hx
      injection hx with hx
      subst hx
      exact ⟨⟨by show (0 : Int) ≤ 0; decide, by show (0 : Int) ≤ 9; decide⟩, by show 1 ≤ (i : Int) + 1 ∧ (i : Int) + 1 ≤ p.Workers; omega, fun _ => ⟨rfl, rfl, rfl⟩, fun e => (by cases e), fun e => (by cases e), fun e => (by cases e), fun e => (by cases e), fun e => (by cases e)⟩
    · rw [List.getElem?_eq_none (by rw [List.length_range]; exact hl)] at hx; cases hx
  · have hx : (p.Regs.map wB)[i]? = some x := hx
    rw [List.getElem?_map] at hx
    cases hq : p.Regs[i]? with
    | none => rw [hq] at hx; cases hx
    | some r =>
      rw [hq] at hx
      injection hx with hx
      subst hx
      refine ⟨.inl ⟨by show (0 : Int) ≤ 0; decide, by show (0 : Int) ≤ 3; decide⟩, ?_, ⟨by show (0 : Int) ≤ 0; decide, by show (0 : Int) ≤ _; omega⟩, fun e => absurd e ?_, fun e => absurd e ?_, fun e => (by cases e), fun e => (by cases e), fun e => (by cases e), fun _ _ => rfl, fun e => absurd e ?_, by show (0 : Int) ≤ p.Buf; omega⟩
      · show r.length = zcZ p ((i : Int) + 1)
        unfold zcZ
        rw [show ((i : Int) + 1 - 1).toNat = i by omega, List.getD_eq_getElem?_getD, hq]; rfl
      · intro e; simp [wB] at e
      · intro e; simp [wB] at e
      · intro e; simp [wB] at e
theorem zl3 {s : zb} (h : Zw s) (b : Int) : (zli s b).length < 1000000 := by
  unfold zli
  rw [List.getD_eq_getElem?_getD]
  cases hq : s.Bins[b.toNat]? with
  | none => simp
  | some l => exact h.bin l (List.mem_of_getElem? hq)
theorem zpU (l : zh) (w : Int) : (U4 l w).Bal.length = l.Bal.length := by unfold U4; split <;> simp
structure YV (s s' : zb) : Prop where
  P : s'.P = s.P
  m : s'.M.length = s.M.length
  bl : s'.Bins.length = s.Bins.length
  b : ∀ l ∈ s'.Bins, l ∈ s.Bins ∨ l.length ≤ 1
  bal : s'.L.Bal.length = s.L.Bal.length
  ac : s'.Acks.length = s.Acks.length
  ws : s'.Ws = s.Ws
  ms : s'.Ms = s.Ms
  done : s'.Done = s.Done
  d : s'.D = s.D
theorem YV.refl (s : zb) : YV s s := ⟨rfl, rfl, rfl, fun l h => .inl h, rfl, rfl, rfl, rfl, rfl, rfl⟩
theorem zdC (s : zb) (g : zC) : YV s (zD s g).1 ∧ (zD s g).1.H = s.H := by
  obtain ⟨m, b, t, w, f, e, h1, h2, h3, _, _⟩ := WL s g
  rw [e]
  exact ⟨⟨rfl, h1, h2, fun l hl => (h3 l hl).imp id (fun e => by rw [e]; simp), rfl, rfl, rfl, rfl, rfl, rfl⟩, rfl⟩
theorem zs3 {s : zb} (b : Nat) : ∀ l ∈ s.Bins.set b [], l ∈ s.Bins ∨ l.length ≤ 1 := fun l hl => (List.mem_or_eq_of_mem_set hl).imp id (fun e => by rw [e]; simp)
theorem zuC (s : zb) (w : Int) (x : zk) : YV s (yF s w x).1 ∧ (yF s w x).1.H = s.H := by
  unfold yF
  split
  · exact ⟨⟨rfl, (zmb _ _).1, rfl, fun l h => .inl h, rfl, rfl, rfl, rfl, rfl, rfl⟩, rfl⟩
  split
  · exact ⟨⟨rfl, V1 _ _, rfl, fun l h => .inl h, rfl, rfl, rfl, rfl, rfl, rfl⟩, rfl⟩
  split
  · exact ⟨⟨rfl, rfl, by simp, zs3 _, rfl, rfl, rfl, rfl, rfl, rfl⟩, rfl⟩
  split
  · exact ⟨⟨rfl, V1 _ _, rfl, fun l h => .inl h, rfl, rfl, rfl, rfl, rfl, rfl⟩, rfl⟩
  split
  · exact ⟨YV.refl s, rfl⟩
  split
  · exact zdC s x.G
  split
  · exact ⟨YV.refl s, rfl⟩
  split
  · exact ⟨⟨rfl, rfl, rfl, fun l h => .inl h, zpU _ _, rfl, rfl, rfl, rfl, rfl⟩, rfl⟩
  split
  · exact ⟨⟨rfl, rfl, rfl, fun l h => .inl h, rfl, rfl, rfl, rfl, rfl, rfl⟩, rfl⟩
  · exact ⟨YV.refl s, rfl⟩
theorem zsp (p : zd) (w : Int) (x : zk) : (znk p w x).Batch = x.Batch := by unfold znk; split <;> rfl
theorem ztm {s : zb} (h : Zw s) (w : Int) {x : zk} (hx : x.Batch.length < 1000000) : (yF s w x).2.Batch.length < 1000000 := by
  unfold yF
  split
  · dsimp only
    split
    · exact hx
    split
    · rw [zsp]; exact hx
    · exact hx
  split
  · dsimp only
    split
    · exact hx
    split <;> exact hx
  split
  · exact zl3 h _
  split
  · dsimp only
    split <;> exact hx
  split
  · dsimp only
    split <;> exact hx
  split
  · dsimp only
    split <;> exact hx
  split
  · dsimp only
    cases hb : x.Batch with
    | nil => show x.Batch.length < _; exact hx
    | cons o l => rw [hb] at hx; show l.length < _; simp at hx; omega
  split
  · exact hx
  split
  · exact hx
  · exact hx
theorem ztA (l : zh) (w p : Int) : (UC l w p).Bal.length = l.Bal.length := by unfold UC; simp
theorem zum (l : zh) (w n : Int) : (UZ l w n).1.Bal.length = l.Bal.length := by unfold UZ; split <;> simp
theorem zrW (s : zb) (m : Int) (x : zc) : YV s (zH s m x).1 := by
  have q : ∀ s' : zb, s'.P = s.P → s'.M = s.M → s'.Bins = s.Bins → s'.L.Bal.length = s.L.Bal.length → s'.Acks.length = s.Acks.length → s'.Ws = s.Ws → s'.Ms = s.Ms → s'.Done = s.Done → s'.D = s.D → YV s s' :=
    fun s' a b c d e f g h i => ⟨a, by rw [b], by rw [c], fun l hl => .inl (c ▸ hl), d, e, f, g, h, i⟩
  refine vS (motive := fun r => YV s r.1) s m x ?_ ?_ ?_ ?_ ?_ ?_ ?_ ?_ ?_ ?_ ?_ ?_ ?_ ?_ ?_ ?_ ?_ ?_ ?_ ?_
  · intro c
    unfold mu0
    exact YV.refl s
  · intro c
    unfold mu1
    exact YV.refl s
  · intro c
    unfold mu2
    exact q _ rfl rfl rfl rfl (by simp) rfl rfl rfl rfl
  · intro c
    unfold mu3
    exact (zdC s x.G).1
  · intro c
    unfold zkF
    exact YV.refl s
  · intro c
    unfold ziU
    exact YV.refl s
  · intro c
    unfold zjx
    exact YV.refl s
  · intro c
    unfold zjC
    exact YV.refl s
  · intro c
    unfold zkg
    exact q _ rfl rfl rfl rfl rfl rfl rfl rfl rfl
  · intro c
    unfold zdV
    split
    · split
      · exact q _ rfl rfl rfl (ztA _ _ _) rfl rfl rfl rfl rfl
      · exact YV.refl s
    · exact YV.refl s
  · intro c
    unfold ziT
    exact q _ rfl rfl rfl (zum _ _ _) rfl rfl rfl rfl rfl
  · intro c
    unfold zi5
    exact ⟨rfl, V1 _ _, rfl, fun l h => .inl h, rfl, rfl, rfl, rfl, rfl, rfl⟩
  · intro c
    unfold zk6
    exact ⟨rfl, rfl, by simp, zs3 _, rfl, rfl, rfl, rfl, rfl, rfl⟩
  · intro c
    unfold zjL
    exact ⟨rfl, V1 _ _, rfl, fun l h => .inl h, rfl, rfl, rfl, rfl, rfl, rfl⟩
  · intro c
    unfold ziZ
    exact YV.refl s
  · intro c
    unfold zjQ
    exact YV.refl s
  · intro c
    unfold zi6
    exact (zdC s x.G).1
  · intro c
    unfold zks
    exact q _ rfl rfl rfl (zpU _ _) rfl rfl rfl rfl rfl
  · intro c
    unfold zmi
    exact q _ rfl rfl rfl rfl rfl rfl rfl rfl rfl
  · exact YV.refl s
theorem HOk.sm {p : zd} (hp : zO p) {h : zu} (H : HOk p h) : h.Objs.length < 1000000 ∧ ∀ x ∈ h.Objs, x.length < 1000000 := by
  have h1 := H.n
  have h2 := hp.most
  have h3 := hp.n
  have h4 := hp.slots
  have h5 := H.slots
  exact ⟨by omega, fun x hx => by have := (H.objs x hx).1; omega⟩
theorem Zw.turn {p : zd} (hp : zO p) {s s' : zb} (h : Zw s) (T : YV s s') (H : HOk p s'.H) : Zw s' := by
  have hh := H.sm hp
  refine ⟨by rw [T.m]; exact h.m, by rw [T.bl]; exact h.bins, fun x hx => ?_, by rw [T.ac]; exact h.acks, by rw [T.bal]; exact h.bal, by rw [T.ws]; exact h.ws, by rw [T.ws]; exact h.w, by rw [T.ms]; exact h.ms, by rw [T.ms]; exact h.mu, hh.1, hh.2, by rw [T.P]; exact h.pobjs, by rw [T.P]; exact h.pobj, by rw [T.P]; exact h.regs, by rw [T.P]; exact h.reg, by rw [T.P]; exact h.progs, by rw [T.P]; exact h.prog, by rw [T.P]; exact h.picks⟩
  rcases T.b x hx with h' | h'
  · exact h.bin x h'
  · omega
theorem Zw.setW {s : zb} (h : Zw s) {i : Nat} {x : zk} (hx : x.Batch.length < 1000000) : Zw { s with Ws := s.Ws.set i x } :=
  ⟨h.m, h.bins, h.bin, h.acks, h.bal, by simp only [List.length_set]; exact h.ws, fun y hy => by
    rcases List.mem_or_eq_of_mem_set hy with hy | rfl
    · exact h.w y hy
    · exact hx, h.ms, h.mu, h.objs, h.obj, h.pobjs, h.pobj, h.regs, h.reg, h.progs, h.prog, h.picks⟩
theorem Zw.setM {s : zb} (h : Zw s) {i : Nat} {x : zc} (hx : x.Regs.length < 1000000 ∧ x.Buf.length < 1000000 ∧ x.Batch.length < 1000000) : Zw { s with Ms := s.Ms.set i x } :=
  ⟨h.m, h.bins, h.bin, h.acks, h.bal, h.ws, h.w, by simp only [List.length_set]; exact h.ms, fun y hy => by
    rcases List.mem_or_eq_of_mem_set hy with hy | rfl
    · exact h.mu y hy
    · exact hx, h.objs, h.obj, h.pobjs, h.pobj, h.regs, h.reg, h.progs, h.prog, h.picks⟩
theorem zsR {α : Type} {l : List α} {i j : Nat} {x y : α} (h : (l.set i x)[j]? = some y) : (j = i ∧ y = x) ∨ l[j]? = some y := by
  rw [List.getElem?_set] at h
  split at h
  · rename_i e
    split at h
    · injection h with h; exact .inl ⟨e.symm, h.symm⟩
    · cases h
  · exact .inr h
theorem zvw {p : zd} {nb : Nat} {s : zb} (h : zO p) (E : EOk p nb s) (w : Int) : EOk p nb (uG s w) := by
  unfold uG
  split
  · exact E
  rename_i hc
  cases hx : s.Ws[(w - 1).toNat]? with
  | none => exact E
  | some x =>
    have hw1 : ¬ w < 1 := fun e => hc (.inr (.inl e))
    have hw2 : ¬ (s.Ws.length : Int) < w := fun e => hc (.inr (.inr e))
    have hwl := E.wl
    have ei : (((w - 1).toNat : Nat) : Int) + 1 = w := by omega
    have hW := E.W _ x hx
    rw [ei] at hW
    obtain ⟨r1, r2⟩ := zwJ h (by omega) E.S hW
    obtain ⟨T, TH⟩ := zuC s w x
    have sm : Zw (yF s w x).1 := E.small.turn h T (by rw [TH]; exact E.H)
    have hws : (yF s w x).1.Ws = s.Ws := T.ws
    refine ⟨r1.keep rfl rfl rfl, ?_, ?_, ?_, fun i y hy => ?_, fun i y hy => ?_, ?_, ?_, ?_⟩
    · show ((s.Ws.set _ _).length : Int) = _
      rw [List.length_set]; exact hwl
    · show ((yF s w x).1.Ms.length : Int) = _
      rw [T.ms]; exact E.ml
    · show (yF s w x).1.Acks.length = (yF s w x).1.Ms.length
      rw [T.ms, T.ac]; exact E.al
    · rcases zsR hy with ⟨rfl, rfl⟩ | hy
      · rw [ei]; exact r2
      · exact E.W i y hy
    · have hy : (yF s w x).1.Ms[i]? = some y := hy
      rw [T.ms] at hy
      exact E.X i y hy
    · show HOk p (yF s w x).1.H
      rw [TH]; exact E.H
    · show (0 ≤ (yF s w x).1.D.PC ∧ (yF s w x).1.D.PC ≤ 6) ∧ ((yF s w x).1.D.PC = 3 → 0 ≤ (yF s w x).1.D.I ∧ (yF s w x).1.D.I < ((yF s w x).1.Ms.length : Int))
      rw [T.d, T.ms]; exact E.D
    · have := sm.setW (i := (w - 1).toNat) (ztm E.small w (E.small.w x (List.mem_of_getElem? hx)))
      rw [hws] at this
      exact this
theorem zxR {p : zd} {nb : Nat} {s : zb} (h : zO p) (E : EOk p nb s) : EOk p nb (zll s) := by
  have key : ∀ s' : zb, s'.P = s.P → s'.M = s.M → s'.Bins = s.Bins → s'.Ws = s.Ws → s'.Ms = s.Ms → s'.Acks = s.Acks → s'.H = s.H → s'.L = s.L → ((0 ≤ s'.D.PC ∧ s'.D.PC ≤ 6) ∧ (s'.D.PC = 3 → 0 ≤ s'.D.I ∧ s'.D.I < (s'.Ms.length : Int))) → EOk p nb s' := by
    intro s' e1 e2 e3 e4 e5 e6 e7 e8 e9
    have q := E.small
    refine ⟨E.S.keep e1 e2 (by rw [e3]), by rw [e4]; exact E.wl, by rw [e5]; exact E.ml, by rw [e5, e6]; exact E.al, by rw [e4]; exact E.W, by rw [e5]; exact E.X, by rw [e7]; exact E.H, e9, ?_⟩
    exact ⟨by rw [e2]; exact q.m, by rw [e3]; exact q.bins, by rw [e3]; exact q.bin, by rw [e6]; exact q.acks, by rw [e8]; exact q.bal, by rw [e4]; exact q.ws, by rw [e4]; exact q.w, by rw [e5]; exact q.ms, by rw [e5]; exact q.mu, by rw [e7]; exact q.objs, by rw [e7]; exact q.obj, by rw [e1]; exact q.pobjs, by rw [e1]; exact q.pobj, by rw [e1]; exact q.regs, by rw [e1]; exact q.reg, by rw [e1]; exact q.progs, by rw [e1]; exact q.prog, by rw [e1]; exact q.picks⟩
  have hm : ∀ n : Int, 0 ≤ n ∧ n ≤ 6 → n ≠ 3 → ∀ i, (0 ≤ (⟨n, i⟩ : zq).PC ∧ (⟨n, i⟩ : zq).PC ≤ 6) ∧ ((⟨n, i⟩ : zq).PC = 3 → 0 ≤ (⟨n, i⟩ : zq).I ∧ (⟨n, i⟩ : zq).I < (s.Ms.length : Int)) := fun n h1 h2 i => ⟨h1, fun e => absurd e h2⟩
  have hml := E.ml
  have hmt := h.mt
  unfold zll
  split
  · exact E
  split
  · exact key _ rfl rfl rfl rfl rfl rfl rfl rfl (hm 1 (by decide) (by decide) _)
  split
  · split
    · exact key _ rfl rfl rfl rfl rfl rfl rfl rfl (hm 2 (by decide) (by decide) _)
    · exact E
  split
  · refine key _ rfl rfl rfl rfl rfl rfl rfl rfl ?_
    dsimp only
    split
    · exact hm 4 (by decide) (by decide) _
    · exact ⟨by decide, fun _ => by omega⟩
  split
  · rename_i c3
    have hi := E.D.2 c3
    split
    · exact E
    · refine key _ rfl rfl rfl rfl rfl rfl rfl rfl ?_
      dsimp only
      have e : wc (s.D.I + 1) = s.D.I + 1 := vV (by omega) (by omega)
      rw [e]
      split
      · exact hm 4 (by decide) (by decide) _
      · exact ⟨by decide, fun _ => by omega⟩
  split
  · split
    · exact key _ rfl rfl rfl rfl rfl rfl rfl rfl (hm 5 (by decide) (by decide) _)
    · exact key _ rfl rfl rfl rfl rfl rfl rfl rfl (hm 0 (by decide) (by decide) _)
  split
  · split
    · exact key _ rfl rfl rfl rfl rfl rfl rfl rfl (hm 0 (by decide) (by decide) _)
    · exact key _ rfl rfl rfl rfl rfl rfl rfl rfl (hm 6 (by decide) (by decide) _)
  split
  · exact key _ rfl rfl rfl rfl rfl rfl rfl rfl E.D
  · exact E
theorem HOk.put {p : zd} {h : zu} (H : HOk p h) (o s v : Int) : HOk p (zcn h o s v) := by
  unfold zcn
  split
  · rename_i c
    obtain ⟨c1, c2, c3⟩ := c
    unfold Vb at c1
    simp only [Bool.and_eq_true, decide_eq_true_eq] at c1
    refine ⟨H.slots, by simp only [List.length_set]; exact H.n, fun l hl => ?_⟩
    simp only [List.length_set]
    rcases List.mem_or_eq_of_mem_set hl with hl | rfl
    · exact H.objs l hl
    · have hm : yS h o ∈ h.Objs := by
        unfold yS
        rw [List.getD_eq_getElem?_getD, List.getElem?_eq_getElem (show (o - 1).toNat < h.Objs.length by omega)]
        exact List.getElem_mem _
      obtain ⟨a, b⟩ := H.objs _ hm
      refine ⟨by rw [List.length_set]; exact a, fun y hy => ?_⟩
      rcases List.mem_or_eq_of_mem_set hy with hy | rfl
      · exact b y hy
      · exact ⟨c2, c3⟩
  · exact H
theorem HOk.alloc {p : zd} (hp : zO p) {h : zu} (H : HOk p h) (hr : U0 h p.Most = true) : HOk p (UN h) := by
  unfold U0 at hr
  simp only [Bool.and_eq_true, decide_eq_true_eq] at hr
  have hs := hp.slots
  have hsl := H.slots
  have hn := H.n
  unfold UN
  refine ⟨H.slots, by simp only [List.length_append, List.length_singleton]; omega, fun l hl => ?_⟩
  simp only [List.length_append, List.length_singleton]
  rcases List.mem_append.1 hl with hl | hl
  · obtain ⟨a, b⟩ := H.objs l hl
    exact ⟨a, fun v hv => by have := b v hv; omega⟩
  · rw [List.mem_singleton.1 hl]
    refine ⟨by rw [List.length_replicate]; omega, fun v hv => ?_⟩
    rw [(List.mem_replicate.1 hv).2]; omega
theorem zxH {p : zd} (hp : zO p) {s : zb} (hP : s.P = p) (H : HOk p s.H) (m : Int) (x : zc) : HOk p (zH s m x).1.H := by
  refine vS (motive := fun r => HOk p r.1.H) s m x ?_ ?_ ?_ ?_ ?_ ?_ ?_ ?_ ?_ ?_ ?_ ?_ ?_ ?_ ?_ ?_ ?_ ?_ ?_ ?_
  · intro c
    unfold mu0
    exact H
  · intro c
    unfold mu1
    exact H
  · intro c
    unfold mu2
    exact H
  · intro c
    unfold mu3
    rw [(zdC s x.G).2]; exact H
  · intro c
    unfold zkF
    exact H
  · intro c
    unfold ziU
    exact H
  · intro c
    unfold zjx
    exact H
  · intro c
    unfold zjC
    exact H
  · intro c
    unfold zkg
    exact H.put _ _ _
  · intro c
    unfold zdV
    split
    · split
      · rename_i hr
        rw [hP] at hr
        exact H.alloc hp hr
      · exact H
    · exact H
  · intro c
    unfold ziT
    exact H
  · intro c
    unfold zi5
    exact H
  · intro c
    unfold zk6
    exact H
  · intro c
    unfold zjL
    exact H
  · intro c
    unfold ziZ
    exact H
  · intro c
    unfold zjQ
    exact H
  · intro c
    unfold zi6
    rw [(zdC s x.G).2]; exact H
  · intro c
    unfold zks
    exact H
  · intro c
    unfold zmi
    exact H
  · exact H
theorem zrE (s : zb) (m : Int) (x : zc) : (zaX s m x).Batch = x.Batch := by
  unfold zaX
  repeat' split
  all_goals rfl
theorem zuB {s : zb} (h : Zw s) (m : Int) {x : zc} (hx : x.Batch.length < 1000000) : (zH s m x).2.Batch.length < 1000000 := by
  refine vS (motive := fun r => r.2.Batch.length < 1000000) s m x ?_ ?_ ?_ ?_ ?_ ?_ ?_ ?_ ?_ ?_ ?_ ?_ ?_ ?_ ?_ ?_ ?_ ?_ ?_ ?_
  · intro c
    unfold mu0
    dsimp only; rw [zrE]; exact hx
  · intro c
    unfold mu1
    dsimp only; split <;> exact hx
  · intro c
    unfold mu2
    exact hx
  · intro c
    unfold mu3
    dsimp only; split <;> exact hx
  · intro c
    unfold zkF
    exact hx
  · intro c
    unfold ziU
    dsimp only; split <;> exact hx
  · intro c
    unfold zjx
    dsimp only; split <;> exact hx
  · intro c
    unfold zjC
    dsimp only; split <;> exact hx
  · intro c
    unfold zkg
    exact hx
  · intro c
    unfold zdV
    split
    · split <;> exact hx
    · exact hx
  · intro c
    unfold ziT
    dsimp only; split <;> exact hx
  · intro c
    unfold zi5
    dsimp only
    split
    · exact hx
    split <;> exact hx
  · intro c
    unfold zk6
    exact zl3 h _
  · intro c
    unfold zjL
    dsimp only; split <;> exact hx
  · intro c
    unfold ziZ
    dsimp only
    cases hb : x.Batch with
    | nil => show ([] : List Int).length < 1000000; simp
    | cons o l => rw [hb] at hx; show l.length < _; simp at hx; omega
  · intro c
    unfold zjQ
    dsimp only; split <;> exact hx
  · intro c
    unfold zi6
    dsimp only; split <;> exact hx
  · intro c
    unfold zks
    exact hx
  · intro c
    unfold zmi
    exact hx
  · exact hx
theorem zh0 {p : zd} (h : zO p) (m : Int) : zcZ p m < 1000000 := by
  unfold zcZ
  rw [List.getD_eq_getElem?_getD]
  cases hq : p.Regs[(m - 1).toNat]? with
  | none => simp
  | some r => have := (h.reg r (List.mem_of_getElem? hq)).1; show r.length < _; omega
theorem zhe {p : zd} {nb : Nat} {s : zb} (h : zO p) (E : EOk p nb s) (m : Int) : EOk p nb (z3 s m) := by
  unfold z3
  split
  · exact E
  rename_i hc
  cases hx : s.Ms[(m - 1).toNat]? with
  | none => exact E
  | some x =>
    have hw1 : ¬ m < 1 := fun e => hc (.inr (.inl e))
    have hw2 : ¬ (s.Ms.length : Int) < m := fun e => hc (.inr (.inr e))
    have ei : (((m - 1).toNat : Nat) : Int) + 1 = m := by omega
    have hX := E.X _ x hx
    rw [ei] at hX
    obtain ⟨r1, r2⟩ := zwY h (ztk h m) E.S hX
    have T := zrW s m x
    have TH := zxH h E.S.P E.H m x
    have sm : Zw (zH s m x).1 := E.small.turn h T TH
    have hms : (zH s m x).1.Ms = s.Ms := T.ms
    have hb := h.buf
    refine ⟨r1.keep rfl rfl rfl, ?_, ?_, ?_, fun i y hy => ?_, fun i y hy => ?_, TH, ?_, ?_⟩
    · show ((zH s m x).1.Ws.length : Int) = _
      rw [T.ws]; exact E.wl
    · show ((s.Ms.set _ _).length : Int) = _
      rw [List.length_set]; exact E.ml
    · show (zH s m x).1.Acks.length = (s.Ms.set _ _).length
      rw [List.length_set, T.ac]; exact E.al
    · have hy : (zH s m x).1.Ws[i]? = some y := hy
      rw [T.ws] at hy
      exact E.W i y hy
    · rcases zsR hy with ⟨rfl, rfl⟩ | hy
      · rw [ei]; exact r2
      · exact E.X i y hy
    · show (0 ≤ (zH s m x).1.D.PC ∧ (zH s m x).1.D.PC ≤ 6) ∧ ((zH s m x).1.D.PC = 3 → 0 ≤ (zH s m x).1.D.I ∧ (zH s m x).1.D.I < ((s.Ms.set _ _).length : Int))
      rw [T.d, List.length_set]; exact E.D
    · have q := E.small.mu x (List.mem_of_getElem? hx)
      have q1 := r2.regs
      have q2 := r2.buf
      have q3 := zh0 h m
      have := sm.setM (i := (m - 1).toNat) (x := (zH s m x).2) ⟨by omega, by omega, zuB E.small m q.2.2⟩
      rw [hms] at this
      exact this
end
end Go.Pe.G
namespace Go.Pe.G
open Go.Pe
noncomputable section
theorem zpf (t : zp) (o : Int) : zdz t o = some (Wp t o, ()) := by
  rw [zrI, zpk, Option.bind_some]
  show (bif yM (t.Marks &&& t.Black) o then _ else _) = _
  unfold Wp
  cases h : yM (t.Marks &&& t.Black) o with
  | true => rfl
  | false =>
    rw [cond_false, zpk, Option.bind_some]
    show (bif yM t.Marks o then _ else _) = _
    cases h2 : yM t.Marks o <;> rfl
theorem zpM (t : zp) (o : Int) : zcL t o = some (U9 t o, decide (Wp t o = 1), ()) := by
  rw [zpt, zpf, Option.bind_some, yg]
  unfold U9
  by_cases h : Wp t o = 1
  · rw [if_pos h, if_pos h, zlo, Option.bind_some, decide_eq_true h]
  · rw [if_neg h, if_neg h, decide_eq_false h]
theorem znH {h : zu} (hl : h.Objs.length < 1000000) (o s : Int) : XV h o s = some (Vb h o s, ()) := by
  rw [zi0]
  simp only [zm]
  unfold Vb
  by_cases h1 : 1 ≤ o
  · rw [if_pos h1]
    by_cases h2 : o ≤ (h.Objs.length : Int)
    · rw [if_pos h2]
      by_cases h3 : 0 ≤ s
      · have e := List.getElem?_eq_getElem (show (o - 1).toNat < h.Objs.length by omega)
        rw [if_pos h3, z9 (a := o - 1) (by omega) (by omega), vQ (by omega), e, Option.bind_some, decide_eq_true h1, decide_eq_true h2, decide_eq_true h3]
        unfold yS
        rw [List.getD_eq_getElem?_getD, e]; rfl
      · rw [if_neg h3, decide_eq_false h3, Bool.and_false]; rfl
    · rw [if_neg h2, decide_eq_false h2, Bool.and_false]; rfl
  · rw [if_neg h1, decide_eq_false h1]; rfl
theorem zqP {h : zu} (hl : h.Objs.length < 1000000) (o s : Int) : ze9 h o s = some (Vc h o s, Vb h o s, ()) := by
  rw [zqs, znH hl, Option.bind_some]
  unfold Vc
  cases hs : Vb h o s with
  | false => rfl
  | true =>
    have hs' := hs
    unfold Vb at hs'
    simp only [Bool.and_eq_true, decide_eq_true_eq] at hs'
    obtain ⟨⟨⟨h1, h2⟩, h3⟩, h4⟩ := hs'
    have e := List.getElem?_eq_getElem (show (o - 1).toNat < h.Objs.length by omega)
    have es : yS h o = h.Objs[(o - 1).toNat]'(by omega) := by unfold yS; rw [List.getD_eq_getElem?_getD, e]; rfl
    rw [es] at h4
    have e2 := List.getElem?_eq_getElem (show s.toNat < (h.Objs[(o - 1).toNat]'(by omega)).length by omega)
    simp only [Bool.not_true, cond_false, if_true]
    rw [z9 (a := o - 1) (by omega) (by omega), vQ (by omega), e, Option.bind_some, vQ h3, e2, Option.bind_some, es, List.getD_eq_getElem?_getD, e2]; rfl
theorem zgl (l : zh) (who : Int) : v9 l who = some (decide (1 ≤ who) && decide (who ≤ (l.Bal.length : Int)), ()) := by
  rw [zfi, zm]
  by_cases h1 : 1 ≤ who
  · rw [if_pos h1, decide_eq_true h1]; rfl
  · rw [if_neg h1, decide_eq_false h1]; rfl
theorem zsL {l : zh} (hl : l.Bal.length < 1000000) (who : Int) : zdW l who = some (U4 l who, ()) := by
  rw [zm2, xu, zgl, Option.bind_some]
  unfold U4
  by_cases h : 1 ≤ who ∧ who ≤ (l.Bal.length : Int)
  · rw [if_pos h, decide_eq_true h.1, decide_eq_true (show who ≤ ((({ l with Scanned := wc (l.Scanned + 1) } : zh).Bal.length : Nat) : Int) from h.2)]
    have hn : ¬ l.Bal.isEmpty = true := by
      intro e
      have : l.Bal = [] := by simpa using e
      rw [this] at h
      simp at h
      omega
    have hn : l.Bal.isEmpty = false := by simpa using hn
    have e := List.getElem?_eq_getElem (show (who - 1).toNat < l.Bal.length by omega)
    rw [Bool.true_and, Bool.not_true, cond_false, X4]
    simp only [decide_true, cond_true, zfD (n := (l.Bal.length : Int)) (by omega) (by omega), Option.bind_some, List.length_replicate, Int.toNat_natCast, hn, cond_false, xu]
    rw [vV (a := who - 1) (by omega) (by omega), Zd (l := l.Bal) (by omega) (by omega), Option.bind_some, e, Option.bind_some, zkv, Option.bind_some, Option.bind_some, Option.bind_some, xu, List.getD_eq_getElem?_getD, e]
    rfl
  · rw [if_neg h]
    have e : (decide (1 ≤ who) && decide (who ≤ ((({ l with Scanned := wc (l.Scanned + 1) } : zh).Bal.length : Nat) : Int))) = false := by
      by_cases h1 : 1 ≤ who
      · rw [decide_eq_true h1, decide_eq_false (fun e => h ⟨h1, e⟩)]; rfl
      · rw [decide_eq_false h1]; rfl
    rw [e]; rfl
theorem zvy {α : Type} (o : α) (l : List α) : cut (o :: l) 1 (((o :: l).length : Nat) : Int) = some l := by
  unfold cut
  rw [decide_eq_true (show (0 : Int) ≤ 1 by decide), decide_eq_true (show (1 : Int) ≤ (((o :: l).length : Nat) : Int) by simp; omega), decide_eq_true (Int.le_refl _)]
  simp
end
end Go.Pe.G
namespace Go.Pe.G
open Go.Pe
noncomputable section
theorem zmQ {p : zd} (h : zO p) {m : Int} (hm : 1 ≤ m ∧ m ≤ p.Mutators) : p.Progs[(m - 1).toNat]? = some (x6 p m) := by
  have := h.progs
  have e := List.getElem?_eq_getElem (show (m - 1).toNat < p.Progs.length by omega)
  unfold x6
  rw [List.getD_eq_getElem?_getD, e]; rfl
theorem ziE {p : zd} (h : zO p) {m : Int} (hm : 1 ≤ m ∧ m ≤ p.Mutators) {o : zg} (ho : o ∈ x6 p m) : (0 ≤ o.R ∧ o.R < (zcZ p m : Int)) ∧ (0 ≤ o.A ∧ o.A < (zcZ p m : Int)) := by
  have hr := h.regs
  have er := List.getElem?_eq_getElem (show (m - 1).toNat < p.Regs.length by omega)
  have e1 : zcZ p m = (p.Regs[(m - 1).toNat]'(by omega)).length := by unfold zcZ; rw [List.getD_eq_getElem?_getD, er]; rfl
  have hl := (h.reg _ (List.getElem_mem (show (m - 1).toNat < p.Regs.length by omega))).1
  obtain ⟨a, b⟩ := (h.prog _ _ _ er (zmQ h hm)).2 o ho
  rw [e1]
  refine ⟨a, ?_⟩
  rcases b with ⟨_, b, _⟩ | ⟨_, b, _⟩ | ⟨_, b, _⟩
  · exact b
  · exact b
  · omega
theorem zeC {p : zd} (h : zO p) {s : zb} (hP : s.P = p) {m : Int} (hm : 1 ≤ m ∧ m ≤ p.Mutators) {x : zc} (hi : 0 ≤ x.IP ∧ x.IP < ((x6 p m).length : Int)) :
    wD ⟨x, s, m⟩ = some (opM p m x, ()) ∧ opM p m x ∈ x6 p m := by
  have hmt := h.mt
  have e := List.getElem?_eq_getElem (show x.IP.toNat < (x6 p m).length by omega)
  have eo : opM p m x = (x6 p m)[x.IP.toNat]'(by omega) := by unfold opM; rw [List.getD_eq_getElem?_getD, e]; rfl
  rw [zkd]
  dsimp only
  rw [hP, z9 (a := m - 1) (by omega) (by omega), vQ (by omega), zmQ h hm, Option.bind_some, vQ hi.1, e, Option.bind_some, eo]
  exact ⟨rfl, List.getElem_mem _⟩
theorem ziS {x : zc} {r : Int} (h : 0 ≤ r ∧ r < (x.Regs.length : Int)) : idx x.Regs r = some (zhS x r) := by
  have e := List.getElem?_eq_getElem (show r.toNat < x.Regs.length by omega)
  rw [vQ h.1, e]
  unfold zhS
  rw [List.getD_eq_getElem?_getD, e]; rfl
theorem zcR {s : zb} {m : Int} {x : zc} {r : Int} (h : 0 ≤ r ∧ r < (x.Regs.length : Int)) (hl : x.Regs.length < 1000000) (v : Int) : vp r v ⟨x, s, m⟩ = some (⟨setM x r v, s, m⟩, ()) := by
  rw [zgz]
  simp only [WT (show x.Regs.length < 4294967296 by omega), Option.bind_some, Zd h.1 h.2, uM, xu]
  rfl
theorem zkJ {p : zd} (h : zO p) {s : zb} (hP : s.P = p) {m : Int} (hm : 1 ≤ m ∧ m ≤ p.Mutators) {x : zc} (hi : 0 ≤ x.IP ∧ x.IP < ((x6 p m).length : Int)) (hr : x.Regs.length = zcZ p m) (ho : s.H.Objs.length < 1000000) :
    Y7 ⟨x, s, m⟩ = some (zqF s m x, ()) := by
  obtain ⟨e1, e2⟩ := zeC h hP hm hi
  have o := ziE h hm e2
  rw [ziQ]
  simp only [e1, Option.bind_some, ziS (x := x) (r := (opM p m x).A) (by omega), zqP ho]
  unfold zqF
  rw [hP]
theorem zic {p : zd} {nb : Nat} (h : zO p) {s : zb} (S : SOk p nb s) {m : Int} {x : zc} (M : MOk p nb x.G) (to : Int) :
    uZ to ⟨x, s, m⟩ = some (⟨if (zD s x.G).2.Out = 1 then { x with PC := to, G := (zD s x.G).2 } else { x with G := (zD s x.G).2 }, (zD s x.G).1, m⟩, ()) := by
  rw [zdG]
  simp only [zu7 (S.gok h M), Option.bind_some, zm]
  split <;> rfl
theorem zom (s : zb) (x : zc) (m : Int) : WD ⟨x, s, m⟩ = some (onM s x.Slot, ()) := by
  rw [zj4, zm]
  unfold onM
  split <;> rfl
theorem zla (k hd to : Int) (s : zb) (x : zc) (m : Int) : Zu k hd to ⟨x, s, m⟩ = some (⟨{ x with PC := to, C := ⟨k, 0, hd, yP s.P, 0#64, x.Bin, 0, 0⟩ }, s, m⟩, ()) := by
  rw [zfM]
  simp only [ze3, Option.bind_some, zaf]
theorem zvo {m : List zc} (h : m.length < 4294967296) : wi m = some (m, ()) := by
  rw [Y0, List.nil_append, wu h, Option.bind_some]
  cases m with
  | nil => simp [zht]
  | cons a l => simp
theorem zql {p : zd} (h : zO p) {nb : Nat} {s : zb} (hP : s.P = p) {m : Int} (hm : 1 ≤ m ∧ m ≤ p.Mutators) (ha : (s.Acks.length : Int) = p.Mutators) {x : zc} (X : XOk p nb m x) :
    XM ⟨x, s, m⟩ = some (⟨zaX s m x, s, m⟩, ()) := by
  have hmt := h.mt
  have hip := X.ip
  have hrs := zh0 h m
  have e := List.getElem?_eq_getElem (show (m - 1).toNat < s.Acks.length by omega)
  have ed : s.Acks.getD (m - 1).toNat 0 = s.Acks[(m - 1).toNat]'(by omega) := by rw [List.getD_eq_getElem?_getD, e]; rfl
  have pg : s.P.Progs[(m - 1).toNat]? = some (x6 p m) := by rw [hP]; exact zmQ h hm
  rw [zev]
  simp only [zm]
  rw [z9 (a := m - 1) (by omega) (by omega), vQ (by omega), e, Option.bind_some]
  unfold zaX
  rw [ed, hP]
  by_cases c : (s.Acks[(m - 1).toNat]'(by omega)) < s.Epoch
  · rw [if_pos c, if_pos c]
  rw [if_neg c, if_neg c, ← hP, vQ (by omega), pg, Option.bind_some, hP]
  by_cases c2 : ((x6 p m).length : Int) ≤ x.IP
  · rw [if_pos c2, if_pos c2]
  rw [if_neg c2, if_neg c2]
  obtain ⟨e1, e2⟩ := zeC h hP hm (x := x) (show 0 ≤ x.IP ∧ x.IP < ((x6 p m).length : Int) by omega)
  have o := ziE h hm e2
  have hreg := X.regs
  rw [e1, Option.bind_some]
  by_cases k1 : (opM p m x).Kind = 1
  · rw [if_pos k1, if_pos k1]
  rw [if_neg k1, if_neg k1]
  by_cases k2 : (opM p m x).Kind = 2
  · rw [if_pos k2, if_pos k2]
  rw [if_neg k2, if_neg k2]
  by_cases k3 : (opM p m x).Kind = 3
  · rw [if_pos k3, if_pos k3]
  rw [if_neg k3, if_neg k3]
  by_cases k4 : (opM p m x).Kind = 4
  · rw [if_pos k4, if_pos k4, ziS (x := x) (r := (opM p m x).A) (by omega), Option.bind_some, zcR (x := x) (r := (opM p m x).R) (by omega) (by omega)]; rfl
  · rw [if_neg k4, if_neg k4, zcR (x := x) (r := (opM p m x).R) (by omega) (by omega)]; rfl
theorem zu9 {h : zu} (hl : h.Objs.length < 1000000) (hs : ∀ l ∈ h.Objs, l.length < 1000000) (o i v : Int) : ∃ b, zjG h o i v = some (zcn h o i v, b, ()) := by
  rw [zqp, znH hl, Option.bind_some]
  unfold zcn
  cases ht : Vb h o i with
  | false => rw [if_neg (fun e => by cases e.1)]; exact ⟨_, rfl⟩
  | true =>
    rw [Bool.not_true, cond_false, zm]
    by_cases h1 : v < 0
    · rw [if_pos h1, if_neg (by omega)]; exact ⟨_, rfl⟩
    rw [if_neg h1, zm]
    by_cases h2 : (h.Objs.length : Int) < v
    · rw [if_pos h2, if_neg (by omega)]; exact ⟨_, rfl⟩
    have hh := ht
    unfold Vb at hh
    simp only [Bool.and_eq_true, decide_eq_true_eq] at hh
    obtain ⟨⟨⟨g1, g2⟩, g3⟩, g4⟩ := hh
    have e := List.getElem?_eq_getElem (show (o - 1).toNat < h.Objs.length by omega)
    have es : yS h o = h.Objs[(o - 1).toNat]'(by omega) := by unfold yS; rw [List.getD_eq_getElem?_getD, e]; rfl
    have hlen := hs _ (List.mem_of_getElem? e)
    rw [if_neg h2, if_pos ⟨rfl, by omega, by omega⟩, zjc (by omega), Option.bind_some, z9 (a := o - 1) (by omega) (by omega), Zd (l := h.Objs) (by omega) (by omega), Option.bind_some, e, Option.bind_some, WT (by omega), Option.bind_some, Option.bind_some, Option.bind_some]
    rw [zm, if_pos rfl, Zd g3 (by rw [← es]; exact g4), Option.bind_some, es]
    exact ⟨_, rfl⟩
theorem zdJ {h : zu} (h1 : 1 ≤ h.Slots ∧ h.Slots ≤ 4) (h2 : h.Objs.length ≤ 64) (h3 : ∀ o ∈ h.Objs, (o.length : Int) = h.Slots ∧ ∀ v ∈ o, 0 ≤ v ∧ v ≤ (h.Objs.length : Int)) : Yq h = some (true, ()) := by
  rw [zg0, zm, if_pos h1.1, zm, if_pos h1.2, zm, if_pos (by omega), zpN (by omega) (by omega) h3]
  rfl
theorem zt1 {h : zu} (h1 : 1 ≤ h.Slots ∧ h.Slots ≤ 4) (h2 : h.Objs.length ≤ 64) (h3 : ∀ o ∈ h.Objs, (o.length : Int) = h.Slots ∧ ∀ v ∈ o, 0 ≤ v ∧ v ≤ (h.Objs.length : Int)) (hne : h.Objs ≠ []) (most : Int) :
    zfE h most = some (if U0 h most = true then (UN h, (h.Objs.length : Int) + 1, 0, ()) else (h, 0, 4, ())) := by
  have hn : h.Objs.length ≠ 0 := fun e => hne (List.eq_nil_of_length_eq_zero e)
  rw [znv, zdJ h1 h2 h3, Option.bind_some, Bool.not_true, cond_false]
  simp only [zm]
  have er : U0 h most = true ↔ (h.Objs.length : Int) < most ∧ (h.Objs.length : Int) < 64 := by unfold U0; simp
  have hx : (if 64 < most then (64 : Int) else most) ≤ (h.Objs.length : Int) ↔ ¬ (U0 h most = true) := by
    rw [er]
    split <;> omega
  by_cases hr : U0 h most = true
  · rw [if_neg (fun e => hx.1 e hr), if_pos hr]
    have ec : Yt h.Objs = some (h.Objs, ()) := by
      rw [zdF]
      simp [hn]
    rw [ec, Option.bind_some, if_pos trivial, zg1, decide_eq_true (show 0 ≤ h.Slots by omega), decide_eq_true (show h.Slots < 4294967296 by omega)]
    simp only [Bool.and_self, cond_true, Option.bind_some]
    rw [wu (by simp only [List.length_append, List.length_singleton]; omega), Option.bind_some]
    unfold UN
    simp
  · rw [if_pos (hx.2 hr), if_neg hr]
theorem ztY (t : zp) (o : Int) : ∃ b, zfp t o = some (zgs t o, b, ()) := by
  rw [znJ, znl, Option.bind_some]
  unfold zgs
  dsimp only
  cases hs : (YJ t o).2 with
  | false => rw [if_neg (by simp)]; exact ⟨_, rfl⟩
  | true => rw [Bool.not_true, cond_false, zpM, if_pos rfl]; exact ⟨_, rfl⟩
theorem zjT (l : zh) (who price limit : Int) : Zf l who price limit = some (Va l who price limit, ()) := by
  rw [zeM, zgl, Option.bind_some]
  unfold Va WW
  simp only [zm]
  cases ht : (decide (1 ≤ who) && decide (who ≤ (l.Bal.length : Int))) with
  | false => rw [cond_false]; simp
  | true =>
    rw [cond_true]
    by_cases h1 : 0 ≤ price <;> by_cases h2 : 0 ≤ limit
    · rw [if_pos (by split <;> omega)]
      simp only [Bool.true_and, decide_eq_true h1, decide_eq_true h2, Option.some.injEq, Prod.mk.injEq, and_true]
      rw [Bool.eq_iff_iff]
      simp only [decide_eq_true_eq, Bool.and_eq_true]
      split <;> omega
    · rw [if_neg (by split <;> omega)]; simp [h2]
    · rw [if_neg (by split <;> omega)]; simp [h1]
    · rw [if_neg (by split <;> omega)]; simp [h1]
theorem zo1 {l : zh} {who : Int} (hl : l.Bal.length < 1000000) (h : WW l who = true) : idx l.Bal (w64 (who - 1)) = some (V9 l who) ∧ xT l.Bal (w64 (who - 1)) = some (who - 1).toNat ∧ l.Bal[(who - 1).toNat]? = some (V9 l who) := by
  unfold WW at h
  simp only [Bool.and_eq_true, decide_eq_true_eq] at h
  have e := List.getElem?_eq_getElem (show (who - 1).toNat < l.Bal.length by omega)
  have eb : V9 l who = l.Bal[(who - 1).toNat]'(by omega) := by unfold V9; rw [List.getD_eq_getElem?_getD, e]; rfl
  rw [z9 (a := who - 1) (by omega) (by omega), vQ (by omega), Zd (by omega) (by omega), e, eb]
  exact ⟨rfl, rfl, rfl⟩
theorem znU {l : zh} (hl : l.Bal.length < 1000000) (who price limit : Int) : zbi l who price limit = some (zcv l who price limit, ()) := by
  rw [zog, zjT, Option.bind_some]
  unfold zcv
  cases hp : Va l who price limit with
  | false => rfl
  | true =>
    have ht : WW l who = true := by unfold Va at hp; simp only [Bool.and_eq_true] at hp; exact hp.1.1.1.1
    dsimp only
    rw [cond_true, (zo1 hl ht).1, Option.bind_some, xu, Bool.true_and, Int.zero_sub]
theorem zjU {l l' : zh} (hl : l.Bal.length < 1000000) {who : Int} (h : WW l who = true) (hb : l'.Bal = l.Bal) {v : Int} {Q : Option (zh × Unit)} {f : Int → Option (Int × Unit)} (hf : f (V9 l who) = some (v, ()))
    (hQ : Q = bif decide (((l'.Bal.length : Int)) = ((l'.Bal.length : Int))) then (YN ((l'.Bal.length : Int))).bind fun n1 => bif decide (l'.Bal.length = ((List.replicate n1 ((0 : Int))).length)) then
      bif l'.Bal.isEmpty then (xT (List.replicate n1 ((0 : Int))) (w64 (who - 1))).bind fun n2 => ((List.replicate n1 ((0 : Int)))[n2]?).bind fun x3 => (f x3).bind fun y4 => (xT (List.replicate n1 ((0 : Int))) (w64 (who - 1))).bind fun n5 => some ({ l' with Bal := (List.replicate n1 ((0 : Int))).set n5 y4.1 }, ())
      else (xT l'.Bal (w64 (who - 1))).bind fun n6 => (l'.Bal[n6]?).bind fun x7 => (f x7).bind fun y8 => (xT l'.Bal (w64 (who - 1))).bind fun n9 => some ({ l' with Bal := l'.Bal.set n9 y8.1 }, ()) else none else none) :
    Q = some ({ l' with Bal := l.Bal.set (who - 1).toNat v }, ()) := by
  obtain ⟨e1, e2, e3⟩ := zo1 hl h
  have hne : l.Bal.isEmpty = false := by
    cases hl2 : l.Bal with
    | nil => rw [hl2] at e3; simp at e3
    | cons a r => rfl
  rw [hQ, hb, zg1, decide_eq_true (show (0 : Int) ≤ (l.Bal.length : Int) by omega), decide_eq_true (show (l.Bal.length : Int) < 4294967296 by omega)]
  simp only [decide_true, cond_true, Bool.and_self, Option.bind_some, Int.toNat_natCast, List.length_replicate, hne, cond_false, e2, e3, hf]
theorem zqV {l : zh} (hl : l.Bal.length < 1000000) (who price limit : Int) : zcp l who price limit = some (if zcv l who price limit = true then (UC l who price, true, ()) else (l, false, ())) := by
  rw [zlF, znU hl, Option.bind_some]
  cases hm : zcv l who price limit with
  | false => rfl
  | true =>
    have ht : WW l who = true := by unfold zcv Va at hm; simp only [Bool.and_eq_true] at hm; exact hm.1.1.1.1.1
    dsimp only
    rw [Bool.not_true, cond_false, zjU (l' := { l with Spent := w64 (l.Spent + price) }) hl ht rfl (f := fun b => WS b price) (v := wc (V9 l who - price)) (by rw [zj8, xu]) (XT _ _ _), Option.bind_some, if_pos rfl, xu]
    rfl
theorem zsJ {l : zh} (hl : l.Bal.length < 1000000) (who want : Int) : zd4 l who want = some ((UZ l who want).1, (UZ l who want).2, ()) := by
  rw [zmn, zgl, Option.bind_some]
  unfold UZ
  have em : (bif decide (l.Pool < want) then l.Pool else want) = zhQ want l.Pool := by rw [zm]; rfl
  simp only [em]
  have et : (decide (1 ≤ who) && decide (who ≤ (l.Bal.length : Int))) = WW l who := rfl
  rw [et]
  cases ht : WW l who with
  | false => rw [if_neg (fun e => by cases e.1)]; rfl
  | true =>
    rw [Bool.not_true, cond_false, zm]
    by_cases hz : zhQ want l.Pool ≤ 0
    · rw [if_pos hz, if_neg (by omega)]
    · rw [if_neg hz, if_pos ⟨rfl, by omega⟩, zjU (l' := { l with Pool := w64 (l.Pool - zhQ want l.Pool) }) hl ht rfl (f := fun b => Vt b (zhQ want l.Pool)) (v := wc (V9 l who + zhQ want l.Pool)) (by rw [zk3, xu]) (XY _ _ _), Option.bind_some, xu]
theorem zqX {l : zh} (hl : l.Bal.length < 1000000) (who price limit : Int) : zcG l who price limit = some (zkt l who price limit, ()) := by
  rw [zlC, zjT, Option.bind_some]
  unfold zkt
  cases hp : Va l who price limit with
  | false => rfl
  | true =>
    have ht : WW l who = true := by unfold Va at hp; simp only [Bool.and_eq_true] at hp; exact hp.1.1.1.1
    dsimp only
    rw [Bool.not_true, cond_false, znU hl, Option.bind_some, if_pos rfl]
    cases hm : zcv l who price limit with
    | false => rw [cond_false, (zo1 hl ht).1, Option.bind_some, xu]; rfl
    | true => rfl
theorem zsy {p : zd} {nb : Nat} (h : zO p) {s : zb} {x : zc} {m : Int} (S : SOk p nb s) (X : XOk p nb m x) (hm : 1 ≤ m ∧ m ≤ p.Mutators) (ha : (s.Acks.length : Int) = p.Mutators) (sm : Zw s) (H : HOk p s.H) (hb : x.Buf.length < 1000000) (hbt : x.Batch.length < 1000000) : Wr ⟨x, s, m⟩ = some (⟨(zH s m x).2, (zH s m x).1, m⟩, ()) := by
  have hmt := h.mt
  have hpc := X.pc
  rw [zfu]
  simp only [zm]
  unfold zH
  by_cases c0 : x.PC = 0
  · rw [if_pos c0, if_pos c0, zql h S.P hm ha X]; rfl
  rw [if_neg c0, if_neg c0]
  by_cases c1 : x.PC = 1
  · rw [if_pos c1, if_pos c1, zeO]
    simp only [zm]
    unfold mu1
    by_cases e : x.Buf.length = 0
    · rw [if_pos e, if_pos (by rw [z9 (by omega) (by omega)]; omega)]; rfl
    · have ei := List.getElem?_eq_getElem (show x.Buf.length - 1 < x.Buf.length by omega)
      have en : ((x.Buf.length : Int) - 1).toNat = x.Buf.length - 1 := by omega
      have ec : cut x.Buf 0 ((x.Buf.length : Int) - 1) = some (x.Buf.take (x.Buf.length - 1)) := by
        unfold cut
        rw [decide_eq_true (show (0 : Int) ≤ 0 by decide), decide_eq_true (show (0 : Int) ≤ (x.Buf.length : Int) - 1 by omega), decide_eq_true (show (x.Buf.length : Int) - 1 ≤ (x.Buf.length : Int) by omega), en]
        simp
      rw [if_neg e, z9 (a := (x.Buf.length : Int) - 1) (by omega) (by omega), if_neg (by omega), vQ (by omega), en, ei, Option.bind_some, znO, Option.bind_some, ec, List.getD_eq_getElem?_getD, ei]
      rfl
  rw [if_neg c1, if_neg c1]
  by_cases c2 : x.PC = 2
  · rw [if_pos c2, if_pos c2, zgD]
    have hs := sm.acks
    simp only [WT (show s.Acks.length < 4294967296 by omega), Option.bind_some]
    rw [z9 (a := m - 1) (by omega) (by omega), Zd (l := s.Acks) (by omega) (by omega)]
    rfl
  rw [if_neg c2, if_neg c2]
  have hbl := sm.bal
  have hon := sm.objs
  have hregs := X.regs
  have hrs := zh0 h m
  have hHs := H.slots
  have hHn := H.n
  have hpn := h.n
  have hpm := h.most
  have hps := h.slots
  have op := fun (hi : x.IP < ((x6 p m).length : Int)) => zeC h S.P hm (x := x) ⟨X.ip.1, hi⟩
  by_cases c3 : x.PC = 3
  · rw [if_pos c3, if_pos c3, ze6, zic h S (X.g (.inl c3)).1]; rfl
  rw [if_neg c3, if_neg c3]
  by_cases c10 : x.PC = 10
  · have hi := X.op (.inl (by omega))
    obtain ⟨e1, e2⟩ := op hi
    have o := ziE h hm e2
    rw [if_pos c10, if_pos c10, zgq, e1, Option.bind_some, zkJ h S.P hm ⟨X.ip.1, hi⟩ hregs hon, Option.bind_some, zcR (x := x) (r := (opM p m x).R) (by omega) (by omega)]
    unfold zkF
    rw [S.P]; rfl
  rw [if_neg c10, if_neg c10]
  by_cases c20 : x.PC = 20
  · have hi := X.op (.inl (by omega))
    obtain ⟨e1, e2⟩ := op hi
    have o := ziE h hm e2
    rw [if_pos c20, if_pos c20, zgT, e1, Option.bind_some]
    unfold ziU
    dsimp only
    rw [ziS (x := x) (r := (opM p m x).A) (by omega), Option.bind_some, zm, S.P]
    by_cases e : zhS x (opM p m x).A = 0
    · rw [if_pos e, if_pos e, uM, xu]; rfl
    · rw [if_neg e, if_neg e, zkJ h S.P hm ⟨X.ip.1, hi⟩ hregs hon]; rfl
  rw [if_neg c20, if_neg c20]
  by_cases c21 : x.PC = 21
  · rw [if_pos c21, if_pos c21, zeG]
    unfold zjx
    dsimp only
    rw [zm]
    by_cases e : x.Old = 0
    · rw [if_pos e, if_pos (.inl e)]; rfl
    · rw [if_neg e, zpf, Option.bind_some, yg]
      by_cases e2 : Wp s.T x.Old = 0
      · rw [if_pos e2, if_neg (fun h => h.elim e (fun h => h e2))]; rfl
      · rw [if_neg e2, if_pos (.inr e2)]; rfl
  rw [if_neg c21, if_neg c21]
  by_cases c22 : x.PC = 22
  · rw [if_pos c22, if_pos c22, zcs]
    unfold zjC
    dsimp only
    rw [zm]
    by_cases e : s.P.Buf ≤ (x.Buf.length : Int)
    · rw [if_pos e, if_pos e]; rfl
    · rw [if_neg e, if_neg e, WT (by omega), Option.bind_some, wu (by simp; omega)]; rfl
  rw [if_neg c22, if_neg c22]
  by_cases c23 : x.PC = 23
  · have hi := X.op (.inl (by omega))
    obtain ⟨e1, e2⟩ := op hi
    have o := ziE h hm e2
    obtain ⟨b, ep⟩ := zu9 hon sm.obj (zhS x (opM p m x).A) (opM p m x).S (zhS x (opM p m x).R)
    rw [if_pos c23, if_pos c23, zeS, e1, Option.bind_some]
    dsimp only
    rw [ziS (x := x) (r := (opM p m x).A) (by omega), Option.bind_some, ziS (x := x) (r := (opM p m x).R) (by omega), Option.bind_some, ep, Option.bind_some, uM, xu]
    unfold zkg
    rw [S.P]; rfl
  rw [if_neg c23, if_neg c23]
  by_cases c30 : x.PC = 30
  · have hi := X.op (.inl (by omega))
    obtain ⟨e1, e2⟩ := op hi
    have o := ziE h hm e2
    have hne : s.H.Objs ≠ [] := fun e => by have e2 : s.H.Objs.length = 0 := by rw [e]; rfl
                                            omega
    rw [if_pos c30, if_pos c30, zeW]
    unfold zdV
    dsimp only
    rw [zqV hbl, Option.bind_some]
    cases hmay : zcv s.L m s.P.Price s.P.Limit with
    | false => rfl
    | true =>
      rw [if_pos rfl, if_pos rfl]
      dsimp only
      rw [Bool.not_true, cond_false, zt1 (show 1 ≤ s.H.Slots ∧ s.H.Slots ≤ 4 by rw [hHs]; omega) (show s.H.Objs.length ≤ 64 by omega) H.objs hne, Option.bind_some]
      cases hr : U0 s.H s.P.Most with
      | false =>
        rw [if_neg (by simp), if_neg (by simp)]
        dsimp only
        rw [yg, if_neg (by decide), uM, xu]; rfl
      | true =>
        rw [if_pos rfl, if_pos rfl]
        dsimp only
        obtain ⟨b, ef⟩ := ztY s.T ((s.H.Objs.length : Int) + 1)
        rw [yg, if_pos rfl, ef, Option.bind_some]
        have e3 := (zeC h (s := { s with H := UN s.H, T := zgs s.T ((s.H.Objs.length : Int) + 1), L := UC s.L m s.P.Price }) S.P hm (x := x) ⟨X.ip.1, hi⟩).1
        rw [e3, Option.bind_some, zcR (x := x) (r := (opM p m x).R) (by omega) (by omega), vV (by omega) (by omega)]
        rw [S.P]; rfl
  rw [if_neg c30, if_neg c30]
  by_cases c31 : x.PC = 31
  · rw [if_pos c31, if_pos c31, zgg]
    unfold ziT
    dsimp only
    rw [zqX hbl, Option.bind_some, zsJ hbl, Option.bind_some, zm]
    by_cases e : (UZ s.L m (zkt s.L m s.P.Price s.P.Limit)).2 = 0
    · rw [if_pos e, if_pos e, zfc, Option.bind_some, zla]; rfl
    · rw [if_neg e, if_neg e]; rfl
  rw [if_neg c31, if_neg c31]
  by_cases c32 : x.PC = 32
  · rw [if_pos c32, if_pos c32, zgJ]
    unfold zi5
    dsimp only
    rw [ze7 (by have := S.mem; omega), Option.bind_some, zm, zm]
    by_cases e : (zW s.M x.C).2.Out = 1
    · rw [if_pos e, if_pos e]; rfl
    · rw [if_neg e, if_neg e]
      by_cases e2 : (zW s.M x.C).2.Out = 2
      · rw [if_pos e2, if_pos e2]; rfl
      · rw [if_neg e2, if_neg e2]; rfl
  rw [if_neg c32, if_neg c32]
  by_cases c33 : x.PC = 33
  · have B := X.b33 c33
    have hbn := S.bins
    have hnb := S.nbk
    have e := List.getElem?_eq_getElem (show x.Bin.toNat < s.Bins.length by omega)
    rw [if_pos c33, if_pos c33, zet]
    unfold zk6
    dsimp only
    rw [vQ (by omega), e, Option.bind_some, zjc (by omega), Option.bind_some, Zd (l := s.Bins) (by omega) (by omega), Option.bind_some, zcY, Option.bind_some, zla]
    have eb : zli s x.Bin = s.Bins[x.Bin.toNat]'(by omega) := by unfold zli; rw [List.getD_eq_getElem?_getD, e]; rfl
    rw [eb]; rfl
  rw [if_neg c33, if_neg c33]
  by_cases c34 : x.PC = 34
  · rw [if_pos c34, if_pos c34, zfz]
    unfold zjL
    dsimp only
    rw [ze7 (by have := S.mem; omega), Option.bind_some, zm]
    by_cases e : (zW s.M x.C).2.Out = 1
    · rw [if_pos e, if_pos e]; rfl
    · rw [if_neg e, if_neg e]; rfl
  rw [if_neg c34, if_neg c34]
  by_cases c35 : x.PC = 35
  · rw [if_pos c35, if_pos c35, zfb]
    unfold ziZ
    dsimp only
    rw [zm]
    cases hbb : x.Batch with
    | nil => rw [if_neg (by simp)]; rfl
    | cons o l =>
      have : idx (o :: l) 0 = some o := by rw [vQ (by omega)]; rfl
      rw [if_pos (by simp), this, Option.bind_some, zvy]; rfl
  rw [if_neg c35, if_neg c35]
  by_cases c36 : x.PC = 36
  · rw [if_pos c36, if_pos c36, zf8]
    unfold zjQ
    dsimp only
    rw [zqP hon, Option.bind_some, zom, Option.bind_some, yg, xu]
    by_cases e : Vc s.H x.Obj x.Slot = 0
    · rw [if_pos e, if_pos e]; rfl
    · rw [if_neg e, if_neg e, znO]; rfl
  rw [if_neg c36, if_neg c36]
  by_cases c37 : x.PC = 37
  · rw [if_pos c37, if_pos c37, zgF, zom, Option.bind_some, zic h S (X.g (.inr c37)).1]; rfl
  rw [if_neg c37, if_neg c37]
  by_cases c38 : x.PC = 38
  · rw [if_pos c38, if_pos c38, zdb]
    unfold zks
    dsimp only
    rw [zpM, Option.bind_some, zsL hbl]; rfl
  rw [if_neg c38, if_neg c38]
  have c39 : x.PC = 39 := by omega
  rw [if_pos c39, if_pos c39, zde, xu]; rfl
theorem zfU {p : zd} {nb : Nat} {s : zb} (h : zO p) (E : EOk p nb s) (m : Int) : Wv s m = some (z3 s m, ()) := by
  rw [zlL]
  simp only [zm]
  unfold z3
  cases hd : s.Done with
  | true => rw [cond_true, if_pos (.inl rfl)]
  | false =>
    rw [cond_false]
    by_cases h1 : m < 1
    · rw [if_pos h1, if_pos (.inr (.inl h1))]
    rw [if_neg h1]
    by_cases h2 : (s.Ms.length : Int) < m
    · rw [if_pos h2, if_pos (.inr (.inr h2))]
    have hml := E.ml
    have hal := E.al
    have hmt := h.mt
    have e := List.getElem?_eq_getElem (show (m - 1).toNat < s.Ms.length by omega)
    have ei : (((m - 1).toNat : Nat) : Int) + 1 = m := by omega
    have hX := E.X _ _ e
    rw [ei] at hX
    have hb := (E.small.mu _ (List.mem_of_getElem? e)).2
    have T := zrW s m (s.Ms[(m - 1).toNat]'(by omega))
    rw [if_neg h2, if_neg (fun e => e.elim (fun h => by cases h) (fun e => e.elim h1 h2)), z9 (a := m - 1) (by omega) (by omega), vQ (by omega), e, Option.bind_some, zsy h E.S hX (by omega) (by omega) E.small E.H hb.1 hb.2, Option.bind_some]
    simp only [T.ms, zvo (show s.Ms.length < 4294967296 by omega), Option.bind_some, Zd (l := s.Ms) (show 0 ≤ m - 1 by omega) (show m - 1 < (s.Ms.length : Int) by omega)]
end
end Go.Pe.G
namespace Go.Pe.G
open Go.Pe
noncomputable section
theorem zeN (s : zb) (g : zC) : (zD s g).1 = { s with M := (zD s g).1.M, Bins := (zD s g).1.Bins, T := (zD s g).1.T, Work := (zD s g).1.Work, Flag := (zD s g).1.Flag } := by
  obtain ⟨m, b, t, wk, f, e, _⟩ := WL s g
  rw [e]
theorem ztW {p : zd} {nb : Nat} {s : zb} {w : Int} {x : zk} (W : WOk p nb w x) : (yF s w x).1 = { s with M := (yF s w x).1.M, Bins := (yF s w x).1.Bins, T := (yF s w x).1.T, Work := (yF s w x).1.Work, L := (yF s w x).1.L } := by
  unfold yF
  split
  · rfl
  split
  · rfl
  split
  · rfl
  split
  · rfl
  split
  · rfl
  split
  · rename_i h6
    obtain ⟨g1, g2, g3, g4⟩ := W.g6 h6
    have hf := (zs6 s g3 g4).2
    obtain ⟨m, b, t, wk, f, e, _⟩ := WL s x.G
    dsimp only
    rw [e] at hf ⊢
    have hf : f = s.Flag := hf
    rw [hf]
  split
  · rfl
  split
  · rfl
  split <;> rfl
theorem zp2 (s : zb) (m : Int) (x : zc) : (zH s m x).1 = { s with H := (zH s m x).1.H, M := (zH s m x).1.M, Bins := (zH s m x).1.Bins, T := (zH s m x).1.T, Work := (zH s m x).1.Work, Flag := (zH s m x).1.Flag, Acks := (zH s m x).1.Acks, L := (zH s m x).1.L } := by
  have g : ∀ g : zC, (zD s g).1 = { s with H := (zD s g).1.H, M := (zD s g).1.M, Bins := (zD s g).1.Bins, T := (zD s g).1.T, Work := (zD s g).1.Work, Flag := (zD s g).1.Flag, Acks := (zD s g).1.Acks, L := (zD s g).1.L } := fun g => by
    obtain ⟨m, b, t, wk, f, e, _⟩ := WL s g
    rw [e]
  refine vS (motive := fun r => r.1 = { s with H := r.1.H, M := r.1.M, Bins := r.1.Bins, T := r.1.T, Work := r.1.Work, Flag := r.1.Flag, Acks := r.1.Acks, L := r.1.L }) s m x ?_ ?_ ?_ ?_ ?_ ?_ ?_ ?_ ?_ ?_ ?_ ?_ ?_ ?_ ?_ ?_ ?_ ?_ ?_ ?_
  · exact fun _ => rfl
  · exact fun _ => rfl
  · exact fun _ => rfl
  · exact fun _ => g x.G
  · exact fun _ => rfl
  · exact fun _ => rfl
  · exact fun _ => rfl
  · exact fun _ => rfl
  · exact fun _ => rfl
  · intro _
    unfold zdV
    split
    · split <;> rfl
    · rfl
  · exact fun _ => rfl
  · exact fun _ => rfl
  · exact fun _ => rfl
  · exact fun _ => rfl
  · exact fun _ => rfl
  · exact fun _ => rfl
  · exact fun _ => g x.G
  · exact fun _ => rfl
  · exact fun _ => rfl
  · rfl
theorem zx8 (s : zb) (m : Int) {x : zc} (h : x.PC ≠ 2) : (zH s m x).1.Acks = s.Acks := by
  have g : ∀ g : zC, (zD s g).1.Acks = s.Acks := fun g => by
    obtain ⟨m, b, t, wk, f, e, _⟩ := WL s g
    rw [e]
  refine vS (motive := fun r => r.1.Acks = s.Acks) s m x ?_ ?_ ?_ ?_ ?_ ?_ ?_ ?_ ?_ ?_ ?_ ?_ ?_ ?_ ?_ ?_ ?_ ?_ ?_ ?_
  · exact fun _ => rfl
  · exact fun _ => rfl
  · exact fun c => absurd c h
  · exact fun _ => g x.G
  · exact fun _ => rfl
  · exact fun _ => rfl
  · exact fun _ => rfl
  · exact fun _ => rfl
  · exact fun _ => rfl
  · intro _
    unfold zdV
    split
    · split <;> rfl
    · rfl
  · exact fun _ => rfl
  · exact fun _ => rfl
  · exact fun _ => rfl
  · exact fun _ => rfl
  · exact fun _ => rfl
  · exact fun _ => rfl
  · exact fun _ => g x.G
  · exact fun _ => rfl
  · exact fun _ => rfl
  · rfl
def zny (s : zb) (k : Int) : zb := if k = 0 then zll s else if k ≤ (s.Ws.length : Int) then uG s k else z3 s (k - s.Ws.length)
theorem zyd {p : zd} {nb : Nat} {s : zb} (h : zO p) (E : EOk p nb s) (k : Int) : EOk p nb (zny s k) := by
  unfold zny
  split
  · exact zxR h E
  split
  · exact zvw h E k
  · exact zhe h E _
theorem zmO {p : zd} {nb : Nat} {s : zb} (E : EOk p nb s) (w : Int) : uG s w = { s with M := (uG s w).M, Bins := (uG s w).Bins, T := (uG s w).T, Work := (uG s w).Work, L := (uG s w).L, Ws := (uG s w).Ws } := by
  unfold uG
  split
  · rfl
  rename_i hc
  cases hx : s.Ws[(w - 1).toNat]? with
  | none => rfl
  | some x =>
    have hW := E.W _ _ hx
    rw [show (((w - 1).toNat : Nat) : Int) + 1 = w by omega] at hW
    dsimp only
    rw [ztW hW]
theorem zvc (s : zb) (m : Int) : z3 s m = { s with H := (z3 s m).H, M := (z3 s m).M, Bins := (z3 s m).Bins, T := (z3 s m).T, Work := (z3 s m).Work, Flag := (z3 s m).Flag, Acks := (z3 s m).Acks, L := (z3 s m).L, Ms := (z3 s m).Ms } := by
  unfold z3
  split
  · rfl
  cases hx : s.Ms[(m - 1).toNat]? with
  | none => rfl
  | some x =>
    dsimp only
    rw [zp2]
structure AI (k : Int) (s : zb) : Prop where
  ep : 0 ≤ s.Epoch ∧ s.Epoch ≤ k
  m : ∀ (i : Nat) x, s.Ms[i]? = some x → s.Acks.getD i 0 ≤ s.Epoch ∧ (x.PC = 2 ∨ ((x.PC = 1 ∨ x.PC = 3) ∧ x.Ret = 2) → s.Acks.getD i 0 ≤ x.Want ∧ x.Want ≤ s.Epoch) ∧ (x.PC = 2 → x.Buf = [])
def ztS (s s' : zb) : Prop := ∀ (i : Nat) x', s'.Ms[i]? = some x' → s.Acks.getD i 0 ≤ s'.Acks.getD i 0 ∧ s'.Acks.getD i 0 ≤ s'.Epoch ∧ (s.Acks.getD i 0 < s'.Acks.getD i 0 → x'.Buf = [])
theorem AI.same {k : Int} {s s' : zb} (A : AI k s) (e1 : s'.Epoch = s.Epoch) (e2 : s'.Ms = s.Ms) (e3 : s'.Acks = s.Acks) : AI (k + 1) s' ∧ ztS s s' := by
  refine ⟨⟨by rw [e1]; have := A.ep; omega, by rw [e1, e2, e3]; exact A.m⟩, fun i x hx => ?_⟩
  rw [e2] at hx
  rw [e3, e1]
  exact ⟨Int.le_refl _, (A.m i x hx).1, fun e => by omega⟩
theorem zrc {α : Type} {l : List α} {i j : Nat} {v d : α} (h : i < l.length) : (l.set i v).getD j d = if i = j then v else l.getD j d := by
  rw [List.getD_eq_getElem?_getD, List.getD_eq_getElem?_getD, List.getElem?_set]
  by_cases e : i = j
  · rw [if_pos e, if_pos e, if_pos h]; rfl
  · rw [if_neg e, if_neg e]
theorem zw7 {p : zd} {nb : Nat} {k : Int} {s : zb} (hp : zO p) (E : EOk p nb s) (A : AI k s) {m : Int} (hm : 1 ≤ m ∧ m ≤ (s.Ms.length : Int)) {x : zc} (hx : s.Ms[(m - 1).toNat]? = some x) :
    let y := (zH s m x).2
    let s' := (zH s m x).1
    (s.Acks.getD (m - 1).toNat 0 ≤ s'.Acks.getD (m - 1).toNat 0 ∧ s'.Acks.getD (m - 1).toNat 0 ≤ s.Epoch ∧ (s.Acks.getD (m - 1).toNat 0 < s'.Acks.getD (m - 1).toNat 0 → y.Buf = [])) ∧ (∀ j, j ≠ (m - 1).toNat → s'.Acks.getD j 0 = s.Acks.getD j 0) ∧
      (y.PC = 2 ∨ ((y.PC = 1 ∨ y.PC = 3) ∧ y.Ret = 2) → s'.Acks.getD (m - 1).toNat 0 ≤ y.Want ∧ y.Want ≤ s.Epoch) ∧ (y.PC = 2 → y.Buf = []) := by
  obtain ⟨a1, a2, a3⟩ := A.m _ _ hx
  have X := E.X _ _ hx
  rw [show (((m - 1).toNat : Nat) : Int) + 1 = m by omega] at X
  have hal := E.al
  have same : ∀ {s' : zb} {y : zc}, s'.Acks = s.Acks → (y.PC = 2 ∨ ((y.PC = 1 ∨ y.PC = 3) ∧ y.Ret = 2) → s.Acks.getD (m - 1).toNat 0 ≤ y.Want ∧ y.Want ≤ s.Epoch) → (y.PC = 2 → y.Buf = []) →
      (s.Acks.getD (m - 1).toNat 0 ≤ s'.Acks.getD (m - 1).toNat 0 ∧ s'.Acks.getD (m - 1).toNat 0 ≤ s.Epoch ∧ (s.Acks.getD (m - 1).toNat 0 < s'.Acks.getD (m - 1).toNat 0 → y.Buf = [])) ∧ (∀ j, j ≠ (m - 1).toNat → s'.Acks.getD j 0 = s.Acks.getD j 0) ∧
      (y.PC = 2 ∨ ((y.PC = 1 ∨ y.PC = 3) ∧ y.Ret = 2) → s'.Acks.getD (m - 1).toNat 0 ≤ y.Want ∧ y.Want ≤ s.Epoch) ∧ (y.PC = 2 → y.Buf = []) := fun e h1 h2 => by
    rw [e]; exact ⟨⟨Int.le_refl _, a1, fun e => by omega⟩, fun _ _ => rfl, h1, h2⟩
  have far : ∀ {s' : zb} {y : zc}, s'.Acks = s.Acks → (y.PC = 0 ∨ 10 ≤ y.PC) → _ := fun {s' y} e h => same (s' := s') (y := y) e (fun e => by omega) (fun e => by omega)
  have gacks : ∀ g : zC, (zD s g).1.Acks = s.Acks := fun g => by
    obtain ⟨m, b, t, wk, f, e, _⟩ := WL s g
    rw [e]
  refine vS (motive := fun r => (s.Acks.getD (m - 1).toNat 0 ≤ r.1.Acks.getD (m - 1).toNat 0 ∧ r.1.Acks.getD (m - 1).toNat 0 ≤ s.Epoch ∧ (s.Acks.getD (m - 1).toNat 0 < r.1.Acks.getD (m - 1).toNat 0 → r.2.Buf = [])) ∧ (∀ j, j ≠ (m - 1).toNat → r.1.Acks.getD j 0 = s.Acks.getD j 0) ∧
      (r.2.PC = 2 ∨ ((r.2.PC = 1 ∨ r.2.PC = 3) ∧ r.2.Ret = 2) → r.1.Acks.getD (m - 1).toNat 0 ≤ r.2.Want ∧ r.2.Want ≤ s.Epoch) ∧ (r.2.PC = 2 → r.2.Buf = [])) s m x ?_ ?_ ?_ ?_ ?_ ?_ ?_ ?_ ?_ ?_ ?_ ?_ ?_ ?_ ?_ ?_ ?_ ?_ ?_ ?_
  · intro c
    unfold mu0 zaX
    split
    · rename_i hlt
      exact same rfl (fun _ => ⟨Int.le_of_lt hlt, Int.le_refl _⟩) (fun e => by cases e)
    split
    · exact far rfl (.inl c)
    split
    · exact far rfl (.inr (by show (10 : Int) ≤ 10; decide))
    split
    · exact far rfl (.inr (by show (10 : Int) ≤ 20; decide))
    split
    · exact far rfl (.inr (by show (10 : Int) ≤ 30; decide))
    split <;> exact far rfl (.inl rfl)
  · intro c
    unfold mu1
    split
    · rename_i hb
      have hb : x.Buf = [] := List.eq_nil_of_length_eq_zero hb
      refine same rfl (fun e => ?_) (fun _ => hb)
      have e : x.Ret = 2 ∨ ((x.Ret = 1 ∨ x.Ret = 3) ∧ x.Ret = 2) := e
      exact a2 (.inr ⟨.inl c, by omega⟩)
    · refine same rfl (fun e => a2 (.inr ⟨.inl c, ?_⟩)) (fun e => by cases e)
      rcases e with e | e
      · cases e
      · exact e.2
  · intro c
    have hlt : (m - 1).toNat < s.Acks.length := by omega
    obtain ⟨b1, b2⟩ := a2 (.inl c)
    unfold mu2
    have e0 : (s.Acks.set (m - 1).toNat x.Want).getD (m - 1).toNat 0 = x.Want := by rw [zrc hlt, if_pos rfl]
    refine ⟨⟨by dsimp only; rw [e0]; exact b1, by dsimp only; rw [e0]; exact b2, fun _ => a3 c⟩, fun j hj => ?_, fun (e : (0 : Int) = 2 ∨ (((0 : Int) = 1 ∨ (0 : Int) = 3) ∧ x.Ret = 2)) => by omega, fun (e : (0 : Int) = 2) => by omega⟩
    dsimp only
    rw [zrc hlt, if_neg (fun e => hj e.symm)]
  · intro c
    unfold mu3
    dsimp only
    split
    · refine same (gacks _) (fun e => a2 (.inr ⟨.inr c, ?_⟩)) (fun e => by cases e)
      rcases e with e | e
      · cases e
      · exact e.2
    · refine same (gacks _) (fun e => a2 ?_) (fun e => by have e : x.PC = 2 := e; omega)
      rcases e with e | e
      · exact .inl e
      · exact .inr e
  · exact fun c => far rfl (.inl rfl)
  · intro c
    unfold ziU
    split
    · exact far rfl (.inl rfl)
    · exact far rfl (.inr (by show (10 : Int) ≤ 21; decide))
  · intro c
    unfold zjx
    split
    · exact far rfl (.inr (by show (10 : Int) ≤ 23; decide))
    · exact far rfl (.inr (by show (10 : Int) ≤ 22; decide))
  · intro c
    unfold zjC
    split
    · refine same rfl (fun e => ?_) (fun e => by cases e)
      rcases e with e | ⟨_, e⟩ <;> cases e
    · exact far rfl (.inr (by show (10 : Int) ≤ 23; decide))
  · exact fun c => far rfl (.inl rfl)
  · intro c
    unfold zdV
    split
    · split
      · exact far rfl (.inl rfl)
      · exact far rfl (.inl rfl)
    · exact far rfl (.inr (by show (10 : Int) ≤ 31; decide))
  · intro c
    unfold ziT
    dsimp only
    split
    · exact far rfl (.inr (by show (10 : Int) ≤ 32; decide))
    · exact far rfl (.inl rfl)
  · intro c
    unfold zi5
    dsimp only
    split
    · exact far rfl (.inr (by show (10 : Int) ≤ 33; decide))
    split
    · exact far rfl (.inl rfl)
    · exact far rfl (.inr (by show 10 ≤ x.PC; omega))
  · exact fun c => far rfl (.inr (by show (10 : Int) ≤ 34; decide))
  · intro c
    unfold zjL
    dsimp only
    split
    · exact far rfl (.inr (by show (10 : Int) ≤ 35; decide))
    · exact far rfl (.inr (by show 10 ≤ x.PC; omega))
  · intro c
    unfold ziZ
    dsimp only
    split
    · exact far rfl (.inl rfl)
    · exact far rfl (.inr (by show (10 : Int) ≤ 36; decide))
  · intro c
    unfold zjQ
    dsimp only
    split
    · exact far rfl (.inr (by show 10 ≤ onM s (wc (x.Slot + 1)); rcases ziu s (wc (x.Slot + 1)) with e | e <;> rw [e] <;> decide))
    · exact far rfl (.inr (by show (10 : Int) ≤ 37; decide))
  · intro c
    unfold zi6
    dsimp only
    split
    · exact far (gacks _) (.inr (by show 10 ≤ onM s x.Slot; rcases ziu s x.Slot with e | e <;> rw [e] <;> decide))
    · exact far (gacks _) (.inr (by show 10 ≤ x.PC; omega))
  · exact fun c => far rfl (.inr (by show (10 : Int) ≤ 39; decide))
  · exact fun c => far rfl (.inr (by show (10 : Int) ≤ 35; decide))
  · exact same rfl a2 a3
theorem zyf {p : zd} {nb : Nat} {k : Int} {s : zb} (hp : zO p) (E : EOk p nb s) (hk : k < 1000000) (A : AI k s) (j : Int) : AI (k + 1) (zny s j) ∧ ztS s (zny s j) := by
  unfold zny
  split
  · -- the detector
    have up : ∀ s' : zb, s'.Epoch = s.Epoch + 1 → s'.Ms = s.Ms → s'.Acks = s.Acks → AI (k + 1) s' ∧ ztS s s' := fun s' e1 e2 e3 => by
      have := A.ep
      refine ⟨⟨by omega, fun i x hx => ?_⟩, fun i x hx => ?_⟩
      · rw [e2] at hx
        obtain ⟨b1, b2, b3⟩ := A.m i x hx
        rw [e3, e1]
        exact ⟨by omega, fun e => by have := b2 e; omega, b3⟩
      · rw [e2] at hx
        have := (A.m i x hx).1
        rw [e3, e1]
        exact ⟨Int.le_refl _, by omega, fun e => by omega⟩
    have he := A.ep
    unfold zll
    split
    · exact A.same rfl rfl rfl
    split
    · exact A.same rfl rfl rfl
    split
    · split <;> exact A.same rfl rfl rfl
    split
    · exact up _ (vV (by omega) (by omega)) rfl rfl
    split
    · split <;> exact A.same rfl rfl rfl
    split
    · split <;> exact A.same rfl rfl rfl
    split
    · split <;> exact A.same rfl rfl rfl
    split <;> exact A.same rfl rfl rfl
  split
  · rw [zmO E]
    exact A.same rfl rfl rfl
  · generalize j - (s.Ws.length : Int) = m
    unfold z3
    split
    · exact A.same rfl rfl rfl
    rename_i hc
    cases hx : s.Ms[(m - 1).toNat]? with
    | none => exact A.same rfl rfl rfl
    | some x =>
      have hm : 1 ≤ m ∧ m ≤ (s.Ms.length : Int) := by
        constructor
        · exact Int.not_lt.1 (fun e => hc (.inr (.inl e)))
        · exact Int.not_lt.1 (fun e => hc (.inr (.inr e)))
      obtain ⟨b1, b2, b3, b4⟩ := zw7 hp E A hm hx
      have hE : (zH s m x).1.Epoch = s.Epoch := by rw [zp2]
      have he := A.ep
      have hl := (List.getElem?_eq_some_iff.1 hx).1
      refine ⟨⟨by show 0 ≤ (zH s m x).1.Epoch ∧ _; rw [hE]; omega, fun i y hy => ?_⟩, fun i y hy => ?_⟩
      · show (zH s m x).1.Acks.getD i 0 ≤ (zH s m x).1.Epoch ∧ (_ → (zH s m x).1.Acks.getD i 0 ≤ y.Want ∧ y.Want ≤ (zH s m x).1.Epoch) ∧ _
        rw [hE]
        have hy : (s.Ms.set (m - 1).toNat (zH s m x).2)[i]? = some y := hy
        by_cases hi : i = (m - 1).toNat
        · subst hi
          rw [List.getElem?_set_self hl] at hy
          injection hy with hy
          subst hy
          exact ⟨b1.2.1, b3, b4⟩
        · rw [List.getElem?_set_ne (fun e => hi e.symm)] at hy
          rw [b2 i hi]
          exact A.m i y hy
      · show s.Acks.getD i 0 ≤ (zH s m x).1.Acks.getD i 0 ∧ (zH s m x).1.Acks.getD i 0 ≤ (zH s m x).1.Epoch ∧ _
        rw [hE]
        have hy : (s.Ms.set (m - 1).toNat (zH s m x).2)[i]? = some y := hy
        by_cases hi : i = (m - 1).toNat
        · subst hi
          rw [List.getElem?_set_self hl] at hy
          injection hy with hy
          subst hy
          exact b1
        · rw [List.getElem?_set_ne (fun e => hi e.symm)] at hy
          show _ ∧ _ ∧ (s.Acks.getD i 0 < (zH s m x).1.Acks.getD i 0 → _)
          rw [b2 i hi]
          exact ⟨Int.le_refl _, (A.m i y hy).1, fun e => by omega⟩
theorem zyi (p : zd) : AI 0 (vm p) := by
  refine ⟨⟨Int.le_refl _, Int.le_refl _⟩, fun i x hx => ?_⟩
  have e : (vm p).Acks.getD i 0 = 0 := by
    show (List.replicate p.Mutators.toNat (0 : Int)).getD i 0 = 0
    rw [List.getD_eq_getElem?_getD, List.getElem?_replicate]; split <;> rfl
  have hx : (p.Regs.map wB)[i]? = some x := hx
  rw [List.getElem?_map] at hx
  cases hr : p.Regs[i]? with
  | none => rw [hr] at hx; cases hx
  | some r =>
    rw [hr] at hx
    injection hx with hx
    subst hx
    rw [e]
    refine ⟨Int.le_refl _, fun e => ?_, fun e => ?_⟩
    · simp [wB] at e
    · simp [wB] at e
end
end Go.Pe.G
namespace Go.Pe.G
open Go.Pe
noncomputable section
theorem zq7 {v : Int} (h : 0 ≤ v ∧ v < 10) : zqx v = some (⟨#[UInt8.ofNat (48 + v.toNat)]⟩, ()) := by
  have e : (decide (0 ≤ v) && decide (v < 100)) = true := by simp; omega
  rw [zvp]; unfold znS
  rw [e, cond_true, Go.Lib.decDigits, dif_pos (by omega)]
theorem join_one (x : ByteArray) (hx : x.data.toList.length < 1000) (sep : ByteArray) : zt3 [x] sep = some (x, ()) := by
  rw [zvN]; unfold zno
  simp only [List.map_cons, List.map_nil, Go.Lib.join_one, List.length_cons, List.length_nil]
  have e : (decide (0 + 1 ≤ 140737488355328) && decide (x.data.toList.length ≤ 140737488355328)) = true := by simp; simp at hx; omega
  rw [e, cond_true]
def zsY (a : ByteArray) (o : List Int) : ByteArray := a ++ (ByteArray.mk #[124] ++ ⟨#[UInt8.ofNat (48 + (o.getD 0 0).toNat)]⟩)
theorem zrO {A B D : Type} {f : A → Option (yN A B D)} {x y : A} {b : B} (h1 : f x = some (.again y)) (h : f y = some (.brk b)) : yp f x = some (.brk b) := by
  rw [VK]
  show ut f (18446744073709551614 + 1 + 1) x = _
  rw [ut, h1, Option.bind_some]
  dsimp only
  rw [ut, h]; rfl
theorem zpE (objs : List (List Int)) (hv : ∀ o ∈ objs, ∃ v : Int, o = [v] ∧ 0 ≤ v ∧ v < 10) (hl : objs.length < 1000) : ∀ (k i : Nat) (a : ByteArray), objs.length - i = k → i ≤ objs.length → a.size + 2 * k ≤ 4000 → ∀ m, k < m →
    ut zcy m (a, objs, (objs.length : Int), (i : Int), ()) = some (.brk ((objs.drop i).foldl zsY a, ()))
  | 0, i, a, hk, hi, ha, m + 1, hm => by
    rw [ut, zej, zm, if_neg (by omega), List.drop_eq_nil_of_le (by omega)]; rfl
  | k + 1, i, a, hk, hi, ha, m + 1, hm => by
    have hx := List.getElem?_eq_getElem (show i < objs.length by omega)
    obtain ⟨v, hvo, h0, h9⟩ := hv _ (List.getElem_mem (show i < objs.length by omega))
    rw [ut, zej, zm, if_pos (by omega), xR hx, Option.bind_some, hvo]
    rw [zrO (f := zcJ) (y := (a, objs, (objs.length : Int), (i : Int), [v], (([v] : List Int).length : Int), 1, [⟨#[UInt8.ofNat (48 + v.toNat)]⟩], ()))
      (b := (a, objs, (objs.length : Int), (i : Int), [⟨#[UInt8.ofNat (48 + v.toNat)]⟩], ()))
      (by rw [zep, zm, if_pos (by simp), vQ (by decide)]
          simp only [Int.toNat_zero, List.getElem?_cons_zero, Option.bind_some, zq7 ⟨h0, h9⟩, List.nil_append]
          rw [wu (by simp), Option.bind_some, z9 (by decide) (by decide)]; rfl)
      (by rw [zep, zm, if_neg (by simp)]), Option.bind_some]
    dsimp only
    rw [join_one _ (by simp), Option.bind_some]
    dsimp only
    have s1 : (ByteArray.mk #[124] ++ ⟨#[UInt8.ofNat (48 + v.toNat)]⟩ : ByteArray).size = 2 := by rw [ByteArray.size_append]; rfl
    have s0 : (ByteArray.mk #[124]).size + (⟨#[UInt8.ofNat (48 + v.toNat)]⟩ : ByteArray).size = 2 := rfl
    have s2 : (a ++ (ByteArray.mk #[124] ++ ⟨#[UInt8.ofNat (48 + v.toNat)]⟩) : ByteArray).size = a.size + 2 := by rw [ByteArray.size_append, s1]
    rw [zm, if_pos (by rw [s0]; omega), zm, if_pos (by rw [s1]; omega), yV (by omega), Option.bind_some]
    dsimp only
    rw [List.drop_eq_getElem_cons (show i < objs.length by omega), List.foldl_cons]
    rw [zpE objs hv hl k (i + 1) _ (by omega) (by omega) (by rw [s2]; omega) m (by omega), hvo]
    rfl
def zsN (h : zu) : Bool := decide (h.Slots = 1) && decide (h.Objs.length < 10) && h.Objs.all fun o => match o with
  | [v] => decide (0 ≤ v) && decide (v ≤ (h.Objs.length : Int))
  | _ => false
theorem zkR {h : zu} (hh : zsN h = true) : UR h = some (h.Objs.foldl zsY (ByteArray.mk #[49]), ()) := by
  simp only [zsN, Bool.and_eq_true, decide_eq_true_eq, List.all_eq_true] at hh
  obtain ⟨⟨h1, h2⟩, h3⟩ := hh
  have h4 : ∀ o ∈ h.Objs, ∃ v : Int, o = [v] ∧ 0 ≤ v ∧ v ≤ (h.Objs.length : Int) := fun o ho => by
    have := h3 o ho
    match o, this with
    | [v], this => simp at this; exact ⟨v, rfl, this⟩
  rw [zpw, zdJ (by omega) (by omega) (fun o ho => by
    obtain ⟨v, rfl, hv⟩ := h4 o ho
    exact ⟨by rw [h1]; rfl, fun u hu => by simp at hu; subst hu; exact hv⟩), Option.bind_some]
  dsimp only
  rw [Bool.not_true, cond_false, h1, zq7 (by decide), Option.bind_some]
  dsimp only
  have e := zpE h.Objs (fun o ho => by obtain ⟨v, a, b⟩ := h4 o ho; exact ⟨v, a, by omega⟩) (by omega) h.Objs.length 0 (ByteArray.mk #[49]) (by omega) (by omega) (by show 1 + _ ≤ _; omega) YC (by unfold YC; omega)
  rw [VK]
  refine (congrArg (fun o => Option.bind o _) e).trans rfl
end
end Go.Pe.G
namespace Go.Pe.G
open Go.Pe
noncomputable section
theorem zoz {o : Int} (h : 1 ≤ o ∧ o ≤ 64) (j : Nat) : (bit o).getLsbD j = decide ((o - 1).toNat = j) := by
  unfold bit
  rw [if_pos h, ← BitVec.twoPow_eq, BitVec.getLsbD_twoPow, decide_eq_true (by omega : (o - 1).toNat < 64), Bool.true_and]
theorem vA (s : BitVec 64) (o : Int) : yM s o = true ↔ 1 ≤ o ∧ o ≤ 64 ∧ s.getLsbD (o - 1).toNat = true := by
  unfold yM
  rw [Bool.not_eq_true', decide_eq_false_iff_not]
  by_cases h : 1 ≤ o ∧ o ≤ 64
  · constructor
    · intro h1
      refine ⟨h.1, h.2, Classical.byContradiction (fun h2 => h1 ?_)⟩
      apply BitVec.eq_of_getLsbD_eq
      intro j hj
      rw [BitVec.getLsbD_and, zoz h, BitVec.getLsbD_zero]
      by_cases e : (o - 1).toNat = j
      · rw [← e]; simp only [Bool.not_eq_true] at h2; rw [h2]; rfl
      · rw [decide_eq_false e, Bool.and_false]
    · rintro ⟨_, _, h1⟩ h2
      have := congrArg (fun v => BitVec.getLsbD v (o - 1).toNat) h2
      simp only [BitVec.getLsbD_and, zoz h, h1, BitVec.getLsbD_zero] at this
      simp at this
  · constructor
    · intro h1
      exact absurd (by unfold bit; rw [if_neg h, BitVec.and_zero]) h1
    · rintro ⟨a, b, _⟩; exact absurd ⟨a, b⟩ h
theorem V3 (s : BitVec 64) {o : Int} (h : 1 ≤ o ∧ o ≤ 64) (q : Int) : yM (s ||| bit o) q = true ↔ yM s q = true ∨ q = o := by
  rw [vA, vA, BitVec.getLsbD_or, zoz h]
  simp only [Bool.or_eq_true, decide_eq_true_eq]
  constructor
  · rintro ⟨a, b, c | c⟩
    · exact .inl ⟨a, b, c⟩
    · exact .inr (by omega)
  · rintro (⟨a, b, c⟩ | rfl)
    · exact ⟨a, b, .inl c⟩
    · exact ⟨h.1, h.2, .inr rfl⟩
theorem zfH (s t : BitVec 64) (q : Int) : yM (s &&& t) q = true ↔ yM s q = true ∧ yM t q = true := by
  rw [vA, vA, vA, BitVec.getLsbD_and]
  simp only [Bool.and_eq_true]
  constructor
  · rintro ⟨a, b, c, d⟩; exact ⟨⟨a, b, c⟩, a, b, d⟩
  · rintro ⟨⟨a, b, c⟩, _, _, d⟩; exact ⟨a, b, c, d⟩
theorem VT (q : Int) : ¬ yM 0#64 q = true := by
  rw [vA, BitVec.getLsbD_zero]; exact fun h => by cases h.2.2
theorem zwK {s t : BitVec 64} (h : ∀ o, yM s o = true ↔ yM t o = true) : s = t := by
  apply BitVec.eq_of_getLsbD_eq
  intro j hj
  have := h ((j : Int) + 1)
  rw [vA, vA, show ((j : Int) + 1 - 1).toNat = j by omega] at this
  rw [Bool.eq_iff_iff]
  exact ⟨fun e => (this.1 ⟨by omega, by omega, e⟩).2.2, fun e => (this.2 ⟨by omega, by omega, e⟩).2.2⟩
theorem znj {m : BitVec 64} {o : Int} (h : 1 ≤ o ∧ o ≤ 64) : ¬ (m ||| bit o = m) ↔ ¬ yM m o = true := by
  constructor
  · intro h1 h2
    refine h1 (zwK (fun q => ?_))
    rw [V3 _ h]
    exact ⟨fun e => e.elim id (fun e => by rw [e]; exact h2), .inl⟩
  · intro h1 h2
    refine h1 ?_
    rw [← h2, V3 _ h]; exact .inr rfl
theorem zwj (t : zp) (o : Int) : Wp t o = 1 ↔ yM t.Marks o = true ∧ ¬ yM t.Black o = true := by
  unfold Wp
  by_cases h1 : yM (t.Marks &&& t.Black) o = true
  · rw [if_pos h1]
    rw [zfH] at h1
    exact ⟨fun e => (by cases e), fun e => absurd h1.2 e.2⟩
  · rw [if_neg h1]
    rw [zfH] at h1
    by_cases h2 : yM t.Marks o = true
    · rw [if_pos h2]; exact ⟨fun _ => ⟨h2, fun e => h1 ⟨h2, e⟩⟩, fun _ => rfl⟩
    · rw [if_neg h2]; exact ⟨fun e => (by cases e), fun e => absurd e.1 h2⟩
end
end Go.Pe.G
namespace Go.Pe.G
open Go.Pe
noncomputable section
theorem zvg : ∀ (t : Fin 512) (k : Fin 9), BitVec.ofNat 64 t.1 ||| bit ((k.1 : Int) + 1) = BitVec.ofNat 64 t.1 ∨ cnt (BitVec.ofNat 64 t.1 ||| bit ((k.1 : Int) + 1)) = cnt (BitVec.ofNat 64 t.1) + 1 := by decide +kernel
theorem zue {s : BitVec 64} (h : ∀ o, yM s o = true → o ≤ 9) : ∃ t : Fin 512, s = BitVec.ofNat 64 t.1 := by
  have h2 : s = s &&& 511#64 := by
    apply BitVec.eq_of_getLsbD_eq
    intro j hj
    rw [BitVec.getLsbD_and]
    have h63 : (511#64).getLsbD j = decide (j < 9) := by
      have : ∀ j : Fin 64, (511#64).getLsbD j.1 = decide (j.1 < 9) := by decide
      exact this ⟨j, hj⟩
    rw [h63]
    cases hs : s.getLsbD j with
    | false => rfl
    | true =>
      have := h ((j : Int) + 1) ((vA _ _).2 ⟨by omega, by omega, by rw [show ((j : Int) + 1 - 1).toNat = j by omega]; exact hs⟩)
      rw [decide_eq_true (by omega : j < 9)]; rfl
  have h3 : s.toNat < 512 := by
    rw [h2, BitVec.toNat_and]
    exact Nat.lt_of_le_of_lt Nat.and_le_right (by decide)
  exact ⟨⟨s.toNat, h3⟩, by rw [BitVec.ofNat_toNat, BitVec.setWidth_eq]⟩
theorem zxq {s : BitVec 64} (h : ∀ o, yM s o = true → o ≤ 9) {o : Int} (ho : 1 ≤ o ∧ o ≤ 9) (hn : ¬ yM s o = true) : cnt (s ||| bit o) = cnt s + 1 := by
  obtain ⟨t, rfl⟩ := zue h
  have := zvg t ⟨(o - 1).toNat, by omega⟩
  rw [show (((o - 1).toNat : Nat) : Int) + 1 = o by omega] at this
  rcases this with e | e
  · exact absurd e ((znj ⟨ho.1, by omega⟩).2 hn)
  · exact e
theorem zr6 : ∀ (l : List Int) (s : BitVec 64) (q : Int), (∀ o ∈ l, 1 ≤ o ∧ o ≤ 64) → (yM (l.foldl (fun s o => s ||| bit o) s) q = true ↔ yM s q = true ∨ q ∈ l)
  | [], s, q, _ => by simp
  | a :: l, s, q, h => by
    rw [List.foldl_cons, zr6 l _ q (fun o ho => h o (List.mem_cons_of_mem _ ho)), V3 _ (h a (by simp)), List.mem_cons, or_assoc]
theorem zqH : ∀ (l : List Int) (s : BitVec 64), (∀ o ∈ l, 1 ≤ o ∧ o ≤ 9) → (∀ o, yM s o = true → o ≤ 9) → l.Nodup → (∀ o ∈ l, ¬ yM s o = true) → cnt (l.foldl (fun s o => s ||| bit o) s) = cnt s + (l.length : Int)
  | [], s, _, _, _, _ => by simp
  | a :: l, s, h, hs, hd, hn => by
    have ha := h a (by simp)
    have hd := List.nodup_cons.1 hd
    have ha64 : 1 ≤ a ∧ a ≤ 64 := by omega
    rw [List.foldl_cons, zqH l _ (fun o ho => h o (List.mem_cons_of_mem _ ho)) (fun o ho => ?_) hd.2 (fun o ho e => ?_), zxq hs ha (hn a (by simp)), List.length_cons]
    · omega
    · rcases (V3 _ ha64 o).1 ho with e | e
      · exact hs o e
      · omega
    · rcases (V3 _ ha64 o).1 e with e | e
      · exact hn o (List.mem_cons_of_mem _ ho) e
      · exact hd.1 (e ▸ ho)
theorem ztD : ∀ t : Fin 512, cnt (BitVec.ofNat 64 t.1) ≤ 9 := by decide +kernel
theorem zxC {s : BitVec 64} (h : ∀ o, yM s o = true → o ≤ 9) : cnt s ≤ 9 := by
  obtain ⟨t, rfl⟩ := zue h
  exact ztD t
theorem zvU : cnt 0#64 = 0 := by decide +kernel
theorem zye {l : List Int} (h : ∀ o ∈ l, 1 ≤ o ∧ o ≤ 9) (hd : l.Nodup) : cnt (zeE l) = (l.length : Int) ∧ ∀ q, yM (zeE l) q = true ↔ q ∈ l := by
  refine ⟨?_, fun q => ?_⟩
  · unfold zeE
    rw [zqH l _ h (fun o e => absurd e (VT o)) hd (fun o _ => VT o), zvU, Int.zero_add]
  · unfold zeE
    rw [zr6 l _ q (fun o ho => by have := h o ho; omega)]
    exact ⟨fun e => e.resolve_left (VT q), .inr⟩
theorem zv6 (s : BitVec 64) {q : Int} (h : 1 ≤ q ∧ q ≤ 64) : yM (~~~s) q = true ↔ ¬ yM s q = true := by
  rw [vA, vA, BitVec.getLsbD_not]
  simp only [show (q - 1).toNat < 64 by omega, decide_true, Bool.true_and, Bool.not_eq_true']
  constructor
  · rintro ⟨_, _, e⟩ ⟨_, _, e2⟩; rw [e] at e2; cases e2
  · intro e
    refine ⟨h.1, h.2, ?_⟩
    cases hs : s.getLsbD (q - 1).toNat with
    | false => rfl
    | true => exact absurd ⟨h.1, h.2, hs⟩ e
end
end Go.Pe.G
namespace Go.Pe.G
open Go.Pe
noncomputable section
theorem zot : ∀ (n : Fin 10) (j : Fin 64), (X7 (n.1 : Int)).getLsbD j.1 = decide (j.1 < n.1) := by decide +kernel
theorem ztu {n : Nat} (hn : n ≤ 9) (o : Int) : yM (X7 (n : Int)) o = true ↔ 1 ≤ o ∧ o ≤ (n : Int) := by
  rw [vA]
  constructor
  · rintro ⟨a, b, c⟩
    have := zot ⟨n, by omega⟩ ⟨(o - 1).toNat, by omega⟩
    rw [this] at c
    have : (o - 1).toNat < n := by simpa using c
    omega
  · rintro ⟨a, b⟩
    have := zot ⟨n, by omega⟩ ⟨(o - 1).toNat, by omega⟩
    refine ⟨a, by omega, ?_⟩
    rw [this]
    exact decide_eq_true (by show (o - 1).toNat < n; omega)
end
end Go.Pe.G
namespace Go.Pe.G
open Go.Pe
noncomputable section
theorem VQ (a b : BitVec 64) (q : Int) : yM (a ||| b) q = true ↔ yM a q = true ∨ yM b q = true := by
  rw [vA, vA, vA, BitVec.getLsbD_or, Bool.or_eq_true]
  constructor
  · rintro ⟨h1, h2, h | h⟩
    · exact .inl ⟨h1, h2, h⟩
    · exact .inr ⟨h1, h2, h⟩
  · rintro (⟨h1, h2, h⟩ | ⟨h1, h2, h⟩)
    · exact ⟨h1, h2, .inl h⟩
    · exact ⟨h1, h2, .inr h⟩
theorem zcb (h : zu) (a i v : Int) : (zcn h a i v).Objs.length = h.Objs.length := by
  unfold zcn; split <;> simp
theorem zuu (h : zu) : (UN h).Objs.length = h.Objs.length + 1 := by unfold UN; simp
end
end Go.Pe.G
namespace Go.Pe.G
open Go.Pe
noncomputable section
theorem zuw {t : zp} {o : Int} (ho : 1 ≤ o ∧ o ≤ 64) (hm : ¬ yM t.Marks o = true) (hb : ¬ yM t.Black o = true) : YJ t o = ({ t with Marks := t.Marks ||| bit o }, true) := by
  unfold YJ
  rw [if_neg ((znj ho).2 hm), if_pos]
  unfold yM at hb
  simpa using hb
theorem zwd {o q : Int} (h : yM (bit o) q = true) : q = o := by
  by_cases ho : 1 ≤ o ∧ o ≤ 64
  · have := (V3 0#64 ho q).1 (by simpa using h)
    exact this.resolve_left (VT q)
  · unfold bit at h; rw [if_neg ho] at h; exact absurd h (VT q)
theorem zmY {m : BitVec 64} {o q : Int} (h : yM (m ||| bit o) q = true) : yM m q = true ∨ q = o := ((VQ _ _ _).1 h).imp id zwd
theorem zqB (t : zp) (o : Int) : Wp t o = 2 ↔ yM t.Marks o = true ∧ yM t.Black o = true := by
  unfold Wp
  cases h : yM (t.Marks &&& t.Black) o with
  | true => simp only [if_true, true_iff]; exact (zfH _ _ o).1 h
  | false =>
    have hn : ¬ (yM t.Marks o = true ∧ yM t.Black o = true) := fun e => by rw [(zfH _ _ o).2 e] at h; cases h
    simp only [Bool.false_eq_true, if_false]
    constructor
    · intro e; split at e <;> omega
    · intro e; exact absurd e hn
theorem zdq (t : zp) (o : Int) : (YJ t o).1.Black = t.Black ∧ ((YJ t o).1.Marks = t.Marks ∨ (YJ t o).1.Marks = t.Marks ||| bit o) := by
  unfold YJ
  split
  · exact ⟨rfl, .inl rfl⟩
  split
  · exact ⟨rfl, .inr rfl⟩
  · exact ⟨rfl, .inl rfl⟩
theorem zit (t : zp) (o : Int) : (U9 t o).Marks = t.Marks ∧ ((U9 t o).Black = t.Black ∨ ((U9 t o).Black = t.Black ||| bit o ∧ yM t.Marks o = true)) := by
  unfold U9
  split
  · rename_i h; exact ⟨rfl, .inr ⟨rfl, ((zwj t o).1 h).1⟩⟩
  · exact ⟨rfl, .inl rfl⟩
theorem zt9 (s : zb) (g : zC) : (zD s g).1.T = s.T ∨ (zD s g).1.T = (YJ s.T g.Obj).1 := by
  unfold zD
  split
  · exact .inl rfl
  split
  · exact .inl rfl
  split
  · exact .inl rfl
  split
  · exact .inl rfl
  split
  · exact .inl rfl
  split
  · exact .inl rfl
  split
  · exact .inl rfl
  split
  · exact .inr rfl
  · exact .inl rfl
theorem zv8 (s : zb) (m : Int) (x : zc) :
    ((zH s m x).1.H.Objs.length = s.H.Objs.length ∧ ((zH s m x).1.T = s.T ∨ ((zH s m x).1.T = (YJ s.T x.G.Obj).1 ∧ (x.PC = 3 ∨ x.PC = 37)) ∨ (zH s m x).1.T = U9 s.T x.Obj) ∧
      ((zH s m x).1.L = s.L ∨ (∃ w, (zH s m x).1.L = (UZ s.L m w).1) ∨ (zH s m x).1.L = U4 s.L m)) ∨
    ((zH s m x).1.H = UN s.H ∧ (zH s m x).1.T = zgs s.T (wc (s.H.Objs.length + 1)) ∧ (zH s m x).1.L = UC s.L m s.P.Price ∧ zcv s.L m s.P.Price s.P.Limit = true ∧ U0 s.H s.P.Most = true) := by
  refine vS (motive := fun r => (r.1.H.Objs.length = s.H.Objs.length ∧ (r.1.T = s.T ∨ (r.1.T = (YJ s.T x.G.Obj).1 ∧ (x.PC = 3 ∨ x.PC = 37)) ∨ r.1.T = U9 s.T x.Obj) ∧ (r.1.L = s.L ∨ (∃ w, r.1.L = (UZ s.L m w).1) ∨ r.1.L = U4 s.L m)) ∨
    (r.1.H = UN s.H ∧ r.1.T = zgs s.T (wc (s.H.Objs.length + 1)) ∧ r.1.L = UC s.L m s.P.Price ∧ zcv s.L m s.P.Price s.P.Limit = true ∧ U0 s.H s.P.Most = true)) s m x ?_ ?_ ?_ ?_ ?_ ?_ ?_ ?_ ?_ ?_ ?_ ?_ ?_ ?_ ?_ ?_ ?_ ?_ ?_ ?_
  · intro c; exact .inl ⟨rfl, .inl rfl, .inl rfl⟩
  · intro c; exact .inl ⟨rfl, .inl rfl, .inl rfl⟩
  · intro c; exact .inl ⟨rfl, .inl rfl, .inl rfl⟩
  · intro c; unfold mu3
    refine .inl ⟨by rw [zeN], (zt9 s x.G).imp id (fun h => .inl ⟨h, .inl c⟩), .inl (by rw [zeN])⟩
  · intro c; exact .inl ⟨rfl, .inl rfl, .inl rfl⟩
  · intro c; exact .inl ⟨rfl, .inl rfl, .inl rfl⟩
  · intro c; exact .inl ⟨rfl, .inl rfl, .inl rfl⟩
  · intro c; exact .inl ⟨rfl, .inl rfl, .inl rfl⟩
  · intro c; exact .inl ⟨zcb _ _ _ _, .inl rfl, .inl rfl⟩
  · intro c; unfold zdV
    split
    · split
      · rename_i h1 h2; exact .inr ⟨rfl, rfl, rfl, h1, h2⟩
      · exact .inl ⟨rfl, .inl rfl, .inl rfl⟩
    · exact .inl ⟨rfl, .inl rfl, .inl rfl⟩
  · intro c; exact .inl ⟨rfl, .inl rfl, .inr (.inl ⟨_, rfl⟩)⟩
  · intro c; exact .inl ⟨rfl, .inl rfl, .inl rfl⟩
  · intro c; exact .inl ⟨rfl, .inl rfl, .inl rfl⟩
  · intro c; exact .inl ⟨rfl, .inl rfl, .inl rfl⟩
  · intro c; exact .inl ⟨rfl, .inl rfl, .inl rfl⟩
  · intro c; exact .inl ⟨rfl, .inl rfl, .inl rfl⟩
  · intro c; unfold zi6
    refine .inl ⟨by rw [zeN], (zt9 s x.G).imp id (fun h => .inl ⟨h, .inr c⟩), .inl (by rw [zeN])⟩
  · intro c; exact .inl ⟨rfl, .inr (.inr rfl), .inr (.inr rfl)⟩
  · intro c; exact .inl ⟨rfl, .inl rfl, .inl rfl⟩
  · exact .inl ⟨rfl, .inl rfl, .inl rfl⟩
def zg5 (n : Int) (x : zc) : Prop := (∀ v ∈ x.Buf, v ≤ n) ∧ x.Old ≤ n ∧ (x.PC = 3 ∨ x.PC = 37 → x.G.Obj ≤ n)
theorem zud {h : zu} {n : Int} (h0 : 0 ≤ n) (hv : ∀ l ∈ h.Objs, ∀ v ∈ l, v ≤ n) (o i : Int) : Vc h o i ≤ n := by
  unfold Vc
  split
  · rw [List.getD_eq_getElem?_getD]
    cases hx : (yS h o)[i.toNat]? with
    | none => exact h0
    | some v =>
      have hm := List.mem_of_getElem? hx
      unfold yS at hm
      rw [List.getD_eq_getElem?_getD] at hm
      cases hy : h.Objs[(o - 1).toNat]? with
      | none => rw [hy] at hm; cases hm
      | some l => rw [hy] at hm; exact hv l (List.mem_of_getElem? hy) v hm
  · exact h0
theorem zuM {p : zd} {nb : Nat} {s : zb} {m : Int} {x : zc} (X : XOk p nb m x) {n : Int} (h0 : 0 ≤ n) (hv : ∀ l ∈ s.H.Objs, ∀ v ∈ l, v ≤ n) (B : zg5 n x) : zg5 n (zH s m x).2 := by
  obtain ⟨b1, b2, b3⟩ := B
  have no : ∀ {y : zc}, (∀ v ∈ y.Buf, v ≤ n) → y.Old ≤ n → ¬ (y.PC = 3 ∨ y.PC = 37) → zg5 n y := fun h1 h2 h3 => ⟨h1, h2, fun e => absurd e h3⟩
  refine vS (motive := fun r => zg5 n r.2) s m x ?_ ?_ ?_ ?_ ?_ ?_ ?_ ?_ ?_ ?_ ?_ ?_ ?_ ?_ ?_ ?_ ?_ ?_ ?_ ?_
  · intro c; unfold mu0 zaX
    repeat' split
    all_goals exact no b1 b2 (by dsimp only [setM]; omega)
  · intro c; unfold mu1; dsimp only
    split
    · exact no b1 b2 (by have := X.ret (.inl c); show ¬ (x.Ret = 3 ∨ x.Ret = 37); omega)
    · rename_i hl
      refine ⟨fun v hv => b1 v (List.mem_of_mem_take hv), b2, fun _ => ?_⟩
      show x.Buf.getD (x.Buf.length - 1) 0 ≤ n
      rw [List.getD_eq_getElem?_getD, List.getElem?_eq_getElem (show x.Buf.length - 1 < x.Buf.length by omega)]
      exact b1 _ (List.getElem_mem _)
  · intro c; unfold mu2; exact no b1 b2 (by show ¬ ((0 : Int) = 3 ∨ (0 : Int) = 37); decide)
  · intro c; unfold mu3; dsimp only
    split
    · exact no b1 b2 (by show ¬ ((1 : Int) = 3 ∨ (1 : Int) = 37); decide)
    · exact ⟨b1, b2, fun _ => by show (zD s x.G).2.Obj ≤ n; rw [(zfw s x.G).1]; exact b3 (.inl c)⟩
  · intro c; unfold zkF; exact no b1 b2 (by show ¬ ((0 : Int) = 3 ∨ (0 : Int) = 37); decide)
  · intro c; unfold ziU; dsimp only
    split
    · exact no b1 b2 (by show ¬ ((0 : Int) = 3 ∨ (0 : Int) = 37); decide)
    · exact no b1 (zud h0 hv _ _) (by show ¬ ((21 : Int) = 3 ∨ (21 : Int) = 37); decide)
  · intro c; unfold zjx; dsimp only
    split
    · exact no b1 h0 (by show ¬ ((23 : Int) = 3 ∨ (23 : Int) = 37); decide)
    · exact no b1 b2 (by show ¬ ((22 : Int) = 3 ∨ (22 : Int) = 37); decide)
  · intro c; unfold zjC; dsimp only
    split
    · exact no b1 b2 (by show ¬ ((1 : Int) = 3 ∨ (1 : Int) = 37); decide)
    · refine no (fun v hv => ?_) h0 (by show ¬ ((23 : Int) = 3 ∨ (23 : Int) = 37); decide)
      rcases List.mem_append.1 hv with h | h
      · exact b1 v h
      · rw [List.mem_singleton.1 h]; exact b2
  · intro c; unfold zkg; exact no b1 b2 (by show ¬ ((0 : Int) = 3 ∨ (0 : Int) = 37); decide)
  · intro c; unfold zdV
    split
    · split
      · exact no b1 b2 (by show ¬ ((0 : Int) = 3 ∨ (0 : Int) = 37); decide)
      · exact no b1 b2 (by show ¬ ((0 : Int) = 3 ∨ (0 : Int) = 37); decide)
    · exact no b1 b2 (by show ¬ ((31 : Int) = 3 ∨ (31 : Int) = 37); decide)
  · intro c; unfold ziT; dsimp only
    split
    · exact no b1 b2 (by show ¬ ((32 : Int) = 3 ∨ (32 : Int) = 37); decide)
    · exact no b1 b2 (by show ¬ ((0 : Int) = 3 ∨ (0 : Int) = 37); decide)
  · intro c; unfold zi5; dsimp only
    split
    · exact no b1 b2 (by show ¬ ((33 : Int) = 3 ∨ (33 : Int) = 37); decide)
    split
    · exact no b1 b2 (by show ¬ ((0 : Int) = 3 ∨ (0 : Int) = 37); decide)
    · exact no b1 b2 (by show ¬ (x.PC = 3 ∨ x.PC = 37); omega)
  · intro c; unfold zk6; exact no b1 b2 (by show ¬ ((34 : Int) = 3 ∨ (34 : Int) = 37); decide)
  · intro c; unfold zjL; dsimp only
    split
    · exact no b1 b2 (by show ¬ ((35 : Int) = 3 ∨ (35 : Int) = 37); decide)
    · exact no b1 b2 (by show ¬ (x.PC = 3 ∨ x.PC = 37); omega)
  · intro c; unfold ziZ; dsimp only
    split
    · exact no b1 b2 (by show ¬ ((0 : Int) = 3 ∨ (0 : Int) = 37); decide)
    · exact no b1 b2 (by show ¬ ((36 : Int) = 3 ∨ (36 : Int) = 37); decide)
  · intro c; unfold zjQ; dsimp only
    split
    · exact no b1 b2 (by have := ziu s (wc (x.Slot + 1)); show ¬ (onM s (wc (x.Slot + 1)) = 3 ∨ onM s (wc (x.Slot + 1)) = 37); omega)
    · exact ⟨b1, b2, fun _ => zud h0 hv _ _⟩
  · intro c; unfold zi6; dsimp only
    split
    · exact no b1 b2 (by have := ziu s x.Slot; show ¬ (onM s x.Slot = 3 ∨ onM s x.Slot = 37); omega)
    · exact ⟨b1, b2, fun _ => by show (zD s x.G).2.Obj ≤ n; rw [(zfw s x.G).1]; exact b3 (.inr c)⟩
  · intro c; unfold zks; exact no b1 b2 (by show ¬ ((39 : Int) = 3 ∨ (39 : Int) = 37); decide)
  · intro c; unfold zmi; exact no b1 b2 (by show ¬ ((35 : Int) = 3 ∨ (35 : Int) = 37); decide)
  · exact ⟨b1, b2, b3⟩
theorem zoP : ∀ (l : List Int) (i : Nat) (v : Int), i < l.length → (l.set i v).sum = l.sum - l.getD i 0 + v
  | [], i, v, h => by simp at h
  | a :: l, 0, v, h => by simp only [List.set_cons_zero, List.sum_cons, List.getD_cons_zero]; omega
  | a :: l, i + 1, v, h => by
    simp only [List.set_cons_succ, List.sum_cons, List.getD_cons_succ, zoP l i v (by simpa using h)]; omega
structure LdI (p : zd) (k d : Int) (l : zh) : Prop where
  pool : l.Pool = 0
  sc : 0 ≤ l.Scanned ∧ l.Scanned ≤ k
  sp : l.Spent = p.Price * d
  bal : ∀ b ∈ l.Bal, -p.Limit ≤ b ∧ b ≤ k
  sum : l.Bal.sum = l.Scanned - l.Spent
theorem LdI.more {p : zd} {k d : Int} {l : zh} (I : LdI p k d l) : LdI p (k + 1) d l :=
  ⟨I.pool, by have := I.sc; omega, I.sp, fun b hb => by have := I.bal b hb; omega, I.sum⟩
theorem zu8 {l : List Int} {i : Nat} (h : i < l.length) : l.getD i 0 ∈ l := by
  rw [List.getD_eq_getElem?_getD, List.getElem?_eq_getElem h]; exact List.getElem_mem h
theorem LdI.take {p : zd} {k d : Int} {l : zh} (I : LdI p k d l) (m w : Int) : (UZ l m w).1 = l := by
  unfold UZ zhQ
  rw [if_neg]
  rintro ⟨_, h⟩
  rw [I.pool] at h
  split at h <;> omega
theorem LdI.earn {p : zd} (hp : zO p) {k d : Int} (hk : 0 ≤ k ∧ k ≤ 1000) {l : zh} (I : LdI p k d l) {m : Int} (hm : 1 ≤ m ∧ m ≤ (l.Bal.length : Int)) : LdI p (k + 1) d (U4 l m) := by
  have hsc := I.sc
  have hl := hp.limit
  have hb := I.bal _ (zu8 (l := l.Bal) (i := (m - 1).toNat) (by omega))
  unfold U4
  rw [if_pos hm]
  have w1 : wc (l.Scanned + 1) = l.Scanned + 1 := vV (by omega) (by omega)
  have w2 : wc (l.Bal.getD (m - 1).toNat 0 + 1) = l.Bal.getD (m - 1).toNat 0 + 1 := vV (by omega) (by omega)
  rw [w1, w2]
  refine ⟨I.pool, by dsimp only; omega, I.sp, fun b hb' => ?_, ?_⟩
  · rcases List.mem_or_eq_of_mem_set hb' with h | rfl
    · have := I.bal b h; omega
    · omega
  · dsimp only
    rw [zoP _ _ _ (by omega), I.sum]; omega
theorem zuL {a d : Int} (h : 0 ≤ a ∧ a ≤ 3) : a * (d + 1) = a * d + a := by rw [Int.mul_add, Int.mul_one]
theorem zmJ {a d : Int} (h : 0 ≤ a ∧ a ≤ 3) (hd : 0 ≤ d ∧ d ≤ 10) : 0 ≤ a * d ∧ a * d ≤ 30 := by
  refine ⟨Int.mul_nonneg h.1 hd.1, ?_⟩
  have := Int.mul_le_mul h.2 hd.2 hd.1 (by decide : (0 : Int) ≤ 3)
  omega
theorem LdI.spend {p : zd} (hp : zO p) {k d : Int} (hk : 0 ≤ k ∧ k ≤ 1000) (hd : 0 ≤ d ∧ d ≤ 9) {l : zh} (I : LdI p k d l) {m : Int} (h : zcv l m p.Price p.Limit = true) : LdI p (k + 1) (d + 1) (UC l m p.Price) := by
  have hsc := I.sc
  have hl := hp.limit
  have hpr := hp.price
  have hsp := zmJ hpr (d := d) (by omega)
  have e1 := I.sp
  unfold zcv Va WW at h
  simp only [Bool.and_eq_true, decide_eq_true_eq] at h
  obtain ⟨⟨⟨⟨⟨⟨m1, m2⟩, _⟩, _⟩, _⟩, _⟩, h⟩ := h
  have hb := I.bal _ (zu8 (l := l.Bal) (i := (m - 1).toNat) (by omega))
  unfold V9 at h
  rw [vV (by omega) (by omega), vV (by omega) (by omega)] at h
  unfold UC V9
  rw [vV (by omega) (by omega), vV (by omega) (by omega)]
  refine ⟨I.pool, by dsimp only; omega, ?_, fun b hb' => ?_, ?_⟩
  · dsimp only; rw [zuL hpr]; omega
  · rcases List.mem_or_eq_of_mem_set hb' with h2 | rfl
    · have := I.bal b h2; omega
    · omega
  · dsimp only
    rw [zoP _ _ _ (by omega), I.sum]; omega
structure NwI (p : zd) (k : Int) (s : zb) : Prop where
  mrk : ∀ o, yM s.T.Marks o = true → o ≤ (s.H.Objs.length : Int)
  bm : ∀ o, yM s.T.Black o = true → yM s.T.Marks o = true
  bk : ∀ o, (p.H.Objs.length : Int) < o → o ≤ (s.H.Objs.length : Int) → Wp s.T o = 2
  buf : ∀ x ∈ s.Ms, zg5 (s.H.Objs.length : Int) x
  bl : s.L.Bal.length = s.Ms.length
  L : LdI p k ((s.H.Objs.length : Int) - (p.H.Objs.length : Int)) s.L
theorem zv0 (l : zh) (m : Int) : (U4 l m).Bal.length = l.Bal.length := by unfold U4; split <;> simp
theorem NwI.step {p : zd} {nb : Nat} (hp : zO p) {k : Int} (hk : 0 ≤ k ∧ k ≤ 1000) {s : zb} (E : EOk p nb s) (I : NwI p k s) (m : Int) : NwI p (k + 1) (z3 s m) := by
  have hN := E.H.n
  have hM := hp.most
  have hn6 := hp.n
  unfold z3
  split
  · exact ⟨I.mrk, I.bm, I.bk, I.buf, I.bl, I.L.more⟩
  rename_i hne
  cases hx : s.Ms[(m - 1).toNat]? with
  | none => exact ⟨I.mrk, I.bm, I.bk, I.buf, I.bl, I.L.more⟩
  | some x =>
    have hm : 1 ≤ m ∧ m ≤ (s.Ms.length : Int) := by omega
    have X := E.X _ x hx
    have B := I.buf x (List.mem_of_getElem? hx)
    have em : (((m - 1).toNat : Nat) : Int) + 1 = m := by omega
    rw [em] at X
    have B' := zuM (s := s) X (n := (s.H.Objs.length : Int)) (by omega) (fun l hl v hv => ((E.H.objs l hl).2 v hv).2) B
    have bufs : ∀ N' : Int, (s.H.Objs.length : Int) ≤ N' → ∀ y ∈ s.Ms.set (m - 1).toNat (zH s m x).2, zg5 N' y := fun N' hN' y hy => by
      have up : ∀ {z : zc}, zg5 (s.H.Objs.length : Int) z → zg5 N' z := fun ⟨a, b, c⟩ => ⟨fun v hv => by have := a v hv; omega, by omega, fun e => by have := c e; omega⟩
      rcases List.mem_or_eq_of_mem_set hy with h | rfl
      · exact up (I.buf y h)
      · exact up B'
    have hL := I.L
    rcases zv8 s m x with ⟨k1, k2, k3⟩ | ⟨k1, k2, k3, k4, k5⟩
    · refine ⟨fun o ho => ?_, fun o ho => ?_, fun o h1 h2 => ?_, ?_, ?_, ?_⟩
      · dsimp only at ho ⊢
        rw [k1]
        rcases k2 with e | ⟨e, hpc⟩ | e
        · rw [e] at ho; exact I.mrk o ho
        · rw [e] at ho
          rcases (zdq s.T x.G.Obj).2 with e2 | e2
          · rw [e2] at ho; exact I.mrk o ho
          · rw [e2] at ho
            rcases zmY ho with h | rfl
            · exact I.mrk o h
            · exact B.2.2 hpc
        · rw [e, (zit s.T x.Obj).1] at ho; exact I.mrk o ho
      · dsimp only at ho ⊢
        rcases k2 with e | ⟨e, hpc⟩ | e
        · rw [e] at ho ⊢; exact I.bm o ho
        · rw [e] at ho ⊢
          rw [(zdq s.T x.G.Obj).1] at ho
          have := I.bm o ho
          rcases (zdq s.T x.G.Obj).2 with e2 | e2
          · rw [e2]; exact this
          · rw [e2]; exact (VQ _ _ _).2 (.inl this)
        · rw [e] at ho ⊢
          rw [(zit s.T x.Obj).1]
          rcases (zit s.T x.Obj).2 with e2 | ⟨e2, h3⟩
          · rw [e2] at ho; exact I.bm o ho
          · rw [e2] at ho
            rcases zmY ho with h | rfl
            · exact I.bm o h
            · exact h3
      · dsimp only at h2 ⊢
        rw [k1] at h2
        have h := (zqB _ _).1 (I.bk o h1 h2)
        rw [zqB]
        rcases k2 with e | ⟨e, hpc⟩ | e
        · rw [e]; exact h
        · rw [e, (zdq s.T x.G.Obj).1]
          refine ⟨?_, h.2⟩
          rcases (zdq s.T x.G.Obj).2 with e2 | e2
          · rw [e2]; exact h.1
          · rw [e2]; exact (VQ _ _ _).2 (.inl h.1)
        · rw [e, (zit s.T x.Obj).1]
          refine ⟨h.1, ?_⟩
          rcases (zit s.T x.Obj).2 with e2 | ⟨e2, _⟩
          · rw [e2]; exact h.2
          · rw [e2]; exact (VQ _ _ _).2 (.inl h.2)
      · dsimp only; rw [k1]; exact bufs _ (Int.le_refl _)
      · dsimp only
        rw [List.length_set]
        rcases k3 with e | ⟨w, e⟩ | e
        · rw [e]; exact I.bl
        · rw [e, hL.take]; exact I.bl
        · rw [e, zv0]; exact I.bl
      · dsimp only
        rw [k1]
        rcases k3 with e | ⟨w, e⟩ | e
        · rw [e]; exact hL.more
        · rw [e, hL.take]; exact hL.more
        · rw [e]; exact hL.earn hp hk (by have := I.bl; omega)
    · have w : wc ((s.H.Objs.length : Int) + 1) = (s.H.Objs.length : Int) + 1 := vV (by omega) (by omega)
      have hal := zuu s.H
      have hP := E.S.P
      have hr : (s.H.Objs.length : Int) < s.P.Most := by
        unfold U0 at k5
        simp only [Bool.and_eq_true, decide_eq_true_eq] at k5
        exact k5.1
      rw [hP] at hr k3 k4
      rw [w] at k2
      have nm : ¬ yM s.T.Marks ((s.H.Objs.length : Int) + 1) = true := fun e => by have := I.mrk _ e; omega
      have nb' : ¬ yM s.T.Black ((s.H.Objs.length : Int) + 1) = true := fun e => nm (I.bm _ e)
      have hsh := zuw (t := s.T) (o := (s.H.Objs.length : Int) + 1) (by omega) nm nb'
      have ht1 : Wp { s.T with Marks := s.T.Marks ||| bit ((s.H.Objs.length : Int) + 1) } ((s.H.Objs.length : Int) + 1) = 1 :=
        (zwj _ _).2 ⟨(V3 _ (by omega) _).2 (.inr rfl), nb'⟩
      have hT : (zH s m x).1.T = ⟨s.T.Marks ||| bit ((s.H.Objs.length : Int) + 1), s.T.Black ||| bit ((s.H.Objs.length : Int) + 1)⟩ := by
        rw [k2]
        unfold zgs
        rw [hsh]
        dsimp only
        rw [if_pos rfl]
        unfold U9
        rw [if_pos ht1]
      refine ⟨fun o ho => ?_, fun o ho => ?_, fun o h1 h2 => ?_, ?_, ?_, ?_⟩
      · dsimp only at ho ⊢
        rw [k1, hal]
        rw [hT] at ho
        rcases zmY ho with h | rfl
        · have := I.mrk o h; omega
        · omega
      · dsimp only at ho ⊢
        rw [hT] at ho ⊢
        dsimp only at ho ⊢
        rw [VQ]
        rcases (VQ _ _ _).1 ho with h | h
        · exact .inl (I.bm o h)
        · exact .inr h
      · dsimp only at h2 ⊢
        rw [k1, hal] at h2
        rw [zqB, hT]
        dsimp only
        by_cases ho : o ≤ (s.H.Objs.length : Int)
        · have h := (zqB _ _).1 (I.bk o h1 ho)
          exact ⟨(VQ _ _ _).2 (.inl h.1), (VQ _ _ _).2 (.inl h.2)⟩
        · have : o = (s.H.Objs.length : Int) + 1 := by omega
          subst this
          exact ⟨(V3 _ (by omega) _).2 (.inr rfl), (V3 _ (by omega) _).2 (.inr rfl)⟩
      · dsimp only; rw [k1, hal]; exact bufs _ (by omega)
      · dsimp only
        rw [List.length_set, k3]
        unfold UC
        rw [List.length_set]
        exact I.bl
      · dsimp only
        rw [k3, k1, hal]
        have := hL.spend hp hk (by omega) k4
        have e : ((s.H.Objs.length + 1 : Nat) : Int) - (p.H.Objs.length : Int) = (s.H.Objs.length : Int) - (p.H.Objs.length : Int) + 1 := by omega
        rw [e]
        exact this
end
end Go.Pe.G
namespace Go.Pe.G
open Go.Pe
noncomputable section
namespace B16
def VV (n : Nat) (s : zb) : zb := goF (fun _ s => z3 s 1) 0 n s
theorem zaj {p : zd} {nb : Nat} (h : zO p) {s : zb} (E : EOk p nb s) {n : Nat} (hn : n < 1000000) : yj s 1 (n : Int) = some (VV n s, ()) := by
  have e := zpn (f := uf) (fun i s => (1, (n : Int), i, s, 0, 0, 0, 0, 0, 0, 0, 0, 0, 0#64, 0, zp.mk 0#64 0#64, 0, 0, false, false, 0, 0, 0, 0, zq.mk 0 0, ([] : List (List Int)), ([] : List (List Int)), ([] : List (List zg)), ([] : List zj), ([] : List (List Int)), ([] : List (BitVec 64)), ([] : List (List Int)), ([] : List Int), ([] : List Int), ([] : List zk), ([] : List zc), ())) (fun s => (s, 0, 0, 0, 0, 0, 0, 0, 0, 0, 0#64, 0, zp.mk 0#64 0#64, 0, 0, false, false, 0, 0, 0, 0, zq.mk 0 0, ([] : List (List Int)), ([] : List (List Int)), ([] : List (List zg)), ([] : List zj), ([] : List (List Int)), ([] : List (BitVec 64)), ([] : List (List Int)), ([] : List Int), ([] : List Int), ([] : List zk), ([] : List zc), ())) n hn (fun _ s => z3 s 1) (EOk p nb) (fun _ s E => zhe h E 1)
    (fun i s hi E => by
      show uf (1, (n : Int), (i : Int), s, 0, 0, 0, 0, 0, 0, 0, 0, 0, 0#64, 0, zp.mk 0#64 0#64, 0, 0, false, false, 0, 0, 0, 0, zq.mk 0 0, ([] : List (List Int)), ([] : List (List Int)), ([] : List (List zg)), ([] : List zj), ([] : List (List Int)), ([] : List (BitVec 64)), ([] : List (List Int)), ([] : List Int), ([] : List Int), ([] : List zk), ([] : List zc), ()) = _
      rw [VL, zm, if_pos (by omega), zfU h E, Option.bind_some, yV (by omega)])
    (fun s E => by
      show uf (1, (n : Int), (n : Int), s, 0, 0, 0, 0, 0, 0, 0, 0, 0, 0#64, 0, zp.mk 0#64 0#64, 0, 0, false, false, 0, 0, 0, 0, zq.mk 0 0, ([] : List (List Int)), ([] : List (List Int)), ([] : List (List zg)), ([] : List zj), ([] : List (List Int)), ([] : List (BitVec 64)), ([] : List (List Int)), ([] : List Int), ([] : List Int), ([] : List zk), ([] : List zc), ()) = _
      rw [VL, zm, if_neg (by omega)]) E
  rw [zim]
  exact congrArg (fun o => Option.bind o _) e
theorem zxw {p : zd} {nb : Nat} (h : zO p) {s : zb} (E : EOk p nb s) (n : Nat) : EOk p nb (VV n s) := zpG (Inv := EOk p nb) (g := fun _ s => z3 s 1) (fun _ s E => zhe h E 1) n 0 s E
def zja (l : List zg) : zd := ⟨1, 1, 2, 1, 1, 4, 2, 2, ⟨1, [[2], [0], [0]]⟩, 1#64, [[1, 0]], [l], []⟩
theorem zri (l : List zg) : Xe [l] = some (zja l, ()) := by
  rw [zig, zrO (by rw [VU, zm, if_pos (by simp), wu (by simp), Option.bind_some, vQ (by decide)]; simp only [Int.toNat_zero, List.getElem?_cons_zero, Option.bind_some]; rw [wu (by simp), Option.bind_some, z9 (by decide) (by decide)]) (by rw [VU, zm, if_neg (by simp)])]; rfl
theorem zpJ {l : List zg} (hl : (l.length : Int) ≤ 7) (ho : ∀ o ∈ l, za1 o 2 1) : zO (zja l) := by
  constructor
  case objs => intro o ho; simp [zja] at ho ⊢; rcases ho with rfl | rfl | rfl <;> simp
  case roots => exact ⟨1, by decide, by simp [zja], by show (1#64 : BitVec 64) = bit 1; decide⟩
  case reg => intro r hr; simp [zja] at hr ⊢; subst hr; simp
  case prog =>
    intro k r ops hr hp
    cases k with
    | zero => injection hr with hr; injection hp with hp; subst hr; subst hp; exact ⟨hl, ho⟩
    | succ k => cases hp
  all_goals first | rfl | (simp [zja]; done) | (simp [zja]; omega)
abbrev pA : zd := zja [⟨1, 1, 0, 0⟩, ⟨5, 1, 0, 0⟩, ⟨2, 1, 0, 0⟩]
abbrev pB : zd := zja [⟨3, 1, 0, 0⟩, ⟨3, 1, 0, 0⟩]
theorem zay : zO pA := zpJ (by decide) (fun o ho => by simp at ho; rcases ho with rfl | rfl | rfl <;> (unfold za1; decide))
theorem ziR : zO pB := zpJ (by decide) (fun o ho => by simp at ho; subst ho; unfold za1; decide)
theorem zur {s : zb} (x : zc) (hx : s.Ms = [x]) (hp : x.PC = 0) (ha : ¬ s.Acks.getD 0 0 < s.Epoch) (hi : ((x6 s.P 1).length : Int) ≤ x.IP) : z3 s 1 = s := by
  unfold z3
  rw [hx]
  split
  · rfl
  show { (zH s 1 x).1 with Ms := [(zH s 1 x).2] } = s
  have e : zH s 1 x = (s, x) := by
    unfold zH
    rw [if_pos hp]
    unfold mu0 zaX
    rw [if_neg (show ¬ s.Acks.getD (1 - 1 : Int).toNat 0 < s.Epoch from ha), if_pos hi]
  rw [e, ← hx]
theorem zxc {l : List zc} (h : l.length = 1) : ∃ x, l = [x] := List.length_eq_one_iff.1 h
theorem zqk : Wq = some (true, ()) := by
  have E0 := zrV zay
  have E1 := zrV ziR
  have a2 : yj (vm pA) 1 2 = some (VV 2 (vm pA), ()) := zaj zay E0 (n := 2) (by decide)
  have a7 : yj (vm pA) 1 7 = some (VV 7 (vm pA), ()) := zaj zay E0 (n := 7) (by decide)
  have a8 : yj (vm pA) 1 8 = some (VV 8 (vm pA), ()) := zaj zay E0 (n := 8) (by decide)
  have a99 : yj (vm pA) 1 99 = some (VV 99 (vm pA), ()) := zaj zay E0 (n := 99) (by decide)
  have b2 : yj (vm pB) 1 2 = some (VV 2 (vm pB), ()) := zaj ziR E1 (n := 2) (by decide)
  have b5 : yj (vm pB) 1 5 = some (VV 5 (vm pB), ()) := zaj ziR E1 (n := 5) (by decide)
  have b60 : yj (vm pB) 1 60 = some (VV 60 (vm pB), ()) := zaj ziR E1 (n := 60) (by decide)
  have h99 : z3 (VV 99 (vm pA)) 1 = VV 99 (vm pA) := by
    obtain ⟨x, hx⟩ := zxc (l := (VV 99 (vm pA)).Ms) (by decide +kernel)
    have g : (VV 99 (vm pA)).Ms.all (fun x => decide (x.PC = 0) && decide (((x6 (VV 99 (vm pA)).P 1).length : Int) ≤ x.IP)) = true := by decide +kernel
    rw [hx] at g
    simp only [List.all_cons, List.all_nil, Bool.and_true, Bool.and_eq_true, decide_eq_true_eq] at g
    exact zur x hx g.1 (by decide +kernel) g.2
  have E99 := zxw zay E0 99
  have s99 := zfU zay E99 1
  have t7 := zkR (h := (VV 7 (vm pA)).H) (by decide +kernel)
  have t8 := zkR (h := (VV 8 (vm pA)).H) (by decide +kernel)
  have u2 := zkR (h := (VV 2 (vm pB)).H) (by decide +kernel)
  rw [zfs, zri]
  simp only [Option.bind_some, zri, zki zay, zki ziR, a2, a7, a8, a99, b2, b5, b60, t7, t8, u2, s99, h99, ztO E99.small, zkc, xu]
  decide +kernel
def kOf (s : zb) (b : BitVec 8) : Int := 1 + (b.toNat : Int).tmod (s.Ms.length : Int)
theorem zxf {s : zb} (h : s.Ms.length ≠ 0) (b : BitVec 8) : 1 ≤ kOf s b ∧ kOf s b ≤ (s.Ms.length : Int) := by
  have := wM (b := (b.toNat : Int)) (k := (s.Ms.length : Int)) (by omega) (by omega)
  unfold kOf
  omega
theorem zwl {p : zd} {nb : Nat} {s : zb} (h : zO p) (E : EOk p nb s) (hm : s.Ms.length ≠ 0) (b : BitVec 8) : Uq s b = some (z3 s (kOf s b), kOf s b, ()) := by
  have hk := zxf hm b
  have hml := E.ml
  have hmt := h.mt
  have e : w64 (1 + (b.toNat : Int).tmod (s.Ms.length : Int)) = kOf s b := by
    unfold kOf at hk ⊢
    exact z9 (by omega) (by omega)
  rw [zjP, zm, if_neg (by omega), e, zfU h E, Option.bind_some]
theorem zyj (s : zb) (m : Int) : (z3 s m).Ms.length = s.Ms.length := by
  unfold z3
  split
  · rfl
  split
  · simp
  · rfl
theorem zyg {s : zb} (h : s.Ms.length = 0) (m : Int) : z3 s m = s := by
  unfold z3
  rw [if_pos]
  rw [h]
  by_cases c : m < 1
  · exact .inr (.inl c)
  · exact .inr (.inr (by omega))
theorem zxe {p : zd} (h : zO p) : NwI p 0 (vm p) := by
  have hn := h.n
  have hr := h.regs
  have hm := h.mt
  have hl := h.limit
  refine ⟨fun o ho => ?_, fun o ho => absurd ho (VT o), fun o h1 h2 => ?_, fun x hx => ?_, ?_, ?_⟩
  · have ho : yM (Y6 p) o = true := ho
    show o ≤ (p.H.Objs.length : Int)
    refine Int.not_lt.1 fun hlt => ?_
    obtain ⟨a, b, _⟩ := (vA _ _).1 ho
    have b2 : ¬ yM (X7 (p.H.Objs.length : Int)) o = true := fun e => by
      have := (ztu (n := p.H.Objs.length) (by omega) o).1 e
      omega
    have b3 := (zfH _ _ o).2 ⟨ho, (zv6 _ (by omega)).2 b2⟩
    rw [zhD h] at b3
    exact VT o b3
  · have : o ≤ (p.H.Objs.length : Int) := h2
    omega
  · have hx : x ∈ p.Regs.map wB := hx
    obtain ⟨r, hr, rfl⟩ := List.mem_map.1 hx
    exact ⟨fun v hv => (by cases hv), (by show (0 : Int) ≤ (p.H.Objs.length : Int); omega), fun e => absurd e (by show ¬ ((0 : Int) = 3 ∨ (0 : Int) = 37); decide)⟩
  · show (List.replicate p.Mutators.toNat (0 : Int)).length = (p.Regs.map wB).length
    simp; omega
  · refine ⟨rfl, ⟨Int.le_refl _, Int.le_refl _⟩, ?_, fun b hb => ?_, ?_⟩
    · show (0 : Int) = p.Price * ((p.H.Objs.length : Int) - (p.H.Objs.length : Int))
      rw [Int.sub_self, Int.mul_zero]
    · rw [List.eq_of_mem_replicate hb]; omega
    · show (List.replicate p.Mutators.toNat (0 : Int)).sum = 0 - 0
      have z : ∀ n : Nat, (List.replicate n (0 : Int)).sum = 0 := fun n => by
        induction n with
        | zero => rfl
        | succ n ih => rw [List.replicate_succ, List.sum_cons, ih]; rfl
      rw [z]; rfl
theorem zuf : ∀ (l : List Int), (∀ b ∈ l, -3 ≤ b ∧ b ≤ 1000) → -3 * (l.length : Int) ≤ l.sum ∧ l.sum ≤ 1000 * (l.length : Int)
  | [], _ => by simp
  | a :: l, h => by
    have := zuf l (fun b hb => h b (List.mem_cons_of_mem _ hb))
    have := h a (List.mem_cons_self ..)
    simp only [List.sum_cons, List.length_cons]
    omega
theorem zrj {p : zd} (hp : zO p) {k d : Int} (hk : 0 ≤ k ∧ k ≤ 1000) (hd : 0 ≤ d ∧ d ≤ 9) {l : zh} (I : LdI p k d l) (hl : l.Bal.length ≤ 16) : zcq l = some (true, ()) := by
  have hsc := I.sc
  have hsp := zmJ hp.price (d := d) (by omega)
  rw [← I.sp] at hsp
  have hpo := I.pool
  have hli := hp.limit
  have hb : ∀ b ∈ l.Bal, -3 ≤ b ∧ b ≤ 1000 := fun b hb => by have := I.bal b hb; omega
  rw [zlI, hpo]
  simp only [zm]
  rw [if_neg (by omega), if_neg (by repeat' split
                                    all_goals omega), if_neg (by repeat' split
                                                                 all_goals omega)]
  obtain ⟨o, e, rfl⟩ := vZ (f := Un) (fun a => ∃ i : Nat, i ≤ l.Bal.length ∧ a = (l.Spent + (l.Bal.take i).sum, l.Bal, (l.Bal.length : Int), (i : Int), l, ())) (fun a => l.Bal.length - Int.toNat a.2.2.2.1)
    (fun o => o = .brk (l.Scanned, l, ())) (by
    rintro _ ⟨i, hi, rfl⟩
    rw [zjl, zm]
    by_cases c1 : (i : Int) < (l.Bal.length : Int)
    · have hx := List.getElem?_eq_getElem (show i < l.Bal.length by omega)
      have h1 := hb _ (List.getElem_mem (show i < l.Bal.length by omega))
      have h2 := zuf (l.Bal.take i) (fun b hb' => hb b (List.mem_of_mem_take hb'))
      have h3 : (l.Bal.take i).length ≤ 16 := by rw [List.length_take]; omega
      have hs : (l.Bal.take (i + 1)).sum = (l.Bal.take i).sum + l.Bal[i] := by rw [List.take_add_one, hx, List.sum_append]; simp
      rw [if_pos c1, xR hx, Option.bind_some, zm, if_neg (by omega), zm, if_neg (by omega), yV (by omega), z9 (by omega) (by omega)]
      refine ⟨_, rfl, ⟨i + 1, by omega, by rw [hs, ← Int.add_assoc]⟩, ?_⟩
      show l.Bal.length - ((i + 1 : Nat) : Int).toNat < l.Bal.length - (i : Int).toNat
      omega
    · rw [if_neg c1]
      refine ⟨_, rfl, ?_⟩
      have : i = l.Bal.length := by omega
      subst this
      have hs := I.sum
      rw [List.take_length]
      show (yN.brk (l.Spent + l.Bal.sum, l, ()) : yN Unit _ _) = _
      rw [show l.Spent + l.Bal.sum = l.Scanned by omega]) (w64 (l.Spent + 0), l.Bal, (l.Bal.length : Int), 0, l, ()) ⟨0, by omega, by rw [z9 (by omega) (by omega)]; simp⟩ (by show l.Bal.length - 0 < 18446744073709551616; omega)
  refine (congrArg (fun o => Option.bind o _) e).trans ?_
  simp
theorem zuZ {p : zd} {s : zb} {k : Int} (I : NwI p k s) (hn : (p.H.Objs.length : Int) ≤ (s.H.Objs.length : Int)) (hN : s.H.Objs.length < 1000) (ord : List (BitVec 8)) (i : Int) :
    yp xH (ord, true, i, (p.H.Objs.length : Int) + 1, p, s, ()) = some (.brk (ord, true, i, p, s, ())) := by
  have e := zpn (f := xH) (fun j (_ : Unit) => (ord, true, i, (p.H.Objs.length : Int) + 1 + j, p, s, ())) (fun _ => (ord, true, i, p, s, ())) (s.H.Objs.length - p.H.Objs.length) (by omega) (fun _ _ => ()) (fun _ => True) (fun _ _ _ => trivial) ?_ ?_ (s := ()) trivial
  · rw [show (p.H.Objs.length : Int) + 1 + 0 = (p.H.Objs.length : Int) + 1 by omega] at e
    exact e
  · intro j _ hj _
    show xH (ord, true, i, (p.H.Objs.length : Int) + 1 + (j : Int), p, s, ()) = _
    rw [Xd, zm, if_pos (by omega), zpf, Option.bind_some, I.bk _ (by omega) (by omega), z9 (by omega) (by omega)]
    rw [show (p.H.Objs.length : Int) + 1 + (j : Int) + 1 = (p.H.Objs.length : Int) + 1 + ((j + 1 : Nat) : Int) by omega]
    rfl
  · intro _ _
    show xH (ord, true, i, (p.H.Objs.length : Int) + 1 + ((s.H.Objs.length - p.H.Objs.length : Nat) : Int), p, s, ()) = _
    rw [Xd, zm, if_neg (by omega)]
theorem zwH {p : zd} (hp : zO p) {s : zb} {k : Int} (I : NwI p k s) (hl : s.L.Bal.length ≤ 16) (ord : List (BitVec 8)) (i : Int) :
    yp xG (ord, true, i, 0, p, s, ()) = some (.brk (ord, true, i, p, s, ())) := by
  have hli := hp.limit
  refine zpn (f := xG) (fun j (_ : Unit) => (ord, true, i, j, p, s, ())) (fun _ => (ord, true, i, p, s, ())) s.L.Bal.length (by omega) (fun _ _ => ()) (fun _ => True) (fun _ _ _ => trivial) ?_ ?_ (s := ()) trivial
  · intro j _ hj _
    have hx := List.getElem?_eq_getElem hj
    have hb := I.L.bal _ (List.getElem_mem hj)
    show xG (ord, true, i, (j : Int), p, s, ()) = _
    rw [Xr, zm, if_pos (by omega), xR hx, Option.bind_some, z9 (a := 0 - p.Limit) (by omega) (by omega), zm, if_neg (by omega), yV (by omega)]
  · intro _ _
    show xG (ord, true, i, (s.L.Bal.length : Int), p, s, ()) = _
    rw [Xr, zm, if_neg (by omega)]
theorem mutatorNew_plain (l ord : List (BitVec 8)) : vw l ord = some (true, ()) := by
  obtain ⟨p, ep, h⟩ := zwu l
  have E0 := zrV h
  rw [zeg, zqk]
  simp only [Option.bind_some, Bool.not_true, cond_false, ep, zki h]
  obtain ⟨o, e, rfl⟩ := vZ (f := ZG) (fun a => ∃ (i : Nat) (s : zb), i ≤ 250 ∧ a = (ord, true, (i : Int), p, s, ()) ∧ EOk p (xL p + 1) s ∧ NwI p (i : Int) s) (fun a => 250 - (Int.toNat a.2.2.1))
    (fun o => o = .brk (true, ())) (by
    rintro _ ⟨i, s, hi, rfl, E, I⟩
    rw [zbz, zm, zm, zm]
    by_cases c1 : (i : Int) < (ord.length : Int)
    · rw [if_pos c1]
      by_cases c2 : (i : Int) < 250
      · rw [if_pos c2]
        by_cases c3 : (0 : Int) < (s.Ms.length : Int)
        · have hx := List.getElem?_eq_getElem (show i < ord.length by omega)
          rw [if_pos c3, xR hx, Option.bind_some, zwl h E (by omega), Option.bind_some]
          generalize kOf s (ord[i]'(by omega)) = k
          have E' := zhe h E k
          have I' := I.step h (by omega) E k
          generalize z3 s k = t at E' I'
          have hN := E'.H.n
          have hM := h.most
          have hn := h.n
          have hsl := h.slots
          have hml := E'.ml
          have hmt := h.mt
          have hbl := I'.bl
          have hss := E'.H.slots
          have hsp := zmJ h.price (d := (t.H.Objs.length : Int) - (p.H.Objs.length : Int)) (by omega)
          dsimp only
          rw [zdJ (by omega) (by omega) E'.H.objs, Option.bind_some]
          dsimp only
          rw [Bool.not_true, cond_false, zm, if_neg (by omega), zrj h (by omega) (by omega) I'.L (by omega), Option.bind_some]
          dsimp only
          rw [Bool.not_true, cond_false, z9 (a := (t.H.Objs.length : Int) - (p.H.Objs.length : Int)) (by omega) (by omega), z9 (a := p.Price * ((t.H.Objs.length : Int) - (p.H.Objs.length : Int))) (by omega) (by omega), yg, if_pos I'.L.sp,
            z9 (a := (p.H.Objs.length : Int) + 1) (by omega) (by omega), zuZ I' hN.1 (by omega), Option.bind_some]
          dsimp only
          rw [zwH h I' (by omega), Option.bind_some]
          dsimp only
          rw [z9 (a := (i : Int) + 1) (by omega) (by omega)]
          refine ⟨_, rfl, ⟨i + 1, t, by omega, rfl, E', I'⟩, ?_⟩
          show 250 - ((i : Int) + 1).toNat < 250 - (i : Int).toNat
          omega
        · rw [if_neg c3]; exact ⟨_, rfl, rfl⟩
      · rw [if_neg c2]; exact ⟨_, rfl, rfl⟩
    · rw [if_neg c1]; exact ⟨_, rfl, rfl⟩) (ord, true, 0, p, vm p, ()) ⟨0, vm p, by omega, rfl, E0, zxe h⟩ (by show 250 - 0 < 18446744073709551616; decide)
  refine (congrArg (fun o => Option.bind o _) e).trans rfl
end B16
end
end Go.Pe.G
