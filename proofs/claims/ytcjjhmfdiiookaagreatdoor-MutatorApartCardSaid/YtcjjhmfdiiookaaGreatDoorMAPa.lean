/- Own work of this seat: PA, PB, PMk, PMade16, PRight, PNew, PInv, PNewOk, PSmall, PSame, PGo, PDq, PWork, PMut, PEng, PLowEq, PMutEq, PFrame, PText, PCopy, PLaw16. -/
import Derived.Test.YtcjjhmfdiiookaaGreatDoorMAGb
set_option linter.unusedVariables false
set_option linter.unusedSimpArgs false
set_option linter.unnecessarySimpa false
set_option linter.unusedSectionVars false
set_option linter.deprecated false
set_option maxRecDepth 20000
namespace Go.Pe.G
open Go.Pe
noncomputable section
theorem uf {A B D : Type} {f : A → Option (yW A B D)} (Inv : A → Prop) (ms : A → Nat) (Q : yW Unit B D → Prop)
    (h : ∀ a, Inv a → ∃ o, f a = some o ∧ match o with
      | .again a' => Inv a' ∧ ms a' < ms a
      | .brk b => Q (.brk b)
      | .ret c => Q (.ret c)) : ∀ a, Inv a → ms a < YC → ∃ o, ym f a = some o ∧ Q o := by
  have key : ∀ (n : Nat) a, Inv a → ms a < n → ∃ o, uE f n a = some o ∧ Q o := by
    intro n
    induction n with
    | zero => intro a _ h; omega
    | succ n ih =>
      intro a ha hm
      obtain ⟨o, ho, hq⟩ := h a ha
      simp only [uE, ho, Option.bind_some]
      cases o with
      | again a' => exact ih a' hq.1 (by have := hq.2; omega)
      | brk b => exact ⟨_, rfl, hq⟩
      | ret c => exact ⟨_, rfl, hq⟩
  intro a ha hm
  rw [VQ]
  exact key YC a ha hm
theorem wo {n : Nat} (h : n < 18446744073709551616) : n < YC := h
theorem yp {a : Int} (h : -9223372036854775808 ≤ a) (h2 : a < 9223372036854775808) : w64 a = a := by
  rw [zij]; omega
def wc (n : Int) : Int := (n + 9223372036854775808) % 18446744073709551616 - 9223372036854775808
theorem xx : w64 = wc := funext zij
theorem Y2 {a : Int} (h : -9223372036854775808 ≤ a) (h2 : a < 9223372036854775808) : wc a = a := by unfold wc; omega
theorem zxo (a : Int) (h : -9223372036854775808 ≤ a) (h2 : a < 9223372036854775808) : w64 (w64 (a + 1) - 1) = a := by
  simp only [zij]; omega
theorem zn {α : Type} (p : Prop) [Decidable p] (a b : α) : (bif decide p then a else b) = if p then a else b := by
  by_cases h : p <;> simp [h]
theorem yg {α : Type} (p : Prop) [Decidable p] (a b : α) : (bif !(decide p) then a else b) = if p then b else a := by
  by_cases h : p <;> simp [h]
theorem xT {α : Type} {l : List α} (h : l.length < 4294967296) : xX l = some l := by
  rw [zsc]; simp [h]
theorem vK {α : Type} {l : List α} {i : Int} (h : 0 ≤ i) : idx l i = l[i.toNat]? := by
  unfold idx; simp [h]
theorem vY {α : Type} {l : List α} {i : Int} (h : 0 ≤ i) (h2 : i < l.length) : y0 l i = some i.toNat := by
  unfold y0; simp [h, h2]
def bit (o : Int) : BitVec 64 := if 1 ≤ o ∧ o ≤ 64 then 1#64 <<< (o - 1).toNat else 0#64
theorem zsX (a : Int) : zg2 a = some (bit a, ()) := by
  rw [zsa]
  simp only [zn]
  unfold bit
  by_cases h1 : a < 1
  · rw [if_pos h1, if_neg (by omega)]
  · rw [if_neg h1]
    by_cases h2 : 64 < a
    · rw [if_pos h2, if_neg (by omega)]
    · rw [if_neg h2, yp (a := a - 1) (by omega) (by omega), if_neg (show ¬ a - 1 < 0 by omega), if_pos (show 1 ≤ a ∧ a ≤ 64 by omega), Nat.min_eq_left (by omega)]
theorem zpi (s : BitVec 64) (o : Int) : zdF s o = some (!(decide (s &&& bit o = 0#64)), ()) := by
  rw [zrT, zsX]; rfl
theorem zlu (s : BitVec 64) (o : Int) : zao s o = some (s ||| bit o, ()) := by
  rw [zr8, zsX]; rfl
def zeo (t : zq) (o : Int) : zq × Bool :=
  if t.Marks ||| bit o = t.Marks then (t, false) else if t.Black &&& bit o = 0#64 then ({ t with Marks := t.Marks ||| bit o }, true) else (t, false)
theorem znC (t : zq) (o : Int) : zbB t o = some ((zeo t o).1, (zeo t o).2, ()) := by
  rw [zoo, zlu, Option.bind_some, zn]
  unfold zeo
  by_cases h1 : t.Marks ||| bit o = t.Marks
  · rw [if_pos h1, if_pos h1]
  · rw [if_neg h1, if_neg h1, zpi, Option.bind_some, yg]
    by_cases h2 : t.Black &&& bit o = 0#64
    · rw [if_pos h2, if_pos h2]
    · rw [if_neg h2, if_neg h2]
theorem zki {m : List (BitVec 64)} (h : m.length < 4294967296) : yM m = some (m, ()) := by
  rw [U9, List.nil_append, xT h, Option.bind_some]
  cases m with
  | nil => simp [zds]
  | cons a l => simp
theorem zi3 {m : List (List Int)} (h : m.length < 4294967296) : wW m = some (m, ()) := by
  rw [zcb, List.nil_append, xT h, Option.bind_some]
  cases m with
  | nil => simp [zds]
  | cons a l => simp
def ld (m : List (BitVec 64)) (a : Int) : BitVec 64 := if 0 ≤ a then m.getD a.toNat 0#64 else 0#64
def st (m : List (BitVec 64)) (a : Int) (v : BitVec 64) : List (BitVec 64) := if 0 ≤ a then m.set a.toNat v else m
def sw (m : List (BitVec 64)) (at_ : Int) (a b : BitVec 64) : List (BitVec 64) × Bool :=
  if 0 ≤ at_ ∧ at_ < m.length ∧ ld m at_ = a then (st m at_ b, true) else (m, false)
theorem zsk {m : List (BitVec 64)} {a : Int} (h : 0 ≤ a) (h2 : a < m.length) : m[a.toNat]? = some (ld m a) := by
  unfold ld
  rw [if_pos h, List.getD_eq_getElem?_getD, List.getElem?_eq_getElem (by omega)]; rfl
theorem ztc {m : List (BitVec 64)} {a : Int} : st m a (ld m a) = m := by
  unfold st ld
  by_cases h : 0 ≤ a
  · rw [if_pos h, if_pos h]
    by_cases h2 : a.toNat < m.length
    · rw [List.getD_eq_getElem?_getD, List.getElem?_eq_getElem h2]; simp
    · rw [List.set_eq_of_length_le (by omega)]
  · rw [if_neg h]
theorem zuA {m : List (BitVec 64)} {a : Int} (h : a < 0 ∨ m.length ≤ a) : ld m a = 0#64 := by
  unfold ld
  rcases h with h | h
  · rw [if_neg (by omega)]
  · split
    · rw [List.getD_eq_getElem?_getD, List.getElem?_eq_none (by omega)]; rfl
    · rfl
theorem zuW {m : List (BitVec 64)} {a : Int} {v : BitVec 64} (h : a < 0 ∨ m.length ≤ a) : st m a v = m := by
  unfold st
  rcases h with h | h
  · rw [if_neg (by omega)]
  · split
    · rw [List.set_eq_of_length_le (by omega)]
    · rfl
theorem zs3 (m : List (BitVec 64)) (a : Int) (x y : BitVec 64) : ∃ b, YF m ⟨1, a, x, y⟩ = some (m, ld m a, b, ()) := by
  rw [zhO]
  simp only [zn, if_true]
  by_cases h1 : a < 0
  · rw [if_pos h1, zuA (.inl h1)]; exact ⟨_, rfl⟩
  · rw [if_neg h1]
    by_cases h2 : (m.length : Int) ≤ a
    · rw [if_pos h2, zuA (.inr h2)]; exact ⟨_, rfl⟩
    · rw [if_neg h2, vK (by omega), zsk (by omega) (by omega), Option.bind_some, zqg, Option.bind_some]
      simp
theorem zri {m : List (BitVec 64)} (hm : m.length < 4294967296) (a : Int) (x y : BitVec 64) : ∃ v b, YF m ⟨2, a, x, y⟩ = some (st m a x, v, b, ()) := by
  rw [zhO]
  simp only [zn, if_true, if_neg (show ¬ (2 : Int) = 1 by omega)]
  by_cases h1 : a < 0
  · rw [if_pos h1, zuW (.inl h1)]; exact ⟨_, _, rfl⟩
  · rw [if_neg h1]
    by_cases h2 : (m.length : Int) ≤ a
    · rw [if_pos h2, zuW (.inr h2)]; exact ⟨_, _, rfl⟩
    · rw [if_neg h2, vK (by omega), zsk (by omega) (by omega), Option.bind_some, zqn, Option.bind_some, cond_true, yg]
      by_cases h3 : ld m a = x
      · rw [if_pos h3]
        subst h3
        rw [ztc]; exact ⟨_, _, rfl⟩
      · rw [if_neg h3, zki hm, Option.bind_some, vY (l := m) (by omega) (by omega), Option.bind_some]
        unfold st
        rw [if_pos (by omega)]
        exact ⟨_, _, rfl⟩
theorem zoX {m : List (BitVec 64)} (hm : m.length < 4294967296) (a : Int) (x y : BitVec 64) : ∃ v, YF m ⟨3, a, x, y⟩ = some ((sw m a x y).1, v, (sw m a x y).2, ()) := by
  rw [zhO]
  simp only [zn, if_true, if_neg (show ¬ (3 : Int) = 1 by omega), if_neg (show ¬ (3 : Int) = 2 by omega)]
  by_cases h1 : a < 0
  · rw [if_pos h1]
    have : sw m a x y = (m, false) := by unfold sw; rw [if_neg (by omega)]
    rw [this]; exact ⟨_, rfl⟩
  · rw [if_neg h1]
    by_cases h2 : (m.length : Int) ≤ a
    · rw [if_pos h2]
      have : sw m a x y = (m, false) := by unfold sw; rw [if_neg (by omega)]
      rw [this]; exact ⟨_, rfl⟩
    · rw [if_neg h2, vK (by omega), zsk (by omega) (by omega), Option.bind_some, zqi, Option.bind_some]
      simp only [zn]
      by_cases h3 : ld m a = x
      · have : sw m a x y = (st m a y, true) := by unfold sw; rw [if_pos ⟨by omega, by omega, h3⟩]
        rw [if_pos h3, this, yg]
        by_cases h4 : ld m a = y
        · rw [if_pos h4]
          have : st m a y = m := by rw [← h4, ztc]
          rw [this]
          simp [h3]
        · rw [if_neg h4, zki hm, Option.bind_some, vY (l := m) (by omega) (by omega), Option.bind_some]
          unfold st
          rw [if_pos (by omega)]
          simp [h3]
      · have : sw m a x y = (m, false) := by unfold sw; rw [if_neg (by rintro ⟨_, _, h⟩; exact h3 h)]
        rw [if_neg h3, this]
        simp [h3]
theorem znU (m : List (BitVec 64)) (a : Int) : zbz m a = some (ld m a, ()) := by
  obtain ⟨b, h⟩ := zs3 m a 0#64 0#64
  rw [zot, h]; rfl
theorem Uy {m : List (BitVec 64)} (hm : m.length < 4294967296) (a : Int) (x : BitVec 64) : ZT m a x = some (st m a x, ()) := by
  obtain ⟨v, b, h⟩ := zri hm a x 0#64
  rw [zmZ, h]; rfl
theorem Xr (m : List (BitVec 64)) (a : Int) : uR m a = some (ld m a, ()) := by
  obtain ⟨b, h⟩ := zs3 m a 0#64 0#64
  rw [zni, h]; rfl
theorem UI {m : List (BitVec 64)} (hm : m.length < 4294967296) (a : Int) (x : BitVec 64) : ZX m a x = some (st m a x, ()) := by
  obtain ⟨v, b, h⟩ := zri hm a x 0#64
  rw [zmh, h]; rfl
def yY (h : BitVec 64) : Int := (h &&& 4294967295#64).toInt
def WF (v : BitVec 64) (n : Int) : BitVec 64 := (v <<< 32) ||| (BitVec.ofInt 64 n &&& 4294967295#64)
theorem ze8 (h : BitVec 64) : YQ h = some (yY h, ()) := zoA h
theorem zeN (v : BitVec 64) (n : Int) : WH v n = some (WF v n, ()) := znn v n
def zV (m : List (BitVec 64)) (c : zw) : List (BitVec 64) × zw :=
  if c.Out ≠ 0 ∨ (c.Kind ≠ 1 ∧ c.Kind ≠ 2) ∨ c.PC < 0 ∨ 3 ≤ c.PC then (m, c)
  else if c.PC = 0 then
    (m, if c.Kind = 2 ∧ yY (ld m c.Head) = 0 then { c with H := ld m c.Head, Out := 2, PC := 1 } else { c with H := ld m c.Head, PC := 1 })
  else if c.PC = 1 then
    if c.Kind = 2 then (m, { c with Y := (ld m (wc (c.Next + yY c.H))).toInt, PC := 2 })
    else (st m (wc (c.Next + c.X)) (BitVec.ofInt 64 (yY c.H)), { c with PC := 2 })
  else
    let r := sw m c.Head c.H (WF ((c.H >>> 32) + 1#64) (if c.Kind = 2 then c.Y else c.X))
    (r.1, if r.2 then (if c.Kind = 2 then { c with X := yY c.H, Out := 1, PC := 3 } else { c with Out := 1, PC := 3 }) else { c with PC := 0 })
theorem ze9 {m : List (BitVec 64)} (hm : m.length < 4294967296) (c : zw) : Wh m c = some ((zV m c).1, (zV m c).2, ()) := by
  have hsee : wQ m c = some (m, (if c.Kind = 2 ∧ yY (ld m c.Head) = 0 then { c with H := ld m c.Head, Out := 2 } else { c with H := ld m c.Head }), ()) := by
    rw [zev, znU, Option.bind_some, ze8, Option.bind_some, zn, zn]
    by_cases h1 : c.Kind = 2
    · by_cases h2 : yY (ld m c.Head) = 0
      · rw [if_pos h1, if_pos h2, if_pos ⟨h1, h2⟩]
      · rw [if_pos h1, if_neg h2, if_neg (fun h => h2 h.2)]
    · rw [if_neg h1, if_neg (fun h => h1 h.1)]
  have hlink : Yf m c = some (st m (wc (c.Next + c.X)) (BitVec.ofInt 64 (yY c.H)), ()) := by
    rw [zgE, xx, ze8, Option.bind_some, Uy hm]; rfl
  have hbeh : ux m c = some (m, { c with Y := (ld m (wc (c.Next + yY c.H))).toInt }, ()) := by
    rw [zci, xx, ze8, Option.bind_some, znU]; rfl
  have hswap : wC m c = some ((sw m c.Head c.H (WF ((c.H >>> 32) + 1#64) (if c.Kind = 2 then c.Y else c.X))).1,
      (if (sw m c.Head c.H (WF ((c.H >>> 32) + 1#64) (if c.Kind = 2 then c.Y else c.X))).2 then (if c.Kind = 2 then { c with X := yY c.H, Out := 1 } else { c with Out := 1 }) else { c with PC := -1 }), ()) := by
    rw [zdJ, zn]
    by_cases h1 : c.Kind = 2
    · rw [if_pos h1, zeN, Option.bind_some]
      obtain ⟨v, hv⟩ := zoX hm c.Head c.H (WF ((c.H >>> 32) + 1#64) c.Y)
      simp only [if_pos h1]
      rw [hv, Option.bind_some]
      cases hs : (sw m c.Head c.H (WF ((c.H >>> 32) + 1#64) c.Y)).2 with
      | true => simp [hs, h1, ze8]
      | false => simp [hs]
    · rw [if_neg h1, zeN, Option.bind_some]
      obtain ⟨v, hv⟩ := zoX hm c.Head c.H (WF ((c.H >>> 32) + 1#64) c.X)
      simp only [if_neg h1]
      rw [hv, Option.bind_some]
      cases hs : (sw m c.Head c.H (WF ((c.H >>> 32) + 1#64) c.X)).2 with
      | true => simp [hs, h1]
      | false => simp [hs]
  rw [znL, hsee, hlink, hbeh, hswap]
  simp only [zn, yg, Option.bind_some]
  unfold zV
  by_cases h0 : c.Out = 0
  · by_cases hp0 : c.PC < 0
    · have : (c.Out ≠ 0 ∨ (c.Kind ≠ 1 ∧ c.Kind ≠ 2) ∨ c.PC < 0 ∨ 3 ≤ c.PC) := .inr (.inr (.inl hp0))
      rw [if_pos this]
      simp [h0, hp0]
    · by_cases hp3 : 3 ≤ c.PC
      · have : (c.Out ≠ 0 ∨ (c.Kind ≠ 1 ∧ c.Kind ≠ 2) ∨ c.PC < 0 ∨ 3 ≤ c.PC) := .inr (.inr (.inr hp3))
        rw [if_pos this]
        simp [h0, hp3]
      · by_cases hk : c.Kind = 1 ∨ c.Kind = 2
        · have : ¬ (c.Out ≠ 0 ∨ (c.Kind ≠ 1 ∧ c.Kind ≠ 2) ∨ c.PC < 0 ∨ 3 ≤ c.PC) := by
            rintro (h | h | h | h)
            · exact h h0
            · omega
            · exact hp0 h
            · exact hp3 h
          rw [if_neg this]
          have hpc : c.PC = 0 ∨ c.PC = 1 ∨ c.PC = 2 := by omega
          have w1 : w64 1 = 1 := yp (by omega) (by omega)
          have w2 : w64 2 = 2 := yp (by omega) (by omega)
          have w3 : w64 3 = 3 := yp (by omega) (by omega)
          have w4 : w64 0 = 0 := yp (by omega) (by omega)
          rcases hk with hk | hk <;> rcases hpc with hpc | hpc | hpc <;> simp [h0, hk, hpc, w1, w2, w3, w4] <;> (try split) <;> simp [hpc, w1, w3, w4]
        · have : (c.Out ≠ 0 ∨ (c.Kind ≠ 1 ∧ c.Kind ≠ 2) ∨ c.PC < 0 ∨ 3 ≤ c.PC) := .inr (.inl (by omega))
          rw [if_pos this]
          have k1 : ¬ c.Kind = 1 := by omega
          have k2 : ¬ c.Kind = 2 := by omega
          simp [h0, k1, k2]
  · have : (c.Out ≠ 0 ∨ (c.Kind ≠ 1 ∧ c.Kind ≠ 2) ∨ c.PC < 0 ∨ 3 ≤ c.PC) := .inl h0
    rw [if_pos this]
    simp [h0]
end
end Go.Pe.G
namespace Go.Pe.G
open Go.Pe
noncomputable section
def Ud (d : zg) : BitVec 64 := BitVec.ofInt 64 (if d.Cap < 1 then 1 else d.Cap)
def zbv (d : zg) (i : BitVec 64) : Int := wc (wc (d.Base + 2) + (i % Ud d).toInt)
def Zf (m : List (BitVec 64)) (d : zg) : List (BitVec 64) × zg :=
  if d.Out ≠ 0 ∨ d.PC < 0 ∨ 4 ≤ d.PC then (m, d)
  else if d.PC = 0 then (m, { d with B := ld m (wc (d.Base + 1)), PC := 1 })
  else if d.PC = 1 then (m, if Ud d ≤ d.B - ld m d.Base then { d with T := ld m d.Base, Out := 3, PC := 2 } else { d with T := ld m d.Base, PC := 2 })
  else if d.PC = 2 then (st m (zbv d d.B) (BitVec.ofInt 64 d.X), { d with PC := 3 })
  else (st m (wc (d.Base + 1)) (d.B + 1#64), { d with Out := 1, PC := 4 })
theorem zre : w64 0 = 0 ∧ w64 1 = 1 ∧ w64 2 = 2 ∧ w64 3 = 3 ∧ w64 4 = 4 := by
  refine ⟨?_, ?_, ?_, ?_, ?_⟩ <;> exact yp (by omega) (by omega)
theorem zuP {d : zg} (h : d.Cap < 1000) : Ud d ≠ 0#64 := by
  unfold Ud
  intro e
  have := congrArg BitVec.toNat e
  rw [BitVec.toNat_ofInt] at this
  split at this <;> simp at this <;> omega
theorem znz (d : zg) : Yd d = some (Ud d, ()) := by
  rw [zgu]; unfold Ud; rw [zn]
theorem zhH {d : zg} (h : d.Cap < 1000) (i : BitVec 64) : uu i d = some (zbv d i, ()) := by
  rw [zfx, xx, znz, Option.bind_some, zn, if_neg (zuP h)]; rfl
theorem zg7 {m : List (BitVec 64)} (hm : m.length < 4294967296) {d : zg} (hk : d.Kind = 1) (hc : d.Cap < 1000) : zbo m d = some ((Zf m d).1, (Zf m d).2, ()) := by
  obtain ⟨w0, w1, w2, w3, w4⟩ := zre
  have h0 : wv m d = some (m, { d with B := ld m (wc (d.Base + 1)) }, ()) := by
    rw [Y4, xp, xx, Option.bind_some, Xr]; rfl
  have h1 : Y5 m d = some (m, (if Ud d ≤ d.B - ld m d.Base then { d with T := ld m d.Base, Out := 3 } else { d with T := ld m d.Base }), ()) := by
    rw [zd3, Zt, Option.bind_some, Xr, Option.bind_some, znz, Option.bind_some, zn]
    have e : Ud { d with T := ld m d.Base } = Ud d := rfl
    simp only [e]
    by_cases h : Ud d ≤ d.B - ld m d.Base
    · rw [if_pos h, if_pos h, x8]
      simp [hk]
    · rw [if_neg h, if_neg h]
  have h2 : Vr m d = some (st m (zbv d d.B) (BitVec.ofInt 64 d.X), ()) := by
    rw [zhT, zhH hc, Option.bind_some, UI hm]; rfl
  have h3 : ZR m d = some (st m (wc (d.Base + 1)) (d.B + 1#64), { d with Out := 1 }, ()) := by
    rw [zbM, x8]
    simp only [decide_true, Bool.not_true, cond_false, Option.bind_some, xp, xx]
    rw [UI hm]; rfl
  rw [zg5, h0, h1, h2, h3, zeh]
  simp only [hk, decide_true, cond_true, Option.bind_some, yg, zn]
  have key : ∀ (x : Option (List (BitVec 64) × zg × Unit)) (v : List (BitVec 64) × zg × Unit) (y : Option (List (BitVec 64) × zg × Unit)), x = some v → Option.or x y = some v := by
    rintro _ v y rfl; rfl
  apply key
  unfold Zf
  by_cases g0 : d.Out = 0
  · by_cases g1 : d.PC < 0
    · simp [g0, g1]
    · by_cases g2 : 4 ≤ d.PC
      · simp [g0, g2]
      · have hpc : d.PC = 0 ∨ d.PC = 1 ∨ d.PC = 2 ∨ d.PC = 3 := by omega
        rcases hpc with h | h | h | h <;> simp [g0, h, hk, w1, w2, w3, w4] <;> (try split) <;> simp [h, hk, w2]
  · simp [g0]
def vA (p : zd) : Int := wc (p.Workers * wc (p.Cap + 2))
def yT (p : zd) : Int := wc (vA p + 1)
def Z4 (p : zd) (w : Int) : Int := wc (wc (w - 1) * wc (p.Cap + 2))
theorem zeD (p : zd) : WE p = some (vA p, ()) := by rw [zn6, xx]; rfl
theorem zcL (p : zd) : Xj p = some (yT p, ()) := by rw [zmi, xx, zeD]; rfl
theorem zeJ (p : zd) : YJ p = some (yT p, ()) := by rw [znd, zcL]; rfl
theorem zme (p : zd) (w : Int) : U5 p w = some (Z4 p w, ()) := by rw [zmJ, xx]; rfl
def zpu (p : zd) (g : zA) : zA := { g with PC := 5, C := ⟨2, 0, yT p, yT p, 0#64, 0, 0, 0⟩ }
theorem zjE (a : zx) : ve a = some (⟨zpu a.s.P a.Grey, a.s⟩, ()) := by
  rw [zfZ, zcL, Option.bind_some, zeJ, Option.bind_some, zag]; rfl
def zoq (s : zc) (g : zA) : zc × zA :=
  let t := zeo s.T g.Obj
  ({ s with T := t.1 },
    if t.2 = false then { g with PC := 2 }
    else if g.Mode = 1 then { g with PC := 3, D := ⟨1, 0, Z4 s.P g.Who, s.P.Cap, 0#64, 0#64, g.Obj, 0⟩ }
    else if g.Mode = 2 then { g with PC := 4 }
    else zpu s.P g)
def zlk (s : zc) (g : zA) : zc × zA :=
  let r := Zf s.M g.D
  ({ s with M := r.1 }, if r.2.Out = 1 then { g with D := r.2, Out := 1 } else if r.2.Out = 3 then zpu s.P { g with D := r.2 } else { g with D := r.2 })
def zlm (s : zc) (g : zA) : zc × zA :=
  let r := zV s.M g.C
  ({ s with M := r.1 }, if r.2.Out = 1 then { g with PC := 6, C := r.2, Bin := r.2.X } else if r.2.Out = 2 then zpu s.P { g with C := r.2 } else { g with C := r.2 })
def zwc (s : zc) (g : zA) : zc × zA :=
  ({ s with Bins := s.Bins.set g.Bin.toNat [g.Obj] }, { g with PC := 7, C := ⟨1, 0, vA s.P, yT s.P, 0#64, g.Bin, 0, 0⟩ })
def zgi (s : zc) (g : zA) : zc × zA :=
  let r := zV s.M g.C
  ({ s with M := r.1 }, if r.2.Out = 1 then { g with C := r.2, Out := 1 } else { g with C := r.2 })
def zG (s : zc) (g : zA) : zc × zA :=
  if g.Out ≠ 0 ∨ g.Mode < 1 ∨ 3 < g.Mode ∨ g.PC < 0 ∨ 8 ≤ g.PC then (s, g)
  else if g.PC = 7 then zgi s g
  else if g.PC = 6 then zwc s g
  else if g.PC = 5 then zlm s g
  else if g.PC = 4 then ({ s with Flag := true }, zpu s.P g)
  else if g.PC = 3 then zlk s g
  else if g.PC = 2 then ({ s with Work := wc (s.Work - 1) }, { g with Out := 1 })
  else if g.PC = 1 then zoq s g
  else ({ s with Work := wc (s.Work + 1) }, { g with PC := 1 })
structure GOk (s : zc) (g : zA) : Prop where
  mem : s.M.length < 4294967296
  bins : s.Bins.length < 4294967296
  bin : g.PC = 6 → 0 ≤ g.Bin ∧ g.Bin < s.Bins.length
  deq : g.PC = 3 → g.D.Kind = 1 ∧ g.D.Cap < 1000
theorem zul {s : zc} {g : zA} (ok : GOk s g) : zhW s g = some ((zG s g).1, (zG s g).2, ()) := by
  rw [zoV]
  simp only [zn, yg]
  unfold zG
  by_cases h0 : g.Out = 0
  rotate_left
  · rw [if_neg h0, if_pos (.inl h0)]
  rw [if_pos h0]
  by_cases h1 : g.Mode < 1
  · rw [if_pos h1, if_pos (.inr (.inl h1))]
  rw [if_neg h1]
  by_cases h2 : 3 < g.Mode
  · rw [if_pos h2, if_pos (.inr (.inr (.inl h2)))]
  rw [if_neg h2]
  by_cases h3 : g.PC < 0
  · rw [if_pos h3, if_pos (.inr (.inr (.inr (.inl h3))))]
  rw [if_neg h3]
  by_cases h4 : 8 ≤ g.PC
  · rw [if_pos h4, if_pos (.inr (.inr (.inr (.inr h4))))]
  rw [if_neg h4, if_neg (show ¬ (g.Out ≠ 0 ∨ g.Mode < 1 ∨ 3 < g.Mode ∨ g.PC < 0 ∨ 8 ≤ g.PC) by omega)]
  by_cases p7 : g.PC = 7
  · rw [if_pos p7, if_pos p7, zct]
    simp only [ze9 ok.mem, Option.bind_some, zn]
    by_cases e : (zV s.M g.C).2.Out = 1 <;> simp [zgi, e]
  rw [if_neg p7, if_neg p7]
  by_cases p6 : g.PC = 6
  · rw [if_pos p6, if_pos p6, zeP]
    obtain ⟨b1, b2⟩ := ok.bin p6
    simp only [zi3 ok.bins, Option.bind_some, vY (l := s.Bins) b1 b2, zeD, zeJ, zag]
    rfl
  rw [if_neg p6, if_neg p6]
  by_cases p5 : g.PC = 5
  · rw [if_pos p5, if_pos p5, zez]
    simp only [ze9 ok.mem, Option.bind_some, zn, zjE]
    by_cases e : (zV s.M g.C).2.Out = 1
    · simp [zlm, e]
    · by_cases e2 : (zV s.M g.C).2.Out = 2 <;> simp [zlm, e, e2]
  rw [if_neg p5, if_neg p5]
  by_cases p4 : g.PC = 4
  · rw [if_pos p4, if_pos p4, zeC, zjE]; rfl
  rw [if_neg p4, if_neg p4]
  by_cases p3 : g.PC = 3
  · rw [if_pos p3, if_pos p3, zen]
    obtain ⟨b1, b2⟩ := ok.deq p3
    simp only [zg7 ok.mem b1 b2, Option.bind_some, zn, zjE]
    by_cases e : (Zf s.M g.D).2.Out = 1
    · simp [zlk, e]
    · by_cases e2 : (Zf s.M g.D).2.Out = 3 <;> simp [zlk, e, e2]
  rw [if_neg p3, if_neg p3]
  by_cases p2 : g.PC = 2
  · rw [if_pos p2, if_pos p2, zeE, xx]; rfl
  rw [if_neg p2, if_neg p2]
  by_cases p1 : g.PC = 1
  · rw [if_pos p1, if_pos p1, zeX]
    simp only [znC, Option.bind_some, zn, zjE, zme, zfV]
    unfold zoq
    cases hs : (zeo s.T g.Obj).2 with
    | false => simp [hs]
    | true =>
      by_cases m1 : g.Mode = 1
      · simp [hs, m1]
      · by_cases m2 : g.Mode = 2 <;> simp [hs, m1, m2]
  rw [if_neg p1, if_neg p1, if_pos (show g.PC = 0 by omega), zcf, xx]; rfl
end
end Go.Pe.G
namespace Go.Pe.G
open Go.Pe
noncomputable section
theorem wR {b k : Int} (h : 0 ≤ b) (hk : 0 < k) : 0 ≤ b.tmod k ∧ b.tmod k < k := by
  rw [Int.tmod_eq_emod_of_nonneg h]; exact ⟨Int.emod_nonneg _ (by omega), Int.emod_lt_of_pos _ hk⟩
def zaP (o : zh) (regs slots : Int) : Prop := (0 ≤ o.R ∧ o.R < regs) ∧
  ((o.Kind = 1 ∨ o.Kind = 2) ∧ (0 ≤ o.A ∧ o.A < regs) ∧ (0 ≤ o.S ∧ o.S < slots) ∨ o.Kind = 4 ∧ (0 ≤ o.A ∧ o.A < regs) ∧ o.S = 0 ∨ (o.Kind = 3 ∨ o.Kind = 5) ∧ o.A = 0 ∧ o.S = 0)
structure z3 (p : zd) : Prop where
  wk : 1 ≤ p.Workers ∧ p.Workers ≤ 3
  mt : 0 ≤ p.Mutators ∧ p.Mutators ≤ 2
  cap : 1 ≤ p.Cap ∧ p.Cap ≤ 3
  buf : 1 ≤ p.Buf ∧ p.Buf ≤ 2
  bin : 1 ≤ p.Bin ∧ p.Bin ≤ 3
  price : 0 ≤ p.Price ∧ p.Price ≤ 3
  limit : 0 ≤ p.Limit ∧ p.Limit ≤ 3
  slots : 1 ≤ p.H.Slots ∧ p.H.Slots ≤ 2
  n : 1 ≤ (p.H.Objs.length : Int) ∧ (p.H.Objs.length : Int) ≤ 6
  objs : ∀ o ∈ p.H.Objs, (o.length : Int) = p.H.Slots ∧ ∀ v ∈ o, 0 ≤ v ∧ v ≤ (p.H.Objs.length : Int)
  most : (p.H.Objs.length : Int) ≤ p.Most ∧ p.Most ≤ (p.H.Objs.length : Int) + 3
  roots : ∃ r, 0 ≤ r ∧ r ≤ (p.H.Objs.length : Int) ∧ p.Roots = bit r
  regs : (p.Regs.length : Int) = p.Mutators
  progs : (p.Progs.length : Int) = p.Mutators
  reg : ∀ r ∈ p.Regs, (1 ≤ (r.length : Int) ∧ (r.length : Int) ≤ 3) ∧ ∀ v ∈ r, 0 ≤ v ∧ v ≤ (p.H.Objs.length : Int)
  prog : ∀ (k : Nat) r ops, p.Regs[k]? = some r → p.Progs[k]? = some ops → (ops.length : Int) ≤ 7 ∧ ∀ o ∈ ops, zaP o (r.length : Int) p.H.Slots
  picks : p.Picks = []
end
end Go.Pe.G
namespace Go.Pe.G
open Go.Pe
noncomputable section
namespace B16
def Xg (m : zy) : Prop := 0 ≤ m.At ∧ m.At ≤ m.L.length ∧ m.L.length ≤ 90
theorem vC {m : zy} (h : Xg m) : ∃ b m', zt m = some (b, m', ()) ∧ (0 ≤ b ∧ b < 256) ∧ Xg m' := by
  obtain ⟨h1, h2, h3⟩ := h
  rw [zbK, zn]
  by_cases h : (m.L.length : Int) ≤ m.At
  · rw [if_pos h]; exact ⟨_, _, rfl, by omega, h1, h2, h3⟩
  · rw [if_neg h, yp (a := m.At + 1) (by omega) (by omega), yp (by omega) (by omega), vK (by omega), List.getElem?_eq_getElem (by omega), Option.bind_some]
    exact ⟨_, _, rfl, by have := (m.L[(m.At + 1 - 1).toNat]'(by omega)).isLt; omega, show 0 ≤ m.At + 1 by omega, show m.At + 1 ≤ m.L.length by omega, h3⟩
theorem zxJ {m : zy} (h : Xg m) {regs slots : Int} (hr : 1 ≤ regs) (hs : 1 ≤ slots) : ∃ o m', YY regs slots m = some (o, m', ()) ∧ zaP o regs slots ∧ Xg m' := by
  obtain ⟨b1, m1, e1, r1, k1⟩ := vC h
  obtain ⟨b2, m2, e2, r2, k2⟩ := vC k1
  obtain ⟨b3, m3, e3, r3, k3⟩ := vC k2
  obtain ⟨b4, m4, e4, r4, k4⟩ := vC k3
  have t1 := wR r1.1 (show (0 : Int) < 8 by omega)
  have t2 := wR r2.1 (show (0 : Int) < regs by omega)
  have t3 := wR r3.1 (show (0 : Int) < regs by omega)
  have t4 := wR r4.1 (show (0 : Int) < slots by omega)
  have t5 := wR r3.1 (show (0 : Int) < slots by omega)
  have hn : ¬ regs = 0 := by omega
  have hn2 : ¬ slots = 0 := by omega
  rw [zdr, e1, Option.bind_some, vY t1.1 (by simpa using t1.2), Option.bind_some]
  have hx : b1.tmod 8 = 0 ∨ b1.tmod 8 = 1 ∨ b1.tmod 8 = 2 ∨ b1.tmod 8 = 3 ∨ b1.tmod 8 = 4 ∨ b1.tmod 8 = 5 ∨ b1.tmod 8 = 6 ∨ b1.tmod 8 = 7 := by omega
  rcases hx with hx | hx | hx | hx | hx | hx | hx | hx <;> simp [hx, e2, e3, e4, hn, hn2] <;> refine ⟨_, _, ⟨rfl, rfl⟩, ?_, by assumption⟩ <;> (unfold zaP; dsimp only; omega)
theorem zvd {s1 : Int} {s2 : Int} {s4 : Int} {s5 : Int} {s6 : Int} {s7 : Int} {s8 : Int} {s9 : Int} {s10 : Int} {s11 : Int} {s12 : Int} {s13 : BitVec 64} {s15 : Int} {s16 : Int} {s17 : Int} {s18 : Int} {s19 : Int} {s20 : Int} {s21 : Int} {s22 : Int} {s23 : Int} {s24 : BitVec 64} {s26 : List (List Int)} {s27 : List (List Int)} {s28 : List (List zh)} {s29 : List zj} {s30 : List (List Int)} {s31 : List (List Int)} {s32 : List (List zh)} {s33 : List zj} (hn : 1 ≤ s1 ∧ s1 ≤ 6) (hs : 1 ≤ s23 ∧ s23 ≤ 2) {mk : zy} (hm : Xg mk) :
    ∃ mk' l, ym ZI (s1, s2, 0, s4, s5, s6, s7, s8, s9, s10, s11, s12, s13, mk, s15, s16, s17, s18, s19, s20, s21, s22, s23, s24, [], s26, s27, s28, s29, s30, s31, s32, s33, ()) = some (.brk (s1, s2, s4, s5, s6, s7, s8, s9, s10, s11, s12, s13, mk', s15, s16, s17, s18, s19, s20, s21, s22, s23, s24, l, s26, s27, s28, s29, s30, s31, s32, s33, ())) ∧ Xg mk' ∧ (l.length : Int) = s23 ∧ ∀ v ∈ l, 0 ≤ v ∧ v ≤ s1 := by
  refine (uf (f := ZI)
    (fun a => ∃ i mk l, a = (s1, s2, i, s4, s5, s6, s7, s8, s9, s10, s11, s12, s13, mk, s15, s16, s17, s18, s19, s20, s21, s22, s23, s24, l, s26, s27, s28, s29, s30, s31, s32, s33, ()) ∧ Xg mk ∧ (0 ≤ i ∧ i ≤ s23 ∧ (l.length : Int) = i) ∧ ∀ v ∈ l, 0 ≤ v ∧ v ≤ s1)
    (fun a => (s23 - a.2.2.1).toNat)
    (fun o => match o with | .brk b => ∃ mk l, b = (s1, s2, s4, s5, s6, s7, s8, s9, s10, s11, s12, s13, mk, s15, s16, s17, s18, s19, s20, s21, s22, s23, s24, l, s26, s27, s28, s29, s30, s31, s32, s33, ()) ∧ Xg mk ∧ (l.length : Int) = s23 ∧ ∀ v ∈ l, 0 ≤ v ∧ v ≤ s1 | _ => False) ?_
    (s1, s2, 0, s4, s5, s6, s7, s8, s9, s10, s11, s12, s13, mk, s15, s16, s17, s18, s19, s20, s21, s22, s23, s24, [], s26, s27, s28, s29, s30, s31, s32, s33, ()) ⟨0, mk, [], rfl, hm, by simp; omega, by simp⟩ (wo (by simp; omega))).elim fun o h => ?_
  rotate_left
  · obtain ⟨ho, hq⟩ := h
    cases o with
    | again a => exact hq.elim
    | ret a => exact hq.elim
    | brk b =>
      obtain ⟨mk', l, rfl, h1, h2, h3⟩ := hq
      exact ⟨mk', l, ho, h1, h2, h3⟩
  · rintro _ ⟨i, mk, l, rfl, h1, h2, h3⟩
    rw [zgn, zn]
    by_cases hi : i < s23
    · rw [if_pos hi]
      obtain ⟨b, mk', e, r, k⟩ := vC h1
      have w1 : w64 (s1 + 1) = s1 + 1 := yp (by omega) (by omega)
      have t := wR r.1 (show 0 < s1 + 1 by omega)
      rw [e, Option.bind_some, w1, zn, if_neg (by omega), xT (by simp; omega), Option.bind_some, yp (a := i + 1) (by omega) (by omega)]
      refine ⟨_, rfl, ⟨i + 1, mk', l ++ [b.tmod (s1 + 1)], rfl, k, by simp; omega, fun v hv => ?_⟩, ?_⟩
      · rcases List.mem_append.1 hv with hv | hv
        · exact h3 v hv
        · simp at hv; omega
      · show (s23 - (i + 1)).toNat < (s23 - i).toNat
        omega
    · rw [if_neg hi]
      exact ⟨_, rfl, mk, l, rfl, h1, by omega, h3⟩
theorem zwM {s1 : Int} {s3 : Int} {s4 : Int} {s5 : Int} {s6 : Int} {s7 : Int} {s8 : Int} {s9 : Int} {s10 : Int} {s11 : Int} {s12 : BitVec 64} {s14 : Int} {s15 : Int} {s16 : Int} {s17 : Int} {s18 : Int} {s19 : Int} {s20 : Int} {s21 : Int} {s22 : Int} {s23 : BitVec 64} {s24 : List (List Int)} {s25 : List (List Int)} {s26 : List (List zh)} {s27 : List zj} {s29 : List (List Int)} {s30 : List (List zh)} {s31 : List zj} (hn : 1 ≤ s1 ∧ s1 ≤ 6) (hs : 1 ≤ s22 ∧ s22 ≤ 2) {mk : zy} (hm : Xg mk) :
    ∃ mk' l, ym Yi (s1, 0, s3, s4, s5, s6, s7, s8, s9, s10, s11, s12, mk, s14, s15, s16, s17, s18, s19, s20, s21, s22, s23, s24, s25, s26, s27, [], s29, s30, s31, ()) = some (.brk (s1, s3, s4, s5, s6, s7, s8, s9, s10, s11, s12, mk', s14, s15, s16, s17, s18, s19, s20, s21, s22, s23, s24, s25, s26, s27, l, s29, s30, s31, ())) ∧ Xg mk' ∧ (l.length : Int) = s1 ∧ ∀ o ∈ l, (o.length : Int) = s22 ∧ ∀ v ∈ o, 0 ≤ v ∧ v ≤ s1 := by
  refine (uf (f := Yi)
    (fun a => ∃ i mk l, a = (s1, i, s3, s4, s5, s6, s7, s8, s9, s10, s11, s12, mk, s14, s15, s16, s17, s18, s19, s20, s21, s22, s23, s24, s25, s26, s27, l, s29, s30, s31, ()) ∧ Xg mk ∧ (0 ≤ i ∧ i ≤ s1 ∧ (l.length : Int) = i) ∧ ∀ o ∈ l, (o.length : Int) = s22 ∧ ∀ v ∈ o, 0 ≤ v ∧ v ≤ s1)
    (fun a => (s1 - a.2.1).toNat)
    (fun o => match o with | .brk b => ∃ mk l, b = (s1, s3, s4, s5, s6, s7, s8, s9, s10, s11, s12, mk, s14, s15, s16, s17, s18, s19, s20, s21, s22, s23, s24, s25, s26, s27, l, s29, s30, s31, ()) ∧ Xg mk ∧ (l.length : Int) = s1 ∧ ∀ o ∈ l, (o.length : Int) = s22 ∧ ∀ v ∈ o, 0 ≤ v ∧ v ≤ s1 | _ => False) ?_
    (s1, 0, s3, s4, s5, s6, s7, s8, s9, s10, s11, s12, mk, s14, s15, s16, s17, s18, s19, s20, s21, s22, s23, s24, s25, s26, s27, [], s29, s30, s31, ()) ⟨0, mk, [], rfl, hm, by simp; omega, by simp⟩ (wo (by simp; omega))).elim fun o h => ?_
  rotate_left
  · obtain ⟨ho, hq⟩ := h
    cases o with
    | again a => exact hq.elim
    | ret a => exact hq.elim
    | brk b =>
      obtain ⟨mk', l, rfl, h1, h2, h3⟩ := hq
      exact ⟨mk', l, ho, h1, h2, h3⟩
  · rintro _ ⟨i, mk, l, rfl, h1, h2, h3⟩
    rw [zgJ, zn]
    by_cases hi : i < s1
    · rw [if_pos hi]
      obtain ⟨mk', o, e, g1, g2, g3⟩ := zvd hn hs h1
      rw [e]
      simp only [Option.bind_some]
      rw [xT (by simp; omega), Option.bind_some, yp (a := i + 1) (by omega) (by omega)]
      refine ⟨_, rfl, ⟨i + 1, mk', l ++ [o], rfl, g1, by simp; omega, fun v hv => ?_⟩, ?_⟩
      · rcases List.mem_append.1 hv with hv | hv
        · exact h3 v hv
        · simp at hv; subst hv; exact ⟨g2, g3⟩
      · show (s1 - (i + 1)).toNat < (s1 - i).toNat
        omega
    · rw [if_neg hi]
      exact ⟨_, rfl, mk, l, rfl, h1, by omega, h3⟩
theorem zvm {s1 : Int} {s2 : Int} {s4 : Int} {s5 : Int} {s6 : Int} {s7 : Int} {s8 : Int} {s9 : Int} {s10 : Int} {s11 : Int} {s12 : Int} {s13 : BitVec 64} {s15 : Int} {s16 : Int} {s17 : Int} {s18 : Int} {s19 : Int} {s20 : Int} {s21 : Int} {s22 : Int} {s23 : Int} {s24 : BitVec 64} {s26 : List (List Int)} {s27 : List (List Int)} {s28 : List (List zh)} {s29 : List zj} {s30 : List (List Int)} {s31 : List (List Int)} {s32 : List (List zh)} {s33 : List zj} (hn : 1 ≤ s1 ∧ s1 ≤ 6) {mk : zy} (hm : Xg mk) :
    ∃ mk' l, ym ZM (s1, s2, 0, s4, s5, s6, s7, s8, s9, s10, s11, s12, s13, mk, s15, s16, s17, s18, s19, s20, s21, s22, s23, s24, [], s26, s27, s28, s29, s30, s31, s32, s33, ()) = some (.brk (s1, s2, s4, s5, s6, s7, s8, s9, s10, s11, s12, s13, mk', s15, s16, s17, s18, s19, s20, s21, s22, s23, s24, l, s26, s27, s28, s29, s30, s31, s32, s33, ())) ∧ Xg mk' ∧ (1 ≤ (l.length : Int) ∧ (l.length : Int) ≤ 3) ∧ ∀ v ∈ l, 0 ≤ v ∧ v ≤ s1 := by
  refine (uf (f := ZM)
    (fun a => ∃ i mk l, a = (s1, s2, i, s4, s5, s6, s7, s8, s9, s10, s11, s12, s13, mk, s15, s16, s17, s18, s19, s20, s21, s22, s23, s24, l, s26, s27, s28, s29, s30, s31, s32, s33, ()) ∧ Xg mk ∧ (0 ≤ i ∧ i ≤ 3 ∧ (l.length : Int) = i) ∧ ∀ v ∈ l, 0 ≤ v ∧ v ≤ s1)
    (fun a => (3 - a.2.2.1).toNat)
    (fun o => match o with | .brk b => ∃ mk l, b = (s1, s2, s4, s5, s6, s7, s8, s9, s10, s11, s12, s13, mk, s15, s16, s17, s18, s19, s20, s21, s22, s23, s24, l, s26, s27, s28, s29, s30, s31, s32, s33, ()) ∧ Xg mk ∧ (1 ≤ (l.length : Int) ∧ (l.length : Int) ≤ 3) ∧ ∀ v ∈ l, 0 ≤ v ∧ v ≤ s1 | _ => False) ?_
    (s1, s2, 0, s4, s5, s6, s7, s8, s9, s10, s11, s12, s13, mk, s15, s16, s17, s18, s19, s20, s21, s22, s23, s24, [], s26, s27, s28, s29, s30, s31, s32, s33, ()) ⟨0, mk, [], rfl, hm, by simp, by simp⟩ (wo (by simp))).elim fun o h => ?_
  rotate_left
  · obtain ⟨ho, hq⟩ := h
    cases o with
    | again a => exact hq.elim
    | ret a => exact hq.elim
    | brk b =>
      obtain ⟨mk', l, rfl, h1, h2, h3⟩ := hq
      exact ⟨mk', l, ho, h1, h2, h3⟩
  · rintro _ ⟨i, mk, l, rfl, h1, h2, h3⟩
    obtain ⟨b0, mk0, e0, r0, k0⟩ := vC h1
    have t0 := wR r0.1 (show (0 : Int) < 3 by omega)
    rw [zfl, e0, Option.bind_some, zn, yp (a := 1 + b0.tmod 3) (by omega) (by omega)]
    by_cases hi : i < 1 + b0.tmod 3
    · rw [if_pos hi]
      obtain ⟨b, mk', e, r, k⟩ := vC k0
      have w1 : w64 (s1 + 1) = s1 + 1 := yp (by omega) (by omega)
      have t := wR r.1 (show 0 < s1 + 1 by omega)
      rw [e, Option.bind_some, w1, zn, if_neg (by omega), xT (by simp; omega), Option.bind_some, yp (a := i + 1) (by omega) (by omega)]
      refine ⟨_, rfl, ⟨i + 1, mk', l ++ [b.tmod (s1 + 1)], rfl, k, by simp; omega, fun v hv => ?_⟩, ?_⟩
      · rcases List.mem_append.1 hv with hv | hv
        · exact h3 v hv
        · simp at hv; omega
      · show (3 - (i + 1)).toNat < (3 - i).toNat
        omega
    · rw [if_neg hi]
      exact ⟨_, rfl, mk0, l, rfl, k0, by omega, h3⟩
theorem zv5 {s1 : Int} {s2 : Int} {s4 : Int} {s5 : Int} {s6 : Int} {s7 : Int} {s8 : Int} {s9 : Int} {s10 : Int} {s11 : Int} {s12 : Int} {s13 : BitVec 64} {s15 : Int} {s16 : Int} {s17 : Int} {s18 : Int} {s19 : Int} {s20 : Int} {s21 : Int} {s22 : Int} {s23 : Int} {s24 : BitVec 64} {s25 : List Int} {s27 : List (List Int)} {s28 : List (List Int)} {s29 : List (List zh)} {s30 : List zj} {s31 : List (List Int)} {s32 : List (List Int)} {s33 : List (List zh)} {s34 : List zj} (hr : 1 ≤ (s25.length : Int)) (hs : 1 ≤ s23 ∧ s23 ≤ 2) {k0 : Int} (hk : 0 ≤ k0 ∧ k0 < 8) {mk : zy} (hm : Xg mk) :
    ∃ mk' l, ym um (s1, s2, k0, s4, s5, s6, s7, s8, s9, s10, s11, s12, s13, mk, s15, s16, s17, s18, s19, s20, s21, s22, s23, s24, s25, [], s27, s28, s29, s30, s31, s32, s33, s34, ()) = some (.brk (s1, s2, s4, s5, s6, s7, s8, s9, s10, s11, s12, s13, mk', s15, s16, s17, s18, s19, s20, s21, s22, s23, s24, s25, l, s27, s28, s29, s30, s31, s32, s33, s34, ())) ∧ Xg mk' ∧ (l.length : Int) ≤ 7 ∧ ∀ o ∈ l, zaP o (s25.length : Int) s23 := by
  refine (uf (f := um)
    (fun a => ∃ i mk l, a = (s1, s2, i, s4, s5, s6, s7, s8, s9, s10, s11, s12, s13, mk, s15, s16, s17, s18, s19, s20, s21, s22, s23, s24, s25, l, s27, s28, s29, s30, s31, s32, s33, s34, ()) ∧ Xg mk ∧ (0 ≤ i ∧ (l.length : Int) + i ≤ 7) ∧ ∀ o ∈ l, zaP o (s25.length : Int) s23)
    (fun a => (a.2.2.1).toNat)
    (fun o => match o with | .brk b => ∃ mk l, b = (s1, s2, s4, s5, s6, s7, s8, s9, s10, s11, s12, s13, mk, s15, s16, s17, s18, s19, s20, s21, s22, s23, s24, s25, l, s27, s28, s29, s30, s31, s32, s33, s34, ()) ∧ Xg mk ∧ (l.length : Int) ≤ 7 ∧ ∀ o ∈ l, zaP o (s25.length : Int) s23 | _ => False) ?_
    (s1, s2, k0, s4, s5, s6, s7, s8, s9, s10, s11, s12, s13, mk, s15, s16, s17, s18, s19, s20, s21, s22, s23, s24, s25, [], s27, s28, s29, s30, s31, s32, s33, s34, ()) ⟨k0, mk, [], rfl, hm, by simp; omega, by simp⟩ (wo (by simp; omega))).elim fun o h => ?_
  rotate_left
  · obtain ⟨ho, hq⟩ := h
    cases o with
    | again a => exact hq.elim
    | ret a => exact hq.elim
    | brk b =>
      obtain ⟨mk', l, rfl, h1, h2, h3⟩ := hq
      exact ⟨mk', l, ho, h1, h2, h3⟩
  · rintro _ ⟨i, mk, l, rfl, h1, h2, h3⟩
    rw [zfD, zn]
    by_cases hi : 0 < i
    · rw [if_pos hi]
      obtain ⟨o, mk', e, r, k⟩ := zxJ h1 hr hs.1
      rw [e, Option.bind_some, xT (by simp; omega), Option.bind_some, yp (a := i - 1) (by omega) (by omega)]
      refine ⟨_, rfl, ⟨i - 1, mk', l ++ [o], rfl, k, by simp; omega, fun v hv => ?_⟩, ?_⟩
      · rcases List.mem_append.1 hv with hv | hv
        · exact h3 v hv
        · simp at hv; subst hv; exact r
      · show (i - 1).toNat < i.toNat
        omega
    · rw [if_neg hi]
      exact ⟨_, rfl, mk, l, rfl, h1, by omega, h3⟩
theorem zvy {s1 : Int} {s3 : Int} {s4 : Int} {s5 : Int} {s6 : Int} {s7 : Int} {s8 : Int} {s9 : Int} {s10 : Int} {s11 : Int} {s12 : BitVec 64} {s14 : Int} {s15 : Int} {s16 : Int} {s17 : Int} {s18 : Int} {s19 : Int} {s20 : Int} {s21 : Int} {s22 : Int} {s23 : BitVec 64} {s24 : List (List Int)} {s25 : List (List Int)} {s26 : List (List zh)} {s27 : List zj} {s28 : List (List Int)} {s31 : List zj} (hn : 1 ≤ s1 ∧ s1 ≤ 6) (hm0 : 0 ≤ s15 ∧ s15 ≤ 2) (hs : 1 ≤ s22 ∧ s22 ≤ 2) {mk : zy} (hm : Xg mk) :
    ∃ regs progs, ym ZN (s1, 0, s3, s4, s5, s6, s7, s8, s9, s10, s11, s12, mk, s14, s15, s16, s17, s18, s19, s20, s21, s22, s23, s24, s25, s26, s27, s28, [], [], s31, ()) = some (.brk (s3, s4, s5, s6, s7, s8, s9, s10, s11, s12, s14, s15, s16, s17, s18, s19, s20, s21, s22, s23, s24, s25, s26, s27, s28, regs, progs, s31, ())) ∧ (regs.length : Int) = s15 ∧ (regs.length = progs.length) ∧ (∀ r ∈ regs, (1 ≤ (r.length : Int) ∧ (r.length : Int) ≤ 3) ∧ ∀ v ∈ r, 0 ≤ v ∧ v ≤ s1) ∧ ∀ (k : Nat) r ops, regs[k]? = some r → progs[k]? = some ops → (ops.length : Int) ≤ 7 ∧ ∀ o ∈ ops, zaP o (r.length : Int) s22 := by
  refine (uf (f := ZN)
    (fun a => ∃ i mk regs progs, a = (s1, i, s3, s4, s5, s6, s7, s8, s9, s10, s11, s12, mk, s14, s15, s16, s17, s18, s19, s20, s21, s22, s23, s24, s25, s26, s27, s28, regs, progs, s31, ()) ∧ Xg mk ∧ (0 ≤ i ∧ i ≤ s15 ∧ (regs.length : Int) = i) ∧ (regs.length = progs.length) ∧ (∀ r ∈ regs, (1 ≤ (r.length : Int) ∧ (r.length : Int) ≤ 3) ∧ ∀ v ∈ r, 0 ≤ v ∧ v ≤ s1) ∧ ∀ (k : Nat) r ops, regs[k]? = some r → progs[k]? = some ops → (ops.length : Int) ≤ 7 ∧ ∀ o ∈ ops, zaP o (r.length : Int) s22)
    (fun a => (s15 - a.2.1).toNat)
    (fun o => match o with | .brk b => ∃ regs progs, b = (s3, s4, s5, s6, s7, s8, s9, s10, s11, s12, s14, s15, s16, s17, s18, s19, s20, s21, s22, s23, s24, s25, s26, s27, s28, regs, progs, s31, ()) ∧ (regs.length : Int) = s15 ∧ (regs.length = progs.length) ∧ (∀ r ∈ regs, (1 ≤ (r.length : Int) ∧ (r.length : Int) ≤ 3) ∧ ∀ v ∈ r, 0 ≤ v ∧ v ≤ s1) ∧ ∀ (k : Nat) r ops, regs[k]? = some r → progs[k]? = some ops → (ops.length : Int) ≤ 7 ∧ ∀ o ∈ ops, zaP o (r.length : Int) s22 | _ => False) ?_
    (s1, 0, s3, s4, s5, s6, s7, s8, s9, s10, s11, s12, mk, s14, s15, s16, s17, s18, s19, s20, s21, s22, s23, s24, s25, s26, s27, s28, [], [], s31, ()) ⟨0, mk, [], [], rfl, hm, by simp; omega, rfl, by simp, by simp⟩ (wo (by simp; omega))).elim fun o h => ?_
  rotate_left
  · obtain ⟨ho, hq⟩ := h
    cases o with
    | again a => exact hq.elim
    | ret a => exact hq.elim
    | brk b =>
      obtain ⟨regs, progs, rfl, h⟩ := hq
      exact ⟨regs, progs, ho, h⟩
  · rintro _ ⟨i, mk, regs, progs, rfl, h1, h2, h3, h4, h5⟩
    rw [zf2, zn]
    by_cases hi : i < s15
    · rw [if_pos hi]
      obtain ⟨mk1, r, e, g1, g2, g3⟩ := zvm hn h1
      rw [e]
      simp only [Option.bind_some]
      rw [zn, if_neg (by omega)]
      obtain ⟨b, mk2, e2, r2, k2⟩ := vC g1
      rw [e2, Option.bind_some]
      obtain ⟨mk3, ops, e3, f1, f2, f3⟩ := zv5 (s25 := r) g2.1 hs (wR r2.1 (show (0 : Int) < 8 by omega)) k2
      rw [e3]
      simp only [Option.bind_some]
      rw [xT (by simp; omega), Option.bind_some, xT (by simp; omega), Option.bind_some, yp (a := i + 1) (by omega) (by omega)]
      refine ⟨_, rfl, ⟨i + 1, mk3, regs ++ [r], progs ++ [ops], rfl, f1, by simp; omega, by simp [h3], fun v hv => ?_, fun k r' ops' hk1 hk2 => ?_⟩, ?_⟩
      · rcases List.mem_append.1 hv with hv | hv
        · exact h4 v hv
        · simp at hv; subst hv; exact ⟨g2, g3⟩
      · rcases Nat.lt_or_ge k regs.length with hlt | hge
        · rw [List.getElem?_append_left hlt] at hk1
          rw [List.getElem?_append_left (by omega)] at hk2
          exact h5 k r' ops' hk1 hk2
        · rw [List.getElem?_append_right hge] at hk1
          rw [List.getElem?_append_right (by omega), ← h3] at hk2
          have hk0 : k - regs.length = 0 := by
            have := (List.getElem?_eq_some_iff.1 hk1).1
            simpa using this
          rw [hk0] at hk1 hk2
          simp at hk1 hk2
          subst hk1; subst hk2
          exact ⟨f2, f3⟩
      · show (s15 - (i + 1)).toNat < (s15 - i).toNat
        omega
    · rw [if_neg hi]
      exact ⟨_, rfl, regs, progs, rfl, by omega, h3, h4, h5⟩
theorem zwJ (l : List (BitVec 8)) : ∃ p, Ut l = some (p, ()) ∧ z3 p := by
  rw [ziW, zn]
  obtain ⟨m, em, hl⟩ : ∃ m, cut l 0 (if 90 < (l.length : Int) then 90 else (l.length : Int)) = some m ∧ m.length ≤ 90 := by
    unfold cut
    by_cases h : 90 < (l.length : Int)
    · have h2 : (90 : Int) ≤ l.length := by omega
      rw [if_pos h]; exact ⟨l.take 90, by simp [h2], List.length_take_le _ _⟩
    · rw [if_neg h]; exact ⟨l, by simp, by omega⟩
  rw [em, Option.bind_some]
  obtain ⟨b1, m1, e1, r1, k1⟩ := vC (m := ⟨m, 0⟩) ⟨by simp, by simp, hl⟩
  obtain ⟨b2, m2, e2, r2, k2⟩ := vC k1
  obtain ⟨b3, m3, e3, r3, k3⟩ := vC k2
  obtain ⟨b4, m4, e4, r4, k4⟩ := vC k3
  obtain ⟨b5, m5, e5, r5, k5⟩ := vC k4
  obtain ⟨b6, m6, e6, r6, k6⟩ := vC k5
  obtain ⟨b7, m7, e7, r7, k7⟩ := vC k6
  obtain ⟨b8, m8, e8, r8, k8⟩ := vC k7
  obtain ⟨b9, m9, e9, r9, k9⟩ := vC k8
  obtain ⟨b10, m10, e10, r10, k10⟩ := vC k9
  simp only [e1, e2, e3, e4, e5, e6, e7, e8, e9, e10, Option.bind_some]
  have t1 := wR r1.1 (show (0 : Int) < 3 by omega)
  have t2 := wR r2.1 (show (0 : Int) < 3 by omega)
  have t3 := wR r3.1 (show (0 : Int) < 3 by omega)
  have t4 := wR r4.1 (show (0 : Int) < 2 by omega)
  have t5 := wR r5.1 (show (0 : Int) < 3 by omega)
  have t6 := wR r6.1 (show (0 : Int) < 4 by omega)
  have t7 := wR r7.1 (show (0 : Int) < 4 by omega)
  have t8 := wR r8.1 (show (0 : Int) < 2 by omega)
  have t9 := wR r9.1 (show (0 : Int) < 6 by omega)
  have t10 := wR r10.1 (show (0 : Int) < 4 by omega)
  rw [yp (a := 1 + b9.tmod 6) (by omega) (by omega), yp (a := 1 + b1.tmod 3) (by omega) (by omega), yp (a := 1 + b3.tmod 3) (by omega) (by omega), yp (a := 1 + b4.tmod 2) (by omega) (by omega), yp (a := 1 + b5.tmod 3) (by omega) (by omega),
    yp (a := 1 + b9.tmod 6 + b10.tmod 4) (by omega) (by omega), yp (a := 1 + b8.tmod 2) (by omega) (by omega)]
  obtain ⟨m11, objs, e11, g1, g2, g3⟩ := zwM (s1 := 1 + b9.tmod 6) (s22 := 1 + b8.tmod 2) (by omega) (by omega) k10
  rw [e11]
  simp only [Option.bind_some]
  obtain ⟨b12, m12, e12, r12, k12⟩ := vC g1
  rw [e12, Option.bind_some, yp (a := 1 + b9.tmod 6 + 1) (by omega) (by omega), zn, if_neg (by omega)]
  have t12 := wR r12.1 (show (0 : Int) < 1 + b9.tmod 6 + 1 by omega)
  rw [zlu, Option.bind_some]
  obtain ⟨regs, progs, e13, f1, f2, f3, f4⟩ := zvy (s1 := 1 + b9.tmod 6) (s15 := b2.tmod 3) (s22 := 1 + b8.tmod 2) (by omega) (by omega) (by omega) k12
  rw [e13]
  simp only [Option.bind_some]
  refine ⟨_, rfl, ?_⟩
  constructor <;> dsimp only
  case objs => intro o ho; rw [g2]; exact g3 o ho
  case roots => exact ⟨b12.tmod (1 + b9.tmod 6 + 1), by omega, by omega, by simp⟩
  case reg => rw [g2]; exact f3
  case prog => exact f4
  all_goals first | omega | rfl
end B16
end
end Go.Pe.G
namespace Go.Pe.G
open Go.Pe
noncomputable section
theorem V8 {α β B C : Type} {f : List α × Int × Int × β → Option (yW (List α × Int × Int × β) B C)} {l : List α} {e : β} {b : B} (hl : l.length < 1000000)
    (h1 : ∀ (i : Nat) (x : α), l[i]? = some x → f (l, (l.length : Int), (i : Int), e) = some (.again (l, (l.length : Int), ((i + 1 : Nat) : Int), e)))
    (h2 : f (l, (l.length : Int), (l.length : Int), e) = some (.brk b)) : ym f (l, (l.length : Int), 0, e) = some (.brk b) := by
  refine (uf (f := f) (fun a => ∃ i : Nat, a = (l, (l.length : Int), (i : Int), e) ∧ i ≤ l.length) (fun a => l.length - a.2.2.1.toNat) (fun o => o = .brk b) ?_ (l, (l.length : Int), 0, e) ⟨0, rfl, by omega⟩ (wo (by simp; omega))).elim fun o h => ?_
  rotate_left
  · rw [h.1, h.2]
  · rintro _ ⟨i, rfl, hi⟩
    rcases Nat.lt_or_ge i l.length with hlt | hge
    · refine ⟨_, h1 i _ (List.getElem?_eq_getElem hlt), ⟨i + 1, rfl, hlt⟩, ?_⟩
      show l.length - ((i + 1 : Nat) : Int).toNat < l.length - (i : Int).toNat
      omega
    · have : i = l.length := by omega
      subst this
      exact ⟨_, h2, rfl⟩
theorem wt {α : Type} {l : List α} {i : Nat} {x : α} (h : l[i]? = some x) : idx l (i : Int) = some x := by
  rw [vK (by omega)]; simpa using h
theorem wU {α : Type} {l : List α} {i : Nat} {x : α} (h : l[i]? = some x) : (i : Int) < (l.length : Int) := by
  have := (List.getElem?_eq_some_iff.1 h).1; omega
theorem xd {i : Nat} (h : i < 1000000) : w64 ((i : Int) + 1) = ((i + 1 : Nat) : Int) := by
  rw [yp (by omega) (by omega)]; omega
theorem zcV (a b c : Int) : vv a b c = some (decide (b ≤ a ∧ a ≤ c), ()) := by
  rw [zmL, zn]
  by_cases h : b ≤ a
  · rw [if_pos h]; simp [h]
  · rw [if_neg h]; simp [h]
theorem ztU {l : List Int} {h : zu} (hl : l.length < 1000000) (hv : ∀ v ∈ l, 0 ≤ v ∧ v ≤ (h.Objs.length : Int)) : xH l h = some (false, ()) := by
  rw [Z0, YI, V8 (b := ()) hl (fun i x hx => ?_) (by rw [wS]; simp)]
  · rfl
  · have hm := hv x (List.mem_of_getElem? hx)
    have hlt := wU hx
    rw [wS, zn, if_pos hlt, wt hx, Option.bind_some, zjY, zn, if_neg (show ¬ x < 0 by omega), Option.bind_some, xd (by omega)]
    simp [show ¬ (h.Objs.length : Int) < x by omega]
theorem zur {l : List Int} {n : Int} (hl : l.length < 1000000) (hv : ∀ v ∈ l, 0 ≤ v ∧ v ≤ n) : xO l n = some (false, ()) := by
  rw [Yw, Xd, V8 (b := ()) hl (fun i x hx => ?_) (by rw [vc]; simp)]
  · rfl
  · have hm := hv x (List.mem_of_getElem? hx)
    have hlt := wU hx
    rw [vc, wt hx, Option.bind_some, zlF, zcV, Option.bind_some, Option.bind_some, xd (by omega), zn, if_pos hlt]
    simp [hm]
theorem zqc {l : List (List Int)} {h : zu} (hl : l.length < 1000000) (hs : h.Slots < 1000000) (hv : ∀ o ∈ l, (o.length : Int) = h.Slots ∧ ∀ v ∈ o, 0 ≤ v ∧ v ≤ (h.Objs.length : Int)) : xE l h = some (false, ()) := by
  rw [ZZ, YG, V8 (b := ()) hl (fun i x hx => ?_) (by rw [wT]; simp)]
  · rfl
  · have hm := hv x (List.mem_of_getElem? hx)
    have hlt := wU hx
    rw [wT, wt hx, Option.bind_some, zlA, yg, if_pos hm.1, ztU (by omega) hm.2, Option.bind_some, Option.bind_some, xd (by omega), zn, if_pos hlt]
    rfl
theorem zob {r n : Int} (h : 0 ≤ r ∧ r < n) (h2 : n ≤ 4) : zP r n = some (true, ()) := by
  rw [zlL, zn, if_pos h.1, zn]
  rw [if_neg (by omega)]
  simp [h.2]
theorem zv3 {o : zh} {regs slots : Int} (h : zaP o regs slots) (h2 : regs ≤ 4) (h3 : slots ≤ 4) : zfm o regs slots = some (true, ()) := by
  obtain ⟨hr, h⟩ := h
  have e1 := zob hr h2
  have h4 : ¬ 4 < slots := by omega
  rw [znO]
  rcases h with ⟨hk | hk, ha, hs⟩ | ⟨hk, ha, hs⟩ | ⟨hk | hk, ha, hs⟩
  · have e2 := zob ha h2
    simp [hk, e1, e2, hs.1, hs.2, h4]
  · have e2 := zob ha h2
    simp [hk, e1, e2, hs.1, hs.2, h4]
  · have e2 := zob ha h2
    simp [hk, e1, e2, hs]
  · simp [hk, e1, ha, hs]
  · simp [hk, e1, ha, hs]
theorem zwL {l : List zh} {regs slots : Int} (hl : (l.length : Int) ≤ 64) (h : ∀ o ∈ l, zaP o regs slots) (h2 : regs ≤ 4) (h3 : slots ≤ 4) : zhB l regs slots = some (true, ()) := by
  rw [zo8, zn, if_pos hl, Zm, ZE, V8 (b := ()) (by omega) (fun i x hx => ?_) (by rw [wy]; simp)]
  · rfl
  · have hlt := wU hx
    rw [wy, wt hx, Option.bind_some, zmn, zv3 (h x (List.mem_of_getElem? hx)) h2 h3, Option.bind_some, Option.bind_some, xd (by omega), zn, if_pos hlt]
    rfl
theorem zux (a b : Int) : zfX [] a b = some (true, ()) := by
  rw [zow, uH, u5, V8 (b := ()) (by simp) (fun i x hx => by simp at hx) (by rw [uI]; simp)]
  rfl
def Uz (n : Int) : BitVec 64 := if n < 1 then 0#64 else 18446744073709551615#64 >>> (64 - min n 64).toNat
theorem zu6 (n : Int) (h : 0 ≤ n) : zhK n = some (Uz n, ()) := by
  rw [zoN, zn]
  unfold Uz
  by_cases h1 : n < 1
  · rw [if_pos h1, if_pos h1]
  · rw [if_neg h1, if_neg h1]
    simp only [zn]
    have e : (if 64 < n then (64 : Int) else n) = min n 64 := by
      by_cases h2 : 64 < n
      · rw [if_pos h2]; omega
      · rw [if_neg h2]; omega
    rw [e, yp (by omega) (by omega), if_neg (by omega), Nat.min_eq_left (by omega)]
theorem zpU : ∀ (r n : Fin 7), r.1 ≤ n.1 → bit (r.1 : Int) &&& ~~~Uz (n.1 : Int) = 0#64 := by decide
theorem zmc {p : zd} (h : z3 p) : p.Roots &&& ~~~Uz (p.H.Objs.length : Int) = 0#64 := by
  obtain ⟨r, h1, h2, h3⟩ := h.roots
  have hn := h.n
  have := zpU ⟨r.toNat, by omega⟩ ⟨p.H.Objs.length, by omega⟩ (by show r.toNat ≤ p.H.Objs.length; omega)
  rw [h3]
  simpa [Int.toNat_of_nonneg h1] using this
theorem ztl {p : zd} (h : z3 p) : Ur p = some (true, ()) := by
  obtain ⟨h1, h2, h3, h4, h5, h6, h7, _⟩ := h
  rw [zjI]
  simp only [zcV, Option.bind_some, zn]
  rw [if_pos (by omega), if_pos (by omega), if_pos (by omega), if_pos (by omega), if_pos (by omega), if_pos (by split <;> omega)]
  have : (if p.Price < p.Limit then p.Limit else p.Price) ≤ 1000000 := by split <;> omega
  simp [this]
theorem ztI {p : zd} (h : z3 p) : WC p.H = some (true, ()) := by
  have := h.slots
  have := h.n
  rw [zhe, zn, if_pos (by omega), zn, if_pos (by omega), zn, if_pos (by omega), zqc (by omega) (by omega) h.objs]
  rfl
theorem ztF {p : zd} (h : z3 p) : zfN p = some (true, ()) := by
  have hn := h.n
  have hm := h.most
  have hsl := h.slots
  have hmt := h.mt
  have hrl := h.regs
  have hpl := h.progs
  rw [zoc, ztl h]
  simp only [Option.bind_some, Bool.not_true, cond_false, ztI h, zcV]
  rw [show decide ((p.H.Objs.length : Int) ≤ p.Most ∧ p.Most ≤ 64) = true by simp; omega]
  simp only [Bool.not_true, cond_false, zu6 _ (show (0 : Int) ≤ (p.H.Objs.length : Int) by omega), Option.bind_some, zoJ, zmc h, decide_true, yg, if_pos h.regs, if_pos h.progs]
  rw [V8 (b := (p, ())) (by omega) (fun i x hx => ?_) (by rw [zdb]; simp)]
  · simp [h.picks, zux]
  · have hlt := wU hx
    have hr := h.reg x (List.mem_of_getElem? hx)
    obtain ⟨ops, hops⟩ : ∃ ops, p.Progs[i]? = some ops := ⟨_, List.getElem?_eq_getElem (by omega)⟩
    obtain ⟨o1, o2⟩ := h.prog i x ops hx hops
    rw [zdb, zn, if_pos hlt, wt hx]
    simp only [Option.bind_some, zcV]
    rw [show decide (1 ≤ (x.length : Int) ∧ (x.length : Int) ≤ 4) = true by simp; omega]
    simp only [Bool.not_true, cond_false, zur (show x.length < 1000000 by omega) hr.2, Option.bind_some, wt hops, zwL (show (ops.length : Int) ≤ 64 by omega) o2 (show (x.length : Int) ≤ 4 by omega) (show p.H.Slots ≤ 4 by omega), xd (show i < 1000000 by omega)]
end
end Go.Pe.G
namespace Go.Pe.G
open Go.Pe
noncomputable section
theorem zab {n : Int} (h : 0 ≤ n) (h2 : n < 4294967296) : Za n = some n.toNat := by rw [zgZ]; simp [h, h2]
theorem zpT {n : Int} (h : 0 < n) (h2 : n < 4294967296) : zdy n = some n.toNat := by rw [znm]; simp [h, h2]
def zn3 (l : List Int) : BitVec 64 := l.foldl (fun s o => s ||| bit o) 0#64
def Wi (p : zd) : BitVec 64 := p.Regs.foldl (fun s l => s ||| zn3 l) p.Roots
def zxP (a1 : BitVec 64) : BitVec 64 :=
  let a := ((a1 >>> 1) &&& 6148914691236517205#64) + (a1 &&& 6148914691236517205#64)
  let b := ((a >>> 2) &&& 3689348814741910323#64) + (a &&& 3689348814741910323#64)
  let c := ((b >>> 4) + b) &&& 1085102592571150095#64
  let d := c + (c >>> 8)
  let e := d + (d >>> 16)
  e + (e >>> 32)
def cnt (s : BitVec 64) : Int := (BitVec.ofInt 64 (zxP s).toInt &&& BitVec.ofInt 64 127).toInt
theorem zuH (s : BitVec 64) : zhU s = some (cnt s, ()) := by
  rw [zpA, zim, zrb]; rfl
theorem ub {m : List Int} (h : m.length < 4294967296) : z8 m = some (m, ()) := by
  rw [zdO, List.nil_append, xT h, Option.bind_some]
  cases m with
  | nil => simp [zds]
  | cons a l => simp
theorem zxk {l : List Int} (hl : l.length < 1000000) : zm7 l = some (zn3 l, ()) := by
  rw [zsK]
  refine (uf (f := zhR) (fun a => ∃ i : Nat, a = ((l.take i).foldl (fun s o => s ||| bit o) 0#64, l, (l.length : Int), (i : Int), ()) ∧ i ≤ l.length) (fun a => l.length - a.2.2.2.1.toNat) (fun o => o = .brk (zn3 l, ())) ?_ (0#64, l, (l.length : Int), 0, ()) ⟨0, rfl, by omega⟩ (wo (by simp; omega))).elim fun o h => ?_
  rotate_left
  · rw [h.1, h.2]; rfl
  · rintro _ ⟨i, rfl, hi⟩
    rw [zoL, zn]
    rcases Nat.lt_or_ge i l.length with hlt | hge
    · have hx := List.getElem?_eq_getElem hlt
      rw [if_pos (by omega), wt hx, Option.bind_some, zlu, Option.bind_some, xd (by omega)]
      refine ⟨_, rfl, ⟨i + 1, ?_, hlt⟩, ?_⟩
      · rw [List.take_add_one, hx]; simp only [Option.toList_some, List.foldl_append, List.foldl_cons, List.foldl_nil]
      · show l.length - ((i + 1 : Nat) : Int).toNat < l.length - (i : Int).toNat
        omega
    · rw [if_neg (by omega)]
      have : i = l.length := by omega
      subst this
      exact ⟨_, rfl, by rw [List.take_length]; rfl⟩
theorem ztX {p : zd} (hl : p.Regs.length < 1000000) (hr : ∀ r ∈ p.Regs, r.length < 1000000) : zfv p = some (Wi p, ()) := by
  rw [zou]
  refine (uf (f := zbu) (fun a => ∃ i : Nat, a = ((p.Regs.take i).foldl (fun s l => s ||| zn3 l) p.Roots, p.Regs, (p.Regs.length : Int), (i : Int), ()) ∧ i ≤ p.Regs.length) (fun a => p.Regs.length - a.2.2.2.1.toNat) (fun o => o = .brk (Wi p, ())) ?_ (p.Roots, p.Regs, (p.Regs.length : Int), 0, ()) ⟨0, rfl, by omega⟩ (wo (by simp; omega))).elim fun o h => ?_
  rotate_left
  · rw [h.1, h.2]; rfl
  · rintro _ ⟨i, rfl, hi⟩
    rw [zkz, zn]
    rcases Nat.lt_or_ge i p.Regs.length with hlt | hge
    · have hx := List.getElem?_eq_getElem hlt
      rw [if_pos (by omega), wt hx, Option.bind_some, zxk (hr _ (List.getElem_mem hlt)), Option.bind_some, xd (by omega)]
      refine ⟨_, rfl, ⟨i + 1, ?_, hlt⟩, ?_⟩
      · rw [List.take_add_one, hx]; simp only [Option.toList_some, List.foldl_append, List.foldl_cons, List.foldl_nil]
      · show p.Regs.length - ((i + 1 : Nat) : Int).toNat < p.Regs.length - (i : Int).toNat
        omega
    · rw [if_neg (by omega)]
      have : i = p.Regs.length := by omega
      subst this
      exact ⟨_, rfl, by rw [List.take_length]; rfl⟩
theorem zks {l : List (List Int)} (hl : l.length < 1000000) (h : ∀ r ∈ l, r.length < 1000000) : yI l = some (l, ()) := by
  have key : ∀ n : Int, n = (l.length : Int) → ym yD (n, 0, l, ()) = some (.brk (l, ())) := by
    rintro _ rfl
    refine (uf (f := yD) (fun a => ∃ i : Nat, a = ((l.length : Int), (i : Int), l, ()) ∧ i ≤ l.length) (fun a => l.length - a.2.1.toNat) (fun o => o = .brk (l, ())) ?_ ((l.length : Int), 0, l, ()) ⟨0, rfl, by omega⟩ (wo (by simp; omega))).elim fun o h => ?_
    rotate_left
    · rw [h.1, h.2]
    · rintro _ ⟨i, rfl, hi⟩
      rw [YO, zn]
      rcases Nat.lt_or_ge i l.length with hlt | hge
      · have hx := List.getElem?_eq_getElem hlt
        have hr := h _ (List.getElem_mem hlt)
        have e : y0 l (i : Int) = some i := by rw [vY (by omega) (by omega)]; simp
        rw [if_pos (by omega), e]
        simp only [Option.bind_some]
        rw [hx, Option.bind_some, ub (by omega), Option.bind_some, xd (by omega)]
        refine ⟨_, rfl, ⟨i + 1, by simp, hlt⟩, ?_⟩
        show l.length - ((i + 1 : Nat) : Int).toNat < l.length - (i : Int).toNat
        omega
      · rw [if_neg (by omega)]
        have : i = l.length := by omega
        subst this
        exact ⟨_, rfl, rfl⟩
  have hc : Za (l.length : Int) = some l.length := by rw [zab (by omega) (by omega)]; simp
  rw [XA]
  simp only [decide_true, cond_true, hc, Option.bind_some, List.length_replicate]
  cases l with
  | nil => simp; rw [key 0 rfl]; rfl
  | cons a r => simp only [List.isEmpty_cons, cond_false]; rw [key _ rfl]; rfl
def ziH (cap : Int) : List (BitVec 64) := [1#64, 1#64] ++ List.replicate cap.toNat 0#64
theorem zsR {c : Int} (h : 1 ≤ c) (h2 : c ≤ 64) : zdT c = some (ziH c, ()) := by
  have e : (if 64 < (if c < 1 then (1 : Int) else c) then (64 : Int) else (if c < 1 then (1 : Int) else c)) = c := by
    rw [if_neg (show ¬ c < 1 by omega), if_neg (by omega)]
  have w : w64 (2 + c) = 2 + c := yp (by omega) (by omega)
  have hc : Za (2 + c) = some (2 + c.toNat) := by rw [zab (by omega) (by omega)]; congr 1; omega
  rw [zmX]
  simp only [zn, e, w, if_true, hc, Option.bind_some]
  rw [vY (by omega) (by simp; omega), Option.bind_some, vY (by omega) (by simp; omega), Option.bind_some]
  have e2 : List.replicate (2 + c.toNat) 0#64 = 0#64 :: 0#64 :: List.replicate c.toNat 0#64 := by rw [Nat.add_comm 2]; rfl
  rw [e2]; rfl
theorem ztK {m : Int} (h : 0 ≤ m) (h2 : m ≤ 16) : zfr m = some (⟨0, 0, 0, List.replicate m.toNat 0⟩, ()) := by
  have e : (if (if 16 < m then (16 : Int) else m) < 0 then (0 : Int) else (if 16 < m then (16 : Int) else m)) = m := by
    rw [if_neg (show ¬ 16 < m by omega), if_neg (by omega)]
  have hc : Za m = some m.toNat := zab (by omega) (by omega)
  rw [znx]
  simp only [zn, e, if_true, hc, Option.bind_some]
def links (m : List (BitVec 64)) (next : Int) : List Int → List (BitVec 64)
  | [] => m
  | [a] => st m (wc (next + a)) 0#64
  | a :: b :: l => links (st m (wc (next + a)) (BitVec.ofInt 64 b)) next (b :: l)
def zjD (m : List (BitVec 64)) (head next : Int) (l : List Int) : List (BitVec 64) := st (links m next l) head (WF 0#64 (l.headD 0))
theorem Vf (m : List (BitVec 64)) (a : Int) (v : BitVec 64) : (st m a v).length = m.length := by unfold st; split <;> simp
theorem zg9 : ∀ (l : List Int) (m : List (BitVec 64)) (n : Int), (links m n l).length = m.length
  | [], _, _ => rfl
  | [a], m, n => Vf _ _ _
  | a :: b :: l, m, n => by simp only [links]; rw [zg9 (b :: l), Vf]
theorem zmA (m : List (BitVec 64)) (h n : Int) (l : List Int) : (zjD m h n l).length = m.length := by unfold zjD; rw [Vf, zg9]
theorem zmj {head next : Int} {l : List Int} (hl : l.length < 1000000) : ∀ (k : Nat) (m : List (BitVec 64)) (i : Nat), l.length - i = k → i ≤ l.length → m.length < 4294967296 →
    ∀ n, k < n → uE zce n (m, head, next, l, (l.length : Int), (i : Int), ()) = some (.brk (links m next (l.drop i), head, l, ()))
  | 0, m, i, hk, hi, hm, n + 1, hn => by
    have : i = l.length := by omega
    subst this
    simp only [uE]
    rw [zei, zn, if_neg (by omega), Option.bind_some, List.drop_length]; rfl
  | k + 1, m, i, hk, hi, hm, n + 1, hn => by
    have hlt : i < l.length := by omega
    have hx := List.getElem?_eq_getElem hlt
    simp only [uE]
    rw [zei, zn, if_pos (by omega), xd (by omega), zn, xx]
    by_cases h2 : i + 1 < l.length
    · have hy := List.getElem?_eq_getElem h2
      have ed : l.drop i = l[i] :: l[i + 1] :: l.drop (i + 2) := by
        rw [List.drop_eq_getElem_cons hlt, List.drop_eq_getElem_cons h2]
      rw [if_pos (by omega), wt hy, Option.bind_some, wt hx, Option.bind_some, Uy hm, Option.bind_some, Option.bind_some]
      dsimp only
      rw [zmj hl k _ (i + 1) (by omega) (by omega) (by rw [Vf]; exact hm) n (by omega), ed]
      rw [List.drop_eq_getElem_cons h2]; rfl
    · have ed : l.drop i = [l[i]] := by
        rw [List.drop_eq_getElem_cons hlt, List.drop_eq_nil_of_le (by omega)]
      rw [if_neg (by omega), wt hx, Option.bind_some, Uy hm, Option.bind_some, Option.bind_some]
      dsimp only
      rw [zmj hl k _ (i + 1) (by omega) (by omega) (by rw [Vf]; exact hm) n (by omega), ed, List.drop_eq_nil_of_le (by omega)]
      rfl
theorem zp0 {m : List (BitVec 64)} (hm : m.length < 4294967296) {head next : Int} {l : List Int} (hl : l.length < 1000000) : zcT m head next l = some (zjD m head next l, ()) := by
  have e := zmj (head := head) (next := next) hl l.length m 0 (by omega) (by omega) hm YC (wo (by omega))
  rw [show ((0 : Nat) : Int) = 0 from rfl] at e
  rw [zpk, VQ, e]
  simp only [Option.bind_some, List.drop_zero, zn]
  unfold zjD
  cases l with
  | nil =>
    rw [if_neg (by simp), zeN, Option.bind_some, Uy (by rw [zg9]; exact hm)]; rfl
  | cons a r =>
    have : idx (a :: r) 0 = some a := by rw [vK (by omega)]; rfl
    rw [if_pos (by simp), this, Option.bind_some, zeN, Option.bind_some, Uy (by rw [zg9]; exact hm)]; rfl
def zqN : Nat → BitVec 64 → Option (List Int)
  | 0, _ => none
  | f + 1, s => bif decide (s = 0#64) then some [] else (zqN f (s &&& (s - 1#64))).map fun l => (((Go.Lib.ctz 64 s.toNat : Nat) : Int) + 1) :: l
theorem zsI : ∀ t : Fin 64, zqN 66 (BitVec.ofNat 64 t.1) = some (((List.range 6).filter fun i => (BitVec.ofNat 64 t.1).getLsbD i).map fun i : Nat => (i : Int) + 1) := by decide +kernel
def zcX (s : BitVec 64) : List Int := ((List.range 6).filter fun i => s.getLsbD i).map fun i : Nat => (i : Int) + 1
theorem zsh {s : BitVec 64} (h : s &&& ~~~63#64 = 0#64) : ∃ t : Fin 64, s = BitVec.ofNat 64 t.1 := by
  have h2 : s = s &&& 63#64 := by
    apply BitVec.eq_of_getLsbD_eq
    intro i hi
    have := congrArg (fun x => x.getLsbD i) h
    simp only [BitVec.getLsbD_and, BitVec.getLsbD_not, hi, decide_true, Bool.true_and, BitVec.getLsbD_zero] at this ⊢
    cases h1 : s.getLsbD i <;> cases h3 : (63#64 : BitVec 64).getLsbD i <;> simp_all
  have h3 : s.toNat < 64 := by
    rw [h2, BitVec.toNat_and]
    exact Nat.lt_of_le_of_lt Nat.and_le_right (by decide)
  exact ⟨⟨s.toNat, h3⟩, by simp⟩
theorem zxF : ∀ t : Fin 64, Go.Lib.ctz 64 t.1 ≤ 64 := by decide +kernel
theorem zpV : ∀ (f : Nat) (s : BitVec 64), s.toNat < 64 → zat f s = zqN f s
  | 0, _, _ => rfl
  | f + 1, s, h => by
    simp only [zat, zqN]
    rw [zpV f _ (by rw [BitVec.toNat_and]; exact Nat.lt_of_le_of_lt Nat.and_le_left h)]
    have : Go.Lib.ctz 64 s.toNat ≤ 64 := zxF ⟨s.toNat, h⟩
    have e : w64 (tz s + 1) = ((Go.Lib.ctz 64 s.toNat : Nat) : Int) + 1 := by
      unfold tz
      exact yp (by omega) (by omega)
    rw [e]
theorem znh : ∀ (l acc : List Int), (acc.length + l.length) < 4294967296 → ZK zdW l (acc, ()) = some (acc ++ l, ())
  | [], acc, _ => by simp [ZK]
  | a :: l, acc, h => by
    simp only [List.length_cons] at h
    rw [ZK, zm9, xT (by simp; omega), Option.bind_some, Option.bind_some, znh l _ (by simp; omega)]
    simp
theorem zuz (s : BitVec 64) : (zcX s).length ≤ 6 := by
  unfold zcX
  rw [List.length_map]
  exact Nat.le_trans (List.length_filter_le _ _) (by simp)
theorem zvl {s : BitVec 64} (h : s &&& ~~~63#64 = 0#64) : zjd s = some (zcX s, ()) := by
  obtain ⟨t, rfl⟩ := zsh h
  have e : zla (BitVec.ofNat 64 t.1) = some (zcX (BitVec.ofNat 64 t.1)) := by
    show zat 66 _ = _
    rw [zpV 66 _ (by simp; omega), zsI t]; rfl
  have := zuz (BitVec.ofNat 64 t.1)
  rw [zqr, zqB, Option.bind_some, e, Option.bind_some, znh _ _ (by simp; omega)]
  rfl
theorem znq (n : Nat) (hn : 1 ≤ n) : ∀ (f : Nat) (l : List Int), (Zu n f l).length ≤ l.length
  | 0, l => by simp [Zu]
  | f + 1, [] => by simp [Zu]
  | f + 1, x :: l => by
    have := znq n hn f ((x :: l).drop n)
    simp only [Zu, List.length_cons, List.length_drop] at this ⊢
    omega
theorem zhA (n : Nat) : ∀ (f : Nat) (l c : List Int), c ∈ Zu n f l → c.length ≤ l.length
  | 0, l, c, h => by simp [Zu] at h
  | f + 1, [], c, h => by simp [Zu] at h
  | f + 1, x :: l, c, h => by
    simp only [Zu, List.mem_cons] at h
    rcases h with rfl | h
    · rw [List.length_take]; exact Nat.min_le_right _ _
    · have := zhA n f _ c h
      simp only [List.length_drop] at this
      omega
def Uc (p : zd) (w : Nat) : zi := ⟨0, 0, 0, (w : Int) + 1, 0, [], ⟨2, 0, Z4 p ((w : Int) + 1), p.Cap, 0#64, 0#64, 0, 0⟩, ⟨0, 0, 0, 0, 0#64, 0, 0, 0⟩, ⟨0, 0, 0, 0, ⟨0, 0, 0, 0, 0#64, 0#64, 0, 0⟩, ⟨0, 0, 0, 0, 0#64, 0, 0, 0⟩, 0, 0⟩⟩
def Wr (p : zd) (k : Nat) : List (BitVec 64) := (List.range k).flatMap fun _ => ziH p.Cap
theorem znb (c : Int) : (ziH c).length = c.toNat + 2 := by unfold ziH; rw [List.length_append, List.length_replicate]; exact Nat.add_comm _ _
theorem zlZ (p : zd) (k : Nat) : Wr p (k + 1) = Wr p k ++ ziH p.Cap := by unfold Wr; rw [List.range_succ, List.flatMap_append]; simp
theorem zeI (p : zd) : ∀ k, (Wr p k).length = k * (p.Cap.toNat + 2)
  | 0 => by simp [Wr]
  | k + 1 => by rw [zlZ, List.length_append, zeI p k, znb, Nat.succ_mul]
theorem zwO {p : zd} {s1 : BitVec 64} {s5 : Int} {s6 : Int} {s7 : Int} {s8 : Int} {s9 : Int} {s10 : Int} {s11 : Int} {s12 : Int} {s13 : Int} {s14 : BitVec 64} {s15 : Int} {s16 : zq} {s17 : Int} {s18 : Int} {s19 : Bool} {s20 : Bool} {s21 : Int} {s22 : Int} {s23 : Int} {s24 : Int} {s25 : zp} {s26 : zd} {s27 : Int} {s28 : zq} {s29 : Int} {s30 : Int} {s31 : Bool} {s32 : Bool} {s33 : Int} {s34 : zk} {s35 : zp} {s36 : List (List Int)} {s37 : List (List Int)} {s38 : List (List zh)} {s39 : List zj} {s40 : List (List Int)} {s41 : List (BitVec 64)} {s42 : List (List Int)} {s43 : List Int} {s44 : List Int} {s45 : List zi} {s46 : List za} {s47 : List (List Int)} {s49 : List (List Int)} {s50 : List Int} {s52 : List za} (hp : z3 p) :
    ym V4 (s1, p.Workers, 0, p, s5, s6, s7, s8, s9, s10, s11, s12, s13, s14, s15, s16, s17, s18, s19, s20, s21, s22, s23, s24, s25, s26, s27, s28, s29, s30, s31, s32, s33, s34, s35, s36, s37, s38, s39, s40, s41, s42, s43, s44, s45, s46, s47, [], s49, s50, [], s52, ()) = some (.brk (s1, p, s5, s6, s7, s8, s9, s10, s11, s12, s13, s14, s15, s16, s17, s18, s19, s20, s21, s22, s23, s24, s25, s26, s27, s28, s29, s30, s31, s32, s33, s34, s35, s36, s37, s38, s39, s40, s41, s42, s43, s44, s45, s46, s47, (Wr p p.Workers.toNat), s49, s50, ((List.range p.Workers.toNat).map (Uc p)), s52, ())) := by
  have hw := hp.wk
  have hc := hp.cap
  refine (uf (f := V4) (fun a => ∃ i : Nat, a = (s1, p.Workers, (i : Int), p, s5, s6, s7, s8, s9, s10, s11, s12, s13, s14, s15, s16, s17, s18, s19, s20, s21, s22, s23, s24, s25, s26, s27, s28, s29, s30, s31, s32, s33, s34, s35, s36, s37, s38, s39, s40, s41, s42, s43, s44, s45, s46, s47, (Wr p i), s49, s50, ((List.range i).map (Uc p)), s52, ()) ∧ (i : Int) ≤ p.Workers) (fun a => (p.Workers - a.2.2.1).toNat) (fun o => o = .brk (s1, p, s5, s6, s7, s8, s9, s10, s11, s12, s13, s14, s15, s16, s17, s18, s19, s20, s21, s22, s23, s24, s25, s26, s27, s28, s29, s30, s31, s32, s33, s34, s35, s36, s37, s38, s39, s40, s41, s42, s43, s44, s45, s46, s47, (Wr p p.Workers.toNat), s49, s50, ((List.range p.Workers.toNat).map (Uc p)), s52, ())) ?_ (s1, p.Workers, 0, p, s5, s6, s7, s8, s9, s10, s11, s12, s13, s14, s15, s16, s17, s18, s19, s20, s21, s22, s23, s24, s25, s26, s27, s28, s29, s30, s31, s32, s33, s34, s35, s36, s37, s38, s39, s40, s41, s42, s43, s44, s45, s46, s47, [], s49, s50, [], s52, ()) ⟨0, rfl, by omega⟩ (wo (by dsimp only; omega))).elim fun o h => ?_
  rotate_left
  · rw [h.1, h.2]
  · rintro _ ⟨i, rfl, hi⟩
    rw [zlN, zn]
    by_cases hlt : (i : Int) < p.Workers
    · have hl := zeI p i
      have hl2 := znb p.Cap
      have hb : i * (p.Cap.toNat + 2) ≤ 3 * 5 := Nat.mul_le_mul (by omega) (by omega)
      rw [if_pos hlt, zsR hc.1 (by omega), Option.bind_some, xT (l := Wr p i ++ ziH p.Cap) (by rw [List.length_append]; omega), Option.bind_some, zme, Option.bind_some, zfV, Option.bind_some, xT (by simp <;> omega), Option.bind_some, xd (by omega)]
      refine ⟨_, rfl, ⟨i + 1, ?_, by omega⟩, ?_⟩
      · rw [zlZ, List.range_succ, List.map_append]; rfl
      · show (p.Workers - ((i + 1 : Nat) : Int)).toNat < (p.Workers - (i : Int)).toNat
        omega
    · rw [if_neg hlt]
      have : i = p.Workers.toNat := by omega
      subst this
      exact ⟨_, rfl, rfl⟩
def YU (k : Nat) : List Int := (List.range k).map fun i : Nat => (i : Int) + 1
theorem zr6 (k : Nat) : (YU k).length = k := by simp [YU]
theorem zwt {b : Int} {s1 : BitVec 64} {s4 : zd} {s5 : Int} {s6 : Int} {s7 : Int} {s8 : Int} {s9 : Int} {s10 : Int} {s11 : Int} {s12 : Int} {s13 : Int} {s14 : BitVec 64} {s15 : Int} {s16 : zq} {s17 : Int} {s18 : Int} {s19 : Bool} {s20 : Bool} {s21 : Int} {s22 : Int} {s23 : Int} {s24 : Int} {s25 : zp} {s26 : zd} {s27 : Int} {s28 : zq} {s29 : Int} {s30 : Int} {s31 : Bool} {s32 : Bool} {s33 : Int} {s34 : zk} {s35 : zp} {s37 : List (List Int)} {s38 : List (List Int)} {s39 : List (List zh)} {s40 : List zj} {s41 : List (List Int)} {s42 : List (BitVec 64)} {s43 : List (List Int)} {s44 : List Int} {s45 : List Int} {s46 : List zi} {s47 : List za} {s48 : List (List Int)} {s49 : List (BitVec 64)} {s50 : List (List Int)} {s51 : List Int} {s52 : List zi} {s53 : List za} (hb : 0 ≤ b ∧ b < 1000) :
    ym VF (s1, b, 0, s4, s5, s6, s7, s8, s9, s10, s11, s12, s13, s14, s15, s16, s17, s18, s19, s20, s21, s22, s23, s24, s25, s26, s27, s28, s29, s30, s31, s32, s33, s34, s35, [], s37, s38, s39, s40, s41, s42, s43, s44, s45, s46, s47, s48, s49, s50, s51, s52, s53, ()) = some (.brk (s1, s4, s5, s6, s7, s8, s9, s10, s11, s12, s13, s14, s15, s16, s17, s18, s19, s20, s21, s22, s23, s24, s25, s26, s27, s28, s29, s30, s31, s32, s33, s34, s35, (YU b.toNat), s37, s38, s39, s40, s41, s42, s43, s44, s45, s46, s47, s48, s49, s50, s51, s52, s53, ())) := by
  refine (uf (f := VF) (fun a => ∃ i : Nat, a = (s1, b, (i : Int), s4, s5, s6, s7, s8, s9, s10, s11, s12, s13, s14, s15, s16, s17, s18, s19, s20, s21, s22, s23, s24, s25, s26, s27, s28, s29, s30, s31, s32, s33, s34, s35, (YU i), s37, s38, s39, s40, s41, s42, s43, s44, s45, s46, s47, s48, s49, s50, s51, s52, s53, ()) ∧ (i : Int) ≤ b) (fun a => (b - a.2.2.1).toNat) (fun o => o = .brk (s1, s4, s5, s6, s7, s8, s9, s10, s11, s12, s13, s14, s15, s16, s17, s18, s19, s20, s21, s22, s23, s24, s25, s26, s27, s28, s29, s30, s31, s32, s33, s34, s35, (YU b.toNat), s37, s38, s39, s40, s41, s42, s43, s44, s45, s46, s47, s48, s49, s50, s51, s52, s53, ())) ?_ (s1, b, 0, s4, s5, s6, s7, s8, s9, s10, s11, s12, s13, s14, s15, s16, s17, s18, s19, s20, s21, s22, s23, s24, s25, s26, s27, s28, s29, s30, s31, s32, s33, s34, s35, [], s37, s38, s39, s40, s41, s42, s43, s44, s45, s46, s47, s48, s49, s50, s51, s52, s53, ()) ⟨0, rfl, by omega⟩ (wo (by dsimp only; omega))).elim fun o h => ?_
  rotate_left
  · rw [h.1, h.2]
  · rintro _ ⟨i, rfl, hi⟩
    rw [zj9, zn]
    by_cases hlt : (i : Int) < b
    · have := zr6 i
      rw [if_pos hlt, xT (by rw [List.length_append]; simp; omega), Option.bind_some, xd (by omega)]
      refine ⟨_, rfl, ⟨i + 1, ?_, by omega⟩, ?_⟩
      · unfold YU; rw [List.range_succ, List.map_append]; rfl
      · show (b - ((i + 1 : Nat) : Int)).toNat < (b - (i : Int)).toNat
        omega
    · rw [if_neg hlt]
      have : i = b.toNat := by omega
      subst this
      exact ⟨_, rfl, rfl⟩
theorem zs8 {s1 : zd} {s2 : Int} {s3 : Int} {s4 : Int} {s5 : Int} {s6 : Int} {s7 : Int} {s8 : Int} {s9 : Int} {s10 : Int} {s11 : BitVec 64} {s12 : Int} {s13 : zq} {s14 : Int} {s15 : Int} {s16 : Bool} {s17 : Bool} {s18 : Int} {s19 : Int} {s20 : Int} {s21 : Int} {s22 : zp} {s23 : zd} {s24 : Int} {s25 : zq} {s26 : Int} {s27 : Int} {s28 : Bool} {s29 : Bool} {s30 : Int} {s31 : zk} {s32 : zp} {s33 : List Int} {s34 : List (List Int)} {s35 : List (List Int)} {s36 : List (List zh)} {s37 : List zj} {s38 : List (List Int)} {s39 : List (BitVec 64)} {s40 : List (List Int)} {s41 : List Int} {s42 : List Int} {s43 : List zi} {s44 : List za} {s45 : List (List Int)} {s46 : List (BitVec 64)} {s48 : List Int} {s49 : List zi} {s50 : List za} : ∀ (ys acc : List (List Int)), acc.length + ys.length < 1000000 → (∀ c ∈ ys, c.length < 1000000) → ZK zbc ys (s1, s2, s3, s4, s5, s6, s7, s8, s9, s10, s11, s12, s13, s14, s15, s16, s17, s18, s19, s20, s21, s22, s23, s24, s25, s26, s27, s28, s29, s30, s31, s32, s33, s34, s35, s36, s37, s38, s39, s40, s41, s42, s43, s44, s45, s46, acc, s48, s49, s50, ()) = some (s1, s2, s3, s4, s5, s6, s7, s8, s9, s10, s11, s12, s13, s14, s15, s16, s17, s18, s19, s20, s21, s22, s23, s24, s25, s26, s27, s28, s29, s30, s31, s32, s33, s34, s35, s36, s37, s38, s39, s40, s41, s42, s43, s44, s45, s46, (acc ++ ys), s48, s49, s50, ())
  | [], acc, _, _ => by simp [ZK]
  | y :: ys, acc, h, hc => by
    simp only [List.length_cons] at h
    have hy := hc y (List.mem_cons_self ..)
    rw [ZK, zkI, ub (by omega), Option.bind_some, xT (by simp <;> omega), Option.bind_some, Option.bind_some, zs8 ys _ (by simp <;> omega) (fun c h' => hc c (List.mem_cons_of_mem _ h'))]
    simp
def vi (r : List Int) : za := ⟨0, 0, 0, 0, 0, 0, 0, 0, r, [], [], ⟨0, 0, 0, 0, 0#64, 0, 0, 0⟩, ⟨0, 0, 0, 0, ⟨0, 0, 0, 0, 0#64, 0#64, 0, 0⟩, ⟨0, 0, 0, 0, 0#64, 0, 0, 0⟩, 0, 0⟩⟩
theorem zwo {p : zd} {s4 : Int} {s5 : Int} {s6 : Int} {s7 : Int} {s8 : Int} {s9 : Int} {s10 : Int} {s11 : Int} {s12 : Int} {s13 : BitVec 64} {s14 : Int} {s15 : zq} {s16 : Int} {s17 : Int} {s18 : Bool} {s19 : Bool} {s20 : Int} {s21 : Int} {s22 : Int} {s23 : Int} {s24 : zp} {s25 : zd} {s26 : Int} {s27 : List (BitVec 64)} {s28 : zq} {s29 : Int} {s30 : Int} {s31 : Bool} {s32 : Bool} {s33 : Int} {s34 : zk} {s35 : zp} {s36 : List (List Int)} {s37 : List (List Int)} {s38 : List (List zh)} {s39 : List zj} {s40 : List (List Int)} {s41 : List (BitVec 64)} {s42 : List (List Int)} {s43 : List Int} {s44 : List Int} {s45 : List zi} {s46 : List za} {s47 : List (List Int)} {s48 : List (List Int)} {s49 : List Int} {s50 : List zi} (hl : p.Regs.length < 1000000) (hr : ∀ r ∈ p.Regs, r.length < 1000000) :
    ym VJ (p.Regs, (p.Regs.length : Int), 0, s4, s5, s6, s7, s8, s9, s10, s11, s12, s13, s14, s15, s16, s17, s18, s19, s20, s21, s22, s23, s24, s25, s26, s27, s28, s29, s30, s31, s32, s33, s34, s35, s36, s37, s38, s39, s40, s41, s42, s43, s44, s45, s46, s47, s48, s49, s50, [], ()) = some (.brk (s4, s5, s6, s7, s8, s9, s10, s11, s12, s13, s14, s15, s16, s17, s18, s19, s20, s21, s22, s23, s24, s25, s26, s27, s28, s29, s30, s31, s32, s33, s34, s35, s36, s37, s38, s39, s40, s41, s42, s43, s44, s45, s46, s47, s48, s49, s50, (p.Regs.map vi), ())) := by
  refine (uf (f := VJ) (fun a => ∃ i : Nat, a = (p.Regs, (p.Regs.length : Int), (i : Int), s4, s5, s6, s7, s8, s9, s10, s11, s12, s13, s14, s15, s16, s17, s18, s19, s20, s21, s22, s23, s24, s25, s26, s27, s28, s29, s30, s31, s32, s33, s34, s35, s36, s37, s38, s39, s40, s41, s42, s43, s44, s45, s46, s47, s48, s49, s50, ((p.Regs.take i).map vi), ()) ∧ i ≤ p.Regs.length) (fun a => p.Regs.length - a.2.2.1.toNat) (fun o => o = .brk (s4, s5, s6, s7, s8, s9, s10, s11, s12, s13, s14, s15, s16, s17, s18, s19, s20, s21, s22, s23, s24, s25, s26, s27, s28, s29, s30, s31, s32, s33, s34, s35, s36, s37, s38, s39, s40, s41, s42, s43, s44, s45, s46, s47, s48, s49, s50, (p.Regs.map vi), ())) ?_ (p.Regs, (p.Regs.length : Int), 0, s4, s5, s6, s7, s8, s9, s10, s11, s12, s13, s14, s15, s16, s17, s18, s19, s20, s21, s22, s23, s24, s25, s26, s27, s28, s29, s30, s31, s32, s33, s34, s35, s36, s37, s38, s39, s40, s41, s42, s43, s44, s45, s46, s47, s48, s49, s50, [], ()) ⟨0, rfl, by omega⟩ (wo (by dsimp only; omega))).elim fun o h => ?_
  rotate_left
  · rw [h.1, h.2]
  · rintro _ ⟨i, rfl, hi⟩
    rw [zkl, zn]
    rcases Nat.lt_or_ge i p.Regs.length with hlt | hge
    · have hx := List.getElem?_eq_getElem hlt
      have hh := hr _ (List.getElem_mem hlt)
      rw [if_pos (by omega), wt hx, Option.bind_some, ub (by omega), Option.bind_some, xT (by simp <;> omega), Option.bind_some, xd (by omega)]
      refine ⟨_, rfl, ⟨i + 1, ?_, hlt⟩, ?_⟩
      · rw [List.take_add_one, hx, List.map_append]; rfl
      · show p.Regs.length - ((i + 1 : Nat) : Int).toNat < p.Regs.length - (i : Int).toNat
        omega
    · rw [if_neg (by omega)]
      have : i = p.Regs.length := by omega
      subst this
      exact ⟨_, rfl, by rw [List.take_length]⟩
def xJ (p : zd) : Nat := (p.Most + p.Workers + p.Mutators).toNat
def uV (p : zd) : List (List Int) := Zu p.Bin.toNat (zcX (Wi p)).length (zcX (Wi p))
def vE (p : zd) : zc :=
  { P := p, H := p.H,
    M := zjD (zjD (Wr p p.Workers.toNat ++ List.replicate (2 + xJ p) 0#64) (vA p) (yT p) ((YU (xJ p)).take (uV p).length)) (yT p) (yT p) ((YU (xJ p)).drop (uV p).length),
    Bins := [[]] ++ uV p ++ List.replicate (xJ p - (uV p).length) [],
    T := ⟨Wi p, 0#64⟩, Work := cnt (Wi p), Epoch := 0, Flag := false, Done := false, Restarts := 0,
    Acks := List.replicate p.Mutators.toNat 0, L := ⟨0, 0, 0, List.replicate p.Mutators.toNat 0⟩,
    Ws := (List.range p.Workers.toNat).map (Uc p), Ms := p.Regs.map vi, D := ⟨0, 0⟩ }
theorem zxT : ∀ r : Fin 7, bit (r.1 : Int) &&& ~~~63#64 = 0#64 := by decide
theorem zui {r n : Int} (h : 0 ≤ r) (h2 : r ≤ n) (h3 : n ≤ 6) : bit r &&& ~~~Uz n = 0#64 := by
  have := zpU ⟨r.toNat, by omega⟩ ⟨n.toNat, by omega⟩ (by show r.toNat ≤ n.toNat; omega)
  simpa [Int.toNat_of_nonneg h, Int.toNat_of_nonneg (show 0 ≤ n by omega)] using this
theorem zro {a b c : BitVec 64} (ha : a &&& ~~~c = 0#64) (hb : b &&& ~~~c = 0#64) : (a ||| b) &&& ~~~c = 0#64 := by
  apply BitVec.eq_of_getLsbD_eq
  intro i hi
  have h1 := congrArg (fun x => x.getLsbD i) ha
  have h2 := congrArg (fun x => x.getLsbD i) hb
  simp only [BitVec.getLsbD_and, BitVec.getLsbD_or, BitVec.getLsbD_not, BitVec.getLsbD_zero, hi, decide_true, Bool.true_and] at h1 h2 ⊢
  revert h1 h2
  generalize a.getLsbD i = x
  generalize b.getLsbD i = y
  generalize c.getLsbD i = z
  cases x <;> cases y <;> cases z <;> decide
theorem zuc {c : BitVec 64} {l : List Int} (h : ∀ o ∈ l, bit o &&& ~~~c = 0#64) : ∀ (z : BitVec 64), z &&& ~~~c = 0#64 → l.foldl (fun s o => s ||| bit o) z &&& ~~~c = 0#64 := by
  induction l with
  | nil => intro z hz; exact hz
  | cons a l ih => intro z hz; exact ih (fun o ho => h o (List.mem_cons_of_mem _ ho)) _ (zro hz (h a (List.mem_cons_self ..)))
theorem zmd {p : zd} (h : z3 p) : Wi p &&& ~~~Uz (p.H.Objs.length : Int) = 0#64 := by
  have hn := h.n
  have key : ∀ (L : List (List Int)) (z : BitVec 64), (∀ r ∈ L, ∀ v ∈ r, 0 ≤ v ∧ v ≤ (p.H.Objs.length : Int)) → z &&& ~~~Uz (p.H.Objs.length : Int) = 0#64 → L.foldl (fun s l => s ||| zn3 l) z &&& ~~~Uz (p.H.Objs.length : Int) = 0#64 := by
    intro L
    induction L with
    | nil => intro z _ hz; exact hz
    | cons r L ih =>
      intro z hr hz
      refine ih _ (fun r' h' => hr r' (List.mem_cons_of_mem _ h')) (zro hz (zuc (fun o ho => ?_) _ (by simp)))
      have := hr r (List.mem_cons_self ..) o ho
      exact zui this.1 this.2 hn.2
  exact key _ _ (fun r hr => (h.reg r hr).2) (zmc h)
theorem zsu {a b c : BitVec 64} (h : a &&& ~~~b = 0#64) (h2 : b &&& ~~~c = 0#64) : a &&& ~~~c = 0#64 := by
  apply BitVec.eq_of_getLsbD_eq
  intro i hi
  have h1 := congrArg (fun x => x.getLsbD i) h
  have h2 := congrArg (fun x => x.getLsbD i) h2
  simp only [BitVec.getLsbD_and, BitVec.getLsbD_not, BitVec.getLsbD_zero, hi, decide_true, Bool.true_and] at h1 h2 ⊢
  revert h1 h2
  generalize a.getLsbD i = x
  generalize b.getLsbD i = y
  generalize c.getLsbD i = z
  cases x <;> cases y <;> cases z <;> decide
theorem zsG : ∀ n : Fin 7, Uz (n.1 : Int) &&& ~~~63#64 = 0#64 := by decide
theorem zl1 {p : zd} (h : z3 p) : Wi p &&& ~~~63#64 = 0#64 := by
  have hn := h.n
  refine zsu (zmd h) ?_
  exact zsG ⟨p.H.Objs.length, by omega⟩
theorem zt6 : ∀ (n : Fin 7) (t : Fin 64), BitVec.ofNat 64 t.1 &&& ~~~Uz (n.1 : Int) = 0#64 → (zcX (BitVec.ofNat 64 t.1)).length ≤ n.1 := by decide +kernel
theorem zkd {p : zd} (h : z3 p) : (zcX (Wi p)).length ≤ p.H.Objs.length := by
  have hn := h.n
  obtain ⟨t, ht⟩ := zsh (zl1 h)
  have h2 := zmd h
  rw [ht] at h2 ⊢
  exact zt6 ⟨p.H.Objs.length, by omega⟩ t h2
theorem zrH {p : zd} (h : z3 p) : (uV p).length ≤ p.H.Objs.length := by
  have hb := h.bin
  exact Nat.le_trans (znq _ (by omega) _ _) (zkd h)
theorem zkB {p : zd} (h : z3 p) : UX p = some (vE p, ()) := by
  have hw := h.wk
  have hc := h.cap
  have hm := h.mt
  have hb := h.bin
  have hn := h.n
  have hmo := h.most
  have hrl := h.regs
  have hreg : ∀ r ∈ p.Regs, r.length < 1000000 := fun r hr => by have := (h.reg r hr).1; omega
  have hobj : ∀ o ∈ p.H.Objs, o.length < 1000000 := fun o ho => by have := (h.objs o ho).1; have := h.slots; omega
  have hfl := zrH h
  have hgl := zkd h
  have hcl := zeI p p.Workers.toNat
  have hcb : p.Workers.toNat * (p.Cap.toNat + 2) ≤ 3 * 5 := Nat.mul_le_mul (by omega) (by omega)
  have hbn : (xJ p : Int) = p.Most + p.Workers + p.Mutators := by unfold xJ; omega
  have eb : zcP p = some ((xJ p : Int), ()) := by
    rw [zoO, yp (a := p.Most + p.Workers) (by omega) (by omega), yp (by omega) (by omega), hbn]
  have hul := zr6 (xJ p)
  have ec : Ve (zcX (Wi p)) p.Bin = some (uV p) := by
    show zf7 _ _ = _
    unfold zf7 uV
    have c1 : (decide (1 ≤ p.Bin) && decide (p.Bin < 1000000) && decide (((zcX (Wi p)).length : Int) < 1000000)) = true := by simp <;> omega
    rw [c1]; rfl
  have cut1 : cut (YU (xJ p)) 0 ((uV p).length : Int) = some ((YU (xJ p)).take (uV p).length) := by
    unfold cut
    have : ((uV p).length : Int) ≤ ((YU (xJ p)).length : Int) := by omega
    simp [this]
  have cut2 : cut (YU (xJ p)) ((uV p).length : Int) ((YU (xJ p)).length : Int) = some ((YU (xJ p)).drop (uV p).length) := by
    unfold cut
    have : ((uV p).length : Int) ≤ ((YU (xJ p)).length : Int) := by omega
    simp [this]
  rw [zpd, ztF h]
  simp only [Option.bind_some, Bool.not_true, cond_false]
  rw [ztX (by omega) hreg]
  simp only [Option.bind_some, zuH, ztK hm.1 (show p.Mutators ≤ 16 by omega)]
  rw [zks (by omega) hobj]
  simp only [Option.bind_some]
  rw [zwO h]
  simp only [Option.bind_some, eb]
  have e3 : (2 + (xJ p : Int)).toNat = 2 + xJ p := by omega
  rw [yp (a := 2 + (xJ p : Int)) (by omega) (by omega), zpT (by omega) (by omega), e3, Option.bind_some, xT (l := Wr p p.Workers.toNat ++ List.replicate (2 + xJ p) 0#64) (by simp <;> omega), Option.bind_some, zwt (by omega)]
  dsimp only [Option.bind_some]
  rw [Int.toNat_natCast, zvl (zl1 h), Option.bind_some, zdU, zn, if_neg (by omega), Option.bind_some, ec, Option.bind_some, zs8 _ _ (by simp <;> omega) (fun c hc' => by have := zhA _ _ _ _ hc'; omega)]
  dsimp only [Option.bind_some]
  have e1 : w64 ((([[]] ++ uV p : List (List Int)).length : Int) - 1) = ((uV p).length : Int) := by
    rw [yp (by simp <;> omega) (by simp <;> omega)]; simp
  have e2 : w64 (((YU (xJ p)).length : Int) - ((uV p).length : Int)) = ((xJ p - (uV p).length : Nat) : Int) := by
    rw [yp (by omega) (by omega)]; omega
  rw [e1, e2, zpT (by omega) (by omega), Int.toNat_natCast, Option.bind_some, xT (by simp <;> omega), Option.bind_some, zeD, Option.bind_some, zeJ, Option.bind_some, cut1, Option.bind_some, zp0 (by simp <;> omega) (by simp <;> omega), Option.bind_some, zcL, Option.bind_some, Option.bind_some, cut2, Option.bind_some, zp0 (by rw [zmA]; simp <;> omega) (by simp <;> omega), Option.bind_some, decide_true, cond_true, zab hm.1 (show p.Mutators < 4294967296 by omega), Option.bind_some, zwo (by omega) hreg]
  rfl
end
end Go.Pe.G
namespace Go.Pe.G
open Go.Pe
noncomputable section
theorem zg3 (h : BitVec 64) : yY h = ((h.toNat % 4294967296 : Nat) : Int) := by
  unfold yY
  have e : (h &&& 4294967295#64).toNat = h.toNat % 4294967296 := by
    rw [BitVec.toNat_and]
    exact Nat.and_two_pow_sub_one_eq_mod h.toNat 32
  rw [BitVec.toInt_eq_toNat_cond, e]
  omega
theorem zpP (h : BitVec 64) : 0 ≤ yY h ∧ yY h < 4294967296 := by rw [zg3]; omega
theorem zpQ (v : BitVec 64) {n : Int} (h : 0 ≤ n) (h2 : n < 4294967296) : yY (WF v n) = n := by
  rw [zg3]
  unfold WF
  rw [BitVec.toNat_or, BitVec.toNat_and, BitVec.toNat_shiftLeft]
  have e1 : (v.toNat <<< 32 % 2 ^ 64 ||| (BitVec.ofInt 64 n).toNat &&& (4294967295#64).toNat) % 2 ^ 32 = (v.toNat <<< 32 % 2 ^ 64) % 2 ^ 32 ||| ((BitVec.ofInt 64 n).toNat &&& (4294967295#64).toNat) % 2 ^ 32 := Nat.or_mod_two_pow
  have e2 : v.toNat <<< 32 % 2 ^ 64 % 2 ^ 32 = 0 := by rw [Nat.shiftLeft_eq]; omega
  have e3 : (BitVec.ofInt 64 n).toNat &&& (4294967295#64).toNat = n.toNat := by
    have : (BitVec.ofInt 64 n).toNat = n.toNat := by rw [BitVec.toNat_ofInt]; omega
    rw [this]
    exact (Nat.and_two_pow_sub_one_eq_mod n.toNat 32).trans (Nat.mod_eq_of_lt (by omega))
  rw [show (4294967296 : Nat) = 2 ^ 32 from rfl, e1, e2, e3, Nat.zero_or, Nat.mod_eq_of_lt (by omega)]
  omega
theorem zl2 {n : Int} (h : 0 ≤ n) (h2 : n < 4294967296) : (BitVec.ofInt 64 n).toInt = n := by
  have e : (BitVec.ofInt 64 n).toNat = n.toNat := by rw [BitVec.toNat_ofInt]; omega
  rw [BitVec.toInt_eq_toNat_cond, e]
  omega
theorem zog {m : List (BitVec 64)} {a b : Int} {v : BitVec 64} : ld (st m a v) b = if a = b ∧ 0 ≤ a ∧ a < m.length then v else ld m b := by
  unfold ld st
  by_cases hb : 0 ≤ b
  · rw [if_pos hb, if_pos hb]
    by_cases ha : 0 ≤ a
    · rw [if_pos ha, List.getD_eq_getElem?_getD, List.getD_eq_getElem?_getD, List.getElem?_set]
      by_cases hab : a.toNat = b.toNat
      · have e : a = b := by omega
        subst e
        by_cases hl : a.toNat < m.length
        · rw [if_pos rfl, if_pos hl, if_pos ⟨rfl, ha, by omega⟩]; rfl
        · rw [if_pos rfl, if_neg hl, if_neg (by omega), List.getElem?_eq_none (by omega)]
      · rw [if_neg hab, if_neg (by omega)]
    · rw [if_neg ha, if_neg (by omega)]
  · rw [if_neg hb, if_neg hb, if_neg (by omega)]
theorem zcn {m : List (BitVec 64)} {a b : Int} {v : BitVec 64} (h : a ≠ b) : ld (st m a v) b = ld m b := by
  rw [zog, if_neg (fun h' => h h'.1)]
theorem zay {p : zd} (h : z3 p) : vA p = p.Workers * (p.Cap + 2) ∧ 3 ≤ vA p ∧ vA p ≤ 15 := by
  have hw := h.wk
  have hc := h.cap
  unfold vA
  rw [Y2 (a := p.Cap + 2) (by omega) (by omega)]
  have hx : p.Workers = 1 ∨ p.Workers = 2 ∨ p.Workers = 3 := by omega
  rcases hx with hx | hx | hx <;> rw [hx, Y2 (by omega) (by omega)] <;> omega
theorem zcF {p : zd} (h : z3 p) : yT p = vA p + 1 := by
  have := zay h
  unfold yT
  rw [Y2 (by omega) (by omega)]
theorem zmt {p : zd} (h : z3 p) {w : Int} (h1 : 1 ≤ w) (h2 : w ≤ p.Workers) : Z4 p w = (w - 1) * (p.Cap + 2) ∧ 0 ≤ Z4 p w ∧ Z4 p w + p.Cap + 2 ≤ vA p := by
  have hw := h.wk
  have hc := h.cap
  have hf := (zay h).1
  unfold Z4
  rw [Y2 (a := p.Cap + 2) (by omega) (by omega), Y2 (a := w - 1) (by omega) (by omega)]
  have hx : p.Workers = 1 ∨ p.Workers = 2 ∨ p.Workers = 3 := by omega
  have hy : w = 1 ∨ w = 2 ∨ w = 3 := by omega
  rw [hf]
  rcases hx with hx | hx | hx <;> rcases hy with hy | hy | hy <;> first | omega | (rw [hx, hy, Y2 (by omega) (by omega)] <;> omega)
theorem zvq {p : zd} (h : z3 p) {d : zg} {w : Int} (h1 : 1 ≤ w) (h2 : w ≤ p.Workers) (hb : d.Base = Z4 p w) (hc : d.Cap = p.Cap) (i : BitVec 64) :
    zbv d i = d.Base + 2 + ((i.toNat % p.Cap.toNat : Nat) : Int) ∧ d.Base + 2 ≤ zbv d i ∧ zbv d i < d.Base + 2 + p.Cap := by
  have hcp := h.cap
  have hd := zmt h h1 h2
  have hf := zay h
  have hs : (Ud d).toNat = p.Cap.toNat := by
    unfold Ud
    rw [hc, if_neg (by omega), BitVec.toNat_ofInt]
    omega
  have hlt : i.toNat % p.Cap.toNat < p.Cap.toNat := Nat.mod_lt _ (by omega)
  have hm : (i % Ud d).toInt = ((i.toNat % p.Cap.toNat : Nat) : Int) := by
    rw [BitVec.toInt_eq_toNat_cond, BitVec.toNat_umod, hs]
    omega
  unfold zbv
  rw [hm, Y2 (a := d.Base + 2) (by omega) (by omega), Y2 (by omega) (by omega)]
  omega
structure SOk (p : zd) (nb : Nat) (s : zc) : Prop where
  P : s.P = p
  bins : s.Bins.length = nb
  nbk : 1 ≤ nb ∧ nb < 1000
  mem : s.M.length < 100000
  cF : yY (ld s.M (vA p)) < nb
  cE : yY (ld s.M (yT p)) < nb
  cL : ∀ a, yT p < a → 0 ≤ (ld s.M a).toInt ∧ (ld s.M a).toInt < nb
structure MOk (p : zd) (nb : Nat) (g : zA) : Prop where
  who : g.Mode = 1 → 1 ≤ g.Who ∧ g.Who ≤ p.Workers
  d3 : g.PC = 3 → g.D.Kind = 1 ∧ g.D.Base = Z4 p g.Who ∧ g.D.Cap = p.Cap ∧ g.Mode = 1
  c5 : g.PC = 5 → g.C.Kind = 2 ∧ g.C.Head = yT p ∧ g.C.Next = yT p ∧ (1 ≤ g.C.PC → 1 ≤ yY g.C.H ∧ yY g.C.H < nb) ∧ (2 ≤ g.C.PC → 0 ≤ g.C.Y ∧ g.C.Y < nb)
  b6 : g.PC = 6 → 1 ≤ g.Bin ∧ g.Bin < nb
  c7 : g.PC = 7 → g.C.Kind = 1 ∧ g.C.Head = vA p ∧ g.C.Next = yT p ∧ (1 ≤ g.C.X ∧ g.C.X < nb) ∧ (1 ≤ g.C.PC → yY g.C.H < nb)
theorem SOk.gok {p : zd} {nb : Nat} {s : zc} {g : zA} (h : z3 p) (S : SOk p nb s) (M : MOk p nb g) : GOk s g := by
  have hc := h.cap
  refine ⟨by have := S.mem; omega, by have := S.bins; have := S.nbk; omega, fun h6 => ?_, fun h3 => ?_⟩
  · have := M.b6 h6; have := S.bins; omega
  · obtain ⟨a, b, c, _⟩ := M.d3 h3; exact ⟨a, by omega⟩
theorem SOk.low {p : zd} {nb : Nat} {s : zc} (h : z3 p) (S : SOk p nb s) {a : Int} (ha : a < vA p) (v : BitVec 64) : SOk p nb { s with M := st s.M a v } := by
  have he := zcF h
  exact ⟨S.P, S.bins, S.nbk, by simp only [Vf]; exact S.mem, by simp only [zcn (show a ≠ vA p by omega)]; exact S.cF, by simp only [zcn (show a ≠ yT p by omega)]; exact S.cE, fun b hb => by
    simp only [zcn (show a ≠ b by omega)]; exact S.cL b hb⟩
theorem SOk.link {p : zd} {nb : Nat} {s : zc} (h : z3 p) (S : SOk p nb s) {a : Int} (ha : yT p < a) {v : BitVec 64} (hv : 0 ≤ v.toInt ∧ v.toInt < nb) : SOk p nb { s with M := st s.M a v } := by
  have he := zcF h
  exact ⟨S.P, S.bins, S.nbk, by simp only [Vf]; exact S.mem, by simp only [zcn (show a ≠ vA p by omega)]; exact S.cF, by simp only [zcn (show a ≠ yT p by omega)]; exact S.cE, fun b hb => by
    simp only [zog]
    split
    · exact hv
    · exact S.cL b hb⟩
theorem SOk.head {p : zd} {nb : Nat} {s : zc} (h : z3 p) (S : SOk p nb s) {a : Int} (ha : a = vA p ∨ a = yT p) {v : BitVec 64} (hv : yY v < nb) : SOk p nb { s with M := st s.M a v } := by
  have he := zcF h
  refine ⟨S.P, S.bins, S.nbk, by simp only [Vf]; exact S.mem, ?_, ?_, fun b hb => ?_⟩
  · simp only [zog]
    split
    · exact hv
    · exact S.cF
  · simp only [zog]
    split
    · exact hv
    · exact S.cE
  · simp only [zcn (show a ≠ b by omega)]; exact S.cL b hb
theorem SOk.swap {p : zd} {nb : Nat} {s : zc} (h : z3 p) (S : SOk p nb s) {a : Int} (ha : a = vA p ∨ a = yT p) (x : BitVec 64) {v : BitVec 64} (hv : yY v < nb) : SOk p nb { s with M := (sw s.M a x v).1 } := by
  unfold sw
  split
  · exact S.head h ha hv
  · exact S
theorem zr4 {p : zd} {nb : Nat} {s : zc} (h : z3 p) (S : SOk p nb s) {c : zw} {hd : Int} (hdd : hd = vA p ∨ hd = yT p) (hk : c.Kind = 2) (hh : c.Head = hd) (hn : c.Next = yT p)
    (h1 : 1 ≤ c.PC → 1 ≤ yY c.H ∧ yY c.H < nb) (h2 : 2 ≤ c.PC → 0 ≤ c.Y ∧ c.Y < nb) (ho : c.Out ≠ 1) :
    SOk p nb { s with M := (zV s.M c).1 } ∧ (zV s.M c).2.Kind = 2 ∧ (zV s.M c).2.Head = hd ∧ (zV s.M c).2.Next = yT p ∧
    ((zV s.M c).2.Out ≠ 1 → (zV s.M c).2.Out ≠ 2 → (1 ≤ (zV s.M c).2.PC → 1 ≤ yY (zV s.M c).2.H ∧ yY (zV s.M c).2.H < nb) ∧ (2 ≤ (zV s.M c).2.PC → 0 ≤ (zV s.M c).2.Y ∧ (zV s.M c).2.Y < nb)) ∧
    ((zV s.M c).2.Out = 1 → 1 ≤ (zV s.M c).2.X ∧ (zV s.M c).2.X < nb) := by
  have hnb := S.nbk
  have hE := zcF h
  have hF := zay h
  unfold zV
  split
  · exact ⟨S, hk, hh, hn, fun _ _ => ⟨h1, h2⟩, fun e => absurd e ho⟩
  · split
    · rw [hh]
      have n1 := zpP (ld s.M hd)
      have n2 : yY (ld s.M hd) < nb := by
        rcases hdd with e | e <;> rw [e]
        · exact S.cF
        · exact S.cE
      split
      · exact ⟨S, hk, rfl, hn, fun _ h => absurd rfl h, fun e => by cases e⟩
      · rename_i hne
        refine ⟨S, hk, rfl, hn, fun _ _ => ⟨fun _ => ⟨?_, n2⟩, fun e => absurd e (by dsimp only; omega)⟩, fun e => absurd e ho⟩
        have : yY (ld s.M hd) ≠ 0 := fun e => hne ⟨hk, e⟩
        dsimp only
        omega
    · split
      · try rw [if_pos hk]
        have hpc : 1 ≤ c.PC := by omega
        have n1 := h1 hpc
        refine ⟨S, hk, hh, hn, fun _ _ => ⟨fun _ => n1, fun _ => ?_⟩, fun e => absurd e ho⟩
        dsimp only
        rw [hn, Y2 (by omega) (by omega)]
        exact S.cL _ (by omega)
      · rename_i g1 g2 g3
        have hpc : c.PC = 2 := by omega
        have n1 := h1 (by omega)
        have n2 := h2 (by omega)
        simp only [if_pos hk]
        refine ⟨S.swap h (by rw [hh]; exact hdd) _ (by rw [zpQ _ n2.1 (by omega)]; exact n2.2), ?_⟩
        split
        · exact ⟨hk, hh, hn, fun e => absurd rfl e, fun _ => n1⟩
        · exact ⟨hk, hh, hn, fun _ _ => ⟨fun e => absurd e (by dsimp only; omega), fun e => absurd e (by dsimp only; omega)⟩, fun e => absurd e ho⟩
theorem zpp {p : zd} {nb : Nat} {s : zc} (h : z3 p) (S : SOk p nb s) {c : zw} {hd : Int} (hdd : hd = vA p ∨ hd = yT p) (hk : c.Kind = 1) (hh : c.Head = hd) (hn : c.Next = yT p) (hx : 1 ≤ c.X ∧ c.X < nb)
    (h1 : 1 ≤ c.PC → yY c.H < nb) :
    SOk p nb { s with M := (zV s.M c).1 } ∧ (zV s.M c).2.Kind = 1 ∧ (zV s.M c).2.Head = hd ∧ (zV s.M c).2.Next = yT p ∧ (1 ≤ (zV s.M c).2.X ∧ (zV s.M c).2.X < nb) ∧
    (1 ≤ (zV s.M c).2.PC → yY (zV s.M c).2.H < nb) := by
  have hnb := S.nbk
  have hE := zcF h
  have hF := zay h
  have hk2 : ¬ c.Kind = 2 := by omega
  unfold zV
  split
  · exact ⟨S, hk, hh, hn, hx, h1⟩
  · split
    · rw [if_neg (fun e => hk2 e.1), hh]
      exact ⟨S, hk, rfl, hn, hx, fun _ => hdd.elim (fun e => by dsimp only; rw [e]; exact S.cF) (fun e => by dsimp only; rw [e]; exact S.cE)⟩
    · split
      · try rw [if_neg hk2]
        have hpc : 1 ≤ c.PC := by omega
        have n1 := h1 hpc
        have n2 := zpP c.H
        refine ⟨?_, hk, hh, hn, hx, fun _ => n1⟩
        dsimp only
        rw [hn, Y2 (by omega) (by omega)]
        exact S.link h (by omega) (by rw [zl2 (by omega) (by omega)]; omega)
      · have n1 := h1 (by omega)
        simp only [if_neg hk2]
        refine ⟨S.swap h (by rw [hh]; exact hdd) _ (by rw [zpQ _ (by omega) (by omega)]; exact hx.2), ?_⟩
        split
        · exact ⟨hk, hh, hn, hx, fun _ => n1⟩
        · exact ⟨hk, hh, hn, hx, fun _ => n1⟩
theorem MOk.ask {p : zd} {nb : Nat} {g : zA} (hw : g.Mode = 1 → 1 ≤ g.Who ∧ g.Who ≤ p.Workers) : MOk p nb (zpu p g) :=
  ⟨hw, fun e => (by cases e), fun _ => ⟨rfl, rfl, rfl, fun e => absurd e (show ¬ (1 : Int) ≤ 0 by decide), fun e => absurd e (show ¬ (2 : Int) ≤ 0 by decide)⟩, fun e => (by cases e), fun e => (by cases e)⟩
theorem zoY {p : zd} {nb : Nat} {s : zc} {g : zA} (h : z3 p) (S : SOk p nb s) (M : MOk p nb g) (hout : g.PC = 5 → g.C.Out ≠ 1) : SOk p nb (zG s g).1 ∧ MOk p nb (zG s g).2 ∧ ((zG s g).2.PC = 5 → (zG s g).2.C.Out ≠ 1) := by
  have hP := S.P
  unfold zG
  split
  · exact ⟨S, M, hout⟩
  split
  · rename_i h7
    obtain ⟨a1, a2, a3, a4, a5⟩ := M.c7 h7
    obtain ⟨b1, b2, b3, b4, b5, b6⟩ := zpp h S (.inl rfl) a1 a2 a3 a4 a5
    unfold zgi
    refine ⟨b1, ?_, ?_⟩
    · dsimp only
      split <;> exact ⟨M.who, fun e => (by dsimp only at e; omega), fun e => (by dsimp only at e; omega), fun e => (by dsimp only at e; omega), fun _ => ⟨b2, b3, b4, b5, b6⟩⟩
    · dsimp only
      split <;> exact fun e => by dsimp only at e; omega
  split
  · rename_i h6
    obtain ⟨a1, a2⟩ := M.b6 h6
    unfold zwc
    refine ⟨⟨hP, by simp only [List.length_set]; exact S.bins, S.nbk, S.mem, S.cF, S.cE, S.cL⟩, ⟨M.who, fun e => (by cases e), fun e => (by cases e), fun e => (by cases e), fun _ => ⟨rfl, by rw [hP], by rw [hP], ⟨a1, a2⟩, fun e => absurd e (show ¬ (1 : Int) ≤ 0 by decide)⟩⟩, fun e => by cases e⟩
  split
  · rename_i h5
    obtain ⟨a1, a2, a3, a4, a5⟩ := M.c5 h5
    obtain ⟨b1, b2, b3, b4, b5, b6⟩ := zr4 h S (.inr rfl) a1 a2 a3 a4 a5 (hout h5)
    unfold zlm
    refine ⟨b1, ?_, ?_⟩
    · dsimp only
      split
      · rename_i e1
        exact ⟨M.who, fun e => (by cases e), fun e => (by cases e), fun _ => b6 e1, fun e => (by cases e)⟩
      · split
        · rw [hP]; exact MOk.ask M.who
        · rename_i e1 e2
          exact ⟨M.who, fun e => (by dsimp only at e; omega), fun _ => ⟨b2, b3, b4, b5 e1 e2⟩, fun e => (by dsimp only at e; omega), fun e => (by dsimp only at e; omega)⟩
    · dsimp only
      split
      · exact fun e => by cases e
      · split
        · exact fun _ e => by cases e
        · rename_i e1 e2; exact fun _ => e1
  split
  · rw [hP]
    exact ⟨⟨rfl, S.bins, S.nbk, S.mem, S.cF, S.cE, S.cL⟩, MOk.ask M.who, fun _ e => by cases e⟩
  split
  · rename_i h3
    obtain ⟨a1, a2, a3, a4⟩ := M.d3 h3
    have hw := M.who a4
    obtain ⟨d1, d2, d3⟩ := zmt h hw.1 hw.2
    have hc := h.cap
    have hf := zay h
    have hs : SOk p nb { s with M := (Zf s.M g.D).1 } := by
      unfold Zf
      split
      · exact S
      split
      · exact S
      split
      · exact S
      split
      · have := zvq h hw.1 hw.2 a2 a3 g.D.B
        exact S.low h (by omega) _
      · dsimp only
        rw [Y2 (by omega) (by omega)]
        exact S.low h (by omega) _
    have hd : (Zf s.M g.D).2.Kind = 1 ∧ (Zf s.M g.D).2.Base = Z4 p g.Who ∧ (Zf s.M g.D).2.Cap = p.Cap := by
      unfold Zf
      split
      · exact ⟨a1, a2, a3⟩
      split
      · exact ⟨a1, a2, a3⟩
      split
      · dsimp only
        split <;> exact ⟨a1, a2, a3⟩
      split <;> exact ⟨a1, a2, a3⟩
    unfold zlk
    refine ⟨hs, ?_, ?_⟩
    · dsimp only
      split
      · exact ⟨M.who, fun _ => ⟨hd.1, hd.2.1, hd.2.2, a4⟩, fun e => (by dsimp only at e; omega), fun e => (by dsimp only at e; omega), fun e => (by dsimp only at e; omega)⟩
      · split
        · rw [hP]; exact MOk.ask M.who
        · exact ⟨M.who, fun _ => ⟨hd.1, hd.2.1, hd.2.2, a4⟩, fun e => (by dsimp only at e; omega), fun e => (by dsimp only at e; omega), fun e => (by dsimp only at e; omega)⟩
    · dsimp only
      split
      · exact fun e => by dsimp only at e; omega
      · split
        · exact fun _ e => by cases e
        · exact fun e => by dsimp only at e; omega
  split
  · rename_i h2
    exact ⟨⟨hP, S.bins, S.nbk, S.mem, S.cF, S.cE, S.cL⟩, ⟨M.who, fun e => (by dsimp only at e; omega), fun e => (by dsimp only at e; omega), fun e => (by dsimp only at e; omega), fun e => (by dsimp only at e; omega)⟩, fun e => by dsimp only at e; omega⟩
  split
  · unfold zoq
    refine ⟨⟨hP, S.bins, S.nbk, S.mem, S.cF, S.cE, S.cL⟩, ?_, ?_⟩
    · dsimp only
      split
      · exact ⟨M.who, fun e => (by cases e), fun e => (by cases e), fun e => (by cases e), fun e => (by cases e)⟩
      split
      · exact ⟨M.who, fun _ => ⟨rfl, by rw [hP], by rw [hP], by assumption⟩, fun e => (by cases e), fun e => (by cases e), fun e => (by cases e)⟩
      split
      · exact ⟨M.who, fun e => (by cases e), fun e => (by cases e), fun e => (by cases e), fun e => (by cases e)⟩
      · rw [hP]; exact MOk.ask M.who
    · dsimp only
      split
      · exact fun e => by cases e
      split
      · exact fun e => by cases e
      split
      · exact fun e => by cases e
      · exact fun _ e => by cases e
  · exact ⟨⟨hP, S.bins, S.nbk, S.mem, S.cF, S.cE, S.cL⟩, ⟨M.who, fun e => (by cases e), fun e => (by cases e), fun e => (by cases e), fun e => (by cases e)⟩, fun e => by cases e⟩
theorem zmY (s : zc) (g : zA) : (zG s g).2.Obj = g.Obj ∧ (zG s g).2.Who = g.Who ∧ (zG s g).2.Mode = g.Mode := by
  unfold zG
  split
  · exact ⟨rfl, rfl, rfl⟩
  split
  · unfold zgi; dsimp only; split <;> exact ⟨rfl, rfl, rfl⟩
  split
  · exact ⟨rfl, rfl, rfl⟩
  split
  · unfold zlm; dsimp only
    split
    · exact ⟨rfl, rfl, rfl⟩
    · split <;> exact ⟨rfl, rfl, rfl⟩
  split
  · exact ⟨rfl, rfl, rfl⟩
  split
  · unfold zlk; dsimp only
    split
    · exact ⟨rfl, rfl, rfl⟩
    · split <;> exact ⟨rfl, rfl, rfl⟩
  split
  · exact ⟨rfl, rfl, rfl⟩
  split
  · unfold zoq; dsimp only
    split
    · exact ⟨rfl, rfl, rfl⟩
    split
    · exact ⟨rfl, rfl, rfl⟩
    split <;> exact ⟨rfl, rfl, rfl⟩
  · exact ⟨rfl, rfl, rfl⟩
end
end Go.Pe.G
namespace Go.Pe.G
open Go.Pe
noncomputable section
def OkV (nb : Nat) (v : BitVec 64) : Prop := yY v < nb ∧ 0 ≤ v.toInt ∧ v.toInt < nb
theorem zq5 {nb : Nat} (h : 1 ≤ nb) : OkV nb 0#64 := by
  refine ⟨by rw [zg3]; simp; omega, by simp, by simp; omega⟩
theorem zpa {nb : Nat} {b : Int} (h : 0 ≤ b) (h2 : b < nb) (h3 : nb < 1000) : OkV nb (BitVec.ofInt 64 b) := by
  have e : (BitVec.ofInt 64 b).toNat = b.toNat := by rw [BitVec.toNat_ofInt]; omega
  refine ⟨by rw [zg3, e]; omega, ?_⟩
  rw [zl2 h (by omega)]
  omega
theorem zp3 {b : Int} (h : 0 ≤ b) (h2 : b < 4294967296) : WF 0#64 b = BitVec.ofInt 64 b := by
  have e : (BitVec.ofInt 64 b).toNat = b.toNat := by rw [BitVec.toNat_ofInt]; omega
  apply BitVec.eq_of_toNat_eq
  unfold WF
  rw [BitVec.toNat_or, BitVec.toNat_and, e]
  have : b.toNat &&& (4294967295#64).toNat = b.toNat := (Nat.and_two_pow_sub_one_eq_mod b.toNat 32).trans (Nat.mod_eq_of_lt (by omega))
  rw [this]
  simp
def YM (F : Int) (nb : Nat) (m : List (BitVec 64)) : Prop := ∀ a, F ≤ a → OkV nb (ld m a)
theorem YM.st {F : Int} {nb : Nat} {m : List (BitVec 64)} (h : YM F nb m) (a : Int) {v : BitVec 64} (hv : OkV nb v) : YM F nb (st m a v) := fun b hb => by
  rw [zog]
  split
  · exact hv
  · exact h b hb
theorem YM.links {F : Int} {nb : Nat} (h1 : 1 ≤ nb) (h3 : nb < 1000) : ∀ (l : List Int) (m : List (BitVec 64)) (n : Int), (∀ b ∈ l, 0 ≤ b ∧ b < nb) → YM F nb m → YM F nb (links m n l)
  | [], m, n, _, h => h
  | [a], m, n, _, h => h.st _ (zq5 h1)
  | a :: b :: l, m, n, hb, h => YM.links h1 h3 (b :: l) _ n (fun x hx => hb x (List.mem_cons_of_mem _ hx)) (h.st _ (zpa (hb b (by simp)).1 (hb b (by simp)).2 h3))
theorem YM.lay {F : Int} {nb : Nat} (h1 : 1 ≤ nb) (h3 : nb < 1000) {l : List Int} {m : List (BitVec 64)} {hd n : Int} (hb : ∀ b ∈ l, 0 ≤ b ∧ b < nb) (h : YM F nb m) : YM F nb (zjD m hd n l) := by
  unfold zjD
  refine (YM.links h1 h3 l m n hb h).st _ ?_
  cases l with
  | nil => rw [List.headD_nil, zp3 (by omega) (by omega)]; exact zpa (by omega) (by omega) h3
  | cons a r =>
    have := hb a (by simp)
    rw [List.headD_cons, zp3 this.1 (by omega)]
    exact zpa this.1 this.2 h3
theorem zrp {k : Nat} {b : Int} (h : b ∈ YU k) : 1 ≤ b ∧ b ≤ k := by
  unfold YU at h
  obtain ⟨i, hi, rfl⟩ := List.mem_map.1 h
  have := List.mem_range.1 hi
  omega
theorem zq8 {p : zd} (h : z3 p) : (xJ p : Int) = p.Most + p.Workers + p.Mutators ∧ 2 ≤ xJ p ∧ xJ p ≤ 14 := by
  have := h.most
  have := h.n
  have := h.wk
  have := h.mt
  unfold xJ
  omega
theorem zs1 {p : zd} (h : z3 p) : SOk p (xJ p + 1) (vE p) := by
  have hb := zq8 h
  have hf := zrH h
  have hn := h.n
  have hw := h.wk
  have hc := h.cap
  have hmo := h.most
  have hF := zay h
  have hE := zcF h
  have hcl := zeI p p.Workers.toNat
  have hfe : vA p = ((p.Workers.toNat * (p.Cap.toNat + 2) : Nat) : Int) := by
    rw [hF.1]
    have e1 : p.Workers = ((p.Workers.toNat : Nat) : Int) := by omega
    have e2 : p.Cap + 2 = ((p.Cap.toNat + 2 : Nat) : Int) := by omega
    rw [e2, Int.natCast_mul]
    rw [← e1]
  have h0 : YM (vA p) (xJ p + 1) (Wr p p.Workers.toNat ++ List.replicate (2 + xJ p) 0#64) := by
    intro a ha
    have : ld (Wr p p.Workers.toNat ++ List.replicate (2 + xJ p) 0#64) a = 0#64 := by
      unfold ld
      rw [if_pos (by omega), List.getD_eq_getElem?_getD, List.getElem?_append_right (by omega), List.getElem?_replicate]
      split <;> rfl
    rw [this]
    exact zq5 (by omega)
  have h1 : YM (vA p) (xJ p + 1) (vE p).M := by
    refine YM.lay (by omega) (by omega) (fun b hb' => ?_) (YM.lay (by omega) (by omega) (fun b hb' => ?_) h0)
    · have := zrp (List.mem_of_mem_drop hb'); omega
    · have := zrp (List.mem_of_mem_take hb'); omega
  have hlen : (vE p).M.length = p.Workers.toNat * (p.Cap.toNat + 2) + (2 + xJ p) := by
    show (zjD _ _ _ _).length = _
    rw [zmA, zmA, List.length_append, hcl, List.length_replicate]
  refine ⟨rfl, ?_, by omega, by rw [hlen]; omega, (h1 _ (by omega)).1, (h1 _ (by omega)).1, fun a ha => (h1 a (by omega)).2⟩
  have hd : (vE p).Bins.length = 1 + (uV p).length + (xJ p - (uV p).length) := by
    show ([[]] ++ uV p ++ List.replicate (xJ p - (uV p).length) ([] : List Int)).length = _
    rw [List.length_append, List.length_append, List.length_replicate]; rfl
  have h2 := hb.1
  have hmt := h.mt
  rw [hd]
  omega
def znv (mode obj who : Int) : zA := ⟨0, mode, obj, who, ⟨0, 0, 0, 0, 0#64, 0#64, 0, 0⟩, ⟨0, 0, 0, 0, 0#64, 0, 0, 0⟩, 0, 0⟩
theorem znN (a b c : Int) : zaQ a b c = some (znv a b c, ()) := by rw [zoE]; rfl
end
end Go.Pe.G
namespace Go.Pe.G
open Go.Pe
noncomputable section
structure Zp (s : zc) : Prop where
  m : s.M.length < 1000000
  bins : s.Bins.length < 1000000
  bin : ∀ x ∈ s.Bins, x.length < 1000000
  acks : s.Acks.length < 1000000
  bal : s.L.Bal.length < 1000000
  ws : s.Ws.length < 1000000
  w : ∀ x ∈ s.Ws, x.Batch.length < 1000000
  ms : s.Ms.length < 1000000
  mu : ∀ x ∈ s.Ms, x.Regs.length < 1000000 ∧ x.Buf.length < 1000000 ∧ x.Batch.length < 1000000
  objs : s.H.Objs.length < 1000000
  obj : ∀ x ∈ s.H.Objs, x.length < 1000000
  pobjs : s.P.H.Objs.length < 1000000
  pobj : ∀ x ∈ s.P.H.Objs, x.length < 1000000
  regs : s.P.Regs.length < 1000000
  reg : ∀ x ∈ s.P.Regs, x.length < 1000000
  progs : s.P.Progs.length < 1000000
  prog : ∀ x ∈ s.P.Progs, x.length < 1000000
  picks : s.P.Picks.length < 1000000
theorem V9 (m : List (BitVec 64)) (c : zw) : (zV m c).1.length = m.length := by
  unfold zV sw
  split
  · rfl
  split
  · rfl
  split
  · split <;> simp [Vf]
  · dsimp only; split <;> simp [Vf]
theorem zud (m : List (BitVec 64)) (d : zg) : (Zf m d).1.length = m.length := by
  unfold Zf
  split
  · rfl
  split
  · rfl
  split
  · rfl
  split <;> simp [Vf]
theorem WV (s : zc) (g : zA) : ∃ m b t w f, (zG s g).1 = { s with M := m, Bins := b, T := t, Work := w, Flag := f } ∧ m.length = s.M.length ∧ b.length = s.Bins.length ∧
    (∀ x ∈ b, x ∈ s.Bins ∨ x = [g.Obj]) ∧ (t = s.T ∨ t = (zeo s.T g.Obj).1) ∧ (w = s.Work ∨ w = wc (s.Work + 1) ∨ w = wc (s.Work - 1)) := by
  unfold zG
  split
  · exact ⟨s.M, s.Bins, s.T, s.Work, s.Flag, rfl, rfl, rfl, fun x h => .inl h, .inl rfl, .inl rfl⟩
  split
  · exact ⟨_, s.Bins, s.T, s.Work, s.Flag, rfl, V9 _ _, rfl, fun x h => .inl h, .inl rfl, .inl rfl⟩
  split
  · refine ⟨s.M, _, s.T, s.Work, s.Flag, rfl, rfl, by simp, fun x h => ?_, .inl rfl, .inl rfl⟩
    rcases List.mem_or_eq_of_mem_set h with h | h
    · exact .inl h
    · exact .inr h
  split
  · exact ⟨_, s.Bins, s.T, s.Work, s.Flag, rfl, V9 _ _, rfl, fun x h => .inl h, .inl rfl, .inl rfl⟩
  split
  · exact ⟨s.M, s.Bins, s.T, s.Work, true, rfl, rfl, rfl, fun x h => .inl h, .inl rfl, .inl rfl⟩
  split
  · exact ⟨_, s.Bins, s.T, s.Work, s.Flag, rfl, zud _ _, rfl, fun x h => .inl h, .inl rfl, .inl rfl⟩
  split
  · exact ⟨s.M, s.Bins, s.T, _, s.Flag, rfl, rfl, rfl, fun x h => .inl h, .inl rfl, .inr (.inr rfl)⟩
  split
  · exact ⟨s.M, s.Bins, _, s.Work, s.Flag, rfl, rfl, rfl, fun x h => .inl h, .inr rfl, .inl rfl⟩
  · exact ⟨s.M, s.Bins, s.T, _, s.Flag, rfl, rfl, rfl, fun x h => .inl h, .inl rfl, .inr (.inl rfl)⟩
theorem zxK {s : zc} {g : zA} (h : Zp s) : Zp (zG s g).1 := by
  obtain ⟨m, b, t, w, f, e, h1, h2, h3, _, _⟩ := WV s g
  rw [e]
  refine ⟨by rw [h1]; exact h.m, by rw [h2]; exact h.bins, fun x hx => ?_, h.acks, h.bal, h.ws, h.w, h.ms, h.mu, h.objs, h.obj, h.pobjs, h.pobj, h.regs, h.reg, h.progs, h.prog, h.picks⟩
  rcases h3 x hx with h' | rfl
  · exact h.bin x h'
  · simp
theorem zuI {p : zd} (h : z3 p) : Zp (vE p) := by
  have S := zs1 h
  have hb := zq8 h
  have hg := zkd h
  have hn := h.n
  have hm := h.mt
  have hw := h.wk
  have hs := h.slots
  have hrl := h.regs
  have hpl := h.progs
  have hobj : ∀ o ∈ p.H.Objs, o.length < 1000000 := fun o ho => by have := (h.objs o ho).1; omega
  have hreg : ∀ r ∈ p.Regs, r.length < 1000000 := fun r hr => by have := (h.reg r hr).1; omega
  refine ⟨by have := S.mem; omega, by rw [S.bins]; omega, fun x hx => ?_, ?_, ?_, ?_, fun x hx => ?_, ?_, fun x hx => ?_, by show p.H.Objs.length < _; omega, hobj, by show p.H.Objs.length < _; omega, hobj, by show p.Regs.length < _; omega, hreg, by show p.Progs.length < _; omega, fun x hx => ?_, ?_⟩
  · have hx : x ∈ [[]] ++ uV p ++ List.replicate (xJ p - (uV p).length) [] := hx
    rcases List.mem_append.1 hx with hx | hx
    · rcases List.mem_append.1 hx with hx | hx
      · simp at hx; subst hx; simp
      · have := zhA _ _ _ _ hx; omega
    · have := (List.mem_replicate.1 hx).2; subst this; simp
  · show (List.replicate p.Mutators.toNat (0 : Int)).length < _; simp; omega
  · show (List.replicate p.Mutators.toNat (0 : Int)).length < _; simp; omega
  · show ((List.range p.Workers.toNat).map (Uc p)).length < _; simp; omega
  · have hx : x ∈ (List.range p.Workers.toNat).map (Uc p) := hx
    obtain ⟨i, _, rfl⟩ := List.mem_map.1 hx
    simp [Uc]
  · show (p.Regs.map vi).length < _; simp; omega
  · have hx : x ∈ p.Regs.map vi := hx
    obtain ⟨r, hr, rfl⟩ := List.mem_map.1 hx
    exact ⟨hreg r hr, by simp [vi], by simp [vi]⟩
  · obtain ⟨i, hi⟩ := List.getElem?_of_mem hx
    have hlt := (List.getElem?_eq_some_iff.1 hi).1
    have := (h.prog i _ x (List.getElem?_eq_getElem (by have : p.Progs.length = p.Regs.length := by omega
                                                        have hlt : i < p.Progs.length := hlt
                                                        omega)) hi).1
    omega
  · show p.Picks.length < _; rw [h.picks]; simp
end
end Go.Pe.G
namespace Go.Pe.G
open Go.Pe
noncomputable section
theorem Xz {α B C : Type} {f : List α × List α × Int × Int × Unit → Option (yW (List α × List α × Int × Int × Unit) B C)} {l : List α} {b : B} (hl : l.length < 1000000)
    (h1 : ∀ (i : Nat) (x : α), l[i]? = some x → f (l, l, (l.length : Int), (i : Int), ()) = some (.again (l, l, (l.length : Int), ((i + 1 : Nat) : Int), ())))
    (h2 : f (l, l, (l.length : Int), (l.length : Int), ()) = some (.brk b)) : ym f (l, l, (l.length : Int), 0, ()) = some (.brk b) := by
  refine (uf (f := f) (fun a => ∃ i : Nat, a = (l, l, (l.length : Int), (i : Int), ()) ∧ i ≤ l.length) (fun a => l.length - a.2.2.2.1.toNat) (fun o => o = .brk b) ?_ (l, l, (l.length : Int), 0, ()) ⟨0, rfl, by omega⟩ (wo (by dsimp only; omega))).elim fun o h => ?_
  rotate_left
  · rw [h.1, h.2]
  · rintro _ ⟨i, rfl, hi⟩
    rcases Nat.lt_or_ge i l.length with hlt | hge
    · refine ⟨_, h1 i _ (List.getElem?_eq_getElem hlt), ⟨i + 1, rfl, hlt⟩, ?_⟩
      show l.length - ((i + 1 : Nat) : Int).toNat < l.length - (i : Int).toNat
      omega
    · have : i = l.length := by omega
      subst this
      exact ⟨_, h2, rfl⟩
theorem xS {l : List (Int)} (hl : l.length < 1000000) : z7 l l = some (true, ()) := by
  rw [zdR, yg, if_pos rfl, Xz (b := ()) hl (fun i x hx => ?_) (by rw [X5]; simp)]
  · rfl
  · have hlt := wU hx
    rw [X5, zn, if_pos hlt, wt hx, Option.bind_some, Option.bind_some, xd (by omega)]
    simp
theorem zae {l : List (BitVec 64)} (hl : l.length < 1000000) : u6 l l = some (true, ()) := by
  rw [zaf, yg, if_pos rfl, Xz (b := ()) hl (fun i x hx => ?_) (by rw [ZG]; simp)]
  · rfl
  · have hlt := wU hx
    rw [ZG, zn, if_pos hlt, wt hx, Option.bind_some, Option.bind_some, xd (by omega)]
    simp
theorem zbi {l : List (Int)} (hl : l.length < 1000000) : ZB l l = some (true, ()) := by
  rw [zbj, yg, if_pos rfl, Xz (b := ()) hl (fun i x hx => ?_) (by rw [Yq]; simp)]
  · rfl
  · have hlt := wU hx
    rw [Yq, zn, if_pos hlt, wt hx, Option.bind_some, Option.bind_some, xd (by omega)]
    simp
theorem Uo {l : List (zh)} (hl : l.length < 1000000) : uD l l = some (true, ()) := by
  rw [Un, yg, if_pos rfl, Xz (b := ()) hl (fun i x hx => ?_) (by rw [Zn]; simp)]
  · rfl
  · have hlt := wU hx
    rw [Zn, zn, if_pos hlt, wt hx, Option.bind_some, Option.bind_some, xd (by omega)]
    simp
theorem Vx {l : List (zj)} (hl : l.length < 1000000) : vF l l = some (true, ()) := by
  rw [Vm, yg, if_pos rfl, Xz (b := ()) hl (fun i x hx => ?_) (by rw [uF]; simp)]
  · rfl
  · have hlt := wU hx
    rw [uF, zn, if_pos hlt, wt hx, Option.bind_some, Option.bind_some, xd (by omega)]
    simp
theorem wj {l : List (List Int)} (hl : l.length < 1000000) (he : ∀ x ∈ l, x.length < 1000000) : zr l l = some (true, ()) := by
  rw [vN, yg, if_pos rfl, Xz (b := ()) hl (fun i x hx => ?_) (by rw [yU]; simp)]
  · rfl
  · have hlt := wU hx
    rw [yU, zn, if_pos hlt, wt hx, Option.bind_some, Option.bind_some, xS (he x (List.mem_of_getElem? hx)), Option.bind_some, xd (by omega)]
    simp
theorem uY {l : List (List zh)} (hl : l.length < 1000000) (he : ∀ x ∈ l, x.length < 1000000) : zY l l = some (true, ()) := by
  rw [xP, yg, if_pos rfl, Xz (b := ()) hl (fun i x hx => ?_) (by rw [yx]; simp)]
  · rfl
  · have hlt := wU hx
    rw [yx, zn, if_pos hlt, wt hx, Option.bind_some, Option.bind_some, Uo (he x (List.mem_of_getElem? hx)), Option.bind_some, xd (by omega)]
    simp
theorem zsm {w : zi} (h : w.Batch.length < 1000000) : Vp w w = some (true, ()) := by
  rw [zhM, xS h]; simp
theorem zrd {m : za} (h : m.Regs.length < 1000000 ∧ m.Buf.length < 1000000 ∧ m.Batch.length < 1000000) : WS m m = some (true, ()) := by
  rw [zgw, xS h.1, xS h.2.1, xS h.2.2, zey]; simp
theorem wY {l : List (zi)} (hl : l.length < 1000000) (he : ∀ x ∈ l, x.Batch.length < 1000000) : zR l l = some (true, ()) := by
  rw [xG, yg, if_pos rfl, Xz (b := ()) hl (fun i x hx => ?_) (by rw [yq]; simp)]
  · rfl
  · have hlt := wU hx
    rw [yq, zn, if_pos hlt, wt hx, Option.bind_some, Option.bind_some, zsm (he x (List.mem_of_getElem? hx)), Option.bind_some, xd (by omega)]
    simp
theorem wK {l : List (za)} (hl : l.length < 1000000) (he : ∀ x ∈ l, x.Regs.length < 1000000 ∧ x.Buf.length < 1000000 ∧ x.Batch.length < 1000000) : zK l l = some (true, ()) := by
  rw [xj, yg, if_pos rfl, Xz (b := ()) hl (fun i x hx => ?_) (by rw [yh]; simp)]
  · rfl
  · have hlt := wU hx
    rw [yh, zn, if_pos hlt, wt hx, Option.bind_some, Option.bind_some, zrd (he x (List.mem_of_getElem? hx)), Option.bind_some, xd (by omega)]
    simp
theorem zp9 {h : zu} (h1 : h.Objs.length < 1000000) (h2 : ∀ x ∈ h.Objs, x.length < 1000000) : uJ h h = some (true, ()) := by
  rw [zpH, wj h1 h2]; simp
theorem zem {s : zc} (h : Zp s) : Wc s s = some (true, ()) := by
  have hp : Zr s.P s.P = some (true, ()) := by
    rw [zoR, zhJ, zp9 h.pobjs h.pobj, wj h.regs h.reg, uY h.progs h.prog, Vx h.picks]
    simp
  have hl : ud s.L s.L = some (true, ()) := by
    rw [zna, zbi h.bal]; simp
  have hm : Ya s.M s.M = some (true, ()) := by
    rw [zqv, zae h.m]; rfl
  rw [znw, hp, zp9 h.objs h.obj, hm, wj h.bins h.bin, xS h.acks, hl, wY h.ws h.w, wK h.ms h.mu]
  simp
end
end Go.Pe.G
namespace Go.Pe.G
open Go.Pe
noncomputable section
def goF {S : Type} (g : Nat → S → S) : Nat → Nat → S → S
  | _, 0, s => s
  | i, k + 1, s => goF g (i + 1) k (g i s)
theorem zqd {S : Type} {g : Nat → S → S} {Inv : S → Prop} (hg : ∀ i s, Inv s → Inv (g i s)) : ∀ (k i : Nat) (s : S), Inv s → Inv (goF g i k s)
  | 0, _, _, h => h
  | k + 1, i, s, h => zqd hg k (i + 1) _ (hg i s h)
theorem zwz {S σ B C : Type} {f : σ → Option (yW σ B C)} (A : Int → S → σ) (b : S → B) (n : Nat) (hn : n < 1000000) (g : Nat → S → S) (Inv : S → Prop) (hg : ∀ i s, Inv s → Inv (g i s))
    (h1 : ∀ (i : Nat) s, i < n → Inv s → f (A (i : Int) s) = some (.again (A ((i + 1 : Nat) : Int) (g i s)))) (h2 : ∀ s, Inv s → f (A (n : Int) s) = some (.brk (b s))) {s : S} (hs : Inv s) :
    ym f (A 0 s) = some (.brk (b (goF g 0 n s))) := by
  have key : ∀ (k i : Nat) (s : S), n - i = k → i ≤ n → Inv s → ∀ m, k < m → uE f m (A (i : Int) s) = some (.brk (b (goF g i k s))) := by
    intro k
    induction k with
    | zero =>
      intro i s hk hi hs m hm
      have : i = n := by omega
      subst this
      obtain ⟨m, rfl⟩ : ∃ x, m = x + 1 := ⟨m - 1, by omega⟩
      simp only [uE]
      rw [h2 s hs]; rfl
    | succ k ih =>
      intro i s hk hi hs m hm
      obtain ⟨m, rfl⟩ : ∃ x, m = x + 1 := ⟨m - 1, by omega⟩
      simp only [uE]
      rw [h1 i s (by omega) hs, Option.bind_some]
      exact ih (i + 1) _ (by omega) (by omega) (hg i s hs) m (by omega)
  have := key n 0 s (by omega) (by omega) hs YC (wo (by omega))
  rw [VQ]
  exact this
end
end Go.Pe.G
namespace Go.Pe.G
open Go.Pe
noncomputable section
def zgS (m : List (BitVec 64)) (d : zg) : List (BitVec 64) × zg :=
  if d.PC < 0 ∨ 7 ≤ d.PC then (m, d)
  else if d.PC = 0 then (m, { d with B := ld m (wc (d.Base + 1)), PC := 1 })
  else if d.PC = 1 then (st m (wc (d.Base + 1)) (d.B - 1#64), { d with PC := 2 })
  else if d.PC = 2 then (m, { d with T := ld m d.Base, PC := if 0 < (ld m d.Base - (d.B - 1#64)).toInt then 5 else 3 })
  else if d.PC = 3 then (m, { d with X := (ld m (zbv d (d.B - 1#64))).toInt, PC := 4, Out := if d.T = d.B - 1#64 then d.Out else 1 })
  else if d.PC = 4 then ((sw m d.Base d.T (d.T + 1#64)).1, { d with PC := if (sw m d.Base d.T (d.T + 1#64)).2 then 6 else 5 })
  else if d.PC = 5 then (st m (wc (d.Base + 1)) d.B, { d with X := 0, Out := 2, PC := 6 })
  else (st m (wc (d.Base + 1)) d.B, { d with Out := 1, PC := 7 })
def zal (m : List (BitVec 64)) (d : zg) : List (BitVec 64) × zg :=
  if d.PC < 0 ∨ 4 ≤ d.PC then (m, d)
  else if d.PC = 0 then (m, { d with T := ld m d.Base, PC := 1 })
  else if d.PC = 1 then (m, { d with B := ld m (wc (d.Base + 1)), PC := 2, Out := if 0 < (ld m (wc (d.Base + 1)) - d.T).toInt then d.Out else 2 })
  else if d.PC = 2 then (m, { d with X := (ld m (zbv d d.T)).toInt, PC := 3 })
  else ((sw m d.Base d.T (d.T + 1#64)).1, if (sw m d.Base d.T (d.T + 1#64)).2 then { d with Out := 1, PC := 4 } else { d with X := 0, Out := 4, PC := 4 })
def uk (m : List (BitVec 64)) (d : zg) : List (BitVec 64) × zg :=
  if d.Out ≠ 0 then (m, d) else if d.Kind = 1 then Zf m d else if d.Kind = 2 then zgS m d else if d.Kind = 3 then zal m d else (m, d)
theorem zsw {m : List (BitVec 64)} {d : zg} (h : d.Kind = 1) : uk m d = Zf m d := by
  unfold uk
  by_cases h0 : d.Out ≠ 0
  · rw [if_pos h0]; unfold Zf; rw [if_pos (.inl h0)]
  · rw [if_neg h0, if_pos h]
theorem zs5 {α : Type} {x y : Option α} {v : α} (h : x = some v) : Option.or x y = some v := by subst h; rfl
theorem zfd {α : Type} {x y z : Option α} (h : x = none) (h2 : y = z) : Option.or x y = z := by subst h; exact h2
theorem zvh : wc 1 = 1 ∧ wc 2 = 2 ∧ wc 3 = 3 ∧ wc 4 = 4 ∧ wc 5 = 5 ∧ wc 6 = 6 ∧ wc 7 = 7 := by decide
theorem zuj : w64 5 = 5 ∧ w64 6 = 6 ∧ w64 7 = 7 := by
  refine ⟨?_, ?_, ?_⟩ <;> exact yp (by omega) (by omega)
theorem zxv {m : List (BitVec 64)} (hm : m.length < 4294967296) {d : zg} (hc : d.Cap < 1000) : zbo m d = some ((uk m d).1, (uk m d).2, ()) := by
  by_cases k1 : d.Kind = 1
  · rw [zsw k1]; exact zg7 hm k1 hc
  obtain ⟨w0, w1, w2, w3, w4⟩ := zre
  obtain ⟨w5, w6, w7⟩ := zuj
  obtain ⟨v1, v2, v3, v4, v5, v6, v7⟩ := zvh
  have hsb : ∀ d : zg, wv m d = some (m, { d with B := ld m (wc (d.Base + 1)) }, ()) := fun d => by
    rw [Y4, xp, xx, Option.bind_some, Xr]; rfl
  have htk : ∀ d : zg, Yc m d = some ((sw m d.Base d.T (d.T + 1#64)).1, (sw m d.Base d.T (d.T + 1#64)).2, ()) := fun d => by
    obtain ⟨v, hv⟩ := zoX hm d.Base d.T (d.T + 1#64)
    rw [zgv, Zt, Option.bind_some, hv]; rfl
  rw [zg5, zeh, zlS, zlU, zlV]
  simp only [zn, yg, if_neg k1]
  unfold uk
  by_cases k2 : d.Kind = 2
  · refine zfd (by simp [k2]) (zs5 ?_)
    rw [if_pos k2, Option.bind_some]
    by_cases g0 : d.Out = 0
    rotate_left
    · rw [if_neg g0, if_pos (show d.Out ≠ 0 from g0)]
    rw [if_pos g0, if_neg (show ¬ (d.Out ≠ 0) from fun e => e g0), if_neg k1, if_pos k2]
    unfold zgS
    by_cases g1 : d.PC < 0
    · rw [if_pos g1, if_pos (.inl g1)]
    rw [if_neg g1]
    by_cases g2 : 7 ≤ d.PC
    · rw [if_pos g2, if_pos (.inr g2)]
    rw [if_neg g2, if_neg (show ¬ (d.PC < 0 ∨ 7 ≤ d.PC) by omega)]
    have hpc : d.PC = 0 ∨ d.PC = 1 ∨ d.PC = 2 ∨ d.PC = 3 ∨ d.PC = 4 ∨ d.PC = 5 ∨ d.PC = 6 := by omega
    rcases hpc with h | h | h | h | h | h | h
    · simp [h, hsb, w1]
    · simp [h, zgo, xp, xx, UI hm, v1, v2, v3, v4, v5, v6, v7]
    · rw [h, if_neg (by decide), if_neg (by decide), if_neg (by decide), if_neg (by decide), if_pos rfl, if_neg (by decide), if_neg (by decide), if_pos rfl]
      simp only [zcz, Zt, Option.bind_some, Xr, zfW, zn]
      by_cases hs : 0 < (ld m d.Base - (d.B - 1#64)).toInt
      · simp only [if_pos hs, Option.bind_some, Int.reduceAdd, w5]
      · simp only [if_neg hs, Option.bind_some, h, Int.reduceAdd, w3]
    · simp only [h, zeR, zhH hc, Option.bind_some, Xr, yg, x8]
      by_cases hs : d.T = d.B - 1#64
      · simp [hs, w4, h]
      · simp [hs, w4, h]
    · simp only [h, zdN, htk, Option.bind_some]
      cases hs : (sw m d.Base d.T (d.T + 1#64)).2 with
      | true => simp [hs, w6, h]
      | false => simp [hs, w5, h]
    · simp [h, zdL, x8, k1, xp, xx, UI hm, v1, v2, v3, v4, v5, v6, v7]
    · simp [h, ze7, x8, xp, xx, UI hm, v1, v2, v3, v4, v5, v6, v7]
  by_cases k3 : d.Kind = 3
  · refine zfd (by simp [k2, k3]) (zfd (by simp [k2, k3]) (zs5 ?_))
    rw [if_neg k2, if_pos k3, Option.bind_some]
    by_cases g0 : d.Out = 0
    rotate_left
    · rw [if_neg g0, if_pos (show d.Out ≠ 0 from g0)]
    rw [if_pos g0, if_neg (show ¬ (d.Out ≠ 0) from fun e => e g0), if_neg k1, if_neg k2, if_pos k3]
    unfold zal
    by_cases g1 : d.PC < 0
    · rw [if_pos g1, if_pos (.inl g1)]
    rw [if_neg g1]
    by_cases g2 : 4 ≤ d.PC
    · rw [if_pos g2, if_pos (.inr g2)]
    rw [if_neg g2, if_neg (show ¬ (d.PC < 0 ∨ 4 ≤ d.PC) by omega)]
    have hpc : d.PC = 0 ∨ d.PC = 1 ∨ d.PC = 2 ∨ d.PC = 3 := by omega
    rcases hpc with h | h | h | h
    · simp [h, zeA, Zt, Xr, w1]
    · rw [h, if_neg (by decide), if_neg (by decide), if_pos rfl, if_neg (by decide), if_pos rfl]
      simp only [ze2, xp, Option.bind_some, Xr, zfW, yg, xx]
      by_cases hs : 0 < (ld m (wc (d.Base + 1)) - d.T).toInt
      · simp only [if_pos hs, Option.bind_some, Int.reduceAdd, v2, h]
      · simp only [if_neg hs, Option.bind_some, Int.reduceAdd, v2, h]
    · simp [h, zdZ, zhH hc, Xr, w3]
    · simp only [h, zb8, htk, Option.bind_some, x8]
      cases hs : (sw m d.Base d.T (d.T + 1#64)).2 with
      | true => simp [hs, w4, h]
      | false => simp [hs, w4, h, k1]
  · refine zfd (by simp [k2, k3]) (zfd (by simp [k2, k3]) (zfd (by simp [k2, k3]) ?_))
    rw [if_neg k2, if_neg k3, Option.bind_some]
    by_cases g0 : d.Out = 0
    · simp [g0, k1, k2, k3]
    · simp [g0]
theorem ztG (m : List (BitVec 64)) (d : zg) : (zgS m d).1.length = m.length ∧ (zgS m d).2.Kind = d.Kind ∧ (zgS m d).2.Base = d.Base ∧ (zgS m d).2.Cap = d.Cap := by
  unfold zgS sw st
  split
  · exact ⟨rfl, rfl, rfl, rfl⟩
  split
  · exact ⟨rfl, rfl, rfl, rfl⟩
  split
  · refine ⟨?_, rfl, rfl, rfl⟩; dsimp only; split <;> simp
  split
  · exact ⟨rfl, rfl, rfl, rfl⟩
  split
  · exact ⟨rfl, rfl, rfl, rfl⟩
  split
  · refine ⟨?_, rfl, rfl, rfl⟩; dsimp only; split <;> (try split) <;> simp
  split <;> (refine ⟨?_, rfl, rfl, rfl⟩; dsimp only; split <;> simp)
theorem zqX (m : List (BitVec 64)) (d : zg) : (zal m d).1.length = m.length ∧ (zal m d).2.Kind = d.Kind ∧ (zal m d).2.Base = d.Base ∧ (zal m d).2.Cap = d.Cap := by
  unfold zal sw st
  split
  · exact ⟨rfl, rfl, rfl, rfl⟩
  split
  · exact ⟨rfl, rfl, rfl, rfl⟩
  split
  · exact ⟨rfl, rfl, rfl, rfl⟩
  split
  · exact ⟨rfl, rfl, rfl, rfl⟩
  · refine ⟨?_, ?_, ?_, ?_⟩ <;> dsimp only <;> split <;> (try split) <;> simp
end
end Go.Pe.G
namespace Go.Pe.G
open Go.Pe
noncomputable section
def xy (h : zu) (o : Int) : List Int := h.Objs.getD (o - 1).toNat []
def Vj (h : zu) (o s : Int) : Bool := decide (1 ≤ o) && decide (o ≤ (h.Objs.length : Int)) && decide (0 ≤ s) && decide (s < ((xy h o).length : Int))
def zam (h : zu) (o s : Int) : Int := if Vj h o s then (xy h o).getD s.toNat 0 else 0
def zpt (s : BitVec 64) (o : Int) : Bool := !(decide (s &&& bit o = 0#64))
def zfI (t : zq) (o : Int) : Int := if zpt (t.Marks &&& t.Black) o then 2 else if zpt t.Marks o then 1 else 0
def znr (t : zq) (o : Int) : zq := if zfI t o = 1 then { t with Black := t.Black ||| bit o } else t
def zlv (l : zk) (who : Int) : zk :=
  if 1 ≤ who ∧ who ≤ (l.Bal.length : Int) then { l with Scanned := wc (l.Scanned + 1), Bal := l.Bal.set (who - 1).toNat (wc (l.Bal.getD (who - 1).toNat 0 + 1)) }
  else { l with Scanned := wc (l.Scanned + 1), Pool := wc (l.Pool + 1) }
def zlw (s : zc) (b : Int) : List Int := s.Bins.getD b.toNat []
def zvi (p : zd) (h x : Int) : zw := ⟨2, 0, h, yT p, 0#64, x, 0, 0⟩
def ztr (p : zd) (h x : Int) : zw := ⟨1, 0, h, yT p, 0#64, x, 0, 0⟩
def onW (s : zc) (slot : Int) : Int := if slot = s.H.Slots then 8 else 5
def zrk (p : zd) (w : Int) (x : zi) : zi := { x with PC := 0, Victim := w, D := ⟨2, 0, Z4 p w, p.Cap, 0#64, 0#64, 0, 0⟩ }
def zlq (n v : Int) : Int := if v < n then v + 1 else 1
def znS (p : zd) (w : Int) (x : zi) : zi :=
  if zlq p.Workers x.Victim = w then { x with PC := 2, Victim := w, C := zvi p (vA p) 0 }
  else { x with PC := 1, Victim := zlq p.Workers x.Victim, D := ⟨3, 0, Z4 p (zlq p.Workers x.Victim), p.Cap, 0#64, 0#64, 0, 0⟩ }
def yJ (s : zc) (w : Int) (x : zi) : zc × zi :=
  if x.PC = 0 ∨ x.PC = 1 then
    ({ s with M := (uk s.M x.D).1 },
      if (uk s.M x.D).2.Out = 1 then { x with D := (uk s.M x.D).2, Victim := w, PC := 5, Obj := (uk s.M x.D).2.X, Slot := 0 }
      else if (uk s.M x.D).2.Out = 2 ∨ (uk s.M x.D).2.Out = 4 then znS s.P w { x with D := (uk s.M x.D).2 } else { x with D := (uk s.M x.D).2 })
  else if x.PC = 2 then
    ({ s with M := (zV s.M x.C).1 },
      if (zV s.M x.C).2.Out = 1 then { x with C := (zV s.M x.C).2, Bin := (zV s.M x.C).2.X, PC := 3 }
      else if (zV s.M x.C).2.Out = 2 then zrk s.P w { x with C := (zV s.M x.C).2 } else { x with C := (zV s.M x.C).2 })
  else if x.PC = 3 then ({ s with Bins := s.Bins.set x.Bin.toNat [] }, { x with Batch := zlw s x.Bin, PC := 4, C := ztr s.P (yT s.P) x.Bin })
  else if x.PC = 4 then
    ({ s with M := (zV s.M x.C).1 }, if (zV s.M x.C).2.Out = 1 then { x with C := (zV s.M x.C).2, Bin := 0, PC := 7 } else { x with C := (zV s.M x.C).2 })
  else if x.PC = 5 then
    (s, if zam s.H x.Obj x.Slot = 0 then { x with Slot := wc (x.Slot + 1), PC := onW s (wc (x.Slot + 1)) } else { x with Slot := wc (x.Slot + 1), PC := 6, G := znv 1 (zam s.H x.Obj x.Slot) w })
  else if x.PC = 6 then ((zG s x.G).1, if (zG s x.G).2.Out = 1 then { x with G := (zG s x.G).2, PC := onW s x.Slot } else { x with G := (zG s x.G).2 })
  else if x.PC = 7 then (s, match x.Batch with | [] => zrk s.P w x | o :: l => { x with Batch := l, PC := 5, Obj := o, Slot := 0 })
  else if x.PC = 8 then ({ s with T := znr s.T x.Obj, L := zlv s.L 0 }, { x with PC := 9 })
  else if x.PC = 9 then ({ s with Work := wc (s.Work - 1) }, { x with Obj := 0, PC := 7 })
  else (s, x)
def uM (s : zc) (w : Int) : zc :=
  if s.Done = true ∨ w < 1 ∨ (s.Ws.length : Int) < w then s
  else match s.Ws[(w - 1).toNat]? with
    | some x => { (yJ s w x).1 with Ws := s.Ws.set (w - 1).toNat (yJ s w x).2 }
    | none => s
structure zub (p : zd) (nb : Nat) (hd : Int) (c : zw) : Prop where
  k : c.Kind = 2
  h : c.Head = hd
  n : c.Next = yT p
  v : 1 ≤ c.PC → 1 ≤ yY c.H ∧ yY c.H < nb
  y : 2 ≤ c.PC → 0 ≤ c.Y ∧ c.Y < nb
  o : c.Out ≠ 1
structure zrs (p : zd) (nb : Nat) (hd : Int) (c : zw) : Prop where
  k : c.Kind = 1
  h : c.Head = hd
  n : c.Next = yT p
  x : 1 ≤ c.X ∧ c.X < nb
  v : 1 ≤ c.PC → yY c.H < nb
theorem zs7 {p : zd} {nb : Nat} {hd x : Int} : zub p nb hd (zvi p hd x) :=
  ⟨rfl, rfl, rfl, fun e => absurd e (by show ¬ (1 : Int) ≤ 0; decide), fun e => absurd e (by show ¬ (2 : Int) ≤ 0; decide), by show (0 : Int) ≠ 1; decide⟩
theorem zr7 {p : zd} {nb : Nat} {hd x : Int} (h : 1 ≤ x ∧ x < nb) : zrs p nb hd (ztr p hd x) :=
  ⟨rfl, rfl, rfl, h, fun e => absurd e (by show ¬ (1 : Int) ≤ 0; decide)⟩
structure WOk (p : zd) (nb : Nat) (w : Int) (x : zi) : Prop where
  pc : 0 ≤ x.PC ∧ x.PC ≤ 9
  vic : 1 ≤ x.Victim ∧ x.Victim ≤ p.Workers
  d0 : x.PC = 0 → x.D.Kind = 2 ∧ x.D.Base = Z4 p w ∧ x.D.Cap = p.Cap
  d1 : x.PC = 1 → x.D.Kind = 3 ∧ x.D.Base = Z4 p x.Victim ∧ x.D.Cap = p.Cap
  c2 : x.PC = 2 → zub p nb (vA p) x.C
  b3 : x.PC = 3 → 1 ≤ x.Bin ∧ x.Bin < nb
  c4 : x.PC = 4 → zrs p nb (yT p) x.C
  g6 : x.PC = 6 → MOk p nb x.G ∧ (x.G.PC = 5 → x.G.C.Out ≠ 1) ∧ x.G.Mode = 1 ∧ x.G.PC ≠ 4
theorem WOk.plain {p : zd} {nb : Nat} {w : Int} {x : zi} (pc : x.PC = 5 ∨ x.PC = 7 ∨ x.PC = 8 ∨ x.PC = 9) (vic : 1 ≤ x.Victim ∧ x.Victim ≤ p.Workers) : WOk p nb w x :=
  ⟨by omega, vic, fun e => by omega, fun e => by omega, fun e => by omega, fun e => by omega, fun e => by omega, fun e => by omega⟩
theorem SOk.swLow {p : zd} {nb : Nat} {s : zc} (h : z3 p) (S : SOk p nb s) {a : Int} (ha : a < vA p) (x v : BitVec 64) : SOk p nb { s with M := (sw s.M a x v).1 } := by
  unfold sw
  split
  · exact S.low h ha v
  · exact S
theorem zxu {p : zd} {nb : Nat} {s : zc} (h : z3 p) (S : SOk p nb s) {d : zg} {v : Int} (hv : 1 ≤ v ∧ v ≤ p.Workers) (hk : d.Kind = 2 ∨ d.Kind = 3) (hb : d.Base = Z4 p v) : SOk p nb { s with M := (uk s.M d).1 } := by
  have hd := zmt h hv.1 hv.2
  have hc := h.cap
  have hf := zay h
  have e1 : wc (d.Base + 1) = d.Base + 1 := Y2 (by omega) (by omega)
  unfold uk
  split
  · exact S
  split
  · omega
  split
  · unfold zgS
    rw [e1]
    split
    · exact S
    split
    · exact S
    split
    · exact S.low h (by omega) _
    split
    · exact S
    split
    · exact S
    split
    · exact S.swLow h (by omega) _ _
    split <;> exact S.low h (by omega) _
  split
  · unfold zal
    split
    · exact S
    split
    · exact S
    split
    · exact S
    split
    · exact S
    · exact S.swLow h (by omega) _ _
  · exact S
theorem zma (m : List (BitVec 64)) (d : zg) : (uk m d).1.length = m.length ∧ (uk m d).2.Kind = d.Kind ∧ (uk m d).2.Base = d.Base ∧ (uk m d).2.Cap = d.Cap := by
  unfold uk
  split
  · exact ⟨rfl, rfl, rfl, rfl⟩
  split
  · unfold Zf
    split
    · exact ⟨rfl, rfl, rfl, rfl⟩
    split
    · exact ⟨rfl, rfl, rfl, rfl⟩
    split
    · refine ⟨rfl, ?_, ?_, ?_⟩ <;> dsimp only <;> split <;> rfl
    split <;> exact ⟨Vf _ _ _, rfl, rfl, rfl⟩
  split
  · exact ztG m d
  split
  · exact zqX m d
  · exact ⟨rfl, rfl, rfl, rfl⟩
theorem zvj {n v : Int} (h : 1 ≤ v ∧ v ≤ n) : 1 ≤ zlq n v ∧ zlq n v ≤ n := by unfold zlq; split <;> omega
theorem WOk.look {p : zd} {nb : Nat} {w : Int} {x : zi} (hw : 1 ≤ w ∧ w ≤ p.Workers) (vic : 1 ≤ x.Victim ∧ x.Victim ≤ p.Workers) : WOk p nb w (znS p w x) := by
  have hn := zvj vic
  unfold znS
  split
  · exact ⟨⟨(by show (0 : Int) ≤ 2; decide), (by show (2 : Int) ≤ 9; decide)⟩, hw, fun e => (by cases e), fun e => (by cases e), fun _ => zs7, fun e => (by cases e), fun e => (by cases e), fun e => (by cases e)⟩
  · exact ⟨⟨(by show (0 : Int) ≤ 1; decide), (by show (1 : Int) ≤ 9; decide)⟩, hn, fun e => (by cases e), fun _ => ⟨rfl, rfl, rfl⟩, fun e => (by cases e), fun e => (by cases e), fun e => (by cases e), fun e => (by cases e)⟩
theorem WOk.begin {p : zd} {nb : Nat} {w : Int} {x : zi} (hw : 1 ≤ w ∧ w ≤ p.Workers) : WOk p nb w (zrk p w x) :=
  ⟨⟨(by show (0 : Int) ≤ 0; decide), (by show (0 : Int) ≤ 9; decide)⟩, hw, fun _ => ⟨rfl, rfl, rfl⟩, fun e => (by cases e), fun e => (by cases e), fun e => (by cases e), fun e => (by cases e), fun e => (by cases e)⟩
theorem zth (s : zc) {g : zA} (h1 : g.Mode = 1) (h4 : g.PC ≠ 4) : (zG s g).2.PC ≠ 4 ∧ (zG s g).1.Flag = s.Flag := by
  have five : (5 : Int) ≠ 4 := by decide
  unfold zG
  split
  · exact ⟨h4, rfl⟩
  split
  · refine ⟨?_, rfl⟩; unfold zgi; dsimp only; split <;> exact h4
  split
  · exact ⟨(by show (7 : Int) ≠ 4; decide), rfl⟩
  split
  · refine ⟨?_, rfl⟩; unfold zlm; dsimp only
    split
    · show (6 : Int) ≠ 4; decide
    split
    · exact five
    · exact h4
  split
  · refine ⟨?_, rfl⟩; unfold zlk; dsimp only
    split
    · exact h4
    split
    · exact five
    · exact h4
  split
  · exact ⟨h4, rfl⟩
  split
  · refine ⟨?_, rfl⟩; unfold zoq; dsimp only
    split
    · show (2 : Int) ≠ 4; decide
    · show (3 : Int) ≠ 4; decide
  · exact ⟨(by show (1 : Int) ≠ 4; decide), rfl⟩
theorem zuU (s : zc) (i : Int) : onW s i = 5 ∨ onW s i = 8 := by unfold onW; split <;> simp
theorem SOk.keep {p : zd} {nb : Nat} {s s' : zc} (S : SOk p nb s) (hP : s'.P = s.P) (hM : s'.M = s.M) (hB : s'.Bins.length = s.Bins.length) : SOk p nb s' :=
  ⟨hP.trans S.P, hB.trans S.bins, S.nbk, by rw [hM]; exact S.mem, by rw [hM]; exact S.cF, by rw [hM]; exact S.cE, by rw [hM]; exact S.cL⟩
theorem zwC {p : zd} {nb : Nat} {s : zc} {w : Int} {x : zi} (h : z3 p) (hw : 1 ≤ w ∧ w ≤ p.Workers) (S : SOk p nb s) (W : WOk p nb w x) : SOk p nb (yJ s w x).1 ∧ WOk p nb w (yJ s w x).2 := by
  have hP := S.P
  unfold yJ
  split
  · rename_i h01
    have hv : ∃ v, (1 ≤ v ∧ v ≤ p.Workers) ∧ (x.D.Kind = 2 ∨ x.D.Kind = 3) ∧ x.D.Base = Z4 p v := by
      rcases h01 with e | e
      · obtain ⟨a, b, c⟩ := W.d0 e; exact ⟨w, hw, .inl a, b⟩
      · obtain ⟨a, b, c⟩ := W.d1 e; exact ⟨x.Victim, W.vic, .inr a, b⟩
    obtain ⟨v, hv1, hv2, hv3⟩ := hv
    refine ⟨zxu h S hv1 hv2 hv3, ?_⟩
    obtain ⟨l1, l2, l3, l4⟩ := zma s.M x.D
    dsimp only
    split
    · exact WOk.plain (.inl rfl) hw
    split
    · rw [hP]; exact WOk.look hw W.vic
    · refine ⟨W.pc, W.vic, fun e => ?_, fun e => ?_, fun e => by dsimp only at e; omega, fun e => by dsimp only at e; omega, fun e => by dsimp only at e; omega, fun e => by dsimp only at e; omega⟩
      · obtain ⟨a, b, c⟩ := W.d0 e; exact ⟨l2.trans a, l3.trans b, l4.trans c⟩
      · obtain ⟨a, b, c⟩ := W.d1 e; exact ⟨l2.trans a, l3.trans b, l4.trans c⟩
  split
  · rename_i h2
    have C := W.c2 h2
    obtain ⟨b1, b2, b3, b4, b5, b6⟩ := zr4 h S (.inl rfl) C.k C.h C.n C.v C.y C.o
    refine ⟨b1, ?_⟩
    dsimp only
    split
    · rename_i e1
      exact ⟨⟨(by show (0 : Int) ≤ 3; decide), (by show (3 : Int) ≤ 9; decide)⟩, W.vic, fun e => (by cases e), fun e => (by cases e), fun e => (by cases e), fun _ => b6 e1, fun e => (by cases e), fun e => (by cases e)⟩
    split
    · rw [hP]; exact WOk.begin hw
    · rename_i e1 e2
      exact ⟨W.pc, W.vic, fun e => (by dsimp only at e; omega), fun e => (by dsimp only at e; omega), fun _ => ⟨b2, b3, b4, (b5 e1 e2).1, (b5 e1 e2).2, e1⟩, fun e => (by dsimp only at e; omega), fun e => (by dsimp only at e; omega), fun e => (by dsimp only at e; omega)⟩
  split
  · rename_i h3
    have B := W.b3 h3
    refine ⟨S.keep rfl rfl (by simp), ?_⟩
    rw [hP]
    exact ⟨⟨(by show (0 : Int) ≤ 4; decide), (by show (4 : Int) ≤ 9; decide)⟩, W.vic, fun e => (by cases e), fun e => (by cases e), fun e => (by cases e), fun e => (by cases e), fun _ => zr7 B, fun e => (by cases e)⟩
  split
  · rename_i h4
    have C := W.c4 h4
    obtain ⟨b1, b2, b3, b4, b5, b6⟩ := zpp h S (.inr rfl) C.k C.h C.n C.x C.v
    refine ⟨b1, ?_⟩
    dsimp only
    split
    · exact WOk.plain (.inr (.inl rfl)) W.vic
    · exact ⟨W.pc, W.vic, fun e => (by dsimp only at e; omega), fun e => (by dsimp only at e; omega), fun e => (by dsimp only at e; omega), fun e => (by dsimp only at e; omega), fun _ => ⟨b2, b3, b4, b5, b6⟩, fun e => (by dsimp only at e; omega)⟩
  split
  · refine ⟨S, ?_⟩
    dsimp only
    split
    · rcases zuU s (wc (x.Slot + 1)) with e | e <;> rw [e]
      · exact WOk.plain (.inl rfl) W.vic
      · exact WOk.plain (.inr (.inr (.inl rfl))) W.vic
    · exact ⟨⟨(by show (0 : Int) ≤ 6; decide), (by show (6 : Int) ≤ 9; decide)⟩, W.vic, fun e => (by cases e), fun e => (by cases e), fun e => (by cases e), fun e => (by cases e), fun e => (by cases e), fun _ =>
        ⟨⟨fun _ => hw, fun e => (by cases e), fun e => (by cases e), fun e => (by cases e), fun e => (by cases e)⟩, fun e => (by cases e), rfl, by show (0 : Int) ≠ 4; decide⟩⟩
  split
  · rename_i h6
    obtain ⟨g1, g2, g3, g4⟩ := W.g6 h6
    obtain ⟨r1, r2, r3⟩ := zoY h S g1 g2
    refine ⟨r1, ?_⟩
    dsimp only
    split
    · rcases zuU s x.Slot with e | e <;> rw [e]
      · exact WOk.plain (.inl rfl) W.vic
      · exact WOk.plain (.inr (.inr (.inl rfl))) W.vic
    · exact ⟨W.pc, W.vic, fun e => (by dsimp only at e; omega), fun e => (by dsimp only at e; omega), fun e => (by dsimp only at e; omega), fun e => (by dsimp only at e; omega), fun e => (by dsimp only at e; omega), fun _ => ⟨r2, r3, (zmY s x.G).2.2.trans g3, (zth s g3 g4).1⟩⟩
  split
  · refine ⟨S, ?_⟩
    dsimp only
    split
    · rw [hP]; exact WOk.begin hw
    · exact WOk.plain (.inl rfl) W.vic
  split
  · exact ⟨S.keep rfl rfl rfl, WOk.plain (.inr (.inr (.inr rfl))) W.vic⟩
  split
  · exact ⟨S.keep rfl rfl rfl, WOk.plain (.inr (.inl rfl)) W.vic⟩
  · have := W.pc
    omega
end
end Go.Pe.G
namespace Go.Pe.G
open Go.Pe
noncomputable section
def zix (h : zu) (o s v : Int) : zu :=
  if Vj h o s = true ∧ 0 ≤ v ∧ v ≤ (h.Objs.length : Int) then { h with Objs := h.Objs.set (o - 1).toNat ((xy h o).set s.toNat v) } else h
def ze6 (h : zu) (most : Int) : Bool := decide ((h.Objs.length : Int) < most) && decide ((h.Objs.length : Int) < 64)
def zii (h : zu) : zu := { h with Objs := h.Objs ++ [List.replicate h.Slots.toNat 0] }
def zoD (t : zq) (o : Int) : zq := if (zeo t o).2 = true then znr (zeo t o).1 o else t
def zbA (l : zk) (who : Int) : Int := l.Bal.getD (who - 1).toNat 0
def VN (l : zk) (who : Int) : Bool := decide (1 ≤ who) && decide (who ≤ (l.Bal.length : Int))
def V7 (l : zk) (who price limit : Int) : Bool := VN l who && decide (0 ≤ price) && decide (0 ≤ limit) && decide (price ≤ 1000000) && decide (limit ≤ 1000000)
def zjs (l : zk) (who price limit : Int) : Bool := V7 l who price limit && decide (wc (-limit) ≤ wc (zbA l who - price))
def zkf (l : zk) (who price : Int) : zk := { l with Spent := wc (l.Spent + price), Bal := l.Bal.set (who - 1).toNat (wc (zbA l who - price)) }
def zlg (l : zk) (who price limit : Int) : Int := if V7 l who price limit then (if zjs l who price limit then 0 else wc (wc (price - limit) - zbA l who)) else -1
def zjx (a b : Int) : Int := if b < a then b else a
def zgR (l : zk) (who want : Int) : zk × Int :=
  if VN l who = true ∧ 0 < zjx want l.Pool then ({ l with Pool := wc (l.Pool - zjx want l.Pool), Bal := l.Bal.set (who - 1).toNat (wc (zbA l who + zjx want l.Pool)) }, zjx want l.Pool) else (l, 0)
def wa (p : zd) (m : Int) : List zh := p.Progs.getD (m - 1).toNat []
def opM (p : zd) (m : Int) (x : za) : zh := (wa p m).getD x.IP.toNat ⟨0, 0, 0, 0⟩
def zh0 (x : za) (r : Int) : Int := x.Regs.getD r.toNat 0
def zqO (x : za) : za := { x with PC := 0, IP := wc (x.IP + 1) }
def setM (x : za) (r v : Int) : za := { x with PC := 0, IP := wc (x.IP + 1), Regs := x.Regs.set r.toNat v }
def onM (s : zc) (slot : Int) : Int := if slot = s.H.Slots then 38 else 36
def zqP (s : zc) (m : Int) (x : za) : Int := zam s.H (zh0 x (opM s.P m x).A) (opM s.P m x).S
def zdi (s : zc) (m : Int) (x : za) : za :=
  if s.Acks.getD (m - 1).toNat 0 < s.Epoch then { x with PC := 1, Ret := 2, Want := s.Epoch }
  else if ((wa s.P m).length : Int) ≤ x.IP then x
  else if (opM s.P m x).Kind = 1 then { x with PC := 10 }
  else if (opM s.P m x).Kind = 2 then { x with PC := 20 }
  else if (opM s.P m x).Kind = 3 then { x with PC := 30 }
  else if (opM s.P m x).Kind = 4 then setM x (opM s.P m x).R (zh0 x (opM s.P m x).A)
  else setM x (opM s.P m x).R 0
def mu0 (s : zc) (m : Int) (x : za) : zc × za :=
  (s, zdi s m x)
def mu1 (s : zc) (m : Int) (x : za) : zc × za :=
  (s, if x.Buf.length = 0 then { x with PC := x.Ret } else { x with PC := 3, Buf := x.Buf.take (x.Buf.length - 1), G := znv 2 (x.Buf.getD (x.Buf.length - 1) 0) m })
def mu2 (s : zc) (m : Int) (x : za) : zc × za :=
  ({ s with Acks := s.Acks.set (m - 1).toNat x.Want }, { x with PC := 0 })
def mu3 (s : zc) (m : Int) (x : za) : zc × za :=
  ((zG s x.G).1, if (zG s x.G).2.Out = 1 then { x with PC := 1, G := (zG s x.G).2 } else { x with G := (zG s x.G).2 })
def zmB (s : zc) (m : Int) (x : za) : zc × za :=
  (s, setM x (opM s.P m x).R (zqP s m x))
def zlc (s : zc) (m : Int) (x : za) : zc × za :=
  (s, if zh0 x (opM s.P m x).A = 0 then zqO x else { x with PC := 21, Old := zqP s m x })
def zkU (s : zc) (m : Int) (x : za) : zc × za :=
  (s, if x.Old = 0 ∨ zfI s.T x.Old ≠ 0 then { x with PC := 23, Old := 0 } else { x with PC := 22 })
def zk9 (s : zc) (m : Int) (x : za) : zc × za :=
  (s, if s.P.Buf ≤ (x.Buf.length : Int) then { x with PC := 1, Ret := 22 } else { x with PC := 23, Old := 0, Buf := x.Buf ++ [x.Old] })
def zm6 (s : zc) (m : Int) (x : za) : zc × za :=
  ({ s with H := zix s.H (zh0 x (opM s.P m x).A) (opM s.P m x).S (zh0 x (opM s.P m x).R) }, zqO x)
def zhs (s : zc) (m : Int) (x : za) : zc × za :=
     if zjs s.L m s.P.Price s.P.Limit = true then
      if ze6 s.H s.P.Most = true then ({ s with L := zkf s.L m s.P.Price, H := zii s.H, T := zoD s.T (wc (s.H.Objs.length + 1)) }, setM x (opM s.P m x).R (wc (s.H.Objs.length + 1)))
      else (s, zqO x)
    else (s, { x with PC := 31 })
def zku (s : zc) (m : Int) (x : za) : zc × za :=
     ({ s with L := (zgR s.L m (zlg s.L m s.P.Price s.P.Limit)).1 }, if (zgR s.L m (zlg s.L m s.P.Price s.P.Limit)).2 = 0 then { x with PC := 32, C := zvi s.P (vA s.P) x.Bin } else { x with PC := 0 })
def zkK (s : zc) (m : Int) (x : za) : zc × za :=
     ({ s with M := (zV s.M x.C).1 }, if (zV s.M x.C).2.Out = 1 then { x with PC := 33, Bin := (zV s.M x.C).2.X, C := (zV s.M x.C).2 }
      else if (zV s.M x.C).2.Out = 2 then { x with PC := 0, C := (zV s.M x.C).2 } else { x with C := (zV s.M x.C).2 })
def zml (s : zc) (m : Int) (x : za) : zc × za :=
  ({ s with Bins := s.Bins.set x.Bin.toNat [] }, { x with Batch := zlw s x.Bin, PC := 34, C := ztr s.P (yT s.P) x.Bin })
def zkw (s : zc) (m : Int) (x : za) : zc × za :=
     ({ s with M := (zV s.M x.C).1 }, if (zV s.M x.C).2.Out = 1 then { x with C := (zV s.M x.C).2, Bin := 0, PC := 35 } else { x with C := (zV s.M x.C).2 })
def zkq (s : zc) (m : Int) (x : za) : zc × za :=
  (s, match x.Batch with | [] => { x with PC := 0 } | o :: l => { x with PC := 36, Obj := o, Slot := 0, Batch := l })
def zkg (s : zc) (m : Int) (x : za) : zc × za :=
     (s, if zam s.H x.Obj x.Slot = 0 then { x with Slot := wc (x.Slot + 1), PC := onM s (wc (x.Slot + 1)) } else { x with Slot := wc (x.Slot + 1), PC := 37, G := znv 3 (zam s.H x.Obj x.Slot) m })
def zmx (s : zc) (m : Int) (x : za) : zc × za :=
  ((zG s x.G).1, if (zG s x.G).2.Out = 1 then { x with G := (zG s x.G).2, PC := onM s x.Slot } else { x with G := (zG s x.G).2 })
def zmS (s : zc) (m : Int) (x : za) : zc × za :=
  ({ s with T := znr s.T x.Obj, L := zlv s.L m }, { x with PC := 39 })
def zpC (s : zc) (m : Int) (x : za) : zc × za :=
  ({ s with Work := wc (s.Work - 1) }, { x with Obj := 0, PC := 35 })
def zW (s : zc) (m : Int) (x : za) : zc × za :=
  if x.PC = 0 then mu0 s m x
  else if x.PC = 1 then mu1 s m x
  else if x.PC = 2 then mu2 s m x
  else if x.PC = 3 then mu3 s m x
  else if x.PC = 10 then zmB s m x
  else if x.PC = 20 then zlc s m x
  else if x.PC = 21 then zkU s m x
  else if x.PC = 22 then zk9 s m x
  else if x.PC = 23 then zm6 s m x
  else if x.PC = 30 then zhs s m x
  else if x.PC = 31 then zku s m x
  else if x.PC = 32 then zkK s m x
  else if x.PC = 33 then zml s m x
  else if x.PC = 34 then zkw s m x
  else if x.PC = 35 then zkq s m x
  else if x.PC = 36 then zkg s m x
  else if x.PC = 37 then zmx s m x
  else if x.PC = 38 then zmS s m x
  else if x.PC = 39 then zpC s m x
  else (s, x)
def zH (s : zc) (m : Int) : zc :=
  if s.Done = true ∨ m < 1 ∨ (s.Ms.length : Int) < m then s
  else match s.Ms[(m - 1).toNat]? with
    | some x => { (zW s m x).1 with Ms := s.Ms.set (m - 1).toNat (zW s m x).2 }
    | none => s
def zc2 (p : zd) (m : Int) : Nat := (p.Regs.getD (m - 1).toNat []).length
structure XOk (p : zd) (nb : Nat) (m : Int) (x : za) : Prop where
  pc : (0 ≤ x.PC ∧ x.PC ≤ 3) ∨ x.PC = 10 ∨ (20 ≤ x.PC ∧ x.PC ≤ 23) ∨ (30 ≤ x.PC ∧ x.PC ≤ 39)
  regs : x.Regs.length = zc2 p m
  ip : 0 ≤ x.IP ∧ x.IP ≤ ((wa p m).length : Int)
  op : (10 ≤ x.PC ∧ x.PC ≤ 30) ∨ ((x.PC = 1 ∨ x.PC = 3) ∧ x.Ret = 22) → x.IP < ((wa p m).length : Int)
  ret : x.PC = 1 ∨ x.PC = 3 → x.Ret = 2 ∨ x.Ret = 22
  c32 : x.PC = 32 → zub p nb (vA p) x.C
  b33 : x.PC = 33 → 1 ≤ x.Bin ∧ x.Bin < nb
  c34 : x.PC = 34 → zrs p nb (yT p) x.C
  bin : x.PC ≠ 33 → x.PC ≠ 34 → x.Bin = 0
  g : x.PC = 3 ∨ x.PC = 37 → MOk p nb x.G ∧ (x.G.PC = 5 → x.G.C.Out ≠ 1) ∧ x.G.Mode ≠ 1
  buf : (x.Buf.length : Int) ≤ p.Buf
theorem XOk.move {p : zd} {nb : Nat} {m : Int} {x y : za} (X : XOk p nb m x) (h : x.PC ≠ 33 ∧ x.PC ≠ 34) (pc : y.PC = 0 ∨ y.PC = 2 ∨ y.PC = 10 ∨ (20 ≤ y.PC ∧ y.PC ≤ 23) ∨ y.PC = 30 ∨ y.PC = 31 ∨ y.PC = 35 ∨ y.PC = 36 ∨ y.PC = 38 ∨ y.PC = 39)
    (regs : y.Regs.length = x.Regs.length) (bin : y.Bin = x.Bin) (buf : (y.Buf.length : Int) ≤ p.Buf) (ip : 0 ≤ y.IP ∧ y.IP ≤ ((wa p m).length : Int)) (op : 10 ≤ y.PC ∧ y.PC ≤ 30 → y.IP < ((wa p m).length : Int)) : XOk p nb m y :=
  ⟨by omega, regs.trans X.regs, ip, fun e => op (by omega), fun e => by omega, fun e => by omega, fun e => by omega, fun e => by omega, fun _ _ => bin.trans (X.bin h.1 h.2), fun e => by omega, buf⟩
theorem znu (s : zc) (i : Int) : onM s i = 36 ∨ onM s i = 38 := by unfold onM; split <;> simp
theorem XOk.next {p : zd} {nb : Nat} {m : Int} {x : za} (hp : ((wa p m).length : Int) ≤ 64) (X : XOk p nb m x) (h : x.PC ≠ 33 ∧ x.PC ≠ 34) (hi : x.IP < ((wa p m).length : Int)) : XOk p nb m (zqO x) := by
  have := X.ip
  have e : wc (x.IP + 1) = x.IP + 1 := Y2 (by omega) (by omega)
  refine X.move h (.inl rfl) rfl rfl X.buf ?_ (fun h => absurd h (by show ¬ ((10 : Int) ≤ 0 ∧ (0 : Int) ≤ 30); decide))
  show 0 ≤ wc (x.IP + 1) ∧ wc (x.IP + 1) ≤ _
  rw [e]; omega
theorem XOk.set {p : zd} {nb : Nat} {m : Int} {x : za} (hp : ((wa p m).length : Int) ≤ 64) (X : XOk p nb m x) (h : x.PC ≠ 33 ∧ x.PC ≠ 34) (hi : x.IP < ((wa p m).length : Int)) (r v : Int) : XOk p nb m (setM x r v) := by
  have := X.ip
  have e : wc (x.IP + 1) = x.IP + 1 := Y2 (by omega) (by omega)
  refine X.move h (.inl rfl) (by simp [setM]) rfl X.buf ?_ (fun h => absurd h (by show ¬ ((10 : Int) ≤ 0 ∧ (0 : Int) ≤ 30); decide))
  show 0 ≤ wc (x.IP + 1) ∧ wc (x.IP + 1) ≤ _
  rw [e]; omega
theorem ZP {motive : zc × za → Prop} (s : zc) (m : Int) (x : za) (h0 : x.PC = 0 → motive (mu0 s m x)) (h1 : x.PC = 1 → motive (mu1 s m x)) (h2 : x.PC = 2 → motive (mu2 s m x)) (h3 : x.PC = 3 → motive (mu3 s m x)) (h10 : x.PC = 10 → motive (zmB s m x)) (h20 : x.PC = 20 → motive (zlc s m x)) (h21 : x.PC = 21 → motive (zkU s m x)) (h22 : x.PC = 22 → motive (zk9 s m x)) (h23 : x.PC = 23 → motive (zm6 s m x)) (h30 : x.PC = 30 → motive (zhs s m x)) (h31 : x.PC = 31 → motive (zku s m x)) (h32 : x.PC = 32 → motive (zkK s m x)) (h33 : x.PC = 33 → motive (zml s m x)) (h34 : x.PC = 34 → motive (zkw s m x)) (h35 : x.PC = 35 → motive (zkq s m x)) (h36 : x.PC = 36 → motive (zkg s m x)) (h37 : x.PC = 37 → motive (zmx s m x)) (h38 : x.PC = 38 → motive (zmS s m x)) (h39 : x.PC = 39 → motive (zpC s m x)) (hn : motive (s, x)) : motive (zW s m x) := by
  unfold zW
  by_cases c0 : x.PC = 0
  · rw [if_pos c0]; exact h0 c0
  rw [if_neg c0]
  by_cases c1 : x.PC = 1
  · rw [if_pos c1]; exact h1 c1
  rw [if_neg c1]
  by_cases c2 : x.PC = 2
  · rw [if_pos c2]; exact h2 c2
  rw [if_neg c2]
  by_cases c3 : x.PC = 3
  · rw [if_pos c3]; exact h3 c3
  rw [if_neg c3]
  by_cases c10 : x.PC = 10
  · rw [if_pos c10]; exact h10 c10
  rw [if_neg c10]
  by_cases c20 : x.PC = 20
  · rw [if_pos c20]; exact h20 c20
  rw [if_neg c20]
  by_cases c21 : x.PC = 21
  · rw [if_pos c21]; exact h21 c21
  rw [if_neg c21]
  by_cases c22 : x.PC = 22
  · rw [if_pos c22]; exact h22 c22
  rw [if_neg c22]
  by_cases c23 : x.PC = 23
  · rw [if_pos c23]; exact h23 c23
  rw [if_neg c23]
  by_cases c30 : x.PC = 30
  · rw [if_pos c30]; exact h30 c30
  rw [if_neg c30]
  by_cases c31 : x.PC = 31
  · rw [if_pos c31]; exact h31 c31
  rw [if_neg c31]
  by_cases c32 : x.PC = 32
  · rw [if_pos c32]; exact h32 c32
  rw [if_neg c32]
  by_cases c33 : x.PC = 33
  · rw [if_pos c33]; exact h33 c33
  rw [if_neg c33]
  by_cases c34 : x.PC = 34
  · rw [if_pos c34]; exact h34 c34
  rw [if_neg c34]
  by_cases c35 : x.PC = 35
  · rw [if_pos c35]; exact h35 c35
  rw [if_neg c35]
  by_cases c36 : x.PC = 36
  · rw [if_pos c36]; exact h36 c36
  rw [if_neg c36]
  by_cases c37 : x.PC = 37
  · rw [if_pos c37]; exact h37 c37
  rw [if_neg c37]
  by_cases c38 : x.PC = 38
  · rw [if_pos c38]; exact h38 c38
  rw [if_neg c38]
  by_cases c39 : x.PC = 39
  · rw [if_pos c39]; exact h39 c39
  rw [if_neg c39]
  exact hn
theorem zwP {p : zd} {nb : Nat} {s : zc} {m : Int} {x : za} (h : z3 p) (hp : ((wa p m).length : Int) ≤ 64) (S : SOk p nb s) (X : XOk p nb m x) : SOk p nb (zW s m x).1 ∧ XOk p nb m (zW s m x).2 := by
  have hP := S.P
  have hip := X.ip
  have hbuf := X.buf
  have hb := h.buf
  have nop : ∀ y : Int, 31 ≤ y → ¬ (10 ≤ y ∧ y ≤ 30) := fun y h e => by omega
  refine ZP (motive := fun r => SOk p nb r.1 ∧ XOk p nb m r.2) s m x ?_ ?_ ?_ ?_ ?_ ?_ ?_ ?_ ?_ ?_ ?_ ?_ ?_ ?_ ?_ ?_ ?_ ?_ ?_ ?_
  · intro c
    unfold mu0
    refine ⟨S, ?_⟩
    unfold zdi
    rw [hP]
    split
    · exact ⟨.inl ⟨(by show (0 : Int) ≤ 1; decide), (by show (1 : Int) ≤ 3; decide)⟩, X.regs, X.ip, fun e => by dsimp only at e; omega, fun _ => .inl rfl, fun e => (by cases e), fun e => (by cases e), fun e => (by cases e), fun _ _ => X.bin (by omega) (by omega), fun e => by dsimp only at e; omega, X.buf⟩
    split
    · exact X
    rename_i hlt
    have hlt : x.IP < ((wa p m).length : Int) := by omega
    split
    · exact X.move (by omega) (.inr (.inr (.inl rfl))) rfl rfl X.buf X.ip (fun _ => hlt)
    split
    · exact X.move (by omega) (.inr (.inr (.inr (.inl ⟨by show (20 : Int) ≤ 20; decide, by show (20 : Int) ≤ 23; decide⟩)))) rfl rfl X.buf X.ip (fun _ => hlt)
    split
    · exact X.move (by omega) (.inr (.inr (.inr (.inr (.inl rfl))))) rfl rfl X.buf X.ip (fun _ => hlt)
    split
    · exact X.set hp (by omega) hlt _ _
    · exact X.set hp (by omega) hlt _ _
  · intro c
    unfold mu1
    refine ⟨S, ?_⟩
    split
    · rcases X.ret (.inl c) with e | e
      · exact X.move (by omega) (.inr (.inl e)) rfl rfl X.buf X.ip (fun e2 => by dsimp only at e2; omega)
      · exact X.move (by omega) (.inr (.inr (.inr (.inl (by dsimp only; omega))))) rfl rfl X.buf X.ip (fun e2 => X.op (.inr ⟨.inl c, e⟩))
    · exact ⟨.inl ⟨(by show (0 : Int) ≤ 3; decide), (by show (3 : Int) ≤ 3; decide)⟩, X.regs, X.ip, fun e => X.op (.inr ⟨.inl c, by dsimp only at e; omega⟩), fun _ => X.ret (.inl c), fun e => (by cases e), fun e => (by cases e), fun e => (by cases e), fun _ _ => X.bin (by omega) (by omega),
        fun _ => ⟨⟨fun e => absurd e (by show ¬ (2 : Int) = 1; decide), fun e => (by cases e), fun e => (by cases e), fun e => (by cases e), fun e => (by cases e)⟩, fun e => (by cases e), by show (2 : Int) ≠ 1; decide⟩, by dsimp only; rw [List.length_take]; omega⟩
  · intro c
    unfold mu2
    exact ⟨S.keep rfl rfl rfl, X.move (by omega) (.inl rfl) rfl rfl X.buf X.ip (fun e => absurd e (by show ¬ ((10 : Int) ≤ 0 ∧ (0 : Int) ≤ 30); decide))⟩
  · intro c
    unfold mu3
    obtain ⟨g1, g2, g3⟩ := X.g (.inl c)
    obtain ⟨r1, r2, r3⟩ := zoY h S g1 g2
    refine ⟨r1, ?_⟩
    dsimp only
    split
    · exact ⟨.inl ⟨(by show (0 : Int) ≤ 1; decide), (by show (1 : Int) ≤ 3; decide)⟩, X.regs, X.ip, fun e => X.op (.inr ⟨.inr c, by dsimp only at e; omega⟩), fun _ => X.ret (.inr c), fun e => (by cases e), fun e => (by cases e), fun e => (by cases e), fun _ _ => X.bin (by omega) (by omega), fun e => by dsimp only at e; omega, X.buf⟩
    · exact ⟨X.pc, X.regs, X.ip, X.op, X.ret, fun e => by dsimp only at e; omega, fun e => by dsimp only at e; omega, fun e => by dsimp only at e; omega, X.bin, fun _ => ⟨r2, r3, by rw [(zmY s x.G).2.2]; exact g3⟩, X.buf⟩
  · intro c
    unfold zmB
    exact ⟨S, X.set hp (by omega) (X.op (.inl (by omega))) _ _⟩
  · intro c
    unfold zlc
    refine ⟨S, ?_⟩
    split
    · exact X.next hp (by omega) (X.op (.inl (by omega)))
    · exact X.move (by omega) (.inr (.inr (.inr (.inl ⟨by show (20 : Int) ≤ 21; decide, by show (21 : Int) ≤ 23; decide⟩)))) rfl rfl X.buf X.ip (fun _ => X.op (.inl (by omega)))
  · intro c
    unfold zkU
    refine ⟨S, ?_⟩
    split
    · exact X.move (by omega) (.inr (.inr (.inr (.inl ⟨by show (20 : Int) ≤ 23; decide, by show (23 : Int) ≤ 23; decide⟩)))) rfl rfl X.buf X.ip (fun _ => X.op (.inl (by omega)))
    · exact X.move (by omega) (.inr (.inr (.inr (.inl ⟨by show (20 : Int) ≤ 22; decide, by show (22 : Int) ≤ 23; decide⟩)))) rfl rfl X.buf X.ip (fun _ => X.op (.inl (by omega)))
  · intro c
    unfold zk9
    have hi := X.op (.inl (by omega))
    refine ⟨S, ?_⟩
    rw [hP]
    split
    · exact ⟨.inl ⟨(by show (0 : Int) ≤ 1; decide), (by show (1 : Int) ≤ 3; decide)⟩, X.regs, X.ip, fun e => hi, fun _ => .inr rfl, fun e => (by cases e), fun e => (by cases e), fun e => (by cases e), fun _ _ => X.bin (by omega) (by omega), fun e => by dsimp only at e; omega, X.buf⟩
    · exact X.move (by omega) (.inr (.inr (.inr (.inl ⟨by show (20 : Int) ≤ 23; decide, by show (23 : Int) ≤ 23; decide⟩)))) rfl rfl (by simp; omega) X.ip (fun _ => hi)
  · intro c
    unfold zm6
    exact ⟨S.keep rfl rfl rfl, X.next hp (by omega) (X.op (.inl (by omega)))⟩
  · intro c
    unfold zhs
    have hi := X.op (.inl (by omega))
    split
    · split
      · exact ⟨S.keep rfl rfl rfl, X.set hp (by omega) hi _ _⟩
      · exact ⟨S, X.next hp (by omega) hi⟩
    · exact ⟨S, X.move (by omega) (.inr (.inr (.inr (.inr (.inr (.inl rfl)))))) rfl rfl X.buf X.ip (fun e => absurd e (by show ¬ ((10 : Int) ≤ 31 ∧ (31 : Int) ≤ 30); decide))⟩
  · intro c
    unfold zku
    refine ⟨S.keep rfl rfl rfl, ?_⟩
    rw [hP]
    split
    · exact ⟨.inr (.inr (.inr ⟨(by show (30 : Int) ≤ 32; decide), (by show (32 : Int) ≤ 39; decide)⟩)), X.regs, X.ip, fun e => by dsimp only at e; omega, fun e => by dsimp only at e; omega, fun _ => zs7, fun e => (by cases e), fun e => (by cases e), fun _ _ => X.bin (by omega) (by omega), fun e => by dsimp only at e; omega, X.buf⟩
    · exact X.move (by omega) (.inl rfl) rfl rfl X.buf X.ip (fun e => absurd e (by show ¬ ((10 : Int) ≤ 0 ∧ (0 : Int) ≤ 30); decide))
  · intro c
    unfold zkK
    have C := X.c32 c
    obtain ⟨b1, b2, b3, b4, b5, b6⟩ := zr4 h S (.inl rfl) C.k C.h C.n C.v C.y C.o
    refine ⟨b1, ?_⟩
    dsimp only
    split
    · rename_i e1
      exact ⟨.inr (.inr (.inr ⟨(by show (30 : Int) ≤ 33; decide), (by show (33 : Int) ≤ 39; decide)⟩)), X.regs, X.ip, fun e => by dsimp only at e; omega, fun e => by dsimp only at e; omega, fun e => (by cases e), fun _ => b6 e1, fun e => (by cases e), fun e => absurd rfl e, fun e => by dsimp only at e; omega, X.buf⟩
    split
    · exact X.move (by omega) (.inl rfl) rfl rfl X.buf X.ip (fun e => absurd e (by show ¬ ((10 : Int) ≤ 0 ∧ (0 : Int) ≤ 30); decide))
    · rename_i e1 e2
      exact ⟨X.pc, X.regs, X.ip, X.op, X.ret, fun _ => ⟨b2, b3, b4, (b5 e1 e2).1, (b5 e1 e2).2, e1⟩, fun e => by dsimp only at e; omega, fun e => by dsimp only at e; omega, X.bin, fun e => by dsimp only at e; omega, X.buf⟩
  · intro c
    unfold zml
    have B := X.b33 c
    refine ⟨S.keep rfl rfl (by simp), ?_⟩
    rw [hP]
    exact ⟨.inr (.inr (.inr ⟨(by show (30 : Int) ≤ 34; decide), (by show (34 : Int) ≤ 39; decide)⟩)), X.regs, X.ip, fun e => by dsimp only at e; omega, fun e => by dsimp only at e; omega, fun e => (by cases e), fun e => (by cases e), fun _ => zr7 B, fun _ e => absurd rfl e, fun e => by dsimp only at e; omega, X.buf⟩
  · intro c
    unfold zkw
    have C := X.c34 c
    obtain ⟨b1, b2, b3, b4, b5, b6⟩ := zpp h S (.inr rfl) C.k C.h C.n C.x C.v
    refine ⟨b1, ?_⟩
    dsimp only
    split
    · exact ⟨.inr (.inr (.inr ⟨(by show (30 : Int) ≤ 35; decide), (by show (35 : Int) ≤ 39; decide)⟩)), X.regs, X.ip, fun e => by dsimp only at e; omega, fun e => by dsimp only at e; omega, fun e => (by cases e), fun e => (by cases e), fun e => (by cases e), fun _ _ => rfl, fun e => by dsimp only at e; omega, X.buf⟩
    · exact ⟨X.pc, X.regs, X.ip, X.op, X.ret, fun e => by dsimp only at e; omega, fun e => by dsimp only at e; omega, fun _ => ⟨b2, b3, b4, b5, b6⟩, X.bin, fun e => by dsimp only at e; omega, X.buf⟩
  · intro c
    unfold zkq
    refine ⟨S, ?_⟩
    dsimp only
    split
    · exact X.move (by omega) (.inl rfl) rfl rfl X.buf X.ip (fun e => absurd e (by show ¬ ((10 : Int) ≤ 0 ∧ (0 : Int) ≤ 30); decide))
    · exact X.move (by omega) (by simp) rfl rfl X.buf X.ip (fun e => absurd e (nop 36 (by omega)))
  · intro c
    unfold zkg
    refine ⟨S, ?_⟩
    dsimp only
    split
    · rcases znu s (wc (x.Slot + 1)) with e | e <;> rw [e]
      · exact X.move (by omega) (by simp) rfl rfl X.buf X.ip (fun e => absurd e (nop 36 (by omega)))
      · exact X.move (by omega) (by simp) rfl rfl X.buf X.ip (fun e => absurd e (nop 38 (by omega)))
    · exact ⟨.inr (.inr (.inr ⟨(by show (30 : Int) ≤ 37; decide), (by show (37 : Int) ≤ 39; decide)⟩)), X.regs, X.ip, fun e => by dsimp only at e; omega, fun e => by dsimp only at e; omega, fun e => (by cases e), fun e => (by cases e), fun e => (by cases e), fun _ _ => X.bin (by omega) (by omega),
        fun _ => ⟨⟨fun e => absurd e (by show ¬ (3 : Int) = 1; decide), fun e => (by cases e), fun e => (by cases e), fun e => (by cases e), fun e => (by cases e)⟩, fun e => (by cases e), by show (3 : Int) ≠ 1; decide⟩, X.buf⟩
  · intro c
    unfold zmx
    obtain ⟨g1, g2, g3⟩ := X.g (.inr c)
    obtain ⟨r1, r2, r3⟩ := zoY h S g1 g2
    refine ⟨r1, ?_⟩
    dsimp only
    split
    · rcases znu s x.Slot with e | e <;> rw [e]
      · exact X.move (by omega) (by simp) rfl rfl X.buf X.ip (fun e => absurd e (nop 36 (by omega)))
      · exact X.move (by omega) (by simp) rfl rfl X.buf X.ip (fun e => absurd e (nop 38 (by omega)))
    · exact ⟨X.pc, X.regs, X.ip, X.op, X.ret, fun e => by dsimp only at e; omega, fun e => by dsimp only at e; omega, fun e => by dsimp only at e; omega, X.bin, fun _ => ⟨r2, r3, by rw [(zmY s x.G).2.2]; exact g3⟩, X.buf⟩
  · intro c
    unfold zmS
    exact ⟨S.keep rfl rfl rfl, X.move (by omega) (by simp) rfl rfl X.buf X.ip (fun e => absurd e (nop 39 (by omega)))⟩
  · intro c
    unfold zpC
    exact ⟨S.keep rfl rfl rfl, X.move (by omega) (by simp) rfl rfl X.buf X.ip (fun e => absurd e (nop 35 (by omega)))⟩
  · exact ⟨S, X⟩
end
end Go.Pe.G
namespace Go.Pe.G
open Go.Pe
noncomputable section
def zlo (s : zc) : zc :=
  if s.Done = true then s
  else if s.D.PC = 0 then { s with Flag := false, D := { s.D with PC := 1 } }
  else if s.D.PC = 1 then (if s.Work = 0 then { s with D := { s.D with PC := 2 } } else s)
  else if s.D.PC = 2 then { s with Epoch := wc (s.Epoch + 1), D := ⟨if s.Ms.length = 0 then 4 else 3, 0⟩ }
  else if s.D.PC = 3 then (if s.Acks.getD s.D.I.toNat 0 < s.Epoch then s else { s with D := ⟨if wc (s.D.I + 1) = (s.Ms.length : Int) then 4 else 3, wc (s.D.I + 1)⟩ })
  else if s.D.PC = 4 then (if s.Work = 0 then { s with D := { s.D with PC := 5 } } else { s with Restarts := wc (s.Restarts + 1), D := { s.D with PC := 0 } })
  else if s.D.PC = 5 then (if s.Flag = true then { s with Restarts := wc (s.Restarts + 1), D := { s.D with PC := 0 } } else { s with D := { s.D with PC := 6 } })
  else if s.D.PC = 6 then { s with Done := true }
  else s
structure HOk (p : zd) (h : zu) : Prop where
  slots : h.Slots = p.H.Slots
  n : (p.H.Objs.length : Int) ≤ (h.Objs.length : Int) ∧ (h.Objs.length : Int) ≤ p.Most
  objs : ∀ o ∈ h.Objs, (o.length : Int) = h.Slots ∧ ∀ v ∈ o, 0 ≤ v ∧ v ≤ (h.Objs.length : Int)
structure EOk (p : zd) (nb : Nat) (s : zc) : Prop where
  S : SOk p nb s
  wl : (s.Ws.length : Int) = p.Workers
  ml : (s.Ms.length : Int) = p.Mutators
  al : s.Acks.length = s.Ms.length
  W : ∀ (i : Nat) x, s.Ws[i]? = some x → WOk p nb ((i : Int) + 1) x
  X : ∀ (i : Nat) x, s.Ms[i]? = some x → XOk p nb ((i : Int) + 1) x
  H : HOk p s.H
  D : (0 ≤ s.D.PC ∧ s.D.PC ≤ 6) ∧ (s.D.PC = 3 → 0 ≤ s.D.I ∧ s.D.I < (s.Ms.length : Int))
  small : Zp s
theorem zt0 {p : zd} (h : z3 p) (m : Int) : ((wa p m).length : Int) ≤ 64 := by
  unfold wa
  have hr := h.regs
  have hp := h.progs
  rw [List.getD_eq_getElem?_getD]
  rcases Nat.lt_or_ge (m - 1).toNat p.Progs.length with hl | hl
  · rw [List.getElem?_eq_getElem hl]
    have hl2 : (m - 1).toNat < p.Regs.length := by omega
    have := (h.prog (m - 1).toNat _ _ (List.getElem?_eq_getElem hl2) (List.getElem?_eq_getElem hl)).1
    show ((p.Progs[(m - 1).toNat]).length : Int) ≤ 64
    omega
  · rw [List.getElem?_eq_none hl]; show (([] : List zh).length : Int) ≤ 64; simp
theorem zsg {p : zd} (h : z3 p) : EOk p (xJ p + 1) (vE p) := by
  have hw := h.wk
  have hm := h.mt
  have hr := h.regs
  have hn := h.n
  have hmo := h.most
  have hb := h.buf
  refine ⟨zs1 h, ?_, ?_, ?_, fun i x hx => ?_, fun i x hx => ?_, ⟨rfl, ⟨Int.le_refl _, hmo.1⟩, h.objs⟩, ⟨⟨by show (0 : Int) ≤ 0; decide, by show (0 : Int) ≤ 6; decide⟩, fun e => absurd e (by show ¬ (0 : Int) = 3; decide)⟩, zuI h⟩
  · show (((List.range p.Workers.toNat).map (Uc p)).length : Int) = _
    rw [List.length_map, List.length_range]; omega
  · show ((p.Regs.map vi).length : Int) = _
    rw [List.length_map]; exact hr
  · show (List.replicate p.Mutators.toNat (0 : Int)).length = (p.Regs.map vi).length
    rw [List.length_replicate, List.length_map]; omega
  · have hx : ((List.range p.Workers.toNat).map (Uc p))[i]? = some x := hx
    rw [List.getElem?_map] at hx
    rcases Nat.lt_or_ge i p.Workers.toNat with hl | hl
    · rw [List.getElem?_range hl] at hx
      injection hx with hx
      subst hx
      exact ⟨⟨by show (0 : Int) ≤ 0; decide, by show (0 : Int) ≤ 9; decide⟩, by show 1 ≤ (i : Int) + 1 ∧ (i : Int) + 1 ≤ p.Workers; omega, fun _ => ⟨rfl, rfl, rfl⟩, fun e => (by cases e), fun e => (by cases e), fun e => (by cases e), fun e => (by cases e), fun e => (by cases e)⟩
    · rw [List.getElem?_eq_none (by rw [List.length_range]; exact hl)] at hx; cases hx
  · have hx : (p.Regs.map vi)[i]? = some x := hx
    rw [List.getElem?_map] at hx
    cases hq : p.Regs[i]? with
    | none => rw [hq] at hx; cases hx
    | some r =>
      rw [hq] at hx
      injection hx with hx
      subst hx
      refine ⟨.inl ⟨by show (0 : Int) ≤ 0; decide, by show (0 : Int) ≤ 3; decide⟩, ?_, ⟨by show (0 : Int) ≤ 0; decide, by show (0 : Int) ≤ _; omega⟩, fun e => absurd e ?_, fun e => absurd e ?_, fun e => (by cases e), fun e => (by cases e), fun e => (by cases e), fun _ _ => rfl, fun e => absurd e ?_, by show (0 : Int) ≤ p.Buf; omega⟩
      · show r.length = zc2 p ((i : Int) + 1)
        unfold zc2
        rw [show ((i : Int) + 1 - 1).toNat = i by omega, List.getD_eq_getElem?_getD, hq]; rfl
      · intro e; simp [vi] at e
      · intro e; simp [vi] at e
      · intro e; simp [vi] at e
theorem zl6 {s : zc} (h : Zp s) (b : Int) : (zlw s b).length < 1000000 := by
  unfold zlw
  rw [List.getD_eq_getElem?_getD]
  cases hq : s.Bins[b.toNat]? with
  | none => simp
  | some l => exact h.bin l (List.mem_of_getElem? hq)
theorem zpM (l : zk) (w : Int) : (zlv l w).Bal.length = l.Bal.length := by unfold zlv; split <;> simp
structure Y6 (s s' : zc) : Prop where
  P : s'.P = s.P
  m : s'.M.length = s.M.length
  bl : s'.Bins.length = s.Bins.length
  b : ∀ l ∈ s'.Bins, l ∈ s.Bins ∨ l.length ≤ 1
  bal : s'.L.Bal.length = s.L.Bal.length
  ac : s'.Acks.length = s.Acks.length
  ws : s'.Ws = s.Ws
  ms : s'.Ms = s.Ms
  done : s'.Done = s.Done
  d : s'.D = s.D
theorem Y6.refl (s : zc) : Y6 s s := ⟨rfl, rfl, rfl, fun l h => .inl h, rfl, rfl, rfl, rfl, rfl, rfl⟩
theorem zdw (s : zc) (g : zA) : Y6 s (zG s g).1 ∧ (zG s g).1.H = s.H := by
  obtain ⟨m, b, t, w, f, e, h1, h2, h3, _, _⟩ := WV s g
  rw [e]
  exact ⟨⟨rfl, h1, h2, fun l hl => (h3 l hl).imp id (fun e => by rw [e]; simp), rfl, rfl, rfl, rfl, rfl, rfl⟩, rfl⟩
theorem zte {s : zc} (b : Nat) : ∀ l ∈ s.Bins.set b [], l ∈ s.Bins ∨ l.length ≤ 1 := fun l hl => (List.mem_or_eq_of_mem_set hl).imp id (fun e => by rw [e]; simp)
theorem zu5 (s : zc) (w : Int) (x : zi) : Y6 s (yJ s w x).1 ∧ (yJ s w x).1.H = s.H := by
  unfold yJ
  split
  · exact ⟨⟨rfl, (zma _ _).1, rfl, fun l h => .inl h, rfl, rfl, rfl, rfl, rfl, rfl⟩, rfl⟩
  split
  · exact ⟨⟨rfl, V9 _ _, rfl, fun l h => .inl h, rfl, rfl, rfl, rfl, rfl, rfl⟩, rfl⟩
  split
  · exact ⟨⟨rfl, rfl, by simp, zte _, rfl, rfl, rfl, rfl, rfl, rfl⟩, rfl⟩
  split
  · exact ⟨⟨rfl, V9 _ _, rfl, fun l h => .inl h, rfl, rfl, rfl, rfl, rfl, rfl⟩, rfl⟩
  split
  · exact ⟨Y6.refl s, rfl⟩
  split
  · exact zdw s x.G
  split
  · exact ⟨Y6.refl s, rfl⟩
  split
  · exact ⟨⟨rfl, rfl, rfl, fun l h => .inl h, zpM _ _, rfl, rfl, rfl, rfl, rfl⟩, rfl⟩
  split
  · exact ⟨⟨rfl, rfl, rfl, fun l h => .inl h, rfl, rfl, rfl, rfl, rfl, rfl⟩, rfl⟩
  · exact ⟨Y6.refl s, rfl⟩
theorem zsE (p : zd) (w : Int) (x : zi) : (znS p w x).Batch = x.Batch := by unfold znS; split <;> rfl
theorem ztA {s : zc} (h : Zp s) (w : Int) {x : zi} (hx : x.Batch.length < 1000000) : (yJ s w x).2.Batch.length < 1000000 := by
  unfold yJ
  split
  · dsimp only
    split
    · exact hx
    split
    · rw [zsE]; exact hx
    · exact hx
  split
  · dsimp only
    split
    · exact hx
    split <;> exact hx
  split
  · exact zl6 h _
  split
  · dsimp only
    split <;> exact hx
  split
  · dsimp only
    split <;> exact hx
  split
  · dsimp only
    split <;> exact hx
  split
  · dsimp only
    cases hb : x.Batch with
    | nil => show x.Batch.length < _; exact hx
    | cons o l => rw [hb] at hx; show l.length < _; simp at hx; omega
  split
  · exact hx
  split
  · exact hx
  · exact hx
theorem ztV (l : zk) (w p : Int) : (zkf l w p).Bal.length = l.Bal.length := by unfold zkf; simp
theorem zuM (l : zk) (w n : Int) : (zgR l w n).1.Bal.length = l.Bal.length := by unfold zgR; split <;> simp
theorem zr9 (s : zc) (m : Int) (x : za) : Y6 s (zW s m x).1 := by
  have q : ∀ s' : zc, s'.P = s.P → s'.M = s.M → s'.Bins = s.Bins → s'.L.Bal.length = s.L.Bal.length → s'.Acks.length = s.Acks.length → s'.Ws = s.Ws → s'.Ms = s.Ms → s'.Done = s.Done → s'.D = s.D → Y6 s s' :=
    fun s' a b c d e f g h i => ⟨a, by rw [b], by rw [c], fun l hl => .inl (c ▸ hl), d, e, f, g, h, i⟩
  refine ZP (motive := fun r => Y6 s r.1) s m x ?_ ?_ ?_ ?_ ?_ ?_ ?_ ?_ ?_ ?_ ?_ ?_ ?_ ?_ ?_ ?_ ?_ ?_ ?_ ?_
  · intro c
    unfold mu0
    exact Y6.refl s
  · intro c
    unfold mu1
    exact Y6.refl s
  · intro c
    unfold mu2
    exact q _ rfl rfl rfl rfl (by simp) rfl rfl rfl rfl
  · intro c
    unfold mu3
    exact (zdw s x.G).1
  · intro c
    unfold zmB
    exact Y6.refl s
  · intro c
    unfold zlc
    exact Y6.refl s
  · intro c
    unfold zkU
    exact Y6.refl s
  · intro c
    unfold zk9
    exact Y6.refl s
  · intro c
    unfold zm6
    exact q _ rfl rfl rfl rfl rfl rfl rfl rfl rfl
  · intro c
    unfold zhs
    split
    · split
      · exact q _ rfl rfl rfl (ztV _ _ _) rfl rfl rfl rfl rfl
      · exact Y6.refl s
    · exact Y6.refl s
  · intro c
    unfold zku
    exact q _ rfl rfl rfl (zuM _ _ _) rfl rfl rfl rfl rfl
  · intro c
    unfold zkK
    exact ⟨rfl, V9 _ _, rfl, fun l h => .inl h, rfl, rfl, rfl, rfl, rfl, rfl⟩
  · intro c
    unfold zml
    exact ⟨rfl, rfl, by simp, zte _, rfl, rfl, rfl, rfl, rfl, rfl⟩
  · intro c
    unfold zkw
    exact ⟨rfl, V9 _ _, rfl, fun l h => .inl h, rfl, rfl, rfl, rfl, rfl, rfl⟩
  · intro c
    unfold zkq
    exact Y6.refl s
  · intro c
    unfold zkg
    exact Y6.refl s
  · intro c
    unfold zmx
    exact (zdw s x.G).1
  · intro c
    unfold zmS
    exact q _ rfl rfl rfl (zpM _ _) rfl rfl rfl rfl rfl
  · intro c
    unfold zpC
    exact q _ rfl rfl rfl rfl rfl rfl rfl rfl rfl
  · exact Y6.refl s
theorem HOk.sm {p : zd} (hp : z3 p) {h : zu} (H : HOk p h) : h.Objs.length < 1000000 ∧ ∀ x ∈ h.Objs, x.length < 1000000 := by
  have h1 := H.n
  have h2 := hp.most
  have h3 := hp.n
  have h4 := hp.slots
  have h5 := H.slots
  exact ⟨by omega, fun x hx => by have := (H.objs x hx).1; omega⟩
theorem Zp.turn {p : zd} (hp : z3 p) {s s' : zc} (h : Zp s) (T : Y6 s s') (H : HOk p s'.H) : Zp s' := by
  have hh := H.sm hp
  refine ⟨by rw [T.m]; exact h.m, by rw [T.bl]; exact h.bins, fun x hx => ?_, by rw [T.ac]; exact h.acks, by rw [T.bal]; exact h.bal, by rw [T.ws]; exact h.ws, by rw [T.ws]; exact h.w, by rw [T.ms]; exact h.ms, by rw [T.ms]; exact h.mu, hh.1, hh.2, by rw [T.P]; exact h.pobjs, by rw [T.P]; exact h.pobj, by rw [T.P]; exact h.regs, by rw [T.P]; exact h.reg, by rw [T.P]; exact h.progs, by rw [T.P]; exact h.prog, by rw [T.P]; exact h.picks⟩
  rcases T.b x hx with h' | h'
  · exact h.bin x h'
  · omega
theorem Zp.setW {s : zc} (h : Zp s) {i : Nat} {x : zi} (hx : x.Batch.length < 1000000) : Zp { s with Ws := s.Ws.set i x } :=
  ⟨h.m, h.bins, h.bin, h.acks, h.bal, by simp only [List.length_set]; exact h.ws, fun y hy => by
    rcases List.mem_or_eq_of_mem_set hy with hy | rfl
    · exact h.w y hy
    · exact hx, h.ms, h.mu, h.objs, h.obj, h.pobjs, h.pobj, h.regs, h.reg, h.progs, h.prog, h.picks⟩
theorem Zp.setM {s : zc} (h : Zp s) {i : Nat} {x : za} (hx : x.Regs.length < 1000000 ∧ x.Buf.length < 1000000 ∧ x.Batch.length < 1000000) : Zp { s with Ms := s.Ms.set i x } :=
  ⟨h.m, h.bins, h.bin, h.acks, h.bal, h.ws, h.w, by simp only [List.length_set]; exact h.ms, fun y hy => by
    rcases List.mem_or_eq_of_mem_set hy with hy | rfl
    · exact h.mu y hy
    · exact hx, h.objs, h.obj, h.pobjs, h.pobj, h.regs, h.reg, h.progs, h.prog, h.picks⟩
theorem zti {α : Type} {l : List α} {i j : Nat} {x y : α} (h : (l.set i x)[j]? = some y) : (j = i ∧ y = x) ∨ l[j]? = some y := by
  rw [List.getElem?_set] at h
  split at h
  · rename_i e
    split at h
    · injection h with h; exact .inl ⟨e.symm, h.symm⟩
    · cases h
  · exact .inr h
theorem zvT {p : zd} {nb : Nat} {s : zc} (h : z3 p) (E : EOk p nb s) (w : Int) : EOk p nb (uM s w) := by
  unfold uM
  split
  · exact E
  rename_i hc
  cases hx : s.Ws[(w - 1).toNat]? with
  | none => exact E
  | some x =>
    have hw1 : ¬ w < 1 := fun e => hc (.inr (.inl e))
    have hw2 : ¬ (s.Ws.length : Int) < w := fun e => hc (.inr (.inr e))
    have hwl := E.wl
    have ei : (((w - 1).toNat : Nat) : Int) + 1 = w := by omega
    have hW := E.W _ x hx
    rw [ei] at hW
    obtain ⟨r1, r2⟩ := zwC h (by omega) E.S hW
    obtain ⟨T, TH⟩ := zu5 s w x
    have sm : Zp (yJ s w x).1 := E.small.turn h T (by rw [TH]; exact E.H)
    have hws : (yJ s w x).1.Ws = s.Ws := T.ws
    refine ⟨r1.keep rfl rfl rfl, ?_, ?_, ?_, fun i y hy => ?_, fun i y hy => ?_, ?_, ?_, ?_⟩
    · show ((s.Ws.set _ _).length : Int) = _
      rw [List.length_set]; exact hwl
    · show ((yJ s w x).1.Ms.length : Int) = _
      rw [T.ms]; exact E.ml
    · show (yJ s w x).1.Acks.length = (yJ s w x).1.Ms.length
      rw [T.ms, T.ac]; exact E.al
    · rcases zti hy with ⟨rfl, rfl⟩ | hy
      · rw [ei]; exact r2
      · exact E.W i y hy
    · have hy : (yJ s w x).1.Ms[i]? = some y := hy
      rw [T.ms] at hy
      exact E.X i y hy
    · show HOk p (yJ s w x).1.H
      rw [TH]; exact E.H
    · show (0 ≤ (yJ s w x).1.D.PC ∧ (yJ s w x).1.D.PC ≤ 6) ∧ ((yJ s w x).1.D.PC = 3 → 0 ≤ (yJ s w x).1.D.I ∧ (yJ s w x).1.D.I < ((yJ s w x).1.Ms.length : Int))
      rw [T.d, T.ms]; exact E.D
    · have := sm.setW (i := (w - 1).toNat) (ztA E.small w (E.small.w x (List.mem_of_getElem? hx)))
      rw [hws] at this
      exact this
theorem zxt {p : zd} {nb : Nat} {s : zc} (h : z3 p) (E : EOk p nb s) : EOk p nb (zlo s) := by
  have key : ∀ s' : zc, s'.P = s.P → s'.M = s.M → s'.Bins = s.Bins → s'.Ws = s.Ws → s'.Ms = s.Ms → s'.Acks = s.Acks → s'.H = s.H → s'.L = s.L → ((0 ≤ s'.D.PC ∧ s'.D.PC ≤ 6) ∧ (s'.D.PC = 3 → 0 ≤ s'.D.I ∧ s'.D.I < (s'.Ms.length : Int))) → EOk p nb s' := by
    intro s' e1 e2 e3 e4 e5 e6 e7 e8 e9
    have q := E.small
    refine ⟨E.S.keep e1 e2 (by rw [e3]), by rw [e4]; exact E.wl, by rw [e5]; exact E.ml, by rw [e5, e6]; exact E.al, by rw [e4]; exact E.W, by rw [e5]; exact E.X, by rw [e7]; exact E.H, e9, ?_⟩
    exact ⟨by rw [e2]; exact q.m, by rw [e3]; exact q.bins, by rw [e3]; exact q.bin, by rw [e6]; exact q.acks, by rw [e8]; exact q.bal, by rw [e4]; exact q.ws, by rw [e4]; exact q.w, by rw [e5]; exact q.ms, by rw [e5]; exact q.mu, by rw [e7]; exact q.objs, by rw [e7]; exact q.obj, by rw [e1]; exact q.pobjs, by rw [e1]; exact q.pobj, by rw [e1]; exact q.regs, by rw [e1]; exact q.reg, by rw [e1]; exact q.progs, by rw [e1]; exact q.prog, by rw [e1]; exact q.picks⟩
  have hm : ∀ n : Int, 0 ≤ n ∧ n ≤ 6 → n ≠ 3 → ∀ i, (0 ≤ (⟨n, i⟩ : zp).PC ∧ (⟨n, i⟩ : zp).PC ≤ 6) ∧ ((⟨n, i⟩ : zp).PC = 3 → 0 ≤ (⟨n, i⟩ : zp).I ∧ (⟨n, i⟩ : zp).I < (s.Ms.length : Int)) := fun n h1 h2 i => ⟨h1, fun e => absurd e h2⟩
  have hml := E.ml
  have hmt := h.mt
  unfold zlo
  split
  · exact E
  split
  · exact key _ rfl rfl rfl rfl rfl rfl rfl rfl (hm 1 (by decide) (by decide) _)
  split
  · split
    · exact key _ rfl rfl rfl rfl rfl rfl rfl rfl (hm 2 (by decide) (by decide) _)
    · exact E
  split
  · refine key _ rfl rfl rfl rfl rfl rfl rfl rfl ?_
    dsimp only
    split
    · exact hm 4 (by decide) (by decide) _
    · exact ⟨by decide, fun _ => by omega⟩
  split
  · rename_i c3
    have hi := E.D.2 c3
    split
    · exact E
    · refine key _ rfl rfl rfl rfl rfl rfl rfl rfl ?_
      dsimp only
      have e : wc (s.D.I + 1) = s.D.I + 1 := Y2 (by omega) (by omega)
      rw [e]
      split
      · exact hm 4 (by decide) (by decide) _
      · exact ⟨by decide, fun _ => by omega⟩
  split
  · split
    · exact key _ rfl rfl rfl rfl rfl rfl rfl rfl (hm 5 (by decide) (by decide) _)
    · exact key _ rfl rfl rfl rfl rfl rfl rfl rfl (hm 0 (by decide) (by decide) _)
  split
  · split
    · exact key _ rfl rfl rfl rfl rfl rfl rfl rfl (hm 0 (by decide) (by decide) _)
    · exact key _ rfl rfl rfl rfl rfl rfl rfl rfl (hm 6 (by decide) (by decide) _)
  split
  · exact key _ rfl rfl rfl rfl rfl rfl rfl rfl E.D
  · exact E
theorem HOk.put {p : zd} {h : zu} (H : HOk p h) (o s v : Int) : HOk p (zix h o s v) := by
  unfold zix
  split
  · rename_i c
    obtain ⟨c1, c2, c3⟩ := c
    unfold Vj at c1
    simp only [Bool.and_eq_true, decide_eq_true_eq] at c1
    refine ⟨H.slots, by simp only [List.length_set]; exact H.n, fun l hl => ?_⟩
    simp only [List.length_set]
    rcases List.mem_or_eq_of_mem_set hl with hl | rfl
    · exact H.objs l hl
    · have hm : xy h o ∈ h.Objs := by
        unfold xy
        rw [List.getD_eq_getElem?_getD, List.getElem?_eq_getElem (show (o - 1).toNat < h.Objs.length by omega)]
        exact List.getElem_mem _
      obtain ⟨a, b⟩ := H.objs _ hm
      refine ⟨by rw [List.length_set]; exact a, fun y hy => ?_⟩
      rcases List.mem_or_eq_of_mem_set hy with hy | rfl
      · exact b y hy
      · exact ⟨c2, c3⟩
  · exact H
theorem HOk.alloc {p : zd} (hp : z3 p) {h : zu} (H : HOk p h) (hr : ze6 h p.Most = true) : HOk p (zii h) := by
  unfold ze6 at hr
  simp only [Bool.and_eq_true, decide_eq_true_eq] at hr
  have hs := hp.slots
  have hsl := H.slots
  have hn := H.n
  unfold zii
  refine ⟨H.slots, by simp only [List.length_append, List.length_singleton]; omega, fun l hl => ?_⟩
  simp only [List.length_append, List.length_singleton]
  rcases List.mem_append.1 hl with hl | hl
  · obtain ⟨a, b⟩ := H.objs l hl
    exact ⟨a, fun v hv => by have := b v hv; omega⟩
  · rw [List.mem_singleton.1 hl]
    refine ⟨by rw [List.length_replicate]; omega, fun v hv => ?_⟩
    rw [(List.mem_replicate.1 hv).2]; omega
theorem zxx {p : zd} (hp : z3 p) {s : zc} (hP : s.P = p) (H : HOk p s.H) (m : Int) (x : za) : HOk p (zW s m x).1.H := by
  refine ZP (motive := fun r => HOk p r.1.H) s m x ?_ ?_ ?_ ?_ ?_ ?_ ?_ ?_ ?_ ?_ ?_ ?_ ?_ ?_ ?_ ?_ ?_ ?_ ?_ ?_
  · intro c
    unfold mu0
    exact H
  · intro c
    unfold mu1
    exact H
  · intro c
    unfold mu2
    exact H
  · intro c
    unfold mu3
    rw [(zdw s x.G).2]; exact H
  · intro c
    unfold zmB
    exact H
  · intro c
    unfold zlc
    exact H
  · intro c
    unfold zkU
    exact H
  · intro c
    unfold zk9
    exact H
  · intro c
    unfold zm6
    exact H.put _ _ _
  · intro c
    unfold zhs
    split
    · split
      · rename_i hr
        rw [hP] at hr
        exact H.alloc hp hr
      · exact H
    · exact H
  · intro c
    unfold zku
    exact H
  · intro c
    unfold zkK
    exact H
  · intro c
    unfold zml
    exact H
  · intro c
    unfold zkw
    exact H
  · intro c
    unfold zkq
    exact H
  · intro c
    unfold zkg
    exact H
  · intro c
    unfold zmx
    rw [(zdw s x.G).2]; exact H
  · intro c
    unfold zmS
    exact H
  · intro c
    unfold zpC
    exact H
  · exact H
theorem zrU (s : zc) (m : Int) (x : za) : (zdi s m x).Batch = x.Batch := by
  unfold zdi
  repeat' split
  all_goals rfl
theorem zuK {s : zc} (h : Zp s) (m : Int) {x : za} (hx : x.Batch.length < 1000000) : (zW s m x).2.Batch.length < 1000000 := by
  refine ZP (motive := fun r => r.2.Batch.length < 1000000) s m x ?_ ?_ ?_ ?_ ?_ ?_ ?_ ?_ ?_ ?_ ?_ ?_ ?_ ?_ ?_ ?_ ?_ ?_ ?_ ?_
  · intro c
    unfold mu0
    dsimp only; rw [zrU]; exact hx
  · intro c
    unfold mu1
    dsimp only; split <;> exact hx
  · intro c
    unfold mu2
    exact hx
  · intro c
    unfold mu3
    dsimp only; split <;> exact hx
  · intro c
    unfold zmB
    exact hx
  · intro c
    unfold zlc
    dsimp only; split <;> exact hx
  · intro c
    unfold zkU
    dsimp only; split <;> exact hx
  · intro c
    unfold zk9
    dsimp only; split <;> exact hx
  · intro c
    unfold zm6
    exact hx
  · intro c
    unfold zhs
    split
    · split <;> exact hx
    · exact hx
  · intro c
    unfold zku
    dsimp only; split <;> exact hx
  · intro c
    unfold zkK
    dsimp only
    split
    · exact hx
    split <;> exact hx
  · intro c
    unfold zml
    exact zl6 h _
  · intro c
    unfold zkw
    dsimp only; split <;> exact hx
  · intro c
    unfold zkq
    dsimp only
    cases hb : x.Batch with
    | nil => show ([] : List Int).length < 1000000; simp
    | cons o l => rw [hb] at hx; show l.length < _; simp at hx; omega
  · intro c
    unfold zkg
    dsimp only; split <;> exact hx
  · intro c
    unfold zmx
    dsimp only; split <;> exact hx
  · intro c
    unfold zmS
    exact hx
  · intro c
    unfold zpC
    exact hx
  · exact hx
theorem zhN {p : zd} (h : z3 p) (m : Int) : zc2 p m < 1000000 := by
  unfold zc2
  rw [List.getD_eq_getElem?_getD]
  cases hq : p.Regs[(m - 1).toNat]? with
  | none => simp
  | some r => have := (h.reg r (List.mem_of_getElem? hq)).1; show r.length < _; omega
theorem zhc {p : zd} {nb : Nat} {s : zc} (h : z3 p) (E : EOk p nb s) (m : Int) : EOk p nb (zH s m) := by
  unfold zH
  split
  · exact E
  rename_i hc
  cases hx : s.Ms[(m - 1).toNat]? with
  | none => exact E
  | some x =>
    have hw1 : ¬ m < 1 := fun e => hc (.inr (.inl e))
    have hw2 : ¬ (s.Ms.length : Int) < m := fun e => hc (.inr (.inr e))
    have ei : (((m - 1).toNat : Nat) : Int) + 1 = m := by omega
    have hX := E.X _ x hx
    rw [ei] at hX
    obtain ⟨r1, r2⟩ := zwP h (zt0 h m) E.S hX
    have T := zr9 s m x
    have TH := zxx h E.S.P E.H m x
    have sm : Zp (zW s m x).1 := E.small.turn h T TH
    have hms : (zW s m x).1.Ms = s.Ms := T.ms
    have hb := h.buf
    refine ⟨r1.keep rfl rfl rfl, ?_, ?_, ?_, fun i y hy => ?_, fun i y hy => ?_, TH, ?_, ?_⟩
    · show ((zW s m x).1.Ws.length : Int) = _
      rw [T.ws]; exact E.wl
    · show ((s.Ms.set _ _).length : Int) = _
      rw [List.length_set]; exact E.ml
    · show (zW s m x).1.Acks.length = (s.Ms.set _ _).length
      rw [List.length_set, T.ac]; exact E.al
    · have hy : (zW s m x).1.Ws[i]? = some y := hy
      rw [T.ws] at hy
      exact E.W i y hy
    · rcases zti hy with ⟨rfl, rfl⟩ | hy
      · rw [ei]; exact r2
      · exact E.X i y hy
    · show (0 ≤ (zW s m x).1.D.PC ∧ (zW s m x).1.D.PC ≤ 6) ∧ ((zW s m x).1.D.PC = 3 → 0 ≤ (zW s m x).1.D.I ∧ (zW s m x).1.D.I < ((s.Ms.set _ _).length : Int))
      rw [T.d, List.length_set]; exact E.D
    · have q := E.small.mu x (List.mem_of_getElem? hx)
      have q1 := r2.regs
      have q2 := r2.buf
      have q3 := zhN h m
      have := sm.setM (i := (m - 1).toNat) (x := (zW s m x).2) ⟨by omega, by omega, zuK E.small m q.2.2⟩
      rw [hms] at this
      exact this
end
end Go.Pe.G
namespace Go.Pe.G
open Go.Pe
noncomputable section
theorem ztb (t : zq) (o : Int) : zgT t o = some (zfI t o, ()) := by
  rw [zra, zpi, Option.bind_some]
  show (bif zpt (t.Marks &&& t.Black) o then _ else _) = _
  unfold zfI
  cases h : zpt (t.Marks &&& t.Black) o with
  | true => rfl
  | false =>
    rw [cond_false, zpi, Option.bind_some]
    show (bif zpt t.Marks o then _ else _) = _
    cases h2 : zpt t.Marks o <;> rfl
theorem zp6 (t : zq) (o : Int) : zcR t o = some (znr t o, decide (zfI t o = 1), ()) := by
  rw [zpq, ztb, Option.bind_some, yg]
  unfold znr
  by_cases h : zfI t o = 1
  · rw [if_pos h, if_pos h, zlu, Option.bind_some, decide_eq_true h]
  · rw [if_neg h, if_neg h, decide_eq_false h]
theorem zop {h : zu} (hl : h.Objs.length < 1000000) (o s : Int) : X9 h o s = some (Vj h o s, ()) := by
  rw [zjl]
  simp only [zn]
  unfold Vj
  by_cases h1 : 1 ≤ o
  · rw [if_pos h1]
    by_cases h2 : o ≤ (h.Objs.length : Int)
    · rw [if_pos h2]
      by_cases h3 : 0 ≤ s
      · have e := List.getElem?_eq_getElem (show (o - 1).toNat < h.Objs.length by omega)
        rw [if_pos h3, yp (a := o - 1) (by omega) (by omega), vK (by omega), e, Option.bind_some, decide_eq_true h1, decide_eq_true h2, decide_eq_true h3]
        unfold xy
        rw [List.getD_eq_getElem?_getD, e]; rfl
      · rw [if_neg h3, decide_eq_false h3, Bool.and_false]; rfl
    · rw [if_neg h2, decide_eq_false h2, Bool.and_false]; rfl
  · rw [if_neg h1, decide_eq_false h1]; rfl
theorem zrW {h : zu} (hl : h.Objs.length < 1000000) (o s : Int) : zeW h o s = some (zam h o s, Vj h o s, ()) := by
  rw [zqx, zop hl, Option.bind_some]
  unfold zam
  cases hs : Vj h o s with
  | false => rfl
  | true =>
    have hs' := hs
    unfold Vj at hs'
    simp only [Bool.and_eq_true, decide_eq_true_eq] at hs'
    obtain ⟨⟨⟨h1, h2⟩, h3⟩, h4⟩ := hs'
    have e := List.getElem?_eq_getElem (show (o - 1).toNat < h.Objs.length by omega)
    have es : xy h o = h.Objs[(o - 1).toNat]'(by omega) := by unfold xy; rw [List.getD_eq_getElem?_getD, e]; rfl
    rw [es] at h4
    have e2 := List.getElem?_eq_getElem (show s.toNat < (h.Objs[(o - 1).toNat]'(by omega)).length by omega)
    simp only [Bool.not_true, cond_false, if_true]
    rw [yp (a := o - 1) (by omega) (by omega), vK (by omega), e, Option.bind_some, vK h3, e2, Option.bind_some, es, List.getD_eq_getElem?_getD, e2]; rfl
theorem zfO (l : zk) (who : Int) : ut l who = some (decide (1 ≤ who) && decide (who ≤ (l.Bal.length : Int)), ()) := by
  rw [zfp, zn]
  by_cases h1 : 1 ≤ who
  · rw [if_pos h1, decide_eq_true h1]; rfl
  · rw [if_neg h1, decide_eq_false h1]; rfl
theorem zsy {l : zk} (hl : l.Bal.length < 1000000) (who : Int) : zdK l who = some (zlv l who, ()) := by
  rw [zmP, xx, zfO, Option.bind_some]
  unfold zlv
  by_cases h : 1 ≤ who ∧ who ≤ (l.Bal.length : Int)
  · rw [if_pos h, decide_eq_true h.1, decide_eq_true (show who ≤ ((({ l with Scanned := wc (l.Scanned + 1) } : zk).Bal.length : Nat) : Int) from h.2)]
    have hn : ¬ l.Bal.isEmpty = true := by
      intro e
      have : l.Bal = [] := by simpa using e
      rw [this] at h
      simp at h
      omega
    have hn : l.Bal.isEmpty = false := by simpa using hn
    have e := List.getElem?_eq_getElem (show (who - 1).toNat < l.Bal.length by omega)
    rw [Bool.true_and, Bool.not_true, cond_false, WG]
    simp only [decide_true, cond_true, zab (n := (l.Bal.length : Int)) (by omega) (by omega), Option.bind_some, List.length_replicate, Int.toNat_natCast, hn, cond_false, xx]
    rw [Y2 (a := who - 1) (by omega) (by omega), vY (l := l.Bal) (by omega) (by omega), Option.bind_some, e, Option.bind_some, zle, Option.bind_some, Option.bind_some, Option.bind_some, xx, List.getD_eq_getElem?_getD, e]
    rfl
  · rw [if_neg h]
    have e : (decide (1 ≤ who) && decide (who ≤ ((({ l with Scanned := wc (l.Scanned + 1) } : zk).Bal.length : Nat) : Int))) = false := by
      by_cases h1 : 1 ≤ who
      · rw [decide_eq_true h1, decide_eq_false (fun e => h ⟨h1, e⟩)]; rfl
      · rw [decide_eq_false h1]; rfl
    rw [e]; rfl
theorem zvG {α : Type} (o : α) (l : List α) : cut (o :: l) 1 (((o :: l).length : Nat) : Int) = some l := by
  unfold cut
  rw [decide_eq_true (show (0 : Int) ≤ 1 by decide), decide_eq_true (show (1 : Int) ≤ (((o :: l).length : Nat) : Int) by simp; omega), decide_eq_true (Int.le_refl _)]
  simp
end
end Go.Pe.G
namespace Go.Pe.G
open Go.Pe
noncomputable section
theorem zmM {p : zd} (h : z3 p) {m : Int} (hm : 1 ≤ m ∧ m ≤ p.Mutators) : p.Progs[(m - 1).toNat]? = some (wa p m) := by
  have := h.progs
  have e := List.getElem?_eq_getElem (show (m - 1).toNat < p.Progs.length by omega)
  unfold wa
  rw [List.getD_eq_getElem?_getD, e]; rfl
theorem zia {p : zd} (h : z3 p) {m : Int} (hm : 1 ≤ m ∧ m ≤ p.Mutators) {o : zh} (ho : o ∈ wa p m) : (0 ≤ o.R ∧ o.R < (zc2 p m : Int)) ∧ (0 ≤ o.A ∧ o.A < (zc2 p m : Int)) := by
  have hr := h.regs
  have er := List.getElem?_eq_getElem (show (m - 1).toNat < p.Regs.length by omega)
  have e1 : zc2 p m = (p.Regs[(m - 1).toNat]'(by omega)).length := by unfold zc2; rw [List.getD_eq_getElem?_getD, er]; rfl
  have hl := (h.reg _ (List.getElem_mem (show (m - 1).toNat < p.Regs.length by omega))).1
  obtain ⟨a, b⟩ := (h.prog _ _ _ er (zmM h hm)).2 o ho
  rw [e1]
  refine ⟨a, ?_⟩
  rcases b with ⟨_, b, _⟩ | ⟨_, b, _⟩ | ⟨_, b, _⟩
  · exact b
  · exact b
  · omega
theorem zeS {p : zd} (h : z3 p) {s : zc} (hP : s.P = p) {m : Int} (hm : 1 ≤ m ∧ m ≤ p.Mutators) {x : za} (hi : 0 ≤ x.IP ∧ x.IP < ((wa p m).length : Int)) :
    wF ⟨x, s, m⟩ = some (opM p m x, ()) ∧ opM p m x ∈ wa p m := by
  have hmt := h.mt
  have e := List.getElem?_eq_getElem (show x.IP.toNat < (wa p m).length by omega)
  have eo : opM p m x = (wa p m)[x.IP.toNat]'(by omega) := by unfold opM; rw [List.getD_eq_getElem?_getD, e]; rfl
  rw [zj0]
  dsimp only
  rw [hP, yp (a := m - 1) (by omega) (by omega), vK (by omega), zmM h hm, Option.bind_some, vK hi.1, e, Option.bind_some, eo]
  exact ⟨rfl, List.getElem_mem _⟩
theorem ziE {x : za} {r : Int} (h : 0 ≤ r ∧ r < (x.Regs.length : Int)) : idx x.Regs r = some (zh0 x r) := by
  have e := List.getElem?_eq_getElem (show r.toNat < x.Regs.length by omega)
  rw [vK h.1, e]
  unfold zh0
  rw [List.getD_eq_getElem?_getD, e]; rfl
theorem zcQ {s : zc} {m : Int} {x : za} {r : Int} (h : 0 ≤ r ∧ r < (x.Regs.length : Int)) (hl : x.Regs.length < 1000000) (v : Int) : vD r v ⟨x, s, m⟩ = some (⟨setM x r v, s, m⟩, ()) := by
  rw [zgt]
  simp only [ub (show x.Regs.length < 4294967296 by omega), Option.bind_some, vY h.1 h.2, uT, xx]
  rfl
theorem zkA {p : zd} (h : z3 p) {s : zc} (hP : s.P = p) {m : Int} (hm : 1 ≤ m ∧ m ≤ p.Mutators) {x : za} (hi : 0 ≤ x.IP ∧ x.IP < ((wa p m).length : Int)) (hr : x.Regs.length = zc2 p m) (ho : s.H.Objs.length < 1000000) :
    Xo ⟨x, s, m⟩ = some (zqP s m x, ()) := by
  obtain ⟨e1, e2⟩ := zeS h hP hm hi
  have o := zia h hm e2
  rw [ziK]
  simp only [e1, Option.bind_some, ziE (x := x) (r := (opM p m x).A) (by omega), zrW ho]
  unfold zqP
  rw [hP]
theorem zil {p : zd} {nb : Nat} (h : z3 p) {s : zc} (S : SOk p nb s) {m : Int} {x : za} (M : MOk p nb x.G) (to : Int) :
    Zb to ⟨x, s, m⟩ = some (⟨if (zG s x.G).2.Out = 1 then { x with PC := to, G := (zG s x.G).2 } else { x with G := (zG s x.G).2 }, (zG s x.G).1, m⟩, ()) := by
  rw [zdI]
  simp only [zul (S.gok h M), Option.bind_some, zn]
  split <;> rfl
theorem zn5 (s : zc) (x : za) (m : Int) : WQ ⟨x, s, m⟩ = some (onM s x.Slot, ()) := by
  rw [zjU, zn]
  unfold onM
  split <;> rfl
theorem zkp (k hd to : Int) (s : zc) (x : za) (m : Int) : ZJ k hd to ⟨x, s, m⟩ = some (⟨{ x with PC := to, C := ⟨k, 0, hd, yT s.P, 0#64, x.Bin, 0, 0⟩ }, s, m⟩, ()) := by
  rw [zfn]
  simp only [zeJ, Option.bind_some, zag]
theorem zvJ {m : List za} (h : m.length < 4294967296) : wn m = some (m, ()) := by
  rw [Xf, List.nil_append, xT h, Option.bind_some]
  cases m with
  | nil => simp [zds]
  | cons a l => simp
theorem zqA {p : zd} (h : z3 p) {nb : Nat} {s : zc} (hP : s.P = p) {m : Int} (hm : 1 ≤ m ∧ m ≤ p.Mutators) (ha : (s.Acks.length : Int) = p.Mutators) {x : za} (X : XOk p nb m x) :
    XE ⟨x, s, m⟩ = some (⟨zdi s m x, s, m⟩, ()) := by
  have hmt := h.mt
  have hip := X.ip
  have hrs := zhN h m
  have e := List.getElem?_eq_getElem (show (m - 1).toNat < s.Acks.length by omega)
  have ed : s.Acks.getD (m - 1).toNat 0 = s.Acks[(m - 1).toNat]'(by omega) := by rw [List.getD_eq_getElem?_getD, e]; rfl
  have pg : s.P.Progs[(m - 1).toNat]? = some (wa p m) := by rw [hP]; exact zmM h hm
  rw [zeV]
  simp only [zn]
  rw [yp (a := m - 1) (by omega) (by omega), vK (by omega), e, Option.bind_some]
  unfold zdi
  rw [ed, hP]
  by_cases c : (s.Acks[(m - 1).toNat]'(by omega)) < s.Epoch
  · rw [if_pos c, if_pos c]
  rw [if_neg c, if_neg c, ← hP, vK (by omega), pg, Option.bind_some, hP]
  by_cases c2 : ((wa p m).length : Int) ≤ x.IP
  · rw [if_pos c2, if_pos c2]
  rw [if_neg c2, if_neg c2]
  obtain ⟨e1, e2⟩ := zeS h hP hm (x := x) (show 0 ≤ x.IP ∧ x.IP < ((wa p m).length : Int) by omega)
  have o := zia h hm e2
  have hreg := X.regs
  rw [e1, Option.bind_some]
  by_cases k1 : (opM p m x).Kind = 1
  · rw [if_pos k1, if_pos k1]
  rw [if_neg k1, if_neg k1]
  by_cases k2 : (opM p m x).Kind = 2
  · rw [if_pos k2, if_pos k2]
  rw [if_neg k2, if_neg k2]
  by_cases k3 : (opM p m x).Kind = 3
  · rw [if_pos k3, if_pos k3]
  rw [if_neg k3, if_neg k3]
  by_cases k4 : (opM p m x).Kind = 4
  · rw [if_pos k4, if_pos k4, ziE (x := x) (r := (opM p m x).A) (by omega), Option.bind_some, zcQ (x := x) (r := (opM p m x).R) (by omega) (by omega)]; rfl
  · rw [if_neg k4, if_neg k4, zcQ (x := x) (r := (opM p m x).R) (by omega) (by omega)]; rfl
theorem zuy {h : zu} (hl : h.Objs.length < 1000000) (hs : ∀ l ∈ h.Objs, l.length < 1000000) (o i v : Int) : ∃ b, zjH h o i v = some (zix h o i v, b, ()) := by
  rw [zqj, zop hl, Option.bind_some]
  unfold zix
  cases ht : Vj h o i with
  | false => rw [if_neg (fun e => by cases e.1)]; exact ⟨_, rfl⟩
  | true =>
    rw [Bool.not_true, cond_false, zn]
    by_cases h1 : v < 0
    · rw [if_pos h1, if_neg (by omega)]; exact ⟨_, rfl⟩
    rw [if_neg h1, zn]
    by_cases h2 : (h.Objs.length : Int) < v
    · rw [if_pos h2, if_neg (by omega)]; exact ⟨_, rfl⟩
    have hh := ht
    unfold Vj at hh
    simp only [Bool.and_eq_true, decide_eq_true_eq] at hh
    obtain ⟨⟨⟨g1, g2⟩, g3⟩, g4⟩ := hh
    have e := List.getElem?_eq_getElem (show (o - 1).toNat < h.Objs.length by omega)
    have es : xy h o = h.Objs[(o - 1).toNat]'(by omega) := by unfold xy; rw [List.getD_eq_getElem?_getD, e]; rfl
    have hlen := hs _ (List.mem_of_getElem? e)
    rw [if_neg h2, if_pos ⟨rfl, by omega, by omega⟩, zi3 (by omega), Option.bind_some, yp (a := o - 1) (by omega) (by omega), vY (l := h.Objs) (by omega) (by omega), Option.bind_some, e, Option.bind_some, ub (by omega), Option.bind_some, Option.bind_some, Option.bind_some]
    rw [zn, if_pos rfl, vY g3 (by rw [← es]; exact g4), Option.bind_some, es]
    exact ⟨_, rfl⟩
theorem zjO {h : zu} (h1 : 1 ≤ h.Slots ∧ h.Slots ≤ 4) (h2 : h.Objs.length ≤ 64) (h3 : ∀ o ∈ h.Objs, (o.length : Int) = h.Slots ∧ ∀ v ∈ o, 0 ≤ v ∧ v ≤ (h.Objs.length : Int)) : WC h = some (true, ()) := by
  rw [zhe, zn, if_pos h1.1, zn, if_pos h1.2, zn, if_pos (by omega), zqc (by omega) (by omega) h3]
  rfl
theorem ztR {h : zu} (h1 : 1 ≤ h.Slots ∧ h.Slots ≤ 4) (h2 : h.Objs.length ≤ 64) (h3 : ∀ o ∈ h.Objs, (o.length : Int) = h.Slots ∧ ∀ v ∈ o, 0 ≤ v ∧ v ≤ (h.Objs.length : Int)) (hne : h.Objs ≠ []) (most : Int) :
    zft h most = some (if ze6 h most = true then (zii h, (h.Objs.length : Int) + 1, 0, ()) else (h, 0, 4, ())) := by
  have hn : h.Objs.length ≠ 0 := fun e => hne (List.eq_nil_of_length_eq_zero e)
  rw [znj, zjO h1 h2 h3, Option.bind_some, Bool.not_true, cond_false]
  simp only [zn]
  have er : ze6 h most = true ↔ (h.Objs.length : Int) < most ∧ (h.Objs.length : Int) < 64 := by unfold ze6; simp
  have hx : (if 64 < most then (64 : Int) else most) ≤ (h.Objs.length : Int) ↔ ¬ (ze6 h most = true) := by
    rw [er]
    split <;> omega
  by_cases hr : ze6 h most = true
  · rw [if_neg (fun e => hx.1 e hr), if_pos hr]
    have ec : YB h.Objs = some (h.Objs, ()) := by
      rw [zdu]
      simp [hn]
    rw [ec, Option.bind_some, if_pos trivial, zgZ, decide_eq_true (show 0 ≤ h.Slots by omega), decide_eq_true (show h.Slots < 4294967296 by omega)]
    simp only [Bool.and_self, cond_true, Option.bind_some]
    rw [xT (by simp only [List.length_append, List.length_singleton]; omega), Option.bind_some]
    unfold zii
    simp
  · rw [if_pos (hx.2 hr), if_neg hr]
theorem ztO (t : zq) (o : Int) : ∃ b, zgm t o = some (zoD t o, b, ()) := by
  rw [zom, znC, Option.bind_some]
  unfold zoD
  dsimp only
  cases hs : (zeo t o).2 with
  | false => rw [if_neg (by simp)]; exact ⟨_, rfl⟩
  | true => rw [Bool.not_true, cond_false, zp6, if_pos rfl]; exact ⟨_, rfl⟩
theorem zjJ (l : zk) (who price limit : Int) : Zs l who price limit = some (V7 l who price limit, ()) := by
  rw [ze0, zfO, Option.bind_some]
  unfold V7 VN
  simp only [zn]
  cases ht : (decide (1 ≤ who) && decide (who ≤ (l.Bal.length : Int))) with
  | false => rw [cond_false]; simp
  | true =>
    rw [cond_true]
    by_cases h1 : 0 ≤ price <;> by_cases h2 : 0 ≤ limit
    · rw [if_pos (by split <;> omega)]
      simp only [Bool.true_and, decide_eq_true h1, decide_eq_true h2, Option.some.injEq, Prod.mk.injEq, and_true]
      rw [Bool.eq_iff_iff]
      simp only [decide_eq_true_eq, Bool.and_eq_true]
      split <;> omega
    · rw [if_neg (by split <;> omega)]; simp [h2]
    · rw [if_neg (by split <;> omega)]; simp [h1]
    · rw [if_neg (by split <;> omega)]; simp [h1]
theorem zoU {l : zk} {who : Int} (hl : l.Bal.length < 1000000) (h : VN l who = true) : idx l.Bal (w64 (who - 1)) = some (zbA l who) ∧ y0 l.Bal (w64 (who - 1)) = some (who - 1).toNat ∧ l.Bal[(who - 1).toNat]? = some (zbA l who) := by
  unfold VN at h
  simp only [Bool.and_eq_true, decide_eq_true_eq] at h
  have e := List.getElem?_eq_getElem (show (who - 1).toNat < l.Bal.length by omega)
  have eb : zbA l who = l.Bal[(who - 1).toNat]'(by omega) := by unfold zbA; rw [List.getD_eq_getElem?_getD, e]; rfl
  rw [yp (a := who - 1) (by omega) (by omega), vK (by omega), vY (by omega) (by omega), e, eb]
  exact ⟨rfl, rfl, rfl⟩
theorem zn0 {l : zk} (hl : l.Bal.length < 1000000) (who price limit : Int) : zaW l who price limit = some (zjs l who price limit, ()) := by
  rw [zoa, zjJ, Option.bind_some]
  unfold zjs
  cases hp : V7 l who price limit with
  | false => rfl
  | true =>
    have ht : VN l who = true := by unfold V7 at hp; simp only [Bool.and_eq_true] at hp; exact hp.1.1.1.1
    dsimp only
    rw [cond_true, (zoU hl ht).1, Option.bind_some, xx, Bool.true_and, Int.zero_sub]
theorem zjQ {l l' : zk} (hl : l.Bal.length < 1000000) {who : Int} (h : VN l who = true) (hb : l'.Bal = l.Bal) {v : Int} {Q : Option (zk × Unit)} {f : Int → Option (Int × Unit)} (hf : f (zbA l who) = some (v, ()))
    (hQ : Q = bif decide (((l'.Bal.length : Int)) = ((l'.Bal.length : Int))) then (Za ((l'.Bal.length : Int))).bind fun n1 => bif decide (l'.Bal.length = ((List.replicate n1 ((0 : Int))).length)) then
      bif l'.Bal.isEmpty then (y0 (List.replicate n1 ((0 : Int))) (w64 (who - 1))).bind fun n2 => ((List.replicate n1 ((0 : Int)))[n2]?).bind fun x3 => (f x3).bind fun y4 => (y0 (List.replicate n1 ((0 : Int))) (w64 (who - 1))).bind fun n5 => some ({ l' with Bal := (List.replicate n1 ((0 : Int))).set n5 y4.1 }, ())
      else (y0 l'.Bal (w64 (who - 1))).bind fun n6 => (l'.Bal[n6]?).bind fun x7 => (f x7).bind fun y8 => (y0 l'.Bal (w64 (who - 1))).bind fun n9 => some ({ l' with Bal := l'.Bal.set n9 y8.1 }, ()) else none else none) :
    Q = some ({ l' with Bal := l.Bal.set (who - 1).toNat v }, ()) := by
  obtain ⟨e1, e2, e3⟩ := zoU hl h
  have hne : l.Bal.isEmpty = false := by
    cases hl2 : l.Bal with
    | nil => rw [hl2] at e3; simp at e3
    | cons a r => rfl
  rw [hQ, hb, zgZ, decide_eq_true (show (0 : Int) ≤ (l.Bal.length : Int) by omega), decide_eq_true (show (l.Bal.length : Int) < 4294967296 by omega)]
  simp only [decide_true, cond_true, Bool.and_self, Option.bind_some, Int.toNat_natCast, List.length_replicate, hne, cond_false, e2, e3, hf]
theorem zrx {l : zk} (hl : l.Bal.length < 1000000) (who price limit : Int) : zcv l who price limit = some (if zjs l who price limit = true then (zkf l who price, true, ()) else (l, false, ())) := by
  rw [zlG, zn0 hl, Option.bind_some]
  cases hm : zjs l who price limit with
  | false => rfl
  | true =>
    have ht : VN l who = true := by unfold zjs V7 at hm; simp only [Bool.and_eq_true] at hm; exact hm.1.1.1.1.1
    dsimp only
    rw [Bool.not_true, cond_false, zjQ (l' := { l with Spent := w64 (l.Spent + price) }) hl ht rfl (f := fun b => W4 b price) (v := wc (zbA l who - price)) (by rw [zj1, xx]) (X6 _ _ _), Option.bind_some, if_pos rfl, xx]
    rfl
theorem zsp {l : zk} (hl : l.Bal.length < 1000000) (who want : Int) : zed l who want = some ((zgR l who want).1, (zgR l who want).2, ()) := by
  rw [zm5, zfO, Option.bind_some]
  unfold zgR
  have em : (bif decide (l.Pool < want) then l.Pool else want) = zjx want l.Pool := by rw [zn]; rfl
  simp only [em]
  have et : (decide (1 ≤ who) && decide (who ≤ (l.Bal.length : Int))) = VN l who := rfl
  rw [et]
  cases ht : VN l who with
  | false => rw [if_neg (fun e => by cases e.1)]; rfl
  | true =>
    rw [Bool.not_true, cond_false, zn]
    by_cases hz : zjx want l.Pool ≤ 0
    · rw [if_pos hz, if_neg (by omega)]
    · rw [if_neg hz, if_pos ⟨rfl, by omega⟩, zjQ (l' := { l with Pool := w64 (l.Pool - zjx want l.Pool) }) hl ht rfl (f := fun b => VI b (zjx want l.Pool)) (v := wc (zbA l who + zjx want l.Pool)) (by rw [zj7, xx]) (Wv _ _ _), Option.bind_some, xx]
theorem zr1 {l : zk} (hl : l.Bal.length < 1000000) (who price limit : Int) : zb3 l who price limit = some (zlg l who price limit, ()) := by
  rw [zlz, zjJ, Option.bind_some]
  unfold zlg
  cases hp : V7 l who price limit with
  | false => rfl
  | true =>
    have ht : VN l who = true := by unfold V7 at hp; simp only [Bool.and_eq_true] at hp; exact hp.1.1.1.1
    dsimp only
    rw [Bool.not_true, cond_false, zn0 hl, Option.bind_some, if_pos rfl]
    cases hm : zjs l who price limit with
    | false => rw [cond_false, (zoU hl ht).1, Option.bind_some, xx]; rfl
    | true => rfl
theorem zsq {p : zd} {nb : Nat} (h : z3 p) {s : zc} {x : za} {m : Int} (S : SOk p nb s) (X : XOk p nb m x) (hm : 1 ≤ m ∧ m ≤ p.Mutators) (ha : (s.Acks.length : Int) = p.Mutators) (sm : Zp s) (H : HOk p s.H) (hb : x.Buf.length < 1000000) (hbt : x.Batch.length < 1000000) : Wg ⟨x, s, m⟩ = some (⟨(zW s m x).2, (zW s m x).1, m⟩, ()) := by
  have hmt := h.mt
  have hpc := X.pc
  rw [zf6]
  simp only [zn]
  unfold zW
  by_cases c0 : x.PC = 0
  · rw [if_pos c0, if_pos c0, zqA h S.P hm ha X]; rfl
  rw [if_neg c0, if_neg c0]
  by_cases c1 : x.PC = 1
  · rw [if_pos c1, if_pos c1, zep]
    simp only [zn]
    unfold mu1
    by_cases e : x.Buf.length = 0
    · rw [if_pos e, if_pos (by rw [yp (by omega) (by omega)]; omega)]; rfl
    · have ei := List.getElem?_eq_getElem (show x.Buf.length - 1 < x.Buf.length by omega)
      have en : ((x.Buf.length : Int) - 1).toNat = x.Buf.length - 1 := by omega
      have ec : cut x.Buf 0 ((x.Buf.length : Int) - 1) = some (x.Buf.take (x.Buf.length - 1)) := by
        unfold cut
        rw [decide_eq_true (show (0 : Int) ≤ 0 by decide), decide_eq_true (show (0 : Int) ≤ (x.Buf.length : Int) - 1 by omega), decide_eq_true (show (x.Buf.length : Int) - 1 ≤ (x.Buf.length : Int) by omega), en]
        simp
      rw [if_neg e, yp (a := (x.Buf.length : Int) - 1) (by omega) (by omega), if_neg (by omega), vK (by omega), en, ei, Option.bind_some, znN, Option.bind_some, ec, List.getD_eq_getElem?_getD, ei]
      rfl
  rw [if_neg c1, if_neg c1]
  by_cases c2 : x.PC = 2
  · rw [if_pos c2, if_pos c2, zgH]
    have hs := sm.acks
    simp only [ub (show s.Acks.length < 4294967296 by omega), Option.bind_some]
    rw [yp (a := m - 1) (by omega) (by omega), vY (l := s.Acks) (by omega) (by omega)]
    rfl
  rw [if_neg c2, if_neg c2]
  have hbl := sm.bal
  have hon := sm.objs
  have hregs := X.regs
  have hrs := zhN h m
  have hHs := H.slots
  have hHn := H.n
  have hpn := h.n
  have hpm := h.most
  have hps := h.slots
  have op := fun (hi : x.IP < ((wa p m).length : Int)) => zeS h S.P hm (x := x) ⟨X.ip.1, hi⟩
  by_cases c3 : x.PC = 3
  · rw [if_pos c3, if_pos c3, zeZ, zil h S (X.g (.inl c3)).1]; rfl
  rw [if_neg c3, if_neg c3]
  by_cases c10 : x.PC = 10
  · have hi := X.op (.inl (by omega))
    obtain ⟨e1, e2⟩ := op hi
    have o := zia h hm e2
    rw [if_pos c10, if_pos c10, zfT, e1, Option.bind_some, zkA h S.P hm ⟨X.ip.1, hi⟩ hregs hon, Option.bind_some, zcQ (x := x) (r := (opM p m x).R) (by omega) (by omega)]
    unfold zmB
    rw [S.P]; rfl
  rw [if_neg c10, if_neg c10]
  by_cases c20 : x.PC = 20
  · have hi := X.op (.inl (by omega))
    obtain ⟨e1, e2⟩ := op hi
    have o := zia h hm e2
    rw [if_pos c20, if_pos c20, zgO, e1, Option.bind_some]
    unfold zlc
    dsimp only
    rw [ziE (x := x) (r := (opM p m x).A) (by omega), Option.bind_some, zn, S.P]
    by_cases e : zh0 x (opM p m x).A = 0
    · rw [if_pos e, if_pos e, uT, xx]; rfl
    · rw [if_neg e, if_neg e, zkA h S.P hm ⟨X.ip.1, hi⟩ hregs hon]; rfl
  rw [if_neg c20, if_neg c20]
  by_cases c21 : x.PC = 21
  · rw [if_pos c21, if_pos c21, zeY]
    unfold zkU
    dsimp only
    rw [zn]
    by_cases e : x.Old = 0
    · rw [if_pos e, if_pos (.inl e)]; rfl
    · rw [if_neg e, ztb, Option.bind_some, yg]
      by_cases e2 : zfI s.T x.Old = 0
      · rw [if_pos e2, if_neg (fun h => h.elim e (fun h => h e2))]; rfl
      · rw [if_neg e2, if_pos (.inr e2)]; rfl
  rw [if_neg c21, if_neg c21]
  by_cases c22 : x.PC = 22
  · rw [if_pos c22, if_pos c22, zcd]
    unfold zk9
    dsimp only
    rw [zn]
    by_cases e : s.P.Buf ≤ (x.Buf.length : Int)
    · rw [if_pos e, if_pos e]; rfl
    · rw [if_neg e, if_neg e, ub (by omega), Option.bind_some, xT (by simp; omega)]; rfl
  rw [if_neg c22, if_neg c22]
  by_cases c23 : x.PC = 23
  · have hi := X.op (.inl (by omega))
    obtain ⟨e1, e2⟩ := op hi
    have o := zia h hm e2
    obtain ⟨b, ep⟩ := zuy hon sm.obj (zh0 x (opM p m x).A) (opM p m x).S (zh0 x (opM p m x).R)
    rw [if_pos c23, if_pos c23, zet, e1, Option.bind_some]
    dsimp only
    rw [ziE (x := x) (r := (opM p m x).A) (by omega), Option.bind_some, ziE (x := x) (r := (opM p m x).R) (by omega), Option.bind_some, ep, Option.bind_some, uT, xx]
    unfold zm6
    rw [S.P]; rfl
  rw [if_neg c23, if_neg c23]
  by_cases c30 : x.PC = 30
  · have hi := X.op (.inl (by omega))
    obtain ⟨e1, e2⟩ := op hi
    have o := zia h hm e2
    have hne : s.H.Objs ≠ [] := fun e => by have e2 : s.H.Objs.length = 0 := by rw [e]; rfl
                                            omega
    rw [if_pos c30, if_pos c30, zer]
    unfold zhs
    dsimp only
    rw [zrx hbl, Option.bind_some]
    cases hmay : zjs s.L m s.P.Price s.P.Limit with
    | false => rfl
    | true =>
      rw [if_pos rfl, if_pos rfl]
      dsimp only
      rw [Bool.not_true, cond_false, ztR (show 1 ≤ s.H.Slots ∧ s.H.Slots ≤ 4 by rw [hHs]; omega) (show s.H.Objs.length ≤ 64 by omega) H.objs hne, Option.bind_some]
      cases hr : ze6 s.H s.P.Most with
      | false =>
        rw [if_neg (by simp), if_neg (by simp)]
        dsimp only
        rw [yg, if_neg (by decide), uT, xx]; rfl
      | true =>
        rw [if_pos rfl, if_pos rfl]
        dsimp only
        obtain ⟨b, ef⟩ := ztO s.T ((s.H.Objs.length : Int) + 1)
        rw [yg, if_pos rfl, ef, Option.bind_some]
        have e3 := (zeS h (s := { s with H := zii s.H, T := zoD s.T ((s.H.Objs.length : Int) + 1), L := zkf s.L m s.P.Price }) S.P hm (x := x) ⟨X.ip.1, hi⟩).1
        rw [e3, Option.bind_some, zcQ (x := x) (r := (opM p m x).R) (by omega) (by omega), Y2 (by omega) (by omega)]
        rw [S.P]; rfl
  rw [if_neg c30, if_neg c30]
  by_cases c31 : x.PC = 31
  · rw [if_pos c31, if_pos c31, zfK]
    unfold zku
    dsimp only
    rw [zr1 hbl, Option.bind_some, zsp hbl, Option.bind_some, zn]
    by_cases e : (zgR s.L m (zlg s.L m s.P.Price s.P.Limit)).2 = 0
    · rw [if_pos e, if_pos e, zeD, Option.bind_some, zkp]; rfl
    · rw [if_neg e, if_neg e]; rfl
  rw [if_neg c31, if_neg c31]
  by_cases c32 : x.PC = 32
  · rw [if_pos c32, if_pos c32, zgI]
    unfold zkK
    dsimp only
    rw [ze9 (by have := S.mem; omega), Option.bind_some, zn, zn]
    by_cases e : (zV s.M x.C).2.Out = 1
    · rw [if_pos e, if_pos e]; rfl
    · rw [if_neg e, if_neg e]
      by_cases e2 : (zV s.M x.C).2.Out = 2
      · rw [if_pos e2, if_pos e2]; rfl
      · rw [if_neg e2, if_neg e2]; rfl
  rw [if_neg c32, if_neg c32]
  by_cases c33 : x.PC = 33
  · have B := X.b33 c33
    have hbn := S.bins
    have hnb := S.nbk
    have e := List.getElem?_eq_getElem (show x.Bin.toNat < s.Bins.length by omega)
    rw [if_pos c33, if_pos c33, zeT]
    unfold zml
    dsimp only
    rw [vK (by omega), e, Option.bind_some, zi3 (by omega), Option.bind_some, vY (l := s.Bins) (by omega) (by omega), Option.bind_some, zcL, Option.bind_some, zkp]
    have eb : zlw s x.Bin = s.Bins[x.Bin.toNat]'(by omega) := by unfold zlw; rw [List.getD_eq_getElem?_getD, e]; rfl
    rw [eb]; rfl
  rw [if_neg c33, if_neg c33]
  by_cases c34 : x.PC = 34
  · rw [if_pos c34, if_pos c34, zfj]
    unfold zkw
    dsimp only
    rw [ze9 (by have := S.mem; omega), Option.bind_some, zn]
    by_cases e : (zV s.M x.C).2.Out = 1
    · rw [if_pos e, if_pos e]; rfl
    · rw [if_neg e, if_neg e]; rfl
  rw [if_neg c34, if_neg c34]
  by_cases c35 : x.PC = 35
  · rw [if_pos c35, if_pos c35, zeG]
    unfold zkq
    dsimp only
    rw [zn]
    cases hbb : x.Batch with
    | nil => rw [if_neg (by simp)]; rfl
    | cons o l =>
      have : idx (o :: l) 0 = some o := by rw [vK (by omega)]; rfl
      rw [if_pos (by simp), this, Option.bind_some, zvG]; rfl
  rw [if_neg c35, if_neg c35]
  by_cases c36 : x.PC = 36
  · rw [if_pos c36, if_pos c36, zf8]
    unfold zkg
    dsimp only
    rw [zrW hon, Option.bind_some, zn5, Option.bind_some, yg, xx]
    by_cases e : zam s.H x.Obj x.Slot = 0
    · rw [if_pos e, if_pos e]; rfl
    · rw [if_neg e, if_neg e, znN]; rfl
  rw [if_neg c36, if_neg c36]
  by_cases c37 : x.PC = 37
  · rw [if_pos c37, if_pos c37, zgQ, zn5, Option.bind_some, zil h S (X.g (.inr c37)).1]; rfl
  rw [if_neg c37, if_neg c37]
  by_cases c38 : x.PC = 38
  · rw [if_pos c38, if_pos c38, zc7]
    unfold zmS
    dsimp only
    rw [zp6, Option.bind_some, zsy hbl]; rfl
  rw [if_neg c38, if_neg c38]
  have c39 : x.PC = 39 := by omega
  rw [if_pos c39, if_pos c39, zdo, xx]; rfl
theorem zbx {p : zd} {nb : Nat} {s : zc} (h : z3 p) (E : EOk p nb s) (m : Int) : Yt s m = some (zH s m, ()) := by
  rw [zlO]
  simp only [zn]
  unfold zH
  cases hd : s.Done with
  | true => rw [cond_true, if_pos (.inl rfl)]
  | false =>
    rw [cond_false]
    by_cases h1 : m < 1
    · rw [if_pos h1, if_pos (.inr (.inl h1))]
    rw [if_neg h1]
    by_cases h2 : (s.Ms.length : Int) < m
    · rw [if_pos h2, if_pos (.inr (.inr h2))]
    have hml := E.ml
    have hal := E.al
    have hmt := h.mt
    have e := List.getElem?_eq_getElem (show (m - 1).toNat < s.Ms.length by omega)
    have ei : (((m - 1).toNat : Nat) : Int) + 1 = m := by omega
    have hX := E.X _ _ e
    rw [ei] at hX
    have hb := (E.small.mu _ (List.mem_of_getElem? e)).2
    have T := zr9 s m (s.Ms[(m - 1).toNat]'(by omega))
    rw [if_neg h2, if_neg (fun e => e.elim (fun h => by cases h) (fun e => e.elim h1 h2)), yp (a := m - 1) (by omega) (by omega), vK (by omega), e, Option.bind_some, zsq h E.S hX (by omega) (by omega) E.small E.H hb.1 hb.2, Option.bind_some]
    simp only [T.ms, zvJ (show s.Ms.length < 4294967296 by omega), Option.bind_some, vY (l := s.Ms) (show 0 ≤ m - 1 by omega) (show m - 1 < (s.Ms.length : Int) by omega)]
end
end Go.Pe.G
namespace Go.Pe.G
open Go.Pe
noncomputable section
theorem zxM (s : zc) (g : zA) : (zG s g).1 = { s with M := (zG s g).1.M, Bins := (zG s g).1.Bins, T := (zG s g).1.T, Work := (zG s g).1.Work, Flag := (zG s g).1.Flag } := by
  obtain ⟨m, b, t, wk, f, e, _⟩ := WV s g
  rw [e]
theorem ztM {p : zd} {nb : Nat} {s : zc} {w : Int} {x : zi} (W : WOk p nb w x) : (yJ s w x).1 = { s with M := (yJ s w x).1.M, Bins := (yJ s w x).1.Bins, T := (yJ s w x).1.T, Work := (yJ s w x).1.Work, L := (yJ s w x).1.L } := by
  unfold yJ
  split
  · rfl
  split
  · rfl
  split
  · rfl
  split
  · rfl
  split
  · rfl
  split
  · rename_i h6
    obtain ⟨g1, g2, g3, g4⟩ := W.g6 h6
    have hf := (zth s g3 g4).2
    obtain ⟨m, b, t, wk, f, e, _⟩ := WV s x.G
    dsimp only
    rw [e] at hf ⊢
    have hf : f = s.Flag := hf
    rw [hf]
  split
  · rfl
  split
  · rfl
  split <;> rfl
theorem zqa (s : zc) (m : Int) (x : za) : (zW s m x).1 = { s with H := (zW s m x).1.H, M := (zW s m x).1.M, Bins := (zW s m x).1.Bins, T := (zW s m x).1.T, Work := (zW s m x).1.Work, Flag := (zW s m x).1.Flag, Acks := (zW s m x).1.Acks, L := (zW s m x).1.L } := by
  have g : ∀ g : zA, (zG s g).1 = { s with H := (zG s g).1.H, M := (zG s g).1.M, Bins := (zG s g).1.Bins, T := (zG s g).1.T, Work := (zG s g).1.Work, Flag := (zG s g).1.Flag, Acks := (zG s g).1.Acks, L := (zG s g).1.L } := fun g => by
    obtain ⟨m, b, t, wk, f, e, _⟩ := WV s g
    rw [e]
  refine ZP (motive := fun r => r.1 = { s with H := r.1.H, M := r.1.M, Bins := r.1.Bins, T := r.1.T, Work := r.1.Work, Flag := r.1.Flag, Acks := r.1.Acks, L := r.1.L }) s m x ?_ ?_ ?_ ?_ ?_ ?_ ?_ ?_ ?_ ?_ ?_ ?_ ?_ ?_ ?_ ?_ ?_ ?_ ?_ ?_
  · exact fun _ => rfl
  · exact fun _ => rfl
  · exact fun _ => rfl
  · exact fun _ => g x.G
  · exact fun _ => rfl
  · exact fun _ => rfl
  · exact fun _ => rfl
  · exact fun _ => rfl
  · exact fun _ => rfl
  · intro _
    unfold zhs
    split
    · split <;> rfl
    · rfl
  · exact fun _ => rfl
  · exact fun _ => rfl
  · exact fun _ => rfl
  · exact fun _ => rfl
  · exact fun _ => rfl
  · exact fun _ => rfl
  · exact fun _ => g x.G
  · exact fun _ => rfl
  · exact fun _ => rfl
  · rfl
theorem zxZ (s : zc) (m : Int) {x : za} (h : x.PC ≠ 2) : (zW s m x).1.Acks = s.Acks := by
  have g : ∀ g : zA, (zG s g).1.Acks = s.Acks := fun g => by
    obtain ⟨m, b, t, wk, f, e, _⟩ := WV s g
    rw [e]
  refine ZP (motive := fun r => r.1.Acks = s.Acks) s m x ?_ ?_ ?_ ?_ ?_ ?_ ?_ ?_ ?_ ?_ ?_ ?_ ?_ ?_ ?_ ?_ ?_ ?_ ?_ ?_
  · exact fun _ => rfl
  · exact fun _ => rfl
  · exact fun c => absurd c h
  · exact fun _ => g x.G
  · exact fun _ => rfl
  · exact fun _ => rfl
  · exact fun _ => rfl
  · exact fun _ => rfl
  · exact fun _ => rfl
  · intro _
    unfold zhs
    split
    · split <;> rfl
    · rfl
  · exact fun _ => rfl
  · exact fun _ => rfl
  · exact fun _ => rfl
  · exact fun _ => rfl
  · exact fun _ => rfl
  · exact fun _ => rfl
  · exact fun _ => g x.G
  · exact fun _ => rfl
  · exact fun _ => rfl
  · rfl
def zn4 (s : zc) (k : Int) : zc := if k = 0 then zlo s else if k ≤ (s.Ws.length : Int) then uM s k else zH s (k - s.Ws.length)
theorem zx2 {p : zd} {nb : Nat} {s : zc} (h : z3 p) (E : EOk p nb s) (k : Int) : EOk p nb (zn4 s k) := by
  unfold zn4
  split
  · exact zxt h E
  split
  · exact zvT h E k
  · exact zhc h E _
theorem zmF {p : zd} {nb : Nat} {s : zc} (E : EOk p nb s) (w : Int) : uM s w = { s with M := (uM s w).M, Bins := (uM s w).Bins, T := (uM s w).T, Work := (uM s w).Work, L := (uM s w).L, Ws := (uM s w).Ws } := by
  unfold uM
  split
  · rfl
  rename_i hc
  cases hx : s.Ws[(w - 1).toNat]? with
  | none => rfl
  | some x =>
    have hW := E.W _ _ hx
    rw [show (((w - 1).toNat : Nat) : Int) + 1 = w by omega] at hW
    dsimp only
    rw [ztM hW]
theorem zlB (s : zc) (m : Int) : zH s m = { s with H := (zH s m).H, M := (zH s m).M, Bins := (zH s m).Bins, T := (zH s m).T, Work := (zH s m).Work, Flag := (zH s m).Flag, Acks := (zH s m).Acks, L := (zH s m).L, Ms := (zH s m).Ms } := by
  unfold zH
  split
  · rfl
  cases hx : s.Ms[(m - 1).toNat]? with
  | none => rfl
  | some x =>
    dsimp only
    rw [zqa]
structure AI (k : Int) (s : zc) : Prop where
  ep : 0 ≤ s.Epoch ∧ s.Epoch ≤ k
  m : ∀ (i : Nat) x, s.Ms[i]? = some x → s.Acks.getD i 0 ≤ s.Epoch ∧ (x.PC = 2 ∨ ((x.PC = 1 ∨ x.PC = 3) ∧ x.Ret = 2) → s.Acks.getD i 0 ≤ x.Want ∧ x.Want ≤ s.Epoch) ∧ (x.PC = 2 → x.Buf = [])
def ztJ (s s' : zc) : Prop := ∀ (i : Nat) x', s'.Ms[i]? = some x' → s.Acks.getD i 0 ≤ s'.Acks.getD i 0 ∧ s'.Acks.getD i 0 ≤ s'.Epoch ∧ (s.Acks.getD i 0 < s'.Acks.getD i 0 → x'.Buf = [])
theorem AI.same {k : Int} {s s' : zc} (A : AI k s) (e1 : s'.Epoch = s.Epoch) (e2 : s'.Ms = s.Ms) (e3 : s'.Acks = s.Acks) : AI (k + 1) s' ∧ ztJ s s' := by
  refine ⟨⟨by rw [e1]; have := A.ep; omega, by rw [e1, e2, e3]; exact A.m⟩, fun i x hx => ?_⟩
  rw [e2] at hx
  rw [e3, e1]
  exact ⟨Int.le_refl _, (A.m i x hx).1, fun e => by omega⟩
theorem zqY {α : Type} {l : List α} {i j : Nat} {v d : α} (h : i < l.length) : (l.set i v).getD j d = if i = j then v else l.getD j d := by
  rw [List.getD_eq_getElem?_getD, List.getD_eq_getElem?_getD, List.getElem?_set]
  by_cases e : i = j
  · rw [if_pos e, if_pos e, if_pos h]; rfl
  · rw [if_neg e, if_neg e]
theorem zxd {p : zd} {nb : Nat} {k : Int} {s : zc} (hp : z3 p) (E : EOk p nb s) (A : AI k s) {m : Int} (hm : 1 ≤ m ∧ m ≤ (s.Ms.length : Int)) {x : za} (hx : s.Ms[(m - 1).toNat]? = some x) :
    let y := (zW s m x).2
    let s' := (zW s m x).1
    (s.Acks.getD (m - 1).toNat 0 ≤ s'.Acks.getD (m - 1).toNat 0 ∧ s'.Acks.getD (m - 1).toNat 0 ≤ s.Epoch ∧ (s.Acks.getD (m - 1).toNat 0 < s'.Acks.getD (m - 1).toNat 0 → y.Buf = [])) ∧ (∀ j, j ≠ (m - 1).toNat → s'.Acks.getD j 0 = s.Acks.getD j 0) ∧
      (y.PC = 2 ∨ ((y.PC = 1 ∨ y.PC = 3) ∧ y.Ret = 2) → s'.Acks.getD (m - 1).toNat 0 ≤ y.Want ∧ y.Want ≤ s.Epoch) ∧ (y.PC = 2 → y.Buf = []) := by
  obtain ⟨a1, a2, a3⟩ := A.m _ _ hx
  have X := E.X _ _ hx
  rw [show (((m - 1).toNat : Nat) : Int) + 1 = m by omega] at X
  have hal := E.al
  have same : ∀ {s' : zc} {y : za}, s'.Acks = s.Acks → (y.PC = 2 ∨ ((y.PC = 1 ∨ y.PC = 3) ∧ y.Ret = 2) → s.Acks.getD (m - 1).toNat 0 ≤ y.Want ∧ y.Want ≤ s.Epoch) → (y.PC = 2 → y.Buf = []) →
      (s.Acks.getD (m - 1).toNat 0 ≤ s'.Acks.getD (m - 1).toNat 0 ∧ s'.Acks.getD (m - 1).toNat 0 ≤ s.Epoch ∧ (s.Acks.getD (m - 1).toNat 0 < s'.Acks.getD (m - 1).toNat 0 → y.Buf = [])) ∧ (∀ j, j ≠ (m - 1).toNat → s'.Acks.getD j 0 = s.Acks.getD j 0) ∧
      (y.PC = 2 ∨ ((y.PC = 1 ∨ y.PC = 3) ∧ y.Ret = 2) → s'.Acks.getD (m - 1).toNat 0 ≤ y.Want ∧ y.Want ≤ s.Epoch) ∧ (y.PC = 2 → y.Buf = []) := fun e h1 h2 => by
    rw [e]; exact ⟨⟨Int.le_refl _, a1, fun e => by omega⟩, fun _ _ => rfl, h1, h2⟩
  have far : ∀ {s' : zc} {y : za}, s'.Acks = s.Acks → (y.PC = 0 ∨ 10 ≤ y.PC) → _ := fun {s' y} e h => same (s' := s') (y := y) e (fun e => by omega) (fun e => by omega)
  have gacks : ∀ g : zA, (zG s g).1.Acks = s.Acks := fun g => by
    obtain ⟨m, b, t, wk, f, e, _⟩ := WV s g
    rw [e]
  refine ZP (motive := fun r => (s.Acks.getD (m - 1).toNat 0 ≤ r.1.Acks.getD (m - 1).toNat 0 ∧ r.1.Acks.getD (m - 1).toNat 0 ≤ s.Epoch ∧ (s.Acks.getD (m - 1).toNat 0 < r.1.Acks.getD (m - 1).toNat 0 → r.2.Buf = [])) ∧ (∀ j, j ≠ (m - 1).toNat → r.1.Acks.getD j 0 = s.Acks.getD j 0) ∧
      (r.2.PC = 2 ∨ ((r.2.PC = 1 ∨ r.2.PC = 3) ∧ r.2.Ret = 2) → r.1.Acks.getD (m - 1).toNat 0 ≤ r.2.Want ∧ r.2.Want ≤ s.Epoch) ∧ (r.2.PC = 2 → r.2.Buf = [])) s m x ?_ ?_ ?_ ?_ ?_ ?_ ?_ ?_ ?_ ?_ ?_ ?_ ?_ ?_ ?_ ?_ ?_ ?_ ?_ ?_
  · intro c
    unfold mu0 zdi
    split
    · rename_i hlt
      exact same rfl (fun _ => ⟨Int.le_of_lt hlt, Int.le_refl _⟩) (fun e => by cases e)
    split
    · exact far rfl (.inl c)
    split
    · exact far rfl (.inr (by show (10 : Int) ≤ 10; decide))
    split
    · exact far rfl (.inr (by show (10 : Int) ≤ 20; decide))
    split
    · exact far rfl (.inr (by show (10 : Int) ≤ 30; decide))
    split <;> exact far rfl (.inl rfl)
  · intro c
    unfold mu1
    split
    · rename_i hb
      have hb : x.Buf = [] := List.eq_nil_of_length_eq_zero hb
      refine same rfl (fun e => ?_) (fun _ => hb)
      have e : x.Ret = 2 ∨ ((x.Ret = 1 ∨ x.Ret = 3) ∧ x.Ret = 2) := e
      exact a2 (.inr ⟨.inl c, by omega⟩)
    · refine same rfl (fun e => a2 (.inr ⟨.inl c, ?_⟩)) (fun e => by cases e)
      rcases e with e | e
      · cases e
      · exact e.2
  · intro c
    have hlt : (m - 1).toNat < s.Acks.length := by omega
    obtain ⟨b1, b2⟩ := a2 (.inl c)
    unfold mu2
    have e0 : (s.Acks.set (m - 1).toNat x.Want).getD (m - 1).toNat 0 = x.Want := by rw [zqY hlt, if_pos rfl]
    refine ⟨⟨by dsimp only; rw [e0]; exact b1, by dsimp only; rw [e0]; exact b2, fun _ => a3 c⟩, fun j hj => ?_, fun (e : (0 : Int) = 2 ∨ (((0 : Int) = 1 ∨ (0 : Int) = 3) ∧ x.Ret = 2)) => by omega, fun (e : (0 : Int) = 2) => by omega⟩
    dsimp only
    rw [zqY hlt, if_neg (fun e => hj e.symm)]
  · intro c
    unfold mu3
    dsimp only
    split
    · refine same (gacks _) (fun e => a2 (.inr ⟨.inr c, ?_⟩)) (fun e => by cases e)
      rcases e with e | e
      · cases e
      · exact e.2
    · refine same (gacks _) (fun e => a2 ?_) (fun e => by have e : x.PC = 2 := e; omega)
      rcases e with e | e
      · exact .inl e
      · exact .inr e
  · exact fun c => far rfl (.inl rfl)
  · intro c
    unfold zlc
    split
    · exact far rfl (.inl rfl)
    · exact far rfl (.inr (by show (10 : Int) ≤ 21; decide))
  · intro c
    unfold zkU
    split
    · exact far rfl (.inr (by show (10 : Int) ≤ 23; decide))
    · exact far rfl (.inr (by show (10 : Int) ≤ 22; decide))
  · intro c
    unfold zk9
    split
    · refine same rfl (fun e => ?_) (fun e => by cases e)
      rcases e with e | ⟨_, e⟩ <;> cases e
    · exact far rfl (.inr (by show (10 : Int) ≤ 23; decide))
  · exact fun c => far rfl (.inl rfl)
  · intro c
    unfold zhs
    split
    · split
      · exact far rfl (.inl rfl)
      · exact far rfl (.inl rfl)
    · exact far rfl (.inr (by show (10 : Int) ≤ 31; decide))
  · intro c
    unfold zku
    dsimp only
    split
    · exact far rfl (.inr (by show (10 : Int) ≤ 32; decide))
    · exact far rfl (.inl rfl)
  · intro c
    unfold zkK
    dsimp only
    split
    · exact far rfl (.inr (by show (10 : Int) ≤ 33; decide))
    split
    · exact far rfl (.inl rfl)
    · exact far rfl (.inr (by show 10 ≤ x.PC; omega))
  · exact fun c => far rfl (.inr (by show (10 : Int) ≤ 34; decide))
  · intro c
    unfold zkw
    dsimp only
    split
    · exact far rfl (.inr (by show (10 : Int) ≤ 35; decide))
    · exact far rfl (.inr (by show 10 ≤ x.PC; omega))
  · intro c
    unfold zkq
    dsimp only
    split
    · exact far rfl (.inl rfl)
    · exact far rfl (.inr (by show (10 : Int) ≤ 36; decide))
  · intro c
    unfold zkg
    dsimp only
    split
    · exact far rfl (.inr (by show 10 ≤ onM s (wc (x.Slot + 1)); rcases znu s (wc (x.Slot + 1)) with e | e <;> rw [e] <;> decide))
    · exact far rfl (.inr (by show (10 : Int) ≤ 37; decide))
  · intro c
    unfold zmx
    dsimp only
    split
    · exact far (gacks _) (.inr (by show 10 ≤ onM s x.Slot; rcases znu s x.Slot with e | e <;> rw [e] <;> decide))
    · exact far (gacks _) (.inr (by show 10 ≤ x.PC; omega))
  · exact fun c => far rfl (.inr (by show (10 : Int) ≤ 39; decide))
  · exact fun c => far rfl (.inr (by show (10 : Int) ≤ 35; decide))
  · exact same rfl a2 a3
theorem zx3 {p : zd} {nb : Nat} {k : Int} {s : zc} (hp : z3 p) (E : EOk p nb s) (hk : k < 1000000) (A : AI k s) (j : Int) : AI (k + 1) (zn4 s j) ∧ ztJ s (zn4 s j) := by
  unfold zn4
  split
  · -- the detector
    have up : ∀ s' : zc, s'.Epoch = s.Epoch + 1 → s'.Ms = s.Ms → s'.Acks = s.Acks → AI (k + 1) s' ∧ ztJ s s' := fun s' e1 e2 e3 => by
      have := A.ep
      refine ⟨⟨by omega, fun i x hx => ?_⟩, fun i x hx => ?_⟩
      · rw [e2] at hx
        obtain ⟨b1, b2, b3⟩ := A.m i x hx
        rw [e3, e1]
        exact ⟨by omega, fun e => by have := b2 e; omega, b3⟩
      · rw [e2] at hx
        have := (A.m i x hx).1
        rw [e3, e1]
        exact ⟨Int.le_refl _, by omega, fun e => by omega⟩
    have he := A.ep
    unfold zlo
    split
    · exact A.same rfl rfl rfl
    split
    · exact A.same rfl rfl rfl
    split
    · split <;> exact A.same rfl rfl rfl
    split
    · exact up _ (Y2 (by omega) (by omega)) rfl rfl
    split
    · split <;> exact A.same rfl rfl rfl
    split
    · split <;> exact A.same rfl rfl rfl
    split
    · split <;> exact A.same rfl rfl rfl
    split <;> exact A.same rfl rfl rfl
  split
  · rw [zmF E]
    exact A.same rfl rfl rfl
  · generalize j - (s.Ws.length : Int) = m
    unfold zH
    split
    · exact A.same rfl rfl rfl
    rename_i hc
    cases hx : s.Ms[(m - 1).toNat]? with
    | none => exact A.same rfl rfl rfl
    | some x =>
      have hm : 1 ≤ m ∧ m ≤ (s.Ms.length : Int) := by
        constructor
        · exact Int.not_lt.1 (fun e => hc (.inr (.inl e)))
        · exact Int.not_lt.1 (fun e => hc (.inr (.inr e)))
      obtain ⟨b1, b2, b3, b4⟩ := zxd hp E A hm hx
      have hE : (zW s m x).1.Epoch = s.Epoch := by rw [zqa]
      have he := A.ep
      have hl := (List.getElem?_eq_some_iff.1 hx).1
      refine ⟨⟨by show 0 ≤ (zW s m x).1.Epoch ∧ _; rw [hE]; omega, fun i y hy => ?_⟩, fun i y hy => ?_⟩
      · show (zW s m x).1.Acks.getD i 0 ≤ (zW s m x).1.Epoch ∧ (_ → (zW s m x).1.Acks.getD i 0 ≤ y.Want ∧ y.Want ≤ (zW s m x).1.Epoch) ∧ _
        rw [hE]
        have hy : (s.Ms.set (m - 1).toNat (zW s m x).2)[i]? = some y := hy
        by_cases hi : i = (m - 1).toNat
        · subst hi
          rw [List.getElem?_set_self hl] at hy
          injection hy with hy
          subst hy
          exact ⟨b1.2.1, b3, b4⟩
        · rw [List.getElem?_set_ne (fun e => hi e.symm)] at hy
          rw [b2 i hi]
          exact A.m i y hy
      · show s.Acks.getD i 0 ≤ (zW s m x).1.Acks.getD i 0 ∧ (zW s m x).1.Acks.getD i 0 ≤ (zW s m x).1.Epoch ∧ _
        rw [hE]
        have hy : (s.Ms.set (m - 1).toNat (zW s m x).2)[i]? = some y := hy
        by_cases hi : i = (m - 1).toNat
        · subst hi
          rw [List.getElem?_set_self hl] at hy
          injection hy with hy
          subst hy
          exact b1
        · rw [List.getElem?_set_ne (fun e => hi e.symm)] at hy
          show _ ∧ _ ∧ (s.Acks.getD i 0 < (zW s m x).1.Acks.getD i 0 → _)
          rw [b2 i hi]
          exact ⟨Int.le_refl _, (A.m i y hy).1, fun e => by omega⟩
theorem zx6 (p : zd) : AI 0 (vE p) := by
  refine ⟨⟨Int.le_refl _, Int.le_refl _⟩, fun i x hx => ?_⟩
  have e : (vE p).Acks.getD i 0 = 0 := by
    show (List.replicate p.Mutators.toNat (0 : Int)).getD i 0 = 0
    rw [List.getD_eq_getElem?_getD, List.getElem?_replicate]; split <;> rfl
  have hx : (p.Regs.map vi)[i]? = some x := hx
  rw [List.getElem?_map] at hx
  cases hr : p.Regs[i]? with
  | none => rw [hr] at hx; cases hx
  | some r =>
    rw [hr] at hx
    injection hx with hx
    subst hx
    rw [e]
    refine ⟨Int.le_refl _, fun e => ?_, fun e => ?_⟩
    · simp [vi] at e
    · simp [vi] at e
end
end Go.Pe.G
namespace Go.Pe.G
open Go.Pe
noncomputable section
theorem zqZ {v : Int} (h : 0 ≤ v ∧ v < 10) : zqG v = some (⟨#[UInt8.ofNat (48 + v.toNat)]⟩, ()) := by
  have e : (decide (0 ≤ v) && decide (v < 100)) = true := by simp; omega
  rw [zvP]; unfold zng
  rw [e, cond_true, Go.Lib.decDigits, dif_pos (by omega)]
theorem join_one (x : ByteArray) (hx : x.data.toList.length < 1000) (sep : ByteArray) : ztx [x] sep = some (x, ()) := by
  rw [zvY]; unfold zn1
  simp only [List.map_cons, List.map_nil, Go.Lib.join_one, List.length_cons, List.length_nil]
  have e : (decide (0 + 1 ≤ 140737488355328) && decide (x.data.toList.length ≤ 140737488355328)) = true := by simp; simp at hx; omega
  rw [e, cond_true]
def zs4 (a : ByteArray) (o : List Int) : ByteArray := a ++ (ByteArray.mk #[124] ++ ⟨#[UInt8.ofNat (48 + (o.getD 0 0).toNat)]⟩)
theorem zsb {A B D : Type} {f : A → Option (yW A B D)} {x y : A} {b : B} (h1 : f x = some (.again y)) (h : f y = some (.brk b)) : ym f x = some (.brk b) := by
  rw [VQ]
  show uE f (18446744073709551614 + 1 + 1) x = _
  rw [uE, h1, Option.bind_some]
  dsimp only
  rw [uE, h]; rfl
theorem zp4 (objs : List (List Int)) (hv : ∀ o ∈ objs, ∃ v : Int, o = [v] ∧ 0 ≤ v ∧ v < 10) (hl : objs.length < 1000) : ∀ (k i : Nat) (a : ByteArray), objs.length - i = k → i ≤ objs.length → a.size + 2 * k ≤ 4000 → ∀ m, k < m →
    uE zb5 m (a, objs, (objs.length : Int), (i : Int), ()) = some (.brk ((objs.drop i).foldl zs4 a, ()))
  | 0, i, a, hk, hi, ha, m + 1, hm => by
    rw [uE, zeg, zn, if_neg (by omega), List.drop_eq_nil_of_le (by omega)]; rfl
  | k + 1, i, a, hk, hi, ha, m + 1, hm => by
    have hx := List.getElem?_eq_getElem (show i < objs.length by omega)
    obtain ⟨v, hvo, h0, h9⟩ := hv _ (List.getElem_mem (show i < objs.length by omega))
    rw [uE, zeg, zn, if_pos (by omega), wt hx, Option.bind_some, hvo]
    rw [zsb (f := zcg) (y := (a, objs, (objs.length : Int), (i : Int), [v], (([v] : List Int).length : Int), 1, [⟨#[UInt8.ofNat (48 + v.toNat)]⟩], ()))
      (b := (a, objs, (objs.length : Int), (i : Int), [⟨#[UInt8.ofNat (48 + v.toNat)]⟩], ()))
      (by rw [zek, zn, if_pos (by simp), vK (by decide)]
          simp only [Int.toNat_zero, List.getElem?_cons_zero, Option.bind_some, zqZ ⟨h0, h9⟩, List.nil_append]
          rw [xT (by simp), Option.bind_some, yp (by decide) (by decide)]; rfl)
      (by rw [zek, zn, if_neg (by simp)]), Option.bind_some]
    dsimp only
    rw [join_one _ (by simp), Option.bind_some]
    dsimp only
    have s1 : (ByteArray.mk #[124] ++ ⟨#[UInt8.ofNat (48 + v.toNat)]⟩ : ByteArray).size = 2 := by rw [ByteArray.size_append]; rfl
    have s0 : (ByteArray.mk #[124]).size + (⟨#[UInt8.ofNat (48 + v.toNat)]⟩ : ByteArray).size = 2 := rfl
    have s2 : (a ++ (ByteArray.mk #[124] ++ ⟨#[UInt8.ofNat (48 + v.toNat)]⟩) : ByteArray).size = a.size + 2 := by rw [ByteArray.size_append, s1]
    rw [zn, if_pos (by rw [s0]; omega), zn, if_pos (by rw [s1]; omega), xd (by omega), Option.bind_some]
    dsimp only
    rw [List.drop_eq_getElem_cons (show i < objs.length by omega), List.foldl_cons]
    rw [zp4 objs hv hl k (i + 1) _ (by omega) (by omega) (by rw [s2]; omega) m (by omega), hvo]
    rfl
def ztd (h : zu) : Bool := decide (h.Slots = 1) && decide (h.Objs.length < 10) && h.Objs.all fun o => match o with
  | [v] => decide (0 ≤ v) && decide (v ≤ (h.Objs.length : Int))
  | _ => false
theorem zkE {h : zu} (hh : ztd h = true) : UV h = some (h.Objs.foldl zs4 (ByteArray.mk #[49]), ()) := by
  simp only [ztd, Bool.and_eq_true, decide_eq_true_eq, List.all_eq_true] at hh
  obtain ⟨⟨h1, h2⟩, h3⟩ := hh
  have h4 : ∀ o ∈ h.Objs, ∃ v : Int, o = [v] ∧ 0 ≤ v ∧ v ≤ (h.Objs.length : Int) := fun o ho => by
    have := h3 o ho
    match o, this with
    | [v], this => simp at this; exact ⟨v, rfl, this⟩
  rw [zpl, zjO (by omega) (by omega) (fun o ho => by
    obtain ⟨v, rfl, hv⟩ := h4 o ho
    exact ⟨by rw [h1]; rfl, fun u hu => by simp at hu; subst hu; exact hv⟩), Option.bind_some]
  dsimp only
  rw [Bool.not_true, cond_false, h1, zqZ (by decide), Option.bind_some]
  dsimp only
  have e := zp4 h.Objs (fun o ho => by obtain ⟨v, a, b⟩ := h4 o ho; exact ⟨v, a, by omega⟩) (by omega) h.Objs.length 0 (ByteArray.mk #[49]) (by omega) (by omega) (by show 1 + _ ≤ _; omega) YC (by unfold YC; omega)
  rw [VQ]
  refine (congrArg (fun o => Option.bind o _) e).trans rfl
end
end Go.Pe.G
namespace Go.Pe.G
open Go.Pe
noncomputable section
theorem zpN {α B C : Type} {f : Int × Int × List α × Unit → Option (yW (Int × Int × List α × Unit) B C)} {l : List α} {b : B} (hl : l.length < 1000000)
    (h1 : ∀ (i : Nat) (x : α), l[i]? = some x → f ((l.length : Int), (i : Int), l, ()) = some (.again ((l.length : Int), ((i + 1 : Nat) : Int), l, ())))
    (h2 : f ((l.length : Int), (l.length : Int), l, ()) = some (.brk b)) : ym f ((l.length : Int), 0, l, ()) = some (.brk b) := by
  refine (uf (f := f) (fun a => ∃ i : Nat, a = ((l.length : Int), (i : Int), l, ()) ∧ i ≤ l.length) (fun a => l.length - a.2.1.toNat) (fun o => o = .brk b) ?_ ((l.length : Int), 0, l, ()) ⟨0, rfl, by omega⟩ (wo (by dsimp only; omega))).elim fun o h => ?_
  rotate_left
  · rw [h.1, h.2]
  · rintro _ ⟨i, rfl, hi⟩
    rcases Nat.lt_or_ge i l.length with hlt | hge
    · refine ⟨_, h1 i _ (List.getElem?_eq_getElem hlt), ⟨i + 1, rfl, hlt⟩, ?_⟩
      show l.length - ((i + 1 : Nat) : Int).toNat < l.length - (i : Int).toNat
      omega
    · have : i = l.length := by omega
      subst this
      exact ⟨_, h2, rfl⟩
theorem zjh {α : Type} {l : List α} {i : Nat} {x : α} (h : l[i]? = some x) : l.set i x = l := by
  obtain ⟨hlt, rfl⟩ := List.getElem?_eq_some_iff.1 h
  simp
theorem zu9 {m : List Int} (h : m.length < 4294967296) : ZD m = some (m, ()) := by
  rw [zbr, List.nil_append, xT h, Option.bind_some]
  cases m with
  | nil => simp [zds]
  | cons a l => simp
theorem zrA {l : List zi} (hl : l.length < 1000000) (h : ∀ x ∈ l, x.Batch.length < 1000000) : wB l = some (l, ()) := by
  have key : ym yS ((l.length : Int), 0, l, ()) = some (.brk (l, ())) := by
    refine zpN hl (fun i x hx => ?_) (by rw [vw, zn, if_neg (by omega)])
    have hlt := wU hx
    have e : y0 l (i : Int) = some i := by rw [vY (by omega) (by omega)]; simp
    rw [vw, zn, if_pos hlt, e]
    simp only [Option.bind_some]
    rw [hx, Option.bind_some, zly, ub (by have := h x (List.mem_of_getElem? hx); omega), Option.bind_some, Option.bind_some, xd (by omega)]
    simp only [zjh hx]
  have hc : Za (l.length : Int) = some l.length := by rw [zab (by omega) (by omega)]; simp
  rw [XU]
  simp only [decide_true, cond_true, hc, Option.bind_some, List.length_replicate]
  cases l with
  | nil => simp only [List.isEmpty_nil, cond_true]; exact congrArg (fun o => Option.bind o _) key
  | cons a r => simp only [List.isEmpty_cons, cond_false]; rw [key]; rfl
theorem zqo {l : List za} (hl : l.length < 1000000) (h : ∀ x ∈ l, x.Regs.length < 1000000 ∧ x.Buf.length < 1000000 ∧ x.Batch.length < 1000000) : wq l = some (l, ()) := by
  have key : ym yP ((l.length : Int), 0, l, ()) = some (.brk (l, ())) := by
    refine zpN hl (fun i x hx => ?_) (by rw [vo, zn, if_neg (by omega)])
    have hlt := wU hx
    have e : y0 l (i : Int) = some i := by rw [vY (by omega) (by omega)]; simp
    obtain ⟨h1, h2, h3⟩ := h x (List.mem_of_getElem? hx)
    rw [vo, zn, if_pos hlt, e]
    simp only [Option.bind_some]
    rw [hx, Option.bind_some, zlD, ub (by omega), Option.bind_some, ub (by omega), Option.bind_some, ub (by omega), Option.bind_some, Option.bind_some, xd (by omega)]
    simp only [zjh hx]
  have hc : Za (l.length : Int) = some l.length := by rw [zab (by omega) (by omega)]; simp
  rw [XB]
  simp only [decide_true, cond_true, hc, Option.bind_some, List.length_replicate]
  cases l with
  | nil => simp only [List.isEmpty_nil, cond_true]; exact congrArg (fun o => Option.bind o _) key
  | cons a r => simp only [List.isEmpty_cons, cond_false]; rw [key]; rfl
theorem ztS {s : zc} (h : Zp s) : zgl s = some (s, ()) := by
  rw [zox, zks h.objs h.obj, Option.bind_some, zki (by have := h.m; omega), Option.bind_some, zks h.bins h.bin, Option.bind_some, ub (by have := h.acks; omega), Option.bind_some, zu9 (by have := h.bal; omega), Option.bind_some, zrA h.ws h.w, Option.bind_some, zqo h.ms h.mu]
  rfl
end
end Go.Pe.G
namespace Go.Pe.G
open Go.Pe
noncomputable section
namespace B16
def VU (n : Nat) (s : zc) : zc := goF (fun _ s => zH s 1) 0 n s
theorem zac {p : zd} {nb : Nat} (h : z3 p) {s : zc} (E : EOk p nb s) {n : Nat} (hn : n < 1000000) : yj s 1 (n : Int) = some (VU n s, ()) := by
  have e := zwz (f := uv) (fun i s => (1, (n : Int), i, s, 0, 0, 0, 0, 0, 0, 0, 0, 0, 0#64, 0, zq.mk 0#64 0#64, 0, 0, false, false, 0, 0, 0, 0, zp.mk 0 0, ([] : List (List Int)), ([] : List (List Int)), ([] : List (List zh)), ([] : List zj), ([] : List (List Int)), ([] : List (BitVec 64)), ([] : List (List Int)), ([] : List Int), ([] : List Int), ([] : List zi), ([] : List za), ())) (fun s => (s, 0, 0, 0, 0, 0, 0, 0, 0, 0, 0#64, 0, zq.mk 0#64 0#64, 0, 0, false, false, 0, 0, 0, 0, zp.mk 0 0, ([] : List (List Int)), ([] : List (List Int)), ([] : List (List zh)), ([] : List zj), ([] : List (List Int)), ([] : List (BitVec 64)), ([] : List (List Int)), ([] : List Int), ([] : List Int), ([] : List zi), ([] : List za), ())) n hn (fun _ s => zH s 1) (EOk p nb) (fun _ s E => zhc h E 1)
    (fun i s hi E => by
      show uv (1, (n : Int), (i : Int), s, 0, 0, 0, 0, 0, 0, 0, 0, 0, 0#64, 0, zq.mk 0#64 0#64, 0, 0, false, false, 0, 0, 0, 0, zp.mk 0 0, ([] : List (List Int)), ([] : List (List Int)), ([] : List (List zh)), ([] : List zj), ([] : List (List Int)), ([] : List (BitVec 64)), ([] : List (List Int)), ([] : List Int), ([] : List Int), ([] : List zi), ([] : List za), ()) = _
      rw [VS, zn, if_pos (by omega), zbx h E, Option.bind_some, xd (by omega)])
    (fun s E => by
      show uv (1, (n : Int), (n : Int), s, 0, 0, 0, 0, 0, 0, 0, 0, 0, 0#64, 0, zq.mk 0#64 0#64, 0, 0, false, false, 0, 0, 0, 0, zp.mk 0 0, ([] : List (List Int)), ([] : List (List Int)), ([] : List (List zh)), ([] : List zj), ([] : List (List Int)), ([] : List (BitVec 64)), ([] : List (List Int)), ([] : List Int), ([] : List Int), ([] : List zi), ([] : List za), ()) = _
      rw [VS, zn, if_neg (by omega)]) E
  rw [zik]
  exact congrArg (fun o => Option.bind o _) e
theorem zw8 {p : zd} {nb : Nat} (h : z3 p) {s : zc} (E : EOk p nb s) (n : Nat) : EOk p nb (VU n s) := zqd (Inv := EOk p nb) (g := fun _ s => zH s 1) (fun _ s E => zhc h E 1) n 0 s E
def zi1 (l : List zh) : zd := ⟨1, 1, 2, 1, 1, 4, 2, 2, ⟨1, [[2], [0], [0]]⟩, 1#64, [[1, 0]], [l], []⟩
theorem zrK (l : List zh) : Xs [l] = some (zi1 l, ()) := by
  rw [ziJ, zsb (by rw [VP, zn, if_pos (by simp), xT (by simp), Option.bind_some, vK (by decide)]; simp only [Int.toNat_zero, List.getElem?_cons_zero, Option.bind_some]; rw [xT (by simp), Option.bind_some, yp (by decide) (by decide)]) (by rw [VP, zn, if_neg (by simp)])]; rfl
theorem zpK {l : List zh} (hl : (l.length : Int) ≤ 7) (ho : ∀ o ∈ l, zaP o 2 1) : z3 (zi1 l) := by
  constructor
  case objs => intro o ho; simp [zi1] at ho ⊢; rcases ho with rfl | rfl | rfl <;> simp
  case roots => exact ⟨1, by decide, by simp [zi1], by show (1#64 : BitVec 64) = bit 1; decide⟩
  case reg => intro r hr; simp [zi1] at hr ⊢; subst hr; simp
  case prog =>
    intro k r ops hr hp
    cases k with
    | zero => injection hr with hr; injection hp with hp; subst hr; subst hp; exact ⟨hl, ho⟩
    | succ k => cases hp
  all_goals first | rfl | (simp [zi1]; done) | (simp [zi1]; omega)
abbrev pA : zd := zi1 [⟨1, 1, 0, 0⟩, ⟨5, 1, 0, 0⟩, ⟨2, 1, 0, 0⟩]
abbrev pB : zd := zi1 [⟨3, 1, 0, 0⟩, ⟨3, 1, 0, 0⟩]
theorem zaD : z3 pA := zpK (by decide) (fun o ho => by simp at ho; rcases ho with rfl | rfl | rfl <;> (unfold zaP; decide))
theorem zh8 : z3 pB := zpK (by decide) (fun o ho => by simp at ho; subst ho; unfold zaP; decide)
theorem zuX {s : zc} (x : za) (hx : s.Ms = [x]) (hp : x.PC = 0) (ha : ¬ s.Acks.getD 0 0 < s.Epoch) (hi : ((wa s.P 1).length : Int) ≤ x.IP) : zH s 1 = s := by
  unfold zH
  rw [hx]
  split
  · rfl
  show { (zW s 1 x).1 with Ms := [(zW s 1 x).2] } = s
  have e : zW s 1 x = (s, x) := by
    unfold zW
    rw [if_pos hp]
    unfold mu0 zdi
    rw [if_neg (show ¬ s.Acks.getD (1 - 1 : Int).toNat 0 < s.Epoch from ha), if_pos hi]
  rw [e, ← hx]
theorem zwT {l : List za} (h : l.length = 1) : ∃ x, l = [x] := List.length_eq_one_iff.1 h
theorem zqy : Wy = some (true, ()) := by
  have E0 := zsg zaD
  have E1 := zsg zh8
  have a2 : yj (vE pA) 1 2 = some (VU 2 (vE pA), ()) := zac zaD E0 (n := 2) (by decide)
  have a7 : yj (vE pA) 1 7 = some (VU 7 (vE pA), ()) := zac zaD E0 (n := 7) (by decide)
  have a8 : yj (vE pA) 1 8 = some (VU 8 (vE pA), ()) := zac zaD E0 (n := 8) (by decide)
  have a99 : yj (vE pA) 1 99 = some (VU 99 (vE pA), ()) := zac zaD E0 (n := 99) (by decide)
  have b2 : yj (vE pB) 1 2 = some (VU 2 (vE pB), ()) := zac zh8 E1 (n := 2) (by decide)
  have b5 : yj (vE pB) 1 5 = some (VU 5 (vE pB), ()) := zac zh8 E1 (n := 5) (by decide)
  have b60 : yj (vE pB) 1 60 = some (VU 60 (vE pB), ()) := zac zh8 E1 (n := 60) (by decide)
  have h99 : zH (VU 99 (vE pA)) 1 = VU 99 (vE pA) := by
    obtain ⟨x, hx⟩ := zwT (l := (VU 99 (vE pA)).Ms) (by decide +kernel)
    have g : (VU 99 (vE pA)).Ms.all (fun x => decide (x.PC = 0) && decide (((wa (VU 99 (vE pA)).P 1).length : Int) ≤ x.IP)) = true := by decide +kernel
    rw [hx] at g
    simp only [List.all_cons, List.all_nil, Bool.and_true, Bool.and_eq_true, decide_eq_true_eq] at g
    exact zuX x hx g.1 (by decide +kernel) g.2
  have E99 := zw8 zaD E0 99
  have s99 := zbx zaD E99 1
  have t7 := zkE (h := (VU 7 (vE pA)).H) (by decide +kernel)
  have t8 := zkE (h := (VU 8 (vE pA)).H) (by decide +kernel)
  have u2 := zkE (h := (VU 2 (vE pB)).H) (by decide +kernel)
  rw [zgh, zrK]
  simp only [Option.bind_some, zrK, zkB zaD, zkB zh8, a2, a7, a8, a99, b2, b5, b60, t7, t8, u2, s99, h99, zem E99.small, zj5, xx]
  decide +kernel
def kOf (s : zc) (b : BitVec 8) : Int := 1 + (b.toNat : Int).tmod (s.Ms.length : Int)
theorem zuR {s : zc} (h : s.Ms.length ≠ 0) (b : BitVec 8) : 1 ≤ kOf s b ∧ kOf s b ≤ (s.Ms.length : Int) := by
  have := wR (b := (b.toNat : Int)) (k := (s.Ms.length : Int)) (by omega) (by omega)
  unfold kOf
  omega
theorem ztf {p : zd} {nb : Nat} {s : zc} (h : z3 p) (E : EOk p nb s) (hm : s.Ms.length ≠ 0) (b : BitVec 8) : X7 s b = some (zH s (kOf s b), kOf s b, ()) := by
  have hk := zuR hm b
  have hml := E.ml
  have hmt := h.mt
  have e : w64 (1 + (b.toNat : Int).tmod (s.Ms.length : Int)) = kOf s b := by
    unfold kOf at hk ⊢
    exact yp (by omega) (by omega)
  rw [zi5, zn, if_neg (by omega), e, zbx h E, Option.bind_some]
theorem zuG (s : zc) (m : Int) : (zH s m).Ms.length = s.Ms.length := by
  unfold zH
  split
  · rfl
  split
  · simp
  · rfl
theorem zw4 {s : zc} (h : s.Ms.length = 0) (m : Int) : zH s m = s := by
  unfold zH
  rw [if_pos]
  rw [h]
  by_cases c : m < 1
  · exact .inr (.inl c)
  · exact .inr (.inr (by omega))
theorem ztv {s : zc} {k : Int} (hk : 1 ≤ k ∧ k ≤ (s.Ms.length : Int)) {x : za} (hx : s.Ms[(k - 1).toNat]? = some x) : (zH s k).Ms.set (k - 1).toNat x = s.Ms := by
  unfold zH
  split
  · exact zjh hx
  rw [hx]
  show (s.Ms.set (k - 1).toNat _).set (k - 1).toNat x = s.Ms
  rw [List.set_set]
  exact zjh hx
theorem mutatorApart_plain (l ord : List (BitVec 8)) (b : BitVec 8) : w8 l ord b = some (true, ()) := by
  obtain ⟨p, ep, h⟩ := zwJ l
  have E0 := zsg h
  rw [zb6, zqy]
  simp only [Option.bind_some, Bool.not_true, cond_false, cond_true, ep, zkB h]
  rw [zn]
  by_cases hm : ((vE p).Ms.length : Int) = 0
  · rw [if_pos hm, zbx h E0, Option.bind_some]
    dsimp only
    rw [zw4 (by omega), zem E0.small]
    rfl
  rw [if_neg hm]
  obtain ⟨o, e, s, rfl, E, hs⟩ := uf (f := Zl) (fun a => ∃ (i : Nat) (s : zc), i ≤ 250 ∧ a = (ord, b, true, (i : Int), s, ()) ∧ EOk p (xJ p + 1) s ∧ s.Ms.length ≠ 0) (fun a => 250 - (Int.toNat a.2.2.2.1))
    (fun o => ∃ s : zc, o = .brk (b, true, s, ()) ∧ EOk p (xJ p + 1) s ∧ s.Ms.length ≠ 0) (by
    rintro _ ⟨i, s, hi, rfl, E, hs⟩
    rw [zaM, zn, zn]
    by_cases c1 : (i : Int) < (ord.length : Int)
    · rw [if_pos c1]
      by_cases c2 : (i : Int) < 250
      · have hx := List.getElem?_eq_getElem (show i < ord.length by omega)
        rw [if_pos c2, wt hx, Option.bind_some, ztf h E hs, Option.bind_some, yp (a := (i : Int) + 1) (by omega) (by omega)]
        refine ⟨_, rfl, ⟨i + 1, zH s (kOf s (ord[i]'(by omega))), by omega, rfl, zhc h E _, by rw [zuG]; exact hs⟩, ?_⟩
        show 250 - ((i : Int) + 1).toNat < 250 - (i : Int).toNat
        omega
      · rw [if_neg c2]; exact ⟨_, rfl, s, rfl, E, hs⟩
    · rw [if_neg c1]; exact ⟨_, rfl, s, rfl, E, hs⟩) (ord, b, true, 0, vE p, ()) ⟨0, vE p, by omega, rfl, E0, by omega⟩ (by show 250 - 0 < 18446744073709551616; decide)
  refine (congrArg (fun o => Option.bind o _) e).trans ?_
  have hk := zuR hs b
  have hml := E.ml
  have hmt := h.mt
  have hx := List.getElem?_eq_getElem (show (kOf s b - 1).toNat < s.Ms.length by omega)
  have f1 := zlB s (kOf s b)
  have f2 := ztv hk hx
  have hl := zuG s (kOf s b)
  have hw : (zH s (kOf s b)).Ws = s.Ws := by rw [f1]
  have w1 : w64 (kOf s b - 1) = kOf s b - 1 := yp (by omega) (by omega)
  simp only [Option.bind_some, ztS E.small, ztf h E hs, zem E.small, Bool.not_true, cond_false, cond_true, hl, hw, w1, yg, if_true]
  rw [xT (by omega), Option.bind_some, vK (by omega), hx, Option.bind_some, vY (by omega) (by omega), Option.bind_some, f2]
  have f3 : ({ s with P := (zH s (kOf s b)).P, Epoch := (zH s (kOf s b)).Epoch, Done := (zH s (kOf s b)).Done, Restarts := (zH s (kOf s b)).Restarts, Ms := s.Ms, D := (zH s (kOf s b)).D } : zc) = s := by
    rw [f1]
  rw [f3, zem E.small]
  rfl
end B16
end
end Go.Pe.G
