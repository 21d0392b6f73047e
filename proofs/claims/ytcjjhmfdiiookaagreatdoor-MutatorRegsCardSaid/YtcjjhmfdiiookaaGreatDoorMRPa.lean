/- Own work of this seat: PA, PB, PMk, PMade16, PRight, PNew, PInv, PNewOk, PSmall, PSame, PGo, PDq, PWork, PMut, PEng, PLowEq, PMutEq, PFrame, PText, PBits, PCnt, PReach, PLiveP, PRegs. -/
import Derived.Test.YtcjjhmfdiiookaaGreatDoorMRGb
set_option linter.unusedVariables false
set_option linter.unusedSimpArgs false
set_option linter.unnecessarySimpa false
set_option linter.unusedSectionVars false
set_option linter.deprecated false
set_option maxRecDepth 20000
namespace Go.Pe.G
open Go.Pe
noncomputable section
theorem ue {A B D : Type} {f : A → Option (yO A B D)} (Inv : A → Prop) (ms : A → Nat) (Q : yO Unit B D → Prop)
    (h : ∀ a, Inv a → ∃ o, f a = some o ∧ match o with
      | .again a' => Inv a' ∧ ms a' < ms a
      | .brk b => Q (.brk b)
      | .ret c => Q (.ret c)) : ∀ a, Inv a → ms a < uJ → ∃ o, yj f a = some o ∧ Q o := by
  have key : ∀ (n : Nat) a, Inv a → ms a < n → ∃ o, xS f n a = some o ∧ Q o := by
    intro n
    induction n with
    | zero => intro a _ h; omega
    | succ n ih =>
      intro a ha hm
      obtain ⟨o, ho, hq⟩ := h a ha
      simp only [xS, ho, Option.bind_some]
      cases o with
      | again a' => exact ih a' hq.1 (by have := hq.2; omega)
      | brk b => exact ⟨_, rfl, hq⟩
      | ret c => exact ⟨_, rfl, hq⟩
  intro a ha hm
  rw [W8]
  exact key uJ a ha hm
theorem wH {n : Nat} (h : n < 18446744073709551616) : n < uJ := h
theorem z3 {a : Int} (h : -9223372036854775808 ≤ a) (h2 : a < 9223372036854775808) : w64 a = a := by
  rw [zjg]; omega
def wc (n : Int) : Int := (n + 9223372036854775808) % 18446744073709551616 - 9223372036854775808
theorem xu : w64 = wc := funext zjg
theorem Yc {a : Int} (h : -9223372036854775808 ≤ a) (h2 : a < 9223372036854775808) : wc a = a := by unfold wc; omega
theorem zyk (a : Int) (h : -9223372036854775808 ≤ a) (h2 : a < 9223372036854775808) : w64 (w64 (a + 1) - 1) = a := by
  simp only [zjg]; omega
theorem zo {α : Type} (p : Prop) [Decidable p] (a b : α) : (bif decide p then a else b) = if p then a else b := by
  by_cases h : p <;> simp [h]
theorem yi {α : Type} (p : Prop) [Decidable p] (a b : α) : (bif !(decide p) then a else b) = if p then b else a := by
  by_cases h : p <;> simp [h]
theorem we {α : Type} {l : List α} (h : l.length < 4294967296) : wq l = some l := by
  rw [zrm]; simp [h]
theorem vH {α : Type} {l : List α} {i : Int} (h : 0 ≤ i) : idx l i = l[i.toNat]? := by
  unfold idx; simp [h]
theorem uh {α : Type} {l : List α} {i : Int} (h : 0 ≤ i) (h2 : i < l.length) : xE l i = some i.toNat := by
  unfold xE; simp [h, h2]
def bit (o : Int) : BitVec 64 := if 1 ≤ o ∧ o ≤ 64 then 1#64 <<< (o - 1).toNat else 0#64
theorem ztI (a : Int) : zhE a = some (bit a, ()) := by
  rw [zrW]
  simp only [zo]
  unfold bit
  by_cases h1 : a < 1
  · rw [if_pos h1, if_neg (by omega)]
  · rw [if_neg h1]
    by_cases h2 : 64 < a
    · rw [if_pos h2, if_neg (by omega)]
    · rw [if_neg h2, z3 (a := a - 1) (by omega) (by omega), if_neg (show ¬ a - 1 < 0 by omega), if_pos (show 1 ≤ a ∧ a ≤ 64 by omega), Nat.min_eq_left (by omega)]
theorem zje (s : BitVec 64) (o : Int) : Uf s o = some (!(decide (s &&& bit o = 0#64)), ()) := by
  rw [zsT, ztI]; rfl
theorem ziI (s : BitVec 64) (o : Int) : Uh s o = some (s ||| bit o, ()) := by
  rw [zsH, ztI]; rfl
def zeL (t : zt) (o : Int) : zt × Bool :=
  if t.Marks ||| bit o = t.Marks then (t, false) else if t.Black &&& bit o = 0#64 then ({ t with Marks := t.Marks ||| bit o }, true) else (t, false)
theorem zoo (t : zt) (o : Int) : zbc t o = some ((zeL t o).1, (zeL t o).2, ()) := by
  rw [zo7, ziI, Option.bind_some, zo]
  unfold zeL
  by_cases h1 : t.Marks ||| bit o = t.Marks
  · rw [if_pos h1, if_pos h1]
  · rw [if_neg h1, if_neg h1, zje, Option.bind_some, yi]
    by_cases h2 : t.Black &&& bit o = 0#64
    · rw [if_pos h2, if_pos h2]
    · rw [if_neg h2, if_neg h2]
theorem zqF {m : List (BitVec 64)} (h : m.length < 4294967296) : xh m = some (m, ()) := by
  rw [zaB, List.nil_append, we h, Option.bind_some]
  cases m with
  | nil => simp [zhs]
  | cons a l => simp
theorem zj7 {m : List (List Int)} (h : m.length < 4294967296) : w9 m = some (m, ()) := by
  rw [zcg, List.nil_append, we h, Option.bind_some]
  cases m with
  | nil => simp [zhs]
  | cons a l => simp
def ld (m : List (BitVec 64)) (a : Int) : BitVec 64 := if 0 ≤ a then m.getD a.toNat 0#64 else 0#64
def st (m : List (BitVec 64)) (a : Int) (v : BitVec 64) : List (BitVec 64) := if 0 ≤ a then m.set a.toNat v else m
def sw (m : List (BitVec 64)) (at_ : Int) (a b : BitVec 64) : List (BitVec 64) × Bool :=
  if 0 ≤ at_ ∧ at_ < m.length ∧ ld m at_ = a then (st m at_ b, true) else (m, false)
theorem zsp {m : List (BitVec 64)} {a : Int} (h : 0 ≤ a) (h2 : a < m.length) : m[a.toNat]? = some (ld m a) := by
  unfold ld
  rw [if_pos h, List.getD_eq_getElem?_getD, List.getElem?_eq_getElem (by omega)]; rfl
theorem ztH {m : List (BitVec 64)} {a : Int} : st m a (ld m a) = m := by
  unfold st ld
  by_cases h : 0 ≤ a
  · rw [if_pos h, if_pos h]
    by_cases h2 : a.toNat < m.length
    · rw [List.getD_eq_getElem?_getD, List.getElem?_eq_getElem h2]; simp
    · rw [List.set_eq_of_length_le (by omega)]
  · rw [if_neg h]
theorem zvE {m : List (BitVec 64)} {a : Int} (h : a < 0 ∨ m.length ≤ a) : ld m a = 0#64 := by
  unfold ld
  rcases h with h | h
  · rw [if_neg (by omega)]
  · split
    · rw [List.getD_eq_getElem?_getD, List.getElem?_eq_none (by omega)]; rfl
    · rfl
theorem zu6 {m : List (BitVec 64)} {a : Int} {v : BitVec 64} (h : a < 0 ∨ m.length ≤ a) : st m a v = m := by
  unfold st
  rcases h with h | h
  · rw [if_neg (by omega)]
  · split
    · rw [List.set_eq_of_length_le (by omega)]
    · rfl
theorem ztw (m : List (BitVec 64)) (a : Int) (x y : BitVec 64) : ∃ b, YQ m ⟨1, a, x, y⟩ = some (m, ld m a, b, ()) := by
  rw [zix]
  simp only [zo, if_true]
  by_cases h1 : a < 0
  · rw [if_pos h1, zvE (.inl h1)]; exact ⟨_, rfl⟩
  · rw [if_neg h1]
    by_cases h2 : (m.length : Int) ≤ a
    · rw [if_pos h2, zvE (.inr h2)]; exact ⟨_, rfl⟩
    · rw [if_neg h2, vH (by omega), zsp (by omega) (by omega), Option.bind_some, zq6, Option.bind_some]
      simp
theorem zrv {m : List (BitVec 64)} (hm : m.length < 4294967296) (a : Int) (x y : BitVec 64) : ∃ v b, YQ m ⟨2, a, x, y⟩ = some (st m a x, v, b, ()) := by
  rw [zix]
  simp only [zo, if_true, if_neg (show ¬ (2 : Int) = 1 by omega)]
  by_cases h1 : a < 0
  · rw [if_pos h1, zu6 (.inl h1)]; exact ⟨_, _, rfl⟩
  · rw [if_neg h1]
    by_cases h2 : (m.length : Int) ≤ a
    · rw [if_pos h2, zu6 (.inr h2)]; exact ⟨_, _, rfl⟩
    · rw [if_neg h2, vH (by omega), zsp (by omega) (by omega), Option.bind_some, zq1, Option.bind_some, cond_true, yi]
      by_cases h3 : ld m a = x
      · rw [if_pos h3]
        subst h3
        rw [ztH]; exact ⟨_, _, rfl⟩
      · rw [if_neg h3, zqF hm, Option.bind_some, uh (l := m) (by omega) (by omega), Option.bind_some]
        unfold st
        rw [if_pos (by omega)]
        exact ⟨_, _, rfl⟩
theorem zpJ {m : List (BitVec 64)} (hm : m.length < 4294967296) (a : Int) (x y : BitVec 64) : ∃ v, YQ m ⟨3, a, x, y⟩ = some ((sw m a x y).1, v, (sw m a x y).2, ()) := by
  rw [zix]
  simp only [zo, if_true, if_neg (show ¬ (3 : Int) = 1 by omega), if_neg (show ¬ (3 : Int) = 2 by omega)]
  by_cases h1 : a < 0
  · rw [if_pos h1]
    have : sw m a x y = (m, false) := by unfold sw; rw [if_neg (by omega)]
    rw [this]; exact ⟨_, rfl⟩
  · rw [if_neg h1]
    by_cases h2 : (m.length : Int) ≤ a
    · rw [if_pos h2]
      have : sw m a x y = (m, false) := by unfold sw; rw [if_neg (by omega)]
      rw [this]; exact ⟨_, rfl⟩
    · rw [if_neg h2, vH (by omega), zsp (by omega) (by omega), Option.bind_some, zqU, Option.bind_some]
      simp only [zo]
      by_cases h3 : ld m a = x
      · have : sw m a x y = (st m a y, true) := by unfold sw; rw [if_pos ⟨by omega, by omega, h3⟩]
        rw [if_pos h3, this, yi]
        by_cases h4 : ld m a = y
        · rw [if_pos h4]
          have : st m a y = m := by rw [← h4, ztH]
          rw [this]
          simp [h3]
        · rw [if_neg h4, zqF hm, Option.bind_some, uh (l := m) (by omega) (by omega), Option.bind_some]
          unfold st
          rw [if_pos (by omega)]
          simp [h3]
      · have : sw m a x y = (m, false) := by unfold sw; rw [if_neg (by rintro ⟨_, _, h⟩; exact h3 h)]
        rw [if_neg h3, this]
        simp [h3]
theorem zoS (m : List (BitVec 64)) (a : Int) : zbD m a = some (ld m a, ()) := by
  obtain ⟨b, h⟩ := ztw m a 0#64 0#64
  rw [zoN, h]; rfl
theorem zaa {m : List (BitVec 64)} (hm : m.length < 4294967296) (a : Int) (x : BitVec 64) : ZS m a x = some (st m a x, ()) := by
  obtain ⟨v, b, h⟩ := zrv hm a x 0#64
  rw [zm0, h]; rfl
theorem Xs (m : List (BitVec 64)) (a : Int) : uN m a = some (ld m a, ()) := by
  obtain ⟨b, h⟩ := ztw m a 0#64 0#64
  rw [zo6, h]; rfl
theorem U9 {m : List (BitVec 64)} (hm : m.length < 4294967296) (a : Int) (x : BitVec 64) : ZR m a x = some (st m a x, ()) := by
  obtain ⟨v, b, h⟩ := zrv hm a x 0#64
  rw [znn, h]; rfl
def yV (h : BitVec 64) : Int := (h &&& 4294967295#64).toInt
def WF (v : BitVec 64) (n : Int) : BitVec 64 := (v <<< 32) ||| (BitVec.ofInt 64 n &&& 4294967295#64)
theorem zfs (h : BitVec 64) : YG h = some (yV h, ()) := zoB h
theorem zfx (v : BitVec 64) (n : Int) : Wt v n = some (WF v n, ()) := zot v n
def zY (m : List (BitVec 64)) (c : zC) : List (BitVec 64) × zC :=
  if c.Out ≠ 0 ∨ (c.Kind ≠ 1 ∧ c.Kind ≠ 2) ∨ c.PC < 0 ∨ 3 ≤ c.PC then (m, c)
  else if c.PC = 0 then
    (m, if c.Kind = 2 ∧ yV (ld m c.Head) = 0 then { c with H := ld m c.Head, Out := 2, PC := 1 } else { c with H := ld m c.Head, PC := 1 })
  else if c.PC = 1 then
    if c.Kind = 2 then (m, { c with Y := (ld m (wc (c.Next + yV c.H))).toInt, PC := 2 })
    else (st m (wc (c.Next + c.X)) (BitVec.ofInt 64 (yV c.H)), { c with PC := 2 })
  else
    let r := sw m c.Head c.H (WF ((c.H >>> 32) + 1#64) (if c.Kind = 2 then c.Y else c.X))
    (r.1, if r.2 then (if c.Kind = 2 then { c with X := yV c.H, Out := 1, PC := 3 } else { c with Out := 1, PC := 3 }) else { c with PC := 0 })
theorem ze3 {m : List (BitVec 64)} (hm : m.length < 4294967296) (c : zC) : Wl m c = some ((zY m c).1, (zY m c).2, ()) := by
  have hsee : wS m c = some (m, (if c.Kind = 2 ∧ yV (ld m c.Head) = 0 then { c with H := ld m c.Head, Out := 2 } else { c with H := ld m c.Head }), ()) := by
    rw [ze2, zoS, Option.bind_some, zfs, Option.bind_some, zo, zo]
    by_cases h1 : c.Kind = 2
    · by_cases h2 : yV (ld m c.Head) = 0
      · rw [if_pos h1, if_pos h2, if_pos ⟨h1, h2⟩]
      · rw [if_pos h1, if_neg h2, if_neg (fun h => h2 h.2)]
    · rw [if_neg h1, if_neg (fun h => h1 h.1)]
  have hlink : Z8 m c = some (st m (wc (c.Next + c.X)) (BitVec.ofInt 64 (yV c.H)), ()) := by
    rw [zg8, xu, zfs, Option.bind_some, zaa hm]; rfl
  have hbeh : uw m c = some (m, { c with Y := (ld m (wc (c.Next + yV c.H))).toInt }, ()) := by
    rw [zcR, xu, zfs, Option.bind_some, zoS]; rfl
  have hswap : wD m c = some ((sw m c.Head c.H (WF ((c.H >>> 32) + 1#64) (if c.Kind = 2 then c.Y else c.X))).1,
      (if (sw m c.Head c.H (WF ((c.H >>> 32) + 1#64) (if c.Kind = 2 then c.Y else c.X))).2 then (if c.Kind = 2 then { c with X := yV c.H, Out := 1 } else { c with Out := 1 }) else { c with PC := -1 }), ()) := by
    rw [zd4, zo]
    by_cases h1 : c.Kind = 2
    · rw [if_pos h1, zfx, Option.bind_some]
      obtain ⟨v, hv⟩ := zpJ hm c.Head c.H (WF ((c.H >>> 32) + 1#64) c.Y)
      simp only [if_pos h1]
      rw [hv, Option.bind_some]
      cases hs : (sw m c.Head c.H (WF ((c.H >>> 32) + 1#64) c.Y)).2 with
      | true => simp [hs, h1, zfs]
      | false => simp [hs]
    · rw [if_neg h1, zfx, Option.bind_some]
      obtain ⟨v, hv⟩ := zpJ hm c.Head c.H (WF ((c.H >>> 32) + 1#64) c.X)
      simp only [if_neg h1]
      rw [hv, Option.bind_some]
      cases hs : (sw m c.Head c.H (WF ((c.H >>> 32) + 1#64) c.X)).2 with
      | true => simp [hs, h1]
      | false => simp [hs]
  rw [zoG, hsee, hlink, hbeh, hswap]
  simp only [zo, yi, Option.bind_some]
  unfold zY
  by_cases h0 : c.Out = 0
  · by_cases hp0 : c.PC < 0
    · have : (c.Out ≠ 0 ∨ (c.Kind ≠ 1 ∧ c.Kind ≠ 2) ∨ c.PC < 0 ∨ 3 ≤ c.PC) := .inr (.inr (.inl hp0))
      rw [if_pos this]
      simp [h0, hp0]
    · by_cases hp3 : 3 ≤ c.PC
      · have : (c.Out ≠ 0 ∨ (c.Kind ≠ 1 ∧ c.Kind ≠ 2) ∨ c.PC < 0 ∨ 3 ≤ c.PC) := .inr (.inr (.inr hp3))
        rw [if_pos this]
        simp [h0, hp3]
      · by_cases hk : c.Kind = 1 ∨ c.Kind = 2
        · have : ¬ (c.Out ≠ 0 ∨ (c.Kind ≠ 1 ∧ c.Kind ≠ 2) ∨ c.PC < 0 ∨ 3 ≤ c.PC) := by
            rintro (h | h | h | h)
            · exact h h0
            · omega
            · exact hp0 h
            · exact hp3 h
          rw [if_neg this]
          have hpc : c.PC = 0 ∨ c.PC = 1 ∨ c.PC = 2 := by omega
          have w1 : w64 1 = 1 := z3 (by omega) (by omega)
          have w2 : w64 2 = 2 := z3 (by omega) (by omega)
          have w3 : w64 3 = 3 := z3 (by omega) (by omega)
          have w4 : w64 0 = 0 := z3 (by omega) (by omega)
          rcases hk with hk | hk <;> rcases hpc with hpc | hpc | hpc <;> simp [h0, hk, hpc, w1, w2, w3, w4] <;> (try split) <;> simp [hpc, w1, w3, w4]
        · have : (c.Out ≠ 0 ∨ (c.Kind ≠ 1 ∧ c.Kind ≠ 2) ∨ c.PC < 0 ∨ 3 ≤ c.PC) := .inr (.inl (by omega))
          rw [if_pos this]
          have k1 : ¬ c.Kind = 1 := by omega
          have k2 : ¬ c.Kind = 2 := by omega
          simp [h0, k1, k2]
  · have : (c.Out ≠ 0 ∨ (c.Kind ≠ 1 ∧ c.Kind ≠ 2) ∨ c.PC < 0 ∨ 3 ≤ c.PC) := .inl h0
    rw [if_pos this]
    simp [h0]
end
end Go.Pe.G
namespace Go.Pe.G
open Go.Pe
noncomputable section
def Uw (d : zh) : BitVec 64 := BitVec.ofInt 64 (if d.Cap < 1 then 1 else d.Cap)
def zbe (d : zh) (i : BitVec 64) : Int := wc (wc (d.Base + 2) + (i % Uw d).toInt)
def Zf (m : List (BitVec 64)) (d : zh) : List (BitVec 64) × zh :=
  if d.Out ≠ 0 ∨ d.PC < 0 ∨ 4 ≤ d.PC then (m, d)
  else if d.PC = 0 then (m, { d with B := ld m (wc (d.Base + 1)), PC := 1 })
  else if d.PC = 1 then (m, if Uw d ≤ d.B - ld m d.Base then { d with T := ld m d.Base, Out := 3, PC := 2 } else { d with T := ld m d.Base, PC := 2 })
  else if d.PC = 2 then (st m (zbe d d.B) (BitVec.ofInt 64 d.X), { d with PC := 3 })
  else (st m (wc (d.Base + 1)) (d.B + 1#64), { d with Out := 1, PC := 4 })
theorem zsl : w64 0 = 0 ∧ w64 1 = 1 ∧ w64 2 = 2 ∧ w64 3 = 3 ∧ w64 4 = 4 := by
  refine ⟨?_, ?_, ?_, ?_, ?_⟩ <;> exact z3 (by omega) (by omega)
theorem zva {d : zh} (h : d.Cap < 1000) : Uw d ≠ 0#64 := by
  unfold Uw
  intro e
  have := congrArg BitVec.toNat e
  rw [BitVec.toNat_ofInt] at this
  split at this <;> simp at this <;> omega
theorem znH (d : zh) : Yn d = some (Uw d, ()) := by
  rw [zhb]; unfold Uw; rw [zo]
theorem zij {d : zh} (h : d.Cap < 1000) (i : BitVec 64) : ut i d = some (zbe d i, ()) := by
  rw [zfI, xu, znH, Option.bind_some, zo, if_neg (zva h)]; rfl
theorem zhR {m : List (BitVec 64)} (hm : m.length < 4294967296) {d : zh} (hk : d.Kind = 1) (hc : d.Cap < 1000) : zbZ m d = some ((Zf m d).1, (Zf m d).2, ()) := by
  obtain ⟨w0, w1, w2, w3, w4⟩ := zsl
  have h0 : wy m d = some (m, { d with B := ld m (wc (d.Base + 1)) }, ()) := by
    rw [Y9, xk, xu, Option.bind_some, Xs]; rfl
  have h1 : Xc m d = some (m, (if Uw d ≤ d.B - ld m d.Base then { d with T := ld m d.Base, Out := 3 } else { d with T := ld m d.Base }), ()) := by
    rw [zey, Zr, Option.bind_some, Xs, Option.bind_some, znH, Option.bind_some, zo]
    have e : Uw { d with T := ld m d.Base } = Uw d := rfl
    simp only [e]
    by_cases h : Uw d ≤ d.B - ld m d.Base
    · rw [if_pos h, if_pos h, wb]
      simp [hk]
    · rw [if_neg h, if_neg h]
  have h2 : VJ m d = some (st m (zbe d d.B) (BitVec.ofInt 64 d.X), ()) := by
    rw [zh9, zij hc, Option.bind_some, U9 hm]; rfl
  have h3 : ZV m d = some (st m (wc (d.Base + 1)) (d.B + 1#64), { d with Out := 1 }, ()) := by
    rw [zca, wb]
    simp only [decide_true, Bool.not_true, cond_false, Option.bind_some, xk, xu]
    rw [U9 hm]; rfl
  rw [zhD, h0, h1, h2, h3, zeG]
  simp only [hk, decide_true, cond_true, Option.bind_some, yi, zo]
  have key : ∀ (x : Option (List (BitVec 64) × zh × Unit)) (v : List (BitVec 64) × zh × Unit) (y : Option (List (BitVec 64) × zh × Unit)), x = some v → Option.or x y = some v := by
    rintro _ v y rfl; rfl
  apply key
  unfold Zf
  by_cases g0 : d.Out = 0
  · by_cases g1 : d.PC < 0
    · simp [g0, g1]
    · by_cases g2 : 4 ≤ d.PC
      · simp [g0, g2]
      · have hpc : d.PC = 0 ∨ d.PC = 1 ∨ d.PC = 2 ∨ d.PC = 3 := by omega
        rcases hpc with h | h | h | h <;> simp [g0, h, hk, w1, w2, w3, w4] <;> (try split) <;> simp [h, hk, w2]
  · simp [g0]
def vE (p : zd) : Int := wc (p.Workers * wc (p.Cap + 2))
def yS (p : zd) : Int := wc (vE p + 1)
def Z6 (p : zd) (w : Int) : Int := wc (wc (w - 1) * wc (p.Cap + 2))
theorem ze9 (p : zd) : WL p = some (vE p, ()) := by rw [zoP, xu]; rfl
theorem zdk (p : zd) : Xo p = some (yS p, ()) := by rw [zm9, xu, ze9]; rfl
theorem zeZ (p : zd) : YA p = some (yS p, ()) := by rw [zom, zdk]; rfl
theorem zmw (p : zd) (w : Int) : zan p w = some (Z6 p w, ()) := by rw [znc, xu]; rfl
def zpb (p : zd) (g : zE) : zE := { g with PC := 5, C := ⟨2, 0, yS p, yS p, 0#64, 0, 0, 0⟩ }
theorem zj1 (a : zx) : vd a = some (⟨zpb a.s.P a.Grey, a.s⟩, ()) := by
  rw [zfR, zdk, Option.bind_some, zeZ, Option.bind_some, zaH]; rfl
def znJ (s : zb) (g : zE) : zb × zE :=
  let t := zeL s.T g.Obj
  ({ s with T := t.1 },
    if t.2 = false then { g with PC := 2 }
    else if g.Mode = 1 then { g with PC := 3, D := ⟨1, 0, Z6 s.P g.Who, s.P.Cap, 0#64, 0#64, g.Obj, 0⟩ }
    else if g.Mode = 2 then { g with PC := 4 }
    else zpb s.P g)
def zlO (s : zb) (g : zE) : zb × zE :=
  let r := Zf s.M g.D
  ({ s with M := r.1 }, if r.2.Out = 1 then { g with D := r.2, Out := 1 } else if r.2.Out = 3 then zpb s.P { g with D := r.2 } else { g with D := r.2 })
def zl1 (s : zb) (g : zE) : zb × zE :=
  let r := zY s.M g.C
  ({ s with M := r.1 }, if r.2.Out = 1 then { g with PC := 6, C := r.2, Bin := r.2.X } else if r.2.Out = 2 then zpb s.P { g with C := r.2 } else { g with C := r.2 })
def zwZ (s : zb) (g : zE) : zb × zE :=
  ({ s with Bins := s.Bins.set g.Bin.toNat [g.Obj] }, { g with PC := 7, C := ⟨1, 0, vE s.P, yS s.P, 0#64, g.Bin, 0, 0⟩ })
def zgc (s : zb) (g : zE) : zb × zE :=
  let r := zY s.M g.C
  ({ s with M := r.1 }, if r.2.Out = 1 then { g with C := r.2, Out := 1 } else { g with C := r.2 })
def zI (s : zb) (g : zE) : zb × zE :=
  if g.Out ≠ 0 ∨ g.Mode < 1 ∨ 3 < g.Mode ∨ g.PC < 0 ∨ 8 ≤ g.PC then (s, g)
  else if g.PC = 7 then zgc s g
  else if g.PC = 6 then zwZ s g
  else if g.PC = 5 then zl1 s g
  else if g.PC = 4 then ({ s with Flag := true }, zpb s.P g)
  else if g.PC = 3 then zlO s g
  else if g.PC = 2 then ({ s with Work := wc (s.Work - 1) }, { g with Out := 1 })
  else if g.PC = 1 then znJ s g
  else ({ s with Work := wc (s.Work + 1) }, { g with PC := 1 })
structure GOk (s : zb) (g : zE) : Prop where
  mem : s.M.length < 4294967296
  bins : s.Bins.length < 4294967296
  bin : g.PC = 6 → 0 ≤ g.Bin ∧ g.Bin < s.Bins.length
  deq : g.PC = 3 → g.D.Kind = 1 ∧ g.D.Cap < 1000
theorem zu8 {s : zb} {g : zE} (ok : GOk s g) : zik s g = some ((zI s g).1, (zI s g).2, ()) := by
  rw [zpo]
  simp only [zo, yi]
  unfold zI
  by_cases h0 : g.Out = 0
  rotate_left
  · rw [if_neg h0, if_pos (.inl h0)]
  rw [if_pos h0]
  by_cases h1 : g.Mode < 1
  · rw [if_pos h1, if_pos (.inr (.inl h1))]
  rw [if_neg h1]
  by_cases h2 : 3 < g.Mode
  · rw [if_pos h2, if_pos (.inr (.inr (.inl h2)))]
  rw [if_neg h2]
  by_cases h3 : g.PC < 0
  · rw [if_pos h3, if_pos (.inr (.inr (.inr (.inl h3))))]
  rw [if_neg h3]
  by_cases h4 : 8 ≤ g.PC
  · rw [if_pos h4, if_pos (.inr (.inr (.inr (.inr h4))))]
  rw [if_neg h4, if_neg (show ¬ (g.Out ≠ 0 ∨ g.Mode < 1 ∨ 3 < g.Mode ∨ g.PC < 0 ∨ 8 ≤ g.PC) by omega)]
  by_cases p7 : g.PC = 7
  · rw [if_pos p7, if_pos p7, zcI]
    simp only [ze3 ok.mem, Option.bind_some, zo]
    by_cases e : (zY s.M g.C).2.Out = 1 <;> simp [zgc, e]
  rw [if_neg p7, if_neg p7]
  by_cases p6 : g.PC = 6
  · rw [if_pos p6, if_pos p6, zeR]
    obtain ⟨b1, b2⟩ := ok.bin p6
    simp only [zj7 ok.bins, Option.bind_some, uh (l := s.Bins) b1 b2, ze9, zeZ, zaH]
    rfl
  rw [if_neg p6, if_neg p6]
  by_cases p5 : g.PC = 5
  · rw [if_pos p5, if_pos p5, zfl]
    simp only [ze3 ok.mem, Option.bind_some, zo, zj1]
    by_cases e : (zY s.M g.C).2.Out = 1
    · simp [zl1, e]
    · by_cases e2 : (zY s.M g.C).2.Out = 2 <;> simp [zl1, e, e2]
  rw [if_neg p5, if_neg p5]
  by_cases p4 : g.PC = 4
  · rw [if_pos p4, if_pos p4, ze6, zj1]; rfl
  rw [if_neg p4, if_neg p4]
  by_cases p3 : g.PC = 3
  · rw [if_pos p3, if_pos p3, zeM]
    obtain ⟨b1, b2⟩ := ok.deq p3
    simp only [zhR ok.mem b1 b2, Option.bind_some, zo, zj1]
    by_cases e : (Zf s.M g.D).2.Out = 1
    · simp [zlO, e]
    · by_cases e2 : (Zf s.M g.D).2.Out = 3 <;> simp [zlO, e, e2]
  rw [if_neg p3, if_neg p3]
  by_cases p2 : g.PC = 2
  · rw [if_pos p2, if_pos p2, zfi, xu]; rfl
  rw [if_neg p2, if_neg p2]
  by_cases p1 : g.PC = 1
  · rw [if_pos p1, if_pos p1, zfk]
    simp only [zoo, Option.bind_some, zo, zj1, zmw, zgh]
    unfold znJ
    cases hs : (zeL s.T g.Obj).2 with
    | false => simp [hs]
    | true =>
      by_cases m1 : g.Mode = 1
      · simp [hs, m1]
      · by_cases m2 : g.Mode = 2 <;> simp [hs, m1, m2]
  rw [if_neg p1, if_neg p1, if_pos (show g.PC = 0 by omega), zc2, xu]; rfl
end
end Go.Pe.G
namespace Go.Pe.G
open Go.Pe
noncomputable section
theorem wU {b k : Int} (h : 0 ≤ b) (hk : 0 < k) : 0 ≤ b.tmod k ∧ b.tmod k < k := by
  rw [Int.tmod_eq_emod_of_nonneg h]; exact ⟨Int.emod_nonneg _ (by omega), Int.emod_lt_of_pos _ hk⟩
def zbr (o : zg) (regs slots : Int) : Prop := (0 ≤ o.R ∧ o.R < regs) ∧
  ((o.Kind = 1 ∨ o.Kind = 2) ∧ (0 ≤ o.A ∧ o.A < regs) ∧ (0 ≤ o.S ∧ o.S < slots) ∨ o.Kind = 4 ∧ (0 ≤ o.A ∧ o.A < regs) ∧ o.S = 0 ∨ (o.Kind = 3 ∨ o.Kind = 5) ∧ o.A = 0 ∧ o.S = 0)
structure zL (p : zd) : Prop where
  wk : 1 ≤ p.Workers ∧ p.Workers ≤ 3
  mt : 0 ≤ p.Mutators ∧ p.Mutators ≤ 2
  cap : 1 ≤ p.Cap ∧ p.Cap ≤ 3
  buf : 1 ≤ p.Buf ∧ p.Buf ≤ 2
  bin : 1 ≤ p.Bin ∧ p.Bin ≤ 3
  price : 0 ≤ p.Price ∧ p.Price ≤ 3
  limit : 0 ≤ p.Limit ∧ p.Limit ≤ 3
  slots : 1 ≤ p.H.Slots ∧ p.H.Slots ≤ 2
  n : 1 ≤ (p.H.Objs.length : Int) ∧ (p.H.Objs.length : Int) ≤ 6
  objs : ∀ o ∈ p.H.Objs, (o.length : Int) = p.H.Slots ∧ ∀ v ∈ o, 0 ≤ v ∧ v ≤ (p.H.Objs.length : Int)
  most : (p.H.Objs.length : Int) ≤ p.Most ∧ p.Most ≤ (p.H.Objs.length : Int) + 3
  roots : ∃ r, 0 ≤ r ∧ r ≤ (p.H.Objs.length : Int) ∧ p.Roots = bit r
  regs : (p.Regs.length : Int) = p.Mutators
  progs : (p.Progs.length : Int) = p.Mutators
  reg : ∀ r ∈ p.Regs, (1 ≤ (r.length : Int) ∧ (r.length : Int) ≤ 3) ∧ ∀ v ∈ r, 0 ≤ v ∧ v ≤ (p.H.Objs.length : Int)
  prog : ∀ (k : Nat) r ops, p.Regs[k]? = some r → p.Progs[k]? = some ops → (ops.length : Int) ≤ 7 ∧ ∀ o ∈ ops, zbr o (r.length : Int) p.H.Slots
  picks : p.Picks = []
end
end Go.Pe.G
namespace Go.Pe.G
open Go.Pe
noncomputable section
namespace B16
def Xa (m : zy) : Prop := 0 ≤ m.At ∧ m.At ≤ m.L.length ∧ m.L.length ≤ 90
theorem vz {m : zy} (h : Xa m) : ∃ b m', zw m = some (b, m', ()) ∧ (0 ≤ b ∧ b < 256) ∧ Xa m' := by
  obtain ⟨h1, h2, h3⟩ := h
  rw [zb7, zo]
  by_cases h : (m.L.length : Int) ≤ m.At
  · rw [if_pos h]; exact ⟨_, _, rfl, by omega, h1, h2, h3⟩
  · rw [if_neg h, z3 (a := m.At + 1) (by omega) (by omega), z3 (by omega) (by omega), vH (by omega), List.getElem?_eq_getElem (by omega), Option.bind_some]
    exact ⟨_, _, rfl, by have := (m.L[(m.At + 1 - 1).toNat]'(by omega)).isLt; omega, show 0 ≤ m.At + 1 by omega, show m.At + 1 ≤ m.L.length by omega, h3⟩
theorem zyM {m : zy} (h : Xa m) {regs slots : Int} (hr : 1 ≤ regs) (hs : 1 ≤ slots) : ∃ o m', YS regs slots m = some (o, m', ()) ∧ zbr o regs slots ∧ Xa m' := by
  obtain ⟨b1, m1, e1, r1, k1⟩ := vz h
  obtain ⟨b2, m2, e2, r2, k2⟩ := vz k1
  obtain ⟨b3, m3, e3, r3, k3⟩ := vz k2
  obtain ⟨b4, m4, e4, r4, k4⟩ := vz k3
  have t1 := wU r1.1 (show (0 : Int) < 8 by omega)
  have t2 := wU r2.1 (show (0 : Int) < regs by omega)
  have t3 := wU r3.1 (show (0 : Int) < regs by omega)
  have t4 := wU r4.1 (show (0 : Int) < slots by omega)
  have t5 := wU r3.1 (show (0 : Int) < slots by omega)
  have hn : ¬ regs = 0 := by omega
  have hn2 : ¬ slots = 0 := by omega
  rw [zdQ, e1, Option.bind_some, uh t1.1 (by simpa using t1.2), Option.bind_some]
  have hx : b1.tmod 8 = 0 ∨ b1.tmod 8 = 1 ∨ b1.tmod 8 = 2 ∨ b1.tmod 8 = 3 ∨ b1.tmod 8 = 4 ∨ b1.tmod 8 = 5 ∨ b1.tmod 8 = 6 ∨ b1.tmod 8 = 7 := by omega
  rcases hx with hx | hx | hx | hx | hx | hx | hx | hx <;> simp [hx, e2, e3, e4, hn, hn2] <;> refine ⟨_, _, ⟨rfl, rfl⟩, ?_, by assumption⟩ <;> (unfold zbr; dsimp only; omega)
theorem zwi {s1 : Int} {s2 : Int} {s4 : Int} {s5 : Int} {s6 : Int} {s7 : Int} {s8 : Int} {s9 : Int} {s10 : Int} {s11 : Int} {s12 : Int} {s13 : BitVec 64} {s15 : Int} {s16 : Int} {s17 : Int} {s18 : Int} {s19 : Int} {s20 : Int} {s21 : Int} {s22 : Int} {s23 : Int} {s24 : BitVec 64} {s26 : List (List Int)} {s27 : List (List Int)} {s28 : List (List zg)} {s29 : List zi} {s30 : List (List Int)} {s31 : List (List Int)} {s32 : List (List zg)} {s33 : List zi} (hn : 1 ≤ s1 ∧ s1 ≤ 6) (hs : 1 ≤ s23 ∧ s23 ≤ 2) {mk : zy} (hm : Xa mk) :
    ∃ mk' l, yj ZL (s1, s2, 0, s4, s5, s6, s7, s8, s9, s10, s11, s12, s13, mk, s15, s16, s17, s18, s19, s20, s21, s22, s23, s24, [], s26, s27, s28, s29, s30, s31, s32, s33, ()) = some (.brk (s1, s2, s4, s5, s6, s7, s8, s9, s10, s11, s12, s13, mk', s15, s16, s17, s18, s19, s20, s21, s22, s23, s24, l, s26, s27, s28, s29, s30, s31, s32, s33, ())) ∧ Xa mk' ∧ (l.length : Int) = s23 ∧ ∀ v ∈ l, 0 ≤ v ∧ v ≤ s1 := by
  refine (ue (f := ZL)
    (fun a => ∃ i mk l, a = (s1, s2, i, s4, s5, s6, s7, s8, s9, s10, s11, s12, s13, mk, s15, s16, s17, s18, s19, s20, s21, s22, s23, s24, l, s26, s27, s28, s29, s30, s31, s32, s33, ()) ∧ Xa mk ∧ (0 ≤ i ∧ i ≤ s23 ∧ (l.length : Int) = i) ∧ ∀ v ∈ l, 0 ≤ v ∧ v ≤ s1)
    (fun a => (s23 - a.2.2.1).toNat)
    (fun o => match o with | .brk b => ∃ mk l, b = (s1, s2, s4, s5, s6, s7, s8, s9, s10, s11, s12, s13, mk, s15, s16, s17, s18, s19, s20, s21, s22, s23, s24, l, s26, s27, s28, s29, s30, s31, s32, s33, ()) ∧ Xa mk ∧ (l.length : Int) = s23 ∧ ∀ v ∈ l, 0 ≤ v ∧ v ≤ s1 | _ => False) ?_
    (s1, s2, 0, s4, s5, s6, s7, s8, s9, s10, s11, s12, s13, mk, s15, s16, s17, s18, s19, s20, s21, s22, s23, s24, [], s26, s27, s28, s29, s30, s31, s32, s33, ()) ⟨0, mk, [], rfl, hm, by simp; omega, by simp⟩ (wH (by simp; omega))).elim fun o h => ?_
  rotate_left
  · obtain ⟨ho, hq⟩ := h
    cases o with
    | again a => exact hq.elim
    | ret a => exact hq.elim
    | brk b =>
      obtain ⟨mk', l, rfl, h1, h2, h3⟩ := hq
      exact ⟨mk', l, ho, h1, h2, h3⟩
  · rintro _ ⟨i, mk, l, rfl, h1, h2, h3⟩
    rw [zfT, zo]
    by_cases hi : i < s23
    · rw [if_pos hi]
      obtain ⟨b, mk', e, r, k⟩ := vz h1
      have w1 : w64 (s1 + 1) = s1 + 1 := z3 (by omega) (by omega)
      have t := wU r.1 (show 0 < s1 + 1 by omega)
      rw [e, Option.bind_some, w1, zo, if_neg (by omega), we (by simp; omega), Option.bind_some, z3 (a := i + 1) (by omega) (by omega)]
      refine ⟨_, rfl, ⟨i + 1, mk', l ++ [b.tmod (s1 + 1)], rfl, k, by simp; omega, fun v hv => ?_⟩, ?_⟩
      · rcases List.mem_append.1 hv with hv | hv
        · exact h3 v hv
        · simp at hv; omega
      · show (s23 - (i + 1)).toNat < (s23 - i).toNat
        omega
    · rw [if_neg hi]
      exact ⟨_, rfl, mk, l, rfl, h1, by omega, h3⟩
theorem zxq {s1 : Int} {s3 : Int} {s4 : Int} {s5 : Int} {s6 : Int} {s7 : Int} {s8 : Int} {s9 : Int} {s10 : Int} {s11 : Int} {s12 : BitVec 64} {s14 : Int} {s15 : Int} {s16 : Int} {s17 : Int} {s18 : Int} {s19 : Int} {s20 : Int} {s21 : Int} {s22 : Int} {s23 : BitVec 64} {s24 : List (List Int)} {s25 : List (List Int)} {s26 : List (List zg)} {s27 : List zi} {s29 : List (List Int)} {s30 : List (List zg)} {s31 : List zi} (hn : 1 ≤ s1 ∧ s1 ≤ 6) (hs : 1 ≤ s22 ∧ s22 ≤ 2) {mk : zy} (hm : Xa mk) :
    ∃ mk' l, yj Yk (s1, 0, s3, s4, s5, s6, s7, s8, s9, s10, s11, s12, mk, s14, s15, s16, s17, s18, s19, s20, s21, s22, s23, s24, s25, s26, s27, [], s29, s30, s31, ()) = some (.brk (s1, s3, s4, s5, s6, s7, s8, s9, s10, s11, s12, mk', s14, s15, s16, s17, s18, s19, s20, s21, s22, s23, s24, s25, s26, s27, l, s29, s30, s31, ())) ∧ Xa mk' ∧ (l.length : Int) = s1 ∧ ∀ o ∈ l, (o.length : Int) = s22 ∧ ∀ v ∈ o, 0 ≤ v ∧ v ≤ s1 := by
  refine (ue (f := Yk)
    (fun a => ∃ i mk l, a = (s1, i, s3, s4, s5, s6, s7, s8, s9, s10, s11, s12, mk, s14, s15, s16, s17, s18, s19, s20, s21, s22, s23, s24, s25, s26, s27, l, s29, s30, s31, ()) ∧ Xa mk ∧ (0 ≤ i ∧ i ≤ s1 ∧ (l.length : Int) = i) ∧ ∀ o ∈ l, (o.length : Int) = s22 ∧ ∀ v ∈ o, 0 ≤ v ∧ v ≤ s1)
    (fun a => (s1 - a.2.1).toNat)
    (fun o => match o with | .brk b => ∃ mk l, b = (s1, s3, s4, s5, s6, s7, s8, s9, s10, s11, s12, mk, s14, s15, s16, s17, s18, s19, s20, s21, s22, s23, s24, s25, s26, s27, l, s29, s30, s31, ()) ∧ Xa mk ∧ (l.length : Int) = s1 ∧ ∀ o ∈ l, (o.length : Int) = s22 ∧ ∀ v ∈ o, 0 ≤ v ∧ v ≤ s1 | _ => False) ?_
    (s1, 0, s3, s4, s5, s6, s7, s8, s9, s10, s11, s12, mk, s14, s15, s16, s17, s18, s19, s20, s21, s22, s23, s24, s25, s26, s27, [], s29, s30, s31, ()) ⟨0, mk, [], rfl, hm, by simp; omega, by simp⟩ (wH (by simp; omega))).elim fun o h => ?_
  rotate_left
  · obtain ⟨ho, hq⟩ := h
    cases o with
    | again a => exact hq.elim
    | ret a => exact hq.elim
    | brk b =>
      obtain ⟨mk', l, rfl, h1, h2, h3⟩ := hq
      exact ⟨mk', l, ho, h1, h2, h3⟩
  · rintro _ ⟨i, mk, l, rfl, h1, h2, h3⟩
    rw [zgY, zo]
    by_cases hi : i < s1
    · rw [if_pos hi]
      obtain ⟨mk', o, e, g1, g2, g3⟩ := zwi hn hs h1
      rw [e]
      simp only [Option.bind_some]
      rw [we (by simp; omega), Option.bind_some, z3 (a := i + 1) (by omega) (by omega)]
      refine ⟨_, rfl, ⟨i + 1, mk', l ++ [o], rfl, g1, by simp; omega, fun v hv => ?_⟩, ?_⟩
      · rcases List.mem_append.1 hv with hv | hv
        · exact h3 v hv
        · simp at hv; subst hv; exact ⟨g2, g3⟩
      · show (s1 - (i + 1)).toNat < (s1 - i).toNat
        omega
    · rw [if_neg hi]
      exact ⟨_, rfl, mk, l, rfl, h1, by omega, h3⟩
theorem zv4 {s1 : Int} {s2 : Int} {s4 : Int} {s5 : Int} {s6 : Int} {s7 : Int} {s8 : Int} {s9 : Int} {s10 : Int} {s11 : Int} {s12 : Int} {s13 : BitVec 64} {s15 : Int} {s16 : Int} {s17 : Int} {s18 : Int} {s19 : Int} {s20 : Int} {s21 : Int} {s22 : Int} {s23 : Int} {s24 : BitVec 64} {s26 : List (List Int)} {s27 : List (List Int)} {s28 : List (List zg)} {s29 : List zi} {s30 : List (List Int)} {s31 : List (List Int)} {s32 : List (List zg)} {s33 : List zi} (hn : 1 ≤ s1 ∧ s1 ≤ 6) {mk : zy} (hm : Xa mk) :
    ∃ mk' l, yj ZK (s1, s2, 0, s4, s5, s6, s7, s8, s9, s10, s11, s12, s13, mk, s15, s16, s17, s18, s19, s20, s21, s22, s23, s24, [], s26, s27, s28, s29, s30, s31, s32, s33, ()) = some (.brk (s1, s2, s4, s5, s6, s7, s8, s9, s10, s11, s12, s13, mk', s15, s16, s17, s18, s19, s20, s21, s22, s23, s24, l, s26, s27, s28, s29, s30, s31, s32, s33, ())) ∧ Xa mk' ∧ (1 ≤ (l.length : Int) ∧ (l.length : Int) ≤ 3) ∧ ∀ v ∈ l, 0 ≤ v ∧ v ≤ s1 := by
  refine (ue (f := ZK)
    (fun a => ∃ i mk l, a = (s1, s2, i, s4, s5, s6, s7, s8, s9, s10, s11, s12, s13, mk, s15, s16, s17, s18, s19, s20, s21, s22, s23, s24, l, s26, s27, s28, s29, s30, s31, s32, s33, ()) ∧ Xa mk ∧ (0 ≤ i ∧ i ≤ 3 ∧ (l.length : Int) = i) ∧ ∀ v ∈ l, 0 ≤ v ∧ v ≤ s1)
    (fun a => (3 - a.2.2.1).toNat)
    (fun o => match o with | .brk b => ∃ mk l, b = (s1, s2, s4, s5, s6, s7, s8, s9, s10, s11, s12, s13, mk, s15, s16, s17, s18, s19, s20, s21, s22, s23, s24, l, s26, s27, s28, s29, s30, s31, s32, s33, ()) ∧ Xa mk ∧ (1 ≤ (l.length : Int) ∧ (l.length : Int) ≤ 3) ∧ ∀ v ∈ l, 0 ≤ v ∧ v ≤ s1 | _ => False) ?_
    (s1, s2, 0, s4, s5, s6, s7, s8, s9, s10, s11, s12, s13, mk, s15, s16, s17, s18, s19, s20, s21, s22, s23, s24, [], s26, s27, s28, s29, s30, s31, s32, s33, ()) ⟨0, mk, [], rfl, hm, by simp, by simp⟩ (wH (by simp))).elim fun o h => ?_
  rotate_left
  · obtain ⟨ho, hq⟩ := h
    cases o with
    | again a => exact hq.elim
    | ret a => exact hq.elim
    | brk b =>
      obtain ⟨mk', l, rfl, h1, h2, h3⟩ := hq
      exact ⟨mk', l, ho, h1, h2, h3⟩
  · rintro _ ⟨i, mk, l, rfl, h1, h2, h3⟩
    obtain ⟨b0, mk0, e0, r0, k0⟩ := vz h1
    have t0 := wU r0.1 (show (0 : Int) < 3 by omega)
    rw [zfU, e0, Option.bind_some, zo, z3 (a := 1 + b0.tmod 3) (by omega) (by omega)]
    by_cases hi : i < 1 + b0.tmod 3
    · rw [if_pos hi]
      obtain ⟨b, mk', e, r, k⟩ := vz k0
      have w1 : w64 (s1 + 1) = s1 + 1 := z3 (by omega) (by omega)
      have t := wU r.1 (show 0 < s1 + 1 by omega)
      rw [e, Option.bind_some, w1, zo, if_neg (by omega), we (by simp; omega), Option.bind_some, z3 (a := i + 1) (by omega) (by omega)]
      refine ⟨_, rfl, ⟨i + 1, mk', l ++ [b.tmod (s1 + 1)], rfl, k, by simp; omega, fun v hv => ?_⟩, ?_⟩
      · rcases List.mem_append.1 hv with hv | hv
        · exact h3 v hv
        · simp at hv; omega
      · show (3 - (i + 1)).toNat < (3 - i).toNat
        omega
    · rw [if_neg hi]
      exact ⟨_, rfl, mk0, l, rfl, k0, by omega, h3⟩
theorem zwx {s1 : Int} {s2 : Int} {s4 : Int} {s5 : Int} {s6 : Int} {s7 : Int} {s8 : Int} {s9 : Int} {s10 : Int} {s11 : Int} {s12 : Int} {s13 : BitVec 64} {s15 : Int} {s16 : Int} {s17 : Int} {s18 : Int} {s19 : Int} {s20 : Int} {s21 : Int} {s22 : Int} {s23 : Int} {s24 : BitVec 64} {s25 : List Int} {s27 : List (List Int)} {s28 : List (List Int)} {s29 : List (List zg)} {s30 : List zi} {s31 : List (List Int)} {s32 : List (List Int)} {s33 : List (List zg)} {s34 : List zi} (hr : 1 ≤ (s25.length : Int)) (hs : 1 ≤ s23 ∧ s23 ≤ 2) {k0 : Int} (hk : 0 ≤ k0 ∧ k0 < 8) {mk : zy} (hm : Xa mk) :
    ∃ mk' l, yj ur (s1, s2, k0, s4, s5, s6, s7, s8, s9, s10, s11, s12, s13, mk, s15, s16, s17, s18, s19, s20, s21, s22, s23, s24, s25, [], s27, s28, s29, s30, s31, s32, s33, s34, ()) = some (.brk (s1, s2, s4, s5, s6, s7, s8, s9, s10, s11, s12, s13, mk', s15, s16, s17, s18, s19, s20, s21, s22, s23, s24, s25, l, s27, s28, s29, s30, s31, s32, s33, s34, ())) ∧ Xa mk' ∧ (l.length : Int) ≤ 7 ∧ ∀ o ∈ l, zbr o (s25.length : Int) s23 := by
  refine (ue (f := ur)
    (fun a => ∃ i mk l, a = (s1, s2, i, s4, s5, s6, s7, s8, s9, s10, s11, s12, s13, mk, s15, s16, s17, s18, s19, s20, s21, s22, s23, s24, s25, l, s27, s28, s29, s30, s31, s32, s33, s34, ()) ∧ Xa mk ∧ (0 ≤ i ∧ (l.length : Int) + i ≤ 7) ∧ ∀ o ∈ l, zbr o (s25.length : Int) s23)
    (fun a => (a.2.2.1).toNat)
    (fun o => match o with | .brk b => ∃ mk l, b = (s1, s2, s4, s5, s6, s7, s8, s9, s10, s11, s12, s13, mk, s15, s16, s17, s18, s19, s20, s21, s22, s23, s24, s25, l, s27, s28, s29, s30, s31, s32, s33, s34, ()) ∧ Xa mk ∧ (l.length : Int) ≤ 7 ∧ ∀ o ∈ l, zbr o (s25.length : Int) s23 | _ => False) ?_
    (s1, s2, k0, s4, s5, s6, s7, s8, s9, s10, s11, s12, s13, mk, s15, s16, s17, s18, s19, s20, s21, s22, s23, s24, s25, [], s27, s28, s29, s30, s31, s32, s33, s34, ()) ⟨k0, mk, [], rfl, hm, by simp; omega, by simp⟩ (wH (by simp; omega))).elim fun o h => ?_
  rotate_left
  · obtain ⟨ho, hq⟩ := h
    cases o with
    | again a => exact hq.elim
    | ret a => exact hq.elim
    | brk b =>
      obtain ⟨mk', l, rfl, h1, h2, h3⟩ := hq
      exact ⟨mk', l, ho, h1, h2, h3⟩
  · rintro _ ⟨i, mk, l, rfl, h1, h2, h3⟩
    rw [zgP, zo]
    by_cases hi : 0 < i
    · rw [if_pos hi]
      obtain ⟨o, mk', e, r, k⟩ := zyM h1 hr hs.1
      rw [e, Option.bind_some, we (by simp; omega), Option.bind_some, z3 (a := i - 1) (by omega) (by omega)]
      refine ⟨_, rfl, ⟨i - 1, mk', l ++ [o], rfl, k, by simp; omega, fun v hv => ?_⟩, ?_⟩
      · rcases List.mem_append.1 hv with hv | hv
        · exact h3 v hv
        · simp at hv; subst hv; exact r
      · show (i - 1).toNat < i.toNat
        omega
    · rw [if_neg hi]
      exact ⟨_, rfl, mk, l, rfl, h1, by omega, h3⟩
theorem zwK {s1 : Int} {s3 : Int} {s4 : Int} {s5 : Int} {s6 : Int} {s7 : Int} {s8 : Int} {s9 : Int} {s10 : Int} {s11 : Int} {s12 : BitVec 64} {s14 : Int} {s15 : Int} {s16 : Int} {s17 : Int} {s18 : Int} {s19 : Int} {s20 : Int} {s21 : Int} {s22 : Int} {s23 : BitVec 64} {s24 : List (List Int)} {s25 : List (List Int)} {s26 : List (List zg)} {s27 : List zi} {s28 : List (List Int)} {s31 : List zi} (hn : 1 ≤ s1 ∧ s1 ≤ 6) (hm0 : 0 ≤ s15 ∧ s15 ≤ 2) (hs : 1 ≤ s22 ∧ s22 ≤ 2) {mk : zy} (hm : Xa mk) :
    ∃ regs progs, yj ZG (s1, 0, s3, s4, s5, s6, s7, s8, s9, s10, s11, s12, mk, s14, s15, s16, s17, s18, s19, s20, s21, s22, s23, s24, s25, s26, s27, s28, [], [], s31, ()) = some (.brk (s3, s4, s5, s6, s7, s8, s9, s10, s11, s12, s14, s15, s16, s17, s18, s19, s20, s21, s22, s23, s24, s25, s26, s27, s28, regs, progs, s31, ())) ∧ (regs.length : Int) = s15 ∧ (regs.length = progs.length) ∧ (∀ r ∈ regs, (1 ≤ (r.length : Int) ∧ (r.length : Int) ≤ 3) ∧ ∀ v ∈ r, 0 ≤ v ∧ v ≤ s1) ∧ ∀ (k : Nat) r ops, regs[k]? = some r → progs[k]? = some ops → (ops.length : Int) ≤ 7 ∧ ∀ o ∈ ops, zbr o (r.length : Int) s22 := by
  refine (ue (f := ZG)
    (fun a => ∃ i mk regs progs, a = (s1, i, s3, s4, s5, s6, s7, s8, s9, s10, s11, s12, mk, s14, s15, s16, s17, s18, s19, s20, s21, s22, s23, s24, s25, s26, s27, s28, regs, progs, s31, ()) ∧ Xa mk ∧ (0 ≤ i ∧ i ≤ s15 ∧ (regs.length : Int) = i) ∧ (regs.length = progs.length) ∧ (∀ r ∈ regs, (1 ≤ (r.length : Int) ∧ (r.length : Int) ≤ 3) ∧ ∀ v ∈ r, 0 ≤ v ∧ v ≤ s1) ∧ ∀ (k : Nat) r ops, regs[k]? = some r → progs[k]? = some ops → (ops.length : Int) ≤ 7 ∧ ∀ o ∈ ops, zbr o (r.length : Int) s22)
    (fun a => (s15 - a.2.1).toNat)
    (fun o => match o with | .brk b => ∃ regs progs, b = (s3, s4, s5, s6, s7, s8, s9, s10, s11, s12, s14, s15, s16, s17, s18, s19, s20, s21, s22, s23, s24, s25, s26, s27, s28, regs, progs, s31, ()) ∧ (regs.length : Int) = s15 ∧ (regs.length = progs.length) ∧ (∀ r ∈ regs, (1 ≤ (r.length : Int) ∧ (r.length : Int) ≤ 3) ∧ ∀ v ∈ r, 0 ≤ v ∧ v ≤ s1) ∧ ∀ (k : Nat) r ops, regs[k]? = some r → progs[k]? = some ops → (ops.length : Int) ≤ 7 ∧ ∀ o ∈ ops, zbr o (r.length : Int) s22 | _ => False) ?_
    (s1, 0, s3, s4, s5, s6, s7, s8, s9, s10, s11, s12, mk, s14, s15, s16, s17, s18, s19, s20, s21, s22, s23, s24, s25, s26, s27, s28, [], [], s31, ()) ⟨0, mk, [], [], rfl, hm, by simp; omega, rfl, by simp, by simp⟩ (wH (by simp; omega))).elim fun o h => ?_
  rotate_left
  · obtain ⟨ho, hq⟩ := h
    cases o with
    | again a => exact hq.elim
    | ret a => exact hq.elim
    | brk b =>
      obtain ⟨regs, progs, rfl, h⟩ := hq
      exact ⟨regs, progs, ho, h⟩
  · rintro _ ⟨i, mk, regs, progs, rfl, h1, h2, h3, h4, h5⟩
    rw [zf5, zo]
    by_cases hi : i < s15
    · rw [if_pos hi]
      obtain ⟨mk1, r, e, g1, g2, g3⟩ := zv4 hn h1
      rw [e]
      simp only [Option.bind_some]
      rw [zo, if_neg (by omega)]
      obtain ⟨b, mk2, e2, r2, k2⟩ := vz g1
      rw [e2, Option.bind_some]
      obtain ⟨mk3, ops, e3, f1, f2, f3⟩ := zwx (s25 := r) g2.1 hs (wU r2.1 (show (0 : Int) < 8 by omega)) k2
      rw [e3]
      simp only [Option.bind_some]
      rw [we (by simp; omega), Option.bind_some, we (by simp; omega), Option.bind_some, z3 (a := i + 1) (by omega) (by omega)]
      refine ⟨_, rfl, ⟨i + 1, mk3, regs ++ [r], progs ++ [ops], rfl, f1, by simp; omega, by simp [h3], fun v hv => ?_, fun k r' ops' hk1 hk2 => ?_⟩, ?_⟩
      · rcases List.mem_append.1 hv with hv | hv
        · exact h4 v hv
        · simp at hv; subst hv; exact ⟨g2, g3⟩
      · rcases Nat.lt_or_ge k regs.length with hlt | hge
        · rw [List.getElem?_append_left hlt] at hk1
          rw [List.getElem?_append_left (by omega)] at hk2
          exact h5 k r' ops' hk1 hk2
        · rw [List.getElem?_append_right hge] at hk1
          rw [List.getElem?_append_right (by omega), ← h3] at hk2
          have hk0 : k - regs.length = 0 := by
            have := (List.getElem?_eq_some_iff.1 hk1).1
            simpa using this
          rw [hk0] at hk1 hk2
          simp at hk1 hk2
          subst hk1; subst hk2
          exact ⟨f2, f3⟩
      · show (s15 - (i + 1)).toNat < (s15 - i).toNat
        omega
    · rw [if_neg hi]
      exact ⟨_, rfl, regs, progs, rfl, by omega, h3, h4, h5⟩
theorem zxB (l : List (BitVec 8)) : ∃ p, UR l = some (p, ()) ∧ zL p := by
  rw [zjR, zo]
  obtain ⟨m, em, hl⟩ : ∃ m, cut l 0 (if 90 < (l.length : Int) then 90 else (l.length : Int)) = some m ∧ m.length ≤ 90 := by
    unfold cut
    by_cases h : 90 < (l.length : Int)
    · have h2 : (90 : Int) ≤ l.length := by omega
      rw [if_pos h]; exact ⟨l.take 90, by simp [h2], List.length_take_le _ _⟩
    · rw [if_neg h]; exact ⟨l, by simp, by omega⟩
  rw [em, Option.bind_some]
  obtain ⟨b1, m1, e1, r1, k1⟩ := vz (m := ⟨m, 0⟩) ⟨by simp, by simp, hl⟩
  obtain ⟨b2, m2, e2, r2, k2⟩ := vz k1
  obtain ⟨b3, m3, e3, r3, k3⟩ := vz k2
  obtain ⟨b4, m4, e4, r4, k4⟩ := vz k3
  obtain ⟨b5, m5, e5, r5, k5⟩ := vz k4
  obtain ⟨b6, m6, e6, r6, k6⟩ := vz k5
  obtain ⟨b7, m7, e7, r7, k7⟩ := vz k6
  obtain ⟨b8, m8, e8, r8, k8⟩ := vz k7
  obtain ⟨b9, m9, e9, r9, k9⟩ := vz k8
  obtain ⟨b10, m10, e10, r10, k10⟩ := vz k9
  simp only [e1, e2, e3, e4, e5, e6, e7, e8, e9, e10, Option.bind_some]
  have t1 := wU r1.1 (show (0 : Int) < 3 by omega)
  have t2 := wU r2.1 (show (0 : Int) < 3 by omega)
  have t3 := wU r3.1 (show (0 : Int) < 3 by omega)
  have t4 := wU r4.1 (show (0 : Int) < 2 by omega)
  have t5 := wU r5.1 (show (0 : Int) < 3 by omega)
  have t6 := wU r6.1 (show (0 : Int) < 4 by omega)
  have t7 := wU r7.1 (show (0 : Int) < 4 by omega)
  have t8 := wU r8.1 (show (0 : Int) < 2 by omega)
  have t9 := wU r9.1 (show (0 : Int) < 6 by omega)
  have t10 := wU r10.1 (show (0 : Int) < 4 by omega)
  rw [z3 (a := 1 + b9.tmod 6) (by omega) (by omega), z3 (a := 1 + b1.tmod 3) (by omega) (by omega), z3 (a := 1 + b3.tmod 3) (by omega) (by omega), z3 (a := 1 + b4.tmod 2) (by omega) (by omega), z3 (a := 1 + b5.tmod 3) (by omega) (by omega),
    z3 (a := 1 + b9.tmod 6 + b10.tmod 4) (by omega) (by omega), z3 (a := 1 + b8.tmod 2) (by omega) (by omega)]
  obtain ⟨m11, objs, e11, g1, g2, g3⟩ := zxq (s1 := 1 + b9.tmod 6) (s22 := 1 + b8.tmod 2) (by omega) (by omega) k10
  rw [e11]
  simp only [Option.bind_some]
  obtain ⟨b12, m12, e12, r12, k12⟩ := vz g1
  rw [e12, Option.bind_some, z3 (a := 1 + b9.tmod 6 + 1) (by omega) (by omega), zo, if_neg (by omega)]
  have t12 := wU r12.1 (show (0 : Int) < 1 + b9.tmod 6 + 1 by omega)
  rw [ziI, Option.bind_some]
  obtain ⟨regs, progs, e13, f1, f2, f3, f4⟩ := zwK (s1 := 1 + b9.tmod 6) (s15 := b2.tmod 3) (s22 := 1 + b8.tmod 2) (by omega) (by omega) (by omega) k12
  rw [e13]
  simp only [Option.bind_some]
  refine ⟨_, rfl, ?_⟩
  constructor <;> dsimp only
  case objs => intro o ho; rw [g2]; exact g3 o ho
  case roots => exact ⟨b12.tmod (1 + b9.tmod 6 + 1), by omega, by omega, by simp⟩
  case reg => rw [g2]; exact f3
  case prog => exact f4
  all_goals first | omega | rfl
end B16
end
end Go.Pe.G
namespace Go.Pe.G
open Go.Pe
noncomputable section
theorem Uq {α β B C : Type} {f : List α × Int × Int × β → Option (yO (List α × Int × Int × β) B C)} {l : List α} {e : β} {b : B} (hl : l.length < 1000000)
    (h1 : ∀ (i : Nat) (x : α), l[i]? = some x → f (l, (l.length : Int), (i : Int), e) = some (.again (l, (l.length : Int), ((i + 1 : Nat) : Int), e)))
    (h2 : f (l, (l.length : Int), (l.length : Int), e) = some (.brk b)) : yj f (l, (l.length : Int), 0, e) = some (.brk b) := by
  refine (ue (f := f) (fun a => ∃ i : Nat, a = (l, (l.length : Int), (i : Int), e) ∧ i ≤ l.length) (fun a => l.length - a.2.2.1.toNat) (fun o => o = .brk b) ?_ (l, (l.length : Int), 0, e) ⟨0, rfl, by omega⟩ (wH (by simp; omega))).elim fun o h => ?_
  rotate_left
  · rw [h.1, h.2]
  · rintro _ ⟨i, rfl, hi⟩
    rcases Nat.lt_or_ge i l.length with hlt | hge
    · refine ⟨_, h1 i _ (List.getElem?_eq_getElem hlt), ⟨i + 1, rfl, hlt⟩, ?_⟩
      show l.length - ((i + 1 : Nat) : Int).toNat < l.length - (i : Int).toNat
      omega
    · have : i = l.length := by omega
      subst this
      exact ⟨_, h2, rfl⟩
theorem xL {α : Type} {l : List α} {i : Nat} {x : α} (h : l[i]? = some x) : idx l (i : Int) = some x := by
  rw [vH (by omega)]; simpa using h
theorem vO {α : Type} {l : List α} {i : Nat} {x : α} (h : l[i]? = some x) : (i : Int) < (l.length : Int) := by
  have := (List.getElem?_eq_some_iff.1 h).1; omega
theorem yX {i : Nat} (h : i < 1000000) : w64 ((i : Int) + 1) = ((i + 1 : Nat) : Int) := by
  rw [z3 (by omega) (by omega)]; omega
theorem zdm (a b c : Int) : vv a b c = some (decide (b ≤ a ∧ a ≤ c), ()) := by
  rw [znd, zo]
  by_cases h : b ≤ a
  · rw [if_pos h]; simp [h]
  · rw [if_neg h]; simp [h]
theorem zuv {l : List Int} {h : zn} (hl : l.length < 1000000) (hv : ∀ v ∈ l, 0 ≤ v ∧ v ≤ (h.Objs.length : Int)) : xJ l h = some (false, ()) := by
  rw [Z7, YR, Uq (b := ()) hl (fun i x hx => ?_) (by rw [wW]; simp)]
  · rfl
  · have hm := hv x (List.mem_of_getElem? hx)
    have hlt := vO hx
    rw [wW, zo, if_pos hlt, xL hx, Option.bind_some, zkx, zo, if_neg (show ¬ x < 0 by omega), Option.bind_some, yX (by omega)]
    simp [show ¬ (h.Objs.length : Int) < x by omega]
theorem zvz {l : List Int} {n : Int} (hl : l.length < 1000000) (hv : ∀ v ∈ l, 0 ≤ v ∧ v ≤ n) : xU l n = some (false, ()) := by
  rw [Yu, Xi, Uq (b := ()) hl (fun i x hx => ?_) (by rw [vf]; simp)]
  · rfl
  · have hm := hv x (List.mem_of_getElem? hx)
    have hlt := vO hx
    rw [vf, xL hx, Option.bind_some, zl4, zdm, Option.bind_some, Option.bind_some, yX (by omega), zo, if_pos hlt]
    simp [hm]
theorem zqz {l : List (List Int)} {h : zn} (hl : l.length < 1000000) (hs : h.Slots < 1000000) (hv : ∀ o ∈ l, (o.length : Int) = h.Slots ∧ ∀ v ∈ o, 0 ≤ v ∧ v ≤ (h.Objs.length : Int)) : xH l h = some (false, ()) := by
  rw [Z1, YD, Uq (b := ()) hl (fun i x hx => ?_) (by rw [wV]; simp)]
  · rfl
  · have hm := hv x (List.mem_of_getElem? hx)
    have hlt := vO hx
    rw [wV, xL hx, Option.bind_some, zmo, yi, if_pos hm.1, zuv (by omega) hm.2, Option.bind_some, Option.bind_some, yX (by omega), zo, if_pos hlt]
    rfl
theorem znK {r n : Int} (h : 0 ≤ r ∧ r < n) (h2 : n ≤ 4) : zS r n = some (true, ()) := by
  rw [zmf, zo, if_pos h.1, zo]
  rw [if_neg (by omega)]
  simp [h.2]
theorem zwg {o : zg} {regs slots : Int} (h : zbr o regs slots) (h2 : regs ≤ 4) (h3 : slots ≤ 4) : zf8 o regs slots = some (true, ()) := by
  obtain ⟨hr, h⟩ := h
  have e1 := znK hr h2
  have h4 : ¬ 4 < slots := by omega
  rw [zoa]
  rcases h with ⟨hk | hk, ha, hs⟩ | ⟨hk, ha, hs⟩ | ⟨hk | hk, ha, hs⟩
  · have e2 := znK ha h2
    simp [hk, e1, e2, hs.1, hs.2, h4]
  · have e2 := znK ha h2
    simp [hk, e1, e2, hs.1, hs.2, h4]
  · have e2 := znK ha h2
    simp [hk, e1, e2, hs]
  · simp [hk, e1, ha, hs]
  · simp [hk, e1, ha, hs]
theorem zw4 {l : List zg} {regs slots : Int} (hl : (l.length : Int) ≤ 64) (h : ∀ o ∈ l, zbr o regs slots) (h2 : regs ≤ 4) (h3 : slots ≤ 4) : zh3 l regs slots = some (true, ()) := by
  rw [zqb, zo, if_pos hl, Zp, ZE, Uq (b := ()) (by omega) (fun i x hx => ?_) (by rw [wv]; simp)]
  · rfl
  · have hlt := vO hx
    rw [wv, xL hx, Option.bind_some, zm1, zwg (h x (List.mem_of_getElem? hx)) h2 h3, Option.bind_some, Option.bind_some, yX (by omega), zo, if_pos hlt]
    rfl
theorem zu1 (a b : Int) : zfV [] a b = some (true, ()) := by
  rw [zoE, uG, Za, Uq (b := ()) (by simp) (fun i x hx => by simp at hx) (by rw [uH]; simp)]
  rfl
def wC (n : Int) : BitVec 64 := if n < 1 then 0#64 else 18446744073709551615#64 >>> (64 - min n 64).toNat
theorem zhv (n : Int) (h : 0 ≤ n) : Vx n = some (wC n, ()) := by
  rw [zpQ, zo]
  unfold wC
  by_cases h1 : n < 1
  · rw [if_pos h1, if_pos h1]
  · rw [if_neg h1, if_neg h1]
    simp only [zo]
    have e : (if 64 < n then (64 : Int) else n) = min n 64 := by
      by_cases h2 : 64 < n
      · rw [if_pos h2]; omega
      · rw [if_neg h2]; omega
    rw [e, z3 (by omega) (by omega), if_neg (by omega), Nat.min_eq_left (by omega)]
theorem zqr : ∀ (r n : Fin 7), r.1 ≤ n.1 → bit (r.1 : Int) &&& ~~~wC (n.1 : Int) = 0#64 := by decide
theorem zmK {p : zd} (h : zL p) : p.Roots &&& ~~~wC (p.H.Objs.length : Int) = 0#64 := by
  obtain ⟨r, h1, h2, h3⟩ := h.roots
  have hn := h.n
  have := zqr ⟨r.toNat, by omega⟩ ⟨p.H.Objs.length, by omega⟩ (by show r.toNat ≤ p.H.Objs.length; omega)
  rw [h3]
  simpa [Int.toNat_of_nonneg h1] using this
theorem zt0 {p : zd} (h : zL p) : UJ p = some (true, ()) := by
  obtain ⟨h1, h2, h3, h4, h5, h6, h7, _⟩ := h
  rw [zjp]
  simp only [zdm, Option.bind_some, zo]
  rw [if_pos (by omega), if_pos (by omega), if_pos (by omega), if_pos (by omega), if_pos (by omega), if_pos (by split <;> omega)]
  have : (if p.Price < p.Limit then p.Limit else p.Price) ≤ 1000000 := by split <;> omega
  simp [this]
theorem zuh {p : zd} (h : zL p) : Wr p.H = some (true, ()) := by
  have := h.slots
  have := h.n
  rw [zhj, zo, if_pos (by omega), zo, if_pos (by omega), zo, if_pos (by omega), zqz (by omega) (by omega) h.objs]
  rfl
theorem zut {p : zd} (h : zL p) : zfD p = some (true, ()) := by
  have hn := h.n
  have hm := h.most
  have hsl := h.slots
  have hmt := h.mt
  have hrl := h.regs
  have hpl := h.progs
  rw [zoy, zt0 h]
  simp only [Option.bind_some, Bool.not_true, cond_false, zuh h, zdm]
  rw [show decide ((p.H.Objs.length : Int) ≤ p.Most ∧ p.Most ≤ 64) = true by simp; omega]
  simp only [Bool.not_true, cond_false, zhv _ (show (0 : Int) ≤ (p.H.Objs.length : Int) by omega), Option.bind_some, zpn, zmK h, decide_true, yi, if_pos h.regs, if_pos h.progs]
  rw [Uq (b := (p, ())) (by omega) (fun i x hx => ?_) (by rw [zdx]; simp)]
  · simp [h.picks, zu1]
  · have hlt := vO hx
    have hr := h.reg x (List.mem_of_getElem? hx)
    obtain ⟨ops, hops⟩ : ∃ ops, p.Progs[i]? = some ops := ⟨_, List.getElem?_eq_getElem (by omega)⟩
    obtain ⟨o1, o2⟩ := h.prog i x ops hx hops
    rw [zdx, zo, if_pos hlt, xL hx]
    simp only [Option.bind_some, zdm]
    rw [show decide (1 ≤ (x.length : Int) ∧ (x.length : Int) ≤ 4) = true by simp; omega]
    simp only [Bool.not_true, cond_false, zvz (show x.length < 1000000 by omega) hr.2, Option.bind_some, xL hops, zw4 (show (ops.length : Int) ≤ 64 by omega) o2 (show (x.length : Int) ≤ 4 by omega) (show p.H.Slots ≤ 4 by omega), yX (show i < 1000000 by omega)]
end
end Go.Pe.G
namespace Go.Pe.G
open Go.Pe
noncomputable section
theorem zgk {n : Int} (h : 0 ≤ n) (h2 : n < 4294967296) : Y4 n = some n.toNat := by rw [zhF]; simp [h, h2]
theorem zqo {n : Int} (h : 0 < n) (h2 : n < 4294967296) : zdS n = some n.toNat := by rw [zpa]; simp [h, h2]
def zdj (l : List Int) : BitVec 64 := l.foldl (fun s o => s ||| bit o) 0#64
def Yt (p : zd) : BitVec 64 := p.Regs.foldl (fun s l => s ||| zdj l) p.Roots
def zyp (a1 : BitVec 64) : BitVec 64 :=
  let a := ((a1 >>> 1) &&& 6148914691236517205#64) + (a1 &&& 6148914691236517205#64)
  let b := ((a >>> 2) &&& 3689348814741910323#64) + (a &&& 3689348814741910323#64)
  let c := ((b >>> 4) + b) &&& 1085102592571150095#64
  let d := c + (c >>> 8)
  let e := d + (d >>> 16)
  e + (e >>> 32)
def cnt (s : BitVec 64) : Int := (BitVec.ofInt 64 (zyp s).toInt &&& BitVec.ofInt 64 127).toInt
theorem zu3 (s : BitVec 64) : zig s = some (cnt s, ()) := by
  rw [zp9, ziF, zrp]; rfl
theorem WZ {m : List Int} (h : m.length < 4294967296) : yN m = some (m, ()) := by
  rw [zej, List.nil_append, we h, Option.bind_some]
  cases m with
  | nil => simp [zhs]
  | cons a l => simp
theorem zxU {l : List Int} (hl : l.length < 1000000) : zm7 l = some (zdj l, ()) := by
  rw [ztd]
  refine (ue (f := zis) (fun a => ∃ i : Nat, a = ((l.take i).foldl (fun s o => s ||| bit o) 0#64, l, (l.length : Int), (i : Int), ()) ∧ i ≤ l.length) (fun a => l.length - a.2.2.2.1.toNat) (fun o => o = .brk (zdj l, ())) ?_ (0#64, l, (l.length : Int), 0, ()) ⟨0, rfl, by omega⟩ (wH (by simp; omega))).elim fun o h => ?_
  rotate_left
  · rw [h.1, h.2]; rfl
  · rintro _ ⟨i, rfl, hi⟩
    rw [zpS, zo]
    rcases Nat.lt_or_ge i l.length with hlt | hge
    · have hx := List.getElem?_eq_getElem hlt
      rw [if_pos (by omega), xL hx, Option.bind_some, ziI, Option.bind_some, yX (by omega)]
      refine ⟨_, rfl, ⟨i + 1, ?_, hlt⟩, ?_⟩
      · rw [List.take_add_one, hx]; simp only [Option.toList_some, List.foldl_append, List.foldl_cons, List.foldl_nil]
      · show l.length - ((i + 1 : Nat) : Int).toNat < l.length - (i : Int).toNat
        omega
    · rw [if_neg (by omega)]
      have : i = l.length := by omega
      subst this
      exact ⟨_, rfl, by rw [List.take_length]; rfl⟩
theorem zo9 {p : zd} (hl : p.Regs.length < 1000000) (hr : ∀ r ∈ p.Regs, r.length < 1000000) : zbt p = some (Yt p, ()) := by
  rw [znY]
  refine (ue (f := zbU) (fun a => ∃ i : Nat, a = ((p.Regs.take i).foldl (fun s l => s ||| zdj l) p.Roots, p.Regs, (p.Regs.length : Int), (i : Int), ()) ∧ i ≤ p.Regs.length) (fun a => p.Regs.length - a.2.2.2.1.toNat) (fun o => o = .brk (Yt p, ())) ?_ (p.Roots, p.Regs, (p.Regs.length : Int), 0, ()) ⟨0, rfl, by omega⟩ (wH (by simp; omega))).elim fun o h => ?_
  rotate_left
  · rw [h.1, h.2]; rfl
  · rintro _ ⟨i, rfl, hi⟩
    rw [zli, zo]
    rcases Nat.lt_or_ge i p.Regs.length with hlt | hge
    · have hx := List.getElem?_eq_getElem hlt
      rw [if_pos (by omega), xL hx, Option.bind_some, zxU (hr _ (List.getElem_mem hlt)), Option.bind_some, yX (by omega)]
      refine ⟨_, rfl, ⟨i + 1, ?_, hlt⟩, ?_⟩
      · rw [List.take_add_one, hx]; simp only [Option.toList_some, List.foldl_append, List.foldl_cons, List.foldl_nil]
      · show p.Regs.length - ((i + 1 : Nat) : Int).toNat < p.Regs.length - (i : Int).toNat
        omega
    · rw [if_neg (by omega)]
      have : i = p.Regs.length := by omega
      subst this
      exact ⟨_, rfl, by rw [List.take_length]; rfl⟩
theorem zvr {l : List (List Int)} (hl : l.length < 1000000) (h : ∀ r ∈ l, r.length < 1000000) : wx l = some (l, ()) := by
  have key : ∀ n : Int, n = (l.length : Int) → yj yC (n, 0, l, ()) = some (.brk (l, ())) := by
    rintro _ rfl
    refine (ue (f := yC) (fun a => ∃ i : Nat, a = ((l.length : Int), (i : Int), l, ()) ∧ i ≤ l.length) (fun a => l.length - a.2.1.toNat) (fun o => o = .brk (l, ())) ?_ ((l.length : Int), 0, l, ()) ⟨0, rfl, by omega⟩ (wH (by simp; omega))).elim fun o h => ?_
    rotate_left
    · rw [h.1, h.2]
    · rintro _ ⟨i, rfl, hi⟩
      rw [YO, zo]
      rcases Nat.lt_or_ge i l.length with hlt | hge
      · have hx := List.getElem?_eq_getElem hlt
        have hr := h _ (List.getElem_mem hlt)
        have e : xE l (i : Int) = some i := by rw [uh (by omega) (by omega)]; simp
        rw [if_pos (by omega), e]
        simp only [Option.bind_some]
        rw [hx, Option.bind_some, WZ (by omega), Option.bind_some, yX (by omega)]
        refine ⟨_, rfl, ⟨i + 1, by simp, hlt⟩, ?_⟩
        show l.length - ((i + 1 : Nat) : Int).toNat < l.length - (i : Int).toNat
        omega
      · rw [if_neg (by omega)]
        have : i = l.length := by omega
        subst this
        exact ⟨_, rfl, rfl⟩
  have hc : Y4 (l.length : Int) = some l.length := by rw [zgk (by omega) (by omega)]; simp
  rw [Xw]
  simp only [decide_true, cond_true, hc, Option.bind_some, List.length_replicate]
  cases l with
  | nil => simp; rw [key 0 rfl]; rfl
  | cons a r => simp only [List.isEmpty_cons, cond_false]; rw [key _ rfl]; rfl
def ziC (cap : Int) : List (BitVec 64) := [1#64, 1#64] ++ List.replicate cap.toNat 0#64
theorem zs5 {c : Int} (h : 1 ≤ c) (h2 : c ≤ 64) : zeu c = some (ziC c, ()) := by
  have e : (if 64 < (if c < 1 then (1 : Int) else c) then (64 : Int) else (if c < 1 then (1 : Int) else c)) = c := by
    rw [if_neg (show ¬ c < 1 by omega), if_neg (by omega)]
  have w : w64 (2 + c) = 2 + c := z3 (by omega) (by omega)
  have hc : Y4 (2 + c) = some (2 + c.toNat) := by rw [zgk (by omega) (by omega)]; congr 1; omega
  rw [zmY]
  simp only [zo, e, w, if_true, hc, Option.bind_some]
  rw [uh (by omega) (by simp; omega), Option.bind_some, uh (by omega) (by simp; omega), Option.bind_some]
  have e2 : List.replicate (2 + c.toNat) 0#64 = 0#64 :: 0#64 :: List.replicate c.toNat 0#64 := by rw [Nat.add_comm 2]; rfl
  rw [e2]; rfl
theorem zuz {m : Int} (h : 0 ≤ m) (h2 : m ≤ 16) : zf0 m = some (⟨0, 0, 0, List.replicate m.toNat 0⟩, ()) := by
  have e : (if (if 16 < m then (16 : Int) else m) < 0 then (0 : Int) else (if 16 < m then (16 : Int) else m)) = m := by
    rw [if_neg (show ¬ 16 < m by omega), if_neg (by omega)]
  have hc : Y4 m = some m.toNat := zgk (by omega) (by omega)
  rw [zn7]
  simp only [zo, e, if_true, hc, Option.bind_some]
def links (m : List (BitVec 64)) (next : Int) : List Int → List (BitVec 64)
  | [] => m
  | [a] => st m (wc (next + a)) 0#64
  | a :: b :: l => links (st m (wc (next + a)) (BitVec.ofInt 64 b)) next (b :: l)
def zjM (m : List (BitVec 64)) (head next : Int) (l : List Int) : List (BitVec 64) := st (links m next l) head (WF 0#64 (l.headD 0))
theorem Vj (m : List (BitVec 64)) (a : Int) (v : BitVec 64) : (st m a v).length = m.length := by unfold st; split <;> simp
theorem zhA : ∀ (l : List Int) (m : List (BitVec 64)) (n : Int), (links m n l).length = m.length
  | [], _, _ => rfl
  | [a], m, n => Vj _ _ _
  | a :: b :: l, m, n => by simp only [links]; rw [zhA (b :: l), Vj]
theorem zns (m : List (BitVec 64)) (h n : Int) (l : List Int) : (zjM m h n l).length = m.length := by unfold zjM; rw [Vj, zhA]
theorem zm2 {head next : Int} {l : List Int} (hl : l.length < 1000000) : ∀ (k : Nat) (m : List (BitVec 64)) (i : Nat), l.length - i = k → i ≤ l.length → m.length < 4294967296 →
    ∀ n, k < n → xS zcE n (m, head, next, l, (l.length : Int), (i : Int), ()) = some (.brk (links m next (l.drop i), head, l, ()))
  | 0, m, i, hk, hi, hm, n + 1, hn => by
    have : i = l.length := by omega
    subst this
    simp only [xS]
    rw [zeB, zo, if_neg (by omega), Option.bind_some, List.drop_length]; rfl
  | k + 1, m, i, hk, hi, hm, n + 1, hn => by
    have hlt : i < l.length := by omega
    have hx := List.getElem?_eq_getElem hlt
    simp only [xS]
    rw [zeB, zo, if_pos (by omega), yX (by omega), zo, xu]
    by_cases h2 : i + 1 < l.length
    · have hy := List.getElem?_eq_getElem h2
      have ed : l.drop i = l[i] :: l[i + 1] :: l.drop (i + 2) := by
        rw [List.drop_eq_getElem_cons hlt, List.drop_eq_getElem_cons h2]
      rw [if_pos (by omega), xL hy, Option.bind_some, xL hx, Option.bind_some, zaa hm, Option.bind_some, Option.bind_some]
      dsimp only
      rw [zm2 hl k _ (i + 1) (by omega) (by omega) (by rw [Vj]; exact hm) n (by omega), ed]
      rw [List.drop_eq_getElem_cons h2]; rfl
    · have ed : l.drop i = [l[i]] := by
        rw [List.drop_eq_getElem_cons hlt, List.drop_eq_nil_of_le (by omega)]
      rw [if_neg (by omega), xL hx, Option.bind_some, zaa hm, Option.bind_some, Option.bind_some]
      dsimp only
      rw [zm2 hl k _ (i + 1) (by omega) (by omega) (by rw [Vj]; exact hm) n (by omega), ed, List.drop_eq_nil_of_le (by omega)]
      rfl
theorem zqm {m : List (BitVec 64)} (hm : m.length < 4294967296) {head next : Int} {l : List Int} (hl : l.length < 1000000) : zdi m head next l = some (zjM m head next l, ()) := by
  have e := zm2 (head := head) (next := next) hl l.length m 0 (by omega) (by omega) hm uJ (wH (by omega))
  rw [show ((0 : Nat) : Int) = 0 from rfl] at e
  rw [zpf, W8, e]
  simp only [Option.bind_some, List.drop_zero, zo]
  unfold zjM
  cases l with
  | nil =>
    rw [if_neg (by simp), zfx, Option.bind_some, zaa (by rw [zhA]; exact hm)]; rfl
  | cons a r =>
    have : idx (a :: r) 0 = some a := by rw [vH (by omega)]; rfl
    rw [if_pos (by simp), this, Option.bind_some, zfx, Option.bind_some, zaa (by rw [zhA]; exact hm)]; rfl
def zjA : Nat → BitVec 64 → Option (List Int)
  | 0, _ => none
  | f + 1, s => bif decide (s = 0#64) then some [] else (zjA f (s &&& (s - 1#64))).map fun l => (((Go.Lib.ctz 64 s.toNat : Nat) : Int) + 1) :: l
theorem ztj : ∀ t : Fin 64, zjA 66 (BitVec.ofNat 64 t.1) = some (((List.range 6).filter fun i => (BitVec.ofNat 64 t.1).getLsbD i).map fun i : Nat => (i : Int) + 1) := by decide +kernel
def zdl (s : BitVec 64) : List Int := ((List.range 6).filter fun i => s.getLsbD i).map fun i : Nat => (i : Int) + 1
theorem zsD {s : BitVec 64} (h : s &&& ~~~63#64 = 0#64) : ∃ t : Fin 64, s = BitVec.ofNat 64 t.1 := by
  have h2 : s = s &&& 63#64 := by
    apply BitVec.eq_of_getLsbD_eq
    intro i hi
    have := congrArg (fun x => x.getLsbD i) h
    simp only [BitVec.getLsbD_and, BitVec.getLsbD_not, hi, decide_true, Bool.true_and, BitVec.getLsbD_zero] at this ⊢
    cases h1 : s.getLsbD i <;> cases h3 : (63#64 : BitVec 64).getLsbD i <;> simp_all
  have h3 : s.toNat < 64 := by
    rw [h2, BitVec.toNat_and]
    exact Nat.lt_of_le_of_lt Nat.and_le_right (by decide)
  exact ⟨⟨s.toNat, h3⟩, by simp⟩
theorem zyw : ∀ t : Fin 64, Go.Lib.ctz 64 t.1 ≤ 64 := by decide +kernel
theorem zqx : ∀ (f : Nat) (s : BitVec 64), s.toNat < 64 → Wj f s = zjA f s
  | 0, _, _ => rfl
  | f + 1, s, h => by
    simp only [Wj, zjA]
    rw [zqx f _ (by rw [BitVec.toNat_and]; exact Nat.lt_of_le_of_lt Nat.and_le_left h)]
    have : Go.Lib.ctz 64 s.toNat ≤ 64 := zyw ⟨s.toNat, h⟩
    have e : w64 (tz s + 1) = ((Go.Lib.ctz 64 s.toNat : Nat) : Int) + 1 := by
      unfold tz
      exact z3 (by omega) (by omega)
    rw [e]
theorem zjS : ∀ (l acc : List Int), (acc.length + l.length) < 4294967296 → ZN zer l (acc, ()) = some (acc ++ l, ())
  | [], acc, _ => by simp [ZN]
  | a :: l, acc, h => by
    simp only [List.length_cons] at h
    rw [ZN, zmM, we (by simp; omega), Option.bind_some, Option.bind_some, zjS l _ (by simp; omega)]
    simp
theorem zvy (s : BitVec 64) : (zdl s).length ≤ 6 := by
  unfold zdl
  rw [List.length_map]
  exact Nat.le_trans (List.length_filter_le _ _) (by simp)
theorem zwS {s : BitVec 64} (h : s &&& ~~~63#64 = 0#64) : zbS s = some (zdl s, ()) := by
  obtain ⟨t, rfl⟩ := zsD h
  have e : zgw (BitVec.ofNat 64 t.1) = some (zdl (BitVec.ofNat 64 t.1)) := by
    show Wj 66 _ = _
    rw [zqx 66 _ (by simp; omega), ztj t]; rfl
  have := zvy (BitVec.ofNat 64 t.1)
  rw [zko, zkr, Option.bind_some, e, Option.bind_some, zjS _ _ (by simp; omega)]
  rfl
theorem zoc (n : Nat) (hn : 1 ≤ n) : ∀ (f : Nat) (l : List Int), (Zz n f l).length ≤ l.length
  | 0, l => by simp [Zz]
  | f + 1, [] => by simp [Zz]
  | f + 1, x :: l => by
    have := zoc n hn f ((x :: l).drop n)
    simp only [Zz, List.length_cons, List.length_drop] at this ⊢
    omega
theorem zhV (n : Nat) : ∀ (f : Nat) (l c : List Int), c ∈ Zz n f l → c.length ≤ l.length
  | 0, l, c, h => by simp [Zz] at h
  | f + 1, [], c, h => by simp [Zz] at h
  | f + 1, x :: l, c, h => by
    simp only [Zz, List.mem_cons] at h
    rcases h with rfl | h
    · rw [List.length_take]; exact Nat.min_le_right _ _
    · have := zhV n f _ c h
      simp only [List.length_drop] at this
      omega
def Ut (p : zd) (w : Nat) : zj := ⟨0, 0, 0, (w : Int) + 1, 0, [], ⟨2, 0, Z6 p ((w : Int) + 1), p.Cap, 0#64, 0#64, 0, 0⟩, ⟨0, 0, 0, 0, 0#64, 0, 0, 0⟩, ⟨0, 0, 0, 0, ⟨0, 0, 0, 0, 0#64, 0#64, 0, 0⟩, ⟨0, 0, 0, 0, 0#64, 0, 0, 0⟩, 0, 0⟩⟩
def Wv (p : zd) (k : Nat) : List (BitVec 64) := (List.range k).flatMap fun _ => ziC p.Cap
theorem znF (c : Int) : (ziC c).length = c.toNat + 2 := by unfold ziC; rw [List.length_append, List.length_replicate]; exact Nat.add_comm _ _
theorem zmC (p : zd) (k : Nat) : Wv p (k + 1) = Wv p k ++ ziC p.Cap := by unfold Wv; rw [List.range_succ, List.flatMap_append]; simp
theorem zfj (p : zd) : ∀ k, (Wv p k).length = k * (p.Cap.toNat + 2)
  | 0 => by simp [Wv]
  | k + 1 => by rw [zmC, List.length_append, zfj p k, znF, Nat.succ_mul]
theorem zyg {p : zd} {s1 : BitVec 64} {s5 : Int} {s6 : Int} {s7 : Int} {s8 : Int} {s9 : Int} {s10 : Int} {s11 : Int} {s12 : Int} {s13 : Int} {s14 : BitVec 64} {s15 : Int} {s16 : zt} {s17 : Int} {s18 : Int} {s19 : Bool} {s20 : Bool} {s21 : Int} {s22 : Int} {s23 : Int} {s24 : Int} {s25 : zr} {s26 : zd} {s27 : Int} {s28 : zt} {s29 : Int} {s30 : Int} {s31 : Bool} {s32 : Bool} {s33 : Int} {s34 : zk} {s35 : zr} {s36 : List (List Int)} {s37 : List (List Int)} {s38 : List (List zg)} {s39 : List zi} {s40 : List (List Int)} {s41 : List (BitVec 64)} {s42 : List (List Int)} {s43 : List Int} {s44 : List Int} {s45 : List zj} {s46 : List zc} {s47 : List (List Int)} {s49 : List (List Int)} {s50 : List Int} {s52 : List zc} (hp : zL p) :
    yj Uu (s1, p.Workers, 0, p, s5, s6, s7, s8, s9, s10, s11, s12, s13, s14, s15, s16, s17, s18, s19, s20, s21, s22, s23, s24, s25, s26, s27, s28, s29, s30, s31, s32, s33, s34, s35, s36, s37, s38, s39, s40, s41, s42, s43, s44, s45, s46, s47, [], s49, s50, [], s52, ()) = some (.brk (s1, p, s5, s6, s7, s8, s9, s10, s11, s12, s13, s14, s15, s16, s17, s18, s19, s20, s21, s22, s23, s24, s25, s26, s27, s28, s29, s30, s31, s32, s33, s34, s35, s36, s37, s38, s39, s40, s41, s42, s43, s44, s45, s46, s47, (Wv p p.Workers.toNat), s49, s50, ((List.range p.Workers.toNat).map (Ut p)), s52, ())) := by
  have hw := hp.wk
  have hc := hp.cap
  refine (ue (f := Uu) (fun a => ∃ i : Nat, a = (s1, p.Workers, (i : Int), p, s5, s6, s7, s8, s9, s10, s11, s12, s13, s14, s15, s16, s17, s18, s19, s20, s21, s22, s23, s24, s25, s26, s27, s28, s29, s30, s31, s32, s33, s34, s35, s36, s37, s38, s39, s40, s41, s42, s43, s44, s45, s46, s47, (Wv p i), s49, s50, ((List.range i).map (Ut p)), s52, ()) ∧ (i : Int) ≤ p.Workers) (fun a => (p.Workers - a.2.2.1).toNat) (fun o => o = .brk (s1, p, s5, s6, s7, s8, s9, s10, s11, s12, s13, s14, s15, s16, s17, s18, s19, s20, s21, s22, s23, s24, s25, s26, s27, s28, s29, s30, s31, s32, s33, s34, s35, s36, s37, s38, s39, s40, s41, s42, s43, s44, s45, s46, s47, (Wv p p.Workers.toNat), s49, s50, ((List.range p.Workers.toNat).map (Ut p)), s52, ())) ?_ (s1, p.Workers, 0, p, s5, s6, s7, s8, s9, s10, s11, s12, s13, s14, s15, s16, s17, s18, s19, s20, s21, s22, s23, s24, s25, s26, s27, s28, s29, s30, s31, s32, s33, s34, s35, s36, s37, s38, s39, s40, s41, s42, s43, s44, s45, s46, s47, [], s49, s50, [], s52, ()) ⟨0, rfl, by omega⟩ (wH (by dsimp only; omega))).elim fun o h => ?_
  rotate_left
  · rw [h.1, h.2]
  · rintro _ ⟨i, rfl, hi⟩
    rw [zmi, zo]
    by_cases hlt : (i : Int) < p.Workers
    · have hl := zfj p i
      have hl2 := znF p.Cap
      have hb : i * (p.Cap.toNat + 2) ≤ 3 * 5 := Nat.mul_le_mul (by omega) (by omega)
      rw [if_pos hlt, zs5 hc.1 (by omega), Option.bind_some, we (l := Wv p i ++ ziC p.Cap) (by rw [List.length_append]; omega), Option.bind_some, zmw, Option.bind_some, zgh, Option.bind_some, we (by simp <;> omega), Option.bind_some, yX (by omega)]
      refine ⟨_, rfl, ⟨i + 1, ?_, by omega⟩, ?_⟩
      · rw [zmC, List.range_succ, List.map_append]; rfl
      · show (p.Workers - ((i + 1 : Nat) : Int)).toNat < (p.Workers - (i : Int)).toNat
        omega
    · rw [if_neg hlt]
      have : i = p.Workers.toNat := by omega
      subst this
      exact ⟨_, rfl, rfl⟩
def YZ (k : Nat) : List Int := (List.range k).map fun i : Nat => (i : Int) + 1
theorem zr7 (k : Nat) : (YZ k).length = k := by simp [YZ]
theorem zw6 {b : Int} {s1 : BitVec 64} {s4 : zd} {s5 : Int} {s6 : Int} {s7 : Int} {s8 : Int} {s9 : Int} {s10 : Int} {s11 : Int} {s12 : Int} {s13 : Int} {s14 : BitVec 64} {s15 : Int} {s16 : zt} {s17 : Int} {s18 : Int} {s19 : Bool} {s20 : Bool} {s21 : Int} {s22 : Int} {s23 : Int} {s24 : Int} {s25 : zr} {s26 : zd} {s27 : Int} {s28 : zt} {s29 : Int} {s30 : Int} {s31 : Bool} {s32 : Bool} {s33 : Int} {s34 : zk} {s35 : zr} {s37 : List (List Int)} {s38 : List (List Int)} {s39 : List (List zg)} {s40 : List zi} {s41 : List (List Int)} {s42 : List (BitVec 64)} {s43 : List (List Int)} {s44 : List Int} {s45 : List Int} {s46 : List zj} {s47 : List zc} {s48 : List (List Int)} {s49 : List (BitVec 64)} {s50 : List (List Int)} {s51 : List Int} {s52 : List zj} {s53 : List zc} (hb : 0 ≤ b ∧ b < 1000) :
    yj VT (s1, b, 0, s4, s5, s6, s7, s8, s9, s10, s11, s12, s13, s14, s15, s16, s17, s18, s19, s20, s21, s22, s23, s24, s25, s26, s27, s28, s29, s30, s31, s32, s33, s34, s35, [], s37, s38, s39, s40, s41, s42, s43, s44, s45, s46, s47, s48, s49, s50, s51, s52, s53, ()) = some (.brk (s1, s4, s5, s6, s7, s8, s9, s10, s11, s12, s13, s14, s15, s16, s17, s18, s19, s20, s21, s22, s23, s24, s25, s26, s27, s28, s29, s30, s31, s32, s33, s34, s35, (YZ b.toNat), s37, s38, s39, s40, s41, s42, s43, s44, s45, s46, s47, s48, s49, s50, s51, s52, s53, ())) := by
  refine (ue (f := VT) (fun a => ∃ i : Nat, a = (s1, b, (i : Int), s4, s5, s6, s7, s8, s9, s10, s11, s12, s13, s14, s15, s16, s17, s18, s19, s20, s21, s22, s23, s24, s25, s26, s27, s28, s29, s30, s31, s32, s33, s34, s35, (YZ i), s37, s38, s39, s40, s41, s42, s43, s44, s45, s46, s47, s48, s49, s50, s51, s52, s53, ()) ∧ (i : Int) ≤ b) (fun a => (b - a.2.2.1).toNat) (fun o => o = .brk (s1, s4, s5, s6, s7, s8, s9, s10, s11, s12, s13, s14, s15, s16, s17, s18, s19, s20, s21, s22, s23, s24, s25, s26, s27, s28, s29, s30, s31, s32, s33, s34, s35, (YZ b.toNat), s37, s38, s39, s40, s41, s42, s43, s44, s45, s46, s47, s48, s49, s50, s51, s52, s53, ())) ?_ (s1, b, 0, s4, s5, s6, s7, s8, s9, s10, s11, s12, s13, s14, s15, s16, s17, s18, s19, s20, s21, s22, s23, s24, s25, s26, s27, s28, s29, s30, s31, s32, s33, s34, s35, [], s37, s38, s39, s40, s41, s42, s43, s44, s45, s46, s47, s48, s49, s50, s51, s52, s53, ()) ⟨0, rfl, by omega⟩ (wH (by dsimp only; omega))).elim fun o h => ?_
  rotate_left
  · rw [h.1, h.2]
  · rintro _ ⟨i, rfl, hi⟩
    rw [zlo, zo]
    by_cases hlt : (i : Int) < b
    · have := zr7 i
      rw [if_pos hlt, we (by rw [List.length_append]; simp; omega), Option.bind_some, yX (by omega)]
      refine ⟨_, rfl, ⟨i + 1, ?_, by omega⟩, ?_⟩
      · unfold YZ; rw [List.range_succ, List.map_append]; rfl
      · show (b - ((i + 1 : Nat) : Int)).toNat < (b - (i : Int)).toNat
        omega
    · rw [if_neg hlt]
      have : i = b.toNat := by omega
      subst this
      exact ⟨_, rfl, rfl⟩
theorem ztD {s1 : zd} {s2 : Int} {s3 : Int} {s4 : Int} {s5 : Int} {s6 : Int} {s7 : Int} {s8 : Int} {s9 : Int} {s10 : Int} {s11 : BitVec 64} {s12 : Int} {s13 : zt} {s14 : Int} {s15 : Int} {s16 : Bool} {s17 : Bool} {s18 : Int} {s19 : Int} {s20 : Int} {s21 : Int} {s22 : zr} {s23 : zd} {s24 : Int} {s25 : zt} {s26 : Int} {s27 : Int} {s28 : Bool} {s29 : Bool} {s30 : Int} {s31 : zk} {s32 : zr} {s33 : List Int} {s34 : List (List Int)} {s35 : List (List Int)} {s36 : List (List zg)} {s37 : List zi} {s38 : List (List Int)} {s39 : List (BitVec 64)} {s40 : List (List Int)} {s41 : List Int} {s42 : List Int} {s43 : List zj} {s44 : List zc} {s45 : List (List Int)} {s46 : List (BitVec 64)} {s48 : List Int} {s49 : List zj} {s50 : List zc} : ∀ (ys acc : List (List Int)), acc.length + ys.length < 1000000 → (∀ c ∈ ys, c.length < 1000000) → ZN zbs ys (s1, s2, s3, s4, s5, s6, s7, s8, s9, s10, s11, s12, s13, s14, s15, s16, s17, s18, s19, s20, s21, s22, s23, s24, s25, s26, s27, s28, s29, s30, s31, s32, s33, s34, s35, s36, s37, s38, s39, s40, s41, s42, s43, s44, s45, s46, acc, s48, s49, s50, ()) = some (s1, s2, s3, s4, s5, s6, s7, s8, s9, s10, s11, s12, s13, s14, s15, s16, s17, s18, s19, s20, s21, s22, s23, s24, s25, s26, s27, s28, s29, s30, s31, s32, s33, s34, s35, s36, s37, s38, s39, s40, s41, s42, s43, s44, s45, s46, (acc ++ ys), s48, s49, s50, ())
  | [], acc, _, _ => by simp [ZN]
  | y :: ys, acc, h, hc => by
    simp only [List.length_cons] at h
    have hy := hc y (List.mem_cons_self ..)
    rw [ZN, zk8, WZ (by omega), Option.bind_some, we (by simp <;> omega), Option.bind_some, Option.bind_some, ztD ys _ (by simp <;> omega) (fun c h' => hc c (List.mem_cons_of_mem _ h'))]
    simp
def wX (r : List Int) : zc := ⟨0, 0, 0, 0, 0, 0, 0, 0, r, [], [], ⟨0, 0, 0, 0, 0#64, 0, 0, 0⟩, ⟨0, 0, 0, 0, ⟨0, 0, 0, 0, 0#64, 0#64, 0, 0⟩, ⟨0, 0, 0, 0, 0#64, 0, 0, 0⟩, 0, 0⟩⟩
theorem zxy {p : zd} {s4 : Int} {s5 : Int} {s6 : Int} {s7 : Int} {s8 : Int} {s9 : Int} {s10 : Int} {s11 : Int} {s12 : Int} {s13 : BitVec 64} {s14 : Int} {s15 : zt} {s16 : Int} {s17 : Int} {s18 : Bool} {s19 : Bool} {s20 : Int} {s21 : Int} {s22 : Int} {s23 : Int} {s24 : zr} {s25 : zd} {s26 : Int} {s27 : List (BitVec 64)} {s28 : zt} {s29 : Int} {s30 : Int} {s31 : Bool} {s32 : Bool} {s33 : Int} {s34 : zk} {s35 : zr} {s36 : List (List Int)} {s37 : List (List Int)} {s38 : List (List zg)} {s39 : List zi} {s40 : List (List Int)} {s41 : List (BitVec 64)} {s42 : List (List Int)} {s43 : List Int} {s44 : List Int} {s45 : List zj} {s46 : List zc} {s47 : List (List Int)} {s48 : List (List Int)} {s49 : List Int} {s50 : List zj} (hl : p.Regs.length < 1000000) (hr : ∀ r ∈ p.Regs, r.length < 1000000) :
    yj VS (p.Regs, (p.Regs.length : Int), 0, s4, s5, s6, s7, s8, s9, s10, s11, s12, s13, s14, s15, s16, s17, s18, s19, s20, s21, s22, s23, s24, s25, s26, s27, s28, s29, s30, s31, s32, s33, s34, s35, s36, s37, s38, s39, s40, s41, s42, s43, s44, s45, s46, s47, s48, s49, s50, [], ()) = some (.brk (s4, s5, s6, s7, s8, s9, s10, s11, s12, s13, s14, s15, s16, s17, s18, s19, s20, s21, s22, s23, s24, s25, s26, s27, s28, s29, s30, s31, s32, s33, s34, s35, s36, s37, s38, s39, s40, s41, s42, s43, s44, s45, s46, s47, s48, s49, s50, (p.Regs.map wX), ())) := by
  refine (ue (f := VS) (fun a => ∃ i : Nat, a = (p.Regs, (p.Regs.length : Int), (i : Int), s4, s5, s6, s7, s8, s9, s10, s11, s12, s13, s14, s15, s16, s17, s18, s19, s20, s21, s22, s23, s24, s25, s26, s27, s28, s29, s30, s31, s32, s33, s34, s35, s36, s37, s38, s39, s40, s41, s42, s43, s44, s45, s46, s47, s48, s49, s50, ((p.Regs.take i).map wX), ()) ∧ i ≤ p.Regs.length) (fun a => p.Regs.length - a.2.2.1.toNat) (fun o => o = .brk (s4, s5, s6, s7, s8, s9, s10, s11, s12, s13, s14, s15, s16, s17, s18, s19, s20, s21, s22, s23, s24, s25, s26, s27, s28, s29, s30, s31, s32, s33, s34, s35, s36, s37, s38, s39, s40, s41, s42, s43, s44, s45, s46, s47, s48, s49, s50, (p.Regs.map wX), ())) ?_ (p.Regs, (p.Regs.length : Int), 0, s4, s5, s6, s7, s8, s9, s10, s11, s12, s13, s14, s15, s16, s17, s18, s19, s20, s21, s22, s23, s24, s25, s26, s27, s28, s29, s30, s31, s32, s33, s34, s35, s36, s37, s38, s39, s40, s41, s42, s43, s44, s45, s46, s47, s48, s49, s50, [], ()) ⟨0, rfl, by omega⟩ (wH (by dsimp only; omega))).elim fun o h => ?_
  rotate_left
  · rw [h.1, h.2]
  · rintro _ ⟨i, rfl, hi⟩
    rw [zlE, zo]
    rcases Nat.lt_or_ge i p.Regs.length with hlt | hge
    · have hx := List.getElem?_eq_getElem hlt
      have hh := hr _ (List.getElem_mem hlt)
      rw [if_pos (by omega), xL hx, Option.bind_some, WZ (by omega), Option.bind_some, we (by simp <;> omega), Option.bind_some, yX (by omega)]
      refine ⟨_, rfl, ⟨i + 1, ?_, hlt⟩, ?_⟩
      · rw [List.take_add_one, hx, List.map_append]; rfl
      · show p.Regs.length - ((i + 1 : Nat) : Int).toNat < p.Regs.length - (i : Int).toNat
        omega
    · rw [if_neg (by omega)]
      have : i = p.Regs.length := by omega
      subst this
      exact ⟨_, rfl, by rw [List.take_length]⟩
def xO (p : zd) : Nat := (p.Most + p.Workers + p.Mutators).toNat
def uT (p : zd) : List (List Int) := Zz p.Bin.toNat (zdl (Yt p)).length (zdl (Yt p))
def vw (p : zd) : zb :=
  { P := p, H := p.H,
    M := zjM (zjM (Wv p p.Workers.toNat ++ List.replicate (2 + xO p) 0#64) (vE p) (yS p) ((YZ (xO p)).take (uT p).length)) (yS p) (yS p) ((YZ (xO p)).drop (uT p).length),
    Bins := [[]] ++ uT p ++ List.replicate (xO p - (uT p).length) [],
    T := ⟨Yt p, 0#64⟩, Work := cnt (Yt p), Epoch := 0, Flag := false, Done := false, Restarts := 0,
    Acks := List.replicate p.Mutators.toNat 0, L := ⟨0, 0, 0, List.replicate p.Mutators.toNat 0⟩,
    Ws := (List.range p.Workers.toNat).map (Ut p), Ms := p.Regs.map wX, D := ⟨0, 0⟩ }
theorem zyO : ∀ r : Fin 7, bit (r.1 : Int) &&& ~~~63#64 = 0#64 := by decide
theorem zvv {r n : Int} (h : 0 ≤ r) (h2 : r ≤ n) (h3 : n ≤ 6) : bit r &&& ~~~wC n = 0#64 := by
  have := zqr ⟨r.toNat, by omega⟩ ⟨n.toNat, by omega⟩ (by show r.toNat ≤ n.toNat; omega)
  simpa [Int.toNat_of_nonneg h, Int.toNat_of_nonneg (show 0 ≤ n by omega)] using this
theorem zrw {a b c : BitVec 64} (ha : a &&& ~~~c = 0#64) (hb : b &&& ~~~c = 0#64) : (a ||| b) &&& ~~~c = 0#64 := by
  apply BitVec.eq_of_getLsbD_eq
  intro i hi
  have h1 := congrArg (fun x => x.getLsbD i) ha
  have h2 := congrArg (fun x => x.getLsbD i) hb
  simp only [BitVec.getLsbD_and, BitVec.getLsbD_or, BitVec.getLsbD_not, BitVec.getLsbD_zero, hi, decide_true, Bool.true_and] at h1 h2 ⊢
  revert h1 h2
  generalize a.getLsbD i = x
  generalize b.getLsbD i = y
  generalize c.getLsbD i = z
  cases x <;> cases y <;> cases z <;> decide
theorem zun {c : BitVec 64} {l : List Int} (h : ∀ o ∈ l, bit o &&& ~~~c = 0#64) : ∀ (z : BitVec 64), z &&& ~~~c = 0#64 → l.foldl (fun s o => s ||| bit o) z &&& ~~~c = 0#64 := by
  induction l with
  | nil => intro z hz; exact hz
  | cons a l ih => intro z hz; exact ih (fun o ho => h o (List.mem_cons_of_mem _ ho)) _ (zrw hz (h a (List.mem_cons_self ..)))
theorem zmH {p : zd} (h : zL p) : Yt p &&& ~~~wC (p.H.Objs.length : Int) = 0#64 := by
  have hn := h.n
  have key : ∀ (L : List (List Int)) (z : BitVec 64), (∀ r ∈ L, ∀ v ∈ r, 0 ≤ v ∧ v ≤ (p.H.Objs.length : Int)) → z &&& ~~~wC (p.H.Objs.length : Int) = 0#64 → L.foldl (fun s l => s ||| zdj l) z &&& ~~~wC (p.H.Objs.length : Int) = 0#64 := by
    intro L
    induction L with
    | nil => intro z _ hz; exact hz
    | cons r L ih =>
      intro z hr hz
      refine ih _ (fun r' h' => hr r' (List.mem_cons_of_mem _ h')) (zrw hz (zun (fun o ho => ?_) _ (by simp)))
      have := hr r (List.mem_cons_self ..) o ho
      exact zvv this.1 this.2 hn.2
  exact key _ _ (fun r hr => (h.reg r hr).2) (zmK h)
theorem ztm {a b c : BitVec 64} (h : a &&& ~~~b = 0#64) (h2 : b &&& ~~~c = 0#64) : a &&& ~~~c = 0#64 := by
  apply BitVec.eq_of_getLsbD_eq
  intro i hi
  have h1 := congrArg (fun x => x.getLsbD i) h
  have h2 := congrArg (fun x => x.getLsbD i) h2
  simp only [BitVec.getLsbD_and, BitVec.getLsbD_not, BitVec.getLsbD_zero, hi, decide_true, Bool.true_and] at h1 h2 ⊢
  revert h1 h2
  generalize a.getLsbD i = x
  generalize b.getLsbD i = y
  generalize c.getLsbD i = z
  cases x <;> cases y <;> cases z <;> decide
theorem zs1 : ∀ n : Fin 7, wC (n.1 : Int) &&& ~~~63#64 = 0#64 := by decide
theorem zmB {p : zd} (h : zL p) : Yt p &&& ~~~63#64 = 0#64 := by
  have hn := h.n
  refine ztm (zmH h) ?_
  exact zs1 ⟨p.H.Objs.length, by omega⟩
theorem zuD : ∀ (n : Fin 7) (t : Fin 64), BitVec.ofNat 64 t.1 &&& ~~~wC (n.1 : Int) = 0#64 → (zdl (BitVec.ofNat 64 t.1)).length ≤ n.1 := by decide +kernel
theorem zkN {p : zd} (h : zL p) : (zdl (Yt p)).length ≤ p.H.Objs.length := by
  have hn := h.n
  obtain ⟨t, ht⟩ := zsD (zmB h)
  have h2 := zmH h
  rw [ht] at h2 ⊢
  exact zuD ⟨p.H.Objs.length, by omega⟩ t h2
theorem zr8 {p : zd} (h : zL p) : (uT p).length ≤ p.H.Objs.length := by
  have hb := h.bin
  exact Nat.le_trans (zoc _ (by omega) _ _) (zkN h)
theorem zkZ {p : zd} (h : zL p) : UZ p = some (vw p, ()) := by
  have hw := h.wk
  have hc := h.cap
  have hm := h.mt
  have hb := h.bin
  have hn := h.n
  have hmo := h.most
  have hrl := h.regs
  have hreg : ∀ r ∈ p.Regs, r.length < 1000000 := fun r hr => by have := (h.reg r hr).1; omega
  have hobj : ∀ o ∈ p.H.Objs, o.length < 1000000 := fun o ho => by have := (h.objs o ho).1; have := h.slots; omega
  have hfl := zr8 h
  have hgl := zkN h
  have hcl := zfj p p.Workers.toNat
  have hcb : p.Workers.toNat * (p.Cap.toNat + 2) ≤ 3 * 5 := Nat.mul_le_mul (by omega) (by omega)
  have hbn : (xO p : Int) = p.Most + p.Workers + p.Mutators := by unfold xO; omega
  have eb : zdd p = some ((xO p : Int), ()) := by
    rw [zpk, z3 (a := p.Most + p.Workers) (by omega) (by omega), z3 (by omega) (by omega), hbn]
  have hul := zr7 (xO p)
  have ec : Vq (zdl (Yt p)) p.Bin = some (uT p) := by
    show zgu _ _ = _
    unfold zgu uT
    have c1 : (decide (1 ≤ p.Bin) && decide (p.Bin < 1000000) && decide (((zdl (Yt p)).length : Int) < 1000000)) = true := by simp <;> omega
    rw [c1]; rfl
  have cut1 : cut (YZ (xO p)) 0 ((uT p).length : Int) = some ((YZ (xO p)).take (uT p).length) := by
    unfold cut
    have : ((uT p).length : Int) ≤ ((YZ (xO p)).length : Int) := by omega
    simp [this]
  have cut2 : cut (YZ (xO p)) ((uT p).length : Int) ((YZ (xO p)).length : Int) = some ((YZ (xO p)).drop (uT p).length) := by
    unfold cut
    have : ((uT p).length : Int) ≤ ((YZ (xO p)).length : Int) := by omega
    simp [this]
  rw [zpz, zut h]
  simp only [Option.bind_some, Bool.not_true, cond_false]
  rw [zo9 (by omega) hreg]
  simp only [Option.bind_some, zu3, zuz hm.1 (show p.Mutators ≤ 16 by omega)]
  rw [zvr (by omega) hobj]
  simp only [Option.bind_some]
  rw [zyg h]
  simp only [Option.bind_some, eb]
  have e3 : (2 + (xO p : Int)).toNat = 2 + xO p := by omega
  rw [z3 (a := 2 + (xO p : Int)) (by omega) (by omega), zqo (by omega) (by omega), e3, Option.bind_some, we (l := Wv p p.Workers.toNat ++ List.replicate (2 + xO p) 0#64) (by simp <;> omega), Option.bind_some, zw6 (by omega)]
  dsimp only [Option.bind_some]
  rw [Int.toNat_natCast, zwS (zmB h), Option.bind_some, zec, zo, if_neg (by omega), Option.bind_some, ec, Option.bind_some, ztD _ _ (by simp <;> omega) (fun c hc' => by have := zhV _ _ _ _ hc'; omega)]
  dsimp only [Option.bind_some]
  have e1 : w64 ((([[]] ++ uT p : List (List Int)).length : Int) - 1) = ((uT p).length : Int) := by
    rw [z3 (by simp <;> omega) (by simp <;> omega)]; simp
  have e2 : w64 (((YZ (xO p)).length : Int) - ((uT p).length : Int)) = ((xO p - (uT p).length : Nat) : Int) := by
    rw [z3 (by omega) (by omega)]; omega
  rw [e1, e2, zqo (by omega) (by omega), Int.toNat_natCast, Option.bind_some, we (by simp <;> omega), Option.bind_some, ze9, Option.bind_some, zeZ, Option.bind_some, cut1, Option.bind_some, zqm (by simp <;> omega) (by simp <;> omega), Option.bind_some, zdk, Option.bind_some, Option.bind_some, cut2, Option.bind_some, zqm (by rw [zns]; simp <;> omega) (by simp <;> omega), Option.bind_some, decide_true, cond_true, zgk hm.1 (show p.Mutators < 4294967296 by omega), Option.bind_some, zxy (by omega) hreg]
  rfl
end
end Go.Pe.G
namespace Go.Pe.G
open Go.Pe
noncomputable section
theorem zhn (h : BitVec 64) : yV h = ((h.toNat % 4294967296 : Nat) : Int) := by
  unfold yV
  have e : (h &&& 4294967295#64).toNat = h.toNat % 4294967296 := by
    rw [BitVec.toNat_and]
    exact Nat.and_two_pow_sub_one_eq_mod h.toNat 32
  rw [BitVec.toInt_eq_toNat_cond, e]
  omega
theorem zqk (h : BitVec 64) : 0 ≤ yV h ∧ yV h < 4294967296 := by rw [zhn]; omega
theorem zqG (v : BitVec 64) {n : Int} (h : 0 ≤ n) (h2 : n < 4294967296) : yV (WF v n) = n := by
  rw [zhn]
  unfold WF
  rw [BitVec.toNat_or, BitVec.toNat_and, BitVec.toNat_shiftLeft]
  have e1 : (v.toNat <<< 32 % 2 ^ 64 ||| (BitVec.ofInt 64 n).toNat &&& (4294967295#64).toNat) % 2 ^ 32 = (v.toNat <<< 32 % 2 ^ 64) % 2 ^ 32 ||| ((BitVec.ofInt 64 n).toNat &&& (4294967295#64).toNat) % 2 ^ 32 := Nat.or_mod_two_pow
  have e2 : v.toNat <<< 32 % 2 ^ 64 % 2 ^ 32 = 0 := by rw [Nat.shiftLeft_eq]; omega
  have e3 : (BitVec.ofInt 64 n).toNat &&& (4294967295#64).toNat = n.toNat := by
    have : (BitVec.ofInt 64 n).toNat = n.toNat := by rw [BitVec.toNat_ofInt]; omega
    rw [this]
    exact (Nat.and_two_pow_sub_one_eq_mod n.toNat 32).trans (Nat.mod_eq_of_lt (by omega))
  rw [show (4294967296 : Nat) = 2 ^ 32 from rfl, e1, e2, e3, Nat.zero_or, Nat.mod_eq_of_lt (by omega)]
  omega
theorem zmE {n : Int} (h : 0 ≤ n) (h2 : n < 4294967296) : (BitVec.ofInt 64 n).toInt = n := by
  have e : (BitVec.ofInt 64 n).toNat = n.toNat := by rw [BitVec.toNat_ofInt]; omega
  rw [BitVec.toInt_eq_toNat_cond, e]
  omega
theorem zoi {m : List (BitVec 64)} {a b : Int} {v : BitVec 64} : ld (st m a v) b = if a = b ∧ 0 ≤ a ∧ a < m.length then v else ld m b := by
  unfold ld st
  by_cases hb : 0 ≤ b
  · rw [if_pos hb, if_pos hb]
    by_cases ha : 0 ≤ a
    · rw [if_pos ha, List.getD_eq_getElem?_getD, List.getD_eq_getElem?_getD, List.getElem?_set]
      by_cases hab : a.toNat = b.toNat
      · have e : a = b := by omega
        subst e
        by_cases hl : a.toNat < m.length
        · rw [if_pos rfl, if_pos hl, if_pos ⟨rfl, ha, by omega⟩]; rfl
        · rw [if_pos rfl, if_neg hl, if_neg (by omega), List.getElem?_eq_none (by omega)]
      · rw [if_neg hab, if_neg (by omega)]
    · rw [if_neg ha, if_neg (by omega)]
  · rw [if_neg hb, if_neg hb, if_neg (by omega)]
theorem zcZ {m : List (BitVec 64)} {a b : Int} {v : BitVec 64} (h : a ≠ b) : ld (st m a v) b = ld m b := by
  rw [zoi, if_neg (fun h' => h h'.1)]
theorem zaZ {p : zd} (h : zL p) : vE p = p.Workers * (p.Cap + 2) ∧ 3 ≤ vE p ∧ vE p ≤ 15 := by
  have hw := h.wk
  have hc := h.cap
  unfold vE
  rw [Yc (a := p.Cap + 2) (by omega) (by omega)]
  have hx : p.Workers = 1 ∨ p.Workers = 2 ∨ p.Workers = 3 := by omega
  rcases hx with hx | hx | hx <;> rw [hx, Yc (by omega) (by omega)] <;> omega
theorem zcp {p : zd} (h : zL p) : yS p = vE p + 1 := by
  have := zaZ h
  unfold yS
  rw [Yc (by omega) (by omega)]
theorem zmU {p : zd} (h : zL p) {w : Int} (h1 : 1 ≤ w) (h2 : w ≤ p.Workers) : Z6 p w = (w - 1) * (p.Cap + 2) ∧ 0 ≤ Z6 p w ∧ Z6 p w + p.Cap + 2 ≤ vE p := by
  have hw := h.wk
  have hc := h.cap
  have hf := (zaZ h).1
  unfold Z6
  rw [Yc (a := p.Cap + 2) (by omega) (by omega), Yc (a := w - 1) (by omega) (by omega)]
  have hx : p.Workers = 1 ∨ p.Workers = 2 ∨ p.Workers = 3 := by omega
  have hy : w = 1 ∨ w = 2 ∨ w = 3 := by omega
  rw [hf]
  rcases hx with hx | hx | hx <;> rcases hy with hy | hy | hy <;> first | omega | (rw [hx, hy, Yc (by omega) (by omega)] <;> omega)
theorem zwk {p : zd} (h : zL p) {d : zh} {w : Int} (h1 : 1 ≤ w) (h2 : w ≤ p.Workers) (hb : d.Base = Z6 p w) (hc : d.Cap = p.Cap) (i : BitVec 64) :
    zbe d i = d.Base + 2 + ((i.toNat % p.Cap.toNat : Nat) : Int) ∧ d.Base + 2 ≤ zbe d i ∧ zbe d i < d.Base + 2 + p.Cap := by
  have hcp := h.cap
  have hd := zmU h h1 h2
  have hf := zaZ h
  have hs : (Uw d).toNat = p.Cap.toNat := by
    unfold Uw
    rw [hc, if_neg (by omega), BitVec.toNat_ofInt]
    omega
  have hlt : i.toNat % p.Cap.toNat < p.Cap.toNat := Nat.mod_lt _ (by omega)
  have hm : (i % Uw d).toInt = ((i.toNat % p.Cap.toNat : Nat) : Int) := by
    rw [BitVec.toInt_eq_toNat_cond, BitVec.toNat_umod, hs]
    omega
  unfold zbe
  rw [hm, Yc (a := d.Base + 2) (by omega) (by omega), Yc (by omega) (by omega)]
  omega
structure SOk (p : zd) (nb : Nat) (s : zb) : Prop where
  P : s.P = p
  bins : s.Bins.length = nb
  nbk : 1 ≤ nb ∧ nb < 1000
  mem : s.M.length < 100000
  cF : yV (ld s.M (vE p)) < nb
  cE : yV (ld s.M (yS p)) < nb
  cL : ∀ a, yS p < a → 0 ≤ (ld s.M a).toInt ∧ (ld s.M a).toInt < nb
structure MOk (p : zd) (nb : Nat) (g : zE) : Prop where
  who : g.Mode = 1 → 1 ≤ g.Who ∧ g.Who ≤ p.Workers
  d3 : g.PC = 3 → g.D.Kind = 1 ∧ g.D.Base = Z6 p g.Who ∧ g.D.Cap = p.Cap ∧ g.Mode = 1
  c5 : g.PC = 5 → g.C.Kind = 2 ∧ g.C.Head = yS p ∧ g.C.Next = yS p ∧ (1 ≤ g.C.PC → 1 ≤ yV g.C.H ∧ yV g.C.H < nb) ∧ (2 ≤ g.C.PC → 0 ≤ g.C.Y ∧ g.C.Y < nb)
  b6 : g.PC = 6 → 1 ≤ g.Bin ∧ g.Bin < nb
  c7 : g.PC = 7 → g.C.Kind = 1 ∧ g.C.Head = vE p ∧ g.C.Next = yS p ∧ (1 ≤ g.C.X ∧ g.C.X < nb) ∧ (1 ≤ g.C.PC → yV g.C.H < nb)
theorem SOk.gok {p : zd} {nb : Nat} {s : zb} {g : zE} (h : zL p) (S : SOk p nb s) (M : MOk p nb g) : GOk s g := by
  have hc := h.cap
  refine ⟨by have := S.mem; omega, by have := S.bins; have := S.nbk; omega, fun h6 => ?_, fun h3 => ?_⟩
  · have := M.b6 h6; have := S.bins; omega
  · obtain ⟨a, b, c, _⟩ := M.d3 h3; exact ⟨a, by omega⟩
theorem SOk.low {p : zd} {nb : Nat} {s : zb} (h : zL p) (S : SOk p nb s) {a : Int} (ha : a < vE p) (v : BitVec 64) : SOk p nb { s with M := st s.M a v } := by
  have he := zcp h
  exact ⟨S.P, S.bins, S.nbk, by simp only [Vj]; exact S.mem, by simp only [zcZ (show a ≠ vE p by omega)]; exact S.cF, by simp only [zcZ (show a ≠ yS p by omega)]; exact S.cE, fun b hb => by
    simp only [zcZ (show a ≠ b by omega)]; exact S.cL b hb⟩
theorem SOk.link {p : zd} {nb : Nat} {s : zb} (h : zL p) (S : SOk p nb s) {a : Int} (ha : yS p < a) {v : BitVec 64} (hv : 0 ≤ v.toInt ∧ v.toInt < nb) : SOk p nb { s with M := st s.M a v } := by
  have he := zcp h
  exact ⟨S.P, S.bins, S.nbk, by simp only [Vj]; exact S.mem, by simp only [zcZ (show a ≠ vE p by omega)]; exact S.cF, by simp only [zcZ (show a ≠ yS p by omega)]; exact S.cE, fun b hb => by
    simp only [zoi]
    split
    · exact hv
    · exact S.cL b hb⟩
theorem SOk.head {p : zd} {nb : Nat} {s : zb} (h : zL p) (S : SOk p nb s) {a : Int} (ha : a = vE p ∨ a = yS p) {v : BitVec 64} (hv : yV v < nb) : SOk p nb { s with M := st s.M a v } := by
  have he := zcp h
  refine ⟨S.P, S.bins, S.nbk, by simp only [Vj]; exact S.mem, ?_, ?_, fun b hb => ?_⟩
  · simp only [zoi]
    split
    · exact hv
    · exact S.cF
  · simp only [zoi]
    split
    · exact hv
    · exact S.cE
  · simp only [zcZ (show a ≠ b by omega)]; exact S.cL b hb
theorem SOk.swap {p : zd} {nb : Nat} {s : zb} (h : zL p) (S : SOk p nb s) {a : Int} (ha : a = vE p ∨ a = yS p) (x : BitVec 64) {v : BitVec 64} (hv : yV v < nb) : SOk p nb { s with M := (sw s.M a x v).1 } := by
  unfold sw
  split
  · exact S.head h ha hv
  · exact S
theorem zst {p : zd} {nb : Nat} {s : zb} (h : zL p) (S : SOk p nb s) {c : zC} {hd : Int} (hdd : hd = vE p ∨ hd = yS p) (hk : c.Kind = 2) (hh : c.Head = hd) (hn : c.Next = yS p)
    (h1 : 1 ≤ c.PC → 1 ≤ yV c.H ∧ yV c.H < nb) (h2 : 2 ≤ c.PC → 0 ≤ c.Y ∧ c.Y < nb) (ho : c.Out ≠ 1) :
    SOk p nb { s with M := (zY s.M c).1 } ∧ (zY s.M c).2.Kind = 2 ∧ (zY s.M c).2.Head = hd ∧ (zY s.M c).2.Next = yS p ∧
    ((zY s.M c).2.Out ≠ 1 → (zY s.M c).2.Out ≠ 2 → (1 ≤ (zY s.M c).2.PC → 1 ≤ yV (zY s.M c).2.H ∧ yV (zY s.M c).2.H < nb) ∧ (2 ≤ (zY s.M c).2.PC → 0 ≤ (zY s.M c).2.Y ∧ (zY s.M c).2.Y < nb)) ∧
    ((zY s.M c).2.Out = 1 → 1 ≤ (zY s.M c).2.X ∧ (zY s.M c).2.X < nb) := by
  have hnb := S.nbk
  have hE := zcp h
  have hF := zaZ h
  unfold zY
  split
  · exact ⟨S, hk, hh, hn, fun _ _ => ⟨h1, h2⟩, fun e => absurd e ho⟩
  · split
    · rw [hh]
      have n1 := zqk (ld s.M hd)
      have n2 : yV (ld s.M hd) < nb := by
        rcases hdd with e | e <;> rw [e]
        · exact S.cF
        · exact S.cE
      split
      · exact ⟨S, hk, rfl, hn, fun _ h => absurd rfl h, fun e => by cases e⟩
      · rename_i hne
        refine ⟨S, hk, rfl, hn, fun _ _ => ⟨fun _ => ⟨?_, n2⟩, fun e => absurd e (by dsimp only; omega)⟩, fun e => absurd e ho⟩
        have : yV (ld s.M hd) ≠ 0 := fun e => hne ⟨hk, e⟩
        dsimp only
        omega
    · split
      · try rw [if_pos hk]
        have hpc : 1 ≤ c.PC := by omega
        have n1 := h1 hpc
        refine ⟨S, hk, hh, hn, fun _ _ => ⟨fun _ => n1, fun _ => ?_⟩, fun e => absurd e ho⟩
        dsimp only
        rw [hn, Yc (by omega) (by omega)]
        exact S.cL _ (by omega)
      · rename_i g1 g2 g3
        have hpc : c.PC = 2 := by omega
        have n1 := h1 (by omega)
        have n2 := h2 (by omega)
        simp only [if_pos hk]
        refine ⟨S.swap h (by rw [hh]; exact hdd) _ (by rw [zqG _ n2.1 (by omega)]; exact n2.2), ?_⟩
        split
        · exact ⟨hk, hh, hn, fun e => absurd rfl e, fun _ => n1⟩
        · exact ⟨hk, hh, hn, fun _ _ => ⟨fun e => absurd e (by dsimp only; omega), fun e => absurd e (by dsimp only; omega)⟩, fun e => absurd e ho⟩
theorem zpc {p : zd} {nb : Nat} {s : zb} (h : zL p) (S : SOk p nb s) {c : zC} {hd : Int} (hdd : hd = vE p ∨ hd = yS p) (hk : c.Kind = 1) (hh : c.Head = hd) (hn : c.Next = yS p) (hx : 1 ≤ c.X ∧ c.X < nb)
    (h1 : 1 ≤ c.PC → yV c.H < nb) :
    SOk p nb { s with M := (zY s.M c).1 } ∧ (zY s.M c).2.Kind = 1 ∧ (zY s.M c).2.Head = hd ∧ (zY s.M c).2.Next = yS p ∧ (1 ≤ (zY s.M c).2.X ∧ (zY s.M c).2.X < nb) ∧
    (1 ≤ (zY s.M c).2.PC → yV (zY s.M c).2.H < nb) := by
  have hnb := S.nbk
  have hE := zcp h
  have hF := zaZ h
  have hk2 : ¬ c.Kind = 2 := by omega
  unfold zY
  split
  · exact ⟨S, hk, hh, hn, hx, h1⟩
  · split
    · rw [if_neg (fun e => hk2 e.1), hh]
      exact ⟨S, hk, rfl, hn, hx, fun _ => hdd.elim (fun e => by dsimp only; rw [e]; exact S.cF) (fun e => by dsimp only; rw [e]; exact S.cE)⟩
    · split
      · try rw [if_neg hk2]
        have hpc : 1 ≤ c.PC := by omega
        have n1 := h1 hpc
        have n2 := zqk c.H
        refine ⟨?_, hk, hh, hn, hx, fun _ => n1⟩
        dsimp only
        rw [hn, Yc (by omega) (by omega)]
        exact S.link h (by omega) (by rw [zmE (by omega) (by omega)]; omega)
      · have n1 := h1 (by omega)
        simp only [if_neg hk2]
        refine ⟨S.swap h (by rw [hh]; exact hdd) _ (by rw [zqG _ (by omega) (by omega)]; exact hx.2), ?_⟩
        split
        · exact ⟨hk, hh, hn, hx, fun _ => n1⟩
        · exact ⟨hk, hh, hn, hx, fun _ => n1⟩
theorem MOk.ask {p : zd} {nb : Nat} {g : zE} (hw : g.Mode = 1 → 1 ≤ g.Who ∧ g.Who ≤ p.Workers) : MOk p nb (zpb p g) :=
  ⟨hw, fun e => (by cases e), fun _ => ⟨rfl, rfl, rfl, fun e => absurd e (show ¬ (1 : Int) ≤ 0 by decide), fun e => absurd e (show ¬ (2 : Int) ≤ 0 by decide)⟩, fun e => (by cases e), fun e => (by cases e)⟩
theorem zqc {p : zd} {nb : Nat} {s : zb} {g : zE} (h : zL p) (S : SOk p nb s) (M : MOk p nb g) (hout : g.PC = 5 → g.C.Out ≠ 1) : SOk p nb (zI s g).1 ∧ MOk p nb (zI s g).2 ∧ ((zI s g).2.PC = 5 → (zI s g).2.C.Out ≠ 1) := by
  have hP := S.P
  unfold zI
  split
  · exact ⟨S, M, hout⟩
  split
  · rename_i h7
    obtain ⟨a1, a2, a3, a4, a5⟩ := M.c7 h7
    obtain ⟨b1, b2, b3, b4, b5, b6⟩ := zpc h S (.inl rfl) a1 a2 a3 a4 a5
    unfold zgc
    refine ⟨b1, ?_, ?_⟩
    · dsimp only
      split <;> exact ⟨M.who, fun e => (by dsimp only at e; omega), fun e => (by dsimp only at e; omega), fun e => (by dsimp only at e; omega), fun _ => ⟨b2, b3, b4, b5, b6⟩⟩
    · dsimp only
      split <;> exact fun e => by dsimp only at e; omega
  split
  · rename_i h6
    obtain ⟨a1, a2⟩ := M.b6 h6
    unfold zwZ
    refine ⟨⟨hP, by simp only [List.length_set]; exact S.bins, S.nbk, S.mem, S.cF, S.cE, S.cL⟩, ⟨M.who, fun e => (by cases e), fun e => (by cases e), fun e => (by cases e), fun _ => ⟨rfl, by rw [hP], by rw [hP], ⟨a1, a2⟩, fun e => absurd e (show ¬ (1 : Int) ≤ 0 by decide)⟩⟩, fun e => by cases e⟩
  split
  · rename_i h5
    obtain ⟨a1, a2, a3, a4, a5⟩ := M.c5 h5
    obtain ⟨b1, b2, b3, b4, b5, b6⟩ := zst h S (.inr rfl) a1 a2 a3 a4 a5 (hout h5)
    unfold zl1
    refine ⟨b1, ?_, ?_⟩
    · dsimp only
      split
      · rename_i e1
        exact ⟨M.who, fun e => (by cases e), fun e => (by cases e), fun _ => b6 e1, fun e => (by cases e)⟩
      · split
        · rw [hP]; exact MOk.ask M.who
        · rename_i e1 e2
          exact ⟨M.who, fun e => (by dsimp only at e; omega), fun _ => ⟨b2, b3, b4, b5 e1 e2⟩, fun e => (by dsimp only at e; omega), fun e => (by dsimp only at e; omega)⟩
    · dsimp only
      split
      · exact fun e => by cases e
      · split
        · exact fun _ e => by cases e
        · rename_i e1 e2; exact fun _ => e1
  split
  · rw [hP]
    exact ⟨⟨rfl, S.bins, S.nbk, S.mem, S.cF, S.cE, S.cL⟩, MOk.ask M.who, fun _ e => by cases e⟩
  split
  · rename_i h3
    obtain ⟨a1, a2, a3, a4⟩ := M.d3 h3
    have hw := M.who a4
    obtain ⟨d1, d2, d3⟩ := zmU h hw.1 hw.2
    have hc := h.cap
    have hf := zaZ h
    have hs : SOk p nb { s with M := (Zf s.M g.D).1 } := by
      unfold Zf
      split
      · exact S
      split
      · exact S
      split
      · exact S
      split
      · have := zwk h hw.1 hw.2 a2 a3 g.D.B
        exact S.low h (by omega) _
      · dsimp only
        rw [Yc (by omega) (by omega)]
        exact S.low h (by omega) _
    have hd : (Zf s.M g.D).2.Kind = 1 ∧ (Zf s.M g.D).2.Base = Z6 p g.Who ∧ (Zf s.M g.D).2.Cap = p.Cap := by
      unfold Zf
      split
      · exact ⟨a1, a2, a3⟩
      split
      · exact ⟨a1, a2, a3⟩
      split
      · dsimp only
        split <;> exact ⟨a1, a2, a3⟩
      split <;> exact ⟨a1, a2, a3⟩
    unfold zlO
    refine ⟨hs, ?_, ?_⟩
    · dsimp only
      split
      · exact ⟨M.who, fun _ => ⟨hd.1, hd.2.1, hd.2.2, a4⟩, fun e => (by dsimp only at e; omega), fun e => (by dsimp only at e; omega), fun e => (by dsimp only at e; omega)⟩
      · split
        · rw [hP]; exact MOk.ask M.who
        · exact ⟨M.who, fun _ => ⟨hd.1, hd.2.1, hd.2.2, a4⟩, fun e => (by dsimp only at e; omega), fun e => (by dsimp only at e; omega), fun e => (by dsimp only at e; omega)⟩
    · dsimp only
      split
      · exact fun e => by dsimp only at e; omega
      · split
        · exact fun _ e => by cases e
        · exact fun e => by dsimp only at e; omega
  split
  · rename_i h2
    exact ⟨⟨hP, S.bins, S.nbk, S.mem, S.cF, S.cE, S.cL⟩, ⟨M.who, fun e => (by dsimp only at e; omega), fun e => (by dsimp only at e; omega), fun e => (by dsimp only at e; omega), fun e => (by dsimp only at e; omega)⟩, fun e => by dsimp only at e; omega⟩
  split
  · unfold znJ
    refine ⟨⟨hP, S.bins, S.nbk, S.mem, S.cF, S.cE, S.cL⟩, ?_, ?_⟩
    · dsimp only
      split
      · exact ⟨M.who, fun e => (by cases e), fun e => (by cases e), fun e => (by cases e), fun e => (by cases e)⟩
      split
      · exact ⟨M.who, fun _ => ⟨rfl, by rw [hP], by rw [hP], by assumption⟩, fun e => (by cases e), fun e => (by cases e), fun e => (by cases e)⟩
      split
      · exact ⟨M.who, fun e => (by cases e), fun e => (by cases e), fun e => (by cases e), fun e => (by cases e)⟩
      · rw [hP]; exact MOk.ask M.who
    · dsimp only
      split
      · exact fun e => by cases e
      split
      · exact fun e => by cases e
      split
      · exact fun e => by cases e
      · exact fun _ e => by cases e
  · exact ⟨⟨hP, S.bins, S.nbk, S.mem, S.cF, S.cE, S.cL⟩, ⟨M.who, fun e => (by cases e), fun e => (by cases e), fun e => (by cases e), fun e => (by cases e)⟩, fun e => by cases e⟩
theorem zng (s : zb) (g : zE) : (zI s g).2.Obj = g.Obj ∧ (zI s g).2.Who = g.Who ∧ (zI s g).2.Mode = g.Mode := by
  unfold zI
  split
  · exact ⟨rfl, rfl, rfl⟩
  split
  · unfold zgc; dsimp only; split <;> exact ⟨rfl, rfl, rfl⟩
  split
  · exact ⟨rfl, rfl, rfl⟩
  split
  · unfold zl1; dsimp only
    split
    · exact ⟨rfl, rfl, rfl⟩
    · split <;> exact ⟨rfl, rfl, rfl⟩
  split
  · exact ⟨rfl, rfl, rfl⟩
  split
  · unfold zlO; dsimp only
    split
    · exact ⟨rfl, rfl, rfl⟩
    · split <;> exact ⟨rfl, rfl, rfl⟩
  split
  · exact ⟨rfl, rfl, rfl⟩
  split
  · unfold znJ; dsimp only
    split
    · exact ⟨rfl, rfl, rfl⟩
    split
    · exact ⟨rfl, rfl, rfl⟩
    split <;> exact ⟨rfl, rfl, rfl⟩
  · exact ⟨rfl, rfl, rfl⟩
end
end Go.Pe.G
namespace Go.Pe.G
open Go.Pe
noncomputable section
def OkV (nb : Nat) (v : BitVec 64) : Prop := yV v < nb ∧ 0 ≤ v.toInt ∧ v.toInt < nb
theorem zsM {nb : Nat} (h : 1 ≤ nb) : OkV nb 0#64 := by
  refine ⟨by rw [zhn]; simp; omega, by simp, by simp; omega⟩
theorem zp3 {nb : Nat} {b : Int} (h : 0 ≤ b) (h2 : b < nb) (h3 : nb < 1000) : OkV nb (BitVec.ofInt 64 b) := by
  have e : (BitVec.ofInt 64 b).toNat = b.toNat := by rw [BitVec.toNat_ofInt]; omega
  refine ⟨by rw [zhn, e]; omega, ?_⟩
  rw [zmE h (by omega)]
  omega
theorem zqH {b : Int} (h : 0 ≤ b) (h2 : b < 4294967296) : WF 0#64 b = BitVec.ofInt 64 b := by
  have e : (BitVec.ofInt 64 b).toNat = b.toNat := by rw [BitVec.toNat_ofInt]; omega
  apply BitVec.eq_of_toNat_eq
  unfold WF
  rw [BitVec.toNat_or, BitVec.toNat_and, e]
  have : b.toNat &&& (4294967295#64).toNat = b.toNat := (Nat.and_two_pow_sub_one_eq_mod b.toNat 32).trans (Nat.mod_eq_of_lt (by omega))
  rw [this]
  simp
def YV (F : Int) (nb : Nat) (m : List (BitVec 64)) : Prop := ∀ a, F ≤ a → OkV nb (ld m a)
theorem YV.st {F : Int} {nb : Nat} {m : List (BitVec 64)} (h : YV F nb m) (a : Int) {v : BitVec 64} (hv : OkV nb v) : YV F nb (st m a v) := fun b hb => by
  rw [zoi]
  split
  · exact hv
  · exact h b hb
theorem YV.links {F : Int} {nb : Nat} (h1 : 1 ≤ nb) (h3 : nb < 1000) : ∀ (l : List Int) (m : List (BitVec 64)) (n : Int), (∀ b ∈ l, 0 ≤ b ∧ b < nb) → YV F nb m → YV F nb (links m n l)
  | [], m, n, _, h => h
  | [a], m, n, _, h => h.st _ (zsM h1)
  | a :: b :: l, m, n, hb, h => YV.links h1 h3 (b :: l) _ n (fun x hx => hb x (List.mem_cons_of_mem _ hx)) (h.st _ (zp3 (hb b (by simp)).1 (hb b (by simp)).2 h3))
theorem YV.lay {F : Int} {nb : Nat} (h1 : 1 ≤ nb) (h3 : nb < 1000) {l : List Int} {m : List (BitVec 64)} {hd n : Int} (hb : ∀ b ∈ l, 0 ≤ b ∧ b < nb) (h : YV F nb m) : YV F nb (zjM m hd n l) := by
  unfold zjM
  refine (YV.links h1 h3 l m n hb h).st _ ?_
  cases l with
  | nil => rw [List.headD_nil, zqH (by omega) (by omega)]; exact zp3 (by omega) (by omega) h3
  | cons a r =>
    have := hb a (by simp)
    rw [List.headD_cons, zqH this.1 (by omega)]
    exact zp3 this.1 this.2 h3
theorem zsk {k : Nat} {b : Int} (h : b ∈ YZ k) : 1 ≤ b ∧ b ≤ k := by
  unfold YZ at h
  obtain ⟨i, hi, rfl⟩ := List.mem_map.1 h
  have := List.mem_range.1 hi
  omega
theorem zrI {p : zd} (h : zL p) : (xO p : Int) = p.Most + p.Workers + p.Mutators ∧ 2 ≤ xO p ∧ xO p ≤ 14 := by
  have := h.most
  have := h.n
  have := h.wk
  have := h.mt
  unfold xO
  omega
theorem ztR {p : zd} (h : zL p) : SOk p (xO p + 1) (vw p) := by
  have hb := zrI h
  have hf := zr8 h
  have hn := h.n
  have hw := h.wk
  have hc := h.cap
  have hmo := h.most
  have hF := zaZ h
  have hE := zcp h
  have hcl := zfj p p.Workers.toNat
  have hfe : vE p = ((p.Workers.toNat * (p.Cap.toNat + 2) : Nat) : Int) := by
    rw [hF.1]
    have e1 : p.Workers = ((p.Workers.toNat : Nat) : Int) := by omega
    have e2 : p.Cap + 2 = ((p.Cap.toNat + 2 : Nat) : Int) := by omega
    rw [e2, Int.natCast_mul]
    rw [← e1]
  have h0 : YV (vE p) (xO p + 1) (Wv p p.Workers.toNat ++ List.replicate (2 + xO p) 0#64) := by
    intro a ha
    have : ld (Wv p p.Workers.toNat ++ List.replicate (2 + xO p) 0#64) a = 0#64 := by
      unfold ld
      rw [if_pos (by omega), List.getD_eq_getElem?_getD, List.getElem?_append_right (by omega), List.getElem?_replicate]
      split <;> rfl
    rw [this]
    exact zsM (by omega)
  have h1 : YV (vE p) (xO p + 1) (vw p).M := by
    refine YV.lay (by omega) (by omega) (fun b hb' => ?_) (YV.lay (by omega) (by omega) (fun b hb' => ?_) h0)
    · have := zsk (List.mem_of_mem_drop hb'); omega
    · have := zsk (List.mem_of_mem_take hb'); omega
  have hlen : (vw p).M.length = p.Workers.toNat * (p.Cap.toNat + 2) + (2 + xO p) := by
    show (zjM _ _ _ _).length = _
    rw [zns, zns, List.length_append, hcl, List.length_replicate]
  refine ⟨rfl, ?_, by omega, by rw [hlen]; omega, (h1 _ (by omega)).1, (h1 _ (by omega)).1, fun a ha => (h1 a (by omega)).2⟩
  have hd : (vw p).Bins.length = 1 + (uT p).length + (xO p - (uT p).length) := by
    show ([[]] ++ uT p ++ List.replicate (xO p - (uT p).length) ([] : List Int)).length = _
    rw [List.length_append, List.length_append, List.length_replicate]; rfl
  have h2 := hb.1
  have hmt := h.mt
  rw [hd]
  omega
def zow (mode obj who : Int) : zE := ⟨0, mode, obj, who, ⟨0, 0, 0, 0, 0#64, 0#64, 0, 0⟩, ⟨0, 0, 0, 0, 0#64, 0, 0, 0⟩, 0, 0⟩
theorem zn2 (a b c : Int) : zbu a b c = some (zow a b c, ()) := by rw [zol]; rfl
end
end Go.Pe.G
namespace Go.Pe.G
open Go.Pe
noncomputable section
structure ZJ (s : zb) : Prop where
  m : s.M.length < 1000000
  bins : s.Bins.length < 1000000
  bin : ∀ x ∈ s.Bins, x.length < 1000000
  acks : s.Acks.length < 1000000
  bal : s.L.Bal.length < 1000000
  ws : s.Ws.length < 1000000
  w : ∀ x ∈ s.Ws, x.Batch.length < 1000000
  ms : s.Ms.length < 1000000
  mu : ∀ x ∈ s.Ms, x.Regs.length < 1000000 ∧ x.Buf.length < 1000000 ∧ x.Batch.length < 1000000
  objs : s.H.Objs.length < 1000000
  obj : ∀ x ∈ s.H.Objs, x.length < 1000000
  pobjs : s.P.H.Objs.length < 1000000
  pobj : ∀ x ∈ s.P.H.Objs, x.length < 1000000
  regs : s.P.Regs.length < 1000000
  reg : ∀ x ∈ s.P.Regs, x.length < 1000000
  progs : s.P.Progs.length < 1000000
  prog : ∀ x ∈ s.P.Progs, x.length < 1000000
  picks : s.P.Picks.length < 1000000
theorem UB (m : List (BitVec 64)) (c : zC) : (zY m c).1.length = m.length := by
  unfold zY sw
  split
  · rfl
  split
  · rfl
  split
  · split <;> simp [Vj]
  · dsimp only; split <;> simp [Vj]
theorem zur (m : List (BitVec 64)) (d : zh) : (Zf m d).1.length = m.length := by
  unfold Zf
  split
  · rfl
  split
  · rfl
  split
  · rfl
  split <;> simp [Vj]
theorem W9 (s : zb) (g : zE) : ∃ m b t w f, (zI s g).1 = { s with M := m, Bins := b, T := t, Work := w, Flag := f } ∧ m.length = s.M.length ∧ b.length = s.Bins.length ∧
    (∀ x ∈ b, x ∈ s.Bins ∨ x = [g.Obj]) ∧ (t = s.T ∨ t = (zeL s.T g.Obj).1) ∧ (w = s.Work ∨ w = wc (s.Work + 1) ∨ w = wc (s.Work - 1)) := by
  unfold zI
  split
  · exact ⟨s.M, s.Bins, s.T, s.Work, s.Flag, rfl, rfl, rfl, fun x h => .inl h, .inl rfl, .inl rfl⟩
  split
  · exact ⟨_, s.Bins, s.T, s.Work, s.Flag, rfl, UB _ _, rfl, fun x h => .inl h, .inl rfl, .inl rfl⟩
  split
  · refine ⟨s.M, _, s.T, s.Work, s.Flag, rfl, rfl, by simp, fun x h => ?_, .inl rfl, .inl rfl⟩
    rcases List.mem_or_eq_of_mem_set h with h | h
    · exact .inl h
    · exact .inr h
  split
  · exact ⟨_, s.Bins, s.T, s.Work, s.Flag, rfl, UB _ _, rfl, fun x h => .inl h, .inl rfl, .inl rfl⟩
  split
  · exact ⟨s.M, s.Bins, s.T, s.Work, true, rfl, rfl, rfl, fun x h => .inl h, .inl rfl, .inl rfl⟩
  split
  · exact ⟨_, s.Bins, s.T, s.Work, s.Flag, rfl, zur _ _, rfl, fun x h => .inl h, .inl rfl, .inl rfl⟩
  split
  · exact ⟨s.M, s.Bins, s.T, _, s.Flag, rfl, rfl, rfl, fun x h => .inl h, .inl rfl, .inr (.inr rfl)⟩
  split
  · exact ⟨s.M, s.Bins, _, s.Work, s.Flag, rfl, rfl, rfl, fun x h => .inl h, .inr rfl, .inl rfl⟩
  · exact ⟨s.M, s.Bins, s.T, _, s.Flag, rfl, rfl, rfl, fun x h => .inl h, .inl rfl, .inr (.inl rfl)⟩
theorem zyC {s : zb} {g : zE} (h : ZJ s) : ZJ (zI s g).1 := by
  obtain ⟨m, b, t, w, f, e, h1, h2, h3, _, _⟩ := W9 s g
  rw [e]
  refine ⟨by rw [h1]; exact h.m, by rw [h2]; exact h.bins, fun x hx => ?_, h.acks, h.bal, h.ws, h.w, h.ms, h.mu, h.objs, h.obj, h.pobjs, h.pobj, h.regs, h.reg, h.progs, h.prog, h.picks⟩
  rcases h3 x hx with h' | rfl
  · exact h.bin x h'
  · simp
theorem zuW {p : zd} (h : zL p) : ZJ (vw p) := by
  have S := ztR h
  have hb := zrI h
  have hg := zkN h
  have hn := h.n
  have hm := h.mt
  have hw := h.wk
  have hs := h.slots
  have hrl := h.regs
  have hpl := h.progs
  have hobj : ∀ o ∈ p.H.Objs, o.length < 1000000 := fun o ho => by have := (h.objs o ho).1; omega
  have hreg : ∀ r ∈ p.Regs, r.length < 1000000 := fun r hr => by have := (h.reg r hr).1; omega
  refine ⟨by have := S.mem; omega, by rw [S.bins]; omega, fun x hx => ?_, ?_, ?_, ?_, fun x hx => ?_, ?_, fun x hx => ?_, by show p.H.Objs.length < _; omega, hobj, by show p.H.Objs.length < _; omega, hobj, by show p.Regs.length < _; omega, hreg, by show p.Progs.length < _; omega, fun x hx => ?_, ?_⟩
  · have hx : x ∈ [[]] ++ uT p ++ List.replicate (xO p - (uT p).length) [] := hx
    rcases List.mem_append.1 hx with hx | hx
    · rcases List.mem_append.1 hx with hx | hx
      · simp at hx; subst hx; simp
      · have := zhV _ _ _ _ hx; omega
    · have := (List.mem_replicate.1 hx).2; subst this; simp
  · show (List.replicate p.Mutators.toNat (0 : Int)).length < _; simp; omega
  · show (List.replicate p.Mutators.toNat (0 : Int)).length < _; simp; omega
  · show ((List.range p.Workers.toNat).map (Ut p)).length < _; simp; omega
  · have hx : x ∈ (List.range p.Workers.toNat).map (Ut p) := hx
    obtain ⟨i, _, rfl⟩ := List.mem_map.1 hx
    simp [Ut]
  · show (p.Regs.map wX).length < _; simp; omega
  · have hx : x ∈ p.Regs.map wX := hx
    obtain ⟨r, hr, rfl⟩ := List.mem_map.1 hx
    exact ⟨hreg r hr, by simp [wX], by simp [wX]⟩
  · obtain ⟨i, hi⟩ := List.getElem?_of_mem hx
    have hlt := (List.getElem?_eq_some_iff.1 hi).1
    have := (h.prog i _ x (List.getElem?_eq_getElem (by have : p.Progs.length = p.Regs.length := by omega
                                                        have hlt : i < p.Progs.length := hlt
                                                        omega)) hi).1
    omega
  · show p.Picks.length < _; rw [h.picks]; simp
end
end Go.Pe.G
namespace Go.Pe.G
open Go.Pe
noncomputable section
theorem Xx {α B C : Type} {f : List α × List α × Int × Int × Unit → Option (yO (List α × List α × Int × Int × Unit) B C)} {l : List α} {b : B} (hl : l.length < 1000000)
    (h1 : ∀ (i : Nat) (x : α), l[i]? = some x → f (l, l, (l.length : Int), (i : Int), ()) = some (.again (l, l, (l.length : Int), ((i + 1 : Nat) : Int), ())))
    (h2 : f (l, l, (l.length : Int), (l.length : Int), ()) = some (.brk b)) : yj f (l, l, (l.length : Int), 0, ()) = some (.brk b) := by
  refine (ue (f := f) (fun a => ∃ i : Nat, a = (l, l, (l.length : Int), (i : Int), ()) ∧ i ≤ l.length) (fun a => l.length - a.2.2.2.1.toNat) (fun o => o = .brk b) ?_ (l, l, (l.length : Int), 0, ()) ⟨0, rfl, by omega⟩ (wH (by dsimp only; omega))).elim fun o h => ?_
  rotate_left
  · rw [h.1, h.2]
  · rintro _ ⟨i, rfl, hi⟩
    rcases Nat.lt_or_ge i l.length with hlt | hge
    · refine ⟨_, h1 i _ (List.getElem?_eq_getElem hlt), ⟨i + 1, rfl, hlt⟩, ?_⟩
      show l.length - ((i + 1 : Nat) : Int).toNat < l.length - (i : Int).toNat
      omega
    · have : i = l.length := by omega
      subst this
      exact ⟨_, h2, rfl⟩
theorem xW {l : List (Int)} (hl : l.length < 1000000) : ya l l = some (true, ()) := by
  rw [zd9, yi, if_pos rfl, Xx (b := ()) hl (fun i x hx => ?_) (by rw [Wa]; simp)]
  · rfl
  · have hlt := vO hx
    rw [Wa, zo, if_pos hlt, xL hx, Option.bind_some, Option.bind_some, yX (by omega)]
    simp
theorem zaA {l : List (BitVec 64)} (hl : l.length < 1000000) : Zb l l = some (true, ()) := by
  rw [zaC, yi, if_pos rfl, Xx (b := ()) hl (fun i x hx => ?_) (by rw [ZF]; simp)]
  · rfl
  · have hlt := vO hx
    rw [ZF, zo, if_pos hlt, xL hx, Option.bind_some, Option.bind_some, yX (by omega)]
    simp
theorem zbk {l : List (Int)} (hl : l.length < 1000000) : ZA l l = some (true, ()) := by
  rw [zbT, yi, if_pos rfl, Xx (b := ()) hl (fun i x hx => ?_) (by rw [Yq]; simp)]
  · rfl
  · have hlt := vO hx
    rw [Yq, zo, if_pos hlt, xL hx, Option.bind_some, Option.bind_some, yX (by omega)]
    simp
theorem UP {l : List (zg)} (hl : l.length < 1000000) : uA l l = some (true, ()) := by
  rw [UI, yi, if_pos rfl, Xx (b := ()) hl (fun i x hx => ?_) (by rw [Zq]; simp)]
  · rfl
  · have hlt := vO hx
    rw [Zq, zo, if_pos hlt, xL hx, Option.bind_some, Option.bind_some, yX (by omega)]
    simp
theorem Vz {l : List (zi)} (hl : l.length < 1000000) : vC l l = some (true, ()) := by
  rw [VC, yi, if_pos rfl, Xx (b := ()) hl (fun i x hx => ?_) (by rw [uE]; simp)]
  · rfl
  · have hlt := vO hx
    rw [uE, zo, if_pos hlt, xL hx, Option.bind_some, Option.bind_some, yX (by omega)]
    simp
theorem wo {l : List (List Int)} (hl : l.length < 1000000) (he : ∀ x ∈ l, x.length < 1000000) : zu l l = some (true, ()) := by
  rw [vK, yi, if_pos rfl, Xx (b := ()) hl (fun i x hx => ?_) (by rw [yT]; simp)]
  · rfl
  · have hlt := vO hx
    rw [yT, zo, if_pos hlt, xL hx, Option.bind_some, Option.bind_some, xW (he x (List.mem_of_getElem? hx)), Option.bind_some, yX (by omega)]
    simp
theorem uZ {l : List (List zg)} (hl : l.length < 1000000) (he : ∀ x ∈ l, x.length < 1000000) : z6 l l = some (true, ()) := by
  rw [xT, yi, if_pos rfl, Xx (b := ()) hl (fun i x hx => ?_) (by rw [yx]; simp)]
  · rfl
  · have hlt := vO hx
    rw [yx, zo, if_pos hlt, xL hx, Option.bind_some, Option.bind_some, UP (he x (List.mem_of_getElem? hx)), Option.bind_some, yX (by omega)]
    simp
theorem zto {w : zj} (h : w.Batch.length < 1000000) : VF w w = some (true, ()) := by
  rw [ziy, xW h]; simp
theorem zsJ {m : zc} (h : m.Regs.length < 1000000 ∧ m.Buf.length < 1000000 ∧ m.Batch.length < 1000000) : W5 m m = some (true, ()) := by
  rw [zg7, xW h.1, xW h.2.1, xW h.2.2, zfm]; simp
theorem va {l : List (zj)} (hl : l.length < 1000000) (he : ∀ x ∈ l, x.Batch.length < 1000000) : zU l l = some (true, ()) := by
  rw [xF, yi, if_pos rfl, Xx (b := ()) hl (fun i x hx => ?_) (by rw [yt]; simp)]
  · rfl
  · have hlt := vO hx
    rw [yt, zo, if_pos hlt, xL hx, Option.bind_some, Option.bind_some, zto (he x (List.mem_of_getElem? hx)), Option.bind_some, yX (by omega)]
    simp
theorem wN {l : List (zc)} (hl : l.length < 1000000) (he : ∀ x ∈ l, x.Regs.length < 1000000 ∧ x.Buf.length < 1000000 ∧ x.Batch.length < 1000000) : zN l l = some (true, ()) := by
  rw [xj, yi, if_pos rfl, Xx (b := ()) hl (fun i x hx => ?_) (by rw [yo]; simp)]
  · rfl
  · have hlt := vO hx
    rw [yo, zo, if_pos hlt, xL hx, Option.bind_some, Option.bind_some, zsJ (he x (List.mem_of_getElem? hx)), Option.bind_some, yX (by omega)]
    simp
theorem zqn {h : zn} (h1 : h.Objs.length < 1000000) (h2 : ∀ x ∈ h.Objs, x.length < 1000000) : uI h h = some (true, ()) := by
  rw [zpO, wo h1 h2]; simp
theorem zuQ {s : zb} (h : ZJ s) : zfW s s = some (true, ()) := by
  have hp : Zv s.P s.P = some (true, ()) := by
    rw [zpE, zhY, zqn h.pobjs h.pobj, wo h.regs h.reg, uZ h.progs h.prog, Vz h.picks]
    simp
  have hl : v9 s.L s.L = some (true, ()) := by
    rw [zmQ, zbk h.bal]; simp
  have hm : Yo s.M s.M = some (true, ()) := by
    rw [zqT, zaA h.m]; rfl
  rw [znG, hp, zqn h.objs h.obj, hm, wo h.bins h.bin, xW h.acks, hl, va h.ws h.w, wN h.ms h.mu]
  simp
end
end Go.Pe.G
namespace Go.Pe.G
open Go.Pe
noncomputable section
def goF {S : Type} (g : Nat → S → S) : Nat → Nat → S → S
  | _, 0, s => s
  | i, k + 1, s => goF g (i + 1) k (g i s)
theorem zqs {S : Type} {g : Nat → S → S} {Inv : S → Prop} (hg : ∀ i s, Inv s → Inv (g i s)) : ∀ (k i : Nat) (s : S), Inv s → Inv (goF g i k s)
  | 0, _, _, h => h
  | k + 1, i, s, h => zqs hg k (i + 1) _ (hg i s h)
theorem zp6 {S σ B C : Type} {f : σ → Option (yO σ B C)} (A : Int → S → σ) (b : S → B) (n : Nat) (hn : n < 1000000) (g : Nat → S → S) (Inv : S → Prop) (hg : ∀ i s, Inv s → Inv (g i s))
    (h1 : ∀ (i : Nat) s, i < n → Inv s → f (A (i : Int) s) = some (.again (A ((i + 1 : Nat) : Int) (g i s)))) (h2 : ∀ s, Inv s → f (A (n : Int) s) = some (.brk (b s))) {s : S} (hs : Inv s) :
    yj f (A 0 s) = some (.brk (b (goF g 0 n s))) := by
  have key : ∀ (k i : Nat) (s : S), n - i = k → i ≤ n → Inv s → ∀ m, k < m → xS f m (A (i : Int) s) = some (.brk (b (goF g i k s))) := by
    intro k
    induction k with
    | zero =>
      intro i s hk hi hs m hm
      have : i = n := by omega
      subst this
      obtain ⟨m, rfl⟩ : ∃ x, m = x + 1 := ⟨m - 1, by omega⟩
      simp only [xS]
      rw [h2 s hs]; rfl
    | succ k ih =>
      intro i s hk hi hs m hm
      obtain ⟨m, rfl⟩ : ∃ x, m = x + 1 := ⟨m - 1, by omega⟩
      simp only [xS]
      rw [h1 i s (by omega) hs, Option.bind_some]
      exact ih (i + 1) _ (by omega) (by omega) (hg i s hs) m (by omega)
  have := key n 0 s (by omega) (by omega) hs uJ (wH (by omega))
  rw [W8]
  exact this
end
end Go.Pe.G
namespace Go.Pe.G
open Go.Pe
noncomputable section
def zhz (m : List (BitVec 64)) (d : zh) : List (BitVec 64) × zh :=
  if d.PC < 0 ∨ 7 ≤ d.PC then (m, d)
  else if d.PC = 0 then (m, { d with B := ld m (wc (d.Base + 1)), PC := 1 })
  else if d.PC = 1 then (st m (wc (d.Base + 1)) (d.B - 1#64), { d with PC := 2 })
  else if d.PC = 2 then (m, { d with T := ld m d.Base, PC := if 0 < (ld m d.Base - (d.B - 1#64)).toInt then 5 else 3 })
  else if d.PC = 3 then (m, { d with X := (ld m (zbe d (d.B - 1#64))).toInt, PC := 4, Out := if d.T = d.B - 1#64 then d.Out else 1 })
  else if d.PC = 4 then ((sw m d.Base d.T (d.T + 1#64)).1, { d with PC := if (sw m d.Base d.T (d.T + 1#64)).2 then 6 else 5 })
  else if d.PC = 5 then (st m (wc (d.Base + 1)) d.B, { d with X := 0, Out := 2, PC := 6 })
  else (st m (wc (d.Base + 1)) d.B, { d with Out := 1, PC := 7 })
def zaU (m : List (BitVec 64)) (d : zh) : List (BitVec 64) × zh :=
  if d.PC < 0 ∨ 4 ≤ d.PC then (m, d)
  else if d.PC = 0 then (m, { d with T := ld m d.Base, PC := 1 })
  else if d.PC = 1 then (m, { d with B := ld m (wc (d.Base + 1)), PC := 2, Out := if 0 < (ld m (wc (d.Base + 1)) - d.T).toInt then d.Out else 2 })
  else if d.PC = 2 then (m, { d with X := (ld m (zbe d d.T)).toInt, PC := 3 })
  else ((sw m d.Base d.T (d.T + 1#64)).1, if (sw m d.Base d.T (d.T + 1#64)).2 then { d with Out := 1, PC := 4 } else { d with X := 0, Out := 4, PC := 4 })
def ul (m : List (BitVec 64)) (d : zh) : List (BitVec 64) × zh :=
  if d.Out ≠ 0 then (m, d) else if d.Kind = 1 then Zf m d else if d.Kind = 2 then zhz m d else if d.Kind = 3 then zaU m d else (m, d)
theorem ztl {m : List (BitVec 64)} {d : zh} (h : d.Kind = 1) : ul m d = Zf m d := by
  unfold ul
  by_cases h0 : d.Out ≠ 0
  · rw [if_pos h0]; unfold Zf; rw [if_pos (.inl h0)]
  · rw [if_neg h0, if_pos h]
theorem ztM {α : Type} {x y : Option α} {v : α} (h : x = some v) : Option.or x y = some v := by subst h; rfl
theorem zfC {α : Type} {x y z : Option α} (h : x = none) (h2 : y = z) : Option.or x y = z := by subst h; exact h2
theorem zwa : wc 1 = 1 ∧ wc 2 = 2 ∧ wc 3 = 3 ∧ wc 4 = 4 ∧ wc 5 = 5 ∧ wc 6 = 6 ∧ wc 7 = 7 := by decide
theorem zvj : w64 5 = 5 ∧ w64 6 = 6 ∧ w64 7 = 7 := by
  refine ⟨?_, ?_, ?_⟩ <;> exact z3 (by omega) (by omega)
theorem zyA {m : List (BitVec 64)} (hm : m.length < 4294967296) {d : zh} (hc : d.Cap < 1000) : zbZ m d = some ((ul m d).1, (ul m d).2, ()) := by
  by_cases k1 : d.Kind = 1
  · rw [ztl k1]; exact zhR hm k1 hc
  obtain ⟨w0, w1, w2, w3, w4⟩ := zsl
  obtain ⟨w5, w6, w7⟩ := zvj
  obtain ⟨v1, v2, v3, v4, v5, v6, v7⟩ := zwa
  have hsb : ∀ d : zh, wy m d = some (m, { d with B := ld m (wc (d.Base + 1)) }, ()) := fun d => by
    rw [Y9, xk, xu, Option.bind_some, Xs]; rfl
  have htk : ∀ d : zh, Yi m d = some ((sw m d.Base d.T (d.T + 1#64)).1, (sw m d.Base d.T (d.T + 1#64)).2, ()) := fun d => by
    obtain ⟨v, hv⟩ := zpJ hm d.Base d.T (d.T + 1#64)
    rw [zg4, Zr, Option.bind_some, hv]; rfl
  rw [zhD, zeG, zmj, zmq, zma]
  simp only [zo, yi, if_neg k1]
  unfold ul
  by_cases k2 : d.Kind = 2
  · refine zfC (by simp [k2]) (ztM ?_)
    rw [if_pos k2, Option.bind_some]
    by_cases g0 : d.Out = 0
    rotate_left
    · rw [if_neg g0, if_pos (show d.Out ≠ 0 from g0)]
    rw [if_pos g0, if_neg (show ¬ (d.Out ≠ 0) from fun e => e g0), if_neg k1, if_pos k2]
    unfold zhz
    by_cases g1 : d.PC < 0
    · rw [if_pos g1, if_pos (.inl g1)]
    rw [if_neg g1]
    by_cases g2 : 7 ≤ d.PC
    · rw [if_pos g2, if_pos (.inr g2)]
    rw [if_neg g2, if_neg (show ¬ (d.PC < 0 ∨ 7 ≤ d.PC) by omega)]
    have hpc : d.PC = 0 ∨ d.PC = 1 ∨ d.PC = 2 ∨ d.PC = 3 ∨ d.PC = 4 ∨ d.PC = 5 ∨ d.PC = 6 := by omega
    rcases hpc with h | h | h | h | h | h | h
    · simp [h, hsb, w1]
    · simp [h, zgE, xk, xu, U9 hm, v1, v2, v3, v4, v5, v6, v7]
    · rw [h, if_neg (by decide), if_neg (by decide), if_neg (by decide), if_neg (by decide), if_pos rfl, if_neg (by decide), if_neg (by decide), if_pos rfl]
      simp only [zc8, Zr, Option.bind_some, Xs, zgC, zo]
      by_cases hs : 0 < (ld m d.Base - (d.B - 1#64)).toInt
      · simp only [if_pos hs, Option.bind_some, Int.reduceAdd, w5]
      · simp only [if_neg hs, Option.bind_some, h, Int.reduceAdd, w3]
    · simp only [h, zeQ, zij hc, Option.bind_some, Xs, yi, wb]
      by_cases hs : d.T = d.B - 1#64
      · simp [hs, w4, h]
      · simp [hs, w4, h]
    · simp only [h, zeh, htk, Option.bind_some]
      cases hs : (sw m d.Base d.T (d.T + 1#64)).2 with
      | true => simp [hs, w6, h]
      | false => simp [hs, w5, h]
    · simp [h, zd8, wb, k1, xk, xu, U9 hm, v1, v2, v3, v4, v5, v6, v7]
    · simp [h, zfg, wb, xk, xu, U9 hm, v1, v2, v3, v4, v5, v6, v7]
  by_cases k3 : d.Kind = 3
  · refine zfC (by simp [k2, k3]) (zfC (by simp [k2, k3]) (ztM ?_))
    rw [if_neg k2, if_pos k3, Option.bind_some]
    by_cases g0 : d.Out = 0
    rotate_left
    · rw [if_neg g0, if_pos (show d.Out ≠ 0 from g0)]
    rw [if_pos g0, if_neg (show ¬ (d.Out ≠ 0) from fun e => e g0), if_neg k1, if_neg k2, if_pos k3]
    unfold zaU
    by_cases g1 : d.PC < 0
    · rw [if_pos g1, if_pos (.inl g1)]
    rw [if_neg g1]
    by_cases g2 : 4 ≤ d.PC
    · rw [if_pos g2, if_pos (.inr g2)]
    rw [if_neg g2, if_neg (show ¬ (d.PC < 0 ∨ 4 ≤ d.PC) by omega)]
    have hpc : d.PC = 0 ∨ d.PC = 1 ∨ d.PC = 2 ∨ d.PC = 3 := by omega
    rcases hpc with h | h | h | h
    · simp [h, ze0, Zr, Xs, w1]
    · rw [h, if_neg (by decide), if_neg (by decide), if_pos rfl, if_neg (by decide), if_pos rfl]
      simp only [zfe, xk, Option.bind_some, Xs, zgC, yi, xu]
      by_cases hs : 0 < (ld m (wc (d.Base + 1)) - d.T).toInt
      · simp only [if_pos hs, Option.bind_some, Int.reduceAdd, v2, h]
      · simp only [if_neg hs, Option.bind_some, Int.reduceAdd, v2, h]
    · simp [h, zef, zij hc, Xs, w3]
    · simp only [h, zcT, htk, Option.bind_some, wb]
      cases hs : (sw m d.Base d.T (d.T + 1#64)).2 with
      | true => simp [hs, w4, h]
      | false => simp [hs, w4, h, k1]
  · refine zfC (by simp [k2, k3]) (zfC (by simp [k2, k3]) (zfC (by simp [k2, k3]) ?_))
    rw [if_neg k2, if_neg k3, Option.bind_some]
    by_cases g0 : d.Out = 0
    · simp [g0, k1, k2, k3]
    · simp [g0]
theorem ztT (m : List (BitVec 64)) (d : zh) : (zhz m d).1.length = m.length ∧ (zhz m d).2.Kind = d.Kind ∧ (zhz m d).2.Base = d.Base ∧ (zhz m d).2.Cap = d.Cap := by
  unfold zhz sw st
  split
  · exact ⟨rfl, rfl, rfl, rfl⟩
  split
  · exact ⟨rfl, rfl, rfl, rfl⟩
  split
  · refine ⟨?_, rfl, rfl, rfl⟩; dsimp only; split <;> simp
  split
  · exact ⟨rfl, rfl, rfl, rfl⟩
  split
  · exact ⟨rfl, rfl, rfl, rfl⟩
  split
  · refine ⟨?_, rfl, rfl, rfl⟩; dsimp only; split <;> (try split) <;> simp
  split <;> (refine ⟨?_, rfl, rfl, rfl⟩; dsimp only; split <;> simp)
theorem zsI (m : List (BitVec 64)) (d : zh) : (zaU m d).1.length = m.length ∧ (zaU m d).2.Kind = d.Kind ∧ (zaU m d).2.Base = d.Base ∧ (zaU m d).2.Cap = d.Cap := by
  unfold zaU sw st
  split
  · exact ⟨rfl, rfl, rfl, rfl⟩
  split
  · exact ⟨rfl, rfl, rfl, rfl⟩
  split
  · exact ⟨rfl, rfl, rfl, rfl⟩
  split
  · exact ⟨rfl, rfl, rfl, rfl⟩
  · refine ⟨?_, ?_, ?_, ?_⟩ <;> dsimp only <;> split <;> (try split) <;> simp
end
end Go.Pe.G
namespace Go.Pe.G
open Go.Pe
noncomputable section
def zA (h : zn) (o : Int) : List Int := h.Objs.getD (o - 1).toNat []
def Yw (h : zn) (o s : Int) : Bool := decide (1 ≤ o) && decide (o ≤ (h.Objs.length : Int)) && decide (0 ≤ s) && decide (s < ((zA h o).length : Int))
def uX (h : zn) (o s : Int) : Int := if Yw h o s then (zA h o).getD s.toNat 0 else 0
def yK (s : BitVec 64) (o : Int) : Bool := !(decide (s &&& bit o = 0#64))
def zbI (t : zt) (o : Int) : Int := if yK (t.Marks &&& t.Black) o then 2 else if yK t.Marks o then 1 else 0
def zoR (t : zt) (o : Int) : zt := if zbI t o = 1 then { t with Black := t.Black ||| bit o } else t
def zlY (l : zk) (who : Int) : zk :=
  if 1 ≤ who ∧ who ≤ (l.Bal.length : Int) then { l with Scanned := wc (l.Scanned + 1), Bal := l.Bal.set (who - 1).toNat (wc (l.Bal.getD (who - 1).toNat 0 + 1)) }
  else { l with Scanned := wc (l.Scanned + 1), Pool := wc (l.Pool + 1) }
def zlQ (s : zb) (b : Int) : List Int := s.Bins.getD b.toNat []
def zv1 (p : zd) (h x : Int) : zC := ⟨2, 0, h, yS p, 0#64, x, 0, 0⟩
def zuA (p : zd) (h x : Int) : zC := ⟨1, 0, h, yS p, 0#64, x, 0, 0⟩
def onW (s : zb) (slot : Int) : Int := if slot = s.H.Slots then 8 else 5
def zsu (p : zd) (w : Int) (x : zj) : zj := { x with PC := 0, Victim := w, D := ⟨2, 0, Z6 p w, p.Cap, 0#64, 0#64, 0, 0⟩ }
def zl3 (n v : Int) : Int := if v < n then v + 1 else 1
def zn0 (p : zd) (w : Int) (x : zj) : zj :=
  if zl3 p.Workers x.Victim = w then { x with PC := 2, Victim := w, C := zv1 p (vE p) 0 }
  else { x with PC := 1, Victim := zl3 p.Workers x.Victim, D := ⟨3, 0, Z6 p (zl3 p.Workers x.Victim), p.Cap, 0#64, 0#64, 0, 0⟩ }
def yH (s : zb) (w : Int) (x : zj) : zb × zj :=
  if x.PC = 0 ∨ x.PC = 1 then
    ({ s with M := (ul s.M x.D).1 },
      if (ul s.M x.D).2.Out = 1 then { x with D := (ul s.M x.D).2, Victim := w, PC := 5, Obj := (ul s.M x.D).2.X, Slot := 0 }
      else if (ul s.M x.D).2.Out = 2 ∨ (ul s.M x.D).2.Out = 4 then zn0 s.P w { x with D := (ul s.M x.D).2 } else { x with D := (ul s.M x.D).2 })
  else if x.PC = 2 then
    ({ s with M := (zY s.M x.C).1 },
      if (zY s.M x.C).2.Out = 1 then { x with C := (zY s.M x.C).2, Bin := (zY s.M x.C).2.X, PC := 3 }
      else if (zY s.M x.C).2.Out = 2 then zsu s.P w { x with C := (zY s.M x.C).2 } else { x with C := (zY s.M x.C).2 })
  else if x.PC = 3 then ({ s with Bins := s.Bins.set x.Bin.toNat [] }, { x with Batch := zlQ s x.Bin, PC := 4, C := zuA s.P (yS s.P) x.Bin })
  else if x.PC = 4 then
    ({ s with M := (zY s.M x.C).1 }, if (zY s.M x.C).2.Out = 1 then { x with C := (zY s.M x.C).2, Bin := 0, PC := 7 } else { x with C := (zY s.M x.C).2 })
  else if x.PC = 5 then
    (s, if uX s.H x.Obj x.Slot = 0 then { x with Slot := wc (x.Slot + 1), PC := onW s (wc (x.Slot + 1)) } else { x with Slot := wc (x.Slot + 1), PC := 6, G := zow 1 (uX s.H x.Obj x.Slot) w })
  else if x.PC = 6 then ((zI s x.G).1, if (zI s x.G).2.Out = 1 then { x with G := (zI s x.G).2, PC := onW s x.Slot } else { x with G := (zI s x.G).2 })
  else if x.PC = 7 then (s, match x.Batch with | [] => zsu s.P w x | o :: l => { x with Batch := l, PC := 5, Obj := o, Slot := 0 })
  else if x.PC = 8 then ({ s with T := zoR s.T x.Obj, L := zlY s.L 0 }, { x with PC := 9 })
  else if x.PC = 9 then ({ s with Work := wc (s.Work - 1) }, { x with Obj := 0, PC := 7 })
  else (s, x)
def uO (s : zb) (w : Int) : zb :=
  if s.Done = true ∨ w < 1 ∨ (s.Ws.length : Int) < w then s
  else match s.Ws[(w - 1).toNat]? with
    | some x => { (yH s w x).1 with Ws := s.Ws.set (w - 1).toNat (yH s w x).2 }
    | none => s
structure zt7 (p : zd) (nb : Nat) (hd : Int) (c : zC) : Prop where
  k : c.Kind = 2
  h : c.Head = hd
  n : c.Next = yS p
  v : 1 ≤ c.PC → 1 ≤ yV c.H ∧ yV c.H < nb
  y : 2 ≤ c.PC → 0 ≤ c.Y ∧ c.Y < nb
  o : c.Out ≠ 1
structure zsi (p : zd) (nb : Nat) (hd : Int) (c : zC) : Prop where
  k : c.Kind = 1
  h : c.Head = hd
  n : c.Next = yS p
  x : 1 ≤ c.X ∧ c.X < nb
  v : 1 ≤ c.PC → yV c.H < nb
theorem ztG {p : zd} {nb : Nat} {hd x : Int} : zt7 p nb hd (zv1 p hd x) :=
  ⟨rfl, rfl, rfl, fun e => absurd e (by show ¬ (1 : Int) ≤ 0; decide), fun e => absurd e (by show ¬ (2 : Int) ≤ 0; decide), by show (0 : Int) ≠ 1; decide⟩
theorem zsR {p : zd} {nb : Nat} {hd x : Int} (h : 1 ≤ x ∧ x < nb) : zsi p nb hd (zuA p hd x) :=
  ⟨rfl, rfl, rfl, h, fun e => absurd e (by show ¬ (1 : Int) ≤ 0; decide)⟩
structure WOk (p : zd) (nb : Nat) (w : Int) (x : zj) : Prop where
  pc : 0 ≤ x.PC ∧ x.PC ≤ 9
  vic : 1 ≤ x.Victim ∧ x.Victim ≤ p.Workers
  d0 : x.PC = 0 → x.D.Kind = 2 ∧ x.D.Base = Z6 p w ∧ x.D.Cap = p.Cap
  d1 : x.PC = 1 → x.D.Kind = 3 ∧ x.D.Base = Z6 p x.Victim ∧ x.D.Cap = p.Cap
  c2 : x.PC = 2 → zt7 p nb (vE p) x.C
  b3 : x.PC = 3 → 1 ≤ x.Bin ∧ x.Bin < nb
  c4 : x.PC = 4 → zsi p nb (yS p) x.C
  g6 : x.PC = 6 → MOk p nb x.G ∧ (x.G.PC = 5 → x.G.C.Out ≠ 1) ∧ x.G.Mode = 1 ∧ x.G.PC ≠ 4
theorem WOk.plain {p : zd} {nb : Nat} {w : Int} {x : zj} (pc : x.PC = 5 ∨ x.PC = 7 ∨ x.PC = 8 ∨ x.PC = 9) (vic : 1 ≤ x.Victim ∧ x.Victim ≤ p.Workers) : WOk p nb w x :=
  ⟨by omega, vic, fun e => by omega, fun e => by omega, fun e => by omega, fun e => by omega, fun e => by omega, fun e => by omega⟩
theorem SOk.swLow {p : zd} {nb : Nat} {s : zb} (h : zL p) (S : SOk p nb s) {a : Int} (ha : a < vE p) (x v : BitVec 64) : SOk p nb { s with M := (sw s.M a x v).1 } := by
  unfold sw
  split
  · exact S.low h ha v
  · exact S
theorem zyv {p : zd} {nb : Nat} {s : zb} (h : zL p) (S : SOk p nb s) {d : zh} {v : Int} (hv : 1 ≤ v ∧ v ≤ p.Workers) (hk : d.Kind = 2 ∨ d.Kind = 3) (hb : d.Base = Z6 p v) : SOk p nb { s with M := (ul s.M d).1 } := by
  have hd := zmU h hv.1 hv.2
  have hc := h.cap
  have hf := zaZ h
  have e1 : wc (d.Base + 1) = d.Base + 1 := Yc (by omega) (by omega)
  unfold ul
  split
  · exact S
  split
  · omega
  split
  · unfold zhz
    rw [e1]
    split
    · exact S
    split
    · exact S
    split
    · exact S.low h (by omega) _
    split
    · exact S
    split
    · exact S
    split
    · exact S.swLow h (by omega) _ _
    split <;> exact S.low h (by omega) _
  split
  · unfold zaU
    split
    · exact S
    split
    · exact S
    split
    · exact S
    split
    · exact S
    · exact S.swLow h (by omega) _ _
  · exact S
theorem zmA (m : List (BitVec 64)) (d : zh) : (ul m d).1.length = m.length ∧ (ul m d).2.Kind = d.Kind ∧ (ul m d).2.Base = d.Base ∧ (ul m d).2.Cap = d.Cap := by
  unfold ul
  split
  · exact ⟨rfl, rfl, rfl, rfl⟩
  split
  · unfold Zf
    split
    · exact ⟨rfl, rfl, rfl, rfl⟩
    split
    · exact ⟨rfl, rfl, rfl, rfl⟩
    split
    · refine ⟨rfl, ?_, ?_, ?_⟩ <;> dsimp only <;> split <;> rfl
    split <;> exact ⟨Vj _ _ _, rfl, rfl, rfl⟩
  split
  · exact ztT m d
  split
  · exact zsI m d
  · exact ⟨rfl, rfl, rfl, rfl⟩
theorem zwP {n v : Int} (h : 1 ≤ v ∧ v ≤ n) : 1 ≤ zl3 n v ∧ zl3 n v ≤ n := by unfold zl3; split <;> omega
theorem WOk.look {p : zd} {nb : Nat} {w : Int} {x : zj} (hw : 1 ≤ w ∧ w ≤ p.Workers) (vic : 1 ≤ x.Victim ∧ x.Victim ≤ p.Workers) : WOk p nb w (zn0 p w x) := by
  have hn := zwP vic
  unfold zn0
  split
  · exact ⟨⟨(by show (0 : Int) ≤ 2; decide), (by show (2 : Int) ≤ 9; decide)⟩, hw, fun e => (by cases e), fun e => (by cases e), fun _ => ztG, fun e => (by cases e), fun e => (by cases e), fun e => (by cases e)⟩
  · exact ⟨⟨(by show (0 : Int) ≤ 1; decide), (by show (1 : Int) ≤ 9; decide)⟩, hn, fun e => (by cases e), fun _ => ⟨rfl, rfl, rfl⟩, fun e => (by cases e), fun e => (by cases e), fun e => (by cases e), fun e => (by cases e)⟩
theorem WOk.begin {p : zd} {nb : Nat} {w : Int} {x : zj} (hw : 1 ≤ w ∧ w ≤ p.Workers) : WOk p nb w (zsu p w x) :=
  ⟨⟨(by show (0 : Int) ≤ 0; decide), (by show (0 : Int) ≤ 9; decide)⟩, hw, fun _ => ⟨rfl, rfl, rfl⟩, fun e => (by cases e), fun e => (by cases e), fun e => (by cases e), fun e => (by cases e), fun e => (by cases e)⟩
theorem ztP (s : zb) {g : zE} (h1 : g.Mode = 1) (h4 : g.PC ≠ 4) : (zI s g).2.PC ≠ 4 ∧ (zI s g).1.Flag = s.Flag := by
  have five : (5 : Int) ≠ 4 := by decide
  unfold zI
  split
  · exact ⟨h4, rfl⟩
  split
  · refine ⟨?_, rfl⟩; unfold zgc; dsimp only; split <;> exact h4
  split
  · exact ⟨(by show (7 : Int) ≠ 4; decide), rfl⟩
  split
  · refine ⟨?_, rfl⟩; unfold zl1; dsimp only
    split
    · show (6 : Int) ≠ 4; decide
    split
    · exact five
    · exact h4
  split
  · refine ⟨?_, rfl⟩; unfold zlO; dsimp only
    split
    · exact h4
    split
    · exact five
    · exact h4
  split
  · exact ⟨h4, rfl⟩
  split
  · refine ⟨?_, rfl⟩; unfold znJ; dsimp only
    split
    · show (2 : Int) ≠ 4; decide
    · show (3 : Int) ≠ 4; decide
  · exact ⟨(by show (1 : Int) ≠ 4; decide), rfl⟩
theorem zvw (s : zb) (i : Int) : onW s i = 5 ∨ onW s i = 8 := by unfold onW; split <;> simp
theorem SOk.keep {p : zd} {nb : Nat} {s s' : zb} (S : SOk p nb s) (hP : s'.P = s.P) (hM : s'.M = s.M) (hB : s'.Bins.length = s.Bins.length) : SOk p nb s' :=
  ⟨hP.trans S.P, hB.trans S.bins, S.nbk, by rw [hM]; exact S.mem, by rw [hM]; exact S.cF, by rw [hM]; exact S.cE, by rw [hM]; exact S.cL⟩
theorem zxz {p : zd} {nb : Nat} {s : zb} {w : Int} {x : zj} (h : zL p) (hw : 1 ≤ w ∧ w ≤ p.Workers) (S : SOk p nb s) (W : WOk p nb w x) : SOk p nb (yH s w x).1 ∧ WOk p nb w (yH s w x).2 := by
  have hP := S.P
  unfold yH
  split
  · rename_i h01
    have hv : ∃ v, (1 ≤ v ∧ v ≤ p.Workers) ∧ (x.D.Kind = 2 ∨ x.D.Kind = 3) ∧ x.D.Base = Z6 p v := by
      rcases h01 with e | e
      · obtain ⟨a, b, c⟩ := W.d0 e; exact ⟨w, hw, .inl a, b⟩
      · obtain ⟨a, b, c⟩ := W.d1 e; exact ⟨x.Victim, W.vic, .inr a, b⟩
    obtain ⟨v, hv1, hv2, hv3⟩ := hv
    refine ⟨zyv h S hv1 hv2 hv3, ?_⟩
    obtain ⟨l1, l2, l3, l4⟩ := zmA s.M x.D
    dsimp only
    split
    · exact WOk.plain (.inl rfl) hw
    split
    · rw [hP]; exact WOk.look hw W.vic
    · refine ⟨W.pc, W.vic, fun e => ?_, fun e => ?_, fun e => by dsimp only at e; omega, fun e => by dsimp only at e; omega, fun e => by dsimp only at e; omega, fun e => by dsimp only at e; omega⟩
      · obtain ⟨a, b, c⟩ := W.d0 e; exact ⟨l2.trans a, l3.trans b, l4.trans c⟩
      · obtain ⟨a, b, c⟩ := W.d1 e; exact ⟨l2.trans a, l3.trans b, l4.trans c⟩
  split
  · rename_i h2
    have C := W.c2 h2
    obtain ⟨b1, b2, b3, b4, b5, b6⟩ := zst h S (.inl rfl) C.k C.h C.n C.v C.y C.o
    refine ⟨b1, ?_⟩
    dsimp only
    split
    · rename_i e1
      exact ⟨⟨(by show (0 : Int) ≤ 3; decide), (by show (3 : Int) ≤ 9; decide)⟩, W.vic, fun e => (by cases e), fun e => (by cases e), fun e => (by cases e), fun _ => b6 e1, fun e => (by cases e), fun e => (by cases e)⟩
    split
    · rw [hP]; exact WOk.begin hw
    · rename_i e1 e2
      exact ⟨W.pc, W.vic, fun e => (by dsimp only at e; omega), fun e => (by dsimp only at e; omega), fun _ => ⟨b2, b3, b4, (b5 e1 e2).1, (b5 e1 e2).2, e1⟩, fun e => (by dsimp only at e; omega), fun e => (by dsimp only at e; omega), fun e => (by dsimp only at e; omega)⟩
  split
  · rename_i h3
    have B := W.b3 h3
    refine ⟨S.keep rfl rfl (by simp), ?_⟩
    rw [hP]
    exact ⟨⟨(by show (0 : Int) ≤ 4; decide), (by show (4 : Int) ≤ 9; decide)⟩, W.vic, fun e => (by cases e), fun e => (by cases e), fun e => (by cases e), fun e => (by cases e), fun _ => zsR B, fun e => (by cases e)⟩
  split
  · rename_i h4
    have C := W.c4 h4
    obtain ⟨b1, b2, b3, b4, b5, b6⟩ := zpc h S (.inr rfl) C.k C.h C.n C.x C.v
    refine ⟨b1, ?_⟩
    dsimp only
    split
    · exact WOk.plain (.inr (.inl rfl)) W.vic
    · exact ⟨W.pc, W.vic, fun e => (by dsimp only at e; omega), fun e => (by dsimp only at e; omega), fun e => (by dsimp only at e; omega), fun e => (by dsimp only at e; omega), fun _ => ⟨b2, b3, b4, b5, b6⟩, fun e => (by dsimp only at e; omega)⟩
  split
  · refine ⟨S, ?_⟩
    dsimp only
    split
    · rcases zvw s (wc (x.Slot + 1)) with e | e <;> rw [e]
      · exact WOk.plain (.inl rfl) W.vic
      · exact WOk.plain (.inr (.inr (.inl rfl))) W.vic
    · exact ⟨⟨(by show (0 : Int) ≤ 6; decide), (by show (6 : Int) ≤ 9; decide)⟩, W.vic, fun e => (by cases e), fun e => (by cases e), fun e => (by cases e), fun e => (by cases e), fun e => (by cases e), fun _ =>
        ⟨⟨fun _ => hw, fun e => (by cases e), fun e => (by cases e), fun e => (by cases e), fun e => (by cases e)⟩, fun e => (by cases e), rfl, by show (0 : Int) ≠ 4; decide⟩⟩
  split
  · rename_i h6
    obtain ⟨g1, g2, g3, g4⟩ := W.g6 h6
    obtain ⟨r1, r2, r3⟩ := zqc h S g1 g2
    refine ⟨r1, ?_⟩
    dsimp only
    split
    · rcases zvw s x.Slot with e | e <;> rw [e]
      · exact WOk.plain (.inl rfl) W.vic
      · exact WOk.plain (.inr (.inr (.inl rfl))) W.vic
    · exact ⟨W.pc, W.vic, fun e => (by dsimp only at e; omega), fun e => (by dsimp only at e; omega), fun e => (by dsimp only at e; omega), fun e => (by dsimp only at e; omega), fun e => (by dsimp only at e; omega), fun _ => ⟨r2, r3, (zng s x.G).2.2.trans g3, (ztP s g3 g4).1⟩⟩
  split
  · refine ⟨S, ?_⟩
    dsimp only
    split
    · rw [hP]; exact WOk.begin hw
    · exact WOk.plain (.inl rfl) W.vic
  split
  · exact ⟨S.keep rfl rfl rfl, WOk.plain (.inr (.inr (.inr rfl))) W.vic⟩
  split
  · exact ⟨S.keep rfl rfl rfl, WOk.plain (.inr (.inl rfl)) W.vic⟩
  · have := W.pc
    omega
end
end Go.Pe.G
namespace Go.Pe.G
open Go.Pe
noncomputable section
def Vu (h : zn) (o s v : Int) : zn :=
  if Yw h o s = true ∧ 0 ≤ v ∧ v ≤ (h.Objs.length : Int) then { h with Objs := h.Objs.set (o - 1).toNat ((zA h o).set s.toNat v) } else h
def zeY (h : zn) (most : Int) : Bool := decide ((h.Objs.length : Int) < most) && decide ((h.Objs.length : Int) < 64)
def Ww (h : zn) : zn := { h with Objs := h.Objs ++ [List.replicate h.Slots.toNat 0] }
def zob (t : zt) (o : Int) : zt := if (zeL t o).2 = true then zoR (zeL t o).1 o else t
def zbY (l : zk) (who : Int) : Int := l.Bal.getD (who - 1).toNat 0
def Uj (l : zk) (who : Int) : Bool := decide (1 ≤ who) && decide (who ≤ (l.Bal.length : Int))
def Ux (l : zk) (who price limit : Int) : Bool := Uj l who && decide (0 ≤ price) && decide (0 ≤ limit) && decide (price ≤ 1000000) && decide (limit ≤ 1000000)
def zj5 (l : zk) (who price limit : Int) : Bool := Ux l who price limit && decide (wc (-limit) ≤ wc (zbY l who - price))
def zkT (l : zk) (who price : Int) : zk := { l with Spent := wc (l.Spent + price), Bal := l.Bal.set (who - 1).toNat (wc (zbY l who - price)) }
def zlw (l : zk) (who price limit : Int) : Int := if Ux l who price limit then (if zj5 l who price limit then 0 else wc (wc (price - limit) - zbY l who)) else -1
def zjm (a b : Int) : Int := if b < a then b else a
def zhp (l : zk) (who want : Int) : zk × Int :=
  if Uj l who = true ∧ 0 < zjm want l.Pool then ({ l with Pool := wc (l.Pool - zjm want l.Pool), Bal := l.Bal.set (who - 1).toNat (wc (zbY l who + zjm want l.Pool)) }, zjm want l.Pool) else (l, 0)
def wi (p : zd) (m : Int) : List zg := p.Progs.getD (m - 1).toNat []
def opM (p : zd) (m : Int) (x : zc) : zg := (wi p m).getD x.IP.toNat ⟨0, 0, 0, 0⟩
def zaD (x : zc) (r : Int) : Int := x.Regs.getD r.toNat 0
def zrh (x : zc) : zc := { x with PC := 0, IP := wc (x.IP + 1) }
def setM (x : zc) (r v : Int) : zc := { x with PC := 0, IP := wc (x.IP + 1), Regs := x.Regs.set r.toNat v }
def onM (s : zb) (slot : Int) : Int := if slot = s.H.Slots then 38 else 36
def zrg (s : zb) (m : Int) (x : zc) : Int := uX s.H (zaD x (opM s.P m x).A) (opM s.P m x).S
def zba (s : zb) (m : Int) (x : zc) : zc :=
  if s.Acks.getD (m - 1).toNat 0 < s.Epoch then { x with PC := 1, Ret := 2, Want := s.Epoch }
  else if ((wi s.P m).length : Int) ≤ x.IP then x
  else if (opM s.P m x).Kind = 1 then { x with PC := 10 }
  else if (opM s.P m x).Kind = 2 then { x with PC := 20 }
  else if (opM s.P m x).Kind = 3 then { x with PC := 30 }
  else if (opM s.P m x).Kind = 4 then setM x (opM s.P m x).R (zaD x (opM s.P m x).A)
  else setM x (opM s.P m x).R 0
def mu0 (s : zb) (m : Int) (x : zc) : zb × zc :=
  (s, zba s m x)
def mu1 (s : zb) (m : Int) (x : zc) : zb × zc :=
  (s, if x.Buf.length = 0 then { x with PC := x.Ret } else { x with PC := 3, Buf := x.Buf.take (x.Buf.length - 1), G := zow 2 (x.Buf.getD (x.Buf.length - 1) 0) m })
def mu2 (s : zb) (m : Int) (x : zc) : zb × zc :=
  ({ s with Acks := s.Acks.set (m - 1).toNat x.Want }, { x with PC := 0 })
def mu3 (s : zb) (m : Int) (x : zc) : zb × zc :=
  ((zI s x.G).1, if (zI s x.G).2.Out = 1 then { x with PC := 1, G := (zI s x.G).2 } else { x with G := (zI s x.G).2 })
def zlq (s : zb) (m : Int) (x : zc) : zb × zc :=
  (s, setM x (opM s.P m x).R (zrg s m x))
def zjF (s : zb) (m : Int) (x : zc) : zb × zc :=
  (s, if zaD x (opM s.P m x).A = 0 then zrh x else { x with PC := 21, Old := zrg s m x })
def zjH (s : zb) (m : Int) (x : zc) : zb × zc :=
  (s, if x.Old = 0 ∨ zbI s.T x.Old ≠ 0 then { x with PC := 23, Old := 0 } else { x with PC := 22 })
def zjT (s : zb) (m : Int) (x : zc) : zb × zc :=
  (s, if s.P.Buf ≤ (x.Buf.length : Int) then { x with PC := 1, Ret := 22 } else { x with PC := 23, Old := 0, Buf := x.Buf ++ [x.Old] })
def zlC (s : zb) (m : Int) (x : zc) : zb × zc :=
  ({ s with H := Vu s.H (zaD x (opM s.P m x).A) (opM s.P m x).S (zaD x (opM s.P m x).R) }, zrh x)
def zgz (s : zb) (m : Int) (x : zc) : zb × zc :=
     if zj5 s.L m s.P.Price s.P.Limit = true then
      if zeY s.H s.P.Most = true then ({ s with L := zkT s.L m s.P.Price, H := Ww s.H, T := zob s.T (wc (s.H.Objs.length + 1)) }, setM x (opM s.P m x).R (wc (s.H.Objs.length + 1)))
      else (s, zrh x)
    else (s, { x with PC := 31 })
def zjw (s : zb) (m : Int) (x : zc) : zb × zc :=
     ({ s with L := (zhp s.L m (zlw s.L m s.P.Price s.P.Limit)).1 }, if (zhp s.L m (zlw s.L m s.P.Price s.P.Limit)).2 = 0 then { x with PC := 32, C := zv1 s.P (vE s.P) x.Bin } else { x with PC := 0 })
def zjL (s : zb) (m : Int) (x : zc) : zb × zc :=
     ({ s with M := (zY s.M x.C).1 }, if (zY s.M x.C).2.Out = 1 then { x with PC := 33, Bin := (zY s.M x.C).2.X, C := (zY s.M x.C).2 }
      else if (zY s.M x.C).2.Out = 2 then { x with PC := 0, C := (zY s.M x.C).2 } else { x with C := (zY s.M x.C).2 })
def zk6 (s : zb) (m : Int) (x : zc) : zb × zc :=
  ({ s with Bins := s.Bins.set x.Bin.toNat [] }, { x with Batch := zlQ s x.Bin, PC := 34, C := zuA s.P (yS s.P) x.Bin })
def zkh (s : zb) (m : Int) (x : zc) : zb × zc :=
     ({ s with M := (zY s.M x.C).1 }, if (zY s.M x.C).2.Out = 1 then { x with C := (zY s.M x.C).2, Bin := 0, PC := 35 } else { x with C := (zY s.M x.C).2 })
def zjv (s : zb) (m : Int) (x : zc) : zb × zc :=
  (s, match x.Batch with | [] => { x with PC := 0 } | o :: l => { x with PC := 36, Obj := o, Slot := 0, Batch := l })
def zkd (s : zb) (m : Int) (x : zc) : zb × zc :=
     (s, if uX s.H x.Obj x.Slot = 0 then { x with Slot := wc (x.Slot + 1), PC := onM s (wc (x.Slot + 1)) } else { x with Slot := wc (x.Slot + 1), PC := 37, G := zow 3 (uX s.H x.Obj x.Slot) m })
def zlA (s : zb) (m : Int) (x : zc) : zb × zc :=
  ((zI s x.G).1, if (zI s x.G).2.Out = 1 then { x with G := (zI s x.G).2, PC := onM s x.Slot } else { x with G := (zI s x.G).2 })
def zlD (s : zb) (m : Int) (x : zc) : zb × zc :=
  ({ s with T := zoR s.T x.Obj, L := zlY s.L m }, { x with PC := 39 })
def zmP (s : zb) (m : Int) (x : zc) : zb × zc :=
  ({ s with Work := wc (s.Work - 1) }, { x with Obj := 0, PC := 35 })
def zP (s : zb) (m : Int) (x : zc) : zb × zc :=
  if x.PC = 0 then mu0 s m x
  else if x.PC = 1 then mu1 s m x
  else if x.PC = 2 then mu2 s m x
  else if x.PC = 3 then mu3 s m x
  else if x.PC = 10 then zlq s m x
  else if x.PC = 20 then zjF s m x
  else if x.PC = 21 then zjH s m x
  else if x.PC = 22 then zjT s m x
  else if x.PC = 23 then zlC s m x
  else if x.PC = 30 then zgz s m x
  else if x.PC = 31 then zjw s m x
  else if x.PC = 32 then zjL s m x
  else if x.PC = 33 then zk6 s m x
  else if x.PC = 34 then zkh s m x
  else if x.PC = 35 then zjv s m x
  else if x.PC = 36 then zkd s m x
  else if x.PC = 37 then zlA s m x
  else if x.PC = 38 then zlD s m x
  else if x.PC = 39 then zmP s m x
  else (s, x)
def z8 (s : zb) (m : Int) : zb :=
  if s.Done = true ∨ m < 1 ∨ (s.Ms.length : Int) < m then s
  else match s.Ms[(m - 1).toNat]? with
    | some x => { (zP s m x).1 with Ms := s.Ms.set (m - 1).toNat (zP s m x).2 }
    | none => s
def zdt (p : zd) (m : Int) : Nat := (p.Regs.getD (m - 1).toNat []).length
structure XOk (p : zd) (nb : Nat) (m : Int) (x : zc) : Prop where
  pc : (0 ≤ x.PC ∧ x.PC ≤ 3) ∨ x.PC = 10 ∨ (20 ≤ x.PC ∧ x.PC ≤ 23) ∨ (30 ≤ x.PC ∧ x.PC ≤ 39)
  regs : x.Regs.length = zdt p m
  ip : 0 ≤ x.IP ∧ x.IP ≤ ((wi p m).length : Int)
  op : (10 ≤ x.PC ∧ x.PC ≤ 30) ∨ ((x.PC = 1 ∨ x.PC = 3) ∧ x.Ret = 22) → x.IP < ((wi p m).length : Int)
  ret : x.PC = 1 ∨ x.PC = 3 → x.Ret = 2 ∨ x.Ret = 22
  c32 : x.PC = 32 → zt7 p nb (vE p) x.C
  b33 : x.PC = 33 → 1 ≤ x.Bin ∧ x.Bin < nb
  c34 : x.PC = 34 → zsi p nb (yS p) x.C
  bin : x.PC ≠ 33 → x.PC ≠ 34 → x.Bin = 0
  g : x.PC = 3 ∨ x.PC = 37 → MOk p nb x.G ∧ (x.G.PC = 5 → x.G.C.Out ≠ 1) ∧ x.G.Mode ≠ 1
  buf : (x.Buf.length : Int) ≤ p.Buf
theorem XOk.move {p : zd} {nb : Nat} {m : Int} {x y : zc} (X : XOk p nb m x) (h : x.PC ≠ 33 ∧ x.PC ≠ 34) (pc : y.PC = 0 ∨ y.PC = 2 ∨ y.PC = 10 ∨ (20 ≤ y.PC ∧ y.PC ≤ 23) ∨ y.PC = 30 ∨ y.PC = 31 ∨ y.PC = 35 ∨ y.PC = 36 ∨ y.PC = 38 ∨ y.PC = 39)
    (regs : y.Regs.length = x.Regs.length) (bin : y.Bin = x.Bin) (buf : (y.Buf.length : Int) ≤ p.Buf) (ip : 0 ≤ y.IP ∧ y.IP ≤ ((wi p m).length : Int)) (op : 10 ≤ y.PC ∧ y.PC ≤ 30 → y.IP < ((wi p m).length : Int)) : XOk p nb m y :=
  ⟨by omega, regs.trans X.regs, ip, fun e => op (by omega), fun e => by omega, fun e => by omega, fun e => by omega, fun e => by omega, fun _ _ => bin.trans (X.bin h.1 h.2), fun e => by omega, buf⟩
theorem znV (s : zb) (i : Int) : onM s i = 36 ∨ onM s i = 38 := by unfold onM; split <;> simp
theorem XOk.next {p : zd} {nb : Nat} {m : Int} {x : zc} (hp : ((wi p m).length : Int) ≤ 64) (X : XOk p nb m x) (h : x.PC ≠ 33 ∧ x.PC ≠ 34) (hi : x.IP < ((wi p m).length : Int)) : XOk p nb m (zrh x) := by
  have := X.ip
  have e : wc (x.IP + 1) = x.IP + 1 := Yc (by omega) (by omega)
  refine X.move h (.inl rfl) rfl rfl X.buf ?_ (fun h => absurd h (by show ¬ ((10 : Int) ≤ 0 ∧ (0 : Int) ≤ 30); decide))
  show 0 ≤ wc (x.IP + 1) ∧ wc (x.IP + 1) ≤ _
  rw [e]; omega
theorem XOk.set {p : zd} {nb : Nat} {m : Int} {x : zc} (hp : ((wi p m).length : Int) ≤ 64) (X : XOk p nb m x) (h : x.PC ≠ 33 ∧ x.PC ≠ 34) (hi : x.IP < ((wi p m).length : Int)) (r v : Int) : XOk p nb m (setM x r v) := by
  have := X.ip
  have e : wc (x.IP + 1) = x.IP + 1 := Yc (by omega) (by omega)
  refine X.move h (.inl rfl) (by simp [setM]) rfl X.buf ?_ (fun h => absurd h (by show ¬ ((10 : Int) ≤ 0 ∧ (0 : Int) ≤ 30); decide))
  show 0 ≤ wc (x.IP + 1) ∧ wc (x.IP + 1) ≤ _
  rw [e]; omega
theorem u6 {motive : zb × zc → Prop} (s : zb) (m : Int) (x : zc) (h0 : x.PC = 0 → motive (mu0 s m x)) (h1 : x.PC = 1 → motive (mu1 s m x)) (h2 : x.PC = 2 → motive (mu2 s m x)) (h3 : x.PC = 3 → motive (mu3 s m x)) (h10 : x.PC = 10 → motive (zlq s m x)) (h20 : x.PC = 20 → motive (zjF s m x)) (h21 : x.PC = 21 → motive (zjH s m x)) (h22 : x.PC = 22 → motive (zjT s m x)) (h23 : x.PC = 23 → motive (zlC s m x)) (h30 : x.PC = 30 → motive (zgz s m x)) (h31 : x.PC = 31 → motive (zjw s m x)) (h32 : x.PC = 32 → motive (zjL s m x)) (h33 : x.PC = 33 → motive (zk6 s m x)) (h34 : x.PC = 34 → motive (zkh s m x)) (h35 : x.PC = 35 → motive (zjv s m x)) (h36 : x.PC = 36 → motive (zkd s m x)) (h37 : x.PC = 37 → motive (zlA s m x)) (h38 : x.PC = 38 → motive (zlD s m x)) (h39 : x.PC = 39 → motive (zmP s m x)) (hn : motive (s, x)) : motive (zP s m x) := by
  unfold zP
  by_cases c0 : x.PC = 0
  · rw [if_pos c0]; exact h0 c0
  rw [if_neg c0]
  by_cases c1 : x.PC = 1
  · rw [if_pos c1]; exact h1 c1
  rw [if_neg c1]
  by_cases c2 : x.PC = 2
  · rw [if_pos c2]; exact h2 c2
  rw [if_neg c2]
  by_cases c3 : x.PC = 3
  · rw [if_pos c3]; exact h3 c3
  rw [if_neg c3]
  by_cases c10 : x.PC = 10
  · rw [if_pos c10]; exact h10 c10
  rw [if_neg c10]
  by_cases c20 : x.PC = 20
  · rw [if_pos c20]; exact h20 c20
  rw [if_neg c20]
  by_cases c21 : x.PC = 21
  · rw [if_pos c21]; exact h21 c21
  rw [if_neg c21]
  by_cases c22 : x.PC = 22
  · rw [if_pos c22]; exact h22 c22
  rw [if_neg c22]
  by_cases c23 : x.PC = 23
  · rw [if_pos c23]; exact h23 c23
  rw [if_neg c23]
  by_cases c30 : x.PC = 30
  · rw [if_pos c30]; exact h30 c30
  rw [if_neg c30]
  by_cases c31 : x.PC = 31
  · rw [if_pos c31]; exact h31 c31
  rw [if_neg c31]
  by_cases c32 : x.PC = 32
  · rw [if_pos c32]; exact h32 c32
  rw [if_neg c32]
  by_cases c33 : x.PC = 33
  · rw [if_pos c33]; exact h33 c33
  rw [if_neg c33]
  by_cases c34 : x.PC = 34
  · rw [if_pos c34]; exact h34 c34
  rw [if_neg c34]
  by_cases c35 : x.PC = 35
  · rw [if_pos c35]; exact h35 c35
  rw [if_neg c35]
  by_cases c36 : x.PC = 36
  · rw [if_pos c36]; exact h36 c36
  rw [if_neg c36]
  by_cases c37 : x.PC = 37
  · rw [if_pos c37]; exact h37 c37
  rw [if_neg c37]
  by_cases c38 : x.PC = 38
  · rw [if_pos c38]; exact h38 c38
  rw [if_neg c38]
  by_cases c39 : x.PC = 39
  · rw [if_pos c39]; exact h39 c39
  rw [if_neg c39]
  exact hn
theorem zxI {p : zd} {nb : Nat} {s : zb} {m : Int} {x : zc} (h : zL p) (hp : ((wi p m).length : Int) ≤ 64) (S : SOk p nb s) (X : XOk p nb m x) : SOk p nb (zP s m x).1 ∧ XOk p nb m (zP s m x).2 := by
  have hP := S.P
  have hip := X.ip
  have hbuf := X.buf
  have hb := h.buf
  have nop : ∀ y : Int, 31 ≤ y → ¬ (10 ≤ y ∧ y ≤ 30) := fun y h e => by omega
  refine u6 (motive := fun r => SOk p nb r.1 ∧ XOk p nb m r.2) s m x ?_ ?_ ?_ ?_ ?_ ?_ ?_ ?_ ?_ ?_ ?_ ?_ ?_ ?_ ?_ ?_ ?_ ?_ ?_ ?_
  · intro c
    unfold mu0
    refine ⟨S, ?_⟩
    unfold zba
    rw [hP]
    split
    · exact ⟨.inl ⟨(by show (0 : Int) ≤ 1; decide), (by show (1 : Int) ≤ 3; decide)⟩, X.regs, X.ip, fun e => by dsimp only at e; omega, fun _ => .inl rfl, fun e => (by cases e), fun e => (by cases e), fun e => (by cases e), fun _ _ => X.bin (by omega) (by omega), fun e => by dsimp only at e; omega, X.buf⟩
    split
    · exact X
    rename_i hlt
    have hlt : x.IP < ((wi p m).length : Int) := by omega
    split
    · exact X.move (by omega) (.inr (.inr (.inl rfl))) rfl rfl X.buf X.ip (fun _ => hlt)
    split
    · exact X.move (by omega) (.inr (.inr (.inr (.inl ⟨by show (20 : Int) ≤ 20; decide, by show (20 : Int) ≤ 23; decide⟩)))) rfl rfl X.buf X.ip (fun _ => hlt)
    split
    · exact X.move (by omega) (.inr (.inr (.inr (.inr (.inl rfl))))) rfl rfl X.buf X.ip (fun _ => hlt)
    split
    · exact X.set hp (by omega) hlt _ _
    · exact X.set hp (by omega) hlt _ _
  · intro c
    unfold mu1
    refine ⟨S, ?_⟩
    split
    · rcases X.ret (.inl c) with e | e
      · exact X.move (by omega) (.inr (.inl e)) rfl rfl X.buf X.ip (fun e2 => by dsimp only at e2; omega)
      · exact X.move (by omega) (.inr (.inr (.inr (.inl (by dsimp only; omega))))) rfl rfl X.buf X.ip (fun e2 => X.op (.inr ⟨.inl c, e⟩))
    · exact ⟨.inl ⟨(by show (0 : Int) ≤ 3; decide), (by show (3 : Int) ≤ 3; decide)⟩, X.regs, X.ip, fun e => X.op (.inr ⟨.inl c, by dsimp only at e; omega⟩), fun _ => X.ret (.inl c), fun e => (by cases e), fun e => (by cases e), fun e => (by cases e), fun _ _ => X.bin (by omega) (by omega),
        fun _ => ⟨⟨fun e => absurd e (by show ¬ (2 : Int) = 1; decide), fun e => (by cases e), fun e => (by cases e), fun e => (by cases e), fun e => (by cases e)⟩, fun e => (by cases e), by show (2 : Int) ≠ 1; decide⟩, by dsimp only; rw [List.length_take]; omega⟩
  · intro c
    unfold mu2
    exact ⟨S.keep rfl rfl rfl, X.move (by omega) (.inl rfl) rfl rfl X.buf X.ip (fun e => absurd e (by show ¬ ((10 : Int) ≤ 0 ∧ (0 : Int) ≤ 30); decide))⟩
  · intro c
    unfold mu3
    obtain ⟨g1, g2, g3⟩ := X.g (.inl c)
    obtain ⟨r1, r2, r3⟩ := zqc h S g1 g2
    refine ⟨r1, ?_⟩
    dsimp only
    split
    · exact ⟨.inl ⟨(by show (0 : Int) ≤ 1; decide), (by show (1 : Int) ≤ 3; decide)⟩, X.regs, X.ip, fun e => X.op (.inr ⟨.inr c, by dsimp only at e; omega⟩), fun _ => X.ret (.inr c), fun e => (by cases e), fun e => (by cases e), fun e => (by cases e), fun _ _ => X.bin (by omega) (by omega), fun e => by dsimp only at e; omega, X.buf⟩
    · exact ⟨X.pc, X.regs, X.ip, X.op, X.ret, fun e => by dsimp only at e; omega, fun e => by dsimp only at e; omega, fun e => by dsimp only at e; omega, X.bin, fun _ => ⟨r2, r3, by rw [(zng s x.G).2.2]; exact g3⟩, X.buf⟩
  · intro c
    unfold zlq
    exact ⟨S, X.set hp (by omega) (X.op (.inl (by omega))) _ _⟩
  · intro c
    unfold zjF
    refine ⟨S, ?_⟩
    split
    · exact X.next hp (by omega) (X.op (.inl (by omega)))
    · exact X.move (by omega) (.inr (.inr (.inr (.inl ⟨by show (20 : Int) ≤ 21; decide, by show (21 : Int) ≤ 23; decide⟩)))) rfl rfl X.buf X.ip (fun _ => X.op (.inl (by omega)))
  · intro c
    unfold zjH
    refine ⟨S, ?_⟩
    split
    · exact X.move (by omega) (.inr (.inr (.inr (.inl ⟨by show (20 : Int) ≤ 23; decide, by show (23 : Int) ≤ 23; decide⟩)))) rfl rfl X.buf X.ip (fun _ => X.op (.inl (by omega)))
    · exact X.move (by omega) (.inr (.inr (.inr (.inl ⟨by show (20 : Int) ≤ 22; decide, by show (22 : Int) ≤ 23; decide⟩)))) rfl rfl X.buf X.ip (fun _ => X.op (.inl (by omega)))
  · intro c
    unfold zjT
    have hi := X.op (.inl (by omega))
    refine ⟨S, ?_⟩
    rw [hP]
    split
    · exact ⟨.inl ⟨(by show (0 : Int) ≤ 1; decide), (by show (1 : Int) ≤ 3; decide)⟩, X.regs, X.ip, fun e => hi, fun _ => .inr rfl, fun e => (by cases e), fun e => (by cases e), fun e => (by cases e), fun _ _ => X.bin (by omega) (by omega), fun e => by dsimp only at e; omega, X.buf⟩
    · exact X.move (by omega) (.inr (.inr (.inr (.inl ⟨by show (20 : Int) ≤ 23; decide, by show (23 : Int) ≤ 23; decide⟩)))) rfl rfl (by simp; omega) X.ip (fun _ => hi)
  · intro c
    unfold zlC
    exact ⟨S.keep rfl rfl rfl, X.next hp (by omega) (X.op (.inl (by omega)))⟩
  · intro c
    unfold zgz
    have hi := X.op (.inl (by omega))
    split
    · split
      · exact ⟨S.keep rfl rfl rfl, X.set hp (by omega) hi _ _⟩
      · exact ⟨S, X.next hp (by omega) hi⟩
    · exact ⟨S, X.move (by omega) (.inr (.inr (.inr (.inr (.inr (.inl rfl)))))) rfl rfl X.buf X.ip (fun e => absurd e (by show ¬ ((10 : Int) ≤ 31 ∧ (31 : Int) ≤ 30); decide))⟩
  · intro c
    unfold zjw
    refine ⟨S.keep rfl rfl rfl, ?_⟩
    rw [hP]
    split
    · exact ⟨.inr (.inr (.inr ⟨(by show (30 : Int) ≤ 32; decide), (by show (32 : Int) ≤ 39; decide)⟩)), X.regs, X.ip, fun e => by dsimp only at e; omega, fun e => by dsimp only at e; omega, fun _ => ztG, fun e => (by cases e), fun e => (by cases e), fun _ _ => X.bin (by omega) (by omega), fun e => by dsimp only at e; omega, X.buf⟩
    · exact X.move (by omega) (.inl rfl) rfl rfl X.buf X.ip (fun e => absurd e (by show ¬ ((10 : Int) ≤ 0 ∧ (0 : Int) ≤ 30); decide))
  · intro c
    unfold zjL
    have C := X.c32 c
    obtain ⟨b1, b2, b3, b4, b5, b6⟩ := zst h S (.inl rfl) C.k C.h C.n C.v C.y C.o
    refine ⟨b1, ?_⟩
    dsimp only
    split
    · rename_i e1
      exact ⟨.inr (.inr (.inr ⟨(by show (30 : Int) ≤ 33; decide), (by show (33 : Int) ≤ 39; decide)⟩)), X.regs, X.ip, fun e => by dsimp only at e; omega, fun e => by dsimp only at e; omega, fun e => (by cases e), fun _ => b6 e1, fun e => (by cases e), fun e => absurd rfl e, fun e => by dsimp only at e; omega, X.buf⟩
    split
    · exact X.move (by omega) (.inl rfl) rfl rfl X.buf X.ip (fun e => absurd e (by show ¬ ((10 : Int) ≤ 0 ∧ (0 : Int) ≤ 30); decide))
    · rename_i e1 e2
      exact ⟨X.pc, X.regs, X.ip, X.op, X.ret, fun _ => ⟨b2, b3, b4, (b5 e1 e2).1, (b5 e1 e2).2, e1⟩, fun e => by dsimp only at e; omega, fun e => by dsimp only at e; omega, X.bin, fun e => by dsimp only at e; omega, X.buf⟩
  · intro c
    unfold zk6
    have B := X.b33 c
    refine ⟨S.keep rfl rfl (by simp), ?_⟩
    rw [hP]
    exact ⟨.inr (.inr (.inr ⟨(by show (30 : Int) ≤ 34; decide), (by show (34 : Int) ≤ 39; decide)⟩)), X.regs, X.ip, fun e => by dsimp only at e; omega, fun e => by dsimp only at e; omega, fun e => (by cases e), fun e => (by cases e), fun _ => zsR B, fun _ e => absurd rfl e, fun e => by dsimp only at e; omega, X.buf⟩
  · intro c
    unfold zkh
    have C := X.c34 c
    obtain ⟨b1, b2, b3, b4, b5, b6⟩ := zpc h S (.inr rfl) C.k C.h C.n C.x C.v
    refine ⟨b1, ?_⟩
    dsimp only
    split
    · exact ⟨.inr (.inr (.inr ⟨(by show (30 : Int) ≤ 35; decide), (by show (35 : Int) ≤ 39; decide)⟩)), X.regs, X.ip, fun e => by dsimp only at e; omega, fun e => by dsimp only at e; omega, fun e => (by cases e), fun e => (by cases e), fun e => (by cases e), fun _ _ => rfl, fun e => by dsimp only at e; omega, X.buf⟩
    · exact ⟨X.pc, X.regs, X.ip, X.op, X.ret, fun e => by dsimp only at e; omega, fun e => by dsimp only at e; omega, fun _ => ⟨b2, b3, b4, b5, b6⟩, X.bin, fun e => by dsimp only at e; omega, X.buf⟩
  · intro c
    unfold zjv
    refine ⟨S, ?_⟩
    dsimp only
    split
    · exact X.move (by omega) (.inl rfl) rfl rfl X.buf X.ip (fun e => absurd e (by show ¬ ((10 : Int) ≤ 0 ∧ (0 : Int) ≤ 30); decide))
    · exact X.move (by omega) (by simp) rfl rfl X.buf X.ip (fun e => absurd e (nop 36 (by omega)))
  · intro c
    unfold zkd
    refine ⟨S, ?_⟩
    dsimp only
    split
    · rcases znV s (wc (x.Slot + 1)) with e | e <;> rw [e]
      · exact X.move (by omega) (by simp) rfl rfl X.buf X.ip (fun e => absurd e (nop 36 (by omega)))
      · exact X.move (by omega) (by simp) rfl rfl X.buf X.ip (fun e => absurd e (nop 38 (by omega)))
    · exact ⟨.inr (.inr (.inr ⟨(by show (30 : Int) ≤ 37; decide), (by show (37 : Int) ≤ 39; decide)⟩)), X.regs, X.ip, fun e => by dsimp only at e; omega, fun e => by dsimp only at e; omega, fun e => (by cases e), fun e => (by cases e), fun e => (by cases e), fun _ _ => X.bin (by omega) (by omega),
        fun _ => ⟨⟨fun e => absurd e (by show ¬ (3 : Int) = 1; decide), fun e => (by cases e), fun e => (by cases e), fun e => (by cases e), fun e => (by cases e)⟩, fun e => (by cases e), by show (3 : Int) ≠ 1; decide⟩, X.buf⟩
  · intro c
    unfold zlA
    obtain ⟨g1, g2, g3⟩ := X.g (.inr c)
    obtain ⟨r1, r2, r3⟩ := zqc h S g1 g2
    refine ⟨r1, ?_⟩
    dsimp only
    split
    · rcases znV s x.Slot with e | e <;> rw [e]
      · exact X.move (by omega) (by simp) rfl rfl X.buf X.ip (fun e => absurd e (nop 36 (by omega)))
      · exact X.move (by omega) (by simp) rfl rfl X.buf X.ip (fun e => absurd e (nop 38 (by omega)))
    · exact ⟨X.pc, X.regs, X.ip, X.op, X.ret, fun e => by dsimp only at e; omega, fun e => by dsimp only at e; omega, fun e => by dsimp only at e; omega, X.bin, fun _ => ⟨r2, r3, by rw [(zng s x.G).2.2]; exact g3⟩, X.buf⟩
  · intro c
    unfold zlD
    exact ⟨S.keep rfl rfl rfl, X.move (by omega) (by simp) rfl rfl X.buf X.ip (fun e => absurd e (nop 39 (by omega)))⟩
  · intro c
    unfold zmP
    exact ⟨S.keep rfl rfl rfl, X.move (by omega) (by simp) rfl rfl X.buf X.ip (fun e => absurd e (nop 35 (by omega)))⟩
  · exact ⟨S, X⟩
end
end Go.Pe.G
namespace Go.Pe.G
open Go.Pe
noncomputable section
def zl0 (s : zb) : zb :=
  if s.Done = true then s
  else if s.D.PC = 0 then { s with Flag := false, D := { s.D with PC := 1 } }
  else if s.D.PC = 1 then (if s.Work = 0 then { s with D := { s.D with PC := 2 } } else s)
  else if s.D.PC = 2 then { s with Epoch := wc (s.Epoch + 1), D := ⟨if s.Ms.length = 0 then 4 else 3, 0⟩ }
  else if s.D.PC = 3 then (if s.Acks.getD s.D.I.toNat 0 < s.Epoch then s else { s with D := ⟨if wc (s.D.I + 1) = (s.Ms.length : Int) then 4 else 3, wc (s.D.I + 1)⟩ })
  else if s.D.PC = 4 then (if s.Work = 0 then { s with D := { s.D with PC := 5 } } else { s with Restarts := wc (s.Restarts + 1), D := { s.D with PC := 0 } })
  else if s.D.PC = 5 then (if s.Flag = true then { s with Restarts := wc (s.Restarts + 1), D := { s.D with PC := 0 } } else { s with D := { s.D with PC := 6 } })
  else if s.D.PC = 6 then { s with Done := true }
  else s
structure HOk (p : zd) (h : zn) : Prop where
  slots : h.Slots = p.H.Slots
  n : (p.H.Objs.length : Int) ≤ (h.Objs.length : Int) ∧ (h.Objs.length : Int) ≤ p.Most
  objs : ∀ o ∈ h.Objs, (o.length : Int) = h.Slots ∧ ∀ v ∈ o, 0 ≤ v ∧ v ≤ (h.Objs.length : Int)
structure EOk (p : zd) (nb : Nat) (s : zb) : Prop where
  S : SOk p nb s
  wl : (s.Ws.length : Int) = p.Workers
  ml : (s.Ms.length : Int) = p.Mutators
  al : s.Acks.length = s.Ms.length
  W : ∀ (i : Nat) x, s.Ws[i]? = some x → WOk p nb ((i : Int) + 1) x
  X : ∀ (i : Nat) x, s.Ms[i]? = some x → XOk p nb ((i : Int) + 1) x
  H : HOk p s.H
  D : (0 ≤ s.D.PC ∧ s.D.PC ≤ 6) ∧ (s.D.PC = 3 → 0 ≤ s.D.I ∧ s.D.I < (s.Ms.length : Int))
  small : ZJ s
theorem zt6 {p : zd} (h : zL p) (m : Int) : ((wi p m).length : Int) ≤ 64 := by
  unfold wi
  have hr := h.regs
  have hp := h.progs
  rw [List.getD_eq_getElem?_getD]
  rcases Nat.lt_or_ge (m - 1).toNat p.Progs.length with hl | hl
  · rw [List.getElem?_eq_getElem hl]
    have hl2 : (m - 1).toNat < p.Regs.length := by omega
    have := (h.prog (m - 1).toNat _ _ (List.getElem?_eq_getElem hl2) (List.getElem?_eq_getElem hl)).1
    show ((p.Progs[(m - 1).toNat]).length : Int) ≤ 64
    omega
  · rw [List.getElem?_eq_none hl]; show (([] : List zg).length : Int) ≤ 64; simp
theorem zsh {p : zd} (h : zL p) : EOk p (xO p + 1) (vw p) := by
  have hw := h.wk
  have hm := h.mt
  have hr := h.regs
  have hn := h.n
  have hmo := h.most
  have hb := h.buf
  refine ⟨ztR h, ?_, ?_, ?_, fun i x hx => ?_, fun i x hx => ?_, ⟨rfl, ⟨Int.le_refl _, hmo.1⟩, h.objs⟩, ⟨⟨by show (0 : Int) ≤ 0; decide, by show (0 : Int) ≤ 6; decide⟩, fun e => absurd e (by show ¬ (0 : Int) = 3; decide)⟩, zuW h⟩
  · show (((List.range p.Workers.toNat).map (Ut p)).length : Int) = _
    rw [List.length_map, List.length_range]; omega
  · show ((p.Regs.map wX).length : Int) = _
    rw [List.length_map]; exact hr
  · show (List.replicate p.Mutators.toNat (0 : Int)).length = (p.Regs.map wX).length
    rw [List.length_replicate, List.length_map]; omega
  · have hx : ((List.range p.Workers.toNat).map (Ut p))[i]? = some x := hx
    rw [List.getElem?_map] at hx
    rcases Nat.lt_or_ge i p.Workers.toNat with hl | hl
    · rw [List.getElem?_range hl] at hx
      injection hx with hx
      subst hx
      exact ⟨⟨by show (0 : Int) ≤ 0; decide, by show (0 : Int) ≤ 9; decide⟩, by show 1 ≤ (i : Int) + 1 ∧ (i : Int) + 1 ≤ p.Workers; omega, fun _ => ⟨rfl, rfl, rfl⟩, fun e => (by cases e), fun e => (by cases e), fun e => (by cases e), fun e => (by cases e), fun e => (by cases e)⟩
    · rw [List.getElem?_eq_none (by rw [List.length_range]; exact hl)] at hx; cases hx
  · have hx : (p.Regs.map wX)[i]? = some x := hx
    rw [List.getElem?_map] at hx
    cases hq : p.Regs[i]? with
    | none => rw [hq] at hx; cases hx
    | some r =>
      rw [hq] at hx
      injection hx with hx
      subst hx
      refine ⟨.inl ⟨by show (0 : Int) ≤ 0; decide, by show (0 : Int) ≤ 3; decide⟩, ?_, ⟨by show (0 : Int) ≤ 0; decide, by show (0 : Int) ≤ _; omega⟩, fun e => absurd e ?_, fun e => absurd e ?_, fun e => (by cases e), fun e => (by cases e), fun e => (by cases e), fun _ _ => rfl, fun e => absurd e ?_, by show (0 : Int) ≤ p.Buf; omega⟩
      · show r.length = zdt p ((i : Int) + 1)
        unfold zdt
        rw [show ((i : Int) + 1 - 1).toNat = i by omega, List.getD_eq_getElem?_getD, hq]; rfl
      · intro e; simp [wX] at e
      · intro e; simp [wX] at e
      · intro e; simp [wX] at e
theorem zmD {s : zb} (h : ZJ s) (b : Int) : (zlQ s b).length < 1000000 := by
  unfold zlQ
  rw [List.getD_eq_getElem?_getD]
  cases hq : s.Bins[b.toNat]? with
  | none => simp
  | some l => exact h.bin l (List.mem_of_getElem? hq)
theorem zqq (l : zk) (w : Int) : (zlY l w).Bal.length = l.Bal.length := by unfold zlY; split <;> simp
structure Xk (s s' : zb) : Prop where
  P : s'.P = s.P
  m : s'.M.length = s.M.length
  bl : s'.Bins.length = s.Bins.length
  b : ∀ l ∈ s'.Bins, l ∈ s.Bins ∨ l.length ≤ 1
  bal : s'.L.Bal.length = s.L.Bal.length
  ac : s'.Acks.length = s.Acks.length
  ws : s'.Ws = s.Ws
  ms : s'.Ms = s.Ms
  done : s'.Done = s.Done
  d : s'.D = s.D
theorem Xk.refl (s : zb) : Xk s s := ⟨rfl, rfl, rfl, fun l h => .inl h, rfl, rfl, rfl, rfl, rfl, rfl⟩
theorem zdA (s : zb) (g : zE) : Xk s (zI s g).1 ∧ (zI s g).1.H = s.H := by
  obtain ⟨m, b, t, w, f, e, h1, h2, h3, _, _⟩ := W9 s g
  rw [e]
  exact ⟨⟨rfl, h1, h2, fun l hl => (h3 l hl).imp id (fun e => by rw [e]; simp), rfl, rfl, rfl, rfl, rfl, rfl⟩, rfl⟩
theorem ztF {s : zb} (b : Nat) : ∀ l ∈ s.Bins.set b [], l ∈ s.Bins ∨ l.length ≤ 1 := fun l hl => (List.mem_or_eq_of_mem_set hl).imp id (fun e => by rw [e]; simp)
theorem zvB (s : zb) (w : Int) (x : zj) : Xk s (yH s w x).1 ∧ (yH s w x).1.H = s.H := by
  unfold yH
  split
  · exact ⟨⟨rfl, (zmA _ _).1, rfl, fun l h => .inl h, rfl, rfl, rfl, rfl, rfl, rfl⟩, rfl⟩
  split
  · exact ⟨⟨rfl, UB _ _, rfl, fun l h => .inl h, rfl, rfl, rfl, rfl, rfl, rfl⟩, rfl⟩
  split
  · exact ⟨⟨rfl, rfl, by simp, ztF _, rfl, rfl, rfl, rfl, rfl, rfl⟩, rfl⟩
  split
  · exact ⟨⟨rfl, UB _ _, rfl, fun l h => .inl h, rfl, rfl, rfl, rfl, rfl, rfl⟩, rfl⟩
  split
  · exact ⟨Xk.refl s, rfl⟩
  split
  · exact zdA s x.G
  split
  · exact ⟨Xk.refl s, rfl⟩
  split
  · exact ⟨⟨rfl, rfl, rfl, fun l h => .inl h, zqq _ _, rfl, rfl, rfl, rfl, rfl⟩, rfl⟩
  split
  · exact ⟨⟨rfl, rfl, rfl, fun l h => .inl h, rfl, rfl, rfl, rfl, rfl, rfl⟩, rfl⟩
  · exact ⟨Xk.refl s, rfl⟩
theorem zsY (p : zd) (w : Int) (x : zj) : (zn0 p w x).Batch = x.Batch := by unfold zn0; split <;> rfl
theorem zub {s : zb} (h : ZJ s) (w : Int) {x : zj} (hx : x.Batch.length < 1000000) : (yH s w x).2.Batch.length < 1000000 := by
  unfold yH
  split
  · dsimp only
    split
    · exact hx
    split
    · rw [zsY]; exact hx
    · exact hx
  split
  · dsimp only
    split
    · exact hx
    split <;> exact hx
  split
  · exact zmD h _
  split
  · dsimp only
    split <;> exact hx
  split
  · dsimp only
    split <;> exact hx
  split
  · dsimp only
    split <;> exact hx
  split
  · dsimp only
    cases hb : x.Batch with
    | nil => show x.Batch.length < _; exact hx
    | cons o l => rw [hb] at hx; show l.length < _; simp at hx; omega
  split
  · exact hx
  split
  · exact hx
  · exact hx
theorem ztW (l : zk) (w p : Int) : (zkT l w p).Bal.length = l.Bal.length := by unfold zkT; simp
theorem zvQ (l : zk) (w n : Int) : (zhp l w n).1.Bal.length = l.Bal.length := by unfold zhp; split <;> simp
theorem zsq (s : zb) (m : Int) (x : zc) : Xk s (zP s m x).1 := by
  have q : ∀ s' : zb, s'.P = s.P → s'.M = s.M → s'.Bins = s.Bins → s'.L.Bal.length = s.L.Bal.length → s'.Acks.length = s.Acks.length → s'.Ws = s.Ws → s'.Ms = s.Ms → s'.Done = s.Done → s'.D = s.D → Xk s s' :=
    fun s' a b c d e f g h i => ⟨a, by rw [b], by rw [c], fun l hl => .inl (c ▸ hl), d, e, f, g, h, i⟩
  refine u6 (motive := fun r => Xk s r.1) s m x ?_ ?_ ?_ ?_ ?_ ?_ ?_ ?_ ?_ ?_ ?_ ?_ ?_ ?_ ?_ ?_ ?_ ?_ ?_ ?_
  · intro c
    unfold mu0
    exact Xk.refl s
  · intro c
    unfold mu1
    exact Xk.refl s
  · intro c
    unfold mu2
    exact q _ rfl rfl rfl rfl (by simp) rfl rfl rfl rfl
  · intro c
    unfold mu3
    exact (zdA s x.G).1
  · intro c
    unfold zlq
    exact Xk.refl s
  · intro c
    unfold zjF
    exact Xk.refl s
  · intro c
    unfold zjH
    exact Xk.refl s
  · intro c
    unfold zjT
    exact Xk.refl s
  · intro c
    unfold zlC
    exact q _ rfl rfl rfl rfl rfl rfl rfl rfl rfl
  · intro c
    unfold zgz
    split
    · split
      · exact q _ rfl rfl rfl (ztW _ _ _) rfl rfl rfl rfl rfl
      · exact Xk.refl s
    · exact Xk.refl s
  · intro c
    unfold zjw
    exact q _ rfl rfl rfl (zvQ _ _ _) rfl rfl rfl rfl rfl
  · intro c
    unfold zjL
    exact ⟨rfl, UB _ _, rfl, fun l h => .inl h, rfl, rfl, rfl, rfl, rfl, rfl⟩
  · intro c
    unfold zk6
    exact ⟨rfl, rfl, by simp, ztF _, rfl, rfl, rfl, rfl, rfl, rfl⟩
  · intro c
    unfold zkh
    exact ⟨rfl, UB _ _, rfl, fun l h => .inl h, rfl, rfl, rfl, rfl, rfl, rfl⟩
  · intro c
    unfold zjv
    exact Xk.refl s
  · intro c
    unfold zkd
    exact Xk.refl s
  · intro c
    unfold zlA
    exact (zdA s x.G).1
  · intro c
    unfold zlD
    exact q _ rfl rfl rfl (zqq _ _) rfl rfl rfl rfl rfl
  · intro c
    unfold zmP
    exact q _ rfl rfl rfl rfl rfl rfl rfl rfl rfl
  · exact Xk.refl s
theorem HOk.sm {p : zd} (hp : zL p) {h : zn} (H : HOk p h) : h.Objs.length < 1000000 ∧ ∀ x ∈ h.Objs, x.length < 1000000 := by
  have h1 := H.n
  have h2 := hp.most
  have h3 := hp.n
  have h4 := hp.slots
  have h5 := H.slots
  exact ⟨by omega, fun x hx => by have := (H.objs x hx).1; omega⟩
theorem ZJ.turn {p : zd} (hp : zL p) {s s' : zb} (h : ZJ s) (T : Xk s s') (H : HOk p s'.H) : ZJ s' := by
  have hh := H.sm hp
  refine ⟨by rw [T.m]; exact h.m, by rw [T.bl]; exact h.bins, fun x hx => ?_, by rw [T.ac]; exact h.acks, by rw [T.bal]; exact h.bal, by rw [T.ws]; exact h.ws, by rw [T.ws]; exact h.w, by rw [T.ms]; exact h.ms, by rw [T.ms]; exact h.mu, hh.1, hh.2, by rw [T.P]; exact h.pobjs, by rw [T.P]; exact h.pobj, by rw [T.P]; exact h.regs, by rw [T.P]; exact h.reg, by rw [T.P]; exact h.progs, by rw [T.P]; exact h.prog, by rw [T.P]; exact h.picks⟩
  rcases T.b x hx with h' | h'
  · exact h.bin x h'
  · omega
theorem ZJ.setW {s : zb} (h : ZJ s) {i : Nat} {x : zj} (hx : x.Batch.length < 1000000) : ZJ { s with Ws := s.Ws.set i x } :=
  ⟨h.m, h.bins, h.bin, h.acks, h.bal, by simp only [List.length_set]; exact h.ws, fun y hy => by
    rcases List.mem_or_eq_of_mem_set hy with hy | rfl
    · exact h.w y hy
    · exact hx, h.ms, h.mu, h.objs, h.obj, h.pobjs, h.pobj, h.regs, h.reg, h.progs, h.prog, h.picks⟩
theorem ZJ.setM {s : zb} (h : ZJ s) {i : Nat} {x : zc} (hx : x.Regs.length < 1000000 ∧ x.Buf.length < 1000000 ∧ x.Batch.length < 1000000) : ZJ { s with Ms := s.Ms.set i x } :=
  ⟨h.m, h.bins, h.bin, h.acks, h.bal, h.ws, h.w, by simp only [List.length_set]; exact h.ms, fun y hy => by
    rcases List.mem_or_eq_of_mem_set hy with hy | rfl
    · exact h.mu y hy
    · exact hx, h.objs, h.obj, h.pobjs, h.pobj, h.regs, h.reg, h.progs, h.prog, h.picks⟩
theorem ztQ {α : Type} {l : List α} {i j : Nat} {x y : α} (h : (l.set i x)[j]? = some y) : (j = i ∧ y = x) ∨ l[j]? = some y := by
  rw [List.getElem?_set] at h
  split at h
  · rename_i e
    split at h
    · injection h with h; exact .inl ⟨e.symm, h.symm⟩
    · cases h
  · exact .inr h
theorem zv0 {p : zd} {nb : Nat} {s : zb} (h : zL p) (E : EOk p nb s) (w : Int) : EOk p nb (uO s w) := by
  unfold uO
  split
  · exact E
  rename_i hc
  cases hx : s.Ws[(w - 1).toNat]? with
  | none => exact E
  | some x =>
    have hw1 : ¬ w < 1 := fun e => hc (.inr (.inl e))
    have hw2 : ¬ (s.Ws.length : Int) < w := fun e => hc (.inr (.inr e))
    have hwl := E.wl
    have ei : (((w - 1).toNat : Nat) : Int) + 1 = w := by omega
    have hW := E.W _ x hx
    rw [ei] at hW
    obtain ⟨r1, r2⟩ := zxz h (by omega) E.S hW
    obtain ⟨T, TH⟩ := zvB s w x
    have sm : ZJ (yH s w x).1 := E.small.turn h T (by rw [TH]; exact E.H)
    have hws : (yH s w x).1.Ws = s.Ws := T.ws
    refine ⟨r1.keep rfl rfl rfl, ?_, ?_, ?_, fun i y hy => ?_, fun i y hy => ?_, ?_, ?_, ?_⟩
    · show ((s.Ws.set _ _).length : Int) = _
      rw [List.length_set]; exact hwl
    · show ((yH s w x).1.Ms.length : Int) = _
      rw [T.ms]; exact E.ml
    · show (yH s w x).1.Acks.length = (yH s w x).1.Ms.length
      rw [T.ms, T.ac]; exact E.al
    · rcases ztQ hy with ⟨rfl, rfl⟩ | hy
      · rw [ei]; exact r2
      · exact E.W i y hy
    · have hy : (yH s w x).1.Ms[i]? = some y := hy
      rw [T.ms] at hy
      exact E.X i y hy
    · show HOk p (yH s w x).1.H
      rw [TH]; exact E.H
    · show (0 ≤ (yH s w x).1.D.PC ∧ (yH s w x).1.D.PC ≤ 6) ∧ ((yH s w x).1.D.PC = 3 → 0 ≤ (yH s w x).1.D.I ∧ (yH s w x).1.D.I < ((yH s w x).1.Ms.length : Int))
      rw [T.d, T.ms]; exact E.D
    · have := sm.setW (i := (w - 1).toNat) (zub E.small w (E.small.w x (List.mem_of_getElem? hx)))
      rw [hws] at this
      exact this
theorem zyr {p : zd} {nb : Nat} {s : zb} (h : zL p) (E : EOk p nb s) : EOk p nb (zl0 s) := by
  have key : ∀ s' : zb, s'.P = s.P → s'.M = s.M → s'.Bins = s.Bins → s'.Ws = s.Ws → s'.Ms = s.Ms → s'.Acks = s.Acks → s'.H = s.H → s'.L = s.L → ((0 ≤ s'.D.PC ∧ s'.D.PC ≤ 6) ∧ (s'.D.PC = 3 → 0 ≤ s'.D.I ∧ s'.D.I < (s'.Ms.length : Int))) → EOk p nb s' := by
    intro s' e1 e2 e3 e4 e5 e6 e7 e8 e9
    have q := E.small
    refine ⟨E.S.keep e1 e2 (by rw [e3]), by rw [e4]; exact E.wl, by rw [e5]; exact E.ml, by rw [e5, e6]; exact E.al, by rw [e4]; exact E.W, by rw [e5]; exact E.X, by rw [e7]; exact E.H, e9, ?_⟩
    exact ⟨by rw [e2]; exact q.m, by rw [e3]; exact q.bins, by rw [e3]; exact q.bin, by rw [e6]; exact q.acks, by rw [e8]; exact q.bal, by rw [e4]; exact q.ws, by rw [e4]; exact q.w, by rw [e5]; exact q.ms, by rw [e5]; exact q.mu, by rw [e7]; exact q.objs, by rw [e7]; exact q.obj, by rw [e1]; exact q.pobjs, by rw [e1]; exact q.pobj, by rw [e1]; exact q.regs, by rw [e1]; exact q.reg, by rw [e1]; exact q.progs, by rw [e1]; exact q.prog, by rw [e1]; exact q.picks⟩
  have hm : ∀ n : Int, 0 ≤ n ∧ n ≤ 6 → n ≠ 3 → ∀ i, (0 ≤ (⟨n, i⟩ : zr).PC ∧ (⟨n, i⟩ : zr).PC ≤ 6) ∧ ((⟨n, i⟩ : zr).PC = 3 → 0 ≤ (⟨n, i⟩ : zr).I ∧ (⟨n, i⟩ : zr).I < (s.Ms.length : Int)) := fun n h1 h2 i => ⟨h1, fun e => absurd e h2⟩
  have hml := E.ml
  have hmt := h.mt
  unfold zl0
  split
  · exact E
  split
  · exact key _ rfl rfl rfl rfl rfl rfl rfl rfl (hm 1 (by decide) (by decide) _)
  split
  · split
    · exact key _ rfl rfl rfl rfl rfl rfl rfl rfl (hm 2 (by decide) (by decide) _)
    · exact E
  split
  · refine key _ rfl rfl rfl rfl rfl rfl rfl rfl ?_
    dsimp only
    split
    · exact hm 4 (by decide) (by decide) _
    · exact ⟨by decide, fun _ => by omega⟩
  split
  · rename_i c3
    have hi := E.D.2 c3
    split
    · exact E
    · refine key _ rfl rfl rfl rfl rfl rfl rfl rfl ?_
      dsimp only
      have e : wc (s.D.I + 1) = s.D.I + 1 := Yc (by omega) (by omega)
      rw [e]
      split
      · exact hm 4 (by decide) (by decide) _
      · exact ⟨by decide, fun _ => by omega⟩
  split
  · split
    · exact key _ rfl rfl rfl rfl rfl rfl rfl rfl (hm 5 (by decide) (by decide) _)
    · exact key _ rfl rfl rfl rfl rfl rfl rfl rfl (hm 0 (by decide) (by decide) _)
  split
  · split
    · exact key _ rfl rfl rfl rfl rfl rfl rfl rfl (hm 0 (by decide) (by decide) _)
    · exact key _ rfl rfl rfl rfl rfl rfl rfl rfl (hm 6 (by decide) (by decide) _)
  split
  · exact key _ rfl rfl rfl rfl rfl rfl rfl rfl E.D
  · exact E
theorem HOk.put {p : zd} {h : zn} (H : HOk p h) (o s v : Int) : HOk p (Vu h o s v) := by
  unfold Vu
  split
  · rename_i c
    obtain ⟨c1, c2, c3⟩ := c
    unfold Yw at c1
    simp only [Bool.and_eq_true, decide_eq_true_eq] at c1
    refine ⟨H.slots, by simp only [List.length_set]; exact H.n, fun l hl => ?_⟩
    simp only [List.length_set]
    rcases List.mem_or_eq_of_mem_set hl with hl | rfl
    · exact H.objs l hl
    · have hm : zA h o ∈ h.Objs := by
        unfold zA
        rw [List.getD_eq_getElem?_getD, List.getElem?_eq_getElem (show (o - 1).toNat < h.Objs.length by omega)]
        exact List.getElem_mem _
      obtain ⟨a, b⟩ := H.objs _ hm
      refine ⟨by rw [List.length_set]; exact a, fun y hy => ?_⟩
      rcases List.mem_or_eq_of_mem_set hy with hy | rfl
      · exact b y hy
      · exact ⟨c2, c3⟩
  · exact H
theorem HOk.alloc {p : zd} (hp : zL p) {h : zn} (H : HOk p h) (hr : zeY h p.Most = true) : HOk p (Ww h) := by
  unfold zeY at hr
  simp only [Bool.and_eq_true, decide_eq_true_eq] at hr
  have hs := hp.slots
  have hsl := H.slots
  have hn := H.n
  unfold Ww
  refine ⟨H.slots, by simp only [List.length_append, List.length_singleton]; omega, fun l hl => ?_⟩
  simp only [List.length_append, List.length_singleton]
  rcases List.mem_append.1 hl with hl | hl
  · obtain ⟨a, b⟩ := H.objs l hl
    exact ⟨a, fun v hv => by have := b v hv; omega⟩
  · rw [List.mem_singleton.1 hl]
    refine ⟨by rw [List.length_replicate]; omega, fun v hv => ?_⟩
    rw [(List.mem_replicate.1 hv).2]; omega
theorem zyK {p : zd} (hp : zL p) {s : zb} (hP : s.P = p) (H : HOk p s.H) (m : Int) (x : zc) : HOk p (zP s m x).1.H := by
  refine u6 (motive := fun r => HOk p r.1.H) s m x ?_ ?_ ?_ ?_ ?_ ?_ ?_ ?_ ?_ ?_ ?_ ?_ ?_ ?_ ?_ ?_ ?_ ?_ ?_ ?_
  · intro c
    unfold mu0
    exact H
  · intro c
    unfold mu1
    exact H
  · intro c
    unfold mu2
    exact H
  · intro c
    unfold mu3
    rw [(zdA s x.G).2]; exact H
  · intro c
    unfold zlq
    exact H
  · intro c
    unfold zjF
    exact H
  · intro c
    unfold zjH
    exact H
  · intro c
    unfold zjT
    exact H
  · intro c
    unfold zlC
    exact H.put _ _ _
  · intro c
    unfold zgz
    split
    · split
      · rename_i hr
        rw [hP] at hr
        exact H.alloc hp hr
      · exact H
    · exact H
  · intro c
    unfold zjw
    exact H
  · intro c
    unfold zjL
    exact H
  · intro c
    unfold zk6
    exact H
  · intro c
    unfold zkh
    exact H
  · intro c
    unfold zjv
    exact H
  · intro c
    unfold zkd
    exact H
  · intro c
    unfold zlA
    rw [(zdA s x.G).2]; exact H
  · intro c
    unfold zlD
    exact H
  · intro c
    unfold zmP
    exact H
  · exact H
theorem zrz (s : zb) (m : Int) (x : zc) : (zba s m x).Batch = x.Batch := by
  unfold zba
  repeat' split
  all_goals rfl
theorem zvF {s : zb} (h : ZJ s) (m : Int) {x : zc} (hx : x.Batch.length < 1000000) : (zP s m x).2.Batch.length < 1000000 := by
  refine u6 (motive := fun r => r.2.Batch.length < 1000000) s m x ?_ ?_ ?_ ?_ ?_ ?_ ?_ ?_ ?_ ?_ ?_ ?_ ?_ ?_ ?_ ?_ ?_ ?_ ?_ ?_
  · intro c
    unfold mu0
    dsimp only; rw [zrz]; exact hx
  · intro c
    unfold mu1
    dsimp only; split <;> exact hx
  · intro c
    unfold mu2
    exact hx
  · intro c
    unfold mu3
    dsimp only; split <;> exact hx
  · intro c
    unfold zlq
    exact hx
  · intro c
    unfold zjF
    dsimp only; split <;> exact hx
  · intro c
    unfold zjH
    dsimp only; split <;> exact hx
  · intro c
    unfold zjT
    dsimp only; split <;> exact hx
  · intro c
    unfold zlC
    exact hx
  · intro c
    unfold zgz
    split
    · split <;> exact hx
    · exact hx
  · intro c
    unfold zjw
    dsimp only; split <;> exact hx
  · intro c
    unfold zjL
    dsimp only
    split
    · exact hx
    split <;> exact hx
  · intro c
    unfold zk6
    exact zmD h _
  · intro c
    unfold zkh
    dsimp only; split <;> exact hx
  · intro c
    unfold zjv
    dsimp only
    cases hb : x.Batch with
    | nil => show ([] : List Int).length < 1000000; simp
    | cons o l => rw [hb] at hx; show l.length < _; simp at hx; omega
  · intro c
    unfold zkd
    dsimp only; split <;> exact hx
  · intro c
    unfold zlA
    dsimp only; split <;> exact hx
  · intro c
    unfold zlD
    exact hx
  · intro c
    unfold zmP
    exact hx
  · exact hx
theorem zid {p : zd} (h : zL p) (m : Int) : zdt p m < 1000000 := by
  unfold zdt
  rw [List.getD_eq_getElem?_getD]
  cases hq : p.Regs[(m - 1).toNat]? with
  | none => simp
  | some r => have := (h.reg r (List.mem_of_getElem? hq)).1; show r.length < _; omega
theorem zhx {p : zd} {nb : Nat} {s : zb} (h : zL p) (E : EOk p nb s) (m : Int) : EOk p nb (z8 s m) := by
  unfold z8
  split
  · exact E
  rename_i hc
  cases hx : s.Ms[(m - 1).toNat]? with
  | none => exact E
  | some x =>
    have hw1 : ¬ m < 1 := fun e => hc (.inr (.inl e))
    have hw2 : ¬ (s.Ms.length : Int) < m := fun e => hc (.inr (.inr e))
    have ei : (((m - 1).toNat : Nat) : Int) + 1 = m := by omega
    have hX := E.X _ x hx
    rw [ei] at hX
    obtain ⟨r1, r2⟩ := zxI h (zt6 h m) E.S hX
    have T := zsq s m x
    have TH := zyK h E.S.P E.H m x
    have sm : ZJ (zP s m x).1 := E.small.turn h T TH
    have hms : (zP s m x).1.Ms = s.Ms := T.ms
    have hb := h.buf
    refine ⟨r1.keep rfl rfl rfl, ?_, ?_, ?_, fun i y hy => ?_, fun i y hy => ?_, TH, ?_, ?_⟩
    · show ((zP s m x).1.Ws.length : Int) = _
      rw [T.ws]; exact E.wl
    · show ((s.Ms.set _ _).length : Int) = _
      rw [List.length_set]; exact E.ml
    · show (zP s m x).1.Acks.length = (s.Ms.set _ _).length
      rw [List.length_set, T.ac]; exact E.al
    · have hy : (zP s m x).1.Ws[i]? = some y := hy
      rw [T.ws] at hy
      exact E.W i y hy
    · rcases ztQ hy with ⟨rfl, rfl⟩ | hy
      · rw [ei]; exact r2
      · exact E.X i y hy
    · show (0 ≤ (zP s m x).1.D.PC ∧ (zP s m x).1.D.PC ≤ 6) ∧ ((zP s m x).1.D.PC = 3 → 0 ≤ (zP s m x).1.D.I ∧ (zP s m x).1.D.I < ((s.Ms.set _ _).length : Int))
      rw [T.d, List.length_set]; exact E.D
    · have q := E.small.mu x (List.mem_of_getElem? hx)
      have q1 := r2.regs
      have q2 := r2.buf
      have q3 := zid h m
      have := sm.setM (i := (m - 1).toNat) (x := (zP s m x).2) ⟨by omega, by omega, zvF E.small m q.2.2⟩
      rw [hms] at this
      exact this
end
end Go.Pe.G
namespace Go.Pe.G
open Go.Pe
noncomputable section
theorem ztC (t : zt) (o : Int) : zhH t o = some (zbI t o, ()) := by
  rw [zrM, zje, Option.bind_some]
  show (bif yK (t.Marks &&& t.Black) o then _ else _) = _
  unfold zbI
  cases h : yK (t.Marks &&& t.Black) o with
  | true => rfl
  | false =>
    rw [cond_false, zje, Option.bind_some]
    show (bif yK t.Marks o then _ else _) = _
    cases h2 : yK t.Marks o <;> rfl
theorem zqh (t : zt) (o : Int) : zdg t o = some (zoR t o, decide (zbI t o = 1), ()) := by
  rw [zpA, ztC, Option.bind_some, yi]
  unfold zoR
  by_cases h : zbI t o = 1
  · rw [if_pos h, if_pos h, ziI, Option.bind_some, decide_eq_true h]
  · rw [if_neg h, if_neg h, decide_eq_false h]
theorem zoX {h : zn} (hl : h.Objs.length < 1000000) (o s : Int) : Wc h o s = some (Yw h o s, ()) := by
  rw [zjh]
  simp only [zo]
  unfold Yw
  by_cases h1 : 1 ≤ o
  · rw [if_pos h1]
    by_cases h2 : o ≤ (h.Objs.length : Int)
    · rw [if_pos h2]
      by_cases h3 : 0 ≤ s
      · have e := List.getElem?_eq_getElem (show (o - 1).toNat < h.Objs.length by omega)
        rw [if_pos h3, z3 (a := o - 1) (by omega) (by omega), vH (by omega), e, Option.bind_some, decide_eq_true h1, decide_eq_true h2, decide_eq_true h3]
        unfold zA
        rw [List.getD_eq_getElem?_getD, e]; rfl
      · rw [if_neg h3, decide_eq_false h3, Bool.and_false]; rfl
    · rw [if_neg h2, decide_eq_false h2, Bool.and_false]; rfl
  · rw [if_neg h1, decide_eq_false h1]; rfl
theorem zr5 {h : zn} (hl : h.Objs.length < 1000000) (o s : Int) : zfb h o s = some (uX h o s, Yw h o s, ()) := by
  rw [zra, zoX hl, Option.bind_some]
  unfold uX
  cases hs : Yw h o s with
  | false => rfl
  | true =>
    have hs' := hs
    unfold Yw at hs'
    simp only [Bool.and_eq_true, decide_eq_true_eq] at hs'
    obtain ⟨⟨⟨h1, h2⟩, h3⟩, h4⟩ := hs'
    have e := List.getElem?_eq_getElem (show (o - 1).toNat < h.Objs.length by omega)
    have es : zA h o = h.Objs[(o - 1).toNat]'(by omega) := by unfold zA; rw [List.getD_eq_getElem?_getD, e]; rfl
    rw [es] at h4
    have e2 := List.getElem?_eq_getElem (show s.toNat < (h.Objs[(o - 1).toNat]'(by omega)).length by omega)
    simp only [Bool.not_true, cond_false, if_true]
    rw [z3 (a := o - 1) (by omega) (by omega), vH (by omega), e, Option.bind_some, vH h3, e2, Option.bind_some, es, List.getD_eq_getElem?_getD, e2]; rfl
theorem zgA (l : zk) (who : Int) : uf l who = some (decide (1 ≤ who) && decide (who ≤ (l.Bal.length : Int)), ()) := by
  rw [zgO, zo]
  by_cases h1 : 1 ≤ who
  · rw [if_pos h1, decide_eq_true h1]; rfl
  · rw [if_neg h1, decide_eq_false h1]; rfl
theorem zsV {l : zk} (hl : l.Bal.length < 1000000) (who : Int) : zek l who = some (zlY l who, ()) := by
  rw [zny, xu, zgA, Option.bind_some]
  unfold zlY
  by_cases h : 1 ≤ who ∧ who ≤ (l.Bal.length : Int)
  · rw [if_pos h, decide_eq_true h.1, decide_eq_true (show who ≤ ((({ l with Scanned := wc (l.Scanned + 1) } : zk).Bal.length : Nat) : Int) from h.2)]
    have hn : ¬ l.Bal.isEmpty = true := by
      intro e
      have : l.Bal = [] := by simpa using e
      rw [this] at h
      simp at h
      omega
    have hn : l.Bal.isEmpty = false := by simpa using hn
    have e := List.getElem?_eq_getElem (show (who - 1).toNat < l.Bal.length by omega)
    rw [Bool.true_and, Bool.not_true, cond_false, Wi]
    simp only [decide_true, cond_true, zgk (n := (l.Bal.length : Int)) (by omega) (by omega), Option.bind_some, List.length_replicate, Int.toNat_natCast, hn, cond_false, xu]
    rw [Yc (a := who - 1) (by omega) (by omega), uh (l := l.Bal) (by omega) (by omega), Option.bind_some, e, Option.bind_some, zlG, Option.bind_some, Option.bind_some, Option.bind_some, xu, List.getD_eq_getElem?_getD, e]
    rfl
  · rw [if_neg h]
    have e : (decide (1 ≤ who) && decide (who ≤ ((({ l with Scanned := wc (l.Scanned + 1) } : zk).Bal.length : Nat) : Int))) = false := by
      by_cases h1 : 1 ≤ who
      · rw [decide_eq_true h1, decide_eq_false (fun e => h ⟨h1, e⟩)]; rfl
      · rw [decide_eq_false h1]; rfl
    rw [e]; rfl
theorem zsb {α : Type} (o : α) (l : List α) : cut (o :: l) 1 (((o :: l).length : Nat) : Int) = some l := by
  unfold cut
  rw [decide_eq_true (show (0 : Int) ≤ 1 by decide), decide_eq_true (show (1 : Int) ≤ (((o :: l).length : Nat) : Int) by simp; omega), decide_eq_true (Int.le_refl _)]
  simp
end
end Go.Pe.G
namespace Go.Pe.G
open Go.Pe
noncomputable section
theorem zm8 {p : zd} (h : zL p) {m : Int} (hm : 1 ≤ m ∧ m ≤ p.Mutators) : p.Progs[(m - 1).toNat]? = some (wi p m) := by
  have := h.progs
  have e := List.getElem?_eq_getElem (show (m - 1).toNat < p.Progs.length by omega)
  unfold wi
  rw [List.getD_eq_getElem?_getD, e]; rfl
theorem ziR {p : zd} (h : zL p) {m : Int} (hm : 1 ≤ m ∧ m ≤ p.Mutators) {o : zg} (ho : o ∈ wi p m) : (0 ≤ o.R ∧ o.R < (zdt p m : Int)) ∧ (0 ≤ o.A ∧ o.A < (zdt p m : Int)) := by
  have hr := h.regs
  have er := List.getElem?_eq_getElem (show (m - 1).toNat < p.Regs.length by omega)
  have e1 : zdt p m = (p.Regs[(m - 1).toNat]'(by omega)).length := by unfold zdt; rw [List.getD_eq_getElem?_getD, er]; rfl
  have hl := (h.reg _ (List.getElem_mem (show (m - 1).toNat < p.Regs.length by omega))).1
  obtain ⟨a, b⟩ := (h.prog _ _ _ er (zm8 h hm)).2 o ho
  rw [e1]
  refine ⟨a, ?_⟩
  rcases b with ⟨_, b, _⟩ | ⟨_, b, _⟩ | ⟨_, b, _⟩
  · exact b
  · exact b
  · omega
theorem zeW {p : zd} (h : zL p) {s : zb} (hP : s.P = p) {m : Int} (hm : 1 ≤ m ∧ m ≤ p.Mutators) {x : zc} (hi : 0 ≤ x.IP ∧ x.IP < ((wi p m).length : Int)) :
    wI ⟨x, s, m⟩ = some (opM p m x, ()) ∧ opM p m x ∈ wi p m := by
  have hmt := h.mt
  have e := List.getElem?_eq_getElem (show x.IP.toNat < (wi p m).length by omega)
  have eo : opM p m x = (wi p m)[x.IP.toNat]'(by omega) := by unfold opM; rw [List.getD_eq_getElem?_getD, e]; rfl
  rw [zkH]
  dsimp only
  rw [hP, z3 (a := m - 1) (by omega) (by omega), vH (by omega), zm8 h hm, Option.bind_some, vH hi.1, e, Option.bind_some, eo]
  exact ⟨rfl, List.getElem_mem _⟩
theorem zi4 {x : zc} {r : Int} (h : 0 ≤ r ∧ r < (x.Regs.length : Int)) : idx x.Regs r = some (zaD x r) := by
  have e := List.getElem?_eq_getElem (show r.toNat < x.Regs.length by omega)
  rw [vH h.1, e]
  unfold zaD
  rw [List.getD_eq_getElem?_getD, e]; rfl
theorem zc9 {s : zb} {m : Int} {x : zc} {r : Int} (h : 0 ≤ r ∧ r < (x.Regs.length : Int)) (hl : x.Regs.length < 1000000) (v : Int) : vD r v ⟨x, s, m⟩ = some (⟨setM x r v, s, m⟩, ()) := by
  rw [zg1]
  simp only [WZ (show x.Regs.length < 4294967296 by omega), Option.bind_some, uh h.1 h.2, uQ, xu]
  rfl
theorem zlk {p : zd} (h : zL p) {s : zb} (hP : s.P = p) {m : Int} (hm : 1 ≤ m ∧ m ≤ p.Mutators) {x : zc} (hi : 0 ≤ x.IP ∧ x.IP < ((wi p m).length : Int)) (hr : x.Regs.length = zdt p m) (ho : s.H.Objs.length < 1000000) :
    Xu ⟨x, s, m⟩ = some (zrg s m x, ()) := by
  obtain ⟨e1, e2⟩ := zeW h hP hm hi
  have o := ziR h hm e2
  rw [zja]
  simp only [e1, Option.bind_some, zi4 (x := x) (r := (opM p m x).A) (by omega), zr5 ho]
  unfold zrg
  rw [hP]
theorem ziO {p : zd} {nb : Nat} (h : zL p) {s : zb} (S : SOk p nb s) {m : Int} {x : zc} (M : MOk p nb x.G) (to : Int) :
    Zd to ⟨x, s, m⟩ = some (⟨if (zI s x.G).2.Out = 1 then { x with PC := to, G := (zI s x.G).2 } else { x with G := (zI s x.G).2 }, (zI s x.G).1, m⟩, ()) := by
  rw [zeb]
  simp only [zu8 (S.gok h M), Option.bind_some, zo]
  split <;> rfl
theorem znU (s : zb) (x : zc) (m : Int) : W1 ⟨x, s, m⟩ = some (onM s x.Slot, ()) := by
  rw [zkC, zo]
  unfold onM
  split <;> rfl
theorem zkV (k hd to : Int) (s : zb) (x : zc) (m : Int) : ZO k hd to ⟨x, s, m⟩ = some (⟨{ x with PC := to, C := ⟨k, 0, hd, yS s.P, 0#64, x.Bin, 0, 0⟩ }, s, m⟩, ()) := by
  rw [zgB]
  simp only [zeZ, Option.bind_some, zaH]
theorem zwR {m : List zc} (h : m.length < 4294967296) : wm m = some (m, ()) := by
  rw [Xm, List.nil_append, we h, Option.bind_some]
  cases m with
  | nil => simp [zhs]
  | cons a l => simp
theorem zq2 {p : zd} (h : zL p) {nb : Nat} {s : zb} (hP : s.P = p) {m : Int} (hm : 1 ≤ m ∧ m ≤ p.Mutators) (ha : (s.Acks.length : Int) = p.Mutators) {x : zc} (X : XOk p nb m x) :
    XU ⟨x, s, m⟩ = some (⟨zba s m x, s, m⟩, ()) := by
  have hmt := h.mt
  have hip := X.ip
  have hrs := zid h m
  have e := List.getElem?_eq_getElem (show (m - 1).toNat < s.Acks.length by omega)
  have ed : s.Acks.getD (m - 1).toNat 0 = s.Acks[(m - 1).toNat]'(by omega) := by rw [List.getD_eq_getElem?_getD, e]; rfl
  have pg : s.P.Progs[(m - 1).toNat]? = some (wi p m) := by rw [hP]; exact zm8 h hm
  rw [zft]
  simp only [zo]
  rw [z3 (a := m - 1) (by omega) (by omega), vH (by omega), e, Option.bind_some]
  unfold zba
  rw [ed, hP]
  by_cases c : (s.Acks[(m - 1).toNat]'(by omega)) < s.Epoch
  · rw [if_pos c, if_pos c]
  rw [if_neg c, if_neg c, ← hP, vH (by omega), pg, Option.bind_some, hP]
  by_cases c2 : ((wi p m).length : Int) ≤ x.IP
  · rw [if_pos c2, if_pos c2]
  rw [if_neg c2, if_neg c2]
  obtain ⟨e1, e2⟩ := zeW h hP hm (x := x) (show 0 ≤ x.IP ∧ x.IP < ((wi p m).length : Int) by omega)
  have o := ziR h hm e2
  have hreg := X.regs
  rw [e1, Option.bind_some]
  by_cases k1 : (opM p m x).Kind = 1
  · rw [if_pos k1, if_pos k1]
  rw [if_neg k1, if_neg k1]
  by_cases k2 : (opM p m x).Kind = 2
  · rw [if_pos k2, if_pos k2]
  rw [if_neg k2, if_neg k2]
  by_cases k3 : (opM p m x).Kind = 3
  · rw [if_pos k3, if_pos k3]
  rw [if_neg k3, if_neg k3]
  by_cases k4 : (opM p m x).Kind = 4
  · rw [if_pos k4, if_pos k4, zi4 (x := x) (r := (opM p m x).A) (by omega), Option.bind_some, zc9 (x := x) (r := (opM p m x).R) (by omega) (by omega)]; rfl
  · rw [if_neg k4, if_neg k4, zc9 (x := x) (r := (opM p m x).R) (by omega) (by omega)]; rfl
theorem zvD {h : zn} (hl : h.Objs.length < 1000000) (hs : ∀ l ∈ h.Objs, l.length < 1000000) (o i v : Int) : ∃ b, zjI h o i v = some (Vu h o i v, b, ()) := by
  rw [zq7, zoX hl, Option.bind_some]
  unfold Vu
  cases ht : Yw h o i with
  | false => rw [if_neg (fun e => by cases e.1)]; exact ⟨_, rfl⟩
  | true =>
    rw [Bool.not_true, cond_false, zo]
    by_cases h1 : v < 0
    · rw [if_pos h1, if_neg (by omega)]; exact ⟨_, rfl⟩
    rw [if_neg h1, zo]
    by_cases h2 : (h.Objs.length : Int) < v
    · rw [if_pos h2, if_neg (by omega)]; exact ⟨_, rfl⟩
    have hh := ht
    unfold Yw at hh
    simp only [Bool.and_eq_true, decide_eq_true_eq] at hh
    obtain ⟨⟨⟨g1, g2⟩, g3⟩, g4⟩ := hh
    have e := List.getElem?_eq_getElem (show (o - 1).toNat < h.Objs.length by omega)
    have es : zA h o = h.Objs[(o - 1).toNat]'(by omega) := by unfold zA; rw [List.getD_eq_getElem?_getD, e]; rfl
    have hlen := hs _ (List.mem_of_getElem? e)
    rw [if_neg h2, if_pos ⟨rfl, by omega, by omega⟩, zj7 (by omega), Option.bind_some, z3 (a := o - 1) (by omega) (by omega), uh (l := h.Objs) (by omega) (by omega), Option.bind_some, e, Option.bind_some, WZ (by omega), Option.bind_some, Option.bind_some, Option.bind_some]
    rw [zo, if_pos rfl, uh g3 (by rw [← es]; exact g4), Option.bind_some, es]
    exact ⟨_, rfl⟩
theorem zkp {h : zn} (h1 : 1 ≤ h.Slots ∧ h.Slots ≤ 4) (h2 : h.Objs.length ≤ 64) (h3 : ∀ o ∈ h.Objs, (o.length : Int) = h.Slots ∧ ∀ v ∈ o, 0 ≤ v ∧ v ≤ (h.Objs.length : Int)) : Wr h = some (true, ()) := by
  rw [zhj, zo, if_pos h1.1, zo, if_pos h1.2, zo, if_pos (by omega), zqz (by omega) (by omega) h3]
  rfl
theorem ztY {h : zn} (h1 : 1 ≤ h.Slots ∧ h.Slots ≤ 4) (h2 : h.Objs.length ≤ 64) (h3 : ∀ o ∈ h.Objs, (o.length : Int) = h.Slots ∧ ∀ v ∈ o, 0 ≤ v ∧ v ≤ (h.Objs.length : Int)) (hne : h.Objs ≠ []) (most : Int) :
    zga h most = some (if zeY h most = true then (Ww h, (h.Objs.length : Int) + 1, 0, ()) else (h, 0, 4, ())) := by
  have hn : h.Objs.length ≠ 0 := fun e => hne (List.eq_nil_of_length_eq_zero e)
  rw [zo4, zkp h1 h2 h3, Option.bind_some, Bool.not_true, cond_false]
  simp only [zo]
  have er : zeY h most = true ↔ (h.Objs.length : Int) < most ∧ (h.Objs.length : Int) < 64 := by unfold zeY; simp
  have hx : (if 64 < most then (64 : Int) else most) ≤ (h.Objs.length : Int) ↔ ¬ (zeY h most = true) := by
    rw [er]
    split <;> omega
  by_cases hr : zeY h most = true
  · rw [if_neg (fun e => hx.1 e hr), if_pos hr]
    have ec : Yz h.Objs = some (h.Objs, ()) := by
      rw [zdI]
      simp [hn]
    rw [ec, Option.bind_some, if_pos trivial, zhF, decide_eq_true (show 0 ≤ h.Slots by omega), decide_eq_true (show h.Slots < 4294967296 by omega)]
    simp only [Bool.and_self, cond_true, Option.bind_some]
    rw [we (by simp only [List.length_append, List.length_singleton]; omega), Option.bind_some]
    unfold Ww
    simp
  · rw [if_pos (hx.2 hr), if_neg hr]
theorem zuq (t : zt) (o : Int) : ∃ b, zgS t o = some (zob t o, b, ()) := by
  rw [zoO, zoo, Option.bind_some]
  unfold zob
  dsimp only
  cases hs : (zeL t o).2 with
  | false => rw [if_neg (by simp)]; exact ⟨_, rfl⟩
  | true => rw [Bool.not_true, cond_false, zqh, if_pos rfl]; exact ⟨_, rfl⟩
theorem zkk (l : zk) (who price limit : Int) : Zt l who price limit = some (Ux l who price limit, ()) := by
  rw [zeS, zgA, Option.bind_some]
  unfold Ux Uj
  simp only [zo]
  cases ht : (decide (1 ≤ who) && decide (who ≤ (l.Bal.length : Int))) with
  | false => rw [cond_false]; simp
  | true =>
    rw [cond_true]
    by_cases h1 : 0 ≤ price <;> by_cases h2 : 0 ≤ limit
    · rw [if_pos (by split <;> omega)]
      simp only [Bool.true_and, decide_eq_true h1, decide_eq_true h2, Option.some.injEq, Prod.mk.injEq, and_true]
      rw [Bool.eq_iff_iff]
      simp only [decide_eq_true_eq, Bool.and_eq_true]
      split <;> omega
    · rw [if_neg (by split <;> omega)]; simp [h2]
    · rw [if_neg (by split <;> omega)]; simp [h1]
    · rw [if_neg (by split <;> omega)]; simp [h1]
theorem zpg {l : zk} {who : Int} (hl : l.Bal.length < 1000000) (h : Uj l who = true) : idx l.Bal (w64 (who - 1)) = some (zbY l who) ∧ xE l.Bal (w64 (who - 1)) = some (who - 1).toNat ∧ l.Bal[(who - 1).toNat]? = some (zbY l who) := by
  unfold Uj at h
  simp only [Bool.and_eq_true, decide_eq_true_eq] at h
  have e := List.getElem?_eq_getElem (show (who - 1).toNat < l.Bal.length by omega)
  have eb : zbY l who = l.Bal[(who - 1).toNat]'(by omega) := by unfold zbY; rw [List.getD_eq_getElem?_getD, e]; rfl
  rw [z3 (a := who - 1) (by omega) (by omega), vH (by omega), uh (by omega) (by omega), e, eb]
  exact ⟨rfl, rfl, rfl⟩
theorem zoW {l : zk} (hl : l.Bal.length < 1000000) (who price limit : Int) : zbN l who price limit = some (zj5 l who price limit, ()) := by
  rw [zoI, zkk, Option.bind_some]
  unfold zj5
  cases hp : Ux l who price limit with
  | false => rfl
  | true =>
    have ht : Uj l who = true := by unfold Ux at hp; simp only [Bool.and_eq_true] at hp; exact hp.1.1.1.1
    dsimp only
    rw [cond_true, (zpg hl ht).1, Option.bind_some, xu, Bool.true_and, Int.zero_sub]
theorem zkq {l l' : zk} (hl : l.Bal.length < 1000000) {who : Int} (h : Uj l who = true) (hb : l'.Bal = l.Bal) {v : Int} {Q : Option (zk × Unit)} {f : Int → Option (Int × Unit)} (hf : f (zbY l who) = some (v, ()))
    (hQ : Q = bif decide (((l'.Bal.length : Int)) = ((l'.Bal.length : Int))) then (Y4 ((l'.Bal.length : Int))).bind fun n1 => bif decide (l'.Bal.length = ((List.replicate n1 ((0 : Int))).length)) then
      bif l'.Bal.isEmpty then (xE (List.replicate n1 ((0 : Int))) (w64 (who - 1))).bind fun n2 => ((List.replicate n1 ((0 : Int)))[n2]?).bind fun x3 => (f x3).bind fun y4 => (xE (List.replicate n1 ((0 : Int))) (w64 (who - 1))).bind fun n5 => some ({ l' with Bal := (List.replicate n1 ((0 : Int))).set n5 y4.1 }, ())
      else (xE l'.Bal (w64 (who - 1))).bind fun n6 => (l'.Bal[n6]?).bind fun x7 => (f x7).bind fun y8 => (xE l'.Bal (w64 (who - 1))).bind fun n9 => some ({ l' with Bal := l'.Bal.set n9 y8.1 }, ()) else none else none) :
    Q = some ({ l' with Bal := l.Bal.set (who - 1).toNat v }, ()) := by
  obtain ⟨e1, e2, e3⟩ := zpg hl h
  have hne : l.Bal.isEmpty = false := by
    cases hl2 : l.Bal with
    | nil => rw [hl2] at e3; simp at e3
    | cons a r => rfl
  rw [hQ, hb, zhF, decide_eq_true (show (0 : Int) ≤ (l.Bal.length : Int) by omega), decide_eq_true (show (l.Bal.length : Int) < 4294967296 by omega)]
  simp only [decide_true, cond_true, Bool.and_self, Option.bind_some, Int.toNat_natCast, List.length_replicate, hne, cond_false, e2, e3, hf]
theorem zsA {l : zk} (hl : l.Bal.length < 1000000) (who price limit : Int) : zcN l who price limit = some (if zj5 l who price limit = true then (zkT l who price, true, ()) else (l, false, ())) := by
  rw [zl5, zoW hl, Option.bind_some]
  cases hm : zj5 l who price limit with
  | false => rfl
  | true =>
    have ht : Uj l who = true := by unfold zj5 Ux at hm; simp only [Bool.and_eq_true] at hm; exact hm.1.1.1.1.1
    dsimp only
    rw [Bool.not_true, cond_false, zkq (l' := { l with Spent := w64 (l.Spent + price) }) hl ht rfl (f := fun b => Vc b price) (v := wc (zbY l who - price)) (by rw [zkD, xu]) (Wb _ _ _), Option.bind_some, if_pos rfl, xu]
    rfl
theorem zts {l : zk} (hl : l.Bal.length < 1000000) (who want : Int) : zev l who want = some ((zhp l who want).1, (zhp l who want).2, ()) := by
  rw [zne, zgA, Option.bind_some]
  unfold zhp
  have em : (bif decide (l.Pool < want) then l.Pool else want) = zjm want l.Pool := by rw [zo]; rfl
  simp only [em]
  have et : (decide (1 ≤ who) && decide (who ≤ (l.Bal.length : Int))) = Uj l who := rfl
  rw [et]
  cases ht : Uj l who with
  | false => rw [if_neg (fun e => by cases e.1)]; rfl
  | true =>
    rw [Bool.not_true, cond_false, zo]
    by_cases hz : zjm want l.Pool ≤ 0
    · rw [if_pos hz, if_neg (by omega)]
    · rw [if_neg hz, if_pos ⟨rfl, by omega⟩, zkq (l' := { l with Pool := w64 (l.Pool - zjm want l.Pool) }) hl ht rfl (f := fun b => VW b (zjm want l.Pool)) (v := wc (zbY l who + zjm want l.Pool)) (by rw [zle, xu]) (Wk _ _ _), Option.bind_some, xu]
theorem zrJ {l : zk} (hl : l.Bal.length < 1000000) (who price limit : Int) : zcl l who price limit = some (zlw l who price limit, ()) := by
  rw [zmg, zkk, Option.bind_some]
  unfold zlw
  cases hp : Ux l who price limit with
  | false => rfl
  | true =>
    have ht : Uj l who = true := by unfold Ux at hp; simp only [Bool.and_eq_true] at hp; exact hp.1.1.1.1
    dsimp only
    rw [Bool.not_true, cond_false, zoW hl, Option.bind_some, if_pos rfl]
    cases hm : zj5 l who price limit with
    | false => rw [cond_false, (zpg hl ht).1, Option.bind_some, xu]; rfl
    | true => rfl
theorem ztn {p : zd} {nb : Nat} (h : zL p) {s : zb} {x : zc} {m : Int} (S : SOk p nb s) (X : XOk p nb m x) (hm : 1 ≤ m ∧ m ≤ p.Mutators) (ha : (s.Acks.length : Int) = p.Mutators) (sm : ZJ s) (H : HOk p s.H) (hb : x.Buf.length < 1000000) (hbt : x.Batch.length < 1000000) : Wq ⟨x, s, m⟩ = some (⟨(zP s m x).2, (zP s m x).1, m⟩, ()) := by
  have hmt := h.mt
  have hpc := X.pc
  rw [zgT]
  simp only [zo]
  unfold zP
  by_cases c0 : x.PC = 0
  · rw [if_pos c0, if_pos c0, zq2 h S.P hm ha X]; rfl
  rw [if_neg c0, if_neg c0]
  by_cases c1 : x.PC = 1
  · rw [if_pos c1, if_pos c1, zeN]
    simp only [zo]
    unfold mu1
    by_cases e : x.Buf.length = 0
    · rw [if_pos e, if_pos (by rw [z3 (by omega) (by omega)]; omega)]; rfl
    · have ei := List.getElem?_eq_getElem (show x.Buf.length - 1 < x.Buf.length by omega)
      have en : ((x.Buf.length : Int) - 1).toNat = x.Buf.length - 1 := by omega
      have ec : cut x.Buf 0 ((x.Buf.length : Int) - 1) = some (x.Buf.take (x.Buf.length - 1)) := by
        unfold cut
        rw [decide_eq_true (show (0 : Int) ≤ 0 by decide), decide_eq_true (show (0 : Int) ≤ (x.Buf.length : Int) - 1 by omega), decide_eq_true (show (x.Buf.length : Int) - 1 ≤ (x.Buf.length : Int) by omega), en]
        simp
      rw [if_neg e, z3 (a := (x.Buf.length : Int) - 1) (by omega) (by omega), if_neg (by omega), vH (by omega), en, ei, Option.bind_some, zn2, Option.bind_some, ec, List.getD_eq_getElem?_getD, ei]
      rfl
  rw [if_neg c1, if_neg c1]
  by_cases c2 : x.PC = 2
  · rw [if_pos c2, if_pos c2, zhg]
    have hs := sm.acks
    simp only [WZ (show s.Acks.length < 4294967296 by omega), Option.bind_some]
    rw [z3 (a := m - 1) (by omega) (by omega), uh (l := s.Acks) (by omega) (by omega)]
    rfl
  rw [if_neg c2, if_neg c2]
  have hbl := sm.bal
  have hon := sm.objs
  have hregs := X.regs
  have hrs := zid h m
  have hHs := H.slots
  have hHn := H.n
  have hpn := h.n
  have hpm := h.most
  have hps := h.slots
  have op := fun (hi : x.IP < ((wi p m).length : Int)) => zeW h S.P hm (x := x) ⟨X.ip.1, hi⟩
  by_cases c3 : x.PC = 3
  · rw [if_pos c3, if_pos c3, zfq, ziO h S (X.g (.inl c3)).1]; rfl
  rw [if_neg c3, if_neg c3]
  by_cases c10 : x.PC = 10
  · have hi := X.op (.inl (by omega))
    obtain ⟨e1, e2⟩ := op hi
    have o := ziR h hm e2
    rw [if_pos c10, if_pos c10, zfK, e1, Option.bind_some, zlk h S.P hm ⟨X.ip.1, hi⟩ hregs hon, Option.bind_some, zc9 (x := x) (r := (opM p m x).R) (by omega) (by omega)]
    unfold zlq
    rw [S.P]; rfl
  rw [if_neg c10, if_neg c10]
  by_cases c20 : x.PC = 20
  · have hi := X.op (.inl (by omega))
    obtain ⟨e1, e2⟩ := op hi
    have o := ziR h hm e2
    rw [if_pos c20, if_pos c20, zg2, e1, Option.bind_some]
    unfold zjF
    dsimp only
    rw [zi4 (x := x) (r := (opM p m x).A) (by omega), Option.bind_some, zo, S.P]
    by_cases e : zaD x (opM p m x).A = 0
    · rw [if_pos e, if_pos e, uQ, xu]; rfl
    · rw [if_neg e, if_neg e, zlk h S.P hm ⟨X.ip.1, hi⟩ hregs hon]; rfl
  rw [if_neg c20, if_neg c20]
  by_cases c21 : x.PC = 21
  · rw [if_pos c21, if_pos c21, zeK]
    unfold zjH
    dsimp only
    rw [zo]
    by_cases e : x.Old = 0
    · rw [if_pos e, if_pos (.inl e)]; rfl
    · rw [if_neg e, ztC, Option.bind_some, yi]
      by_cases e2 : zbI s.T x.Old = 0
      · rw [if_pos e2, if_neg (fun h => h.elim e (fun h => h e2))]; rfl
      · rw [if_neg e2, if_pos (.inr e2)]; rfl
  rw [if_neg c21, if_neg c21]
  by_cases c22 : x.PC = 22
  · rw [if_pos c22, if_pos c22, zc5]
    unfold zjT
    dsimp only
    rw [zo]
    by_cases e : s.P.Buf ≤ (x.Buf.length : Int)
    · rw [if_pos e, if_pos e]; rfl
    · rw [if_neg e, if_neg e, WZ (by omega), Option.bind_some, we (by simp; omega)]; rfl
  rw [if_neg c22, if_neg c22]
  by_cases c23 : x.PC = 23
  · have hi := X.op (.inl (by omega))
    obtain ⟨e1, e2⟩ := op hi
    have o := ziR h hm e2
    obtain ⟨b, ep⟩ := zvD hon sm.obj (zaD x (opM p m x).A) (opM p m x).S (zaD x (opM p m x).R)
    rw [if_pos c23, if_pos c23, zeJ, e1, Option.bind_some]
    dsimp only
    rw [zi4 (x := x) (r := (opM p m x).A) (by omega), Option.bind_some, zi4 (x := x) (r := (opM p m x).R) (by omega), Option.bind_some, ep, Option.bind_some, uQ, xu]
    unfold zlC
    rw [S.P]; rfl
  rw [if_neg c23, if_neg c23]
  by_cases c30 : x.PC = 30
  · have hi := X.op (.inl (by omega))
    obtain ⟨e1, e2⟩ := op hi
    have o := ziR h hm e2
    have hne : s.H.Objs ≠ [] := fun e => by have e2 : s.H.Objs.length = 0 := by rw [e]; rfl
                                            omega
    rw [if_pos c30, if_pos c30, ze4]
    unfold zgz
    dsimp only
    rw [zsA hbl, Option.bind_some]
    cases hmay : zj5 s.L m s.P.Price s.P.Limit with
    | false => rfl
    | true =>
      rw [if_pos rfl, if_pos rfl]
      dsimp only
      rw [Bool.not_true, cond_false, ztY (show 1 ≤ s.H.Slots ∧ s.H.Slots ≤ 4 by rw [hHs]; omega) (show s.H.Objs.length ≤ 64 by omega) H.objs hne, Option.bind_some]
      cases hr : zeY s.H s.P.Most with
      | false =>
        rw [if_neg (by simp), if_neg (by simp)]
        dsimp only
        rw [yi, if_neg (by decide), uQ, xu]; rfl
      | true =>
        rw [if_pos rfl, if_pos rfl]
        dsimp only
        obtain ⟨b, ef⟩ := zuq s.T ((s.H.Objs.length : Int) + 1)
        rw [yi, if_pos rfl, ef, Option.bind_some]
        have e3 := (zeW h (s := { s with H := Ww s.H, T := zob s.T ((s.H.Objs.length : Int) + 1), L := zkT s.L m s.P.Price }) S.P hm (x := x) ⟨X.ip.1, hi⟩).1
        rw [e3, Option.bind_some, zc9 (x := x) (r := (opM p m x).R) (by omega) (by omega), Yc (by omega) (by omega)]
        rw [S.P]; rfl
  rw [if_neg c30, if_neg c30]
  by_cases c31 : x.PC = 31
  · rw [if_pos c31, if_pos c31, zgy]
    unfold zjw
    dsimp only
    rw [zrJ hbl, Option.bind_some, zts hbl, Option.bind_some, zo]
    by_cases e : (zhp s.L m (zlw s.L m s.P.Price s.P.Limit)).2 = 0
    · rw [if_pos e, if_pos e, ze9, Option.bind_some, zkV]; rfl
    · rw [if_neg e, if_neg e]; rfl
  rw [if_neg c31, if_neg c31]
  by_cases c32 : x.PC = 32
  · rw [if_pos c32, if_pos c32, zhh]
    unfold zjL
    dsimp only
    rw [ze3 (by have := S.mem; omega), Option.bind_some, zo, zo]
    by_cases e : (zY s.M x.C).2.Out = 1
    · rw [if_pos e, if_pos e]; rfl
    · rw [if_neg e, if_neg e]
      by_cases e2 : (zY s.M x.C).2.Out = 2
      · rw [if_pos e2, if_pos e2]; rfl
      · rw [if_neg e2, if_neg e2]; rfl
  rw [if_neg c32, if_neg c32]
  by_cases c33 : x.PC = 33
  · have B := X.b33 c33
    have hbn := S.bins
    have hnb := S.nbk
    have e := List.getElem?_eq_getElem (show x.Bin.toNat < s.Bins.length by omega)
    rw [if_pos c33, if_pos c33, zfn]
    unfold zk6
    dsimp only
    rw [vH (by omega), e, Option.bind_some, zj7 (by omega), Option.bind_some, uh (l := s.Bins) (by omega) (by omega), Option.bind_some, zdk, Option.bind_some, zkV]
    have eb : zlQ s x.Bin = s.Bins[x.Bin.toNat]'(by omega) := by unfold zlQ; rw [List.getD_eq_getElem?_getD, e]; rfl
    rw [eb]; rfl
  rw [if_neg c33, if_neg c33]
  by_cases c34 : x.PC = 34
  · rw [if_pos c34, if_pos c34, zf9]
    unfold zkh
    dsimp only
    rw [ze3 (by have := S.mem; omega), Option.bind_some, zo]
    by_cases e : (zY s.M x.C).2.Out = 1
    · rw [if_pos e, if_pos e]; rfl
    · rw [if_neg e, if_neg e]; rfl
  rw [if_neg c34, if_neg c34]
  by_cases c35 : x.PC = 35
  · rw [if_pos c35, if_pos c35, zfv]
    unfold zjv
    dsimp only
    rw [zo]
    cases hbb : x.Batch with
    | nil => rw [if_neg (by simp)]; rfl
    | cons o l =>
      have : idx (o :: l) 0 = some o := by rw [vH (by omega)]; rfl
      rw [if_pos (by simp), this, Option.bind_some, zsb]; rfl
  rw [if_neg c35, if_neg c35]
  by_cases c36 : x.PC = 36
  · rw [if_pos c36, if_pos c36, zf2]
    unfold zkd
    dsimp only
    rw [zr5 hon, Option.bind_some, znU, Option.bind_some, yi, xu]
    by_cases e : uX s.H x.Obj x.Slot = 0
    · rw [if_pos e, if_pos e]; rfl
    · rw [if_neg e, if_neg e, zn2]; rfl
  rw [if_neg c36, if_neg c36]
  by_cases c37 : x.PC = 37
  · rw [if_pos c37, if_pos c37, zhe, znU, Option.bind_some, ziO h S (X.g (.inr c37)).1]; rfl
  rw [if_neg c37, if_neg c37]
  by_cases c38 : x.PC = 38
  · rw [if_pos c38, if_pos c38, zd0]
    unfold zlD
    dsimp only
    rw [zqh, Option.bind_some, zsV hbl]; rfl
  rw [if_neg c38, if_neg c38]
  have c39 : x.PC = 39 := by omega
  rw [if_pos c39, if_pos c39, zdW, xu]; rfl
theorem zf1 {p : zd} {nb : Nat} {s : zb} (h : zL p) (E : EOk p nb s) (m : Int) : Wm s m = some (z8 s m, ()) := by
  rw [zmb]
  simp only [zo]
  unfold z8
  cases hd : s.Done with
  | true => rw [cond_true, if_pos (.inl rfl)]
  | false =>
    rw [cond_false]
    by_cases h1 : m < 1
    · rw [if_pos h1, if_pos (.inr (.inl h1))]
    rw [if_neg h1]
    by_cases h2 : (s.Ms.length : Int) < m
    · rw [if_pos h2, if_pos (.inr (.inr h2))]
    have hml := E.ml
    have hal := E.al
    have hmt := h.mt
    have e := List.getElem?_eq_getElem (show (m - 1).toNat < s.Ms.length by omega)
    have ei : (((m - 1).toNat : Nat) : Int) + 1 = m := by omega
    have hX := E.X _ _ e
    rw [ei] at hX
    have hb := (E.small.mu _ (List.mem_of_getElem? e)).2
    have T := zsq s m (s.Ms[(m - 1).toNat]'(by omega))
    rw [if_neg h2, if_neg (fun e => e.elim (fun h => by cases h) (fun e => e.elim h1 h2)), z3 (a := m - 1) (by omega) (by omega), vH (by omega), e, Option.bind_some, ztn h E.S hX (by omega) (by omega) E.small E.H hb.1 hb.2, Option.bind_some]
    simp only [T.ms, zwR (show s.Ms.length < 4294967296 by omega), Option.bind_some, uh (l := s.Ms) (show 0 ≤ m - 1 by omega) (show m - 1 < (s.Ms.length : Int) by omega)]
end
end Go.Pe.G
namespace Go.Pe.G
open Go.Pe
noncomputable section
theorem znI (s : zb) (g : zE) : (zI s g).1 = { s with M := (zI s g).1.M, Bins := (zI s g).1.Bins, T := (zI s g).1.T, Work := (zI s g).1.Work, Flag := (zI s g).1.Flag } := by
  obtain ⟨m, b, t, wk, f, e, _⟩ := W9 s g
  rw [e]
theorem zuR {p : zd} {nb : Nat} {s : zb} {w : Int} {x : zj} (W : WOk p nb w x) : (yH s w x).1 = { s with M := (yH s w x).1.M, Bins := (yH s w x).1.Bins, T := (yH s w x).1.T, Work := (yH s w x).1.Work, L := (yH s w x).1.L } := by
  unfold yH
  split
  · rfl
  split
  · rfl
  split
  · rfl
  split
  · rfl
  split
  · rfl
  split
  · rename_i h6
    obtain ⟨g1, g2, g3, g4⟩ := W.g6 h6
    have hf := (ztP s g3 g4).2
    obtain ⟨m, b, t, wk, f, e, _⟩ := W9 s x.G
    dsimp only
    rw [e] at hf ⊢
    have hf : f = s.Flag := hf
    rw [hf]
  split
  · rfl
  split
  · rfl
  split <;> rfl
theorem zqE (s : zb) (m : Int) (x : zc) : (zP s m x).1 = { s with H := (zP s m x).1.H, M := (zP s m x).1.M, Bins := (zP s m x).1.Bins, T := (zP s m x).1.T, Work := (zP s m x).1.Work, Flag := (zP s m x).1.Flag, Acks := (zP s m x).1.Acks, L := (zP s m x).1.L } := by
  have g : ∀ g : zE, (zI s g).1 = { s with H := (zI s g).1.H, M := (zI s g).1.M, Bins := (zI s g).1.Bins, T := (zI s g).1.T, Work := (zI s g).1.Work, Flag := (zI s g).1.Flag, Acks := (zI s g).1.Acks, L := (zI s g).1.L } := fun g => by
    obtain ⟨m, b, t, wk, f, e, _⟩ := W9 s g
    rw [e]
  refine u6 (motive := fun r => r.1 = { s with H := r.1.H, M := r.1.M, Bins := r.1.Bins, T := r.1.T, Work := r.1.Work, Flag := r.1.Flag, Acks := r.1.Acks, L := r.1.L }) s m x ?_ ?_ ?_ ?_ ?_ ?_ ?_ ?_ ?_ ?_ ?_ ?_ ?_ ?_ ?_ ?_ ?_ ?_ ?_ ?_
  · exact fun _ => rfl
  · exact fun _ => rfl
  · exact fun _ => rfl
  · exact fun _ => g x.G
  · exact fun _ => rfl
  · exact fun _ => rfl
  · exact fun _ => rfl
  · exact fun _ => rfl
  · exact fun _ => rfl
  · intro _
    unfold zgz
    split
    · split <;> rfl
    · rfl
  · exact fun _ => rfl
  · exact fun _ => rfl
  · exact fun _ => rfl
  · exact fun _ => rfl
  · exact fun _ => rfl
  · exact fun _ => rfl
  · exact fun _ => g x.G
  · exact fun _ => rfl
  · exact fun _ => rfl
  · rfl
theorem zyS (s : zb) (m : Int) {x : zc} (h : x.PC ≠ 2) : (zP s m x).1.Acks = s.Acks := by
  have g : ∀ g : zE, (zI s g).1.Acks = s.Acks := fun g => by
    obtain ⟨m, b, t, wk, f, e, _⟩ := W9 s g
    rw [e]
  refine u6 (motive := fun r => r.1.Acks = s.Acks) s m x ?_ ?_ ?_ ?_ ?_ ?_ ?_ ?_ ?_ ?_ ?_ ?_ ?_ ?_ ?_ ?_ ?_ ?_ ?_ ?_
  · exact fun _ => rfl
  · exact fun _ => rfl
  · exact fun c => absurd c h
  · exact fun _ => g x.G
  · exact fun _ => rfl
  · exact fun _ => rfl
  · exact fun _ => rfl
  · exact fun _ => rfl
  · exact fun _ => rfl
  · intro _
    unfold zgz
    split
    · split <;> rfl
    · rfl
  · exact fun _ => rfl
  · exact fun _ => rfl
  · exact fun _ => rfl
  · exact fun _ => rfl
  · exact fun _ => rfl
  · exact fun _ => rfl
  · exact fun _ => g x.G
  · exact fun _ => rfl
  · exact fun _ => rfl
  · rfl
def zn8 (s : zb) (k : Int) : zb := if k = 0 then zl0 s else if k ≤ (s.Ws.length : Int) then uO s k else z8 s (k - s.Ws.length)
theorem zyZ {p : zd} {nb : Nat} {s : zb} (h : zL p) (E : EOk p nb s) (k : Int) : EOk p nb (zn8 s k) := by
  unfold zn8
  split
  · exact zyr h E
  split
  · exact zv0 h E k
  · exact zhx h E _
theorem zm3 {p : zd} {nb : Nat} {s : zb} (E : EOk p nb s) (w : Int) : uO s w = { s with M := (uO s w).M, Bins := (uO s w).Bins, T := (uO s w).T, Work := (uO s w).Work, L := (uO s w).L, Ws := (uO s w).Ws } := by
  unfold uO
  split
  · rfl
  rename_i hc
  cases hx : s.Ws[(w - 1).toNat]? with
  | none => rfl
  | some x =>
    have hW := E.W _ _ hx
    rw [show (((w - 1).toNat : Nat) : Int) + 1 = w by omega] at hW
    dsimp only
    rw [zuR hW]
theorem zvV (s : zb) (m : Int) : z8 s m = { s with H := (z8 s m).H, M := (z8 s m).M, Bins := (z8 s m).Bins, T := (z8 s m).T, Work := (z8 s m).Work, Flag := (z8 s m).Flag, Acks := (z8 s m).Acks, L := (z8 s m).L, Ms := (z8 s m).Ms } := by
  unfold z8
  split
  · rfl
  cases hx : s.Ms[(m - 1).toNat]? with
  | none => rfl
  | some x =>
    dsimp only
    rw [zqE]
structure AI (k : Int) (s : zb) : Prop where
  ep : 0 ≤ s.Epoch ∧ s.Epoch ≤ k
  m : ∀ (i : Nat) x, s.Ms[i]? = some x → s.Acks.getD i 0 ≤ s.Epoch ∧ (x.PC = 2 ∨ ((x.PC = 1 ∨ x.PC = 3) ∧ x.Ret = 2) → s.Acks.getD i 0 ≤ x.Want ∧ x.Want ≤ s.Epoch) ∧ (x.PC = 2 → x.Buf = [])
def zuS (s s' : zb) : Prop := ∀ (i : Nat) x', s'.Ms[i]? = some x' → s.Acks.getD i 0 ≤ s'.Acks.getD i 0 ∧ s'.Acks.getD i 0 ≤ s'.Epoch ∧ (s.Acks.getD i 0 < s'.Acks.getD i 0 → x'.Buf = [])
theorem AI.same {k : Int} {s s' : zb} (A : AI k s) (e1 : s'.Epoch = s.Epoch) (e2 : s'.Ms = s.Ms) (e3 : s'.Acks = s.Acks) : AI (k + 1) s' ∧ zuS s s' := by
  refine ⟨⟨by rw [e1]; have := A.ep; omega, by rw [e1, e2, e3]; exact A.m⟩, fun i x hx => ?_⟩
  rw [e2] at hx
  rw [e3, e1]
  exact ⟨Int.le_refl _, (A.m i x hx).1, fun e => by omega⟩
theorem znf {α : Type} {l : List α} {i j : Nat} {v d : α} (h : i < l.length) : (l.set i v).getD j d = if i = j then v else l.getD j d := by
  rw [List.getD_eq_getElem?_getD, List.getD_eq_getElem?_getD, List.getElem?_set]
  by_cases e : i = j
  · rw [if_pos e, if_pos e, if_pos h]; rfl
  · rw [if_neg e, if_neg e]
theorem zxM {p : zd} {nb : Nat} {k : Int} {s : zb} (hp : zL p) (E : EOk p nb s) (A : AI k s) {m : Int} (hm : 1 ≤ m ∧ m ≤ (s.Ms.length : Int)) {x : zc} (hx : s.Ms[(m - 1).toNat]? = some x) :
    let y := (zP s m x).2
    let s' := (zP s m x).1
    (s.Acks.getD (m - 1).toNat 0 ≤ s'.Acks.getD (m - 1).toNat 0 ∧ s'.Acks.getD (m - 1).toNat 0 ≤ s.Epoch ∧ (s.Acks.getD (m - 1).toNat 0 < s'.Acks.getD (m - 1).toNat 0 → y.Buf = [])) ∧ (∀ j, j ≠ (m - 1).toNat → s'.Acks.getD j 0 = s.Acks.getD j 0) ∧
      (y.PC = 2 ∨ ((y.PC = 1 ∨ y.PC = 3) ∧ y.Ret = 2) → s'.Acks.getD (m - 1).toNat 0 ≤ y.Want ∧ y.Want ≤ s.Epoch) ∧ (y.PC = 2 → y.Buf = []) := by
  obtain ⟨a1, a2, a3⟩ := A.m _ _ hx
  have X := E.X _ _ hx
  rw [show (((m - 1).toNat : Nat) : Int) + 1 = m by omega] at X
  have hal := E.al
  have same : ∀ {s' : zb} {y : zc}, s'.Acks = s.Acks → (y.PC = 2 ∨ ((y.PC = 1 ∨ y.PC = 3) ∧ y.Ret = 2) → s.Acks.getD (m - 1).toNat 0 ≤ y.Want ∧ y.Want ≤ s.Epoch) → (y.PC = 2 → y.Buf = []) →
      (s.Acks.getD (m - 1).toNat 0 ≤ s'.Acks.getD (m - 1).toNat 0 ∧ s'.Acks.getD (m - 1).toNat 0 ≤ s.Epoch ∧ (s.Acks.getD (m - 1).toNat 0 < s'.Acks.getD (m - 1).toNat 0 → y.Buf = [])) ∧ (∀ j, j ≠ (m - 1).toNat → s'.Acks.getD j 0 = s.Acks.getD j 0) ∧
      (y.PC = 2 ∨ ((y.PC = 1 ∨ y.PC = 3) ∧ y.Ret = 2) → s'.Acks.getD (m - 1).toNat 0 ≤ y.Want ∧ y.Want ≤ s.Epoch) ∧ (y.PC = 2 → y.Buf = []) := fun e h1 h2 => by
    rw [e]; exact ⟨⟨Int.le_refl _, a1, fun e => by omega⟩, fun _ _ => rfl, h1, h2⟩
  have far : ∀ {s' : zb} {y : zc}, s'.Acks = s.Acks → (y.PC = 0 ∨ 10 ≤ y.PC) → _ := fun {s' y} e h => same (s' := s') (y := y) e (fun e => by omega) (fun e => by omega)
  have gacks : ∀ g : zE, (zI s g).1.Acks = s.Acks := fun g => by
    obtain ⟨m, b, t, wk, f, e, _⟩ := W9 s g
    rw [e]
  refine u6 (motive := fun r => (s.Acks.getD (m - 1).toNat 0 ≤ r.1.Acks.getD (m - 1).toNat 0 ∧ r.1.Acks.getD (m - 1).toNat 0 ≤ s.Epoch ∧ (s.Acks.getD (m - 1).toNat 0 < r.1.Acks.getD (m - 1).toNat 0 → r.2.Buf = [])) ∧ (∀ j, j ≠ (m - 1).toNat → r.1.Acks.getD j 0 = s.Acks.getD j 0) ∧
      (r.2.PC = 2 ∨ ((r.2.PC = 1 ∨ r.2.PC = 3) ∧ r.2.Ret = 2) → r.1.Acks.getD (m - 1).toNat 0 ≤ r.2.Want ∧ r.2.Want ≤ s.Epoch) ∧ (r.2.PC = 2 → r.2.Buf = [])) s m x ?_ ?_ ?_ ?_ ?_ ?_ ?_ ?_ ?_ ?_ ?_ ?_ ?_ ?_ ?_ ?_ ?_ ?_ ?_ ?_
  · intro c
    unfold mu0 zba
    split
    · rename_i hlt
      exact same rfl (fun _ => ⟨Int.le_of_lt hlt, Int.le_refl _⟩) (fun e => by cases e)
    split
    · exact far rfl (.inl c)
    split
    · exact far rfl (.inr (by show (10 : Int) ≤ 10; decide))
    split
    · exact far rfl (.inr (by show (10 : Int) ≤ 20; decide))
    split
    · exact far rfl (.inr (by show (10 : Int) ≤ 30; decide))
    split <;> exact far rfl (.inl rfl)
  · intro c
    unfold mu1
    split
    · rename_i hb
      have hb : x.Buf = [] := List.eq_nil_of_length_eq_zero hb
      refine same rfl (fun e => ?_) (fun _ => hb)
      have e : x.Ret = 2 ∨ ((x.Ret = 1 ∨ x.Ret = 3) ∧ x.Ret = 2) := e
      exact a2 (.inr ⟨.inl c, by omega⟩)
    · refine same rfl (fun e => a2 (.inr ⟨.inl c, ?_⟩)) (fun e => by cases e)
      rcases e with e | e
      · cases e
      · exact e.2
  · intro c
    have hlt : (m - 1).toNat < s.Acks.length := by omega
    obtain ⟨b1, b2⟩ := a2 (.inl c)
    unfold mu2
    have e0 : (s.Acks.set (m - 1).toNat x.Want).getD (m - 1).toNat 0 = x.Want := by rw [znf hlt, if_pos rfl]
    refine ⟨⟨by dsimp only; rw [e0]; exact b1, by dsimp only; rw [e0]; exact b2, fun _ => a3 c⟩, fun j hj => ?_, fun (e : (0 : Int) = 2 ∨ (((0 : Int) = 1 ∨ (0 : Int) = 3) ∧ x.Ret = 2)) => by omega, fun (e : (0 : Int) = 2) => by omega⟩
    dsimp only
    rw [znf hlt, if_neg (fun e => hj e.symm)]
  · intro c
    unfold mu3
    dsimp only
    split
    · refine same (gacks _) (fun e => a2 (.inr ⟨.inr c, ?_⟩)) (fun e => by cases e)
      rcases e with e | e
      · cases e
      · exact e.2
    · refine same (gacks _) (fun e => a2 ?_) (fun e => by have e : x.PC = 2 := e; omega)
      rcases e with e | e
      · exact .inl e
      · exact .inr e
  · exact fun c => far rfl (.inl rfl)
  · intro c
    unfold zjF
    split
    · exact far rfl (.inl rfl)
    · exact far rfl (.inr (by show (10 : Int) ≤ 21; decide))
  · intro c
    unfold zjH
    split
    · exact far rfl (.inr (by show (10 : Int) ≤ 23; decide))
    · exact far rfl (.inr (by show (10 : Int) ≤ 22; decide))
  · intro c
    unfold zjT
    split
    · refine same rfl (fun e => ?_) (fun e => by cases e)
      rcases e with e | ⟨_, e⟩ <;> cases e
    · exact far rfl (.inr (by show (10 : Int) ≤ 23; decide))
  · exact fun c => far rfl (.inl rfl)
  · intro c
    unfold zgz
    split
    · split
      · exact far rfl (.inl rfl)
      · exact far rfl (.inl rfl)
    · exact far rfl (.inr (by show (10 : Int) ≤ 31; decide))
  · intro c
    unfold zjw
    dsimp only
    split
    · exact far rfl (.inr (by show (10 : Int) ≤ 32; decide))
    · exact far rfl (.inl rfl)
  · intro c
    unfold zjL
    dsimp only
    split
    · exact far rfl (.inr (by show (10 : Int) ≤ 33; decide))
    split
    · exact far rfl (.inl rfl)
    · exact far rfl (.inr (by show 10 ≤ x.PC; omega))
  · exact fun c => far rfl (.inr (by show (10 : Int) ≤ 34; decide))
  · intro c
    unfold zkh
    dsimp only
    split
    · exact far rfl (.inr (by show (10 : Int) ≤ 35; decide))
    · exact far rfl (.inr (by show 10 ≤ x.PC; omega))
  · intro c
    unfold zjv
    dsimp only
    split
    · exact far rfl (.inl rfl)
    · exact far rfl (.inr (by show (10 : Int) ≤ 36; decide))
  · intro c
    unfold zkd
    dsimp only
    split
    · exact far rfl (.inr (by show 10 ≤ onM s (wc (x.Slot + 1)); rcases znV s (wc (x.Slot + 1)) with e | e <;> rw [e] <;> decide))
    · exact far rfl (.inr (by show (10 : Int) ≤ 37; decide))
  · intro c
    unfold zlA
    dsimp only
    split
    · exact far (gacks _) (.inr (by show 10 ≤ onM s x.Slot; rcases znV s x.Slot with e | e <;> rw [e] <;> decide))
    · exact far (gacks _) (.inr (by show 10 ≤ x.PC; omega))
  · exact fun c => far rfl (.inr (by show (10 : Int) ≤ 39; decide))
  · exact fun c => far rfl (.inr (by show (10 : Int) ≤ 35; decide))
  · exact same rfl a2 a3
theorem zy1 {p : zd} {nb : Nat} {k : Int} {s : zb} (hp : zL p) (E : EOk p nb s) (hk : k < 1000000) (A : AI k s) (j : Int) : AI (k + 1) (zn8 s j) ∧ zuS s (zn8 s j) := by
  unfold zn8
  split
  · -- the detector
    have up : ∀ s' : zb, s'.Epoch = s.Epoch + 1 → s'.Ms = s.Ms → s'.Acks = s.Acks → AI (k + 1) s' ∧ zuS s s' := fun s' e1 e2 e3 => by
      have := A.ep
      refine ⟨⟨by omega, fun i x hx => ?_⟩, fun i x hx => ?_⟩
      · rw [e2] at hx
        obtain ⟨b1, b2, b3⟩ := A.m i x hx
        rw [e3, e1]
        exact ⟨by omega, fun e => by have := b2 e; omega, b3⟩
      · rw [e2] at hx
        have := (A.m i x hx).1
        rw [e3, e1]
        exact ⟨Int.le_refl _, by omega, fun e => by omega⟩
    have he := A.ep
    unfold zl0
    split
    · exact A.same rfl rfl rfl
    split
    · exact A.same rfl rfl rfl
    split
    · split <;> exact A.same rfl rfl rfl
    split
    · exact up _ (Yc (by omega) (by omega)) rfl rfl
    split
    · split <;> exact A.same rfl rfl rfl
    split
    · split <;> exact A.same rfl rfl rfl
    split
    · split <;> exact A.same rfl rfl rfl
    split <;> exact A.same rfl rfl rfl
  split
  · rw [zm3 E]
    exact A.same rfl rfl rfl
  · generalize j - (s.Ws.length : Int) = m
    unfold z8
    split
    · exact A.same rfl rfl rfl
    rename_i hc
    cases hx : s.Ms[(m - 1).toNat]? with
    | none => exact A.same rfl rfl rfl
    | some x =>
      have hm : 1 ≤ m ∧ m ≤ (s.Ms.length : Int) := by
        constructor
        · exact Int.not_lt.1 (fun e => hc (.inr (.inl e)))
        · exact Int.not_lt.1 (fun e => hc (.inr (.inr e)))
      obtain ⟨b1, b2, b3, b4⟩ := zxM hp E A hm hx
      have hE : (zP s m x).1.Epoch = s.Epoch := by rw [zqE]
      have he := A.ep
      have hl := (List.getElem?_eq_some_iff.1 hx).1
      refine ⟨⟨by show 0 ≤ (zP s m x).1.Epoch ∧ _; rw [hE]; omega, fun i y hy => ?_⟩, fun i y hy => ?_⟩
      · show (zP s m x).1.Acks.getD i 0 ≤ (zP s m x).1.Epoch ∧ (_ → (zP s m x).1.Acks.getD i 0 ≤ y.Want ∧ y.Want ≤ (zP s m x).1.Epoch) ∧ _
        rw [hE]
        have hy : (s.Ms.set (m - 1).toNat (zP s m x).2)[i]? = some y := hy
        by_cases hi : i = (m - 1).toNat
        · subst hi
          rw [List.getElem?_set_self hl] at hy
          injection hy with hy
          subst hy
          exact ⟨b1.2.1, b3, b4⟩
        · rw [List.getElem?_set_ne (fun e => hi e.symm)] at hy
          rw [b2 i hi]
          exact A.m i y hy
      · show s.Acks.getD i 0 ≤ (zP s m x).1.Acks.getD i 0 ∧ (zP s m x).1.Acks.getD i 0 ≤ (zP s m x).1.Epoch ∧ _
        rw [hE]
        have hy : (s.Ms.set (m - 1).toNat (zP s m x).2)[i]? = some y := hy
        by_cases hi : i = (m - 1).toNat
        · subst hi
          rw [List.getElem?_set_self hl] at hy
          injection hy with hy
          subst hy
          exact b1
        · rw [List.getElem?_set_ne (fun e => hi e.symm)] at hy
          show _ ∧ _ ∧ (s.Acks.getD i 0 < (zP s m x).1.Acks.getD i 0 → _)
          rw [b2 i hi]
          exact ⟨Int.le_refl _, (A.m i y hy).1, fun e => by omega⟩
theorem zy6 (p : zd) : AI 0 (vw p) := by
  refine ⟨⟨Int.le_refl _, Int.le_refl _⟩, fun i x hx => ?_⟩
  have e : (vw p).Acks.getD i 0 = 0 := by
    show (List.replicate p.Mutators.toNat (0 : Int)).getD i 0 = 0
    rw [List.getD_eq_getElem?_getD, List.getElem?_replicate]; split <;> rfl
  have hx : (p.Regs.map wX)[i]? = some x := hx
  rw [List.getElem?_map] at hx
  cases hr : p.Regs[i]? with
  | none => rw [hr] at hx; cases hx
  | some r =>
    rw [hr] at hx
    injection hx with hx
    subst hx
    rw [e]
    refine ⟨Int.le_refl _, fun e => ?_, fun e => ?_⟩
    · simp [wX] at e
    · simp [wX] at e
end
end Go.Pe.G
namespace Go.Pe.G
open Go.Pe
noncomputable section
theorem zsr {v : Int} (h : 0 ≤ v ∧ v < 10) : zrd v = some (⟨#[UInt8.ofNat (48 + v.toNat)]⟩, ()) := by
  have e : (decide (0 ≤ v) && decide (v < 100)) = true := by simp; omega
  rw [zwb]; unfold zoJ
  rw [e, cond_true, Go.Lib.decDigits, dif_pos (by omega)]
theorem join_one (x : ByteArray) (hx : x.data.toList.length < 1000) (sep : ByteArray) : zuu [x] sep = some (x, ()) := by
  rw [zv6]; unfold zop
  simp only [List.map_cons, List.map_nil, Go.Lib.join_one, List.length_cons, List.length_nil]
  have e : (decide (0 + 1 ≤ 140737488355328) && decide (x.data.toList.length ≤ 140737488355328)) = true := by simp; simp at hx; omega
  rw [e, cond_true]
def ztB (a : ByteArray) (o : List Int) : ByteArray := a ++ (ByteArray.mk #[124] ++ ⟨#[UInt8.ofNat (48 + (o.getD 0 0).toNat)]⟩)
theorem zr4 {A B D : Type} {f : A → Option (yO A B D)} {x y : A} {b : B} (h1 : f x = some (.again y)) (h : f y = some (.brk b)) : yj f x = some (.brk b) := by
  rw [W8]
  show xS f (18446744073709551614 + 1 + 1) x = _
  rw [xS, h1, Option.bind_some]
  dsimp only
  rw [xS, h]; rfl
theorem zqM (objs : List (List Int)) (hv : ∀ o ∈ objs, ∃ v : Int, o = [v] ∧ 0 ≤ v ∧ v < 10) (hl : objs.length < 1000) : ∀ (k i : Nat) (a : ByteArray), objs.length - i = k → i ≤ objs.length → a.size + 2 * k ≤ 4000 → ∀ m, k < m →
    xS zcy m (a, objs, (objs.length : Int), (i : Int), ()) = some (.brk ((objs.drop i).foldl ztB a, ()))
  | 0, i, a, hk, hi, ha, m + 1, hm => by
    rw [xS, zeH, zo, if_neg (by omega), List.drop_eq_nil_of_le (by omega)]; rfl
  | k + 1, i, a, hk, hi, ha, m + 1, hm => by
    have hx := List.getElem?_eq_getElem (show i < objs.length by omega)
    obtain ⟨v, hvo, h0, h9⟩ := hv _ (List.getElem_mem (show i < objs.length by omega))
    rw [xS, zeH, zo, if_pos (by omega), xL hx, Option.bind_some, hvo]
    rw [zr4 (f := zcx) (y := (a, objs, (objs.length : Int), (i : Int), [v], (([v] : List Int).length : Int), 1, [⟨#[UInt8.ofNat (48 + v.toNat)]⟩], ()))
      (b := (a, objs, (objs.length : Int), (i : Int), [⟨#[UInt8.ofNat (48 + v.toNat)]⟩], ()))
      (by rw [zeI, zo, if_pos (by simp), vH (by decide)]
          simp only [Int.toNat_zero, List.getElem?_cons_zero, Option.bind_some, zsr ⟨h0, h9⟩, List.nil_append]
          rw [we (by simp), Option.bind_some, z3 (by decide) (by decide)]; rfl)
      (by rw [zeI, zo, if_neg (by simp)]), Option.bind_some]
    dsimp only
    rw [join_one _ (by simp), Option.bind_some]
    dsimp only
    have s1 : (ByteArray.mk #[124] ++ ⟨#[UInt8.ofNat (48 + v.toNat)]⟩ : ByteArray).size = 2 := by rw [ByteArray.size_append]; rfl
    have s0 : (ByteArray.mk #[124]).size + (⟨#[UInt8.ofNat (48 + v.toNat)]⟩ : ByteArray).size = 2 := rfl
    have s2 : (a ++ (ByteArray.mk #[124] ++ ⟨#[UInt8.ofNat (48 + v.toNat)]⟩) : ByteArray).size = a.size + 2 := by rw [ByteArray.size_append, s1]
    rw [zo, if_pos (by rw [s0]; omega), zo, if_pos (by rw [s1]; omega), yX (by omega), Option.bind_some]
    dsimp only
    rw [List.drop_eq_getElem_cons (show i < objs.length by omega), List.foldl_cons]
    rw [zqM objs hv hl k (i + 1) _ (by omega) (by omega) (by rw [s2]; omega) m (by omega), hvo]
    rfl
def ztx (h : zn) : Bool := decide (h.Slots = 1) && decide (h.Objs.length < 10) && h.Objs.all fun o => match o with
  | [v] => decide (0 ≤ v) && decide (v ≤ (h.Objs.length : Int))
  | _ => false
theorem zlj {h : zn} (hh : ztx h = true) : zad h = some (h.Objs.foldl ztB (ByteArray.mk #[49]), ()) := by
  simp only [ztx, Bool.and_eq_true, decide_eq_true_eq, List.all_eq_true] at hh
  obtain ⟨⟨h1, h2⟩, h3⟩ := hh
  have h4 : ∀ o ∈ h.Objs, ∃ v : Int, o = [v] ∧ 0 ≤ v ∧ v ≤ (h.Objs.length : Int) := fun o ho => by
    have := h3 o ho
    match o, this with
    | [v], this => simp at this; exact ⟨v, rfl, this⟩
  rw [zpm, zkp (by omega) (by omega) (fun o ho => by
    obtain ⟨v, rfl, hv⟩ := h4 o ho
    exact ⟨by rw [h1]; rfl, fun u hu => by simp at hu; subst hu; exact hv⟩), Option.bind_some]
  dsimp only
  rw [Bool.not_true, cond_false, h1, zsr (by decide), Option.bind_some]
  dsimp only
  have e := zqM h.Objs (fun o ho => by obtain ⟨v, a, b⟩ := h4 o ho; exact ⟨v, a, by omega⟩) (by omega) h.Objs.length 0 (ByteArray.mk #[49]) (by omega) (by omega) (by show 1 + _ ≤ _; omega) uJ (by unfold uJ; omega)
  rw [W8]
  refine (congrArg (fun o => Option.bind o _) e).trans rfl
end
end Go.Pe.G
namespace Go.Pe.G
open Go.Pe
noncomputable section
theorem zpC {o : Int} (h : 1 ≤ o ∧ o ≤ 64) (j : Nat) : (bit o).getLsbD j = decide ((o - 1).toNat = j) := by
  unfold bit
  rw [if_pos h, ← BitVec.twoPow_eq, BitVec.getLsbD_twoPow, decide_eq_true (by omega : (o - 1).toNat < 64), Bool.true_and]
theorem vr (s : BitVec 64) (o : Int) : yK s o = true ↔ 1 ≤ o ∧ o ≤ 64 ∧ s.getLsbD (o - 1).toNat = true := by
  unfold yK
  rw [Bool.not_eq_true', decide_eq_false_iff_not]
  by_cases h : 1 ≤ o ∧ o ≤ 64
  · constructor
    · intro h1
      refine ⟨h.1, h.2, Classical.byContradiction (fun h2 => h1 ?_)⟩
      apply BitVec.eq_of_getLsbD_eq
      intro j hj
      rw [BitVec.getLsbD_and, zpC h, BitVec.getLsbD_zero]
      by_cases e : (o - 1).toNat = j
      · rw [← e]; simp only [Bool.not_eq_true] at h2; rw [h2]; rfl
      · rw [decide_eq_false e, Bool.and_false]
    · rintro ⟨_, _, h1⟩ h2
      have := congrArg (fun v => BitVec.getLsbD v (o - 1).toNat) h2
      simp only [BitVec.getLsbD_and, zpC h, h1, BitVec.getLsbD_zero] at this
      simp at this
  · constructor
    · intro h1
      exact absurd (by unfold bit; rw [if_neg h, BitVec.and_zero]) h1
    · rintro ⟨a, b, _⟩; exact absurd ⟨a, b⟩ h
theorem zcS (s : BitVec 64) {o : Int} (h : 1 ≤ o ∧ o ≤ 64) (q : Int) : yK (s ||| bit o) q = true ↔ yK s q = true ∨ q = o := by
  rw [vr, vr, BitVec.getLsbD_or, zpC h]
  simp only [Bool.or_eq_true, decide_eq_true_eq]
  constructor
  · rintro ⟨a, b, c | c⟩
    · exact .inl ⟨a, b, c⟩
    · exact .inr (by omega)
  · rintro (⟨a, b, c⟩ | rfl)
    · exact ⟨a, b, .inl c⟩
    · exact ⟨h.1, h.2, .inr rfl⟩
theorem zke (s t : BitVec 64) (q : Int) : yK (s &&& t) q = true ↔ yK s q = true ∧ yK t q = true := by
  rw [vr, vr, vr, BitVec.getLsbD_and]
  simp only [Bool.and_eq_true]
  constructor
  · rintro ⟨a, b, c, d⟩; exact ⟨⟨a, b, c⟩, a, b, d⟩
  · rintro ⟨⟨a, b, c⟩, _, _, d⟩; exact ⟨a, b, c, d⟩
theorem zhk (q : Int) : ¬ yK 0#64 q = true := by
  rw [vr, BitVec.getLsbD_zero]; exact fun h => by cases h.2.2
theorem zxp {s t : BitVec 64} (h : ∀ o, yK s o = true ↔ yK t o = true) : s = t := by
  apply BitVec.eq_of_getLsbD_eq
  intro j hj
  have := h ((j : Int) + 1)
  rw [vr, vr, show ((j : Int) + 1 - 1).toNat = j by omega] at this
  rw [Bool.eq_iff_iff]
  exact ⟨fun e => (this.1 ⟨by omega, by omega, e⟩).2.2, fun e => (this.2 ⟨by omega, by omega, e⟩).2.2⟩
theorem zup {m : BitVec 64} {o : Int} (h : 1 ≤ o ∧ o ≤ 64) : ¬ (m ||| bit o = m) ↔ ¬ yK m o = true := by
  constructor
  · intro h1 h2
    refine h1 (zxp (fun q => ?_))
    rw [zcS _ h]
    exact ⟨fun e => e.elim id (fun e => by rw [e]; exact h2), .inl⟩
  · intro h1 h2
    refine h1 ?_
    rw [← h2, zcS _ h]; exact .inr rfl
theorem zy8 (t : zt) (o : Int) : zbI t o = 1 ↔ yK t.Marks o = true ∧ ¬ yK t.Black o = true := by
  unfold zbI
  by_cases h1 : yK (t.Marks &&& t.Black) o = true
  · rw [if_pos h1]
    rw [zke] at h1
    exact ⟨fun e => (by cases e), fun e => absurd h1.2 e.2⟩
  · rw [if_neg h1]
    rw [zke] at h1
    by_cases h2 : yK t.Marks o = true
    · rw [if_pos h2]; exact ⟨fun _ => ⟨h2, fun e => h1 ⟨h2, e⟩⟩, fun _ => rfl⟩
    · rw [if_neg h2]; exact ⟨fun e => (by cases e), fun e => absurd e.1 h2⟩
end
end Go.Pe.G
namespace Go.Pe.G
open Go.Pe
noncomputable section
theorem zwG : ∀ (t : Fin 512) (k : Fin 9), BitVec.ofNat 64 t.1 ||| bit ((k.1 : Int) + 1) = BitVec.ofNat 64 t.1 ∨ cnt (BitVec.ofNat 64 t.1 ||| bit ((k.1 : Int) + 1)) = cnt (BitVec.ofNat 64 t.1) + 1 := by decide +kernel
theorem zsy {s : BitVec 64} (h : ∀ o, yK s o = true → o ≤ 9) : ∃ t : Fin 512, s = BitVec.ofNat 64 t.1 := by
  have h2 : s = s &&& 511#64 := by
    apply BitVec.eq_of_getLsbD_eq
    intro j hj
    rw [BitVec.getLsbD_and]
    have h63 : (511#64).getLsbD j = decide (j < 9) := by
      have : ∀ j : Fin 64, (511#64).getLsbD j.1 = decide (j.1 < 9) := by decide
      exact this ⟨j, hj⟩
    rw [h63]
    cases hs : s.getLsbD j with
    | false => rfl
    | true =>
      have := h ((j : Int) + 1) ((vr _ _).2 ⟨by omega, by omega, by rw [show ((j : Int) + 1 - 1).toNat = j by omega]; exact hs⟩)
      rw [decide_eq_true (by omega : j < 9)]; rfl
  have h3 : s.toNat < 512 := by
    rw [h2, BitVec.toNat_and]
    exact Nat.lt_of_le_of_lt Nat.and_le_right (by decide)
  exact ⟨⟨s.toNat, h3⟩, by rw [BitVec.ofNat_toNat, BitVec.setWidth_eq]⟩
theorem zxP {s : BitVec 64} (h : ∀ o, yK s o = true → o ≤ 9) {o : Int} (ho : 1 ≤ o ∧ o ≤ 9) (hn : ¬ yK s o = true) : cnt (s ||| bit o) = cnt s + 1 := by
  obtain ⟨t, rfl⟩ := zsy h
  have := zwG t ⟨(o - 1).toNat, by omega⟩
  rw [show (((o - 1).toNat : Nat) : Int) + 1 = o by omega] at this
  rcases this with e | e
  · exact absurd e ((zup ⟨ho.1, by omega⟩).2 hn)
  · exact e
theorem zsF : ∀ (l : List Int) (s : BitVec 64) (q : Int), (∀ o ∈ l, 1 ≤ o ∧ o ≤ 64) → (yK (l.foldl (fun s o => s ||| bit o) s) q = true ↔ yK s q = true ∨ q ∈ l)
  | [], s, q, _ => by simp
  | a :: l, s, q, h => by
    rw [List.foldl_cons, zsF l _ q (fun o ho => h o (List.mem_cons_of_mem _ ho)), zcS _ (h a (by simp)), List.mem_cons, or_assoc]
theorem zrC : ∀ (l : List Int) (s : BitVec 64), (∀ o ∈ l, 1 ≤ o ∧ o ≤ 9) → (∀ o, yK s o = true → o ≤ 9) → l.Nodup → (∀ o ∈ l, ¬ yK s o = true) → cnt (l.foldl (fun s o => s ||| bit o) s) = cnt s + (l.length : Int)
  | [], s, _, _, _, _ => by simp
  | a :: l, s, h, hs, hd, hn => by
    have ha := h a (by simp)
    have hd := List.nodup_cons.1 hd
    have ha64 : 1 ≤ a ∧ a ≤ 64 := by omega
    rw [List.foldl_cons, zrC l _ (fun o ho => h o (List.mem_cons_of_mem _ ho)) (fun o ho => ?_) hd.2 (fun o ho e => ?_), zxP hs ha (hn a (by simp)), List.length_cons]
    · omega
    · rcases (zcS _ ha64 o).1 ho with e | e
      · exact hs o e
      · omega
    · rcases (zcS _ ha64 o).1 e with e | e
      · exact hn o (List.mem_cons_of_mem _ ho) e
      · exact hd.1 (e ▸ ho)
theorem zt1 : ∀ t : Fin 512, cnt (BitVec.ofNat 64 t.1) ≤ 9 := by decide +kernel
theorem zyH {s : BitVec 64} (h : ∀ o, yK s o = true → o ≤ 9) : cnt s ≤ 9 := by
  obtain ⟨t, rfl⟩ := zsy h
  exact zt1 t
theorem zv5 : cnt 0#64 = 0 := by decide +kernel
theorem zy0 {l : List Int} (h : ∀ o ∈ l, 1 ≤ o ∧ o ≤ 9) (hd : l.Nodup) : cnt (zdj l) = (l.length : Int) ∧ ∀ q, yK (zdj l) q = true ↔ q ∈ l := by
  refine ⟨?_, fun q => ?_⟩
  · unfold zdj
    rw [zrC l _ h (fun o e => absurd e (zhk o)) hd (fun o _ => zhk o), zv5, Int.zero_add]
  · unfold zdj
    rw [zsF l _ q (fun o ho => by have := h o ho; omega)]
    exact ⟨fun e => e.resolve_left (zhk q), .inr⟩
theorem zwt (s : BitVec 64) {q : Int} (h : 1 ≤ q ∧ q ≤ 64) : yK (~~~s) q = true ↔ ¬ yK s q = true := by
  rw [vr, vr, BitVec.getLsbD_not]
  simp only [show (q - 1).toNat < 64 by omega, decide_true, Bool.true_and, Bool.not_eq_true']
  constructor
  · rintro ⟨_, _, e⟩ ⟨_, _, e2⟩; rw [e] at e2; cases e2
  · intro e
    refine ⟨h.1, h.2, ?_⟩
    cases hs : s.getLsbD (q - 1).toNat with
    | false => rfl
    | true => exact absurd ⟨h.1, h.2, hs⟩ e
end
end Go.Pe.G
namespace Go.Pe.G
open Go.Pe
noncomputable section
inductive Reach (h : zn) (R : BitVec 64) : Int → Prop
  | root (o : Int) (h1 : yK R o = true) (h2 : 1 ≤ o ∧ o ≤ (h.Objs.length : Int)) : Reach h R o
  | step (o v : Int) (h1 : Reach h R o) (h2 : v ∈ zA h o) (h3 : 1 ≤ v ∧ v ≤ (h.Objs.length : Int)) : Reach h R v
theorem Reach.in {h : zn} {R : BitVec 64} {o : Int} (r : Reach h R o) : 1 ≤ o ∧ o ≤ (h.Objs.length : Int) := by
  cases r with
  | root _ _ h2 => exact h2
  | step _ _ _ _ h3 => exact h3
theorem zo3 : ∀ (n : Fin 10) (j : Fin 64), (wC (n.1 : Int)).getLsbD j.1 = decide (j.1 < n.1) := by decide +kernel
theorem zeV {n : Nat} (hn : n ≤ 9) (o : Int) : yK (wC (n : Int)) o = true ↔ 1 ≤ o ∧ o ≤ (n : Int) := by
  rw [vr]
  constructor
  · rintro ⟨a, b, c⟩
    have := zo3 ⟨n, by omega⟩ ⟨(o - 1).toNat, by omega⟩
    rw [this] at c
    have : (o - 1).toNat < n := by simpa using c
    omega
  · rintro ⟨a, b⟩
    have := zo3 ⟨n, by omega⟩ ⟨(o - 1).toNat, by omega⟩
    refine ⟨a, by omega, ?_⟩
    rw [this]
    exact decide_eq_true (by show (o - 1).toNat < n; omega)
theorem zuE : ∀ t : Fin 512, zjA 66 (BitVec.ofNat 64 t.1) = some (((List.range 9).filter fun i => (BitVec.ofNat 64 t.1).getLsbD i).map fun i : Nat => (i : Int) + 1) := by decide +kernel
def zjz (s : BitVec 64) : List Int := ((List.range 9).filter fun i => s.getLsbD i).map fun i : Nat => (i : Int) + 1
theorem zxs : ∀ t : Fin 512, Go.Lib.ctz 64 t.1 ≤ 64 := by decide +kernel
theorem zqf : ∀ (f : Nat) (s : BitVec 64), s.toNat < 512 → Wj f s = zjA f s
  | 0, _, _ => rfl
  | f + 1, s, h => by
    simp only [Wj, zjA]
    rw [zqf f _ (by rw [BitVec.toNat_and]; exact Nat.lt_of_le_of_lt Nat.and_le_left h)]
    have : Go.Lib.ctz 64 s.toNat ≤ 64 := zxs ⟨s.toNat, h⟩
    have e : w64 (tz s + 1) = ((Go.Lib.ctz 64 s.toNat : Nat) : Int) + 1 := by
      unfold tz
      exact z3 (by omega) (by omega)
    rw [e]
theorem zu2 (s : BitVec 64) (o : Int) : o ∈ zjz s ↔ 1 ≤ o ∧ o ≤ 9 ∧ yK s o = true := by
  unfold zjz
  rw [List.mem_map]
  constructor
  · rintro ⟨i, hi, rfl⟩
    obtain ⟨a, b⟩ := List.mem_filter.1 hi
    have a := List.mem_range.1 a
    exact ⟨by omega, by omega, (vr _ _).2 ⟨by omega, by omega, by rw [show ((i : Int) + 1 - 1).toNat = i by omega]; exact b⟩⟩
  · rintro ⟨a, b, c⟩
    obtain ⟨_, _, d⟩ := (vr _ _).1 c
    exact ⟨(o - 1).toNat, List.mem_filter.2 ⟨List.mem_range.2 (by omega), d⟩, by omega⟩
theorem zqj (s : BitVec 64) : (zjz s).length ≤ 9 := by
  unfold zjz
  rw [List.length_map]
  exact Nat.le_trans (List.length_filter_le _ _) (by simp)
theorem zve {s : BitVec 64} (h : ∀ o, yK s o = true → o ≤ 9) : zbS s = some (zjz s, ()) := by
  obtain ⟨t, rfl⟩ := zsy h
  have e : zgw (BitVec.ofNat 64 t.1) = some (zjz (BitVec.ofNat 64 t.1)) := by
    show Wj 66 _ = _
    rw [zqf 66 _ (by simp; omega), zuE t]; rfl
  have := zqj (BitVec.ofNat 64 t.1)
  rw [zko, zkr, Option.bind_some, e, Option.bind_some, zjS _ _ (by simp; omega)]
  rfl
theorem zlW {α : Type} {l : List α} {n : Nat} {i : Int} (h : 0 ≤ i) (h1 : i < l.length) (h2 : i < n) : zci l n i = some i.toNat := by
  unfold zci; simp [h, h1, h2]
def mt (met : List Int) (o : Int) : Int := met.getD (o - 1).toNat 0
def Y0 (met : List Int) : Nat := met.countP (fun x => decide (x = 0))
theorem zoK {met : List Int} {o : Int} (h : 1 ≤ o ∧ o ≤ (met.length : Int)) : met[(o - 1).toNat]? = some (mt met o) := by
  have e := List.getElem?_eq_getElem (show (o - 1).toNat < met.length by omega)
  unfold mt
  rw [List.getD_eq_getElem?_getD, e]; rfl
theorem zgR {met : List Int} {o q x : Int} (h : 1 ≤ o ∧ o ≤ (met.length : Int)) (hq : 1 ≤ q) : mt (met.set (o - 1).toNat x) q = if q = o then x else mt met q := by
  unfold mt
  rw [List.getD_eq_getElem?_getD, List.getD_eq_getElem?_getD, List.getElem?_set]
  by_cases e : q = o
  · subst e; rw [if_pos rfl, if_pos rfl, if_pos (by omega)]; rfl
  · rw [if_neg (by omega), if_neg e]
theorem zvG {met : List Int} {o x : Int} (h : 1 ≤ o ∧ o ≤ (met.length : Int)) (h0 : mt met o = 0) (hx : x ≠ 0) : Y0 (met.set (o - 1).toNat x) + 1 = Y0 met := by
  have hl : (o - 1).toNat < met.length := by omega
  have e : met[(o - 1).toNat]'hl = 0 := by
    have := zoK h
    rw [h0, List.getElem?_eq_getElem hl] at this
    exact Option.some.inj this
  have hm : (0 : Int) ∈ met := by rw [← e]; exact List.getElem_mem hl
  have hp : 0 < Y0 met := List.countP_pos_iff.2 ⟨0, hm, by simp⟩
  unfold Y0 at hp ⊢
  rw [List.countP_set hl, e]
  simp [hx]
  omega
structure RI (h : zn) (R : BitVec 64) (met wait : List Int) : Prop where
  len : met.length = 64
  val : ∀ o, 1 ≤ o → 0 ≤ mt met o ∧ mt met o ≤ 100 - (Y0 met : Int)
  rc : ∀ o, 1 ≤ o → 0 < mt met o → Reach h R o
  rt : ∀ o, yK R o = true → 1 ≤ o ∧ o ≤ (h.Objs.length : Int) → 0 < mt met o
  wt : ∀ o ∈ wait, (1 ≤ o ∧ o ≤ (h.Objs.length : Int)) ∧ 0 < mt met o
  cl : ∀ o, 1 ≤ o → 0 < mt met o → o ∉ wait → ∀ v ∈ zA h o, 1 ≤ v ∧ v ≤ (h.Objs.length : Int) → 0 < mt met v
  zl : Y0 met ≤ 64
theorem zwe (met : List Int) : Y0 met ≤ met.length := List.countP_le_length
theorem RI.add {h : zn} {R : BitVec 64} {met wait : List Int} {o v : Int} (hn : h.Objs.length ≤ 9) (I : RI h R met wait) (ho : o ∈ wait) (hv : v ∈ zA h o) (hr : 1 ≤ v ∧ v ≤ (h.Objs.length : Int)) (h0 : mt met v = 0) :
    RI h R (met.set (v - 1).toNat (mt met o + 1)) (wait ++ [v]) ∧ Y0 (met.set (v - 1).toNat (mt met o + 1)) + 1 = Y0 met := by
  obtain ⟨ho1, ho2⟩ := I.wt o ho
  have hlen := I.len
  have hvl : 1 ≤ v ∧ v ≤ (met.length : Int) := by omega
  have hz := zvG (x := mt met o + 1) hvl h0 (by omega)
  have hval := I.val o ho1.1
  have hzl := I.zl
  have key : ∀ q, 1 ≤ q → 0 < mt met q → 0 < mt (met.set (v - 1).toNat (mt met o + 1)) q := fun q hq hp => by
    rw [zgR hvl hq]; split <;> omega
  refine ⟨⟨by rw [List.length_set]; exact hlen, fun q hq => ?_, fun q hq hp => ?_, fun q a b => key q b.1 (I.rt q a b), fun q hq => ?_, fun q hq hp hw u hu hur => ?_, by omega⟩, hz⟩
  · have := I.val q hq
    rw [zgR hvl hq]; split <;> omega
  · rw [zgR hvl hq] at hp
    split at hp
    · rename_i e; subst e; exact .step o q (I.rc o ho1.1 ho2) hv hr
    · exact I.rc q hq hp
  · rcases List.mem_append.1 hq with hq | hq
    · exact ⟨(I.wt q hq).1, key q (I.wt q hq).1.1 (I.wt q hq).2⟩
    · simp at hq; subst hq
      refine ⟨hr, ?_⟩
      rw [zgR hvl hr.1, if_pos rfl]; omega
  · have hw1 : q ∉ wait := fun e => hw (List.mem_append_left _ e)
    have hw2 : q ≠ v := fun e => hw (by rw [e]; simp)
    rw [zgR hvl hq, if_neg hw2] at hp
    exact key u hur.1 (I.cl q hq hp hw1 u hu hur)
theorem RI.rm {h : zn} {R : BitVec 64} {met : List Int} {o : Int} {w : List Int} (I : RI h R met (o :: w)) (hd : ∀ v ∈ zA h o, 1 ≤ v ∧ v ≤ (h.Objs.length : Int) → 0 < mt met v) : RI h R met w :=
  ⟨I.len, I.val, I.rc, I.rt, fun q hq => I.wt q (List.mem_cons_of_mem _ hq), fun q hq hp hw v hv hr => by
    by_cases e : q = o
    · rw [e] at hv; exact hd v hv hr
    · exact I.cl q hq hp (fun h => (List.mem_cons.1 h).elim e hw) v hv hr, I.zl⟩
theorem zuN {h : zn} {R : BitVec 64} (hn : h.Objs.length ≤ 9) {o : Int} {w0 : List Int} {a7 : List Int} (hs : (zA h o).length < 1000000) : ∀ (n : Nat) (met added : List Int) (i : Nat), (zA h o).length - i = n → i ≤ (zA h o).length → RI h R met (o :: w0 ++ added) → (o :: w0 ++ added).length + Y0 met ≤ 200 →
    (∀ v ∈ (zA h o).take i, 1 ≤ v ∧ v ≤ (h.Objs.length : Int) → 0 < mt met v) → ∀ m, n < m →
    ∃ met' added', xS wF m (wC (h.Objs.length : Int), o, zA h o, ((zA h o).length : Int), (i : Int), h, a7, met, o :: w0 ++ added, ()) = some (.brk (wC (h.Objs.length : Int), h, a7, met', o :: w0 ++ added', ())) ∧
      RI h R met' (o :: w0 ++ added') ∧ (o :: w0 ++ added').length + Y0 met' = (o :: w0 ++ added).length + Y0 met ∧ Y0 met' ≤ Y0 met ∧ (∀ v ∈ zA h o, 1 ≤ v ∧ v ≤ (h.Objs.length : Int) → 0 < mt met' v) := by
  intro n
  induction n with
  | zero =>
    intro met added i hk hi I hz hd m hm
    obtain ⟨m, rfl⟩ : ∃ x, m = x + 1 := ⟨m - 1, by omega⟩
    have e : i = (zA h o).length := by omega
    subst e
    rw [List.take_length] at hd
    refine ⟨met, added, ?_, I, rfl, Nat.le_refl _, hd⟩
    rw [xS, ZM, zo, if_neg (by omega)]; rfl
  | succ n ih =>
    intro met added i hk hi I hz hd m hm
    obtain ⟨m, rfl⟩ : ∃ x, m = x + 1 := ⟨m - 1, by omega⟩
    have hx := List.getElem?_eq_getElem (show i < (zA h o).length by omega)
    generalize hxv : (zA h o)[i]'(by omega) = v at hx
    have hv : v ∈ zA h o := List.mem_of_getElem? hx
    have hlen := I.len
    have ho := I.wt o (by simp)
    have hval := I.val o ho.1.1
    have htk : (zA h o).take (i + 1) = (zA h o).take i ++ [v] := by rw [List.take_add_one, hx]; rfl
    rw [xS, ZM, zo, if_pos (by omega), xL hx, Option.bind_some, zje, Option.bind_some]
    have hb := zeV hn v
    unfold yK at hb
    by_cases hr : 1 ≤ v ∧ v ≤ (h.Objs.length : Int)
    · have hb1 := hb.2 hr
      dsimp only
      rw [hb1, cond_true, z3 (a := v - 1) (by omega) (by omega), zlW (by omega) (by omega) (by omega), Option.bind_some, zoK (by omega), Option.bind_some, zo]
      by_cases h0 : mt met v = 0
      · rw [if_pos h0, z3 (a := o - 1) (by omega) (by omega), zlW (by omega) (by omega) (by omega), Option.bind_some, zoK (by omega), Option.bind_some, Option.bind_some, we (by rw [List.length_append]; show _ + 1 < _; omega), Option.bind_some, z3 (a := (i : Int) + 1) (by omega) (by omega), z3 (a := mt met o + 1) (by omega) (by omega), Option.bind_some]
        obtain ⟨I', hz'⟩ := I.add hn (by simp) hv hr h0
        dsimp only
        rw [List.append_assoc] at I' ⊢
        have hz2 : (o :: w0 ++ (added ++ [v])).length = (o :: w0 ++ added).length + 1 := by simp; omega
        obtain ⟨met', added', e1, e2, e3, e4, e5⟩ := ih (met.set (v - 1).toNat (mt met o + 1)) (added ++ [v]) (i + 1) (by omega) (by omega) I' (by omega) (fun q hq hqr => by
          rw [zgR (by omega) hqr.1]
          split
          · omega
          · rename_i hne
            rw [htk] at hq
            rcases List.mem_append.1 hq with hq | hq
            · exact hd q hq hqr
            · simp at hq; exact absurd hq hne) m (by omega)
        refine ⟨met', added', ?_, e2, by omega, by omega, e5⟩
        have : ((i + 1 : Nat) : Int) = (i : Int) + 1 := by omega
        rw [← this]
        exact e1
      · rw [if_neg h0, z3 (a := (i : Int) + 1) (by omega) (by omega), Option.bind_some]
        have hp : 0 < mt met v := by have := I.val v hr.1; omega
        obtain ⟨met', added', e1, e2⟩ := ih met added (i + 1) (by omega) (by omega) I hz (fun q hq hqr => by
          rw [htk] at hq
          rcases List.mem_append.1 hq with hq | hq
          · exact hd q hq hqr
          · simp at hq; rw [hq]; exact hp) m (by omega)
        refine ⟨met', added', ?_, e2⟩
        have : ((i + 1 : Nat) : Int) = (i : Int) + 1 := by omega
        rw [← this]
        exact e1
    · have hb1 : (!(decide (wC (h.Objs.length : Int) &&& bit v = 0#64))) = false := by
        cases hc : (!(decide (wC (h.Objs.length : Int) &&& bit v = 0#64))) with
        | false => rfl
        | true => exact absurd (hb.1 hc) hr
      dsimp only
      rw [hb1, cond_false, z3 (a := (i : Int) + 1) (by omega) (by omega), Option.bind_some]
      obtain ⟨met', added', e1, e2⟩ := ih met added (i + 1) (by omega) (by omega) I hz (fun q hq hqr => by
        rw [htk] at hq
        rcases List.mem_append.1 hq with hq | hq
        · exact hd q hq hqr
        · simp at hq; rw [hq] at hqr; exact absurd hqr hr) m (by omega)
      refine ⟨met', added', ?_, e2⟩
      have : ((i + 1 : Nat) : Int) = (i : Int) + 1 := by omega
      rw [← this]
      exact e1
theorem znw {A B D : Type} {f : A → Option (yO A B D)} {x : A} {b : B} {n : Nat} (h : xS f n x = some (.brk b)) (hn : n ≤ uJ) : yj f x = some (.brk b) := by
  rw [W8]
  have key : ∀ (n m : Nat) (x : A), xS f n x = some (.brk b) → n ≤ m → xS f m x = some (.brk b) := by
    intro n
    induction n with
    | zero => intro m x h; cases h
    | succ n ih =>
      intro m x h hm
      obtain ⟨m, rfl⟩ : ∃ q, m = q + 1 := ⟨m - 1, by omega⟩
      simp only [xS, Option.bind_eq_some_iff] at h ⊢
      obtain ⟨s, h1, h2⟩ := h
      refine ⟨s, h1, ?_⟩
      cases s with
      | again y => exact ih m y h2 (by omega)
      | brk b' => exact h2
      | ret c => exact h2
  exact key n uJ x h hn
theorem zwn {h : zn} {R : BitVec 64} (hn : h.Objs.length ≤ 9) (hs : ∀ o, (zA h o).length < 1000000) {a7 : List Int} : ∀ (n : Nat) (met wait : List Int), wait.length + 2 * Y0 met ≤ n → wait.length + Y0 met ≤ 200 → RI h R met wait → ∀ m, n < m →
    ∃ met', xS uz m (wC (h.Objs.length : Int), h, a7, met, wait, ()) = some (.brk (a7, met', ())) ∧ RI h R met' [] := by
  intro n
  induction n with
  | zero =>
    intro met wait hz hz2 I m hm
    obtain ⟨m, rfl⟩ : ∃ x, m = x + 1 := ⟨m - 1, by omega⟩
    have : wait = [] := List.eq_nil_of_length_eq_zero (by omega)
    subst this
    refine ⟨met, ?_, I⟩
    rw [xS, vN, zo, if_neg (by simp)]; rfl
  | succ n ih =>
    intro met wait hz hz2 I m hm
    obtain ⟨m, rfl⟩ : ∃ x, m = x + 1 := ⟨m - 1, by omega⟩
    cases wait with
    | nil =>
      refine ⟨met, ?_, I⟩
      rw [xS, vN, zo, if_neg (by simp)]; rfl
    | cons o w =>
      have ho := (I.wt o (by simp)).1
      have hso := hs o
      have eo := List.getElem?_eq_getElem (show (o - 1).toNat < h.Objs.length by omega)
      have es : h.Objs[(o - 1).toNat]'(by omega) = zA h o := by unfold zA; rw [List.getD_eq_getElem?_getD, eo]; rfl
      obtain ⟨met', added', e1, e2, e3, e4, e5⟩ := zuN (a7 := a7) hn (o := o) (w0 := w) hso _ met [] 0 rfl (Nat.zero_le _) (by simpa using I) (by simpa using hz2) (fun v hv => by simp at hv) ((zA h o).length + 1) (by omega)
      simp only [List.append_nil, Int.natCast_zero] at e1 e3
      have e1 : xS wF ((zA h o).length + 1) (wC (h.Objs.length : Int), o, zA h o, ((zA h o).length : Int), 0, h, a7, met, o :: w, ()) = some (.brk (wC (h.Objs.length : Int), h, a7, met', o :: w ++ added', ())) := e1
      have hidx : xE (o :: w) 0 = some 0 := by rw [uh (by omega) (by simp)]; rfl
      rw [xS, vN, zo, if_pos (by simp), hidx, Option.bind_some]
      simp only [List.getElem?_cons_zero, Option.bind_some, zmh, Bool.not_true, cond_false]
      rw [z3 (a := o - 1) (by omega) (by omega), vH (by omega), eo, Option.bind_some, es, znw e1 (by have : uJ = 18446744073709551616 := rfl; omega)]
      dsimp only [Option.bind_some]
      rw [List.cons_append, zsb, Option.bind_some, Option.bind_some]
      dsimp only
      rw [List.cons_append] at e2
      exact ih met' (w ++ added') (by simp at e3 hz ⊢; omega) (by simp at e3 hz2 ⊢; omega) (e2.rm e5) m (by omega)
theorem zw7 (o : Int) : mt (List.replicate 64 (0 : Int)) o = 0 := by
  unfold mt
  rw [List.getD_eq_getElem?_getD, List.getElem?_replicate]; split <;> rfl
theorem zuT {h : zn} {a1 : BitVec 64} {a5 : List Int} : ∀ (n i : Nat) (l met : List Int), l.length - i = n → i ≤ l.length → l.length < 1000000 → (∀ o ∈ l, 1 ≤ o ∧ o ≤ 9) → met.length = 64 → (∀ o, 1 ≤ o → mt met o = if o ∈ l.take i then 1 else 0) → ∀ m, n < m →
    ∃ met', xS uy m (a1, (l.length : Int), (i : Int), h, a5, met, l, ()) = some (.brk (a1, h, a5, met', l, ())) ∧ met'.length = 64 ∧ ∀ o, 1 ≤ o → mt met' o = if o ∈ l then 1 else 0 := by
  intro n
  induction n with
  | zero =>
    intro i l met hk hi hl hr hm ht m hm2
    obtain ⟨m, rfl⟩ : ∃ x, m = x + 1 := ⟨m - 1, by omega⟩
    have e : i = l.length := by omega
    subst e
    rw [List.take_length] at ht
    refine ⟨met, ?_, hm, ht⟩
    rw [xS, Z2, zo, if_neg (by omega)]; rfl
  | succ n ih =>
    intro i l met hk hi hl hr hm ht m hm2
    obtain ⟨m, rfl⟩ : ∃ x, m = x + 1 := ⟨m - 1, by omega⟩
    have hx := List.getElem?_eq_getElem (show i < l.length by omega)
    generalize hxv : l[i]'(by omega) = v at hx
    have hv := hr v (List.mem_of_getElem? hx)
    have htk : l.take (i + 1) = l.take i ++ [v] := by rw [List.take_add_one, hx]; rfl
    rw [xS, Z2, zo, if_pos (by omega), uh (by omega) (by omega), Option.bind_some, Int.toNat_natCast, hx, Option.bind_some, z3 (a := v - 1) (by omega) (by omega), zlW (by omega) (by omega) (by omega), Option.bind_some, z3 (a := (i : Int) + 1) (by omega) (by omega), Option.bind_some]
    obtain ⟨met', e1, e2⟩ := ih (i + 1) l (met.set (v - 1).toNat 1) (by omega) (by omega) hl hr (by rw [List.length_set]; exact hm) (fun o ho => by
      rw [zgR (by omega) ho, ht o ho, htk]
      by_cases e : o = v
      · rw [if_pos e, if_pos (by rw [e]; simp)]
      · rw [if_neg e]
        by_cases e2 : o ∈ l.take i
        · rw [if_pos e2, if_pos (List.mem_append_left _ e2)]
        · rw [if_neg e2, if_neg (fun h => (List.mem_append.1 h).elim e2 (fun h => e (by simpa using h)))]) m (by omega)
    refine ⟨met', ?_, e2⟩
    have : ((i + 1 : Nat) : Int) = (i : Int) + 1 := by omega
    rw [← this]
    exact e1
theorem ztu {met : List Int} (hl : met.length = 64) : ∃ S, zaG met = some (S, ()) ∧ ∀ o, yK S o = true ↔ 1 ≤ o ∧ 0 < mt met o := by
  rw [zkE, zo, if_pos hl]
  have key := ue (f := VL) (fun a => ∃ (i : Nat) (S : BitVec 64), i ≤ 64 ∧ a = (S, met, (i : Int), ()) ∧ ∀ o, yK S o = true ↔ (1 ≤ o ∧ o ≤ (i : Int)) ∧ 0 < mt met o) (fun a => 64 - a.2.2.1.toNat) (fun o => ∃ S, o = .brk (S, ()) ∧ ∀ o, yK S o = true ↔ 1 ≤ o ∧ 0 < mt met o) (by
    rintro _ ⟨i, S, hi, rfl, hS⟩
    rw [zh8, zo]
    by_cases c : (i : Int) < 64
    · have hx := zoK (met := met) (o := (i : Int) + 1) (by omega)
      rw [show ((i : Int) + 1 - 1).toNat = i by omega] at hx
      rw [if_pos c, zlW (by omega) (by omega) c, Option.bind_some, Int.toNat_natCast, hx, Option.bind_some, zo, z3 (a := (i : Int) + 1) (by omega) (by omega), ziI, Option.bind_some]
      by_cases hp : 0 < mt met ((i : Int) + 1)
      · rw [if_pos hp]
        refine ⟨_, rfl, ⟨i + 1, _, by omega, rfl, fun o => ?_⟩, ?_⟩
        · dsimp only
          rw [zcS _ (by omega), hS o]
          constructor
          · rintro (⟨a, b⟩ | rfl)
            · exact ⟨by omega, b⟩
            · exact ⟨by omega, hp⟩
          · rintro ⟨a, b⟩
            by_cases e : o = (i : Int) + 1
            · exact .inr e
            · exact .inl ⟨by omega, b⟩
        · show 64 - ((i : Int) + 1).toNat < 64 - (i : Int).toNat
          omega
      · rw [if_neg hp]
        refine ⟨_, rfl, ⟨i + 1, S, by omega, rfl, fun o => ?_⟩, ?_⟩
        · rw [hS o]
          constructor
          · rintro ⟨a, b⟩; exact ⟨by omega, b⟩
          · rintro ⟨a, b⟩
            by_cases e : o = (i : Int) + 1
            · rw [e] at b; exact absurd b hp
            · exact ⟨by omega, b⟩
        · show 64 - ((i : Int) + 1).toNat < 64 - (i : Int).toNat
          omega
    · rw [if_neg c]
      refine ⟨_, rfl, S, rfl, fun o => ?_⟩
      rw [hS o]
      have hi : i = 64 := by omega
      subst hi
      constructor
      · rintro ⟨a, b⟩; exact ⟨a.1, b⟩
      · rintro ⟨a, b⟩
        refine ⟨⟨a, ?_⟩, b⟩
        by_cases h : 64 < o
        · exfalso
          unfold mt at b
          rw [List.getD_eq_getElem?_getD, List.getElem?_eq_none (by omega)] at b
          exact absurd b (by show ¬ (0 : Int) < 0; decide)
        · show o ≤ 64; omega) (0#64, met, 0, ()) ⟨0, 0#64, by omega, rfl, fun o => ⟨fun e => absurd e (zhk o), fun e => by have := e.1; omega⟩⟩ (by show 64 - 0 < 18446744073709551616; decide)
  obtain ⟨o, e, S, rfl, hS⟩ := key
  refine ⟨S, ?_, hS⟩
  exact congrArg (fun o => Option.bind o _) e
theorem zrS {h : zn} (hn : h.Objs.length ≤ 9) (hs : ∀ l ∈ h.Objs, l.length < 1000000) (R : BitVec 64) : ∃ S, Uc h R = some (S, ()) ∧ ∀ o, yK S o = true ↔ Reach h R o := by
  have hso : ∀ o, (zA h o).length < 1000000 := fun o => by
    unfold zA
    rw [List.getD_eq_getElem?_getD]
    cases hx : h.Objs[(o - 1).toNat]? with
    | none => show ([] : List Int).length < _; simp
    | some l => exact hs l (List.mem_of_getElem? hx)
  have hF := fun o => zeV hn o
  have hA : ∀ o, yK (R &&& wC (h.Objs.length : Int)) o = true ↔ yK R o = true ∧ 1 ≤ o ∧ o ≤ (h.Objs.length : Int) := fun o => by rw [zke, hF]
  have h9 : ∀ o, yK (R &&& wC (h.Objs.length : Int)) o = true → o ≤ 9 := fun o e => by have := (hA o).1 e; omega
  have hw := zu2 (R &&& wC (h.Objs.length : Int))
  have hwl := zqj (R &&& wC (h.Objs.length : Int))
  generalize hwd : zjz (R &&& wC (h.Objs.length : Int)) = wait at hw hwl
  obtain ⟨met, e1, m1, m2⟩ := zuT (h := h) (a1 := wC (h.Objs.length : Int)) (a5 := List.replicate 64 (0 : Int)) wait.length 0 wait (List.replicate 64 (0 : Int)) rfl (Nat.zero_le _) (by omega) (fun o ho => by have := (hw o).1 ho; omega) (by simp) (fun o _ => by rw [zw7]; simp) (wait.length + 1) (by omega)
  have hz := zwe met
  have I : RI h R met wait := by
    refine ⟨m1, fun o ho => ?_, fun o ho hp => ?_, fun o ho hr => ?_, fun o ho => ?_, fun o ho hp hno => ?_, by omega⟩
    · rw [m2 o ho]; split <;> omega
    · rw [m2 o ho] at hp
      split at hp
      · rename_i hm
        have a := (hA o).1 ((hw o).1 hm).2.2
        exact .root o a.1 a.2
      · omega
    · rw [m2 o hr.1, if_pos ((hw o).2 ⟨hr.1, by omega, (hA o).2 ⟨ho, hr⟩⟩)]; decide
    · have a := (hA o).1 ((hw o).1 ho).2.2
      refine ⟨a.2, ?_⟩
      rw [m2 o a.2.1, if_pos ho]; decide
    · rw [m2 o ho, if_neg hno] at hp; omega
  obtain ⟨met', e2, I'⟩ := zwn (a7 := List.replicate 64 (0 : Int)) hn hso (wait.length + 2 * Y0 met) met wait (Nat.le_refl _) (by omega) I (wait.length + 2 * Y0 met + 1) (by omega)
  obtain ⟨S, e3, hS⟩ := ztu I'.len
  refine ⟨S, ?_, fun o => ?_⟩
  · have hrd : uJ = 18446744073709551616 := rfl
    have ew : Zn h R = some (met', ()) := by
      rw [za3, zhv _ (by omega), Option.bind_some, zve h9, Option.bind_some, hwd]
      refine (congrArg (fun o => Option.bind o _) (znw e1 (by omega))).trans ?_
      rw [Option.bind_some]
      dsimp only
      refine (congrArg (fun o => Option.bind o _) (znw e2 (by omega))).trans ?_
      rw [Option.bind_some]
      dsimp only
      rw [zo, zo, zo, if_pos I'.len, if_pos (by simp), if_pos I'.len]
    rw [zok, ew, Option.bind_some, e3]; rfl
  · rw [hS o]
    constructor
    · rintro ⟨a, b⟩; exact I'.rc o a b
    · intro r
      induction r with
      | root o h1 h2 => exact ⟨h2.1, I'.rt o h1 h2⟩
      | step o v _ h2 h3 ih => exact ⟨h3.1, I'.cl o ih.1 ih.2 (by simp) v h2 h3⟩
def zou (h : zn) (R : BitVec 64) : BitVec 64 := match Uc h R with | some x => x.1 | none => 0#64
theorem zuo {h : zn} (hn : h.Objs.length ≤ 9) (hs : ∀ l ∈ h.Objs, l.length < 1000000) (R : BitVec 64) : Uc h R = some (zou h R, ()) := by
  obtain ⟨S, e, _⟩ := zrS hn hs R
  unfold zou
  rw [e]
theorem zvO {h : zn} (hn : h.Objs.length ≤ 9) (hs : ∀ l ∈ h.Objs, l.length < 1000000) (R : BitVec 64) (o : Int) : yK (zou h R) o = true ↔ Reach h R o := by
  obtain ⟨S, e, h2⟩ := zrS hn hs R
  unfold zou
  rw [e]
  exact h2 o
end
end Go.Pe.G
namespace Go.Pe.G
open Go.Pe
noncomputable section
def zoC (p : zd) : BitVec 64 := zou p.H (Yt p)
theorem zL.heap9 {p : zd} (h : zL p) : p.H.Objs.length ≤ 9 ∧ ∀ l ∈ p.H.Objs, l.length < 1000000 := by
  have := h.n
  have := h.slots
  exact ⟨by omega, fun l hl => by have := (h.objs l hl).1; omega⟩
theorem zvL {p : zd} (h : zL p) : zit p = some (zoC p, ()) := by
  have hr := h.regs
  have hm := h.mt
  rw [zpy, zo9 (by omega) (fun r hr => by have := (h.reg r hr).1; omega), Option.bind_some, zuo h.heap9.1 h.heap9.2]; rfl
theorem zjW {p : zd} (h : zL p) (o : Int) : yK (zoC p) o = true ↔ Reach p.H (Yt p) o := zvO h.heap9.1 h.heap9.2 _ o
theorem zyY {h : zn} (hv : ∀ l ∈ h.Objs, ∀ v ∈ l, 0 ≤ v ∧ v ≤ (h.Objs.length : Int)) {o i : Int} (hne : uX h o i ≠ 0) : uX h o i ∈ zA h o ∧ 1 ≤ uX h o i ∧ uX h o i ≤ (h.Objs.length : Int) := by
  unfold uX at hne ⊢
  split
  · rename_i hs
    rw [if_pos hs] at hne
    unfold Yw at hs
    simp only [Bool.and_eq_true, decide_eq_true_eq] at hs
    obtain ⟨⟨⟨h1, h2⟩, h3⟩, h4⟩ := hs
    have eo := List.getElem?_eq_getElem (show (o - 1).toNat < h.Objs.length by omega)
    have es : zA h o = h.Objs[(o - 1).toNat]'(by omega) := by unfold zA; rw [List.getD_eq_getElem?_getD, eo]; rfl
    have ei := List.getElem?_eq_getElem (show i.toNat < (zA h o).length by omega)
    have eg : (zA h o).getD i.toNat 0 = (zA h o)[i.toNat]'(by omega) := by rw [List.getD_eq_getElem?_getD, ei]; rfl
    rw [eg] at hne ⊢
    have hm : (zA h o)[i.toNat]'(by omega) ∈ zA h o := List.getElem_mem _
    have := hv _ (by rw [es]; exact List.getElem_mem _) _ hm
    exact ⟨hm, by omega, this.2⟩
  · rename_i hs; rw [if_neg hs] at hne; exact absurd rfl hne
end
end Go.Pe.G
namespace Go.Pe.G
open Go.Pe
noncomputable section
theorem znj (a b : BitVec 64) (q : Int) : yK (a ||| b) q = true ↔ yK a q = true ∨ yK b q = true := by
  rw [vr, vr, vr, BitVec.getLsbD_or, Bool.or_eq_true]
  constructor
  · rintro ⟨h1, h2, h | h⟩
    · exact .inl ⟨h1, h2, h⟩
    · exact .inr ⟨h1, h2, h⟩
  · rintro (⟨h1, h2, h⟩ | ⟨h1, h2, h⟩)
    · exact ⟨h1, h2, .inl h⟩
    · exact ⟨h1, h2, .inr h⟩
theorem zxC {l : List Int} {v : Int} (hv : 1 ≤ v ∧ v ≤ 64) : ∀ (a : BitVec 64), yK a v = true ∨ v ∈ l → yK (l.foldl (fun s o => s ||| bit o) a) v = true := by
  induction l with
  | nil => rintro a (h | h); exact h; cases h
  | cons x l ih =>
    rintro a h
    refine ih _ ?_
    rw [znj]
    rcases h with h | h
    · exact .inl (.inl h)
    · rcases List.mem_cons.1 h with rfl | h
      · exact .inl (.inr ((zcS 0#64 hv v).2 (.inr rfl) |> fun h => by simpa using h))
      · exact .inr h
theorem zqw {v : Int} (hv : 1 ≤ v ∧ v ≤ 64) : ∀ (L : List (List Int)) (a : BitVec 64), (yK a v = true ∨ ∃ r ∈ L, v ∈ r) → yK (L.foldl (fun s l => s ||| zdj l) a) v = true
  | [], a, h => by
    rcases h with h | ⟨r, h, _⟩
    · exact h
    · cases h
  | r :: L, a, h => by
    refine zqw hv L _ ?_
    rw [znj]
    rcases h with h | ⟨q, h, hq⟩
    · exact .inl (.inl h)
    · rcases List.mem_cons.1 h with rfl | h
      · exact .inl (.inr (zxC hv _ (.inr hq)))
      · exact .inr ⟨q, h, hq⟩
def LvH (p : zd) (h : zn) (o : Int) : Prop := yK (zoC p) o = true ∨ ((p.H.Objs.length : Int) < o ∧ o ≤ (h.Objs.length : Int))
def Vt (p : zd) (h : zn) : Prop := ∀ o v, LvH p h o → v ∈ zA h o → v = 0 ∨ LvH p h v
def Xq (p : zd) (h : zn) (r : List Int) : Prop := ∀ v ∈ r, v = 0 ∨ LvH p h v
theorem LvH.mono {p : zd} {h h' : zn} (hl : h.Objs.length ≤ h'.Objs.length) {o : Int} (L : LvH p h o) : LvH p h' o := by
  rcases L with L | L
  · exact .inl L
  · exact .inr (by omega)
theorem LvH.in {p : zd} (hp : zL p) {h : zn} (hn : (p.H.Objs.length : Int) ≤ (h.Objs.length : Int)) {o : Int} (L : LvH p h o) : 1 ≤ o ∧ o ≤ (h.Objs.length : Int) := by
  rcases L with L | L
  · have := ((zjW hp o).1 L).in
    omega
  · omega
theorem Xq.mono {p : zd} {h h' : zn} (hl : h.Objs.length ≤ h'.Objs.length) {r : List Int} (R : Xq p h r) : Xq p h' r := fun v hv => (R v hv).imp id (fun L => L.mono hl)
theorem Xq.set {p : zd} {h : zn} {r : List Int} (R : Xq p h r) {v : Int} (hv : v = 0 ∨ LvH p h v) (i : Nat) : Xq p h (r.set i v) := fun u hu => by
  rcases List.mem_or_eq_of_mem_set hu with h | rfl
  · exact R u h
  · exact hv
theorem Xq.reg {p : zd} {h : zn} {x : zc} (R : Xq p h x.Regs) (r : Int) : zaD x r = 0 ∨ LvH p h (zaD x r) := by
  unfold zaD
  rw [List.getD_eq_getElem?_getD]
  cases hx : x.Regs[r.toNat]? with
  | none => exact .inl rfl
  | some v => exact R v (List.mem_of_getElem? hx)
theorem zuO {p : zd} {h : zn} (C : Vt p h) {a : Int} (ha : a = 0 ∨ LvH p h a) (i : Int) : uX h a i = 0 ∨ LvH p h (uX h a i) := by
  unfold uX
  split
  · rename_i hs
    simp only [Yw, Bool.and_eq_true, decide_eq_true_eq] at hs
    have L : LvH p h a := ha.resolve_left (by omega)
    rw [List.getD_eq_getElem?_getD]
    cases hx : (zA h a)[i.toNat]? with
    | none => exact .inl rfl
    | some v => exact C a v L (List.mem_of_getElem? hx)
  · exact .inl rfl
theorem zaW (h : zn) (a i v : Int) : (Vu h a i v).Objs.length = h.Objs.length := by
  unfold Vu; split <;> simp
theorem zuC {p : zd} {h : zn} (C : Vt p h) {a i v : Int} (hv : v = 0 ∨ LvH p h v) : Vt p (Vu h a i v) := by
  intro o w L hw
  have hl := zaW h a i v
  have L' : LvH p h o := L.mono (by omega)
  have up : ∀ {u : Int}, (u = 0 ∨ LvH p h u) → (u = 0 ∨ LvH p (Vu h a i v) u) := fun hu => hu.imp id (fun L => L.mono (by omega))
  unfold Vu at hw
  split at hw
  · rename_i hs
    obtain ⟨hs, _⟩ := hs
    simp only [Yw, Bool.and_eq_true, decide_eq_true_eq] at hs
    have hw : w ∈ (h.Objs.set (a - 1).toNat ((zA h a).set i.toNat v)).getD (o - 1).toNat [] := hw
    rw [znf (by omega)] at hw
    split at hw
    · rename_i e
      have es : zA h a = zA h o := by unfold zA; rw [e]
      rcases List.mem_or_eq_of_mem_set hw with h1 | rfl
      · exact up (C o w L' (es ▸ h1))
      · exact up hv
    · exact up (C o w L' hw)
  · exact up (C o w L' hw)
theorem zqA (h : zn) : (Ww h).Objs.length = h.Objs.length + 1 := by unfold Ww; simp
theorem zro {p : zd} (hp : zL p) {h : zn} (hn : (p.H.Objs.length : Int) ≤ (h.Objs.length : Int)) (C : Vt p h) : Vt p (Ww h) := by
  intro o w L hw
  have hl := zqA h
  have hin := L.in hp (by omega)
  by_cases ho : o ≤ (h.Objs.length : Int)
  · have L' : LvH p h o := by
      rcases L with L | L
      · exact .inl L
      · exact .inr (by omega)
    have e : zA (Ww h) o = zA h o := by
      unfold zA Ww
      rw [List.getD_eq_getElem?_getD, List.getD_eq_getElem?_getD, List.getElem?_append_left (by omega)]
    rw [e] at hw
    exact (C o w L' hw).imp id (fun L => L.mono (by omega))
  · have e : zA (Ww h) o = List.replicate h.Slots.toNat 0 := by
      unfold zA Ww
      rw [List.getD_eq_getElem?_getD, List.getElem?_append_right (by omega), show (o - 1).toNat - h.Objs.length = 0 by omega]
      rfl
    rw [e] at hw
    exact .inl (List.eq_of_mem_replicate hw)
structure RgI (p : zd) (s : zb) : Prop where
  hp : Vt p s.H
  rg : ∀ x ∈ s.Ms, Xq p s.H x.Regs
theorem zx3 {p : zd} (hp : zL p) {s : zb} {m : Int} {x : zc} (hn : HOk p s.H) (C : Vt p s.H) (R : Xq p s.H x.Regs) :
    Vt p (zP s m x).1.H ∧ Xq p (zP s m x).1.H (zP s m x).2.Regs ∧ s.H.Objs.length ≤ (zP s m x).1.H.Objs.length := by
  have hN := hn.n
  have hM := hp.most
  have hn6 := hp.n
  have same : ∀ {t : zb} {y : zc}, t.H = s.H → y.Regs = x.Regs → Vt p t.H ∧ Xq p t.H y.Regs ∧ s.H.Objs.length ≤ t.H.Objs.length := fun e1 e2 => by rw [e1, e2]; exact ⟨C, R, Nat.le_refl _⟩
  refine u6 (motive := fun r => Vt p r.1.H ∧ Xq p r.1.H r.2.Regs ∧ s.H.Objs.length ≤ r.1.H.Objs.length) s m x ?_ ?_ ?_ ?_ ?_ ?_ ?_ ?_ ?_ ?_ ?_ ?_ ?_ ?_ ?_ ?_ ?_ ?_ ?_ ?_
  · intro c; unfold mu0 zba
    split
    · exact same rfl rfl
    split
    · exact same rfl rfl
    split
    · exact same rfl rfl
    split
    · exact same rfl rfl
    split
    · exact same rfl rfl
    split
    · exact ⟨C, R.set (R.reg _) _, Nat.le_refl _⟩
    · exact ⟨C, R.set (.inl rfl) _, Nat.le_refl _⟩
  · intro c; unfold mu1; split <;> exact same rfl rfl
  · intro c; unfold mu2; exact same rfl rfl
  · intro c; unfold mu3; refine same (by rw [znI]) ?_; dsimp only; split <;> rfl
  · intro c; unfold zlq; exact ⟨C, R.set (zuO C (R.reg _) _) _, Nat.le_refl _⟩
  · intro c; unfold zjF; refine same rfl ?_; dsimp only; split <;> rfl
  · intro c; unfold zjH; refine same rfl ?_; dsimp only; split <;> rfl
  · intro c; unfold zjT; refine same rfl ?_; dsimp only; split <;> rfl
  · intro c; unfold zlC
    have hl := zaW s.H (zaD x (opM s.P m x).A) (opM s.P m x).S (zaD x (opM s.P m x).R)
    exact ⟨zuC C (R.reg _), R.mono (by dsimp only; omega), by dsimp only; omega⟩
  · intro c; unfold zgz
    split
    · split
      · have hl := zqA s.H
        have w : wc ((s.H.Objs.length : Int) + 1) = (s.H.Objs.length : Int) + 1 := Yc (by omega) (by omega)
        refine ⟨zro hp hN.1 C, ?_, by dsimp only; omega⟩
        refine Xq.set (R.mono (by dsimp only; omega)) (.inr (.inr ?_)) _
        rw [w]
        exact ⟨by omega, by dsimp only; omega⟩
      · exact same rfl rfl
    · exact same rfl rfl
  · intro c; unfold zjw; refine same rfl ?_; dsimp only; split <;> rfl
  · intro c; unfold zjL; refine same rfl ?_; dsimp only; repeat' split
    all_goals rfl
  · intro c; unfold zk6; exact same rfl rfl
  · intro c; unfold zkh; refine same rfl ?_; dsimp only; split <;> rfl
  · intro c; unfold zjv; refine same rfl ?_; dsimp only; split <;> rfl
  · intro c; unfold zkd; refine same rfl ?_; dsimp only; split <;> rfl
  · intro c; unfold zlA; refine same (by rw [znI]) ?_; dsimp only; split <;> rfl
  · intro c; unfold zlD; exact same rfl rfl
  · intro c; unfold zmP; exact same rfl rfl
  · exact same rfl rfl
theorem RgI.step {p : zd} {nb : Nat} (hp : zL p) {s : zb} (E : EOk p nb s) (I : RgI p s) (m : Int) : RgI p (z8 s m) := by
  unfold z8
  split
  · exact I
  cases hx : s.Ms[(m - 1).toNat]? with
  | none => exact I
  | some x =>
    obtain ⟨h1, h2, h3⟩ := zx3 (m := m) hp E.H I.hp (I.rg x (List.mem_of_getElem? hx))
    refine ⟨h1, fun y hy => ?_⟩
    rcases List.mem_or_eq_of_mem_set hy with hy | rfl
    · exact (I.rg y hy).mono h3
    · exact h2
theorem zxZ {p : zd} (hp : zL p) : RgI p (vw p) := by
  have hn := hp.n
  refine ⟨fun o v L hv => ?_, fun x hx v hv => ?_⟩
  · by_cases h0 : v = 0
    · exact .inl h0
    refine .inr (.inl ?_)
    rcases L with L | L
    · have r := (zjW hp o).1 L
      have ho := r.in
      have hm : zA p.H o ∈ p.H.Objs := by
        unfold zA
        rw [List.getD_eq_getElem?_getD, List.getElem?_eq_getElem (show (o - 1).toNat < p.H.Objs.length by omega)]
        exact List.getElem_mem _
      have := (hp.objs _ hm).2 v hv
      exact (zjW hp v).2 (.step o v r hv (by omega))
    · have : o ≤ (p.H.Objs.length : Int) := L.2
      omega
  · have hx : x ∈ p.Regs.map wX := hx
    obtain ⟨r, hr, rfl⟩ := List.mem_map.1 hx
    have hv : v ∈ r := hv
    have := (hp.reg r hr).2 v hv
    by_cases h0 : v = 0
    · exact .inl h0
    exact .inr (.inl ((zjW hp v).2 (.root v (zqw (by omega) _ _ (.inr ⟨r, hr, hv⟩)) (by omega))))
end
end Go.Pe.G
