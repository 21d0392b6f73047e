/- Own work of this seat: PA, PB, PMk, PMade16, PRight, PNew, PInv, PNewOk, PSmall, PSame, PGo, PDq, PWork, PMut, PEng, PLowEq, PMutEq, PFrame, PText, PDq2, PChain, PStrong, PGstep, PWstep. -/
import Derived.Test.YtcjjhmfdiiookaaGreatDoorMSGb
set_option linter.unusedVariables false
set_option linter.unusedSimpArgs false
set_option linter.unnecessarySimpa false
set_option linter.unusedSectionVars false
set_option linter.deprecated false
set_option maxRecDepth 20000
namespace Go.Pe.G
open Go.Pe
noncomputable section
theorem uc {A B D : Type} {f : A → Option (xg A B D)} (Inv : A → Prop) (ms : A → Nat) (Q : xg Unit B D → Prop)
    (h : ∀ a, Inv a → ∃ o, f a = some o ∧ match o with
      | .again a' => Inv a' ∧ ms a' < ms a
      | .brk b => Q (.brk b)
      | .ret c => Q (.ret c)) : ∀ a, Inv a → ms a < Ze → ∃ o, yz f a = some o ∧ Q o := by
  have key : ∀ (n : Nat) a, Inv a → ms a < n → ∃ o, wg f n a = some o ∧ Q o := by
    intro n
    induction n with
    | zero => intro a _ h; omega
    | succ n ih =>
      intro a ha hm
      obtain ⟨o, ho, hq⟩ := h a ha
      simp only [wg, ho, Option.bind_some]
      cases o with
      | again a' => exact ih a' hq.1 (by have := hq.2; omega)
      | brk b => exact ⟨_, rfl, hq⟩
      | ret c => exact ⟨_, rfl, hq⟩
  intro a ha hm
  rw [VG]
  exact key Ze a ha hm
theorem wX {n : Nat} (h : n < 18446744073709551616) : n < Ze := h
theorem yf {a : Int} (h : -9223372036854775808 ≤ a) (h2 : a < 9223372036854775808) : w64 a = a := by
  rw [zmX]; omega
def wc (n : Int) : Int := (n + 9223372036854775808) % 18446744073709551616 - 9223372036854775808
theorem wN : w64 = wc := funext zmX
theorem vD {a : Int} (h : -9223372036854775808 ≤ a) (h2 : a < 9223372036854775808) : wc a = a := by unfold wc; omega
theorem zq {α : Type} (p : Prop) [Decidable p] (a b : α) : (bif decide p then a else b) = if p then a else b := by
  by_cases h : p <;> simp [h]
theorem yI {α : Type} (p : Prop) [Decidable p] (a b : α) : (bif !(decide p) then a else b) = if p then b else a := by
  by_cases h : p <;> simp [h]
theorem wx {α : Type} {l : List α} (h : l.length < 4294967296) : wD l = some l := by
  rw [ztY]; simp [h]
theorem v7 {α : Type} {l : List α} {i : Int} (h : 0 ≤ i) : idx l i = l[i.toNat]? := by
  unfold idx; simp [h]
theorem uI {α : Type} {l : List α} {i : Int} (h : 0 ≤ i) (h2 : i < l.length) : xS l i = some i.toNat := by
  unfold xS; simp [h, h2]
def bit (o : Int) : BitVec 64 := if 1 ≤ o ∧ o ≤ 64 then 1#64 <<< (o - 1).toNat else 0#64
theorem zu0 (a : Int) : zin a = some (bit a, ()) := by
  rw [zsM]
  simp only [zq]
  unfold bit
  by_cases h1 : a < 1
  · rw [if_pos h1, if_neg (by omega)]
  · rw [if_neg h1]
    by_cases h2 : 64 < a
    · rw [if_pos h2, if_neg (by omega)]
    · rw [if_neg h2, yf (a := a - 1) (by omega) (by omega), if_neg (show ¬ a - 1 < 0 by omega), if_pos (show 1 ≤ a ∧ a ≤ 64 by omega), Nat.min_eq_left (by omega)]
theorem zm1 (s : BitVec 64) (o : Int) : zbj s o = some (!(decide (s &&& bit o = 0#64)), ()) := by
  rw [ztU, zu0]; rfl
theorem zgm (s : BitVec 64) (o : Int) : XV s o = some (s ||| bit o, ()) := by
  rw [ztJ, zu0]; rfl
def Zl (t : zt) (o : Int) : zt × Bool :=
  if t.Marks ||| bit o = t.Marks then (t, false) else if t.Black &&& bit o = 0#64 then ({ t with Marks := t.Marks ||| bit o }, true) else (t, false)
theorem zoN (t : zt) (o : Int) : zck t o = some ((Zl t o).1, (Zl t o).2, ()) := by
  rw [zo2, zgm, Option.bind_some, zq]
  unfold Zl
  by_cases h1 : t.Marks ||| bit o = t.Marks
  · rw [if_pos h1, if_pos h1]
  · rw [if_neg h1, if_neg h1, zm1, Option.bind_some, yI]
    by_cases h2 : t.Black &&& bit o = 0#64
    · rw [if_pos h2, if_pos h2]
    · rw [if_neg h2, if_neg h2]
theorem zrk {m : List (BitVec 64)} (h : m.length < 4294967296) : xx m = some (m, ()) := by
  rw [zbe, List.nil_append, wx h, Option.bind_some]
  cases m with
  | nil => simp [zih]
  | cons a l => simp
theorem zke {m : List (List Int)} (h : m.length < 4294967296) : vu m = some (m, ()) := by
  rw [zdr, List.nil_append, wx h, Option.bind_some]
  cases m with
  | nil => simp [zih]
  | cons a l => simp
def ld (m : List (BitVec 64)) (a : Int) : BitVec 64 := if 0 ≤ a then m.getD a.toNat 0#64 else 0#64
def st (m : List (BitVec 64)) (a : Int) (v : BitVec 64) : List (BitVec 64) := if 0 ≤ a then m.set a.toNat v else m
def sw (m : List (BitVec 64)) (at_ : Int) (a b : BitVec 64) : List (BitVec 64) × Bool :=
  if 0 ≤ at_ ∧ at_ < m.length ∧ ld m at_ = a then (st m at_ b, true) else (m, false)
theorem zs4 {m : List (BitVec 64)} {a : Int} (h : 0 ≤ a) (h2 : a < m.length) : m[a.toNat]? = some (ld m a) := by
  unfold ld
  rw [if_pos h, List.getD_eq_getElem?_getD, List.getElem?_eq_getElem (by omega)]; rfl
theorem zuX {m : List (BitVec 64)} {a : Int} : st m a (ld m a) = m := by
  unfold st ld
  by_cases h : 0 ≤ a
  · rw [if_pos h, if_pos h]
    by_cases h2 : a.toNat < m.length
    · rw [List.getD_eq_getElem?_getD, List.getElem?_eq_getElem h2]; simp
    · rw [List.set_eq_of_length_le (by omega)]
  · rw [if_neg h]
theorem zwk {m : List (BitVec 64)} {a : Int} (h : a < 0 ∨ m.length ≤ a) : ld m a = 0#64 := by
  unfold ld
  rcases h with h | h
  · rw [if_neg (by omega)]
  · split
    · rw [List.getD_eq_getElem?_getD, List.getElem?_eq_none (by omega)]; rfl
    · rfl
theorem zw3 {m : List (BitVec 64)} {a : Int} {v : BitVec 64} (h : a < 0 ∨ m.length ≤ a) : st m a v = m := by
  unfold st
  rcases h with h | h
  · rw [if_neg (by omega)]
  · split
    · rw [List.set_eq_of_length_le (by omega)]
    · rfl
theorem zvd (m : List (BitVec 64)) (a : Int) (x y : BitVec 64) : ∃ b, YZ m ⟨1, a, x, y⟩ = some (m, ld m a, b, ()) := by
  rw [ziP]
  simp only [zq, if_true]
  by_cases h1 : a < 0
  · rw [if_pos h1, zwk (.inl h1)]; exact ⟨_, rfl⟩
  · rw [if_neg h1]
    by_cases h2 : (m.length : Int) ≤ a
    · rw [if_pos h2, zwk (.inr h2)]; exact ⟨_, rfl⟩
    · rw [if_neg h2, v7 (by omega), zs4 (by omega) (by omega), Option.bind_some, zrU, Option.bind_some]
      simp
theorem zsU {m : List (BitVec 64)} (hm : m.length < 4294967296) (a : Int) (x y : BitVec 64) : ∃ v b, YZ m ⟨2, a, x, y⟩ = some (st m a x, v, b, ()) := by
  rw [ziP]
  simp only [zq, if_true, if_neg (show ¬ (2 : Int) = 1 by omega)]
  by_cases h1 : a < 0
  · rw [if_pos h1, zw3 (.inl h1)]; exact ⟨_, _, rfl⟩
  · rw [if_neg h1]
    by_cases h2 : (m.length : Int) ≤ a
    · rw [if_pos h2, zw3 (.inr h2)]; exact ⟨_, _, rfl⟩
    · rw [if_neg h2, v7 (by omega), zs4 (by omega) (by omega), Option.bind_some, zrZ, Option.bind_some, cond_true, yI]
      by_cases h3 : ld m a = x
      · rw [if_pos h3]
        subst h3
        rw [zuX]; exact ⟨_, _, rfl⟩
      · rw [if_neg h3, zrk hm, Option.bind_some, uI (l := m) (by omega) (by omega), Option.bind_some]
        unfold st
        rw [if_pos (by omega)]
        exact ⟨_, _, rfl⟩
theorem zuV {m : List (BitVec 64)} (hm : m.length < 4294967296) (a : Int) (x y : BitVec 64) : ∃ v, YZ m ⟨3, a, x, y⟩ = some ((sw m a x y).1, v, (sw m a x y).2, ()) := by
  rw [ziP]
  simp only [zq, if_true, if_neg (show ¬ (3 : Int) = 1 by omega), if_neg (show ¬ (3 : Int) = 2 by omega)]
  by_cases h1 : a < 0
  · rw [if_pos h1]
    have : sw m a x y = (m, false) := by unfold sw; rw [if_neg (by omega)]
    rw [this]; exact ⟨_, rfl⟩
  · rw [if_neg h1]
    by_cases h2 : (m.length : Int) ≤ a
    · rw [if_pos h2]
      have : sw m a x y = (m, false) := by unfold sw; rw [if_neg (by omega)]
      rw [this]; exact ⟨_, rfl⟩
    · rw [if_neg h2, v7 (by omega), zs4 (by omega) (by omega), Option.bind_some, zrQ, Option.bind_some]
      simp only [zq]
      by_cases h3 : ld m a = x
      · have : sw m a x y = (st m a y, true) := by unfold sw; rw [if_pos ⟨by omega, by omega, h3⟩]
        rw [if_pos h3, this, yI]
        by_cases h4 : ld m a = y
        · rw [if_pos h4]
          have : st m a y = m := by rw [← h4, zuX]
          rw [this]
          simp [h3]
        · rw [if_neg h4, zrk hm, Option.bind_some, uI (l := m) (by omega) (by omega), Option.bind_some]
          unfold st
          rw [if_pos (by omega)]
          simp [h3]
      · have : sw m a x y = (m, false) := by unfold sw; rw [if_neg (by rintro ⟨_, _, h⟩; exact h3 h)]
        rw [if_neg h3, this]
        simp [h3]
theorem zo4 (m : List (BitVec 64)) (a : Int) : zcw m a = some (ld m a, ()) := by
  obtain ⟨b, h⟩ := zvd m a 0#64 0#64
  rw [zpZ, h]; rfl
theorem zaK {m : List (BitVec 64)} (hm : m.length < 4294967296) (a : Int) (x : BitVec 64) : Yh m a x = some (st m a x, ()) := by
  obtain ⟨v, b, h⟩ := zsU hm a x 0#64
  rw [zn1, h]; rfl
theorem zoE (m : List (BitVec 64)) (a : Int) : Zf m a = some (ld m a, ()) := by
  obtain ⟨b, h⟩ := zvd m a 0#64 0#64
  rw [zoH, h]; rfl
theorem znJ {m : List (BitVec 64)} (hm : m.length < 4294967296) (a : Int) (x : BitVec 64) : Yi m a x = some (st m a x, ()) := by
  obtain ⟨v, b, h⟩ := zsU hm a x 0#64
  rw [zn8, h]; rfl
def yp (h : BitVec 64) : Int := (h &&& 4294967295#64).toInt
def yW (v : BitVec 64) (n : Int) : BitVec 64 := (v <<< 32) ||| (BitVec.ofInt 64 n &&& 4294967295#64)
theorem zf5 (h : BitVec 64) : Y4 h = some (yp h, ()) := zpg h
theorem zga (v : BitVec 64) (n : Int) : WE v n = some (yW v n, ()) := zpy v n
def zp (m : List (BitVec 64)) (c : zC) : List (BitVec 64) × zC :=
  if c.Out ≠ 0 ∨ (c.Kind ≠ 1 ∧ c.Kind ≠ 2) ∨ c.PC < 0 ∨ 3 ≤ c.PC then (m, c)
  else if c.PC = 0 then
    (m, if c.Kind = 2 ∧ yp (ld m c.Head) = 0 then { c with H := ld m c.Head, Out := 2, PC := 1 } else { c with H := ld m c.Head, PC := 1 })
  else if c.PC = 1 then
    if c.Kind = 2 then (m, { c with Y := (ld m (wc (c.Next + yp c.H))).toInt, PC := 2 })
    else (st m (wc (c.Next + c.X)) (BitVec.ofInt 64 (yp c.H)), { c with PC := 2 })
  else
    let r := sw m c.Head c.H (yW ((c.H >>> 32) + 1#64) (if c.Kind = 2 then c.Y else c.X))
    (r.1, if r.2 then (if c.Kind = 2 then { c with X := yp c.H, Out := 1, PC := 3 } else { c with Out := 1, PC := 3 }) else { c with PC := 0 })
theorem zfU {m : List (BitVec 64)} (hm : m.length < 4294967296) (c : zC) : WQ m c = some ((zp m c).1, (zp m c).2, ()) := by
  have hsee : vg m c = some (m, (if c.Kind = 2 ∧ yp (ld m c.Head) = 0 then { c with H := ld m c.Head, Out := 2 } else { c with H := ld m c.Head }), ()) := by
    rw [zfV, zo4, Option.bind_some, zf5, Option.bind_some, zq, zq]
    by_cases h1 : c.Kind = 2
    · by_cases h2 : yp (ld m c.Head) = 0
      · rw [if_pos h1, if_pos h2, if_pos ⟨h1, h2⟩]
      · rw [if_pos h1, if_neg h2, if_neg (fun h => h2 h.2)]
    · rw [if_neg h1, if_neg (fun h => h1 h.1)]
  have hlink : YO m c = some (st m (wc (c.Next + c.X)) (BitVec.ofInt 64 (yp c.H)), ()) := by
    rw [zhW, wN, zf5, Option.bind_some, zaK hm]; rfl
  have hbeh : uN m c = some (m, { c with Y := (ld m (wc (c.Next + yp c.H))).toInt }, ()) := by
    rw [zcR, wN, zf5, Option.bind_some, zo4]; rfl
  have hswap : wU m c = some ((sw m c.Head c.H (yW ((c.H >>> 32) + 1#64) (if c.Kind = 2 then c.Y else c.X))).1,
      (if (sw m c.Head c.H (yW ((c.H >>> 32) + 1#64) (if c.Kind = 2 then c.Y else c.X))).2 then (if c.Kind = 2 then { c with X := yp c.H, Out := 1 } else { c with Out := 1 }) else { c with PC := -1 }), ()) := by
    rw [ze5, zq]
    by_cases h1 : c.Kind = 2
    · rw [if_pos h1, zga, Option.bind_some]
      obtain ⟨v, hv⟩ := zuV hm c.Head c.H (yW ((c.H >>> 32) + 1#64) c.Y)
      simp only [if_pos h1]
      rw [hv, Option.bind_some]
      cases hs : (sw m c.Head c.H (yW ((c.H >>> 32) + 1#64) c.Y)).2 with
      | true => simp [hs, h1, zf5]
      | false => simp [hs]
    · rw [if_neg h1, zga, Option.bind_some]
      obtain ⟨v, hv⟩ := zuV hm c.Head c.H (yW ((c.H >>> 32) + 1#64) c.X)
      simp only [if_neg h1]
      rw [hv, Option.bind_some]
      cases hs : (sw m c.Head c.H (yW ((c.H >>> 32) + 1#64) c.X)).2 with
      | true => simp [hs, h1]
      | false => simp [hs]
  rw [zqb, hsee, hlink, hbeh, hswap]
  simp only [zq, yI, Option.bind_some]
  unfold zp
  by_cases h0 : c.Out = 0
  · by_cases hp0 : c.PC < 0
    · have : (c.Out ≠ 0 ∨ (c.Kind ≠ 1 ∧ c.Kind ≠ 2) ∨ c.PC < 0 ∨ 3 ≤ c.PC) := .inr (.inr (.inl hp0))
      rw [if_pos this]
      simp [h0, hp0]
    · by_cases hp3 : 3 ≤ c.PC
      · have : (c.Out ≠ 0 ∨ (c.Kind ≠ 1 ∧ c.Kind ≠ 2) ∨ c.PC < 0 ∨ 3 ≤ c.PC) := .inr (.inr (.inr hp3))
        rw [if_pos this]
        simp [h0, hp3]
      · by_cases hk : c.Kind = 1 ∨ c.Kind = 2
        · have : ¬ (c.Out ≠ 0 ∨ (c.Kind ≠ 1 ∧ c.Kind ≠ 2) ∨ c.PC < 0 ∨ 3 ≤ c.PC) := by
            rintro (h | h | h | h)
            · exact h h0
            · omega
            · exact hp0 h
            · exact hp3 h
          rw [if_neg this]
          have hpc : c.PC = 0 ∨ c.PC = 1 ∨ c.PC = 2 := by omega
          have w1 : w64 1 = 1 := yf (by omega) (by omega)
          have w2 : w64 2 = 2 := yf (by omega) (by omega)
          have w3 : w64 3 = 3 := yf (by omega) (by omega)
          have w4 : w64 0 = 0 := yf (by omega) (by omega)
          rcases hk with hk | hk <;> rcases hpc with hpc | hpc | hpc <;> simp [h0, hk, hpc, w1, w2, w3, w4] <;> (try split) <;> simp [hpc, w1, w3, w4]
        · have : (c.Out ≠ 0 ∨ (c.Kind ≠ 1 ∧ c.Kind ≠ 2) ∨ c.PC < 0 ∨ 3 ≤ c.PC) := .inr (.inl (by omega))
          rw [if_pos this]
          have k1 : ¬ c.Kind = 1 := by omega
          have k2 : ¬ c.Kind = 2 := by omega
          simp [h0, k1, k2]
  · have : (c.Out ≠ 0 ∨ (c.Kind ≠ 1 ∧ c.Kind ≠ 2) ∨ c.PC < 0 ∨ 3 ≤ c.PC) := .inl h0
    rw [if_pos this]
    simp [h0]
end
end Go.Pe.G
namespace Go.Pe.G
open Go.Pe
noncomputable section
def WD (d : zi) : BitVec 64 := BitVec.ofInt 64 (if d.Cap < 1 then 1 else d.Cap)
def zaw (d : zi) (i : BitVec 64) : Int := wc (wc (d.Base + 2) + (i % WD d).toInt)
def yS (m : List (BitVec 64)) (d : zi) : List (BitVec 64) × zi :=
  if d.Out ≠ 0 ∨ d.PC < 0 ∨ 4 ≤ d.PC then (m, d)
  else if d.PC = 0 then (m, { d with B := ld m (wc (d.Base + 1)), PC := 1 })
  else if d.PC = 1 then (m, if WD d ≤ d.B - ld m d.Base then { d with T := ld m d.Base, Out := 3, PC := 2 } else { d with T := ld m d.Base, PC := 2 })
  else if d.PC = 2 then (st m (zaw d d.B) (BitVec.ofInt 64 d.X), { d with PC := 3 })
  else (st m (wc (d.Base + 1)) (d.B + 1#64), { d with Out := 1, PC := 4 })
theorem zyE : w64 0 = 0 ∧ w64 1 = 1 ∧ w64 2 = 2 ∧ w64 3 = 3 ∧ w64 4 = 4 := by
  refine ⟨?_, ?_, ?_, ?_, ?_⟩ <;> exact yf (by omega) (by omega)
theorem zxn {d : zi} (h : d.Cap < 1000) : WD d ≠ 0#64 := by
  unfold WD
  intro e
  have := congrArg BitVec.toNat e
  rw [BitVec.toNat_ofInt] at this
  split at this <;> simp at this <;> omega
theorem zoG (d : zi) : YH d = some (WD d, ()) := by
  rw [zhV]; unfold WD; rw [zq]
theorem zuE {d : zi} (h : d.Cap < 1000) (i : BitVec 64) : uL i d = some (zaw d i, ()) := by
  rw [zgw, wN, zoG, Option.bind_some, zq, if_neg (zxn h)]; rfl
theorem zp2 {m : List (BitVec 64)} (hm : m.length < 4294967296) {d : zi} (hk : d.Kind = 1) (hc : d.Cap < 1000) : zgS m d = some ((yS m d).1, (yS m d).2, ()) := by
  obtain ⟨w0, w1, w2, w3, w4⟩ := zyE
  have h0 : vZ m d = some (m, { d with B := ld m (wc (d.Base + 1)) }, ()) := by
    rw [zbF, Uu, wN, Option.bind_some, zoE]; rfl
  have h1 : Xv m d = some (m, (if WD d ≤ d.B - ld m d.Base then { d with T := ld m d.Base, Out := 3 } else { d with T := ld m d.Base }), ()) := by
    rw [zfl, ziO, Option.bind_some, zoE, Option.bind_some, zoG, Option.bind_some, zq]
    have e : WD { d with T := ld m d.Base } = WD d := rfl
    simp only [e]
    by_cases h : WD d ≤ d.B - ld m d.Base
    · rw [if_pos h, if_pos h, Uk]
      simp [hk]
    · rw [if_neg h, if_neg h]
  have h2 : V8 m d = some (st m (zaw d d.B) (BitVec.ofInt 64 d.X), ()) := by
    rw [ziQ, zuE hc, Option.bind_some, znJ hm]; rfl
  have h3 : Yj m d = some (st m (wc (d.Base + 1)) (d.B + 1#64), { d with Out := 1 }, ()) := by
    rw [zcC, Uk]
    simp only [decide_true, Bool.not_true, cond_false, Option.bind_some, Uu, wN]
    rw [znJ hm]; rfl
  rw [zpI, h0, h1, h2, h3, znl]
  simp only [hk, decide_true, cond_true, Option.bind_some, yI, zq]
  have key : ∀ (x : Option (List (BitVec 64) × zi × Unit)) (v : List (BitVec 64) × zi × Unit) (y : Option (List (BitVec 64) × zi × Unit)), x = some v → Option.or x y = some v := by
    rintro _ v y rfl; rfl
  apply key
  unfold yS
  by_cases g0 : d.Out = 0
  · by_cases g1 : d.PC < 0
    · simp [g0, g1]
    · by_cases g2 : 4 ≤ d.PC
      · simp [g0, g2]
      · have hpc : d.PC = 0 ∨ d.PC = 1 ∨ d.PC = 2 ∨ d.PC = 3 := by omega
        rcases hpc with h | h | h | h <;> simp [g0, h, hk, w1, w2, w3, w4] <;> (try split) <;> simp [h, hk, w2]
  · simp [g0]
def yc (p : zc) : Int := wc (p.Workers * wc (p.Cap + 2))
def zE (p : zc) : Int := wc (yc p + 1)
def yq (p : zc) (w : Int) : Int := wc (wc (w - 1) * wc (p.Cap + 2))
theorem zfG (p : zc) : W4 p = some (yc p, ()) := by rw [zpl, wN]; rfl
theorem zdL (p : zc) : XH p = some (zE p, ()) := by rw [zoh, wN, zfG]; rfl
theorem zfB (p : zc) : Xb p = some (zE p, ()) := by rw [zoO, zdL]; rfl
theorem znA (p : zc) (w : Int) : zaQ p w = some (yq p w, ()) := by rw [zot, wN]; rfl
def zkG (p : zc) (g : zA) : zA := { g with PC := 5, C := ⟨2, 0, zE p, zE p, 0#64, 0, 0, 0⟩ }
theorem zkP (a : zD) : vz a = some (⟨zkG a.s.P a.Grey, a.s⟩, ()) := by
  rw [zg0, zdL, Option.bind_some, zfB, Option.bind_some, za7]; rfl
def zmQ (s : za) (g : zA) : za × zA :=
  let t := Zl s.T g.Obj
  ({ s with T := t.1 },
    if t.2 = false then { g with PC := 2 }
    else if g.Mode = 1 then { g with PC := 3, D := ⟨1, 0, yq s.P g.Who, s.P.Cap, 0#64, 0#64, g.Obj, 0⟩ }
    else if g.Mode = 2 then { g with PC := 4 }
    else zkG s.P g)
def zm6 (s : za) (g : zA) : za × zA :=
  let r := yS s.M g.D
  ({ s with M := r.1 }, if r.2.Out = 1 then { g with D := r.2, Out := 1 } else if r.2.Out = 3 then zkG s.P { g with D := r.2 } else { g with D := r.2 })
def zmS (s : za) (g : zA) : za × zA :=
  let r := zp s.M g.C
  ({ s with M := r.1 }, if r.2.Out = 1 then { g with PC := 6, C := r.2, Bin := r.2.X } else if r.2.Out = 2 then zkG s.P { g with C := r.2 } else { g with C := r.2 })
def zst (s : za) (g : zA) : za × zA :=
  ({ s with Bins := s.Bins.set g.Bin.toNat [g.Obj] }, { g with PC := 7, C := ⟨1, 0, yc s.P, zE s.P, 0#64, g.Bin, 0, 0⟩ })
def zhs (s : za) (g : zA) : za × zA :=
  let r := zp s.M g.C
  ({ s with M := r.1 }, if r.2.Out = 1 then { g with C := r.2, Out := 1 } else { g with C := r.2 })
def zB (s : za) (g : zA) : za × zA :=
  if g.Out ≠ 0 ∨ g.Mode < 1 ∨ 3 < g.Mode ∨ g.PC < 0 ∨ 8 ≤ g.PC then (s, g)
  else if g.PC = 7 then zhs s g
  else if g.PC = 6 then zst s g
  else if g.PC = 5 then zmS s g
  else if g.PC = 4 then ({ s with Flag := true }, zkG s.P g)
  else if g.PC = 3 then zm6 s g
  else if g.PC = 2 then ({ s with Work := wc (s.Work - 1) }, { g with Out := 1 })
  else if g.PC = 1 then zmQ s g
  else ({ s with Work := wc (s.Work + 1) }, { g with PC := 1 })
structure GOk (s : za) (g : zA) : Prop where
  mem : s.M.length < 4294967296
  bins : s.Bins.length < 4294967296
  bin : g.PC = 6 → 0 ≤ g.Bin ∧ g.Bin < s.Bins.length
  deq : g.PC = 3 → g.D.Kind = 1 ∧ g.D.Cap < 1000
theorem zxv {s : za} {g : zA} (ok : GOk s g) : ziZ s g = some ((zB s g).1, (zB s g).2, ()) := by
  rw [zqm]
  simp only [zq, yI]
  unfold zB
  by_cases h0 : g.Out = 0
  rotate_left
  · rw [if_neg h0, if_pos (.inl h0)]
  rw [if_pos h0]
  by_cases h1 : g.Mode < 1
  · rw [if_pos h1, if_pos (.inr (.inl h1))]
  rw [if_neg h1]
  by_cases h2 : 3 < g.Mode
  · rw [if_pos h2, if_pos (.inr (.inr (.inl h2)))]
  rw [if_neg h2]
  by_cases h3 : g.PC < 0
  · rw [if_pos h3, if_pos (.inr (.inr (.inr (.inl h3))))]
  rw [if_neg h3]
  by_cases h4 : 8 ≤ g.PC
  · rw [if_pos h4, if_pos (.inr (.inr (.inr (.inr h4))))]
  rw [if_neg h4, if_neg (show ¬ (g.Out ≠ 0 ∨ g.Mode < 1 ∨ 3 < g.Mode ∨ g.PC < 0 ∨ 8 ≤ g.PC) by omega)]
  by_cases p7 : g.PC = 7
  · rw [if_pos p7, if_pos p7, zdv]
    simp only [zfU ok.mem, Option.bind_some, zq]
    by_cases e : (zp s.M g.C).2.Out = 1 <;> simp [zhs, e]
  rw [if_neg p7, if_neg p7]
  by_cases p6 : g.PC = 6
  · rw [if_pos p6, if_pos p6, zgc]
    obtain ⟨b1, b2⟩ := ok.bin p6
    simp only [zke ok.bins, Option.bind_some, uI (l := s.Bins) b1 b2, zfG, zfB, za7]
    rfl
  rw [if_neg p6, if_neg p6]
  by_cases p5 : g.PC = 5
  · rw [if_pos p5, if_pos p5, zfW]
    simp only [zfU ok.mem, Option.bind_some, zq, zkP]
    by_cases e : (zp s.M g.C).2.Out = 1
    · simp [zmS, e]
    · by_cases e2 : (zp s.M g.C).2.Out = 2 <;> simp [zmS, e, e2]
  rw [if_neg p5, if_neg p5]
  by_cases p4 : g.PC = 4
  · rw [if_pos p4, if_pos p4, zfE, zkP]; rfl
  rw [if_neg p4, if_neg p4]
  by_cases p3 : g.PC = 3
  · rw [if_pos p3, if_pos p3, zfT]
    obtain ⟨b1, b2⟩ := ok.deq p3
    simp only [zp2 ok.mem b1 b2, Option.bind_some, zq, zkP]
    by_cases e : (yS s.M g.D).2.Out = 1
    · simp [zm6, e]
    · by_cases e2 : (yS s.M g.D).2.Out = 3 <;> simp [zm6, e, e2]
  rw [if_neg p3, if_neg p3]
  by_cases p2 : g.PC = 2
  · rw [if_pos p2, if_pos p2, zgf, wN]; rfl
  rw [if_neg p2, if_neg p2]
  by_cases p1 : g.PC = 1
  · rw [if_pos p1, if_pos p1, zgd]
    simp only [zoN, Option.bind_some, zq, zkP, znA, zgz]
    unfold zmQ
    cases hs : (Zl s.T g.Obj).2 with
    | false => simp [hs]
    | true =>
      by_cases m1 : g.Mode = 1
      · simp [hs, m1]
      · by_cases m2 : g.Mode = 2 <;> simp [hs, m1, m2]
  rw [if_neg p1, if_neg p1, if_pos (show g.PC = 0 by omega), zc8, wN]; rfl
end
end Go.Pe.G
namespace Go.Pe.G
open Go.Pe
noncomputable section
theorem vh {b k : Int} (h : 0 ≤ b) (hk : 0 < k) : 0 ≤ b.tmod k ∧ b.tmod k < k := by
  rw [Int.tmod_eq_emod_of_nonneg h]; exact ⟨Int.emod_nonneg _ (by omega), Int.emod_lt_of_pos _ hk⟩
def zci (o : zg) (regs slots : Int) : Prop := (0 ≤ o.R ∧ o.R < regs) ∧
  ((o.Kind = 1 ∨ o.Kind = 2) ∧ (0 ≤ o.A ∧ o.A < regs) ∧ (0 ≤ o.S ∧ o.S < slots) ∨ o.Kind = 4 ∧ (0 ≤ o.A ∧ o.A < regs) ∧ o.S = 0 ∨ (o.Kind = 3 ∨ o.Kind = 5) ∧ o.A = 0 ∧ o.S = 0)
structure zG (p : zc) : Prop where
  wk : 1 ≤ p.Workers ∧ p.Workers ≤ 3
  mt : 0 ≤ p.Mutators ∧ p.Mutators ≤ 2
  cap : 1 ≤ p.Cap ∧ p.Cap ≤ 3
  buf : 1 ≤ p.Buf ∧ p.Buf ≤ 2
  bin : 1 ≤ p.Bin ∧ p.Bin ≤ 3
  price : 0 ≤ p.Price ∧ p.Price ≤ 3
  limit : 0 ≤ p.Limit ∧ p.Limit ≤ 3
  slots : 1 ≤ p.H.Slots ∧ p.H.Slots ≤ 2
  n : 1 ≤ (p.H.Objs.length : Int) ∧ (p.H.Objs.length : Int) ≤ 6
  objs : ∀ o ∈ p.H.Objs, (o.length : Int) = p.H.Slots ∧ ∀ v ∈ o, 0 ≤ v ∧ v ≤ (p.H.Objs.length : Int)
  most : (p.H.Objs.length : Int) ≤ p.Most ∧ p.Most ≤ (p.H.Objs.length : Int) + 3
  roots : ∃ r, 0 ≤ r ∧ r ≤ (p.H.Objs.length : Int) ∧ p.Roots = bit r
  regs : (p.Regs.length : Int) = p.Mutators
  progs : (p.Progs.length : Int) = p.Mutators
  reg : ∀ r ∈ p.Regs, (1 ≤ (r.length : Int) ∧ (r.length : Int) ≤ 3) ∧ ∀ v ∈ r, 0 ≤ v ∧ v ≤ (p.H.Objs.length : Int)
  prog : ∀ (k : Nat) r ops, p.Regs[k]? = some r → p.Progs[k]? = some ops → (ops.length : Int) ≤ 7 ∧ ∀ o ∈ ops, zci o (r.length : Int) p.H.Slots
  picks : p.Picks = []
end
end Go.Pe.G
namespace Go.Pe.G
open Go.Pe
noncomputable section
namespace B16
def XF (m : zF) : Prop := 0 ≤ m.At ∧ m.At ≤ m.L.length ∧ m.L.length ≤ 90
theorem vW {m : zF} (h : XF m) : ∃ b m', zy m = some (b, m', ()) ∧ (0 ≤ b ∧ b < 256) ∧ XF m' := by
  obtain ⟨h1, h2, h3⟩ := h
  rw [zcH, zq]
  by_cases h : (m.L.length : Int) ≤ m.At
  · rw [if_pos h]; exact ⟨_, _, rfl, by omega, h1, h2, h3⟩
  · rw [if_neg h, yf (a := m.At + 1) (by omega) (by omega), yf (by omega) (by omega), v7 (by omega), List.getElem?_eq_getElem (by omega), Option.bind_some]
    exact ⟨_, _, rfl, by have := (m.L[(m.At + 1 - 1).toNat]'(by omega)).isLt; omega, show 0 ≤ m.At + 1 by omega, show m.At + 1 ≤ m.L.length by omega, h3⟩
theorem zAw {m : zF} (h : XF m) {regs slots : Int} (hr : 1 ≤ regs) (hs : 1 ≤ slots) : ∃ o m', YY regs slots m = some (o, m', ()) ∧ zci o regs slots ∧ XF m' := by
  obtain ⟨b1, m1, e1, r1, k1⟩ := vW h
  obtain ⟨b2, m2, e2, r2, k2⟩ := vW k1
  obtain ⟨b3, m3, e3, r3, k3⟩ := vW k2
  obtain ⟨b4, m4, e4, r4, k4⟩ := vW k3
  have t1 := vh r1.1 (show (0 : Int) < 8 by omega)
  have t2 := vh r2.1 (show (0 : Int) < regs by omega)
  have t3 := vh r3.1 (show (0 : Int) < regs by omega)
  have t4 := vh r4.1 (show (0 : Int) < slots by omega)
  have t5 := vh r3.1 (show (0 : Int) < slots by omega)
  have hn : ¬ regs = 0 := by omega
  have hn2 : ¬ slots = 0 := by omega
  rw [zeo, e1, Option.bind_some, uI t1.1 (by simpa using t1.2), Option.bind_some]
  have hx : b1.tmod 8 = 0 ∨ b1.tmod 8 = 1 ∨ b1.tmod 8 = 2 ∨ b1.tmod 8 = 3 ∨ b1.tmod 8 = 4 ∨ b1.tmod 8 = 5 ∨ b1.tmod 8 = 6 ∨ b1.tmod 8 = 7 := by omega
  rcases hx with hx | hx | hx | hx | hx | hx | hx | hx <;> simp [hx, e2, e3, e4, hn, hn2] <;> refine ⟨_, _, ⟨rfl, rfl⟩, ?_, by assumption⟩ <;> (unfold zci; dsimp only; omega)
theorem zye {s1 : Int} {s2 : Int} {s4 : Int} {s5 : Int} {s6 : Int} {s7 : Int} {s8 : Int} {s9 : Int} {s10 : Int} {s11 : Int} {s12 : Int} {s13 : BitVec 64} {s15 : Int} {s16 : Int} {s17 : Int} {s18 : Int} {s19 : Int} {s20 : Int} {s21 : Int} {s22 : Int} {s23 : Int} {s24 : BitVec 64} {s26 : List (List Int)} {s27 : List (List Int)} {s28 : List (List zg)} {s29 : List zj} {s30 : List (List Int)} {s31 : List (List Int)} {s32 : List (List zg)} {s33 : List zj} (hn : 1 ≤ s1 ∧ s1 ≤ 6) (hs : 1 ≤ s23 ∧ s23 ≤ 2) {mk : zF} (hm : XF mk) :
    ∃ mk' l, yz Z4 (s1, s2, 0, s4, s5, s6, s7, s8, s9, s10, s11, s12, s13, mk, s15, s16, s17, s18, s19, s20, s21, s22, s23, s24, [], s26, s27, s28, s29, s30, s31, s32, s33, ()) = some (.brk (s1, s2, s4, s5, s6, s7, s8, s9, s10, s11, s12, s13, mk', s15, s16, s17, s18, s19, s20, s21, s22, s23, s24, l, s26, s27, s28, s29, s30, s31, s32, s33, ())) ∧ XF mk' ∧ (l.length : Int) = s23 ∧ ∀ v ∈ l, 0 ≤ v ∧ v ≤ s1 := by
  refine (uc (f := Z4)
    (fun a => ∃ i mk l, a = (s1, s2, i, s4, s5, s6, s7, s8, s9, s10, s11, s12, s13, mk, s15, s16, s17, s18, s19, s20, s21, s22, s23, s24, l, s26, s27, s28, s29, s30, s31, s32, s33, ()) ∧ XF mk ∧ (0 ≤ i ∧ i ≤ s23 ∧ (l.length : Int) = i) ∧ ∀ v ∈ l, 0 ≤ v ∧ v ≤ s1)
    (fun a => (s23 - a.2.2.1).toNat)
    (fun o => match o with | .brk b => ∃ mk l, b = (s1, s2, s4, s5, s6, s7, s8, s9, s10, s11, s12, s13, mk, s15, s16, s17, s18, s19, s20, s21, s22, s23, s24, l, s26, s27, s28, s29, s30, s31, s32, s33, ()) ∧ XF mk ∧ (l.length : Int) = s23 ∧ ∀ v ∈ l, 0 ≤ v ∧ v ≤ s1 | _ => False) ?_
    (s1, s2, 0, s4, s5, s6, s7, s8, s9, s10, s11, s12, s13, mk, s15, s16, s17, s18, s19, s20, s21, s22, s23, s24, [], s26, s27, s28, s29, s30, s31, s32, s33, ()) ⟨0, mk, [], rfl, hm, by simp; omega, by simp⟩ (wX (by simp; omega))).elim fun o h => ?_
  rotate_left
  · obtain ⟨ho, hq⟩ := h
    cases o with
    | again a => exact hq.elim
    | ret a => exact hq.elim
    | brk b =>
      obtain ⟨mk', l, rfl, h1, h2, h3⟩ := hq
      exact ⟨mk', l, ho, h1, h2, h3⟩
  · rintro _ ⟨i, mk, l, rfl, h1, h2, h3⟩
    rw [zgI, zq]
    by_cases hi : i < s23
    · rw [if_pos hi]
      obtain ⟨b, mk', e, r, k⟩ := vW h1
      have w1 : w64 (s1 + 1) = s1 + 1 := yf (by omega) (by omega)
      have t := vh r.1 (show 0 < s1 + 1 by omega)
      rw [e, Option.bind_some, w1, zq, if_neg (by omega), wx (by simp; omega), Option.bind_some, yf (a := i + 1) (by omega) (by omega)]
      refine ⟨_, rfl, ⟨i + 1, mk', l ++ [b.tmod (s1 + 1)], rfl, k, by simp; omega, fun v hv => ?_⟩, ?_⟩
      · rcases List.mem_append.1 hv with hv | hv
        · exact h3 v hv
        · simp at hv; omega
      · show (s23 - (i + 1)).toNat < (s23 - i).toNat
        omega
    · rw [if_neg hi]
      exact ⟨_, rfl, mk, l, rfl, h1, by omega, h3⟩
theorem zzk {s1 : Int} {s3 : Int} {s4 : Int} {s5 : Int} {s6 : Int} {s7 : Int} {s8 : Int} {s9 : Int} {s10 : Int} {s11 : Int} {s12 : BitVec 64} {s14 : Int} {s15 : Int} {s16 : Int} {s17 : Int} {s18 : Int} {s19 : Int} {s20 : Int} {s21 : Int} {s22 : Int} {s23 : BitVec 64} {s24 : List (List Int)} {s25 : List (List Int)} {s26 : List (List zg)} {s27 : List zj} {s29 : List (List Int)} {s30 : List (List zg)} {s31 : List zj} (hn : 1 ≤ s1 ∧ s1 ≤ 6) (hs : 1 ≤ s22 ∧ s22 ≤ 2) {mk : zF} (hm : XF mk) :
    ∃ mk' l, yz YE (s1, 0, s3, s4, s5, s6, s7, s8, s9, s10, s11, s12, mk, s14, s15, s16, s17, s18, s19, s20, s21, s22, s23, s24, s25, s26, s27, [], s29, s30, s31, ()) = some (.brk (s1, s3, s4, s5, s6, s7, s8, s9, s10, s11, s12, mk', s14, s15, s16, s17, s18, s19, s20, s21, s22, s23, s24, s25, s26, s27, l, s29, s30, s31, ())) ∧ XF mk' ∧ (l.length : Int) = s1 ∧ ∀ o ∈ l, (o.length : Int) = s22 ∧ ∀ v ∈ o, 0 ≤ v ∧ v ≤ s1 := by
  refine (uc (f := YE)
    (fun a => ∃ i mk l, a = (s1, i, s3, s4, s5, s6, s7, s8, s9, s10, s11, s12, mk, s14, s15, s16, s17, s18, s19, s20, s21, s22, s23, s24, s25, s26, s27, l, s29, s30, s31, ()) ∧ XF mk ∧ (0 ≤ i ∧ i ≤ s1 ∧ (l.length : Int) = i) ∧ ∀ o ∈ l, (o.length : Int) = s22 ∧ ∀ v ∈ o, 0 ≤ v ∧ v ≤ s1)
    (fun a => (s1 - a.2.1).toNat)
    (fun o => match o with | .brk b => ∃ mk l, b = (s1, s3, s4, s5, s6, s7, s8, s9, s10, s11, s12, mk, s14, s15, s16, s17, s18, s19, s20, s21, s22, s23, s24, s25, s26, s27, l, s29, s30, s31, ()) ∧ XF mk ∧ (l.length : Int) = s1 ∧ ∀ o ∈ l, (o.length : Int) = s22 ∧ ∀ v ∈ o, 0 ≤ v ∧ v ≤ s1 | _ => False) ?_
    (s1, 0, s3, s4, s5, s6, s7, s8, s9, s10, s11, s12, mk, s14, s15, s16, s17, s18, s19, s20, s21, s22, s23, s24, s25, s26, s27, [], s29, s30, s31, ()) ⟨0, mk, [], rfl, hm, by simp; omega, by simp⟩ (wX (by simp; omega))).elim fun o h => ?_
  rotate_left
  · obtain ⟨ho, hq⟩ := h
    cases o with
    | again a => exact hq.elim
    | ret a => exact hq.elim
    | brk b =>
      obtain ⟨mk', l, rfl, h1, h2, h3⟩ := hq
      exact ⟨mk', l, ho, h1, h2, h3⟩
  · rintro _ ⟨i, mk, l, rfl, h1, h2, h3⟩
    rw [zhZ, zq]
    by_cases hi : i < s1
    · rw [if_pos hi]
      obtain ⟨mk', o, e, g1, g2, g3⟩ := zye hn hs h1
      rw [e]
      simp only [Option.bind_some]
      rw [wx (by simp; omega), Option.bind_some, yf (a := i + 1) (by omega) (by omega)]
      refine ⟨_, rfl, ⟨i + 1, mk', l ++ [o], rfl, g1, by simp; omega, fun v hv => ?_⟩, ?_⟩
      · rcases List.mem_append.1 hv with hv | hv
        · exact h3 v hv
        · simp at hv; subst hv; exact ⟨g2, g3⟩
      · show (s1 - (i + 1)).toNat < (s1 - i).toNat
        omega
    · rw [if_neg hi]
      exact ⟨_, rfl, mk, l, rfl, h1, by omega, h3⟩
theorem zxO {s1 : Int} {s2 : Int} {s4 : Int} {s5 : Int} {s6 : Int} {s7 : Int} {s8 : Int} {s9 : Int} {s10 : Int} {s11 : Int} {s12 : Int} {s13 : BitVec 64} {s15 : Int} {s16 : Int} {s17 : Int} {s18 : Int} {s19 : Int} {s20 : Int} {s21 : Int} {s22 : Int} {s23 : Int} {s24 : BitVec 64} {s26 : List (List Int)} {s27 : List (List Int)} {s28 : List (List zg)} {s29 : List zj} {s30 : List (List Int)} {s31 : List (List Int)} {s32 : List (List zg)} {s33 : List zj} (hn : 1 ≤ s1 ∧ s1 ≤ 6) {mk : zF} (hm : XF mk) :
    ∃ mk' l, yz Yb (s1, s2, 0, s4, s5, s6, s7, s8, s9, s10, s11, s12, s13, mk, s15, s16, s17, s18, s19, s20, s21, s22, s23, s24, [], s26, s27, s28, s29, s30, s31, s32, s33, ()) = some (.brk (s1, s2, s4, s5, s6, s7, s8, s9, s10, s11, s12, s13, mk', s15, s16, s17, s18, s19, s20, s21, s22, s23, s24, l, s26, s27, s28, s29, s30, s31, s32, s33, ())) ∧ XF mk' ∧ (1 ≤ (l.length : Int) ∧ (l.length : Int) ≤ 3) ∧ ∀ v ∈ l, 0 ≤ v ∧ v ≤ s1 := by
  refine (uc (f := Yb)
    (fun a => ∃ i mk l, a = (s1, s2, i, s4, s5, s6, s7, s8, s9, s10, s11, s12, s13, mk, s15, s16, s17, s18, s19, s20, s21, s22, s23, s24, l, s26, s27, s28, s29, s30, s31, s32, s33, ()) ∧ XF mk ∧ (0 ≤ i ∧ i ≤ 3 ∧ (l.length : Int) = i) ∧ ∀ v ∈ l, 0 ≤ v ∧ v ≤ s1)
    (fun a => (3 - a.2.2.1).toNat)
    (fun o => match o with | .brk b => ∃ mk l, b = (s1, s2, s4, s5, s6, s7, s8, s9, s10, s11, s12, s13, mk, s15, s16, s17, s18, s19, s20, s21, s22, s23, s24, l, s26, s27, s28, s29, s30, s31, s32, s33, ()) ∧ XF mk ∧ (1 ≤ (l.length : Int) ∧ (l.length : Int) ≤ 3) ∧ ∀ v ∈ l, 0 ≤ v ∧ v ≤ s1 | _ => False) ?_
    (s1, s2, 0, s4, s5, s6, s7, s8, s9, s10, s11, s12, s13, mk, s15, s16, s17, s18, s19, s20, s21, s22, s23, s24, [], s26, s27, s28, s29, s30, s31, s32, s33, ()) ⟨0, mk, [], rfl, hm, by simp, by simp⟩ (wX (by simp))).elim fun o h => ?_
  rotate_left
  · obtain ⟨ho, hq⟩ := h
    cases o with
    | again a => exact hq.elim
    | ret a => exact hq.elim
    | brk b =>
      obtain ⟨mk', l, rfl, h1, h2, h3⟩ := hq
      exact ⟨mk', l, ho, h1, h2, h3⟩
  · rintro _ ⟨i, mk, l, rfl, h1, h2, h3⟩
    obtain ⟨b0, mk0, e0, r0, k0⟩ := vW h1
    have t0 := vh r0.1 (show (0 : Int) < 3 by omega)
    rw [zhl, e0, Option.bind_some, zq, yf (a := 1 + b0.tmod 3) (by omega) (by omega)]
    by_cases hi : i < 1 + b0.tmod 3
    · rw [if_pos hi]
      obtain ⟨b, mk', e, r, k⟩ := vW k0
      have w1 : w64 (s1 + 1) = s1 + 1 := yf (by omega) (by omega)
      have t := vh r.1 (show 0 < s1 + 1 by omega)
      rw [e, Option.bind_some, w1, zq, if_neg (by omega), wx (by simp; omega), Option.bind_some, yf (a := i + 1) (by omega) (by omega)]
      refine ⟨_, rfl, ⟨i + 1, mk', l ++ [b.tmod (s1 + 1)], rfl, k, by simp; omega, fun v hv => ?_⟩, ?_⟩
      · rcases List.mem_append.1 hv with hv | hv
        · exact h3 v hv
        · simp at hv; omega
      · show (3 - (i + 1)).toNat < (3 - i).toNat
        omega
    · rw [if_neg hi]
      exact ⟨_, rfl, mk0, l, rfl, k0, by omega, h3⟩
theorem zyo {s1 : Int} {s2 : Int} {s4 : Int} {s5 : Int} {s6 : Int} {s7 : Int} {s8 : Int} {s9 : Int} {s10 : Int} {s11 : Int} {s12 : Int} {s13 : BitVec 64} {s15 : Int} {s16 : Int} {s17 : Int} {s18 : Int} {s19 : Int} {s20 : Int} {s21 : Int} {s22 : Int} {s23 : Int} {s24 : BitVec 64} {s25 : List Int} {s27 : List (List Int)} {s28 : List (List Int)} {s29 : List (List zg)} {s30 : List zj} {s31 : List (List Int)} {s32 : List (List Int)} {s33 : List (List zg)} {s34 : List zj} (hr : 1 ≤ (s25.length : Int)) (hs : 1 ≤ s23 ∧ s23 ≤ 2) {k0 : Int} (hk : 0 ≤ k0 ∧ k0 < 8) {mk : zF} (hm : XF mk) :
    ∃ mk' l, yz uH (s1, s2, k0, s4, s5, s6, s7, s8, s9, s10, s11, s12, s13, mk, s15, s16, s17, s18, s19, s20, s21, s22, s23, s24, s25, [], s27, s28, s29, s30, s31, s32, s33, s34, ()) = some (.brk (s1, s2, s4, s5, s6, s7, s8, s9, s10, s11, s12, s13, mk', s15, s16, s17, s18, s19, s20, s21, s22, s23, s24, s25, l, s27, s28, s29, s30, s31, s32, s33, s34, ())) ∧ XF mk' ∧ (l.length : Int) ≤ 7 ∧ ∀ o ∈ l, zci o (s25.length : Int) s23 := by
  refine (uc (f := uH)
    (fun a => ∃ i mk l, a = (s1, s2, i, s4, s5, s6, s7, s8, s9, s10, s11, s12, s13, mk, s15, s16, s17, s18, s19, s20, s21, s22, s23, s24, s25, l, s27, s28, s29, s30, s31, s32, s33, s34, ()) ∧ XF mk ∧ (0 ≤ i ∧ (l.length : Int) + i ≤ 7) ∧ ∀ o ∈ l, zci o (s25.length : Int) s23)
    (fun a => (a.2.2.1).toNat)
    (fun o => match o with | .brk b => ∃ mk l, b = (s1, s2, s4, s5, s6, s7, s8, s9, s10, s11, s12, s13, mk, s15, s16, s17, s18, s19, s20, s21, s22, s23, s24, s25, l, s27, s28, s29, s30, s31, s32, s33, s34, ()) ∧ XF mk ∧ (l.length : Int) ≤ 7 ∧ ∀ o ∈ l, zci o (s25.length : Int) s23 | _ => False) ?_
    (s1, s2, k0, s4, s5, s6, s7, s8, s9, s10, s11, s12, s13, mk, s15, s16, s17, s18, s19, s20, s21, s22, s23, s24, s25, [], s27, s28, s29, s30, s31, s32, s33, s34, ()) ⟨k0, mk, [], rfl, hm, by simp; omega, by simp⟩ (wX (by simp; omega))).elim fun o h => ?_
  rotate_left
  · obtain ⟨ho, hq⟩ := h
    cases o with
    | again a => exact hq.elim
    | ret a => exact hq.elim
    | brk b =>
      obtain ⟨mk', l, rfl, h1, h2, h3⟩ := hq
      exact ⟨mk', l, ho, h1, h2, h3⟩
  · rintro _ ⟨i, mk, l, rfl, h1, h2, h3⟩
    rw [zhn, zq]
    by_cases hi : 0 < i
    · rw [if_pos hi]
      obtain ⟨o, mk', e, r, k⟩ := zAw h1 hr hs.1
      rw [e, Option.bind_some, wx (by simp; omega), Option.bind_some, yf (a := i - 1) (by omega) (by omega)]
      refine ⟨_, rfl, ⟨i - 1, mk', l ++ [o], rfl, k, by simp; omega, fun v hv => ?_⟩, ?_⟩
      · rcases List.mem_append.1 hv with hv | hv
        · exact h3 v hv
        · simp at hv; subst hv; exact r
      · show (i - 1).toNat < i.toNat
        omega
    · rw [if_neg hi]
      exact ⟨_, rfl, mk, l, rfl, h1, by omega, h3⟩
theorem zys {s1 : Int} {s3 : Int} {s4 : Int} {s5 : Int} {s6 : Int} {s7 : Int} {s8 : Int} {s9 : Int} {s10 : Int} {s11 : Int} {s12 : BitVec 64} {s14 : Int} {s15 : Int} {s16 : Int} {s17 : Int} {s18 : Int} {s19 : Int} {s20 : Int} {s21 : Int} {s22 : Int} {s23 : BitVec 64} {s24 : List (List Int)} {s25 : List (List Int)} {s26 : List (List zg)} {s27 : List zj} {s28 : List (List Int)} {s31 : List zj} (hn : 1 ≤ s1 ∧ s1 ≤ 6) (hm0 : 0 ≤ s15 ∧ s15 ≤ 2) (hs : 1 ≤ s22 ∧ s22 ≤ 2) {mk : zF} (hm : XF mk) :
    ∃ regs progs, yz Z6 (s1, 0, s3, s4, s5, s6, s7, s8, s9, s10, s11, s12, mk, s14, s15, s16, s17, s18, s19, s20, s21, s22, s23, s24, s25, s26, s27, s28, [], [], s31, ()) = some (.brk (s3, s4, s5, s6, s7, s8, s9, s10, s11, s12, s14, s15, s16, s17, s18, s19, s20, s21, s22, s23, s24, s25, s26, s27, s28, regs, progs, s31, ())) ∧ (regs.length : Int) = s15 ∧ (regs.length = progs.length) ∧ (∀ r ∈ regs, (1 ≤ (r.length : Int) ∧ (r.length : Int) ≤ 3) ∧ ∀ v ∈ r, 0 ≤ v ∧ v ≤ s1) ∧ ∀ (k : Nat) r ops, regs[k]? = some r → progs[k]? = some ops → (ops.length : Int) ≤ 7 ∧ ∀ o ∈ ops, zci o (r.length : Int) s22 := by
  refine (uc (f := Z6)
    (fun a => ∃ i mk regs progs, a = (s1, i, s3, s4, s5, s6, s7, s8, s9, s10, s11, s12, mk, s14, s15, s16, s17, s18, s19, s20, s21, s22, s23, s24, s25, s26, s27, s28, regs, progs, s31, ()) ∧ XF mk ∧ (0 ≤ i ∧ i ≤ s15 ∧ (regs.length : Int) = i) ∧ (regs.length = progs.length) ∧ (∀ r ∈ regs, (1 ≤ (r.length : Int) ∧ (r.length : Int) ≤ 3) ∧ ∀ v ∈ r, 0 ≤ v ∧ v ≤ s1) ∧ ∀ (k : Nat) r ops, regs[k]? = some r → progs[k]? = some ops → (ops.length : Int) ≤ 7 ∧ ∀ o ∈ ops, zci o (r.length : Int) s22)
    (fun a => (s15 - a.2.1).toNat)
    (fun o => match o with | .brk b => ∃ regs progs, b = (s3, s4, s5, s6, s7, s8, s9, s10, s11, s12, s14, s15, s16, s17, s18, s19, s20, s21, s22, s23, s24, s25, s26, s27, s28, regs, progs, s31, ()) ∧ (regs.length : Int) = s15 ∧ (regs.length = progs.length) ∧ (∀ r ∈ regs, (1 ≤ (r.length : Int) ∧ (r.length : Int) ≤ 3) ∧ ∀ v ∈ r, 0 ≤ v ∧ v ≤ s1) ∧ ∀ (k : Nat) r ops, regs[k]? = some r → progs[k]? = some ops → (ops.length : Int) ≤ 7 ∧ ∀ o ∈ ops, zci o (r.length : Int) s22 | _ => False) ?_
    (s1, 0, s3, s4, s5, s6, s7, s8, s9, s10, s11, s12, mk, s14, s15, s16, s17, s18, s19, s20, s21, s22, s23, s24, s25, s26, s27, s28, [], [], s31, ()) ⟨0, mk, [], [], rfl, hm, by simp; omega, rfl, by simp, by simp⟩ (wX (by simp; omega))).elim fun o h => ?_
  rotate_left
  · obtain ⟨ho, hq⟩ := h
    cases o with
    | again a => exact hq.elim
    | ret a => exact hq.elim
    | brk b =>
      obtain ⟨regs, progs, rfl, h⟩ := hq
      exact ⟨regs, progs, ho, h⟩
  · rintro _ ⟨i, mk, regs, progs, rfl, h1, h2, h3, h4, h5⟩
    rw [zgG, zq]
    by_cases hi : i < s15
    · rw [if_pos hi]
      obtain ⟨mk1, r, e, g1, g2, g3⟩ := zxO hn h1
      rw [e]
      simp only [Option.bind_some]
      rw [zq, if_neg (by omega)]
      obtain ⟨b, mk2, e2, r2, k2⟩ := vW g1
      rw [e2, Option.bind_some]
      obtain ⟨mk3, ops, e3, f1, f2, f3⟩ := zyo (s25 := r) g2.1 hs (vh r2.1 (show (0 : Int) < 8 by omega)) k2
      rw [e3]
      simp only [Option.bind_some]
      rw [wx (by simp; omega), Option.bind_some, wx (by simp; omega), Option.bind_some, yf (a := i + 1) (by omega) (by omega)]
      refine ⟨_, rfl, ⟨i + 1, mk3, regs ++ [r], progs ++ [ops], rfl, f1, by simp; omega, by simp [h3], fun v hv => ?_, fun k r' ops' hk1 hk2 => ?_⟩, ?_⟩
      · rcases List.mem_append.1 hv with hv | hv
        · exact h4 v hv
        · simp at hv; subst hv; exact ⟨g2, g3⟩
      · rcases Nat.lt_or_ge k regs.length with hlt | hge
        · rw [List.getElem?_append_left hlt] at hk1
          rw [List.getElem?_append_left (by omega)] at hk2
          exact h5 k r' ops' hk1 hk2
        · rw [List.getElem?_append_right hge] at hk1
          rw [List.getElem?_append_right (by omega), ← h3] at hk2
          have hk0 : k - regs.length = 0 := by
            have := (List.getElem?_eq_some_iff.1 hk1).1
            simpa using this
          rw [hk0] at hk1 hk2
          simp at hk1 hk2
          subst hk1; subst hk2
          exact ⟨f2, f3⟩
      · show (s15 - (i + 1)).toNat < (s15 - i).toNat
        omega
    · rw [if_neg hi]
      exact ⟨_, rfl, regs, progs, rfl, by omega, h3, h4, h5⟩
theorem zzj (l : List (BitVec 8)) : ∃ p, zai l = some (p, ()) ∧ zG p := by
  rw [zka, zq]
  obtain ⟨m, em, hl⟩ : ∃ m, cut l 0 (if 90 < (l.length : Int) then 90 else (l.length : Int)) = some m ∧ m.length ≤ 90 := by
    unfold cut
    by_cases h : 90 < (l.length : Int)
    · have h2 : (90 : Int) ≤ l.length := by omega
      rw [if_pos h]; exact ⟨l.take 90, by simp [h2], List.length_take_le _ _⟩
    · rw [if_neg h]; exact ⟨l, by simp, by omega⟩
  rw [em, Option.bind_some]
  obtain ⟨b1, m1, e1, r1, k1⟩ := vW (m := ⟨m, 0⟩) ⟨by simp, by simp, hl⟩
  obtain ⟨b2, m2, e2, r2, k2⟩ := vW k1
  obtain ⟨b3, m3, e3, r3, k3⟩ := vW k2
  obtain ⟨b4, m4, e4, r4, k4⟩ := vW k3
  obtain ⟨b5, m5, e5, r5, k5⟩ := vW k4
  obtain ⟨b6, m6, e6, r6, k6⟩ := vW k5
  obtain ⟨b7, m7, e7, r7, k7⟩ := vW k6
  obtain ⟨b8, m8, e8, r8, k8⟩ := vW k7
  obtain ⟨b9, m9, e9, r9, k9⟩ := vW k8
  obtain ⟨b10, m10, e10, r10, k10⟩ := vW k9
  simp only [e1, e2, e3, e4, e5, e6, e7, e8, e9, e10, Option.bind_some]
  have t1 := vh r1.1 (show (0 : Int) < 3 by omega)
  have t2 := vh r2.1 (show (0 : Int) < 3 by omega)
  have t3 := vh r3.1 (show (0 : Int) < 3 by omega)
  have t4 := vh r4.1 (show (0 : Int) < 2 by omega)
  have t5 := vh r5.1 (show (0 : Int) < 3 by omega)
  have t6 := vh r6.1 (show (0 : Int) < 4 by omega)
  have t7 := vh r7.1 (show (0 : Int) < 4 by omega)
  have t8 := vh r8.1 (show (0 : Int) < 2 by omega)
  have t9 := vh r9.1 (show (0 : Int) < 6 by omega)
  have t10 := vh r10.1 (show (0 : Int) < 4 by omega)
  rw [yf (a := 1 + b9.tmod 6) (by omega) (by omega), yf (a := 1 + b1.tmod 3) (by omega) (by omega), yf (a := 1 + b3.tmod 3) (by omega) (by omega), yf (a := 1 + b4.tmod 2) (by omega) (by omega), yf (a := 1 + b5.tmod 3) (by omega) (by omega),
    yf (a := 1 + b9.tmod 6 + b10.tmod 4) (by omega) (by omega), yf (a := 1 + b8.tmod 2) (by omega) (by omega)]
  obtain ⟨m11, objs, e11, g1, g2, g3⟩ := zzk (s1 := 1 + b9.tmod 6) (s22 := 1 + b8.tmod 2) (by omega) (by omega) k10
  rw [e11]
  simp only [Option.bind_some]
  obtain ⟨b12, m12, e12, r12, k12⟩ := vW g1
  rw [e12, Option.bind_some, yf (a := 1 + b9.tmod 6 + 1) (by omega) (by omega), zq, if_neg (by omega)]
  have t12 := vh r12.1 (show (0 : Int) < 1 + b9.tmod 6 + 1 by omega)
  rw [zgm, Option.bind_some]
  obtain ⟨regs, progs, e13, f1, f2, f3, f4⟩ := zys (s1 := 1 + b9.tmod 6) (s15 := b2.tmod 3) (s22 := 1 + b8.tmod 2) (by omega) (by omega) (by omega) k12
  rw [e13]
  simp only [Option.bind_some]
  refine ⟨_, rfl, ?_⟩
  constructor <;> dsimp only
  case objs => intro o ho; rw [g2]; exact g3 o ho
  case roots => exact ⟨b12.tmod (1 + b9.tmod 6 + 1), by omega, by omega, by simp⟩
  case reg => rw [g2]; exact f3
  case prog => exact f4
  all_goals first | omega | rfl
end B16
end
end Go.Pe.G
namespace Go.Pe.G
open Go.Pe
noncomputable section
theorem U0 {α β B C : Type} {f : List α × Int × Int × β → Option (xg (List α × Int × Int × β) B C)} {l : List α} {e : β} {b : B} (hl : l.length < 1000000)
    (h1 : ∀ (i : Nat) (x : α), l[i]? = some x → f (l, (l.length : Int), (i : Int), e) = some (.again (l, (l.length : Int), ((i + 1 : Nat) : Int), e)))
    (h2 : f (l, (l.length : Int), (l.length : Int), e) = some (.brk b)) : yz f (l, (l.length : Int), 0, e) = some (.brk b) := by
  refine (uc (f := f) (fun a => ∃ i : Nat, a = (l, (l.length : Int), (i : Int), e) ∧ i ≤ l.length) (fun a => l.length - a.2.2.1.toNat) (fun o => o = .brk b) ?_ (l, (l.length : Int), 0, e) ⟨0, rfl, by omega⟩ (wX (by simp; omega))).elim fun o h => ?_
  rotate_left
  · rw [h.1, h.2]
  · rintro _ ⟨i, rfl, hi⟩
    rcases Nat.lt_or_ge i l.length with hlt | hge
    · refine ⟨_, h1 i _ (List.getElem?_eq_getElem hlt), ⟨i + 1, rfl, hlt⟩, ?_⟩
      show l.length - ((i + 1 : Nat) : Int).toNat < l.length - (i : Int).toNat
      omega
    · have : i = l.length := by omega
      subst this
      exact ⟨_, h2, rfl⟩
theorem wm {α : Type} {l : List α} {i : Nat} {x : α} (h : l[i]? = some x) : idx l (i : Int) = some x := by
  rw [v7 (by omega)]; simpa using h
theorem uk {α : Type} {l : List α} {i : Nat} {x : α} (h : l[i]? = some x) : (i : Int) < (l.length : Int) := by
  have := (List.getElem?_eq_some_iff.1 h).1; omega
theorem xD {i : Nat} (h : i < 1000000) : w64 ((i : Int) + 1) = ((i + 1 : Nat) : Int) := by
  rw [yf (by omega) (by omega)]; omega
theorem zdY (a b c : Int) : vT a b c = some (decide (b ≤ a ∧ a ≤ c), ()) := by
  rw [znP, zq]
  by_cases h : b ≤ a
  · rw [if_pos h]; simp [h]
  · rw [if_neg h]; simp [h]
theorem zvx {l : List Int} {h : zo} (hl : l.length < 1000000) (hv : ∀ v ∈ l, 0 ≤ v ∧ v ≤ (h.Objs.length : Int)) : xT l h = some (false, ()) := by
  rw [Yw, Y5, U0 (b := ()) hl (fun i x hx => ?_) (by rw [vl]; simp)]
  · rfl
  · have hm := hv x (List.mem_of_getElem? hx)
    have hlt := uk hx
    rw [vl, zq, if_pos hlt, wm hx, Option.bind_some, zlu, zq, if_neg (show ¬ x < 0 by omega), Option.bind_some, xD (by omega)]
    simp [show ¬ (h.Objs.length : Int) < x by omega]
theorem zwE {l : List Int} {n : Int} (hl : l.length < 1000000) (hv : ∀ v ∈ l, 0 ≤ v ∧ v ≤ n) : x8 l n = some (false, ()) := by
  rw [YV, XA, U0 (b := ()) hl (fun i x hx => ?_) (by rw [vA]; simp)]
  · rfl
  · have hm := hv x (List.mem_of_getElem? hx)
    have hlt := uk hx
    rw [vA, wm hx, Option.bind_some, znm, zdY, Option.bind_some, Option.bind_some, xD (by omega), zq, if_pos hlt]
    simp [hm]
theorem zrv {l : List (List Int)} {h : zo} (hl : l.length < 1000000) (hs : h.Slots < 1000000) (hv : ∀ o ∈ l, (o.length : Int) = h.Slots ∧ ∀ v ∈ o, 0 ≤ v ∧ v ≤ (h.Objs.length : Int)) : xR l h = some (false, ()) := by
  rw [Yo, Xd, U0 (b := ()) hl (fun i x hx => ?_) (by rw [vi]; simp)]
  · rfl
  · have hm := hv x (List.mem_of_getElem? hx)
    have hlt := uk hx
    rw [vi, wm hx, Option.bind_some, znr, yI, if_pos hm.1, zvx (by omega) hm.2, Option.bind_some, Option.bind_some, xD (by omega), zq, if_pos hlt]
    rfl
theorem zpN {r n : Int} (h : 0 ≤ r ∧ r < n) (h2 : n ≤ 4) : zY r n = some (true, ()) := by
  rw [zno, zq, if_pos h.1, zq]
  rw [if_neg (by omega)]
  simp [h.2]
theorem zyd {o : zg} {regs slots : Int} (h : zci o regs slots) (h2 : regs ≤ 4) (h3 : slots ≤ 4) : zho o regs slots = some (true, ()) := by
  obtain ⟨hr, h⟩ := h
  have e1 := zpN hr h2
  have h4 : ¬ 4 < slots := by omega
  rw [zoD]
  rcases h with ⟨hk | hk, ha, hs⟩ | ⟨hk, ha, hs⟩ | ⟨hk | hk, ha, hs⟩
  · have e2 := zpN ha h2
    simp [hk, e1, e2, hs.1, hs.2, h4]
  · have e2 := zpN ha h2
    simp [hk, e1, e2, hs.1, hs.2, h4]
  · have e2 := zpN ha h2
    simp [hk, e1, e2, hs]
  · simp [hk, e1, ha, hs]
  · simp [hk, e1, ha, hs]
theorem zzo {l : List zg} {regs slots : Int} (hl : (l.length : Int) ≤ 64) (h : ∀ o ∈ l, zci o regs slots) (h2 : regs ≤ 4) (h3 : slots ≤ 4) : ziU l regs slots = some (true, ()) := by
  rw [zqW, zq, if_pos hl, ZJ, Z2, U0 (b := ()) (by omega) (fun i x hx => ?_) (by rw [wI]; simp)]
  · rfl
  · have hlt := uk hx
    rw [wI, wm hx, Option.bind_some, znY, zyd (h x (List.mem_of_getElem? hx)) h2 h3, Option.bind_some, Option.bind_some, xD (by omega), zq, if_pos hlt]
    rfl
theorem zwU (a b : Int) : zgt [] a b = some (true, ()) := by
  rw [zp3, uZ, Zw, U0 (b := ()) (by simp) (fun i x hx => by simp at hx) (by rw [u0]; simp)]
  rfl
def wS (n : Int) : BitVec 64 := if n < 1 then 0#64 else 18446744073709551615#64 >>> (64 - min n 64).toNat
theorem zrI (n : Int) (h : 0 ≤ n) : zd2 n = some (wS n, ()) := by
  rw [zq9, zq]
  unfold wS
  by_cases h1 : n < 1
  · rw [if_pos h1, if_pos h1]
  · rw [if_neg h1, if_neg h1]
    simp only [zq]
    have e : (if 64 < n then (64 : Int) else n) = min n 64 := by
      by_cases h2 : 64 < n
      · rw [if_pos h2]; omega
      · rw [if_neg h2]; omega
    rw [e, yf (by omega) (by omega), if_neg (by omega), Nat.min_eq_left (by omega)]
theorem zrz : ∀ (r n : Fin 7), r.1 ≤ n.1 → bit (r.1 : Int) &&& ~~~wS (n.1 : Int) = 0#64 := by decide
theorem znK {p : zc} (h : zG p) : p.Roots &&& ~~~wS (p.H.Objs.length : Int) = 0#64 := by
  obtain ⟨r, h1, h2, h3⟩ := h.roots
  have hn := h.n
  have := zrz ⟨r.toNat, by omega⟩ ⟨p.H.Objs.length, by omega⟩ (by show r.toNat ≤ p.H.Objs.length; omega)
  rw [h3]
  simpa [Int.toNat_of_nonneg h1] using this
theorem zvB {p : zc} (h : zG p) : zam p = some (true, ()) := by
  obtain ⟨h1, h2, h3, h4, h5, h6, h7, _⟩ := h
  rw [zk4]
  simp only [zdY, Option.bind_some, zq]
  rw [if_pos (by omega), if_pos (by omega), if_pos (by omega), if_pos (by omega), if_pos (by omega), if_pos (by split <;> omega)]
  have : (if p.Price < p.Limit then p.Limit else p.Price) ≤ 1000000 := by split <;> omega
  simp [this]
theorem zvJ {p : zc} (h : zG p) : WT p.H = some (true, ()) := by
  have := h.slots
  have := h.n
  rw [zii, zq, if_pos (by omega), zq, if_pos (by omega), zq, if_pos (by omega), zrv (by omega) (by omega) h.objs]
  rfl
theorem zvt {p : zc} (h : zG p) : zgX p = some (true, ()) := by
  have hn := h.n
  have hm := h.most
  have hsl := h.slots
  have hmt := h.mt
  have hrl := h.regs
  have hpl := h.progs
  rw [zp9, zvB h]
  simp only [Option.bind_some, Bool.not_true, cond_false, zvJ h, zdY]
  rw [show decide ((p.H.Objs.length : Int) ≤ p.Most ∧ p.Most ≤ 64) = true by simp; omega]
  simp only [Bool.not_true, cond_false, zrI _ (show (0 : Int) ≤ (p.H.Objs.length : Int) by omega), Option.bind_some, zjE, znK h, decide_true, yI, if_pos h.regs, if_pos h.progs]
  rw [U0 (b := (p, ())) (by omega) (fun i x hx => ?_) (by rw [zeb]; simp)]
  · simp [h.picks, zwU]
  · have hlt := uk hx
    have hr := h.reg x (List.mem_of_getElem? hx)
    obtain ⟨ops, hops⟩ : ∃ ops, p.Progs[i]? = some ops := ⟨_, List.getElem?_eq_getElem (by omega)⟩
    obtain ⟨o1, o2⟩ := h.prog i x ops hx hops
    rw [zeb, zq, if_pos hlt, wm hx]
    simp only [Option.bind_some, zdY]
    rw [show decide (1 ≤ (x.length : Int) ∧ (x.length : Int) ≤ 4) = true by simp; omega]
    simp only [Bool.not_true, cond_false, zwE (show x.length < 1000000 by omega) hr.2, Option.bind_some, wm hops, zzo (show (ops.length : Int) ≤ 64 by omega) o2 (show (x.length : Int) ≤ 4 by omega) (show p.H.Slots ≤ 4 by omega), xD (show i < 1000000 by omega)]
end
end Go.Pe.G
namespace Go.Pe.G
open Go.Pe
noncomputable section
theorem zgO {n : Int} (h : 0 ≤ n) (h2 : n < 4294967296) : Xp n = some n.toNat := by rw [ziB]; simp [h, h2]
theorem zrH {n : Int} (h : 0 < n) (h2 : n < 4294967296) : zea n = some n.toNat := by rw [zpD]; simp [h, h2]
def YI (l : List Int) : BitVec 64 := l.foldl (fun s o => s ||| bit o) 0#64
def Zn (p : zc) : BitVec 64 := p.Regs.foldl (fun s l => s ||| YI l) p.Roots
def zAB (a1 : BitVec 64) : BitVec 64 :=
  let a := ((a1 >>> 1) &&& 6148914691236517205#64) + (a1 &&& 6148914691236517205#64)
  let b := ((a >>> 2) &&& 3689348814741910323#64) + (a &&& 3689348814741910323#64)
  let c := ((b >>> 4) + b) &&& 1085102592571150095#64
  let d := c + (c >>> 8)
  let e := d + (d >>> 16)
  e + (e >>> 32)
def cnt (s : BitVec 64) : Int := (BitVec.ofInt 64 (zAB s).toInt &&& BitVec.ofInt 64 127).toInt
theorem zxu (s : BitVec 64) : zjt s = some (cnt s, ()) := by
  rw [zqj, zjy, ztQ]; rfl
theorem Vm {m : List Int} (h : m.length < 4294967296) : yZ m = some (m, ()) := by
  rw [zeX, List.nil_append, wx h, Option.bind_some]
  cases m with
  | nil => simp [zih]
  | cons a l => simp
theorem zsD {l : List Int} (hl : l.length < 1000000) : zgR l = some (YI l, ()) := by
  rw [zuh]
  refine (uc (f := zjc) (fun a => ∃ i : Nat, a = ((l.take i).foldl (fun s o => s ||| bit o) 0#64, l, (l.length : Int), (i : Int), ()) ∧ i ≤ l.length) (fun a => l.length - a.2.2.2.1.toNat) (fun o => o = .brk (YI l, ())) ?_ (0#64, l, (l.length : Int), 0, ()) ⟨0, rfl, by omega⟩ (wX (by simp; omega))).elim fun o h => ?_
  rotate_left
  · rw [h.1, h.2]; rfl
  · rintro _ ⟨i, rfl, hi⟩
    rw [zqo, zq]
    rcases Nat.lt_or_ge i l.length with hlt | hge
    · have hx := List.getElem?_eq_getElem hlt
      rw [if_pos (by omega), wm hx, Option.bind_some, zgm, Option.bind_some, xD (by omega)]
      refine ⟨_, rfl, ⟨i + 1, ?_, hlt⟩, ?_⟩
      · rw [List.take_add_one, hx]; simp only [Option.toList_some, List.foldl_append, List.foldl_cons, List.foldl_nil]
      · show l.length - ((i + 1 : Nat) : Int).toNat < l.length - (i : Int).toNat
        omega
    · rw [if_neg (by omega)]
      have : i = l.length := by omega
      subst this
      exact ⟨_, rfl, by rw [List.take_length]; rfl⟩
theorem zoQ {p : zc} (hl : p.Regs.length < 1000000) (hr : ∀ r ∈ p.Regs, r.length < 1000000) : zcx p = some (Zn p, ()) := by
  rw [zo9]
  refine (uc (f := zbN) (fun a => ∃ i : Nat, a = ((p.Regs.take i).foldl (fun s l => s ||| YI l) p.Roots, p.Regs, (p.Regs.length : Int), (i : Int), ()) ∧ i ≤ p.Regs.length) (fun a => p.Regs.length - a.2.2.2.1.toNat) (fun o => o = .brk (Zn p, ())) ?_ (p.Roots, p.Regs, (p.Regs.length : Int), 0, ()) ⟨0, rfl, by omega⟩ (wX (by simp; omega))).elim fun o h => ?_
  rotate_left
  · rw [h.1, h.2]; rfl
  · rintro _ ⟨i, rfl, hi⟩
    rw [zlK, zq]
    rcases Nat.lt_or_ge i p.Regs.length with hlt | hge
    · have hx := List.getElem?_eq_getElem hlt
      rw [if_pos (by omega), wm hx, Option.bind_some, zsD (hr _ (List.getElem_mem hlt)), Option.bind_some, xD (by omega)]
      refine ⟨_, rfl, ⟨i + 1, ?_, hlt⟩, ?_⟩
      · rw [List.take_add_one, hx]; simp only [Option.toList_some, List.foldl_append, List.foldl_cons, List.foldl_nil]
      · show p.Regs.length - ((i + 1 : Nat) : Int).toNat < p.Regs.length - (i : Int).toNat
        omega
    · rw [if_neg (by omega)]
      have : i = p.Regs.length := by omega
      subst this
      exact ⟨_, rfl, by rw [List.take_length]; rfl⟩
theorem zwM {l : List (List Int)} (hl : l.length < 1000000) (h : ∀ r ∈ l, r.length < 1000000) : wQ l = some (l, ()) := by
  have key : ∀ n : Int, n = (l.length : Int) → yz yM (n, 0, l, ()) = some (.brk (l, ())) := by
    rintro _ rfl
    refine (uc (f := yM) (fun a => ∃ i : Nat, a = ((l.length : Int), (i : Int), l, ()) ∧ i ≤ l.length) (fun a => l.length - a.2.1.toNat) (fun o => o = .brk (l, ())) ?_ ((l.length : Int), 0, l, ()) ⟨0, rfl, by omega⟩ (wX (by simp; omega))).elim fun o h => ?_
    rotate_left
    · rw [h.1, h.2]
    · rintro _ ⟨i, rfl, hi⟩
      rw [Xf, zq]
      rcases Nat.lt_or_ge i l.length with hlt | hge
      · have hx := List.getElem?_eq_getElem hlt
        have hr := h _ (List.getElem_mem hlt)
        have e : xS l (i : Int) = some i := by rw [uI (by omega) (by omega)]; simp
        rw [if_pos (by omega), e]
        simp only [Option.bind_some]
        rw [hx, Option.bind_some, Vm (by omega), Option.bind_some, xD (by omega)]
        refine ⟨_, rfl, ⟨i + 1, by simp, hlt⟩, ?_⟩
        show l.length - ((i + 1 : Nat) : Int).toNat < l.length - (i : Int).toNat
        omega
      · rw [if_neg (by omega)]
        have : i = l.length := by omega
        subst this
        exact ⟨_, rfl, rfl⟩
  have hc : Xp (l.length : Int) = some l.length := by rw [zgO (by omega) (by omega)]; simp
  rw [XW]
  simp only [decide_true, cond_true, hc, Option.bind_some, List.length_replicate]
  cases l with
  | nil => simp; rw [key 0 rfl]; rfl
  | cons a r => simp only [List.isEmpty_cons, cond_false]; rw [key _ rfl]; rfl
def zeH (cap : Int) : List (BitVec 64) := [1#64, 1#64] ++ List.replicate cap.toNat 0#64
theorem zuF {c : Int} (h : 1 ≤ c) (h2 : c ≤ 64) : ze0 c = some (zeH c, ()) := by
  have e : (if 64 < (if c < 1 then (1 : Int) else c) then (64 : Int) else (if c < 1 then (1 : Int) else c)) = c := by
    rw [if_neg (show ¬ c < 1 by omega), if_neg (by omega)]
  have w : w64 (2 + c) = 2 + c := yf (by omega) (by omega)
  have hc : Xp (2 + c) = some (2 + c.toNat) := by rw [zgO (by omega) (by omega)]; congr 1; omega
  rw [zog]
  simp only [zq, e, w, if_true, hc, Option.bind_some]
  rw [uI (by omega) (by simp; omega), Option.bind_some, uI (by omega) (by simp; omega), Option.bind_some]
  have e2 : List.replicate (2 + c.toNat) 0#64 = 0#64 :: 0#64 :: List.replicate c.toNat 0#64 := by rw [Nat.add_comm 2]; rfl
  rw [e2]; rfl
theorem zvK {m : Int} (h : 0 ≤ m) (h2 : m ≤ 16) : zgM m = some (⟨0, 0, 0, List.replicate m.toNat 0⟩, ()) := by
  have e : (if (if 16 < m then (16 : Int) else m) < 0 then (0 : Int) else (if 16 < m then (16 : Int) else m)) = m := by
    rw [if_neg (show ¬ 16 < m by omega), if_neg (by omega)]
  have hc : Xp m = some m.toNat := zgO (by omega) (by omega)
  rw [zpk]
  simp only [zq, e, if_true, hc, Option.bind_some]
def links (m : List (BitVec 64)) (next : Int) : List Int → List (BitVec 64)
  | [] => m
  | [a] => st m (wc (next + a)) 0#64
  | a :: b :: l => links (st m (wc (next + a)) (BitVec.ofInt 64 b)) next (b :: l)
def za6 (m : List (BitVec 64)) (head next : Int) (l : List Int) : List (BitVec 64) := st (links m next l) head (yW 0#64 (l.headD 0))
theorem ZD (m : List (BitVec 64)) (a : Int) (v : BitVec 64) : (st m a v).length = m.length := by unfold st; split <;> simp
theorem zbo : ∀ (l : List Int) (m : List (BitVec 64)) (n : Int), (links m n l).length = m.length
  | [], _, _ => rfl
  | [a], m, n => ZD _ _ _
  | a :: b :: l, m, n => by simp only [links]; rw [zbo (b :: l), ZD]
theorem zoz (m : List (BitVec 64)) (h n : Int) (l : List Int) : (za6 m h n l).length = m.length := by unfold za6; rw [ZD, zbo]
theorem zol {head next : Int} {l : List Int} (hl : l.length < 1000000) : ∀ (k : Nat) (m : List (BitVec 64)) (i : Nat), l.length - i = k → i ≤ l.length → m.length < 4294967296 →
    ∀ n, k < n → wg zdn n (m, head, next, l, (l.length : Int), (i : Int), ()) = some (.brk (links m next (l.drop i), head, l, ()))
  | 0, m, i, hk, hi, hm, n + 1, hn => by
    have : i = l.length := by omega
    subst this
    simp only [wg]
    rw [zfy, zq, if_neg (by omega), Option.bind_some, List.drop_length]; rfl
  | k + 1, m, i, hk, hi, hm, n + 1, hn => by
    have hlt : i < l.length := by omega
    have hx := List.getElem?_eq_getElem hlt
    simp only [wg]
    rw [zfy, zq, if_pos (by omega), xD (by omega), zq, wN]
    by_cases h2 : i + 1 < l.length
    · have hy := List.getElem?_eq_getElem h2
      have ed : l.drop i = l[i] :: l[i + 1] :: l.drop (i + 2) := by
        rw [List.drop_eq_getElem_cons hlt, List.drop_eq_getElem_cons h2]
      rw [if_pos (by omega), wm hy, Option.bind_some, wm hx, Option.bind_some, zaK hm, Option.bind_some, Option.bind_some]
      dsimp only
      rw [zol hl k _ (i + 1) (by omega) (by omega) (by rw [ZD]; exact hm) n (by omega), ed]
      rw [List.drop_eq_getElem_cons h2]; rfl
    · have ed : l.drop i = [l[i]] := by
        rw [List.drop_eq_getElem_cons hlt, List.drop_eq_nil_of_le (by omega)]
      rw [if_neg (by omega), wm hx, Option.bind_some, zaK hm, Option.bind_some, Option.bind_some]
      dsimp only
      rw [zol hl k _ (i + 1) (by omega) (by omega) (by rw [ZD]; exact hm) n (by omega), ed, List.drop_eq_nil_of_le (by omega)]
      rfl
theorem zrJ {m : List (BitVec 64)} (hm : m.length < 4294967296) {head next : Int} {l : List Int} (hl : l.length < 1000000) : zdU m head next l = some (za6 m head next l, ()) := by
  have e := zol (head := head) (next := next) hl l.length m 0 (by omega) (by omega) hm Ze (wX (by omega))
  rw [show ((0 : Nat) : Int) = 0 from rfl] at e
  rw [zra, VG, e]
  simp only [Option.bind_some, List.drop_zero, zq]
  unfold za6
  cases l with
  | nil =>
    rw [if_neg (by simp), zga, Option.bind_some, zaK (by rw [zbo]; exact hm)]; rfl
  | cons a r =>
    have : idx (a :: r) 0 = some a := by rw [v7 (by omega)]; rfl
    rw [if_pos (by simp), this, Option.bind_some, zga, Option.bind_some, zaK (by rw [zbo]; exact hm)]; rfl
def zkp : Nat → BitVec 64 → Option (List Int)
  | 0, _ => none
  | f + 1, s => bif decide (s = 0#64) then some [] else (zkp f (s &&& (s - 1#64))).map fun l => (((Go.Lib.ctz 64 s.toNat : Nat) : Int) + 1) :: l
theorem zux : ∀ t : Fin 64, zkp 66 (BitVec.ofNat 64 t.1) = some (((List.range 6).filter fun i => (BitVec.ofNat 64 t.1).getLsbD i).map fun i : Nat => (i : Int) + 1) := by decide +kernel
def VF (s : BitVec 64) : List Int := ((List.range 6).filter fun i => s.getLsbD i).map fun i : Nat => (i : Int) + 1
theorem zsN {s : BitVec 64} (h : s &&& ~~~63#64 = 0#64) : ∃ t : Fin 64, s = BitVec.ofNat 64 t.1 := by
  have h2 : s = s &&& 63#64 := by
    apply BitVec.eq_of_getLsbD_eq
    intro i hi
    have := congrArg (fun x => x.getLsbD i) h
    simp only [BitVec.getLsbD_and, BitVec.getLsbD_not, hi, decide_true, Bool.true_and, BitVec.getLsbD_zero] at this ⊢
    cases h1 : s.getLsbD i <;> cases h3 : (63#64 : BitVec 64).getLsbD i <;> simp_all
  have h3 : s.toNat < 64 := by
    rw [h2, BitVec.toNat_and]
    exact Nat.lt_of_le_of_lt Nat.and_le_right (by decide)
  exact ⟨⟨s.toNat, h3⟩, by simp⟩
theorem zAm : ∀ t : Fin 64, Go.Lib.ctz 64 t.1 ≤ 64 := by decide +kernel
theorem zrN : ∀ (f : Nat) (s : BitVec 64), s.toNat < 64 → WV f s = zkp f s
  | 0, _, _ => rfl
  | f + 1, s, h => by
    simp only [WV, zkp]
    rw [zrN f _ (by rw [BitVec.toNat_and]; exact Nat.lt_of_le_of_lt Nat.and_le_left h)]
    have : Go.Lib.ctz 64 s.toNat ≤ 64 := zAm ⟨s.toNat, h⟩
    have e : w64 (tz s + 1) = ((Go.Lib.ctz 64 s.toNat : Nat) : Int) + 1 := by
      unfold tz
      exact yf (by omega) (by omega)
    rw [e]
theorem zkR : ∀ (l acc : List Int), (acc.length + l.length) < 4294967296 → Yc zfj l (acc, ()) = some (acc ++ l, ())
  | [], acc, _ => by simp [Yc]
  | a :: l, acc, h => by
    simp only [List.length_cons] at h
    rw [Yc, zoC, wx (by simp; omega), Option.bind_some, Option.bind_some, zkR l _ (by simp; omega)]
    simp
theorem zwD (s : BitVec 64) : (VF s).length ≤ 6 := by
  unfold VF
  rw [List.length_map]
  exact Nat.le_trans (List.length_filter_le _ _) (by simp)
theorem zxN {s : BitVec 64} (h : s &&& ~~~63#64 = 0#64) : zbT s = some (VF s, ()) := by
  obtain ⟨t, rfl⟩ := zsN h
  have e : zhD (BitVec.ofNat 64 t.1) = some (VF (BitVec.ofNat 64 t.1)) := by
    show WV 66 _ = _
    rw [zrN 66 _ (by simp; omega), zux t]; rfl
  have := zwD (BitVec.ofNat 64 t.1)
  rw [zlb, zld, Option.bind_some, e, Option.bind_some, zkR _ _ (by simp; omega)]
  rfl
theorem zp8 (n : Nat) (hn : 1 ≤ n) : ∀ (f : Nat) (l : List Int), (ur n f l).length ≤ l.length
  | 0, l => by simp [ur]
  | f + 1, [] => by simp [ur]
  | f + 1, x :: l => by
    have := zp8 n hn f ((x :: l).drop n)
    simp only [ur, List.length_cons, List.length_drop] at this ⊢
    omega
theorem ziW (n : Nat) : ∀ (f : Nat) (l c : List Int), c ∈ ur n f l → c.length ≤ l.length
  | 0, l, c, h => by simp [ur] at h
  | f + 1, [], c, h => by simp [ur] at h
  | f + 1, x :: l, c, h => by
    simp only [ur, List.mem_cons] at h
    rcases h with rfl | h
    · rw [List.length_take]; exact Nat.min_le_right _ _
    · have := ziW n f _ c h
      simp only [List.length_drop] at this
      omega
def uK (p : zc) (w : Nat) : zh := ⟨0, 0, 0, (w : Int) + 1, 0, [], ⟨2, 0, yq p ((w : Int) + 1), p.Cap, 0#64, 0#64, 0, 0⟩, ⟨0, 0, 0, 0, 0#64, 0, 0, 0⟩, ⟨0, 0, 0, 0, ⟨0, 0, 0, 0, 0#64, 0#64, 0, 0⟩, ⟨0, 0, 0, 0, 0#64, 0, 0, 0⟩, 0, 0⟩⟩
def ZY (p : zc) (k : Nat) : List (BitVec 64) := (List.range k).flatMap fun _ => zeH p.Cap
theorem zoW (c : Int) : (zeH c).length = c.toNat + 2 := by unfold zeH; rw [List.length_append, List.length_replicate]; exact Nat.add_comm _ _
theorem zi0 (p : zc) (k : Nat) : ZY p (k + 1) = ZY p k ++ zeH p.Cap := by unfold ZY; rw [List.range_succ, List.flatMap_append]; simp
theorem Vn (p : zc) : ∀ k, (ZY p k).length = k * (p.Cap.toNat + 2)
  | 0 => by simp [ZY]
  | k + 1 => by rw [zi0, List.length_append, Vn p k, zoW, Nat.succ_mul]
theorem zzN {p : zc} {s1 : BitVec 64} {s5 : Int} {s6 : Int} {s7 : Int} {s8 : Int} {s9 : Int} {s10 : Int} {s11 : Int} {s12 : Int} {s13 : Int} {s14 : BitVec 64} {s15 : Int} {s16 : zt} {s17 : Int} {s18 : Int} {s19 : Bool} {s20 : Bool} {s21 : Int} {s22 : Int} {s23 : Int} {s24 : Int} {s25 : zx} {s26 : zc} {s27 : Int} {s28 : zt} {s29 : Int} {s30 : Int} {s31 : Bool} {s32 : Bool} {s33 : Int} {s34 : zk} {s35 : zx} {s36 : List (List Int)} {s37 : List (List Int)} {s38 : List (List zg)} {s39 : List zj} {s40 : List (List Int)} {s41 : List (BitVec 64)} {s42 : List (List Int)} {s43 : List Int} {s44 : List Int} {s45 : List zh} {s46 : List zb} {s47 : List (List Int)} {s49 : List (List Int)} {s50 : List Int} {s52 : List zb} (hp : zG p) :
    yz UP (s1, p.Workers, 0, p, s5, s6, s7, s8, s9, s10, s11, s12, s13, s14, s15, s16, s17, s18, s19, s20, s21, s22, s23, s24, s25, s26, s27, s28, s29, s30, s31, s32, s33, s34, s35, s36, s37, s38, s39, s40, s41, s42, s43, s44, s45, s46, s47, [], s49, s50, [], s52, ()) = some (.brk (s1, p, s5, s6, s7, s8, s9, s10, s11, s12, s13, s14, s15, s16, s17, s18, s19, s20, s21, s22, s23, s24, s25, s26, s27, s28, s29, s30, s31, s32, s33, s34, s35, s36, s37, s38, s39, s40, s41, s42, s43, s44, s45, s46, s47, (ZY p p.Workers.toNat), s49, s50, ((List.range p.Workers.toNat).map (uK p)), s52, ())) := by
  have hw := hp.wk
  have hc := hp.cap
  refine (uc (f := UP) (fun a => ∃ i : Nat, a = (s1, p.Workers, (i : Int), p, s5, s6, s7, s8, s9, s10, s11, s12, s13, s14, s15, s16, s17, s18, s19, s20, s21, s22, s23, s24, s25, s26, s27, s28, s29, s30, s31, s32, s33, s34, s35, s36, s37, s38, s39, s40, s41, s42, s43, s44, s45, s46, s47, (ZY p i), s49, s50, ((List.range i).map (uK p)), s52, ()) ∧ (i : Int) ≤ p.Workers) (fun a => (p.Workers - a.2.2.1).toNat) (fun o => o = .brk (s1, p, s5, s6, s7, s8, s9, s10, s11, s12, s13, s14, s15, s16, s17, s18, s19, s20, s21, s22, s23, s24, s25, s26, s27, s28, s29, s30, s31, s32, s33, s34, s35, s36, s37, s38, s39, s40, s41, s42, s43, s44, s45, s46, s47, (ZY p p.Workers.toNat), s49, s50, ((List.range p.Workers.toNat).map (uK p)), s52, ())) ?_ (s1, p.Workers, 0, p, s5, s6, s7, s8, s9, s10, s11, s12, s13, s14, s15, s16, s17, s18, s19, s20, s21, s22, s23, s24, s25, s26, s27, s28, s29, s30, s31, s32, s33, s34, s35, s36, s37, s38, s39, s40, s41, s42, s43, s44, s45, s46, s47, [], s49, s50, [], s52, ()) ⟨0, rfl, by omega⟩ (wX (by dsimp only; omega))).elim fun o h => ?_
  rotate_left
  · rw [h.1, h.2]
  · rintro _ ⟨i, rfl, hi⟩
    rw [znc, zq]
    by_cases hlt : (i : Int) < p.Workers
    · have hl := Vn p i
      have hl2 := zoW p.Cap
      have hb : i * (p.Cap.toNat + 2) ≤ 3 * 5 := Nat.mul_le_mul (by omega) (by omega)
      rw [if_pos hlt, zuF hc.1 (by omega), Option.bind_some, wx (l := ZY p i ++ zeH p.Cap) (by rw [List.length_append]; omega), Option.bind_some, znA, Option.bind_some, zgz, Option.bind_some, wx (by simp <;> omega), Option.bind_some, xD (by omega)]
      refine ⟨_, rfl, ⟨i + 1, ?_, by omega⟩, ?_⟩
      · rw [zi0, List.range_succ, List.map_append]; rfl
      · show (p.Workers - ((i + 1 : Nat) : Int)).toNat < (p.Workers - (i : Int)).toNat
        omega
    · rw [if_neg hlt]
      have : i = p.Workers.toNat := by omega
      subst this
      exact ⟨_, rfl, rfl⟩
def xl (k : Nat) : List Int := (List.range k).map fun i : Nat => (i : Int) + 1
theorem ztm (k : Nat) : (xl k).length = k := by simp [xl]
theorem zyQ {b : Int} {s1 : BitVec 64} {s4 : zc} {s5 : Int} {s6 : Int} {s7 : Int} {s8 : Int} {s9 : Int} {s10 : Int} {s11 : Int} {s12 : Int} {s13 : Int} {s14 : BitVec 64} {s15 : Int} {s16 : zt} {s17 : Int} {s18 : Int} {s19 : Bool} {s20 : Bool} {s21 : Int} {s22 : Int} {s23 : Int} {s24 : Int} {s25 : zx} {s26 : zc} {s27 : Int} {s28 : zt} {s29 : Int} {s30 : Int} {s31 : Bool} {s32 : Bool} {s33 : Int} {s34 : zk} {s35 : zx} {s37 : List (List Int)} {s38 : List (List Int)} {s39 : List (List zg)} {s40 : List zj} {s41 : List (List Int)} {s42 : List (BitVec 64)} {s43 : List (List Int)} {s44 : List Int} {s45 : List Int} {s46 : List zh} {s47 : List zb} {s48 : List (List Int)} {s49 : List (BitVec 64)} {s50 : List (List Int)} {s51 : List Int} {s52 : List zh} {s53 : List zb} (hb : 0 ≤ b ∧ b < 1000) :
    yz Uo (s1, b, 0, s4, s5, s6, s7, s8, s9, s10, s11, s12, s13, s14, s15, s16, s17, s18, s19, s20, s21, s22, s23, s24, s25, s26, s27, s28, s29, s30, s31, s32, s33, s34, s35, [], s37, s38, s39, s40, s41, s42, s43, s44, s45, s46, s47, s48, s49, s50, s51, s52, s53, ()) = some (.brk (s1, s4, s5, s6, s7, s8, s9, s10, s11, s12, s13, s14, s15, s16, s17, s18, s19, s20, s21, s22, s23, s24, s25, s26, s27, s28, s29, s30, s31, s32, s33, s34, s35, (xl b.toNat), s37, s38, s39, s40, s41, s42, s43, s44, s45, s46, s47, s48, s49, s50, s51, s52, s53, ())) := by
  refine (uc (f := Uo) (fun a => ∃ i : Nat, a = (s1, b, (i : Int), s4, s5, s6, s7, s8, s9, s10, s11, s12, s13, s14, s15, s16, s17, s18, s19, s20, s21, s22, s23, s24, s25, s26, s27, s28, s29, s30, s31, s32, s33, s34, s35, (xl i), s37, s38, s39, s40, s41, s42, s43, s44, s45, s46, s47, s48, s49, s50, s51, s52, s53, ()) ∧ (i : Int) ≤ b) (fun a => (b - a.2.2.1).toNat) (fun o => o = .brk (s1, s4, s5, s6, s7, s8, s9, s10, s11, s12, s13, s14, s15, s16, s17, s18, s19, s20, s21, s22, s23, s24, s25, s26, s27, s28, s29, s30, s31, s32, s33, s34, s35, (xl b.toNat), s37, s38, s39, s40, s41, s42, s43, s44, s45, s46, s47, s48, s49, s50, s51, s52, s53, ())) ?_ (s1, b, 0, s4, s5, s6, s7, s8, s9, s10, s11, s12, s13, s14, s15, s16, s17, s18, s19, s20, s21, s22, s23, s24, s25, s26, s27, s28, s29, s30, s31, s32, s33, s34, s35, [], s37, s38, s39, s40, s41, s42, s43, s44, s45, s46, s47, s48, s49, s50, s51, s52, s53, ()) ⟨0, rfl, by omega⟩ (wX (by dsimp only; omega))).elim fun o h => ?_
  rotate_left
  · rw [h.1, h.2]
  · rintro _ ⟨i, rfl, hi⟩
    rw [zma, zq]
    by_cases hlt : (i : Int) < b
    · have := ztm i
      rw [if_pos hlt, wx (by rw [List.length_append]; simp; omega), Option.bind_some, xD (by omega)]
      refine ⟨_, rfl, ⟨i + 1, ?_, by omega⟩, ?_⟩
      · unfold xl; rw [List.range_succ, List.map_append]; rfl
      · show (b - ((i + 1 : Nat) : Int)).toNat < (b - (i : Int)).toNat
        omega
    · rw [if_neg hlt]
      have : i = b.toNat := by omega
      subst this
      exact ⟨_, rfl, rfl⟩
theorem zuZ {s1 : zc} {s2 : Int} {s3 : Int} {s4 : Int} {s5 : Int} {s6 : Int} {s7 : Int} {s8 : Int} {s9 : Int} {s10 : Int} {s11 : BitVec 64} {s12 : Int} {s13 : zt} {s14 : Int} {s15 : Int} {s16 : Bool} {s17 : Bool} {s18 : Int} {s19 : Int} {s20 : Int} {s21 : Int} {s22 : zx} {s23 : zc} {s24 : Int} {s25 : zt} {s26 : Int} {s27 : Int} {s28 : Bool} {s29 : Bool} {s30 : Int} {s31 : zk} {s32 : zx} {s33 : List Int} {s34 : List (List Int)} {s35 : List (List Int)} {s36 : List (List zg)} {s37 : List zj} {s38 : List (List Int)} {s39 : List (BitVec 64)} {s40 : List (List Int)} {s41 : List Int} {s42 : List Int} {s43 : List zh} {s44 : List zb} {s45 : List (List Int)} {s46 : List (BitVec 64)} {s48 : List Int} {s49 : List zh} {s50 : List zb} : ∀ (ys acc : List (List Int)), acc.length + ys.length < 1000000 → (∀ c ∈ ys, c.length < 1000000) → Yc zct ys (s1, s2, s3, s4, s5, s6, s7, s8, s9, s10, s11, s12, s13, s14, s15, s16, s17, s18, s19, s20, s21, s22, s23, s24, s25, s26, s27, s28, s29, s30, s31, s32, s33, s34, s35, s36, s37, s38, s39, s40, s41, s42, s43, s44, s45, s46, acc, s48, s49, s50, ()) = some (s1, s2, s3, s4, s5, s6, s7, s8, s9, s10, s11, s12, s13, s14, s15, s16, s17, s18, s19, s20, s21, s22, s23, s24, s25, s26, s27, s28, s29, s30, s31, s32, s33, s34, s35, s36, s37, s38, s39, s40, s41, s42, s43, s44, s45, s46, (acc ++ ys), s48, s49, s50, ())
  | [], acc, _, _ => by simp [Yc]
  | y :: ys, acc, h, hc => by
    simp only [List.length_cons] at h
    have hy := hc y (List.mem_cons_self ..)
    rw [Yc, zmq, Vm (by omega), Option.bind_some, wx (by simp <;> omega), Option.bind_some, Option.bind_some, zuZ ys _ (by simp <;> omega) (fun c h' => hc c (List.mem_cons_of_mem _ h'))]
    simp
def vN (r : List Int) : zb := ⟨0, 0, 0, 0, 0, 0, 0, 0, r, [], [], ⟨0, 0, 0, 0, 0#64, 0, 0, 0⟩, ⟨0, 0, 0, 0, ⟨0, 0, 0, 0, 0#64, 0#64, 0, 0⟩, ⟨0, 0, 0, 0, 0#64, 0, 0, 0⟩, 0, 0⟩⟩
theorem zyZ {p : zc} {s4 : Int} {s5 : Int} {s6 : Int} {s7 : Int} {s8 : Int} {s9 : Int} {s10 : Int} {s11 : Int} {s12 : Int} {s13 : BitVec 64} {s14 : Int} {s15 : zt} {s16 : Int} {s17 : Int} {s18 : Bool} {s19 : Bool} {s20 : Int} {s21 : Int} {s22 : Int} {s23 : Int} {s24 : zx} {s25 : zc} {s26 : Int} {s27 : List (BitVec 64)} {s28 : zt} {s29 : Int} {s30 : Int} {s31 : Bool} {s32 : Bool} {s33 : Int} {s34 : zk} {s35 : zx} {s36 : List (List Int)} {s37 : List (List Int)} {s38 : List (List zg)} {s39 : List zj} {s40 : List (List Int)} {s41 : List (BitVec 64)} {s42 : List (List Int)} {s43 : List Int} {s44 : List Int} {s45 : List zh} {s46 : List zb} {s47 : List (List Int)} {s48 : List (List Int)} {s49 : List Int} {s50 : List zh} (hl : p.Regs.length < 1000000) (hr : ∀ r ∈ p.Regs, r.length < 1000000) :
    yz Uj (p.Regs, (p.Regs.length : Int), 0, s4, s5, s6, s7, s8, s9, s10, s11, s12, s13, s14, s15, s16, s17, s18, s19, s20, s21, s22, s23, s24, s25, s26, s27, s28, s29, s30, s31, s32, s33, s34, s35, s36, s37, s38, s39, s40, s41, s42, s43, s44, s45, s46, s47, s48, s49, s50, [], ()) = some (.brk (s4, s5, s6, s7, s8, s9, s10, s11, s12, s13, s14, s15, s16, s17, s18, s19, s20, s21, s22, s23, s24, s25, s26, s27, s28, s29, s30, s31, s32, s33, s34, s35, s36, s37, s38, s39, s40, s41, s42, s43, s44, s45, s46, s47, s48, s49, s50, (p.Regs.map vN), ())) := by
  refine (uc (f := Uj) (fun a => ∃ i : Nat, a = (p.Regs, (p.Regs.length : Int), (i : Int), s4, s5, s6, s7, s8, s9, s10, s11, s12, s13, s14, s15, s16, s17, s18, s19, s20, s21, s22, s23, s24, s25, s26, s27, s28, s29, s30, s31, s32, s33, s34, s35, s36, s37, s38, s39, s40, s41, s42, s43, s44, s45, s46, s47, s48, s49, s50, ((p.Regs.take i).map vN), ()) ∧ i ≤ p.Regs.length) (fun a => p.Regs.length - a.2.2.1.toNat) (fun o => o = .brk (s4, s5, s6, s7, s8, s9, s10, s11, s12, s13, s14, s15, s16, s17, s18, s19, s20, s21, s22, s23, s24, s25, s26, s27, s28, s29, s30, s31, s32, s33, s34, s35, s36, s37, s38, s39, s40, s41, s42, s43, s44, s45, s46, s47, s48, s49, s50, (p.Regs.map vN), ())) ?_ (p.Regs, (p.Regs.length : Int), 0, s4, s5, s6, s7, s8, s9, s10, s11, s12, s13, s14, s15, s16, s17, s18, s19, s20, s21, s22, s23, s24, s25, s26, s27, s28, s29, s30, s31, s32, s33, s34, s35, s36, s37, s38, s39, s40, s41, s42, s43, s44, s45, s46, s47, s48, s49, s50, [], ()) ⟨0, rfl, by omega⟩ (wX (by dsimp only; omega))).elim fun o h => ?_
  rotate_left
  · rw [h.1, h.2]
  · rintro _ ⟨i, rfl, hi⟩
    rw [zlI, zq]
    rcases Nat.lt_or_ge i p.Regs.length with hlt | hge
    · have hx := List.getElem?_eq_getElem hlt
      have hh := hr _ (List.getElem_mem hlt)
      rw [if_pos (by omega), wm hx, Option.bind_some, Vm (by omega), Option.bind_some, wx (by simp <;> omega), Option.bind_some, xD (by omega)]
      refine ⟨_, rfl, ⟨i + 1, ?_, hlt⟩, ?_⟩
      · rw [List.take_add_one, hx, List.map_append]; rfl
      · show p.Regs.length - ((i + 1 : Nat) : Int).toNat < p.Regs.length - (i : Int).toNat
        omega
    · rw [if_neg (by omega)]
      have : i = p.Regs.length := by omega
      subst this
      exact ⟨_, rfl, by rw [List.take_length]⟩
def zW (p : zc) : Nat := (p.Most + p.Workers + p.Mutators).toNat
def xk (p : zc) : List (List Int) := ur p.Bin.toNat (VF (Zn p)).length (VF (Zn p))
def yR (p : zc) : za :=
  { P := p, H := p.H,
    M := za6 (za6 (ZY p p.Workers.toNat ++ List.replicate (2 + zW p) 0#64) (yc p) (zE p) ((xl (zW p)).take (xk p).length)) (zE p) (zE p) ((xl (zW p)).drop (xk p).length),
    Bins := [[]] ++ xk p ++ List.replicate (zW p - (xk p).length) [],
    T := ⟨Zn p, 0#64⟩, Work := cnt (Zn p), Epoch := 0, Flag := false, Done := false, Restarts := 0,
    Acks := List.replicate p.Mutators.toNat 0, L := ⟨0, 0, 0, List.replicate p.Mutators.toNat 0⟩,
    Ws := (List.range p.Workers.toNat).map (uK p), Ms := p.Regs.map vN, D := ⟨0, 0⟩ }
theorem zw6 {r n : Int} (h : 0 ≤ r) (h2 : r ≤ n) (h3 : n ≤ 6) : bit r &&& ~~~wS n = 0#64 := by
  have := zrz ⟨r.toNat, by omega⟩ ⟨n.toNat, by omega⟩ (by show r.toNat ≤ n.toNat; omega)
  simpa [Int.toNat_of_nonneg h, Int.toNat_of_nonneg (show 0 ≤ n by omega)] using this
theorem zsT {a b c : BitVec 64} (ha : a &&& ~~~c = 0#64) (hb : b &&& ~~~c = 0#64) : (a ||| b) &&& ~~~c = 0#64 := by
  apply BitVec.eq_of_getLsbD_eq
  intro i hi
  have h1 := congrArg (fun x => x.getLsbD i) ha
  have h2 := congrArg (fun x => x.getLsbD i) hb
  simp only [BitVec.getLsbD_and, BitVec.getLsbD_or, BitVec.getLsbD_not, BitVec.getLsbD_zero, hi, decide_true, Bool.true_and] at h1 h2 ⊢
  revert h1 h2
  generalize a.getLsbD i = x
  generalize b.getLsbD i = y
  generalize c.getLsbD i = z
  cases x <;> cases y <;> cases z <;> decide
theorem zvV {c : BitVec 64} {l : List Int} (h : ∀ o ∈ l, bit o &&& ~~~c = 0#64) : ∀ (z : BitVec 64), z &&& ~~~c = 0#64 → l.foldl (fun s o => s ||| bit o) z &&& ~~~c = 0#64 := by
  induction l with
  | nil => intro z hz; exact hz
  | cons a l ih => intro z hz; exact ih (fun o ho => h o (List.mem_cons_of_mem _ ho)) _ (zsT hz (h a (List.mem_cons_self ..)))
theorem zjk {p : zc} (h : zG p) : Zn p &&& ~~~wS (p.H.Objs.length : Int) = 0#64 := by
  have hn := h.n
  have key : ∀ (L : List (List Int)) (z : BitVec 64), (∀ r ∈ L, ∀ v ∈ r, 0 ≤ v ∧ v ≤ (p.H.Objs.length : Int)) → z &&& ~~~wS (p.H.Objs.length : Int) = 0#64 → L.foldl (fun s l => s ||| YI l) z &&& ~~~wS (p.H.Objs.length : Int) = 0#64 := by
    intro L
    induction L with
    | nil => intro z _ hz; exact hz
    | cons r L ih =>
      intro z hr hz
      refine ih _ (fun r' h' => hr r' (List.mem_cons_of_mem _ h')) (zsT hz (zvV (fun o ho => ?_) _ (by simp)))
      have := hr r (List.mem_cons_self ..) o ho
      exact zw6 this.1 this.2 hn.2
  exact key _ _ (fun r hr => (h.reg r hr).2) (znK h)
theorem zt7 {a b c : BitVec 64} (h : a &&& ~~~b = 0#64) (h2 : b &&& ~~~c = 0#64) : a &&& ~~~c = 0#64 := by
  apply BitVec.eq_of_getLsbD_eq
  intro i hi
  have h1 := congrArg (fun x => x.getLsbD i) h
  have h2 := congrArg (fun x => x.getLsbD i) h2
  simp only [BitVec.getLsbD_and, BitVec.getLsbD_not, BitVec.getLsbD_zero, hi, decide_true, Bool.true_and] at h1 h2 ⊢
  revert h1 h2
  generalize a.getLsbD i = x
  generalize b.getLsbD i = y
  generalize c.getLsbD i = z
  cases x <;> cases y <;> cases z <;> decide
theorem zuz : ∀ n : Fin 7, wS (n.1 : Int) &&& ~~~63#64 = 0#64 := by decide
theorem ziY {p : zc} (h : zG p) : Zn p &&& ~~~63#64 = 0#64 := by
  have hn := h.n
  refine zt7 (zjk h) ?_
  exact zuz ⟨p.H.Objs.length, by omega⟩
theorem zwa : ∀ (n : Fin 7) (t : Fin 64), BitVec.ofNat 64 t.1 &&& ~~~wS (n.1 : Int) = 0#64 → (VF (BitVec.ofNat 64 t.1)).length ≤ n.1 := by decide +kernel
theorem zl2 {p : zc} (h : zG p) : (VF (Zn p)).length ≤ p.H.Objs.length := by
  have hn := h.n
  obtain ⟨t, ht⟩ := zsN (ziY h)
  have h2 := zjk h
  rw [ht] at h2 ⊢
  exact zwa ⟨p.H.Objs.length, by omega⟩ t h2
theorem zn5 {p : zc} (h : zG p) : (xk p).length ≤ p.H.Objs.length := by
  have hb := h.bin
  exact Nat.le_trans (zp8 _ (by omega) _ _) (zl2 h)
theorem zmc {p : zc} (h : zG p) : zaM p = some (yR p, ()) := by
  have hw := h.wk
  have hc := h.cap
  have hm := h.mt
  have hb := h.bin
  have hn := h.n
  have hmo := h.most
  have hrl := h.regs
  have hreg : ∀ r ∈ p.Regs, r.length < 1000000 := fun r hr => by have := (h.reg r hr).1; omega
  have hobj : ∀ o ∈ p.H.Objs, o.length < 1000000 := fun o ho => by have := (h.objs o ho).1; have := h.slots; omega
  have hfl := zn5 h
  have hgl := zl2 h
  have hcl := Vn p p.Workers.toNat
  have hcb : p.Workers.toNat * (p.Cap.toNat + 2) ≤ 3 * 5 := Nat.mul_le_mul (by omega) (by omega)
  have hbn : (zW p : Int) = p.Most + p.Workers + p.Mutators := by unfold zW; omega
  have eb : zdT p = some ((zW p : Int), ()) := by
    rw [zq2, yf (a := p.Most + p.Workers) (by omega) (by omega), yf (by omega) (by omega), hbn]
  have hul := ztm (zW p)
  have ec : VM (VF (Zn p)) p.Bin = some (xk p) := by
    show zhu _ _ = _
    unfold zhu xk
    have c1 : (decide (1 ≤ p.Bin) && decide (p.Bin < 1000000) && decide (((VF (Zn p)).length : Int) < 1000000)) = true := by simp <;> omega
    rw [c1]; rfl
  have cut1 : cut (xl (zW p)) 0 ((xk p).length : Int) = some ((xl (zW p)).take (xk p).length) := by
    unfold cut
    have : ((xk p).length : Int) ≤ ((xl (zW p)).length : Int) := by omega
    simp [this]
  have cut2 : cut (xl (zW p)) ((xk p).length : Int) ((xl (zW p)).length : Int) = some ((xl (zW p)).drop (xk p).length) := by
    unfold cut
    have : ((xk p).length : Int) ≤ ((xl (zW p)).length : Int) := by omega
    simp [this]
  rw [zqr, zvt h]
  simp only [Option.bind_some, Bool.not_true, cond_false]
  rw [zoQ (by omega) hreg]
  simp only [Option.bind_some, zxu, zvK hm.1 (show p.Mutators ≤ 16 by omega)]
  rw [zwM (by omega) hobj]
  simp only [Option.bind_some]
  rw [zzN h]
  simp only [Option.bind_some, eb]
  have e3 : (2 + (zW p : Int)).toNat = 2 + zW p := by omega
  rw [yf (a := 2 + (zW p : Int)) (by omega) (by omega), zrH (by omega) (by omega), e3, Option.bind_some, wx (l := ZY p p.Workers.toNat ++ List.replicate (2 + zW p) 0#64) (by simp <;> omega), Option.bind_some, zyQ (by omega)]
  dsimp only [Option.bind_some]
  rw [Int.toNat_natCast, zxN (ziY h), Option.bind_some, ze1, zq, if_neg (by omega), Option.bind_some, ec, Option.bind_some, zuZ _ _ (by simp <;> omega) (fun c hc' => by have := ziW _ _ _ _ hc'; omega)]
  dsimp only [Option.bind_some]
  have e1 : w64 ((([[]] ++ xk p : List (List Int)).length : Int) - 1) = ((xk p).length : Int) := by
    rw [yf (by simp <;> omega) (by simp <;> omega)]; simp
  have e2 : w64 (((xl (zW p)).length : Int) - ((xk p).length : Int)) = ((zW p - (xk p).length : Nat) : Int) := by
    rw [yf (by omega) (by omega)]; omega
  rw [e1, e2, zrH (by omega) (by omega), Int.toNat_natCast, Option.bind_some, wx (by simp <;> omega), Option.bind_some, zfG, Option.bind_some, zfB, Option.bind_some, cut1, Option.bind_some, zrJ (by simp <;> omega) (by simp <;> omega), Option.bind_some, zdL, Option.bind_some, Option.bind_some, cut2, Option.bind_some, zrJ (by rw [zoz]; simp <;> omega) (by simp <;> omega), Option.bind_some, decide_true, cond_true, zgO hm.1 (show p.Mutators < 4294967296 by omega), Option.bind_some, zyZ (by omega) hreg]
  rfl
end
end Go.Pe.G
namespace Go.Pe.G
open Go.Pe
noncomputable section
theorem zio (h : BitVec 64) : yp h = ((h.toNat % 4294967296 : Nat) : Int) := by
  unfold yp
  have e : (h &&& 4294967295#64).toNat = h.toNat % 4294967296 := by
    rw [BitVec.toNat_and]
    exact Nat.and_two_pow_sub_one_eq_mod h.toNat 32
  rw [BitVec.toInt_eq_toNat_cond, e]
  omega
theorem zix (h : BitVec 64) : 0 ≤ yp h ∧ yp h < 4294967296 := by rw [zio]; omega
theorem zby (v : BitVec 64) {n : Int} (h : 0 ≤ n) (h2 : n < 4294967296) : yp (yW v n) = n := by
  rw [zio]
  unfold yW
  rw [BitVec.toNat_or, BitVec.toNat_and, BitVec.toNat_shiftLeft]
  have e1 : (v.toNat <<< 32 % 2 ^ 64 ||| (BitVec.ofInt 64 n).toNat &&& (4294967295#64).toNat) % 2 ^ 32 = (v.toNat <<< 32 % 2 ^ 64) % 2 ^ 32 ||| ((BitVec.ofInt 64 n).toNat &&& (4294967295#64).toNat) % 2 ^ 32 := Nat.or_mod_two_pow
  have e2 : v.toNat <<< 32 % 2 ^ 64 % 2 ^ 32 = 0 := by rw [Nat.shiftLeft_eq]; omega
  have e3 : (BitVec.ofInt 64 n).toNat &&& (4294967295#64).toNat = n.toNat := by
    have : (BitVec.ofInt 64 n).toNat = n.toNat := by rw [BitVec.toNat_ofInt]; omega
    rw [this]
    exact (Nat.and_two_pow_sub_one_eq_mod n.toNat 32).trans (Nat.mod_eq_of_lt (by omega))
  rw [show (4294967296 : Nat) = 2 ^ 32 from rfl, e1, e2, e3, Nat.zero_or, Nat.mod_eq_of_lt (by omega)]
  omega
theorem toInt_ofInt {n : Int} (h : 0 ≤ n) (h2 : n < 4294967296) : (BitVec.ofInt 64 n).toInt = n := by
  have e : (BitVec.ofInt 64 n).toNat = n.toNat := by rw [BitVec.toNat_ofInt]; omega
  rw [BitVec.toInt_eq_toNat_cond, e]
  omega
theorem Vu {m : List (BitVec 64)} {a b : Int} {v : BitVec 64} : ld (st m a v) b = if a = b ∧ 0 ≤ a ∧ a < m.length then v else ld m b := by
  unfold ld st
  by_cases hb : 0 ≤ b
  · rw [if_pos hb, if_pos hb]
    by_cases ha : 0 ≤ a
    · rw [if_pos ha, List.getD_eq_getElem?_getD, List.getD_eq_getElem?_getD, List.getElem?_set]
      by_cases hab : a.toNat = b.toNat
      · have e : a = b := by omega
        subst e
        by_cases hl : a.toNat < m.length
        · rw [if_pos rfl, if_pos hl, if_pos ⟨rfl, ha, by omega⟩]; rfl
        · rw [if_pos rfl, if_neg hl, if_neg (by omega), List.getElem?_eq_none (by omega)]
      · rw [if_neg hab, if_neg (by omega)]
    · rw [if_neg ha, if_neg (by omega)]
  · rw [if_neg hb, if_neg hb, if_neg (by omega)]
theorem yP {m : List (BitVec 64)} {a b : Int} {v : BitVec 64} (h : a ≠ b) : ld (st m a v) b = ld m b := by
  rw [Vu, if_neg (fun h' => h h'.1)]
theorem XG {p : zc} (h : zG p) : yc p = p.Workers * (p.Cap + 2) ∧ 3 ≤ yc p ∧ yc p ≤ 15 := by
  have hw := h.wk
  have hc := h.cap
  unfold yc
  rw [vD (a := p.Cap + 2) (by omega) (by omega)]
  have hx : p.Workers = 1 ∨ p.Workers = 2 ∨ p.Workers = 3 := by omega
  rcases hx with hx | hx | hx <;> rw [hx, vD (by omega) (by omega)] <;> omega
theorem wJ {p : zc} (h : zG p) : zE p = yc p + 1 := by
  have := XG h
  unfold zE
  rw [vD (by omega) (by omega)]
theorem VB {p : zc} (h : zG p) {w : Int} (h1 : 1 ≤ w) (h2 : w ≤ p.Workers) : yq p w = (w - 1) * (p.Cap + 2) ∧ 0 ≤ yq p w ∧ yq p w + p.Cap + 2 ≤ yc p := by
  have hw := h.wk
  have hc := h.cap
  have hf := (XG h).1
  unfold yq
  rw [vD (a := p.Cap + 2) (by omega) (by omega), vD (a := w - 1) (by omega) (by omega)]
  have hx : p.Workers = 1 ∨ p.Workers = 2 ∨ p.Workers = 3 := by omega
  have hy : w = 1 ∨ w = 2 ∨ w = 3 := by omega
  rw [hf]
  rcases hx with hx | hx | hx <;> rcases hy with hy | hy | hy <;> first | omega | (rw [hx, hy, vD (by omega) (by omega)] <;> omega)
theorem zoB {p : zc} (h : zG p) {d : zi} {w : Int} (h1 : 1 ≤ w) (h2 : w ≤ p.Workers) (hb : d.Base = yq p w) (hc : d.Cap = p.Cap) (i : BitVec 64) :
    zaw d i = d.Base + 2 + ((i.toNat % p.Cap.toNat : Nat) : Int) ∧ d.Base + 2 ≤ zaw d i ∧ zaw d i < d.Base + 2 + p.Cap := by
  have hcp := h.cap
  have hd := VB h h1 h2
  have hf := XG h
  have hs : (WD d).toNat = p.Cap.toNat := by
    unfold WD
    rw [hc, if_neg (by omega), BitVec.toNat_ofInt]
    omega
  have hlt : i.toNat % p.Cap.toNat < p.Cap.toNat := Nat.mod_lt _ (by omega)
  have hm : (i % WD d).toInt = ((i.toNat % p.Cap.toNat : Nat) : Int) := by
    rw [BitVec.toInt_eq_toNat_cond, BitVec.toNat_umod, hs]
    omega
  unfold zaw
  rw [hm, vD (a := d.Base + 2) (by omega) (by omega), vD (by omega) (by omega)]
  omega
structure SOk (p : zc) (nb : Nat) (s : za) : Prop where
  P : s.P = p
  bins : s.Bins.length = nb
  nbk : 1 ≤ nb ∧ nb < 1000
  mem : s.M.length < 100000
  cF : yp (ld s.M (yc p)) < nb
  cE : yp (ld s.M (zE p)) < nb
  cL : ∀ a, zE p < a → 0 ≤ (ld s.M a).toInt ∧ (ld s.M a).toInt < nb
structure MOk (p : zc) (nb : Nat) (g : zA) : Prop where
  who : g.Mode = 1 → 1 ≤ g.Who ∧ g.Who ≤ p.Workers
  d3 : g.PC = 3 → g.D.Kind = 1 ∧ g.D.Base = yq p g.Who ∧ g.D.Cap = p.Cap ∧ g.Mode = 1
  c5 : g.PC = 5 → g.C.Kind = 2 ∧ g.C.Head = zE p ∧ g.C.Next = zE p ∧ (1 ≤ g.C.PC → 1 ≤ yp g.C.H ∧ yp g.C.H < nb) ∧ (2 ≤ g.C.PC → 0 ≤ g.C.Y ∧ g.C.Y < nb)
  b6 : g.PC = 6 → 1 ≤ g.Bin ∧ g.Bin < nb
  c7 : g.PC = 7 → g.C.Kind = 1 ∧ g.C.Head = yc p ∧ g.C.Next = zE p ∧ (1 ≤ g.C.X ∧ g.C.X < nb) ∧ (1 ≤ g.C.PC → yp g.C.H < nb)
theorem SOk.gok {p : zc} {nb : Nat} {s : za} {g : zA} (h : zG p) (S : SOk p nb s) (M : MOk p nb g) : GOk s g := by
  have hc := h.cap
  refine ⟨by have := S.mem; omega, by have := S.bins; have := S.nbk; omega, fun h6 => ?_, fun h3 => ?_⟩
  · have := M.b6 h6; have := S.bins; omega
  · obtain ⟨a, b, c, _⟩ := M.d3 h3; exact ⟨a, by omega⟩
theorem SOk.low {p : zc} {nb : Nat} {s : za} (h : zG p) (S : SOk p nb s) {a : Int} (ha : a < yc p) (v : BitVec 64) : SOk p nb { s with M := st s.M a v } := by
  have he := wJ h
  exact ⟨S.P, S.bins, S.nbk, by simp only [ZD]; exact S.mem, by simp only [yP (show a ≠ yc p by omega)]; exact S.cF, by simp only [yP (show a ≠ zE p by omega)]; exact S.cE, fun b hb => by
    simp only [yP (show a ≠ b by omega)]; exact S.cL b hb⟩
theorem SOk.link {p : zc} {nb : Nat} {s : za} (h : zG p) (S : SOk p nb s) {a : Int} (ha : zE p < a) {v : BitVec 64} (hv : 0 ≤ v.toInt ∧ v.toInt < nb) : SOk p nb { s with M := st s.M a v } := by
  have he := wJ h
  exact ⟨S.P, S.bins, S.nbk, by simp only [ZD]; exact S.mem, by simp only [yP (show a ≠ yc p by omega)]; exact S.cF, by simp only [yP (show a ≠ zE p by omega)]; exact S.cE, fun b hb => by
    simp only [Vu]
    split
    · exact hv
    · exact S.cL b hb⟩
theorem SOk.head {p : zc} {nb : Nat} {s : za} (h : zG p) (S : SOk p nb s) {a : Int} (ha : a = yc p ∨ a = zE p) {v : BitVec 64} (hv : yp v < nb) : SOk p nb { s with M := st s.M a v } := by
  have he := wJ h
  refine ⟨S.P, S.bins, S.nbk, by simp only [ZD]; exact S.mem, ?_, ?_, fun b hb => ?_⟩
  · simp only [Vu]
    split
    · exact hv
    · exact S.cF
  · simp only [Vu]
    split
    · exact hv
    · exact S.cE
  · simp only [yP (show a ≠ b by omega)]; exact S.cL b hb
theorem SOk.swap {p : zc} {nb : Nat} {s : za} (h : zG p) (S : SOk p nb s) {a : Int} (ha : a = yc p ∨ a = zE p) (x : BitVec 64) {v : BitVec 64} (hv : yp v < nb) : SOk p nb { s with M := (sw s.M a x v).1 } := by
  unfold sw
  split
  · exact S.head h ha hv
  · exact S
theorem zwz {p : zc} {nb : Nat} {s : za} (h : zG p) (S : SOk p nb s) {c : zC} {hd : Int} (hdd : hd = yc p ∨ hd = zE p) (hk : c.Kind = 2) (hh : c.Head = hd) (hn : c.Next = zE p)
    (h1 : 1 ≤ c.PC → 1 ≤ yp c.H ∧ yp c.H < nb) (h2 : 2 ≤ c.PC → 0 ≤ c.Y ∧ c.Y < nb) (ho : c.Out ≠ 1) :
    SOk p nb { s with M := (zp s.M c).1 } ∧ (zp s.M c).2.Kind = 2 ∧ (zp s.M c).2.Head = hd ∧ (zp s.M c).2.Next = zE p ∧
    ((zp s.M c).2.Out ≠ 1 → (zp s.M c).2.Out ≠ 2 → (1 ≤ (zp s.M c).2.PC → 1 ≤ yp (zp s.M c).2.H ∧ yp (zp s.M c).2.H < nb) ∧ (2 ≤ (zp s.M c).2.PC → 0 ≤ (zp s.M c).2.Y ∧ (zp s.M c).2.Y < nb)) ∧
    ((zp s.M c).2.Out = 1 → 1 ≤ (zp s.M c).2.X ∧ (zp s.M c).2.X < nb) := by
  have hnb := S.nbk
  have hE := wJ h
  have hF := XG h
  unfold zp
  split
  · exact ⟨S, hk, hh, hn, fun _ _ => ⟨h1, h2⟩, fun e => absurd e ho⟩
  · split
    · rw [hh]
      have n1 := zix (ld s.M hd)
      have n2 : yp (ld s.M hd) < nb := by
        rcases hdd with e | e <;> rw [e]
        · exact S.cF
        · exact S.cE
      split
      · exact ⟨S, hk, rfl, hn, fun _ h => absurd rfl h, fun e => by cases e⟩
      · rename_i hne
        refine ⟨S, hk, rfl, hn, fun _ _ => ⟨fun _ => ⟨?_, n2⟩, fun e => absurd e (by dsimp only; omega)⟩, fun e => absurd e ho⟩
        have : yp (ld s.M hd) ≠ 0 := fun e => hne ⟨hk, e⟩
        dsimp only
        omega
    · split
      · try rw [if_pos hk]
        have hpc : 1 ≤ c.PC := by omega
        have n1 := h1 hpc
        refine ⟨S, hk, hh, hn, fun _ _ => ⟨fun _ => n1, fun _ => ?_⟩, fun e => absurd e ho⟩
        dsimp only
        rw [hn, vD (by omega) (by omega)]
        exact S.cL _ (by omega)
      · rename_i g1 g2 g3
        have hpc : c.PC = 2 := by omega
        have n1 := h1 (by omega)
        have n2 := h2 (by omega)
        simp only [if_pos hk]
        refine ⟨S.swap h (by rw [hh]; exact hdd) _ (by rw [zby _ n2.1 (by omega)]; exact n2.2), ?_⟩
        split
        · exact ⟨hk, hh, hn, fun e => absurd rfl e, fun _ => n1⟩
        · exact ⟨hk, hh, hn, fun _ _ => ⟨fun e => absurd e (by dsimp only; omega), fun e => absurd e (by dsimp only; omega)⟩, fun e => absurd e ho⟩
theorem zu1 {p : zc} {nb : Nat} {s : za} (h : zG p) (S : SOk p nb s) {c : zC} {hd : Int} (hdd : hd = yc p ∨ hd = zE p) (hk : c.Kind = 1) (hh : c.Head = hd) (hn : c.Next = zE p) (hx : 1 ≤ c.X ∧ c.X < nb)
    (h1 : 1 ≤ c.PC → yp c.H < nb) :
    SOk p nb { s with M := (zp s.M c).1 } ∧ (zp s.M c).2.Kind = 1 ∧ (zp s.M c).2.Head = hd ∧ (zp s.M c).2.Next = zE p ∧ (1 ≤ (zp s.M c).2.X ∧ (zp s.M c).2.X < nb) ∧
    (1 ≤ (zp s.M c).2.PC → yp (zp s.M c).2.H < nb) := by
  have hnb := S.nbk
  have hE := wJ h
  have hF := XG h
  have hk2 : ¬ c.Kind = 2 := by omega
  unfold zp
  split
  · exact ⟨S, hk, hh, hn, hx, h1⟩
  · split
    · rw [if_neg (fun e => hk2 e.1), hh]
      exact ⟨S, hk, rfl, hn, hx, fun _ => hdd.elim (fun e => by dsimp only; rw [e]; exact S.cF) (fun e => by dsimp only; rw [e]; exact S.cE)⟩
    · split
      · try rw [if_neg hk2]
        have hpc : 1 ≤ c.PC := by omega
        have n1 := h1 hpc
        have n2 := zix c.H
        refine ⟨?_, hk, hh, hn, hx, fun _ => n1⟩
        dsimp only
        rw [hn, vD (by omega) (by omega)]
        exact S.link h (by omega) (by rw [toInt_ofInt (by omega) (by omega)]; omega)
      · have n1 := h1 (by omega)
        simp only [if_neg hk2]
        refine ⟨S.swap h (by rw [hh]; exact hdd) _ (by rw [zby _ (by omega) (by omega)]; exact hx.2), ?_⟩
        split
        · exact ⟨hk, hh, hn, hx, fun _ => n1⟩
        · exact ⟨hk, hh, hn, hx, fun _ => n1⟩
theorem MOk.ask {p : zc} {nb : Nat} {g : zA} (hw : g.Mode = 1 → 1 ≤ g.Who ∧ g.Who ≤ p.Workers) : MOk p nb (zkG p g) :=
  ⟨hw, fun e => (by cases e), fun _ => ⟨rfl, rfl, rfl, fun e => absurd e (show ¬ (1 : Int) ≤ 0 by decide), fun e => absurd e (show ¬ (2 : Int) ≤ 0 by decide)⟩, fun e => (by cases e), fun e => (by cases e)⟩
theorem zqH {p : zc} {nb : Nat} {s : za} {g : zA} (h : zG p) (S : SOk p nb s) (M : MOk p nb g) (hout : g.PC = 5 → g.C.Out ≠ 1) : SOk p nb (zB s g).1 ∧ MOk p nb (zB s g).2 ∧ ((zB s g).2.PC = 5 → (zB s g).2.C.Out ≠ 1) := by
  have hP := S.P
  unfold zB
  split
  · exact ⟨S, M, hout⟩
  split
  · rename_i h7
    obtain ⟨a1, a2, a3, a4, a5⟩ := M.c7 h7
    obtain ⟨b1, b2, b3, b4, b5, b6⟩ := zu1 h S (.inl rfl) a1 a2 a3 a4 a5
    unfold zhs
    refine ⟨b1, ?_, ?_⟩
    · dsimp only
      split <;> exact ⟨M.who, fun e => (by dsimp only at e; omega), fun e => (by dsimp only at e; omega), fun e => (by dsimp only at e; omega), fun _ => ⟨b2, b3, b4, b5, b6⟩⟩
    · dsimp only
      split <;> exact fun e => by dsimp only at e; omega
  split
  · rename_i h6
    obtain ⟨a1, a2⟩ := M.b6 h6
    unfold zst
    refine ⟨⟨hP, by simp only [List.length_set]; exact S.bins, S.nbk, S.mem, S.cF, S.cE, S.cL⟩, ⟨M.who, fun e => (by cases e), fun e => (by cases e), fun e => (by cases e), fun _ => ⟨rfl, by rw [hP], by rw [hP], ⟨a1, a2⟩, fun e => absurd e (show ¬ (1 : Int) ≤ 0 by decide)⟩⟩, fun e => by cases e⟩
  split
  · rename_i h5
    obtain ⟨a1, a2, a3, a4, a5⟩ := M.c5 h5
    obtain ⟨b1, b2, b3, b4, b5, b6⟩ := zwz h S (.inr rfl) a1 a2 a3 a4 a5 (hout h5)
    unfold zmS
    refine ⟨b1, ?_, ?_⟩
    · dsimp only
      split
      · rename_i e1
        exact ⟨M.who, fun e => (by cases e), fun e => (by cases e), fun _ => b6 e1, fun e => (by cases e)⟩
      · split
        · rw [hP]; exact MOk.ask M.who
        · rename_i e1 e2
          exact ⟨M.who, fun e => (by dsimp only at e; omega), fun _ => ⟨b2, b3, b4, b5 e1 e2⟩, fun e => (by dsimp only at e; omega), fun e => (by dsimp only at e; omega)⟩
    · dsimp only
      split
      · exact fun e => by cases e
      · split
        · exact fun _ e => by cases e
        · rename_i e1 e2; exact fun _ => e1
  split
  · rw [hP]
    exact ⟨⟨rfl, S.bins, S.nbk, S.mem, S.cF, S.cE, S.cL⟩, MOk.ask M.who, fun _ e => by cases e⟩
  split
  · rename_i h3
    obtain ⟨a1, a2, a3, a4⟩ := M.d3 h3
    have hw := M.who a4
    obtain ⟨d1, d2, d3⟩ := VB h hw.1 hw.2
    have hc := h.cap
    have hf := XG h
    have hs : SOk p nb { s with M := (yS s.M g.D).1 } := by
      unfold yS
      split
      · exact S
      split
      · exact S
      split
      · exact S
      split
      · have := zoB h hw.1 hw.2 a2 a3 g.D.B
        exact S.low h (by omega) _
      · dsimp only
        rw [vD (by omega) (by omega)]
        exact S.low h (by omega) _
    have hd : (yS s.M g.D).2.Kind = 1 ∧ (yS s.M g.D).2.Base = yq p g.Who ∧ (yS s.M g.D).2.Cap = p.Cap := by
      unfold yS
      split
      · exact ⟨a1, a2, a3⟩
      split
      · exact ⟨a1, a2, a3⟩
      split
      · dsimp only
        split <;> exact ⟨a1, a2, a3⟩
      split <;> exact ⟨a1, a2, a3⟩
    unfold zm6
    refine ⟨hs, ?_, ?_⟩
    · dsimp only
      split
      · exact ⟨M.who, fun _ => ⟨hd.1, hd.2.1, hd.2.2, a4⟩, fun e => (by dsimp only at e; omega), fun e => (by dsimp only at e; omega), fun e => (by dsimp only at e; omega)⟩
      · split
        · rw [hP]; exact MOk.ask M.who
        · exact ⟨M.who, fun _ => ⟨hd.1, hd.2.1, hd.2.2, a4⟩, fun e => (by dsimp only at e; omega), fun e => (by dsimp only at e; omega), fun e => (by dsimp only at e; omega)⟩
    · dsimp only
      split
      · exact fun e => by dsimp only at e; omega
      · split
        · exact fun _ e => by cases e
        · exact fun e => by dsimp only at e; omega
  split
  · rename_i h2
    exact ⟨⟨hP, S.bins, S.nbk, S.mem, S.cF, S.cE, S.cL⟩, ⟨M.who, fun e => (by dsimp only at e; omega), fun e => (by dsimp only at e; omega), fun e => (by dsimp only at e; omega), fun e => (by dsimp only at e; omega)⟩, fun e => by dsimp only at e; omega⟩
  split
  · unfold zmQ
    refine ⟨⟨hP, S.bins, S.nbk, S.mem, S.cF, S.cE, S.cL⟩, ?_, ?_⟩
    · dsimp only
      split
      · exact ⟨M.who, fun e => (by cases e), fun e => (by cases e), fun e => (by cases e), fun e => (by cases e)⟩
      split
      · exact ⟨M.who, fun _ => ⟨rfl, by rw [hP], by rw [hP], by assumption⟩, fun e => (by cases e), fun e => (by cases e), fun e => (by cases e)⟩
      split
      · exact ⟨M.who, fun e => (by cases e), fun e => (by cases e), fun e => (by cases e), fun e => (by cases e)⟩
      · rw [hP]; exact MOk.ask M.who
    · dsimp only
      split
      · exact fun e => by cases e
      split
      · exact fun e => by cases e
      split
      · exact fun e => by cases e
      · exact fun _ e => by cases e
  · exact ⟨⟨hP, S.bins, S.nbk, S.mem, S.cF, S.cE, S.cL⟩, ⟨M.who, fun e => (by cases e), fun e => (by cases e), fun e => (by cases e), fun e => (by cases e)⟩, fun e => by cases e⟩
theorem zcS (s : za) (g : zA) : (zB s g).2.Obj = g.Obj ∧ (zB s g).2.Who = g.Who ∧ (zB s g).2.Mode = g.Mode := by
  unfold zB
  split
  · exact ⟨rfl, rfl, rfl⟩
  split
  · unfold zhs; dsimp only; split <;> exact ⟨rfl, rfl, rfl⟩
  split
  · exact ⟨rfl, rfl, rfl⟩
  split
  · unfold zmS; dsimp only
    split
    · exact ⟨rfl, rfl, rfl⟩
    · split <;> exact ⟨rfl, rfl, rfl⟩
  split
  · exact ⟨rfl, rfl, rfl⟩
  split
  · unfold zm6; dsimp only
    split
    · exact ⟨rfl, rfl, rfl⟩
    · split <;> exact ⟨rfl, rfl, rfl⟩
  split
  · exact ⟨rfl, rfl, rfl⟩
  split
  · unfold zmQ; dsimp only
    split
    · exact ⟨rfl, rfl, rfl⟩
    split
    · exact ⟨rfl, rfl, rfl⟩
    split <;> exact ⟨rfl, rfl, rfl⟩
  · exact ⟨rfl, rfl, rfl⟩
end
end Go.Pe.G
namespace Go.Pe.G
open Go.Pe
noncomputable section
def OkV (nb : Nat) (v : BitVec 64) : Prop := yp v < nb ∧ 0 ≤ v.toInt ∧ v.toInt < nb
theorem ztd {nb : Nat} (h : 1 ≤ nb) : OkV nb 0#64 := by
  refine ⟨by rw [zio]; simp; omega, by simp, by simp; omega⟩
theorem zqn {nb : Nat} {b : Int} (h : 0 ≤ b) (h2 : b < nb) (h3 : nb < 1000) : OkV nb (BitVec.ofInt 64 b) := by
  have e : (BitVec.ofInt 64 b).toNat = b.toNat := by rw [BitVec.toNat_ofInt]; omega
  refine ⟨by rw [zio, e]; omega, ?_⟩
  rw [toInt_ofInt h (by omega)]
  omega
theorem zrG {b : Int} (h : 0 ≤ b) (h2 : b < 4294967296) : yW 0#64 b = BitVec.ofInt 64 b := by
  have e : (BitVec.ofInt 64 b).toNat = b.toNat := by rw [BitVec.toNat_ofInt]; omega
  apply BitVec.eq_of_toNat_eq
  unfold yW
  rw [BitVec.toNat_or, BitVec.toNat_and, e]
  have : b.toNat &&& (4294967295#64).toNat = b.toNat := (Nat.and_two_pow_sub_one_eq_mod b.toNat 32).trans (Nat.mod_eq_of_lt (by omega))
  rw [this]
  simp
def Xj (F : Int) (nb : Nat) (m : List (BitVec 64)) : Prop := ∀ a, F ≤ a → OkV nb (ld m a)
theorem Xj.st {F : Int} {nb : Nat} {m : List (BitVec 64)} (h : Xj F nb m) (a : Int) {v : BitVec 64} (hv : OkV nb v) : Xj F nb (st m a v) := fun b hb => by
  rw [Vu]
  split
  · exact hv
  · exact h b hb
theorem Xj.links {F : Int} {nb : Nat} (h1 : 1 ≤ nb) (h3 : nb < 1000) : ∀ (l : List Int) (m : List (BitVec 64)) (n : Int), (∀ b ∈ l, 0 ≤ b ∧ b < nb) → Xj F nb m → Xj F nb (links m n l)
  | [], m, n, _, h => h
  | [a], m, n, _, h => h.st _ (ztd h1)
  | a :: b :: l, m, n, hb, h => Xj.links h1 h3 (b :: l) _ n (fun x hx => hb x (List.mem_cons_of_mem _ hx)) (h.st _ (zqn (hb b (by simp)).1 (hb b (by simp)).2 h3))
theorem Xj.lay {F : Int} {nb : Nat} (h1 : 1 ≤ nb) (h3 : nb < 1000) {l : List Int} {m : List (BitVec 64)} {hd n : Int} (hb : ∀ b ∈ l, 0 ≤ b ∧ b < nb) (h : Xj F nb m) : Xj F nb (za6 m hd n l) := by
  unfold za6
  refine (Xj.links h1 h3 l m n hb h).st _ ?_
  cases l with
  | nil => rw [List.headD_nil, zrG (by omega) (by omega)]; exact zqn (by omega) (by omega) h3
  | cons a r =>
    have := hb a (by simp)
    rw [List.headD_cons, zrG this.1 (by omega)]
    exact zqn this.1 this.2 h3
theorem zdw {k : Nat} {b : Int} (h : b ∈ xl k) : 1 ≤ b ∧ b ≤ k := by
  unfold xl at h
  obtain ⟨i, hi, rfl⟩ := List.mem_map.1 h
  have := List.mem_range.1 hi
  omega
theorem zgu {p : zc} (h : zG p) : (zW p : Int) = p.Most + p.Workers + p.Mutators ∧ 2 ≤ zW p ∧ zW p ≤ 14 := by
  have := h.most
  have := h.n
  have := h.wk
  have := h.mt
  unfold zW
  omega
theorem zuS {p : zc} (h : zG p) : SOk p (zW p + 1) (yR p) := by
  have hb := zgu h
  have hf := zn5 h
  have hn := h.n
  have hw := h.wk
  have hc := h.cap
  have hmo := h.most
  have hF := XG h
  have hE := wJ h
  have hcl := Vn p p.Workers.toNat
  have hfe : yc p = ((p.Workers.toNat * (p.Cap.toNat + 2) : Nat) : Int) := by
    rw [hF.1]
    have e1 : p.Workers = ((p.Workers.toNat : Nat) : Int) := by omega
    have e2 : p.Cap + 2 = ((p.Cap.toNat + 2 : Nat) : Int) := by omega
    rw [e2, Int.natCast_mul]
    rw [← e1]
  have h0 : Xj (yc p) (zW p + 1) (ZY p p.Workers.toNat ++ List.replicate (2 + zW p) 0#64) := by
    intro a ha
    have : ld (ZY p p.Workers.toNat ++ List.replicate (2 + zW p) 0#64) a = 0#64 := by
      unfold ld
      rw [if_pos (by omega), List.getD_eq_getElem?_getD, List.getElem?_append_right (by omega), List.getElem?_replicate]
      split <;> rfl
    rw [this]
    exact ztd (by omega)
  have h1 : Xj (yc p) (zW p + 1) (yR p).M := by
    refine Xj.lay (by omega) (by omega) (fun b hb' => ?_) (Xj.lay (by omega) (by omega) (fun b hb' => ?_) h0)
    · have := zdw (List.mem_of_mem_drop hb'); omega
    · have := zdw (List.mem_of_mem_take hb'); omega
  have hlen : (yR p).M.length = p.Workers.toNat * (p.Cap.toNat + 2) + (2 + zW p) := by
    show (za6 _ _ _ _).length = _
    rw [zoz, zoz, List.length_append, hcl, List.length_replicate]
  refine ⟨rfl, ?_, by omega, by rw [hlen]; omega, (h1 _ (by omega)).1, (h1 _ (by omega)).1, fun a ha => (h1 a (by omega)).2⟩
  have hd : (yR p).Bins.length = 1 + (xk p).length + (zW p - (xk p).length) := by
    show ([[]] ++ xk p ++ List.replicate (zW p - (xk p).length) ([] : List Int)).length = _
    rw [List.length_append, List.length_append, List.length_replicate]; rfl
  have h2 := hb.1
  have hmt := h.mt
  rw [hd]
  omega
def zaG (mode obj who : Int) : zA := ⟨0, mode, obj, who, ⟨0, 0, 0, 0, 0#64, 0#64, 0, 0⟩, ⟨0, 0, 0, 0, 0#64, 0, 0, 0⟩, 0, 0⟩
theorem zp7 (a b c : Int) : zce a b c = some (zaG a b c, ()) := by rw [zoP]; rfl
end
end Go.Pe.G
namespace Go.Pe.G
open Go.Pe
noncomputable section
structure Ur (s : za) : Prop where
  m : s.M.length < 1000000
  bins : s.Bins.length < 1000000
  bin : ∀ x ∈ s.Bins, x.length < 1000000
  acks : s.Acks.length < 1000000
  bal : s.L.Bal.length < 1000000
  ws : s.Ws.length < 1000000
  w : ∀ x ∈ s.Ws, x.Batch.length < 1000000
  ms : s.Ms.length < 1000000
  mu : ∀ x ∈ s.Ms, x.Regs.length < 1000000 ∧ x.Buf.length < 1000000 ∧ x.Batch.length < 1000000
  objs : s.H.Objs.length < 1000000
  obj : ∀ x ∈ s.H.Objs, x.length < 1000000
  pobjs : s.P.H.Objs.length < 1000000
  pobj : ∀ x ∈ s.P.H.Objs, x.length < 1000000
  regs : s.P.Regs.length < 1000000
  reg : ∀ x ∈ s.P.Regs, x.length < 1000000
  progs : s.P.Progs.length < 1000000
  prog : ∀ x ∈ s.P.Progs, x.length < 1000000
  picks : s.P.Picks.length < 1000000
theorem zf8 (m : List (BitVec 64)) (c : zC) : (zp m c).1.length = m.length := by
  unfold zp sw
  split
  · rfl
  split
  · rfl
  split
  · split <;> simp [ZD]
  · dsimp only; split <;> simp [ZD]
theorem zf7 (m : List (BitVec 64)) (d : zi) : (yS m d).1.length = m.length := by
  unfold yS
  split
  · rfl
  split
  · rfl
  split
  · rfl
  split <;> simp [ZD]
theorem zkY (s : za) (g : zA) : ∃ m b t w f, (zB s g).1 = { s with M := m, Bins := b, T := t, Work := w, Flag := f } ∧ m.length = s.M.length ∧ b.length = s.Bins.length ∧
    (∀ x ∈ b, x ∈ s.Bins ∨ x = [g.Obj]) ∧ (t = s.T ∨ t = (Zl s.T g.Obj).1) ∧ (w = s.Work ∨ w = wc (s.Work + 1) ∨ w = wc (s.Work - 1)) := by
  unfold zB
  split
  · exact ⟨s.M, s.Bins, s.T, s.Work, s.Flag, rfl, rfl, rfl, fun x h => .inl h, .inl rfl, .inl rfl⟩
  split
  · exact ⟨_, s.Bins, s.T, s.Work, s.Flag, rfl, zf8 _ _, rfl, fun x h => .inl h, .inl rfl, .inl rfl⟩
  split
  · refine ⟨s.M, _, s.T, s.Work, s.Flag, rfl, rfl, by simp, fun x h => ?_, .inl rfl, .inl rfl⟩
    rcases List.mem_or_eq_of_mem_set h with h | h
    · exact .inl h
    · exact .inr h
  split
  · exact ⟨_, s.Bins, s.T, s.Work, s.Flag, rfl, zf8 _ _, rfl, fun x h => .inl h, .inl rfl, .inl rfl⟩
  split
  · exact ⟨s.M, s.Bins, s.T, s.Work, true, rfl, rfl, rfl, fun x h => .inl h, .inl rfl, .inl rfl⟩
  split
  · exact ⟨_, s.Bins, s.T, s.Work, s.Flag, rfl, zf7 _ _, rfl, fun x h => .inl h, .inl rfl, .inl rfl⟩
  split
  · exact ⟨s.M, s.Bins, s.T, _, s.Flag, rfl, rfl, rfl, fun x h => .inl h, .inl rfl, .inr (.inr rfl)⟩
  split
  · exact ⟨s.M, s.Bins, _, s.Work, s.Flag, rfl, rfl, rfl, fun x h => .inl h, .inr rfl, .inl rfl⟩
  · exact ⟨s.M, s.Bins, s.T, _, s.Flag, rfl, rfl, rfl, fun x h => .inl h, .inl rfl, .inr (.inl rfl)⟩
theorem zxh {p : zc} (h : zG p) : Ur (yR p) := by
  have S := zuS h
  have hb := zgu h
  have hg := zl2 h
  have hn := h.n
  have hm := h.mt
  have hw := h.wk
  have hs := h.slots
  have hrl := h.regs
  have hpl := h.progs
  have hobj : ∀ o ∈ p.H.Objs, o.length < 1000000 := fun o ho => by have := (h.objs o ho).1; omega
  have hreg : ∀ r ∈ p.Regs, r.length < 1000000 := fun r hr => by have := (h.reg r hr).1; omega
  refine ⟨by have := S.mem; omega, by rw [S.bins]; omega, fun x hx => ?_, ?_, ?_, ?_, fun x hx => ?_, ?_, fun x hx => ?_, by show p.H.Objs.length < _; omega, hobj, by show p.H.Objs.length < _; omega, hobj, by show p.Regs.length < _; omega, hreg, by show p.Progs.length < _; omega, fun x hx => ?_, ?_⟩
  · have hx : x ∈ [[]] ++ xk p ++ List.replicate (zW p - (xk p).length) [] := hx
    rcases List.mem_append.1 hx with hx | hx
    · rcases List.mem_append.1 hx with hx | hx
      · simp at hx; subst hx; simp
      · have := ziW _ _ _ _ hx; omega
    · have := (List.mem_replicate.1 hx).2; subst this; simp
  · show (List.replicate p.Mutators.toNat (0 : Int)).length < _; simp; omega
  · show (List.replicate p.Mutators.toNat (0 : Int)).length < _; simp; omega
  · show ((List.range p.Workers.toNat).map (uK p)).length < _; simp; omega
  · have hx : x ∈ (List.range p.Workers.toNat).map (uK p) := hx
    obtain ⟨i, _, rfl⟩ := List.mem_map.1 hx
    simp [uK]
  · show (p.Regs.map vN).length < _; simp; omega
  · have hx : x ∈ p.Regs.map vN := hx
    obtain ⟨r, hr, rfl⟩ := List.mem_map.1 hx
    exact ⟨hreg r hr, by simp [vN], by simp [vN]⟩
  · obtain ⟨i, hi⟩ := List.getElem?_of_mem hx
    have hlt := (List.getElem?_eq_some_iff.1 hi).1
    have := (h.prog i _ x (List.getElem?_eq_getElem (by have : p.Progs.length = p.Regs.length := by omega
                                                        have hlt : i < p.Progs.length := hlt
                                                        omega)) hi).1
    omega
  · show p.Picks.length < _; rw [h.picks]; simp
end
end Go.Pe.G
namespace Go.Pe.G
open Go.Pe
noncomputable section
theorem XQ {α B C : Type} {f : List α × List α × Int × Int × Unit → Option (xg (List α × List α × Int × Int × Unit) B C)} {l : List α} {b : B} (hl : l.length < 1000000)
    (h1 : ∀ (i : Nat) (x : α), l[i]? = some x → f (l, l, (l.length : Int), (i : Int), ()) = some (.again (l, l, (l.length : Int), ((i + 1 : Nat) : Int), ())))
    (h2 : f (l, l, (l.length : Int), (l.length : Int), ()) = some (.brk b)) : yz f (l, l, (l.length : Int), 0, ()) = some (.brk b) := by
  refine (uc (f := f) (fun a => ∃ i : Nat, a = (l, l, (l.length : Int), (i : Int), ()) ∧ i ≤ l.length) (fun a => l.length - a.2.2.2.1.toNat) (fun o => o = .brk b) ?_ (l, l, (l.length : Int), 0, ()) ⟨0, rfl, by omega⟩ (wX (by dsimp only; omega))).elim fun o h => ?_
  rotate_left
  · rw [h.1, h.2]
  · rintro _ ⟨i, rfl, hi⟩
    rcases Nat.lt_or_ge i l.length with hlt | hge
    · refine ⟨_, h1 i _ (List.getElem?_eq_getElem hlt), ⟨i + 1, rfl, hlt⟩, ?_⟩
      show l.length - ((i + 1 : Nat) : Int).toNat < l.length - (i : Int).toNat
      omega
    · have : i = l.length := by omega
      subst this
      exact ⟨_, h2, rfl⟩
theorem wn {l : List (Int)} (hl : l.length < 1000000) : yh l l = some (true, ()) := by
  rw [ze6, yI, if_pos rfl, XQ (b := ()) hl (fun i x hx => ?_) (by rw [Ww]; simp)]
  · rfl
  · have hlt := uk hx
    rw [Ww, zq, if_pos hlt, wm hx, Option.bind_some, Option.bind_some, xD (by omega)]
    simp
theorem za5 {l : List (BitVec 64)} (hl : l.length < 1000000) : Zz l l = some (true, ()) := by
  rw [zbg, yI, if_pos rfl, XQ (b := ()) hl (fun i x hx => ?_) (by rw [Z8]; simp)]
  · rfl
  · have hlt := uk hx
    rw [Z8, zq, if_pos hlt, wm hx, Option.bind_some, Option.bind_some, xD (by omega)]
    simp
theorem zcc {l : List (Int)} (hl : l.length < 1000000) : ZW l l = some (true, ()) := by
  rw [zcm, yI, if_pos rfl, XQ (b := ()) hl (fun i x hx => ?_) (by rw [YR]; simp)]
  · rfl
  · have hlt := uk hx
    rw [YR, zq, if_pos hlt, wm hx, Option.bind_some, Option.bind_some, xD (by omega)]
    simp
theorem zab {l : List (zg)} (hl : l.length < 1000000) : uX l l = some (true, ()) := by
  rw [zac, yI, if_pos rfl, XQ (b := ()) hl (fun i x hx => ?_) (by rw [ZO]; simp)]
  · rfl
  · have hlt := uk hx
    rw [ZO, zq, if_pos hlt, wm hx, Option.bind_some, Option.bind_some, xD (by omega)]
    simp
theorem V2 {l : List (zj)} (hl : l.length < 1000000) : vV l l = some (true, ()) := by
  rw [Ug, yI, if_pos rfl, XQ (b := ()) hl (fun i x hx => ?_) (by rw [uY]; simp)]
  · rfl
  · have hlt := uk hx
    rw [uY, zq, if_pos hlt, wm hx, Option.bind_some, Option.bind_some, xD (by omega)]
    simp
theorem wG {l : List (List Int)} (hl : l.length < 1000000) (he : ∀ x ∈ l, x.length < 1000000) : zw l l = some (true, ()) := by
  rw [ub, yI, if_pos rfl, XQ (b := ()) hl (fun i x hx => ?_) (by rw [xi]; simp)]
  · rfl
  · have hlt := uk hx
    rw [xi, zq, if_pos hlt, wm hx, Option.bind_some, Option.bind_some, wn (he x (List.mem_of_getElem? hx)), Option.bind_some, xD (by omega)]
    simp
theorem Zr {l : List (List zg)} (hl : l.length < 1000000) (he : ∀ x ∈ l, x.length < 1000000) : ya l l = some (true, ()) := by
  rw [wh, yI, if_pos rfl, XQ (b := ()) hl (fun i x hx => ?_) (by rw [yF]; simp)]
  · rfl
  · have hlt := uk hx
    rw [yF, zq, if_pos hlt, wm hx, Option.bind_some, Option.bind_some, zab (he x (List.mem_of_getElem? hx)), Option.bind_some, xD (by omega)]
    simp
theorem zuj {w : zh} (h : w.Batch.length < 1000000) : Ua w w = some (true, ()) := by
  rw [zi1, wn h]; simp
theorem ztf {m : zb} (h : m.Regs.length < 1000000 ∧ m.Buf.length < 1000000 ∧ m.Batch.length < 1000000) : Vl m m = some (true, ()) := by
  rw [zhO, wn h.1, wn h.2.1, wn h.2.2, zfN]; simp
theorem vo {l : List (zh)} (hl : l.length < 1000000) (he : ∀ x ∈ l, x.Batch.length < 1000000) : z6 l l = some (true, ()) := by
  rw [xQ, yI, if_pos rfl, XQ (b := ()) hl (fun i x hx => ?_) (by rw [yA]; simp)]
  · rfl
  · have hlt := uk hx
    rw [yA, zq, if_pos hlt, wm hx, Option.bind_some, Option.bind_some, zuj (he x (List.mem_of_getElem? hx)), Option.bind_some, xD (by omega)]
    simp
theorem w9 {l : List (zb)} (hl : l.length < 1000000) (he : ∀ x ∈ l, x.Regs.length < 1000000 ∧ x.Buf.length < 1000000 ∧ x.Batch.length < 1000000) : zU l l = some (true, ()) := by
  rw [xy, yI, if_pos rfl, XQ (b := ()) hl (fun i x hx => ?_) (by rw [yr]; simp)]
  · rfl
  · have hlt := uk hx
    rw [yr, zq, if_pos hlt, wm hx, Option.bind_some, Option.bind_some, ztf (he x (List.mem_of_getElem? hx)), Option.bind_some, xD (by omega)]
    simp
theorem zrq {h : zo} (h1 : h.Objs.length < 1000000) (h2 : ∀ x ∈ h.Objs, x.length < 1000000) : u5 h h = some (true, ()) := by
  rw [zqe, wG h1 h2]; simp
theorem zvp {s : za} (h : Ur s) : zgD s s = some (true, ()) := by
  have hp : ZQ s.P s.P = some (true, ()) := by
    rw [zqq, zi8, zrq h.pobjs h.pobj, wG h.regs h.reg, Zr h.progs h.prog, V2 h.picks]
    simp
  have hl : uw s.L s.L = some (true, ()) := by
    rw [zom, zcc h.bal]; simp
  have hm : Yx s.M s.M = some (true, ()) := by
    rw [zrW, za5 h.m]; rfl
  rw [zoR, hp, zrq h.objs h.obj, hm, wG h.bins h.bin, wn h.acks, hl, vo h.ws h.w, w9 h.ms h.mu]
  simp
end
end Go.Pe.G
namespace Go.Pe.G
open Go.Pe
noncomputable section
def goF {S : Type} (g : Nat → S → S) : Nat → Nat → S → S
  | _, 0, s => s
  | i, k + 1, s => goF g (i + 1) k (g i s)
theorem zrg {S : Type} {g : Nat → S → S} {Inv : S → Prop} (hg : ∀ i s, Inv s → Inv (g i s)) : ∀ (k i : Nat) (s : S), Inv s → Inv (goF g i k s)
  | 0, _, _, h => h
  | k + 1, i, s, h => zrg hg k (i + 1) _ (hg i s h)
theorem zzg {S σ B C : Type} {f : σ → Option (xg σ B C)} (A : Int → S → σ) (b : S → B) (n : Nat) (hn : n < 1000000) (g : Nat → S → S) (Inv : S → Prop) (hg : ∀ i s, Inv s → Inv (g i s))
    (h1 : ∀ (i : Nat) s, i < n → Inv s → f (A (i : Int) s) = some (.again (A ((i + 1 : Nat) : Int) (g i s)))) (h2 : ∀ s, Inv s → f (A (n : Int) s) = some (.brk (b s))) {s : S} (hs : Inv s) :
    yz f (A 0 s) = some (.brk (b (goF g 0 n s))) := by
  have key : ∀ (k i : Nat) (s : S), n - i = k → i ≤ n → Inv s → ∀ m, k < m → wg f m (A (i : Int) s) = some (.brk (b (goF g i k s))) := by
    intro k
    induction k with
    | zero =>
      intro i s hk hi hs m hm
      have : i = n := by omega
      subst this
      obtain ⟨m, rfl⟩ : ∃ x, m = x + 1 := ⟨m - 1, by omega⟩
      simp only [wg]
      rw [h2 s hs]; rfl
    | succ k ih =>
      intro i s hk hi hs m hm
      obtain ⟨m, rfl⟩ : ∃ x, m = x + 1 := ⟨m - 1, by omega⟩
      simp only [wg]
      rw [h1 i s (by omega) hs, Option.bind_some]
      exact ih (i + 1) _ (by omega) (by omega) (hg i s hs) m (by omega)
  have := key n 0 s (by omega) (by omega) hs Ze (wX (by omega))
  rw [VG]
  exact this
end
end Go.Pe.G
namespace Go.Pe.G
open Go.Pe
noncomputable section
end
end Go.Pe.G
namespace Go.Pe.G
open Go.Pe
noncomputable section
def zH (h : zo) (o : Int) : List Int := h.Objs.getD (o - 1).toNat []
def yE (h : zo) (o s : Int) : Bool := decide (1 ≤ o) && decide (o ≤ (h.Objs.length : Int)) && decide (0 ≤ s) && decide (s < ((zH h o).length : Int))
def zQ (h : zo) (o s : Int) : Int := if yE h o s then (zH h o).getD s.toNat 0 else 0
def zJ (s : BitVec 64) (o : Int) : Bool := !(decide (s &&& bit o = 0#64))
def xX (t : zt) (o : Int) : Int := if zJ (t.Marks &&& t.Black) o then 2 else if zJ t.Marks o then 1 else 0
def ZP (t : zt) (o : Int) : zt := if xX t o = 1 then { t with Black := t.Black ||| bit o } else t
def zk9 (l : zk) (who : Int) : zk :=
  if 1 ≤ who ∧ who ≤ (l.Bal.length : Int) then { l with Scanned := wc (l.Scanned + 1), Bal := l.Bal.set (who - 1).toNat (wc (l.Bal.getD (who - 1).toNat 0 + 1)) }
  else { l with Scanned := wc (l.Scanned + 1), Pool := wc (l.Pool + 1) }
def zcl (s : za) (b : Int) : List Int := s.Bins.getD b.toNat []
def zvy (p : zc) (h x : Int) : zC := ⟨2, 0, h, zE p, 0#64, x, 0, 0⟩
def zkx (p : zc) (h x : Int) : zC := ⟨1, 0, h, zE p, 0#64, x, 0, 0⟩
def zmj (p : zc) (w : Int) (x : zh) : zh := { x with PC := 0, Victim := w, D := ⟨2, 0, yq p w, p.Cap, 0#64, 0#64, 0, 0⟩ }
def zmZ (n v : Int) : Int := if v < n then v + 1 else 1
def zm8 (p : zc) (w : Int) (x : zh) : zh :=
  if zmZ p.Workers x.Victim = w then { x with PC := 2, Victim := w, C := zvy p (yc p) 0 }
  else { x with PC := 1, Victim := zmZ p.Workers x.Victim, D := ⟨3, 0, yq p (zmZ p.Workers x.Victim), p.Cap, 0#64, 0#64, 0, 0⟩ }
structure zvr (p : zc) (nb : Nat) (hd : Int) (c : zC) : Prop where
  k : c.Kind = 2
  h : c.Head = hd
  n : c.Next = zE p
  v : 1 ≤ c.PC → 1 ≤ yp c.H ∧ yp c.H < nb
  y : 2 ≤ c.PC → 0 ≤ c.Y ∧ c.Y < nb
  o : c.Out ≠ 1
structure zsw (p : zc) (nb : Nat) (hd : Int) (c : zC) : Prop where
  k : c.Kind = 1
  h : c.Head = hd
  n : c.Next = zE p
  x : 1 ≤ c.X ∧ c.X < nb
  v : 1 ≤ c.PC → yp c.H < nb
theorem zu9 {p : zc} {nb : Nat} {hd x : Int} : zvr p nb hd (zvy p hd x) :=
  ⟨rfl, rfl, rfl, fun e => absurd e (by show ¬ (1 : Int) ≤ 0; decide), fun e => absurd e (by show ¬ (2 : Int) ≤ 0; decide), by show (0 : Int) ≠ 1; decide⟩
theorem zyj {p : zc} {nb : Nat} {hd x : Int} (h : 1 ≤ x ∧ x < nb) : zsw p nb hd (zkx p hd x) :=
  ⟨rfl, rfl, rfl, h, fun e => absurd e (by show ¬ (1 : Int) ≤ 0; decide)⟩
structure WOk (p : zc) (nb : Nat) (w : Int) (x : zh) : Prop where
  pc : 0 ≤ x.PC ∧ x.PC ≤ 9
  vic : 1 ≤ x.Victim ∧ x.Victim ≤ p.Workers
  d0 : x.PC = 0 → x.D.Kind = 2 ∧ x.D.Base = yq p w ∧ x.D.Cap = p.Cap
  d1 : x.PC = 1 → x.D.Kind = 3 ∧ x.D.Base = yq p x.Victim ∧ x.D.Cap = p.Cap
  c2 : x.PC = 2 → zvr p nb (yc p) x.C
  b3 : x.PC = 3 → 1 ≤ x.Bin ∧ x.Bin < nb
  c4 : x.PC = 4 → zsw p nb (zE p) x.C
  g6 : x.PC = 6 → MOk p nb x.G ∧ (x.G.PC = 5 → x.G.C.Out ≠ 1) ∧ x.G.Mode = 1 ∧ x.G.PC ≠ 4
theorem WOk.plain {p : zc} {nb : Nat} {w : Int} {x : zh} (pc : x.PC = 5 ∨ x.PC = 7 ∨ x.PC = 8 ∨ x.PC = 9) (vic : 1 ≤ x.Victim ∧ x.Victim ≤ p.Workers) : WOk p nb w x :=
  ⟨by omega, vic, fun e => by omega, fun e => by omega, fun e => by omega, fun e => by omega, fun e => by omega, fun e => by omega⟩
theorem zxM {n v : Int} (h : 1 ≤ v ∧ v ≤ n) : 1 ≤ zmZ n v ∧ zmZ n v ≤ n := by unfold zmZ; split <;> omega
theorem WOk.look {p : zc} {nb : Nat} {w : Int} {x : zh} (hw : 1 ≤ w ∧ w ≤ p.Workers) (vic : 1 ≤ x.Victim ∧ x.Victim ≤ p.Workers) : WOk p nb w (zm8 p w x) := by
  have hn := zxM vic
  unfold zm8
  split
  · exact ⟨⟨(by show (0 : Int) ≤ 2; decide), (by show (2 : Int) ≤ 9; decide)⟩, hw, fun e => (by cases e), fun e => (by cases e), fun _ => zu9, fun e => (by cases e), fun e => (by cases e), fun e => (by cases e)⟩
  · exact ⟨⟨(by show (0 : Int) ≤ 1; decide), (by show (1 : Int) ≤ 9; decide)⟩, hn, fun e => (by cases e), fun _ => ⟨rfl, rfl, rfl⟩, fun e => (by cases e), fun e => (by cases e), fun e => (by cases e), fun e => (by cases e)⟩
theorem WOk.begin {p : zc} {nb : Nat} {w : Int} {x : zh} (hw : 1 ≤ w ∧ w ≤ p.Workers) : WOk p nb w (zmj p w x) :=
  ⟨⟨(by show (0 : Int) ≤ 0; decide), (by show (0 : Int) ≤ 9; decide)⟩, hw, fun _ => ⟨rfl, rfl, rfl⟩, fun e => (by cases e), fun e => (by cases e), fun e => (by cases e), fun e => (by cases e), fun e => (by cases e)⟩
theorem SOk.keep {p : zc} {nb : Nat} {s s' : za} (S : SOk p nb s) (hP : s'.P = s.P) (hM : s'.M = s.M) (hB : s'.Bins.length = s.Bins.length) : SOk p nb s' :=
  ⟨hP.trans S.P, hB.trans S.bins, S.nbk, by rw [hM]; exact S.mem, by rw [hM]; exact S.cF, by rw [hM]; exact S.cE, by rw [hM]; exact S.cL⟩
end
end Go.Pe.G
namespace Go.Pe.G
open Go.Pe
noncomputable section
def Zm (h : zo) (o s v : Int) : zo :=
  if yE h o s = true ∧ 0 ≤ v ∧ v ≤ (h.Objs.length : Int) then { h with Objs := h.Objs.set (o - 1).toNat ((zH h o).set s.toNat v) } else h
def WA (h : zo) (most : Int) : Bool := decide ((h.Objs.length : Int) < most) && decide ((h.Objs.length : Int) < 64)
def vr (h : zo) : zo := { h with Objs := h.Objs ++ [List.replicate h.Slots.toNat 0] }
def WJ (t : zt) (o : Int) : zt := if (Zl t o).2 = true then ZP (Zl t o).1 o else t
def zcp (l : zk) (who : Int) : Int := l.Bal.getD (who - 1).toNat 0
def UB (l : zk) (who : Int) : Bool := decide (1 ≤ who) && decide (who ≤ (l.Bal.length : Int))
def UZ (l : zk) (who price limit : Int) : Bool := UB l who && decide (0 ≤ price) && decide (0 ≤ limit) && decide (price ≤ 1000000) && decide (limit ≤ 1000000)
def zg9 (l : zk) (who price limit : Int) : Bool := UZ l who price limit && decide (wc (-limit) ≤ wc (zcp l who - price))
def zg5 (l : zk) (who price : Int) : zk := { l with Spent := wc (l.Spent + price), Bal := l.Bal.set (who - 1).toNat (wc (zcp l who - price)) }
def zmG (l : zk) (who price limit : Int) : Int := if UZ l who price limit then (if zg9 l who price limit then 0 else wc (wc (price - limit) - zcp l who)) else -1
def zki (a b : Int) : Int := if b < a then b else a
def zd1 (l : zk) (who want : Int) : zk × Int :=
  if UB l who = true ∧ 0 < zki want l.Pool then ({ l with Pool := wc (l.Pool - zki want l.Pool), Bal := l.Bal.set (who - 1).toNat (wc (zcp l who + zki want l.Pool)) }, zki want l.Pool) else (l, 0)
def wu (p : zc) (m : Int) : List zg := p.Progs.getD (m - 1).toNat []
def opM (p : zc) (m : Int) (x : zb) : zg := (wu p m).getD x.IP.toNat ⟨0, 0, 0, 0⟩
def v4 (x : zb) (r : Int) : Int := x.Regs.getD r.toNat 0
def vF (x : zb) : zb := { x with PC := 0, IP := wc (x.IP + 1) }
def setM (x : zb) (r v : Int) : zb := { x with PC := 0, IP := wc (x.IP + 1), Regs := x.Regs.set r.toNat v }
def onM (s : za) (slot : Int) : Int := if slot = s.H.Slots then 38 else 36
def zm0 (s : za) (m : Int) (x : zb) : Int := zQ s.H (v4 x (opM s.P m x).A) (opM s.P m x).S
def VW (s : za) (m : Int) (x : zb) : zb :=
  if s.Acks.getD (m - 1).toNat 0 < s.Epoch then { x with PC := 1, Ret := 2, Want := s.Epoch }
  else if ((wu s.P m).length : Int) ≤ x.IP then x
  else if (opM s.P m x).Kind = 1 then { x with PC := 10 }
  else if (opM s.P m x).Kind = 2 then { x with PC := 20 }
  else if (opM s.P m x).Kind = 3 then { x with PC := 30 }
  else if (opM s.P m x).Kind = 4 then setM x (opM s.P m x).R (v4 x (opM s.P m x).A)
  else setM x (opM s.P m x).R 0
def mu0 (s : za) (m : Int) (x : zb) : za × zb :=
  (s, VW s m x)
def mu1 (s : za) (m : Int) (x : zb) : za × zb :=
  (s, if x.Buf.length = 0 then { x with PC := x.Ret } else { x with PC := 3, Buf := x.Buf.take (x.Buf.length - 1), G := zaG 2 (x.Buf.getD (x.Buf.length - 1) 0) m })
def mu2 (s : za) (m : Int) (x : zb) : za × zb :=
  ({ s with Acks := s.Acks.set (m - 1).toNat x.Want }, { x with PC := 0 })
def mu3 (s : za) (m : Int) (x : zb) : za × zb :=
  ((zB s x.G).1, if (zB s x.G).2.Out = 1 then { x with PC := 1, G := (zB s x.G).2 } else { x with G := (zB s x.G).2 })
def zg2 (s : za) (m : Int) (x : zb) : za × zb :=
  (s, setM x (opM s.P m x).R (zm0 s m x))
def ze7 (s : za) (m : Int) (x : zb) : za × zb :=
  (s, if v4 x (opM s.P m x).A = 0 then vF x else { x with PC := 21, Old := zm0 s m x })
def zeS (s : za) (m : Int) (x : zb) : za × zb :=
  (s, if x.Old = 0 ∨ xX s.T x.Old ≠ 0 then { x with PC := 23, Old := 0 } else { x with PC := 22 })
def zeR (s : za) (m : Int) (x : zb) : za × zb :=
  (s, if s.P.Buf ≤ (x.Buf.length : Int) then { x with PC := 1, Ret := 22 } else { x with PC := 23, Old := 0, Buf := x.Buf ++ [x.Old] })
def zfo (s : za) (m : Int) (x : zb) : za × zb :=
  ({ s with H := Zm s.H (v4 x (opM s.P m x).A) (opM s.P m x).S (v4 x (opM s.P m x).R) }, vF x)
def zal (s : za) (m : Int) (x : zb) : za × zb :=
     if zg9 s.L m s.P.Price s.P.Limit = true then
      if WA s.H s.P.Most = true then ({ s with L := zg5 s.L m s.P.Price, H := vr s.H, T := WJ s.T (wc (s.H.Objs.length + 1)) }, setM x (opM s.P m x).R (wc (s.H.Objs.length + 1)))
      else (s, vF x)
    else (s, { x with PC := 31 })
def ze4 (s : za) (m : Int) (x : zb) : za × zb :=
     ({ s with L := (zd1 s.L m (zmG s.L m s.P.Price s.P.Limit)).1 }, if (zd1 s.L m (zmG s.L m s.P.Price s.P.Limit)).2 = 0 then { x with PC := 32, C := zvy s.P (yc s.P) x.Bin } else { x with PC := 0 })
def ze2 (s : za) (m : Int) (x : zb) : za × zb :=
     ({ s with M := (zp s.M x.C).1 }, if (zp s.M x.C).2.Out = 1 then { x with PC := 33, Bin := (zp s.M x.C).2.X, C := (zp s.M x.C).2 }
      else if (zp s.M x.C).2.Out = 2 then { x with PC := 0, C := (zp s.M x.C).2 } else { x with C := (zp s.M x.C).2 })
def zha (s : za) (m : Int) (x : zb) : za × zb :=
  ({ s with Bins := s.Bins.set x.Bin.toNat [] }, { x with Batch := zcl s x.Bin, PC := 34, C := zkx s.P (zE s.P) x.Bin })
def ze9 (s : za) (m : Int) (x : zb) : za × zb :=
     ({ s with M := (zp s.M x.C).1 }, if (zp s.M x.C).2.Out = 1 then { x with C := (zp s.M x.C).2, Bin := 0, PC := 35 } else { x with C := (zp s.M x.C).2 })
def zeK (s : za) (m : Int) (x : zb) : za × zb :=
  (s, match x.Batch with | [] => { x with PC := 0 } | o :: l => { x with PC := 36, Obj := o, Slot := 0, Batch := l })
def zeU (s : za) (m : Int) (x : zb) : za × zb :=
     (s, if zQ s.H x.Obj x.Slot = 0 then { x with Slot := wc (x.Slot + 1), PC := onM s (wc (x.Slot + 1)) } else { x with Slot := wc (x.Slot + 1), PC := 37, G := zaG 3 (zQ s.H x.Obj x.Slot) m })
def za8 (s : za) (m : Int) (x : zb) : za × zb :=
  ((zB s x.G).1, if (zB s x.G).2.Out = 1 then { x with G := (zB s x.G).2, PC := onM s x.Slot } else { x with G := (zB s x.G).2 })
def zgL (s : za) (m : Int) (x : zb) : za × zb :=
  ({ s with T := ZP s.T x.Obj, L := zk9 s.L m }, { x with PC := 39 })
def zi7 (s : za) (m : Int) (x : zb) : za × zb :=
  ({ s with Work := wc (s.Work - 1) }, { x with Obj := 0, PC := 35 })
def zn (s : za) (m : Int) (x : zb) : za × zb :=
  if x.PC = 0 then mu0 s m x
  else if x.PC = 1 then mu1 s m x
  else if x.PC = 2 then mu2 s m x
  else if x.PC = 3 then mu3 s m x
  else if x.PC = 10 then zg2 s m x
  else if x.PC = 20 then ze7 s m x
  else if x.PC = 21 then zeS s m x
  else if x.PC = 22 then zeR s m x
  else if x.PC = 23 then zfo s m x
  else if x.PC = 30 then zal s m x
  else if x.PC = 31 then ze4 s m x
  else if x.PC = 32 then ze2 s m x
  else if x.PC = 33 then zha s m x
  else if x.PC = 34 then ze9 s m x
  else if x.PC = 35 then zeK s m x
  else if x.PC = 36 then zeU s m x
  else if x.PC = 37 then za8 s m x
  else if x.PC = 38 then zgL s m x
  else if x.PC = 39 then zi7 s m x
  else (s, x)
def zL (s : za) (m : Int) : za :=
  if s.Done = true ∨ m < 1 ∨ (s.Ms.length : Int) < m then s
  else match s.Ms[(m - 1).toNat]? with
    | some x => { (zn s m x).1 with Ms := s.Ms.set (m - 1).toNat (zn s m x).2 }
    | none => s
def zdN (p : zc) (m : Int) : Nat := (p.Regs.getD (m - 1).toNat []).length
structure XOk (p : zc) (nb : Nat) (m : Int) (x : zb) : Prop where
  pc : (0 ≤ x.PC ∧ x.PC ≤ 3) ∨ x.PC = 10 ∨ (20 ≤ x.PC ∧ x.PC ≤ 23) ∨ (30 ≤ x.PC ∧ x.PC ≤ 39)
  regs : x.Regs.length = zdN p m
  ip : 0 ≤ x.IP ∧ x.IP ≤ ((wu p m).length : Int)
  op : (10 ≤ x.PC ∧ x.PC ≤ 30) ∨ ((x.PC = 1 ∨ x.PC = 3) ∧ x.Ret = 22) → x.IP < ((wu p m).length : Int)
  ret : x.PC = 1 ∨ x.PC = 3 → x.Ret = 2 ∨ x.Ret = 22
  c32 : x.PC = 32 → zvr p nb (yc p) x.C
  b33 : x.PC = 33 → 1 ≤ x.Bin ∧ x.Bin < nb
  c34 : x.PC = 34 → zsw p nb (zE p) x.C
  bin : x.PC ≠ 33 → x.PC ≠ 34 → x.Bin = 0
  g : x.PC = 3 ∨ x.PC = 37 → MOk p nb x.G ∧ (x.G.PC = 5 → x.G.C.Out ≠ 1) ∧ x.G.Mode ≠ 1
  buf : (x.Buf.length : Int) ≤ p.Buf
theorem XOk.move {p : zc} {nb : Nat} {m : Int} {x y : zb} (X : XOk p nb m x) (h : x.PC ≠ 33 ∧ x.PC ≠ 34) (pc : y.PC = 0 ∨ y.PC = 2 ∨ y.PC = 10 ∨ (20 ≤ y.PC ∧ y.PC ≤ 23) ∨ y.PC = 30 ∨ y.PC = 31 ∨ y.PC = 35 ∨ y.PC = 36 ∨ y.PC = 38 ∨ y.PC = 39)
    (regs : y.Regs.length = x.Regs.length) (bin : y.Bin = x.Bin) (buf : (y.Buf.length : Int) ≤ p.Buf) (ip : 0 ≤ y.IP ∧ y.IP ≤ ((wu p m).length : Int)) (op : 10 ≤ y.PC ∧ y.PC ≤ 30 → y.IP < ((wu p m).length : Int)) : XOk p nb m y :=
  ⟨by omega, regs.trans X.regs, ip, fun e => op (by omega), fun e => by omega, fun e => by omega, fun e => by omega, fun e => by omega, fun _ _ => bin.trans (X.bin h.1 h.2), fun e => by omega, buf⟩
theorem zeq (s : za) (i : Int) : onM s i = 36 ∨ onM s i = 38 := by unfold onM; split <;> simp
theorem XOk.next {p : zc} {nb : Nat} {m : Int} {x : zb} (hp : ((wu p m).length : Int) ≤ 64) (X : XOk p nb m x) (h : x.PC ≠ 33 ∧ x.PC ≠ 34) (hi : x.IP < ((wu p m).length : Int)) : XOk p nb m (vF x) := by
  have := X.ip
  have e : wc (x.IP + 1) = x.IP + 1 := vD (by omega) (by omega)
  refine X.move h (.inl rfl) rfl rfl X.buf ?_ (fun h => absurd h (by show ¬ ((10 : Int) ≤ 0 ∧ (0 : Int) ≤ 30); decide))
  show 0 ≤ wc (x.IP + 1) ∧ wc (x.IP + 1) ≤ _
  rw [e]; omega
theorem XOk.set {p : zc} {nb : Nat} {m : Int} {x : zb} (hp : ((wu p m).length : Int) ≤ 64) (X : XOk p nb m x) (h : x.PC ≠ 33 ∧ x.PC ≠ 34) (hi : x.IP < ((wu p m).length : Int)) (r v : Int) : XOk p nb m (setM x r v) := by
  have := X.ip
  have e : wc (x.IP + 1) = x.IP + 1 := vD (by omega) (by omega)
  refine X.move h (.inl rfl) (by simp [setM]) rfl X.buf ?_ (fun h => absurd h (by show ¬ ((10 : Int) ≤ 0 ∧ (0 : Int) ≤ 30); decide))
  show 0 ≤ wc (x.IP + 1) ∧ wc (x.IP + 1) ≤ _
  rw [e]; omega
theorem wH {motive : za × zb → Prop} (s : za) (m : Int) (x : zb) (h0 : x.PC = 0 → motive (mu0 s m x)) (h1 : x.PC = 1 → motive (mu1 s m x)) (h2 : x.PC = 2 → motive (mu2 s m x)) (h3 : x.PC = 3 → motive (mu3 s m x)) (h10 : x.PC = 10 → motive (zg2 s m x)) (h20 : x.PC = 20 → motive (ze7 s m x)) (h21 : x.PC = 21 → motive (zeS s m x)) (h22 : x.PC = 22 → motive (zeR s m x)) (h23 : x.PC = 23 → motive (zfo s m x)) (h30 : x.PC = 30 → motive (zal s m x)) (h31 : x.PC = 31 → motive (ze4 s m x)) (h32 : x.PC = 32 → motive (ze2 s m x)) (h33 : x.PC = 33 → motive (zha s m x)) (h34 : x.PC = 34 → motive (ze9 s m x)) (h35 : x.PC = 35 → motive (zeK s m x)) (h36 : x.PC = 36 → motive (zeU s m x)) (h37 : x.PC = 37 → motive (za8 s m x)) (h38 : x.PC = 38 → motive (zgL s m x)) (h39 : x.PC = 39 → motive (zi7 s m x)) (hn : motive (s, x)) : motive (zn s m x) := by
  unfold zn
  by_cases c0 : x.PC = 0
  · rw [if_pos c0]; exact h0 c0
  rw [if_neg c0]
  by_cases c1 : x.PC = 1
  · rw [if_pos c1]; exact h1 c1
  rw [if_neg c1]
  by_cases c2 : x.PC = 2
  · rw [if_pos c2]; exact h2 c2
  rw [if_neg c2]
  by_cases c3 : x.PC = 3
  · rw [if_pos c3]; exact h3 c3
  rw [if_neg c3]
  by_cases c10 : x.PC = 10
  · rw [if_pos c10]; exact h10 c10
  rw [if_neg c10]
  by_cases c20 : x.PC = 20
  · rw [if_pos c20]; exact h20 c20
  rw [if_neg c20]
  by_cases c21 : x.PC = 21
  · rw [if_pos c21]; exact h21 c21
  rw [if_neg c21]
  by_cases c22 : x.PC = 22
  · rw [if_pos c22]; exact h22 c22
  rw [if_neg c22]
  by_cases c23 : x.PC = 23
  · rw [if_pos c23]; exact h23 c23
  rw [if_neg c23]
  by_cases c30 : x.PC = 30
  · rw [if_pos c30]; exact h30 c30
  rw [if_neg c30]
  by_cases c31 : x.PC = 31
  · rw [if_pos c31]; exact h31 c31
  rw [if_neg c31]
  by_cases c32 : x.PC = 32
  · rw [if_pos c32]; exact h32 c32
  rw [if_neg c32]
  by_cases c33 : x.PC = 33
  · rw [if_pos c33]; exact h33 c33
  rw [if_neg c33]
  by_cases c34 : x.PC = 34
  · rw [if_pos c34]; exact h34 c34
  rw [if_neg c34]
  by_cases c35 : x.PC = 35
  · rw [if_pos c35]; exact h35 c35
  rw [if_neg c35]
  by_cases c36 : x.PC = 36
  · rw [if_pos c36]; exact h36 c36
  rw [if_neg c36]
  by_cases c37 : x.PC = 37
  · rw [if_pos c37]; exact h37 c37
  rw [if_neg c37]
  by_cases c38 : x.PC = 38
  · rw [if_pos c38]; exact h38 c38
  rw [if_neg c38]
  by_cases c39 : x.PC = 39
  · rw [if_pos c39]; exact h39 c39
  rw [if_neg c39]
  exact hn
theorem zxs {p : zc} {nb : Nat} {s : za} {m : Int} {x : zb} (h : zG p) (hp : ((wu p m).length : Int) ≤ 64) (S : SOk p nb s) (X : XOk p nb m x) : SOk p nb (zn s m x).1 ∧ XOk p nb m (zn s m x).2 := by
  have hP := S.P
  have hip := X.ip
  have hbuf := X.buf
  have hb := h.buf
  have nop : ∀ y : Int, 31 ≤ y → ¬ (10 ≤ y ∧ y ≤ 30) := fun y h e => by omega
  refine wH (motive := fun r => SOk p nb r.1 ∧ XOk p nb m r.2) s m x ?_ ?_ ?_ ?_ ?_ ?_ ?_ ?_ ?_ ?_ ?_ ?_ ?_ ?_ ?_ ?_ ?_ ?_ ?_ ?_
  · intro c
    unfold mu0
    refine ⟨S, ?_⟩
    unfold VW
    rw [hP]
    split
    · exact ⟨.inl ⟨(by show (0 : Int) ≤ 1; decide), (by show (1 : Int) ≤ 3; decide)⟩, X.regs, X.ip, fun e => by dsimp only at e; omega, fun _ => .inl rfl, fun e => (by cases e), fun e => (by cases e), fun e => (by cases e), fun _ _ => X.bin (by omega) (by omega), fun e => by dsimp only at e; omega, X.buf⟩
    split
    · exact X
    rename_i hlt
    have hlt : x.IP < ((wu p m).length : Int) := by omega
    split
    · exact X.move (by omega) (.inr (.inr (.inl rfl))) rfl rfl X.buf X.ip (fun _ => hlt)
    split
    · exact X.move (by omega) (.inr (.inr (.inr (.inl ⟨by show (20 : Int) ≤ 20; decide, by show (20 : Int) ≤ 23; decide⟩)))) rfl rfl X.buf X.ip (fun _ => hlt)
    split
    · exact X.move (by omega) (.inr (.inr (.inr (.inr (.inl rfl))))) rfl rfl X.buf X.ip (fun _ => hlt)
    split
    · exact X.set hp (by omega) hlt _ _
    · exact X.set hp (by omega) hlt _ _
  · intro c
    unfold mu1
    refine ⟨S, ?_⟩
    split
    · rcases X.ret (.inl c) with e | e
      · exact X.move (by omega) (.inr (.inl e)) rfl rfl X.buf X.ip (fun e2 => by dsimp only at e2; omega)
      · exact X.move (by omega) (.inr (.inr (.inr (.inl (by dsimp only; omega))))) rfl rfl X.buf X.ip (fun e2 => X.op (.inr ⟨.inl c, e⟩))
    · exact ⟨.inl ⟨(by show (0 : Int) ≤ 3; decide), (by show (3 : Int) ≤ 3; decide)⟩, X.regs, X.ip, fun e => X.op (.inr ⟨.inl c, by dsimp only at e; omega⟩), fun _ => X.ret (.inl c), fun e => (by cases e), fun e => (by cases e), fun e => (by cases e), fun _ _ => X.bin (by omega) (by omega),
        fun _ => ⟨⟨fun e => absurd e (by show ¬ (2 : Int) = 1; decide), fun e => (by cases e), fun e => (by cases e), fun e => (by cases e), fun e => (by cases e)⟩, fun e => (by cases e), by show (2 : Int) ≠ 1; decide⟩, by dsimp only; rw [List.length_take]; omega⟩
  · intro c
    unfold mu2
    exact ⟨S.keep rfl rfl rfl, X.move (by omega) (.inl rfl) rfl rfl X.buf X.ip (fun e => absurd e (by show ¬ ((10 : Int) ≤ 0 ∧ (0 : Int) ≤ 30); decide))⟩
  · intro c
    unfold mu3
    obtain ⟨g1, g2, g3⟩ := X.g (.inl c)
    obtain ⟨r1, r2, r3⟩ := zqH h S g1 g2
    refine ⟨r1, ?_⟩
    dsimp only
    split
    · exact ⟨.inl ⟨(by show (0 : Int) ≤ 1; decide), (by show (1 : Int) ≤ 3; decide)⟩, X.regs, X.ip, fun e => X.op (.inr ⟨.inr c, by dsimp only at e; omega⟩), fun _ => X.ret (.inr c), fun e => (by cases e), fun e => (by cases e), fun e => (by cases e), fun _ _ => X.bin (by omega) (by omega), fun e => by dsimp only at e; omega, X.buf⟩
    · exact ⟨X.pc, X.regs, X.ip, X.op, X.ret, fun e => by dsimp only at e; omega, fun e => by dsimp only at e; omega, fun e => by dsimp only at e; omega, X.bin, fun _ => ⟨r2, r3, by rw [(zcS s x.G).2.2]; exact g3⟩, X.buf⟩
  · intro c
    unfold zg2
    exact ⟨S, X.set hp (by omega) (X.op (.inl (by omega))) _ _⟩
  · intro c
    unfold ze7
    refine ⟨S, ?_⟩
    split
    · exact X.next hp (by omega) (X.op (.inl (by omega)))
    · exact X.move (by omega) (.inr (.inr (.inr (.inl ⟨by show (20 : Int) ≤ 21; decide, by show (21 : Int) ≤ 23; decide⟩)))) rfl rfl X.buf X.ip (fun _ => X.op (.inl (by omega)))
  · intro c
    unfold zeS
    refine ⟨S, ?_⟩
    split
    · exact X.move (by omega) (.inr (.inr (.inr (.inl ⟨by show (20 : Int) ≤ 23; decide, by show (23 : Int) ≤ 23; decide⟩)))) rfl rfl X.buf X.ip (fun _ => X.op (.inl (by omega)))
    · exact X.move (by omega) (.inr (.inr (.inr (.inl ⟨by show (20 : Int) ≤ 22; decide, by show (22 : Int) ≤ 23; decide⟩)))) rfl rfl X.buf X.ip (fun _ => X.op (.inl (by omega)))
  · intro c
    unfold zeR
    have hi := X.op (.inl (by omega))
    refine ⟨S, ?_⟩
    rw [hP]
    split
    · exact ⟨.inl ⟨(by show (0 : Int) ≤ 1; decide), (by show (1 : Int) ≤ 3; decide)⟩, X.regs, X.ip, fun e => hi, fun _ => .inr rfl, fun e => (by cases e), fun e => (by cases e), fun e => (by cases e), fun _ _ => X.bin (by omega) (by omega), fun e => by dsimp only at e; omega, X.buf⟩
    · exact X.move (by omega) (.inr (.inr (.inr (.inl ⟨by show (20 : Int) ≤ 23; decide, by show (23 : Int) ≤ 23; decide⟩)))) rfl rfl (by simp; omega) X.ip (fun _ => hi)
  · intro c
    unfold zfo
    exact ⟨S.keep rfl rfl rfl, X.next hp (by omega) (X.op (.inl (by omega)))⟩
  · intro c
    unfold zal
    have hi := X.op (.inl (by omega))
    split
    · split
      · exact ⟨S.keep rfl rfl rfl, X.set hp (by omega) hi _ _⟩
      · exact ⟨S, X.next hp (by omega) hi⟩
    · exact ⟨S, X.move (by omega) (.inr (.inr (.inr (.inr (.inr (.inl rfl)))))) rfl rfl X.buf X.ip (fun e => absurd e (by show ¬ ((10 : Int) ≤ 31 ∧ (31 : Int) ≤ 30); decide))⟩
  · intro c
    unfold ze4
    refine ⟨S.keep rfl rfl rfl, ?_⟩
    rw [hP]
    split
    · exact ⟨.inr (.inr (.inr ⟨(by show (30 : Int) ≤ 32; decide), (by show (32 : Int) ≤ 39; decide)⟩)), X.regs, X.ip, fun e => by dsimp only at e; omega, fun e => by dsimp only at e; omega, fun _ => zu9, fun e => (by cases e), fun e => (by cases e), fun _ _ => X.bin (by omega) (by omega), fun e => by dsimp only at e; omega, X.buf⟩
    · exact X.move (by omega) (.inl rfl) rfl rfl X.buf X.ip (fun e => absurd e (by show ¬ ((10 : Int) ≤ 0 ∧ (0 : Int) ≤ 30); decide))
  · intro c
    unfold ze2
    have C := X.c32 c
    obtain ⟨b1, b2, b3, b4, b5, b6⟩ := zwz h S (.inl rfl) C.k C.h C.n C.v C.y C.o
    refine ⟨b1, ?_⟩
    dsimp only
    split
    · rename_i e1
      exact ⟨.inr (.inr (.inr ⟨(by show (30 : Int) ≤ 33; decide), (by show (33 : Int) ≤ 39; decide)⟩)), X.regs, X.ip, fun e => by dsimp only at e; omega, fun e => by dsimp only at e; omega, fun e => (by cases e), fun _ => b6 e1, fun e => (by cases e), fun e => absurd rfl e, fun e => by dsimp only at e; omega, X.buf⟩
    split
    · exact X.move (by omega) (.inl rfl) rfl rfl X.buf X.ip (fun e => absurd e (by show ¬ ((10 : Int) ≤ 0 ∧ (0 : Int) ≤ 30); decide))
    · rename_i e1 e2
      exact ⟨X.pc, X.regs, X.ip, X.op, X.ret, fun _ => ⟨b2, b3, b4, (b5 e1 e2).1, (b5 e1 e2).2, e1⟩, fun e => by dsimp only at e; omega, fun e => by dsimp only at e; omega, X.bin, fun e => by dsimp only at e; omega, X.buf⟩
  · intro c
    unfold zha
    have B := X.b33 c
    refine ⟨S.keep rfl rfl (by simp), ?_⟩
    rw [hP]
    exact ⟨.inr (.inr (.inr ⟨(by show (30 : Int) ≤ 34; decide), (by show (34 : Int) ≤ 39; decide)⟩)), X.regs, X.ip, fun e => by dsimp only at e; omega, fun e => by dsimp only at e; omega, fun e => (by cases e), fun e => (by cases e), fun _ => zyj B, fun _ e => absurd rfl e, fun e => by dsimp only at e; omega, X.buf⟩
  · intro c
    unfold ze9
    have C := X.c34 c
    obtain ⟨b1, b2, b3, b4, b5, b6⟩ := zu1 h S (.inr rfl) C.k C.h C.n C.x C.v
    refine ⟨b1, ?_⟩
    dsimp only
    split
    · exact ⟨.inr (.inr (.inr ⟨(by show (30 : Int) ≤ 35; decide), (by show (35 : Int) ≤ 39; decide)⟩)), X.regs, X.ip, fun e => by dsimp only at e; omega, fun e => by dsimp only at e; omega, fun e => (by cases e), fun e => (by cases e), fun e => (by cases e), fun _ _ => rfl, fun e => by dsimp only at e; omega, X.buf⟩
    · exact ⟨X.pc, X.regs, X.ip, X.op, X.ret, fun e => by dsimp only at e; omega, fun e => by dsimp only at e; omega, fun _ => ⟨b2, b3, b4, b5, b6⟩, X.bin, fun e => by dsimp only at e; omega, X.buf⟩
  · intro c
    unfold zeK
    refine ⟨S, ?_⟩
    dsimp only
    split
    · exact X.move (by omega) (.inl rfl) rfl rfl X.buf X.ip (fun e => absurd e (by show ¬ ((10 : Int) ≤ 0 ∧ (0 : Int) ≤ 30); decide))
    · exact X.move (by omega) (by simp) rfl rfl X.buf X.ip (fun e => absurd e (nop 36 (by omega)))
  · intro c
    unfold zeU
    refine ⟨S, ?_⟩
    dsimp only
    split
    · rcases zeq s (wc (x.Slot + 1)) with e | e <;> rw [e]
      · exact X.move (by omega) (by simp) rfl rfl X.buf X.ip (fun e => absurd e (nop 36 (by omega)))
      · exact X.move (by omega) (by simp) rfl rfl X.buf X.ip (fun e => absurd e (nop 38 (by omega)))
    · exact ⟨.inr (.inr (.inr ⟨(by show (30 : Int) ≤ 37; decide), (by show (37 : Int) ≤ 39; decide)⟩)), X.regs, X.ip, fun e => by dsimp only at e; omega, fun e => by dsimp only at e; omega, fun e => (by cases e), fun e => (by cases e), fun e => (by cases e), fun _ _ => X.bin (by omega) (by omega),
        fun _ => ⟨⟨fun e => absurd e (by show ¬ (3 : Int) = 1; decide), fun e => (by cases e), fun e => (by cases e), fun e => (by cases e), fun e => (by cases e)⟩, fun e => (by cases e), by show (3 : Int) ≠ 1; decide⟩, X.buf⟩
  · intro c
    unfold za8
    obtain ⟨g1, g2, g3⟩ := X.g (.inr c)
    obtain ⟨r1, r2, r3⟩ := zqH h S g1 g2
    refine ⟨r1, ?_⟩
    dsimp only
    split
    · rcases zeq s x.Slot with e | e <;> rw [e]
      · exact X.move (by omega) (by simp) rfl rfl X.buf X.ip (fun e => absurd e (nop 36 (by omega)))
      · exact X.move (by omega) (by simp) rfl rfl X.buf X.ip (fun e => absurd e (nop 38 (by omega)))
    · exact ⟨X.pc, X.regs, X.ip, X.op, X.ret, fun e => by dsimp only at e; omega, fun e => by dsimp only at e; omega, fun e => by dsimp only at e; omega, X.bin, fun _ => ⟨r2, r3, by rw [(zcS s x.G).2.2]; exact g3⟩, X.buf⟩
  · intro c
    unfold zgL
    exact ⟨S.keep rfl rfl rfl, X.move (by omega) (by simp) rfl rfl X.buf X.ip (fun e => absurd e (nop 39 (by omega)))⟩
  · intro c
    unfold zi7
    exact ⟨S.keep rfl rfl rfl, X.move (by omega) (by simp) rfl rfl X.buf X.ip (fun e => absurd e (nop 35 (by omega)))⟩
  · exact ⟨S, X⟩
end
end Go.Pe.G
namespace Go.Pe.G
open Go.Pe
noncomputable section
structure HOk (p : zc) (h : zo) : Prop where
  slots : h.Slots = p.H.Slots
  n : (p.H.Objs.length : Int) ≤ (h.Objs.length : Int) ∧ (h.Objs.length : Int) ≤ p.Most
  objs : ∀ o ∈ h.Objs, (o.length : Int) = h.Slots ∧ ∀ v ∈ o, 0 ≤ v ∧ v ≤ (h.Objs.length : Int)
structure EOk (p : zc) (nb : Nat) (s : za) : Prop where
  S : SOk p nb s
  wl : (s.Ws.length : Int) = p.Workers
  ml : (s.Ms.length : Int) = p.Mutators
  al : s.Acks.length = s.Ms.length
  W : ∀ (i : Nat) x, s.Ws[i]? = some x → WOk p nb ((i : Int) + 1) x
  X : ∀ (i : Nat) x, s.Ms[i]? = some x → XOk p nb ((i : Int) + 1) x
  H : HOk p s.H
  D : (0 ≤ s.D.PC ∧ s.D.PC ≤ 6) ∧ (s.D.PC = 3 → 0 ≤ s.D.I ∧ s.D.I < (s.Ms.length : Int))
  small : Ur s
theorem zpr {p : zc} (h : zG p) (m : Int) : ((wu p m).length : Int) ≤ 64 := by
  unfold wu
  have hr := h.regs
  have hp := h.progs
  rw [List.getD_eq_getElem?_getD]
  rcases Nat.lt_or_ge (m - 1).toNat p.Progs.length with hl | hl
  · rw [List.getElem?_eq_getElem hl]
    have hl2 : (m - 1).toNat < p.Regs.length := by omega
    have := (h.prog (m - 1).toNat _ _ (List.getElem?_eq_getElem hl2) (List.getElem?_eq_getElem hl)).1
    show ((p.Progs[(m - 1).toNat]).length : Int) ≤ 64
    omega
  · rw [List.getElem?_eq_none hl]; show (([] : List zg).length : Int) ≤ 64; simp
theorem zs7 {p : zc} (h : zG p) : EOk p (zW p + 1) (yR p) := by
  have hw := h.wk
  have hm := h.mt
  have hr := h.regs
  have hn := h.n
  have hmo := h.most
  have hb := h.buf
  refine ⟨zuS h, ?_, ?_, ?_, fun i x hx => ?_, fun i x hx => ?_, ⟨rfl, ⟨Int.le_refl _, hmo.1⟩, h.objs⟩, ⟨⟨by show (0 : Int) ≤ 0; decide, by show (0 : Int) ≤ 6; decide⟩, fun e => absurd e (by show ¬ (0 : Int) = 3; decide)⟩, zxh h⟩
  · show (((List.range p.Workers.toNat).map (uK p)).length : Int) = _
    rw [List.length_map, List.length_range]; omega
  · show ((p.Regs.map vN).length : Int) = _
    rw [List.length_map]; exact hr
  · show (List.replicate p.Mutators.toNat (0 : Int)).length = (p.Regs.map vN).length
    rw [List.length_replicate, List.length_map]; omega
  · have hx : ((List.range p.Workers.toNat).map (uK p))[i]? = some x := hx
    rw [List.getElem?_map] at hx
    rcases Nat.lt_or_ge i p.Workers.toNat with hl | hl
    · rw [List.getElem?_range hl] at hx
      injection hx with hx
      subst hx
      exact ⟨⟨by show (0 : Int) ≤ 0; decide, by show (0 : Int) ≤ 9; decide⟩, by show 1 ≤ (i : Int) + 1 ∧ (i : Int) + 1 ≤ p.Workers; omega, fun _ => ⟨rfl, rfl, rfl⟩, fun e => (by cases e), fun e => (by cases e), fun e => (by cases e), fun e => (by cases e), fun e => (by cases e)⟩
    · rw [List.getElem?_eq_none (by rw [List.length_range]; exact hl)] at hx; cases hx
  · have hx : (p.Regs.map vN)[i]? = some x := hx
    rw [List.getElem?_map] at hx
    cases hq : p.Regs[i]? with
    | none => rw [hq] at hx; cases hx
    | some r =>
      rw [hq] at hx
      injection hx with hx
      subst hx
      refine ⟨.inl ⟨by show (0 : Int) ≤ 0; decide, by show (0 : Int) ≤ 3; decide⟩, ?_, ⟨by show (0 : Int) ≤ 0; decide, by show (0 : Int) ≤ _; omega⟩, fun e => absurd e ?_, fun e => absurd e ?_, fun e => (by cases e), fun e => (by cases e), fun e => (by cases e), fun _ _ => rfl, fun e => absurd e ?_, by show (0 : Int) ≤ p.Buf; omega⟩
      · show r.length = zdN p ((i : Int) + 1)
        unfold zdN
        rw [show ((i : Int) + 1 - 1).toNat = i by omega, List.getD_eq_getElem?_getD, hq]; rfl
      · intro e; simp [vN] at e
      · intro e; simp [vN] at e
      · intro e; simp [vN] at e
theorem zua {s : za} (h : Ur s) (b : Int) : (zcl s b).length < 1000000 := by
  unfold zcl
  rw [List.getD_eq_getElem?_getD]
  cases hq : s.Bins[b.toNat]? with
  | none => simp
  | some l => exact h.bin l (List.mem_of_getElem? hq)
theorem zwv (l : zk) (w : Int) : (zk9 l w).Bal.length = l.Bal.length := by unfold zk9; split <;> simp
structure V5 (s s' : za) : Prop where
  P : s'.P = s.P
  m : s'.M.length = s.M.length
  bl : s'.Bins.length = s.Bins.length
  b : ∀ l ∈ s'.Bins, l ∈ s.Bins ∨ l.length ≤ 1
  bal : s'.L.Bal.length = s.L.Bal.length
  ac : s'.Acks.length = s.Acks.length
  ws : s'.Ws = s.Ws
  ms : s'.Ms = s.Ms
  done : s'.Done = s.Done
  d : s'.D = s.D
theorem V5.refl (s : za) : V5 s s := ⟨rfl, rfl, rfl, fun l h => .inl h, rfl, rfl, rfl, rfl, rfl, rfl⟩
theorem ziF (s : za) (g : zA) : V5 s (zB s g).1 ∧ (zB s g).1.H = s.H := by
  obtain ⟨m, b, t, w, f, e, h1, h2, h3, _, _⟩ := zkY s g
  rw [e]
  exact ⟨⟨rfl, h1, h2, fun l hl => (h3 l hl).imp id (fun e => by rw [e]; simp), rfl, rfl, rfl, rfl, rfl, rfl⟩, rfl⟩
theorem zzp {s : za} (b : Nat) : ∀ l ∈ s.Bins.set b [], l ∈ s.Bins ∨ l.length ≤ 1 := fun l hl => (List.mem_or_eq_of_mem_set hl).imp id (fun e => by rw [e]; simp)
theorem zwb (l : zk) (w p : Int) : (zg5 l w p).Bal.length = l.Bal.length := by unfold zg5; simp
theorem zwu (l : zk) (w n : Int) : (zd1 l w n).1.Bal.length = l.Bal.length := by unfold zd1; split <;> simp
theorem ztP (s : za) (m : Int) (x : zb) : V5 s (zn s m x).1 := by
  have q : ∀ s' : za, s'.P = s.P → s'.M = s.M → s'.Bins = s.Bins → s'.L.Bal.length = s.L.Bal.length → s'.Acks.length = s.Acks.length → s'.Ws = s.Ws → s'.Ms = s.Ms → s'.Done = s.Done → s'.D = s.D → V5 s s' :=
    fun s' a b c d e f g h i => ⟨a, by rw [b], by rw [c], fun l hl => .inl (c ▸ hl), d, e, f, g, h, i⟩
  refine wH (motive := fun r => V5 s r.1) s m x ?_ ?_ ?_ ?_ ?_ ?_ ?_ ?_ ?_ ?_ ?_ ?_ ?_ ?_ ?_ ?_ ?_ ?_ ?_ ?_
  · intro c
    unfold mu0
    exact V5.refl s
  · intro c
    unfold mu1
    exact V5.refl s
  · intro c
    unfold mu2
    exact q _ rfl rfl rfl rfl (by simp) rfl rfl rfl rfl
  · intro c
    unfold mu3
    exact (ziF s x.G).1
  · intro c
    unfold zg2
    exact V5.refl s
  · intro c
    unfold ze7
    exact V5.refl s
  · intro c
    unfold zeS
    exact V5.refl s
  · intro c
    unfold zeR
    exact V5.refl s
  · intro c
    unfold zfo
    exact q _ rfl rfl rfl rfl rfl rfl rfl rfl rfl
  · intro c
    unfold zal
    split
    · split
      · exact q _ rfl rfl rfl (zwb _ _ _) rfl rfl rfl rfl rfl
      · exact V5.refl s
    · exact V5.refl s
  · intro c
    unfold ze4
    exact q _ rfl rfl rfl (zwu _ _ _) rfl rfl rfl rfl rfl
  · intro c
    unfold ze2
    exact ⟨rfl, zf8 _ _, rfl, fun l h => .inl h, rfl, rfl, rfl, rfl, rfl, rfl⟩
  · intro c
    unfold zha
    exact ⟨rfl, rfl, by simp, zzp _, rfl, rfl, rfl, rfl, rfl, rfl⟩
  · intro c
    unfold ze9
    exact ⟨rfl, zf8 _ _, rfl, fun l h => .inl h, rfl, rfl, rfl, rfl, rfl, rfl⟩
  · intro c
    unfold zeK
    exact V5.refl s
  · intro c
    unfold zeU
    exact V5.refl s
  · intro c
    unfold za8
    exact (ziF s x.G).1
  · intro c
    unfold zgL
    exact q _ rfl rfl rfl (zwv _ _) rfl rfl rfl rfl rfl
  · intro c
    unfold zi7
    exact q _ rfl rfl rfl rfl rfl rfl rfl rfl rfl
  · exact V5.refl s
theorem HOk.sm {p : zc} (hp : zG p) {h : zo} (H : HOk p h) : h.Objs.length < 1000000 ∧ ∀ x ∈ h.Objs, x.length < 1000000 := by
  have h1 := H.n
  have h2 := hp.most
  have h3 := hp.n
  have h4 := hp.slots
  have h5 := H.slots
  exact ⟨by omega, fun x hx => by have := (H.objs x hx).1; omega⟩
theorem Ur.turn {p : zc} (hp : zG p) {s s' : za} (h : Ur s) (T : V5 s s') (H : HOk p s'.H) : Ur s' := by
  have hh := H.sm hp
  refine ⟨by rw [T.m]; exact h.m, by rw [T.bl]; exact h.bins, fun x hx => ?_, by rw [T.ac]; exact h.acks, by rw [T.bal]; exact h.bal, by rw [T.ws]; exact h.ws, by rw [T.ws]; exact h.w, by rw [T.ms]; exact h.ms, by rw [T.ms]; exact h.mu, hh.1, hh.2, by rw [T.P]; exact h.pobjs, by rw [T.P]; exact h.pobj, by rw [T.P]; exact h.regs, by rw [T.P]; exact h.reg, by rw [T.P]; exact h.progs, by rw [T.P]; exact h.prog, by rw [T.P]; exact h.picks⟩
  rcases T.b x hx with h' | h'
  · exact h.bin x h'
  · omega
theorem Ur.setM {s : za} (h : Ur s) {i : Nat} {x : zb} (hx : x.Regs.length < 1000000 ∧ x.Buf.length < 1000000 ∧ x.Batch.length < 1000000) : Ur { s with Ms := s.Ms.set i x } :=
  ⟨h.m, h.bins, h.bin, h.acks, h.bal, h.ws, h.w, by simp only [List.length_set]; exact h.ms, fun y hy => by
    rcases List.mem_or_eq_of_mem_set hy with hy | rfl
    · exact h.mu y hy
    · exact hx, h.objs, h.obj, h.pobjs, h.pobj, h.regs, h.reg, h.progs, h.prog, h.picks⟩
theorem zy9 {α : Type} {l : List α} {i j : Nat} {x y : α} (h : (l.set i x)[j]? = some y) : (j = i ∧ y = x) ∨ l[j]? = some y := by
  rw [List.getElem?_set] at h
  split at h
  · rename_i e
    split at h
    · injection h with h; exact .inl ⟨e.symm, h.symm⟩
    · cases h
  · exact .inr h
theorem HOk.put {p : zc} {h : zo} (H : HOk p h) (o s v : Int) : HOk p (Zm h o s v) := by
  unfold Zm
  split
  · rename_i c
    obtain ⟨c1, c2, c3⟩ := c
    unfold yE at c1
    simp only [Bool.and_eq_true, decide_eq_true_eq] at c1
    refine ⟨H.slots, by simp only [List.length_set]; exact H.n, fun l hl => ?_⟩
    simp only [List.length_set]
    rcases List.mem_or_eq_of_mem_set hl with hl | rfl
    · exact H.objs l hl
    · have hm : zH h o ∈ h.Objs := by
        unfold zH
        rw [List.getD_eq_getElem?_getD, List.getElem?_eq_getElem (show (o - 1).toNat < h.Objs.length by omega)]
        exact List.getElem_mem _
      obtain ⟨a, b⟩ := H.objs _ hm
      refine ⟨by rw [List.length_set]; exact a, fun y hy => ?_⟩
      rcases List.mem_or_eq_of_mem_set hy with hy | rfl
      · exact b y hy
      · exact ⟨c2, c3⟩
  · exact H
theorem HOk.alloc {p : zc} (hp : zG p) {h : zo} (H : HOk p h) (hr : WA h p.Most = true) : HOk p (vr h) := by
  unfold WA at hr
  simp only [Bool.and_eq_true, decide_eq_true_eq] at hr
  have hs := hp.slots
  have hsl := H.slots
  have hn := H.n
  unfold vr
  refine ⟨H.slots, by simp only [List.length_append, List.length_singleton]; omega, fun l hl => ?_⟩
  simp only [List.length_append, List.length_singleton]
  rcases List.mem_append.1 hl with hl | hl
  · obtain ⟨a, b⟩ := H.objs l hl
    exact ⟨a, fun v hv => by have := b v hv; omega⟩
  · rw [List.mem_singleton.1 hl]
    refine ⟨by rw [List.length_replicate]; omega, fun v hv => ?_⟩
    rw [(List.mem_replicate.1 hv).2]; omega
theorem zAg {p : zc} (hp : zG p) {s : za} (hP : s.P = p) (H : HOk p s.H) (m : Int) (x : zb) : HOk p (zn s m x).1.H := by
  refine wH (motive := fun r => HOk p r.1.H) s m x ?_ ?_ ?_ ?_ ?_ ?_ ?_ ?_ ?_ ?_ ?_ ?_ ?_ ?_ ?_ ?_ ?_ ?_ ?_ ?_
  · intro c
    unfold mu0
    exact H
  · intro c
    unfold mu1
    exact H
  · intro c
    unfold mu2
    exact H
  · intro c
    unfold mu3
    rw [(ziF s x.G).2]; exact H
  · intro c
    unfold zg2
    exact H
  · intro c
    unfold ze7
    exact H
  · intro c
    unfold zeS
    exact H
  · intro c
    unfold zeR
    exact H
  · intro c
    unfold zfo
    exact H.put _ _ _
  · intro c
    unfold zal
    split
    · split
      · rename_i hr
        rw [hP] at hr
        exact H.alloc hp hr
      · exact H
    · exact H
  · intro c
    unfold ze4
    exact H
  · intro c
    unfold ze2
    exact H
  · intro c
    unfold zha
    exact H
  · intro c
    unfold ze9
    exact H
  · intro c
    unfold zeK
    exact H
  · intro c
    unfold zeU
    exact H
  · intro c
    unfold za8
    rw [(ziF s x.G).2]; exact H
  · intro c
    unfold zgL
    exact H
  · intro c
    unfold zi7
    exact H
  · exact H
theorem ztS (s : za) (m : Int) (x : zb) : (VW s m x).Batch = x.Batch := by
  unfold VW
  repeat' split
  all_goals rfl
theorem zwZ {s : za} (h : Ur s) (m : Int) {x : zb} (hx : x.Batch.length < 1000000) : (zn s m x).2.Batch.length < 1000000 := by
  refine wH (motive := fun r => r.2.Batch.length < 1000000) s m x ?_ ?_ ?_ ?_ ?_ ?_ ?_ ?_ ?_ ?_ ?_ ?_ ?_ ?_ ?_ ?_ ?_ ?_ ?_ ?_
  · intro c
    unfold mu0
    dsimp only; rw [ztS]; exact hx
  · intro c
    unfold mu1
    dsimp only; split <;> exact hx
  · intro c
    unfold mu2
    exact hx
  · intro c
    unfold mu3
    dsimp only; split <;> exact hx
  · intro c
    unfold zg2
    exact hx
  · intro c
    unfold ze7
    dsimp only; split <;> exact hx
  · intro c
    unfold zeS
    dsimp only; split <;> exact hx
  · intro c
    unfold zeR
    dsimp only; split <;> exact hx
  · intro c
    unfold zfo
    exact hx
  · intro c
    unfold zal
    split
    · split <;> exact hx
    · exact hx
  · intro c
    unfold ze4
    dsimp only; split <;> exact hx
  · intro c
    unfold ze2
    dsimp only
    split
    · exact hx
    split <;> exact hx
  · intro c
    unfold zha
    exact zua h _
  · intro c
    unfold ze9
    dsimp only; split <;> exact hx
  · intro c
    unfold zeK
    dsimp only
    cases hb : x.Batch with
    | nil => show ([] : List Int).length < 1000000; simp
    | cons o l => rw [hb] at hx; show l.length < _; simp at hx; omega
  · intro c
    unfold zeU
    dsimp only; split <;> exact hx
  · intro c
    unfold za8
    dsimp only; split <;> exact hx
  · intro c
    unfold zgL
    exact hx
  · intro c
    unfold zi7
    exact hx
  · exact hx
theorem zjo {p : zc} (h : zG p) (m : Int) : zdN p m < 1000000 := by
  unfold zdN
  rw [List.getD_eq_getElem?_getD]
  cases hq : p.Regs[(m - 1).toNat]? with
  | none => simp
  | some r => have := (h.reg r (List.mem_of_getElem? hq)).1; show r.length < _; omega
theorem zmg {p : zc} {nb : Nat} {s : za} (h : zG p) (E : EOk p nb s) (m : Int) : EOk p nb (zL s m) := by
  unfold zL
  split
  · exact E
  rename_i hc
  cases hx : s.Ms[(m - 1).toNat]? with
  | none => exact E
  | some x =>
    have hw1 : ¬ m < 1 := fun e => hc (.inr (.inl e))
    have hw2 : ¬ (s.Ms.length : Int) < m := fun e => hc (.inr (.inr e))
    have ei : (((m - 1).toNat : Nat) : Int) + 1 = m := by omega
    have hX := E.X _ x hx
    rw [ei] at hX
    obtain ⟨r1, r2⟩ := zxs h (zpr h m) E.S hX
    have T := ztP s m x
    have TH := zAg h E.S.P E.H m x
    have sm : Ur (zn s m x).1 := E.small.turn h T TH
    have hms : (zn s m x).1.Ms = s.Ms := T.ms
    have hb := h.buf
    refine ⟨r1.keep rfl rfl rfl, ?_, ?_, ?_, fun i y hy => ?_, fun i y hy => ?_, TH, ?_, ?_⟩
    · show ((zn s m x).1.Ws.length : Int) = _
      rw [T.ws]; exact E.wl
    · show ((s.Ms.set _ _).length : Int) = _
      rw [List.length_set]; exact E.ml
    · show (zn s m x).1.Acks.length = (s.Ms.set _ _).length
      rw [List.length_set, T.ac]; exact E.al
    · have hy : (zn s m x).1.Ws[i]? = some y := hy
      rw [T.ws] at hy
      exact E.W i y hy
    · rcases zy9 hy with ⟨rfl, rfl⟩ | hy
      · rw [ei]; exact r2
      · exact E.X i y hy
    · show (0 ≤ (zn s m x).1.D.PC ∧ (zn s m x).1.D.PC ≤ 6) ∧ ((zn s m x).1.D.PC = 3 → 0 ≤ (zn s m x).1.D.I ∧ (zn s m x).1.D.I < ((s.Ms.set _ _).length : Int))
      rw [T.d, List.length_set]; exact E.D
    · have q := E.small.mu x (List.mem_of_getElem? hx)
      have q1 := r2.regs
      have q2 := r2.buf
      have q3 := zjo h m
      have := sm.setM (i := (m - 1).toNat) (x := (zn s m x).2) ⟨by omega, by omega, zwZ E.small m q.2.2⟩
      rw [hms] at this
      exact this
end
end Go.Pe.G
namespace Go.Pe.G
open Go.Pe
noncomputable section
theorem zuT (t : zt) (o : Int) : zir t o = some (xX t o, ()) := by
  rw [zsI, zm1, Option.bind_some]
  show (bif zJ (t.Marks &&& t.Black) o then _ else _) = _
  unfold xX
  cases h : zJ (t.Marks &&& t.Black) o with
  | true => rfl
  | false =>
    rw [cond_false, zm1, Option.bind_some]
    show (bif zJ t.Marks o then _ else _) = _
    cases h2 : zJ t.Marks o <;> rfl
theorem zrD (t : zt) (o : Int) : zd6 t o = some (ZP t o, decide (xX t o = 1), ()) := by
  rw [zqv, zuT, Option.bind_some, yI]
  unfold ZP
  by_cases h : xX t o = 1
  · rw [if_pos h, if_pos h, zgm, Option.bind_some, decide_eq_true h]
  · rw [if_neg h, if_neg h, decide_eq_false h]
theorem zpH {h : zo} (hl : h.Objs.length < 1000000) (o s : Int) : Wz h o s = some (yE h o s, ()) := by
  rw [zkA]
  simp only [zq]
  unfold yE
  by_cases h1 : 1 ≤ o
  · rw [if_pos h1]
    by_cases h2 : o ≤ (h.Objs.length : Int)
    · rw [if_pos h2]
      by_cases h3 : 0 ≤ s
      · have e := List.getElem?_eq_getElem (show (o - 1).toNat < h.Objs.length by omega)
        rw [if_pos h3, yf (a := o - 1) (by omega) (by omega), v7 (by omega), e, Option.bind_some, decide_eq_true h1, decide_eq_true h2, decide_eq_true h3]
        unfold zH
        rw [List.getD_eq_getElem?_getD, e]; rfl
      · rw [if_neg h3, decide_eq_false h3, Bool.and_false]; rfl
    · rw [if_neg h2, decide_eq_false h2, Bool.and_false]; rfl
  · rw [if_neg h1, decide_eq_false h1]; rfl
theorem zsC {h : zo} (hl : h.Objs.length < 1000000) (o s : Int) : zfM h o s = some (zQ h o s, yE h o s, ()) := by
  rw [zsb, zpH hl, Option.bind_some]
  unfold zQ
  cases hs : yE h o s with
  | false => rfl
  | true =>
    have hs' := hs
    unfold yE at hs'
    simp only [Bool.and_eq_true, decide_eq_true_eq] at hs'
    obtain ⟨⟨⟨h1, h2⟩, h3⟩, h4⟩ := hs'
    have e := List.getElem?_eq_getElem (show (o - 1).toNat < h.Objs.length by omega)
    have es : zH h o = h.Objs[(o - 1).toNat]'(by omega) := by unfold zH; rw [List.getD_eq_getElem?_getD, e]; rfl
    rw [es] at h4
    have e2 := List.getElem?_eq_getElem (show s.toNat < (h.Objs[(o - 1).toNat]'(by omega)).length by omega)
    simp only [Bool.not_true, cond_false, if_true]
    rw [yf (a := o - 1) (by omega) (by omega), v7 (by omega), e, Option.bind_some, v7 h3, e2, Option.bind_some, es, List.getD_eq_getElem?_getD, e2]; rfl
theorem zgC (l : zk) (who : Int) : uD l who = some (decide (1 ≤ who) && decide (who ≤ (l.Bal.length : Int)), ()) := by
  rw [zhe, zq]
  by_cases h1 : 1 ≤ who
  · rw [if_pos h1, decide_eq_true h1]; rfl
  · rw [if_neg h1, decide_eq_false h1]; rfl
theorem zuv {l : zk} (hl : l.Bal.length < 1000000) (who : Int) : zfa l who = some (zk9 l who, ()) := by
  rw [zoy, wN, zgC, Option.bind_some]
  unfold zk9
  by_cases h : 1 ≤ who ∧ who ≤ (l.Bal.length : Int)
  · rw [if_pos h, decide_eq_true h.1, decide_eq_true (show who ≤ ((({ l with Scanned := wc (l.Scanned + 1) } : zk).Bal.length : Nat) : Int) from h.2)]
    have hn : ¬ l.Bal.isEmpty = true := by
      intro e
      have : l.Bal = [] := by simpa using e
      rw [this] at h
      simp at h
      omega
    have hn : l.Bal.isEmpty = false := by simpa using hn
    have e := List.getElem?_eq_getElem (show (who - 1).toNat < l.Bal.length by omega)
    rw [Bool.true_and, Bool.not_true, cond_false, Vc]
    simp only [decide_true, cond_true, zgO (n := (l.Bal.length : Int)) (by omega) (by omega), Option.bind_some, List.length_replicate, Int.toNat_natCast, hn, cond_false, wN]
    rw [vD (a := who - 1) (by omega) (by omega), uI (l := l.Bal) (by omega) (by omega), Option.bind_some, e, Option.bind_some, zmA, Option.bind_some, Option.bind_some, Option.bind_some, wN, List.getD_eq_getElem?_getD, e]
    rfl
  · rw [if_neg h]
    have e : (decide (1 ≤ who) && decide (who ≤ ((({ l with Scanned := wc (l.Scanned + 1) } : zk).Bal.length : Nat) : Int))) = false := by
      by_cases h1 : 1 ≤ who
      · rw [decide_eq_true h1, decide_eq_false (fun e => h ⟨h1, e⟩)]; rfl
      · rw [decide_eq_false h1]; rfl
    rw [e]; rfl
theorem zsx {α : Type} (o : α) (l : List α) : cut (o :: l) 1 (((o :: l).length : Nat) : Int) = some l := by
  unfold cut
  rw [decide_eq_true (show (0 : Int) ≤ 1 by decide), decide_eq_true (show (1 : Int) ≤ (((o :: l).length : Nat) : Int) by simp; omega), decide_eq_true (Int.le_refl _)]
  simp
end
end Go.Pe.G
namespace Go.Pe.G
open Go.Pe
noncomputable section
theorem zoe {p : zc} (h : zG p) {m : Int} (hm : 1 ≤ m ∧ m ≤ p.Mutators) : p.Progs[(m - 1).toNat]? = some (wu p m) := by
  have := h.progs
  have e := List.getElem?_eq_getElem (show (m - 1).toNat < p.Progs.length by omega)
  unfold wu
  rw [List.getD_eq_getElem?_getD, e]; rfl
theorem zjD {p : zc} (h : zG p) {m : Int} (hm : 1 ≤ m ∧ m ≤ p.Mutators) {o : zg} (ho : o ∈ wu p m) : (0 ≤ o.R ∧ o.R < (zdN p m : Int)) ∧ (0 ≤ o.A ∧ o.A < (zdN p m : Int)) := by
  have hr := h.regs
  have er := List.getElem?_eq_getElem (show (m - 1).toNat < p.Regs.length by omega)
  have e1 : zdN p m = (p.Regs[(m - 1).toNat]'(by omega)).length := by unfold zdN; rw [List.getD_eq_getElem?_getD, er]; rfl
  have hl := (h.reg _ (List.getElem_mem (show (m - 1).toNat < p.Regs.length by omega))).1
  obtain ⟨a, b⟩ := (h.prog _ _ _ er (zoe h hm)).2 o ho
  rw [e1]
  refine ⟨a, ?_⟩
  rcases b with ⟨_, b, _⟩ | ⟨_, b, _⟩ | ⟨_, b, _⟩
  · exact b
  · exact b
  · omega
theorem zf3 {p : zc} (h : zG p) {s : za} (hP : s.P = p) {m : Int} (hm : 1 ≤ m ∧ m ≤ p.Mutators) {x : zb} (hi : 0 ≤ x.IP ∧ x.IP < ((wu p m).length : Int)) :
    wZ ⟨x, s, m⟩ = some (opM p m x, ()) ∧ opM p m x ∈ wu p m := by
  have hmt := h.mt
  have e := List.getElem?_eq_getElem (show x.IP.toNat < (wu p m).length by omega)
  have eo : opM p m x = (wu p m)[x.IP.toNat]'(by omega) := by unfold opM; rw [List.getD_eq_getElem?_getD, e]; rfl
  rw [zlp]
  dsimp only
  rw [hP, yf (a := m - 1) (by omega) (by omega), v7 (by omega), zoe h hm, Option.bind_some, v7 hi.1, e, Option.bind_some, eo]
  exact ⟨rfl, List.getElem_mem _⟩
theorem zjF {x : zb} {r : Int} (h : 0 ≤ r ∧ r < (x.Regs.length : Int)) : idx x.Regs r = some (v4 x r) := by
  have e := List.getElem?_eq_getElem (show r.toNat < x.Regs.length by omega)
  rw [v7 h.1, e]
  unfold v4
  rw [List.getD_eq_getElem?_getD, e]; rfl
theorem zd3 {s : za} {m : Int} {x : zb} {r : Int} (h : 0 ≤ r ∧ r < (x.Regs.length : Int)) (hl : x.Regs.length < 1000000) (v : Int) : v3 r v ⟨x, s, m⟩ = some (⟨setM x r v, s, m⟩, ()) := by
  rw [zhQ]
  simp only [Vm (show x.Regs.length < 4294967296 by omega), Option.bind_some, uI h.1 h.2, Zk, wN]
  rfl
theorem zmL {p : zc} (h : zG p) {s : za} (hP : s.P = p) {m : Int} (hm : 1 ≤ m ∧ m ≤ p.Mutators) {x : zb} (hi : 0 ≤ x.IP ∧ x.IP < ((wu p m).length : Int)) (hr : x.Regs.length = zdN p m) (ho : s.H.Objs.length < 1000000) :
    XR ⟨x, s, m⟩ = some (zm0 s m x, ()) := by
  obtain ⟨e1, e2⟩ := zf3 h hP hm hi
  have o := zjD h hm e2
  rw [zj7]
  simp only [e1, Option.bind_some, zjF (x := x) (r := (opM p m x).A) (by omega), zsC ho]
  unfold zm0
  rw [hP]
theorem zj8 {p : zc} {nb : Nat} (h : zG p) {s : za} (S : SOk p nb s) {m : Int} {x : zb} (M : MOk p nb x.G) (to : Int) :
    ZA to ⟨x, s, m⟩ = some (⟨if (zB s x.G).2.Out = 1 then { x with PC := to, G := (zB s x.G).2 } else { x with G := (zB s x.G).2 }, (zB s x.G).1, m⟩, ()) := by
  rw [zff]
  simp only [zxv (S.gok h M), Option.bind_some, zq]
  split <;> rfl
theorem zpA (s : za) (x : zb) (m : Int) : Vr ⟨x, s, m⟩ = some (onM s x.Slot, ()) := by
  rw [zlv, zq]
  unfold onM
  split <;> rfl
theorem zlG (k hd to : Int) (s : za) (x : zb) (m : Int) : Z7 k hd to ⟨x, s, m⟩ = some (⟨{ x with PC := to, C := ⟨k, 0, hd, zE s.P, 0#64, x.Bin, 0, 0⟩ }, s, m⟩, ()) := by
  rw [zhp]
  simp only [zfB, Option.bind_some, za7]
theorem zyr {m : List zb} (h : m.length < 4294967296) : wC m = some (m, ()) := by
  rw [Xz, List.nil_append, wx h, Option.bind_some]
  cases m with
  | nil => simp [zih]
  | cons a l => simp
theorem zsc {p : zc} (h : zG p) {nb : Nat} {s : za} (hP : s.P = p) {m : Int} (hm : 1 ≤ m ∧ m ≤ p.Mutators) (ha : (s.Acks.length : Int) = p.Mutators) {x : zb} (X : XOk p nb m x) :
    X6 ⟨x, s, m⟩ = some (⟨VW s m x, s, m⟩, ()) := by
  have hmt := h.mt
  have hip := X.ip
  have hrs := zjo h m
  have e := List.getElem?_eq_getElem (show (m - 1).toNat < s.Acks.length by omega)
  have ed : s.Acks.getD (m - 1).toNat 0 = s.Acks[(m - 1).toNat]'(by omega) := by rw [List.getD_eq_getElem?_getD, e]; rfl
  have pg : s.P.Progs[(m - 1).toNat]? = some (wu p m) := by rw [hP]; exact zoe h hm
  rw [zfX]
  simp only [zq]
  rw [yf (a := m - 1) (by omega) (by omega), v7 (by omega), e, Option.bind_some]
  unfold VW
  rw [ed, hP]
  by_cases c : (s.Acks[(m - 1).toNat]'(by omega)) < s.Epoch
  · rw [if_pos c, if_pos c]
  rw [if_neg c, if_neg c, ← hP, v7 (by omega), pg, Option.bind_some, hP]
  by_cases c2 : ((wu p m).length : Int) ≤ x.IP
  · rw [if_pos c2, if_pos c2]
  rw [if_neg c2, if_neg c2]
  obtain ⟨e1, e2⟩ := zf3 h hP hm (x := x) (show 0 ≤ x.IP ∧ x.IP < ((wu p m).length : Int) by omega)
  have o := zjD h hm e2
  have hreg := X.regs
  rw [e1, Option.bind_some]
  by_cases k1 : (opM p m x).Kind = 1
  · rw [if_pos k1, if_pos k1]
  rw [if_neg k1, if_neg k1]
  by_cases k2 : (opM p m x).Kind = 2
  · rw [if_pos k2, if_pos k2]
  rw [if_neg k2, if_neg k2]
  by_cases k3 : (opM p m x).Kind = 3
  · rw [if_pos k3, if_pos k3]
  rw [if_neg k3, if_neg k3]
  by_cases k4 : (opM p m x).Kind = 4
  · rw [if_pos k4, if_pos k4, zjF (x := x) (r := (opM p m x).A) (by omega), Option.bind_some, zd3 (x := x) (r := (opM p m x).R) (by omega) (by omega)]; rfl
  · rw [if_neg k4, if_neg k4, zd3 (x := x) (r := (opM p m x).R) (by omega) (by omega)]; rfl
theorem zxw {h : zo} (hl : h.Objs.length < 1000000) (hs : ∀ l ∈ h.Objs, l.length < 1000000) (o i v : Int) : ∃ b, zk3 h o i v = some (Zm h o i v, b, ()) := by
  rw [zrP, zpH hl, Option.bind_some]
  unfold Zm
  cases ht : yE h o i with
  | false => rw [if_neg (fun e => by cases e.1)]; exact ⟨_, rfl⟩
  | true =>
    rw [Bool.not_true, cond_false, zq]
    by_cases h1 : v < 0
    · rw [if_pos h1, if_neg (by omega)]; exact ⟨_, rfl⟩
    rw [if_neg h1, zq]
    by_cases h2 : (h.Objs.length : Int) < v
    · rw [if_pos h2, if_neg (by omega)]; exact ⟨_, rfl⟩
    have hh := ht
    unfold yE at hh
    simp only [Bool.and_eq_true, decide_eq_true_eq] at hh
    obtain ⟨⟨⟨g1, g2⟩, g3⟩, g4⟩ := hh
    have e := List.getElem?_eq_getElem (show (o - 1).toNat < h.Objs.length by omega)
    have es : zH h o = h.Objs[(o - 1).toNat]'(by omega) := by unfold zH; rw [List.getD_eq_getElem?_getD, e]; rfl
    have hlen := hs _ (List.mem_of_getElem? e)
    rw [if_neg h2, if_pos ⟨rfl, by omega, by omega⟩, zke (by omega), Option.bind_some, yf (a := o - 1) (by omega) (by omega), uI (l := h.Objs) (by omega) (by omega), Option.bind_some, e, Option.bind_some, Vm (by omega), Option.bind_some, Option.bind_some, Option.bind_some]
    rw [zq, if_pos rfl, uI g3 (by rw [← es]; exact g4), Option.bind_some, es]
    exact ⟨_, rfl⟩
theorem zlj {h : zo} (h1 : 1 ≤ h.Slots ∧ h.Slots ≤ 4) (h2 : h.Objs.length ≤ 64) (h3 : ∀ o ∈ h.Objs, (o.length : Int) = h.Slots ∧ ∀ v ∈ o, 0 ≤ v ∧ v ≤ (h.Objs.length : Int)) : WT h = some (true, ()) := by
  rw [zii, zq, if_pos h1.1, zq, if_pos h1.2, zq, if_pos (by omega), zrv (by omega) (by omega) h3]
  rfl
theorem zvq {h : zo} (h1 : 1 ≤ h.Slots ∧ h.Slots ≤ 4) (h2 : h.Objs.length ≤ 64) (h3 : ∀ o ∈ h.Objs, (o.length : Int) = h.Slots ∧ ∀ v ∈ o, 0 ≤ v ∧ v ≤ (h.Objs.length : Int)) (hne : h.Objs ≠ []) (most : Int) :
    zhg h most = some (if WA h most = true then (vr h, (h.Objs.length : Int) + 1, 0, ()) else (h, 0, 4, ())) := by
  have hn : h.Objs.length ≠ 0 := fun e => hne (List.eq_nil_of_length_eq_zero e)
  rw [zpo, zlj h1 h2 h3, Option.bind_some, Bool.not_true, cond_false]
  simp only [zq]
  have er : WA h most = true ↔ (h.Objs.length : Int) < most ∧ (h.Objs.length : Int) < 64 := by unfold WA; simp
  have hx : (if 64 < most then (64 : Int) else most) ≤ (h.Objs.length : Int) ↔ ¬ (WA h most = true) := by
    rw [er]
    split <;> omega
  by_cases hr : WA h most = true
  · rw [if_neg (fun e => hx.1 e hr), if_pos hr]
    have ec : Xe h.Objs = some (h.Objs, ()) := by
      rw [zeE]
      simp [hn]
    rw [ec, Option.bind_some, if_pos trivial, ziB, decide_eq_true (show 0 ≤ h.Slots by omega), decide_eq_true (show h.Slots < 4294967296 by omega)]
    simp only [Bool.and_self, cond_true, Option.bind_some]
    rw [wx (by simp only [List.length_append, List.length_singleton]; omega), Option.bind_some]
    unfold vr
    simp
  · rw [if_pos (hx.2 hr), if_neg hr]
theorem zvf (t : zt) (o : Int) : ∃ b, zhL t o = some (WJ t o, b, ()) := by
  rw [zpP, zoN, Option.bind_some]
  unfold WJ
  dsimp only
  cases hs : (Zl t o).2 with
  | false => rw [if_neg (by simp)]; exact ⟨_, rfl⟩
  | true => rw [Bool.not_true, cond_false, zrD, if_pos rfl]; exact ⟨_, rfl⟩
theorem zlc (l : zk) (who price limit : Int) : ZS l who price limit = some (UZ l who price limit, ()) := by
  rw [zfS, zgC, Option.bind_some]
  unfold UZ UB
  simp only [zq]
  cases ht : (decide (1 ≤ who) && decide (who ≤ (l.Bal.length : Int))) with
  | false => rw [cond_false]; simp
  | true =>
    rw [cond_true]
    by_cases h1 : 0 ≤ price <;> by_cases h2 : 0 ≤ limit
    · rw [if_pos (by split <;> omega)]
      simp only [Bool.true_and, decide_eq_true h1, decide_eq_true h2, Option.some.injEq, Prod.mk.injEq, and_true]
      rw [Bool.eq_iff_iff]
      simp only [decide_eq_true_eq, Bool.and_eq_true]
      split <;> omega
    · rw [if_neg (by split <;> omega)]; simp [h2]
    · rw [if_neg (by split <;> omega)]; simp [h1]
    · rw [if_neg (by split <;> omega)]; simp [h1]
theorem zqV {l : zk} {who : Int} (hl : l.Bal.length < 1000000) (h : UB l who = true) : idx l.Bal (w64 (who - 1)) = some (zcp l who) ∧ xS l.Bal (w64 (who - 1)) = some (who - 1).toNat ∧ l.Bal[(who - 1).toNat]? = some (zcp l who) := by
  unfold UB at h
  simp only [Bool.and_eq_true, decide_eq_true_eq] at h
  have e := List.getElem?_eq_getElem (show (who - 1).toNat < l.Bal.length by omega)
  have eb : zcp l who = l.Bal[(who - 1).toNat]'(by omega) := by unfold zcp; rw [List.getD_eq_getElem?_getD, e]; rfl
  rw [yf (a := who - 1) (by omega) (by omega), v7 (by omega), uI (by omega) (by omega), e, eb]
  exact ⟨rfl, rfl, rfl⟩
theorem zpV {l : zk} (hl : l.Bal.length < 1000000) (who price limit : Int) : zcv l who price limit = some (zg9 l who price limit, ()) := by
  rw [zoU, zlc, Option.bind_some]
  unfold zg9
  cases hp : UZ l who price limit with
  | false => rfl
  | true =>
    have ht : UB l who = true := by unfold UZ at hp; simp only [Bool.and_eq_true] at hp; exact hp.1.1.1.1
    dsimp only
    rw [cond_true, (zqV hl ht).1, Option.bind_some, wN, Bool.true_and, Int.zero_sub]
theorem zle {l l' : zk} (hl : l.Bal.length < 1000000) {who : Int} (h : UB l who = true) (hb : l'.Bal = l.Bal) {v : Int} {Q : Option (zk × Unit)} {f : Int → Option (Int × Unit)} (hf : f (zcp l who) = some (v, ()))
    (hQ : Q = bif decide (((l'.Bal.length : Int)) = ((l'.Bal.length : Int))) then (Xp ((l'.Bal.length : Int))).bind fun n1 => bif decide (l'.Bal.length = ((List.replicate n1 ((0 : Int))).length)) then
      bif l'.Bal.isEmpty then (xS (List.replicate n1 ((0 : Int))) (w64 (who - 1))).bind fun n2 => ((List.replicate n1 ((0 : Int)))[n2]?).bind fun x3 => (f x3).bind fun y4 => (xS (List.replicate n1 ((0 : Int))) (w64 (who - 1))).bind fun n5 => some ({ l' with Bal := (List.replicate n1 ((0 : Int))).set n5 y4.1 }, ())
      else (xS l'.Bal (w64 (who - 1))).bind fun n6 => (l'.Bal[n6]?).bind fun x7 => (f x7).bind fun y8 => (xS l'.Bal (w64 (who - 1))).bind fun n9 => some ({ l' with Bal := l'.Bal.set n9 y8.1 }, ()) else none else none) :
    Q = some ({ l' with Bal := l.Bal.set (who - 1).toNat v }, ()) := by
  obtain ⟨e1, e2, e3⟩ := zqV hl h
  have hne : l.Bal.isEmpty = false := by
    cases hl2 : l.Bal with
    | nil => rw [hl2] at e3; simp at e3
    | cons a r => rfl
  rw [hQ, hb, ziB, decide_eq_true (show (0 : Int) ≤ (l.Bal.length : Int) by omega), decide_eq_true (show (l.Bal.length : Int) < 4294967296 by omega)]
  simp only [decide_true, cond_true, Bool.and_self, Option.bind_some, Int.toNat_natCast, List.length_replicate, hne, cond_false, e2, e3, hf]
theorem zsY {l : zk} (hl : l.Bal.length < 1000000) (who price limit : Int) : zc0 l who price limit = some (if zg9 l who price limit = true then (zg5 l who price, true, ()) else (l, false, ())) := by
  rw [zne, zpV hl, Option.bind_some]
  cases hm : zg9 l who price limit with
  | false => rfl
  | true =>
    have ht : UB l who = true := by unfold zg9 UZ at hm; simp only [Bool.and_eq_true] at hm; exact hm.1.1.1.1.1
    dsimp only
    rw [Bool.not_true, cond_false, zle (l' := { l with Spent := w64 (l.Spent + price) }) hl ht rfl (f := fun b => Vt b price) (v := wc (zcp l who - price)) (by rw [zlz, wN]) (Wy _ _ _), Option.bind_some, if_pos rfl, wN]
    rfl
theorem zuc {l : zk} (hl : l.Bal.length < 1000000) (who want : Int) : zfi l who want = some ((zd1 l who want).1, (zd1 l who want).2, ()) := by
  rw [zoi, zgC, Option.bind_some]
  unfold zd1
  have em : (bif decide (l.Pool < want) then l.Pool else want) = zki want l.Pool := by rw [zq]; rfl
  simp only [em]
  have et : (decide (1 ≤ who) && decide (who ≤ (l.Bal.length : Int))) = UB l who := rfl
  rw [et]
  cases ht : UB l who with
  | false => rw [if_neg (fun e => by cases e.1)]; rfl
  | true =>
    rw [Bool.not_true, cond_false, zq]
    by_cases hz : zki want l.Pool ≤ 0
    · rw [if_pos hz, if_neg (by omega)]
    · rw [if_neg hz, if_pos ⟨rfl, by omega⟩, zle (l' := { l with Pool := w64 (l.Pool - zki want l.Pool) }) hl ht rfl (f := fun b => Um b (zki want l.Pool)) (v := wc (zcp l who + zki want l.Pool)) (by rw [zlT, wN]) (WW _ _ _), Option.bind_some, wN]
theorem zs5 {l : zk} (hl : l.Bal.length < 1000000) (who price limit : Int) : zdp l who price limit = some (zmG l who price limit, ()) := by
  rw [znh, zlc, Option.bind_some]
  unfold zmG
  cases hp : UZ l who price limit with
  | false => rfl
  | true =>
    have ht : UB l who = true := by unfold UZ at hp; simp only [Bool.and_eq_true] at hp; exact hp.1.1.1.1
    dsimp only
    rw [Bool.not_true, cond_false, zpV hl, Option.bind_some, if_pos rfl]
    cases hm : zg9 l who price limit with
    | false => rw [cond_false, (zqV hl ht).1, Option.bind_some, wN]; rfl
    | true => rfl
theorem zuC {p : zc} {nb : Nat} (h : zG p) {s : za} {x : zb} {m : Int} (S : SOk p nb s) (X : XOk p nb m x) (hm : 1 ≤ m ∧ m ≤ p.Mutators) (ha : (s.Acks.length : Int) = p.Mutators) (sm : Ur s) (H : HOk p s.H) (hb : x.Buf.length < 1000000) (hbt : x.Batch.length < 1000000) : WZ ⟨x, s, m⟩ = some (⟨(zn s m x).2, (zn s m x).1, m⟩, ()) := by
  have hmt := h.mt
  have hpc := X.pc
  rw [zhb]
  simp only [zq]
  unfold zn
  by_cases c0 : x.PC = 0
  · rw [if_pos c0, if_pos c0, zsc h S.P hm ha X]; rfl
  rw [if_neg c0, if_neg c0]
  by_cases c1 : x.PC = 1
  · rw [if_pos c1, if_pos c1, zgj]
    simp only [zq]
    unfold mu1
    by_cases e : x.Buf.length = 0
    · rw [if_pos e, if_pos (by rw [yf (by omega) (by omega)]; omega)]; rfl
    · have ei := List.getElem?_eq_getElem (show x.Buf.length - 1 < x.Buf.length by omega)
      have en : ((x.Buf.length : Int) - 1).toNat = x.Buf.length - 1 := by omega
      have ec : cut x.Buf 0 ((x.Buf.length : Int) - 1) = some (x.Buf.take (x.Buf.length - 1)) := by
        unfold cut
        rw [decide_eq_true (show (0 : Int) ≤ 0 by decide), decide_eq_true (show (0 : Int) ≤ (x.Buf.length : Int) - 1 by omega), decide_eq_true (show (x.Buf.length : Int) - 1 ≤ (x.Buf.length : Int) by omega), en]
        simp
      rw [if_neg e, yf (a := (x.Buf.length : Int) - 1) (by omega) (by omega), if_neg (by omega), v7 (by omega), en, ei, Option.bind_some, zp7, Option.bind_some, ec, List.getD_eq_getElem?_getD, ei]
      rfl
  rw [if_neg c1, if_neg c1]
  by_cases c2 : x.PC = 2
  · rw [if_pos c2, if_pos c2, zhU]
    have hs := sm.acks
    simp only [Vm (show s.Acks.length < 4294967296 by omega), Option.bind_some]
    rw [yf (a := m - 1) (by omega) (by omega), uI (l := s.Acks) (by omega) (by omega)]
    rfl
  rw [if_neg c2, if_neg c2]
  have hbl := sm.bal
  have hon := sm.objs
  have hregs := X.regs
  have hrs := zjo h m
  have hHs := H.slots
  have hHn := H.n
  have hpn := h.n
  have hpm := h.most
  have hps := h.slots
  have op := fun (hi : x.IP < ((wu p m).length : Int)) => zf3 h S.P hm (x := x) ⟨X.ip.1, hi⟩
  by_cases c3 : x.PC = 3
  · rw [if_pos c3, if_pos c3, zfF, zj8 h S (X.g (.inl c3)).1]; rfl
  rw [if_neg c3, if_neg c3]
  by_cases c10 : x.PC = 10
  · have hi := X.op (.inl (by omega))
    obtain ⟨e1, e2⟩ := op hi
    have o := zjD h hm e2
    rw [if_pos c10, if_pos c10, zhk, e1, Option.bind_some, zmL h S.P hm ⟨X.ip.1, hi⟩ hregs hon, Option.bind_some, zd3 (x := x) (r := (opM p m x).R) (by omega) (by omega)]
    unfold zg2
    rw [S.P]; rfl
  rw [if_neg c10, if_neg c10]
  by_cases c20 : x.PC = 20
  · have hi := X.op (.inl (by omega))
    obtain ⟨e1, e2⟩ := op hi
    have o := zjD h hm e2
    rw [if_pos c20, if_pos c20, zhY, e1, Option.bind_some]
    unfold ze7
    dsimp only
    rw [zjF (x := x) (r := (opM p m x).A) (by omega), Option.bind_some, zq, S.P]
    by_cases e : v4 x (opM p m x).A = 0
    · rw [if_pos e, if_pos e, Zk, wN]; rfl
    · rw [if_neg e, if_neg e, zmL h S.P hm ⟨X.ip.1, hi⟩ hregs hon]; rfl
  rw [if_neg c20, if_neg c20]
  by_cases c21 : x.PC = 21
  · rw [if_pos c21, if_pos c21, zfC]
    unfold zeS
    dsimp only
    rw [zq]
    by_cases e : x.Old = 0
    · rw [if_pos e, if_pos (.inl e)]; rfl
    · rw [if_neg e, zuT, Option.bind_some, yI]
      by_cases e2 : xX s.T x.Old = 0
      · rw [if_pos e2, if_neg (fun h => h.elim e (fun h => h e2))]; rfl
      · rw [if_neg e2, if_pos (.inr e2)]; rfl
  rw [if_neg c21, if_neg c21]
  by_cases c22 : x.PC = 22
  · rw [if_pos c22, if_pos c22, zdE]
    unfold zeR
    dsimp only
    rw [zq]
    by_cases e : s.P.Buf ≤ (x.Buf.length : Int)
    · rw [if_pos e, if_pos e]; rfl
    · rw [if_neg e, if_neg e, Vm (by omega), Option.bind_some, wx (by simp; omega)]; rfl
  rw [if_neg c22, if_neg c22]
  by_cases c23 : x.PC = 23
  · have hi := X.op (.inl (by omega))
    obtain ⟨e1, e2⟩ := op hi
    have o := zjD h hm e2
    obtain ⟨b, ep⟩ := zxw hon sm.obj (v4 x (opM p m x).A) (opM p m x).S (v4 x (opM p m x).R)
    rw [if_pos c23, if_pos c23, zfJ, e1, Option.bind_some]
    dsimp only
    rw [zjF (x := x) (r := (opM p m x).A) (by omega), Option.bind_some, zjF (x := x) (r := (opM p m x).R) (by omega), Option.bind_some, ep, Option.bind_some, Zk, wN]
    unfold zfo
    rw [S.P]; rfl
  rw [if_neg c23, if_neg c23]
  by_cases c30 : x.PC = 30
  · have hi := X.op (.inl (by omega))
    obtain ⟨e1, e2⟩ := op hi
    have o := zjD h hm e2
    have hne : s.H.Objs ≠ [] := fun e => by have e2 : s.H.Objs.length = 0 := by rw [e]; rfl
                                            omega
    rw [if_pos c30, if_pos c30, zgb]
    unfold zal
    dsimp only
    rw [zsY hbl, Option.bind_some]
    cases hmay : zg9 s.L m s.P.Price s.P.Limit with
    | false => rfl
    | true =>
      rw [if_pos rfl, if_pos rfl]
      dsimp only
      rw [Bool.not_true, cond_false, zvq (show 1 ≤ s.H.Slots ∧ s.H.Slots ≤ 4 by rw [hHs]; omega) (show s.H.Objs.length ≤ 64 by omega) H.objs hne, Option.bind_some]
      cases hr : WA s.H s.P.Most with
      | false =>
        rw [if_neg (by simp), if_neg (by simp)]
        dsimp only
        rw [yI, if_neg (by decide), Zk, wN]; rfl
      | true =>
        rw [if_pos rfl, if_pos rfl]
        dsimp only
        obtain ⟨b, ef⟩ := zvf s.T ((s.H.Objs.length : Int) + 1)
        rw [yI, if_pos rfl, ef, Option.bind_some]
        have e3 := (zf3 h (s := { s with H := vr s.H, T := WJ s.T ((s.H.Objs.length : Int) + 1), L := zg5 s.L m s.P.Price }) S.P hm (x := x) ⟨X.ip.1, hi⟩).1
        rw [e3, Option.bind_some, zd3 (x := x) (r := (opM p m x).R) (by omega) (by omega), vD (by omega) (by omega)]
        rw [S.P]; rfl
  rw [if_neg c30, if_neg c30]
  by_cases c31 : x.PC = 31
  · rw [if_pos c31, if_pos c31, zhE]
    unfold ze4
    dsimp only
    rw [zs5 hbl, Option.bind_some, zuc hbl, Option.bind_some, zq]
    by_cases e : (zd1 s.L m (zmG s.L m s.P.Price s.P.Limit)).2 = 0
    · rw [if_pos e, if_pos e, zfG, Option.bind_some, zlG]; rfl
    · rw [if_neg e, if_neg e]; rfl
  rw [if_neg c31, if_neg c31]
  by_cases c32 : x.PC = 32
  · rw [if_pos c32, if_pos c32, zh7]
    unfold ze2
    dsimp only
    rw [zfU (by have := S.mem; omega), Option.bind_some, zq, zq]
    by_cases e : (zp s.M x.C).2.Out = 1
    · rw [if_pos e, if_pos e]; rfl
    · rw [if_neg e, if_neg e]
      by_cases e2 : (zp s.M x.C).2.Out = 2
      · rw [if_pos e2, if_pos e2]; rfl
      · rw [if_neg e2, if_neg e2]; rfl
  rw [if_neg c32, if_neg c32]
  by_cases c33 : x.PC = 33
  · have B := X.b33 c33
    have hbn := S.bins
    have hnb := S.nbk
    have e := List.getElem?_eq_getElem (show x.Bin.toNat < s.Bins.length by omega)
    rw [if_pos c33, if_pos c33, zfO]
    unfold zha
    dsimp only
    rw [v7 (by omega), e, Option.bind_some, zke (by omega), Option.bind_some, uI (l := s.Bins) (by omega) (by omega), Option.bind_some, zdL, Option.bind_some, zlG]
    have eb : zcl s x.Bin = s.Bins[x.Bin.toNat]'(by omega) := by unfold zcl; rw [List.getD_eq_getElem?_getD, e]; rfl
    rw [eb]; rfl
  rw [if_neg c33, if_neg c33]
  by_cases c34 : x.PC = 34
  · rw [if_pos c34, if_pos c34, zhJ]
    unfold ze9
    dsimp only
    rw [zfU (by have := S.mem; omega), Option.bind_some, zq]
    by_cases e : (zp s.M x.C).2.Out = 1
    · rw [if_pos e, if_pos e]; rfl
    · rw [if_neg e, if_neg e]; rfl
  rw [if_neg c34, if_neg c34]
  by_cases c35 : x.PC = 35
  · rw [if_pos c35, if_pos c35, zfz]
    unfold zeK
    dsimp only
    rw [zq]
    cases hbb : x.Batch with
    | nil => rw [if_neg (by simp)]; rfl
    | cons o l =>
      have : idx (o :: l) 0 = some o := by rw [v7 (by omega)]; rfl
      rw [if_pos (by simp), this, Option.bind_some, zsx]; rfl
  rw [if_neg c35, if_neg c35]
  by_cases c36 : x.PC = 36
  · rw [if_pos c36, if_pos c36, zgT]
    unfold zeU
    dsimp only
    rw [zsC hon, Option.bind_some, zpA, Option.bind_some, yI, wN]
    by_cases e : zQ s.H x.Obj x.Slot = 0
    · rw [if_pos e, if_pos e]; rfl
    · rw [if_neg e, if_neg e, zp7]; rfl
  rw [if_neg c36, if_neg c36]
  by_cases c37 : x.PC = 37
  · rw [if_pos c37, if_pos c37, zh6, zpA, Option.bind_some, zj8 h S (X.g (.inr c37)).1]; rfl
  rw [if_neg c37, if_neg c37]
  by_cases c38 : x.PC = 38
  · rw [if_pos c38, if_pos c38, zei]
    unfold zgL
    dsimp only
    rw [zrD, Option.bind_some, zuv hbl]; rfl
  rw [if_neg c38, if_neg c38]
  have c39 : x.PC = 39 := by omega
  rw [if_pos c39, if_pos c39, zel, wN]; rfl
theorem zgB {p : zc} {nb : Nat} {s : za} (h : zG p) (E : EOk p nb s) (m : Int) : W3 s m = some (zL s m, ()) := by
  rw [znt]
  simp only [zq]
  unfold zL
  cases hd : s.Done with
  | true => rw [cond_true, if_pos (.inl rfl)]
  | false =>
    rw [cond_false]
    by_cases h1 : m < 1
    · rw [if_pos h1, if_pos (.inr (.inl h1))]
    rw [if_neg h1]
    by_cases h2 : (s.Ms.length : Int) < m
    · rw [if_pos h2, if_pos (.inr (.inr h2))]
    have hml := E.ml
    have hal := E.al
    have hmt := h.mt
    have e := List.getElem?_eq_getElem (show (m - 1).toNat < s.Ms.length by omega)
    have ei : (((m - 1).toNat : Nat) : Int) + 1 = m := by omega
    have hX := E.X _ _ e
    rw [ei] at hX
    have hb := (E.small.mu _ (List.mem_of_getElem? e)).2
    have T := ztP s m (s.Ms[(m - 1).toNat]'(by omega))
    rw [if_neg h2, if_neg (fun e => e.elim (fun h => by cases h) (fun e => e.elim h1 h2)), yf (a := m - 1) (by omega) (by omega), v7 (by omega), e, Option.bind_some, zuC h E.S hX (by omega) (by omega) E.small E.H hb.1 hb.2, Option.bind_some]
    simp only [T.ms, zyr (show s.Ms.length < 4294967296 by omega), Option.bind_some, uI (l := s.Ms) (show 0 ≤ m - 1 by omega) (show m - 1 < (s.Ms.length : Int) by omega)]
end
end Go.Pe.G
namespace Go.Pe.G
open Go.Pe
noncomputable section
theorem VI (s : za) (g : zA) : (zB s g).1 = { s with M := (zB s g).1.M, Bins := (zB s g).1.Bins, T := (zB s g).1.T, Work := (zB s g).1.Work, Flag := (zB s g).1.Flag } := by
  obtain ⟨m, b, t, wk, f, e, _⟩ := zkY s g
  rw [e]
theorem zmI (s : za) (m : Int) (x : zb) : (zn s m x).1 = { s with H := (zn s m x).1.H, M := (zn s m x).1.M, Bins := (zn s m x).1.Bins, T := (zn s m x).1.T, Work := (zn s m x).1.Work, Flag := (zn s m x).1.Flag, Acks := (zn s m x).1.Acks, L := (zn s m x).1.L } := by
  have g : ∀ g : zA, (zB s g).1 = { s with H := (zB s g).1.H, M := (zB s g).1.M, Bins := (zB s g).1.Bins, T := (zB s g).1.T, Work := (zB s g).1.Work, Flag := (zB s g).1.Flag, Acks := (zB s g).1.Acks, L := (zB s g).1.L } := fun g => by
    obtain ⟨m, b, t, wk, f, e, _⟩ := zkY s g
    rw [e]
  refine wH (motive := fun r => r.1 = { s with H := r.1.H, M := r.1.M, Bins := r.1.Bins, T := r.1.T, Work := r.1.Work, Flag := r.1.Flag, Acks := r.1.Acks, L := r.1.L }) s m x ?_ ?_ ?_ ?_ ?_ ?_ ?_ ?_ ?_ ?_ ?_ ?_ ?_ ?_ ?_ ?_ ?_ ?_ ?_ ?_
  · exact fun _ => rfl
  · exact fun _ => rfl
  · exact fun _ => rfl
  · exact fun _ => g x.G
  · exact fun _ => rfl
  · exact fun _ => rfl
  · exact fun _ => rfl
  · exact fun _ => rfl
  · exact fun _ => rfl
  · intro _
    unfold zal
    split
    · split <;> rfl
    · rfl
  · exact fun _ => rfl
  · exact fun _ => rfl
  · exact fun _ => rfl
  · exact fun _ => rfl
  · exact fun _ => rfl
  · exact fun _ => rfl
  · exact fun _ => g x.G
  · exact fun _ => rfl
  · exact fun _ => rfl
  · rfl
theorem znu (s : za) (m : Int) : zL s m = { s with H := (zL s m).H, M := (zL s m).M, Bins := (zL s m).Bins, T := (zL s m).T, Work := (zL s m).Work, Flag := (zL s m).Flag, Acks := (zL s m).Acks, L := (zL s m).L, Ms := (zL s m).Ms } := by
  unfold zL
  split
  · rfl
  cases hx : s.Ms[(m - 1).toNat]? with
  | none => rfl
  | some x =>
    dsimp only
    rw [zmI]
theorem ztG {α : Type} {l : List α} {i j : Nat} {v d : α} (h : i < l.length) : (l.set i v).getD j d = if i = j then v else l.getD j d := by
  rw [List.getD_eq_getElem?_getD, List.getD_eq_getElem?_getD, List.getElem?_set]
  by_cases e : i = j
  · rw [if_pos e, if_pos e, if_pos h]; rfl
  · rw [if_neg e, if_neg e]
end
end Go.Pe.G
namespace Go.Pe.G
open Go.Pe
noncomputable section
theorem ztc {v : Int} (h : 0 ≤ v ∧ v < 10) : zsl v = some (⟨#[UInt8.ofNat (48 + v.toNat)]⟩, ()) := by
  have e : (decide (0 ≤ v) && decide (v < 100)) = true := by simp; omega
  rw [zxE]; unfold zpW
  rw [e, cond_true, Go.Lib.decDigits, dif_pos (by omega)]
theorem join_one (x : ByteArray) (hx : x.data.toList.length < 1000) (sep : ByteArray) : zvN [x] sep = some (x, ()) := by
  rw [zyb]; unfold zpY
  simp only [List.map_cons, List.map_nil, Go.Lib.join_one, List.length_cons, List.length_nil]
  have e : (decide (0 + 1 ≤ 140737488355328) && decide (x.data.toList.length ≤ 140737488355328)) = true := by simp; simp at hx; omega
  rw [e, cond_true]
def zu5 (a : ByteArray) (o : List Int) : ByteArray := a ++ (ByteArray.mk #[124] ++ ⟨#[UInt8.ofNat (48 + (o.getD 0 0).toNat)]⟩)
theorem zsE {A B D : Type} {f : A → Option (xg A B D)} {x y : A} {b : B} (h1 : f x = some (.again y)) (h : f y = some (.brk b)) : yz f x = some (.brk b) := by
  rw [VG]
  show wg f (18446744073709551614 + 1 + 1) x = _
  rw [wg, h1, Option.bind_some]
  dsimp only
  rw [wg, h]; rfl
theorem zru (objs : List (List Int)) (hv : ∀ o ∈ objs, ∃ v : Int, o = [v] ∧ 0 ≤ v ∧ v < 10) (hl : objs.length < 1000) : ∀ (k i : Nat) (a : ByteArray), objs.length - i = k → i ≤ objs.length → a.size + 2 * k ≤ 4000 → ∀ m, k < m →
    wg zdA m (a, objs, (objs.length : Int), (i : Int), ()) = some (.brk ((objs.drop i).foldl zu5 a, ()))
  | 0, i, a, hk, hi, ha, m + 1, hm => by
    rw [wg, zfv, zq, if_neg (by omega), List.drop_eq_nil_of_le (by omega)]; rfl
  | k + 1, i, a, hk, hi, ha, m + 1, hm => by
    have hx := List.getElem?_eq_getElem (show i < objs.length by omega)
    obtain ⟨v, hvo, h0, h9⟩ := hv _ (List.getElem_mem (show i < objs.length by omega))
    rw [wg, zfv, zq, if_pos (by omega), wm hx, Option.bind_some, hvo]
    rw [zsE (f := zdc) (y := (a, objs, (objs.length : Int), (i : Int), [v], (([v] : List Int).length : Int), 1, [⟨#[UInt8.ofNat (48 + v.toNat)]⟩], ()))
      (b := (a, objs, (objs.length : Int), (i : Int), [⟨#[UInt8.ofNat (48 + v.toNat)]⟩], ()))
      (by rw [zfu, zq, if_pos (by simp), v7 (by decide)]
          simp only [Int.toNat_zero, List.getElem?_cons_zero, Option.bind_some, ztc ⟨h0, h9⟩, List.nil_append]
          rw [wx (by simp), Option.bind_some, yf (by decide) (by decide)]; rfl)
      (by rw [zfu, zq, if_neg (by simp)]), Option.bind_some]
    dsimp only
    rw [join_one _ (by simp), Option.bind_some]
    dsimp only
    have s1 : (ByteArray.mk #[124] ++ ⟨#[UInt8.ofNat (48 + v.toNat)]⟩ : ByteArray).size = 2 := by rw [ByteArray.size_append]; rfl
    have s0 : (ByteArray.mk #[124]).size + (⟨#[UInt8.ofNat (48 + v.toNat)]⟩ : ByteArray).size = 2 := rfl
    have s2 : (a ++ (ByteArray.mk #[124] ++ ⟨#[UInt8.ofNat (48 + v.toNat)]⟩) : ByteArray).size = a.size + 2 := by rw [ByteArray.size_append, s1]
    rw [zq, if_pos (by rw [s0]; omega), zq, if_pos (by rw [s1]; omega), xD (by omega), Option.bind_some]
    dsimp only
    rw [List.drop_eq_getElem_cons (show i < objs.length by omega), List.foldl_cons]
    rw [zru objs hv hl k (i + 1) _ (by omega) (by omega) (by rw [s2]; omega) m (by omega), hvo]
    rfl
def zu6 (h : zo) : Bool := decide (h.Slots = 1) && decide (h.Objs.length < 10) && h.Objs.all fun o => match o with
  | [v] => decide (0 ≤ v) && decide (v ≤ (h.Objs.length : Int))
  | _ => false
theorem zlZ {h : zo} (hh : zu6 h = true) : zaz h = some (h.Objs.foldl zu5 (ByteArray.mk #[49]), ()) := by
  simp only [zu6, Bool.and_eq_true, decide_eq_true_eq, List.all_eq_true] at hh
  obtain ⟨⟨h1, h2⟩, h3⟩ := hh
  have h4 : ∀ o ∈ h.Objs, ∃ v : Int, o = [v] ∧ 0 ≤ v ∧ v ≤ (h.Objs.length : Int) := fun o ho => by
    have := h3 o ho
    match o, this with
    | [v], this => simp at this; exact ⟨v, rfl, this⟩
  rw [zq5, zlj (by omega) (by omega) (fun o ho => by
    obtain ⟨v, rfl, hv⟩ := h4 o ho
    exact ⟨by rw [h1]; rfl, fun u hu => by simp at hu; subst hu; exact hv⟩), Option.bind_some]
  dsimp only
  rw [Bool.not_true, cond_false, h1, ztc (by decide), Option.bind_some]
  dsimp only
  have e := zru h.Objs (fun o ho => by obtain ⟨v, a, b⟩ := h4 o ho; exact ⟨v, a, by omega⟩) (by omega) h.Objs.length 0 (ByteArray.mk #[49]) (by omega) (by omega) (by show 1 + _ ≤ _; omega) Ze (by unfold Ze; omega)
  rw [VG]
  refine (congrArg (fun o => Option.bind o _) e).trans rfl
end
end Go.Pe.G
namespace Go.Pe.G
open Go.Pe
noncomputable section
def WP (p : zc) (w : Int) (i : Nat) : Int := yq p w + 2 + ((i % p.Cap.toNat : Nat) : Int)
structure DQ (p : zc) (m : List (BitVec 64)) (w : Int) (t : Nat) (l : List Int) (c : Nat) : Prop where
  top : ld m (yq p w) = BitVec.ofNat 64 t
  bot : ld m (yq p w + 1) = BitVec.ofNat 64 (t + l.length - c)
  c1 : c ≤ 1
  t1 : 1 ≤ t
  cap : l.length ≤ p.Cap.toNat
  small : t + l.length < 4294967296
  cell : ∀ (i : Nat) (hi : i < l.length), (ld m (WP p w (t + i))).toInt = l[i]
theorem DQ.keep {p : zc} (h : zG p) {m m' : List (BitVec 64)} {w : Int} {t c : Nat} {l : List Int} (D : DQ p m w t l c) (hm : ∀ a, yq p w ≤ a → a < yq p w + p.Cap + 2 → ld m' a = ld m a) : DQ p m' w t l c := by
  have hc := h.cap
  refine ⟨by rw [hm _ (by omega) (by omega)]; exact D.top, by rw [hm _ (by omega) (by omega)]; exact D.bot, D.c1, D.t1, D.cap, D.small, fun i hi => ?_⟩
  have := Nat.mod_lt (t + i) (show 0 < p.Cap.toNat by omega)
  rw [hm _ (by unfold WP; omega) (by unfold WP; omega)]
  exact D.cell i hi
theorem zmP {n : Nat} (h : n < 18446744073709551616) : (BitVec.ofNat 64 n).toNat = n := by rw [BitVec.toNat_ofNat]; omega
theorem zw9 {a b : Nat} (h2 : a + b < 18446744073709551616) : BitVec.ofNat 64 a + BitVec.ofNat 64 b = BitVec.ofNat 64 (a + b) := by
  apply BitVec.eq_of_toNat_eq
  rw [BitVec.toNat_add, zmP (by omega), zmP (by omega), zmP (by omega)]
  omega
theorem zyV {t i n c : Nat} (hi : i < n) (hn : n < t + c) (ht : t ≤ i) (e : i % c = n % c) : False := by
  have h1 := Nat.div_add_mod i c
  have h2 := Nat.div_add_mod n c
  have hc : 0 < c := by omega
  rw [e] at h1
  have h3 : c * (n / c) = c * (i / c) + (n - i) := by omega
  rcases Nat.lt_or_ge (i / c) (n / c) with h | h
  · have : c * (i / c) + c ≤ c * (n / c) := by
      have := Nat.mul_le_mul_left c h
      rw [Nat.succ_eq_add_one, Nat.mul_add, Nat.mul_one] at this
      exact this
    omega
  · have := Nat.mul_le_mul_left c h
    omega
theorem zwr {p : zc} (h : zG p) {d : zi} {w : Int} (hw : 1 ≤ w ∧ w ≤ p.Workers) (hb : d.Base = yq p w) (hc : d.Cap = p.Cap) {i : Nat} (hi : i < 4294967296) : zaw d (BitVec.ofNat 64 i) = WP p w i := by
  rw [(zoB h hw.1 hw.2 hb hc _).1, zmP (by omega), hb]; rfl
structure DK (p : zc) (m : List (BitVec 64)) (w : Int) (t : Nat) (l : List Int) (c : Nat) (d : zi) : Prop where
  kind : d.Kind = 1
  base : d.Base = yq p w
  size : d.Cap = p.Cap
  out : d.Out = 0
  c0 : c = 0
  pc : 0 ≤ d.PC ∧ d.PC ≤ 3
  b : 1 ≤ d.PC → d.B = BitVec.ofNat 64 (t + l.length)
  r : 2 ≤ d.PC → l.length < p.Cap.toNat
  x : 3 ≤ d.PC → (ld m (WP p w (t + l.length))).toInt = d.X
structure PK (p : zc) (m : List (BitVec 64)) (w : Int) (t : Nat) (l : List Int) (c : Nat) (d : zi) : Prop where
  kind : d.Kind = 2
  base : d.Base = yq p w
  size : d.Cap = p.Cap
  out : d.Out = 0
  pc : 0 ≤ d.PC ∧ d.PC ≤ 6
  c0 : d.PC ≤ 1 → c = 0
  c1 : d.PC = 2 ∨ 4 ≤ d.PC → c = 1
  b : d.PC = 1 ∨ d.PC = 2 ∨ 4 ≤ d.PC ∨ (d.PC = 3 ∧ d.T = d.B - 1#64) → d.B = BitVec.ofNat 64 (t + l.length)
  c3 : d.PC = 3 → d.T = d.B - 1#64 → c = 1
  n3 : d.PC = 3 → d.T ≠ d.B - 1#64 → c = 0 ∧ d.B = BitVec.ofNat 64 (t + l.length + 1) ∧ t + l.length + 1 < 4294967296 ∧ l.length + 1 ≤ p.Cap.toNat
  t3 : d.PC = 3 ∨ d.PC = 4 → d.T.toNat ≤ t
  t4 : d.PC = 4 → d.T = d.B - 1#64
  x4 : d.PC = 4 → d.T.toNat = t → l = [d.X]
  e5 : 5 ≤ d.PC → l = []
def zpS (m : List (BitVec 64)) (d : zi) : List Int :=
  if d.PC = 3 ∧ d.T ≠ d.B - 1#64 then [(ld m (zaw d (d.B - 1#64))).toInt] else if d.PC = 6 then [d.X] else []
structure TK (p : zc) (m : List (BitVec 64)) (w : Int) (t : Nat) (l : List Int) (d : zi) : Prop where
  kind : d.Kind = 3
  base : d.Base = yq p w
  size : d.Cap = p.Cap
  out : d.Out = 0
  pc : 0 ≤ d.PC ∧ d.PC ≤ 3
  le : 1 ≤ d.PC → d.T.toNat ≤ t
  ne : 2 ≤ d.PC → d.T.toNat = t → l ≠ []
  hd : d.PC = 3 → d.T.toNat = t → l.head? = some d.X
structure Dv (t : Nat) (l : List Int) (t' : Nat) (l' : List Int) : Prop where
  le : t ≤ t'
  hd : t' = t → l ≠ [] → l' ≠ [] ∧ l'.head? = l.head?
theorem Dv.refl (t : Nat) (l : List Int) : Dv t l t l := ⟨Nat.le_refl _, fun _ h => ⟨h, rfl⟩⟩
theorem TK.dv {p : zc} {m m' : List (BitVec 64)} {w : Int} {t t' : Nat} {l l' : List Int} {d : zi} (K : TK p m w t l d) (V : Dv t l t' l') : TK p m' w t' l' d := by
  have h1 := V.le
  refine ⟨K.kind, K.base, K.size, K.out, K.pc, fun h => Nat.le_trans (K.le h) h1, fun h e => ?_, fun h e => ?_⟩
  · have := K.le (by omega)
    have et : t' = t := by omega
    exact (V.hd et (K.ne h (by omega))).1
  · have := K.le (by omega)
    have et : t' = t := by omega
    rw [(V.hd et (K.ne (by omega) (by omega))).2]
    exact K.hd h (by omega)
theorem zus {m : List (BitVec 64)} {d : zi} (h : d.PC ≠ 3 ∨ d.T = d.B - 1#64) (h2 : d.PC ≠ 6) : zpS m d = [] := by
  unfold zpS
  rw [if_neg (fun e => h.elim (fun f => f e.1) (fun f => e.2 f)), if_neg h2]
theorem PK.stolen {p : zc} {m m' : List (BitVec 64)} (h : zG p) {w : Int} (hw : 1 ≤ w ∧ w ≤ p.Workers) {t c : Nat} {x : Int} {l : List Int} {d : zi} (K : PK p m w t (x :: l) c d) : PK p m' w (t + 1) l c d := by
  have e : t + (x :: l).length = t + 1 + l.length := by rw [List.length_cons]; omega
  refine ⟨K.kind, K.base, K.size, K.out, K.pc, K.c0, K.c1, fun q => by rw [← e]; exact K.b q, K.c3, fun a b => ?_, fun a => Nat.le_succ_of_le (K.t3 a), K.t4, fun a b => ?_, fun a => ?_⟩
  · have := K.n3 a b
    rw [e] at this
    rw [List.length_cons] at this
    exact ⟨this.1, this.2.1, this.2.2.1, by omega⟩
  · have := K.t3 (.inr a); omega
  · have := K.e5 a; cases this
theorem DK.stolen {p : zc} {m m' : List (BitVec 64)} {w : Int} {t c : Nat} {x : Int} {l : List Int} {d : zi} (K : DK p m w t (x :: l) c d) (hm : ∀ a, a ≠ yq p w → ld m' a = ld m a) (h : zG p) : DK p m' w (t + 1) l c d := by
  have e : t + (x :: l).length = t + 1 + l.length := by rw [List.length_cons]; omega
  refine ⟨K.kind, K.base, K.size, K.out, K.c0, K.pc, fun q => by rw [← e]; exact K.b q, fun q => by have := K.r q; rw [List.length_cons] at this; omega, fun q => ?_⟩
  rw [← e, hm _ (by unfold WP; omega)]
  exact K.x q
theorem PK.keep {p : zc} {m m' : List (BitVec 64)} {w : Int} {t c : Nat} {l : List Int} {d : zi} (K : PK p m w t l c d) : PK p m' w t l c d :=
  ⟨K.kind, K.base, K.size, K.out, K.pc, K.c0, K.c1, K.b, K.c3, K.n3, K.t3, K.t4, K.x4, K.e5⟩
theorem DK.keep {p : zc} (h : zG p) {m m' : List (BitVec 64)} {w : Int} {t c : Nat} {l : List Int} {d : zi} (K : DK p m w t l c d) (hm : ∀ a, yq p w + 1 < a → a < yq p w + p.Cap + 2 → ld m' a = ld m a) : DK p m' w t l c d := by
  have hc := h.cap
  have := Nat.mod_lt (t + l.length) (show 0 < p.Cap.toNat by omega)
  exact ⟨K.kind, K.base, K.size, K.out, K.c0, K.pc, K.b, K.r, fun q => by rw [hm _ (by unfold WP; omega) (by unfold WP; omega)]; exact K.x q⟩
theorem zsa {p : zc} (h : zG p) {m : List (BitVec 64)} {w : Int} {t c : Nat} {l : List Int} {d : zi} (hw : 1 ≤ w ∧ w ≤ p.Workers) (hlen : yc p ≤ m.length) (D : DQ p m w t l c) (K : DK p m w t l c d) (hs : t + l.length + 1 < 4294967296) (hX : -9223372036854775808 ≤ d.X ∧ d.X < 9223372036854775808) :
    (∀ a, (a < yq p w ∨ yq p w + p.Cap + 2 ≤ a) → ld (yS m d).1 a = ld m a) ∧ (yS m d).2.X = d.X ∧
    (((yS m d).2.Out = 0 ∧ DQ p (yS m d).1 w t l 0 ∧ DK p (yS m d).1 w t l 0 (yS m d).2) ∨
     ((yS m d).2.Out = 3 ∧ DQ p (yS m d).1 w t l 0) ∨
     ((yS m d).2.Out = 1 ∧ DQ p (yS m d).1 w t (l ++ [d.X]) 0)) := by
  have hc := h.cap
  have hd := VB h hw.1 hw.2
  have hf := XG h
  have hmod : ∀ i, yq p w + 2 ≤ WP p w i ∧ WP p w i < yq p w + p.Cap + 2 := fun i => by
    have := Nat.mod_lt i (show 0 < p.Cap.toNat by omega)
    unfold WP; omega
  have hpc := K.pc
  have c00 := K.c0
  subst c00
  have ht1 := D.t1
  have hsm := D.small
  have eb : wc (d.Base + 1) = yq p w + 1 := by rw [K.base, vD (by omega) (by omega)]
  unfold yS
  rw [if_neg (by have := K.out; omega), eb]
  by_cases c0 : d.PC = 0
  · rw [if_pos c0]
    exact ⟨fun _ _ => rfl, rfl, .inl ⟨K.out, D, ⟨K.kind, K.base, K.size, K.out, rfl, ⟨by dsimp only; omega, by dsimp only; omega⟩, fun _ => D.bot, fun e => by dsimp only at e; omega, fun e => by dsimp only at e; omega⟩⟩⟩
  rw [if_neg c0]
  by_cases c1 : d.PC = 1
  · rw [if_pos c1]
    refine ⟨fun _ _ => rfl, by dsimp only; split <;> rfl, ?_⟩
    have hB := K.b (by omega)
    have es : (WD d).toNat = p.Cap.toNat := by
      unfold WD
      rw [K.size, if_neg (by omega), BitVec.toNat_ofInt]
      omega
    have ed : (d.B - ld m d.Base).toNat = l.length := by
      rw [hB, K.base, D.top, BitVec.toNat_sub, zmP (by omega), zmP (by omega)]
      omega
    split
    · right; left
      exact ⟨rfl, D⟩
    · rename_i hlt
      left
      have hr : l.length < p.Cap.toNat := by
        have : ¬ (WD d).toNat ≤ (d.B - ld m d.Base).toNat := fun e => hlt (BitVec.le_def.2 e)
        omega
      exact ⟨K.out, D, ⟨K.kind, K.base, K.size, K.out, rfl, ⟨by dsimp only; omega, by dsimp only; omega⟩, fun _ => hB, fun _ => hr, fun e => by dsimp only at e; omega⟩⟩
  rw [if_neg c1]
  have hB := K.b (by omega)
  have hr := K.r (by omega)
  by_cases c2 : d.PC = 2
  · rw [if_pos c2]
    have ep : zaw d d.B = WP p w (t + l.length) := by rw [hB]; exact zwr h hw K.base K.size (by omega)
    rw [ep]
    have hm := hmod (t + l.length)
    refine ⟨fun a ha => yP (by omega), rfl, .inl ⟨K.out, ⟨?_, ?_, D.c1, ht1, D.cap, D.small, fun i hi => ?_⟩, ⟨K.kind, K.base, K.size, K.out, rfl, ⟨by dsimp only; omega, by dsimp only; omega⟩, fun _ => hB, fun _ => hr, fun _ => ?_⟩⟩⟩
    · dsimp only; rw [yP (by omega)]; exact D.top
    · dsimp only; rw [yP (by omega)]; exact D.bot
    · dsimp only
      rw [yP (fun e => zyV (t := t) (i := t + i) (n := t + l.length) (c := p.Cap.toNat) (by omega) (by omega) (by omega) (by unfold WP at e; omega))]
      exact D.cell i hi
    · dsimp only
      rw [Vu, if_pos ⟨rfl, by omega, by omega⟩, BitVec.toInt_ofInt, Int.bmod_def]
      omega
  · rw [if_neg c2]
    have hx := K.x (by omega)
    refine ⟨fun a ha => yP (by omega), rfl, .inr (.inr ⟨rfl, ⟨?_, ?_, by omega, ht1, ?_, ?_, fun i hi => ?_⟩⟩)⟩
    · dsimp only; rw [yP (by omega)]; exact D.top
    · dsimp only
      rw [Vu, if_pos ⟨rfl, by omega, by omega⟩, hB, List.length_append]
      exact zw9 (by omega)
    · rw [List.length_append]; show l.length + 1 ≤ _; omega
    · rw [List.length_append]; show t + (l.length + 1) < _; omega
    · dsimp only
      have hi' : i < l.length + 1 := by rw [List.length_append] at hi; exact hi
      have hm := hmod (t + i)
      rw [yP (by omega)]
      rcases Nat.lt_or_ge i l.length with g | g
      · rw [List.getElem_append_left g]; exact D.cell i g
      · have : i = l.length := by omega
        subst this
        rw [List.getElem_append_right (by omega)]
        simp only [Nat.sub_self, List.getElem_cons_zero]
        exact hx
end
end Go.Pe.G
namespace Go.Pe.G
open Go.Pe
noncomputable section
def yY (h : BitVec 64) : Nat := h.toNat / 4294967296
theorem zpM (v : BitVec 64) {n : Int} (h : 0 ≤ n) (h2 : n < 4294967296) : (yW v n).toNat = (v.toNat % 4294967296) * 4294967296 + n.toNat := by
  unfold yW
  have e3 : (BitVec.ofInt 64 n).toNat &&& (4294967295#64).toNat = n.toNat := by
    have : (BitVec.ofInt 64 n).toNat = n.toNat := by rw [BitVec.toNat_ofInt]; omega
    rw [this]
    exact (Nat.and_two_pow_sub_one_eq_mod n.toNat 32).trans (Nat.mod_eq_of_lt (by omega))
  rw [BitVec.toNat_or, BitVec.toNat_and, e3, BitVec.toNat_shiftLeft]
  have h2' : v.toNat <<< 32 % 2 ^ 64 = (v.toNat % 4294967296) <<< 32 := by rw [Nat.shiftLeft_eq, Nat.shiftLeft_eq]; omega
  rw [h2', ← Nat.shiftLeft_add_eq_or_of_lt (show n.toNat < 2 ^ 32 by omega), Nat.shiftLeft_eq]
theorem zts (h : BitVec 64) {n : Int} (h1 : 0 ≤ n) (h2 : n < 4294967296) (hv : yY h + 1 < 4294967296) : yY (yW ((h >>> 32) + 1#64) n) = yY h + 1 := by
  have e : ((h >>> 32) + 1#64).toNat = yY h + 1 := by
    rw [BitVec.toNat_add, BitVec.toNat_ushiftRight, Nat.shiftRight_eq_div_pow]
    show (h.toNat / 4294967296 + 1) % 2 ^ 64 = _
    unfold yY at hv ⊢
    omega
  unfold yY
  rw [zpM _ h1 h2, e]
  unfold yY at hv ⊢
  omega
def Chn (m : List (BitVec 64)) (N : Int) (nb : Nat) : Int → List Int → Prop
  | h, [] => h = 0
  | h, x :: l => h = x ∧ 1 ≤ x ∧ x < nb ∧ Chn m N nb (ld m (N + x)).toInt l
theorem Chn.mem {m : List (BitVec 64)} {N : Int} {nb : Nat} : ∀ {l : List Int} {h : Int}, Chn m N nb h l → ∀ x ∈ l, 1 ≤ x ∧ x < nb
  | y :: l, h, c, x, hx => by
    rcases List.mem_cons.1 hx with rfl | hx
    · exact ⟨c.2.1, c.2.2.1⟩
    · exact Chn.mem c.2.2.2 x hx
theorem Chn.st {m : List (BitVec 64)} {N : Int} {nb : Nat} {a : Int} {v : BitVec 64} : ∀ {l : List Int} {h : Int}, Chn m N nb h l → (∀ x ∈ l, a ≠ N + x) → Chn (st m a v) N nb h l
  | [], h, c, _ => c
  | y :: l, h, c, hn => ⟨c.1, c.2.1, c.2.2.1, by
    rw [yP (hn y (by simp))]
    exact Chn.st c.2.2.2 (fun x hx => hn x (List.mem_cons_of_mem _ hx))⟩
theorem Chn.head {m : List (BitVec 64)} {N : Int} {nb : Nat} {l : List Int} {h : Int} (c : Chn m N nb h l) (hh : h ≠ 0) : ∃ t, l = h :: t ∧ 1 ≤ h ∧ h < nb ∧ Chn m N nb (ld m (N + h)).toInt t := by
  cases l with
  | nil => exact absurd c hh
  | cons x t =>
    obtain ⟨rfl, h1, h2, h3⟩ := c
    exact ⟨t, rfl, h1, h2, h3⟩
theorem Chn.empty {m : List (BitVec 64)} {N : Int} {nb : Nat} {l : List Int} (c : Chn m N nb 0 l) : l = [] := by
  cases l with
  | nil => rfl
  | cons x t => have := c.1; have := c.2.1; omega
def zp5 (nb : Nat) : List Int := (List.range (nb - 1)).map (fun (i : Nat) => (i : Int) + 1)
theorem zny (nb : Nat) : (zp5 nb).Nodup := by
  unfold zp5
  rw [List.Nodup, List.pairwise_map]
  exact List.nodup_range.imp (fun h e => h (by omega))
theorem zwo {nb : Nat} {x : Int} : x ∈ zp5 nb ↔ 1 ≤ x ∧ x < nb := by
  unfold zp5
  rw [List.mem_map]
  constructor
  · rintro ⟨i, hi, rfl⟩
    have := List.mem_range.1 hi
    omega
  · rintro ⟨h1, h2⟩
    exact ⟨(x - 1).toNat, List.mem_range.2 (by omega), by omega⟩
structure LI (p : zc) (nb : Nat) (m : List (BitVec 64)) (h1 h2 : Int) (F E own : List Int) : Prop where
  hs : (h1 = yc p ∧ h2 = zE p) ∨ (h1 = zE p ∧ h2 = yc p)
  cF : Chn m (zE p) nb (yp (ld m h1)) F
  cE : Chn m (zE p) nb (yp (ld m h2)) E
  all : List.Perm (F ++ E ++ own) (zp5 nb)
  len : zE p + nb ≤ m.length
theorem LI.nodup {p : zc} {nb : Nat} {m : List (BitVec 64)} {h1 h2 : Int} {F E own : List Int} (h : LI p nb m h1 h2 F E own) : (F ++ E ++ own).Nodup := h.all.nodup_iff.2 (zny nb)
theorem LI.notF {p : zc} {nb : Nat} {m : List (BitVec 64)} {h1 h2 : Int} {F E own : List Int} (h : LI p nb m h1 h2 F E own) {x : Int} (hx : x ∈ own) : x ∉ F ∧ x ∉ E := by
  have := List.nodup_append.1 h.nodup
  exact ⟨fun e => this.2.2 x (List.mem_append_left _ e) x hx rfl, fun e => this.2.2 x (List.mem_append_right _ e) x hx rfl⟩
theorem LI.own_in {p : zc} {nb : Nat} {m : List (BitVec 64)} {h1 h2 : Int} {F E own : List Int} (h : LI p nb m h1 h2 F E own) {x : Int} (hx : x ∈ own) : 1 ≤ x ∧ x < nb := zwo.1 (h.all.subset (List.mem_append_right _ hx))
structure CK (p : zc) (m : List (BitVec 64)) (c : zC) : Prop where
  v : 1 ≤ c.PC → yY c.H ≤ yY (ld m c.Head)
  y : c.PC = 2 → c.Kind = 2 → ld m c.Head = c.H → c.Y = (ld m (zE p + yp c.H)).toInt
  l : c.PC = 2 → c.Kind = 1 → ld m (zE p + c.X) = BitVec.ofInt 64 (yp c.H)
structure Mv (p : zc) (nb : Nat) (X : List Int) (m m' : List (BitVec 64)) : Prop where
  hd : ∀ h, h = yc p ∨ h = zE p → yY (ld m h) ≤ yY (ld m' h) ∧ (ld m' h = ld m h ∨ yY (ld m h) < yY (ld m' h))
  nx : ∀ x : Int, 1 ≤ x → x < nb → x ∉ X → ld m' (zE p + x) = ld m (zE p + x)
theorem Mv.refl (p : zc) (nb : Nat) (X : List Int) (m : List (BitVec 64)) : Mv p nb X m m := ⟨fun h _ => ⟨Nat.le_refl _, .inl rfl⟩, fun _ _ _ _ => rfl⟩
theorem CK.mv {p : zc} {nb : Nat} {m m' : List (BitVec 64)} {h1 h2 : Int} {F E own X : List Int} {c : zC} (k : CK p m c) (L : LI p nb m h1 h2 F E own) (M : Mv p nb X m m') (hX : ∀ x ∈ X, x ∈ own)
    (hh : c.Head = h1 ∨ c.Head = h2) (hn : 1 ≤ c.PC → c.Kind = 2 → 1 ≤ yp c.H ∧ yp c.H < nb) (hx : c.Kind = 1 → 1 ≤ c.X ∧ c.X < nb ∧ c.X ∉ X) : CK p m' c := by
  obtain ⟨m1, m2⟩ := M.hd c.Head (by rcases L.hs with g | g <;> rcases hh with hh | hh <;> rw [hh] <;> simp [g])
  refine ⟨fun h => Nat.le_trans (k.v h) m1, fun h2 hk e => ?_, fun h2 hk => ?_⟩
  · have hv := k.v (by omega)
    have e' : ld m c.Head = c.H := by
      rcases m2 with m2 | m2
      · rw [← m2]; exact e
      · rw [e] at m2; omega
    obtain ⟨n1, n2⟩ := hn (by omega) hk
    rw [M.nx _ n1 n2 (fun hmem => ?_)]
    · exact k.y h2 hk e'
    · obtain ⟨f1, f2⟩ := L.notF (hX _ hmem)
      rcases hh with hh | hh
      · obtain ⟨t, ht, _⟩ := L.cF.head (by rw [← hh, e']; omega)
        rw [← hh, e'] at ht
        exact f1 (by rw [ht]; simp)
      · obtain ⟨t, ht, _⟩ := L.cE.head (by rw [← hh, e']; omega)
        rw [← hh, e'] at ht
        exact f2 (by rw [ht]; simp)
  · obtain ⟨x1, x2, x3⟩ := hx hk
    rw [M.nx _ x1 x2 x3]
    exact k.l h2 hk
theorem LI.swap {p : zc} {nb : Nat} {m : List (BitVec 64)} {h1 h2 : Int} {F E own : List Int} (h : LI p nb m h1 h2 F E own) : LI p nb m h2 h1 E F own :=
  ⟨by rcases h.hs with g | g
      · exact .inr ⟨g.2, g.1⟩
      · exact .inl ⟨g.2, g.1⟩, h.cE, h.cF, (List.perm_append_comm.append_right own).trans h.all, h.len⟩
theorem zlA {p : zc} (hp : zG p) {m : List (BitVec 64)} {a x : Int} {v : BitVec 64} (ha : a = yc p ∨ a = zE p) (hx : 1 ≤ x) : ld (st m a v) (zE p + x) = ld m (zE p + x) := by
  have := wJ hp
  exact yP (by omega)
theorem Chn.st_head {p : zc} (hp : zG p) {m : List (BitVec 64)} {nb : Nat} {a h : Int} {l : List Int} {v : BitVec 64} (ha : a = yc p ∨ a = zE p) (c : Chn m (zE p) nb h l) : Chn (Go.Pe.G.st m a v) (zE p) nb h l := by
  have := wJ hp
  exact c.st (fun x hx => by have := (c.mem x hx).1; omega)
theorem Mv.head {p : zc} (hp : zG p) {nb : Nat} {X : List Int} {m : List (BitVec 64)} {a : Int} {v : BitVec 64} (ha : a = yc p ∨ a = zE p) (hv : yY (ld m a) < yY v) : Mv p nb X m (st m a v) := by
  refine ⟨fun h hh => ?_, fun x hx _ _ => zlA hp ha hx⟩
  by_cases e : a = h
  · subst e
    rw [Vu]
    split
    · exact ⟨by omega, .inr hv⟩
    · exact ⟨Nat.le_refl _, .inl rfl⟩
  · rw [yP e]; exact ⟨Nat.le_refl _, .inl rfl⟩
theorem zsS {p : zc} (hp : zG p) {nb : Nat} (hnb : nb < 1000) {m : List (BitVec 64)} {h1 h2 : Int} {F E own : List Int} (L : LI p nb m h1 h2 F E own) {c : zC}
    (hk : c.Kind = 2) (hh : c.Head = h1) (hN : c.Next = zE p) (ho : c.Out = 0) (hpc : 0 ≤ c.PC ∧ c.PC ≤ 2) (K : CK p m c) (hn : 1 ≤ c.PC → 1 ≤ yp c.H ∧ yp c.H < nb) (hv : yY (ld m h1) + 1 < 4294967296) :
    ((zp m c).1 = m ∧ (zp m c).2.Out ≠ 1 ∧ ((zp m c).2.Out = 2 → F = []) ∧ CK p m (zp m c).2) ∨
    (∃ x F', F = x :: F' ∧ (zp m c).2.Out = 1 ∧ (zp m c).2.X = x ∧ LI p nb (zp m c).1 h1 h2 F' E (x :: own) ∧ Mv p nb [] m (zp m c).1 ∧ yY (ld (zp m c).1 h1) = yY (ld m h1) + 1 ∧ ld (zp m c).1 h2 = ld m h2) := by
  have hE := wJ hp
  have hF := XG hp
  have hd : h1 = yc p ∨ h1 = zE p := by rcases L.hs with g | g <;> simp [g]
  unfold zp
  rw [if_neg (by omega)]
  by_cases c0 : c.PC = 0
  · rw [if_pos c0]
    left
    split
    · rename_i e
      refine ⟨rfl, (by show (2 : Int) ≠ 1; decide), fun _ => ?_, ⟨fun _ => by rw [hh]; exact Nat.le_refl _, fun e2 => (by cases e2), fun e2 => (by cases e2)⟩⟩
      have := L.cF
      rw [hh] at e
      rw [e.2] at this
      exact this.empty
    · refine ⟨rfl, by dsimp only; omega, fun e => by dsimp only at e; omega, ⟨fun _ => by rw [hh]; exact Nat.le_refl _, fun e2 => (by cases e2), fun e2 => (by cases e2)⟩⟩
  · rw [if_neg c0]
    by_cases c1 : c.PC = 1
    · rw [if_pos c1, if_pos hk]
      left
      refine ⟨rfl, by dsimp only; omega, fun e => by dsimp only at e; omega, ⟨fun _ => K.v (by omega), fun _ _ _ => ?_, fun _ e => by dsimp only at e; omega⟩⟩
      have := hn (by omega)
      dsimp only
      rw [hN, vD (by omega) (by omega)]
    · rw [if_neg c1]
      have c2 : c.PC = 2 := by omega
      simp only [if_pos hk]
      by_cases hs : 0 ≤ c.Head ∧ c.Head < m.length ∧ ld m c.Head = c.H
      · right
        have n := hn (by omega)
        have hsw : sw m c.Head c.H (yW (c.H >>> 32 + 1#64) c.Y) = (st m c.Head (yW (c.H >>> 32 + 1#64) c.Y), true) := by unfold sw; rw [if_pos hs]
        rw [hsw]
        have hc := L.cF
        rw [← hh, hs.2.2] at hc
        obtain ⟨t, ht, _, _, hct⟩ := hc.head (by omega)
        have hy := K.y c2 hk hs.2.2
        have hct' := hct
        rw [← hy] at hct'
        have y0 : 0 ≤ c.Y ∧ c.Y < nb := by
          cases t with
          | nil => have e : c.Y = 0 := hct'; omega
          | cons z t => have := hct'.1; have := hct'.2.1; have := hct'.2.2.1; omega
        have vp : yY (yW (c.H >>> 32 + 1#64) c.Y) = yY c.H + 1 := zts c.H y0.1 (by omega) (by rw [← hs.2.2, hh]; exact hv)
        have hcH : yY c.H = yY (ld m h1) := by rw [← hs.2.2, hh]
        have ld1 : ld (st m h1 (yW (c.H >>> 32 + 1#64) c.Y)) h1 = yW (c.H >>> 32 + 1#64) c.Y := by rw [Vu, if_pos ⟨rfl, by rw [← hh]; exact hs.1, by rw [← hh]; exact hs.2.1⟩]
        have h12 : h1 ≠ h2 := by rcases L.hs with g | g <;> omega
        refine ⟨yp c.H, t, ht, rfl, rfl, ?_, ?_, ?_, ?_⟩
        · rw [hh]
          refine ⟨L.hs, ?_, ?_, ?_, by rw [ZD]; exact L.len⟩
          · rw [ld1, zby _ y0.1 (by omega)]
            exact hct'.st_head hp hd
          · rw [yP h12]
            exact L.cE.st_head hp hd
          · refine List.Perm.trans ?_ L.all
            rw [ht]
            show List.Perm (t ++ E ++ yp c.H :: own) (yp c.H :: (t ++ E ++ own))
            exact List.perm_middle
        · rw [hh]
          exact Mv.head hp hd (by rw [vp, hcH]; omega)
        · rw [hh, ld1, vp, hcH]
        · rw [hh, yP h12]
      · left
        have hsw : sw m c.Head c.H (yW (c.H >>> 32 + 1#64) c.Y) = (m, false) := by unfold sw; rw [if_neg hs]
        rw [hsw]
        refine ⟨rfl, by dsimp only; simp; omega, fun e => by simp at e; omega, ⟨fun e => by simp at e, fun e => by simp at e, fun e => by simp at e⟩⟩
theorem zug {n : Int} (h : 0 ≤ n) (h2 : n < 4294967296) : (BitVec.ofInt 64 n).toInt = n := toInt_ofInt h h2
theorem zjv {N a b : Int} (h : N + a = N + b) : b = a := by omega
theorem zrK {p : zc} (hp : zG p) {nb : Nat} (hnb : nb < 1000) {m : List (BitVec 64)} {h1 h2 b : Int} {F E o1 o2 : List Int} (L : LI p nb m h1 h2 F E (o1 ++ b :: o2)) {c : zC}
    (hk : c.Kind = 1) (hh : c.Head = h1) (hN : c.Next = zE p) (hX : c.X = b) (ho : c.Out = 0) (hpc : 0 ≤ c.PC ∧ c.PC ≤ 2) (K : CK p m c) (hn : 1 ≤ c.PC → yp c.H < nb) (hv : yY (ld m h1) + 1 < 4294967296) :
    ((zp m c).2.Out = 0 ∧ LI p nb (zp m c).1 h1 h2 F E (o1 ++ b :: o2) ∧ Mv p nb [b] m (zp m c).1 ∧ CK p (zp m c).1 (zp m c).2 ∧ (∀ a, a ≤ zE p → ld (zp m c).1 a = ld m a)) ∨
    ((zp m c).2.Out = 1 ∧ LI p nb (zp m c).1 h1 h2 (b :: F) E (o1 ++ o2) ∧ Mv p nb [] m (zp m c).1 ∧ yY (ld (zp m c).1 h1) = yY (ld m h1) + 1 ∧ (∀ a, a ≤ zE p → a ≠ h1 → ld (zp m c).1 a = ld m a)) := by
  have hE := wJ hp
  have hF := XG hp
  have hd : h1 = yc p ∨ h1 = zE p := by rcases L.hs with g | g <;> simp [g]
  have hd2 : h2 = yc p ∨ h2 = zE p := by rcases L.hs with g | g <;> simp [g]
  have hb : 1 ≤ b ∧ b < nb := L.own_in (List.mem_append_right _ (by simp))
  have hbn := L.notF (x := b) (List.mem_append_right _ (by simp))
  have hlen := L.len
  have hk2 : ¬ c.Kind = 2 := by omega
  unfold zp
  rw [if_neg (by omega)]
  by_cases c0 : c.PC = 0
  · rw [if_pos c0, if_neg (fun e => hk2 e.1)]
    left
    exact ⟨ho, L, Mv.refl _ _ _ _, ⟨fun _ => by rw [hh]; exact Nat.le_refl _, fun e2 => (by cases e2), fun e2 => (by cases e2)⟩, fun _ _ => rfl⟩
  · rw [if_neg c0]
    by_cases c1 : c.PC = 1
    · rw [if_pos c1, if_neg hk2]
      left
      have nn := zix c.H
      have ea : wc (c.Next + c.X) = zE p + b := by rw [hN, hX, vD (by omega) (by omega)]
      rw [ea]
      have hne : ∀ h, h = yc p ∨ h = zE p → ld (st m (zE p + b) (BitVec.ofInt 64 (yp c.H))) h = ld m h := fun h hh => yP (by omega)
      refine ⟨ho, ⟨L.hs, ?_, ?_, L.all, by dsimp only; rw [ZD]; exact hlen⟩, ⟨fun h hh => ?_, fun x x1 x2 x3 => ?_⟩, ⟨fun _ => ?_, fun _ e => absurd e hk2, fun _ _ => ?_⟩, fun a ha => ?_⟩
      · dsimp only
        rw [hne _ hd]
        exact L.cF.st (fun x hx e => hbn.1 (zjv e ▸ hx))
      · dsimp only
        rw [hne _ hd2]
        exact L.cE.st (fun x hx e => hbn.2 (zjv e ▸ hx))
      · dsimp only
        rw [hne _ hh]; exact ⟨Nat.le_refl _, .inl rfl⟩
      · dsimp only
        exact yP (fun e => x3 (List.mem_singleton.2 (zjv e)))
      · dsimp only
        rw [hh, hne _ hd, ← hh]; exact K.v (by omega)
      · dsimp only
        rw [hX, Vu, if_pos ⟨rfl, by omega, by omega⟩]
      · dsimp only
        exact yP (by omega)
    · rw [if_neg c1]
      have c2 : c.PC = 2 := by omega
      simp only [if_neg hk2]
      by_cases hs : 0 ≤ c.Head ∧ c.Head < m.length ∧ ld m c.Head = c.H
      · right
        have n := hn (by omega)
        have nn := zix c.H
        have hsw : sw m c.Head c.H (yW (c.H >>> 32 + 1#64) c.X) = (st m c.Head (yW (c.H >>> 32 + 1#64) c.X), true) := by unfold sw; rw [if_pos hs]
        rw [hsw]
        have hl := K.l c2 hk
        rw [hX] at hl
        have vp : yY (yW (c.H >>> 32 + 1#64) c.X) = yY c.H + 1 := zts c.H (by omega) (by omega) (by rw [← hs.2.2, hh]; exact hv)
        have hcH : yY c.H = yY (ld m h1) := by rw [← hs.2.2, hh]
        have ld1 : ld (st m h1 (yW (c.H >>> 32 + 1#64) c.X)) h1 = yW (c.H >>> 32 + 1#64) c.X := by rw [Vu, if_pos ⟨rfl, by rw [← hh]; exact hs.1, by rw [← hh]; exact hs.2.1⟩]
        have h12 : h1 ≠ h2 := by rcases L.hs with g | g <;> omega
        refine ⟨rfl, ?_, ?_, ?_, fun a ha hne => ?_⟩
        · rw [hh]
          refine ⟨L.hs, ?_, ?_, ?_, by dsimp only; rw [ZD]; exact hlen⟩
          · dsimp only
            rw [ld1, zby _ (by omega) (by omega), hX]
            refine ⟨rfl, hb.1, hb.2, ?_⟩
            rw [zlA hp hd hb.1, hl, zug nn.1 nn.2]
            have := L.cF
            rw [← hh, hs.2.2] at this
            rw [← hX, ← hh] at *
            exact this.st_head hp hd
          · dsimp only
            rw [yP h12]
            exact L.cE.st_head hp hd
          · refine List.Perm.trans ?_ L.all
            show List.Perm (b :: (F ++ E ++ (o1 ++ o2))) (F ++ E ++ (o1 ++ b :: o2))
            rw [← List.append_assoc (F ++ E) o1 o2, ← List.append_assoc (F ++ E) o1 (b :: o2)]
            exact List.perm_middle.symm
        · rw [hh]
          exact Mv.head hp hd (by rw [vp, hcH]; omega)
        · rw [hh]
          dsimp only
          rw [ld1, vp, hcH]
        · rw [hh]
          exact yP (fun e => hne e.symm)
      · left
        have hsw : sw m c.Head c.H (yW (c.H >>> 32 + 1#64) c.X) = (m, false) := by unfold sw; rw [if_neg hs]
        rw [hsw]
        exact ⟨ho, L, Mv.refl _ _ _ _, ⟨fun e => (by simp at e), fun e => (by simp at e), fun e => (by simp at e)⟩, fun _ _ => rfl⟩
end
end Go.Pe.G
namespace Go.Pe.G
open Go.Pe
noncomputable section
structure Gh where
  F : List Int
  E : List Int
  D : Int → List Int
  t : Int → Nat
  c : Int → Nat
def ui (s : za) (b : Int) : List Int := (s.Bins[b.toNat]?).getD []
def xJ (p : zc) (s : za) (g : Gh) : List Int := g.F.flatMap (ui s) ++ (List.range p.Workers.toNat).flatMap (fun i : Nat => g.D ((i : Int) + 1))
structure SX (p : zc) (nb : Nat) (s : za) (g : Gh) (own : List Int) (k : Nat) : Prop where
  S : SOk p nb s
  L : LI p nb s.M (yc p) (zE p) g.F g.E own
  D : ∀ w, 1 ≤ w → w ≤ p.Workers → DQ p s.M w (g.t w) (g.D w) (g.c w)
  v : yY (ld s.M (yc p)) ≤ k ∧ yY (ld s.M (zE p)) ≤ k
  dk : ∀ w, 1 ≤ w → w ≤ p.Workers → g.t w + (g.D w).length ≤ k + 1000
inductive DFr (p : zc) (m m' : List (BitVec 64)) (g g' : Gh) (w : Int) : Prop
  | same (e1 : g'.t w = g.t w) (e2 : g'.D w = g.D w) (e3 : g'.c w = g.c w) (e4 : ∀ a, yq p w ≤ a → a < yq p w + p.Cap + 2 → ld m' a = ld m a) : DFr p m m' g g' w
  | stolen (x : Int) (e1 : g'.t w = g.t w + 1) (e2 : g.D w = x :: g'.D w) (e3 : g'.c w = g.c w) (e4 : ∀ a, yq p w < a → a < yq p w + p.Cap + 2 → ld m' a = ld m a) : DFr p m m' g g' w
structure FX (p : zc) (nb : Nat) (X : List Int) (O : Int → Prop) (s s' : za) (g g' : Gh) : Prop where
  mv : Mv p nb X s.M s'.M
  bn : ∀ b, 1 ≤ b → b ∉ X → s'.Bins[b.toNat]? = s.Bins[b.toNat]?
  dq : ∀ w, 1 ≤ w → w ≤ p.Workers → DFr p s.M s'.M g g' w ∨ (O w ∧ Dv (g.t w) (g.D w) (g'.t w) (g'.D w))
theorem DFr.dv {p : zc} {m m' : List (BitVec 64)} {g g' : Gh} {w : Int} (h : DFr p m m' g g' w) : Dv (g.t w) (g.D w) (g'.t w) (g'.D w) := by
  cases h with
  | same t l c m => rw [t, l]; exact Dv.refl _ _
  | stolen x t l c m => exact ⟨by omega, fun e => by omega⟩
theorem FX.dv {p : zc} {nb : Nat} {X : List Int} {O : Int → Prop} {s s' : za} {g g' : Gh} (h : FX p nb X O s s' g g') {w : Int} (h1 : 1 ≤ w) (h2 : w ≤ p.Workers) : Dv (g.t w) (g.D w) (g'.t w) (g'.D w) := by
  rcases h.dq w h1 h2 with h | h
  · exact h.dv
  · exact h.2
theorem FX.tk {p : zc} {nb : Nat} {X : List Int} {O : Int → Prop} {s s' : za} {g g' : Gh} (h : FX p nb X O s s' g g') {w : Int} (h1 : 1 ≤ w) (h2 : w ≤ p.Workers) {d : zi} (K : TK p s.M w (g.t w) (g.D w) d) : TK p s'.M w (g'.t w) (g'.D w) d := K.dv (h.dv h1 h2)
theorem FX.pk {p : zc} (hp : zG p) {nb : Nat} {X : List Int} {O : Int → Prop} {s s' : za} {g g' : Gh} (h : FX p nb X O s s' g g') {w : Int} (h1 : 1 ≤ w) (h2 : w ≤ p.Workers) (ho : ¬ O w) {d : zi} (K : PK p s.M w (g.t w) (g.D w) (g.c w) d) : PK p s'.M w (g'.t w) (g'.D w) (g'.c w) d := by
  rcases h.dq w h1 h2 with h | h
  · cases h with
    | same t l c m => rw [t, l, c]; exact K.keep
    | stolen x t l c m => rw [l] at K; rw [t, c]; exact K.stolen hp ⟨h1, h2⟩
  · exact absurd h.1 ho
theorem FX.dk {p : zc} (hp : zG p) {nb : Nat} {X : List Int} {O : Int → Prop} {s s' : za} {g g' : Gh} (h : FX p nb X O s s' g g') {w : Int} (h1 : 1 ≤ w) (h2 : w ≤ p.Workers) (ho : ¬ O w) {d : zi} (K : DK p s.M w (g.t w) (g.D w) (g.c w) d) : DK p s'.M w (g'.t w) (g'.D w) (g'.c w) d := by
  have hc := hp.cap
  rcases h.dq w h1 h2 with h | h
  · cases h with
    | same t l c m => rw [t, l, c]; exact K.keep hp (fun a h1 h2 => m a (by omega) h2)
    | stolen x t l c m =>
      rw [l] at K
      have K' : DK p s'.M w (g.t w) (x :: g'.D w) (g.c w) d := K.keep hp (fun a h1 h2 => m a (by omega) h2)
      rw [t, c]
      exact K'.stolen (m' := s'.M) (fun _ _ => rfl) hp
  · exact absurd h.1 ho
def wy (g : zA) : List Int := if g.Out = 0 ∧ (g.PC = 6 ∨ g.PC = 7) then [g.Bin] else []
def xf (g : zA) : List Int := if g.Out = 0 ∧ 3 ≤ g.PC ∧ g.PC ≤ 7 then [g.Obj] else []
structure GX (p : zc) (s : za) (gh : Gh) (g : zA) : Prop where
  o : g.Out = 0 ∨ g.Out = 1
  pc : 0 ≤ g.PC ∧ g.PC ≤ 7
  md : 1 ≤ g.Mode ∧ g.Mode ≤ 3
  ob : 1 ≤ g.Obj ∧ g.Obj ≤ 64
  c0 : g.Mode = 1 → g.Out = 0 → gh.c g.Who = 0
  c5 : g.PC = 5 → g.Out = 0 → g.C.Out = 0 ∧ (0 ≤ g.C.PC ∧ g.C.PC ≤ 2) ∧ CK p s.M g.C
  c7 : g.PC = 7 → g.Out = 0 → g.C.Out = 0 ∧ (0 ≤ g.C.PC ∧ g.C.PC ≤ 2) ∧ g.C.X = g.Bin ∧ CK p s.M g.C ∧ s.Bins[g.Bin.toNat]? = some [g.Obj]
  d3 : g.PC = 3 → g.Out = 0 → g.Mode = 1 ∧ g.D.X = g.Obj ∧ DK p s.M g.Who (gh.t g.Who) (gh.D g.Who) (gh.c g.Who) g.D
theorem GX.other {p : zc} (hp : zG p) {nb k : Nat} {s s' : za} {gh gh' : Gh} {X R : List Int} {O : Int → Prop} {o : zA} (Y : SX p nb s gh (X ++ R) k) (Fx : FX p nb X O s s' gh gh') (G : GX p s gh o) (M : MOk p nb o)
    (hR : ∀ x ∈ wy o, x ∈ R) (apart : o.Mode = 1 → ¬ O o.Who) : GX p s' gh' o := by
  have hsub : ∀ x ∈ X, x ∈ X ++ R := fun x hx => List.mem_append_left _ hx
  have hnd := (List.nodup_append.1 Y.L.nodup).2.1
  have hnot : ∀ x, x ∈ wy o → x ∉ X := fun x hx hg => (List.nodup_append.1 hnd).2.2 x hg x (hR x hx) rfl
  refine ⟨G.o, G.pc, G.md, G.ob, fun h1 h0 => ?_, fun h5 h0 => ?_, fun h7 h0 => ?_, fun h3 h0 => ?_⟩
  · have hw := M.who h1
    rcases Fx.dq o.Who hw.1 hw.2 with h | h
    · cases h with
      | same t l c m => rw [c]; exact G.c0 h1 h0
      | stolen x t l c m => rw [c]; exact G.c0 h1 h0
    · exact absurd h.1 (apart h1)
  · obtain ⟨a, b, c⟩ := G.c5 h5 h0
    obtain ⟨m1, m2, m3, m4, m5⟩ := M.c5 h5
    exact ⟨a, b, c.mv Y.L Fx.mv hsub (.inr m2) (fun h _ => m4 h) (fun e => by omega)⟩
  · obtain ⟨a, b, c, d, e⟩ := G.c7 h7 h0
    obtain ⟨m1, m2, m3, m4, m5⟩ := M.c7 h7
    have hown : o.Bin ∈ wy o := by unfold wy; rw [if_pos ⟨h0, .inr h7⟩]; simp
    have hno := hnot _ hown
    exact ⟨a, b, c, d.mv Y.L Fx.mv hsub (.inl m2) (fun _ e => by omega) (fun _ => ⟨m4.1, m4.2, by rw [c]; exact hno⟩), by rw [Fx.bn o.Bin (by rw [← c]; exact m4.1) hno]; exact e⟩
  · obtain ⟨a, b, c⟩ := G.d3 h3 h0
    have hw := M.who a
    exact ⟨a, b, Fx.dk hp hw.1 hw.2 (apart a) c⟩
theorem zf2 (m : List (BitVec 64)) {c : zC} (h : c.Out = 0) (hpc : 0 ≤ c.PC ∧ c.PC ≤ 2) (hk : c.Kind = 1 ∨ c.Kind = 2) :
    ((zp m c).2.Out = 0 ∧ 0 ≤ (zp m c).2.PC ∧ (zp m c).2.PC ≤ 2) ∨ (zp m c).2.Out = 1 ∨ ((zp m c).2.Out = 2 ∧ c.Kind = 2) := by
  unfold zp
  rw [if_neg (by omega)]
  split
  · dsimp only
    split
    · rename_i e; exact .inr (.inr ⟨rfl, e.1⟩)
    · exact .inl ⟨h, by show (0 : Int) ≤ 1; decide, by show (1 : Int) ≤ 2; decide⟩
  split
  · split <;> exact .inl ⟨h, by show (0 : Int) ≤ 2; decide, by show (2 : Int) ≤ 2; decide⟩
  · dsimp only
    generalize sw m c.Head c.H _ = r
    split
    · split <;> exact .inr (.inl rfl)
    · exact .inl ⟨h, by show (0 : Int) ≤ 0; decide, by show (0 : Int) ≤ 2; decide⟩
theorem znD (m : List (BitVec 64)) (c : zC) : (zp m c).2.Kind = c.Kind ∧ (zp m c).2.Head = c.Head ∧ (zp m c).2.Next = c.Next ∧ (c.Kind = 1 → (zp m c).2.X = c.X) := by
  unfold zp
  split
  · exact ⟨rfl, rfl, rfl, fun _ => rfl⟩
  split
  · dsimp only; split <;> exact ⟨rfl, rfl, rfl, fun _ => rfl⟩
  split
  · split <;> exact ⟨rfl, rfl, rfl, fun _ => rfl⟩
  · dsimp only
    generalize sw m c.Head c.H _ = r
    split
    · split
      · rename_i e; exact ⟨rfl, rfl, rfl, fun e2 => by omega⟩
      · exact ⟨rfl, rfl, rfl, fun _ => rfl⟩
    · exact ⟨rfl, rfl, rfl, fun _ => rfl⟩
theorem SX.quiet {p : zc} {nb k : Nat} {s s' : za} {g : Gh} {own : List Int} (X : SX p nb s g own k) (S' : SOk p nb s') (hm : s'.M = s.M) : SX p nb s' g own (k + 1) :=
  ⟨S', by rw [hm]; exact X.L, by rw [hm]; exact X.D, by rw [hm]; exact ⟨Nat.le_succ_of_le X.v.1, Nat.le_succ_of_le X.v.2⟩, fun w h1 h2 => by have := X.dk w h1 h2; omega⟩
theorem FX.quiet {p : zc} {nb : Nat} {X : List Int} {O : Int → Prop} {s s' : za} {g : Gh} (hm : s'.M = s.M) (hb : ∀ b, 1 ≤ b → b ∉ X → s'.Bins[b.toNat]? = s.Bins[b.toNat]?) : FX p nb X O s s' g g :=
  ⟨by rw [hm]; exact Mv.refl _ _ _ _, hb, fun _ _ _ => .inl (.same rfl rfl rfl (fun _ _ _ => by rw [hm]))⟩
theorem XL {p : zc} {s s' : za} {g : Gh} (hb : s'.Bins = s.Bins) : xJ p s' g = xJ p s g := by
  unfold xJ ui; rw [hb]
theorem vP {g : zA} (h : g.Out ≠ 0 ∨ (g.PC ≠ 6 ∧ g.PC ≠ 7)) : wy g = [] := by unfold wy; rw [if_neg (by omega)]
theorem zhf {g : zA} (h : g.Out = 0) (h2 : g.PC = 6 ∨ g.PC = 7) : wy g = [g.Bin] := by unfold wy; rw [if_pos ⟨h, h2⟩]
theorem ZZ {g : zA} (h : g.Out ≠ 0 ∨ g.PC < 3 ∨ 7 < g.PC) : xf g = [] := by unfold xf; rw [if_neg (by omega)]
theorem vk {g : zA} (h : g.Out = 0) (h2 : 3 ≤ g.PC) (h3 : g.PC ≤ 7) : xf g = [g.Obj] := by unfold xf; rw [if_pos ⟨h, h2, h3⟩]
theorem GX.ask {p : zc} {s : za} {gh : Gh} {g : zA} (o : g.Out = 0) (md : 1 ≤ g.Mode ∧ g.Mode ≤ 3) (ob : 1 ≤ g.Obj ∧ g.Obj ≤ 64) (c0 : g.Mode = 1 → gh.c g.Who = 0) (q : zc) : GX p s gh (zkG q g) :=
  ⟨.inl o, ⟨by show (0 : Int) ≤ 5; decide, by show (5 : Int) ≤ 7; decide⟩, md, ob, fun h _ => c0 h,
    fun _ _ => ⟨rfl, ⟨by show (0 : Int) ≤ 0; decide, by show (0 : Int) ≤ 2; decide⟩, ⟨fun e => absurd e (by show ¬ (1 : Int) ≤ 0; decide), fun e => absurd e (by show ¬ (0 : Int) = 2; decide), fun e => absurd e (by show ¬ (0 : Int) = 2; decide)⟩⟩,
    fun e => absurd e (by show ¬ (5 : Int) = 7; decide), fun e => absurd e (by show ¬ (5 : Int) = 3; decide)⟩
theorem GX.plain {p : zc} {s : za} {gh : Gh} {g : zA} (o : g.Out = 0 ∨ g.Out = 1) (pc : 0 ≤ g.PC ∧ g.PC ≤ 7) (md : 1 ≤ g.Mode ∧ g.Mode ≤ 3) (ob : 1 ≤ g.Obj ∧ g.Obj ≤ 64) (c0 : g.Mode = 1 → g.Out = 0 → gh.c g.Who = 0) (h : g.Out ≠ 0 ∨ (g.PC ≠ 3 ∧ g.PC ≠ 5 ∧ g.PC ≠ 7)) : GX p s gh g :=
  ⟨o, pc, md, ob, c0, fun e e2 => by omega, fun e e2 => by omega, fun e e2 => by omega⟩
def zsv (g : zA) (w : Int) : Prop := g.Mode = 1 ∧ w = g.Who
def zmT (p : zc) (nb k : Nat) (R : List Int) (gh : Gh) (s : za) (g : zA) (s' : za) (g' : zA) : Prop :=
  ∃ gh', SX p nb s' gh' (wy g' ++ R) (k + 1) ∧ GX p s' gh' g' ∧ FX p nb (wy g) (zsv g) s s' gh gh' ∧ (g.Mode = 1 → g.Out = 0 → gh'.c g.Who = 0) ∧ (∀ b ∈ gh'.F, b ∈ gh.F ∨ ui s' b ≠ []) ∧
    ∃ N, List.Perm (xJ p s' gh' ++ xf g') (N ++ (xJ p s gh ++ xf g)) ∧
      ((N = [] ∧ s'.T = s.T) ∨ (N = [g.Obj] ∧ ¬ (s.T.Marks ||| bit g.Obj = s.T.Marks) ∧ s'.T = { s.T with Marks := s.T.Marks ||| bit g.Obj }))
theorem zmT.quiet {p : zc} {nb k : Nat} {R : List Int} {gh : Gh} {s s' : za} {g g' : zA} (X : SX p nb s gh (wy g ++ R) k) (S' : SOk p nb s') (hm : s'.M = s.M) (hb : s'.Bins = s.Bins) (hT : s'.T = s.T)
    (ho : wy g' = wy g) (hh : xf g' = xf g) (c0 : g.Mode = 1 → g.Out = 0 → gh.c g.Who = 0) (G' : GX p s' gh g') : zmT p nb k R gh s g s' g' :=
  ⟨gh, by rw [ho]; exact X.quiet S' hm, G', FX.quiet hm (fun _ _ _ => by rw [hb]), c0, fun _ h => .inl h, [], by rw [XL hb, hh]; exact List.Perm.refl _, .inl ⟨rfl, hT⟩⟩
theorem zmK (m : List (BitVec 64)) {c : zC} (hk : c.Kind = 2) {a : Int} (ha : a ≠ c.Head) : ld (zp m c).1 a = ld m a := by
  unfold zp
  split
  · rfl
  split
  · rfl
  split
  · rfl
  · dsimp only
    unfold sw
    split
    · exact yP (fun e => ha e.symm)
    · rfl
theorem Chn.congr {m m' : List (BitVec 64)} {N : Int} {nb : Nat} (hm : ∀ x : Int, 1 ≤ x → ld m' (N + x) = ld m (N + x)) : ∀ {l : List Int} {h : Int}, Chn m N nb h l → Chn m' N nb h l
  | [], h, c => c
  | y :: l, h, c => ⟨c.1, c.2.1, c.2.2.1, by rw [hm y c.2.1]; exact Chn.congr hm c.2.2.2⟩
theorem LI.low {p : zc} (hp : zG p) {nb : Nat} {m m' : List (BitVec 64)} {h1 h2 : Int} {F E own : List Int} (L : LI p nb m h1 h2 F E own) (hl : m'.length = m.length) (hm : ∀ a, yc p ≤ a → ld m' a = ld m a) : LI p nb m' h1 h2 F E own := by
  have hE := wJ hp
  have h : h1 = yc p ∨ h1 = zE p := by rcases L.hs with g | g <;> simp [g]
  have h' : h2 = yc p ∨ h2 = zE p := by rcases L.hs with g | g <;> simp [g]
  exact ⟨L.hs, by rw [hm h1 (by omega)]; exact L.cF.congr (fun x hx => hm _ (by omega)), by rw [hm h2 (by omega)]; exact L.cE.congr (fun x hx => hm _ (by omega)), L.all, by rw [hl]; exact L.len⟩
theorem Mv.low {p : zc} (hp : zG p) {nb : Nat} {X : List Int} {m m' : List (BitVec 64)} (hm : ∀ a, yc p ≤ a → ld m' a = ld m a) : Mv p nb X m m' := by
  have hE := wJ hp
  exact ⟨fun h hh => by rw [hm h (by omega)]; exact ⟨Nat.le_refl _, .inl rfl⟩, fun x hx _ _ => hm _ (by omega)⟩
theorem zub {p : zc} (hp : zG p) {v w : Int} (hv : 1 ≤ v ∧ v ≤ p.Workers) (hw : 1 ≤ w ∧ w ≤ p.Workers) (h : v ≠ w) : yq p v + p.Cap + 2 ≤ yq p w ∨ yq p w + p.Cap + 2 ≤ yq p v := by
  have hk := hp.wk
  have hc := hp.cap
  have h1 := (VB hp hv.1 hv.2).1
  have h2 := (VB hp hw.1 hw.2).1
  have hx : v = 1 ∨ v = 2 ∨ v = 3 := by omega
  have hy : w = 1 ∨ w = 2 ∨ w = 3 := by omega
  rw [h1, h2]
  rcases hx with rfl | rfl | rfl <;> rcases hy with rfl | rfl | rfl <;> omega
theorem zva {p : zc} (hp : zG p) {w : Int} (hw : 1 ≤ w ∧ w ≤ p.Workers) {m m' : List (BitVec 64)} (hm : ∀ a, (a < yq p w ∨ yq p w + p.Cap + 2 ≤ a) → ld m' a = ld m a) : (∀ a, yc p ≤ a → ld m' a = ld m a) ∧
    ∀ v, 1 ≤ v → v ≤ p.Workers → v ≠ w → ∀ a, yq p v ≤ a → a < yq p v + p.Cap + 2 → ld m' a = ld m a := by
  have hd := VB hp hw.1 hw.2
  refine ⟨fun a ha => hm a (by omega), fun v h1 h2 hne a h3 h4 => hm a ?_⟩
  have := zub hp ⟨h1, h2⟩ hw hne
  omega
def V4 (g : Gh) (w : Int) (t : Nat) (l : List Int) (c : Nat) : Gh := { g with D := fun v => if v = w then l else g.D v, t := fun v => if v = w then t else g.t v, c := fun v => if v = w then c else g.c v }
theorem VY {g : Gh} {w v : Int} {t c : Nat} {l : List Int} (h : v ≠ w) : (V4 g w t l c).D v = g.D v ∧ (V4 g w t l c).t v = g.t v ∧ (V4 g w t l c).c v = g.c v := by
  unfold V4; dsimp only; rw [if_neg h, if_neg h, if_neg h]; exact ⟨rfl, rfl, rfl⟩
theorem Zp {g : Gh} {w : Int} {t c : Nat} {l : List Int} : (V4 g w t l c).D w = l ∧ (V4 g w t l c).t w = t ∧ (V4 g w t l c).c w = c := by
  unfold V4; dsimp only; rw [if_pos rfl, if_pos rfl, if_pos rfl]; exact ⟨rfl, rfl, rfl⟩
theorem SX.dq {p : zc} (hp : zG p) {nb k : Nat} {s s' : za} {g : Gh} {own : List Int} (X : SX p nb s g own k) (S' : SOk p nb s') (hl : s'.M.length = s.M.length) {w : Int} (hw : 1 ≤ w ∧ w ≤ p.Workers)
    (hm : ∀ a, (a < yq p w ∨ yq p w + p.Cap + 2 ≤ a) → ld s'.M a = ld s.M a) {t c : Nat} {l : List Int} (D : DQ p s'.M w t l c) (hk : t + l.length ≤ k + 1 + 1000) : SX p nb s' (V4 g w t l c) own (k + 1) := by
  obtain ⟨h1, h2⟩ := zva hp hw hm
  have hE := wJ hp
  refine ⟨S', X.L.low hp hl h1, fun v a b => ?_, ?_, fun v a b => ?_⟩
  · by_cases e : v = w
    · subst e
      rw [Zp.1, Zp.2.1, Zp.2.2]; exact D
    · rw [(VY e).1, (VY e).2.1, (VY e).2.2]
      exact (X.D v a b).keep hp (h2 v a b e)
  · rw [h1 _ (by omega), h1 _ (by omega)]
    exact ⟨Nat.le_succ_of_le X.v.1, Nat.le_succ_of_le X.v.2⟩
  · by_cases e : v = w
    · subst e
      rw [Zp.1, Zp.2.1]; exact hk
    · rw [(VY e).1, (VY e).2.1]
      have := X.dk v a b; omega
theorem FX.own {p : zc} (hp : zG p) {nb : Nat} {Y : List Int} {O : Int → Prop} {s s' : za} {g : Gh} {w : Int} (hw : 1 ≤ w ∧ w ≤ p.Workers)
    (hm : ∀ a, (a < yq p w ∨ yq p w + p.Cap + 2 ≤ a) → ld s'.M a = ld s.M a) (hb : s'.Bins = s.Bins) {t c : Nat} {l : List Int} (hO : O w) (V : Dv (g.t w) (g.D w) t l) : FX p nb Y O s s' g (V4 g w t l c) := by
  obtain ⟨h1, h2⟩ := zva hp hw hm
  refine ⟨Mv.low hp h1, fun b _ _ => by rw [hb], fun v a b => ?_⟩
  by_cases e : v = w
  · subst e
    right
    rw [Zp.1, Zp.2.1]; exact ⟨hO, V⟩
  · exact .inl (.same (VY e).2.1 (VY e).1 (VY e).2.2 (h2 v a b e))
theorem YC {α β : Type} {f g : α → List β} : ∀ {l : List α}, (∀ x ∈ l, f x = g x) → l.flatMap f = l.flatMap g
  | [], _ => rfl
  | a :: l, h => by rw [List.flatMap_cons, List.flatMap_cons, h a (by simp), YC (fun x hx => h x (List.mem_cons_of_mem _ hx))]
theorem zt6 {n : Nat} {i : Nat} (h : i < n) : ∃ a b, List.range n = a ++ i :: b ∧ i ∉ a ∧ i ∉ b := by
  refine ⟨List.range i, (List.range (n - i - 1)).map (fun j => i + 1 + j), ?_, by simp, by simp; omega⟩
  have : n = i + (1 + (n - i - 1)) := by omega
  rw [this, List.range_add, List.range_add]
  simp [List.range_succ, Nat.add_assoc, Function.comp_def]
theorem ztt {p : zc} {s s' : za} {g : Gh} (hb : s'.Bins = s.Bins) {w : Int} (hw : 1 ≤ w ∧ w ≤ p.Workers) {t c : Nat} {l : List Int} : ∃ a b, xJ p s g = a ++ g.D w ++ b ∧ xJ p s' (V4 g w t l c) = a ++ l ++ b := by
  obtain ⟨a, b, e, ha, hb'⟩ := zt6 (n := p.Workers.toNat) (i := (w - 1).toNat) (by omega)
  have ew : (((w - 1).toNat : Nat) : Int) + 1 = w := by omega
  have ne : ∀ j : Nat, j ≠ (w - 1).toNat → (j : Int) + 1 ≠ w := fun j hj e => hj (by omega)
  refine ⟨g.F.flatMap (ui s) ++ a.flatMap (fun i : Nat => g.D ((i : Int) + 1)), b.flatMap (fun i : Nat => g.D ((i : Int) + 1)), ?_, ?_⟩
  · unfold xJ
    rw [e, List.flatMap_append, List.flatMap_cons, ew]
    simp [List.append_assoc]
  · unfold xJ ui
    rw [hb, e, List.flatMap_append, List.flatMap_cons, ew, Zp.1]
    have h1 : a.flatMap (fun i : Nat => (V4 g w t l c).D ((i : Int) + 1)) = a.flatMap (fun i : Nat => g.D ((i : Int) + 1)) := by
      refine YC (fun j hj => ?_); exact (VY (ne j (fun e => ha (e ▸ hj)))).1
    have h2 : b.flatMap (fun i : Nat => (V4 g w t l c).D ((i : Int) + 1)) = b.flatMap (fun i : Nat => g.D ((i : Int) + 1)) := by
      refine YC (fun j hj => ?_); exact (VY (ne j (fun e => hb' (e ▸ hj)))).1
    rw [h1, h2]
    have hF : (V4 g w t l c).F = g.F := rfl
    rw [hF]
    simp [List.append_assoc]
theorem Mv.weak {p : zc} {nb : Nat} {m m' : List (BitVec 64)} (M : Mv p nb [] m m') (Y : List Int) : Mv p nb Y m m' := ⟨M.hd, fun x a b _ => M.nx x a b (by simp)⟩
theorem Mv.grow {p : zc} {nb : Nat} {X Y : List Int} {m m' : List (BitVec 64)} (M : Mv p nb X m m') (h : ∀ x ∈ X, x ∈ Y) : Mv p nb Y m m' := ⟨M.hd, fun x a b c => M.nx x a b (fun e => c (h x e))⟩
theorem SX.chain {p : zc} (hp : zG p) {nb k : Nat} {s s' : za} {g : Gh} {own own' F E : List Int} (X : SX p nb s g own k) (S' : SOk p nb s') (hlow : ∀ a, a < yc p → ld s'.M a = ld s.M a) (L' : LI p nb s'.M (yc p) (zE p) F E own')
    (hv : yY (ld s'.M (yc p)) ≤ k + 1 ∧ yY (ld s'.M (zE p)) ≤ k + 1) : SX p nb s' { g with F := F, E := E } own' (k + 1) :=
  ⟨S', L', fun w h1 h2 => (X.D w h1 h2).keep hp (fun a h3 h4 => hlow a (by have := VB hp h1 h2; omega)), hv, fun w h1 h2 => by have := X.dk w h1 h2; show g.t w + (g.D w).length ≤ _; omega⟩
theorem FX.chain {p : zc} (hp : zG p) {nb : Nat} {Y : List Int} {O : Int → Prop} {s s' : za} {g : Gh} {F E : List Int} (M : Mv p nb Y s.M s'.M) (hb : s'.Bins = s.Bins) (hlow : ∀ a, a < yc p → ld s'.M a = ld s.M a) : FX p nb Y O s s' g { g with F := F, E := E } :=
  ⟨M, fun _ _ _ => by rw [hb], fun w h1 h2 => .inl (.same rfl rfl rfl (fun a h3 h4 => hlow a (by have := VB hp h1 h2; omega)))⟩
theorem SX.popE {p : zc} (hp : zG p) {nb k : Nat} {s : za} {g : Gh} {own : List Int} (X : SX p nb s g own k) (hk : k < 4294960000) {c : zC} (kd : c.Kind = 2) (hh : c.Head = zE p) (hN : c.Next = zE p) (ho : c.Out = 0) (hpc : 0 ≤ c.PC ∧ c.PC ≤ 2) (K : CK p s.M c)
    (hn : 1 ≤ c.PC → 1 ≤ yp c.H ∧ yp c.H < nb) (S' : SOk p nb { s with M := (zp s.M c).1 }) :
    ((zp s.M c).1 = s.M ∧ (zp s.M c).2.Out ≠ 1 ∧ CK p s.M (zp s.M c).2 ∧ ((zp s.M c).2.Out = 2 → g.E = [])) ∨
    (∃ x l, g.E = x :: l ∧ (zp s.M c).2.Out = 1 ∧ (zp s.M c).2.X = x ∧ SX p nb { s with M := (zp s.M c).1 } { g with E := l } (x :: own) (k + 1) ∧ ∀ Y O, FX p nb Y O s { s with M := (zp s.M c).1 } g { g with E := l }) := by
  have hE := wJ hp
  have hnb := X.S.nbk
  have hv := X.v
  have hcells := fun a (ha : a ≠ c.Head) => zmK s.M kd ha
  rcases zsS hp hnb.2 (L := X.L.swap) kd hh hN ho hpc K hn (by omega) with ⟨a, b, e, d⟩ | ⟨x, l, a, b, e, d, f, v1, v2⟩
  · exact .inl ⟨a, b, d, e⟩
  · refine .inr ⟨x, l, a, b, e, X.chain hp S' (fun a ha => hcells a (by omega)) d.swap ?_, fun Y O => FX.chain hp (f.weak Y) rfl (fun a ha => hcells a (by omega))⟩
    rw [v2, v1]; omega
theorem SX.popF {p : zc} (hp : zG p) {nb k : Nat} {s : za} {g : Gh} {own : List Int} (X : SX p nb s g own k) (hk : k < 4294960000) {c : zC} (kd : c.Kind = 2) (hh : c.Head = yc p) (hN : c.Next = zE p) (ho : c.Out = 0) (hpc : 0 ≤ c.PC ∧ c.PC ≤ 2) (K : CK p s.M c)
    (hn : 1 ≤ c.PC → 1 ≤ yp c.H ∧ yp c.H < nb) (S' : SOk p nb { s with M := (zp s.M c).1 }) :
    ((zp s.M c).1 = s.M ∧ (zp s.M c).2.Out ≠ 1 ∧ CK p s.M (zp s.M c).2 ∧ ((zp s.M c).2.Out = 2 → g.F = [])) ∨
    (∃ x l, g.F = x :: l ∧ (zp s.M c).2.Out = 1 ∧ (zp s.M c).2.X = x ∧ SX p nb { s with M := (zp s.M c).1 } { g with F := l } (x :: own) (k + 1) ∧ ∀ Y O, FX p nb Y O s { s with M := (zp s.M c).1 } g { g with F := l }) := by
  have hE := wJ hp
  have hnb := X.S.nbk
  have hv := X.v
  have hcells := fun a (ha : a ≠ c.Head) => zmK s.M kd ha
  rcases zsS hp hnb.2 (L := X.L) kd hh hN ho hpc K hn (by omega) with ⟨a, b, e, d⟩ | ⟨x, l, a, b, e, d, f, v1, v2⟩
  · exact .inl ⟨a, b, d, e⟩
  · refine .inr ⟨x, l, a, b, e, X.chain hp S' (fun a ha => hcells a (by omega)) d ?_, fun Y O => FX.chain hp (f.weak Y) rfl (fun a ha => hcells a (by omega))⟩
    rw [v2, v1]; omega
theorem SX.pushF {p : zc} (hp : zG p) {nb k : Nat} {s : za} {g : Gh} {o1 o2 : List Int} {b : Int} (X : SX p nb s g (o1 ++ b :: o2) k) (hk : k < 4294960000) {c : zC} (kd : c.Kind = 1) (hh : c.Head = yc p) (hN : c.Next = zE p) (hX : c.X = b) (ho : c.Out = 0) (hpc : 0 ≤ c.PC ∧ c.PC ≤ 2) (K : CK p s.M c)
    (hn : 1 ≤ c.PC → yp c.H < nb) (S' : SOk p nb { s with M := (zp s.M c).1 }) :
    ((zp s.M c).2.Out = 0 ∧ SX p nb { s with M := (zp s.M c).1 } g (o1 ++ b :: o2) (k + 1) ∧ CK p (zp s.M c).1 (zp s.M c).2 ∧ (∀ Y O, b ∈ Y → FX p nb Y O s { s with M := (zp s.M c).1 } g g)) ∨
    ((zp s.M c).2.Out = 1 ∧ SX p nb { s with M := (zp s.M c).1 } { g with F := b :: g.F } (o1 ++ o2) (k + 1) ∧ (∀ Y O, FX p nb Y O s { s with M := (zp s.M c).1 } g { g with F := b :: g.F })) := by
  have hE := wJ hp
  have hnb := X.S.nbk
  have hv := X.v
  rcases zrK hp hnb.2 (L := X.L) kd hh hN hX ho hpc K hn (by omega) with ⟨a, l, d, e, f⟩ | ⟨a, l, d, e, f⟩
  · refine .inl ⟨a, X.chain hp S' (fun a ha => f a (by omega)) l ?_, e, fun Y O hb => FX.chain hp (d.grow (fun x hx => by rw [List.mem_singleton.1 hx]; exact hb)) rfl (fun a ha => f a (by omega))⟩
    show yY (ld (zp s.M c).1 (yc p)) ≤ _ ∧ yY (ld (zp s.M c).1 (zE p)) ≤ _
    rw [f _ (by omega), f _ (by omega)]; omega
  · refine .inr ⟨a, X.chain hp S' (fun a ha => f a (by omega) (by omega)) l ?_, fun Y O => FX.chain hp (d.weak Y) rfl (fun a ha => f a (by omega) (by omega))⟩
    show yY (ld (zp s.M c).1 (yc p)) ≤ _ ∧ yY (ld (zp s.M c).1 (zE p)) ≤ _
    have f' := f (zE p) (by omega) (by omega)
    rw [f']; omega
theorem SX.pushE {p : zc} (hp : zG p) {nb k : Nat} {s : za} {g : Gh} {o1 o2 : List Int} {b : Int} (X : SX p nb s g (o1 ++ b :: o2) k) (hk : k < 4294960000) {c : zC} (kd : c.Kind = 1) (hh : c.Head = zE p) (hN : c.Next = zE p) (hX : c.X = b) (ho : c.Out = 0) (hpc : 0 ≤ c.PC ∧ c.PC ≤ 2) (K : CK p s.M c)
    (hn : 1 ≤ c.PC → yp c.H < nb) (S' : SOk p nb { s with M := (zp s.M c).1 }) :
    ((zp s.M c).2.Out = 0 ∧ SX p nb { s with M := (zp s.M c).1 } g (o1 ++ b :: o2) (k + 1) ∧ CK p (zp s.M c).1 (zp s.M c).2 ∧ (∀ Y O, b ∈ Y → FX p nb Y O s { s with M := (zp s.M c).1 } g g)) ∨
    ((zp s.M c).2.Out = 1 ∧ SX p nb { s with M := (zp s.M c).1 } { g with E := b :: g.E } (o1 ++ o2) (k + 1) ∧ (∀ Y O, FX p nb Y O s { s with M := (zp s.M c).1 } g { g with E := b :: g.E })) := by
  have hE := wJ hp
  have hnb := X.S.nbk
  have hv := X.v
  rcases zrK hp hnb.2 (L := X.L.swap) kd hh hN hX ho hpc K hn (by omega) with ⟨a, l, d, e, f⟩ | ⟨a, l, d, e, f⟩
  · refine .inl ⟨a, X.chain hp S' (fun a ha => f a (by omega)) l.swap ?_, e, fun Y O hb => FX.chain hp (d.grow (fun x hx => by rw [List.mem_singleton.1 hx]; exact hb)) rfl (fun a ha => f a (by omega))⟩
    show yY (ld (zp s.M c).1 (yc p)) ≤ _ ∧ yY (ld (zp s.M c).1 (zE p)) ≤ _
    rw [f _ (by omega), f _ (by omega)]; omega
  · refine .inr ⟨a, X.chain hp S' (fun a ha => f a (by omega) (by omega)) l.swap ?_, fun Y O => FX.chain hp (d.weak Y) rfl (fun a ha => f a (by omega) (by omega))⟩
    show yY (ld (zp s.M c).1 (yc p)) ≤ _ ∧ yY (ld (zp s.M c).1 (zE p)) ≤ _
    have f' := f (yc p) (by omega) (by omega)
    rw [f']; omega
end
end Go.Pe.G
namespace Go.Pe.G
open Go.Pe
noncomputable section
theorem zAk {p : zc} {s : za} {g : Gh} {b : Int} : xJ p s { g with F := b :: g.F } = ui s b ++ xJ p s g := by
  unfold xJ; simp [List.append_assoc]
theorem zAe {p : zc} {s : za} {g : Gh} {l : List Int} : xJ p s { g with E := l } = xJ p s g := rfl
theorem zyy {l : List Int} {t : Nat} {x : Int} : Dv t l t (l ++ [x]) := ⟨Nat.le_refl _, fun _ h => ⟨by simp, by cases l with | nil => exact absurd rfl h | cons a l => rfl⟩⟩
theorem zyH {p : zc} (hp : zG p) {nb k : Nat} {R : List Int} {gh : Gh} {s : za} {g : zA} (hk : k < 4294960000) (X : SX p nb s gh (wy g ++ R) k) (M : MOk p nb g) (h5o : g.PC = 5 → g.C.Out ≠ 1) (G : GX p s gh g) :
    zmT p nb k R gh s g (zB s g).1 (zB s g).2 := by
  have S' := (zqH hp X.S M h5o).1
  have hP := X.S.P
  have hpc := G.pc
  have hmd := G.md
  have hob := G.ob
  revert S'
  unfold zB
  by_cases h0 : g.Out = 0
  rotate_left
  · rw [if_pos (.inl h0)]
    intro S'
    exact .quiet X S' rfl rfl rfl rfl rfl G.c0 G
  rw [if_neg (by omega)]
  have hc0 : g.Mode = 1 → gh.c g.Who = 0 := fun h => G.c0 h h0
  by_cases p7 : g.PC = 7
  · rw [if_pos p7]
    obtain ⟨c1, c2, c3, c4, c5⟩ := G.c7 p7 h0
    obtain ⟨m1, m2, m3, m4, m5⟩ := M.c7 p7
    have eo : wy g = [g.Bin] := zhf h0 (.inr p7)
    have eh : xf g = [g.Obj] := vk h0 (by omega) (by omega)
    rw [eo] at X
    intro S'
    have S' : SOk p nb { s with M := (zp s.M g.C).1 } := S'
    unfold zhs
    dsimp only
    rcases SX.pushF hp (o1 := []) (o2 := R) (b := g.Bin) X hk m1 m2 m3 c3 c1 c2 c4 m5 S' with ⟨a, b, c, d⟩ | ⟨a, b, d⟩
    · rw [a]
      rw [if_neg (by decide)]
      have hout := zf2 s.M c1 c2 (.inl m1)
      have hsame := znD s.M g.C
      have hpc' : 0 ≤ (zp s.M g.C).2.PC ∧ (zp s.M g.C).2.PC ≤ 2 := by omega
      refine ⟨gh, by rw [show wy { g with C := (zp s.M g.C).2 } = [g.Bin] from zhf h0 (.inr p7)]; exact b, ?_, by rw [eo]; exact d _ _ (by simp), fun h _ => hc0 h, fun _ h => .inl h, [], ?_, .inl ⟨rfl, rfl⟩⟩
      · exact ⟨.inl h0, hpc, hmd, hob, fun h _ => hc0 h, fun e => by have e : g.PC = 5 := e; omega, fun _ _ => ⟨a, hpc', (hsame.2.2.2 m1).trans c3, c, c5⟩, fun e => by have e : g.PC = 3 := e; omega⟩
      · rw [XL rfl, show xf { g with C := (zp s.M g.C).2 } = [g.Obj] from vk h0 (by show (3 : Int) ≤ g.PC; omega) (by show g.PC ≤ 7; omega), eh]
        exact List.Perm.refl _
    · rw [a, if_pos rfl]
      have e1 : wy { g with C := (zp s.M g.C).2, Out := 1 } = [] := vP (.inl (by show (1 : Int) ≠ 0; decide))
      have e2 : xf { g with C := (zp s.M g.C).2, Out := 1 } = [] := ZZ (.inl (by show (1 : Int) ≠ 0; decide))
      refine ⟨{ gh with F := g.Bin :: gh.F }, by rw [e1]; exact b, ?_, by rw [eo]; exact d _ _, fun h _ => hc0 h, fun y hy => (List.mem_cons.1 hy).elim (fun e => .inr (by rw [e]; unfold ui; rw [show ({ s with M := (zp s.M g.C).1 } : za).Bins = s.Bins from rfl, c5]; exact List.cons_ne_nil _ _)) .inl, [], ?_, .inl ⟨rfl, rfl⟩⟩
      · exact GX.plain (.inr rfl) hpc hmd hob (fun _ e => by cases e) (.inl (by show (1 : Int) ≠ 0; decide))
      · rw [e2, eh, zAk, XL rfl, List.append_nil]
        have : ui { s with M := (zp s.M g.C).1 } g.Bin = [g.Obj] := by unfold ui; rw [show ({ s with M := (zp s.M g.C).1 } : za).Bins = s.Bins from rfl, c5]; rfl
        rw [this]
        exact List.perm_append_comm
  rw [if_neg p7]
  by_cases p6 : g.PC = 6
  · rw [if_pos p6]
    have eo : wy g = [g.Bin] := zhf h0 (.inl p6)
    have eh : xf g = [g.Obj] := vk h0 (by omega) (by omega)
    have hb := M.b6 p6
    have hbl := X.S.bins
    intro S'
    unfold zst
    unfold zst at S'
    have e1 : wy { g with PC := 7, C := ⟨1, 0, yc s.P, zE s.P, 0#64, g.Bin, 0, 0⟩ } = [g.Bin] := zhf h0 (.inr rfl)
    have hget : ∀ b, 1 ≤ b → b ∉ wy g → (s.Bins.set g.Bin.toNat [g.Obj])[b.toNat]? = s.Bins[b.toNat]? := fun b b1 b2 => by
      rw [List.getElem?_set_ne]
      intro e
      rw [eo] at b2
      exact b2 (by rw [show b = g.Bin by omega]; simp)
    refine ⟨gh, by rw [e1, ← eo]; exact X.quiet S' rfl, ?_, FX.quiet rfl hget, fun h _ => hc0 h, fun _ h => .inl h, [], ?_, .inl ⟨rfl, rfl⟩⟩
    · refine ⟨.inl h0, ⟨by show (0 : Int) ≤ 7; decide, by show (7 : Int) ≤ 7; decide⟩, hmd, hob, fun h _ => hc0 h, fun e => absurd e (by show ¬ (7 : Int) = 5; decide), fun _ _ => ⟨rfl, ⟨by show (0 : Int) ≤ 0; decide, by show (0 : Int) ≤ 2; decide⟩, rfl, ⟨fun e => absurd e (by show ¬ (1 : Int) ≤ 0; decide), fun e => absurd e (by show ¬ (0 : Int) = 2; decide), fun e => absurd e (by show ¬ (0 : Int) = 2; decide)⟩, ?_⟩, fun e => absurd e (by show ¬ (7 : Int) = 3; decide)⟩
      show (s.Bins.set g.Bin.toNat [g.Obj])[g.Bin.toNat]? = _
      rw [List.getElem?_set_self (by omega)]
    · rw [show xf { g with PC := 7, C := ⟨1, 0, yc s.P, zE s.P, 0#64, g.Bin, 0, 0⟩ } = [g.Obj] from vk h0 (by show (3 : Int) ≤ 7; decide) (by show (7 : Int) ≤ 7; decide), eh]
      have : xJ p { s with Bins := s.Bins.set g.Bin.toNat [g.Obj] } gh = xJ p s gh := by
        unfold xJ
        congr 1
        refine YC (fun b hb => ?_)
        have hm := X.L.cF.mem b hb
        have hno := (X.L.notF (x := g.Bin) (by rw [eo]; simp)).1
        unfold ui
        rw [show ({ s with Bins := s.Bins.set g.Bin.toNat [g.Obj] } : za).Bins = s.Bins.set g.Bin.toNat [g.Obj] from rfl, hget b hm.1 (by rw [eo]; intro e; rw [List.mem_singleton.1 e] at hb; exact hno hb)]
      rw [this]; exact List.Perm.refl _
  rw [if_neg p6]
  have eo : wy g = [] := vP (.inr ⟨p6, p7⟩)
  by_cases p5 : g.PC = 5
  · rw [if_pos p5]
    obtain ⟨c1, c2, c3⟩ := G.c5 p5 h0
    obtain ⟨m1, m2, m3, m4, m5⟩ := M.c5 p5
    have eh : xf g = [g.Obj] := vk h0 (by omega) (by omega)
    intro S'
    have S' : SOk p nb { s with M := (zp s.M g.C).1 } := S'
    unfold zmS
    dsimp only
    rcases SX.popE hp X hk m1 m2 m3 c1 c2 c3 m4 S' with ⟨a, b, c, d⟩ | ⟨x, l, a, b, c, d, e⟩
    · rw [if_neg b]
      have hout := zf2 s.M c1 c2 (.inr m1)
      by_cases o2 : (zp s.M g.C).2.Out = 2
      · rw [if_pos o2]
        refine .quiet X S' a rfl rfl ?_ ?_ G.c0 (GX.ask h0 hmd hob hc0 _)
        · rw [eo]; exact vP (.inr ⟨by show (5 : Int) ≠ 6; decide, by show (5 : Int) ≠ 7; decide⟩)
        · rw [eh]; exact vk h0 (by show (3 : Int) ≤ 5; decide) (by show (5 : Int) ≤ 7; decide)
      · rw [if_neg o2]
        have hpc' : (zp s.M g.C).2.Out = 0 ∧ 0 ≤ (zp s.M g.C).2.PC ∧ (zp s.M g.C).2.PC ≤ 2 := by omega
        refine .quiet X S' a rfl rfl ?_ ?_ G.c0 ⟨.inl h0, hpc, hmd, hob, G.c0, fun _ _ => ⟨hpc'.1, hpc'.2, by rw [show ({ s with M := (zp s.M g.C).1 } : za).M = s.M from a]; exact c⟩, fun e => by have e : g.PC = 7 := e; omega, fun e => by have e : g.PC = 3 := e; omega⟩
        · rw [eo]; exact vP (.inr ⟨p6, p7⟩)
        · rw [eh]; exact vk h0 (by show (3 : Int) ≤ g.PC; omega) (by show g.PC ≤ 7; omega)
    · rw [if_pos b]
      have e1 : wy { g with PC := 6, C := (zp s.M g.C).2, Bin := (zp s.M g.C).2.X } = [x] := by rw [← c]; exact zhf (g := { g with PC := 6, C := (zp s.M g.C).2, Bin := (zp s.M g.C).2.X }) h0 (.inl rfl)
      refine ⟨{ gh with E := l }, by rw [e1]; rw [eo] at d; exact d, ?_, e _ _, fun h _ => hc0 h, fun _ h => .inl h, [], ?_, .inl ⟨rfl, rfl⟩⟩
      · exact GX.plain (.inl h0) ⟨by show (0 : Int) ≤ 6; decide, by show (6 : Int) ≤ 7; decide⟩ hmd hob (fun h _ => hc0 h) (.inr ⟨by show (6 : Int) ≠ 3; decide, by show (6 : Int) ≠ 5; decide, by show (6 : Int) ≠ 7; decide⟩)
      · rw [zAe, XL rfl, eh, show xf { g with PC := 6, C := (zp s.M g.C).2, Bin := (zp s.M g.C).2.X } = [g.Obj] from vk h0 (by show (3 : Int) ≤ 6; decide) (by show (6 : Int) ≤ 7; decide)]
        exact List.Perm.refl _
  rw [if_neg p5]
  by_cases p4 : g.PC = 4
  · rw [if_pos p4]
    intro S'
    refine .quiet X S' rfl rfl rfl ?_ ?_ G.c0 (GX.ask h0 hmd hob hc0 _)
    · rw [eo]; exact vP (.inr ⟨by show (5 : Int) ≠ 6; decide, by show (5 : Int) ≠ 7; decide⟩)
    · rw [vk h0 (by omega) (by omega)]; exact vk h0 (by show (3 : Int) ≤ 5; decide) (by show (5 : Int) ≤ 7; decide)
  rw [if_neg p4]
  by_cases p3 : g.PC = 3
  · rw [if_pos p3]
    obtain ⟨c1, c2, c3⟩ := G.d3 p3 h0
    have hw := M.who c1
    have eh : xf g = [g.Obj] := vk h0 (by omega) (by omega)
    have hdk := X.dk g.Who hw.1 hw.2
    have hlen := X.L.len
    have hE := wJ hp
    have hc00 := c3.c0
    have c3' := c3
    rw [hc00] at c3'
    have D0 := X.D g.Who hw.1 hw.2
    rw [hc00] at D0
    obtain ⟨a, b, r⟩ := zsa hp hw (by omega) D0 c3' (by omega) (by rw [c2]; omega)
    intro S'
    have S' : SOk p nb { s with M := (yS s.M g.D).1 } := S'
    unfold zm6
    dsimp only
    rcases r with ⟨r1, r2, r3⟩ | ⟨r1, r2⟩ | ⟨r1, r2⟩
    · rw [r1, if_neg (by decide), if_neg (by decide)]
      have e1 : wy { g with D := (yS s.M g.D).2 } = [] := vP (.inr ⟨p6, p7⟩)
      refine ⟨V4 gh g.Who (gh.t g.Who) (gh.D g.Who) 0, ?_, ?_, FX.own (O := zsv g) (s := s) (s' := { s with M := (yS s.M g.D).1 }) (g := gh) hp hw a rfl ⟨c1, rfl⟩ (Dv.refl _ _), fun _ _ => Zp.2.2, fun _ h => .inl h, [], ?_, .inl ⟨rfl, rfl⟩⟩
      · rw [e1]; rw [eo] at X; exact X.dq hp S' (zf7 _ _) hw a r2 (by omega)
      · refine ⟨.inl h0, hpc, hmd, hob, fun _ _ => Zp.2.2, fun e => by have e : g.PC = 5 := e; omega, fun e => by have e : g.PC = 7 := e; omega, fun _ _ => ⟨c1, b.trans c2, ?_⟩⟩
        show DK p (yS s.M g.D).1 g.Who ((V4 gh g.Who (gh.t g.Who) (gh.D g.Who) 0).t g.Who) _ _ _
        rw [Zp.1, Zp.2.1, Zp.2.2]; exact r3
      · obtain ⟨u, v, f1, f2⟩ := ztt (p := p) (s := s) (s' := { s with M := (yS s.M g.D).1 }) (g := gh) rfl hw (t := gh.t g.Who) (c := 0) (l := gh.D g.Who)
        rw [f1, f2, eh, show xf { g with D := (yS s.M g.D).2 } = [g.Obj] from vk h0 (by show (3 : Int) ≤ g.PC; omega) (by show g.PC ≤ 7; omega)]
        exact List.Perm.refl _
    · rw [r1, if_neg (by decide), if_pos rfl]
      have e1 : wy (zkG s.P { g with D := (yS s.M g.D).2 }) = [] := vP (.inr ⟨by show (5 : Int) ≠ 6; decide, by show (5 : Int) ≠ 7; decide⟩)
      refine ⟨V4 gh g.Who (gh.t g.Who) (gh.D g.Who) 0, ?_, ?_, FX.own (O := zsv g) (s := s) (s' := { s with M := (yS s.M g.D).1 }) (g := gh) hp hw a rfl ⟨c1, rfl⟩ (Dv.refl _ _), fun _ _ => Zp.2.2, fun _ h => .inl h, [], ?_, .inl ⟨rfl, rfl⟩⟩
      · rw [e1]; rw [eo] at X; exact X.dq hp S' (zf7 _ _) hw a r2 (by omega)
      · exact GX.ask (g := { g with D := (yS s.M g.D).2 }) h0 hmd hob (fun _ => Zp.2.2) _
      · obtain ⟨u, v, f1, f2⟩ := ztt (p := p) (s := s) (s' := { s with M := (yS s.M g.D).1 }) (g := gh) rfl hw (t := gh.t g.Who) (c := 0) (l := gh.D g.Who)
        rw [f1, f2, eh, show xf (zkG s.P { g with D := (yS s.M g.D).2 }) = [g.Obj] from vk h0 (by show (3 : Int) ≤ 5; decide) (by show (5 : Int) ≤ 7; decide)]
        exact List.Perm.refl _
    · rw [r1, if_pos rfl]
      have e1 : wy { g with D := (yS s.M g.D).2, Out := 1 } = [] := vP (.inl (by show (1 : Int) ≠ 0; decide))
      refine ⟨V4 gh g.Who (gh.t g.Who) (gh.D g.Who ++ [g.D.X]) 0, ?_, ?_, FX.own (O := zsv g) (s := s) (s' := { s with M := (yS s.M g.D).1 }) (g := gh) hp hw a rfl ⟨c1, rfl⟩ zyy, fun _ _ => Zp.2.2, fun _ h => .inl h, [], ?_, .inl ⟨rfl, rfl⟩⟩
      · rw [e1]; rw [eo] at X; exact X.dq hp S' (zf7 _ _) hw a r2 (by rw [List.length_append, List.length_singleton]; omega)
      · exact GX.plain (.inr rfl) hpc hmd hob (fun _ e => by cases e) (.inl (by show (1 : Int) ≠ 0; decide))
      · obtain ⟨u, v, f1, f2⟩ := ztt (p := p) (s := s) (s' := { s with M := (yS s.M g.D).1 }) (g := gh) rfl hw (t := gh.t g.Who) (c := 0) (l := gh.D g.Who ++ [g.D.X])
        rw [f1, f2, eh, show xf { g with D := (yS s.M g.D).2, Out := 1 } = [] from ZZ (.inl (by show (1 : Int) ≠ 0; decide)), c2, List.append_nil, List.nil_append]
        simp only [List.append_assoc]
        refine List.Perm.append_left _ (List.Perm.append_left _ ?_)
        exact List.perm_append_comm
  rw [if_neg p3]
  by_cases p2 : g.PC = 2
  · rw [if_pos p2]
    intro S'
    refine .quiet X S' rfl rfl rfl ?_ ?_ G.c0 (GX.plain (.inr rfl) hpc hmd hob (fun _ e => by cases e) (.inl (by show (1 : Int) ≠ 0; decide)))
    · rw [eo]; exact vP (.inl (by show (1 : Int) ≠ 0; decide))
    · rw [ZZ (g := g) (.inr (.inl (by omega)))]; exact ZZ (.inl (by show (1 : Int) ≠ 0; decide))
  rw [if_neg p2]
  by_cases p1 : g.PC = 1
  · rw [if_pos p1]
    have eh : xf g = [] := ZZ (.inr (.inl (by omega)))
    intro S'
    unfold zmQ
    unfold zmQ at S'
    dsimp only at S' ⊢
    by_cases hs : (Zl s.T g.Obj).2 = false
    · have eT : (Zl s.T g.Obj).1 = s.T := by
        unfold Zl at hs ⊢
        split at hs
        · rename_i h1; rw [if_pos h1]
        · rename_i h1
          split at hs
          · cases hs
          · rename_i h2; rw [if_neg h1, if_neg h2]
      rw [if_pos hs]
      refine .quiet X S' rfl rfl eT ?_ ?_ G.c0 (GX.plain (.inl h0) ⟨by show (0 : Int) ≤ 2; decide, by show (2 : Int) ≤ 7; decide⟩ hmd hob G.c0 (.inr ⟨by show (2 : Int) ≠ 3; decide, by show (2 : Int) ≠ 5; decide, by show (2 : Int) ≠ 7; decide⟩))
      · rw [eo]; exact vP (.inr ⟨by show (2 : Int) ≠ 6; decide, by show (2 : Int) ≠ 7; decide⟩)
      · rw [eh]; exact ZZ (.inr (.inl (by show (2 : Int) < 3; decide)))
    · have eT : ¬ (s.T.Marks ||| bit g.Obj = s.T.Marks) ∧ (Zl s.T g.Obj).1 = { s.T with Marks := s.T.Marks ||| bit g.Obj } := by
        unfold Zl at hs ⊢
        split at hs
        · exact absurd rfl hs
        · rename_i h1
          split at hs
          · rename_i h2; exact ⟨h1, by rw [if_neg h1, if_pos h2]⟩
          · exact absurd rfl hs
      rw [if_neg hs]
      have fin : ∀ g' : zA, wy g' = [] → xf g' = [g.Obj] → GX p { s with T := (Zl s.T g.Obj).1 } gh g' → zmT p nb k R gh s g { s with T := (Zl s.T g.Obj).1 } g' := fun g' a b c =>
        ⟨gh, by rw [a, ← eo]; exact X.quiet S' rfl, c, FX.quiet rfl (fun _ _ _ => rfl), fun h _ => hc0 h, fun _ h => .inl h, [g.Obj], by rw [XL rfl, b, eh, List.append_nil]; exact List.perm_append_comm, .inr ⟨rfl, eT.1, eT.2⟩⟩
      by_cases q1 : g.Mode = 1
      · rw [if_pos q1]
        have hw := M.who q1
        refine fin _ (vP (.inr ⟨by show (3 : Int) ≠ 6; decide, by show (3 : Int) ≠ 7; decide⟩)) (vk h0 (by show (3 : Int) ≤ 3; decide) (by show (3 : Int) ≤ 7; decide))
          ⟨.inl h0, ⟨by show (0 : Int) ≤ 3; decide, by show (3 : Int) ≤ 7; decide⟩, hmd, hob, G.c0, fun e => absurd e (by show ¬ (3 : Int) = 5; decide), fun e => absurd e (by show ¬ (3 : Int) = 7; decide), fun _ _ => ⟨q1, rfl, ⟨rfl, by rw [hP], by rw [hP], rfl, hc0 q1, ⟨by show (0 : Int) ≤ 0; decide, by show (0 : Int) ≤ 3; decide⟩, fun e => absurd e (by show ¬ (1 : Int) ≤ 0; decide), fun e => absurd e (by show ¬ (2 : Int) ≤ 0; decide), fun e => absurd e (by show ¬ (3 : Int) ≤ 0; decide)⟩⟩⟩
      rw [if_neg q1]
      by_cases q2 : g.Mode = 2
      · rw [if_pos q2]
        exact fin _ (vP (.inr ⟨by show (4 : Int) ≠ 6; decide, by show (4 : Int) ≠ 7; decide⟩)) (vk h0 (by show (3 : Int) ≤ 4; decide) (by show (4 : Int) ≤ 7; decide))
          (GX.plain (.inl h0) ⟨by show (0 : Int) ≤ 4; decide, by show (4 : Int) ≤ 7; decide⟩ hmd hob G.c0 (.inr ⟨by show (4 : Int) ≠ 3; decide, by show (4 : Int) ≠ 5; decide, by show (4 : Int) ≠ 7; decide⟩))
      · rw [if_neg q2]
        exact fin _ (vP (.inr ⟨by show (5 : Int) ≠ 6; decide, by show (5 : Int) ≠ 7; decide⟩)) (vk h0 (by show (3 : Int) ≤ 5; decide) (by show (5 : Int) ≤ 7; decide)) (GX.ask h0 hmd hob hc0 _)
  · rw [if_neg p1]
    intro S'
    refine .quiet X S' rfl rfl rfl ?_ ?_ G.c0 (GX.plain (.inl h0) ⟨by show (0 : Int) ≤ 1; decide, by show (1 : Int) ≤ 7; decide⟩ hmd hob G.c0 (.inr ⟨by show (1 : Int) ≠ 3; decide, by show (1 : Int) ≠ 5; decide, by show (1 : Int) ≠ 7; decide⟩))
    · rw [eo]; exact vP (.inr ⟨by show (1 : Int) ≠ 6; decide, by show (1 : Int) ≠ 7; decide⟩)
    · rw [ZZ (g := g) (.inr (.inl (by omega)))]; exact ZZ (.inr (.inl (by show (1 : Int) < 3; decide)))
end
end Go.Pe.G
namespace Go.Pe.G
open Go.Pe
noncomputable section
def zbf (x : zh) : List Int := if x.PC = 3 ∨ x.PC = 4 then [x.Bin] else if x.PC = 6 then wy x.G else []
def zeT (s : za) (x : zh) : List Int := if x.PC = 0 then zpS s.M x.D else if x.PC = 3 then ui s x.Bin else if x.PC = 5 ∨ x.PC = 8 then [x.Obj] else if x.PC = 6 then x.Obj :: xf x.G else []
def Zc (s : za) (x : zh) : List Int := x.Batch ++ zeT s x
structure WX (p : zc) (s : za) (gh : Gh) (w : Int) (x : zh) : Prop where
  c0 : x.PC ≠ 0 → gh.c w = 0
  bt : x.PC ≤ 3 → x.Batch = []
  p0 : x.PC = 0 → PK p s.M w (gh.t w) (gh.D w) (gh.c w) x.D
  p1 : x.PC = 1 → TK p s.M x.Victim (gh.t x.Victim) (gh.D x.Victim) x.D
  p2 : x.PC = 2 → x.C.Out = 0 ∧ (0 ≤ x.C.PC ∧ x.C.PC ≤ 2) ∧ CK p s.M x.C
  p4 : x.PC = 4 → x.C.Out = 0 ∧ (0 ≤ x.C.PC ∧ x.C.PC ≤ 2) ∧ x.C.X = x.Bin ∧ CK p s.M x.C
  p6 : x.PC = 6 → GX p s gh x.G ∧ x.G.Mode = 1 ∧ x.G.Who = w ∧ x.G.Out = 0
theorem WX.plain {p : zc} {s : za} {gh : Gh} {w : Int} {x : zh} (h : x.PC = 5 ∨ x.PC = 7 ∨ x.PC = 8 ∨ x.PC = 9) (c : gh.c w = 0) : WX p s gh w x :=
  ⟨fun _ => c, fun e => by omega, fun e => by omega, fun e => by omega, fun e => by omega, fun e => by omega, fun e => by omega⟩
theorem CK.start {p : zc} {m : List (BitVec 64)} {k h x : Int} : CK p m ⟨k, 0, h, zE p, 0#64, x, 0, 0⟩ :=
  ⟨fun e => absurd e (by show ¬ (1 : Int) ≤ 0; decide), fun e => absurd e (by show ¬ (0 : Int) = 2; decide), fun e => absurd e (by show ¬ (0 : Int) = 2; decide)⟩
theorem WX.begin {p : zc} {s : za} {gh : Gh} {w : Int} {x : zh} (c : gh.c w = 0) (hb : x.Batch = []) : WX p s gh w (zmj p w x) := by
  refine ⟨fun e => absurd rfl e, fun _ => hb, fun _ => ⟨rfl, rfl, rfl, rfl, ⟨by show (0 : Int) ≤ 0; decide, by show (0 : Int) ≤ 6; decide⟩, fun _ => c, ?_, ?_, ?_, ?_, ?_, ?_, ?_, ?_⟩, fun e => (by cases e), fun e => (by cases e), fun e => (by cases e), fun e => (by cases e)⟩
  all_goals (intro e; first | (exact absurd e (by show ¬ ((0 : Int) = 2 ∨ (4 : Int) ≤ 0); decide)) | (exact absurd e (by show ¬ (0 : Int) = 3; decide)) | (exact absurd e (by show ¬ (0 : Int) = 4; decide)) | (exact absurd e (by show ¬ ((0 : Int) = 3 ∨ (0 : Int) = 4); decide)) | (exact absurd e (by show ¬ (5 : Int) ≤ 0; decide)) | skip)
  rcases e with e | e | e | e
  · exact absurd e (by show ¬ (0 : Int) = 1; decide)
  · exact absurd e (by show ¬ (0 : Int) = 2; decide)
  · exact absurd e (by show ¬ (4 : Int) ≤ 0; decide)
  · exact absurd e.1 (by show ¬ (0 : Int) = 3; decide)
theorem zwc {p : zc} {s : za} {w : Int} {x : zh} : zeT s (zmj p w x) = [] := by
  unfold zeT
  rw [if_pos (show (zmj p w x).PC = 0 from rfl)]
  exact zus (.inl (by show (0 : Int) ≠ 3; decide)) (by show (0 : Int) ≠ 6; decide)
theorem WX.look {p : zc} {s : za} {gh : Gh} {w : Int} {x : zh} (c : gh.c w = 0) (hb : x.Batch = []) : WX p s gh w (zm8 p w x) ∧ zeT s (zm8 p w x) = [] ∧ zbf (zm8 p w x) = [] := by
  unfold zm8
  split
  · refine ⟨⟨fun _ => c, fun _ => hb, fun e => (by cases e), fun e => (by cases e), fun _ => ⟨rfl, ⟨by show (0 : Int) ≤ 0; decide, by show (0 : Int) ≤ 2; decide⟩, CK.start⟩, fun e => (by cases e), fun e => (by cases e)⟩, ?_, ?_⟩
    · unfold zeT; rw [if_neg (by show ¬ (2 : Int) = 0; decide), if_neg (by show ¬ (2 : Int) = 3; decide), if_neg (by show ¬ ((2 : Int) = 5 ∨ (2 : Int) = 8); decide), if_neg (by show ¬ (2 : Int) = 6; decide)]
    · unfold zbf; rw [if_neg (by show ¬ ((2 : Int) = 3 ∨ (2 : Int) = 4); decide), if_neg (by show ¬ (2 : Int) = 6; decide)]
  · refine ⟨⟨fun _ => c, fun _ => hb, fun e => (by cases e), fun _ => ⟨rfl, rfl, rfl, rfl, ⟨by show (0 : Int) ≤ 0; decide, by show (0 : Int) ≤ 3; decide⟩, fun e => absurd e (by show ¬ (1 : Int) ≤ 0; decide), fun e => absurd e (by show ¬ (2 : Int) ≤ 0; decide), fun e => absurd e (by show ¬ (0 : Int) = 3; decide)⟩, fun e => (by cases e), fun e => (by cases e), fun e => (by cases e)⟩, ?_, ?_⟩
    · unfold zeT; rw [if_neg (by show ¬ (1 : Int) = 0; decide), if_neg (by show ¬ (1 : Int) = 3; decide), if_neg (by show ¬ ((1 : Int) = 5 ∨ (1 : Int) = 8); decide), if_neg (by show ¬ (1 : Int) = 6; decide)]
    · unfold zbf; rw [if_neg (by show ¬ ((1 : Int) = 3 ∨ (1 : Int) = 4); decide), if_neg (by show ¬ (1 : Int) = 6; decide)]
theorem WX.other {p : zc} (hp : zG p) {nb k : Nat} {s s' : za} {gh gh' : Gh} {X R : List Int} {O : Int → Prop} {w : Int} {x : zh} (hw : 1 ≤ w ∧ w ≤ p.Workers) (Y : SX p nb s gh (X ++ R) k) (Fx : FX p nb X O s s' gh gh') (K : WX p s gh w x) (W : WOk p nb w x)
    (hR : ∀ b ∈ zbf x, b ∈ R) (apart : ¬ O w) : WX p s' gh' w x ∧ Zc s' x = Zc s x := by
  have hsub : ∀ b ∈ X, b ∈ X ++ R := fun b hb => List.mem_append_left _ hb
  have hnd := (List.nodup_append.1 Y.L.nodup).2.1
  have hnot : ∀ b, b ∈ zbf x → b ∉ X := fun b hb hg => (List.nodup_append.1 hnd).2.2 b hg b (hR b hb) rfl
  have hc : gh'.c w = gh.c w := by
    rcases Fx.dq w hw.1 hw.2 with h | h
    · cases h with
      | same e1 e2 e3 e4 => exact e3
      | stolen y e1 e2 e3 e4 => exact e3
    · exact absurd h.1 apart
  have hcell : ∀ a, yq p w < a → a < yq p w + p.Cap + 2 → ld s'.M a = ld s.M a := by
    rcases Fx.dq w hw.1 hw.2 with h | h
    · cases h with
      | same e1 e2 e3 e4 => exact fun a h1 h2 => e4 a (by omega) h2
      | stolen y e1 e2 e3 e4 => exact e4
    · exact absurd h.1 apart
  refine ⟨⟨fun e => hc.trans (K.c0 e), K.bt, fun e => Fx.pk hp hw.1 hw.2 apart (K.p0 e), fun e => Fx.tk W.vic.1 W.vic.2 (K.p1 e), fun e => ?_, fun e => ?_, fun e => ?_⟩, ?_⟩
  · obtain ⟨a, b, c⟩ := K.p2 e
    have C := W.c2 e
    exact ⟨a, b, c.mv Y.L Fx.mv hsub (.inl C.h) (fun h _ => C.v h) (fun e2 => by have := C.k; omega)⟩
  · obtain ⟨a, b, c, d⟩ := K.p4 e
    have C := W.c4 e
    have hno := hnot x.Bin (by unfold zbf; rw [if_pos (.inr e)]; simp)
    exact ⟨a, b, c, d.mv Y.L Fx.mv hsub (.inr C.h) (fun _ e2 => by have := C.k; omega) (fun _ => ⟨C.x.1, C.x.2, by rw [c]; exact hno⟩)⟩
  · obtain ⟨a, b, c, d⟩ := K.p6 e
    have M := (W.g6 e).1
    refine ⟨a.other hp Y Fx M (fun y hy => hR y ?_) (fun _ => by rw [c]; exact apart), b, c, d⟩
    unfold zbf; rw [if_neg (by omega), if_pos e]; exact hy
  · unfold Zc zeT
    congr 1
    by_cases e0 : x.PC = 0
    · rw [if_pos e0, if_pos e0]
      have P := K.p0 e0
      unfold zpS
      have hpl := (zoB hp hw.1 hw.2 P.base P.size (x.D.B - 1#64)).2
      rw [hcell _ (by rw [P.base] at hpl; omega) (by rw [P.base] at hpl; omega)]
    · rw [if_neg e0, if_neg e0]
      by_cases e3 : x.PC = 3
      · rw [if_pos e3, if_pos e3]
        have hb := W.b3 e3
        have hno := hnot x.Bin (by unfold zbf; rw [if_pos (.inl e3)]; simp)
        unfold ui
        rw [Fx.bn x.Bin hb.1 hno]
      · rw [if_neg e3, if_neg e3]
theorem zxQ (s : za) (b : Int) : zcl s b = ui s b := by unfold zcl ui; rw [List.getD_eq_getElem?_getD]
theorem FX.mono {p : zc} {nb : Nat} {X : List Int} {O O' : Int → Prop} {s s' : za} {g g' : Gh} (h : FX p nb X O s s' g g') (i : ∀ v, O v → O' v) : FX p nb X O' s s' g g' :=
  ⟨h.mv, h.bn, fun v a b => (h.dq v a b).imp id (fun e => ⟨i v e.1, e.2⟩)⟩
theorem zyO {x : zh} (h3 : x.PC ≠ 3) (h4 : x.PC ≠ 4) (h6 : x.PC ≠ 6) : zbf x = [] := by unfold zbf; rw [if_neg (by omega), if_neg h6]
theorem zxk {s : za} {x : zh} (h : x.PC = 5 ∨ x.PC = 8) : zeT s x = [x.Obj] := by unfold zeT; rw [if_neg (by omega), if_neg (by omega), if_pos h]
theorem zzX {s : za} {x : zh} (h : x.PC = 6) : zeT s x = x.Obj :: xf x.G := by unfold zeT; rw [if_neg (by omega), if_neg (by omega), if_neg (by omega), if_pos h]
end
end Go.Pe.G
