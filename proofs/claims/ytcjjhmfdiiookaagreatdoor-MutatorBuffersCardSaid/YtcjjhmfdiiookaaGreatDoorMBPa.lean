/- Own work of this seat: PA, PB, PMk, PMade16, PRight, PNew, PInv, PNewOk, PSmall, PSame, PGo, PDq, PWork, PMut, PEng, PLowEq, PMutEq, PFrame, PText, PHeapSame, PLaw16. -/
import Derived.Test.YtcjjhmfdiiookaaGreatDoorMBGb
set_option linter.unusedVariables false
set_option linter.unusedSimpArgs false
set_option linter.unnecessarySimpa false
set_option linter.unusedSectionVars false
set_option linter.deprecated false
set_option maxRecDepth 20000
namespace Go.Pe.G
open Go.Pe
noncomputable section
theorem vw {A B D : Type} {f : A → Option (xf A B D)} (Inv : A → Prop) (ms : A → Nat) (Q : xf Unit B D → Prop)
    (h : ∀ a, Inv a → ∃ o, f a = some o ∧ match o with
      | .again a' => Inv a' ∧ ms a' < ms a
      | .brk b => Q (.brk b)
      | .ret c => Q (.ret c)) : ∀ a, Inv a → ms a < Yj → ∃ o, yD f a = some o ∧ Q o := by
  have key : ∀ (n : Nat) a, Inv a → ms a < n → ∃ o, uk f n a = some o ∧ Q o := by
    intro n
    induction n with
    | zero => intro a _ h; omega
    | succ n ih =>
      intro a ha hm
      obtain ⟨o, ho, hq⟩ := h a ha
      simp only [uk, ho, Option.bind_some]
      cases o with
      | again a' => exact ih a' hq.1 (by have := hq.2; omega)
      | brk b => exact ⟨_, rfl, hq⟩
      | ret c => exact ⟨_, rfl, hq⟩
  intro a ha hm
  rw [VF]
  exact key Yj a ha hm
theorem wy {n : Nat} (h : n < 18446744073709551616) : n < Yj := h
theorem yh {a : Int} (h : -9223372036854775808 ≤ a) (h2 : a < 9223372036854775808) : w64 a = a := by
  rw [zh7]; omega
def wc (n : Int) : Int := (n + 9223372036854775808) % 18446744073709551616 - 9223372036854775808
theorem xm : w64 = wc := funext zh7
theorem YF {a : Int} (h : -9223372036854775808 ≤ a) (h2 : a < 9223372036854775808) : wc a = a := by unfold wc; omega
theorem zwL (a : Int) (h : -9223372036854775808 ≤ a) (h2 : a < 9223372036854775808) : w64 (w64 (a + 1) - 1) = a := by
  simp only [zh7]; omega
theorem zm {α : Type} (p : Prop) [Decidable p] (a b : α) : (bif decide p then a else b) = if p then a else b := by
  by_cases h : p <;> simp [h]
theorem zZ {α : Type} (p : Prop) [Decidable p] (a b : α) : (bif !(decide p) then a else b) = if p then b else a := by
  by_cases h : p <;> simp [h]
theorem wn {α : Type} {l : List α} (h : l.length < 4294967296) : wj l = some l := by
  rw [zqA]; simp [h]
theorem wS {α : Type} {l : List α} {i : Int} (h : 0 ≤ i) : idx l i = l[i.toNat]? := by
  unfold idx; simp [h]
theorem u5 {α : Type} {l : List α} {i : Int} (h : 0 ≤ i) (h2 : i < l.length) : xT l i = some i.toNat := by
  unfold xT; simp [h, h2]
def bit (o : Int) : BitVec 64 := if 1 ≤ o ∧ o ≤ 64 then 1#64 <<< (o - 1).toNat else 0#64
theorem zsz (a : Int) : zgY a = some (bit a, ()) := by
  rw [zrw]
  simp only [zm]
  unfold bit
  by_cases h1 : a < 1
  · rw [if_pos h1, if_neg (by omega)]
  · rw [if_neg h1]
    by_cases h2 : 64 < a
    · rw [if_pos h2, if_neg (by omega)]
    · rw [if_neg h2, yh (a := a - 1) (by omega) (by omega), if_neg (show ¬ a - 1 < 0 by omega), if_pos (show 1 ≤ a ∧ a ≤ 64 by omega), Nat.min_eq_left (by omega)]
theorem zoZ (s : BitVec 64) (o : Int) : zcQ s o = some (!(decide (s &&& bit o = 0#64)), ()) := by
  rw [zqN, zsz]; rfl
theorem zkW (s : BitVec 64) (o : Int) : zaj s o = some (s ||| bit o, ()) := by
  rw [zrt, zsz]; rfl
def zeG (t : zr) (o : Int) : zr × Bool :=
  if t.Marks ||| bit o = t.Marks then (t, false) else if t.Black &&& bit o = 0#64 then ({ t with Marks := t.Marks ||| bit o }, true) else (t, false)
theorem zmO (t : zr) (o : Int) : zbi t o = some ((zeG t o).1, (zeG t o).2, ()) := by
  rw [zmK, zkW, Option.bind_some, zm]
  unfold zeG
  by_cases h1 : t.Marks ||| bit o = t.Marks
  · rw [if_pos h1, if_pos h1]
  · rw [if_neg h1, if_neg h1, zoZ, Option.bind_some, zZ]
    by_cases h2 : t.Black &&& bit o = 0#64
    · rw [if_pos h2, if_pos h2]
    · rw [if_neg h2, if_neg h2]
theorem zpi {m : List (BitVec 64)} (h : m.length < 4294967296) : y0 m = some (m, ()) := by
  rw [U4, List.nil_append, wn h, Option.bind_some]
  cases m with
  | nil => simp [zgS]
  | cons a l => simp
theorem ziP {m : List (List Int)} (h : m.length < 4294967296) : wU m = some (m, ()) := by
  rw [zb4, List.nil_append, wn h, Option.bind_some]
  cases m with
  | nil => simp [zgS]
  | cons a l => simp
def ld (m : List (BitVec 64)) (a : Int) : BitVec 64 := if 0 ≤ a then m.getD a.toNat 0#64 else 0#64
def st (m : List (BitVec 64)) (a : Int) (v : BitVec 64) : List (BitVec 64) := if 0 ≤ a then m.set a.toNat v else m
def sw (m : List (BitVec 64)) (at_ : Int) (a b : BitVec 64) : List (BitVec 64) × Bool :=
  if 0 ≤ at_ ∧ at_ < m.length ∧ ld m at_ = a then (st m at_ b, true) else (m, false)
theorem zqx {m : List (BitVec 64)} {a : Int} (h : 0 ≤ a) (h2 : a < m.length) : m[a.toNat]? = some (ld m a) := by
  unfold ld
  rw [if_pos h, List.getD_eq_getElem?_getD, List.getElem?_eq_getElem (by omega)]; rfl
theorem zsf {m : List (BitVec 64)} {a : Int} : st m a (ld m a) = m := by
  unfold st ld
  by_cases h : 0 ≤ a
  · rw [if_pos h, if_pos h]
    by_cases h2 : a.toNat < m.length
    · rw [List.getD_eq_getElem?_getD, List.getElem?_eq_getElem h2]; simp
    · rw [List.set_eq_of_length_le (by omega)]
  · rw [if_neg h]
theorem ztD {m : List (BitVec 64)} {a : Int} (h : a < 0 ∨ m.length ≤ a) : ld m a = 0#64 := by
  unfold ld
  rcases h with h | h
  · rw [if_neg (by omega)]
  · split
    · rw [List.getD_eq_getElem?_getD, List.getElem?_eq_none (by omega)]; rfl
    · rfl
theorem zuv {m : List (BitVec 64)} {a : Int} {v : BitVec 64} (h : a < 0 ∨ m.length ≤ a) : st m a v = m := by
  unfold st
  rcases h with h | h
  · rw [if_neg (by omega)]
  · split
    · rw [List.set_eq_of_length_le (by omega)]
    · rfl
theorem zsu (m : List (BitVec 64)) (a : Int) (x y : BitVec 64) : ∃ b, Yg m ⟨1, a, x, y⟩ = some (m, ld m a, b, ()) := by
  rw [zhw]
  simp only [zm, if_true]
  by_cases h1 : a < 0
  · rw [if_pos h1, ztD (.inl h1)]; exact ⟨_, rfl⟩
  · rw [if_neg h1]
    by_cases h2 : (m.length : Int) ≤ a
    · rw [if_pos h2, ztD (.inr h2)]; exact ⟨_, rfl⟩
    · rw [if_neg h2, wS (by omega), zqx (by omega) (by omega), Option.bind_some, zpF, Option.bind_some]
      simp
theorem zq1 {m : List (BitVec 64)} (hm : m.length < 4294967296) (a : Int) (x y : BitVec 64) : ∃ v b, Yg m ⟨2, a, x, y⟩ = some (st m a x, v, b, ()) := by
  rw [zhw]
  simp only [zm, if_true, if_neg (show ¬ (2 : Int) = 1 by omega)]
  by_cases h1 : a < 0
  · rw [if_pos h1, zuv (.inl h1)]; exact ⟨_, _, rfl⟩
  · rw [if_neg h1]
    by_cases h2 : (m.length : Int) ≤ a
    · rw [if_pos h2, zuv (.inr h2)]; exact ⟨_, _, rfl⟩
    · rw [if_neg h2, wS (by omega), zqx (by omega) (by omega), Option.bind_some, zpB, Option.bind_some, cond_true, zZ]
      by_cases h3 : ld m a = x
      · rw [if_pos h3]
        subst h3
        rw [zsf]; exact ⟨_, _, rfl⟩
      · rw [if_neg h3, zpi hm, Option.bind_some, u5 (l := m) (by omega) (by omega), Option.bind_some]
        unfold st
        rw [if_pos (by omega)]
        exact ⟨_, _, rfl⟩
theorem zo3 {m : List (BitVec 64)} (hm : m.length < 4294967296) (a : Int) (x y : BitVec 64) : ∃ v, Yg m ⟨3, a, x, y⟩ = some ((sw m a x y).1, v, (sw m a x y).2, ()) := by
  rw [zhw]
  simp only [zm, if_true, if_neg (show ¬ (3 : Int) = 1 by omega), if_neg (show ¬ (3 : Int) = 2 by omega)]
  by_cases h1 : a < 0
  · rw [if_pos h1]
    have : sw m a x y = (m, false) := by unfold sw; rw [if_neg (by omega)]
    rw [this]; exact ⟨_, rfl⟩
  · rw [if_neg h1]
    by_cases h2 : (m.length : Int) ≤ a
    · rw [if_pos h2]
      have : sw m a x y = (m, false) := by unfold sw; rw [if_neg (by omega)]
      rw [this]; exact ⟨_, rfl⟩
    · rw [if_neg h2, wS (by omega), zqx (by omega) (by omega), Option.bind_some, zpM, Option.bind_some]
      simp only [zm]
      by_cases h3 : ld m a = x
      · have : sw m a x y = (st m a y, true) := by unfold sw; rw [if_pos ⟨by omega, by omega, h3⟩]
        rw [if_pos h3, this, zZ]
        by_cases h4 : ld m a = y
        · rw [if_pos h4]
          have : st m a y = m := by rw [← h4, zsf]
          rw [this]
          simp [h3]
        · rw [if_neg h4, zpi hm, Option.bind_some, u5 (l := m) (by omega) (by omega), Option.bind_some]
          unfold st
          rw [if_pos (by omega)]
          simp [h3]
      · have : sw m a x y = (m, false) := by unfold sw; rw [if_neg (by rintro ⟨_, _, h⟩; exact h3 h)]
        rw [if_neg h3, this]
        simp [h3]
theorem zmE (m : List (BitVec 64)) (a : Int) : zaS m a = some (ld m a, ()) := by
  obtain ⟨b, h⟩ := zsu m a 0#64 0#64
  rw [zm2, h]; rfl
theorem UE {m : List (BitVec 64)} (hm : m.length < 4294967296) (a : Int) (x : BitVec 64) : ZD m a x = some (st m a x, ()) := by
  obtain ⟨v, b, h⟩ := zq1 hm a x 0#64
  rw [zlY, h]; rfl
theorem Xk (m : List (BitVec 64)) (a : Int) : uC m a = some (ld m a, ()) := by
  obtain ⟨b, h⟩ := zsu m a 0#64 0#64
  rw [znG, h]; rfl
theorem UI {m : List (BitVec 64)} (hm : m.length < 4294967296) (a : Int) (x : BitVec 64) : ZI m a x = some (st m a x, ()) := by
  obtain ⟨v, b, h⟩ := zq1 hm a x 0#64
  rw [zlV, h]; rfl
def yQ (h : BitVec 64) : Int := (h &&& 4294967295#64).toInt
def XR (v : BitVec 64) (n : Int) : BitVec 64 := (v <<< 32) ||| (BitVec.ofInt 64 n &&& 4294967295#64)
theorem zep (h : BitVec 64) : Ye h = some (yQ h, ()) := zm9 h
theorem zee (v : BitVec 64) (n : Int) : Wf v n = some (XR v n, ()) := zm3 v n
def zX (m : List (BitVec 64)) (c : zA) : List (BitVec 64) × zA :=
  if c.Out ≠ 0 ∨ (c.Kind ≠ 1 ∧ c.Kind ≠ 2) ∨ c.PC < 0 ∨ 3 ≤ c.PC then (m, c)
  else if c.PC = 0 then
    (m, if c.Kind = 2 ∧ yQ (ld m c.Head) = 0 then { c with H := ld m c.Head, Out := 2, PC := 1 } else { c with H := ld m c.Head, PC := 1 })
  else if c.PC = 1 then
    if c.Kind = 2 then (m, { c with Y := (ld m (wc (c.Next + yQ c.H))).toInt, PC := 2 })
    else (st m (wc (c.Next + c.X)) (BitVec.ofInt 64 (yQ c.H)), { c with PC := 2 })
  else
    let r := sw m c.Head c.H (XR ((c.H >>> 32) + 1#64) (if c.Kind = 2 then c.Y else c.X))
    (r.1, if r.2 then (if c.Kind = 2 then { c with X := yQ c.H, Out := 1, PC := 3 } else { c with Out := 1, PC := 3 }) else { c with PC := 0 })
theorem zev {m : List (BitVec 64)} (hm : m.length < 4294967296) (c : zA) : X3 m c = some ((zX m c).1, (zX m c).2, ()) := by
  have hsee : wM m c = some (m, (if c.Kind = 2 ∧ yQ (ld m c.Head) = 0 then { c with H := ld m c.Head, Out := 2 } else { c with H := ld m c.Head }), ()) := by
    rw [zew, zmE, Option.bind_some, zep, Option.bind_some, zm, zm]
    by_cases h1 : c.Kind = 2
    · by_cases h2 : yQ (ld m c.Head) = 0
      · rw [if_pos h1, if_pos h2, if_pos ⟨h1, h2⟩]
      · rw [if_pos h1, if_neg h2, if_neg (fun h => h2 h.2)]
    · rw [if_neg h1, if_neg (fun h => h1 h.1)]
  have hlink : ZZ m c = some (st m (wc (c.Next + c.X)) (BitVec.ofInt 64 (yQ c.H)), ()) := by
    rw [zgl, xm, zep, Option.bind_some, UE hm]; rfl
  have hbeh : ui m c = some (m, { c with Y := (ld m (wc (c.Next + yQ c.H))).toInt }, ()) := by
    rw [zck, xm, zep, Option.bind_some, zmE]; rfl
  have hswap : ww m c = some ((sw m c.Head c.H (XR ((c.H >>> 32) + 1#64) (if c.Kind = 2 then c.Y else c.X))).1,
      (if (sw m c.Head c.H (XR ((c.H >>> 32) + 1#64) (if c.Kind = 2 then c.Y else c.X))).2 then (if c.Kind = 2 then { c with X := yQ c.H, Out := 1 } else { c with Out := 1 }) else { c with PC := -1 }), ()) := by
    rw [zdK, zm]
    by_cases h1 : c.Kind = 2
    · rw [if_pos h1, zee, Option.bind_some]
      obtain ⟨v, hv⟩ := zo3 hm c.Head c.H (XR ((c.H >>> 32) + 1#64) c.Y)
      simp only [if_pos h1]
      rw [hv, Option.bind_some]
      cases hs : (sw m c.Head c.H (XR ((c.H >>> 32) + 1#64) c.Y)).2 with
      | true => simp [hs, h1, zep]
      | false => simp [hs]
    · rw [if_neg h1, zee, Option.bind_some]
      obtain ⟨v, hv⟩ := zo3 hm c.Head c.H (XR ((c.H >>> 32) + 1#64) c.X)
      simp only [if_neg h1]
      rw [hv, Option.bind_some]
      cases hs : (sw m c.Head c.H (XR ((c.H >>> 32) + 1#64) c.X)).2 with
      | true => simp [hs, h1]
      | false => simp [hs]
  rw [zmZ, hsee, hlink, hbeh, hswap]
  simp only [zm, zZ, Option.bind_some]
  unfold zX
  by_cases h0 : c.Out = 0
  · by_cases hp0 : c.PC < 0
    · have : (c.Out ≠ 0 ∨ (c.Kind ≠ 1 ∧ c.Kind ≠ 2) ∨ c.PC < 0 ∨ 3 ≤ c.PC) := .inr (.inr (.inl hp0))
      rw [if_pos this]
      simp [h0, hp0]
    · by_cases hp3 : 3 ≤ c.PC
      · have : (c.Out ≠ 0 ∨ (c.Kind ≠ 1 ∧ c.Kind ≠ 2) ∨ c.PC < 0 ∨ 3 ≤ c.PC) := .inr (.inr (.inr hp3))
        rw [if_pos this]
        simp [h0, hp3]
      · by_cases hk : c.Kind = 1 ∨ c.Kind = 2
        · have : ¬ (c.Out ≠ 0 ∨ (c.Kind ≠ 1 ∧ c.Kind ≠ 2) ∨ c.PC < 0 ∨ 3 ≤ c.PC) := by
            rintro (h | h | h | h)
            · exact h h0
            · omega
            · exact hp0 h
            · exact hp3 h
          rw [if_neg this]
          have hpc : c.PC = 0 ∨ c.PC = 1 ∨ c.PC = 2 := by omega
          have w1 : w64 1 = 1 := yh (by omega) (by omega)
          have w2 : w64 2 = 2 := yh (by omega) (by omega)
          have w3 : w64 3 = 3 := yh (by omega) (by omega)
          have w4 : w64 0 = 0 := yh (by omega) (by omega)
          rcases hk with hk | hk <;> rcases hpc with hpc | hpc | hpc <;> simp [h0, hk, hpc, w1, w2, w3, w4] <;> (try split) <;> simp [hpc, w1, w3, w4]
        · have : (c.Out ≠ 0 ∨ (c.Kind ≠ 1 ∧ c.Kind ≠ 2) ∨ c.PC < 0 ∨ 3 ≤ c.PC) := .inr (.inl (by omega))
          rw [if_pos this]
          have k1 : ¬ c.Kind = 1 := by omega
          have k2 : ¬ c.Kind = 2 := by omega
          simp [h0, k1, k2]
  · have : (c.Out ≠ 0 ∨ (c.Kind ≠ 1 ∧ c.Kind ≠ 2) ∨ c.PC < 0 ∨ 3 ≤ c.PC) := .inl h0
    rw [if_pos this]
    simp [h0]
end
end Go.Pe.G
namespace Go.Pe.G
open Go.Pe
noncomputable section
def VP (d : zh) : BitVec 64 := BitVec.ofInt 64 (if d.Cap < 1 then 1 else d.Cap)
def zaY (d : zh) (i : BitVec 64) : Int := wc (wc (d.Base + 2) + (i % VP d).toInt)
def uY (m : List (BitVec 64)) (d : zh) : List (BitVec 64) × zh :=
  if d.Out ≠ 0 ∨ d.PC < 0 ∨ 4 ≤ d.PC then (m, d)
  else if d.PC = 0 then (m, { d with B := ld m (wc (d.Base + 1)), PC := 1 })
  else if d.PC = 1 then (m, if VP d ≤ d.B - ld m d.Base then { d with T := ld m d.Base, Out := 3, PC := 2 } else { d with T := ld m d.Base, PC := 2 })
  else if d.PC = 2 then (st m (zaY d d.B) (BitVec.ofInt 64 d.X), { d with PC := 3 })
  else (st m (wc (d.Base + 1)) (d.B + 1#64), { d with Out := 1, PC := 4 })
theorem zqL : w64 0 = 0 ∧ w64 1 = 1 ∧ w64 2 = 2 ∧ w64 3 = 3 ∧ w64 4 = 4 := by
  refine ⟨?_, ?_, ?_, ?_, ?_⟩ <;> exact yh (by omega) (by omega)
theorem ztA {d : zh} (h : d.Cap < 1000) : VP d ≠ 0#64 := by
  unfold VP
  intro e
  have := congrArg BitVec.toNat e
  rw [BitVec.toNat_ofInt] at this
  split at this <;> simp at this <;> omega
theorem zmH (d : zh) : Z7 d = some (VP d, ()) := by
  rw [zgb]; unfold VP; rw [zm]
theorem zg7 {d : zh} (h : d.Cap < 1000) (i : BitVec 64) : ue i d = some (zaY d i, ()) := by
  rw [zfp, xm, zmH, Option.bind_some, zm, if_neg (ztA h)]; rfl
theorem zgR {m : List (BitVec 64)} (hm : m.length < 4294967296) {d : zh} (hk : d.Kind = 1) (hc : d.Cap < 1000) : za3 m d = some ((uY m d).1, (uY m d).2, ()) := by
  obtain ⟨w0, w1, w2, w3, w4⟩ := zqL
  have h0 : wp m d = some (m, { d with B := ld m (wc (d.Base + 1)) }, ()) := by
    rw [YL, xg, xm, Option.bind_some, Xk]; rfl
  have h1 : YR m d = some (m, (if VP d ≤ d.B - ld m d.Base then { d with T := ld m d.Base, Out := 3 } else { d with T := ld m d.Base }), ()) := by
    rw [zdE, Zf, Option.bind_some, Xk, Option.bind_some, zmH, Option.bind_some, zm]
    have e : VP { d with T := ld m d.Base } = VP d := rfl
    simp only [e]
    by_cases h : VP d ≤ d.B - ld m d.Base
    · rw [if_pos h, if_pos h, xX]
      simp [hk]
    · rw [if_neg h, if_neg h]
  have h2 : Vc m d = some (st m (zaY d d.B) (BitVec.ofInt 64 d.X), ()) := by
    rw [zg9, zg7 hc, Option.bind_some, UI hm]; rfl
  have h3 : ZE m d = some (st m (wc (d.Base + 1)) (d.B + 1#64), { d with Out := 1 }, ()) := by
    rw [zbt, xX]
    simp only [decide_true, Bool.not_true, cond_false, Option.bind_some, xg, xm]
    rw [UI hm]; rfl
  rw [zgr, h0, h1, h2, h3, zdR]
  simp only [hk, decide_true, cond_true, Option.bind_some, zZ, zm]
  have key : ∀ (x : Option (List (BitVec 64) × zh × Unit)) (v : List (BitVec 64) × zh × Unit) (y : Option (List (BitVec 64) × zh × Unit)), x = some v → Option.or x y = some v := by
    rintro _ v y rfl; rfl
  apply key
  unfold uY
  by_cases g0 : d.Out = 0
  · by_cases g1 : d.PC < 0
    · simp [g0, g1]
    · by_cases g2 : 4 ≤ d.PC
      · simp [g0, g2]
      · have hpc : d.PC = 0 ∨ d.PC = 1 ∨ d.PC = 2 ∨ d.PC = 3 := by omega
        rcases hpc with h | h | h | h <;> simp [g0, h, hk, w1, w2, w3, w4] <;> (try split) <;> simp [h, hk, w2]
  · simp [g0]
def vq (p : zd) : Int := wc (p.Workers * wc (p.Cap + 2))
def yO (p : zd) : Int := wc (vq p + 1)
def ZJ (p : zd) (w : Int) : Int := wc (wc (w - 1) * wc (p.Cap + 2))
theorem zeC (p : zd) : XS p = some (vq p, ()) := by rw [znf, xm]; rfl
theorem zcz (p : zd) : YZ p = some (yO p, ()) := by rw [zlT, xm, zeC]; rfl
theorem zdU (p : zd) : Yh p = some (yO p, ()) := by rw [zmM, zcz]; rfl
theorem zlw (p : zd) (w : Int) : UN p w = some (ZJ p w, ()) := by rw [zmc, xm]; rfl
def zog (p : zd) (g : zC) : zC := { g with PC := 5, C := ⟨2, 0, yO p, yO p, 0#64, 0, 0, 0⟩ }
theorem ziC (a : zw) : wZ a = some (⟨zog a.s.P a.Grey, a.s⟩, ()) := by
  rw [ze7, zcz, Option.bind_some, zdU, Option.bind_some, UU]; rfl
def znV (s : zc) (g : zC) : zc × zC :=
  let t := zeG s.T g.Obj
  ({ s with T := t.1 },
    if t.2 = false then { g with PC := 2 }
    else if g.Mode = 1 then { g with PC := 3, D := ⟨1, 0, ZJ s.P g.Who, s.P.Cap, 0#64, 0#64, g.Obj, 0⟩ }
    else if g.Mode = 2 then { g with PC := 4 }
    else zog s.P g)
def zkT (s : zc) (g : zC) : zc × zC :=
  let r := uY s.M g.D
  ({ s with M := r.1 }, if r.2.Out = 1 then { g with D := r.2, Out := 1 } else if r.2.Out = 3 then zog s.P { g with D := r.2 } else { g with D := r.2 })
def zkQ (s : zc) (g : zC) : zc × zC :=
  let r := zX s.M g.C
  ({ s with M := r.1 }, if r.2.Out = 1 then { g with PC := 6, C := r.2, Bin := r.2.X } else if r.2.Out = 2 then zog s.P { g with C := r.2 } else { g with C := r.2 })
def zvv (s : zc) (g : zC) : zc × zC :=
  ({ s with Bins := s.Bins.set g.Bin.toNat [g.Obj] }, { g with PC := 7, C := ⟨1, 0, vq s.P, yO s.P, 0#64, g.Bin, 0, 0⟩ })
def ze8 (s : zc) (g : zC) : zc × zC :=
  let r := zX s.M g.C
  ({ s with M := r.1 }, if r.2.Out = 1 then { g with C := r.2, Out := 1 } else { g with C := r.2 })
def zG (s : zc) (g : zC) : zc × zC :=
  if g.Out ≠ 0 ∨ g.Mode < 1 ∨ 3 < g.Mode ∨ g.PC < 0 ∨ 8 ≤ g.PC then (s, g)
  else if g.PC = 7 then ze8 s g
  else if g.PC = 6 then zvv s g
  else if g.PC = 5 then zkQ s g
  else if g.PC = 4 then ({ s with Flag := true }, zog s.P g)
  else if g.PC = 3 then zkT s g
  else if g.PC = 2 then ({ s with Work := wc (s.Work - 1) }, { g with Out := 1 })
  else if g.PC = 1 then znV s g
  else ({ s with Work := wc (s.Work + 1) }, { g with PC := 1 })
structure GOk (s : zc) (g : zC) : Prop where
  mem : s.M.length < 4294967296
  bins : s.Bins.length < 4294967296
  bin : g.PC = 6 → 0 ≤ g.Bin ∧ g.Bin < s.Bins.length
  deq : g.PC = 3 → g.D.Kind = 1 ∧ g.D.Cap < 1000
theorem zt0 {s : zc} {g : zC} (ok : GOk s g) : zg0 s g = some ((zG s g).1, (zG s g).2, ()) := by
  rw [zo1]
  simp only [zm, zZ]
  unfold zG
  by_cases h0 : g.Out = 0
  rotate_left
  · rw [if_neg h0, if_pos (.inl h0)]
  rw [if_pos h0]
  by_cases h1 : g.Mode < 1
  · rw [if_pos h1, if_pos (.inr (.inl h1))]
  rw [if_neg h1]
  by_cases h2 : 3 < g.Mode
  · rw [if_pos h2, if_pos (.inr (.inr (.inl h2)))]
  rw [if_neg h2]
  by_cases h3 : g.PC < 0
  · rw [if_pos h3, if_pos (.inr (.inr (.inr (.inl h3))))]
  rw [if_neg h3]
  by_cases h4 : 8 ≤ g.PC
  · rw [if_pos h4, if_pos (.inr (.inr (.inr (.inr h4))))]
  rw [if_neg h4, if_neg (show ¬ (g.Out ≠ 0 ∨ g.Mode < 1 ∨ 3 < g.Mode ∨ g.PC < 0 ∨ 8 ≤ g.PC) by omega)]
  by_cases p7 : g.PC = 7
  · rw [if_pos p7, if_pos p7, zb0]
    simp only [zev ok.mem, Option.bind_some, zm]
    by_cases e : (zX s.M g.C).2.Out = 1 <;> simp [ze8, e]
  rw [if_neg p7, if_neg p7]
  by_cases p6 : g.PC = 6
  · rw [if_pos p6, if_pos p6, zeB]
    obtain ⟨b1, b2⟩ := ok.bin p6
    simp only [ziP ok.bins, Option.bind_some, u5 (l := s.Bins) b1 b2, zeC, zdU, UU]
    rfl
  rw [if_neg p6, if_neg p6]
  by_cases p5 : g.PC = 5
  · rw [if_pos p5, if_pos p5, zd1]
    simp only [zev ok.mem, Option.bind_some, zm, ziC]
    by_cases e : (zX s.M g.C).2.Out = 1
    · simp [zkQ, e]
    · by_cases e2 : (zX s.M g.C).2.Out = 2 <;> simp [zkQ, e, e2]
  rw [if_neg p5, if_neg p5]
  by_cases p4 : g.PC = 4
  · rw [if_pos p4, if_pos p4, zex, ziC]; rfl
  rw [if_neg p4, if_neg p4]
  by_cases p3 : g.PC = 3
  · rw [if_pos p3, if_pos p3, zd3]
    obtain ⟨b1, b2⟩ := ok.deq p3
    simp only [zgR ok.mem b1 b2, Option.bind_some, zm, ziC]
    by_cases e : (uY s.M g.D).2.Out = 1
    · simp [zkT, e]
    · by_cases e2 : (uY s.M g.D).2.Out = 3 <;> simp [zkT, e, e2]
  rw [if_neg p3, if_neg p3]
  by_cases p2 : g.PC = 2
  · rw [if_pos p2, if_pos p2, zdT, xm]; rfl
  rw [if_neg p2, if_neg p2]
  by_cases p1 : g.PC = 1
  · rw [if_pos p1, if_pos p1, zeA]
    simp only [zmO, Option.bind_some, zm, ziC, zlw, zeZ]
    unfold znV
    cases hs : (zeG s.T g.Obj).2 with
    | false => simp [hs]
    | true =>
      by_cases m1 : g.Mode = 1
      · simp [hs, m1]
      · by_cases m2 : g.Mode = 2 <;> simp [hs, m1, m2]
  rw [if_neg p1, if_neg p1, if_pos (show g.PC = 0 by omega), zbC, xm]; rfl
end
end Go.Pe.G
namespace Go.Pe.G
open Go.Pe
noncomputable section
theorem wK {b k : Int} (h : 0 ≤ b) (hk : 0 < k) : 0 ≤ b.tmod k ∧ b.tmod k < k := by
  rw [Int.tmod_eq_emod_of_nonneg h]; exact ⟨Int.emod_nonneg _ (by omega), Int.emod_lt_of_pos _ hk⟩
def za9 (o : zg) (regs slots : Int) : Prop := (0 ≤ o.R ∧ o.R < regs) ∧
  ((o.Kind = 1 ∨ o.Kind = 2) ∧ (0 ≤ o.A ∧ o.A < regs) ∧ (0 ≤ o.S ∧ o.S < slots) ∨ o.Kind = 4 ∧ (0 ≤ o.A ∧ o.A < regs) ∧ o.S = 0 ∨ (o.Kind = 3 ∨ o.Kind = 5) ∧ o.A = 0 ∧ o.S = 0)
structure z8 (p : zd) : Prop where
  wk : 1 ≤ p.Workers ∧ p.Workers ≤ 3
  mt : 0 ≤ p.Mutators ∧ p.Mutators ≤ 2
  cap : 1 ≤ p.Cap ∧ p.Cap ≤ 3
  buf : 1 ≤ p.Buf ∧ p.Buf ≤ 2
  bin : 1 ≤ p.Bin ∧ p.Bin ≤ 3
  price : 0 ≤ p.Price ∧ p.Price ≤ 3
  limit : 0 ≤ p.Limit ∧ p.Limit ≤ 3
  slots : 1 ≤ p.H.Slots ∧ p.H.Slots ≤ 2
  n : 1 ≤ (p.H.Objs.length : Int) ∧ (p.H.Objs.length : Int) ≤ 6
  objs : ∀ o ∈ p.H.Objs, (o.length : Int) = p.H.Slots ∧ ∀ v ∈ o, 0 ≤ v ∧ v ≤ (p.H.Objs.length : Int)
  most : (p.H.Objs.length : Int) ≤ p.Most ∧ p.Most ≤ (p.H.Objs.length : Int) + 3
  roots : ∃ r, 0 ≤ r ∧ r ≤ (p.H.Objs.length : Int) ∧ p.Roots = bit r
  regs : (p.Regs.length : Int) = p.Mutators
  progs : (p.Progs.length : Int) = p.Mutators
  reg : ∀ r ∈ p.Regs, (1 ≤ (r.length : Int) ∧ (r.length : Int) ≤ 3) ∧ ∀ v ∈ r, 0 ≤ v ∧ v ≤ (p.H.Objs.length : Int)
  prog : ∀ (k : Nat) r ops, p.Regs[k]? = some r → p.Progs[k]? = some ops → (ops.length : Int) ≤ 7 ∧ ∀ o ∈ ops, za9 o (r.length : Int) p.H.Slots
  picks : p.Picks = []
end
end Go.Pe.G
namespace Go.Pe.G
open Go.Pe
noncomputable section
namespace B16
def YY (m : zx) : Prop := 0 ≤ m.At ∧ m.At ≤ m.L.length ∧ m.L.length ≤ 90
theorem vm {m : zx} (h : YY m) : ∃ b m', zt m = some (b, m', ()) ∧ (0 ≤ b ∧ b < 256) ∧ YY m' := by
  obtain ⟨h1, h2, h3⟩ := h
  rw [zbo, zm]
  by_cases h : (m.L.length : Int) ≤ m.At
  · rw [if_pos h]; exact ⟨_, _, rfl, by omega, h1, h2, h3⟩
  · rw [if_neg h, yh (a := m.At + 1) (by omega) (by omega), yh (by omega) (by omega), wS (by omega), List.getElem?_eq_getElem (by omega), Option.bind_some]
    exact ⟨_, _, rfl, by have := (m.L[(m.At + 1 - 1).toNat]'(by omega)).isLt; omega, show 0 ≤ m.At + 1 by omega, show m.At + 1 ≤ m.L.length by omega, h3⟩
theorem zw6 {m : zx} (h : YY m) {regs slots : Int} (hr : 1 ≤ regs) (hs : 1 ≤ slots) : ∃ o m', Yi regs slots m = some (o, m', ()) ∧ za9 o regs slots ∧ YY m' := by
  obtain ⟨b1, m1, e1, r1, k1⟩ := vm h
  obtain ⟨b2, m2, e2, r2, k2⟩ := vm k1
  obtain ⟨b3, m3, e3, r3, k3⟩ := vm k2
  obtain ⟨b4, m4, e4, r4, k4⟩ := vm k3
  have t1 := wK r1.1 (show (0 : Int) < 8 by omega)
  have t2 := wK r2.1 (show (0 : Int) < regs by omega)
  have t3 := wK r3.1 (show (0 : Int) < regs by omega)
  have t4 := wK r4.1 (show (0 : Int) < slots by omega)
  have t5 := wK r3.1 (show (0 : Int) < slots by omega)
  have hn : ¬ regs = 0 := by omega
  have hn2 : ¬ slots = 0 := by omega
  rw [zcS, e1, Option.bind_some, u5 t1.1 (by simpa using t1.2), Option.bind_some]
  have hx : b1.tmod 8 = 0 ∨ b1.tmod 8 = 1 ∨ b1.tmod 8 = 2 ∨ b1.tmod 8 = 3 ∨ b1.tmod 8 = 4 ∨ b1.tmod 8 = 5 ∨ b1.tmod 8 = 6 ∨ b1.tmod 8 = 7 := by omega
  rcases hx with hx | hx | hx | hx | hx | hx | hx | hx <;> simp [hx, e2, e3, e4, hn, hn2] <;> refine ⟨_, _, ⟨rfl, rfl⟩, ?_, by assumption⟩ <;> (unfold za9; dsimp only; omega)
theorem zuK {s1 : Int} {s2 : Int} {s4 : Int} {s5 : Int} {s6 : Int} {s7 : Int} {s8 : Int} {s9 : Int} {s10 : Int} {s11 : Int} {s12 : Int} {s13 : BitVec 64} {s15 : Int} {s16 : Int} {s17 : Int} {s18 : Int} {s19 : Int} {s20 : Int} {s21 : Int} {s22 : Int} {s23 : Int} {s24 : BitVec 64} {s26 : List (List Int)} {s27 : List (List Int)} {s28 : List (List zg)} {s29 : List zi} {s30 : List (List Int)} {s31 : List (List Int)} {s32 : List (List zg)} {s33 : List zi} (hn : 1 ≤ s1 ∧ s1 ≤ 6) (hs : 1 ≤ s23 ∧ s23 ≤ 2) {mk : zx} (hm : YY mk) :
    ∃ mk' l, yD Zv (s1, s2, 0, s4, s5, s6, s7, s8, s9, s10, s11, s12, s13, mk, s15, s16, s17, s18, s19, s20, s21, s22, s23, s24, [], s26, s27, s28, s29, s30, s31, s32, s33, ()) = some (.brk (s1, s2, s4, s5, s6, s7, s8, s9, s10, s11, s12, s13, mk', s15, s16, s17, s18, s19, s20, s21, s22, s23, s24, l, s26, s27, s28, s29, s30, s31, s32, s33, ())) ∧ YY mk' ∧ (l.length : Int) = s23 ∧ ∀ v ∈ l, 0 ≤ v ∧ v ≤ s1 := by
  refine (vw (f := Zv)
    (fun a => ∃ i mk l, a = (s1, s2, i, s4, s5, s6, s7, s8, s9, s10, s11, s12, s13, mk, s15, s16, s17, s18, s19, s20, s21, s22, s23, s24, l, s26, s27, s28, s29, s30, s31, s32, s33, ()) ∧ YY mk ∧ (0 ≤ i ∧ i ≤ s23 ∧ (l.length : Int) = i) ∧ ∀ v ∈ l, 0 ≤ v ∧ v ≤ s1)
    (fun a => (s23 - a.2.2.1).toNat)
    (fun o => match o with | .brk b => ∃ mk l, b = (s1, s2, s4, s5, s6, s7, s8, s9, s10, s11, s12, s13, mk, s15, s16, s17, s18, s19, s20, s21, s22, s23, s24, l, s26, s27, s28, s29, s30, s31, s32, s33, ()) ∧ YY mk ∧ (l.length : Int) = s23 ∧ ∀ v ∈ l, 0 ≤ v ∧ v ≤ s1 | _ => False) ?_
    (s1, s2, 0, s4, s5, s6, s7, s8, s9, s10, s11, s12, s13, mk, s15, s16, s17, s18, s19, s20, s21, s22, s23, s24, [], s26, s27, s28, s29, s30, s31, s32, s33, ()) ⟨0, mk, [], rfl, hm, by simp; omega, by simp⟩ (wy (by simp; omega))).elim fun o h => ?_
  rotate_left
  · obtain ⟨ho, hq⟩ := h
    cases o with
    | again a => exact hq.elim
    | ret a => exact hq.elim
    | brk b =>
      obtain ⟨mk', l, rfl, h1, h2, h3⟩ := hq
      exact ⟨mk', l, ho, h1, h2, h3⟩
  · rintro _ ⟨i, mk, l, rfl, h1, h2, h3⟩
    rw [zfF, zm]
    by_cases hi : i < s23
    · rw [if_pos hi]
      obtain ⟨b, mk', e, r, k⟩ := vm h1
      have w1 : w64 (s1 + 1) = s1 + 1 := yh (by omega) (by omega)
      have t := wK r.1 (show 0 < s1 + 1 by omega)
      rw [e, Option.bind_some, w1, zm, if_neg (by omega), wn (by simp; omega), Option.bind_some, yh (a := i + 1) (by omega) (by omega)]
      refine ⟨_, rfl, ⟨i + 1, mk', l ++ [b.tmod (s1 + 1)], rfl, k, by simp; omega, fun v hv => ?_⟩, ?_⟩
      · rcases List.mem_append.1 hv with hv | hv
        · exact h3 v hv
        · simp at hv; omega
      · show (s23 - (i + 1)).toNat < (s23 - i).toNat
        omega
    · rw [if_neg hi]
      exact ⟨_, rfl, mk, l, rfl, h1, by omega, h3⟩
theorem zv9 {s1 : Int} {s3 : Int} {s4 : Int} {s5 : Int} {s6 : Int} {s7 : Int} {s8 : Int} {s9 : Int} {s10 : Int} {s11 : Int} {s12 : BitVec 64} {s14 : Int} {s15 : Int} {s16 : Int} {s17 : Int} {s18 : Int} {s19 : Int} {s20 : Int} {s21 : Int} {s22 : Int} {s23 : BitVec 64} {s24 : List (List Int)} {s25 : List (List Int)} {s26 : List (List zg)} {s27 : List zi} {s29 : List (List Int)} {s30 : List (List zg)} {s31 : List zi} (hn : 1 ≤ s1 ∧ s1 ≤ 6) (hs : 1 ≤ s22 ∧ s22 ≤ 2) {mk : zx} (hm : YY mk) :
    ∃ mk' l, yD ZW (s1, 0, s3, s4, s5, s6, s7, s8, s9, s10, s11, s12, mk, s14, s15, s16, s17, s18, s19, s20, s21, s22, s23, s24, s25, s26, s27, [], s29, s30, s31, ()) = some (.brk (s1, s3, s4, s5, s6, s7, s8, s9, s10, s11, s12, mk', s14, s15, s16, s17, s18, s19, s20, s21, s22, s23, s24, s25, s26, s27, l, s29, s30, s31, ())) ∧ YY mk' ∧ (l.length : Int) = s1 ∧ ∀ o ∈ l, (o.length : Int) = s22 ∧ ∀ v ∈ o, 0 ≤ v ∧ v ≤ s1 := by
  refine (vw (f := ZW)
    (fun a => ∃ i mk l, a = (s1, i, s3, s4, s5, s6, s7, s8, s9, s10, s11, s12, mk, s14, s15, s16, s17, s18, s19, s20, s21, s22, s23, s24, s25, s26, s27, l, s29, s30, s31, ()) ∧ YY mk ∧ (0 ≤ i ∧ i ≤ s1 ∧ (l.length : Int) = i) ∧ ∀ o ∈ l, (o.length : Int) = s22 ∧ ∀ v ∈ o, 0 ≤ v ∧ v ≤ s1)
    (fun a => (s1 - a.2.1).toNat)
    (fun o => match o with | .brk b => ∃ mk l, b = (s1, s3, s4, s5, s6, s7, s8, s9, s10, s11, s12, mk, s14, s15, s16, s17, s18, s19, s20, s21, s22, s23, s24, s25, s26, s27, l, s29, s30, s31, ()) ∧ YY mk ∧ (l.length : Int) = s1 ∧ ∀ o ∈ l, (o.length : Int) = s22 ∧ ∀ v ∈ o, 0 ≤ v ∧ v ≤ s1 | _ => False) ?_
    (s1, 0, s3, s4, s5, s6, s7, s8, s9, s10, s11, s12, mk, s14, s15, s16, s17, s18, s19, s20, s21, s22, s23, s24, s25, s26, s27, [], s29, s30, s31, ()) ⟨0, mk, [], rfl, hm, by simp; omega, by simp⟩ (wy (by simp; omega))).elim fun o h => ?_
  rotate_left
  · obtain ⟨ho, hq⟩ := h
    cases o with
    | again a => exact hq.elim
    | ret a => exact hq.elim
    | brk b =>
      obtain ⟨mk', l, rfl, h1, h2, h3⟩ := hq
      exact ⟨mk', l, ho, h1, h2, h3⟩
  · rintro _ ⟨i, mk, l, rfl, h1, h2, h3⟩
    rw [zf3, zm]
    by_cases hi : i < s1
    · rw [if_pos hi]
      obtain ⟨mk', o, e, g1, g2, g3⟩ := zuK hn hs h1
      rw [e]
      simp only [Option.bind_some]
      rw [wn (by simp; omega), Option.bind_some, yh (a := i + 1) (by omega) (by omega)]
      refine ⟨_, rfl, ⟨i + 1, mk', l ++ [o], rfl, g1, by simp; omega, fun v hv => ?_⟩, ?_⟩
      · rcases List.mem_append.1 hv with hv | hv
        · exact h3 v hv
        · simp at hv; subst hv; exact ⟨g2, g3⟩
      · show (s1 - (i + 1)).toNat < (s1 - i).toNat
        omega
    · rw [if_neg hi]
      exact ⟨_, rfl, mk, l, rfl, h1, by omega, h3⟩
theorem zvo {s1 : Int} {s2 : Int} {s4 : Int} {s5 : Int} {s6 : Int} {s7 : Int} {s8 : Int} {s9 : Int} {s10 : Int} {s11 : Int} {s12 : Int} {s13 : BitVec 64} {s15 : Int} {s16 : Int} {s17 : Int} {s18 : Int} {s19 : Int} {s20 : Int} {s21 : Int} {s22 : Int} {s23 : Int} {s24 : BitVec 64} {s26 : List (List Int)} {s27 : List (List Int)} {s28 : List (List zg)} {s29 : List zi} {s30 : List (List Int)} {s31 : List (List Int)} {s32 : List (List zg)} {s33 : List zi} (hn : 1 ≤ s1 ∧ s1 ≤ 6) {mk : zx} (hm : YY mk) :
    ∃ mk' l, yD Zt (s1, s2, 0, s4, s5, s6, s7, s8, s9, s10, s11, s12, s13, mk, s15, s16, s17, s18, s19, s20, s21, s22, s23, s24, [], s26, s27, s28, s29, s30, s31, s32, s33, ()) = some (.brk (s1, s2, s4, s5, s6, s7, s8, s9, s10, s11, s12, s13, mk', s15, s16, s17, s18, s19, s20, s21, s22, s23, s24, l, s26, s27, s28, s29, s30, s31, s32, s33, ())) ∧ YY mk' ∧ (1 ≤ (l.length : Int) ∧ (l.length : Int) ≤ 3) ∧ ∀ v ∈ l, 0 ≤ v ∧ v ≤ s1 := by
  refine (vw (f := Zt)
    (fun a => ∃ i mk l, a = (s1, s2, i, s4, s5, s6, s7, s8, s9, s10, s11, s12, s13, mk, s15, s16, s17, s18, s19, s20, s21, s22, s23, s24, l, s26, s27, s28, s29, s30, s31, s32, s33, ()) ∧ YY mk ∧ (0 ≤ i ∧ i ≤ 3 ∧ (l.length : Int) = i) ∧ ∀ v ∈ l, 0 ≤ v ∧ v ≤ s1)
    (fun a => (3 - a.2.2.1).toNat)
    (fun o => match o with | .brk b => ∃ mk l, b = (s1, s2, s4, s5, s6, s7, s8, s9, s10, s11, s12, s13, mk, s15, s16, s17, s18, s19, s20, s21, s22, s23, s24, l, s26, s27, s28, s29, s30, s31, s32, s33, ()) ∧ YY mk ∧ (1 ≤ (l.length : Int) ∧ (l.length : Int) ≤ 3) ∧ ∀ v ∈ l, 0 ≤ v ∧ v ≤ s1 | _ => False) ?_
    (s1, s2, 0, s4, s5, s6, s7, s8, s9, s10, s11, s12, s13, mk, s15, s16, s17, s18, s19, s20, s21, s22, s23, s24, [], s26, s27, s28, s29, s30, s31, s32, s33, ()) ⟨0, mk, [], rfl, hm, by simp, by simp⟩ (wy (by simp))).elim fun o h => ?_
  rotate_left
  · obtain ⟨ho, hq⟩ := h
    cases o with
    | again a => exact hq.elim
    | ret a => exact hq.elim
    | brk b =>
      obtain ⟨mk', l, rfl, h1, h2, h3⟩ := hq
      exact ⟨mk', l, ho, h1, h2, h3⟩
  · rintro _ ⟨i, mk, l, rfl, h1, h2, h3⟩
    obtain ⟨b0, mk0, e0, r0, k0⟩ := vm h1
    have t0 := wK r0.1 (show (0 : Int) < 3 by omega)
    rw [zfd, e0, Option.bind_some, zm, yh (a := 1 + b0.tmod 3) (by omega) (by omega)]
    by_cases hi : i < 1 + b0.tmod 3
    · rw [if_pos hi]
      obtain ⟨b, mk', e, r, k⟩ := vm k0
      have w1 : w64 (s1 + 1) = s1 + 1 := yh (by omega) (by omega)
      have t := wK r.1 (show 0 < s1 + 1 by omega)
      rw [e, Option.bind_some, w1, zm, if_neg (by omega), wn (by simp; omega), Option.bind_some, yh (a := i + 1) (by omega) (by omega)]
      refine ⟨_, rfl, ⟨i + 1, mk', l ++ [b.tmod (s1 + 1)], rfl, k, by simp; omega, fun v hv => ?_⟩, ?_⟩
      · rcases List.mem_append.1 hv with hv | hv
        · exact h3 v hv
        · simp at hv; omega
      · show (3 - (i + 1)).toNat < (3 - i).toNat
        omega
    · rw [if_neg hi]
      exact ⟨_, rfl, mk0, l, rfl, k0, by omega, h3⟩
theorem zu8 {s1 : Int} {s2 : Int} {s4 : Int} {s5 : Int} {s6 : Int} {s7 : Int} {s8 : Int} {s9 : Int} {s10 : Int} {s11 : Int} {s12 : Int} {s13 : BitVec 64} {s15 : Int} {s16 : Int} {s17 : Int} {s18 : Int} {s19 : Int} {s20 : Int} {s21 : Int} {s22 : Int} {s23 : Int} {s24 : BitVec 64} {s25 : List Int} {s27 : List (List Int)} {s28 : List (List Int)} {s29 : List (List zg)} {s30 : List zi} {s31 : List (List Int)} {s32 : List (List Int)} {s33 : List (List zg)} {s34 : List zi} (hr : 1 ≤ (s25.length : Int)) (hs : 1 ≤ s23 ∧ s23 ≤ 2) {k0 : Int} (hk : 0 ≤ k0 ∧ k0 < 8) {mk : zx} (hm : YY mk) :
    ∃ mk' l, yD vY (s1, s2, k0, s4, s5, s6, s7, s8, s9, s10, s11, s12, s13, mk, s15, s16, s17, s18, s19, s20, s21, s22, s23, s24, s25, [], s27, s28, s29, s30, s31, s32, s33, s34, ()) = some (.brk (s1, s2, s4, s5, s6, s7, s8, s9, s10, s11, s12, s13, mk', s15, s16, s17, s18, s19, s20, s21, s22, s23, s24, s25, l, s27, s28, s29, s30, s31, s32, s33, s34, ())) ∧ YY mk' ∧ (l.length : Int) ≤ 7 ∧ ∀ o ∈ l, za9 o (s25.length : Int) s23 := by
  refine (vw (f := vY)
    (fun a => ∃ i mk l, a = (s1, s2, i, s4, s5, s6, s7, s8, s9, s10, s11, s12, s13, mk, s15, s16, s17, s18, s19, s20, s21, s22, s23, s24, s25, l, s27, s28, s29, s30, s31, s32, s33, s34, ()) ∧ YY mk ∧ (0 ≤ i ∧ (l.length : Int) + i ≤ 7) ∧ ∀ o ∈ l, za9 o (s25.length : Int) s23)
    (fun a => (a.2.2.1).toNat)
    (fun o => match o with | .brk b => ∃ mk l, b = (s1, s2, s4, s5, s6, s7, s8, s9, s10, s11, s12, s13, mk, s15, s16, s17, s18, s19, s20, s21, s22, s23, s24, s25, l, s27, s28, s29, s30, s31, s32, s33, s34, ()) ∧ YY mk ∧ (l.length : Int) ≤ 7 ∧ ∀ o ∈ l, za9 o (s25.length : Int) s23 | _ => False) ?_
    (s1, s2, k0, s4, s5, s6, s7, s8, s9, s10, s11, s12, s13, mk, s15, s16, s17, s18, s19, s20, s21, s22, s23, s24, s25, [], s27, s28, s29, s30, s31, s32, s33, s34, ()) ⟨k0, mk, [], rfl, hm, by simp; omega, by simp⟩ (wy (by simp; omega))).elim fun o h => ?_
  rotate_left
  · obtain ⟨ho, hq⟩ := h
    cases o with
    | again a => exact hq.elim
    | ret a => exact hq.elim
    | brk b =>
      obtain ⟨mk', l, rfl, h1, h2, h3⟩ := hq
      exact ⟨mk', l, ho, h1, h2, h3⟩
  · rintro _ ⟨i, mk, l, rfl, h1, h2, h3⟩
    rw [zf0, zm]
    by_cases hi : 0 < i
    · rw [if_pos hi]
      obtain ⟨o, mk', e, r, k⟩ := zw6 h1 hr hs.1
      rw [e, Option.bind_some, wn (by simp; omega), Option.bind_some, yh (a := i - 1) (by omega) (by omega)]
      refine ⟨_, rfl, ⟨i - 1, mk', l ++ [o], rfl, k, by simp; omega, fun v hv => ?_⟩, ?_⟩
      · rcases List.mem_append.1 hv with hv | hv
        · exact h3 v hv
        · simp at hv; subst hv; exact r
      · show (i - 1).toNat < i.toNat
        omega
    · rw [if_neg hi]
      exact ⟨_, rfl, mk, l, rfl, h1, by omega, h3⟩
theorem zuS {s1 : Int} {s3 : Int} {s4 : Int} {s5 : Int} {s6 : Int} {s7 : Int} {s8 : Int} {s9 : Int} {s10 : Int} {s11 : Int} {s12 : BitVec 64} {s14 : Int} {s15 : Int} {s16 : Int} {s17 : Int} {s18 : Int} {s19 : Int} {s20 : Int} {s21 : Int} {s22 : Int} {s23 : BitVec 64} {s24 : List (List Int)} {s25 : List (List Int)} {s26 : List (List zg)} {s27 : List zi} {s28 : List (List Int)} {s31 : List zi} (hn : 1 ≤ s1 ∧ s1 ≤ 6) (hm0 : 0 ≤ s15 ∧ s15 ≤ 2) (hs : 1 ≤ s22 ∧ s22 ≤ 2) {mk : zx} (hm : YY mk) :
    ∃ regs progs, yD Zx (s1, 0, s3, s4, s5, s6, s7, s8, s9, s10, s11, s12, mk, s14, s15, s16, s17, s18, s19, s20, s21, s22, s23, s24, s25, s26, s27, s28, [], [], s31, ()) = some (.brk (s3, s4, s5, s6, s7, s8, s9, s10, s11, s12, s14, s15, s16, s17, s18, s19, s20, s21, s22, s23, s24, s25, s26, s27, s28, regs, progs, s31, ())) ∧ (regs.length : Int) = s15 ∧ (regs.length = progs.length) ∧ (∀ r ∈ regs, (1 ≤ (r.length : Int) ∧ (r.length : Int) ≤ 3) ∧ ∀ v ∈ r, 0 ≤ v ∧ v ≤ s1) ∧ ∀ (k : Nat) r ops, regs[k]? = some r → progs[k]? = some ops → (ops.length : Int) ≤ 7 ∧ ∀ o ∈ ops, za9 o (r.length : Int) s22 := by
  refine (vw (f := Zx)
    (fun a => ∃ i mk regs progs, a = (s1, i, s3, s4, s5, s6, s7, s8, s9, s10, s11, s12, mk, s14, s15, s16, s17, s18, s19, s20, s21, s22, s23, s24, s25, s26, s27, s28, regs, progs, s31, ()) ∧ YY mk ∧ (0 ≤ i ∧ i ≤ s15 ∧ (regs.length : Int) = i) ∧ (regs.length = progs.length) ∧ (∀ r ∈ regs, (1 ≤ (r.length : Int) ∧ (r.length : Int) ≤ 3) ∧ ∀ v ∈ r, 0 ≤ v ∧ v ≤ s1) ∧ ∀ (k : Nat) r ops, regs[k]? = some r → progs[k]? = some ops → (ops.length : Int) ≤ 7 ∧ ∀ o ∈ ops, za9 o (r.length : Int) s22)
    (fun a => (s15 - a.2.1).toNat)
    (fun o => match o with | .brk b => ∃ regs progs, b = (s3, s4, s5, s6, s7, s8, s9, s10, s11, s12, s14, s15, s16, s17, s18, s19, s20, s21, s22, s23, s24, s25, s26, s27, s28, regs, progs, s31, ()) ∧ (regs.length : Int) = s15 ∧ (regs.length = progs.length) ∧ (∀ r ∈ regs, (1 ≤ (r.length : Int) ∧ (r.length : Int) ≤ 3) ∧ ∀ v ∈ r, 0 ≤ v ∧ v ≤ s1) ∧ ∀ (k : Nat) r ops, regs[k]? = some r → progs[k]? = some ops → (ops.length : Int) ≤ 7 ∧ ∀ o ∈ ops, za9 o (r.length : Int) s22 | _ => False) ?_
    (s1, 0, s3, s4, s5, s6, s7, s8, s9, s10, s11, s12, mk, s14, s15, s16, s17, s18, s19, s20, s21, s22, s23, s24, s25, s26, s27, s28, [], [], s31, ()) ⟨0, mk, [], [], rfl, hm, by simp; omega, rfl, by simp, by simp⟩ (wy (by simp; omega))).elim fun o h => ?_
  rotate_left
  · obtain ⟨ho, hq⟩ := h
    cases o with
    | again a => exact hq.elim
    | ret a => exact hq.elim
    | brk b =>
      obtain ⟨regs, progs, rfl, h⟩ := hq
      exact ⟨regs, progs, ho, h⟩
  · rintro _ ⟨i, mk, regs, progs, rfl, h1, h2, h3, h4, h5⟩
    rw [zfX, zm]
    by_cases hi : i < s15
    · rw [if_pos hi]
      obtain ⟨mk1, r, e, g1, g2, g3⟩ := zvo hn h1
      rw [e]
      simp only [Option.bind_some]
      rw [zm, if_neg (by omega)]
      obtain ⟨b, mk2, e2, r2, k2⟩ := vm g1
      rw [e2, Option.bind_some]
      obtain ⟨mk3, ops, e3, f1, f2, f3⟩ := zu8 (s25 := r) g2.1 hs (wK r2.1 (show (0 : Int) < 8 by omega)) k2
      rw [e3]
      simp only [Option.bind_some]
      rw [wn (by simp; omega), Option.bind_some, wn (by simp; omega), Option.bind_some, yh (a := i + 1) (by omega) (by omega)]
      refine ⟨_, rfl, ⟨i + 1, mk3, regs ++ [r], progs ++ [ops], rfl, f1, by simp; omega, by simp [h3], fun v hv => ?_, fun k r' ops' hk1 hk2 => ?_⟩, ?_⟩
      · rcases List.mem_append.1 hv with hv | hv
        · exact h4 v hv
        · simp at hv; subst hv; exact ⟨g2, g3⟩
      · rcases Nat.lt_or_ge k regs.length with hlt | hge
        · rw [List.getElem?_append_left hlt] at hk1
          rw [List.getElem?_append_left (by omega)] at hk2
          exact h5 k r' ops' hk1 hk2
        · rw [List.getElem?_append_right hge] at hk1
          rw [List.getElem?_append_right (by omega), ← h3] at hk2
          have hk0 : k - regs.length = 0 := by
            have := (List.getElem?_eq_some_iff.1 hk1).1
            simpa using this
          rw [hk0] at hk1 hk2
          simp at hk1 hk2
          subst hk1; subst hk2
          exact ⟨f2, f3⟩
      · show (s15 - (i + 1)).toNat < (s15 - i).toNat
        omega
    · rw [if_neg hi]
      exact ⟨_, rfl, regs, progs, rfl, by omega, h3, h4, h5⟩
theorem zvM (l : List (BitVec 8)) : ∃ p, Ue l = some (p, ()) ∧ z8 p := by
  rw [ziX, zm]
  obtain ⟨m, em, hl⟩ : ∃ m, cut l 0 (if 90 < (l.length : Int) then 90 else (l.length : Int)) = some m ∧ m.length ≤ 90 := by
    unfold cut
    by_cases h : 90 < (l.length : Int)
    · have h2 : (90 : Int) ≤ l.length := by omega
      rw [if_pos h]; exact ⟨l.take 90, by simp [h2], List.length_take_le _ _⟩
    · rw [if_neg h]; exact ⟨l, by simp, by omega⟩
  rw [em, Option.bind_some]
  obtain ⟨b1, m1, e1, r1, k1⟩ := vm (m := ⟨m, 0⟩) ⟨by simp, by simp, hl⟩
  obtain ⟨b2, m2, e2, r2, k2⟩ := vm k1
  obtain ⟨b3, m3, e3, r3, k3⟩ := vm k2
  obtain ⟨b4, m4, e4, r4, k4⟩ := vm k3
  obtain ⟨b5, m5, e5, r5, k5⟩ := vm k4
  obtain ⟨b6, m6, e6, r6, k6⟩ := vm k5
  obtain ⟨b7, m7, e7, r7, k7⟩ := vm k6
  obtain ⟨b8, m8, e8, r8, k8⟩ := vm k7
  obtain ⟨b9, m9, e9, r9, k9⟩ := vm k8
  obtain ⟨b10, m10, e10, r10, k10⟩ := vm k9
  simp only [e1, e2, e3, e4, e5, e6, e7, e8, e9, e10, Option.bind_some]
  have t1 := wK r1.1 (show (0 : Int) < 3 by omega)
  have t2 := wK r2.1 (show (0 : Int) < 3 by omega)
  have t3 := wK r3.1 (show (0 : Int) < 3 by omega)
  have t4 := wK r4.1 (show (0 : Int) < 2 by omega)
  have t5 := wK r5.1 (show (0 : Int) < 3 by omega)
  have t6 := wK r6.1 (show (0 : Int) < 4 by omega)
  have t7 := wK r7.1 (show (0 : Int) < 4 by omega)
  have t8 := wK r8.1 (show (0 : Int) < 2 by omega)
  have t9 := wK r9.1 (show (0 : Int) < 6 by omega)
  have t10 := wK r10.1 (show (0 : Int) < 4 by omega)
  rw [yh (a := 1 + b9.tmod 6) (by omega) (by omega), yh (a := 1 + b1.tmod 3) (by omega) (by omega), yh (a := 1 + b3.tmod 3) (by omega) (by omega), yh (a := 1 + b4.tmod 2) (by omega) (by omega), yh (a := 1 + b5.tmod 3) (by omega) (by omega),
    yh (a := 1 + b9.tmod 6 + b10.tmod 4) (by omega) (by omega), yh (a := 1 + b8.tmod 2) (by omega) (by omega)]
  obtain ⟨m11, objs, e11, g1, g2, g3⟩ := zv9 (s1 := 1 + b9.tmod 6) (s22 := 1 + b8.tmod 2) (by omega) (by omega) k10
  rw [e11]
  simp only [Option.bind_some]
  obtain ⟨b12, m12, e12, r12, k12⟩ := vm g1
  rw [e12, Option.bind_some, yh (a := 1 + b9.tmod 6 + 1) (by omega) (by omega), zm, if_neg (by omega)]
  have t12 := wK r12.1 (show (0 : Int) < 1 + b9.tmod 6 + 1 by omega)
  rw [zkW, Option.bind_some]
  obtain ⟨regs, progs, e13, f1, f2, f3, f4⟩ := zuS (s1 := 1 + b9.tmod 6) (s15 := b2.tmod 3) (s22 := 1 + b8.tmod 2) (by omega) (by omega) (by omega) k12
  rw [e13]
  simp only [Option.bind_some]
  refine ⟨_, rfl, ?_⟩
  constructor <;> dsimp only
  case objs => intro o ho; rw [g2]; exact g3 o ho
  case roots => exact ⟨b12.tmod (1 + b9.tmod 6 + 1), by omega, by omega, by simp⟩
  case reg => rw [g2]; exact f3
  case prog => exact f4
  all_goals first | omega | rfl
end B16
end
end Go.Pe.G
namespace Go.Pe.G
open Go.Pe
noncomputable section
theorem VY {α β B C : Type} {f : List α × Int × Int × β → Option (xf (List α × Int × Int × β) B C)} {l : List α} {e : β} {b : B} (hl : l.length < 1000000)
    (h1 : ∀ (i : Nat) (x : α), l[i]? = some x → f (l, (l.length : Int), (i : Int), e) = some (.again (l, (l.length : Int), ((i + 1 : Nat) : Int), e)))
    (h2 : f (l, (l.length : Int), (l.length : Int), e) = some (.brk b)) : yD f (l, (l.length : Int), 0, e) = some (.brk b) := by
  refine (vw (f := f) (fun a => ∃ i : Nat, a = (l, (l.length : Int), (i : Int), e) ∧ i ≤ l.length) (fun a => l.length - a.2.2.1.toNat) (fun o => o = .brk b) ?_ (l, (l.length : Int), 0, e) ⟨0, rfl, by omega⟩ (wy (by simp; omega))).elim fun o h => ?_
  rotate_left
  · rw [h.1, h.2]
  · rintro _ ⟨i, rfl, hi⟩
    rcases Nat.lt_or_ge i l.length with hlt | hge
    · refine ⟨_, h1 i _ (List.getElem?_eq_getElem hlt), ⟨i + 1, rfl, hlt⟩, ?_⟩
      show l.length - ((i + 1 : Nat) : Int).toNat < l.length - (i : Int).toNat
      omega
    · have : i = l.length := by omega
      subst this
      exact ⟨_, h2, rfl⟩
theorem xu {α : Type} {l : List α} {i : Nat} {x : α} (h : l[i]? = some x) : idx l (i : Int) = some x := by
  rw [wS (by omega)]; simpa using h
theorem vF {α : Type} {l : List α} {i : Nat} {x : α} (h : l[i]? = some x) : (i : Int) < (l.length : Int) := by
  have := (List.getElem?_eq_some_iff.1 h).1; omega
theorem yS {i : Nat} (h : i < 1000000) : w64 ((i : Int) + 1) = ((i + 1 : Nat) : Int) := by
  rw [yh (by omega) (by omega)]; omega
theorem zcD (a b c : Int) : vk a b c = some (decide (b ≤ a ∧ a ≤ c), ()) := by
  rw [zmh, zm]
  by_cases h : b ≤ a
  · rw [if_pos h]; simp [h]
  · rw [if_neg h]; simp [h]
theorem zs3 {l : List Int} {h : zu} (hl : l.length < 1000000) (hv : ∀ v ∈ l, 0 ≤ v ∧ v ≤ (h.Objs.length : Int)) : xB l h = some (false, ()) := by
  rw [ZO, Yn, VY (b := ()) hl (fun i x hx => ?_) (by rw [wN]; simp)]
  · rfl
  · have hm := hv x (List.mem_of_getElem? hx)
    have hlt := vF hx
    rw [wN, zm, if_pos hlt, xu hx, Option.bind_some, zjy, zm, if_neg (show ¬ x < 0 by omega), Option.bind_some, yS (by omega)]
    simp [show ¬ (h.Objs.length : Int) < x by omega]
theorem ztP {l : List Int} {n : Int} (hl : l.length < 1000000) (hv : ∀ v ∈ l, 0 ≤ v ∧ v ≤ n) : xK l n = some (false, ()) := by
  rw [Ya, YT, VY (b := ()) hl (fun i x hx => ?_) (by rw [w8]; simp)]
  · rfl
  · have hm := hv x (List.mem_of_getElem? hx)
    have hlt := vF hx
    rw [w8, xu hx, Option.bind_some, zlm, zcD, Option.bind_some, Option.bind_some, yS (by omega), zm, if_pos hlt]
    simp [hm]
theorem zpu {l : List (List Int)} {h : zu} (hl : l.length < 1000000) (hs : h.Slots < 1000000) (hv : ∀ o ∈ l, (o.length : Int) = h.Slots ∧ ∀ v ∈ o, 0 ≤ v ∧ v ≤ (h.Objs.length : Int)) : xA l h = some (false, ()) := by
  rw [ZP, YE, VY (b := ()) hl (fun i x hx => ?_) (by rw [wO]; simp)]
  · rfl
  · have hm := hv x (List.mem_of_getElem? hx)
    have hlt := vF hx
    rw [wO, xu hx, Option.bind_some, zlt, zZ, if_pos hm.1, zs3 (by omega) hm.2, Option.bind_some, Option.bind_some, yS (by omega), zm, if_pos hlt]
    rfl
theorem zmL {r n : Int} (h : 0 ≤ r ∧ r < n) (h2 : n ≤ 4) : zP r n = some (true, ()) := by
  rw [zlc, zm, if_pos h.1, zm]
  rw [if_neg (by omega)]
  simp [h.2]
theorem zuE {o : zg} {regs slots : Int} (h : za9 o regs slots) (h2 : regs ≤ 4) (h3 : slots ≤ 4) : zeR o regs slots = some (true, ()) := by
  obtain ⟨hr, h⟩ := h
  have e1 := zmL hr h2
  have h4 : ¬ 4 < slots := by omega
  rw [zmD]
  rcases h with ⟨hk | hk, ha, hs⟩ | ⟨hk, ha, hs⟩ | ⟨hk | hk, ha, hs⟩
  · have e2 := zmL ha h2
    simp [hk, e1, e2, hs.1, hs.2, h4]
  · have e2 := zmL ha h2
    simp [hk, e1, e2, hs.1, hs.2, h4]
  · have e2 := zmL ha h2
    simp [hk, e1, e2, hs]
  · simp [hk, e1, ha, hs]
  · simp [hk, e1, ha, hs]
theorem zvE {l : List zg} {regs slots : Int} (hl : (l.length : Int) ≤ 64) (h : ∀ o ∈ l, za9 o regs slots) (h2 : regs ≤ 4) (h3 : slots ≤ 4) : zhs l regs slots = some (true, ()) := by
  rw [zoo, zm, if_pos hl, u6, Zp, VY (b := ()) (by omega) (fun i x hx => ?_) (by rw [wt]; simp)]
  · rfl
  · have hlt := vF hx
    rw [wt, xu hx, Option.bind_some, zl7, zuE (h x (List.mem_of_getElem? hx)) h2 h3, Option.bind_some, Option.bind_some, yS (by omega), zm, if_pos hlt]
    rfl
theorem ztJ (a b : Int) : zfW [] a b = some (true, ()) := by
  rw [znD, ut, uR, VY (b := ()) (by simp) (fun i x hx => by simp at hx) (by rw [ur]; simp)]
  rfl
def Ux (n : Int) : BitVec 64 := if n < 1 then 0#64 else 18446744073709551615#64 >>> (64 - min n 64).toNat
theorem ztG (n : Int) (h : 0 ≤ n) : zhy n = some (Ux n, ()) := by
  rw [zoM, zm]
  unfold Ux
  by_cases h1 : n < 1
  · rw [if_pos h1, if_pos h1]
  · rw [if_neg h1, if_neg h1]
    simp only [zm]
    have e : (if 64 < n then (64 : Int) else n) = min n 64 := by
      by_cases h2 : 64 < n
      · rw [if_pos h2]; omega
      · rw [if_neg h2]; omega
    rw [e, yh (by omega) (by omega), if_neg (by omega), Nat.min_eq_left (by omega)]
theorem zps : ∀ (r n : Fin 7), r.1 ≤ n.1 → bit (r.1 : Int) &&& ~~~Ux (n.1 : Int) = 0#64 := by decide
theorem zlv {p : zd} (h : z8 p) : p.Roots &&& ~~~Ux (p.H.Objs.length : Int) = 0#64 := by
  obtain ⟨r, h1, h2, h3⟩ := h.roots
  have hn := h.n
  have := zps ⟨r.toNat, by omega⟩ ⟨p.H.Objs.length, by omega⟩ (by show r.toNat ≤ p.H.Objs.length; omega)
  rw [h3]
  simpa [Int.toNat_of_nonneg h1] using this
theorem zs0 {p : zd} (h : z8 p) : Uc p = some (true, ()) := by
  obtain ⟨h1, h2, h3, h4, h5, h6, h7, _⟩ := h
  rw [zit]
  simp only [zcD, Option.bind_some, zm]
  rw [if_pos (by omega), if_pos (by omega), if_pos (by omega), if_pos (by omega), if_pos (by omega), if_pos (by split <;> omega)]
  have : (if p.Price < p.Limit then p.Limit else p.Price) ≤ 1000000 := by split <;> omega
  simp [this]
theorem zsY {p : zd} (h : z8 p) : X5 p.H = some (true, ()) := by
  have := h.slots
  have := h.n
  rw [zgv, zm, if_pos (by omega), zm, if_pos (by omega), zm, if_pos (by omega), zpu (by omega) (by omega) h.objs]
  rfl
theorem ztq {p : zd} (h : z8 p) : zeQ p = some (true, ()) := by
  have hn := h.n
  have hm := h.most
  have hsl := h.slots
  have hmt := h.mt
  have hrl := h.regs
  have hpl := h.progs
  rw [zm4, zs0 h]
  simp only [Option.bind_some, Bool.not_true, cond_false, zsY h, zcD]
  rw [show decide ((p.H.Objs.length : Int) ≤ p.Most ∧ p.Most ≤ 64) = true by simp; omega]
  simp only [Bool.not_true, cond_false, ztG _ (show (0 : Int) ≤ (p.H.Objs.length : Int) by omega), Option.bind_some, zn8, zlv h, decide_true, zZ, if_pos h.regs, if_pos h.progs]
  rw [VY (b := (p, ())) (by omega) (fun i x hx => ?_) (by rw [zde]; simp)]
  · simp [h.picks, ztJ]
  · have hlt := vF hx
    have hr := h.reg x (List.mem_of_getElem? hx)
    obtain ⟨ops, hops⟩ : ∃ ops, p.Progs[i]? = some ops := ⟨_, List.getElem?_eq_getElem (by omega)⟩
    obtain ⟨o1, o2⟩ := h.prog i x ops hx hops
    rw [zde, zm, if_pos hlt, xu hx]
    simp only [Option.bind_some, zcD]
    rw [show decide (1 ≤ (x.length : Int) ∧ (x.length : Int) ≤ 4) = true by simp; omega]
    simp only [Bool.not_true, cond_false, ztP (show x.length < 1000000 by omega) hr.2, Option.bind_some, xu hops, zvE (show (ops.length : Int) ≤ 64 by omega) o2 (show (x.length : Int) ≤ 4 by omega) (show p.H.Slots ≤ 4 by omega), yS (show i < 1000000 by omega)]
end
end Go.Pe.G
namespace Go.Pe.G
open Go.Pe
noncomputable section
theorem zfE {n : Int} (h : 0 ≤ n) (h2 : n < 4294967296) : YG n = some n.toNat := by rw [zgU]; simp [h, h2]
theorem zo6 {n : Int} (h : 0 < n) (h2 : n < 4294967296) : zcV n = some n.toNat := by rw [znq]; simp [h, h2]
def znc (l : List Int) : BitVec 64 := l.foldl (fun s o => s ||| bit o) 0#64
def XQ (p : zd) : BitVec 64 := p.Regs.foldl (fun s l => s ||| znc l) p.Roots
def zwU (a1 : BitVec 64) : BitVec 64 :=
  let a := ((a1 >>> 1) &&& 6148914691236517205#64) + (a1 &&& 6148914691236517205#64)
  let b := ((a >>> 2) &&& 3689348814741910323#64) + (a &&& 3689348814741910323#64)
  let c := ((b >>> 4) + b) &&& 1085102592571150095#64
  let d := c + (c >>> 8)
  let e := d + (d >>> 16)
  e + (e >>> 32)
def cnt (s : BitVec 64) : Int := (BitVec.ofInt 64 (zwU s).toInt &&& BitVec.ofInt 64 127).toInt
theorem ztM (s : BitVec 64) : zhj s = some (cnt s, ()) := by
  rw [zoJ, zhI, zre]; rfl
theorem Wu {m : List Int} (h : m.length < 4294967296) : yK m = some (m, ()) := by
  rw [zdB, List.nil_append, wn h, Option.bind_some]
  cases m with
  | nil => simp [zgS]
  | cons a l => simp
theorem zwd {l : List Int} (hl : l.length < 1000000) : zma l = some (znc l, ()) := by
  rw [zsb]
  refine (vw (f := zhD) (fun a => ∃ i : Nat, a = ((l.take i).foldl (fun s o => s ||| bit o) 0#64, l, (l.length : Int), (i : Int), ()) ∧ i ≤ l.length) (fun a => l.length - a.2.2.2.1.toNat) (fun o => o = .brk (znc l, ())) ?_ (0#64, l, (l.length : Int), 0, ()) ⟨0, rfl, by omega⟩ (wy (by simp; omega))).elim fun o h => ?_
  rotate_left
  · rw [h.1, h.2]; rfl
  · rintro _ ⟨i, rfl, hi⟩
    rw [zoY, zm]
    rcases Nat.lt_or_ge i l.length with hlt | hge
    · have hx := List.getElem?_eq_getElem hlt
      rw [if_pos (by omega), xu hx, Option.bind_some, zkW, Option.bind_some, yS (by omega)]
      refine ⟨_, rfl, ⟨i + 1, ?_, hlt⟩, ?_⟩
      · rw [List.take_add_one, hx]; simp only [Option.toList_some, List.foldl_append, List.foldl_cons, List.foldl_nil]
      · show l.length - ((i + 1 : Nat) : Int).toNat < l.length - (i : Int).toNat
        omega
    · rw [if_neg (by omega)]
      have : i = l.length := by omega
      subst this
      exact ⟨_, rfl, by rw [List.take_length]; rfl⟩
theorem zsX {p : zd} (hl : p.Regs.length < 1000000) (hr : ∀ r ∈ p.Regs, r.length < 1000000) : zfn p = some (XQ p, ()) := by
  rw [znh]
  refine (vw (f := zaA) (fun a => ∃ i : Nat, a = ((p.Regs.take i).foldl (fun s l => s ||| znc l) p.Roots, p.Regs, (p.Regs.length : Int), (i : Int), ()) ∧ i ≤ p.Regs.length) (fun a => p.Regs.length - a.2.2.2.1.toNat) (fun o => o = .brk (XQ p, ())) ?_ (p.Roots, p.Regs, (p.Regs.length : Int), 0, ()) ⟨0, rfl, by omega⟩ (wy (by simp; omega))).elim fun o h => ?_
  rotate_left
  · rw [h.1, h.2]; rfl
  · rintro _ ⟨i, rfl, hi⟩
    rw [zkE, zm]
    rcases Nat.lt_or_ge i p.Regs.length with hlt | hge
    · have hx := List.getElem?_eq_getElem hlt
      rw [if_pos (by omega), xu hx, Option.bind_some, zwd (hr _ (List.getElem_mem hlt)), Option.bind_some, yS (by omega)]
      refine ⟨_, rfl, ⟨i + 1, ?_, hlt⟩, ?_⟩
      · rw [List.take_add_one, hx]; simp only [Option.toList_some, List.foldl_append, List.foldl_cons, List.foldl_nil]
      · show p.Regs.length - ((i + 1 : Nat) : Int).toNat < p.Regs.length - (i : Int).toNat
        omega
    · rw [if_neg (by omega)]
      have : i = p.Regs.length := by omega
      subst this
      exact ⟨_, rfl, by rw [List.take_length]; rfl⟩
theorem ztS {l : List (List Int)} (hl : l.length < 1000000) (h : ∀ r ∈ l, r.length < 1000000) : wi l = some (l, ()) := by
  have key : ∀ n : Int, n = (l.length : Int) → yD yB (n, 0, l, ()) = some (.brk (l, ())) := by
    rintro _ rfl
    refine (vw (f := yB) (fun a => ∃ i : Nat, a = ((l.length : Int), (i : Int), l, ()) ∧ i ≤ l.length) (fun a => l.length - a.2.1.toNat) (fun o => o = .brk (l, ())) ?_ ((l.length : Int), 0, l, ()) ⟨0, rfl, by omega⟩ (wy (by simp; omega))).elim fun o h => ?_
    rotate_left
    · rw [h.1, h.2]
    · rintro _ ⟨i, rfl, hi⟩
      rw [Yy, zm]
      rcases Nat.lt_or_ge i l.length with hlt | hge
      · have hx := List.getElem?_eq_getElem hlt
        have hr := h _ (List.getElem_mem hlt)
        have e : xT l (i : Int) = some i := by rw [u5 (by omega) (by omega)]; simp
        rw [if_pos (by omega), e]
        simp only [Option.bind_some]
        rw [hx, Option.bind_some, Wu (by omega), Option.bind_some, yS (by omega)]
        refine ⟨_, rfl, ⟨i + 1, by simp, hlt⟩, ?_⟩
        show l.length - ((i + 1 : Nat) : Int).toNat < l.length - (i : Int).toNat
        omega
      · rw [if_neg (by omega)]
        have : i = l.length := by omega
        subst this
        exact ⟨_, rfl, rfl⟩
  have hc : YG (l.length : Int) = some l.length := by rw [zfE (by omega) (by omega)]; simp
  rw [Y6]
  simp only [decide_true, cond_true, hc, Option.bind_some, List.length_replicate]
  cases l with
  | nil => simp; rw [key 0 rfl]; rfl
  | cons a r => simp only [List.isEmpty_cons, cond_false]; rw [key _ rfl]; rfl
def zia (cap : Int) : List (BitVec 64) := [1#64, 1#64] ++ List.replicate cap.toNat 0#64
theorem zr3 {c : Int} (h : 1 ≤ c) (h2 : c ≤ 64) : zdG c = some (zia c, ()) := by
  have e : (if 64 < (if c < 1 then (1 : Int) else c) then (64 : Int) else (if c < 1 then (1 : Int) else c)) = c := by
    rw [if_neg (show ¬ c < 1 by omega), if_neg (by omega)]
  have w : w64 (2 + c) = 2 + c := yh (by omega) (by omega)
  have hc : YG (2 + c) = some (2 + c.toNat) := by rw [zfE (by omega) (by omega)]; congr 1; omega
  rw [zmf]
  simp only [zm, e, w, if_true, hc, Option.bind_some]
  rw [u5 (by omega) (by simp; omega), Option.bind_some, u5 (by omega) (by simp; omega), Option.bind_some]
  have e2 : List.replicate (2 + c.toNat) 0#64 = 0#64 :: 0#64 :: List.replicate c.toNat 0#64 := by rw [Nat.add_comm 2]; rfl
  rw [e2]; rfl
theorem ztp {m : Int} (h : 0 ≤ m) (h2 : m ≤ 16) : zfw m = some (⟨0, 0, 0, List.replicate m.toNat 0⟩, ()) := by
  have e : (if (if 16 < m then (16 : Int) else m) < 0 then (0 : Int) else (if 16 < m then (16 : Int) else m)) = m := by
    rw [if_neg (show ¬ 16 < m by omega), if_neg (by omega)]
  have hc : YG m = some m.toNat := zfE (by omega) (by omega)
  rw [znU]
  simp only [zm, e, if_true, hc, Option.bind_some]
def links (m : List (BitVec 64)) (next : Int) : List Int → List (BitVec 64)
  | [] => m
  | [a] => st m (wc (next + a)) 0#64
  | a :: b :: l => links (st m (wc (next + a)) (BitVec.ofInt 64 b)) next (b :: l)
def zji (m : List (BitVec 64)) (head next : Int) (l : List Int) : List (BitVec 64) := st (links m next l) head (XR 0#64 (l.headD 0))
theorem WS (m : List (BitVec 64)) (a : Int) (v : BitVec 64) : (st m a v).length = m.length := by unfold st; split <;> simp
theorem zgF : ∀ (l : List Int) (m : List (BitVec 64)) (n : Int), (links m n l).length = m.length
  | [], _, _ => rfl
  | [a], m, n => WS _ _ _
  | a :: b :: l, m, n => by simp only [links]; rw [zgF (b :: l), WS]
theorem zlZ (m : List (BitVec 64)) (h n : Int) (l : List Int) : (zji m h n l).length = m.length := by unfold zji; rw [WS, zgF]
theorem zmk {head next : Int} {l : List Int} (hl : l.length < 1000000) : ∀ (k : Nat) (m : List (BitVec 64)) (i : Nat), l.length - i = k → i ≤ l.length → m.length < 4294967296 →
    ∀ n, k < n → uk zcn n (m, head, next, l, (l.length : Int), (i : Int), ()) = some (.brk (links m next (l.drop i), head, l, ()))
  | 0, m, i, hk, hi, hm, n + 1, hn => by
    have : i = l.length := by omega
    subst this
    simp only [uk]
    rw [zdS, zm, if_neg (by omega), Option.bind_some, List.drop_length]; rfl
  | k + 1, m, i, hk, hi, hm, n + 1, hn => by
    have hlt : i < l.length := by omega
    have hx := List.getElem?_eq_getElem hlt
    simp only [uk]
    rw [zdS, zm, if_pos (by omega), yS (by omega), zm, xm]
    by_cases h2 : i + 1 < l.length
    · have hy := List.getElem?_eq_getElem h2
      have ed : l.drop i = l[i] :: l[i + 1] :: l.drop (i + 2) := by
        rw [List.drop_eq_getElem_cons hlt, List.drop_eq_getElem_cons h2]
      rw [if_pos (by omega), xu hy, Option.bind_some, xu hx, Option.bind_some, UE hm, Option.bind_some, Option.bind_some]
      dsimp only
      rw [zmk hl k _ (i + 1) (by omega) (by omega) (by rw [WS]; exact hm) n (by omega), ed]
      rw [List.drop_eq_getElem_cons h2]; rfl
    · have ed : l.drop i = [l[i]] := by
        rw [List.drop_eq_getElem_cons hlt, List.drop_eq_nil_of_le (by omega)]
      rw [if_neg (by omega), xu hx, Option.bind_some, UE hm, Option.bind_some, Option.bind_some]
      dsimp only
      rw [zmk hl k _ (i + 1) (by omega) (by omega) (by rw [WS]; exact hm) n (by omega), ed, List.drop_eq_nil_of_le (by omega)]
      rfl
theorem zpj {m : List (BitVec 64)} (hm : m.length < 4294967296) {head next : Int} {l : List Int} (hl : l.length < 1000000) : zcq m head next l = some (zji m head next l, ()) := by
  have e := zmk (head := head) (next := next) hl l.length m 0 (by omega) (by omega) hm Yj (wy (by omega))
  rw [show ((0 : Nat) : Int) = 0 from rfl] at e
  rw [zoj, VF, e]
  simp only [Option.bind_some, List.drop_zero, zm]
  unfold zji
  cases l with
  | nil =>
    rw [if_neg (by simp), zee, Option.bind_some, UE (by rw [zgF]; exact hm)]; rfl
  | cons a r =>
    have : idx (a :: r) 0 = some a := by rw [wS (by omega)]; rfl
    rw [if_pos (by simp), this, Option.bind_some, zee, Option.bind_some, UE (by rw [zgF]; exact hm)]; rfl
def zp3 : Nat → BitVec 64 → Option (List Int)
  | 0, _ => none
  | f + 1, s => bif decide (s = 0#64) then some [] else (zp3 f (s &&& (s - 1#64))).map fun l => (((Go.Lib.ctz 64 s.toNat : Nat) : Int) + 1) :: l
theorem zrT : ∀ t : Fin 64, zp3 66 (BitVec.ofNat 64 t.1) = some (((List.range 6).filter fun i => (BitVec.ofNat 64 t.1).getLsbD i).map fun i : Nat => (i : Int) + 1) := by decide +kernel
def zcw (s : BitVec 64) : List Int := ((List.range 6).filter fun i => s.getLsbD i).map fun i : Nat => (i : Int) + 1
theorem zqT {s : BitVec 64} (h : s &&& ~~~63#64 = 0#64) : ∃ t : Fin 64, s = BitVec.ofNat 64 t.1 := by
  have h2 : s = s &&& 63#64 := by
    apply BitVec.eq_of_getLsbD_eq
    intro i hi
    have := congrArg (fun x => x.getLsbD i) h
    simp only [BitVec.getLsbD_and, BitVec.getLsbD_not, hi, decide_true, Bool.true_and, BitVec.getLsbD_zero] at this ⊢
    cases h1 : s.getLsbD i <;> cases h3 : (63#64 : BitVec 64).getLsbD i <;> simp_all
  have h3 : s.toNat < 64 := by
    rw [h2, BitVec.toNat_and]
    exact Nat.lt_of_le_of_lt Nat.and_le_right (by decide)
  exact ⟨⟨s.toNat, h3⟩, by simp⟩
theorem zwW : ∀ t : Fin 64, Go.Lib.ctz 64 t.1 ≤ 64 := by decide +kernel
theorem zpz : ∀ (f : Nat) (s : BitVec 64), s.toNat < 64 → zan f s = zp3 f s
  | 0, _, _ => rfl
  | f + 1, s, h => by
    simp only [zan, zp3]
    rw [zpz f _ (by rw [BitVec.toNat_and]; exact Nat.lt_of_le_of_lt Nat.and_le_left h)]
    have : Go.Lib.ctz 64 s.toNat ≤ 64 := zwW ⟨s.toNat, h⟩
    have e : w64 (tz s + 1) = ((Go.Lib.ctz 64 s.toNat : Nat) : Int) + 1 := by
      unfold tz
      exact yh (by omega) (by omega)
    rw [e]
theorem znM : ∀ (l acc : List Int), (acc.length + l.length) < 4294967296 → Zs zdH l (acc, ()) = some (acc ++ l, ())
  | [], acc, _ => by simp [Zs]
  | a :: l, acc, h => by
    simp only [List.length_cons] at h
    rw [Zs, zl9, wn (by simp; omega), Option.bind_some, Option.bind_some, znM l _ (by simp; omega)]
    simp
theorem zub (s : BitVec 64) : (zcw s).length ≤ 6 := by
  unfold zcw
  rw [List.length_map]
  exact Nat.le_trans (List.length_filter_le _ _) (by simp)
theorem zuM {s : BitVec 64} (h : s &&& ~~~63#64 = 0#64) : zja s = some (zcw s, ()) := by
  obtain ⟨t, rfl⟩ := zqT h
  have e : zjR (BitVec.ofNat 64 t.1) = some (zcw (BitVec.ofNat 64 t.1)) := by
    show zan 66 _ = _
    rw [zpz 66 _ (by simp; omega), zrT t]; rfl
  have := zub (BitVec.ofNat 64 t.1)
  rw [zpV, zpR, Option.bind_some, e, Option.bind_some, znM _ _ (by simp; omega)]
  rfl
theorem znS (n : Nat) (hn : 1 ≤ n) : ∀ (f : Nat) (l : List Int), (Zm n f l).length ≤ l.length
  | 0, l => by simp [Zm]
  | f + 1, [] => by simp [Zm]
  | f + 1, x :: l => by
    have := znS n hn f ((x :: l).drop n)
    simp only [Zm, List.length_cons, List.length_drop] at this ⊢
    omega
theorem zhE (n : Nat) : ∀ (f : Nat) (l c : List Int), c ∈ Zm n f l → c.length ≤ l.length
  | 0, l, c, h => by simp [Zm] at h
  | f + 1, [], c, h => by simp [Zm] at h
  | f + 1, x :: l, c, h => by
    simp only [Zm, List.mem_cons] at h
    rcases h with rfl | h
    · rw [List.length_take]; exact Nat.min_le_right _ _
    · have := zhE n f _ c h
      simp only [List.length_drop] at this
      omega
def VL (p : zd) (w : Nat) : zj := ⟨0, 0, 0, (w : Int) + 1, 0, [], ⟨2, 0, ZJ p ((w : Int) + 1), p.Cap, 0#64, 0#64, 0, 0⟩, ⟨0, 0, 0, 0, 0#64, 0, 0, 0⟩, ⟨0, 0, 0, 0, ⟨0, 0, 0, 0, 0#64, 0#64, 0, 0⟩, ⟨0, 0, 0, 0, 0#64, 0, 0, 0⟩, 0, 0⟩⟩
def Wi (p : zd) (k : Nat) : List (BitVec 64) := (List.range k).flatMap fun _ => zia p.Cap
theorem zm1 (c : Int) : (zia c).length = c.toNat + 2 := by unfold zia; rw [List.length_append, List.length_replicate]; exact Nat.add_comm _ _
theorem zlu (p : zd) (k : Nat) : Wi p (k + 1) = Wi p k ++ zia p.Cap := by unfold Wi; rw [List.range_succ, List.flatMap_append]; simp
theorem zea (p : zd) : ∀ k, (Wi p k).length = k * (p.Cap.toNat + 2)
  | 0 => by simp [Wi]
  | k + 1 => by rw [zlu, List.length_append, zea p k, zm1, Nat.succ_mul]
theorem zwy {p : zd} {s1 : BitVec 64} {s5 : Int} {s6 : Int} {s7 : Int} {s8 : Int} {s9 : Int} {s10 : Int} {s11 : Int} {s12 : Int} {s13 : Int} {s14 : BitVec 64} {s15 : Int} {s16 : zr} {s17 : Int} {s18 : Int} {s19 : Bool} {s20 : Bool} {s21 : Int} {s22 : Int} {s23 : Int} {s24 : Int} {s25 : zq} {s26 : zd} {s27 : Int} {s28 : zr} {s29 : Int} {s30 : Int} {s31 : Bool} {s32 : Bool} {s33 : Int} {s34 : zk} {s35 : zq} {s36 : List (List Int)} {s37 : List (List Int)} {s38 : List (List zg)} {s39 : List zi} {s40 : List (List Int)} {s41 : List (BitVec 64)} {s42 : List (List Int)} {s43 : List Int} {s44 : List Int} {s45 : List zj} {s46 : List zb} {s47 : List (List Int)} {s49 : List (List Int)} {s50 : List Int} {s52 : List zb} (hp : z8 p) :
    yD VM (s1, p.Workers, 0, p, s5, s6, s7, s8, s9, s10, s11, s12, s13, s14, s15, s16, s17, s18, s19, s20, s21, s22, s23, s24, s25, s26, s27, s28, s29, s30, s31, s32, s33, s34, s35, s36, s37, s38, s39, s40, s41, s42, s43, s44, s45, s46, s47, [], s49, s50, [], s52, ()) = some (.brk (s1, p, s5, s6, s7, s8, s9, s10, s11, s12, s13, s14, s15, s16, s17, s18, s19, s20, s21, s22, s23, s24, s25, s26, s27, s28, s29, s30, s31, s32, s33, s34, s35, s36, s37, s38, s39, s40, s41, s42, s43, s44, s45, s46, s47, (Wi p p.Workers.toNat), s49, s50, ((List.range p.Workers.toNat).map (VL p)), s52, ())) := by
  have hw := hp.wk
  have hc := hp.cap
  refine (vw (f := VM) (fun a => ∃ i : Nat, a = (s1, p.Workers, (i : Int), p, s5, s6, s7, s8, s9, s10, s11, s12, s13, s14, s15, s16, s17, s18, s19, s20, s21, s22, s23, s24, s25, s26, s27, s28, s29, s30, s31, s32, s33, s34, s35, s36, s37, s38, s39, s40, s41, s42, s43, s44, s45, s46, s47, (Wi p i), s49, s50, ((List.range i).map (VL p)), s52, ()) ∧ (i : Int) ≤ p.Workers) (fun a => (p.Workers - a.2.2.1).toNat) (fun o => o = .brk (s1, p, s5, s6, s7, s8, s9, s10, s11, s12, s13, s14, s15, s16, s17, s18, s19, s20, s21, s22, s23, s24, s25, s26, s27, s28, s29, s30, s31, s32, s33, s34, s35, s36, s37, s38, s39, s40, s41, s42, s43, s44, s45, s46, s47, (Wi p p.Workers.toNat), s49, s50, ((List.range p.Workers.toNat).map (VL p)), s52, ())) ?_ (s1, p.Workers, 0, p, s5, s6, s7, s8, s9, s10, s11, s12, s13, s14, s15, s16, s17, s18, s19, s20, s21, s22, s23, s24, s25, s26, s27, s28, s29, s30, s31, s32, s33, s34, s35, s36, s37, s38, s39, s40, s41, s42, s43, s44, s45, s46, s47, [], s49, s50, [], s52, ()) ⟨0, rfl, by omega⟩ (wy (by dsimp only; omega))).elim fun o h => ?_
  rotate_left
  · rw [h.1, h.2]
  · rintro _ ⟨i, rfl, hi⟩
    rw [zlp, zm]
    by_cases hlt : (i : Int) < p.Workers
    · have hl := zea p i
      have hl2 := zm1 p.Cap
      have hb : i * (p.Cap.toNat + 2) ≤ 3 * 5 := Nat.mul_le_mul (by omega) (by omega)
      rw [if_pos hlt, zr3 hc.1 (by omega), Option.bind_some, wn (l := Wi p i ++ zia p.Cap) (by rw [List.length_append]; omega), Option.bind_some, zlw, Option.bind_some, zeZ, Option.bind_some, wn (by simp <;> omega), Option.bind_some, yS (by omega)]
      refine ⟨_, rfl, ⟨i + 1, ?_, by omega⟩, ?_⟩
      · rw [zlu, List.range_succ, List.map_append]; rfl
      · show (p.Workers - ((i + 1 : Nat) : Int)).toNat < (p.Workers - (i : Int)).toNat
        omega
    · rw [if_neg hlt]
      have : i = p.Workers.toNat := by omega
      subst this
      exact ⟨_, rfl, rfl⟩
def Ym (k : Nat) : List Int := (List.range k).map fun i : Nat => (i : Int) + 1
theorem zqk (k : Nat) : (Ym k).length = k := by simp [Ym]
theorem zvL {b : Int} {s1 : BitVec 64} {s4 : zd} {s5 : Int} {s6 : Int} {s7 : Int} {s8 : Int} {s9 : Int} {s10 : Int} {s11 : Int} {s12 : Int} {s13 : Int} {s14 : BitVec 64} {s15 : Int} {s16 : zr} {s17 : Int} {s18 : Int} {s19 : Bool} {s20 : Bool} {s21 : Int} {s22 : Int} {s23 : Int} {s24 : Int} {s25 : zq} {s26 : zd} {s27 : Int} {s28 : zr} {s29 : Int} {s30 : Int} {s31 : Bool} {s32 : Bool} {s33 : Int} {s34 : zk} {s35 : zq} {s37 : List (List Int)} {s38 : List (List Int)} {s39 : List (List zg)} {s40 : List zi} {s41 : List (List Int)} {s42 : List (BitVec 64)} {s43 : List (List Int)} {s44 : List Int} {s45 : List Int} {s46 : List zj} {s47 : List zb} {s48 : List (List Int)} {s49 : List (BitVec 64)} {s50 : List (List Int)} {s51 : List Int} {s52 : List zj} {s53 : List zb} (hb : 0 ≤ b ∧ b < 1000) :
    yD Vf (s1, b, 0, s4, s5, s6, s7, s8, s9, s10, s11, s12, s13, s14, s15, s16, s17, s18, s19, s20, s21, s22, s23, s24, s25, s26, s27, s28, s29, s30, s31, s32, s33, s34, s35, [], s37, s38, s39, s40, s41, s42, s43, s44, s45, s46, s47, s48, s49, s50, s51, s52, s53, ()) = some (.brk (s1, s4, s5, s6, s7, s8, s9, s10, s11, s12, s13, s14, s15, s16, s17, s18, s19, s20, s21, s22, s23, s24, s25, s26, s27, s28, s29, s30, s31, s32, s33, s34, s35, (Ym b.toNat), s37, s38, s39, s40, s41, s42, s43, s44, s45, s46, s47, s48, s49, s50, s51, s52, s53, ())) := by
  refine (vw (f := Vf) (fun a => ∃ i : Nat, a = (s1, b, (i : Int), s4, s5, s6, s7, s8, s9, s10, s11, s12, s13, s14, s15, s16, s17, s18, s19, s20, s21, s22, s23, s24, s25, s26, s27, s28, s29, s30, s31, s32, s33, s34, s35, (Ym i), s37, s38, s39, s40, s41, s42, s43, s44, s45, s46, s47, s48, s49, s50, s51, s52, s53, ()) ∧ (i : Int) ≤ b) (fun a => (b - a.2.2.1).toNat) (fun o => o = .brk (s1, s4, s5, s6, s7, s8, s9, s10, s11, s12, s13, s14, s15, s16, s17, s18, s19, s20, s21, s22, s23, s24, s25, s26, s27, s28, s29, s30, s31, s32, s33, s34, s35, (Ym b.toNat), s37, s38, s39, s40, s41, s42, s43, s44, s45, s46, s47, s48, s49, s50, s51, s52, s53, ())) ?_ (s1, b, 0, s4, s5, s6, s7, s8, s9, s10, s11, s12, s13, s14, s15, s16, s17, s18, s19, s20, s21, s22, s23, s24, s25, s26, s27, s28, s29, s30, s31, s32, s33, s34, s35, [], s37, s38, s39, s40, s41, s42, s43, s44, s45, s46, s47, s48, s49, s50, s51, s52, s53, ()) ⟨0, rfl, by omega⟩ (wy (by dsimp only; omega))).elim fun o h => ?_
  rotate_left
  · rw [h.1, h.2]
  · rintro _ ⟨i, rfl, hi⟩
    rw [zjQ, zm]
    by_cases hlt : (i : Int) < b
    · have := zqk i
      rw [if_pos hlt, wn (by rw [List.length_append]; simp; omega), Option.bind_some, yS (by omega)]
      refine ⟨_, rfl, ⟨i + 1, ?_, by omega⟩, ?_⟩
      · unfold Ym; rw [List.range_succ, List.map_append]; rfl
      · show (b - ((i + 1 : Nat) : Int)).toNat < (b - (i : Int)).toNat
        omega
    · rw [if_neg hlt]
      have : i = b.toNat := by omega
      subst this
      exact ⟨_, rfl, rfl⟩
theorem zsv {s1 : zd} {s2 : Int} {s3 : Int} {s4 : Int} {s5 : Int} {s6 : Int} {s7 : Int} {s8 : Int} {s9 : Int} {s10 : Int} {s11 : BitVec 64} {s12 : Int} {s13 : zr} {s14 : Int} {s15 : Int} {s16 : Bool} {s17 : Bool} {s18 : Int} {s19 : Int} {s20 : Int} {s21 : Int} {s22 : zq} {s23 : zd} {s24 : Int} {s25 : zr} {s26 : Int} {s27 : Int} {s28 : Bool} {s29 : Bool} {s30 : Int} {s31 : zk} {s32 : zq} {s33 : List Int} {s34 : List (List Int)} {s35 : List (List Int)} {s36 : List (List zg)} {s37 : List zi} {s38 : List (List Int)} {s39 : List (BitVec 64)} {s40 : List (List Int)} {s41 : List Int} {s42 : List Int} {s43 : List zj} {s44 : List zb} {s45 : List (List Int)} {s46 : List (BitVec 64)} {s48 : List Int} {s49 : List zj} {s50 : List zb} : ∀ (ys acc : List (List Int)), acc.length + ys.length < 1000000 → (∀ c ∈ ys, c.length < 1000000) → Zs za0 ys (s1, s2, s3, s4, s5, s6, s7, s8, s9, s10, s11, s12, s13, s14, s15, s16, s17, s18, s19, s20, s21, s22, s23, s24, s25, s26, s27, s28, s29, s30, s31, s32, s33, s34, s35, s36, s37, s38, s39, s40, s41, s42, s43, s44, s45, s46, acc, s48, s49, s50, ()) = some (s1, s2, s3, s4, s5, s6, s7, s8, s9, s10, s11, s12, s13, s14, s15, s16, s17, s18, s19, s20, s21, s22, s23, s24, s25, s26, s27, s28, s29, s30, s31, s32, s33, s34, s35, s36, s37, s38, s39, s40, s41, s42, s43, s44, s45, s46, (acc ++ ys), s48, s49, s50, ())
  | [], acc, _, _ => by simp [Zs]
  | y :: ys, acc, h, hc => by
    simp only [List.length_cons] at h
    have hy := hc y (List.mem_cons_self ..)
    rw [Zs, zks, Wu (by omega), Option.bind_some, wn (by simp <;> omega), Option.bind_some, Option.bind_some, zsv ys _ (by simp <;> omega) (fun c h' => hc c (List.mem_cons_of_mem _ h'))]
    simp
def vf (r : List Int) : zb := ⟨0, 0, 0, 0, 0, 0, 0, 0, r, [], [], ⟨0, 0, 0, 0, 0#64, 0, 0, 0⟩, ⟨0, 0, 0, 0, ⟨0, 0, 0, 0, 0#64, 0#64, 0, 0⟩, ⟨0, 0, 0, 0, 0#64, 0, 0, 0⟩, 0, 0⟩⟩
theorem zv2 {p : zd} {s4 : Int} {s5 : Int} {s6 : Int} {s7 : Int} {s8 : Int} {s9 : Int} {s10 : Int} {s11 : Int} {s12 : Int} {s13 : BitVec 64} {s14 : Int} {s15 : zr} {s16 : Int} {s17 : Int} {s18 : Bool} {s19 : Bool} {s20 : Int} {s21 : Int} {s22 : Int} {s23 : Int} {s24 : zq} {s25 : zd} {s26 : Int} {s27 : List (BitVec 64)} {s28 : zr} {s29 : Int} {s30 : Int} {s31 : Bool} {s32 : Bool} {s33 : Int} {s34 : zk} {s35 : zq} {s36 : List (List Int)} {s37 : List (List Int)} {s38 : List (List zg)} {s39 : List zi} {s40 : List (List Int)} {s41 : List (BitVec 64)} {s42 : List (List Int)} {s43 : List Int} {s44 : List Int} {s45 : List zj} {s46 : List zb} {s47 : List (List Int)} {s48 : List (List Int)} {s49 : List Int} {s50 : List zj} (hl : p.Regs.length < 1000000) (hr : ∀ r ∈ p.Regs, r.length < 1000000) :
    yD Vj (p.Regs, (p.Regs.length : Int), 0, s4, s5, s6, s7, s8, s9, s10, s11, s12, s13, s14, s15, s16, s17, s18, s19, s20, s21, s22, s23, s24, s25, s26, s27, s28, s29, s30, s31, s32, s33, s34, s35, s36, s37, s38, s39, s40, s41, s42, s43, s44, s45, s46, s47, s48, s49, s50, [], ()) = some (.brk (s4, s5, s6, s7, s8, s9, s10, s11, s12, s13, s14, s15, s16, s17, s18, s19, s20, s21, s22, s23, s24, s25, s26, s27, s28, s29, s30, s31, s32, s33, s34, s35, s36, s37, s38, s39, s40, s41, s42, s43, s44, s45, s46, s47, s48, s49, s50, (p.Regs.map vf), ())) := by
  refine (vw (f := Vj) (fun a => ∃ i : Nat, a = (p.Regs, (p.Regs.length : Int), (i : Int), s4, s5, s6, s7, s8, s9, s10, s11, s12, s13, s14, s15, s16, s17, s18, s19, s20, s21, s22, s23, s24, s25, s26, s27, s28, s29, s30, s31, s32, s33, s34, s35, s36, s37, s38, s39, s40, s41, s42, s43, s44, s45, s46, s47, s48, s49, s50, ((p.Regs.take i).map vf), ()) ∧ i ≤ p.Regs.length) (fun a => p.Regs.length - a.2.2.1.toNat) (fun o => o = .brk (s4, s5, s6, s7, s8, s9, s10, s11, s12, s13, s14, s15, s16, s17, s18, s19, s20, s21, s22, s23, s24, s25, s26, s27, s28, s29, s30, s31, s32, s33, s34, s35, s36, s37, s38, s39, s40, s41, s42, s43, s44, s45, s46, s47, s48, s49, s50, (p.Regs.map vf), ())) ?_ (p.Regs, (p.Regs.length : Int), 0, s4, s5, s6, s7, s8, s9, s10, s11, s12, s13, s14, s15, s16, s17, s18, s19, s20, s21, s22, s23, s24, s25, s26, s27, s28, s29, s30, s31, s32, s33, s34, s35, s36, s37, s38, s39, s40, s41, s42, s43, s44, s45, s46, s47, s48, s49, s50, [], ()) ⟨0, rfl, by omega⟩ (wy (by dsimp only; omega))).elim fun o h => ?_
  rotate_left
  · rw [h.1, h.2]
  · rintro _ ⟨i, rfl, hi⟩
    rw [zjK, zm]
    rcases Nat.lt_or_ge i p.Regs.length with hlt | hge
    · have hx := List.getElem?_eq_getElem hlt
      have hh := hr _ (List.getElem_mem hlt)
      rw [if_pos (by omega), xu hx, Option.bind_some, Wu (by omega), Option.bind_some, wn (by simp <;> omega), Option.bind_some, yS (by omega)]
      refine ⟨_, rfl, ⟨i + 1, ?_, hlt⟩, ?_⟩
      · rw [List.take_add_one, hx, List.map_append]; rfl
      · show p.Regs.length - ((i + 1 : Nat) : Int).toNat < p.Regs.length - (i : Int).toNat
        omega
    · rw [if_neg (by omega)]
      have : i = p.Regs.length := by omega
      subst this
      exact ⟨_, rfl, by rw [List.take_length]⟩
def xG (p : zd) : Nat := (p.Most + p.Workers + p.Mutators).toNat
def uE (p : zd) : List (List Int) := Zm p.Bin.toNat (zcw (XQ p)).length (zcw (XQ p))
def vy (p : zd) : zc :=
  { P := p, H := p.H,
    M := zji (zji (Wi p p.Workers.toNat ++ List.replicate (2 + xG p) 0#64) (vq p) (yO p) ((Ym (xG p)).take (uE p).length)) (yO p) (yO p) ((Ym (xG p)).drop (uE p).length),
    Bins := [[]] ++ uE p ++ List.replicate (xG p - (uE p).length) [],
    T := ⟨XQ p, 0#64⟩, Work := cnt (XQ p), Epoch := 0, Flag := false, Done := false, Restarts := 0,
    Acks := List.replicate p.Mutators.toNat 0, L := ⟨0, 0, 0, List.replicate p.Mutators.toNat 0⟩,
    Ws := (List.range p.Workers.toNat).map (VL p), Ms := p.Regs.map vf, D := ⟨0, 0⟩ }
theorem zxe : ∀ r : Fin 7, bit (r.1 : Int) &&& ~~~63#64 = 0#64 := by decide
theorem zuq {r n : Int} (h : 0 ≤ r) (h2 : r ≤ n) (h3 : n ≤ 6) : bit r &&& ~~~Ux n = 0#64 := by
  have := zps ⟨r.toNat, by omega⟩ ⟨n.toNat, by omega⟩ (by show r.toNat ≤ n.toNat; omega)
  simpa [Int.toNat_of_nonneg h, Int.toNat_of_nonneg (show 0 ≤ n by omega)] using this
theorem zro {a b c : BitVec 64} (ha : a &&& ~~~c = 0#64) (hb : b &&& ~~~c = 0#64) : (a ||| b) &&& ~~~c = 0#64 := by
  apply BitVec.eq_of_getLsbD_eq
  intro i hi
  have h1 := congrArg (fun x => x.getLsbD i) ha
  have h2 := congrArg (fun x => x.getLsbD i) hb
  simp only [BitVec.getLsbD_and, BitVec.getLsbD_or, BitVec.getLsbD_not, BitVec.getLsbD_zero, hi, decide_true, Bool.true_and] at h1 h2 ⊢
  revert h1 h2
  generalize a.getLsbD i = x
  generalize b.getLsbD i = y
  generalize c.getLsbD i = z
  cases x <;> cases y <;> cases z <;> decide
theorem ztb {c : BitVec 64} {l : List Int} (h : ∀ o ∈ l, bit o &&& ~~~c = 0#64) : ∀ (z : BitVec 64), z &&& ~~~c = 0#64 → l.foldl (fun s o => s ||| bit o) z &&& ~~~c = 0#64 := by
  induction l with
  | nil => intro z hz; exact hz
  | cons a l ih => intro z hz; exact ih (fun o ho => h o (List.mem_cons_of_mem _ ho)) _ (zro hz (h a (List.mem_cons_self ..)))
theorem zlx {p : zd} (h : z8 p) : XQ p &&& ~~~Ux (p.H.Objs.length : Int) = 0#64 := by
  have hn := h.n
  have key : ∀ (L : List (List Int)) (z : BitVec 64), (∀ r ∈ L, ∀ v ∈ r, 0 ≤ v ∧ v ≤ (p.H.Objs.length : Int)) → z &&& ~~~Ux (p.H.Objs.length : Int) = 0#64 → L.foldl (fun s l => s ||| znc l) z &&& ~~~Ux (p.H.Objs.length : Int) = 0#64 := by
    intro L
    induction L with
    | nil => intro z _ hz; exact hz
    | cons r L ih =>
      intro z hr hz
      refine ih _ (fun r' h' => hr r' (List.mem_cons_of_mem _ h')) (zro hz (ztb (fun o ho => ?_) _ (by simp)))
      have := hr r (List.mem_cons_self ..) o ho
      exact zuq this.1 this.2 hn.2
  exact key _ _ (fun r hr => (h.reg r hr).2) (zlv h)
theorem zrF {a b c : BitVec 64} (h : a &&& ~~~b = 0#64) (h2 : b &&& ~~~c = 0#64) : a &&& ~~~c = 0#64 := by
  apply BitVec.eq_of_getLsbD_eq
  intro i hi
  have h1 := congrArg (fun x => x.getLsbD i) h
  have h2 := congrArg (fun x => x.getLsbD i) h2
  simp only [BitVec.getLsbD_and, BitVec.getLsbD_not, BitVec.getLsbD_zero, hi, decide_true, Bool.true_and] at h1 h2 ⊢
  revert h1 h2
  generalize a.getLsbD i = x
  generalize b.getLsbD i = y
  generalize c.getLsbD i = z
  cases x <;> cases y <;> cases z <;> decide
theorem zrI : ∀ n : Fin 7, Ux (n.1 : Int) &&& ~~~63#64 = 0#64 := by decide
theorem zlB {p : zd} (h : z8 p) : XQ p &&& ~~~63#64 = 0#64 := by
  have hn := h.n
  refine zrF (zlx h) ?_
  exact zrI ⟨p.H.Objs.length, by omega⟩
theorem zsC : ∀ (n : Fin 7) (t : Fin 64), BitVec.ofNat 64 t.1 &&& ~~~Ux (n.1 : Int) = 0#64 → (zcw (BitVec.ofNat 64 t.1)).length ≤ n.1 := by decide +kernel
theorem zjZ {p : zd} (h : z8 p) : (zcw (XQ p)).length ≤ p.H.Objs.length := by
  have hn := h.n
  obtain ⟨t, ht⟩ := zqT (zlB h)
  have h2 := zlx h
  rw [ht] at h2 ⊢
  exact zsC ⟨p.H.Objs.length, by omega⟩ t h2
theorem zrC {p : zd} (h : z8 p) : (uE p).length ≤ p.H.Objs.length := by
  have hb := h.bin
  exact Nat.le_trans (znS _ (by omega) _ _) (zjZ h)
theorem zj7 {p : zd} (h : z8 p) : Uw p = some (vy p, ()) := by
  have hw := h.wk
  have hc := h.cap
  have hm := h.mt
  have hb := h.bin
  have hn := h.n
  have hmo := h.most
  have hrl := h.regs
  have hreg : ∀ r ∈ p.Regs, r.length < 1000000 := fun r hr => by have := (h.reg r hr).1; omega
  have hobj : ∀ o ∈ p.H.Objs, o.length < 1000000 := fun o ho => by have := (h.objs o ho).1; have := h.slots; omega
  have hfl := zrC h
  have hgl := zjZ h
  have hcl := zea p p.Workers.toNat
  have hcb : p.Workers.toNat * (p.Cap.toNat + 2) ≤ 3 * 5 := Nat.mul_le_mul (by omega) (by omega)
  have hbn : (xG p : Int) = p.Most + p.Workers + p.Mutators := by unfold xG; omega
  have eb : zcA p = some ((xG p : Int), ()) := by
    rw [zoi, yh (a := p.Most + p.Workers) (by omega) (by omega), yh (by omega) (by omega), hbn]
  have hul := zqk (xG p)
  have ec : WT (zcw (XQ p)) p.Bin = some (uE p) := by
    show zeS _ _ = _
    unfold zeS uE
    have c1 : (decide (1 ≤ p.Bin) && decide (p.Bin < 1000000) && decide (((zcw (XQ p)).length : Int) < 1000000)) = true := by simp <;> omega
    rw [c1]; rfl
  have cut1 : cut (Ym (xG p)) 0 ((uE p).length : Int) = some ((Ym (xG p)).take (uE p).length) := by
    unfold cut
    have : ((uE p).length : Int) ≤ ((Ym (xG p)).length : Int) := by omega
    simp [this]
  have cut2 : cut (Ym (xG p)) ((uE p).length : Int) ((Ym (xG p)).length : Int) = some ((Ym (xG p)).drop (uE p).length) := by
    unfold cut
    have : ((uE p).length : Int) ≤ ((Ym (xG p)).length : Int) := by omega
    simp [this]
  rw [zoV, ztq h]
  simp only [Option.bind_some, Bool.not_true, cond_false]
  rw [zsX (by omega) hreg]
  simp only [Option.bind_some, ztM, ztp hm.1 (show p.Mutators ≤ 16 by omega)]
  rw [ztS (by omega) hobj]
  simp only [Option.bind_some]
  rw [zwy h]
  simp only [Option.bind_some, eb]
  have e3 : (2 + (xG p : Int)).toNat = 2 + xG p := by omega
  rw [yh (a := 2 + (xG p : Int)) (by omega) (by omega), zo6 (by omega) (by omega), e3, Option.bind_some, wn (l := Wi p p.Workers.toNat ++ List.replicate (2 + xG p) 0#64) (by simp <;> omega), Option.bind_some, zvL (by omega)]
  dsimp only [Option.bind_some]
  rw [Int.toNat_natCast, zuM (zlB h), Option.bind_some, zdw, zm, if_neg (by omega), Option.bind_some, ec, Option.bind_some, zsv _ _ (by simp <;> omega) (fun c hc' => by have := zhE _ _ _ _ hc'; omega)]
  dsimp only [Option.bind_some]
  have e1 : w64 ((([[]] ++ uE p : List (List Int)).length : Int) - 1) = ((uE p).length : Int) := by
    rw [yh (by simp <;> omega) (by simp <;> omega)]; simp
  have e2 : w64 (((Ym (xG p)).length : Int) - ((uE p).length : Int)) = ((xG p - (uE p).length : Nat) : Int) := by
    rw [yh (by omega) (by omega)]; omega
  rw [e1, e2, zo6 (by omega) (by omega), Int.toNat_natCast, Option.bind_some, wn (by simp <;> omega), Option.bind_some, zeC, Option.bind_some, zdU, Option.bind_some, cut1, Option.bind_some, zpj (by simp <;> omega) (by simp <;> omega), Option.bind_some, zcz, Option.bind_some, Option.bind_some, cut2, Option.bind_some, zpj (by rw [zlZ]; simp <;> omega) (by simp <;> omega), Option.bind_some, decide_true, cond_true, zfE hm.1 (show p.Mutators < 4294967296 by omega), Option.bind_some, zv2 (by omega) hreg]
  rfl
end
end Go.Pe.G
namespace Go.Pe.G
open Go.Pe
noncomputable section
theorem zgs (h : BitVec 64) : yQ h = ((h.toNat % 4294967296 : Nat) : Int) := by
  unfold yQ
  have e : (h &&& 4294967295#64).toNat = h.toNat % 4294967296 := by
    rw [BitVec.toNat_and]
    exact Nat.and_two_pow_sub_one_eq_mod h.toNat 32
  rw [BitVec.toInt_eq_toNat_cond, e]
  omega
theorem zpa (h : BitVec 64) : 0 ≤ yQ h ∧ yQ h < 4294967296 := by rw [zgs]; omega
theorem zpq (v : BitVec 64) {n : Int} (h : 0 ≤ n) (h2 : n < 4294967296) : yQ (XR v n) = n := by
  rw [zgs]
  unfold XR
  rw [BitVec.toNat_or, BitVec.toNat_and, BitVec.toNat_shiftLeft]
  have e1 : (v.toNat <<< 32 % 2 ^ 64 ||| (BitVec.ofInt 64 n).toNat &&& (4294967295#64).toNat) % 2 ^ 32 = (v.toNat <<< 32 % 2 ^ 64) % 2 ^ 32 ||| ((BitVec.ofInt 64 n).toNat &&& (4294967295#64).toNat) % 2 ^ 32 := Nat.or_mod_two_pow
  have e2 : v.toNat <<< 32 % 2 ^ 64 % 2 ^ 32 = 0 := by rw [Nat.shiftLeft_eq]; omega
  have e3 : (BitVec.ofInt 64 n).toNat &&& (4294967295#64).toNat = n.toNat := by
    have : (BitVec.ofInt 64 n).toNat = n.toNat := by rw [BitVec.toNat_ofInt]; omega
    rw [this]
    exact (Nat.and_two_pow_sub_one_eq_mod n.toNat 32).trans (Nat.mod_eq_of_lt (by omega))
  rw [show (4294967296 : Nat) = 2 ^ 32 from rfl, e1, e2, e3, Nat.zero_or, Nat.mod_eq_of_lt (by omega)]
  omega
theorem zlK {n : Int} (h : 0 ≤ n) (h2 : n < 4294967296) : (BitVec.ofInt 64 n).toInt = n := by
  have e : (BitVec.ofInt 64 n).toNat = n.toNat := by rw [BitVec.toNat_ofInt]; omega
  rw [BitVec.toInt_eq_toNat_cond, e]
  omega
theorem znY {m : List (BitVec 64)} {a b : Int} {v : BitVec 64} : ld (st m a v) b = if a = b ∧ 0 ≤ a ∧ a < m.length then v else ld m b := by
  unfold ld st
  by_cases hb : 0 ≤ b
  · rw [if_pos hb, if_pos hb]
    by_cases ha : 0 ≤ a
    · rw [if_pos ha, List.getD_eq_getElem?_getD, List.getD_eq_getElem?_getD, List.getElem?_set]
      by_cases hab : a.toNat = b.toNat
      · have e : a = b := by omega
        subst e
        by_cases hl : a.toNat < m.length
        · rw [if_pos rfl, if_pos hl, if_pos ⟨rfl, ha, by omega⟩]; rfl
        · rw [if_pos rfl, if_neg hl, if_neg (by omega), List.getElem?_eq_none (by omega)]
      · rw [if_neg hab, if_neg (by omega)]
    · rw [if_neg ha, if_neg (by omega)]
  · rw [if_neg hb, if_neg hb, if_neg (by omega)]
theorem zby {m : List (BitVec 64)} {a b : Int} {v : BitVec 64} (h : a ≠ b) : ld (st m a v) b = ld m b := by
  rw [znY, if_neg (fun h' => h h'.1)]
theorem zag {p : zd} (h : z8 p) : vq p = p.Workers * (p.Cap + 2) ∧ 3 ≤ vq p ∧ vq p ≤ 15 := by
  have hw := h.wk
  have hc := h.cap
  unfold vq
  rw [YF (a := p.Cap + 2) (by omega) (by omega)]
  have hx : p.Workers = 1 ∨ p.Workers = 2 ∨ p.Workers = 3 := by omega
  rcases hx with hx | hx | hx <;> rw [hx, YF (by omega) (by omega)] <;> omega
theorem zbT {p : zd} (h : z8 p) : yO p = vq p + 1 := by
  have := zag h
  unfold yO
  rw [YF (by omega) (by omega)]
theorem zlR {p : zd} (h : z8 p) {w : Int} (h1 : 1 ≤ w) (h2 : w ≤ p.Workers) : ZJ p w = (w - 1) * (p.Cap + 2) ∧ 0 ≤ ZJ p w ∧ ZJ p w + p.Cap + 2 ≤ vq p := by
  have hw := h.wk
  have hc := h.cap
  have hf := (zag h).1
  unfold ZJ
  rw [YF (a := p.Cap + 2) (by omega) (by omega), YF (a := w - 1) (by omega) (by omega)]
  have hx : p.Workers = 1 ∨ p.Workers = 2 ∨ p.Workers = 3 := by omega
  have hy : w = 1 ∨ w = 2 ∨ w = 3 := by omega
  rw [hf]
  rcases hx with hx | hx | hx <;> rcases hy with hy | hy | hy <;> first | omega | (rw [hx, hy, YF (by omega) (by omega)] <;> omega)
theorem zvn {p : zd} (h : z8 p) {d : zh} {w : Int} (h1 : 1 ≤ w) (h2 : w ≤ p.Workers) (hb : d.Base = ZJ p w) (hc : d.Cap = p.Cap) (i : BitVec 64) :
    zaY d i = d.Base + 2 + ((i.toNat % p.Cap.toNat : Nat) : Int) ∧ d.Base + 2 ≤ zaY d i ∧ zaY d i < d.Base + 2 + p.Cap := by
  have hcp := h.cap
  have hd := zlR h h1 h2
  have hf := zag h
  have hs : (VP d).toNat = p.Cap.toNat := by
    unfold VP
    rw [hc, if_neg (by omega), BitVec.toNat_ofInt]
    omega
  have hlt : i.toNat % p.Cap.toNat < p.Cap.toNat := Nat.mod_lt _ (by omega)
  have hm : (i % VP d).toInt = ((i.toNat % p.Cap.toNat : Nat) : Int) := by
    rw [BitVec.toInt_eq_toNat_cond, BitVec.toNat_umod, hs]
    omega
  unfold zaY
  rw [hm, YF (a := d.Base + 2) (by omega) (by omega), YF (by omega) (by omega)]
  omega
structure SOk (p : zd) (nb : Nat) (s : zc) : Prop where
  P : s.P = p
  bins : s.Bins.length = nb
  nbk : 1 ≤ nb ∧ nb < 1000
  mem : s.M.length < 100000
  cF : yQ (ld s.M (vq p)) < nb
  cE : yQ (ld s.M (yO p)) < nb
  cL : ∀ a, yO p < a → 0 ≤ (ld s.M a).toInt ∧ (ld s.M a).toInt < nb
structure MOk (p : zd) (nb : Nat) (g : zC) : Prop where
  who : g.Mode = 1 → 1 ≤ g.Who ∧ g.Who ≤ p.Workers
  d3 : g.PC = 3 → g.D.Kind = 1 ∧ g.D.Base = ZJ p g.Who ∧ g.D.Cap = p.Cap ∧ g.Mode = 1
  c5 : g.PC = 5 → g.C.Kind = 2 ∧ g.C.Head = yO p ∧ g.C.Next = yO p ∧ (1 ≤ g.C.PC → 1 ≤ yQ g.C.H ∧ yQ g.C.H < nb) ∧ (2 ≤ g.C.PC → 0 ≤ g.C.Y ∧ g.C.Y < nb)
  b6 : g.PC = 6 → 1 ≤ g.Bin ∧ g.Bin < nb
  c7 : g.PC = 7 → g.C.Kind = 1 ∧ g.C.Head = vq p ∧ g.C.Next = yO p ∧ (1 ≤ g.C.X ∧ g.C.X < nb) ∧ (1 ≤ g.C.PC → yQ g.C.H < nb)
theorem SOk.gok {p : zd} {nb : Nat} {s : zc} {g : zC} (h : z8 p) (S : SOk p nb s) (M : MOk p nb g) : GOk s g := by
  have hc := h.cap
  refine ⟨by have := S.mem; omega, by have := S.bins; have := S.nbk; omega, fun h6 => ?_, fun h3 => ?_⟩
  · have := M.b6 h6; have := S.bins; omega
  · obtain ⟨a, b, c, _⟩ := M.d3 h3; exact ⟨a, by omega⟩
theorem SOk.low {p : zd} {nb : Nat} {s : zc} (h : z8 p) (S : SOk p nb s) {a : Int} (ha : a < vq p) (v : BitVec 64) : SOk p nb { s with M := st s.M a v } := by
  have he := zbT h
  exact ⟨S.P, S.bins, S.nbk, by simp only [WS]; exact S.mem, by simp only [zby (show a ≠ vq p by omega)]; exact S.cF, by simp only [zby (show a ≠ yO p by omega)]; exact S.cE, fun b hb => by
    simp only [zby (show a ≠ b by omega)]; exact S.cL b hb⟩
theorem SOk.link {p : zd} {nb : Nat} {s : zc} (h : z8 p) (S : SOk p nb s) {a : Int} (ha : yO p < a) {v : BitVec 64} (hv : 0 ≤ v.toInt ∧ v.toInt < nb) : SOk p nb { s with M := st s.M a v } := by
  have he := zbT h
  exact ⟨S.P, S.bins, S.nbk, by simp only [WS]; exact S.mem, by simp only [zby (show a ≠ vq p by omega)]; exact S.cF, by simp only [zby (show a ≠ yO p by omega)]; exact S.cE, fun b hb => by
    simp only [znY]
    split
    · exact hv
    · exact S.cL b hb⟩
theorem SOk.head {p : zd} {nb : Nat} {s : zc} (h : z8 p) (S : SOk p nb s) {a : Int} (ha : a = vq p ∨ a = yO p) {v : BitVec 64} (hv : yQ v < nb) : SOk p nb { s with M := st s.M a v } := by
  have he := zbT h
  refine ⟨S.P, S.bins, S.nbk, by simp only [WS]; exact S.mem, ?_, ?_, fun b hb => ?_⟩
  · simp only [znY]
    split
    · exact hv
    · exact S.cF
  · simp only [znY]
    split
    · exact hv
    · exact S.cE
  · simp only [zby (show a ≠ b by omega)]; exact S.cL b hb
theorem SOk.swap {p : zd} {nb : Nat} {s : zc} (h : z8 p) (S : SOk p nb s) {a : Int} (ha : a = vq p ∨ a = yO p) (x : BitVec 64) {v : BitVec 64} (hv : yQ v < nb) : SOk p nb { s with M := (sw s.M a x v).1 } := by
  unfold sw
  split
  · exact S.head h ha hv
  · exact S
theorem zqV {p : zd} {nb : Nat} {s : zc} (h : z8 p) (S : SOk p nb s) {c : zA} {hd : Int} (hdd : hd = vq p ∨ hd = yO p) (hk : c.Kind = 2) (hh : c.Head = hd) (hn : c.Next = yO p)
    (h1 : 1 ≤ c.PC → 1 ≤ yQ c.H ∧ yQ c.H < nb) (h2 : 2 ≤ c.PC → 0 ≤ c.Y ∧ c.Y < nb) (ho : c.Out ≠ 1) :
    SOk p nb { s with M := (zX s.M c).1 } ∧ (zX s.M c).2.Kind = 2 ∧ (zX s.M c).2.Head = hd ∧ (zX s.M c).2.Next = yO p ∧
    ((zX s.M c).2.Out ≠ 1 → (zX s.M c).2.Out ≠ 2 → (1 ≤ (zX s.M c).2.PC → 1 ≤ yQ (zX s.M c).2.H ∧ yQ (zX s.M c).2.H < nb) ∧ (2 ≤ (zX s.M c).2.PC → 0 ≤ (zX s.M c).2.Y ∧ (zX s.M c).2.Y < nb)) ∧
    ((zX s.M c).2.Out = 1 → 1 ≤ (zX s.M c).2.X ∧ (zX s.M c).2.X < nb) := by
  have hnb := S.nbk
  have hE := zbT h
  have hF := zag h
  unfold zX
  split
  · exact ⟨S, hk, hh, hn, fun _ _ => ⟨h1, h2⟩, fun e => absurd e ho⟩
  · split
    · rw [hh]
      have n1 := zpa (ld s.M hd)
      have n2 : yQ (ld s.M hd) < nb := by
        rcases hdd with e | e <;> rw [e]
        · exact S.cF
        · exact S.cE
      split
      · exact ⟨S, hk, rfl, hn, fun _ h => absurd rfl h, fun e => by cases e⟩
      · rename_i hne
        refine ⟨S, hk, rfl, hn, fun _ _ => ⟨fun _ => ⟨?_, n2⟩, fun e => absurd e (by dsimp only; omega)⟩, fun e => absurd e ho⟩
        have : yQ (ld s.M hd) ≠ 0 := fun e => hne ⟨hk, e⟩
        dsimp only
        omega
    · split
      · try rw [if_pos hk]
        have hpc : 1 ≤ c.PC := by omega
        have n1 := h1 hpc
        refine ⟨S, hk, hh, hn, fun _ _ => ⟨fun _ => n1, fun _ => ?_⟩, fun e => absurd e ho⟩
        dsimp only
        rw [hn, YF (by omega) (by omega)]
        exact S.cL _ (by omega)
      · rename_i g1 g2 g3
        have hpc : c.PC = 2 := by omega
        have n1 := h1 (by omega)
        have n2 := h2 (by omega)
        simp only [if_pos hk]
        refine ⟨S.swap h (by rw [hh]; exact hdd) _ (by rw [zpq _ n2.1 (by omega)]; exact n2.2), ?_⟩
        split
        · exact ⟨hk, hh, hn, fun e => absurd rfl e, fun _ => n1⟩
        · exact ⟨hk, hh, hn, fun _ _ => ⟨fun e => absurd e (by dsimp only; omega), fun e => absurd e (by dsimp only; omega)⟩, fun e => absurd e ho⟩
theorem zoG {p : zd} {nb : Nat} {s : zc} (h : z8 p) (S : SOk p nb s) {c : zA} {hd : Int} (hdd : hd = vq p ∨ hd = yO p) (hk : c.Kind = 1) (hh : c.Head = hd) (hn : c.Next = yO p) (hx : 1 ≤ c.X ∧ c.X < nb)
    (h1 : 1 ≤ c.PC → yQ c.H < nb) :
    SOk p nb { s with M := (zX s.M c).1 } ∧ (zX s.M c).2.Kind = 1 ∧ (zX s.M c).2.Head = hd ∧ (zX s.M c).2.Next = yO p ∧ (1 ≤ (zX s.M c).2.X ∧ (zX s.M c).2.X < nb) ∧
    (1 ≤ (zX s.M c).2.PC → yQ (zX s.M c).2.H < nb) := by
  have hnb := S.nbk
  have hE := zbT h
  have hF := zag h
  have hk2 : ¬ c.Kind = 2 := by omega
  unfold zX
  split
  · exact ⟨S, hk, hh, hn, hx, h1⟩
  · split
    · rw [if_neg (fun e => hk2 e.1), hh]
      exact ⟨S, hk, rfl, hn, hx, fun _ => hdd.elim (fun e => by dsimp only; rw [e]; exact S.cF) (fun e => by dsimp only; rw [e]; exact S.cE)⟩
    · split
      · try rw [if_neg hk2]
        have hpc : 1 ≤ c.PC := by omega
        have n1 := h1 hpc
        have n2 := zpa c.H
        refine ⟨?_, hk, hh, hn, hx, fun _ => n1⟩
        dsimp only
        rw [hn, YF (by omega) (by omega)]
        exact S.link h (by omega) (by rw [zlK (by omega) (by omega)]; omega)
      · have n1 := h1 (by omega)
        simp only [if_neg hk2]
        refine ⟨S.swap h (by rw [hh]; exact hdd) _ (by rw [zpq _ (by omega) (by omega)]; exact hx.2), ?_⟩
        split
        · exact ⟨hk, hh, hn, hx, fun _ => n1⟩
        · exact ⟨hk, hh, hn, hx, fun _ => n1⟩
theorem MOk.ask {p : zd} {nb : Nat} {g : zC} (hw : g.Mode = 1 → 1 ≤ g.Who ∧ g.Who ≤ p.Workers) : MOk p nb (zog p g) :=
  ⟨hw, fun e => (by cases e), fun _ => ⟨rfl, rfl, rfl, fun e => absurd e (show ¬ (1 : Int) ≤ 0 by decide), fun e => absurd e (show ¬ (2 : Int) ≤ 0 by decide)⟩, fun e => (by cases e), fun e => (by cases e)⟩
theorem zoR {p : zd} {nb : Nat} {s : zc} {g : zC} (h : z8 p) (S : SOk p nb s) (M : MOk p nb g) (hout : g.PC = 5 → g.C.Out ≠ 1) : SOk p nb (zG s g).1 ∧ MOk p nb (zG s g).2 ∧ ((zG s g).2.PC = 5 → (zG s g).2.C.Out ≠ 1) := by
  have hP := S.P
  unfold zG
  split
  · exact ⟨S, M, hout⟩
  split
  · rename_i h7
    obtain ⟨a1, a2, a3, a4, a5⟩ := M.c7 h7
    obtain ⟨b1, b2, b3, b4, b5, b6⟩ := zoG h S (.inl rfl) a1 a2 a3 a4 a5
    unfold ze8
    refine ⟨b1, ?_, ?_⟩
    · dsimp only
      split <;> exact ⟨M.who, fun e => (by dsimp only at e; omega), fun e => (by dsimp only at e; omega), fun e => (by dsimp only at e; omega), fun _ => ⟨b2, b3, b4, b5, b6⟩⟩
    · dsimp only
      split <;> exact fun e => by dsimp only at e; omega
  split
  · rename_i h6
    obtain ⟨a1, a2⟩ := M.b6 h6
    unfold zvv
    refine ⟨⟨hP, by simp only [List.length_set]; exact S.bins, S.nbk, S.mem, S.cF, S.cE, S.cL⟩, ⟨M.who, fun e => (by cases e), fun e => (by cases e), fun e => (by cases e), fun _ => ⟨rfl, by rw [hP], by rw [hP], ⟨a1, a2⟩, fun e => absurd e (show ¬ (1 : Int) ≤ 0 by decide)⟩⟩, fun e => by cases e⟩
  split
  · rename_i h5
    obtain ⟨a1, a2, a3, a4, a5⟩ := M.c5 h5
    obtain ⟨b1, b2, b3, b4, b5, b6⟩ := zqV h S (.inr rfl) a1 a2 a3 a4 a5 (hout h5)
    unfold zkQ
    refine ⟨b1, ?_, ?_⟩
    · dsimp only
      split
      · rename_i e1
        exact ⟨M.who, fun e => (by cases e), fun e => (by cases e), fun _ => b6 e1, fun e => (by cases e)⟩
      · split
        · rw [hP]; exact MOk.ask M.who
        · rename_i e1 e2
          exact ⟨M.who, fun e => (by dsimp only at e; omega), fun _ => ⟨b2, b3, b4, b5 e1 e2⟩, fun e => (by dsimp only at e; omega), fun e => (by dsimp only at e; omega)⟩
    · dsimp only
      split
      · exact fun e => by cases e
      · split
        · exact fun _ e => by cases e
        · rename_i e1 e2; exact fun _ => e1
  split
  · rw [hP]
    exact ⟨⟨rfl, S.bins, S.nbk, S.mem, S.cF, S.cE, S.cL⟩, MOk.ask M.who, fun _ e => by cases e⟩
  split
  · rename_i h3
    obtain ⟨a1, a2, a3, a4⟩ := M.d3 h3
    have hw := M.who a4
    obtain ⟨d1, d2, d3⟩ := zlR h hw.1 hw.2
    have hc := h.cap
    have hf := zag h
    have hs : SOk p nb { s with M := (uY s.M g.D).1 } := by
      unfold uY
      split
      · exact S
      split
      · exact S
      split
      · exact S
      split
      · have := zvn h hw.1 hw.2 a2 a3 g.D.B
        exact S.low h (by omega) _
      · dsimp only
        rw [YF (by omega) (by omega)]
        exact S.low h (by omega) _
    have hd : (uY s.M g.D).2.Kind = 1 ∧ (uY s.M g.D).2.Base = ZJ p g.Who ∧ (uY s.M g.D).2.Cap = p.Cap := by
      unfold uY
      split
      · exact ⟨a1, a2, a3⟩
      split
      · exact ⟨a1, a2, a3⟩
      split
      · dsimp only
        split <;> exact ⟨a1, a2, a3⟩
      split <;> exact ⟨a1, a2, a3⟩
    unfold zkT
    refine ⟨hs, ?_, ?_⟩
    · dsimp only
      split
      · exact ⟨M.who, fun _ => ⟨hd.1, hd.2.1, hd.2.2, a4⟩, fun e => (by dsimp only at e; omega), fun e => (by dsimp only at e; omega), fun e => (by dsimp only at e; omega)⟩
      · split
        · rw [hP]; exact MOk.ask M.who
        · exact ⟨M.who, fun _ => ⟨hd.1, hd.2.1, hd.2.2, a4⟩, fun e => (by dsimp only at e; omega), fun e => (by dsimp only at e; omega), fun e => (by dsimp only at e; omega)⟩
    · dsimp only
      split
      · exact fun e => by dsimp only at e; omega
      · split
        · exact fun _ e => by cases e
        · exact fun e => by dsimp only at e; omega
  split
  · rename_i h2
    exact ⟨⟨hP, S.bins, S.nbk, S.mem, S.cF, S.cE, S.cL⟩, ⟨M.who, fun e => (by dsimp only at e; omega), fun e => (by dsimp only at e; omega), fun e => (by dsimp only at e; omega), fun e => (by dsimp only at e; omega)⟩, fun e => by dsimp only at e; omega⟩
  split
  · unfold znV
    refine ⟨⟨hP, S.bins, S.nbk, S.mem, S.cF, S.cE, S.cL⟩, ?_, ?_⟩
    · dsimp only
      split
      · exact ⟨M.who, fun e => (by cases e), fun e => (by cases e), fun e => (by cases e), fun e => (by cases e)⟩
      split
      · exact ⟨M.who, fun _ => ⟨rfl, by rw [hP], by rw [hP], by assumption⟩, fun e => (by cases e), fun e => (by cases e), fun e => (by cases e)⟩
      split
      · exact ⟨M.who, fun e => (by cases e), fun e => (by cases e), fun e => (by cases e), fun e => (by cases e)⟩
      · rw [hP]; exact MOk.ask M.who
    · dsimp only
      split
      · exact fun e => by cases e
      split
      · exact fun e => by cases e
      split
      · exact fun e => by cases e
      · exact fun _ e => by cases e
  · exact ⟨⟨hP, S.bins, S.nbk, S.mem, S.cF, S.cE, S.cL⟩, ⟨M.who, fun e => (by cases e), fun e => (by cases e), fun e => (by cases e), fun e => (by cases e)⟩, fun e => by cases e⟩
theorem zmu (s : zc) (g : zC) : (zG s g).2.Obj = g.Obj ∧ (zG s g).2.Who = g.Who ∧ (zG s g).2.Mode = g.Mode := by
  unfold zG
  split
  · exact ⟨rfl, rfl, rfl⟩
  split
  · unfold ze8; dsimp only; split <;> exact ⟨rfl, rfl, rfl⟩
  split
  · exact ⟨rfl, rfl, rfl⟩
  split
  · unfold zkQ; dsimp only
    split
    · exact ⟨rfl, rfl, rfl⟩
    · split <;> exact ⟨rfl, rfl, rfl⟩
  split
  · exact ⟨rfl, rfl, rfl⟩
  split
  · unfold zkT; dsimp only
    split
    · exact ⟨rfl, rfl, rfl⟩
    · split <;> exact ⟨rfl, rfl, rfl⟩
  split
  · exact ⟨rfl, rfl, rfl⟩
  split
  · unfold znV; dsimp only
    split
    · exact ⟨rfl, rfl, rfl⟩
    split
    · exact ⟨rfl, rfl, rfl⟩
    split <;> exact ⟨rfl, rfl, rfl⟩
  · exact ⟨rfl, rfl, rfl⟩
end
end Go.Pe.G
namespace Go.Pe.G
open Go.Pe
noncomputable section
def OkV (nb : Nat) (v : BitVec 64) : Prop := yQ v < nb ∧ 0 ≤ v.toInt ∧ v.toInt < nb
theorem zqu {nb : Nat} (h : 1 ≤ nb) : OkV nb 0#64 := by
  refine ⟨by rw [zgs]; simp; omega, by simp, by simp; omega⟩
theorem zoP {nb : Nat} {b : Int} (h : 0 ≤ b) (h2 : b < nb) (h3 : nb < 1000) : OkV nb (BitVec.ofInt 64 b) := by
  have e : (BitVec.ofInt 64 b).toNat = b.toNat := by rw [BitVec.toNat_ofInt]; omega
  refine ⟨by rw [zgs, e]; omega, ?_⟩
  rw [zlK h (by omega)]
  omega
theorem zpn {b : Int} (h : 0 ≤ b) (h2 : b < 4294967296) : XR 0#64 b = BitVec.ofInt 64 b := by
  have e : (BitVec.ofInt 64 b).toNat = b.toNat := by rw [BitVec.toNat_ofInt]; omega
  apply BitVec.eq_of_toNat_eq
  unfold XR
  rw [BitVec.toNat_or, BitVec.toNat_and, e]
  have : b.toNat &&& (4294967295#64).toNat = b.toNat := (Nat.and_two_pow_sub_one_eq_mod b.toNat 32).trans (Nat.mod_eq_of_lt (by omega))
  rw [this]
  simp
def Yf (F : Int) (nb : Nat) (m : List (BitVec 64)) : Prop := ∀ a, F ≤ a → OkV nb (ld m a)
theorem Yf.st {F : Int} {nb : Nat} {m : List (BitVec 64)} (h : Yf F nb m) (a : Int) {v : BitVec 64} (hv : OkV nb v) : Yf F nb (st m a v) := fun b hb => by
  rw [znY]
  split
  · exact hv
  · exact h b hb
theorem Yf.links {F : Int} {nb : Nat} (h1 : 1 ≤ nb) (h3 : nb < 1000) : ∀ (l : List Int) (m : List (BitVec 64)) (n : Int), (∀ b ∈ l, 0 ≤ b ∧ b < nb) → Yf F nb m → Yf F nb (links m n l)
  | [], m, n, _, h => h
  | [a], m, n, _, h => h.st _ (zqu h1)
  | a :: b :: l, m, n, hb, h => Yf.links h1 h3 (b :: l) _ n (fun x hx => hb x (List.mem_cons_of_mem _ hx)) (h.st _ (zoP (hb b (by simp)).1 (hb b (by simp)).2 h3))
theorem Yf.lay {F : Int} {nb : Nat} (h1 : 1 ≤ nb) (h3 : nb < 1000) {l : List Int} {m : List (BitVec 64)} {hd n : Int} (hb : ∀ b ∈ l, 0 ≤ b ∧ b < nb) (h : Yf F nb m) : Yf F nb (zji m hd n l) := by
  unfold zji
  refine (Yf.links h1 h3 l m n hb h).st _ ?_
  cases l with
  | nil => rw [List.headD_nil, zpn (by omega) (by omega)]; exact zoP (by omega) (by omega) h3
  | cons a r =>
    have := hb a (by simp)
    rw [List.headD_cons, zpn this.1 (by omega)]
    exact zoP this.1 this.2 h3
theorem zrv {k : Nat} {b : Int} (h : b ∈ Ym k) : 1 ≤ b ∧ b ≤ k := by
  unfold Ym at h
  obtain ⟨i, hi, rfl⟩ := List.mem_map.1 h
  have := List.mem_range.1 hi
  omega
theorem zrk {p : zd} (h : z8 p) : (xG p : Int) = p.Most + p.Workers + p.Mutators ∧ 2 ≤ xG p ∧ xG p ≤ 14 := by
  have := h.most
  have := h.n
  have := h.wk
  have := h.mt
  unfold xG
  omega
theorem zsh {p : zd} (h : z8 p) : SOk p (xG p + 1) (vy p) := by
  have hb := zrk h
  have hf := zrC h
  have hn := h.n
  have hw := h.wk
  have hc := h.cap
  have hmo := h.most
  have hF := zag h
  have hE := zbT h
  have hcl := zea p p.Workers.toNat
  have hfe : vq p = ((p.Workers.toNat * (p.Cap.toNat + 2) : Nat) : Int) := by
    rw [hF.1]
    have e1 : p.Workers = ((p.Workers.toNat : Nat) : Int) := by omega
    have e2 : p.Cap + 2 = ((p.Cap.toNat + 2 : Nat) : Int) := by omega
    rw [e2, Int.natCast_mul]
    rw [← e1]
  have h0 : Yf (vq p) (xG p + 1) (Wi p p.Workers.toNat ++ List.replicate (2 + xG p) 0#64) := by
    intro a ha
    have : ld (Wi p p.Workers.toNat ++ List.replicate (2 + xG p) 0#64) a = 0#64 := by
      unfold ld
      rw [if_pos (by omega), List.getD_eq_getElem?_getD, List.getElem?_append_right (by omega), List.getElem?_replicate]
      split <;> rfl
    rw [this]
    exact zqu (by omega)
  have h1 : Yf (vq p) (xG p + 1) (vy p).M := by
    refine Yf.lay (by omega) (by omega) (fun b hb' => ?_) (Yf.lay (by omega) (by omega) (fun b hb' => ?_) h0)
    · have := zrv (List.mem_of_mem_drop hb'); omega
    · have := zrv (List.mem_of_mem_take hb'); omega
  have hlen : (vy p).M.length = p.Workers.toNat * (p.Cap.toNat + 2) + (2 + xG p) := by
    show (zji _ _ _ _).length = _
    rw [zlZ, zlZ, List.length_append, hcl, List.length_replicate]
  refine ⟨rfl, ?_, by omega, by rw [hlen]; omega, (h1 _ (by omega)).1, (h1 _ (by omega)).1, fun a ha => (h1 a (by omega)).2⟩
  have hd : (vy p).Bins.length = 1 + (uE p).length + (xG p - (uE p).length) := by
    show ([[]] ++ uE p ++ List.replicate (xG p - (uE p).length) ([] : List Int)).length = _
    rw [List.length_append, List.length_append, List.length_replicate]; rfl
  have h2 := hb.1
  have hmt := h.mt
  rw [hd]
  omega
def zmF (mode obj who : Int) : zC := ⟨0, mode, obj, who, ⟨0, 0, 0, 0, 0#64, 0#64, 0, 0⟩, ⟨0, 0, 0, 0, 0#64, 0, 0, 0⟩, 0, 0⟩
theorem zmI (a b c : Int) : zbg a b c = some (zmF a b c, ()) := by rw [znZ]; rfl
end
end Go.Pe.G
namespace Go.Pe.G
open Go.Pe
noncomputable section
structure Zq (s : zc) : Prop where
  m : s.M.length < 1000000
  bins : s.Bins.length < 1000000
  bin : ∀ x ∈ s.Bins, x.length < 1000000
  acks : s.Acks.length < 1000000
  bal : s.L.Bal.length < 1000000
  ws : s.Ws.length < 1000000
  w : ∀ x ∈ s.Ws, x.Batch.length < 1000000
  ms : s.Ms.length < 1000000
  mu : ∀ x ∈ s.Ms, x.Regs.length < 1000000 ∧ x.Buf.length < 1000000 ∧ x.Batch.length < 1000000
  objs : s.H.Objs.length < 1000000
  obj : ∀ x ∈ s.H.Objs, x.length < 1000000
  pobjs : s.P.H.Objs.length < 1000000
  pobj : ∀ x ∈ s.P.H.Objs, x.length < 1000000
  regs : s.P.Regs.length < 1000000
  reg : ∀ x ∈ s.P.Regs, x.length < 1000000
  progs : s.P.Progs.length < 1000000
  prog : ∀ x ∈ s.P.Progs, x.length < 1000000
  picks : s.P.Picks.length < 1000000
theorem VK (m : List (BitVec 64)) (c : zA) : (zX m c).1.length = m.length := by
  unfold zX sw
  split
  · rfl
  split
  · rfl
  split
  · split <;> simp [WS]
  · dsimp only; split <;> simp [WS]
theorem zs6 (m : List (BitVec 64)) (d : zh) : (uY m d).1.length = m.length := by
  unfold uY
  split
  · rfl
  split
  · rfl
  split
  · rfl
  split <;> simp [WS]
theorem Wv (s : zc) (g : zC) : ∃ m b t w f, (zG s g).1 = { s with M := m, Bins := b, T := t, Work := w, Flag := f } ∧ m.length = s.M.length ∧ b.length = s.Bins.length ∧
    (∀ x ∈ b, x ∈ s.Bins ∨ x = [g.Obj]) ∧ (t = s.T ∨ t = (zeG s.T g.Obj).1) ∧ (w = s.Work ∨ w = wc (s.Work + 1) ∨ w = wc (s.Work - 1)) := by
  unfold zG
  split
  · exact ⟨s.M, s.Bins, s.T, s.Work, s.Flag, rfl, rfl, rfl, fun x h => .inl h, .inl rfl, .inl rfl⟩
  split
  · exact ⟨_, s.Bins, s.T, s.Work, s.Flag, rfl, VK _ _, rfl, fun x h => .inl h, .inl rfl, .inl rfl⟩
  split
  · refine ⟨s.M, _, s.T, s.Work, s.Flag, rfl, rfl, by simp, fun x h => ?_, .inl rfl, .inl rfl⟩
    rcases List.mem_or_eq_of_mem_set h with h | h
    · exact .inl h
    · exact .inr h
  split
  · exact ⟨_, s.Bins, s.T, s.Work, s.Flag, rfl, VK _ _, rfl, fun x h => .inl h, .inl rfl, .inl rfl⟩
  split
  · exact ⟨s.M, s.Bins, s.T, s.Work, true, rfl, rfl, rfl, fun x h => .inl h, .inl rfl, .inl rfl⟩
  split
  · exact ⟨_, s.Bins, s.T, s.Work, s.Flag, rfl, zs6 _ _, rfl, fun x h => .inl h, .inl rfl, .inl rfl⟩
  split
  · exact ⟨s.M, s.Bins, s.T, _, s.Flag, rfl, rfl, rfl, fun x h => .inl h, .inl rfl, .inr (.inr rfl)⟩
  split
  · exact ⟨s.M, s.Bins, _, s.Work, s.Flag, rfl, rfl, rfl, fun x h => .inl h, .inr rfl, .inl rfl⟩
  · exact ⟨s.M, s.Bins, s.T, _, s.Flag, rfl, rfl, rfl, fun x h => .inl h, .inl rfl, .inr (.inl rfl)⟩
theorem zxa {s : zc} {g : zC} (h : Zq s) : Zq (zG s g).1 := by
  obtain ⟨m, b, t, w, f, e, h1, h2, h3, _, _⟩ := Wv s g
  rw [e]
  refine ⟨by rw [h1]; exact h.m, by rw [h2]; exact h.bins, fun x hx => ?_, h.acks, h.bal, h.ws, h.w, h.ms, h.mu, h.objs, h.obj, h.pobjs, h.pobj, h.regs, h.reg, h.progs, h.prog, h.picks⟩
  rcases h3 x hx with h' | rfl
  · exact h.bin x h'
  · simp
theorem zue {p : zd} (h : z8 p) : Zq (vy p) := by
  have S := zsh h
  have hb := zrk h
  have hg := zjZ h
  have hn := h.n
  have hm := h.mt
  have hw := h.wk
  have hs := h.slots
  have hrl := h.regs
  have hpl := h.progs
  have hobj : ∀ o ∈ p.H.Objs, o.length < 1000000 := fun o ho => by have := (h.objs o ho).1; omega
  have hreg : ∀ r ∈ p.Regs, r.length < 1000000 := fun r hr => by have := (h.reg r hr).1; omega
  refine ⟨by have := S.mem; omega, by rw [S.bins]; omega, fun x hx => ?_, ?_, ?_, ?_, fun x hx => ?_, ?_, fun x hx => ?_, by show p.H.Objs.length < _; omega, hobj, by show p.H.Objs.length < _; omega, hobj, by show p.Regs.length < _; omega, hreg, by show p.Progs.length < _; omega, fun x hx => ?_, ?_⟩
  · have hx : x ∈ [[]] ++ uE p ++ List.replicate (xG p - (uE p).length) [] := hx
    rcases List.mem_append.1 hx with hx | hx
    · rcases List.mem_append.1 hx with hx | hx
      · simp at hx; subst hx; simp
      · have := zhE _ _ _ _ hx; omega
    · have := (List.mem_replicate.1 hx).2; subst this; simp
  · show (List.replicate p.Mutators.toNat (0 : Int)).length < _; simp; omega
  · show (List.replicate p.Mutators.toNat (0 : Int)).length < _; simp; omega
  · show ((List.range p.Workers.toNat).map (VL p)).length < _; simp; omega
  · have hx : x ∈ (List.range p.Workers.toNat).map (VL p) := hx
    obtain ⟨i, _, rfl⟩ := List.mem_map.1 hx
    simp [VL]
  · show (p.Regs.map vf).length < _; simp; omega
  · have hx : x ∈ p.Regs.map vf := hx
    obtain ⟨r, hr, rfl⟩ := List.mem_map.1 hx
    exact ⟨hreg r hr, by simp [vf], by simp [vf]⟩
  · obtain ⟨i, hi⟩ := List.getElem?_of_mem hx
    have hlt := (List.getElem?_eq_some_iff.1 hi).1
    have := (h.prog i _ x (List.getElem?_eq_getElem (by have : p.Progs.length = p.Regs.length := by omega
                                                        have hlt : i < p.Progs.length := hlt
                                                        omega)) hi).1
    omega
  · show p.Picks.length < _; rw [h.picks]; simp
end
end Go.Pe.G
namespace Go.Pe.G
open Go.Pe
noncomputable section
theorem Y8 {α B C : Type} {f : List α × List α × Int × Int × Unit → Option (xf (List α × List α × Int × Int × Unit) B C)} {l : List α} {b : B} (hl : l.length < 1000000)
    (h1 : ∀ (i : Nat) (x : α), l[i]? = some x → f (l, l, (l.length : Int), (i : Int), ()) = some (.again (l, l, (l.length : Int), ((i + 1 : Nat) : Int), ())))
    (h2 : f (l, l, (l.length : Int), (l.length : Int), ()) = some (.brk b)) : yD f (l, l, (l.length : Int), 0, ()) = some (.brk b) := by
  refine (vw (f := f) (fun a => ∃ i : Nat, a = (l, l, (l.length : Int), (i : Int), ()) ∧ i ≤ l.length) (fun a => l.length - a.2.2.2.1.toNat) (fun o => o = .brk b) ?_ (l, l, (l.length : Int), 0, ()) ⟨0, rfl, by omega⟩ (wy (by dsimp only; omega))).elim fun o h => ?_
  rotate_left
  · rw [h.1, h.2]
  · rintro _ ⟨i, rfl, hi⟩
    rcases Nat.lt_or_ge i l.length with hlt | hge
    · refine ⟨_, h1 i _ (List.getElem?_eq_getElem hlt), ⟨i + 1, rfl, hlt⟩, ?_⟩
      show l.length - ((i + 1 : Nat) : Int).toNat < l.length - (i : Int).toNat
      omega
    · have : i = l.length := by omega
      subst this
      exact ⟨_, h2, rfl⟩
theorem xP {l : List (Int)} (hl : l.length < 1000000) : zV l l = some (true, ()) := by
  rw [WO, zZ, if_pos rfl, Y8 (b := ()) hl (fun i x hx => ?_) (by rw [uS]; simp)]
  · rfl
  · have hlt := vF hx
    rw [uS, zm, if_pos hlt, xu hx, Option.bind_some, Option.bind_some, yS (by omega)]
    simp
theorem UY {l : List (BitVec 64)} (hl : l.length < 1000000) : uP l l = some (true, ()) := by
  rw [UZ, zZ, if_pos rfl, Y8 (b := ()) hl (fun i x hx => ?_) (by rw [Zu]; simp)]
  · rfl
  · have hlt := vF hx
    rw [Zu, zm, if_pos hlt, xu hx, Option.bind_some, Option.bind_some, yS (by omega)]
    simp
theorem za6 {l : List (Int)} (hl : l.length < 1000000) : Zh l l = some (true, ()) := by
  rw [zax, zZ, if_pos rfl, Y8 (b := ()) hl (fun i x hx => ?_) (by rw [Z9]; simp)]
  · rfl
  · have hlt := vF hx
    rw [Z9, zm, if_pos hlt, xu hx, Option.bind_some, Option.bind_some, yS (by omega)]
    simp
theorem V8 {l : List (zg)} (hl : l.length < 1000000) : um l l = some (true, ()) := by
  rw [V5, zZ, if_pos rfl, Y8 (b := ()) hl (fun i x hx => ?_) (by rw [Zb]; simp)]
  · rfl
  · have hlt := vF hx
    rw [Zb, zm, if_pos hlt, xu hx, Option.bind_some, Option.bind_some, yS (by omega)]
    simp
theorem W9 {l : List (zi)} (hl : l.length < 1000000) : vo l l = some (true, ()) := by
  rw [W7, zZ, if_pos rfl, Y8 (b := ()) hl (fun i x hx => ?_) (by rw [uo]; simp)]
  · rfl
  · have hlt := vF hx
    rw [uo, zm, if_pos hlt, xu hx, Option.bind_some, Option.bind_some, yS (by omega)]
    simp
theorem we {l : List (List Int)} (hl : l.length < 1000000) (he : ∀ x ∈ l, x.length < 1000000) : zp l l = some (true, ()) := by
  rw [yY, zZ, if_pos rfl, Y8 (b := ()) hl (fun i x hx => ?_) (by rw [yv]; simp)]
  · rfl
  · have hlt := vF hx
    rw [yv, zm, if_pos hlt, xu hx, Option.bind_some, Option.bind_some, xP (he x (List.mem_of_getElem? hx)), Option.bind_some, yS (by omega)]
    simp
theorem uK {l : List (List zg)} (hl : l.length < 1000000) (he : ∀ x ∈ l, x.length < 1000000) : z3 l l = some (true, ()) := by
  rw [xN, zZ, if_pos rfl, Y8 (b := ()) hl (fun i x hx => ?_) (by rw [yt]; simp)]
  · rfl
  · have hlt := vF hx
    rw [yt, zm, if_pos hlt, xu hx, Option.bind_some, Option.bind_some, V8 (he x (List.mem_of_getElem? hx)), Option.bind_some, yS (by omega)]
    simp
theorem zr1 {w : zj} (h : w.Batch.length < 1000000) : Va w w = some (true, ()) := by
  rw [zht, xP h]; simp
theorem zqf {m : zb} (h : m.Regs.length < 1000000 ∧ m.Buf.length < 1000000 ∧ m.Batch.length < 1000000) : Wr m m = some (true, ()) := by
  rw [zf9, xP h.1, xP h.2.1, xP h.2.2, zd6]; simp
theorem wT {l : List (zj)} (hl : l.length < 1000000) (he : ∀ x ∈ l, x.Batch.length < 1000000) : zT l l = some (true, ()) := by
  rw [xD, zZ, if_pos rfl, Y8 (b := ()) hl (fun i x hx => ?_) (by rw [yo]; simp)]
  · rfl
  · have hlt := vF hx
    rw [yo, zm, if_pos hlt, xu hx, Option.bind_some, Option.bind_some, zr1 (he x (List.mem_of_getElem? hx)), Option.bind_some, yS (by omega)]
    simp
theorem wF {l : List (zb)} (hl : l.length < 1000000) (he : ∀ x ∈ l, x.Regs.length < 1000000 ∧ x.Buf.length < 1000000 ∧ x.Batch.length < 1000000) : zK l l = some (true, ()) := by
  rw [xe, zZ, if_pos rfl, Y8 (b := ()) hl (fun i x hx => ?_) (by rw [yi]; simp)]
  · rfl
  · have hlt := vF hx
    rw [yi, zm, if_pos hlt, xu hx, Option.bind_some, Option.bind_some, zqf (he x (List.mem_of_getElem? hx)), Option.bind_some, yS (by omega)]
    simp
theorem zj3 {h : zu} (h1 : h.Objs.length < 1000000) (h2 : ∀ x ∈ h.Objs, x.length < 1000000) : xW h h = some (true, ()) := by
  rw [zhJ, we h1 h2]; simp
theorem zto {s : zc} (h : Zq s) : zfz s s = some (true, ()) := by
  have hp : Ze s.P s.P = some (true, ()) := by
    rw [zoe, zgZ, zj3 h.pobjs h.pobj, we h.regs h.reg, uK h.progs h.prog, W9 h.picks]
    simp
  have hl : vQ s.L s.L = some (true, ()) := by
    rw [zlO, za6 h.bal]; simp
  have hm : ZY s.M s.M = some (true, ()) := by
    rw [zpD, UY h.m]; rfl
  rw [znA, hp, zj3 h.objs h.obj, hm, we h.bins h.bin, xP h.acks, hl, wT h.ws h.w, wF h.ms h.mu]
  simp
end
end Go.Pe.G
namespace Go.Pe.G
open Go.Pe
noncomputable section
def goF {S : Type} (g : Nat → S → S) : Nat → Nat → S → S
  | _, 0, s => s
  | i, k + 1, s => goF g (i + 1) k (g i s)
theorem zpt {S : Type} {g : Nat → S → S} {Inv : S → Prop} (hg : ∀ i s, Inv s → Inv (g i s)) : ∀ (k i : Nat) (s : S), Inv s → Inv (goF g i k s)
  | 0, _, _, h => h
  | k + 1, i, s, h => zpt hg k (i + 1) _ (hg i s h)
theorem zvY {S σ B C : Type} {f : σ → Option (xf σ B C)} (A : Int → S → σ) (b : S → B) (n : Nat) (hn : n < 1000000) (g : Nat → S → S) (Inv : S → Prop) (hg : ∀ i s, Inv s → Inv (g i s))
    (h1 : ∀ (i : Nat) s, i < n → Inv s → f (A (i : Int) s) = some (.again (A ((i + 1 : Nat) : Int) (g i s)))) (h2 : ∀ s, Inv s → f (A (n : Int) s) = some (.brk (b s))) {s : S} (hs : Inv s) :
    yD f (A 0 s) = some (.brk (b (goF g 0 n s))) := by
  have key : ∀ (k i : Nat) (s : S), n - i = k → i ≤ n → Inv s → ∀ m, k < m → uk f m (A (i : Int) s) = some (.brk (b (goF g i k s))) := by
    intro k
    induction k with
    | zero =>
      intro i s hk hi hs m hm
      have : i = n := by omega
      subst this
      obtain ⟨m, rfl⟩ : ∃ x, m = x + 1 := ⟨m - 1, by omega⟩
      simp only [uk]
      rw [h2 s hs]; rfl
    | succ k ih =>
      intro i s hk hi hs m hm
      obtain ⟨m, rfl⟩ : ∃ x, m = x + 1 := ⟨m - 1, by omega⟩
      simp only [uk]
      rw [h1 i s (by omega) hs, Option.bind_some]
      exact ih (i + 1) _ (by omega) (by omega) (hg i s hs) m (by omega)
  have := key n 0 s (by omega) (by omega) hs Yj (wy (by omega))
  rw [VF]
  exact this
end
end Go.Pe.G
namespace Go.Pe.G
open Go.Pe
noncomputable section
def zgI (m : List (BitVec 64)) (d : zh) : List (BitVec 64) × zh :=
  if d.PC < 0 ∨ 7 ≤ d.PC then (m, d)
  else if d.PC = 0 then (m, { d with B := ld m (wc (d.Base + 1)), PC := 1 })
  else if d.PC = 1 then (st m (wc (d.Base + 1)) (d.B - 1#64), { d with PC := 2 })
  else if d.PC = 2 then (m, { d with T := ld m d.Base, PC := if 0 < (ld m d.Base - (d.B - 1#64)).toInt then 5 else 3 })
  else if d.PC = 3 then (m, { d with X := (ld m (zaY d (d.B - 1#64))).toInt, PC := 4, Out := if d.T = d.B - 1#64 then d.Out else 1 })
  else if d.PC = 4 then ((sw m d.Base d.T (d.T + 1#64)).1, { d with PC := if (sw m d.Base d.T (d.T + 1#64)).2 then 6 else 5 })
  else if d.PC = 5 then (st m (wc (d.Base + 1)) d.B, { d with X := 0, Out := 2, PC := 6 })
  else (st m (wc (d.Base + 1)) d.B, { d with Out := 1, PC := 7 })
def zam (m : List (BitVec 64)) (d : zh) : List (BitVec 64) × zh :=
  if d.PC < 0 ∨ 4 ≤ d.PC then (m, d)
  else if d.PC = 0 then (m, { d with T := ld m d.Base, PC := 1 })
  else if d.PC = 1 then (m, { d with B := ld m (wc (d.Base + 1)), PC := 2, Out := if 0 < (ld m (wc (d.Base + 1)) - d.T).toInt then d.Out else 2 })
  else if d.PC = 2 then (m, { d with X := (ld m (zaY d d.T)).toInt, PC := 3 })
  else ((sw m d.Base d.T (d.T + 1#64)).1, if (sw m d.Base d.T (d.T + 1#64)).2 then { d with Out := 1, PC := 4 } else { d with X := 0, Out := 4, PC := 4 })
def v9 (m : List (BitVec 64)) (d : zh) : List (BitVec 64) × zh :=
  if d.Out ≠ 0 then (m, d) else if d.Kind = 1 then uY m d else if d.Kind = 2 then zgI m d else if d.Kind = 3 then zam m d else (m, d)
theorem zrV {m : List (BitVec 64)} {d : zh} (h : d.Kind = 1) : v9 m d = uY m d := by
  unfold v9
  by_cases h0 : d.Out ≠ 0
  · rw [if_pos h0]; unfold uY; rw [if_pos (.inl h0)]
  · rw [if_neg h0, if_pos h]
theorem zsr {α : Type} {x y : Option α} {v : α} (h : x = some v) : Option.or x y = some v := by subst h; rfl
theorem zeH {α : Type} {x y z : Option α} (h : x = none) (h2 : y = z) : Option.or x y = z := by subst h; exact h2
theorem zu4 : wc 1 = 1 ∧ wc 2 = 2 ∧ wc 3 = 3 ∧ wc 4 = 4 ∧ wc 5 = 5 ∧ wc 6 = 6 ∧ wc 7 = 7 := by decide
theorem zul : w64 5 = 5 ∧ w64 6 = 6 ∧ w64 7 = 7 := by
  refine ⟨?_, ?_, ?_⟩ <;> exact yh (by omega) (by omega)
theorem zw2 {m : List (BitVec 64)} (hm : m.length < 4294967296) {d : zh} (hc : d.Cap < 1000) : za3 m d = some ((v9 m d).1, (v9 m d).2, ()) := by
  by_cases k1 : d.Kind = 1
  · rw [zrV k1]; exact zgR hm k1 hc
  obtain ⟨w0, w1, w2, w3, w4⟩ := zqL
  obtain ⟨w5, w6, w7⟩ := zul
  obtain ⟨v1, v2, v3, v4, v5, v6, v7⟩ := zu4
  have hsb : ∀ d : zh, wp m d = some (m, { d with B := ld m (wc (d.Base + 1)) }, ()) := fun d => by
    rw [YL, xg, xm, Option.bind_some, Xk]; rfl
  have htk : ∀ d : zh, Z1 m d = some ((sw m d.Base d.T (d.T + 1#64)).1, (sw m d.Base d.T (d.T + 1#64)).2, ()) := fun d => by
    obtain ⟨v, hv⟩ := zo3 hm d.Base d.T (d.T + 1#64)
    rw [zf2, Zf, Option.bind_some, hv]; rfl
  rw [zgr, zdR, zlg, zk8, zk9]
  simp only [zm, zZ, if_neg k1]
  unfold v9
  by_cases k2 : d.Kind = 2
  · refine zeH (by simp [k2]) (zsr ?_)
    rw [if_pos k2, Option.bind_some]
    by_cases g0 : d.Out = 0
    rotate_left
    · rw [if_neg g0, if_pos (show d.Out ≠ 0 from g0)]
    rw [if_pos g0, if_neg (show ¬ (d.Out ≠ 0) from fun e => e g0), if_neg k1, if_pos k2]
    unfold zgI
    by_cases g1 : d.PC < 0
    · rw [if_pos g1, if_pos (.inl g1)]
    rw [if_neg g1]
    by_cases g2 : 7 ≤ d.PC
    · rw [if_pos g2, if_pos (.inr g2)]
    rw [if_neg g2, if_neg (show ¬ (d.PC < 0 ∨ 7 ≤ d.PC) by omega)]
    have hpc : d.PC = 0 ∨ d.PC = 1 ∨ d.PC = 2 ∨ d.PC = 3 ∨ d.PC = 4 ∨ d.PC = 5 ∨ d.PC = 6 := by omega
    rcases hpc with h | h | h | h | h | h | h
    · simp [h, hsb, w1]
    · simp [h, zfr, xg, xm, UI hm, v1, v2, v3, v4, v5, v6, v7]
    · rw [h, if_neg (by decide), if_neg (by decide), if_neg (by decide), if_neg (by decide), if_pos rfl, if_neg (by decide), if_neg (by decide), if_pos rfl]
      simp only [zbX, Zf, Option.bind_some, Xk, zfv, zm]
      by_cases hs : 0 < (ld m d.Base - (d.B - 1#64)).toInt
      · simp only [if_pos hs, Option.bind_some, Int.reduceAdd, w5]
      · simp only [if_neg hs, Option.bind_some, h, Int.reduceAdd, w3]
    · simp only [h, zem, zg7 hc, Option.bind_some, Xk, zZ, xX]
      by_cases hs : d.T = d.B - 1#64
      · simp [hs, w4, h]
      · simp [hs, w4, h]
    · simp only [h, zdr, htk, Option.bind_some]
      cases hs : (sw m d.Base d.T (d.T + 1#64)).2 with
      | true => simp [hs, w6, h]
      | false => simp [hs, w5, h]
    · simp [h, zdz, xX, k1, xg, xm, UI hm, v1, v2, v3, v4, v5, v6, v7]
    · simp [h, zeg, xX, xg, xm, UI hm, v1, v2, v3, v4, v5, v6, v7]
  by_cases k3 : d.Kind = 3
  · refine zeH (by simp [k2, k3]) (zeH (by simp [k2, k3]) (zsr ?_))
    rw [if_neg k2, if_pos k3, Option.bind_some]
    by_cases g0 : d.Out = 0
    rotate_left
    · rw [if_neg g0, if_pos (show d.Out ≠ 0 from g0)]
    rw [if_pos g0, if_neg (show ¬ (d.Out ≠ 0) from fun e => e g0), if_neg k1, if_neg k2, if_pos k3]
    unfold zam
    by_cases g1 : d.PC < 0
    · rw [if_pos g1, if_pos (.inl g1)]
    rw [if_neg g1]
    by_cases g2 : 4 ≤ d.PC
    · rw [if_pos g2, if_pos (.inr g2)]
    rw [if_neg g2, if_neg (show ¬ (d.PC < 0 ∨ 4 ≤ d.PC) by omega)]
    have hpc : d.PC = 0 ∨ d.PC = 1 ∨ d.PC = 2 ∨ d.PC = 3 := by omega
    rcases hpc with h | h | h | h
    · simp [h, zdZ, Zf, Xk, w1]
    · rw [h, if_neg (by decide), if_neg (by decide), if_pos rfl, if_neg (by decide), if_pos rfl]
      simp only [zeD, xg, Option.bind_some, Xk, zfv, zZ, xm]
      by_cases hs : 0 < (ld m (wc (d.Base + 1)) - d.T).toInt
      · simp only [if_pos hs, Option.bind_some, Int.reduceAdd, v2, h]
      · simp only [if_neg hs, Option.bind_some, Int.reduceAdd, v2, h]
    · simp [h, zdx, zg7 hc, Xk, w3]
    · simp only [h, zb8, htk, Option.bind_some, xX]
      cases hs : (sw m d.Base d.T (d.T + 1#64)).2 with
      | true => simp [hs, w4, h]
      | false => simp [hs, w4, h, k1]
  · refine zeH (by simp [k2, k3]) (zeH (by simp [k2, k3]) (zeH (by simp [k2, k3]) ?_))
    rw [if_neg k2, if_neg k3, Option.bind_some]
    by_cases g0 : d.Out = 0
    · simp [g0, k1, k2, k3]
    · simp [g0]
theorem zsI (m : List (BitVec 64)) (d : zh) : (zgI m d).1.length = m.length ∧ (zgI m d).2.Kind = d.Kind ∧ (zgI m d).2.Base = d.Base ∧ (zgI m d).2.Cap = d.Cap := by
  unfold zgI sw st
  split
  · exact ⟨rfl, rfl, rfl, rfl⟩
  split
  · exact ⟨rfl, rfl, rfl, rfl⟩
  split
  · refine ⟨?_, rfl, rfl, rfl⟩; dsimp only; split <;> simp
  split
  · exact ⟨rfl, rfl, rfl, rfl⟩
  split
  · exact ⟨rfl, rfl, rfl, rfl⟩
  split
  · refine ⟨?_, rfl, rfl, rfl⟩; dsimp only; split <;> (try split) <;> simp
  split <;> (refine ⟨?_, rfl, rfl, rfl⟩; dsimp only; split <;> simp)
theorem zqY (m : List (BitVec 64)) (d : zh) : (zam m d).1.length = m.length ∧ (zam m d).2.Kind = d.Kind ∧ (zam m d).2.Base = d.Base ∧ (zam m d).2.Cap = d.Cap := by
  unfold zam sw st
  split
  · exact ⟨rfl, rfl, rfl, rfl⟩
  split
  · exact ⟨rfl, rfl, rfl, rfl⟩
  split
  · exact ⟨rfl, rfl, rfl, rfl⟩
  split
  · exact ⟨rfl, rfl, rfl, rfl⟩
  · refine ⟨?_, ?_, ?_, ?_⟩ <;> dsimp only <;> split <;> (try split) <;> simp
end
end Go.Pe.G
namespace Go.Pe.G
open Go.Pe
noncomputable section
def xw (h : zu) (o : Int) : List Int := h.Objs.getD (o - 1).toNat []
def WW (h : zu) (o s : Int) : Bool := decide (1 ≤ o) && decide (o ≤ (h.Objs.length : Int)) && decide (0 ≤ s) && decide (s < ((xw h o).length : Int))
def zaa (h : zu) (o s : Int) : Int := if WW h o s then (xw h o).getD s.toNat 0 else 0
def zoI (s : BitVec 64) (o : Int) : Bool := !(decide (s &&& bit o = 0#64))
def zeU (t : zr) (o : Int) : Int := if zoI (t.Marks &&& t.Black) o then 2 else if zoI t.Marks o then 1 else 0
def znE (t : zr) (o : Int) : zr := if zeU t o = 1 then { t with Black := t.Black ||| bit o } else t
def zkY (l : zk) (who : Int) : zk :=
  if 1 ≤ who ∧ who ≤ (l.Bal.length : Int) then { l with Scanned := wc (l.Scanned + 1), Bal := l.Bal.set (who - 1).toNat (wc (l.Bal.getD (who - 1).toNat 0 + 1)) }
  else { l with Scanned := wc (l.Scanned + 1), Pool := wc (l.Pool + 1) }
def zkR (s : zc) (b : Int) : List Int := s.Bins.getD b.toNat []
def zuz (p : zd) (h x : Int) : zA := ⟨2, 0, h, yO p, 0#64, x, 0, 0⟩
def zsJ (p : zd) (h x : Int) : zA := ⟨1, 0, h, yO p, 0#64, x, 0, 0⟩
def onW (s : zc) (slot : Int) : Int := if slot = s.H.Slots then 8 else 5
def zq2 (p : zd) (w : Int) (x : zj) : zj := { x with PC := 0, Victim := w, D := ⟨2, 0, ZJ p w, p.Cap, 0#64, 0#64, 0, 0⟩ }
def zk5 (n v : Int) : Int := if v < n then v + 1 else 1
def zm5 (p : zd) (w : Int) (x : zj) : zj :=
  if zk5 p.Workers x.Victim = w then { x with PC := 2, Victim := w, C := zuz p (vq p) 0 }
  else { x with PC := 1, Victim := zk5 p.Workers x.Victim, D := ⟨3, 0, ZJ p (zk5 p.Workers x.Victim), p.Cap, 0#64, 0#64, 0, 0⟩ }
def yH (s : zc) (w : Int) (x : zj) : zc × zj :=
  if x.PC = 0 ∨ x.PC = 1 then
    ({ s with M := (v9 s.M x.D).1 },
      if (v9 s.M x.D).2.Out = 1 then { x with D := (v9 s.M x.D).2, Victim := w, PC := 5, Obj := (v9 s.M x.D).2.X, Slot := 0 }
      else if (v9 s.M x.D).2.Out = 2 ∨ (v9 s.M x.D).2.Out = 4 then zm5 s.P w { x with D := (v9 s.M x.D).2 } else { x with D := (v9 s.M x.D).2 })
  else if x.PC = 2 then
    ({ s with M := (zX s.M x.C).1 },
      if (zX s.M x.C).2.Out = 1 then { x with C := (zX s.M x.C).2, Bin := (zX s.M x.C).2.X, PC := 3 }
      else if (zX s.M x.C).2.Out = 2 then zq2 s.P w { x with C := (zX s.M x.C).2 } else { x with C := (zX s.M x.C).2 })
  else if x.PC = 3 then ({ s with Bins := s.Bins.set x.Bin.toNat [] }, { x with Batch := zkR s x.Bin, PC := 4, C := zsJ s.P (yO s.P) x.Bin })
  else if x.PC = 4 then
    ({ s with M := (zX s.M x.C).1 }, if (zX s.M x.C).2.Out = 1 then { x with C := (zX s.M x.C).2, Bin := 0, PC := 7 } else { x with C := (zX s.M x.C).2 })
  else if x.PC = 5 then
    (s, if zaa s.H x.Obj x.Slot = 0 then { x with Slot := wc (x.Slot + 1), PC := onW s (wc (x.Slot + 1)) } else { x with Slot := wc (x.Slot + 1), PC := 6, G := zmF 1 (zaa s.H x.Obj x.Slot) w })
  else if x.PC = 6 then ((zG s x.G).1, if (zG s x.G).2.Out = 1 then { x with G := (zG s x.G).2, PC := onW s x.Slot } else { x with G := (zG s x.G).2 })
  else if x.PC = 7 then (s, match x.Batch with | [] => zq2 s.P w x | o :: l => { x with Batch := l, PC := 5, Obj := o, Slot := 0 })
  else if x.PC = 8 then ({ s with T := znE s.T x.Obj, L := zkY s.L 0 }, { x with PC := 9 })
  else if x.PC = 9 then ({ s with Work := wc (s.Work - 1) }, { x with Obj := 0, PC := 7 })
  else (s, x)
def uz (s : zc) (w : Int) : zc :=
  if s.Done = true ∨ w < 1 ∨ (s.Ws.length : Int) < w then s
  else match s.Ws[(w - 1).toNat]? with
    | some x => { (yH s w x).1 with Ws := s.Ws.set (w - 1).toNat (yH s w x).2 }
    | none => s
structure zs9 (p : zd) (nb : Nat) (hd : Int) (c : zA) : Prop where
  k : c.Kind = 2
  h : c.Head = hd
  n : c.Next = yO p
  v : 1 ≤ c.PC → 1 ≤ yQ c.H ∧ yQ c.H < nb
  y : 2 ≤ c.PC → 0 ≤ c.Y ∧ c.Y < nb
  o : c.Out ≠ 1
structure zqm (p : zd) (nb : Nat) (hd : Int) (c : zA) : Prop where
  k : c.Kind = 1
  h : c.Head = hd
  n : c.Next = yO p
  x : 1 ≤ c.X ∧ c.X < nb
  v : 1 ≤ c.PC → yQ c.H < nb
theorem zsm {p : zd} {nb : Nat} {hd x : Int} : zs9 p nb hd (zuz p hd x) :=
  ⟨rfl, rfl, rfl, fun e => absurd e (by show ¬ (1 : Int) ≤ 0; decide), fun e => absurd e (by show ¬ (2 : Int) ≤ 0; decide), by show (0 : Int) ≠ 1; decide⟩
theorem zqs {p : zd} {nb : Nat} {hd x : Int} (h : 1 ≤ x ∧ x < nb) : zqm p nb hd (zsJ p hd x) :=
  ⟨rfl, rfl, rfl, h, fun e => absurd e (by show ¬ (1 : Int) ≤ 0; decide)⟩
structure WOk (p : zd) (nb : Nat) (w : Int) (x : zj) : Prop where
  pc : 0 ≤ x.PC ∧ x.PC ≤ 9
  vic : 1 ≤ x.Victim ∧ x.Victim ≤ p.Workers
  d0 : x.PC = 0 → x.D.Kind = 2 ∧ x.D.Base = ZJ p w ∧ x.D.Cap = p.Cap
  d1 : x.PC = 1 → x.D.Kind = 3 ∧ x.D.Base = ZJ p x.Victim ∧ x.D.Cap = p.Cap
  c2 : x.PC = 2 → zs9 p nb (vq p) x.C
  b3 : x.PC = 3 → 1 ≤ x.Bin ∧ x.Bin < nb
  c4 : x.PC = 4 → zqm p nb (yO p) x.C
  g6 : x.PC = 6 → MOk p nb x.G ∧ (x.G.PC = 5 → x.G.C.Out ≠ 1) ∧ x.G.Mode = 1 ∧ x.G.PC ≠ 4
theorem WOk.plain {p : zd} {nb : Nat} {w : Int} {x : zj} (pc : x.PC = 5 ∨ x.PC = 7 ∨ x.PC = 8 ∨ x.PC = 9) (vic : 1 ≤ x.Victim ∧ x.Victim ≤ p.Workers) : WOk p nb w x :=
  ⟨by omega, vic, fun e => by omega, fun e => by omega, fun e => by omega, fun e => by omega, fun e => by omega, fun e => by omega⟩
theorem SOk.swLow {p : zd} {nb : Nat} {s : zc} (h : z8 p) (S : SOk p nb s) {a : Int} (ha : a < vq p) (x v : BitVec 64) : SOk p nb { s with M := (sw s.M a x v).1 } := by
  unfold sw
  split
  · exact S.low h ha v
  · exact S
theorem zw8 {p : zd} {nb : Nat} {s : zc} (h : z8 p) (S : SOk p nb s) {d : zh} {v : Int} (hv : 1 ≤ v ∧ v ≤ p.Workers) (hk : d.Kind = 2 ∨ d.Kind = 3) (hb : d.Base = ZJ p v) : SOk p nb { s with M := (v9 s.M d).1 } := by
  have hd := zlR h hv.1 hv.2
  have hc := h.cap
  have hf := zag h
  have e1 : wc (d.Base + 1) = d.Base + 1 := YF (by omega) (by omega)
  unfold v9
  split
  · exact S
  split
  · omega
  split
  · unfold zgI
    rw [e1]
    split
    · exact S
    split
    · exact S
    split
    · exact S.low h (by omega) _
    split
    · exact S
    split
    · exact S
    split
    · exact S.swLow h (by omega) _ _
    split <;> exact S.low h (by omega) _
  split
  · unfold zam
    split
    · exact S
    split
    · exact S
    split
    · exact S
    split
    · exact S
    · exact S.swLow h (by omega) _ _
  · exact S
theorem zlA (m : List (BitVec 64)) (d : zh) : (v9 m d).1.length = m.length ∧ (v9 m d).2.Kind = d.Kind ∧ (v9 m d).2.Base = d.Base ∧ (v9 m d).2.Cap = d.Cap := by
  unfold v9
  split
  · exact ⟨rfl, rfl, rfl, rfl⟩
  split
  · unfold uY
    split
    · exact ⟨rfl, rfl, rfl, rfl⟩
    split
    · exact ⟨rfl, rfl, rfl, rfl⟩
    split
    · refine ⟨rfl, ?_, ?_, ?_⟩ <;> dsimp only <;> split <;> rfl
    split <;> exact ⟨WS _ _ _, rfl, rfl, rfl⟩
  split
  · exact zsI m d
  split
  · exact zqY m d
  · exact ⟨rfl, rfl, rfl, rfl⟩
theorem zvr {n v : Int} (h : 1 ≤ v ∧ v ≤ n) : 1 ≤ zk5 n v ∧ zk5 n v ≤ n := by unfold zk5; split <;> omega
theorem WOk.look {p : zd} {nb : Nat} {w : Int} {x : zj} (hw : 1 ≤ w ∧ w ≤ p.Workers) (vic : 1 ≤ x.Victim ∧ x.Victim ≤ p.Workers) : WOk p nb w (zm5 p w x) := by
  have hn := zvr vic
  unfold zm5
  split
  · exact ⟨⟨(by show (0 : Int) ≤ 2; decide), (by show (2 : Int) ≤ 9; decide)⟩, hw, fun e => (by cases e), fun e => (by cases e), fun _ => zsm, fun e => (by cases e), fun e => (by cases e), fun e => (by cases e)⟩
  · exact ⟨⟨(by show (0 : Int) ≤ 1; decide), (by show (1 : Int) ≤ 9; decide)⟩, hn, fun e => (by cases e), fun _ => ⟨rfl, rfl, rfl⟩, fun e => (by cases e), fun e => (by cases e), fun e => (by cases e), fun e => (by cases e)⟩
theorem WOk.begin {p : zd} {nb : Nat} {w : Int} {x : zj} (hw : 1 ≤ w ∧ w ≤ p.Workers) : WOk p nb w (zq2 p w x) :=
  ⟨⟨(by show (0 : Int) ≤ 0; decide), (by show (0 : Int) ≤ 9; decide)⟩, hw, fun _ => ⟨rfl, rfl, rfl⟩, fun e => (by cases e), fun e => (by cases e), fun e => (by cases e), fun e => (by cases e), fun e => (by cases e)⟩
theorem zsj (s : zc) {g : zC} (h1 : g.Mode = 1) (h4 : g.PC ≠ 4) : (zG s g).2.PC ≠ 4 ∧ (zG s g).1.Flag = s.Flag := by
  have five : (5 : Int) ≠ 4 := by decide
  unfold zG
  split
  · exact ⟨h4, rfl⟩
  split
  · refine ⟨?_, rfl⟩; unfold ze8; dsimp only; split <;> exact h4
  split
  · exact ⟨(by show (7 : Int) ≠ 4; decide), rfl⟩
  split
  · refine ⟨?_, rfl⟩; unfold zkQ; dsimp only
    split
    · show (6 : Int) ≠ 4; decide
    split
    · exact five
    · exact h4
  split
  · refine ⟨?_, rfl⟩; unfold zkT; dsimp only
    split
    · exact h4
    split
    · exact five
    · exact h4
  split
  · exact ⟨h4, rfl⟩
  split
  · refine ⟨?_, rfl⟩; unfold znV; dsimp only
    split
    · show (2 : Int) ≠ 4; decide
    · show (3 : Int) ≠ 4; decide
  · exact ⟨(by show (1 : Int) ≠ 4; decide), rfl⟩
theorem ztx (s : zc) (i : Int) : onW s i = 5 ∨ onW s i = 8 := by unfold onW; split <;> simp
theorem SOk.keep {p : zd} {nb : Nat} {s s' : zc} (S : SOk p nb s) (hP : s'.P = s.P) (hM : s'.M = s.M) (hB : s'.Bins.length = s.Bins.length) : SOk p nb s' :=
  ⟨hP.trans S.P, hB.trans S.bins, S.nbk, by rw [hM]; exact S.mem, by rw [hM]; exact S.cF, by rw [hM]; exact S.cE, by rw [hM]; exact S.cL⟩
theorem zvO {p : zd} {nb : Nat} {s : zc} {w : Int} {x : zj} (h : z8 p) (hw : 1 ≤ w ∧ w ≤ p.Workers) (S : SOk p nb s) (W : WOk p nb w x) : SOk p nb (yH s w x).1 ∧ WOk p nb w (yH s w x).2 := by
  have hP := S.P
  unfold yH
  split
  · rename_i h01
    have hv : ∃ v, (1 ≤ v ∧ v ≤ p.Workers) ∧ (x.D.Kind = 2 ∨ x.D.Kind = 3) ∧ x.D.Base = ZJ p v := by
      rcases h01 with e | e
      · obtain ⟨a, b, c⟩ := W.d0 e; exact ⟨w, hw, .inl a, b⟩
      · obtain ⟨a, b, c⟩ := W.d1 e; exact ⟨x.Victim, W.vic, .inr a, b⟩
    obtain ⟨v, hv1, hv2, hv3⟩ := hv
    refine ⟨zw8 h S hv1 hv2 hv3, ?_⟩
    obtain ⟨l1, l2, l3, l4⟩ := zlA s.M x.D
    dsimp only
    split
    · exact WOk.plain (.inl rfl) hw
    split
    · rw [hP]; exact WOk.look hw W.vic
    · refine ⟨W.pc, W.vic, fun e => ?_, fun e => ?_, fun e => by dsimp only at e; omega, fun e => by dsimp only at e; omega, fun e => by dsimp only at e; omega, fun e => by dsimp only at e; omega⟩
      · obtain ⟨a, b, c⟩ := W.d0 e; exact ⟨l2.trans a, l3.trans b, l4.trans c⟩
      · obtain ⟨a, b, c⟩ := W.d1 e; exact ⟨l2.trans a, l3.trans b, l4.trans c⟩
  split
  · rename_i h2
    have C := W.c2 h2
    obtain ⟨b1, b2, b3, b4, b5, b6⟩ := zqV h S (.inl rfl) C.k C.h C.n C.v C.y C.o
    refine ⟨b1, ?_⟩
    dsimp only
    split
    · rename_i e1
      exact ⟨⟨(by show (0 : Int) ≤ 3; decide), (by show (3 : Int) ≤ 9; decide)⟩, W.vic, fun e => (by cases e), fun e => (by cases e), fun e => (by cases e), fun _ => b6 e1, fun e => (by cases e), fun e => (by cases e)⟩
    split
    · rw [hP]; exact WOk.begin hw
    · rename_i e1 e2
      exact ⟨W.pc, W.vic, fun e => (by dsimp only at e; omega), fun e => (by dsimp only at e; omega), fun _ => ⟨b2, b3, b4, (b5 e1 e2).1, (b5 e1 e2).2, e1⟩, fun e => (by dsimp only at e; omega), fun e => (by dsimp only at e; omega), fun e => (by dsimp only at e; omega)⟩
  split
  · rename_i h3
    have B := W.b3 h3
    refine ⟨S.keep rfl rfl (by simp), ?_⟩
    rw [hP]
    exact ⟨⟨(by show (0 : Int) ≤ 4; decide), (by show (4 : Int) ≤ 9; decide)⟩, W.vic, fun e => (by cases e), fun e => (by cases e), fun e => (by cases e), fun e => (by cases e), fun _ => zqs B, fun e => (by cases e)⟩
  split
  · rename_i h4
    have C := W.c4 h4
    obtain ⟨b1, b2, b3, b4, b5, b6⟩ := zoG h S (.inr rfl) C.k C.h C.n C.x C.v
    refine ⟨b1, ?_⟩
    dsimp only
    split
    · exact WOk.plain (.inr (.inl rfl)) W.vic
    · exact ⟨W.pc, W.vic, fun e => (by dsimp only at e; omega), fun e => (by dsimp only at e; omega), fun e => (by dsimp only at e; omega), fun e => (by dsimp only at e; omega), fun _ => ⟨b2, b3, b4, b5, b6⟩, fun e => (by dsimp only at e; omega)⟩
  split
  · refine ⟨S, ?_⟩
    dsimp only
    split
    · rcases ztx s (wc (x.Slot + 1)) with e | e <;> rw [e]
      · exact WOk.plain (.inl rfl) W.vic
      · exact WOk.plain (.inr (.inr (.inl rfl))) W.vic
    · exact ⟨⟨(by show (0 : Int) ≤ 6; decide), (by show (6 : Int) ≤ 9; decide)⟩, W.vic, fun e => (by cases e), fun e => (by cases e), fun e => (by cases e), fun e => (by cases e), fun e => (by cases e), fun _ =>
        ⟨⟨fun _ => hw, fun e => (by cases e), fun e => (by cases e), fun e => (by cases e), fun e => (by cases e)⟩, fun e => (by cases e), rfl, by show (0 : Int) ≠ 4; decide⟩⟩
  split
  · rename_i h6
    obtain ⟨g1, g2, g3, g4⟩ := W.g6 h6
    obtain ⟨r1, r2, r3⟩ := zoR h S g1 g2
    refine ⟨r1, ?_⟩
    dsimp only
    split
    · rcases ztx s x.Slot with e | e <;> rw [e]
      · exact WOk.plain (.inl rfl) W.vic
      · exact WOk.plain (.inr (.inr (.inl rfl))) W.vic
    · exact ⟨W.pc, W.vic, fun e => (by dsimp only at e; omega), fun e => (by dsimp only at e; omega), fun e => (by dsimp only at e; omega), fun e => (by dsimp only at e; omega), fun e => (by dsimp only at e; omega), fun _ => ⟨r2, r3, (zmu s x.G).2.2.trans g3, (zsj s g3 g4).1⟩⟩
  split
  · refine ⟨S, ?_⟩
    dsimp only
    split
    · rw [hP]; exact WOk.begin hw
    · exact WOk.plain (.inl rfl) W.vic
  split
  · exact ⟨S.keep rfl rfl rfl, WOk.plain (.inr (.inr (.inr rfl))) W.vic⟩
  split
  · exact ⟨S.keep rfl rfl rfl, WOk.plain (.inr (.inl rfl)) W.vic⟩
  · have := W.pc
    omega
end
end Go.Pe.G
namespace Go.Pe.G
open Go.Pe
noncomputable section
def zih (h : zu) (o s v : Int) : zu :=
  if WW h o s = true ∧ 0 ≤ v ∧ v ≤ (h.Objs.length : Int) then { h with Objs := h.Objs.set (o - 1).toNat ((xw h o).set s.toNat v) } else h
def zdV (h : zu) (most : Int) : Bool := decide ((h.Objs.length : Int) < most) && decide ((h.Objs.length : Int) < 64)
def zil (h : zu) : zu := { h with Objs := h.Objs ++ [List.replicate h.Slots.toNat 0] }
def zmG (t : zr) (o : Int) : zr := if (zeG t o).2 = true then znE (zeG t o).1 o else t
def zaV (l : zk) (who : Int) : Int := l.Bal.getD (who - 1).toNat 0
def Vz (l : zk) (who : Int) : Bool := decide (1 ≤ who) && decide (who ≤ (l.Bal.length : Int))
def VI (l : zk) (who price limit : Int) : Bool := Vz l who && decide (0 ≤ price) && decide (0 ≤ limit) && decide (price ≤ 1000000) && decide (limit ≤ 1000000)
def ziM (l : zk) (who price limit : Int) : Bool := VI l who price limit && decide (wc (-limit) ≤ wc (zaV l who - price))
def zkF (l : zk) (who price : Int) : zk := { l with Spent := wc (l.Spent + price), Bal := l.Bal.set (who - 1).toNat (wc (zaV l who - price)) }
def zkn (l : zk) (who price limit : Int) : Int := if VI l who price limit then (if ziM l who price limit then 0 else wc (wc (price - limit) - zaV l who)) else -1
def zis (a b : Int) : Int := if b < a then b else a
def zgJ (l : zk) (who want : Int) : zk × Int :=
  if Vz l who = true ∧ 0 < zis want l.Pool then ({ l with Pool := wc (l.Pool - zis want l.Pool), Bal := l.Bal.set (who - 1).toNat (wc (zaV l who + zis want l.Pool)) }, zis want l.Pool) else (l, 0)
def xY (p : zd) (m : Int) : List zg := p.Progs.getD (m - 1).toNat []
def opM (p : zd) (m : Int) (x : zb) : zg := (xY p m).getD x.IP.toNat ⟨0, 0, 0, 0⟩
def zhz (x : zb) (r : Int) : Int := x.Regs.getD r.toNat 0
def zp2 (x : zb) : zb := { x with PC := 0, IP := wc (x.IP + 1) }
def setM (x : zb) (r v : Int) : zb := { x with PC := 0, IP := wc (x.IP + 1), Regs := x.Regs.set r.toNat v }
def onM (s : zc) (slot : Int) : Int := if slot = s.H.Slots then 38 else 36
def zp1 (s : zc) (m : Int) (x : zb) : Int := zaa s.H (zhz x (opM s.P m x).A) (opM s.P m x).S
def za1 (s : zc) (m : Int) (x : zb) : zb :=
  if s.Acks.getD (m - 1).toNat 0 < s.Epoch then { x with PC := 1, Ret := 2, Want := s.Epoch }
  else if ((xY s.P m).length : Int) ≤ x.IP then x
  else if (opM s.P m x).Kind = 1 then { x with PC := 10 }
  else if (opM s.P m x).Kind = 2 then { x with PC := 20 }
  else if (opM s.P m x).Kind = 3 then { x with PC := 30 }
  else if (opM s.P m x).Kind = 4 then setM x (opM s.P m x).R (zhz x (opM s.P m x).A)
  else setM x (opM s.P m x).R 0
def mu0 (s : zc) (m : Int) (x : zb) : zc × zb :=
  (s, za1 s m x)
def mu1 (s : zc) (m : Int) (x : zb) : zc × zb :=
  (s, if x.Buf.length = 0 then { x with PC := x.Ret } else { x with PC := 3, Buf := x.Buf.take (x.Buf.length - 1), G := zmF 2 (x.Buf.getD (x.Buf.length - 1) 0) m })
def mu2 (s : zc) (m : Int) (x : zb) : zc × zb :=
  ({ s with Acks := s.Acks.set (m - 1).toNat x.Want }, { x with PC := 0 })
def mu3 (s : zc) (m : Int) (x : zb) : zc × zb :=
  ((zG s x.G).1, if (zG s x.G).2.Out = 1 then { x with PC := 1, G := (zG s x.G).2 } else { x with G := (zG s x.G).2 })
def zkC (s : zc) (m : Int) (x : zb) : zc × zb :=
  (s, setM x (opM s.P m x).R (zp1 s m x))
def ziS (s : zc) (m : Int) (x : zb) : zc × zb :=
  (s, if zhz x (opM s.P m x).A = 0 then zp2 x else { x with PC := 21, Old := zp1 s m x })
def zje (s : zc) (m : Int) (x : zb) : zc × zb :=
  (s, if x.Old = 0 ∨ zeU s.T x.Old ≠ 0 then { x with PC := 23, Old := 0 } else { x with PC := 22 })
def ziT (s : zc) (m : Int) (x : zb) : zc × zb :=
  (s, if s.P.Buf ≤ (x.Buf.length : Int) then { x with PC := 1, Ret := 22 } else { x with PC := 23, Old := 0, Buf := x.Buf ++ [x.Old] })
def zkP (s : zc) (m : Int) (x : zb) : zc × zb :=
  ({ s with H := zih s.H (zhz x (opM s.P m x).A) (opM s.P m x).S (zhz x (opM s.P m x).R) }, zp2 x)
def zfA (s : zc) (m : Int) (x : zb) : zc × zb :=
     if ziM s.L m s.P.Price s.P.Limit = true then
      if zdV s.H s.P.Most = true then ({ s with L := zkF s.L m s.P.Price, H := zil s.H, T := zmG s.T (wc (s.H.Objs.length + 1)) }, setM x (opM s.P m x).R (wc (s.H.Objs.length + 1)))
      else (s, zp2 x)
    else (s, { x with PC := 31 })
def zjh (s : zc) (m : Int) (x : zb) : zc × zb :=
     ({ s with L := (zgJ s.L m (zkn s.L m s.P.Price s.P.Limit)).1 }, if (zgJ s.L m (zkn s.L m s.P.Price s.P.Limit)).2 = 0 then { x with PC := 32, C := zuz s.P (vq s.P) x.Bin } else { x with PC := 0 })
def ziY (s : zc) (m : Int) (x : zb) : zc × zb :=
     ({ s with M := (zX s.M x.C).1 }, if (zX s.M x.C).2.Out = 1 then { x with PC := 33, Bin := (zX s.M x.C).2.X, C := (zX s.M x.C).2 }
      else if (zX s.M x.C).2.Out = 2 then { x with PC := 0, C := (zX s.M x.C).2 } else { x with C := (zX s.M x.C).2 })
def zkI (s : zc) (m : Int) (x : zb) : zc × zb :=
  ({ s with Bins := s.Bins.set x.Bin.toNat [] }, { x with Batch := zkR s x.Bin, PC := 34, C := zsJ s.P (yO s.P) x.Bin })
def ziB (s : zc) (m : Int) (x : zb) : zc × zb :=
     ({ s with M := (zX s.M x.C).1 }, if (zX s.M x.C).2.Out = 1 then { x with C := (zX s.M x.C).2, Bin := 0, PC := 35 } else { x with C := (zX s.M x.C).2 })
def zjj (s : zc) (m : Int) (x : zb) : zc × zb :=
  (s, match x.Batch with | [] => { x with PC := 0 } | o :: l => { x with PC := 36, Obj := o, Slot := 0, Batch := l })
def zi0 (s : zc) (m : Int) (x : zb) : zc × zb :=
     (s, if zaa s.H x.Obj x.Slot = 0 then { x with Slot := wc (x.Slot + 1), PC := onM s (wc (x.Slot + 1)) } else { x with Slot := wc (x.Slot + 1), PC := 37, G := zmF 3 (zaa s.H x.Obj x.Slot) m })
def zke (s : zc) (m : Int) (x : zb) : zc × zb :=
  ((zG s x.G).1, if (zG s x.G).2.Out = 1 then { x with G := (zG s x.G).2, PC := onM s x.Slot } else { x with G := (zG s x.G).2 })
def zkG (s : zc) (m : Int) (x : zb) : zc × zb :=
  ({ s with T := znE s.T x.Obj, L := zkY s.L m }, { x with PC := 39 })
def zmv (s : zc) (m : Int) (x : zb) : zc × zb :=
  ({ s with Work := wc (s.Work - 1) }, { x with Obj := 0, PC := 35 })
def zJ (s : zc) (m : Int) (x : zb) : zc × zb :=
  if x.PC = 0 then mu0 s m x
  else if x.PC = 1 then mu1 s m x
  else if x.PC = 2 then mu2 s m x
  else if x.PC = 3 then mu3 s m x
  else if x.PC = 10 then zkC s m x
  else if x.PC = 20 then ziS s m x
  else if x.PC = 21 then zje s m x
  else if x.PC = 22 then ziT s m x
  else if x.PC = 23 then zkP s m x
  else if x.PC = 30 then zfA s m x
  else if x.PC = 31 then zjh s m x
  else if x.PC = 32 then ziY s m x
  else if x.PC = 33 then zkI s m x
  else if x.PC = 34 then ziB s m x
  else if x.PC = 35 then zjj s m x
  else if x.PC = 36 then zi0 s m x
  else if x.PC = 37 then zke s m x
  else if x.PC = 38 then zkG s m x
  else if x.PC = 39 then zmv s m x
  else (s, x)
def zN (s : zc) (m : Int) : zc :=
  if s.Done = true ∨ m < 1 ∨ (s.Ms.length : Int) < m then s
  else match s.Ms[(m - 1).toNat]? with
    | some x => { (zJ s m x).1 with Ms := s.Ms.set (m - 1).toNat (zJ s m x).2 }
    | none => s
def zcu (p : zd) (m : Int) : Nat := (p.Regs.getD (m - 1).toNat []).length
structure XOk (p : zd) (nb : Nat) (m : Int) (x : zb) : Prop where
  pc : (0 ≤ x.PC ∧ x.PC ≤ 3) ∨ x.PC = 10 ∨ (20 ≤ x.PC ∧ x.PC ≤ 23) ∨ (30 ≤ x.PC ∧ x.PC ≤ 39)
  regs : x.Regs.length = zcu p m
  ip : 0 ≤ x.IP ∧ x.IP ≤ ((xY p m).length : Int)
  op : (10 ≤ x.PC ∧ x.PC ≤ 30) ∨ ((x.PC = 1 ∨ x.PC = 3) ∧ x.Ret = 22) → x.IP < ((xY p m).length : Int)
  ret : x.PC = 1 ∨ x.PC = 3 → x.Ret = 2 ∨ x.Ret = 22
  c32 : x.PC = 32 → zs9 p nb (vq p) x.C
  b33 : x.PC = 33 → 1 ≤ x.Bin ∧ x.Bin < nb
  c34 : x.PC = 34 → zqm p nb (yO p) x.C
  bin : x.PC ≠ 33 → x.PC ≠ 34 → x.Bin = 0
  g : x.PC = 3 ∨ x.PC = 37 → MOk p nb x.G ∧ (x.G.PC = 5 → x.G.C.Out ≠ 1) ∧ x.G.Mode ≠ 1
  buf : (x.Buf.length : Int) ≤ p.Buf
theorem XOk.move {p : zd} {nb : Nat} {m : Int} {x y : zb} (X : XOk p nb m x) (h : x.PC ≠ 33 ∧ x.PC ≠ 34) (pc : y.PC = 0 ∨ y.PC = 2 ∨ y.PC = 10 ∨ (20 ≤ y.PC ∧ y.PC ≤ 23) ∨ y.PC = 30 ∨ y.PC = 31 ∨ y.PC = 35 ∨ y.PC = 36 ∨ y.PC = 38 ∨ y.PC = 39)
    (regs : y.Regs.length = x.Regs.length) (bin : y.Bin = x.Bin) (buf : (y.Buf.length : Int) ≤ p.Buf) (ip : 0 ≤ y.IP ∧ y.IP ≤ ((xY p m).length : Int)) (op : 10 ≤ y.PC ∧ y.PC ≤ 30 → y.IP < ((xY p m).length : Int)) : XOk p nb m y :=
  ⟨by omega, regs.trans X.regs, ip, fun e => op (by omega), fun e => by omega, fun e => by omega, fun e => by omega, fun e => by omega, fun _ _ => bin.trans (X.bin h.1 h.2), fun e => by omega, buf⟩
theorem zn0 (s : zc) (i : Int) : onM s i = 36 ∨ onM s i = 38 := by unfold onM; split <;> simp
theorem XOk.next {p : zd} {nb : Nat} {m : Int} {x : zb} (hp : ((xY p m).length : Int) ≤ 64) (X : XOk p nb m x) (h : x.PC ≠ 33 ∧ x.PC ≠ 34) (hi : x.IP < ((xY p m).length : Int)) : XOk p nb m (zp2 x) := by
  have := X.ip
  have e : wc (x.IP + 1) = x.IP + 1 := YF (by omega) (by omega)
  refine X.move h (.inl rfl) rfl rfl X.buf ?_ (fun h => absurd h (by show ¬ ((10 : Int) ≤ 0 ∧ (0 : Int) ≤ 30); decide))
  show 0 ≤ wc (x.IP + 1) ∧ wc (x.IP + 1) ≤ _
  rw [e]; omega
theorem XOk.set {p : zd} {nb : Nat} {m : Int} {x : zb} (hp : ((xY p m).length : Int) ≤ 64) (X : XOk p nb m x) (h : x.PC ≠ 33 ∧ x.PC ≠ 34) (hi : x.IP < ((xY p m).length : Int)) (r v : Int) : XOk p nb m (setM x r v) := by
  have := X.ip
  have e : wc (x.IP + 1) = x.IP + 1 := YF (by omega) (by omega)
  refine X.move h (.inl rfl) (by simp [setM]) rfl X.buf ?_ (fun h => absurd h (by show ¬ ((10 : Int) ≤ 0 ∧ (0 : Int) ≤ 30); decide))
  show 0 ≤ wc (x.IP + 1) ∧ wc (x.IP + 1) ≤ _
  rw [e]; omega
theorem uN {motive : zc × zb → Prop} (s : zc) (m : Int) (x : zb) (h0 : x.PC = 0 → motive (mu0 s m x)) (h1 : x.PC = 1 → motive (mu1 s m x)) (h2 : x.PC = 2 → motive (mu2 s m x)) (h3 : x.PC = 3 → motive (mu3 s m x)) (h10 : x.PC = 10 → motive (zkC s m x)) (h20 : x.PC = 20 → motive (ziS s m x)) (h21 : x.PC = 21 → motive (zje s m x)) (h22 : x.PC = 22 → motive (ziT s m x)) (h23 : x.PC = 23 → motive (zkP s m x)) (h30 : x.PC = 30 → motive (zfA s m x)) (h31 : x.PC = 31 → motive (zjh s m x)) (h32 : x.PC = 32 → motive (ziY s m x)) (h33 : x.PC = 33 → motive (zkI s m x)) (h34 : x.PC = 34 → motive (ziB s m x)) (h35 : x.PC = 35 → motive (zjj s m x)) (h36 : x.PC = 36 → motive (zi0 s m x)) (h37 : x.PC = 37 → motive (zke s m x)) (h38 : x.PC = 38 → motive (zkG s m x)) (h39 : x.PC = 39 → motive (zmv s m x)) (hn : motive (s, x)) : motive (zJ s m x) := by
  unfold zJ
  by_cases c0 : x.PC = 0
  · rw [if_pos c0]; exact h0 c0
  rw [if_neg c0]
  by_cases c1 : x.PC = 1
  · rw [if_pos c1]; exact h1 c1
  rw [if_neg c1]
  by_cases c2 : x.PC = 2
  · rw [if_pos c2]; exact h2 c2
  rw [if_neg c2]
  by_cases c3 : x.PC = 3
  · rw [if_pos c3]; exact h3 c3
  rw [if_neg c3]
  by_cases c10 : x.PC = 10
  · rw [if_pos c10]; exact h10 c10
  rw [if_neg c10]
  by_cases c20 : x.PC = 20
  · rw [if_pos c20]; exact h20 c20
  rw [if_neg c20]
  by_cases c21 : x.PC = 21
  · rw [if_pos c21]; exact h21 c21
  rw [if_neg c21]
  by_cases c22 : x.PC = 22
  · rw [if_pos c22]; exact h22 c22
  rw [if_neg c22]
  by_cases c23 : x.PC = 23
  · rw [if_pos c23]; exact h23 c23
  rw [if_neg c23]
  by_cases c30 : x.PC = 30
  · rw [if_pos c30]; exact h30 c30
  rw [if_neg c30]
  by_cases c31 : x.PC = 31
  · rw [if_pos c31]; exact h31 c31
  rw [if_neg c31]
  by_cases c32 : x.PC = 32
  · rw [if_pos c32]; exact h32 c32
  rw [if_neg c32]
  by_cases c33 : x.PC = 33
  · rw [if_pos c33]; exact h33 c33
  rw [if_neg c33]
  by_cases c34 : x.PC = 34
  · rw [if_pos c34]; exact h34 c34
  rw [if_neg c34]
  by_cases c35 : x.PC = 35
  · rw [if_pos c35]; exact h35 c35
  rw [if_neg c35]
  by_cases c36 : x.PC = 36
  · rw [if_pos c36]; exact h36 c36
  rw [if_neg c36]
  by_cases c37 : x.PC = 37
  · rw [if_pos c37]; exact h37 c37
  rw [if_neg c37]
  by_cases c38 : x.PC = 38
  · rw [if_pos c38]; exact h38 c38
  rw [if_neg c38]
  by_cases c39 : x.PC = 39
  · rw [if_pos c39]; exact h39 c39
  rw [if_neg c39]
  exact hn
theorem zwo {p : zd} {nb : Nat} {s : zc} {m : Int} {x : zb} (h : z8 p) (hp : ((xY p m).length : Int) ≤ 64) (S : SOk p nb s) (X : XOk p nb m x) : SOk p nb (zJ s m x).1 ∧ XOk p nb m (zJ s m x).2 := by
  have hP := S.P
  have hip := X.ip
  have hbuf := X.buf
  have hb := h.buf
  have nop : ∀ y : Int, 31 ≤ y → ¬ (10 ≤ y ∧ y ≤ 30) := fun y h e => by omega
  refine uN (motive := fun r => SOk p nb r.1 ∧ XOk p nb m r.2) s m x ?_ ?_ ?_ ?_ ?_ ?_ ?_ ?_ ?_ ?_ ?_ ?_ ?_ ?_ ?_ ?_ ?_ ?_ ?_ ?_
  · intro c
    unfold mu0
    refine ⟨S, ?_⟩
    unfold za1
    rw [hP]
    split
    · exact ⟨.inl ⟨(by show (0 : Int) ≤ 1; decide), (by show (1 : Int) ≤ 3; decide)⟩, X.regs, X.ip, fun e => by dsimp only at e; omega, fun _ => .inl rfl, fun e => (by cases e), fun e => (by cases e), fun e => (by cases e), fun _ _ => X.bin (by omega) (by omega), fun e => by dsimp only at e; omega, X.buf⟩
    split
    · exact X
    rename_i hlt
    have hlt : x.IP < ((xY p m).length : Int) := by omega
    split
    · exact X.move (by omega) (.inr (.inr (.inl rfl))) rfl rfl X.buf X.ip (fun _ => hlt)
    split
    · exact X.move (by omega) (.inr (.inr (.inr (.inl ⟨by show (20 : Int) ≤ 20; decide, by show (20 : Int) ≤ 23; decide⟩)))) rfl rfl X.buf X.ip (fun _ => hlt)
    split
    · exact X.move (by omega) (.inr (.inr (.inr (.inr (.inl rfl))))) rfl rfl X.buf X.ip (fun _ => hlt)
    split
    · exact X.set hp (by omega) hlt _ _
    · exact X.set hp (by omega) hlt _ _
  · intro c
    unfold mu1
    refine ⟨S, ?_⟩
    split
    · rcases X.ret (.inl c) with e | e
      · exact X.move (by omega) (.inr (.inl e)) rfl rfl X.buf X.ip (fun e2 => by dsimp only at e2; omega)
      · exact X.move (by omega) (.inr (.inr (.inr (.inl (by dsimp only; omega))))) rfl rfl X.buf X.ip (fun e2 => X.op (.inr ⟨.inl c, e⟩))
    · exact ⟨.inl ⟨(by show (0 : Int) ≤ 3; decide), (by show (3 : Int) ≤ 3; decide)⟩, X.regs, X.ip, fun e => X.op (.inr ⟨.inl c, by dsimp only at e; omega⟩), fun _ => X.ret (.inl c), fun e => (by cases e), fun e => (by cases e), fun e => (by cases e), fun _ _ => X.bin (by omega) (by omega),
        fun _ => ⟨⟨fun e => absurd e (by show ¬ (2 : Int) = 1; decide), fun e => (by cases e), fun e => (by cases e), fun e => (by cases e), fun e => (by cases e)⟩, fun e => (by cases e), by show (2 : Int) ≠ 1; decide⟩, by dsimp only; rw [List.length_take]; omega⟩
  · intro c
    unfold mu2
    exact ⟨S.keep rfl rfl rfl, X.move (by omega) (.inl rfl) rfl rfl X.buf X.ip (fun e => absurd e (by show ¬ ((10 : Int) ≤ 0 ∧ (0 : Int) ≤ 30); decide))⟩
  · intro c
    unfold mu3
    obtain ⟨g1, g2, g3⟩ := X.g (.inl c)
    obtain ⟨r1, r2, r3⟩ := zoR h S g1 g2
    refine ⟨r1, ?_⟩
    dsimp only
    split
    · exact ⟨.inl ⟨(by show (0 : Int) ≤ 1; decide), (by show (1 : Int) ≤ 3; decide)⟩, X.regs, X.ip, fun e => X.op (.inr ⟨.inr c, by dsimp only at e; omega⟩), fun _ => X.ret (.inr c), fun e => (by cases e), fun e => (by cases e), fun e => (by cases e), fun _ _ => X.bin (by omega) (by omega), fun e => by dsimp only at e; omega, X.buf⟩
    · exact ⟨X.pc, X.regs, X.ip, X.op, X.ret, fun e => by dsimp only at e; omega, fun e => by dsimp only at e; omega, fun e => by dsimp only at e; omega, X.bin, fun _ => ⟨r2, r3, by rw [(zmu s x.G).2.2]; exact g3⟩, X.buf⟩
  · intro c
    unfold zkC
    exact ⟨S, X.set hp (by omega) (X.op (.inl (by omega))) _ _⟩
  · intro c
    unfold ziS
    refine ⟨S, ?_⟩
    split
    · exact X.next hp (by omega) (X.op (.inl (by omega)))
    · exact X.move (by omega) (.inr (.inr (.inr (.inl ⟨by show (20 : Int) ≤ 21; decide, by show (21 : Int) ≤ 23; decide⟩)))) rfl rfl X.buf X.ip (fun _ => X.op (.inl (by omega)))
  · intro c
    unfold zje
    refine ⟨S, ?_⟩
    split
    · exact X.move (by omega) (.inr (.inr (.inr (.inl ⟨by show (20 : Int) ≤ 23; decide, by show (23 : Int) ≤ 23; decide⟩)))) rfl rfl X.buf X.ip (fun _ => X.op (.inl (by omega)))
    · exact X.move (by omega) (.inr (.inr (.inr (.inl ⟨by show (20 : Int) ≤ 22; decide, by show (22 : Int) ≤ 23; decide⟩)))) rfl rfl X.buf X.ip (fun _ => X.op (.inl (by omega)))
  · intro c
    unfold ziT
    have hi := X.op (.inl (by omega))
    refine ⟨S, ?_⟩
    rw [hP]
    split
    · exact ⟨.inl ⟨(by show (0 : Int) ≤ 1; decide), (by show (1 : Int) ≤ 3; decide)⟩, X.regs, X.ip, fun e => hi, fun _ => .inr rfl, fun e => (by cases e), fun e => (by cases e), fun e => (by cases e), fun _ _ => X.bin (by omega) (by omega), fun e => by dsimp only at e; omega, X.buf⟩
    · exact X.move (by omega) (.inr (.inr (.inr (.inl ⟨by show (20 : Int) ≤ 23; decide, by show (23 : Int) ≤ 23; decide⟩)))) rfl rfl (by simp; omega) X.ip (fun _ => hi)
  · intro c
    unfold zkP
    exact ⟨S.keep rfl rfl rfl, X.next hp (by omega) (X.op (.inl (by omega)))⟩
  · intro c
    unfold zfA
    have hi := X.op (.inl (by omega))
    split
    · split
      · exact ⟨S.keep rfl rfl rfl, X.set hp (by omega) hi _ _⟩
      · exact ⟨S, X.next hp (by omega) hi⟩
    · exact ⟨S, X.move (by omega) (.inr (.inr (.inr (.inr (.inr (.inl rfl)))))) rfl rfl X.buf X.ip (fun e => absurd e (by show ¬ ((10 : Int) ≤ 31 ∧ (31 : Int) ≤ 30); decide))⟩
  · intro c
    unfold zjh
    refine ⟨S.keep rfl rfl rfl, ?_⟩
    rw [hP]
    split
    · exact ⟨.inr (.inr (.inr ⟨(by show (30 : Int) ≤ 32; decide), (by show (32 : Int) ≤ 39; decide)⟩)), X.regs, X.ip, fun e => by dsimp only at e; omega, fun e => by dsimp only at e; omega, fun _ => zsm, fun e => (by cases e), fun e => (by cases e), fun _ _ => X.bin (by omega) (by omega), fun e => by dsimp only at e; omega, X.buf⟩
    · exact X.move (by omega) (.inl rfl) rfl rfl X.buf X.ip (fun e => absurd e (by show ¬ ((10 : Int) ≤ 0 ∧ (0 : Int) ≤ 30); decide))
  · intro c
    unfold ziY
    have C := X.c32 c
    obtain ⟨b1, b2, b3, b4, b5, b6⟩ := zqV h S (.inl rfl) C.k C.h C.n C.v C.y C.o
    refine ⟨b1, ?_⟩
    dsimp only
    split
    · rename_i e1
      exact ⟨.inr (.inr (.inr ⟨(by show (30 : Int) ≤ 33; decide), (by show (33 : Int) ≤ 39; decide)⟩)), X.regs, X.ip, fun e => by dsimp only at e; omega, fun e => by dsimp only at e; omega, fun e => (by cases e), fun _ => b6 e1, fun e => (by cases e), fun e => absurd rfl e, fun e => by dsimp only at e; omega, X.buf⟩
    split
    · exact X.move (by omega) (.inl rfl) rfl rfl X.buf X.ip (fun e => absurd e (by show ¬ ((10 : Int) ≤ 0 ∧ (0 : Int) ≤ 30); decide))
    · rename_i e1 e2
      exact ⟨X.pc, X.regs, X.ip, X.op, X.ret, fun _ => ⟨b2, b3, b4, (b5 e1 e2).1, (b5 e1 e2).2, e1⟩, fun e => by dsimp only at e; omega, fun e => by dsimp only at e; omega, X.bin, fun e => by dsimp only at e; omega, X.buf⟩
  · intro c
    unfold zkI
    have B := X.b33 c
    refine ⟨S.keep rfl rfl (by simp), ?_⟩
    rw [hP]
    exact ⟨.inr (.inr (.inr ⟨(by show (30 : Int) ≤ 34; decide), (by show (34 : Int) ≤ 39; decide)⟩)), X.regs, X.ip, fun e => by dsimp only at e; omega, fun e => by dsimp only at e; omega, fun e => (by cases e), fun e => (by cases e), fun _ => zqs B, fun _ e => absurd rfl e, fun e => by dsimp only at e; omega, X.buf⟩
  · intro c
    unfold ziB
    have C := X.c34 c
    obtain ⟨b1, b2, b3, b4, b5, b6⟩ := zoG h S (.inr rfl) C.k C.h C.n C.x C.v
    refine ⟨b1, ?_⟩
    dsimp only
    split
    · exact ⟨.inr (.inr (.inr ⟨(by show (30 : Int) ≤ 35; decide), (by show (35 : Int) ≤ 39; decide)⟩)), X.regs, X.ip, fun e => by dsimp only at e; omega, fun e => by dsimp only at e; omega, fun e => (by cases e), fun e => (by cases e), fun e => (by cases e), fun _ _ => rfl, fun e => by dsimp only at e; omega, X.buf⟩
    · exact ⟨X.pc, X.regs, X.ip, X.op, X.ret, fun e => by dsimp only at e; omega, fun e => by dsimp only at e; omega, fun _ => ⟨b2, b3, b4, b5, b6⟩, X.bin, fun e => by dsimp only at e; omega, X.buf⟩
  · intro c
    unfold zjj
    refine ⟨S, ?_⟩
    dsimp only
    split
    · exact X.move (by omega) (.inl rfl) rfl rfl X.buf X.ip (fun e => absurd e (by show ¬ ((10 : Int) ≤ 0 ∧ (0 : Int) ≤ 30); decide))
    · exact X.move (by omega) (by simp) rfl rfl X.buf X.ip (fun e => absurd e (nop 36 (by omega)))
  · intro c
    unfold zi0
    refine ⟨S, ?_⟩
    dsimp only
    split
    · rcases zn0 s (wc (x.Slot + 1)) with e | e <;> rw [e]
      · exact X.move (by omega) (by simp) rfl rfl X.buf X.ip (fun e => absurd e (nop 36 (by omega)))
      · exact X.move (by omega) (by simp) rfl rfl X.buf X.ip (fun e => absurd e (nop 38 (by omega)))
    · exact ⟨.inr (.inr (.inr ⟨(by show (30 : Int) ≤ 37; decide), (by show (37 : Int) ≤ 39; decide)⟩)), X.regs, X.ip, fun e => by dsimp only at e; omega, fun e => by dsimp only at e; omega, fun e => (by cases e), fun e => (by cases e), fun e => (by cases e), fun _ _ => X.bin (by omega) (by omega),
        fun _ => ⟨⟨fun e => absurd e (by show ¬ (3 : Int) = 1; decide), fun e => (by cases e), fun e => (by cases e), fun e => (by cases e), fun e => (by cases e)⟩, fun e => (by cases e), by show (3 : Int) ≠ 1; decide⟩, X.buf⟩
  · intro c
    unfold zke
    obtain ⟨g1, g2, g3⟩ := X.g (.inr c)
    obtain ⟨r1, r2, r3⟩ := zoR h S g1 g2
    refine ⟨r1, ?_⟩
    dsimp only
    split
    · rcases zn0 s x.Slot with e | e <;> rw [e]
      · exact X.move (by omega) (by simp) rfl rfl X.buf X.ip (fun e => absurd e (nop 36 (by omega)))
      · exact X.move (by omega) (by simp) rfl rfl X.buf X.ip (fun e => absurd e (nop 38 (by omega)))
    · exact ⟨X.pc, X.regs, X.ip, X.op, X.ret, fun e => by dsimp only at e; omega, fun e => by dsimp only at e; omega, fun e => by dsimp only at e; omega, X.bin, fun _ => ⟨r2, r3, by rw [(zmu s x.G).2.2]; exact g3⟩, X.buf⟩
  · intro c
    unfold zkG
    exact ⟨S.keep rfl rfl rfl, X.move (by omega) (by simp) rfl rfl X.buf X.ip (fun e => absurd e (nop 39 (by omega)))⟩
  · intro c
    unfold zmv
    exact ⟨S.keep rfl rfl rfl, X.move (by omega) (by simp) rfl rfl X.buf X.ip (fun e => absurd e (nop 35 (by omega)))⟩
  · exact ⟨S, X⟩
end
end Go.Pe.G
namespace Go.Pe.G
open Go.Pe
noncomputable section
def zk4 (s : zc) : zc :=
  if s.Done = true then s
  else if s.D.PC = 0 then { s with Flag := false, D := { s.D with PC := 1 } }
  else if s.D.PC = 1 then (if s.Work = 0 then { s with D := { s.D with PC := 2 } } else s)
  else if s.D.PC = 2 then { s with Epoch := wc (s.Epoch + 1), D := ⟨if s.Ms.length = 0 then 4 else 3, 0⟩ }
  else if s.D.PC = 3 then (if s.Acks.getD s.D.I.toNat 0 < s.Epoch then s else { s with D := ⟨if wc (s.D.I + 1) = (s.Ms.length : Int) then 4 else 3, wc (s.D.I + 1)⟩ })
  else if s.D.PC = 4 then (if s.Work = 0 then { s with D := { s.D with PC := 5 } } else { s with Restarts := wc (s.Restarts + 1), D := { s.D with PC := 0 } })
  else if s.D.PC = 5 then (if s.Flag = true then { s with Restarts := wc (s.Restarts + 1), D := { s.D with PC := 0 } } else { s with D := { s.D with PC := 6 } })
  else if s.D.PC = 6 then { s with Done := true }
  else s
structure HOk (p : zd) (h : zu) : Prop where
  slots : h.Slots = p.H.Slots
  n : (p.H.Objs.length : Int) ≤ (h.Objs.length : Int) ∧ (h.Objs.length : Int) ≤ p.Most
  objs : ∀ o ∈ h.Objs, (o.length : Int) = h.Slots ∧ ∀ v ∈ o, 0 ≤ v ∧ v ≤ (h.Objs.length : Int)
structure EOk (p : zd) (nb : Nat) (s : zc) : Prop where
  S : SOk p nb s
  wl : (s.Ws.length : Int) = p.Workers
  ml : (s.Ms.length : Int) = p.Mutators
  al : s.Acks.length = s.Ms.length
  W : ∀ (i : Nat) x, s.Ws[i]? = some x → WOk p nb ((i : Int) + 1) x
  X : ∀ (i : Nat) x, s.Ms[i]? = some x → XOk p nb ((i : Int) + 1) x
  H : HOk p s.H
  D : (0 ≤ s.D.PC ∧ s.D.PC ≤ 6) ∧ (s.D.PC = 3 → 0 ≤ s.D.I ∧ s.D.I < (s.Ms.length : Int))
  small : Zq s
theorem zsD {p : zd} (h : z8 p) (m : Int) : ((xY p m).length : Int) ≤ 64 := by
  unfold xY
  have hr := h.regs
  have hp := h.progs
  rw [List.getD_eq_getElem?_getD]
  rcases Nat.lt_or_ge (m - 1).toNat p.Progs.length with hl | hl
  · rw [List.getElem?_eq_getElem hl]
    have hl2 : (m - 1).toNat < p.Regs.length := by omega
    have := (h.prog (m - 1).toNat _ _ (List.getElem?_eq_getElem hl2) (List.getElem?_eq_getElem hl)).1
    show ((p.Progs[(m - 1).toNat]).length : Int) ≤ 64
    omega
  · rw [List.getElem?_eq_none hl]; show (([] : List zg).length : Int) ≤ 64; simp
theorem zqM {p : zd} (h : z8 p) : EOk p (xG p + 1) (vy p) := by
  have hw := h.wk
  have hm := h.mt
  have hr := h.regs
  have hn := h.n
  have hmo := h.most
  have hb := h.buf
  refine ⟨zsh h, ?_, ?_, ?_, fun i x hx => ?_, fun i x hx => ?_, ⟨rfl, ⟨Int.le_refl _, hmo.1⟩, h.objs⟩, ⟨⟨by show (0 : Int) ≤ 0; decide, by show (0 : Int) ≤ 6; decide⟩, fun e => absurd e (by show ¬ (0 : Int) = 3; decide)⟩, zue h⟩
  · show (((List.range p.Workers.toNat).map (VL p)).length : Int) = _
    rw [List.length_map, List.length_range]; omega
  · show ((p.Regs.map vf).length : Int) = _
    rw [List.length_map]; exact hr
  · show (List.replicate p.Mutators.toNat (0 : Int)).length = (p.Regs.map vf).length
    rw [List.length_replicate, List.length_map]; omega
  · have hx : ((List.range p.Workers.toNat).map (VL p))[i]? = some x := hx
    rw [List.getElem?_map] at hx
    rcases Nat.lt_or_ge i p.Workers.toNat with hl | hl
    · rw [List.getElem?_range hl] at hx
      injection hx with hx
      subst hx
      exact ⟨⟨by show (0 : Int) ≤ 0; decide, by show (0 : Int) ≤ 9; decide⟩, by show 1 ≤ (i : Int) + 1 ∧ (i : Int) + 1 ≤ p.Workers; omega, fun _ => ⟨rfl, rfl, rfl⟩, fun e => (by cases e), fun e => (by cases e), fun e => (by cases e), fun e => (by cases e), fun e => (by cases e)⟩
    · rw [List.getElem?_eq_none (by rw [List.length_range]; exact hl)] at hx; cases hx
  · have hx : (p.Regs.map vf)[i]? = some x := hx
    rw [List.getElem?_map] at hx
    cases hq : p.Regs[i]? with
    | none => rw [hq] at hx; cases hx
    | some r =>
      rw [hq] at hx
      injection hx with hx
      subst hx
      refine ⟨.inl ⟨by show (0 : Int) ≤ 0; decide, by show (0 : Int) ≤ 3; decide⟩, ?_, ⟨by show (0 : Int) ≤ 0; decide, by show (0 : Int) ≤ _; omega⟩, fun e => absurd e ?_, fun e => absurd e ?_, fun e => (by cases e), fun e => (by cases e), fun e => (by cases e), fun _ _ => rfl, fun e => absurd e ?_, by show (0 : Int) ≤ p.Buf; omega⟩
      · show r.length = zcu p ((i : Int) + 1)
        unfold zcu
        rw [show ((i : Int) + 1 - 1).toNat = i by omega, List.getD_eq_getElem?_getD, hq]; rfl
      · intro e; simp [vf] at e
      · intro e; simp [vf] at e
      · intro e; simp [vf] at e
theorem zlI {s : zc} (h : Zq s) (b : Int) : (zkR s b).length < 1000000 := by
  unfold zkR
  rw [List.getD_eq_getElem?_getD]
  cases hq : s.Bins[b.toNat]? with
  | none => simp
  | some l => exact h.bin l (List.mem_of_getElem? hq)
theorem zpv (l : zk) (w : Int) : (zkY l w).Bal.length = l.Bal.length := by unfold zkY; split <;> simp
structure YV (s s' : zc) : Prop where
  P : s'.P = s.P
  m : s'.M.length = s.M.length
  bl : s'.Bins.length = s.Bins.length
  b : ∀ l ∈ s'.Bins, l ∈ s.Bins ∨ l.length ≤ 1
  bal : s'.L.Bal.length = s.L.Bal.length
  ac : s'.Acks.length = s.Acks.length
  ws : s'.Ws = s.Ws
  ms : s'.Ms = s.Ms
  done : s'.Done = s.Done
  d : s'.D = s.D
theorem YV.refl (s : zc) : YV s s := ⟨rfl, rfl, rfl, fun l h => .inl h, rfl, rfl, rfl, rfl, rfl, rfl⟩
theorem zdd (s : zc) (g : zC) : YV s (zG s g).1 ∧ (zG s g).1.H = s.H := by
  obtain ⟨m, b, t, w, f, e, h1, h2, h3, _, _⟩ := Wv s g
  rw [e]
  exact ⟨⟨rfl, h1, h2, fun l hl => (h3 l hl).imp id (fun e => by rw [e]; simp), rfl, rfl, rfl, rfl, rfl, rfl⟩, rfl⟩
theorem zsw {s : zc} (b : Nat) : ∀ l ∈ s.Bins.set b [], l ∈ s.Bins ∨ l.length ≤ 1 := fun l hl => (List.mem_or_eq_of_mem_set hl).imp id (fun e => by rw [e]; simp)
theorem zuh (s : zc) (w : Int) (x : zj) : YV s (yH s w x).1 ∧ (yH s w x).1.H = s.H := by
  unfold yH
  split
  · exact ⟨⟨rfl, (zlA _ _).1, rfl, fun l h => .inl h, rfl, rfl, rfl, rfl, rfl, rfl⟩, rfl⟩
  split
  · exact ⟨⟨rfl, VK _ _, rfl, fun l h => .inl h, rfl, rfl, rfl, rfl, rfl, rfl⟩, rfl⟩
  split
  · exact ⟨⟨rfl, rfl, by simp, zsw _, rfl, rfl, rfl, rfl, rfl, rfl⟩, rfl⟩
  split
  · exact ⟨⟨rfl, VK _ _, rfl, fun l h => .inl h, rfl, rfl, rfl, rfl, rfl, rfl⟩, rfl⟩
  split
  · exact ⟨YV.refl s, rfl⟩
  split
  · exact zdd s x.G
  split
  · exact ⟨YV.refl s, rfl⟩
  split
  · exact ⟨⟨rfl, rfl, rfl, fun l h => .inl h, zpv _ _, rfl, rfl, rfl, rfl, rfl⟩, rfl⟩
  split
  · exact ⟨⟨rfl, rfl, rfl, fun l h => .inl h, rfl, rfl, rfl, rfl, rfl, rfl⟩, rfl⟩
  · exact ⟨YV.refl s, rfl⟩
theorem zrO (p : zd) (w : Int) (x : zj) : (zm5 p w x).Batch = x.Batch := by unfold zm5; split <;> rfl
theorem ztg {s : zc} (h : Zq s) (w : Int) {x : zj} (hx : x.Batch.length < 1000000) : (yH s w x).2.Batch.length < 1000000 := by
  unfold yH
  split
  · dsimp only
    split
    · exact hx
    split
    · rw [zrO]; exact hx
    · exact hx
  split
  · dsimp only
    split
    · exact hx
    split <;> exact hx
  split
  · exact zlI h _
  split
  · dsimp only
    split <;> exact hx
  split
  · dsimp only
    split <;> exact hx
  split
  · dsimp only
    split <;> exact hx
  split
  · dsimp only
    cases hb : x.Batch with
    | nil => show x.Batch.length < _; exact hx
    | cons o l => rw [hb] at hx; show l.length < _; simp at hx; omega
  split
  · exact hx
  split
  · exact hx
  · exact hx
theorem zs4 (l : zk) (w p : Int) : (zkF l w p).Bal.length = l.Bal.length := by unfold zkF; simp
theorem ztV (l : zk) (w n : Int) : (zgJ l w n).1.Bal.length = l.Bal.length := by unfold zgJ; split <;> simp
theorem zqE (s : zc) (m : Int) (x : zb) : YV s (zJ s m x).1 := by
  have q : ∀ s' : zc, s'.P = s.P → s'.M = s.M → s'.Bins = s.Bins → s'.L.Bal.length = s.L.Bal.length → s'.Acks.length = s.Acks.length → s'.Ws = s.Ws → s'.Ms = s.Ms → s'.Done = s.Done → s'.D = s.D → YV s s' :=
    fun s' a b c d e f g h i => ⟨a, by rw [b], by rw [c], fun l hl => .inl (c ▸ hl), d, e, f, g, h, i⟩
  refine uN (motive := fun r => YV s r.1) s m x ?_ ?_ ?_ ?_ ?_ ?_ ?_ ?_ ?_ ?_ ?_ ?_ ?_ ?_ ?_ ?_ ?_ ?_ ?_ ?_
  · intro c
    unfold mu0
    exact YV.refl s
  · intro c
    unfold mu1
    exact YV.refl s
  · intro c
    unfold mu2
    exact q _ rfl rfl rfl rfl (by simp) rfl rfl rfl rfl
  · intro c
    unfold mu3
    exact (zdd s x.G).1
  · intro c
    unfold zkC
    exact YV.refl s
  · intro c
    unfold ziS
    exact YV.refl s
  · intro c
    unfold zje
    exact YV.refl s
  · intro c
    unfold ziT
    exact YV.refl s
  · intro c
    unfold zkP
    exact q _ rfl rfl rfl rfl rfl rfl rfl rfl rfl
  · intro c
    unfold zfA
    split
    · split
      · exact q _ rfl rfl rfl (zs4 _ _ _) rfl rfl rfl rfl rfl
      · exact YV.refl s
    · exact YV.refl s
  · intro c
    unfold zjh
    exact q _ rfl rfl rfl (ztV _ _ _) rfl rfl rfl rfl rfl
  · intro c
    unfold ziY
    exact ⟨rfl, VK _ _, rfl, fun l h => .inl h, rfl, rfl, rfl, rfl, rfl, rfl⟩
  · intro c
    unfold zkI
    exact ⟨rfl, rfl, by simp, zsw _, rfl, rfl, rfl, rfl, rfl, rfl⟩
  · intro c
    unfold ziB
    exact ⟨rfl, VK _ _, rfl, fun l h => .inl h, rfl, rfl, rfl, rfl, rfl, rfl⟩
  · intro c
    unfold zjj
    exact YV.refl s
  · intro c
    unfold zi0
    exact YV.refl s
  · intro c
    unfold zke
    exact (zdd s x.G).1
  · intro c
    unfold zkG
    exact q _ rfl rfl rfl (zpv _ _) rfl rfl rfl rfl rfl
  · intro c
    unfold zmv
    exact q _ rfl rfl rfl rfl rfl rfl rfl rfl rfl
  · exact YV.refl s
theorem HOk.sm {p : zd} (hp : z8 p) {h : zu} (H : HOk p h) : h.Objs.length < 1000000 ∧ ∀ x ∈ h.Objs, x.length < 1000000 := by
  have h1 := H.n
  have h2 := hp.most
  have h3 := hp.n
  have h4 := hp.slots
  have h5 := H.slots
  exact ⟨by omega, fun x hx => by have := (H.objs x hx).1; omega⟩
theorem Zq.turn {p : zd} (hp : z8 p) {s s' : zc} (h : Zq s) (T : YV s s') (H : HOk p s'.H) : Zq s' := by
  have hh := H.sm hp
  refine ⟨by rw [T.m]; exact h.m, by rw [T.bl]; exact h.bins, fun x hx => ?_, by rw [T.ac]; exact h.acks, by rw [T.bal]; exact h.bal, by rw [T.ws]; exact h.ws, by rw [T.ws]; exact h.w, by rw [T.ms]; exact h.ms, by rw [T.ms]; exact h.mu, hh.1, hh.2, by rw [T.P]; exact h.pobjs, by rw [T.P]; exact h.pobj, by rw [T.P]; exact h.regs, by rw [T.P]; exact h.reg, by rw [T.P]; exact h.progs, by rw [T.P]; exact h.prog, by rw [T.P]; exact h.picks⟩
  rcases T.b x hx with h' | h'
  · exact h.bin x h'
  · omega
theorem Zq.setW {s : zc} (h : Zq s) {i : Nat} {x : zj} (hx : x.Batch.length < 1000000) : Zq { s with Ws := s.Ws.set i x } :=
  ⟨h.m, h.bins, h.bin, h.acks, h.bal, by simp only [List.length_set]; exact h.ws, fun y hy => by
    rcases List.mem_or_eq_of_mem_set hy with hy | rfl
    · exact h.w y hy
    · exact hx, h.ms, h.mu, h.objs, h.obj, h.pobjs, h.pobj, h.regs, h.reg, h.progs, h.prog, h.picks⟩
theorem Zq.setM {s : zc} (h : Zq s) {i : Nat} {x : zb} (hx : x.Regs.length < 1000000 ∧ x.Buf.length < 1000000 ∧ x.Batch.length < 1000000) : Zq { s with Ms := s.Ms.set i x } :=
  ⟨h.m, h.bins, h.bin, h.acks, h.bal, h.ws, h.w, by simp only [List.length_set]; exact h.ms, fun y hy => by
    rcases List.mem_or_eq_of_mem_set hy with hy | rfl
    · exact h.mu y hy
    · exact hx, h.objs, h.obj, h.pobjs, h.pobj, h.regs, h.reg, h.progs, h.prog, h.picks⟩
theorem zsq {α : Type} {l : List α} {i j : Nat} {x y : α} (h : (l.set i x)[j]? = some y) : (j = i ∧ y = x) ∨ l[j]? = some y := by
  rw [List.getElem?_set] at h
  split at h
  · rename_i e
    split at h
    · injection h with h; exact .inl ⟨e.symm, h.symm⟩
    · cases h
  · exact .inr h
theorem zuG {p : zd} {nb : Nat} {s : zc} (h : z8 p) (E : EOk p nb s) (w : Int) : EOk p nb (uz s w) := by
  unfold uz
  split
  · exact E
  rename_i hc
  cases hx : s.Ws[(w - 1).toNat]? with
  | none => exact E
  | some x =>
    have hw1 : ¬ w < 1 := fun e => hc (.inr (.inl e))
    have hw2 : ¬ (s.Ws.length : Int) < w := fun e => hc (.inr (.inr e))
    have hwl := E.wl
    have ei : (((w - 1).toNat : Nat) : Int) + 1 = w := by omega
    have hW := E.W _ x hx
    rw [ei] at hW
    obtain ⟨r1, r2⟩ := zvO h (by omega) E.S hW
    obtain ⟨T, TH⟩ := zuh s w x
    have sm : Zq (yH s w x).1 := E.small.turn h T (by rw [TH]; exact E.H)
    have hws : (yH s w x).1.Ws = s.Ws := T.ws
    refine ⟨r1.keep rfl rfl rfl, ?_, ?_, ?_, fun i y hy => ?_, fun i y hy => ?_, ?_, ?_, ?_⟩
    · show ((s.Ws.set _ _).length : Int) = _
      rw [List.length_set]; exact hwl
    · show ((yH s w x).1.Ms.length : Int) = _
      rw [T.ms]; exact E.ml
    · show (yH s w x).1.Acks.length = (yH s w x).1.Ms.length
      rw [T.ms, T.ac]; exact E.al
    · rcases zsq hy with ⟨rfl, rfl⟩ | hy
      · rw [ei]; exact r2
      · exact E.W i y hy
    · have hy : (yH s w x).1.Ms[i]? = some y := hy
      rw [T.ms] at hy
      exact E.X i y hy
    · show HOk p (yH s w x).1.H
      rw [TH]; exact E.H
    · show (0 ≤ (yH s w x).1.D.PC ∧ (yH s w x).1.D.PC ≤ 6) ∧ ((yH s w x).1.D.PC = 3 → 0 ≤ (yH s w x).1.D.I ∧ (yH s w x).1.D.I < ((yH s w x).1.Ms.length : Int))
      rw [T.d, T.ms]; exact E.D
    · have := sm.setW (i := (w - 1).toNat) (ztg E.small w (E.small.w x (List.mem_of_getElem? hx)))
      rw [hws] at this
      exact this
theorem zwN {p : zd} {nb : Nat} {s : zc} (h : z8 p) (E : EOk p nb s) : EOk p nb (zk4 s) := by
  have key : ∀ s' : zc, s'.P = s.P → s'.M = s.M → s'.Bins = s.Bins → s'.Ws = s.Ws → s'.Ms = s.Ms → s'.Acks = s.Acks → s'.H = s.H → s'.L = s.L → ((0 ≤ s'.D.PC ∧ s'.D.PC ≤ 6) ∧ (s'.D.PC = 3 → 0 ≤ s'.D.I ∧ s'.D.I < (s'.Ms.length : Int))) → EOk p nb s' := by
    intro s' e1 e2 e3 e4 e5 e6 e7 e8 e9
    have q := E.small
    refine ⟨E.S.keep e1 e2 (by rw [e3]), by rw [e4]; exact E.wl, by rw [e5]; exact E.ml, by rw [e5, e6]; exact E.al, by rw [e4]; exact E.W, by rw [e5]; exact E.X, by rw [e7]; exact E.H, e9, ?_⟩
    exact ⟨by rw [e2]; exact q.m, by rw [e3]; exact q.bins, by rw [e3]; exact q.bin, by rw [e6]; exact q.acks, by rw [e8]; exact q.bal, by rw [e4]; exact q.ws, by rw [e4]; exact q.w, by rw [e5]; exact q.ms, by rw [e5]; exact q.mu, by rw [e7]; exact q.objs, by rw [e7]; exact q.obj, by rw [e1]; exact q.pobjs, by rw [e1]; exact q.pobj, by rw [e1]; exact q.regs, by rw [e1]; exact q.reg, by rw [e1]; exact q.progs, by rw [e1]; exact q.prog, by rw [e1]; exact q.picks⟩
  have hm : ∀ n : Int, 0 ≤ n ∧ n ≤ 6 → n ≠ 3 → ∀ i, (0 ≤ (⟨n, i⟩ : zq).PC ∧ (⟨n, i⟩ : zq).PC ≤ 6) ∧ ((⟨n, i⟩ : zq).PC = 3 → 0 ≤ (⟨n, i⟩ : zq).I ∧ (⟨n, i⟩ : zq).I < (s.Ms.length : Int)) := fun n h1 h2 i => ⟨h1, fun e => absurd e h2⟩
  have hml := E.ml
  have hmt := h.mt
  unfold zk4
  split
  · exact E
  split
  · exact key _ rfl rfl rfl rfl rfl rfl rfl rfl (hm 1 (by decide) (by decide) _)
  split
  · split
    · exact key _ rfl rfl rfl rfl rfl rfl rfl rfl (hm 2 (by decide) (by decide) _)
    · exact E
  split
  · refine key _ rfl rfl rfl rfl rfl rfl rfl rfl ?_
    dsimp only
    split
    · exact hm 4 (by decide) (by decide) _
    · exact ⟨by decide, fun _ => by omega⟩
  split
  · rename_i c3
    have hi := E.D.2 c3
    split
    · exact E
    · refine key _ rfl rfl rfl rfl rfl rfl rfl rfl ?_
      dsimp only
      have e : wc (s.D.I + 1) = s.D.I + 1 := YF (by omega) (by omega)
      rw [e]
      split
      · exact hm 4 (by decide) (by decide) _
      · exact ⟨by decide, fun _ => by omega⟩
  split
  · split
    · exact key _ rfl rfl rfl rfl rfl rfl rfl rfl (hm 5 (by decide) (by decide) _)
    · exact key _ rfl rfl rfl rfl rfl rfl rfl rfl (hm 0 (by decide) (by decide) _)
  split
  · split
    · exact key _ rfl rfl rfl rfl rfl rfl rfl rfl (hm 0 (by decide) (by decide) _)
    · exact key _ rfl rfl rfl rfl rfl rfl rfl rfl (hm 6 (by decide) (by decide) _)
  split
  · exact key _ rfl rfl rfl rfl rfl rfl rfl rfl E.D
  · exact E
theorem HOk.put {p : zd} {h : zu} (H : HOk p h) (o s v : Int) : HOk p (zih h o s v) := by
  unfold zih
  split
  · rename_i c
    obtain ⟨c1, c2, c3⟩ := c
    unfold WW at c1
    simp only [Bool.and_eq_true, decide_eq_true_eq] at c1
    refine ⟨H.slots, by simp only [List.length_set]; exact H.n, fun l hl => ?_⟩
    simp only [List.length_set]
    rcases List.mem_or_eq_of_mem_set hl with hl | rfl
    · exact H.objs l hl
    · have hm : xw h o ∈ h.Objs := by
        unfold xw
        rw [List.getD_eq_getElem?_getD, List.getElem?_eq_getElem (show (o - 1).toNat < h.Objs.length by omega)]
        exact List.getElem_mem _
      obtain ⟨a, b⟩ := H.objs _ hm
      refine ⟨by rw [List.length_set]; exact a, fun y hy => ?_⟩
      rcases List.mem_or_eq_of_mem_set hy with hy | rfl
      · exact b y hy
      · exact ⟨c2, c3⟩
  · exact H
theorem HOk.alloc {p : zd} (hp : z8 p) {h : zu} (H : HOk p h) (hr : zdV h p.Most = true) : HOk p (zil h) := by
  unfold zdV at hr
  simp only [Bool.and_eq_true, decide_eq_true_eq] at hr
  have hs := hp.slots
  have hsl := H.slots
  have hn := H.n
  unfold zil
  refine ⟨H.slots, by simp only [List.length_append, List.length_singleton]; omega, fun l hl => ?_⟩
  simp only [List.length_append, List.length_singleton]
  rcases List.mem_append.1 hl with hl | hl
  · obtain ⟨a, b⟩ := H.objs l hl
    exact ⟨a, fun v hv => by have := b v hv; omega⟩
  · rw [List.mem_singleton.1 hl]
    refine ⟨by rw [List.length_replicate]; omega, fun v hv => ?_⟩
    rw [(List.mem_replicate.1 hv).2]; omega
theorem zwZ {p : zd} (hp : z8 p) {s : zc} (hP : s.P = p) (H : HOk p s.H) (m : Int) (x : zb) : HOk p (zJ s m x).1.H := by
  refine uN (motive := fun r => HOk p r.1.H) s m x ?_ ?_ ?_ ?_ ?_ ?_ ?_ ?_ ?_ ?_ ?_ ?_ ?_ ?_ ?_ ?_ ?_ ?_ ?_ ?_
  · intro c
    unfold mu0
    exact H
  · intro c
    unfold mu1
    exact H
  · intro c
    unfold mu2
    exact H
  · intro c
    unfold mu3
    rw [(zdd s x.G).2]; exact H
  · intro c
    unfold zkC
    exact H
  · intro c
    unfold ziS
    exact H
  · intro c
    unfold zje
    exact H
  · intro c
    unfold ziT
    exact H
  · intro c
    unfold zkP
    exact H.put _ _ _
  · intro c
    unfold zfA
    split
    · split
      · rename_i hr
        rw [hP] at hr
        exact H.alloc hp hr
      · exact H
    · exact H
  · intro c
    unfold zjh
    exact H
  · intro c
    unfold ziY
    exact H
  · intro c
    unfold zkI
    exact H
  · intro c
    unfold ziB
    exact H
  · intro c
    unfold zjj
    exact H
  · intro c
    unfold zi0
    exact H
  · intro c
    unfold zke
    rw [(zdd s x.G).2]; exact H
  · intro c
    unfold zkG
    exact H
  · intro c
    unfold zmv
    exact H
  · exact H
theorem zrr (s : zc) (m : Int) (x : zb) : (za1 s m x).Batch = x.Batch := by
  unfold za1
  repeat' split
  all_goals rfl
theorem zuo {s : zc} (h : Zq s) (m : Int) {x : zb} (hx : x.Batch.length < 1000000) : (zJ s m x).2.Batch.length < 1000000 := by
  refine uN (motive := fun r => r.2.Batch.length < 1000000) s m x ?_ ?_ ?_ ?_ ?_ ?_ ?_ ?_ ?_ ?_ ?_ ?_ ?_ ?_ ?_ ?_ ?_ ?_ ?_ ?_
  · intro c
    unfold mu0
    dsimp only; rw [zrr]; exact hx
  · intro c
    unfold mu1
    dsimp only; split <;> exact hx
  · intro c
    unfold mu2
    exact hx
  · intro c
    unfold mu3
    dsimp only; split <;> exact hx
  · intro c
    unfold zkC
    exact hx
  · intro c
    unfold ziS
    dsimp only; split <;> exact hx
  · intro c
    unfold zje
    dsimp only; split <;> exact hx
  · intro c
    unfold ziT
    dsimp only; split <;> exact hx
  · intro c
    unfold zkP
    exact hx
  · intro c
    unfold zfA
    split
    · split <;> exact hx
    · exact hx
  · intro c
    unfold zjh
    dsimp only; split <;> exact hx
  · intro c
    unfold ziY
    dsimp only
    split
    · exact hx
    split <;> exact hx
  · intro c
    unfold zkI
    exact zlI h _
  · intro c
    unfold ziB
    dsimp only; split <;> exact hx
  · intro c
    unfold zjj
    dsimp only
    cases hb : x.Batch with
    | nil => show ([] : List Int).length < 1000000; simp
    | cons o l => rw [hb] at hx; show l.length < _; simp at hx; omega
  · intro c
    unfold zi0
    dsimp only; split <;> exact hx
  · intro c
    unfold zke
    dsimp only; split <;> exact hx
  · intro c
    unfold zkG
    exact hx
  · intro c
    unfold zmv
    exact hx
  · exact hx
theorem zhm {p : zd} (h : z8 p) (m : Int) : zcu p m < 1000000 := by
  unfold zcu
  rw [List.getD_eq_getElem?_getD]
  cases hq : p.Regs[(m - 1).toNat]? with
  | none => simp
  | some r => have := (h.reg r (List.mem_of_getElem? hq)).1; show r.length < _; omega
theorem zgw {p : zd} {nb : Nat} {s : zc} (h : z8 p) (E : EOk p nb s) (m : Int) : EOk p nb (zN s m) := by
  unfold zN
  split
  · exact E
  rename_i hc
  cases hx : s.Ms[(m - 1).toNat]? with
  | none => exact E
  | some x =>
    have hw1 : ¬ m < 1 := fun e => hc (.inr (.inl e))
    have hw2 : ¬ (s.Ms.length : Int) < m := fun e => hc (.inr (.inr e))
    have ei : (((m - 1).toNat : Nat) : Int) + 1 = m := by omega
    have hX := E.X _ x hx
    rw [ei] at hX
    obtain ⟨r1, r2⟩ := zwo h (zsD h m) E.S hX
    have T := zqE s m x
    have TH := zwZ h E.S.P E.H m x
    have sm : Zq (zJ s m x).1 := E.small.turn h T TH
    have hms : (zJ s m x).1.Ms = s.Ms := T.ms
    have hb := h.buf
    refine ⟨r1.keep rfl rfl rfl, ?_, ?_, ?_, fun i y hy => ?_, fun i y hy => ?_, TH, ?_, ?_⟩
    · show ((zJ s m x).1.Ws.length : Int) = _
      rw [T.ws]; exact E.wl
    · show ((s.Ms.set _ _).length : Int) = _
      rw [List.length_set]; exact E.ml
    · show (zJ s m x).1.Acks.length = (s.Ms.set _ _).length
      rw [List.length_set, T.ac]; exact E.al
    · have hy : (zJ s m x).1.Ws[i]? = some y := hy
      rw [T.ws] at hy
      exact E.W i y hy
    · rcases zsq hy with ⟨rfl, rfl⟩ | hy
      · rw [ei]; exact r2
      · exact E.X i y hy
    · show (0 ≤ (zJ s m x).1.D.PC ∧ (zJ s m x).1.D.PC ≤ 6) ∧ ((zJ s m x).1.D.PC = 3 → 0 ≤ (zJ s m x).1.D.I ∧ (zJ s m x).1.D.I < ((s.Ms.set _ _).length : Int))
      rw [T.d, List.length_set]; exact E.D
    · have q := E.small.mu x (List.mem_of_getElem? hx)
      have q1 := r2.regs
      have q2 := r2.buf
      have q3 := zhm h m
      have := sm.setM (i := (m - 1).toNat) (x := (zJ s m x).2) ⟨by omega, by omega, zuo E.small m q.2.2⟩
      rw [hms] at this
      exact this
end
end Go.Pe.G
namespace Go.Pe.G
open Go.Pe
noncomputable section
theorem zso (t : zr) (o : Int) : zgC t o = some (zeU t o, ()) := by
  rw [zrA, zoZ, Option.bind_some]
  show (bif zoI (t.Marks &&& t.Black) o then _ else _) = _
  unfold zeU
  cases h : zoI (t.Marks &&& t.Black) o with
  | true => rfl
  | false =>
    rw [cond_false, zoZ, Option.bind_some]
    show (bif zoI t.Marks o then _ else _) = _
    cases h2 : zoI t.Marks o <;> rfl
theorem zpm (t : zr) (o : Int) : zct t o = some (znE t o, decide (zeU t o = 1), ()) := by
  rw [zoE, zso, Option.bind_some, zZ]
  unfold znE
  by_cases h : zeU t o = 1
  · rw [if_pos h, if_pos h, zkW, Option.bind_some, decide_eq_true h]
  · rw [if_neg h, if_neg h, decide_eq_false h]
theorem znu {h : zu} (hl : h.Objs.length < 1000000) (o s : Int) : XM h o s = some (WW h o s, ()) := by
  rw [ziD]
  simp only [zm]
  unfold WW
  by_cases h1 : 1 ≤ o
  · rw [if_pos h1]
    by_cases h2 : o ≤ (h.Objs.length : Int)
    · rw [if_pos h2]
      by_cases h3 : 0 ≤ s
      · have e := List.getElem?_eq_getElem (show (o - 1).toNat < h.Objs.length by omega)
        rw [if_pos h3, yh (a := o - 1) (by omega) (by omega), wS (by omega), e, Option.bind_some, decide_eq_true h1, decide_eq_true h2, decide_eq_true h3]
        unfold xw
        rw [List.getD_eq_getElem?_getD, e]; rfl
      · rw [if_neg h3, decide_eq_false h3, Bool.and_false]; rfl
    · rw [if_neg h2, decide_eq_false h2, Bool.and_false]; rfl
  · rw [if_neg h1, decide_eq_false h1]; rfl
theorem zrm {h : zu} (hl : h.Objs.length < 1000000) (o s : Int) : zef h o s = some (zaa h o s, WW h o s, ()) := by
  rw [zpE, znu hl, Option.bind_some]
  unfold zaa
  cases hs : WW h o s with
  | false => rfl
  | true =>
    have hs' := hs
    unfold WW at hs'
    simp only [Bool.and_eq_true, decide_eq_true_eq] at hs'
    obtain ⟨⟨⟨h1, h2⟩, h3⟩, h4⟩ := hs'
    have e := List.getElem?_eq_getElem (show (o - 1).toNat < h.Objs.length by omega)
    have es : xw h o = h.Objs[(o - 1).toNat]'(by omega) := by unfold xw; rw [List.getD_eq_getElem?_getD, e]; rfl
    rw [es] at h4
    have e2 := List.getElem?_eq_getElem (show s.toNat < (h.Objs[(o - 1).toNat]'(by omega)).length by omega)
    simp only [Bool.not_true, cond_false, if_true]
    rw [yh (a := o - 1) (by omega) (by omega), wS (by omega), e, Option.bind_some, wS h3, e2, Option.bind_some, es, List.getD_eq_getElem?_getD, e2]; rfl
theorem zff (l : zk) (who : Int) : ua l who = some (decide (1 ≤ who) && decide (who ≤ (l.Bal.length : Int)), ()) := by
  rw [ze1, zm]
  by_cases h1 : 1 ≤ who
  · rw [if_pos h1, decide_eq_true h1]; rfl
  · rw [if_neg h1, decide_eq_false h1]; rfl
theorem zr0 {l : zk} (hl : l.Bal.length < 1000000) (who : Int) : zdf l who = some (zkY l who, ()) := by
  rw [zlQ, xm, zff, Option.bind_some]
  unfold zkY
  by_cases h : 1 ≤ who ∧ who ≤ (l.Bal.length : Int)
  · rw [if_pos h, decide_eq_true h.1, decide_eq_true (show who ≤ ((({ l with Scanned := wc (l.Scanned + 1) } : zk).Bal.length : Nat) : Int) from h.2)]
    have hn : ¬ l.Bal.isEmpty = true := by
      intro e
      have : l.Bal = [] := by simpa using e
      rw [this] at h
      simp at h
      omega
    have hn : l.Bal.isEmpty = false := by simpa using hn
    have e := List.getElem?_eq_getElem (show (who - 1).toNat < l.Bal.length by omega)
    rw [Bool.true_and, Bool.not_true, cond_false, XW]
    simp only [decide_true, cond_true, zfE (n := (l.Bal.length : Int)) (by omega) (by omega), Option.bind_some, List.length_replicate, Int.toNat_natCast, hn, cond_false, xm]
    rw [YF (a := who - 1) (by omega) (by omega), u5 (l := l.Bal) (by omega) (by omega), Option.bind_some, e, Option.bind_some, zkg, Option.bind_some, Option.bind_some, Option.bind_some, xm, List.getD_eq_getElem?_getD, e]
    rfl
  · rw [if_neg h]
    have e : (decide (1 ≤ who) && decide (who ≤ ((({ l with Scanned := wc (l.Scanned + 1) } : zk).Bal.length : Nat) : Int))) = false := by
      by_cases h1 : 1 ≤ who
      · rw [decide_eq_true h1, decide_eq_false (fun e => h ⟨h1, e⟩)]; rfl
      · rw [decide_eq_false h1]; rfl
    rw [e]; rfl
theorem zuF {α : Type} (o : α) (l : List α) : cut (o :: l) 1 (((o :: l).length : Nat) : Int) = some l := by
  unfold cut
  rw [decide_eq_true (show (0 : Int) ≤ 1 by decide), decide_eq_true (show (1 : Int) ≤ (((o :: l).length : Nat) : Int) by simp; omega), decide_eq_true (Int.le_refl _)]
  simp
end
end Go.Pe.G
namespace Go.Pe.G
open Go.Pe
noncomputable section
theorem zms {p : zd} (h : z8 p) {m : Int} (hm : 1 ≤ m ∧ m ≤ p.Mutators) : p.Progs[(m - 1).toNat]? = some (xY p m) := by
  have := h.progs
  have e := List.getElem?_eq_getElem (show (m - 1).toNat < p.Progs.length by omega)
  unfold xY
  rw [List.getD_eq_getElem?_getD, e]; rfl
theorem zh9 {p : zd} (h : z8 p) {m : Int} (hm : 1 ≤ m ∧ m ≤ p.Mutators) {o : zg} (ho : o ∈ xY p m) : (0 ≤ o.R ∧ o.R < (zcu p m : Int)) ∧ (0 ≤ o.A ∧ o.A < (zcu p m : Int)) := by
  have hr := h.regs
  have er := List.getElem?_eq_getElem (show (m - 1).toNat < p.Regs.length by omega)
  have e1 : zcu p m = (p.Regs[(m - 1).toNat]'(by omega)).length := by unfold zcu; rw [List.getD_eq_getElem?_getD, er]; rfl
  have hl := (h.reg _ (List.getElem_mem (show (m - 1).toNat < p.Regs.length by omega))).1
  obtain ⟨a, b⟩ := (h.prog _ _ _ er (zms h hm)).2 o ho
  rw [e1]
  refine ⟨a, ?_⟩
  rcases b with ⟨_, b, _⟩ | ⟨_, b, _⟩ | ⟨_, b, _⟩
  · exact b
  · exact b
  · omega
theorem zey {p : zd} (h : z8 p) {s : zc} (hP : s.P = p) {m : Int} (hm : 1 ≤ m ∧ m ≤ p.Mutators) {x : zb} (hi : 0 ≤ x.IP ∧ x.IP < ((xY p m).length : Int)) :
    wA ⟨x, s, m⟩ = some (opM p m x, ()) ∧ opM p m x ∈ xY p m := by
  have hmt := h.mt
  have e := List.getElem?_eq_getElem (show x.IP.toNat < (xY p m).length by omega)
  have eo : opM p m x = (xY p m)[x.IP.toNat]'(by omega) := by unfold opM; rw [List.getD_eq_getElem?_getD, e]; rfl
  rw [zjx]
  dsimp only
  rw [hP, yh (a := m - 1) (by omega) (by omega), wS (by omega), zms h hm, Option.bind_some, wS hi.1, e, Option.bind_some, eo]
  exact ⟨rfl, List.getElem_mem _⟩
theorem zie {x : zb} {r : Int} (h : 0 ≤ r ∧ r < (x.Regs.length : Int)) : idx x.Regs r = some (zhz x r) := by
  have e := List.getElem?_eq_getElem (show r.toNat < x.Regs.length by omega)
  rw [wS h.1, e]
  unfold zhz
  rw [List.getD_eq_getElem?_getD, e]; rfl
theorem zcI {s : zc} {m : Int} {x : zb} {r : Int} (h : 0 ≤ r ∧ r < (x.Regs.length : Int)) (hl : x.Regs.length < 1000000) (v : Int) : vl r v ⟨x, s, m⟩ = some (⟨setM x r v, s, m⟩, ()) := by
  rw [zgh]
  simp only [Wu (show x.Regs.length < 4294967296 by omega), Option.bind_some, u5 h.1 h.2, uG, xm]
  rfl
theorem zjJ {p : zd} (h : z8 p) {s : zc} (hP : s.P = p) {m : Int} (hm : 1 ≤ m ∧ m ≤ p.Mutators) {x : zb} (hi : 0 ≤ x.IP ∧ x.IP < ((xY p m).length : Int)) (hr : x.Regs.length = zcu p m) (ho : s.H.Objs.length < 1000000) :
    Xj ⟨x, s, m⟩ = some (zp1 s m x, ()) := by
  obtain ⟨e1, e2⟩ := zey h hP hm hi
  have o := zh9 h hm e2
  rw [zib]
  simp only [e1, Option.bind_some, zie (x := x) (r := (opM p m x).A) (by omega), zrm ho]
  unfold zp1
  rw [hP]
theorem zid {p : zd} {nb : Nat} (h : z8 p) {s : zc} (S : SOk p nb s) {m : Int} {x : zb} (M : MOk p nb x.G) (to : Int) :
    uV to ⟨x, s, m⟩ = some (⟨if (zG s x.G).2.Out = 1 then { x with PC := to, G := (zG s x.G).2 } else { x with G := (zG s x.G).2 }, (zG s x.G).1, m⟩, ()) := by
  rw [zdA]
  simp only [zt0 (S.gok h M), Option.bind_some, zm]
  split <;> rfl
theorem znT (s : zc) (x : zb) (m : Int) : Ww ⟨x, s, m⟩ = some (onM s x.Slot, ()) := by
  rw [zjC, zm]
  unfold onM
  split <;> rfl
theorem zkb (k hd to : Int) (s : zc) (x : zb) (m : Int) : Zy k hd to ⟨x, s, m⟩ = some (⟨{ x with PC := to, C := ⟨k, 0, hd, yO s.P, 0#64, x.Bin, 0, 0⟩ }, s, m⟩, ()) := by
  rw [zfj]
  simp only [zdU, Option.bind_some, UU]
theorem zuX {m : List zb} (h : m.length < 4294967296) : wa m = some (m, ()) := by
  rw [YN, List.nil_append, wn h, Option.bind_some]
  cases m with
  | nil => simp [zgS]
  | cons a l => simp
theorem zpH {p : zd} (h : z8 p) {nb : Nat} {s : zc} (hP : s.P = p) {m : Int} (hm : 1 ≤ m ∧ m ≤ p.Mutators) (ha : (s.Acks.length : Int) = p.Mutators) {x : zb} (X : XOk p nb m x) :
    XI ⟨x, s, m⟩ = some (⟨za1 s m x, s, m⟩, ()) := by
  have hmt := h.mt
  have hip := X.ip
  have hrs := zhm h m
  have e := List.getElem?_eq_getElem (show (m - 1).toNat < s.Acks.length by omega)
  have ed : s.Acks.getD (m - 1).toNat 0 = s.Acks[(m - 1).toNat]'(by omega) := by rw [List.getD_eq_getElem?_getD, e]; rfl
  have pg : s.P.Progs[(m - 1).toNat]? = some (xY p m) := by rw [hP]; exact zms h hm
  rw [zeb]
  simp only [zm]
  rw [yh (a := m - 1) (by omega) (by omega), wS (by omega), e, Option.bind_some]
  unfold za1
  rw [ed, hP]
  by_cases c : (s.Acks[(m - 1).toNat]'(by omega)) < s.Epoch
  · rw [if_pos c, if_pos c]
  rw [if_neg c, if_neg c, ← hP, wS (by omega), pg, Option.bind_some, hP]
  by_cases c2 : ((xY p m).length : Int) ≤ x.IP
  · rw [if_pos c2, if_pos c2]
  rw [if_neg c2, if_neg c2]
  obtain ⟨e1, e2⟩ := zey h hP hm (x := x) (show 0 ≤ x.IP ∧ x.IP < ((xY p m).length : Int) by omega)
  have o := zh9 h hm e2
  have hreg := X.regs
  rw [e1, Option.bind_some]
  by_cases k1 : (opM p m x).Kind = 1
  · rw [if_pos k1, if_pos k1]
  rw [if_neg k1, if_neg k1]
  by_cases k2 : (opM p m x).Kind = 2
  · rw [if_pos k2, if_pos k2]
  rw [if_neg k2, if_neg k2]
  by_cases k3 : (opM p m x).Kind = 3
  · rw [if_pos k3, if_pos k3]
  rw [if_neg k3, if_neg k3]
  by_cases k4 : (opM p m x).Kind = 4
  · rw [if_pos k4, if_pos k4, zie (x := x) (r := (opM p m x).A) (by omega), Option.bind_some, zcI (x := x) (r := (opM p m x).R) (by omega) (by omega)]; rfl
  · rw [if_neg k4, if_neg k4, zcI (x := x) (r := (opM p m x).R) (by omega) (by omega)]; rfl
theorem ztX {h : zu} (hl : h.Objs.length < 1000000) (hs : ∀ l ∈ h.Objs, l.length < 1000000) (o i v : Int) : ∃ b, zjc h o i v = some (zih h o i v, b, ()) := by
  rw [zpX, znu hl, Option.bind_some]
  unfold zih
  cases ht : WW h o i with
  | false => rw [if_neg (fun e => by cases e.1)]; exact ⟨_, rfl⟩
  | true =>
    rw [Bool.not_true, cond_false, zm]
    by_cases h1 : v < 0
    · rw [if_pos h1, if_neg (by omega)]; exact ⟨_, rfl⟩
    rw [if_neg h1, zm]
    by_cases h2 : (h.Objs.length : Int) < v
    · rw [if_pos h2, if_neg (by omega)]; exact ⟨_, rfl⟩
    have hh := ht
    unfold WW at hh
    simp only [Bool.and_eq_true, decide_eq_true_eq] at hh
    obtain ⟨⟨⟨g1, g2⟩, g3⟩, g4⟩ := hh
    have e := List.getElem?_eq_getElem (show (o - 1).toNat < h.Objs.length by omega)
    have es : xw h o = h.Objs[(o - 1).toNat]'(by omega) := by unfold xw; rw [List.getD_eq_getElem?_getD, e]; rfl
    have hlen := hs _ (List.mem_of_getElem? e)
    rw [if_neg h2, if_pos ⟨rfl, by omega, by omega⟩, ziP (by omega), Option.bind_some, yh (a := o - 1) (by omega) (by omega), u5 (l := h.Objs) (by omega) (by omega), Option.bind_some, e, Option.bind_some, Wu (by omega), Option.bind_some, Option.bind_some, Option.bind_some]
    rw [zm, if_pos rfl, u5 g3 (by rw [← es]; exact g4), Option.bind_some, es]
    exact ⟨_, rfl⟩
theorem zjs {h : zu} (h1 : 1 ≤ h.Slots ∧ h.Slots ≤ 4) (h2 : h.Objs.length ≤ 64) (h3 : ∀ o ∈ h.Objs, (o.length : Int) = h.Slots ∧ ∀ v ∈ o, 0 ≤ v ∧ v ≤ (h.Objs.length : Int)) : X5 h = some (true, ()) := by
  rw [zgv, zm, if_pos h1.1, zm, if_pos h1.2, zm, if_pos (by omega), zpu (by omega) (by omega) h3]
  rfl
theorem ztl {h : zu} (h1 : 1 ≤ h.Slots ∧ h.Slots ≤ 4) (h2 : h.Objs.length ≤ 64) (h3 : ∀ o ∈ h.Objs, (o.length : Int) = h.Slots ∧ ∀ v ∈ o, 0 ≤ v ∧ v ≤ (h.Objs.length : Int)) (hne : h.Objs ≠ []) (most : Int) :
    zfy h most = some (if zdV h most = true then (zil h, (h.Objs.length : Int) + 1, 0, ()) else (h, 0, 4, ())) := by
  have hn : h.Objs.length ≠ 0 := fun e => hne (List.eq_nil_of_length_eq_zero e)
  rw [zna, zjs h1 h2 h3, Option.bind_some, Bool.not_true, cond_false]
  simp only [zm]
  have er : zdV h most = true ↔ (h.Objs.length : Int) < most ∧ (h.Objs.length : Int) < 64 := by unfold zdV; simp
  have hx : (if 64 < most then (64 : Int) else most) ≤ (h.Objs.length : Int) ↔ ¬ (zdV h most = true) := by
    rw [er]
    split <;> omega
  by_cases hr : zdV h most = true
  · rw [if_neg (fun e => hx.1 e hr), if_pos hr]
    have ec : YC h.Objs = some (h.Objs, ()) := by
      rw [zdc]
      simp [hn]
    rw [ec, Option.bind_some, if_pos trivial, zgU, decide_eq_true (show 0 ≤ h.Slots by omega), decide_eq_true (show h.Slots < 4294967296 by omega)]
    simp only [Bool.and_self, cond_true, Option.bind_some]
    rw [wn (by simp only [List.length_append, List.length_singleton]; omega), Option.bind_some]
    unfold zil
    simp
  · rw [if_pos (hx.2 hr), if_neg hr]
theorem zth (t : zr) (o : Int) : ∃ b, zft t o = some (zmG t o, b, ()) := by
  rw [zmS, zmO, Option.bind_some]
  unfold zmG
  dsimp only
  cases hs : (zeG t o).2 with
  | false => rw [if_neg (by simp)]; exact ⟨_, rfl⟩
  | true => rw [Bool.not_true, cond_false, zpm, if_pos rfl]; exact ⟨_, rfl⟩
theorem zjo (l : zk) (who price limit : Int) : Zd l who price limit = some (VI l who price limit, ()) := by
  rw [zes, zff, Option.bind_some]
  unfold VI Vz
  simp only [zm]
  cases ht : (decide (1 ≤ who) && decide (who ≤ (l.Bal.length : Int))) with
  | false => rw [cond_false]; simp
  | true =>
    rw [cond_true]
    by_cases h1 : 0 ≤ price <;> by_cases h2 : 0 ≤ limit
    · rw [if_pos (by split <;> omega)]
      simp only [Bool.true_and, decide_eq_true h1, decide_eq_true h2, Option.some.injEq, Prod.mk.injEq, and_true]
      rw [Bool.eq_iff_iff]
      simp only [decide_eq_true_eq, Bool.and_eq_true]
      split <;> omega
    · rw [if_neg (by split <;> omega)]; simp [h2]
    · rw [if_neg (by split <;> omega)]; simp [h1]
    · rw [if_neg (by split <;> omega)]; simp [h1]
theorem zo2 {l : zk} {who : Int} (hl : l.Bal.length < 1000000) (h : Vz l who = true) : idx l.Bal (w64 (who - 1)) = some (zaV l who) ∧ xT l.Bal (w64 (who - 1)) = some (who - 1).toNat ∧ l.Bal[(who - 1).toNat]? = some (zaV l who) := by
  unfold Vz at h
  simp only [Bool.and_eq_true, decide_eq_true_eq] at h
  have e := List.getElem?_eq_getElem (show (who - 1).toNat < l.Bal.length by omega)
  have eb : zaV l who = l.Bal[(who - 1).toNat]'(by omega) := by unfold zaV; rw [List.getD_eq_getElem?_getD, e]; rfl
  rw [yh (a := who - 1) (by omega) (by omega), wS (by omega), u5 (by omega) (by omega), e, eb]
  exact ⟨rfl, rfl, rfl⟩
theorem znK {l : zk} (hl : l.Bal.length < 1000000) (who price limit : Int) : zaF l who price limit = some (ziM l who price limit, ()) := by
  rw [znz, zjo, Option.bind_some]
  unfold ziM
  cases hp : VI l who price limit with
  | false => rfl
  | true =>
    have ht : Vz l who = true := by unfold VI at hp; simp only [Bool.and_eq_true] at hp; exact hp.1.1.1.1
    dsimp only
    rw [cond_true, (zo2 hl ht).1, Option.bind_some, xm, Bool.true_and, Int.zero_sub]
theorem zjp {l l' : zk} (hl : l.Bal.length < 1000000) {who : Int} (h : Vz l who = true) (hb : l'.Bal = l.Bal) {v : Int} {Q : Option (zk × Unit)} {f : Int → Option (Int × Unit)} (hf : f (zaV l who) = some (v, ()))
    (hQ : Q = bif decide (((l'.Bal.length : Int)) = ((l'.Bal.length : Int))) then (YG ((l'.Bal.length : Int))).bind fun n1 => bif decide (l'.Bal.length = ((List.replicate n1 ((0 : Int))).length)) then
      bif l'.Bal.isEmpty then (xT (List.replicate n1 ((0 : Int))) (w64 (who - 1))).bind fun n2 => ((List.replicate n1 ((0 : Int)))[n2]?).bind fun x3 => (f x3).bind fun y4 => (xT (List.replicate n1 ((0 : Int))) (w64 (who - 1))).bind fun n5 => some ({ l' with Bal := (List.replicate n1 ((0 : Int))).set n5 y4.1 }, ())
      else (xT l'.Bal (w64 (who - 1))).bind fun n6 => (l'.Bal[n6]?).bind fun x7 => (f x7).bind fun y8 => (xT l'.Bal (w64 (who - 1))).bind fun n9 => some ({ l' with Bal := l'.Bal.set n9 y8.1 }, ()) else none else none) :
    Q = some ({ l' with Bal := l.Bal.set (who - 1).toNat v }, ()) := by
  obtain ⟨e1, e2, e3⟩ := zo2 hl h
  have hne : l.Bal.isEmpty = false := by
    cases hl2 : l.Bal with
    | nil => rw [hl2] at e3; simp at e3
    | cons a r => rfl
  rw [hQ, hb, zgU, decide_eq_true (show (0 : Int) ≤ (l.Bal.length : Int) by omega), decide_eq_true (show (l.Bal.length : Int) < 4294967296 by omega)]
  simp only [decide_true, cond_true, Bool.and_self, Option.bind_some, Int.toNat_natCast, List.length_replicate, hne, cond_false, e2, e3, hf]
theorem zrs {l : zk} (hl : l.Bal.length < 1000000) (who price limit : Int) : zbD l who price limit = some (if ziM l who price limit = true then (zkF l who price, true, ()) else (l, false, ())) := by
  rw [zlh, znK hl, Option.bind_some]
  cases hm : ziM l who price limit with
  | false => rfl
  | true =>
    have ht : Vz l who = true := by unfold ziM VI at hm; simp only [Bool.and_eq_true] at hm; exact hm.1.1.1.1.1
    dsimp only
    rw [Bool.not_true, cond_false, zjp (l' := { l with Spent := w64 (l.Spent + price) }) hl ht rfl (f := fun b => WA b price) (v := wc (zaV l who - price)) (by rw [zjI, xm]) (XL _ _ _), Option.bind_some, if_pos rfl, xm]
    rfl
theorem zsc {l : zk} (hl : l.Bal.length < 1000000) (who want : Int) : zdL l who want = some ((zgJ l who want).1, (zgJ l who want).2, ()) := by
  rw [zmA, zff, Option.bind_some]
  unfold zgJ
  have em : (bif decide (l.Pool < want) then l.Pool else want) = zis want l.Pool := by rw [zm]; rfl
  simp only [em]
  have et : (decide (1 ≤ who) && decide (who ≤ (l.Bal.length : Int))) = Vz l who := rfl
  rw [et]
  cases ht : Vz l who with
  | false => rw [if_neg (fun e => by cases e.1)]; rfl
  | true =>
    rw [Bool.not_true, cond_false, zm]
    by_cases hz : zis want l.Pool ≤ 0
    · rw [if_pos hz, if_neg (by omega)]
    · rw [if_neg hz, if_pos ⟨rfl, by omega⟩, zjp (l' := { l with Pool := w64 (l.Pool - zis want l.Pool) }) hl ht rfl (f := fun b => Vg b (zis want l.Pool)) (v := wc (zaV l who + zis want l.Pool)) (by rw [zkA, xm]) (XZ _ _ _), Option.bind_some, xm]
theorem zqp {l : zk} (hl : l.Bal.length < 1000000) (who price limit : Int) : zbZ l who price limit = some (zkn l who price limit, ()) := by
  rw [zlf, zjo, Option.bind_some]
  unfold zkn
  cases hp : VI l who price limit with
  | false => rfl
  | true =>
    have ht : Vz l who = true := by unfold VI at hp; simp only [Bool.and_eq_true] at hp; exact hp.1.1.1.1
    dsimp only
    rw [Bool.not_true, cond_false, znK hl, Option.bind_some, if_pos rfl]
    cases hm : ziM l who price limit with
    | false => rw [cond_false, (zo2 hl ht).1, Option.bind_some, xm]; rfl
    | true => rfl
theorem zrG {p : zd} {nb : Nat} (h : z8 p) {s : zc} {x : zb} {m : Int} (S : SOk p nb s) (X : XOk p nb m x) (hm : 1 ≤ m ∧ m ≤ p.Mutators) (ha : (s.Acks.length : Int) = p.Mutators) (sm : Zq s) (H : HOk p s.H) (hb : x.Buf.length < 1000000) (hbt : x.Batch.length < 1000000) : Wa ⟨x, s, m⟩ = some (⟨(zJ s m x).2, (zJ s m x).1, m⟩, ()) := by
  have hmt := h.mt
  have hpc := X.pc
  rw [zeP]
  simp only [zm]
  unfold zJ
  by_cases c0 : x.PC = 0
  · rw [if_pos c0, if_pos c0, zpH h S.P hm ha X]; rfl
  rw [if_neg c0, if_neg c0]
  by_cases c1 : x.PC = 1
  · rw [if_pos c1, if_pos c1, zek]
    simp only [zm]
    unfold mu1
    by_cases e : x.Buf.length = 0
    · rw [if_pos e, if_pos (by rw [yh (by omega) (by omega)]; omega)]; rfl
    · have ei := List.getElem?_eq_getElem (show x.Buf.length - 1 < x.Buf.length by omega)
      have en : ((x.Buf.length : Int) - 1).toNat = x.Buf.length - 1 := by omega
      have ec : cut x.Buf 0 ((x.Buf.length : Int) - 1) = some (x.Buf.take (x.Buf.length - 1)) := by
        unfold cut
        rw [decide_eq_true (show (0 : Int) ≤ 0 by decide), decide_eq_true (show (0 : Int) ≤ (x.Buf.length : Int) - 1 by omega), decide_eq_true (show (x.Buf.length : Int) - 1 ≤ (x.Buf.length : Int) by omega), en]
        simp
      rw [if_neg e, yh (a := (x.Buf.length : Int) - 1) (by omega) (by omega), if_neg (by omega), wS (by omega), en, ei, Option.bind_some, zmI, Option.bind_some, ec, List.getD_eq_getElem?_getD, ei]
      rfl
  rw [if_neg c1, if_neg c1]
  by_cases c2 : x.PC = 2
  · rw [if_pos c2, if_pos c2, zgg]
    have hs := sm.acks
    simp only [Wu (show s.Acks.length < 4294967296 by omega), Option.bind_some]
    rw [yh (a := m - 1) (by omega) (by omega), u5 (l := s.Acks) (by omega) (by omega)]
    rfl
  rw [if_neg c2, if_neg c2]
  have hbl := sm.bal
  have hon := sm.objs
  have hregs := X.regs
  have hrs := zhm h m
  have hHs := H.slots
  have hHn := H.n
  have hpn := h.n
  have hpm := h.most
  have hps := h.slots
  have op := fun (hi : x.IP < ((xY p m).length : Int)) => zey h S.P hm (x := x) ⟨X.ip.1, hi⟩
  by_cases c3 : x.PC = 3
  · rw [if_pos c3, if_pos c3, zed, zid h S (X.g (.inl c3)).1]; rfl
  rw [if_neg c3, if_neg c3]
  by_cases c10 : x.PC = 10
  · have hi := X.op (.inl (by omega))
    obtain ⟨e1, e2⟩ := op hi
    have o := zh9 h hm e2
    rw [if_pos c10, if_pos c10, zeN, e1, Option.bind_some, zjJ h S.P hm ⟨X.ip.1, hi⟩ hregs hon, Option.bind_some, zcI (x := x) (r := (opM p m x).R) (by omega) (by omega)]
    unfold zkC
    rw [S.P]; rfl
  rw [if_neg c10, if_neg c10]
  by_cases c20 : x.PC = 20
  · have hi := X.op (.inl (by omega))
    obtain ⟨e1, e2⟩ := op hi
    have o := zh9 h hm e2
    rw [if_pos c20, if_pos c20, zgp, e1, Option.bind_some]
    unfold ziS
    dsimp only
    rw [zie (x := x) (r := (opM p m x).A) (by omega), Option.bind_some, zm, S.P]
    by_cases e : zhz x (opM p m x).A = 0
    · rw [if_pos e, if_pos e, uG, xm]; rfl
    · rw [if_neg e, if_neg e, zjJ h S.P hm ⟨X.ip.1, hi⟩ hregs hon]; rfl
  rw [if_neg c20, if_neg c20]
  by_cases c21 : x.PC = 21
  · rw [if_pos c21, if_pos c21, zdX]
    unfold zje
    dsimp only
    rw [zm]
    by_cases e : x.Old = 0
    · rw [if_pos e, if_pos (.inl e)]; rfl
    · rw [if_neg e, zso, Option.bind_some, zZ]
      by_cases e2 : zeU s.T x.Old = 0
      · rw [if_pos e2, if_neg (fun h => h.elim e (fun h => h e2))]; rfl
      · rw [if_neg e2, if_pos (.inr e2)]; rfl
  rw [if_neg c21, if_neg c21]
  by_cases c22 : x.PC = 22
  · rw [if_pos c22, if_pos c22, zbF]
    unfold ziT
    dsimp only
    rw [zm]
    by_cases e : s.P.Buf ≤ (x.Buf.length : Int)
    · rw [if_pos e, if_pos e]; rfl
    · rw [if_neg e, if_neg e, Wu (by omega), Option.bind_some, wn (by simp; omega)]; rfl
  rw [if_neg c22, if_neg c22]
  by_cases c23 : x.PC = 23
  · have hi := X.op (.inl (by omega))
    obtain ⟨e1, e2⟩ := op hi
    have o := zh9 h hm e2
    obtain ⟨b, ep⟩ := ztX hon sm.obj (zhz x (opM p m x).A) (opM p m x).S (zhz x (opM p m x).R)
    rw [if_pos c23, if_pos c23, zd2, e1, Option.bind_some]
    dsimp only
    rw [zie (x := x) (r := (opM p m x).A) (by omega), Option.bind_some, zie (x := x) (r := (opM p m x).R) (by omega), Option.bind_some, ep, Option.bind_some, uG, xm]
    unfold zkP
    rw [S.P]; rfl
  rw [if_neg c23, if_neg c23]
  by_cases c30 : x.PC = 30
  · have hi := X.op (.inl (by omega))
    obtain ⟨e1, e2⟩ := op hi
    have o := zh9 h hm e2
    have hne : s.H.Objs ≠ [] := fun e => by have e2 : s.H.Objs.length = 0 := by rw [e]; rfl
                                            omega
    rw [if_pos c30, if_pos c30, zej]
    unfold zfA
    dsimp only
    rw [zrs hbl, Option.bind_some]
    cases hmay : ziM s.L m s.P.Price s.P.Limit with
    | false => rfl
    | true =>
      rw [if_pos rfl, if_pos rfl]
      dsimp only
      rw [Bool.not_true, cond_false, ztl (show 1 ≤ s.H.Slots ∧ s.H.Slots ≤ 4 by rw [hHs]; omega) (show s.H.Objs.length ≤ 64 by omega) H.objs hne, Option.bind_some]
      cases hr : zdV s.H s.P.Most with
      | false =>
        rw [if_neg (by simp), if_neg (by simp)]
        dsimp only
        rw [zZ, if_neg (by decide), uG, xm]; rfl
      | true =>
        rw [if_pos rfl, if_pos rfl]
        dsimp only
        obtain ⟨b, ef⟩ := zth s.T ((s.H.Objs.length : Int) + 1)
        rw [zZ, if_pos rfl, ef, Option.bind_some]
        have e3 := (zey h (s := { s with H := zil s.H, T := zmG s.T ((s.H.Objs.length : Int) + 1), L := zkF s.L m s.P.Price }) S.P hm (x := x) ⟨X.ip.1, hi⟩).1
        rw [e3, Option.bind_some, zcI (x := x) (r := (opM p m x).R) (by omega) (by omega), YF (by omega) (by omega)]
        rw [S.P]; rfl
  rw [if_neg c30, if_neg c30]
  by_cases c31 : x.PC = 31
  · rw [if_pos c31, if_pos c31, zfG]
    unfold zjh
    dsimp only
    rw [zqp hbl, Option.bind_some, zsc hbl, Option.bind_some, zm]
    by_cases e : (zgJ s.L m (zkn s.L m s.P.Price s.P.Limit)).2 = 0
    · rw [if_pos e, if_pos e, zeC, Option.bind_some, zkb]; rfl
    · rw [if_neg e, if_neg e]; rfl
  rw [if_neg c31, if_neg c31]
  by_cases c32 : x.PC = 32
  · rw [if_pos c32, if_pos c32, zf7]
    unfold ziY
    dsimp only
    rw [zev (by have := S.mem; omega), Option.bind_some, zm, zm]
    by_cases e : (zX s.M x.C).2.Out = 1
    · rw [if_pos e, if_pos e]; rfl
    · rw [if_neg e, if_neg e]
      by_cases e2 : (zX s.M x.C).2.Out = 2
      · rw [if_pos e2, if_pos e2]; rfl
      · rw [if_neg e2, if_neg e2]; rfl
  rw [if_neg c32, if_neg c32]
  by_cases c33 : x.PC = 33
  · have B := X.b33 c33
    have hbn := S.bins
    have hnb := S.nbk
    have e := List.getElem?_eq_getElem (show x.Bin.toNat < s.Bins.length by omega)
    rw [if_pos c33, if_pos c33, zeh]
    unfold zkI
    dsimp only
    rw [wS (by omega), e, Option.bind_some, ziP (by omega), Option.bind_some, u5 (l := s.Bins) (by omega) (by omega), Option.bind_some, zcz, Option.bind_some, zkb]
    have eb : zkR s x.Bin = s.Bins[x.Bin.toNat]'(by omega) := by unfold zkR; rw [List.getD_eq_getElem?_getD, e]; rfl
    rw [eb]; rfl
  rw [if_neg c33, if_neg c33]
  by_cases c34 : x.PC = 34
  · rw [if_pos c34, if_pos c34, zfL]
    unfold ziB
    dsimp only
    rw [zev (by have := S.mem; omega), Option.bind_some, zm]
    by_cases e : (zX s.M x.C).2.Out = 1
    · rw [if_pos e, if_pos e]; rfl
    · rw [if_neg e, if_neg e]; rfl
  rw [if_neg c34, if_neg c34]
  by_cases c35 : x.PC = 35
  · rw [if_pos c35, if_pos c35, zdW]
    unfold zjj
    dsimp only
    rw [zm]
    cases hbb : x.Batch with
    | nil => rw [if_neg (by simp)]; rfl
    | cons o l =>
      have : idx (o :: l) 0 = some o := by rw [wS (by omega)]; rfl
      rw [if_pos (by simp), this, Option.bind_some, zuF]; rfl
  rw [if_neg c35, if_neg c35]
  by_cases c36 : x.PC = 36
  · rw [if_pos c36, if_pos c36, zeO]
    unfold zi0
    dsimp only
    rw [zrm hon, Option.bind_some, znT, Option.bind_some, zZ, xm]
    by_cases e : zaa s.H x.Obj x.Slot = 0
    · rw [if_pos e, if_pos e]; rfl
    · rw [if_neg e, if_neg e, zmI]; rfl
  rw [if_neg c36, if_neg c36]
  by_cases c37 : x.PC = 37
  · rw [if_pos c37, if_pos c37, zgi, znT, Option.bind_some, zid h S (X.g (.inr c37)).1]; rfl
  rw [if_neg c37, if_neg c37]
  by_cases c38 : x.PC = 38
  · rw [if_pos c38, if_pos c38, zc3]
    unfold zkG
    dsimp only
    rw [zpm, Option.bind_some, zr0 hbl]; rfl
  rw [if_neg c38, if_neg c38]
  have c39 : x.PC = 39 := by omega
  rw [if_pos c39, if_pos c39, zcP, xm]; rfl
theorem zeM {p : zd} {nb : Nat} {s : zc} (h : z8 p) (E : EOk p nb s) (m : Int) : X2 s m = some (zN s m, ()) := by
  rw [zla]
  simp only [zm]
  unfold zN
  cases hd : s.Done with
  | true => rw [cond_true, if_pos (.inl rfl)]
  | false =>
    rw [cond_false]
    by_cases h1 : m < 1
    · rw [if_pos h1, if_pos (.inr (.inl h1))]
    rw [if_neg h1]
    by_cases h2 : (s.Ms.length : Int) < m
    · rw [if_pos h2, if_pos (.inr (.inr h2))]
    have hml := E.ml
    have hal := E.al
    have hmt := h.mt
    have e := List.getElem?_eq_getElem (show (m - 1).toNat < s.Ms.length by omega)
    have ei : (((m - 1).toNat : Nat) : Int) + 1 = m := by omega
    have hX := E.X _ _ e
    rw [ei] at hX
    have hb := (E.small.mu _ (List.mem_of_getElem? e)).2
    have T := zqE s m (s.Ms[(m - 1).toNat]'(by omega))
    rw [if_neg h2, if_neg (fun e => e.elim (fun h => by cases h) (fun e => e.elim h1 h2)), yh (a := m - 1) (by omega) (by omega), wS (by omega), e, Option.bind_some, zrG h E.S hX (by omega) (by omega) E.small E.H hb.1 hb.2, Option.bind_some]
    simp only [T.ms, zuX (show s.Ms.length < 4294967296 by omega), Option.bind_some, u5 (l := s.Ms) (show 0 ≤ m - 1 by omega) (show m - 1 < (s.Ms.length : Int) by omega)]
end
end Go.Pe.G
namespace Go.Pe.G
open Go.Pe
noncomputable section
theorem znn (s : zc) (g : zC) : (zG s g).1 = { s with M := (zG s g).1.M, Bins := (zG s g).1.Bins, T := (zG s g).1.T, Work := (zG s g).1.Work, Flag := (zG s g).1.Flag } := by
  obtain ⟨m, b, t, wk, f, e, _⟩ := Wv s g
  rw [e]
theorem zsO {p : zd} {nb : Nat} {s : zc} {w : Int} {x : zj} (W : WOk p nb w x) : (yH s w x).1 = { s with M := (yH s w x).1.M, Bins := (yH s w x).1.Bins, T := (yH s w x).1.T, Work := (yH s w x).1.Work, L := (yH s w x).1.L } := by
  unfold yH
  split
  · rfl
  split
  · rfl
  split
  · rfl
  split
  · rfl
  split
  · rfl
  split
  · rename_i h6
    obtain ⟨g1, g2, g3, g4⟩ := W.g6 h6
    have hf := (zsj s g3 g4).2
    obtain ⟨m, b, t, wk, f, e, _⟩ := Wv s x.G
    dsimp only
    rw [e] at hf ⊢
    have hf : f = s.Flag := hf
    rw [hf]
  split
  · rfl
  split
  · rfl
  split <;> rfl
theorem zpx (s : zc) (m : Int) (x : zb) : (zJ s m x).1 = { s with H := (zJ s m x).1.H, M := (zJ s m x).1.M, Bins := (zJ s m x).1.Bins, T := (zJ s m x).1.T, Work := (zJ s m x).1.Work, Flag := (zJ s m x).1.Flag, Acks := (zJ s m x).1.Acks, L := (zJ s m x).1.L } := by
  have g : ∀ g : zC, (zG s g).1 = { s with H := (zG s g).1.H, M := (zG s g).1.M, Bins := (zG s g).1.Bins, T := (zG s g).1.T, Work := (zG s g).1.Work, Flag := (zG s g).1.Flag, Acks := (zG s g).1.Acks, L := (zG s g).1.L } := fun g => by
    obtain ⟨m, b, t, wk, f, e, _⟩ := Wv s g
    rw [e]
  refine uN (motive := fun r => r.1 = { s with H := r.1.H, M := r.1.M, Bins := r.1.Bins, T := r.1.T, Work := r.1.Work, Flag := r.1.Flag, Acks := r.1.Acks, L := r.1.L }) s m x ?_ ?_ ?_ ?_ ?_ ?_ ?_ ?_ ?_ ?_ ?_ ?_ ?_ ?_ ?_ ?_ ?_ ?_ ?_ ?_
  · exact fun _ => rfl
  · exact fun _ => rfl
  · exact fun _ => rfl
  · exact fun _ => g x.G
  · exact fun _ => rfl
  · exact fun _ => rfl
  · exact fun _ => rfl
  · exact fun _ => rfl
  · exact fun _ => rfl
  · intro _
    unfold zfA
    split
    · split <;> rfl
    · rfl
  · exact fun _ => rfl
  · exact fun _ => rfl
  · exact fun _ => rfl
  · exact fun _ => rfl
  · exact fun _ => rfl
  · exact fun _ => rfl
  · exact fun _ => g x.G
  · exact fun _ => rfl
  · exact fun _ => rfl
  · rfl
theorem zxg (s : zc) (m : Int) {x : zb} (h : x.PC ≠ 2) : (zJ s m x).1.Acks = s.Acks := by
  have g : ∀ g : zC, (zG s g).1.Acks = s.Acks := fun g => by
    obtain ⟨m, b, t, wk, f, e, _⟩ := Wv s g
    rw [e]
  refine uN (motive := fun r => r.1.Acks = s.Acks) s m x ?_ ?_ ?_ ?_ ?_ ?_ ?_ ?_ ?_ ?_ ?_ ?_ ?_ ?_ ?_ ?_ ?_ ?_ ?_ ?_
  · exact fun _ => rfl
  · exact fun _ => rfl
  · exact fun c => absurd c h
  · exact fun _ => g x.G
  · exact fun _ => rfl
  · exact fun _ => rfl
  · exact fun _ => rfl
  · exact fun _ => rfl
  · exact fun _ => rfl
  · intro _
    unfold zfA
    split
    · split <;> rfl
    · rfl
  · exact fun _ => rfl
  · exact fun _ => rfl
  · exact fun _ => rfl
  · exact fun _ => rfl
  · exact fun _ => rfl
  · exact fun _ => rfl
  · exact fun _ => g x.G
  · exact fun _ => rfl
  · exact fun _ => rfl
  · rfl
def znr (s : zc) (k : Int) : zc := if k = 0 then zk4 s else if k ≤ (s.Ws.length : Int) then uz s k else zN s (k - s.Ws.length)
theorem zxp {p : zd} {nb : Nat} {s : zc} (h : z8 p) (E : EOk p nb s) (k : Int) : EOk p nb (znr s k) := by
  unfold znr
  split
  · exact zwN h E
  split
  · exact zuG h E k
  · exact zgw h E _
theorem zl0 {p : zd} {nb : Nat} {s : zc} (E : EOk p nb s) (w : Int) : uz s w = { s with M := (uz s w).M, Bins := (uz s w).Bins, T := (uz s w).T, Work := (uz s w).Work, L := (uz s w).L, Ws := (uz s w).Ws } := by
  unfold uz
  split
  · rfl
  rename_i hc
  cases hx : s.Ws[(w - 1).toNat]? with
  | none => rfl
  | some x =>
    have hW := E.W _ _ hx
    rw [show (((w - 1).toNat : Nat) : Int) + 1 = w by omega] at hW
    dsimp only
    rw [zsO hW]
theorem zux (s : zc) (m : Int) : zN s m = { s with H := (zN s m).H, M := (zN s m).M, Bins := (zN s m).Bins, T := (zN s m).T, Work := (zN s m).Work, Flag := (zN s m).Flag, Acks := (zN s m).Acks, L := (zN s m).L, Ms := (zN s m).Ms } := by
  unfold zN
  split
  · rfl
  cases hx : s.Ms[(m - 1).toNat]? with
  | none => rfl
  | some x =>
    dsimp only
    rw [zpx]
structure AI (k : Int) (s : zc) : Prop where
  ep : 0 ≤ s.Epoch ∧ s.Epoch ≤ k
  m : ∀ (i : Nat) x, s.Ms[i]? = some x → s.Acks.getD i 0 ≤ s.Epoch ∧ (x.PC = 2 ∨ ((x.PC = 1 ∨ x.PC = 3) ∧ x.Ret = 2) → s.Acks.getD i 0 ≤ x.Want ∧ x.Want ≤ s.Epoch) ∧ (x.PC = 2 → x.Buf = [])
def zs8 (s s' : zc) : Prop := ∀ (i : Nat) x', s'.Ms[i]? = some x' → s.Acks.getD i 0 ≤ s'.Acks.getD i 0 ∧ s'.Acks.getD i 0 ≤ s'.Epoch ∧ (s.Acks.getD i 0 < s'.Acks.getD i 0 → x'.Buf = [])
theorem AI.same {k : Int} {s s' : zc} (A : AI k s) (e1 : s'.Epoch = s.Epoch) (e2 : s'.Ms = s.Ms) (e3 : s'.Acks = s.Acks) : AI (k + 1) s' ∧ zs8 s s' := by
  refine ⟨⟨by rw [e1]; have := A.ep; omega, by rw [e1, e2, e3]; exact A.m⟩, fun i x hx => ?_⟩
  rw [e2] at hx
  rw [e3, e1]
  exact ⟨Int.le_refl _, (A.m i x hx).1, fun e => by omega⟩
theorem zqd {α : Type} {l : List α} {i j : Nat} {v d : α} (h : i < l.length) : (l.set i v).getD j d = if i = j then v else l.getD j d := by
  rw [List.getD_eq_getElem?_getD, List.getD_eq_getElem?_getD, List.getElem?_set]
  by_cases e : i = j
  · rw [if_pos e, if_pos e, if_pos h]; rfl
  · rw [if_neg e, if_neg e]
theorem zwJ {p : zd} {nb : Nat} {k : Int} {s : zc} (hp : z8 p) (E : EOk p nb s) (A : AI k s) {m : Int} (hm : 1 ≤ m ∧ m ≤ (s.Ms.length : Int)) {x : zb} (hx : s.Ms[(m - 1).toNat]? = some x) :
    let y := (zJ s m x).2
    let s' := (zJ s m x).1
    (s.Acks.getD (m - 1).toNat 0 ≤ s'.Acks.getD (m - 1).toNat 0 ∧ s'.Acks.getD (m - 1).toNat 0 ≤ s.Epoch ∧ (s.Acks.getD (m - 1).toNat 0 < s'.Acks.getD (m - 1).toNat 0 → y.Buf = [])) ∧ (∀ j, j ≠ (m - 1).toNat → s'.Acks.getD j 0 = s.Acks.getD j 0) ∧
      (y.PC = 2 ∨ ((y.PC = 1 ∨ y.PC = 3) ∧ y.Ret = 2) → s'.Acks.getD (m - 1).toNat 0 ≤ y.Want ∧ y.Want ≤ s.Epoch) ∧ (y.PC = 2 → y.Buf = []) := by
  obtain ⟨a1, a2, a3⟩ := A.m _ _ hx
  have X := E.X _ _ hx
  rw [show (((m - 1).toNat : Nat) : Int) + 1 = m by omega] at X
  have hal := E.al
  have same : ∀ {s' : zc} {y : zb}, s'.Acks = s.Acks → (y.PC = 2 ∨ ((y.PC = 1 ∨ y.PC = 3) ∧ y.Ret = 2) → s.Acks.getD (m - 1).toNat 0 ≤ y.Want ∧ y.Want ≤ s.Epoch) → (y.PC = 2 → y.Buf = []) →
      (s.Acks.getD (m - 1).toNat 0 ≤ s'.Acks.getD (m - 1).toNat 0 ∧ s'.Acks.getD (m - 1).toNat 0 ≤ s.Epoch ∧ (s.Acks.getD (m - 1).toNat 0 < s'.Acks.getD (m - 1).toNat 0 → y.Buf = [])) ∧ (∀ j, j ≠ (m - 1).toNat → s'.Acks.getD j 0 = s.Acks.getD j 0) ∧
      (y.PC = 2 ∨ ((y.PC = 1 ∨ y.PC = 3) ∧ y.Ret = 2) → s'.Acks.getD (m - 1).toNat 0 ≤ y.Want ∧ y.Want ≤ s.Epoch) ∧ (y.PC = 2 → y.Buf = []) := fun e h1 h2 => by
    rw [e]; exact ⟨⟨Int.le_refl _, a1, fun e => by omega⟩, fun _ _ => rfl, h1, h2⟩
  have far : ∀ {s' : zc} {y : zb}, s'.Acks = s.Acks → (y.PC = 0 ∨ 10 ≤ y.PC) → _ := fun {s' y} e h => same (s' := s') (y := y) e (fun e => by omega) (fun e => by omega)
  have gacks : ∀ g : zC, (zG s g).1.Acks = s.Acks := fun g => by
    obtain ⟨m, b, t, wk, f, e, _⟩ := Wv s g
    rw [e]
  refine uN (motive := fun r => (s.Acks.getD (m - 1).toNat 0 ≤ r.1.Acks.getD (m - 1).toNat 0 ∧ r.1.Acks.getD (m - 1).toNat 0 ≤ s.Epoch ∧ (s.Acks.getD (m - 1).toNat 0 < r.1.Acks.getD (m - 1).toNat 0 → r.2.Buf = [])) ∧ (∀ j, j ≠ (m - 1).toNat → r.1.Acks.getD j 0 = s.Acks.getD j 0) ∧
      (r.2.PC = 2 ∨ ((r.2.PC = 1 ∨ r.2.PC = 3) ∧ r.2.Ret = 2) → r.1.Acks.getD (m - 1).toNat 0 ≤ r.2.Want ∧ r.2.Want ≤ s.Epoch) ∧ (r.2.PC = 2 → r.2.Buf = [])) s m x ?_ ?_ ?_ ?_ ?_ ?_ ?_ ?_ ?_ ?_ ?_ ?_ ?_ ?_ ?_ ?_ ?_ ?_ ?_ ?_
  · intro c
    unfold mu0 za1
    split
    · rename_i hlt
      exact same rfl (fun _ => ⟨Int.le_of_lt hlt, Int.le_refl _⟩) (fun e => by cases e)
    split
    · exact far rfl (.inl c)
    split
    · exact far rfl (.inr (by show (10 : Int) ≤ 10; decide))
    split
    · exact far rfl (.inr (by show (10 : Int) ≤ 20; decide))
    split
    · exact far rfl (.inr (by show (10 : Int) ≤ 30; decide))
    split <;> exact far rfl (.inl rfl)
  · intro c
    unfold mu1
    split
    · rename_i hb
      have hb : x.Buf = [] := List.eq_nil_of_length_eq_zero hb
      refine same rfl (fun e => ?_) (fun _ => hb)
      have e : x.Ret = 2 ∨ ((x.Ret = 1 ∨ x.Ret = 3) ∧ x.Ret = 2) := e
      exact a2 (.inr ⟨.inl c, by omega⟩)
    · refine same rfl (fun e => a2 (.inr ⟨.inl c, ?_⟩)) (fun e => by cases e)
      rcases e with e | e
      · cases e
      · exact e.2
  · intro c
    have hlt : (m - 1).toNat < s.Acks.length := by omega
    obtain ⟨b1, b2⟩ := a2 (.inl c)
    unfold mu2
    have e0 : (s.Acks.set (m - 1).toNat x.Want).getD (m - 1).toNat 0 = x.Want := by rw [zqd hlt, if_pos rfl]
    refine ⟨⟨by dsimp only; rw [e0]; exact b1, by dsimp only; rw [e0]; exact b2, fun _ => a3 c⟩, fun j hj => ?_, fun (e : (0 : Int) = 2 ∨ (((0 : Int) = 1 ∨ (0 : Int) = 3) ∧ x.Ret = 2)) => by omega, fun (e : (0 : Int) = 2) => by omega⟩
    dsimp only
    rw [zqd hlt, if_neg (fun e => hj e.symm)]
  · intro c
    unfold mu3
    dsimp only
    split
    · refine same (gacks _) (fun e => a2 (.inr ⟨.inr c, ?_⟩)) (fun e => by cases e)
      rcases e with e | e
      · cases e
      · exact e.2
    · refine same (gacks _) (fun e => a2 ?_) (fun e => by have e : x.PC = 2 := e; omega)
      rcases e with e | e
      · exact .inl e
      · exact .inr e
  · exact fun c => far rfl (.inl rfl)
  · intro c
    unfold ziS
    split
    · exact far rfl (.inl rfl)
    · exact far rfl (.inr (by show (10 : Int) ≤ 21; decide))
  · intro c
    unfold zje
    split
    · exact far rfl (.inr (by show (10 : Int) ≤ 23; decide))
    · exact far rfl (.inr (by show (10 : Int) ≤ 22; decide))
  · intro c
    unfold ziT
    split
    · refine same rfl (fun e => ?_) (fun e => by cases e)
      rcases e with e | ⟨_, e⟩ <;> cases e
    · exact far rfl (.inr (by show (10 : Int) ≤ 23; decide))
  · exact fun c => far rfl (.inl rfl)
  · intro c
    unfold zfA
    split
    · split
      · exact far rfl (.inl rfl)
      · exact far rfl (.inl rfl)
    · exact far rfl (.inr (by show (10 : Int) ≤ 31; decide))
  · intro c
    unfold zjh
    dsimp only
    split
    · exact far rfl (.inr (by show (10 : Int) ≤ 32; decide))
    · exact far rfl (.inl rfl)
  · intro c
    unfold ziY
    dsimp only
    split
    · exact far rfl (.inr (by show (10 : Int) ≤ 33; decide))
    split
    · exact far rfl (.inl rfl)
    · exact far rfl (.inr (by show 10 ≤ x.PC; omega))
  · exact fun c => far rfl (.inr (by show (10 : Int) ≤ 34; decide))
  · intro c
    unfold ziB
    dsimp only
    split
    · exact far rfl (.inr (by show (10 : Int) ≤ 35; decide))
    · exact far rfl (.inr (by show 10 ≤ x.PC; omega))
  · intro c
    unfold zjj
    dsimp only
    split
    · exact far rfl (.inl rfl)
    · exact far rfl (.inr (by show (10 : Int) ≤ 36; decide))
  · intro c
    unfold zi0
    dsimp only
    split
    · exact far rfl (.inr (by show 10 ≤ onM s (wc (x.Slot + 1)); rcases zn0 s (wc (x.Slot + 1)) with e | e <;> rw [e] <;> decide))
    · exact far rfl (.inr (by show (10 : Int) ≤ 37; decide))
  · intro c
    unfold zke
    dsimp only
    split
    · exact far (gacks _) (.inr (by show 10 ≤ onM s x.Slot; rcases zn0 s x.Slot with e | e <;> rw [e] <;> decide))
    · exact far (gacks _) (.inr (by show 10 ≤ x.PC; omega))
  · exact fun c => far rfl (.inr (by show (10 : Int) ≤ 39; decide))
  · exact fun c => far rfl (.inr (by show (10 : Int) ≤ 35; decide))
  · exact same rfl a2 a3
theorem zxo {p : zd} {nb : Nat} {k : Int} {s : zc} (hp : z8 p) (E : EOk p nb s) (hk : k < 1000000) (A : AI k s) (j : Int) : AI (k + 1) (znr s j) ∧ zs8 s (znr s j) := by
  unfold znr
  split
  · -- the detector
    have up : ∀ s' : zc, s'.Epoch = s.Epoch + 1 → s'.Ms = s.Ms → s'.Acks = s.Acks → AI (k + 1) s' ∧ zs8 s s' := fun s' e1 e2 e3 => by
      have := A.ep
      refine ⟨⟨by omega, fun i x hx => ?_⟩, fun i x hx => ?_⟩
      · rw [e2] at hx
        obtain ⟨b1, b2, b3⟩ := A.m i x hx
        rw [e3, e1]
        exact ⟨by omega, fun e => by have := b2 e; omega, b3⟩
      · rw [e2] at hx
        have := (A.m i x hx).1
        rw [e3, e1]
        exact ⟨Int.le_refl _, by omega, fun e => by omega⟩
    have he := A.ep
    unfold zk4
    split
    · exact A.same rfl rfl rfl
    split
    · exact A.same rfl rfl rfl
    split
    · split <;> exact A.same rfl rfl rfl
    split
    · exact up _ (YF (by omega) (by omega)) rfl rfl
    split
    · split <;> exact A.same rfl rfl rfl
    split
    · split <;> exact A.same rfl rfl rfl
    split
    · split <;> exact A.same rfl rfl rfl
    split <;> exact A.same rfl rfl rfl
  split
  · rw [zl0 E]
    exact A.same rfl rfl rfl
  · generalize j - (s.Ws.length : Int) = m
    unfold zN
    split
    · exact A.same rfl rfl rfl
    rename_i hc
    cases hx : s.Ms[(m - 1).toNat]? with
    | none => exact A.same rfl rfl rfl
    | some x =>
      have hm : 1 ≤ m ∧ m ≤ (s.Ms.length : Int) := by
        constructor
        · exact Int.not_lt.1 (fun e => hc (.inr (.inl e)))
        · exact Int.not_lt.1 (fun e => hc (.inr (.inr e)))
      obtain ⟨b1, b2, b3, b4⟩ := zwJ hp E A hm hx
      have hE : (zJ s m x).1.Epoch = s.Epoch := by rw [zpx]
      have he := A.ep
      have hl := (List.getElem?_eq_some_iff.1 hx).1
      refine ⟨⟨by show 0 ≤ (zJ s m x).1.Epoch ∧ _; rw [hE]; omega, fun i y hy => ?_⟩, fun i y hy => ?_⟩
      · show (zJ s m x).1.Acks.getD i 0 ≤ (zJ s m x).1.Epoch ∧ (_ → (zJ s m x).1.Acks.getD i 0 ≤ y.Want ∧ y.Want ≤ (zJ s m x).1.Epoch) ∧ _
        rw [hE]
        have hy : (s.Ms.set (m - 1).toNat (zJ s m x).2)[i]? = some y := hy
        by_cases hi : i = (m - 1).toNat
        · subst hi
          rw [List.getElem?_set_self hl] at hy
          injection hy with hy
          subst hy
          exact ⟨b1.2.1, b3, b4⟩
        · rw [List.getElem?_set_ne (fun e => hi e.symm)] at hy
          rw [b2 i hi]
          exact A.m i y hy
      · show s.Acks.getD i 0 ≤ (zJ s m x).1.Acks.getD i 0 ∧ (zJ s m x).1.Acks.getD i 0 ≤ (zJ s m x).1.Epoch ∧ _
        rw [hE]
        have hy : (s.Ms.set (m - 1).toNat (zJ s m x).2)[i]? = some y := hy
        by_cases hi : i = (m - 1).toNat
        · subst hi
          rw [List.getElem?_set_self hl] at hy
          injection hy with hy
          subst hy
          exact b1
        · rw [List.getElem?_set_ne (fun e => hi e.symm)] at hy
          show _ ∧ _ ∧ (s.Acks.getD i 0 < (zJ s m x).1.Acks.getD i 0 → _)
          rw [b2 i hi]
          exact ⟨Int.le_refl _, (A.m i y hy).1, fun e => by omega⟩
theorem zxs (p : zd) : AI 0 (vy p) := by
  refine ⟨⟨Int.le_refl _, Int.le_refl _⟩, fun i x hx => ?_⟩
  have e : (vy p).Acks.getD i 0 = 0 := by
    show (List.replicate p.Mutators.toNat (0 : Int)).getD i 0 = 0
    rw [List.getD_eq_getElem?_getD, List.getElem?_replicate]; split <;> rfl
  have hx : (p.Regs.map vf)[i]? = some x := hx
  rw [List.getElem?_map] at hx
  cases hr : p.Regs[i]? with
  | none => rw [hr] at hx; cases hx
  | some r =>
    rw [hr] at hx
    injection hx with hx
    subst hx
    rw [e]
    refine ⟨Int.le_refl _, fun e => ?_, fun e => ?_⟩
    · simp [vf] at e
    · simp [vf] at e
end
end Go.Pe.G
namespace Go.Pe.G
open Go.Pe
noncomputable section
theorem zqU {v : Int} (h : 0 ≤ v ∧ v < 10) : zp7 v = some (⟨#[UInt8.ofNat (48 + v.toNat)]⟩, ()) := by
  have e : (decide (0 ≤ v) && decide (v < 100)) = true := by simp; omega
  rw [zuV]; unfold znb
  rw [e, cond_true, Go.Lib.decDigits, dif_pos (by omega)]
theorem join_one (x : ByteArray) (hx : x.data.toList.length < 1000) (sep : ByteArray) : ztj [x] sep = some (x, ()) := by
  rw [zuy]; unfold znJ
  simp only [List.map_cons, List.map_nil, Go.Lib.join_one, List.length_cons, List.length_nil]
  have e : (decide (0 + 1 ≤ 140737488355328) && decide (x.data.toList.length ≤ 140737488355328)) = true := by simp; simp at hx; omega
  rw [e, cond_true]
def zsg (a : ByteArray) (o : List Int) : ByteArray := a ++ (ByteArray.mk #[124] ++ ⟨#[UInt8.ofNat (48 + (o.getD 0 0).toNat)]⟩)
theorem zry {A B D : Type} {f : A → Option (xf A B D)} {x y : A} {b : B} (h1 : f x = some (.again y)) (h : f y = some (.brk b)) : yD f x = some (.brk b) := by
  rw [VF]
  show uk f (18446744073709551614 + 1 + 1) x = _
  rw [uk, h1, Option.bind_some]
  dsimp only
  rw [uk, h]; rfl
theorem zph (objs : List (List Int)) (hv : ∀ o ∈ objs, ∃ v : Int, o = [v] ∧ 0 ≤ v ∧ v < 10) (hl : objs.length < 1000) : ∀ (k i : Nat) (a : ByteArray), objs.length - i = k → i ≤ objs.length → a.size + 2 * k ≤ 4000 → ∀ m, k < m →
    uk zch m (a, objs, (objs.length : Int), (i : Int), ()) = some (.brk ((objs.drop i).foldl zsg a, ()))
  | 0, i, a, hk, hi, ha, m + 1, hm => by
    rw [uk, zdO, zm, if_neg (by omega), List.drop_eq_nil_of_le (by omega)]; rfl
  | k + 1, i, a, hk, hi, ha, m + 1, hm => by
    have hx := List.getElem?_eq_getElem (show i < objs.length by omega)
    obtain ⟨v, hvo, h0, h9⟩ := hv _ (List.getElem_mem (show i < objs.length by omega))
    rw [uk, zdO, zm, if_pos (by omega), xu hx, Option.bind_some, hvo]
    rw [zry (f := zbJ) (y := (a, objs, (objs.length : Int), (i : Int), [v], (([v] : List Int).length : Int), 1, [⟨#[UInt8.ofNat (48 + v.toNat)]⟩], ()))
      (b := (a, objs, (objs.length : Int), (i : Int), [⟨#[UInt8.ofNat (48 + v.toNat)]⟩], ()))
      (by rw [zdQ, zm, if_pos (by simp), wS (by decide)]
          simp only [Int.toNat_zero, List.getElem?_cons_zero, Option.bind_some, zqU ⟨h0, h9⟩, List.nil_append]
          rw [wn (by simp), Option.bind_some, yh (by decide) (by decide)]; rfl)
      (by rw [zdQ, zm, if_neg (by simp)]), Option.bind_some]
    dsimp only
    rw [join_one _ (by simp), Option.bind_some]
    dsimp only
    have s1 : (ByteArray.mk #[124] ++ ⟨#[UInt8.ofNat (48 + v.toNat)]⟩ : ByteArray).size = 2 := by rw [ByteArray.size_append]; rfl
    have s0 : (ByteArray.mk #[124]).size + (⟨#[UInt8.ofNat (48 + v.toNat)]⟩ : ByteArray).size = 2 := rfl
    have s2 : (a ++ (ByteArray.mk #[124] ++ ⟨#[UInt8.ofNat (48 + v.toNat)]⟩) : ByteArray).size = a.size + 2 := by rw [ByteArray.size_append, s1]
    rw [zm, if_pos (by rw [s0]; omega), zm, if_pos (by rw [s1]; omega), yS (by omega), Option.bind_some]
    dsimp only
    rw [List.drop_eq_getElem_cons (show i < objs.length by omega), List.foldl_cons]
    rw [zph objs hv hl k (i + 1) _ (by omega) (by omega) (by rw [s2]; omega) m (by omega), hvo]
    rfl
def zsB (h : zu) : Bool := decide (h.Slots = 1) && decide (h.Objs.length < 10) && h.Objs.all fun o => match o with
  | [v] => decide (0 ≤ v) && decide (v ≤ (h.Objs.length : Int))
  | _ => false
theorem zkv {h : zu} (hh : zsB h = true) : Uv h = some (h.Objs.foldl zsg (ByteArray.mk #[49]), ()) := by
  simp only [zsB, Bool.and_eq_true, decide_eq_true_eq, List.all_eq_true] at hh
  obtain ⟨⟨h1, h2⟩, h3⟩ := hh
  have h4 : ∀ o ∈ h.Objs, ∃ v : Int, o = [v] ∧ 0 ≤ v ∧ v ≤ (h.Objs.length : Int) := fun o ho => by
    have := h3 o ho
    match o, this with
    | [v], this => simp at this; exact ⟨v, rfl, this⟩
  rw [zos, zjs (by omega) (by omega) (fun o ho => by
    obtain ⟨v, rfl, hv⟩ := h4 o ho
    exact ⟨by rw [h1]; rfl, fun u hu => by simp at hu; subst hu; exact hv⟩), Option.bind_some]
  dsimp only
  rw [Bool.not_true, cond_false, h1, zqU (by decide), Option.bind_some]
  dsimp only
  have e := zph h.Objs (fun o ho => by obtain ⟨v, a, b⟩ := h4 o ho; exact ⟨v, a, by omega⟩) (by omega) h.Objs.length 0 (ByteArray.mk #[49]) (by omega) (by omega) (by show 1 + _ ≤ _; omega) Yj (by unfold Yj; omega)
  rw [VF]
  refine (congrArg (fun o => Option.bind o _) e).trans rfl
end
end Go.Pe.G
namespace Go.Pe.G
open Go.Pe
noncomputable section
theorem zuf {a b : List Int} (h : a.length < 1000000) : ∃ t, zV a b = some (t, ()) := by
  rw [WO, zZ]
  by_cases c : (a.length : Int) = (b.length : Int)
  · rw [if_pos c]
    obtain ⟨o, e, ho⟩ := vw (f := ZG) (fun x => ∃ i : Nat, i ≤ a.length ∧ x = (a, b, (a.length : Int), (i : Int), ())) (fun x => a.length - Int.toNat x.2.2.2.1)
      (fun o => match o with | .again _ => False | _ => True) (by
      rintro _ ⟨i, hi, rfl⟩
      rw [uS, zm]
      by_cases c1 : (i : Int) < (a.length : Int)
      · have h1 := List.getElem?_eq_getElem (show i < a.length by omega)
        have h2 := List.getElem?_eq_getElem (show i < b.length by omega)
        rw [if_pos c1, xu h1, Option.bind_some, xu h2, Option.bind_some, zZ]
        split
        · rw [yS (by omega)]
          refine ⟨_, rfl, ⟨i + 1, by omega, rfl⟩, ?_⟩
          show a.length - ((i + 1 : Nat) : Int).toNat < a.length - (i : Int).toNat
          omega
        · exact ⟨_, rfl, trivial⟩
      · rw [if_neg c1]; exact ⟨_, rfl, trivial⟩) (a, b, (a.length : Int), 0, ()) ⟨0, by omega, rfl⟩ (by show a.length - 0 < 18446744073709551616; omega)
    rw [e]
    cases o with
    | again x => exact ho.elim
    | brk x => exact ⟨_, rfl⟩
    | ret x => exact ⟨_, rfl⟩
  · rw [if_neg c]; exact ⟨_, rfl⟩
theorem ztU {a b : List (List Int)} (h : a.length < 1000000) (ha : ∀ x ∈ a, x.length < 1000000) : ∃ t, zp a b = some (t, ()) := by
  rw [yY, zZ]
  by_cases c : (a.length : Int) = (b.length : Int)
  · rw [if_pos c]
    obtain ⟨o, e, ho⟩ := vw (f := yA) (fun x => ∃ i : Nat, i ≤ a.length ∧ x = (b, a, (a.length : Int), (i : Int), ())) (fun x => a.length - Int.toNat x.2.2.2.1)
      (fun o => match o with | .again _ => False | _ => True) (by
      rintro _ ⟨i, hi, rfl⟩
      rw [yv, zm]
      by_cases c1 : (i : Int) < (a.length : Int)
      · have h1 := List.getElem?_eq_getElem (show i < a.length by omega)
        have h2 := List.getElem?_eq_getElem (show i < b.length by omega)
        obtain ⟨t, ht⟩ := zuf (b := b[i]'(by omega)) (ha _ (List.getElem_mem (show i < a.length by omega)))
        rw [if_pos c1, xu h1, Option.bind_some, xu h2, Option.bind_some, ht, Option.bind_some]
        cases t with
        | true =>
          rw [Bool.not_true, cond_false, yS (by omega)]
          refine ⟨_, rfl, ⟨i + 1, by omega, rfl⟩, ?_⟩
          show a.length - ((i + 1 : Nat) : Int).toNat < a.length - (i : Int).toNat
          omega
        | false => exact ⟨_, rfl, trivial⟩
      · rw [if_neg c1]; exact ⟨_, rfl, trivial⟩) (b, a, (a.length : Int), 0, ()) ⟨0, by omega, rfl⟩ (by show a.length - 0 < 18446744073709551616; omega)
    rw [e]
    cases o with
    | again x => exact ho.elim
    | brk x => exact ⟨_, rfl⟩
    | ret x => exact ⟨_, rfl⟩
  · rw [if_neg c]; exact ⟨_, rfl⟩
theorem zug {a : zu} (b : zu) (h : a.Objs.length < 1000000) (ha : ∀ x ∈ a.Objs, x.length < 1000000) : ∃ t, xW a b = some (t, ()) := by
  rw [zhJ, zm]
  split
  · obtain ⟨t, ht⟩ := ztU (b := b.Objs) h ha
    rw [ht]; exact ⟨_, rfl⟩
  · exact ⟨_, rfl⟩
end
end Go.Pe.G
namespace Go.Pe.G
open Go.Pe
noncomputable section
namespace B16
def Vs (n : Nat) (s : zc) : zc := goF (fun _ s => zN s 1) 0 n s
theorem U0 {p : zd} {nb : Nat} (h : z8 p) {s : zc} (E : EOk p nb s) {n : Nat} (hn : n < 1000000) : yj s 1 (n : Int) = some (Vs n s, ()) := by
  have e := zvY (f := vV) (fun i s => (1, (n : Int), i, s, 0, 0, 0, 0, 0, 0, 0, 0, 0, 0#64, 0, zr.mk 0#64 0#64, 0, 0, false, false, 0, 0, 0, 0, zq.mk 0 0, ([] : List (List Int)), ([] : List (List Int)), ([] : List (List zg)), ([] : List zi), ([] : List (List Int)), ([] : List (BitVec 64)), ([] : List (List Int)), ([] : List Int), ([] : List Int), ([] : List zj), ([] : List zb), ())) (fun s => (s, 0, 0, 0, 0, 0, 0, 0, 0, 0, 0#64, 0, zr.mk 0#64 0#64, 0, 0, false, false, 0, 0, 0, 0, zq.mk 0 0, ([] : List (List Int)), ([] : List (List Int)), ([] : List (List zg)), ([] : List zi), ([] : List (List Int)), ([] : List (BitVec 64)), ([] : List (List Int)), ([] : List Int), ([] : List Int), ([] : List zj), ([] : List zb), ())) n hn (fun _ s => zN s 1) (EOk p nb) (fun _ s E => zgw h E 1)
    (fun i s hi E => by
      show vV (1, (n : Int), (i : Int), s, 0, 0, 0, 0, 0, 0, 0, 0, 0, 0#64, 0, zr.mk 0#64 0#64, 0, 0, false, false, 0, 0, 0, 0, zq.mk 0 0, ([] : List (List Int)), ([] : List (List Int)), ([] : List (List zg)), ([] : List zi), ([] : List (List Int)), ([] : List (BitVec 64)), ([] : List (List Int)), ([] : List Int), ([] : List Int), ([] : List zj), ([] : List zb), ()) = _
      rw [VC, zm, if_pos (by omega), zeM h E, Option.bind_some, yS (by omega)])
    (fun s E => by
      show vV (1, (n : Int), (n : Int), s, 0, 0, 0, 0, 0, 0, 0, 0, 0, 0#64, 0, zr.mk 0#64 0#64, 0, 0, false, false, 0, 0, 0, 0, zq.mk 0 0, ([] : List (List Int)), ([] : List (List Int)), ([] : List (List zg)), ([] : List zi), ([] : List (List Int)), ([] : List (BitVec 64)), ([] : List (List Int)), ([] : List Int), ([] : List Int), ([] : List zj), ([] : List zb), ()) = _
      rw [VC, zm, if_neg (by omega)]) E
  rw [zh8]
  exact congrArg (fun o => Option.bind o _) e
theorem zwv {p : zd} {nb : Nat} (h : z8 p) {s : zc} (E : EOk p nb s) (n : Nat) : EOk p nb (Vs n s) := zpt (Inv := EOk p nb) (g := fun _ s => zN s 1) (fun _ s E => zgw h E 1) n 0 s E
def ziF (l : List zg) : zd := ⟨1, 1, 2, 1, 1, 4, 2, 2, ⟨1, [[2], [0], [0]]⟩, 1#64, [[1, 0]], [l], []⟩
theorem zqR (l : List zg) : Xc [l] = some (ziF l, ()) := by
  rw [zh1, zry (by rw [Vx, zm, if_pos (by simp), wn (by simp), Option.bind_some, wS (by decide)]; simp only [Int.toNat_zero, List.getElem?_cons_zero, Option.bind_some]; rw [wn (by simp), Option.bind_some, yh (by decide) (by decide)]) (by rw [Vx, zm, if_neg (by simp)])]; rfl
theorem zpp {l : List zg} (hl : (l.length : Int) ≤ 7) (ho : ∀ o ∈ l, za9 o 2 1) : z8 (ziF l) := by
  constructor
  case objs => intro o ho; simp [ziF] at ho ⊢; rcases ho with rfl | rfl | rfl <;> simp
  case roots => exact ⟨1, by decide, by simp [ziF], by show (1#64 : BitVec 64) = bit 1; decide⟩
  case reg => intro r hr; simp [ziF] at hr ⊢; subst hr; simp
  case prog =>
    intro k r ops hr hp
    cases k with
    | zero => injection hr with hr; injection hp with hp; subst hr; subst hp; exact ⟨hl, ho⟩
    | succ k => cases hp
  all_goals first | rfl | (simp [ziF]; done) | (simp [ziF]; omega)
abbrev pA : zd := ziF [⟨1, 1, 0, 0⟩, ⟨5, 1, 0, 0⟩, ⟨2, 1, 0, 0⟩]
abbrev pB : zd := ziF [⟨3, 1, 0, 0⟩, ⟨3, 1, 0, 0⟩]
theorem zao : z8 pA := zpp (by decide) (fun o ho => by simp at ho; rcases ho with rfl | rfl | rfl <;> (unfold za9; decide))
theorem zhK : z8 pB := zpp (by decide) (fun o ho => by simp at ho; subst ho; unfold za9; decide)
theorem zt6 {s : zc} (x : zb) (hx : s.Ms = [x]) (hp : x.PC = 0) (ha : ¬ s.Acks.getD 0 0 < s.Epoch) (hi : ((xY s.P 1).length : Int) ≤ x.IP) : zN s 1 = s := by
  unfold zN
  rw [hx]
  split
  · rfl
  show { (zJ s 1 x).1 with Ms := [(zJ s 1 x).2] } = s
  have e : zJ s 1 x = (s, x) := by
    unfold zJ
    rw [if_pos hp]
    unfold mu0 za1
    rw [if_neg (show ¬ s.Acks.getD (1 - 1 : Int).toNat 0 < s.Epoch from ha), if_pos hi]
  rw [e, ← hx]
theorem zwb {l : List zb} (h : l.length = 1) : ∃ x, l = [x] := List.length_eq_one_iff.1 h
theorem zpY : Wg = some (true, ()) := by
  have E0 := zqM zao
  have E1 := zqM zhK
  have a2 : yj (vy pA) 1 2 = some (Vs 2 (vy pA), ()) := U0 zao E0 (n := 2) (by decide)
  have a7 : yj (vy pA) 1 7 = some (Vs 7 (vy pA), ()) := U0 zao E0 (n := 7) (by decide)
  have a8 : yj (vy pA) 1 8 = some (Vs 8 (vy pA), ()) := U0 zao E0 (n := 8) (by decide)
  have a99 : yj (vy pA) 1 99 = some (Vs 99 (vy pA), ()) := U0 zao E0 (n := 99) (by decide)
  have b2 : yj (vy pB) 1 2 = some (Vs 2 (vy pB), ()) := U0 zhK E1 (n := 2) (by decide)
  have b5 : yj (vy pB) 1 5 = some (Vs 5 (vy pB), ()) := U0 zhK E1 (n := 5) (by decide)
  have b60 : yj (vy pB) 1 60 = some (Vs 60 (vy pB), ()) := U0 zhK E1 (n := 60) (by decide)
  have h99 : zN (Vs 99 (vy pA)) 1 = Vs 99 (vy pA) := by
    obtain ⟨x, hx⟩ := zwb (l := (Vs 99 (vy pA)).Ms) (by decide +kernel)
    have g : (Vs 99 (vy pA)).Ms.all (fun x => decide (x.PC = 0) && decide (((xY (Vs 99 (vy pA)).P 1).length : Int) ≤ x.IP)) = true := by decide +kernel
    rw [hx] at g
    simp only [List.all_cons, List.all_nil, Bool.and_true, Bool.and_eq_true, decide_eq_true_eq] at g
    exact zt6 x hx g.1 (by decide +kernel) g.2
  have E99 := zwv zao E0 99
  have s99 := zeM zao E99 1
  have t7 := zkv (h := (Vs 7 (vy pA)).H) (by decide +kernel)
  have t8 := zkv (h := (Vs 8 (vy pA)).H) (by decide +kernel)
  have u2 := zkv (h := (Vs 2 (vy pB)).H) (by decide +kernel)
  rw [zfe, zqR]
  simp only [Option.bind_some, zqR, zj7 zao, zj7 zhK, a2, a7, a8, a99, b2, b5, b60, t7, t8, u2, s99, h99, zto E99.small, zjH, xm]
  decide +kernel
def kOf (s : zc) (b : BitVec 8) : Int := 1 + (b.toNat : Int).tmod (s.Ms.length : Int)
theorem zup {s : zc} (h : s.Ms.length ≠ 0) (b : BitVec 8) : 1 ≤ kOf s b ∧ kOf s b ≤ (s.Ms.length : Int) := by
  have := wK (b := (b.toNat : Int)) (k := (s.Ms.length : Int)) (by omega) (by omega)
  unfold kOf
  omega
theorem zv0 {p : zd} {nb : Nat} {s : zc} (h : z8 p) (E : EOk p nb s) (hm : s.Ms.length ≠ 0) (b : BitVec 8) : V6 s b = some (zN s (kOf s b), kOf s b, ()) := by
  have hk := zup hm b
  have hml := E.ml
  have hmt := h.mt
  have e : w64 (1 + (b.toNat : Int).tmod (s.Ms.length : Int)) = kOf s b := by
    unfold kOf at hk ⊢
    exact yh (by omega) (by omega)
  rw [zjd, zm, if_neg (by omega), e, zeM h E, Option.bind_some]
theorem zxt (s : zc) (m : Int) : (zN s m).Ms.length = s.Ms.length := by
  unfold zN
  split
  · rfl
  split
  · simp
  · rfl
theorem zxq {s : zc} (h : s.Ms.length = 0) (m : Int) : zN s m = s := by
  unfold zN
  rw [if_pos]
  rw [h]
  by_cases c : m < 1
  · exact .inr (.inl c)
  · exact .inr (.inr (by omega))
theorem zvS (s : zc) (m : Int) (x : zb) : ((zJ s m x).2.Buf.length ≤ x.Buf.length ∨ (x.PC = 22 ∧ (zJ s m x).2.PC = 23 ∧ (zJ s m x).2.Buf = x.Buf ++ [x.Old] ∧ (zJ s m x).2.Old = 0)) ∧
    ((zJ s m x).1.H = s.H ∨ x.PC = 23 ∨ x.PC = 30) := by
  refine uN (motive := fun r => (r.2.Buf.length ≤ x.Buf.length ∨ (x.PC = 22 ∧ r.2.PC = 23 ∧ r.2.Buf = x.Buf ++ [x.Old] ∧ r.2.Old = 0)) ∧ (r.1.H = s.H ∨ x.PC = 23 ∨ x.PC = 30)) s m x ?_ ?_ ?_ ?_ ?_ ?_ ?_ ?_ ?_ ?_ ?_ ?_ ?_ ?_ ?_ ?_ ?_ ?_ ?_ ?_
  · intro c; unfold mu0 za1; refine ⟨.inl ?_, .inl rfl⟩; repeat' split
    all_goals exact Nat.le_refl _
  · intro c; unfold mu1; refine ⟨.inl ?_, .inl rfl⟩; split
    · exact Nat.le_refl _
    · show (x.Buf.take (x.Buf.length - 1)).length ≤ _; simp
  · intro c; unfold mu2; exact ⟨.inl (Nat.le_refl _), .inl rfl⟩
  · intro c; unfold mu3; refine ⟨.inl ?_, .inl (by rw [znn])⟩; dsimp only; split <;> exact Nat.le_refl _
  · intro c; unfold zkC; exact ⟨.inl (Nat.le_refl _), .inl rfl⟩
  · intro c; unfold ziS; refine ⟨.inl ?_, .inl rfl⟩; dsimp only; split <;> exact Nat.le_refl _
  · intro c; unfold zje; refine ⟨.inl ?_, .inl rfl⟩; dsimp only; split <;> exact Nat.le_refl _
  · intro c; unfold ziT; refine ⟨?_, .inl rfl⟩; dsimp only; split
    · exact .inl (Nat.le_refl _)
    · exact .inr ⟨c, rfl, rfl, rfl⟩
  · intro c; unfold zkP; exact ⟨.inl (Nat.le_refl _), .inr (.inl c)⟩
  · intro c; unfold zfA; refine ⟨.inl ?_, .inr (.inr c)⟩; repeat' split
    all_goals exact Nat.le_refl _
  · intro c; unfold zjh; refine ⟨.inl ?_, .inl rfl⟩; dsimp only; split <;> exact Nat.le_refl _
  · intro c; unfold ziY; refine ⟨.inl ?_, .inl rfl⟩; dsimp only; repeat' split
    all_goals exact Nat.le_refl _
  · intro c; unfold zkI; exact ⟨.inl (Nat.le_refl _), .inl rfl⟩
  · intro c; unfold ziB; refine ⟨.inl ?_, .inl rfl⟩; dsimp only; split <;> exact Nat.le_refl _
  · intro c; unfold zjj; refine ⟨.inl ?_, .inl rfl⟩; dsimp only; split <;> exact Nat.le_refl _
  · intro c; unfold zi0; refine ⟨.inl ?_, .inl rfl⟩; dsimp only; split <;> exact Nat.le_refl _
  · intro c; unfold zke; refine ⟨.inl ?_, .inl (by rw [znn])⟩; dsimp only; split <;> exact Nat.le_refl _
  · intro c; unfold zkG; exact ⟨.inl (Nat.le_refl _), .inl rfl⟩
  · intro c; unfold zmv; exact ⟨.inl (Nat.le_refl _), .inl rfl⟩
  · exact ⟨.inl (Nat.le_refl _), .inl rfl⟩
theorem zuW {s : zc} {k : Int} (hk : 1 ≤ k ∧ k ≤ (s.Ms.length : Int)) {x : zb} (hx : s.Ms[(k - 1).toNat]? = some x) : ∃ y, (zN s k).Ms[(k - 1).toNat]? = some y ∧
    (y.Buf.length ≤ x.Buf.length ∨ (x.PC = 22 ∧ y.PC = 23 ∧ y.Buf = x.Buf ++ [x.Old] ∧ y.Old = 0)) ∧ ((zN s k).H = s.H ∨ x.PC = 23 ∨ x.PC = 30) := by
  unfold zN
  split
  · exact ⟨x, hx, .inl (Nat.le_refl _), .inl rfl⟩
  rw [hx]
  dsimp only
  exact ⟨_, List.getElem?_set_self (by omega), zvS s k x⟩
theorem mutatorBuffers_plain (l ord : List (BitVec 8)) : wv l ord = some (true, ()) := by
  obtain ⟨p, ep, h⟩ := zvM l
  have E0 := zqM h
  rw [zbd, zpY]
  simp only [Option.bind_some, Bool.not_true, cond_false, ep, zj7 h]
  obtain ⟨o, e, rfl⟩ := vw (f := uB) (fun a => ∃ (i : Nat) (s : zc), i ≤ 250 ∧ a = (ord, true, (i : Int), p, s, ()) ∧ EOk p (xG p + 1) s) (fun a => 250 - (Int.toNat a.2.2.1))
    (fun o => o = .brk (true, ())) (by
    rintro _ ⟨i, s, hi, rfl, E⟩
    rw [Ug, zm, zm, zm]
    by_cases c1 : (i : Int) < (ord.length : Int)
    · rw [if_pos c1]
      by_cases c2 : (i : Int) < 250
      · rw [if_pos c2]
        by_cases c3 : (0 : Int) < (s.Ms.length : Int)
        · have hx := List.getElem?_eq_getElem (show i < ord.length by omega)
          rw [if_pos c3, xu hx, Option.bind_some, zv0 h E (by omega), Option.bind_some]
          generalize ord[i]'(by omega) = b
          have hk := zup (s := s) (by omega) b
          have hml := E.ml
          have hmt := h.mt
          have hxm := List.getElem?_eq_getElem (show (kOf s b - 1).toNat < s.Ms.length by omega)
          generalize s.Ms[(kOf s b - 1).toNat]'(by omega) = x at hxm
          obtain ⟨y, hy, f1, f2⟩ := zuW hk hxm
          have E' := zgw h E (kOf s b)
          have hyb := (E'.X _ y hy).buf
          have hxb := (E.X _ x hxm).buf
          have hpb := h.buf
          have w1 : w64 (kOf s b - 1) = kOf s b - 1 := yh (by omega) (by omega)
          have w2 : w64 ((x.Buf.length : Int) + 1) = (x.Buf.length : Int) + 1 := yh (by omega) (by omega)
          have w3 : w64 ((i : Int) + 1) = (i : Int) + 1 := yh (by omega) (by omega)
          dsimp only
          rw [w1, w3, wS (by omega), hxm, Option.bind_some, wS (by omega), hy, Option.bind_some, w2]
          have fin : (∃ (j : Nat) (s' : zc), j ≤ 250 ∧ (ord, true, (i : Int) + 1, p, zN s (kOf s b), ()) = (ord, true, (j : Int), p, s', ()) ∧ EOk p (xG p + 1) s') ∧ 250 - ((i : Int) + 1).toNat < 250 - (i : Int).toNat :=
            ⟨⟨i + 1, _, by omega, rfl, E'⟩, by omega⟩
          have heap : (x.PC = 23 ∨ x.PC = 30 ∨ xW s.H (zN s (kOf s b)).H = some (true, ())) ∧ ∃ t, xW s.H (zN s (kOf s b)).H = some (t, ()) := by
            refine ⟨?_, zug _ E.small.objs E.small.obj⟩
            rcases f2 with f2 | f2 | f2
            · exact .inr (.inr (by rw [f2]; exact zj3 E.small.objs E.small.obj))
            · exact .inl f2
            · exact .inr (.inl f2)
          obtain ⟨heap, t, ht⟩ := heap
          simp only [zm, zZ]
          rw [if_neg (by omega)]
          have hh : ∀ {α : Type} (R Z : α), (bif !t then (if x.PC = 23 then R else if x.PC = 30 then R else Z) else R) = R := by
            intro α R Z
            cases t with
            | true => rfl
            | false =>
              rcases heap with e | e | e
              · simp [e]
              · simp [e]
              · rw [ht] at e; cases e
          rcases f1 with f1 | ⟨p1, p2, p3, p4⟩
          · rw [if_neg (by omega), if_neg (by omega), ht, Option.bind_some]
            dsimp only
            rw [hh]
            exact ⟨_, rfl, fin⟩
          · have hlen : y.Buf.length = x.Buf.length + 1 := by rw [p3]; simp
            have w4 : w64 ((y.Buf.length : Int) - 1) = (x.Buf.length : Int) := by rw [yh (by omega) (by omega)]; omega
            have hidx : idx y.Buf (x.Buf.length : Int) = some x.Old := by rw [wS (by omega), p3]; simp
            rw [if_neg (by omega), if_pos (by omega), if_pos p1, if_pos p2, w4, hidx, Option.bind_some, if_pos rfl, if_pos p4, ht, Option.bind_some]
            dsimp only
            rw [hh]
            exact ⟨_, rfl, fin⟩
        · rw [if_neg c3]; exact ⟨_, rfl, rfl⟩
      · rw [if_neg c2]; exact ⟨_, rfl, rfl⟩
    · rw [if_neg c1]; exact ⟨_, rfl, rfl⟩) (ord, true, 0, p, vy p, ()) ⟨0, vy p, by omega, rfl, E0⟩ (by show 250 - 0 < 18446744073709551616; decide)
  refine (congrArg (fun o => Option.bind o _) e).trans rfl
end B16
end
end Go.Pe.G
